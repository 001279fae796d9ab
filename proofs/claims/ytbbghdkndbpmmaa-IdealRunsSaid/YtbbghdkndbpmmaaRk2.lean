/- Part 2 of 5 of what the claim needs: U, Px, Pg, Str, CdS, CdL, In, Io, Ir, Cd, CdJ, CdK, CdM, CdN, CdO, CdP. -/
import Derived.Test.YtbbghdkndbpmmaaRk1
import Derived.LoopN
import Derived.Laws.Pointers
import Derived.Recover
import Derived.Laws.Strings
import Derived.Laws.StructEq
import Derived.Laws.Small
namespace Go.Proofs.Ytbbghdkndbpmmaa
namespace X
open Go
variable {P : Program} {N : Nat} {ρ : Env} {σ : PH} {Γ Γ' : List HP} {K : KA}
/-- A loop of n rounds at most. -/
structure XAR (P : Program) (N n : Nat) (c : Code) (ρ : Env) (σ : PH) (Γ : List HP) (K : KA) : Prop where
  out : ∀ f h, Holds σ Γ f h → ∀ (w0 : World) (a : Act) (w : World), Same w0 w → w.heap = h → EnvOf N a ρ → Code.rounds P c (Post w0 a.defers N (KF f K)) n a w
theorem XA.unroll {c : Code} (n : Nat) (hx : XAR P N n c ρ σ Γ K) : XA P N (.loop c) ρ σ Γ K := ⟨fun f h hh => ⟨fun w0 a w hs hw he => wp_loop_rounds n (hx.out f h hh w0 a w hs hw he)⟩⟩
theorem XAR.succ {n : Nat} {c : Code} (hx : XA P N c ρ σ Γ (thnA (fun ρ σ Γ => XAR P N n c ρ σ Γ K) K)) : XAR P N (n + 1) c ρ σ Γ K := by
  refine ⟨fun f h hh w0 a w hs hw he => ?_⟩
  refine wp_mono ((hx.out f h hh).out w0 a w hs hw he) ?_
  rintro e a' w' ⟨h1, h2, ρ', h3, σ', Γ', hk, hh'⟩
  cases e with
  | normal => have := hk.out f w'.heap hh' w0 a' w' h2 rfl h3; rw [h1] at this; exact this
  | _ => exact ⟨h1, h2, ρ', h3, σ', Γ', hk, hh'⟩
theorem ResA.five {fn : Func} {t1 t2 t3 t4 t5 : Tmp} {v1 v2 v3 v4 v5 : Value} (hf : fn.results = #[.tmp t1, .tmp t2, .tmp t3, .tmp t4, .tmp t5]) (h1 : ρ t1 = v1) (h2 : ρ t2 = v2) (h3 : ρ t3 = v3) (h4 : ρ t4 = v4) (h5 : ρ t5 = v5) : ResA P fn ρ σ Γ (.tuple #[v1, v2, v3, v4, v5]) := fun _ _ w a _ he => by
  have k1 := he.get t1; have k2 := he.get t2; have k3 := he.get t3; have k4 := he.get t4; have k5 := he.get t5
  simp [results, hf]; rw [← h1, ← h2, ← h3, ← h4, ← h5]; simp at k1 k2 k3 k4 k5; simp [k1, k2, k3, k4, k5]
/-- Numbers that stay for ever. -/
def PInts (σ : PH) (v : Value) (xs : List Int) : Prop := ∃ (p : Option Addr) (c : Nat), v = .slice p xs.length c ∧ xs.length ≤ c ∧ c ≤ maxLen ∧ (0 < xs.length → ∃ g o, p = some ⟨g, o, none⟩ ∧ PRow σ g o (ints xs))
theorem PInts.mono {σ' : PH} (s : σ.sub σ') {v : Value} {xs : List Int} (h : PInts σ v xs) : PInts σ' v xs := by
  obtain ⟨p, c, h1, h2, h3, h4⟩ := h
  exact ⟨p, c, h1, h2, h3, fun hp => by obtain ⟨g, o, e, r⟩ := h4 hp; exact ⟨g, o, e, r.mono s⟩⟩
theorem PInts.nil (σ : PH) : PInts σ (.slice none 0 0) [] := ⟨none, 0, rfl, Nat.le_refl _, by simp [maxLen], by simp⟩
theorem PInts.at {p : Option Addr} {n c : Nat} {xs : List Int} (h : PInts σ (.slice p n c) xs) {k : Nat} {x : Int} (hk : xs[k]? = some x) : ∃ g o, p = some ⟨g, o, none⟩ ∧ PRow σ g (o + k * 1) [i64 x] := by
  obtain ⟨p', c', h1, h2, h3, h4⟩ := h
  simp only [Value.slice.injEq] at h1
  obtain ⟨rfl, rfl, rfl⟩ := h1
  have hlt := (List.getElem?_eq_some_iff.1 hk).1
  obtain ⟨g, o, rfl, hr⟩ := h4 (by omega)
  refine ⟨g, o, rfl, ?_⟩
  rw [Nat.mul_one]
  refine hr.sub (j := k) ?_
  obtain ⟨h5, h6⟩ := List.getElem?_eq_some_iff.1 hk
  have : (ints xs).drop k = i64 x :: (ints xs).drop (k + 1) := by
    rw [List.drop_eq_getElem_cons (by simpa using h5)]; simp [ints, h6]
  rw [this]; rfl
theorem PInts.tail {p : Option Addr} {n c : Nat} {x : Int} {xs : List Int} (h : PInts σ (.slice p n c) (x :: xs)) : PInts σ (.slice (if c = 1 then p else p.map (·.add (1 * 1))) (n - 1) (c - 1)) xs := by
  obtain ⟨p', c', h1, h2, h3, h4⟩ := h
  simp only [Value.slice.injEq, List.length_cons] at h1 h2 h4
  obtain ⟨rfl, rfl, rfl⟩ := h1
  refine ⟨_, _, by rw [Nat.add_sub_cancel], by omega, by omega, fun hp => ?_⟩
  obtain ⟨g, o, rfl, hr⟩ := h4 (by omega)
  rw [if_neg (by omega)]
  exact ⟨g, o + 1, by simp [addr_add], hr.sub (j := 1) (by simp [ints]; rw [List.take_of_length_le (by simp)])⟩
theorem PInts.shape {v : Value} {xs : List Int} (h : PInts σ v xs) : ∃ p c, v = .slice p xs.length c ∧ xs.length ≤ c ∧ c ≤ maxLen := by
  obtain ⟨p, c, h1, h2, h3, h4⟩ := h; exact ⟨p, c, h1, h2, h3⟩
theorem Rd.sliceTail {S : Heap → Prop} {ty : TypeId} {T : TypeId} {x y : Operand} {r re : Ty} {e len cap : Nat} {a : Option Addr} {kk : IntKind} (hT : tyOf P T = some r) (hk : r.k = .slice e) (hE : tyOf P e = some re) (hs1 : re.size = 1) (hx : ev ρ x = .slice a len cap) (hy : ev ρ y = .int kk 1) (hl : 1 ≤ len) : Rd P ρ S (.slice T x (some y) none none) ty (.slice (if cap = 1 then a else a.map (·.add (1 * 1))) (len - 1) (cap - 1)) := by
  have h := Rd.slicePart (P := P) (ρ := ρ) (S := S) (ty := ty) (lo := some y) (hi := none) (mx := none) (l := 1) (hh := len) (m := cap) hT hk hE hx (fun w => by
    have hb := fun c w => bound_ok (P := P) (y := len) (c := c) (kk := kk) (i := 1) (by decide) (by omega) w
    simp [Instr.sliceBounds, hy, hb])
  rw [hs1] at h
  exact h
/-- Append to a full list of what another one holds: it grows. -/
theorem WrA.appendFull {T e : TypeId} {x y : Operand} {ty : TypeId} {r re : Ty} {n m c g o : Nat} {p0 : Option Addr} {xs news : List Value} (hT : tyOf P T = some r) (hk : r.k = .slice e) (hE : tyOf P e = some re) (hz : re.zero.length = re.size)
    (hs : ev ρ x = .slice p0 n n) (hy : ev ρ y = .slice (some ⟨g, o, none⟩) m c) (hx : ∀ j u, xs[j]? = some u → ∃ g0 o0, p0 = some ⟨g0, o0, none⟩ ∧ AtC (Ho σ Γ) g0 (o0 + j) u) (hp : p0 = none → n = 0) (hlx : xs.length = n * re.size) (hrow : At (Ho σ Γ) g o news)
    (hl : news.length = m * re.size) (h1 : ones news) (hm : 0 < m) (h63 : n + m ≤ maxLen) (hb : (n + m) * re.bytes ≤ 140737488355328) :
    WrA P ρ σ Γ (.call { callee := .builtin .append, args := #[x, y], argTypes := #[T, T] }) ty (fun v' σ' Δ => ∃ p c, v' = .slice p (n + m) c ∧ σ = σ' ∧ Δ = lst e re.size (.slice p (n + m) c) (n + m) (xs ++ news) :: Γ) noPA :=
  ⟨fun f h hh => ⟨fun d pos af gd a w next Q' he hw hn hp' => by
    have h4 : Holds σ (lst e re.size (.slice none 0 0) 0 [] :: Γ) f h := hh.ent (Ent.selNil (Ent.refl _))
    exact (Wr.appendFull hT hk hE hz (fun j u hu => by obtain ⟨g0, o0, e0, hc⟩ := hx j u hu; exact ⟨g0, o0, e0, hc.out h hh.ho⟩) hp hlx hs (hrow.out h hh.ho) hy hl h1 hm h63 hb).out d pos af gd a w next Q' he hw (fun v' w' sm q => by
        obtain ⟨p, c, rfl⟩ := q.1.shape
        exact hn _ w' sm ⟨σ, _, ⟨p, c, rfl, rfl, rfl⟩, h4.app .head (q.1.weak (fun g _ hg => .inr hg)) q.2⟩) (fun _ _ _ q => q.elim)⟩⟩
/-- Append to nil of what another list holds. -/
theorem WrA.appendNew {T e : TypeId} {x y : Operand} {ty : TypeId} {r re : Ty} {m c g o : Nat} {news : List Value} (hT : tyOf P T = some r) (hk : r.k = .slice e) (hE : tyOf P e = some re) (hz : re.zero.length = re.size)
    (hs : ev ρ x = .slice none 0 0) (hy : ev ρ y = .slice (some ⟨g, o, none⟩) m c) (hrow : At (Ho σ Γ) g o news)
    (hl : news.length = m * re.size) (h1 : ones news) (hm : 0 < m) (h63 : m ≤ maxLen) (hb : m * re.bytes ≤ 140737488355328) :
    WrA P ρ σ Γ (.call { callee := .builtin .append, args := #[x, y], argTypes := #[T, T] }) ty (fun v' σ' Δ => ∃ p c, v' = .slice p m c ∧ σ = σ' ∧ Δ = lst e re.size (.slice p m c) m news :: Γ) noPA := by
  have h := WrA.appendFull (P := P) (ρ := ρ) (σ := σ) (Γ := Γ) (ty := ty) (p0 := none) (n := 0) (xs := []) hT hk hE hz hs hy (fun j u h => by simp at h) (fun _ => rfl) (by simp) hrow hl h1 hm (by omega) (by simpa using hb)
  simpa only [Nat.zero_add, List.nil_append] using h
theorem blk_frz {g : Nat} {l : List Value} {T : TypeId} : ∀ m, blk g l T m → ∃ _ : Unit, PRow m g 0 l := fun m h => ⟨(), PRow.ofBlk h (by simp)⟩
theorem blk_frz_mono {g : Nat} {l : List Value} : ∀ (_ : Unit) (m m' : PH), PRow m g 0 l → m.sub m' → PRow m' g 0 l := fun _ _ _ h s => h.mono s
theorem takeS {α : Type} {l : List α} {k : Nat} {x : α} (hk : l[k]? = some x) : l.take (k + 1) = l.take k ++ [x] := by rw [List.take_add_one, hk]; rfl
/-- Nothing is appended. -/
theorem Rd.appendNone {S : Heap → Prop} {T e : TypeId} {x y : Operand} {ty : TypeId} {r re : Ty} {n c c' : Nat} {p q : Option Addr} (hT : tyOf P T = some r) (hk : r.k = .slice e) (hE : tyOf P e = some re) (hx : ev ρ x = .slice p n c) (hy : ev ρ y = .slice q 0 c') (hnc : n ≤ c) :
    Rd P ρ S (.call { callee := .builtin .append, args := #[x, y], argTypes := #[T, T] }) ty (.slice p n c) := by
  refine .pure fun d pos af gd w => ?_
  obtain ⟨dd, i, z, e1, e2, -⟩ := tyOf_spec hT
  obtain ⟨dd', i', z', e1', e2', e3', e4', -⟩ := tyOf_spec hE
  rw [hk] at e2
  cases dd <;> simp [kindOf] at e2
  rw [e2] at e1
  have hl : ∀ w' : World, (Builtin.lenOf (.slice q 0 c')).run P w' = .ok 0 w' := fun w' => by simp [Builtin.lenOf]
  have hf : (Builtin.firstCells i'.size 0 (.slice q 0 c')).run P w = .ok #[] w := by cases q <;> simp [Builtin.firstCells, loadCells, loadCellsFrom]
  have h : (Builtin.append_ #[T, T] ty #[.slice p n c, .slice q 0 c']).run P w = .ok (.slice p n c) w := by cases p <;> simp [Builtin.append_, run_underlying e1, sizeOf, typeInfo, e3', hl, hnc, hf, storeCells]
  simp only [execOp, resolve, invoke, builtin, Sem.run_bind, Sem.run_pure, Result.andThen_ok, List.map_toArray, List.map_cons, List.map_nil, hx, hy, h]
/-- A list of one's own, given for ever: its cells stay. -/
theorem lst_frz {e size n c : Nat} {p : Option Addr} {xs : List Value} : ∀ m, lst e size (.slice p n c) n xs m → ∃ _ : Unit, n ≤ c ∧ c ≤ maxLen ∧ xs.length = n * size ∧ (0 < n → ∃ g o, p = some ⟨g, o, none⟩ ∧ PRow m g o xs) := by
  rintro m ⟨h1, ⟨h2, rfl⟩ | ⟨g, cap, h2, cur, h3, h4, h5, h6, h7⟩⟩
  · simp only [Value.slice.injEq] at h2
    obtain ⟨rfl, -, rfl⟩ := h2
    exact ⟨(), Nat.le_refl _, by simp [maxLen], h1, fun h => absurd h (Nat.lt_irrefl _)⟩
  · simp only [Value.slice.injEq] at h2
    obtain ⟨rfl, -, rfl⟩ := h2
    exact ⟨(), h4, h5, h1, fun _ => ⟨g, 0, rfl, PRow.ofBlk h3 (by rw [h1]; simpa using h7)⟩⟩
theorem lst_frz_mono {n c k : Nat} {p : Option Addr} {xs : List Value} : ∀ (_ : Unit) (m m' : PH), (n ≤ c ∧ c ≤ maxLen ∧ xs.length = k ∧ (0 < n → ∃ g o, p = some ⟨g, o, none⟩ ∧ PRow m g o xs)) → m.sub m' → (n ≤ c ∧ c ≤ maxLen ∧ xs.length = k ∧ (0 < n → ∃ g o, p = some ⟨g, o, none⟩ ∧ PRow m' g o xs)) :=
  fun _ _ _ ⟨h1, h2, h3, h4⟩ s => ⟨h1, h2, h3, fun h => by obtain ⟨g, o, e, r⟩ := h4 h; exact ⟨g, o, e, r.mono s⟩⟩
/-- Rows of cells, each of a thing. -/
structure Rows_ {α : Type} (s : Nat) (R : RT α) (σ : PH) (rows : List (List Value)) (xs : List α) : Prop where
  len : rows.length = xs.length
  size : ∀ row ∈ rows, row.length = s
  row : ∀ (i : Nat) (row : List Value) (x : α), rows[i]? = some row → xs[i]? = some x → R σ row x
theorem Rows_.nil {α : Type} (s : Nat) (R : RT α) (σ : PH) : Rows_ s R σ [] [] := ⟨rfl, by simp, by simp⟩
theorem Rows_.mono {α : Type} {s : Nat} {R : RT α} {σ σ' : PH} {rows : List (List Value)} {xs : List α} (h : Rows_ s R σ rows xs) (hR : ∀ cs x, R σ cs x → R σ' cs x) : Rows_ s R σ' rows xs := ⟨h.len, h.size, fun i row x a b => hR _ _ (h.row i row x a b)⟩
theorem Rows_.snoc {α : Type} {s : Nat} {R : RT α} {σ : PH} {rows : List (List Value)} {xs : List α} (h : Rows_ s R σ rows xs) {row : List Value} {x : α} (hl : row.length = s) (hr : R σ row x) : Rows_ s R σ (rows ++ [row]) (xs ++ [x]) := by
  refine ⟨by simp [h.len], fun r hm => ?_, fun i r y a b => ?_⟩
  · simp only [List.mem_append, List.mem_singleton] at hm
    rcases hm with hm | rfl
    · exact h.size r hm
    · exact hl
  · rcases Nat.lt_or_ge i rows.length with hi | hi
    · rw [List.getElem?_append_left hi] at a
      rw [List.getElem?_append_left (by rw [← h.len]; exact hi)] at b
      exact h.row i r y a b
    · rw [List.getElem?_append_right hi] at a
      rw [List.getElem?_append_right (by rw [← h.len]; exact hi), ← h.len] at b
      cases hq : i - rows.length with
      | zero => rw [hq] at a b; simp at a b; subst a; subst b; exact hr
      | succ q => rw [hq] at a; simp at a
theorem Rows_.psl {α : Type} {s n c k : Nat} {R : RT α} {σ : PH} {rows : List (List Value)} {xs : List α} {p : Option Addr} (h : Rows_ s R σ rows xs) (hn : n = xs.length) (hf : n ≤ c ∧ c ≤ maxLen ∧ rows.flatten.length = k ∧ (0 < n → ∃ g o, p = some ⟨g, o, none⟩ ∧ PRow σ g o rows.flatten)) : PSl s R σ (.slice p n c) xs := by
  subst hn
  exact ⟨p, c, rows, rfl, hf.1, hf.2.1, h.len, h.size, h.row, hf.2.2.2⟩
end X
end Go.Proofs.Ytbbghdkndbpmmaa

namespace Go.Proofs.Ytbbghdkndbpmmaa
namespace X
open Go
/-- An end in a panic. -/
def PanA (R : List PanicEntry → PH → List HP → Prop) : Ending → PH → List HP → Prop
  | .panicked c, σ, Γ => R c σ Γ
  | _, _, _ => False
section
variable {P : Program} {N : Nat} {ρ : Env} {σ : PH} {Γ : List HP} {K : KA}
theorem XOA.die {all : Array Oper} {rest : List Oper} {d : Option Nat} {f : FuncId} {args : List Operand} {ats : Array TypeId} {vs : List Value} {ty : TypeId} {pos : String} {af : Array Edge} {R : List PanicEntry → PH → List HP → Prop} {Γ0 Δ : List HP} (hd : dstOk N d = true)
    (hc : CallsA P f vs.toArray σ Γ0 (PanA R)) (hv : args.map (ev ρ) = vs) (kp : ∀ c σ' Γ1, R c σ' Γ1 → DA K (.panic c) ρ σ' (Γ1 ++ Δ)) (he : Ent Γ (Γ0 ++ Δ) := by (repeat (first | exact Ent.all _ | (apply Ent.take; focus (first | ((repeat (first | with_reducible exact Sel.head | apply Sel.tail)); done) | ((repeat (first | exact Sel.head | apply Sel.tail)); done))) | apply Ent.takeNil | apply Ent.takeEmp)); (first | done | fail)) :
    XOA P N all (⟨d, .call { callee := .value (.func f), args := args.toArray, argTypes := ats }, ty, pos, af, none⟩ :: rest) ρ σ Γ K :=
  XOA.wr hd (WrA.callG (first := []) (cap := []) rfl hc (by simpa using hv) he (fun _ _ h => h)) (fun _ _ _ h => by obtain ⟨_, h, _⟩ := h; exact h.elim) (fun c σ' Γ' h => by obtain ⟨Γ1, h, rfl⟩ := h; exact kp c σ' Γ1 h)
theorem XPA.die {ops : Array Oper} {σ0 : PH} {Γs : List HP} {z : List Nat} {i : Nat} {pl : List (Nat × Kd)} {d : Option Nat} {f : FuncId} {args : List Operand} {ats : Array TypeId} {vs : List Value} {ty : TypeId} {pos : String} {af : Array Edge} {g : Option (Nat × Bool)} {R : List PanicEntry → PH → List HP → Prop} {Γ0 Δ : List HP}
    (hi : ops[i]? = some ⟨d, .call { callee := .value (.func f), args := args.toArray, argTypes := ats }, ty, pos, af, g⟩) (hd : dstOk N d = true) (hg : Gd ops ρ g true)
    (hc : CallsA P f vs.toArray σ Γ0 (PanA R)) (hv : args.map (ev ρ) = vs) (kp : ∀ c σ' Γ1, R c σ' Γ1 → DA K (.panic c) ρ σ' (Γ1 ++ Δ)) (he : Ent Γ (Γ0 ++ Δ) := by (repeat (first | exact Ent.all _ | (apply Ent.take; focus (first | ((repeat (first | with_reducible exact Sel.head | apply Sel.tail)); done) | ((repeat (first | exact Sel.head | apply Sel.tail)); done))) | apply Ent.takeNil | apply Ent.takeEmp)); (first | done | fail)) :
    XPA P N ops σ0 Γs z ((i, .wr) :: pl) ρ σ Γ K :=
  XPA.wr hi hd hg (WrA.callG (first := []) (cap := []) rfl hc (by simpa using hv) he (fun _ _ h => h)) (fun _ _ _ h => by obtain ⟨_, h, _⟩ := h; exact h.elim) (fun c σ' Γ' h => by obtain ⟨Γ1, h, rfl⟩ := h; exact kp c σ' Γ1 h)
/-- The operation that panics. -/
theorem XOA.throw {all : Array Oper} {rest : List Oper} {d : Option Nat} {x : Operand} {t : TypeId} {v : Value} {ty : TypeId} {pos : String} {af : Array Edge} (hd : dstOk N d = true) (hx : ev ρ x = .iface t v)
    (kp : DA K (.panic [{ v := .iface t v, recovered := false }]) ρ σ Γ) : XOA P N all (⟨d, .panic x, ty, pos, af, none⟩ :: rest) ρ σ Γ K :=
  XOA.wr (R := fun _ _ _ => False) (pk := fun c σ' Γ' => c = [{ v := .iface t v, recovered := false }] ∧ σ = σ' ∧ Γ' = Γ) hd
    ⟨fun f h hh => ⟨fun d pos af g a w next Q he hw _ hp => by
      unfold Oper.wp
      have hrun : (execOp a.eval ⟨d, .panic x, ty, pos, af, g⟩).run P w = .halt (.panic (.iface t v)) w := by
        rw [he]; simp [execOp, Instr.panic, hx, goPanic]
      rw [hrun, Oper.upon_panic]
      exact hp _ w (Same.refl w) ⟨σ, Γ, ⟨rfl, rfl, rfl⟩, hw ▸ hh⟩⟩⟩
    (fun _ _ _ h => h.elim) (fun c σ' Γ' h => by obtain ⟨rfl, rfl, rfl⟩ := h; exact kp)
theorem Rd.mkI {S : Heap → Prop} {ty T : TypeId} {x : Operand} {v : Value} {r : Ty} {kk : IntKind} (hT : tyOf P T = some r) (hk : r.k = .int kk) (hx : ev ρ x = v) : Rd P ρ S (.makeInterface T x) ty (.iface T v) := by
  refine .pure fun d pos af g w => ?_
  obtain ⟨dd, i, z, e1, e2, -⟩ := tyOf_spec hT
  rw [hk] at e2
  cases dd <;> simp [kindOf] at e2
  simp [execOp, Instr.makeInterface, run_underlying e1, hx]
/-- Of what type is it? -/
theorem Rd.tassert {S : Heap → Prop} {ty T I : TypeId} {x : Operand} {v : Value} {r : Ty} {kk : IntKind} (hT : tyOf P T = some r) (hk : r.k = .int kk) (hx : ev ρ x = .iface T v) : Rd P ρ S (.typeAssert x I T true) ty (.tuple #[v, .bool true]) := by
  refine .pure fun d pos af g w => ?_
  obtain ⟨dd, i, z, e1, e2, -⟩ := tyOf_spec hT
  rw [hk] at e2
  cases dd <;> simp [kindOf] at e2
  simp [execOp, Instr.typeAssert, run_underlying e1, hx]
theorem Rd.tassertNil {S : Heap → Prop} {ty T I : TypeId} {x : Operand} {r : Ty} {kk : IntKind} (hT : tyOf P T = some r) (hk : r.k = .int kk) (hz : (P.info? T).bind (·.zero) = some (.int kk 0)) (hx : ev ρ x = .nilIface) : Rd P ρ S (.typeAssert x I T true) ty (.tuple #[.int kk 0, .bool false]) := by
  refine .pure fun d pos af g w => ?_
  obtain ⟨dd, i, z, e1, e2, e3, e4, e5, e6, e7⟩ := tyOf_spec hT
  rw [hk] at e2
  rw [e3] at hz
  simp only [Option.bind_some, e6, Option.some.injEq] at hz
  subst hz
  cases dd <;> simp [kindOf] at e2
  simp [execOp, Instr.typeAssert, run_underlying e1, hx, zeroValue, typeInfo, e3, e6]
theorem Rd.neqIfT {S : Heap → Prop} {ty I T' : TypeId} {x : Operand} {t : TypeId} {v : Value} {ms : Array (String × TypeId)} (hI : P.underlying I = some (.interface ms)) (hx : ev ρ x = .iface t v) : Rd P ρ S (.binOp .neq I x (.const .nilIface) T') ty (.bool true) := by
  refine .pure fun d pos af gd w => ?_
  have h1 : (Op.equalIn Op.maxDepth I (.iface t v) .nilIface).run P w = .ok false w := by
    rw [show Op.maxDepth = 9999 + 1 from rfl, Op.equalIn, Sem.run_bind, run_underlying hI]; rfl
  simp only [execOp, eqGuard, hx, ev, binOp, Sem.run_bind]
  simp [Op.equal, h1]
theorem Rd.neqIfF {S : Heap → Prop} {ty I T' : TypeId} {x : Operand} {ms : Array (String × TypeId)} (hI : P.underlying I = some (.interface ms)) (hx : ev ρ x = .nilIface) : Rd P ρ S (.binOp .neq I x (.const .nilIface) T') ty (.bool false) := by
  refine .pure fun d pos af gd w => ?_
  have h1 : (Op.equalIn Op.maxDepth I .nilIface .nilIface).run P w = .ok true w := by
    rw [show Op.maxDepth = 9999 + 1 from rfl, Op.equalIn, Sem.run_bind, run_underlying hI]; rfl
  simp only [execOp, eqGuard, hx, ev, binOp, Sem.run_bind]
  simp [Op.equal, h1]
end
/-! a closure that recovers -/
section
variable {P : Program}
/-- What recover hands back, and what becomes of the frame below. -/
def recv : FrameMode → Value × FrameMode
  | .panicking ({ v, recovered := false, goexit := false } :: older) => (v, .panicking ({ v, recovered := true } :: older))
  | u => (.nilIface, u)
theorem recoverD_recv (c₀ : Frame) (cs : List Frame) : recoverD (c₀ :: cs) = none ∧ recv c₀.mode = (.nilIface, c₀.mode) ∨ recoverD (c₀ :: cs) = some ((recv c₀.mode).1, { c₀ with mode := (recv c₀.mode).2 } :: cs) := by
  obtain ⟨fn, tmps, todo, defers, mode, kind, ro⟩ := c₀
  cases mode with
  | panicking l =>
    cases l with
    | nil => exact .inl ⟨rfl, rfl⟩
    | cons e older =>
      obtain ⟨v, r, g⟩ := e
      cases r <;> cases g <;> first | exact .inr rfl | exact .inl ⟨rfl, rfl⟩
  | _ => exact .inl ⟨rfl, rfl⟩
theorem calls_recovers {f : FuncId} {fn : Func} {rest : Code} {id : Nat} {d1 d2 : Nat} {t1 t2 : TypeId} {s1 s2 : String} {a1 a2 : Array Edge} {ats : Array TypeId} {vs : Array Value} {ρ0 : Env} {u : FrameMode} {h : Heap} {R : Ending → Heap → Prop}
    (hf : P.funcs[f]? = some fn) (hb : fn.body = some (.seq (.region id #[⟨some d1, .call { callee := .builtin .recover, args := #[], argTypes := ats }, t1, s1, a1, none⟩, ⟨some d2, .assign (.tmp d1), t2, s2, a2, none⟩] false) rest)) (hN : Nat.ble vs.size fn.ntmps = true)
    (h0 : ∀ s, vs.getD s undef = ρ0 s) (hd1 : Nat.blt d1 fn.ntmps = true) (hd2 : Nat.blt d2 fn.ntmps = true) (hx : X P fn.ntmps rest (upd (upd ρ0 d1 (recv u).1) d2 (recv u).1) h (bodyK P fn R)) :
    ∀ w, w.heap = h → CallsD P f vs u w (fun e u' w' => u' = (recv u).2 ∧ Same w w' ∧ R e w'.heap) := by
  intro w hw
  refine callsD_of_wpS hf hb fun c₀ cs hu => ?_
  have hN' : vs.size ≤ fn.ntmps := Nat.le_of_ble_eq_true hN
  have he : EnvOf fn.ntmps { tmps := vs ++ Array.replicate (fn.ntmps - vs.size) undef, defers := [] } ρ0 := by
    refine ⟨by simp; omega, fun s => ?_⟩
    rw [← h0 s]
    simp only [Array.getD_eq_getD_getElem?, Array.getElem?_append, Array.getElem?_replicate]
    by_cases e : s < vs.size
    · simp [e]
    · simp [e]; split <;> simp
  obtain ⟨a0, ha0⟩ : ∃ a : Act, a = { tmps := vs ++ Array.replicate (fn.ntmps - vs.size) undef, defers := [] } := ⟨_, rfl⟩
  rw [← ha0] at he ⊢
  have hdf : a0.defers = [] := by rw [ha0]
  have hK : ∀ (w' : World) (cs' : List Frame), Same w w' → w'.heap = h → cs' = { c₀ with mode := (recv u).2 } :: cs → rest.wpS P (bodyPostS P fn c₀ cs (fun e u' w' => u' = (recv u).2 ∧ Same w w' ∧ R e w'.heap)) ((a0.put (some d1) (recv u).1).put (some d2) (recv u).1) cs' w' := by
    intro w' cs' hs hh hcs
    refine wpS_of_wp (wp_mono (hx.out w ((a0.put (some d1) (recv u).1).put (some d2) (recv u).1) w' hs hh ((he.put hd1 _).put hd2 _)) ?_)
    rintro e a' w'' ⟨g1, g2, ρ', g3, g4⟩
    rw [put_defers, put_defers, hdf] at g1
    cases e with
    | normal => obtain ⟨v, hr, hR⟩ := g4; exact ⟨g1, _, hcs, v, hr w'' a' rfl g3, rfl, g2, hR⟩
    | ret => obtain ⟨v, hr, hR⟩ := g4; exact ⟨g1, _, hcs, v, hr w'' a' rfl g3, rfl, g2, hR⟩
    | panic c => exact ⟨g1, _, hcs, rfl, g2, g4⟩
    | _ => exact g4.elim
  refine wpS_seq (wpS_region ?_)
  have hrec : ∀ a : Act, (execOp a.eval ⟨some d1, .call { callee := .builtin .recover, args := #[], argTypes := ats }, t1, s1, a1, none⟩).run P w = .ok .recover w := fun a => by
    simp [execOp, resolve, invoke, builtin]
  have hasg : ∀ a : Act, (execOp a.eval ⟨some d2, .assign (.tmp d1), t2, s2, a2, none⟩).run P w = .ok (.value (a.eval (.tmp d1))) w := fun a => by
    simp [execOp]
  have hc : ({ c₀ with mode := u } : Frame) = c₀ := by subst hu; rfl
  have hput : (a0.put (some d1) (recv u).1).eval (.tmp d1) = (recv u).1 := by rw [(he.put hd1 _).eval]; exact upd_same _ _ _
  show wpOpsS P _ _ [0, 1] a0 (c₀ :: cs) w
  rcases recoverD_recv c₀ cs with ⟨e1, e2⟩ | e1
  · rw [hu] at e2
    have e3 : recv u = (.nilIface, u) := e2
    simp only [e3] at hput hK ⊢
    simp [wpOpsS, hrec, hasg, Region.wanted, e1, Oper.upon_value, hput, Exit.thenS]
    exact hK w _ (Same.refl w) hw (by rw [hc])
  · rw [hu] at e1
    simp [wpOpsS, hrec, hasg, Region.wanted, e1, Oper.upon_value, hput, Exit.thenS]
    exact hK w _ (Same.refl w) hw rfl
/-! a tail in which, at a panic, the frame is known -/
def PostF (w0 : World) (ds : List Deferred) (N : Nat) (K : Kont) : Exit → Act → World → Prop := fun e a' w' => a'.defers = ds ∧ Same w0 w' ∧ ∃ ρ', EnvOf N a' ρ' ∧ K e ρ' w'.heap
structure XF (P : Program) (N : Nat) (c : Code) (ρ : Env) (h : Heap) (K : Kont) : Prop where
  out : ∀ (w0 : World) (a : Act) (w : World), Same w0 w → w.heap = h → EnvOf N a ρ → c.wp P (PostF w0 a.defers N K) a w
structure XFO (P : Program) (N : Nat) (all : Array Oper) (l : List Oper) (ρ : Env) (h : Heap) (K : Kont) : Prop where
  out : ∀ (w0 : World) (a : Act) (w : World), Same w0 w → w.heap = h → EnvOf N a ρ → wpList P all (PostF w0 a.defers N K) l a w
section
variable {N : Nat} {ρ : Env} {h : Heap} {K : Kont}
theorem XF.seq {x y : Code} (hx : XF P N x ρ h (thn (fun ρ h => XF P N y ρ h K) K)) : XF P N (.seq x y) ρ h K := by
  refine ⟨fun w0 a w hs hh he => wp_seq (wp_mono (hx.out w0 a w hs hh he) ?_)⟩
  rintro e a' w' ⟨h1, h2, ρ', h3, h4⟩
  cases e with
  | normal => rw [← h1]; exact h4.out w0 a' w' h2 rfl h3
  | _ => exact ⟨h1, h2, ρ', h3, h4⟩
theorem XF.ret (hk : K .ret ρ h) : XF P N .ret ρ h K := ⟨fun _ _ _ hs hh he => wp_ret ⟨rfl, hs, ρ, he, hh ▸ hk⟩⟩
theorem XF.region {id : Nat} {l : List Oper} (hx : XFO P N l.toArray l ρ h K) : XF P N (.region id l.toArray false) ρ h K := ⟨fun w0 a w hs hh he => wp_region_lit (hx.out w0 a w hs hh he)⟩
theorem XFO.nil {all : Array Oper} (hk : K .normal ρ h) : XFO P N all [] ρ h K := ⟨fun _ _ _ hs hh he => wpList_nil ⟨rfl, hs, ρ, he, hh ▸ hk⟩⟩
theorem XFO.wr {all : Array Oper} {rest : List Oper} {op : Op} {d : Option Nat} {ty : TypeId} {pos : String} {af : Array Edge} {R : Value → Heap → Prop} {pk : List PanicEntry → Heap → Prop} (hd : dstOk N d = true)
    (hr : Wr P ρ h op ty R pk) (k : ∀ v h', R v h' → XFO P N all rest (updO ρ d v) h' K) (kp : ∀ c h', pk c h' → K (.panic c) ρ h') :
    XFO P N all (⟨d, op, ty, pos, af, none⟩ :: rest) ρ h K := by
  refine ⟨fun w0 a w hs hh he => ?_⟩
  refine wpList_plain rfl fun K' hK' => ?_
  refine hr.out d pos af none a w _ _ he.eval hh (fun v w' h2 h3 => hK' _ _ ?_) (fun c w' h2 h3 => ⟨rfl, hs.trans h2, ρ, he, kp c _ h3⟩)
  have := (k v _ h3).out w0 (a.put d v) w' (hs.trans h2) rfl (he.putO hd v)
  rwa [put_defers] at this
end
structure XFA (P : Program) (N : Nat) (c : Code) (ρ : Env) (σ : PH) (Γ : List HP) (K : KA) : Prop where
  out : ∀ f h, Holds σ Γ f h → XF P N c ρ h (KF f K)
structure XFOA (P : Program) (N : Nat) (all : Array Oper) (l : List Oper) (ρ : Env) (σ : PH) (Γ : List HP) (K : KA) : Prop where
  out : ∀ f h, Holds σ Γ f h → XFO P N all l ρ h (KF f K)
section
variable {N : Nat} {ρ : Env} {σ : PH} {Γ : List HP} {K : KA} {all : Array Oper} {rest : List Oper} {d : Nat} {ty : TypeId} {pos : String} {af : Array Edge}
theorem XFA.seq {x y : Code} (hx : XFA P N x ρ σ Γ (thnA (fun ρ σ Γ => XFA P N y ρ σ Γ K) K)) : XFA P N (.seq x y) ρ σ Γ K := by
  refine ⟨fun f h hh => XF.seq ⟨fun w0 a w hs hw he => wp_mono ((hx.out f h hh).out w0 a w hs hw he) ?_⟩⟩
  rintro e a' w' ⟨h1, h2, ρ', h3, σ', Γ', hk, hh'⟩
  refine ⟨h1, h2, ρ', h3, ?_⟩
  cases e with
  | normal => exact hk.out f _ hh'
  | _ => exact ⟨σ', Γ', hk, hh'⟩
theorem XFA.ret (hk : K .ret ρ σ Γ) : XFA P N .ret ρ σ Γ K := ⟨fun f h hh => XF.ret ⟨σ, Γ, hk, hh⟩⟩
theorem XFA.region {id : Nat} {l : List Oper} (hx : XFOA P N l.toArray l ρ σ Γ K) : XFA P N (.region id l.toArray false) ρ σ Γ K := ⟨fun f h hh => XF.region (hx.out f h hh)⟩
theorem XFOA.nil {all : Array Oper} (hk : K .normal ρ σ Γ) : XFOA P N all [] ρ σ Γ K := ⟨fun f h hh => XFO.nil ⟨σ, Γ, hk, hh⟩⟩
theorem XFOA.rd {op : Op} {v : Value} (hd : Nat.blt d N = true) (hr : Rd P ρ (Ho σ Γ) op ty v) (k : XFOA P N all rest (upd ρ d v) σ Γ K) : XFOA P N all (⟨some d, op, ty, pos, af, none⟩ :: rest) ρ σ Γ K :=
  ⟨fun f h hh => XFO.wr (d := some d) hd (Rd.wr ⟨fun d pos af g w hw => hr.out d pos af g w (hw ▸ hh.ho)⟩) (by rintro _ _ ⟨rfl, rfl⟩; exact k.out f _ hh) (fun _ _ h => h.elim)⟩
theorem XFOA.call {f : FuncId} {args : List Operand} {ats : Array TypeId} {vs : List Value} {R : Value → PH → List HP → Prop} {Γ0 Δ : List HP} (hd : Nat.blt d N = true) (hc : CallsA P f vs.toArray σ Γ0 (RetA R)) (hv : args.map (ev ρ) = vs) (he : Ent Γ (Γ0 ++ Δ))
    (k : ∀ v σ' Γ1, R v σ' Γ1 → XFOA P N all rest (upd ρ d v) σ' (Γ1 ++ Δ) K) : XFOA P N all (⟨some d, .call { callee := .value (.func f), args := args.toArray, argTypes := ats }, ty, pos, af, none⟩ :: rest) ρ σ Γ K :=
  ⟨fun fr h hh => XFO.wr (d := some d) hd ((WrA.call hc hv he).out fr h hh) (fun v h' ⟨σ', Γ', ⟨Γ1, a, e⟩, b⟩ => by subst e; exact (k v σ' Γ1 a).out fr h' b) (fun _ _ ⟨_, _, h, _⟩ => h.elim)⟩
theorem XFOA.die {f : FuncId} {args : List Operand} {ats : Array TypeId} {vs : List Value} {R : List PanicEntry → PH → List HP → Prop} {Γ0 Δ : List HP} (hd : Nat.blt d N = true) (hc : CallsA P f vs.toArray σ Γ0 (PanA R)) (hv : args.map (ev ρ) = vs) (he : Ent Γ (Γ0 ++ Δ))
    (k : ∀ c σ' Γ1, R c σ' Γ1 → K (.panic c) ρ σ' (Γ1 ++ Δ)) : XFOA P N all (⟨some d, .call { callee := .value (.func f), args := args.toArray, argTypes := ats }, ty, pos, af, none⟩ :: rest) ρ σ Γ K :=
  ⟨fun fr h hh => XFO.wr (d := some d) hd ((WrA.callG (first := []) (cap := []) rfl hc (by simpa using hv) he (fun _ _ h => h)).out fr h hh) (fun v h' ⟨_, _, ⟨_, a, _⟩, _⟩ => a.elim) (fun c h' ⟨σ', Γ', ⟨Γ1, a, e⟩, b⟩ => by subst e; exact ⟨σ', _, k c σ' Γ1 a, b⟩)⟩
end
/-! a function that defers a closure -/
/-- The function's end, what it deferred being done. -/
structure XT (P : Program) (fn : Func) (c : Code) (ρ : Env) (h : Heap) (R : Ending → Heap → Prop) : Prop where
  out : ∀ (w0 : World) (a : Act) (w : World), Same w0 w → w.heap = h → EnvOf fn.ntmps a ρ → a.defers = [] → c.wp P (bodyPostD P fn (fun e w' => Same w0 w' ∧ R e w'.heap)) a w
theorem XT.seq {fn : Func} {x y : Code} {ρ : Env} {h : Heap} {R : Ending → Heap → Prop} (hx : X P fn.ntmps x ρ h (thn (fun ρ h => XT P fn y ρ h R) (bodyK P fn R))) : XT P fn (.seq x y) ρ h R := by
  refine ⟨fun w0 a w hs hh he hd => wp_seq (wp_mono (hx.out w0 a w hs hh he) ?_)⟩
  rintro e a' w' ⟨h1, h2, ρ', h3, h4⟩
  rw [hd] at h1
  cases e with
  | normal => exact h4.out w0 a' w' h2 rfl h3 h1
  | ret =>
    obtain ⟨v, hr, hR⟩ := h4
    show Leaves P fn a'.tmps _ a'.defers .returning w'
    rw [h1]; exact ⟨v, hr w' a' rfl h3, h2, hR⟩
  | panic c =>
    show Leaves P fn a'.tmps _ a'.defers (.panicking c) w'
    rw [h1]; exact ⟨h2, h4⟩
  | _ => exact h4.elim
/-- What a deferred closure does at the end, and what is handed back then. -/
def dK (P : Program) (fn : Func) (f : FuncId) (caps : Array Value) (R : Ending → Heap → Prop) : Kont := fun e ρ h =>
  let go := fun (u : FrameMode) => ∀ w, w.heap = h → CallsD P f caps u w (fun e' u' w' => Same w w' ∧ (∃ v0, e' = .returned v0) ∧ settle u' = .returning ∧ ∃ v, Res P fn ρ w'.heap v ∧ R (.returned v) w'.heap)
  match e with
  | .normal | .ret => go .returning
  | .panic c => go (.panicking c)
  | _ => False
theorem leaves_one {fn : Func} {f : FuncId} {caps : Array Value} {R : Ending → Heap → Prop} {ρ : Env} {u : FrameMode} {a : Act} {w0 w : World} (hu : u ≠ .run) (hE : Enters P f) (hs : Same w0 w) (he : EnvOf fn.ntmps a ρ)
    (hc : CallsD P f caps u w (fun e' u' w' => Same w w' ∧ (∃ v0, e' = .returned v0) ∧ settle u' = .returning ∧ ∃ v, Res P fn ρ w'.heap v ∧ R (.returned v) w'.heap)) :
    Leaves P fn a.tmps (fun e w' => Same w0 w' ∧ R e w'.heap) [{ target := .fn (.func f) caps, args := #[] }] u w := by
  refine leaves_cons (f := f) (args := caps) hu ?_ (hc.mono ?_)
  · simp only [invoke]
    have := hE caps w
    simpa using this
  · rintro e u' w' ⟨h1, ⟨v0, rfl⟩, h2, v, h3, h4⟩
    show Leaves P fn a.tmps _ [] (settle u') w'
    rw [h2]
    exact ⟨v, h3 w' a rfl he, hs.trans h1, h4⟩
theorem XT.defer {fn : Func} {y : Code} {ρ : Env} {h : Heap} {R : Ending → Heap → Prop} {id t : Nat} {f : FuncId} {co : Array Operand} {caps : Array Value} {t1 t2 : TypeId} {s1 s2 : String} {a1 a2 : Array Edge} {ats : Array TypeId} (hE : Enters P f) (ht : Nat.blt t fn.ntmps = true) (hcap : co.map (ev ρ) = caps)
    (hx : XF P fn.ntmps y (upd ρ t (.func (.func f) #[] caps)) h (dK P fn f caps R)) :
    XT P fn (.seq (.region id #[⟨some t, .makeFunc (.func f) #[] co, t1, s1, a1, none⟩, ⟨none, .defer { callee := .value (.tmp t), args := #[], argTypes := ats }, t2, s2, a2, none⟩] false) y) ρ h R := by
  refine ⟨fun w0 a w hs hh he hd => wp_seq (wp_region_lit (l := [_, _]) ?_)⟩
  refine wpList_plain rfl fun K1 hK1 => ?_
  have hrun : (execOp a.eval ⟨some t, .makeFunc (.func f) #[] co, t1, s1, a1, none⟩).run P w = .ok (.value (.func (.func f) #[] caps)) w := by
    rw [he.eval]; simp [execOp, Instr.makeFunc, hcap]
  unfold Oper.wp
  rw [hrun, Oper.upon_value]
  refine hK1 _ _ ?_
  have he1 := he.put ht (.func (.func f) #[] caps)
  refine wpList_plain rfl fun K2 hK2 => ?_
  have hrun2 : (execOp (a.put (some t) (.func (.func f) #[] caps)).eval ⟨none, .defer { callee := .value (.tmp t), args := #[], argTypes := ats }, t2, s2, a2, none⟩).run P w = .ok (.defer { target := .fn (.func f) caps, args := #[] }) w := by
    rw [he1.eval]; simp [execOp, resolve, Deferred.ofValue, upd_same]
  unfold Oper.wp
  rw [hrun2, Oper.upon_defer]
  refine hK2 _ _ (wpList_nil ?_)
  obtain ⟨b, hb⟩ : ∃ b : Act, b = ({ (a.put (some t) (.func (.func f) #[] caps)) with defers := { target := .fn (.func f) caps, args := #[] } :: (a.put (some t) (.func (.func f) #[] caps)).defers } : Act).put none undef := ⟨_, rfl⟩
  rw [← hb]
  have hbe : EnvOf fn.ntmps b (upd ρ t (.func (.func f) #[] caps)) := by rw [hb]; exact ⟨he1.size, he1.get⟩
  have hbd : b.defers = [{ target := .fn (.func f) caps, args := #[] }] := by rw [hb]; show _ :: (a.put (some t) _).defers = _; rw [put_defers, hd]
  show y.wp P (bodyPostD P fn (fun e w' => Same w0 w' ∧ R e w'.heap)) b w
  refine wp_mono (hx.out w0 b w hs hh hbe) ?_
  rintro e a' w' ⟨h1, h2, ρ', h3, h4⟩
  rw [hbd] at h1
  cases e with
  | normal =>
    show Leaves P fn a'.tmps _ a'.defers .returning w'
    rw [h1]; exact leaves_one (by simp) hE h2 h3 (h4 w' rfl)
  | ret =>
    show Leaves P fn a'.tmps _ a'.defers .returning w'
    rw [h1]; exact leaves_one (by simp) hE h2 h3 (h4 w' rfl)
  | panic c =>
    show Leaves P fn a'.tmps _ a'.defers (.panicking c) w'
    rw [h1]; exact leaves_one (by simp) hE h2 h3 (h4 w' rfl)
  | _ => exact h4.elim
/-! the same over what is owned -/
theorem enterD {f : FuncId} {fn : Func} {c : Code} {vs : Array Value} {ρ0 : Env} {h : Heap} {R : Ending → Heap → Prop} (hf : P.funcs[f]? = some fn) (hb : fn.body = some c) (hn : goodName fn = true) (hN : Nat.ble vs.size fn.ntmps = true)
    (h0 : ∀ s, vs.getD s undef = ρ0 s) (hx : XT P fn c ρ0 h R) : CallsX P f vs h R := by
  refine ⟨enters hf hb hn, fun w hw => calls_of_wp_defers hf hb ?_⟩
  have hN' : vs.size ≤ fn.ntmps := Nat.le_of_ble_eq_true hN
  have he : EnvOf fn.ntmps { tmps := vs ++ Array.replicate (fn.ntmps - vs.size) undef, defers := [] } ρ0 := by
    refine ⟨by simp; omega, fun s => ?_⟩
    rw [← h0 s]
    simp only [Array.getD_eq_getD_getElem?, Array.getElem?_append, Array.getElem?_replicate]
    by_cases e : s < vs.size
    · simp [e]
    · simp [e]; split <;> simp
  exact hx.out w _ w (Same.refl w) hw he rfl
structure XTA (P : Program) (fn : Func) (c : Code) (ρ : Env) (σ : PH) (Γ : List HP) (R : Ending → PH → List HP → Prop) : Prop where
  out : ∀ f h, Holds σ Γ f h → XT P fn c ρ h (fun e h' => ∃ σ' Γ', R e σ' Γ' ∧ Holds σ' Γ' f h')
def CallsDA (P : Program) (f : FuncId) (vs : Array Value) (u : FrameMode) (σ : PH) (Γ : List HP) (R : FrameMode → PH → List HP → Prop) : Prop :=
  ∀ fr h, Holds σ Γ fr h → ∀ w, w.heap = h → CallsD P f vs u w (fun e' u' w' => Same w w' ∧ (∃ v0, e' = .returned v0) ∧ ∃ σ' Γ', R u' σ' Γ' ∧ Holds σ' Γ' fr w'.heap)
/-- What is given to the closure, and what is handed back behind it. -/
def dKA (P : Program) (fn : Func) (f : FuncId) (caps : Array Value) (R : Ending → PH → List HP → Prop) : KA := fun e ρ σ Γ =>
  let go := fun (u : FrameMode) => CallsDA P f caps u σ Γ (fun u' σ' Γ' => settle u' = .returning ∧ ∃ v, ResA P fn ρ σ' Γ' v ∧ ∃ Δ, Ent Γ' Δ ∧ R (.returned v) σ' Δ)
  match e with
  | .normal | .ret => go .returning
  | .panic c => go (.panicking c)
  | _ => False
section
variable {fn : Func} {ρ : Env} {σ : PH} {Γ : List HP} {RR : Ending → PH → List HP → Prop}
theorem XTA.seq {x y : Code} (hx : XA P fn.ntmps x ρ σ Γ (thnA (fun ρ σ Γ => XTA P fn y ρ σ Γ RR) (bodyA P fn RR))) : XTA P fn (.seq x y) ρ σ Γ RR := by
  refine ⟨fun f h hh => XT.seq (X.mono (hx.out f h hh) ?_)⟩
  rintro e ρ' h' ⟨σ', Γ', hk, hh'⟩
  cases e with
  | normal => exact hk.out f h' hh'
  | ret => obtain ⟨v, a, Δ, b, c⟩ := hk; exact ⟨v, a h' hh'.ho, σ', Δ, c, hh'.ent b⟩
  | panic c => exact ⟨σ', Γ', hk, hh'⟩
  | _ => exact hk.elim
theorem XTA.defer {y : Code} {id t : Nat} {f : FuncId} {co : Array Operand} {caps : Array Value} {t1 t2 : TypeId} {s1 s2 : String} {a1 a2 : Array Edge} {ats : Array TypeId} (hE : Enters P f) (ht : Nat.blt t fn.ntmps = true) (hcap : co.map (ev ρ) = caps)
    (hx : XFA P fn.ntmps y (upd ρ t (.func (.func f) #[] caps)) σ Γ (dKA P fn f caps RR)) :
    XTA P fn (.seq (.region id #[⟨some t, .makeFunc (.func f) #[] co, t1, s1, a1, none⟩, ⟨none, .defer { callee := .value (.tmp t), args := #[], argTypes := ats }, t2, s2, a2, none⟩] false) y) ρ σ Γ RR := by
  have key : ∀ (fr : PH) (ρ' : Env) (σ' : PH) (Γ' : List HP) (h' : Heap) (u : FrameMode), Holds σ' Γ' fr h' → CallsDA P f caps u σ' Γ' (fun u' σ' Γ' => settle u' = .returning ∧ ∃ v, ResA P fn ρ' σ' Γ' v ∧ ∃ Δ, Ent Γ' Δ ∧ RR (.returned v) σ' Δ) →
      ∀ w, w.heap = h' → CallsD P f caps u w (fun e' u' w' => Same w w' ∧ (∃ v0, e' = .returned v0) ∧ settle u' = .returning ∧ ∃ v, Res P fn ρ' w'.heap v ∧ ∃ σ' Γ', RR (.returned v) σ' Γ' ∧ Holds σ' Γ' fr w'.heap) := fun fr ρ' σ' Γ' h' u hh hc w hw =>
    (hc fr h' hh w hw).mono fun e' u' w' ⟨a, b, σ2, Γ2, ⟨c, v, d, Δ, i, j⟩, k⟩ => ⟨a, b, c, v, d _ k.ho, σ2, Δ, j, k.ent i⟩
  refine ⟨fun fr h hh => XT.defer hE ht hcap ⟨fun w0 a w hs hw he => wp_mono ((hx.out fr h hh).out w0 a w hs hw he) ?_⟩⟩
  rintro e a' w' ⟨g1, g2, ρ', g3, σ', Γ', hk, hh'⟩
  refine ⟨g1, g2, ρ', g3, ?_⟩
  generalize w'.heap = h' at hh' ⊢
  cases e with
  | normal => exact key fr ρ' σ' Γ' h' _ hh' hk
  | ret => exact key fr ρ' σ' Γ' h' _ hh' hk
  | panic c => exact key fr ρ' σ' Γ' h' _ hh' hk
  | _ => exact hk.elim
theorem enterD3 {f : FuncId} {co : Code} {a b c : Value} (hf : P.funcs[f]? = some fn) (hb : fn.body = some co) (hn : goodName fn = true) (hN : Nat.ble 3 fn.ntmps = true) (hx : XTA P fn co (upd (upd (upd U 0 a) 1 b) 2 c) σ Γ RR) : CallsA P f #[a, b, c] σ Γ RR :=
  ⟨enters hf hb hn, fun fr h hh => enterD hf hb hn hN (fun s => match s with
    | 0 => rfl
    | 1 => rfl
    | 2 => rfl
    | s + 3 => by rw [show (#[a, b, c] : Array Value).getD (s + 3) undef = undef from by simp, upd_ne _ _ _ _ (by omega), upd_ne _ _ _ _ (by omega), upd_ne _ _ _ _ (by omega)]) (hx.out fr h hh)⟩
/-- A closure that recovers first, of four captured variables. -/
theorem CallsDA.recovers4 {f : FuncId} {rest : Code} {id : Nat} {d1 d2 : Nat} {t1 t2 : TypeId} {s1 s2 : String} {a1 a2 : Array Edge} {ats : Array TypeId} {x0 x1 x2 x3 : Value} {u : FrameMode} {R : FrameMode → PH → List HP → Prop}
    (hf : P.funcs[f]? = some fn) (hb : fn.body = some (.seq (.region id #[⟨some d1, .call { callee := .builtin .recover, args := #[], argTypes := ats }, t1, s1, a1, none⟩, ⟨some d2, .assign (.tmp d1), t2, s2, a2, none⟩] false) rest)) (hN : Nat.ble 4 fn.ntmps = true)
    (hd1 : Nat.blt d1 fn.ntmps = true) (hd2 : Nat.blt d2 fn.ntmps = true) (hx : XA P fn.ntmps rest (upd (upd (upd (upd (upd (upd U 0 x0) 1 x1) 2 x2) 3 x3) d1 (recv u).1) d2 (recv u).1) σ Γ (bodyA P fn (RetA fun _ σ' Γ' => R (recv u).2 σ' Γ'))) :
    CallsDA P f #[x0, x1, x2, x3] u σ Γ R := fun fr h hh w hw => by
  refine (calls_recovers (vs := #[x0, x1, x2, x3]) (ρ0 := upd (upd (upd (upd U 0 x0) 1 x1) 2 x2) 3 x3) hf hb hN (fun s => match s with
    | 0 => rfl
    | 1 => rfl
    | 2 => rfl
    | 3 => rfl
    | s + 4 => by rw [show (#[x0, x1, x2, x3] : Array Value).getD (s + 4) undef = undef from by simp, upd_ne _ _ _ _ (by omega), upd_ne _ _ _ _ (by omega), upd_ne _ _ _ _ (by omega), upd_ne _ _ _ _ (by omega)]) hd1 hd2 (XA.toX hx hh) w hw).mono ?_
  rintro e u' w' ⟨rfl, a, σ', Γ', b, c⟩
  cases e with
  | returned v => exact ⟨a, ⟨v, rfl⟩, σ', Γ', b, c⟩
  | _ => exact b.elim
end
end
end X
end Go.Proofs.Ytbbghdkndbpmmaa

namespace Go.Proofs.Ytbbghdkndbpmmaa
open Go X
inductive Ex where
  | mk (op v n : Int) (l : List Ex)
inductive St where
  | mk (op v : Int) (e f : Ex) (body els : List St)
structure Va where
  name : ByteArray
  size : Int
  deriving DecidableEq
structure Pr where
  vars : List Va
  body : List St
namespace Ex
def op : Ex → Int | .mk o _ _ _ => o
def v : Ex → Int | .mk _ v _ _ => v
def n : Ex → Int | .mk _ _ n _ => n
def l : Ex → List Ex | .mk _ _ _ l => l
theorem ind {P : Ex → Prop} (h : ∀ op v n l, (∀ x ∈ l, P x) → P (.mk op v n l)) : ∀ x, P x
  | .mk op v n l => h op v n l (fun x _ => ind h x)
end Ex
namespace St
def op : St → Int | .mk o _ _ _ _ _ => o
def v : St → Int | .mk _ v _ _ _ _ => v
def e : St → Ex | .mk _ _ e _ _ _ => e
def f : St → Ex | .mk _ _ _ f _ _ => f
def body : St → List St | .mk _ _ _ _ b _ => b
def els : St → List St | .mk _ _ _ _ _ l => l
theorem ind {P : St → Prop} (h : ∀ op v e f body els, (∀ x ∈ body, P x) → (∀ x ∈ els, P x) → P (.mk op v e f body els)) : ∀ x, P x
  | .mk op v e f body els => h op v e f body els (fun x _ => ind h x) (fun x _ => ind h x)
end St
/-- In 64 bits. -/
def i64ok (n : Int) : Prop := -9223372036854775808 ≤ n ∧ n ≤ 9223372036854775807
/-- An expression in memory: its cells. -/
inductive ExAt (σ : PH) : List Value → Ex → Prop
  | mk {op v n : Int} {l : List Ex} {p : Option Addr} {c : Nat} (rows : List (List Value)) (ho : i64ok op) (hv : i64ok v) (hn : i64ok n) (h1 : l.length ≤ c) (h2 : c ≤ maxLen) (h3 : rows.length = l.length) (h4 : ∀ row ∈ rows, row.length = 4)
      (h5 : ∀ (i : Nat) (row : List Value) (x : Ex), rows[i]? = some row → l[i]? = some x → ExAt σ row x) (h6 : 0 < l.length → ∃ g o, p = some ⟨g, o, none⟩ ∧ PRow σ g o rows.flatten) :
      ExAt σ [i64 op, i64 v, i64 n, .slice p l.length c] (.mk op v n l)
inductive StAt (σ : PH) : List Value → St → Prop
  | mk {op v : Int} {e f : Ex} {body els : List St} {ce cf : List Value} {p q : Option Addr} {c d : Nat} (rows qows : List (List Value)) (ho : i64ok op) (hv : i64ok v) (he : ExAt σ ce e) (hf : ExAt σ cf f)
      (h1 : body.length ≤ c) (h2 : c ≤ maxLen) (h3 : rows.length = body.length) (h4 : ∀ row ∈ rows, row.length = 12)
      (h5 : ∀ (i : Nat) (row : List Value) (x : St), rows[i]? = some row → body[i]? = some x → StAt σ row x) (h6 : 0 < body.length → ∃ g o, p = some ⟨g, o, none⟩ ∧ PRow σ g o rows.flatten)
      (g1 : els.length ≤ d) (g2 : d ≤ maxLen) (g3 : qows.length = els.length) (g4 : ∀ row ∈ qows, row.length = 12)
      (g5 : ∀ (i : Nat) (row : List Value) (x : St), qows[i]? = some row → els[i]? = some x → StAt σ row x) (g6 : 0 < els.length → ∃ g o, q = some ⟨g, o, none⟩ ∧ PRow σ g o qows.flatten) :
      StAt σ (i64 op :: i64 v :: (ce ++ cf ++ [.slice p body.length c, .slice q els.length d])) (.mk op v e f body els)
theorem ExAt.inv {σ : PH} {cs : List Value} {x : Ex} (h : ExAt σ cs x) : ∃ p c, cs = [i64 x.op, i64 x.v, i64 x.n, .slice p x.l.length c] ∧ i64ok x.op ∧ i64ok x.v ∧ i64ok x.n ∧ PSl 4 ExAt σ (.slice p x.l.length c) x.l := by
  cases h with
  | mk rows ho hv hn h1 h2 h3 h4 h5 h6 => exact ⟨_, _, rfl, ho, hv, hn, _, _, rows, rfl, h1, h2, h3, h4, h5, h6⟩
theorem ExAt.of {σ : PH} {op v n : Int} {l : List Ex} {sl : Value} (ho : i64ok op) (hv : i64ok v) (hn : i64ok n) (h : PSl 4 ExAt σ sl l) : ExAt σ [i64 op, i64 v, i64 n, sl] (.mk op v n l) := by
  obtain ⟨p, c, rows, rfl, h1, h2, h3, h4, h5, h6⟩ := h
  exact .mk rows ho hv hn h1 h2 h3 h4 h5 h6
theorem ExAt.len {σ : PH} {cs : List Value} {x : Ex} (h : ExAt σ cs x) : cs.length = 4 := by cases h; rfl
theorem StAt.inv {σ : PH} {cs : List Value} {x : St} (h : StAt σ cs x) : ∃ ce cf p c q d, cs = i64 x.op :: i64 x.v :: (ce ++ cf ++ [.slice p x.body.length c, .slice q x.els.length d]) ∧ i64ok x.op ∧ i64ok x.v ∧ ExAt σ ce x.e ∧ ExAt σ cf x.f ∧ PSl 12 StAt σ (.slice p x.body.length c) x.body ∧ PSl 12 StAt σ (.slice q x.els.length d) x.els := by
  cases h with
  | mk rows qows ho hv he hf h1 h2 h3 h4 h5 h6 g1 g2 g3 g4 g5 g6 => exact ⟨_, _, _, _, _, _, rfl, ho, hv, he, hf, ⟨_, _, rows, rfl, h1, h2, h3, h4, h5, h6⟩, ⟨_, _, qows, rfl, g1, g2, g3, g4, g5, g6⟩⟩
theorem StAt.of {σ : PH} {op v : Int} {e f : Ex} {ce cf : List Value} {body els : List St} {sb se : Value} (ho : i64ok op) (hv : i64ok v) (he : ExAt σ ce e) (hf : ExAt σ cf f) (hb : PSl 12 StAt σ sb body) (hl : PSl 12 StAt σ se els) :
    StAt σ (i64 op :: i64 v :: (ce ++ cf ++ [sb, se])) (.mk op v e f body els) := by
  obtain ⟨p, c, rows, rfl, h1, h2, h3, h4, h5, h6⟩ := hb
  obtain ⟨q, d, qows, rfl, g1, g2, g3, g4, g5, g6⟩ := hl
  exact .mk rows qows ho hv he hf h1 h2 h3 h4 h5 h6 g1 g2 g3 g4 g5 g6
theorem StAt.len {σ : PH} {cs : List Value} {x : St} (h : StAt σ cs x) : cs.length = 12 := by
  obtain ⟨ce, cf, p, c, q, d, rfl, -, -, he, hf, -⟩ := h.inv
  simp [he.len, hf.len]
theorem ExAt.ones {σ : PH} {cs : List Value} {x : Ex} (h : ExAt σ cs x) : X.ones cs := by
  obtain ⟨p, c, rfl, -⟩ := h.inv; exact ones_lit rfl
theorem StAt.inv12 {σ : PH} {cs : List Value} {x : St} (h : StAt σ cs x) : ∃ pe de pf df p c q d, cs = [i64 x.op, i64 x.v, i64 x.e.op, i64 x.e.v, i64 x.e.n, .slice pe x.e.l.length de, i64 x.f.op, i64 x.f.v, i64 x.f.n, .slice pf x.f.l.length df, .slice p x.body.length c, .slice q x.els.length d] ∧
    i64ok x.op ∧ i64ok x.v ∧ ExAt σ [i64 x.e.op, i64 x.e.v, i64 x.e.n, .slice pe x.e.l.length de] x.e ∧ ExAt σ [i64 x.f.op, i64 x.f.v, i64 x.f.n, .slice pf x.f.l.length df] x.f ∧ PSl 12 StAt σ (.slice p x.body.length c) x.body ∧ PSl 12 StAt σ (.slice q x.els.length d) x.els := by
  obtain ⟨ce, cf, p, c, q, d, rfl, h1, h2, h3, h4, h5, h6⟩ := h.inv
  obtain ⟨pe, de, rfl, -⟩ := h3.inv
  obtain ⟨pf, df, rfl, -⟩ := h4.inv
  exact ⟨pe, de, pf, df, p, c, q, d, rfl, h1, h2, h3, h4, h5, h6⟩
theorem StAt.ones {σ : PH} {cs : List Value} {x : St} (h : StAt σ cs x) : X.ones cs := by
  obtain ⟨pe, de, pf, df, p, c, q, d, rfl, -⟩ := h.inv12; exact ones_lit rfl
theorem ExAt.mono {σ σ' : PH} (s : σ.sub σ') {cs : List Value} {x : Ex} (h : ExAt σ cs x) : ExAt σ' cs x := by
  induction h with
  | mk rows ho hv hn h1 h2 h3 h4 h5 h6 ih => exact .mk rows ho hv hn h1 h2 h3 h4 ih (fun hp => by obtain ⟨g, o, e, r⟩ := h6 hp; exact ⟨g, o, e, r.mono s⟩)
theorem StAt.mono {σ σ' : PH} (s : σ.sub σ') {cs : List Value} {x : St} (h : StAt σ cs x) : StAt σ' cs x := by
  induction h with
  | mk rows qows ho hv he hf h1 h2 h3 h4 h5 h6 g1 g2 g3 g4 g5 g6 ih jh =>
    exact .mk rows qows ho hv (he.mono s) (hf.mono s) h1 h2 h3 h4 ih (fun hp => by obtain ⟨g, o, e, r⟩ := h6 hp; exact ⟨g, o, e, r.mono s⟩) g1 g2 g3 g4 jh (fun hp => by obtain ⟨g, o, e, r⟩ := g6 hp; exact ⟨g, o, e, r.mono s⟩)
namespace X
/-- As Dec, by so much fuel at most. -/
structure DecN {α : Type} (n : Nat) (P : Program) (t : TypeId) (R : RT α) : Prop where
  out : ∀ {H : Type} {enc : TypeId × Value → H} {w : World} {fuel : Nat} {cs : List Value} {x : DataW H × List MemPlace}, fuel ≤ n → DataW.trod enc P w 0 (fun _ => true) true fuel t cs = some x → ∃ y, R (ofHeap w.heap) cs y
variable {P : Program} {t e : TypeId} {α : Type}
theorem DecN.all {R : RT α} (h : ∀ n, DecN n P t R) : Dec P t R := ⟨fun {_ _ _ fuel _ _} hx => (h fuel).out (Nat.le_refl _) hx⟩
theorem Dec.n {R : RT α} (h : Dec P t R) (n : Nat) : DecN n P t R := ⟨fun _ hx => h.out hx⟩
theorem DecN.less {R : RT α} {m n : Nat} (hm : m ≤ n) (h : DecN n P t R) : DecN m P t R := ⟨fun hf hx => h.out (Nat.le_trans hf hm) hx⟩
theorem DecN.zero {R : RT α} : DecN 0 P t R := ⟨fun hf hx => by obtain ⟨k, rfl⟩ := trod_pos hx; omega⟩
theorem DecN.slice {r re : Ty} {s n : Nat} {R : RT α} (hT : tyOf P t = some r) (hk : r.k = .slice e) (hE : tyOf P e = some re) (hs : re.size = s) (hs0 : 0 < s) (hd : DecN n P e R) : DecN n P t (rSl s R) := ⟨fun {H enc w fuel cs x} hfuel h => by
  obtain ⟨d, e1, e2, -⟩ := und_of hT
  obtain ⟨d', -, -, e3⟩ := und_of hE
  rw [hk] at e2
  cases d <;> simp [kindOf] at e2
  subst e2
  obtain ⟨rfl, -⟩ | ⟨a, len, cap, elems, rest, n', rfl, rfl, -, -, hle, hcap, hlen, hel, -, -⟩ := DataW.trod_slice e1 h
  · exact ⟨[], _, rfl, PSl.nil _ _ _⟩
  · rw [e3, hs] at hel
    have hrow : ∀ i, i < len → ∃ row, row.length = s ∧ (∀ j, j < s → w.cell? ((a.add (i * s)).add j) = row[j]?) ∧ ∃ y, R (ofHeap w.heap) row y := fun i hi => by
      have hy := hel i hi
      rw [List.getElem?_eq_getElem (by omega)] at hy
      simp only [Option.bind_eq_some_iff] at hy
      obtain ⟨row, h1, h2⟩ := hy
      obtain ⟨-, h3, h4⟩ := World.cells?_some h1
      exact ⟨row, h3, h4, hd.out (by omega) h2⟩
    exact rows_slice hs0 hle hcap hrow⟩
/-- The parts of a struct, by less fuel. -/
theorem trod_fieldsN {r : Ty} {fs : List (TypeId × Nat)} (hT : tyOf P t = some r) (hk : r.k = .struct fs) {H : Type} {enc : TypeId × Value → H} {w : World} {fuel : Nat} {cs : List Value} {x : DataW H × List MemPlace} (h : DataW.trod enc P w 0 (fun _ => true) true fuel t cs = some x) :
    ∃ n, fuel = n + 1 ∧ cs.length = r.size ∧ ∀ f ∈ fs, ∃ y, DataW.trod enc P w 0 (fun _ => true) true n f.1 ((cs.drop f.2).take (P.cellsOf f.1)) = some y := by
  obtain ⟨d, e1, e2, e3⟩ := und_of hT
  rw [hk] at e2
  cases d <;> simp [kindOf] at e2
  rename_i fields
  subst e2
  obtain ⟨n, rfl⟩ := trod_pos h
  unfold DataW.trod at h
  rw [e1] at h
  dsimp only at h
  split at h
  · rename_i hl
    refine ⟨n, rfl, by rw [hl, e3], fun f hf => ?_⟩
    simp only [Option.map_eq_some_iff] at h
    obtain ⟨xs, hxs, -⟩ := h
    simp only [List.mem_map] at hf
    obtain ⟨fd, hfd, rfl⟩ := hf
    obtain ⟨y, hy⟩ := mapM_mem hxs fd hfd
    exact ⟨y, hy⟩
  · cases h
theorem cellsOf_ty {r : Ty} (hT : tyOf P t = some r) : P.cellsOf t = r.size := by obtain ⟨d, -, -, e3⟩ := und_of hT; exact e3
theorem list2 {α : Type} : ∀ {l : List α}, l.length = 2 → ∃ a b, l = [a, b]
  | [a, b], _ => ⟨a, b, rfl⟩
theorem list4 {α : Type} : ∀ {l : List α}, l.length = 4 → ∃ a b c d, l = [a, b, c, d]
  | [a, b, c, d], _ => ⟨a, b, c, d, rfl⟩
theorem list12 {α : Type} {l : List α} (h : l.length = 12) : ∃ a b c d e f g i j k m n, l = [a, b, c, d, e, f, g, i, j, k, m, n] := by
  obtain ⟨a, b, c, d, h1⟩ := list4 (l := l.take 4) (by simp [h])
  obtain ⟨e, f, g, i, h2⟩ := list4 (l := (l.drop 4).take 4) (by simp [h])
  obtain ⟨j, k, m, n, h3⟩ := list4 (l := l.drop 8) (by simp [h])
  refine ⟨a, b, c, d, e, f, g, i, j, k, m, n, ?_⟩
  have e1 := List.take_append_drop 4 l
  have e2 := List.take_append_drop 4 (l.drop 4)
  rw [List.drop_drop, h3, h2] at e2
  rw [h1, ← e2] at e1
  exact e1.symm
end X
open X
theorem dec_ex : ∀ n, DecN n Try.prog 44 ExAt := by
  intro n
  induction n with
  | zero => exact DecN.zero
  | succ n ih =>
    refine ⟨fun {H enc w fuel cs x} hf h => ?_⟩
    obtain ⟨k, rfl, hl, hx⟩ := trod_fieldsN (tyrow rfl) rfl h
    have hk : k ≤ n := by omega
    obtain ⟨y0, h0⟩ := hx (3, 0) (by simp)
    obtain ⟨y1, h1⟩ := hx (3, 1) (by simp)
    obtain ⟨y2, h2⟩ := hx (2, 2) (by simp)
    obtain ⟨y3, h3⟩ := hx (42, 3) (by simp)
    obtain ⟨a0, p0, q0⟩ := (Dec.int (tyrow rfl) rfl).out h0
    obtain ⟨a1, p1, q1⟩ := (Dec.int (tyrow rfl) rfl).out h1
    obtain ⟨a2, p2, q2⟩ := (Dec.int (tyrow rfl) rfl).out h2
    obtain ⟨a3, v3, p3, q3⟩ := (DecN.slice (tyrow rfl) rfl (tyrow rfl) rfl (by decide) (ih.less hk)).out (Nat.le_refl _) h3
    rw [cellsOf_ty (tyrow rfl)] at p0 p1 p2 p3
    have hcs : cs.length = 4 := hl
    obtain ⟨c0, c1, c2, c3, rfl⟩ := list4 hcs
    next =>
      simp only [List.drop_zero, List.drop_succ_cons] at p0 p1 p2 p3
      have e0 : c0 = i64 a0 := by have := congrArg (·[0]?) p0; simpa using this
      have e1 : c1 = i64 a1 := by have := congrArg (·[0]?) p1; simpa using this
      have e2 : c2 = i64 a2 := by have := congrArg (·[0]?) p2; simpa using this
      have e3 : c3 = v3 := by have := congrArg (·[0]?) p3; simpa using this
      subst e0 e1 e2 e3
      exact ⟨_, ExAt.of q0 q1 q2 q3⟩
theorem dec_st : ∀ n, DecN n Try.prog 46 StAt := by
  intro n
  induction n with
  | zero => exact DecN.zero
  | succ n ih =>
    refine ⟨fun {H enc w fuel cs x} hf h => ?_⟩
    obtain ⟨k, rfl, hl, hx⟩ := trod_fieldsN (tyrow rfl) rfl h
    have hk : k ≤ n := by omega
    obtain ⟨y0, h0⟩ := hx (3, 0) (by simp)
    obtain ⟨y1, h1⟩ := hx (3, 1) (by simp)
    obtain ⟨y2, h2⟩ := hx (44, 2) (by simp)
    obtain ⟨y3, h3⟩ := hx (44, 6) (by simp)
    obtain ⟨y4, h4⟩ := hx (23, 10) (by simp)
    obtain ⟨y5, h5⟩ := hx (23, 11) (by simp)
    obtain ⟨a0, p0, q0⟩ := (Dec.int (tyrow rfl) rfl).out h0
    obtain ⟨a1, p1, q1⟩ := (Dec.int (tyrow rfl) rfl).out h1
    obtain ⟨a2, q2⟩ := (dec_ex k).out (Nat.le_refl _) h2
    obtain ⟨a3, q3⟩ := (dec_ex k).out (Nat.le_refl _) h3
    obtain ⟨a4, v4, p4, q4⟩ := (DecN.slice (tyrow rfl) rfl (tyrow rfl) rfl (by decide) (ih.less hk)).out (Nat.le_refl _) h4
    obtain ⟨a5, v5, p5, q5⟩ := (DecN.slice (tyrow rfl) rfl (tyrow rfl) rfl (by decide) (ih.less hk)).out (Nat.le_refl _) h5
    rw [cellsOf_ty (tyrow rfl)] at p0 p1 p4 p5 q2 q3
    have hcs : cs.length = 12 := hl
    obtain ⟨c0, c1, c2, c3, c4, c5, c6, c7, c8, c9, c10, c11, rfl⟩ := list12 hcs
    next =>
      simp only [List.drop_zero, List.drop_succ_cons] at p0 p1 p4 p5 q2 q3
      have e0 : c0 = i64 a0 := by have := congrArg (·[0]?) p0; simpa using this
      have e1 : c1 = i64 a1 := by have := congrArg (·[0]?) p1; simpa using this
      have e4 : c10 = v4 := by have := congrArg (·[0]?) p4; simpa using this
      have e5 : c11 = v5 := by have := congrArg (·[0]?) p5; simpa using this
      subst e0 e1 e4 e5
      exact ⟨_, StAt.of q0 q1 q2 q3 q4 q5⟩
def rVa : RT Va := fun _ cs v => cs = [.string v.name, i64 v.size] ∧ i64ok v.size ∧ v.name.size ≤ maxLen
theorem dec_va : Dec Try.prog 37 rVa := ⟨fun {H enc w fuel cs x} h => by
  obtain ⟨k, rfl, hl, hx⟩ := trod_fieldsN (tyrow rfl) rfl h
  obtain ⟨y0, h0⟩ := hx (9, 0) (by simp)
  obtain ⟨y1, h1⟩ := hx (3, 1) (by simp)
  obtain ⟨a0, p0, q0⟩ := (Dec.str (tyrow rfl) rfl).out h0
  obtain ⟨a1, p1, q1⟩ := (Dec.int (tyrow rfl) rfl).out h1
  rw [cellsOf_ty (tyrow rfl)] at p0 p1
  have hcs : cs.length = 2 := hl
  obtain ⟨c0, c1, rfl⟩ := list2 hcs
  next =>
    simp only [List.drop_zero, List.drop_succ_cons] at p0 p1
    have e0 : c0 = .string a0 := by have := congrArg (·[0]?) p0; simpa using this
    have e1 : c1 = i64 a1 := by have := congrArg (·[0]?) p1; simpa using this
    subst e0 e1
    exact ⟨⟨a0, a1⟩, rfl, q1, q0⟩⟩
/-- A program in memory: its two cells. -/
def PrAt (σ : PH) (cs : List Value) (p : Pr) : Prop := ∃ vs bs, cs = [vs, bs] ∧ PSl 2 rVa σ vs p.vars ∧ PSl 12 StAt σ bs p.body
theorem dec_pr : Dec Try.prog 25 PrAt := ⟨fun {H enc w fuel cs x} h => by
  obtain ⟨k, rfl, hl, hx⟩ := trod_fieldsN (tyrow rfl) rfl h
  obtain ⟨y0, h0⟩ := hx (22, 0) (by simp)
  obtain ⟨y1, h1⟩ := hx (23, 1) (by simp)
  obtain ⟨a0, v0, p0, q0⟩ := (Dec.slice (tyrow rfl) rfl (tyrow rfl) rfl (by decide) dec_va).out h0
  obtain ⟨a1, v1, p1, q1⟩ := (DecN.slice (tyrow rfl) rfl (tyrow rfl) rfl (by decide) (dec_st k)).out (Nat.le_refl _) h1
  rw [cellsOf_ty (tyrow rfl)] at p0 p1
  have hcs : cs.length = 2 := hl
  obtain ⟨c0, c1, rfl⟩ := list2 hcs
  next =>
    simp only [List.drop_zero, List.drop_succ_cons] at p0 p1
    have e0 : c0 = v0 := by have := congrArg (·[0]?) p0; simpa using this
    have e1 : c1 = v1 := by have := congrArg (·[0]?) p1; simpa using this
    subst e0 e1
    exact ⟨⟨a0, a1⟩, _, _, rfl, q0, q1⟩⟩
theorem PrAt.mono {σ σ' : PH} (s : σ.sub σ') {cs : List Value} {p : Pr} (h : PrAt σ cs p) : PrAt σ' cs p := by
  obtain ⟨vs, bs, rfl, h1, h2⟩ := h
  exact ⟨vs, bs, rfl, h1.mono s (fun _ _ h => h), h2.mono s (fun _ _ h => h.mono s)⟩
end Go.Proofs.Ytbbghdkndbpmmaa

namespace Go.Proofs.Ytbbghdkndbpmmaa
namespace X
open Go
variable {P : Program} {ρ : Env} {S : Heap → Prop} {ty : TypeId}
/-- The byte at a place. -/
def byteAt (s : ByteArray) (i : Nat) : Nat := if h : i < s.size then (s[i]'h).toNat else 0
theorem byteAt_lt (s : ByteArray) (i : Nat) : byteAt s i < 256 := by
  unfold byteAt; split
  · exact UInt8.toNat_lt _
  · decide
theorem Rd.indexStr {T : TypeId} {x y : Operand} {r : Ty} {s : ByteArray} {i : Nat} {kk : IntKind} (hT : tyOf P T = some r) (hk : r.k = .string) (hx : ev ρ x = .string s) (hy : ev ρ y = .int kk i) (hi : i < s.size) : Rd P ρ S (.index T x y) ty (.int .u8 (byteAt s i)) := by
  refine .pure fun d pos af gd w => ?_
  obtain ⟨dd, ii, z, e1, e2, -⟩ := tyOf_spec hT
  rw [hk] at e2
  cases dd <;> simp [kindOf] at e2
  have h := run_index_string (P := P) w T s kk i e1
  rw [dif_pos ⟨by omega, by omega⟩] at h
  simp only [execOp, hx, hy, Sem.run_bind, h, Result.andThen_ok, Sem.run_pure, byteAt, hi, dif_pos, Int.toNat_natCast]
theorem str_eq (a b : ByteArray) : (a.toList == b.toList) = decide (a = b) := by
  rw [ByteArray.toList_eq, ByteArray.toList_eq]
  obtain ⟨⟨x⟩⟩ := a
  obtain ⟨⟨y⟩⟩ := b
  by_cases h : x = y
  · subst h; simp
  · simp [h]
theorem Rd.eqls {T T' : TypeId} {x y : Operand} {a b : ByteArray} (hx : ev ρ x = .string a) (hy : ev ρ y = .string b) : Rd P ρ S (.binOp .eql T x y T') ty (.bool (decide (a = b))) := by
  refine .pure fun d pos af gd w => ?_
  simp only [execOp, eqGuard, hx, hy, binOp, Op.stringOp, Sem.run_bind, str_eq]
  simp
theorem Rd.neqs {T T' : TypeId} {x y : Operand} {a b : ByteArray} (hx : ev ρ x = .string a) (hy : ev ρ y = .string b) : Rd P ρ S (.binOp .neq T x y T') ty (.bool (decide (a ≠ b))) := by
  refine .pure fun d pos af gd w => ?_
  simp only [execOp, eqGuard, hx, hy, binOp, Op.stringOp, Sem.run_bind, str_eq]
  by_cases h : a = b <;> simp [h]
theorem Rd.max2 {x y : Operand} {a b : Int} {ats : Array TypeId} (hx : ev ρ x = i64 a) (hy : ev ρ y = i64 b) : Rd P ρ S (.call { callee := .builtin .max, args := #[x, y], argTypes := ats }) ty (i64 (if b > a then b else a)) := by
  refine .pure fun d pos af gd w => ?_
  simp [execOp, resolve, invoke, builtin, hx, hy, run_max_int2]
theorem Rd.min2 {x y : Operand} {a b : Int} {ats : Array TypeId} (hx : ev ρ x = i64 a) (hy : ev ρ y = i64 b) : Rd P ρ S (.call { callee := .builtin .min, args := #[x, y], argTypes := ats }) ty (i64 (if b < a then b else a)) := by
  refine .pure fun d pos af gd w => ?_
  simp [execOp, resolve, invoke, builtin, hx, hy, run_min_int2]
/-- A variable. -/
def vav (v : Va) : Value := .agg [.string v.name, i64 v.size].toArray
end X
end Go.Proofs.Ytbbghdkndbpmmaa

namespace Go.Proofs.Ytbbghdkndbpmmaa
open Go X
def partsOf (op : Int) : Int := if op = 1 ∨ op = 2 then 0 else if op = 3 then 1 else if 4 ≤ op ∧ op ≤ 8 then 2 else -1
def needE (op : Int) : Bool := decide (op = 1 ∨ op = 2 ∨ op = 3 ∨ op = 5 ∨ op = 6)
def needF (op : Int) : Bool := decide (op = 2)
def needV (op : Int) : Bool := decide (op = 1 ∨ op = 2 ∨ op = 4)
def needB (op : Int) : Bool := decide (op = 5 ∨ op = 6)
def needO (op : Int) : Bool := decide (op = 6)
/-- What is left of the parts, or a fault's code. -/
abbrev JE := Except Int Int
def JE.fail (e : JE) (b : Bool) (c : Int) : JE := match e with | .ok l => if b then .error c else .ok l | .error d => .error d
def JE.one (e : JE) (deep : Int) : JE := match e with | .ok l => if 12 < deep then .error 4 else if l = 0 then .error 3 else .ok (l - 1) | .error d => .error d
def JE.named (e : JE) (nv v : Int) (is : Bool) : JE := (e.fail (is && decide (v < 0 ∨ nv ≤ v)) 1).fail (!is && decide (v ≠ 0)) 5
def exHead (nv deep op v n : Int) (k : Nat) (e : JE) : JE := (((e.one deep).fail (decide (partsOf op < 0)) 2).fail (decide ((k : Int) ≠ partsOf op ∨ (n ≠ 0 ∧ op ≠ 1))) 5).named nv v (decide (op = 2 ∨ op = 3))
mutual
def exE (nv : Int) : Int → Ex → JE → JE
  | deep, .mk op v n l, e => exsE nv (deep + 1) l (exHead nv deep op v n l.length e)
def exsE (nv : Int) : Int → List Ex → JE → JE
  | _, [], e => e
  | deep, x :: l, e => exsE nv deep l (exE nv deep x e)
end
def noneX (x : Ex) : Bool := decide (x.op = 0 ∧ x.v = 0 ∧ x.n = 0 ∧ x.l.length = 0)
def stForm (op : Int) (e f : Ex) (kb ke : Nat) : Bool := (!needE op && !noneX e) || (!needF op && !noneX f) || (!needB op && decide ((0 : Int) < (kb : Int))) || (!needO op && decide ((0 : Int) < (ke : Int)))
def stHead (nv deep op v : Int) (e f : Ex) (kb ke : Nat) (s : JE) : JE := (((s.one deep).fail (decide (op < 1 ∨ 7 < op)) 2).fail (stForm op e f kb ke) 5).named nv v (needV op)
def stEF (nv deep op : Int) (e f : Ex) (s : JE) : JE :=
  let s1 := if needE op then exE nv deep e s else s
  if needF op then exE nv deep f s1 else s1
mutual
def stE (nv : Int) : Int → St → JE → JE
  | deep, .mk op v e f body els, s => stsE nv (deep + 1) els (stsE nv (deep + 1) body (stEF nv (deep + 1) op e f (stHead nv deep op v e f body.length els.length s)))
def stsE (nv : Int) : Int → List St → JE → JE
  | _, [], s => s
  | deep, x :: l, s => stsE nv deep l (stE nv deep x s)
end
def nameOk (s : ByteArray) : Bool := decide ((∀ i, i < s.size → 97 ≤ byteAt s i ∧ byteAt s i ≤ 122) ∧ 1 ≤ s.size ∧ s.size ≤ 8)
def sizes (l : List Va) : Int := (l.map (·.size)).sum
def varsGo (seen : List Va) (n : Int) : List Va → Int
  | [] => 0
  | v :: l => if nameOk v.name = false then 8 else if ∃ w ∈ seen, w.name = v.name then 9 else if v.size < 1 ∨ 48 - n < v.size then 1 else varsGo (seen ++ [v]) (n + v.size) l
def JE.code : JE → Int | .ok _ => 0 | .error c => c
def checkVars (l : List Va) : Int := if 8 < l.length then 3 else varsGo [] 0 l
def checkP (p : Pr) : Int := if checkVars p.vars ≠ 0 then checkVars p.vars else (stsE p.vars.length 0 p.body (.ok 150)).code
def cellOf (l : List Va) (v : Int) : Int := sizes (l.take v.toNat)
/-! how many parts -/
mutual
def exN : Ex → Nat
  | .mk _ _ _ l => 1 + exsN l
def exsN : List Ex → Nat
  | [] => 0
  | x :: l => exN x + exsN l
end
mutual
def stN : St → Nat
  | .mk _ _ e f body els => 1 + exN e + exN f + stsN body + stsN els
def stsN : List St → Nat
  | [] => 0
  | x :: l => stN x + stsN l
end
theorem exN_pos (x : Ex) : 1 ≤ exN x := by cases x; simp [exN]
theorem stN_pos (x : St) : 3 ≤ stN x := by
  cases x with
  | mk op v e f b l => have := exN_pos e; have := exN_pos f; simp only [stN]; omega
theorem exsN_len : ∀ l : List Ex, l.length ≤ exsN l
  | [] => Nat.le_refl _
  | x :: l => by have := exsN_len l; have := exN_pos x; simp only [exsN, List.length_cons]; omega
theorem stsN_len : ∀ l : List St, l.length * 3 ≤ stsN l
  | [] => Nat.le_refl _
  | x :: l => by have := stsN_len l; have := stN_pos x; simp only [stsN, List.length_cons]; omega
theorem exsN_app : ∀ (l m : List Ex), exsN (l ++ m) = exsN l + exsN m
  | [], m => by simp [exsN]
  | x :: l, m => by have := exsN_app l m; simp only [List.cons_append, exsN, this]; omega
theorem stsN_app : ∀ (l m : List St), stsN (l ++ m) = stsN l + stsN m
  | [], m => by simp [stsN]
  | x :: l, m => by have := stsN_app l m; simp only [List.cons_append, stsN, this]; omega
/-! errors stay -/
@[simp] theorem fail_err (c : Int) (b : Bool) (d : Int) : JE.fail (.error c) b d = .error c := rfl
@[simp] theorem one_err (c d : Int) : JE.one (.error c) d = .error c := rfl
@[simp] theorem named_err (c nv v : Int) (is : Bool) : JE.named (.error c) nv v is = .error c := rfl
@[simp] theorem fail_false (e : JE) (d : Int) : JE.fail e false d = e := by cases e <;> rfl
@[simp] theorem exHead_err (nv deep op v n : Int) (k : Nat) (c : Int) : exHead nv deep op v n k (.error c) = .error c := rfl
@[simp] theorem stHead_err (nv deep op v : Int) (e f : Ex) (kb ke : Nat) (c : Int) : stHead nv deep op v e f kb ke (.error c) = .error c := rfl
theorem exsE_err' (nv c : Int) : ∀ (l : List Ex), (∀ x ∈ l, ∀ deep, exE nv deep x (.error c) = .error c) → ∀ deep, exsE nv deep l (.error c) = .error c
  | [], _, _ => rfl
  | x :: l, h, deep => by rw [exsE, h x (by simp)]; exact exsE_err' nv c l (fun y hy => h y (by simp [hy])) deep
@[simp] theorem exE_err (nv c : Int) (x : Ex) : ∀ deep, exE nv deep x (.error c) = .error c := by
  refine Ex.ind (P := fun x => ∀ deep, exE nv deep x (.error c) = .error c) ?_ x
  intro op v n l ih deep
  rw [exE, exHead_err]
  exact exsE_err' nv c l ih _
@[simp] theorem exsE_err (nv c : Int) (l : List Ex) (deep : Int) : exsE nv deep l (.error c) = .error c := exsE_err' nv c l (fun x _ => exE_err nv c x) deep
@[simp] theorem stEF_err (nv deep op : Int) (e f : Ex) (c : Int) : stEF nv deep op e f (.error c) = .error c := by simp [stEF]
theorem stsE_err' (nv c : Int) : ∀ (l : List St), (∀ x ∈ l, ∀ deep, stE nv deep x (.error c) = .error c) → ∀ deep, stsE nv deep l (.error c) = .error c
  | [], _, _ => rfl
  | x :: l, h, deep => by rw [stsE, h x (by simp)]; exact stsE_err' nv c l (fun y hy => h y (by simp [hy])) deep
@[simp] theorem stE_err (nv c : Int) (x : St) : ∀ deep, stE nv deep x (.error c) = .error c := by
  refine St.ind (P := fun x => ∀ deep, stE nv deep x (.error c) = .error c) ?_ x
  intro op v e f body els ih jh deep
  rw [stE, stHead_err, stEF_err, stsE_err' nv c body ih, stsE_err' nv c els jh]
@[simp] theorem stsE_err (nv c : Int) (l : List St) (deep : Int) : stsE nv deep l (.error c) = .error c := stsE_err' nv c l (fun x _ => stE_err nv c x) deep
theorem exsE_app (nv deep : Int) : ∀ (l m : List Ex) (s : JE), exsE nv deep (l ++ m) s = exsE nv deep m (exsE nv deep l s)
  | [], _, _ => rfl
  | x :: l, m, s => by rw [List.cons_append, exsE, exsE, exsE_app nv deep l m]
theorem stsE_app (nv deep : Int) : ∀ (l m : List St) (s : JE), stsE nv deep (l ++ m) s = stsE nv deep m (stsE nv deep l s)
  | [], _, _ => rfl
  | x :: l, m, s => by rw [List.cons_append, stsE, stsE, stsE_app nv deep l m]
theorem exsE_snoc (nv deep : Int) (l : List Ex) (k : Nat) (x : Ex) (s : JE) (h : l[k]? = some x) : exsE nv deep (l.take (k + 1)) s = exE nv deep x (exsE nv deep (l.take k) s) := by
  rw [List.take_add_one, h]; simp [exsE_app, exsE]
theorem stsE_snoc (nv deep : Int) (l : List St) (k : Nat) (x : St) (s : JE) (h : l[k]? = some x) : stsE nv deep (l.take (k + 1)) s = stE nv deep x (stsE nv deep (l.take k) s) := by
  rw [List.take_add_one, h]; simp [stsE_app, stsE]
theorem sizes_take (l : List Va) (k : Nat) (x : Va) (h : l[k]? = some x) : sizes (l.take (k + 1)) = sizes (l.take k) + x.size := by
  rw [List.take_add_one, h]; simp [sizes, List.sum_append]
end Go.Proofs.Ytbbghdkndbpmmaa

namespace Go.Proofs.Ytbbghdkndbpmmaa
open Go X
/-- From more parts, and less deep, it comes through too. -/
structure Down (F : Int → JE → JE) : Prop where
  err : ∀ d c, F d (.error c) = .error c
  ok : ∀ d a b, 0 ≤ a → F d (.ok a) = .ok b → 0 ≤ b ∧ b ≤ a ∧ ∀ d' a', d' ≤ d → a ≤ a' → F d' (.ok a') = .ok (a' - a + b)
  nz : ∀ d a c, F d (.ok a) = .error c → c ≠ 0
theorem Down.id : Down fun _ e => e := ⟨fun _ _ => rfl, fun d a b h e => by
  simp only [Except.ok.injEq] at e; subst e
  exact ⟨h, Int.le_refl _, fun d' a' _ _ => by simp⟩, fun _ _ _ e => by cases e⟩
theorem Down.comp {F G : Int → JE → JE} (hF : Down F) (hG : Down G) : Down fun d e => G d (F d e) := by
  refine ⟨fun d c => by rw [hF.err, hG.err], fun d a b h e => ?_, fun d a c e => ?_⟩
  · cases hf : F d (.ok a) with
    | error c => rw [hf, hG.err] at e; cases e
    | ok m =>
      rw [hf] at e
      obtain ⟨h1, h2, h3⟩ := hF.ok d a m h hf
      obtain ⟨g1, g2, g3⟩ := hG.ok d m b h1 e
      refine ⟨g1, by omega, fun d' a' hd ha => ?_⟩
      rw [h3 d' a' hd ha, g3 d' _ hd (by omega)]
      congr 1; omega
  · cases hf : F d (.ok a) with
    | error c' => rw [hf, hG.err] at e; simp only [Except.error.injEq] at e; subst e; exact hF.nz _ _ _ hf
    | ok m => rw [hf] at e; exact hG.nz _ _ _ e
theorem Down.shift {F : Int → JE → JE} (hF : Down F) : Down fun d e => F (d + 1) e :=
  ⟨fun d c => hF.err _ _, fun d a b h e => by
    obtain ⟨h1, h2, h3⟩ := hF.ok _ _ _ h e
    exact ⟨h1, h2, fun d' a' hd ha => h3 _ _ (by omega) ha⟩, fun d a c e => hF.nz _ _ _ e⟩
theorem Down.fail (b : Bool) {c : Int} (hc : c ≠ 0) : Down fun _ e => JE.fail e b c := by
  cases b with
  | false => simpa using Down.id
  | true => exact ⟨fun _ _ => rfl, fun d a b h e => by simp [JE.fail] at e, fun d a c' e => by simp [JE.fail] at e; subst e; exact hc⟩
theorem Down.one : Down fun d e => JE.one e d := by
  refine ⟨fun _ _ => rfl, fun d a b h e => ?_, fun d a c e => ?_⟩
  · simp only [JE.one] at e
    split at e
    · cases e
    · split at e
      · cases e
      · simp only [Except.ok.injEq] at e
        subst e
        refine ⟨by omega, by omega, fun d' a' hd ha => ?_⟩
        simp only [JE.one]
        rw [if_neg (by omega), if_neg (by omega)]
        congr 1; omega
  · simp only [JE.one] at e
    split at e
    · simp only [Except.error.injEq] at e; omega
    · split at e
      · simp only [Except.error.injEq] at e; omega
      · cases e
theorem Down.named (nv v : Int) (is : Bool) : Down fun _ e => JE.named e nv v is := (Down.fail _ (by decide)).comp (Down.fail _ (by decide))
theorem Down.exHead (nv op v n : Int) (k : Nat) : Down fun d e => exHead nv d op v n k e := ((Down.one.comp (Down.fail _ (by decide))).comp (Down.fail _ (by decide))).comp (Down.named _ _ _)
theorem Down.exsE' (nv : Int) : ∀ (l : List Ex), (∀ x ∈ l, Down fun d e => exE nv d x e) → Down fun d e => exsE nv d l e
  | [], _ => by simpa [Go.Proofs.Ytbbghdkndbpmmaa.exsE] using Down.id
  | x :: l, h => by
    have := (h x (by simp)).comp (Down.exsE' nv l (fun y hy => h y (by simp [hy])))
    simpa [Go.Proofs.Ytbbghdkndbpmmaa.exsE] using this
theorem Down.exE (nv : Int) (x : Ex) : Down fun d e => exE nv d x e := by
  refine Ex.ind (P := fun x => Down fun d e => Go.Proofs.Ytbbghdkndbpmmaa.exE nv d x e) ?_ x
  intro op v n l ih
  have := (Down.exHead nv op v n l.length).comp (Down.exsE' nv l ih).shift
  simpa [Go.Proofs.Ytbbghdkndbpmmaa.exE] using this
theorem Down.exsE (nv : Int) (l : List Ex) : Down fun d e => Go.Proofs.Ytbbghdkndbpmmaa.exsE nv d l e := Down.exsE' nv l (fun x _ => Down.exE nv x)
theorem Down.stEF (nv op : Int) (e f : Ex) : Down fun d s => stEF nv d op e f s := by
  unfold Go.Proofs.Ytbbghdkndbpmmaa.stEF
  by_cases h1 : needE op = true <;> by_cases h2 : needF op = true <;> simp only [h1, h2]
  · exact (Down.exE nv e).comp (Down.exE nv f)
  · exact Down.exE nv e
  · exact Down.exE nv f
  · exact Down.id
theorem Down.stHead (nv op v : Int) (e f : Ex) (kb ke : Nat) : Down fun d s => stHead nv d op v e f kb ke s := ((Down.one.comp (Down.fail _ (by decide))).comp (Down.fail _ (by decide))).comp (Down.named _ _ _)
theorem Down.stsE' (nv : Int) : ∀ (l : List St), (∀ x ∈ l, Down fun d e => stE nv d x e) → Down fun d e => stsE nv d l e
  | [], _ => by simpa [Go.Proofs.Ytbbghdkndbpmmaa.stsE] using Down.id
  | x :: l, h => by
    have := (h x (by simp)).comp (Down.stsE' nv l (fun y hy => h y (by simp [hy])))
    simpa [Go.Proofs.Ytbbghdkndbpmmaa.stsE] using this
theorem Down.stE (nv : Int) (x : St) : Down fun d e => stE nv d x e := by
  refine St.ind (P := fun x => Down fun d e => Go.Proofs.Ytbbghdkndbpmmaa.stE nv d x e) ?_ x
  intro op v e f body els ih jh
  have := (((Down.stHead nv op v e f body.length els.length).comp (Down.stEF nv op e f).shift).comp (Down.stsE' nv body ih).shift).comp (Down.stsE' nv els jh).shift
  simpa [Go.Proofs.Ytbbghdkndbpmmaa.stE] using this
theorem Down.stsE (nv : Int) (l : List St) : Down fun d e => stsE nv d l e := Down.stsE' nv l (fun x _ => Down.stE nv x)
theorem code_zero {e : JE} (hn : ∀ c, e = .error c → c ≠ 0) (h : e.code = 0) : ∃ b, e = .ok b := by
  cases e with
  | ok b => exact ⟨b, rfl⟩
  | error c => exact absurd h (hn c rfl)
/-- What a program is. -/
theorem check_ok {p : Pr} (h : checkP p = 0) : checkVars p.vars = 0 ∧ ∃ b, Go.Proofs.Ytbbghdkndbpmmaa.stsE p.vars.length 0 p.body (.ok 150) = .ok b := by
  unfold checkP at h
  split at h
  · exact absurd h (by assumption)
  · rename_i hv
    exact ⟨by simpa using hv, code_zero (fun c hc => (Down.stsE _ p.body).nz _ _ _ hc) h⟩
/-! cells -/
theorem sizes_cons (x : Va) (l : List Va) : sizes (x :: l) = x.size + sizes l := by simp [sizes]
theorem sizes_app (l m : List Va) : sizes (l ++ m) = sizes l + sizes m := by simp [sizes, List.sum_append]
theorem vars_ok : ∀ (l seen : List Va) (n : Int), n ≤ 48 → varsGo seen n l = 0 → (∀ x ∈ l, 1 ≤ x.size) ∧ n + sizes l ≤ 48
  | [], _, n, hn, _ => by simp [sizes]; exact hn
  | x :: l, seen, n, hn, h => by
    rw [varsGo] at h
    split at h
    · cases h
    · split at h
      · cases h
      · split at h
        · cases h
        · obtain ⟨h1, h2⟩ := vars_ok l _ _ (by omega) h
          refine ⟨fun y hy => ?_, by rw [sizes_cons]; omega⟩
          simp only [List.mem_cons] at hy
          rcases hy with rfl | hy
          · omega
          · exact h1 y hy
theorem check_sizes {l : List Va} (h : checkVars l = 0) : l.length ≤ 8 ∧ (∀ x ∈ l, 1 ≤ x.size) ∧ sizes l ≤ 48 := by
  unfold checkVars at h
  split at h
  · cases h
  · obtain ⟨h1, h2⟩ := vars_ok l [] 0 (by decide) h
    exact ⟨by omega, h1, by omega⟩
theorem sizes_nonneg : ∀ {l : List Va}, (∀ x ∈ l, 1 ≤ x.size) → 0 ≤ sizes l
  | [], _ => Int.le_refl _
  | x :: l, h => by have := sizes_nonneg (l := l) (fun y hy => h y (by simp [hy])); have := h x (by simp); rw [sizes_cons]; omega
theorem cells_le {l : List Va} (h : ∀ x ∈ l, 1 ≤ x.size) (v : Nat) : 0 ≤ sizes (l.take v) ∧ sizes (l.take v) ≤ sizes l := by
  refine ⟨sizes_nonneg (fun y hy => h y (List.mem_of_mem_take hy)), ?_⟩
  have h1 : sizes l = sizes (l.take v) + sizes (l.drop v) := by rw [← sizes_app, List.take_append_drop]
  have := sizes_nonneg (l := l.drop v) (fun y hy => h y (List.mem_of_mem_drop hy))
  omega
end Go.Proofs.Ytbbghdkndbpmmaa

namespace Go.Proofs.Ytbbghdkndbpmmaa
open Go X
/-- An instruction. -/
structure In where
  op : Int
  a : Int
  b : Int
  n : Int
deriving DecidableEq
def inC (i : In) : List Value := [i64 i.op, i64 i.a, i64 i.b, i64 i.n]
def sizeV (vs : List Va) (v : Int) : Int := (vs[v.toNat]?.map (·.size)).getD 0
def opIn (vs : List Va) (op v n : Int) : In := ⟨op, if op = 2 ∨ op = 3 then cellOf vs v else 0, if op = 3 then sizeV vs v else 0, n⟩
mutual
def exCode (vs : List Va) : Ex → List In
  | .mk op v n l => exsCode vs l ++ [opIn vs op v n]
def exsCode (vs : List Va) : List Ex → List In
  | [] => []
  | x :: l => exCode vs x ++ exsCode vs l
end
mutual
def stCode (vs : List Va) : St → Nat → List In
  | .mk op v e f body els, at_ =>
    let l := if needE op then exCode vs e else []
    if op = 1 then l ++ [⟨9, cellOf vs v, 0, 0⟩]
    else if op = 2 then l ++ exCode vs f ++ [⟨10, cellOf vs v, sizeV vs v, 0⟩]
    else if op = 3 then l ++ [⟨11, 0, 0, 0⟩]
    else if op = 4 then l ++ [⟨12, cellOf vs v, 0, 0⟩]
    else if op = 5 then
      let b := stsCode vs body (at_ + l.length + 1)
      l ++ [⟨13, (at_ + l.length + 1 + b.length + 1 : Nat), 0, 0⟩] ++ b ++ [⟨14, (at_ : Nat), 0, 0⟩]
    else if op = 6 then
      let b := stsCode vs body (at_ + l.length + 1)
      let o := stsCode vs els (at_ + l.length + 1 + b.length + 1)
      l ++ [⟨13, (at_ + l.length + 1 + b.length + 1 : Nat), 0, 0⟩] ++ b ++ [⟨14, (at_ + l.length + 1 + b.length + 1 + o.length : Nat), 0, 0⟩] ++ o
    else if op = 7 then [⟨15, 0, 0, 0⟩]
    else l
def stsCode (vs : List Va) : List St → Nat → List In
  | [], _ => []
  | x :: l, at_ => stCode vs x at_ ++ stsCode vs l (at_ + (stCode vs x at_).length)
end
def codeOf (p : Pr) : List In := stsCode p.vars p.body 0 ++ [⟨16, 0, 0, 0⟩]
theorem exsCode_app (vs : List Va) : ∀ (l m : List Ex), exsCode vs (l ++ m) = exsCode vs l ++ exsCode vs m
  | [], m => by simp [exsCode]
  | x :: l, m => by rw [List.cons_append, exsCode, exsCode, exsCode_app vs l m, List.append_assoc]
theorem exsCode_snoc (vs : List Va) {l : List Ex} {k : Nat} {x : Ex} (h : l[k]? = some x) : exsCode vs (l.take (k + 1)) = exsCode vs (l.take k) ++ exCode vs x := by
  rw [List.take_add_one, h]; simp [exsCode_app, exsCode]
theorem stsCode_app (vs : List Va) : ∀ (l m : List St) (k : Nat), stsCode vs (l ++ m) k = stsCode vs l k ++ stsCode vs m (k + (stsCode vs l k).length)
  | [], m, k => by simp [stsCode]
  | x :: l, m, k => by rw [List.cons_append, stsCode, stsCode, stsCode_app vs l m, List.append_assoc, List.length_append, Nat.add_assoc]
theorem stsCode_snoc (vs : List Va) {l : List St} {k : Nat} {x : St} (h : l[k]? = some x) (j : Nat) : stsCode vs (l.take (k + 1)) j = stsCode vs (l.take k) j ++ stCode vs x (j + (stsCode vs (l.take k) j).length) := by
  rw [List.take_add_one, h]; simp [stsCode_app, stsCode]
theorem exsCode_len' (vs : List Va) : ∀ (l : List Ex), (∀ x ∈ l, (exCode vs x).length = exN x) → (exsCode vs l).length = exsN l
  | [], _ => rfl
  | x :: l, h => by rw [exsCode, exsN, List.length_append, h x (by simp), exsCode_len' vs l (fun y hy => h y (by simp [hy]))]
theorem exCode_len (vs : List Va) (x : Ex) : (exCode vs x).length = exN x := by
  refine Ex.ind (P := fun x => (exCode vs x).length = exN x) ?_ x
  intro op v n l ih
  rw [exCode, exN, List.length_append, exsCode_len' vs l ih, List.length_singleton, Nat.add_comm]
theorem exsCode_len (vs : List Va) (l : List Ex) : (exsCode vs l).length = exsN l := exsCode_len' vs l (fun x _ => exCode_len vs x)
theorem stsCode_len' (vs : List Va) : ∀ (l : List St), (∀ x ∈ l, ∀ k, (stCode vs x k).length ≤ stN x) → ∀ k, (stsCode vs l k).length ≤ stsN l
  | [], _, _ => Nat.zero_le _
  | x :: l, h, k => by
    have h1 := h x (by simp) k
    have h2 := stsCode_len' vs l (fun y hy => h y (by simp [hy])) (k + (stCode vs x k).length)
    rw [stsCode, stsN, List.length_append]; omega
theorem stCode_len (vs : List Va) (x : St) : ∀ k, (stCode vs x k).length ≤ stN x := by
  refine St.ind (P := fun x => ∀ k, (stCode vs x k).length ≤ stN x) ?_ x
  intro op v e f body els ih jh k
  have hb := stsCode_len' vs body ih
  have he := stsCode_len' vs els jh
  have h1 := exN_pos e
  have h2 := exN_pos f
  have hl : (if needE op then exCode vs e else []).length ≤ exN e := by split <;> simp [exCode_len]
  rw [stCode, stN]
  have hb1 := hb (k + (if needE op then exCode vs e else []).length + 1)
  have he1 := he (k + (if needE op then exCode vs e else []).length + 1 + (stsCode vs body (k + (if needE op then exCode vs e else []).length + 1)).length + 1)
  by_cases g1 : op = 1
  · simp only [g1, if_true, List.length_append, List.length_singleton] at *; omega
  by_cases g2 : op = 2
  · simp only [g2, show ¬ (2 : Int) = 1 by decide, if_true, if_false, List.length_append, List.length_singleton, exCode_len] at *; omega
  by_cases g3 : op = 3
  · simp only [g3, show ¬ (3 : Int) = 1 by decide, show ¬ (3 : Int) = 2 by decide, if_true, if_false, List.length_append, List.length_singleton] at *; omega
  by_cases g4 : op = 4
  · simp only [g4, show ¬ (4 : Int) = 1 by decide, show ¬ (4 : Int) = 2 by decide, show ¬ (4 : Int) = 3 by decide, if_true, if_false, List.length_append, List.length_singleton] at *; omega
  simp only [g1, g2, g3, g4, if_false]
  generalize (if needE op then exCode vs e else []) = L at *
  by_cases g5 : op = 5
  · rw [if_pos g5]; simp only [List.length_append, List.length_singleton]; omega
  rw [if_neg g5]
  by_cases g6 : op = 6
  · rw [if_pos g6]; simp only [List.length_append, List.length_singleton]; omega
  rw [if_neg g6]
  by_cases g7 : op = 7
  · rw [if_pos g7]; simp only [List.length_singleton]; omega
  rw [if_neg g7]; omega
theorem stsCode_len (vs : List Va) (l : List St) (k : Nat) : (stsCode vs l k).length ≤ stsN l := stsCode_len' vs l (fun x _ => stCode_len vs x) k
/-! a program that is one -/
mutual
def exH : Ex → Nat
  | .mk _ _ _ l => 1 + exsH l
def exsH : List Ex → Nat
  | [] => 0
  | x :: l => max (exH x) (exsH l)
end
mutual
def ExV (nv : Nat) : Ex → Prop
  | .mk op v n l => (1 ≤ op ∧ op ≤ 8) ∧ (l.length : Int) = partsOf op ∧ (op = 2 ∨ op = 3 → 0 ≤ v ∧ v < nv) ∧ (n ≠ 0 → op = 1) ∧ ExsV nv l
def ExsV (nv : Nat) : List Ex → Prop
  | [] => True
  | x :: l => ExV nv x ∧ ExsV nv l
end
mutual
def StV (nv : Nat) : St → Prop
  | .mk op v e f body els => (1 ≤ op ∧ op ≤ 7) ∧ (needV op = true → 0 ≤ v ∧ v < nv) ∧ (needE op = true → ExV nv e ∧ exH e ≤ 12) ∧ (needF op = true → ExV nv f ∧ exH f ≤ 12) ∧ (needB op = false → body = []) ∧ (needO op = false → els = []) ∧ StsV nv body ∧ StsV nv els
def StsV (nv : Nat) : List St → Prop
  | [] => True
  | x :: l => StV nv x ∧ StsV nv l
end
theorem ExsV.mem {nv : Nat} : ∀ {l : List Ex}, ExsV nv l → ∀ x ∈ l, ExV nv x
  | [], _, _, h => by simp at h
  | y :: l, h, x, hx => by
    rw [ExsV] at h
    rcases List.mem_cons.1 hx with rfl | hx
    · exact h.1
    · exact ExsV.mem h.2 x hx
theorem StsV.mem {nv : Nat} : ∀ {l : List St}, StsV nv l → ∀ x ∈ l, StV nv x
  | [], _, _, h => by simp at h
  | y :: l, h, x, hx => by
    rw [StsV] at h
    rcases List.mem_cons.1 hx with rfl | hx
    · exact h.1
    · exact StsV.mem h.2 x hx
theorem StsV.of {nv : Nat} : ∀ {l : List St}, (∀ x ∈ l, StV nv x) → StsV nv l
  | [], _ => by rw [StsV]; trivial
  | y :: l, h => by rw [StsV]; exact ⟨h y (by simp), StsV.of fun x hx => h x (by simp [hx])⟩
theorem fail_ok {e : JE} {b : Bool} {c l : Int} (h : e.fail b c = .ok l) : e = .ok l ∧ b = false := by
  cases e with
  | error d => simp [JE.fail] at h
  | ok a => cases b <;> simp [JE.fail] at h ⊢; exact h
theorem one_ok' {e : JE} {d l : Int} (h : e.one d = .ok l) : d ≤ 12 ∧ ∃ a, e = .ok a := by
  cases e with
  | error c => simp [JE.one] at h
  | ok a =>
    simp only [JE.one] at h
    split at h
    · simp at h
    · exact ⟨by omega, a, rfl⟩
theorem exHead_ok {nv deep op v n a b : Int} {k : Nat} (h : exHead nv deep op v n k (.ok a) = .ok b) :
    deep ≤ 12 ∧ (1 ≤ op ∧ op ≤ 8) ∧ (k : Int) = partsOf op ∧ (op = 2 ∨ op = 3 → 0 ≤ v ∧ v < nv) ∧ (n ≠ 0 → op = 1) := by
  rw [exHead, JE.named] at h
  obtain ⟨h, h5⟩ := fail_ok h
  obtain ⟨h, h4⟩ := fail_ok h
  obtain ⟨h, h3⟩ := fail_ok h
  obtain ⟨h, h2⟩ := fail_ok h
  obtain ⟨h1, -⟩ := one_ok' h
  simp only [decide_eq_false_iff_not] at h2 h3
  refine ⟨h1, ?_, by omega, ?_, fun hn => by omega⟩
  · have : 0 ≤ partsOf op := by omega
    rw [partsOf] at this
    constructor <;> · repeat' split at this
                      all_goals omega
  · intro ho
    simp only [ho, decide_true, Bool.true_and, decide_eq_false_iff_not] at h4
    omega
theorem exsV_of {nv : Nat} : ∀ (l : List Ex), (∀ x ∈ l, ∀ deep a b : Int, exE nv deep x (.ok a) = .ok b → ExV nv x ∧ deep + exH x ≤ 13) → ∀ deep a b : Int, deep ≤ 13 → exsE nv deep l (.ok a) = .ok b → ExsV nv l ∧ deep + exsH l ≤ 13
  | [], _, deep, a, b, hd, _ => by rw [ExsV, exsH]; exact ⟨trivial, by omega⟩
  | x :: l, h, deep, a, b, hd, hx => by
    rw [exsE] at hx
    cases e : exE nv deep x (.ok a) with
    | error c => rw [e, exsE_err] at hx; cases hx
    | ok a1 =>
      rw [e] at hx
      obtain ⟨g1, g2⟩ := h x (by simp) deep a a1 e
      obtain ⟨g3, g4⟩ := exsV_of l (fun y hy => h y (by simp [hy])) deep a1 b hd hx
      rw [ExsV, exsH]
      exact ⟨⟨g1, g3⟩, by omega⟩
theorem exV_of {nv : Nat} (x : Ex) : ∀ deep a b : Int, exE nv deep x (.ok a) = .ok b → ExV nv x ∧ deep + exH x ≤ 13 := by
  refine Ex.ind (P := fun x => ∀ deep a b : Int, exE nv deep x (.ok a) = .ok b → ExV nv x ∧ deep + exH x ≤ 13) ?_ x
  intro op v n l ih deep a b h
  rw [exE] at h
  cases e : exHead nv deep op v n l.length (.ok a) with
  | error c => rw [e, exsE_err] at h; cases h
  | ok a1 =>
    rw [e] at h
    obtain ⟨g1, g2, g3, g4, g5⟩ := exHead_ok e
    obtain ⟨g6, g7⟩ := exsV_of l ih (deep + 1) a1 b (by omega) h
    rw [ExV, exH]
    exact ⟨⟨g2, g3, g4, g5, g6⟩, by omega⟩
theorem stHead_ok {nv deep op v a b : Int} {e f : Ex} {kb ke : Nat} (h : stHead nv deep op v e f kb ke (.ok a) = .ok b) :
    deep ≤ 12 ∧ (1 ≤ op ∧ op ≤ 7) ∧ (needV op = true → 0 ≤ v ∧ v < nv) ∧ (needB op = false → kb = 0) ∧ (needO op = false → ke = 0) := by
  rw [stHead, JE.named] at h
  obtain ⟨h, h5⟩ := fail_ok h
  obtain ⟨h, h4⟩ := fail_ok h
  obtain ⟨h, h3⟩ := fail_ok h
  obtain ⟨h, h2⟩ := fail_ok h
  obtain ⟨h1, -⟩ := one_ok' h
  simp only [decide_eq_false_iff_not] at h2
  simp only [stForm, Bool.or_eq_false_iff, Bool.and_eq_false_imp, Bool.not_eq_true', decide_eq_false_iff_not] at h3
  refine ⟨h1, by omega, ?_, ?_, ?_⟩
  · intro ho
    simp only [ho, Bool.true_and, decide_eq_false_iff_not] at h4
    omega
  · intro hb; have := h3.1.2 hb; omega
  · intro hb; have := h3.2 hb; omega
theorem stsV_of {nv : Nat} : ∀ (l : List St), (∀ x ∈ l, ∀ deep a b : Int, 0 ≤ deep → stE nv deep x (.ok a) = .ok b → StV nv x) → ∀ deep a b : Int, 0 ≤ deep → stsE nv deep l (.ok a) = .ok b → StsV nv l
  | [], _, deep, a, b, _, _ => by rw [StsV]; trivial
  | x :: l, h, deep, a, b, hd, hx => by
    rw [stsE] at hx
    cases e : stE nv deep x (.ok a) with
    | error c => rw [e, stsE_err] at hx; cases hx
    | ok a1 =>
      rw [e] at hx
      rw [StsV]
      exact ⟨h x (by simp) deep a a1 hd e, stsV_of l (fun y hy => h y (by simp [hy])) deep a1 b hd hx⟩
theorem stV_of {nv : Nat} (x : St) : ∀ deep a b : Int, 0 ≤ deep → stE nv deep x (.ok a) = .ok b → StV nv x := by
  refine St.ind (P := fun x => ∀ deep a b : Int, 0 ≤ deep → stE nv deep x (.ok a) = .ok b → StV nv x) ?_ x
  intro op v e f body els ih jh deep a b hd h
  rw [stE] at h
  cases e1 : stHead nv deep op v e f body.length els.length (.ok a) with
  | error c => rw [e1, stEF_err, stsE_err, stsE_err] at h; cases h
  | ok a1 =>
    rw [e1] at h
    cases e2 : stEF nv (deep + 1) op e f (.ok a1) with
    | error c => rw [e2, stsE_err, stsE_err] at h; cases h
    | ok a2 =>
      rw [e2] at h
      cases e3 : stsE nv (deep + 1) body (.ok a2) with
      | error c => rw [e3, stsE_err] at h; cases h
      | ok a3 =>
        rw [e3] at h
        obtain ⟨g1, g2, g3, g4, g5⟩ := stHead_ok e1
        have hb := stsV_of body ih (deep + 1) a2 a3 (by omega) e3
        have he := stsV_of els jh (deep + 1) a3 b (by omega) h
        rw [StV]
        rw [stEF] at e2
        refine ⟨g2, g3, ?_, ?_, fun hn => List.eq_nil_of_length_eq_zero (g4 hn), fun hn => List.eq_nil_of_length_eq_zero (g5 hn), hb, he⟩
        · intro hn
          rw [if_pos hn] at e2
          cases e4 : exE nv (deep + 1) e (.ok a1) with
          | error c => simp only [e4, exE_err, ite_self] at e2; cases e2
          | ok a4 => obtain ⟨k1, k2⟩ := exV_of e _ _ _ e4; exact ⟨k1, by omega⟩
        · intro hn
          simp only [hn, if_true] at e2
          cases e4 : (if needE op = true then exE nv (deep + 1) e (.ok a1) else .ok a1 : JE) with
          | error c => rw [e4, exE_err] at e2; cases e2
          | ok a4 => rw [e4] at e2; obtain ⟨k1, k2⟩ := exV_of f _ _ _ e2; exact ⟨k1, by omega⟩
theorem check_valid {p : Pr} (h : checkP p = 0) : StsV p.vars.length p.body ∧ p.vars.length ≤ 8 ∧ (∀ x ∈ p.vars, 1 ≤ x.size) ∧ sizes p.vars ≤ 48 := by
  obtain ⟨h1, b, h2⟩ := check_ok h
  exact ⟨stsV_of p.body (fun x _ => stV_of x) 0 150 b (Int.le_refl _) h2, check_sizes h1⟩
end Go.Proofs.Ytbbghdkndbpmmaa

namespace Go.Proofs.Ytbbghdkndbpmmaa
open Go X
def popA (op : Int) : Int := if op = 3 then 1 else if 4 ≤ op ∧ op ≤ 8 then 2 else if op = 9 ∨ op = 11 ∨ op = 13 then 1 else if op = 10 then 2 else 0
def popB (op : Int) : Int := if 1 ≤ op ∧ op ≤ 8 then 1 else 0
def dl (x : In) : Int := popB x.op - popA x.op
def hts (l : List In) : Int := (l.map dl).sum
theorem hts_nil : hts [] = 0 := rfl
theorem hts_cons (x : In) (l : List In) : hts (x :: l) = dl x + hts l := by simp [hts]
theorem hts_app (l m : List In) : hts (l ++ m) = hts l + hts m := by simp [hts, List.sum_append]
theorem hts_one (x : In) : hts [x] = dl x := by simp [hts]
def cellOk (cells : Int) (x : In) : Prop := ((x.op = 2 ∨ x.op = 9 ∨ x.op = 12) → 0 ≤ x.a ∧ x.a < cells) ∧ ((x.op = 3 ∨ x.op = 10) → 0 ≤ x.a ∧ 1 ≤ x.b ∧ x.a + x.b ≤ cells)
/-- Gone through as they stand, from so many numbers on the stack. -/
def Fit (cells : Int) : Int → List In → Prop
  | _, [] => True
  | n, x :: l => (popA x.op ≤ n ∧ n + dl x ≤ 24 ∧ ((x.op = 13 ∨ x.op = 14) → n + dl x = 0) ∧ cellOk cells x ∧ x.op ≠ 16) ∧ Fit cells (n + dl x) l
theorem Fit.app {cells : Int} : ∀ {l m : List In} {n : Int}, Fit cells n l → Fit cells (n + hts l) m → Fit cells n (l ++ m)
  | [], m, n, _, h => by rw [hts_nil, Int.add_zero] at h; exact h
  | x :: l, m, n, h, g => by
    rw [Fit] at h
    rw [hts_cons] at g
    rw [List.cons_append, Fit]
    exact ⟨h.1, Fit.app h.2 (by rw [Int.add_assoc]; exact g)⟩
theorem Fit.at {cells : Int} : ∀ {l : List In} {n : Int}, Fit cells n l → ∀ {i : Nat} {x : In}, l[i]? = some x → popA x.op ≤ n + hts (l.take i) ∧ n + hts (l.take (i + 1)) ≤ 24 ∧ ((x.op = 13 ∨ x.op = 14) → n + hts (l.take (i + 1)) = 0) ∧ cellOk cells x ∧ x.op ≠ 16
  | [], _, _, _, _, hx => by simp at hx
  | y :: l, n, h, 0, x, hx => by
    simp only [List.getElem?_cons_zero, Option.some.injEq] at hx
    subst hx
    rw [Fit] at h
    simp only [List.take_zero, hts_nil, Int.add_zero, List.take_succ_cons, hts_cons]
    exact h.1
  | y :: l, n, h, i + 1, x, hx => by
    simp only [List.getElem?_cons_succ] at hx
    rw [Fit] at h
    have := Fit.at h.2 hx
    simp only [List.take_succ_cons, hts_cons, ← Int.add_assoc]
    exact this
theorem sizeV_get {vs : List Va} {v : Int} {x : Va} (h : vs[v.toNat]? = some x) : sizeV vs v = x.size := by rw [sizeV, h]; rfl
theorem var_at {vs : List Va} (h1 : ∀ x ∈ vs, 1 ≤ x.size) {v : Int} (h : 0 ≤ v ∧ v < vs.length) : ∃ x, vs[v.toNat]? = some x ∧ sizeV vs v = x.size ∧ 0 ≤ cellOf vs v ∧ 1 ≤ sizeV vs v ∧ cellOf vs v + sizeV vs v ≤ sizes vs := by
  have hlt : v.toNat < vs.length := by omega
  have hx : vs[v.toNat]? = some vs[v.toNat] := List.getElem?_eq_getElem hlt
  have e := sizes_take vs v.toNat _ hx
  have a := (cells_le h1 (v.toNat)).1
  have b := (cells_le h1 (v.toNat + 1)).2
  have c := h1 _ (List.getElem_mem hlt)
  refine ⟨_, hx, sizeV_get hx, a, by rw [sizeV_get hx]; exact c, ?_⟩
  rw [sizeV_get hx, cellOf, ← e]; exact b
theorem opIn_ok {vs : List Va} (h1 : ∀ x ∈ vs, 1 ≤ x.size) {op v n : Int} (hop : 1 ≤ op ∧ op ≤ 8) (hv : op = 2 ∨ op = 3 → 0 ≤ v ∧ v < vs.length) : cellOk (sizes vs) (opIn vs op v n) := by
  refine ⟨fun h => ?_, fun h => ?_⟩
  · simp only [opIn] at h
    have h2 : op = 2 := by omega
    obtain ⟨x, -, -, c, d, e⟩ := var_at h1 (hv (.inl h2))
    simp only [opIn, h2, true_or, if_true]
    omega
  · simp only [opIn] at h
    have h2 : op = 3 := by omega
    obtain ⟨x, -, -, c, d, e⟩ := var_at h1 (hv (.inr h2))
    simp only [opIn, h2, or_true, if_true]
    exact ⟨c, d, e⟩
theorem popA_parts {op : Int} (h : 1 ≤ op ∧ op ≤ 8) : popA op = partsOf op := by
  rw [popA, partsOf]
  repeat' split
  all_goals omega
theorem popB_one {op : Int} (h : 1 ≤ op ∧ op ≤ 8) : popB op = 1 := if_pos h
theorem ex_op (vs : List Va) (op v n : Int) : (opIn vs op v n).op = op := rfl
theorem exs_fit {vs : List Va} (h1 : ∀ x ∈ vs, 1 ≤ x.size) : ∀ (l : List Ex), (∀ x ∈ l, ∀ n : Int, 0 ≤ n → n + exH x ≤ 24 → Fit (sizes vs) n (exCode vs x) ∧ hts (exCode vs x) = 1) → ∀ n : Int, 0 ≤ n → n + l.length + exsH l ≤ 25 → Fit (sizes vs) n (exsCode vs l) ∧ hts (exsCode vs l) = l.length
  | [], _, n, _, _ => ⟨trivial, rfl⟩
  | x :: l, h, n, h0, hn => by
    rw [exsH, List.length_cons] at hn
    obtain ⟨a, b⟩ := h x (by simp) n h0 (by omega)
    obtain ⟨c, d⟩ := exs_fit h1 l (fun y hy => h y (by simp [hy])) (n + 1) (by omega) (by omega)
    rw [exsCode]
    refine ⟨a.app (by rw [b]; exact c), ?_⟩
    rw [hts_app, b, d, List.length_cons]; omega
theorem ex_fit {vs : List Va} (h1 : ∀ x ∈ vs, 1 ≤ x.size) (x : Ex) : ExV vs.length x → ∀ n : Int, 0 ≤ n → n + exH x ≤ 24 → Fit (sizes vs) n (exCode vs x) ∧ hts (exCode vs x) = 1 := by
  refine Ex.ind (P := fun x => ExV vs.length x → ∀ n : Int, 0 ≤ n → n + exH x ≤ 24 → Fit (sizes vs) n (exCode vs x) ∧ hts (exCode vs x) = 1) ?_ x
  intro op v k l ih hx n h0 hn
  rw [ExV] at hx
  obtain ⟨hop, hl, hv, -, hs⟩ := hx
  rw [exH] at hn
  have hp : (l.length : Int) ≤ 2 := by rw [hl, partsOf]; repeat' split
                                       all_goals omega
  obtain ⟨a, b⟩ := exs_fit h1 l (fun y hy n h0 hn => ih y hy (hs.mem y hy) n h0 hn) n h0 (by omega)
  rw [exCode]
  have hd : dl (opIn vs op v k) = 1 - l.length := by rw [dl, ex_op, popB_one hop, popA_parts hop, hl]
  refine ⟨a.app ?_, ?_⟩
  · rw [b, Fit, ex_op, popA_parts hop, ← hl, hd]
    refine ⟨⟨by omega, by omega, fun h => by omega, opIn_ok h1 hop hv, by omega⟩, trivial⟩
  · rw [hts_app, b, hts_one, hd]; omega
/-- A jump within. -/
def JIn (at_ : Nat) (L : List In) (x : In) : Prop := (x.op = 13 ∨ x.op = 14) → ∃ j : Nat, x.a = (at_ + j : Nat) ∧ j ≤ L.length ∧ hts (L.take j) = 0
theorem JIn.lift {at_ : Nat} {A L B : List In} {x : In} (h : JIn (at_ + A.length) L x) (hA : hts A = 0) : JIn at_ (A ++ L ++ B) x := fun ho => by
  obtain ⟨j, e, hj, hz⟩ := h ho
  refine ⟨A.length + j, by rw [e]; congr 1; omega, by simp only [List.length_append]; omega, ?_⟩
  rw [List.append_assoc, List.take_length_add_append, hts_app, hA, List.take_append_of_le_length hj, hz]; rfl
theorem JIn.none {at_ : Nat} {L : List In} {x : In} (h : x.op ≠ 13 ∧ x.op ≠ 14) : JIn at_ L x := fun ho => by omega
theorem exs_small {vs : List Va} : ∀ (l : List Ex), (∀ x ∈ l, ∀ y ∈ exCode vs x, 1 ≤ y.op ∧ y.op ≤ 8) → ∀ y ∈ exsCode vs l, 1 ≤ y.op ∧ y.op ≤ 8
  | [], _, y, hy => by simp [exsCode] at hy
  | x :: l, h, y, hy => by
    rw [exsCode, List.mem_append] at hy
    rcases hy with hy | hy
    · exact h x (by simp) y hy
    · exact exs_small l (fun z hz => h z (by simp [hz])) y hy
theorem ex_small {vs : List Va} {nv : Nat} (x : Ex) : ExV nv x → ∀ y ∈ exCode vs x, 1 ≤ y.op ∧ y.op ≤ 8 := by
  refine Ex.ind (P := fun x => ExV nv x → ∀ y ∈ exCode vs x, 1 ≤ y.op ∧ y.op ≤ 8) ?_ x
  intro op v k l ih hx y hy
  rw [ExV] at hx
  rw [exCode, List.mem_append, List.mem_singleton] at hy
  rcases hy with hy | rfl
  · exact exs_small l (fun z hz => ih z hz (hx.2.2.2.2.mem z hz)) y hy
  · exact hx.1
/-- What a piece of statements' instructions is. -/
def Piece (cells : Int) (at_ : Nat) (L : List In) : Prop := Fit cells 0 L ∧ hts L = 0 ∧ ∀ x ∈ L, JIn at_ L x
theorem Piece.nil {cells : Int} {at_ : Nat} : Piece cells at_ [] := ⟨trivial, rfl, fun x h => by simp at h⟩
theorem Piece.app {cells : Int} {at_ : Nat} {L M : List In} (h : Piece cells at_ L) (g : Piece cells (at_ + L.length) M) : Piece cells at_ (L ++ M) := by
  refine ⟨h.1.app (by rw [h.2.1]; exact g.1), by rw [hts_app, h.2.1, g.2.1]; rfl, fun x hx => ?_⟩
  rcases List.mem_append.1 hx with hx | hx
  · have := JIn.lift (A := []) (B := M) (h.2.2 x hx) rfl
    simpa using this
  · have := JIn.lift (A := L) (B := []) (g.2.2 x hx) h.2.1
    simpa using this
/-- An expression, then something that takes it. -/
theorem Piece.plain {cells : Int} {at_ : Nat} {L : List In} (h : Fit cells 0 L) (hz : hts L = 0) (hs : ∀ x ∈ L, x.op ≠ 13 ∧ x.op ≠ 14) : Piece cells at_ L := ⟨h, hz, fun x hx => JIn.none (hs x hx)⟩
theorem sts_piece {vs : List Va} {cells : Int} : ∀ (l : List St), (∀ x ∈ l, ∀ k, Piece cells k (stCode vs x k)) → ∀ k, Piece cells k (stsCode vs l k)
  | [], _, k => by rw [stsCode]; exact Piece.nil
  | x :: l, h, k => by rw [stsCode]; exact (h x (by simp) k).app (sts_piece l (fun y hy => h y (by simp [hy])) _)
theorem Fit.snoc {cells : Int} {L : List In} {x : In} {n m : Int} (h : Fit cells n L) (hm : n + hts L = m) (h1 : popA x.op ≤ m) (h2 : m + dl x ≤ 24) (h3 : (x.op = 13 ∨ x.op = 14) → m + dl x = 0) (h4 : cellOk cells x) (h5 : x.op ≠ 16) : Fit cells n (L ++ [x]) :=
  h.app (by rw [hm]; exact ⟨⟨h1, h2, h3, h4, h5⟩, trivial⟩)
theorem st_piece {vs : List Va} (h1 : ∀ x ∈ vs, 1 ≤ x.size) (x : St) : StV vs.length x → ∀ k, Piece (sizes vs) k (stCode vs x k) := by
  refine St.ind (P := fun x => StV vs.length x → ∀ k, Piece (sizes vs) k (stCode vs x k)) ?_ x
  intro op v e f body els ih jh hx k
  rw [StV] at hx
  obtain ⟨hop, hv, he, hf, hb, ho, hsb, hse⟩ := hx
  have hB := sts_piece (cells := sizes vs) body (fun y hy => ih y hy (hsb.mem y hy))
  have hE := sts_piece (cells := sizes vs) els (fun y hy => jh y hy (hse.mem y hy))
  have hex : ∀ {z : Ex} {n : Int}, ExV vs.length z ∧ exH z ≤ 12 → 0 ≤ n → n ≤ 12 → Fit (sizes vs) n (exCode vs z) ∧ hts (exCode vs z) = 1 := fun hz h0 hn => ex_fit h1 _ hz.1 _ h0 (by have := hz.2; omega)
  have hno : ∀ {z : Ex}, ExV vs.length z ∧ exH z ≤ 12 → ∀ y ∈ exCode vs z, y.op ≠ 13 ∧ y.op ≠ 14 := fun hz y hy => by have := ex_small _ hz.1 y hy; omega
  rw [stCode]
  have c0 : ∀ {o a b n : Int}, (o = 11 ∨ o = 13 ∨ o = 14 ∨ o = 15) → cellOk (sizes vs) ⟨o, a, b, n⟩ := fun h => ⟨fun g => by simp only at g; omega, fun g => by simp only at g; omega⟩
  by_cases g1 : op = 1
  · subst g1
    obtain ⟨a, b⟩ := hex (n := 0) (he rfl) (by decide) (by decide)
    obtain ⟨y, -, -, c, d, e'⟩ := var_at h1 (hv rfl)
    simp only [show needE 1 = true from rfl, if_true]
    refine Piece.plain (a.snoc (m := 1) (by rw [b]; rfl) (by simp [popA]) (by simp [dl, popA, popB]) (fun g => by simp at g) ⟨fun _ => ⟨c, by simp only; omega⟩, fun g => by simp at g⟩ (by simp)) (by rw [hts_app, b, hts_one]; rfl) fun y hy => ?_
    rcases List.mem_append.1 hy with hy | hy
    · exact hno (he rfl) y hy
    · rw [List.mem_singleton.1 hy]; constructor <;> simp
  by_cases g2 : op = 2
  · subst g2
    obtain ⟨a, b⟩ := hex (n := 0) (he rfl) (by decide) (by decide)
    obtain ⟨a', b'⟩ := hex (n := 1) (hf rfl) (by decide) (by decide)
    obtain ⟨y, -, -, c, d, e'⟩ := var_at h1 (hv rfl)
    simp only [show needE 2 = true from rfl, if_true, show ¬ (2 : Int) = 1 by decide, if_false]
    refine Piece.plain ((a.app (m := exCode vs f) (by rw [b]; exact a')).snoc (m := 2) (by rw [hts_app, b, b']; rfl) (by simp [popA]) (by simp [dl, popA, popB]) (fun g => by simp at g) ⟨fun g => by simp at g, fun _ => ⟨c, d, e'⟩⟩ (by simp)) (by rw [hts_app, hts_app, b, b', hts_one]; rfl) fun y hy => ?_
    rcases List.mem_append.1 hy with hy | hy
    · rcases List.mem_append.1 hy with hy | hy
      · exact hno (he rfl) y hy
      · exact hno (hf rfl) y hy
    · rw [List.mem_singleton.1 hy]; constructor <;> simp
  by_cases g3 : op = 3
  · subst g3
    obtain ⟨a, b⟩ := hex (n := 0) (he rfl) (by decide) (by decide)
    simp only [show needE 3 = true from rfl, if_true, show ¬ (3 : Int) = 1 by decide, show ¬ (3 : Int) = 2 by decide, if_false]
    refine Piece.plain (a.snoc (m := 1) (by rw [b]; rfl) (by simp [popA]) (by simp [dl, popA, popB]) (fun g => by simp at g) (c0 (by decide)) (by simp)) (by rw [hts_app, b, hts_one]; rfl) fun y hy => ?_
    rcases List.mem_append.1 hy with hy | hy
    · exact hno (he rfl) y hy
    · rw [List.mem_singleton.1 hy]; constructor <;> simp
  by_cases g4 : op = 4
  · subst g4
    obtain ⟨y, -, -, c, d, e'⟩ := var_at h1 (hv rfl)
    simp only [show needE 4 = false from rfl, if_true, show ¬ (4 : Int) = 1 by decide, show ¬ (4 : Int) = 2 by decide, show ¬ (4 : Int) = 3 by decide, if_false, Bool.false_eq_true]
    refine Piece.plain (Fit.snoc (L := []) (m := 0) trivial rfl (by simp [popA]) (by simp [dl, popA, popB]) (fun g => by simp at g) ⟨fun _ => ⟨c, by simp only; omega⟩, fun g => by simp at g⟩ (by simp)) rfl fun y hy => ?_
    rw [List.nil_append] at hy
    rw [List.mem_singleton.1 hy]; constructor <;> simp
  by_cases g7 : op = 7
  · subst g7
    simp only [show needE 7 = false from rfl, if_true, show ¬ (7 : Int) = 1 by decide, show ¬ (7 : Int) = 2 by decide, show ¬ (7 : Int) = 3 by decide, show ¬ (7 : Int) = 4 by decide, show ¬ (7 : Int) = 5 by decide, show ¬ (7 : Int) = 6 by decide, if_false, Bool.false_eq_true]
    refine Piece.plain (Fit.snoc (L := []) (m := 0) trivial rfl (by simp [popA]) (by simp [dl, popA, popB]) (fun g => by simp at g) (c0 (by decide)) (by simp)) rfl fun y hy => ?_
    rw [List.mem_singleton.1 hy]; constructor <;> simp
  simp only [g1, g2, g3, g4, g7, if_false]
  have h56 : op = 5 ∨ op = 6 := by omega
  have hne : needE op = true := by rcases h56 with rfl | rfl <;> rfl
  obtain ⟨a, b⟩ := hex (n := 0) (he hne) (by decide) (by decide)
  have hn0 := hno (he hne)
  rw [if_pos hne]
  -- the head: the condition, and the jump behind it
  have head : ∀ t : Int, Fit (sizes vs) 0 (exCode vs e ++ [⟨13, t, 0, 0⟩]) ∧ hts (exCode vs e ++ [⟨13, t, 0, 0⟩]) = 0 := fun t =>
    ⟨a.snoc (m := 1) (by rw [b]; rfl) (by simp [popA]) (by simp [dl, popA, popB]) (fun _ => by simp [dl, popA, popB]) (c0 (by decide)) (by simp), by rw [hts_app, b, hts_one]; rfl⟩
  have body_ := hB (k + (exCode vs e).length + 1)
  generalize hbe : stsCode vs body (k + (exCode vs e).length + 1) = Bc at body_ ⊢
  generalize hee : stsCode vs els (k + (exCode vs e).length + 1 + Bc.length + 1) = Ec
  have els_ := hE (k + (exCode vs e).length + 1 + Bc.length + 1)
  rw [hee] at els_
  clear hbe hee
  generalize exCode vs e = C at *
  by_cases g5 : op = 5
  · rw [if_pos g5]
    refine ⟨Fit.snoc (m := 0) ((head _).1.app (by rw [(head _).2]; exact body_.1)) (by rw [hts_app, (head _).2, body_.2.1]; rfl) (by simp [popA]) (by simp [dl, popA, popB]) (fun _ => by simp [dl, popA, popB]) (c0 (by decide)) (by simp), by rw [hts_app, hts_app, (head _).2, body_.2.1, hts_one]; rfl, ?_⟩
    intro y hy
    rcases List.mem_append.1 hy with hy | hy
    · rcases List.mem_append.1 hy with hy | hy
      · rcases List.mem_append.1 hy with hy | hy
        · exact JIn.none (hn0 y hy)
        · rw [List.mem_singleton.1 hy]
          refine fun _ => ⟨C.length + 1 + Bc.length + 1, by simp only; congr 1; omega, by simp only [List.length_append, List.length_singleton]; omega, ?_⟩
          rw [List.take_of_length_le (by simp only [List.length_append, List.length_singleton]; omega), hts_app, hts_app, (head _).2, body_.2.1, hts_one]; rfl
      · refine JIn.lift (by rw [List.length_append, List.length_singleton, ← Nat.add_assoc]; exact body_.2.2 y hy) (head _).2
    · rw [List.mem_singleton.1 hy]
      exact fun _ => ⟨0, rfl, Nat.zero_le _, rfl⟩
  rw [if_neg g5, if_pos (by omega)]
  have hmid : ∀ t u : Int, Fit (sizes vs) 0 (C ++ [⟨13, t, 0, 0⟩] ++ Bc ++ [⟨14, u, 0, 0⟩]) ∧ hts (C ++ [⟨13, t, 0, 0⟩] ++ Bc ++ [⟨14, u, 0, 0⟩]) = 0 := fun t u =>
    ⟨Fit.snoc (m := 0) ((head _).1.app (by rw [(head _).2]; exact body_.1)) (by rw [hts_app, (head _).2, body_.2.1]; rfl) (by simp [popA]) (by simp [dl, popA, popB]) (fun _ => by simp [dl, popA, popB]) (c0 (by decide)) (by simp), by rw [hts_app, hts_app, (head _).2, body_.2.1, hts_one]; rfl⟩
  refine ⟨(hmid _ _).1.app (by rw [(hmid _ _).2]; exact els_.1), by rw [hts_app, (hmid _ _).2, els_.2.1]; rfl, ?_⟩
  intro y hy
  rcases List.mem_append.1 hy with hy | hy
  · rcases List.mem_append.1 hy with hy | hy
    · rcases List.mem_append.1 hy with hy | hy
      · rcases List.mem_append.1 hy with hy | hy
        · exact JIn.none (hn0 y hy)
        · rw [List.mem_singleton.1 hy]
          refine fun _ => ⟨C.length + 1 + Bc.length + 1, by simp only; congr 1; omega, by simp only [List.length_append, List.length_singleton]; omega, ?_⟩
          rw [List.take_append_of_le_length (by simp only [List.length_append, List.length_singleton]; omega), List.take_of_length_le (by simp only [List.length_append, List.length_singleton]; omega), (hmid _ _).2]
      · rw [List.append_assoc]
        refine JIn.lift (by rw [List.length_append, List.length_singleton, ← Nat.add_assoc]; exact body_.2.2 y hy) (head _).2
    · rw [List.mem_singleton.1 hy]
      refine fun _ => ⟨C.length + 1 + Bc.length + 1 + Ec.length, by simp only; congr 1; omega, by simp only [List.length_append, List.length_singleton]; omega, ?_⟩
      rw [List.take_of_length_le (by simp only [List.length_append, List.length_singleton]; omega), hts_app, (hmid _ _).2, els_.2.1]; rfl
  · have := JIn.lift (B := []) (at_ := k) (A := C ++ [⟨13, (k + C.length + 1 + Bc.length + 1 : Nat), 0, 0⟩] ++ Bc ++ [⟨14, (k + C.length + 1 + Bc.length + 1 + Ec.length : Nat), 0, 0⟩]) (L := Ec) (x := y) (by rw [show k + (C ++ [⟨13, (k + C.length + 1 + Bc.length + 1 : Nat), 0, 0⟩] ++ Bc ++ [⟨14, (k + C.length + 1 + Bc.length + 1 + Ec.length : Nat), 0, 0⟩] : List In).length = k + C.length + 1 + Bc.length + 1 by simp only [List.length_append, List.length_singleton]; omega]; exact els_.2.2 y hy) (hmid _ _).2
    rwa [List.append_nil] at this
/-- The whole: fits. -/
theorem code_fits {p : Pr} (h : checkP p = 0) : Piece (sizes p.vars) 0 (stsCode p.vars p.body 0) := by
  obtain ⟨a, -, c, -⟩ := check_valid h
  exact sts_piece _ (fun x hx => st_piece c x (a.mem x hx)) 0
end Go.Proofs.Ytbbghdkndbpmmaa

namespace Go.Proofs.Ytbbghdkndbpmmaa
open Go X
def wrap_ (n : Int) : Int := IntKind.i64.wrap n
def binV (op a b : Int) : Int := if op = 4 then wrap_ (a + b) else if op = 5 then wrap_ (a - b) else if op = 6 then wrap_ (a * b) else if op = 7 then (if a < b then 1 else 0) else if a = b then 1 else 0
/-- A failure's code, and what is left; or a number, and what is left. -/
abbrev XR (α : Type) := Except (Int × Nat) (α × Nat)
def opRun (vs : List Va) (cs : List Int) (op v n : Int) (xs : List Int) (f : Nat) : XR Int :=
  if op = 1 then .ok (n, f)
  else if op = 2 then .ok (cs.getD (cellOf vs v).toNat 0, f)
  else if op = 3 then (if xs.getD 0 0 < 0 ∨ sizeV vs v ≤ xs.getD 0 0 then .error (11, f) else .ok (cs.getD (cellOf vs v + xs.getD 0 0).toNat 0, f))
  else .ok (binV op (xs.getD 0 0) (xs.getD 1 0), f)
def oneF (f : Nat) : Except (Int × Nat) Nat := if f = 0 then .error (13, 0) else .ok (f - 1)
mutual
def exRun (vs : List Va) (cs : List Int) : Ex → Nat → XR Int
  | .mk op v n l, f => match exsRun vs cs l f with
    | .error e => .error e
    | .ok (xs, f1) => match oneF f1 with
      | .error e => .error e
      | .ok f2 => opRun vs cs op v n xs f2
def exsRun (vs : List Va) (cs : List Int) : List Ex → Nat → XR (List Int)
  | [], f => .ok ([], f)
  | x :: l, f => match exRun vs cs x f with
    | .error e => .error e
    | .ok (a, f1) => match exsRun vs cs l f1 with
      | .error e => .error e
      | .ok (xs, f2) => .ok (a :: xs, f2)
end
structure RS where
  cells : List Int
  inp : List Int
  out : List Int
  left : Nat
abbrev RR := Except (Int × RS) RS
def exS (vs : List Va) (x : Ex) (s : RS) : Except (Int × RS) (Int × RS) := match exRun vs s.cells x s.left with
  | .error (c, f) => .error (c, { s with left := f })
  | .ok (v, f) => .ok (v, { s with left := f })
def oneS (s : RS) : RR := if s.left = 0 then .error (13, s) else .ok { s with left := s.left - 1 }
def isS (vs : List Va) (x : Ex) (s : RS) : Except (Int × RS) (Bool × RS) := match exS vs x s with
  | .error e => .error e
  | .ok (n, s1) => match oneS s1 with
    | .error e => .error e
    | .ok s2 => .ok (decide (n ≠ 0), s2)
def setS (vs : List Va) (v : Int) (e : Ex) (s : RS) : RR := match exS vs e s with
  | .error e => .error e
  | .ok (n, s1) => match oneS s1 with
    | .error e => .error e
    | .ok s2 => .ok { s2 with cells := s2.cells.set (cellOf vs v).toNat n }
def putS (vs : List Va) (v : Int) (e f : Ex) (s : RS) : RR := match exS vs e s with
  | .error e => .error e
  | .ok (k, s1) => match exS vs f s1 with
    | .error e => .error e
    | .ok (n, s2) => match oneS s2 with
      | .error e => .error e
      | .ok s3 => if k < 0 ∨ sizeV vs v ≤ k then .error (11, s3) else .ok { s3 with cells := s3.cells.set (cellOf vs v + k).toNat n }
def printS (vs : List Va) (e : Ex) (s : RS) : RR := match exS vs e s with
  | .error e => .error e
  | .ok (n, s1) => match oneS s1 with
    | .error e => .error e
    | .ok s2 => .ok { s2 with out := s2.out ++ [n] }
def readS (vs : List Va) (v : Int) (s : RS) : RR := match oneS s with
  | .error e => .error e
  | .ok s1 => match s1.inp with
    | [] => .error (12, s1)
    | x :: r => .ok { s1 with cells := s1.cells.set (cellOf vs v).toNat x, inp := r }
def listG (F : St → RS → Option RR) : List St → RS → Option RR
  | [], s => some (.ok s)
  | x :: l, s => match F x s with
    | none => none
    | some (.error e) => some (.error e)
    | some (.ok s1) => listG F l s1
/-- A statement, by so much gas (none: not enough of it). -/
def stG (vs : List Va) : Nat → St → RS → Option RR
  | 0, _, _ => none
  | g + 1, .mk op v e f body els, s =>
    if op = 1 then some (setS vs v e s)
    else if op = 2 then some (putS vs v e f s)
    else if op = 3 then some (printS vs e s)
    else if op = 4 then some (readS vs v s)
    else if op = 5 then match isS vs e s with
      | .error e => some (.error e)
      | .ok (false, s1) => some (.ok s1)
      | .ok (true, s1) => match listG (stG vs g) body s1 with
        | none => none
        | some (.error e) => some (.error e)
        | some (.ok s2) => match oneS s2 with
          | .error e => some (.error e)
          | .ok s3 => stG vs g (.mk op v e f body els) s3
    else if op = 6 then match isS vs e s with
      | .error e => some (.error e)
      | .ok (true, s1) => match listG (stG vs g) body s1 with
        | none => none
        | some (.error e) => some (.error e)
        | some (.ok s2) => some (oneS s2)
      | .ok (false, s1) => listG (stG vs g) els s1
    else if op = 7 then some (oneS s)
    else some (.ok s)
/-! what is left is never more -/
theorem oneF_le {f f' : Nat} (h : oneF f = .ok f') : f' + 1 = f := by
  rw [oneF] at h
  split at h
  · cases h
  · simp only [Except.ok.injEq] at h; omega
theorem opRun_left {vs : List Va} {cs : List Int} {op v n : Int} {xs : List Int} {f : Nat} : (∀ r, opRun vs cs op v n xs f = .ok r → r.2 = f) ∧ ∀ e, opRun vs cs op v n xs f = .error e → e = (11, f) := by
  rw [opRun]
  refine ⟨fun r h => ?_, fun e h => ?_⟩
  · repeat' split at h
    all_goals first | cases h; rfl | cases h
  · repeat' split at h
    all_goals first | cases h; rfl | cases h
/-- How an expression's run ends. -/
structure XEnd {α : Type} (r : XR α) (f : Nat) : Prop where
  ok : ∀ a, r = .ok a → a.2 ≤ f
  err : ∀ c k, r = .error (c, k) → k ≤ f ∧ (c = 13 ∧ k = 0 ∨ c = 11)
theorem exsEnd {vs : List Va} {cs : List Int} : ∀ (l : List Ex), (∀ x ∈ l, ∀ f, XEnd (exRun vs cs x f) f) → ∀ f, XEnd (exsRun vs cs l f) f ∧ ∀ xs k, exsRun vs cs l f = .ok (xs, k) → xs.length = l.length
  | [], _, f => by
    rw [exsRun]
    exact ⟨⟨fun a h => by cases h; exact Nat.le_refl _, fun c k h => (by cases h)⟩, fun xs k h => by cases h; rfl⟩
  | x :: l, h, f => by
    have hx := h x (by simp) f
    rw [exsRun]
    cases e1 : exRun vs cs x f with
    | error e =>
      refine ⟨⟨fun a h => (by cases h), fun c k h => ?_⟩, fun xs k h => (by cases h)⟩
      simp only [Except.error.injEq] at h; subst h
      exact hx.err c k e1
    | ok a =>
      obtain ⟨v, f1⟩ := a
      have h1 := hx.ok _ e1
      simp only at h1 ⊢
      obtain ⟨h2, h3⟩ := exsEnd l (fun y hy => h y (by simp [hy])) f1
      cases e2 : exsRun vs cs l f1 with
      | error e =>
        refine ⟨⟨fun a h => (by cases h), fun c k h => ?_⟩, fun xs k h => (by cases h)⟩
        simp only [Except.error.injEq] at h; subst h
        have := h2.err c k e2
        exact ⟨by omega, this.2⟩
      | ok a =>
        obtain ⟨xs, f2⟩ := a
        have := h2.ok _ e2
        refine ⟨⟨fun a h => ?_, fun c k h => (by cases h)⟩, fun ys k h => ?_⟩
        · simp only [Except.ok.injEq] at h; subst h; simp only at this ⊢; omega
        · simp only [Except.ok.injEq, Prod.mk.injEq] at h; obtain ⟨rfl, -⟩ := h
          rw [List.length_cons, List.length_cons, h3 xs f2 e2]
theorem exEnd (vs : List Va) (cs : List Int) (x : Ex) : ∀ f, XEnd (exRun vs cs x f) f := by
  refine Ex.ind (P := fun x => ∀ f, XEnd (exRun vs cs x f) f) ?_ x
  intro op v n l ih f
  have hl := (exsEnd l ih f).1
  rw [exRun]
  cases e1 : exsRun vs cs l f with
  | error e =>
    refine ⟨fun a h => (by cases h), fun c k h => ?_⟩
    simp only [Except.error.injEq] at h; subst h
    exact hl.err c k e1
  | ok a =>
    obtain ⟨xs, f1⟩ := a
    have h1 := hl.ok _ e1
    simp only at h1 ⊢
    cases e2 : oneF f1 with
    | error e =>
      refine ⟨fun a h => (by cases h), fun c k h => ?_⟩
      simp only [Except.error.injEq] at h; subst h
      rw [oneF] at e2
      split at e2
      · cases e2; exact ⟨Nat.zero_le _, .inl ⟨rfl, rfl⟩⟩
      · cases e2
    | ok f2 =>
      have h2 := oneF_le e2
      obtain ⟨g1, g2⟩ := opRun_left (vs := vs) (cs := cs) (op := op) (v := v) (n := n) (xs := xs) (f := f2)
      refine ⟨fun a h => ?_, fun c k h => ?_⟩
      · have := g1 a h; omega
      · have := g2 _ h; simp only [Prod.mk.injEq] at this; obtain ⟨rfl, rfl⟩ := this; exact ⟨by omega, .inr rfl⟩
theorem exsLen (vs : List Va) (cs : List Int) (l : List Ex) (f : Nat) {xs : List Int} {k : Nat} (h : exsRun vs cs l f = .ok (xs, k)) : xs.length = l.length := (exsEnd l (fun x _ => exEnd vs cs x) f).2 xs k h
/-! the document's machine -/
structure Mi where
  next : Nat
  stack : List Int
  rd : Nat
  outn : Nat
  st : Int
  cells : List Int
structure Be where
  m : Mi
  kept : Mi
  out : List Int
  wrong : Bool
/-- What an instruction does, the next one being told. -/
def doIn (inp : List Int) (keep : Bool) (x : In) (b : Be) : Be :=
  let m := b.m
  if x.op = 1 then { b with m := { m with stack := x.n :: m.stack } }
  else if x.op = 2 then { b with m := { m with stack := m.cells.getD x.a.toNat 0 :: m.stack } }
  else if x.op = 3 then match m.stack with
    | [] => b
    | k :: s => if k < 0 ∨ x.b ≤ k then { b with m := { m with stack := s, st := 13 } } else { b with m := { m with stack := m.cells.getD (x.a + k).toNat 0 :: s } }
  else if 4 ≤ x.op ∧ x.op ≤ 8 then match m.stack with
    | y :: z :: s => { b with m := { m with stack := binV x.op z y :: s } }
    | _ => b
  else if x.op = 9 then match m.stack with
    | [] => b
    | n :: s => { b with m := { m with stack := s, cells := m.cells.set x.a.toNat n } }
  else if x.op = 10 then match m.stack with
    | n :: k :: s => if k < 0 ∨ x.b ≤ k then { b with m := { m with stack := s, st := 13 } } else { b with m := { m with stack := s, cells := m.cells.set (x.a + k).toNat n } }
    | _ => b
  else if x.op = 11 then match m.stack with
    | [] => b
    | n :: s =>
      if m.outn = b.out.length then { b with m := { m with stack := s, outn := m.outn + 1 }, out := b.out ++ [n] }
      else { b with m := { m with stack := s, outn := m.outn + 1 }, wrong := b.wrong || decide (b.out.getD m.outn 0 ≠ n) }
  else if x.op = 12 then (if inp.length ≤ m.rd then { b with m := { m with st := 14 } } else { b with m := { m with cells := m.cells.set x.a.toNat (inp.getD m.rd 0), rd := m.rd + 1 } })
  else if x.op = 13 then match m.stack with
    | [] => b
    | n :: s => if n = 0 then { b with m := { m with stack := s, next := x.a.toNat } } else { b with m := { m with stack := s } }
  else if x.op = 14 then { b with m := { m with next := x.a.toNat } }
  else if x.op = 15 then (if keep then { b with kept := m } else b)
  else if x.op = 16 then { b with m := { m with st := 1 } }
  else b
def bump (b : Be) : Be := { b with m := { b.m with next := b.m.next + 1 } }
def stepB (code : List In) (inp : List Int) (keep : Bool) (b : Be) : Be := match code[b.m.next]? with
  | none => b
  | some x => doIn inp keep x (bump b)
/-- So many instructions at most: what it comes to, how many it took. -/
def runM (code : List In) (inp : List Int) : Nat → Be → Be × Nat
  | 0, b => (b, 0)
  | f + 1, b => if b.m.st ≠ 0 then (b, 0) else ((runM code inp f (stepB code inp false b)).1, (runM code inp f (stepB code inp false b)).2 + 1)
end Go.Proofs.Ytbbghdkndbpmmaa

namespace Go.Proofs.Ytbbghdkndbpmmaa
open Go X
set_option maxHeartbeats 1000000
theorem parts_a (σ : PH) (op : Int) : CallsA Try.prog 20 #[i64 op] σ [] (RetA fun v σ' Γ' => v = i64 (partsOf op) ∧ σ = σ' ∧ Γ' = []) := by
  by_cases h0 : op < 1
  · 
    refine enterA1 Try.func20 rfl rfl rfl ?_
    refine zS ?_; refine zR ?_; refine zO rfl Rd.asg ?_; refine zN ?_; refine zT ?_; refine zS ?_; refine zS ?_; refine zR ?_; refine zO rfl Rd.mv ?_; refine zO rfl (Rd.lss rfl rfl) ?_; refine zO rfl Rd.mv ?_
    first | ((first | refine zW ?_ | refine zQ ?_); refine zO rfl Rd.mv ?_) | refine zU ?_ | refine zV ?_ | refine zZ ?_
    first | ((first | refine zW ?_ | refine zQ ?_); refine zO rfl (Rd.gtr rfl rfl) ?_) | refine zU ?_ | refine zV ?_ | refine zZ ?_
    refine zO rfl (by first | exact Rd.pT rfl | exact Rd.pF rfl | exact Rd.pP rfl) ?_
    refine zN ?_; refine zT ?_
    refine XA.condT rfl rfl ?_
    refine zS ?_; refine zR ?_; refine zO rfl Rd.asg ?_; refine zN ?_; refine zT ?_
    refine XA.ret ?_
    refine DA.thn_ret ?_
    refine bodyA.ret (ResA.one rfl rfl) (Ent.refl _) ⟨?_, rfl, rfl⟩
    rw [partsOf, if_neg (by omega), if_neg (by omega), if_neg (by omega)]
  · 
    refine enterA1 Try.func20 rfl rfl rfl ?_
    refine zS ?_; refine zR ?_; refine zO rfl Rd.asg ?_; refine zN ?_; refine zT ?_; refine zS ?_; refine zS ?_; refine zR ?_; refine zO rfl Rd.mv ?_; refine zO rfl (Rd.lss rfl rfl) ?_; refine zO rfl Rd.mv ?_
    first | ((first | refine zW ?_ | refine zQ ?_); refine zO rfl Rd.mv ?_) | refine zU ?_ | refine zV ?_ | refine zZ ?_
    first | ((first | refine zW ?_ | refine zQ ?_); refine zO rfl (Rd.gtr rfl rfl) ?_) | refine zU ?_ | refine zV ?_ | refine zZ ?_
    refine zO rfl (by first | exact Rd.pT rfl | exact Rd.pF rfl | exact Rd.pP rfl) ?_
    refine zN ?_; refine zT ?_
    refine XA.condp rfl (fun h1 => ?_) (fun h1 => ?_)
    · refine zS ?_
      refine zR ?_; refine zO rfl Rd.asg ?_; refine zN ?_; refine zT ?_
      refine XA.ret ?_
      refine DA.thn_ret ?_
      refine bodyA.ret (ResA.one rfl rfl) (Ent.refl _) ⟨?_, rfl, rfl⟩
      rw [partsOf, if_neg (by omega), if_neg (by omega), if_neg (by omega)]
    have hop : op = 1 ∨ op = 2 ∨ op = 3 ∨ op = 4 ∨ op = 5 ∨ op = 6 ∨ op = 7 ∨ op = 8 := by omega
    have hel : (List.toArray [i64 0, i64 0, i64 0, i64 1, i64 2, i64 2, i64 2, i64 2, i64 2])[op.toNat]? = some (i64 (partsOf op)) := by
      rcases hop with rfl | rfl | rfl | rfl | rfl | rfl | rfl | rfl <;> rfl
    refine XA.skip ?_
    refine zT ?_; refine zS ?_; refine zR ?_
    refine zO rfl (Rd.buildA (cs := [i64 0, i64 0, i64 0, i64 1, i64 2, i64 2, i64 2, i64 2, i64 2]) (fun _ _ => tyrow) rfl rfl rfl rfl (by kernel_rfl)) ?_
    refine zO rfl Rd.mv ?_
    refine zO rfl (by apply Rd.indexAgg; exact tyrow rfl; rfl; exact tyrow rfl; rfl; rfl; rfl; rfl; exact (by omega); exact hel) ?_
    refine zO rfl Rd.asg ?_; refine zN ?_; refine zT ?_
    refine XA.ret ?_
    exact bodyA.ret (ResA.one rfl rfl) (Ent.refl _) ⟨rfl, rfl, rfl⟩
theorem name_a (σ : PH) (s : ByteArray) (hs : s.size ≤ maxLen) : CallsA Try.prog 22 #[.string s] σ [] (RetA fun v σ' Γ' => v = .bool (nameOk s) ∧ σ = σ' ∧ Γ' = []) := by
  simp only [maxLen] at hs
  refine enterA1 Try.func22 rfl rfl rfl ?_
  refine zS ?_; refine zR ?_; refine zO rfl Rd.asg ?_; refine zN ?_; refine zT ?_; refine zS ?_; refine zS ?_; refine zR ?_; refine zO rfl Rd.mv ?_
  refine zO rfl (Rd.lenString (tyrow rfl) rfl rfl) ?_
  refine zO rfl Rd.mv ?_; refine zN ?_; refine zT ?_
  refine XA.block ?_
  refine XA.gen [(0, _), (2, _), (5, _), (6, _)] ⟨(by with_reducible (conv => lhs; whnf)), (by with_reducible (conv => lhs; whnf)), (by with_reducible (conv => lhs; whnf)), (by with_reducible (conv => lhs; whnf)), trivial⟩ (fun δ => ?_)
  dsimp only [List.foldl]
  refine XA.loop [(2, 3), (6, 19)] (fun k : Nat => [(6, i64 k)]) (fun k σ' Γ' => σ = σ' ∧ k ≤ s.size ∧ (∀ i, i < k → 97 ≤ byteAt s i ∧ byteAt s i ≤ 122) ∧ Γ' = []) (fun k => s.size - k) 0 (by exact ⟨rfl, trivial⟩) (Δ0 := _) ?_ (⟨rfl, Nat.zero_le _, by intro i hi; omega, rfl⟩) ?_
  · exact zE
  rintro k δ _ _ ⟨rfl, hk, hall, rfl⟩
  dsimp only [ovr, List.foldl]
  refine zS ?_; refine zR ?_; refine zO rfl (Rd.lss rfl rfl) ?_; refine zN ?_; refine zT ?_; refine zS ?_
  refine XA.condp rfl (fun hlt => ?_) (fun hlt => ?_)
  · have hlt : k < s.size := by omega
    have hb := byteAt_lt s k
    by_cases h1 : byteAt s k < 97
    · 
      refine XA.skip ?_
      refine zT ?_; refine zS ?_
      refine XA.block ?_
      refine zS ?_; refine zR ?_; refine zO rfl Rd.mv ?_; refine zO rfl Rd.asg ?_; refine zN ?_; refine zT ?_; refine zS ?_; refine zR ?_; refine zO rfl Rd.mv ?_; refine zO rfl Rd.mv ?_
      refine zO rfl (Rd.indexStr (tyrow rfl) rfl rfl rfl (by first | omega | decide | (simp; omega))) ?_
      refine zO rfl (Rd.lss rfl rfl) ?_; refine zO rfl Rd.mv ?_
      first | ((first | refine zW ?_ | refine zQ ?_); refine zO rfl Rd.mv ?_) | refine zU ?_ | refine zV ?_ | refine zZ ?_
      first | ((first | refine zW ?_ | refine zQ ?_); refine zO rfl Rd.mv ?_) | refine zU ?_ | refine zV ?_ | refine zZ ?_
      first | ((first | refine zW ?_ | refine zQ ?_); refine zO rfl (Rd.indexStr (tyrow rfl) rfl rfl rfl (by first | omega | decide | (simp; omega))) ?_) | refine zU ?_ | refine zV ?_ | refine zZ ?_
      first | ((first | refine zW ?_ | refine zQ ?_); refine zO rfl (Rd.gtr rfl rfl) ?_) | refine zU ?_ | refine zV ?_ | refine zZ ?_
      refine zO rfl (by first | exact Rd.pT rfl | exact Rd.pF rfl | exact Rd.pP rfl) ?_
      refine zN ?_; refine zT ?_
      refine XA.condT rfl rfl ?_
      refine zS ?_; refine zR ?_; refine zO rfl Rd.asg ?_; refine zN ?_; refine zT ?_
      refine XA.ret ?_
      refine DA.inb_ret ?_
      refine DA.thn_ret ?_
      refine DA.thn_ret ?_
      refine DA.inb_ret ?_
      refine DA.thn_ret ?_
      refine bodyA.ret (ResA.one rfl rfl) (Ent.refl _) ⟨?_, rfl, rfl⟩
      have : nameOk s = false := decide_eq_false (fun h => by have := h.1 k hlt; omega)
      rw [this]
    · 
      refine XA.skip ?_
      refine zT ?_; refine zS ?_
      refine XA.block ?_
      refine zS ?_; refine zR ?_; refine zO rfl Rd.mv ?_; refine zO rfl Rd.asg ?_; refine zN ?_; refine zT ?_; refine zS ?_; refine zR ?_; refine zO rfl Rd.mv ?_; refine zO rfl Rd.mv ?_
      refine zO rfl (Rd.indexStr (tyrow rfl) rfl rfl rfl (by first | omega | decide | (simp; omega))) ?_
      refine zO rfl (Rd.lss rfl rfl) ?_; refine zO rfl Rd.mv ?_
      first | ((first | refine zW ?_ | refine zQ ?_); refine zO rfl Rd.mv ?_) | refine zU ?_ | refine zV ?_ | refine zZ ?_
      first | ((first | refine zW ?_ | refine zQ ?_); refine zO rfl Rd.mv ?_) | refine zU ?_ | refine zV ?_ | refine zZ ?_
      first | ((first | refine zW ?_ | refine zQ ?_); refine zO rfl (Rd.indexStr (tyrow rfl) rfl rfl rfl (by first | omega | decide | (simp; omega))) ?_) | refine zU ?_ | refine zV ?_ | refine zZ ?_
      first | ((first | refine zW ?_ | refine zQ ?_); refine zO rfl (Rd.gtr rfl rfl) ?_) | refine zU ?_ | refine zV ?_ | refine zZ ?_
      refine zO rfl (by first | exact Rd.pT rfl | exact Rd.pF rfl | exact Rd.pP rfl) ?_
      refine zN ?_; refine zT ?_
      refine XA.condp rfl (fun h2 => ?_) (fun h2 => ?_)
      · refine zS ?_
        refine zR ?_; refine zO rfl Rd.asg ?_; refine zN ?_; refine zT ?_
        refine XA.ret ?_
        refine DA.inb_ret ?_
        refine DA.thn_ret ?_
        refine DA.thn_ret ?_
        refine DA.inb_ret ?_
        refine DA.thn_ret ?_
        refine bodyA.ret (ResA.one rfl rfl) (Ent.refl _) ⟨?_, rfl, rfl⟩
        have : nameOk s = false := decide_eq_false (fun h => by have := h.1 k hlt; omega)
        rw [this]
      have hnew : ∀ i, i < k + 1 → 97 ≤ byteAt s i ∧ byteAt s i ≤ 122 := fun i hi => by
        rcases Nat.lt_or_ge i k with h | h
        · exact hall i h
        · have : i = k := by omega
          subst this; omega
      refine XA.skip ?_
      refine DA.inb_normal ?_
      refine zT ?_; refine zR ?_
      refine zO rfl (by first | exact Rd.adi rfl rfl | exact Rd.add rfl rfl) ?_
      refine zO rfl Rd.mv ?_; refine zN ?_; refine zT ?_
      refine ⟨(Keep.upd (Keep.upd (Keep.upd (Keep.upd (Keep.upd (Keep.upd (Keep.upd (Keep.upd (Keep.upd (Keep.upd (Keep.upd (Keep.upd (Keep.upd (Keep.upd (Keep.upd (Keep.upd (Keep.hav (Keep.hav (Keep.refl _ _) rfl) rfl) rfl) rfl) rfl) rfl) rfl) rfl) rfl) rfl) rfl) rfl) rfl) rfl) rfl) rfl) rfl) rfl), k + 1, _, (by (repeat (first | exact trivial | refine ⟨rfl, ?_⟩ | refine ⟨Eq.trans rfl (congrArg Value.bool hmat.symm), ?_⟩)); (first | done | fail)), ?_, ⟨rfl, hlt, hnew, rfl⟩, (by omega)⟩
      · exact zE
  have hkn : k = s.size := by omega
  subst hkn
  by_cases h0 : s.size = 0
  · have hz : s = ⟨#[]⟩ := ByteArray.ext (Array.eq_empty_of_size_eq_zero h0)
    subst hz
    refine XA.exit ?_
    refine DA.thn_exit ?_
    refine DA.thn_exit ?_
    refine DA.inb_same ?_
    refine zT ?_; refine zS ?_; refine zR ?_; refine zO rfl Rd.mv ?_
    refine zO rfl (Rd.neqs rfl rfl) ?_
    refine zO rfl Rd.mv ?_
    first | ((first | refine zW ?_ | refine zQ ?_); refine zO rfl Rd.mv ?_) | refine zU ?_ | refine zV ?_ | refine zZ ?_
    first | ((first | refine zW ?_ | refine zQ ?_); refine zO rfl (Rd.lenString (tyrow rfl) rfl rfl) ?_) | refine zU ?_ | refine zV ?_ | refine zZ ?_
    first | ((first | refine zW ?_ | refine zQ ?_); refine zO rfl (Rd.leq rfl rfl) ?_) | refine zU ?_ | refine zV ?_ | refine zZ ?_
    refine zO rfl (by first | exact Rd.pT rfl | exact Rd.pF rfl | exact Rd.pP rfl) ?_
    refine zO rfl Rd.asg ?_; refine zN ?_; refine zT ?_
    refine XA.ret ?_
    exact bodyA.ret (ResA.one rfl rfl) (Ent.refl _) ⟨rfl, rfl, rfl⟩
  · have hz : s ≠ ⟨#[]⟩ := fun e => h0 (by rw [e]; rfl)
    refine XA.exit ?_
    refine DA.thn_exit ?_
    refine DA.thn_exit ?_
    refine DA.inb_same ?_
    refine zT ?_; refine zS ?_; refine zR ?_; refine zO rfl Rd.mv ?_
    refine zO rfl (Rd.neqs rfl rfl) ?_
    refine zO rfl Rd.mv ?_
    first | ((first | refine zW ?_ | refine zQ ?_); refine zO rfl Rd.mv ?_) | refine zU ?_ | refine zV ?_ | refine zZ ?_
    first | ((first | refine zW ?_ | refine zQ ?_); refine zO rfl (Rd.lenString (tyrow rfl) rfl rfl) ?_) | refine zU ?_ | refine zV ?_ | refine zZ ?_
    first | ((first | refine zW ?_ | refine zQ ?_); refine zO rfl (Rd.leq rfl rfl) ?_) | refine zU ?_ | refine zV ?_ | refine zZ ?_
    refine zO rfl (by first | exact Rd.pT rfl | exact Rd.pF rfl | exact Rd.pP rfl) ?_
    refine zO rfl Rd.asg ?_; refine zN ?_; refine zT ?_
    refine XA.ret ?_
    refine bodyA.ret (ResA.one rfl rfl) (Ent.refl _) ⟨?_, rfl, rfl⟩
    have : nameOk s = decide ((s.size : Int) ≤ 8) := by
      unfold nameOk
      rw [decide_eq_decide]
      constructor
      · intro h; omega
      · intro h; exact ⟨hall, by omega, by omega⟩
    rw [this]
end Go.Proofs.Ytbbghdkndbpmmaa

namespace Go.Proofs.Ytbbghdkndbpmmaa
open Go X
set_option maxHeartbeats 1000000
/-- A judge: what it knows of variables, and what is left, or a code. -/
def Judge (b : Nat) (vs : Value) (e : JE) : HP := fun m => ∃ l c, blk b [vs, i64 l, i64 c] 79 m ∧ match e with | .ok l' => l = l' ∧ c = 0 | .error d => c = d ∧ c ≠ 0
theorem sat1 {R : HP} {m : PH} (h : R m) : Sat [R] m := ⟨m, PH.none, h, trivial, PH.none_dis m, .refl m, PH.none_sub m⟩
theorem of_sat1 {R : HP} {m : PH} (mono : ∀ m m', R m → m.sub m' → R m') (h : Sat [R] m) : R m := by
  obtain ⟨m1, m2, a, -, -, b, -⟩ := h
  exact mono _ _ a b
theorem blk_mono {g : Nat} {l : List Value} {T : TypeId} : ∀ m m', blk g l T m → PH.sub m m' → blk g l T m' := fun _ _ h s => s _ _ h
theorem Judge.okO {b : Nat} {vs : Value} {l : Int} : ∀ m, Judge b vs (.ok l) m → ∃ _ : Unit, True ∧ Sat [blk b [vs, i64 l, i64 0] 79] m := by
  rintro m ⟨l', c, h, rfl, rfl⟩; exact ⟨(), trivial, sat1 h⟩
theorem Judge.errO {b : Nat} {vs : Value} {c : Int} : ∀ m, Judge b vs (.error c) m → ∃ l : Int, c ≠ 0 ∧ Sat [blk b [vs, i64 l, i64 c] 79] m := by
  rintro m ⟨l', c', h, rfl, h0⟩; exact ⟨l', h0, sat1 h⟩
theorem Judge.mkO {b : Nat} {vs : Value} {l : Int} : ∀ m, Sat [blk b [vs, i64 l, i64 0] 79] m → Judge b vs (.ok l) m := fun m h => ⟨l, 0, of_sat1 blk_mono h, rfl, rfl⟩
theorem Judge.mkE {b : Nat} {vs : Value} {l c : Int} (h0 : c ≠ 0) : ∀ m, Sat [blk b [vs, i64 l, i64 c] 79] m → Judge b vs (.error c) m := fun m h => ⟨l, c, of_sat1 blk_mono h, rfl, h0⟩
theorem fail_a (σ : PH) (b : Nat) (vs : Value) (e : JE) (is : Bool) (c : Int) (hc : c ≠ 0) :
    CallsA Try.prog 81 #[ptr b, .bool is, i64 c] σ [Judge b vs e] (RetA fun v σ' Γ' => v = .tuple #[] ∧ σ = σ' ∧ Γ' = [Judge b vs (e.fail is c)]) := by
  cases is with
  | false =>
    refine enterA3 Try.func81 rfl rfl rfl ?_
    refine zS ?_; refine zR ?_; refine zO rfl Rd.mv ?_; refine zO rfl Rd.mv ?_
    first | ((first | refine zW ?_ | refine zQ ?_); refine zO rfl Rd.mv ?_) | refine zU ?_ | refine zV ?_ | refine zZ ?_
    first | ((first | refine zW ?_ | refine zQ ?_); refine zO rfl (Rd.nilCheck rfl) ?_) | refine zU ?_ | refine zV ?_ | refine zZ ?_
    first | ((first | refine zW ?_ | refine zQ ?_); refine zO rfl (Rd.fA rfl) ?_) | refine zU ?_ | refine zV ?_ | refine zZ ?_
    first | ((first | refine zW ?_ | refine zQ ?_); refine zO rfl (Rd.ldC rfl (tyrow rfl) rfl) ?_) | refine zU ?_ | refine zV ?_ | refine zZ ?_
    first | ((first | refine zW ?_ | refine zQ ?_); refine zO rfl (Rd.eql rfl rfl) ?_) | refine zU ?_ | refine zV ?_ | refine zZ ?_
    refine zO rfl (by first | exact Rd.pT rfl | exact Rd.pF rfl | exact Rd.pP rfl) ?_
    refine zN ?_; refine zT ?_
    refine XA.condF rfl rfl ?_
    refine XA.skip ?_
    exact bodyA.normal (ResA.none rfl) (Ent.refl _) ⟨rfl, rfl, by rw [fail_false]⟩
  | true =>
    cases e with
    | ok l =>
      refine enterA3 Try.func81 rfl rfl rfl ?_
      refine zS ?_; refine zR ?_; refine zO rfl Rd.mv ?_; refine zO rfl Rd.mv ?_
      first | ((first | refine zW ?_ | refine zQ ?_); refine zO rfl Rd.mv ?_) | refine zU ?_ | refine zV ?_ | refine zZ ?_
      first | refine XA.opn (R := Judge b vs (.ok l)) (by ((repeat (first | with_reducible exact Sel.head | apply Sel.tail)); (first | done | fail))) (Judge.okO) ?_ | refine XOA.opn (R := Judge b vs (.ok l)) (by ((repeat (first | with_reducible exact Sel.head | apply Sel.tail)); (first | done | fail))) (Judge.okO) ?_ | refine DA.opn (R := Judge b vs (.ok l)) (by ((repeat (first | with_reducible exact Sel.head | apply Sel.tail)); (first | done | fail))) (Judge.okO) ?_
      rintro ⟨⟩ -
      first | refine XA.cl ?_ | refine XOA.cl ?_ | refine DA.cl ?_
      first | ((first | refine zW ?_ | refine zQ ?_); refine zO rfl (Rd.nilCheck rfl) ?_) | refine zU ?_ | refine zV ?_ | refine zZ ?_
      first | ((first | refine zW ?_ | refine zQ ?_); refine zO rfl (Rd.fA rfl) ?_) | refine zU ?_ | refine zV ?_ | refine zZ ?_
      first | ((first | refine zW ?_ | refine zQ ?_); refine zO rfl (Rd.ldC rfl (tyrow rfl) rfl) ?_) | refine zU ?_ | refine zV ?_ | refine zZ ?_
      first | ((first | refine zW ?_ | refine zQ ?_); refine zO rfl (Rd.eql rfl rfl) ?_) | refine zU ?_ | refine zV ?_ | refine zZ ?_
      refine zO rfl (by first | exact Rd.pT rfl | exact Rd.pF rfl | exact Rd.pP rfl) ?_
      refine zN ?_; refine zT ?_
      refine XA.condT rfl rfl ?_
      refine zR ?_; refine zO rfl Rd.mv ?_; refine zO rfl Rd.mv ?_; refine zO rfl (Rd.nilCheck rfl) ?_; refine zO rfl (Rd.fA rfl) ?_
      refine XOA.wr0 rfl (WrA.st (tyrow rfl) rfl) ?_
      rintro _ _ _ ⟨rfl, rfl, rfl⟩
      refine zN ?_
      exact bodyA.normal (ResA.none rfl) (Ent.fold1 zE (Judge.mkE hc)) ⟨rfl, rfl, rfl⟩
    | error d =>
      refine enterA3 Try.func81 rfl rfl rfl ?_
      refine zS ?_; refine zR ?_; refine zO rfl Rd.mv ?_; refine zO rfl Rd.mv ?_
      first | ((first | refine zW ?_ | refine zQ ?_); refine zO rfl Rd.mv ?_) | refine zU ?_ | refine zV ?_ | refine zZ ?_
      first | refine XA.opn (R := Judge b vs (.error d)) (by ((repeat (first | with_reducible exact Sel.head | apply Sel.tail)); (first | done | fail))) (Judge.errO) ?_ | refine XOA.opn (R := Judge b vs (.error d)) (by ((repeat (first | with_reducible exact Sel.head | apply Sel.tail)); (first | done | fail))) (Judge.errO) ?_ | refine DA.opn (R := Judge b vs (.error d)) (by ((repeat (first | with_reducible exact Sel.head | apply Sel.tail)); (first | done | fail))) (Judge.errO) ?_
      rintro l h0
      first | refine XA.cl ?_ | refine XOA.cl ?_ | refine DA.cl ?_
      first | ((first | refine zW ?_ | refine zQ ?_); refine zO rfl (Rd.nilCheck rfl) ?_) | refine zU ?_ | refine zV ?_ | refine zZ ?_
      first | ((first | refine zW ?_ | refine zQ ?_); refine zO rfl (Rd.fA rfl) ?_) | refine zU ?_ | refine zV ?_ | refine zZ ?_
      first | ((first | refine zW ?_ | refine zQ ?_); refine zO rfl (Rd.ldC rfl (tyrow rfl) rfl) ?_) | refine zU ?_ | refine zV ?_ | refine zZ ?_
      first | ((first | refine zW ?_ | refine zQ ?_); refine zO rfl (Rd.eql rfl rfl) ?_) | refine zU ?_ | refine zV ?_ | refine zZ ?_
      refine zO rfl (by first | exact Rd.pT rfl | exact Rd.pF rfl | exact Rd.pP rfl) ?_
      refine zN ?_; refine zT ?_
      refine XA.condF rfl (decide_eq_false h0) ?_
      refine XA.skip ?_
      exact bodyA.normal (ResA.none rfl) (Ent.fold1 zE (Judge.mkE h0)) ⟨rfl, rfl, rfl⟩
theorem fail_okT (l c : Int) : JE.fail (.ok l) true c = .error c := rfl
def JE.isOk : JE → Bool | .ok _ => true | .error _ => false
def JE.in_ (e : JE) : Prop := ∀ l, e = .ok l → 0 ≤ l ∧ l ≤ 150
theorem one_a (σ : PH) (b : Nat) (vs : Value) (e : JE) (deep : Int) (hl : e.in_) :
    CallsA Try.prog 80 #[ptr b, i64 deep] σ [Judge b vs e] (RetA fun v σ' Γ' => v = .bool (e.one deep).isOk ∧ σ = σ' ∧ Γ' = [Judge b vs (e.one deep)]) := by
  refine enterA2 Try.func80 rfl rfl rfl ?_
  refine zS ?_; refine zR ?_; refine zO rfl Rd.asg ?_; refine zN ?_; refine zT ?_; refine zS ?_; refine zR ?_; refine zO rfl Rd.mv ?_; refine zO rfl Rd.mv ?_
  refine zO rfl (Rd.gtr rfl rfl) ?_
  refine XOA.wr0 rfl (WrA.cE (fail_a σ b vs e (decide (12 < deep)) 4 (by decide)) rfl) ?_
  rintro _ _ _ ⟨_, ⟨rfl, rfl, rfl⟩, rfl⟩
  refine XOA.cl ?_
  cases e with
  | error c =>
    rw [fail_err]
    refine zN ?_; refine zT ?_; refine zS ?_; refine zR ?_; refine zO rfl Rd.mv ?_; refine zO rfl Rd.mv ?_
    first | refine XA.opn (R := Judge b vs (.error c)) (by ((repeat (first | with_reducible exact Sel.head | apply Sel.tail)); (first | done | fail))) (Judge.errO) ?_ | refine XOA.opn (R := Judge b vs (.error c)) (by ((repeat (first | with_reducible exact Sel.head | apply Sel.tail)); (first | done | fail))) (Judge.errO) ?_ | refine DA.opn (R := Judge b vs (.error c)) (by ((repeat (first | with_reducible exact Sel.head | apply Sel.tail)); (first | done | fail))) (Judge.errO) ?_
    rintro l h0
    first | refine XA.cl ?_ | refine XOA.cl ?_ | refine DA.cl ?_
    refine zO rfl (Rd.nilCheck rfl) ?_; refine zO rfl (Rd.fA rfl) ?_; refine zO rfl (Rd.ldC rfl (tyrow rfl) rfl) ?_; refine zO rfl (Rd.eql rfl rfl) ?_
    refine XOA.ent (Δ := [Judge b vs (.error c)]) (Ent.fold1 zE (Judge.mkE h0)) ?_
    refine XOA.wr0 rfl (WrA.cE (fail_a σ b vs (.error c) (decide (l = 0)) 3 (by decide)) rfl) ?_
    rintro _ _ _ ⟨_, ⟨rfl, rfl, rfl⟩, rfl⟩
    refine XOA.cl ?_
    rw [fail_err]
    refine zN ?_; refine zT ?_; refine zS ?_; refine zR ?_; refine zO rfl Rd.mv ?_
    first | refine XA.opn (R := Judge b vs (.error c)) (by ((repeat (first | with_reducible exact Sel.head | apply Sel.tail)); (first | done | fail))) (Judge.errO) ?_ | refine XOA.opn (R := Judge b vs (.error c)) (by ((repeat (first | with_reducible exact Sel.head | apply Sel.tail)); (first | done | fail))) (Judge.errO) ?_ | refine DA.opn (R := Judge b vs (.error c)) (by ((repeat (first | with_reducible exact Sel.head | apply Sel.tail)); (first | done | fail))) (Judge.errO) ?_
    rintro l2 h2
    first | refine XA.cl ?_ | refine XOA.cl ?_ | refine DA.cl ?_
    refine zO rfl (Rd.nilCheck rfl) ?_; refine zO rfl (Rd.fA rfl) ?_; refine zO rfl (Rd.ldC rfl (tyrow rfl) rfl) ?_
    refine zO rfl (by first | exact Rd.sbi rfl rfl | exact Rd.sub rfl rfl) ?_
    refine zO rfl (Rd.nilCheck rfl) ?_; refine zO rfl (Rd.fA rfl) ?_
    refine XOA.wr0 rfl (WrA.st (tyrow rfl) rfl) ?_
    rintro _ _ _ ⟨rfl, rfl, rfl⟩
    refine zN ?_; refine zT ?_; refine zS ?_; refine zR ?_; refine zO rfl Rd.mv ?_; refine zO rfl (Rd.nilCheck rfl) ?_; refine zO rfl (Rd.fA rfl) ?_; refine zO rfl (Rd.ldC rfl (tyrow rfl) rfl) ?_; refine zO rfl (Rd.eql rfl rfl) ?_; refine zO rfl Rd.asg ?_; refine zN ?_; refine zT ?_
    refine XA.ret ?_
    refine bodyA.ret (ResA.one rfl rfl) (Ent.fold1 zE (Judge.mkE h0)) ⟨?_, rfl, rfl⟩
    rw [decide_eq_false h0]; rfl
  | ok l =>
    obtain ⟨l0, l1⟩ := hl l rfl
    by_cases hd : 12 < deep
    · rw [decide_eq_true hd, fail_okT]
      refine zN ?_; refine zT ?_; refine zS ?_; refine zR ?_; refine zO rfl Rd.mv ?_; refine zO rfl Rd.mv ?_
      first | refine XA.opn (R := Judge b vs (.error 4)) (by ((repeat (first | with_reducible exact Sel.head | apply Sel.tail)); (first | done | fail))) (Judge.errO) ?_ | refine XOA.opn (R := Judge b vs (.error 4)) (by ((repeat (first | with_reducible exact Sel.head | apply Sel.tail)); (first | done | fail))) (Judge.errO) ?_ | refine DA.opn (R := Judge b vs (.error 4)) (by ((repeat (first | with_reducible exact Sel.head | apply Sel.tail)); (first | done | fail))) (Judge.errO) ?_
      rintro l2 -
      first | refine XA.cl ?_ | refine XOA.cl ?_ | refine DA.cl ?_
      refine zO rfl (Rd.nilCheck rfl) ?_; refine zO rfl (Rd.fA rfl) ?_; refine zO rfl (Rd.ldC rfl (tyrow rfl) rfl) ?_; refine zO rfl (Rd.eql rfl rfl) ?_
      refine XOA.ent (Δ := [Judge b vs (.error 4)]) (Ent.fold1 zE (Judge.mkE (by decide))) ?_
      refine XOA.wr0 rfl (WrA.cE (fail_a σ b vs (.error 4) (decide (l2 = 0)) 3 (by decide)) rfl) ?_
      rintro _ _ _ ⟨_, ⟨rfl, rfl, rfl⟩, rfl⟩
      refine XOA.cl ?_
      rw [fail_err]
      refine zN ?_; refine zT ?_; refine zS ?_; refine zR ?_; refine zO rfl Rd.mv ?_
      first | refine XA.opn (R := Judge b vs (.error 4)) (by ((repeat (first | with_reducible exact Sel.head | apply Sel.tail)); (first | done | fail))) (Judge.errO) ?_ | refine XOA.opn (R := Judge b vs (.error 4)) (by ((repeat (first | with_reducible exact Sel.head | apply Sel.tail)); (first | done | fail))) (Judge.errO) ?_ | refine DA.opn (R := Judge b vs (.error 4)) (by ((repeat (first | with_reducible exact Sel.head | apply Sel.tail)); (first | done | fail))) (Judge.errO) ?_
      rintro l3 -
      first | refine XA.cl ?_ | refine XOA.cl ?_ | refine DA.cl ?_
      refine zO rfl (Rd.nilCheck rfl) ?_; refine zO rfl (Rd.fA rfl) ?_; refine zO rfl (Rd.ldC rfl (tyrow rfl) rfl) ?_
      refine zO rfl (by first | exact Rd.sbi rfl rfl | exact Rd.sub rfl rfl) ?_
      refine zO rfl (Rd.nilCheck rfl) ?_; refine zO rfl (Rd.fA rfl) ?_
      refine XOA.wr0 rfl (WrA.st (tyrow rfl) rfl) ?_
      rintro _ _ _ ⟨rfl, rfl, rfl⟩
      refine zN ?_; refine zT ?_; refine zS ?_; refine zR ?_; refine zO rfl Rd.mv ?_; refine zO rfl (Rd.nilCheck rfl) ?_; refine zO rfl (Rd.fA rfl) ?_; refine zO rfl (Rd.ldC rfl (tyrow rfl) rfl) ?_; refine zO rfl (Rd.eql rfl rfl) ?_; refine zO rfl Rd.asg ?_; refine zN ?_; refine zT ?_
      refine XA.ret ?_
      refine bodyA.ret (ResA.one rfl rfl) (Ent.fold1 (Γ := _) (Θ := [blk b [vs, _, i64 4] 79]) zE (Judge.mkE (by decide))) ⟨?_, rfl, ?_⟩
      · simp [JE.one, hd, JE.isOk]
      · simp [JE.one, hd]
    · rw [decide_eq_false hd, fail_false]
      refine zN ?_; refine zT ?_; refine zS ?_; refine zR ?_; refine zO rfl Rd.mv ?_; refine zO rfl Rd.mv ?_
      first | refine XA.opn (R := Judge b vs (.ok l)) (by ((repeat (first | with_reducible exact Sel.head | apply Sel.tail)); (first | done | fail))) (Judge.okO) ?_ | refine XOA.opn (R := Judge b vs (.ok l)) (by ((repeat (first | with_reducible exact Sel.head | apply Sel.tail)); (first | done | fail))) (Judge.okO) ?_ | refine DA.opn (R := Judge b vs (.ok l)) (by ((repeat (first | with_reducible exact Sel.head | apply Sel.tail)); (first | done | fail))) (Judge.okO) ?_
      rintro ⟨⟩ -
      first | refine XA.cl ?_ | refine XOA.cl ?_ | refine DA.cl ?_
      refine zO rfl (Rd.nilCheck rfl) ?_; refine zO rfl (Rd.fA rfl) ?_; refine zO rfl (Rd.ldC rfl (tyrow rfl) rfl) ?_; refine zO rfl (Rd.eql rfl rfl) ?_
      refine XOA.ent (Δ := [Judge b vs (.ok l)]) (Ent.fold1 zE Judge.mkO) ?_
      refine XOA.wr0 rfl (WrA.cE (fail_a σ b vs (.ok l) (decide (l = 0)) 3 (by decide)) rfl) ?_
      rintro _ _ _ ⟨_, ⟨rfl, rfl, rfl⟩, rfl⟩
      refine XOA.cl ?_
      by_cases h0 : l = 0
      · rw [decide_eq_true h0, fail_okT]
        refine zN ?_; refine zT ?_; refine zS ?_; refine zR ?_; refine zO rfl Rd.mv ?_
        first | refine XA.opn (R := Judge b vs (.error 3)) (by ((repeat (first | with_reducible exact Sel.head | apply Sel.tail)); (first | done | fail))) (Judge.errO) ?_ | refine XOA.opn (R := Judge b vs (.error 3)) (by ((repeat (first | with_reducible exact Sel.head | apply Sel.tail)); (first | done | fail))) (Judge.errO) ?_ | refine DA.opn (R := Judge b vs (.error 3)) (by ((repeat (first | with_reducible exact Sel.head | apply Sel.tail)); (first | done | fail))) (Judge.errO) ?_
        rintro l3 -
        first | refine XA.cl ?_ | refine XOA.cl ?_ | refine DA.cl ?_
        refine zO rfl (Rd.nilCheck rfl) ?_; refine zO rfl (Rd.fA rfl) ?_; refine zO rfl (Rd.ldC rfl (tyrow rfl) rfl) ?_
        refine zO rfl (by first | exact Rd.sbi rfl rfl | exact Rd.sub rfl rfl) ?_
        refine zO rfl (Rd.nilCheck rfl) ?_; refine zO rfl (Rd.fA rfl) ?_
        refine XOA.wr0 rfl (WrA.st (tyrow rfl) rfl) ?_
        rintro _ _ _ ⟨rfl, rfl, rfl⟩
        refine zN ?_; refine zT ?_; refine zS ?_; refine zR ?_; refine zO rfl Rd.mv ?_; refine zO rfl (Rd.nilCheck rfl) ?_; refine zO rfl (Rd.fA rfl) ?_; refine zO rfl (Rd.ldC rfl (tyrow rfl) rfl) ?_; refine zO rfl (Rd.eql rfl rfl) ?_; refine zO rfl Rd.asg ?_; refine zN ?_; refine zT ?_
        refine XA.ret ?_
        refine bodyA.ret (ResA.one rfl rfl) (Ent.fold1 (Γ := _) (Θ := [blk b [vs, _, i64 3] 79]) zE (Judge.mkE (by decide))) ⟨?_, rfl, ?_⟩
        · simp [JE.one, hd, h0, JE.isOk]
        · simp [JE.one, hd, h0]
      · rw [decide_eq_false h0, fail_false]
        refine zN ?_; refine zT ?_; refine zS ?_; refine zR ?_; refine zO rfl Rd.mv ?_
        first | refine XA.opn (R := Judge b vs (.ok l)) (by ((repeat (first | with_reducible exact Sel.head | apply Sel.tail)); (first | done | fail))) (Judge.okO) ?_ | refine XOA.opn (R := Judge b vs (.ok l)) (by ((repeat (first | with_reducible exact Sel.head | apply Sel.tail)); (first | done | fail))) (Judge.okO) ?_ | refine DA.opn (R := Judge b vs (.ok l)) (by ((repeat (first | with_reducible exact Sel.head | apply Sel.tail)); (first | done | fail))) (Judge.okO) ?_
        rintro ⟨⟩ -
        first | refine XA.cl ?_ | refine XOA.cl ?_ | refine DA.cl ?_
        refine zO rfl (Rd.nilCheck rfl) ?_; refine zO rfl (Rd.fA rfl) ?_; refine zO rfl (Rd.ldC rfl (tyrow rfl) rfl) ?_
        refine zO rfl (by first | exact Rd.sbi rfl rfl | exact Rd.sub rfl rfl) ?_
        refine zO rfl (Rd.nilCheck rfl) ?_; refine zO rfl (Rd.fA rfl) ?_
        refine XOA.wr0 rfl (WrA.st (tyrow rfl) rfl) ?_
        rintro _ _ _ ⟨rfl, rfl, rfl⟩
        refine zN ?_; refine zT ?_; refine zS ?_; refine zR ?_; refine zO rfl Rd.mv ?_; refine zO rfl (Rd.nilCheck rfl) ?_; refine zO rfl (Rd.fA rfl) ?_; refine zO rfl (Rd.ldC rfl (tyrow rfl) rfl) ?_; refine zO rfl (Rd.eql rfl rfl) ?_; refine zO rfl Rd.asg ?_; refine zN ?_; refine zT ?_
        refine XA.ret ?_
        refine bodyA.ret (ResA.one rfl rfl) (Ent.fold1 (Θ := [blk b [vs, i64 (l - 1), i64 0] 79]) zE Judge.mkO) ⟨?_, rfl, ?_⟩
        · simp [JE.one, hd, h0, JE.isOk]
        · simp [JE.one, hd, h0]
end Go.Proofs.Ytbbghdkndbpmmaa

namespace Go.Proofs.Ytbbghdkndbpmmaa
open Go X
set_option maxHeartbeats 1000000
theorem Judge.any {b : Nat} {vs : Value} {e : JE} : ∀ m, Judge b vs e m → ∃ x : Int × Int, (∀ m', Sat [blk b [vs, i64 x.1, i64 x.2] 79] m' → Judge b vs e m') ∧ Sat [blk b [vs, i64 x.1, i64 x.2] 79] m := by
  rintro m ⟨l', c, h, h0⟩
  exact ⟨(l', c), fun m' h' => ⟨l', c, of_sat1 blk_mono h', h0⟩, sat1 h⟩
theorem Judge.anyD {b : Nat} {vs : Value} {e : JE} : ∀ m, Judge b vs e m → ∃ x : Int × Int, (decide (x.2 = 0) = e.isOk ∧ ∀ m', Sat [blk b [vs, i64 x.1, i64 x.2] 79] m' → Judge b vs e m') ∧ Sat [blk b [vs, i64 x.1, i64 x.2] 79] m := by
  rintro m ⟨l', c, h, h0⟩
  refine ⟨(l', c), ⟨?_, fun m' h' => ⟨l', c, of_sat1 blk_mono h', h0⟩⟩, sat1 h⟩
  cases e with
  | ok l => obtain ⟨-, rfl⟩ := h0; rfl
  | error d => obtain ⟨-, h0⟩ := h0; exact decide_eq_false h0
theorem named_a (σ : PH) (b : Nat) (p : Option Addr) (n c : Nat) (e : JE) (v : Int) (is : Bool) :
    CallsA Try.prog 83 #[ptr b, i64 v, .bool is] σ [Judge b (.slice p n c) e] (RetA fun r σ' Γ' => r = .tuple #[] ∧ σ = σ' ∧ Γ' = [Judge b (.slice p n c) (e.named n v is)]) := by
  cases is with
  | false =>
    refine enterA3 Try.func83 rfl rfl rfl ?_
    refine zS ?_; refine zR ?_; refine zO rfl Rd.mv ?_; refine zO rfl Rd.mv ?_; refine zO rfl Rd.mv ?_
    first | ((first | refine zW ?_ | refine zQ ?_); refine zO rfl Rd.mv ?_) | refine zU ?_ | refine zV ?_ | refine zZ ?_
    first | ((first | refine zW ?_ | refine zQ ?_); refine zO rfl (Rd.lss rfl rfl) ?_) | refine zU ?_ | refine zV ?_ | refine zZ ?_
    first | ((first | refine zW ?_ | refine zQ ?_); refine zO rfl Rd.mv ?_) | refine zU ?_ | refine zV ?_ | refine zZ ?_
    first | ((first | refine zW ?_ | refine zQ ?_); refine zO rfl Rd.mv ?_) | refine zU ?_ | refine zV ?_ | refine zZ ?_
    first | ((first | refine zW ?_ | refine zQ ?_); refine zO rfl Rd.mv ?_) | refine zU ?_ | refine zV ?_ | refine zZ ?_
    first | ((first | refine zW ?_ | refine zQ ?_); refine zO rfl (Rd.nilCheck rfl) ?_) | refine zU ?_ | refine zV ?_ | refine zZ ?_
    first | ((first | refine zW ?_ | refine zQ ?_); refine zO rfl (Rd.fA rfl) ?_) | refine zU ?_ | refine zV ?_ | refine zZ ?_
    first | ((first | refine zW ?_ | refine zQ ?_); refine zO rfl (Rd.ldC rfl (tyrow rfl) rfl) ?_) | refine zU ?_ | refine zV ?_ | refine zZ ?_
    first | ((first | refine zW ?_ | refine zQ ?_); refine zO rfl (Rd.lenSlice (tyrow rfl) rfl rfl) ?_) | refine zU ?_ | refine zV ?_ | refine zZ ?_
    first | ((first | refine zW ?_ | refine zQ ?_); refine zO rfl (Rd.geq rfl rfl) ?_) | refine zU ?_ | refine zV ?_ | refine zZ ?_
    first | ((first | refine zW ?_ | refine zQ ?_); refine zO rfl (by first | exact Rd.pT rfl | exact Rd.pF rfl | exact Rd.pP rfl) ?_) | refine zU ?_ | refine zV ?_ | refine zZ ?_
    refine zO rfl (by first | exact Rd.pT rfl | exact Rd.pF rfl | exact Rd.pP rfl) ?_
    refine XOA.wr0 rfl (WrA.cE (fail_a σ b _ e false 1 (by decide)) rfl) ?_
    rintro _ _ _ ⟨_, ⟨rfl, rfl, rfl⟩, rfl⟩
    refine XOA.cl ?_
    refine zN ?_; refine zT ?_; refine zR ?_; refine zO rfl Rd.mv ?_; refine zO rfl Rd.mv ?_
    refine zO rfl (by first | exact Rd.notp rfl | exact Rd.not rfl) ?_
    refine zO rfl Rd.mv ?_
    first | ((first | refine zW ?_ | refine zQ ?_); refine zO rfl Rd.mv ?_) | refine zU ?_ | refine zV ?_ | refine zZ ?_
    first | ((first | refine zW ?_ | refine zQ ?_); refine zO rfl (Rd.neq rfl rfl) ?_) | refine zU ?_ | refine zV ?_ | refine zZ ?_
    refine zO rfl (by first | exact Rd.pT rfl | exact Rd.pF rfl | exact Rd.pP rfl) ?_
    refine XOA.wr0 rfl (WrA.cE (fail_a σ b _ _ (decide (v ≠ 0)) 5 (by decide)) rfl) ?_
    rintro _ _ _ ⟨_, ⟨rfl, rfl, rfl⟩, rfl⟩
    refine XOA.cl ?_
    refine zN ?_
    exact bodyA.normal (ResA.none rfl) (Ent.refl _) ⟨rfl, rfl, rfl⟩
  | true =>
    by_cases h0 : v < 0
    · 
      refine enterA3 Try.func83 rfl rfl rfl ?_
      refine zS ?_; refine zR ?_; refine zO rfl Rd.mv ?_; refine zO rfl Rd.mv ?_; refine zO rfl Rd.mv ?_
      first | ((first | refine zW ?_ | refine zQ ?_); refine zO rfl Rd.mv ?_) | refine zU ?_ | refine zV ?_ | refine zZ ?_
      first | ((first | refine zW ?_ | refine zQ ?_); refine zO rfl (Rd.lss rfl rfl) ?_) | refine zU ?_ | refine zV ?_ | refine zZ ?_
      first | ((first | refine zW ?_ | refine zQ ?_); refine zO rfl Rd.mv ?_) | refine zU ?_ | refine zV ?_ | refine zZ ?_
      first | ((first | refine zW ?_ | refine zQ ?_); refine zO rfl Rd.mv ?_) | refine zU ?_ | refine zV ?_ | refine zZ ?_
      first | ((first | refine zW ?_ | refine zQ ?_); refine zO rfl Rd.mv ?_) | refine zU ?_ | refine zV ?_ | refine zZ ?_
      first | ((first | refine zW ?_ | refine zQ ?_); refine zO rfl (Rd.nilCheck rfl) ?_) | refine zU ?_ | refine zV ?_ | refine zZ ?_
      first | ((first | refine zW ?_ | refine zQ ?_); refine zO rfl (Rd.fA rfl) ?_) | refine zU ?_ | refine zV ?_ | refine zZ ?_
      first | ((first | refine zW ?_ | refine zQ ?_); refine zO rfl (Rd.ldC rfl (tyrow rfl) rfl) ?_) | refine zU ?_ | refine zV ?_ | refine zZ ?_
      first | ((first | refine zW ?_ | refine zQ ?_); refine zO rfl (Rd.lenSlice (tyrow rfl) rfl rfl) ?_) | refine zU ?_ | refine zV ?_ | refine zZ ?_
      first | ((first | refine zW ?_ | refine zQ ?_); refine zO rfl (Rd.geq rfl rfl) ?_) | refine zU ?_ | refine zV ?_ | refine zZ ?_
      first | ((first | refine zW ?_ | refine zQ ?_); refine zO rfl (by first | exact Rd.pT rfl | exact Rd.pF rfl | exact Rd.pP rfl) ?_) | refine zU ?_ | refine zV ?_ | refine zZ ?_
      refine zO rfl (by first | exact Rd.pT rfl | exact Rd.pF rfl | exact Rd.pP rfl) ?_
      refine XOA.wr0 rfl (WrA.cE (fail_a σ b _ e true 1 (by decide)) rfl) ?_
      rintro _ _ _ ⟨_, ⟨rfl, rfl, rfl⟩, rfl⟩
      refine XOA.cl ?_
      refine zN ?_; refine zT ?_; refine zR ?_; refine zO rfl Rd.mv ?_; refine zO rfl Rd.mv ?_
      refine zO rfl (by first | exact Rd.notp rfl | exact Rd.not rfl) ?_
      refine zO rfl Rd.mv ?_
      first | ((first | refine zW ?_ | refine zQ ?_); refine zO rfl Rd.mv ?_) | refine zU ?_ | refine zV ?_ | refine zZ ?_
      first | ((first | refine zW ?_ | refine zQ ?_); refine zO rfl (Rd.neq rfl rfl) ?_) | refine zU ?_ | refine zV ?_ | refine zZ ?_
      refine zO rfl (by first | exact Rd.pT rfl | exact Rd.pF rfl | exact Rd.pP rfl) ?_
      refine XOA.wr0 rfl (WrA.cE (fail_a σ b _ _ false 5 (by decide)) rfl) ?_
      rintro _ _ _ ⟨_, ⟨rfl, rfl, rfl⟩, rfl⟩
      refine XOA.cl ?_
      refine zN ?_
      refine bodyA.normal (ResA.none rfl) (Ent.refl _) ⟨rfl, rfl, ?_⟩
      have : decide (v < 0 ∨ (n : Int) ≤ v) = true := decide_eq_true (Or.inl h0)
      simp only [JE.named, this, Bool.true_and, Bool.not_true, Bool.false_and]
    · 
      refine enterA3 Try.func83 rfl rfl rfl ?_
      refine zS ?_; refine zR ?_; refine zO rfl Rd.mv ?_; refine zO rfl Rd.mv ?_; refine zO rfl Rd.mv ?_
      first | ((first | refine zW ?_ | refine zQ ?_); refine zO rfl Rd.mv ?_) | refine zU ?_ | refine zV ?_ | refine zZ ?_
      first | ((first | refine zW ?_ | refine zQ ?_); refine zO rfl (Rd.lss rfl rfl) ?_) | refine zU ?_ | refine zV ?_ | refine zZ ?_
      first | ((first | refine zW ?_ | refine zQ ?_); refine zO rfl Rd.mv ?_) | refine zU ?_ | refine zV ?_ | refine zZ ?_
      first | ((first | refine zW ?_ | refine zQ ?_); refine zO rfl Rd.mv ?_) | refine zU ?_ | refine zV ?_ | refine zZ ?_
      first | ((first | refine zW ?_ | refine zQ ?_); refine zO rfl Rd.mv ?_) | refine zU ?_ | refine zV ?_ | refine zZ ?_
      first | refine XA.opn (R := Judge b (.slice p n c) e) (by ((repeat (first | with_reducible exact Sel.head | apply Sel.tail)); (first | done | fail))) (Judge.any) ?_ | refine XOA.opn (R := Judge b (.slice p n c) e) (by ((repeat (first | with_reducible exact Sel.head | apply Sel.tail)); (first | done | fail))) (Judge.any) ?_ | refine DA.opn (R := Judge b (.slice p n c) e) (by ((repeat (first | with_reducible exact Sel.head | apply Sel.tail)); (first | done | fail))) (Judge.any) ?_
      rintro ⟨l, cc⟩ hf
      first | refine XA.cl ?_ | refine XOA.cl ?_ | refine DA.cl ?_
      first | ((first | refine zW ?_ | refine zQ ?_); refine zO rfl (Rd.nilCheck rfl) ?_) | refine zU ?_ | refine zV ?_ | refine zZ ?_
      first | ((first | refine zW ?_ | refine zQ ?_); refine zO rfl (Rd.fA rfl) ?_) | refine zU ?_ | refine zV ?_ | refine zZ ?_
      first | ((first | refine zW ?_ | refine zQ ?_); refine zO rfl (Rd.ldC rfl (tyrow rfl) rfl) ?_) | refine zU ?_ | refine zV ?_ | refine zZ ?_
      first | ((first | refine zW ?_ | refine zQ ?_); refine zO rfl (Rd.lenSlice (tyrow rfl) rfl rfl) ?_) | refine zU ?_ | refine zV ?_ | refine zZ ?_
      first | ((first | refine zW ?_ | refine zQ ?_); refine zO rfl (Rd.geq rfl rfl) ?_) | refine zU ?_ | refine zV ?_ | refine zZ ?_
      first | ((first | refine zW ?_ | refine zQ ?_); refine zO rfl (by first | exact Rd.pT rfl | exact Rd.pF rfl | exact Rd.pP rfl) ?_) | refine zU ?_ | refine zV ?_ | refine zZ ?_
      refine zO rfl (by first | exact Rd.pT rfl | exact Rd.pF rfl | exact Rd.pP rfl) ?_
      refine XOA.ent (Δ := [Judge b (.slice p n c) e]) (Ent.fold1 zE hf) ?_
      refine XOA.wr0 rfl (WrA.cE (fail_a σ b _ e (decide ((n : Int) ≤ v)) 1 (by decide)) rfl) ?_
      rintro _ _ _ ⟨_, ⟨rfl, rfl, rfl⟩, rfl⟩
      refine XOA.cl ?_
      refine zN ?_; refine zT ?_; refine zR ?_; refine zO rfl Rd.mv ?_; refine zO rfl Rd.mv ?_
      refine zO rfl (by first | exact Rd.notp rfl | exact Rd.not rfl) ?_
      refine zO rfl Rd.mv ?_
      first | ((first | refine zW ?_ | refine zQ ?_); refine zO rfl Rd.mv ?_) | refine zU ?_ | refine zV ?_ | refine zZ ?_
      first | ((first | refine zW ?_ | refine zQ ?_); refine zO rfl (Rd.neq rfl rfl) ?_) | refine zU ?_ | refine zV ?_ | refine zZ ?_
      refine zO rfl (by first | exact Rd.pT rfl | exact Rd.pF rfl | exact Rd.pP rfl) ?_
      refine XOA.wr0 rfl (WrA.cE (fail_a σ b _ _ false 5 (by decide)) rfl) ?_
      rintro _ _ _ ⟨_, ⟨rfl, rfl, rfl⟩, rfl⟩
      refine XOA.cl ?_
      refine zN ?_
      refine bodyA.normal (ResA.none rfl) (Ent.refl _) ⟨rfl, rfl, ?_⟩
      have : decide (v < 0 ∨ (n : Int) ≤ v) = decide ((n : Int) ≤ v) := by rw [decide_eq_decide]; omega
      simp only [JE.named, this, Bool.true_and, Bool.not_true, Bool.false_and]
theorem none_a (σ : PH) (cs : List Value) (x : Ex) (hx : ExAt σ cs x) : CallsA Try.prog 82 #[.agg cs.toArray] σ [] (RetA fun v σ' Γ' => v = .bool (noneX x) ∧ σ = σ' ∧ Γ' = []) := by
  obtain ⟨p, c, rfl, -, -, -, -⟩ := hx.inv
  by_cases h1 : x.op = 0
  · by_cases h2 : x.v = 0
    · by_cases h3 : x.n = 0
      · 
        refine enterA1 Try.func82 rfl rfl rfl ?_
        refine zS ?_; refine zR ?_
        refine XOA.wr0 rfl WrA.bx ?_
        rintro _ _ _ ⟨g1, rfl, rfl, rfl⟩
        refine zO rfl Rd.asg ?_; refine zN ?_; refine zT ?_; refine zS ?_; refine zR ?_; refine zO rfl (Rd.fA rfl) ?_; refine zO rfl (Rd.ldC rfl (tyrow rfl) rfl) ?_; refine zO rfl (Rd.eql rfl rfl) ?_; refine zO rfl Rd.mv ?_
        first | ((first | refine zW ?_ | refine zQ ?_); refine zO rfl (Rd.fA rfl) ?_) | refine zU ?_ | refine zV ?_ | refine zZ ?_
        first | ((first | refine zW ?_ | refine zQ ?_); refine zO rfl (Rd.ldC rfl (tyrow rfl) rfl) ?_) | refine zU ?_ | refine zV ?_ | refine zZ ?_
        first | ((first | refine zW ?_ | refine zQ ?_); refine zO rfl (Rd.eql rfl rfl) ?_) | refine zU ?_ | refine zV ?_ | refine zZ ?_
        refine zO rfl (by first | exact Rd.pT rfl | exact Rd.pF rfl | exact Rd.pP rfl) ?_
        refine zO rfl Rd.mv ?_
        first | ((first | refine zW ?_ | refine zQ ?_); refine zO rfl (Rd.fA rfl) ?_) | refine zU ?_ | refine zV ?_ | refine zZ ?_
        first | ((first | refine zW ?_ | refine zQ ?_); refine zO rfl (Rd.ldC rfl (tyrow rfl) rfl) ?_) | refine zU ?_ | refine zV ?_ | refine zZ ?_
        first | ((first | refine zW ?_ | refine zQ ?_); refine zO rfl (Rd.eql rfl rfl) ?_) | refine zU ?_ | refine zV ?_ | refine zZ ?_
        refine zO rfl (by first | exact Rd.pT rfl | exact Rd.pF rfl | exact Rd.pP rfl) ?_
        refine zO rfl Rd.mv ?_
        first | ((first | refine zW ?_ | refine zQ ?_); refine zO rfl (Rd.fA rfl) ?_) | refine zU ?_ | refine zV ?_ | refine zZ ?_
        first | ((first | refine zW ?_ | refine zQ ?_); refine zO rfl (Rd.ldC rfl (tyrow rfl) rfl) ?_) | refine zU ?_ | refine zV ?_ | refine zZ ?_
        first | ((first | refine zW ?_ | refine zQ ?_); refine zO rfl (Rd.lenSlice (tyrow rfl) rfl rfl) ?_) | refine zU ?_ | refine zV ?_ | refine zZ ?_
        first | ((first | refine zW ?_ | refine zQ ?_); refine zO rfl (Rd.eql rfl rfl) ?_) | refine zU ?_ | refine zV ?_ | refine zZ ?_
        refine zO rfl (by first | exact Rd.pT rfl | exact Rd.pF rfl | exact Rd.pP rfl) ?_
        refine zO rfl Rd.asg ?_; refine zN ?_; refine zT ?_
        refine XA.ret ?_
        refine bodyA.ret (ResA.one rfl rfl) (Ent.nil _) ⟨?_, rfl, rfl⟩
        simp [noneX, h1, h2, h3]
      · 
        refine enterA1 Try.func82 rfl rfl rfl ?_
        refine zS ?_; refine zR ?_
        refine XOA.wr0 rfl WrA.bx ?_
        rintro _ _ _ ⟨g1, rfl, rfl, rfl⟩
        refine zO rfl Rd.asg ?_; refine zN ?_; refine zT ?_; refine zS ?_; refine zR ?_; refine zO rfl (Rd.fA rfl) ?_; refine zO rfl (Rd.ldC rfl (tyrow rfl) rfl) ?_; refine zO rfl (Rd.eql rfl rfl) ?_; refine zO rfl Rd.mv ?_
        first | ((first | refine zW ?_ | refine zQ ?_); refine zO rfl (Rd.fA rfl) ?_) | refine zU ?_ | refine zV ?_ | refine zZ ?_
        first | ((first | refine zW ?_ | refine zQ ?_); refine zO rfl (Rd.ldC rfl (tyrow rfl) rfl) ?_) | refine zU ?_ | refine zV ?_ | refine zZ ?_
        first | ((first | refine zW ?_ | refine zQ ?_); refine zO rfl (Rd.eql rfl rfl) ?_) | refine zU ?_ | refine zV ?_ | refine zZ ?_
        refine zO rfl (by first | exact Rd.pT rfl | exact Rd.pF rfl | exact Rd.pP rfl) ?_
        refine zO rfl Rd.mv ?_
        first | ((first | refine zW ?_ | refine zQ ?_); refine zO rfl (Rd.fA rfl) ?_) | refine zU ?_ | refine zV ?_ | refine zZ ?_
        first | ((first | refine zW ?_ | refine zQ ?_); refine zO rfl (Rd.ldC rfl (tyrow rfl) rfl) ?_) | refine zU ?_ | refine zV ?_ | refine zZ ?_
        first | ((first | refine zW ?_ | refine zQ ?_); refine zO rfl (Rd.eql rfl rfl) ?_) | refine zU ?_ | refine zV ?_ | refine zZ ?_
        refine zO rfl (by first | exact Rd.pT rfl | exact Rd.pF rfl | exact Rd.pP rfl) ?_
        refine zO rfl Rd.mv ?_
        first | ((first | refine zW ?_ | refine zQ ?_); refine zO rfl (Rd.fA rfl) ?_) | refine zU ?_ | refine zV ?_ | refine zZ ?_
        first | ((first | refine zW ?_ | refine zQ ?_); refine zO rfl (Rd.ldC rfl (tyrow rfl) rfl) ?_) | refine zU ?_ | refine zV ?_ | refine zZ ?_
        first | ((first | refine zW ?_ | refine zQ ?_); refine zO rfl (Rd.lenSlice (tyrow rfl) rfl rfl) ?_) | refine zU ?_ | refine zV ?_ | refine zZ ?_
        first | ((first | refine zW ?_ | refine zQ ?_); refine zO rfl (Rd.eql rfl rfl) ?_) | refine zU ?_ | refine zV ?_ | refine zZ ?_
        refine zO rfl (by first | exact Rd.pT rfl | exact Rd.pF rfl | exact Rd.pP rfl) ?_
        refine zO rfl Rd.asg ?_; refine zN ?_; refine zT ?_
        refine XA.ret ?_
        exact bodyA.ret (ResA.one rfl rfl) (Ent.nil _) ⟨by simp [noneX, h3], rfl, rfl⟩
    · 
      refine enterA1 Try.func82 rfl rfl rfl ?_
      refine zS ?_; refine zR ?_
      refine XOA.wr0 rfl WrA.bx ?_
      rintro _ _ _ ⟨g1, rfl, rfl, rfl⟩
      refine zO rfl Rd.asg ?_; refine zN ?_; refine zT ?_; refine zS ?_; refine zR ?_; refine zO rfl (Rd.fA rfl) ?_; refine zO rfl (Rd.ldC rfl (tyrow rfl) rfl) ?_; refine zO rfl (Rd.eql rfl rfl) ?_; refine zO rfl Rd.mv ?_
      first | ((first | refine zW ?_ | refine zQ ?_); refine zO rfl (Rd.fA rfl) ?_) | refine zU ?_ | refine zV ?_ | refine zZ ?_
      first | ((first | refine zW ?_ | refine zQ ?_); refine zO rfl (Rd.ldC rfl (tyrow rfl) rfl) ?_) | refine zU ?_ | refine zV ?_ | refine zZ ?_
      first | ((first | refine zW ?_ | refine zQ ?_); refine zO rfl (Rd.eql rfl rfl) ?_) | refine zU ?_ | refine zV ?_ | refine zZ ?_
      refine zO rfl (by first | exact Rd.pT rfl | exact Rd.pF rfl | exact Rd.pP rfl) ?_
      refine zO rfl Rd.mv ?_
      first | ((first | refine zW ?_ | refine zQ ?_); refine zO rfl (Rd.fA rfl) ?_) | refine zU ?_ | refine zV ?_ | refine zZ ?_
      first | ((first | refine zW ?_ | refine zQ ?_); refine zO rfl (Rd.ldC rfl (tyrow rfl) rfl) ?_) | refine zU ?_ | refine zV ?_ | refine zZ ?_
      first | ((first | refine zW ?_ | refine zQ ?_); refine zO rfl (Rd.eql rfl rfl) ?_) | refine zU ?_ | refine zV ?_ | refine zZ ?_
      refine zO rfl (by first | exact Rd.pT rfl | exact Rd.pF rfl | exact Rd.pP rfl) ?_
      refine zO rfl Rd.mv ?_
      first | ((first | refine zW ?_ | refine zQ ?_); refine zO rfl (Rd.fA rfl) ?_) | refine zU ?_ | refine zV ?_ | refine zZ ?_
      first | ((first | refine zW ?_ | refine zQ ?_); refine zO rfl (Rd.ldC rfl (tyrow rfl) rfl) ?_) | refine zU ?_ | refine zV ?_ | refine zZ ?_
      first | ((first | refine zW ?_ | refine zQ ?_); refine zO rfl (Rd.lenSlice (tyrow rfl) rfl rfl) ?_) | refine zU ?_ | refine zV ?_ | refine zZ ?_
      first | ((first | refine zW ?_ | refine zQ ?_); refine zO rfl (Rd.eql rfl rfl) ?_) | refine zU ?_ | refine zV ?_ | refine zZ ?_
      refine zO rfl (by first | exact Rd.pT rfl | exact Rd.pF rfl | exact Rd.pP rfl) ?_
      refine zO rfl Rd.asg ?_; refine zN ?_; refine zT ?_
      refine XA.ret ?_
      exact bodyA.ret (ResA.one rfl rfl) (Ent.nil _) ⟨by simp [noneX, h2], rfl, rfl⟩
  · 
    refine enterA1 Try.func82 rfl rfl rfl ?_
    refine zS ?_; refine zR ?_
    refine XOA.wr0 rfl WrA.bx ?_
    rintro _ _ _ ⟨g1, rfl, rfl, rfl⟩
    refine zO rfl Rd.asg ?_; refine zN ?_; refine zT ?_; refine zS ?_; refine zR ?_; refine zO rfl (Rd.fA rfl) ?_; refine zO rfl (Rd.ldC rfl (tyrow rfl) rfl) ?_; refine zO rfl (Rd.eql rfl rfl) ?_; refine zO rfl Rd.mv ?_
    first | ((first | refine zW ?_ | refine zQ ?_); refine zO rfl (Rd.fA rfl) ?_) | refine zU ?_ | refine zV ?_ | refine zZ ?_
    first | ((first | refine zW ?_ | refine zQ ?_); refine zO rfl (Rd.ldC rfl (tyrow rfl) rfl) ?_) | refine zU ?_ | refine zV ?_ | refine zZ ?_
    first | ((first | refine zW ?_ | refine zQ ?_); refine zO rfl (Rd.eql rfl rfl) ?_) | refine zU ?_ | refine zV ?_ | refine zZ ?_
    refine zO rfl (by first | exact Rd.pT rfl | exact Rd.pF rfl | exact Rd.pP rfl) ?_
    refine zO rfl Rd.mv ?_
    first | ((first | refine zW ?_ | refine zQ ?_); refine zO rfl (Rd.fA rfl) ?_) | refine zU ?_ | refine zV ?_ | refine zZ ?_
    first | ((first | refine zW ?_ | refine zQ ?_); refine zO rfl (Rd.ldC rfl (tyrow rfl) rfl) ?_) | refine zU ?_ | refine zV ?_ | refine zZ ?_
    first | ((first | refine zW ?_ | refine zQ ?_); refine zO rfl (Rd.eql rfl rfl) ?_) | refine zU ?_ | refine zV ?_ | refine zZ ?_
    refine zO rfl (by first | exact Rd.pT rfl | exact Rd.pF rfl | exact Rd.pP rfl) ?_
    refine zO rfl Rd.mv ?_
    first | ((first | refine zW ?_ | refine zQ ?_); refine zO rfl (Rd.fA rfl) ?_) | refine zU ?_ | refine zV ?_ | refine zZ ?_
    first | ((first | refine zW ?_ | refine zQ ?_); refine zO rfl (Rd.ldC rfl (tyrow rfl) rfl) ?_) | refine zU ?_ | refine zV ?_ | refine zZ ?_
    first | ((first | refine zW ?_ | refine zQ ?_); refine zO rfl (Rd.lenSlice (tyrow rfl) rfl rfl) ?_) | refine zU ?_ | refine zV ?_ | refine zZ ?_
    first | ((first | refine zW ?_ | refine zQ ?_); refine zO rfl (Rd.eql rfl rfl) ?_) | refine zU ?_ | refine zV ?_ | refine zZ ?_
    refine zO rfl (by first | exact Rd.pT rfl | exact Rd.pF rfl | exact Rd.pP rfl) ?_
    refine zO rfl Rd.asg ?_; refine zN ?_; refine zT ?_
    refine XA.ret ?_
    exact bodyA.ret (ResA.one rfl rfl) (Ent.nil _) ⟨by simp [noneX, h1], rfl, rfl⟩
theorem has_a (σ : PH) (op : Int) : CallsA Try.prog 16 #[i64 op] σ [] (RetA fun v σ' Γ' => v = .tuple #[.bool (needE op), .bool (needF op), .bool (needV op), .bool (needB op), .bool (needO op)] ∧ σ = σ' ∧ Γ' = []) := by
  refine enterA1 Try.func16 rfl rfl rfl ?_
  refine zS ?_; refine zR ?_; refine zO rfl Rd.asg ?_; refine zO rfl Rd.asg ?_; refine zO rfl Rd.asg ?_; refine zO rfl Rd.asg ?_; refine zO rfl Rd.asg ?_; refine zN ?_; refine zT ?_; refine zS ?_; refine zS ?_; refine zR ?_; refine zO rfl Rd.mv ?_; refine zN ?_; refine zT ?_
  refine XA.block ?_
  refine zS ?_; refine zR ?_; refine zO rfl (Rd.eql rfl rfl) ?_; refine zO rfl Rd.asg ?_; refine zN ?_; refine zT ?_
  refine XA.condp rfl (fun h1 => ?_) (fun h1 => ?_)
  · refine zS ?_
    refine zR ?_; refine zO rfl Rd.asg ?_; refine zO rfl Rd.asg ?_; refine zO rfl Rd.asg ?_; refine zO rfl Rd.asg ?_; refine zO rfl Rd.asg ?_; refine zN ?_; refine zT ?_
    refine XA.ret ?_
    refine DA.inb_ret ?_
    refine DA.thn_ret ?_
    subst h1
    exact bodyA.ret (ResA.five rfl rfl rfl rfl rfl rfl) (Ent.refl _) ⟨rfl, rfl, rfl⟩
  refine zS ?_; refine zR ?_; refine zO rfl (Rd.eql rfl rfl) ?_; refine zO rfl Rd.asg ?_; refine zN ?_; refine zT ?_
  refine XA.condp rfl (fun h2 => ?_) (fun h2 => ?_)
  · refine zS ?_
    refine zR ?_; refine zO rfl Rd.asg ?_; refine zO rfl Rd.asg ?_; refine zO rfl Rd.asg ?_; refine zO rfl Rd.asg ?_; refine zO rfl Rd.asg ?_; refine zN ?_; refine zT ?_
    refine XA.ret ?_
    refine DA.inb_ret ?_
    refine DA.thn_ret ?_
    subst h2
    exact bodyA.ret (ResA.five rfl rfl rfl rfl rfl rfl) (Ent.refl _) ⟨rfl, rfl, rfl⟩
  refine zS ?_; refine zR ?_; refine zO rfl (Rd.eql rfl rfl) ?_; refine zO rfl Rd.asg ?_; refine zN ?_; refine zT ?_
  refine XA.condp rfl (fun h3 => ?_) (fun h3 => ?_)
  · refine zS ?_
    refine zR ?_; refine zO rfl Rd.asg ?_; refine zO rfl Rd.asg ?_; refine zO rfl Rd.asg ?_; refine zO rfl Rd.asg ?_; refine zO rfl Rd.asg ?_; refine zN ?_; refine zT ?_
    refine XA.ret ?_
    refine DA.inb_ret ?_
    refine DA.thn_ret ?_
    subst h3
    exact bodyA.ret (ResA.five rfl rfl rfl rfl rfl rfl) (Ent.refl _) ⟨rfl, rfl, rfl⟩
  refine zS ?_; refine zR ?_; refine zO rfl (Rd.eql rfl rfl) ?_; refine zO rfl Rd.asg ?_; refine zN ?_; refine zT ?_
  refine XA.condp rfl (fun h4 => ?_) (fun h4 => ?_)
  · refine zS ?_
    refine zR ?_; refine zO rfl Rd.asg ?_; refine zO rfl Rd.asg ?_; refine zO rfl Rd.asg ?_; refine zO rfl Rd.asg ?_; refine zO rfl Rd.asg ?_; refine zN ?_; refine zT ?_
    refine XA.ret ?_
    refine DA.inb_ret ?_
    refine DA.thn_ret ?_
    subst h4
    exact bodyA.ret (ResA.five rfl rfl rfl rfl rfl rfl) (Ent.refl _) ⟨rfl, rfl, rfl⟩
  refine zS ?_; refine zR ?_; refine zO rfl (Rd.eql rfl rfl) ?_; refine zO rfl Rd.asg ?_; refine zN ?_; refine zT ?_
  refine XA.condp rfl (fun h5 => ?_) (fun h5 => ?_)
  · refine zS ?_
    refine zR ?_; refine zO rfl Rd.asg ?_; refine zO rfl Rd.asg ?_; refine zO rfl Rd.asg ?_; refine zO rfl Rd.asg ?_; refine zO rfl Rd.asg ?_; refine zN ?_; refine zT ?_
    refine XA.ret ?_
    refine DA.inb_ret ?_
    refine DA.thn_ret ?_
    subst h5
    exact bodyA.ret (ResA.five rfl rfl rfl rfl rfl rfl) (Ent.refl _) ⟨rfl, rfl, rfl⟩
  refine zS ?_; refine zR ?_; refine zO rfl (Rd.eql rfl rfl) ?_; refine zO rfl Rd.asg ?_; refine zN ?_; refine zT ?_
  refine XA.condp rfl (fun h6 => ?_) (fun h6 => ?_)
  · refine zS ?_
    refine zR ?_; refine zO rfl Rd.asg ?_; refine zO rfl Rd.asg ?_; refine zO rfl Rd.asg ?_; refine zO rfl Rd.asg ?_; refine zO rfl Rd.asg ?_; refine zN ?_; refine zT ?_
    refine XA.ret ?_
    refine DA.inb_ret ?_
    refine DA.thn_ret ?_
    subst h6
    exact bodyA.ret (ResA.five rfl rfl rfl rfl rfl rfl) (Ent.refl _) ⟨rfl, rfl, rfl⟩
  refine XA.skip ?_
  refine DA.inb_normal ?_
  refine zT ?_
  refine XA.ret ?_
  refine bodyA.ret (ResA.five rfl rfl rfl rfl rfl rfl) (Ent.refl _) ⟨?_, rfl, rfl⟩
  simp [needE, needF, needV, needB, needO, h1, h2, h3, h4, h5, h6]
theorem in_of {F : Int → JE → JE} (hF : Down F) {e : JE} (h : e.in_) (d : Int) : (F d e).in_ := by
  cases e with
  | error c => rw [hF.err]; intro l hl; cases hl
  | ok a =>
    intro l hl
    obtain ⟨h1, h2⟩ := h a rfl
    obtain ⟨h3, h4, -⟩ := hF.ok _ _ _ h1 hl
    omega
/-- What is to be shown of an expression. -/
def ExprOK (σ : PH) (x : Ex) : Prop := ∀ (cs : List Value) (b : Nat) (p : Option Addr) (n c : Nat) (e : JE) (deep : Int), ExAt σ cs x → e.in_ → 0 ≤ deep → deep ≤ 1000 →
  CallsA Try.prog 84 #[ptr b, .agg cs.toArray, i64 deep] σ [Judge b (.slice p n c) e] (RetA fun r σ' Γ' => r = .tuple #[] ∧ σ = σ' ∧ Γ' = [Judge b (.slice p n c) (exE n deep x e)])
theorem isOk_false {e : JE} (h : e.isOk = false) : ∃ c, e = .error c := by
  cases e with
  | ok l => cases h
  | error c => exact ⟨c, rfl⟩
theorem one_ok {e : JE} {d : Int} (h : (e.one d).isOk = true) : d ≤ 12 := by
  cases e with
  | error c => cases h
  | ok l =>
    simp only [JE.one] at h
    split at h
    · cases h
    · omega
theorem expr_a (σ : PH) (x : Ex) : ExprOK σ x := by
  refine Ex.ind (P := ExprOK σ) ?_ x
  intro op v k l ih cs b p n c e deep hx hin hd0 hd1
  obtain ⟨pl, cl, rfl, -, -, -, hl⟩ := hx.inv
  simp only [Ex.op, Ex.v, Ex.n, Ex.l] at hl ⊢
  obtain ⟨-, -, -, hle, hmx⟩ := hl.shape
  have hlen : l.length ≤ maxLen := by
    obtain ⟨q, d, e1, h1, h2⟩ := hl.shape
    omega
  simp only [maxLen] at hlen
  refine enterA3 Try.func84 rfl rfl rfl ?_
  refine zS ?_; refine zR ?_
  refine XOA.wr0 rfl WrA.bx ?_
  rintro _ _ _ ⟨g4, rfl, rfl, rfl⟩
  refine zN ?_; refine zT ?_; refine zS ?_; refine zS ?_; refine zR ?_; refine zO rfl Rd.mv ?_; refine zO rfl Rd.mv ?_
  refine XOA.wr0 rfl (WrA.cE (one_a σ b (.slice p n c) e deep hin) rfl) ?_
  rintro _ _ _ ⟨_, ⟨rfl, rfl, rfl⟩, rfl⟩
  refine XOA.cl ?_
  cases hok : (e.one deep).isOk with
  | false =>
    obtain ⟨c', hc'⟩ := isOk_false hok
    have hp : exE n deep (.mk op v k l) e = .error c' := by rw [exE, exHead, hc', fail_err, fail_err, named_err, exsE_err]
    rw [hc', hp]
    refine zO rfl (by first | exact Rd.notp rfl | exact Rd.not rfl) ?_
    refine zN ?_; refine zT ?_
    refine XA.condT rfl rfl ?_
    refine XA.ret ?_
    refine DA.thn_ret ?_
    exact bodyA.ret (ResA.none rfl) zE ⟨rfl, rfl, rfl⟩
  | true =>
    have hd := one_ok hok
    refine zO rfl (by first | exact Rd.notp rfl | exact Rd.not rfl) ?_
    refine zN ?_; refine zT ?_
    refine XA.condF rfl rfl ?_
    refine XA.skip ?_
    refine zT ?_; refine zS ?_; refine zR ?_; refine zO rfl (Rd.fA rfl) ?_; refine zO rfl (Rd.ldC rfl (tyrow rfl) rfl) ?_
    refine XOA.wr0 rfl (WrA.cE (parts_a σ op) rfl) ?_
    rintro _ _ _ ⟨_, ⟨rfl, rfl, rfl⟩, rfl⟩
    refine XOA.cl ?_
    refine zO rfl Rd.asg ?_; refine zN ?_; refine zT ?_; refine zS ?_; refine zR ?_; refine zO rfl Rd.mv ?_; refine zO rfl Rd.mv ?_; refine zO rfl (Rd.lss rfl rfl) ?_
    refine XOA.wr0 rfl (WrA.cE (fail_a σ b _ _ (decide (partsOf op < 0)) 2 (by decide)) rfl) ?_
    rintro _ _ _ ⟨_, ⟨rfl, rfl, rfl⟩, rfl⟩
    refine XOA.cl ?_
    refine zN ?_; refine zT ?_; refine zS ?_; refine zR ?_; refine zO rfl Rd.mv ?_; refine zO rfl (Rd.fA rfl) ?_; refine zO rfl (Rd.ldC rfl (tyrow rfl) rfl) ?_; refine zO rfl (Rd.lenSlice (tyrow rfl) rfl rfl) ?_; refine zO rfl Rd.mv ?_
    refine XOA.join (List.take_append_drop 11 _).symm [(20, 20), (25, 35)] (fun _ : Unit => [(20, ptr b), (35, .bool (decide ((l.length : Int) ≠ partsOf op ∨ (k ≠ 0 ∧ op ≠ 1))))]) (fun _ σ' Γ' => σ = σ' ∧ Γ' = [Judge b (.slice p n c) ((e.one deep).fail (decide (partsOf op < 0)) 2), blk g4 [i64 op, i64 v, i64 k, .slice pl l.length cl] 44]) ?_ ?_
    · 
      by_cases h1 : (l.length : Int) = partsOf op
      · by_cases h2 : k = 0
        · have hb : decide ((l.length : Int) ≠ partsOf op ∨ (k ≠ 0 ∧ op ≠ 1)) = false := decide_eq_false (by omega)
          rw [hb]
          refine zO rfl (Rd.neq rfl rfl) ?_
          refine zO rfl Rd.mv ?_
          first | ((first | refine zW ?_ | refine zQ ?_); refine zO rfl (Rd.fA rfl) ?_) | refine zU ?_ | refine zV ?_ | refine zZ ?_
          first | ((first | refine zW ?_ | refine zQ ?_); refine zO rfl (Rd.ldC rfl (tyrow rfl) rfl) ?_) | refine zU ?_ | refine zV ?_ | refine zZ ?_
          first | ((first | refine zW ?_ | refine zQ ?_); refine zO rfl (Rd.neq rfl rfl) ?_) | refine zU ?_ | refine zV ?_ | refine zZ ?_
          first | ((first | refine zW ?_ | refine zQ ?_); refine zO rfl Rd.mv ?_) | refine zU ?_ | refine zV ?_ | refine zZ ?_
          first | ((first | refine zW ?_ | refine zQ ?_); refine zO rfl (Rd.fA rfl) ?_) | refine zU ?_ | refine zV ?_ | refine zZ ?_
          first | ((first | refine zW ?_ | refine zQ ?_); refine zO rfl (Rd.ldC rfl (tyrow rfl) rfl) ?_) | refine zU ?_ | refine zV ?_ | refine zZ ?_
          first | ((first | refine zW ?_ | refine zQ ?_); refine zO rfl (Rd.neq rfl rfl) ?_) | refine zU ?_ | refine zV ?_ | refine zZ ?_
          first | ((first | refine zW ?_ | refine zQ ?_); refine zO rfl (by first | exact Rd.pT rfl | exact Rd.pF rfl | exact Rd.pP rfl) ?_) | refine zU ?_ | refine zV ?_ | refine zZ ?_
          refine zO rfl (by first | exact Rd.pT rfl | exact Rd.pF rfl | exact Rd.pP rfl) ?_
          refine zN ?_; refine zT ?_
          refine ⟨(Keep.upd (Keep.upd (Keep.upd (Keep.upd (Keep.upd (Keep.upd (Keep.upd (Keep.upd (Keep.upd (Keep.upd (Keep.upd (Keep.refl _ _) rfl) rfl) rfl) rfl) rfl) rfl) rfl) rfl) rfl) rfl) rfl), (), _, (by (repeat (first | exact trivial | refine ⟨rfl, ?_⟩ | refine ⟨Eq.trans rfl (congrArg Value.bool hmat.symm), ?_⟩)); (first | done | fail)), ?_, ⟨rfl, rfl⟩⟩
          · exact zE
        · have hb : decide ((l.length : Int) ≠ partsOf op ∨ (k ≠ 0 ∧ op ≠ 1)) = decide (op ≠ 1) := by rw [decide_eq_decide]; omega
          rw [hb]
          refine zO rfl (Rd.neq rfl rfl) ?_
          refine zO rfl Rd.mv ?_
          first | ((first | refine zW ?_ | refine zQ ?_); refine zO rfl (Rd.fA rfl) ?_) | refine zU ?_ | refine zV ?_ | refine zZ ?_
          first | ((first | refine zW ?_ | refine zQ ?_); refine zO rfl (Rd.ldC rfl (tyrow rfl) rfl) ?_) | refine zU ?_ | refine zV ?_ | refine zZ ?_
          first | ((first | refine zW ?_ | refine zQ ?_); refine zO rfl (Rd.neq rfl rfl) ?_) | refine zU ?_ | refine zV ?_ | refine zZ ?_
          first | ((first | refine zW ?_ | refine zQ ?_); refine zO rfl Rd.mv ?_) | refine zU ?_ | refine zV ?_ | refine zZ ?_
          first | ((first | refine zW ?_ | refine zQ ?_); refine zO rfl (Rd.fA rfl) ?_) | refine zU ?_ | refine zV ?_ | refine zZ ?_
          first | ((first | refine zW ?_ | refine zQ ?_); refine zO rfl (Rd.ldC rfl (tyrow rfl) rfl) ?_) | refine zU ?_ | refine zV ?_ | refine zZ ?_
          first | ((first | refine zW ?_ | refine zQ ?_); refine zO rfl (Rd.neq rfl rfl) ?_) | refine zU ?_ | refine zV ?_ | refine zZ ?_
          first | ((first | refine zW ?_ | refine zQ ?_); refine zO rfl (by first | exact Rd.pT rfl | exact Rd.pF rfl | exact Rd.pP rfl) ?_) | refine zU ?_ | refine zV ?_ | refine zZ ?_
          refine zO rfl (by first | exact Rd.pT rfl | exact Rd.pF rfl | exact Rd.pP rfl) ?_
          refine zN ?_; refine zT ?_
          refine ⟨(Keep.upd (Keep.upd (Keep.upd (Keep.upd (Keep.upd (Keep.upd (Keep.upd (Keep.upd (Keep.upd (Keep.upd (Keep.upd (Keep.refl _ _) rfl) rfl) rfl) rfl) rfl) rfl) rfl) rfl) rfl) rfl) rfl), (), _, (by (repeat (first | exact trivial | refine ⟨rfl, ?_⟩ | refine ⟨Eq.trans rfl (congrArg Value.bool hmat.symm), ?_⟩)); (first | done | fail)), ?_, ⟨rfl, rfl⟩⟩
          · exact zE
      · have hb : decide ((l.length : Int) ≠ partsOf op ∨ (k ≠ 0 ∧ op ≠ 1)) = true := decide_eq_true (by omega)
        rw [hb]
        refine zO rfl (Rd.neq rfl rfl) ?_
        refine zO rfl Rd.mv ?_
        first | ((first | refine zW ?_ | refine zQ ?_); refine zO rfl (Rd.fA rfl) ?_) | refine zU ?_ | refine zV ?_ | refine zZ ?_
        first | ((first | refine zW ?_ | refine zQ ?_); refine zO rfl (Rd.ldC rfl (tyrow rfl) rfl) ?_) | refine zU ?_ | refine zV ?_ | refine zZ ?_
        first | ((first | refine zW ?_ | refine zQ ?_); refine zO rfl (Rd.neq rfl rfl) ?_) | refine zU ?_ | refine zV ?_ | refine zZ ?_
        first | ((first | refine zW ?_ | refine zQ ?_); refine zO rfl Rd.mv ?_) | refine zU ?_ | refine zV ?_ | refine zZ ?_
        first | ((first | refine zW ?_ | refine zQ ?_); refine zO rfl (Rd.fA rfl) ?_) | refine zU ?_ | refine zV ?_ | refine zZ ?_
        first | ((first | refine zW ?_ | refine zQ ?_); refine zO rfl (Rd.ldC rfl (tyrow rfl) rfl) ?_) | refine zU ?_ | refine zV ?_ | refine zZ ?_
        first | ((first | refine zW ?_ | refine zQ ?_); refine zO rfl (Rd.neq rfl rfl) ?_) | refine zU ?_ | refine zV ?_ | refine zZ ?_
        first | ((first | refine zW ?_ | refine zQ ?_); refine zO rfl (by first | exact Rd.pT rfl | exact Rd.pF rfl | exact Rd.pP rfl) ?_) | refine zU ?_ | refine zV ?_ | refine zZ ?_
        refine zO rfl (by first | exact Rd.pT rfl | exact Rd.pF rfl | exact Rd.pP rfl) ?_
        refine zN ?_; refine zT ?_
        refine ⟨(Keep.upd (Keep.upd (Keep.upd (Keep.upd (Keep.upd (Keep.upd (Keep.upd (Keep.upd (Keep.upd (Keep.upd (Keep.upd (Keep.refl _ _) rfl) rfl) rfl) rfl) rfl) rfl) rfl) rfl) rfl) rfl) rfl), (), _, (by (repeat (first | exact trivial | refine ⟨rfl, ?_⟩ | refine ⟨Eq.trans rfl (congrArg Value.bool hmat.symm), ?_⟩)); (first | done | fail)), ?_, ⟨rfl, rfl⟩⟩
        · exact zE
    rintro - δ1 _ _ ⟨rfl, rfl⟩
    dsimp only [ovr, List.foldl]
    refine XOA.wr0 rfl (WrA.cE (fail_a σ b _ _ (decide ((l.length : Int) ≠ partsOf op ∨ (k ≠ 0 ∧ op ≠ 1))) 5 (by decide)) rfl) ?_
    rintro _ _ _ ⟨_, ⟨rfl, rfl, rfl⟩, rfl⟩
    refine XOA.cl ?_
    refine zN ?_; refine zT ?_; refine zS ?_; refine zR ?_; refine zO rfl Rd.mv ?_; refine zO rfl (Rd.fA rfl) ?_; refine zO rfl (Rd.ldC rfl (tyrow rfl) rfl) ?_; refine zO rfl (Rd.fA rfl) ?_; refine zO rfl (Rd.ldC rfl (tyrow rfl) rfl) ?_; refine zO rfl (Rd.eql rfl rfl) ?_
    refine XOA.join (List.take_append_drop 5 _).symm [(37, 37), (39, 39), (43, 47)] (fun _ : Unit => [(37, ptr b), (39, i64 v), (47, .bool (decide (op = 2 ∨ op = 3)))]) (fun _ σ' Γ' => σ = σ' ∧ Γ' = [Judge b (.slice p n c) (((e.one deep).fail (decide (partsOf op < 0)) 2).fail (decide ((l.length : Int) ≠ partsOf op ∨ (k ≠ 0 ∧ op ≠ 1))) 5), blk g4 [i64 op, i64 v, i64 k, .slice pl l.length cl] 44]) ?_ ?_
    · 
      by_cases h1 : op = 2
      · have hb : decide (op = 2 ∨ op = 3) = true := decide_eq_true (by omega)
        rw [hb]
        refine zO rfl Rd.mv ?_
        first | ((first | refine zW ?_ | refine zQ ?_); refine zO rfl (Rd.fA rfl) ?_) | refine zU ?_ | refine zV ?_ | refine zZ ?_
        first | ((first | refine zW ?_ | refine zQ ?_); refine zO rfl (Rd.ldC rfl (tyrow rfl) rfl) ?_) | refine zU ?_ | refine zV ?_ | refine zZ ?_
        first | ((first | refine zW ?_ | refine zQ ?_); refine zO rfl (Rd.eql rfl rfl) ?_) | refine zU ?_ | refine zV ?_ | refine zZ ?_
        refine zO rfl (by first | exact Rd.pT rfl | exact Rd.pF rfl | exact Rd.pP rfl) ?_
        refine zN ?_; refine zT ?_
        refine ⟨(Keep.upd (Keep.upd (Keep.upd (Keep.upd (Keep.upd (Keep.refl _ _) rfl) rfl) rfl) rfl) rfl), (), _, (by (repeat (first | exact trivial | refine ⟨rfl, ?_⟩ | refine ⟨Eq.trans rfl (congrArg Value.bool hmat.symm), ?_⟩)); (first | done | fail)), ?_, ⟨rfl, rfl⟩⟩
        · exact zE
      · have hb : decide (op = 2 ∨ op = 3) = decide (op = 3) := by rw [decide_eq_decide]; omega
        rw [hb]
        refine zO rfl Rd.mv ?_
        first | ((first | refine zW ?_ | refine zQ ?_); refine zO rfl (Rd.fA rfl) ?_) | refine zU ?_ | refine zV ?_ | refine zZ ?_
        first | ((first | refine zW ?_ | refine zQ ?_); refine zO rfl (Rd.ldC rfl (tyrow rfl) rfl) ?_) | refine zU ?_ | refine zV ?_ | refine zZ ?_
        first | ((first | refine zW ?_ | refine zQ ?_); refine zO rfl (Rd.eql rfl rfl) ?_) | refine zU ?_ | refine zV ?_ | refine zZ ?_
        refine zO rfl (by first | exact Rd.pT rfl | exact Rd.pF rfl | exact Rd.pP rfl) ?_
        refine zN ?_; refine zT ?_
        refine ⟨(Keep.upd (Keep.upd (Keep.upd (Keep.upd (Keep.upd (Keep.refl _ _) rfl) rfl) rfl) rfl) rfl), (), _, (by (repeat (first | exact trivial | refine ⟨rfl, ?_⟩ | refine ⟨Eq.trans rfl (congrArg Value.bool hmat.symm), ?_⟩)); (first | done | fail)), ?_, ⟨rfl, rfl⟩⟩
        · exact zE
    rintro - δ2 _ _ ⟨rfl, rfl⟩
    dsimp only [ovr, List.foldl]
    refine XOA.wr0 rfl (WrA.cE (named_a σ b p n c _ v (decide (op = 2 ∨ op = 3))) rfl) ?_
    rintro _ _ _ ⟨_, ⟨rfl, rfl, rfl⟩, rfl⟩
    refine XOA.cl ?_
    refine zN ?_; refine zT ?_; refine zS ?_; refine zR ?_; refine zO rfl (Rd.fA rfl) ?_; refine zO rfl (Rd.ldC rfl (tyrow rfl) rfl) ?_; refine zO rfl (Rd.lenSlice (tyrow rfl) rfl rfl) ?_; refine zO rfl Rd.mv ?_; refine zN ?_; refine zT ?_
    refine XA.block ?_
    refine XA.gen [(0, _), (2, _), (50, _), (51, _), (52, _)] ⟨(by with_reducible (conv => lhs; whnf)), (by with_reducible (conv => lhs; whnf)), (by with_reducible (conv => lhs; whnf)), (by with_reducible (conv => lhs; whnf)), (by with_reducible (conv => lhs; whnf)), trivial⟩ (fun δ => ?_)
    dsimp only [List.foldl]
    refine XA.loop [(8, 8), (52, 66)] (fun q : Nat => [(52, i64 q)]) (fun q σ' Γ' => σ = σ' ∧ q ≤ l.length ∧ Γ' = [Judge b (.slice p n c) (exsE n (deep + 1) (l.take q) (exHead n deep op v k l.length e)), blk g4 [i64 op, i64 v, i64 k, .slice pl l.length cl] 44]) (fun q => l.length - q) 0 (by exact ⟨rfl, trivial⟩) (Δ0 := _) ?_ (⟨rfl, Nat.zero_le _, rfl⟩) ?_
    · rw [List.take_zero, exsE]; exact zE
    rintro q δ _ _ ⟨rfl, hq, rfl⟩
    dsimp only [ovr, List.foldl]
    refine zS ?_; refine zR ?_; refine zO rfl (Rd.lss rfl rfl) ?_; refine zN ?_; refine zT ?_; refine zS ?_
    refine XA.condp rfl (fun hlt => ?_) (fun hlt => ?_)
    · have hlt : q < l.length := by omega
      obtain ⟨x', hx'⟩ : ∃ x', l[q]? = some x' := ⟨_, List.getElem?_eq_getElem hlt⟩
      obtain ⟨g, o, row, rfl, hrx, hrl, hrow⟩ := hl.at hx'
      have hone := hrx.ones
      have e1 := exsE_snoc n (deep + 1) l q x' (exHead n deep op v k l.length e) hx'
      have hin2 : (exsE n (deep + 1) (l.take q) (exHead n deep op v k l.length e)).in_ := in_of (Down.exsE n (l.take q)) (in_of (Down.exHead n op v k l.length) hin deep) (deep + 1)
      refine XA.skip ?_
      refine zT ?_; refine zS ?_
      refine XA.block ?_
      refine zS ?_; refine zR ?_
      refine zO rfl (Rd.ixS rfl rfl) ?_
      refine zO rfl (Rd.ldA rfl) ?_
      refine XOA.wr0 rfl (WrA.alloc (tyrow rfl)) ?_
      rintro _ _ _ ⟨g8, rfl, rfl, rfl⟩
      refine XOA.wr0 rfl (WrA.st (tyrow rfl) rfl) ?_
      rintro _ _ _ ⟨rfl, rfl, rfl⟩
      refine zN ?_; refine zT ?_; refine zS ?_; refine zR ?_; refine zO rfl Rd.mv ?_
      cases hst : exsE n (deep + 1) (l.take q) (exHead n deep op v k l.length e) with
      | error c' =>
        rw [hst, exE_err] at e1
        first | refine XA.opn (R := Judge b (.slice p n c) (.error c')) (by ((repeat (first | with_reducible exact Sel.head | apply Sel.tail)); (first | done | fail))) (Judge.errO) ?_ | refine XOA.opn (R := Judge b (.slice p n c) (.error c')) (by ((repeat (first | with_reducible exact Sel.head | apply Sel.tail)); (first | done | fail))) (Judge.errO) ?_ | refine DA.opn (R := Judge b (.slice p n c) (.error c')) (by ((repeat (first | with_reducible exact Sel.head | apply Sel.tail)); (first | done | fail))) (Judge.errO) ?_
        rintro lf h0
        first | refine XA.cl ?_ | refine XOA.cl ?_ | refine DA.cl ?_
        refine zO rfl (Rd.nilCheck rfl) ?_; refine zO rfl (Rd.fA rfl) ?_; refine zO rfl (Rd.ldC rfl (tyrow rfl) rfl) ?_; refine zO rfl (Rd.eql rfl rfl) ?_; refine zN ?_; refine zT ?_
        refine XA.condF rfl (decide_eq_false h0) ?_
        refine XA.skip ?_
        refine DA.inb_normal ?_
        refine zT ?_; refine zR ?_
        refine zO rfl (by first | exact Rd.adi rfl rfl | exact Rd.add rfl rfl) ?_
        refine zO rfl Rd.mv ?_; refine zN ?_; refine zT ?_
        refine ⟨(Keep.upd (Keep.upd (Keep.upd (Keep.upd (Keep.upd (Keep.upd (Keep.upd (Keep.updN (Keep.updO (Keep.upd (Keep.upd (Keep.upd (Keep.upd (Keep.hav (Keep.hav (Keep.refl _ _) rfl) rfl) rfl) rfl) rfl) rfl) rfl)) rfl) rfl) rfl) rfl) rfl) rfl) rfl), q + 1, [Judge b (.slice p n c) (.error c'), _], (by (repeat (first | exact trivial | refine ⟨rfl, ?_⟩ | refine ⟨Eq.trans rfl (congrArg Value.bool hmat.symm), ?_⟩)); (first | done | fail)), ?_, ⟨rfl, hlt, by rw [e1]⟩, (by omega)⟩
        · exact Ent.foldC (Θ := [_]) (by (repeat (first | exact Ent.all _ | (apply Ent.take; focus (first | ((repeat (first | with_reducible exact Sel.head | apply Sel.tail)); done) | ((repeat (first | exact Sel.head | apply Sel.tail)); done))) | apply Ent.takeNil | apply Ent.takeEmp)); (first | done | fail)) (Judge.mkE h0) zE
      | ok a =>
        rw [hst] at e1 hin2
        first | refine XA.opn (R := Judge b (.slice p n c) (.ok a)) (by ((repeat (first | with_reducible exact Sel.head | apply Sel.tail)); (first | done | fail))) (Judge.okO) ?_ | refine XOA.opn (R := Judge b (.slice p n c) (.ok a)) (by ((repeat (first | with_reducible exact Sel.head | apply Sel.tail)); (first | done | fail))) (Judge.okO) ?_ | refine DA.opn (R := Judge b (.slice p n c) (.ok a)) (by ((repeat (first | with_reducible exact Sel.head | apply Sel.tail)); (first | done | fail))) (Judge.okO) ?_
        rintro ⟨⟩ -
        first | refine XA.cl ?_ | refine XOA.cl ?_ | refine DA.cl ?_
        refine zO rfl (Rd.nilCheck rfl) ?_; refine zO rfl (Rd.fA rfl) ?_; refine zO rfl (Rd.ldC rfl (tyrow rfl) rfl) ?_; refine zO rfl (Rd.eql rfl rfl) ?_; refine zN ?_; refine zT ?_
        refine XA.condT rfl rfl ?_
        refine zR ?_; refine zO rfl Rd.mv ?_; refine zO rfl (Rd.ldA rfl) ?_; refine zO rfl Rd.mv ?_
        refine zO rfl (by first | exact Rd.adi rfl rfl | exact Rd.add rfl rfl) ?_
        refine XOA.ent (Ent.foldC (Θ := [_]) (by (repeat (first | exact Ent.all _ | (apply Ent.take; focus (first | ((repeat (first | with_reducible exact Sel.head | apply Sel.tail)); done) | ((repeat (first | exact Sel.head | apply Sel.tail)); done))) | apply Ent.takeNil | apply Ent.takeEmp)); (first | done | fail)) (Judge.mkO (l := a)) (Ent.refl _)) ?_
        refine XOA.wr0 rfl (WrA.cE (ih x' (List.mem_of_getElem? hx') row b p n c (.ok a) (deep + 1) hrx hin2 (by omega) (by omega)) rfl) ?_
        rintro _ _ _ ⟨_, ⟨rfl, rfl, rfl⟩, rfl⟩
        refine XOA.cl ?_
        refine zN ?_
        refine DA.inb_normal ?_
        refine zT ?_; refine zR ?_
        refine zO rfl (by first | exact Rd.adi rfl rfl | exact Rd.add rfl rfl) ?_
        refine zO rfl Rd.mv ?_; refine zN ?_; refine zT ?_
        refine ⟨(Keep.upd (Keep.upd (Keep.updO (Keep.upd (Keep.upd (Keep.upd (Keep.upd (Keep.upd (Keep.upd (Keep.upd (Keep.upd (Keep.upd (Keep.updN (Keep.updO (Keep.upd (Keep.upd (Keep.upd (Keep.upd (Keep.hav (Keep.hav (Keep.refl _ _) rfl) rfl) rfl) rfl) rfl) rfl) rfl)) rfl) rfl) rfl) rfl) rfl) rfl) rfl) rfl) rfl) rfl) rfl) rfl), q + 1, _, (by (repeat (first | exact trivial | refine ⟨rfl, ?_⟩ | refine ⟨Eq.trans rfl (congrArg Value.bool hmat.symm), ?_⟩)); (first | done | fail)), ?_, ⟨rfl, hlt, by rw [e1]⟩, (by omega)⟩
        · exact zE
    have hqn : q = l.length := by omega
    subst hqn
    rw [List.take_length]
    refine XA.exit ?_
    refine DA.thn_exit ?_
    refine DA.thn_exit ?_
    refine DA.inb_same ?_
    exact bodyA.normal (ResA.none rfl) zE ⟨rfl, rfl, rfl⟩
end Go.Proofs.Ytbbghdkndbpmmaa

namespace Go.Proofs.Ytbbghdkndbpmmaa
open Go X
set_option maxHeartbeats 1000000
def StmtOK (σ : PH) (x : St) : Prop := ∀ (cs : List Value) (b : Nat) (p : Option Addr) (n c : Nat) (e : JE) (deep : Int), StAt σ cs x → e.in_ → 0 ≤ deep → deep ≤ 900 →
  CallsA Try.prog 63 #[ptr b, .agg cs.toArray, i64 deep] σ [Judge b (.slice p n c) e] (RetA fun r σ' Γ' => r = .tuple #[] ∧ σ = σ' ∧ Γ' = [Judge b (.slice p n c) (stE n deep x e)])
theorem list_a (σ : PH) (l : List St) (ih : ∀ x ∈ l, StmtOK σ x) (sl : Value) (b : Nat) (p : Option Addr) (n c : Nat) (e : JE) (deep : Int) (hl : PSl 12 StAt σ sl l) (hin : e.in_) (hd0 : 0 ≤ deep) (hd1 : deep ≤ 900) :
    CallsA Try.prog 43 #[ptr b, sl, i64 deep] σ [Judge b (.slice p n c) e] (RetA fun r σ' Γ' => r = .tuple #[] ∧ σ = σ' ∧ Γ' = [Judge b (.slice p n c) (stsE n deep l e)]) := by
  obtain ⟨pl, cl, rfl, hle, hmx⟩ := hl.shape
  have hlen : l.length ≤ maxLen := by omega
  simp only [maxLen] at hlen
  refine enterA3 Try.func43 rfl rfl rfl ?_
  refine zS ?_; refine zR ?_; refine zO rfl Rd.mv ?_; refine zO rfl (Rd.lenSlice (tyrow rfl) rfl rfl) ?_; refine zO rfl Rd.mv ?_; refine zN ?_; refine zT ?_
  refine XA.block ?_
  refine XA.gen [(0, _), (2, _), (8, _), (9, _), (10, _)] ⟨(by with_reducible (conv => lhs; whnf)), (by with_reducible (conv => lhs; whnf)), (by with_reducible (conv => lhs; whnf)), (by with_reducible (conv => lhs; whnf)), (by with_reducible (conv => lhs; whnf)), trivial⟩ (fun δ => ?_)
  dsimp only [List.foldl]
  refine XA.loop [(7, 7), (10, 23)] (fun q : Nat => [(10, i64 q)]) (fun q σ' Γ' => σ = σ' ∧ q ≤ l.length ∧ Γ' = [Judge b (.slice p n c) (stsE n deep (l.take q) e)]) (fun q => l.length - q) 0 (by exact ⟨rfl, trivial⟩) (Δ0 := _) ?_ (⟨rfl, Nat.zero_le _, rfl⟩) ?_
  · rw [List.take_zero, stsE]; exact zE
  rintro q δ _ _ ⟨rfl, hq, rfl⟩
  dsimp only [ovr, List.foldl]
  refine zS ?_; refine zR ?_; refine zO rfl (Rd.lss rfl rfl) ?_; refine zN ?_; refine zT ?_; refine zS ?_
  refine XA.condp rfl (fun hlt => ?_) (fun hlt => ?_)
  · have hlt : q < l.length := by omega
    obtain ⟨x', hx'⟩ : ∃ x', l[q]? = some x' := ⟨_, List.getElem?_eq_getElem hlt⟩
    obtain ⟨g, o, row, rfl, hrx, hrl, hrow⟩ := hl.at hx'
    have hone := hrx.ones
    have e1 := stsE_snoc n deep l q x' e hx'
    have hin2 : (stsE n deep (l.take q) e).in_ := in_of (Down.stsE n (l.take q)) hin deep
    refine XA.skip ?_
    refine zT ?_; refine zS ?_
    refine XA.block ?_
    refine zS ?_; refine zR ?_
    refine zO rfl (Rd.ixS rfl rfl) ?_
    refine zO rfl (Rd.ldA rfl) ?_
    refine XOA.wr0 rfl (WrA.alloc (tyrow rfl)) ?_
    rintro _ _ _ ⟨g7, rfl, rfl, rfl⟩
    refine XOA.wr0 rfl (WrA.st (tyrow rfl) rfl) ?_
    rintro _ _ _ ⟨rfl, rfl, rfl⟩
    refine zN ?_; refine zT ?_; refine zS ?_; refine zR ?_; refine zO rfl Rd.mv ?_
    cases hst : stsE n deep (l.take q) e with
    | error c' =>
      rw [hst, stE_err] at e1
      first | refine XA.opn (R := Judge b (.slice p n c) (.error c')) (by ((repeat (first | with_reducible exact Sel.head | apply Sel.tail)); (first | done | fail))) (Judge.errO) ?_ | refine XOA.opn (R := Judge b (.slice p n c) (.error c')) (by ((repeat (first | with_reducible exact Sel.head | apply Sel.tail)); (first | done | fail))) (Judge.errO) ?_ | refine DA.opn (R := Judge b (.slice p n c) (.error c')) (by ((repeat (first | with_reducible exact Sel.head | apply Sel.tail)); (first | done | fail))) (Judge.errO) ?_
      rintro lf h0
      first | refine XA.cl ?_ | refine XOA.cl ?_ | refine DA.cl ?_
      refine zO rfl (Rd.nilCheck rfl) ?_; refine zO rfl (Rd.fA rfl) ?_; refine zO rfl (Rd.ldC rfl (tyrow rfl) rfl) ?_; refine zO rfl (Rd.eql rfl rfl) ?_; refine zN ?_; refine zT ?_
      refine XA.condF rfl (decide_eq_false h0) ?_
      refine XA.skip ?_
      refine DA.inb_normal ?_
      refine zT ?_; refine zR ?_
      refine zO rfl (by first | exact Rd.adi rfl rfl | exact Rd.add rfl rfl) ?_
      refine zO rfl Rd.mv ?_; refine zN ?_; refine zT ?_
      refine ⟨(Keep.upd (Keep.upd (Keep.upd (Keep.upd (Keep.upd (Keep.upd (Keep.upd (Keep.updN (Keep.updO (Keep.upd (Keep.upd (Keep.upd (Keep.upd (Keep.hav (Keep.hav (Keep.refl _ _) rfl) rfl) rfl) rfl) rfl) rfl) rfl)) rfl) rfl) rfl) rfl) rfl) rfl) rfl), q + 1, [Judge b (.slice p n c) (.error c')], (by (repeat (first | exact trivial | refine ⟨rfl, ?_⟩ | refine ⟨Eq.trans rfl (congrArg Value.bool hmat.symm), ?_⟩)); (first | done | fail)), ?_, ⟨rfl, hlt, by rw [e1]⟩, (by omega)⟩
      · exact Ent.foldC (Θ := [_]) (by (repeat (first | exact Ent.all _ | (apply Ent.take; focus (first | ((repeat (first | with_reducible exact Sel.head | apply Sel.tail)); done) | ((repeat (first | exact Sel.head | apply Sel.tail)); done))) | apply Ent.takeNil | apply Ent.takeEmp)); (first | done | fail)) (Judge.mkE h0) zE
    | ok a =>
      rw [hst] at e1 hin2
      first | refine XA.opn (R := Judge b (.slice p n c) (.ok a)) (by ((repeat (first | with_reducible exact Sel.head | apply Sel.tail)); (first | done | fail))) (Judge.okO) ?_ | refine XOA.opn (R := Judge b (.slice p n c) (.ok a)) (by ((repeat (first | with_reducible exact Sel.head | apply Sel.tail)); (first | done | fail))) (Judge.okO) ?_ | refine DA.opn (R := Judge b (.slice p n c) (.ok a)) (by ((repeat (first | with_reducible exact Sel.head | apply Sel.tail)); (first | done | fail))) (Judge.okO) ?_
      rintro ⟨⟩ -
      first | refine XA.cl ?_ | refine XOA.cl ?_ | refine DA.cl ?_
      refine zO rfl (Rd.nilCheck rfl) ?_; refine zO rfl (Rd.fA rfl) ?_; refine zO rfl (Rd.ldC rfl (tyrow rfl) rfl) ?_; refine zO rfl (Rd.eql rfl rfl) ?_; refine zN ?_; refine zT ?_
      refine XA.condT rfl rfl ?_
      refine zR ?_; refine zO rfl Rd.mv ?_; refine zO rfl (Rd.ldA rfl) ?_; refine zO rfl Rd.mv ?_
      refine XOA.ent (Ent.foldC (Θ := [_]) (by (repeat (first | exact Ent.all _ | (apply Ent.take; focus (first | ((repeat (first | with_reducible exact Sel.head | apply Sel.tail)); done) | ((repeat (first | exact Sel.head | apply Sel.tail)); done))) | apply Ent.takeNil | apply Ent.takeEmp)); (first | done | fail)) (Judge.mkO (l := a)) (Ent.refl _)) ?_
      refine XOA.wr0 rfl (WrA.cE (ih x' (List.mem_of_getElem? hx') row b p n c (.ok a) deep hrx hin2 (by omega) (by omega)) rfl) ?_
      rintro _ _ _ ⟨_, ⟨rfl, rfl, rfl⟩, rfl⟩
      refine XOA.cl ?_
      refine zN ?_
      refine DA.inb_normal ?_
      refine zT ?_; refine zR ?_
      refine zO rfl (by first | exact Rd.adi rfl rfl | exact Rd.add rfl rfl) ?_
      refine zO rfl Rd.mv ?_; refine zN ?_; refine zT ?_
      refine ⟨(Keep.upd (Keep.upd (Keep.updO (Keep.upd (Keep.upd (Keep.upd (Keep.upd (Keep.upd (Keep.upd (Keep.upd (Keep.upd (Keep.updN (Keep.updO (Keep.upd (Keep.upd (Keep.upd (Keep.upd (Keep.hav (Keep.hav (Keep.refl _ _) rfl) rfl) rfl) rfl) rfl) rfl) rfl)) rfl) rfl) rfl) rfl) rfl) rfl) rfl) rfl) rfl) rfl) rfl), q + 1, _, (by (repeat (first | exact trivial | refine ⟨rfl, ?_⟩ | refine ⟨Eq.trans rfl (congrArg Value.bool hmat.symm), ?_⟩)); (first | done | fail)), ?_, ⟨rfl, hlt, by rw [e1]⟩, (by omega)⟩
      · exact zE
  have hqn : q = l.length := by omega
  subst hqn
  rw [List.take_length]
  refine XA.exit ?_
  refine DA.thn_exit ?_
  refine DA.thn_exit ?_
  refine DA.inb_same ?_
  exact bodyA.normal (ResA.none rfl) zE ⟨rfl, rfl, rfl⟩
theorem stmt_a (σ : PH) (x : St) : StmtOK σ x := by
  refine St.ind (P := StmtOK σ) ?_ x
  intro op v ex fx body els ih jh cs b p n c e deep hx hin hd0 hd1
  obtain ⟨pe, de, pf, df, pb, cb, pl, cl, rfl, -, -, hxe, hxf, hxb, hxl⟩ := hx.inv12
  simp only [St.op, St.v, St.e, St.f, St.body, St.els] at hxe hxf hxb hxl ⊢
  clear hx
  obtain ⟨cells, hcells⟩ : ∃ l, l = [i64 op, i64 v, i64 ex.op, i64 ex.v, i64 ex.n, .slice pe ex.l.length de, i64 fx.op, i64 fx.v, i64 fx.n, .slice pf fx.l.length df, .slice pb body.length cb, .slice pl els.length cl] := ⟨_, rfl⟩
  obtain ⟨ne, hne⟩ : ∃ q, q = noneX ex := ⟨_, rfl⟩
  obtain ⟨nf, hnf⟩ : ∃ q, q = noneX fx := ⟨_, rfl⟩
  obtain ⟨A1, hA1⟩ : ∃ A, A = (!needE op && !ne) := ⟨_, rfl⟩
  obtain ⟨A2, hA2⟩ : ∃ A, A = (!needF op && !nf) := ⟨_, rfl⟩
  obtain ⟨A3, hA3⟩ : ∃ A, A = (!needB op && decide ((0 : Int) < (body.length : Int))) := ⟨_, rfl⟩
  obtain ⟨A4, hA4⟩ : ∃ A, A = (!needO op && decide ((0 : Int) < (els.length : Int))) := ⟨_, rfl⟩
  have hform : stForm op ex fx body.length els.length = (((A1 || A2) || A3) || A4) := by rw [hA1, hA2, hA3, hA4, hne, hnf]; rfl
  refine enterA3 Try.func63 rfl rfl rfl ?_
  refine zS ?_; refine zR ?_
  refine XOA.wr0 rfl WrA.bx ?_
  rintro _ _ _ ⟨g4, rfl, rfl, rfl⟩
  refine zN ?_; refine zT ?_; refine zS ?_; refine zS ?_; refine zR ?_; refine zO rfl Rd.mv ?_; refine zO rfl Rd.mv ?_
  refine XOA.wr0 rfl (WrA.cE (one_a σ b (.slice p n c) e deep hin) rfl) ?_
  rintro _ _ _ ⟨_, ⟨rfl, rfl, rfl⟩, rfl⟩
  refine XOA.cl ?_
  cases hok : (e.one deep).isOk with
  | false =>
    obtain ⟨c', hc'⟩ := isOk_false hok
    have hp : stE n deep (.mk op v ex fx body els) e = .error c' := by rw [stE, stHead, hc', fail_err, fail_err, named_err, stEF_err, stsE_err, stsE_err]
    rw [hc', hp]
    refine zO rfl (by first | exact Rd.notp rfl | exact Rd.not rfl) ?_
    refine zN ?_; refine zT ?_
    refine XA.condT rfl rfl ?_
    refine XA.ret ?_
    refine DA.thn_ret ?_
    exact bodyA.ret (ResA.none rfl) zE ⟨rfl, rfl, rfl⟩
  | true =>
    have hd := one_ok hok
    refine zO rfl (by first | exact Rd.notp rfl | exact Rd.not rfl) ?_
    refine zN ?_; refine zT ?_
    refine XA.condF rfl rfl ?_
    refine XA.skip ?_
    refine zT ?_; refine zS ?_; refine zR ?_; refine zO rfl Rd.mv ?_; refine zO rfl (Rd.fA rfl) ?_; refine zO rfl (Rd.ldC rfl (tyrow rfl) rfl) ?_
    refine XOA.join (List.take_append_drop 6 _).symm [(15, 15), (18, 23)] (fun _ : Unit => [(15, ptr b), (23, .bool (decide (op < 1 ∨ 7 < op)))]) (fun _ σ' Γ' => σ = σ' ∧ Γ' = [Judge b (.slice p n c) (e.one deep), blk g4 cells 46]) ?_ ?_
    · 
      by_cases h1 : op < 1
      · have hb : decide (op < 1 ∨ 7 < op) = true := decide_eq_true (by omega)
        rw [hb]
        refine zO rfl (Rd.lss rfl rfl) ?_; refine zO rfl Rd.mv ?_
        first | ((first | refine zW ?_ | refine zQ ?_); refine zO rfl (Rd.fA rfl) ?_) | refine zU ?_ | refine zV ?_ | refine zZ ?_
        first | ((first | refine zW ?_ | refine zQ ?_); refine zO rfl (Rd.ldC rfl (tyrow rfl) rfl) ?_) | refine zU ?_ | refine zV ?_ | refine zZ ?_
        first | ((first | refine zW ?_ | refine zQ ?_); refine zO rfl (Rd.gtr rfl rfl) ?_) | refine zU ?_ | refine zV ?_ | refine zZ ?_
        refine zO rfl (by first | exact Rd.pT rfl | exact Rd.pF rfl | exact Rd.pP rfl) ?_
        refine zN ?_; refine zT ?_
        refine ⟨(Keep.upd (Keep.upd (Keep.upd (Keep.upd (Keep.upd (Keep.upd (Keep.refl _ _) rfl) rfl) rfl) rfl) rfl) rfl), (), _, (by (repeat (first | exact trivial | refine ⟨rfl, ?_⟩ | refine ⟨Eq.trans rfl (congrArg Value.bool hmat.symm), ?_⟩)); (first | done | fail)), ?_, ⟨rfl, rfl⟩⟩
        · rw [hcells]; exact zE
      · have hb : decide (op < 1 ∨ 7 < op) = decide (7 < op) := by rw [decide_eq_decide]; omega
        rw [hb]
        refine zO rfl (Rd.lss rfl rfl) ?_; refine zO rfl Rd.mv ?_
        first | ((first | refine zW ?_ | refine zQ ?_); refine zO rfl (Rd.fA rfl) ?_) | refine zU ?_ | refine zV ?_ | refine zZ ?_
        first | ((first | refine zW ?_ | refine zQ ?_); refine zO rfl (Rd.ldC rfl (tyrow rfl) rfl) ?_) | refine zU ?_ | refine zV ?_ | refine zZ ?_
        first | ((first | refine zW ?_ | refine zQ ?_); refine zO rfl (Rd.gtr rfl rfl) ?_) | refine zU ?_ | refine zV ?_ | refine zZ ?_
        refine zO rfl (by first | exact Rd.pT rfl | exact Rd.pF rfl | exact Rd.pP rfl) ?_
        refine zN ?_; refine zT ?_
        refine ⟨(Keep.upd (Keep.upd (Keep.upd (Keep.upd (Keep.upd (Keep.upd (Keep.refl _ _) rfl) rfl) rfl) rfl) rfl) rfl), (), _, (by (repeat (first | exact trivial | refine ⟨rfl, ?_⟩ | refine ⟨Eq.trans rfl (congrArg Value.bool hmat.symm), ?_⟩)); (first | done | fail)), ?_, ⟨rfl, rfl⟩⟩
        · rw [hcells]; exact zE
    rintro - δ1 _ _ ⟨rfl, rfl⟩
    dsimp only [ovr, List.foldl]
    rw [hcells]
    refine XOA.wr0 rfl (WrA.cE (fail_a σ b _ _ (decide (op < 1 ∨ 7 < op)) 2 (by decide)) rfl) ?_
    rintro _ _ _ ⟨_, ⟨rfl, rfl, rfl⟩, rfl⟩
    refine XOA.cl ?_
    refine zN ?_; refine zT ?_; refine zS ?_; refine zR ?_; refine zO rfl (Rd.fA rfl) ?_; refine zO rfl (Rd.ldC rfl (tyrow rfl) rfl) ?_
    refine XOA.wr0 rfl (WrA.cE (has_a σ op) rfl) ?_
    rintro _ _ _ ⟨_, ⟨rfl, rfl, rfl⟩, rfl⟩
    refine XOA.cl ?_
    refine zO rfl Rd.mv ?_
    refine zO rfl (Rd.extract rfl rfl) ?_
    refine zO rfl (Rd.extract rfl rfl) ?_
    refine zO rfl (Rd.extract rfl rfl) ?_
    refine zO rfl (Rd.extract rfl rfl) ?_
    refine zO rfl (Rd.extract rfl rfl) ?_
    refine zO rfl Rd.asg ?_; refine zO rfl Rd.asg ?_; refine zO rfl Rd.asg ?_; refine zO rfl Rd.asg ?_; refine zO rfl Rd.asg ?_; refine zN ?_; refine zT ?_; refine zS ?_; refine zR ?_
    obtain ⟨E2, hE2⟩ : ∃ E, E = (e.one deep).fail (decide (op < 1 ∨ 7 < op)) 2 := ⟨_, rfl⟩
    rw [← hE2, ← hcells]
    refine XOA.join (List.take_append_drop 10 _).symm [(34, 43)] (fun _ : Unit => [(34, ptr b), (43, .bool A1)]) (fun _ σ' Γ' => σ = σ' ∧ Γ' = [Judge b (.slice p n c) E2, blk g4 cells 46]) ?_ ?_
    · rw [hcells]
      cases hn : needE op with
      | true =>
        have hb : A1 = false := by rw [hA1, hn]; rfl
        rw [hb]
        refine zO rfl Rd.mv ?_; refine zO rfl Rd.mv ?_
        refine zO rfl (by first | exact Rd.notp rfl | exact Rd.not rfl) ?_
        refine zO rfl Rd.mv ?_
        first | ((first | refine zW ?_ | refine zQ ?_); refine zO rfl (Rd.fA rfl) ?_) | refine zU ?_ | refine zV ?_ | refine zZ ?_
        first | ((first | refine zW ?_ | refine zQ ?_); refine zO rfl (Rd.ldA rfl) ?_) | refine zU ?_ | refine zV ?_ | refine zZ ?_
        first | refine zU ?_ | refine zV ?_ | refine zZ ?_
        first | ((first | refine zW ?_ | refine zQ ?_); refine zO rfl (by first | exact Rd.notp rfl | exact Rd.not rfl) ?_) | refine zU ?_ | refine zV ?_ | refine zZ ?_
        refine zO rfl (by first | exact Rd.pT rfl | exact Rd.pF rfl | exact Rd.pP rfl) ?_
        refine zO rfl Rd.mv ?_; refine zN ?_; refine zT ?_
        refine ⟨(Keep.upd (Keep.upd (Keep.upd (Keep.upd (Keep.upd (Keep.upd (Keep.upd (Keep.upd (Keep.upd (Keep.upd (Keep.refl _ _) rfl) rfl) rfl) rfl) rfl) rfl) rfl) rfl) rfl) rfl), (), _, (by (repeat (first | exact trivial | refine ⟨rfl, ?_⟩ | refine ⟨Eq.trans rfl (congrArg Value.bool hmat.symm), ?_⟩)); (first | done | fail)), ?_, ⟨rfl, rfl⟩⟩
        · exact zE
      | false =>
        have hb : A1 = !ne := by rw [hA1, hn]; rfl
        rw [hb]
        refine zO rfl Rd.mv ?_; refine zO rfl Rd.mv ?_
        refine zO rfl (by first | exact Rd.notp rfl | exact Rd.not rfl) ?_
        refine zO rfl Rd.mv ?_
        first | ((first | refine zW ?_ | refine zQ ?_); refine zO rfl (Rd.fA rfl) ?_) | refine zU ?_ | refine zV ?_ | refine zZ ?_
        first | ((first | refine zW ?_ | refine zQ ?_); refine zO rfl (Rd.ldA rfl) ?_) | refine zU ?_ | refine zV ?_ | refine zZ ?_
        first | refine XOA.wanted rfl rfl ?_ | refine XOA.wq rfl rfl ?_
        refine XOA.wr0 rfl (WrA.cE (none_a σ _ _ hxe) rfl) ?_
        rintro _ _ _ ⟨_, ⟨rfl, rfl, rfl⟩, rfl⟩
        refine XOA.cl ?_
        rw [← hne]
        first | ((first | refine zW ?_ | refine zQ ?_); refine zO rfl (by first | exact Rd.notp rfl | exact Rd.not rfl) ?_) | refine zU ?_ | refine zV ?_ | refine zZ ?_
        refine zO rfl (by first | exact Rd.pT rfl | exact Rd.pF rfl | exact Rd.pP rfl) ?_
        refine zO rfl Rd.mv ?_; refine zN ?_; refine zT ?_
        refine ⟨(Keep.upd (Keep.upd (Keep.upd (Keep.updO (Keep.upd (Keep.upd (Keep.upd (Keep.upd (Keep.upd (Keep.upd (Keep.refl _ _) rfl) rfl) rfl) rfl) rfl) rfl) rfl) rfl) rfl) rfl), (), _, (by (repeat (first | exact trivial | refine ⟨rfl, ?_⟩ | refine ⟨Eq.trans rfl (congrArg Value.bool hmat.symm), ?_⟩)); (first | done | fail)), ?_, ⟨rfl, rfl⟩⟩
        · exact zE
    rintro - δ2 _ _ ⟨rfl, rfl⟩
    dsimp only [ovr, List.foldl]
    rw [hcells]
    obtain ⟨B2, hB2⟩ : ∃ A, A = (A1 || A2) := ⟨_, rfl⟩
    rw [← hcells]
    refine XOA.join (List.take_append_drop 10 _).symm [(34, 34), (44, 53)] (fun _ : Unit => [(34, ptr b), (53, .bool B2)]) (fun _ σ' Γ' => σ = σ' ∧ Γ' = [Judge b (.slice p n c) E2, blk g4 cells 46]) ?_ ?_
    · rw [hcells]
      cases A1 with
      | true =>
        have hb : B2 = true := by rw [hB2]; rfl
        rw [hb]
        first | ((first | refine zW ?_ | refine zQ ?_); refine zO rfl Rd.mv ?_) | refine zU ?_ | refine zV ?_ | refine zZ ?_
        first | ((first | refine zW ?_ | refine zQ ?_); refine zO rfl (by first | exact Rd.notp rfl | exact Rd.not rfl) ?_) | refine zU ?_ | refine zV ?_ | refine zZ ?_
        first | ((first | refine zW ?_ | refine zQ ?_); refine zO rfl Rd.mv ?_) | refine zU ?_ | refine zV ?_ | refine zZ ?_
        first | ((first | refine zW ?_ | refine zQ ?_); refine zO rfl (Rd.fA rfl) ?_) | refine zU ?_ | refine zV ?_ | refine zZ ?_
        first | ((first | refine zW ?_ | refine zQ ?_); refine zO rfl (Rd.ldA rfl) ?_) | refine zU ?_ | refine zV ?_ | refine zZ ?_
        first | refine zU ?_ | refine zV ?_ | refine zZ ?_
        first | ((first | refine zW ?_ | refine zQ ?_); refine zO rfl (by first | exact Rd.notp rfl | exact Rd.not rfl) ?_) | refine zU ?_ | refine zV ?_ | refine zZ ?_
        first | ((first | refine zW ?_ | refine zQ ?_); refine zO rfl (by first | exact Rd.pT rfl | exact Rd.pF rfl | exact Rd.pP rfl) ?_) | refine zU ?_ | refine zV ?_ | refine zZ ?_
        refine zO rfl (by first | exact Rd.pT rfl | exact Rd.pF rfl | exact Rd.pP rfl) ?_
        refine zO rfl Rd.mv ?_; refine zN ?_; refine zT ?_
        refine ⟨(Keep.upd (Keep.upd (Keep.upd (Keep.upd (Keep.upd (Keep.upd (Keep.upd (Keep.upd (Keep.upd (Keep.upd (Keep.refl _ _) rfl) rfl) rfl) rfl) rfl) rfl) rfl) rfl) rfl) rfl), (), _, (by (repeat (first | exact trivial | refine ⟨rfl, ?_⟩ | refine ⟨Eq.trans rfl (congrArg Value.bool hmat.symm), ?_⟩)); (first | done | fail)), ?_, ⟨rfl, rfl⟩⟩
        · exact zE
      | false =>
        rw [Bool.false_or] at hB2
        cases hn : needF op with
        | true =>
          have hb : B2 = false := by rw [hB2, hA2, hn]; rfl
          rw [hb]
          first | ((first | refine zW ?_ | refine zQ ?_); refine zO rfl Rd.mv ?_) | refine zU ?_ | refine zV ?_ | refine zZ ?_
          first | ((first | refine zW ?_ | refine zQ ?_); refine zO rfl (by first | exact Rd.notp rfl | exact Rd.not rfl) ?_) | refine zU ?_ | refine zV ?_ | refine zZ ?_
          first | ((first | refine zW ?_ | refine zQ ?_); refine zO rfl Rd.mv ?_) | refine zU ?_ | refine zV ?_ | refine zZ ?_
          first | ((first | refine zW ?_ | refine zQ ?_); refine zO rfl (Rd.fA rfl) ?_) | refine zU ?_ | refine zV ?_ | refine zZ ?_
          first | ((first | refine zW ?_ | refine zQ ?_); refine zO rfl (Rd.ldA rfl) ?_) | refine zU ?_ | refine zV ?_ | refine zZ ?_
          first | refine zU ?_ | refine zV ?_ | refine zZ ?_
          first | ((first | refine zW ?_ | refine zQ ?_); refine zO rfl (by first | exact Rd.notp rfl | exact Rd.not rfl) ?_) | refine zU ?_ | refine zV ?_ | refine zZ ?_
          first | ((first | refine zW ?_ | refine zQ ?_); refine zO rfl (by first | exact Rd.pT rfl | exact Rd.pF rfl | exact Rd.pP rfl) ?_) | refine zU ?_ | refine zV ?_ | refine zZ ?_
          refine zO rfl (by first | exact Rd.pT rfl | exact Rd.pF rfl | exact Rd.pP rfl) ?_
          refine zO rfl Rd.mv ?_; refine zN ?_; refine zT ?_
          refine ⟨(Keep.upd (Keep.upd (Keep.upd (Keep.upd (Keep.upd (Keep.upd (Keep.upd (Keep.upd (Keep.upd (Keep.upd (Keep.refl _ _) rfl) rfl) rfl) rfl) rfl) rfl) rfl) rfl) rfl) rfl), (), _, (by (repeat (first | exact trivial | refine ⟨rfl, ?_⟩ | refine ⟨Eq.trans rfl (congrArg Value.bool hmat.symm), ?_⟩)); (first | done | fail)), ?_, ⟨rfl, rfl⟩⟩
          · exact zE
        | false =>
          have hb : B2 = !nf := by rw [hB2, hA2, hn]; rfl
          rw [hb]
          first | ((first | refine zW ?_ | refine zQ ?_); refine zO rfl Rd.mv ?_) | refine zU ?_ | refine zV ?_ | refine zZ ?_
          first | ((first | refine zW ?_ | refine zQ ?_); refine zO rfl (by first | exact Rd.notp rfl | exact Rd.not rfl) ?_) | refine zU ?_ | refine zV ?_ | refine zZ ?_
          first | ((first | refine zW ?_ | refine zQ ?_); refine zO rfl Rd.mv ?_) | refine zU ?_ | refine zV ?_ | refine zZ ?_
          first | ((first | refine zW ?_ | refine zQ ?_); refine zO rfl (Rd.fA rfl) ?_) | refine zU ?_ | refine zV ?_ | refine zZ ?_
          first | ((first | refine zW ?_ | refine zQ ?_); refine zO rfl (Rd.ldA rfl) ?_) | refine zU ?_ | refine zV ?_ | refine zZ ?_
          first | refine XOA.wanted rfl rfl ?_ | refine XOA.wq rfl rfl ?_
          refine XOA.wr0 rfl (WrA.cE (none_a σ _ _ hxf) rfl) ?_
          rintro _ _ _ ⟨_, ⟨rfl, rfl, rfl⟩, rfl⟩
          refine XOA.cl ?_
          rw [← hnf]
          first | ((first | refine zW ?_ | refine zQ ?_); refine zO rfl (by first | exact Rd.notp rfl | exact Rd.not rfl) ?_) | refine zU ?_ | refine zV ?_ | refine zZ ?_
          first | ((first | refine zW ?_ | refine zQ ?_); refine zO rfl (by first | exact Rd.pT rfl | exact Rd.pF rfl | exact Rd.pP rfl) ?_) | refine zU ?_ | refine zV ?_ | refine zZ ?_
          refine zO rfl (by first | exact Rd.pT rfl | exact Rd.pF rfl | exact Rd.pP rfl) ?_
          refine zO rfl Rd.mv ?_; refine zN ?_; refine zT ?_
          refine ⟨(Keep.upd (Keep.upd (Keep.upd (Keep.upd (Keep.updO (Keep.upd (Keep.upd (Keep.upd (Keep.upd (Keep.upd (Keep.refl _ _) rfl) rfl) rfl) rfl) rfl) rfl) rfl) rfl) rfl) rfl), (), _, (by (repeat (first | exact trivial | refine ⟨rfl, ?_⟩ | refine ⟨Eq.trans rfl (congrArg Value.bool hmat.symm), ?_⟩)); (first | done | fail)), ?_, ⟨rfl, rfl⟩⟩
          · exact zE
    rintro - δ3 _ _ ⟨rfl, rfl⟩
    dsimp only [ovr, List.foldl]
    obtain ⟨B3, hB3⟩ : ∃ A, A = (B2 || A3) := ⟨_, rfl⟩
    refine XOA.join (List.take_append_drop 10 _).symm [(34, 34), (54, 63)] (fun _ : Unit => [(34, ptr b), (63, .bool B3)]) (fun _ σ' Γ' => σ = σ' ∧ Γ' = [Judge b (.slice p n c) E2, blk g4 cells 46]) ?_ ?_
    · rw [hcells]
      cases hB : B2 with
      | true =>
        have hb : B3 = true := by rw [hB3, hB]; rfl
        rw [hb]
        first | ((first | refine zW ?_ | refine zQ ?_); refine zO rfl Rd.mv ?_) | refine zU ?_ | refine zV ?_ | refine zZ ?_
        first | ((first | refine zW ?_ | refine zQ ?_); refine zO rfl (by first | exact Rd.notp rfl | exact Rd.not rfl) ?_) | refine zU ?_ | refine zV ?_ | refine zZ ?_
        first | ((first | refine zW ?_ | refine zQ ?_); refine zO rfl Rd.mv ?_) | refine zU ?_ | refine zV ?_ | refine zZ ?_
        first | ((first | refine zW ?_ | refine zQ ?_); refine zO rfl (Rd.fA rfl) ?_) | refine zU ?_ | refine zV ?_ | refine zZ ?_
        first | ((first | refine zW ?_ | refine zQ ?_); refine zO rfl (Rd.ldC rfl (tyrow rfl) rfl) ?_) | refine zU ?_ | refine zV ?_ | refine zZ ?_
        first | ((first | refine zW ?_ | refine zQ ?_); refine zO rfl (Rd.lenSlice (tyrow rfl) rfl rfl) ?_) | refine zU ?_ | refine zV ?_ | refine zZ ?_
        first | ((first | refine zW ?_ | refine zQ ?_); refine zO rfl (Rd.gtr rfl rfl) ?_) | refine zU ?_ | refine zV ?_ | refine zZ ?_
        first | ((first | refine zW ?_ | refine zQ ?_); refine zO rfl (by first | exact Rd.pT rfl | exact Rd.pF rfl | exact Rd.pP rfl) ?_) | refine zU ?_ | refine zV ?_ | refine zZ ?_
        refine zO rfl (by first | exact Rd.pT rfl | exact Rd.pF rfl | exact Rd.pP rfl) ?_
        refine zO rfl Rd.mv ?_; refine zN ?_; refine zT ?_
        refine ⟨(Keep.upd (Keep.upd (Keep.upd (Keep.upd (Keep.upd (Keep.upd (Keep.upd (Keep.upd (Keep.upd (Keep.upd (Keep.refl _ _) rfl) rfl) rfl) rfl) rfl) rfl) rfl) rfl) rfl) rfl), (), _, (by (repeat (first | exact trivial | refine ⟨rfl, ?_⟩ | refine ⟨Eq.trans rfl (congrArg Value.bool hmat.symm), ?_⟩)); (first | done | fail)), ?_, ⟨rfl, rfl⟩⟩
        · exact zE
      | false =>
        rw [hB, Bool.false_or] at hB3
        cases hn : needB op with
        | true =>
          have hb : B3 = false := by rw [hB3, hA3, hn]; rfl
          rw [hb]
          first | ((first | refine zW ?_ | refine zQ ?_); refine zO rfl Rd.mv ?_) | refine zU ?_ | refine zV ?_ | refine zZ ?_
          first | ((first | refine zW ?_ | refine zQ ?_); refine zO rfl (by first | exact Rd.notp rfl | exact Rd.not rfl) ?_) | refine zU ?_ | refine zV ?_ | refine zZ ?_
          first | ((first | refine zW ?_ | refine zQ ?_); refine zO rfl Rd.mv ?_) | refine zU ?_ | refine zV ?_ | refine zZ ?_
          first | ((first | refine zW ?_ | refine zQ ?_); refine zO rfl (Rd.fA rfl) ?_) | refine zU ?_ | refine zV ?_ | refine zZ ?_
          first | ((first | refine zW ?_ | refine zQ ?_); refine zO rfl (Rd.ldC rfl (tyrow rfl) rfl) ?_) | refine zU ?_ | refine zV ?_ | refine zZ ?_
          first | ((first | refine zW ?_ | refine zQ ?_); refine zO rfl (Rd.lenSlice (tyrow rfl) rfl rfl) ?_) | refine zU ?_ | refine zV ?_ | refine zZ ?_
          first | ((first | refine zW ?_ | refine zQ ?_); refine zO rfl (Rd.gtr rfl rfl) ?_) | refine zU ?_ | refine zV ?_ | refine zZ ?_
          first | ((first | refine zW ?_ | refine zQ ?_); refine zO rfl (by first | exact Rd.pT rfl | exact Rd.pF rfl | exact Rd.pP rfl) ?_) | refine zU ?_ | refine zV ?_ | refine zZ ?_
          refine zO rfl (by first | exact Rd.pT rfl | exact Rd.pF rfl | exact Rd.pP rfl) ?_
          refine zO rfl Rd.mv ?_; refine zN ?_; refine zT ?_
          refine ⟨(Keep.upd (Keep.upd (Keep.upd (Keep.upd (Keep.upd (Keep.upd (Keep.upd (Keep.upd (Keep.upd (Keep.upd (Keep.refl _ _) rfl) rfl) rfl) rfl) rfl) rfl) rfl) rfl) rfl) rfl), (), _, (by (repeat (first | exact trivial | refine ⟨rfl, ?_⟩ | refine ⟨Eq.trans rfl (congrArg Value.bool hmat.symm), ?_⟩)); (first | done | fail)), ?_, ⟨rfl, rfl⟩⟩
          · exact zE
        | false =>
          have hb : B3 = decide ((0 : Int) < (body.length : Int)) := by rw [hB3, hA3, hn]; rfl
          rw [hb]
          first | ((first | refine zW ?_ | refine zQ ?_); refine zO rfl Rd.mv ?_) | refine zU ?_ | refine zV ?_ | refine zZ ?_
          first | ((first | refine zW ?_ | refine zQ ?_); refine zO rfl (by first | exact Rd.notp rfl | exact Rd.not rfl) ?_) | refine zU ?_ | refine zV ?_ | refine zZ ?_
          first | ((first | refine zW ?_ | refine zQ ?_); refine zO rfl Rd.mv ?_) | refine zU ?_ | refine zV ?_ | refine zZ ?_
          first | ((first | refine zW ?_ | refine zQ ?_); refine zO rfl (Rd.fA rfl) ?_) | refine zU ?_ | refine zV ?_ | refine zZ ?_
          first | ((first | refine zW ?_ | refine zQ ?_); refine zO rfl (Rd.ldC rfl (tyrow rfl) rfl) ?_) | refine zU ?_ | refine zV ?_ | refine zZ ?_
          first | ((first | refine zW ?_ | refine zQ ?_); refine zO rfl (Rd.lenSlice (tyrow rfl) rfl rfl) ?_) | refine zU ?_ | refine zV ?_ | refine zZ ?_
          first | ((first | refine zW ?_ | refine zQ ?_); refine zO rfl (Rd.gtr rfl rfl) ?_) | refine zU ?_ | refine zV ?_ | refine zZ ?_
          first | ((first | refine zW ?_ | refine zQ ?_); refine zO rfl (by first | exact Rd.pT rfl | exact Rd.pF rfl | exact Rd.pP rfl) ?_) | refine zU ?_ | refine zV ?_ | refine zZ ?_
          refine zO rfl (by first | exact Rd.pT rfl | exact Rd.pF rfl | exact Rd.pP rfl) ?_
          refine zO rfl Rd.mv ?_; refine zN ?_; refine zT ?_
          refine ⟨(Keep.upd (Keep.upd (Keep.upd (Keep.upd (Keep.upd (Keep.upd (Keep.upd (Keep.upd (Keep.upd (Keep.upd (Keep.refl _ _) rfl) rfl) rfl) rfl) rfl) rfl) rfl) rfl) rfl) rfl), (), _, (by (repeat (first | exact trivial | refine ⟨rfl, ?_⟩ | refine ⟨Eq.trans rfl (congrArg Value.bool hmat.symm), ?_⟩)); (first | done | fail)), ?_, ⟨rfl, rfl⟩⟩
          · exact zE
    rintro - δ4 _ _ ⟨rfl, rfl⟩
    dsimp only [ovr, List.foldl]
    obtain ⟨B4, hB4⟩ : ∃ A, A = (B3 || A4) := ⟨_, rfl⟩
    refine XOA.join (List.take_append_drop 9 _).symm [(34, 34), (64, 72)] (fun _ : Unit => [(34, ptr b), (72, .bool B4)]) (fun _ σ' Γ' => σ = σ' ∧ Γ' = [Judge b (.slice p n c) E2, blk g4 cells 46]) ?_ ?_
    · rw [hcells]
      cases hB : B3 with
      | true =>
        have hb : B4 = true := by rw [hB4, hB]; rfl
        rw [hb]
        first | ((first | refine zW ?_ | refine zQ ?_); refine zO rfl Rd.mv ?_) | refine zU ?_ | refine zV ?_ | refine zZ ?_
        first | ((first | refine zW ?_ | refine zQ ?_); refine zO rfl (by first | exact Rd.notp rfl | exact Rd.not rfl) ?_) | refine zU ?_ | refine zV ?_ | refine zZ ?_
        first | ((first | refine zW ?_ | refine zQ ?_); refine zO rfl Rd.mv ?_) | refine zU ?_ | refine zV ?_ | refine zZ ?_
        first | ((first | refine zW ?_ | refine zQ ?_); refine zO rfl (Rd.fA rfl) ?_) | refine zU ?_ | refine zV ?_ | refine zZ ?_
        first | ((first | refine zW ?_ | refine zQ ?_); refine zO rfl (Rd.ldC rfl (tyrow rfl) rfl) ?_) | refine zU ?_ | refine zV ?_ | refine zZ ?_
        first | ((first | refine zW ?_ | refine zQ ?_); refine zO rfl (Rd.lenSlice (tyrow rfl) rfl rfl) ?_) | refine zU ?_ | refine zV ?_ | refine zZ ?_
        first | ((first | refine zW ?_ | refine zQ ?_); refine zO rfl (Rd.gtr rfl rfl) ?_) | refine zU ?_ | refine zV ?_ | refine zZ ?_
        first | ((first | refine zW ?_ | refine zQ ?_); refine zO rfl (by first | exact Rd.pT rfl | exact Rd.pF rfl | exact Rd.pP rfl) ?_) | refine zU ?_ | refine zV ?_ | refine zZ ?_
        refine zO rfl (by first | exact Rd.pT rfl | exact Rd.pF rfl | exact Rd.pP rfl) ?_
        refine zN ?_; refine zT ?_
        refine ⟨(Keep.upd (Keep.upd (Keep.upd (Keep.upd (Keep.upd (Keep.upd (Keep.upd (Keep.upd (Keep.upd (Keep.refl _ _) rfl) rfl) rfl) rfl) rfl) rfl) rfl) rfl) rfl), (), _, (by (repeat (first | exact trivial | refine ⟨rfl, ?_⟩ | refine ⟨Eq.trans rfl (congrArg Value.bool hmat.symm), ?_⟩)); (first | done | fail)), ?_, ⟨rfl, rfl⟩⟩
        · exact zE
      | false =>
        rw [hB, Bool.false_or] at hB4
        cases hn : needO op with
        | true =>
          have hb : B4 = false := by rw [hB4, hA4, hn]; rfl
          rw [hb]
          first | ((first | refine zW ?_ | refine zQ ?_); refine zO rfl Rd.mv ?_) | refine zU ?_ | refine zV ?_ | refine zZ ?_
          first | ((first | refine zW ?_ | refine zQ ?_); refine zO rfl (by first | exact Rd.notp rfl | exact Rd.not rfl) ?_) | refine zU ?_ | refine zV ?_ | refine zZ ?_
          first | ((first | refine zW ?_ | refine zQ ?_); refine zO rfl Rd.mv ?_) | refine zU ?_ | refine zV ?_ | refine zZ ?_
          first | ((first | refine zW ?_ | refine zQ ?_); refine zO rfl (Rd.fA rfl) ?_) | refine zU ?_ | refine zV ?_ | refine zZ ?_
          first | ((first | refine zW ?_ | refine zQ ?_); refine zO rfl (Rd.ldC rfl (tyrow rfl) rfl) ?_) | refine zU ?_ | refine zV ?_ | refine zZ ?_
          first | ((first | refine zW ?_ | refine zQ ?_); refine zO rfl (Rd.lenSlice (tyrow rfl) rfl rfl) ?_) | refine zU ?_ | refine zV ?_ | refine zZ ?_
          first | ((first | refine zW ?_ | refine zQ ?_); refine zO rfl (Rd.gtr rfl rfl) ?_) | refine zU ?_ | refine zV ?_ | refine zZ ?_
          first | ((first | refine zW ?_ | refine zQ ?_); refine zO rfl (by first | exact Rd.pT rfl | exact Rd.pF rfl | exact Rd.pP rfl) ?_) | refine zU ?_ | refine zV ?_ | refine zZ ?_
          refine zO rfl (by first | exact Rd.pT rfl | exact Rd.pF rfl | exact Rd.pP rfl) ?_
          refine zN ?_; refine zT ?_
          refine ⟨(Keep.upd (Keep.upd (Keep.upd (Keep.upd (Keep.upd (Keep.upd (Keep.upd (Keep.upd (Keep.upd (Keep.refl _ _) rfl) rfl) rfl) rfl) rfl) rfl) rfl) rfl) rfl), (), _, (by (repeat (first | exact trivial | refine ⟨rfl, ?_⟩ | refine ⟨Eq.trans rfl (congrArg Value.bool hmat.symm), ?_⟩)); (first | done | fail)), ?_, ⟨rfl, rfl⟩⟩
          · exact zE
        | false =>
          have hb : B4 = decide ((0 : Int) < (els.length : Int)) := by rw [hB4, hA4, hn]; rfl
          rw [hb]
          first | ((first | refine zW ?_ | refine zQ ?_); refine zO rfl Rd.mv ?_) | refine zU ?_ | refine zV ?_ | refine zZ ?_
          first | ((first | refine zW ?_ | refine zQ ?_); refine zO rfl (by first | exact Rd.notp rfl | exact Rd.not rfl) ?_) | refine zU ?_ | refine zV ?_ | refine zZ ?_
          first | ((first | refine zW ?_ | refine zQ ?_); refine zO rfl Rd.mv ?_) | refine zU ?_ | refine zV ?_ | refine zZ ?_
          first | ((first | refine zW ?_ | refine zQ ?_); refine zO rfl (Rd.fA rfl) ?_) | refine zU ?_ | refine zV ?_ | refine zZ ?_
          first | ((first | refine zW ?_ | refine zQ ?_); refine zO rfl (Rd.ldC rfl (tyrow rfl) rfl) ?_) | refine zU ?_ | refine zV ?_ | refine zZ ?_
          first | ((first | refine zW ?_ | refine zQ ?_); refine zO rfl (Rd.lenSlice (tyrow rfl) rfl rfl) ?_) | refine zU ?_ | refine zV ?_ | refine zZ ?_
          first | ((first | refine zW ?_ | refine zQ ?_); refine zO rfl (Rd.gtr rfl rfl) ?_) | refine zU ?_ | refine zV ?_ | refine zZ ?_
          first | ((first | refine zW ?_ | refine zQ ?_); refine zO rfl (by first | exact Rd.pT rfl | exact Rd.pF rfl | exact Rd.pP rfl) ?_) | refine zU ?_ | refine zV ?_ | refine zZ ?_
          refine zO rfl (by first | exact Rd.pT rfl | exact Rd.pF rfl | exact Rd.pP rfl) ?_
          refine zN ?_; refine zT ?_
          refine ⟨(Keep.upd (Keep.upd (Keep.upd (Keep.upd (Keep.upd (Keep.upd (Keep.upd (Keep.upd (Keep.upd (Keep.refl _ _) rfl) rfl) rfl) rfl) rfl) rfl) rfl) rfl) rfl), (), _, (by (repeat (first | exact trivial | refine ⟨rfl, ?_⟩ | refine ⟨Eq.trans rfl (congrArg Value.bool hmat.symm), ?_⟩)); (first | done | fail)), ?_, ⟨rfl, rfl⟩⟩
          · exact zE
    rintro - δ5 _ _ ⟨rfl, rfl⟩
    dsimp only [ovr, List.foldl]
    rw [show B4 = stForm op ex fx body.length els.length by rw [hform, hB4, hB3, hB2], hcells]
    refine XOA.wr0 rfl (WrA.cE (fail_a σ b _ _ (stForm op ex fx body.length els.length) 5 (by decide)) rfl) ?_
    rintro _ _ _ ⟨_, ⟨rfl, rfl, rfl⟩, rfl⟩
    refine XOA.cl ?_
    refine zN ?_; refine zT ?_; refine zS ?_; refine zR ?_; refine zO rfl Rd.mv ?_; refine zO rfl (Rd.fA rfl) ?_; refine zO rfl (Rd.ldC rfl (tyrow rfl) rfl) ?_; refine zO rfl Rd.mv ?_
    refine XOA.wr0 rfl (WrA.cE (named_a σ b p n c _ v (needV op)) rfl) ?_
    rintro _ _ _ ⟨_, ⟨rfl, rfl, rfl⟩, rfl⟩
    refine XOA.cl ?_
    obtain ⟨H, hH⟩ : ∃ H, H = stHead n deep op v ex fx body.length els.length e := ⟨_, rfl⟩
    have hHi : H.in_ := by rw [hH]; exact in_of (Down.stHead n op v ex fx body.length els.length) hin deep
    rw [show JE.named (JE.fail E2 (stForm op ex fx body.length els.length) 5) n v (needV op) = H by rw [hH, stHead, hE2]]
    have hpost : stE n deep (.mk op v ex fx body els) e = stsE n (deep + 1) els (stsE n (deep + 1) body (stEF n (deep + 1) op ex fx H)) := by rw [stE, hH]
    rw [hpost]
    clear hpost hform hB4 hB3 hB2 hA1 hA2 hA3 hA4 hne hnf hH hE2
    rw [← hcells]
    obtain ⟨H1, hH1⟩ : ∃ H1, H1 = if needE op then exE n (deep + 1) ex H else H := ⟨_, rfl⟩
    have hH1i : H1.in_ := by
      rw [hH1]; split
      · exact in_of (Down.exE n ex) hHi (deep + 1)
      · exact hHi
    obtain ⟨H2, hH2⟩ : ∃ H2, H2 = stEF n (deep + 1) op ex fx H := ⟨_, rfl⟩
    have hH2i : H2.in_ := by rw [hH2]; exact in_of (Down.stEF n op ex fx) hHi (deep + 1)
    have hH1' := hH1
    have hH2' : H2 = if needF op then exE n (deep + 1) fx H1 else H1 := by rw [hH2, hH1]; rfl
    rw [← hH2]
    refine zN ?_; refine zT ?_; refine zS ?_; refine zS ?_; refine zR ?_
    refine XOA.join (List.take_append_drop 8 _).symm [(79, 86)] (fun _ : Unit => [(86, .bool (needE op && H.isOk))]) (fun _ σ' Γ' => σ = σ' ∧ Γ' = [Judge b (.slice p n c) H, blk g4 cells 46]) ?_ ?_
    · 
      cases hn : needE op with
      | false =>
        rw [Bool.false_and]
        refine zO rfl Rd.mv ?_; refine zO rfl Rd.mv ?_
        first | ((first | refine zW ?_ | refine zQ ?_); refine zO rfl Rd.mv ?_) | refine zU ?_ | refine zV ?_ | refine zZ ?_
        first | ((first | refine zW ?_ | refine zQ ?_); refine zO rfl (Rd.nilCheck rfl) ?_) | refine zU ?_ | refine zV ?_ | refine zZ ?_
        first | ((first | refine zW ?_ | refine zQ ?_); refine zO rfl (Rd.fA rfl) ?_) | refine zU ?_ | refine zV ?_ | refine zZ ?_
        first | ((first | refine zW ?_ | refine zQ ?_); refine zO rfl (Rd.ldC rfl (tyrow rfl) rfl) ?_) | refine zU ?_ | refine zV ?_ | refine zZ ?_
        first | ((first | refine zW ?_ | refine zQ ?_); refine zO rfl (Rd.eql rfl rfl) ?_) | refine zU ?_ | refine zV ?_ | refine zZ ?_
        refine zO rfl (by first | exact Rd.pT rfl | exact Rd.pF rfl | exact Rd.pP rfl) ?_
        refine zN ?_; refine zT ?_
        refine ⟨(Keep.upd (Keep.upd (Keep.upd (Keep.upd (Keep.upd (Keep.upd (Keep.upd (Keep.upd (Keep.refl _ _) rfl) rfl) rfl) rfl) rfl) rfl) rfl) rfl), (), _, (by (repeat (first | exact trivial | refine ⟨rfl, ?_⟩ | refine ⟨Eq.trans rfl (congrArg Value.bool hmat.symm), ?_⟩)); (first | done | fail)), ?_, ⟨rfl, rfl⟩⟩
        · exact zE
      | true =>
        rw [Bool.true_and]
        refine zO rfl Rd.mv ?_; refine zO rfl Rd.mv ?_
        first | ((first | refine zW ?_ | refine zQ ?_); refine zO rfl Rd.mv ?_) | refine zU ?_ | refine zV ?_ | refine zZ ?_
        first | refine XA.opn (R := Judge b (.slice p n c) H) (by ((repeat (first | with_reducible exact Sel.head | apply Sel.tail)); (first | done | fail))) (Judge.anyD) ?_ | refine XOA.opn (R := Judge b (.slice p n c) H) (by ((repeat (first | with_reducible exact Sel.head | apply Sel.tail)); (first | done | fail))) (Judge.anyD) ?_ | refine DA.opn (R := Judge b (.slice p n c) H) (by ((repeat (first | with_reducible exact Sel.head | apply Sel.tail)); (first | done | fail))) (Judge.anyD) ?_
        rintro ⟨l, cc⟩ ⟨hdec, hf⟩
        first | refine XA.cl ?_ | refine XOA.cl ?_ | refine DA.cl ?_
        rw [← hdec]
        first | ((first | refine zW ?_ | refine zQ ?_); refine zO rfl (Rd.nilCheck rfl) ?_) | refine zU ?_ | refine zV ?_ | refine zZ ?_
        first | ((first | refine zW ?_ | refine zQ ?_); refine zO rfl (Rd.fA rfl) ?_) | refine zU ?_ | refine zV ?_ | refine zZ ?_
        first | ((first | refine zW ?_ | refine zQ ?_); refine zO rfl (Rd.ldC rfl (tyrow rfl) rfl) ?_) | refine zU ?_ | refine zV ?_ | refine zZ ?_
        first | ((first | refine zW ?_ | refine zQ ?_); refine zO rfl (Rd.eql rfl rfl) ?_) | refine zU ?_ | refine zV ?_ | refine zZ ?_
        refine zO rfl (by first | exact Rd.pT rfl | exact Rd.pF rfl | exact Rd.pP rfl) ?_
        refine zN ?_; refine zT ?_
        refine ⟨(Keep.upd (Keep.upd (Keep.upd (Keep.upd (Keep.upd (Keep.upd (Keep.upd (Keep.upd (Keep.refl _ _) rfl) rfl) rfl) rfl) rfl) rfl) rfl) rfl), (), _, (by (repeat (first | exact trivial | refine ⟨rfl, ?_⟩ | refine ⟨Eq.trans rfl (congrArg Value.bool hmat.symm), ?_⟩)); (first | done | fail)), ?_, ⟨rfl, rfl⟩⟩
        · exact Ent.foldC (Θ := [_]) (by (repeat (first | exact Ent.all _ | (apply Ent.take; focus (first | ((repeat (first | with_reducible exact Sel.head | apply Sel.tail)); done) | ((repeat (first | exact Sel.head | apply Sel.tail)); done))) | apply Ent.takeNil | apply Ent.takeEmp)); (first | done | fail)) hf zE
    rintro - δ6 _ _ ⟨rfl, rfl⟩
    dsimp only [ovr, List.foldl]
    refine zN ?_; refine zT ?_
    refine XA.join [(87, 92)] (fun _ : Unit => []) (fun _ σ' Γ' => σ = σ' ∧ Γ' = [Judge b (.slice p n c) H1, blk g4 cells 46]) ?_ ?_
    · 
      refine XA.cond rfl (fun hq => ?_) (fun hq => ?_)
      · have hq1 : needE op = true ∧ H.isOk = true := by simpa using hq
        rw [hcells]
        refine zR ?_; refine zO rfl Rd.mv ?_; refine zO rfl (Rd.fA rfl) ?_; refine zO rfl (Rd.ldA rfl) ?_; refine zO rfl Rd.mv ?_
        refine zO rfl (by first | exact Rd.adi rfl rfl | exact Rd.add rfl rfl) ?_
        refine XOA.wr0 rfl (WrA.cE (expr_a σ ex _ b p n c H (deep + 1) hxe hHi (by omega) (by omega)) rfl) ?_
        rintro _ _ _ ⟨_, ⟨rfl, rfl, rfl⟩, rfl⟩
        refine XOA.cl ?_
        refine zN ?_; refine zT ?_
        rw [show H1 = exE n (deep + 1) ex H by rw [hH1', if_pos hq1.1]]
        refine ⟨(Keep.updO (Keep.upd (Keep.upd (Keep.upd (Keep.upd (Keep.upd (Keep.refl _ _) rfl) rfl) rfl) rfl) rfl) rfl), (), _, (by (repeat (first | exact trivial | refine ⟨rfl, ?_⟩ | refine ⟨Eq.trans rfl (congrArg Value.bool hmat.symm), ?_⟩)); (first | done | fail)), ?_, ⟨rfl, rfl⟩⟩
        · exact zE
      · have e1 : H1 = H := by
          rw [hH1']
          split
          · rename_i hn
            rw [hn, Bool.true_and] at hq
            obtain ⟨c', hc'⟩ := isOk_false hq
            rw [hc', exE_err]
          · rfl
        rw [e1]
        refine XA.skip ?_
        refine zT ?_
        refine ⟨(Keep.refl _ _), (), _, (by (repeat (first | exact trivial | refine ⟨rfl, ?_⟩ | refine ⟨Eq.trans rfl (congrArg Value.bool hmat.symm), ?_⟩)); (first | done | fail)), ?_, ⟨rfl, rfl⟩⟩
        · exact zE
    rintro - δ6' _ _ ⟨rfl, rfl⟩
    dsimp only [ovr, List.foldl]
    refine zT ?_; refine zS ?_; refine zS ?_; refine zR ?_
    refine XOA.join (List.take_append_drop 8 _).symm [(93, 100)] (fun _ : Unit => [(100, .bool (needF op && H1.isOk))]) (fun _ σ' Γ' => σ = σ' ∧ Γ' = [Judge b (.slice p n c) H1, blk g4 cells 46]) ?_ ?_
    · 
      cases hn : needF op with
      | false =>
        rw [Bool.false_and]
        refine zO rfl Rd.mv ?_; refine zO rfl Rd.mv ?_
        first | ((first | refine zW ?_ | refine zQ ?_); refine zO rfl Rd.mv ?_) | refine zU ?_ | refine zV ?_ | refine zZ ?_
        first | ((first | refine zW ?_ | refine zQ ?_); refine zO rfl (Rd.nilCheck rfl) ?_) | refine zU ?_ | refine zV ?_ | refine zZ ?_
        first | ((first | refine zW ?_ | refine zQ ?_); refine zO rfl (Rd.fA rfl) ?_) | refine zU ?_ | refine zV ?_ | refine zZ ?_
        first | ((first | refine zW ?_ | refine zQ ?_); refine zO rfl (Rd.ldC rfl (tyrow rfl) rfl) ?_) | refine zU ?_ | refine zV ?_ | refine zZ ?_
        first | ((first | refine zW ?_ | refine zQ ?_); refine zO rfl (Rd.eql rfl rfl) ?_) | refine zU ?_ | refine zV ?_ | refine zZ ?_
        refine zO rfl (by first | exact Rd.pT rfl | exact Rd.pF rfl | exact Rd.pP rfl) ?_
        refine zN ?_; refine zT ?_
        refine ⟨(Keep.upd (Keep.upd (Keep.upd (Keep.upd (Keep.upd (Keep.upd (Keep.upd (Keep.upd (Keep.refl _ _) rfl) rfl) rfl) rfl) rfl) rfl) rfl) rfl), (), _, (by (repeat (first | exact trivial | refine ⟨rfl, ?_⟩ | refine ⟨Eq.trans rfl (congrArg Value.bool hmat.symm), ?_⟩)); (first | done | fail)), ?_, ⟨rfl, rfl⟩⟩
        · exact zE
      | true =>
        rw [Bool.true_and]
        refine zO rfl Rd.mv ?_; refine zO rfl Rd.mv ?_
        first | ((first | refine zW ?_ | refine zQ ?_); refine zO rfl Rd.mv ?_) | refine zU ?_ | refine zV ?_ | refine zZ ?_
        first | refine XA.opn (R := Judge b (.slice p n c) H1) (by ((repeat (first | with_reducible exact Sel.head | apply Sel.tail)); (first | done | fail))) (Judge.anyD) ?_ | refine XOA.opn (R := Judge b (.slice p n c) H1) (by ((repeat (first | with_reducible exact Sel.head | apply Sel.tail)); (first | done | fail))) (Judge.anyD) ?_ | refine DA.opn (R := Judge b (.slice p n c) H1) (by ((repeat (first | with_reducible exact Sel.head | apply Sel.tail)); (first | done | fail))) (Judge.anyD) ?_
        rintro ⟨l, cc⟩ ⟨hdec, hf⟩
        first | refine XA.cl ?_ | refine XOA.cl ?_ | refine DA.cl ?_
        rw [← hdec]
        first | ((first | refine zW ?_ | refine zQ ?_); refine zO rfl (Rd.nilCheck rfl) ?_) | refine zU ?_ | refine zV ?_ | refine zZ ?_
        first | ((first | refine zW ?_ | refine zQ ?_); refine zO rfl (Rd.fA rfl) ?_) | refine zU ?_ | refine zV ?_ | refine zZ ?_
        first | ((first | refine zW ?_ | refine zQ ?_); refine zO rfl (Rd.ldC rfl (tyrow rfl) rfl) ?_) | refine zU ?_ | refine zV ?_ | refine zZ ?_
        first | ((first | refine zW ?_ | refine zQ ?_); refine zO rfl (Rd.eql rfl rfl) ?_) | refine zU ?_ | refine zV ?_ | refine zZ ?_
        refine zO rfl (by first | exact Rd.pT rfl | exact Rd.pF rfl | exact Rd.pP rfl) ?_
        refine zN ?_; refine zT ?_
        refine ⟨(Keep.upd (Keep.upd (Keep.upd (Keep.upd (Keep.upd (Keep.upd (Keep.upd (Keep.upd (Keep.refl _ _) rfl) rfl) rfl) rfl) rfl) rfl) rfl) rfl), (), _, (by (repeat (first | exact trivial | refine ⟨rfl, ?_⟩ | refine ⟨Eq.trans rfl (congrArg Value.bool hmat.symm), ?_⟩)); (first | done | fail)), ?_, ⟨rfl, rfl⟩⟩
        · exact Ent.foldC (Θ := [_]) (by (repeat (first | exact Ent.all _ | (apply Ent.take; focus (first | ((repeat (first | with_reducible exact Sel.head | apply Sel.tail)); done) | ((repeat (first | exact Sel.head | apply Sel.tail)); done))) | apply Ent.takeNil | apply Ent.takeEmp)); (first | done | fail)) hf zE
    rintro - δ7 _ _ ⟨rfl, rfl⟩
    dsimp only [ovr, List.foldl]
    refine zN ?_; refine zT ?_
    refine XA.join [(101, 106)] (fun _ : Unit => []) (fun _ σ' Γ' => σ = σ' ∧ Γ' = [Judge b (.slice p n c) H2, blk g4 cells 46]) ?_ ?_
    · 
      refine XA.cond rfl (fun hq => ?_) (fun hq => ?_)
      · have hq1 : needF op = true ∧ H1.isOk = true := by simpa using hq
        rw [hcells]
        refine zR ?_; refine zO rfl Rd.mv ?_; refine zO rfl (Rd.fA rfl) ?_; refine zO rfl (Rd.ldA rfl) ?_; refine zO rfl Rd.mv ?_
        refine zO rfl (by first | exact Rd.adi rfl rfl | exact Rd.add rfl rfl) ?_
        refine XOA.wr0 rfl (WrA.cE (expr_a σ fx _ b p n c H1 (deep + 1) hxf hH1i (by omega) (by omega)) rfl) ?_
        rintro _ _ _ ⟨_, ⟨rfl, rfl, rfl⟩, rfl⟩
        refine XOA.cl ?_
        refine zN ?_; refine zT ?_
        rw [show H2 = exE n (deep + 1) fx H1 by rw [hH2', if_pos hq1.1]]
        refine ⟨(Keep.updO (Keep.upd (Keep.upd (Keep.upd (Keep.upd (Keep.upd (Keep.refl _ _) rfl) rfl) rfl) rfl) rfl) rfl), (), _, (by (repeat (first | exact trivial | refine ⟨rfl, ?_⟩ | refine ⟨Eq.trans rfl (congrArg Value.bool hmat.symm), ?_⟩)); (first | done | fail)), ?_, ⟨rfl, rfl⟩⟩
        · exact zE
      · have e1 : H2 = H1 := by
          rw [hH2']
          split
          · rename_i hn
            rw [hn, Bool.true_and] at hq
            obtain ⟨c', hc'⟩ := isOk_false hq
            rw [hc', exE_err]
          · rfl
        rw [e1]
        refine XA.skip ?_
        refine zT ?_
        refine ⟨(Keep.refl _ _), (), _, (by (repeat (first | exact trivial | refine ⟨rfl, ?_⟩ | refine ⟨Eq.trans rfl (congrArg Value.bool hmat.symm), ?_⟩)); (first | done | fail)), ?_, ⟨rfl, rfl⟩⟩
        · exact zE
    rintro - δ7' _ _ ⟨rfl, rfl⟩
    dsimp only [ovr, List.foldl]
    refine zT ?_
    rw [hcells]
    refine zS ?_; refine zR ?_; refine zO rfl Rd.mv ?_; refine zO rfl (Rd.fA rfl) ?_; refine zO rfl (Rd.ldC rfl (tyrow rfl) rfl) ?_; refine zO rfl Rd.mv ?_
    refine zO rfl (by first | exact Rd.adi rfl rfl | exact Rd.add rfl rfl) ?_
    refine XOA.wr0 rfl (WrA.cE (list_a σ body ih _ b p n c H2 (deep + 1) hxb hH2i (by omega) (by omega)) rfl) ?_
    rintro _ _ _ ⟨_, ⟨rfl, rfl, rfl⟩, rfl⟩
    refine XOA.cl ?_
    refine zN ?_; refine zT ?_; refine zR ?_; refine zO rfl Rd.mv ?_; refine zO rfl (Rd.fA rfl) ?_; refine zO rfl (Rd.ldC rfl (tyrow rfl) rfl) ?_; refine zO rfl Rd.mv ?_
    refine zO rfl (by first | exact Rd.adi rfl rfl | exact Rd.add rfl rfl) ?_
    refine XOA.wr0 rfl (WrA.cE (list_a σ els jh _ b p n c _ (deep + 1) hxl (in_of (Down.stsE n body) hH2i (deep + 1)) (by omega) (by omega)) rfl) ?_
    rintro _ _ _ ⟨_, ⟨rfl, rfl, rfl⟩, rfl⟩
    refine XOA.cl ?_
    refine zN ?_
    exact bodyA.normal (ResA.none rfl) zE ⟨rfl, rfl, rfl⟩
end Go.Proofs.Ytbbghdkndbpmmaa

namespace Go.Proofs.Ytbbghdkndbpmmaa
open Go X
set_option maxHeartbeats 1000000
theorem exsN_snoc {l : List Ex} {k : Nat} {x : Ex} (h : l[k]? = some x) : exsN (l.take (k + 1)) = exsN (l.take k) + exN x := by
  rw [List.take_add_one, h]; simp [exsN_app, exsN]
theorem stsN_snoc {l : List St} {k : Nat} {x : St} (h : l[k]? = some x) : stsN (l.take (k + 1)) = stsN (l.take k) + stN x := by
  rw [List.take_add_one, h]; simp [stsN_app, stsN]
def ExPartsOK (σ : PH) (x : Ex) : Prop := ∀ (cs : List Value) (most : Int), ExAt σ cs x → -1000000 ≤ most → most ≤ 1000000 →
  CallsA Try.prog 59 #[.agg cs.toArray, i64 most] σ [] (RetA fun v σ' Γ' => ∃ r : Int, v = i64 r ∧ (1 ≤ r ∧ (r ≤ most + 1 ∨ r ≤ 1) ∧ (r ≤ most → r = exN x)) ∧ σ = σ' ∧ Γ' = [])
theorem exprParts_a (σ : PH) (x : Ex) : ExPartsOK σ x := by
  refine Ex.ind (P := ExPartsOK σ) ?_ x
  intro op v k l ih cs most hx hm0 hm1
  obtain ⟨pl, cl, rfl, -, -, -, hl⟩ := hx.inv
  simp only [Ex.op, Ex.v, Ex.n, Ex.l] at hl ⊢
  clear hx
  have hlen : l.length ≤ maxLen := by
    obtain ⟨q, d, e1, h1, h2⟩ := hl.shape
    omega
  simp only [maxLen] at hlen
  refine enterA2 Try.func59 rfl rfl rfl ?_
  refine zS ?_; refine zR ?_
  refine XOA.wr0 rfl WrA.bx ?_
  rintro _ _ _ ⟨g2, rfl, rfl, rfl⟩
  refine zO rfl Rd.asg ?_; refine zN ?_; refine zT ?_; refine zS ?_; refine zR ?_; refine zO rfl Rd.asg ?_; refine zN ?_; refine zT ?_; refine zS ?_; refine zS ?_; refine zR ?_; refine zO rfl Rd.asg ?_; refine zN ?_; refine zT ?_
  refine XA.block ?_
  refine XA.gen [(1, _), (2, _), (4, _), (5, _), (6, _)] ⟨(by with_reducible (conv => lhs; whnf)), (by with_reducible (conv => lhs; whnf)), (by with_reducible (conv => lhs; whnf)), (by with_reducible (conv => lhs; whnf)), (by with_reducible (conv => lhs; whnf)), trivial⟩ (fun δ => ?_)
  dsimp only [List.foldl]
  refine XA.loop [(5, 29)] (fun q : Nat × Int => [(6, i64 q.1), (5, i64 q.2)]) (fun q σ' Γ' => σ = σ' ∧ q.1 ≤ l.length ∧ (1 ≤ q.2 ∧ (q.2 ≤ most + 1 ∨ q.2 ≤ 1) ∧ (q.2 ≤ most → q.2 = 1 + exsN (l.take q.1))) ∧ Γ' = [blk g2 [i64 op, i64 v, i64 k, .slice pl l.length cl] 44]) (fun q => l.length - q.1) (0, 1) (by exact ⟨rfl, rfl, trivial⟩) (Δ0 := _) ?_ (⟨rfl, Nat.zero_le _, ⟨by simp only; omega, by simp only; omega, fun _ => by simp [exsN]⟩, rfl⟩) ?_
  · exact zE
  rintro ⟨i, n⟩ δ _ _ ⟨rfl, hi, ⟨hn0, hn1, hn2⟩, rfl⟩
  dsimp only [ovr, List.foldl]
  have hi : i ≤ l.length := hi
  have hn0 : 1 ≤ n := hn0
  have hn1 : n ≤ most + 1 ∨ n ≤ 1 := hn1
  have hn2 : n ≤ most → n = 1 + exsN (l.take i) := hn2
  by_cases h1 : i < l.length
  · by_cases h2 : n ≤ most
    · obtain ⟨x', hx'⟩ : ∃ x', l[i]? = some x' := ⟨_, List.getElem?_eq_getElem h1⟩
      obtain ⟨g, o, row, rfl, hrx, hrl, hrow⟩ := hl.at hx'
      have hone := hrx.ones
      have e1 := exsN_snoc hx'
      have h2n := hn2 h2
      refine zS ?_; refine zS ?_; refine zR ?_; refine zO rfl Rd.mv ?_; refine zO rfl (Rd.fA rfl) ?_; refine zO rfl (Rd.ldC rfl (tyrow rfl) rfl) ?_; refine zO rfl (Rd.lenSlice (tyrow rfl) rfl rfl) ?_; refine zO rfl (Rd.lss rfl rfl) ?_; refine zO rfl Rd.mv ?_
      first | ((first | refine zW ?_ | refine zQ ?_); refine zO rfl Rd.mv ?_) | refine zU ?_ | refine zV ?_ | refine zZ ?_
      first | ((first | refine zW ?_ | refine zQ ?_); refine zO rfl Rd.mv ?_) | refine zU ?_ | refine zV ?_ | refine zZ ?_
      first | ((first | refine zW ?_ | refine zQ ?_); refine zO rfl (Rd.leq rfl rfl) ?_) | refine zU ?_ | refine zV ?_ | refine zZ ?_
      refine zO rfl (by first | exact Rd.pT rfl | exact Rd.pF rfl | exact Rd.pP rfl) ?_
      refine zN ?_; refine zT ?_
      refine XA.condT rfl (by first | rfl | exact (by first | exact (rfl : decide _ = true) | exact (rfl : decide _ = false) | (refine decide_eq_true ?_; assumption) | (refine decide_eq_false ?_; assumption) | (refine decide_eq_true ?_; omega) | (refine decide_eq_false ?_; omega))) ?_
      refine XA.skip ?_
      refine zT ?_; refine zS ?_
      refine XA.block ?_
      refine zR ?_; refine zO rfl Rd.mv ?_; refine zO rfl (Rd.fA rfl) ?_; refine zO rfl (Rd.ldC rfl (tyrow rfl) rfl) ?_; refine zO rfl Rd.mv ?_
      refine zO rfl (Rd.ixS rfl rfl) ?_
      refine zO rfl (Rd.ldA rfl) ?_; refine zO rfl Rd.mv ?_; refine zO rfl Rd.mv ?_
      refine zO rfl (by first | exact Rd.sbi rfl rfl | exact Rd.sub rfl rfl) ?_
      refine XOA.wr0 rfl (WrA.cE (ih x' (List.mem_of_getElem? hx') row (most - n) hrx (by omega) (by omega)) rfl) ?_
      rintro _ _ _ ⟨_, ⟨r, rfl, ⟨hr0, hr1, hr2⟩, rfl, rfl⟩, rfl⟩
      refine XOA.cl ?_
      refine zO rfl (by first | exact Rd.adi rfl rfl | exact Rd.add rfl rfl) ?_
      refine zO rfl Rd.asg ?_; refine zN ?_
      refine DA.inb_normal ?_
      refine zT ?_; refine zR ?_; refine zO rfl Rd.mv ?_
      refine zO rfl (by first | exact Rd.adi rfl rfl | exact Rd.add rfl rfl) ?_
      refine zO rfl Rd.asg ?_; refine zN ?_; refine zT ?_
      refine ⟨(Keep.upd (Keep.upd (Keep.upd (Keep.upd (Keep.upd (Keep.updO (Keep.upd (Keep.upd (Keep.upd (Keep.upd (Keep.upd (Keep.upd (Keep.upd (Keep.upd (Keep.upd (Keep.upd (Keep.upd (Keep.upd (Keep.upd (Keep.upd (Keep.upd (Keep.upd (Keep.upd (Keep.upd (Keep.upd (Keep.upd (Keep.upd (Keep.hav (Keep.refl _ _) rfl) rfl) rfl) rfl) rfl) rfl) rfl) rfl) rfl) rfl) rfl) rfl) rfl) rfl) rfl) rfl) rfl) rfl) rfl) rfl) rfl) rfl) rfl) rfl) rfl) rfl) rfl) rfl), (i + 1, n + r), _, (by (repeat (first | exact trivial | refine ⟨rfl, ?_⟩ | refine ⟨Eq.trans rfl (congrArg Value.bool hmat.symm), ?_⟩)); (first | done | fail)), ?_, ⟨rfl, h1, ⟨by simp only; omega, by simp only; omega, fun h => by simp only at h ⊢; have := hr2 (by omega); rw [e1]; omega⟩, rfl⟩, (by simp only; omega)⟩
      · exact zE
    · 
      refine zS ?_; refine zS ?_; refine zR ?_; refine zO rfl Rd.mv ?_; refine zO rfl (Rd.fA rfl) ?_; refine zO rfl (Rd.ldC rfl (tyrow rfl) rfl) ?_; refine zO rfl (Rd.lenSlice (tyrow rfl) rfl rfl) ?_; refine zO rfl (Rd.lss rfl rfl) ?_; refine zO rfl Rd.mv ?_
      first | ((first | refine zW ?_ | refine zQ ?_); refine zO rfl Rd.mv ?_) | refine zU ?_ | refine zV ?_ | refine zZ ?_
      first | ((first | refine zW ?_ | refine zQ ?_); refine zO rfl Rd.mv ?_) | refine zU ?_ | refine zV ?_ | refine zZ ?_
      first | ((first | refine zW ?_ | refine zQ ?_); refine zO rfl (Rd.leq rfl rfl) ?_) | refine zU ?_ | refine zV ?_ | refine zZ ?_
      refine zO rfl (by first | exact Rd.pT rfl | exact Rd.pF rfl | exact Rd.pP rfl) ?_
      refine zN ?_; refine zT ?_
      refine XA.condF rfl (by first | rfl | exact (by first | exact (rfl : decide _ = true) | exact (rfl : decide _ = false) | (refine decide_eq_true ?_; assumption) | (refine decide_eq_false ?_; assumption) | (refine decide_eq_true ?_; omega) | (refine decide_eq_false ?_; omega))) ?_
      refine XA.exit ?_
      refine DA.thn_exit ?_
      refine DA.thn_exit ?_
      refine DA.inb_same ?_
      refine zT ?_; refine zS ?_; refine zR ?_; refine zO rfl Rd.mv ?_; refine zO rfl Rd.asg ?_; refine zN ?_; refine zT ?_
      refine XA.ret ?_
      refine bodyA.ret (ResA.one rfl rfl) (Ent.nil _) ⟨n, rfl, ⟨hn0, hn1, fun h => absurd h h2⟩, rfl, rfl⟩
  · 
    have hil : i = l.length := by omega
    subst hil
    rw [List.take_length] at hn2
    refine zS ?_; refine zS ?_; refine zR ?_; refine zO rfl Rd.mv ?_; refine zO rfl (Rd.fA rfl) ?_; refine zO rfl (Rd.ldC rfl (tyrow rfl) rfl) ?_; refine zO rfl (Rd.lenSlice (tyrow rfl) rfl rfl) ?_; refine zO rfl (Rd.lss rfl rfl) ?_; refine zO rfl Rd.mv ?_
    first | ((first | refine zW ?_ | refine zQ ?_); refine zO rfl Rd.mv ?_) | refine zU ?_ | refine zV ?_ | refine zZ ?_
    first | ((first | refine zW ?_ | refine zQ ?_); refine zO rfl Rd.mv ?_) | refine zU ?_ | refine zV ?_ | refine zZ ?_
    first | ((first | refine zW ?_ | refine zQ ?_); refine zO rfl (Rd.leq rfl rfl) ?_) | refine zU ?_ | refine zV ?_ | refine zZ ?_
    refine zO rfl (by first | exact Rd.pT rfl | exact Rd.pF rfl | exact Rd.pP rfl) ?_
    refine zN ?_; refine zT ?_
    refine XA.condF rfl (by first | rfl | exact (by first | exact (rfl : decide _ = true) | exact (rfl : decide _ = false) | (refine decide_eq_true ?_; assumption) | (refine decide_eq_false ?_; assumption) | (refine decide_eq_true ?_; omega) | (refine decide_eq_false ?_; omega))) ?_
    refine XA.exit ?_
    refine DA.thn_exit ?_
    refine DA.thn_exit ?_
    refine DA.inb_same ?_
    refine zT ?_; refine zS ?_; refine zR ?_; refine zO rfl Rd.mv ?_; refine zO rfl Rd.asg ?_; refine zN ?_; refine zT ?_
    refine XA.ret ?_
    refine bodyA.ret (ResA.one rfl rfl) (Ent.nil _) ⟨n, rfl, ⟨hn0, hn1, fun h => by rw [hn2 h, exN]; omega⟩, rfl, rfl⟩
def StPartsOK (σ : PH) (l : List St) : Prop := ∀ (sl : Value) (most : Int), PSl 12 StAt σ sl l → -1000000 ≤ most → most ≤ 1000000 →
  CallsA Try.prog 39 #[sl, i64 most] σ [] (RetA fun v σ' Γ' => ∃ r : Int, v = i64 r ∧ (0 ≤ r ∧ (r ≤ 2 * most + 3 ∨ r ≤ 0) ∧ (r ≤ most → r = stsN l)) ∧ σ = σ' ∧ Γ' = [])
theorem stmtParts_l (σ : PH) (l : List St) (ih : ∀ x ∈ l, StPartsOK σ x.body ∧ StPartsOK σ x.els) : StPartsOK σ l := by
  intro sl most hl hm0 hm1
  obtain ⟨pl, cl, rfl, hle, hmx⟩ := hl.shape
  have hlen : l.length ≤ maxLen := by omega
  simp only [maxLen] at hlen
  refine enterA2 Try.func39 rfl rfl rfl ?_
  refine zS ?_; refine zR ?_; refine zO rfl Rd.asg ?_; refine zN ?_; refine zT ?_; refine zS ?_; refine zR ?_; refine zO rfl Rd.asg ?_; refine zN ?_; refine zT ?_; refine zS ?_; refine zS ?_; refine zR ?_; refine zO rfl Rd.asg ?_; refine zN ?_; refine zT ?_
  refine XA.block ?_
  refine XA.gen [(0, _), (1, _), (4, _), (5, _), (6, _)] ⟨(by with_reducible (conv => lhs; whnf)), (by with_reducible (conv => lhs; whnf)), (by with_reducible (conv => lhs; whnf)), (by with_reducible (conv => lhs; whnf)), (by with_reducible (conv => lhs; whnf)), trivial⟩ (fun δ => ?_)
  dsimp only [List.foldl]
  refine XA.loop [(5, 67)] (fun q : Nat × Int => [(6, i64 q.1), (5, i64 q.2)]) (fun q σ' Γ' => σ = σ' ∧ q.1 ≤ l.length ∧ (0 ≤ q.2 ∧ (q.2 ≤ 2 * most + 3 ∨ q.2 ≤ 0) ∧ (q.2 ≤ most → q.2 = stsN (l.take q.1))) ∧ Γ' = []) (fun q => l.length - q.1) (0, 0) (by exact ⟨rfl, rfl, trivial⟩) (Δ0 := _) ?_ (⟨rfl, Nat.zero_le _, ⟨by simp only; omega, by simp only; omega, fun _ => by simp [stsN]⟩, rfl⟩) ?_
  · exact zE
  rintro ⟨i, n⟩ δ _ _ ⟨rfl, hi, ⟨hn0, hn1, hn2⟩, rfl⟩
  dsimp only [ovr, List.foldl]
  have hi : i ≤ l.length := hi
  have hn0 : 0 ≤ n := hn0
  have hn1 : n ≤ 2 * most + 3 ∨ n ≤ 0 := hn1
  have hn2 : n ≤ most → n = stsN (l.take i) := hn2
  by_cases h1 : i < l.length
  · by_cases h2 : n ≤ most
    · obtain ⟨x', hx'⟩ : ∃ x', l[i]? = some x' := ⟨_, List.getElem?_eq_getElem h1⟩
      obtain ⟨g, o, row, rfl, hrx, hrl, hrow⟩ := hl.at hx'
      have hone := hrx.ones
      have e1 := stsN_snoc hx'
      have h2n := hn2 h2
      obtain ⟨ihb, ihe⟩ := ih x' (List.mem_of_getElem? hx')
      obtain ⟨pe, de, pf, df, pb, cb, pe', ce, rfl, -, -, hxe, hxf, hxb, hxl⟩ := hrx.inv12
      have r2 : PRow σ g (o + i * 12 + 2) [i64 x'.e.op, i64 x'.e.v, i64 x'.e.n, .slice pe x'.e.l.length de] := hrow.sub (j := 2) rfl
      have r6 : PRow σ g (o + i * 12 + 6) [i64 x'.f.op, i64 x'.f.v, i64 x'.f.n, .slice pf x'.f.l.length df] := hrow.sub (j := 6) rfl
      have r10 : PRow σ g (o + i * 12 + 10) [.slice pb x'.body.length cb] := hrow.sub (j := 10) rfl
      have r11 : PRow σ g (o + i * 12 + 11) [.slice pe' x'.els.length ce] := hrow.sub (j := 11) rfl
      have e2 : stN x' = 1 + exN x'.e + exN x'.f + stsN x'.body + stsN x'.els := by cases x'; simp [stN, St.e, St.f, St.body, St.els]
      refine zS ?_; refine zS ?_; refine zR ?_; refine zO rfl Rd.mv ?_; refine zO rfl Rd.mv ?_; refine zO rfl (Rd.lenSlice (tyrow rfl) rfl rfl) ?_; refine zO rfl (Rd.lss rfl rfl) ?_; refine zO rfl Rd.mv ?_
      first | ((first | refine zW ?_ | refine zQ ?_); refine zO rfl Rd.mv ?_) | refine zU ?_ | refine zV ?_ | refine zZ ?_
      first | ((first | refine zW ?_ | refine zQ ?_); refine zO rfl Rd.mv ?_) | refine zU ?_ | refine zV ?_ | refine zZ ?_
      first | ((first | refine zW ?_ | refine zQ ?_); refine zO rfl (Rd.leq rfl rfl) ?_) | refine zU ?_ | refine zV ?_ | refine zZ ?_
      refine zO rfl (by first | exact Rd.pT rfl | exact Rd.pF rfl | exact Rd.pP rfl) ?_
      refine zN ?_; refine zT ?_
      refine XA.condT rfl (by first | rfl | exact (by first | exact (rfl : decide _ = true) | exact (rfl : decide _ = false) | (refine decide_eq_true ?_; assumption) | (refine decide_eq_false ?_; assumption) | (refine decide_eq_true ?_; omega) | (refine decide_eq_false ?_; omega))) ?_
      refine XA.skip ?_
      refine zT ?_; refine zS ?_
      refine XA.block ?_
      refine zS ?_
      refine XA.draw (by kernel_rfl) _ _ [19] [(0, .pu), (1, .pu), (2, .pu), (3, .pu), (4, .pu), (5, .rd), (6, .pu), (7, .pu), (8, .pu), (11, .pu), (12, .pu), (13, .pu), (14, .pu), (15, .rd), (16, .pu), (17, .pu), (18, .pu), (9, .wr), (10, .pu), (19, .wr), (20, .pu), (21, .pu), (22, .pu)] (by kernel_rfl) (PH.sub.refl _) (Ent.nil _) ?_
      refine XPA.pu rfl rfl Gd.free Rd.mv ?_
      refine XPA.pu rfl rfl Gd.free Rd.mv ?_
      refine XPA.pu rfl rfl Gd.free Rd.mv ?_
      refine XPA.pu rfl rfl Gd.free (Rd.ixS rfl rfl) ?_
      refine XPA.pu rfl rfl Gd.free (Rd.fA rfl) ?_
      refine XPA.rd rfl rfl Gd.free (Rd.ldA rfl) ?_
      refine XPA.pu rfl rfl Gd.free Rd.mv ?_
      refine XPA.pu rfl rfl Gd.free Rd.mv ?_
      refine XPA.pu rfl rfl Gd.free (by first | exact Rd.sbi rfl rfl | exact Rd.sub rfl rfl) ?_
      refine XPA.pu rfl rfl Gd.free Rd.mv ?_
      refine XPA.pu rfl rfl Gd.free Rd.mv ?_
      refine XPA.pu rfl rfl Gd.free (Rd.ixS rfl rfl) ?_
      refine XPA.pu rfl rfl Gd.free (Rd.fA rfl) ?_
      refine XPA.rd rfl rfl Gd.free (Rd.ldA rfl) ?_
      refine XPA.pu rfl rfl Gd.free Rd.mv ?_
      refine XPA.pu rfl rfl Gd.free Rd.mv ?_
      refine XPA.pu rfl rfl Gd.free (by first | exact Rd.sbi rfl rfl | exact Rd.sub rfl rfl) ?_
      refine XPA.wr0 rfl rfl Gd.free (WrA.cE (exprParts_a σ x'.e _ (most - n) hxe (by omega) (by omega)) rfl) ?_
      rintro _ _ _ ⟨_, ⟨a, rfl, ⟨ha0, ha1, ha2⟩, rfl, rfl⟩, rfl⟩
      refine stays (XPA.cl ?_)
      refine XPA.pu rfl rfl Gd.free (by first | exact Rd.adi rfl rfl | exact Rd.add rfl rfl) ?_
      refine XPA.wrZ0 rfl rfl Gd.free (by kernel_rfl) (WrA.cE (exprParts_a σ x'.f _ (most - n) hxf (by omega) (by omega)) rfl) ?_
      rintro _ _ _ ⟨_, ⟨b, rfl, ⟨hb0, hb1, hb2⟩, rfl, rfl⟩, rfl⟩
      refine XPA.cl ?_
      refine XPA.pu rfl rfl Gd.free (by first | exact Rd.adi rfl rfl | exact Rd.add rfl rfl) ?_
      refine XPA.pu rfl rfl Gd.free (by first | exact Rd.adi rfl rfl | exact Rd.add rfl rfl) ?_
      refine XPA.pu rfl rfl Gd.free Rd.asg ?_
      refine XPA.nil ?_
      refine zT ?_; refine zS ?_; refine zS ?_; refine zR ?_; refine zO rfl Rd.mv ?_; refine zO rfl Rd.mv ?_
      refine zO rfl (Rd.leq rfl rfl) ?_
      refine zN ?_; refine zT ?_
      refine XA.join [(5, 5), (43, 53)] (fun q : Int => [(5, i64 q)]) (fun q σ' Γ' => σ = σ' ∧ (0 ≤ q ∧ (q ≤ 2 * most + 3 ∨ q ≤ 0) ∧ (q ≤ most → q = stsN (l.take i) + 1 + exN x'.e + exN x'.f + stsN x'.body)) ∧ Γ' = []) ?_ ?_
      · 
        refine XA.condp rfl (fun h3 => ?_) (fun h3 => ?_)
        · refine zR ?_
          refine zO rfl Rd.mv ?_; refine zO rfl Rd.mv ?_; refine zO rfl Rd.mv ?_
          refine zO rfl (Rd.ixS rfl rfl) ?_
          refine zO rfl (Rd.fA rfl) ?_; refine zO rfl (Rd.ldC rfl (tyrow rfl) rfl) ?_; refine zO rfl Rd.mv ?_; refine zO rfl Rd.mv ?_
          refine zO rfl (by first | exact Rd.sbi rfl rfl | exact Rd.sub rfl rfl) ?_
          refine XOA.wr0 rfl (WrA.cE (ihb _ (most - (n + (1 + a + b))) hxb (by omega) (by omega)) rfl) ?_
          rintro _ _ _ ⟨_, ⟨c, rfl, ⟨hc0, hc1, hc2⟩, rfl, rfl⟩, rfl⟩
          refine XOA.cl ?_
          refine zO rfl (by first | exact Rd.adi rfl rfl | exact Rd.add rfl rfl) ?_
          refine zO rfl Rd.asg ?_; refine zN ?_; refine zT ?_
          have k1 := ha2 (by omega)
          have k2 := hb2 (by omega)
          refine ⟨(Keep.upd (Keep.upd (Keep.updO (Keep.upd (Keep.upd (Keep.upd (Keep.upd (Keep.upd (Keep.upd (Keep.upd (Keep.upd (Keep.upd (Keep.refl _ _) rfl) rfl) rfl) rfl) rfl) rfl) rfl) rfl) rfl) rfl) rfl) rfl), n + (1 + a + b) + c, _, (by (repeat (first | exact trivial | refine ⟨rfl, ?_⟩ | refine ⟨Eq.trans rfl (congrArg Value.bool hmat.symm), ?_⟩)); (first | done | fail)), ?_, ⟨rfl, ⟨by omega, by omega, fun h => by have := hc2 (by omega); omega⟩, rfl⟩⟩
          · exact zE
        · refine XA.skip ?_
          refine zT ?_
          refine ⟨(Keep.refl _ _), n + (1 + a + b), _, (by (repeat (first | exact trivial | refine ⟨rfl, ?_⟩ | refine ⟨Eq.trans rfl (congrArg Value.bool hmat.symm), ?_⟩)); (first | done | fail)), ?_, ⟨rfl, ⟨by omega, by omega, fun h => absurd h h3⟩, rfl⟩⟩
          · exact zE
      rintro q δ2 _ _ ⟨rfl, ⟨hq0, hq1, hq2⟩, rfl⟩
      dsimp only [ovr, List.foldl]
      refine zT ?_; refine zS ?_; refine zR ?_; refine zO rfl Rd.mv ?_; refine zO rfl Rd.mv ?_
      refine zO rfl (Rd.leq rfl rfl) ?_
      refine zN ?_; refine zT ?_
      refine XA.join [(5, 5), (57, 67)] (fun q : Int => [(5, i64 q)]) (fun q σ' Γ' => σ = σ' ∧ (0 ≤ q ∧ (q ≤ 2 * most + 3 ∨ q ≤ 0) ∧ (q ≤ most → q = stsN (l.take i) + 1 + exN x'.e + exN x'.f + stsN x'.body + stsN x'.els)) ∧ Γ' = []) ?_ ?_
      · 
        refine XA.condp rfl (fun h3 => ?_) (fun h3 => ?_)
        · have hq3 := hq2 h3
          refine zR ?_; refine zO rfl Rd.mv ?_; refine zO rfl Rd.mv ?_; refine zO rfl Rd.mv ?_
          refine zO rfl (Rd.ixS rfl rfl) ?_
          refine zO rfl (Rd.fA rfl) ?_; refine zO rfl (Rd.ldC rfl (tyrow rfl) rfl) ?_; refine zO rfl Rd.mv ?_; refine zO rfl Rd.mv ?_
          refine zO rfl (by first | exact Rd.sbi rfl rfl | exact Rd.sub rfl rfl) ?_
          refine XOA.wr0 rfl (WrA.cE (ihe _ (most - q) hxl (by omega) (by omega)) rfl) ?_
          rintro _ _ _ ⟨_, ⟨c, rfl, ⟨hc0, hc1, hc2⟩, rfl, rfl⟩, rfl⟩
          refine XOA.cl ?_
          refine zO rfl (by first | exact Rd.adi rfl rfl | exact Rd.add rfl rfl) ?_
          refine zO rfl Rd.asg ?_; refine zN ?_; refine zT ?_
          refine ⟨(Keep.upd (Keep.upd (Keep.updO (Keep.upd (Keep.upd (Keep.upd (Keep.upd (Keep.upd (Keep.upd (Keep.upd (Keep.upd (Keep.upd (Keep.refl _ _) rfl) rfl) rfl) rfl) rfl) rfl) rfl) rfl) rfl) rfl) rfl) rfl), q + c, _, (by (repeat (first | exact trivial | refine ⟨rfl, ?_⟩ | refine ⟨Eq.trans rfl (congrArg Value.bool hmat.symm), ?_⟩)); (first | done | fail)), ?_, ⟨rfl, ⟨by omega, by omega, fun h => by have := hc2 (by omega); omega⟩, rfl⟩⟩
          · exact zE
        · refine XA.skip ?_
          refine zT ?_
          refine ⟨(Keep.refl _ _), q, _, (by (repeat (first | exact trivial | refine ⟨rfl, ?_⟩ | refine ⟨Eq.trans rfl (congrArg Value.bool hmat.symm), ?_⟩)); (first | done | fail)), ?_, ⟨rfl, ⟨by omega, by omega, fun h => absurd h h3⟩, rfl⟩⟩
          · exact zE
      rintro q2 δ3 _ _ ⟨rfl, ⟨hs0, hs1, hs2⟩, rfl⟩
      dsimp only [ovr, List.foldl]
      refine DA.inb_normal ?_
      refine zT ?_; refine zR ?_; refine zO rfl Rd.mv ?_
      refine zO rfl (by first | exact Rd.adi rfl rfl | exact Rd.add rfl rfl) ?_
      refine zO rfl Rd.asg ?_; refine zN ?_; refine zT ?_
      refine ⟨(Keep.upd (Keep.upd (Keep.upd (Keep.upd (Keep.hav (Keep.hav (Keep.upd (Keep.upd (Keep.upd (Keep.upd (Keep.hav (Keep.hav (Keep.upd (Keep.upd (Keep.upd (Keep.upd (Keep.upd (Keep.upd (Keep.updO (Keep.upd (Keep.updO (Keep.upd (Keep.upd (Keep.upd (Keep.upd (Keep.upd (Keep.upd (Keep.upd (Keep.upd (Keep.upd (Keep.upd (Keep.upd (Keep.upd (Keep.upd (Keep.upd (Keep.upd (Keep.upd (Keep.upd (Keep.upd (Keep.upd (Keep.upd (Keep.upd (Keep.upd (Keep.upd (Keep.upd (Keep.upd (Keep.upd (Keep.upd (Keep.upd (Keep.hav (Keep.refl _ _) rfl) rfl) rfl) rfl) rfl) rfl) rfl) rfl) rfl) rfl) rfl) rfl) rfl) rfl) rfl) rfl) rfl) rfl) rfl) rfl) rfl) rfl) rfl) rfl) rfl) rfl) rfl) rfl) rfl) rfl) rfl) rfl) rfl) rfl) rfl) rfl) rfl) rfl) rfl) rfl) rfl) rfl) rfl) rfl) rfl) rfl) rfl) rfl) rfl) rfl), (i + 1, q2), _, (by (repeat (first | exact trivial | refine ⟨rfl, ?_⟩ | refine ⟨Eq.trans rfl (congrArg Value.bool hmat.symm), ?_⟩)); (first | done | fail)), ?_, ⟨rfl, h1, ⟨hs0, hs1, fun h => by simp only at h ⊢; rw [e1]; have := hs2 h; omega⟩, rfl⟩, (by simp only; omega)⟩
      · exact zE
    · 
      refine zS ?_; refine zS ?_; refine zR ?_; refine zO rfl Rd.mv ?_; refine zO rfl Rd.mv ?_; refine zO rfl (Rd.lenSlice (tyrow rfl) rfl rfl) ?_; refine zO rfl (Rd.lss rfl rfl) ?_; refine zO rfl Rd.mv ?_
      first | ((first | refine zW ?_ | refine zQ ?_); refine zO rfl Rd.mv ?_) | refine zU ?_ | refine zV ?_ | refine zZ ?_
      first | ((first | refine zW ?_ | refine zQ ?_); refine zO rfl Rd.mv ?_) | refine zU ?_ | refine zV ?_ | refine zZ ?_
      first | ((first | refine zW ?_ | refine zQ ?_); refine zO rfl (Rd.leq rfl rfl) ?_) | refine zU ?_ | refine zV ?_ | refine zZ ?_
      refine zO rfl (by first | exact Rd.pT rfl | exact Rd.pF rfl | exact Rd.pP rfl) ?_
      refine zN ?_; refine zT ?_
      refine XA.condF rfl (by first | rfl | exact (by first | exact (rfl : decide _ = true) | exact (rfl : decide _ = false) | (refine decide_eq_true ?_; assumption) | (refine decide_eq_false ?_; assumption) | (refine decide_eq_true ?_; omega) | (refine decide_eq_false ?_; omega))) ?_
      refine XA.exit ?_
      refine DA.thn_exit ?_
      refine DA.thn_exit ?_
      refine DA.inb_same ?_
      refine zT ?_; refine zS ?_; refine zR ?_; refine zO rfl Rd.mv ?_; refine zO rfl Rd.asg ?_; refine zN ?_; refine zT ?_
      refine XA.ret ?_
      refine bodyA.ret (ResA.one rfl rfl) (Ent.nil _) ⟨n, rfl, ⟨hn0, hn1, fun h => absurd h h2⟩, rfl, rfl⟩
  · 
    have hil : i = l.length := by omega
    subst hil
    rw [List.take_length] at hn2
    refine zS ?_; refine zS ?_; refine zR ?_; refine zO rfl Rd.mv ?_; refine zO rfl Rd.mv ?_; refine zO rfl (Rd.lenSlice (tyrow rfl) rfl rfl) ?_; refine zO rfl (Rd.lss rfl rfl) ?_; refine zO rfl Rd.mv ?_
    first | ((first | refine zW ?_ | refine zQ ?_); refine zO rfl Rd.mv ?_) | refine zU ?_ | refine zV ?_ | refine zZ ?_
    first | ((first | refine zW ?_ | refine zQ ?_); refine zO rfl Rd.mv ?_) | refine zU ?_ | refine zV ?_ | refine zZ ?_
    first | ((first | refine zW ?_ | refine zQ ?_); refine zO rfl (Rd.leq rfl rfl) ?_) | refine zU ?_ | refine zV ?_ | refine zZ ?_
    refine zO rfl (by first | exact Rd.pT rfl | exact Rd.pF rfl | exact Rd.pP rfl) ?_
    refine zN ?_; refine zT ?_
    refine XA.condF rfl (by first | rfl | exact (by first | exact (rfl : decide _ = true) | exact (rfl : decide _ = false) | (refine decide_eq_true ?_; assumption) | (refine decide_eq_false ?_; assumption) | (refine decide_eq_true ?_; omega) | (refine decide_eq_false ?_; omega))) ?_
    refine XA.exit ?_
    refine DA.thn_exit ?_
    refine DA.thn_exit ?_
    refine DA.inb_same ?_
    refine zT ?_; refine zS ?_; refine zR ?_; refine zO rfl Rd.mv ?_; refine zO rfl Rd.asg ?_; refine zN ?_; refine zT ?_
    refine XA.ret ?_
    refine bodyA.ret (ResA.one rfl rfl) (Ent.nil _) ⟨n, rfl, ⟨hn0, hn1, fun h => hn2 h⟩, rfl, rfl⟩
theorem stParts_x (σ : PH) (x : St) : StPartsOK σ x.body ∧ StPartsOK σ x.els := by
  refine St.ind (P := fun x => StPartsOK σ x.body ∧ StPartsOK σ x.els) ?_ x
  intro op v e f body els ih jh
  exact ⟨stmtParts_l σ body ih, stmtParts_l σ els jh⟩
theorem stmtParts_a (σ : PH) (l : List St) : StPartsOK σ l := stmtParts_l σ l (fun x _ => stParts_x σ x)
/-- A program that is not great. -/
def Small (p : Pr) : Prop := p.vars.length ≤ 30 ∧ (∀ x ∈ p.vars, x.name.size ≤ 100) ∧ stsN p.body ≤ 900
theorem great_a (σ : PH) (cs : List Value) (p : Pr) (hp : PrAt σ cs p) : CallsA Try.prog 14 #[.agg cs.toArray] σ [] (RetA fun v σ' Γ' => ∃ b : Bool, v = .bool b ∧ (b = false → Small p) ∧ σ = σ' ∧ Γ' = []) := by
  obtain ⟨vs, bs, rfl, hv, hb⟩ := hp
  obtain ⟨pv, cv, rfl, hvl, hvm⟩ := hv.shape
  have hlen : p.vars.length ≤ maxLen := by omega
  simp only [maxLen] at hlen
  refine enterA1 Try.func14 rfl rfl rfl ?_
  refine zS ?_; refine zR ?_
  refine XOA.wr0 rfl WrA.bx ?_
  rintro _ _ _ ⟨g1, rfl, rfl, rfl⟩
  refine zO rfl Rd.asg ?_; refine zN ?_; refine zT ?_; refine zS ?_; refine zS ?_; refine zR ?_; refine zO rfl Rd.asg ?_; refine zN ?_; refine zT ?_
  refine XA.block ?_
  refine XA.gen [(1, _), (2, _), (3, _)] ⟨(by with_reducible (conv => lhs; whnf)), (by with_reducible (conv => lhs; whnf)), (by with_reducible (conv => lhs; whnf)), trivial⟩ (fun δ => ?_)
  dsimp only [List.foldl]
  refine XA.loop [(2, 22)] (fun q : Nat => [(3, i64 q)]) (fun q σ' Γ' => σ = σ' ∧ q ≤ p.vars.length ∧ (∀ (j : Nat) x, j < q → p.vars[j]? = some x → x.name.size ≤ 100) ∧ Γ' = [blk g1 [.slice pv p.vars.length cv, bs] 25]) (fun q => p.vars.length - q) 0 (by exact ⟨rfl, trivial⟩) (Δ0 := _) ?_ (⟨rfl, Nat.zero_le _, fun j x h => absurd h (Nat.not_lt_zero _), rfl⟩) ?_
  · exact zE
  rintro i δ _ _ ⟨rfl, hi, hall, rfl⟩
  dsimp only [ovr, List.foldl]
  by_cases h1 : i < p.vars.length
  · by_cases h2 : i < 30
    · obtain ⟨x', hx'⟩ : ∃ x', p.vars[i]? = some x' := ⟨_, List.getElem?_eq_getElem h1⟩
      obtain ⟨g, o, row, rfl, ⟨rfl, hrx, hns⟩, hrl, hrow⟩ := hv.at hx'
      have r0 : PRow σ g (o + i * 2) [.string x'.name] := hrow.sub (j := 0) rfl
      refine zS ?_; refine zS ?_; refine zR ?_; refine zO rfl Rd.mv ?_; refine zO rfl (Rd.fA rfl) ?_; refine zO rfl (Rd.ldC rfl (tyrow rfl) rfl) ?_; refine zO rfl (Rd.lenSlice (tyrow rfl) rfl rfl) ?_; refine zO rfl (Rd.lss rfl rfl) ?_; refine zO rfl Rd.mv ?_
      first | ((first | refine zW ?_ | refine zQ ?_); refine zO rfl Rd.mv ?_) | refine zU ?_ | refine zV ?_ | refine zZ ?_
      first | ((first | refine zW ?_ | refine zQ ?_); refine zO rfl (Rd.lss rfl rfl) ?_) | refine zU ?_ | refine zV ?_ | refine zZ ?_
      refine zO rfl (by first | exact Rd.pT rfl | exact Rd.pF rfl | exact Rd.pP rfl) ?_
      refine zN ?_; refine zT ?_
      refine XA.condT rfl (by first | rfl | exact (by first | exact (rfl : decide _ = true) | exact (rfl : decide _ = false) | (refine decide_eq_true ?_; assumption) | (refine decide_eq_false ?_; assumption) | (refine decide_eq_true ?_; omega) | (refine decide_eq_false ?_; omega))) ?_
      refine XA.skip ?_
      refine zT ?_; refine zS ?_
      refine XA.block ?_
      refine zS ?_; refine zR ?_; refine zO rfl (Rd.fA rfl) ?_; refine zO rfl (Rd.ldC rfl (tyrow rfl) rfl) ?_; refine zO rfl Rd.mv ?_
      refine zO rfl (Rd.ixS rfl rfl) ?_
      refine zO rfl (Rd.fA rfl) ?_; refine zO rfl (Rd.ldC rfl (tyrow rfl) rfl) ?_
      refine zO rfl (Rd.lenString (tyrow rfl) rfl rfl) ?_
      refine zO rfl (Rd.gtr rfl rfl) ?_
      refine zN ?_; refine zT ?_
      refine XA.condp rfl (fun h3 => ?_) (fun h3 => ?_)
      · refine zS ?_
        refine zR ?_; refine zO rfl Rd.asg ?_; refine zN ?_; refine zT ?_
        refine XA.ret ?_
        refine DA.inb_ret ?_
        refine DA.thn_ret ?_
        refine DA.thn_ret ?_
        refine DA.inb_ret ?_
        refine DA.thn_ret ?_
        refine bodyA.ret (ResA.one rfl rfl) (Ent.nil _) ⟨true, rfl, fun h => (by cases h), rfl, rfl⟩
      have hnew : ∀ (j : Nat) x, j < i + 1 → p.vars[j]? = some x → x.name.size ≤ 100 := fun j x hj hx => by
        rcases Nat.lt_or_ge j i with h | h
        · exact hall j x h hx
        · have : j = i := by omega
          subst this
          rw [hx'] at hx; simp only [Option.some.injEq] at hx; subst hx
          omega
      refine XA.skip ?_
      refine DA.inb_normal ?_
      refine zT ?_; refine zR ?_; refine zO rfl Rd.mv ?_
      refine zO rfl (by first | exact Rd.adi rfl rfl | exact Rd.add rfl rfl) ?_
      refine zO rfl Rd.asg ?_; refine zN ?_; refine zT ?_
      refine ⟨(Keep.upd (Keep.upd (Keep.upd (Keep.upd (Keep.upd (Keep.upd (Keep.upd (Keep.upd (Keep.upd (Keep.upd (Keep.upd (Keep.upd (Keep.upd (Keep.upd (Keep.upd (Keep.upd (Keep.upd (Keep.upd (Keep.upd (Keep.upd (Keep.upd (Keep.hav (Keep.refl _ _) rfl) rfl) rfl) rfl) rfl) rfl) rfl) rfl) rfl) rfl) rfl) rfl) rfl) rfl) rfl) rfl) rfl) rfl) rfl) rfl) rfl) rfl), i + 1, _, (by (repeat (first | exact trivial | refine ⟨rfl, ?_⟩ | refine ⟨Eq.trans rfl (congrArg Value.bool hmat.symm), ?_⟩)); (first | done | fail)), ?_, ⟨rfl, h1, hnew, rfl⟩, (by omega)⟩
      · exact zE
    · 
      refine zS ?_; refine zS ?_; refine zR ?_; refine zO rfl Rd.mv ?_; refine zO rfl (Rd.fA rfl) ?_; refine zO rfl (Rd.ldC rfl (tyrow rfl) rfl) ?_; refine zO rfl (Rd.lenSlice (tyrow rfl) rfl rfl) ?_; refine zO rfl (Rd.lss rfl rfl) ?_; refine zO rfl Rd.mv ?_
      first | ((first | refine zW ?_ | refine zQ ?_); refine zO rfl Rd.mv ?_) | refine zU ?_ | refine zV ?_ | refine zZ ?_
      first | ((first | refine zW ?_ | refine zQ ?_); refine zO rfl (Rd.lss rfl rfl) ?_) | refine zU ?_ | refine zV ?_ | refine zZ ?_
      refine zO rfl (by first | exact Rd.pT rfl | exact Rd.pF rfl | exact Rd.pP rfl) ?_
      refine zN ?_; refine zT ?_
      refine XA.condF rfl (by first | rfl | exact (by first | exact (rfl : decide _ = true) | exact (rfl : decide _ = false) | (refine decide_eq_true ?_; assumption) | (refine decide_eq_false ?_; assumption) | (refine decide_eq_true ?_; omega) | (refine decide_eq_false ?_; omega))) ?_
      refine XA.exit ?_
      refine DA.thn_exit ?_
      refine DA.thn_exit ?_
      refine DA.inb_same ?_
      refine zT ?_; refine zS ?_; refine zR ?_; refine zO rfl (Rd.fA rfl) ?_; refine zO rfl (Rd.ldC rfl (tyrow rfl) rfl) ?_; refine zO rfl (Rd.lenSlice (tyrow rfl) rfl rfl) ?_
      by_cases hbig : 30 < p.vars.length
      · 
        refine zO rfl (Rd.gtr rfl rfl) ?_
        refine zO rfl Rd.mv ?_
        first | ((first | refine zW ?_ | refine zQ ?_); refine zO rfl (Rd.fA rfl) ?_) | refine zU ?_ | refine zV ?_ | refine zZ ?_
        first | ((first | refine zW ?_ | refine zQ ?_); refine zO rfl (Rd.ldC rfl (tyrow rfl) rfl) ?_) | refine zU ?_ | refine zV ?_ | refine zZ ?_
        first | refine zU ?_ | refine zV ?_ | refine zZ ?_
        first | ((first | refine zW ?_ | refine zQ ?_); refine zO rfl (Rd.gtr rfl rfl) ?_) | refine zU ?_ | refine zV ?_ | refine zZ ?_
        refine zO rfl (by first | exact Rd.pT rfl | exact Rd.pF rfl | exact Rd.pP rfl) ?_
        refine zO rfl Rd.asg ?_; refine zN ?_; refine zT ?_
        refine XA.ret ?_
        exact bodyA.ret (ResA.one rfl rfl) (Ent.nil _) ⟨true, rfl, fun h => (by cases h), rfl, rfl⟩
      · exfalso; omega
  · 
    refine zS ?_; refine zS ?_; refine zR ?_; refine zO rfl Rd.mv ?_; refine zO rfl (Rd.fA rfl) ?_; refine zO rfl (Rd.ldC rfl (tyrow rfl) rfl) ?_; refine zO rfl (Rd.lenSlice (tyrow rfl) rfl rfl) ?_; refine zO rfl (Rd.lss rfl rfl) ?_; refine zO rfl Rd.mv ?_
    first | ((first | refine zW ?_ | refine zQ ?_); refine zO rfl Rd.mv ?_) | refine zU ?_ | refine zV ?_ | refine zZ ?_
    first | ((first | refine zW ?_ | refine zQ ?_); refine zO rfl (Rd.lss rfl rfl) ?_) | refine zU ?_ | refine zV ?_ | refine zZ ?_
    refine zO rfl (by first | exact Rd.pT rfl | exact Rd.pF rfl | exact Rd.pP rfl) ?_
    refine zN ?_; refine zT ?_
    refine XA.condF rfl (by first | rfl | exact (by first | exact (rfl : decide _ = true) | exact (rfl : decide _ = false) | (refine decide_eq_true ?_; assumption) | (refine decide_eq_false ?_; assumption) | (refine decide_eq_true ?_; omega) | (refine decide_eq_false ?_; omega))) ?_
    refine XA.exit ?_
    refine DA.thn_exit ?_
    refine DA.thn_exit ?_
    refine DA.inb_same ?_
    refine zT ?_; refine zS ?_; refine zR ?_; refine zO rfl (Rd.fA rfl) ?_; refine zO rfl (Rd.ldC rfl (tyrow rfl) rfl) ?_; refine zO rfl (Rd.lenSlice (tyrow rfl) rfl rfl) ?_
    by_cases hbig : 30 < p.vars.length
    · 
      refine zO rfl (Rd.gtr rfl rfl) ?_
      refine zO rfl Rd.mv ?_
      first | ((first | refine zW ?_ | refine zQ ?_); refine zO rfl (Rd.fA rfl) ?_) | refine zU ?_ | refine zV ?_ | refine zZ ?_
      first | ((first | refine zW ?_ | refine zQ ?_); refine zO rfl (Rd.ldC rfl (tyrow rfl) rfl) ?_) | refine zU ?_ | refine zV ?_ | refine zZ ?_
      first | refine zU ?_ | refine zV ?_ | refine zZ ?_
      first | ((first | refine zW ?_ | refine zQ ?_); refine zO rfl (Rd.gtr rfl rfl) ?_) | refine zU ?_ | refine zV ?_ | refine zZ ?_
      refine zO rfl (by first | exact Rd.pT rfl | exact Rd.pF rfl | exact Rd.pP rfl) ?_
      refine zO rfl Rd.asg ?_; refine zN ?_; refine zT ?_
      refine XA.ret ?_
      exact bodyA.ret (ResA.one rfl rfl) (Ent.nil _) ⟨true, rfl, fun h => (by cases h), rfl, rfl⟩
    · 
      refine zO rfl (Rd.gtr rfl rfl) ?_
      refine zO rfl Rd.mv ?_
      first | ((first | refine zW ?_ | refine zQ ?_); refine zO rfl (Rd.fA rfl) ?_) | refine zU ?_ | refine zV ?_ | refine zZ ?_
      first | ((first | refine zW ?_ | refine zQ ?_); refine zO rfl (Rd.ldC rfl (tyrow rfl) rfl) ?_) | refine zU ?_ | refine zV ?_ | refine zZ ?_
      first | refine XOA.wanted rfl rfl ?_ | refine XOA.wq rfl rfl ?_
      refine XOA.wr0 rfl (WrA.cE (stmtParts_a σ p.body _ 900 hb (by decide) (by decide)) rfl) ?_
      rintro _ _ _ ⟨_, ⟨r, rfl, ⟨hr0, hr1, hr2⟩, rfl, rfl⟩, rfl⟩
      refine XOA.cl ?_
      first | ((first | refine zW ?_ | refine zQ ?_); refine zO rfl (Rd.gtr rfl rfl) ?_) | refine zU ?_ | refine zV ?_ | refine zZ ?_
      refine zO rfl (by first | exact Rd.pT rfl | exact Rd.pF rfl | exact Rd.pP rfl) ?_
      refine zO rfl Rd.asg ?_; refine zN ?_; refine zT ?_
      refine XA.ret ?_
      refine bodyA.ret (ResA.one rfl rfl) (Ent.nil _) ⟨decide (900 < r), rfl, fun h => ⟨by omega, fun x hx => ?_, ?_⟩, rfl, rfl⟩
      · obtain ⟨j, hj, e⟩ := List.mem_iff_getElem.1 hx
        exact hall j x (by omega) (by rw [List.getElem?_eq_getElem hj, e])
      · have := hr2 (by simpa using h); have : ¬ 900 < r := of_decide_eq_false h; omega
end Go.Proofs.Ytbbghdkndbpmmaa

namespace Go.Proofs.Ytbbghdkndbpmmaa
open Go X
set_option maxHeartbeats 1000000
end Go.Proofs.Ytbbghdkndbpmmaa

namespace Go.Proofs.Ytbbghdkndbpmmaa
open Go X
set_option maxHeartbeats 1000000
theorem psl_rows {α : Type} {s n c : Nat} {R : RT α} {σ : PH} {p : Option Addr} {xs : List α} (h : PSl s R σ (.slice p n c) xs) : ∃ rows, Rows_ s R σ rows xs ∧ n = xs.length ∧ xs.length ≤ c ∧ c ≤ maxLen ∧ (0 < xs.length → ∃ g o, p = some ⟨g, o, none⟩ ∧ PRow σ g o rows.flatten) := by
  obtain ⟨p', c', rows, h1, h2, h3, h4, h5, h6, h7⟩ := h
  simp only [Value.slice.injEq] at h1
  obtain ⟨rfl, rfl, rfl⟩ := h1
  exact ⟨rows, ⟨h4, h5, h6⟩, rfl, h2, h3, h7⟩
theorem X.Rows_.mem {α : Type} {s : Nat} {R : RT α} {σ : PH} {rows : List (List Value)} {xs : List α} (h : Rows_ s R σ rows xs) {row : List Value} (hm : row ∈ rows) : ∃ x ∈ xs, R σ row x := by
  obtain ⟨i, hi, rfl⟩ := List.mem_iff_getElem.1 hm
  have hx : i < xs.length := by rw [← h.len]; exact hi
  exact ⟨xs[i], List.getElem_mem _, h.row i _ _ (List.getElem?_eq_getElem hi) (List.getElem?_eq_getElem hx)⟩
/-! variables -/
theorem varEq_a (σ : PH) (g : Nat) (v w : Va) : CallsA Try.prog 62 #[vav w, ptr g] σ [blk g [.string v.name, i64 v.size] 37] (RetA fun r σ' Γ' => r = .bool (decide (w.name = v.name)) ∧ σ = σ' ∧ Γ' = [blk g [.string v.name, i64 v.size] 37]) := by
  unfold vav
  refine enterA2 Try.func62 rfl rfl rfl ?_
  refine zS ?_; refine zR ?_
  refine XOA.wr0 rfl WrA.bx ?_
  rintro _ _ _ ⟨g2, rfl, rfl, rfl⟩
  refine zO rfl Rd.asg ?_; refine zN ?_; refine zT ?_; refine zS ?_; refine zR ?_; refine zO rfl (Rd.fA rfl) ?_; refine zO rfl (Rd.ldC rfl (tyrow rfl) rfl) ?_; refine zO rfl (Rd.fA rfl) ?_; refine zO rfl (Rd.ldC rfl (tyrow rfl) rfl) ?_
  refine zO rfl (Rd.eqls rfl rfl) ?_
  refine zO rfl Rd.asg ?_; refine zN ?_; refine zT ?_
  refine XA.ret ?_
  exact bodyA.ret (ResA.one rfl rfl) zE ⟨rfl, rfl, rfl⟩
theorem indexVar_a (σ : PH) (g : Nat) (v : Va) (sl : Value) (l : List Va) (hl : PSl 2 rVa σ sl l) : CallsA Try.prog 79 #[sl, .func (.func 62) #[] #[ptr g]] σ [blk g [.string v.name, i64 v.size] 37] (RetA fun r σ' Γ' => ∃ k : Int, r = i64 k ∧ (0 ≤ k ↔ ∃ w ∈ l, w.name = v.name) ∧ σ = σ' ∧ Γ' = [blk g [.string v.name, i64 v.size] 37]) := by
  obtain ⟨pl, cl, rfl, hle, hmx⟩ := hl.shape
  have hlen : l.length ≤ maxLen := by omega
  simp only [maxLen] at hlen
  refine enterA2 Try.func79 rfl rfl rfl ?_
  refine zS ?_; refine zR ?_; refine zO rfl Rd.asg ?_; refine zN ?_; refine zT ?_; refine zS ?_; refine zS ?_; refine zR ?_; refine zO rfl Rd.mv ?_; refine zO rfl (Rd.lenSlice (tyrow rfl) rfl rfl) ?_; refine zO rfl Rd.mv ?_; refine zN ?_; refine zT ?_
  refine XA.block ?_
  refine XA.gen [(0, _), (1, _), (4, _), (7, _), (8, _)] ⟨(by with_reducible (conv => lhs; whnf)), (by with_reducible (conv => lhs; whnf)), (by with_reducible (conv => lhs; whnf)), (by with_reducible (conv => lhs; whnf)), (by with_reducible (conv => lhs; whnf)), trivial⟩ (fun δ => ?_)
  dsimp only [List.foldl]
  refine XA.loop [(4, 5), (8, 18)] (fun k : Nat => [(8, i64 k)]) (fun k σ' Γ' => σ = σ' ∧ k ≤ l.length ∧ (∀ (j : Nat) w, j < k → l[j]? = some w → w.name ≠ v.name) ∧ Γ' = [blk g [.string v.name, i64 v.size] 37]) (fun k => l.length - k) 0 (by exact ⟨rfl, trivial⟩) (Δ0 := _) ?_ (⟨rfl, Nat.zero_le _, fun j w h => absurd h (Nat.not_lt_zero _), rfl⟩) ?_
  · exact zE
  rintro k δ _ _ ⟨rfl, hk, hall, rfl⟩
  dsimp only [ovr, List.foldl]
  refine zS ?_; refine zR ?_; refine zO rfl (Rd.lss rfl rfl) ?_; refine zN ?_; refine zT ?_; refine zS ?_
  refine XA.condp rfl (fun hlt => ?_) (fun hlt => ?_)
  · have hlt : k < l.length := by omega
    obtain ⟨x', hx'⟩ : ∃ x', l[k]? = some x' := ⟨_, List.getElem?_eq_getElem hlt⟩
    obtain ⟨gg, o, row, rfl, ⟨rfl, -, -⟩, hrl, hrow⟩ := hl.at hx'
    refine XA.skip ?_
    refine zT ?_; refine zS ?_
    refine XA.block ?_
    refine zS ?_; refine zR ?_; refine zO rfl Rd.mv ?_; refine zO rfl Rd.asg ?_; refine zN ?_; refine zT ?_; refine zS ?_; refine zR ?_; refine zO rfl Rd.mv ?_; refine zO rfl Rd.mv ?_; refine zO rfl Rd.mv ?_
    refine zO rfl (Rd.ixS rfl rfl) ?_
    refine zO rfl (Rd.ldA rfl) ?_
    refine XOA.wr0 rfl (WrA.cV (first := []) (cap := [ptr g]) rfl (varEq_a σ g v x') rfl) ?_
    rintro _ _ _ ⟨_, ⟨rfl, rfl, rfl⟩, rfl⟩
    refine XOA.cl ?_
    refine zN ?_; refine zT ?_
    refine XA.condp rfl (fun hc => ?_) (fun hc => ?_)
    · refine zS ?_
      refine zR ?_; refine zO rfl Rd.mv ?_; refine zO rfl Rd.asg ?_; refine zN ?_; refine zT ?_
      refine XA.ret ?_
      refine DA.inb_ret ?_
      refine DA.thn_ret ?_
      refine DA.thn_ret ?_
      refine DA.inb_ret ?_
      refine DA.thn_ret ?_
      exact bodyA.ret (ResA.one rfl rfl) zE ⟨(k : Int), rfl, ⟨fun _ => ⟨x', List.mem_of_getElem? hx', hc⟩, fun _ => by omega⟩, rfl, rfl⟩
    · have hnew : ∀ (j : Nat) w, j < k + 1 → l[j]? = some w → w.name ≠ v.name := fun j w hj hw => by
        rcases Nat.lt_or_ge j k with h | h
        · exact hall j w h hw
        · have : j = k := by omega
          subst this
          rw [hx'] at hw; simp only [Option.some.injEq] at hw; subst hw; exact hc
      refine XA.skip ?_
      refine DA.inb_normal ?_
      refine zT ?_; refine zR ?_
      refine zO rfl (by first | exact Rd.adi rfl rfl | exact Rd.add rfl rfl) ?_
      refine zO rfl Rd.mv ?_; refine zN ?_; refine zT ?_
      refine ⟨(Keep.upd (Keep.upd (Keep.updO (Keep.upd (Keep.upd (Keep.upd (Keep.upd (Keep.upd (Keep.upd (Keep.upd (Keep.upd (Keep.upd (Keep.hav (Keep.hav (Keep.refl _ _) rfl) rfl) rfl) rfl) rfl) rfl) rfl) rfl) rfl) rfl) rfl) rfl) rfl) rfl), k + 1, _, (by (repeat (first | exact trivial | refine ⟨rfl, ?_⟩ | refine ⟨Eq.trans rfl (congrArg Value.bool hmat.symm), ?_⟩)); (first | done | fail)), ?_, ⟨rfl, hlt, hnew, rfl⟩, (by omega)⟩
      · exact zE
  have hkn : k = l.length := by omega
  subst hkn
  refine XA.exit ?_
  refine DA.thn_exit ?_
  refine DA.thn_exit ?_
  refine DA.inb_same ?_
  refine zT ?_; refine zS ?_; refine zR ?_; refine zO rfl Rd.asg ?_; refine zN ?_; refine zT ?_
  refine XA.ret ?_
  refine bodyA.ret (ResA.one rfl rfl) zE ⟨-1, rfl, ⟨fun h => absurd h (by decide), fun ⟨w, hw, e⟩ => ?_⟩, rfl, rfl⟩
  obtain ⟨j, hj, e2⟩ := List.mem_iff_getElem.1 hw
  exact absurd e (hall j w hj (by rw [List.getElem?_eq_getElem hj, e2]))
theorem containsVar_a (σ : PH) (g : Nat) (v : Va) (sl : Value) (l : List Va) (hl : PSl 2 rVa σ sl l) : CallsA Try.prog 61 #[sl, .func (.func 62) #[] #[ptr g]] σ [blk g [.string v.name, i64 v.size] 37] (RetA fun r σ' Γ' => r = .bool (decide (∃ w ∈ l, w.name = v.name)) ∧ σ = σ' ∧ Γ' = [blk g [.string v.name, i64 v.size] 37]) := by
  refine enterA2 Try.func61 rfl rfl rfl ?_
  refine zS ?_; refine zR ?_; refine zO rfl Rd.asg ?_; refine zN ?_; refine zT ?_; refine zS ?_; refine zR ?_; refine zO rfl Rd.mv ?_; refine zO rfl Rd.mv ?_
  refine XOA.wr0 rfl (WrA.cE (indexVar_a σ g v sl l hl) rfl) ?_
  rintro _ _ _ ⟨_, ⟨k, rfl, hk, rfl, rfl⟩, rfl⟩
  refine XOA.cl ?_
  refine zO rfl (Rd.geq rfl rfl) ?_
  refine zO rfl Rd.asg ?_; refine zN ?_; refine zT ?_
  refine XA.ret ?_
  exact bodyA.ret (ResA.one rfl rfl) zE ⟨congrArg Value.bool (decide_eq_decide.2 hk), rfl, rfl⟩
end Go.Proofs.Ytbbghdkndbpmmaa

