/- More rules: loops that are unrolled; append of what another list holds; lists of numbers that stay for ever. -/
import Derived.Test.YtbbghdkndbpmmaaB
import Derived.Test.YtbbghdkndbpmmaaArgs
import Derived.Test.YtbbghdkndbpmmaaAli
import Derived.LoopN
import Derived.Laws.Pointers
namespace Go.Proofs.Ytbbghdkndbpmmaa
namespace X
open Go
variable {P : Program} {N : Nat} {ρ : Env} {σ : PH} {Γ Γ' : List HP} {K : KA}
/-- A loop of n rounds at most. -/
structure XAR (P : Program) (N n : Nat) (c : Code) (ρ : Env) (σ : PH) (Γ : List HP) (K : KA) : Prop where
  out : ∀ f h, Holds σ Γ f h → ∀ (w0 : World) (a : Act) (w : World), Same w0 w → w.heap = h → EnvOf N a ρ → Code.rounds P c (Post w0 a.defers N (KF f K)) n a w
theorem XA.unroll {c : Code} (n : Nat) (hx : XAR P N n c ρ σ Γ K) : XA P N (.loop c) ρ σ Γ K := ⟨fun f h hh => ⟨fun w0 a w hs hw he => wp_loop_rounds n (hx.out f h hh w0 a w hs hw he)⟩⟩
theorem XAR.succ {n : Nat} {c : Code} (hx : XA P N c ρ σ Γ (thnA (fun ρ σ Γ => XAR P N n c ρ σ Γ K) K)) : XAR P N (n + 1) c ρ σ Γ K := by
  refine ⟨fun f h hh w0 a w hs hw he => ?_⟩
  refine wp_mono ((hx.out f h hh).out w0 a w hs hw he) ?_
  rintro e a' w' ⟨h1, h2, ρ', h3, σ', Γ', hk, hh'⟩
  cases e with
  | normal => have := hk.out f w'.heap hh' w0 a' w' h2 rfl h3; rw [h1] at this; exact this
  | _ => exact ⟨h1, h2, ρ', h3, σ', Γ', hk, hh'⟩
theorem ResA.five {fn : Func} {t1 t2 t3 t4 t5 : Tmp} {v1 v2 v3 v4 v5 : Value} (hf : fn.results = #[.tmp t1, .tmp t2, .tmp t3, .tmp t4, .tmp t5]) (h1 : ρ t1 = v1) (h2 : ρ t2 = v2) (h3 : ρ t3 = v3) (h4 : ρ t4 = v4) (h5 : ρ t5 = v5) : ResA P fn ρ σ Γ (.tuple #[v1, v2, v3, v4, v5]) := fun _ _ w a _ he => by
  have k1 := he.get t1; have k2 := he.get t2; have k3 := he.get t3; have k4 := he.get t4; have k5 := he.get t5
  simp [results, hf]; rw [← h1, ← h2, ← h3, ← h4, ← h5]; simp at k1 k2 k3 k4 k5; simp [k1, k2, k3, k4, k5]
theorem Rd.subc {S : Heap → Prop} {ty T T' : TypeId} {x y : Operand} {kk : IntKind} {a b c : Int} (hx : ev ρ x = .int kk a) (hy : ev ρ y = .int kk b) (hc : kk.wrap (a - b) = c) : Rd P ρ S (.binOp .sub T x y T') ty (.int kk c) := hc ▸ Rd.sub hx hy
theorem Rd.addc {S : Heap → Prop} {ty T T' : TypeId} {x y : Operand} {kk : IntKind} {a b c : Int} (hx : ev ρ x = .int kk a) (hy : ev ρ y = .int kk b) (hc : kk.wrap (a + b) = c) : Rd P ρ S (.binOp .add T x y T') ty (.int kk c) := hc ▸ Rd.add hx hy
theorem Rd.neqPtrNil {S : Heap → Prop} {ty T T' e : TypeId} {x : Operand} {r : Ty} {a : Option Addr} (hT : tyOf P T = some r) (hk : r.k = .pointer e) (hx : ev ρ x = .pointer a) : Rd P ρ S (.binOp .neq T x (.const (.pointer none)) T') ty (.bool (!a.isNone)) := by
  refine .pure fun d pos af gd w => ?_
  obtain ⟨dd, i, z, e1, e2, -⟩ := tyOf_spec hT
  rw [hk] at e2
  cases dd <;> simp [kindOf] at e2
  rw [e2] at e1
  have hp : P.underlying T = some (.pointer (P.pointee T)) := by simp [Program.pointee, e1]
  have h1 := run_equal_pointer_nil (P := P) w T a hp
  simp only [execOp, eqGuard, hx, ev, binOp, Sem.run_bind]
  simp [h1]
/-- Numbers that stay for ever. -/
def PInts (σ : PH) (v : Value) (xs : List Int) : Prop := ∃ (p : Option Addr) (c : Nat), v = .slice p xs.length c ∧ xs.length ≤ c ∧ c ≤ maxLen ∧ (0 < xs.length → ∃ g o, p = some ⟨g, o, none⟩ ∧ PRow σ g o (ints xs))
theorem PInts.mono {σ' : PH} (s : σ.sub σ') {v : Value} {xs : List Int} (h : PInts σ v xs) : PInts σ' v xs := by
  obtain ⟨p, c, h1, h2, h3, h4⟩ := h
  exact ⟨p, c, h1, h2, h3, fun hp => by obtain ⟨g, o, e, r⟩ := h4 hp; exact ⟨g, o, e, r.mono s⟩⟩
theorem PInts.nil (σ : PH) : PInts σ (.slice none 0 0) [] := ⟨none, 0, rfl, Nat.le_refl _, by simp [maxLen], by simp⟩
theorem PInts.at {p : Option Addr} {n c : Nat} {xs : List Int} (h : PInts σ (.slice p n c) xs) {k : Nat} {x : Int} (hk : xs[k]? = some x) : ∃ g o, p = some ⟨g, o, none⟩ ∧ PRow σ g (o + k * 1) [i64 x] := by
  obtain ⟨p', c', h1, h2, h3, h4⟩ := h
  simp only [Value.slice.injEq] at h1
  obtain ⟨rfl, rfl, rfl⟩ := h1
  have hlt := (List.getElem?_eq_some_iff.1 hk).1
  obtain ⟨g, o, rfl, hr⟩ := h4 (by omega)
  refine ⟨g, o, rfl, ?_⟩
  rw [Nat.mul_one]
  refine hr.sub (j := k) ?_
  obtain ⟨h5, h6⟩ := List.getElem?_eq_some_iff.1 hk
  have : (ints xs).drop k = i64 x :: (ints xs).drop (k + 1) := by
    rw [List.drop_eq_getElem_cons (by simpa using h5)]; simp [ints, h6]
  rw [this]; rfl
theorem PInts.tail {p : Option Addr} {n c : Nat} {x : Int} {xs : List Int} (h : PInts σ (.slice p n c) (x :: xs)) : PInts σ (.slice (if c = 1 then p else p.map (·.add (1 * 1))) (n - 1) (c - 1)) xs := by
  obtain ⟨p', c', h1, h2, h3, h4⟩ := h
  simp only [Value.slice.injEq, List.length_cons] at h1 h2 h4
  obtain ⟨rfl, rfl, rfl⟩ := h1
  refine ⟨_, _, by rw [Nat.add_sub_cancel], by omega, by omega, fun hp => ?_⟩
  obtain ⟨g, o, rfl, hr⟩ := h4 (by omega)
  rw [if_neg (by omega)]
  exact ⟨g, o + 1, by simp [addr_add], hr.sub (j := 1) (by simp [ints]; rw [List.take_of_length_le (by simp)])⟩
theorem PInts.shape {v : Value} {xs : List Int} (h : PInts σ v xs) : ∃ p c, v = .slice p xs.length c ∧ xs.length ≤ c ∧ c ≤ maxLen := by
  obtain ⟨p, c, h1, h2, h3, h4⟩ := h; exact ⟨p, c, h1, h2, h3⟩
/-- Numbers of one's own, given for ever. -/
theorem lst_pints {e n : Nat} {v : Value} {xs : List Int} {m : PH} (h : lst e 1 v n (ints xs) m) : PInts m v xs := by
  obtain ⟨h1, ⟨rfl, rfl⟩ | ⟨g, cap, rfl, cur, h3, h4, h5, h6, h7⟩⟩ := h
  · have : xs = [] := by have h1 : (ints xs).length = 0 := by simpa using h1
                         simpa using h1
    subst this
    exact PInts.nil _
  · have hn : xs.length = n := by simpa using h1
    subst hn
    exact ⟨_, _, rfl, h4, h5, fun _ => ⟨g, 0, rfl, PRow.ofBlk h3 (by simpa using h7)⟩⟩
theorem Rd.sliceTail {S : Heap → Prop} {ty : TypeId} {T : TypeId} {x y : Operand} {r re : Ty} {e len cap : Nat} {a : Option Addr} {kk : IntKind} (hT : tyOf P T = some r) (hk : r.k = .slice e) (hE : tyOf P e = some re) (hs1 : re.size = 1) (hx : ev ρ x = .slice a len cap) (hy : ev ρ y = .int kk 1) (hl : 1 ≤ len) : Rd P ρ S (.slice T x (some y) none none) ty (.slice (if cap = 1 then a else a.map (·.add (1 * 1))) (len - 1) (cap - 1)) := by
  have h := Rd.slicePart (P := P) (ρ := ρ) (S := S) (ty := ty) (lo := some y) (hi := none) (mx := none) (l := 1) (hh := len) (m := cap) hT hk hE hx (fun w => by
    have hb := fun c w => bound_ok (P := P) (y := len) (c := c) (kk := kk) (i := 1) (by decide) (by omega) w
    simp [Instr.sliceBounds, hy, hb])
  rw [hs1] at h
  exact h
/-- Append to a full list of what another one holds: it grows. -/
theorem WrA.appendFull {T e : TypeId} {x y : Operand} {ty : TypeId} {r re : Ty} {n m c g o : Nat} {p0 : Option Addr} {xs news : List Value} (hT : tyOf P T = some r) (hk : r.k = .slice e) (hE : tyOf P e = some re) (hz : re.zero.length = re.size)
    (hs : ev ρ x = .slice p0 n n) (hy : ev ρ y = .slice (some ⟨g, o, none⟩) m c) (hx : ∀ j u, xs[j]? = some u → ∃ g0 o0, p0 = some ⟨g0, o0, none⟩ ∧ AtC (Ho σ Γ) g0 (o0 + j) u) (hp : p0 = none → n = 0) (hlx : xs.length = n * re.size) (hrow : At (Ho σ Γ) g o news)
    (hl : news.length = m * re.size) (h1 : ones news) (hm : 0 < m) (h63 : n + m ≤ maxLen) (hb : (n + m) * re.bytes ≤ 140737488355328) :
    WrA P ρ σ Γ (.call { callee := .builtin .append, args := #[x, y], argTypes := #[T, T] }) ty (fun v' σ' Δ => ∃ p c, v' = .slice p (n + m) c ∧ σ = σ' ∧ Δ = lst e re.size (.slice p (n + m) c) (n + m) (xs ++ news) :: Γ) noPA :=
  ⟨fun f h hh => ⟨fun d pos af gd a w next Q' he hw hn hp' => by
    have h4 : Holds σ (lst e re.size (.slice none 0 0) 0 [] :: Γ) f h := hh.ent (Ent.selNil (Ent.refl _))
    exact (Wr.appendFull hT hk hE hz (fun j u hu => by obtain ⟨g0, o0, e0, hc⟩ := hx j u hu; exact ⟨g0, o0, e0, hc.out h hh.ho⟩) hp hlx hs (hrow.out h hh.ho) hy hl h1 hm h63 hb).out d pos af gd a w next Q' he hw (fun v' w' sm q => by
        obtain ⟨p, c, rfl⟩ := q.1.shape
        exact hn _ w' sm ⟨σ, _, ⟨p, c, rfl, rfl, rfl⟩, h4.app .head (q.1.weak (fun g _ hg => .inr hg)) q.2⟩) (fun _ _ _ q => q.elim)⟩⟩
/-- Append to nil of what another list holds. -/
theorem WrA.appendNew {T e : TypeId} {x y : Operand} {ty : TypeId} {r re : Ty} {m c g o : Nat} {news : List Value} (hT : tyOf P T = some r) (hk : r.k = .slice e) (hE : tyOf P e = some re) (hz : re.zero.length = re.size)
    (hs : ev ρ x = .slice none 0 0) (hy : ev ρ y = .slice (some ⟨g, o, none⟩) m c) (hrow : At (Ho σ Γ) g o news)
    (hl : news.length = m * re.size) (h1 : ones news) (hm : 0 < m) (h63 : m ≤ maxLen) (hb : m * re.bytes ≤ 140737488355328) :
    WrA P ρ σ Γ (.call { callee := .builtin .append, args := #[x, y], argTypes := #[T, T] }) ty (fun v' σ' Δ => ∃ p c, v' = .slice p m c ∧ σ = σ' ∧ Δ = lst e re.size (.slice p m c) m news :: Γ) noPA := by
  have h := WrA.appendFull (P := P) (ρ := ρ) (σ := σ) (Γ := Γ) (ty := ty) (p0 := none) (n := 0) (xs := []) hT hk hE hz hs hy (fun j u h => by simp at h) (fun _ => rfl) (by simp) hrow hl h1 hm (by omega) (by simpa using hb)
  simpa only [Nat.zero_add, List.nil_append] using h
theorem blk_frz {g : Nat} {l : List Value} {T : TypeId} : ∀ m, blk g l T m → ∃ _ : Unit, PRow m g 0 l := fun m h => ⟨(), PRow.ofBlk h (by simp)⟩
theorem blk_frz_mono {g : Nat} {l : List Value} : ∀ (_ : Unit) (m m' : PH), PRow m g 0 l → m.sub m' → PRow m' g 0 l := fun _ _ _ h s => h.mono s
/-- A list's block. -/
theorem lst_open {e size n c : Nat} {p : Option Addr} {xs : List Value} (hn : 0 < n) : ∀ m, lst e size (.slice p n c) n xs m → ∃ x : Nat × List Value, (p = some ⟨x.1, 0, none⟩ ∧ n ≤ c ∧ c ≤ maxLen ∧ xs.length = n * size) ∧ Sat [blk x.1 (xs ++ x.2) e] m := by
  rintro m ⟨h1, ⟨h2, rfl⟩ | ⟨g, cap, h2, cur, h3, h4, h5, h6, h7⟩⟩
  · exact absurd hn (Nat.lt_irrefl _)
  · simp only [Value.slice.injEq] at h2
    obtain ⟨rfl, -, rfl⟩ := h2
    refine ⟨(g, cur.drop (n * size)), ⟨rfl, h4, h5, h1⟩, m, PH.none, ?_, trivial, PH.none_dis m, .refl m, PH.none_sub m⟩
    rw [← h7, List.take_append_drop]; exact h3
theorem dropS {α : Type} {l : List α} {k : Nat} {x : α} (h : l[k]? = some x) : l.drop k = x :: l.drop (k + 1) := by
  obtain ⟨h1, h2⟩ := List.getElem?_eq_some_iff.1 h
  rw [List.drop_eq_getElem_cons h1, h2]
theorem takeS {α : Type} {l : List α} {k : Nat} {x : α} (hk : l[k]? = some x) : l.take (k + 1) = l.take k ++ [x] := by rw [List.take_add_one, hk]; rfl
theorem flatS (rows : List (List Value)) (r : List Value) : (rows ++ [r]).flatten = rows.flatten ++ r := by simp
/-- Nothing is appended. -/
theorem Rd.appendNone {S : Heap → Prop} {T e : TypeId} {x y : Operand} {ty : TypeId} {r re : Ty} {n c c' : Nat} {p q : Option Addr} (hT : tyOf P T = some r) (hk : r.k = .slice e) (hE : tyOf P e = some re) (hx : ev ρ x = .slice p n c) (hy : ev ρ y = .slice q 0 c') (hnc : n ≤ c) :
    Rd P ρ S (.call { callee := .builtin .append, args := #[x, y], argTypes := #[T, T] }) ty (.slice p n c) := by
  refine .pure fun d pos af gd w => ?_
  obtain ⟨dd, i, z, e1, e2, -⟩ := tyOf_spec hT
  obtain ⟨dd', i', z', e1', e2', e3', e4', -⟩ := tyOf_spec hE
  rw [hk] at e2
  cases dd <;> simp [kindOf] at e2
  rw [e2] at e1
  have hl : ∀ w' : World, (Builtin.lenOf (.slice q 0 c')).run P w' = .ok 0 w' := fun w' => by simp [Builtin.lenOf]
  have hf : (Builtin.firstCells i'.size 0 (.slice q 0 c')).run P w = .ok #[] w := by cases q <;> simp [Builtin.firstCells, loadCells, loadCellsFrom]
  have h : (Builtin.append_ #[T, T] ty #[.slice p n c, .slice q 0 c']).run P w = .ok (.slice p n c) w := by cases p <;> simp [Builtin.append_, run_underlying e1, sizeOf, typeInfo, e3', hl, hnc, hf, storeCells]
  simp only [execOp, resolve, invoke, builtin, Sem.run_bind, Sem.run_pure, Result.andThen_ok, List.map_toArray, List.map_cons, List.map_nil, hx, hy, h]
/-- A list of one's own, given for ever: its cells stay. -/
theorem lst_frz {e size n c : Nat} {p : Option Addr} {xs : List Value} : ∀ m, lst e size (.slice p n c) n xs m → ∃ _ : Unit, n ≤ c ∧ c ≤ maxLen ∧ xs.length = n * size ∧ (0 < n → ∃ g o, p = some ⟨g, o, none⟩ ∧ PRow m g o xs) := by
  rintro m ⟨h1, ⟨h2, rfl⟩ | ⟨g, cap, h2, cur, h3, h4, h5, h6, h7⟩⟩
  · simp only [Value.slice.injEq] at h2
    obtain ⟨rfl, -, rfl⟩ := h2
    exact ⟨(), Nat.le_refl _, by simp [maxLen], h1, fun h => absurd h (Nat.lt_irrefl _)⟩
  · simp only [Value.slice.injEq] at h2
    obtain ⟨rfl, -, rfl⟩ := h2
    exact ⟨(), h4, h5, h1, fun _ => ⟨g, 0, rfl, PRow.ofBlk h3 (by rw [h1]; simpa using h7)⟩⟩
theorem lst_frz_mono {n c k : Nat} {p : Option Addr} {xs : List Value} : ∀ (_ : Unit) (m m' : PH), (n ≤ c ∧ c ≤ maxLen ∧ xs.length = k ∧ (0 < n → ∃ g o, p = some ⟨g, o, none⟩ ∧ PRow m g o xs)) → m.sub m' → (n ≤ c ∧ c ≤ maxLen ∧ xs.length = k ∧ (0 < n → ∃ g o, p = some ⟨g, o, none⟩ ∧ PRow m' g o xs)) :=
  fun _ _ _ ⟨h1, h2, h3, h4⟩ s => ⟨h1, h2, h3, fun h => by obtain ⟨g, o, e, r⟩ := h4 h; exact ⟨g, o, e, r.mono s⟩⟩
/-- Rows of cells, each of a thing. -/
structure Rows_ {α : Type} (s : Nat) (R : RT α) (σ : PH) (rows : List (List Value)) (xs : List α) : Prop where
  len : rows.length = xs.length
  size : ∀ row ∈ rows, row.length = s
  row : ∀ (i : Nat) (row : List Value) (x : α), rows[i]? = some row → xs[i]? = some x → R σ row x
theorem Rows_.nil {α : Type} (s : Nat) (R : RT α) (σ : PH) : Rows_ s R σ [] [] := ⟨rfl, by simp, by simp⟩
theorem Rows_.mono {α : Type} {s : Nat} {R : RT α} {σ σ' : PH} {rows : List (List Value)} {xs : List α} (h : Rows_ s R σ rows xs) (hR : ∀ cs x, R σ cs x → R σ' cs x) : Rows_ s R σ' rows xs := ⟨h.len, h.size, fun i row x a b => hR _ _ (h.row i row x a b)⟩
theorem Rows_.snoc {α : Type} {s : Nat} {R : RT α} {σ : PH} {rows : List (List Value)} {xs : List α} (h : Rows_ s R σ rows xs) {row : List Value} {x : α} (hl : row.length = s) (hr : R σ row x) : Rows_ s R σ (rows ++ [row]) (xs ++ [x]) := by
  refine ⟨by simp [h.len], fun r hm => ?_, fun i r y a b => ?_⟩
  · simp only [List.mem_append, List.mem_singleton] at hm
    rcases hm with hm | rfl
    · exact h.size r hm
    · exact hl
  · rcases Nat.lt_or_ge i rows.length with hi | hi
    · rw [List.getElem?_append_left hi] at a
      rw [List.getElem?_append_left (by rw [← h.len]; exact hi)] at b
      exact h.row i r y a b
    · rw [List.getElem?_append_right hi] at a
      rw [List.getElem?_append_right (by rw [← h.len]; exact hi), ← h.len] at b
      cases hq : i - rows.length with
      | zero => rw [hq] at a b; simp at a b; subst a; subst b; exact hr
      | succ q => rw [hq] at a; simp at a
theorem Rows_.psl {α : Type} {s n c k : Nat} {R : RT α} {σ : PH} {rows : List (List Value)} {xs : List α} {p : Option Addr} (h : Rows_ s R σ rows xs) (hn : n = xs.length) (hf : n ≤ c ∧ c ≤ maxLen ∧ rows.flatten.length = k ∧ (0 < n → ∃ g o, p = some ⟨g, o, none⟩ ∧ PRow σ g o rows.flatten)) : PSl s R σ (.slice p n c) xs := by
  subst hn
  exact ⟨p, c, rows, rfl, hf.1, hf.2.1, h.len, h.size, h.row, hf.2.2.2⟩
end X
end Go.Proofs.Ytbbghdkndbpmmaa
