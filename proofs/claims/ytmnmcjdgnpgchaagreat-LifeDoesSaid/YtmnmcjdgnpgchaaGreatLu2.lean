/- Part 2 of 6 of what the claim needs: U, Dk, Dk2, St, Su, Sv, Sw, Sx, Sy, Sz, Dp, Sp, Sq, Sb, Sr, Vt, Vu, Sd, Sl, Sm, Sn, Mm, Mn, Mo, Mp, Wa, Mq, Px, Pg, Str, CdS, CdL. -/
import Derived.Test.YtmnmcjdgnpgchaaGreatLu1
import Derived.LoopN
import Derived.Laws.Pointers
import Derived.Recover
import Derived.Laws.Strings
import Derived.Laws.StructEq
import Derived.Laws.Small
namespace Go.Proofs.YtmnmcjdgnpgchaaGreat
namespace X
open Go
variable {P : Program} {N : Nat} {ρ : Env} {σ : PH} {Γ Γ' : List HP} {K : KA}
structure XAR (P : Program) (N n : Nat) (c : Code) (ρ : Env) (σ : PH) (Γ : List HP) (K : KA) : Prop where
  out : ∀ f h, Holds σ Γ f h → ∀ (w0 : World) (a : Act) (w : World), Same w0 w → w.heap = h → EnvOf N a ρ → Code.rounds P c (Post w0 a.defers N (KF f K)) n a w
theorem XA.unroll {c : Code} (n : Nat) (hx : XAR P N n c ρ σ Γ K) : XA P N (.loop c) ρ σ Γ K := ⟨fun f h hh => ⟨fun w0 a w hs hw he => wp_loop_rounds n (hx.out f h hh w0 a w hs hw he)⟩⟩
theorem XAR.succ {n : Nat} {c : Code} (hx : XA P N c ρ σ Γ (thnA (fun ρ σ Γ => XAR P N n c ρ σ Γ K) K)) : XAR P N (n + 1) c ρ σ Γ K := by
  refine ⟨fun f h hh w0 a w hs hw he => ?_⟩
  refine wp_mono ((hx.out f h hh).out w0 a w hs hw he) ?_
  rintro e a' w' ⟨h1, h2, ρ', h3, σ', Γ', hk, hh'⟩
  cases e with
  | normal => have := hk.out f w'.heap hh' w0 a' w' h2 rfl h3; rw [h1] at this; exact this
  | _ => exact ⟨h1, h2, ρ', h3, σ', Γ', hk, hh'⟩
theorem ResA.five {fn : Func} {t1 t2 t3 t4 t5 : Tmp} {v1 v2 v3 v4 v5 : Value} (hf : fn.results = #[.tmp t1, .tmp t2, .tmp t3, .tmp t4, .tmp t5]) (h1 : ρ t1 = v1) (h2 : ρ t2 = v2) (h3 : ρ t3 = v3) (h4 : ρ t4 = v4) (h5 : ρ t5 = v5) : ResA P fn ρ σ Γ (.tuple #[v1, v2, v3, v4, v5]) := fun _ _ w a _ he => by
  have k1 := he.get t1; have k2 := he.get t2; have k3 := he.get t3; have k4 := he.get t4; have k5 := he.get t5
  simp [results, hf]; rw [← h1, ← h2, ← h3, ← h4, ← h5]; simp at k1 k2 k3 k4 k5; simp [k1, k2, k3, k4, k5]
theorem Rd.subc {S : Heap → Prop} {ty T T' : TypeId} {x y : Operand} {kk : IntKind} {a b c : Int} (hx : ev ρ x = .int kk a) (hy : ev ρ y = .int kk b) (hc : kk.wrap (a - b) = c) : Rd P ρ S (.binOp .sub T x y T') ty (.int kk c) := hc ▸ Rd.sub hx hy
def PInts (σ : PH) (v : Value) (xs : List Int) : Prop := ∃ (p : Option Addr) (c : Nat), v = .slice p xs.length c ∧ xs.length ≤ c ∧ c ≤ maxLen ∧ (0 < xs.length → ∃ g o, p = some ⟨g, o, none⟩ ∧ PRow σ g o (ints xs))
theorem PInts.mono {σ' : PH} (s : σ.sub σ') {v : Value} {xs : List Int} (h : PInts σ v xs) : PInts σ' v xs := by
  obtain ⟨p, c, h1, h2, h3, h4⟩ := h
  exact ⟨p, c, h1, h2, h3, fun hp => by obtain ⟨g, o, e, r⟩ := h4 hp; exact ⟨g, o, e, r.mono s⟩⟩
theorem PInts.nil (σ : PH) : PInts σ (.slice none 0 0) [] := ⟨none, 0, rfl, Nat.le_refl _, by simp [maxLen], by simp⟩
theorem PInts.at {p : Option Addr} {n c : Nat} {xs : List Int} (h : PInts σ (.slice p n c) xs) {k : Nat} {x : Int} (hk : xs[k]? = some x) : ∃ g o, p = some ⟨g, o, none⟩ ∧ PRow σ g (o + k * 1) [i64 x] := by
  obtain ⟨p', c', h1, h2, h3, h4⟩ := h
  simp only [Value.slice.injEq] at h1
  obtain ⟨rfl, rfl, rfl⟩ := h1
  have hlt := (List.getElem?_eq_some_iff.1 hk).1
  obtain ⟨g, o, rfl, hr⟩ := h4 (by omega)
  refine ⟨g, o, rfl, ?_⟩
  rw [Nat.mul_one]
  refine hr.sub (j := k) ?_
  obtain ⟨h5, h6⟩ := List.getElem?_eq_some_iff.1 hk
  have : (ints xs).drop k = i64 x :: (ints xs).drop (k + 1) := by
    rw [List.drop_eq_getElem_cons (by simpa using h5)]; simp [ints, h6]
  rw [this]; rfl
theorem PInts.tail {p : Option Addr} {n c : Nat} {x : Int} {xs : List Int} (h : PInts σ (.slice p n c) (x :: xs)) : PInts σ (.slice (if c = 1 then p else p.map (·.add (1 * 1))) (n - 1) (c - 1)) xs := by
  obtain ⟨p', c', h1, h2, h3, h4⟩ := h
  simp only [Value.slice.injEq, List.length_cons] at h1 h2 h4
  obtain ⟨rfl, rfl, rfl⟩ := h1
  refine ⟨_, _, by rw [Nat.add_sub_cancel], by omega, by omega, fun hp => ?_⟩
  obtain ⟨g, o, rfl, hr⟩ := h4 (by omega)
  rw [if_neg (by omega)]
  exact ⟨g, o + 1, by simp [addr_add], hr.sub (j := 1) (by simp [ints]; rw [List.take_of_length_le (by simp)])⟩
theorem PInts.shape {v : Value} {xs : List Int} (h : PInts σ v xs) : ∃ p c, v = .slice p xs.length c ∧ xs.length ≤ c ∧ c ≤ maxLen := by
  obtain ⟨p, c, h1, h2, h3, h4⟩ := h; exact ⟨p, c, h1, h2, h3⟩
theorem lst_pints {e n : Nat} {v : Value} {xs : List Int} {m : PH} (h : lst e 1 v n (ints xs) m) : PInts m v xs := by
  obtain ⟨h1, ⟨rfl, rfl⟩ | ⟨g, cap, rfl, cur, h3, h4, h5, h6, h7⟩⟩ := h
  · have : xs = [] := by have h1 : (ints xs).length = 0 := by simpa using h1
                         simpa using h1
    subst this
    exact PInts.nil _
  · have hn : xs.length = n := by simpa using h1
    subst hn
    exact ⟨_, _, rfl, h4, h5, fun _ => ⟨g, 0, rfl, PRow.ofBlk h3 (by simpa using h7)⟩⟩
theorem Rd.sliceTail {S : Heap → Prop} {ty : TypeId} {T : TypeId} {x y : Operand} {r re : Ty} {e len cap : Nat} {a : Option Addr} {kk : IntKind} (hT : tyOf P T = some r) (hk : r.k = .slice e) (hE : tyOf P e = some re) (hs1 : re.size = 1) (hx : ev ρ x = .slice a len cap) (hy : ev ρ y = .int kk 1) (hl : 1 ≤ len) : Rd P ρ S (.slice T x (some y) none none) ty (.slice (if cap = 1 then a else a.map (·.add (1 * 1))) (len - 1) (cap - 1)) := by
  have h := Rd.slicePart (P := P) (ρ := ρ) (S := S) (ty := ty) (lo := some y) (hi := none) (mx := none) (l := 1) (hh := len) (m := cap) hT hk hE hx (fun w => by
    have hb := fun c w => bound_ok (P := P) (y := len) (c := c) (kk := kk) (i := 1) (by decide) (by omega) w
    simp [Instr.sliceBounds, hy, hb])
  rw [hs1] at h
  exact h
theorem WrA.appendFull {T e : TypeId} {x y : Operand} {ty : TypeId} {r re : Ty} {n m c g o : Nat} {p0 : Option Addr} {xs news : List Value} (hT : tyOf P T = some r) (hk : r.k = .slice e) (hE : tyOf P e = some re) (hz : re.zero.length = re.size)
    (hs : ev ρ x = .slice p0 n n) (hy : ev ρ y = .slice (some ⟨g, o, none⟩) m c) (hx : ∀ j u, xs[j]? = some u → ∃ g0 o0, p0 = some ⟨g0, o0, none⟩ ∧ AtC (Ho σ Γ) g0 (o0 + j) u) (hp : p0 = none → n = 0) (hlx : xs.length = n * re.size) (hrow : At (Ho σ Γ) g o news)
    (hl : news.length = m * re.size) (h1 : ones news) (hm : 0 < m) (h63 : n + m ≤ maxLen) (hb : (n + m) * re.bytes ≤ 140737488355328) :
    WrA P ρ σ Γ (.call { callee := .builtin .append, args := #[x, y], argTypes := #[T, T] }) ty (fun v' σ' Δ => ∃ p c, v' = .slice p (n + m) c ∧ σ = σ' ∧ Δ = lst e re.size (.slice p (n + m) c) (n + m) (xs ++ news) :: Γ) noPA :=
  ⟨fun f h hh => ⟨fun d pos af gd a w next Q' he hw hn hp' => by
    have h4 : Holds σ (lst e re.size (.slice none 0 0) 0 [] :: Γ) f h := hh.ent (Ent.selNil (Ent.refl _))
    exact (Wr.appendFull hT hk hE hz (fun j u hu => by obtain ⟨g0, o0, e0, hc⟩ := hx j u hu; exact ⟨g0, o0, e0, hc.out h hh.ho⟩) hp hlx hs (hrow.out h hh.ho) hy hl h1 hm h63 hb).out d pos af gd a w next Q' he hw (fun v' w' sm q => by
        obtain ⟨p, c, rfl⟩ := q.1.shape
        exact hn _ w' sm ⟨σ, _, ⟨p, c, rfl, rfl, rfl⟩, h4.app .head (q.1.weak (fun g _ hg => .inr hg)) q.2⟩) (fun _ _ _ q => q.elim)⟩⟩
theorem WrA.appendNew {T e : TypeId} {x y : Operand} {ty : TypeId} {r re : Ty} {m c g o : Nat} {news : List Value} (hT : tyOf P T = some r) (hk : r.k = .slice e) (hE : tyOf P e = some re) (hz : re.zero.length = re.size)
    (hs : ev ρ x = .slice none 0 0) (hy : ev ρ y = .slice (some ⟨g, o, none⟩) m c) (hrow : At (Ho σ Γ) g o news)
    (hl : news.length = m * re.size) (h1 : ones news) (hm : 0 < m) (h63 : m ≤ maxLen) (hb : m * re.bytes ≤ 140737488355328) :
    WrA P ρ σ Γ (.call { callee := .builtin .append, args := #[x, y], argTypes := #[T, T] }) ty (fun v' σ' Δ => ∃ p c, v' = .slice p m c ∧ σ = σ' ∧ Δ = lst e re.size (.slice p m c) m news :: Γ) noPA := by
  have h := WrA.appendFull (P := P) (ρ := ρ) (σ := σ) (Γ := Γ) (ty := ty) (p0 := none) (n := 0) (xs := []) hT hk hE hz hs hy (fun j u h => by simp at h) (fun _ => rfl) (by simp) hrow hl h1 hm (by omega) (by simpa using hb)
  simpa only [Nat.zero_add, List.nil_append] using h
theorem blk_frz {g : Nat} {l : List Value} {T : TypeId} : ∀ m, blk g l T m → ∃ _ : Unit, PRow m g 0 l := fun m h => ⟨(), PRow.ofBlk h (by simp)⟩
theorem blk_frz_mono {g : Nat} {l : List Value} : ∀ (_ : Unit) (m m' : PH), PRow m g 0 l → m.sub m' → PRow m' g 0 l := fun _ _ _ h s => h.mono s
theorem dropS {α : Type} {l : List α} {k : Nat} {x : α} (h : l[k]? = some x) : l.drop k = x :: l.drop (k + 1) := by
  obtain ⟨h1, h2⟩ := List.getElem?_eq_some_iff.1 h
  rw [List.drop_eq_getElem_cons h1, h2]
theorem takeS {α : Type} {l : List α} {k : Nat} {x : α} (hk : l[k]? = some x) : l.take (k + 1) = l.take k ++ [x] := by rw [List.take_add_one, hk]; rfl
theorem flatS (rows : List (List Value)) (r : List Value) : (rows ++ [r]).flatten = rows.flatten ++ r := by simp
theorem Rd.appendNone {S : Heap → Prop} {T e : TypeId} {x y : Operand} {ty : TypeId} {r re : Ty} {n c c' : Nat} {p q : Option Addr} (hT : tyOf P T = some r) (hk : r.k = .slice e) (hE : tyOf P e = some re) (hx : ev ρ x = .slice p n c) (hy : ev ρ y = .slice q 0 c') (hnc : n ≤ c) :
    Rd P ρ S (.call { callee := .builtin .append, args := #[x, y], argTypes := #[T, T] }) ty (.slice p n c) := by
  refine .pure fun d pos af gd w => ?_
  obtain ⟨dd, i, z, e1, e2, -⟩ := tyOf_spec hT
  obtain ⟨dd', i', z', e1', e2', e3', e4', -⟩ := tyOf_spec hE
  rw [hk] at e2
  cases dd <;> simp [kindOf] at e2
  rw [e2] at e1
  have hl : ∀ w' : World, (Builtin.lenOf (.slice q 0 c')).run P w' = .ok 0 w' := fun w' => by simp [Builtin.lenOf]
  have hf : (Builtin.firstCells i'.size 0 (.slice q 0 c')).run P w = .ok #[] w := by cases q <;> simp [Builtin.firstCells, loadCells, loadCellsFrom]
  have h : (Builtin.append_ #[T, T] ty #[.slice p n c, .slice q 0 c']).run P w = .ok (.slice p n c) w := by cases p <;> simp [Builtin.append_, run_underlying e1, sizeOf, typeInfo, e3', hl, hnc, hf, storeCells]
  simp only [execOp, resolve, invoke, builtin, Sem.run_bind, Sem.run_pure, Result.andThen_ok, List.map_toArray, List.map_cons, List.map_nil, hx, hy, h]
theorem lst_frz {e size n c : Nat} {p : Option Addr} {xs : List Value} : ∀ m, lst e size (.slice p n c) n xs m → ∃ _ : Unit, n ≤ c ∧ c ≤ maxLen ∧ xs.length = n * size ∧ (0 < n → ∃ g o, p = some ⟨g, o, none⟩ ∧ PRow m g o xs) := by
  rintro m ⟨h1, ⟨h2, rfl⟩ | ⟨g, cap, h2, cur, h3, h4, h5, h6, h7⟩⟩
  · simp only [Value.slice.injEq] at h2
    obtain ⟨rfl, -, rfl⟩ := h2
    exact ⟨(), Nat.le_refl _, by simp [maxLen], h1, fun h => absurd h (Nat.lt_irrefl _)⟩
  · simp only [Value.slice.injEq] at h2
    obtain ⟨rfl, -, rfl⟩ := h2
    exact ⟨(), h4, h5, h1, fun _ => ⟨g, 0, rfl, PRow.ofBlk h3 (by rw [h1]; simpa using h7)⟩⟩
theorem lst_frz_mono {n c k : Nat} {p : Option Addr} {xs : List Value} : ∀ (_ : Unit) (m m' : PH), (n ≤ c ∧ c ≤ maxLen ∧ xs.length = k ∧ (0 < n → ∃ g o, p = some ⟨g, o, none⟩ ∧ PRow m g o xs)) → m.sub m' → (n ≤ c ∧ c ≤ maxLen ∧ xs.length = k ∧ (0 < n → ∃ g o, p = some ⟨g, o, none⟩ ∧ PRow m' g o xs)) :=
  fun _ _ _ ⟨h1, h2, h3, h4⟩ s => ⟨h1, h2, h3, fun h => by obtain ⟨g, o, e, r⟩ := h4 h; exact ⟨g, o, e, r.mono s⟩⟩
structure Rows_ {α : Type} (s : Nat) (R : RT α) (σ : PH) (rows : List (List Value)) (xs : List α) : Prop where
  len : rows.length = xs.length
  size : ∀ row ∈ rows, row.length = s
  row : ∀ (i : Nat) (row : List Value) (x : α), rows[i]? = some row → xs[i]? = some x → R σ row x
theorem Rows_.nil {α : Type} (s : Nat) (R : RT α) (σ : PH) : Rows_ s R σ [] [] := ⟨rfl, by simp, by simp⟩
theorem Rows_.mono {α : Type} {s : Nat} {R : RT α} {σ σ' : PH} {rows : List (List Value)} {xs : List α} (h : Rows_ s R σ rows xs) (hR : ∀ cs x, R σ cs x → R σ' cs x) : Rows_ s R σ' rows xs := ⟨h.len, h.size, fun i row x a b => hR _ _ (h.row i row x a b)⟩
theorem Rows_.snoc {α : Type} {s : Nat} {R : RT α} {σ : PH} {rows : List (List Value)} {xs : List α} (h : Rows_ s R σ rows xs) {row : List Value} {x : α} (hl : row.length = s) (hr : R σ row x) : Rows_ s R σ (rows ++ [row]) (xs ++ [x]) := by
  refine ⟨by simp [h.len], fun r hm => ?_, fun i r y a b => ?_⟩
  · simp only [List.mem_append, List.mem_singleton] at hm
    rcases hm with hm | rfl
    · exact h.size r hm
    · exact hl
  · rcases Nat.lt_or_ge i rows.length with hi | hi
    · rw [List.getElem?_append_left hi] at a
      rw [List.getElem?_append_left (by rw [← h.len]; exact hi)] at b
      exact h.row i r y a b
    · rw [List.getElem?_append_right hi] at a
      rw [List.getElem?_append_right (by rw [← h.len]; exact hi), ← h.len] at b
      cases hq : i - rows.length with
      | zero => rw [hq] at a b; simp at a b; subst a; subst b; exact hr
      | succ q => rw [hq] at a; simp at a
theorem Rows_.psl {α : Type} {s n c k : Nat} {R : RT α} {σ : PH} {rows : List (List Value)} {xs : List α} {p : Option Addr} (h : Rows_ s R σ rows xs) (hn : n = xs.length) (hf : n ≤ c ∧ c ≤ maxLen ∧ rows.flatten.length = k ∧ (0 < n → ∃ g o, p = some ⟨g, o, none⟩ ∧ PRow σ g o rows.flatten)) : PSl s R σ (.slice p n c) xs := by
  subst hn
  exact ⟨p, c, rows, rfl, hf.1, hf.2.1, h.len, h.size, h.row, hf.2.2.2⟩
end X
end Go.Proofs.YtmnmcjdgnpgchaaGreat

namespace Go.Proofs.YtmnmcjdgnpgchaaGreat
open Go X
set_option maxHeartbeats 1000000
structure DiskS where
  l : List (List Int)
  wait : List (Nat × List Int)
namespace DiskS
def ok (d : DiskS) : Prop := d.l.length = 34 ∧ (∀ w ∈ d.l, w.length = 8) ∧ ∀ p ∈ d.wait, p.1 < 34 ∧ p.2.length = 8
def cells (d : DiskS) : List Value := ints d.l.flatten
def wcells (d : DiskS) : List Value := d.wait.flatMap fun p => i64 p.1 :: ints p.2
def last (w : List Int) (at_ : Nat) (ps : List (Nat × List Int)) : List Int := ps.foldl (fun w p => if p.1 = at_ then p.2 else w) w
def zeros : List Int := List.replicate 8 0
def read (d : DiskS) (at_ : Int) : List Int := if 0 ≤ at_ ∧ at_ < 34 then last (d.l.getD at_.toNat zeros) at_.toNat d.wait else zeros
def write (d : DiskS) (at_ : Int) (w : List Int) : DiskS := if 0 ≤ at_ ∧ at_ < 34 then { d with wait := d.wait ++ [(at_.toNat, w)] } else d
def settle (d : DiskS) (is : Nat → Bool) : DiskS := { l := (d.wait.zipIdx.foldl (fun l p => if is p.2 then l.set p.1.1 p.1.2 else l) d.l), wait := [] }
def new : DiskS := { l := List.replicate 34 zeros, wait := [] }
theorem ok_new : new.ok := ⟨by simp [new], by simp [new, zeros], by simp [new]⟩
end DiskS
def Disk (b : Nat) (d : DiskS) : HP := fun m => ∃ sl, Sat [blk b (d.cells ++ [sl]) 109, lst 157 9 sl d.wait.length d.wcells] m ∧ d.ok
theorem Disk.mk {b : Nat} {d : DiskS} {sl : Value} {cs xs : List Value} {n : Nat} (hd : d.ok) (e1 : cs = d.cells) (e2 : n = d.wait.length) (e3 : xs = d.wcells) : ∀ m, Sat [blk b (cs ++ [sl]) 109, lst 157 9 sl n xs] m → Disk b d m := fun _ h => ⟨sl, by subst e1; subst e2; subst e3; exact h, hd⟩

theorem has_a (σ : PH) (a : Int) : CallsA Tryz.prog 100 #[.int .i64 a] σ [] (RetA fun v σ' Γ' => v = .bool (decide (0 ≤ a ∧ a < 34)) ∧ σ = σ' ∧ Γ' = []) := by
  by_cases h0 : 0 ≤ a
  · 
    refine enterA1 Tryz.func100 rfl rfl rfl ?_; refine zS (zR (yS ?_)); refine zN (zT (zS (zR (yA ?_)))); refine zO rfl (Rd.geq rfl rfl) ?_; refine yA ?_
    first | refine gA ?_ | refine zH ?_
    first | (refine zG ?_; refine zO rfl (Rd.lss rfl rfl) ?_) | refine zH ?_
    refine zO rfl zP ?_; refine yS ?_; refine zN (zT (XA.ret ?_))
    exact bodyA.ret (ResA.one rfl rfl) (Ent.refl _) ⟨by simp [h0], rfl, rfl⟩
  · 
    refine enterA1 Tryz.func100 rfl rfl rfl ?_; refine zS (zR (yS ?_)); refine zN (zT (zS (zR (yA ?_)))); refine zO rfl (Rd.geq rfl rfl) ?_; refine yA ?_
    first | refine gA ?_ | refine zH ?_
    first | (refine zG ?_; refine zO rfl (Rd.lss rfl rfl) ?_) | refine zH ?_
    refine zO rfl zP ?_; refine yS ?_; refine zN (zT (XA.ret ?_))
    exact bodyA.ret (ResA.one rfl rfl) (Ent.refl _) ⟨by simp [h0], rfl, rfl⟩
theorem Disk.opn {b : Nat} {d : DiskS} : ∀ m, Disk b d m → ∃ x : Option Addr × Nat, d.ok ∧ Sat [blk b (d.cells ++ [.slice x.1 d.wait.length x.2]) 109, lst 157 9 (.slice x.1 d.wait.length x.2) d.wait.length d.wcells] m := by
  rintro m ⟨sl, h, ok⟩
  obtain ⟨m1, m2, a, ⟨m3, m4, b, c⟩, e⟩ := h
  obtain ⟨x, ⟨rfl, -⟩, -⟩ := lst_shape _ b
  exact ⟨x, ok, m1, m2, a, ⟨m3, m4, b, c⟩, e⟩
theorem len_cells {d : DiskS} (hd : d.ok) : d.cells.length = 272 := by
  have : ∀ (l : List (List Int)), (∀ w ∈ l, w.length = 8) → l.flatten.length = l.length * 8 := by
    intro l
    induction l with
    | nil => intro _; rfl
    | cons a l ih => intro hl; simp [ih (fun w hw => hl w (by simp [hw])), hl a (by simp)]; omega
  rw [DiskS.cells, ints, List.length_map, this d.l hd.2.1, hd.1]
theorem write_pos {d : DiskS} {a : Int} {w : List Int} (hc : 0 ≤ a ∧ a < 34) : d.write a w = { d with wait := d.wait ++ [(a.toNat, w)] } := by rw [DiskS.write, if_pos hc]
theorem write_neg {d : DiskS} {a : Int} {w : List Int} (hc : ¬ (0 ≤ a ∧ a < 34)) : d.write a w = d := by rw [DiskS.write, if_neg hc]
theorem DiskS.ok.write {d : DiskS} (hd : d.ok) {a : Int} {w : List Int} (hw : w.length = 8) : (d.write a w).ok := by
  by_cases hc : 0 ≤ a ∧ a < 34
  · rw [write_pos hc]
    refine ⟨hd.1, hd.2.1, fun p hp => ?_⟩
    simp only [List.mem_append, List.mem_singleton] at hp
    rcases hp with hp | rfl
    · exact hd.2.2 p hp
    · exact ⟨by simp only; omega, hw⟩
  · rw [write_neg hc]; exact hd
theorem dlast {d : DiskS} (hd : d.ok) (sl : Value) : (d.cells ++ [sl])[272]? = some sl := by rw [List.getElem?_append_right (by rw [len_cells hd]; exact Nat.le_refl _)]; simp [len_cells hd]
theorem dput {d : DiskS} (hd : d.ok) (sl sl' : Value) : splice (d.cells ++ [sl]) 272 [sl'] = d.cells ++ [sl'] := by simp [splice, len_cells hd]
theorem write_a (σ : PH) (b : Nat) (d : DiskS) (a : Int) (w : List Int) (hw : w.length = 8) (hlen : d.wait.length < 1000000) :
    CallsA Tryz.prog 131 #[ptr b, i64 a, wv w] σ [Disk b d] (RetA fun v σ' Γ' => v = .bool (decide (0 ≤ a ∧ a < 34)) ∧ σ = σ' ∧ Γ' = [Disk b (d.write a w)]) := by
  refine enterA3 Tryz.func131 rfl rfl rfl ?_; refine zS (zR ?_); refine zw rfl WrA.bx ?_
  rintro _ _ _ ⟨g5, rfl, rfl, rfl⟩
  refine yS ?_; refine zN (zT (zS (zS (zR (yA ?_))))); refine yC (has_a σ a) ?_; refine zN (zT ?_)
  first | refine XA.opn (R := Disk b d) zL (Disk.opn) ?_ | refine XOA.opn (R := Disk b d) zL (Disk.opn) ?_ | refine DA.opn (R := Disk b d) zL (Disk.opn) ?_
  rintro ⟨pp, cc⟩ hok
  first | refine XA.cl ?_ | refine XOA.cl ?_ | refine DA.cl ?_
  have h1 := dlast hok (.slice pp d.wait.length cc)
  have hspl := dput hok (.slice pp d.wait.length cc)
  have hl := len_cells hok
  refine XA.condp rfl (fun hc => ?_) (fun hc => ?_)
  · skip
    refine XA.draw (by kernel_rfl) _ _ [9, 12] [(0, .pu), (1, .pu), (2, .pu), (3, .pu), (4, .rd), (5, .pu), (6, .rd), (7, .pu), (8, .wr), (9, .wr), (10, .pu), (11, .pu), (12, .wr)] (by kernel_rfl) (PH.sub.refl _) (Ent.sel (R := blk b _ _) zL (Ent.sel (R := blk g5 _ _) zL (Ent.nil _))) ?_
    refine zu rfl rfl Rd.mv ?_; refine zu rfl rfl Rd.mv ?_; refine zu rfl rfl (Rd.nilCheck rfl) ?_; refine zu rfl rfl (Rd.fA rfl) ?_; refine XPA.rd rfl rfl Gd.free (Rd.ldC rfl (tyrow rfl) rfl) ?_; refine zu rfl rfl Rd.mv ?_; refine XPA.rd rfl rfl Gd.free (Rd.ldA rfl) ?_
    refine zu rfl rfl (Rd.bl (fun _ _ => tyrow) rfl rfl rfl) ?_; refine XPA.wr0 rfl rfl Gd.free (WrA.bs1 (tyrow rfl) rfl (tyrow rfl)) ?_
    rintro _ _ _ ⟨g17, rfl, rfl, rfl⟩
    refine stays ?_
    refine XPA.wrZ0 rfl rfl Gd.free (by kernel_rfl) (WrA.ap1 (tyrow rfl) rfl (tyrow rfl) rfl rfl rfl) ?_
    rintro _ _ _ ⟨p18, c18, rfl, rfl, rfl⟩
    refine zu rfl rfl (Rd.nilCheck rfl) ?_; refine zu rfl rfl (Rd.fA rfl) ?_
    refine XPA.wrZ0 rfl rfl Gd.free (by kernel_rfl) (WrA.st (tyrow rfl) rfl) ?_
    rintro _ _ _ ⟨rfl, rfl, rfl⟩
    refine XPA.nil ?_; refine zT (zS (zR (yA ?_))); refine yC (has_a σ a) ?_; refine yS ?_; refine zN (zT (XA.ret ?_))
    refine bodyA.ret (ResA.one rfl rfl) (Ent.fold1 zE (Disk.mk (hok.write hw) ?_ ?_ ?_)) ⟨rfl, rfl, rfl⟩
    · rw [write_pos hc]; rfl
    · rw [write_pos hc]; simp
    · rw [write_pos hc]; simp only [DiskS.wcells, List.flatMap_append, List.flatMap_cons, List.flatMap_nil, List.append_nil, Int.toNat_of_nonneg hc.1]
  · refine XA.skip ?_
    refine zT (zS (zR (yA ?_))); refine yC (has_a σ a) ?_; refine yS ?_; refine zN (zT (XA.ret ?_))
    exact bodyA.ret (ResA.one rfl rfl) (Ent.fold1 zE (Disk.mk hok rfl rfl rfl)) ⟨rfl, rfl, by rw [write_neg hc]⟩
theorem take_snoc {α : Type} {l : List α} {k : Nat} {x : α} (hk : l[k]? = some x) : l.take (k + 1) = l.take k ++ [x] := by
  rw [List.take_add_one, hk]; rfl
theorem last_snoc (w : List Int) (n : Nat) (ps : List (Nat × List Int)) (p : Nat × List Int) : DiskS.last w n (ps ++ [p]) = if p.1 = n then p.2 else DiskS.last w n ps := by simp [DiskS.last]
theorem wrow {d : DiskS} (hd : d.ok) {k : Nat} {p : Nat × List Int} (hk : d.wait[k]? = some p) : (d.wcells.drop (k * 9)).take (i64 p.1 :: ints p.2).length = i64 p.1 :: ints p.2 :=
  flat_row (fun p : Nat × List Int => i64 p.1 :: ints p.2) 9 d.wait (fun x hx => by simp [(hd.2.2 x hx).2]) k p hk
theorem srow {d : DiskS} (hd : d.ok) {k : Nat} {w : List Int} (hk : d.l[k]? = some w) (sl : Value) : ((d.cells ++ [sl]).drop (k * 8)).take 8 = ints w := by
  have h1 := flat_row (fun w => ints w) 8 d.l (fun x hx => by simp [hd.2.1 x hx]) k w hk
  have hlt : k < 34 := by rw [← hd.1]; exact (List.getElem?_eq_some_iff.1 hk).1
  have h2 : d.cells = d.l.flatMap (fun w => ints w) := by simp [DiskS.cells, ints, List.flatMap, List.map_flatten]
  have hcl := len_cells hd
  have hw : w.length = 8 := hd.2.1 w (List.mem_of_getElem? hk)
  rw [show (ints w).length = 8 from by simp [hw]] at h1
  rw [List.drop_append_of_le_length (by omega), List.take_append_of_le_length (by simp; omega), h2]
  exact h1
theorem len_last {w : List Int} (hw : w.length = 8) (n : Nat) : ∀ (ps : List (Nat × List Int)), (∀ p ∈ ps, p.2.length = 8) → (DiskS.last w n ps).length = 8 := by
  intro ps
  induction ps generalizing w with
  | nil => intro _; exact hw
  | cons p ps ih =>
    intro hp
    simp only [DiskS.last, List.foldl_cons]
    refine ih ?_ (fun q hq => hp q (by simp [hq]))
    split
    · exact hp p (by simp)
    · exact hw
theorem read_a (σ : PH) (b : Nat) (d : DiskS) (a : Int) (hlen : d.wait.length < 1000000) :
    CallsA Tryz.prog 76 #[ptr b, i64 a] σ [Disk b d] (RetA fun v σ' Γ' => v = wv (d.read a) ∧ σ = σ' ∧ Γ' = [Disk b d]) := by
  refine enterA2 Tryz.func76 rfl rfl rfl ?_; refine zS (zR ?_); refine zw rfl (WrA.alloc (tyrow rfl)) ?_
  rintro _ _ _ ⟨g4, rfl, rfl, rfl⟩
  refine zN (zT (zS (zS (zR (yA ?_))))); refine yC (has_a σ a) ?_; refine zO rfl zJ ?_; refine zN (zT ?_); refine XA.condp rfl (fun hc => ?_) (fun hc => ?_)
  · refine zS ?_
    refine zR ?_; refine zO rfl (Rd.blA (fun _ _ => tyrow) rfl rfl rfl) ?_; refine zw rfl (WrA.st (tyrow rfl) rfl) ?_
    rintro _ _ _ ⟨rfl, rfl, rfl⟩
    refine zN (zT (XA.ret (DA.thn_ret ?_)))
    refine bodyA.ret (ResA.cell rfl rfl (Ld.atBlk (tyrow rfl) rfl zL rfl (by first | exact take0 (by first | rfl | assumption | (refine (ints_len _).trans ?_; assumption) | (simp [*]; (first | done | fail))) | assumption | exact take_app (by first | rfl | assumption | (refine (ints_len _).trans ?_; assumption) | (simp [*]; (first | done | fail))) | (conv => lhs; simp only [List.drop_succ_cons, List.drop_zero, List.take_succ_cons, List.take_zero])) (by first | rfl | assumption | (refine (ints_len _).trans ?_; assumption) | (simp [*]; (first | done | fail))))) zE ⟨?_, rfl, rfl⟩
    rw [DiskS.read, if_neg hc]; rfl
  · have hc : 0 ≤ a ∧ a < 34 := Decidable.not_not.1 hc
    first | refine XA.opn (R := Disk b d) zL (Disk.opn) ?_ | refine XOA.opn (R := Disk b d) zL (Disk.opn) ?_ | refine DA.opn (R := Disk b d) zL (Disk.opn) ?_
    rintro ⟨pp, cc⟩ hok
    first | refine XA.cl ?_ | refine XOA.cl ?_ | refine DA.cl ?_
    obtain ⟨w0, hw0⟩ : ∃ w0, d.l[a.toNat]? = some w0 := ⟨_, List.getElem?_eq_getElem (by rw [hok.1]; omega)⟩
    have hw8 : w0.length = 8 := hok.2.1 w0 (List.mem_of_getElem? hw0)
    have hr0 := srow hok hw0 (.slice pp d.wait.length cc)
    have hcw := dlast hok (.slice pp d.wait.length cc)
    have hrd : d.read a = DiskS.last w0 a.toNat d.wait := by rw [DiskS.read, if_pos hc, List.getD_eq_getElem?_getD, hw0]; rfl
    refine XA.skip (zT (zS (zR (yA ?_)))); refine yA ?_; refine zO rfl (Rd.nilCheck rfl) ?_; refine yV ?_; refine zO rfl (Rd.ixA rfl rfl) ?_; refine zO rfl (Rd.ldA rfl) ?_; refine zw rfl (WrA.alloc (tyrow rfl)) ?_
    rintro _ _ _ ⟨g5, rfl, rfl, rfl⟩
    refine zw rfl (WrA.st (tyrow rfl) rfl) ?_
    rintro _ _ _ ⟨rfl, rfl, rfl⟩
    refine zN (zT (zS (zS (zR (yA ?_))))); refine zO rfl (Rd.nilCheck rfl) ?_; refine yV ?_; refine yB ?_; refine zO rfl (Rd.lenSlice (tyrow rfl) rfl rfl) ?_; refine yA ?_; refine zN (zT (XA.block ?_))
    refine XA.gen [(1, _), (4, _), (5, _), (21, _), (22, _), (23, _)] ⟨(by with_reducible (conv => lhs; whnf)), (by with_reducible (conv => lhs; whnf)), (by with_reducible (conv => lhs; whnf)), (by with_reducible (conv => lhs; whnf)), (by with_reducible (conv => lhs; whnf)), (by with_reducible (conv => lhs; whnf)), trivial⟩ (fun δ => ?_)
    dsimp only [List.foldl]
    refine XA.loop [(7, 7), (23, 33)] (fun k : Nat => [(23, i64 k)]) (fun k σ' Γ' => σ = σ' ∧ k ≤ d.wait.length ∧ Γ' = [blk g5 (ints (DiskS.last w0 a.toNat (d.wait.take k))) 105, blk g4 ty105.zero 105, blk b (d.cells ++ [.slice pp d.wait.length cc]) 109, lst 157 9 (.slice pp d.wait.length cc) d.wait.length d.wcells]) (fun k => d.wait.length - k) 0 (by exact ⟨rfl, trivial⟩) (Δ0 := _) ?_ (⟨rfl, Nat.zero_le _, rfl⟩) ?_
    · exact zE
    rintro k δ _ _ ⟨rfl, hk, rfl⟩
    dsimp only [ovr, List.foldl]
    have hl8 : (DiskS.last w0 a.toNat (d.wait.take k)).length = 8 := len_last hw8 _ _ (fun p hp => (hok.2.2 p (List.mem_of_mem_take hp)).2)
    refine zS (zR (zO rfl (Rd.lss rfl rfl) ?_)); refine zN (zT (zS ?_)); refine XA.condp rfl (fun hlt => ?_) (fun hlt => ?_)
    · have hlt : k < d.wait.length := by omega
      obtain ⟨p, hp⟩ : ∃ p, d.wait[k]? = some p := ⟨_, List.getElem?_eq_getElem hlt⟩
      have hp8 : p.2.length = 8 := (hok.2.2 p (List.mem_of_getElem? hp)).2
      have hrow : (d.wcells.drop (k * 9)).take 9 = i64 p.1 :: ints p.2 := by have := wrow hok hp; simpa [hp8] using this
      have hsn := take_snoc hp
      first | refine XA.opn (R := lst 157 9 (.slice pp d.wait.length cc) _ _) zL (lst_some (by omega)) ?_ | refine XOA.opn (R := lst 157 9 (.slice pp d.wait.length cc) _ _) zL (lst_some (by omega)) ?_ | refine DA.opn (R := lst 157 9 (.slice pp d.wait.length cc) _ _) zL (lst_some (by omega)) ?_
      rintro g rfl
      first | refine XA.cl ?_ | refine XOA.cl ?_ | refine DA.cl ?_
      refine XA.skip (zT (zS (XA.block (zS (zR (zO rfl (Rd.ixS rfl rfl) ?_)))))); refine zO rfl (Rd.ldA rfl) ?_; refine zw rfl (WrA.alloc (tyrow rfl)) ?_
      rintro _ _ _ ⟨g7, rfl, rfl, rfl⟩
      refine zw rfl (WrA.st (tyrow rfl) rfl) ?_
      rintro _ _ _ ⟨rfl, rfl, rfl⟩
      refine zN (zT (zS (zR (yV ?_)))); refine yB ?_; refine yA ?_; refine yE ?_; refine zN (zT ?_); refine XA.condp rfl (fun heq => ?_) (fun heq => ?_)
      · refine zR ?_
        refine yV ?_; refine zO rfl (Rd.ldA rfl) ?_; refine zw rfl (WrA.st (tyrow rfl) rfl) ?_
        rintro _ _ _ ⟨rfl, rfl, rfl⟩
        refine zN (DA.inb_normal (zT (zR (zO rfl zI ?_)))); refine yA ?_; refine zN (zT ?_)
        have e : DiskS.last w0 a.toNat (d.wait.take (k + 1)) = p.2 := by rw [hsn, last_snoc, if_pos (by omega)]
        refine ⟨(Keep.upd (Keep.upd (Keep.updN (Keep.upd (Keep.upd (Keep.upd (Keep.upd (Keep.upd (Keep.upd (Keep.updN (Keep.updO (Keep.upd (Keep.upd (Keep.upd (Keep.upd (Keep.hav (Keep.hav (Keep.refl _ _) rfl) rfl) rfl) rfl) rfl) rfl) rfl)) rfl) rfl) rfl) rfl) rfl) rfl)) rfl) rfl), k + 1, _, zM, ?_, ⟨rfl, hlt, rfl⟩, (by omega)⟩
        · rw [e]; exact zE
      · refine XA.skip ?_
        refine DA.inb_normal (zT (zR (zO rfl zI ?_))); refine yA ?_; refine zN (zT ?_)
        have e : DiskS.last w0 a.toNat (d.wait.take (k + 1)) = DiskS.last w0 a.toNat (d.wait.take k) := by rw [hsn, last_snoc, if_neg (by omega)]
        refine ⟨(Keep.upd (Keep.upd (Keep.upd (Keep.upd (Keep.upd (Keep.upd (Keep.updN (Keep.updO (Keep.upd (Keep.upd (Keep.upd (Keep.upd (Keep.hav (Keep.hav (Keep.refl _ _) rfl) rfl) rfl) rfl) rfl) rfl) rfl)) rfl) rfl) rfl) rfl) rfl) rfl), k + 1, _, zM, ?_, ⟨rfl, hlt, rfl⟩, (by omega)⟩
        · rw [e]; exact zE
    · have hkn : k = d.wait.length := by omega
      subst hkn
      rw [List.take_length] at *
      refine XA.exit (DA.thn_exit (DA.thn_exit (DA.inb_same (zT (zS (zR (zO rfl (Rd.ldA rfl) ?_))))))); refine zw rfl (WrA.st (tyrow rfl) rfl) ?_
      rintro _ _ _ ⟨rfl, rfl, rfl⟩
      refine zN (zT (XA.ret ?_))
      exact bodyA.ret (ResA.cell rfl rfl (Ld.atBlk (tyrow rfl) rfl zL rfl (by first | exact take0 (by first | rfl | assumption | (refine (ints_len _).trans ?_; assumption) | (simp [*]; (first | done | fail))) | assumption | exact take_app (by first | rfl | assumption | (refine (ints_len _).trans ?_; assumption) | (simp [*]; (first | done | fail))) | (conv => lhs; simp only [List.drop_succ_cons, List.drop_zero, List.take_succ_cons, List.take_zero])) (by first | rfl | assumption | (refine (ints_len _).trans ?_; assumption) | (simp [*]; (first | done | fail))))) (Ent.fold1 zE (Disk.mk (sl := .slice pp d.wait.length cc) hok rfl rfl rfl)) ⟨by rw [hrd]; rfl, rfl, rfl⟩
theorem new_a (σ : PH) : CallsA Tryz.prog 24 #[] σ [] (RetA fun v σ' Γ' => ∃ b, v = ptr b ∧ σ = σ' ∧ Γ' = [Disk b DiskS.new]) := by
  refine enterA0 Tryz.func24 rfl rfl rfl ?_; refine zS (zR (yS ?_)); refine zN (zT (zS (zR ?_))); refine zO rfl (Rd.bl (fun _ _ => tyrow) rfl rfl rfl) ?_; refine zw rfl WrA.bx ?_
  rintro _ _ _ ⟨g2, rfl, rfl, rfl⟩
  refine yS ?_; refine zN (zT (XA.ret ?_))
  have hw : ty109.zero = DiskS.new.cells ++ [.slice none 0 0] := by simp only [DiskS.cells, DiskS.new, DiskS.zeros, ints, List.flatten_replicate_replicate, List.map_replicate]; rfl
  rw [show (Value.int IntKind.i64 0 :: (List.replicate 271 (Value.int IntKind.i64 0)).append (List.replicate 1 (Value.slice none 0 0))) = ty109.zero from rfl, hw]
  exact bodyA.ret (ResA.one rfl rfl) (Ent.fold1 zE (Disk.mk (sl := .slice none 0 0) (n := 0) (xs := []) DiskS.ok_new rfl rfl rfl)) ⟨_, rfl, rfl, rfl⟩
end Go.Proofs.YtmnmcjdgnpgchaaGreat

namespace Go.Proofs.YtmnmcjdgnpgchaaGreat
open Go X
set_option maxHeartbeats 1000000
def bitOf (m : Int) (k : Nat) : Bool := decide (m.toNat / 2 ^ (k % 64) % 2 = 1)
theorem and1 (x : Int) (h0 : 0 ≤ x) (h1 : x < 18446744073709551616) : IntKind.u64.wrap ((BitVec.ofInt 64 x &&& BitVec.ofInt 64 1).toNat : Int) = x % 2 := by
  obtain ⟨n, rfl⟩ := Int.eq_ofNat_of_zero_le h0
  have hn : n < 18446744073709551616 := by omega
  have e : (BitVec.ofInt 64 (n : Int) &&& BitVec.ofInt 64 1).toNat = n % 2 := by
    have : (BitVec.ofInt 64 (1 : Int)) = 1#64 := by decide
    rw [this, BitVec.toNat_and]
    simp [Nat.and_one_is_mod]
  rw [e]
  show IntKind.u64.wrap _ = _
  have := Nat.mod_lt n (show 0 < 2 by omega)
  have hw : ∀ q : Int, 0 ≤ q → q < 18446744073709551616 → IntKind.u64.wrap q = q := fun q a b => by simp [IntKind.wrap, IntKind.bits, IntKind.signed]; omega
  rw [hw _ (by omega) (by omega)]
  omega
theorem splice_flat {l : List (List Int)} (hl : ∀ w ∈ l, w.length = 8) {n : Nat} (hn : n < l.length) {w : List Int} (hw : w.length = 8) (sl : Value) : splice (ints l.flatten ++ [sl]) (n * 8) (ints w) = ints (l.set n w).flatten ++ [sl] := by
  have key : ∀ (l : List (List Int)), (∀ w ∈ l, w.length = 8) → ∀ n, n < l.length → (l.flatten).take (n * 8) ++ w ++ (l.flatten).drop (n * 8 + 8) = (l.set n w).flatten := by
    intro l
    induction l with
    | nil => intro _ n hn; simp at hn
    | cons a l ih =>
      intro hl n hn
      have ha : a.length = 8 := hl a (by simp)
      cases n with
      | zero => simp [← ha]
      | succ n =>
        have := ih (fun x hx => hl x (by simp [hx])) n (by simpa using hn)
        simp only [List.flatten_cons, List.set_cons_succ]
        rw [← this, Nat.succ_mul, Nat.add_comm (n * 8) 8, ← ha, List.take_length_add_append, Nat.add_assoc, List.drop_length_add_append]
        simp [Nat.add_comm]
  have hlen : l.flatten.length = l.length * 8 := by
    have := flat_len (fun w : List Int => ints w) 8 l (fun x hx => by simp [hl x hx])
    simpa [List.flatMap, ← List.map_flatten, ints] using this
  have hle : n * 8 + 8 ≤ l.flatten.length := by rw [hlen]; omega
  unfold splice
  rw [List.take_append_of_le_length (by rw [ints, List.length_map]; omega), List.drop_append_of_le_length (by rw [ints, ints, List.length_map, List.length_map]; omega), ← key l hl n hn]
  simp [ints, List.map_take, List.map_drop, hw]
def DiskS.part (d : DiskS) (is : Nat → Bool) (n : Nat) : List (List Int) := ((d.wait.zipIdx).take n).foldl (fun l p => if is p.2 then l.set p.1.1 p.1.2 else l) d.l
theorem part_ok {d : DiskS} (hd : d.ok) (is : Nat → Bool) (n : Nat) : (d.part is n).length = 34 ∧ ∀ w ∈ d.part is n, w.length = 8 := by
  have gen : ∀ (ps : List ((Nat × List Int) × Nat)) (l : List (List Int)), (∀ p ∈ ps, p.1.2.length = 8) → l.length = 34 → (∀ w ∈ l, w.length = 8) → (ps.foldl (fun l p => if is p.2 then l.set p.1.1 p.1.2 else l) l).length = 34 ∧ ∀ w ∈ ps.foldl (fun l p => if is p.2 then l.set p.1.1 p.1.2 else l) l, w.length = 8 := by
    intro ps
    induction ps with
    | nil => intro l _ h1 h2; exact ⟨h1, h2⟩
    | cons p ps ih =>
      intro l hp h1 h2
      simp only [List.foldl_cons]
      refine ih _ (fun q hq => hp q (by simp [hq])) ?_ ?_
      · split <;> simp [h1]
      · intro w hw
        split at hw
        · rcases List.mem_or_eq_of_mem_set hw with hw | rfl
          · exact h2 w hw
          · exact hp p (by simp)
        · exact h2 w hw
  refine gen _ _ (fun p hp => ?_) hd.1 hd.2.1
  have := List.mem_of_mem_take hp
  obtain ⟨q, k⟩ := p
  have hq := (List.mem_zipIdx this).2.2
  exact (hd.2.2 _ (by rw [hq]; exact List.getElem_mem _)).2
theorem part_succ (d : DiskS) (is : Nat → Bool) {n : Nat} {p : Nat × List Int} (hp : d.wait[n]? = some p) : d.part is (n + 1) = if is n then (d.part is n).set p.1 p.2 else d.part is n := by
  have : (d.wait.zipIdx)[n]? = some (p, n) := by simp [List.getElem?_zipIdx, hp]
  rw [DiskS.part, take_snoc this, List.foldl_append]
  rfl
theorem flush1_a (σ : PH) (k : Int) : CallsA Tryz.prog 133 #[i64 k] σ [emp] (RetA fun v σ' Γ' => v = .bool true ∧ σ = σ' ∧ Γ' = [emp]) := by
  refine enterA1 Tryz.func133 rfl rfl rfl ?_; refine zS (zR (yS ?_)); refine zN (zT (zS (zR (yS ?_)))); refine zN (zT (XA.ret ?_))
  exact bodyA.ret (ResA.one rfl rfl) (Ent.refl _) ⟨rfl, rfl, rfl⟩
theorem crash1_a (σ : PH) (k : Nat) (m : Int) (g : Nat) (hm0 : 0 ≤ m) (hm1 : m < 18446744073709551616) : CallsA Tryz.prog 63 #[i64 k, ptr g] σ [blk g [.int .u64 m] 43] (RetA fun v σ' Γ' => v = .bool (bitOf m k) ∧ σ = σ' ∧ Γ' = [blk g [.int .u64 m] 43]) := by
  refine enterA2 Tryz.func63 rfl rfl rfl ?_; refine zS (zR (yS ?_)); refine zN (zT (zS (zR (yB ?_)))); refine yA ?_
  refine zO rfl (Rd.remi (c := ((k % 64 : Nat) : Int)) rfl rfl (by decide) (by rw [Int.tmod_eq_emod_of_nonneg (by omega)]; omega)) ?_
  have hsh : (m.fdiv (2 ^ (min (Int.toNat ((k % 64 : Nat) : Int)) IntKind.u64.bits))) = ((m.toNat / 2 ^ (k % 64) : Nat) : Int) := by
    have hk : min (Int.toNat ((k % 64 : Nat) : Int)) IntKind.u64.bits = k % 64 := by simp [IntKind.bits]; omega
    rw [hk]
    obtain ⟨n, rfl⟩ := Int.eq_ofNat_of_zero_le hm0
    rw [Int.fdiv_eq_ediv_of_nonneg _ (by exact Int.le_of_lt (Int.pow_pos (by decide)))]
    simp
  have hand : IntKind.u64.wrap ((BitVec.ofInt 64 ((m.toNat / 2 ^ (k % 64) : Nat) : Int) &&& BitVec.ofInt 64 1).toNat : Int) = ((m.toNat / 2 ^ (k % 64) % 2 : Nat) : Int) := by
    have hle : m.toNat / 2 ^ (k % 64) ≤ m.toNat := Nat.div_le_self _ _
    have := and1 ((m.toNat / 2 ^ (k % 64) : Nat) : Int) (Int.natCast_nonneg _) (by omega)
    rw [this]
    generalize m.toNat / 2 ^ (k % 64) = q
    omega
  refine zO rfl (Rd.shri (c := ((m.toNat / 2 ^ (k % 64) : Nat) : Int)) rfl rfl (by omega) hsh) ?_; refine zO rfl (Rd.andi (c := ((m.toNat / 2 ^ (k % 64) % 2 : Nat) : Int)) rfl rfl hand) ?_; refine yE ?_; refine yS ?_; refine zN (zT (XA.ret ?_))
  refine bodyA.ret (ResA.one rfl rfl) zE ⟨?_, rfl, rfl⟩
  unfold bitOf
  generalize m.toNat / 2 ^ (k % 64) = q
  exact congrArg Value.bool (decide_eq_decide.2 (by omega))
def Says (f : FuncId) (cap : List Value) (p : Nat → Bool) (C : HP) : Prop := ∀ (σ : PH) (k : Nat), CallsA Tryz.prog f (i64 k :: cap).toArray σ [C] (RetA fun v σ' Γ' => v = .bool (p k) ∧ σ = σ' ∧ Γ' = [C])
theorem settle_a (σ : PH) (b : Nat) (d : DiskS) (f : FuncId) (cap : List Value) (p : Nat → Bool) (C : HP) (hlen : d.wait.length < 1000000) (hs : Says f cap p C) :
    CallsA Tryz.prog 62 #[ptr b, .func (.func f) (List.toArray []) cap.toArray] σ [Disk b d, C] (RetA fun v σ' Γ' => v = .tuple #[] ∧ σ = σ' ∧ Γ' = [Disk b (d.settle p), C]) := by
  refine enterA2 Tryz.func62 rfl rfl rfl ?_; refine zS (zS (zR (yA ?_)))
  first | refine XA.opn (R := Disk b d) zL (Disk.opn) ?_ | refine XOA.opn (R := Disk b d) zL (Disk.opn) ?_ | refine DA.opn (R := Disk b d) zL (Disk.opn) ?_
  rintro ⟨pp, cc⟩ hok
  first | refine XA.cl ?_ | refine XOA.cl ?_ | refine DA.cl ?_
  have h1 := dlast hok (.slice pp d.wait.length cc)
  have hcl := len_cells hok
  refine zO rfl (Rd.nilCheck rfl) ?_; refine yV ?_; refine yB ?_; refine zO rfl (Rd.lenSlice (tyrow rfl) rfl rfl) ?_; refine yA ?_; refine zN (zT (XA.block ?_))
  refine XA.gen [(0, _), (1, _), (9, _), (10, _), (11, _)] ⟨(by with_reducible (conv => lhs; whnf)), (by with_reducible (conv => lhs; whnf)), (by with_reducible (conv => lhs; whnf)), (by with_reducible (conv => lhs; whnf)), (by with_reducible (conv => lhs; whnf)), trivial⟩ (fun δ => ?_)
  dsimp only [List.foldl]
  refine XA.loop [(4, 5), (11, 27)] (fun k : Nat => [(11, i64 k)]) (fun k σ' Γ' => σ = σ' ∧ k ≤ d.wait.length ∧ Γ' = [blk b (ints (d.part p k).flatten ++ [.slice pp d.wait.length cc]) 109, lst 157 9 (.slice pp d.wait.length cc) d.wait.length d.wcells, C]) (fun k => d.wait.length - k) 0 (by exact ⟨rfl, trivial⟩) (Δ0 := _) ?_ (⟨rfl, Nat.zero_le _, rfl⟩) ?_
  · exact zE
  rintro k δ _ _ ⟨rfl, hk, rfl⟩
  dsimp only [ovr, List.foldl]
  have hpo := part_ok hok p k
  refine zS (zR (zO rfl (Rd.lss rfl rfl) ?_)); refine zN (zT (zS ?_)); refine XA.condp rfl (fun hlt => ?_) (fun hlt => ?_)
  · have hlt : k < d.wait.length := by omega
    obtain ⟨q, hq⟩ : ∃ q, d.wait[k]? = some q := ⟨_, List.getElem?_eq_getElem hlt⟩
    have hq8 : q.2.length = 8 := (hok.2.2 q (List.mem_of_getElem? hq)).2
    have hqa : q.1 < 34 := (hok.2.2 q (List.mem_of_getElem? hq)).1
    have hrow : (d.wcells.drop (k * 9)).take 9 = i64 q.1 :: ints q.2 := by have := wrow hok hq; simpa [hq8] using this
    first | refine XA.opn (R := lst 157 9 (.slice pp d.wait.length cc) _ _) zL (lst_some (by omega)) ?_ | refine XOA.opn (R := lst 157 9 (.slice pp d.wait.length cc) _ _) zL (lst_some (by omega)) ?_ | refine DA.opn (R := lst 157 9 (.slice pp d.wait.length cc) _ _) zL (lst_some (by omega)) ?_
    rintro g rfl
    first | refine XA.cl ?_ | refine XOA.cl ?_ | refine DA.cl ?_
    refine XA.skip (zT (zS (XA.block (zS (zR (yA ?_)))))); refine zO rfl (Rd.ixS rfl rfl) ?_; refine zO rfl (Rd.ldA rfl) ?_; refine zw rfl (WrA.alloc (tyrow rfl)) ?_
    rintro _ _ _ ⟨g5, rfl, rfl, rfl⟩
    refine yS ?_; refine zw rfl (WrA.st (tyrow rfl) rfl) ?_
    rintro _ _ _ ⟨rfl, rfl, rfl⟩
    refine zN (zT (zS (zR (yA ?_)))); refine yA ?_; refine zw rfl (WrA.cV (first := []) (cap := cap) rfl (hs σ k) rfl) ?_
    rintro _ _ _ ⟨_, ⟨rfl, rfl, rfl⟩, rfl⟩
    refine XOA.cl ?_; refine zN (zT ?_)
    have hspl := splice_flat hpo.2 (n := q.1) (by omega) hq8 (.slice (some ⟨g, 0, none⟩) d.wait.length cc)
    have hfit : q.1 * 8 + 8 ≤ (ints (d.part p k).flatten ++ [Value.slice (some ⟨g, 0, none⟩) d.wait.length cc]).length := by
      have := flat_len (fun w : List Int => ints w) 8 (d.part p k) (fun x hx => by simp [hpo.2 x hx])
      have e : ((d.part p k).flatMap fun w => ints w).length = (ints (d.part p k).flatten).length := by simp [List.flatMap, ints, List.map_flatten]
      rw [List.length_append, ← e, this, hpo.1]; simp; omega
    have hps := part_succ d p hq
    refine XA.cond rfl (fun hpk => ?_) (fun hpk => ?_)
    · skip
      refine XA.draw (by kernel_rfl) _ _ [8] [(0, .pu), (1, .pu), (2, .rd), (3, .pu), (4, .rd), (5, .pu), (6, .pu), (7, .pu), (8, .wr)] (by kernel_rfl) (PH.sub.refl _) (Ent.sel (R := blk g5 _ _) zL (Ent.nil _)) ?_
      refine zu rfl rfl Rd.mv ?_; refine zu rfl rfl (Rd.fA rfl) ?_; refine XPA.rd rfl rfl Gd.free (Rd.ldC rfl (tyrow rfl) rfl) ?_; refine zu rfl rfl (Rd.fA rfl) ?_; refine XPA.rd rfl rfl Gd.free (Rd.ldA rfl) ?_; refine zu rfl rfl (Rd.nilCheck rfl) ?_; refine zu rfl rfl (Rd.fA rfl) ?_
      refine zu rfl rfl (Rd.ixA rfl rfl) ?_
      refine XPA.wrZ0 rfl rfl Gd.free (by kernel_rfl) (WrA.st (tyrow rfl) rfl) ?_
      rintro _ _ _ ⟨rfl, rfl, rfl⟩
      refine XPA.nil ?_; refine DA.inb_normal (zT (zR (zO rfl zI ?_))); refine yA ?_; refine zN (zT ?_)
      rw [if_pos hpk] at hps
      refine ⟨(Keep.upd (Keep.upd (Keep.updN (Keep.upd (Keep.upd (Keep.upd (Keep.upd (Keep.upd (Keep.upd (Keep.upd (Keep.upd (Keep.updO (Keep.upd (Keep.upd (Keep.updN (Keep.upd (Keep.updO (Keep.upd (Keep.upd (Keep.upd (Keep.upd (Keep.upd (Keep.hav (Keep.hav (Keep.refl _ _) rfl) rfl) rfl) rfl) rfl) rfl) rfl) rfl) rfl)) rfl) rfl) rfl) rfl) rfl) rfl) rfl) rfl) rfl) rfl) rfl)) rfl) rfl), k + 1, _, zM, ?_, ⟨rfl, hlt, rfl⟩, (by omega)⟩
      · rw [hps]; exact zE
    · refine XA.skip ?_
      refine DA.inb_normal (zT (zR (zO rfl zI ?_))); refine yA ?_; refine zN (zT ?_)
      rw [if_neg (by rw [hpk]; decide)] at hps
      refine ⟨(Keep.upd (Keep.upd (Keep.updO (Keep.upd (Keep.upd (Keep.updN (Keep.upd (Keep.updO (Keep.upd (Keep.upd (Keep.upd (Keep.upd (Keep.upd (Keep.hav (Keep.hav (Keep.refl _ _) rfl) rfl) rfl) rfl) rfl) rfl) rfl) rfl) rfl)) rfl) rfl) rfl) rfl) rfl), k + 1, _, zM, ?_, ⟨rfl, hlt, rfl⟩, (by omega)⟩
      · rw [hps]; exact zE
  · have hkn : k = d.wait.length := by omega
    subst hkn
    have hpl : (ints (d.part p d.wait.length).flatten).length = 272 := by
      have hfl := flat_len (fun w : List Int => ints w) 8 (d.part p d.wait.length) (fun x hx => by simp [hpo.2 x hx])
      have e : ((d.part p d.wait.length).flatMap fun w => ints w).length = (ints (d.part p d.wait.length).flatten).length := by simp [List.flatMap, ints, List.map_flatten]
      rw [← e, hfl, hpo.1]
    have hfit : 272 + 1 ≤ (ints (d.part p d.wait.length).flatten ++ [Value.slice pp d.wait.length cc]).length := by rw [List.length_append, hpl]; exact Nat.le_refl _
    have hspl : ∀ v, splice (ints (d.part p d.wait.length).flatten ++ [Value.slice pp d.wait.length cc]) 272 [v] = ints (d.part p d.wait.length).flatten ++ [v] := fun v => splice_last hpl
    have hset : (d.wait.zipIdx).take d.wait.length = d.wait.zipIdx := List.take_of_length_le (by simp)
    have hfin : (d.settle p).l = d.part p d.wait.length := by simp only [DiskS.settle, DiskS.part, hset]
    have hok' : (d.settle p).ok := ⟨by rw [hfin]; exact hpo.1, by rw [hfin]; exact hpo.2, by simp [DiskS.settle]⟩
    refine XA.exit (DA.thn_exit (DA.thn_exit (DA.inb_same (zT (zR (yA ?_)))))); refine zO rfl (Rd.nilCheck rfl) ?_; refine yV ?_; refine zw rfl (WrA.st (tyrow rfl) rfl) ?_
    rintro _ _ _ ⟨rfl, rfl, rfl⟩
    refine zN ?_
    refine bodyA.normal (ResA.none rfl) (Ent.foldC (Θ := [_, _]) zD (Disk.mk (sl := .slice none 0 0) (n := 0) (xs := []) hok' ?_ rfl rfl) zE) ⟨rfl, rfl, rfl⟩
    rw [DiskS.cells, hfin]
theorem flush_a (σ : PH) (b : Nat) (d : DiskS) (hlen : d.wait.length < 1000000) : CallsA Tryz.prog 130 #[ptr b] σ [Disk b d] (RetA fun v σ' Γ' => v = .tuple #[] ∧ σ = σ' ∧ Γ' = [Disk b (d.settle fun _ => true)]) := by
  refine enterA1 Tryz.func130 rfl rfl rfl ?_; refine zR (yA ?_); refine yC (settle_a σ b d 133 [] (fun _ => true) emp hlen (fun σ k => flush1_a σ k)) ?_; refine zN ?_
  exact bodyA.normal (ResA.none rfl) zE ⟨rfl, rfl, rfl⟩
theorem crash_a (σ : PH) (b : Nat) (d : DiskS) (m : Int) (hlen : d.wait.length < 1000000) (hm0 : 0 ≤ m) (hm1 : m < 18446744073709551616) : CallsA Tryz.prog 35 #[ptr b, .int .u64 m] σ [Disk b d] (RetA fun v σ' Γ' => v = .tuple #[] ∧ σ = σ' ∧ Γ' = [Disk b (d.settle (bitOf m))]) := by
  refine enterA2 Tryz.func35 rfl rfl rfl ?_; refine zS (zR ?_); refine zw rfl WrA.bx ?_
  rintro _ _ _ ⟨g3, rfl, rfl, rfl⟩
  refine zN (zT (zR (yA ?_)))
  refine zO rfl (Rd.makeFunc1 (by with_reducible (conv => lhs; whnf))) ?_
  refine yC (settle_a σ b d 63 [ptr g3] (bitOf m) (blk g3 [.int .u64 m] 43) hlen (fun σ k => crash1_a σ k m g3 hm0 hm1)) ?_; refine zN ?_
  exact bodyA.normal (ResA.none rfl) zE ⟨rfl, rfl, rfl⟩
end Go.Proofs.YtmnmcjdgnpgchaaGreat

namespace Go.Proofs.YtmnmcjdgnpgchaaGreat
open Go X
set_option maxHeartbeats 1000000
structure StS where
  gen : Int
  t : List Int
  pg : List Int
namespace StS
def ok (s : StS) : Prop := s.t.length = 2 ∧ s.pg.length = 14
def cells (s : StS) : List Value := i64 s.gen :: (ints s.t ++ ints s.pg)
end StS
def zero14 : List Int := List.replicate 14 0
def rootS (d : DiskS) (r : Int) : StS := ⟨(d.read r).getD 0 0, [(d.read r).getD 1 0, (d.read r).getD 2 0], zero14⟩
def pageAt (d : DiskS) (t : List Int) (p : Nat) : Int := if 0 < t.getD (p / 8) 0 then (d.read (t.getD (p / 8) 0)).getD (p % 8) 0 else 0
def pagesTo (d : DiskS) (t : List Int) (j : Nat) : List Int := (List.range 14).map fun p => if p < j then pageAt d t p else 0
def lastRoot (d : DiskS) : StS := if (rootS d 0).gen < (rootS d 1).gen then rootS d 1 else rootS d 0
def openS (d : DiskS) : StS := { lastRoot d with pg := pagesTo d (lastRoot d).t 14 }
def Store (b db : Nat) (s : StS) : HP := fun m => blk b (ptr db :: s.cells) 147 m ∧ s.ok
theorem sat1' {R : HP} {m : PH} (h : R m) : Sat [R] m := ⟨m, PH.none, h, trivial, PH.none_dis m, .refl m, PH.none_sub m⟩
theorem of_sat1' {g : Nat} {l : List Value} {T : TypeId} {m : PH} (h : Sat [blk g l T] m) : blk g l T m := by
  obtain ⟨m1, m2, a, -, -, b, -⟩ := h
  exact b _ _ a
theorem Store.opn {b db : Nat} {s : StS} : ∀ m, Store b db s m → ∃ _ : Unit, s.ok ∧ Sat [blk b (ptr db :: s.cells) 147] m := fun m h => ⟨(), h.2, sat1' h.1⟩
theorem Store.mk {b db : Nat} {s : StS} {cs : List Value} (hs : s.ok) (e : cs = ptr db :: s.cells) : ∀ m, Sat [blk b cs 147] m → Store b db s m := fun m h => ⟨by subst e; exact of_sat1' h, hs⟩
theorem pagesTo_len (d : DiskS) (t : List Int) (j : Nat) : (pagesTo d t j).length = 14 := by simp [pagesTo]
theorem len8 {d : DiskS} (hd : d.ok) (a : Int) : (d.read a).length = 8 := by
  unfold DiskS.read; split
  · rename_i h
    refine len_last ?_ _ _ (fun p hp => (hd.2.2 p hp).2)
    rw [List.getD_eq_getElem?_getD, List.getElem?_eq_getElem (by rw [hd.1]; omega)]
    exact hd.2.1 _ (List.getElem_mem _)
  · rfl
theorem list8 {α : Type} {l : List α} (h : l.length = 8) : ∃ a b c d e f g i, l = [a, b, c, d, e, f, g, i] := by
  match l, h with
  | [a, b, c, d, e, f, g, i], _ => exact ⟨a, b, c, d, e, f, g, i, rfl⟩
theorem root_a (σ : PH) (b db : Nat) (s : StS) (d : DiskS) (r : Int) (hok : d.ok) (hlen : d.wait.length < 1000000) :
    CallsA Tryz.prog 75 #[ptr b, i64 r] σ [blk b (ptr db :: s.cells) 147, Disk db d] (RetA fun v σ' Γ' => v = .agg (rootS d r).cells.toArray ∧ σ = σ' ∧ Γ' = [blk b (ptr db :: s.cells) 147, Disk db d]) := by
  obtain ⟨w0, w1, w2, w3, w4, w5, w6, w7, hw⟩ := list8 (len8 hok r)
  have hr : rootS d r = ⟨w0, [w1, w2], zero14⟩ := by rw [rootS, hw]; rfl
  rw [hr]
  refine enterA2 Tryz.func75 rfl rfl rfl ?_; refine zS (zR ?_); refine zw rfl (WrA.alloc (tyrow rfl)) ?_
  rintro _ _ _ ⟨g4, rfl, rfl, rfl⟩
  refine zN (zT (zS (zR (yA ?_)))); refine zO rfl (Rd.nilCheck rfl) ?_; refine yV ?_; refine yB ?_; refine yA ?_; refine yC (read_a σ db d r hlen) ?_
  rw [hw]
  refine zw rfl (WrA.alloc (tyrow rfl)) ?_
  rintro _ _ _ ⟨g5, rfl, rfl, rfl⟩
  refine zw rfl (WrA.st (tyrow rfl) rfl) ?_
  rintro _ _ _ ⟨rfl, rfl, rfl⟩
  refine zN (zT (zS (zR (zO rfl (Rd.ixA rfl rfl) ?_)))); refine yB ?_; refine zO rfl (Rd.bl (fun _ _ => tyrow) rfl rfl rfl) ?_; refine zw rfl (WrA.alloc (tyrow rfl)) ?_
  rintro _ _ _ ⟨g6, rfl, rfl, rfl⟩
  refine zw rfl (WrA.st (tyrow rfl) rfl) ?_
  rintro _ _ _ ⟨rfl, rfl, rfl⟩
  refine zN (zT (zS (zS (zR (yA ?_))))); refine zN (zT (XA.block ?_)); refine XA.unroll 3 ?_; refine XAR.succ (zS (zR (zO rfl (Rd.lss rfl rfl) ?_))); refine zN (zT (zS (yT rfl rfl (XA.skip (zT (zS (XA.block (zS (zR (yA ?_)))))))))); refine yS ?_; refine zN (zT (zR (yA ?_))); refine yA ?_
  refine zO rfl zI ?_; refine zO rfl (Rd.ixA rfl rfl) ?_; refine yB ?_; refine yV ?_; refine zO rfl (Rd.ixA rfl rfl) ?_; refine zw rfl (WrA.st (tyrow rfl) rfl) ?_
  rintro _ _ _ ⟨rfl, rfl, rfl⟩
  refine zN (DA.inb_normal (zT (zR (zO rfl zI ?_)))); refine yA ?_; refine zN (zT (XAR.succ (zS (zR (zO rfl (Rd.lss rfl rfl) ?_))))); refine zN (zT (zS (yT rfl rfl (XA.skip (zT (zS (XA.block (zS (zR (yA ?_)))))))))); refine yS ?_; refine zN (zT (zR (yA ?_))); refine yA ?_; refine zO rfl zI ?_
  refine zO rfl (Rd.ixA rfl rfl) ?_; refine yB ?_; refine yV ?_; refine zO rfl (Rd.ixA rfl rfl) ?_; refine zw rfl (WrA.st (tyrow rfl) rfl) ?_
  rintro _ _ _ ⟨rfl, rfl, rfl⟩
  refine zN (DA.inb_normal (zT (zR (zO rfl zI ?_)))); refine yA ?_; refine zN (zT (XAR.succ (zS (zR (zO rfl (Rd.lss rfl rfl) ?_))))); refine zN (zT (zS (yF rfl rfl (XA.exit (DA.thn_exit (DA.thn_exit (DA.inb_same (zT (zS (zR (zO rfl (Rd.ldA rfl) ?_))))))))))); refine zw rfl (WrA.st (tyrow rfl) rfl) ?_
  rintro _ _ _ ⟨rfl, rfl, rfl⟩
  refine zN (zT (XA.ret ?_))
  exact bodyA.ret (ResA.cell rfl rfl (Ld.atBlk (tyrow rfl) rfl zL rfl (by first | exact take0 (by first | rfl | assumption | (refine (ints_len _).trans ?_; assumption) | (simp [*]; (first | done | fail))) | assumption | exact take_app (by first | rfl | assumption | (refine (ints_len _).trans ?_; assumption) | (simp [*]; (first | done | fail))) | (conv => lhs; simp only [List.drop_succ_cons, List.drop_zero, List.take_succ_cons, List.take_zero])) (by first | rfl | assumption | (refine (ints_len _).trans ?_; assumption) | (simp [*]; (first | done | fail))))) zE ⟨rfl, rfl, rfl⟩
theorem splice_one (l : List Value) (o : Nat) (v : Value) (h : o < l.length) : splice l o [v] = l.set o v := by
  unfold splice
  rw [List.set_eq_take_append_cons_drop, if_pos h]; simp
theorem ints_set (l : List Int) (j : Nat) (x : Int) : ints (l.set j x) = (ints l).set j (i64 x) := by simp [ints, List.map_set]
theorem put_page {db : Nat} {gen a0 a1 : Int} {pg : List Int} (h : pg.length = 14) {j : Nat} (hj : j < 14) (x : Int) : splice (ptr db :: i64 gen :: i64 a0 :: i64 a1 :: ints pg) (4 + j) [i64 x] = ptr db :: i64 gen :: i64 a0 :: i64 a1 :: ints (pg.set j x) := by
  rw [splice_one _ _ _ (by simp [h]; omega), Nat.add_comm, ints_set]
  rfl
theorem pagesTo_succ (d : DiskS) (t : List Int) {j : Nat} (hj : j < 14) : pagesTo d t (j + 1) = (pagesTo d t j).set j (pageAt d t j) := by
  apply List.ext_getElem (by simp [pagesTo])
  intro p h1 h2
  simp only [pagesTo, List.length_map, List.length_range] at h1
  simp only [pagesTo, List.getElem_map, List.getElem_range, List.getElem_set]
  by_cases e : j = p
  · subst e; simp
  · rw [if_neg e]
    by_cases h : p < j
    · rw [if_pos (by omega), if_pos h]
    · rw [if_neg (by omega), if_neg h]
theorem pagesTo_same (d : DiskS) (t : List Int) {j : Nat} (h : 14 ≤ j ∨ pageAt d t j = 0) : pagesTo d t (j + 1) = pagesTo d t j := by
  apply List.map_congr_left
  intro p hp
  have hp : p < 14 := by simpa using hp
  by_cases e : p = j
  · subst e
    rcases h with h | h
    · omega
    · rw [if_pos (by omega), h, if_neg (by omega)]
  · by_cases h : p < j
    · rw [if_pos (by omega), if_pos h]
    · rw [if_neg (by omega), if_neg h]
theorem pageAt_eq (d : DiskS) (t : List Int) {i k : Nat} (hk : k < 8) : pageAt d t (i * 8 + k) = if 0 < t.getD i 0 then (d.read (t.getD i 0)).getD k 0 else 0 := by
  rw [pageAt, show (i * 8 + k) / 8 = i by omega, show (i * 8 + k) % 8 = k by omega]
theorem pagesTo_zero (d : DiskS) (t : List Int) : pagesTo d t 0 = zero14 := by simp [pagesTo, zero14]; rfl
theorem ints_get {l : List Int} {k : Nat} (h : k < l.length) : (ints l)[k]? = some (i64 (l.getD k 0)) := by simp [h, List.getD_eq_getElem?_getD]
theorem open_a (σ : PH) (db : Nat) (d : DiskS) (hok : d.ok) (hlen : d.wait.length < 1000000) :
    CallsA Tryz.prog 51 #[ptr db] σ [Disk db d] (RetA fun v σ' Γ' => ∃ b, v = ptr b ∧ σ = σ' ∧ Γ' = [Store b db (openS d), Disk db d]) := by
  refine enterA1 Tryz.func51 rfl rfl rfl ?_; refine zS (zR (yS ?_)); refine zN (zT (zS (zR (yA ?_)))); refine zO rfl (Rd.bl (fun _ _ => tyrow) rfl rfl rfl) ?_; refine zw rfl WrA.bx ?_
  rintro _ _ _ ⟨g13, rfl, rfl, rfl⟩
  refine yS ?_; refine zN (zT (zS (zR (yA ?_)))); refine yC (root_a σ g13 db ⟨0, [0, 0], zero14⟩ d 0 hok hlen) ?_; refine yA ?_; refine yC (root_a σ g13 db ⟨0, [0, 0], zero14⟩ d 1 hok hlen) ?_
  obtain ⟨g0, a0, a1, hr0⟩ : ∃ g a0 a1, rootS d 0 = ⟨g, [a0, a1], zero14⟩ := ⟨_, _, _, rfl⟩
  obtain ⟨g1, b0, b1, hr1⟩ : ∃ g a0 a1, rootS d 1 = ⟨g, [a0, a1], zero14⟩ := ⟨_, _, _, rfl⟩
  have hop : openS d = { lastRoot d with pg := pagesTo d (lastRoot d).t 14 } := rfl
  have hlr : lastRoot d = if g0 < g1 then ⟨g1, [b0, b1], zero14⟩ else ⟨g0, [a0, a1], zero14⟩ := by rw [lastRoot, hr0, hr1]
  rw [hop]
  obtain ⟨L, hL⟩ : ∃ L, L = lastRoot d := ⟨_, rfl⟩
  rw [← hL] at hlr ⊢
  rw [hr0, hr1]
  clear hop hr0 hr1
  refine zw rfl (WrA.alloc (tyrow rfl)) ?_
  rintro _ _ _ ⟨g4, rfl, rfl, rfl⟩
  refine zw rfl (WrA.alloc (tyrow rfl)) ?_
  rintro _ _ _ ⟨g5, rfl, rfl, rfl⟩
  refine zw rfl (WrA.st (tyrow rfl) rfl) ?_
  rintro _ _ _ ⟨rfl, rfl, rfl⟩
  refine zw rfl (WrA.st (tyrow rfl) rfl) ?_
  rintro _ _ _ ⟨rfl, rfl, rfl⟩
  refine zN (zT (zS (zR (yA ?_)))); refine zO rfl (Rd.ldA rfl) ?_; refine zO rfl (Rd.nilCheck rfl) ?_; refine yV ?_; refine zw rfl (WrA.st (tyrow rfl) rfl) ?_
  rintro _ _ _ ⟨rfl, rfl, rfl⟩
  refine zN (zT (zS (zS (zR (yV ?_))))); refine yB ?_; refine yV ?_; refine yB ?_; refine zO rfl (Rd.gtr rfl rfl) ?_; refine zN (zT ?_); refine XA.join [(27, 30)] (fun _ : Unit => []) (fun _ σ' Γ' => σ = σ' ∧ Γ' = [blk g13 (ptr db :: L.cells) 147, Disk db d]) ?_ ?_
  · 
    refine XA.condp rfl (fun hgt => ?_) (fun hgt => ?_)
    · rw [if_pos hgt] at hlr
      subst hlr
      refine zR (yA ?_); refine zO rfl (Rd.ldA rfl) ?_; refine zO rfl (Rd.nilCheck rfl) ?_; refine yV ?_; refine zw rfl (WrA.st (tyrow rfl) rfl) ?_
      rintro _ _ _ ⟨rfl, rfl, rfl⟩
      refine zN (zT ?_)
      refine ⟨(Keep.updN (Keep.upd (Keep.upd (Keep.upd (Keep.upd (Keep.refl _ _) rfl) rfl) rfl) rfl)), (), _, zM, ?_, ⟨rfl, rfl⟩⟩
      · exact zE
    · rw [if_neg hgt] at hlr
      subst hlr
      refine XA.skip (zT ?_)
      refine ⟨(Keep.refl _ _), (), _, zM, ?_, ⟨rfl, rfl⟩⟩
      · exact zE
  rintro - δ0 _ _ ⟨rfl, rfl⟩
  dsimp only [ovr, List.foldl]
  refine zT ?_
  obtain ⟨gl, t0, t1, rfl⟩ : ∃ g t0 t1, L = ⟨g, [t0, t1], zero14⟩ := by
    rw [hlr]; split
    · exact ⟨_, _, _, rfl⟩
    · exact ⟨_, _, _, rfl⟩
  clear hlr hL
  refine XA.re (Δ := [blk g13 (ptr db :: i64 gl :: i64 t0 :: i64 t1 :: ints (pagesTo d [t0, t1] 0)) 147, Disk db d]) (by rw [pagesTo_zero]; rfl) ?_
  refine zS (zS (zR (yA ?_))); refine zO rfl (Rd.nilCheck rfl) ?_; refine yV ?_; refine yV ?_; refine zO rfl (Rd.ldA rfl) ?_; refine yA ?_; refine zN (zT (XA.block ?_))
  refine XA.gen [(0, _), (2, _), (3, _), (35, _), (36, _)] ⟨(by with_reducible (conv => lhs; whnf)), (by with_reducible (conv => lhs; whnf)), (by with_reducible (conv => lhs; whnf)), (by with_reducible (conv => lhs; whnf)), (by with_reducible (conv => lhs; whnf)), trivial⟩ (fun δ => ?_)
  dsimp only [List.foldl]
  refine XA.loop [(6, 10), (36, 66)] (fun i : Nat => [(36, i64 i)]) (fun i σ' Γ' => σ = σ' ∧ i ≤ 2 ∧ Γ' = [blk g13 (ptr db :: i64 gl :: i64 t0 :: i64 t1 :: ints (pagesTo d [t0, t1] (i * 8))) 147, Disk db d]) (fun i => 2 - i) 0 (by exact ⟨rfl, trivial⟩) (Δ0 := _) ?_ (⟨rfl, by decide, rfl⟩) ?_
  · exact zE
  rintro i δ _ _ ⟨rfl, hi, rfl⟩
  dsimp only [ovr, List.foldl]
  refine zS (zR (zO rfl (Rd.lss rfl rfl) ?_)); refine zN (zT (zS ?_)); refine XA.condp rfl (fun hlt => ?_) (fun hlt => ?_)
  · have hlt : i < 2 := by omega
    have hel : (List.toArray [i64 t0, i64 t1])[Int.toNat (i : Int)]? = some (i64 (([t0, t1] : List Int).getD i 0)) := by
      rcases (show i = 0 ∨ i = 1 by omega) with rfl | rfl <;> rfl
    obtain ⟨ai, hai⟩ : ∃ ai, ai = ([t0, t1] : List Int).getD i 0 := ⟨_, rfl⟩
    rw [← hai] at hel
    have hpa := fun k (hk : k < 8) => pageAt_eq d [t0, t1] (i := i) hk
    rw [← hai] at hpa
    have hw8 := len8 hok ai
    refine XA.skip (zT (zS (XA.block (zS (zR (yA ?_)))))); refine zO rfl (Rd.ixG rfl rfl) ?_; refine yS ?_; refine yS ?_; refine zN (zT (zS (zR (yA ?_)))); refine yA ?_; refine yC (read_a σ db d ai hlen) ?_
    obtain ⟨w, hw⟩ : ∃ w, w = d.read ai := ⟨_, rfl⟩
    rw [← hw] at hw8 hpa ⊢
    clear hw hai
    refine zw rfl (WrA.alloc (tyrow rfl)) ?_
    rintro _ _ _ ⟨g8, rfl, rfl, rfl⟩
    refine zw rfl (WrA.st (tyrow rfl) rfl) ?_
    rintro _ _ _ ⟨rfl, rfl, rfl⟩
    refine zN (zT (zS (zR (yA ?_)))); refine zN (zT (XA.block ?_))
    refine XA.loop [(9, 10), (43, 65)] (fun k : Nat => [(43, i64 k)]) (fun k σ' Γ' => σ = σ' ∧ k ≤ 8 ∧ Γ' = [blk g8 (ints w) 105, blk g13 (ptr db :: i64 gl :: i64 t0 :: i64 t1 :: ints (pagesTo d [t0, t1] (i * 8 + k))) 147, Disk db d]) (fun k => 8 - k) 0 (by exact ⟨rfl, trivial⟩) (Δ0 := _) ?_ (⟨rfl, by decide, rfl⟩) ?_
    · exact zE
    rintro k δ2 _ _ ⟨rfl, hk, rfl⟩
    dsimp only [ovr, List.foldl]
    refine zS (zR (zO rfl (Rd.lss rfl rfl) ?_)); refine zN (zT (zS ?_)); refine XA.condp rfl (fun hlt2 => ?_) (fun hlt2 => ?_)
    · have hlt2 : k < 8 := by omega
      have hpk := hpa k hlt2
      have hwk := ints_get (l := w) (k := k) (by omega)
      refine XA.skip (zT (zS (XA.block (zS (zR (yA ?_)))))); refine yS ?_; refine zN (zT (zS (zR (yA ?_)))); refine zO rfl (Rd.muli (c := ((i * 8 : Nat) : Int)) rfl rfl (by omega) (by omega)) ?_; refine yA ?_
      refine zO rfl (Rd.addi (c := ((i * 8 + k : Nat) : Int)) rfl rfl (by omega) (by omega)) ?_; refine yS ?_; refine zN (zT (zS (zR ?_)))
      by_cases hat : 0 < ai
      · by_cases hp : i * 8 + k < 14
        · rw [if_pos hat] at hpk
          have hspl := fun x => put_page (db := db) (gen := gl) (a0 := t0) (a1 := t1) (pagesTo_len d [t0, t1] (i * 8 + k)) hp x
          have hlenp := pagesTo_len d [t0, t1] (i * 8 + k)
          have e1 := pagesTo_succ d [t0, t1] hp
          rw [hpk] at e1
          refine yA ?_; refine zO rfl (Rd.gtr rfl rfl) ?_; refine yA ?_
          first | refine gA ?_ | refine zH ?_
          first | (refine zG ?_; refine zO rfl (Rd.lss rfl rfl) ?_) | refine zH ?_
          refine zO rfl zP ?_; refine zN (zT (XA.condT rfl zY ?_))
          refine XA.draw (by kernel_rfl) _ _ [9] [(0, .pu), (1, .pu), (2, .pu), (3, .pu), (4, .rd), (5, .pu), (6, .pu), (7, .pu), (8, .pu), (9, .wr)] (by kernel_rfl) (PH.sub.refl _) (Ent.sel (R := blk g8 _ _) zL (Ent.nil _)) ?_
          (iterate 3 (refine zu rfl rfl Rd.mv ?_)); refine zu rfl rfl (Rd.ixA rfl rfl) ?_; refine XPA.rd rfl rfl Gd.free (Rd.ldC rfl (tyrow rfl) rfl) ?_; refine zu rfl rfl (Rd.nilCheck rfl) ?_; refine zu rfl rfl (Rd.fA rfl) ?_; refine zu rfl rfl (Rd.fA rfl) ?_; refine zu rfl rfl (Rd.ixA rfl rfl) ?_
          refine XPA.wrZ0 rfl rfl Gd.free (by kernel_rfl) (WrA.st (tyrow rfl) rfl) ?_
          rintro _ _ _ ⟨rfl, rfl, rfl⟩
          refine XPA.nil ?_; refine DA.inb_normal (zT (zR (zO rfl zI ?_))); refine yA ?_; refine zN (zT ?_)
          refine ⟨(Keep.upd (Keep.upd (Keep.updN (Keep.upd (Keep.upd (Keep.upd (Keep.upd (Keep.upd (Keep.upd (Keep.upd (Keep.upd (Keep.upd (Keep.upd (Keep.upd (Keep.upd (Keep.upd (Keep.upd (Keep.upd (Keep.upd (Keep.upd (Keep.upd (Keep.upd (Keep.upd (Keep.upd (Keep.upd (Keep.upd (Keep.upd (Keep.hav (Keep.hav (Keep.refl _ _) rfl) rfl) rfl) rfl) rfl) rfl) rfl) rfl) rfl) rfl) rfl) rfl) rfl) rfl) rfl) rfl) rfl) rfl) rfl) rfl) rfl) rfl) rfl) rfl) rfl) rfl)) rfl) rfl), k + 1, _, zM, ?_, ⟨rfl, hlt2, rfl⟩, (by omega)⟩
          · rw [show i * 8 + (k + 1) = i * 8 + k + 1 from rfl, e1]; exact zE
        · have e1 := pagesTo_same d [t0, t1] (j := i * 8 + k) (.inl (by omega))
          refine yA ?_; refine zO rfl (Rd.gtr rfl rfl) ?_; refine yA ?_
          first | refine gA ?_ | refine zH ?_
          first | (refine zG ?_; refine zO rfl (Rd.lss rfl rfl) ?_) | refine zH ?_
          refine zO rfl zP ?_; refine zN (zT (XA.condF rfl zY ?_)); refine XA.skip (DA.inb_normal (zT (zR (zO rfl zI ?_)))); refine yA ?_; refine zN (zT ?_)
          refine ⟨(Keep.upd (Keep.upd (Keep.upd (Keep.upd (Keep.upd (Keep.upd (Keep.upd (Keep.upd (Keep.upd (Keep.upd (Keep.upd (Keep.upd (Keep.upd (Keep.upd (Keep.upd (Keep.upd (Keep.upd (Keep.hav (Keep.hav (Keep.refl _ _) rfl) rfl) rfl) rfl) rfl) rfl) rfl) rfl) rfl) rfl) rfl) rfl) rfl) rfl) rfl) rfl) rfl) rfl) rfl), k + 1, _, zM, ?_, ⟨rfl, hlt2, rfl⟩, (by omega)⟩
          · rw [show i * 8 + (k + 1) = i * 8 + k + 1 from rfl, e1]; exact zE
      · rw [if_neg hat] at hpk
        have e1 := pagesTo_same d [t0, t1] (j := i * 8 + k) (.inr hpk)
        refine yA ?_; refine zO rfl (Rd.gtr rfl rfl) ?_; refine yA ?_
        first | refine gA ?_ | refine zH ?_
        first | (refine zG ?_; refine zO rfl (Rd.lss rfl rfl) ?_) | refine zH ?_
        refine zO rfl zP ?_; refine zN (zT (XA.condF rfl zY ?_)); refine XA.skip (DA.inb_normal (zT (zR (zO rfl zI ?_)))); refine yA ?_; refine zN (zT ?_)
        refine ⟨(Keep.upd (Keep.upd (Keep.upd (Keep.upd (Keep.upd (Keep.upd (Keep.upd (Keep.upd (Keep.upd (Keep.upd (Keep.upd (Keep.upd (Keep.upd (Keep.upd (Keep.upd (Keep.upd (Keep.upd (Keep.hav (Keep.hav (Keep.refl _ _) rfl) rfl) rfl) rfl) rfl) rfl) rfl) rfl) rfl) rfl) rfl) rfl) rfl) rfl) rfl) rfl) rfl) rfl) rfl), k + 1, _, zM, ?_, ⟨rfl, hlt2, rfl⟩, (by omega)⟩
        · rw [show i * 8 + (k + 1) = i * 8 + k + 1 from rfl, e1]; exact zE
    have hk8 : k = 8 := by omega
    subst hk8
    refine XA.exit (DA.thn_exit (DA.thn_exit (DA.inb_same (DA.inb_normal (zT (zR (zO rfl zI ?_))))))); refine yA ?_; refine zN (zT ?_)
    refine ⟨(Keep.upd (Keep.upd (Keep.upd (Keep.upd (Keep.hav (Keep.hav (Keep.upd (Keep.updN (Keep.updO (Keep.updO (Keep.upd (Keep.upd (Keep.upd (Keep.upd (Keep.upd (Keep.upd (Keep.upd (Keep.upd (Keep.hav (Keep.hav (Keep.refl _ _) rfl) rfl) rfl) rfl) rfl) rfl) rfl) rfl) rfl) rfl) rfl) rfl)) rfl) rfl) rfl) rfl) rfl) rfl) rfl), i + 1, _, zM, ?_, ⟨rfl, hlt, rfl⟩, (by omega)⟩
    · rw [show (i + 1) * 8 = i * 8 + 8 by omega]; exact zE
  have hi2 : i = 2 := by omega
  subst hi2
  have e14 : pagesTo d [t0, t1] (2 * 8) = pagesTo d [t0, t1] 14 := by rw [show 2 * 8 = 14 + 1 + 1 from rfl, pagesTo_same _ _ (.inl (by decide)), pagesTo_same _ _ (.inl (by decide))]
  rw [e14]
  refine XA.exit (DA.thn_exit (DA.thn_exit (DA.inb_same (zT (zS (zR (yA ?_))))))); refine yS ?_; refine zN (zT (XA.ret ?_))
  exact bodyA.ret (ResA.one rfl rfl) (Ent.foldC (Θ := [_]) zD (Store.mk (s := ⟨gl, [t0, t1], pagesTo d [t0, t1] 14⟩) ⟨rfl, pagesTo_len _ _ _⟩ rfl) (Ent.refl _)) ⟨g13, rfl, rfl, rfl⟩
end Go.Proofs.YtmnmcjdgnpgchaaGreat

namespace Go.Proofs.YtmnmcjdgnpgchaaGreat
open Go X
set_option maxHeartbeats 1000000
theorem shas_a (σ : PH) (p : Int) : CallsA Tryz.prog 116 #[i64 p] σ [] (RetA fun v σ' Γ' => v = .bool (decide (0 ≤ p ∧ p < 14)) ∧ σ = σ' ∧ Γ' = []) := by
  by_cases h0 : 0 ≤ p
  · 
    refine enterA1 Tryz.func116 rfl rfl rfl ?_; refine zS (zR (yS ?_)); refine zN (zT (zS (zR (yA ?_)))); refine zO rfl (Rd.geq rfl rfl) ?_; refine yA ?_
    first | refine gA ?_ | refine zH ?_
    first | (refine zG ?_; refine zO rfl (Rd.lss rfl rfl) ?_) | refine zH ?_
    refine zO rfl zP ?_; refine yS ?_; refine zN (zT (XA.ret ?_))
    exact bodyA.ret (ResA.one rfl rfl) (Ent.refl _) ⟨by simp [h0], rfl, rfl⟩
  · 
    refine enterA1 Tryz.func116 rfl rfl rfl ?_; refine zS (zR (yS ?_)); refine zN (zT (zS (zR (yA ?_)))); refine zO rfl (Rd.geq rfl rfl) ?_; refine yA ?_
    first | refine gA ?_ | refine zH ?_
    first | (refine zG ?_; refine zO rfl (Rd.lss rfl rfl) ?_) | refine zH ?_
    refine zO rfl zP ?_; refine yS ?_; refine zN (zT (XA.ret ?_))
    exact bodyA.ret (ResA.one rfl rfl) (Ent.refl _) ⟨by simp [h0], rfl, rfl⟩
def pageW (d : DiskS) (s : StS) (p : Int) : List Int := if 0 ≤ p ∧ p < 14 ∧ s.pg.getD p.toNat 0 ≠ 0 then d.read (s.pg.getD p.toNat 0) else DiskS.zeros
theorem st_cells {s : StS} (h : s.ok) : ∃ t0 t1, s.t = [t0, t1] := by
  obtain ⟨h1, -⟩ := h
  match hs : s.t, h1 with
  | [a, b], _ => exact ⟨a, b, rfl⟩
theorem cell_page {db : Nat} {g t0 t1 : Int} {pg : List Int} {k : Nat} (h : k < pg.length) : (ptr db :: i64 g :: i64 t0 :: i64 t1 :: ints pg)[4 + k]? = some (i64 (pg.getD k 0)) := by
  rw [Nat.add_comm]; simpa using ints_get h
theorem sread_a (σ : PH) (b db : Nat) (s : StS) (d : DiskS) (p : Int) (hd : d.ok) (hlen : d.wait.length < 1000000) :
    CallsA Tryz.prog 107 #[ptr b, i64 p] σ [Store b db s, Disk db d] (RetA fun v σ' Γ' => v = wv (pageW d s p) ∧ σ = σ' ∧ Γ' = [Store b db s, Disk db d]) := by
  by_cases hp : 0 ≤ p ∧ p < 14
  · obtain ⟨k, rfl⟩ : ∃ k : Nat, p = k := Int.eq_ofNat_of_zero_le hp.1
    have hk : k < 14 := by omega
    refine enterA2 Tryz.func107 rfl rfl rfl ?_; refine zS (zR ?_); refine zw rfl (WrA.alloc (tyrow rfl)) ?_
    rintro _ _ _ ⟨g4, rfl, rfl, rfl⟩
    refine zN (zT (zS (zS (zR (yA ?_))))); refine yC (shas_a σ k) ?_
    rw [decide_eq_true hp]
    refine zO rfl zJ ?_; refine yA ?_
    first | refine gA ?_ | refine zH ?_
    first | refine gA ?_ | refine zH ?_
    first | refine XA.opn (R := Store b db s) zL (Store.opn) ?_ | refine XOA.opn (R := Store b db s) zL (Store.opn) ?_ | refine DA.opn (R := Store b db s) zL (Store.opn) ?_
    rintro ⟨⟩ hok
    first | refine XA.cl ?_ | refine XOA.cl ?_ | refine DA.cl ?_
    obtain ⟨t0, t1, ht⟩ := st_cells hok
    obtain ⟨g, t, pg⟩ := s
    simp only at ht
    subst ht
    have hpl : pg.length = 14 := hok.2
    have hc := cell_page (db := db) (g := g) (t0 := t0) (t1 := t1) (pg := pg) (k := k) (by omega)
    refine XOA.re (Δ := [blk b (ptr db :: i64 g :: i64 t0 :: i64 t1 :: ints pg) 147, blk g4 _ _, Disk db d]) rfl ?_
    first | (refine zG ?_; refine zO rfl (Rd.nilCheck rfl) ?_) | refine zH ?_
    first | refine gV ?_ | refine zH ?_
    first | refine gV ?_ | refine zH ?_
    first | (refine zG ?_; refine zO rfl (Rd.ixA rfl rfl) ?_) | refine zH ?_
    first | refine gB ?_ | refine zH ?_
    first | refine gE ?_ | refine zH ?_
    refine zO rfl zP ?_; refine zN (zT ?_); refine XA.condp rfl (fun hz => ?_) (fun hz => ?_)
    · have hw : pageW d ⟨g, [t0, t1], pg⟩ k = DiskS.zeros := by
        rw [pageW, if_neg]; rintro ⟨-, -, h⟩; exact h (by simpa using hz)
      rw [hw]
      refine zS (zR ?_); refine zO rfl (Rd.blA (fun _ _ => tyrow) rfl rfl rfl) ?_; refine zw rfl (WrA.st (tyrow rfl) rfl) ?_
      rintro _ _ _ ⟨rfl, rfl, rfl⟩
      refine zN (zT (XA.ret (DA.thn_ret ?_)))
      exact bodyA.ret (ResA.cell rfl rfl (Ld.atBlk (tyrow rfl) rfl zL rfl (by first | exact take0 (by first | rfl | assumption | (refine (ints_len _).trans ?_; assumption) | (simp [*]; (first | done | fail))) | assumption | exact take_app (by first | rfl | assumption | (refine (ints_len _).trans ?_; assumption) | (simp [*]; (first | done | fail))) | (conv => lhs; simp only [List.drop_succ_cons, List.drop_zero, List.take_succ_cons, List.take_zero])) (by first | rfl | assumption | (refine (ints_len _).trans ?_; assumption) | (simp [*]; (first | done | fail))))) (Ent.foldC (Θ := [_]) zD (Store.mk (s := ⟨g, [t0, t1], pg⟩) hok rfl) zE) ⟨rfl, rfl, rfl⟩
    have hw : pageW d ⟨g, [t0, t1], pg⟩ k = d.read (pg.getD k 0) := by
      rw [pageW, if_pos ⟨hp.1, hp.2, by simpa using hz⟩]; simp
    rw [hw]
    obtain ⟨pa, hpa⟩ : ∃ a, a = pg.getD k 0 := ⟨_, rfl⟩
    rw [← hpa] at hc hz ⊢
    clear hpa hw
    have h8 := len8 hd pa
    refine XA.skip (zT (zS ?_))
    refine XA.draw (by kernel_rfl) _ _ [11, 12] [(0, .pu), (1, .pu), (2, .pu), (3, .rd), (4, .pu), (5, .pu), (6, .pu), (7, .pu), (8, .pu), (9, .pu), (10, .rd), (11, .wr), (12, .wr)] (by kernel_rfl) (PH.sub.refl _) (Ent.sel (R := blk b _ _) zL (Ent.nil _)) ?_
    refine zu rfl rfl Rd.mv ?_; refine zu rfl rfl (Rd.nilCheck rfl) ?_; refine zu rfl rfl (Rd.fA rfl) ?_; refine XPA.rd rfl rfl Gd.free (Rd.ldC rfl (tyrow rfl) rfl) ?_; refine zu rfl rfl Rd.mv ?_; refine zu rfl rfl Rd.mv ?_; refine zu rfl rfl (Rd.nilCheck rfl) ?_; refine zu rfl rfl (Rd.fA rfl) ?_
    refine zu rfl rfl (Rd.fA rfl) ?_; refine zu rfl rfl (Rd.ixA rfl rfl) ?_; refine XPA.rd rfl rfl Gd.free (Rd.ldC rfl (tyrow rfl) rfl) ?_
    refine XPA.wrZ0 rfl rfl Gd.free (by kernel_rfl) (WrA.cE (read_a σ db d pa hlen) rfl) ?_
    rintro _ _ _ ⟨_, ⟨rfl, rfl, rfl⟩, rfl⟩
    refine XPA.cl ?_
    refine XPA.wrZ0 rfl rfl Gd.free (by kernel_rfl) (WrA.st (tyrow rfl) rfl) ?_
    rintro _ _ _ ⟨rfl, rfl, rfl⟩
    refine XPA.nil ?_; refine zT (XA.ret ?_)
    exact bodyA.ret (ResA.cell rfl rfl (Ld.atBlk (tyrow rfl) rfl zL rfl (by first | exact take0 (by first | rfl | assumption | (refine (ints_len _).trans ?_; assumption) | (simp [*]; (first | done | fail))) | assumption | exact take_app (by first | rfl | assumption | (refine (ints_len _).trans ?_; assumption) | (simp [*]; (first | done | fail))) | (conv => lhs; simp only [List.drop_succ_cons, List.drop_zero, List.take_succ_cons, List.take_zero])) (by first | rfl | assumption | (refine (ints_len _).trans ?_; assumption) | (simp [*]; (first | done | fail))))) (Ent.foldC (Θ := [_]) zD (Store.mk (s := ⟨g, [t0, t1], pg⟩) hok rfl) zE) ⟨rfl, rfl, rfl⟩
  · have hw : pageW d s p = DiskS.zeros := by rw [pageW, if_neg (fun h => hp ⟨h.1, h.2.1⟩)]
    rw [hw]
    refine enterA2 Tryz.func107 rfl rfl rfl ?_; refine zS (zR ?_); refine zw rfl (WrA.alloc (tyrow rfl)) ?_
    rintro _ _ _ ⟨g4, rfl, rfl, rfl⟩
    refine zN (zT (zS (zS (zR (yA ?_))))); refine yC (shas_a σ p) ?_
    rw [decide_eq_false hp]
    refine zO rfl zJ ?_; refine yA ?_
    first | refine gA ?_ | refine zH ?_
    first | refine gA ?_ | refine zH ?_
    first | (refine zG ?_; refine zO rfl (Rd.nilCheck rfl) ?_) | refine zH ?_
    first | refine gV ?_ | refine zH ?_
    first | refine gV ?_ | refine zH ?_
    first | (refine zG ?_; refine zO rfl (Rd.ixA rfl rfl) ?_) | refine zH ?_
    first | refine gB ?_ | refine zH ?_
    first | refine gE ?_ | refine zH ?_
    refine zO rfl zP ?_; refine zN (zT (yT rfl rfl (zS (zR ?_)))); refine zO rfl (Rd.blA (fun _ _ => tyrow) rfl rfl rfl) ?_; refine zw rfl (WrA.st (tyrow rfl) rfl) ?_
    rintro _ _ _ ⟨rfl, rfl, rfl⟩
    refine zN (zT (XA.ret (DA.thn_ret ?_)))
    exact bodyA.ret (ResA.cell rfl rfl (Ld.atBlk (tyrow rfl) rfl zL rfl (by first | exact take0 (by first | rfl | assumption | (refine (ints_len _).trans ?_; assumption) | (simp [*]; (first | done | fail))) | assumption | exact take_app (by first | rfl | assumption | (refine (ints_len _).trans ?_; assumption) | (simp [*]; (first | done | fail))) | (conv => lhs; simp only [List.drop_succ_cons, List.drop_zero, List.take_succ_cons, List.take_zero])) (by first | rfl | assumption | (refine (ints_len _).trans ?_; assumption) | (simp [*]; (first | done | fail))))) zE ⟨rfl, rfl, rfl⟩
abbrev comC (sb : Nat) (left gen t0 t1 : Int) (pg : List Int) (fr : Value) : List Value := ptr sb :: i64 left :: i64 gen :: i64 t0 :: i64 t1 :: (ints pg ++ [fr])
theorem com_last {sb : Nat} {left gen t0 t1 : Int} {pg : List Int} {fr : Value} (h : pg.length = 14) : (comC sb left gen t0 t1 pg fr)[19]? = some fr := by
  have : (ints pg ++ [fr])[14]? = some fr := by rw [List.getElem?_append_right (by simp [h])]; simp [h]
  exact this
theorem com_len {sb : Nat} {left gen t0 t1 : Int} {pg : List Int} {fr : Value} (h : pg.length = 14) : (comC sb left gen t0 t1 pg fr).length = 20 := by simp [comC, h]
theorem com_put19 {sb : Nat} {left gen t0 t1 : Int} {pg : List Int} {fr : Value} (h : pg.length = 14) (fr' : Value) : splice (comC sb left gen t0 t1 pg fr) 19 [fr'] = comC sb left gen t0 t1 pg fr' := by
  rw [splice_one _ _ _ (by rw [com_len h]; decide)]
  show ptr sb :: i64 left :: i64 gen :: i64 t0 :: i64 t1 :: (ints pg ++ [fr]).set 14 fr' = _
  rw [List.set_append_right _ _ (by simp [h])]; simp [h]
theorem com_put1 {sb : Nat} {left gen t0 t1 : Int} {pg : List Int} {fr : Value} (x : Int) : splice (comC sb left gen t0 t1 pg fr) 1 [i64 x] = comC sb x gen t0 t1 pg fr := by simp [splice, comC]
theorem com_page {sb : Nat} {left gen t0 t1 : Int} {pg : List Int} {fr : Value} {k : Nat} (h : k < pg.length) : (comC sb left gen t0 t1 pg fr)[5 + k]? = some (i64 (pg.getD k 0)) := by
  rw [Nat.add_comm]
  show (ints pg ++ [fr])[k]? = _
  rw [List.getElem?_append_left (by simpa using h)]; exact ints_get h
theorem com_putp {sb : Nat} {left gen t0 t1 : Int} {pg : List Int} {fr : Value} (h : pg.length = 14) {k : Nat} (hk : k < 14) (x : Int) : splice (comC sb left gen t0 t1 pg fr) (5 + k) [i64 x] = comC sb left gen t0 t1 (pg.set k x) fr := by
  rw [splice_one _ _ _ (by rw [com_len h]; omega), Nat.add_comm]
  show ptr sb :: i64 left :: i64 gen :: i64 t0 :: i64 t1 :: (ints pg ++ [fr]).set k (i64 x) = _
  rw [List.set_append_left _ _ (by simp [h]; omega), ← ints_set]
def leftOf (D : Int) (j : Nat) : Int := IntKind.i64.wrap (D - j)
def okD (D : Int) : Prop := -9223372036854775808 ≤ D ∧ D ≤ 9223372036854775807
theorem left_zero {D : Int} {j : Nat} (hD : okD D) (hj : j < 1000) : leftOf D j = 0 ↔ D = j := by
  obtain ⟨h1, h2⟩ := hD
  simp only [leftOf, IntKind.wrap, IntKind.bits, IntKind.signed]
  simp
  omega
theorem left_succ (D : Int) (j : Nat) : IntKind.i64.wrap (leftOf D j - 1) = leftOf D (j + 1) := by
  simp only [leftOf, IntKind.wrap, IntKind.bits, IntKind.signed]
  simp
  omega
theorem left_start {D : Int} (hD : okD D) : leftOf D 0 = D := by
  rw [leftOf]; simpa using X.wrap64_in hD.1 hD.2
theorem may_a (σ : PH) (c sb : Nat) (D : Int) (j : Nat) (gen t0 t1 : Int) (pg : List Int) (fr : Value) (hD : okD D) (hj : j < 1000) :
    CallsA Tryz.prog 129 #[ptr c] σ [blk c (comC sb (leftOf D j) gen t0 t1 pg fr) 182] (RetA fun v σ' Γ' => v = .bool (decide (D ≠ (j : Int))) ∧ σ = σ' ∧ Γ' = [blk c (comC sb (if D = (j : Int) then leftOf D j else leftOf D (j + 1)) gen t0 t1 pg fr) 182]) := by
  have hz := left_zero hD hj
  have hsu := left_succ D j
  by_cases h0 : D = (j : Int)
  · rw [if_pos h0]
    have hl := hz.2 h0
    refine enterA1 Tryz.func129 rfl rfl rfl ?_; refine zS (zR (yS ?_)); refine zN (zT (zS (zS (zR (yA ?_))))); refine zO rfl (Rd.nilCheck rfl) ?_; refine yV ?_; refine yB ?_; refine yE ?_; refine zN (zT (XA.condT rfl (decide_eq_true hl) (zS (zR (yS ?_))))); refine zN (zT (XA.ret (DA.thn_ret ?_)))
    exact bodyA.ret (ResA.one rfl rfl) (Ent.refl _) ⟨congrArg Value.bool (decide_eq_false (fun (h : D ≠ (j : Int)) => h h0)).symm, rfl, rfl⟩
  · rw [if_neg h0]
    have hl : leftOf D j ≠ 0 := fun h => h0 (hz.1 h)
    have hspl := fun x => com_put1 (sb := sb) (left := leftOf D j) (gen := gen) (t0 := t0) (t1 := t1) (pg := pg) (fr := fr) x
    refine enterA1 Tryz.func129 rfl rfl rfl ?_; refine zS (zR (yS ?_)); refine zN (zT (zS (zS (zR (yA ?_))))); refine zO rfl (Rd.nilCheck rfl) ?_; refine yV ?_; refine yB ?_; refine yE ?_; refine zN (zT (XA.condF rfl (decide_eq_false hl) (XA.skip (zT (zS (zR (yA ?_)))))))
    refine zO rfl (Rd.nilCheck rfl) ?_; refine yV ?_; refine yB ?_; refine zO rfl (Rd.subc rfl rfl hsu) ?_; refine zO rfl (Rd.nilCheck rfl) ?_; refine yV ?_; refine zw rfl (WrA.st (tyrow rfl) rfl) ?_
    rintro _ _ _ ⟨rfl, rfl, rfl⟩
    refine zN (zT (zS (zR (yS ?_)))); refine zN (zT (XA.ret ?_))
    exact bodyA.ret (ResA.one rfl rfl) (Ent.refl _) ⟨congrArg Value.bool (decide_eq_true (p := D ≠ (j : Int)) h0).symm, rfl, rfl⟩
theorem may_no (σ : PH) (c sb : Nat) (j : Nat) (gen t0 t1 : Int) (pg : List Int) (fr : Value) (hj : j < 1000) :
    CallsA Tryz.prog 129 #[ptr c] σ [blk c (comC sb (leftOf j j) gen t0 t1 pg fr) 182] (RetA fun v σ' Γ' => v = .bool false ∧ σ = σ' ∧ Γ' = [blk c (comC sb (leftOf j j) gen t0 t1 pg fr) 182]) := by
  have h := may_a σ c sb j j gen t0 t1 pg fr ⟨by omega, by omega⟩ hj
  rwa [if_pos rfl, decide_eq_false (fun h => h rfl)] at h
theorem may_yes (σ : PH) (c sb : Nat) (D : Int) (j : Nat) (gen t0 t1 : Int) (pg : List Int) (fr : Value) (hD : okD D) (hj : j < 1000) (hne : D ≠ (j : Int)) :
    CallsA Tryz.prog 129 #[ptr c] σ [blk c (comC sb (leftOf D j) gen t0 t1 pg fr) 182] (RetA fun v σ' Γ' => v = .bool true ∧ σ = σ' ∧ Γ' = [blk c (comC sb (leftOf D (j + 1)) gen t0 t1 pg fr) 182]) := by
  have h := may_a σ c sb D j gen t0 t1 pg fr hD hj
  rwa [if_neg hne, decide_eq_true hne] at h
theorem put_no (σ : PH) (c sb : Nat) (j : Nat) (gen t0 t1 : Int) (pg : List Int) (fr : Value) (a : Int) (fs : List Int) (w : List Int) (hj : j < 1000) (hpg : pg.length = 14) (hw : w.length = 8) (hf : PInts σ fr (a :: fs)) :
    CallsA Tryz.prog 128 #[ptr c, wv w] σ [blk c (comC sb (leftOf j j) gen t0 t1 pg fr) 182] (RetA fun v σ' Γ' => v = .tuple #[i64 0, .bool false] ∧ σ = σ' ∧ Γ' = [blk c (comC sb (leftOf j j) gen t0 t1 pg fr) 182]) := by
  obtain ⟨p, cc, rfl, hc1, hc2⟩ := hf.shape
  obtain ⟨g, o, rfl, hr⟩ := hf.at (k := 0) rfl
  rw [Nat.zero_mul] at hr
  have hlast := com_last (sb := sb) (left := leftOf j j) (gen := gen) (t0 := t0) (t1 := t1) (fr := .slice (some ⟨g, o, none⟩) (a :: fs).length cc) hpg
  simp only [List.length_cons] at hlast ⊢
  refine enterA2 Tryz.func128 rfl rfl rfl ?_; refine zS (zR ?_); refine zw rfl WrA.bx ?_
  rintro _ _ _ ⟨g3, rfl, rfl, rfl⟩
  refine yS ?_; refine yS ?_; refine zN (zT (zS (zR (yA ?_)))); refine zO rfl (Rd.nilCheck rfl) ?_; refine yV ?_; refine yB ?_; refine zO rfl (Rd.ixS rfl rfl) ?_; refine yB ?_; refine yS ?_; refine zN (zT (zS (zS (zR (yA ?_))))); refine yC (may_no σ c sb j gen t0 t1 pg _ hj) ?_; refine zO rfl zJ ?_
  refine zN (zT (yT rfl rfl (zS (zR (yS ?_))))); refine yS ?_; refine zN (zT (XA.ret (DA.thn_ret ?_)))
  exact bodyA.ret (ResA.two rfl rfl rfl) zE ⟨rfl, rfl, rfl⟩
theorem put_yes (σ : PH) (c sb db : Nat) (D : Int) (j : Nat) (gen t0 t1 : Int) (pg : List Int) (fr : Value) (a : Int) (fs : List Int) (w : List Int) (s : StS) (d : DiskS) (hD : okD D) (hj : j < 1000) (hne : D ≠ (j : Int)) (hpg : pg.length = 14) (hw : w.length = 8) (hf : PInts σ fr (a :: fs)) (hlen : d.wait.length < 1000000) :
    CallsA Tryz.prog 128 #[ptr c, wv w] σ [blk c (comC sb (leftOf D j) gen t0 t1 pg fr) 182, blk sb (ptr db :: s.cells) 147, Disk db d] (RetA fun v σ' Γ' => ∃ fr', PInts σ fr' fs ∧ v = .tuple #[i64 a, .bool true] ∧ σ = σ' ∧ Γ' = [blk c (comC sb (leftOf D (j + 1)) gen t0 t1 pg fr') 182, blk sb (ptr db :: s.cells) 147, Disk db (d.write a w)]) := by
  obtain ⟨p, cc, rfl, hc1, hc2⟩ := hf.shape
  obtain ⟨g, o, rfl, hr⟩ := hf.at (k := 0) rfl
  rw [Nat.zero_mul] at hr
  have hf2 := hf.tail
  simp only [List.length_cons] at hf2 ⊢
  have hlast := com_last (sb := sb) (left := leftOf D j) (gen := gen) (t0 := t0) (t1 := t1) (fr := .slice (some ⟨g, o, none⟩) (fs.length + 1) cc) hpg
  have hlast2 := com_last (sb := sb) (left := leftOf D (j + 1)) (gen := gen) (t0 := t0) (t1 := t1) (fr := .slice (some ⟨g, o, none⟩) (fs.length + 1) cc) hpg
  have hspl := fun fr' => com_put19 (sb := sb) (left := leftOf D (j + 1)) (gen := gen) (t0 := t0) (t1 := t1) (fr := .slice (some ⟨g, o, none⟩) (fs.length + 1) cc) hpg fr'
  have hcl := com_len (sb := sb) (left := leftOf D (j + 1)) (gen := gen) (t0 := t0) (t1 := t1) (fr := .slice (some ⟨g, o, none⟩) (fs.length + 1) cc) hpg
  have hfit : 19 + ty180.size ≤ (comC sb (leftOf D (j + 1)) gen t0 t1 pg (.slice (some ⟨g, o, none⟩) (fs.length + 1) cc)).length := by rw [hcl]; decide
  refine enterA2 Tryz.func128 rfl rfl rfl ?_; refine zS (zR ?_); refine zw rfl WrA.bx ?_
  rintro _ _ _ ⟨g3, rfl, rfl, rfl⟩
  refine yS ?_; refine yS ?_; refine zN (zT (zS (zR (yA ?_)))); refine zO rfl (Rd.nilCheck rfl) ?_; refine yV ?_; refine yB ?_; refine zO rfl (Rd.ixS rfl rfl) ?_; refine yB ?_; refine yS ?_; refine zN (zT (zS (zS (zR (yA ?_))))); refine yC (may_yes σ c sb D j gen t0 t1 pg _ hD hj hne) ?_
  refine zO rfl zJ ?_; refine zN (zT (yF rfl rfl (XA.skip (zT (zS (zR (yA ?_))))))); refine yA ?_; refine zO rfl (Rd.nilCheck rfl) ?_; refine yV ?_; refine yB ?_
  refine zO rfl (Rd.sliceTail (tyrow rfl) rfl (tyrow rfl) rfl rfl rfl (by omega)) ?_; refine zO rfl (Rd.nilCheck rfl) ?_; refine yV ?_
  refine zw rfl (WrA.st (tyrow rfl) rfl) ?_
  rintro _ _ _ ⟨rfl, rfl, rfl⟩
  refine zN (zT (zS ?_))
  refine XA.draw (by kernel_rfl) _ _ [9] [(0, .pu), (1, .pu), (2, .pu), (3, .rd), (4, .pu), (5, .pu), (6, .rd), (7, .pu), (8, .rd), (9, .wr)] (by kernel_rfl) (PH.sub.refl _) (Ent.sel (R := blk c _ _) zL (Ent.sel (R := blk sb _ _) zL (Ent.sel (R := blk g3 _ _) zL (Ent.nil _)))) ?_
  refine zu rfl rfl Rd.mv ?_; refine zu rfl rfl (Rd.nilCheck rfl) ?_; refine zu rfl rfl (Rd.fA rfl) ?_; refine XPA.rd rfl rfl Gd.free (Rd.ldC rfl (tyrow rfl) rfl) ?_; refine zu rfl rfl (Rd.nilCheck rfl) ?_; refine zu rfl rfl (Rd.fA rfl) ?_; refine XPA.rd rfl rfl Gd.free (Rd.ldC rfl (tyrow rfl) rfl) ?_
  refine zu rfl rfl Rd.mv ?_; refine XPA.rd rfl rfl Gd.free (Rd.ldA rfl) ?_
  refine XPA.wrZ0 rfl rfl Gd.free (by kernel_rfl) (WrA.cE (write_a σ db d a w hw hlen) rfl) ?_
  rintro _ _ _ ⟨_, ⟨rfl, rfl, rfl⟩, rfl⟩
  refine XPA.cl ?_; refine XPA.nil ?_; refine zT (zS (zR (yA ?_))); refine yS ?_; refine yS ?_; refine zN (zT (XA.ret ?_))
  exact bodyA.ret (ResA.two rfl rfl rfl) zE ⟨_, hf2, rfl, rfl, rfl⟩
end Go.Proofs.YtmnmcjdgnpgchaaGreat

namespace Go.Proofs.YtmnmcjdgnpgchaaGreat
open Go X
set_option maxHeartbeats 1000000
structure PageS where
  n : Int
  w : List Int
def PageS.cells (x : PageS) : List Value := i64 x.n :: ints x.w
def rPage : RT PageS := fun _ cs x => cs = x.cells ∧ x.w.length = 8
def pgTo (pg : List Int) (l : List PageS) (free : List Int) : Nat → List Int
  | 0 => pg
  | k + 1 => (pgTo pg l free k).set (l.getD k ⟨0, []⟩).n.toNat (free.getD k 0)
def dTo (d : DiskS) (l : List PageS) (free : List Int) : Nat → DiskS
  | 0 => d
  | k + 1 => (dTo d l free k).write (free.getD k 0) (l.getD k ⟨0, []⟩).w
theorem pgTo_len {pg : List Int} (l : List PageS) (free : List Int) (h : pg.length = 14) : ∀ k, (pgTo pg l free k).length = 14
  | 0 => h
  | k + 1 => by rw [pgTo, List.length_set]; exact pgTo_len l free h k
theorem write_wait (d : DiskS) (a : Int) (w : List Int) : (d.write a w).wait.length ≤ d.wait.length + 1 := by
  unfold DiskS.write; split <;> simp
theorem dTo_wait (d : DiskS) (l : List PageS) (free : List Int) : ∀ k, (dTo d l free k).wait.length ≤ d.wait.length + k
  | 0 => Nat.le_refl _
  | k + 1 => by have := write_wait (dTo d l free k) (free.getD k 0) (l.getD k ⟨0, []⟩).w; have := dTo_wait d l free k; rw [dTo]; omega
theorem cflush_no (σ : PH) (c sb : Nat) (j : Nat) (gen t0 t1 : Int) (pg : List Int) (fr : Value) (hj : j < 1000) :
    CallsA Tryz.prog 123 #[ptr c] σ [blk c (comC sb (leftOf j j) gen t0 t1 pg fr) 182] (RetA fun v σ' Γ' => v = .bool false ∧ σ = σ' ∧ Γ' = [blk c (comC sb (leftOf j j) gen t0 t1 pg fr) 182]) := by
  refine enterA1 Tryz.func123 rfl rfl rfl ?_; refine zS (zR (yS ?_)); refine zN (zT (zS (zS (zR (yA ?_))))); refine yC (may_no σ c sb j gen t0 t1 pg _ hj) ?_; refine zO rfl zJ ?_; refine zN (zT (yT rfl rfl (zS (zR (yS ?_))))); refine zN (zT (XA.ret (DA.thn_ret ?_)))
  exact bodyA.ret (ResA.one rfl rfl) zE ⟨rfl, rfl, rfl⟩
theorem cflush_yes (σ : PH) (c sb db : Nat) (D : Int) (j : Nat) (gen t0 t1 : Int) (pg : List Int) (fr : Value) (s : StS) (d : DiskS) (hD : okD D) (hj : j < 1000) (hne : D ≠ (j : Int)) (hlen : d.wait.length < 1000000) :
    CallsA Tryz.prog 123 #[ptr c] σ [blk c (comC sb (leftOf D j) gen t0 t1 pg fr) 182, blk sb (ptr db :: s.cells) 147, Disk db d] (RetA fun v σ' Γ' => v = .bool true ∧ σ = σ' ∧ Γ' = [blk c (comC sb (leftOf D (j + 1)) gen t0 t1 pg fr) 182, blk sb (ptr db :: s.cells) 147, Disk db (d.settle fun _ => true)]) := by
  refine enterA1 Tryz.func123 rfl rfl rfl ?_; refine zS (zR (yS ?_)); refine zN (zT (zS (zS (zR (yA ?_))))); refine yC (may_yes σ c sb D j gen t0 t1 pg _ hD hj hne) ?_; refine zO rfl zJ ?_; refine zN (zT (yF rfl rfl (XA.skip (zT (zS (zR (yA ?_))))))); refine zO rfl (Rd.nilCheck rfl) ?_; refine yV ?_
  refine yB ?_; refine zO rfl (Rd.nilCheck rfl) ?_; refine yV ?_; refine yB ?_; refine yC (flush_a σ db d hlen) ?_; refine zN (zT (zS (zR (yS ?_)))); refine zN (zT (XA.ret ?_))
  exact bodyA.ret (ResA.one rfl rfl) zE ⟨rfl, rfl, rfl⟩
theorem pages_a (σ : PH) (c sb db : Nat) (D : Int) (gen t0 t1 : Int) (pg : List Int) (fr : Value) (s : StS) (d : DiskS) (sl : Value) (l : List PageS) (free : List Int) (hD : okD D) (hpg : pg.length = 14) (hf : PInts σ fr free) (hl : PSl 9 rPage σ sl l) (hn : ∀ x ∈ l, 0 ≤ x.n ∧ x.n < 14) (hlf : l.length ≤ free.length) (hl1 : l.length ≤ 100) (hlen : d.wait.length < 1000) :
    CallsA Tryz.prog 121 #[ptr c, sl] σ [blk c (comC sb (leftOf D 0) gen t0 t1 pg fr) 182, blk sb (ptr db :: s.cells) 147, Disk db d]
      (RetA fun v σ' Γ' => ∃ (k : Nat) (fr' : Value), k ≤ l.length ∧ v = .bool (decide (k = l.length)) ∧ (k < l.length → D = k) ∧ (∀ i : Nat, i < k → D ≠ (i : Int)) ∧ PInts σ fr' (free.drop k) ∧ σ = σ' ∧ Γ' = [blk c (comC sb (leftOf D k) gen t0 t1 (pgTo pg l free k) fr') 182, blk sb (ptr db :: s.cells) 147, Disk db (dTo d l free k)]) := by
  obtain ⟨pl, cl, rfl, hle, hmx⟩ := hl.shape
  refine enterA2 Tryz.func121 rfl rfl rfl ?_; refine zS (zR (yS ?_)); refine zN (zT (zS (zS (zR (yA ?_))))); refine zO rfl (Rd.lenSlice (tyrow rfl) rfl rfl) ?_; refine yA ?_; refine zN (zT (XA.block ?_))
  refine XA.gen [(0, _), (4, _), (9, _), (10, _), (11, _)] ⟨(by with_reducible (conv => lhs; whnf)), (by with_reducible (conv => lhs; whnf)), (by with_reducible (conv => lhs; whnf)), (by with_reducible (conv => lhs; whnf)), (by with_reducible (conv => lhs; whnf)), trivial⟩ (fun δ => ?_)
  dsimp only [List.foldl]
  refine XA.loop [(4, 4), (6, 8), (11, 32)] (fun k : Nat => [(11, i64 k)]) (fun k σ' Γ' => σ = σ' ∧ k ≤ l.length ∧ (∀ i : Nat, i < k → D ≠ (i : Int)) ∧ ∃ fr', PInts σ fr' (free.drop k) ∧ Γ' = [blk c (comC sb (leftOf D k) gen t0 t1 (pgTo pg l free k) fr') 182, blk sb (ptr db :: s.cells) 147, Disk db (dTo d l free k)]) (fun k => l.length - k) 0 (by exact ⟨rfl, trivial⟩) (Δ0 := _) ?_ (⟨rfl, Nat.zero_le _, fun i h => absurd h (Nat.not_lt_zero _), fr, hf, rfl⟩) ?_
  · exact zE
  rintro k δ _ _ ⟨rfl, hk, hnot, fr', hfr, rfl⟩
  dsimp only [ovr, List.foldl]
  refine zS (zR (zO rfl (Rd.lss rfl rfl) ?_)); refine zN (zT (zS ?_)); refine XA.condp rfl (fun hlt => ?_) (fun hlt => ?_)
  · have hlt : k < l.length := by omega
    obtain ⟨x, hx⟩ : ∃ x, l[k]? = some x := ⟨_, List.getElem?_eq_getElem hlt⟩
    obtain ⟨a, ha⟩ : ∃ a, free[k]? = some a := ⟨_, List.getElem?_eq_getElem (by omega)⟩
    obtain ⟨g, o, row, rfl, ⟨rfl, hx8⟩, hrl, hrow⟩ := hl.at hx
    have hxn := hn x (List.mem_of_getElem? hx)
    have hlx : l.getD k ⟨0, []⟩ = x := by rw [List.getD_eq_getElem?_getD, hx]; rfl
    have hfa : free.getD k 0 = a := by rw [List.getD_eq_getElem?_getD, ha]; rfl
    have hw := dTo_wait d l free k
    have hpk := pgTo_len l free hpg k
    rw [dropS ha] at hfr
    have e1 : pgTo pg l free (k + 1) = (pgTo pg l free k).set x.n.toNat a := by rw [pgTo, hlx, hfa]
    have e2 : dTo d l free (k + 1) = (dTo d l free k).write a x.w := by rw [dTo, hlx, hfa]
    obtain ⟨xn, xw⟩ := x
    simp only at hx8 hxn e1 e2
    obtain ⟨n, rfl⟩ : ∃ n : Nat, xn = n := Int.eq_ofNat_of_zero_le hxn.1
    rw [Int.toNat_natCast] at e1
    have hn14 : n < 14 := by omega
    unfold PageS.cells at hrow hrl
    simp only at hrow hrl
    have hone : ones (i64 (n : Int) :: ints xw) := ones_cons rfl (ones_ints _)
    have htk : ((i64 (n : Int) :: ints xw).drop 1).take 8 = ints xw := take_eq (us := ints xw) (by simpa using hx8)
    have hc0 : (i64 (n : Int) :: ints xw)[0]? = some (i64 (n : Int)) := rfl
    refine XA.skip (zT (zS (XA.block (zS (zR (zO rfl (Rd.ixS rfl rfl) ?_)))))); refine zO rfl (Rd.ldA rfl) ?_; refine zw rfl (WrA.alloc (tyrow rfl)) ?_
    rintro _ _ _ ⟨g6, rfl, rfl, rfl⟩
    refine zw rfl (WrA.st (tyrow rfl) rfl) ?_
    rintro _ _ _ ⟨rfl, rfl, rfl⟩
    refine zN (zT (zS (zR (yA ?_)))); refine yV ?_; refine zO rfl (Rd.ldA rfl) ?_
    by_cases hDk : D = (k : Int)
    · subst hDk
      refine yC (put_no σ c sb k gen t0 t1 (pgTo pg l free k) fr' a (free.drop (k + 1)) xw (by omega) hpk hx8 hfr) ?_; refine yA ?_; refine zO rfl (Rd.extract rfl rfl) ?_; refine zO rfl (Rd.extract rfl rfl) ?_; refine yS ?_; refine yS ?_; refine zN (zT (zS (zS (zR (yA ?_))))); refine zO rfl zJ ?_; refine zN (zT (yT rfl rfl (zS (zR (yS ?_)))))
      refine zN (zT (XA.ret (DA.thn_ret (DA.inb_ret (DA.thn_ret (DA.thn_ret (DA.inb_ret (DA.thn_ret ?_))))))))
      rw [← dropS ha] at hfr
      exact bodyA.ret (ResA.one rfl rfl) zE ⟨k, fr', hk, congrArg Value.bool (decide_eq_false (by omega)).symm, fun _ => rfl, hnot, hfr, rfl, rfl⟩
    · 
      refine zw rfl (WrA.cE (put_yes σ c sb db D k gen t0 t1 (pgTo pg l free k) fr' a (free.drop (k + 1)) xw s (dTo d l free k) hD (by omega) hDk hpk hx8 hfr (by omega)) rfl) ?_
      rintro _ _ _ ⟨_, ⟨fr2, hfr2, rfl, rfl, rfl⟩, rfl⟩
      refine XOA.cl ?_
      have hspl := fun y => com_putp (sb := sb) (left := leftOf D (k + 1)) (gen := gen) (t0 := t0) (t1 := t1) (pg := pgTo pg l free k) (fr := fr2) hpk hn14 y
      have hfit : 5 + n + ty3.size ≤ (comC sb (leftOf D (k + 1)) gen t0 t1 (pgTo pg l free k) fr2).length := by rw [com_len hpk]; show 5 + n + 1 ≤ 20; omega
      refine yA ?_; refine zO rfl (Rd.extract rfl rfl) ?_; refine zO rfl (Rd.extract rfl rfl) ?_; refine yS ?_; refine yS ?_; refine zN (zT (zS (zS (zR (yA ?_))))); refine zO rfl zJ ?_; refine zN (zT (yF rfl rfl (XA.skip (zT ?_))))
      refine XA.draw (by kernel_rfl) _ _ [8] [(0, .pu), (1, .pu), (2, .rd), (3, .pu), (4, .pu), (5, .pu), (6, .pu), (7, .pu), (8, .wr)] (by kernel_rfl) (PH.sub.refl _) (Ent.sel (R := blk g6 _ _) zL (Ent.nil _)) ?_
      refine zu rfl rfl Rd.mv ?_; refine zu rfl rfl (Rd.fA rfl) ?_; refine XPA.rd rfl rfl Gd.free (Rd.ldC rfl (tyrow rfl) rfl) ?_; refine zu rfl rfl Rd.mv ?_; refine zu rfl rfl (Rd.nilCheck rfl) ?_; refine zu rfl rfl (Rd.fA rfl) ?_; refine zu rfl rfl (Rd.fA rfl) ?_; refine zu rfl rfl (Rd.ixA rfl rfl) ?_
      refine XPA.wrZ0 rfl rfl Gd.free (by kernel_rfl) (WrA.st (tyrow rfl) rfl) ?_
      rintro _ _ _ ⟨rfl, rfl, rfl⟩
      refine XPA.nil ?_; refine DA.inb_normal (zT (zR (zO rfl zI ?_))); refine yA ?_; refine zN (zT ?_)
      have hnew : ∀ i : Nat, i < k + 1 → D ≠ (i : Int) := fun i hi => by
        rcases Nat.lt_or_ge i k with h | h
        · exact hnot i h
        · have : i = k := by omega
          subst this; exact hDk
      refine ⟨(Keep.upd (Keep.upd (Keep.updN (Keep.upd (Keep.upd (Keep.upd (Keep.upd (Keep.upd (Keep.upd (Keep.upd (Keep.upd (Keep.upd (Keep.upd (Keep.upd (Keep.upd (Keep.upd (Keep.upd (Keep.upd (Keep.updO (Keep.upd (Keep.upd (Keep.upd (Keep.updN (Keep.updO (Keep.upd (Keep.upd (Keep.upd (Keep.upd (Keep.hav (Keep.hav (Keep.hav (Keep.refl _ _) rfl) rfl) rfl) rfl) rfl) rfl) rfl) rfl)) rfl) rfl) rfl) rfl) rfl) rfl) rfl) rfl) rfl) rfl) rfl) rfl) rfl) rfl) rfl) rfl) rfl) rfl) rfl)) rfl) rfl), k + 1, _, zM, ?_, ⟨rfl, hlt, hnew, fr2, hfr2, rfl⟩, (by omega)⟩
      · rw [e1, e2]; exact zE
  have hkn : k = l.length := by omega
  subst hkn
  refine XA.exit (DA.thn_exit (DA.thn_exit (DA.inb_same (zT (zS (zR (yS ?_))))))); refine zN (zT (XA.ret ?_))
  exact bodyA.ret (ResA.one rfl rfl) zE ⟨l.length, fr', Nat.le_refl _, congrArg Value.bool (decide_eq_true rfl).symm, fun h => absurd h (Nat.lt_irrefl _), hnot, hfr, rfl, rfl⟩
end Go.Proofs.YtmnmcjdgnpgchaaGreat

namespace Go.Proofs.YtmnmcjdgnpgchaaGreat
open Go X
set_option maxHeartbeats 1000000
def twTo (pg : List Int) (i k : Nat) : List Int := (List.range 8).map fun q => if q < k ∧ i * 8 + q < 14 then pg.getD (i * 8 + q) 0 else 0
def tw (pg : List Int) (i : Nat) : List Int := twTo pg i 8
theorem twTo_len (pg : List Int) (i k : Nat) : (twTo pg i k).length = 8 := by simp [twTo]
theorem twTo_zero (pg : List Int) (i : Nat) : twTo pg i 0 = [0, 0, 0, 0, 0, 0, 0, 0] := by simp [twTo]; rfl
theorem twTo_succ (pg : List Int) (i : Nat) {k : Nat} (hk : k < 8) (h : i * 8 + k < 14) : twTo pg i (k + 1) = (twTo pg i k).set k (pg.getD (i * 8 + k) 0) := by
  apply List.ext_getElem (by simp [twTo])
  intro p h1 h2
  simp only [twTo, List.getElem_map, List.getElem_range, List.getElem_set]
  by_cases e : k = p
  · subst e; rw [if_pos ⟨by omega, h⟩, if_pos rfl]
  · rw [if_neg e]
    by_cases hp : p < k ∧ i * 8 + p < 14
    · rw [if_pos ⟨by omega, hp.2⟩, if_pos hp]
    · rw [if_neg (fun h => hp ⟨by omega, h.2⟩), if_neg hp]
theorem twTo_same (pg : List Int) (i : Nat) {k : Nat} (h : ¬ i * 8 + k < 14) : twTo pg i (k + 1) = twTo pg i k := by
  apply List.map_congr_left
  intro p _
  by_cases hp : p < k ∧ i * 8 + p < 14
  · rw [if_pos hp, if_pos ⟨by omega, hp.2⟩]
  · rw [if_neg hp, if_neg (fun h2 => hp ⟨by omega, h2.2⟩)]
theorem ints_put {l : List Int} {k : Nat} (hk : k < l.length) (x : Int) : splice (ints l) k [i64 x] = ints (l.set k x) := by
  rw [splice_one _ _ _ (by simpa using hk), ints_set]
def T0 (t0 a0 : Int) (i : Nat) : Int := if 0 < i then a0 else t0
def T1 (t1 a1 : Int) (i : Nat) : Int := if 1 < i then a1 else t1
def tabL (pg : List Int) : List PageS := [⟨0, tw pg 0⟩, ⟨0, tw pg 1⟩]
theorem com_puti {sb : Nat} {left gen t0 t1 a0 a1 : Int} {pg : List Int} {fr : Value} {i : Nat} (hi : i < 2) : splice (comC sb left gen (T0 t0 a0 i) (T1 t1 a1 i) pg fr) (3 + i) [i64 (([a0, a1] : List Int).getD i 0)] = comC sb left gen (T0 t0 a0 (i + 1)) (T1 t1 a1 (i + 1)) pg fr := by
  rcases (show i = 0 ∨ i = 1 by omega) with rfl | rfl <;> rfl
theorem table_a (σ : PH) (c sb db : Nat) (D : Int) (j : Nat) (gen t0 t1 : Int) (pg : List Int) (fr : Value) (s : StS) (d : DiskS) (a0 a1 : Int) (free : List Int) (hD : okD D) (hj : j < 900) (hpg : pg.length = 14) (hf : PInts σ fr (a0 :: a1 :: free)) (hlen : d.wait.length < 1000) :
    CallsA Tryz.prog 122 #[ptr c] σ [blk c (comC sb (leftOf D j) gen t0 t1 pg fr) 182, blk sb (ptr db :: s.cells) 147, Disk db d]
      (RetA fun v σ' Γ' => ∃ (k : Nat) (fr' : Value), k ≤ 2 ∧ v = .bool (decide (k = 2)) ∧ (k < 2 → D = (j + k : Nat)) ∧ (∀ i : Nat, i < k → D ≠ ((j + i : Nat) : Int)) ∧ PInts σ fr' ((a0 :: a1 :: free).drop k) ∧ σ = σ' ∧ Γ' = [blk c (comC sb (leftOf D (j + k)) gen (T0 t0 a0 k) (T1 t1 a1 k) pg fr') 182, blk sb (ptr db :: s.cells) 147, Disk db (dTo d (tabL pg) (a0 :: a1 :: free) k)]) := by
  refine enterA1 Tryz.func122 rfl rfl rfl ?_; refine zS (zR (yS ?_)); refine zN (zT (zS (zS (zR (yA ?_))))); refine zN (zT (XA.block ?_))
  refine XA.gen [(0, _), (2, _), (9, _)] ⟨(by with_reducible (conv => lhs; whnf)), (by with_reducible (conv => lhs; whnf)), (by with_reducible (conv => lhs; whnf)), trivial⟩ (fun δ => ?_)
  dsimp only [List.foldl]
  refine XA.loop [(2, 46)] (fun i : Nat => [(9, i64 i)]) (fun i σ' Γ' => σ = σ' ∧ i ≤ 2 ∧ (∀ q : Nat, q < i → D ≠ ((j + q : Nat) : Int)) ∧ ∃ fr', PInts σ fr' ((a0 :: a1 :: free).drop i) ∧ Γ' = [blk c (comC sb (leftOf D (j + i)) gen (T0 t0 a0 i) (T1 t1 a1 i) pg fr') 182, blk sb (ptr db :: s.cells) 147, Disk db (dTo d (tabL pg) (a0 :: a1 :: free) i)]) (fun i => 2 - i) 0 (by exact ⟨rfl, trivial⟩) (Δ0 := _) ?_ (⟨rfl, by decide, fun i h => absurd h (Nat.not_lt_zero _), fr, hf, rfl⟩) ?_
  · exact zE
  rintro i δ _ _ ⟨rfl, hi, hnot, fr', hfr, rfl⟩
  dsimp only [ovr, List.foldl]
  refine zS (zR (zO rfl (Rd.lss rfl rfl) ?_)); refine zN (zT (zS ?_)); refine XA.condp rfl (fun hlt => ?_) (fun hlt => ?_)
  · have hlt : i < 2 := by omega
    obtain ⟨a, hai⟩ : ∃ a, a = ([a0, a1] : List Int).getD i 0 := ⟨_, rfl⟩
    have ha : (a0 :: a1 :: free)[i]? = some a := by subst hai; rcases (show i = 0 ∨ i = 1 by omega) with rfl | rfl <;> rfl
    have e2 : dTo d (tabL pg) (a0 :: a1 :: free) (i + 1) = (dTo d (tabL pg) (a0 :: a1 :: free) i).write a (tw pg i) := by
      subst hai; rcases (show i = 0 ∨ i = 1 by omega) with rfl | rfl <;> rfl
    have hw := dTo_wait d (tabL pg) (a0 :: a1 :: free) i
    refine XA.skip (zT (zS (XA.block (zS (zR (yA ?_)))))); refine yS ?_; refine zN (zT (zS (zR ?_))); refine zw rfl (WrA.alloc (tyrow rfl)) ?_
    rintro _ _ _ ⟨g4, rfl, rfl, rfl⟩
    refine zN (zT (zS (zS (zR (yA ?_))))); refine zN (zT (XA.block ?_))
    refine XA.loop [(5, 6), (12, 30)] (fun k : Nat => [(12, i64 k)]) (fun k σ' Γ' => σ = σ' ∧ k ≤ 8 ∧ Γ' = [blk g4 (ints (twTo pg i k)) 105, blk c (comC sb (leftOf D (j + i)) gen (T0 t0 a0 i) (T1 t1 a1 i) pg fr') 182, blk sb (ptr db :: s.cells) 147, Disk db (dTo d (tabL pg) (a0 :: a1 :: free) i)]) (fun k => 8 - k) 0 (by exact ⟨rfl, trivial⟩) (Δ0 := _) ?_ (⟨rfl, by decide, rfl⟩) ?_
    · rw [twTo_zero]; exact zE
    rintro k δ2 _ _ ⟨rfl, hk, rfl⟩
    dsimp only [ovr, List.foldl]
    refine zS (zR (zO rfl (Rd.lss rfl rfl) ?_)); refine zN (zT (zS ?_)); refine XA.condp rfl (fun hlt2 => ?_) (fun hlt2 => ?_)
    · have hlt2 : k < 8 := by omega
      have hl8 := twTo_len pg i k
      refine XA.skip (zT (zS (XA.block (zS (zR (yA ?_)))))); refine yS ?_; refine zN (zT (zS (zR (yA ?_)))); refine zO rfl (Rd.muli (c := ((i * 8 : Nat) : Int)) rfl rfl (by omega) (by omega)) ?_; refine yA ?_
      refine zO rfl (Rd.addi (c := ((i * 8 + k : Nat) : Int)) rfl rfl (by omega) (by omega)) ?_; refine yS ?_; refine zN (zT (zS (zR (yA ?_)))); refine zO rfl (Rd.lss rfl rfl) ?_; refine zN (zT ?_)
      refine XA.condp rfl (fun hp => ?_) (fun hp => ?_)
      · have hp : i * 8 + k < 14 := by omega
        have hcp := com_page (sb := sb) (left := leftOf D (j + i)) (gen := gen) (t0 := T0 t0 a0 i) (t1 := T1 t1 a1 i) (fr := fr') (pg := pg) (k := i * 8 + k) (by omega)
        have hspl := fun x => ints_put (l := twTo pg i k) (k := k) (by omega) x
        have hfit : k + ty2.size ≤ (ints (twTo pg i k)).length := by rw [ints_len, hl8]; show k + 1 ≤ 8; omega
        refine zR (yA ?_); refine yA ?_; refine yA ?_; refine zO rfl (Rd.nilCheck rfl) ?_; refine yV ?_; refine yV ?_; refine zO rfl (Rd.ixA rfl rfl) ?_; refine yB ?_; refine zO rfl (Rd.ixA rfl rfl) ?_; refine zw rfl (WrA.st (tyrow rfl) rfl) ?_
        rintro _ _ _ ⟨rfl, rfl, rfl⟩
        refine zN (DA.inb_normal (zT (zR (zO rfl zI ?_)))); refine yA ?_; refine zN (zT ?_)
        refine ⟨(Keep.upd (Keep.upd (Keep.updN (Keep.upd (Keep.upd (Keep.upd (Keep.upd (Keep.upd (Keep.upd (Keep.upd (Keep.upd (Keep.upd (Keep.upd (Keep.upd (Keep.upd (Keep.upd (Keep.upd (Keep.upd (Keep.upd (Keep.upd (Keep.upd (Keep.upd (Keep.upd (Keep.hav (Keep.hav (Keep.refl _ _) rfl) rfl) rfl) rfl) rfl) rfl) rfl) rfl) rfl) rfl) rfl) rfl) rfl) rfl) rfl) rfl) rfl) rfl) rfl) rfl) rfl) rfl)) rfl) rfl), k + 1, _, zM, ?_, ⟨rfl, hlt2, rfl⟩, (by omega)⟩
        · rw [twTo_succ pg i hlt2 hp]; exact zE
      · have hp : ¬ i * 8 + k < 14 := by omega
        refine XA.skip (DA.inb_normal (zT (zR (zO rfl zI ?_)))); refine yA ?_; refine zN (zT ?_)
        refine ⟨(Keep.upd (Keep.upd (Keep.upd (Keep.upd (Keep.upd (Keep.upd (Keep.upd (Keep.upd (Keep.upd (Keep.upd (Keep.upd (Keep.upd (Keep.upd (Keep.hav (Keep.hav (Keep.refl _ _) rfl) rfl) rfl) rfl) rfl) rfl) rfl) rfl) rfl) rfl) rfl) rfl) rfl) rfl) rfl), k + 1, _, zM, ?_, ⟨rfl, hlt2, rfl⟩, (by omega)⟩
        · rw [twTo_same pg i hp]; exact zE
    have hk8 : k = 8 := by omega
    subst hk8
    have hw8 : (tw pg i).length = 8 := twTo_len pg i 8
    rw [dropS ha] at hfr
    rw [show twTo pg i 8 = tw pg i from rfl]
    refine XA.exit (DA.thn_exit (DA.thn_exit (DA.inb_same (zT (zS (zR (yA ?_))))))); refine zO rfl (Rd.ldA rfl) ?_
    by_cases hDk : D = ((j + i : Nat) : Int)
    · subst hDk
      refine yC (put_no σ c sb (j + i) gen _ _ pg fr' a ((a0 :: a1 :: free).drop (i + 1)) (tw pg i) (by omega) hpg hw8 hfr) ?_; refine yA ?_; refine zO rfl (Rd.extract rfl rfl) ?_; refine zO rfl (Rd.extract rfl rfl) ?_; refine yS ?_; refine yS ?_; refine zN (zT (zS (zS (zR (yA ?_))))); refine zO rfl zJ ?_; refine zN (zT (yT rfl rfl (zS (zR (yS ?_)))))
      refine zN (zT (XA.ret (DA.thn_ret (DA.inb_ret (DA.thn_ret (DA.thn_ret (DA.inb_ret (DA.thn_ret ?_))))))))
      rw [← dropS ha] at hfr
      exact bodyA.ret (ResA.one rfl rfl) zE ⟨i, fr', hi, congrArg Value.bool (decide_eq_false (by omega)).symm, fun _ => rfl, hnot, hfr, rfl, rfl⟩
    · 
      refine zw rfl (WrA.cE (put_yes σ c sb db D (j + i) gen _ _ pg fr' a ((a0 :: a1 :: free).drop (i + 1)) (tw pg i) s (dTo d (tabL pg) (a0 :: a1 :: free) i) hD (by omega) hDk hpg hw8 hfr (by omega)) rfl) ?_
      rintro _ _ _ ⟨_, ⟨fr2, hfr2, rfl, rfl, rfl⟩, rfl⟩
      refine XOA.cl ?_
      have hspl := com_puti (sb := sb) (left := leftOf D (j + i + 1)) (gen := gen) (t0 := t0) (t1 := t1) (a0 := a0) (a1 := a1) (pg := pg) (fr := fr2) hlt
      rw [← hai] at hspl
      have hfit : 3 + i + ty3.size ≤ (comC sb (leftOf D (j + i + 1)) gen (T0 t0 a0 i) (T1 t1 a1 i) pg fr2).length := by rw [com_len hpg]; show 3 + i + 1 ≤ 20; omega
      clear hai
      refine yA ?_; refine zO rfl (Rd.extract rfl rfl) ?_; refine zO rfl (Rd.extract rfl rfl) ?_; refine yS ?_; refine yS ?_; refine zN (zT (zS (zS (zR (yA ?_))))); refine zO rfl zJ ?_; refine zN (zT (yF rfl rfl (XA.skip (zT (zR (yA ?_)))))); refine yA ?_; refine yA ?_; refine zO rfl (Rd.nilCheck rfl) ?_
      refine yV ?_; refine yV ?_; refine zO rfl (Rd.ixA rfl rfl) ?_; refine zw rfl (WrA.st (tyrow rfl) rfl) ?_
      rintro _ _ _ ⟨rfl, rfl, rfl⟩
      refine zN (DA.inb_normal (zT (zR (zO rfl zI ?_)))); refine yA ?_; refine zN (zT ?_)
      have hnew : ∀ q : Nat, q < i + 1 → D ≠ ((j + q : Nat) : Int) := fun q hq => by
        rcases Nat.lt_or_ge q i with h | h
        · exact hnot q h
        · have : q = i := by omega
          subst this; exact hDk
      refine ⟨(Keep.upd (Keep.upd (Keep.updN (Keep.upd (Keep.upd (Keep.upd (Keep.upd (Keep.upd (Keep.upd (Keep.upd (Keep.upd (Keep.upd (Keep.upd (Keep.upd (Keep.upd (Keep.upd (Keep.upd (Keep.updO (Keep.upd (Keep.upd (Keep.upd (Keep.upd (Keep.hav (Keep.hav (Keep.upd (Keep.updO (Keep.upd (Keep.upd (Keep.upd (Keep.upd (Keep.hav (Keep.refl _ _) rfl) rfl) rfl) rfl) rfl) rfl) rfl) rfl) rfl) rfl) rfl) rfl) rfl) rfl) rfl) rfl) rfl) rfl) rfl) rfl) rfl) rfl) rfl) rfl) rfl) rfl) rfl) rfl)) rfl) rfl), i + 1, _, zM, ?_, ⟨rfl, hlt, hnew, fr2, hfr2, rfl⟩, (by omega)⟩
      · rw [e2]; exact zE
  have hi2 : i = 2 := by omega
  subst hi2
  refine XA.exit (DA.thn_exit (DA.thn_exit (DA.inb_same (zT (zS (zR (yS ?_))))))); refine zN (zT (XA.ret ?_))
  exact bodyA.ret (ResA.one rfl rfl) zE ⟨2, fr', Nat.le_refl _, congrArg Value.bool (decide_eq_true rfl).symm, fun h => absurd h (Nat.lt_irrefl _), hnot, hfr, rfl, rfl⟩
end Go.Proofs.YtmnmcjdgnpgchaaGreat

namespace Go.Proofs.YtmnmcjdgnpgchaaGreat
open Go X
set_option maxHeartbeats 1000000
def rootW (g t0 t1 : Int) : List Int := [g, t0, t1, 0, 0, 0, 0, 0]
theorem croot_no (σ : PH) (c sb : Nat) (j : Nat) (gen t0 t1 : Int) (pg : List Int) (fr : Value) (hj : j < 1000) :
    CallsA Tryz.prog 124 #[ptr c] σ [blk c (comC sb (leftOf j j) gen t0 t1 pg fr) 182] (RetA fun v σ' Γ' => v = .bool false ∧ σ = σ' ∧ Γ' = [blk c (comC sb (leftOf j j) gen t0 t1 pg fr) 182]) := by
  refine enterA1 Tryz.func124 rfl rfl rfl ?_; refine zS (zR (yS ?_)); refine zN (zT (zS (zS (zR (yA ?_))))); refine yC (may_no σ c sb j gen t0 t1 pg _ hj) ?_; refine zO rfl zJ ?_; refine zN (zT (yT rfl rfl (zS (zR (yS ?_))))); refine zN (zT (XA.ret (DA.thn_ret ?_)))
  exact bodyA.ret (ResA.one rfl rfl) zE ⟨rfl, rfl, rfl⟩
theorem croot_yes (σ : PH) (c sb db : Nat) (D : Int) (j : Nat) (gen t0 t1 : Int) (pg : List Int) (fr : Value) (s : StS) (d : DiskS) (hD : okD D) (hj : j < 1000) (hne : D ≠ (j : Int)) (hg : 0 ≤ gen) (hlen : d.wait.length < 1000000) :
    CallsA Tryz.prog 124 #[ptr c] σ [blk c (comC sb (leftOf D j) gen t0 t1 pg fr) 182, blk sb (ptr db :: s.cells) 147, Disk db d] (RetA fun v σ' Γ' => v = .bool true ∧ σ = σ' ∧ Γ' = [blk c (comC sb (leftOf D (j + 1)) gen t0 t1 pg fr) 182, blk sb (ptr db :: s.cells) 147, Disk db (d.write (gen % 2) (rootW gen t0 t1))]) := by
  refine enterA1 Tryz.func124 rfl rfl rfl ?_; refine zS (zR (yS ?_)); refine zN (zT (zS (zS (zR (yA ?_))))); refine yC (may_yes σ c sb D j gen t0 t1 pg _ hD hj hne) ?_; refine zO rfl zJ ?_; refine zN (zT (yF rfl rfl (XA.skip (zT (zS (zR (yA ?_))))))); refine zO rfl (Rd.nilCheck rfl) ?_; refine yV ?_
  refine yV ?_; refine yB ?_; refine zO rfl (Rd.blA (fun _ _ => tyrow) rfl rfl rfl) ?_; refine zw rfl (WrA.alloc (tyrow rfl)) ?_
  rintro _ _ _ ⟨g3, rfl, rfl, rfl⟩
  refine zw rfl (WrA.st (tyrow rfl) rfl) ?_
  rintro _ _ _ ⟨rfl, rfl, rfl⟩
  refine zN (zT (zS (zS (zR (yA ?_))))); refine zO rfl (Rd.nilCheck rfl) ?_; refine yV ?_; refine yV ?_; refine zO rfl (Rd.ldA rfl) ?_; refine yA ?_; refine zN (zT (XA.block ?_)); refine XA.unroll 3 ?_; refine XAR.succ (zS (zR (zO rfl (Rd.lss rfl rfl) ?_)))
  refine zN (zT (zS (yT rfl rfl (XA.skip (zT (zS (XA.block (zS (zR (yA ?_)))))))))); refine zO rfl (Rd.ixG rfl rfl) ?_; refine yS ?_; refine yS ?_; refine zN (zT (zR (yA ?_))); refine zO rfl zI ?_; refine yA ?_; refine zO rfl (Rd.ixA rfl rfl) ?_; refine zw rfl (WrA.st (tyrow rfl) rfl) ?_
  rintro _ _ _ ⟨rfl, rfl, rfl⟩
  refine zN (DA.inb_normal (zT (zR (zO rfl zI ?_)))); refine yA ?_; refine zN (zT (XAR.succ (zS (zR (zO rfl (Rd.lss rfl rfl) ?_))))); refine zN (zT (zS (yT rfl rfl (XA.skip (zT (zS (XA.block (zS (zR (yA ?_)))))))))); refine zO rfl (Rd.ixG rfl rfl) ?_; refine yS ?_; refine yS ?_
  refine zN (zT (zR (yA ?_))); refine zO rfl zI ?_; refine yA ?_; refine zO rfl (Rd.ixA rfl rfl) ?_; refine zw rfl (WrA.st (tyrow rfl) rfl) ?_
  rintro _ _ _ ⟨rfl, rfl, rfl⟩
  refine zN (DA.inb_normal (zT (zR (zO rfl zI ?_)))); refine yA ?_; refine zN (zT (XAR.succ (zS (zR (zO rfl (Rd.lss rfl rfl) ?_))))); refine zN (zT (zS (yF rfl rfl (XA.exit (DA.thn_exit (DA.thn_exit (DA.inb_same (zT (zS ?_)))))))))
  refine XA.draw (by kernel_rfl) _ _ [14] [(0, .pu), (1, .pu), (2, .pu), (3, .rd), (4, .pu), (5, .pu), (6, .rd), (7, .pu), (8, .pu), (9, .pu), (10, .pu), (11, .rd), (12, .pu), (13, .rd), (14, .wr)] (by kernel_rfl) (PH.sub.refl _) (Ent.sel (R := blk c _ _) zL (Ent.sel (R := blk sb _ _) zL (Ent.sel (R := blk g3 _ _) zL (Ent.nil _)))) ?_
  refine zu rfl rfl Rd.mv ?_; refine zu rfl rfl (Rd.nilCheck rfl) ?_; refine zu rfl rfl (Rd.fA rfl) ?_; refine XPA.rd rfl rfl Gd.free (Rd.ldC rfl (tyrow rfl) rfl) ?_; refine zu rfl rfl (Rd.nilCheck rfl) ?_; refine zu rfl rfl (Rd.fA rfl) ?_; refine XPA.rd rfl rfl Gd.free (Rd.ldC rfl (tyrow rfl) rfl) ?_
  refine zu rfl rfl Rd.mv ?_; refine zu rfl rfl (Rd.nilCheck rfl) ?_; refine zu rfl rfl (Rd.fA rfl) ?_; refine zu rfl rfl (Rd.fA rfl) ?_
  refine XPA.rd rfl rfl Gd.free (Rd.ldC rfl (tyrow rfl) rfl) ?_; refine zu rfl rfl (Rd.remi (c := gen % 2) rfl rfl (by decide) (by rw [Int.tmod_eq_emod_of_nonneg hg])) ?_; refine XPA.rd rfl rfl Gd.free (Rd.ldA rfl) ?_
  refine XPA.wrZ0 rfl rfl Gd.free (by kernel_rfl) (WrA.cE (write_a σ db d (gen % 2) (rootW gen t0 t1) rfl hlen) rfl) ?_
  rintro _ _ _ ⟨_, ⟨rfl, rfl, rfl⟩, rfl⟩
  refine XPA.cl ?_; refine XPA.nil ?_; refine zT (zS (zR (yS ?_))); refine zN (zT (XA.ret ?_))
  exact bodyA.ret (ResA.one rfl rfl) zE ⟨rfl, rfl, rfl⟩
theorem used_a (σ : PH) (sb db : Nat) (g t0 t1 : Int) (pg : List Int) (hpg : pg.length = 14) :
    CallsA Tryz.prog 119 #[.pointer (some ⟨sb, 1, none⟩)] σ [blk sb (ptr db :: i64 g :: i64 t0 :: i64 t1 :: ints pg) 147] (RetA fun v σ' Γ' => ∃ p c, v = .slice p 16 c ∧ σ = σ' ∧ Γ' = [lst 3 1 (.slice p 16 c) 16 (ints (t0 :: t1 :: pg)), blk sb (ptr db :: i64 g :: i64 t0 :: i64 t1 :: ints pg) 147]) := by
  have hx : ∀ Γ Γ' (j : Nat) u, Sel Γ (blk sb (ptr db :: i64 g :: i64 t0 :: i64 t1 :: ints pg) 147) Γ' → [i64 t0, i64 t1][j]? = some u → ∃ g0 o0, some (⟨sb, 2, none⟩ : Addr) = some ⟨g0, o0, none⟩ ∧ AtC (Ho σ Γ) g0 (o0 + j) u := fun Γ Γ' j u s hu => by
    refine ⟨sb, 2, rfl, AtC.blk s ?_⟩
    match j, hu with
    | 0, hu => exact hu
    | 1, hu => exact hu
  have h14 : (ints pg).length = 14 * 1 := by simpa using hpg
  have hrow : ∀ Γ Γ', Sel Γ (blk sb (ptr db :: i64 g :: i64 t0 :: i64 t1 :: ints pg) 147) Γ' → At (Ho σ Γ) sb 4 (ints pg) := fun Γ Γ' s => At.blk s (take_eq rfl)
  refine enterA1 Tryz.func119 rfl rfl rfl ?_; refine zS (zR (yS ?_)); refine zN (zT (zS ?_))
  refine XA.draw (by kernel_rfl) _ _ [8] [(0, .pu), (1, .pu), (2, .pu), (3, .pu), (4, .pu), (5, .pu), (6, .pu), (7, .pu), (8, .wr), (9, .pu)] (by kernel_rfl) (PH.sub.refl _) (Ent.sel (R := blk sb _ _) zL (Ent.nil _)) ?_
  refine zu rfl rfl Rd.mv ?_; refine zu rfl rfl (Rd.nilCheck rfl) ?_; refine zu rfl rfl (Rd.fA rfl) ?_
  refine zu rfl rfl (by apply Rd.sliceArr; exact tyrow rfl; rfl; exact tyrow rfl; rfl) ?_
  refine zu rfl rfl Rd.mv ?_; refine zu rfl rfl (Rd.nilCheck rfl) ?_; refine zu rfl rfl (Rd.fA rfl) ?_
  refine zu rfl rfl (by apply Rd.sliceArr; exact tyrow rfl; rfl; exact tyrow rfl; rfl) ?_
  refine XPA.wrZ0 rfl rfl Gd.free (by kernel_rfl) (WrA.appendFull (tyrow rfl) rfl (tyrow rfl) rfl rfl rfl (fun j u hu => hx _ _ j u zL hu) (fun h => by cases h) rfl (hrow _ _ zL) h14 (ones_ints _) (by decide) (by decide) (by decide)) ?_
  rintro _ _ _ ⟨p11, c11, rfl, rfl, rfl⟩
  refine zu rfl rfl Rd.asg ?_; refine XPA.nil ?_; refine zT (XA.ret ?_)
  exact bodyA.ret (ResA.one rfl rfl) zE ⟨p11, c11, rfl, rfl, rfl⟩
theorem index_a (σ : PH) (v : Value) (xs : List Int) (x : Int) (hv : PInts σ v xs) : CallsA Tryz.prog 127 #[v, i64 x] σ [] (RetA fun r σ' Γ' => ∃ k : Int, r = i64 k ∧ (0 ≤ k ↔ x ∈ xs) ∧ σ = σ' ∧ Γ' = []) := by
  obtain ⟨p, c, rfl, hle, hmx⟩ := hv.shape
  have hlen : xs.length ≤ maxLen := by omega
  simp only [maxLen] at hlen
  refine enterA2 Tryz.func127 rfl rfl rfl ?_; refine zS (zR (yS ?_)); refine zN (zT (zS (zS (zR (yA ?_))))); refine zO rfl (Rd.lenSlice (tyrow rfl) rfl rfl) ?_; refine yA ?_; refine zN (zT (XA.block ?_))
  refine XA.gen [(0, _), (1, _), (4, _), (7, _), (8, _)] ⟨(by with_reducible (conv => lhs; whnf)), (by with_reducible (conv => lhs; whnf)), (by with_reducible (conv => lhs; whnf)), (by with_reducible (conv => lhs; whnf)), (by with_reducible (conv => lhs; whnf)), trivial⟩ (fun δ => ?_)
  dsimp only [List.foldl]
  refine XA.loop [(4, 5), (8, 18)] (fun k : Nat => [(8, i64 k)]) (fun k σ' Γ' => σ = σ' ∧ k ≤ xs.length ∧ x ∉ xs.take k ∧ Γ' = []) (fun k => xs.length - k) 0 (by exact ⟨rfl, trivial⟩) (Δ0 := _) ?_ (⟨rfl, Nat.zero_le _, by simp, rfl⟩) ?_
  · exact zE
  rintro k δ _ _ ⟨rfl, hk, hall, rfl⟩
  dsimp only [ovr, List.foldl]
  refine zS (zR (zO rfl (Rd.lss rfl rfl) ?_)); refine zN (zT (zS ?_)); refine XA.condp rfl (fun hlt => ?_) (fun hlt => ?_)
  · have hlt : k < xs.length := by omega
    obtain ⟨y, hy⟩ : ∃ y, xs[k]? = some y := ⟨_, List.getElem?_eq_getElem hlt⟩
    obtain ⟨g, o, rfl, hr⟩ := hv.at hy
    rw [Nat.mul_one] at hr
    refine XA.skip (zT (zS (XA.block (zS (zR (yA ?_)))))); refine yS ?_; refine zN (zT (zS (zR (yA ?_)))); refine yA ?_; refine yA ?_; refine zO rfl (Rd.ixS rfl rfl) ?_; refine yB ?_; refine yE ?_; refine zN (zT ?_); refine XA.condp rfl (fun he => ?_) (fun he => ?_)
    · refine zS ?_
      refine zR (yA ?_); refine yS ?_; refine zN (zT (XA.ret (DA.inb_ret (DA.thn_ret (DA.thn_ret (DA.inb_ret (DA.thn_ret ?_)))))))
      exact bodyA.ret (ResA.one rfl rfl) zE ⟨(k : Int), rfl, ⟨fun _ => he ▸ List.mem_of_getElem? hy, fun _ => by omega⟩, rfl, rfl⟩
    have hnew : x ∉ xs.take (k + 1) := by rw [takeS hy]; simp only [List.mem_append, List.mem_singleton, not_or]; exact ⟨hall, he⟩
    refine XA.skip (DA.inb_normal (zT (zR (zO rfl zI ?_)))); refine yA ?_; refine zN (zT ?_)
    refine ⟨(Keep.upd (Keep.upd (Keep.upd (Keep.upd (Keep.upd (Keep.upd (Keep.upd (Keep.upd (Keep.upd (Keep.upd (Keep.upd (Keep.upd (Keep.hav (Keep.hav (Keep.refl _ _) rfl) rfl) rfl) rfl) rfl) rfl) rfl) rfl) rfl) rfl) rfl) rfl) rfl) rfl), k + 1, _, zM, ?_, ⟨rfl, hlt, hnew, rfl⟩, (by omega)⟩
    · exact zE
  have hkn : k = xs.length := by omega
  subst hkn
  rw [List.take_length] at hall
  refine XA.exit (DA.thn_exit (DA.thn_exit (DA.inb_same (zT (zS (zR (yS ?_))))))); refine zN (zT (XA.ret ?_))
  exact bodyA.ret (ResA.one rfl rfl) zE ⟨-1, rfl, ⟨fun h => absurd h (by decide), fun h => absurd h hall⟩, rfl, rfl⟩
theorem contains_a (σ : PH) (v : Value) (xs : List Int) (x : Int) (hv : PInts σ v xs) : CallsA Tryz.prog 120 #[v, i64 x] σ [] (RetA fun r σ' Γ' => r = .bool (decide (x ∈ xs)) ∧ σ = σ' ∧ Γ' = []) := by
  refine enterA2 Tryz.func120 rfl rfl rfl ?_; refine zS (zR (yS ?_)); refine zN (zT (zS (zR (yA ?_)))); refine yA ?_; refine zw rfl (WrA.cE (index_a σ v xs x hv) rfl) ?_
  rintro _ _ _ ⟨_, ⟨k, rfl, hk, rfl, rfl⟩, rfl⟩
  refine XOA.cl ?_; refine zO rfl (Rd.geq rfl rfl) ?_; refine yS ?_; refine zN (zT (XA.ret ?_))
  exact bodyA.ret (ResA.one rfl rfl) zE ⟨congrArg Value.bool (decide_eq_decide.2 hk), rfl, rfl⟩
def checkGo (seen : List PageS) : List PageS → Int
  | [] => 0
  | p :: l => if ¬ (0 ≤ p.n ∧ p.n < 14) then 1 else if ∃ q ∈ seen, q.n = p.n then 9 else checkGo (seen ++ [p]) l
def checkS (l : List PageS) : Int := checkGo [] l
theorem X.PSl.take' {α : Type} {s n c k : Nat} {R : RT α} {σ : PH} {p : Option Addr} {xs : List α} (h : PSl s R σ (.slice p n c) xs) (hk : k ≤ n) : PSl s R σ (.slice p k c) (xs.take k) := by
  obtain ⟨p', c', rows, h1, h2, h3, h4, h5, h6, h7⟩ := h
  simp only [Value.slice.injEq] at h1
  obtain ⟨rfl, rfl, rfl⟩ := h1
  have hl : (xs.take k).length = k := by rw [List.length_take]; exact Nat.min_eq_left hk
  refine ⟨p, c, rows.take k, by rw [hl], by omega, h3, by rw [hl, List.length_take]; omega, fun r hr => h5 r (List.mem_of_mem_take hr), fun i row x a b => ?_, fun hp => ?_⟩
  · rw [List.getElem?_take] at a b
    split at a
    · rename_i hi
      rw [if_pos hi] at b
      exact h6 i row x a b
    · cases a
  · obtain ⟨g, o, e, hr⟩ := h7 (by omega)
    refine ⟨g, o, e, ?_⟩
    have := hr.sub (j := 0) (us := (rows.take k).flatten) (by
      have e : rows.flatten = (rows.take k).flatten ++ (rows.drop k).flatten := by rw [← List.flatten_append, List.take_append_drop]
      rw [List.drop_zero, e]
      exact List.take_left)
    simpa using this
theorem pgEq_a (σ : PH) (g : Nat) (x y : PageS) (hy : y.w.length = 8) : CallsA Tryz.prog 126 #[.agg y.cells.toArray, ptr g] σ [blk g x.cells 175] (RetA fun r σ' Γ' => r = .bool (decide (y.n = x.n)) ∧ σ = σ' ∧ Γ' = [blk g x.cells 175]) := by
  obtain ⟨xn, xw⟩ := x
  obtain ⟨yn, yw⟩ := y
  unfold PageS.cells
  refine enterA2 Tryz.func126 rfl rfl rfl ?_; refine zS (zR ?_); refine zw rfl WrA.bx ?_
  rintro _ _ _ ⟨g2, rfl, rfl, rfl⟩
  refine yS ?_; refine zN (zT (zS (zR (yV ?_)))); refine yB ?_; refine yV ?_; refine yB ?_; refine yE ?_; refine yS ?_; refine zN (zT (XA.ret ?_))
  exact bodyA.ret (ResA.one rfl rfl) zE ⟨rfl, rfl, rfl⟩
theorem indexPg_a (σ : PH) (g : Nat) (v : PageS) (sl : Value) (l : List PageS) (hl : PSl 9 rPage σ sl l) : CallsA Tryz.prog 132 #[sl, .func (.func 126) #[] #[ptr g]] σ [blk g v.cells 175] (RetA fun r σ' Γ' => ∃ k : Int, r = i64 k ∧ (0 ≤ k ↔ ∃ w ∈ l, w.n = v.n) ∧ σ = σ' ∧ Γ' = [blk g v.cells 175]) := by
  obtain ⟨pl, cl, rfl, hle, hmx⟩ := hl.shape
  have hlen : l.length ≤ maxLen := by omega
  simp only [maxLen] at hlen
  refine enterA2 Tryz.func132 rfl rfl rfl ?_; refine zS (zR (yS ?_)); refine zN (zT (zS (zS (zR (yA ?_))))); refine zO rfl (Rd.lenSlice (tyrow rfl) rfl rfl) ?_; refine yA ?_; refine zN (zT (XA.block ?_))
  refine XA.gen [(0, _), (1, _), (4, _), (7, _), (8, _)] ⟨(by with_reducible (conv => lhs; whnf)), (by with_reducible (conv => lhs; whnf)), (by with_reducible (conv => lhs; whnf)), (by with_reducible (conv => lhs; whnf)), (by with_reducible (conv => lhs; whnf)), trivial⟩ (fun δ => ?_)
  dsimp only [List.foldl]
  refine XA.loop [(4, 5), (8, 18)] (fun k : Nat => [(8, i64 k)]) (fun k σ' Γ' => σ = σ' ∧ k ≤ l.length ∧ (∀ (j : Nat) w, j < k → l[j]? = some w → w.n ≠ v.n) ∧ Γ' = [blk g v.cells 175]) (fun k => l.length - k) 0 (by exact ⟨rfl, trivial⟩) (Δ0 := _) ?_ (⟨rfl, Nat.zero_le _, fun j w h => absurd h (Nat.not_lt_zero _), rfl⟩) ?_
  · exact zE
  rintro k δ _ _ ⟨rfl, hk, hall, rfl⟩
  dsimp only [ovr, List.foldl]
  refine zS (zR (zO rfl (Rd.lss rfl rfl) ?_)); refine zN (zT (zS ?_)); refine XA.condp rfl (fun hlt => ?_) (fun hlt => ?_)
  · have hlt : k < l.length := by omega
    obtain ⟨x', hx'⟩ : ∃ x', l[k]? = some x' := ⟨_, List.getElem?_eq_getElem hlt⟩
    obtain ⟨gg, o, row, rfl, ⟨rfl, hx8⟩, hrl, hrow⟩ := hl.at hx'
    refine XA.skip (zT (zS (XA.block (zS (zR (yA ?_)))))); refine yS ?_; refine zN (zT (zS (zR (yA ?_)))); refine yA ?_; refine yA ?_; refine zO rfl (Rd.ixS rfl rfl) ?_; refine zO rfl (Rd.ldA rfl) ?_; refine zw rfl (WrA.cV (first := []) (cap := [ptr g]) rfl (pgEq_a σ g v x' hx8) rfl) ?_
    rintro _ _ _ ⟨_, ⟨rfl, rfl, rfl⟩, rfl⟩
    refine XOA.cl ?_; refine zN (zT ?_); refine XA.condp rfl (fun hc => ?_) (fun hc => ?_)
    · refine zS ?_
      refine zR (yA ?_); refine yS ?_; refine zN (zT (XA.ret (DA.inb_ret (DA.thn_ret (DA.thn_ret (DA.inb_ret (DA.thn_ret ?_)))))))
      exact bodyA.ret (ResA.one rfl rfl) zE ⟨(k : Int), rfl, ⟨fun _ => ⟨x', List.mem_of_getElem? hx', hc⟩, fun _ => by omega⟩, rfl, rfl⟩
    · have hnew : ∀ (j : Nat) w, j < k + 1 → l[j]? = some w → w.n ≠ v.n := fun j w hj hw => by
        rcases Nat.lt_or_ge j k with h | h
        · exact hall j w h hw
        · have : j = k := by omega
          subst this
          rw [hx'] at hw; simp only [Option.some.injEq] at hw; subst hw; exact hc
      refine XA.skip (DA.inb_normal (zT (zR (zO rfl zI ?_)))); refine yA ?_; refine zN (zT ?_)
      refine ⟨(Keep.upd (Keep.upd (Keep.updO (Keep.upd (Keep.upd (Keep.upd (Keep.upd (Keep.upd (Keep.upd (Keep.upd (Keep.upd (Keep.upd (Keep.hav (Keep.hav (Keep.refl _ _) rfl) rfl) rfl) rfl) rfl) rfl) rfl) rfl) rfl) rfl) rfl) rfl) rfl) rfl), k + 1, _, zM, ?_, ⟨rfl, hlt, hnew, rfl⟩, (by omega)⟩
      · exact zE
  have hkn : k = l.length := by omega
  subst hkn
  refine XA.exit (DA.thn_exit (DA.thn_exit (DA.inb_same (zT (zS (zR (yS ?_))))))); refine zN (zT (XA.ret ?_))
  refine bodyA.ret (ResA.one rfl rfl) zE ⟨-1, rfl, ⟨fun h => absurd h (by decide), fun ⟨w, hw, e⟩ => ?_⟩, rfl, rfl⟩
  obtain ⟨j, hj, e2⟩ := List.mem_iff_getElem.1 hw
  exact absurd e (hall j w hj (by rw [List.getElem?_eq_getElem hj, e2]))
theorem containsPg_a (σ : PH) (g : Nat) (v : PageS) (sl : Value) (l : List PageS) (hl : PSl 9 rPage σ sl l) : CallsA Tryz.prog 125 #[sl, .func (.func 126) #[] #[ptr g]] σ [blk g v.cells 175] (RetA fun r σ' Γ' => r = .bool (decide (∃ w ∈ l, w.n = v.n)) ∧ σ = σ' ∧ Γ' = [blk g v.cells 175]) := by
  refine enterA2 Tryz.func125 rfl rfl rfl ?_; refine zS (zR (yS ?_)); refine zN (zT (zS (zR (yA ?_)))); refine yA ?_; refine zw rfl (WrA.cE (indexPg_a σ g v sl l hl) rfl) ?_
  rintro _ _ _ ⟨_, ⟨k, rfl, hk, rfl, rfl⟩, rfl⟩
  refine XOA.cl ?_; refine zO rfl (Rd.geq rfl rfl) ?_; refine yS ?_; refine zN (zT (XA.ret ?_))
  exact bodyA.ret (ResA.one rfl rfl) zE ⟨congrArg Value.bool (decide_eq_decide.2 hk), rfl, rfl⟩
theorem PageS.ones {x : PageS} : X.ones x.cells := ones_cons rfl (ones_ints _)
theorem scheck_a (σ : PH) (sl : Value) (l : List PageS) (hl : PSl 9 rPage σ sl l) : CallsA Tryz.prog 118 #[sl] σ [] (RetA fun v σ' Γ' => v = i64 (checkS l) ∧ σ = σ' ∧ Γ' = []) := by
  obtain ⟨pl, cl, rfl, hle, hmx⟩ := hl.shape
  have hlen : l.length ≤ maxLen := by omega
  simp only [maxLen] at hlen
  refine enterA1 Tryz.func118 rfl rfl rfl ?_; refine zS (zR (yS ?_)); refine zN (zT (zS (zS (zR (yA ?_))))); refine zO rfl (Rd.lenSlice (tyrow rfl) rfl rfl) ?_; refine yA ?_; refine zN (zT (XA.block ?_))
  refine XA.gen [(0, _), (2, _), (5, _), (6, _), (7, _)] ⟨(by with_reducible (conv => lhs; whnf)), (by with_reducible (conv => lhs; whnf)), (by with_reducible (conv => lhs; whnf)), (by with_reducible (conv => lhs; whnf)), (by with_reducible (conv => lhs; whnf)), trivial⟩ (fun δ => ?_)
  dsimp only [List.foldl]
  refine XA.loop [(2, 4), (7, 21)] (fun k : Nat => [(7, i64 k)]) (fun k σ' Γ' => σ = σ' ∧ k ≤ l.length ∧ checkGo (l.take k) (l.drop k) = checkS l ∧ Γ' = []) (fun k => l.length - k) 0 (by exact ⟨rfl, trivial⟩) (Δ0 := _) ?_ (⟨rfl, Nat.zero_le _, rfl, rfl⟩) ?_
  · exact zE
  rintro k δ _ _ ⟨rfl, hk, hgo, rfl⟩
  dsimp only [ovr, List.foldl]
  refine zS (zR (zO rfl (Rd.lss rfl rfl) ?_)); refine zN (zT (zS ?_)); refine XA.condp rfl (fun hlt => ?_) (fun hlt => ?_)
  · have hlt : k < l.length := by omega
    obtain ⟨x, hx⟩ : ∃ x, l[k]? = some x := ⟨_, List.getElem?_eq_getElem hlt⟩
    obtain ⟨gg, o, row, rfl, ⟨rfl, hx8⟩, hrl, hrow⟩ := hl.at hx
    have hpre := hl.take' (k := k) hk
    have hone : ones x.cells := PageS.ones
    rw [dropS hx, checkGo] at hgo
    have hc0 : x.cells[0]? = some (i64 x.n) := rfl
    refine XA.skip (zT (zS (XA.block (zS (zR (yA ?_)))))); refine zO rfl (Rd.ixS rfl rfl) ?_; refine zO rfl (Rd.ldA rfl) ?_; refine zw rfl (WrA.alloc (tyrow rfl)) ?_
    rintro _ _ _ ⟨g4, rfl, rfl, rfl⟩
    refine yS ?_; refine zw rfl (WrA.st (tyrow rfl) rfl) ?_
    rintro _ _ _ ⟨rfl, rfl, rfl⟩
    refine zN (zT (zS (zS (zR (yV ?_))))); refine yB ?_; refine yC (shas_a σ x.n) ?_
    by_cases hin : 0 ≤ x.n ∧ x.n < 14
    · rw [if_neg (fun h => h hin)] at hgo
      rw [decide_eq_true hin]
      refine zO rfl zJ ?_; refine zN (zT (yF rfl rfl (XA.skip (zT (zS (zR (yA ?_))))))); refine yA ?_; refine zO rfl (Rd.sliceToN (tyrow rfl) rfl (tyrow rfl) rfl rfl (by omega)) ?_
      refine zO rfl (Rd.makeFunc1 (by with_reducible (conv => lhs; whnf))) ?_
      refine yC (containsPg_a σ g4 x _ _ hpre) ?_; refine zN (zT ?_); refine XA.condp rfl (fun htw => ?_) (fun htw => ?_)
      · rw [if_pos htw] at hgo
        refine zS (zR (yS ?_)); refine zN (zT (XA.ret (DA.inb_ret (DA.thn_ret (DA.thn_ret (DA.inb_ret (DA.thn_ret ?_)))))))
        exact bodyA.ret (ResA.one rfl rfl) zE ⟨by rw [← hgo], rfl, rfl⟩
      rw [if_neg htw] at hgo
      refine XA.skip (DA.inb_normal (zT (zR (zO rfl zI ?_)))); refine yA ?_; refine zN (zT ?_)
      refine ⟨(Keep.upd (Keep.upd (Keep.updO (Keep.upd (Keep.upd (Keep.upd (Keep.upd (Keep.upd (Keep.updO (Keep.upd (Keep.upd (Keep.updN (Keep.upd (Keep.updO (Keep.upd (Keep.upd (Keep.upd (Keep.upd (Keep.upd (Keep.hav (Keep.hav (Keep.refl _ _) rfl) rfl) rfl) rfl) rfl) rfl) rfl) rfl) rfl)) rfl) rfl) rfl) rfl) rfl) rfl) rfl) rfl) rfl) rfl) rfl), k + 1, _, zM, ?_, ⟨rfl, hlt, by rw [takeS hx]; exact hgo, rfl⟩, (by omega)⟩
      · exact zE
    · rw [if_pos hin] at hgo
      rw [decide_eq_false hin]
      refine zO rfl zJ ?_; refine zN (zT (yT rfl rfl (zS (zR (yS ?_))))); refine zN (zT (XA.ret (DA.thn_ret (DA.inb_ret (DA.thn_ret (DA.thn_ret (DA.inb_ret (DA.thn_ret ?_))))))))
      exact bodyA.ret (ResA.one rfl rfl) zE ⟨by rw [← hgo], rfl, rfl⟩
  have hkn : k = l.length := by omega
  subst hkn
  rw [List.drop_length, checkGo] at hgo
  refine XA.exit (DA.thn_exit (DA.thn_exit (DA.inb_same (zT (zS (zR (yS ?_))))))); refine zN (zT (XA.ret ?_))
  exact bodyA.ret (ResA.one rfl rfl) zE ⟨by rw [← hgo], rfl, rfl⟩
end Go.Proofs.YtmnmcjdgnpgchaaGreat

namespace Go.Proofs.YtmnmcjdgnpgchaaGreat
open Go X
set_option maxHeartbeats 2000000
def freeTo (u : List Int) (k : Nat) : List Int := ((List.range k).map fun i => ((i + 2 : Nat) : Int)).filter fun a => decide (a ∉ u)
def freeS (s : StS) : List Int := freeTo (s.t ++ s.pg) 32
theorem freeTo_succ (u : List Int) (k : Nat) : freeTo u (k + 1) = freeTo u k ++ (if ((k + 2 : Nat) : Int) ∈ u then [] else [((k + 2 : Nat) : Int)]) := by
  unfold freeTo
  rw [List.range_succ, List.map_append, List.filter_append]
  congr 1
  by_cases h : ((k + 2 : Nat) : Int) ∈ u
  · simp only [List.map_cons, List.map_nil, List.filter_cons]; rw [if_neg (by simpa using h), if_pos h]; rfl
  · simp only [List.map_cons, List.map_nil, List.filter_cons]; rw [if_pos (by simpa using h), if_neg h]; rfl
theorem nodup_le {α : Type} [DecidableEq α] : ∀ {l m : List α}, l.Nodup → (∀ x ∈ l, x ∈ m) → l.length ≤ m.length
  | [], _, _, _ => Nat.zero_le _
  | a :: l, m, hn, h => by
    obtain ⟨h1, h2⟩ := List.nodup_cons.1 hn
    have ha := h a (by simp)
    have := nodup_le (l := l) (m := m.erase a) h2 (fun x hx => (List.mem_erase_of_ne (fun e => h1 (by subst e; exact hx))).2 (h x (by simp [hx])))
    rw [List.length_erase_of_mem ha] at this
    have : 0 < m.length := List.length_pos_of_mem ha
    simp only [List.length_cons]; omega
theorem filter_two {α : Type} (p : α → Bool) : ∀ l : List α, (l.filter p).length + (l.filter fun a => !p a).length = l.length
  | [] => rfl
  | a :: l => by
    have := filter_two p l
    by_cases h : p a = true
    · simp [List.filter_cons, h]; omega
    · have h : p a = false := by simpa using h
      simp [List.filter_cons, h]; omega
theorem secs_nodup (k : Nat) : ((List.range k).map fun i => ((i + 2 : Nat) : Int)).Nodup := by
  refine List.Pairwise.map _ (fun a b h => ?_) List.nodup_range
  omega
theorem freeTo_nodup (u : List Int) (k : Nat) : (freeTo u k).Nodup := (secs_nodup k).filter _
theorem freeTo_mem {u : List Int} {k : Nat} {a : Int} (h : a ∈ freeTo u k) : 2 ≤ a ∧ a < k + 2 ∧ a ∉ u := by
  simp only [freeTo, List.mem_filter, List.mem_map, List.mem_range, decide_eq_true_eq] at h
  obtain ⟨⟨i, h1, rfl⟩, h2⟩ := h
  exact ⟨by omega, by omega, h2⟩
theorem freeTo_len (u : List Int) (k : Nat) : k ≤ (freeTo u k).length + u.length := by
  have h1 := filter_two (fun a => decide (a ∉ u)) ((List.range k).map fun i => ((i + 2 : Nat) : Int))
  have h2 : (((List.range k).map fun i => ((i + 2 : Nat) : Int)).filter fun a => !decide (a ∉ u)).length ≤ u.length := by
    refine nodup_le ((secs_nodup k).filter _) (fun x hx => ?_)
    simp only [List.mem_filter] at hx
    simpa using hx.2
  simp only [List.length_map, List.length_range] at h1
  show k ≤ (List.filter _ _).length + u.length
  omega
theorem freeTo_le (u : List Int) (k : Nat) : (freeTo u k).length ≤ k := by
  unfold freeTo
  exact Nat.le_trans (List.length_filter_le _ _) (by simp)
theorem checkGo_zero : ∀ (l seen : List PageS), checkGo seen l = 0 → (∀ x ∈ l, 0 ≤ x.n ∧ x.n < 14) ∧ (l.map (·.n)).Nodup ∧ ∀ x ∈ l, ∀ y ∈ seen, y.n ≠ x.n
  | [], _, _ => ⟨by simp, by simp, by simp⟩
  | p :: l, seen, h => by
    rw [checkGo] at h
    split at h
    · cases h
    · rename_i h1
      split at h
      · cases h
      · rename_i h2
        obtain ⟨h3, h4, h5⟩ := checkGo_zero l _ h
        have h1 := Decidable.not_not.1 h1
        refine ⟨fun x hx => ?_, ?_, fun x hx y hy e => ?_⟩
        · simp only [List.mem_cons] at hx
          rcases hx with rfl | hx
          · exact h1
          · exact h3 x hx
        · rw [List.map_cons, List.nodup_cons]
          refine ⟨fun hm => ?_, h4⟩
          obtain ⟨x, hx, e⟩ := List.mem_map.1 hm
          exact h5 x hx p (by simp) e.symm
        · simp only [List.mem_cons] at hx
          rcases hx with rfl | hx
          · exact h2 ⟨y, hy, e⟩
          · exact h5 x hx y (by simp [hy]) e
theorem check_zero {l : List PageS} (h : checkS l = 0) : (∀ x ∈ l, 0 ≤ x.n ∧ x.n < 14) ∧ (l.map (·.n)).Nodup ∧ l.length ≤ 14 := by
  obtain ⟨h1, h2, -⟩ := checkGo_zero l [] h
  refine ⟨h1, h2, ?_⟩
  have := nodup_le (m := (List.range 14).map fun i => ((i : Nat) : Int)) h2 (fun x hx => by
    obtain ⟨y, hy, rfl⟩ := List.mem_map.1 hx
    have := h1 y hy
    exact List.mem_map.2 ⟨y.n.toNat, List.mem_range.2 (by omega), by omega⟩)
  simpa using this
def nextS (s : StS) (l : List PageS) : StS := ⟨s.gen + 1, [(freeS s).getD l.length 0, (freeS s).getD (l.length + 1) 0], pgTo s.pg l (freeS s) l.length⟩
def comT (d : DiskS) (s : StS) (l : List PageS) (k : Nat) : DiskS := dTo (dTo d l (freeS s) l.length) (tabL (nextS s l).pg) ((freeS s).drop l.length) k
def comD (d : DiskS) (s : StS) (l : List PageS) (j : Nat) : DiskS :=
  if j ≤ l.length then dTo d l (freeS s) j
  else if j ≤ l.length + 2 then comT d s l (j - l.length)
  else if j = l.length + 3 then (comT d s l 2).settle fun _ => true
  else if j = l.length + 4 then ((comT d s l 2).settle fun _ => true).write ((s.gen + 1) % 2) (rootW (s.gen + 1) ((nextS s l).t.getD 0 0) ((nextS s l).t.getD 1 0))
  else (((comT d s l 2).settle fun _ => true).write ((s.gen + 1) % 2) (rootW (s.gen + 1) ((nextS s l).t.getD 0 0) ((nextS s l).t.getD 1 0))).settle fun _ => true
end Go.Proofs.YtmnmcjdgnpgchaaGreat

namespace Go.Proofs.YtmnmcjdgnpgchaaGreat
open Go X
set_option maxHeartbeats 2000000
theorem commit_yes (σ : PH) (b db : Nat) (s : StS) (d : DiskS) (sl : Value) (l : List PageS) (D : Int) (hl : PSl 9 rPage σ sl l) (hc : checkS l = 0) (hs : s.ok) (hg0 : 0 ≤ s.gen) (hg1 : s.gen < 4611686018427387904) (hD : okD D) (hlen : d.wait.length < 900) :
    CallsA Tryz.prog 115 #[ptr b, sl, i64 D] σ [Store b db s, Disk db d]
      (RetA fun v σ' Γ' => ∃ j : Nat, j ≤ l.length + 5 ∧ (j < l.length + 5 → D = (j : Int)) ∧ (j = l.length + 5 → ∀ i : Nat, i < l.length + 5 → D ≠ (i : Int)) ∧ v = .tuple #[.bool (decide (j = l.length + 5)), i64 0] ∧ σ.sub σ' ∧ Γ' = [Store b db (if j = l.length + 5 then nextS s l else s), Disk db (comD d s l j)]) := by
  obtain ⟨hn, hnd, hl14⟩ := check_zero hc
  obtain ⟨t0, t1, ht⟩ := st_cells hs
  obtain ⟨g, t, pg⟩ := s
  simp only at ht hg0 hg1
  subst ht
  have hpg : pg.length = 14 := hs.2
  have hvl : (i64 g :: i64 t0 :: i64 t1 :: ints pg).length = 17 := by simp [hpg]
  have htk : ((ptr db :: i64 g :: i64 t0 :: i64 t1 :: ints pg).drop 1).take 17 = i64 g :: i64 t0 :: i64 t1 :: ints pg := take_eq hvl
  have hone : ones (i64 g :: i64 t0 :: i64 t1 :: ints pg) := ones_cons rfl (ones_cons rfl (ones_cons rfl (ones_ints _)))
  obtain ⟨u, hu⟩ : ∃ u, u = t0 :: t1 :: pg := ⟨_, rfl⟩
  have hfree : freeS ⟨g, [t0, t1], pg⟩ = freeTo u 32 := by subst hu; rfl
  have hfl : 16 ≤ (freeTo u 32).length := by have := freeTo_len u 32; rw [hu] at this ⊢; simp only [List.length_cons, hpg] at this; omega
  have hul : u.length = 16 := by subst hu; simp [hpg]
  refine enterA3 Tryz.func115 rfl rfl rfl ?_; refine zS (zR (yS ?_)); refine yS ?_; refine zN (zT (zS (zS (zR (yA ?_))))); refine yC (scheck_a σ sl l hl) ?_
  rw [hc]
  refine yS ?_; refine zN (zT (zS (zR (yA ?_)))); refine zO rfl (Rd.neq rfl rfl) ?_; refine zN (zT (yF rfl rfl (XA.skip (zT (zS (zR (yA ?_))))))); refine yA ?_; refine yA ?_
  first | refine XA.opn (R := Store b db _) zL (Store.opn) ?_ | refine XOA.opn (R := Store b db _) zL (Store.opn) ?_ | refine DA.opn (R := Store b db _) zL (Store.opn) ?_
  rintro ⟨⟩ -
  first | refine XA.cl ?_ | refine XOA.cl ?_ | refine DA.cl ?_
  refine XOA.re (Δ := [blk b (ptr db :: i64 g :: i64 t0 :: i64 t1 :: ints pg) 147, Disk db d]) rfl ?_; refine zO rfl (Rd.nilCheck rfl) ?_; refine yV ?_; refine zO rfl (Rd.ldA rfl) ?_; refine zO rfl (Rd.bl (fun _ _ => tyrow) rfl rfl rfl) ?_; refine zw rfl WrA.bx ?_
  rintro _ _ _ ⟨g24, rfl, rfl, rfl⟩
  refine yS ?_; refine zN (zT (zS (zR (yA ?_)))); refine zO rfl (Rd.nilCheck rfl) ?_; refine yV ?_; refine yV ?_; refine yB ?_; refine zO rfl zI ?_; refine zO rfl (Rd.nilCheck rfl) ?_; refine yV ?_; refine yV ?_; refine zw rfl (WrA.st (tyrow rfl) rfl) ?_
  rintro _ _ _ ⟨rfl, rfl, rfl⟩
  refine zN (zT (zS (zR (yA ?_)))); refine zO rfl (Rd.nilCheck rfl) ?_; refine yV ?_; refine zw rfl (WrA.cE (used_a σ b db g t0 t1 pg hpg) rfl) ?_
  rintro _ _ _ ⟨_, ⟨pu, cu, rfl, rfl, rfl⟩, rfl⟩
  refine XOA.cl ?_
  rw [← hu]
  refine XOA.frz (R := lst 3 1 (.slice pu 16 cu) 16 (ints u)) (φ := fun (_ : Unit) m => PInts m (.slice pu 16 cu) u) zL (fun m h => ⟨(), lst_pints h⟩) (fun _ _ _ h s => h.mono s) ?_
  rintro σ1 ⟨⟩ hpu hs1
  refine yS ?_; refine zN (zT (zS (zS (zR (yS ?_))))); refine zN (zT (XA.block ?_))
  refine XA.gen [(0, _), (1, _), (6, _), (7, _), (9, _), (10, _), (11, _)] ⟨(by with_reducible (conv => lhs; whnf)), (by with_reducible (conv => lhs; whnf)), (by with_reducible (conv => lhs; whnf)), (by with_reducible (conv => lhs; whnf)), (by with_reducible (conv => lhs; whnf)), (by with_reducible (conv => lhs; whnf)), (by with_reducible (conv => lhs; whnf)), trivial⟩ (fun δ => ?_)
  dsimp only [List.foldl]
  refine XA.loop [(11, 11), (38, 55)] (fun k : Nat => [(11, i64 ((k + 2 : Nat) : Int))]) (fun k σ' Γ' => σ1 = σ' ∧ k ≤ 32 ∧ ∃ (p : Option Addr) (c : Nat), Γ' = [lst 3 1 (.slice p (freeTo u k).length c) (freeTo u k).length (ints (freeTo u k)), blk g24 (comC b D (g + 1) t0 t1 pg (.slice p (freeTo u k).length c)) 182, blk b (ptr db :: i64 g :: i64 t0 :: i64 t1 :: ints pg) 147, Disk db d]) (fun k => 32 - k) 0 (by exact ⟨rfl, trivial⟩) (Δ0 := _) ?_ (⟨rfl, by decide, none, 0, rfl⟩) ?_
  · exact (Ent.selNil (e := 3) (size := 1) zE)
  rintro k δ _ _ ⟨rfl, hk, p, cc, rfl⟩
  dsimp only [ovr, List.foldl]
  have hfk := freeTo_le u k
  refine zS (zS (zR (yA ?_))); refine zO rfl (Rd.lss rfl rfl) ?_; refine zN (zT ?_); refine XA.condp rfl (fun hlt => ?_) (fun hlt => ?_)
  · have hlt : k < 32 := by omega
    refine XA.skip (zT (zS (XA.block (zS (zR (yA ?_)))))); refine yA ?_; refine yC (contains_a σ1 _ u ((k + 2 : Nat) : Int) hpu) ?_; refine zO rfl zJ ?_; refine zN (zT ?_); refine XA.condp rfl (fun hin => ?_) (fun hin => ?_)
    · have e1 : freeTo u (k + 1) = freeTo u k ++ [((k + 2 : Nat) : Int)] := by rw [freeTo_succ, if_neg hin]
      have hlast := com_last (sb := b) (left := D) (gen := g + 1) (t0 := t0) (t1 := t1) (fr := .slice p (freeTo u k).length cc) hpg
      have hspl := fun fr' => com_put19 (sb := b) (left := D) (gen := g + 1) (t0 := t0) (t1 := t1) (fr := .slice p (freeTo u k).length cc) hpg fr'
      have hfit : 19 + ty180.size ≤ (comC b D (g + 1) t0 t1 pg (.slice p (freeTo u k).length cc)).length := by rw [com_len hpg]; decide
      obtain ⟨fk, hfkk⟩ : ∃ fk, fk = freeTo u k := ⟨_, rfl⟩
      rw [← hfkk] at e1 hlast hspl hfit hfk ⊢
      refine zR (yA ?_); refine yA ?_; refine zO rfl (Rd.nilCheck rfl) ?_; refine yV ?_; refine yB ?_; refine yA ?_; refine zw rfl (WrA.bs1 (tyrow rfl) rfl (tyrow rfl)) ?_
      rintro _ _ _ ⟨g52, rfl, rfl, rfl⟩
      refine zw rfl (WrA.ap1 (tyrow rfl) rfl (tyrow rfl) rfl rfl rfl) ?_
      rintro _ _ _ ⟨p53, c53, rfl, rfl, rfl⟩
      refine zO rfl (Rd.nilCheck rfl) ?_; refine yV ?_; refine zw rfl (WrA.st (tyrow rfl) rfl) ?_
      rintro _ _ _ ⟨rfl, rfl, rfl⟩
      refine zN (DA.inb_normal (zT (zR (yA ?_)))); refine zO rfl zI ?_; refine yS ?_; refine zN (zT ?_)
      refine ⟨(Keep.upd (Keep.upd (Keep.upd (Keep.updN (Keep.upd (Keep.upd (Keep.updO (Keep.updO (Keep.upd (Keep.upd (Keep.upd (Keep.upd (Keep.upd (Keep.upd (Keep.upd (Keep.updO (Keep.upd (Keep.upd (Keep.upd (Keep.upd (Keep.upd (Keep.hav (Keep.hav (Keep.refl _ _) rfl) rfl) rfl) rfl) rfl) rfl) rfl) rfl) rfl) rfl) rfl) rfl) rfl) rfl) rfl) rfl) rfl) rfl) rfl)) rfl) rfl) rfl), k + 1, _, zM, ?_, ⟨rfl, hlt, p53, c53, by rw [e1, List.length_append, List.length_singleton]⟩, (by omega)⟩
      · rw [show ints (fk ++ [((k + 2 : Nat) : Int)]) = ints fk ++ [i64 ((k + 2 : Nat) : Int)] from by simp]; exact zE
    · have hin : ((k + 2 : Nat) : Int) ∈ u := Decidable.not_not.1 hin
      have e1 : freeTo u (k + 1) = freeTo u k := by rw [freeTo_succ, if_pos hin, List.append_nil]
      refine XA.skip (DA.inb_normal (zT (zR (yA ?_)))); refine zO rfl zI ?_; refine yS ?_; refine zN (zT ?_)
      refine ⟨(Keep.upd (Keep.upd (Keep.upd (Keep.upd (Keep.updO (Keep.upd (Keep.upd (Keep.upd (Keep.upd (Keep.upd (Keep.hav (Keep.hav (Keep.refl _ _) rfl) rfl) rfl) rfl) rfl) rfl) rfl) rfl) rfl) rfl) rfl) rfl), k + 1, _, zM, ?_, ⟨rfl, hlt, p, cc, by rw [e1]⟩, (by omega)⟩
      · exact zE
  have hk32 : k = 32 := by omega
  subst hk32
  obtain ⟨F, hF⟩ : ∃ F, F = freeTo u 32 := ⟨_, rfl⟩
  rw [← hF] at hfree hfl hfk ⊢
  refine XA.exit (DA.thn_exit (DA.thn_exit (DA.inb_same (zT (zS (zS (zR (yA ?_)))))))); refine yA ?_; refine XOA.frz (R := lst 3 1 (.slice p F.length cc) F.length (ints F)) (φ := fun (_ : Unit) m => PInts m (.slice p F.length cc) F) zL (fun m h => ⟨(), lst_pints h⟩) (fun _ _ _ h s => h.mono s) ?_
  rintro σ2 ⟨⟩ hfr hs2
  have hs12 := hs1.trans hs2
  have hl2 := hl.mono hs12 (fun _ _ h => h)
  refine XOA.re (Δ := [blk g24 (comC b (leftOf D 0) (g + 1) t0 t1 pg (.slice p F.length cc)) 182, blk b (ptr db :: i64 g :: i64 t0 :: i64 t1 :: ints pg) 147, Disk db d]) (by rw [left_start hD]) ?_
  obtain ⟨S, hS⟩ : ∃ S : StS, S = ⟨g, [t0, t1], pg⟩ := ⟨_, rfl⟩
  have hSc : ptr db :: i64 g :: i64 t0 :: i64 t1 :: ints pg = ptr db :: S.cells := by rw [hS]; rfl
  have hSok : S.ok := by rw [hS]; exact hs
  rw [← hS] at hfree ⊢
  rw [hSc]
  refine zw rfl (WrA.cE (pages_a σ2 g24 b db D (g + 1) t0 t1 pg _ S d sl l F hD hpg hfr hl2 hn (by omega) (by omega) (by omega)) rfl) ?_
  rintro _ _ _ ⟨_, ⟨k, fr2, hk2, rfl, hkD, hnotP, hfr2, rfl, rfl⟩, rfl⟩
  refine XOA.cl ?_
  by_cases hkl : k = l.length
  · subst hkl
    rw [decide_eq_true rfl]
    obtain ⟨a0, ha0⟩ : ∃ a, F[l.length]? = some a := ⟨_, List.getElem?_eq_getElem (by omega)⟩
    obtain ⟨a1, ha1⟩ : ∃ a, F[l.length + 1]? = some a := ⟨_, List.getElem?_eq_getElem (by omega)⟩
    have hg0' : F.getD l.length 0 = a0 := by rw [List.getD_eq_getElem?_getD, ha0]; rfl
    have hg1' : F.getD (l.length + 1) 0 = a1 := by rw [List.getD_eq_getElem?_getD, ha1]; rfl
    have hdr : F.drop l.length = a0 :: a1 :: F.drop (l.length + 2) := by rw [dropS ha0, dropS ha1]
    obtain ⟨P, hP⟩ : ∃ P, P = pgTo pg l F l.length := ⟨_, rfl⟩
    have hPl : P.length = 14 := by rw [hP]; exact pgTo_len l F hpg _
    have hnx : nextS S l = ⟨g + 1, [a0, a1], P⟩ := by rw [nextS, hfree, hg0', hg1', hP, hS]
    have hw1 := dTo_wait d l F l.length
    have hcT : ∀ q, comT d S l q = dTo (dTo d l F l.length) (tabL P) (a0 :: a1 :: F.drop (l.length + 2)) q := fun q => by rw [comT, hfree, hnx, hdr]
    have hgS : S.gen = g := by rw [hS]
    rw [hdr] at hfr2
    rw [← hP]
    refine zO rfl zJ ?_; refine yA ?_
    first | refine gA ?_ | refine zH ?_
    first | refine XOA.wanted rfl rfl ?_ | refine XOA.wq rfl rfl ?_
    refine zw rfl (WrA.cE (table_a σ2 g24 b db D l.length (g + 1) t0 t1 P fr2 S (dTo d l F l.length) a0 a1 (F.drop (l.length + 2)) hD (by omega) hPl hfr2 (by omega)) rfl) ?_
    rintro _ _ _ ⟨_, ⟨k2, fr3, hk3, rfl, hkD2, hnotT, hfr3, rfl, rfl⟩, rfl⟩
    refine XOA.cl ?_
    rw [← hcT]
    by_cases hk22 : k2 = 2
    · subst hk22
      rw [decide_eq_true rfl, show T0 t0 a0 2 = a0 from rfl, show T1 t1 a1 2 = a1 from rfl]
      have hw2 : (comT d S l 2).wait.length < 1000000 := by
        rw [hcT]; have := dTo_wait (dTo d l F l.length) (tabL P) (a0 :: a1 :: F.drop (l.length + 2)) 2; omega
      have hw3 : ((comT d S l 2).settle fun _ => true).wait.length < 1000000 := by simp [DiskS.settle]
      have hc2 : comD d S l (l.length + 2) = comT d S l 2 := by rw [comD, if_neg (by omega), if_pos (by omega), show l.length + 2 - l.length = 2 by omega]
      have hc3 : comD d S l (l.length + 3) = (comT d S l 2).settle fun _ => true := by rw [comD, if_neg (by omega), if_neg (by omega), if_pos rfl]
      have hc4 : comD d S l (l.length + 4) = ((comT d S l 2).settle fun _ => true).write ((g + 1) % 2) (rootW (g + 1) a0 a1) := by
        rw [comD, if_neg (by omega), if_neg (by omega), if_neg (by omega), if_pos rfl, hnx, hgS]; rfl
      have hc5 : comD d S l (l.length + 5) = (((comT d S l 2).settle fun _ => true).write ((g + 1) % 2) (rootW (g + 1) a0 a1)).settle fun _ => true := by
        rw [comD, if_neg (by omega), if_neg (by omega), if_neg (by omega), if_neg (by omega), hnx, hgS]; rfl
      have hw4 : (((comT d S l 2).settle fun _ => true).write ((g + 1) % 2) (rootW (g + 1) a0 a1)).wait.length < 1000000 := by
        have := write_wait ((comT d S l 2).settle fun _ => true) ((g + 1) % 2) (rootW (g + 1) a0 a1)
        have h0 : ((comT d S l 2).settle fun _ => true).wait.length = 0 := by simp [DiskS.settle]
        omega
      first | (refine zG ?_; refine zO rfl zJ ?_) | refine zH ?_
      refine zO rfl zP ?_; refine yA ?_
      first | refine gA ?_ | refine zH ?_
      by_cases hD2 : D = ((l.length + 2 : Nat) : Int)
      · have hD2' := hD2
        subst hD2
        first | refine XOA.wanted rfl rfl ?_ | refine XOA.wq rfl rfl ?_
        refine yC (cflush_no σ2 g24 b (l.length + 2) (g + 1) a0 a1 P fr3 (by omega)) ?_
        first | (refine zG ?_; refine zO rfl zJ ?_) | refine zH ?_
        refine zO rfl zP ?_; refine yA ?_
        first | refine gA ?_ | refine zH ?_
        first | refine zH ?_
        first | (refine zG ?_; refine zO rfl zJ ?_) | refine zH ?_
        refine zO rfl zP ?_; refine yA ?_
        first | refine gA ?_ | refine zH ?_
        first | refine zH ?_
        first | (refine zG ?_; refine zO rfl zJ ?_) | refine zH ?_
        refine zO rfl zP ?_; refine zN (zT (yT rfl rfl (zS (zR (yS ?_))))); refine yS ?_; refine zN (zT (XA.ret (DA.thn_ret ?_)))
        refine bodyA.ret (ResA.two rfl rfl rfl) (Γ' := [Store b db S, Disk db (comT d S l 2)]) (Ent.foldC (Θ := [_]) zD (Store.mk (s := S) hSok rfl) zE) ⟨l.length + 2, by omega, fun _ => rfl, fun h => absurd h (by omega), ?_, hs12, ?_⟩
        · exact congrArg (fun x => Value.tuple #[.bool x, i64 0]) (decide_eq_false (by omega)).symm
        · rw [if_neg (by omega), hc2]
      first | refine XOA.wanted rfl rfl ?_ | refine XOA.wq rfl rfl ?_
      refine yC (cflush_yes σ2 g24 b db D (l.length + 2) (g + 1) a0 a1 P fr3 S (comT d S l 2) hD (by omega) hD2 hw2) ?_
      first | (refine zG ?_; refine zO rfl zJ ?_) | refine zH ?_
      refine zO rfl zP ?_; refine yA ?_
      first | refine gA ?_ | refine zH ?_
      by_cases hD3 : D = ((l.length + 3 : Nat) : Int)
      · subst hD3
        first | refine XOA.wanted rfl rfl ?_ | refine XOA.wq rfl rfl ?_
        refine yC (croot_no σ2 g24 b (l.length + 3) (g + 1) a0 a1 P fr3 (by omega)) ?_
        first | (refine zG ?_; refine zO rfl zJ ?_) | refine zH ?_
        refine zO rfl zP ?_; refine yA ?_
        first | refine gA ?_ | refine zH ?_
        first | refine zH ?_
        first | (refine zG ?_; refine zO rfl zJ ?_) | refine zH ?_
        refine zO rfl zP ?_; refine zN (zT (yT rfl rfl (zS (zR (yS ?_))))); refine yS ?_; refine zN (zT (XA.ret (DA.thn_ret ?_)))
        refine bodyA.ret (ResA.two rfl rfl rfl) (Γ' := [Store b db S, Disk db ((comT d S l 2).settle fun _ => true)]) (Ent.foldC (Θ := [_]) zD (Store.mk (s := S) hSok rfl) zE) ⟨l.length + 3, by omega, fun _ => rfl, fun h => absurd h (by omega), ?_, hs12, ?_⟩
        · exact congrArg (fun x => Value.tuple #[.bool x, i64 0]) (decide_eq_false (by omega)).symm
        · rw [if_neg (by omega), hc3]
      first | refine XOA.wanted rfl rfl ?_ | refine XOA.wq rfl rfl ?_
      refine yC (croot_yes σ2 g24 b db D (l.length + 3) (g + 1) a0 a1 P fr3 S _ hD (by omega) hD3 (by omega) hw3) ?_
      first | (refine zG ?_; refine zO rfl zJ ?_) | refine zH ?_
      refine zO rfl zP ?_; refine yA ?_
      first | refine gA ?_ | refine zH ?_
      by_cases hD4 : D = ((l.length + 4 : Nat) : Int)
      · subst hD4
        first | refine XOA.wanted rfl rfl ?_ | refine XOA.wq rfl rfl ?_
        refine yC (cflush_no σ2 g24 b (l.length + 4) (g + 1) a0 a1 P fr3 (by omega)) ?_
        first | (refine zG ?_; refine zO rfl zJ ?_) | refine zH ?_
        refine zO rfl zP ?_; refine zN (zT (yT rfl rfl (zS (zR (yS ?_))))); refine yS ?_; refine zN (zT (XA.ret (DA.thn_ret ?_)))
        refine bodyA.ret (ResA.two rfl rfl rfl) (Γ' := [Store b db S, Disk db (((comT d S l 2).settle fun _ => true).write ((g + 1) % 2) (rootW (g + 1) a0 a1))]) (Ent.foldC (Θ := [_]) zD (Store.mk (s := S) hSok rfl) zE) ⟨l.length + 4, by omega, fun _ => rfl, fun h => absurd h (by omega), ?_, hs12, ?_⟩
        · exact congrArg (fun x => Value.tuple #[.bool x, i64 0]) (decide_eq_false (by omega)).symm
        · rw [if_neg (by omega), hc4]
      first | refine XOA.wanted rfl rfl ?_ | refine XOA.wq rfl rfl ?_
      refine yC (cflush_yes σ2 g24 b db D (l.length + 4) (g + 1) a0 a1 P fr3 S _ hD (by omega) hD4 hw4) ?_
      have hvl2 : (i64 (g + 1) :: i64 a0 :: i64 a1 :: ints P).length = 17 := by simp [hPl]
      have htk2 : ((comC b (leftOf D (l.length + 4 + 1)) (g + 1) a0 a1 P fr3).drop 2).take 17 = i64 (g + 1) :: i64 a0 :: i64 a1 :: ints P := by
        show ((i64 (g + 1) :: i64 a0 :: i64 a1 :: ints P) ++ [fr3]).take 17 = _
        exact take_app hvl2
      have hone2 : ones (i64 (g + 1) :: i64 a0 :: i64 a1 :: ints P) := ones_cons rfl (ones_cons rfl (ones_cons rfl (ones_ints _)))
      have hScl : S.cells.length = 17 := by rw [hS]; simpa [StS.cells] using hpg
      have hspl2 : splice (ptr db :: S.cells) 1 (i64 (g + 1) :: i64 a0 :: i64 a1 :: ints P) = ptr db :: i64 (g + 1) :: i64 a0 :: i64 a1 :: ints P := by
        unfold splice
        rw [hvl2, List.take_succ_cons, List.take_zero, List.drop_succ_cons, List.drop_of_length_le (by rw [hScl]; decide)]
        simp
      have hfit : 1 + ty145.size ≤ (ptr db :: S.cells).length := by rw [List.length_cons, hScl]; decide
      have hall : ∀ i : Nat, i < l.length + 5 → D ≠ (i : Int) := fun i hi => by
        rcases Nat.lt_or_ge i l.length with h | h
        · exact hnotP i h
        · rcases (show i = l.length + 0 ∨ i = l.length + 1 ∨ i = l.length + 2 ∨ i = l.length + 3 ∨ i = l.length + 4 by omega) with e | e | e | e | e <;> rw [e]
          · exact hnotT 0 (by decide)
          · exact hnotT 1 (by decide)
          · exact hD2
          · exact hD3
          · exact hD4
      first | (refine zG ?_; refine zO rfl zJ ?_) | refine zH ?_
      refine zO rfl zP ?_; refine zN (zT (yF rfl rfl (XA.skip (zT (zS (zR (yA ?_))))))); refine yA ?_; refine zO rfl (Rd.nilCheck rfl) ?_; refine yV ?_; refine zO rfl (Rd.ldA rfl) ?_; refine zO rfl (Rd.nilCheck rfl) ?_; refine yV ?_; refine zw rfl (WrA.st (tyrow rfl) rfl) ?_
      rintro _ _ _ ⟨rfl, rfl, rfl⟩
      refine zN (zT (zS (zR (yS ?_)))); refine yS ?_; refine zN (zT (XA.ret ?_))
      refine bodyA.ret (ResA.two rfl rfl rfl) (Γ' := [Store b db ⟨g + 1, [a0, a1], P⟩, Disk db _]) (Ent.foldC (Θ := [_]) zD (Store.mk (s := ⟨g + 1, [a0, a1], P⟩) ⟨rfl, hPl⟩ rfl) zE) ⟨l.length + 5, Nat.le_refl _, fun h => absurd h (Nat.lt_irrefl _), fun _ => hall, ?_, hs12, ?_⟩
      · exact congrArg (fun x => Value.tuple #[.bool x, i64 0]) (decide_eq_true rfl).symm
      · rw [if_pos rfl, hc5, hnx]
    · have hD2 := hkD2 (by omega)
      rw [decide_eq_false hk22]
      first | (refine zG ?_; refine zO rfl zJ ?_) | refine zH ?_
      refine zO rfl zP ?_; refine yA ?_
      first | refine gA ?_ | refine zH ?_
      first | refine zH ?_
      first | (refine zG ?_; refine zO rfl zJ ?_) | refine zH ?_
      refine zO rfl zP ?_; refine yA ?_
      first | refine gA ?_ | refine zH ?_
      first | refine zH ?_
      first | (refine zG ?_; refine zO rfl zJ ?_) | refine zH ?_
      refine zO rfl zP ?_; refine yA ?_
      first | refine gA ?_ | refine zH ?_
      first | refine zH ?_
      first | (refine zG ?_; refine zO rfl zJ ?_) | refine zH ?_
      refine zO rfl zP ?_; refine zN (zT (yT rfl rfl (zS (zR (yS ?_))))); refine yS ?_; refine zN (zT (XA.ret (DA.thn_ret ?_)))
      have hcd : comD d S l (l.length + k2) = comT d S l k2 := by
        rcases (show k2 = 0 ∨ k2 = 1 by omega) with rfl | rfl
        · rw [comD, if_pos (by omega), comT, hfree]; rfl
        · rw [comD, if_neg (by omega), if_pos (by omega), show l.length + 1 - l.length = 1 by omega]
      refine bodyA.ret (ResA.two rfl rfl rfl) (Γ' := [Store b db S, Disk db (comT d S l k2)]) (Ent.foldC (Θ := [_]) zD (Store.mk (s := S) hSok rfl) zE) ⟨l.length + k2, by omega, fun _ => hD2, fun h => absurd h (by omega), ?_, hs12, ?_⟩
      · exact congrArg (fun x => Value.tuple #[.bool x, i64 0]) (decide_eq_false (by omega)).symm
      · rw [if_neg (by omega), hcd]
  · have hDk := hkD (by omega)
    rw [decide_eq_false hkl]
    refine zO rfl zJ ?_; refine yA ?_
    first | refine gA ?_ | refine zH ?_
    first | refine zH ?_
    first | (refine zG ?_; refine zO rfl zJ ?_) | refine zH ?_
    refine zO rfl zP ?_; refine yA ?_
    first | refine gA ?_ | refine zH ?_
    first | refine zH ?_
    first | (refine zG ?_; refine zO rfl zJ ?_) | refine zH ?_
    refine zO rfl zP ?_; refine yA ?_
    first | refine gA ?_ | refine zH ?_
    first | refine zH ?_
    first | (refine zG ?_; refine zO rfl zJ ?_) | refine zH ?_
    refine zO rfl zP ?_; refine yA ?_
    first | refine gA ?_ | refine zH ?_
    first | refine zH ?_
    first | (refine zG ?_; refine zO rfl zJ ?_) | refine zH ?_
    refine zO rfl zP ?_; refine zN (zT (yT rfl rfl (zS (zR (yS ?_))))); refine yS ?_; refine zN (zT (XA.ret (DA.thn_ret ?_)))
    have hcd : comD d S l k = dTo d l F k := by rw [comD, if_pos hk2, hfree]
    refine bodyA.ret (ResA.two rfl rfl rfl) (Γ' := [Store b db S, Disk db (dTo d l F k)]) (Ent.foldC (Θ := [_]) zD (Store.mk (s := S) hSok rfl) zE) ⟨k, by omega, fun _ => hDk, fun h => absurd h (by omega), ?_, hs12, ?_⟩
    · exact congrArg (fun x => Value.tuple #[.bool x, i64 0]) (decide_eq_false (by omega)).symm
    · rw [if_neg (by omega), hcd]
end Go.Proofs.YtmnmcjdgnpgchaaGreat

namespace Go.Proofs.YtmnmcjdgnpgchaaGreat
open Go X
set_option maxHeartbeats 1000000
theorem settled_ok {d : DiskS} (hd : d.ok) (p : Nat → Bool) : (d.settle p).ok := by
  have hset : (d.wait.zipIdx).take d.wait.length = d.wait.zipIdx := List.take_of_length_le (by simp)
  have hfin : (d.settle p).l = d.part p d.wait.length := by simp only [DiskS.settle, DiskS.part, hset]
  have hpo := part_ok hd p d.wait.length
  exact ⟨by rw [hfin]; exact hpo.1, by rw [hfin]; exact hpo.2, by simp [DiskS.settle]⟩
def DiskS.held (d : DiskS) (a : Int) : List Int := d.l.getD a.toNat DiskS.zeros
def DiskS.waits (d : DiskS) (a : Int) : List (List Int) := (d.wait.filter fun p => p.1 = a.toNat).map (·.2)
theorem waits8 {d : DiskS} (hd : d.ok) (a : Int) : ∀ w ∈ d.waits a, w.length = 8 := by
  intro w hw
  simp only [DiskS.waits, List.mem_map, List.mem_filter] at hw
  obtain ⟨p, ⟨hp, -⟩, rfl⟩ := hw
  exact (hd.2.2 p hp).2
theorem read_wait_nil {d : DiskS} {a : Int} (ha : 0 ≤ a ∧ a < 34) (h : d.wait = []) : d.read a = d.held a := by
  rw [DiskS.read, if_pos ha, h]; rfl
theorem last_mem (n : Nat) : ∀ (ps : List (Nat × List Int)) (w : List Int), DiskS.last w n ps = w ∨ DiskS.last w n ps ∈ (ps.filter fun p => p.1 = n).map (·.2) := by
  intro ps
  induction ps with
  | nil => intro w; exact .inl rfl
  | cons p ps ih =>
    intro w
    have e : DiskS.last w n (p :: ps) = DiskS.last (if p.1 = n then p.2 else w) n ps := rfl
    rw [e]
    by_cases h : p.1 = n
    · rw [if_pos h]
      rcases ih p.2 with ih | ih
      · exact .inr (by rw [ih]; simp [h])
      · exact .inr (by simp only [List.filter_cons, h, decide_true, if_true, List.map_cons, List.mem_cons]; exact .inr ih)
    · rw [if_neg h]
      rcases ih w with ih | ih
      · exact .inl ih
      · exact .inr (by simpa [List.filter_cons, h] using ih)
theorem part_get (d : DiskS) (is : Nat → Bool) (n k : Nat) (hn : k < d.l.length) : (d.part is n).getD k DiskS.zeros = DiskS.last (d.l.getD k DiskS.zeros) k ((((d.wait.zipIdx).take n).filter fun p => is p.2).map (·.1)) := by
  have gen : ∀ (ps : List ((Nat × List Int) × Nat)) (l : List (List Int)), k < l.length → (ps.foldl (fun l p => if is p.2 then l.set p.1.1 p.1.2 else l) l).getD k DiskS.zeros = DiskS.last (l.getD k DiskS.zeros) k ((ps.filter fun p => is p.2).map (·.1)) := by
    intro ps
    induction ps with
    | nil => intro l _; rfl
    | cons p ps ih =>
      intro l hl
      simp only [List.foldl_cons]
      by_cases hp : is p.2 = true
      · rw [if_pos hp, ih _ (by simpa using hl)]
        simp only [List.filter_cons, hp, if_true, List.map_cons]
        simp only [DiskS.last, List.foldl_cons]
        congr 1
        by_cases hk : p.1.1 = k
        · rw [if_pos hk, hk]; simp [List.getD_eq_getElem?_getD, hl]
        · rw [if_neg hk]; simp [List.getD_eq_getElem?_getD, List.getElem?_set_ne hk]
      · rw [if_neg hp, ih _ hl]
        simp [List.filter_cons, hp]
  exact gen _ d.l hn
theorem settle_held {d : DiskS} (hd : d.ok) (is : Nat → Bool) {a : Int} (ha : 0 ≤ a ∧ a < 34) : (d.settle is).held a = DiskS.last (d.held a) a.toNat (((d.wait.zipIdx).filter fun p => is p.2).map (·.1)) := by
  have hset : (d.wait.zipIdx).take d.wait.length = d.wait.zipIdx := List.take_of_length_le (by simp)
  have := part_get d is d.wait.length a.toNat (by rw [hd.1]; omega)
  rw [hset] at this
  rw [DiskS.held, show (d.settle is).l = d.part is d.wait.length by simp only [DiskS.settle, DiskS.part, hset]]
  exact this
theorem settle_mem {d : DiskS} (hd : d.ok) (is : Nat → Bool) {a : Int} (ha : 0 ≤ a ∧ a < 34) : (d.settle is).held a = d.held a ∨ (d.settle is).held a ∈ d.waits a := by
  rw [settle_held hd is ha]
  rcases last_mem a.toNat (((d.wait.zipIdx).filter fun p => is p.2).map (·.1)) (d.held a) with h | h
  · exact .inl h
  · refine .inr ?_
    simp only [List.mem_map, List.mem_filter, decide_eq_true_eq] at h
    obtain ⟨p, ⟨⟨q, ⟨hq, -⟩, rfl⟩, hk⟩, hw⟩ := h
    have hq' : q.1 ∈ d.wait := by
      obtain ⟨q1, q2⟩ := q
      have := (List.mem_zipIdx hq).2.2
      rw [this]; exact List.getElem_mem _
    simp only [DiskS.waits, List.mem_map, List.mem_filter, decide_eq_true_eq]
    exact ⟨q.1, ⟨hq', hk⟩, hw⟩
theorem settle_all {d : DiskS} (hd : d.ok) (is : Nat → Bool) (hall : ∀ k, is k = true) {a : Int} (ha : 0 ≤ a ∧ a < 34) : (d.settle is).held a = d.read a := by
  rw [settle_held hd is ha, DiskS.read, if_pos ha]
  have : ((d.wait.zipIdx).filter fun p => is p.2).map (·.1) = d.wait := by
    rw [List.filter_eq_self.2 (fun p _ => hall p.2)]
    simp
  rw [this]; rfl
theorem write_held (d : DiskS) (a b : Int) (w : List Int) : (d.write b w).held a = d.held a := by unfold DiskS.held DiskS.write; split <;> rfl
theorem write_waits {d : DiskS} {a b : Int} {w : List Int} (ha : 0 ≤ a ∧ a < 34) : (d.write b w).waits a = if (0 ≤ b ∧ b < 34) ∧ b = a then d.waits a ++ [w] else d.waits a := by
  unfold DiskS.waits DiskS.write
  by_cases hb : 0 ≤ b ∧ b < 34
  · rw [if_pos hb]
    simp only [List.filter_append, List.map_append]
    by_cases e : b = a
    · subst e; simp [hb]
    · have : ¬ b.toNat = a.toNat := by omega
      simp [e, this]
  · rw [if_neg hb, if_neg (by rintro ⟨h, -⟩; exact hb h)]
end Go.Proofs.YtmnmcjdgnpgchaaGreat

namespace Go.Proofs.YtmnmcjdgnpgchaaGreat
open Go X
set_option maxHeartbeats 1000000
theorem last_eq (w : List Int) (n : Nat) : ∀ (ps : List (Nat × List Int)), DiskS.last w n ps = (((ps.filter fun p => p.1 = n).map (·.2)).getLast?).getD w := by
  intro ps
  induction ps generalizing w with
  | nil => rfl
  | cons p ps ih =>
    show DiskS.last (if p.1 = n then p.2 else w) n ps = _
    rw [ih]
    by_cases h : p.1 = n
    · rw [if_pos h, List.filter_cons, if_pos (by simpa using h), List.map_cons, List.getLast?_cons]; rfl
    · rw [if_neg h, List.filter_cons, if_neg (by simpa using h)]
theorem read_eq {d : DiskS} {a : Int} (ha : 0 ≤ a ∧ a < 34) : d.read a = ((d.waits a).getLast?).getD (d.held a) := by
  rw [DiskS.read, if_pos ha, last_eq]; rfl
theorem settle_keep {d : DiskS} (hd : d.ok) (is : Nat → Bool) {a : Int} (ha : 0 ≤ a ∧ a < 34) (hw : d.waits a = []) : (d.settle is).held a = d.held a := by
  rcases settle_mem hd is ha with h | h
  · exact h
  · rw [hw] at h; cases h
theorem waits_nil {d : DiskS} (h : d.wait = []) (a : Int) : d.waits a = [] := by simp [DiskS.waits, h]
theorem dTo_held (d : DiskS) (l : List PageS) (F : List Int) (a : Int) : ∀ k, (dTo d l F k).held a = d.held a
  | 0 => rfl
  | k + 1 => by rw [dTo, write_held, dTo_held d l F a k]
theorem dTo_ok {d : DiskS} {l : List PageS} {F : List Int} (hd : d.ok) (hl : ∀ x ∈ l, x.w.length = 8) : ∀ k, k ≤ l.length → (dTo d l F k).ok
  | 0, _ => hd
  | k + 1, hk => by
    rw [dTo]
    refine (dTo_ok hd hl k (by omega)).write ?_
    rw [List.getD_eq_getElem?_getD, List.getElem?_eq_getElem (by omega)]
    exact hl _ (List.getElem_mem _)
theorem dTo_waits {d : DiskS} {l : List PageS} {F : List Int} {a : Int} (ha : 0 ≤ a ∧ a < 34) : ∀ k, (∀ j, j < k → F.getD j 0 ≠ a) → (dTo d l F k).waits a = d.waits a
  | 0, _ => rfl
  | k + 1, h => by
    rw [dTo, write_waits ha, if_neg (fun e => h k (by omega) e.2), dTo_waits ha k (fun j hj => h j (by omega))]
theorem dTo_waits1 {d : DiskS} {l : List PageS} {F : List Int} {a : Int} (ha : 0 ≤ a ∧ a < 34) {i : Nat} (hi : F.getD i 0 = a) : ∀ k, i < k → (∀ j, j < k → j ≠ i → F.getD j 0 ≠ a) → (dTo d l F k).waits a = d.waits a ++ [(l.getD i ⟨0, []⟩).w]
  | k + 1, hk, h => by
    rw [dTo, write_waits ha]
    by_cases e : k = i
    · subst e
      rw [if_pos ⟨by rw [hi]; exact ha, hi⟩, dTo_waits ha k (fun j hj => h j (by omega) (by omega))]
    · rw [if_neg (fun q => h k (by omega) e q.2), dTo_waits1 ha hi k (by omega) (fun j hj hne => h j (by omega) hne)]
structure Good (d : DiskS) (s : StS) : Prop where
  dok : d.ok
  wait : d.wait = []
  sok : s.ok
  gen : 0 ≤ s.gen
  pgr : ∀ p, p < 14 → s.pg.getD p 0 = 0 ∨ (2 ≤ s.pg.getD p 0 ∧ s.pg.getD p 0 < 34)
  root : (s.gen = 0 ∧ s.t = [0, 0] ∧ s.pg = zero14 ∧ d.held 0 = DiskS.zeros ∧ (d.held 1).getD 0 0 = 0) ∨
    (0 < s.gen ∧ ∃ t0 t1, s.t = [t0, t1] ∧ d.held (s.gen % 2) = rootW s.gen t0 t1 ∧ (d.held ((s.gen + 1) % 2)).getD 0 0 < s.gen ∧ (2 ≤ t0 ∧ t0 < 34 ∧ d.held t0 = tw s.pg 0) ∧ (2 ≤ t1 ∧ t1 < 34 ∧ d.held t1 = tw s.pg 1))
theorem Good.new : Good DiskS.new ⟨0, [0, 0], zero14⟩ := by
  refine ⟨DiskS.ok_new, rfl, ⟨rfl, by simp [zero14]⟩, Int.le_refl _, fun p hp => .inl ?_, .inl ⟨rfl, rfl, rfl, rfl, rfl⟩⟩
  simp only [zero14, List.getD_eq_getElem?_getD, List.getElem?_replicate]; split <;> rfl
theorem tw_get {pg : List Int} {i k : Nat} (hk : k < 8) (h : i * 8 + k < 14) : (tw pg i).getD k 0 = pg.getD (i * 8 + k) 0 := by
  rw [tw, twTo, List.getD_eq_getElem?_getD, List.getElem?_map, List.getElem?_range hk]
  simp only [Option.map_some, Option.getD_some]
  rw [if_pos ⟨hk, h⟩]
theorem Good.open {d : DiskS} {s : StS} (h : Good d s) : openS d = s := by
  obtain ⟨g, t, pg⟩ := s
  have hr : ∀ a : Int, 0 ≤ a ∧ a < 34 → d.read a = d.held a := fun a ha => read_wait_nil ha h.wait
  have r0 : rootS d 0 = ⟨(d.held 0).getD 0 0, [(d.held 0).getD 1 0, (d.held 0).getD 2 0], zero14⟩ := by rw [rootS, hr 0 ⟨by decide, by decide⟩]
  have r1 : rootS d 1 = ⟨(d.held 1).getD 0 0, [(d.held 1).getD 1 0, (d.held 1).getD 2 0], zero14⟩ := by rw [rootS, hr 1 ⟨by decide, by decide⟩]
  rcases h.root with ⟨hg, ht, hp, h0, h1⟩ | ⟨hg, t0, t1, ht, hroot, hoth, ⟨ta0, tb0, tc0⟩, ⟨ta1, tb1, tc1⟩⟩
  · simp only at hg ht hp
    subst hg ht hp
    have hl : lastRoot d = ⟨0, [0, 0], zero14⟩ := by
      rw [lastRoot, r0, r1, h0, h1]; rfl
    have hpg : pagesTo d [0, 0] 14 = zero14 := by
      unfold pagesTo zero14
      apply List.ext_getElem (by simp)
      intro p q1 q2
      simp only [List.length_map, List.length_range] at q1
      simp only [List.getElem_map, List.getElem_range, List.getElem_replicate]
      rw [if_pos q1, pageAt]
      have : ([0, 0] : List Int).getD (p / 8) 0 = 0 := by
        rcases (show p / 8 = 0 ∨ p / 8 = 1 by omega) with e | e <;> rw [e] <;> rfl
      rw [this]; rfl
    show ({ lastRoot d with pg := pagesTo d (lastRoot d).t 14 } : StS) = _
    rw [hl, hpg]
  · simp only at hg ht hroot hoth tc0 tc1
    subst ht
    have hl : lastRoot d = ⟨g, [t0, t1], zero14⟩ := by
      rw [lastRoot, r0, r1]
      rcases (show g % 2 = 0 ∨ g % 2 = 1 by omega) with e | e
      · have e' : (g + 1) % 2 = 1 := by omega
        rw [e] at hroot
        rw [e'] at hoth
        rw [hroot, if_neg (by simp only [rootW, List.getD_cons_zero]; omega)]; rfl
      · have e' : (g + 1) % 2 = 0 := by omega
        rw [e] at hroot
        rw [e'] at hoth
        rw [hroot, if_pos (by simp only [rootW, List.getD_cons_zero]; omega)]; rfl
    have hpl : pg.length = 14 := h.sok.2
    have hpg : pagesTo d [t0, t1] 14 = pg := by
      apply List.ext_getElem (by rw [pagesTo_len, hpl])
      intro p q1 q2
      rw [pagesTo_len] at q1
      simp only [pagesTo, List.getElem_map, List.getElem_range]
      rw [if_pos q1, pageAt]
      have hpp : pg[p] = pg.getD p 0 := by simp [List.getD_eq_getElem?_getD, q2]
      have hdiv : p / 8 * 8 + p % 8 = p := by omega
      rcases (show p / 8 = 0 ∨ p / 8 = 1 by omega) with e | e
      · rw [e]
        show (if 0 < t0 then (d.read t0).getD (p % 8) 0 else 0) = _
        rw [if_pos (by omega), hr t0 ⟨by omega, tb0⟩, tc0, tw_get (by omega) (by omega), hpp]
        congr 1; omega
      · rw [e]
        show (if 0 < t1 then (d.read t1).getD (p % 8) 0 else 0) = _
        rw [if_pos (by omega), hr t1 ⟨by omega, tb1⟩, tc1, tw_get (by omega) (by omega), hpp]
        congr 1; omega
    show ({ lastRoot d with pg := pagesTo d (lastRoot d).t 14 } : StS) = _
    rw [hl, hpg]
theorem Good.page {d : DiskS} {s : StS} (h : Good d s) {p : Nat} (hp : p < 14) : pageW d s p = if s.pg.getD p 0 = 0 then DiskS.zeros else d.held (s.pg.getD p 0) := by
  rw [pageW]
  by_cases h0 : s.pg.getD p 0 = 0
  · rw [if_pos h0, if_neg]; rintro ⟨-, -, h⟩; exact h (by simpa using h0)
  · rw [if_neg h0, if_pos ⟨by omega, by omega, by simpa using h0⟩]
    rcases h.pgr p hp with h1 | h1
    · exact absurd h1 h0
    · rw [Int.toNat_natCast, read_wait_nil ⟨by omega, h1.2⟩ h.wait]
theorem Good.same {d d' : DiskS} {s : StS} (h : Good d s) (hd : d'.ok) (hw : d'.wait = []) (hk : ∀ a : Int, (a = 0 ∨ a = 1 ∨ a ∈ s.t ∨ a ∈ s.pg) → 0 ≤ a ∧ a < 34 → d'.held a = d.held a) : Good d' s ∧ ∀ p : Nat, p < 14 → pageW d' s p = pageW d s p := by
  have hpl : s.pg.length = 14 := h.sok.2
  have hg : Good d' s := by
    refine ⟨hd, hw, h.sok, h.gen, h.pgr, ?_⟩
    have k0 := hk 0 (.inl rfl) ⟨by decide, by decide⟩
    have k1 := hk 1 (.inr (.inl rfl)) ⟨by decide, by decide⟩
    rcases h.root with ⟨hg, ht, hp, h0, h1⟩ | ⟨hg, t0, t1, ht, hroot, hoth, ⟨ta0, tb0, tc0⟩, ⟨ta1, tb1, tc1⟩⟩
    · exact .inl ⟨hg, ht, hp, by rw [k0, h0], by rw [k1, h1]⟩
    · refine .inr ⟨hg, t0, t1, ht, ?_, ?_, ⟨ta0, tb0, ?_⟩, ⟨ta1, tb1, ?_⟩⟩
      · rcases (show s.gen % 2 = 0 ∨ s.gen % 2 = 1 by omega) with e | e <;> rw [e] at hroot ⊢
        · rw [k0]; exact hroot
        · rw [k1]; exact hroot
      · rcases (show (s.gen + 1) % 2 = 0 ∨ (s.gen + 1) % 2 = 1 by omega) with e | e <;> rw [e] at hoth ⊢
        · rw [k0]; exact hoth
        · rw [k1]; exact hoth
      · rw [hk t0 (.inr (.inr (.inl (by rw [ht]; simp)))) ⟨by omega, tb0⟩]; exact tc0
      · rw [hk t1 (.inr (.inr (.inl (by rw [ht]; simp)))) ⟨by omega, tb1⟩]; exact tc1
  refine ⟨hg, fun p hp => ?_⟩
  rw [hg.page hp, h.page hp]
  by_cases h0 : s.pg.getD p 0 = 0
  · rw [if_pos h0, if_pos h0]
  · rw [if_neg h0, if_neg h0]
    rcases h.pgr p hp with h1 | h1
    · exact absurd h1 h0
    · refine hk _ (.inr (.inr (.inr ?_))) ⟨by omega, h1.2⟩
      rw [List.getD_eq_getElem?_getD, List.getElem?_eq_getElem (by omega)]
      exact List.getElem_mem _
end Go.Proofs.YtmnmcjdgnpgchaaGreat

namespace Go.Proofs.YtmnmcjdgnpgchaaGreat
open Go X
set_option maxHeartbeats 1000000
def newTo (f : Nat → List Int) (l : List PageS) : Nat → Nat → List Int
  | 0 => f
  | k + 1 => fun p => if p = (l.getD k ⟨0, []⟩).n.toNat then (l.getD k ⟨0, []⟩).w else newTo f l k p
theorem getD_ne {F : List Int} (h : F.Nodup) {i j : Nat} (hi : i < F.length) (hj : j < F.length) (hne : i ≠ j) : F.getD i 0 ≠ F.getD j 0 := by
  have key : ∀ i j, i < j → j < F.length → F.getD i 0 ≠ F.getD j 0 := fun i j hij hj => by
    have := List.pairwise_iff_getElem.1 h i j (by omega) hj hij
    simpa [List.getD_eq_getElem?_getD, show i < F.length by omega, hj] using this
  rcases Nat.lt_or_gt_of_ne hne with h1 | h1
  · exact key i j h1 hj
  · exact (key j i h1 hi).symm
def pick0 (H : Int → List Int) (a : Int) : List Int := if a = 0 then DiskS.zeros else H a
theorem pick0_z {H : Int → List Int} {a : Int} (h : a = 0) : pick0 H a = DiskS.zeros := if_pos h
theorem pick0_n {H : Int → List Int} {a : Int} (h : a ≠ 0) : pick0 H a = H a := if_neg h
theorem set_getD {l : List Int} {n p : Nat} {a : Int} (hp : p < l.length) : (l.set n a).getD p 0 = if p = n then a else l.getD p 0 := by
  rw [List.getD_eq_getElem?_getD, List.getElem?_set]
  by_cases e : n = p
  · rw [if_pos e, if_pos (by omega), if_pos e.symm]; rfl
  · rw [if_neg e, if_neg (fun h => e h.symm), List.getD_eq_getElem?_getD]
theorem drop_getD (F : List Int) (n i : Nat) : (F.drop n).getD i 0 = F.getD (n + i) 0 := by simp [List.getD_eq_getElem?_getD, List.getElem?_drop]
structure FreeOK (s : StS) (l : List PageS) : Prop where
  len : l.length + 2 ≤ (freeS s).length
  rng : ∀ j, j < (freeS s).length → 2 ≤ (freeS s).getD j 0 ∧ (freeS s).getD j 0 < 34 ∧ (freeS s).getD j 0 ∉ s.t ++ s.pg
  ne : ∀ i j, i < (freeS s).length → j < (freeS s).length → i ≠ j → (freeS s).getD i 0 ≠ (freeS s).getD j 0
theorem free_ok {s : StS} {l : List PageS} (hs : s.ok) (hl : l.length ≤ 14) : FreeOK s l := by
  refine ⟨?_, fun j hj => ?_, fun i j hi hj hne => getD_ne (freeTo_nodup _ _) hi hj hne⟩
  · have := freeTo_len (s.t ++ s.pg) 32
    rw [List.length_append, hs.1, hs.2] at this
    show l.length + 2 ≤ (freeTo (s.t ++ s.pg) 32).length
    omega
  · have hm : (freeS s).getD j 0 ∈ freeTo (s.t ++ s.pg) 32 := by
      rw [List.getD_eq_getElem?_getD, List.getElem?_eq_getElem hj]; exact List.getElem_mem _
    obtain ⟨h1, h2, h3⟩ := freeTo_mem hm
    exact ⟨h1, by omega, h3⟩
theorem tabL_len (pg : List Int) : ∀ x ∈ tabL pg, x.w.length = 8 := by
  intro x hx
  simp only [tabL, List.mem_cons, List.not_mem_nil, or_false] at hx
  rcases hx with rfl | rfl <;> exact twTo_len _ _ _
section
variable {d : DiskS} {s : StS} {l : List PageS}
theorem comT_ok (h : Good d s) (hw : ∀ x ∈ l, x.w.length = 8) {q : Nat} (hq : q ≤ 2) : (comT d s l q).ok := dTo_ok (dTo_ok h.dok hw _ (Nat.le_refl _)) (tabL_len _) q (by simpa [tabL] using hq)
theorem comT_held (d : DiskS) (s : StS) (l : List PageS) (q : Nat) (a : Int) : (comT d s l q).held a = d.held a := by rw [comT, dTo_held, dTo_held]
theorem comT_waits (h : Good d s) {q : Nat} {a : Int} (ha : 0 ≤ a ∧ a < 34) (hn : ∀ j, j < l.length + q → (freeS s).getD j 0 ≠ a) : (comT d s l q).waits a = [] := by
  rw [comT, dTo_waits ha q (fun j hj => by rw [drop_getD]; exact hn _ (by omega)), dTo_waits ha _ (fun j hj => hn j (by omega)), waits_nil h.wait]
theorem used_free (f : FreeOK s l) {a : Int} (ha : a = 0 ∨ a = 1 ∨ a ∈ s.t ∨ a ∈ s.pg) {j : Nat} (hj : j < (freeS s).length) : (freeS s).getD j 0 ≠ a := by
  obtain ⟨h1, h2, h3⟩ := f.rng j hj
  rintro rfl
  rcases ha with h | h | h | h
  · omega
  · omega
  · exact h3 (List.mem_append.2 (.inl h))
  · exact h3 (List.mem_append.2 (.inr h))
theorem comT_page (h : Good d s) (f : FreeOK s l) {i : Nat} (hi : i < l.length) : (comT d s l 2).waits ((freeS s).getD i 0) = [(l.getD i ⟨0, []⟩).w] := by
  have hr := f.rng i (by have := f.len; omega)
  have hlen := f.len
  rw [comT, dTo_waits ⟨by omega, hr.2.1⟩ 2 (fun j hj => by rw [drop_getD]; exact f.ne _ _ (by omega) (by omega) (by omega)), dTo_waits1 ⟨by omega, hr.2.1⟩ rfl _ hi (fun j hj hne => f.ne _ _ (by omega) (by omega) hne), waits_nil h.wait]
  rfl
theorem comT_table (h : Good d s) (f : FreeOK s l) {i : Nat} (hi : i < 2) : (comT d s l 2).waits ((freeS s).getD (l.length + i) 0) = [tw (nextS s l).pg i] := by
  have hlen := f.len
  have hr := f.rng (l.length + i) (by omega)
  rw [comT, dTo_waits1 (i := i) ⟨by omega, hr.2.1⟩ (drop_getD _ _ _) 2 hi (fun j hj hne => by rw [drop_getD]; exact f.ne _ _ (by omega) (by omega) (by omega)), dTo_waits ⟨by omega, hr.2.1⟩ _ (fun j hj => f.ne _ _ (by omega) (by omega) (by omega)), waits_nil h.wait]
  rcases (show i = 0 ∨ i = 1 by omega) with rfl | rfl <;> rfl
theorem sure_old (h : Good d s) (hw : ∀ x ∈ l, x.w.length = 8) (f : FreeOK s l) {a : Int} (ha : 0 ≤ a ∧ a < 34) (hu : a = 0 ∨ a = 1 ∨ a ∈ s.t ∨ a ∈ s.pg) : ((comT d s l 2).settle fun _ => true).held a = d.held a := by
  rw [settle_keep (comT_ok h hw (Nat.le_refl _)) _ ha (comT_waits h ha (fun j hj => used_free f hu (by have := f.len; omega))), comT_held]
theorem sure_new (h : Good d s) (hw : ∀ x ∈ l, x.w.length = 8) {a : Int} (ha : 0 ≤ a ∧ a < 34) {w : List Int} (hq : (comT d s l 2).waits a = [w]) : ((comT d s l 2).settle fun _ => true).held a = w := by
  rw [settle_all (comT_ok h hw (Nat.le_refl _)) _ (fun _ => rfl) ha, read_eq ha, hq]; rfl
theorem settle_wait (d : DiskS) (is : Nat → Bool) : (d.settle is).wait = [] := rfl
theorem commit_part (h : Good d s) (hw : ∀ x ∈ l, x.w.length = 8) (hl : l.length ≤ 14) {j : Nat} (hj : j ≤ l.length + 3) (is : Nat → Bool) : Good ((comD d s l j).settle is) s ∧ ∀ p : Nat, p < 14 → pageW ((comD d s l j).settle is) s p = pageW d s p := by
  have f := free_ok (l := l) h.sok hl
  have hlen := f.len
  by_cases h1 : j ≤ l.length
  · have e : comD d s l j = dTo d l (freeS s) j := by rw [comD, if_pos h1]
    rw [e]
    have hok := dTo_ok (F := freeS s) h.dok hw j h1
    refine h.same (settled_ok hok _) (settle_wait _ _) (fun a hu ha => ?_)
    rw [settle_keep hok _ ha (by rw [dTo_waits ha j (fun i hi => used_free f hu (by omega)), waits_nil h.wait]), dTo_held]
  by_cases h2 : j ≤ l.length + 2
  · have e : comD d s l j = comT d s l (j - l.length) := by rw [comD, if_neg h1, if_pos h2]
    rw [e]
    have hok := comT_ok h hw (q := j - l.length) (by omega)
    refine h.same (settled_ok hok _) (settle_wait _ _) (fun a hu ha => ?_)
    rw [settle_keep hok _ ha (comT_waits h ha (fun i hi => used_free f hu (by omega))), comT_held]
  · have e : comD d s l j = (comT d s l 2).settle fun _ => true := by rw [comD, if_neg h1, if_neg h2, if_pos (by omega)]
    rw [e]
    have hok := settled_ok (comT_ok h hw (Nat.le_refl 2)) (fun _ => true)
    refine h.same (settled_ok hok _) (settle_wait _ _) (fun a hu ha => ?_)
    rw [settle_keep hok _ ha (waits_nil (settle_wait _ _) a), sure_old h hw f ha hu]
theorem settle_one {d : DiskS} (hd : d.ok) (hw : d.wait = []) {r : Int} (hr : 0 ≤ r ∧ r < 34) {W : List Int} (hW : W.length = 8) (is : Nat → Bool) {a : Int} (ha : 0 ≤ a ∧ a < 34) : ((d.write r W).settle is).held a = if a = r ∧ is 0 = true then W else d.held a := by
  rw [settle_held (hd.write hW) is ha, write_held]
  have : (d.write r W).wait = [(r.toNat, W)] := by rw [write_pos hr]; simp [hw]
  rw [this]
  by_cases h0 : is 0 = true
  · simp only [List.zipIdx_cons, List.zipIdx_nil, List.filter_cons, h0, if_true, List.filter_nil, List.map_cons, List.map_nil, DiskS.last, List.foldl_cons, List.foldl_nil]
    by_cases e : a = r
    · subst e; simp
    · rw [if_neg (by omega), if_neg (fun h => e h.1)]
  · have h0 : is 0 = false := by simpa using h0
    simp [DiskS.last, h0]
theorem pgTo_rng (h : Good d s) (f : FreeOK s l) : ∀ k, k ≤ l.length → ∀ p, p < 14 → (pgTo s.pg l (freeS s) k).getD p 0 = 0 ∨ (2 ≤ (pgTo s.pg l (freeS s) k).getD p 0 ∧ (pgTo s.pg l (freeS s) k).getD p 0 < 34)
  | 0, _, p, hp => h.pgr p hp
  | k + 1, hk, p, hp => by
    have hlen := f.len
    have ih := pgTo_rng h f k (by omega) p hp
    have hr := f.rng k (by omega)
    rw [pgTo, List.getD_eq_getElem?_getD, List.getElem?_set]
    split
    · split
      · right; exact ⟨hr.1, hr.2.1⟩
      · left; rfl
    · rw [← List.getD_eq_getElem?_getD]; exact ih
theorem commit_new (h : Good d s) (hw : ∀ x ∈ l, x.w.length = 8) (hl : l.length ≤ 14) (hn : ∀ x ∈ l, 0 ≤ x.n ∧ x.n < 14) {d' : DiskS} (hd' : d'.ok) (hw' : d'.wait = [])
    (hh : ∀ a : Int, 0 ≤ a ∧ a < 34 → d'.held a = if a = (s.gen + 1) % 2 then rootW (s.gen + 1) ((nextS s l).t.getD 0 0) ((nextS s l).t.getD 1 0) else ((comT d s l 2).settle fun _ => true).held a) :
    Good d' (nextS s l) ∧ ∀ p : Nat, p < 14 → pageW d' (nextS s l) p = newTo (fun p => pageW d s p) l l.length p := by
  have f := free_ok (l := l) h.sok hl
  have hlen := f.len
  have hg := h.gen
  have hpl : (nextS s l).pg.length = 14 := pgTo_len _ _ h.sok.2 _
  have q0 := f.rng l.length (by omega)
  have q1 := f.rng (l.length + 1) (by omega)
  have hG : Good d' (nextS s l) := by
    refine ⟨hd', hw', ⟨rfl, hpl⟩, by simp only [nextS]; omega, fun p hp => pgTo_rng h f l.length (Nat.le_refl _) p hp, .inr ⟨by simp only [nextS]; omega, _, _, rfl, ?_, ?_, ⟨q0.1, q0.2.1, ?_⟩, ⟨q1.1, q1.2.1, ?_⟩⟩⟩
    · show d'.held ((s.gen + 1) % 2) = _
      rw [hh _ ⟨by omega, by omega⟩, if_pos rfl]; rfl
    · show (d'.held ((s.gen + 1 + 1) % 2)).getD 0 0 < s.gen + 1
      have e : (s.gen + 1 + 1) % 2 = s.gen % 2 := by omega
      rw [e, hh _ ⟨by omega, by omega⟩, if_neg (by omega)]
      rcases (show s.gen % 2 = 0 ∨ s.gen % 2 = 1 by omega) with e2 | e2
      · rw [e2, sure_old h hw f ⟨by decide, by decide⟩ (.inl rfl)]
        rcases h.root with ⟨g0, -, -, h0, -⟩ | ⟨g0, t0, t1, -, hr, -⟩
        · rw [h0, g0]; decide
        · rw [e2] at hr; rw [hr]; simp only [rootW, List.getD_cons_zero]; omega
      · rw [e2, sure_old h hw f ⟨by decide, by decide⟩ (.inr (.inl rfl))]
        rcases h.root with ⟨g0, -, -, -, h1⟩ | ⟨g0, t0, t1, -, hr, -⟩
        · omega
        · rw [e2] at hr; rw [hr]; simp only [rootW, List.getD_cons_zero]; omega
    · rw [hh _ ⟨by omega, q0.2.1⟩, if_neg (by omega)]
      exact sure_new h hw ⟨by omega, q0.2.1⟩ (comT_table h f (i := 0) (by decide))
    · rw [hh _ ⟨by omega, q1.2.1⟩, if_neg (by omega)]
      exact sure_new h hw ⟨by omega, q1.2.1⟩ (comT_table h f (i := 1) (by decide))
  refine ⟨hG, fun p hp => ?_⟩
  obtain ⟨H, hH⟩ : ∃ H : Int → List Int, H = ((comT d s l 2).settle fun _ => true).held := ⟨_, rfl⟩
  have key : ∀ k, k ≤ l.length → ∀ p, p < 14 → pick0 H ((pgTo s.pg l (freeS s) k).getD p 0) = newTo (fun p => pageW d s p) l k p := by
    intro k
    induction k with
    | zero =>
      intro _ p hp
      show pick0 H (s.pg.getD p 0) = pageW d s p
      rw [h.page hp]
      rcases h.pgr p hp with h1 | h1
      · rw [pick0_z h1, if_pos h1]
      · rw [pick0_n (by omega), if_neg (by omega), hH]
        refine sure_old h hw f ⟨by omega, h1.2⟩ (.inr (.inr (.inr ?_)))
        have := h.sok.2
        rw [List.getD_eq_getElem?_getD, List.getElem?_eq_getElem (by omega)]
        exact List.getElem_mem _
    | succ k ih =>
      intro hk p hp
      have hx : l[k]? = some (l.getD k ⟨0, []⟩) := by rw [List.getD_eq_getElem?_getD, List.getElem?_eq_getElem (by omega)]; rfl
      have hxn := hn _ (List.mem_of_getElem? hx)
      have hpk := pgTo_len (pg := s.pg) l (freeS s) h.sok.2 k
      have hr := f.rng k (by omega)
      have e1 : (pgTo s.pg l (freeS s) (k + 1)).getD p 0 = if p = (l.getD k ⟨0, []⟩).n.toNat then (freeS s).getD k 0 else (pgTo s.pg l (freeS s) k).getD p 0 := by rw [pgTo]; exact set_getD (by omega)
      have e2 : newTo (fun p => pageW d s p) l (k + 1) p = if p = (l.getD k ⟨0, []⟩).n.toNat then (l.getD k ⟨0, []⟩).w else newTo (fun p => pageW d s p) l k p := rfl
      rw [e1, e2]
      by_cases e : p = (l.getD k ⟨0, []⟩).n.toNat
      · rw [if_pos e, if_pos e, pick0_n (by omega), hH]
        exact sure_new h hw ⟨by omega, hr.2.1⟩ (comT_page h f (by omega))
      · rw [if_neg e, if_neg e]
        exact ih (by omega) p hp
  rw [hG.page hp, ← key l.length (Nat.le_refl _) p hp]
  have hpe : (nextS s l).pg = pgTo s.pg l (freeS s) l.length := rfl
  rw [hpe]
  rcases pgTo_rng h f l.length (Nat.le_refl _) p hp with h1 | h1
  · rw [pick0_z h1, if_pos h1]
  · rw [pick0_n (by omega), if_neg (by omega), hh _ ⟨by omega, h1.2⟩, if_neg (by omega), hH]
theorem next_t_len (s : StS) (l : List PageS) : (rootW (s.gen + 1) ((nextS s l).t.getD 0 0) ((nextS s l).t.getD 1 0)).length = 8 := rfl
theorem commit_root (h : Good d s) (hw : ∀ x ∈ l, x.w.length = 8) (hl : l.length ≤ 14) (hn : ∀ x ∈ l, 0 ≤ x.n ∧ x.n < 14) (is : Nat → Bool) :
    if is 0 = true then Good ((comD d s l (l.length + 4)).settle is) (nextS s l) ∧ ∀ p : Nat, p < 14 → pageW ((comD d s l (l.length + 4)).settle is) (nextS s l) p = newTo (fun p => pageW d s p) l l.length p
    else Good ((comD d s l (l.length + 4)).settle is) s ∧ ∀ p : Nat, p < 14 → pageW ((comD d s l (l.length + 4)).settle is) s p = pageW d s p := by
  have f := free_ok (l := l) h.sok hl
  have hg := h.gen
  have e : comD d s l (l.length + 4) = ((comT d s l 2).settle fun _ => true).write ((s.gen + 1) % 2) (rootW (s.gen + 1) ((nextS s l).t.getD 0 0) ((nextS s l).t.getD 1 0)) := by
    rw [comD, if_neg (by omega), if_neg (by omega), if_neg (by omega), if_pos rfl]
  rw [e]
  have hok := settled_ok (comT_ok h hw (Nat.le_refl 2)) (fun _ => true)
  have hone := fun a ha => settle_one hok (settle_wait _ _) (r := (s.gen + 1) % 2) ⟨by omega, by omega⟩ (next_t_len s l) is (a := a) ha
  split
  · rename_i h0
    refine commit_new h hw hl hn (settled_ok (hok.write (next_t_len s l)) _) (settle_wait _ _) (fun a ha => ?_)
    rw [hone a ha]
    simp only [h0, and_true]
  · rename_i h0
    refine h.same (settled_ok (hok.write (next_t_len s l)) _) (settle_wait _ _) (fun a hu ha => ?_)
    rw [hone a ha, if_neg (fun q => h0 q.2), sure_old h hw f ha hu]
theorem commit_done (h : Good d s) (hw : ∀ x ∈ l, x.w.length = 8) (hl : l.length ≤ 14) (hn : ∀ x ∈ l, 0 ≤ x.n ∧ x.n < 14) :
    Good (comD d s l (l.length + 5)) (nextS s l) ∧ ∀ p : Nat, p < 14 → pageW (comD d s l (l.length + 5)) (nextS s l) p = newTo (fun p => pageW d s p) l l.length p := by
  have hg := h.gen
  have e : comD d s l (l.length + 5) = (((comT d s l 2).settle fun _ => true).write ((s.gen + 1) % 2) (rootW (s.gen + 1) ((nextS s l).t.getD 0 0) ((nextS s l).t.getD 1 0))).settle fun _ => true := by
    rw [comD, if_neg (by omega), if_neg (by omega), if_neg (by omega), if_neg (by omega)]
  rw [e]
  have hok := settled_ok (comT_ok h hw (Nat.le_refl 2)) (fun _ => true)
  refine commit_new h hw hl hn (settled_ok (hok.write (next_t_len s l)) _) (settle_wait _ _) (fun a ha => ?_)
  rw [settle_one hok (settle_wait _ _) ⟨by omega, by omega⟩ (next_t_len s l) _ ha]
  simp
theorem Good.settle (h : Good d s) (is : Nat → Bool) : Good (d.settle is) s ∧ ∀ p : Nat, p < 14 → pageW (d.settle is) s p = pageW d s p :=
  h.same (settled_ok h.dok _) rfl (fun a _ ha => settle_keep h.dok _ ha (waits_nil h.wait a))
end
end Go.Proofs.YtmnmcjdgnpgchaaGreat

namespace Go.Proofs.YtmnmcjdgnpgchaaGreat
open Go X
set_option maxHeartbeats 1000000
theorem Good.wlen {d : DiskS} {s : StS} (h : Good d s) : d.wait.length < 900 := by rw [h.wait]; decide
theorem Good.wlen' {d : DiskS} {s : StS} (h : Good d s) : d.wait.length < 1000000 := by rw [h.wait]; decide
theorem comD_wait {d : DiskS} {s : StS} {l : List PageS} (h : Good d s) (hl : l.length ≤ 14) (j : Nat) : (comD d s l j).wait.length < 1000000 := by
  have h0 : d.wait.length = 0 := by rw [h.wait]; rfl
  have hT : ∀ q, q ≤ 2 → (comT d s l q).wait.length < 100 := fun q hq => by
    have h1 := dTo_wait d l (freeS s) l.length
    have h2 := dTo_wait (dTo d l (freeS s) l.length) (tabL (nextS s l).pg) ((freeS s).drop l.length) q
    unfold comT; omega
  unfold comD
  split
  · have := dTo_wait d l (freeS s) j; omega
  · split
    · have := hT (j - l.length) (by omega); omega
    · split
      · simp [DiskS.settle]
      · split
        · have := write_wait ((comT d s l 2).settle fun _ => true) ((s.gen + 1) % 2) (rootW (s.gen + 1) ((nextS s l).t.getD 0 0) ((nextS s l).t.getD 1 0))
          have h3 : ((comT d s l 2).settle fun _ => true).wait.length = 0 := by simp [DiskS.settle]
          omega
        · simp [DiskS.settle]
def s0 : StS := ⟨0, [0, 0], zero14⟩
end Go.Proofs.YtmnmcjdgnpgchaaGreat

namespace Go.Proofs.YtmnmcjdgnpgchaaGreat
open Go X
set_option maxHeartbeats 1000000
theorem cellsOf_ty' {P : Program} {t : TypeId} {r : Ty} (hT : tyOf P t = some r) : P.cellsOf t = r.size := by obtain ⟨d, -, -, e3⟩ := und_of hT; exact e3
end Go.Proofs.YtmnmcjdgnpgchaaGreat

namespace Go.Proofs.YtmnmcjdgnpgchaaGreat
open Go X
set_option maxHeartbeats 1000000
structure VS where
  gen : Int
  pages : List (List Int)
  waits : Bool
  next : List (List Int)
def pgsOk (P : List (List Int)) : Prop := P.length = 14 ∧ ∀ w ∈ P, w.length = 8
namespace VS
def ok (v : VS) : Prop := pgsOk v.pages ∧ pgsOk v.next
def cells (v : VS) : List Value := i64 v.gen :: (ints v.pages.flatten ++ (.bool v.waits :: ints v.next.flatten))
end VS
theorem pgs_len {P : List (List Int)} (h : pgsOk P) : (ints P.flatten).length = 112 := by
  rw [ints_len, flatten_len h.2, h.1]
theorem vlen {g bw : Value} {A B : List Value} (h : A.length = 112) (h' : B.length = 112) : (g :: (A ++ bw :: B)).length = 226 := by simp only [List.length_cons, List.length_append, h, h']
theorem flat_set {α : Type} {s : Nat} : ∀ (rows : List (List α)), (∀ r ∈ rows, r.length = s) → ∀ (n : Nat), n < rows.length → ∀ (r : List α), r.length = s → rows.flatten.take (n * s) ++ (r ++ rows.flatten.drop (n * s + s)) = (rows.set n r).flatten
  | [], _, n, hn, _, _ => by simp at hn
  | x :: rows, h, 0, _, r, hr => by
    have hx := h x (by simp)
    simp only [Nat.zero_mul, List.take_zero, List.nil_append, Nat.zero_add, List.flatten_cons, List.set_cons_zero]
    rw [List.drop_left' hx]
  | x :: rows, h, n + 1, hn, r, hr => by
    have hx := h x (by simp)
    have ih := flat_set rows (fun r' h' => h r' (List.mem_cons_of_mem _ h')) n (by simpa using hn) r hr
    simp only [List.flatten_cons, List.set_cons_succ]
    rw [← ih, show (n + 1) * s = x.length + n * s by rw [Nat.succ_mul, hx]; omega, List.take_length_add_append, show x.length + n * s + s = x.length + (n * s + s) by omega, List.drop_length_add_append]
    simp
theorem ints_splice (X w : List Int) (o : Nat) : splice (ints X) o (ints w) = ints (X.take o ++ (w ++ X.drop (o + w.length))) := by simp [splice, List.map_take, List.map_drop]
theorem pgs_put {P : List (List Int)} (h : pgsOk P) {n : Nat} (hn : n < 14) {w : List Int} (hw : w.length = 8) : splice (ints P.flatten) (n * 8) (ints w) = ints (P.set n w).flatten := by
  rw [ints_splice, hw, flat_set P h.2 n (by rw [h.1]; exact hn) w hw]
theorem pgs_set {P : List (List Int)} (h : pgsOk P) (n : Nat) {w : List Int} (hw : w.length = 8) : pgsOk (P.set n w) := by
  refine ⟨by rw [List.length_set, h.1], fun x hx => ?_⟩
  rcases List.mem_or_eq_of_mem_set hx with h1 | h1
  · exact h.2 x h1
  · rw [h1]; exact hw
def newPg (P : List (List Int)) (l : List PageS) : Nat → List (List Int)
  | 0 => P
  | k + 1 => (newPg P l k).set (l.getD k ⟨0, []⟩).n.toNat (l.getD k ⟨0, []⟩).w
theorem newPg_ok {P : List (List Int)} {l : List PageS} (h : pgsOk P) (hw : ∀ x ∈ l, x.w.length = 8) : ∀ k, k ≤ l.length → pgsOk (newPg P l k)
  | 0, _ => h
  | k + 1, hk => by
    rw [newPg]
    refine pgs_set (newPg_ok h hw k (by omega)) _ ?_
    rw [List.getD_eq_getElem?_getD, List.getElem?_eq_getElem (by omega)]
    exact hw _ (List.getElem_mem _)
end Go.Proofs.YtmnmcjdgnpgchaaGreat

namespace Go.Proofs.YtmnmcjdgnpgchaaGreat
open Go X
set_option maxHeartbeats 1000000
structure Rel (d : DiskS) (s : StS) (v : VS) : Prop where
  good : Good d s
  ok : v.ok
  gen : v.gen = s.gen
  waits : v.waits = false
  page : ∀ p : Nat, p < 14 → v.pages.getD p DiskS.zeros = pageW d s p
theorem pgs_row {P : List (List Int)} (h : pgsOk P) {n : Nat} (hn : n < 14) (g : Value) (r : List Value) : ((g :: (ints P.flatten ++ r)).drop (1 + n * 8)).take 8 = ints (P.getD n DiskS.zeros) := by
  rw [Nat.add_comm, List.drop_succ_cons]
  have hx : P[n]? = some (P.getD n DiskS.zeros) := by rw [List.getD_eq_getElem?_getD, List.getElem?_eq_getElem (by rw [h.1]; exact hn)]; rfl
  have h8 := h.2 _ (List.mem_of_getElem? hx)
  have hpl := pgs_len h
  have h1 := flat_row (fun w => ints w) 8 P (fun x hx => by simp [h.2 x hx]) n _ hx
  rw [show (ints (P.getD n DiskS.zeros)).length = 8 by rw [ints_len, h8]] at h1
  have h2 : ints P.flatten = P.flatMap (fun w => ints w) := by simp [ints, List.flatMap, List.map_flatten]
  rw [List.drop_append_of_le_length (by omega), List.take_append_of_le_length (by simp only [List.length_drop, hpl]; omega), h2]
  exact h1
end Go.Proofs.YtmnmcjdgnpgchaaGreat

namespace Go.Proofs.YtmnmcjdgnpgchaaGreat
open Go X
set_option maxHeartbeats 2000000
theorem X.CallsA.frz {P : Program} {f : FuncId} {vs : Array Value} {σ : PH} {Γ Γ' : List HP} {R : HP} {α : Sort _} {φ : α → PH → Prop} {RR : Ending → PH → List HP → Prop} (he : Enters P f) (s : Sel Γ R Γ') (ho : ∀ m, R m → ∃ x, φ x m) (mono : ∀ x m m', φ x m → m.sub m' → φ x m') (k : ∀ σ' x, φ x σ' → σ.sub σ' → CallsA P f vs σ' Γ' RR) : CallsA P f vs σ Γ RR :=
  ⟨he, fun fr h hh => by obtain ⟨σ', x, a, b, c⟩ := holds_freeze' hh s ho mono; exact (k σ' x a b).2 fr h c⟩
theorem newTo_congr {f g : Nat → List Int} (h : ∀ p, p < 14 → f p = g p) (l : List PageS) : ∀ k p, p < 14 → newTo f l k p = newTo g l k p
  | 0, p, hp => h p hp
  | k + 1, p, hp => by
    have ih := newTo_congr h l k p hp
    show (if _ then _ else _) = (if _ then _ else _)
    rw [ih]
theorem newPg_get {P : List (List Int)} {l : List PageS} (h : pgsOk P) (hw : ∀ x ∈ l, x.w.length = 8) : ∀ k, k ≤ l.length → ∀ p, p < 14 → (newPg P l k).getD p DiskS.zeros = newTo (fun p => P.getD p DiskS.zeros) l k p
  | 0, _, p, _ => rfl
  | k + 1, hk, p, hp => by
    have ih := newPg_get h hw k (by omega) p hp
    have hl := (newPg_ok h hw k (by omega)).1
    have e : newTo (fun p => P.getD p DiskS.zeros) l (k + 1) p = if p = (l.getD k ⟨0, []⟩).n.toNat then (l.getD k ⟨0, []⟩).w else newTo (fun p => P.getD p DiskS.zeros) l k p := rfl
    rw [e, newPg, List.getD_eq_getElem?_getD, List.getElem?_set]
    by_cases q : (l.getD k ⟨0, []⟩).n.toNat = p
    · rw [if_pos q, if_pos (by omega), if_pos q.symm]; rfl
    · rw [if_neg q, if_neg (fun z => q z.symm), ← ih, List.getD_eq_getElem?_getD]
section
variable {d : DiskS} {s : StS} {v : VS} {l : List PageS}
theorem Rel.pages (h : Rel d s v) (hw : ∀ x ∈ l, x.w.length = 8) {p : Nat} (hp : p < 14) : (newPg v.pages l l.length).getD p DiskS.zeros = newTo (fun p => pageW d s p) l l.length p := by
  rw [newPg_get h.ok.1 hw l.length (Nat.le_refl _) p hp, newTo_congr h.page l l.length p hp]
end
end Go.Proofs.YtmnmcjdgnpgchaaGreat

namespace Go.Proofs.YtmnmcjdgnpgchaaGreat
open Go X
set_option maxHeartbeats 2000000
def wTo (W : List Int) (l : List PageS) : Nat → Int → List Int
  | 0, _ => W
  | k + 1, p => if (l.getD k ⟨0, []⟩).n = p then (l.getD k ⟨0, []⟩).w else wTo W l k p
theorem wTo_succ {W : List Int} {l : List PageS} {k : Nat} {x : PageS} (h : l[k]? = some x) (p : Int) : wTo W l (k + 1) p = if x.n = p then x.w else wTo W l k p := by
  have e : l.getD k ⟨0, []⟩ = x := by rw [List.getD_eq_getElem?_getD, h]; rfl
  rw [wTo, e]
theorem wTo_len {W : List Int} {l : List PageS} (hW : W.length = 8) (hw : ∀ x ∈ l, x.w.length = 8) (p : Int) : ∀ k, k ≤ l.length → (wTo W l k p).length = 8
  | 0, _ => hW
  | k + 1, h => by
    rw [wTo_succ (List.getElem?_eq_getElem (by omega : k < l.length)) p]
    split
    · exact hw _ (List.getElem_mem _)
    · exact wTo_len hW hw p k (by omega)
theorem wTo_new {f : Nat → List Int} {l : List PageS} (hn : ∀ x ∈ l, 0 ≤ x.n ∧ x.n < 14) (p : Nat) : ∀ k, k ≤ l.length → wTo (f p) l k p = newTo f l k p
  | 0, _ => rfl
  | k + 1, h => by
    have ih := wTo_new (f := f) hn p k (by omega)
    have hx := hn (l.getD k ⟨0, []⟩) (by rw [List.getD_eq_getElem?_getD, List.getElem?_eq_getElem (by omega : k < l.length)]; exact List.getElem_mem _)
    show (if _ then _ else _) = (if _ then _ else _)
    rw [ih]
    by_cases q : (l.getD k ⟨0, []⟩).n = p
    · rw [if_pos q, if_pos (by omega)]
    · rw [if_neg q, if_neg (by omega)]
theorem wTo_out {W : List Int} {l : List PageS} (hn : ∀ x ∈ l, 0 ≤ x.n ∧ x.n < 14) {p : Int} (hp : ¬ (0 ≤ p ∧ p < 14)) : ∀ k, k ≤ l.length → wTo W l k p = W
  | 0, _ => rfl
  | k + 1, h => by
    have hx := hn (l.getD k ⟨0, []⟩) (by rw [List.getD_eq_getElem?_getD, List.getElem?_eq_getElem (by omega : k < l.length)]; exact List.getElem_mem _)
    rw [wTo, if_neg (by rintro rfl; exact hp hx), wTo_out hn hp k (by omega)]
theorem pageW_out {d : DiskS} {s : StS} {p : Int} (hp : ¬ (0 ≤ p ∧ p < 14)) : pageW d s p = DiskS.zeros := by rw [pageW, if_neg (fun q => hp ⟨q.1, q.2.1⟩)]
theorem pageW_len {d : DiskS} (hd : d.ok) (s : StS) (p : Int) : (pageW d s p).length = 8 := by
  unfold pageW; split
  · exact len8 hd _
  · rfl
theorem page_all {d d' : DiskS} {s s' : StS} (h : ∀ p : Nat, p < 14 → pageW d' s' p = pageW d s p) (p : Int) : pageW d' s' p = pageW d s p := by
  by_cases hp : 0 ≤ p ∧ p < 14
  · obtain ⟨n, rfl⟩ := Int.eq_ofNat_of_zero_le hp.1
    exact h n (by omega)
  · rw [pageW_out hp, pageW_out hp]
theorem page_new {d d' : DiskS} {s s' : StS} {l : List PageS} (hn : ∀ x ∈ l, 0 ≤ x.n ∧ x.n < 14) (h : ∀ p : Nat, p < 14 → pageW d' s' p = newTo (fun p => pageW d s p) l l.length p) (p : Int) : pageW d' s' p = wTo (pageW d s p) l l.length p := by
  by_cases hp : 0 ≤ p ∧ p < 14
  · obtain ⟨n, rfl⟩ := Int.eq_ofNat_of_zero_le hp.1
    rw [h n (by omega)]
    exact (wTo_new (f := fun p => pageW d s p) hn n l.length (Nat.le_refl _)).symm
  · rw [pageW_out hp, pageW_out hp, wTo_out hn hp _ (Nat.le_refl _)]
theorem page0 (p : Int) : pageW DiskS.new s0 p = DiskS.zeros := by
  by_cases hp : 0 ≤ p ∧ p < 14
  · obtain ⟨n, rfl⟩ := Int.eq_ofNat_of_zero_le hp.1
    rw [(show Good DiskS.new s0 from Good.new).page (by omega), if_pos]
    simp only [s0, zero14, List.getD_eq_getElem?_getD, List.getElem?_replicate]; split <;> rfl
  · exact pageW_out hp
end Go.Proofs.YtmnmcjdgnpgchaaGreat

namespace Go.Proofs.YtmnmcjdgnpgchaaGreat
open Go X
set_option maxHeartbeats 2000000
theorem pgs_at {P : List (List Int)} (h : pgsOk P) {n : Nat} (hn : n < 14) : ((ints P.flatten).drop (n * 8)).take 8 = ints (P.getD n DiskS.zeros) := by
  have := pgs_row h hn (.int .i64 0) []
  rw [Nat.add_comm 1, List.drop_succ_cons, List.append_nil] at this
  exact this
theorem pgs_row8 {P : List (List Int)} (h : pgsOk P) {n : Nat} (hn : n < 14) : (P.getD n DiskS.zeros).length = 8 := by
  rw [List.getD_eq_getElem?_getD, List.getElem?_eq_getElem (by rw [h.1]; exact hn)]
  exact h.2 _ (List.getElem_mem _)
end Go.Proofs.YtmnmcjdgnpgchaaGreat

namespace Go.Proofs.YtmnmcjdgnpgchaaGreat
open Go X
set_option maxHeartbeats 4000000
end Go.Proofs.YtmnmcjdgnpgchaaGreat

namespace Go.Proofs.YtmnmcjdgnpgchaaGreat
open Go X
set_option maxHeartbeats 2000000
def bools (l : List Bool) : List Value := l.map Value.bool
def mcells (sb : Nat) (inn dt : List Bool) (pg : List (List Int)) : List Value := ptr sb :: (bools inn ++ (bools dt ++ ints pg.flatten))
theorem bools_len (l : List Bool) : (bools l).length = l.length := List.length_map _
theorem ones_bools : ∀ l : List Bool, ones (bools l)
  | [] => ones_lit rfl
  | _ :: l => ones_cons rfl (ones_bools l)
theorem splice_mid {A X R v : List Value} {o j : Nat} (hA : A.length = o) (h : j + v.length ≤ X.length) : splice (A ++ (X ++ R)) (o + j) v = A ++ (splice X j v ++ R) := by
  subst hA
  unfold splice
  rw [List.take_length_add_append, Nat.add_assoc, List.drop_length_add_append, List.take_append_of_le_length (by omega), List.drop_append_of_le_length (by omega)]
  simp
theorem get_mid {A X R : List Value} {o j : Nat} (hA : A.length = o) (h : j < X.length) : (A ++ (X ++ R))[o + j]? = X[j]? := by
  subst hA
  rw [List.getElem?_append_right (by omega), List.getElem?_append_left (by omega)]
  congr 1; omega
theorem take_mid {A X R : List Value} {o j n : Nat} (hA : A.length = o) (h : j + n ≤ X.length) : ((A ++ (X ++ R)).drop (o + j)).take n = (X.drop j).take n := by
  subst hA
  rw [List.drop_length_add_append, List.drop_append_of_le_length (by omega), List.take_append_of_le_length (by simp; omega)]
section
variable {sb : Nat} {inn dt : List Bool} {pg : List (List Int)}
theorem mc1 : mcells sb inn dt pg = [ptr sb] ++ (bools inn ++ (bools dt ++ ints pg.flatten)) := rfl
theorem mc2 : mcells sb inn dt pg = (ptr sb :: bools inn) ++ (bools dt ++ ints pg.flatten) := rfl
theorem mc3 : mcells sb inn dt pg = (ptr sb :: (bools inn ++ bools dt)) ++ (ints pg.flatten ++ []) := by simp [mcells]
theorem mc2_len (h : inn.length = 14) : (ptr sb :: bools inn).length = 15 := by simp [bools, h]
theorem mc3_len (h : inn.length = 14) (h' : dt.length = 14) : (ptr sb :: (bools inn ++ bools dt)).length = 29 := by simp [bools, h, h']
theorem mc_len (h : inn.length = 14) (h' : dt.length = 14) (hp : pgsOk pg) : (mcells sb inn dt pg).length = 141 := by
  have := pgs_len hp
  simp only [mcells, List.length_cons, List.length_append, bools_len, h, h', this]
theorem bools_get {l : List Bool} {k : Nat} (h : k < l.length) : (bools l)[k]? = some (.bool (l.getD k false)) := by
  simp [bools, List.getD_eq_getElem?_getD, List.getElem?_eq_getElem h]
theorem bools_put {l : List Bool} {k : Nat} (h : k < l.length) (x : Bool) : splice (bools l) k [.bool x] = bools (l.set k x) := by
  rw [splice_one _ _ _ (by rw [bools_len]; exact h)]; simp [bools, List.map_set]
theorem mc_in (h : inn.length = 14) {p : Nat} (hp : p < 14) : (mcells sb inn dt pg)[1 + p]? = some (.bool (inn.getD p false)) := by
  rw [mc1, get_mid (o := 1) rfl (by rw [bools_len]; omega), bools_get (by omega)]
theorem mc_dt (h : inn.length = 14) (h' : dt.length = 14) {p : Nat} (hp : p < 14) : (mcells sb inn dt pg)[15 + p]? = some (.bool (dt.getD p false)) := by
  rw [mc2, get_mid (mc2_len h) (by rw [bools_len]; omega), bools_get (by omega)]
theorem mc_dts (h : inn.length = 14) (h' : dt.length = 14) : ((mcells sb inn dt pg).drop 15).take 14 = bools dt := by
  have := take_mid (A := ptr sb :: bools inn) (X := bools dt) (R := ints pg.flatten) (o := 15) (j := 0) (n := 14) (mc2_len h) (by rw [bools_len]; omega)
  rw [mc2]
  refine this.trans ?_
  rw [List.drop_zero, List.take_of_length_le (by rw [bools_len]; omega)]
theorem mc_row (h : inn.length = 14) (h' : dt.length = 14) (hg : pgsOk pg) {p : Nat} (hp : p < 14) : ((mcells sb inn dt pg).drop (29 + p * 8)).take 8 = ints (pg.getD p DiskS.zeros) := by
  rw [mc3, take_mid (mc3_len h h') (by rw [pgs_len hg]; omega), pgs_at hg hp]
theorem mc_word (h : inn.length = 14) (h' : dt.length = 14) (hg : pgsOk pg) {p k : Nat} (hp : p < 14) (hk : k < 8) : (mcells sb inn dt pg)[29 + p * 8 + k]? = some (i64 ((pg.getD p DiskS.zeros).getD k 0)) := by
  have h1 := mc_row (sb := sb) h h' hg hp
  have h2 : (((mcells sb inn dt pg).drop (29 + p * 8)).take 8)[k]? = some (i64 ((pg.getD p DiskS.zeros).getD k 0)) := by
    rw [h1, ints_get (by rw [pgs_row8 hg hp]; exact hk)]
  rw [List.getElem?_take, if_pos hk, List.getElem?_drop] at h2
  exact h2
theorem put_in (h : inn.length = 14) {p : Nat} (hp : p < 14) (x : Bool) : splice (mcells sb inn dt pg) (1 + p) [.bool x] = mcells sb (inn.set p x) dt pg := by
  rw [mc1, splice_mid (o := 1) rfl (by rw [bools_len, List.length_singleton]; omega), bools_put (by omega)]; rfl
theorem put_dt (h : inn.length = 14) (h' : dt.length = 14) {p : Nat} (hp : p < 14) (x : Bool) : splice (mcells sb inn dt pg) (15 + p) [.bool x] = mcells sb inn (dt.set p x) pg := by
  rw [mc2, splice_mid (mc2_len h) (by rw [bools_len, List.length_singleton]; omega), bools_put (by omega)]; rfl
theorem put_dts {dt' : List Bool} (h : inn.length = 14) (h' : dt.length = 14) (h'' : dt'.length = 14) : splice (mcells sb inn dt pg) 15 (bools dt') = mcells sb inn dt' pg := by
  have := splice_mid (A := ptr sb :: bools inn) (X := bools dt) (R := ints pg.flatten) (o := 15) (j := 0) (v := bools dt') (mc2_len h) (by rw [bools_len, bools_len]; omega)
  rw [mc2]
  refine this.trans ?_
  rw [splice_all (by rw [bools_len, bools_len]; omega)]; rfl
theorem put_row (h : inn.length = 14) (h' : dt.length = 14) (hg : pgsOk pg) {p : Nat} (hp : p < 14) {w : List Int} (hw : w.length = 8) : splice (mcells sb inn dt pg) (29 + p * 8) (ints w) = mcells sb inn dt (pg.set p w) := by
  rw [mc3, splice_mid (mc3_len h h') (by rw [pgs_len hg, ints_len, hw]; omega), pgs_put hg hp hw, ← mc3]
theorem row_put {w : List Int} {k : Nat} (hk : k < w.length) (x : Int) : splice (ints w) k [i64 x] = ints (w.set k x) := ints_put hk x
theorem put_word (h : inn.length = 14) (h' : dt.length = 14) (hg : pgsOk pg) {p k : Nat} (hp : p < 14) (hk : k < 8) (x : Int) : splice (mcells sb inn dt pg) (29 + p * 8 + k) [i64 x] = mcells sb inn dt (pg.set p ((pg.getD p DiskS.zeros).set k x)) := by
  have hr := mc_row (sb := sb) h h' hg hp
  have hl := mc_len (sb := sb) h h' hg
  have h8 := pgs_row8 hg hp
  rw [← put_row h h' hg hp (w := (pg.getD p DiskS.zeros).set k x) (by rw [List.length_set, h8]), ← row_put (by omega), ← hr]
  generalize mcells sb inn dt pg = L at hl
  unfold splice
  have e8 : ((L.drop (29 + p * 8)).take 8).length = 8 := by simp [hl]; omega
  have l1 : (((L.drop (29 + p * 8)).take 8).take k ++ [i64 x] ++ ((L.drop (29 + p * 8)).take 8).drop (k + [i64 x].length)).length = 8 := by simp [hl]; omega
  rw [l1, List.length_singleton, List.take_take, Nat.min_eq_left (by omega), List.drop_take, List.drop_drop]
  rw [show L.take (29 + p * 8 + k) = L.take (29 + p * 8) ++ (L.drop (29 + p * 8)).take k from List.take_add]
  rw [show L.drop (29 + p * 8 + k + 1) = (L.drop (29 + p * 8 + (k + 1))).take (8 - (k + 1)) ++ L.drop (29 + p * 8 + 8) from by
    have := List.take_append_drop (8 - (k + 1)) (L.drop (29 + p * 8 + (k + 1)))
    rw [List.drop_drop, show 29 + p * 8 + (k + 1) + (8 - (k + 1)) = 29 + p * 8 + 8 by omega] at this
    exact this.symm]
  simp
end
structure MOk (d : DiskS) (s : StS) (inn dt : List Bool) (pg C : List (List Int)) : Prop where
  li : inn.length = 14
  ld : dt.length = 14
  pp : pgsOk pg
  cc : pgsOk C
  val : ∀ p, p < 14 → C.getD p DiskS.zeros = if inn.getD p false = true then pg.getD p DiskS.zeros else pageW d s p
  dir : ∀ p, p < 14 → dt.getD p false = true → inn.getD p false = true
  old : ∀ p, p < 14 → dt.getD p false = false → C.getD p DiskS.zeros = pageW d s p
theorem quo8 {n : Nat} (h : n < 112) : IntKind.i64.wrap ((n : Int).tdiv 8) = ((n / 8 : Nat) : Int) := by
  rw [Int.tdiv_eq_ediv_of_nonneg (by omega), X.wrap64_in (by omega) (by omega)]; omega
theorem rem8 (n : Nat) : (n : Int).tmod 8 = ((n % 8 : Nat) : Int) := by
  rw [Int.tmod_eq_emod_of_nonneg (by omega)]; omega
theorem Rd.quoi {P : Program} {ρ : Env} {S : Heap → Prop} {x y : Operand} {T T' ty : TypeId} {kk : IntKind} {a b c : Int} (hx : ev ρ x = .int kk a) (hy : ev ρ y = .int kk b) (hb : b ≠ 0) (hc : kk.wrap (a.tdiv b) = c) : Rd P ρ S (.binOp .quo T x y T') ty (.int kk c) := hc ▸ Rd.quo hx hy hb
theorem page_no (σ : PH) (b : Nat) (at_ : Int) (h : ¬ (0 ≤ at_ ∧ at_ < 112)) : CallsA Tryz.prog 89 #[ptr b, i64 at_] σ [] (RetA fun v σ' Γ' => v = .tuple #[i64 0, .bool false] ∧ σ = σ' ∧ Γ' = []) := by
  by_cases h0 : at_ < 0
  · refine enterA2 Tryz.func89 rfl rfl rfl ?_
    refine zS (zR (yS ?_)); refine yS ?_; refine zN (zT (zS (zS (zR (yA ?_))))); refine zO rfl (Rd.lss rfl rfl) ?_; refine yA ?_
    first | refine gA ?_ | refine zH ?_
    first | (refine zG ?_; refine zO rfl (Rd.geq rfl rfl) ?_) | refine zH ?_
    refine zO rfl zP ?_; refine zN (zT (XA.condT rfl zY ?_)); refine zS (zR (yS ?_)); refine yS ?_; refine zN (zT (XA.ret (DA.thn_ret ?_)))
    exact bodyA.ret (ResA.two rfl rfl rfl) (Ent.nil _) ⟨rfl, rfl, rfl⟩
  · refine enterA2 Tryz.func89 rfl rfl rfl ?_
    refine zS (zR (yS ?_)); refine yS ?_; refine zN (zT (zS (zS (zR (yA ?_))))); refine zO rfl (Rd.lss rfl rfl) ?_; refine yA ?_
    first | refine gA ?_ | refine zH ?_
    first | (refine zG ?_; refine zO rfl (Rd.geq rfl rfl) ?_) | refine zH ?_
    refine zO rfl zP ?_; refine zN (zT (XA.condT rfl zY ?_)); refine zS (zR (yS ?_)); refine yS ?_; refine zN (zT (XA.ret (DA.thn_ret ?_)))
    exact bodyA.ret (ResA.two rfl rfl rfl) (Ent.nil _) ⟨rfl, rfl, rfl⟩
theorem set_getD_b {l : List Bool} {n p : Nat} {a : Bool} (hp : p < l.length) : (l.set n a).getD p false = if p = n then a else l.getD p false := by
  rw [List.getD_eq_getElem?_getD, List.getElem?_set]
  by_cases h : n = p
  · subst h; rw [if_pos rfl, if_pos hp, if_pos rfl]; rfl
  · rw [if_neg h, if_neg (Ne.symm h), List.getD_eq_getElem?_getD]
theorem set_getD_r {l : List (List Int)} {n p : Nat} {a : List Int} (hp : p < l.length) : (l.set n a).getD p DiskS.zeros = if p = n then a else l.getD p DiskS.zeros := by
  rw [List.getD_eq_getElem?_getD, List.getElem?_set]
  by_cases h : n = p
  · subst h; rw [if_pos rfl, if_pos hp, if_pos rfl]; rfl
  · rw [if_neg h, if_neg (Ne.symm h), List.getD_eq_getElem?_getD]
theorem MOk.read {d : DiskS} {s : StS} {inn dt : List Bool} {pg C : List (List Int)} (h : MOk d s inn dt pg C) (hd : d.ok) {p : Nat} (hp : p < 14) (hi : inn.getD p false = false) : MOk d s (inn.set p true) dt (pg.set p (pageW d s p)) C := by
  refine ⟨by rw [List.length_set]; exact h.li, h.ld, pgs_set h.pp p (pageW_len hd s p), h.cc, fun q hq => ?_, fun q hq hdq => ?_, h.old⟩
  · rw [set_getD_b (by rw [h.li]; exact hq), set_getD_r (by rw [h.pp.1]; exact hq), h.val q hq]
    by_cases e : q = p
    · subst e; rw [if_pos rfl, if_pos rfl, if_pos rfl, hi]; rfl
    · rw [if_neg e, if_neg e]
  · rw [set_getD_b (by rw [h.li]; exact hq)]
    split
    · rfl
    · exact h.dir q hq hdq
theorem page_a (σ : PH) (b sb db : Nat) (d : DiskS) (s : StS) (inn dt : List Bool) (pg C : List (List Int)) (n : Nat) (hn : n < 112) (hd : d.ok) (hlen : d.wait.length < 1000000) (h : MOk d s inn dt pg C) :
    CallsA Tryz.prog 89 #[ptr b, i64 n] σ [blk b (mcells sb inn dt pg) 141, Store sb db s, Disk db d] (RetA fun v σ' Γ' => v = .tuple #[i64 ((n / 8 : Nat) : Int), .bool true] ∧ σ = σ' ∧ ∃ inn' pg', MOk d s inn' dt pg' C ∧ inn'.getD (n / 8) false = true ∧ Γ' = [blk b (mcells sb inn' dt pg') 141, Store sb db s, Disk db d]) := by
  obtain ⟨p, hp⟩ : ∃ p, p = n / 8 := ⟨_, rfl⟩
  have hp14 : p < 14 := by omega
  have hq := quo8 hn
  rw [← hp] at hq ⊢
  have hin := mc_in (sb := sb) (dt := dt) (pg := pg) h.li hp14
  have hone : ones (ints (pageW d s p)) := ones_ints _
  have hml := mc_len (sb := sb) h.li h.ld h.pp
  refine enterA2 Tryz.func89 rfl rfl rfl ?_; refine zS (zR (yS ?_)); refine yS ?_; refine zN (zT (zS (zS (zR (yA ?_))))); refine zO rfl (Rd.lss rfl rfl) ?_; refine yA ?_
  first | refine gA ?_ | refine zH ?_
  first | (refine zG ?_; refine zO rfl (Rd.geq rfl rfl) ?_) | refine zH ?_
  refine zO rfl zP ?_; refine zN (zT (XA.condF rfl zY ?_)); refine XA.skip (zT (zS (zR (yA ?_)))); refine zO rfl (Rd.quoi (c := (p : Int)) rfl rfl (by decide) hq) ?_; refine yS ?_; refine zN (zT (zS (zS (zR (yA ?_))))); refine yA ?_; refine zO rfl (Rd.nilCheck rfl) ?_
  refine yV ?_; refine zO rfl (Rd.ixA rfl rfl) ?_; refine yB ?_; refine zO rfl zJ ?_; refine zN (zT ?_)
  cases hi : inn.getD p false with
  | true =>
    rw [hi] at hin
    refine yF rfl rfl (XA.skip (zT (zS (zR (yA ?_))))); refine yS ?_; refine yS ?_; refine zN (zT (XA.ret ?_))
    exact bodyA.ret (ResA.two rfl rfl rfl) zE ⟨rfl, rfl, inn, pg, h, hi, rfl⟩
  | false =>
    rw [hi] at hin
    have hspl := put_in (sb := sb) (dt := dt) (pg := pg) h.li hp14 true
    have hR := h.read hd hp14 hi
    have hW8 := pageW_len hd s p
    obtain ⟨W, hW⟩ : ∃ W, W = pageW d s p := ⟨_, rfl⟩
    have hspl2 := put_row (sb := sb) (inn := inn.set p true) (dt := dt) (pg := pg) (by rw [List.length_set]; exact h.li) h.ld h.pp hp14 hW8
    have hfit : 1 + p + 1 ≤ (mcells sb inn dt pg).length := by omega
    have hml2 := mc_len (sb := sb) hR.li h.ld h.pp
    have hfit2 : ∀ _ : Unit, 29 + p * 8 + ty105.size ≤ (mcells sb (inn.set p true) dt pg).length := fun _ => by rw [hml2]; show 29 + p * 8 + 8 ≤ 141; omega
    rw [← hW] at hR hW8 hspl2
    refine yT rfl rfl (zS (zR (yA ?_))); refine yA ?_; refine zO rfl (Rd.nilCheck rfl) ?_; refine yV ?_; refine zO rfl (Rd.ixA rfl rfl) ?_; refine zw rfl (WrA.st (tyrow rfl) rfl) ?_
    rintro _ _ _ ⟨rfl, rfl, rfl⟩
    refine zN (zT ?_)
    refine XA.draw (by kernel_rfl) _ _ [7, 11] [(0, .pu), (1, .pu), (2, .pu), (3, .pu), (4, .pu), (5, .rd), (6, .pu), (8, .pu), (9, .pu), (7, .wr), (10, .pu), (11, .wr)] (by kernel_rfl) (PH.sub.refl _) (Ent.sel (R := blk b _ _) zL (Ent.nil _)) ?_
    (iterate 3 (refine zu rfl rfl Rd.mv ?_)); refine zu rfl rfl (Rd.nilCheck rfl) ?_; refine zu rfl rfl (Rd.fA rfl) ?_; refine XPA.rd rfl rfl Gd.free (Rd.ldC rfl (tyrow rfl) rfl) ?_; refine zu rfl rfl Rd.mv ?_; refine zu rfl rfl (Rd.nilCheck rfl) ?_; refine zu rfl rfl (Rd.fA rfl) ?_
    refine XPA.wrZ0 rfl rfl Gd.free (by kernel_rfl) (WrA.cE (sread_a σ sb db s d p hd hlen) rfl) ?_
    rintro _ _ _ ⟨_, ⟨rfl, rfl, rfl⟩, rfl⟩
    refine XPA.cl ?_
    rw [← hW]
    refine zu rfl rfl (Rd.ixA rfl rfl) ?_
    refine XPA.wrZ0 rfl rfl Gd.free (by kernel_rfl) (WrA.st (tyrow rfl) rfl) ?_
    rintro _ _ _ ⟨rfl, rfl, rfl⟩
    refine XPA.nil ?_; refine zT (zS (zR (yA ?_))); refine yS ?_; refine yS ?_; refine zN (zT (XA.ret ?_))
    exact bodyA.ret (ResA.two rfl rfl rfl) zE ⟨rfl, rfl, _, _, hR, by rw [set_getD_b (by rw [h.li]; exact hp14), if_pos rfl], rfl⟩
end Go.Proofs.YtmnmcjdgnpgchaaGreat

namespace Go.Proofs.YtmnmcjdgnpgchaaGreat
open Go X
set_option maxHeartbeats 2000000
def wordC (C : List (List Int)) (a : Int) : Int := if 0 ≤ a ∧ a < 112 then (C.getD (a.toNat / 8) DiskS.zeros).getD (a.toNat % 8) 0 else 0
def putC (C : List (List Int)) (a w : Int) : List (List Int) := if (0 ≤ a ∧ a < 112) ∧ wordC C a ≠ w then C.set (a.toNat / 8) ((C.getD (a.toNat / 8) DiskS.zeros).set (a.toNat % 8) w) else C
def putD (C : List (List Int)) (dt : List Bool) (a w : Int) : List Bool := if (0 ≤ a ∧ a < 112) ∧ wordC C a ≠ w then dt.set (a.toNat / 8) true else dt
theorem wordC_nat (C : List (List Int)) {n : Nat} (h : n < 112) : wordC C n = (C.getD (n / 8) DiskS.zeros).getD (n % 8) 0 := by
  rw [wordC, if_pos (by omega)]; rfl
theorem MOk.word {d : DiskS} {s : StS} {inn dt : List Bool} {pg C : List (List Int)} (h : MOk d s inn dt pg C) {n : Nat} (hn : n < 112) (hi : inn.getD (n / 8) false = true) : wordC C n = (pg.getD (n / 8) DiskS.zeros).getD (n % 8) 0 := by
  rw [wordC_nat C hn, h.val _ (by omega), if_pos hi]
theorem MOk.put {d : DiskS} {s : StS} {inn dt : List Bool} {pg C : List (List Int)} (h : MOk d s inn dt pg C) {p k : Nat} (hp : p < 14) (hi : inn.getD p false = true) (w : Int) :
    MOk d s inn (dt.set p true) (pg.set p ((pg.getD p DiskS.zeros).set k w)) (C.set p ((C.getD p DiskS.zeros).set k w)) := by
  have e : C.getD p DiskS.zeros = pg.getD p DiskS.zeros := by rw [h.val p hp, if_pos hi]
  refine ⟨h.li, by rw [List.length_set]; exact h.ld, pgs_set h.pp p (by rw [List.length_set]; exact pgs_row8 h.pp hp), pgs_set h.cc p (by rw [List.length_set]; exact pgs_row8 h.cc hp), fun q hq => ?_, fun q hq hdq => ?_, fun q hq hdq => ?_⟩
  · rw [set_getD_r (by rw [h.cc.1]; exact hq), set_getD_r (by rw [h.pp.1]; exact hq), h.val q hq]
    by_cases eq : q = p
    · subst eq; rw [if_pos rfl, if_pos rfl, if_pos hi, e]
    · rw [if_neg eq, if_neg eq]
  · rw [set_getD_b (by rw [h.ld]; exact hq)] at hdq
    by_cases eq : q = p
    · subst eq; exact hi
    · rw [if_neg eq] at hdq; exact h.dir q hq hdq
  · rw [set_getD_b (by rw [h.ld]; exact hq)] at hdq
    by_cases eq : q = p
    · rw [if_pos eq] at hdq; cases hdq
    · rw [if_neg eq] at hdq
      rw [set_getD_r (by rw [h.cc.1]; exact hq), if_neg eq]
      exact h.old q hq hdq
theorem load_a (σ : PH) (b sb db : Nat) (d : DiskS) (s : StS) (inn dt : List Bool) (pg C : List (List Int)) (a : Int) (hd : d.ok) (hlen : d.wait.length < 1000000) (h : MOk d s inn dt pg C) :
    CallsA Tryz.prog 68 #[ptr b, i64 a] σ [blk b (mcells sb inn dt pg) 141, Store sb db s, Disk db d] (RetA fun v σ' Γ' => v = i64 (wordC C a) ∧ σ = σ' ∧ ∃ inn' pg', MOk d s inn' dt pg' C ∧ Γ' = [blk b (mcells sb inn' dt pg') 141, Store sb db s, Disk db d]) := by
  by_cases ha : 0 ≤ a ∧ a < 112
  · obtain ⟨n, rfl⟩ := Int.eq_ofNat_of_zero_le ha.1
    have hn : n < 112 := by omega
    refine enterA2 Tryz.func68 rfl rfl rfl ?_; refine zS (zR (yS ?_)); refine zN (zT (zS (zR (yA ?_)))); refine yA ?_; refine zw rfl (WrA.cE (page_a σ b sb db d s inn dt pg C n hn hd hlen h) rfl) ?_
    rintro _ _ _ ⟨_, ⟨rfl, rfl, inn', pg', h', hi, rfl⟩, rfl⟩
    refine XOA.cl ?_; refine yA ?_; refine zO rfl (Rd.extract rfl rfl) ?_; refine zO rfl (Rd.extract rfl rfl) ?_; refine yS ?_; refine yS ?_; refine zN (zT (zS (zS (zR (yA ?_))))); refine zO rfl zJ ?_; refine zN (zT ?_)
    have hw := mc_word (sb := sb) h'.li h'.ld h'.pp (p := n / 8) (k := n % 8) (by omega) (by omega)
    refine yF rfl rfl (XA.skip (zT (zS (zR (yA ?_))))); refine yA ?_; refine yA ?_; refine zO rfl (Rd.remi (c := ((n % 8 : Nat) : Int)) rfl rfl (by decide) (rem8 n)) ?_; refine zO rfl (Rd.nilCheck rfl) ?_; refine yV ?_; refine zO rfl (Rd.ixA rfl rfl) ?_
    refine zO rfl (Rd.ixA rfl rfl) ?_; refine yB ?_; refine yS ?_; refine zN (zT (XA.ret ?_))
    exact bodyA.ret (ResA.one rfl rfl) zE ⟨congrArg i64 (h'.word hn hi).symm, rfl, _, _, h', rfl⟩
  · refine enterA2 Tryz.func68 rfl rfl rfl ?_
    refine zS (zR (yS ?_)); refine zN (zT (zS (zR (yA ?_)))); refine yA ?_; refine yC (page_no σ b a ha) ?_; refine yA ?_; refine zO rfl (Rd.extract rfl rfl) ?_; refine zO rfl (Rd.extract rfl rfl) ?_; refine yS ?_; refine yS ?_; refine zN (zT (zS (zS (zR (yA ?_))))); refine zO rfl zJ ?_
    refine zN (zT (yT rfl rfl (zS (zR (yS ?_))))); refine zN (zT (XA.ret (DA.thn_ret ?_)))
    exact bodyA.ret (ResA.one rfl rfl) zE ⟨by rw [wordC, if_neg ha], rfl, _, _, h, rfl⟩
theorem put_a (σ : PH) (b sb db : Nat) (d : DiskS) (s : StS) (inn dt : List Bool) (pg C : List (List Int)) (a w : Int) (hd : d.ok) (hlen : d.wait.length < 1000000) (h : MOk d s inn dt pg C) :
    CallsA Tryz.prog 85 #[ptr b, i64 a, i64 w] σ [blk b (mcells sb inn dt pg) 141, Store sb db s, Disk db d] (RetA fun v σ' Γ' => v = .bool (decide (0 ≤ a ∧ a < 112)) ∧ σ = σ' ∧ ∃ inn' pg', MOk d s inn' (putD C dt a w) pg' (putC C a w) ∧ Γ' = [blk b (mcells sb inn' (putD C dt a w) pg') 141, Store sb db s, Disk db d]) := by
  by_cases ha : 0 ≤ a ∧ a < 112
  · obtain ⟨n, rfl⟩ := Int.eq_ofNat_of_zero_le ha.1
    have hn : n < 112 := by omega
    rw [decide_eq_true ha]
    refine enterA3 Tryz.func85 rfl rfl rfl ?_; refine zS (zR (yS ?_)); refine zN (zT (zS (zR (yA ?_)))); refine yA ?_; refine zw rfl (WrA.cE (page_a σ b sb db d s inn dt pg C n hn hd hlen h) rfl) ?_
    rintro _ _ _ ⟨_, ⟨rfl, rfl, inn', pg', h', hi, rfl⟩, rfl⟩
    refine XOA.cl ?_; refine yA ?_; refine zO rfl (Rd.extract rfl rfl) ?_; refine zO rfl (Rd.extract rfl rfl) ?_; refine yS ?_; refine yS ?_; refine zN (zT (zS (zS (zR (yA ?_))))); refine yA ?_
    first | refine gA ?_ | refine zH ?_
    first | refine gA ?_ | refine zH ?_
    first | refine gA ?_ | refine zH ?_
    have hw := mc_word (sb := sb) h'.li h'.ld h'.pp (p := n / 8) (k := n % 8) (by omega) (by omega)
    have he := h'.word hn hi
    rw [← he] at hw
    first | refine XOA.wanted rfl rfl ?_ | refine XOA.wq rfl rfl ?_
    refine zO rfl (Rd.remi (c := ((n % 8 : Nat) : Int)) rfl rfl (by decide) (rem8 n)) ?_
    first | (refine zG ?_; refine zO rfl (Rd.nilCheck rfl) ?_) | refine zH ?_
    first | refine gV ?_ | refine zH ?_
    first | (refine zG ?_; refine zO rfl (Rd.ixA rfl rfl) ?_) | refine zH ?_
    first | (refine zG ?_; refine zO rfl (Rd.ixA rfl rfl) ?_) | refine zH ?_
    first | refine gB ?_ | refine zH ?_
    first | refine gA ?_ | refine zH ?_
    first | (refine zG ?_; refine zO rfl (Rd.neq rfl rfl) ?_) | refine zH ?_
    refine zO rfl zP ?_; refine zN (zT ?_); refine XA.condp rfl (fun hne => ?_) (fun hne => ?_)
    · have e1 : putC C n w = C.set (n / 8) ((C.getD (n / 8) DiskS.zeros).set (n % 8) w) := by rw [putC, if_pos ⟨ha, hne⟩]; rfl
      have e2 : putD C dt n w = dt.set (n / 8) true := by rw [putD, if_pos ⟨ha, hne⟩]; rfl
      have hP := h'.put (p := n / 8) (k := n % 8) (by omega) hi w
      have hspl := put_word (sb := sb) h'.li h'.ld h'.pp (p := n / 8) (k := n % 8) (by omega) (by omega) w
      have hspl2 := put_dt (sb := sb) (pg := pg'.set (n / 8) ((pg'.getD (n / 8) DiskS.zeros).set (n % 8) w)) h'.li h'.ld (p := n / 8) (by omega) true
      have hml := mc_len (sb := sb) h'.li h'.ld h'.pp
      have hfit : 29 + n / 8 * 8 + n % 8 + 1 ≤ (mcells sb inn' dt pg').length := by omega
      have hml2 := mc_len (sb := sb) h'.li h'.ld hP.pp
      have hfitB : 15 + n / 8 + ty4.size ≤ (mcells sb inn' dt (pg'.set (n / 8) ((pg'.getD (n / 8) DiskS.zeros).set (n % 8) w))).length := by rw [hml2]; show 15 + n / 8 + 1 ≤ 141; omega
      refine zS (zR (yA ?_)); refine yA ?_; refine yA ?_; refine zO rfl (Rd.remi (c := ((n % 8 : Nat) : Int)) rfl rfl (by decide) (rem8 n)) ?_; refine yA ?_; refine zO rfl (Rd.nilCheck rfl) ?_; refine yV ?_; refine zO rfl (Rd.ixA rfl rfl) ?_; refine zO rfl (Rd.ixA rfl rfl) ?_
      refine zw rfl (WrA.st (tyrow rfl) rfl) ?_
      rintro _ _ _ ⟨rfl, rfl, rfl⟩
      refine zN (zT (zR ?_))
      clear hfit
      have hfit := hfitB
      refine yA ?_; refine yA ?_; refine zO rfl (Rd.nilCheck rfl) ?_; refine yV ?_; refine zO rfl (Rd.ixA rfl rfl) ?_; refine zw rfl (WrA.st (tyrow rfl) rfl) ?_
      rintro _ _ _ ⟨rfl, rfl, rfl⟩
      refine zN (zT (zS (zR (yA ?_)))); refine yS ?_; refine zN (zT (XA.ret ?_))
      exact bodyA.ret (ResA.one rfl rfl) (by rw [e2]; exact zE) ⟨rfl, rfl, _, _, by rw [e1, e2]; exact hP, rfl⟩
    · have e1 : putC C n w = C := by rw [putC, if_neg (fun q => hne q.2)]
      have e2 : putD C dt n w = dt := by rw [putD, if_neg (fun q => hne q.2)]
      refine XA.skip (zT (zS (zR (yA ?_)))); refine yS ?_; refine zN (zT (XA.ret ?_))
      exact bodyA.ret (ResA.one rfl rfl) (by rw [e2]; exact zE) ⟨rfl, rfl, _, _, by rw [e1, e2]; exact h', rfl⟩
  · have e1 : putC C a w = C := by rw [putC, if_neg (fun q => ha q.1)]
    have e2 : putD C dt a w = dt := by rw [putD, if_neg (fun q => ha q.1)]
    rw [decide_eq_false ha]
    refine enterA3 Tryz.func85 rfl rfl rfl ?_; refine zS (zR (yS ?_)); refine zN (zT (zS (zR (yA ?_)))); refine yA ?_; refine yC (page_no σ b a ha) ?_; refine yA ?_; refine zO rfl (Rd.extract rfl rfl) ?_; refine zO rfl (Rd.extract rfl rfl) ?_; refine yS ?_; refine yS ?_
    refine zN (zT (zS (zS (zR (yA ?_))))); refine yA ?_
    first | refine gA ?_ | refine zH ?_
    first | refine gA ?_ | refine zH ?_
    first | refine gA ?_ | refine zH ?_
    first | refine zH ?_
    first | (refine zG ?_; refine zO rfl (Rd.nilCheck rfl) ?_) | refine zH ?_
    first | refine gV ?_ | refine zH ?_
    first | (refine zG ?_; refine zO rfl (Rd.ixA rfl rfl) ?_) | refine zH ?_
    first | (refine zG ?_; refine zO rfl (Rd.ixA rfl rfl) ?_) | refine zH ?_
    first | refine gB ?_ | refine zH ?_
    first | refine gA ?_ | refine zH ?_
    first | (refine zG ?_; refine zO rfl (Rd.neq rfl rfl) ?_) | refine zH ?_
    refine zO rfl zP ?_; refine zN (zT (yF rfl rfl (XA.skip (zT (zS (zR (yA ?_))))))); refine yS ?_; refine zN (zT (XA.ret ?_))
    exact bodyA.ret (ResA.one rfl rfl) (by rw [e2]; exact zE) ⟨rfl, rfl, _, _, by rw [e1, e2]; exact h, rfl⟩
def dirtyTo (C : List (List Int)) (dt : List Bool) : Nat → List PageS
  | 0 => []
  | k + 1 => if dt.getD k false = true then dirtyTo C dt k ++ [⟨(k : Int), C.getD k DiskS.zeros⟩] else dirtyTo C dt k
theorem dirtyTo_le (C : List (List Int)) (dt : List Bool) : ∀ k, (dirtyTo C dt k).length ≤ k
  | 0 => Nat.le_refl _
  | k + 1 => by
    have := dirtyTo_le C dt k
    rw [dirtyTo]; split
    · rw [List.length_append, List.length_singleton]; omega
    · omega
def dirtyL (C : List (List Int)) (dt : List Bool) : List PageS := dirtyTo C dt 14
theorem dirty_a (σ : PH) (b sb : Nat) (d : DiskS) (s : StS) (inn dt : List Bool) (pg C : List (List Int)) (h : MOk d s inn dt pg C) :
    CallsA Tryz.prog 103 #[ptr b] σ [blk b (mcells sb inn dt pg) 141] (RetA fun v σ' Γ' => ∃ (p : Option Addr) (c : Nat) (rows : List (List Value)), v = .slice p (dirtyL C dt).length c ∧ Rows_ 9 rPage σ rows (dirtyL C dt) ∧ σ = σ' ∧ Γ' = [blk b (mcells sb inn dt pg) 141, lst 175 9 (.slice p (dirtyL C dt).length c) (dirtyL C dt).length rows.flatten]) := by
  have hdts := mc_dts (sb := sb) (pg := pg) h.li h.ld
  have hbl : (bools dt).length = 14 := by rw [bools_len]; exact h.ld
  have hone : ones (bools dt) := ones_bools _
  refine enterA1 Tryz.func103 rfl rfl rfl ?_; refine zS (zR (yS ?_)); refine zN (zT (zS (zR (yS ?_)))); refine zN (zT (zS (zS (zR (yA ?_))))); refine zO rfl (Rd.nilCheck rfl) ?_; refine yV ?_; refine zO rfl (Rd.ldA rfl) ?_; refine yA ?_; refine zN (zT (XA.block ?_))
  refine XA.gen [(0, _), (2, _), (3, _), (9, _), (10, _)] ⟨(by with_reducible (conv => lhs; whnf)), (by with_reducible (conv => lhs; whnf)), (by with_reducible (conv => lhs; whnf)), (by with_reducible (conv => lhs; whnf)), (by with_reducible (conv => lhs; whnf)), trivial⟩ (fun δ => ?_)
  dsimp only [List.foldl]
  refine XA.loop [(3, 5), (10, 26)] (fun q : Nat × (Option Addr × (Nat × Nat)) => [(10, i64 q.1), (3, .slice q.2.1 q.2.2.1 q.2.2.2)]) (fun q σ' Γ' => σ = σ' ∧ q.1 ≤ 14 ∧ q.2.2.1 = (dirtyTo C dt q.1).length ∧ ∃ (rows : List (List Value)), Rows_ 9 rPage σ rows (dirtyTo C dt q.1) ∧ Γ' = [blk b (mcells sb inn dt pg) 141, lst 175 9 (.slice q.2.1 q.2.2.1 q.2.2.2) q.2.2.1 rows.flatten]) (fun q => 14 - q.1) (0, (none, (0, 0))) (by exact ⟨rfl, rfl, trivial⟩) (Δ0 := _) ?_ (⟨rfl, Nat.zero_le _, rfl, [], Rows_.nil _ _ _, rfl⟩) ?_
  · exact zE
  rintro ⟨k, p, n, c⟩ δ _ _ ⟨rfl, hk, hn, rows, hrows, rfl⟩
  dsimp only [ovr, List.foldl]
  have hk : k ≤ 14 := hk
  have hn : n = (dirtyTo C dt k).length := hn
  have hrows : Rows_ 9 rPage σ rows (dirtyTo C dt k) := hrows
  have hle := dirtyTo_le C dt k
  rw [← hn] at hle
  refine zS (zR (zO rfl (Rd.lss rfl rfl) ?_)); refine zN (zT (zS ?_)); refine XA.condp rfl (fun hlt => ?_) (fun hlt => ?_)
  · have hlt : k < 14 := by omega
    have hbk : (bools dt).toArray[((k : Nat) : Int).toNat]? = some (.bool (dt.getD k false)) := by rw [Int.toNat_natCast, List.getElem?_toArray]; exact bools_get (by rw [h.ld]; exact hlt)
    cases hdk : dt.getD k false with
    | true =>
      rw [hdk] at hbk
      have e1 : dirtyTo C dt (k + 1) = dirtyTo C dt k ++ [⟨(k : Int), C.getD k DiskS.zeros⟩] := by rw [dirtyTo, if_pos hdk]
      have hrow := mc_row (sb := sb) h.li h.ld h.pp (p := k) hlt
      rw [show pg.getD k DiskS.zeros = C.getD k DiskS.zeros by rw [h.val k hlt, if_pos (h.dir k hlt hdk)]] at hrow
      have hW8 := pgs_row8 h.cc hlt
      obtain ⟨W, hW⟩ : ∃ W, W = C.getD k DiskS.zeros := ⟨_, rfl⟩
      rw [← hW] at hrow hW8 e1
      have honeW : ones (ints W) := ones_ints _
      have hxl : (i64 (k : Int) :: ints W).length = 9 := by simp [hW8]
      have hone2 : ones (i64 (k : Int) :: ints W) := ones_cons rfl (ones_ints _)
      have hrow2 : rPage σ (i64 (k : Int) :: ints W) ⟨k, W⟩ := ⟨rfl, hW8⟩
      have hnew : Rows_ 9 rPage σ (rows ++ [i64 (k : Int) :: ints W]) (dirtyTo C dt (k + 1)) := by rw [e1]; exact hrows.snoc hxl hrow2
      have hn1 : n + 1 = (dirtyTo C dt (k + 1)).length := by rw [e1, List.length_append, List.length_singleton, hn]
      refine XA.skip (zT (zS (XA.block (zS (zR (yA ?_)))))); refine zO rfl (Rd.ixG rfl rfl) ?_; refine yS ?_; refine yS ?_; refine zN (zT (zS (zR (yA ?_)))); refine zN (zT (yT rfl rfl (zR (yA ?_)))); (iterate 3 (refine yA ?_)); refine zO rfl (Rd.nilCheck rfl) ?_; refine yV ?_
      refine zO rfl (Rd.ixA rfl rfl) ?_; refine zO rfl (Rd.ldA rfl) ?_; refine zO rfl (Rd.bl (fun _ _ => tyrow) rfl rfl rfl) ?_; refine zw rfl (WrA.bs1 (tyrow rfl) rfl (tyrow rfl)) ?_
      rintro _ _ _ ⟨g24, rfl, rfl, rfl⟩
      refine zw rfl (WrA.ap1 (tyrow rfl) rfl (tyrow rfl) rfl rfl rfl) ?_
      rintro _ _ _ ⟨p25, c25, rfl, rfl, rfl⟩
      refine yS ?_; refine zN (DA.inb_normal (zT (zR (zO rfl zI ?_)))); refine yA ?_; refine zN (zT ?_)
      refine ⟨(Keep.upd (Keep.upd (Keep.upd (Keep.updO (Keep.updO (Keep.upd (Keep.upd (Keep.upd (Keep.upd (Keep.upd (Keep.upd (Keep.upd (Keep.upd (Keep.upd (Keep.upd (Keep.upd (Keep.upd (Keep.upd (Keep.upd (Keep.upd (Keep.upd (Keep.upd (Keep.hav (Keep.hav (Keep.refl _ _) rfl) rfl) rfl) rfl) rfl) rfl) rfl) rfl) rfl) rfl) rfl) rfl) rfl) rfl) rfl) rfl) rfl) rfl) rfl) rfl) rfl) rfl) rfl) rfl), (k + 1, (p25, (n + 1, c25))), _, zM, ?_, ⟨rfl, hlt, hn1, _, hnew, rfl⟩, (by simp only; omega)⟩
      · rw [flatS]; exact zE
    | false =>
      rw [hdk] at hbk
      have e1 : dirtyTo C dt (k + 1) = dirtyTo C dt k := by rw [dirtyTo, if_neg (by rw [hdk]; exact fun q => by cases q)]
      refine XA.skip (zT (zS (XA.block (zS (zR (yA ?_)))))); refine zO rfl (Rd.ixG rfl rfl) ?_; refine yS ?_; refine yS ?_; refine zN (zT (zS (zR (yA ?_)))); refine zN (zT (yF rfl rfl (XA.skip (DA.inb_normal (zT (zR (zO rfl zI ?_))))))); refine yA ?_; refine zN (zT ?_)
      refine ⟨(Keep.upd (Keep.upd (Keep.upd (Keep.upd (Keep.upd (Keep.upd (Keep.upd (Keep.upd (Keep.upd (Keep.upd (Keep.hav (Keep.hav (Keep.refl _ _) rfl) rfl) rfl) rfl) rfl) rfl) rfl) rfl) rfl) rfl) rfl) rfl), (k + 1, (p, (n, c))), _, zM, ?_, ⟨rfl, hlt, by rw [e1]; exact hn, rows, by rw [e1]; exact hrows, rfl⟩, (by simp only; omega)⟩
      · exact zE
  obtain rfl : k = 14 := by omega
  subst hn
  refine XA.exit (DA.thn_exit (DA.thn_exit (DA.inb_same (zT (zS (zR (yA ?_))))))); refine yS ?_; refine zN (zT (XA.ret ?_))
  exact bodyA.ret (ResA.one rfl rfl) zE ⟨p, c, rows, rfl, hrows, rfl, rfl⟩
def noB : List Bool := List.replicate 14 false
def noP : List (List Int) := List.replicate 14 DiskS.zeros
set_option maxRecDepth 100000 in
theorem mnew_a (σ : PH) (sb : Nat) : CallsA Tryz.prog 50 #[ptr sb] σ [] (RetA fun v σ' Γ' => ∃ b, v = ptr b ∧ σ = σ' ∧ Γ' = [blk b (mcells sb noB noB noP) 141]) := by
  refine enterA1 Tryz.func50 rfl rfl rfl ?_; refine zS (zR (yS ?_)); refine zN (zT (zS (zR (yA ?_)))); refine zO rfl (Rd.bl (fun _ _ => tyrow) rfl rfl rfl) ?_; refine zw rfl WrA.bx ?_
  rintro _ _ _ ⟨g5, rfl, rfl, rfl⟩
  refine yS ?_; refine zN (zT (XA.ret ?_))
  exact bodyA.ret (ResA.one rfl rfl) zE ⟨_, rfl, rfl, rfl⟩
end Go.Proofs.YtmnmcjdgnpgchaaGreat

namespace Go.Proofs.YtmnmcjdgnpgchaaGreat
open Go X
set_option maxHeartbeats 2000000
theorem commit_yesL (σ : PH) (b db : Nat) (s : StS) (d : DiskS) (p : Option Addr) (c : Nat) (rows : List (List Value)) (l : List PageS) (D : Int) (hr : Rows_ 9 rPage σ rows l) (hc : checkS l = 0) (hG : Good d s) (hg1 : s.gen < 4611686018427387904) (hD : okD D) :
    CallsA Tryz.prog 115 #[ptr b, .slice p l.length c, i64 D] σ [lst 175 9 (.slice p l.length c) l.length rows.flatten, Store b db s, Disk db d]
      (RetA fun v σ' Γ' => ∃ j : Nat, j ≤ l.length + 5 ∧ (j < l.length + 5 → D = (j : Int)) ∧ (j = l.length + 5 → ∀ i : Nat, i < l.length + 5 → D ≠ (i : Int)) ∧ v = .tuple #[.bool (decide (j = l.length + 5)), i64 0] ∧ σ.sub σ' ∧ Γ' = [Store b db (if j = l.length + 5 then nextS s l else s), Disk db (comD d s l j)]) := by
  refine X.CallsA.frz (enters Tryz.func115 rfl rfl) .head lst_frz lst_frz_mono ?_
  rintro σ' ⟨⟩ hf hs
  exact CallsA.ret (commit_yes σ' b db s d _ l D ((hr.mono (σ' := σ') (fun _ _ h => h)).psl rfl hf) hc hG.sok hG.gen hg1 hD hG.wlen) (fun v σ2 Γ2 ⟨j, a1, a2, a3, a4, a5, a6⟩ => ⟨j, a1, a2, a3, a4, hs.trans a5, a6⟩)
theorem checkGo_ok : ∀ (l seen : List PageS), (∀ x ∈ l, 0 ≤ x.n ∧ x.n < 14) → (l.map (·.n)).Nodup → (∀ x ∈ l, ∀ y ∈ seen, y.n ≠ x.n) → checkGo seen l = 0
  | [], _, _, _, _ => rfl
  | x :: l, seen, h1, h2, h3 => by
    rw [checkGo, if_neg (fun q => q (h1 x (by simp))), if_neg (fun ⟨y, hy, e⟩ => h3 x (by simp) y hy e)]
    rw [List.map_cons, List.nodup_cons] at h2
    refine checkGo_ok l (seen ++ [x]) (fun y hy => h1 y (List.mem_cons_of_mem _ hy)) h2.2 (fun y hy z hz => ?_)
    rcases List.mem_append.1 hz with hz | hz
    · exact h3 y (List.mem_cons_of_mem _ hy) z hz
    · rw [List.mem_singleton.1 hz]
      exact fun e => h2.1 (e ▸ List.mem_map_of_mem (f := (·.n)) hy)
theorem dirtyTo_mem {C : List (List Int)} {dt : List Bool} : ∀ {k : Nat} {x : PageS}, x ∈ dirtyTo C dt k → ∃ p : Nat, p < k ∧ x = ⟨(p : Int), C.getD p DiskS.zeros⟩
  | 0, x, h => by cases h
  | k + 1, x, h => by
    rw [dirtyTo] at h
    split at h
    · rcases List.mem_append.1 h with h | h
      · obtain ⟨p, a, b⟩ := dirtyTo_mem h; exact ⟨p, by omega, b⟩
      · exact ⟨k, by omega, List.mem_singleton.1 h⟩
    · obtain ⟨p, a, b⟩ := dirtyTo_mem h; exact ⟨p, by omega, b⟩
theorem dirtyTo_nodup (C : List (List Int)) (dt : List Bool) : ∀ k, ((dirtyTo C dt k).map (·.n)).Nodup
  | 0 => List.nodup_nil
  | k + 1 => by
    rw [dirtyTo]
    split
    · rw [List.map_append, List.nodup_append]
      refine ⟨dirtyTo_nodup C dt k, by simp, fun a ha b hb => ?_⟩
      obtain ⟨x, hx, rfl⟩ := List.mem_map.1 ha
      obtain ⟨p, hp, rfl⟩ := dirtyTo_mem hx
      simp only [List.map_cons, List.map_nil, List.mem_singleton] at hb
      subst hb
      intro e
      simp only at e
      omega
    · exact dirtyTo_nodup C dt k
theorem dirty_n {C : List (List Int)} {dt : List Bool} : ∀ x ∈ dirtyL C dt, 0 ≤ x.n ∧ x.n < 14 := fun x hx => by
  obtain ⟨p, hp, rfl⟩ := dirtyTo_mem hx
  simp only; omega
theorem dirty_check (C : List (List Int)) (dt : List Bool) : checkS (dirtyL C dt) = 0 := checkGo_ok _ _ dirty_n (dirtyTo_nodup C dt 14) (fun _ _ _ h => by cases h)
theorem dirty_w {C : List (List Int)} {dt : List Bool} (h : pgsOk C) : ∀ x ∈ dirtyL C dt, x.w.length = 8 := fun x hx => by
  obtain ⟨p, hp, rfl⟩ := dirtyTo_mem hx
  exact pgs_row8 h hp
theorem wTo_pre {W : List Int} {l : List PageS} {x : PageS} (p : Int) : ∀ k, k ≤ l.length → wTo W (l ++ [x]) k p = wTo W l k p
  | 0, _ => rfl
  | k + 1, h => by
    have e1 : (l ++ [x])[k]? = some l[k] := by rw [List.getElem?_append_left (by omega), List.getElem?_eq_getElem (by omega)]
    rw [wTo_succ e1, wTo_succ (List.getElem?_eq_getElem (by omega : k < l.length)), wTo_pre p k (by omega)]
theorem wTo_snoc {W : List Int} {l : List PageS} {x : PageS} (p : Int) : wTo W (l ++ [x]) (l ++ [x]).length p = if x.n = p then x.w else wTo W l l.length p := by
  rw [List.length_append, List.length_singleton, wTo_succ (x := x) (by simp), wTo_pre p _ (Nat.le_refl _)]
theorem wTo_dirty (W : List Int) (C : List (List Int)) (dt : List Bool) (p : Nat) : ∀ k, wTo W (dirtyTo C dt k) (dirtyTo C dt k).length p = if p < k ∧ dt.getD p false = true then C.getD p DiskS.zeros else W
  | 0 => by rw [if_neg (by omega)]; rfl
  | k + 1 => by
    have ih := wTo_dirty W C dt p k
    rw [dirtyTo]
    by_cases hk : dt.getD k false = true
    · rw [if_pos hk, wTo_snoc, ih]
      by_cases e : p = k
      · subst e; rw [if_pos rfl, if_pos ⟨by omega, hk⟩]
      · rw [if_neg (by simp only; omega)]
        by_cases h2 : p < k ∧ dt.getD p false = true
        · rw [if_pos h2, if_pos ⟨by omega, h2.2⟩]
        · rw [if_neg h2, if_neg (fun q => h2 ⟨by omega, q.2⟩)]
    · rw [if_neg hk, ih]
      by_cases h2 : p < k ∧ dt.getD p false = true
      · rw [if_pos h2, if_pos ⟨by omega, h2.2⟩]
      · rw [if_neg h2, if_neg (fun q => h2 ⟨by
          rcases Nat.lt_or_ge p k with z | z
          · exact z
          · have : p = k := by omega
            subst this; exact absurd q.2 hk, q.2⟩)]
theorem noB_get (p : Nat) : noB.getD p false = false := by
  rw [noB, List.getD_eq_getElem?_getD, List.getElem?_replicate]; split <;> rfl
theorem noP_ok : pgsOk noP := ⟨by simp [noP], fun w hw => by rw [List.eq_of_mem_replicate hw]; rfl⟩
theorem MOk.sync {d d' : DiskS} {s s' : StS} {inn dt : List Bool} {pg C : List (List Int)} (h : MOk d s inn dt pg C) (hp : ∀ p : Int, pageW d' s' p = wTo (pageW d s p) (dirtyL C dt) (dirtyL C dt).length p) : MOk d' s' inn noB pg C ∧ ∀ p : Nat, p < 14 → pageW d' s' p = C.getD p DiskS.zeros := by
  have key : ∀ p : Nat, p < 14 → pageW d' s' p = C.getD p DiskS.zeros := fun p hp14 => by
    rw [hp p]
    have := wTo_dirty (pageW d s p) C dt p 14
    refine this.trans ?_
    by_cases hd : dt.getD p false = true
    · rw [if_pos ⟨hp14, hd⟩]
    · rw [if_neg (fun q => hd q.2)]
      exact (h.old p hp14 (by revert hd; cases dt.getD p false <;> simp)).symm
  refine ⟨⟨h.li, rfl, h.pp, h.cc, fun p hp14 => ?_, fun p _ hq => ?_, fun p hp14 _ => (key p hp14).symm⟩, key⟩
  · split
    · rename_i hi; rw [h.val p hp14, if_pos hi]
    · exact (key p hp14).symm
  · rw [noB_get] at hq; cases hq
def pagesC (d : DiskS) (s : StS) : List (List Int) := (List.range 14).map fun p => pageW d s (p : Nat)
theorem pagesC_get (d : DiskS) (s : StS) {p : Nat} (hp : p < 14) : (pagesC d s).getD p DiskS.zeros = pageW d s p := by
  simp [pagesC, List.getD_eq_getElem?_getD, List.getElem?_range hp]
theorem pagesC_ok {d : DiskS} (hd : d.ok) (s : StS) : pgsOk (pagesC d s) := ⟨by simp [pagesC], fun w hw => by
  obtain ⟨p, -, rfl⟩ := List.mem_map.1 hw
  exact pageW_len hd s p⟩
theorem pgs_ext {P Q : List (List Int)} (hP : pgsOk P) (hQ : pgsOk Q) (h : ∀ p, p < 14 → P.getD p DiskS.zeros = Q.getD p DiskS.zeros) : P = Q := by
  refine List.ext_getElem (by rw [hP.1, hQ.1]) (fun i h1 h2 => ?_)
  have := h i (by rw [← hP.1]; exact h1)
  simpa [List.getD_eq_getElem?_getD, List.getElem?_eq_getElem h1, List.getElem?_eq_getElem h2] using this
theorem MOk.new {d : DiskS} (hd : d.ok) (s : StS) : MOk d s noB noB noP (pagesC d s) := by
  refine ⟨rfl, rfl, noP_ok, pagesC_ok hd s, fun p hp => ?_, fun p _ hq => ?_, fun p hp _ => pagesC_get d s hp⟩
  · rw [noB_get, if_neg (by simp), pagesC_get d s hp]
  · rw [noB_get] at hq; cases hq
theorem sync_a (σ : PH) (b sb db : Nat) (d : DiskS) (s : StS) (inn dt : List Bool) (pg C : List (List Int)) (D : Int) (hG : Good d s) (hg1 : s.gen < 4611686018427387904) (hD : okD D) (h : MOk d s inn dt pg C) :
    CallsA Tryz.prog 104 #[ptr b, i64 D] σ [blk b (mcells sb inn dt pg) 141, Store sb db s, Disk db d] (RetA fun v σ' Γ' => ∃ j : Nat, j ≤ (dirtyL C dt).length + 5 ∧ (j < (dirtyL C dt).length + 5 → D = (j : Int)) ∧ (j = (dirtyL C dt).length + 5 → ∀ i : Nat, i < (dirtyL C dt).length + 5 → D ≠ (i : Int)) ∧ v = .bool (decide (j = (dirtyL C dt).length + 5)) ∧ σ.sub σ' ∧ Γ' = [blk b (mcells sb inn (if j = (dirtyL C dt).length + 5 then noB else dt) pg) 141, Store sb db (if j = (dirtyL C dt).length + 5 then nextS s (dirtyL C dt) else s), Disk db (comD d s (dirtyL C dt) j)]) := by
  have hsb : (mcells sb inn dt pg)[0]? = some (ptr sb) := rfl
  refine enterA2 Tryz.func104 rfl rfl rfl ?_; refine zS (zR (yS ?_)); refine zN (zT (zS ?_))
  refine XA.draw (by kernel_rfl) _ _ [7] [(0, .pu), (1, .pu), (2, .pu), (3, .rd), (4, .pu), (6, .pu), (5, .wr), (7, .wr), (8, .pu), (9, .pu), (10, .pu), (11, .pu), (12, .pu)] (by kernel_rfl) (PH.sub.refl _) (Ent.sel (R := blk b _ _) zL (Ent.nil _)) ?_
  refine zu rfl rfl Rd.mv ?_; refine zu rfl rfl (Rd.nilCheck rfl) ?_; refine zu rfl rfl (Rd.fA rfl) ?_; refine XPA.rd rfl rfl Gd.free (Rd.ldC rfl (tyrow rfl) rfl) ?_; refine zu rfl rfl Rd.mv ?_; refine zu rfl rfl Rd.mv ?_
  refine XPA.wr0 rfl rfl Gd.free (WrA.cE (dirty_a σ b sb d s inn dt pg C h) rfl) ?_
  rintro _ _ _ ⟨_, ⟨p, c, rows, rfl, hr, rfl, rfl⟩, rfl⟩
  refine stays (XPA.cl ?_)
  refine XPA.wrZ0 rfl rfl Gd.free (by kernel_rfl) (WrA.cE (commit_yesL σ sb db s d p c rows (dirtyL C dt) D hr (dirty_check C dt) hG hg1 hD) rfl) ?_
  rintro _ σ' _ ⟨_, ⟨j, hj1, hj2, hj3, rfl, hs, rfl⟩, rfl⟩
  refine XPA.cl ?_; refine zu rfl rfl Rd.mv ?_; refine zu rfl rfl (Rd.extract rfl rfl) ?_; refine zu rfl rfl (Rd.extract rfl rfl) ?_; refine zu rfl rfl Rd.asg ?_; refine zu rfl rfl Rd.asg ?_; refine XPA.nil ?_; refine zT (zS (zS (zR (yA ?_)))); refine zN (zT ?_)
  have hml := mc_len (sb := sb) h.li h.ld h.pp
  by_cases hj : j = (dirtyL C dt).length + 5
  · have hspl := put_dts (sb := sb) (pg := pg) (dt' := noB) h.li h.ld rfl
    have hfit : 15 + ty138.size ≤ (mcells sb inn dt pg).length := by rw [hml]; decide
    rw [if_pos hj]
    refine XA.condT rfl (decide_eq_true hj) (zR (yA ?_)); refine zO rfl (Rd.blA (fun _ _ => tyrow) rfl rfl rfl) ?_; refine zO rfl (Rd.nilCheck rfl) ?_; refine yV ?_; refine zw rfl (WrA.st (tyrow rfl) rfl) ?_
    rintro _ _ _ ⟨rfl, rfl, rfl⟩
    refine zN (zT (zS (zR (yA ?_)))); refine yS ?_; refine zN (zT (XA.ret ?_))
    exact bodyA.ret (ResA.one rfl rfl) (by rw [if_pos hj, if_pos hj]; exact zE) ⟨j, hj1, hj2, hj3, rfl, hs, rfl⟩
  · rw [if_neg hj]
    refine XA.condF rfl (decide_eq_false hj) (XA.skip (zT (zS (zR (yA ?_))))); refine yS ?_; refine zN (zT (XA.ret ?_))
    exact bodyA.ret (ResA.one rfl rfl) (by rw [if_neg hj, if_neg hj]; exact zE) ⟨j, hj1, hj2, hj3, rfl, hs, rfl⟩
theorem flat_len {P : List (List Int)} (h : pgsOk P) : P.flatten.length = 112 := by
  have := pgs_len h
  rwa [ints_len] at this
end Go.Proofs.YtmnmcjdgnpgchaaGreat

namespace Go.Proofs.YtmnmcjdgnpgchaaGreat
open Go X
set_option maxHeartbeats 4000000
theorem pages0 : pagesC DiskS.new s0 = noP := pgs_ext (pagesC_ok Good.new.dok s0) noP_ok (fun p hp => by
  rw [pagesC_get _ _ hp, page0]
  rw [noP, List.getD_eq_getElem?_getD, List.getElem?_replicate, if_pos hp]; rfl)
theorem sync_all (σ : PH) (b sb db : Nat) (d : DiskS) (s : StS) (inn dt : List Bool) (pg C : List (List Int)) (hG : Good d s) (hg1 : s.gen < 4611686018427387904) (h : MOk d s inn dt pg C) :
    CallsA Tryz.prog 104 #[ptr b, i64 (-1)] σ [blk b (mcells sb inn dt pg) 141, Store sb db s, Disk db d] (RetA fun v σ' Γ' => ∃ (d' : DiskS) (s' : StS), v = .bool true ∧ Good d' s' ∧ s'.gen = s.gen + 1 ∧ MOk d' s' inn noB pg C ∧ (∀ p : Nat, p < 14 → pageW d' s' p = C.getD p DiskS.zeros) ∧ σ.sub σ' ∧ Γ' = [blk b (mcells sb inn noB pg) 141, Store sb db s', Disk db d']) := by
  refine (sync_a σ b sb db d s inn dt pg C (-1) hG hg1 ⟨by decide, by decide⟩ h).ret ?_
  rintro v σ' Γ' ⟨j, hj1, hj2, hj3, rfl, hs, rfl⟩
  obtain rfl : j = (dirtyL C dt).length + 5 := by
    rcases Nat.lt_or_ge j ((dirtyL C dt).length + 5) with h | h
    · have := hj2 h; omega
    · omega
  obtain ⟨h1, h2⟩ := commit_done hG (dirty_w (dt := dt) h.cc) (check_zero (dirty_check C dt)).2.2 dirty_n
  obtain ⟨h3, h4⟩ := h.sync (page_new dirty_n h2)
  exact ⟨_, _, congrArg Value.bool (decide_eq_true rfl), h1, rfl, h3, h4, hs, by rw [if_pos rfl, if_pos rfl]⟩
end Go.Proofs.YtmnmcjdgnpgchaaGreat

namespace Go.Proofs.YtmnmcjdgnpgchaaGreat
open Go X
set_option maxHeartbeats 1000000
theorem X.CallsA.ents {P : Program} {f : FuncId} {vs : Array Value} {σ : PH} {Γ : List HP} {R R' : Value → PH → List HP → Prop} (h : CallsA P f vs σ Γ (RetA R)) (hr : ∀ v σ' Γ', R v σ' Γ' → ∃ Δ, Ent Γ' Δ ∧ R' v σ' Δ) : CallsA P f vs σ Γ (RetA R') :=
  ⟨h.1, fun fr hp hh => (h.2 fr hp hh).mono fun e h' ⟨σ', Γ', a, b⟩ => by
    cases e with
    | returned v => obtain ⟨Δ, e1, e2⟩ := hr v σ' Γ' a; exact ⟨σ', Δ, e2, b.ent e1⟩
    | panicked c => exact a.elim
    | outgrown => exact a.elim⟩
structure Me where
  C : List (List Int)
  dt : List Bool
namespace Me
def ld (M : Me) (a : Int) : Int := wordC M.C a
def put (M : Me) (a w : Int) : Me := ⟨putC M.C a w, putD M.C M.dt a w⟩
end Me
def Wld (mb sb db : Nat) (d : DiskS) (s : StS) (M : Me) : HP := fun m => ∃ x : List Bool × List (List Int), (Good d s ∧ MOk d s x.1 M.dt x.2 M.C) ∧ Sat [blk mb (mcells sb x.1 M.dt x.2) 141, Store sb db s, Disk db d] m
theorem Wld.opn {mb sb db : Nat} {d : DiskS} {s : StS} {M : Me} : ∀ m, Wld mb sb db d s M m → ∃ x : List Bool × List (List Int), (Good d s ∧ MOk d s x.1 M.dt x.2 M.C) ∧ Sat [blk mb (mcells sb x.1 M.dt x.2) 141, Store sb db s, Disk db d] m := fun _ h => h
theorem Wld.mk {mb sb db : Nat} {d : DiskS} {s : StS} {C pg : List (List Int)} {inn dt : List Bool} (hG : Good d s) (hM : MOk d s inn dt pg C) : ∀ m, Sat [blk mb (mcells sb inn dt pg) 141, Store sb db s, Disk db d] m → Wld mb sb db d s ⟨C, dt⟩ m := fun _ h => ⟨(inn, pg), ⟨hG, hM⟩, h⟩
theorem load_w (σ : PH) (mb sb db : Nat) (d : DiskS) (s : StS) (M : Me) (a : Int) :
    CallsA Tryz.prog 68 #[ptr mb, i64 a] σ [Wld mb sb db d s M] (RetA fun v σ' Γ' => v = i64 (M.ld a) ∧ σ = σ' ∧ Γ' = [Wld mb sb db d s M]) := by
  refine CallsA.opn .head Wld.opn (enters Tryz.func68 rfl rfl) ?_
  rintro ⟨inn, pg⟩ ⟨hG, hM⟩
  refine (load_a σ mb sb db d s inn M.dt pg M.C a hG.dok hG.wlen' hM).ents ?_
  rintro v σ' _ ⟨rfl, rfl, inn', pg', hM', rfl⟩
  exact ⟨_, Ent.fold1 (Ent.refl _) (Wld.mk hG hM'), rfl, rfl, rfl⟩
theorem put_w (σ : PH) (mb sb db : Nat) (d : DiskS) (s : StS) (M : Me) (a w : Int) :
    CallsA Tryz.prog 85 #[ptr mb, i64 a, i64 w] σ [Wld mb sb db d s M] (RetA fun v σ' Γ' => v = .bool (decide (0 ≤ a ∧ a < 112)) ∧ σ = σ' ∧ Γ' = [Wld mb sb db d s (M.put a w)]) := by
  refine CallsA.opn .head Wld.opn (enters Tryz.func85 rfl rfl) ?_
  rintro ⟨inn, pg⟩ ⟨hG, hM⟩
  refine (put_a σ mb sb db d s inn M.dt pg M.C a w hG.dok hG.wlen' hM).ents ?_
  rintro v σ' _ ⟨rfl, rfl, inn', pg', hM', rfl⟩
  exact ⟨_, Ent.fold1 (Ent.refl _) (Wld.mk hG hM'), rfl, rfl, rfl⟩
theorem pages_of {d : DiskS} {s : StS} {C : List (List Int)} (hG : Good d s) (hC : pgsOk C) (h : ∀ p : Nat, p < 14 → pageW d s p = C.getD p DiskS.zeros) : pagesC d s = C := pgs_ext (pagesC_ok hG.dok s) hC (fun p hp => by rw [pagesC_get d s hp, h p hp])
theorem sync_w (σ : PH) (mb sb db : Nat) (d : DiskS) (s : StS) (M : Me) (hg : s.gen < 4611686018427387904) :
    CallsA Tryz.prog 104 #[ptr mb, i64 (-1)] σ [Wld mb sb db d s M] (RetA fun v σ' Γ' => ∃ (d' : DiskS) (s' : StS), v = .bool true ∧ s'.gen = s.gen + 1 ∧ pagesC d' s' = M.C ∧ Good d' s' ∧ σ.sub σ' ∧ Γ' = [Wld mb sb db d' s' ⟨M.C, noB⟩]) := by
  refine CallsA.opn .head Wld.opn (enters Tryz.func104 rfl rfl) ?_
  rintro ⟨inn, pg⟩ ⟨hG, hM⟩
  refine (sync_all σ mb sb db d s inn M.dt pg M.C hG hg hM).ents ?_
  rintro v σ' _ ⟨d', s', rfl, hG', hg', hM', hp, hs, rfl⟩
  exact ⟨_, Ent.fold1 (Ent.refl _) (Wld.mk hG' hM'), d', s', rfl, hg', pages_of hG' hM.cc hp, hG', hs, rfl⟩
theorem new_w (σ : PH) (sb db : Nat) (d : DiskS) (s : StS) (hG : Good d s) :
    CallsA Tryz.prog 50 #[ptr sb] σ [Store sb db s, Disk db d] (RetA fun v σ' Γ' => ∃ mb, v = ptr mb ∧ σ = σ' ∧ Γ' = [Wld mb sb db d s ⟨pagesC d s, noB⟩]) := by
  refine (CallsA.ents (R := fun v σ' Γ' => ∃ b, v = ptr b ∧ σ = σ' ∧ Γ' = [blk b (mcells sb noB noB noP) 141, Store sb db s, Disk db d]) ?_ ?_)
  · refine ((mnew_a σ sb).frame [Store sb db s, Disk db d] (Ent.refl _)).mono ?_
    rintro e σ' _ ⟨Γ1, h, rfl⟩
    cases e with
    | returned v => obtain ⟨b, e1, e2, rfl⟩ := h; exact ⟨b, e1, e2, rfl⟩
    | panicked c => exact h.elim
    | outgrown => exact h.elim
  rintro v σ' _ ⟨b, rfl, rfl, rfl⟩
  exact ⟨_, Ent.fold1 (Ent.refl _) (Wld.mk hG (MOk.new hG.dok s)), b, rfl, rfl, rfl⟩
end Go.Proofs.YtmnmcjdgnpgchaaGreat

namespace Go.Proofs.YtmnmcjdgnpgchaaGreat
open Go X
set_option maxHeartbeats 4000000
theorem wordC_out {C : List (List Int)} {a : Int} (h : ¬ (0 ≤ a ∧ a < 112)) : wordC C a = 0 := by rw [wordC, if_neg h]
theorem wordC_put {C : List (List Int)} (h : pgsOk C) (a w : Int) {k : Nat} (hk : k < 112) : wordC (putC C a w) k = if (k : Int) = a then w else wordC C k := by
  unfold putC
  split
  · rename_i hc
    obtain ⟨n, rfl⟩ := Int.eq_ofNat_of_zero_le hc.1.1
    have hn : n < 112 := by omega
    rw [wordC_nat _ hk, wordC_nat _ hk, Int.toNat_natCast, set_getD_r (by rw [h.1]; omega)]
    by_cases e : k / 8 = n / 8
    · rw [if_pos e, set_getD (by rw [pgs_row8 h (by omega)]; omega)]
      by_cases e2 : k % 8 = n % 8
      · rw [if_pos e2, if_pos (by omega)]
      · rw [if_neg e2, if_neg (by omega), e]
    · rw [if_neg e, if_neg (by omega)]
  · rename_i hc
    split
    · rename_i e
      subst e
      exact Classical.byContradiction fun q => hc ⟨by omega, q⟩
    · rfl
end Go.Proofs.YtmnmcjdgnpgchaaGreat

namespace Go.Proofs.YtmnmcjdgnpgchaaGreat
namespace X
open Go
section
variable {P : Program} {N : Nat} {ρ : Env} {σ : PH} {Γ : List HP} {K : KA}
end
section
variable {P : Program}
section
variable {N : Nat} {ρ : Env} {h : Heap} {K : Kont}
end
section
variable {N : Nat} {ρ : Env} {σ : PH} {Γ : List HP} {K : KA} {all : Array Oper} {rest : List Oper} {d : Nat} {ty : TypeId} {pos : String} {af : Array Edge}
end
section
variable {fn : Func} {ρ : Env} {σ : PH} {Γ : List HP} {RR : Ending → PH → List HP → Prop}
end
end
end X
end Go.Proofs.YtmnmcjdgnpgchaaGreat

namespace Go.Proofs.YtmnmcjdgnpgchaaGreat
open Go X
inductive Ex where
  | mk (op v n : Int) (l : List Ex)
inductive St where
  | mk (op v : Int) (e f : Ex) (body els : List St)
structure Va where
  name : ByteArray
  size : Int
  deriving DecidableEq
structure Pr where
  vars : List Va
  body : List St
namespace Ex
def op : Ex → Int | .mk o _ _ _ => o
def v : Ex → Int | .mk _ v _ _ => v
def n : Ex → Int | .mk _ _ n _ => n
def l : Ex → List Ex | .mk _ _ _ l => l
theorem ind {P : Ex → Prop} (h : ∀ op v n l, (∀ x ∈ l, P x) → P (.mk op v n l)) : ∀ x, P x
  | .mk op v n l => h op v n l (fun x _ => ind h x)
end Ex
namespace St
def op : St → Int | .mk o _ _ _ _ _ => o
def v : St → Int | .mk _ v _ _ _ _ => v
def e : St → Ex | .mk _ _ e _ _ _ => e
def f : St → Ex | .mk _ _ _ f _ _ => f
def body : St → List St | .mk _ _ _ _ b _ => b
def els : St → List St | .mk _ _ _ _ _ l => l
theorem ind {P : St → Prop} (h : ∀ op v e f body els, (∀ x ∈ body, P x) → (∀ x ∈ els, P x) → P (.mk op v e f body els)) : ∀ x, P x
  | .mk op v e f body els => h op v e f body els (fun x _ => ind h x) (fun x _ => ind h x)
end St
def i64ok (n : Int) : Prop := -9223372036854775808 ≤ n ∧ n ≤ 9223372036854775807
inductive ExAt (σ : PH) : List Value → Ex → Prop
  | mk {op v n : Int} {l : List Ex} {p : Option Addr} {c : Nat} (rows : List (List Value)) (ho : i64ok op) (hv : i64ok v) (hn : i64ok n) (h1 : l.length ≤ c) (h2 : c ≤ maxLen) (h3 : rows.length = l.length) (h4 : ∀ row ∈ rows, row.length = 4)
      (h5 : ∀ (i : Nat) (row : List Value) (x : Ex), rows[i]? = some row → l[i]? = some x → ExAt σ row x) (h6 : 0 < l.length → ∃ g o, p = some ⟨g, o, none⟩ ∧ PRow σ g o rows.flatten) :
      ExAt σ [i64 op, i64 v, i64 n, .slice p l.length c] (.mk op v n l)
inductive StAt (σ : PH) : List Value → St → Prop
  | mk {op v : Int} {e f : Ex} {body els : List St} {ce cf : List Value} {p q : Option Addr} {c d : Nat} (rows qows : List (List Value)) (ho : i64ok op) (hv : i64ok v) (he : ExAt σ ce e) (hf : ExAt σ cf f)
      (h1 : body.length ≤ c) (h2 : c ≤ maxLen) (h3 : rows.length = body.length) (h4 : ∀ row ∈ rows, row.length = 12)
      (h5 : ∀ (i : Nat) (row : List Value) (x : St), rows[i]? = some row → body[i]? = some x → StAt σ row x) (h6 : 0 < body.length → ∃ g o, p = some ⟨g, o, none⟩ ∧ PRow σ g o rows.flatten)
      (g1 : els.length ≤ d) (g2 : d ≤ maxLen) (g3 : qows.length = els.length) (g4 : ∀ row ∈ qows, row.length = 12)
      (g5 : ∀ (i : Nat) (row : List Value) (x : St), qows[i]? = some row → els[i]? = some x → StAt σ row x) (g6 : 0 < els.length → ∃ g o, q = some ⟨g, o, none⟩ ∧ PRow σ g o qows.flatten) :
      StAt σ (i64 op :: i64 v :: (ce ++ cf ++ [.slice p body.length c, .slice q els.length d])) (.mk op v e f body els)
theorem ExAt.inv {σ : PH} {cs : List Value} {x : Ex} (h : ExAt σ cs x) : ∃ p c, cs = [i64 x.op, i64 x.v, i64 x.n, .slice p x.l.length c] ∧ i64ok x.op ∧ i64ok x.v ∧ i64ok x.n ∧ PSl 4 ExAt σ (.slice p x.l.length c) x.l := by
  cases h with
  | mk rows ho hv hn h1 h2 h3 h4 h5 h6 => exact ⟨_, _, rfl, ho, hv, hn, _, _, rows, rfl, h1, h2, h3, h4, h5, h6⟩
theorem ExAt.of {σ : PH} {op v n : Int} {l : List Ex} {sl : Value} (ho : i64ok op) (hv : i64ok v) (hn : i64ok n) (h : PSl 4 ExAt σ sl l) : ExAt σ [i64 op, i64 v, i64 n, sl] (.mk op v n l) := by
  obtain ⟨p, c, rows, rfl, h1, h2, h3, h4, h5, h6⟩ := h
  exact .mk rows ho hv hn h1 h2 h3 h4 h5 h6
theorem StAt.inv {σ : PH} {cs : List Value} {x : St} (h : StAt σ cs x) : ∃ ce cf p c q d, cs = i64 x.op :: i64 x.v :: (ce ++ cf ++ [.slice p x.body.length c, .slice q x.els.length d]) ∧ i64ok x.op ∧ i64ok x.v ∧ ExAt σ ce x.e ∧ ExAt σ cf x.f ∧ PSl 12 StAt σ (.slice p x.body.length c) x.body ∧ PSl 12 StAt σ (.slice q x.els.length d) x.els := by
  cases h with
  | mk rows qows ho hv he hf h1 h2 h3 h4 h5 h6 g1 g2 g3 g4 g5 g6 => exact ⟨_, _, _, _, _, _, rfl, ho, hv, he, hf, ⟨_, _, rows, rfl, h1, h2, h3, h4, h5, h6⟩, ⟨_, _, qows, rfl, g1, g2, g3, g4, g5, g6⟩⟩
theorem StAt.of {σ : PH} {op v : Int} {e f : Ex} {ce cf : List Value} {body els : List St} {sb se : Value} (ho : i64ok op) (hv : i64ok v) (he : ExAt σ ce e) (hf : ExAt σ cf f) (hb : PSl 12 StAt σ sb body) (hl : PSl 12 StAt σ se els) :
    StAt σ (i64 op :: i64 v :: (ce ++ cf ++ [sb, se])) (.mk op v e f body els) := by
  obtain ⟨p, c, rows, rfl, h1, h2, h3, h4, h5, h6⟩ := hb
  obtain ⟨q, d, qows, rfl, g1, g2, g3, g4, g5, g6⟩ := hl
  exact .mk rows qows ho hv he hf h1 h2 h3 h4 h5 h6 g1 g2 g3 g4 g5 g6
theorem ExAt.ones {σ : PH} {cs : List Value} {x : Ex} (h : ExAt σ cs x) : X.ones cs := by
  obtain ⟨p, c, rfl, -⟩ := h.inv; exact ones_lit rfl
theorem StAt.inv12 {σ : PH} {cs : List Value} {x : St} (h : StAt σ cs x) : ∃ pe de pf df p c q d, cs = [i64 x.op, i64 x.v, i64 x.e.op, i64 x.e.v, i64 x.e.n, .slice pe x.e.l.length de, i64 x.f.op, i64 x.f.v, i64 x.f.n, .slice pf x.f.l.length df, .slice p x.body.length c, .slice q x.els.length d] ∧
    i64ok x.op ∧ i64ok x.v ∧ ExAt σ [i64 x.e.op, i64 x.e.v, i64 x.e.n, .slice pe x.e.l.length de] x.e ∧ ExAt σ [i64 x.f.op, i64 x.f.v, i64 x.f.n, .slice pf x.f.l.length df] x.f ∧ PSl 12 StAt σ (.slice p x.body.length c) x.body ∧ PSl 12 StAt σ (.slice q x.els.length d) x.els := by
  obtain ⟨ce, cf, p, c, q, d, rfl, h1, h2, h3, h4, h5, h6⟩ := h.inv
  obtain ⟨pe, de, rfl, -⟩ := h3.inv
  obtain ⟨pf, df, rfl, -⟩ := h4.inv
  exact ⟨pe, de, pf, df, p, c, q, d, rfl, h1, h2, h3, h4, h5, h6⟩
theorem StAt.ones {σ : PH} {cs : List Value} {x : St} (h : StAt σ cs x) : X.ones cs := by
  obtain ⟨pe, de, pf, df, p, c, q, d, rfl, -⟩ := h.inv12; exact ones_lit rfl
theorem ExAt.mono {σ σ' : PH} (s : σ.sub σ') {cs : List Value} {x : Ex} (h : ExAt σ cs x) : ExAt σ' cs x := by
  induction h with
  | mk rows ho hv hn h1 h2 h3 h4 h5 h6 ih => exact .mk rows ho hv hn h1 h2 h3 h4 ih (fun hp => by obtain ⟨g, o, e, r⟩ := h6 hp; exact ⟨g, o, e, r.mono s⟩)
theorem StAt.mono {σ σ' : PH} (s : σ.sub σ') {cs : List Value} {x : St} (h : StAt σ cs x) : StAt σ' cs x := by
  induction h with
  | mk rows qows ho hv he hf h1 h2 h3 h4 h5 h6 g1 g2 g3 g4 g5 g6 ih jh =>
    exact .mk rows qows ho hv (he.mono s) (hf.mono s) h1 h2 h3 h4 ih (fun hp => by obtain ⟨g, o, e, r⟩ := h6 hp; exact ⟨g, o, e, r.mono s⟩) g1 g2 g3 g4 jh (fun hp => by obtain ⟨g, o, e, r⟩ := g6 hp; exact ⟨g, o, e, r.mono s⟩)
namespace X
structure DecN {α : Type} (n : Nat) (P : Program) (t : TypeId) (R : RT α) : Prop where
  out : ∀ {H : Type} {enc : TypeId × Value → H} {w : World} {fuel : Nat} {cs : List Value} {x : DataW H × List MemPlace}, fuel ≤ n → DataW.trod enc P w 0 (fun _ => true) true fuel t cs = some x → ∃ y, R (ofHeap w.heap) cs y
variable {P : Program} {t e : TypeId} {α : Type}
theorem Dec.n {R : RT α} (h : Dec P t R) (n : Nat) : DecN n P t R := ⟨fun _ hx => h.out hx⟩
theorem DecN.less {R : RT α} {m n : Nat} (hm : m ≤ n) (h : DecN n P t R) : DecN m P t R := ⟨fun hf hx => h.out (Nat.le_trans hf hm) hx⟩
theorem DecN.zero {R : RT α} : DecN 0 P t R := ⟨fun hf hx => by obtain ⟨k, rfl⟩ := trod_pos hx; omega⟩
theorem DecN.slice {r re : Ty} {s n : Nat} {R : RT α} (hT : tyOf P t = some r) (hk : r.k = .slice e) (hE : tyOf P e = some re) (hs : re.size = s) (hs0 : 0 < s) (hd : DecN n P e R) : DecN n P t (rSl s R) := ⟨fun {H enc w fuel cs x} hfuel h => by
  obtain ⟨d, e1, e2, -⟩ := und_of hT
  obtain ⟨d', -, -, e3⟩ := und_of hE
  rw [hk] at e2
  cases d <;> simp [kindOf] at e2
  subst e2
  obtain ⟨rfl, -⟩ | ⟨a, len, cap, elems, rest, n', rfl, rfl, -, -, hle, hcap, hlen, hel, -, -⟩ := DataW.trod_slice e1 h
  · exact ⟨[], _, rfl, PSl.nil _ _ _⟩
  · rw [e3, hs] at hel
    have hrow : ∀ i, i < len → ∃ row, row.length = s ∧ (∀ j, j < s → w.cell? ((a.add (i * s)).add j) = row[j]?) ∧ ∃ y, R (ofHeap w.heap) row y := fun i hi => by
      have hy := hel i hi
      rw [List.getElem?_eq_getElem (by omega)] at hy
      simp only [Option.bind_eq_some_iff] at hy
      obtain ⟨row, h1, h2⟩ := hy
      obtain ⟨-, h3, h4⟩ := World.cells?_some h1
      exact ⟨row, h3, h4, hd.out (by omega) h2⟩
    exact rows_slice hs0 hle hcap hrow⟩
theorem trod_fieldsN {r : Ty} {fs : List (TypeId × Nat)} (hT : tyOf P t = some r) (hk : r.k = .struct fs) {H : Type} {enc : TypeId × Value → H} {w : World} {fuel : Nat} {cs : List Value} {x : DataW H × List MemPlace} (h : DataW.trod enc P w 0 (fun _ => true) true fuel t cs = some x) :
    ∃ n, fuel = n + 1 ∧ cs.length = r.size ∧ ∀ f ∈ fs, ∃ y, DataW.trod enc P w 0 (fun _ => true) true n f.1 ((cs.drop f.2).take (P.cellsOf f.1)) = some y := by
  obtain ⟨d, e1, e2, e3⟩ := und_of hT
  rw [hk] at e2
  cases d <;> simp [kindOf] at e2
  rename_i fields
  subst e2
  obtain ⟨n, rfl⟩ := trod_pos h
  unfold DataW.trod at h
  rw [e1] at h
  dsimp only at h
  split at h
  · rename_i hl
    refine ⟨n, rfl, by rw [hl, e3], fun f hf => ?_⟩
    simp only [Option.map_eq_some_iff] at h
    obtain ⟨xs, hxs, -⟩ := h
    simp only [List.mem_map] at hf
    obtain ⟨fd, hfd, rfl⟩ := hf
    obtain ⟨y, hy⟩ := mapM_mem hxs fd hfd
    exact ⟨y, hy⟩
  · cases h
theorem cellsOf_ty {r : Ty} (hT : tyOf P t = some r) : P.cellsOf t = r.size := by obtain ⟨d, -, -, e3⟩ := und_of hT; exact e3
theorem list2 {α : Type} : ∀ {l : List α}, l.length = 2 → ∃ a b, l = [a, b]
  | [a, b], _ => ⟨a, b, rfl⟩
theorem list4 {α : Type} : ∀ {l : List α}, l.length = 4 → ∃ a b c d, l = [a, b, c, d]
  | [a, b, c, d], _ => ⟨a, b, c, d, rfl⟩
theorem list12 {α : Type} {l : List α} (h : l.length = 12) : ∃ a b c d e f g i j k m n, l = [a, b, c, d, e, f, g, i, j, k, m, n] := by
  obtain ⟨a, b, c, d, h1⟩ := list4 (l := l.take 4) (by simp [h])
  obtain ⟨e, f, g, i, h2⟩ := list4 (l := (l.drop 4).take 4) (by simp [h])
  obtain ⟨j, k, m, n, h3⟩ := list4 (l := l.drop 8) (by simp [h])
  refine ⟨a, b, c, d, e, f, g, i, j, k, m, n, ?_⟩
  have e1 := List.take_append_drop 4 l
  have e2 := List.take_append_drop 4 (l.drop 4)
  rw [List.drop_drop, h3, h2] at e2
  rw [h1, ← e2] at e1
  exact e1.symm
end X
open X
theorem dec_ex : ∀ n, DecN n Tryz.prog 93 ExAt := by
  intro n
  induction n with
  | zero => exact DecN.zero
  | succ n ih =>
    refine ⟨fun {H enc w fuel cs x} hf h => ?_⟩
    obtain ⟨k, rfl, hl, hx⟩ := trod_fieldsN (tyrow rfl) rfl h
    have hk : k ≤ n := by omega
    obtain ⟨y0, h0⟩ := hx (3, 0) (by simp)
    obtain ⟨y1, h1⟩ := hx (3, 1) (by simp)
    obtain ⟨y2, h2⟩ := hx (2, 2) (by simp)
    obtain ⟨y3, h3⟩ := hx (91, 3) (by simp)
    obtain ⟨a0, p0, q0⟩ := (Dec.int (tyrow rfl) rfl).out h0
    obtain ⟨a1, p1, q1⟩ := (Dec.int (tyrow rfl) rfl).out h1
    obtain ⟨a2, p2, q2⟩ := (Dec.int (tyrow rfl) rfl).out h2
    obtain ⟨a3, v3, p3, q3⟩ := (DecN.slice (tyrow rfl) rfl (tyrow rfl) rfl (by decide) (ih.less hk)).out (Nat.le_refl _) h3
    rw [cellsOf_ty (tyrow rfl)] at p0 p1 p2 p3
    have hcs : cs.length = 4 := hl
    obtain ⟨c0, c1, c2, c3, rfl⟩ := list4 hcs
    next =>
      simp only [List.drop_zero, List.drop_succ_cons] at p0 p1 p2 p3
      have e0 : c0 = i64 a0 := by have := congrArg (·[0]?) p0; simpa using this
      have e1 : c1 = i64 a1 := by have := congrArg (·[0]?) p1; simpa using this
      have e2 : c2 = i64 a2 := by have := congrArg (·[0]?) p2; simpa using this
      have e3 : c3 = v3 := by have := congrArg (·[0]?) p3; simpa using this
      subst e0 e1 e2 e3
      exact ⟨_, ExAt.of q0 q1 q2 q3⟩
theorem dec_st : ∀ n, DecN n Tryz.prog 96 StAt := by
  intro n
  induction n with
  | zero => exact DecN.zero
  | succ n ih =>
    refine ⟨fun {H enc w fuel cs x} hf h => ?_⟩
    obtain ⟨k, rfl, hl, hx⟩ := trod_fieldsN (tyrow rfl) rfl h
    have hk : k ≤ n := by omega
    obtain ⟨y0, h0⟩ := hx (3, 0) (by simp)
    obtain ⟨y1, h1⟩ := hx (3, 1) (by simp)
    obtain ⟨y2, h2⟩ := hx (93, 2) (by simp)
    obtain ⟨y3, h3⟩ := hx (93, 6) (by simp)
    obtain ⟨y4, h4⟩ := hx (23, 10) (by simp)
    obtain ⟨y5, h5⟩ := hx (23, 11) (by simp)
    obtain ⟨a0, p0, q0⟩ := (Dec.int (tyrow rfl) rfl).out h0
    obtain ⟨a1, p1, q1⟩ := (Dec.int (tyrow rfl) rfl).out h1
    obtain ⟨a2, q2⟩ := (dec_ex k).out (Nat.le_refl _) h2
    obtain ⟨a3, q3⟩ := (dec_ex k).out (Nat.le_refl _) h3
    obtain ⟨a4, v4, p4, q4⟩ := (DecN.slice (tyrow rfl) rfl (tyrow rfl) rfl (by decide) (ih.less hk)).out (Nat.le_refl _) h4
    obtain ⟨a5, v5, p5, q5⟩ := (DecN.slice (tyrow rfl) rfl (tyrow rfl) rfl (by decide) (ih.less hk)).out (Nat.le_refl _) h5
    rw [cellsOf_ty (tyrow rfl)] at p0 p1 p4 p5 q2 q3
    have hcs : cs.length = 12 := hl
    obtain ⟨c0, c1, c2, c3, c4, c5, c6, c7, c8, c9, c10, c11, rfl⟩ := list12 hcs
    next =>
      simp only [List.drop_zero, List.drop_succ_cons] at p0 p1 p4 p5 q2 q3
      have e0 : c0 = i64 a0 := by have := congrArg (·[0]?) p0; simpa using this
      have e1 : c1 = i64 a1 := by have := congrArg (·[0]?) p1; simpa using this
      have e4 : c10 = v4 := by have := congrArg (·[0]?) p4; simpa using this
      have e5 : c11 = v5 := by have := congrArg (·[0]?) p5; simpa using this
      subst e0 e1 e4 e5
      exact ⟨_, StAt.of q0 q1 q2 q3 q4 q5⟩
def rVa : RT Va := fun _ cs v => cs = [.string v.name, i64 v.size] ∧ i64ok v.size ∧ v.name.size ≤ maxLen
theorem dec_va : Dec Tryz.prog 67 rVa := ⟨fun {H enc w fuel cs x} h => by
  obtain ⟨k, rfl, hl, hx⟩ := trod_fieldsN (tyrow rfl) rfl h
  obtain ⟨y0, h0⟩ := hx (9, 0) (by simp)
  obtain ⟨y1, h1⟩ := hx (3, 1) (by simp)
  obtain ⟨a0, p0, q0⟩ := (Dec.str (tyrow rfl) rfl).out h0
  obtain ⟨a1, p1, q1⟩ := (Dec.int (tyrow rfl) rfl).out h1
  rw [cellsOf_ty (tyrow rfl)] at p0 p1
  have hcs : cs.length = 2 := hl
  obtain ⟨c0, c1, rfl⟩ := list2 hcs
  next =>
    simp only [List.drop_zero, List.drop_succ_cons] at p0 p1
    have e0 : c0 = .string a0 := by have := congrArg (·[0]?) p0; simpa using this
    have e1 : c1 = i64 a1 := by have := congrArg (·[0]?) p1; simpa using this
    subst e0 e1
    exact ⟨⟨a0, a1⟩, rfl, q1, q0⟩⟩
def PrAt (σ : PH) (cs : List Value) (p : Pr) : Prop := ∃ vs bs, cs = [vs, bs] ∧ PSl 2 rVa σ vs p.vars ∧ PSl 12 StAt σ bs p.body
theorem dec_pr : Dec Tryz.prog 25 PrAt := ⟨fun {H enc w fuel cs x} h => by
  obtain ⟨k, rfl, hl, hx⟩ := trod_fieldsN (tyrow rfl) rfl h
  obtain ⟨y0, h0⟩ := hx (22, 0) (by simp)
  obtain ⟨y1, h1⟩ := hx (23, 1) (by simp)
  obtain ⟨a0, v0, p0, q0⟩ := (Dec.slice (tyrow rfl) rfl (tyrow rfl) rfl (by decide) dec_va).out h0
  obtain ⟨a1, v1, p1, q1⟩ := (DecN.slice (tyrow rfl) rfl (tyrow rfl) rfl (by decide) (dec_st k)).out (Nat.le_refl _) h1
  rw [cellsOf_ty (tyrow rfl)] at p0 p1
  have hcs : cs.length = 2 := hl
  obtain ⟨c0, c1, rfl⟩ := list2 hcs
  next =>
    simp only [List.drop_zero, List.drop_succ_cons] at p0 p1
    have e0 : c0 = v0 := by have := congrArg (·[0]?) p0; simpa using this
    have e1 : c1 = v1 := by have := congrArg (·[0]?) p1; simpa using this
    subst e0 e1
    exact ⟨⟨a0, a1⟩, _, _, rfl, q0, q1⟩⟩
theorem PrAt.mono {σ σ' : PH} (s : σ.sub σ') {cs : List Value} {p : Pr} (h : PrAt σ cs p) : PrAt σ' cs p := by
  obtain ⟨vs, bs, rfl, h1, h2⟩ := h
  exact ⟨vs, bs, rfl, h1.mono s (fun _ _ h => h), h2.mono s (fun _ _ h => h.mono s)⟩
end Go.Proofs.YtmnmcjdgnpgchaaGreat

namespace Go.Proofs.YtmnmcjdgnpgchaaGreat
namespace X
open Go
variable {P : Program} {ρ : Env} {S : Heap → Prop} {ty : TypeId}
def byteAt (s : ByteArray) (i : Nat) : Nat := if h : i < s.size then (s[i]'h).toNat else 0
theorem byteAt_lt (s : ByteArray) (i : Nat) : byteAt s i < 256 := by
  unfold byteAt; split
  · exact UInt8.toNat_lt _
  · decide
theorem Rd.indexStr {T : TypeId} {x y : Operand} {r : Ty} {s : ByteArray} {i : Nat} {kk : IntKind} (hT : tyOf P T = some r) (hk : r.k = .string) (hx : ev ρ x = .string s) (hy : ev ρ y = .int kk i) (hi : i < s.size) : Rd P ρ S (.index T x y) ty (.int .u8 (byteAt s i)) := by
  refine .pure fun d pos af gd w => ?_
  obtain ⟨dd, ii, z, e1, e2, -⟩ := tyOf_spec hT
  rw [hk] at e2
  cases dd <;> simp [kindOf] at e2
  have h := run_index_string (P := P) w T s kk i e1
  rw [dif_pos ⟨by omega, by omega⟩] at h
  simp only [execOp, hx, hy, Sem.run_bind, h, Result.andThen_ok, Sem.run_pure, byteAt, hi, dif_pos, Int.toNat_natCast]
theorem str_eq (a b : ByteArray) : (a.toList == b.toList) = decide (a = b) := by
  rw [ByteArray.toList_eq, ByteArray.toList_eq]
  obtain ⟨⟨x⟩⟩ := a
  obtain ⟨⟨y⟩⟩ := b
  by_cases h : x = y
  · subst h; simp
  · simp [h]
theorem Rd.eqls {T T' : TypeId} {x y : Operand} {a b : ByteArray} (hx : ev ρ x = .string a) (hy : ev ρ y = .string b) : Rd P ρ S (.binOp .eql T x y T') ty (.bool (decide (a = b))) := by
  refine .pure fun d pos af gd w => ?_
  simp only [execOp, eqGuard, hx, hy, binOp, Op.stringOp, Sem.run_bind, str_eq]
  simp
theorem Rd.neqs {T T' : TypeId} {x y : Operand} {a b : ByteArray} (hx : ev ρ x = .string a) (hy : ev ρ y = .string b) : Rd P ρ S (.binOp .neq T x y T') ty (.bool (decide (a ≠ b))) := by
  refine .pure fun d pos af gd w => ?_
  simp only [execOp, eqGuard, hx, hy, binOp, Op.stringOp, Sem.run_bind, str_eq]
  by_cases h : a = b <;> simp [h]
theorem Rd.max2 {x y : Operand} {a b : Int} {ats : Array TypeId} (hx : ev ρ x = i64 a) (hy : ev ρ y = i64 b) : Rd P ρ S (.call { callee := .builtin .max, args := #[x, y], argTypes := ats }) ty (i64 (if b > a then b else a)) := by
  refine .pure fun d pos af gd w => ?_
  simp [execOp, resolve, invoke, builtin, hx, hy, run_max_int2]
theorem Rd.min2 {x y : Operand} {a b : Int} {ats : Array TypeId} (hx : ev ρ x = i64 a) (hy : ev ρ y = i64 b) : Rd P ρ S (.call { callee := .builtin .min, args := #[x, y], argTypes := ats }) ty (i64 (if b < a then b else a)) := by
  refine .pure fun d pos af gd w => ?_
  simp [execOp, resolve, invoke, builtin, hx, hy, run_min_int2]
def vav (v : Va) : Value := .agg [.string v.name, i64 v.size].toArray
end X
end Go.Proofs.YtmnmcjdgnpgchaaGreat

namespace Go.Proofs.YtmnmcjdgnpgchaaGreat
open Go X
def partsOf (op : Int) : Int := if op = 1 ∨ op = 2 then 0 else if op = 3 then 1 else if 4 ≤ op ∧ op ≤ 8 then 2 else -1
def needE (op : Int) : Bool := decide (op = 1 ∨ op = 2 ∨ op = 3 ∨ op = 5 ∨ op = 6)
def needF (op : Int) : Bool := decide (op = 2)
def needV (op : Int) : Bool := decide (op = 1 ∨ op = 2 ∨ op = 4)
def needB (op : Int) : Bool := decide (op = 5 ∨ op = 6)
def needO (op : Int) : Bool := decide (op = 6)
abbrev JE := Except Int Int
def JE.fail (e : JE) (b : Bool) (c : Int) : JE := match e with | .ok l => if b then .error c else .ok l | .error d => .error d
def JE.one (e : JE) (deep : Int) : JE := match e with | .ok l => if 12 < deep then .error 4 else if l = 0 then .error 3 else .ok (l - 1) | .error d => .error d
def JE.named (e : JE) (nv v : Int) (is : Bool) : JE := (e.fail (is && decide (v < 0 ∨ nv ≤ v)) 1).fail (!is && decide (v ≠ 0)) 5
def exHead (nv deep op v n : Int) (k : Nat) (e : JE) : JE := (((e.one deep).fail (decide (partsOf op < 0)) 2).fail (decide ((k : Int) ≠ partsOf op ∨ (n ≠ 0 ∧ op ≠ 1))) 5).named nv v (decide (op = 2 ∨ op = 3))
mutual
def exE (nv : Int) : Int → Ex → JE → JE
  | deep, .mk op v n l, e => exsE nv (deep + 1) l (exHead nv deep op v n l.length e)
def exsE (nv : Int) : Int → List Ex → JE → JE
  | _, [], e => e
  | deep, x :: l, e => exsE nv deep l (exE nv deep x e)
end
def noneX (x : Ex) : Bool := decide (x.op = 0 ∧ x.v = 0 ∧ x.n = 0 ∧ x.l.length = 0)
def stForm (op : Int) (e f : Ex) (kb ke : Nat) : Bool := (!needE op && !noneX e) || (!needF op && !noneX f) || (!needB op && decide ((0 : Int) < (kb : Int))) || (!needO op && decide ((0 : Int) < (ke : Int)))
def stHead (nv deep op v : Int) (e f : Ex) (kb ke : Nat) (s : JE) : JE := (((s.one deep).fail (decide (op < 1 ∨ 7 < op)) 2).fail (stForm op e f kb ke) 5).named nv v (needV op)
def stEF (nv deep op : Int) (e f : Ex) (s : JE) : JE :=
  let s1 := if needE op then exE nv deep e s else s
  if needF op then exE nv deep f s1 else s1
mutual
def stE (nv : Int) : Int → St → JE → JE
  | deep, .mk op v e f body els, s => stsE nv (deep + 1) els (stsE nv (deep + 1) body (stEF nv (deep + 1) op e f (stHead nv deep op v e f body.length els.length s)))
def stsE (nv : Int) : Int → List St → JE → JE
  | _, [], s => s
  | deep, x :: l, s => stsE nv deep l (stE nv deep x s)
end
def nameOk (s : ByteArray) : Bool := decide ((∀ i, i < s.size → 97 ≤ byteAt s i ∧ byteAt s i ≤ 122) ∧ 1 ≤ s.size ∧ s.size ≤ 8)
def sizes (l : List Va) : Int := (l.map (·.size)).sum
def varsGo (seen : List Va) (n : Int) : List Va → Int
  | [] => 0
  | v :: l => if nameOk v.name = false then 8 else if ∃ w ∈ seen, w.name = v.name then 9 else if v.size < 1 ∨ 48 - n < v.size then 1 else varsGo (seen ++ [v]) (n + v.size) l
def JE.code : JE → Int | .ok _ => 0 | .error c => c
def checkVars (l : List Va) : Int := if 8 < l.length then 3 else varsGo [] 0 l
def checkP (p : Pr) : Int := if checkVars p.vars ≠ 0 then checkVars p.vars else (stsE p.vars.length 0 p.body (.ok 150)).code
def cellOf (l : List Va) (v : Int) : Int := sizes (l.take v.toNat)
mutual
def exN : Ex → Nat
  | .mk _ _ _ l => 1 + exsN l
def exsN : List Ex → Nat
  | [] => 0
  | x :: l => exN x + exsN l
end
mutual
def stN : St → Nat
  | .mk _ _ e f body els => 1 + exN e + exN f + stsN body + stsN els
def stsN : List St → Nat
  | [] => 0
  | x :: l => stN x + stsN l
end
theorem exN_pos (x : Ex) : 1 ≤ exN x := by cases x; simp [exN]
theorem stN_pos (x : St) : 3 ≤ stN x := by
  cases x with
  | mk op v e f b l => have := exN_pos e; have := exN_pos f; simp only [stN]; omega
theorem exsN_len : ∀ l : List Ex, l.length ≤ exsN l
  | [] => Nat.le_refl _
  | x :: l => by have := exsN_len l; have := exN_pos x; simp only [exsN, List.length_cons]; omega
theorem stsN_len : ∀ l : List St, l.length * 3 ≤ stsN l
  | [] => Nat.le_refl _
  | x :: l => by have := stsN_len l; have := stN_pos x; simp only [stsN, List.length_cons]; omega
theorem exsN_app : ∀ (l m : List Ex), exsN (l ++ m) = exsN l + exsN m
  | [], m => by simp [exsN]
  | x :: l, m => by have := exsN_app l m; simp only [List.cons_append, exsN, this]; omega
theorem stsN_app : ∀ (l m : List St), stsN (l ++ m) = stsN l + stsN m
  | [], m => by simp [stsN]
  | x :: l, m => by have := stsN_app l m; simp only [List.cons_append, stsN, this]; omega
@[simp] theorem fail_err (c : Int) (b : Bool) (d : Int) : JE.fail (.error c) b d = .error c := rfl
@[simp] theorem one_err (c d : Int) : JE.one (.error c) d = .error c := rfl
@[simp] theorem named_err (c nv v : Int) (is : Bool) : JE.named (.error c) nv v is = .error c := rfl
@[simp] theorem fail_false (e : JE) (d : Int) : JE.fail e false d = e := by cases e <;> rfl
@[simp] theorem exHead_err (nv deep op v n : Int) (k : Nat) (c : Int) : exHead nv deep op v n k (.error c) = .error c := rfl
@[simp] theorem stHead_err (nv deep op v : Int) (e f : Ex) (kb ke : Nat) (c : Int) : stHead nv deep op v e f kb ke (.error c) = .error c := rfl
theorem exsE_err' (nv c : Int) : ∀ (l : List Ex), (∀ x ∈ l, ∀ deep, exE nv deep x (.error c) = .error c) → ∀ deep, exsE nv deep l (.error c) = .error c
  | [], _, _ => rfl
  | x :: l, h, deep => by rw [exsE, h x (by simp)]; exact exsE_err' nv c l (fun y hy => h y (by simp [hy])) deep
@[simp] theorem exE_err (nv c : Int) (x : Ex) : ∀ deep, exE nv deep x (.error c) = .error c := by
  refine Ex.ind (P := fun x => ∀ deep, exE nv deep x (.error c) = .error c) ?_ x
  intro op v n l ih deep
  rw [exE, exHead_err]
  exact exsE_err' nv c l ih _
@[simp] theorem exsE_err (nv c : Int) (l : List Ex) (deep : Int) : exsE nv deep l (.error c) = .error c := exsE_err' nv c l (fun x _ => exE_err nv c x) deep
@[simp] theorem stEF_err (nv deep op : Int) (e f : Ex) (c : Int) : stEF nv deep op e f (.error c) = .error c := by simp [stEF]
theorem stsE_err' (nv c : Int) : ∀ (l : List St), (∀ x ∈ l, ∀ deep, stE nv deep x (.error c) = .error c) → ∀ deep, stsE nv deep l (.error c) = .error c
  | [], _, _ => rfl
  | x :: l, h, deep => by rw [stsE, h x (by simp)]; exact stsE_err' nv c l (fun y hy => h y (by simp [hy])) deep
@[simp] theorem stE_err (nv c : Int) (x : St) : ∀ deep, stE nv deep x (.error c) = .error c := by
  refine St.ind (P := fun x => ∀ deep, stE nv deep x (.error c) = .error c) ?_ x
  intro op v e f body els ih jh deep
  rw [stE, stHead_err, stEF_err, stsE_err' nv c body ih, stsE_err' nv c els jh]
@[simp] theorem stsE_err (nv c : Int) (l : List St) (deep : Int) : stsE nv deep l (.error c) = .error c := stsE_err' nv c l (fun x _ => stE_err nv c x) deep
theorem exsE_app (nv deep : Int) : ∀ (l m : List Ex) (s : JE), exsE nv deep (l ++ m) s = exsE nv deep m (exsE nv deep l s)
  | [], _, _ => rfl
  | x :: l, m, s => by rw [List.cons_append, exsE, exsE, exsE_app nv deep l m]
theorem stsE_app (nv deep : Int) : ∀ (l m : List St) (s : JE), stsE nv deep (l ++ m) s = stsE nv deep m (stsE nv deep l s)
  | [], _, _ => rfl
  | x :: l, m, s => by rw [List.cons_append, stsE, stsE, stsE_app nv deep l m]
theorem exsE_snoc (nv deep : Int) (l : List Ex) (k : Nat) (x : Ex) (s : JE) (h : l[k]? = some x) : exsE nv deep (l.take (k + 1)) s = exE nv deep x (exsE nv deep (l.take k) s) := by
  rw [List.take_add_one, h]; simp [exsE_app, exsE]
theorem stsE_snoc (nv deep : Int) (l : List St) (k : Nat) (x : St) (s : JE) (h : l[k]? = some x) : stsE nv deep (l.take (k + 1)) s = stE nv deep x (stsE nv deep (l.take k) s) := by
  rw [List.take_add_one, h]; simp [stsE_app, stsE]
theorem sizes_take (l : List Va) (k : Nat) (x : Va) (h : l[k]? = some x) : sizes (l.take (k + 1)) = sizes (l.take k) + x.size := by
  rw [List.take_add_one, h]; simp [sizes, List.sum_append]
end Go.Proofs.YtmnmcjdgnpgchaaGreat

namespace Go.Proofs.YtmnmcjdgnpgchaaGreat
open Go X
structure Down (F : Int → JE → JE) : Prop where
  err : ∀ d c, F d (.error c) = .error c
  ok : ∀ d a b, 0 ≤ a → F d (.ok a) = .ok b → 0 ≤ b ∧ b ≤ a ∧ ∀ d' a', d' ≤ d → a ≤ a' → F d' (.ok a') = .ok (a' - a + b)
  nz : ∀ d a c, F d (.ok a) = .error c → c ≠ 0
theorem Down.id : Down fun _ e => e := ⟨fun _ _ => rfl, fun d a b h e => by
  simp only [Except.ok.injEq] at e; subst e
  exact ⟨h, Int.le_refl _, fun d' a' _ _ => by simp⟩, fun _ _ _ e => by cases e⟩
theorem Down.comp {F G : Int → JE → JE} (hF : Down F) (hG : Down G) : Down fun d e => G d (F d e) := by
  refine ⟨fun d c => by rw [hF.err, hG.err], fun d a b h e => ?_, fun d a c e => ?_⟩
  · cases hf : F d (.ok a) with
    | error c => rw [hf, hG.err] at e; cases e
    | ok m =>
      rw [hf] at e
      obtain ⟨h1, h2, h3⟩ := hF.ok d a m h hf
      obtain ⟨g1, g2, g3⟩ := hG.ok d m b h1 e
      refine ⟨g1, by omega, fun d' a' hd ha => ?_⟩
      rw [h3 d' a' hd ha, g3 d' _ hd (by omega)]
      congr 1; omega
  · cases hf : F d (.ok a) with
    | error c' => rw [hf, hG.err] at e; simp only [Except.error.injEq] at e; subst e; exact hF.nz _ _ _ hf
    | ok m => rw [hf] at e; exact hG.nz _ _ _ e
theorem Down.shift {F : Int → JE → JE} (hF : Down F) : Down fun d e => F (d + 1) e :=
  ⟨fun d c => hF.err _ _, fun d a b h e => by
    obtain ⟨h1, h2, h3⟩ := hF.ok _ _ _ h e
    exact ⟨h1, h2, fun d' a' hd ha => h3 _ _ (by omega) ha⟩, fun d a c e => hF.nz _ _ _ e⟩
theorem Down.fail (b : Bool) {c : Int} (hc : c ≠ 0) : Down fun _ e => JE.fail e b c := by
  cases b with
  | false => simpa using Down.id
  | true => exact ⟨fun _ _ => rfl, fun d a b h e => by simp [JE.fail] at e, fun d a c' e => by simp [JE.fail] at e; subst e; exact hc⟩
theorem Down.one : Down fun d e => JE.one e d := by
  refine ⟨fun _ _ => rfl, fun d a b h e => ?_, fun d a c e => ?_⟩
  · simp only [JE.one] at e
    split at e
    · cases e
    · split at e
      · cases e
      · simp only [Except.ok.injEq] at e
        subst e
        refine ⟨by omega, by omega, fun d' a' hd ha => ?_⟩
        simp only [JE.one]
        rw [if_neg (by omega), if_neg (by omega)]
        congr 1; omega
  · simp only [JE.one] at e
    split at e
    · simp only [Except.error.injEq] at e; omega
    · split at e
      · simp only [Except.error.injEq] at e; omega
      · cases e
theorem Down.named (nv v : Int) (is : Bool) : Down fun _ e => JE.named e nv v is := (Down.fail _ (by decide)).comp (Down.fail _ (by decide))
theorem Down.exHead (nv op v n : Int) (k : Nat) : Down fun d e => exHead nv d op v n k e := ((Down.one.comp (Down.fail _ (by decide))).comp (Down.fail _ (by decide))).comp (Down.named _ _ _)
theorem Down.exsE' (nv : Int) : ∀ (l : List Ex), (∀ x ∈ l, Down fun d e => exE nv d x e) → Down fun d e => exsE nv d l e
  | [], _ => by simpa [Go.Proofs.YtmnmcjdgnpgchaaGreat.exsE] using Down.id
  | x :: l, h => by
    have := (h x (by simp)).comp (Down.exsE' nv l (fun y hy => h y (by simp [hy])))
    simpa [Go.Proofs.YtmnmcjdgnpgchaaGreat.exsE] using this
theorem Down.exE (nv : Int) (x : Ex) : Down fun d e => exE nv d x e := by
  refine Ex.ind (P := fun x => Down fun d e => Go.Proofs.YtmnmcjdgnpgchaaGreat.exE nv d x e) ?_ x
  intro op v n l ih
  have := (Down.exHead nv op v n l.length).comp (Down.exsE' nv l ih).shift
  simpa [Go.Proofs.YtmnmcjdgnpgchaaGreat.exE] using this
theorem Down.exsE (nv : Int) (l : List Ex) : Down fun d e => Go.Proofs.YtmnmcjdgnpgchaaGreat.exsE nv d l e := Down.exsE' nv l (fun x _ => Down.exE nv x)
theorem Down.stEF (nv op : Int) (e f : Ex) : Down fun d s => stEF nv d op e f s := by
  unfold Go.Proofs.YtmnmcjdgnpgchaaGreat.stEF
  by_cases h1 : needE op = true <;> by_cases h2 : needF op = true <;> simp only [h1, h2]
  · exact (Down.exE nv e).comp (Down.exE nv f)
  · exact Down.exE nv e
  · exact Down.exE nv f
  · exact Down.id
theorem Down.stHead (nv op v : Int) (e f : Ex) (kb ke : Nat) : Down fun d s => stHead nv d op v e f kb ke s := ((Down.one.comp (Down.fail _ (by decide))).comp (Down.fail _ (by decide))).comp (Down.named _ _ _)
theorem Down.stsE' (nv : Int) : ∀ (l : List St), (∀ x ∈ l, Down fun d e => stE nv d x e) → Down fun d e => stsE nv d l e
  | [], _ => by simpa [Go.Proofs.YtmnmcjdgnpgchaaGreat.stsE] using Down.id
  | x :: l, h => by
    have := (h x (by simp)).comp (Down.stsE' nv l (fun y hy => h y (by simp [hy])))
    simpa [Go.Proofs.YtmnmcjdgnpgchaaGreat.stsE] using this
theorem Down.stE (nv : Int) (x : St) : Down fun d e => stE nv d x e := by
  refine St.ind (P := fun x => Down fun d e => Go.Proofs.YtmnmcjdgnpgchaaGreat.stE nv d x e) ?_ x
  intro op v e f body els ih jh
  have := (((Down.stHead nv op v e f body.length els.length).comp (Down.stEF nv op e f).shift).comp (Down.stsE' nv body ih).shift).comp (Down.stsE' nv els jh).shift
  simpa [Go.Proofs.YtmnmcjdgnpgchaaGreat.stE] using this
theorem Down.stsE (nv : Int) (l : List St) : Down fun d e => stsE nv d l e := Down.stsE' nv l (fun x _ => Down.stE nv x)
theorem sts_mem {nv : Int} : ∀ {l : List St} {x : St} (_ : x ∈ l) {d a b : Int}, 0 ≤ a → Go.Proofs.YtmnmcjdgnpgchaaGreat.stsE nv d l (.ok a) = .ok b → ∃ a1 b1, 0 ≤ a1 ∧ a1 ≤ a ∧ Go.Proofs.YtmnmcjdgnpgchaaGreat.stE nv d x (.ok a1) = .ok b1
  | y :: l, x, hm, d, a, b, h0, e => by
    rw [Go.Proofs.YtmnmcjdgnpgchaaGreat.stsE] at e
    cases hx : Go.Proofs.YtmnmcjdgnpgchaaGreat.stE nv d y (.ok a) with
    | error c => rw [hx, stsE_err] at e; cases e
    | ok m =>
      rw [hx] at e
      obtain ⟨h1, h2, -⟩ := (Down.stE nv y).ok d a m h0 hx
      simp only [List.mem_cons] at hm
      rcases hm with rfl | hm
      · exact ⟨a, m, h0, Int.le_refl _, hx⟩
      · obtain ⟨a1, b1, k1, k2, k3⟩ := sts_mem hm h1 e
        exact ⟨a1, b1, k1, by omega, k3⟩
theorem code_zero {e : JE} (hn : ∀ c, e = .error c → c ≠ 0) (h : e.code = 0) : ∃ b, e = .ok b := by
  cases e with
  | ok b => exact ⟨b, rfl⟩
  | error c => exact absurd h (hn c rfl)
theorem check_ok {p : Pr} (h : checkP p = 0) : checkVars p.vars = 0 ∧ ∃ b, Go.Proofs.YtmnmcjdgnpgchaaGreat.stsE p.vars.length 0 p.body (.ok 150) = .ok b := by
  unfold checkP at h
  split at h
  · exact absurd h (by assumption)
  · rename_i hv
    exact ⟨by simpa using hv, code_zero (fun c hc => (Down.stsE _ p.body).nz _ _ _ hc) h⟩
theorem sizes_cons (x : Va) (l : List Va) : sizes (x :: l) = x.size + sizes l := by simp [sizes]
theorem sizes_app (l m : List Va) : sizes (l ++ m) = sizes l + sizes m := by simp [sizes, List.sum_append]
theorem vars_ok : ∀ (l seen : List Va) (n : Int), n ≤ 48 → varsGo seen n l = 0 → (∀ x ∈ l, 1 ≤ x.size) ∧ n + sizes l ≤ 48
  | [], _, n, hn, _ => by simp [sizes]; exact hn
  | x :: l, seen, n, hn, h => by
    rw [varsGo] at h
    split at h
    · cases h
    · split at h
      · cases h
      · split at h
        · cases h
        · obtain ⟨h1, h2⟩ := vars_ok l _ _ (by omega) h
          refine ⟨fun y hy => ?_, by rw [sizes_cons]; omega⟩
          simp only [List.mem_cons] at hy
          rcases hy with rfl | hy
          · omega
          · exact h1 y hy
theorem check_sizes {l : List Va} (h : checkVars l = 0) : l.length ≤ 8 ∧ (∀ x ∈ l, 1 ≤ x.size) ∧ sizes l ≤ 48 := by
  unfold checkVars at h
  split at h
  · cases h
  · obtain ⟨h1, h2⟩ := vars_ok l [] 0 (by decide) h
    exact ⟨by omega, h1, by omega⟩
theorem sizes_nonneg : ∀ {l : List Va}, (∀ x ∈ l, 1 ≤ x.size) → 0 ≤ sizes l
  | [], _ => Int.le_refl _
  | x :: l, h => by have := sizes_nonneg (l := l) (fun y hy => h y (by simp [hy])); have := h x (by simp); rw [sizes_cons]; omega
theorem cells_le {l : List Va} (h : ∀ x ∈ l, 1 ≤ x.size) (v : Nat) : 0 ≤ sizes (l.take v) ∧ sizes (l.take v) ≤ sizes l := by
  refine ⟨sizes_nonneg (fun y hy => h y (List.mem_of_mem_take hy)), ?_⟩
  have h1 : sizes l = sizes (l.take v) + sizes (l.drop v) := by rw [← sizes_app, List.take_append_drop]
  have := sizes_nonneg (l := l.drop v) (fun y hy => h y (List.mem_of_mem_drop hy))
  omega
end Go.Proofs.YtmnmcjdgnpgchaaGreat

