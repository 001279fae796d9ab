/- The reference's Vault. -/
import Derived.Test.YtplobdiknobhoaaSr
namespace Go.Proofs.Ytplobdiknobhoaa
open Go X
set_option maxHeartbeats 1000000
structure VS where
  gen : Int
  pages : List (List Int)
  waits : Bool
  next : List (List Int)
def pgsOk (P : List (List Int)) : Prop := P.length = 14 ∧ ∀ w ∈ P, w.length = 8
namespace VS
def ok (v : VS) : Prop := pgsOk v.pages ∧ pgsOk v.next
def cells (v : VS) : List Value := i64 v.gen :: (ints v.pages.flatten ++ (.bool v.waits :: ints v.next.flatten))
end VS
def Vault (b : Nat) (v : VS) : HP := fun m => blk b v.cells 50 m ∧ v.ok
theorem Vault.opn {b : Nat} {v : VS} : ∀ m, Vault b v m → ∃ _ : Unit, v.ok ∧ Sat [blk b (i64 v.gen :: (ints v.pages.flatten ++ (.bool v.waits :: ints v.next.flatten))) 50] m := fun m h => ⟨(), h.2, sat1' h.1⟩
theorem Vault.mk {b : Nat} {v : VS} {cs : List Value} (hv : v.ok) (e : cs = v.cells) : ∀ m, Sat [blk b cs 50] m → Vault b v m := fun m h => ⟨by subst e; exact of_sat1' h, hv⟩
theorem pgs_len {P : List (List Int)} (h : pgsOk P) : (ints P.flatten).length = 112 := by
  rw [ints_len, flatten_len h.2, h.1]
theorem vlen {g bw : Value} {A B : List Value} (h : A.length = 112) (h' : B.length = 112) : (g :: (A ++ bw :: B)).length = 226 := by simp only [List.length_cons, List.length_append, h, h']
theorem vput1 {g bw : Value} {A A' B : List Value} (h : A.length = 112) (h' : A'.length = 112) : splice (g :: (A ++ bw :: B)) 1 A' = g :: (A' ++ bw :: B) := by
  unfold splice
  rw [List.take_succ_cons, List.take_zero, h', List.drop_succ_cons, List.drop_left' h]; rfl
theorem vput113 {g bw x : Value} {A B : List Value} (h : A.length = 112) : splice (g :: (A ++ bw :: B)) 113 [x] = g :: (A ++ x :: B) := by
  unfold splice
  rw [List.take_succ_cons, List.take_left' h, List.length_singleton, List.drop_succ_cons]
  have : (A ++ bw :: B).drop 113 = B := by rw [show (113 : Nat) = A.length + 1 by rw [h], ← List.drop_drop, List.drop_left]; rfl
  rw [this]; simp
theorem vput114 {g bw : Value} {A B B' : List Value} (h : A.length = 112) (hb : B.length = 112) (hb' : B'.length = 112) : splice (g :: (A ++ bw :: B)) 114 B' = g :: (A ++ bw :: B') := by
  unfold splice
  rw [List.take_succ_cons, hb', List.drop_succ_cons]
  have h1 : (A ++ bw :: B).take 113 = A ++ [bw] := by
    rw [show A ++ bw :: B = (A ++ [bw]) ++ B by simp, List.take_left' (by simp [h])]
  have h2 : (A ++ bw :: B).drop (113 + 112) = [] := List.drop_of_length_le (by simp [h, hb])
  rw [h1, h2]; simp
theorem vget113 {g bw : Value} {A B : List Value} (h : A.length = 112) : (g :: (A ++ bw :: B))[113]? = some bw := by
  show (A ++ bw :: B)[112]? = _
  rw [List.getElem?_append_right (by omega)]; simp [h]
theorem vtk1 {g bw : Value} {A B : List Value} (h : A.length = 112) : ((g :: (A ++ bw :: B)).drop 1).take 112 = A := by
  rw [List.drop_succ_cons, List.drop_zero, List.take_left' h]
theorem vtk114 {g bw : Value} {A B : List Value} (h : A.length = 112) (hb : B.length = 112) : ((g :: (A ++ bw :: B)).drop 114).take 112 = B := by
  rw [List.drop_succ_cons, show (113 : Nat) = A.length + 1 by rw [h], ← List.drop_drop, List.drop_left, List.drop_succ_cons, List.drop_zero, List.take_of_length_le (by omega)]
theorem flat_set {α : Type} {s : Nat} : ∀ (rows : List (List α)), (∀ r ∈ rows, r.length = s) → ∀ (n : Nat), n < rows.length → ∀ (r : List α), r.length = s → rows.flatten.take (n * s) ++ (r ++ rows.flatten.drop (n * s + s)) = (rows.set n r).flatten
  | [], _, n, hn, _, _ => by simp at hn
  | x :: rows, h, 0, _, r, hr => by
    have hx := h x (by simp)
    simp only [Nat.zero_mul, List.take_zero, List.nil_append, Nat.zero_add, List.flatten_cons, List.set_cons_zero]
    rw [List.drop_left' hx]
  | x :: rows, h, n + 1, hn, r, hr => by
    have hx := h x (by simp)
    have ih := flat_set rows (fun r' h' => h r' (List.mem_cons_of_mem _ h')) n (by simpa using hn) r hr
    simp only [List.flatten_cons, List.set_cons_succ]
    rw [← ih, show (n + 1) * s = x.length + n * s by rw [Nat.succ_mul, hx]; omega, List.take_length_add_append, show x.length + n * s + s = x.length + (n * s + s) by omega, List.drop_length_add_append]
    simp
theorem ints_splice (X w : List Int) (o : Nat) : splice (ints X) o (ints w) = ints (X.take o ++ (w ++ X.drop (o + w.length))) := by simp [splice, List.map_take, List.map_drop]
theorem pgs_put {P : List (List Int)} (h : pgsOk P) {n : Nat} (hn : n < 14) {w : List Int} (hw : w.length = 8) : splice (ints P.flatten) (n * 8) (ints w) = ints (P.set n w).flatten := by
  rw [ints_splice, hw, flat_set P h.2 n (by rw [h.1]; exact hn) w hw]
theorem pgs_set {P : List (List Int)} (h : pgsOk P) (n : Nat) {w : List Int} (hw : w.length = 8) : pgsOk (P.set n w) := by
  refine ⟨by rw [List.length_set, h.1], fun x hx => ?_⟩
  rcases List.mem_or_eq_of_mem_set hx with h1 | h1
  · exact h.2 x h1
  · rw [h1]; exact hw
def newPg (P : List (List Int)) (l : List PageS) : Nat → List (List Int)
  | 0 => P
  | k + 1 => (newPg P l k).set (l.getD k ⟨0, []⟩).n.toNat (l.getD k ⟨0, []⟩).w
theorem newPg_ok {P : List (List Int)} {l : List PageS} (h : pgsOk P) (hw : ∀ x ∈ l, x.w.length = 8) : ∀ k, k ≤ l.length → pgsOk (newPg P l k)
  | 0, _ => h
  | k + 1, hk => by
    rw [newPg]
    refine pgs_set (newPg_ok h hw k (by omega)) _ ?_
    rw [List.getD_eq_getElem?_getD, List.getElem?_eq_getElem (by omega)]
    exact hw _ (List.getElem_mem _)
theorem psl_w8 {σ : PH} {sl : Value} {l : List PageS} (hl : PSl 9 rPage σ sl l) : ∀ x ∈ l, x.w.length = 8 := fun x hx => by
  obtain ⟨p, c, rows, -, -, -, h4, -, h6, -⟩ := hl
  obtain ⟨i, hi, e⟩ := List.mem_iff_getElem.1 hx
  exact (h6 i rows[i] x (List.getElem?_eq_getElem (by omega)) (by rw [List.getElem?_eq_getElem hi, e])).2
theorem vcommit_no (σ : PH) (b : Nat) (sl : Value) (l : List PageS) (D : Int) (hl : PSl 9 rPage σ sl l) (hc : checkS l ≠ 0) :
    CallsA Try.prog 34 #[ptr b, sl, i64 D] σ [] (RetA fun v σ' Γ' => v = .tuple #[.bool false, i64 (checkS l)] ∧ σ = σ' ∧ Γ' = []) := by
  refine enterA3 Try.func34 rfl rfl rfl ?_
  refine XA.seq ?_
  refine XA.region ?_
  refine XOA.rd rfl Rd.asg ?_
  refine XOA.rd rfl Rd.asg ?_
  refine XOA.nil ?_
  refine DA.thn_normal ?_
  refine XA.seq ?_
  refine XA.seq ?_
  refine XA.region ?_
  refine XOA.rd rfl Rd.mv ?_
  refine XOA.wr0 rfl (WrA.cE (rfault_a σ sl l hl) rfl) ?_
  rintro _ _ _ ⟨_, ⟨rfl, rfl, rfl⟩, rfl⟩
  refine XOA.cl ?_
  refine XOA.rd rfl Rd.asg ?_
  refine XOA.nil ?_
  refine DA.thn_normal ?_
  refine XA.seq ?_
  refine XA.region ?_
  refine XOA.rd rfl Rd.mv ?_
  refine XOA.rd rfl (Rd.neq rfl rfl) ?_
  refine XOA.nil ?_
  refine DA.thn_normal ?_
  refine XA.condT rfl (decide_eq_true hc) ?_
  refine XA.seq ?_
  refine XA.region ?_
  refine XOA.rd rfl Rd.mv ?_
  refine XOA.rd rfl Rd.asg ?_
  refine XOA.rd rfl Rd.asg ?_
  refine XOA.nil ?_
  refine DA.thn_normal ?_
  refine XA.ret ?_
  refine DA.thn_ret ?_
  exact bodyA.ret (ResA.two rfl rfl rfl) (by (repeat (first | exact Ent.nil _ | (apply Ent.sel; focus (first | ((repeat (first | with_reducible exact Sel.head | apply Sel.tail)); done) | ((repeat (first | exact Sel.head | apply Sel.tail)); done))) | apply Ent.selNil | apply Ent.selEmp)); (first | done | fail)) ⟨rfl, rfl, rfl⟩
def vdone (v : VS) (l : List PageS) : VS := { v with gen := v.gen + 1, pages := newPg v.pages l l.length }
def vpart (v : VS) (l : List PageS) (D : Int) : VS := { v with waits := decide (D = l.length + 4), next := newPg v.pages l l.length }
theorem vcommit_yes (σ : PH) (b : Nat) (v : VS) (sl : Value) (l : List PageS) (D : Int) (hl : PSl 9 rPage σ sl l) (hc : checkS l = 0) (h30 : l.length ≤ 30) (hg0 : 0 ≤ v.gen) (hg1 : v.gen < 4611686018427387904) :
    CallsA Try.prog 34 #[ptr b, sl, i64 D] σ [Vault b v] (RetA fun r σ' Γ' => r = .tuple #[.bool (decide (D < 0 ∨ (l.length : Int) + 4 < D)), i64 0] ∧ σ = σ' ∧ Γ' = [Vault b (if D < 0 ∨ (l.length : Int) + 4 < D then vdone v l else vpart v l D)]) := by
  obtain ⟨hn, -, hl14⟩ := check_zero hc
  have hw8 := psl_w8 hl
  obtain ⟨pl, cl, rfl, hle, hmx⟩ := hl.shape
  refine enterA3 Try.func34 rfl rfl rfl ?_
  refine XA.seq ?_
  refine XA.region ?_
  refine XOA.rd rfl Rd.asg ?_
  refine XOA.rd rfl Rd.asg ?_
  refine XOA.nil ?_
  refine DA.thn_normal ?_
  refine XA.seq ?_
  refine XA.seq ?_
  refine XA.region ?_
  refine XOA.rd rfl Rd.mv ?_
  refine XOA.wr0 rfl (WrA.cE (rfault_a σ _ l hl) rfl) ?_
  rintro _ _ _ ⟨_, ⟨rfl, rfl, rfl⟩, rfl⟩
  refine XOA.cl ?_
  rw [hc]
  refine XOA.rd rfl Rd.asg ?_
  refine XOA.nil ?_
  refine DA.thn_normal ?_
  refine XA.seq ?_
  refine XA.region ?_
  refine XOA.rd rfl Rd.mv ?_
  refine XOA.rd rfl (Rd.neq rfl rfl) ?_
  refine XOA.nil ?_
  refine DA.thn_normal ?_
  refine XA.condF rfl rfl ?_
  refine XA.skip ?_
  refine DA.thn_normal ?_
  refine XA.seq ?_
  refine XA.region ?_
  refine XOA.rd rfl Rd.mv ?_
  first | refine XA.opn (R := Vault b v) (by ((repeat (first | with_reducible exact Sel.head | apply Sel.tail)); (first | done | fail))) (Vault.opn) ?_ | refine XOA.opn (R := Vault b v) (by ((repeat (first | with_reducible exact Sel.head | apply Sel.tail)); (first | done | fail))) (Vault.opn) ?_ | refine DA.opn (R := Vault b v) (by ((repeat (first | with_reducible exact Sel.head | apply Sel.tail)); (first | done | fail))) (Vault.opn) ?_
  rintro ⟨⟩ hok
  first | refine XA.cl ?_ | refine XOA.cl ?_ | refine DA.cl ?_
  have hpl := pgs_len hok.1
  have hnl := pgs_len hok.2
  have ht1 := vtk1 (g := i64 v.gen) (bw := .bool v.waits) (B := ints v.next.flatten) hpl
  have honeP : ones (ints v.pages.flatten) := ones_ints _
  have hspl2 : splice ty48.zero 0 (ints v.pages.flatten) = ints v.pages.flatten := splice_all (by rw [hpl]; decide)
  refine XOA.rd rfl (Rd.nilCheck rfl) ?_
  refine XOA.rd rfl (Rd.fA rfl) ?_
  refine XOA.rd rfl (Rd.ldA rfl) ?_
  refine XOA.wr0 rfl (WrA.alloc (tyrow rfl)) ?_
  rintro _ _ _ ⟨g9, rfl, rfl, rfl⟩
  refine XOA.wr0 rfl (WrA.st (tyrow rfl) rfl) ?_
  rintro _ _ _ ⟨rfl, rfl, rfl⟩
  refine XOA.nil ?_
  refine DA.thn_normal ?_
  refine XA.seq ?_
  refine XA.seq ?_
  refine XA.region ?_
  refine XOA.rd rfl Rd.asg ?_
  refine XOA.nil ?_
  refine DA.thn_normal ?_
  refine XA.block ?_
  refine XA.gen [(0, _), (1, _), (2, _), (6, _), (7, _), (9, _), (10, _)] ⟨(by with_reducible (conv => lhs; whnf)), (by with_reducible (conv => lhs; whnf)), (by with_reducible (conv => lhs; whnf)), (by with_reducible (conv => lhs; whnf)), (by with_reducible (conv => lhs; whnf)), (by with_reducible (conv => lhs; whnf)), (by with_reducible (conv => lhs; whnf)), trivial⟩ (fun δ => ?_)
  dsimp only [List.foldl]
  refine XA.loop [(10, 10), (21, 37)] (fun k : Nat => [(10, i64 k)]) (fun k σ' Γ' => σ = σ' ∧ k ≤ l.length ∧ Γ' = [blk g9 (ints (newPg v.pages l k).flatten) 48, blk b (i64 v.gen :: (ints v.pages.flatten ++ (.bool v.waits :: ints v.next.flatten))) 50]) (fun k => l.length - k) 0 (by exact ⟨rfl, trivial⟩) (Δ0 := _) ?_ (⟨rfl, Nat.zero_le _, rfl⟩) ?_
  · exact (by (repeat (first | exact Ent.nil _ | (apply Ent.sel; focus (first | ((repeat (first | with_reducible exact Sel.head | apply Sel.tail)); done) | ((repeat (first | exact Sel.head | apply Sel.tail)); done))) | apply Ent.selNil | apply Ent.selEmp)); (first | done | fail))
  rintro k δ _ _ ⟨rfl, hk, rfl⟩
  dsimp only [ovr, List.foldl]
  have hNk := newPg_ok hok.1 hw8 k hk
  refine XA.seq ?_
  refine XA.seq ?_
  refine XA.region ?_
  refine XOA.rd rfl Rd.mv ?_
  refine XOA.rd rfl Rd.mv ?_
  refine XOA.rd rfl (Rd.lenSlice (tyrow rfl) rfl rfl) ?_
  refine XOA.rd rfl (Rd.lss rfl rfl) ?_
  refine XOA.nil ?_
  refine DA.thn_normal ?_
  refine XA.condp rfl (fun hlt => ?_) (fun hlt => ?_)
  · have hlt : k < l.length := by omega
    obtain ⟨x, hx⟩ : ∃ x, l[k]? = some x := ⟨_, List.getElem?_eq_getElem hlt⟩
    have hxn := hn x (List.mem_of_getElem? hx)
    have hlx : l.getD k ⟨0, []⟩ = x := by rw [List.getD_eq_getElem?_getD, hx]; rfl
    have e1 : newPg v.pages l (k + 1) = (newPg v.pages l k).set x.n.toNat x.w := by rw [newPg, hlx]
    obtain ⟨g, o, row, rfl, ⟨rfl, hx8⟩, hrl, hrow⟩ := hl.at hx
    obtain ⟨xn, xw⟩ := x
    simp only at hx8 hxn e1
    obtain ⟨n, rfl⟩ : ∃ n : Nat, xn = n := Int.eq_ofNat_of_zero_le hxn.1
    rw [Int.toNat_natCast] at e1
    have r0 : PRow σ g (o + k * 9) [i64 (n : Int)] := hrow.sub (j := 0) rfl
    have r1 : PRow σ g (o + k * 9 + 1) (ints xw) := hrow.sub (j := 1) (take_eq (us := ints xw) rfl)
    have hspl := pgs_put hNk (n := n) (by omega) hx8
    have hNl := pgs_len hNk
    have hfit : n * 8 + ty32.size ≤ (ints (newPg v.pages l k).flatten).length := by rw [hNl]; show n * 8 + 8 ≤ 112; omega
    refine XA.skip ?_
    refine DA.thn_normal ?_
    refine XA.seq ?_
    refine XA.block ?_
    refine XA.draw (by kernel_rfl) _ _ [11] [(0, .pu), (1, .pu), (2, .pu), (3, .pu), (4, .rd), (5, .pu), (6, .pu), (7, .pu), (8, .pu), (9, .rd), (10, .pu), (11, .wr)] (by kernel_rfl) (PH.sub.refl _) (Ent.nil _) ?_
    refine XPA.pu rfl rfl Gd.free Rd.mv ?_
    refine XPA.pu rfl rfl Gd.free Rd.mv ?_
    refine XPA.pu rfl rfl Gd.free (Rd.ixS rfl rfl) ?_
    refine XPA.pu rfl rfl Gd.free (Rd.fA rfl) ?_
    refine XPA.rd rfl rfl Gd.free (Rd.ldC rfl (tyrow rfl) rfl) ?_
    refine XPA.pu rfl rfl Gd.free Rd.mv ?_
    refine XPA.pu rfl rfl Gd.free Rd.mv ?_
    refine XPA.pu rfl rfl Gd.free (Rd.ixS rfl rfl) ?_
    refine XPA.pu rfl rfl Gd.free (Rd.fA rfl) ?_
    refine XPA.rd rfl rfl Gd.free (Rd.ldA rfl) ?_
    refine XPA.pu rfl rfl Gd.free (Rd.ixA rfl rfl) ?_
    refine XPA.wrZ0 rfl rfl Gd.free (by kernel_rfl) (WrA.st (tyrow rfl) rfl) ?_
    rintro _ _ _ ⟨rfl, rfl, rfl⟩
    refine XPA.nil ?_
    refine DA.inb_normal ?_
    refine DA.thn_normal ?_
    refine XA.region ?_
    refine XOA.rd rfl Rd.mv ?_
    refine XOA.rd rfl (by first | exact Rd.adi rfl rfl | exact Rd.add rfl rfl) ?_
    refine XOA.rd rfl Rd.asg ?_
    refine XOA.nil ?_
    refine DA.thn_normal ?_
    refine ⟨(Keep.upd (Keep.upd (Keep.upd (Keep.updN (Keep.upd (Keep.upd (Keep.upd (Keep.upd (Keep.upd (Keep.upd (Keep.upd (Keep.upd (Keep.upd (Keep.upd (Keep.upd (Keep.upd (Keep.upd (Keep.upd (Keep.upd (Keep.upd (Keep.hav (Keep.hav (Keep.refl _ _) rfl) rfl) rfl) rfl) rfl) rfl) rfl) rfl) rfl) rfl) rfl) rfl) rfl) rfl) rfl) rfl) rfl) rfl)) rfl) rfl) rfl), k + 1, _, (by (repeat (first | exact trivial | refine ⟨rfl, ?_⟩ | refine ⟨Eq.trans rfl (congrArg Value.bool hmat.symm), ?_⟩)); (first | done | fail)), ?_, ⟨rfl, hlt, rfl⟩, (by omega)⟩
    · rw [e1]; exact (by (repeat (first | exact Ent.nil _ | (apply Ent.sel; focus (first | ((repeat (first | with_reducible exact Sel.head | apply Sel.tail)); done) | ((repeat (first | exact Sel.head | apply Sel.tail)); done))) | apply Ent.selNil | apply Ent.selEmp)); (first | done | fail))
  have hkn : k = l.length := by omega
  subst hkn
  obtain ⟨N, hN⟩ : ∃ N, N = newPg v.pages l l.length := ⟨_, rfl⟩
  have hNe : newPg v.pages l l.length = N := hN.symm
  have hNk0 := hNk
  clear hspl2
  rw [hNe] at hNk ⊢
  have hNl := pgs_len hNk
  have honeN : ones (ints N.flatten) := ones_ints _
  have htN : ((ints N.flatten).drop 0).take 112 = ints N.flatten := take_eq hNl
  by_cases hD0 : D < 0
  · rw [decide_eq_true (Or.inl hD0), if_pos (Or.inl hD0)]
    have hspl2 := vput1 (g := i64 (v.gen + 1)) (bw := .bool v.waits) (B := ints v.next.flatten) hpl hNl
    have hfit : 1 + ty48.size ≤ (i64 (v.gen + 1) :: (ints v.pages.flatten ++ (.bool v.waits :: ints v.next.flatten))).length := by rw [List.length_cons, List.length_append, hpl, List.length_cons, hnl]; decide
    refine XA.exit ?_
    refine DA.thn_exit ?_
    refine DA.thn_exit ?_
    refine DA.inb_same ?_
    refine DA.thn_normal ?_
    refine XA.seq ?_
    refine XA.region ?_
    refine XOA.rd rfl Rd.mv ?_
    refine XOA.rd rfl (Rd.lenSlice (tyrow rfl) rfl rfl) ?_
    refine XOA.rd rfl (by first | exact Rd.adi rfl rfl | exact Rd.add rfl rfl) ?_
    refine XOA.rd rfl (by first | exact Rd.adi rfl rfl | exact Rd.add rfl rfl) ?_
    refine XOA.rd rfl Rd.asg ?_
    refine XOA.nil ?_
    refine DA.thn_normal ?_
    refine XA.seq ?_
    refine XA.seq ?_
    refine XA.region ?_
    refine XOA.rd rfl Rd.mv ?_
    refine XOA.rd rfl (Rd.lss rfl rfl) ?_
    refine XOA.rd rfl Rd.mv ?_
    first | ((first | refine XOA.wanted rfl rfl ?_ | refine XOA.wq rfl rfl ?_); refine XOA.rd rfl Rd.mv ?_) | refine XOA.unwanted rfl rfl rfl rfl ?_ | refine XOA.uq rfl rfl rfl ?_ | refine XOA.unwantedU rfl rfl rfl ?_
    first | ((first | refine XOA.wanted rfl rfl ?_ | refine XOA.wq rfl rfl ?_); refine XOA.rd rfl Rd.mv ?_) | refine XOA.unwanted rfl rfl rfl rfl ?_ | refine XOA.uq rfl rfl rfl ?_ | refine XOA.unwantedU rfl rfl rfl ?_
    first | ((first | refine XOA.wanted rfl rfl ?_ | refine XOA.wq rfl rfl ?_); refine XOA.rd rfl (Rd.gtr rfl rfl) ?_) | refine XOA.unwanted rfl rfl rfl rfl ?_ | refine XOA.uq rfl rfl rfl ?_ | refine XOA.unwantedU rfl rfl rfl ?_
    refine XOA.rd rfl (by first | exact Rd.pT rfl | exact Rd.pF rfl | exact Rd.pP rfl) ?_
    refine XOA.nil ?_
    refine DA.thn_normal ?_
    refine XA.condT rfl rfl ?_
    refine XA.seq ?_
    refine XA.region ?_
    refine XOA.rd rfl Rd.mv ?_
    refine XOA.rd rfl (Rd.nilCheck rfl) ?_
    refine XOA.rd rfl (Rd.fA rfl) ?_
    refine XOA.rd rfl (Rd.ldC rfl (tyrow rfl) rfl) ?_
    refine XOA.rd rfl (by first | exact Rd.adi rfl rfl | exact Rd.add rfl rfl) ?_
    refine XOA.rd rfl (Rd.nilCheck rfl) ?_
    refine XOA.rd rfl (Rd.fA rfl) ?_
    refine XOA.wr0 rfl (WrA.st (tyrow rfl) rfl) ?_
    rintro _ _ _ ⟨rfl, rfl, rfl⟩
    refine XOA.nil ?_
    refine DA.thn_normal ?_
    refine XA.seq ?_
    refine XA.region ?_
    refine XOA.rd rfl Rd.mv ?_
    refine XOA.rd rfl (Rd.ldA rfl) ?_
    refine XOA.rd rfl (Rd.nilCheck rfl) ?_
    refine XOA.rd rfl (Rd.fA rfl) ?_
    refine XOA.wr0 rfl (WrA.st (tyrow rfl) rfl) ?_
    rintro _ _ _ ⟨rfl, rfl, rfl⟩
    refine XOA.nil ?_
    refine DA.thn_normal ?_
    refine XA.seq ?_
    refine XA.region ?_
    refine XOA.rd rfl Rd.asg ?_
    refine XOA.rd rfl Rd.asg ?_
    refine XOA.nil ?_
    refine DA.thn_normal ?_
    refine XA.ret ?_
    refine DA.thn_ret ?_
    exact bodyA.ret (ResA.two rfl rfl rfl) (Ent.fold1 (Θ := [blk b (i64 (v.gen + 1) :: (ints N.flatten ++ (.bool v.waits :: ints v.next.flatten))) 50]) (by (repeat (first | exact Ent.nil _ | (apply Ent.sel; focus (first | ((repeat (first | with_reducible exact Sel.head | apply Sel.tail)); done) | ((repeat (first | exact Sel.head | apply Sel.tail)); done))) | apply Ent.selNil | apply Ent.selEmp)); (first | done | fail)) (Vault.mk (v := vdone v l) ⟨hNk0, hok.2⟩ (by rw [hN]; rfl))) ⟨rfl, rfl, rfl⟩
  · 
    refine XA.exit ?_
    refine DA.thn_exit ?_
    refine DA.thn_exit ?_
    refine DA.inb_same ?_
    refine DA.thn_normal ?_
    refine XA.seq ?_
    refine XA.region ?_
    refine XOA.rd rfl Rd.mv ?_
    refine XOA.rd rfl (Rd.lenSlice (tyrow rfl) rfl rfl) ?_
    refine XOA.rd rfl (by first | exact Rd.adi rfl rfl | exact Rd.add rfl rfl) ?_
    refine XOA.rd rfl (by first | exact Rd.adi rfl rfl | exact Rd.add rfl rfl) ?_
    refine XOA.rd rfl Rd.asg ?_
    refine XOA.nil ?_
    refine DA.thn_normal ?_
    refine XA.seq ?_
    refine XA.seq ?_
    refine XA.region ?_
    refine XOA.rd rfl Rd.mv ?_
    refine XOA.rd rfl (Rd.lss rfl rfl) ?_
    refine XOA.rd rfl Rd.mv ?_
    first | ((first | refine XOA.wanted rfl rfl ?_ | refine XOA.wq rfl rfl ?_); refine XOA.rd rfl Rd.mv ?_) | refine XOA.unwanted rfl rfl rfl rfl ?_ | refine XOA.uq rfl rfl rfl ?_ | refine XOA.unwantedU rfl rfl rfl ?_
    first | ((first | refine XOA.wanted rfl rfl ?_ | refine XOA.wq rfl rfl ?_); refine XOA.rd rfl Rd.mv ?_) | refine XOA.unwanted rfl rfl rfl rfl ?_ | refine XOA.uq rfl rfl rfl ?_ | refine XOA.unwantedU rfl rfl rfl ?_
    first | ((first | refine XOA.wanted rfl rfl ?_ | refine XOA.wq rfl rfl ?_); refine XOA.rd rfl (Rd.gtr rfl rfl) ?_) | refine XOA.unwanted rfl rfl rfl rfl ?_ | refine XOA.uq rfl rfl rfl ?_ | refine XOA.unwantedU rfl rfl rfl ?_
    refine XOA.rd rfl (by first | exact Rd.pT rfl | exact Rd.pF rfl | exact Rd.pP rfl) ?_
    refine XOA.nil ?_
    refine DA.thn_normal ?_
    refine XA.condp rfl (fun hbig => ?_) (fun hbig => ?_)
    · rw [decide_eq_true (Or.inr (by omega)), if_pos (Or.inr (by omega))]
      have hspl2 := vput1 (g := i64 (v.gen + 1)) (bw := .bool v.waits) (B := ints v.next.flatten) hpl hNl
      have hfit : 1 + ty48.size ≤ (i64 (v.gen + 1) :: (ints v.pages.flatten ++ (.bool v.waits :: ints v.next.flatten))).length := by rw [List.length_cons, List.length_append, hpl, List.length_cons, hnl]; decide
      refine XA.seq ?_
      refine XA.region ?_
      refine XOA.rd rfl Rd.mv ?_
      refine XOA.rd rfl (Rd.nilCheck rfl) ?_
      refine XOA.rd rfl (Rd.fA rfl) ?_
      refine XOA.rd rfl (Rd.ldC rfl (tyrow rfl) rfl) ?_
      refine XOA.rd rfl (by first | exact Rd.adi rfl rfl | exact Rd.add rfl rfl) ?_
      refine XOA.rd rfl (Rd.nilCheck rfl) ?_
      refine XOA.rd rfl (Rd.fA rfl) ?_
      refine XOA.wr0 rfl (WrA.st (tyrow rfl) rfl) ?_
      rintro _ _ _ ⟨rfl, rfl, rfl⟩
      refine XOA.nil ?_
      refine DA.thn_normal ?_
      refine XA.seq ?_
      refine XA.region ?_
      refine XOA.rd rfl Rd.mv ?_
      refine XOA.rd rfl (Rd.ldA rfl) ?_
      refine XOA.rd rfl (Rd.nilCheck rfl) ?_
      refine XOA.rd rfl (Rd.fA rfl) ?_
      refine XOA.wr0 rfl (WrA.st (tyrow rfl) rfl) ?_
      rintro _ _ _ ⟨rfl, rfl, rfl⟩
      refine XOA.nil ?_
      refine DA.thn_normal ?_
      refine XA.seq ?_
      refine XA.region ?_
      refine XOA.rd rfl Rd.asg ?_
      refine XOA.rd rfl Rd.asg ?_
      refine XOA.nil ?_
      refine DA.thn_normal ?_
      refine XA.ret ?_
      refine DA.thn_ret ?_
      exact bodyA.ret (ResA.two rfl rfl rfl) (Ent.fold1 (Θ := [blk b (i64 (v.gen + 1) :: (ints N.flatten ++ (.bool v.waits :: ints v.next.flatten))) 50]) (by (repeat (first | exact Ent.nil _ | (apply Ent.sel; focus (first | ((repeat (first | with_reducible exact Sel.head | apply Sel.tail)); done) | ((repeat (first | exact Sel.head | apply Sel.tail)); done))) | apply Ent.selNil | apply Ent.selEmp)); (first | done | fail)) (Vault.mk (v := vdone v l) ⟨hNk0, hok.2⟩ (by rw [hN]; rfl))) ⟨rfl, rfl, rfl⟩
    have hno : ¬ (D < 0 ∨ (l.length : Int) + 4 < D) := by omega
    rw [decide_eq_false hno, if_neg hno]
    have hspl := fun x => vput113 (g := i64 v.gen) (bw := .bool v.waits) (x := x) (B := ints v.next.flatten) hpl
    have hspl2 := fun y => vput114 (g := i64 v.gen) (bw := .bool y) hpl hnl hNl
    have hfit : 113 + ty4.size ≤ (i64 v.gen :: (ints v.pages.flatten ++ (.bool v.waits :: ints v.next.flatten))).length := by rw [List.length_cons, List.length_append, hpl, List.length_cons, hnl]; decide
    have hfit2 : ∀ y, 114 + ty48.size ≤ (i64 v.gen :: (ints v.pages.flatten ++ (.bool y :: ints v.next.flatten))).length := fun y => by rw [List.length_cons, List.length_append, hpl, List.length_cons, hnl]; decide
    refine XA.skip ?_
    refine DA.thn_normal ?_
    refine XA.seq ?_
    refine XA.region ?_
    refine XOA.rd rfl Rd.mv ?_
    refine XOA.rd rfl Rd.mv ?_
    refine XOA.rd rfl Rd.mv ?_
    refine XOA.rd rfl (Rd.eql rfl rfl) ?_
    refine XOA.rd rfl (Rd.nilCheck rfl) ?_
    refine XOA.rd rfl (Rd.fA rfl) ?_
    refine XOA.wr0 rfl (WrA.st (tyrow rfl) rfl) ?_
    rintro _ _ _ ⟨rfl, rfl, rfl⟩
    refine XOA.nil ?_
    refine DA.thn_normal ?_
    refine XA.seq ?_
    refine XA.region ?_
    refine XOA.rd rfl Rd.mv ?_
    refine XOA.rd rfl (Rd.ldA rfl) ?_
    refine XOA.rd rfl (Rd.nilCheck rfl) ?_
    refine XOA.rd rfl (Rd.fA rfl) ?_
    refine XOA.wr0 rfl (WrA.st (tyrow rfl) rfl) ?_
    rintro _ _ _ ⟨rfl, rfl, rfl⟩
    refine XOA.nil ?_
    refine DA.thn_normal ?_
    refine XA.seq ?_
    refine XA.region ?_
    refine XOA.rd rfl Rd.asg ?_
    refine XOA.rd rfl Rd.asg ?_
    refine XOA.nil ?_
    refine DA.thn_normal ?_
    refine XA.ret ?_
    exact bodyA.ret (ResA.two rfl rfl rfl) (Ent.fold1 (by (repeat (first | exact Ent.nil _ | (apply Ent.sel; focus (first | ((repeat (first | with_reducible exact Sel.head | apply Sel.tail)); done) | ((repeat (first | exact Sel.head | apply Sel.tail)); done))) | apply Ent.selNil | apply Ent.selEmp)); (first | done | fail)) (Vault.mk (v := vpart v l D) ⟨hok.1, hNk0⟩ (by rw [hN]; rfl))) ⟨rfl, rfl, rfl⟩
end Go.Proofs.Ytplobdiknobhoaa
