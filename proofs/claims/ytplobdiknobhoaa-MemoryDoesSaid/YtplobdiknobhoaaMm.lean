/- Package memory. -/
import Derived.Test.YtplobdiknobhoaaSn
namespace Go.Proofs.Ytplobdiknobhoaa
open Go X
set_option maxHeartbeats 2000000
def bools (l : List Bool) : List Value := l.map Value.bool
def mcells (sb : Nat) (inn dt : List Bool) (pg : List (List Int)) : List Value := ptr sb :: (bools inn ++ (bools dt ++ ints pg.flatten))
theorem bools_len (l : List Bool) : (bools l).length = l.length := List.length_map _
theorem ones_bools : ∀ l : List Bool, ones (bools l)
  | [] => ones_lit rfl
  | _ :: l => ones_cons rfl (ones_bools l)
theorem splice_mid {A X R v : List Value} {o j : Nat} (hA : A.length = o) (h : j + v.length ≤ X.length) : splice (A ++ (X ++ R)) (o + j) v = A ++ (splice X j v ++ R) := by
  subst hA
  unfold splice
  rw [List.take_length_add_append, Nat.add_assoc, List.drop_length_add_append, List.take_append_of_le_length (by omega), List.drop_append_of_le_length (by omega)]
  simp
theorem get_mid {A X R : List Value} {o j : Nat} (hA : A.length = o) (h : j < X.length) : (A ++ (X ++ R))[o + j]? = X[j]? := by
  subst hA
  rw [List.getElem?_append_right (by omega), List.getElem?_append_left (by omega)]
  congr 1; omega
theorem take_mid {A X R : List Value} {o j n : Nat} (hA : A.length = o) (h : j + n ≤ X.length) : ((A ++ (X ++ R)).drop (o + j)).take n = (X.drop j).take n := by
  subst hA
  rw [List.drop_length_add_append, List.drop_append_of_le_length (by omega), List.take_append_of_le_length (by simp; omega)]
section
variable {sb : Nat} {inn dt : List Bool} {pg : List (List Int)}
theorem mc1 : mcells sb inn dt pg = [ptr sb] ++ (bools inn ++ (bools dt ++ ints pg.flatten)) := rfl
theorem mc2 : mcells sb inn dt pg = (ptr sb :: bools inn) ++ (bools dt ++ ints pg.flatten) := rfl
theorem mc3 : mcells sb inn dt pg = (ptr sb :: (bools inn ++ bools dt)) ++ (ints pg.flatten ++ []) := by simp [mcells]
theorem mc2_len (h : inn.length = 14) : (ptr sb :: bools inn).length = 15 := by simp [bools, h]
theorem mc3_len (h : inn.length = 14) (h' : dt.length = 14) : (ptr sb :: (bools inn ++ bools dt)).length = 29 := by simp [bools, h, h']
theorem mc_len (h : inn.length = 14) (h' : dt.length = 14) (hp : pgsOk pg) : (mcells sb inn dt pg).length = 141 := by
  have := pgs_len hp
  simp only [mcells, List.length_cons, List.length_append, bools_len, h, h', this]
theorem bools_get {l : List Bool} {k : Nat} (h : k < l.length) : (bools l)[k]? = some (.bool (l.getD k false)) := by
  simp [bools, List.getD_eq_getElem?_getD, List.getElem?_eq_getElem h]
theorem bools_put {l : List Bool} {k : Nat} (h : k < l.length) (x : Bool) : splice (bools l) k [.bool x] = bools (l.set k x) := by
  rw [splice_one _ _ _ (by rw [bools_len]; exact h)]; simp [bools, List.map_set]
theorem mc_in (h : inn.length = 14) {p : Nat} (hp : p < 14) : (mcells sb inn dt pg)[1 + p]? = some (.bool (inn.getD p false)) := by
  rw [mc1, get_mid (o := 1) rfl (by rw [bools_len]; omega), bools_get (by omega)]
theorem mc_dt (h : inn.length = 14) (h' : dt.length = 14) {p : Nat} (hp : p < 14) : (mcells sb inn dt pg)[15 + p]? = some (.bool (dt.getD p false)) := by
  rw [mc2, get_mid (mc2_len h) (by rw [bools_len]; omega), bools_get (by omega)]
theorem mc_dts (h : inn.length = 14) (h' : dt.length = 14) : ((mcells sb inn dt pg).drop 15).take 14 = bools dt := by
  have := take_mid (A := ptr sb :: bools inn) (X := bools dt) (R := ints pg.flatten) (o := 15) (j := 0) (n := 14) (mc2_len h) (by rw [bools_len]; omega)
  rw [mc2]
  refine this.trans ?_
  rw [List.drop_zero, List.take_of_length_le (by rw [bools_len]; omega)]
theorem mc_row (h : inn.length = 14) (h' : dt.length = 14) (hg : pgsOk pg) {p : Nat} (hp : p < 14) : ((mcells sb inn dt pg).drop (29 + p * 8)).take 8 = ints (pg.getD p DiskS.zeros) := by
  rw [mc3, take_mid (mc3_len h h') (by rw [pgs_len hg]; omega), pgs_at hg hp]
theorem mc_word (h : inn.length = 14) (h' : dt.length = 14) (hg : pgsOk pg) {p k : Nat} (hp : p < 14) (hk : k < 8) : (mcells sb inn dt pg)[29 + p * 8 + k]? = some (i64 ((pg.getD p DiskS.zeros).getD k 0)) := by
  have h1 := mc_row (sb := sb) h h' hg hp
  have h2 : (((mcells sb inn dt pg).drop (29 + p * 8)).take 8)[k]? = some (i64 ((pg.getD p DiskS.zeros).getD k 0)) := by
    rw [h1, ints_get (by rw [pgs_row8 hg hp]; exact hk)]
  rw [List.getElem?_take, if_pos hk, List.getElem?_drop] at h2
  exact h2
theorem put_in (h : inn.length = 14) {p : Nat} (hp : p < 14) (x : Bool) : splice (mcells sb inn dt pg) (1 + p) [.bool x] = mcells sb (inn.set p x) dt pg := by
  rw [mc1, splice_mid (o := 1) rfl (by rw [bools_len, List.length_singleton]; omega), bools_put (by omega)]; rfl
theorem put_dt (h : inn.length = 14) (h' : dt.length = 14) {p : Nat} (hp : p < 14) (x : Bool) : splice (mcells sb inn dt pg) (15 + p) [.bool x] = mcells sb inn (dt.set p x) pg := by
  rw [mc2, splice_mid (mc2_len h) (by rw [bools_len, List.length_singleton]; omega), bools_put (by omega)]; rfl
theorem put_dts {dt' : List Bool} (h : inn.length = 14) (h' : dt.length = 14) (h'' : dt'.length = 14) : splice (mcells sb inn dt pg) 15 (bools dt') = mcells sb inn dt' pg := by
  have := splice_mid (A := ptr sb :: bools inn) (X := bools dt) (R := ints pg.flatten) (o := 15) (j := 0) (v := bools dt') (mc2_len h) (by rw [bools_len, bools_len]; omega)
  rw [mc2]
  refine this.trans ?_
  rw [splice_all (by rw [bools_len, bools_len]; omega)]; rfl
theorem put_row (h : inn.length = 14) (h' : dt.length = 14) (hg : pgsOk pg) {p : Nat} (hp : p < 14) {w : List Int} (hw : w.length = 8) : splice (mcells sb inn dt pg) (29 + p * 8) (ints w) = mcells sb inn dt (pg.set p w) := by
  rw [mc3, splice_mid (mc3_len h h') (by rw [pgs_len hg, ints_len, hw]; omega), pgs_put hg hp hw, ← mc3]
theorem row_put {w : List Int} {k : Nat} (hk : k < w.length) (x : Int) : splice (ints w) k [i64 x] = ints (w.set k x) := ints_put hk x
theorem put_word (h : inn.length = 14) (h' : dt.length = 14) (hg : pgsOk pg) {p k : Nat} (hp : p < 14) (hk : k < 8) (x : Int) : splice (mcells sb inn dt pg) (29 + p * 8 + k) [i64 x] = mcells sb inn dt (pg.set p ((pg.getD p DiskS.zeros).set k x)) := by
  have hr := mc_row (sb := sb) h h' hg hp
  have hl := mc_len (sb := sb) h h' hg
  have h8 := pgs_row8 hg hp
  rw [← put_row h h' hg hp (w := (pg.getD p DiskS.zeros).set k x) (by rw [List.length_set, h8]), ← row_put (by omega), ← hr]
  generalize mcells sb inn dt pg = L at hl
  unfold splice
  have e8 : ((L.drop (29 + p * 8)).take 8).length = 8 := by simp [hl]; omega
  have l1 : (((L.drop (29 + p * 8)).take 8).take k ++ [i64 x] ++ ((L.drop (29 + p * 8)).take 8).drop (k + [i64 x].length)).length = 8 := by simp [hl]; omega
  rw [l1, List.length_singleton, List.take_take, Nat.min_eq_left (by omega), List.drop_take, List.drop_drop]
  rw [show L.take (29 + p * 8 + k) = L.take (29 + p * 8) ++ (L.drop (29 + p * 8)).take k from List.take_add]
  rw [show L.drop (29 + p * 8 + k + 1) = (L.drop (29 + p * 8 + (k + 1))).take (8 - (k + 1)) ++ L.drop (29 + p * 8 + 8) from by
    have := List.take_append_drop (8 - (k + 1)) (L.drop (29 + p * 8 + (k + 1)))
    rw [List.drop_drop, show 29 + p * 8 + (k + 1) + (8 - (k + 1)) = 29 + p * 8 + 8 by omega] at this
    exact this.symm]
  simp
end
/-- What a memory knows, over its store: C is its pages. -/
structure MOk (d : DiskS) (s : StS) (inn dt : List Bool) (pg C : List (List Int)) : Prop where
  li : inn.length = 14
  ld : dt.length = 14
  pp : pgsOk pg
  cc : pgsOk C
  val : ∀ p, p < 14 → C.getD p DiskS.zeros = if inn.getD p false = true then pg.getD p DiskS.zeros else pageW d s p
  dir : ∀ p, p < 14 → dt.getD p false = true → inn.getD p false = true
  old : ∀ p, p < 14 → dt.getD p false = false → C.getD p DiskS.zeros = pageW d s p
theorem quo8 {n : Nat} (h : n < 112) : IntKind.i64.wrap ((n : Int).tdiv 8) = ((n / 8 : Nat) : Int) := by
  rw [Int.tdiv_eq_ediv_of_nonneg (by omega), X.wrap64_in (by omega) (by omega)]; omega
theorem rem8 (n : Nat) : (n : Int).tmod 8 = ((n % 8 : Nat) : Int) := by
  rw [Int.tmod_eq_emod_of_nonneg (by omega)]; omega
theorem Rd.quoi {P : Program} {ρ : Env} {S : Heap → Prop} {x y : Operand} {T T' ty : TypeId} {kk : IntKind} {a b c : Int} (hx : ev ρ x = .int kk a) (hy : ev ρ y = .int kk b) (hb : b ≠ 0) (hc : kk.wrap (a.tdiv b) = c) : Rd P ρ S (.binOp .quo T x y T') ty (.int kk c) := hc ▸ Rd.quo hx hy hb
theorem page_no (σ : PH) (b : Nat) (at_ : Int) (h : ¬ (0 ≤ at_ ∧ at_ < 112)) : CallsA Try.prog 64 #[ptr b, i64 at_] σ [] (RetA fun v σ' Γ' => v = .tuple #[i64 0, .bool false] ∧ σ = σ' ∧ Γ' = []) := by
  by_cases h0 : at_ < 0
  · refine enterA2 Try.func64 rfl rfl rfl ?_
    refine XA.seq ?_
    refine XA.region ?_
    refine XOA.rd rfl Rd.asg ?_
    refine XOA.rd rfl Rd.asg ?_
    refine XOA.nil ?_
    refine DA.thn_normal ?_
    refine XA.seq ?_
    refine XA.seq ?_
    refine XA.region ?_
    refine XOA.rd rfl Rd.mv ?_
    refine XOA.rd rfl (Rd.lss rfl rfl) ?_
    refine XOA.rd rfl Rd.mv ?_
    first | ((first | refine XOA.wanted rfl rfl ?_ | refine XOA.wq rfl rfl ?_); refine XOA.rd rfl Rd.mv ?_) | refine XOA.unwanted rfl rfl rfl rfl ?_ | refine XOA.uq rfl rfl rfl ?_ | refine XOA.unwantedU rfl rfl rfl ?_
    first | ((first | refine XOA.wanted rfl rfl ?_ | refine XOA.wq rfl rfl ?_); refine XOA.rd rfl (Rd.geq rfl rfl) ?_) | refine XOA.unwanted rfl rfl rfl rfl ?_ | refine XOA.uq rfl rfl rfl ?_ | refine XOA.unwantedU rfl rfl rfl ?_
    refine XOA.rd rfl (by first | exact Rd.pT rfl | exact Rd.pF rfl | exact Rd.pP rfl) ?_
    refine XOA.nil ?_
    refine DA.thn_normal ?_
    refine XA.condT rfl (by first | rfl | exact (by first | exact (rfl : decide _ = true) | exact (rfl : decide _ = false) | (refine decide_eq_true ?_; assumption) | (refine decide_eq_false ?_; assumption) | (refine decide_eq_true ?_; omega) | (refine decide_eq_false ?_; omega))) ?_
    refine XA.seq ?_
    refine XA.region ?_
    refine XOA.rd rfl Rd.asg ?_
    refine XOA.rd rfl Rd.asg ?_
    refine XOA.nil ?_
    refine DA.thn_normal ?_
    refine XA.ret ?_
    refine DA.thn_ret ?_
    exact bodyA.ret (ResA.two rfl rfl rfl) (Ent.nil _) ⟨rfl, rfl, rfl⟩
  · refine enterA2 Try.func64 rfl rfl rfl ?_
    refine XA.seq ?_
    refine XA.region ?_
    refine XOA.rd rfl Rd.asg ?_
    refine XOA.rd rfl Rd.asg ?_
    refine XOA.nil ?_
    refine DA.thn_normal ?_
    refine XA.seq ?_
    refine XA.seq ?_
    refine XA.region ?_
    refine XOA.rd rfl Rd.mv ?_
    refine XOA.rd rfl (Rd.lss rfl rfl) ?_
    refine XOA.rd rfl Rd.mv ?_
    first | ((first | refine XOA.wanted rfl rfl ?_ | refine XOA.wq rfl rfl ?_); refine XOA.rd rfl Rd.mv ?_) | refine XOA.unwanted rfl rfl rfl rfl ?_ | refine XOA.uq rfl rfl rfl ?_ | refine XOA.unwantedU rfl rfl rfl ?_
    first | ((first | refine XOA.wanted rfl rfl ?_ | refine XOA.wq rfl rfl ?_); refine XOA.rd rfl (Rd.geq rfl rfl) ?_) | refine XOA.unwanted rfl rfl rfl rfl ?_ | refine XOA.uq rfl rfl rfl ?_ | refine XOA.unwantedU rfl rfl rfl ?_
    refine XOA.rd rfl (by first | exact Rd.pT rfl | exact Rd.pF rfl | exact Rd.pP rfl) ?_
    refine XOA.nil ?_
    refine DA.thn_normal ?_
    refine XA.condT rfl (by first | rfl | exact (by first | exact (rfl : decide _ = true) | exact (rfl : decide _ = false) | (refine decide_eq_true ?_; assumption) | (refine decide_eq_false ?_; assumption) | (refine decide_eq_true ?_; omega) | (refine decide_eq_false ?_; omega))) ?_
    refine XA.seq ?_
    refine XA.region ?_
    refine XOA.rd rfl Rd.asg ?_
    refine XOA.rd rfl Rd.asg ?_
    refine XOA.nil ?_
    refine DA.thn_normal ?_
    refine XA.ret ?_
    refine DA.thn_ret ?_
    exact bodyA.ret (ResA.two rfl rfl rfl) (Ent.nil _) ⟨rfl, rfl, rfl⟩
theorem set_getD_b {l : List Bool} {n p : Nat} {a : Bool} (hp : p < l.length) : (l.set n a).getD p false = if p = n then a else l.getD p false := by
  rw [List.getD_eq_getElem?_getD, List.getElem?_set]
  by_cases h : n = p
  · subst h; rw [if_pos rfl, if_pos hp, if_pos rfl]; rfl
  · rw [if_neg h, if_neg (Ne.symm h), List.getD_eq_getElem?_getD]
theorem set_getD_r {l : List (List Int)} {n p : Nat} {a : List Int} (hp : p < l.length) : (l.set n a).getD p DiskS.zeros = if p = n then a else l.getD p DiskS.zeros := by
  rw [List.getD_eq_getElem?_getD, List.getElem?_set]
  by_cases h : n = p
  · subst h; rw [if_pos rfl, if_pos hp, if_pos rfl]; rfl
  · rw [if_neg h, if_neg (Ne.symm h), List.getD_eq_getElem?_getD]
theorem MOk.read {d : DiskS} {s : StS} {inn dt : List Bool} {pg C : List (List Int)} (h : MOk d s inn dt pg C) (hd : d.ok) {p : Nat} (hp : p < 14) (hi : inn.getD p false = false) : MOk d s (inn.set p true) dt (pg.set p (pageW d s p)) C := by
  refine ⟨by rw [List.length_set]; exact h.li, h.ld, pgs_set h.pp p (pageW_len hd s p), h.cc, fun q hq => ?_, fun q hq hdq => ?_, h.old⟩
  · rw [set_getD_b (by rw [h.li]; exact hq), set_getD_r (by rw [h.pp.1]; exact hq), h.val q hq]
    by_cases e : q = p
    · subst e; rw [if_pos rfl, if_pos rfl, if_pos rfl, hi]; rfl
    · rw [if_neg e, if_neg e]
  · rw [set_getD_b (by rw [h.li]; exact hq)]
    split
    · rfl
    · exact h.dir q hq hdq
theorem page_a (σ : PH) (b sb db : Nat) (d : DiskS) (s : StS) (inn dt : List Bool) (pg C : List (List Int)) (n : Nat) (hn : n < 112) (hd : d.ok) (hlen : d.wait.length < 1000000) (h : MOk d s inn dt pg C) :
    CallsA Try.prog 64 #[ptr b, i64 n] σ [blk b (mcells sb inn dt pg) 88, Store sb db s, Disk db d] (RetA fun v σ' Γ' => v = .tuple #[i64 ((n / 8 : Nat) : Int), .bool true] ∧ σ = σ' ∧ ∃ inn' pg', MOk d s inn' dt pg' C ∧ inn'.getD (n / 8) false = true ∧ Γ' = [blk b (mcells sb inn' dt pg') 88, Store sb db s, Disk db d]) := by
  obtain ⟨p, hp⟩ : ∃ p, p = n / 8 := ⟨_, rfl⟩
  have hp14 : p < 14 := by omega
  have hq := quo8 hn
  rw [← hp] at hq ⊢
  have hin := mc_in (sb := sb) (dt := dt) (pg := pg) h.li hp14
  have hone : ones (ints (pageW d s p)) := ones_ints _
  have hml := mc_len (sb := sb) h.li h.ld h.pp
  refine enterA2 Try.func64 rfl rfl rfl ?_
  refine XA.seq ?_
  refine XA.region ?_
  refine XOA.rd rfl Rd.asg ?_
  refine XOA.rd rfl Rd.asg ?_
  refine XOA.nil ?_
  refine DA.thn_normal ?_
  refine XA.seq ?_
  refine XA.seq ?_
  refine XA.region ?_
  refine XOA.rd rfl Rd.mv ?_
  refine XOA.rd rfl (Rd.lss rfl rfl) ?_
  refine XOA.rd rfl Rd.mv ?_
  first | ((first | refine XOA.wanted rfl rfl ?_ | refine XOA.wq rfl rfl ?_); refine XOA.rd rfl Rd.mv ?_) | refine XOA.unwanted rfl rfl rfl rfl ?_ | refine XOA.uq rfl rfl rfl ?_ | refine XOA.unwantedU rfl rfl rfl ?_
  first | ((first | refine XOA.wanted rfl rfl ?_ | refine XOA.wq rfl rfl ?_); refine XOA.rd rfl (Rd.geq rfl rfl) ?_) | refine XOA.unwanted rfl rfl rfl rfl ?_ | refine XOA.uq rfl rfl rfl ?_ | refine XOA.unwantedU rfl rfl rfl ?_
  refine XOA.rd rfl (by first | exact Rd.pT rfl | exact Rd.pF rfl | exact Rd.pP rfl) ?_
  refine XOA.nil ?_
  refine DA.thn_normal ?_
  refine XA.condF rfl (by first | rfl | exact (by first | exact (rfl : decide _ = true) | exact (rfl : decide _ = false) | (refine decide_eq_true ?_; assumption) | (refine decide_eq_false ?_; assumption) | (refine decide_eq_true ?_; omega) | (refine decide_eq_false ?_; omega))) ?_
  refine XA.skip ?_
  refine DA.thn_normal ?_
  refine XA.seq ?_
  refine XA.region ?_
  refine XOA.rd rfl Rd.mv ?_
  refine XOA.rd rfl (Rd.quoi (c := (p : Int)) rfl rfl (by decide) hq) ?_
  refine XOA.rd rfl Rd.asg ?_
  refine XOA.nil ?_
  refine DA.thn_normal ?_
  refine XA.seq ?_
  refine XA.seq ?_
  refine XA.region ?_
  refine XOA.rd rfl Rd.mv ?_
  refine XOA.rd rfl Rd.mv ?_
  refine XOA.rd rfl (Rd.nilCheck rfl) ?_
  refine XOA.rd rfl (Rd.fA rfl) ?_
  refine XOA.rd rfl (Rd.ixA rfl rfl) ?_
  refine XOA.rd rfl (Rd.ldC rfl (tyrow rfl) rfl) ?_
  refine XOA.rd rfl (by first | exact Rd.notp rfl | exact Rd.not rfl) ?_
  refine XOA.nil ?_
  refine DA.thn_normal ?_
  cases hi : inn.getD p false with
  | true =>
    rw [hi] at hin
    refine XA.condF rfl rfl ?_
    refine XA.skip ?_
    refine DA.thn_normal ?_
    refine XA.seq ?_
    refine XA.region ?_
    refine XOA.rd rfl Rd.mv ?_
    refine XOA.rd rfl Rd.asg ?_
    refine XOA.rd rfl Rd.asg ?_
    refine XOA.nil ?_
    refine DA.thn_normal ?_
    refine XA.ret ?_
    exact bodyA.ret (ResA.two rfl rfl rfl) (by (repeat (first | exact Ent.nil _ | (apply Ent.sel; focus (first | ((repeat (first | with_reducible exact Sel.head | apply Sel.tail)); done) | ((repeat (first | exact Sel.head | apply Sel.tail)); done))) | apply Ent.selNil | apply Ent.selEmp)); (first | done | fail)) ⟨rfl, rfl, inn, pg, h, hi, rfl⟩
  | false =>
    rw [hi] at hin
    have hspl := put_in (sb := sb) (dt := dt) (pg := pg) h.li hp14 true
    have hR := h.read hd hp14 hi
    have hW8 := pageW_len hd s p
    obtain ⟨W, hW⟩ : ∃ W, W = pageW d s p := ⟨_, rfl⟩
    have hspl2 := put_row (sb := sb) (inn := inn.set p true) (dt := dt) (pg := pg) (by rw [List.length_set]; exact h.li) h.ld h.pp hp14 hW8
    have hfit : 1 + p + 1 ≤ (mcells sb inn dt pg).length := by omega
    have hml2 := mc_len (sb := sb) hR.li h.ld h.pp
    have hfit2 : ∀ _ : Unit, 29 + p * 8 + ty32.size ≤ (mcells sb (inn.set p true) dt pg).length := fun _ => by rw [hml2]; show 29 + p * 8 + 8 ≤ 141; omega
    rw [← hW] at hR hW8 hspl2
    refine XA.condT rfl rfl ?_
    refine XA.seq ?_
    refine XA.region ?_
    refine XOA.rd rfl Rd.mv ?_
    refine XOA.rd rfl Rd.mv ?_
    refine XOA.rd rfl (Rd.nilCheck rfl) ?_
    refine XOA.rd rfl (Rd.fA rfl) ?_
    refine XOA.rd rfl (Rd.ixA rfl rfl) ?_
    refine XOA.wr0 rfl (WrA.st (tyrow rfl) rfl) ?_
    rintro _ _ _ ⟨rfl, rfl, rfl⟩
    refine XOA.nil ?_
    refine DA.thn_normal ?_
    refine XA.draw (by kernel_rfl) _ _ [7, 11] [(0, .pu), (1, .pu), (2, .pu), (3, .pu), (4, .pu), (5, .rd), (6, .pu), (8, .pu), (9, .pu), (7, .wr), (10, .pu), (11, .wr)] (by kernel_rfl) (PH.sub.refl _) (Ent.sel (R := blk b _ _) (by ((repeat (first | with_reducible exact Sel.head | apply Sel.tail)); (first | done | fail))) (Ent.nil _)) ?_
    refine XPA.pu rfl rfl Gd.free Rd.mv ?_
    refine XPA.pu rfl rfl Gd.free Rd.mv ?_
    refine XPA.pu rfl rfl Gd.free Rd.mv ?_
    refine XPA.pu rfl rfl Gd.free (Rd.nilCheck rfl) ?_
    refine XPA.pu rfl rfl Gd.free (Rd.fA rfl) ?_
    refine XPA.rd rfl rfl Gd.free (Rd.ldC rfl (tyrow rfl) rfl) ?_
    refine XPA.pu rfl rfl Gd.free Rd.mv ?_
    refine XPA.pu rfl rfl Gd.free (Rd.nilCheck rfl) ?_
    refine XPA.pu rfl rfl Gd.free (Rd.fA rfl) ?_
    refine XPA.wrZ0 rfl rfl Gd.free (by kernel_rfl) (WrA.cE (sread_a σ sb db s d p hd hlen) rfl) ?_
    rintro _ _ _ ⟨_, ⟨rfl, rfl, rfl⟩, rfl⟩
    refine XPA.cl ?_
    rw [← hW]
    refine XPA.pu rfl rfl Gd.free (Rd.ixA rfl rfl) ?_
    refine XPA.wrZ0 rfl rfl Gd.free (by kernel_rfl) (WrA.st (tyrow rfl) rfl) ?_
    rintro _ _ _ ⟨rfl, rfl, rfl⟩
    refine XPA.nil ?_
    refine DA.thn_normal ?_
    refine XA.seq ?_
    refine XA.region ?_
    refine XOA.rd rfl Rd.mv ?_
    refine XOA.rd rfl Rd.asg ?_
    refine XOA.rd rfl Rd.asg ?_
    refine XOA.nil ?_
    refine DA.thn_normal ?_
    refine XA.ret ?_
    exact bodyA.ret (ResA.two rfl rfl rfl) (by (repeat (first | exact Ent.nil _ | (apply Ent.sel; focus (first | ((repeat (first | with_reducible exact Sel.head | apply Sel.tail)); done) | ((repeat (first | exact Sel.head | apply Sel.tail)); done))) | apply Ent.selNil | apply Ent.selEmp)); (first | done | fail)) ⟨rfl, rfl, _, _, hR, by rw [set_getD_b (by rw [h.li]; exact hp14), if_pos rfl], rfl⟩
end Go.Proofs.Ytplobdiknobhoaa
