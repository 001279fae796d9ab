/- Package store: small functions; a commit's deeds. -/
import Derived.Test.YtplobdiknobhoaaSt
namespace Go.Proofs.Ytplobdiknobhoaa
open Go X
set_option maxHeartbeats 1000000
theorem shas_a (σ : PH) (p : Int) : CallsA Try.prog 54 #[i64 p] σ [] (RetA fun v σ' Γ' => v = .bool (decide (0 ≤ p ∧ p < 14)) ∧ σ = σ' ∧ Γ' = []) := by
  by_cases h0 : 0 ≤ p
  · 
    refine enterA1 Try.func54 rfl rfl rfl ?_
    refine XA.seq ?_
    refine XA.region ?_
    refine XOA.rd rfl Rd.asg ?_
    refine XOA.nil ?_
    refine DA.thn_normal ?_
    refine XA.seq ?_
    refine XA.region ?_
    refine XOA.rd rfl Rd.mv ?_
    refine XOA.rd rfl (Rd.geq rfl rfl) ?_
    refine XOA.rd rfl Rd.mv ?_
    first | ((first | refine XOA.wanted rfl rfl ?_ | refine XOA.wq rfl rfl ?_); refine XOA.rd rfl Rd.mv ?_) | refine XOA.unwanted rfl rfl rfl rfl ?_ | refine XOA.uq rfl rfl rfl ?_ | refine XOA.unwantedU rfl rfl rfl ?_
    first | ((first | refine XOA.wanted rfl rfl ?_ | refine XOA.wq rfl rfl ?_); refine XOA.rd rfl (Rd.lss rfl rfl) ?_) | refine XOA.unwanted rfl rfl rfl rfl ?_ | refine XOA.uq rfl rfl rfl ?_ | refine XOA.unwantedU rfl rfl rfl ?_
    refine XOA.rd rfl (by first | exact Rd.pT rfl | exact Rd.pF rfl | exact Rd.pP rfl) ?_
    refine XOA.rd rfl Rd.asg ?_
    refine XOA.nil ?_
    refine DA.thn_normal ?_
    refine XA.ret ?_
    exact bodyA.ret (ResA.one rfl rfl) (Ent.refl _) ⟨by simp [h0], rfl, rfl⟩
  · 
    refine enterA1 Try.func54 rfl rfl rfl ?_
    refine XA.seq ?_
    refine XA.region ?_
    refine XOA.rd rfl Rd.asg ?_
    refine XOA.nil ?_
    refine DA.thn_normal ?_
    refine XA.seq ?_
    refine XA.region ?_
    refine XOA.rd rfl Rd.mv ?_
    refine XOA.rd rfl (Rd.geq rfl rfl) ?_
    refine XOA.rd rfl Rd.mv ?_
    first | ((first | refine XOA.wanted rfl rfl ?_ | refine XOA.wq rfl rfl ?_); refine XOA.rd rfl Rd.mv ?_) | refine XOA.unwanted rfl rfl rfl rfl ?_ | refine XOA.uq rfl rfl rfl ?_ | refine XOA.unwantedU rfl rfl rfl ?_
    first | ((first | refine XOA.wanted rfl rfl ?_ | refine XOA.wq rfl rfl ?_); refine XOA.rd rfl (Rd.lss rfl rfl) ?_) | refine XOA.unwanted rfl rfl rfl rfl ?_ | refine XOA.uq rfl rfl rfl ?_ | refine XOA.unwantedU rfl rfl rfl ?_
    refine XOA.rd rfl (by first | exact Rd.pT rfl | exact Rd.pF rfl | exact Rd.pP rfl) ?_
    refine XOA.rd rfl Rd.asg ?_
    refine XOA.nil ?_
    refine DA.thn_normal ?_
    refine XA.ret ?_
    exact bodyA.ret (ResA.one rfl rfl) (Ent.refl _) ⟨by simp [h0], rfl, rfl⟩
theorem gen_a (σ : PH) (b db : Nat) (s : StS) : CallsA Try.prog 38 #[ptr b] σ [Store b db s] (RetA fun v σ' Γ' => v = i64 s.gen ∧ σ = σ' ∧ Γ' = [Store b db s]) := by
  refine enterA1 Try.func38 rfl rfl rfl ?_
  refine XA.seq ?_
  refine XA.region ?_
  refine XOA.rd rfl Rd.asg ?_
  refine XOA.nil ?_
  refine DA.thn_normal ?_
  refine XA.seq ?_
  refine XA.region ?_
  refine XOA.rd rfl Rd.mv ?_
  first | refine XA.opn (R := Store b db s) (by ((repeat (first | with_reducible exact Sel.head | apply Sel.tail)); (first | done | fail))) (Store.opn) ?_ | refine XOA.opn (R := Store b db s) (by ((repeat (first | with_reducible exact Sel.head | apply Sel.tail)); (first | done | fail))) (Store.opn) ?_ | refine DA.opn (R := Store b db s) (by ((repeat (first | with_reducible exact Sel.head | apply Sel.tail)); (first | done | fail))) (Store.opn) ?_
  rintro ⟨⟩ hok
  first | refine XA.cl ?_ | refine XOA.cl ?_ | refine DA.cl ?_
  refine XOA.rd rfl (Rd.nilCheck rfl) ?_
  refine XOA.rd rfl (Rd.fA rfl) ?_
  refine XOA.rd rfl (Rd.fA rfl) ?_
  refine XOA.rd rfl (Rd.ldC rfl (tyrow rfl) rfl) ?_
  refine XOA.rd rfl Rd.asg ?_
  refine XOA.nil ?_
  refine DA.thn_normal ?_
  refine XA.ret ?_
  exact bodyA.ret (ResA.one rfl rfl) (Ent.fold1 (by (repeat (first | exact Ent.nil _ | (apply Ent.sel; focus (first | ((repeat (first | with_reducible exact Sel.head | apply Sel.tail)); done) | ((repeat (first | exact Sel.head | apply Sel.tail)); done))) | apply Ent.selNil | apply Ent.selEmp)); (first | done | fail)) (Store.mk hok rfl)) ⟨rfl, rfl, rfl⟩
/-- What page p is. -/
def pageW (d : DiskS) (s : StS) (p : Int) : List Int := if 0 ≤ p ∧ p < 14 ∧ s.pg.getD p.toNat 0 ≠ 0 then d.read (s.pg.getD p.toNat 0) else DiskS.zeros
theorem st_cells {s : StS} (h : s.ok) : ∃ t0 t1, s.t = [t0, t1] := by
  obtain ⟨h1, -⟩ := h
  match hs : s.t, h1 with
  | [a, b], _ => exact ⟨a, b, rfl⟩
theorem cell_page {db : Nat} {g t0 t1 : Int} {pg : List Int} {k : Nat} (h : k < pg.length) : (ptr db :: i64 g :: i64 t0 :: i64 t1 :: ints pg)[4 + k]? = some (i64 (pg.getD k 0)) := by
  rw [Nat.add_comm]; simpa using ints_get h
theorem sread_a (σ : PH) (b db : Nat) (s : StS) (d : DiskS) (p : Int) (hd : d.ok) (hlen : d.wait.length < 1000000) :
    CallsA Try.prog 37 #[ptr b, i64 p] σ [Store b db s, Disk db d] (RetA fun v σ' Γ' => v = wv (pageW d s p) ∧ σ = σ' ∧ Γ' = [Store b db s, Disk db d]) := by
  by_cases hp : 0 ≤ p ∧ p < 14
  · obtain ⟨k, rfl⟩ : ∃ k : Nat, p = k := Int.eq_ofNat_of_zero_le hp.1
    have hk : k < 14 := by omega
    refine enterA2 Try.func37 rfl rfl rfl ?_
    refine XA.seq ?_
    refine XA.region ?_
    refine XOA.wr0 rfl (WrA.alloc (tyrow rfl)) ?_
    rintro _ _ _ ⟨g4, rfl, rfl, rfl⟩
    refine XOA.nil ?_
    refine DA.thn_normal ?_
    refine XA.seq ?_
    refine XA.seq ?_
    refine XA.region ?_
    refine XOA.rd rfl Rd.mv ?_
    refine XOA.wr0 rfl (WrA.cE (shas_a σ k) rfl) ?_
    rintro _ _ _ ⟨_, ⟨rfl, rfl, rfl⟩, rfl⟩
    refine XOA.cl ?_
    rw [decide_eq_true hp]
    refine XOA.rd rfl (by first | exact Rd.notp rfl | exact Rd.not rfl) ?_
    refine XOA.rd rfl Rd.mv ?_
    first | ((first | refine XOA.wanted rfl rfl ?_ | refine XOA.wq rfl rfl ?_); refine XOA.rd rfl Rd.mv ?_) | refine XOA.unwanted rfl rfl rfl rfl ?_ | refine XOA.uq rfl rfl rfl ?_ | refine XOA.unwantedU rfl rfl rfl ?_
    first | ((first | refine XOA.wanted rfl rfl ?_ | refine XOA.wq rfl rfl ?_); refine XOA.rd rfl Rd.mv ?_) | refine XOA.unwanted rfl rfl rfl rfl ?_ | refine XOA.uq rfl rfl rfl ?_ | refine XOA.unwantedU rfl rfl rfl ?_
    first | refine XA.opn (R := Store b db s) (by ((repeat (first | with_reducible exact Sel.head | apply Sel.tail)); (first | done | fail))) (Store.opn) ?_ | refine XOA.opn (R := Store b db s) (by ((repeat (first | with_reducible exact Sel.head | apply Sel.tail)); (first | done | fail))) (Store.opn) ?_ | refine DA.opn (R := Store b db s) (by ((repeat (first | with_reducible exact Sel.head | apply Sel.tail)); (first | done | fail))) (Store.opn) ?_
    rintro ⟨⟩ hok
    first | refine XA.cl ?_ | refine XOA.cl ?_ | refine DA.cl ?_
    obtain ⟨t0, t1, ht⟩ := st_cells hok
    obtain ⟨g, t, pg⟩ := s
    simp only at ht
    subst ht
    have hpl : pg.length = 14 := hok.2
    have hc := cell_page (db := db) (g := g) (t0 := t0) (t1 := t1) (pg := pg) (k := k) (by omega)
    refine XOA.re (Δ := [blk b (ptr db :: i64 g :: i64 t0 :: i64 t1 :: ints pg) 104, blk g4 _ _, Disk db d]) rfl ?_
    first | ((first | refine XOA.wanted rfl rfl ?_ | refine XOA.wq rfl rfl ?_); refine XOA.rd rfl (Rd.nilCheck rfl) ?_) | refine XOA.unwanted rfl rfl rfl rfl ?_ | refine XOA.uq rfl rfl rfl ?_ | refine XOA.unwantedU rfl rfl rfl ?_
    first | ((first | refine XOA.wanted rfl rfl ?_ | refine XOA.wq rfl rfl ?_); refine XOA.rd rfl (Rd.fA rfl) ?_) | refine XOA.unwanted rfl rfl rfl rfl ?_ | refine XOA.uq rfl rfl rfl ?_ | refine XOA.unwantedU rfl rfl rfl ?_
    first | ((first | refine XOA.wanted rfl rfl ?_ | refine XOA.wq rfl rfl ?_); refine XOA.rd rfl (Rd.fA rfl) ?_) | refine XOA.unwanted rfl rfl rfl rfl ?_ | refine XOA.uq rfl rfl rfl ?_ | refine XOA.unwantedU rfl rfl rfl ?_
    first | ((first | refine XOA.wanted rfl rfl ?_ | refine XOA.wq rfl rfl ?_); refine XOA.rd rfl (Rd.ixA rfl rfl) ?_) | refine XOA.unwanted rfl rfl rfl rfl ?_ | refine XOA.uq rfl rfl rfl ?_ | refine XOA.unwantedU rfl rfl rfl ?_
    first | ((first | refine XOA.wanted rfl rfl ?_ | refine XOA.wq rfl rfl ?_); refine XOA.rd rfl (Rd.ldC rfl (tyrow rfl) rfl) ?_) | refine XOA.unwanted rfl rfl rfl rfl ?_ | refine XOA.uq rfl rfl rfl ?_ | refine XOA.unwantedU rfl rfl rfl ?_
    first | ((first | refine XOA.wanted rfl rfl ?_ | refine XOA.wq rfl rfl ?_); refine XOA.rd rfl (Rd.eql rfl rfl) ?_) | refine XOA.unwanted rfl rfl rfl rfl ?_ | refine XOA.uq rfl rfl rfl ?_ | refine XOA.unwantedU rfl rfl rfl ?_
    refine XOA.rd rfl (by first | exact Rd.pT rfl | exact Rd.pF rfl | exact Rd.pP rfl) ?_
    refine XOA.nil ?_
    refine DA.thn_normal ?_
    refine XA.condp rfl (fun hz => ?_) (fun hz => ?_)
    · have hw : pageW d ⟨g, [t0, t1], pg⟩ k = DiskS.zeros := by
        rw [pageW, if_neg]; rintro ⟨-, -, h⟩; exact h (by simpa using hz)
      rw [hw]
      refine XA.seq ?_
      refine XA.region ?_
      refine XOA.rd rfl (Rd.blA (fun _ _ => tyrow) rfl rfl rfl) ?_
      refine XOA.wr0 rfl (WrA.st (tyrow rfl) rfl) ?_
      rintro _ _ _ ⟨rfl, rfl, rfl⟩
      refine XOA.nil ?_
      refine DA.thn_normal ?_
      refine XA.ret ?_
      refine DA.thn_ret ?_
      exact bodyA.ret (ResA.cell rfl rfl (Ld.atBlk (tyrow rfl) rfl (by ((repeat (first | with_reducible exact Sel.head | apply Sel.tail)); (first | done | fail))) rfl (by first | exact take0 (by first | rfl | assumption | (refine (ints_len _).trans ?_; assumption) | (simp [*]; (first | done | fail))) | assumption | exact take_app (by first | rfl | assumption | (refine (ints_len _).trans ?_; assumption) | (simp [*]; (first | done | fail))) | (conv => lhs; simp only [List.drop_succ_cons, List.drop_zero, List.take_succ_cons, List.take_zero])) (by first | rfl | assumption | (refine (ints_len _).trans ?_; assumption) | (simp [*]; (first | done | fail))))) (Ent.foldC (Θ := [_]) (by (repeat (first | exact Ent.all _ | (apply Ent.take; focus (first | ((repeat (first | with_reducible exact Sel.head | apply Sel.tail)); done) | ((repeat (first | exact Sel.head | apply Sel.tail)); done))) | apply Ent.takeNil | apply Ent.takeEmp)); (first | done | fail)) (Store.mk (s := ⟨g, [t0, t1], pg⟩) hok rfl) (by (repeat (first | exact Ent.nil _ | (apply Ent.sel; focus (first | ((repeat (first | with_reducible exact Sel.head | apply Sel.tail)); done) | ((repeat (first | exact Sel.head | apply Sel.tail)); done))) | apply Ent.selNil | apply Ent.selEmp)); (first | done | fail))) ⟨rfl, rfl, rfl⟩
    have hw : pageW d ⟨g, [t0, t1], pg⟩ k = d.read (pg.getD k 0) := by
      rw [pageW, if_pos ⟨hp.1, hp.2, by simpa using hz⟩]; simp
    rw [hw]
    obtain ⟨pa, hpa⟩ : ∃ a, a = pg.getD k 0 := ⟨_, rfl⟩
    rw [← hpa] at hc hz ⊢
    clear hpa hw
    have h8 := len8 hd pa
    refine XA.skip ?_
    refine DA.thn_normal ?_
    refine XA.seq ?_
    refine XA.draw (by kernel_rfl) _ _ [11, 12] [(0, .pu), (1, .pu), (2, .pu), (3, .rd), (4, .pu), (5, .pu), (6, .pu), (7, .pu), (8, .pu), (9, .pu), (10, .rd), (11, .wr), (12, .wr)] (by kernel_rfl) (PH.sub.refl _) (Ent.sel (R := blk b _ _) (by ((repeat (first | with_reducible exact Sel.head | apply Sel.tail)); (first | done | fail))) (Ent.nil _)) ?_
    refine XPA.pu rfl rfl Gd.free Rd.mv ?_
    refine XPA.pu rfl rfl Gd.free (Rd.nilCheck rfl) ?_
    refine XPA.pu rfl rfl Gd.free (Rd.fA rfl) ?_
    refine XPA.rd rfl rfl Gd.free (Rd.ldC rfl (tyrow rfl) rfl) ?_
    refine XPA.pu rfl rfl Gd.free Rd.mv ?_
    refine XPA.pu rfl rfl Gd.free Rd.mv ?_
    refine XPA.pu rfl rfl Gd.free (Rd.nilCheck rfl) ?_
    refine XPA.pu rfl rfl Gd.free (Rd.fA rfl) ?_
    refine XPA.pu rfl rfl Gd.free (Rd.fA rfl) ?_
    refine XPA.pu rfl rfl Gd.free (Rd.ixA rfl rfl) ?_
    refine XPA.rd rfl rfl Gd.free (Rd.ldC rfl (tyrow rfl) rfl) ?_
    refine XPA.wrZ0 rfl rfl Gd.free (by kernel_rfl) (WrA.cE (read_a σ db d pa hlen) rfl) ?_
    rintro _ _ _ ⟨_, ⟨rfl, rfl, rfl⟩, rfl⟩
    refine XPA.cl ?_
    refine XPA.wrZ0 rfl rfl Gd.free (by kernel_rfl) (WrA.st (tyrow rfl) rfl) ?_
    rintro _ _ _ ⟨rfl, rfl, rfl⟩
    refine XPA.nil ?_
    refine DA.thn_normal ?_
    refine XA.ret ?_
    exact bodyA.ret (ResA.cell rfl rfl (Ld.atBlk (tyrow rfl) rfl (by ((repeat (first | with_reducible exact Sel.head | apply Sel.tail)); (first | done | fail))) rfl (by first | exact take0 (by first | rfl | assumption | (refine (ints_len _).trans ?_; assumption) | (simp [*]; (first | done | fail))) | assumption | exact take_app (by first | rfl | assumption | (refine (ints_len _).trans ?_; assumption) | (simp [*]; (first | done | fail))) | (conv => lhs; simp only [List.drop_succ_cons, List.drop_zero, List.take_succ_cons, List.take_zero])) (by first | rfl | assumption | (refine (ints_len _).trans ?_; assumption) | (simp [*]; (first | done | fail))))) (Ent.foldC (Θ := [_]) (by (repeat (first | exact Ent.all _ | (apply Ent.take; focus (first | ((repeat (first | with_reducible exact Sel.head | apply Sel.tail)); done) | ((repeat (first | exact Sel.head | apply Sel.tail)); done))) | apply Ent.takeNil | apply Ent.takeEmp)); (first | done | fail)) (Store.mk (s := ⟨g, [t0, t1], pg⟩) hok rfl) (by (repeat (first | exact Ent.nil _ | (apply Ent.sel; focus (first | ((repeat (first | with_reducible exact Sel.head | apply Sel.tail)); done) | ((repeat (first | exact Sel.head | apply Sel.tail)); done))) | apply Ent.selNil | apply Ent.selEmp)); (first | done | fail))) ⟨rfl, rfl, rfl⟩
  · have hw : pageW d s p = DiskS.zeros := by rw [pageW, if_neg (fun h => hp ⟨h.1, h.2.1⟩)]
    rw [hw]
    refine enterA2 Try.func37 rfl rfl rfl ?_
    refine XA.seq ?_
    refine XA.region ?_
    refine XOA.wr0 rfl (WrA.alloc (tyrow rfl)) ?_
    rintro _ _ _ ⟨g4, rfl, rfl, rfl⟩
    refine XOA.nil ?_
    refine DA.thn_normal ?_
    refine XA.seq ?_
    refine XA.seq ?_
    refine XA.region ?_
    refine XOA.rd rfl Rd.mv ?_
    refine XOA.wr0 rfl (WrA.cE (shas_a σ p) rfl) ?_
    rintro _ _ _ ⟨_, ⟨rfl, rfl, rfl⟩, rfl⟩
    refine XOA.cl ?_
    rw [decide_eq_false hp]
    refine XOA.rd rfl (by first | exact Rd.notp rfl | exact Rd.not rfl) ?_
    refine XOA.rd rfl Rd.mv ?_
    first | ((first | refine XOA.wanted rfl rfl ?_ | refine XOA.wq rfl rfl ?_); refine XOA.rd rfl Rd.mv ?_) | refine XOA.unwanted rfl rfl rfl rfl ?_ | refine XOA.uq rfl rfl rfl ?_ | refine XOA.unwantedU rfl rfl rfl ?_
    first | ((first | refine XOA.wanted rfl rfl ?_ | refine XOA.wq rfl rfl ?_); refine XOA.rd rfl Rd.mv ?_) | refine XOA.unwanted rfl rfl rfl rfl ?_ | refine XOA.uq rfl rfl rfl ?_ | refine XOA.unwantedU rfl rfl rfl ?_
    first | ((first | refine XOA.wanted rfl rfl ?_ | refine XOA.wq rfl rfl ?_); refine XOA.rd rfl (Rd.nilCheck rfl) ?_) | refine XOA.unwanted rfl rfl rfl rfl ?_ | refine XOA.uq rfl rfl rfl ?_ | refine XOA.unwantedU rfl rfl rfl ?_
    first | ((first | refine XOA.wanted rfl rfl ?_ | refine XOA.wq rfl rfl ?_); refine XOA.rd rfl (Rd.fA rfl) ?_) | refine XOA.unwanted rfl rfl rfl rfl ?_ | refine XOA.uq rfl rfl rfl ?_ | refine XOA.unwantedU rfl rfl rfl ?_
    first | ((first | refine XOA.wanted rfl rfl ?_ | refine XOA.wq rfl rfl ?_); refine XOA.rd rfl (Rd.fA rfl) ?_) | refine XOA.unwanted rfl rfl rfl rfl ?_ | refine XOA.uq rfl rfl rfl ?_ | refine XOA.unwantedU rfl rfl rfl ?_
    first | ((first | refine XOA.wanted rfl rfl ?_ | refine XOA.wq rfl rfl ?_); refine XOA.rd rfl (Rd.ixA rfl rfl) ?_) | refine XOA.unwanted rfl rfl rfl rfl ?_ | refine XOA.uq rfl rfl rfl ?_ | refine XOA.unwantedU rfl rfl rfl ?_
    first | ((first | refine XOA.wanted rfl rfl ?_ | refine XOA.wq rfl rfl ?_); refine XOA.rd rfl (Rd.ldC rfl (tyrow rfl) rfl) ?_) | refine XOA.unwanted rfl rfl rfl rfl ?_ | refine XOA.uq rfl rfl rfl ?_ | refine XOA.unwantedU rfl rfl rfl ?_
    first | ((first | refine XOA.wanted rfl rfl ?_ | refine XOA.wq rfl rfl ?_); refine XOA.rd rfl (Rd.eql rfl rfl) ?_) | refine XOA.unwanted rfl rfl rfl rfl ?_ | refine XOA.uq rfl rfl rfl ?_ | refine XOA.unwantedU rfl rfl rfl ?_
    refine XOA.rd rfl (by first | exact Rd.pT rfl | exact Rd.pF rfl | exact Rd.pP rfl) ?_
    refine XOA.nil ?_
    refine DA.thn_normal ?_
    refine XA.condT rfl rfl ?_
    refine XA.seq ?_
    refine XA.region ?_
    refine XOA.rd rfl (Rd.blA (fun _ _ => tyrow) rfl rfl rfl) ?_
    refine XOA.wr0 rfl (WrA.st (tyrow rfl) rfl) ?_
    rintro _ _ _ ⟨rfl, rfl, rfl⟩
    refine XOA.nil ?_
    refine DA.thn_normal ?_
    refine XA.ret ?_
    refine DA.thn_ret ?_
    exact bodyA.ret (ResA.cell rfl rfl (Ld.atBlk (tyrow rfl) rfl (by ((repeat (first | with_reducible exact Sel.head | apply Sel.tail)); (first | done | fail))) rfl (by first | exact take0 (by first | rfl | assumption | (refine (ints_len _).trans ?_; assumption) | (simp [*]; (first | done | fail))) | assumption | exact take_app (by first | rfl | assumption | (refine (ints_len _).trans ?_; assumption) | (simp [*]; (first | done | fail))) | (conv => lhs; simp only [List.drop_succ_cons, List.drop_zero, List.take_succ_cons, List.take_zero])) (by first | rfl | assumption | (refine (ints_len _).trans ?_; assumption) | (simp [*]; (first | done | fail))))) (by (repeat (first | exact Ent.nil _ | (apply Ent.sel; focus (first | ((repeat (first | with_reducible exact Sel.head | apply Sel.tail)); done) | ((repeat (first | exact Sel.head | apply Sel.tail)); done))) | apply Ent.selNil | apply Ent.selEmp)); (first | done | fail)) ⟨rfl, rfl, rfl⟩
/-! a commit -/
/-- A commit's cells. -/
abbrev comC (sb : Nat) (left gen t0 t1 : Int) (pg : List Int) (fr : Value) : List Value := ptr sb :: i64 left :: i64 gen :: i64 t0 :: i64 t1 :: (ints pg ++ [fr])
theorem com_last {sb : Nat} {left gen t0 t1 : Int} {pg : List Int} {fr : Value} (h : pg.length = 14) : (comC sb left gen t0 t1 pg fr)[19]? = some fr := by
  have : (ints pg ++ [fr])[14]? = some fr := by rw [List.getElem?_append_right (by simp [h])]; simp [h]
  exact this
theorem com_len {sb : Nat} {left gen t0 t1 : Int} {pg : List Int} {fr : Value} (h : pg.length = 14) : (comC sb left gen t0 t1 pg fr).length = 20 := by simp [comC, h]
theorem com_put19 {sb : Nat} {left gen t0 t1 : Int} {pg : List Int} {fr : Value} (h : pg.length = 14) (fr' : Value) : splice (comC sb left gen t0 t1 pg fr) 19 [fr'] = comC sb left gen t0 t1 pg fr' := by
  rw [splice_one _ _ _ (by rw [com_len h]; decide)]
  show ptr sb :: i64 left :: i64 gen :: i64 t0 :: i64 t1 :: (ints pg ++ [fr]).set 14 fr' = _
  rw [List.set_append_right _ _ (by simp [h])]; simp [h]
theorem com_put1 {sb : Nat} {left gen t0 t1 : Int} {pg : List Int} {fr : Value} (x : Int) : splice (comC sb left gen t0 t1 pg fr) 1 [i64 x] = comC sb x gen t0 t1 pg fr := by simp [splice, comC]
theorem com_page {sb : Nat} {left gen t0 t1 : Int} {pg : List Int} {fr : Value} {k : Nat} (h : k < pg.length) : (comC sb left gen t0 t1 pg fr)[5 + k]? = some (i64 (pg.getD k 0)) := by
  rw [Nat.add_comm]
  show (ints pg ++ [fr])[k]? = _
  rw [List.getElem?_append_left (by simpa using h)]; exact ints_get h
theorem com_putp {sb : Nat} {left gen t0 t1 : Int} {pg : List Int} {fr : Value} (h : pg.length = 14) {k : Nat} (hk : k < 14) (x : Int) : splice (comC sb left gen t0 t1 pg fr) (5 + k) [i64 x] = comC sb left gen t0 t1 (pg.set k x) fr := by
  rw [splice_one _ _ _ (by rw [com_len h]; omega), Nat.add_comm]
  show ptr sb :: i64 left :: i64 gen :: i64 t0 :: i64 t1 :: (ints pg ++ [fr]).set k (i64 x) = _
  rw [List.set_append_left _ _ (by simp [h]; omega), ← ints_set]
/-- What is left behind j deeds. -/
def leftOf (D : Int) (j : Nat) : Int := IntKind.i64.wrap (D - j)
def okD (D : Int) : Prop := -9223372036854775808 ≤ D ∧ D ≤ 9223372036854775807
theorem left_zero {D : Int} {j : Nat} (hD : okD D) (hj : j < 1000) : leftOf D j = 0 ↔ D = j := by
  obtain ⟨h1, h2⟩ := hD
  simp only [leftOf, IntKind.wrap, IntKind.bits, IntKind.signed]
  simp
  omega
theorem left_succ (D : Int) (j : Nat) : IntKind.i64.wrap (leftOf D j - 1) = leftOf D (j + 1) := by
  simp only [leftOf, IntKind.wrap, IntKind.bits, IntKind.signed]
  simp
  omega
theorem left_start {D : Int} (hD : okD D) : leftOf D 0 = D := by
  rw [leftOf]; simpa using X.wrap64_in hD.1 hD.2
theorem may_a (σ : PH) (c sb : Nat) (D : Int) (j : Nat) (gen t0 t1 : Int) (pg : List Int) (fr : Value) (hD : okD D) (hj : j < 1000) :
    CallsA Try.prog 69 #[ptr c] σ [blk c (comC sb (leftOf D j) gen t0 t1 pg fr) 110] (RetA fun v σ' Γ' => v = .bool (decide (D ≠ (j : Int))) ∧ σ = σ' ∧ Γ' = [blk c (comC sb (if D = (j : Int) then leftOf D j else leftOf D (j + 1)) gen t0 t1 pg fr) 110]) := by
  have hz := left_zero hD hj
  have hsu := left_succ D j
  by_cases h0 : D = (j : Int)
  · rw [if_pos h0]
    have hl := hz.2 h0
    refine enterA1 Try.func69 rfl rfl rfl ?_
    refine XA.seq ?_
    refine XA.region ?_
    refine XOA.rd rfl Rd.asg ?_
    refine XOA.nil ?_
    refine DA.thn_normal ?_
    refine XA.seq ?_
    refine XA.seq ?_
    refine XA.region ?_
    refine XOA.rd rfl Rd.mv ?_
    refine XOA.rd rfl (Rd.nilCheck rfl) ?_
    refine XOA.rd rfl (Rd.fA rfl) ?_
    refine XOA.rd rfl (Rd.ldC rfl (tyrow rfl) rfl) ?_
    refine XOA.rd rfl (Rd.eql rfl rfl) ?_
    refine XOA.nil ?_
    refine DA.thn_normal ?_
    refine XA.condT rfl (decide_eq_true hl) ?_
    refine XA.seq ?_
    refine XA.region ?_
    refine XOA.rd rfl Rd.asg ?_
    refine XOA.nil ?_
    refine DA.thn_normal ?_
    refine XA.ret ?_
    refine DA.thn_ret ?_
    exact bodyA.ret (ResA.one rfl rfl) (Ent.refl _) ⟨congrArg Value.bool (decide_eq_false (fun (h : D ≠ (j : Int)) => h h0)).symm, rfl, rfl⟩
  · rw [if_neg h0]
    have hl : leftOf D j ≠ 0 := fun h => h0 (hz.1 h)
    have hspl := fun x => com_put1 (sb := sb) (left := leftOf D j) (gen := gen) (t0 := t0) (t1 := t1) (pg := pg) (fr := fr) x
    refine enterA1 Try.func69 rfl rfl rfl ?_
    refine XA.seq ?_
    refine XA.region ?_
    refine XOA.rd rfl Rd.asg ?_
    refine XOA.nil ?_
    refine DA.thn_normal ?_
    refine XA.seq ?_
    refine XA.seq ?_
    refine XA.region ?_
    refine XOA.rd rfl Rd.mv ?_
    refine XOA.rd rfl (Rd.nilCheck rfl) ?_
    refine XOA.rd rfl (Rd.fA rfl) ?_
    refine XOA.rd rfl (Rd.ldC rfl (tyrow rfl) rfl) ?_
    refine XOA.rd rfl (Rd.eql rfl rfl) ?_
    refine XOA.nil ?_
    refine DA.thn_normal ?_
    refine XA.condF rfl (decide_eq_false hl) ?_
    refine XA.skip ?_
    refine DA.thn_normal ?_
    refine XA.seq ?_
    refine XA.region ?_
    refine XOA.rd rfl Rd.mv ?_
    refine XOA.rd rfl (Rd.nilCheck rfl) ?_
    refine XOA.rd rfl (Rd.fA rfl) ?_
    refine XOA.rd rfl (Rd.ldC rfl (tyrow rfl) rfl) ?_
    refine XOA.rd rfl (Rd.subc rfl rfl hsu) ?_
    refine XOA.rd rfl (Rd.nilCheck rfl) ?_
    refine XOA.rd rfl (Rd.fA rfl) ?_
    refine XOA.wr0 rfl (WrA.st (tyrow rfl) rfl) ?_
    rintro _ _ _ ⟨rfl, rfl, rfl⟩
    refine XOA.nil ?_
    refine DA.thn_normal ?_
    refine XA.seq ?_
    refine XA.region ?_
    refine XOA.rd rfl Rd.asg ?_
    refine XOA.nil ?_
    refine DA.thn_normal ?_
    refine XA.ret ?_
    exact bodyA.ret (ResA.one rfl rfl) (Ent.refl _) ⟨congrArg Value.bool (decide_eq_true (p := D ≠ (j : Int)) h0).symm, rfl, rfl⟩
theorem may_no (σ : PH) (c sb : Nat) (j : Nat) (gen t0 t1 : Int) (pg : List Int) (fr : Value) (hj : j < 1000) :
    CallsA Try.prog 69 #[ptr c] σ [blk c (comC sb (leftOf j j) gen t0 t1 pg fr) 110] (RetA fun v σ' Γ' => v = .bool false ∧ σ = σ' ∧ Γ' = [blk c (comC sb (leftOf j j) gen t0 t1 pg fr) 110]) := by
  have h := may_a σ c sb j j gen t0 t1 pg fr ⟨by omega, by omega⟩ hj
  rwa [if_pos rfl, decide_eq_false (fun h => h rfl)] at h
theorem may_yes (σ : PH) (c sb : Nat) (D : Int) (j : Nat) (gen t0 t1 : Int) (pg : List Int) (fr : Value) (hD : okD D) (hj : j < 1000) (hne : D ≠ (j : Int)) :
    CallsA Try.prog 69 #[ptr c] σ [blk c (comC sb (leftOf D j) gen t0 t1 pg fr) 110] (RetA fun v σ' Γ' => v = .bool true ∧ σ = σ' ∧ Γ' = [blk c (comC sb (leftOf D (j + 1)) gen t0 t1 pg fr) 110]) := by
  have h := may_a σ c sb D j gen t0 t1 pg fr hD hj
  rwa [if_neg hne, decide_eq_true hne] at h
/-- put: words to the first free sector. -/
theorem put_no (σ : PH) (c sb : Nat) (j : Nat) (gen t0 t1 : Int) (pg : List Int) (fr : Value) (a : Int) (fs : List Int) (w : List Int) (hj : j < 1000) (hpg : pg.length = 14) (hw : w.length = 8) (hf : PInts σ fr (a :: fs)) :
    CallsA Try.prog 68 #[ptr c, wv w] σ [blk c (comC sb (leftOf j j) gen t0 t1 pg fr) 110] (RetA fun v σ' Γ' => v = .tuple #[i64 0, .bool false] ∧ σ = σ' ∧ Γ' = [blk c (comC sb (leftOf j j) gen t0 t1 pg fr) 110]) := by
  obtain ⟨p, cc, rfl, hc1, hc2⟩ := hf.shape
  obtain ⟨g, o, rfl, hr⟩ := hf.at (k := 0) rfl
  rw [Nat.zero_mul] at hr
  have hlast := com_last (sb := sb) (left := leftOf j j) (gen := gen) (t0 := t0) (t1 := t1) (fr := .slice (some ⟨g, o, none⟩) (a :: fs).length cc) hpg
  simp only [List.length_cons] at hlast ⊢
  refine enterA2 Try.func68 rfl rfl rfl ?_
  refine XA.seq ?_
  refine XA.region ?_
  refine XOA.wr0 rfl WrA.bx ?_
  rintro _ _ _ ⟨g3, rfl, rfl, rfl⟩
  refine XOA.rd rfl Rd.asg ?_
  refine XOA.rd rfl Rd.asg ?_
  refine XOA.nil ?_
  refine DA.thn_normal ?_
  refine XA.seq ?_
  refine XA.region ?_
  refine XOA.rd rfl Rd.mv ?_
  refine XOA.rd rfl (Rd.nilCheck rfl) ?_
  refine XOA.rd rfl (Rd.fA rfl) ?_
  refine XOA.rd rfl (Rd.ldC rfl (tyrow rfl) rfl) ?_
  refine XOA.rd rfl (Rd.ixS rfl rfl) ?_
  refine XOA.rd rfl (Rd.ldC rfl (tyrow rfl) rfl) ?_
  refine XOA.rd rfl Rd.asg ?_
  refine XOA.nil ?_
  refine DA.thn_normal ?_
  refine XA.seq ?_
  refine XA.seq ?_
  refine XA.region ?_
  refine XOA.rd rfl Rd.mv ?_
  refine XOA.wr0 rfl (WrA.cE (may_no σ c sb j gen t0 t1 pg _ hj) rfl) ?_
  rintro _ _ _ ⟨_, ⟨rfl, rfl, rfl⟩, rfl⟩
  refine XOA.cl ?_
  refine XOA.rd rfl (by first | exact Rd.notp rfl | exact Rd.not rfl) ?_
  refine XOA.nil ?_
  refine DA.thn_normal ?_
  refine XA.condT rfl rfl ?_
  refine XA.seq ?_
  refine XA.region ?_
  refine XOA.rd rfl Rd.asg ?_
  refine XOA.rd rfl Rd.asg ?_
  refine XOA.nil ?_
  refine DA.thn_normal ?_
  refine XA.ret ?_
  refine DA.thn_ret ?_
  exact bodyA.ret (ResA.two rfl rfl rfl) (by (repeat (first | exact Ent.nil _ | (apply Ent.sel; focus (first | ((repeat (first | with_reducible exact Sel.head | apply Sel.tail)); done) | ((repeat (first | exact Sel.head | apply Sel.tail)); done))) | apply Ent.selNil | apply Ent.selEmp)); (first | done | fail)) ⟨rfl, rfl, rfl⟩
theorem put_yes (σ : PH) (c sb db : Nat) (D : Int) (j : Nat) (gen t0 t1 : Int) (pg : List Int) (fr : Value) (a : Int) (fs : List Int) (w : List Int) (s : StS) (d : DiskS) (hD : okD D) (hj : j < 1000) (hne : D ≠ (j : Int)) (hpg : pg.length = 14) (hw : w.length = 8) (hf : PInts σ fr (a :: fs)) (hlen : d.wait.length < 1000000) :
    CallsA Try.prog 68 #[ptr c, wv w] σ [blk c (comC sb (leftOf D j) gen t0 t1 pg fr) 110, blk sb (ptr db :: s.cells) 104, Disk db d] (RetA fun v σ' Γ' => ∃ fr', PInts σ fr' fs ∧ v = .tuple #[i64 a, .bool true] ∧ σ = σ' ∧ Γ' = [blk c (comC sb (leftOf D (j + 1)) gen t0 t1 pg fr') 110, blk sb (ptr db :: s.cells) 104, Disk db (d.write a w)]) := by
  obtain ⟨p, cc, rfl, hc1, hc2⟩ := hf.shape
  obtain ⟨g, o, rfl, hr⟩ := hf.at (k := 0) rfl
  rw [Nat.zero_mul] at hr
  have hf2 := hf.tail
  simp only [List.length_cons] at hf2 ⊢
  have hlast := com_last (sb := sb) (left := leftOf D j) (gen := gen) (t0 := t0) (t1 := t1) (fr := .slice (some ⟨g, o, none⟩) (fs.length + 1) cc) hpg
  have hlast2 := com_last (sb := sb) (left := leftOf D (j + 1)) (gen := gen) (t0 := t0) (t1 := t1) (fr := .slice (some ⟨g, o, none⟩) (fs.length + 1) cc) hpg
  have hspl := fun fr' => com_put19 (sb := sb) (left := leftOf D (j + 1)) (gen := gen) (t0 := t0) (t1 := t1) (fr := .slice (some ⟨g, o, none⟩) (fs.length + 1) cc) hpg fr'
  have hcl := com_len (sb := sb) (left := leftOf D (j + 1)) (gen := gen) (t0 := t0) (t1 := t1) (fr := .slice (some ⟨g, o, none⟩) (fs.length + 1) cc) hpg
  have hfit : 19 + ty27.size ≤ (comC sb (leftOf D (j + 1)) gen t0 t1 pg (.slice (some ⟨g, o, none⟩) (fs.length + 1) cc)).length := by rw [hcl]; decide
  refine enterA2 Try.func68 rfl rfl rfl ?_
  refine XA.seq ?_
  refine XA.region ?_
  refine XOA.wr0 rfl WrA.bx ?_
  rintro _ _ _ ⟨g3, rfl, rfl, rfl⟩
  refine XOA.rd rfl Rd.asg ?_
  refine XOA.rd rfl Rd.asg ?_
  refine XOA.nil ?_
  refine DA.thn_normal ?_
  refine XA.seq ?_
  refine XA.region ?_
  refine XOA.rd rfl Rd.mv ?_
  refine XOA.rd rfl (Rd.nilCheck rfl) ?_
  refine XOA.rd rfl (Rd.fA rfl) ?_
  refine XOA.rd rfl (Rd.ldC rfl (tyrow rfl) rfl) ?_
  refine XOA.rd rfl (Rd.ixS rfl rfl) ?_
  refine XOA.rd rfl (Rd.ldC rfl (tyrow rfl) rfl) ?_
  refine XOA.rd rfl Rd.asg ?_
  refine XOA.nil ?_
  refine DA.thn_normal ?_
  refine XA.seq ?_
  refine XA.seq ?_
  refine XA.region ?_
  refine XOA.rd rfl Rd.mv ?_
  refine XOA.wr0 rfl (WrA.cE (may_yes σ c sb D j gen t0 t1 pg _ hD hj hne) rfl) ?_
  rintro _ _ _ ⟨_, ⟨rfl, rfl, rfl⟩, rfl⟩
  refine XOA.cl ?_
  refine XOA.rd rfl (by first | exact Rd.notp rfl | exact Rd.not rfl) ?_
  refine XOA.nil ?_
  refine DA.thn_normal ?_
  refine XA.condF rfl rfl ?_
  refine XA.skip ?_
  refine DA.thn_normal ?_
  refine XA.seq ?_
  refine XA.region ?_
  refine XOA.rd rfl Rd.mv ?_
  refine XOA.rd rfl Rd.mv ?_
  refine XOA.rd rfl (Rd.nilCheck rfl) ?_
  refine XOA.rd rfl (Rd.fA rfl) ?_
  refine XOA.rd rfl (Rd.ldC rfl (tyrow rfl) rfl) ?_
  refine XOA.rd rfl (Rd.sliceTail (tyrow rfl) rfl (tyrow rfl) rfl rfl rfl (by omega)) ?_
  refine XOA.rd rfl (Rd.nilCheck rfl) ?_
  refine XOA.rd rfl (Rd.fA rfl) ?_
  refine XOA.wr0 rfl (WrA.st (tyrow rfl) rfl) ?_
  rintro _ _ _ ⟨rfl, rfl, rfl⟩
  refine XOA.nil ?_
  refine DA.thn_normal ?_
  refine XA.seq ?_
  refine XA.draw (by kernel_rfl) _ _ [9] [(0, .pu), (1, .pu), (2, .pu), (3, .rd), (4, .pu), (5, .pu), (6, .rd), (7, .pu), (8, .rd), (9, .wr)] (by kernel_rfl) (PH.sub.refl _) (Ent.sel (R := blk c _ _) (by ((repeat (first | with_reducible exact Sel.head | apply Sel.tail)); (first | done | fail))) (Ent.sel (R := blk sb _ _) (by ((repeat (first | with_reducible exact Sel.head | apply Sel.tail)); (first | done | fail))) (Ent.sel (R := blk g3 _ _) (by ((repeat (first | with_reducible exact Sel.head | apply Sel.tail)); (first | done | fail))) (Ent.nil _)))) ?_
  refine XPA.pu rfl rfl Gd.free Rd.mv ?_
  refine XPA.pu rfl rfl Gd.free (Rd.nilCheck rfl) ?_
  refine XPA.pu rfl rfl Gd.free (Rd.fA rfl) ?_
  refine XPA.rd rfl rfl Gd.free (Rd.ldC rfl (tyrow rfl) rfl) ?_
  refine XPA.pu rfl rfl Gd.free (Rd.nilCheck rfl) ?_
  refine XPA.pu rfl rfl Gd.free (Rd.fA rfl) ?_
  refine XPA.rd rfl rfl Gd.free (Rd.ldC rfl (tyrow rfl) rfl) ?_
  refine XPA.pu rfl rfl Gd.free Rd.mv ?_
  refine XPA.rd rfl rfl Gd.free (Rd.ldA rfl) ?_
  refine XPA.wrZ0 rfl rfl Gd.free (by kernel_rfl) (WrA.cE (write_a σ db d a w hw hlen) rfl) ?_
  rintro _ _ _ ⟨_, ⟨rfl, rfl, rfl⟩, rfl⟩
  refine XPA.cl ?_
  refine XPA.nil ?_
  refine DA.thn_normal ?_
  refine XA.seq ?_
  refine XA.region ?_
  refine XOA.rd rfl Rd.mv ?_
  refine XOA.rd rfl Rd.asg ?_
  refine XOA.rd rfl Rd.asg ?_
  refine XOA.nil ?_
  refine DA.thn_normal ?_
  refine XA.ret ?_
  exact bodyA.ret (ResA.two rfl rfl rfl) (by (repeat (first | exact Ent.nil _ | (apply Ent.sel; focus (first | ((repeat (first | with_reducible exact Sel.head | apply Sel.tail)); done) | ((repeat (first | exact Sel.head | apply Sel.tail)); done))) | apply Ent.selNil | apply Ent.selEmp)); (first | done | fail)) ⟨_, hf2, rfl, rfl, rfl⟩
end Go.Proofs.Ytplobdiknobhoaa
