/- The law DiskAgain: what its function does. -/
import Derived.Test.YtplobdiknobhoaaDk2
import Derived.Test.YtplobdiknobhoaaLaw
namespace Go.Proofs.Ytplobdiknobhoaa
open Go X
set_option maxHeartbeats 1000000
/-- A step of a disk. -/
structure Move where
  kind : Int
  at_ : Int
  w : List Int
  mask : Int
def Move.cells (m : Move) : List Value := i64 m.kind :: i64 m.at_ :: (ints m.w ++ [.int .u64 m.mask])
def rMove : RT Move := fun _ cs m => cs = m.cells ∧ m.w.length = 8 ∧ 0 ≤ m.mask ∧ m.mask < 18446744073709551616
theorem dec_move : Dec Try.prog 35 rMove := ⟨fun {H enc w fuel cs x} h => by
  obtain ⟨hl, hf⟩ := trod_fields (tyrow rfl) rfl h
  have c0 : ∀ T r, tyOf Try.prog T = some r → Try.prog.cellsOf T = r.size := fun T r hT => by obtain ⟨_, _, _, e⟩ := und_of hT; exact e
  obtain ⟨_, _, h0⟩ := hf (3, 0) (by simp)
  obtain ⟨_, _, h1⟩ := hf (3, 1) (by simp)
  obtain ⟨_, _, h2⟩ := hf (32, 2) (by simp)
  obtain ⟨_, _, h3⟩ := hf (33, 10) (by simp)
  simp only [c0 _ _ (tyrow rfl : tyOf Try.prog 3 = some _), c0 _ _ (tyrow rfl : tyOf Try.prog 32 = some _), c0 _ _ (tyrow rfl : tyOf Try.prog 33 = some _)] at h0 h1 h2 h3
  obtain ⟨a, ea, -⟩ := (Dec.int (tyrow rfl) rfl).out h0
  obtain ⟨b, eb, -⟩ := (Dec.int (tyrow rfl) rfl).out h1
  obtain ⟨ws, ew, hw, -⟩ := (Dec.words (tyrow rfl) rfl rfl (tyrow rfl) rfl rfl).out h2
  obtain ⟨m, em, m0, m1⟩ := (Dec.int (tyrow rfl) rfl).out h3
  refine ⟨⟨a, b, ws, m⟩, ?_, hw, by simpa [IntKind.min, IntKind.signed] using m0, ?_⟩
  · have p0 := dropParts cs 0 1
    have p1 := dropParts cs 1 1
    have p2 := dropParts cs 2 8
    have p3 := dropParts cs 10 1
    have p4 : cs.drop 11 = [] := List.drop_eq_nil_of_le (by rw [hl]; exact Nat.le_refl _)
    rw [ea] at p0; rw [eb] at p1; rw [ew] at p2; rw [em, p4] at p3
    rw [List.drop_zero] at p0
    rw [p0, p1, p2, p3]; rfl
  · have : IntKind.u64.max = 18446744073709551615 := rfl
    rw [this] at m1; simp only; omega⟩
theorem begun_a (σ : PH) : CallsA Try.prog 13 #[] σ [] (RetA fun v σ' Γ' => v = .bool true ∧ σ = σ' ∧ Γ' = []) := by
  refine enterA0 Try.func13 rfl rfl rfl ?_
  refine XA.seq ?_
  refine XA.region ?_
  refine XOA.rd rfl (Rd.assign (by with_reducible (conv => lhs; whnf))) ?_
  refine XOA.nil ?_
  refine DA.thn_normal ?_
  refine XA.seq ?_
  refine XA.region ?_
  refine XOA.wr0 rfl (WrA.callE (by (repeat (first | exact Ent.all _ | (apply Ent.take; focus (first | ((repeat (first | with_reducible exact Sel.head | apply Sel.tail)); done) | ((repeat (first | exact Sel.head | apply Sel.tail)); done))) | apply Ent.takeNil | apply Ent.takeEmp)); (first | done | fail)) (new_a σ) rfl) ?_
  rintro _ _ _ ⟨_, ⟨b, rfl, rfl, rfl⟩, rfl⟩
  refine XOA.re (by conv => lhs; dsimp only [List.cons_append, List.nil_append]) ?_
  refine XOA.rd rfl (Rd.assign (by with_reducible (conv => lhs; whnf))) ?_
  refine XOA.nil ?_
  refine DA.thn_normal ?_
  refine XA.seq ?_
  refine XA.region ?_
  refine XOA.rd rfl (Rd.move (by with_reducible (conv => lhs; whnf))) ?_
  refine XOA.rd rfl (Rd.buildA (fun _ _ => tyrow) rfl rfl rfl rfl (by first | rfl | assumption | (conv => lhs; simp [bld, splice, Value.cells, *]))) ?_
  refine XOA.wr0 rfl (WrA.callE (by (repeat (first | exact Ent.all _ | (apply Ent.take; focus (first | ((repeat (first | with_reducible exact Sel.head | apply Sel.tail)); done) | ((repeat (first | exact Sel.head | apply Sel.tail)); done))) | apply Ent.takeNil | apply Ent.takeEmp)); (first | done | fail)) (write_a σ b DiskS.new 3 [7, 0, 0, 0, 0, 0, 0, 0] rfl (by decide)) rfl) ?_
  rintro _ _ _ ⟨_, ⟨rfl, rfl, rfl⟩, rfl⟩
  refine XOA.re (by conv => lhs; dsimp only [List.cons_append, List.nil_append]) ?_
  refine XOA.rd rfl (Rd.assign (by with_reducible (conv => lhs; whnf))) ?_
  refine XOA.nil ?_
  refine DA.thn_normal ?_
  refine XA.seq ?_
  refine XA.region ?_
  refine XOA.rd rfl (Rd.move (by with_reducible (conv => lhs; whnf))) ?_
  refine XOA.rd rfl (Rd.buildA (fun _ _ => tyrow) rfl rfl rfl rfl (by first | rfl | assumption | (conv => lhs; simp [bld, splice, Value.cells, *]))) ?_
  refine XOA.wr0 rfl (WrA.callE (by (repeat (first | exact Ent.all _ | (apply Ent.take; focus (first | ((repeat (first | with_reducible exact Sel.head | apply Sel.tail)); done) | ((repeat (first | exact Sel.head | apply Sel.tail)); done))) | apply Ent.takeNil | apply Ent.takeEmp)); (first | done | fail)) (write_a σ b _ 3 [8, 0, 0, 0, 0, 0, 0, 0] rfl (by decide)) rfl) ?_
  rintro _ _ _ ⟨_, ⟨rfl, rfl, rfl⟩, rfl⟩
  refine XOA.re (by conv => lhs; dsimp only [List.cons_append, List.nil_append]) ?_
  refine XOA.rd rfl (Rd.assign (by with_reducible (conv => lhs; whnf))) ?_
  refine XOA.nil ?_
  refine DA.thn_normal ?_
  refine XA.seq ?_
  refine XA.region ?_
  refine XOA.rd rfl (Rd.move (by with_reducible (conv => lhs; whnf))) ?_
  refine XOA.rd rfl (Rd.buildA (fun _ _ => tyrow) rfl rfl rfl rfl (by first | rfl | assumption | (conv => lhs; simp [bld, splice, Value.cells, *]))) ?_
  refine XOA.wr0 rfl (WrA.callE (by (repeat (first | exact Ent.all _ | (apply Ent.take; focus (first | ((repeat (first | with_reducible exact Sel.head | apply Sel.tail)); done) | ((repeat (first | exact Sel.head | apply Sel.tail)); done))) | apply Ent.takeNil | apply Ent.takeEmp)); (first | done | fail)) (write_a σ b _ 34 [0, 0, 0, 0, 0, 0, 0, 0] rfl (by decide)) rfl) ?_
  rintro _ _ _ ⟨_, ⟨rfl, rfl, rfl⟩, rfl⟩
  refine XOA.re (by conv => lhs; dsimp only [List.cons_append, List.nil_append]) ?_
  refine XOA.rd rfl (Rd.assign (by with_reducible (conv => lhs; whnf))) ?_
  refine XOA.nil ?_
  refine DA.thn_normal ?_
  refine XA.seq ?_
  refine XA.region ?_
  refine XOA.rd rfl (Rd.move (by with_reducible (conv => lhs; whnf))) ?_
  refine XOA.wr0 rfl (WrA.callE (by (repeat (first | exact Ent.all _ | (apply Ent.take; focus (first | ((repeat (first | with_reducible exact Sel.head | apply Sel.tail)); done) | ((repeat (first | exact Sel.head | apply Sel.tail)); done))) | apply Ent.takeNil | apply Ent.takeEmp)); (first | done | fail)) (read_a σ b _ 3 (by decide)) rfl) ?_
  rintro _ _ _ ⟨_, ⟨rfl, rfl, rfl⟩, rfl⟩
  refine XOA.re (by conv => lhs; dsimp only [List.cons_append, List.nil_append]) ?_
  refine XOA.wr0 rfl (WrA.alloc (tyrow rfl)) ?_
  rintro _ _ _ ⟨g5, rfl, rfl, rfl⟩
  refine XOA.wr0 rfl (by apply WrA.store; exact tyrow rfl; rfl; (focus (first | (((repeat (first | with_reducible exact Sel.head | apply Sel.tail)); (first | done | fail))))); exact (by with_reducible (conv => lhs; whnf)); exact (by first | exact wv_cells _ | exact agg_cells _ | rfl); exact (by first | rfl | assumption | (simp [*]; (first | done | fail)) | (simp [*]; (first | done | fail))); exact (by first | exact Nat.le_refl _ | exact hfit | decide | (simp [*]; (first | done | fail)) | (simp; omega)); exact (by (repeat (first | assumption | exact ones_ints _ | exact ones_lit rfl | refine ones_cons rfl ?_ | refine ones_append ?_ ?_)); (first | done | fail)); exact (by first | ((with_reducible apply splice_all); (first | rfl | (simp [*]; (first | done | fail)))) | assumption | exact hspl _ | (conv => lhs; simp only [splice, List.take_zero, List.take_succ_cons, List.drop_zero, List.drop_succ_cons, List.length_cons, List.length_nil, List.nil_append, List.cons_append, List.append_nil, List.append_eq, Nat.reduceAdd, Nat.zero_add, Nat.add_zero]) | rfl)) ?_
  rintro _ _ _ ⟨rfl, rfl, rfl⟩
  refine XOA.nil ?_
  refine DA.thn_normal ?_
  refine XA.seq ?_
  refine XA.region ?_
  refine XOA.rd rfl (Rd.move (by with_reducible (conv => lhs; whnf))) ?_
  refine XOA.wr0 rfl (WrA.callE (by (repeat (first | exact Ent.all _ | (apply Ent.take; focus (first | ((repeat (first | with_reducible exact Sel.head | apply Sel.tail)); done) | ((repeat (first | exact Sel.head | apply Sel.tail)); done))) | apply Ent.takeNil | apply Ent.takeEmp)); (first | done | fail)) (crash_a σ b _ 1 (by decide) (by decide) (by decide)) rfl) ?_
  rintro _ _ _ ⟨_, ⟨rfl, rfl, rfl⟩, rfl⟩
  refine XOA.re (by conv => lhs; dsimp only [List.cons_append, List.nil_append]) ?_
  refine XOA.nil ?_
  refine DA.thn_normal ?_
  refine XA.seq ?_
  refine XA.region ?_
  refine XOA.rd rfl (Rd.move (by with_reducible (conv => lhs; whnf))) ?_
  refine XOA.rd rfl (Rd.move (by with_reducible (conv => lhs; whnf))) ?_
  first | (refine XOA.wanted rfl rfl ?_; refine XOA.rd rfl (Rd.move (by with_reducible (conv => lhs; whnf))) ?_) | (refine XOA.wantedP rfl rfl (by first | exact (rfl : decide _ = true) | exact (rfl : decide _ = false) | (refine decide_eq_true ?_; assumption) | (refine decide_eq_false ?_; assumption) | (refine decide_eq_true ?_; omega) | (refine decide_eq_false ?_; omega)) ?_; refine XOA.rd rfl (Rd.move (by with_reducible (conv => lhs; whnf))) ?_) | refine XOA.unwanted rfl rfl rfl rfl ?_ | refine XOA.unwantedP rfl rfl rfl (by first | exact (rfl : decide _ = true) | exact (rfl : decide _ = false) | (refine decide_eq_true ?_; assumption) | (refine decide_eq_false ?_; assumption) | (refine decide_eq_true ?_; omega) | (refine decide_eq_false ?_; omega)) ?_ | refine XOA.unwantedU rfl rfl rfl ?_
  refine XOA.rd rfl (by first | exact Rd.pickT rfl (by with_reducible (conv => lhs; whnf)) | exact Rd.pickF rfl (by with_reducible (conv => lhs; whnf)) | exact Rd.pickP rfl (by first | exact (rfl : decide _ = true) | exact (rfl : decide _ = false) | (refine decide_eq_true ?_; assumption) | (refine decide_eq_false ?_; assumption) | (refine decide_eq_true ?_; omega) | (refine decide_eq_false ?_; omega)) (by with_reducible (conv => lhs; whnf))) ?_
  refine XOA.rd rfl (Rd.move (by with_reducible (conv => lhs; whnf))) ?_
  first | (refine XOA.wanted rfl rfl ?_; refine XOA.rd rfl (Rd.move (by with_reducible (conv => lhs; whnf))) ?_) | (refine XOA.wantedP rfl rfl (by first | exact (rfl : decide _ = true) | exact (rfl : decide _ = false) | (refine decide_eq_true ?_; assumption) | (refine decide_eq_false ?_; assumption) | (refine decide_eq_true ?_; omega) | (refine decide_eq_false ?_; omega)) ?_; refine XOA.rd rfl (Rd.move (by with_reducible (conv => lhs; whnf))) ?_) | refine XOA.unwanted rfl rfl rfl rfl ?_ | refine XOA.unwantedP rfl rfl rfl (by first | exact (rfl : decide _ = true) | exact (rfl : decide _ = false) | (refine decide_eq_true ?_; assumption) | (refine decide_eq_false ?_; assumption) | (refine decide_eq_true ?_; omega) | (refine decide_eq_false ?_; omega)) ?_ | refine XOA.unwantedU rfl rfl rfl ?_
  first | (refine XOA.wanted rfl rfl ?_; refine XOA.rd rfl (by first | exact Rd.notp rfl | exact Rd.not rfl) ?_) | (refine XOA.wantedP rfl rfl (by first | exact (rfl : decide _ = true) | exact (rfl : decide _ = false) | (refine decide_eq_true ?_; assumption) | (refine decide_eq_false ?_; assumption) | (refine decide_eq_true ?_; omega) | (refine decide_eq_false ?_; omega)) ?_; refine XOA.rd rfl (by first | exact Rd.notp rfl | exact Rd.not rfl) ?_) | refine XOA.unwanted rfl rfl rfl rfl ?_ | refine XOA.unwantedP rfl rfl rfl (by first | exact (rfl : decide _ = true) | exact (rfl : decide _ = false) | (refine decide_eq_true ?_; assumption) | (refine decide_eq_false ?_; assumption) | (refine decide_eq_true ?_; omega) | (refine decide_eq_false ?_; omega)) ?_ | refine XOA.unwantedU rfl rfl rfl ?_
  refine XOA.rd rfl (by first | exact Rd.pickT rfl (by with_reducible (conv => lhs; whnf)) | exact Rd.pickF rfl (by with_reducible (conv => lhs; whnf)) | exact Rd.pickP rfl (by first | exact (rfl : decide _ = true) | exact (rfl : decide _ = false) | (refine decide_eq_true ?_; assumption) | (refine decide_eq_false ?_; assumption) | (refine decide_eq_true ?_; omega) | (refine decide_eq_false ?_; omega)) (by with_reducible (conv => lhs; whnf))) ?_
  refine XOA.rd rfl (Rd.move (by with_reducible (conv => lhs; whnf))) ?_
  first | (refine XOA.wanted rfl rfl ?_; refine XOA.rd rfl (by apply Rd.indexArray; exact tyrow rfl; rfl; exact tyrow rfl; rfl; rfl; exact (by first | omega | decide | (simp; omega)); exact (by with_reducible (conv => lhs; whnf)); exact (by first | (conv => lhs; simp only [Nat.reduceAdd, Nat.zero_add, Nat.add_zero, Nat.reduceMul, Nat.mul_one, Int.toNat_natCast, Int.reduceToNat, Nat.zero_mul]) | rfl)) ?_) | (refine XOA.wantedP rfl rfl (by first | exact (rfl : decide _ = true) | exact (rfl : decide _ = false) | (refine decide_eq_true ?_; assumption) | (refine decide_eq_false ?_; assumption) | (refine decide_eq_true ?_; omega) | (refine decide_eq_false ?_; omega)) ?_; refine XOA.rd rfl (by apply Rd.indexArray; exact tyrow rfl; rfl; exact tyrow rfl; rfl; rfl; exact (by first | omega | decide | (simp; omega)); exact (by with_reducible (conv => lhs; whnf)); exact (by first | (conv => lhs; simp only [Nat.reduceAdd, Nat.zero_add, Nat.add_zero, Nat.reduceMul, Nat.mul_one, Int.toNat_natCast, Int.reduceToNat, Nat.zero_mul]) | rfl)) ?_) | refine XOA.unwanted rfl rfl rfl rfl ?_ | refine XOA.unwantedP rfl rfl rfl (by first | exact (rfl : decide _ = true) | exact (rfl : decide _ = false) | (refine decide_eq_true ?_; assumption) | (refine decide_eq_false ?_; assumption) | (refine decide_eq_true ?_; omega) | (refine decide_eq_false ?_; omega)) ?_ | refine XOA.unwantedU rfl rfl rfl ?_
  first | (refine XOA.wanted rfl rfl ?_; refine XOA.rd rfl (Rd.load rfl (Ld.atC (tyrow rfl) rfl (by first | (exact AtC.blk (by ((repeat (first | with_reducible exact Sel.head | apply Sel.tail)); (first | done | fail))) (by first | rfl | assumption)) | (exact AtC.per (by first | assumption)) | (exact AtC.lst (by ((repeat (first | with_reducible exact Sel.head | apply Sel.tail)); (first | done | fail))) (by first | rfl | assumption))))) ?_) | (refine XOA.wantedP rfl rfl (by first | exact (rfl : decide _ = true) | exact (rfl : decide _ = false) | (refine decide_eq_true ?_; assumption) | (refine decide_eq_false ?_; assumption) | (refine decide_eq_true ?_; omega) | (refine decide_eq_false ?_; omega)) ?_; refine XOA.rd rfl (Rd.load rfl (Ld.atC (tyrow rfl) rfl (by first | (exact AtC.blk (by ((repeat (first | with_reducible exact Sel.head | apply Sel.tail)); (first | done | fail))) (by first | rfl | assumption)) | (exact AtC.per (by first | assumption)) | (exact AtC.lst (by ((repeat (first | with_reducible exact Sel.head | apply Sel.tail)); (first | done | fail))) (by first | rfl | assumption))))) ?_) | refine XOA.unwanted rfl rfl rfl rfl ?_ | refine XOA.unwantedP rfl rfl rfl (by first | exact (rfl : decide _ = true) | exact (rfl : decide _ = false) | (refine decide_eq_true ?_; assumption) | (refine decide_eq_false ?_; assumption) | (refine decide_eq_true ?_; omega) | (refine decide_eq_false ?_; omega)) ?_ | refine XOA.unwantedU rfl rfl rfl ?_
  first | (refine XOA.wanted rfl rfl ?_; refine XOA.rd rfl (Rd.eql rfl rfl) ?_) | (refine XOA.wantedP rfl rfl (by first | exact (rfl : decide _ = true) | exact (rfl : decide _ = false) | (refine decide_eq_true ?_; assumption) | (refine decide_eq_false ?_; assumption) | (refine decide_eq_true ?_; omega) | (refine decide_eq_false ?_; omega)) ?_; refine XOA.rd rfl (Rd.eql rfl rfl) ?_) | refine XOA.unwanted rfl rfl rfl rfl ?_ | refine XOA.unwantedP rfl rfl rfl (by first | exact (rfl : decide _ = true) | exact (rfl : decide _ = false) | (refine decide_eq_true ?_; assumption) | (refine decide_eq_false ?_; assumption) | (refine decide_eq_true ?_; omega) | (refine decide_eq_false ?_; omega)) ?_ | refine XOA.unwantedU rfl rfl rfl ?_
  refine XOA.rd rfl (by first | exact Rd.pickT rfl (by with_reducible (conv => lhs; whnf)) | exact Rd.pickF rfl (by with_reducible (conv => lhs; whnf)) | exact Rd.pickP rfl (by first | exact (rfl : decide _ = true) | exact (rfl : decide _ = false) | (refine decide_eq_true ?_; assumption) | (refine decide_eq_false ?_; assumption) | (refine decide_eq_true ?_; omega) | (refine decide_eq_false ?_; omega)) (by with_reducible (conv => lhs; whnf))) ?_
  refine XOA.rd rfl (Rd.move (by with_reducible (conv => lhs; whnf))) ?_
  first | (refine XOA.wanted rfl rfl ?_; refine XOA.rd rfl (Rd.move (by with_reducible (conv => lhs; whnf))) ?_) | (refine XOA.wantedP rfl rfl (by first | exact (rfl : decide _ = true) | exact (rfl : decide _ = false) | (refine decide_eq_true ?_; assumption) | (refine decide_eq_false ?_; assumption) | (refine decide_eq_true ?_; omega) | (refine decide_eq_false ?_; omega)) ?_; refine XOA.rd rfl (Rd.move (by with_reducible (conv => lhs; whnf))) ?_) | refine XOA.unwanted rfl rfl rfl rfl ?_ | refine XOA.unwantedP rfl rfl rfl (by first | exact (rfl : decide _ = true) | exact (rfl : decide _ = false) | (refine decide_eq_true ?_; assumption) | (refine decide_eq_false ?_; assumption) | (refine decide_eq_true ?_; omega) | (refine decide_eq_false ?_; omega)) ?_ | refine XOA.unwantedU rfl rfl rfl ?_
  first | refine XOA.wanted rfl rfl ?_ | refine XOA.wantedP rfl rfl (by first | exact (rfl : decide _ = true) | exact (rfl : decide _ = false) | (refine decide_eq_true ?_; assumption) | (refine decide_eq_false ?_; assumption) | (refine decide_eq_true ?_; omega) | (refine decide_eq_false ?_; omega)) ?_
  refine XOA.wr0 rfl (WrA.callE (by (repeat (first | exact Ent.all _ | (apply Ent.take; focus (first | ((repeat (first | with_reducible exact Sel.head | apply Sel.tail)); done) | ((repeat (first | exact Sel.head | apply Sel.tail)); done))) | apply Ent.takeNil | apply Ent.takeEmp)); (first | done | fail)) (read_a σ b _ 3 (by decide)) rfl) ?_
  rintro _ _ _ ⟨_, ⟨rfl, rfl, rfl⟩, rfl⟩
  refine XOA.re (by conv => lhs; dsimp only [List.cons_append, List.nil_append]) ?_
  first | (refine XOA.wanted rfl rfl ?_; refine XOA.rd rfl (by apply Rd.indexAgg; exact tyrow rfl; rfl; exact tyrow rfl; rfl; rfl; rfl; rfl; exact (by first | omega | decide | (simp; omega)); exact (by first | rfl | assumption)) ?_) | (refine XOA.wantedP rfl rfl (by first | exact (rfl : decide _ = true) | exact (rfl : decide _ = false) | (refine decide_eq_true ?_; assumption) | (refine decide_eq_false ?_; assumption) | (refine decide_eq_true ?_; omega) | (refine decide_eq_false ?_; omega)) ?_; refine XOA.rd rfl (by apply Rd.indexAgg; exact tyrow rfl; rfl; exact tyrow rfl; rfl; rfl; rfl; rfl; exact (by first | omega | decide | (simp; omega)); exact (by first | rfl | assumption)) ?_) | refine XOA.unwanted rfl rfl rfl rfl ?_ | refine XOA.unwantedP rfl rfl rfl (by first | exact (rfl : decide _ = true) | exact (rfl : decide _ = false) | (refine decide_eq_true ?_; assumption) | (refine decide_eq_false ?_; assumption) | (refine decide_eq_true ?_; omega) | (refine decide_eq_false ?_; omega)) ?_ | refine XOA.unwantedU rfl rfl rfl ?_
  first | (refine XOA.wanted rfl rfl ?_; refine XOA.rd rfl (Rd.eql rfl rfl) ?_) | (refine XOA.wantedP rfl rfl (by first | exact (rfl : decide _ = true) | exact (rfl : decide _ = false) | (refine decide_eq_true ?_; assumption) | (refine decide_eq_false ?_; assumption) | (refine decide_eq_true ?_; omega) | (refine decide_eq_false ?_; omega)) ?_; refine XOA.rd rfl (Rd.eql rfl rfl) ?_) | refine XOA.unwanted rfl rfl rfl rfl ?_ | refine XOA.unwantedP rfl rfl rfl (by first | exact (rfl : decide _ = true) | exact (rfl : decide _ = false) | (refine decide_eq_true ?_; assumption) | (refine decide_eq_false ?_; assumption) | (refine decide_eq_true ?_; omega) | (refine decide_eq_false ?_; omega)) ?_ | refine XOA.unwantedU rfl rfl rfl ?_
  refine XOA.rd rfl (by first | exact Rd.pickT rfl (by with_reducible (conv => lhs; whnf)) | exact Rd.pickF rfl (by with_reducible (conv => lhs; whnf)) | exact Rd.pickP rfl (by first | exact (rfl : decide _ = true) | exact (rfl : decide _ = false) | (refine decide_eq_true ?_; assumption) | (refine decide_eq_false ?_; assumption) | (refine decide_eq_true ?_; omega) | (refine decide_eq_false ?_; omega)) (by with_reducible (conv => lhs; whnf))) ?_
  refine XOA.rd rfl (Rd.move (by with_reducible (conv => lhs; whnf))) ?_
  first | (refine XOA.wanted rfl rfl ?_; refine XOA.rd rfl (Rd.move (by with_reducible (conv => lhs; whnf))) ?_) | (refine XOA.wantedP rfl rfl (by first | exact (rfl : decide _ = true) | exact (rfl : decide _ = false) | (refine decide_eq_true ?_; assumption) | (refine decide_eq_false ?_; assumption) | (refine decide_eq_true ?_; omega) | (refine decide_eq_false ?_; omega)) ?_; refine XOA.rd rfl (Rd.move (by with_reducible (conv => lhs; whnf))) ?_) | refine XOA.unwanted rfl rfl rfl rfl ?_ | refine XOA.unwantedP rfl rfl rfl (by first | exact (rfl : decide _ = true) | exact (rfl : decide _ = false) | (refine decide_eq_true ?_; assumption) | (refine decide_eq_false ?_; assumption) | (refine decide_eq_true ?_; omega) | (refine decide_eq_false ?_; omega)) ?_ | refine XOA.unwantedU rfl rfl rfl ?_
  first | refine XOA.wanted rfl rfl ?_ | refine XOA.wantedP rfl rfl (by first | exact (rfl : decide _ = true) | exact (rfl : decide _ = false) | (refine decide_eq_true ?_; assumption) | (refine decide_eq_false ?_; assumption) | (refine decide_eq_true ?_; omega) | (refine decide_eq_false ?_; omega)) ?_
  refine XOA.wr0 rfl (WrA.callE (by (repeat (first | exact Ent.all _ | (apply Ent.take; focus (first | ((repeat (first | with_reducible exact Sel.head | apply Sel.tail)); done) | ((repeat (first | exact Sel.head | apply Sel.tail)); done))) | apply Ent.takeNil | apply Ent.takeEmp)); (first | done | fail)) (wait_a σ b _) rfl) ?_
  rintro _ _ _ ⟨_, ⟨rfl, rfl, rfl⟩, rfl⟩
  refine XOA.re (by conv => lhs; dsimp only [List.cons_append, List.nil_append]) ?_
  first | (refine XOA.wanted rfl rfl ?_; refine XOA.rd rfl (Rd.eql rfl rfl) ?_) | (refine XOA.wantedP rfl rfl (by first | exact (rfl : decide _ = true) | exact (rfl : decide _ = false) | (refine decide_eq_true ?_; assumption) | (refine decide_eq_false ?_; assumption) | (refine decide_eq_true ?_; omega) | (refine decide_eq_false ?_; omega)) ?_; refine XOA.rd rfl (Rd.eql rfl rfl) ?_) | refine XOA.unwanted rfl rfl rfl rfl ?_ | refine XOA.unwantedP rfl rfl rfl (by first | exact (rfl : decide _ = true) | exact (rfl : decide _ = false) | (refine decide_eq_true ?_; assumption) | (refine decide_eq_false ?_; assumption) | (refine decide_eq_true ?_; omega) | (refine decide_eq_false ?_; omega)) ?_ | refine XOA.unwantedU rfl rfl rfl ?_
  refine XOA.rd rfl (by first | exact Rd.pickT rfl (by with_reducible (conv => lhs; whnf)) | exact Rd.pickF rfl (by with_reducible (conv => lhs; whnf)) | exact Rd.pickP rfl (by first | exact (rfl : decide _ = true) | exact (rfl : decide _ = false) | (refine decide_eq_true ?_; assumption) | (refine decide_eq_false ?_; assumption) | (refine decide_eq_true ?_; omega) | (refine decide_eq_false ?_; omega)) (by with_reducible (conv => lhs; whnf))) ?_
  refine XOA.rd rfl (Rd.move (by with_reducible (conv => lhs; whnf))) ?_
  first | (refine XOA.wanted rfl rfl ?_; refine XOA.rd rfl (Rd.move (by with_reducible (conv => lhs; whnf))) ?_) | (refine XOA.wantedP rfl rfl (by first | exact (rfl : decide _ = true) | exact (rfl : decide _ = false) | (refine decide_eq_true ?_; assumption) | (refine decide_eq_false ?_; assumption) | (refine decide_eq_true ?_; omega) | (refine decide_eq_false ?_; omega)) ?_; refine XOA.rd rfl (Rd.move (by with_reducible (conv => lhs; whnf))) ?_) | refine XOA.unwanted rfl rfl rfl rfl ?_ | refine XOA.unwantedP rfl rfl rfl (by first | exact (rfl : decide _ = true) | exact (rfl : decide _ = false) | (refine decide_eq_true ?_; assumption) | (refine decide_eq_false ?_; assumption) | (refine decide_eq_true ?_; omega) | (refine decide_eq_false ?_; omega)) ?_ | refine XOA.unwantedU rfl rfl rfl ?_
  first | refine XOA.wanted rfl rfl ?_ | refine XOA.wantedP rfl rfl (by first | exact (rfl : decide _ = true) | exact (rfl : decide _ = false) | (refine decide_eq_true ?_; assumption) | (refine decide_eq_false ?_; assumption) | (refine decide_eq_true ?_; omega) | (refine decide_eq_false ?_; omega)) ?_
  refine XOA.wr0 rfl (WrA.callE (by (repeat (first | exact Ent.all _ | (apply Ent.take; focus (first | ((repeat (first | with_reducible exact Sel.head | apply Sel.tail)); done) | ((repeat (first | exact Sel.head | apply Sel.tail)); done))) | apply Ent.takeNil | apply Ent.takeEmp)); (first | done | fail)) (sure_a σ b _) rfl) ?_
  rintro _ _ _ ⟨_, ⟨gs, cs, rfl, rfl, rfl⟩, rfl⟩
  refine XOA.re (by conv => lhs; dsimp only [List.cons_append, List.nil_append]) ?_
  first | (refine XOA.wanted rfl rfl ?_; refine XOA.rd rfl (Rd.lenSlice (tyrow rfl) rfl rfl) ?_) | (refine XOA.wantedP rfl rfl (by first | exact (rfl : decide _ = true) | exact (rfl : decide _ = false) | (refine decide_eq_true ?_; assumption) | (refine decide_eq_false ?_; assumption) | (refine decide_eq_true ?_; omega) | (refine decide_eq_false ?_; omega)) ?_; refine XOA.rd rfl (Rd.lenSlice (tyrow rfl) rfl rfl) ?_) | refine XOA.unwanted rfl rfl rfl rfl ?_ | refine XOA.unwantedP rfl rfl rfl (by first | exact (rfl : decide _ = true) | exact (rfl : decide _ = false) | (refine decide_eq_true ?_; assumption) | (refine decide_eq_false ?_; assumption) | (refine decide_eq_true ?_; omega) | (refine decide_eq_false ?_; omega)) ?_ | refine XOA.unwantedU rfl rfl rfl ?_
  first | (refine XOA.wanted rfl rfl ?_; refine XOA.rd rfl (Rd.eql rfl rfl) ?_) | (refine XOA.wantedP rfl rfl (by first | exact (rfl : decide _ = true) | exact (rfl : decide _ = false) | (refine decide_eq_true ?_; assumption) | (refine decide_eq_false ?_; assumption) | (refine decide_eq_true ?_; omega) | (refine decide_eq_false ?_; omega)) ?_; refine XOA.rd rfl (Rd.eql rfl rfl) ?_) | refine XOA.unwanted rfl rfl rfl rfl ?_ | refine XOA.unwantedP rfl rfl rfl (by first | exact (rfl : decide _ = true) | exact (rfl : decide _ = false) | (refine decide_eq_true ?_; assumption) | (refine decide_eq_false ?_; assumption) | (refine decide_eq_true ?_; omega) | (refine decide_eq_false ?_; omega)) ?_ | refine XOA.unwantedU rfl rfl rfl ?_
  refine XOA.rd rfl (by first | exact Rd.pickT rfl (by with_reducible (conv => lhs; whnf)) | exact Rd.pickF rfl (by with_reducible (conv => lhs; whnf)) | exact Rd.pickP rfl (by first | exact (rfl : decide _ = true) | exact (rfl : decide _ = false) | (refine decide_eq_true ?_; assumption) | (refine decide_eq_false ?_; assumption) | (refine decide_eq_true ?_; omega) | (refine decide_eq_false ?_; omega)) (by with_reducible (conv => lhs; whnf))) ?_
  refine XOA.rd rfl (Rd.assign (by with_reducible (conv => lhs; whnf))) ?_
  refine XOA.nil ?_
  refine DA.thn_normal ?_
  refine XA.ret ?_
  exact bodyA.ret (ResA.one rfl rfl) (by (repeat (first | exact Ent.nil _ | (apply Ent.sel; focus (first | ((repeat (first | with_reducible exact Sel.head | apply Sel.tail)); done) | ((repeat (first | exact Sel.head | apply Sel.tail)); done))) | apply Ent.selNil | apply Ent.selEmp)); (first | done | fail)) ⟨rfl, rfl, rfl⟩
theorem read_settled {d : DiskS} {p : Nat → Bool} {k : Nat} {w : List Int} (hk : k < 34) (hw : (d.settle p).l[k]? = some w) : (d.settle p).read (k : Int) = w := by
  rw [DiskS.read, if_pos (by omega), Int.toNat_natCast, List.getD_eq_getElem?_getD, hw]; rfl
theorem settled_ok {d : DiskS} (hd : d.ok) (p : Nat → Bool) : (d.settle p).ok := by
  have hset : (d.wait.zipIdx).take d.wait.length = d.wait.zipIdx := List.take_of_length_le (by simp)
  have hfin : (d.settle p).l = d.part p d.wait.length := by simp only [DiskS.settle, DiskS.part, hset]
  have hpo := part_ok hd p d.wait.length
  exact ⟨by rw [hfin]; exact hpo.1, by rw [hfin]; exact hpo.2, by simp [DiskS.settle]⟩
theorem crow {d : DiskS} (hd : d.ok) {k : Nat} {w : List Int} (hk : d.l[k]? = some w) : (d.cells.drop (k * 8)).take 8 = ints w := by
  have h1 := flat_row (fun w => ints w) 8 d.l (fun x hx => by simp [hd.2.1 x hx]) k w hk
  have h2 : d.cells = d.l.flatMap (fun w => ints w) := by simp [DiskS.cells, ints, List.flatMap, List.map_flatten]
  have hw : w.length = 8 := hd.2.1 w (List.mem_of_getElem? hk)
  rw [show (ints w).length = 8 from by simp [hw]] at h1
  rw [h2]; exact h1
theorem write_len (d : DiskS) (a : Int) (w : List Int) : (d.write a w).wait.length ≤ d.wait.length + 1 := by
  unfold DiskS.write; split <;> simp
theorem again_a (σ : PH) (v : Value) (ms : List Move) (m n : Int) (hms : PSl 11 rMove σ v ms) (hm0 : 0 ≤ m) (hm1 : m < 18446744073709551616) (hn0 : 0 ≤ n) (hn1 : n < 18446744073709551616) :
    CallsA Try.prog 5 #[v, .int .u64 m, .int .u64 n] σ [] (RetA fun v σ' Γ' => v = .bool true ∧ σ.sub σ') := by
  obtain ⟨p, c, rfl, -, -⟩ := hms.shape
  refine enterA3 Try.func5 rfl rfl rfl ?_
  refine XA.seq ?_
  refine XA.region ?_
  refine XOA.rd rfl (Rd.assign (by with_reducible (conv => lhs; whnf))) ?_
  refine XOA.nil ?_
  refine DA.thn_normal ?_
  refine XA.seq ?_
  refine XA.seq ?_
  refine XA.region ?_
  refine XOA.wr0 rfl (WrA.callE (by (repeat (first | exact Ent.all _ | (apply Ent.take; focus (first | ((repeat (first | with_reducible exact Sel.head | apply Sel.tail)); done) | ((repeat (first | exact Sel.head | apply Sel.tail)); done))) | apply Ent.takeNil | apply Ent.takeEmp)); (first | done | fail)) (begun_a σ) rfl) ?_
  rintro _ _ _ ⟨_, ⟨rfl, rfl, rfl⟩, rfl⟩
  refine XOA.re (by conv => lhs; dsimp only [List.cons_append, List.nil_append]) ?_
  refine XOA.rd rfl (by first | exact Rd.notp rfl | exact Rd.not rfl) ?_
  refine XOA.nil ?_
  refine DA.thn_normal ?_
  refine XA.condF rfl rfl ?_
  refine XA.skip ?_
  refine DA.thn_normal ?_
  refine XA.seq ?_
  refine XA.seq ?_
  refine XA.region ?_
  refine XOA.rd rfl (Rd.move (by with_reducible (conv => lhs; whnf))) ?_
  refine XOA.rd rfl (Rd.lenSlice (tyrow rfl) rfl rfl) ?_
  refine XOA.rd rfl (Rd.gtr rfl rfl) ?_
  refine XOA.nil ?_
  refine DA.thn_normal ?_
  refine XA.condp rfl (fun hgt => ?_) (fun hgt => ?_)
  · refine XA.seq ?_
    refine XA.region ?_
    refine XOA.rd rfl (Rd.assign (by with_reducible (conv => lhs; whnf))) ?_
    refine XOA.nil ?_
    refine DA.thn_normal ?_
    refine XA.ret ?_
    refine DA.thn_ret ?_
    exact bodyA.ret (ResA.one rfl rfl) (Ent.refl _) ⟨rfl, .refl _⟩
  refine XA.skip ?_
  refine DA.thn_normal ?_
  refine XA.seq ?_
  refine XA.region ?_
  refine XOA.wr0 rfl (WrA.callE (by (repeat (first | exact Ent.all _ | (apply Ent.take; focus (first | ((repeat (first | with_reducible exact Sel.head | apply Sel.tail)); done) | ((repeat (first | exact Sel.head | apply Sel.tail)); done))) | apply Ent.takeNil | apply Ent.takeEmp)); (first | done | fail)) (new_a σ) rfl) ?_
  rintro _ _ _ ⟨_, ⟨b, rfl, rfl, rfl⟩, rfl⟩
  refine XOA.re (by conv => lhs; dsimp only [List.cons_append, List.nil_append]) ?_
  refine XOA.rd rfl (Rd.assign (by with_reducible (conv => lhs; whnf))) ?_
  refine XOA.nil ?_
  refine DA.thn_normal ?_
  refine XA.seq ?_
  refine XA.seq ?_
  refine XA.region ?_
  refine XOA.rd rfl (Rd.assign (by with_reducible (conv => lhs; whnf))) ?_
  refine XOA.nil ?_
  refine DA.thn_normal ?_
  refine XA.block ?_
  refine XA.gen [(0, _), (1, _), (2, _), (6, _), (7, _), (8, _)] ⟨(by with_reducible (conv => lhs; whnf)), (by with_reducible (conv => lhs; whnf)), (by with_reducible (conv => lhs; whnf)), (by with_reducible (conv => lhs; whnf)), (by with_reducible (conv => lhs; whnf)), (by with_reducible (conv => lhs; whnf)), trivial⟩ (fun δ => ?_)
  dsimp only [List.foldl]
  refine XA.loop [(8, 8), (19, 56)] (fun k : Nat => [(8, i64 k)]) (fun k σ' Γ' => σ = σ' ∧ k ≤ ms.length ∧ ∃ d : DiskS, d.ok ∧ d.wait.length ≤ k ∧ Γ' = [Disk b d]) (fun k => ms.length - k) 0 (by exact ⟨rfl, trivial⟩) (Δ0 := _) ?_ (⟨rfl, Nat.zero_le _, _, DiskS.ok_new, Nat.le_refl _, rfl⟩) ?_
  · exact (by (repeat (first | exact Ent.nil _ | (apply Ent.sel; focus (first | ((repeat (first | with_reducible exact Sel.head | apply Sel.tail)); done) | ((repeat (first | exact Sel.head | apply Sel.tail)); done))) | apply Ent.selNil | apply Ent.selEmp)); (first | done | fail))
  rintro k δ _ _ ⟨rfl, hk, d, hok, hwl, rfl⟩
  dsimp only [ovr, List.foldl]
  refine XA.seq ?_
  refine XA.seq ?_
  refine XA.region ?_
  refine XOA.rd rfl (Rd.move (by with_reducible (conv => lhs; whnf))) ?_
  refine XOA.rd rfl (Rd.move (by with_reducible (conv => lhs; whnf))) ?_
  refine XOA.rd rfl (Rd.lenSlice (tyrow rfl) rfl rfl) ?_
  refine XOA.rd rfl (Rd.lss rfl rfl) ?_
  refine XOA.nil ?_
  refine DA.thn_normal ?_
  refine XA.condp rfl (fun hlt => ?_) (fun hlt => ?_)
  · have hlt : k < ms.length := by omega
    obtain ⟨q, hq⟩ : ∃ q, ms[k]? = some q := ⟨_, List.getElem?_eq_getElem hlt⟩
    obtain ⟨g, o, row, rfl, ⟨rfl, hq8, hqm⟩, -, hrow⟩ := hms.at hq
    have hc0 : PRow σ g (o + k * 11) [i64 q.kind] := hrow.sub (j := 0) rfl
    have hc1 : PRow σ g (o + k * 11 + 1) [i64 q.at_] := hrow.sub (j := 1) rfl
    have hc2 : PRow σ g (o + k * 11 + 2) (ints q.w) := hrow.sub (j := 2) (by simp [Move.cells])
    have hc3 : PRow σ g (o + k * 11 + 10) [.int .u64 q.mask] := hrow.sub (j := 10) (by simp [Move.cells, hq8])
    refine XA.skip ?_
    refine DA.thn_normal ?_
    refine XA.seq ?_
    refine XA.block ?_
    refine XA.seq ?_
    refine XA.region ?_
    refine XOA.rd rfl (Rd.move (by with_reducible (conv => lhs; whnf))) ?_
    refine XOA.rd rfl (Rd.move (by with_reducible (conv => lhs; whnf))) ?_
    refine XOA.rd rfl (by apply Rd.indexSlice; exact tyrow rfl; rfl; exact tyrow rfl; rfl; rfl; exact (by first | omega | decide | (simp; omega)); exact (by with_reducible (conv => lhs; whnf)); exact (by first | (conv => lhs; simp only [Nat.reduceAdd, Nat.zero_add, Nat.add_zero, Nat.reduceMul, Nat.mul_one, Int.toNat_natCast, Int.reduceToNat, Nat.zero_mul]) | rfl)) ?_
    refine XOA.rd rfl (Rd.fieldAddr (tyrow rfl) rfl rfl (tyrow rfl) rfl rfl (by first | (conv => lhs; simp only [Nat.reduceAdd, Nat.zero_add, Nat.add_zero, Nat.reduceMul, Nat.mul_one, Int.toNat_natCast, Int.reduceToNat, Nat.zero_mul]) | rfl)) ?_
    refine XOA.rd rfl (Rd.load rfl (Ld.atC (tyrow rfl) rfl (by first | (exact AtC.blk (by ((repeat (first | with_reducible exact Sel.head | apply Sel.tail)); (first | done | fail))) (by first | rfl | assumption)) | (exact AtC.per (by first | assumption)) | (exact AtC.lst (by ((repeat (first | with_reducible exact Sel.head | apply Sel.tail)); (first | done | fail))) (by first | rfl | assumption))))) ?_
    refine XOA.nil ?_
    refine DA.thn_normal ?_
    refine XA.block ?_
    refine XA.seq ?_
    refine XA.region ?_
    refine XOA.rd rfl (Rd.eql rfl rfl) ?_
    refine XOA.rd rfl (Rd.assign (by with_reducible (conv => lhs; whnf))) ?_
    refine XOA.nil ?_
    refine DA.thn_normal ?_
    refine XA.condp rfl (fun k0 => ?_) (fun k0 => ?_)
    · skip
      refine XA.draw (by kernel_rfl) _ _ [11] [(0, .pu), (1, .pu), (2, .pu), (3, .pu), (4, .pu), (5, .rd), (6, .pu), (7, .pu), (8, .pu), (9, .pu), (10, .rd), (11, .wr)] (by kernel_rfl) (PH.sub.refl _) (Ent.nil _) ?_
      refine XPA.pu rfl rfl Gd.free (Rd.move (by with_reducible (conv => lhs; whnf))) ?_
      refine XPA.pu rfl rfl Gd.free (Rd.move (by with_reducible (conv => lhs; whnf))) ?_
      refine XPA.pu rfl rfl Gd.free (Rd.move (by with_reducible (conv => lhs; whnf))) ?_
      refine XPA.pu rfl rfl Gd.free (by apply Rd.indexSlice; exact tyrow rfl; rfl; exact tyrow rfl; rfl; rfl; exact (by first | omega | decide | (simp; omega)); exact (by with_reducible (conv => lhs; whnf)); exact (by first | (conv => lhs; simp only [Nat.reduceAdd, Nat.zero_add, Nat.add_zero, Nat.reduceMul, Nat.mul_one, Int.toNat_natCast, Int.reduceToNat, Nat.zero_mul]) | rfl)) ?_
      refine XPA.pu rfl rfl Gd.free (Rd.fieldAddr (tyrow rfl) rfl rfl (tyrow rfl) rfl rfl (by first | (conv => lhs; simp only [Nat.reduceAdd, Nat.zero_add, Nat.add_zero, Nat.reduceMul, Nat.mul_one, Int.toNat_natCast, Int.reduceToNat, Nat.zero_mul]) | rfl)) ?_
      refine XPA.rd rfl rfl Gd.free (Rd.load rfl (Ld.atC (tyrow rfl) rfl (by first | (exact AtC.blk (by ((repeat (first | with_reducible exact Sel.head | apply Sel.tail)); (first | done | fail))) (by first | rfl | assumption)) | (exact AtC.per (by first | assumption)) | (exact AtC.lst (by ((repeat (first | with_reducible exact Sel.head | apply Sel.tail)); (first | done | fail))) (by first | rfl | assumption))))) ?_
      refine XPA.pu rfl rfl Gd.free (Rd.move (by with_reducible (conv => lhs; whnf))) ?_
      refine XPA.pu rfl rfl Gd.free (Rd.move (by with_reducible (conv => lhs; whnf))) ?_
      refine XPA.pu rfl rfl Gd.free (by apply Rd.indexSlice; exact tyrow rfl; rfl; exact tyrow rfl; rfl; rfl; exact (by first | omega | decide | (simp; omega)); exact (by with_reducible (conv => lhs; whnf)); exact (by first | (conv => lhs; simp only [Nat.reduceAdd, Nat.zero_add, Nat.add_zero, Nat.reduceMul, Nat.mul_one, Int.toNat_natCast, Int.reduceToNat, Nat.zero_mul]) | rfl)) ?_
      refine XPA.pu rfl rfl Gd.free (Rd.fieldAddr (tyrow rfl) rfl rfl (tyrow rfl) rfl rfl (by first | (conv => lhs; simp only [Nat.reduceAdd, Nat.zero_add, Nat.add_zero, Nat.reduceMul, Nat.mul_one, Int.toNat_natCast, Int.reduceToNat, Nat.zero_mul]) | rfl)) ?_
      refine XPA.rd rfl rfl Gd.free (Rd.load rfl (by first | (exact Ld.atBlk (tyrow rfl) rfl (by ((repeat (first | with_reducible exact Sel.head | apply Sel.tail)); (first | done | fail))) rfl (by first | exact take0 (by first | rfl | assumption | (simp [*]; (first | done | fail)) | (simp [*]; (first | done | fail))) | assumption | exact take_app (by first | rfl | assumption | (simp [*]; (first | done | fail)) | (simp [*]; (first | done | fail))) | (conv => lhs; simp only [List.drop_succ_cons, List.drop_zero, List.take_succ_cons, List.take_zero])) (by first | rfl | assumption | (simp [*]; (first | done | fail)) | (simp [*]; (first | done | fail)))) | (exact Ld.at (tyrow rfl) rfl (At.per (by assumption)) (by first | rfl | assumption | (simp [*]; (first | done | fail)) | (simp [*]; (first | done | fail)))) | (exact Ld.atLst (tyrow rfl) rfl (by ((repeat (first | with_reducible exact Sel.head | apply Sel.tail)); (first | done | fail))) rfl (by first | exact take0 (by first | rfl | assumption | (simp [*]; (first | done | fail)) | (simp [*]; (first | done | fail))) | assumption | exact take_app (by first | rfl | assumption | (simp [*]; (first | done | fail)) | (simp [*]; (first | done | fail))) | (conv => lhs; simp only [List.drop_succ_cons, List.drop_zero, List.take_succ_cons, List.take_zero])) (by first | rfl | assumption | (simp [*]; (first | done | fail)) | (simp [*]; (first | done | fail)))))) ?_
      refine XPA.wrZ0 rfl rfl Gd.free (by kernel_rfl) (WrA.callE (by (repeat (first | exact Ent.all _ | (apply Ent.take; focus (first | ((repeat (first | with_reducible exact Sel.head | apply Sel.tail)); done) | ((repeat (first | exact Sel.head | apply Sel.tail)); done))) | apply Ent.takeNil | apply Ent.takeEmp)); (first | done | fail)) (write_a σ b d q.at_ q.w hq8 (by omega)) rfl) ?_
      rintro _ _ _ ⟨_, ⟨rfl, rfl, rfl⟩, rfl⟩
      refine XPA.re (by conv => lhs; dsimp only [List.cons_append, List.nil_append]) ?_
      refine XPA.nil ?_
      refine DA.inb_normal ?_
      refine DA.inb_normal ?_
      refine DA.thn_normal ?_
      refine XA.region ?_
      refine XOA.rd rfl (Rd.move (by with_reducible (conv => lhs; whnf))) ?_
      refine XOA.rd rfl (by first | exact Rd.addi rfl rfl rfl (by omega) | exact Rd.add rfl rfl) ?_
      refine XOA.rd rfl (Rd.assign (by with_reducible (conv => lhs; whnf))) ?_
      refine XOA.nil ?_
      refine DA.thn_normal ?_
      refine ⟨(Keep.upd (Keep.upd (Keep.upd (Keep.updO (Keep.upd (Keep.upd (Keep.upd (Keep.upd (Keep.upd (Keep.upd (Keep.upd (Keep.upd (Keep.upd (Keep.upd (Keep.upd (Keep.upd (Keep.upd (Keep.upd (Keep.upd (Keep.upd (Keep.upd (Keep.upd (Keep.upd (Keep.upd (Keep.upd (Keep.upd (Keep.upd (Keep.hav (Keep.hav (Keep.refl _ _) rfl) rfl) rfl) rfl) rfl) rfl) rfl) rfl) rfl) rfl) rfl) rfl) rfl) rfl) rfl) rfl) rfl) rfl) rfl) rfl) rfl) rfl) rfl) rfl) rfl) rfl) rfl) rfl) rfl), k + 1, _, (by (repeat (first | exact trivial | refine ⟨rfl, ?_⟩ | refine ⟨Eq.trans rfl (congrArg Value.bool hmat.symm), ?_⟩)); (first | done | fail)), ?_, ⟨rfl, hlt, d.write q.at_ q.w, hok.write hq8, Nat.le_trans (write_len _ _ _) (by omega), rfl⟩, (by omega)⟩
      · exact (by (repeat (first | exact Ent.nil _ | (apply Ent.sel; focus (first | ((repeat (first | with_reducible exact Sel.head | apply Sel.tail)); done) | ((repeat (first | exact Sel.head | apply Sel.tail)); done))) | apply Ent.selNil | apply Ent.selEmp)); (first | done | fail))
    refine XA.seq ?_
    refine XA.region ?_
    refine XOA.rd rfl (Rd.eql rfl rfl) ?_
    refine XOA.rd rfl (Rd.assign (by with_reducible (conv => lhs; whnf))) ?_
    refine XOA.nil ?_
    refine DA.thn_normal ?_
    refine XA.condp rfl (fun k1 => ?_) (fun k1 => ?_)
    · refine XA.region ?_
      refine XOA.rd rfl (Rd.move (by with_reducible (conv => lhs; whnf))) ?_
      refine XOA.wr0 rfl (WrA.callE (by (repeat (first | exact Ent.all _ | (apply Ent.take; focus (first | ((repeat (first | with_reducible exact Sel.head | apply Sel.tail)); done) | ((repeat (first | exact Sel.head | apply Sel.tail)); done))) | apply Ent.takeNil | apply Ent.takeEmp)); (first | done | fail)) (flush_a σ b d (by omega)) rfl) ?_
      rintro _ _ _ ⟨_, ⟨rfl, rfl, rfl⟩, rfl⟩
      refine XOA.re (by conv => lhs; dsimp only [List.cons_append, List.nil_append]) ?_
      refine XOA.nil ?_
      refine DA.inb_normal ?_
      refine DA.inb_normal ?_
      refine DA.thn_normal ?_
      refine XA.region ?_
      refine XOA.rd rfl (Rd.move (by with_reducible (conv => lhs; whnf))) ?_
      refine XOA.rd rfl (by first | exact Rd.addi rfl rfl rfl (by omega) | exact Rd.add rfl rfl) ?_
      refine XOA.rd rfl (Rd.assign (by with_reducible (conv => lhs; whnf))) ?_
      refine XOA.nil ?_
      refine DA.thn_normal ?_
      refine ⟨(Keep.upd (Keep.upd (Keep.upd (Keep.updO (Keep.upd (Keep.upd (Keep.upd (Keep.upd (Keep.upd (Keep.upd (Keep.upd (Keep.upd (Keep.upd (Keep.upd (Keep.upd (Keep.upd (Keep.upd (Keep.upd (Keep.upd (Keep.hav (Keep.hav (Keep.refl _ _) rfl) rfl) rfl) rfl) rfl) rfl) rfl) rfl) rfl) rfl) rfl) rfl) rfl) rfl) rfl) rfl) rfl) rfl) rfl) rfl) rfl), k + 1, _, (by (repeat (first | exact trivial | refine ⟨rfl, ?_⟩ | refine ⟨Eq.trans rfl (congrArg Value.bool hmat.symm), ?_⟩)); (first | done | fail)), ?_, ⟨rfl, hlt, d.settle (fun _ => true), settled_ok hok _, Nat.zero_le _, rfl⟩, (by omega)⟩
      · exact (by (repeat (first | exact Ent.nil _ | (apply Ent.sel; focus (first | ((repeat (first | with_reducible exact Sel.head | apply Sel.tail)); done) | ((repeat (first | exact Sel.head | apply Sel.tail)); done))) | apply Ent.selNil | apply Ent.selEmp)); (first | done | fail))
    refine XA.seq ?_
    refine XA.region ?_
    refine XOA.rd rfl (Rd.eql rfl rfl) ?_
    refine XOA.rd rfl (Rd.assign (by with_reducible (conv => lhs; whnf))) ?_
    refine XOA.nil ?_
    refine DA.thn_normal ?_
    refine XA.condp rfl (fun k2 => ?_) (fun k2 => ?_)
    · refine XA.region ?_
      refine XOA.rd rfl (Rd.move (by with_reducible (conv => lhs; whnf))) ?_
      refine XOA.rd rfl (Rd.move (by with_reducible (conv => lhs; whnf))) ?_
      refine XOA.rd rfl (Rd.move (by with_reducible (conv => lhs; whnf))) ?_
      refine XOA.rd rfl (by apply Rd.indexSlice; exact tyrow rfl; rfl; exact tyrow rfl; rfl; rfl; exact (by first | omega | decide | (simp; omega)); exact (by with_reducible (conv => lhs; whnf)); exact (by first | (conv => lhs; simp only [Nat.reduceAdd, Nat.zero_add, Nat.add_zero, Nat.reduceMul, Nat.mul_one, Int.toNat_natCast, Int.reduceToNat, Nat.zero_mul]) | rfl)) ?_
      refine XOA.rd rfl (Rd.fieldAddr (tyrow rfl) rfl rfl (tyrow rfl) rfl rfl (by first | (conv => lhs; simp only [Nat.reduceAdd, Nat.zero_add, Nat.add_zero, Nat.reduceMul, Nat.mul_one, Int.toNat_natCast, Int.reduceToNat, Nat.zero_mul]) | rfl)) ?_
      refine XOA.rd rfl (Rd.load rfl (Ld.atC (tyrow rfl) rfl (by first | (exact AtC.blk (by ((repeat (first | with_reducible exact Sel.head | apply Sel.tail)); (first | done | fail))) (by first | rfl | assumption)) | (exact AtC.per (by first | assumption)) | (exact AtC.lst (by ((repeat (first | with_reducible exact Sel.head | apply Sel.tail)); (first | done | fail))) (by first | rfl | assumption))))) ?_
      refine XOA.wr0 rfl (WrA.callE (by (repeat (first | exact Ent.all _ | (apply Ent.take; focus (first | ((repeat (first | with_reducible exact Sel.head | apply Sel.tail)); done) | ((repeat (first | exact Sel.head | apply Sel.tail)); done))) | apply Ent.takeNil | apply Ent.takeEmp)); (first | done | fail)) (crash_a σ b d q.mask (by omega) hqm.1 hqm.2) rfl) ?_
      rintro _ _ _ ⟨_, ⟨rfl, rfl, rfl⟩, rfl⟩
      refine XOA.re (by conv => lhs; dsimp only [List.cons_append, List.nil_append]) ?_
      refine XOA.nil ?_
      refine DA.inb_normal ?_
      refine DA.inb_normal ?_
      refine DA.thn_normal ?_
      refine XA.region ?_
      refine XOA.rd rfl (Rd.move (by with_reducible (conv => lhs; whnf))) ?_
      refine XOA.rd rfl (by first | exact Rd.addi rfl rfl rfl (by omega) | exact Rd.add rfl rfl) ?_
      refine XOA.rd rfl (Rd.assign (by with_reducible (conv => lhs; whnf))) ?_
      refine XOA.nil ?_
      refine DA.thn_normal ?_
      refine ⟨(Keep.upd (Keep.upd (Keep.upd (Keep.updO (Keep.upd (Keep.upd (Keep.upd (Keep.upd (Keep.upd (Keep.upd (Keep.upd (Keep.upd (Keep.upd (Keep.upd (Keep.upd (Keep.upd (Keep.upd (Keep.upd (Keep.upd (Keep.upd (Keep.upd (Keep.upd (Keep.upd (Keep.upd (Keep.upd (Keep.upd (Keep.hav (Keep.hav (Keep.refl _ _) rfl) rfl) rfl) rfl) rfl) rfl) rfl) rfl) rfl) rfl) rfl) rfl) rfl) rfl) rfl) rfl) rfl) rfl) rfl) rfl) rfl) rfl) rfl) rfl) rfl) rfl) rfl) rfl), k + 1, _, (by (repeat (first | exact trivial | refine ⟨rfl, ?_⟩ | refine ⟨Eq.trans rfl (congrArg Value.bool hmat.symm), ?_⟩)); (first | done | fail)), ?_, ⟨rfl, hlt, d.settle (bitOf q.mask), settled_ok hok _, Nat.zero_le _, rfl⟩, (by omega)⟩
      · exact (by (repeat (first | exact Ent.nil _ | (apply Ent.sel; focus (first | ((repeat (first | with_reducible exact Sel.head | apply Sel.tail)); done) | ((repeat (first | exact Sel.head | apply Sel.tail)); done))) | apply Ent.selNil | apply Ent.selEmp)); (first | done | fail))
    refine XA.skip ?_
    refine DA.inb_normal ?_
    refine DA.inb_normal ?_
    refine DA.thn_normal ?_
    refine XA.region ?_
    refine XOA.rd rfl (Rd.move (by with_reducible (conv => lhs; whnf))) ?_
    refine XOA.rd rfl (by first | exact Rd.addi rfl rfl rfl (by omega) | exact Rd.add rfl rfl) ?_
    refine XOA.rd rfl (Rd.assign (by with_reducible (conv => lhs; whnf))) ?_
    refine XOA.nil ?_
    refine DA.thn_normal ?_
    refine ⟨(Keep.upd (Keep.upd (Keep.upd (Keep.upd (Keep.upd (Keep.upd (Keep.upd (Keep.upd (Keep.upd (Keep.upd (Keep.upd (Keep.upd (Keep.upd (Keep.upd (Keep.upd (Keep.upd (Keep.upd (Keep.upd (Keep.upd (Keep.hav (Keep.hav (Keep.refl _ _) rfl) rfl) rfl) rfl) rfl) rfl) rfl) rfl) rfl) rfl) rfl) rfl) rfl) rfl) rfl) rfl) rfl) rfl) rfl) rfl) rfl), k + 1, _, (by (repeat (first | exact trivial | refine ⟨rfl, ?_⟩ | refine ⟨Eq.trans rfl (congrArg Value.bool hmat.symm), ?_⟩)); (first | done | fail)), ?_, ⟨rfl, hlt, _, hok, by omega, rfl⟩, (by omega)⟩
    · exact (by (repeat (first | exact Ent.nil _ | (apply Ent.sel; focus (first | ((repeat (first | with_reducible exact Sel.head | apply Sel.tail)); done) | ((repeat (first | exact Sel.head | apply Sel.tail)); done))) | apply Ent.selNil | apply Ent.selEmp)); (first | done | fail))
  refine XA.exit ?_
  refine DA.thn_exit ?_
  refine DA.thn_exit ?_
  refine DA.inb_same ?_
  refine DA.thn_normal ?_
  refine XA.seq ?_
  refine XA.region ?_
  refine XOA.rd rfl (Rd.move (by with_reducible (conv => lhs; whnf))) ?_
  refine XOA.rd rfl (Rd.move (by with_reducible (conv => lhs; whnf))) ?_
  refine XOA.wr0 rfl (WrA.callE (by (repeat (first | exact Ent.all _ | (apply Ent.take; focus (first | ((repeat (first | with_reducible exact Sel.head | apply Sel.tail)); done) | ((repeat (first | exact Sel.head | apply Sel.tail)); done))) | apply Ent.takeNil | apply Ent.takeEmp)); (first | done | fail)) (crash_a σ b d m (by omega) hm0 hm1) rfl) ?_
  rintro _ _ _ ⟨_, ⟨rfl, rfl, rfl⟩, rfl⟩
  refine XOA.re (by conv => lhs; dsimp only [List.cons_append, List.nil_append]) ?_
  refine XOA.nil ?_
  refine DA.thn_normal ?_
  refine XA.seq ?_
  refine XA.region ?_
  refine XOA.rd rfl (Rd.move (by with_reducible (conv => lhs; whnf))) ?_
  obtain ⟨dd, hdd⟩ : ∃ dd, dd = d.settle (bitOf m) := ⟨_, rfl⟩
  have hok4 : dd.ok := by rw [hdd]; exact settled_ok hok _
  have hss : ∀ q, dd.settle q = dd := fun q => by rw [hdd]; rfl
  have hrd : ∀ (k : Nat) (w : List Int), k < 34 → dd.l[k]? = some w → dd.read (k : Int) = w := fun k w h1 h2 => by
    rw [hdd] at h2 ⊢; exact read_settled h1 h2
  have hwt : dd.wait.length < 1000000 := by rw [hdd]; simp [DiskS.settle]
  rw [← hdd]
  refine XOA.wr0 rfl (WrA.callE (by (repeat (first | exact Ent.all _ | (apply Ent.take; focus (first | ((repeat (first | with_reducible exact Sel.head | apply Sel.tail)); done) | ((repeat (first | exact Sel.head | apply Sel.tail)); done))) | apply Ent.takeNil | apply Ent.takeEmp)); (first | done | fail)) (sure_a σ b dd) rfl) ?_
  rintro _ _ _ ⟨_, ⟨ga, ca, rfl, rfl, rfl⟩, rfl⟩
  refine XOA.re (by conv => lhs; dsimp only [List.cons_append, List.nil_append]) ?_
  refine XOA.rd rfl (Rd.assign (by with_reducible (conv => lhs; whnf))) ?_
  refine XOA.nil ?_
  refine DA.thn_normal ?_
  refine XA.seq ?_
  refine XA.region ?_
  refine XOA.rd rfl (Rd.move (by with_reducible (conv => lhs; whnf))) ?_
  refine XOA.rd rfl (Rd.move (by with_reducible (conv => lhs; whnf))) ?_
  refine XOA.wr0 rfl (WrA.callE (by (repeat (first | exact Ent.all _ | (apply Ent.take; focus (first | ((repeat (first | with_reducible exact Sel.head | apply Sel.tail)); done) | ((repeat (first | exact Sel.head | apply Sel.tail)); done))) | apply Ent.takeNil | apply Ent.takeEmp)); (first | done | fail)) (crash_a σ b dd n hwt hn0 hn1) rfl) ?_
  rintro _ _ _ ⟨_, ⟨rfl, rfl, rfl⟩, rfl⟩
  refine XOA.re (by conv => lhs; dsimp only [List.cons_append, List.nil_append]) ?_
  rw [hss]
  refine XOA.nil ?_
  refine DA.thn_normal ?_
  refine XA.seq ?_
  refine XA.region ?_
  refine XOA.rd rfl (Rd.move (by with_reducible (conv => lhs; whnf))) ?_
  refine XOA.wr0 rfl (WrA.callE (by (repeat (first | exact Ent.all _ | (apply Ent.take; focus (first | ((repeat (first | with_reducible exact Sel.head | apply Sel.tail)); done) | ((repeat (first | exact Sel.head | apply Sel.tail)); done))) | apply Ent.takeNil | apply Ent.takeEmp)); (first | done | fail)) (sure_a σ b dd) rfl) ?_
  rintro _ _ _ ⟨_, ⟨gb, cb, rfl, rfl, rfl⟩, rfl⟩
  refine XOA.re (by conv => lhs; dsimp only [List.cons_append, List.nil_append]) ?_
  refine XOA.rd rfl (Rd.assign (by with_reducible (conv => lhs; whnf))) ?_
  refine XOA.nil ?_
  refine DA.thn_normal ?_
  refine XA.seq ?_
  refine XA.region ?_
  refine XOA.rd rfl (Rd.move (by with_reducible (conv => lhs; whnf))) ?_
  refine XOA.wr0 rfl (WrA.callE (by (repeat (first | exact Ent.all _ | (apply Ent.take; focus (first | ((repeat (first | with_reducible exact Sel.head | apply Sel.tail)); done) | ((repeat (first | exact Sel.head | apply Sel.tail)); done))) | apply Ent.takeNil | apply Ent.takeEmp)); (first | done | fail)) (flush_a σ b dd hwt) rfl) ?_
  rintro _ _ _ ⟨_, ⟨rfl, rfl, rfl⟩, rfl⟩
  refine XOA.re (by conv => lhs; dsimp only [List.cons_append, List.nil_append]) ?_
  rw [hss]
  refine XOA.nil ?_
  refine DA.thn_normal ?_
  refine XA.seq ?_
  refine XA.region ?_
  refine XOA.rd rfl (Rd.move (by with_reducible (conv => lhs; whnf))) ?_
  refine XOA.wr0 rfl (WrA.callE (by (repeat (first | exact Ent.all _ | (apply Ent.take; focus (first | ((repeat (first | with_reducible exact Sel.head | apply Sel.tail)); done) | ((repeat (first | exact Sel.head | apply Sel.tail)); done))) | apply Ent.takeNil | apply Ent.takeEmp)); (first | done | fail)) (sure_a σ b dd) rfl) ?_
  rintro _ _ _ ⟨_, ⟨gc, cc, rfl, rfl, rfl⟩, rfl⟩
  refine XOA.re (by conv => lhs; dsimp only [List.cons_append, List.nil_append]) ?_
  refine XOA.rd rfl (Rd.assign (by with_reducible (conv => lhs; whnf))) ?_
  refine XOA.nil ?_
  refine DA.thn_normal ?_
  refine XA.seq ?_
  refine XA.seq ?_
  refine XA.region ?_
  refine XOA.rd rfl (Rd.move (by with_reducible (conv => lhs; whnf))) ?_
  refine XOA.rd rfl (Rd.lenSlice (tyrow rfl) rfl rfl) ?_
  refine XOA.rd rfl (Rd.neq rfl rfl) ?_
  refine XOA.rd rfl (Rd.move (by with_reducible (conv => lhs; whnf))) ?_
  first | (refine XOA.wanted rfl rfl ?_; refine XOA.rd rfl (Rd.move (by with_reducible (conv => lhs; whnf))) ?_) | (refine XOA.wantedP rfl rfl (by first | exact (rfl : decide _ = true) | exact (rfl : decide _ = false) | (refine decide_eq_true ?_; assumption) | (refine decide_eq_false ?_; assumption) | (refine decide_eq_true ?_; omega) | (refine decide_eq_false ?_; omega)) ?_; refine XOA.rd rfl (Rd.move (by with_reducible (conv => lhs; whnf))) ?_) | refine XOA.unwanted rfl rfl rfl rfl ?_ | refine XOA.unwantedP rfl rfl rfl (by first | exact (rfl : decide _ = true) | exact (rfl : decide _ = false) | (refine decide_eq_true ?_; assumption) | (refine decide_eq_false ?_; assumption) | (refine decide_eq_true ?_; omega) | (refine decide_eq_false ?_; omega)) ?_ | refine XOA.unwantedU rfl rfl rfl ?_
  first | (refine XOA.wanted rfl rfl ?_; refine XOA.rd rfl (Rd.lenSlice (tyrow rfl) rfl rfl) ?_) | (refine XOA.wantedP rfl rfl (by first | exact (rfl : decide _ = true) | exact (rfl : decide _ = false) | (refine decide_eq_true ?_; assumption) | (refine decide_eq_false ?_; assumption) | (refine decide_eq_true ?_; omega) | (refine decide_eq_false ?_; omega)) ?_; refine XOA.rd rfl (Rd.lenSlice (tyrow rfl) rfl rfl) ?_) | refine XOA.unwanted rfl rfl rfl rfl ?_ | refine XOA.unwantedP rfl rfl rfl (by first | exact (rfl : decide _ = true) | exact (rfl : decide _ = false) | (refine decide_eq_true ?_; assumption) | (refine decide_eq_false ?_; assumption) | (refine decide_eq_true ?_; omega) | (refine decide_eq_false ?_; omega)) ?_ | refine XOA.unwantedU rfl rfl rfl ?_
  first | (refine XOA.wanted rfl rfl ?_; refine XOA.rd rfl (Rd.move (by with_reducible (conv => lhs; whnf))) ?_) | (refine XOA.wantedP rfl rfl (by first | exact (rfl : decide _ = true) | exact (rfl : decide _ = false) | (refine decide_eq_true ?_; assumption) | (refine decide_eq_false ?_; assumption) | (refine decide_eq_true ?_; omega) | (refine decide_eq_false ?_; omega)) ?_; refine XOA.rd rfl (Rd.move (by with_reducible (conv => lhs; whnf))) ?_) | refine XOA.unwanted rfl rfl rfl rfl ?_ | refine XOA.unwantedP rfl rfl rfl (by first | exact (rfl : decide _ = true) | exact (rfl : decide _ = false) | (refine decide_eq_true ?_; assumption) | (refine decide_eq_false ?_; assumption) | (refine decide_eq_true ?_; omega) | (refine decide_eq_false ?_; omega)) ?_ | refine XOA.unwantedU rfl rfl rfl ?_
  first | (refine XOA.wanted rfl rfl ?_; refine XOA.rd rfl (Rd.lenSlice (tyrow rfl) rfl rfl) ?_) | (refine XOA.wantedP rfl rfl (by first | exact (rfl : decide _ = true) | exact (rfl : decide _ = false) | (refine decide_eq_true ?_; assumption) | (refine decide_eq_false ?_; assumption) | (refine decide_eq_true ?_; omega) | (refine decide_eq_false ?_; omega)) ?_; refine XOA.rd rfl (Rd.lenSlice (tyrow rfl) rfl rfl) ?_) | refine XOA.unwanted rfl rfl rfl rfl ?_ | refine XOA.unwantedP rfl rfl rfl (by first | exact (rfl : decide _ = true) | exact (rfl : decide _ = false) | (refine decide_eq_true ?_; assumption) | (refine decide_eq_false ?_; assumption) | (refine decide_eq_true ?_; omega) | (refine decide_eq_false ?_; omega)) ?_ | refine XOA.unwantedU rfl rfl rfl ?_
  first | (refine XOA.wanted rfl rfl ?_; refine XOA.rd rfl (Rd.neq rfl rfl) ?_) | (refine XOA.wantedP rfl rfl (by first | exact (rfl : decide _ = true) | exact (rfl : decide _ = false) | (refine decide_eq_true ?_; assumption) | (refine decide_eq_false ?_; assumption) | (refine decide_eq_true ?_; omega) | (refine decide_eq_false ?_; omega)) ?_; refine XOA.rd rfl (Rd.neq rfl rfl) ?_) | refine XOA.unwanted rfl rfl rfl rfl ?_ | refine XOA.unwantedP rfl rfl rfl (by first | exact (rfl : decide _ = true) | exact (rfl : decide _ = false) | (refine decide_eq_true ?_; assumption) | (refine decide_eq_false ?_; assumption) | (refine decide_eq_true ?_; omega) | (refine decide_eq_false ?_; omega)) ?_ | refine XOA.unwantedU rfl rfl rfl ?_
  refine XOA.rd rfl (by first | exact Rd.pickT rfl (by with_reducible (conv => lhs; whnf)) | exact Rd.pickF rfl (by with_reducible (conv => lhs; whnf)) | exact Rd.pickP rfl (by first | exact (rfl : decide _ = true) | exact (rfl : decide _ = false) | (refine decide_eq_true ?_; assumption) | (refine decide_eq_false ?_; assumption) | (refine decide_eq_true ?_; omega) | (refine decide_eq_false ?_; omega)) (by with_reducible (conv => lhs; whnf))) ?_
  refine XOA.rd rfl (Rd.move (by with_reducible (conv => lhs; whnf))) ?_
  first | (refine XOA.wanted rfl rfl ?_; refine XOA.rd rfl (Rd.move (by with_reducible (conv => lhs; whnf))) ?_) | (refine XOA.wantedP rfl rfl (by first | exact (rfl : decide _ = true) | exact (rfl : decide _ = false) | (refine decide_eq_true ?_; assumption) | (refine decide_eq_false ?_; assumption) | (refine decide_eq_true ?_; omega) | (refine decide_eq_false ?_; omega)) ?_; refine XOA.rd rfl (Rd.move (by with_reducible (conv => lhs; whnf))) ?_) | refine XOA.unwanted rfl rfl rfl rfl ?_ | refine XOA.unwantedP rfl rfl rfl (by first | exact (rfl : decide _ = true) | exact (rfl : decide _ = false) | (refine decide_eq_true ?_; assumption) | (refine decide_eq_false ?_; assumption) | (refine decide_eq_true ?_; omega) | (refine decide_eq_false ?_; omega)) ?_ | refine XOA.unwantedU rfl rfl rfl ?_
  first | (refine XOA.wanted rfl rfl ?_; refine XOA.rd rfl (Rd.lenSlice (tyrow rfl) rfl rfl) ?_) | (refine XOA.wantedP rfl rfl (by first | exact (rfl : decide _ = true) | exact (rfl : decide _ = false) | (refine decide_eq_true ?_; assumption) | (refine decide_eq_false ?_; assumption) | (refine decide_eq_true ?_; omega) | (refine decide_eq_false ?_; omega)) ?_; refine XOA.rd rfl (Rd.lenSlice (tyrow rfl) rfl rfl) ?_) | refine XOA.unwanted rfl rfl rfl rfl ?_ | refine XOA.unwantedP rfl rfl rfl (by first | exact (rfl : decide _ = true) | exact (rfl : decide _ = false) | (refine decide_eq_true ?_; assumption) | (refine decide_eq_false ?_; assumption) | (refine decide_eq_true ?_; omega) | (refine decide_eq_false ?_; omega)) ?_ | refine XOA.unwantedU rfl rfl rfl ?_
  first | (refine XOA.wanted rfl rfl ?_; refine XOA.rd rfl (Rd.move (by with_reducible (conv => lhs; whnf))) ?_) | (refine XOA.wantedP rfl rfl (by first | exact (rfl : decide _ = true) | exact (rfl : decide _ = false) | (refine decide_eq_true ?_; assumption) | (refine decide_eq_false ?_; assumption) | (refine decide_eq_true ?_; omega) | (refine decide_eq_false ?_; omega)) ?_; refine XOA.rd rfl (Rd.move (by with_reducible (conv => lhs; whnf))) ?_) | refine XOA.unwanted rfl rfl rfl rfl ?_ | refine XOA.unwantedP rfl rfl rfl (by first | exact (rfl : decide _ = true) | exact (rfl : decide _ = false) | (refine decide_eq_true ?_; assumption) | (refine decide_eq_false ?_; assumption) | (refine decide_eq_true ?_; omega) | (refine decide_eq_false ?_; omega)) ?_ | refine XOA.unwantedU rfl rfl rfl ?_
  first | (refine XOA.wanted rfl rfl ?_; refine XOA.rd rfl (Rd.lenSlice (tyrow rfl) rfl rfl) ?_) | (refine XOA.wantedP rfl rfl (by first | exact (rfl : decide _ = true) | exact (rfl : decide _ = false) | (refine decide_eq_true ?_; assumption) | (refine decide_eq_false ?_; assumption) | (refine decide_eq_true ?_; omega) | (refine decide_eq_false ?_; omega)) ?_; refine XOA.rd rfl (Rd.lenSlice (tyrow rfl) rfl rfl) ?_) | refine XOA.unwanted rfl rfl rfl rfl ?_ | refine XOA.unwantedP rfl rfl rfl (by first | exact (rfl : decide _ = true) | exact (rfl : decide _ = false) | (refine decide_eq_true ?_; assumption) | (refine decide_eq_false ?_; assumption) | (refine decide_eq_true ?_; omega) | (refine decide_eq_false ?_; omega)) ?_ | refine XOA.unwantedU rfl rfl rfl ?_
  first | (refine XOA.wanted rfl rfl ?_; refine XOA.rd rfl (Rd.neq rfl rfl) ?_) | (refine XOA.wantedP rfl rfl (by first | exact (rfl : decide _ = true) | exact (rfl : decide _ = false) | (refine decide_eq_true ?_; assumption) | (refine decide_eq_false ?_; assumption) | (refine decide_eq_true ?_; omega) | (refine decide_eq_false ?_; omega)) ?_; refine XOA.rd rfl (Rd.neq rfl rfl) ?_) | refine XOA.unwanted rfl rfl rfl rfl ?_ | refine XOA.unwantedP rfl rfl rfl (by first | exact (rfl : decide _ = true) | exact (rfl : decide _ = false) | (refine decide_eq_true ?_; assumption) | (refine decide_eq_false ?_; assumption) | (refine decide_eq_true ?_; omega) | (refine decide_eq_false ?_; omega)) ?_ | refine XOA.unwantedU rfl rfl rfl ?_
  refine XOA.rd rfl (by first | exact Rd.pickT rfl (by with_reducible (conv => lhs; whnf)) | exact Rd.pickF rfl (by with_reducible (conv => lhs; whnf)) | exact Rd.pickP rfl (by first | exact (rfl : decide _ = true) | exact (rfl : decide _ = false) | (refine decide_eq_true ?_; assumption) | (refine decide_eq_false ?_; assumption) | (refine decide_eq_true ?_; omega) | (refine decide_eq_false ?_; omega)) (by with_reducible (conv => lhs; whnf))) ?_
  refine XOA.nil ?_
  refine DA.thn_normal ?_
  refine XA.condF rfl rfl ?_
  refine XA.skip ?_
  refine DA.thn_normal ?_
  refine XA.seq ?_
  refine XA.seq ?_
  refine XA.region ?_
  refine XOA.rd rfl (Rd.assign (by with_reducible (conv => lhs; whnf))) ?_
  refine XOA.nil ?_
  refine DA.thn_normal ?_
  refine XA.block ?_
  refine XA.gen [(6, _), (7, _), (9, _), (10, _), (11, _), (12, _)] ⟨(by with_reducible (conv => lhs; whnf)), (by with_reducible (conv => lhs; whnf)), (by with_reducible (conv => lhs; whnf)), (by with_reducible (conv => lhs; whnf)), (by with_reducible (conv => lhs; whnf)), (by with_reducible (conv => lhs; whnf)), trivial⟩ (fun δ => ?_)
  dsimp only [List.foldl]
  refine XA.loop [(6, 6), (12, 12), (88, 123)] (fun k : Nat => [(12, i64 k)]) (fun k σ' Γ' => σ = σ' ∧ k ≤ 34 ∧ Γ' = [lst 32 8 (.slice (some ⟨ga, 0, none⟩) 34 ca) 34 dd.cells, lst 32 8 (.slice (some ⟨gb, 0, none⟩) 34 cb) 34 dd.cells, lst 32 8 (.slice (some ⟨gc, 0, none⟩) 34 cc) 34 dd.cells, Disk b dd]) (fun k => 34 - k) 0 (by exact ⟨rfl, trivial⟩) (Δ0 := _) ?_ (⟨rfl, Nat.zero_le _, rfl⟩) ?_
  · exact (by (repeat (first | exact Ent.nil _ | (apply Ent.sel; focus (first | ((repeat (first | with_reducible exact Sel.head | apply Sel.tail)); done) | ((repeat (first | exact Sel.head | apply Sel.tail)); done))) | apply Ent.selNil | apply Ent.selEmp)); (first | done | fail))
  rintro k δ _ _ ⟨rfl, hk, rfl⟩
  dsimp only [ovr, List.foldl]
  refine XA.seq ?_
  refine XA.seq ?_
  refine XA.region ?_
  refine XOA.rd rfl (Rd.move (by with_reducible (conv => lhs; whnf))) ?_
  refine XOA.rd rfl (Rd.move (by with_reducible (conv => lhs; whnf))) ?_
  refine XOA.rd rfl (Rd.lenSlice (tyrow rfl) rfl rfl) ?_
  refine XOA.rd rfl (Rd.lss rfl rfl) ?_
  refine XOA.nil ?_
  refine DA.thn_normal ?_
  refine XA.condp rfl (fun hlt => ?_) (fun hlt => ?_)
  · have hlt : k < 34 := by omega
    obtain ⟨w, hw⟩ : ∃ w, dd.l[k]? = some w := ⟨_, List.getElem?_eq_getElem (by rw [hok4.1]; exact hlt)⟩
    have hw8 : w.length = 8 := hok4.2.1 w (List.mem_of_getElem? hw)
    have hrow : (dd.cells.drop (k * 8)).take 8 = ints w := crow hok4 hw
    have hww : ¬ (w ≠ w) := fun hx => hx rfl
    have hrk := hrd k w hlt hw
    refine XA.skip ?_
    refine DA.thn_normal ?_
    refine XA.seq ?_
    refine XA.block ?_
    refine XA.seq ?_
    refine XA.draw (by kernel_rfl) _ _ [] [(0, .pu), (1, .pu), (2, .pu), (3, .rd), (4, .pu), (5, .pu), (6, .pu), (7, .rd), (8, .pu), (9, .pu), (10, .pu), (11, .pu), (12, .pu), (13, .rd), (14, .pu), (15, .pu), (16, .pu), (17, .rd), (18, .pu), (19, .pu), (20, .pu), (21, .pu), (22, .pu), (24, .pu), (25, .pu), (26, .pu), (27, .rd), (23, .wr), (28, .pu), (29, .pu)] (by kernel_rfl) (PH.sub.refl _) (Ent.sel (R := lst 32 8 (.slice (some ⟨ga, 0, none⟩) 34 ca) _ _) (by ((repeat (first | with_reducible exact Sel.head | apply Sel.tail)); (first | done | fail))) (Ent.sel (R := lst 32 8 (.slice (some ⟨gb, 0, none⟩) 34 cb) _ _) (by ((repeat (first | with_reducible exact Sel.head | apply Sel.tail)); (first | done | fail))) (Ent.sel (R := lst 32 8 (.slice (some ⟨gc, 0, none⟩) 34 cc) _ _) (by ((repeat (first | with_reducible exact Sel.head | apply Sel.tail)); (first | done | fail))) (Ent.nil _)))) ?_
    refine XPA.pu rfl rfl Gd.free (Rd.move (by with_reducible (conv => lhs; whnf))) ?_
    refine XPA.pu rfl rfl Gd.free (Rd.move (by with_reducible (conv => lhs; whnf))) ?_
    refine XPA.pu rfl rfl Gd.free (by apply Rd.indexSlice; exact tyrow rfl; rfl; exact tyrow rfl; rfl; rfl; exact (by first | omega | decide | (simp; omega)); exact (by with_reducible (conv => lhs; whnf)); exact (by first | (conv => lhs; simp only [Nat.reduceAdd, Nat.zero_add, Nat.add_zero, Nat.reduceMul, Nat.mul_one, Int.toNat_natCast, Int.reduceToNat, Nat.zero_mul]) | rfl)) ?_
    refine XPA.rd rfl rfl Gd.free (Rd.load rfl (by first | (exact Ld.atBlk (tyrow rfl) rfl (by ((repeat (first | with_reducible exact Sel.head | apply Sel.tail)); (first | done | fail))) rfl (by first | exact take0 (by first | rfl | assumption | (simp [*]; (first | done | fail)) | (simp [*]; (first | done | fail))) | assumption | exact take_app (by first | rfl | assumption | (simp [*]; (first | done | fail)) | (simp [*]; (first | done | fail))) | (conv => lhs; simp only [List.drop_succ_cons, List.drop_zero, List.take_succ_cons, List.take_zero])) (by first | rfl | assumption | (simp [*]; (first | done | fail)) | (simp [*]; (first | done | fail)))) | (exact Ld.at (tyrow rfl) rfl (At.per (by assumption)) (by first | rfl | assumption | (simp [*]; (first | done | fail)) | (simp [*]; (first | done | fail)))) | (exact Ld.atLst (tyrow rfl) rfl (by ((repeat (first | with_reducible exact Sel.head | apply Sel.tail)); (first | done | fail))) rfl (by first | exact take0 (by first | rfl | assumption | (simp [*]; (first | done | fail)) | (simp [*]; (first | done | fail))) | assumption | exact take_app (by first | rfl | assumption | (simp [*]; (first | done | fail)) | (simp [*]; (first | done | fail))) | (conv => lhs; simp only [List.drop_succ_cons, List.drop_zero, List.take_succ_cons, List.take_zero])) (by first | rfl | assumption | (simp [*]; (first | done | fail)) | (simp [*]; (first | done | fail)))))) ?_
    refine XPA.pu rfl rfl Gd.free (Rd.move (by with_reducible (conv => lhs; whnf))) ?_
    refine XPA.pu rfl rfl Gd.free (Rd.move (by with_reducible (conv => lhs; whnf))) ?_
    refine XPA.pu rfl rfl Gd.free (by apply Rd.indexSlice; exact tyrow rfl; rfl; exact tyrow rfl; rfl; rfl; exact (by first | omega | decide | (simp; omega)); exact (by with_reducible (conv => lhs; whnf)); exact (by first | (conv => lhs; simp only [Nat.reduceAdd, Nat.zero_add, Nat.add_zero, Nat.reduceMul, Nat.mul_one, Int.toNat_natCast, Int.reduceToNat, Nat.zero_mul]) | rfl)) ?_
    refine XPA.rd rfl rfl Gd.free (Rd.load rfl (by first | (exact Ld.atBlk (tyrow rfl) rfl (by ((repeat (first | with_reducible exact Sel.head | apply Sel.tail)); (first | done | fail))) rfl (by first | exact take0 (by first | rfl | assumption | (simp [*]; (first | done | fail)) | (simp [*]; (first | done | fail))) | assumption | exact take_app (by first | rfl | assumption | (simp [*]; (first | done | fail)) | (simp [*]; (first | done | fail))) | (conv => lhs; simp only [List.drop_succ_cons, List.drop_zero, List.take_succ_cons, List.take_zero])) (by first | rfl | assumption | (simp [*]; (first | done | fail)) | (simp [*]; (first | done | fail)))) | (exact Ld.at (tyrow rfl) rfl (At.per (by assumption)) (by first | rfl | assumption | (simp [*]; (first | done | fail)) | (simp [*]; (first | done | fail)))) | (exact Ld.atLst (tyrow rfl) rfl (by ((repeat (first | with_reducible exact Sel.head | apply Sel.tail)); (first | done | fail))) rfl (by first | exact take0 (by first | rfl | assumption | (simp [*]; (first | done | fail)) | (simp [*]; (first | done | fail))) | assumption | exact take_app (by first | rfl | assumption | (simp [*]; (first | done | fail)) | (simp [*]; (first | done | fail))) | (conv => lhs; simp only [List.drop_succ_cons, List.drop_zero, List.take_succ_cons, List.take_zero])) (by first | rfl | assumption | (simp [*]; (first | done | fail)) | (simp [*]; (first | done | fail)))))) ?_
    refine XPA.pu rfl rfl Gd.free (Rd.neqWords (tyrow rfl) rfl (tyrow rfl) rfl rfl (by kernel_rfl) rfl rfl (by first | assumption | rfl | (simp; (first | done | fail)) | (simp [*]; (first | done | fail))) (by first | assumption | rfl | (simp; (first | done | fail)) | (simp [*]; (first | done | fail)))) ?_
    refine XPA.pu rfl rfl Gd.free (Rd.move (by with_reducible (conv => lhs; whnf))) ?_
    first | refine XPA.pu rfl rfl (by first | exact Gd.free | exact Gd.isB rfl rfl rfl | (apply Gd.isQ; rfl; rfl; exact (by first | exact (rfl : decide _ = true) | exact (rfl : decide _ = false) | (refine decide_eq_true ?_; assumption) | (refine decide_eq_false ?_; assumption) | (refine decide_eq_true ?_; omega) | (refine decide_eq_false ?_; omega)); rfl)) (Rd.move (by with_reducible (conv => lhs; whnf))) ?_ | refine XPA.puOff rfl rfl (by first | exact Gd.isB rfl rfl rfl | exact Gd.un rfl rfl | (apply Gd.isQ; rfl; rfl; exact (by first | exact (rfl : decide _ = true) | exact (rfl : decide _ = false) | (refine decide_eq_true ?_; assumption) | (refine decide_eq_false ?_; assumption) | (refine decide_eq_true ?_; omega) | (refine decide_eq_false ?_; omega)); rfl)) ?_
    first | refine XPA.pu rfl rfl (by first | exact Gd.free | exact Gd.isB rfl rfl rfl | (apply Gd.isQ; rfl; rfl; exact (by first | exact (rfl : decide _ = true) | exact (rfl : decide _ = false) | (refine decide_eq_true ?_; assumption) | (refine decide_eq_false ?_; assumption) | (refine decide_eq_true ?_; omega) | (refine decide_eq_false ?_; omega)); rfl)) (Rd.move (by with_reducible (conv => lhs; whnf))) ?_ | refine XPA.puOff rfl rfl (by first | exact Gd.isB rfl rfl rfl | exact Gd.un rfl rfl | (apply Gd.isQ; rfl; rfl; exact (by first | exact (rfl : decide _ = true) | exact (rfl : decide _ = false) | (refine decide_eq_true ?_; assumption) | (refine decide_eq_false ?_; assumption) | (refine decide_eq_true ?_; omega) | (refine decide_eq_false ?_; omega)); rfl)) ?_
    first | refine XPA.pu rfl rfl (by first | exact Gd.free | exact Gd.isB rfl rfl rfl | (apply Gd.isQ; rfl; rfl; exact (by first | exact (rfl : decide _ = true) | exact (rfl : decide _ = false) | (refine decide_eq_true ?_; assumption) | (refine decide_eq_false ?_; assumption) | (refine decide_eq_true ?_; omega) | (refine decide_eq_false ?_; omega)); rfl)) (by apply Rd.indexSlice; exact tyrow rfl; rfl; exact tyrow rfl; rfl; rfl; exact (by first | omega | decide | (simp; omega)); exact (by with_reducible (conv => lhs; whnf)); exact (by first | (conv => lhs; simp only [Nat.reduceAdd, Nat.zero_add, Nat.add_zero, Nat.reduceMul, Nat.mul_one, Int.toNat_natCast, Int.reduceToNat, Nat.zero_mul]) | rfl)) ?_ | refine XPA.puOff rfl rfl (by first | exact Gd.isB rfl rfl rfl | exact Gd.un rfl rfl | (apply Gd.isQ; rfl; rfl; exact (by first | exact (rfl : decide _ = true) | exact (rfl : decide _ = false) | (refine decide_eq_true ?_; assumption) | (refine decide_eq_false ?_; assumption) | (refine decide_eq_true ?_; omega) | (refine decide_eq_false ?_; omega)); rfl)) ?_
    first | refine XPA.rd rfl rfl (by first | exact Gd.free | exact Gd.isB rfl rfl rfl | (apply Gd.isQ; rfl; rfl; exact (by first | exact (rfl : decide _ = true) | exact (rfl : decide _ = false) | (refine decide_eq_true ?_; assumption) | (refine decide_eq_false ?_; assumption) | (refine decide_eq_true ?_; omega) | (refine decide_eq_false ?_; omega)); rfl)) (Rd.load rfl (by first | (exact Ld.atBlk (tyrow rfl) rfl (by ((repeat (first | with_reducible exact Sel.head | apply Sel.tail)); (first | done | fail))) rfl (by first | exact take0 (by first | rfl | assumption | (simp [*]; (first | done | fail)) | (simp [*]; (first | done | fail))) | assumption | exact take_app (by first | rfl | assumption | (simp [*]; (first | done | fail)) | (simp [*]; (first | done | fail))) | (conv => lhs; simp only [List.drop_succ_cons, List.drop_zero, List.take_succ_cons, List.take_zero])) (by first | rfl | assumption | (simp [*]; (first | done | fail)) | (simp [*]; (first | done | fail)))) | (exact Ld.at (tyrow rfl) rfl (At.per (by assumption)) (by first | rfl | assumption | (simp [*]; (first | done | fail)) | (simp [*]; (first | done | fail)))) | (exact Ld.atLst (tyrow rfl) rfl (by ((repeat (first | with_reducible exact Sel.head | apply Sel.tail)); (first | done | fail))) rfl (by first | exact take0 (by first | rfl | assumption | (simp [*]; (first | done | fail)) | (simp [*]; (first | done | fail))) | assumption | exact take_app (by first | rfl | assumption | (simp [*]; (first | done | fail)) | (simp [*]; (first | done | fail))) | (conv => lhs; simp only [List.drop_succ_cons, List.drop_zero, List.take_succ_cons, List.take_zero])) (by first | rfl | assumption | (simp [*]; (first | done | fail)) | (simp [*]; (first | done | fail)))))) ?_ | refine XPA.off rfl rfl (by first | exact Gd.isB rfl rfl rfl | exact Gd.un rfl rfl | (apply Gd.isQ; rfl; rfl; exact (by first | exact (rfl : decide _ = true) | exact (rfl : decide _ = false) | (refine decide_eq_true ?_; assumption) | (refine decide_eq_false ?_; assumption) | (refine decide_eq_true ?_; omega) | (refine decide_eq_false ?_; omega)); rfl)) ?_
    first | refine XPA.pu rfl rfl (by first | exact Gd.free | exact Gd.isB rfl rfl rfl | (apply Gd.isQ; rfl; rfl; exact (by first | exact (rfl : decide _ = true) | exact (rfl : decide _ = false) | (refine decide_eq_true ?_; assumption) | (refine decide_eq_false ?_; assumption) | (refine decide_eq_true ?_; omega) | (refine decide_eq_false ?_; omega)); rfl)) (Rd.move (by with_reducible (conv => lhs; whnf))) ?_ | refine XPA.puOff rfl rfl (by first | exact Gd.isB rfl rfl rfl | exact Gd.un rfl rfl | (apply Gd.isQ; rfl; rfl; exact (by first | exact (rfl : decide _ = true) | exact (rfl : decide _ = false) | (refine decide_eq_true ?_; assumption) | (refine decide_eq_false ?_; assumption) | (refine decide_eq_true ?_; omega) | (refine decide_eq_false ?_; omega)); rfl)) ?_
    first | refine XPA.pu rfl rfl (by first | exact Gd.free | exact Gd.isB rfl rfl rfl | (apply Gd.isQ; rfl; rfl; exact (by first | exact (rfl : decide _ = true) | exact (rfl : decide _ = false) | (refine decide_eq_true ?_; assumption) | (refine decide_eq_false ?_; assumption) | (refine decide_eq_true ?_; omega) | (refine decide_eq_false ?_; omega)); rfl)) (Rd.move (by with_reducible (conv => lhs; whnf))) ?_ | refine XPA.puOff rfl rfl (by first | exact Gd.isB rfl rfl rfl | exact Gd.un rfl rfl | (apply Gd.isQ; rfl; rfl; exact (by first | exact (rfl : decide _ = true) | exact (rfl : decide _ = false) | (refine decide_eq_true ?_; assumption) | (refine decide_eq_false ?_; assumption) | (refine decide_eq_true ?_; omega) | (refine decide_eq_false ?_; omega)); rfl)) ?_
    first | refine XPA.pu rfl rfl (by first | exact Gd.free | exact Gd.isB rfl rfl rfl | (apply Gd.isQ; rfl; rfl; exact (by first | exact (rfl : decide _ = true) | exact (rfl : decide _ = false) | (refine decide_eq_true ?_; assumption) | (refine decide_eq_false ?_; assumption) | (refine decide_eq_true ?_; omega) | (refine decide_eq_false ?_; omega)); rfl)) (by apply Rd.indexSlice; exact tyrow rfl; rfl; exact tyrow rfl; rfl; rfl; exact (by first | omega | decide | (simp; omega)); exact (by with_reducible (conv => lhs; whnf)); exact (by first | (conv => lhs; simp only [Nat.reduceAdd, Nat.zero_add, Nat.add_zero, Nat.reduceMul, Nat.mul_one, Int.toNat_natCast, Int.reduceToNat, Nat.zero_mul]) | rfl)) ?_ | refine XPA.puOff rfl rfl (by first | exact Gd.isB rfl rfl rfl | exact Gd.un rfl rfl | (apply Gd.isQ; rfl; rfl; exact (by first | exact (rfl : decide _ = true) | exact (rfl : decide _ = false) | (refine decide_eq_true ?_; assumption) | (refine decide_eq_false ?_; assumption) | (refine decide_eq_true ?_; omega) | (refine decide_eq_false ?_; omega)); rfl)) ?_
    first | refine XPA.rd rfl rfl (by first | exact Gd.free | exact Gd.isB rfl rfl rfl | (apply Gd.isQ; rfl; rfl; exact (by first | exact (rfl : decide _ = true) | exact (rfl : decide _ = false) | (refine decide_eq_true ?_; assumption) | (refine decide_eq_false ?_; assumption) | (refine decide_eq_true ?_; omega) | (refine decide_eq_false ?_; omega)); rfl)) (Rd.load rfl (by first | (exact Ld.atBlk (tyrow rfl) rfl (by ((repeat (first | with_reducible exact Sel.head | apply Sel.tail)); (first | done | fail))) rfl (by first | exact take0 (by first | rfl | assumption | (simp [*]; (first | done | fail)) | (simp [*]; (first | done | fail))) | assumption | exact take_app (by first | rfl | assumption | (simp [*]; (first | done | fail)) | (simp [*]; (first | done | fail))) | (conv => lhs; simp only [List.drop_succ_cons, List.drop_zero, List.take_succ_cons, List.take_zero])) (by first | rfl | assumption | (simp [*]; (first | done | fail)) | (simp [*]; (first | done | fail)))) | (exact Ld.at (tyrow rfl) rfl (At.per (by assumption)) (by first | rfl | assumption | (simp [*]; (first | done | fail)) | (simp [*]; (first | done | fail)))) | (exact Ld.atLst (tyrow rfl) rfl (by ((repeat (first | with_reducible exact Sel.head | apply Sel.tail)); (first | done | fail))) rfl (by first | exact take0 (by first | rfl | assumption | (simp [*]; (first | done | fail)) | (simp [*]; (first | done | fail))) | assumption | exact take_app (by first | rfl | assumption | (simp [*]; (first | done | fail)) | (simp [*]; (first | done | fail))) | (conv => lhs; simp only [List.drop_succ_cons, List.drop_zero, List.take_succ_cons, List.take_zero])) (by first | rfl | assumption | (simp [*]; (first | done | fail)) | (simp [*]; (first | done | fail)))))) ?_ | refine XPA.off rfl rfl (by first | exact Gd.isB rfl rfl rfl | exact Gd.un rfl rfl | (apply Gd.isQ; rfl; rfl; exact (by first | exact (rfl : decide _ = true) | exact (rfl : decide _ = false) | (refine decide_eq_true ?_; assumption) | (refine decide_eq_false ?_; assumption) | (refine decide_eq_true ?_; omega) | (refine decide_eq_false ?_; omega)); rfl)) ?_
    first | refine XPA.pu rfl rfl (by first | exact Gd.free | exact Gd.isB rfl rfl rfl | (apply Gd.isQ; rfl; rfl; exact (by first | exact (rfl : decide _ = true) | exact (rfl : decide _ = false) | (refine decide_eq_true ?_; assumption) | (refine decide_eq_false ?_; assumption) | (refine decide_eq_true ?_; omega) | (refine decide_eq_false ?_; omega)); rfl)) (Rd.neqWords (tyrow rfl) rfl (tyrow rfl) rfl rfl (by kernel_rfl) rfl rfl (by first | assumption | rfl | (simp; (first | done | fail)) | (simp [*]; (first | done | fail))) (by first | assumption | rfl | (simp; (first | done | fail)) | (simp [*]; (first | done | fail)))) ?_ | refine XPA.puOff rfl rfl (by first | exact Gd.isB rfl rfl rfl | exact Gd.un rfl rfl | (apply Gd.isQ; rfl; rfl; exact (by first | exact (rfl : decide _ = true) | exact (rfl : decide _ = false) | (refine decide_eq_true ?_; assumption) | (refine decide_eq_false ?_; assumption) | (refine decide_eq_true ?_; omega) | (refine decide_eq_false ?_; omega)); rfl)) ?_
    refine XPA.pu rfl rfl Gd.free (by first | exact Rd.pickT rfl (by with_reducible (conv => lhs; whnf)) | exact Rd.pickF rfl (by with_reducible (conv => lhs; whnf)) | exact Rd.pickP rfl (by first | exact (rfl : decide _ = true) | exact (rfl : decide _ = false) | (refine decide_eq_true ?_; assumption) | (refine decide_eq_false ?_; assumption) | (refine decide_eq_true ?_; omega) | (refine decide_eq_false ?_; omega)) (by with_reducible (conv => lhs; whnf))) ?_
    refine XPA.pu rfl rfl Gd.free (Rd.move (by with_reducible (conv => lhs; whnf))) ?_
    first | refine XPA.pu rfl rfl (by first | exact Gd.free | exact Gd.isB rfl rfl rfl | (apply Gd.isQ; rfl; rfl; exact (by first | exact (rfl : decide _ = true) | exact (rfl : decide _ = false) | (refine decide_eq_true ?_; assumption) | (refine decide_eq_false ?_; assumption) | (refine decide_eq_true ?_; omega) | (refine decide_eq_false ?_; omega)); rfl)) (Rd.move (by with_reducible (conv => lhs; whnf))) ?_ | refine XPA.puOff rfl rfl (by first | exact Gd.isB rfl rfl rfl | exact Gd.un rfl rfl | (apply Gd.isQ; rfl; rfl; exact (by first | exact (rfl : decide _ = true) | exact (rfl : decide _ = false) | (refine decide_eq_true ?_; assumption) | (refine decide_eq_false ?_; assumption) | (refine decide_eq_true ?_; omega) | (refine decide_eq_false ?_; omega)); rfl)) ?_
    first | refine XPA.pu rfl rfl (by first | exact Gd.free | exact Gd.isB rfl rfl rfl | (apply Gd.isQ; rfl; rfl; exact (by first | exact (rfl : decide _ = true) | exact (rfl : decide _ = false) | (refine decide_eq_true ?_; assumption) | (refine decide_eq_false ?_; assumption) | (refine decide_eq_true ?_; omega) | (refine decide_eq_false ?_; omega)); rfl)) (Rd.move (by with_reducible (conv => lhs; whnf))) ?_ | refine XPA.puOff rfl rfl (by first | exact Gd.isB rfl rfl rfl | exact Gd.un rfl rfl | (apply Gd.isQ; rfl; rfl; exact (by first | exact (rfl : decide _ = true) | exact (rfl : decide _ = false) | (refine decide_eq_true ?_; assumption) | (refine decide_eq_false ?_; assumption) | (refine decide_eq_true ?_; omega) | (refine decide_eq_false ?_; omega)); rfl)) ?_
    first | refine XPA.pu rfl rfl (by first | exact Gd.free | exact Gd.isB rfl rfl rfl | (apply Gd.isQ; rfl; rfl; exact (by first | exact (rfl : decide _ = true) | exact (rfl : decide _ = false) | (refine decide_eq_true ?_; assumption) | (refine decide_eq_false ?_; assumption) | (refine decide_eq_true ?_; omega) | (refine decide_eq_false ?_; omega)); rfl)) (Rd.move (by with_reducible (conv => lhs; whnf))) ?_ | refine XPA.puOff rfl rfl (by first | exact Gd.isB rfl rfl rfl | exact Gd.un rfl rfl | (apply Gd.isQ; rfl; rfl; exact (by first | exact (rfl : decide _ = true) | exact (rfl : decide _ = false) | (refine decide_eq_true ?_; assumption) | (refine decide_eq_false ?_; assumption) | (refine decide_eq_true ?_; omega) | (refine decide_eq_false ?_; omega)); rfl)) ?_
    first | refine XPA.pu rfl rfl (by first | exact Gd.free | exact Gd.isB rfl rfl rfl | (apply Gd.isQ; rfl; rfl; exact (by first | exact (rfl : decide _ = true) | exact (rfl : decide _ = false) | (refine decide_eq_true ?_; assumption) | (refine decide_eq_false ?_; assumption) | (refine decide_eq_true ?_; omega) | (refine decide_eq_false ?_; omega)); rfl)) (Rd.move (by with_reducible (conv => lhs; whnf))) ?_ | refine XPA.puOff rfl rfl (by first | exact Gd.isB rfl rfl rfl | exact Gd.un rfl rfl | (apply Gd.isQ; rfl; rfl; exact (by first | exact (rfl : decide _ = true) | exact (rfl : decide _ = false) | (refine decide_eq_true ?_; assumption) | (refine decide_eq_false ?_; assumption) | (refine decide_eq_true ?_; omega) | (refine decide_eq_false ?_; omega)); rfl)) ?_
    first | refine XPA.pu rfl rfl (by first | exact Gd.free | exact Gd.isB rfl rfl rfl | (apply Gd.isQ; rfl; rfl; exact (by first | exact (rfl : decide _ = true) | exact (rfl : decide _ = false) | (refine decide_eq_true ?_; assumption) | (refine decide_eq_false ?_; assumption) | (refine decide_eq_true ?_; omega) | (refine decide_eq_false ?_; omega)); rfl)) (by apply Rd.indexSlice; exact tyrow rfl; rfl; exact tyrow rfl; rfl; rfl; exact (by first | omega | decide | (simp; omega)); exact (by with_reducible (conv => lhs; whnf)); exact (by first | (conv => lhs; simp only [Nat.reduceAdd, Nat.zero_add, Nat.add_zero, Nat.reduceMul, Nat.mul_one, Int.toNat_natCast, Int.reduceToNat, Nat.zero_mul]) | rfl)) ?_ | refine XPA.puOff rfl rfl (by first | exact Gd.isB rfl rfl rfl | exact Gd.un rfl rfl | (apply Gd.isQ; rfl; rfl; exact (by first | exact (rfl : decide _ = true) | exact (rfl : decide _ = false) | (refine decide_eq_true ?_; assumption) | (refine decide_eq_false ?_; assumption) | (refine decide_eq_true ?_; omega) | (refine decide_eq_false ?_; omega)); rfl)) ?_
    first | refine XPA.rd rfl rfl (by first | exact Gd.free | exact Gd.isB rfl rfl rfl | (apply Gd.isQ; rfl; rfl; exact (by first | exact (rfl : decide _ = true) | exact (rfl : decide _ = false) | (refine decide_eq_true ?_; assumption) | (refine decide_eq_false ?_; assumption) | (refine decide_eq_true ?_; omega) | (refine decide_eq_false ?_; omega)); rfl)) (Rd.load rfl (by first | (exact Ld.atBlk (tyrow rfl) rfl (by ((repeat (first | with_reducible exact Sel.head | apply Sel.tail)); (first | done | fail))) rfl (by first | exact take0 (by first | rfl | assumption | (simp [*]; (first | done | fail)) | (simp [*]; (first | done | fail))) | assumption | exact take_app (by first | rfl | assumption | (simp [*]; (first | done | fail)) | (simp [*]; (first | done | fail))) | (conv => lhs; simp only [List.drop_succ_cons, List.drop_zero, List.take_succ_cons, List.take_zero])) (by first | rfl | assumption | (simp [*]; (first | done | fail)) | (simp [*]; (first | done | fail)))) | (exact Ld.at (tyrow rfl) rfl (At.per (by assumption)) (by first | rfl | assumption | (simp [*]; (first | done | fail)) | (simp [*]; (first | done | fail)))) | (exact Ld.atLst (tyrow rfl) rfl (by ((repeat (first | with_reducible exact Sel.head | apply Sel.tail)); (first | done | fail))) rfl (by first | exact take0 (by first | rfl | assumption | (simp [*]; (first | done | fail)) | (simp [*]; (first | done | fail))) | assumption | exact take_app (by first | rfl | assumption | (simp [*]; (first | done | fail)) | (simp [*]; (first | done | fail))) | (conv => lhs; simp only [List.drop_succ_cons, List.drop_zero, List.take_succ_cons, List.take_zero])) (by first | rfl | assumption | (simp [*]; (first | done | fail)) | (simp [*]; (first | done | fail)))))) ?_ | refine XPA.off rfl rfl (by first | exact Gd.isB rfl rfl rfl | exact Gd.un rfl rfl | (apply Gd.isQ; rfl; rfl; exact (by first | exact (rfl : decide _ = true) | exact (rfl : decide _ = false) | (refine decide_eq_true ?_; assumption) | (refine decide_eq_false ?_; assumption) | (refine decide_eq_true ?_; omega) | (refine decide_eq_false ?_; omega)); rfl)) ?_
    refine XPA.wr0 rfl rfl (by first | exact Gd.free | exact Gd.isB rfl rfl rfl | (apply Gd.isQ; rfl; rfl; exact (by first | exact (rfl : decide _ = true) | exact (rfl : decide _ = false) | (refine decide_eq_true ?_; assumption) | (refine decide_eq_false ?_; assumption) | (refine decide_eq_true ?_; omega) | (refine decide_eq_false ?_; omega)); rfl)) (WrA.callE (by (repeat (first | exact Ent.all _ | (apply Ent.take; focus (first | ((repeat (first | with_reducible exact Sel.head | apply Sel.tail)); done) | ((repeat (first | exact Sel.head | apply Sel.tail)); done))) | apply Ent.takeNil | apply Ent.takeEmp)); (first | done | fail)) (read_a σ b dd (k : Int) hwt) rfl) ?_
    rintro _ _ _ ⟨_, ⟨rfl, rfl, rfl⟩, rfl⟩
    refine ⟨⟨(by first | exact PH.sub.refl _ | assumption), (by (repeat (first | exact Ent.nil _ | (apply Ent.sel; focus (first | ((repeat (first | with_reducible exact Sel.head | apply Sel.tail)); done) | ((repeat (first | exact Sel.head | apply Sel.tail)); done))) | apply Ent.selNil | apply Ent.selEmp)); (first | done | fail))⟩, XPA.re (by conv => lhs; dsimp only [List.cons_append, List.nil_append]) ?_⟩
    rw [hrk]
    first | refine XPA.pu rfl rfl (by first | exact Gd.free | exact Gd.isB rfl rfl rfl | (apply Gd.isQ; rfl; rfl; exact (by first | exact (rfl : decide _ = true) | exact (rfl : decide _ = false) | (refine decide_eq_true ?_; assumption) | (refine decide_eq_false ?_; assumption) | (refine decide_eq_true ?_; omega) | (refine decide_eq_false ?_; omega)); rfl)) (Rd.neqWords (tyrow rfl) rfl (tyrow rfl) rfl rfl (by kernel_rfl) rfl rfl (by first | assumption | rfl | (simp; (first | done | fail)) | (simp [*]; (first | done | fail))) (by first | assumption | rfl | (simp; (first | done | fail)) | (simp [*]; (first | done | fail)))) ?_ | refine XPA.puOff rfl rfl (by first | exact Gd.isB rfl rfl rfl | exact Gd.un rfl rfl | (apply Gd.isQ; rfl; rfl; exact (by first | exact (rfl : decide _ = true) | exact (rfl : decide _ = false) | (refine decide_eq_true ?_; assumption) | (refine decide_eq_false ?_; assumption) | (refine decide_eq_true ?_; omega) | (refine decide_eq_false ?_; omega)); rfl)) ?_
    refine XPA.pu rfl rfl Gd.free (by first | exact Rd.pickT rfl (by with_reducible (conv => lhs; whnf)) | exact Rd.pickF rfl (by with_reducible (conv => lhs; whnf)) | exact Rd.pickP rfl (by first | exact (rfl : decide _ = true) | exact (rfl : decide _ = false) | (refine decide_eq_true ?_; assumption) | (refine decide_eq_false ?_; assumption) | (refine decide_eq_true ?_; omega) | (refine decide_eq_false ?_; omega)) (by with_reducible (conv => lhs; whnf))) ?_
    refine XPA.nil ?_
    refine DA.thn_normal ?_
    refine XA.condF rfl (decide_eq_false hww) ?_
    refine XA.skip ?_
    refine DA.inb_normal ?_
    refine DA.thn_normal ?_
    refine XA.region ?_
    refine XOA.rd rfl (Rd.move (by with_reducible (conv => lhs; whnf))) ?_
    refine XOA.rd rfl (by first | exact Rd.addi rfl rfl rfl (by omega) | exact Rd.add rfl rfl) ?_
    refine XOA.rd rfl (Rd.assign (by with_reducible (conv => lhs; whnf))) ?_
    refine XOA.nil ?_
    refine DA.thn_normal ?_
    refine ⟨(Keep.upd (Keep.upd (Keep.upd (Keep.upd (Keep.upd (Keep.updO (Keep.upd (Keep.upd (Keep.upd (Keep.upd (Keep.upd (Keep.upd (Keep.upd (Keep.upd (Keep.upd (Keep.upd (Keep.upd (Keep.upd (Keep.upd (Keep.upd (Keep.upd (Keep.upd (Keep.upd (Keep.upd (Keep.upd (Keep.upd (Keep.upd (Keep.upd (Keep.upd (Keep.upd (Keep.upd (Keep.upd (Keep.upd (Keep.upd (Keep.upd (Keep.upd (Keep.upd (Keep.upd (Keep.hav (Keep.hav (Keep.hav (Keep.refl _ _) rfl) rfl) rfl) rfl) rfl) rfl) rfl) rfl) rfl) rfl) rfl) rfl) rfl) rfl) rfl) rfl) rfl) rfl) rfl) rfl) rfl) rfl) rfl) rfl) rfl) rfl) rfl) rfl) rfl) rfl) rfl) rfl) rfl) rfl) rfl) rfl) rfl) rfl) rfl) rfl) rfl), k + 1, _, (by (repeat (first | exact trivial | refine ⟨rfl, ?_⟩ | refine ⟨Eq.trans rfl (congrArg Value.bool hmat.symm), ?_⟩)); (first | done | fail)), ?_, ⟨rfl, hlt, rfl⟩, (by omega)⟩
    · exact (by (repeat (first | exact Ent.nil _ | (apply Ent.sel; focus (first | ((repeat (first | with_reducible exact Sel.head | apply Sel.tail)); done) | ((repeat (first | exact Sel.head | apply Sel.tail)); done))) | apply Ent.selNil | apply Ent.selEmp)); (first | done | fail))
  refine XA.exit ?_
  refine DA.thn_exit ?_
  refine DA.thn_exit ?_
  refine DA.inb_same ?_
  refine DA.thn_normal ?_
  refine XA.seq ?_
  refine XA.region ?_
  refine XOA.rd rfl (Rd.move (by with_reducible (conv => lhs; whnf))) ?_
  have hm1 : dd.read (-1) = DiskS.zeros := if_neg (by decide)
  have h34 : dd.read 34 = DiskS.zeros := if_neg (by decide)
  have hz8 : DiskS.zeros.length = 8 := rfl
  refine XOA.wr0 rfl (WrA.callE (by (repeat (first | exact Ent.all _ | (apply Ent.take; focus (first | ((repeat (first | with_reducible exact Sel.head | apply Sel.tail)); done) | ((repeat (first | exact Sel.head | apply Sel.tail)); done))) | apply Ent.takeNil | apply Ent.takeEmp)); (first | done | fail)) (read_a σ b dd (-1) hwt) rfl) ?_
  rintro _ _ _ ⟨_, ⟨rfl, rfl, rfl⟩, rfl⟩
  refine XOA.re (by conv => lhs; dsimp only [List.cons_append, List.nil_append]) ?_
  rw [hm1]
  refine XOA.rd rfl (Rd.buildA (fun _ _ => tyrow) rfl rfl rfl rfl (by first | rfl | assumption | (conv => lhs; simp [bld, splice, Value.cells, *]))) ?_
  refine XOA.rd rfl (Rd.eqlWords (tyrow rfl) rfl (tyrow rfl) rfl rfl (by kernel_rfl) rfl rfl (by first | assumption | rfl | (simp; (first | done | fail)) | (simp [*]; (first | done | fail))) (by first | assumption | rfl | (simp; (first | done | fail)) | (simp [*]; (first | done | fail)))) ?_
  refine XOA.rd rfl (Rd.move (by with_reducible (conv => lhs; whnf))) ?_
  first | (refine XOA.wanted rfl rfl ?_; refine XOA.rd rfl (Rd.move (by with_reducible (conv => lhs; whnf))) ?_) | (refine XOA.wantedP rfl rfl (by first | exact (rfl : decide _ = true) | exact (rfl : decide _ = false) | (refine decide_eq_true ?_; assumption) | (refine decide_eq_false ?_; assumption) | (refine decide_eq_true ?_; omega) | (refine decide_eq_false ?_; omega)) ?_; refine XOA.rd rfl (Rd.move (by with_reducible (conv => lhs; whnf))) ?_) | refine XOA.unwanted rfl rfl rfl rfl ?_ | refine XOA.unwantedP rfl rfl rfl (by first | exact (rfl : decide _ = true) | exact (rfl : decide _ = false) | (refine decide_eq_true ?_; assumption) | (refine decide_eq_false ?_; assumption) | (refine decide_eq_true ?_; omega) | (refine decide_eq_false ?_; omega)) ?_ | refine XOA.unwantedU rfl rfl rfl ?_
  first | refine XOA.wanted rfl rfl ?_ | refine XOA.wantedP rfl rfl (by first | exact (rfl : decide _ = true) | exact (rfl : decide _ = false) | (refine decide_eq_true ?_; assumption) | (refine decide_eq_false ?_; assumption) | (refine decide_eq_true ?_; omega) | (refine decide_eq_false ?_; omega)) ?_
  refine XOA.wr0 rfl (WrA.callE (by (repeat (first | exact Ent.all _ | (apply Ent.take; focus (first | ((repeat (first | with_reducible exact Sel.head | apply Sel.tail)); done) | ((repeat (first | exact Sel.head | apply Sel.tail)); done))) | apply Ent.takeNil | apply Ent.takeEmp)); (first | done | fail)) (read_a σ b dd 34 hwt) rfl) ?_
  rintro _ _ _ ⟨_, ⟨rfl, rfl, rfl⟩, rfl⟩
  refine XOA.re (by conv => lhs; dsimp only [List.cons_append, List.nil_append]) ?_
  rw [h34]
  first | (refine XOA.wanted rfl rfl ?_; refine XOA.rd rfl (Rd.buildA (fun _ _ => tyrow) rfl rfl rfl rfl (by first | rfl | assumption | (conv => lhs; simp [bld, splice, Value.cells, *]))) ?_) | (refine XOA.wantedP rfl rfl (by first | exact (rfl : decide _ = true) | exact (rfl : decide _ = false) | (refine decide_eq_true ?_; assumption) | (refine decide_eq_false ?_; assumption) | (refine decide_eq_true ?_; omega) | (refine decide_eq_false ?_; omega)) ?_; refine XOA.rd rfl (Rd.buildA (fun _ _ => tyrow) rfl rfl rfl rfl (by first | rfl | assumption | (conv => lhs; simp [bld, splice, Value.cells, *]))) ?_) | refine XOA.unwanted rfl rfl rfl rfl ?_ | refine XOA.unwantedP rfl rfl rfl (by first | exact (rfl : decide _ = true) | exact (rfl : decide _ = false) | (refine decide_eq_true ?_; assumption) | (refine decide_eq_false ?_; assumption) | (refine decide_eq_true ?_; omega) | (refine decide_eq_false ?_; omega)) ?_ | refine XOA.unwantedU rfl rfl rfl ?_
  first | (refine XOA.wanted rfl rfl ?_; refine XOA.rd rfl (Rd.eqlWords (tyrow rfl) rfl (tyrow rfl) rfl rfl (by kernel_rfl) rfl rfl (by first | assumption | rfl | (simp; (first | done | fail)) | (simp [*]; (first | done | fail))) (by first | assumption | rfl | (simp; (first | done | fail)) | (simp [*]; (first | done | fail)))) ?_) | (refine XOA.wantedP rfl rfl (by first | exact (rfl : decide _ = true) | exact (rfl : decide _ = false) | (refine decide_eq_true ?_; assumption) | (refine decide_eq_false ?_; assumption) | (refine decide_eq_true ?_; omega) | (refine decide_eq_false ?_; omega)) ?_; refine XOA.rd rfl (Rd.eqlWords (tyrow rfl) rfl (tyrow rfl) rfl rfl (by kernel_rfl) rfl rfl (by first | assumption | rfl | (simp; (first | done | fail)) | (simp [*]; (first | done | fail))) (by first | assumption | rfl | (simp; (first | done | fail)) | (simp [*]; (first | done | fail)))) ?_) | refine XOA.unwanted rfl rfl rfl rfl ?_ | refine XOA.unwantedP rfl rfl rfl (by first | exact (rfl : decide _ = true) | exact (rfl : decide _ = false) | (refine decide_eq_true ?_; assumption) | (refine decide_eq_false ?_; assumption) | (refine decide_eq_true ?_; omega) | (refine decide_eq_false ?_; omega)) ?_ | refine XOA.unwantedU rfl rfl rfl ?_
  refine XOA.rd rfl (by first | exact Rd.pickT rfl (by with_reducible (conv => lhs; whnf)) | exact Rd.pickF rfl (by with_reducible (conv => lhs; whnf)) | exact Rd.pickP rfl (by first | exact (rfl : decide _ = true) | exact (rfl : decide _ = false) | (refine decide_eq_true ?_; assumption) | (refine decide_eq_false ?_; assumption) | (refine decide_eq_true ?_; omega) | (refine decide_eq_false ?_; omega)) (by with_reducible (conv => lhs; whnf))) ?_
  refine XOA.rd rfl (Rd.assign (by with_reducible (conv => lhs; whnf))) ?_
  refine XOA.nil ?_
  refine DA.thn_normal ?_
  refine XA.ret ?_
  exact bodyA.ret (ResA.one rfl rfl) (Ent.refl _) ⟨rfl, .refl _⟩
end Go.Proofs.Ytplobdiknobhoaa
