/- The law CodeDoes: what its function does. -/
import Derived.Test.YtbbghdkndbpmmaaCdY
namespace Go.Proofs.Ytbbghdkndbpmmaa
open Go X
set_option maxHeartbeats 2000000
theorem does_law (σ : PH) (cs cs' : List Value) (p q : Pr) (op v : Int) (s : ByteArray) (hp : PrAt σ cs p) (hq : PrAt σ cs' q) (hs : s.size ≤ maxLen) :
    CallsA Try.prog 3 #[.agg cs.toArray, .agg cs'.toArray, i64 op, i64 v, .string s] σ [] (RetA fun r σ' _ => r = .bool true ∧ σ.sub σ') := by
  have hp0 := hp
  have hq0 := hq
  obtain ⟨vs, bs, rfl, hv, hb⟩ := hp
  obtain ⟨vs', bs', rfl, hv', hb'⟩ := hq
  obtain ⟨pv, cv, rfl, hvl, hvm⟩ := hv.shape
  refine enterA5 Try.func3 rfl rfl rfl ?_
  refine XA.seq ?_
  refine XA.region ?_
  refine XOA.wr0 rfl WrA.bx ?_
  rintro _ _ _ ⟨g5, rfl, rfl, rfl⟩
  refine XOA.wr0 rfl WrA.bx ?_
  rintro _ _ _ ⟨g6, rfl, rfl, rfl⟩
  refine XOA.rd rfl Rd.asg ?_
  refine XOA.nil ?_
  refine DA.thn_normal ?_
  refine XA.seq ?_
  refine XA.seq ?_
  refine XA.region ?_
  refine XOA.wr0 rfl (WrA.cE (begun_a σ) rfl) ?_
  rintro _ σ1 _ ⟨_, ⟨rfl, hs1, rfl⟩, rfl⟩
  refine XOA.cl ?_
  have hp1 := hp0.mono hs1
  have hq1 := hq0.mono hs1
  refine XOA.rd rfl (by first | exact Rd.notp rfl | exact Rd.not rfl) ?_
  refine XOA.nil ?_
  refine DA.thn_normal ?_
  refine XA.condF rfl rfl ?_
  refine XA.skip ?_
  refine DA.thn_normal ?_
  refine XA.seq ?_
  refine XA.seq ?_
  refine XA.region ?_
  refine XOA.rd rfl (Rd.ldA rfl) ?_
  refine XOA.wr0 rfl (WrA.cE (great_a σ1 _ p hp1) rfl) ?_
  rintro _ _ _ ⟨_, ⟨b, rfl, hsm, rfl, rfl⟩, rfl⟩
  refine XOA.cl ?_
  cases b with
  | true =>
    refine XOA.rd rfl Rd.mv ?_
    first | ((first | refine XOA.wanted rfl rfl ?_ | refine XOA.wq rfl rfl ?_); refine XOA.rd rfl (Rd.ldA rfl) ?_) | refine XOA.unwanted rfl rfl rfl rfl ?_ | refine XOA.uq rfl rfl rfl ?_ | refine XOA.unwantedU rfl rfl rfl ?_
    first | refine XOA.unwanted rfl rfl rfl rfl ?_ | refine XOA.uq rfl rfl rfl ?_ | refine XOA.unwantedU rfl rfl rfl ?_
    refine XOA.rd rfl (by first | exact Rd.pT rfl | exact Rd.pF rfl | exact Rd.pP rfl) ?_
    refine XOA.rd rfl Rd.mv ?_
    first | ((first | refine XOA.wanted rfl rfl ?_ | refine XOA.wq rfl rfl ?_); refine XOA.rd rfl Rd.mv ?_) | refine XOA.unwanted rfl rfl rfl rfl ?_ | refine XOA.uq rfl rfl rfl ?_ | refine XOA.unwantedU rfl rfl rfl ?_
    first | ((first | refine XOA.wanted rfl rfl ?_ | refine XOA.wq rfl rfl ?_); refine XOA.rd rfl (Rd.lenString (tyrow rfl) rfl rfl) ?_) | refine XOA.unwanted rfl rfl rfl rfl ?_ | refine XOA.uq rfl rfl rfl ?_ | refine XOA.unwantedU rfl rfl rfl ?_
    first | ((first | refine XOA.wanted rfl rfl ?_ | refine XOA.wq rfl rfl ?_); refine XOA.rd rfl (Rd.gtr rfl rfl) ?_) | refine XOA.unwanted rfl rfl rfl rfl ?_ | refine XOA.uq rfl rfl rfl ?_ | refine XOA.unwantedU rfl rfl rfl ?_
    refine XOA.rd rfl (by first | exact Rd.pT rfl | exact Rd.pF rfl | exact Rd.pP rfl) ?_
    refine XOA.nil ?_
    refine DA.thn_normal ?_
    refine XA.condT rfl rfl ?_
    refine XA.seq ?_
    refine XA.region ?_
    refine XOA.rd rfl Rd.asg ?_
    refine XOA.nil ?_
    refine DA.thn_normal ?_
    refine XA.ret ?_
    refine DA.thn_ret ?_
    exact bodyA.ret (ResA.one rfl rfl) (Ent.nil _) ⟨rfl, hs1⟩
  | false =>
    have hsm := hsm rfl
    have h30 := hsm.1
    refine XOA.rd rfl Rd.mv ?_
    first | ((first | refine XOA.wanted rfl rfl ?_ | refine XOA.wq rfl rfl ?_); refine XOA.rd rfl (Rd.ldA rfl) ?_) | refine XOA.unwanted rfl rfl rfl rfl ?_ | refine XOA.uq rfl rfl rfl ?_ | refine XOA.unwantedU rfl rfl rfl ?_
    first | refine XOA.wanted rfl rfl ?_ | refine XOA.wq rfl rfl ?_
    refine XOA.wr0 rfl (WrA.cE (great_a σ1 _ q hq1) rfl) ?_
    rintro _ _ _ ⟨_, ⟨b2, rfl, hsm2, rfl, rfl⟩, rfl⟩
    refine XOA.cl ?_
    cases b2 with
    | true =>
      refine XOA.rd rfl (by first | exact Rd.pT rfl | exact Rd.pF rfl | exact Rd.pP rfl) ?_
      refine XOA.rd rfl Rd.mv ?_
      first | ((first | refine XOA.wanted rfl rfl ?_ | refine XOA.wq rfl rfl ?_); refine XOA.rd rfl Rd.mv ?_) | refine XOA.unwanted rfl rfl rfl rfl ?_ | refine XOA.uq rfl rfl rfl ?_ | refine XOA.unwantedU rfl rfl rfl ?_
      first | ((first | refine XOA.wanted rfl rfl ?_ | refine XOA.wq rfl rfl ?_); refine XOA.rd rfl (Rd.lenString (tyrow rfl) rfl rfl) ?_) | refine XOA.unwanted rfl rfl rfl rfl ?_ | refine XOA.uq rfl rfl rfl ?_ | refine XOA.unwantedU rfl rfl rfl ?_
      first | ((first | refine XOA.wanted rfl rfl ?_ | refine XOA.wq rfl rfl ?_); refine XOA.rd rfl (Rd.gtr rfl rfl) ?_) | refine XOA.unwanted rfl rfl rfl rfl ?_ | refine XOA.uq rfl rfl rfl ?_ | refine XOA.unwantedU rfl rfl rfl ?_
      refine XOA.rd rfl (by first | exact Rd.pT rfl | exact Rd.pF rfl | exact Rd.pP rfl) ?_
      refine XOA.nil ?_
      refine DA.thn_normal ?_
      refine XA.condT rfl rfl ?_
      refine XA.seq ?_
      refine XA.region ?_
      refine XOA.rd rfl Rd.asg ?_
      refine XOA.nil ?_
      refine DA.thn_normal ?_
      refine XA.ret ?_
      refine DA.thn_ret ?_
      exact bodyA.ret (ResA.one rfl rfl) (Ent.nil _) ⟨rfl, hs1⟩
    | false =>
      refine XOA.rd rfl (by first | exact Rd.pT rfl | exact Rd.pF rfl | exact Rd.pP rfl) ?_
      refine XOA.rd rfl Rd.mv ?_
      first | ((first | refine XOA.wanted rfl rfl ?_ | refine XOA.wq rfl rfl ?_); refine XOA.rd rfl Rd.mv ?_) | refine XOA.unwanted rfl rfl rfl rfl ?_ | refine XOA.uq rfl rfl rfl ?_ | refine XOA.unwantedU rfl rfl rfl ?_
      first | ((first | refine XOA.wanted rfl rfl ?_ | refine XOA.wq rfl rfl ?_); refine XOA.rd rfl (Rd.lenString (tyrow rfl) rfl rfl) ?_) | refine XOA.unwanted rfl rfl rfl rfl ?_ | refine XOA.uq rfl rfl rfl ?_ | refine XOA.unwantedU rfl rfl rfl ?_
      first | ((first | refine XOA.wanted rfl rfl ?_ | refine XOA.wq rfl rfl ?_); refine XOA.rd rfl (Rd.gtr rfl rfl) ?_) | refine XOA.unwanted rfl rfl rfl rfl ?_ | refine XOA.uq rfl rfl rfl ?_ | refine XOA.unwantedU rfl rfl rfl ?_
      refine XOA.rd rfl (by first | exact Rd.pT rfl | exact Rd.pF rfl | exact Rd.pP rfl) ?_
      refine XOA.nil ?_
      refine DA.thn_normal ?_
      refine XA.condp rfl (fun hlong => ?_) (fun hlong => ?_)
      · refine XA.seq ?_
        refine XA.region ?_
        refine XOA.rd rfl Rd.asg ?_
        refine XOA.nil ?_
        refine DA.thn_normal ?_
        refine XA.ret ?_
        refine DA.thn_ret ?_
        exact bodyA.ret (ResA.one rfl rfl) (Ent.nil _) ⟨rfl, hs1⟩
      refine XA.skip ?_
      refine DA.thn_normal ?_
      refine XA.seq ?_
      refine XA.region ?_
      refine XOA.rd rfl (Rd.ldA rfl) ?_
      refine XOA.wr0 rfl (WrA.cE (own_a σ1 _ p hp1 hsm) rfl) ?_
      rintro _ σ2 _ ⟨_, ⟨vo, pb, cb, rows, rfl, hvo, hrows, hs2, rfl⟩, rfl⟩
      refine XOA.cl ?_
      refine XOA.frz (R := lst 46 12 _ _ _) (by ((repeat (first | with_reducible exact Sel.head | apply Sel.tail)); (first | done | fail))) lst_frz lst_frz_mono ?_
      rintro σ3 ⟨⟩ hf hs3
      have hvo3 := hvo.mono hs3 (fun _ _ h => h)
      have ho : PrAt σ3 [vo, .slice pb p.body.length cb] p := ⟨_, _, rfl, hvo3, (hrows.mono (fun _ _ h => h.mono hs3)).psl rfl hf⟩
      obtain ⟨po, co, rfl, -, -⟩ := hvo3.shape
      have hs13 := hs2.trans hs3
      have hp3 := hp1.mono hs13
      have hq3 := hq1.mono hs13
      have hv3 := (hv.mono hs1 (fun _ _ h => h)).mono hs13 (fun _ _ h => h)
      obtain ⟨nE, nF, nV, nB, nO⟩ := need_op op
      refine XOA.wr0 rfl (WrA.alloc (tyrow rfl)) ?_
      rintro _ _ _ ⟨g11, rfl, rfl, rfl⟩
      refine XOA.wr0 rfl (WrA.st (tyrow rfl) rfl) ?_
      rintro _ _ _ ⟨rfl, rfl, rfl⟩
      refine XOA.nil ?_
      refine DA.thn_normal ?_
      refine XA.seq ?_
      refine XA.region ?_
      refine XOA.rd rfl Rd.mv ?_
      refine XOA.wr0 rfl (WrA.cE (has_a σ3 op) rfl) ?_
      rintro _ _ _ ⟨_, ⟨rfl, rfl, rfl⟩, rfl⟩
      refine XOA.cl ?_
      obtain ⟨qE, hqE⟩ : ∃ q, q = needE op := ⟨_, rfl⟩
      obtain ⟨qF, hqF⟩ : ∃ q, q = needF op := ⟨_, rfl⟩
      obtain ⟨qV, hqV⟩ : ∃ q, q = needV op := ⟨_, rfl⟩
      obtain ⟨qB, hqB⟩ : ∃ q, q = needB op := ⟨_, rfl⟩
      obtain ⟨qO, hqO⟩ : ∃ q, q = needO op := ⟨_, rfl⟩
      rw [← hqE] at nE ⊢
      rw [← hqF] at nF ⊢
      rw [← hqV] at nV ⊢
      rw [← hqB] at nB ⊢
      rw [← hqO] at nO ⊢
      have kE : ¬ (qE ≠ qE) := fun h => h rfl
      have kF : ¬ (qF ≠ qF) := fun h => h rfl
      have kV : ¬ (qV ≠ qV) := fun h => h rfl
      have kB : ¬ (qB ≠ qB) := fun h => h rfl
      have kO : ¬ (qO ≠ qO) := fun h => h rfl
      refine XOA.rd rfl Rd.mv ?_
      refine XOA.rd rfl (Rd.extract rfl rfl) ?_
      refine XOA.rd rfl (Rd.extract rfl rfl) ?_
      refine XOA.rd rfl (Rd.extract rfl rfl) ?_
      refine XOA.rd rfl (Rd.extract rfl rfl) ?_
      refine XOA.rd rfl (Rd.extract rfl rfl) ?_
      refine XOA.rd rfl Rd.asg ?_
      refine XOA.rd rfl Rd.asg ?_
      refine XOA.rd rfl Rd.asg ?_
      refine XOA.rd rfl Rd.asg ?_
      refine XOA.rd rfl Rd.asg ?_
      refine XOA.nil ?_
      refine DA.thn_normal ?_
      refine XA.seq ?_
      refine XA.seq ?_
      refine XA.region ?_
      refine XOA.rd rfl Rd.mv ?_
      refine XOA.rd rfl Rd.mv ?_
      refine XOA.wr0 rfl (WrA.cE (rneeded_a σ3 op 101) rfl) ?_
      rintro _ _ _ ⟨_, ⟨rfl, rfl, rfl⟩, rfl⟩
      refine XOA.cl ?_
      rw [nE]
      refine XOA.rd rfl (Rd.neqb (tyrow rfl) rfl rfl rfl) ?_
      refine XOA.rd rfl Rd.mv ?_
      first | ((first | refine XOA.wanted rfl rfl ?_ | refine XOA.wq rfl rfl ?_); refine XOA.rd rfl Rd.mv ?_) | refine XOA.unwanted rfl rfl rfl rfl ?_ | refine XOA.uq rfl rfl rfl ?_ | refine XOA.unwantedU rfl rfl rfl ?_
      first | ((first | refine XOA.wanted rfl rfl ?_ | refine XOA.wq rfl rfl ?_); refine XOA.rd rfl Rd.mv ?_) | refine XOA.unwanted rfl rfl rfl rfl ?_ | refine XOA.uq rfl rfl rfl ?_ | refine XOA.unwantedU rfl rfl rfl ?_
      first | refine XOA.wanted rfl rfl ?_ | refine XOA.wq rfl rfl ?_
      refine XOA.wr0 rfl (WrA.cE (rneeded_a σ3 op 102) rfl) ?_
      rintro _ _ _ ⟨_, ⟨rfl, rfl, rfl⟩, rfl⟩
      refine XOA.cl ?_
      rw [nF]
      first | ((first | refine XOA.wanted rfl rfl ?_ | refine XOA.wq rfl rfl ?_); refine XOA.rd rfl (Rd.neqb (tyrow rfl) rfl rfl rfl) ?_) | refine XOA.unwanted rfl rfl rfl rfl ?_ | refine XOA.uq rfl rfl rfl ?_ | refine XOA.unwantedU rfl rfl rfl ?_
      refine XOA.rd rfl (by first | exact Rd.pT rfl | exact Rd.pF rfl | exact Rd.pP rfl) ?_
      refine XOA.rd rfl Rd.mv ?_
      first | ((first | refine XOA.wanted rfl rfl ?_ | refine XOA.wq rfl rfl ?_); refine XOA.rd rfl Rd.mv ?_) | refine XOA.unwanted rfl rfl rfl rfl ?_ | refine XOA.uq rfl rfl rfl ?_ | refine XOA.unwantedU rfl rfl rfl ?_
      first | ((first | refine XOA.wanted rfl rfl ?_ | refine XOA.wq rfl rfl ?_); refine XOA.rd rfl Rd.mv ?_) | refine XOA.unwanted rfl rfl rfl rfl ?_ | refine XOA.uq rfl rfl rfl ?_ | refine XOA.unwantedU rfl rfl rfl ?_
      first | refine XOA.wanted rfl rfl ?_ | refine XOA.wq rfl rfl ?_
      refine XOA.wr0 rfl (WrA.cE (rneeded_a σ3 op 118) rfl) ?_
      rintro _ _ _ ⟨_, ⟨rfl, rfl, rfl⟩, rfl⟩
      refine XOA.cl ?_
      rw [nV]
      first | ((first | refine XOA.wanted rfl rfl ?_ | refine XOA.wq rfl rfl ?_); refine XOA.rd rfl (Rd.neqb (tyrow rfl) rfl rfl rfl) ?_) | refine XOA.unwanted rfl rfl rfl rfl ?_ | refine XOA.uq rfl rfl rfl ?_ | refine XOA.unwantedU rfl rfl rfl ?_
      refine XOA.rd rfl (by first | exact Rd.pT rfl | exact Rd.pF rfl | exact Rd.pP rfl) ?_
      refine XOA.rd rfl Rd.mv ?_
      first | ((first | refine XOA.wanted rfl rfl ?_ | refine XOA.wq rfl rfl ?_); refine XOA.rd rfl Rd.mv ?_) | refine XOA.unwanted rfl rfl rfl rfl ?_ | refine XOA.uq rfl rfl rfl ?_ | refine XOA.unwantedU rfl rfl rfl ?_
      first | ((first | refine XOA.wanted rfl rfl ?_ | refine XOA.wq rfl rfl ?_); refine XOA.rd rfl Rd.mv ?_) | refine XOA.unwanted rfl rfl rfl rfl ?_ | refine XOA.uq rfl rfl rfl ?_ | refine XOA.unwantedU rfl rfl rfl ?_
      first | refine XOA.wanted rfl rfl ?_ | refine XOA.wq rfl rfl ?_
      refine XOA.wr0 rfl (WrA.cE (rneeded_a σ3 op 98) rfl) ?_
      rintro _ _ _ ⟨_, ⟨rfl, rfl, rfl⟩, rfl⟩
      refine XOA.cl ?_
      rw [nB]
      first | ((first | refine XOA.wanted rfl rfl ?_ | refine XOA.wq rfl rfl ?_); refine XOA.rd rfl (Rd.neqb (tyrow rfl) rfl rfl rfl) ?_) | refine XOA.unwanted rfl rfl rfl rfl ?_ | refine XOA.uq rfl rfl rfl ?_ | refine XOA.unwantedU rfl rfl rfl ?_
      refine XOA.rd rfl (by first | exact Rd.pT rfl | exact Rd.pF rfl | exact Rd.pP rfl) ?_
      refine XOA.rd rfl Rd.mv ?_
      first | ((first | refine XOA.wanted rfl rfl ?_ | refine XOA.wq rfl rfl ?_); refine XOA.rd rfl Rd.mv ?_) | refine XOA.unwanted rfl rfl rfl rfl ?_ | refine XOA.uq rfl rfl rfl ?_ | refine XOA.unwantedU rfl rfl rfl ?_
      first | ((first | refine XOA.wanted rfl rfl ?_ | refine XOA.wq rfl rfl ?_); refine XOA.rd rfl Rd.mv ?_) | refine XOA.unwanted rfl rfl rfl rfl ?_ | refine XOA.uq rfl rfl rfl ?_ | refine XOA.unwantedU rfl rfl rfl ?_
      first | refine XOA.wanted rfl rfl ?_ | refine XOA.wq rfl rfl ?_
      refine XOA.wr0 rfl (WrA.cE (rneeded_a σ3 op 111) rfl) ?_
      rintro _ _ _ ⟨_, ⟨rfl, rfl, rfl⟩, rfl⟩
      refine XOA.cl ?_
      rw [nO]
      first | ((first | refine XOA.wanted rfl rfl ?_ | refine XOA.wq rfl rfl ?_); refine XOA.rd rfl (Rd.neqb (tyrow rfl) rfl rfl rfl) ?_) | refine XOA.unwanted rfl rfl rfl rfl ?_ | refine XOA.uq rfl rfl rfl ?_ | refine XOA.unwantedU rfl rfl rfl ?_
      refine XOA.rd rfl (by first | exact Rd.pT rfl | exact Rd.pF rfl | exact Rd.pP rfl) ?_
      refine XOA.nil ?_
      refine DA.thn_normal ?_
      refine XA.condF rfl (by first | rfl | exact (by first | exact (rfl : decide _ = true) | exact (rfl : decide _ = false) | (refine decide_eq_true ?_; assumption) | (refine decide_eq_false ?_; assumption) | (refine decide_eq_true ?_; omega) | (refine decide_eq_false ?_; omega))) ?_
      refine XA.skip ?_
      refine DA.thn_normal ?_
      refine XA.seq ?_
      refine XA.seq ?_
      have kC : ¬ (checkP p ≠ checkP p) := fun h => h rfl
      have kP : ¬ (partsOf op ≠ partsOf op) := fun h => h rfl
      obtain ⟨nm, hnm⟩ : ∃ b, b = nameOk s := ⟨_, rfl⟩
      have kN : ¬ (nm ≠ nm) := fun h => h rfl
      refine XA.draw (by kernel_rfl) _ _ [] [(0, .rd), (2, .rd), (1, .wr), (3, .wr), (4, .pu), (5, .pu), (6, .pu), (8, .pu), (7, .wr), (9, .wr), (10, .pu), (11, .pu), (12, .pu), (13, .pu), (15, .pu), (14, .wr), (16, .wr), (17, .pu), (18, .pu), (19, .pu), (20, .rd), (21, .rd), (23, .rd), (24, .rd), (22, .wr), (25, .wr), (26, .pu), (27, .pu), (28, .pu), (29, .rd), (30, .rd), (31, .wr), (32, .pu), (33, .pu)] (by kernel_rfl) (PH.sub.refl _) (Ent.sel (R := blk g11 _ _) (by ((repeat (first | with_reducible exact Sel.head | apply Sel.tail)); (first | done | fail))) (Ent.sel (R := blk g5 _ _) (by ((repeat (first | with_reducible exact Sel.head | apply Sel.tail)); (first | done | fail))) (Ent.sel (R := blk g6 _ _) (by ((repeat (first | with_reducible exact Sel.head | apply Sel.tail)); (first | done | fail))) (Ent.nil _)))) ?_
      refine XPA.rd rfl rfl Gd.free (Rd.ldA rfl) ?_
      refine XPA.rd rfl rfl Gd.free (Rd.ldA rfl) ?_
      refine XPA.wr0 rfl rfl Gd.free (WrA.cE (check_a σ3 _ p ho) rfl) ?_
      rintro _ _ _ ⟨_, ⟨rfl, rfl, rfl⟩, rfl⟩
      refine stays (XPA.cl ?_)
      refine XPA.wr0 rfl rfl Gd.free (WrA.cE (fault_a σ3 _ p hp3) rfl) ?_
      rintro _ _ _ ⟨_, ⟨rfl, rfl, rfl⟩, rfl⟩
      refine stays (XPA.cl ?_)
      refine XPA.pu rfl rfl Gd.free (Rd.neq rfl rfl) ?_
      refine XPA.pu rfl rfl Gd.free Rd.mv ?_
      first | refine XPA.puG rfl rfl Rd.mv ?_ | refine XPA.puOffG rfl rfl ?_
      first | refine XPA.puG rfl rfl Rd.mv ?_ | refine XPA.puOffG rfl rfl ?_
      refine XPA.wr0 rfl rfl (by first | exact Gd.free | exact Gd.isB rfl rfl rfl | (apply Gd.isQ; rfl; rfl; exact (by first | exact (rfl : decide _ = true) | exact (rfl : decide _ = false) | (refine decide_eq_true ?_; assumption) | (refine decide_eq_false ?_; assumption) | (refine decide_eq_true ?_; omega) | (refine decide_eq_false ?_; omega)); rfl)) (WrA.cE (parts_a σ3 op) rfl) ?_
      rintro _ _ _ ⟨_, ⟨rfl, rfl, rfl⟩, rfl⟩
      refine stays (XPA.cl ?_)
      refine XPA.wr0 rfl rfl (by first | exact Gd.free | exact Gd.isB rfl rfl rfl | (apply Gd.isQ; rfl; rfl; exact (by first | exact (rfl : decide _ = true) | exact (rfl : decide _ = false) | (refine decide_eq_true ?_; assumption) | (refine decide_eq_false ?_; assumption) | (refine decide_eq_true ?_; omega) | (refine decide_eq_false ?_; omega)); rfl)) (WrA.cE (rparts_a σ3 op) rfl) ?_
      rintro _ _ _ ⟨_, ⟨rfl, rfl, rfl⟩, rfl⟩
      refine stays (XPA.cl ?_)
      first | refine XPA.puG rfl rfl (Rd.neq rfl rfl) ?_ | refine XPA.puOffG rfl rfl ?_
      refine XPA.pu rfl rfl Gd.free (by first | exact Rd.pT rfl | exact Rd.pF rfl | exact Rd.pP rfl) ?_
      refine XPA.pu rfl rfl Gd.free Rd.mv ?_
      first | refine XPA.puG rfl rfl Rd.mv ?_ | refine XPA.puOffG rfl rfl ?_
      first | refine XPA.puG rfl rfl Rd.mv ?_ | refine XPA.puOffG rfl rfl ?_
      refine XPA.wr0 rfl rfl (by first | exact Gd.free | exact Gd.isB rfl rfl rfl | (apply Gd.isQ; rfl; rfl; exact (by first | exact (rfl : decide _ = true) | exact (rfl : decide _ = false) | (refine decide_eq_true ?_; assumption) | (refine decide_eq_false ?_; assumption) | (refine decide_eq_true ?_; omega) | (refine decide_eq_false ?_; omega)); rfl)) (WrA.cE (name_a σ3 s hs) rfl) ?_
      rintro _ _ _ ⟨_, ⟨rfl, rfl, rfl⟩, rfl⟩
      refine stays (XPA.cl ?_)
      rw [← hnm]
      refine XPA.wr0 rfl rfl (by first | exact Gd.free | exact Gd.isB rfl rfl rfl | (apply Gd.isQ; rfl; rfl; exact (by first | exact (rfl : decide _ = true) | exact (rfl : decide _ = false) | (refine decide_eq_true ?_; assumption) | (refine decide_eq_false ?_; assumption) | (refine decide_eq_true ?_; omega) | (refine decide_eq_false ?_; omega)); rfl)) (WrA.cE (rname_a σ3 s hs) rfl) ?_
      rintro _ _ _ ⟨_, ⟨rfl, rfl, rfl⟩, rfl⟩
      refine stays (XPA.cl ?_)
      rw [← hnm]
      first | refine XPA.puG rfl rfl (Rd.neqb (tyrow rfl) rfl rfl rfl) ?_ | refine XPA.puOffG rfl rfl ?_
      refine XPA.pu rfl rfl Gd.free (by first | exact Rd.pT rfl | exact Rd.pF rfl | exact Rd.pP rfl) ?_
      refine XPA.pu rfl rfl Gd.free Rd.mv ?_
      first | refine XPA.rdG rfl rfl (Rd.ldA rfl) ?_ | refine XPA.offG rfl rfl ?_
      first | refine XPA.rdG rfl rfl (Rd.ldA rfl) ?_ | refine XPA.offG rfl rfl ?_
      first | refine XPA.rdG rfl rfl (Rd.ldA rfl) ?_ | refine XPA.offG rfl rfl ?_
      first | refine XPA.rdG rfl rfl (Rd.ldA rfl) ?_ | refine XPA.offG rfl rfl ?_
      refine XPA.wr0 rfl rfl (by first | exact Gd.free | exact Gd.isB rfl rfl rfl | (apply Gd.isQ; rfl; rfl; exact (by first | exact (rfl : decide _ = true) | exact (rfl : decide _ = false) | (refine decide_eq_true ?_; assumption) | (refine decide_eq_false ?_; assumption) | (refine decide_eq_true ?_; omega) | (refine decide_eq_false ?_; omega)); rfl)) (WrA.cE (same_a σ3 _ _ p q ho hq3) rfl) ?_
      rintro _ _ _ ⟨_, ⟨b1, rfl, hb1, rfl, rfl⟩, rfl⟩
      refine stays (XPA.cl ?_)
      have kb : ¬ (b1 ≠ b1) := fun h => h rfl
      refine XPA.wr0 rfl rfl (by first | exact Gd.free | exact Gd.isB rfl rfl rfl | (apply Gd.isQ; rfl; rfl; exact (by first | exact (rfl : decide _ = true) | exact (rfl : decide _ = false) | (refine decide_eq_true ?_; assumption) | (refine decide_eq_false ?_; assumption) | (refine decide_eq_true ?_; omega) | (refine decide_eq_false ?_; omega)); rfl)) (WrA.cE (rsame_a σ3 _ _ p q hp3 hq3) rfl) ?_
      rintro _ _ _ ⟨_, ⟨b2, rfl, hb2, rfl, rfl⟩, rfl⟩
      refine stays (XPA.cl ?_)
      obtain rfl : b2 = b1 := Bool.eq_iff_iff.2 (hb2.trans hb1.symm)
      first | refine XPA.puG rfl rfl (Rd.neqb (tyrow rfl) rfl rfl rfl) ?_ | refine XPA.puOffG rfl rfl ?_
      refine XPA.pu rfl rfl Gd.free (by first | exact Rd.pT rfl | exact Rd.pF rfl | exact Rd.pP rfl) ?_
      refine XPA.pu rfl rfl Gd.free Rd.mv ?_
      first | refine XPA.rdG rfl rfl (Rd.ldA rfl) ?_ | refine XPA.offG rfl rfl ?_
      first | refine XPA.rdG rfl rfl (Rd.ldA rfl) ?_ | refine XPA.offG rfl rfl ?_
      refine XPA.wr0 rfl rfl (by first | exact Gd.free | exact Gd.isB rfl rfl rfl | (apply Gd.isQ; rfl; rfl; exact (by first | exact (rfl : decide _ = true) | exact (rfl : decide _ = false) | (refine decide_eq_true ?_; assumption) | (refine decide_eq_false ?_; assumption) | (refine decide_eq_true ?_; omega) | (refine decide_eq_false ?_; omega)); rfl)) (WrA.cE (rsame_a σ3 _ _ p p ho hp3) rfl) ?_
      rintro _ _ _ ⟨_, ⟨b3, rfl, hb3, rfl, rfl⟩, rfl⟩
      refine stays (XPA.cl ?_)
      obtain rfl : b3 = true := hb3.2 rfl
      first | refine XPA.puG rfl rfl (by first | exact Rd.notp rfl | exact Rd.not rfl) ?_ | refine XPA.puOffG rfl rfl ?_
      refine XPA.pu rfl rfl Gd.free (by first | exact Rd.pT rfl | exact Rd.pF rfl | exact Rd.pP rfl) ?_
      refine XPA.nil ?_
      refine DA.thn_normal ?_
      refine XA.condF rfl rfl ?_
      refine XA.skip ?_
      refine DA.thn_normal ?_
      refine XA.seq ?_
      refine XA.seq ?_
      refine XA.region ?_
      refine XOA.rd rfl Rd.asg ?_
      refine XOA.nil ?_
      refine DA.thn_normal ?_
      refine XA.block ?_
      refine XA.gen [(3, _), (5, _), (10, _), (17, _)] ⟨(by with_reducible (conv => lhs; whnf)), (by with_reducible (conv => lhs; whnf)), (by with_reducible (conv => lhs; whnf)), (by with_reducible (conv => lhs; whnf)), trivial⟩ (fun δ => ?_)
      dsimp only [List.foldl]
      refine XA.loop [(10, 10), (17, 17), (103, 125)] (fun k : Nat => [(17, i64 k)]) (fun k σ' Γ' => σ3 = σ' ∧ k ≤ p.vars.length ∧ (∀ (j : Nat) x, j < k → p.vars[j]? = some x → 0 ≤ x.size ∧ x.size ≤ 1000) ∧ Γ' = [blk g5 [.slice pv p.vars.length cv, bs] 25]) (fun k => p.vars.length - k) 0 (by exact ⟨rfl, trivial⟩) (Δ0 := _) ?_ (⟨rfl, Nat.zero_le _, fun j x h => absurd h (Nat.not_lt_zero _), rfl⟩) ?_
      · exact (by (repeat (first | exact Ent.nil _ | (apply Ent.sel; focus (first | ((repeat (first | with_reducible exact Sel.head | apply Sel.tail)); done) | ((repeat (first | exact Sel.head | apply Sel.tail)); done))) | apply Ent.selNil | apply Ent.selEmp)); (first | done | fail))
      rintro k δ _ _ ⟨rfl, hk, hall, rfl⟩
      dsimp only [ovr, List.foldl]
      refine XA.seq ?_
      refine XA.seq ?_
      refine XA.region ?_
      refine XOA.rd rfl Rd.mv ?_
      refine XOA.rd rfl (Rd.fA rfl) ?_
      refine XOA.rd rfl (Rd.ldC rfl (tyrow rfl) rfl) ?_
      refine XOA.rd rfl (Rd.lenSlice (tyrow rfl) rfl rfl) ?_
      refine XOA.rd rfl (Rd.lss rfl rfl) ?_
      refine XOA.nil ?_
      refine DA.thn_normal ?_
      refine XA.condp rfl (fun hlt => ?_) (fun hlt => ?_)
      · have hlt : k < p.vars.length := by omega
        obtain ⟨x, hx⟩ : ∃ x, p.vars[k]? = some x := ⟨_, List.getElem?_eq_getElem hlt⟩
        obtain ⟨gg, o, row, rfl, ⟨rfl, -, -⟩, hrl, hrow⟩ := hv3.at hx
        have r1 : PRow σ3 gg (o + k * 2 + 1) [i64 x.size] := hrow.sub (j := 1) rfl
        by_cases hz : x.size < 0
        · 
          refine XA.skip ?_
          refine DA.thn_normal ?_
          refine XA.seq ?_
          refine XA.block ?_
          refine XA.seq ?_
          refine XA.region ?_
          refine XOA.rd rfl (Rd.fA rfl) ?_
          refine XOA.rd rfl (Rd.ldC rfl (tyrow rfl) rfl) ?_
          refine XOA.rd rfl Rd.mv ?_
          refine XOA.rd rfl (Rd.ixS rfl rfl) ?_
          refine XOA.rd rfl (Rd.fA rfl) ?_
          refine XOA.rd rfl (Rd.ldC rfl (tyrow rfl) rfl) ?_
          refine XOA.rd rfl (Rd.lss rfl rfl) ?_
          refine XOA.rd rfl Rd.mv ?_
          first | ((first | refine XOA.wanted rfl rfl ?_ | refine XOA.wq rfl rfl ?_); refine XOA.rd rfl (Rd.fA rfl) ?_) | refine XOA.unwanted rfl rfl rfl rfl ?_ | refine XOA.uq rfl rfl rfl ?_ | refine XOA.unwantedU rfl rfl rfl ?_
          first | ((first | refine XOA.wanted rfl rfl ?_ | refine XOA.wq rfl rfl ?_); refine XOA.rd rfl (Rd.ldC rfl (tyrow rfl) rfl) ?_) | refine XOA.unwanted rfl rfl rfl rfl ?_ | refine XOA.uq rfl rfl rfl ?_ | refine XOA.unwantedU rfl rfl rfl ?_
          first | ((first | refine XOA.wanted rfl rfl ?_ | refine XOA.wq rfl rfl ?_); refine XOA.rd rfl Rd.mv ?_) | refine XOA.unwanted rfl rfl rfl rfl ?_ | refine XOA.uq rfl rfl rfl ?_ | refine XOA.unwantedU rfl rfl rfl ?_
          first | ((first | refine XOA.wanted rfl rfl ?_ | refine XOA.wq rfl rfl ?_); refine XOA.rd rfl (Rd.ixS rfl rfl) ?_) | refine XOA.unwanted rfl rfl rfl rfl ?_ | refine XOA.uq rfl rfl rfl ?_ | refine XOA.unwantedU rfl rfl rfl ?_
          first | ((first | refine XOA.wanted rfl rfl ?_ | refine XOA.wq rfl rfl ?_); refine XOA.rd rfl (Rd.fA rfl) ?_) | refine XOA.unwanted rfl rfl rfl rfl ?_ | refine XOA.uq rfl rfl rfl ?_ | refine XOA.unwantedU rfl rfl rfl ?_
          first | ((first | refine XOA.wanted rfl rfl ?_ | refine XOA.wq rfl rfl ?_); refine XOA.rd rfl (Rd.ldC rfl (tyrow rfl) rfl) ?_) | refine XOA.unwanted rfl rfl rfl rfl ?_ | refine XOA.uq rfl rfl rfl ?_ | refine XOA.unwantedU rfl rfl rfl ?_
          first | ((first | refine XOA.wanted rfl rfl ?_ | refine XOA.wq rfl rfl ?_); refine XOA.rd rfl (Rd.gtr rfl rfl) ?_) | refine XOA.unwanted rfl rfl rfl rfl ?_ | refine XOA.uq rfl rfl rfl ?_ | refine XOA.unwantedU rfl rfl rfl ?_
          refine XOA.rd rfl (by first | exact Rd.pT rfl | exact Rd.pF rfl | exact Rd.pP rfl) ?_
          refine XOA.nil ?_
          refine DA.thn_normal ?_
          refine XA.condT rfl rfl ?_
          refine XA.seq ?_
          refine XA.region ?_
          refine XOA.rd rfl Rd.asg ?_
          refine XOA.nil ?_
          refine DA.thn_normal ?_
          refine XA.ret ?_
          refine DA.inb_ret ?_
          refine DA.thn_ret ?_
          refine DA.thn_ret ?_
          refine DA.inb_ret ?_
          refine DA.thn_ret ?_
          exact bodyA.ret (ResA.one rfl rfl) (Ent.nil _) ⟨rfl, hs1.trans hs13⟩
        refine XA.skip ?_
        refine DA.thn_normal ?_
        refine XA.seq ?_
        refine XA.block ?_
        refine XA.seq ?_
        refine XA.region ?_
        refine XOA.rd rfl (Rd.fA rfl) ?_
        refine XOA.rd rfl (Rd.ldC rfl (tyrow rfl) rfl) ?_
        refine XOA.rd rfl Rd.mv ?_
        refine XOA.rd rfl (Rd.ixS rfl rfl) ?_
        refine XOA.rd rfl (Rd.fA rfl) ?_
        refine XOA.rd rfl (Rd.ldC rfl (tyrow rfl) rfl) ?_
        refine XOA.rd rfl (Rd.lss rfl rfl) ?_
        refine XOA.rd rfl Rd.mv ?_
        first | ((first | refine XOA.wanted rfl rfl ?_ | refine XOA.wq rfl rfl ?_); refine XOA.rd rfl (Rd.fA rfl) ?_) | refine XOA.unwanted rfl rfl rfl rfl ?_ | refine XOA.uq rfl rfl rfl ?_ | refine XOA.unwantedU rfl rfl rfl ?_
        first | ((first | refine XOA.wanted rfl rfl ?_ | refine XOA.wq rfl rfl ?_); refine XOA.rd rfl (Rd.ldC rfl (tyrow rfl) rfl) ?_) | refine XOA.unwanted rfl rfl rfl rfl ?_ | refine XOA.uq rfl rfl rfl ?_ | refine XOA.unwantedU rfl rfl rfl ?_
        first | ((first | refine XOA.wanted rfl rfl ?_ | refine XOA.wq rfl rfl ?_); refine XOA.rd rfl Rd.mv ?_) | refine XOA.unwanted rfl rfl rfl rfl ?_ | refine XOA.uq rfl rfl rfl ?_ | refine XOA.unwantedU rfl rfl rfl ?_
        first | ((first | refine XOA.wanted rfl rfl ?_ | refine XOA.wq rfl rfl ?_); refine XOA.rd rfl (Rd.ixS rfl rfl) ?_) | refine XOA.unwanted rfl rfl rfl rfl ?_ | refine XOA.uq rfl rfl rfl ?_ | refine XOA.unwantedU rfl rfl rfl ?_
        first | ((first | refine XOA.wanted rfl rfl ?_ | refine XOA.wq rfl rfl ?_); refine XOA.rd rfl (Rd.fA rfl) ?_) | refine XOA.unwanted rfl rfl rfl rfl ?_ | refine XOA.uq rfl rfl rfl ?_ | refine XOA.unwantedU rfl rfl rfl ?_
        first | ((first | refine XOA.wanted rfl rfl ?_ | refine XOA.wq rfl rfl ?_); refine XOA.rd rfl (Rd.ldC rfl (tyrow rfl) rfl) ?_) | refine XOA.unwanted rfl rfl rfl rfl ?_ | refine XOA.uq rfl rfl rfl ?_ | refine XOA.unwantedU rfl rfl rfl ?_
        first | ((first | refine XOA.wanted rfl rfl ?_ | refine XOA.wq rfl rfl ?_); refine XOA.rd rfl (Rd.gtr rfl rfl) ?_) | refine XOA.unwanted rfl rfl rfl rfl ?_ | refine XOA.uq rfl rfl rfl ?_ | refine XOA.unwantedU rfl rfl rfl ?_
        refine XOA.rd rfl (by first | exact Rd.pT rfl | exact Rd.pF rfl | exact Rd.pP rfl) ?_
        refine XOA.nil ?_
        refine DA.thn_normal ?_
        refine XA.condp rfl (fun hz2 => ?_) (fun hz2 => ?_)
        · refine XA.seq ?_
          refine XA.region ?_
          refine XOA.rd rfl Rd.asg ?_
          refine XOA.nil ?_
          refine DA.thn_normal ?_
          refine XA.ret ?_
          refine DA.inb_ret ?_
          refine DA.thn_ret ?_
          refine DA.thn_ret ?_
          refine DA.inb_ret ?_
          refine DA.thn_ret ?_
          exact bodyA.ret (ResA.one rfl rfl) (Ent.nil _) ⟨rfl, hs1.trans hs13⟩
        have hnew : ∀ (j : Nat) y, j < k + 1 → p.vars[j]? = some y → 0 ≤ y.size ∧ y.size ≤ 1000 := fun j y hj hy => by
          rcases Nat.lt_or_ge j k with h | h
          · exact hall j y h hy
          · have : j = k := by omega
            subst this
            rw [hx] at hy; simp only [Option.some.injEq] at hy; subst hy; omega
        refine XA.skip ?_
        refine DA.inb_normal ?_
        refine DA.thn_normal ?_
        refine XA.region ?_
        refine XOA.rd rfl Rd.mv ?_
        refine XOA.rd rfl (by first | exact Rd.adi rfl rfl | exact Rd.add rfl rfl) ?_
        refine XOA.rd rfl Rd.asg ?_
        refine XOA.nil ?_
        refine DA.thn_normal ?_
        refine ⟨(Keep.upd (Keep.upd (Keep.upd (Keep.upd (Keep.upd (Keep.upd (Keep.upd (Keep.upd (Keep.upd (Keep.upd (Keep.upd (Keep.upd (Keep.upd (Keep.upd (Keep.upd (Keep.upd (Keep.upd (Keep.upd (Keep.upd (Keep.upd (Keep.upd (Keep.upd (Keep.upd (Keep.upd (Keep.upd (Keep.hav (Keep.hav (Keep.hav (Keep.refl _ _) rfl) rfl) rfl) rfl) rfl) rfl) rfl) rfl) rfl) rfl) rfl) rfl) rfl) rfl) rfl) rfl) rfl) rfl) rfl) rfl) rfl) rfl) rfl) rfl) rfl) rfl) rfl) rfl), k + 1, _, (by (repeat (first | exact trivial | refine ⟨rfl, ?_⟩ | refine ⟨Eq.trans rfl (congrArg Value.bool hmat.symm), ?_⟩)); (first | done | fail)), ?_, ⟨rfl, hlt, hnew, rfl⟩, (by omega)⟩
        · exact (by (repeat (first | exact Ent.nil _ | (apply Ent.sel; focus (first | ((repeat (first | with_reducible exact Sel.head | apply Sel.tail)); done) | ((repeat (first | exact Sel.head | apply Sel.tail)); done))) | apply Ent.selNil | apply Ent.selEmp)); (first | done | fail))
      have hz : ∀ x ∈ p.vars, 0 ≤ x.size ∧ x.size ≤ 1000 := fun x hx => by
        obtain ⟨j, hj⟩ := List.mem_iff_getElem?.1 hx
        have := (List.getElem?_eq_some_iff.1 hj).1
        exact hall j x (by omega) hj
      have hcl : cellOf p.vars (p.vars.length : Int) = sizes p.vars := by rw [cellOf, Int.toNat_natCast, List.take_length]
      refine XA.exit ?_
      refine DA.thn_exit ?_
      refine DA.thn_exit ?_
      refine DA.inb_same ?_
      refine DA.thn_normal ?_
      refine XA.seq ?_
      refine XA.draw (by kernel_rfl) _ _ [14] [(0, .rd), (1, .pu), (3, .rd), (4, .pu), (2, .wr), (5, .wr), (6, .pu), (7, .pu), (8, .rd), (10, .rd), (11, .pu), (12, .rd), (13, .pu), (9, .wr), (14, .wr), (15, .pu), (16, .pu), (17, .pu)] (by kernel_rfl) (PH.sub.refl _) (Ent.sel (R := blk g5 _ _) (by ((repeat (first | with_reducible exact Sel.head | apply Sel.tail)); (first | done | fail))) (Ent.nil _)) ?_
      refine XPA.rd rfl rfl Gd.free (Rd.ldA rfl) ?_
      refine XPA.pu rfl rfl Gd.free Rd.mv ?_
      refine XPA.rd rfl rfl Gd.free (Rd.ldA rfl) ?_
      refine XPA.pu rfl rfl Gd.free Rd.mv ?_
      refine XPA.wr0 rfl rfl Gd.free (WrA.cE (cell_a σ3 _ p v hp3 hz (by omega)) rfl) ?_
      rintro _ _ _ ⟨_, ⟨rfl, rfl, rfl⟩, rfl⟩
      refine stays (XPA.cl ?_)
      refine XPA.wr0 rfl rfl Gd.free (WrA.cE (rcell_a σ3 _ p v hp3 hz (by omega)) rfl) ?_
      rintro _ _ _ ⟨_, ⟨rfl, rfl, rfl⟩, rfl⟩
      refine stays (XPA.cl ?_)
      refine XPA.pu rfl rfl Gd.free (Rd.eql rfl rfl) ?_
      refine XPA.pu rfl rfl Gd.free Rd.mv ?_
      first | refine XPA.rdG rfl rfl (Rd.ldA rfl) ?_ | refine XPA.offG rfl rfl ?_
      first | refine XPA.rdG rfl rfl (Rd.ldA rfl) ?_ | refine XPA.offG rfl rfl ?_
      first | refine XPA.puG rfl rfl (Rd.fA rfl) ?_ | refine XPA.puOffG rfl rfl ?_
      first | refine XPA.rdG rfl rfl (Rd.ldC rfl (tyrow rfl) rfl) ?_ | refine XPA.offG rfl rfl ?_
      first | refine XPA.puG rfl rfl (Rd.lenSlice (tyrow rfl) rfl rfl) ?_ | refine XPA.puOffG rfl rfl ?_
      refine XPA.wr0 rfl rfl (by first | exact Gd.free | exact Gd.isB rfl rfl rfl | (apply Gd.isQ; rfl; rfl; exact (by first | exact (rfl : decide _ = true) | exact (rfl : decide _ = false) | (refine decide_eq_true ?_; assumption) | (refine decide_eq_false ?_; assumption) | (refine decide_eq_true ?_; omega) | (refine decide_eq_false ?_; omega)); rfl)) (WrA.cE (cells_a σ3 _ p hp3 hz (by omega)) rfl) ?_
      rintro _ _ _ ⟨_, ⟨rfl, rfl, rfl⟩, rfl⟩
      refine stays (XPA.cl ?_)
      refine XPA.wrZ0 rfl rfl (by first | exact Gd.free | exact Gd.isB rfl rfl rfl | (apply Gd.isQ; rfl; rfl; exact (by first | exact (rfl : decide _ = true) | exact (rfl : decide _ = false) | (refine decide_eq_true ?_; assumption) | (refine decide_eq_false ?_; assumption) | (refine decide_eq_true ?_; omega) | (refine decide_eq_false ?_; omega)); rfl)) (by kernel_rfl) (WrA.cE (rcell_a σ3 _ p (p.vars.length : Int) hp3 hz (by omega)) rfl) ?_
      rintro _ _ _ ⟨_, ⟨rfl, rfl, rfl⟩, rfl⟩
      refine XPA.cl ?_
      rw [hcl]
      first | refine XPA.puG rfl rfl (Rd.eql rfl rfl) ?_ | refine XPA.puOffG rfl rfl ?_
      refine XPA.pu rfl rfl Gd.free (by first | exact Rd.pT rfl | exact Rd.pF rfl | exact Rd.pP rfl) ?_
      refine XPA.pu rfl rfl Gd.free Rd.asg ?_
      refine XPA.nil ?_
      refine DA.thn_normal ?_
      refine XA.ret ?_
      exact bodyA.ret (ResA.one rfl (congrArg Value.bool (decide_eq_true rfl))) (Ent.nil _) ⟨rfl, hs1.trans hs13⟩
end Go.Proofs.Ytbbghdkndbpmmaa
