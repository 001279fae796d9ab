/- The laws of package memory: memoryBegun, MemoryClean. -/
import Derived.Test.YtplobdiknobhoaaMo
namespace Go.Proofs.Ytplobdiknobhoaa
open Go X
set_option maxHeartbeats 4000000
theorem Rd.eqPtrNil {P : Program} {ρ : Env} {S : Heap → Prop} {ty T T' e : TypeId} {x : Operand} {r : Ty} {a : Option Addr} (hT : tyOf P T = some r) (hk : r.k = .pointer e) (hx : ev ρ x = .pointer a) : Rd P ρ S (.binOp .eql T x (.const (.pointer none)) T') ty (.bool a.isNone) := by
  refine .pure fun d pos af gd w => ?_
  obtain ⟨dd, i, z, e1, e2, -⟩ := tyOf_spec hT
  rw [hk] at e2
  cases dd <;> simp [kindOf] at e2
  rw [e2] at e1
  have hp : P.underlying T = some (.pointer (P.pointee T)) := by simp [Program.pointee, e1]
  have h1 := run_equal_pointer_nil (P := P) w T a hp
  simp only [execOp, eqGuard, hx, ev, binOp, Sem.run_bind]
  simp [h1]
theorem pages0 : pagesC DiskS.new s0 = noP := pgs_ext (pagesC_ok Good.new.dok s0) noP_ok (fun p hp => by
  rw [pagesC_get _ _ hp, page0]
  rw [noP, List.getD_eq_getElem?_getD, List.getElem?_replicate, if_pos hp]; rfl)
theorem MOk.new0 : MOk DiskS.new s0 noB noB noP noP := by
  have := MOk.new (d := DiskS.new) Good.new.dok s0
  rwa [pages0] at this
theorem putC_same (C : List (List Int)) (a : Int) : putC C a (wordC C a) = C := by rw [putC, if_neg (fun q => q.2 rfl)]
theorem putD_same (C : List (List Int)) (dt : List Bool) (a : Int) : putD C dt a (wordC C a) = dt := by rw [putD, if_neg (fun q => q.2 rfl)]
theorem dirty_none (C : List (List Int)) : dirtyL C noB = [] := rfl
/-- A Sync of all deeds. -/
theorem sync_all (σ : PH) (b sb db : Nat) (d : DiskS) (s : StS) (inn dt : List Bool) (pg C : List (List Int)) (hG : Good d s) (hg1 : s.gen < 4611686018427387904) (h : MOk d s inn dt pg C) :
    CallsA Try.prog 43 #[ptr b, i64 (-1)] σ [blk b (mcells sb inn dt pg) 88, Store sb db s, Disk db d] (RetA fun v σ' Γ' => ∃ (d' : DiskS) (s' : StS), v = .bool true ∧ Good d' s' ∧ s'.gen = s.gen + 1 ∧ MOk d' s' inn noB pg C ∧ (∀ p : Nat, p < 14 → pageW d' s' p = C.getD p DiskS.zeros) ∧ σ.sub σ' ∧ Γ' = [blk b (mcells sb inn noB pg) 88, Store sb db s', Disk db d']) := by
  refine (sync_a σ b sb db d s inn dt pg C (-1) hG hg1 ⟨by decide, by decide⟩ h).ret ?_
  rintro v σ' Γ' ⟨j, hj1, hj2, hj3, rfl, hs, rfl⟩
  obtain rfl : j = (dirtyL C dt).length + 5 := by
    rcases Nat.lt_or_ge j ((dirtyL C dt).length + 5) with h | h
    · have := hj2 h; omega
    · omega
  obtain ⟨h1, h2⟩ := commit_done hG (dirty_w (dt := dt) h.cc) (check_zero (dirty_check C dt)).2.2 dirty_n
  obtain ⟨h3, h4⟩ := h.sync (page_new dirty_n h2)
  exact ⟨_, _, congrArg Value.bool (decide_eq_true rfl), h1, rfl, h3, h4, hs, by rw [if_pos rfl, if_pos rfl]⟩
set_option maxRecDepth 10000 in
theorem mbegun_a (σ : PH) : CallsA Try.prog 39 #[] σ [] (RetA fun v σ' Γ' => v = .bool true ∧ σ.sub σ' ∧ Γ' = []) := by
  have hG0 : Good DiskS.new s0 := Good.new
  have eC1 : putC noP 9 5 = [DiskS.zeros, [0, 5, 0, 0, 0, 0, 0, 0], DiskS.zeros, DiskS.zeros, DiskS.zeros, DiskS.zeros, DiskS.zeros, DiskS.zeros, DiskS.zeros, DiskS.zeros, DiskS.zeros, DiskS.zeros, DiskS.zeros, DiskS.zeros] := by decide +kernel
  obtain ⟨C1, hC1⟩ : ∃ C1, C1 = putC noP 9 5 := ⟨_, rfl⟩
  obtain ⟨D1, hD1⟩ : ∃ D1, D1 = putD noP noB 9 5 := ⟨_, rfl⟩
  have hL1 : (dirtyL C1 D1).length = 1 := by rw [hC1, hD1]; decide +kernel
  obtain ⟨C2, hC2⟩ : ∃ C2, C2 = putC C1 9 6 := ⟨_, rfl⟩
  obtain ⟨D2, hD2⟩ : ∃ D2, D2 = putD C1 noB 9 6 := ⟨_, rfl⟩
  have hw2 : wordC C2 9 = 6 := by rw [hC2, hC1]; decide +kernel
  have hw1 : wordC C1 9 = 5 := by rw [hC1]; decide +kernel
  refine enterA0 Try.func39 rfl rfl rfl ?_
  refine XA.seq ?_
  refine XA.region ?_
  refine XOA.rd rfl Rd.asg ?_
  refine XOA.nil ?_
  refine DA.thn_normal ?_
  refine XA.seq ?_
  refine XA.region ?_
  refine XOA.wr0 rfl (WrA.cE (new_a σ) rfl) ?_
  rintro _ _ _ ⟨_, ⟨db, rfl, rfl, rfl⟩, rfl⟩
  refine XOA.cl ?_
  refine XOA.rd rfl Rd.asg ?_
  refine XOA.nil ?_
  refine DA.thn_normal ?_
  refine XA.seq ?_
  refine XA.region ?_
  refine XOA.rd rfl Rd.mv ?_
  refine XOA.wr0 rfl (WrA.cE (open_a σ db DiskS.new hG0.dok hG0.wlen') rfl) ?_
  rintro _ _ _ ⟨_, ⟨b0, rfl, rfl, rfl⟩, rfl⟩
  refine XOA.cl ?_
  rw [hG0.open]
  refine XOA.wr0 rfl (WrA.cE (mnew_a σ b0) rfl) ?_
  rintro _ _ _ ⟨_, ⟨b, rfl, rfl, rfl⟩, rfl⟩
  refine XOA.cl ?_
  refine XOA.rd rfl Rd.asg ?_
  refine XOA.nil ?_
  refine DA.thn_normal ?_
  refine XA.seq ?_
  refine XA.seq ?_
  refine XA.region ?_
  refine XOA.rd rfl Rd.mv ?_
  refine XOA.rd rfl (Rd.eqPtrNil (tyrow rfl) rfl rfl) ?_
  refine XOA.nil ?_
  refine DA.thn_normal ?_
  refine XA.condF rfl rfl ?_
  refine XA.skip ?_
  refine DA.thn_normal ?_
  refine XA.seq ?_
  refine XA.region ?_
  refine XOA.rd rfl Rd.mv ?_
  refine XOA.wr0 rfl (WrA.cE (put_a σ b b0 db DiskS.new s0 noB noB noP noP 9 5 hG0.dok hG0.wlen' MOk.new0) rfl) ?_
  rintro _ _ _ ⟨_, ⟨rfl, rfl, inn1, pg1, h1, rfl⟩, rfl⟩
  refine XOA.cl ?_
  rw [← hC1, ← hD1] at h1
  rw [← hD1]
  refine XOA.rd rfl Rd.asg ?_
  refine XOA.nil ?_
  refine DA.thn_normal ?_
  refine XA.seq ?_
  refine XA.region ?_
  refine XOA.rd rfl Rd.mv ?_
  refine XOA.wr0 rfl (WrA.cE (dirty_a σ b b0 DiskS.new s0 inn1 D1 pg1 C1 h1) rfl) ?_
  rintro _ _ _ ⟨_, ⟨p, c, rows, rfl, -, rfl, rfl⟩, rfl⟩
  refine XOA.cl ?_
  rw [hL1]
  refine XOA.rd rfl (Rd.lenSlice (tyrow rfl) rfl rfl) ?_
  refine XOA.rd rfl Rd.asg ?_
  refine XOA.nil ?_
  refine DA.thn_normal ?_
  refine XA.seq ?_
  refine XA.region ?_
  refine XOA.rd rfl Rd.mv ?_
  refine XOA.wr0 rfl (WrA.cE (sync_all σ b b0 db DiskS.new s0 inn1 D1 pg1 C1 hG0 (by decide) h1) rfl) ?_
  rintro _ σ2 _ ⟨_, ⟨d1, s1, rfl, hG1, -, h2, hk2, hs2, rfl⟩, rfl⟩
  refine XOA.cl ?_
  refine XOA.rd rfl Rd.asg ?_
  refine XOA.nil ?_
  refine DA.thn_normal ?_
  refine XA.seq ?_
  refine XA.region ?_
  refine XOA.rd rfl Rd.mv ?_
  refine XOA.wr0 rfl (WrA.cE (put_a σ2 b b0 db d1 s1 inn1 noB pg1 C1 9 6 hG1.dok hG1.wlen' h2) rfl) ?_
  rintro _ _ _ ⟨_, ⟨rfl, rfl, inn3, pg3, h3, rfl⟩, rfl⟩
  refine XOA.cl ?_
  rw [← hC2, ← hD2] at h3
  rw [← hD2]
  refine XOA.nil ?_
  refine DA.thn_normal ?_
  refine XA.seq ?_
  refine XA.region ?_
  refine XOA.rd rfl Rd.mv ?_
  refine XOA.wr0 rfl (WrA.cE (crash_a σ2 db _ 0 hG1.wlen' (by decide) (by decide)) rfl) ?_
  rintro _ _ _ ⟨_, ⟨rfl, rfl, rfl⟩, rfl⟩
  refine XOA.cl ?_
  obtain ⟨hG2, hp2⟩ := hG1.settle (bitOf 0)
  obtain ⟨d2, hd2⟩ : ∃ d2, d2 = d1.settle (bitOf 0) := ⟨_, rfl⟩
  rw [← hd2] at hG2 hp2 ⊢
  have h4 := h3.same hp2
  have hN := MOk.new hG2.dok s1
  rw [show pagesC d2 s1 = C1 from pgs_ext (pagesC_ok hG2.dok s1) h2.cc (fun p hp => by rw [pagesC_get _ _ hp, hp2 p hp, hk2 p hp])] at hN
  refine XOA.nil ?_
  refine DA.thn_normal ?_
  refine XA.seq ?_
  refine XA.region ?_
  refine XOA.rd rfl Rd.mv ?_
  refine XOA.wr0 rfl (WrA.cE (open_a σ2 db d2 hG2.dok hG2.wlen') rfl) ?_
  rintro _ _ _ ⟨_, ⟨b2, rfl, rfl, rfl⟩, rfl⟩
  refine XOA.cl ?_
  rw [hG2.open]
  refine XOA.wr0 rfl (WrA.cE (mnew_a σ2 b2) rfl) ?_
  rintro _ _ _ ⟨_, ⟨b3, rfl, rfl, rfl⟩, rfl⟩
  refine XOA.cl ?_
  refine XOA.rd rfl Rd.asg ?_
  refine XOA.nil ?_
  refine DA.thn_normal ?_
  refine XA.seq ?_
  refine XA.region ?_
  refine XOA.rd rfl Rd.mv ?_
  refine XOA.rd rfl Rd.mv ?_
  first | ((first | refine XOA.wanted rfl rfl ?_ | refine XOA.wq rfl rfl ?_); refine XOA.rd rfl Rd.mv ?_) | refine XOA.unwanted rfl rfl rfl rfl ?_ | refine XOA.uq rfl rfl rfl ?_ | refine XOA.unwantedU rfl rfl rfl ?_
  first | ((first | refine XOA.wanted rfl rfl ?_ | refine XOA.wq rfl rfl ?_); refine XOA.rd rfl (Rd.eql rfl rfl) ?_) | refine XOA.unwanted rfl rfl rfl rfl ?_ | refine XOA.uq rfl rfl rfl ?_ | refine XOA.unwantedU rfl rfl rfl ?_
  refine XOA.rd rfl (by first | exact Rd.pT rfl | exact Rd.pF rfl | exact Rd.pP rfl) ?_
  refine XOA.rd rfl Rd.mv ?_
  first | ((first | refine XOA.wanted rfl rfl ?_ | refine XOA.wq rfl rfl ?_); refine XOA.rd rfl Rd.mv ?_) | refine XOA.unwanted rfl rfl rfl rfl ?_ | refine XOA.uq rfl rfl rfl ?_ | refine XOA.unwantedU rfl rfl rfl ?_
  refine XOA.rd rfl (by first | exact Rd.pT rfl | exact Rd.pF rfl | exact Rd.pP rfl) ?_
  refine XOA.rd rfl Rd.mv ?_
  first | ((first | refine XOA.wanted rfl rfl ?_ | refine XOA.wq rfl rfl ?_); refine XOA.rd rfl Rd.mv ?_) | refine XOA.unwanted rfl rfl rfl rfl ?_ | refine XOA.uq rfl rfl rfl ?_ | refine XOA.unwantedU rfl rfl rfl ?_
  first | refine XOA.wanted rfl rfl ?_ | refine XOA.wq rfl rfl ?_
  refine XOA.wr0 rfl (WrA.cE (load_a σ2 b b0 db d2 s1 inn3 D2 pg3 C2 9 hG2.dok hG2.wlen' h4) rfl) ?_
  rintro _ _ _ ⟨_, ⟨rfl, rfl, inn5, pg5, h5, rfl⟩, rfl⟩
  refine XOA.cl ?_
  rw [hw2]
  first | ((first | refine XOA.wanted rfl rfl ?_ | refine XOA.wq rfl rfl ?_); refine XOA.rd rfl (Rd.eql rfl rfl) ?_) | refine XOA.unwanted rfl rfl rfl rfl ?_ | refine XOA.uq rfl rfl rfl ?_ | refine XOA.unwantedU rfl rfl rfl ?_
  refine XOA.rd rfl (by first | exact Rd.pT rfl | exact Rd.pF rfl | exact Rd.pP rfl) ?_
  refine XOA.rd rfl Rd.mv ?_
  first | ((first | refine XOA.wanted rfl rfl ?_ | refine XOA.wq rfl rfl ?_); refine XOA.rd rfl Rd.mv ?_) | refine XOA.unwanted rfl rfl rfl rfl ?_ | refine XOA.uq rfl rfl rfl ?_ | refine XOA.unwantedU rfl rfl rfl ?_
  first | refine XOA.wanted rfl rfl ?_ | refine XOA.wq rfl rfl ?_
  refine XOA.wr0 rfl (WrA.cE (load_a σ2 b3 b2 db d2 s1 noB noB noP C1 9 hG2.dok hG2.wlen' hN) rfl) ?_
  rintro _ _ _ ⟨_, ⟨rfl, rfl, inn6, pg6, h6, rfl⟩, rfl⟩
  refine XOA.cl ?_
  rw [hw1]
  first | ((first | refine XOA.wanted rfl rfl ?_ | refine XOA.wq rfl rfl ?_); refine XOA.rd rfl (Rd.eql rfl rfl) ?_) | refine XOA.unwanted rfl rfl rfl rfl ?_ | refine XOA.uq rfl rfl rfl ?_ | refine XOA.unwantedU rfl rfl rfl ?_
  refine XOA.rd rfl (by first | exact Rd.pT rfl | exact Rd.pF rfl | exact Rd.pP rfl) ?_
  refine XOA.rd rfl Rd.mv ?_
  first | ((first | refine XOA.wanted rfl rfl ?_ | refine XOA.wq rfl rfl ?_); refine XOA.rd rfl Rd.mv ?_) | refine XOA.unwanted rfl rfl rfl rfl ?_ | refine XOA.uq rfl rfl rfl ?_ | refine XOA.unwantedU rfl rfl rfl ?_
  first | refine XOA.wanted rfl rfl ?_ | refine XOA.wq rfl rfl ?_
  refine XOA.wr0 rfl (WrA.cE (put_a σ2 b b0 db d2 s1 inn5 D2 pg5 C2 (-1) 1 hG2.dok hG2.wlen' h5) rfl) ?_
  rintro _ _ _ ⟨_, ⟨rfl, rfl, inn7, pg7, h7, rfl⟩, rfl⟩
  refine XOA.cl ?_
  first | ((first | refine XOA.wanted rfl rfl ?_ | refine XOA.wq rfl rfl ?_); refine XOA.rd rfl (by first | exact Rd.notp rfl | exact Rd.not rfl) ?_) | refine XOA.unwanted rfl rfl rfl rfl ?_ | refine XOA.uq rfl rfl rfl ?_ | refine XOA.unwantedU rfl rfl rfl ?_
  refine XOA.rd rfl (by first | exact Rd.pT rfl | exact Rd.pF rfl | exact Rd.pP rfl) ?_
  refine XOA.rd rfl Rd.mv ?_
  first | ((first | refine XOA.wanted rfl rfl ?_ | refine XOA.wq rfl rfl ?_); refine XOA.rd rfl Rd.mv ?_) | refine XOA.unwanted rfl rfl rfl rfl ?_ | refine XOA.uq rfl rfl rfl ?_ | refine XOA.unwantedU rfl rfl rfl ?_
  first | refine XOA.wanted rfl rfl ?_ | refine XOA.wq rfl rfl ?_
  refine XOA.wr0 rfl (WrA.cE (all_a σ2 b3 b2 db d2 s1 inn6 noB pg6 C1 hG2.dok hG2.wlen' h6) rfl) ?_
  rintro v σ3 _ ⟨_, ⟨hv, hs3, inn8, pg8, h8, rfl⟩, rfl⟩
  refine XOA.cl ?_
  obtain ⟨pv, cv, rfl, -, -⟩ := hv.shape
  rw [flat_len h6.cc]
  first | ((first | refine XOA.wanted rfl rfl ?_ | refine XOA.wq rfl rfl ?_); refine XOA.rd rfl (Rd.lenSlice (tyrow rfl) rfl rfl) ?_) | refine XOA.unwanted rfl rfl rfl rfl ?_ | refine XOA.uq rfl rfl rfl ?_ | refine XOA.unwantedU rfl rfl rfl ?_
  first | ((first | refine XOA.wanted rfl rfl ?_ | refine XOA.wq rfl rfl ?_); refine XOA.rd rfl (Rd.eql rfl rfl) ?_) | refine XOA.unwanted rfl rfl rfl rfl ?_ | refine XOA.uq rfl rfl rfl ?_ | refine XOA.unwantedU rfl rfl rfl ?_
  refine XOA.rd rfl (by first | exact Rd.pT rfl | exact Rd.pF rfl | exact Rd.pP rfl) ?_
  refine XOA.rd rfl Rd.asg ?_
  refine XOA.nil ?_
  refine DA.thn_normal ?_
  refine XA.ret ?_
  exact bodyA.ret (ResA.one rfl rfl) (Ent.nil _) ⟨rfl, hs2.trans hs3, rfl⟩
/-- A step. -/
structure MStp where
  do_ : Int
  at_ : Int
  deeds : Int
  w : Int
  mask : Int
def rMStp : RT MStp := fun _ cs x => cs = [i64 x.do_, i64 x.at_, i64 x.deeds, i64 x.w, .int .u64 x.mask] ∧ okD x.at_ ∧ okD x.deeds ∧ 0 ≤ x.mask ∧ x.mask < 18446744073709551616
theorem lst5 {α : Type} : ∀ {l : List α}, l.length = 5 → ∃ a b c d e, l = [a, b, c, d, e]
  | [a, b, c, d, e], _ => ⟨a, b, c, d, e, rfl⟩
theorem dec_mstp : Dec Try.prog 75 rMStp := ⟨fun {H enc w fuel cs x} h => by
  obtain ⟨hl, hx⟩ := trod_fields (tyrow rfl) rfl h
  obtain ⟨f0, y0, h0⟩ := hx (3, 0) (by simp)
  obtain ⟨f1, y1, h1⟩ := hx (3, 1) (by simp)
  obtain ⟨f2, y2, h2⟩ := hx (3, 2) (by simp)
  obtain ⟨f3, y3, h3⟩ := hx (2, 3) (by simp)
  obtain ⟨f4, y4, h4⟩ := hx (33, 4) (by simp)
  obtain ⟨a0, p0, -⟩ := (Dec.int (tyrow rfl) rfl).out h0
  obtain ⟨a1, p1, q1⟩ := (Dec.int (tyrow rfl) rfl).out h1
  obtain ⟨a2, p2, q2⟩ := (Dec.int (tyrow rfl) rfl).out h2
  obtain ⟨a3, p3, -⟩ := (Dec.int (tyrow rfl) rfl).out h3
  obtain ⟨a4, p4, q4⟩ := (Dec.int (tyrow rfl) rfl).out h4
  rw [cellsOf_ty' (tyrow rfl)] at p0 p1 p2 p3 p4
  have hcs : cs.length = 5 := hl
  obtain ⟨c0, c1, c2, c3, c4, rfl⟩ := lst5 hcs
  simp only [List.drop_zero, List.drop_succ_cons] at p0 p1 p2 p3 p4
  have e0 : c0 = i64 a0 := by have := congrArg (·[0]?) p0; simpa using this
  have e1 : c1 = i64 a1 := by have := congrArg (·[0]?) p1; simpa using this
  have e2 : c2 = i64 a2 := by have := congrArg (·[0]?) p2; simpa using this
  have e3 : c3 = i64 a3 := by have := congrArg (·[0]?) p3; simpa using this
  have e4 : c4 = .int .u64 a4 := by have := congrArg (·[0]?) p4; simpa using this
  subst e0 e1 e2 e3 e4
  exact ⟨⟨a0, a1, a2, a3, a4⟩, rfl, q1, q2, by have := q4.1; simpa [IntKind.min, IntKind.signed] using this, by have := q4.2; simp [IntKind.max, IntKind.signed, IntKind.bits] at this; simp only; omega⟩⟩
theorem mclean_law (σ : PH) (sl : Value) (l : List MStp) (hl : PSl 5 rMStp σ sl l) : CallsA Try.prog 10 #[sl] σ [] (RetA fun r σ' _ => r = .bool true ∧ σ.sub σ') := by
  obtain ⟨pv, cv, rfl, hvl, hvm⟩ := hl.shape
  have hlen : l.length ≤ maxLen := by omega
  simp only [maxLen] at hlen
  have hG0 : Good DiskS.new s0 := Good.new
  refine enterA1 Try.func10 rfl rfl rfl ?_
  refine XA.seq ?_
  refine XA.region ?_
  refine XOA.rd rfl Rd.asg ?_
  refine XOA.nil ?_
  refine DA.thn_normal ?_
  refine XA.seq ?_
  refine XA.seq ?_
  refine XA.region ?_
  refine XOA.wr0 rfl (WrA.cE (mbegun_a σ) rfl) ?_
  rintro _ σ1 _ ⟨_, ⟨rfl, hs1, rfl⟩, rfl⟩
  refine XOA.cl ?_
  have hl1 := hl.mono hs1 (fun cs x h => h)
  refine XOA.rd rfl (by first | exact Rd.notp rfl | exact Rd.not rfl) ?_
  refine XOA.nil ?_
  refine DA.thn_normal ?_
  refine XA.condF rfl rfl ?_
  refine XA.skip ?_
  refine DA.thn_normal ?_
  refine XA.seq ?_
  refine XA.seq ?_
  refine XA.region ?_
  refine XOA.rd rfl Rd.mv ?_
  refine XOA.rd rfl (Rd.lenSlice (tyrow rfl) rfl rfl) ?_
  refine XOA.rd rfl (Rd.gtr rfl rfl) ?_
  refine XOA.nil ?_
  refine DA.thn_normal ?_
  refine XA.condp rfl (fun h150 => ?_) (fun h150 => ?_)
  · refine XA.seq ?_
    refine XA.region ?_
    refine XOA.rd rfl Rd.asg ?_
    refine XOA.nil ?_
    refine DA.thn_normal ?_
    refine XA.ret ?_
    refine DA.thn_ret ?_
    exact bodyA.ret (ResA.one rfl rfl) (Ent.nil _) ⟨rfl, hs1⟩
  refine XA.skip ?_
  refine DA.thn_normal ?_
  refine XA.seq ?_
  refine XA.region ?_
  refine XOA.wr0 rfl (WrA.cE (new_a σ1) rfl) ?_
  rintro _ _ _ ⟨_, ⟨db, rfl, rfl, rfl⟩, rfl⟩
  refine XOA.cl ?_
  refine XOA.rd rfl Rd.asg ?_
  refine XOA.nil ?_
  refine DA.thn_normal ?_
  refine XA.seq ?_
  refine XA.region ?_
  refine XOA.rd rfl Rd.mv ?_
  refine XOA.wr0 rfl (WrA.cE (open_a σ1 db DiskS.new hG0.dok hG0.wlen') rfl) ?_
  rintro _ _ _ ⟨_, ⟨b0, rfl, rfl, rfl⟩, rfl⟩
  refine XOA.cl ?_
  rw [hG0.open]
  refine XOA.wr0 rfl (WrA.cE (mnew_a σ1 b0) rfl) ?_
  rintro _ _ _ ⟨_, ⟨b, rfl, rfl, rfl⟩, rfl⟩
  refine XOA.cl ?_
  refine XOA.rd rfl Rd.asg ?_
  refine XOA.nil ?_
  refine DA.thn_normal ?_
  refine XA.seq ?_
  refine XA.seq ?_
  refine XA.region ?_
  refine XOA.rd rfl Rd.asg ?_
  refine XOA.nil ?_
  refine DA.thn_normal ?_
  refine XA.block ?_
  refine XA.gen [(0, _), (2, _), (3, _), (4, _), (5, _)] ⟨(by with_reducible (conv => lhs; whnf)), (by with_reducible (conv => lhs; whnf)), (by with_reducible (conv => lhs; whnf)), (by with_reducible (conv => lhs; whnf)), (by with_reducible (conv => lhs; whnf)), trivial⟩ (fun δ => ?_)
  dsimp only [List.foldl]
  refine XA.loop [(5, 5), (19, 42)] (fun k : Nat => [(5, i64 k)]) (fun k σ' Γ' => σ1 = σ' ∧ k ≤ l.length ∧ ∃ inn dt pg C, MOk DiskS.new s0 inn dt pg C ∧ Γ' = [blk b (mcells b0 inn dt pg) 88, Store b0 db s0, Disk db DiskS.new]) (fun k => l.length - k) 0 (by exact ⟨rfl, trivial⟩) (Δ0 := _) ?_ (⟨rfl, Nat.zero_le _, _, _, _, _, MOk.new0, rfl⟩) ?_
  · exact (by (repeat (first | exact Ent.nil _ | (apply Ent.sel; focus (first | ((repeat (first | with_reducible exact Sel.head | apply Sel.tail)); done) | ((repeat (first | exact Sel.head | apply Sel.tail)); done))) | apply Ent.selNil | apply Ent.selEmp)); (first | done | fail))
  rintro k δ _ _ ⟨rfl, hk, inn, dt, pg, C, hM, rfl⟩
  dsimp only [ovr, List.foldl]
  refine XA.seq ?_
  refine XA.seq ?_
  refine XA.region ?_
  refine XOA.rd rfl Rd.mv ?_
  refine XOA.rd rfl Rd.mv ?_
  refine XOA.rd rfl (Rd.lenSlice (tyrow rfl) rfl rfl) ?_
  refine XOA.rd rfl (Rd.lss rfl rfl) ?_
  refine XOA.nil ?_
  refine DA.thn_normal ?_
  refine XA.condp rfl (fun hlt => ?_) (fun hlt => ?_)
  · have hlt : k < l.length := by omega
    obtain ⟨x, hx⟩ : ∃ x, l[k]? = some x := ⟨_, List.getElem?_eq_getElem hlt⟩
    obtain ⟨g, o, row, rfl, ⟨rfl, hxa, hxD, hxm0, hxm1⟩, hrl, hrow⟩ := hl1.at hx
    have r0 : PRow σ1 g (o + k * 5) [i64 x.do_] := hrow.sub (j := 0) rfl
    have r1 : PRow σ1 g (o + k * 5 + 1) [i64 x.at_] := hrow.sub (j := 1) rfl
    have r3 : PRow σ1 g (o + k * 5 + 3) [i64 x.w] := hrow.sub (j := 3) rfl
    refine XA.skip ?_
    refine DA.thn_normal ?_
    refine XA.seq ?_
    refine XA.block ?_
    refine XA.seq ?_
    refine XA.region ?_
    refine XOA.rd rfl Rd.mv ?_
    refine XOA.rd rfl Rd.mv ?_
    refine XOA.rd rfl (Rd.ixS rfl rfl) ?_
    refine XOA.rd rfl (Rd.fA rfl) ?_
    refine XOA.rd rfl (Rd.ldC rfl (tyrow rfl) rfl) ?_
    refine XOA.rd rfl (Rd.eql rfl rfl) ?_
    refine XOA.nil ?_
    refine DA.thn_normal ?_
    refine XA.condp rfl (fun h0 => ?_) (fun h0 => ?_)
    · skip
      refine XA.draw (by kernel_rfl) _ _ [11] [(0, .pu), (1, .pu), (2, .pu), (3, .pu), (4, .pu), (5, .rd), (6, .pu), (7, .pu), (8, .pu), (9, .pu), (10, .rd), (11, .wr)] (by kernel_rfl) (PH.sub.refl _) (Ent.nil _) ?_
      refine XPA.pu rfl rfl Gd.free Rd.mv ?_
      refine XPA.pu rfl rfl Gd.free Rd.mv ?_
      refine XPA.pu rfl rfl Gd.free Rd.mv ?_
      refine XPA.pu rfl rfl Gd.free (Rd.ixS rfl rfl) ?_
      refine XPA.pu rfl rfl Gd.free (Rd.fA rfl) ?_
      refine XPA.rd rfl rfl Gd.free (Rd.ldC rfl (tyrow rfl) rfl) ?_
      refine XPA.pu rfl rfl Gd.free Rd.mv ?_
      refine XPA.pu rfl rfl Gd.free Rd.mv ?_
      refine XPA.pu rfl rfl Gd.free (Rd.ixS rfl rfl) ?_
      refine XPA.pu rfl rfl Gd.free (Rd.fA rfl) ?_
      refine XPA.rd rfl rfl Gd.free (Rd.ldC rfl (tyrow rfl) rfl) ?_
      refine XPA.wrZ0 rfl rfl Gd.free (by kernel_rfl) (WrA.cE (put_a σ1 b b0 db DiskS.new s0 inn dt pg C x.at_ x.w hG0.dok hG0.wlen' hM) rfl) ?_
      rintro _ _ _ ⟨_, ⟨rfl, rfl, inn2, pg2, h2, rfl⟩, rfl⟩
      refine XPA.cl ?_
      refine XPA.nil ?_
      refine DA.inb_normal ?_
      refine DA.thn_normal ?_
      refine XA.region ?_
      refine XOA.rd rfl Rd.mv ?_
      refine XOA.rd rfl (by first | exact Rd.adi rfl rfl | exact Rd.add rfl rfl) ?_
      refine XOA.rd rfl Rd.asg ?_
      refine XOA.nil ?_
      refine DA.thn_normal ?_
      refine ⟨(Keep.upd (Keep.upd (Keep.upd (Keep.updO (Keep.upd (Keep.upd (Keep.upd (Keep.upd (Keep.upd (Keep.upd (Keep.upd (Keep.upd (Keep.upd (Keep.upd (Keep.upd (Keep.upd (Keep.upd (Keep.upd (Keep.upd (Keep.upd (Keep.upd (Keep.upd (Keep.upd (Keep.upd (Keep.upd (Keep.upd (Keep.hav (Keep.hav (Keep.refl _ _) rfl) rfl) rfl) rfl) rfl) rfl) rfl) rfl) rfl) rfl) rfl) rfl) rfl) rfl) rfl) rfl) rfl) rfl) rfl) rfl) rfl) rfl) rfl) rfl) rfl) rfl) rfl) rfl), k + 1, _, (by (repeat (first | exact trivial | refine ⟨rfl, ?_⟩ | refine ⟨Eq.trans rfl (congrArg Value.bool hmat.symm), ?_⟩)); (first | done | fail)), ?_, ⟨rfl, hlt, _, _, _, _, h2, rfl⟩, (by omega)⟩
      · exact (by (repeat (first | exact Ent.nil _ | (apply Ent.sel; focus (first | ((repeat (first | with_reducible exact Sel.head | apply Sel.tail)); done) | ((repeat (first | exact Sel.head | apply Sel.tail)); done))) | apply Ent.selNil | apply Ent.selEmp)); (first | done | fail))
    refine XA.skip ?_
    refine DA.inb_normal ?_
    refine DA.thn_normal ?_
    refine XA.region ?_
    refine XOA.rd rfl Rd.mv ?_
    refine XOA.rd rfl (by first | exact Rd.adi rfl rfl | exact Rd.add rfl rfl) ?_
    refine XOA.rd rfl Rd.asg ?_
    refine XOA.nil ?_
    refine DA.thn_normal ?_
    refine ⟨(Keep.upd (Keep.upd (Keep.upd (Keep.upd (Keep.upd (Keep.upd (Keep.upd (Keep.upd (Keep.upd (Keep.upd (Keep.upd (Keep.upd (Keep.upd (Keep.upd (Keep.hav (Keep.hav (Keep.refl _ _) rfl) rfl) rfl) rfl) rfl) rfl) rfl) rfl) rfl) rfl) rfl) rfl) rfl) rfl) rfl) rfl), k + 1, _, (by (repeat (first | exact trivial | refine ⟨rfl, ?_⟩ | refine ⟨Eq.trans rfl (congrArg Value.bool hmat.symm), ?_⟩)); (first | done | fail)), ?_, ⟨rfl, hlt, _, _, _, _, hM, rfl⟩, (by omega)⟩
    · exact (by (repeat (first | exact Ent.nil _ | (apply Ent.sel; focus (first | ((repeat (first | with_reducible exact Sel.head | apply Sel.tail)); done) | ((repeat (first | exact Sel.head | apply Sel.tail)); done))) | apply Ent.selNil | apply Ent.selEmp)); (first | done | fail))
  refine XA.exit ?_
  refine DA.thn_exit ?_
  refine DA.thn_exit ?_
  refine DA.inb_same ?_
  refine DA.thn_normal ?_
  refine XA.seq ?_
  refine XA.region ?_
  refine XOA.rd rfl Rd.mv ?_
  refine XOA.wr0 rfl (WrA.cE (all_a σ1 b b0 db DiskS.new s0 inn dt pg C hG0.dok hG0.wlen' hM) rfl) ?_
  rintro vw σ2 _ ⟨_, ⟨hv, hs2, inn2, pg2, h2, rfl⟩, rfl⟩
  refine XOA.cl ?_
  obtain ⟨pw, cw, rfl, hw1, hw2⟩ := hv.shape
  have hfl := flat_len hM.cc
  refine XOA.rd rfl Rd.asg ?_
  refine XOA.nil ?_
  refine DA.thn_normal ?_
  refine XA.seq ?_
  refine XA.seq ?_
  refine XA.region ?_
  refine XOA.rd rfl Rd.mv ?_
  refine XOA.wr0 rfl (WrA.cE (sync_all σ2 b b0 db DiskS.new s0 inn2 dt pg2 C hG0 (by decide) h2) rfl) ?_
  rintro _ σ3 _ ⟨_, ⟨d1, s1, rfl, hG1, hg1, h3, hk3, hs3, rfl⟩, rfl⟩
  refine XOA.cl ?_
  have hv3 := hv.mono hs3
  refine XOA.rd rfl (by first | exact Rd.notp rfl | exact Rd.not rfl) ?_
  refine XOA.rd rfl Rd.mv ?_
  first | ((first | refine XOA.wanted rfl rfl ?_ | refine XOA.wq rfl rfl ?_); refine XOA.rd rfl Rd.mv ?_) | refine XOA.unwanted rfl rfl rfl rfl ?_ | refine XOA.uq rfl rfl rfl ?_ | refine XOA.unwantedU rfl rfl rfl ?_
  first | refine XOA.wanted rfl rfl ?_ | refine XOA.wq rfl rfl ?_
  refine XOA.wr0 rfl (WrA.cE (dirty_a σ3 b b0 d1 s1 inn2 noB pg2 C h3) rfl) ?_
  rintro _ _ _ ⟨_, ⟨p, c, rows, rfl, -, rfl, rfl⟩, rfl⟩
  refine XOA.cl ?_
  rw [dirty_none]
  first | ((first | refine XOA.wanted rfl rfl ?_ | refine XOA.wq rfl rfl ?_); refine XOA.rd rfl (Rd.lenSlice (tyrow rfl) rfl rfl) ?_) | refine XOA.unwanted rfl rfl rfl rfl ?_ | refine XOA.uq rfl rfl rfl ?_ | refine XOA.unwantedU rfl rfl rfl ?_
  first | ((first | refine XOA.wanted rfl rfl ?_ | refine XOA.wq rfl rfl ?_); refine XOA.rd rfl (Rd.neq rfl rfl) ?_) | refine XOA.unwanted rfl rfl rfl rfl ?_ | refine XOA.uq rfl rfl rfl ?_ | refine XOA.unwantedU rfl rfl rfl ?_
  refine XOA.rd rfl (by first | exact Rd.pT rfl | exact Rd.pF rfl | exact Rd.pP rfl) ?_
  refine XOA.nil ?_
  refine DA.thn_normal ?_
  refine XA.condF rfl rfl ?_
  refine XA.skip ?_
  refine DA.thn_normal ?_
  refine XA.seq ?_
  refine XA.seq ?_
  refine XA.region ?_
  refine XOA.rd rfl Rd.asg ?_
  refine XOA.nil ?_
  refine DA.thn_normal ?_
  refine XA.block ?_
  refine XA.gen [(0, _), (2, _), (3, _), (4, _), (6, _), (7, _)] ⟨(by with_reducible (conv => lhs; whnf)), (by with_reducible (conv => lhs; whnf)), (by with_reducible (conv => lhs; whnf)), (by with_reducible (conv => lhs; whnf)), (by with_reducible (conv => lhs; whnf)), (by with_reducible (conv => lhs; whnf)), trivial⟩ (fun δ => ?_)
  dsimp only [List.foldl]
  refine XA.loop [(7, 7), (54, 66)] (fun k : Nat => [(7, i64 k)]) (fun k σ' Γ' => σ3 = σ' ∧ k ≤ 112 ∧ ∃ inn pg, MOk d1 s1 inn noB pg C ∧ Γ' = [blk b (mcells b0 inn noB pg) 88, Store b0 db s1, Disk db d1]) (fun k => 112 - k) 0 (by exact ⟨rfl, trivial⟩) (Δ0 := _) ?_ (⟨rfl, Nat.zero_le _, _, _, h3, rfl⟩) ?_
  · exact (by (repeat (first | exact Ent.nil _ | (apply Ent.sel; focus (first | ((repeat (first | with_reducible exact Sel.head | apply Sel.tail)); done) | ((repeat (first | exact Sel.head | apply Sel.tail)); done))) | apply Ent.selNil | apply Ent.selEmp)); (first | done | fail))
  rintro k δ2 _ _ ⟨rfl, hk, inn4, pg4, h4, rfl⟩
  dsimp only [ovr, List.foldl]
  refine XA.seq ?_
  refine XA.seq ?_
  refine XA.region ?_
  refine XOA.rd rfl Rd.mv ?_
  refine XOA.rd rfl Rd.mv ?_
  refine XOA.rd rfl (Rd.lenSlice (tyrow rfl) rfl rfl) ?_
  refine XOA.rd rfl (Rd.lss rfl rfl) ?_
  refine XOA.nil ?_
  refine DA.thn_normal ?_
  refine XA.condp rfl (fun hlt => ?_) (fun hlt => ?_)
  · have hlt : k < 112 := by omega
    have hwk := flat_get hM.cc hlt
    obtain ⟨g, o, rfl, hr⟩ := hv3.at hwk
    rw [Nat.mul_one] at hr
    refine XA.skip ?_
    refine DA.thn_normal ?_
    refine XA.seq ?_
    refine XA.block ?_
    refine XA.region ?_
    refine XOA.rd rfl Rd.mv ?_
    refine XOA.rd rfl Rd.mv ?_
    refine XOA.rd rfl Rd.mv ?_
    refine XOA.rd rfl Rd.mv ?_
    refine XOA.rd rfl (Rd.ixS rfl rfl) ?_
    refine XOA.rd rfl (Rd.ldC rfl (tyrow rfl) rfl) ?_
    refine XOA.wr0 rfl (WrA.cE (put_a σ3 b b0 db d1 s1 inn4 noB pg4 C k (wordC C k) hG1.dok hG1.wlen' h4) rfl) ?_
    rintro _ _ _ ⟨_, ⟨rfl, rfl, inn5, pg5, h5, rfl⟩, rfl⟩
    refine XOA.cl ?_
    rw [putC_same, putD_same] at h5
    rw [putD_same]
    refine XOA.nil ?_
    refine DA.inb_normal ?_
    refine DA.thn_normal ?_
    refine XA.region ?_
    refine XOA.rd rfl Rd.mv ?_
    refine XOA.rd rfl (by first | exact Rd.adi rfl rfl | exact Rd.add rfl rfl) ?_
    refine XOA.rd rfl Rd.asg ?_
    refine XOA.nil ?_
    refine DA.thn_normal ?_
    refine ⟨(Keep.upd (Keep.upd (Keep.upd (Keep.updO (Keep.upd (Keep.upd (Keep.upd (Keep.upd (Keep.upd (Keep.upd (Keep.upd (Keep.upd (Keep.upd (Keep.upd (Keep.upd (Keep.hav (Keep.hav (Keep.refl _ _) rfl) rfl) rfl) rfl) rfl) rfl) rfl) rfl) rfl) rfl) rfl) rfl) rfl) rfl) rfl) rfl) rfl), k + 1, _, (by (repeat (first | exact trivial | refine ⟨rfl, ?_⟩ | refine ⟨Eq.trans rfl (congrArg Value.bool hmat.symm), ?_⟩)); (first | done | fail)), ?_, ⟨rfl, hlt, _, _, h5, rfl⟩, (by omega)⟩
    · exact (by (repeat (first | exact Ent.nil _ | (apply Ent.sel; focus (first | ((repeat (first | with_reducible exact Sel.head | apply Sel.tail)); done) | ((repeat (first | exact Sel.head | apply Sel.tail)); done))) | apply Ent.selNil | apply Ent.selEmp)); (first | done | fail))
  refine XA.exit ?_
  refine DA.thn_exit ?_
  refine DA.thn_exit ?_
  refine DA.inb_same ?_
  refine DA.thn_normal ?_
  refine XA.seq ?_
  refine XA.seq ?_
  refine XA.region ?_
  refine XOA.rd rfl Rd.mv ?_
  refine XOA.wr0 rfl (WrA.cE (dirty_a σ3 b b0 d1 s1 inn4 noB pg4 C h4) rfl) ?_
  rintro _ _ _ ⟨_, ⟨p, c, rows, rfl, -, rfl, rfl⟩, rfl⟩
  refine XOA.cl ?_
  rw [dirty_none]
  refine XOA.rd rfl (Rd.lenSlice (tyrow rfl) rfl rfl) ?_
  refine XOA.rd rfl (Rd.neq rfl rfl) ?_
  refine XOA.rd rfl Rd.mv ?_
  first | ((first | refine XOA.wanted rfl rfl ?_ | refine XOA.wq rfl rfl ?_); refine XOA.rd rfl Rd.mv ?_) | refine XOA.unwanted rfl rfl rfl rfl ?_ | refine XOA.uq rfl rfl rfl ?_ | refine XOA.unwantedU rfl rfl rfl ?_
  first | refine XOA.wanted rfl rfl ?_ | refine XOA.wq rfl rfl ?_
  refine XOA.wr0 rfl (WrA.cE (sync_all σ3 b b0 db d1 s1 inn4 noB pg4 C hG1 (by rw [hg1]; decide) h4) rfl) ?_
  rintro _ σ4 _ ⟨_, ⟨d2, s2, rfl, hG2, hg2, h5, hk5, hs4, rfl⟩, rfl⟩
  refine XOA.cl ?_
  have hv4 := hv3.mono hs4
  have hl4 := hl1.mono ((hs2.trans hs3).trans hs4) (fun cs x h => h)
  first | ((first | refine XOA.wanted rfl rfl ?_ | refine XOA.wq rfl rfl ?_); refine XOA.rd rfl (by first | exact Rd.notp rfl | exact Rd.not rfl) ?_) | refine XOA.unwanted rfl rfl rfl rfl ?_ | refine XOA.uq rfl rfl rfl ?_ | refine XOA.unwantedU rfl rfl rfl ?_
  refine XOA.rd rfl (by first | exact Rd.pT rfl | exact Rd.pF rfl | exact Rd.pP rfl) ?_
  refine XOA.nil ?_
  refine DA.thn_normal ?_
  refine XA.condF rfl rfl ?_
  refine XA.skip ?_
  refine DA.thn_normal ?_
  refine XA.seq ?_
  refine XA.region ?_
  refine XOA.rd rfl Rd.mv ?_
  refine XOA.wr0 rfl (WrA.cE (open_a σ4 db d2 hG2.dok hG2.wlen') rfl) ?_
  rintro _ _ _ ⟨_, ⟨b2, rfl, rfl, rfl⟩, rfl⟩
  refine XOA.cl ?_
  rw [hG2.open]
  refine XOA.wr0 rfl (WrA.cE (mnew_a σ4 b2) rfl) ?_
  rintro _ _ _ ⟨_, ⟨b3, rfl, rfl, rfl⟩, rfl⟩
  refine XOA.cl ?_
  refine XOA.rd rfl Rd.asg ?_
  refine XOA.nil ?_
  refine DA.thn_normal ?_
  refine XA.seq ?_
  refine XA.seq ?_
  refine XA.region ?_
  refine XOA.rd rfl Rd.asg ?_
  refine XOA.nil ?_
  refine DA.thn_normal ?_
  refine XA.block ?_
  have hN := MOk.new hG2.dok s2
  rw [show pagesC d2 s2 = C from pgs_ext (pagesC_ok hG2.dok s2) hM.cc (fun p hp => by rw [pagesC_get _ _ hp, hk5 p hp])] at hN
  refine XA.gen [(0, _), (2, _), (4, _), (6, _), (8, _), (9, _)] ⟨(by with_reducible (conv => lhs; whnf)), (by with_reducible (conv => lhs; whnf)), (by with_reducible (conv => lhs; whnf)), (by with_reducible (conv => lhs; whnf)), (by with_reducible (conv => lhs; whnf)), (by with_reducible (conv => lhs; whnf)), trivial⟩ (fun δ => ?_)
  dsimp only [List.foldl]
  refine XA.loop [(9, 9), (79, 98)] (fun k : Nat => [(9, i64 k)]) (fun k σ' Γ' => σ4 = σ' ∧ k ≤ l.length ∧ ∃ inn pg, MOk d2 s2 inn noB pg C ∧ Γ' = [blk b3 (mcells b2 inn noB pg) 88, Store b2 db s2, Disk db d2, blk b (mcells b0 inn4 noB pg4) 88, Store b0 db s2]) (fun k => l.length - k) 0 (by exact ⟨rfl, trivial⟩) (Δ0 := _) ?_ (⟨rfl, Nat.zero_le _, _, _, hN, rfl⟩) ?_
  · exact (by (repeat (first | exact Ent.nil _ | (apply Ent.sel; focus (first | ((repeat (first | with_reducible exact Sel.head | apply Sel.tail)); done) | ((repeat (first | exact Sel.head | apply Sel.tail)); done))) | apply Ent.selNil | apply Ent.selEmp)); (first | done | fail))
  rintro k δ3 _ _ ⟨rfl, hk, inn6, pg6, h6, rfl⟩
  dsimp only [ovr, List.foldl]
  refine XA.seq ?_
  refine XA.seq ?_
  refine XA.region ?_
  refine XOA.rd rfl Rd.mv ?_
  refine XOA.rd rfl Rd.mv ?_
  refine XOA.rd rfl (Rd.lenSlice (tyrow rfl) rfl rfl) ?_
  refine XOA.rd rfl (Rd.lss rfl rfl) ?_
  refine XOA.nil ?_
  refine DA.thn_normal ?_
  refine XA.condp rfl (fun hlt => ?_) (fun hlt => ?_)
  · have hlt : k < l.length := by omega
    obtain ⟨x, hx⟩ : ∃ x, l[k]? = some x := ⟨_, List.getElem?_eq_getElem hlt⟩
    obtain ⟨g, o, row, rfl, ⟨rfl, hxa, hxD, hxm0, hxm1⟩, hrl, hrow⟩ := hl4.at hx
    have r1 : PRow σ4 g (o + k * 5 + 1) [i64 x.at_] := hrow.sub (j := 1) rfl
    refine XA.skip ?_
    refine DA.thn_normal ?_
    refine XA.seq ?_
    refine XA.block ?_
    refine XA.draw (by kernel_rfl) _ _ [13] [(0, .pu), (1, .pu), (2, .pu), (3, .pu), (4, .pu), (5, .rd), (6, .pu), (7, .pu), (8, .pu), (9, .pu), (10, .pu), (11, .rd), (12, .wr), (13, .wr)] (by kernel_rfl) (PH.sub.refl _) (Ent.nil _) ?_
    refine XPA.pu rfl rfl Gd.free Rd.mv ?_
    refine XPA.pu rfl rfl Gd.free Rd.mv ?_
    refine XPA.pu rfl rfl Gd.free Rd.mv ?_
    refine XPA.pu rfl rfl Gd.free (Rd.ixS rfl rfl) ?_
    refine XPA.pu rfl rfl Gd.free (Rd.fA rfl) ?_
    refine XPA.rd rfl rfl Gd.free (Rd.ldC rfl (tyrow rfl) rfl) ?_
    refine XPA.pu rfl rfl Gd.free Rd.mv ?_
    refine XPA.pu rfl rfl Gd.free Rd.mv ?_
    refine XPA.pu rfl rfl Gd.free Rd.mv ?_
    refine XPA.pu rfl rfl Gd.free (Rd.ixS rfl rfl) ?_
    refine XPA.pu rfl rfl Gd.free (Rd.fA rfl) ?_
    refine XPA.rd rfl rfl Gd.free (Rd.ldC rfl (tyrow rfl) rfl) ?_
    refine XPA.wr0 rfl rfl Gd.free (WrA.cE (load_a σ4 b3 b2 db d2 s2 inn6 noB pg6 C x.at_ hG2.dok hG2.wlen' h6) rfl) ?_
    rintro _ _ _ ⟨_, ⟨rfl, rfl, inn7, pg7, h7, rfl⟩, rfl⟩
    refine stays (XPA.cl ?_)
    refine XPA.wrZ0 rfl rfl Gd.free (by kernel_rfl) (WrA.cE (put_a σ4 b3 b2 db d2 s2 inn7 noB pg7 C x.at_ (wordC C x.at_) hG2.dok hG2.wlen' h7) rfl) ?_
    rintro _ _ _ ⟨_, ⟨rfl, rfl, inn8, pg8, h8, rfl⟩, rfl⟩
    refine XPA.cl ?_
    rw [putC_same, putD_same] at h8
    rw [putD_same]
    refine XPA.nil ?_
    refine DA.inb_normal ?_
    refine DA.thn_normal ?_
    refine XA.region ?_
    refine XOA.rd rfl Rd.mv ?_
    refine XOA.rd rfl (by first | exact Rd.adi rfl rfl | exact Rd.add rfl rfl) ?_
    refine XOA.rd rfl Rd.asg ?_
    refine XOA.nil ?_
    refine DA.thn_normal ?_
    refine ⟨(Keep.upd (Keep.upd (Keep.upd (Keep.updO (Keep.updO (Keep.upd (Keep.upd (Keep.upd (Keep.upd (Keep.upd (Keep.upd (Keep.upd (Keep.upd (Keep.upd (Keep.upd (Keep.upd (Keep.upd (Keep.upd (Keep.upd (Keep.upd (Keep.upd (Keep.upd (Keep.hav (Keep.hav (Keep.refl _ _) rfl) rfl) rfl) rfl) rfl) rfl) rfl) rfl) rfl) rfl) rfl) rfl) rfl) rfl) rfl) rfl) rfl) rfl) rfl) rfl) rfl) rfl) rfl) rfl), k + 1, _, (by (repeat (first | exact trivial | refine ⟨rfl, ?_⟩ | refine ⟨Eq.trans rfl (congrArg Value.bool hmat.symm), ?_⟩)); (first | done | fail)), ?_, ⟨rfl, hlt, _, _, h8, rfl⟩, (by omega)⟩
    · exact (by (repeat (first | exact Ent.nil _ | (apply Ent.sel; focus (first | ((repeat (first | with_reducible exact Sel.head | apply Sel.tail)); done) | ((repeat (first | exact Sel.head | apply Sel.tail)); done))) | apply Ent.selNil | apply Ent.selEmp)); (first | done | fail))
  refine XA.exit ?_
  refine DA.thn_exit ?_
  refine DA.thn_exit ?_
  refine DA.inb_same ?_
  refine DA.thn_normal ?_
  refine XA.seq ?_
  refine XA.region ?_
  refine XOA.rd rfl Rd.mv ?_
  refine XOA.wr0 rfl (WrA.cE (all_a σ4 b b0 db d2 s2 inn4 noB pg4 C hG2.dok hG2.wlen' h5) rfl) ?_
  rintro va σ5 _ ⟨_, ⟨hva, hs5, inn9, pg9, h9, rfl⟩, rfl⟩
  refine XOA.cl ?_
  obtain ⟨pa, ca, rfl, -, -⟩ := hva.shape
  have hv5 := hv4.mono hs5
  refine XOA.rd rfl Rd.mv ?_
  refine XOA.wr0 rfl (WrA.cE (same_a σ5 _ _ C.flatten C.flatten hva hv5) rfl) ?_
  rintro _ _ _ ⟨_, ⟨rfl, rfl, rfl⟩, rfl⟩
  refine XOA.cl ?_
  rw [decide_eq_true (rfl : C.flatten = C.flatten)]
  refine XOA.rd rfl Rd.mv ?_
  first | ((first | refine XOA.wanted rfl rfl ?_ | refine XOA.wq rfl rfl ?_); refine XOA.rd rfl Rd.mv ?_) | refine XOA.unwanted rfl rfl rfl rfl ?_ | refine XOA.uq rfl rfl rfl ?_ | refine XOA.unwantedU rfl rfl rfl ?_
  first | refine XOA.wanted rfl rfl ?_ | refine XOA.wq rfl rfl ?_
  refine XOA.wr0 rfl (WrA.cE (all_a σ5 b3 b2 db d2 s2 inn6 noB pg6 C hG2.dok hG2.wlen' h6) rfl) ?_
  rintro vb σ6 _ ⟨_, ⟨hvb, hs6, inn10, pg10, h10, rfl⟩, rfl⟩
  refine XOA.cl ?_
  obtain ⟨pb, cb, rfl, -, -⟩ := hvb.shape
  have hv6 := hv5.mono hs6
  first | ((first | refine XOA.wanted rfl rfl ?_ | refine XOA.wq rfl rfl ?_); refine XOA.rd rfl Rd.mv ?_) | refine XOA.unwanted rfl rfl rfl rfl ?_ | refine XOA.uq rfl rfl rfl ?_ | refine XOA.unwantedU rfl rfl rfl ?_
  first | refine XOA.wanted rfl rfl ?_ | refine XOA.wq rfl rfl ?_
  refine XOA.wr0 rfl (WrA.cE (same_a σ6 _ _ C.flatten C.flatten hvb hv6) rfl) ?_
  rintro _ _ _ ⟨_, ⟨rfl, rfl, rfl⟩, rfl⟩
  refine XOA.cl ?_
  rw [decide_eq_true (rfl : C.flatten = C.flatten)]
  refine XOA.rd rfl (by first | exact Rd.pT rfl | exact Rd.pF rfl | exact Rd.pP rfl) ?_
  refine XOA.rd rfl Rd.mv ?_
  first | ((first | refine XOA.wanted rfl rfl ?_ | refine XOA.wq rfl rfl ?_); refine XOA.rd rfl Rd.mv ?_) | refine XOA.unwanted rfl rfl rfl rfl ?_ | refine XOA.uq rfl rfl rfl ?_ | refine XOA.unwantedU rfl rfl rfl ?_
  first | refine XOA.wanted rfl rfl ?_ | refine XOA.wq rfl rfl ?_
  refine XOA.wr0 rfl (WrA.cE (dirty_a σ6 b3 b2 d2 s2 inn10 noB pg10 C h10) rfl) ?_
  rintro _ _ _ ⟨_, ⟨p, c, rows, rfl, -, rfl, rfl⟩, rfl⟩
  refine XOA.cl ?_
  rw [dirty_none]
  first | ((first | refine XOA.wanted rfl rfl ?_ | refine XOA.wq rfl rfl ?_); refine XOA.rd rfl (Rd.lenSlice (tyrow rfl) rfl rfl) ?_) | refine XOA.unwanted rfl rfl rfl rfl ?_ | refine XOA.uq rfl rfl rfl ?_ | refine XOA.unwantedU rfl rfl rfl ?_
  first | ((first | refine XOA.wanted rfl rfl ?_ | refine XOA.wq rfl rfl ?_); refine XOA.rd rfl (Rd.eql rfl rfl) ?_) | refine XOA.unwanted rfl rfl rfl rfl ?_ | refine XOA.uq rfl rfl rfl ?_ | refine XOA.unwantedU rfl rfl rfl ?_
  refine XOA.rd rfl (by first | exact Rd.pT rfl | exact Rd.pF rfl | exact Rd.pP rfl) ?_
  refine XOA.rd rfl Rd.asg ?_
  refine XOA.nil ?_
  refine DA.thn_normal ?_
  refine XA.ret ?_
  exact bodyA.ret (ResA.one rfl rfl) (Ent.nil _) ⟨rfl, ((((hs1.trans hs2).trans hs3).trans hs4).trans hs5).trans hs6⟩
end Go.Proofs.Ytplobdiknobhoaa
