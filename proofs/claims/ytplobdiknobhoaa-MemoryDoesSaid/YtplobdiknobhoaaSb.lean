/- The laws of package store: storeBegun, greatStore. -/
import Derived.Test.YtplobdiknobhoaaSq
namespace Go.Proofs.Ytplobdiknobhoaa
open Go X
set_option maxHeartbeats 1000000
def w5 : List Int := [5, 0, 0, 0, 0, 0, 0, 0]
def w6 : List Int := [6, 0, 0, 0, 0, 0, 0, 0]
theorem one_page {σ : PH} {g : Nat} {w : List Int} (hw : w.length = 8) (h : PRow σ g 0 (i64 3 :: ints w)) : PSl 9 rPage σ (.slice (some ⟨g, 0, none⟩) 1 1) [⟨3, w⟩] :=
  Rows_.psl ((Rows_.nil 9 rPage σ).snoc (row := i64 3 :: ints w) (by simp [hw]) ⟨rfl, hw⟩) rfl ⟨Nat.le_refl _, by simp [maxLen], rfl, fun _ => ⟨g, 0, rfl, by simpa using h⟩⟩
theorem Good.wlen {d : DiskS} {s : StS} (h : Good d s) : d.wait.length < 900 := by rw [h.wait]; decide
theorem Good.wlen' {d : DiskS} {s : StS} (h : Good d s) : d.wait.length < 1000000 := by rw [h.wait]; decide
theorem comD_ok {d : DiskS} {s : StS} {l : List PageS} (h : Good d s) (hw : ∀ x ∈ l, x.w.length = 8) (j : Nat) : (comD d s l j).ok := by
  unfold comD
  split
  · exact dTo_ok h.dok hw _ (by assumption)
  · split
    · exact comT_ok h hw (by omega)
    · split
      · exact settled_ok (comT_ok h hw (Nat.le_refl 2)) _
      · split
        · exact (settled_ok (comT_ok h hw (Nat.le_refl 2)) _).write rfl
        · exact settled_ok ((settled_ok (comT_ok h hw (Nat.le_refl 2)) _).write rfl) _
theorem comD_wait {d : DiskS} {s : StS} {l : List PageS} (h : Good d s) (hl : l.length ≤ 14) (j : Nat) : (comD d s l j).wait.length < 1000000 := by
  have h0 : d.wait.length = 0 := by rw [h.wait]; rfl
  have hT : ∀ q, q ≤ 2 → (comT d s l q).wait.length < 100 := fun q hq => by
    have h1 := dTo_wait d l (freeS s) l.length
    have h2 := dTo_wait (dTo d l (freeS s) l.length) (tabL (nextS s l).pg) ((freeS s).drop l.length) q
    unfold comT; omega
  unfold comD
  split
  · have := dTo_wait d l (freeS s) j; omega
  · split
    · have := hT (j - l.length) (by omega); omega
    · split
      · simp [DiskS.settle]
      · split
        · have := write_wait ((comT d s l 2).settle fun _ => true) ((s.gen + 1) % 2) (rootW (s.gen + 1) ((nextS s l).t.getD 0 0) ((nextS s l).t.getD 1 0))
          have h3 : ((comT d s l 2).settle fun _ => true).wait.length = 0 := by simp [DiskS.settle]
          omega
        · simp [DiskS.settle]
def s0 : StS := ⟨0, [0, 0], zero14⟩
theorem sbegun_a (σ : PH) : CallsA Try.prog 27 #[] σ [] (RetA fun v σ' Γ' => v = .bool true ∧ σ.sub σ' ∧ Γ' = []) := by
  have hG0 : Good DiskS.new s0 := Good.new
  have hw5 : ∀ x ∈ ([⟨3, w5⟩] : List PageS), x.w.length = 8 := by simp [w5]
  have hw6 : ∀ x ∈ ([⟨3, w6⟩] : List PageS), x.w.length = 8 := by simp [w6]
  have hn5 : ∀ x ∈ ([⟨3, w5⟩] : List PageS), 0 ≤ x.n ∧ x.n < 14 := by simp
  have hn6 : ∀ x ∈ ([⟨3, w6⟩] : List PageS), 0 ≤ x.n ∧ x.n < 14 := by simp
  refine enterA0 Try.func27 rfl rfl rfl ?_
  refine XA.seq ?_
  refine XA.region ?_
  refine XOA.rd rfl Rd.asg ?_
  refine XOA.nil ?_
  refine DA.thn_normal ?_
  refine XA.seq ?_
  refine XA.region ?_
  refine XOA.wr0 rfl (WrA.cE (new_a σ) rfl) ?_
  rintro _ _ _ ⟨_, ⟨db, rfl, rfl, rfl⟩, rfl⟩
  refine XOA.cl ?_
  refine XOA.rd rfl Rd.asg ?_
  refine XOA.nil ?_
  refine DA.thn_normal ?_
  refine XA.seq ?_
  refine XA.region ?_
  refine XOA.rd rfl Rd.mv ?_
  refine XOA.wr0 rfl (WrA.cE (open_a σ db DiskS.new hG0.dok hG0.wlen') rfl) ?_
  rintro _ _ _ ⟨_, ⟨b, rfl, rfl, rfl⟩, rfl⟩
  refine XOA.cl ?_
  rw [hG0.open]
  refine XOA.rd rfl Rd.asg ?_
  refine XOA.nil ?_
  refine DA.thn_normal ?_
  refine XA.seq ?_
  refine XA.region ?_
  refine XOA.rd rfl Rd.mv ?_
  refine XOA.rd rfl (Rd.blA (fun _ _ => tyrow) rfl rfl rfl) ?_
  refine XOA.rd rfl (Rd.bl (fun _ _ => tyrow) rfl rfl rfl) ?_
  refine XOA.wr0 rfl (WrA.bs1 (tyrow rfl) rfl (tyrow rfl)) ?_
  rintro _ _ _ ⟨g14, rfl, rfl, rfl⟩
  refine XOA.frz (R := blk g14 _ 66) (by ((repeat (first | with_reducible exact Sel.head | apply Sel.tail)); (first | done | fail))) blk_frz blk_frz_mono ?_
  rintro σ1 ⟨⟩ hr5 hs1
  refine XOA.wr0 rfl (WrA.cE (commit_yes σ1 b db s0 DiskS.new _ [⟨3, w5⟩] (-1) (one_page rfl hr5) (by decide) hG0.sok (by decide) (by decide) ⟨by decide, by decide⟩ hG0.wlen) rfl) ?_
  rintro _ σ2 _ ⟨_, ⟨j, hj1, hj2, hj3, rfl, hs2, rfl⟩, rfl⟩
  refine XOA.cl ?_
  obtain rfl : j = ([⟨3, w5⟩] : List PageS).length + 5 := by
    rcases Nat.lt_or_ge j (([⟨3, w5⟩] : List PageS).length + 5) with h | h
    · have := hj2 h; omega
    · omega
  rw [decide_eq_true rfl, if_pos rfl]
  obtain ⟨hG1, hP1⟩ := commit_done hG0 hw5 (by decide) hn5
  obtain ⟨d1, hd1⟩ : ∃ d1, d1 = comD DiskS.new s0 [⟨3, w5⟩] (([⟨3, w5⟩] : List PageS).length + 5) := ⟨_, rfl⟩
  obtain ⟨s1, hs1e⟩ : ∃ s1, s1 = nextS s0 [⟨3, w5⟩] := ⟨_, rfl⟩
  have hg1 : s1.gen = 1 := by rw [hs1e]; rfl
  rw [← hd1, ← hs1e] at hG1 hP1 ⊢
  refine XOA.rd rfl Rd.mv ?_
  refine XOA.rd rfl (Rd.extract rfl rfl) ?_
  refine XOA.rd rfl (Rd.extract rfl rfl) ?_
  refine XOA.rd rfl Rd.asg ?_
  refine XOA.rd rfl Rd.asg ?_
  refine XOA.nil ?_
  refine DA.thn_normal ?_
  refine XA.seq ?_
  refine XA.region ?_
  refine XOA.rd rfl Rd.mv ?_
  refine XOA.rd rfl (Rd.blA (fun _ _ => tyrow) rfl rfl rfl) ?_
  refine XOA.rd rfl (Rd.bl (fun _ _ => tyrow) rfl rfl rfl) ?_
  refine XOA.wr0 rfl (WrA.bs1 (tyrow rfl) rfl (tyrow rfl)) ?_
  rintro _ _ _ ⟨g22, rfl, rfl, rfl⟩
  refine XOA.frz (R := blk g22 _ 66) (by ((repeat (first | with_reducible exact Sel.head | apply Sel.tail)); (first | done | fail))) blk_frz blk_frz_mono ?_
  rintro σ3 ⟨⟩ hr6 hs3
  refine XOA.wr0 rfl (WrA.cE (commit_yes σ3 b db s1 d1 _ [⟨3, w6⟩] 5 (one_page rfl hr6) (by decide) hG1.sok (by rw [hg1]; decide) (by rw [hg1]; decide) ⟨by decide, by decide⟩ hG1.wlen) rfl) ?_
  rintro _ σ4 _ ⟨_, ⟨j, hj1, hj2, hj3, rfl, hs4, rfl⟩, rfl⟩
  refine XOA.cl ?_
  obtain rfl : j = ([⟨3, w6⟩] : List PageS).length + 4 := by
    rcases Nat.lt_or_ge j (([⟨3, w6⟩] : List PageS).length + 5) with h | h
    · have := hj2 h; simp only [List.length_singleton]; omega
    · exact absurd rfl (hj3 (by omega) 5 (by decide))
  rw [decide_eq_false (by decide), if_neg (by decide)]
  have hR := commit_root hG1 hw6 (by decide) hn6 (bitOf 0)
  rw [if_neg (by decide)] at hR
  obtain ⟨hG2, hP2⟩ := hR
  refine XOA.rd rfl Rd.mv ?_
  refine XOA.rd rfl (Rd.extract rfl rfl) ?_
  refine XOA.rd rfl (Rd.extract rfl rfl) ?_
  refine XOA.rd rfl Rd.asg ?_
  refine XOA.rd rfl Rd.asg ?_
  refine XOA.nil ?_
  refine DA.thn_normal ?_
  refine XA.seq ?_
  refine XA.region ?_
  refine XOA.rd rfl Rd.mv ?_
  refine XOA.wr0 rfl (WrA.cE (crash_a σ4 db _ 0 (comD_wait (l := [⟨3, w6⟩]) hG1 (by decide) _) (by decide) (by decide)) rfl) ?_
  rintro _ _ _ ⟨_, ⟨rfl, rfl, rfl⟩, rfl⟩
  refine XOA.cl ?_
  obtain ⟨d2, hd2⟩ : ∃ d2, d2 = (comD d1 s1 [⟨3, w6⟩] (([⟨3, w6⟩] : List PageS).length + 4)).settle (bitOf 0) := ⟨_, rfl⟩
  rw [← hd2] at hG2 hP2 ⊢
  refine XOA.nil ?_
  refine DA.thn_normal ?_
  refine XA.seq ?_
  refine XA.region ?_
  refine XOA.rd rfl Rd.mv ?_
  refine XOA.wr0 rfl (WrA.cE (open_a σ4 db d2 hG2.dok hG2.wlen') rfl) ?_
  rintro _ _ _ ⟨_, ⟨b2, rfl, rfl, rfl⟩, rfl⟩
  refine XOA.cl ?_
  rw [hG2.open]
  have hp3 : pageW d2 s1 3 = w5 := by
    have e1 := hP2 3 (by decide)
    have e2 := hP1 3 (by decide)
    have e3 : newTo (fun p => pageW DiskS.new s0 p) [⟨3, w5⟩] ([⟨3, w5⟩] : List PageS).length 3 = w5 := rfl
    rw [e3] at e2
    exact e1.trans e2
  refine XOA.rd rfl Rd.asg ?_
  refine XOA.nil ?_
  refine DA.thn_normal ?_
  refine XA.seq ?_
  refine XA.region ?_
  refine XOA.rd rfl Rd.mv ?_
  refine XOA.rd rfl Rd.mv ?_
  first | ((first | refine XOA.wanted rfl rfl ?_ | refine XOA.wq rfl rfl ?_); refine XOA.rd rfl Rd.mv ?_) | refine XOA.unwanted rfl rfl rfl rfl ?_ | refine XOA.uq rfl rfl rfl ?_ | refine XOA.unwantedU rfl rfl rfl ?_
  first | ((first | refine XOA.wanted rfl rfl ?_ | refine XOA.wq rfl rfl ?_); refine XOA.rd rfl (Rd.eql rfl rfl) ?_) | refine XOA.unwanted rfl rfl rfl rfl ?_ | refine XOA.uq rfl rfl rfl ?_ | refine XOA.unwantedU rfl rfl rfl ?_
  refine XOA.rd rfl (by first | exact Rd.pT rfl | exact Rd.pF rfl | exact Rd.pP rfl) ?_
  refine XOA.rd rfl Rd.mv ?_
  first | ((first | refine XOA.wanted rfl rfl ?_ | refine XOA.wq rfl rfl ?_); refine XOA.rd rfl Rd.mv ?_) | refine XOA.unwanted rfl rfl rfl rfl ?_ | refine XOA.uq rfl rfl rfl ?_ | refine XOA.unwantedU rfl rfl rfl ?_
  first | ((first | refine XOA.wanted rfl rfl ?_ | refine XOA.wq rfl rfl ?_); refine XOA.rd rfl (by first | exact Rd.notp rfl | exact Rd.not rfl) ?_) | refine XOA.unwanted rfl rfl rfl rfl ?_ | refine XOA.uq rfl rfl rfl ?_ | refine XOA.unwantedU rfl rfl rfl ?_
  refine XOA.rd rfl (by first | exact Rd.pT rfl | exact Rd.pF rfl | exact Rd.pP rfl) ?_
  refine XOA.rd rfl Rd.mv ?_
  first | ((first | refine XOA.wanted rfl rfl ?_ | refine XOA.wq rfl rfl ?_); refine XOA.rd rfl Rd.mv ?_) | refine XOA.unwanted rfl rfl rfl rfl ?_ | refine XOA.uq rfl rfl rfl ?_ | refine XOA.unwantedU rfl rfl rfl ?_
  first | ((first | refine XOA.wanted rfl rfl ?_ | refine XOA.wq rfl rfl ?_); refine XOA.rd rfl (Rd.eql rfl rfl) ?_) | refine XOA.unwanted rfl rfl rfl rfl ?_ | refine XOA.uq rfl rfl rfl ?_ | refine XOA.unwantedU rfl rfl rfl ?_
  refine XOA.rd rfl (by first | exact Rd.pT rfl | exact Rd.pF rfl | exact Rd.pP rfl) ?_
  refine XOA.rd rfl Rd.mv ?_
  first | ((first | refine XOA.wanted rfl rfl ?_ | refine XOA.wq rfl rfl ?_); refine XOA.rd rfl Rd.mv ?_) | refine XOA.unwanted rfl rfl rfl rfl ?_ | refine XOA.uq rfl rfl rfl ?_ | refine XOA.unwantedU rfl rfl rfl ?_
  first | ((first | refine XOA.wanted rfl rfl ?_ | refine XOA.wq rfl rfl ?_); refine XOA.rd rfl (Rd.neqPtrNil (tyrow rfl) rfl rfl) ?_) | refine XOA.unwanted rfl rfl rfl rfl ?_ | refine XOA.uq rfl rfl rfl ?_ | refine XOA.unwantedU rfl rfl rfl ?_
  refine XOA.rd rfl (by first | exact Rd.pT rfl | exact Rd.pF rfl | exact Rd.pP rfl) ?_
  refine XOA.rd rfl Rd.mv ?_
  first | ((first | refine XOA.wanted rfl rfl ?_ | refine XOA.wq rfl rfl ?_); refine XOA.rd rfl Rd.mv ?_) | refine XOA.unwanted rfl rfl rfl rfl ?_ | refine XOA.uq rfl rfl rfl ?_ | refine XOA.unwantedU rfl rfl rfl ?_
  first | refine XOA.wanted rfl rfl ?_ | refine XOA.wq rfl rfl ?_
  refine XOA.wr0 rfl (WrA.cE (gen_a σ4 b2 db s1) rfl) ?_
  rintro _ _ _ ⟨_, ⟨rfl, rfl, rfl⟩, rfl⟩
  refine XOA.cl ?_
  rw [hg1]
  first | ((first | refine XOA.wanted rfl rfl ?_ | refine XOA.wq rfl rfl ?_); refine XOA.rd rfl (Rd.eql rfl rfl) ?_) | refine XOA.unwanted rfl rfl rfl rfl ?_ | refine XOA.uq rfl rfl rfl ?_ | refine XOA.unwantedU rfl rfl rfl ?_
  refine XOA.rd rfl (by first | exact Rd.pT rfl | exact Rd.pF rfl | exact Rd.pP rfl) ?_
  refine XOA.rd rfl Rd.mv ?_
  first | ((first | refine XOA.wanted rfl rfl ?_ | refine XOA.wq rfl rfl ?_); refine XOA.rd rfl Rd.mv ?_) | refine XOA.unwanted rfl rfl rfl rfl ?_ | refine XOA.uq rfl rfl rfl ?_ | refine XOA.unwantedU rfl rfl rfl ?_
  first | refine XOA.wanted rfl rfl ?_ | refine XOA.wq rfl rfl ?_
  refine XOA.wr0 rfl (WrA.cE (sread_a σ4 b2 db s1 d2 3 hG2.dok hG2.wlen') rfl) ?_
  rintro _ _ _ ⟨_, ⟨rfl, rfl, rfl⟩, rfl⟩
  refine XOA.cl ?_
  rw [hp3]
  first | ((first | refine XOA.wanted rfl rfl ?_ | refine XOA.wq rfl rfl ?_); refine XOA.rd rfl (Rd.ixG rfl rfl) ?_) | refine XOA.unwanted rfl rfl rfl rfl ?_ | refine XOA.uq rfl rfl rfl ?_ | refine XOA.unwantedU rfl rfl rfl ?_
  first | ((first | refine XOA.wanted rfl rfl ?_ | refine XOA.wq rfl rfl ?_); refine XOA.rd rfl (Rd.eql rfl rfl) ?_) | refine XOA.unwanted rfl rfl rfl rfl ?_ | refine XOA.uq rfl rfl rfl ?_ | refine XOA.unwantedU rfl rfl rfl ?_
  refine XOA.rd rfl (by first | exact Rd.pT rfl | exact Rd.pF rfl | exact Rd.pP rfl) ?_
  refine XOA.rd rfl Rd.mv ?_
  first | refine XOA.wanted rfl rfl ?_ | refine XOA.wq rfl rfl ?_
  refine XOA.wr0 rfl (WrA.cE (shas_a σ4 3) rfl) ?_
  rintro _ _ _ ⟨_, ⟨rfl, rfl, rfl⟩, rfl⟩
  refine XOA.cl ?_
  refine XOA.rd rfl (by first | exact Rd.pT rfl | exact Rd.pF rfl | exact Rd.pP rfl) ?_
  refine XOA.rd rfl Rd.asg ?_
  refine XOA.nil ?_
  refine DA.thn_normal ?_
  refine XA.ret ?_
  exact bodyA.ret (ResA.one rfl rfl) (Ent.nil _) ⟨rfl, ((hs1.trans hs2).trans hs3).trans hs4, rfl⟩
end Go.Proofs.Ytplobdiknobhoaa
