/- The law StoreSafe: what its function does. -/
import Derived.Test.YtplobdiknobhoaaSm
namespace Go.Proofs.Ytplobdiknobhoaa
open Go X
set_option maxHeartbeats 4000000
/-- The first pages, aL they were to be behind the first k of a list. -/
def nextTo (d : DiskS) (s : StS) (l : List PageS) (k : Nat) (Q : List (List Int)) : Prop := pgsOk Q ∧ ∀ q : Nat, q < 14 → Q.getD q DiskS.zeros = wTo (pageW d s q) l k q
theorem nextTo_succ {d : DiskS} {s : StS} {l : List PageS} {k : Nat} {Q : List (List Int)} {n : Nat} {w : List Int} (h : nextTo d s l k Q) (hx : l[k]? = some ⟨n, w⟩) (hw : w.length = 8) : nextTo d s l (k + 1) (Q.set n w) := by
  refine ⟨pgs_set h.1 n hw, fun q hq => ?_⟩
  rw [wTo_succ hx, List.getD_eq_getElem?_getD, List.getElem?_set]
  simp only
  by_cases e : n = q
  · subst e
    rw [if_pos rfl, if_pos (by rw [h.1.1]; exact hq), if_pos rfl]; rfl
  · rw [if_neg e, ← List.getD_eq_getElem?_getD, if_neg (by omega)]
    exact h.2 q hq
/-- What was, or what was to be. -/
def eitherOf (d : DiskS) (s : StS) (g : Int) (P Q : List (List Int)) : Prop := (s.gen = g ∧ ∀ q : Nat, q < 14 → pageW d s q = P.getD q DiskS.zeros) ∨ (s.gen = g + 1 ∧ ∀ q : Nat, q < 14 → pageW d s q = Q.getD q DiskS.zeros)
theorem eitherOf.crash {d : DiskS} {s : StS} {g : Int} {P Q : List (List Int)} (h : eitherOf d s g P Q) (hG : Good d s) (is : Nat → Bool) : Good (d.settle is) s ∧ eitherOf (d.settle is) s g P Q := by
  obtain ⟨h1, h2⟩ := hG.settle is
  refine ⟨h1, ?_⟩
  rcases h with ⟨a, b⟩ | ⟨a, b⟩
  · exact .inl ⟨a, fun q hq => by rw [h2 q hq]; exact b q hq⟩
  · exact .inr ⟨a, fun q hq => by rw [h2 q hq]; exact b q hq⟩
theorem ssafe_law (σ : PH) (sl sp asl : Value) (l : List Stp) (xdo xD xm : Int) (xp : List PageS) (aL : List Int) (hl : PSl 4 rStp σ sl l) (hps : PSl 9 rPage σ sp xp) (hD : okD xD) (hxm0 : 0 ≤ xm) (hxm1 : xm < 18446744073709551616) (has : PSl 1 (rInt .u64) σ asl aL) :
    CallsA Try.prog 7 #[sl, .agg #[i64 xdo, i64 xD, sp, .int .u64 xm], asl] σ [] (RetA fun r σ' _ => r = .bool true ∧ σ.sub σ') := by
  obtain ⟨pv, cv, rfl, hvl, hvm⟩ := hl.shape
  obtain ⟨pp, pc, rfl, hpl, hpm⟩ := hps.shape
  obtain ⟨pa, ca, rfl, hal, ham⟩ := has.shape
  refine enterA3 Try.func7 rfl rfl rfl ?_
  refine XA.seq ?_
  refine XA.region ?_
  refine XOA.wr0 rfl WrA.bx ?_
  rintro _ _ _ ⟨g4, rfl, rfl, rfl⟩
  refine XOA.rd rfl Rd.asg ?_
  refine XOA.nil ?_
  refine DA.thn_normal ?_
  refine XA.seq ?_
  refine XA.seq ?_
  refine XA.region ?_
  refine XOA.wr0 rfl (WrA.cE (sbegun_a σ) rfl) ?_
  rintro _ σ1 _ ⟨_, ⟨rfl, hs1, rfl⟩, rfl⟩
  refine XOA.cl ?_
  have hl1 := hl.mono hs1 (fun cs x ⟨s, e, a, b, c⟩ => ⟨s, e, a, b.mono hs1 (fun _ _ h => h), c⟩)
  have hps1 := hps.mono hs1 (fun _ _ h => h)
  have has1 := has.mono hs1 (fun _ _ h => h)
  refine XOA.rd rfl (by first | exact Rd.notp rfl | exact Rd.not rfl) ?_
  refine XOA.nil ?_
  refine DA.thn_normal ?_
  refine XA.condF rfl rfl ?_
  refine XA.skip ?_
  refine DA.thn_normal ?_
  refine XA.seq ?_
  refine XA.seq ?_
  refine XA.region ?_
  refine XOA.rd rfl Rd.mv ?_
  refine XOA.wr0 rfl (WrA.cE (great_a σ1 _ l hl1) rfl) ?_
  rintro _ _ _ ⟨_, ⟨b, rfl, hfew, rfl, rfl⟩, rfl⟩
  refine XOA.cl ?_
  cases b with
  | true =>
    refine XOA.rd rfl Rd.mv ?_
    first | ((first | refine XOA.wanted rfl rfl ?_ | refine XOA.wq rfl rfl ?_); refine XOA.rd rfl (Rd.ldA rfl) ?_) | refine XOA.unwanted rfl rfl rfl rfl ?_ | refine XOA.uq rfl rfl rfl ?_ | refine XOA.unwantedU rfl rfl rfl ?_
    first | refine XOA.unwanted rfl rfl rfl rfl ?_ | refine XOA.uq rfl rfl rfl ?_ | refine XOA.unwantedU rfl rfl rfl ?_
    first | refine XOA.unwanted rfl rfl rfl rfl ?_ | refine XOA.uq rfl rfl rfl ?_ | refine XOA.unwantedU rfl rfl rfl ?_
    refine XOA.rd rfl (by first | exact Rd.pT rfl | exact Rd.pF rfl | exact Rd.pP rfl) ?_
    refine XOA.rd rfl Rd.mv ?_
    first | ((first | refine XOA.wanted rfl rfl ?_ | refine XOA.wq rfl rfl ?_); refine XOA.rd rfl Rd.mv ?_) | refine XOA.unwanted rfl rfl rfl rfl ?_ | refine XOA.uq rfl rfl rfl ?_ | refine XOA.unwantedU rfl rfl rfl ?_
    first | ((first | refine XOA.wanted rfl rfl ?_ | refine XOA.wq rfl rfl ?_); refine XOA.rd rfl (Rd.lenSlice (tyrow rfl) rfl rfl) ?_) | refine XOA.unwanted rfl rfl rfl rfl ?_ | refine XOA.uq rfl rfl rfl ?_ | refine XOA.unwantedU rfl rfl rfl ?_
    first | ((first | refine XOA.wanted rfl rfl ?_ | refine XOA.wq rfl rfl ?_); refine XOA.rd rfl (Rd.gtr rfl rfl) ?_) | refine XOA.unwanted rfl rfl rfl rfl ?_ | refine XOA.uq rfl rfl rfl ?_ | refine XOA.unwantedU rfl rfl rfl ?_
    refine XOA.rd rfl (by first | exact Rd.pT rfl | exact Rd.pF rfl | exact Rd.pP rfl) ?_
    refine XOA.rd rfl Rd.mv ?_
    first | ((first | refine XOA.wanted rfl rfl ?_ | refine XOA.wq rfl rfl ?_); refine XOA.rd rfl (Rd.fA rfl) ?_) | refine XOA.unwanted rfl rfl rfl rfl ?_ | refine XOA.uq rfl rfl rfl ?_ | refine XOA.unwantedU rfl rfl rfl ?_
    first | ((first | refine XOA.wanted rfl rfl ?_ | refine XOA.wq rfl rfl ?_); refine XOA.rd rfl (Rd.ldC rfl (tyrow rfl) rfl) ?_) | refine XOA.unwanted rfl rfl rfl rfl ?_ | refine XOA.uq rfl rfl rfl ?_ | refine XOA.unwantedU rfl rfl rfl ?_
    first | refine XOA.unwanted rfl rfl rfl rfl ?_ | refine XOA.uq rfl rfl rfl ?_ | refine XOA.unwantedU rfl rfl rfl ?_
    first | ((first | refine XOA.wanted rfl rfl ?_ | refine XOA.wq rfl rfl ?_); refine XOA.rd rfl (Rd.neq rfl rfl) ?_) | refine XOA.unwanted rfl rfl rfl rfl ?_ | refine XOA.uq rfl rfl rfl ?_ | refine XOA.unwantedU rfl rfl rfl ?_
    refine XOA.rd rfl (by first | exact Rd.pT rfl | exact Rd.pF rfl | exact Rd.pP rfl) ?_
    refine XOA.nil ?_
    refine DA.thn_normal ?_
    refine XA.condT rfl rfl ?_
    refine XA.seq ?_
    refine XA.region ?_
    refine XOA.rd rfl Rd.asg ?_
    refine XOA.nil ?_
    refine DA.thn_normal ?_
    refine XA.ret ?_
    refine DA.thn_ret ?_
    exact bodyA.ret (ResA.one rfl rfl) (Ent.nil _) ⟨rfl, hs1⟩
  | false =>
    obtain ⟨h60, h30⟩ := hfew rfl
    refine XOA.rd rfl Rd.mv ?_
    first | ((first | refine XOA.wanted rfl rfl ?_ | refine XOA.wq rfl rfl ?_); refine XOA.rd rfl (Rd.ldA rfl) ?_) | refine XOA.unwanted rfl rfl rfl rfl ?_ | refine XOA.uq rfl rfl rfl ?_ | refine XOA.unwantedU rfl rfl rfl ?_
    refine XOA.wanted rfl rfl ?_
    refine XOA.wr0 rfl (WrA.bs1 (tyrow rfl) rfl (tyrow rfl)) ?_
    rintro _ _ _ ⟨g25, rfl, rfl, rfl⟩
    refine XOA.frz (R := blk g25 _ 55) (by ((repeat (first | with_reducible exact Sel.head | apply Sel.tail)); (first | done | fail))) blk_frz blk_frz_mono ?_
    rintro σ2 ⟨⟩ hr2 hs2
    have hl2 := hl1.mono hs2 (fun cs x ⟨s, e, a, b, c⟩ => ⟨s, e, a, b.mono hs2 (fun _ _ h => h), c⟩)
    have hps2 := hps1.mono hs2 (fun _ _ h => h)
    have has2 := has1.mono hs2 (fun _ _ h => h)
    have hs02 := hs1.trans hs2
    clear hl1 hps1 hs2 has1
    first | refine XOA.wanted rfl rfl ?_ | refine XOA.wq rfl rfl ?_
    refine XOA.wr0 rfl (WrA.cE (great_a σ2 _ [⟨xdo, xD, xp, xm⟩] (one_stp hD hxm0 hxm1 hps2 hr2)) rfl) ?_
    rintro _ _ _ ⟨_, ⟨b2, rfl, hfew2, rfl, rfl⟩, rfl⟩
    refine XOA.cl ?_
    cases b2 with
    | true =>
      refine XOA.rd rfl (by first | exact Rd.pT rfl | exact Rd.pF rfl | exact Rd.pP rfl) ?_
      refine XOA.rd rfl Rd.mv ?_
      first | ((first | refine XOA.wanted rfl rfl ?_ | refine XOA.wq rfl rfl ?_); refine XOA.rd rfl Rd.mv ?_) | refine XOA.unwanted rfl rfl rfl rfl ?_ | refine XOA.uq rfl rfl rfl ?_ | refine XOA.unwantedU rfl rfl rfl ?_
      first | ((first | refine XOA.wanted rfl rfl ?_ | refine XOA.wq rfl rfl ?_); refine XOA.rd rfl (Rd.lenSlice (tyrow rfl) rfl rfl) ?_) | refine XOA.unwanted rfl rfl rfl rfl ?_ | refine XOA.uq rfl rfl rfl ?_ | refine XOA.unwantedU rfl rfl rfl ?_
      first | ((first | refine XOA.wanted rfl rfl ?_ | refine XOA.wq rfl rfl ?_); refine XOA.rd rfl (Rd.gtr rfl rfl) ?_) | refine XOA.unwanted rfl rfl rfl rfl ?_ | refine XOA.uq rfl rfl rfl ?_ | refine XOA.unwantedU rfl rfl rfl ?_
      refine XOA.rd rfl (by first | exact Rd.pT rfl | exact Rd.pF rfl | exact Rd.pP rfl) ?_
      refine XOA.rd rfl Rd.mv ?_
      first | ((first | refine XOA.wanted rfl rfl ?_ | refine XOA.wq rfl rfl ?_); refine XOA.rd rfl (Rd.fA rfl) ?_) | refine XOA.unwanted rfl rfl rfl rfl ?_ | refine XOA.uq rfl rfl rfl ?_ | refine XOA.unwantedU rfl rfl rfl ?_
      first | ((first | refine XOA.wanted rfl rfl ?_ | refine XOA.wq rfl rfl ?_); refine XOA.rd rfl (Rd.ldC rfl (tyrow rfl) rfl) ?_) | refine XOA.unwanted rfl rfl rfl rfl ?_ | refine XOA.uq rfl rfl rfl ?_ | refine XOA.unwantedU rfl rfl rfl ?_
      first | refine XOA.unwanted rfl rfl rfl rfl ?_ | refine XOA.uq rfl rfl rfl ?_ | refine XOA.unwantedU rfl rfl rfl ?_
      first | ((first | refine XOA.wanted rfl rfl ?_ | refine XOA.wq rfl rfl ?_); refine XOA.rd rfl (Rd.neq rfl rfl) ?_) | refine XOA.unwanted rfl rfl rfl rfl ?_ | refine XOA.uq rfl rfl rfl ?_ | refine XOA.unwantedU rfl rfl rfl ?_
      refine XOA.rd rfl (by first | exact Rd.pT rfl | exact Rd.pF rfl | exact Rd.pP rfl) ?_
      refine XOA.nil ?_
      refine DA.thn_normal ?_
      refine XA.condT rfl rfl ?_
      refine XA.seq ?_
      refine XA.region ?_
      refine XOA.rd rfl Rd.asg ?_
      refine XOA.nil ?_
      refine DA.thn_normal ?_
      refine XA.ret ?_
      refine DA.thn_ret ?_
      exact bodyA.ret (ResA.one rfl rfl) (Ent.nil _) ⟨rfl, hs02⟩
    | false =>
      have hp30 : xp.length ≤ 30 := (hfew2 rfl).2 _ (List.mem_singleton.2 rfl)
      clear hfew2
      refine XOA.rd rfl (by first | exact Rd.pT rfl | exact Rd.pF rfl | exact Rd.pP rfl) ?_
      refine XOA.rd rfl Rd.mv ?_
      first | ((first | refine XOA.wanted rfl rfl ?_ | refine XOA.wq rfl rfl ?_); refine XOA.rd rfl Rd.mv ?_) | refine XOA.unwanted rfl rfl rfl rfl ?_ | refine XOA.uq rfl rfl rfl ?_ | refine XOA.unwantedU rfl rfl rfl ?_
      first | ((first | refine XOA.wanted rfl rfl ?_ | refine XOA.wq rfl rfl ?_); refine XOA.rd rfl (Rd.lenSlice (tyrow rfl) rfl rfl) ?_) | refine XOA.unwanted rfl rfl rfl rfl ?_ | refine XOA.uq rfl rfl rfl ?_ | refine XOA.unwantedU rfl rfl rfl ?_
      first | ((first | refine XOA.wanted rfl rfl ?_ | refine XOA.wq rfl rfl ?_); refine XOA.rd rfl (Rd.gtr rfl rfl) ?_) | refine XOA.unwanted rfl rfl rfl rfl ?_ | refine XOA.uq rfl rfl rfl ?_ | refine XOA.unwantedU rfl rfl rfl ?_
      refine XOA.rd rfl (by first | exact Rd.pT rfl | exact Rd.pF rfl | exact Rd.pP rfl) ?_
      by_cases h20 : 20 < (aL.length : Int)
      · rw [decide_eq_true h20]
        refine XOA.rd rfl Rd.mv ?_
        first | ((first | refine XOA.wanted rfl rfl ?_ | refine XOA.wq rfl rfl ?_); refine XOA.rd rfl (Rd.fA rfl) ?_) | refine XOA.unwanted rfl rfl rfl rfl ?_ | refine XOA.uq rfl rfl rfl ?_ | refine XOA.unwantedU rfl rfl rfl ?_
        first | ((first | refine XOA.wanted rfl rfl ?_ | refine XOA.wq rfl rfl ?_); refine XOA.rd rfl (Rd.ldC rfl (tyrow rfl) rfl) ?_) | refine XOA.unwanted rfl rfl rfl rfl ?_ | refine XOA.uq rfl rfl rfl ?_ | refine XOA.unwantedU rfl rfl rfl ?_
        first | refine XOA.unwanted rfl rfl rfl rfl ?_ | refine XOA.uq rfl rfl rfl ?_ | refine XOA.unwantedU rfl rfl rfl ?_
        first | ((first | refine XOA.wanted rfl rfl ?_ | refine XOA.wq rfl rfl ?_); refine XOA.rd rfl (Rd.neq rfl rfl) ?_) | refine XOA.unwanted rfl rfl rfl rfl ?_ | refine XOA.uq rfl rfl rfl ?_ | refine XOA.unwantedU rfl rfl rfl ?_
        refine XOA.rd rfl (by first | exact Rd.pT rfl | exact Rd.pF rfl | exact Rd.pP rfl) ?_
        refine XOA.nil ?_
        refine DA.thn_normal ?_
        refine XA.condT rfl rfl ?_
        refine XA.seq ?_
        refine XA.region ?_
        refine XOA.rd rfl Rd.asg ?_
        refine XOA.nil ?_
        refine DA.thn_normal ?_
        refine XA.ret ?_
        refine DA.thn_ret ?_
        exact bodyA.ret (ResA.one rfl rfl) (Ent.nil _) ⟨rfl, hs02⟩
      rw [decide_eq_false h20]
      refine XOA.rd rfl Rd.mv ?_
      first | ((first | refine XOA.wanted rfl rfl ?_ | refine XOA.wq rfl rfl ?_); refine XOA.rd rfl (Rd.fA rfl) ?_) | refine XOA.unwanted rfl rfl rfl rfl ?_ | refine XOA.uq rfl rfl rfl ?_ | refine XOA.unwantedU rfl rfl rfl ?_
      first | ((first | refine XOA.wanted rfl rfl ?_ | refine XOA.wq rfl rfl ?_); refine XOA.rd rfl (Rd.ldC rfl (tyrow rfl) rfl) ?_) | refine XOA.unwanted rfl rfl rfl rfl ?_ | refine XOA.uq rfl rfl rfl ?_ | refine XOA.unwantedU rfl rfl rfl ?_
      first | refine XOA.wanted rfl rfl ?_ | refine XOA.wq rfl rfl ?_
      refine XOA.wr0 rfl (WrA.cE (scheck_a σ2 _ xp hps2) rfl) ?_
      rintro _ _ _ ⟨_, ⟨rfl, rfl, rfl⟩, rfl⟩
      refine XOA.cl ?_
      by_cases hc : checkS xp = 0
      · rw [hc]
        obtain ⟨hn, -, hl14⟩ := check_zero hc
        have hw8 := psl_w8 hps2
        first | ((first | refine XOA.wanted rfl rfl ?_ | refine XOA.wq rfl rfl ?_); refine XOA.rd rfl (Rd.neq rfl rfl) ?_) | refine XOA.unwanted rfl rfl rfl rfl ?_ | refine XOA.uq rfl rfl rfl ?_ | refine XOA.unwantedU rfl rfl rfl ?_
        refine XOA.rd rfl (by first | exact Rd.pT rfl | exact Rd.pF rfl | exact Rd.pP rfl) ?_
        refine XOA.nil ?_
        refine DA.thn_normal ?_
        refine XA.condF rfl rfl ?_
        refine XA.skip ?_
        refine DA.thn_normal ?_
        refine XA.seq ?_
        refine XA.region ?_
        refine XOA.wr0 rfl (WrA.cE (new_a σ2) rfl) ?_
        rintro _ _ _ ⟨_, ⟨db, rfl, rfl, rfl⟩, rfl⟩
        refine XOA.cl ?_
        refine XOA.rd rfl Rd.asg ?_
        refine XOA.nil ?_
        refine DA.thn_normal ?_
        refine XA.seq ?_
        refine XA.region ?_
        refine XOA.rd rfl Rd.mv ?_
        refine XOA.wr0 rfl (WrA.cE (open_a σ2 db DiskS.new Good.new.dok Good.new.wlen') rfl) ?_
        rintro _ _ _ ⟨_, ⟨b0, rfl, rfl, rfl⟩, rfl⟩
        refine XOA.cl ?_
        rw [show openS DiskS.new = s0 from Good.new.open]
        refine XOA.rd rfl Rd.asg ?_
        refine XOA.nil ?_
        refine DA.thn_normal ?_
        refine XA.seq ?_
        refine XA.seq ?_
        refine XA.region ?_
        refine XOA.rd rfl Rd.asg ?_
        refine XOA.nil ?_
        refine DA.thn_normal ?_
        refine XA.block ?_
        refine XA.gen [(0, _), (2, _), (4, _), (6, _), (7, _), (8, _), (9, _)] ⟨(by with_reducible (conv => lhs; whnf)), (by with_reducible (conv => lhs; whnf)), (by with_reducible (conv => lhs; whnf)), (by with_reducible (conv => lhs; whnf)), (by with_reducible (conv => lhs; whnf)), (by with_reducible (conv => lhs; whnf)), (by with_reducible (conv => lhs; whnf)), trivial⟩ (fun δ => ?_)
        dsimp only [List.foldl]
        refine XA.loop [(9, 9), (42, 61)] (fun k : Nat => [(9, i64 k)]) (fun k σ' Γ' => σ2.sub σ' ∧ k ≤ l.length ∧ ∃ (d : DiskS) (s : StS), Good d s ∧ s.gen ≤ k ∧ Γ' = [Store b0 db s, Disk db d, blk g4 [i64 xdo, i64 xD, .slice pp xp.length pc, .int .u64 xm] 55]) (fun k => l.length - k) 0 (by exact ⟨rfl, trivial⟩) (Δ0 := _) ?_ (⟨.refl _, Nat.zero_le _, DiskS.new, s0, Good.new, Int.le_refl _, rfl⟩) ?_
        · exact (by (repeat (first | exact Ent.nil _ | (apply Ent.sel; focus (first | ((repeat (first | with_reducible exact Sel.head | apply Sel.tail)); done) | ((repeat (first | exact Sel.head | apply Sel.tail)); done))) | apply Ent.selNil | apply Ent.selEmp)); (first | done | fail))
        rintro k δ σ3 _ ⟨hs3, hk, d, s, hG, hgk, rfl⟩
        dsimp only [ovr, List.foldl]
        have hl3 := hl2.mono hs3 (fun cs x ⟨s, e, a, b, c⟩ => ⟨s, e, a, b.mono hs3 (fun _ _ h => h), c⟩)
        refine XA.seq ?_
        refine XA.seq ?_
        refine XA.region ?_
        refine XOA.rd rfl Rd.mv ?_
        refine XOA.rd rfl Rd.mv ?_
        refine XOA.rd rfl (Rd.lenSlice (tyrow rfl) rfl rfl) ?_
        refine XOA.rd rfl (Rd.lss rfl rfl) ?_
        refine XOA.nil ?_
        refine DA.thn_normal ?_
        refine XA.condp rfl (fun hlt => ?_) (fun hlt => ?_)
        · have hlt : k < l.length := by omega
          obtain ⟨x, hx⟩ : ∃ x, l[k]? = some x := ⟨_, List.getElem?_eq_getElem hlt⟩
          have hx30 := h30 x (List.mem_of_getElem? hx)
          obtain ⟨g, o, row, rfl, ⟨ysl, rfl, hyD, hyp, hym0, hym1⟩, hrl, hrow⟩ := hl3.at hx
          obtain ⟨ydo, yD, yp, ym⟩ := x
          simp only at hyD hyp hym0 hym1 hx30 hrow hrl
          have r2 : PRow σ3 g (o + k * 4 + 2) [ysl] := hrow.sub (j := 2) rfl
          refine XA.skip ?_
          refine DA.thn_normal ?_
          refine XA.seq ?_
          refine XA.block ?_
          refine XA.seq ?_
          refine XA.region ?_
          refine XOA.rd rfl Rd.mv ?_
          refine XOA.rd rfl Rd.mv ?_
          refine XOA.rd rfl (Rd.ixS rfl rfl) ?_
          refine XOA.rd rfl (Rd.fA rfl) ?_
          refine XOA.rd rfl (Rd.ldC rfl (tyrow rfl) rfl) ?_
          refine XOA.wr0 rfl (WrA.cE (scheck_a σ3 ysl yp hyp) rfl) ?_
          rintro _ _ _ ⟨_, ⟨rfl, rfl, rfl⟩, rfl⟩
          refine XOA.cl ?_
          refine XOA.rd rfl (Rd.eql rfl rfl) ?_
          refine XOA.nil ?_
          refine DA.thn_normal ?_
          refine XA.condp rfl (fun hxc => ?_) (fun hxc => ?_)
          · refine XA.region ?_
            refine XOA.rd rfl Rd.mv ?_
            refine XOA.rd rfl Rd.mv ?_
            refine XOA.rd rfl Rd.mv ?_
            refine XOA.rd rfl (Rd.ixS rfl rfl) ?_
            refine XOA.rd rfl (Rd.fA rfl) ?_
            refine XOA.rd rfl (Rd.ldC rfl (tyrow rfl) rfl) ?_
            refine XOA.wr0 rfl (WrA.cE (commit_all σ3 b0 db s d ysl yp hyp hG (by omega)) rfl) ?_
            rintro _ σ4 _ ⟨_, ⟨d', s', rfl, hG', hg', hp', hs4, rfl⟩, rfl⟩
            refine XOA.cl ?_
            rw [if_pos hxc] at hg'
            refine XOA.nil ?_
            refine DA.inb_normal ?_
            refine DA.thn_normal ?_
            refine XA.region ?_
            refine XOA.rd rfl Rd.mv ?_
            refine XOA.rd rfl (by first | exact Rd.adi rfl rfl | exact Rd.add rfl rfl) ?_
            refine XOA.rd rfl Rd.asg ?_
            refine XOA.nil ?_
            refine DA.thn_normal ?_
            refine ⟨(Keep.upd (Keep.upd (Keep.upd (Keep.updO (Keep.upd (Keep.upd (Keep.upd (Keep.upd (Keep.upd (Keep.upd (Keep.upd (Keep.updO (Keep.upd (Keep.upd (Keep.upd (Keep.upd (Keep.upd (Keep.upd (Keep.upd (Keep.upd (Keep.upd (Keep.upd (Keep.hav (Keep.hav (Keep.refl _ _) rfl) rfl) rfl) rfl) rfl) rfl) rfl) rfl) rfl) rfl) rfl) rfl) rfl) rfl) rfl) rfl) rfl) rfl) rfl) rfl) rfl) rfl) rfl) rfl), k + 1, _, (by (repeat (first | exact trivial | refine ⟨rfl, ?_⟩ | refine ⟨Eq.trans rfl (congrArg Value.bool hmat.symm), ?_⟩)); (first | done | fail)), ?_, ⟨hs3.trans hs4, hlt, d', s', hG', by rw [hg']; omega, rfl⟩, (by omega)⟩
            · exact (by (repeat (first | exact Ent.nil _ | (apply Ent.sel; focus (first | ((repeat (first | with_reducible exact Sel.head | apply Sel.tail)); done) | ((repeat (first | exact Sel.head | apply Sel.tail)); done))) | apply Ent.selNil | apply Ent.selEmp)); (first | done | fail))
          refine XA.skip ?_
          refine DA.inb_normal ?_
          refine DA.thn_normal ?_
          refine XA.region ?_
          refine XOA.rd rfl Rd.mv ?_
          refine XOA.rd rfl (by first | exact Rd.adi rfl rfl | exact Rd.add rfl rfl) ?_
          refine XOA.rd rfl Rd.asg ?_
          refine XOA.nil ?_
          refine DA.thn_normal ?_
          refine ⟨(Keep.upd (Keep.upd (Keep.upd (Keep.upd (Keep.updO (Keep.upd (Keep.upd (Keep.upd (Keep.upd (Keep.upd (Keep.upd (Keep.upd (Keep.upd (Keep.upd (Keep.upd (Keep.hav (Keep.hav (Keep.refl _ _) rfl) rfl) rfl) rfl) rfl) rfl) rfl) rfl) rfl) rfl) rfl) rfl) rfl) rfl) rfl) rfl) rfl), k + 1, _, (by (repeat (first | exact trivial | refine ⟨rfl, ?_⟩ | refine ⟨Eq.trans rfl (congrArg Value.bool hmat.symm), ?_⟩)); (first | done | fail)), ?_, ⟨hs3, hlt, d, s, hG, by omega, rfl⟩, (by omega)⟩
          · exact (by (repeat (first | exact Ent.nil _ | (apply Ent.sel; focus (first | ((repeat (first | with_reducible exact Sel.head | apply Sel.tail)); done) | ((repeat (first | exact Sel.head | apply Sel.tail)); done))) | apply Ent.selNil | apply Ent.selEmp)); (first | done | fail))
        obtain rfl : k = l.length := by omega
        have hps3 := hps2.mono hs3 (fun _ _ h => h)
        have has3 := has2.mono hs3 (fun _ _ h => h)
        have hs03 := hs02.trans hs3
        clear hl2 hl3
        refine XA.exit ?_
        refine DA.thn_exit ?_
        refine DA.thn_exit ?_
        refine DA.inb_same ?_
        refine DA.thn_normal ?_
        refine XA.seq ?_
        refine XA.region ?_
        refine XOA.wr0 rfl (WrA.alloc (tyrow rfl)) ?_
        rintro _ _ _ ⟨g10, rfl, rfl, rfl⟩
        refine XOA.wr0 rfl (WrA.alloc (tyrow rfl)) ?_
        rintro _ _ _ ⟨g11, rfl, rfl, rfl⟩
        refine XOA.nil ?_
        refine DA.thn_normal ?_
        refine XA.seq ?_
        refine XA.seq ?_
        refine XA.region ?_
        refine XOA.rd rfl Rd.asg ?_
        refine XOA.nil ?_
        refine DA.thn_normal ?_
        refine XA.block ?_
        refine XA.gen [(2, _), (4, _), (6, _), (7, _), (8, _), (10, _), (11, _), (12, _)] ⟨(by with_reducible (conv => lhs; whnf)), (by with_reducible (conv => lhs; whnf)), (by with_reducible (conv => lhs; whnf)), (by with_reducible (conv => lhs; whnf)), (by with_reducible (conv => lhs; whnf)), (by with_reducible (conv => lhs; whnf)), (by with_reducible (conv => lhs; whnf)), (by with_reducible (conv => lhs; whnf)), trivial⟩ (fun δ => ?_)
        dsimp only [List.foldl]
        refine XA.loop [(12, 12), (62, 75)] (fun q : Nat => [(12, i64 q)]) (fun q σ' Γ' => σ3 = σ' ∧ q ≤ 14 ∧ ∃ P : List (List Int), toldTo d s q P ∧ Γ' = [Store b0 db s, Disk db d, blk g4 [i64 xdo, i64 xD, .slice pp xp.length pc, .int .u64 xm] 55, blk g10 (ints P.flatten) 48, blk g11 (ints P.flatten) 48]) (fun q => 14 - q) 0 (by exact ⟨rfl, trivial⟩) (Δ0 := _) ?_ (⟨rfl, Nat.zero_le _, _, toldTo_new d s, rfl⟩) ?_
        · exact (by (repeat (first | exact Ent.nil _ | (apply Ent.sel; focus (first | ((repeat (first | with_reducible exact Sel.head | apply Sel.tail)); done) | ((repeat (first | exact Sel.head | apply Sel.tail)); done))) | apply Ent.selNil | apply Ent.selEmp)); (first | done | fail))
        rintro q δ2 _ _ ⟨rfl, hq, P, hP, rfl⟩
        dsimp only [ovr, List.foldl]
        have hPl := pgs_len hP.1
        refine XA.seq ?_
        refine XA.seq ?_
        refine XA.region ?_
        refine XOA.rd rfl Rd.mv ?_
        refine XOA.rd rfl (Rd.lss rfl rfl) ?_
        refine XOA.nil ?_
        refine DA.thn_normal ?_
        refine XA.condp rfl (fun hq14 => ?_) (fun hq14 => ?_)
        · have hq14 : q < 14 := by omega
          have hw8q := pageW_len hG.dok s q
          obtain ⟨W, hW⟩ : ∃ W, W = pageW d s q := ⟨_, rfl⟩
          have hspl := pgs_put hP.1 (n := q) hq14 (w := pageW d s q) hw8q
          have hfit : q * 8 + ty32.size ≤ (ints P.flatten).length := by rw [hPl]; show q * 8 + 8 ≤ 112; omega
          have hP1 := toldTo_succ hP hG.dok hq14
          refine XA.skip ?_
          refine DA.thn_normal ?_
          refine XA.seq ?_
          refine XA.block ?_
          refine XA.draw (by kernel_rfl) _ _ [4, 7, 9, 11] [(0, .pu), (1, .pu), (2, .pu), (3, .pu), (5, .pu), (6, .pu), (4, .wr), (8, .pu), (7, .wr), (9, .wr), (10, .pu), (11, .wr)] (by kernel_rfl) (PH.sub.refl _) (Ent.nil _) ?_
          refine XPA.pu rfl rfl Gd.free Rd.mv ?_
          refine XPA.pu rfl rfl Gd.free Rd.mv ?_
          refine XPA.pu rfl rfl Gd.free Rd.mv ?_
          refine XPA.pu rfl rfl Gd.free Rd.mv ?_
          refine XPA.pu rfl rfl Gd.free Rd.mv ?_
          refine XPA.pu rfl rfl Gd.free Rd.mv ?_
          refine XPA.wrZ0 rfl rfl Gd.free (by kernel_rfl) (WrA.cE (sread_a σ3 b0 db s d q hG.dok hG.wlen') rfl) ?_
          rintro _ _ _ ⟨_, ⟨rfl, rfl, rfl⟩, rfl⟩
          refine XPA.cl ?_
          rw [← hW] at hspl hP1 hw8q ⊢
          refine XPA.pu rfl rfl Gd.free (Rd.ixA rfl rfl) ?_
          refine XPA.wrZ0 rfl rfl Gd.free (by kernel_rfl) (WrA.cE (sread_a σ3 b0 db s d q hG.dok hG.wlen') rfl) ?_
          rintro _ _ _ ⟨_, ⟨rfl, rfl, rfl⟩, rfl⟩
          refine XPA.cl ?_
          rw [← hW]
          refine XPA.wrZ0 rfl rfl Gd.free (by kernel_rfl) (WrA.st (tyrow rfl) rfl) ?_
          rintro _ _ _ ⟨rfl, rfl, rfl⟩
          refine XPA.pu rfl rfl Gd.free (Rd.ixA rfl rfl) ?_
          refine XPA.wrZ0 rfl rfl Gd.free (by kernel_rfl) (WrA.st (tyrow rfl) rfl) ?_
          rintro _ _ _ ⟨rfl, rfl, rfl⟩
          refine XPA.nil ?_
          refine DA.inb_normal ?_
          refine DA.thn_normal ?_
          refine XA.region ?_
          refine XOA.rd rfl Rd.mv ?_
          refine XOA.rd rfl (by first | exact Rd.adi rfl rfl | exact Rd.add rfl rfl) ?_
          refine XOA.rd rfl Rd.asg ?_
          refine XOA.nil ?_
          refine DA.thn_normal ?_
          refine ⟨(Keep.upd (Keep.upd (Keep.upd (Keep.updN (Keep.upd (Keep.updN (Keep.updO (Keep.upd (Keep.updO (Keep.upd (Keep.upd (Keep.upd (Keep.upd (Keep.upd (Keep.upd (Keep.upd (Keep.upd (Keep.upd (Keep.hav (Keep.hav (Keep.refl _ _) rfl) rfl) rfl) rfl) rfl) rfl) rfl) rfl) rfl) rfl) rfl) rfl) rfl) rfl)) rfl)) rfl) rfl) rfl), q + 1, _, (by (repeat (first | exact trivial | refine ⟨rfl, ?_⟩ | refine ⟨Eq.trans rfl (congrArg Value.bool hmat.symm), ?_⟩)); (first | done | fail)), ?_, ⟨rfl, hq14, _, hP1, rfl⟩, (by omega)⟩
          · exact (by (repeat (first | exact Ent.nil _ | (apply Ent.sel; focus (first | ((repeat (first | with_reducible exact Sel.head | apply Sel.tail)); done) | ((repeat (first | exact Sel.head | apply Sel.tail)); done))) | apply Ent.selNil | apply Ent.selEmp)); (first | done | fail))
        obtain rfl : q = 14 := by omega
        refine XA.exit ?_
        refine DA.thn_exit ?_
        refine DA.thn_exit ?_
        refine DA.inb_same ?_
        refine DA.thn_normal ?_
        refine XA.seq ?_
        refine XA.seq ?_
        refine XA.region ?_
        refine XOA.rd rfl Rd.asg ?_
        refine XOA.nil ?_
        refine DA.thn_normal ?_
        refine XA.block ?_
        refine XA.gen [(2, _), (4, _), (6, _), (7, _), (8, _), (10, _), (11, _), (13, _)] ⟨(by with_reducible (conv => lhs; whnf)), (by with_reducible (conv => lhs; whnf)), (by with_reducible (conv => lhs; whnf)), (by with_reducible (conv => lhs; whnf)), (by with_reducible (conv => lhs; whnf)), (by with_reducible (conv => lhs; whnf)), (by with_reducible (conv => lhs; whnf)), (by with_reducible (conv => lhs; whnf)), trivial⟩ (fun δ => ?_)
        dsimp only [List.foldl]
        refine XA.loop [(13, 13), (76, 95)] (fun k : Nat => [(13, i64 k)]) (fun k σ' Γ' => σ3 = σ' ∧ k ≤ xp.length ∧ ∃ Q : List (List Int), nextTo d s xp k Q ∧ Γ' = [Store b0 db s, Disk db d, blk g4 [i64 xdo, i64 xD, .slice pp xp.length pc, .int .u64 xm] 55, blk g10 (ints P.flatten) 48, blk g11 (ints Q.flatten) 48]) (fun k => xp.length - k) 0 (by exact ⟨rfl, trivial⟩) (Δ0 := _) ?_ (⟨rfl, Nat.zero_le _, P, ⟨hP.1, hP.2⟩, rfl⟩) ?_
        · exact (by (repeat (first | exact Ent.nil _ | (apply Ent.sel; focus (first | ((repeat (first | with_reducible exact Sel.head | apply Sel.tail)); done) | ((repeat (first | exact Sel.head | apply Sel.tail)); done))) | apply Ent.selNil | apply Ent.selEmp)); (first | done | fail))
        rintro k δ3 _ _ ⟨rfl, hk, Q, hQ, rfl⟩
        dsimp only [ovr, List.foldl]
        have hQl := pgs_len hQ.1
        have hk : k ≤ xp.length := hk
        refine XA.seq ?_
        refine XA.seq ?_
        refine XA.region ?_
        refine XOA.rd rfl Rd.mv ?_
        refine XOA.rd rfl (Rd.fA rfl) ?_
        refine XOA.rd rfl (Rd.ldC rfl (tyrow rfl) rfl) ?_
        refine XOA.rd rfl (Rd.lenSlice (tyrow rfl) rfl rfl) ?_
        refine XOA.rd rfl (Rd.lss rfl rfl) ?_
        refine XOA.nil ?_
        refine DA.thn_normal ?_
        refine XA.condp rfl (fun hkl => ?_) (fun hkl => ?_)
        · have hkl : k < xp.length := by omega
          obtain ⟨y, hy⟩ : ∃ y, xp[k]? = some y := ⟨_, List.getElem?_eq_getElem hkl⟩
          have hyn := hn y (List.mem_of_getElem? hy)
          obtain ⟨g', o', row', rfl, ⟨rfl, hy8⟩, hrl', hrow'⟩ := hps3.at hy
          obtain ⟨yn, yw⟩ := y
          simp only at hyn hy8
          obtain ⟨n, rfl⟩ : ∃ n : Nat, yn = n := Int.eq_ofNat_of_zero_le hyn.1
          have q0 : PRow σ3 g' (o' + k * 9) [i64 (n : Int)] := hrow'.sub (j := 0) rfl
          have q1 : PRow σ3 g' (o' + k * 9 + 1) (ints yw) := hrow'.sub (j := 1) (take_eq (us := ints yw) rfl)
          have hspl := pgs_put hQ.1 (n := n) (by omega) hy8
          have hfit : n * 8 + ty32.size ≤ (ints Q.flatten).length := by rw [hQl]; show n * 8 + 8 ≤ 112; omega
          have hQ1 := nextTo_succ hQ hy hy8
          refine XA.skip ?_
          refine DA.thn_normal ?_
          refine XA.seq ?_
          refine XA.block ?_
          refine XA.draw (by kernel_rfl) _ _ [13] [(0, .pu), (1, .rd), (2, .pu), (3, .pu), (4, .pu), (5, .rd), (6, .pu), (7, .rd), (8, .pu), (9, .pu), (10, .pu), (11, .rd), (12, .pu), (13, .wr)] (by kernel_rfl) (PH.sub.refl _) (Ent.sel (R := blk g4 _ _) (by ((repeat (first | with_reducible exact Sel.head | apply Sel.tail)); (first | done | fail))) (Ent.nil _)) ?_
          refine XPA.pu rfl rfl Gd.free (Rd.fA rfl) ?_
          refine XPA.rd rfl rfl Gd.free (Rd.ldC rfl (tyrow rfl) rfl) ?_
          refine XPA.pu rfl rfl Gd.free Rd.mv ?_
          refine XPA.pu rfl rfl Gd.free (Rd.ixS rfl rfl) ?_
          refine XPA.pu rfl rfl Gd.free (Rd.fA rfl) ?_
          refine XPA.rd rfl rfl Gd.free (Rd.ldC rfl (tyrow rfl) rfl) ?_
          refine XPA.pu rfl rfl Gd.free (Rd.fA rfl) ?_
          refine XPA.rd rfl rfl Gd.free (Rd.ldC rfl (tyrow rfl) rfl) ?_
          refine XPA.pu rfl rfl Gd.free Rd.mv ?_
          refine XPA.pu rfl rfl Gd.free (Rd.ixS rfl rfl) ?_
          refine XPA.pu rfl rfl Gd.free (Rd.fA rfl) ?_
          refine XPA.rd rfl rfl Gd.free (Rd.ldA rfl) ?_
          refine XPA.pu rfl rfl Gd.free (Rd.ixA rfl rfl) ?_
          refine XPA.wrZ0 rfl rfl Gd.free (by kernel_rfl) (WrA.st (tyrow rfl) rfl) ?_
          rintro _ _ _ ⟨rfl, rfl, rfl⟩
          refine XPA.nil ?_
          refine DA.inb_normal ?_
          refine DA.thn_normal ?_
          refine XA.region ?_
          refine XOA.rd rfl Rd.mv ?_
          refine XOA.rd rfl (by first | exact Rd.adi rfl rfl | exact Rd.add rfl rfl) ?_
          refine XOA.rd rfl Rd.asg ?_
          refine XOA.nil ?_
          refine DA.thn_normal ?_
          refine ⟨(Keep.upd (Keep.upd (Keep.upd (Keep.updN (Keep.upd (Keep.upd (Keep.upd (Keep.upd (Keep.upd (Keep.upd (Keep.upd (Keep.upd (Keep.upd (Keep.upd (Keep.upd (Keep.upd (Keep.upd (Keep.upd (Keep.upd (Keep.upd (Keep.upd (Keep.upd (Keep.upd (Keep.hav (Keep.hav (Keep.refl _ _) rfl) rfl) rfl) rfl) rfl) rfl) rfl) rfl) rfl) rfl) rfl) rfl) rfl) rfl) rfl) rfl) rfl) rfl) rfl) rfl) rfl)) rfl) rfl) rfl), k + 1, _, (by (repeat (first | exact trivial | refine ⟨rfl, ?_⟩ | refine ⟨Eq.trans rfl (congrArg Value.bool hmat.symm), ?_⟩)); (first | done | fail)), ?_, ⟨rfl, hkl, _, hQ1, rfl⟩, (by omega)⟩
          · exact (by (repeat (first | exact Ent.nil _ | (apply Ent.sel; focus (first | ((repeat (first | with_reducible exact Sel.head | apply Sel.tail)); done) | ((repeat (first | exact Sel.head | apply Sel.tail)); done))) | apply Ent.selNil | apply Ent.selEmp)); (first | done | fail))
        obtain rfl : k = xp.length := by omega
        refine XA.exit ?_
        refine DA.thn_exit ?_
        refine DA.thn_exit ?_
        refine DA.inb_same ?_
        refine DA.thn_normal ?_
        refine XA.seq ?_
        refine XA.region ?_
        refine XOA.rd rfl Rd.mv ?_
        refine XOA.wr0 rfl (WrA.cE (gen_a σ3 b0 db s) rfl) ?_
        rintro _ _ _ ⟨_, ⟨rfl, rfl, rfl⟩, rfl⟩
        refine XOA.cl ?_
        refine XOA.rd rfl Rd.asg ?_
        refine XOA.nil ?_
        refine DA.thn_normal ?_
        refine XA.seq ?_
        refine XA.region ?_
        refine XOA.rd rfl Rd.mv ?_
        refine XOA.rd rfl (Rd.fA rfl) ?_
        refine XOA.rd rfl (Rd.ldC rfl (tyrow rfl) rfl) ?_
        refine XOA.rd rfl (Rd.fA rfl) ?_
        refine XOA.rd rfl (Rd.ldC rfl (tyrow rfl) rfl) ?_
        refine XOA.wr0 rfl (WrA.cE (commit_yes σ3 b0 db s d _ xp xD hps3 hc hG.sok hG.gen (by omega) hD hG.wlen) rfl) ?_
        rintro _ σ4 _ ⟨_, ⟨j, hj1, hj2, hj3, rfl, hs4, rfl⟩, rfl⟩
        refine XOA.cl ?_
        have has4 := has3.mono hs4 (fun _ _ h => h)
        have hcw := comD_wait hG hl14 j
        have hg0 := hG.gen
        obtain ⟨s', hG', hout⟩ := commit_any hG hw8 hl14 hn hj1 (bitOf xm)
        have he : eitherOf ((comD d s xp j).settle (bitOf xm)) s' s.gen P Q := by
          rcases hout with ⟨u, v⟩ | ⟨u, v⟩
          · exact .inl ⟨u, fun q hq => by rw [v q, hP.2 q hq]⟩
          · exact .inr ⟨u, fun q hq => by rw [v q, hQ.2 q hq]⟩
        refine XOA.nil ?_
        refine DA.thn_normal ?_
        refine XA.seq ?_
        refine XA.region ?_
        refine XOA.rd rfl Rd.mv ?_
        refine XOA.rd rfl (Rd.fA rfl) ?_
        refine XOA.rd rfl (Rd.ldC rfl (tyrow rfl) rfl) ?_
        refine XOA.wr0 rfl (WrA.cE (crash_a σ4 db _ xm hcw hxm0 hxm1) rfl) ?_
        rintro _ _ _ ⟨_, ⟨rfl, rfl, rfl⟩, rfl⟩
        refine XOA.cl ?_
        refine XOA.nil ?_
        refine DA.thn_normal ?_
        refine XA.seq ?_
        refine XA.region ?_
        refine XOA.rd rfl Rd.mv ?_
        refine XOA.wr0 rfl (WrA.cE (open_a σ4 db _ hG'.dok hG'.wlen') rfl) ?_
        rintro _ _ _ ⟨_, ⟨b3, rfl, rfl, rfl⟩, rfl⟩
        refine XOA.cl ?_
        rw [hG'.open]
        refine XOA.rd rfl Rd.asg ?_
        refine XOA.nil ?_
        refine DA.thn_normal ?_
        refine XA.seq ?_
        refine XA.seq ?_
        refine XA.region ?_
        refine XOA.rd rfl Rd.asg ?_
        refine XOA.nil ?_
        refine DA.thn_normal ?_
        refine XA.block ?_
        refine XA.gen [(2, _), (6, _), (7, _), (8, _), (10, _), (11, _), (14, _), (15, _)] ⟨(by with_reducible (conv => lhs; whnf)), (by with_reducible (conv => lhs; whnf)), (by with_reducible (conv => lhs; whnf)), (by with_reducible (conv => lhs; whnf)), (by with_reducible (conv => lhs; whnf)), (by with_reducible (conv => lhs; whnf)), (by with_reducible (conv => lhs; whnf)), (by with_reducible (conv => lhs; whnf)), trivial⟩ (fun δ => ?_)
        dsimp only [List.foldl]
        refine XA.loop [(8, 8), (15, 15), (110, 123)] (fun q : Nat × Nat => [(15, i64 q.1), (8, ptr q.2)]) (fun q σ' Γ' => σ4 = σ' ∧ q.1 ≤ aL.length ∧ ∃ (d1 : DiskS) (s1 : StS), Good d1 s1 ∧ eitherOf d1 s1 s.gen P Q ∧ Γ' = [Store q.2 db s1, Disk db d1, blk g10 (ints P.flatten) 48, blk g11 (ints Q.flatten) 48]) (fun q => aL.length - q.1) (0, b3) (by exact ⟨rfl, rfl, trivial⟩) (Δ0 := _) ?_ (⟨rfl, Nat.zero_le _, _, s', hG', he, rfl⟩) ?_
        · exact (by (repeat (first | exact Ent.nil _ | (apply Ent.sel; focus (first | ((repeat (first | with_reducible exact Sel.head | apply Sel.tail)); done) | ((repeat (first | exact Sel.head | apply Sel.tail)); done))) | apply Ent.selNil | apply Ent.selEmp)); (first | done | fail))
        rintro ⟨i, y⟩ δ4 _ _ ⟨rfl, hi, d1, s1, hG1, he1, rfl⟩
        dsimp only [ovr, List.foldl]
        have hi : i ≤ aL.length := hi
        refine XA.seq ?_
        refine XA.seq ?_
        refine XA.region ?_
        refine XOA.rd rfl Rd.mv ?_
        refine XOA.rd rfl Rd.mv ?_
        refine XOA.rd rfl (Rd.lenSlice (tyrow rfl) rfl rfl) ?_
        refine XOA.rd rfl (Rd.lss rfl rfl) ?_
        refine XOA.nil ?_
        refine DA.thn_normal ?_
        refine XA.condp rfl (fun hil => ?_) (fun hil => ?_)
        · have hil : i < aL.length := by omega
          obtain ⟨m, hm⟩ : ∃ m, aL[i]? = some m := ⟨_, List.getElem?_eq_getElem hil⟩
          obtain ⟨g', o', row', rfl, ⟨rfl, hm0, hm1⟩, -, hrow'⟩ := has4.at hm
          rw [Nat.mul_one] at hrow'
          obtain ⟨hG2, he2⟩ := he1.crash hG1 (bitOf m)
          refine XA.skip ?_
          refine DA.thn_normal ?_
          refine XA.seq ?_
          refine XA.block ?_
          refine XA.seq ?_
          refine XA.region ?_
          refine XOA.rd rfl Rd.mv ?_
          refine XOA.rd rfl Rd.mv ?_
          refine XOA.rd rfl Rd.mv ?_
          refine XOA.rd rfl (Rd.ixS rfl rfl) ?_
          refine XOA.rd rfl (Rd.ldC rfl (tyrow rfl) rfl) ?_
          refine XOA.wr0 rfl (WrA.cE (crash_a σ4 db d1 m hG1.wlen' (by simpa [IntKind.min, IntKind.signed] using hm0) (by simp [IntKind.max, IntKind.signed, IntKind.bits] at hm1; omega)) rfl) ?_
          rintro _ _ _ ⟨_, ⟨rfl, rfl, rfl⟩, rfl⟩
          refine XOA.cl ?_
          refine XOA.nil ?_
          refine DA.thn_normal ?_
          refine XA.region ?_
          refine XOA.rd rfl Rd.mv ?_
          refine XOA.wr0 rfl (WrA.cE (open_a σ4 db _ hG2.dok hG2.wlen') rfl) ?_
          rintro _ _ _ ⟨_, ⟨b4, rfl, rfl, rfl⟩, rfl⟩
          refine XOA.cl ?_
          rw [hG2.open]
          refine XOA.rd rfl Rd.asg ?_
          refine XOA.nil ?_
          refine DA.inb_normal ?_
          refine DA.thn_normal ?_
          refine XA.region ?_
          refine XOA.rd rfl Rd.mv ?_
          refine XOA.rd rfl (by first | exact Rd.adi rfl rfl | exact Rd.add rfl rfl) ?_
          refine XOA.rd rfl Rd.asg ?_
          refine XOA.nil ?_
          refine DA.thn_normal ?_
          refine ⟨(Keep.upd (Keep.upd (Keep.upd (Keep.upd (Keep.updO (Keep.upd (Keep.updO (Keep.upd (Keep.upd (Keep.upd (Keep.upd (Keep.upd (Keep.upd (Keep.upd (Keep.upd (Keep.upd (Keep.upd (Keep.upd (Keep.hav (Keep.hav (Keep.hav (Keep.refl _ _) rfl) rfl) rfl) rfl) rfl) rfl) rfl) rfl) rfl) rfl) rfl) rfl) rfl) rfl) rfl) rfl) rfl) rfl) rfl) rfl) rfl), (i + 1, b4), _, (by (repeat (first | exact trivial | refine ⟨rfl, ?_⟩ | refine ⟨Eq.trans rfl (congrArg Value.bool hmat.symm), ?_⟩)); (first | done | fail)), ?_, ⟨rfl, hil, _, s1, hG2, he2, rfl⟩, (by simp only; omega)⟩
          · exact (by (repeat (first | exact Ent.nil _ | (apply Ent.sel; focus (first | ((repeat (first | with_reducible exact Sel.head | apply Sel.tail)); done) | ((repeat (first | exact Sel.head | apply Sel.tail)); done))) | apply Ent.selNil | apply Ent.selEmp)); (first | done | fail))
        refine XA.exit ?_
        refine DA.thn_exit ?_
        refine DA.thn_exit ?_
        refine DA.inb_same ?_
        refine DA.thn_normal ?_
        refine XA.seq ?_
        refine XA.region ?_
        refine XOA.rd rfl Rd.mv ?_
        rcases he1 with ⟨ha, hb⟩ | ⟨ha, hb⟩
        · 
          refine XOA.wr0 rfl (WrA.cE (gen_a σ4 y db s1) rfl) ?_
          rintro _ _ _ ⟨_, ⟨rfl, rfl, rfl⟩, rfl⟩
          refine XOA.cl ?_
          rw [ha]
          refine XOA.rd rfl Rd.mv ?_
          refine XOA.rd rfl (Rd.eql rfl rfl) ?_
          refine XOA.rd rfl Rd.mv ?_
          refine XOA.wr0 rfl (WrA.cE (gen_a σ4 y db s1) rfl) ?_
          rintro _ _ _ ⟨_, ⟨rfl, rfl, rfl⟩, rfl⟩
          refine XOA.cl ?_
          rw [ha]
          refine XOA.rd rfl Rd.mv ?_
          refine XOA.rd rfl (by first | exact Rd.adi rfl rfl | exact Rd.add rfl rfl) ?_
          refine XOA.rd rfl (Rd.eql rfl rfl) ?_
          rw [decide_eq_true (rfl : s.gen = s.gen), decide_eq_false (show ¬ s.gen = s.gen + 1 by omega)]
          refine XOA.rd rfl Rd.asg ?_
          refine XOA.rd rfl Rd.asg ?_
          refine XOA.nil ?_
          refine DA.thn_normal ?_
          refine XA.seq ?_
          refine XA.seq ?_
          refine XA.region ?_
          refine XOA.rd rfl Rd.asg ?_
          refine XOA.nil ?_
          refine DA.thn_normal ?_
          refine XA.block ?_
          refine XA.gen [(6, _), (8, _), (10, _), (11, _), (16, _), (17, _), (18, _)] ⟨(by with_reducible (conv => lhs; whnf)), (by with_reducible (conv => lhs; whnf)), (by with_reducible (conv => lhs; whnf)), (by with_reducible (conv => lhs; whnf)), (by with_reducible (conv => lhs; whnf)), (by with_reducible (conv => lhs; whnf)), (by with_reducible (conv => lhs; whnf)), trivial⟩ (fun δ => ?_)
          dsimp only [List.foldl]
          refine XA.loop [(16, 18), (133, 156)] (fun q : Nat => [(18, i64 q), (16, .bool true), (17, .bool false)]) (fun q σ' Γ' => σ4 = σ' ∧ q ≤ 14 ∧ Γ' = [Store y db s1, Disk db d1, blk g10 (ints P.flatten) 48, blk g11 (ints Q.flatten) 48]) (fun q => 14 - q) 0 (by exact ⟨rfl, rfl, rfl, trivial⟩) (Δ0 := _) ?_ (⟨rfl, Nat.zero_le _, rfl⟩) ?_
          · exact (by (repeat (first | exact Ent.nil _ | (apply Ent.sel; focus (first | ((repeat (first | with_reducible exact Sel.head | apply Sel.tail)); done) | ((repeat (first | exact Sel.head | apply Sel.tail)); done))) | apply Ent.selNil | apply Ent.selEmp)); (first | done | fail))
          rintro q δ5 _ _ ⟨rfl, hq, rfl⟩
          dsimp only [ovr, List.foldl]
          refine XA.seq ?_
          refine XA.seq ?_
          refine XA.region ?_
          refine XOA.rd rfl Rd.mv ?_
          refine XOA.rd rfl (Rd.lss rfl rfl) ?_
          refine XOA.nil ?_
          refine DA.thn_normal ?_
          refine XA.condp rfl (fun hq14 => ?_) (fun hq14 => ?_)
          · have hq14 : q < 14 := by omega
            obtain ⟨W, hW⟩ : ∃ W, W = P.getD q DiskS.zeros := ⟨_, rfl⟩
            have hat := pgs_at hP.1 hq14
            have hW8 := pgs_row8 hP.1 hq14
            rw [← hW] at hat hW8
            have hWW : W = W := rfl
            refine XA.skip ?_
            refine DA.thn_normal ?_
            refine XA.seq ?_
            refine XA.block ?_
            refine XA.seq ?_
            refine XA.draw (by kernel_rfl) _ _ [] [(0, .pu), (1, .pu), (2, .pu), (3, .pu), (5, .pu), (6, .pu), (7, .rd), (4, .wr), (8, .pu), (9, .pu), (10, .pu)] (by kernel_rfl) (PH.sub.refl _) (Ent.sel (R := blk g10 _ _) (by ((repeat (first | with_reducible exact Sel.head | apply Sel.tail)); (first | done | fail))) (Ent.nil _)) ?_
            refine XPA.pu rfl rfl Gd.free Rd.mv ?_
            refine XPA.pu rfl rfl Gd.free Rd.mv ?_
            first | refine XPA.puG rfl rfl Rd.mv ?_ | refine XPA.puOffG rfl rfl ?_
            first | refine XPA.puG rfl rfl Rd.mv ?_ | refine XPA.puOffG rfl rfl ?_
            first | refine XPA.puG rfl rfl Rd.mv ?_ | refine XPA.puOffG rfl rfl ?_
            first | refine XPA.puG rfl rfl (Rd.ixA rfl rfl) ?_ | refine XPA.puOffG rfl rfl ?_
            first | refine XPA.rdG rfl rfl (Rd.ldA rfl) ?_ | refine XPA.offG rfl rfl ?_
            refine XPA.wr0 rfl rfl (by first | exact Gd.free | exact Gd.isB rfl rfl rfl | (apply Gd.isQ; rfl; rfl; exact (by first | exact (rfl : decide _ = true) | exact (rfl : decide _ = false) | (refine decide_eq_true ?_; assumption) | (refine decide_eq_false ?_; assumption) | (refine decide_eq_true ?_; omega) | (refine decide_eq_false ?_; omega)); rfl)) (WrA.cE (sread_a σ4 y db s1 d1 q hG1.dok hG1.wlen') rfl) ?_
            rintro _ _ _ ⟨_, ⟨rfl, rfl, rfl⟩, rfl⟩
            refine stays (XPA.cl ?_)
            rw [hb q hq14, ← hW]
            first | refine XPA.puG rfl rfl (Rd.eqlWords (tyrow rfl) rfl (tyrow rfl) rfl rfl (by kernel_rfl) rfl rfl (by first | assumption | rfl | (simp; (first | done | fail)) | (simp [*]; (first | done | fail))) (by first | assumption | rfl | (simp; (first | done | fail)) | (simp [*]; (first | done | fail)))) ?_ | refine XPA.puOffG rfl rfl ?_
            refine XPA.pu rfl rfl Gd.free (by first | exact Rd.pT rfl | exact Rd.pF rfl | exact Rd.pP rfl) ?_
            rw [decide_eq_true hWW]
            refine XPA.pu rfl rfl Gd.free Rd.asg ?_
            refine XPA.nil ?_
            refine DA.thn_normal ?_
            refine XA.draw (by kernel_rfl) _ _ [] [(0, .pu), (1, .pu), (2, .pu), (3, .pu), (5, .pu), (6, .pu), (7, .rd), (4, .wr), (8, .pu), (9, .pu), (10, .pu)] (by kernel_rfl) (PH.sub.refl _) (Ent.sel (R := blk g11 _ _) (by ((repeat (first | with_reducible exact Sel.head | apply Sel.tail)); (first | done | fail))) (Ent.nil _)) ?_
            refine XPA.pu rfl rfl Gd.free Rd.mv ?_
            refine XPA.pu rfl rfl Gd.free Rd.mv ?_
            first | refine XPA.puG rfl rfl Rd.mv ?_ | refine XPA.puOffG rfl rfl ?_
            first | refine XPA.puG rfl rfl Rd.mv ?_ | refine XPA.puOffG rfl rfl ?_
            first | refine XPA.puG rfl rfl Rd.mv ?_ | refine XPA.puOffG rfl rfl ?_
            first | refine XPA.puG rfl rfl (Rd.ixA rfl rfl) ?_ | refine XPA.puOffG rfl rfl ?_
            first | refine XPA.rdG rfl rfl (Rd.ldA rfl) ?_ | refine XPA.offG rfl rfl ?_
            first | refine XPA.off rfl rfl (by first | exact Gd.isB rfl rfl rfl | exact Gd.un rfl rfl | (apply Gd.isQ; rfl; rfl; exact (by first | exact (rfl : decide _ = true) | exact (rfl : decide _ = false) | (refine decide_eq_true ?_; assumption) | (refine decide_eq_false ?_; assumption) | (refine decide_eq_true ?_; omega) | (refine decide_eq_false ?_; omega)); rfl)) ?_ | refine XPA.puOff rfl rfl (by first | exact Gd.isB rfl rfl rfl | exact Gd.un rfl rfl | (apply Gd.isQ; rfl; rfl; exact (by first | exact (rfl : decide _ = true) | exact (rfl : decide _ = false) | (refine decide_eq_true ?_; assumption) | (refine decide_eq_false ?_; assumption) | (refine decide_eq_true ?_; omega) | (refine decide_eq_false ?_; omega)); rfl)) ?_ | refine XPA.offW rfl rfl (by first | exact Gd.isB rfl rfl rfl | exact Gd.un rfl rfl | (apply Gd.isQ; rfl; rfl; exact (by first | exact (rfl : decide _ = true) | exact (rfl : decide _ = false) | (refine decide_eq_true ?_; assumption) | (refine decide_eq_false ?_; assumption) | (refine decide_eq_true ?_; omega) | (refine decide_eq_false ?_; omega)); rfl)) ?_
            first | refine XPA.puG rfl rfl (Rd.eqlWords (tyrow rfl) rfl (tyrow rfl) rfl rfl (by kernel_rfl) rfl rfl (by first | assumption | rfl | (simp; (first | done | fail)) | (simp [*]; (first | done | fail))) (by first | assumption | rfl | (simp; (first | done | fail)) | (simp [*]; (first | done | fail)))) ?_ | refine XPA.puOffG rfl rfl ?_
            refine XPA.pu rfl rfl Gd.free (by first | exact Rd.pT rfl | exact Rd.pF rfl | exact Rd.pP rfl) ?_
            refine XPA.pu rfl rfl Gd.free Rd.asg ?_
            refine XPA.nil ?_
            refine DA.inb_normal ?_
            refine DA.thn_normal ?_
            refine XA.region ?_
            refine XOA.rd rfl Rd.mv ?_
            refine XOA.rd rfl (by first | exact Rd.adi rfl rfl | exact Rd.add rfl rfl) ?_
            refine XOA.rd rfl Rd.asg ?_
            refine XOA.nil ?_
            refine DA.thn_normal ?_
            refine ⟨(Keep.upd (Keep.upd (Keep.upd (Keep.upd (Keep.upd (Keep.upd (Keep.updO (Keep.upd (Keep.upd (Keep.upd (Keep.upd (Keep.upd (Keep.upd (Keep.upd (Keep.upd (Keep.upd (Keep.upd (Keep.updO (Keep.upd (Keep.upd (Keep.upd (Keep.upd (Keep.upd (Keep.upd (Keep.upd (Keep.upd (Keep.upd (Keep.upd (Keep.upd (Keep.upd (Keep.hav (Keep.hav (Keep.refl _ _) rfl) rfl) rfl) rfl) rfl) rfl) rfl) rfl) rfl) rfl) rfl) rfl) rfl) rfl) rfl) rfl) rfl) rfl) rfl) rfl) rfl) rfl) rfl) rfl) rfl) rfl) rfl) rfl) rfl) rfl) rfl) rfl), q + 1, _, (by (repeat (first | exact trivial | refine ⟨rfl, ?_⟩ | refine ⟨Eq.trans rfl (congrArg Value.bool hmat.symm), ?_⟩)); (first | done | fail)), ?_, ⟨rfl, hq14, rfl⟩, (by omega)⟩
            · exact (by (repeat (first | exact Ent.nil _ | (apply Ent.sel; focus (first | ((repeat (first | with_reducible exact Sel.head | apply Sel.tail)); done) | ((repeat (first | exact Sel.head | apply Sel.tail)); done))) | apply Ent.selNil | apply Ent.selEmp)); (first | done | fail))
          refine XA.exit ?_
          refine DA.thn_exit ?_
          refine DA.thn_exit ?_
          refine DA.inb_same ?_
          refine DA.thn_normal ?_
          refine XA.seq ?_
          refine XA.region ?_
          refine XOA.rd rfl Rd.mv ?_
          refine XOA.rd rfl Rd.mv ?_
          first | ((first | refine XOA.wanted rfl rfl ?_ | refine XOA.wq rfl rfl ?_); refine XOA.rd rfl Rd.mv ?_) | refine XOA.unwanted rfl rfl rfl rfl ?_ | refine XOA.uq rfl rfl rfl ?_ | refine XOA.unwantedU rfl rfl rfl ?_
          refine XOA.rd rfl (by first | exact Rd.pT rfl | exact Rd.pF rfl | exact Rd.pP rfl) ?_
          refine XOA.rd rfl Rd.asg ?_
          refine XOA.nil ?_
          refine DA.thn_normal ?_
          refine XA.ret ?_
          exact bodyA.ret (ResA.one rfl rfl) (Ent.nil _) ⟨rfl, hs03.trans hs4⟩
        · 
          refine XOA.wr0 rfl (WrA.cE (gen_a σ4 y db s1) rfl) ?_
          rintro _ _ _ ⟨_, ⟨rfl, rfl, rfl⟩, rfl⟩
          refine XOA.cl ?_
          rw [ha]
          refine XOA.rd rfl Rd.mv ?_
          refine XOA.rd rfl (Rd.eql rfl rfl) ?_
          refine XOA.rd rfl Rd.mv ?_
          refine XOA.wr0 rfl (WrA.cE (gen_a σ4 y db s1) rfl) ?_
          rintro _ _ _ ⟨_, ⟨rfl, rfl, rfl⟩, rfl⟩
          refine XOA.cl ?_
          rw [ha]
          refine XOA.rd rfl Rd.mv ?_
          refine XOA.rd rfl (by first | exact Rd.adi rfl rfl | exact Rd.add rfl rfl) ?_
          refine XOA.rd rfl (Rd.eql rfl rfl) ?_
          rw [decide_eq_false (show ¬ s.gen + 1 = s.gen by omega), decide_eq_true (rfl : s.gen + 1 = s.gen + 1)]
          refine XOA.rd rfl Rd.asg ?_
          refine XOA.rd rfl Rd.asg ?_
          refine XOA.nil ?_
          refine DA.thn_normal ?_
          refine XA.seq ?_
          refine XA.seq ?_
          refine XA.region ?_
          refine XOA.rd rfl Rd.asg ?_
          refine XOA.nil ?_
          refine DA.thn_normal ?_
          refine XA.block ?_
          refine XA.gen [(6, _), (8, _), (10, _), (11, _), (16, _), (17, _), (18, _)] ⟨(by with_reducible (conv => lhs; whnf)), (by with_reducible (conv => lhs; whnf)), (by with_reducible (conv => lhs; whnf)), (by with_reducible (conv => lhs; whnf)), (by with_reducible (conv => lhs; whnf)), (by with_reducible (conv => lhs; whnf)), (by with_reducible (conv => lhs; whnf)), trivial⟩ (fun δ => ?_)
          dsimp only [List.foldl]
          refine XA.loop [(16, 18), (133, 156)] (fun q : Nat => [(18, i64 q), (16, .bool false), (17, .bool true)]) (fun q σ' Γ' => σ4 = σ' ∧ q ≤ 14 ∧ Γ' = [Store y db s1, Disk db d1, blk g10 (ints P.flatten) 48, blk g11 (ints Q.flatten) 48]) (fun q => 14 - q) 0 (by exact ⟨rfl, rfl, rfl, trivial⟩) (Δ0 := _) ?_ (⟨rfl, Nat.zero_le _, rfl⟩) ?_
          · exact (by (repeat (first | exact Ent.nil _ | (apply Ent.sel; focus (first | ((repeat (first | with_reducible exact Sel.head | apply Sel.tail)); done) | ((repeat (first | exact Sel.head | apply Sel.tail)); done))) | apply Ent.selNil | apply Ent.selEmp)); (first | done | fail))
          rintro q δ5 _ _ ⟨rfl, hq, rfl⟩
          dsimp only [ovr, List.foldl]
          refine XA.seq ?_
          refine XA.seq ?_
          refine XA.region ?_
          refine XOA.rd rfl Rd.mv ?_
          refine XOA.rd rfl (Rd.lss rfl rfl) ?_
          refine XOA.nil ?_
          refine DA.thn_normal ?_
          refine XA.condp rfl (fun hq14 => ?_) (fun hq14 => ?_)
          · have hq14 : q < 14 := by omega
            obtain ⟨W, hW⟩ : ∃ W, W = Q.getD q DiskS.zeros := ⟨_, rfl⟩
            have hat := pgs_at hQ.1 hq14
            have hW8 := pgs_row8 hQ.1 hq14
            rw [← hW] at hat hW8
            have hWW : W = W := rfl
            refine XA.skip ?_
            refine DA.thn_normal ?_
            refine XA.seq ?_
            refine XA.block ?_
            refine XA.seq ?_
            refine XA.draw (by kernel_rfl) _ _ [] [(0, .pu), (1, .pu), (2, .pu), (3, .pu), (5, .pu), (6, .pu), (7, .rd), (4, .wr), (8, .pu), (9, .pu), (10, .pu)] (by kernel_rfl) (PH.sub.refl _) (Ent.sel (R := blk g10 _ _) (by ((repeat (first | with_reducible exact Sel.head | apply Sel.tail)); (first | done | fail))) (Ent.nil _)) ?_
            refine XPA.pu rfl rfl Gd.free Rd.mv ?_
            refine XPA.pu rfl rfl Gd.free Rd.mv ?_
            first | refine XPA.puG rfl rfl Rd.mv ?_ | refine XPA.puOffG rfl rfl ?_
            first | refine XPA.puG rfl rfl Rd.mv ?_ | refine XPA.puOffG rfl rfl ?_
            first | refine XPA.puG rfl rfl Rd.mv ?_ | refine XPA.puOffG rfl rfl ?_
            first | refine XPA.puG rfl rfl (Rd.ixA rfl rfl) ?_ | refine XPA.puOffG rfl rfl ?_
            first | refine XPA.rdG rfl rfl (Rd.ldA rfl) ?_ | refine XPA.offG rfl rfl ?_
            first | refine XPA.off rfl rfl (by first | exact Gd.isB rfl rfl rfl | exact Gd.un rfl rfl | (apply Gd.isQ; rfl; rfl; exact (by first | exact (rfl : decide _ = true) | exact (rfl : decide _ = false) | (refine decide_eq_true ?_; assumption) | (refine decide_eq_false ?_; assumption) | (refine decide_eq_true ?_; omega) | (refine decide_eq_false ?_; omega)); rfl)) ?_ | refine XPA.puOff rfl rfl (by first | exact Gd.isB rfl rfl rfl | exact Gd.un rfl rfl | (apply Gd.isQ; rfl; rfl; exact (by first | exact (rfl : decide _ = true) | exact (rfl : decide _ = false) | (refine decide_eq_true ?_; assumption) | (refine decide_eq_false ?_; assumption) | (refine decide_eq_true ?_; omega) | (refine decide_eq_false ?_; omega)); rfl)) ?_ | refine XPA.offW rfl rfl (by first | exact Gd.isB rfl rfl rfl | exact Gd.un rfl rfl | (apply Gd.isQ; rfl; rfl; exact (by first | exact (rfl : decide _ = true) | exact (rfl : decide _ = false) | (refine decide_eq_true ?_; assumption) | (refine decide_eq_false ?_; assumption) | (refine decide_eq_true ?_; omega) | (refine decide_eq_false ?_; omega)); rfl)) ?_
            first | refine XPA.puG rfl rfl (Rd.eqlWords (tyrow rfl) rfl (tyrow rfl) rfl rfl (by kernel_rfl) rfl rfl (by first | assumption | rfl | (simp; (first | done | fail)) | (simp [*]; (first | done | fail))) (by first | assumption | rfl | (simp; (first | done | fail)) | (simp [*]; (first | done | fail)))) ?_ | refine XPA.puOffG rfl rfl ?_
            refine XPA.pu rfl rfl Gd.free (by first | exact Rd.pT rfl | exact Rd.pF rfl | exact Rd.pP rfl) ?_
            refine XPA.pu rfl rfl Gd.free Rd.asg ?_
            refine XPA.nil ?_
            refine DA.thn_normal ?_
            refine XA.draw (by kernel_rfl) _ _ [] [(0, .pu), (1, .pu), (2, .pu), (3, .pu), (5, .pu), (6, .pu), (7, .rd), (4, .wr), (8, .pu), (9, .pu), (10, .pu)] (by kernel_rfl) (PH.sub.refl _) (Ent.sel (R := blk g11 _ _) (by ((repeat (first | with_reducible exact Sel.head | apply Sel.tail)); (first | done | fail))) (Ent.nil _)) ?_
            refine XPA.pu rfl rfl Gd.free Rd.mv ?_
            refine XPA.pu rfl rfl Gd.free Rd.mv ?_
            first | refine XPA.puG rfl rfl Rd.mv ?_ | refine XPA.puOffG rfl rfl ?_
            first | refine XPA.puG rfl rfl Rd.mv ?_ | refine XPA.puOffG rfl rfl ?_
            first | refine XPA.puG rfl rfl Rd.mv ?_ | refine XPA.puOffG rfl rfl ?_
            first | refine XPA.puG rfl rfl (Rd.ixA rfl rfl) ?_ | refine XPA.puOffG rfl rfl ?_
            first | refine XPA.rdG rfl rfl (Rd.ldA rfl) ?_ | refine XPA.offG rfl rfl ?_
            refine XPA.wr0 rfl rfl (by first | exact Gd.free | exact Gd.isB rfl rfl rfl | (apply Gd.isQ; rfl; rfl; exact (by first | exact (rfl : decide _ = true) | exact (rfl : decide _ = false) | (refine decide_eq_true ?_; assumption) | (refine decide_eq_false ?_; assumption) | (refine decide_eq_true ?_; omega) | (refine decide_eq_false ?_; omega)); rfl)) (WrA.cE (sread_a σ4 y db s1 d1 q hG1.dok hG1.wlen') rfl) ?_
            rintro _ _ _ ⟨_, ⟨rfl, rfl, rfl⟩, rfl⟩
            refine stays (XPA.cl ?_)
            rw [hb q hq14, ← hW]
            first | refine XPA.puG rfl rfl (Rd.eqlWords (tyrow rfl) rfl (tyrow rfl) rfl rfl (by kernel_rfl) rfl rfl (by first | assumption | rfl | (simp; (first | done | fail)) | (simp [*]; (first | done | fail))) (by first | assumption | rfl | (simp; (first | done | fail)) | (simp [*]; (first | done | fail)))) ?_ | refine XPA.puOffG rfl rfl ?_
            refine XPA.pu rfl rfl Gd.free (by first | exact Rd.pT rfl | exact Rd.pF rfl | exact Rd.pP rfl) ?_
            rw [decide_eq_true hWW]
            refine XPA.pu rfl rfl Gd.free Rd.asg ?_
            refine XPA.nil ?_
            refine DA.inb_normal ?_
            refine DA.thn_normal ?_
            refine XA.region ?_
            refine XOA.rd rfl Rd.mv ?_
            refine XOA.rd rfl (by first | exact Rd.adi rfl rfl | exact Rd.add rfl rfl) ?_
            refine XOA.rd rfl Rd.asg ?_
            refine XOA.nil ?_
            refine DA.thn_normal ?_
            refine ⟨(Keep.upd (Keep.upd (Keep.upd (Keep.upd (Keep.upd (Keep.upd (Keep.updO (Keep.upd (Keep.upd (Keep.upd (Keep.upd (Keep.upd (Keep.upd (Keep.upd (Keep.upd (Keep.upd (Keep.upd (Keep.updO (Keep.upd (Keep.upd (Keep.upd (Keep.upd (Keep.upd (Keep.upd (Keep.upd (Keep.upd (Keep.upd (Keep.upd (Keep.upd (Keep.upd (Keep.hav (Keep.hav (Keep.refl _ _) rfl) rfl) rfl) rfl) rfl) rfl) rfl) rfl) rfl) rfl) rfl) rfl) rfl) rfl) rfl) rfl) rfl) rfl) rfl) rfl) rfl) rfl) rfl) rfl) rfl) rfl) rfl) rfl) rfl) rfl) rfl) rfl), q + 1, _, (by (repeat (first | exact trivial | refine ⟨rfl, ?_⟩ | refine ⟨Eq.trans rfl (congrArg Value.bool hmat.symm), ?_⟩)); (first | done | fail)), ?_, ⟨rfl, hq14, rfl⟩, (by omega)⟩
            · exact (by (repeat (first | exact Ent.nil _ | (apply Ent.sel; focus (first | ((repeat (first | with_reducible exact Sel.head | apply Sel.tail)); done) | ((repeat (first | exact Sel.head | apply Sel.tail)); done))) | apply Ent.selNil | apply Ent.selEmp)); (first | done | fail))
          refine XA.exit ?_
          refine DA.thn_exit ?_
          refine DA.thn_exit ?_
          refine DA.inb_same ?_
          refine DA.thn_normal ?_
          refine XA.seq ?_
          refine XA.region ?_
          refine XOA.rd rfl Rd.mv ?_
          refine XOA.rd rfl Rd.mv ?_
          first | ((first | refine XOA.wanted rfl rfl ?_ | refine XOA.wq rfl rfl ?_); refine XOA.rd rfl Rd.mv ?_) | refine XOA.unwanted rfl rfl rfl rfl ?_ | refine XOA.uq rfl rfl rfl ?_ | refine XOA.unwantedU rfl rfl rfl ?_
          refine XOA.rd rfl (by first | exact Rd.pT rfl | exact Rd.pF rfl | exact Rd.pP rfl) ?_
          refine XOA.rd rfl Rd.asg ?_
          refine XOA.nil ?_
          refine DA.thn_normal ?_
          refine XA.ret ?_
          exact bodyA.ret (ResA.one rfl rfl) (Ent.nil _) ⟨rfl, hs03.trans hs4⟩
      · 
        first | ((first | refine XOA.wanted rfl rfl ?_ | refine XOA.wq rfl rfl ?_); refine XOA.rd rfl (Rd.neq rfl rfl) ?_) | refine XOA.unwanted rfl rfl rfl rfl ?_ | refine XOA.uq rfl rfl rfl ?_ | refine XOA.unwantedU rfl rfl rfl ?_
        refine XOA.rd rfl (by first | exact Rd.pT rfl | exact Rd.pF rfl | exact Rd.pP rfl) ?_
        refine XOA.nil ?_
        refine DA.thn_normal ?_
        refine XA.condT rfl (decide_eq_true hc) ?_
        refine XA.seq ?_
        refine XA.region ?_
        refine XOA.rd rfl Rd.asg ?_
        refine XOA.nil ?_
        refine DA.thn_normal ?_
        refine XA.ret ?_
        refine DA.thn_ret ?_
        exact bodyA.ret (ResA.one rfl rfl) (Ent.nil _) ⟨rfl, hs02⟩
end Go.Proofs.Ytplobdiknobhoaa
