/- The law ParseBlanks holds: how a text is laid out does not matter. Condition: the given card's own, that the variables of the library that it lists hold what it lays. -/
import Derived.Test.YthefnnkmpcgcmaaDoorPb1
import Derived.Test.YthefnnkmpcgcmaaDoorPb2
import Derived.Test.YthefnnkmpcgcmaaDoorPb3
import Derived.Test.YthefnnkmpcgcmaaDoorRows
import Derived.LaidLaws
import Derived.Stop.LaidErr
import Derived.RowKit3
import Derived.RowKitTokens
import Derived.ChangeMaps5
import Derived.Handed
import Derived.SizedLaws
import Derived.Test.YthefnnkmpcgcmaaDoorCards
import Derived.Test.YthefnnkmpcgcmaaDoorTie
namespace Go.Proofs.YthefnnkmpcgcmaaDoor
open Go X
set_option maxHeartbeats 2000000
def RSameListOK (σ : PH) (l : List St) : Prop := ∀ (sl sm : Value) (m : List St), PSl 12 StAt σ sl l → PSl 12 StAt σ sm m →
  CallsA Tryd.prog 32 #[sl, sm] σ [] (RetA fun v σ' Γ' => ∃ b : Bool, v = .bool b ∧ (b = true ↔ l = m) ∧ σ = σ' ∧ Γ' = [])
theorem rsameList_l (σ : PH) (l : List St) (ih : ∀ x ∈ l, RSameListOK σ x.body ∧ RSameListOK σ x.els) : RSameListOK σ l := by
  intro sl sm m hl hm
  obtain ⟨pl, cl, rfl, hle, hmx⟩ := hl.shape
  obtain ⟨pm, cm, rfl, hle2, hmx2⟩ := hm.shape
  have hlen : l.length ≤ maxLen := by omega
  simp only [maxLen] at hlen
  refine enterA2 Tryd.func32 rfl rfl rfl ?_
  refine zS (zR (zO rfl Rd.asg ?_)); refine zN (zT (zS (zS (zR (zA rfl ?_))))); refine zO rfl (Rd.lenSlice (tyrow rfl) rfl rfl) ?_; refine zA rfl ?_; refine zO rfl (Rd.lenSlice (tyrow rfl) rfl rfl) ?_; refine zO rfl (Rd.neq rfl rfl) ?_; refine zN (zT ?_)
  refine XA.condp rfl (fun hne => ?_) (fun hne => ?_)
  · refine zS ?_
    refine zR (zO rfl Rd.asg ?_); refine zN (zT (XA.ret (DA.thn_ret ?_)))
    exact bodyA.ret (ResA.one rfl rfl) zE ⟨false, rfl, ⟨fun h => (by cases h), fun h => absurd (by rw [h]) hne⟩, rfl, rfl⟩
  have hlm : l.length = m.length := by omega
  refine XA.skip (zT (zS (zS (zR (zO rfl Rd.asg ?_))))); refine zN (zT (XA.block ?_))
  refine XA.gen [(0, _), (1, _), (4, _), (5, _)] ⟨(by with_reducible (conv => lhs; whnf)), (by with_reducible (conv => lhs; whnf)), (by with_reducible (conv => lhs; whnf)), (by with_reducible (conv => lhs; whnf)), trivial⟩ (fun δ => ?_)
  dsimp only [List.foldl]
  refine XA.loop [(4, 5), (11, 96)] (fun k : Nat => [(5, i64 k)]) (fun k σ' Γ' => σ = σ' ∧ k ≤ l.length ∧ l.take k = m.take k ∧ Γ' = []) (fun k => l.length - k) 0 (by exact ⟨rfl, trivial⟩) (Δ0 := _) ?_ (⟨rfl, Nat.zero_le _, rfl, rfl⟩) ?_
  · exact zE
  rintro k δ _ _ ⟨rfl, hk, htk, rfl⟩
  dsimp only [ovr, List.foldl]
  refine zS (zS (zR (zA rfl ?_))); refine zA rfl ?_; refine zO rfl (Rd.lenSlice (tyrow rfl) rfl rfl) ?_; refine zO rfl (Rd.lss rfl rfl) ?_; refine zN (zT ?_)
  refine XA.condp rfl (fun hlt => ?_) (fun hlt => ?_)
  · have hlt : k < l.length := by omega
    obtain ⟨x, hx⟩ : ∃ x, l[k]? = some x := ⟨_, List.getElem?_eq_getElem hlt⟩
    obtain ⟨y, hy⟩ : ∃ y, m[k]? = some y := ⟨_, List.getElem?_eq_getElem (by omega)⟩
    obtain ⟨ihb, ihe⟩ := ih x (List.mem_of_getElem? hx)
    obtain ⟨g, o, row, rfl, hrx, hrl, hrow⟩ := hl.at hx
    obtain ⟨g', o', row', rfl, hry, hrl', hrow'⟩ := hm.at hy
    have hout : x ≠ y → ¬ l = m := fun h1 h2 => by
      subst h2
      rw [hx] at hy; simp only [Option.some.injEq] at hy
      exact h1 hy
    obtain ⟨op, v, ex, fx, body, els⟩ := x
    obtain ⟨op', v', ex', fx', body', els'⟩ := y
    obtain ⟨pe, de, pf, df, pb, cb, pl', cl', rfl, -, -, hxe, hxf, hxb, hxl⟩ := hrx.inv12
    obtain ⟨pe2, de2, pf2, df2, pb2, cb2, pl2, cl2, rfl, -, -, hye, hyf, hyb, hyl⟩ := hry.inv12
    simp only [St.op, St.v, St.e, St.f, St.body, St.els] at hxe hxf hxb hxl hrow hye hyf hyb hyl hrow' ihb ihe
    clear hrx hry hrl hrl'
    have r0 : PRow σ g (o + k * 12) [i64 op] := hrow.sub (j := 0) rfl
    have r1 : PRow σ g (o + k * 12 + 1) [i64 v] := hrow.sub (j := 1) rfl
    have r2 : PRow σ g (o + k * 12 + 2) [i64 ex.op, i64 ex.v, i64 ex.n, .slice pe ex.l.length de] := hrow.sub (j := 2) rfl
    have r6 : PRow σ g (o + k * 12 + 6) [i64 fx.op, i64 fx.v, i64 fx.n, .slice pf fx.l.length df] := hrow.sub (j := 6) rfl
    have r10 : PRow σ g (o + k * 12 + 10) [.slice pb body.length cb] := hrow.sub (j := 10) rfl
    have r11 : PRow σ g (o + k * 12 + 11) [.slice pl' els.length cl'] := hrow.sub (j := 11) rfl
    have s0 : PRow σ g' (o' + k * 12) [i64 op'] := hrow'.sub (j := 0) rfl
    have s1 : PRow σ g' (o' + k * 12 + 1) [i64 v'] := hrow'.sub (j := 1) rfl
    have s2 : PRow σ g' (o' + k * 12 + 2) [i64 ex'.op, i64 ex'.v, i64 ex'.n, .slice pe2 ex'.l.length de2] := hrow'.sub (j := 2) rfl
    have s6 : PRow σ g' (o' + k * 12 + 6) [i64 fx'.op, i64 fx'.v, i64 fx'.n, .slice pf2 fx'.l.length df2] := hrow'.sub (j := 6) rfl
    have s10 : PRow σ g' (o' + k * 12 + 10) [.slice pb2 body'.length cb2] := hrow'.sub (j := 10) rfl
    have s11 : PRow σ g' (o' + k * 12 + 11) [.slice pl2 els'.length cl2] := hrow'.sub (j := 11) rfl
    clear hrow hrow'
    refine XA.skip (zT (zS (XA.block (zS ?_))))
    by_cases h1 : op = op'
    · by_cases h2 : v = v'
      · 
        refine XA.draw (by kernel_rfl) _ _ [] [(0, .pu), (1, .pu), (2, .pu), (3, .pu), (4, .rd), (5, .pu), (6, .pu), (7, .pu), (8, .pu), (9, .rd), (10, .pu), (11, .pu), (12, .pu), (13, .pu), (14, .pu), (15, .pu), (16, .rd), (17, .pu), (18, .pu), (19, .pu), (20, .pu), (21, .rd), (22, .pu), (23, .pu), (24, .pu), (25, .pu), (26, .pu), (27, .pu), (28, .pu), (29, .rd), (30, .pu), (31, .pu), (32, .pu), (33, .pu), (34, .rd), (35, .wr), (36, .pu), (37, .pu), (38, .pu), (39, .pu), (40, .pu), (41, .pu), (42, .pu), (43, .rd), (44, .pu), (45, .pu), (46, .pu), (47, .pu), (48, .rd), (49, .wr), (50, .pu), (51, .pu), (52, .pu), (53, .pu), (54, .pu), (55, .pu), (56, .pu), (57, .rd), (58, .pu), (59, .pu), (60, .pu), (61, .pu), (62, .rd), (63, .wr), (64, .pu), (65, .pu), (66, .pu), (67, .pu), (68, .pu), (69, .pu), (70, .pu), (71, .rd), (72, .pu), (73, .pu), (74, .pu), (75, .pu), (76, .rd), (77, .wr), (78, .pu), (79, .pu)] (by kernel_rfl) (PH.sub.refl _) (Ent.nil _) ?_
        refine XPA.pu rfl rfl Gd.free Rd.mv ?_; refine XPA.pu rfl rfl Gd.free Rd.mv ?_; refine XPA.pu rfl rfl Gd.free (Rd.ixS rfl rfl) ?_; refine XPA.pu rfl rfl Gd.free (Rd.fA rfl) ?_; refine XPA.rd rfl rfl Gd.free (Rd.ldC rfl (tyrow rfl) rfl) ?_; refine XPA.pu rfl rfl Gd.free Rd.mv ?_
        refine XPA.pu rfl rfl Gd.free Rd.mv ?_; refine XPA.pu rfl rfl Gd.free (Rd.ixS rfl rfl) ?_; refine XPA.pu rfl rfl Gd.free (Rd.fA rfl) ?_; refine XPA.rd rfl rfl Gd.free (Rd.ldC rfl (tyrow rfl) rfl) ?_; refine XPA.pu rfl rfl Gd.free (Rd.neq rfl rfl) ?_; refine XPA.pu rfl rfl Gd.free Rd.mv ?_
        first | refine XPA.puG rfl rfl Rd.mv ?_ | refine XPA.puOffG rfl rfl ?_
        first | refine XPA.puG rfl rfl Rd.mv ?_ | refine XPA.puOffG rfl rfl ?_
        first | refine XPA.puG rfl rfl (Rd.ixS rfl rfl) ?_ | refine XPA.puOffG rfl rfl ?_
        first | refine XPA.puG rfl rfl (Rd.fA rfl) ?_ | refine XPA.puOffG rfl rfl ?_
        first | refine XPA.rdG rfl rfl (Rd.ldC rfl (tyrow rfl) rfl) ?_ | refine XPA.offG rfl rfl ?_
        first | refine XPA.puG rfl rfl Rd.mv ?_ | refine XPA.puOffG rfl rfl ?_
        first | refine XPA.puG rfl rfl Rd.mv ?_ | refine XPA.puOffG rfl rfl ?_
        first | refine XPA.puG rfl rfl (Rd.ixS rfl rfl) ?_ | refine XPA.puOffG rfl rfl ?_
        first | refine XPA.puG rfl rfl (Rd.fA rfl) ?_ | refine XPA.puOffG rfl rfl ?_
        first | refine XPA.rdG rfl rfl (Rd.ldC rfl (tyrow rfl) rfl) ?_ | refine XPA.offG rfl rfl ?_
        first | refine XPA.puG rfl rfl (Rd.neq rfl rfl) ?_ | refine XPA.puOffG rfl rfl ?_
        refine XPA.pu rfl rfl Gd.free zP ?_; refine XPA.pu rfl rfl Gd.free Rd.mv ?_
        first | refine XPA.puG rfl rfl Rd.mv ?_ | refine XPA.puOffG rfl rfl ?_
        first | refine XPA.puG rfl rfl Rd.mv ?_ | refine XPA.puOffG rfl rfl ?_
        first | refine XPA.puG rfl rfl (Rd.ixS rfl rfl) ?_ | refine XPA.puOffG rfl rfl ?_
        first | refine XPA.puG rfl rfl (Rd.fA rfl) ?_ | refine XPA.puOffG rfl rfl ?_
        first | refine XPA.rdG rfl rfl (Rd.ldA rfl) ?_ | refine XPA.offG rfl rfl ?_
        first | refine XPA.puG rfl rfl Rd.mv ?_ | refine XPA.puOffG rfl rfl ?_
        first | refine XPA.puG rfl rfl Rd.mv ?_ | refine XPA.puOffG rfl rfl ?_
        first | refine XPA.puG rfl rfl (Rd.ixS rfl rfl) ?_ | refine XPA.puOffG rfl rfl ?_
        first | refine XPA.puG rfl rfl (Rd.fA rfl) ?_ | refine XPA.puOffG rfl rfl ?_
        first | refine XPA.rdG rfl rfl (Rd.ldA rfl) ?_ | refine XPA.offG rfl rfl ?_
        refine XPA.wr0 rfl rfl (by first | exact Gd.free | exact Gd.isB rfl rfl rfl | (apply Gd.isQ; rfl; rfl; exact (by first | exact (rfl : decide _ = true) | exact (rfl : decide _ = false) | (refine decide_eq_true ?_; assumption) | (refine decide_eq_false ?_; assumption) | (refine decide_eq_true ?_; omega) | (refine decide_eq_false ?_; omega)); rfl)) (WrA.cE (rsameExpr_a σ ex _ _ ex' hxe hye) rfl) ?_
        rintro _ _ _ ⟨_, ⟨b1, rfl, hb1, rfl, rfl⟩, rfl⟩
        refine stays (XPA.cl ?_)
        cases b1 with
        | false =>
          have hn := hout (fun h => absurd (hb1.2 (by injection h)) (by decide))
          first | refine XPA.puG rfl rfl zJ ?_ | refine XPA.puOffG rfl rfl ?_
          refine XPA.pu rfl rfl Gd.free zP ?_; refine XPA.pu rfl rfl Gd.free Rd.mv ?_
          first | refine XPA.puG rfl rfl Rd.mv ?_ | refine XPA.puOffG rfl rfl ?_
          first | refine XPA.puG rfl rfl Rd.mv ?_ | refine XPA.puOffG rfl rfl ?_
          first | refine XPA.puG rfl rfl (Rd.ixS rfl rfl) ?_ | refine XPA.puOffG rfl rfl ?_
          first | refine XPA.puG rfl rfl (Rd.fA rfl) ?_ | refine XPA.puOffG rfl rfl ?_
          first | refine XPA.rdG rfl rfl (Rd.ldA rfl) ?_ | refine XPA.offG rfl rfl ?_
          first | refine XPA.puG rfl rfl Rd.mv ?_ | refine XPA.puOffG rfl rfl ?_
          first | refine XPA.puG rfl rfl Rd.mv ?_ | refine XPA.puOffG rfl rfl ?_
          first | refine XPA.puG rfl rfl (Rd.ixS rfl rfl) ?_ | refine XPA.puOffG rfl rfl ?_
          first | refine XPA.puG rfl rfl (Rd.fA rfl) ?_ | refine XPA.puOffG rfl rfl ?_
          first | refine XPA.rdG rfl rfl (Rd.ldA rfl) ?_ | refine XPA.offG rfl rfl ?_
          first | refine XPA.off rfl rfl (by first | exact Gd.isB rfl rfl rfl | exact Gd.un rfl rfl | (apply Gd.isQ; rfl; rfl; exact (by first | exact (rfl : decide _ = true) | exact (rfl : decide _ = false) | (refine decide_eq_true ?_; assumption) | (refine decide_eq_false ?_; assumption) | (refine decide_eq_true ?_; omega) | (refine decide_eq_false ?_; omega)); rfl)) ?_ | refine XPA.puOff rfl rfl (by first | exact Gd.isB rfl rfl rfl | exact Gd.un rfl rfl | (apply Gd.isQ; rfl; rfl; exact (by first | exact (rfl : decide _ = true) | exact (rfl : decide _ = false) | (refine decide_eq_true ?_; assumption) | (refine decide_eq_false ?_; assumption) | (refine decide_eq_true ?_; omega) | (refine decide_eq_false ?_; omega)); rfl)) ?_ | refine XPA.offW rfl rfl (by first | exact Gd.isB rfl rfl rfl | exact Gd.un rfl rfl | (apply Gd.isQ; rfl; rfl; exact (by first | exact (rfl : decide _ = true) | exact (rfl : decide _ = false) | (refine decide_eq_true ?_; assumption) | (refine decide_eq_false ?_; assumption) | (refine decide_eq_true ?_; omega) | (refine decide_eq_false ?_; omega)); rfl)) ?_
          first | refine XPA.puG rfl rfl zJ ?_ | refine XPA.puOffG rfl rfl ?_
          refine XPA.pu rfl rfl Gd.free zP ?_; refine XPA.pu rfl rfl Gd.free Rd.mv ?_
          first | refine XPA.puG rfl rfl Rd.mv ?_ | refine XPA.puOffG rfl rfl ?_
          first | refine XPA.puG rfl rfl Rd.mv ?_ | refine XPA.puOffG rfl rfl ?_
          first | refine XPA.puG rfl rfl (Rd.ixS rfl rfl) ?_ | refine XPA.puOffG rfl rfl ?_
          first | refine XPA.puG rfl rfl (Rd.fA rfl) ?_ | refine XPA.puOffG rfl rfl ?_
          first | refine XPA.rdG rfl rfl (Rd.ldC rfl (tyrow rfl) rfl) ?_ | refine XPA.offG rfl rfl ?_
          first | refine XPA.puG rfl rfl Rd.mv ?_ | refine XPA.puOffG rfl rfl ?_
          first | refine XPA.puG rfl rfl Rd.mv ?_ | refine XPA.puOffG rfl rfl ?_
          first | refine XPA.puG rfl rfl (Rd.ixS rfl rfl) ?_ | refine XPA.puOffG rfl rfl ?_
          first | refine XPA.puG rfl rfl (Rd.fA rfl) ?_ | refine XPA.puOffG rfl rfl ?_
          first | refine XPA.rdG rfl rfl (Rd.ldC rfl (tyrow rfl) rfl) ?_ | refine XPA.offG rfl rfl ?_
          first | refine XPA.off rfl rfl (by first | exact Gd.isB rfl rfl rfl | exact Gd.un rfl rfl | (apply Gd.isQ; rfl; rfl; exact (by first | exact (rfl : decide _ = true) | exact (rfl : decide _ = false) | (refine decide_eq_true ?_; assumption) | (refine decide_eq_false ?_; assumption) | (refine decide_eq_true ?_; omega) | (refine decide_eq_false ?_; omega)); rfl)) ?_ | refine XPA.puOff rfl rfl (by first | exact Gd.isB rfl rfl rfl | exact Gd.un rfl rfl | (apply Gd.isQ; rfl; rfl; exact (by first | exact (rfl : decide _ = true) | exact (rfl : decide _ = false) | (refine decide_eq_true ?_; assumption) | (refine decide_eq_false ?_; assumption) | (refine decide_eq_true ?_; omega) | (refine decide_eq_false ?_; omega)); rfl)) ?_ | refine XPA.offW rfl rfl (by first | exact Gd.isB rfl rfl rfl | exact Gd.un rfl rfl | (apply Gd.isQ; rfl; rfl; exact (by first | exact (rfl : decide _ = true) | exact (rfl : decide _ = false) | (refine decide_eq_true ?_; assumption) | (refine decide_eq_false ?_; assumption) | (refine decide_eq_true ?_; omega) | (refine decide_eq_false ?_; omega)); rfl)) ?_
          first | refine XPA.puG rfl rfl zJ ?_ | refine XPA.puOffG rfl rfl ?_
          refine XPA.pu rfl rfl Gd.free zP ?_; refine XPA.pu rfl rfl Gd.free Rd.mv ?_
          first | refine XPA.puG rfl rfl Rd.mv ?_ | refine XPA.puOffG rfl rfl ?_
          first | refine XPA.puG rfl rfl Rd.mv ?_ | refine XPA.puOffG rfl rfl ?_
          first | refine XPA.puG rfl rfl (Rd.ixS rfl rfl) ?_ | refine XPA.puOffG rfl rfl ?_
          first | refine XPA.puG rfl rfl (Rd.fA rfl) ?_ | refine XPA.puOffG rfl rfl ?_
          first | refine XPA.rdG rfl rfl (Rd.ldC rfl (tyrow rfl) rfl) ?_ | refine XPA.offG rfl rfl ?_
          first | refine XPA.puG rfl rfl Rd.mv ?_ | refine XPA.puOffG rfl rfl ?_
          first | refine XPA.puG rfl rfl Rd.mv ?_ | refine XPA.puOffG rfl rfl ?_
          first | refine XPA.puG rfl rfl (Rd.ixS rfl rfl) ?_ | refine XPA.puOffG rfl rfl ?_
          first | refine XPA.puG rfl rfl (Rd.fA rfl) ?_ | refine XPA.puOffG rfl rfl ?_
          first | refine XPA.rdG rfl rfl (Rd.ldC rfl (tyrow rfl) rfl) ?_ | refine XPA.offG rfl rfl ?_
          first | refine XPA.off rfl rfl (by first | exact Gd.isB rfl rfl rfl | exact Gd.un rfl rfl | (apply Gd.isQ; rfl; rfl; exact (by first | exact (rfl : decide _ = true) | exact (rfl : decide _ = false) | (refine decide_eq_true ?_; assumption) | (refine decide_eq_false ?_; assumption) | (refine decide_eq_true ?_; omega) | (refine decide_eq_false ?_; omega)); rfl)) ?_ | refine XPA.puOff rfl rfl (by first | exact Gd.isB rfl rfl rfl | exact Gd.un rfl rfl | (apply Gd.isQ; rfl; rfl; exact (by first | exact (rfl : decide _ = true) | exact (rfl : decide _ = false) | (refine decide_eq_true ?_; assumption) | (refine decide_eq_false ?_; assumption) | (refine decide_eq_true ?_; omega) | (refine decide_eq_false ?_; omega)); rfl)) ?_ | refine XPA.offW rfl rfl (by first | exact Gd.isB rfl rfl rfl | exact Gd.un rfl rfl | (apply Gd.isQ; rfl; rfl; exact (by first | exact (rfl : decide _ = true) | exact (rfl : decide _ = false) | (refine decide_eq_true ?_; assumption) | (refine decide_eq_false ?_; assumption) | (refine decide_eq_true ?_; omega) | (refine decide_eq_false ?_; omega)); rfl)) ?_
          first | refine XPA.puG rfl rfl zJ ?_ | refine XPA.puOffG rfl rfl ?_
          refine XPA.pu rfl rfl Gd.free zP ?_; refine XPA.nil ?_; refine zT (XA.condT rfl rfl (zS (zR (zO rfl Rd.asg ?_)))); refine zN (zT (XA.ret (DA.inb_ret (DA.thn_ret (DA.thn_ret (DA.inb_ret (DA.thn_ret ?_)))))))
          exact bodyA.ret (ResA.one rfl rfl) (Ent.nil _) ⟨false, rfl, ⟨fun h => (by cases h), fun h => absurd h hn⟩, rfl, rfl⟩
        | true =>
          first | refine XPA.puG rfl rfl zJ ?_ | refine XPA.puOffG rfl rfl ?_
          refine XPA.pu rfl rfl Gd.free zP ?_; refine XPA.pu rfl rfl Gd.free Rd.mv ?_
          first | refine XPA.puG rfl rfl Rd.mv ?_ | refine XPA.puOffG rfl rfl ?_
          first | refine XPA.puG rfl rfl Rd.mv ?_ | refine XPA.puOffG rfl rfl ?_
          first | refine XPA.puG rfl rfl (Rd.ixS rfl rfl) ?_ | refine XPA.puOffG rfl rfl ?_
          first | refine XPA.puG rfl rfl (Rd.fA rfl) ?_ | refine XPA.puOffG rfl rfl ?_
          first | refine XPA.rdG rfl rfl (Rd.ldA rfl) ?_ | refine XPA.offG rfl rfl ?_
          first | refine XPA.puG rfl rfl Rd.mv ?_ | refine XPA.puOffG rfl rfl ?_
          first | refine XPA.puG rfl rfl Rd.mv ?_ | refine XPA.puOffG rfl rfl ?_
          first | refine XPA.puG rfl rfl (Rd.ixS rfl rfl) ?_ | refine XPA.puOffG rfl rfl ?_
          first | refine XPA.puG rfl rfl (Rd.fA rfl) ?_ | refine XPA.puOffG rfl rfl ?_
          first | refine XPA.rdG rfl rfl (Rd.ldA rfl) ?_ | refine XPA.offG rfl rfl ?_
          refine XPA.wr0 rfl rfl (by first | exact Gd.free | exact Gd.isB rfl rfl rfl | (apply Gd.isQ; rfl; rfl; exact (by first | exact (rfl : decide _ = true) | exact (rfl : decide _ = false) | (refine decide_eq_true ?_; assumption) | (refine decide_eq_false ?_; assumption) | (refine decide_eq_true ?_; omega) | (refine decide_eq_false ?_; omega)); rfl)) (WrA.cE (rsameExpr_a σ fx _ _ fx' hxf hyf) rfl) ?_
          rintro _ _ _ ⟨_, ⟨b2, rfl, hb2, rfl, rfl⟩, rfl⟩
          refine stays (XPA.cl ?_)
          cases b2 with
          | false =>
            have hn := hout (fun h => absurd (hb2.2 (by injection h)) (by decide))
            first | refine XPA.puG rfl rfl zJ ?_ | refine XPA.puOffG rfl rfl ?_
            refine XPA.pu rfl rfl Gd.free zP ?_; refine XPA.pu rfl rfl Gd.free Rd.mv ?_
            first | refine XPA.puG rfl rfl Rd.mv ?_ | refine XPA.puOffG rfl rfl ?_
            first | refine XPA.puG rfl rfl Rd.mv ?_ | refine XPA.puOffG rfl rfl ?_
            first | refine XPA.puG rfl rfl (Rd.ixS rfl rfl) ?_ | refine XPA.puOffG rfl rfl ?_
            first | refine XPA.puG rfl rfl (Rd.fA rfl) ?_ | refine XPA.puOffG rfl rfl ?_
            first | refine XPA.rdG rfl rfl (Rd.ldC rfl (tyrow rfl) rfl) ?_ | refine XPA.offG rfl rfl ?_
            first | refine XPA.puG rfl rfl Rd.mv ?_ | refine XPA.puOffG rfl rfl ?_
            first | refine XPA.puG rfl rfl Rd.mv ?_ | refine XPA.puOffG rfl rfl ?_
            first | refine XPA.puG rfl rfl (Rd.ixS rfl rfl) ?_ | refine XPA.puOffG rfl rfl ?_
            first | refine XPA.puG rfl rfl (Rd.fA rfl) ?_ | refine XPA.puOffG rfl rfl ?_
            first | refine XPA.rdG rfl rfl (Rd.ldC rfl (tyrow rfl) rfl) ?_ | refine XPA.offG rfl rfl ?_
            first | refine XPA.off rfl rfl (by first | exact Gd.isB rfl rfl rfl | exact Gd.un rfl rfl | (apply Gd.isQ; rfl; rfl; exact (by first | exact (rfl : decide _ = true) | exact (rfl : decide _ = false) | (refine decide_eq_true ?_; assumption) | (refine decide_eq_false ?_; assumption) | (refine decide_eq_true ?_; omega) | (refine decide_eq_false ?_; omega)); rfl)) ?_ | refine XPA.puOff rfl rfl (by first | exact Gd.isB rfl rfl rfl | exact Gd.un rfl rfl | (apply Gd.isQ; rfl; rfl; exact (by first | exact (rfl : decide _ = true) | exact (rfl : decide _ = false) | (refine decide_eq_true ?_; assumption) | (refine decide_eq_false ?_; assumption) | (refine decide_eq_true ?_; omega) | (refine decide_eq_false ?_; omega)); rfl)) ?_ | refine XPA.offW rfl rfl (by first | exact Gd.isB rfl rfl rfl | exact Gd.un rfl rfl | (apply Gd.isQ; rfl; rfl; exact (by first | exact (rfl : decide _ = true) | exact (rfl : decide _ = false) | (refine decide_eq_true ?_; assumption) | (refine decide_eq_false ?_; assumption) | (refine decide_eq_true ?_; omega) | (refine decide_eq_false ?_; omega)); rfl)) ?_
            first | refine XPA.puG rfl rfl zJ ?_ | refine XPA.puOffG rfl rfl ?_
            refine XPA.pu rfl rfl Gd.free zP ?_; refine XPA.pu rfl rfl Gd.free Rd.mv ?_
            first | refine XPA.puG rfl rfl Rd.mv ?_ | refine XPA.puOffG rfl rfl ?_
            first | refine XPA.puG rfl rfl Rd.mv ?_ | refine XPA.puOffG rfl rfl ?_
            first | refine XPA.puG rfl rfl (Rd.ixS rfl rfl) ?_ | refine XPA.puOffG rfl rfl ?_
            first | refine XPA.puG rfl rfl (Rd.fA rfl) ?_ | refine XPA.puOffG rfl rfl ?_
            first | refine XPA.rdG rfl rfl (Rd.ldC rfl (tyrow rfl) rfl) ?_ | refine XPA.offG rfl rfl ?_
            first | refine XPA.puG rfl rfl Rd.mv ?_ | refine XPA.puOffG rfl rfl ?_
            first | refine XPA.puG rfl rfl Rd.mv ?_ | refine XPA.puOffG rfl rfl ?_
            first | refine XPA.puG rfl rfl (Rd.ixS rfl rfl) ?_ | refine XPA.puOffG rfl rfl ?_
            first | refine XPA.puG rfl rfl (Rd.fA rfl) ?_ | refine XPA.puOffG rfl rfl ?_
            first | refine XPA.rdG rfl rfl (Rd.ldC rfl (tyrow rfl) rfl) ?_ | refine XPA.offG rfl rfl ?_
            first | refine XPA.off rfl rfl (by first | exact Gd.isB rfl rfl rfl | exact Gd.un rfl rfl | (apply Gd.isQ; rfl; rfl; exact (by first | exact (rfl : decide _ = true) | exact (rfl : decide _ = false) | (refine decide_eq_true ?_; assumption) | (refine decide_eq_false ?_; assumption) | (refine decide_eq_true ?_; omega) | (refine decide_eq_false ?_; omega)); rfl)) ?_ | refine XPA.puOff rfl rfl (by first | exact Gd.isB rfl rfl rfl | exact Gd.un rfl rfl | (apply Gd.isQ; rfl; rfl; exact (by first | exact (rfl : decide _ = true) | exact (rfl : decide _ = false) | (refine decide_eq_true ?_; assumption) | (refine decide_eq_false ?_; assumption) | (refine decide_eq_true ?_; omega) | (refine decide_eq_false ?_; omega)); rfl)) ?_ | refine XPA.offW rfl rfl (by first | exact Gd.isB rfl rfl rfl | exact Gd.un rfl rfl | (apply Gd.isQ; rfl; rfl; exact (by first | exact (rfl : decide _ = true) | exact (rfl : decide _ = false) | (refine decide_eq_true ?_; assumption) | (refine decide_eq_false ?_; assumption) | (refine decide_eq_true ?_; omega) | (refine decide_eq_false ?_; omega)); rfl)) ?_
            first | refine XPA.puG rfl rfl zJ ?_ | refine XPA.puOffG rfl rfl ?_
            refine XPA.pu rfl rfl Gd.free zP ?_; refine XPA.nil ?_; refine zT (XA.condT rfl rfl (zS (zR (zO rfl Rd.asg ?_)))); refine zN (zT (XA.ret (DA.inb_ret (DA.thn_ret (DA.thn_ret (DA.inb_ret (DA.thn_ret ?_)))))))
            exact bodyA.ret (ResA.one rfl rfl) (Ent.nil _) ⟨false, rfl, ⟨fun h => (by cases h), fun h => absurd h hn⟩, rfl, rfl⟩
          | true =>
            first | refine XPA.puG rfl rfl zJ ?_ | refine XPA.puOffG rfl rfl ?_
            refine XPA.pu rfl rfl Gd.free zP ?_; refine XPA.pu rfl rfl Gd.free Rd.mv ?_
            first | refine XPA.puG rfl rfl Rd.mv ?_ | refine XPA.puOffG rfl rfl ?_
            first | refine XPA.puG rfl rfl Rd.mv ?_ | refine XPA.puOffG rfl rfl ?_
            first | refine XPA.puG rfl rfl (Rd.ixS rfl rfl) ?_ | refine XPA.puOffG rfl rfl ?_
            first | refine XPA.puG rfl rfl (Rd.fA rfl) ?_ | refine XPA.puOffG rfl rfl ?_
            first | refine XPA.rdG rfl rfl (Rd.ldC rfl (tyrow rfl) rfl) ?_ | refine XPA.offG rfl rfl ?_
            first | refine XPA.puG rfl rfl Rd.mv ?_ | refine XPA.puOffG rfl rfl ?_
            first | refine XPA.puG rfl rfl Rd.mv ?_ | refine XPA.puOffG rfl rfl ?_
            first | refine XPA.puG rfl rfl (Rd.ixS rfl rfl) ?_ | refine XPA.puOffG rfl rfl ?_
            first | refine XPA.puG rfl rfl (Rd.fA rfl) ?_ | refine XPA.puOffG rfl rfl ?_
            first | refine XPA.rdG rfl rfl (Rd.ldC rfl (tyrow rfl) rfl) ?_ | refine XPA.offG rfl rfl ?_
            refine XPA.wr0 rfl rfl (by first | exact Gd.free | exact Gd.isB rfl rfl rfl | (apply Gd.isQ; rfl; rfl; exact (by first | exact (rfl : decide _ = true) | exact (rfl : decide _ = false) | (refine decide_eq_true ?_; assumption) | (refine decide_eq_false ?_; assumption) | (refine decide_eq_true ?_; omega) | (refine decide_eq_false ?_; omega)); rfl)) (WrA.cE (ihb _ _ body' hxb hyb) rfl) ?_
            rintro _ _ _ ⟨_, ⟨b3, rfl, hb3, rfl, rfl⟩, rfl⟩
            refine stays (XPA.cl ?_)
            cases b3 with
            | false =>
              have hn := hout (fun h => absurd (hb3.2 (by injection h)) (by decide))
              first | refine XPA.puG rfl rfl zJ ?_ | refine XPA.puOffG rfl rfl ?_
              refine XPA.pu rfl rfl Gd.free zP ?_; refine XPA.pu rfl rfl Gd.free Rd.mv ?_
              first | refine XPA.puG rfl rfl Rd.mv ?_ | refine XPA.puOffG rfl rfl ?_
              first | refine XPA.puG rfl rfl Rd.mv ?_ | refine XPA.puOffG rfl rfl ?_
              first | refine XPA.puG rfl rfl (Rd.ixS rfl rfl) ?_ | refine XPA.puOffG rfl rfl ?_
              first | refine XPA.puG rfl rfl (Rd.fA rfl) ?_ | refine XPA.puOffG rfl rfl ?_
              first | refine XPA.rdG rfl rfl (Rd.ldC rfl (tyrow rfl) rfl) ?_ | refine XPA.offG rfl rfl ?_
              first | refine XPA.puG rfl rfl Rd.mv ?_ | refine XPA.puOffG rfl rfl ?_
              first | refine XPA.puG rfl rfl Rd.mv ?_ | refine XPA.puOffG rfl rfl ?_
              first | refine XPA.puG rfl rfl (Rd.ixS rfl rfl) ?_ | refine XPA.puOffG rfl rfl ?_
              first | refine XPA.puG rfl rfl (Rd.fA rfl) ?_ | refine XPA.puOffG rfl rfl ?_
              first | refine XPA.rdG rfl rfl (Rd.ldC rfl (tyrow rfl) rfl) ?_ | refine XPA.offG rfl rfl ?_
              first | refine XPA.off rfl rfl (by first | exact Gd.isB rfl rfl rfl | exact Gd.un rfl rfl | (apply Gd.isQ; rfl; rfl; exact (by first | exact (rfl : decide _ = true) | exact (rfl : decide _ = false) | (refine decide_eq_true ?_; assumption) | (refine decide_eq_false ?_; assumption) | (refine decide_eq_true ?_; omega) | (refine decide_eq_false ?_; omega)); rfl)) ?_ | refine XPA.puOff rfl rfl (by first | exact Gd.isB rfl rfl rfl | exact Gd.un rfl rfl | (apply Gd.isQ; rfl; rfl; exact (by first | exact (rfl : decide _ = true) | exact (rfl : decide _ = false) | (refine decide_eq_true ?_; assumption) | (refine decide_eq_false ?_; assumption) | (refine decide_eq_true ?_; omega) | (refine decide_eq_false ?_; omega)); rfl)) ?_ | refine XPA.offW rfl rfl (by first | exact Gd.isB rfl rfl rfl | exact Gd.un rfl rfl | (apply Gd.isQ; rfl; rfl; exact (by first | exact (rfl : decide _ = true) | exact (rfl : decide _ = false) | (refine decide_eq_true ?_; assumption) | (refine decide_eq_false ?_; assumption) | (refine decide_eq_true ?_; omega) | (refine decide_eq_false ?_; omega)); rfl)) ?_
              first | refine XPA.puG rfl rfl zJ ?_ | refine XPA.puOffG rfl rfl ?_
              refine XPA.pu rfl rfl Gd.free zP ?_; refine XPA.nil ?_; refine zT (XA.condT rfl rfl (zS (zR (zO rfl Rd.asg ?_)))); refine zN (zT (XA.ret (DA.inb_ret (DA.thn_ret (DA.thn_ret (DA.inb_ret (DA.thn_ret ?_)))))))
              exact bodyA.ret (ResA.one rfl rfl) (Ent.nil _) ⟨false, rfl, ⟨fun h => (by cases h), fun h => absurd h hn⟩, rfl, rfl⟩
            | true =>
              first | refine XPA.puG rfl rfl zJ ?_ | refine XPA.puOffG rfl rfl ?_
              refine XPA.pu rfl rfl Gd.free zP ?_; refine XPA.pu rfl rfl Gd.free Rd.mv ?_
              first | refine XPA.puG rfl rfl Rd.mv ?_ | refine XPA.puOffG rfl rfl ?_
              first | refine XPA.puG rfl rfl Rd.mv ?_ | refine XPA.puOffG rfl rfl ?_
              first | refine XPA.puG rfl rfl (Rd.ixS rfl rfl) ?_ | refine XPA.puOffG rfl rfl ?_
              first | refine XPA.puG rfl rfl (Rd.fA rfl) ?_ | refine XPA.puOffG rfl rfl ?_
              first | refine XPA.rdG rfl rfl (Rd.ldC rfl (tyrow rfl) rfl) ?_ | refine XPA.offG rfl rfl ?_
              first | refine XPA.puG rfl rfl Rd.mv ?_ | refine XPA.puOffG rfl rfl ?_
              first | refine XPA.puG rfl rfl Rd.mv ?_ | refine XPA.puOffG rfl rfl ?_
              first | refine XPA.puG rfl rfl (Rd.ixS rfl rfl) ?_ | refine XPA.puOffG rfl rfl ?_
              first | refine XPA.puG rfl rfl (Rd.fA rfl) ?_ | refine XPA.puOffG rfl rfl ?_
              first | refine XPA.rdG rfl rfl (Rd.ldC rfl (tyrow rfl) rfl) ?_ | refine XPA.offG rfl rfl ?_
              refine XPA.wr0 rfl rfl (by first | exact Gd.free | exact Gd.isB rfl rfl rfl | (apply Gd.isQ; rfl; rfl; exact (by first | exact (rfl : decide _ = true) | exact (rfl : decide _ = false) | (refine decide_eq_true ?_; assumption) | (refine decide_eq_false ?_; assumption) | (refine decide_eq_true ?_; omega) | (refine decide_eq_false ?_; omega)); rfl)) (WrA.cE (ihe _ _ els' hxl hyl) rfl) ?_
              rintro _ _ _ ⟨_, ⟨b4, rfl, hb4, rfl, rfl⟩, rfl⟩
              refine stays (XPA.cl ?_)
              cases b4 with
              | false =>
                have hn := hout (fun h => absurd (hb4.2 (by injection h)) (by decide))
                first | refine XPA.puG rfl rfl zJ ?_ | refine XPA.puOffG rfl rfl ?_
                refine XPA.pu rfl rfl Gd.free zP ?_; refine XPA.nil ?_; refine zT (XA.condT rfl rfl (zS (zR (zO rfl Rd.asg ?_)))); refine zN (zT (XA.ret (DA.inb_ret (DA.thn_ret (DA.thn_ret (DA.inb_ret (DA.thn_ret ?_)))))))
                exact bodyA.ret (ResA.one rfl rfl) (Ent.nil _) ⟨false, rfl, ⟨fun h => (by cases h), fun h => absurd h hn⟩, rfl, rfl⟩
              | true =>
                have hxy : St.mk op v ex fx body els = St.mk op' v' ex' fx' body' els' := by rw [h1, h2, hb1.1 rfl, hb2.1 rfl, hb3.1 rfl, hb4.1 rfl]
                first | refine XPA.puG rfl rfl zJ ?_ | refine XPA.puOffG rfl rfl ?_
                refine XPA.pu rfl rfl Gd.free zP ?_; refine XPA.nil ?_; refine zT (XA.condF rfl rfl (XA.skip (DA.inb_normal (zT (zR (zA rfl ?_)))))); refine zO rfl zI ?_; refine zO rfl Rd.asg ?_; refine zN (zT ?_)
                refine ⟨(Keep.upd (Keep.upd (Keep.upd (Keep.upd (Keep.upd (Keep.updO (Keep.upd (Keep.upd (Keep.upd (Keep.upd (Keep.upd (Keep.upd (Keep.upd (Keep.upd (Keep.upd (Keep.upd (Keep.upd (Keep.upd (Keep.upd (Keep.updO (Keep.upd (Keep.upd (Keep.upd (Keep.upd (Keep.upd (Keep.upd (Keep.upd (Keep.upd (Keep.upd (Keep.upd (Keep.upd (Keep.upd (Keep.upd (Keep.updO (Keep.upd (Keep.upd (Keep.upd (Keep.upd (Keep.upd (Keep.upd (Keep.upd (Keep.upd (Keep.upd (Keep.upd (Keep.upd (Keep.upd (Keep.upd (Keep.updO (Keep.upd (Keep.upd (Keep.upd (Keep.upd (Keep.upd (Keep.upd (Keep.upd (Keep.upd (Keep.upd (Keep.upd (Keep.upd (Keep.upd (Keep.upd (Keep.upd (Keep.upd (Keep.upd (Keep.upd (Keep.upd (Keep.upd (Keep.upd (Keep.upd (Keep.upd (Keep.upd (Keep.upd (Keep.upd (Keep.upd (Keep.upd (Keep.upd (Keep.upd (Keep.upd (Keep.upd (Keep.upd (Keep.upd (Keep.upd (Keep.upd (Keep.upd (Keep.upd (Keep.upd (Keep.upd (Keep.upd (Keep.hav (Keep.hav (Keep.refl _ _) rfl) rfl) rfl) rfl) rfl) rfl) rfl) rfl) rfl) rfl) rfl) rfl) rfl) rfl) rfl) rfl) rfl) rfl) rfl) rfl) rfl) rfl) rfl) rfl) rfl) rfl) rfl) rfl) rfl) rfl) rfl) rfl) rfl) rfl) rfl) rfl) rfl) rfl) rfl) rfl) rfl) rfl) rfl) rfl) rfl) rfl) rfl) rfl) rfl) rfl) rfl) rfl) rfl) rfl) rfl) rfl) rfl) rfl) rfl) rfl) rfl) rfl) rfl) rfl) rfl) rfl) rfl) rfl) rfl) rfl) rfl) rfl) rfl) rfl) rfl) rfl) rfl) rfl) rfl) rfl) rfl) rfl) rfl) rfl) rfl) rfl) rfl) rfl) rfl) rfl), k + 1, [], zM, ?_, ⟨rfl, hlt, take_eq_succ hx hy htk hxy, rfl⟩, (by omega)⟩
                · exact zE
      · have hn := hout (fun h => h2 (by injection h))
        refine XA.draw (by kernel_rfl) _ _ [] [(0, .pu), (1, .pu), (2, .pu), (3, .pu), (4, .rd), (5, .pu), (6, .pu), (7, .pu), (8, .pu), (9, .rd), (10, .pu), (11, .pu), (12, .pu), (13, .pu), (14, .pu), (15, .pu), (16, .rd), (17, .pu), (18, .pu), (19, .pu), (20, .pu), (21, .rd), (22, .pu), (23, .pu), (24, .pu), (25, .pu), (26, .pu), (27, .pu), (28, .pu), (29, .rd), (30, .pu), (31, .pu), (32, .pu), (33, .pu), (34, .rd), (35, .wr), (36, .pu), (37, .pu), (38, .pu), (39, .pu), (40, .pu), (41, .pu), (42, .pu), (43, .rd), (44, .pu), (45, .pu), (46, .pu), (47, .pu), (48, .rd), (49, .wr), (50, .pu), (51, .pu), (52, .pu), (53, .pu), (54, .pu), (55, .pu), (56, .pu), (57, .rd), (58, .pu), (59, .pu), (60, .pu), (61, .pu), (62, .rd), (63, .wr), (64, .pu), (65, .pu), (66, .pu), (67, .pu), (68, .pu), (69, .pu), (70, .pu), (71, .rd), (72, .pu), (73, .pu), (74, .pu), (75, .pu), (76, .rd), (77, .wr), (78, .pu), (79, .pu)] (by kernel_rfl) (PH.sub.refl _) (Ent.nil _) ?_
        refine XPA.pu rfl rfl Gd.free Rd.mv ?_; refine XPA.pu rfl rfl Gd.free Rd.mv ?_; refine XPA.pu rfl rfl Gd.free (Rd.ixS rfl rfl) ?_; refine XPA.pu rfl rfl Gd.free (Rd.fA rfl) ?_; refine XPA.rd rfl rfl Gd.free (Rd.ldC rfl (tyrow rfl) rfl) ?_; refine XPA.pu rfl rfl Gd.free Rd.mv ?_
        refine XPA.pu rfl rfl Gd.free Rd.mv ?_; refine XPA.pu rfl rfl Gd.free (Rd.ixS rfl rfl) ?_; refine XPA.pu rfl rfl Gd.free (Rd.fA rfl) ?_; refine XPA.rd rfl rfl Gd.free (Rd.ldC rfl (tyrow rfl) rfl) ?_; refine XPA.pu rfl rfl Gd.free (Rd.neq rfl rfl) ?_; refine XPA.pu rfl rfl Gd.free Rd.mv ?_
        first | refine XPA.puG rfl rfl Rd.mv ?_ | refine XPA.puOffG rfl rfl ?_
        first | refine XPA.puG rfl rfl Rd.mv ?_ | refine XPA.puOffG rfl rfl ?_
        first | refine XPA.puG rfl rfl (Rd.ixS rfl rfl) ?_ | refine XPA.puOffG rfl rfl ?_
        first | refine XPA.puG rfl rfl (Rd.fA rfl) ?_ | refine XPA.puOffG rfl rfl ?_
        first | refine XPA.rdG rfl rfl (Rd.ldC rfl (tyrow rfl) rfl) ?_ | refine XPA.offG rfl rfl ?_
        first | refine XPA.puG rfl rfl Rd.mv ?_ | refine XPA.puOffG rfl rfl ?_
        first | refine XPA.puG rfl rfl Rd.mv ?_ | refine XPA.puOffG rfl rfl ?_
        first | refine XPA.puG rfl rfl (Rd.ixS rfl rfl) ?_ | refine XPA.puOffG rfl rfl ?_
        first | refine XPA.puG rfl rfl (Rd.fA rfl) ?_ | refine XPA.puOffG rfl rfl ?_
        first | refine XPA.rdG rfl rfl (Rd.ldC rfl (tyrow rfl) rfl) ?_ | refine XPA.offG rfl rfl ?_
        first | refine XPA.puG rfl rfl (Rd.neq rfl rfl) ?_ | refine XPA.puOffG rfl rfl ?_
        refine XPA.pu rfl rfl Gd.free zP ?_; refine XPA.pu rfl rfl Gd.free Rd.mv ?_
        first | refine XPA.puG rfl rfl Rd.mv ?_ | refine XPA.puOffG rfl rfl ?_
        first | refine XPA.puG rfl rfl Rd.mv ?_ | refine XPA.puOffG rfl rfl ?_
        first | refine XPA.puG rfl rfl (Rd.ixS rfl rfl) ?_ | refine XPA.puOffG rfl rfl ?_
        first | refine XPA.puG rfl rfl (Rd.fA rfl) ?_ | refine XPA.puOffG rfl rfl ?_
        first | refine XPA.rdG rfl rfl (Rd.ldA rfl) ?_ | refine XPA.offG rfl rfl ?_
        first | refine XPA.puG rfl rfl Rd.mv ?_ | refine XPA.puOffG rfl rfl ?_
        first | refine XPA.puG rfl rfl Rd.mv ?_ | refine XPA.puOffG rfl rfl ?_
        first | refine XPA.puG rfl rfl (Rd.ixS rfl rfl) ?_ | refine XPA.puOffG rfl rfl ?_
        first | refine XPA.puG rfl rfl (Rd.fA rfl) ?_ | refine XPA.puOffG rfl rfl ?_
        first | refine XPA.rdG rfl rfl (Rd.ldA rfl) ?_ | refine XPA.offG rfl rfl ?_
        first | refine XPA.off rfl rfl (by first | exact Gd.isB rfl rfl rfl | exact Gd.un rfl rfl | (apply Gd.isQ; rfl; rfl; exact (by first | exact (rfl : decide _ = true) | exact (rfl : decide _ = false) | (refine decide_eq_true ?_; assumption) | (refine decide_eq_false ?_; assumption) | (refine decide_eq_true ?_; omega) | (refine decide_eq_false ?_; omega)); rfl)) ?_ | refine XPA.puOff rfl rfl (by first | exact Gd.isB rfl rfl rfl | exact Gd.un rfl rfl | (apply Gd.isQ; rfl; rfl; exact (by first | exact (rfl : decide _ = true) | exact (rfl : decide _ = false) | (refine decide_eq_true ?_; assumption) | (refine decide_eq_false ?_; assumption) | (refine decide_eq_true ?_; omega) | (refine decide_eq_false ?_; omega)); rfl)) ?_ | refine XPA.offW rfl rfl (by first | exact Gd.isB rfl rfl rfl | exact Gd.un rfl rfl | (apply Gd.isQ; rfl; rfl; exact (by first | exact (rfl : decide _ = true) | exact (rfl : decide _ = false) | (refine decide_eq_true ?_; assumption) | (refine decide_eq_false ?_; assumption) | (refine decide_eq_true ?_; omega) | (refine decide_eq_false ?_; omega)); rfl)) ?_
        first | refine XPA.puG rfl rfl zJ ?_ | refine XPA.puOffG rfl rfl ?_
        refine XPA.pu rfl rfl Gd.free zP ?_; refine XPA.pu rfl rfl Gd.free Rd.mv ?_
        first | refine XPA.puG rfl rfl Rd.mv ?_ | refine XPA.puOffG rfl rfl ?_
        first | refine XPA.puG rfl rfl Rd.mv ?_ | refine XPA.puOffG rfl rfl ?_
        first | refine XPA.puG rfl rfl (Rd.ixS rfl rfl) ?_ | refine XPA.puOffG rfl rfl ?_
        first | refine XPA.puG rfl rfl (Rd.fA rfl) ?_ | refine XPA.puOffG rfl rfl ?_
        first | refine XPA.rdG rfl rfl (Rd.ldA rfl) ?_ | refine XPA.offG rfl rfl ?_
        first | refine XPA.puG rfl rfl Rd.mv ?_ | refine XPA.puOffG rfl rfl ?_
        first | refine XPA.puG rfl rfl Rd.mv ?_ | refine XPA.puOffG rfl rfl ?_
        first | refine XPA.puG rfl rfl (Rd.ixS rfl rfl) ?_ | refine XPA.puOffG rfl rfl ?_
        first | refine XPA.puG rfl rfl (Rd.fA rfl) ?_ | refine XPA.puOffG rfl rfl ?_
        first | refine XPA.rdG rfl rfl (Rd.ldA rfl) ?_ | refine XPA.offG rfl rfl ?_
        first | refine XPA.off rfl rfl (by first | exact Gd.isB rfl rfl rfl | exact Gd.un rfl rfl | (apply Gd.isQ; rfl; rfl; exact (by first | exact (rfl : decide _ = true) | exact (rfl : decide _ = false) | (refine decide_eq_true ?_; assumption) | (refine decide_eq_false ?_; assumption) | (refine decide_eq_true ?_; omega) | (refine decide_eq_false ?_; omega)); rfl)) ?_ | refine XPA.puOff rfl rfl (by first | exact Gd.isB rfl rfl rfl | exact Gd.un rfl rfl | (apply Gd.isQ; rfl; rfl; exact (by first | exact (rfl : decide _ = true) | exact (rfl : decide _ = false) | (refine decide_eq_true ?_; assumption) | (refine decide_eq_false ?_; assumption) | (refine decide_eq_true ?_; omega) | (refine decide_eq_false ?_; omega)); rfl)) ?_ | refine XPA.offW rfl rfl (by first | exact Gd.isB rfl rfl rfl | exact Gd.un rfl rfl | (apply Gd.isQ; rfl; rfl; exact (by first | exact (rfl : decide _ = true) | exact (rfl : decide _ = false) | (refine decide_eq_true ?_; assumption) | (refine decide_eq_false ?_; assumption) | (refine decide_eq_true ?_; omega) | (refine decide_eq_false ?_; omega)); rfl)) ?_
        first | refine XPA.puG rfl rfl zJ ?_ | refine XPA.puOffG rfl rfl ?_
        refine XPA.pu rfl rfl Gd.free zP ?_; refine XPA.pu rfl rfl Gd.free Rd.mv ?_
        first | refine XPA.puG rfl rfl Rd.mv ?_ | refine XPA.puOffG rfl rfl ?_
        first | refine XPA.puG rfl rfl Rd.mv ?_ | refine XPA.puOffG rfl rfl ?_
        first | refine XPA.puG rfl rfl (Rd.ixS rfl rfl) ?_ | refine XPA.puOffG rfl rfl ?_
        first | refine XPA.puG rfl rfl (Rd.fA rfl) ?_ | refine XPA.puOffG rfl rfl ?_
        first | refine XPA.rdG rfl rfl (Rd.ldC rfl (tyrow rfl) rfl) ?_ | refine XPA.offG rfl rfl ?_
        first | refine XPA.puG rfl rfl Rd.mv ?_ | refine XPA.puOffG rfl rfl ?_
        first | refine XPA.puG rfl rfl Rd.mv ?_ | refine XPA.puOffG rfl rfl ?_
        first | refine XPA.puG rfl rfl (Rd.ixS rfl rfl) ?_ | refine XPA.puOffG rfl rfl ?_
        first | refine XPA.puG rfl rfl (Rd.fA rfl) ?_ | refine XPA.puOffG rfl rfl ?_
        first | refine XPA.rdG rfl rfl (Rd.ldC rfl (tyrow rfl) rfl) ?_ | refine XPA.offG rfl rfl ?_
        first | refine XPA.off rfl rfl (by first | exact Gd.isB rfl rfl rfl | exact Gd.un rfl rfl | (apply Gd.isQ; rfl; rfl; exact (by first | exact (rfl : decide _ = true) | exact (rfl : decide _ = false) | (refine decide_eq_true ?_; assumption) | (refine decide_eq_false ?_; assumption) | (refine decide_eq_true ?_; omega) | (refine decide_eq_false ?_; omega)); rfl)) ?_ | refine XPA.puOff rfl rfl (by first | exact Gd.isB rfl rfl rfl | exact Gd.un rfl rfl | (apply Gd.isQ; rfl; rfl; exact (by first | exact (rfl : decide _ = true) | exact (rfl : decide _ = false) | (refine decide_eq_true ?_; assumption) | (refine decide_eq_false ?_; assumption) | (refine decide_eq_true ?_; omega) | (refine decide_eq_false ?_; omega)); rfl)) ?_ | refine XPA.offW rfl rfl (by first | exact Gd.isB rfl rfl rfl | exact Gd.un rfl rfl | (apply Gd.isQ; rfl; rfl; exact (by first | exact (rfl : decide _ = true) | exact (rfl : decide _ = false) | (refine decide_eq_true ?_; assumption) | (refine decide_eq_false ?_; assumption) | (refine decide_eq_true ?_; omega) | (refine decide_eq_false ?_; omega)); rfl)) ?_
        first | refine XPA.puG rfl rfl zJ ?_ | refine XPA.puOffG rfl rfl ?_
        refine XPA.pu rfl rfl Gd.free zP ?_; refine XPA.pu rfl rfl Gd.free Rd.mv ?_
        first | refine XPA.puG rfl rfl Rd.mv ?_ | refine XPA.puOffG rfl rfl ?_
        first | refine XPA.puG rfl rfl Rd.mv ?_ | refine XPA.puOffG rfl rfl ?_
        first | refine XPA.puG rfl rfl (Rd.ixS rfl rfl) ?_ | refine XPA.puOffG rfl rfl ?_
        first | refine XPA.puG rfl rfl (Rd.fA rfl) ?_ | refine XPA.puOffG rfl rfl ?_
        first | refine XPA.rdG rfl rfl (Rd.ldC rfl (tyrow rfl) rfl) ?_ | refine XPA.offG rfl rfl ?_
        first | refine XPA.puG rfl rfl Rd.mv ?_ | refine XPA.puOffG rfl rfl ?_
        first | refine XPA.puG rfl rfl Rd.mv ?_ | refine XPA.puOffG rfl rfl ?_
        first | refine XPA.puG rfl rfl (Rd.ixS rfl rfl) ?_ | refine XPA.puOffG rfl rfl ?_
        first | refine XPA.puG rfl rfl (Rd.fA rfl) ?_ | refine XPA.puOffG rfl rfl ?_
        first | refine XPA.rdG rfl rfl (Rd.ldC rfl (tyrow rfl) rfl) ?_ | refine XPA.offG rfl rfl ?_
        first | refine XPA.off rfl rfl (by first | exact Gd.isB rfl rfl rfl | exact Gd.un rfl rfl | (apply Gd.isQ; rfl; rfl; exact (by first | exact (rfl : decide _ = true) | exact (rfl : decide _ = false) | (refine decide_eq_true ?_; assumption) | (refine decide_eq_false ?_; assumption) | (refine decide_eq_true ?_; omega) | (refine decide_eq_false ?_; omega)); rfl)) ?_ | refine XPA.puOff rfl rfl (by first | exact Gd.isB rfl rfl rfl | exact Gd.un rfl rfl | (apply Gd.isQ; rfl; rfl; exact (by first | exact (rfl : decide _ = true) | exact (rfl : decide _ = false) | (refine decide_eq_true ?_; assumption) | (refine decide_eq_false ?_; assumption) | (refine decide_eq_true ?_; omega) | (refine decide_eq_false ?_; omega)); rfl)) ?_ | refine XPA.offW rfl rfl (by first | exact Gd.isB rfl rfl rfl | exact Gd.un rfl rfl | (apply Gd.isQ; rfl; rfl; exact (by first | exact (rfl : decide _ = true) | exact (rfl : decide _ = false) | (refine decide_eq_true ?_; assumption) | (refine decide_eq_false ?_; assumption) | (refine decide_eq_true ?_; omega) | (refine decide_eq_false ?_; omega)); rfl)) ?_
        first | refine XPA.puG rfl rfl zJ ?_ | refine XPA.puOffG rfl rfl ?_
        refine XPA.pu rfl rfl Gd.free zP ?_; refine XPA.nil ?_; refine zT (XA.condT rfl zY ?_); refine zS (zR (zO rfl Rd.asg ?_)); refine zN (zT (XA.ret (DA.inb_ret (DA.thn_ret (DA.thn_ret (DA.inb_ret (DA.thn_ret ?_)))))))
        exact bodyA.ret (ResA.one rfl rfl) (Ent.nil _) ⟨false, rfl, ⟨fun h => (by cases h), fun h => absurd h hn⟩, rfl, rfl⟩
    · have hn := hout (fun h => h1 (by injection h))
      refine XA.draw (by kernel_rfl) _ _ [] [(0, .pu), (1, .pu), (2, .pu), (3, .pu), (4, .rd), (5, .pu), (6, .pu), (7, .pu), (8, .pu), (9, .rd), (10, .pu), (11, .pu), (12, .pu), (13, .pu), (14, .pu), (15, .pu), (16, .rd), (17, .pu), (18, .pu), (19, .pu), (20, .pu), (21, .rd), (22, .pu), (23, .pu), (24, .pu), (25, .pu), (26, .pu), (27, .pu), (28, .pu), (29, .rd), (30, .pu), (31, .pu), (32, .pu), (33, .pu), (34, .rd), (35, .wr), (36, .pu), (37, .pu), (38, .pu), (39, .pu), (40, .pu), (41, .pu), (42, .pu), (43, .rd), (44, .pu), (45, .pu), (46, .pu), (47, .pu), (48, .rd), (49, .wr), (50, .pu), (51, .pu), (52, .pu), (53, .pu), (54, .pu), (55, .pu), (56, .pu), (57, .rd), (58, .pu), (59, .pu), (60, .pu), (61, .pu), (62, .rd), (63, .wr), (64, .pu), (65, .pu), (66, .pu), (67, .pu), (68, .pu), (69, .pu), (70, .pu), (71, .rd), (72, .pu), (73, .pu), (74, .pu), (75, .pu), (76, .rd), (77, .wr), (78, .pu), (79, .pu)] (by kernel_rfl) (PH.sub.refl _) (Ent.nil _) ?_
      refine XPA.pu rfl rfl Gd.free Rd.mv ?_; refine XPA.pu rfl rfl Gd.free Rd.mv ?_; refine XPA.pu rfl rfl Gd.free (Rd.ixS rfl rfl) ?_; refine XPA.pu rfl rfl Gd.free (Rd.fA rfl) ?_; refine XPA.rd rfl rfl Gd.free (Rd.ldC rfl (tyrow rfl) rfl) ?_; refine XPA.pu rfl rfl Gd.free Rd.mv ?_
      refine XPA.pu rfl rfl Gd.free Rd.mv ?_; refine XPA.pu rfl rfl Gd.free (Rd.ixS rfl rfl) ?_; refine XPA.pu rfl rfl Gd.free (Rd.fA rfl) ?_; refine XPA.rd rfl rfl Gd.free (Rd.ldC rfl (tyrow rfl) rfl) ?_; refine XPA.pu rfl rfl Gd.free (Rd.neq rfl rfl) ?_; refine XPA.pu rfl rfl Gd.free Rd.mv ?_
      first | refine XPA.puG rfl rfl Rd.mv ?_ | refine XPA.puOffG rfl rfl ?_
      first | refine XPA.puG rfl rfl Rd.mv ?_ | refine XPA.puOffG rfl rfl ?_
      first | refine XPA.puG rfl rfl (Rd.ixS rfl rfl) ?_ | refine XPA.puOffG rfl rfl ?_
      first | refine XPA.puG rfl rfl (Rd.fA rfl) ?_ | refine XPA.puOffG rfl rfl ?_
      first | refine XPA.rdG rfl rfl (Rd.ldC rfl (tyrow rfl) rfl) ?_ | refine XPA.offG rfl rfl ?_
      first | refine XPA.puG rfl rfl Rd.mv ?_ | refine XPA.puOffG rfl rfl ?_
      first | refine XPA.puG rfl rfl Rd.mv ?_ | refine XPA.puOffG rfl rfl ?_
      first | refine XPA.puG rfl rfl (Rd.ixS rfl rfl) ?_ | refine XPA.puOffG rfl rfl ?_
      first | refine XPA.puG rfl rfl (Rd.fA rfl) ?_ | refine XPA.puOffG rfl rfl ?_
      first | refine XPA.rdG rfl rfl (Rd.ldC rfl (tyrow rfl) rfl) ?_ | refine XPA.offG rfl rfl ?_
      first | refine XPA.puG rfl rfl (Rd.neq rfl rfl) ?_ | refine XPA.puOffG rfl rfl ?_
      refine XPA.pu rfl rfl Gd.free zP ?_; refine XPA.pu rfl rfl Gd.free Rd.mv ?_
      first | refine XPA.puG rfl rfl Rd.mv ?_ | refine XPA.puOffG rfl rfl ?_
      first | refine XPA.puG rfl rfl Rd.mv ?_ | refine XPA.puOffG rfl rfl ?_
      first | refine XPA.puG rfl rfl (Rd.ixS rfl rfl) ?_ | refine XPA.puOffG rfl rfl ?_
      first | refine XPA.puG rfl rfl (Rd.fA rfl) ?_ | refine XPA.puOffG rfl rfl ?_
      first | refine XPA.rdG rfl rfl (Rd.ldA rfl) ?_ | refine XPA.offG rfl rfl ?_
      first | refine XPA.puG rfl rfl Rd.mv ?_ | refine XPA.puOffG rfl rfl ?_
      first | refine XPA.puG rfl rfl Rd.mv ?_ | refine XPA.puOffG rfl rfl ?_
      first | refine XPA.puG rfl rfl (Rd.ixS rfl rfl) ?_ | refine XPA.puOffG rfl rfl ?_
      first | refine XPA.puG rfl rfl (Rd.fA rfl) ?_ | refine XPA.puOffG rfl rfl ?_
      first | refine XPA.rdG rfl rfl (Rd.ldA rfl) ?_ | refine XPA.offG rfl rfl ?_
      first | refine XPA.off rfl rfl (by first | exact Gd.isB rfl rfl rfl | exact Gd.un rfl rfl | (apply Gd.isQ; rfl; rfl; exact (by first | exact (rfl : decide _ = true) | exact (rfl : decide _ = false) | (refine decide_eq_true ?_; assumption) | (refine decide_eq_false ?_; assumption) | (refine decide_eq_true ?_; omega) | (refine decide_eq_false ?_; omega)); rfl)) ?_ | refine XPA.puOff rfl rfl (by first | exact Gd.isB rfl rfl rfl | exact Gd.un rfl rfl | (apply Gd.isQ; rfl; rfl; exact (by first | exact (rfl : decide _ = true) | exact (rfl : decide _ = false) | (refine decide_eq_true ?_; assumption) | (refine decide_eq_false ?_; assumption) | (refine decide_eq_true ?_; omega) | (refine decide_eq_false ?_; omega)); rfl)) ?_ | refine XPA.offW rfl rfl (by first | exact Gd.isB rfl rfl rfl | exact Gd.un rfl rfl | (apply Gd.isQ; rfl; rfl; exact (by first | exact (rfl : decide _ = true) | exact (rfl : decide _ = false) | (refine decide_eq_true ?_; assumption) | (refine decide_eq_false ?_; assumption) | (refine decide_eq_true ?_; omega) | (refine decide_eq_false ?_; omega)); rfl)) ?_
      first | refine XPA.puG rfl rfl zJ ?_ | refine XPA.puOffG rfl rfl ?_
      refine XPA.pu rfl rfl Gd.free zP ?_; refine XPA.pu rfl rfl Gd.free Rd.mv ?_
      first | refine XPA.puG rfl rfl Rd.mv ?_ | refine XPA.puOffG rfl rfl ?_
      first | refine XPA.puG rfl rfl Rd.mv ?_ | refine XPA.puOffG rfl rfl ?_
      first | refine XPA.puG rfl rfl (Rd.ixS rfl rfl) ?_ | refine XPA.puOffG rfl rfl ?_
      first | refine XPA.puG rfl rfl (Rd.fA rfl) ?_ | refine XPA.puOffG rfl rfl ?_
      first | refine XPA.rdG rfl rfl (Rd.ldA rfl) ?_ | refine XPA.offG rfl rfl ?_
      first | refine XPA.puG rfl rfl Rd.mv ?_ | refine XPA.puOffG rfl rfl ?_
      first | refine XPA.puG rfl rfl Rd.mv ?_ | refine XPA.puOffG rfl rfl ?_
      first | refine XPA.puG rfl rfl (Rd.ixS rfl rfl) ?_ | refine XPA.puOffG rfl rfl ?_
      first | refine XPA.puG rfl rfl (Rd.fA rfl) ?_ | refine XPA.puOffG rfl rfl ?_
      first | refine XPA.rdG rfl rfl (Rd.ldA rfl) ?_ | refine XPA.offG rfl rfl ?_
      first | refine XPA.off rfl rfl (by first | exact Gd.isB rfl rfl rfl | exact Gd.un rfl rfl | (apply Gd.isQ; rfl; rfl; exact (by first | exact (rfl : decide _ = true) | exact (rfl : decide _ = false) | (refine decide_eq_true ?_; assumption) | (refine decide_eq_false ?_; assumption) | (refine decide_eq_true ?_; omega) | (refine decide_eq_false ?_; omega)); rfl)) ?_ | refine XPA.puOff rfl rfl (by first | exact Gd.isB rfl rfl rfl | exact Gd.un rfl rfl | (apply Gd.isQ; rfl; rfl; exact (by first | exact (rfl : decide _ = true) | exact (rfl : decide _ = false) | (refine decide_eq_true ?_; assumption) | (refine decide_eq_false ?_; assumption) | (refine decide_eq_true ?_; omega) | (refine decide_eq_false ?_; omega)); rfl)) ?_ | refine XPA.offW rfl rfl (by first | exact Gd.isB rfl rfl rfl | exact Gd.un rfl rfl | (apply Gd.isQ; rfl; rfl; exact (by first | exact (rfl : decide _ = true) | exact (rfl : decide _ = false) | (refine decide_eq_true ?_; assumption) | (refine decide_eq_false ?_; assumption) | (refine decide_eq_true ?_; omega) | (refine decide_eq_false ?_; omega)); rfl)) ?_
      first | refine XPA.puG rfl rfl zJ ?_ | refine XPA.puOffG rfl rfl ?_
      refine XPA.pu rfl rfl Gd.free zP ?_; refine XPA.pu rfl rfl Gd.free Rd.mv ?_
      first | refine XPA.puG rfl rfl Rd.mv ?_ | refine XPA.puOffG rfl rfl ?_
      first | refine XPA.puG rfl rfl Rd.mv ?_ | refine XPA.puOffG rfl rfl ?_
      first | refine XPA.puG rfl rfl (Rd.ixS rfl rfl) ?_ | refine XPA.puOffG rfl rfl ?_
      first | refine XPA.puG rfl rfl (Rd.fA rfl) ?_ | refine XPA.puOffG rfl rfl ?_
      first | refine XPA.rdG rfl rfl (Rd.ldC rfl (tyrow rfl) rfl) ?_ | refine XPA.offG rfl rfl ?_
      first | refine XPA.puG rfl rfl Rd.mv ?_ | refine XPA.puOffG rfl rfl ?_
      first | refine XPA.puG rfl rfl Rd.mv ?_ | refine XPA.puOffG rfl rfl ?_
      first | refine XPA.puG rfl rfl (Rd.ixS rfl rfl) ?_ | refine XPA.puOffG rfl rfl ?_
      first | refine XPA.puG rfl rfl (Rd.fA rfl) ?_ | refine XPA.puOffG rfl rfl ?_
      first | refine XPA.rdG rfl rfl (Rd.ldC rfl (tyrow rfl) rfl) ?_ | refine XPA.offG rfl rfl ?_
      first | refine XPA.off rfl rfl (by first | exact Gd.isB rfl rfl rfl | exact Gd.un rfl rfl | (apply Gd.isQ; rfl; rfl; exact (by first | exact (rfl : decide _ = true) | exact (rfl : decide _ = false) | (refine decide_eq_true ?_; assumption) | (refine decide_eq_false ?_; assumption) | (refine decide_eq_true ?_; omega) | (refine decide_eq_false ?_; omega)); rfl)) ?_ | refine XPA.puOff rfl rfl (by first | exact Gd.isB rfl rfl rfl | exact Gd.un rfl rfl | (apply Gd.isQ; rfl; rfl; exact (by first | exact (rfl : decide _ = true) | exact (rfl : decide _ = false) | (refine decide_eq_true ?_; assumption) | (refine decide_eq_false ?_; assumption) | (refine decide_eq_true ?_; omega) | (refine decide_eq_false ?_; omega)); rfl)) ?_ | refine XPA.offW rfl rfl (by first | exact Gd.isB rfl rfl rfl | exact Gd.un rfl rfl | (apply Gd.isQ; rfl; rfl; exact (by first | exact (rfl : decide _ = true) | exact (rfl : decide _ = false) | (refine decide_eq_true ?_; assumption) | (refine decide_eq_false ?_; assumption) | (refine decide_eq_true ?_; omega) | (refine decide_eq_false ?_; omega)); rfl)) ?_
      first | refine XPA.puG rfl rfl zJ ?_ | refine XPA.puOffG rfl rfl ?_
      refine XPA.pu rfl rfl Gd.free zP ?_; refine XPA.pu rfl rfl Gd.free Rd.mv ?_
      first | refine XPA.puG rfl rfl Rd.mv ?_ | refine XPA.puOffG rfl rfl ?_
      first | refine XPA.puG rfl rfl Rd.mv ?_ | refine XPA.puOffG rfl rfl ?_
      first | refine XPA.puG rfl rfl (Rd.ixS rfl rfl) ?_ | refine XPA.puOffG rfl rfl ?_
      first | refine XPA.puG rfl rfl (Rd.fA rfl) ?_ | refine XPA.puOffG rfl rfl ?_
      first | refine XPA.rdG rfl rfl (Rd.ldC rfl (tyrow rfl) rfl) ?_ | refine XPA.offG rfl rfl ?_
      first | refine XPA.puG rfl rfl Rd.mv ?_ | refine XPA.puOffG rfl rfl ?_
      first | refine XPA.puG rfl rfl Rd.mv ?_ | refine XPA.puOffG rfl rfl ?_
      first | refine XPA.puG rfl rfl (Rd.ixS rfl rfl) ?_ | refine XPA.puOffG rfl rfl ?_
      first | refine XPA.puG rfl rfl (Rd.fA rfl) ?_ | refine XPA.puOffG rfl rfl ?_
      first | refine XPA.rdG rfl rfl (Rd.ldC rfl (tyrow rfl) rfl) ?_ | refine XPA.offG rfl rfl ?_
      first | refine XPA.off rfl rfl (by first | exact Gd.isB rfl rfl rfl | exact Gd.un rfl rfl | (apply Gd.isQ; rfl; rfl; exact (by first | exact (rfl : decide _ = true) | exact (rfl : decide _ = false) | (refine decide_eq_true ?_; assumption) | (refine decide_eq_false ?_; assumption) | (refine decide_eq_true ?_; omega) | (refine decide_eq_false ?_; omega)); rfl)) ?_ | refine XPA.puOff rfl rfl (by first | exact Gd.isB rfl rfl rfl | exact Gd.un rfl rfl | (apply Gd.isQ; rfl; rfl; exact (by first | exact (rfl : decide _ = true) | exact (rfl : decide _ = false) | (refine decide_eq_true ?_; assumption) | (refine decide_eq_false ?_; assumption) | (refine decide_eq_true ?_; omega) | (refine decide_eq_false ?_; omega)); rfl)) ?_ | refine XPA.offW rfl rfl (by first | exact Gd.isB rfl rfl rfl | exact Gd.un rfl rfl | (apply Gd.isQ; rfl; rfl; exact (by first | exact (rfl : decide _ = true) | exact (rfl : decide _ = false) | (refine decide_eq_true ?_; assumption) | (refine decide_eq_false ?_; assumption) | (refine decide_eq_true ?_; omega) | (refine decide_eq_false ?_; omega)); rfl)) ?_
      first | refine XPA.puG rfl rfl zJ ?_ | refine XPA.puOffG rfl rfl ?_
      refine XPA.pu rfl rfl Gd.free zP ?_; refine XPA.nil ?_; refine zT (XA.condT rfl zY ?_); refine zS (zR (zO rfl Rd.asg ?_)); refine zN (zT (XA.ret (DA.inb_ret (DA.thn_ret (DA.thn_ret (DA.inb_ret (DA.thn_ret ?_)))))))
      exact bodyA.ret (ResA.one rfl rfl) (Ent.nil _) ⟨false, rfl, ⟨fun h => (by cases h), fun h => absurd h hn⟩, rfl, rfl⟩
  have hkn : k = l.length := by omega
  subst hkn
  rw [List.take_length, hlm, List.take_length] at htk
  refine XA.exit (DA.thn_exit (DA.thn_exit (DA.inb_same (zT (zS (zR (zO rfl Rd.asg ?_))))))); refine zN (zT (XA.ret ?_))
  exact bodyA.ret (ResA.one rfl rfl) (Ent.nil _) ⟨true, rfl, ⟨fun _ => htk, fun _ => rfl⟩, rfl, rfl⟩
theorem rsl_x (σ : PH) (x : St) : RSameListOK σ x.body ∧ RSameListOK σ x.els := by
  refine St.ind (P := fun x => RSameListOK σ x.body ∧ RSameListOK σ x.els) ?_ x
  intro op v e f body els ih jh
  exact ⟨rsameList_l σ body ih, rsameList_l σ els jh⟩
theorem rsameList_a (σ : PH) (l : List St) : RSameListOK σ l := rsameList_l σ l (fun x _ => rsl_x σ x)
theorem rsame_a (σ : PH) (cs cs' : List Value) (p q : Pr) (hp : PrAt σ cs p) (hq : PrAt σ cs' q) :
    CallsA Tryd.prog 15 #[.agg cs.toArray, .agg cs'.toArray] σ [] (RetA fun v σ' Γ' => ∃ b : Bool, v = .bool b ∧ (b = true ↔ p = q) ∧ σ = σ' ∧ Γ' = []) := by
  obtain ⟨vs, bs, rfl, hv, hb⟩ := hp
  obtain ⟨vs', bs', rfl, hv', hb'⟩ := hq
  obtain ⟨l, pb⟩ := p
  obtain ⟨m, qb⟩ := q
  simp only at hv hb hv' hb'
  obtain ⟨pl, cl, rfl, hle, hmx⟩ := hv.shape
  obtain ⟨pm, cm, rfl, hle2, hmx2⟩ := hv'.shape
  have hlen : l.length ≤ maxLen := by omega
  simp only [maxLen] at hlen
  have hno : ∀ (q : Prop), (Pr.mk l pb = Pr.mk m qb → q) → ¬ q → (false = true ↔ Pr.mk l pb = Pr.mk m qb) := fun q h1 h2 => ⟨fun h => (by cases h), fun h => absurd (h1 h) h2⟩
  by_cases hlm : l.length = m.length
  · 
    refine enterA2 Tryd.func15 rfl rfl rfl ?_
    refine zS (zR ?_)
    refine XOA.wr0 rfl WrA.bx ?_
    rintro _ _ _ ⟨g2, rfl, rfl, rfl⟩
    refine XOA.wr0 rfl WrA.bx ?_
    rintro _ _ _ ⟨g3, rfl, rfl, rfl⟩
    refine zO rfl Rd.asg ?_; refine zN (zT (zS (zS (zR (zV rfl rfl ?_))))); refine zB rfl rfl (tyrow rfl) rfl ?_; refine zO rfl (Rd.lenSlice (tyrow rfl) rfl rfl) ?_; refine zV rfl rfl ?_; refine zB rfl rfl (tyrow rfl) rfl ?_; refine zO rfl (Rd.lenSlice (tyrow rfl) rfl rfl) ?_
    refine zO rfl (Rd.neq rfl rfl) ?_; refine zA rfl ?_
    first | (refine zG ?_; refine zV rfl rfl ?_) | refine zH ?_
    first | (refine zG ?_; refine zB rfl rfl (tyrow rfl) rfl ?_) | refine zH ?_
    first | (refine zG ?_; refine zV rfl rfl ?_) | refine zH ?_
    first | (refine zG ?_; refine zB rfl rfl (tyrow rfl) rfl ?_) | refine zH ?_
    first | refine XOA.wanted rfl rfl ?_ | refine XOA.wq rfl rfl ?_
    refine XOA.wr0 rfl (WrA.cE (rsameList_a σ pb _ _ qb hb hb') rfl) ?_
    rintro _ _ _ ⟨_, ⟨b1, rfl, hb1, rfl, rfl⟩, rfl⟩
    refine XOA.cl ?_
    cases b1 with
    | false =>
      first | (refine zG ?_; refine zO rfl zJ ?_) | refine zH ?_
      refine zO rfl zP ?_; refine zN (zT (XA.condT rfl rfl (zS (zR (zO rfl Rd.asg ?_))))); refine zN (zT (XA.ret (DA.thn_ret ?_)))
      exact bodyA.ret (ResA.one rfl rfl) (Ent.nil _) ⟨false, rfl, hno (pb = qb) (fun h => by injection h) (fun h => absurd (hb1.2 h) (by decide)), rfl, rfl⟩
    | true =>
      first | (refine zG ?_; refine zO rfl zJ ?_) | refine zH ?_
      refine zO rfl zP ?_; refine zN (zT (XA.condF rfl rfl (XA.skip (zT (zS (zS (zR (zO rfl Rd.asg ?_)))))))); refine zN (zT (XA.block ?_))
      refine XA.gen [(2, _), (3, _), (4, _), (5, _)] ⟨(by with_reducible (conv => lhs; whnf)), (by with_reducible (conv => lhs; whnf)), (by with_reducible (conv => lhs; whnf)), (by with_reducible (conv => lhs; whnf)), trivial⟩ (fun δ => ?_)
      dsimp only [List.foldl]
      refine XA.loop [(4, 5), (21, 38)] (fun k : Nat => [(5, i64 k)]) (fun k σ' Γ' => σ = σ' ∧ k ≤ l.length ∧ l.take k = m.take k ∧ Γ' = [blk g2 [.slice pl l.length cl, bs] 25, blk g3 [.slice pm m.length cm, bs'] 25]) (fun k => l.length - k) 0 (by exact ⟨rfl, trivial⟩) (Δ0 := _) ?_ (⟨rfl, Nat.zero_le _, rfl, rfl⟩) ?_
      · exact zE
      rintro k δ _ _ ⟨rfl, hk, htk, rfl⟩
      dsimp only [ovr, List.foldl]
      refine zS (zS (zR (zA rfl ?_))); refine zV rfl rfl ?_; refine zB rfl rfl (tyrow rfl) rfl ?_; refine zO rfl (Rd.lenSlice (tyrow rfl) rfl rfl) ?_; refine zO rfl (Rd.lss rfl rfl) ?_; refine zN (zT ?_)
      refine XA.condp rfl (fun hlt => ?_) (fun hlt => ?_)
      · have hlt : k < l.length := by omega
        obtain ⟨x, hx⟩ : ∃ x, l[k]? = some x := ⟨_, List.getElem?_eq_getElem hlt⟩
        obtain ⟨y, hy⟩ : ∃ y, m[k]? = some y := ⟨_, List.getElem?_eq_getElem (by omega)⟩
        obtain ⟨g, o, row, rfl, ⟨rfl, -⟩, hrl, hrow⟩ := hv.at hx
        obtain ⟨g', o', row', rfl, ⟨rfl, -⟩, hrl', hrow'⟩ := hv'.at hy
        refine XA.skip (zT (zS (XA.block (zS ?_))))
        refine XA.draw (by kernel_rfl) _ _ [] [(0, .pu), (1, .rd), (2, .pu), (3, .pu), (4, .rd), (5, .pu), (6, .rd), (7, .pu), (8, .pu), (9, .rd), (10, .pu)] (by kernel_rfl) (PH.sub.refl _) (Ent.sel (R := blk g2 _ _) zL (Ent.sel (R := blk g3 _ _) zL (Ent.nil _))) ?_
        refine XPA.pu rfl rfl Gd.free (Rd.fA rfl) ?_; refine XPA.rd rfl rfl Gd.free (Rd.ldC rfl (tyrow rfl) rfl) ?_; refine XPA.pu rfl rfl Gd.free Rd.mv ?_; refine XPA.pu rfl rfl Gd.free (Rd.ixS rfl rfl) ?_; refine XPA.rd rfl rfl Gd.free (Rd.ldA rfl) ?_; refine XPA.pu rfl rfl Gd.free (Rd.fA rfl) ?_
        refine XPA.rd rfl rfl Gd.free (Rd.ldC rfl (tyrow rfl) rfl) ?_; refine XPA.pu rfl rfl Gd.free Rd.mv ?_; refine XPA.pu rfl rfl Gd.free (Rd.ixS rfl rfl) ?_; refine XPA.rd rfl rfl Gd.free (Rd.ldA rfl) ?_; refine XPA.pu rfl rfl Gd.free (Rd.neqVar (a := x) (b := y) rfl rfl) ?_; refine XPA.nil ?_
        refine zT ?_
        refine XA.condp rfl (fun hxy => ?_) (fun hxy => ?_)
        · refine zS ?_
          refine zR (zO rfl Rd.asg ?_); refine zN (zT (XA.ret (DA.inb_ret (DA.thn_ret (DA.thn_ret (DA.inb_ret (DA.thn_ret ?_)))))))
          refine bodyA.ret (ResA.one rfl rfl) (Ent.nil _) ⟨false, rfl, hno (l = m) (fun h => by injection h) (fun h => ?_), rfl, rfl⟩
          subst h
          rw [hx] at hy; simp only [Option.some.injEq] at hy
          exact absurd hy hxy
        have hxy : x = y := Decidable.not_not.1 hxy
        refine XA.skip (DA.inb_normal (zT (zR (zA rfl ?_)))); refine zO rfl zI ?_; refine zO rfl Rd.asg ?_; refine zN (zT ?_)
        refine ⟨(Keep.upd (Keep.upd (Keep.upd (Keep.upd (Keep.upd (Keep.upd (Keep.upd (Keep.upd (Keep.upd (Keep.upd (Keep.upd (Keep.upd (Keep.upd (Keep.upd (Keep.upd (Keep.upd (Keep.upd (Keep.upd (Keep.upd (Keep.upd (Keep.hav (Keep.hav (Keep.refl _ _) rfl) rfl) rfl) rfl) rfl) rfl) rfl) rfl) rfl) rfl) rfl) rfl) rfl) rfl) rfl) rfl) rfl) rfl) rfl) rfl) rfl) rfl), k + 1, _, zM, ?_, ⟨rfl, hlt, take_eq_succ hx hy htk hxy, rfl⟩, (by omega)⟩
        · exact zE
      have hkn : k = l.length := by omega
      subst hkn
      rw [List.take_length, hlm, List.take_length] at htk
      refine XA.exit (DA.thn_exit (DA.thn_exit (DA.inb_same (zT (zS (zR (zO rfl Rd.asg ?_))))))); refine zN (zT (XA.ret ?_))
      exact bodyA.ret (ResA.one rfl rfl) (Ent.nil _) ⟨true, rfl, ⟨fun _ => by rw [htk, hb1.1 rfl], fun _ => rfl⟩, rfl, rfl⟩
  · 
    refine enterA2 Tryd.func15 rfl rfl rfl ?_
    refine zS (zR ?_)
    refine XOA.wr0 rfl WrA.bx ?_
    rintro _ _ _ ⟨g2, rfl, rfl, rfl⟩
    refine XOA.wr0 rfl WrA.bx ?_
    rintro _ _ _ ⟨g3, rfl, rfl, rfl⟩
    refine zO rfl Rd.asg ?_; refine zN (zT (zS (zS (zR (zV rfl rfl ?_))))); refine zB rfl rfl (tyrow rfl) rfl ?_; refine zO rfl (Rd.lenSlice (tyrow rfl) rfl rfl) ?_; refine zV rfl rfl ?_; refine zB rfl rfl (tyrow rfl) rfl ?_; refine zO rfl (Rd.lenSlice (tyrow rfl) rfl rfl) ?_
    refine zO rfl (Rd.neq rfl rfl) ?_; refine zA rfl ?_
    first | (refine zG ?_; refine zV rfl rfl ?_) | refine zH ?_
    first | (refine zG ?_; refine zB rfl rfl (tyrow rfl) rfl ?_) | refine zH ?_
    first | (refine zG ?_; refine zV rfl rfl ?_) | refine zH ?_
    first | (refine zG ?_; refine zB rfl rfl (tyrow rfl) rfl ?_) | refine zH ?_
    first | refine zH ?_
    first | (refine zG ?_; refine zO rfl zJ ?_) | refine zH ?_
    refine zO rfl zP ?_; refine zN (zT (XA.condT rfl zY ?_)); refine zS (zR (zO rfl Rd.asg ?_)); refine zN (zT (XA.ret (DA.thn_ret ?_)))
    exact bodyA.ret (ResA.one rfl rfl) (Ent.nil _) ⟨false, rfl, hno (l = m) (fun h => by injection h) (fun h => hlm (by rw [h])), rfl, rfl⟩
end Go.Proofs.YthefnnkmpcgcmaaDoor

namespace Go.Proofs.YthefnnkmpcgcmaaDoor
open Go X
set_option maxHeartbeats 2000000
end Go.Proofs.YthefnnkmpcgcmaaDoor

namespace Go.Proofs.YthefnnkmpcgcmaaDoor
open Go X
set_option maxHeartbeats 4000000
def plit : ByteArray := ⟨#[108, 101, 116, 32, 97, 32, 50, 32, 40, 119, 104, 105, 108, 101, 32, 40, 108, 101, 115, 115, 32, 40, 118, 97, 114, 32, 97, 41, 32, 40, 110, 117, 109, 32, 51, 41, 41, 32, 40, 40, 115, 101, 116, 32, 97, 32, 40, 97, 100, 100, 32, 40, 118, 97, 114, 32, 97, 41, 32, 40, 110, 117, 109, 32, 49, 41, 41, 41, 41, 41]⟩
def pr0 : Pr := ⟨[⟨⟨#[97]⟩, 2⟩], [.mk 5 0 (.mk 7 0 0 [.mk 2 0 0 [], .mk 1 0 3 []]) zeroX [.mk 1 0 (.mk 4 0 0 [.mk 2 0 0 [], .mk 1 0 1 []]) zeroX [] []] []]⟩
theorem parse_lit : parseP plit = .ok pr0 := by kernel_rfl
theorem plit_t (σ : PH) (hT : Tab σ) (hE : Errs σ) : CallsA Tryd.prog 20 #[.string plit] σ [] (RetA fun v σ' Γ' => ∃ pv cv g o cb pb db, v = .tuple #[.agg #[.slice pv 1 cv, .slice (some ⟨g, o, none⟩) 1 cb], .agg #[i64 0, i64 0]] ∧ PRow σ' g (o + 2) [i64 7] ∧ PRow σ' g (o + 10) [.slice pb 1 db] ∧ σ.sub σ' ∧ Γ' = []) := by
  refine (parse_p σ plit (by decide) hT hE).mono fun e σ' Γ' h => ?_
  cases e with
  | returned v =>
    obtain ⟨cs, rfl, hp, hs, rfl⟩ := h
    rw [parse_lit] at hp
    obtain ⟨vs, bs, rfl, hv, hb⟩ := hp
    obtain ⟨pv, cv, rfl, -, -⟩ := hv.shape
    obtain ⟨pb, cb, rfl, -, -⟩ := hb.shape
    obtain ⟨g, o, row, rfl, hr, -, hrow⟩ := hb.at (k := 0) rfl
    obtain ⟨pe, de, pf, df, p, c, q, d, rfl, -⟩ := hr.inv12
    rw [Nat.zero_mul, Nat.add_zero] at hrow
    refine ⟨pv, cv, g, o, cb, p, c, by rw [parse_lit]; rfl, hrow.sub (j := 2) rfl, hrow.sub (j := 10) rfl, hs, rfl⟩
  | _ => exact False.elim h
theorem pbegun_a (σ : PH) (hT : Tab σ) (hE : Errs σ) : CallsA Tryd.prog 19 #[] σ [] (RetA fun v σ' Γ' => v = .bool true ∧ σ.sub σ' ∧ Γ' = []) := by
  refine enterA0 Tryd.func19 rfl rfl rfl ?_
  refine zS (zR (zO rfl Rd.asg ?_)); refine zN (zT (zS (zR ?_)))
  refine XOA.wr0 rfl (WrA.cE (plit_t σ hT hE) rfl) ?_
  rintro _ σ1 _ ⟨_, ⟨pv, cv, g, o, cb, pb, db, rfl, h1, h2, hs1, rfl⟩, rfl⟩
  refine XOA.cl ?_; refine zA rfl ?_; refine zO rfl (Rd.extract rfl rfl) ?_; refine zO rfl (Rd.extract rfl rfl) ?_
  refine XOA.wr0 rfl (WrA.alloc (tyrow rfl)) ?_
  rintro _ _ _ ⟨g1, rfl, rfl, rfl⟩
  refine XOA.wr0 rfl (WrA.alloc (tyrow rfl)) ?_
  rintro _ _ _ ⟨g2, rfl, rfl, rfl⟩
  refine XOA.wr0 rfl (WrA.st (tyrow rfl) rfl) ?_
  rintro _ _ _ ⟨rfl, rfl, rfl⟩
  refine XOA.wr0 rfl (WrA.st (tyrow rfl) rfl) ?_
  rintro _ _ _ ⟨rfl, rfl, rfl⟩
  refine zN (zT (zS (zR (zV rfl rfl ?_)))); refine zB rfl rfl (tyrow rfl) rfl ?_; refine zO rfl (Rd.eql rfl rfl) ?_; refine zA rfl ?_
  first | (refine zG ?_; refine zV rfl rfl ?_) | refine zH ?_
  first | (refine zG ?_; refine zB rfl rfl (tyrow rfl) rfl ?_) | refine zH ?_
  first | (refine zG ?_; refine zO rfl (Rd.lenSlice (tyrow rfl) rfl rfl) ?_) | refine zH ?_
  first | (refine zG ?_; refine zO rfl (Rd.eql rfl rfl) ?_) | refine zH ?_
  refine zO rfl zP ?_; refine zA rfl ?_
  first | (refine zG ?_; refine zV rfl rfl ?_) | refine zH ?_
  first | (refine zG ?_; refine zB rfl rfl (tyrow rfl) rfl ?_) | refine zH ?_
  first | (refine zG ?_; refine zO rfl (Rd.lenSlice (tyrow rfl) rfl rfl) ?_) | refine zH ?_
  first | (refine zG ?_; refine zO rfl (Rd.eql rfl rfl) ?_) | refine zH ?_
  refine zO rfl zP ?_; refine zA rfl ?_
  first | (refine zG ?_; refine zV rfl rfl ?_) | refine zH ?_
  first | (refine zG ?_; refine zB rfl rfl (tyrow rfl) rfl ?_) | refine zH ?_
  first | (refine zG ?_; refine zO rfl (Rd.ixS rfl rfl) ?_) | refine zH ?_
  first | (refine zG ?_; refine zV rfl rfl ?_) | refine zH ?_
  first | (refine zG ?_; refine zB rfl rfl (tyrow rfl) rfl ?_) | refine zH ?_
  first | (refine zG ?_; refine zO rfl (Rd.lenSlice (tyrow rfl) rfl rfl) ?_) | refine zH ?_
  first | (refine zG ?_; refine zO rfl (Rd.eql rfl rfl) ?_) | refine zH ?_
  refine zO rfl zP ?_; refine zA rfl ?_
  first | (refine zG ?_; refine zV rfl rfl ?_) | refine zH ?_
  first | (refine zG ?_; refine zB rfl rfl (tyrow rfl) rfl ?_) | refine zH ?_
  first | (refine zG ?_; refine zO rfl (Rd.ixS rfl rfl) ?_) | refine zH ?_
  first | (refine zG ?_; refine zV rfl rfl ?_) | refine zH ?_
  first | (refine zG ?_; refine zV rfl rfl ?_) | refine zH ?_
  first | (refine zG ?_; refine zB rfl rfl (tyrow rfl) rfl ?_) | refine zH ?_
  first | (refine zG ?_; refine zO rfl (Rd.eql rfl rfl) ?_) | refine zH ?_
  refine zO rfl zP ?_; refine zA rfl ?_
  first | refine XOA.wanted rfl rfl ?_ | refine XOA.wq rfl rfl ?_
  refine XOA.wr0 rfl (WrA.cE (word_p σ1 8) rfl) ?_
  rintro _ _ _ ⟨_, ⟨rfl, rfl, rfl⟩, rfl⟩
  refine XOA.cl ?_
  first | (refine zG ?_; refine zO rfl (Rd.eqls rfl rfl) ?_) | refine zH ?_
  refine zO rfl zP ?_; refine zA rfl ?_
  first | refine XOA.wanted rfl rfl ?_ | refine XOA.wq rfl rfl ?_
  refine XOA.wr0 rfl (WrA.cE (verb_p σ1 0) rfl) ?_
  rintro _ _ _ ⟨_, ⟨rfl, rfl, rfl⟩, rfl⟩
  refine XOA.cl ?_
  first | (refine zG ?_; refine zO rfl (Rd.eqls rfl rfl) ?_) | refine zH ?_
  refine zO rfl zP ?_; refine zO rfl Rd.asg ?_; refine zN (zT (XA.ret ?_))
  exact bodyA.ret (ResA.one rfl rfl) (Ent.nil _) ⟨rfl, hs1, rfl⟩
end Go.Proofs.YthefnnkmpcgcmaaDoor

namespace Go.Proofs.YthefnnkmpcgcmaaDoor
open Go X
def NZ {α : Type} (a : PR α) : Prop := ∀ x, a = .error x → x.1 ≠ 0
theorem failAt_nz {e : Int} {l : List Tk} {c : Int} (h : c ≠ 0) : (failAt e l c).1 ≠ 0 := by
  cases l with
  | nil =>
    rw [failAt]
    by_cases q : c = 5
    · rw [if_pos q]; show (6 : Int) ≠ 0; decide
    · rw [if_neg q]; exact h
  | cons t r => exact h
theorem NZ.fail {α : Type} {e : Int} {l : List Tk} {c : Int} (h : c ≠ 0) : NZ (.error (failAt e l c) : PR α) := fun x q => by cases q; exact failAt_nz h
theorem NZ.ok {α : Type} {y : α × List Tk} : NZ (.ok y : PR α) := fun x q => by cases q
theorem bindP_nz {α β : Type} {a : PR α} {k : α → List Tk → PR β} (h : NZ a) (hk : ∀ x r, a = .ok (x, r) → NZ (k x r)) : NZ (bindP a k) := by
  cases a with
  | error x => exact fun y q => by cases q; exact h x rfl
  | ok y => obtain ⟨x, r⟩ := y; exact hk x r rfl
theorem numP_nz {e : Int} {l : List Tk} : NZ (numP e l) := fun x h => by rw [(numP_err h).1]; exact failAt_nz (by decide)
theorem nameP_nz {e : Int} {l : List Tk} : NZ (nameP e l) := fun x h => by rw [(nameP_err h).1]; exact failAt_nz (by decide)
theorem varP_nz {vl : List Va} {e : Int} {l : List Tk} : NZ (varP vl e l) := fun x h => by
  rcases varP_err h with ⟨rfl, -⟩ | ⟨t, r, -, rfl, -⟩
  · exact failAt_nz (by decide)
  · exact failAt_nz (by decide)
theorem headP_nz {vl : List Va} {e : Int} {k : Nat} {l : List Tk} : NZ (headP vl e k l) := by
  intro x h
  rw [headP] at h
  split at h
  · cases q : numP e l with
    | error y => rw [q] at h; cases h; exact numP_nz _ q
    | ok y => rw [q] at h; cases h
  · split at h
    · cases q : varP vl e l with
      | error y => rw [q] at h; cases h; exact varP_nz _ q
      | ok y => rw [q] at h; cases h
    · cases h
theorem closeP_nz {α : Type} {e : Int} {x : α} {l : List Tk} : NZ (closeP e x l) := by
  rw [closeP]; split
  · exact NZ.ok
  · exact NZ.fail (by decide)
theorem subsA_nz {α : Type} {E : List Tk → PR α} (hE : ∀ l, NZ (E l)) : ∀ (m : Nat) (l : List Tk) (acc : List α), NZ (subsA E m l acc)
  | 0, l, acc => NZ.ok
  | m + 1, l, acc => by
    intro x h
    rw [subsA] at h
    cases q : E l with
    | error y => rw [q] at h; cases h; exact hE l _ q
    | ok y => obtain ⟨a, r⟩ := y; rw [q] at h; exact subsA_nz hE m r _ x h
theorem exprP_nz {vl : List Va} {e : Int} : ∀ (f : Nat) (l : List Tk), NZ (exprP vl e f l)
  | 0, l => NZ.fail (by decide)
  | f + 1, l => by
    intro x h
    rw [exprP] at h
    split at h
    · cases hk : pickT wordOf 8 l.tail with
      | none => rw [hk] at h; cases h; exact failAt_nz (by decide)
      | some k =>
        rw [hk] at h
        simp only at h
        cases hh : headP vl e k l.tail.tail with
        | error y => rw [hh] at h; cases h; exact headP_nz _ hh
        | ok y =>
          obtain ⟨vn, l3⟩ := y
          rw [hh] at h
          simp only at h
          cases hs : subsA (exprP vl e f) (partsOf k).toNat l3 [] with
          | error y => rw [hs] at h; cases h; exact subsA_nz (exprP_nz f) _ _ _ _ hs
          | ok z => obtain ⟨xs, l4⟩ := z; rw [hs] at h; exact closeP_nz x h
    · cases h; exact failAt_nz (by decide)
theorem listG_nz {S : List Tk → PR St} (hS : ∀ l, NZ (S l)) (hlt : ∀ l x l', S l = .ok (x, l') → l'.length < l.length) : ∀ (g : Nat) (l : List Tk) (acc : List St), l.length < g → NZ (listG S g l acc)
  | 0, l, acc, hg => by omega
  | g + 1, l, acc, hg => by
    intro x h
    rw [listG] at h
    split at h
    · cases h
    · cases q : S l with
      | error y => rw [q] at h; cases h; exact hS l _ q
      | ok y => obtain ⟨a, r⟩ := y; rw [q] at h; have := hlt l a r q; exact listG_nz hS hlt g r _ (by omega) x h
theorem listP_nz {S : List Tk → PR St} {e : Int} (hS : ∀ l, NZ (S l)) (hlt : ∀ l x l', S l = .ok (x, l') → l'.length < l.length) (l : List Tk) : NZ (listP S e l) := by
  rw [listP]; split
  · exact listG_nz hS hlt _ _ _ (by omega)
  · exact NZ.fail (by decide)
theorem optP_nz {α : Type} {b : Bool} {z : α} {a : List Tk → PR α} (ha : ∀ l, NZ (a l)) (l : List Tk) : NZ (optP b z a l) := by
  rw [optP]; split
  · exact ha l
  · exact NZ.ok
theorem stmtP_nz {vl : List Va} {e : Int} : ∀ (f : Nat) (l : List Tk), NZ (stmtP vl e f l)
  | 0, l => NZ.fail (by decide)
  | f + 1, l => by
    have hlt : ∀ l x l', stmtP vl e f l = .ok (x, l') → l'.length < l.length := fun l x l' h => (stmtP_sub f l x l' h).2
    rw [stmtP]
    split
    · cases hk : pickT verbOf 7 l.tail with
      | none => exact NZ.fail (by decide)
      | some k =>
        exact bindP_nz (optP_nz (fun _ => varP_nz) _) fun v r _ => bindP_nz (optP_nz (exprP_nz f) _) fun x r _ => bindP_nz (optP_nz (exprP_nz f) _) fun y r _ =>
          bindP_nz (optP_nz (listP_nz (stmtP_nz f) hlt) _) fun b r _ => bindP_nz (optP_nz (listP_nz (stmtP_nz f) hlt) _) fun el r _ => closeP_nz
    · exact NZ.fail (by decide)
theorem letsG_nz {e : Int} : ∀ (g : Nat) (l : List Tk) (acc : List Va), l.length < g → NZ (letsG e g l acc)
  | 0, l, acc, hg => by omega
  | g + 1, l, acc, hg => by
    rw [letsG]
    split
    · refine bindP_nz nameP_nz fun s r h1 => bindP_nz numP_nz fun n r2 h2 => ?_
      obtain ⟨t, rfl, -, -⟩ := numP_ok h2
      obtain ⟨t', e1, -, -⟩ := nameP_ok h1
      have := congrArg List.length e1
      rw [List.length_tail] at this
      simp only [List.length_cons] at this
      exact letsG_nz g r2 _ (by omega)
    · exact NZ.ok
theorem bodyG_nz {S : List Tk → PR St} (hS : ∀ l, NZ (S l)) (hlt : ∀ l x l', S l = .ok (x, l') → l'.length < l.length) : ∀ (g : Nat) (l : List Tk) (acc : List St), l.length < g → NZ (bodyG S g l acc)
  | 0, l, acc, hg => by omega
  | g + 1, l, acc, hg => by
    intro x h
    rw [bodyG] at h
    split at h
    · cases h
    · cases q : S l with
      | error y => rw [q] at h; cases h; exact hS l _ q
      | ok y => obtain ⟨a, r⟩ := y; rw [q] at h; have := hlt l a r q; exact bodyG_nz hS hlt g r _ (by omega) x h
theorem progP_nz {e : Int} {l : List Tk} : NZ (progP e l) := by
  rw [progP]
  exact bindP_nz (letsG_nz _ _ _ (by omega)) fun vl r _ => bindP_nz (bodyG_nz (stmtP_nz 13) (fun l x l' h => (stmtP_sub 13 l x l' h).2) _ _ _ (by omega)) fun b r _ => NZ.ok
theorem parseP_err {s : ByteArray} {x : Int × Int} (h : parseP s = .error x) : x.1 ≠ 0 := by
  rw [parseP] at h
  cases hs : scanP s with
  | error y =>
    rw [hs] at h
    cases h
    rw [scanP] at hs
    split at hs
    · cases hs; show (3 : Int) ≠ 0; decide
    · cases hl : scanG s (s.size + 1) (runB blankB s 0) [] with
      | ok l' => rw [hl] at hs; cases hs
      | error i => rw [hl] at hs; cases hs; show (7 : Int) ≠ 0; decide
  | ok l =>
    rw [hs] at h
    simp only at h
    cases hp : progP s.size l with
    | error y => rw [hp] at h; cases h; exact progP_nz _ hp
    | ok y =>
      obtain ⟨pr, r⟩ := y
      rw [hp] at h
      simp only at h
      split at h
      · rename_i hc; cases h; exact hc
      · cases h
end Go.Proofs.YthefnnkmpcgcmaaDoor

namespace Go.Proofs.YthefnnkmpcgcmaaDoor
open Go X
set_option maxHeartbeats 4000000
theorem parse_back {s P z : ByteArray} {l : List Tk} {pr : Pr} (hl : scanP s = .ok l) (h : parseP s = .ok pr) (hP : Blank P) (hz : Blank z) (h1 : 1 ≤ z.size) (h6 : (P ++ joinS z l).size ≤ 6000) : parseP (P ++ joinS z l) = .ok pr := by
  obtain ⟨m, hm, hk⟩ := scan_back hP hz h1 (scanP_words hl).1 h6
  rw [parseP, hl] at h
  simp only at h
  cases hp : progP s.size l with
  | error y => rw [hp] at h; cases h
  | ok y =>
    obtain ⟨p, r⟩ := y
    rw [hp] at h
    simp only at h
    split at h
    · cases h
    · rename_i hc
      cases h
      obtain ⟨r', e2, -⟩ := progP_leads (e := s.size) (e' := (P ++ joinS z l).size) (show Eqv l m from hk.symm) pr r hp
      rw [parseP, hm]
      simp only
      rw [e2]
      simp only
      rw [if_neg hc]
theorem parse_ok (σ : PH) {s : ByteArray} {pr : Pr} (hs : s.size ≤ 100000000) (hT : Tab σ) (hE : Errs σ) (h : parseP s = .ok pr) : CallsA Tryd.prog 20 #[.string s] σ [] (RetA fun v σ' Γ' => ∃ pv cv pb cb, v = .tuple #[.agg #[.slice pv pr.vars.length cv, .slice pb pr.body.length cb], .agg #[i64 0, i64 0]] ∧ PrAt σ' [.slice pv pr.vars.length cv, .slice pb pr.body.length cb] pr ∧ σ.sub σ' ∧ Γ' = []) := by
  refine (parse_p σ s hs hT hE).mono fun e σ' Γ' hh => ?_
  cases e with
  | returned v =>
    obtain ⟨cs, rfl, hp, hs, rfl⟩ := hh
    rw [h] at hp
    have hp0 := hp
    obtain ⟨vs, bs, rfl, hv, hb⟩ := hp
    obtain ⟨pv, cv, rfl, -, -⟩ := hv.shape
    obtain ⟨pb, cb, rfl, -, -⟩ := hb.shape
    exact ⟨pv, cv, pb, cb, by rw [h]; rfl, hp0, hs, rfl⟩
  | _ => exact False.elim hh
theorem parse_no (σ : PH) {s : ByteArray} {x1 x2 : Int} (hs : s.size ≤ 100000000) (hT : Tab σ) (hE : Errs σ) (h : parseP s = .error (x1, x2)) : CallsA Tryd.prog 20 #[.string s] σ [] (RetA fun v σ' Γ' => ∃ pv cv pb cb, v = .tuple #[.agg #[.slice pv 0 cv, .slice pb 0 cb], .agg #[i64 x1, i64 x2]] ∧ σ.sub σ' ∧ Γ' = []) := by
  refine (parse_p σ s hs hT hE).mono fun e σ' Γ' hh => ?_
  cases e with
  | returned v =>
    obtain ⟨cs, rfl, hp, hs, rfl⟩ := hh
    rw [h] at hp
    obtain ⟨vs, bs, rfl, hv, hb⟩ := hp
    obtain ⟨pv, cv, rfl, -, -⟩ := hv.shape
    obtain ⟨pb, cb, rfl, -, -⟩ := hb.shape
    exact ⟨pv, cv, pb, cb, by rw [h]; rfl, hs, rfl⟩
  | _ => exact False.elim hh
theorem blanks_law (σ : PH) (s : ByteArray) (hT : Tab σ) (hE : Errs σ) : CallsA Tryd.prog 7 #[.string s] σ [] (RetA fun r σ' _ => r = .bool true ∧ σ.sub σ') := by
  refine enterA1 Tryd.func7 rfl rfl rfl ?_
  refine zS (zR (zO rfl Rd.asg ?_)); refine zN (zT (zS (zS (zR ?_))))
  refine XOA.wr0 rfl (WrA.cE (pbegun_a σ hT hE) rfl) ?_
  rintro _ σ1 _ ⟨_, ⟨rfl, hs1, rfl⟩, rfl⟩
  refine XOA.cl ?_
  have hT1 := hT.mono hs1
  have hE1 := hE.mono hs1
  refine zO rfl zJ ?_; refine zN (zT (XA.condF rfl rfl (XA.skip (zT (zS (zS (zR (zA rfl ?_)))))))); refine zO rfl (Rd.lenString (tyrow rfl) rfl rfl) ?_; refine zO rfl (Rd.gtr rfl rfl) ?_; refine zN (zT ?_)
  by_cases h9 : 1900 < s.size
  · skip
    refine XA.condT rfl (by first | rfl | exact decide_eq_true (by omega)) ?_; refine zS (zR (zO rfl Rd.asg ?_)); refine zN (zT (XA.ret (DA.thn_ret ?_)))
    exact bodyA.ret (ResA.one rfl rfl) (Ent.nil _) ⟨rfl, hs1⟩
  have hs : s.size ≤ 100000000 := by omega
  cases hR : parseP s with
  | error e =>
    obtain ⟨e1, e2⟩ := e
    have he := parseP_err hR
    simp only at he
    refine XA.condF rfl (by first | rfl | exact decide_eq_false (by omega)) ?_; refine XA.skip (zT (zS (zR (zA rfl ?_))))
    refine XOA.wr0 rfl (WrA.cE (parse_no σ1 hs hT1 hE1 hR) rfl) ?_
    rintro _ σ2 _ ⟨_, ⟨pv, cv, pb, cb, rfl, hs2, rfl⟩, rfl⟩
    refine XOA.cl ?_; refine zA rfl ?_; refine zO rfl (Rd.extract rfl rfl) ?_; refine zO rfl (Rd.extract rfl rfl) ?_
    refine XOA.wr0 rfl (WrA.alloc (tyrow rfl)) ?_
    rintro _ _ _ ⟨g3, rfl, rfl, rfl⟩
    refine XOA.wr0 rfl (WrA.alloc (tyrow rfl)) ?_
    rintro _ _ _ ⟨g4, rfl, rfl, rfl⟩
    refine XOA.wr0 rfl (WrA.st (tyrow rfl) rfl) ?_
    rintro _ _ _ ⟨rfl, rfl, rfl⟩
    refine XOA.wr0 rfl (WrA.st (tyrow rfl) rfl) ?_
    rintro _ _ _ ⟨rfl, rfl, rfl⟩
    refine zN (zT (zS (zS (zR (zV rfl rfl ?_))))); refine zB rfl rfl (tyrow rfl) rfl ?_; refine zO rfl (Rd.neq rfl rfl) ?_; refine zN (zT (XA.condT rfl (by first | rfl | exact decide_eq_true he) ?_)); refine zS (zR (zV rfl rfl ?_)); refine zB rfl rfl (tyrow rfl) rfl ?_
    refine zO rfl (Rd.lenSlice (tyrow rfl) rfl rfl) ?_; refine zV rfl rfl ?_; refine zB rfl rfl (tyrow rfl) rfl ?_; refine zO rfl (Rd.lenSlice (tyrow rfl) rfl rfl) ?_; refine zO rfl zI ?_; refine zO rfl (Rd.eql rfl rfl) ?_; refine zO rfl Rd.asg ?_; refine zN (zT (XA.ret (DA.thn_ret ?_)))
    exact bodyA.ret (ResA.one rfl rfl) (Ent.nil _) ⟨rfl, hs1.trans hs2⟩
  | ok pr =>
    have hsc : ∃ l, scanP s = .ok l := by
      cases hq : scanP s with
      | ok l => exact ⟨l, rfl⟩
      | error x => rw [parseP, hq] at hR; cases hR
    obtain ⟨l, hl0⟩ := hsc
    obtain ⟨hw, ht0, hn0⟩ := scanP_words hl0
    have hz1 := joinS_size sp l
    have hz2 := joinS_size ⟨#[13]⟩ l
    rw [show sp.size = 2 from rfl] at hz1
    rw [show (⟨#[13]⟩ : ByteArray).size = 1 from rfl] at hz2
    have hA6 : ((⟨#[9]⟩ : ByteArray) ++ joinS sp l).size ≤ 6000 := by rw [ByteArray.size_append, show (⟨#[9]⟩ : ByteArray).size = 1 from rfl]; omega
    have hB6 : (ByteArray.empty ++ joinS ⟨#[13]⟩ l).size ≤ 6000 := by rw [ByteArray.size_append, show ByteArray.empty.size = 0 from rfl]; omega
    have hpA := parse_back hl0 hR blank_tab blank_sp (by decide) hA6
    have hpB := parse_back hl0 hR blank_none blank_cr (by decide) hB6
    refine XA.condF rfl (by first | rfl | exact decide_eq_false (by omega)) ?_; refine XA.skip (zT (zS (zR (zA rfl ?_))))
    refine XOA.wr0 rfl (WrA.cE (parse_ok σ1 hs hT1 hE1 hR) rfl) ?_
    rintro _ σ2 _ ⟨_, ⟨pv, cv, pb, cb, rfl, hp1, hs2, rfl⟩, rfl⟩
    refine XOA.cl ?_
    have hT2 := hT1.mono hs2
    have hE2 := hE1.mono hs2
    have hrs := rscan_t σ2 s hs hT2 hE2
    rw [hl0] at hrs
    replace hrs : CallsA Tryd.prog 18 #[.string s] σ2 [] (RetA fun v σ' Γ' => ∃ sl, v = .tuple #[sl, .agg #[i64 0, i64 0]] ∧ PSl 4 rTk σ' sl l ∧ σ2.sub σ' ∧ Γ' = []) := hrs
    refine zA rfl ?_; refine zO rfl (Rd.extract rfl rfl) ?_; refine zO rfl (Rd.extract rfl rfl) ?_
    refine XOA.wr0 rfl (WrA.alloc (tyrow rfl)) ?_
    rintro _ _ _ ⟨g3, rfl, rfl, rfl⟩
    refine XOA.wr0 rfl (WrA.alloc (tyrow rfl)) ?_
    rintro _ _ _ ⟨g4, rfl, rfl, rfl⟩
    refine XOA.wr0 rfl (WrA.st (tyrow rfl) rfl) ?_
    rintro _ _ _ ⟨rfl, rfl, rfl⟩
    refine XOA.wr0 rfl (WrA.st (tyrow rfl) rfl) ?_
    rintro _ _ _ ⟨rfl, rfl, rfl⟩
    refine zN (zT (zS (zS (zR (zV rfl rfl ?_))))); refine zB rfl rfl (tyrow rfl) rfl ?_; refine zO rfl (Rd.neq rfl rfl) ?_; refine zN (zT ?_)
    refine XA.condF rfl (by first | rfl | exact decide_eq_false (fun h => h rfl)) ?_
    refine XA.skip (zT (zS (zR (zA rfl ?_))))
    refine XOA.wr0 rfl (WrA.cE (hrs) rfl) ?_
    rintro _ σ3 _ ⟨_, ⟨sl, rfl, hl, hs3, rfl⟩, rfl⟩
    refine XOA.cl ?_
    obtain ⟨p, c, rfl, hc0, hc1⟩ := hl.shape
    have hT3 := hT2.mono hs3
    have hE3 := hE2.mono hs3
    have hp3 := hp1.mono hs3
    refine zA rfl ?_; refine zO rfl (Rd.extract rfl rfl) ?_; refine zO rfl (Rd.extract rfl rfl) ?_
    refine XOA.wr0 rfl (WrA.alloc (tyrow rfl)) ?_
    rintro _ _ _ ⟨g6, rfl, rfl, rfl⟩
    refine zO rfl Rd.asg ?_
    refine XOA.wr0 rfl (WrA.st (tyrow rfl) rfl) ?_
    rintro _ _ _ ⟨rfl, rfl, rfl⟩
    refine zN (zT (zS (zR (zO rfl Rd.asg ?_)))); refine zO rfl Rd.asg ?_; refine zN (zT (zS (zS (zR (zO rfl Rd.asg ?_))))); refine zN (zT (XA.block ?_))
    refine XA.gen [(2, _), (3, _), (5, _), (7, _), (8, _), (9, _)] ⟨(by with_reducible (conv => lhs; whnf)), (by with_reducible (conv => lhs; whnf)), (by with_reducible (conv => lhs; whnf)), (by with_reducible (conv => lhs; whnf)), (by with_reducible (conv => lhs; whnf)), (by with_reducible (conv => lhs; whnf)), trivial⟩ (fun δ => ?_)
    dsimp only [List.foldl]
    refine XA.loop [(7, 9), (40, 61)] (fun x : Nat × (ByteArray × ByteArray) => [(9, i64 x.1), (7, .string x.2.1), (8, .string x.2.2)]) (fun x σ' Γ' => σ3 = σ' ∧ x.1 ≤ l.length ∧ x.2.1 = (⟨#[9]⟩ : ByteArray) ++ joinS sp (l.take x.1) ∧ x.2.2 = ByteArray.empty ++ joinS ⟨#[13]⟩ (l.take x.1) ∧ Γ' = [blk g3 [.slice pv pr.vars.length cv, .slice pb pr.body.length cb] 25]) (fun x => l.length - x.1) (0, (⟨#[9]⟩, ByteArray.empty)) (by exact ⟨rfl, rfl, rfl, trivial⟩) (Δ0 := _) ?_ (⟨rfl, Nat.zero_le _, by rw [List.take_zero, joinS, ByteArray.append_empty], by rw [List.take_zero, joinS, ByteArray.append_empty], rfl⟩) ?_
    · exact zE
    rintro ⟨i, a, b⟩ δ _ _ ⟨rfl, hi, ha, hb, rfl⟩
    dsimp only [ovr, List.foldl]
    simp only at hi ha hb
    by_cases hlt : i < l.length
    · obtain ⟨x, hx⟩ : ∃ x, l[i]? = some x := ⟨l[i], by simp [hlt]⟩
      obtain ⟨g, o, row, rfl, hr, -, hrow⟩ := hl.at hx
      have hr : row = tkC x := hr
      subst hr
      have a1 : PRow σ3 g (o + i * 4 + 1) [.string x.text] := hrow.sub (j := 1) rfl
      have hnx : ∀ (P z : ByteArray), (P ++ joinS z (l.take i)) ++ (x.text ++ z) = P ++ joinS z (l.take (i + 1)) := fun P z => by rw [List.take_add_one, hx, Option.toList_some, joinS_app, joinS_one, ByteArray.append_assoc]
      have hcut : ∀ (P z : ByteArray), (P ++ joinS z l).size ≤ 6000 → (P ++ joinS z (l.take i)).size + (x.text.size + z.size) ≤ 6000 := fun P z h => by
        have e1 : (P ++ joinS z (l.take i)).size + (x.text.size + z.size) = (P ++ joinS z (l.take (i + 1))).size := by rw [← hnx]; simp only [ByteArray.size_append]
        have e2 : (P ++ joinS z l).size = (P ++ joinS z (l.take (i + 1))).size + (joinS z (l.drop (i + 1))).size := by rw [← ByteArray.size_append, ByteArray.append_assoc, ← joinS_app, List.take_append_drop]
        omega
      have hca := hcut _ _ hA6
      have hcb := hcut _ _ hB6
      rw [← ha, show sp.size = 2 from rfl] at hca
      rw [← hb, show (⟨#[13]⟩ : ByteArray).size = 1 from rfl] at hcb
      refine zS (zS (zR (zA rfl ?_))); refine zA rfl ?_; refine zO rfl (Rd.lenSlice (tyrow rfl) rfl rfl) ?_; refine zO rfl (Rd.lss rfl rfl) ?_; refine zN (zT (XA.condT rfl (by first | rfl | exact decide_eq_true (by omega)) ?_)); refine XA.skip (zT (zS (XA.block (zS (zR (zA rfl ?_)))))); refine zA rfl ?_
      refine zA rfl ?_; refine zO rfl (Rd.ixS rfl rfl) ?_; refine zV rfl rfl ?_; refine zB rfl rfl (tyrow rfl) rfl ?_
      refine zO rfl (X.Rd.catStr rfl rfl (by show x.text.size + 2 ≤ _; omega)) ?_
      refine zO rfl (X.Rd.catStr rfl rfl (by show a.size + (x.text ++ sp).size ≤ _; rw [ByteArray.size_append]; exact Nat.le_trans hca (by decide))) ?_
      refine zO rfl Rd.asg ?_; refine zN (zT (zR (zA rfl ?_))); refine zA rfl ?_; refine zA rfl ?_; refine zO rfl (Rd.ixS rfl rfl) ?_; refine zV rfl rfl ?_; refine zB rfl rfl (tyrow rfl) rfl ?_
      refine zO rfl (X.Rd.catStr rfl rfl (by show x.text.size + 1 ≤ _; omega)) ?_
      refine zO rfl (X.Rd.catStr rfl rfl (by show b.size + (x.text ++ (⟨#[13]⟩ : ByteArray)).size ≤ _; rw [ByteArray.size_append]; exact Nat.le_trans hcb (by decide))) ?_
      refine zO rfl Rd.asg ?_; refine zN (DA.inb_normal (zT (zR (zA rfl ?_)))); refine zO rfl zI ?_; refine zO rfl Rd.asg ?_; refine zN (zT ?_)
      refine ⟨(Keep.upd (Keep.upd (Keep.upd (Keep.upd (Keep.upd (Keep.upd (Keep.upd (Keep.upd (Keep.upd (Keep.upd (Keep.upd (Keep.upd (Keep.upd (Keep.upd (Keep.upd (Keep.upd (Keep.upd (Keep.upd (Keep.upd (Keep.upd (Keep.upd (Keep.upd (Keep.upd (Keep.upd (Keep.upd (Keep.upd (Keep.upd (Keep.upd (Keep.hav (Keep.hav (Keep.refl _ _) rfl) rfl) rfl) rfl) rfl) rfl) rfl) rfl) rfl) rfl) rfl) rfl) rfl) rfl) rfl) rfl) rfl) rfl) rfl) rfl) rfl) rfl) rfl) rfl) rfl) rfl) rfl) rfl) rfl) rfl), (i + 1, (a ++ (x.text ++ sp), b ++ (x.text ++ ⟨#[13]⟩))), _, zM, ?_, ⟨rfl, hlt, by rw [ha]; exact hnx _ _, by rw [hb]; exact hnx _ _, rfl⟩, (by simp only; omega)⟩
      · exact zE
    · have ha : a = (⟨#[9]⟩ : ByteArray) ++ joinS sp l := by rw [ha, List.take_of_length_le (by omega)]
      have hb : b = ByteArray.empty ++ joinS ⟨#[13]⟩ l := by rw [hb, List.take_of_length_le (by omega)]
      rw [← ha] at hpA hA6
      rw [← hb] at hpB hB6
      refine zS (zS (zR (zA rfl ?_))); refine zA rfl ?_; refine zO rfl (Rd.lenSlice (tyrow rfl) rfl rfl) ?_; refine zO rfl (Rd.lss rfl rfl) ?_; refine zN (zT (XA.condF rfl (by first | rfl | exact decide_eq_false (by omega)) ?_))
      refine XA.exit (DA.thn_exit (DA.thn_exit (DA.inb_same (zT (zS (zR (zA rfl ?_)))))))
      refine XOA.wr0 rfl (WrA.cE (parse_ok σ3 (by omega) hT3 hE3 hpA) rfl) ?_
      rintro _ σ4 _ ⟨_, ⟨pv4, cv4, pb4, cb4, rfl, hp4, hs4, rfl⟩, rfl⟩
      refine XOA.cl ?_; refine zA rfl ?_; refine zO rfl (Rd.extract rfl rfl) ?_; refine zO rfl (Rd.extract rfl rfl) ?_
      refine XOA.wr0 rfl (WrA.alloc (tyrow rfl)) ?_
      rintro _ _ _ ⟨g10, rfl, rfl, rfl⟩
      refine XOA.wr0 rfl (WrA.alloc (tyrow rfl)) ?_
      rintro _ _ _ ⟨g11, rfl, rfl, rfl⟩
      refine XOA.wr0 rfl (WrA.st (tyrow rfl) rfl) ?_
      rintro _ _ _ ⟨rfl, rfl, rfl⟩
      refine XOA.wr0 rfl (WrA.st (tyrow rfl) rfl) ?_
      rintro _ _ _ ⟨rfl, rfl, rfl⟩
      refine zN (zT (zS (zR (zA rfl ?_))))
      refine XOA.wr0 rfl (WrA.cE (parse_ok σ4 (by omega) (hT3.mono hs4) (hE3.mono hs4) hpB) rfl) ?_
      rintro _ σ5 _ ⟨_, ⟨pv5, cv5, pb5, cb5, rfl, hp5, hs5, rfl⟩, rfl⟩
      refine XOA.cl ?_
      have hp35 := (hp3.mono hs4).mono hs5
      have hp45 := hp4.mono hs5
      refine zA rfl ?_; refine zO rfl (Rd.extract rfl rfl) ?_; refine zO rfl (Rd.extract rfl rfl) ?_
      refine XOA.wr0 rfl (WrA.alloc (tyrow rfl)) ?_
      rintro _ _ _ ⟨g12, rfl, rfl, rfl⟩
      refine XOA.wr0 rfl (WrA.alloc (tyrow rfl)) ?_
      rintro _ _ _ ⟨g13, rfl, rfl, rfl⟩
      refine XOA.wr0 rfl (WrA.st (tyrow rfl) rfl) ?_
      rintro _ _ _ ⟨rfl, rfl, rfl⟩
      refine XOA.wr0 rfl (WrA.st (tyrow rfl) rfl) ?_
      rintro _ _ _ ⟨rfl, rfl, rfl⟩
      refine zN (zT (zS (zR (zV rfl rfl ?_)))); refine zB rfl rfl (tyrow rfl) rfl ?_; refine zO rfl (Rd.eql rfl rfl) ?_; refine zA rfl ?_
      first | (refine zG ?_; refine zV rfl rfl ?_) | refine zH ?_
      first | (refine zG ?_; refine zB rfl rfl (tyrow rfl) rfl ?_) | refine zH ?_
      first | (refine zG ?_; refine zO rfl (Rd.eql rfl rfl) ?_) | refine zH ?_
      refine zO rfl zP ?_; refine zA rfl ?_
      first | (refine zG ?_; refine zO rfl (Rd.ldA rfl) ?_) | refine zH ?_
      first | (refine zG ?_; refine zO rfl (Rd.ldA rfl) ?_) | refine zH ?_
      first | refine XOA.wanted rfl rfl ?_ | refine XOA.wq rfl rfl ?_
      refine XOA.wr0 rfl (WrA.cE (rsame_a σ5 _ _ pr pr hp35 hp45) rfl) ?_
      rintro _ _ _ ⟨_, ⟨b1, rfl, hb1, rfl, rfl⟩, rfl⟩
      refine XOA.cl ?_
      obtain rfl : b1 = true := hb1.2 rfl
      refine zO rfl zP ?_; refine zA rfl ?_
      first | (refine zG ?_; refine zO rfl (Rd.ldA rfl) ?_) | refine zH ?_
      first | (refine zG ?_; refine zO rfl (Rd.ldA rfl) ?_) | refine zH ?_
      first | refine XOA.wanted rfl rfl ?_ | refine XOA.wq rfl rfl ?_
      refine XOA.wr0 rfl (WrA.cE (rsame_a σ5 _ _ pr pr hp35 hp5) rfl) ?_
      rintro _ _ _ ⟨_, ⟨b2, rfl, hb2, rfl, rfl⟩, rfl⟩
      refine XOA.cl ?_
      obtain rfl : b2 = true := hb2.2 rfl
      refine zO rfl zP ?_; refine zO rfl Rd.asg ?_; refine zN (zT (XA.ret ?_))
      exact bodyA.ret (ResA.one rfl rfl) (Ent.nil _) ⟨rfl, hs1.trans (hs2.trans (hs3.trans (hs4.trans hs5)))⟩
end Go.Proofs.YthefnnkmpcgcmaaDoor

namespace Go.Proofs.YthefnnkmpcgcmaaDoor
open Go X Go.RowKit
set_option maxHeartbeats 1000000
abbrev laid5 : List (String × DataW Unit) := [("math/bits.deBruijn32tab", Rows.laid_math_bits_deBruijn32tab), ("math/bits.deBruijn64tab", Rows.laid_math_bits_deBruijn64tab), ("internal/strconv.uint64pow10", Rows.laid_internal_strconv_uint64pow10), ("strconv.ErrRange", Rows.laid_strconv_ErrRange), ("strconv.ErrSyntax", Rows.laid_strconv_ErrSyntax)]
theorem star : "*" ++ "errors.errorString" = "*errors.errorString" := by decide
theorem errRow (u : TypeId) (h : Tryd.prog.typeName? 3 u = some "*errors.errorString") : u = 158 :=
  typeName_ptr_named (nm := "errors.errorString") (by rw [star]; kernel_rfl) (by kernel_rfl) (by decide) u (by rw [star]; exact h)
theorem var_le {W w : World} {n : String} {cs : Array Value} (hw : (ofHeap W.heap).le w.heap) (h : W.var? Tryd.prog n = some cs) : w.var? Tryd.prog n = some cs := by
  unfold World.var? at h ⊢
  cases hg : Tryd.prog.globalNamed n with
  | none => simp [hg] at h
  | some g =>
    simp only [hg, Option.bind_some] at h ⊢
    cases ho : W.heap[g]? with
    | none => simp [ho] at h
    | some o =>
      have := hw g o ho
      rw [this]
      rw [ho] at h
      exact h
theorem var_row {W : World} {n : String} {g : Nat} {cs : Array Value} (hg : Tryd.prog.globalNamed n = some g) (h : W.var? Tryd.prog n = some cs) : PRow (ofHeap W.heap) g 0 cs.toList := by
  unfold World.var? at h
  simp only [hg, Option.bind_some] at h
  split at h
  · rename_i cs' T fr he
    cases h
    exact ⟨_, _, _, he, by rw [List.drop_zero]; exact List.take_of_length_le (Nat.le_refl _)⟩
  · cases h
theorem list1 {α : Type} {l : List α} (h : l.length = 1) : ∃ a, l = [a] := by
  match l, h with
  | [a], _ => exact ⟨a, rfl⟩
theorem errField : ∃ f : Field, Tryd.prog.underlying 160 = some (.struct #[f]) ∧ f.type = 9 ∧ f.offset = 0 := by
  have hu : Tryd.prog.underlying 160 = some (.struct (Tryd.prog.fieldsOf 160)) := by kernel_rfl
  have hf : (Tryd.prog.fieldsOf 160).toList.map (fun f => (f.type, f.offset)) = [(9, 0)] := by kernel_rfl
  obtain ⟨f, hl⟩ := list1 (l := (Tryd.prog.fieldsOf 160).toList) (by simpa using congrArg List.length hf)
  rw [hl] at hf
  simp only [List.map_cons, List.map_nil, List.cons.injEq, Prod.mk.injEq, and_true] at hf
  refine ⟨f, ?_, hf.1, hf.2⟩
  rw [hu, ← Array.toArray_toList (xs := Tryd.prog.fieldsOf 160), hl]
theorem laid_facts {W : World} (h : laidMet Tryd.prog laid5 W) : Tab (ofHeap W.heap) ∧ Errs (ofHeap W.heap) := by
  have ht := Lib.tabIs_of_head (P := Tryd.prog) (W := W) (k := .u64) (zs := Lib.pow10Tab) (g := 0) (t := 148) (e := 136) (n := 20) (by kernel_rfl) (by kernel_rfl) (by kernel_rfl) (by kernel_rfl) (by kernel_rfl) (by kernel_rfl) h.tail.tail
  obtain ⟨f, hf1, hf2, hf3⟩ := errField
  obtain ⟨a1, s1, hv1, -, -, -⟩ := laid_sentinel h.tail.tail.tail (g := 2) (by kernel_rfl) (ti := 97) (by kernel_rfl) err_if.choose_spec errRow (te := 160) (by kernel_rfl) hf1 hf2 hf3 (by kernel_rfl) (by kernel_rfl) (by kernel_rfl)
  obtain ⟨a2, s2, hv2, -, -, -⟩ := laid_sentinel h.tail.tail.tail.tail (g := 1) (by kernel_rfl) (ti := 97) (by kernel_rfl) err_if.choose_spec errRow (te := 160) (by kernel_rfl) hf1 hf2 hf3 (by kernel_rfl) (by kernel_rfl) (by kernel_rfl)
  refine ⟨fun w hw => ?_, _, _, var_row (by kernel_rfl) hv2, .inr ⟨_, _, rfl⟩, var_row (by kernel_rfl) hv1, .inr ⟨_, _, rfl⟩⟩
  unfold Lib.TabIs at ht ⊢
  exact var_le hw ht
abbrev synS : ByteArray := { data := #[105, 110, 118, 97, 108, 105, 100, 32, 115, 121, 110, 116, 97, 120] }
abbrev rngS : ByteArray := { data := #[118, 97, 108, 117, 101, 32, 111, 117, 116, 32, 111, 102, 32, 114, 97, 110, 103, 101] }
noncomputable def low : Nat := (World.holding Tryd.prog default ⟨#[], #[], []⟩).heap.size
def setCells (cs : Array Value) : Obj → Obj
  | .cells _ t frozen => .cells cs t frozen
  | o => o
def tabOf (d : DataW Unit) : Array Value := match d with
  | .agg l => (l.map fun d => match d with | .lit (.int k z) => Value.int k z | _ => undef).toArray
  | _ => #[]
/-- The settled world with the listed variables as their initialisers lay them. -/
noncomputable def laidWorld (os : Os) : World :=
  let w0 := World.holding Tryd.prog os ⟨#[.cells #[.string synS] 160, .cells #[.string rngS] 160], #[], []⟩
  { w0 with heap := ((((w0.heap.modify 1 (setCells #[.iface 158 (.pointer (some ⟨low, 0, none⟩))])).modify 2 (setCells #[.iface 158 (.pointer (some ⟨low + 1, 0, none⟩))])).modify 0 (setCells (tabOf Rows.laid_internal_strconv_uint64pow10))).modify
      3 (setCells (tabOf Rows.laid_math_bits_deBruijn32tab))).modify 4 (setCells (tabOf Rows.laid_math_bits_deBruijn64tab)) }
set_option maxRecDepth 100000 in
theorem laidWorld_met (os : Os) (args : Array Value) : laidMet Tryd.prog laid5 ((laidWorld os).forCall (fun _ _ => 0) ⟨#[], args, []⟩).memory :=
  laidMet_of_run' 8 (by kernel_rfl) (by kernel_rfl)
end Go.Proofs.YthefnnkmpcgcmaaDoor

namespace Go.Proofs.YthefnnkmpcgcmaaDoor
open Go X Go.ChangeShapes Go.WideShapes Go.ChangeAt Go.RowKit
open Go.ChangeMaps (open_string shut_string)
set_option maxRecDepth 100000 in
theorem parseBlanks_lifted (os : Os) (started : os.Started) (H : Type) (enc : TypeId × Value → H) :
    ReturnsInHanded {} Tryd.checked os 7 .any (fun w args => (Rows.parseBlanksSpec.pre enc Tryd.prog Tryd.f7 Rows.parseBlanksRow.domain false w args ∧ laidMet Tryd.prog laid5 w) ∧ sizedMet enc Tryd.prog Tryd.f7 (OpenSpec.ofChange Rows.parseBlanksSpec) false w args)
      (Rows.parseBlanksSpec.post enc Tryd.prog Tryd.f7 false true false false) := by
  refine returnsInHanded_of_change_and (C := Tryd.checked) (X := fun w _ => laidMet Tryd.prog laid5 w) (fun _ _ _ hh h => h.of_heap hh) Tryd.own started (by kernel_rfl) Tryd.func7
    (ChangeSpec.witness_at (enc := enc) (C := Tryd.checked) (os := os) (X := fun w _ => laidMet Tryd.prog laid5 w) false (laidWorld os) #[.string ⟨#[]⟩] 8 rfl (by kernel_rfl) (by kernel_rfl) (by kernel_rfl) (by kernel_rfl) (by kernel_rfl) (laidWorld_met os _)) ?_
  intro W base args ds gs before hval0 hW _ _ hL _
  have hval : ∀ (j : Nat) t v, Tryd.f7.params[j]? = some t → args[j]? = some v → Value.okWide Tryd.prog W .any base t v := hval0
  have hW' := hW
  obtain ⟨p, q, hA0, hV, rfl, hfz, hnd⟩ := hW
  have hA : DataW.TrodAll enc Tryd.prog W 0 (fun _ => true) true [9] args.toList ds p := hA0
  obtain ⟨v0, d0, rfl, rfl, h0⟩ := trodAll_one hA
  have hb : Tryd.prog.underlying 4 = some .bool := by kernel_rfl
  refine post_true (fid := 7) (tb := 4) Tryd.laidOut (by kernel_rfl) rfl rfl hb ?_ hW' (callsX_true ?_)
  · obtain ⟨rfl, rfl⟩ := trodVars_none hV; rfl
  · obtain ⟨s, rfl, -, -, -⟩ := open_string (by kernel_rfl : Tryd.prog.underlying 9 = some .string) (hval 0 _ v0 rfl rfl) h0
    obtain ⟨hT, hE⟩ := laid_facts hL
    exact blanks_law _ s hT hE
theorem parseBlanks_row : Rows.ParseBlanksSaid :=
  OpenClaim.holds_of_wide 7 Tryd.f7 rfl rfl rfl rfl rfl rfl rfl ⟨rfl, rfl, rfl, rfl, rfl⟩ rfl rfl rfl rfl rfl (by kernel_rfl) Tryd.func7 (by kernel_rfl)
    (of_decide_eq_true (by kernel_rfl)) (by unfold Func.isWrapper; first | (rw [if_pos (by decide +kernel)]; kernel_rfl) | (rw [if_neg (by decide +kernel)]; exact ⟨rfl, rfl⟩))
    (fun os started H enc _ => parseBlanks_lifted os started H enc)
theorem parseBlanks_holds : Rows.ParseBlanksCardSaid :=
  Claim7.holds_tied_plain_at .later [] [.data, .data, .data, .sentinel, .sentinel] true (true, "9fbee17c67760fa0909904053e84e62a0a224b532630f95ef45ea5d0c49ecdd4") true
    parseBlanks_row (fun _ h => by cases h) (by kernel_rfl) (fun _ h => by cases h) parseBlanks_row_tie rfl ⟨rfl, rfl⟩ (by kernel_rfl) rfl
    (fun f fn hf hfn => by
      obtain rfl : f = 7 := Option.some.inj ((show Tryd.prog.funcNamed "overwinter/overwinterlaw.ParseBlanks" = some 7 by kernel_rfl).symm.trans hf) |>.symm
      obtain rfl : fn = Tryd.f7 := (Option.some.inj (Tryd.func7.symm.trans hfn)).symm
      exact ⟨by kernel_rfl, fun j t ht => by
        have hm : t ∈ [9] := by simpa using Array.mem_of_getElem? ht
        have hall : ([9].all fun u => !Tryd.prog.wantsStandIn u) = true := by kernel_rfl
        exact (show Tryd.prog.wantsStandIn t = false by simpa using List.all_eq_true.1 hall t hm)⟩)
    (by kernel_rfl)
end Go.Proofs.YthefnnkmpcgcmaaDoor

