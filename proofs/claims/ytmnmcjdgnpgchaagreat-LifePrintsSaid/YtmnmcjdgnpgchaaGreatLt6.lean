/- The law LifePrints holds: nothing is printed that is not printed without crashes: for every program, every input and all steps. Condition: none. -/
import Derived.Test.YtmnmcjdgnpgchaaGreatLt5
namespace Go.Proofs.YtmnmcjdgnpgchaaGreat
open Go X
set_option maxHeartbeats 4000000
def L0 (n : Nat) : Li := ⟨be0 n, M0, noP⟩
theorem life0 {p : Pr} (hc : checkP p = 0) (inp : List Int) (hi : inp.length ≤ 1000000) (hl : (codeOf p).length ≤ 1000000) : LiOk p inp (L0 (sizes p.vars).toNat) 0 := ⟨mach0 hc inp hi hl, mach0 hc inp hi hl⟩
theorem newl_bad (σ : PH) (cs : List Value) (p : Pr) (iv : Value) (inp : List Int) (hp : PrAt σ cs p) (hi : PInts σ iv inp) (hN : stsN p.body ≤ 10000) (hc : checkP p ≠ 0) :
    CallsA Tryz.prog 8 #[.agg cs.toArray, iv] σ [] (RetA fun v σ' Γ' => v = .tuple #[.pointer none, i64 (checkP p)] ∧ σ.sub σ' ∧ Γ' = []) := by
  have hp0 := hp
  obtain ⟨vs, bs, rfl, hv, hb⟩ := hp
  obtain ⟨pv, cv, rfl, -, -⟩ := hv.shape
  obtain ⟨pb0, cb, rfl, -, -⟩ := hb.shape
  obtain ⟨pi0, ci0, rfl, hil, him⟩ := hi.shape
  refine enterA2 Tryz.func8 rfl rfl rfl ?_
  refine zS (zR ?_)
  refine zw rfl WrA.bx ?_
  rintro _ _ _ ⟨g2, rfl, rfl, rfl⟩
  refine zO rfl Rd.asg ?_; refine zO rfl Rd.asg ?_; refine zN (zT (zS (zR (zO rfl (Rd.ldA rfl) ?_))))
  refine zw rfl (WrA.cE (make_a σ _ p hp0 hN) rfl) ?_
  rintro _ σ2 _ ⟨_, ⟨sl, rfl, hsl, hs2, rfl⟩, rfl⟩
  refine XOA.cl ?_; refine zA rfl ?_; refine zO rfl (Rd.extract rfl rfl) ?_; refine zO rfl (Rd.extract rfl rfl) ?_; refine zO rfl Rd.asg ?_; refine zO rfl Rd.asg ?_; refine zN (zT (zS (zS (zR (zA rfl ?_))))); refine zO rfl (Rd.neq rfl rfl) ?_
  refine zN (zT (XA.condT rfl (decide_eq_true hc) (zS (zR (zA rfl ?_))))); refine zO rfl Rd.asg ?_; refine zO rfl Rd.asg ?_; refine zN (zT (XA.ret (DA.thn_ret ?_)))
  exact bodyA.ret (ResA.two rfl rfl rfl) (Ent.nil _) ⟨rfl, hs2, rfl⟩
theorem newl_long (σ : PH) (cs : List Value) (p : Pr) (iv : Value) (inp : List Int) (hp : PrAt σ cs p) (hi : PInts σ iv inp) (hN : stsN p.body ≤ 10000) (hc : checkP p = 0) (h40 : 40 < inp.length) :
    CallsA Tryz.prog 8 #[.agg cs.toArray, iv] σ [] (RetA fun v σ' Γ' => v = .tuple #[.pointer none, i64 1] ∧ σ.sub σ' ∧ Γ' = []) := by
  have hp0 := hp
  obtain ⟨vs, bs, rfl, hv, hb⟩ := hp
  obtain ⟨pv, cv, rfl, -, -⟩ := hv.shape
  obtain ⟨pb0, cb, rfl, -, -⟩ := hb.shape
  obtain ⟨pi0, ci0, rfl, hil, him⟩ := hi.shape
  refine enterA2 Tryz.func8 rfl rfl rfl ?_
  refine zS (zR ?_)
  refine zw rfl WrA.bx ?_
  rintro _ _ _ ⟨g2, rfl, rfl, rfl⟩
  refine zO rfl Rd.asg ?_; refine zO rfl Rd.asg ?_; refine zN (zT (zS (zR (zO rfl (Rd.ldA rfl) ?_))))
  refine zw rfl (WrA.cE (make_a σ _ p hp0 hN) rfl) ?_
  rintro _ σ2 _ ⟨_, ⟨sl, rfl, hsl, hs2, rfl⟩, rfl⟩
  refine XOA.cl ?_
  rw [hc]
  refine zA rfl ?_; refine zO rfl (Rd.extract rfl rfl) ?_; refine zO rfl (Rd.extract rfl rfl) ?_; refine zO rfl Rd.asg ?_; refine zO rfl Rd.asg ?_; refine zN (zT (zS (zS (zR (zA rfl ?_))))); refine zO rfl (Rd.neq rfl rfl) ?_; refine zN (zT (XA.condF rfl rfl (XA.skip (zT (zS (zS (zR (zA rfl ?_))))))))
  refine zO rfl (Rd.lenSlice (tyrow rfl) rfl rfl) ?_; refine zO rfl (Rd.gtr rfl rfl) ?_; refine zN (zT (XA.condT rfl (by first | rfl | exact decide_eq_true (by omega)) ?_)); refine zS (zR (zO rfl Rd.asg ?_)); refine zO rfl Rd.asg ?_; refine zN (zT (XA.ret (DA.thn_ret ?_)))
  exact bodyA.ret (ResA.two rfl rfl rfl) (Ent.nil _) ⟨rfl, hs2, rfl⟩
theorem newl_ok (σ : PH) (cs : List Value) (p : Pr) (iv : Value) (inp : List Int) (hp : PrAt σ cs p) (hi : PInts σ iv inp) (hN : stsN p.body ≤ 10000) (hc : checkP p = 0) (h40 : inp.length ≤ 40) :
    CallsA Tryz.prog 8 #[.agg cs.toArray, iv] σ [] (RetA fun v σ' Γ' => ∃ gx db pb pc cc, v = .tuple #[ptr gx, i64 0] ∧ σ.sub σ' ∧ PSl 4 rIn σ' (.slice pc (codeOf p).length cc) (codeOf p) ∧ LifeG σ' gx db pb pc cc (sizes p.vars).toNat p inp (L0 (sizes p.vars).toNat) 0 Γ') := by
  have hp0 := hp
  obtain ⟨vs, bs, rfl, hv, hb⟩ := hp
  obtain ⟨pv, cv, rfl, -, -⟩ := hv.shape
  obtain ⟨pb0, cb, rfl, -, -⟩ := hb.shape
  obtain ⟨pi0, ci0, rfl, hil, him⟩ := hi.shape
  obtain ⟨hz, hvl'⟩ := check_small hc
  obtain ⟨-, -, hv1, h48⟩ := check_valid hc
  have hsn : (0 : Int) ≤ sizes p.vars := sizes_nonneg hv1
  obtain ⟨nc, hnc⟩ : ∃ nc : Nat, sizes p.vars = (nc : Int) := ⟨(sizes p.vars).toNat, by omega⟩
  have hn2 : (sizes p.vars).toNat = nc := by omega
  have hG0 : Good DiskS.new s0 := Good.new
  rw [hn2]
  refine enterA2 Tryz.func8 rfl rfl rfl ?_
  refine zS (zR ?_)
  refine zw rfl WrA.bx ?_
  rintro _ _ _ ⟨g2, rfl, rfl, rfl⟩
  refine zO rfl Rd.asg ?_; refine zO rfl Rd.asg ?_; refine zN (zT (zS (zR (zO rfl (Rd.ldA rfl) ?_))))
  refine zw rfl (WrA.cE (make_a σ _ p hp0 hN) rfl) ?_
  rintro _ σ2 _ ⟨_, ⟨sl, rfl, hsl, hs2, rfl⟩, rfl⟩
  refine XOA.cl ?_
  rw [if_pos hc] at hsl
  rw [hc]
  obtain ⟨q, cq, rfl, -, -⟩ := hsl.shape
  have hce := cells_a σ2 _ p (hp0.mono hs2) hz hvl'
  rw [hnc] at hce
  have hcl := cloneP_a σ2 (.slice pi0 inp.length ci0) inp (hi.mono hs2) (by omega)
  have hnd := new_a σ2
  refine zA rfl ?_; refine zO rfl (Rd.extract rfl rfl) ?_; refine zO rfl (Rd.extract rfl rfl) ?_; refine zO rfl Rd.asg ?_; refine zO rfl Rd.asg ?_; refine zN (zT (zS (zS (zR (zA rfl ?_))))); refine zO rfl (Rd.neq rfl rfl) ?_; refine zN (zT (XA.condF rfl rfl (XA.skip (zT (zS (zS (zR (zA rfl ?_))))))))
  refine zO rfl (Rd.lenSlice (tyrow rfl) rfl rfl) ?_; refine zO rfl (Rd.gtr rfl rfl) ?_; refine zN (zT (XA.condF rfl (by first | rfl | exact decide_eq_false (by omega)) ?_)); refine XA.skip (zT (zS ?_))
  refine XA.join [(8, 8), (20, 29)] (fun y : (Nat × (Nat × Nat)) × (Option Addr × Nat) => [(8, ptr y.1.1)]) (fun y σ' Γ' => σ2 = σ' ∧ Γ' = [blk y.1.1 [.pointer none, ptr y.1.2.1, ptr y.1.2.2, .slice q (codeOf p).length cq, .slice y.2.1 inp.length y.2.2, i64 nc] 65, Disk y.1.2.1 DiskS.new, blk y.1.2.2 [.slice none 0 0, i64 0] 61, lst 2 1 (.slice y.2.1 inp.length y.2.2) inp.length (ints inp)]) ?_ ?_
  · skip
    refine XA.drawQ (by kernel_rfl) _ _ [] 11 #[false, false, false, false, false, false, false, false, false, false, false] rfl rfl (by kernel_rfl) (PH.sub.refl _) (Ent.sel (R := blk g2 _ _) zL (Ent.nil _)) ?_
    refine XQA.pu (i := 1) (listed' := #[false, true, false, false, false, false, false, false, false, false, false]) rfl rfl (by kernel_rfl) rfl Gd.free (Rd.bl (fun _ _ => tyrow) rfl rfl rfl) ?_
    refine XQA.pu (i := 3) (listed' := #[false, true, false, true, false, false, false, false, false, false, false]) rfl rfl (by kernel_rfl) rfl Gd.free Rd.mv ?_
    refine XQA.pu (i := 4) (listed' := #[false, true, false, true, true, false, false, false, false, false, false]) rfl rfl (by kernel_rfl) rfl Gd.free Rd.mv ?_
    refine XQA.rd (i := 6) (listed' := #[false, true, false, true, true, false, true, false, false, false, false]) rfl rfl (by kernel_rfl) rfl Gd.free (Rd.ldA rfl) ?_
    refine XQA.w2 (i := 0) (j := 2) (by kernel_rfl) ?_ ?_
    · refine XQA1.wr0 (listed' := #[true, true, false, true, true, false, true, false, false, false, false]) rfl rfl Gd.free (by kernel_rfl) rfl (WrA.cE hnd rfl) ?_
      rintro _ _ _ ⟨_, ⟨db, rfl, rfl, rfl⟩, rfl⟩
      refine ⟨⟨zX, zE⟩, XQA.re zC ?_⟩
      refine XQA.w2 (i := 2) (j := 5) (by kernel_rfl) ?_ ?_
      · refine XQA1.wr0 (listed' := #[true, true, true, true, true, false, true, false, false, false, false]) rfl rfl Gd.free (by kernel_rfl) rfl WrA.bx ?_
        rintro _ _ _ ⟨g22, rfl, rfl, rfl⟩
        refine ⟨⟨zX, zE⟩, XQA.re zC ?_⟩
        refine qa 5 ?_
        refine XQA1.wr0 (listed' := #[true, true, true, true, true, true, true, false, false, false, false]) rfl rfl Gd.free (by kernel_rfl) rfl (WrA.cE hcl rfl) ?_
        rintro _ _ _ ⟨_, ⟨pj, cj, rfl, rfl, rfl⟩, rfl⟩
        refine ⟨⟨zX, zE⟩, XQA.re zC ?_⟩
        refine qa 7 ?_
        refine XQA1.wr0 (listed' := #[true, true, true, true, true, true, true, true, false, false, false]) rfl rfl Gd.free (by kernel_rfl) rfl (WrA.cE hce rfl) ?_
        rintro _ _ _ ⟨_, ⟨rfl, rfl, rfl⟩, rfl⟩
        refine ⟨⟨zX, zE⟩, XQA.re zC ?_⟩
        refine XQA.pu (i := 8) (listed' := #[true, true, true, true, true, true, true, true, true, false, false]) rfl rfl (by kernel_rfl) rfl Gd.free (Rd.bl (fun _ _ => tyrow) rfl rfl rfl) ?_
        refine qa 9 ?_
        refine XQA1.wr0 (listed' := #[true, true, true, true, true, true, true, true, true, true, false]) rfl rfl Gd.free (by kernel_rfl) rfl WrA.bx ?_
        rintro _ _ _ ⟨g29, rfl, rfl, rfl⟩
        refine ⟨⟨zX, zE⟩, XQA.re zC ?_⟩
        refine XQA.pu (i := 10) (listed' := #[true, true, true, true, true, true, true, true, true, true, true]) rfl rfl (by kernel_rfl) rfl Gd.free Rd.asg ?_
        refine XQA.nil rfl ?_
        refine DA.thn_normal ⟨zK, ((g29, (db, g22)), (pj, cj)), _, zM, ?_, rfl, rfl⟩; exact zE
      · refine XQA1.wr0 (listed' := #[true, true, false, true, true, true, true, false, false, false, false]) rfl rfl Gd.free (by kernel_rfl) rfl (WrA.cE hcl rfl) ?_
        rintro _ _ _ ⟨_, ⟨pj, cj, rfl, rfl, rfl⟩, rfl⟩
        refine ⟨⟨zX, zE⟩, XQA.re zC ?_⟩
        refine XQA.w2 (i := 2) (j := 7) (by kernel_rfl) ?_ ?_
        · refine XQA1.wr0 (listed' := #[true, true, true, true, true, true, true, false, false, false, false]) rfl rfl Gd.free (by kernel_rfl) rfl WrA.bx ?_
          rintro _ _ _ ⟨g22, rfl, rfl, rfl⟩
          refine ⟨⟨zX, zE⟩, XQA.re zC ?_⟩
          refine qa 7 ?_
          refine XQA1.wr0 (listed' := #[true, true, true, true, true, true, true, true, false, false, false]) rfl rfl Gd.free (by kernel_rfl) rfl (WrA.cE hce rfl) ?_
          rintro _ _ _ ⟨_, ⟨rfl, rfl, rfl⟩, rfl⟩
          refine ⟨⟨zX, zE⟩, XQA.re zC ?_⟩
          refine XQA.pu (i := 8) (listed' := #[true, true, true, true, true, true, true, true, true, false, false]) rfl rfl (by kernel_rfl) rfl Gd.free (Rd.bl (fun _ _ => tyrow) rfl rfl rfl) ?_
          refine qa 9 ?_
          refine XQA1.wr0 (listed' := #[true, true, true, true, true, true, true, true, true, true, false]) rfl rfl Gd.free (by kernel_rfl) rfl WrA.bx ?_
          rintro _ _ _ ⟨g29, rfl, rfl, rfl⟩
          refine ⟨⟨zX, zE⟩, XQA.re zC ?_⟩
          refine XQA.pu (i := 10) (listed' := #[true, true, true, true, true, true, true, true, true, true, true]) rfl rfl (by kernel_rfl) rfl Gd.free Rd.asg ?_
          refine XQA.nil rfl ?_
          refine DA.thn_normal ⟨zK, ((g29, (db, g22)), (pj, cj)), _, zM, ?_, rfl, rfl⟩; exact zE
        · refine XQA1.wr0 (listed' := #[true, true, false, true, true, true, true, true, false, false, false]) rfl rfl Gd.free (by kernel_rfl) rfl (WrA.cE hce rfl) ?_
          rintro _ _ _ ⟨_, ⟨rfl, rfl, rfl⟩, rfl⟩
          refine ⟨⟨zX, zE⟩, XQA.re zC ?_⟩
          refine qa 2 ?_
          refine XQA1.wr0 (listed' := #[true, true, true, true, true, true, true, true, false, false, false]) rfl rfl Gd.free (by kernel_rfl) rfl WrA.bx ?_
          rintro _ _ _ ⟨g22, rfl, rfl, rfl⟩
          refine ⟨⟨zX, zE⟩, XQA.re zC ?_⟩
          refine XQA.pu (i := 8) (listed' := #[true, true, true, true, true, true, true, true, true, false, false]) rfl rfl (by kernel_rfl) rfl Gd.free (Rd.bl (fun _ _ => tyrow) rfl rfl rfl) ?_
          refine qa 9 ?_
          refine XQA1.wr0 (listed' := #[true, true, true, true, true, true, true, true, true, true, false]) rfl rfl Gd.free (by kernel_rfl) rfl WrA.bx ?_
          rintro _ _ _ ⟨g29, rfl, rfl, rfl⟩
          refine ⟨⟨zX, zE⟩, XQA.re zC ?_⟩
          refine XQA.pu (i := 10) (listed' := #[true, true, true, true, true, true, true, true, true, true, true]) rfl rfl (by kernel_rfl) rfl Gd.free Rd.asg ?_
          refine XQA.nil rfl ?_
          refine DA.thn_normal ⟨zK, ((g29, (db, g22)), (pj, cj)), _, zM, ?_, rfl, rfl⟩; exact zE
    · refine XQA1.wr0 (listed' := #[false, true, true, true, true, false, true, false, false, false, false]) rfl rfl Gd.free (by kernel_rfl) rfl WrA.bx ?_
      rintro _ _ _ ⟨g22, rfl, rfl, rfl⟩
      refine ⟨⟨zX, zE⟩, XQA.re zC ?_⟩
      refine qa 0 ?_
      refine XQA1.wr0 (listed' := #[true, true, true, true, true, false, true, false, false, false, false]) rfl rfl Gd.free (by kernel_rfl) rfl (WrA.cE hnd rfl) ?_
      rintro _ _ _ ⟨_, ⟨db, rfl, rfl, rfl⟩, rfl⟩
      refine ⟨⟨zX, zE⟩, XQA.re zC ?_⟩
      refine qa 5 ?_
      refine XQA1.wr0 (listed' := #[true, true, true, true, true, true, true, false, false, false, false]) rfl rfl Gd.free (by kernel_rfl) rfl (WrA.cE hcl rfl) ?_
      rintro _ _ _ ⟨_, ⟨pj, cj, rfl, rfl, rfl⟩, rfl⟩
      refine ⟨⟨zX, zE⟩, XQA.re zC ?_⟩
      refine qa 7 ?_
      refine XQA1.wr0 (listed' := #[true, true, true, true, true, true, true, true, false, false, false]) rfl rfl Gd.free (by kernel_rfl) rfl (WrA.cE hce rfl) ?_
      rintro _ _ _ ⟨_, ⟨rfl, rfl, rfl⟩, rfl⟩
      refine ⟨⟨zX, zE⟩, XQA.re zC ?_⟩
      refine XQA.pu (i := 8) (listed' := #[true, true, true, true, true, true, true, true, true, false, false]) rfl rfl (by kernel_rfl) rfl Gd.free (Rd.bl (fun _ _ => tyrow) rfl rfl rfl) ?_
      refine qa 9 ?_
      refine XQA1.wr0 (listed' := #[true, true, true, true, true, true, true, true, true, true, false]) rfl rfl Gd.free (by kernel_rfl) rfl WrA.bx ?_
      rintro _ _ _ ⟨g29, rfl, rfl, rfl⟩
      refine ⟨⟨zX, zE⟩, XQA.re zC ?_⟩
      refine XQA.pu (i := 10) (listed' := #[true, true, true, true, true, true, true, true, true, true, true]) rfl rfl (by kernel_rfl) rfl Gd.free Rd.asg ?_
      refine XQA.nil rfl ?_
      refine DA.thn_normal ⟨zK, ((g29, (db, g22)), (pj, cj)), _, zM, ?_, rfl, rfl⟩; exact zE
  rintro ⟨⟨g29, db, g22⟩, pj, cj⟩ δ _ _ ⟨rfl, rfl⟩
  dsimp only [ovr, List.foldl]
  refine zT (zS (zR (zA rfl ?_)))
  refine XOA.ent (Ent.selNil (e := 2) (size := 1) (Ent.refl _)) ?_
  refine XOA.ent (Ent.foldC (Θ := [blk g22 _ 61, lst 2 1 (.slice none 0 0) 0 []]) zD (Prin.mk (out := []) (wrong := false) rfl rfl rfl) (Ent.refl _)) ?_
  refine XOA.frz (R := lst 2 1 (.slice pj inp.length cj) _ _) zL lst_frz lst_frz_mono ?_
  rintro σ3 ⟨⟩ hf3 hs3
  have hj3 := pints_frz rfl hf3
  refine zw rfl (WrA.cE (wake_l σ3 g29 db g22 _ q pj (codeOf p).length cq cj nc inp DiskS.new s0 hG0 hj3 (by omega)) rfl) ?_
  rintro _ σ4 _ ⟨_, ⟨g4, mb4, sb4, pi4, ci4, rfl, hs4, hi4, rfl⟩, rfl⟩
  refine XOA.cl ?_
  rw [pages0]
  refine zN (zT (zS (zR (zA rfl ?_)))); refine zO rfl Rd.asg ?_; refine zO rfl Rd.asg ?_; refine zN (zT (XA.ret ?_))
  exact bodyA.ret (ResA.two rfl rfl rfl) zE ⟨g29, db, g22, q, cq, rfl, (hs2.trans hs3).trans hs4, hsl.mono (hs3.trans hs4) (fun _ _ h => h), ⟨g4, mb4, sb4, DiskS.new, s0, pi4, ci4, pj, cj, pages0, rfl, hG0, hi4, hj3.mono hs4, rfl⟩⟩
def rLStp : RT LStp := fun _ cs x => cs = [i64 x.kind, i64 x.n, i64 x.K, .int .u64 x.mask] ∧ x.K < 9223372036854775808 ∧ 0 ≤ x.mask ∧ x.mask < 18446744073709551616
def lifeAll (code : List In) (inp : List Int) : List LStp → Li → Li × Int
  | [], L => (L, 0)
  | s :: r, L => if stpFault s ≠ 0 then (L, stpFault s) else lifeAll code inp r (doL code inp s L).1
end Go.Proofs.YtmnmcjdgnpgchaaGreat

namespace Go.Proofs.YtmnmcjdgnpgchaaGreat
open Go X
set_option maxHeartbeats 4000000
def saysC (L : Li) (f : Int) : Int := if f = 0 then nowC L.b else 0
def saysO (L : Li) (f : Int) : List Int := if f = 0 then L.b.out else []
def saysV (L : Li) (f : Int) : List Int := if f = 0 then L.b.m.cells else []
theorem runlife_a (σ : PH) (cs : List Value) (p : Pr) (iv : Value) (inp : List Int) (lv : Value) (l : List LStp) (fuel : Int) (hp : PrAt σ cs p) (hi : PInts σ iv inp) (hl : PSl 4 rLStp σ lv l) (hl100 : l.length ≤ 100) (hN : stsN p.body ≤ 10000) (hcl : (codeOf p).length ≤ 1000000) (hc : checkP p = 0) (h40 : inp.length ≤ 40) :
    CallsA Tryz.prog 10 #[.agg cs.toArray, iv, lv, i64 fuel] σ [] (RetA fun v σ' Γ' => ∃ (L : Li) (f : Int) (po : Option Addr) (co : Nat) (pv : Option Addr) (cv : Nat), lifeAll (codeOf p) inp (l ++ [⟨1, fuel, 0, 0⟩]) (L0 (sizes p.vars).toNat) = (L, f) ∧ v = .tuple #[.agg #[i64 (saysC L f), .slice po (saysO L f).length co, .slice pv (saysV L f).length cv], i64 f] ∧ PInts σ' (.slice po (saysO L f).length co) (saysO L f) ∧ PInts σ' (.slice pv (saysV L f).length cv) (saysV L f) ∧ σ.sub σ' ∧ Γ' = []) := by
  have hp0 := hp
  obtain ⟨vs, bs, rfl, hv, hb⟩ := hp
  obtain ⟨pv, cv, rfl, -, -⟩ := hv.shape
  obtain ⟨pb0, cb, rfl, -, -⟩ := hb.shape
  obtain ⟨pl, cl, rfl, hll, hlm⟩ := hl.shape
  have hnew := newl_ok σ _ p iv inp hp0 hi hN hc h40
  obtain ⟨pi0, ci0, rfl, hil, him⟩ := hi.shape
  have hL00 := life0 hc inp (by omega) hcl
  refine enterA4 Tryz.func10 rfl rfl rfl ?_
  refine zS (zR ?_)
  refine zw rfl WrA.bx ?_
  rintro _ _ _ ⟨g4, rfl, rfl, rfl⟩
  refine zw rfl (WrA.alloc (tyrow rfl)) ?_
  rintro _ _ _ ⟨g8, rfl, rfl, rfl⟩
  refine zO rfl Rd.asg ?_; refine zN (zT (zS (zS (zR (zA rfl ?_))))); refine zO rfl (Rd.lenSlice (tyrow rfl) rfl rfl) ?_; refine zO rfl (Rd.gtr rfl rfl) ?_; refine zN (zT (XA.condF rfl (by first | rfl | exact decide_eq_false (by omega)) ?_)); refine XA.skip (zT (zS (zR (zO rfl (Rd.ldA rfl) ?_))))
  refine zA rfl ?_
  refine zw rfl (WrA.cE (hnew) rfl) ?_
  rintro _ σ1 _ ⟨Γ1, ⟨gx, db, pb, pc, cc, rfl, hs1, hcd, hL1⟩, rfl⟩
  refine XOA.cl ?_
  have hL1' := hL1
  obtain ⟨g, mb, sb, d, s, pi, ci, pj, cj, hQ, hsg, hG, hi1, hj1, rfl⟩ := hL1
  refine zA rfl ?_; refine zO rfl (Rd.extract rfl rfl) ?_; refine zO rfl (Rd.extract rfl rfl) ?_; refine zO rfl Rd.asg ?_; refine zO rfl Rd.asg ?_; refine zN (zT (zS (zS (zR (zA rfl ?_))))); refine zO rfl (Rd.neq rfl rfl) ?_; refine zN (zT (XA.condF rfl rfl (XA.skip (zT (zS (zS (zR (zA rfl ?_))))))))
  refine zO rfl (Rd.lenSlice (tyrow rfl) rfl rfl) ?_; refine zA rfl ?_; refine zN (zT (XA.block ?_))
  refine XA.gen [(3, _), (8, _), (9, _), (10, _), (32, _), (33, _), (34, _)] ⟨(by with_reducible (conv => lhs; whnf)), (by with_reducible (conv => lhs; whnf)), (by with_reducible (conv => lhs; whnf)), (by with_reducible (conv => lhs; whnf)), (by with_reducible (conv => lhs; whnf)), (by with_reducible (conv => lhs; whnf)), (by with_reducible (conv => lhs; whnf)), trivial⟩ (fun δ => ?_)
  dsimp only [List.foldl]
  refine XA.loop [(9, 9), (13, 15), (34, 48)] (fun x : Nat × Li => [(34, i64 x.1)]) (fun x σ' Γ' => σ1.sub σ' ∧ x.1 ≤ l.length ∧ LiOk p inp x.2 (3000 * x.1) ∧ lifeAll (codeOf p) inp (l ++ [⟨1, fuel, 0, 0⟩]) (L0 (sizes p.vars).toNat) = lifeAll (codeOf p) inp (l.drop x.1 ++ [⟨1, fuel, 0, 0⟩]) x.2 ∧ ∃ gn : Int, gn ≤ (3000 * x.1 : Nat) ∧ ∃ Γ1, LifeG σ' gx db pb pc cc (sizes p.vars).toNat p inp x.2 gn Γ1 ∧ Γ' = blk g8 [i64 0, .slice none 0 0, .slice none 0 0] 35 :: Γ1) (fun x => l.length - x.1) (0, L0 (sizes p.vars).toNat) (by exact ⟨rfl, trivial⟩) (Δ0 := _) ?_ (⟨.refl _, Nat.zero_le _, hL00, rfl, 0, Int.le_refl _, _, hL1', rfl⟩) ?_
  · exact zE
  rintro ⟨i, L⟩ δ σ2 _ ⟨hs2, hin, hok, hall, gn, hgn, Γ2, hL2, rfl⟩
  dsimp only [ovr, List.foldl]
  have hin : i ≤ l.length := hin
  simp only at hok hall hgn hL2
  have hL2' := hL2
  obtain ⟨g2, mb2, sb2, d2, s2, pi2, ci2, pj2, cj2, hQ2, hsg2, hG2, hi2, hj2, rfl⟩ := hL2
  have hc2 := hcd.mono hs2 (fun _ _ h => h)
  refine zS (zR (zO rfl (Rd.lss rfl rfl) ?_)); refine zN (zT (zS ?_))
  refine XA.condp rfl (fun hlt => ?_) (fun hlt => ?_)
  · have hlt : i < l.length := by omega
    obtain ⟨x, hx⟩ : ∃ x, l[i]? = some x := ⟨_, List.getElem?_eq_getElem hlt⟩
    obtain ⟨gr, orow, row, rfl, ⟨hrx, hxK, hx0, hx1⟩, hrl, hrow⟩ := (hl.mono (hs1.trans hs2) (fun cs x h => h)).at hx
    subst hrx
    have hdrop : l.drop i = x :: l.drop (i + 1) := by
      rw [List.drop_eq_getElem_cons hlt]; congr 1
      exact (List.getElem?_eq_some_iff.1 hx).2
    rw [hdrop, List.cons_append, lifeAll] at hall
    have hdo := do_l σ2 gx db pb pc cc (sizes p.vars).toNat p inp L gn (3000 * i) x _ hxK hx0 hx1 hc2 hL2' hok (by omega) hgn
    obtain ⟨hok2, hle2, -⟩ := doL_ok x hok (by omega)
    refine XA.skip (zT (zS (XA.block (zS (zR (zO rfl (Rd.ixS rfl rfl) ?_)))))); refine zO rfl (Rd.ldA rfl) ?_
    refine zw rfl (WrA.alloc (tyrow rfl)) ?_
    rintro _ _ _ ⟨g13, rfl, rfl, rfl⟩
    refine zw rfl (WrA.st (tyrow rfl) rfl) ?_
    rintro _ _ _ ⟨rfl, rfl, rfl⟩
    refine zN (zT (zS (zR (zA rfl ?_)))); refine zO rfl (Rd.ldA rfl) ?_
    refine zw rfl (WrA.cE (hdo) rfl) ?_
    rintro _ σ3 _ ⟨Γ3, ⟨rfl, hs3, gn3, hg3, -, hL3⟩, rfl⟩
    refine XOA.cl ?_
    have hL3' := hL3
    obtain ⟨g3, mb3, sb3, d3, s3, pi3, ci3, pj3, cj3, hQ3, hsg3, hG3, hi3, hj3, rfl⟩ := hL3
    refine zA rfl ?_; refine zO rfl (Rd.extract rfl rfl) ?_; refine zO rfl (Rd.extract rfl rfl) ?_; refine zO rfl Rd.asg ?_; refine zO rfl Rd.asg ?_; refine zN (zT (zS (zR (zA rfl ?_)))); refine zO rfl (Rd.neq rfl rfl) ?_; refine zN (zT ?_)
    by_cases hf : stpFault x = 0
    · rw [if_neg (fun q => q hf)] at hall
      refine XA.condF rfl (by first | rfl | exact decide_eq_false (fun q => q hf)) ?_
      refine XA.skip (DA.inb_normal (zT (zR (zO rfl zI ?_)))); refine zA rfl ?_; refine zN (zT ?_)
      refine ⟨(Keep.upd (Keep.upd (Keep.upd (Keep.upd (Keep.upd (Keep.upd (Keep.upd (Keep.upd (Keep.upd (Keep.updO (Keep.upd (Keep.upd (Keep.updN (Keep.updO (Keep.upd (Keep.upd (Keep.upd (Keep.upd (Keep.hav (Keep.hav (Keep.hav (Keep.refl _ _) rfl) rfl) rfl) rfl) rfl) rfl) rfl) rfl)) rfl) rfl) rfl) rfl) rfl) rfl) rfl) rfl) rfl) rfl) rfl) rfl), (i + 1, (doL (codeOf p) inp x L).1), _, zM, ?_, ⟨hs2.trans hs3, hlt, hok2.le (by show _ ≤ 3000 * (i + 1); omega), hall, gn3, by show gn3 ≤ ((3000 * (i + 1) : Nat) : Int); omega, _, hL3', rfl⟩, (by simp only; omega)⟩
      · exact zE
    · rw [if_pos hf] at hall
      refine XA.condT rfl (by first | rfl | exact decide_eq_true hf) ?_; refine zS (zR ?_)
      refine zO rfl (Rd.bl (fun _ _ => tyrow) rfl rfl rfl) ?_
      refine zA rfl ?_
      refine zw rfl (WrA.st (tyrow rfl) rfl) ?_
      rintro _ _ _ ⟨rfl, rfl, rfl⟩
      refine zO rfl Rd.asg ?_; refine zN (zT (XA.ret (DA.inb_ret (DA.thn_ret (DA.thn_ret (DA.inb_ret (DA.thn_ret ?_)))))))
      exact bodyA.ret (ResA.ct rfl rfl rfl (Ld.atBlk (tyrow rfl) rfl zL rfl (by first | exact take0 (by first | rfl | assumption | (refine (ints_len _).trans ?_; assumption) | (simp [*]; (first | done | fail))) | assumption | exact take_app (by first | rfl | assumption | (refine (ints_len _).trans ?_; assumption) | (simp [*]; (first | done | fail))) | (conv => lhs; simp only [List.drop_succ_cons, List.drop_zero, List.take_succ_cons, List.take_zero])) (by first | rfl | assumption | (refine (ints_len _).trans ?_; assumption) | (simp [*]; (first | done | fail))))) (Ent.nil _) ⟨_, _, none, 0, none, 0, hall, by rw [saysC, saysO, saysV, if_neg hf, if_neg hf, if_neg hf]; rfl, by rw [saysO, if_neg hf]; exact PInts.nil _, by rw [saysV, if_neg hf]; exact PInts.nil _, (hs1.trans hs2).trans hs3, rfl⟩
  obtain rfl : i = l.length := by omega
  rw [List.drop_length, List.nil_append] at hall
  have hdo := do_l σ2 gx db pb pc cc (sizes p.vars).toNat p inp L gn (3000 * l.length) ⟨1, fuel, 0, 0⟩ _ (show (0 : Int) < 9223372036854775808 by decide) (show (0 : Int) ≤ 0 by decide) (show (0 : Int) < 18446744073709551616 by decide) hc2 hL2' hok (by omega) hgn
  obtain ⟨hok2, hle2, -⟩ := doL_ok ⟨1, fuel, 0, 0⟩ hok (by omega)
  rw [lifeAll] at hall
  refine XA.exit (DA.thn_exit (DA.thn_exit (DA.inb_same (zT (zS (zS (zR (zA rfl ?_)))))))); refine zA rfl ?_
  refine zO rfl (Rd.bl (fun _ _ => tyrow) rfl rfl rfl) ?_
  refine zw rfl (WrA.cE (hdo) rfl) ?_
  rintro _ σ3 _ ⟨Γ3, ⟨rfl, hs3, gn3, hg3, -, hL3⟩, rfl⟩
  refine XOA.cl ?_
  have hL3' := hL3
  obtain ⟨g3, mb3, sb3, d3, s3, pi3, ci3, pj3, cj3, hQ3, hsg3, hG3, hi3, hj3, rfl⟩ := hL3
  dsimp only [List.append, List.cons_append, List.nil_append]
  refine zA rfl ?_; refine zO rfl (Rd.extract rfl rfl) ?_; refine zO rfl (Rd.extract rfl rfl) ?_; refine zO rfl Rd.asg ?_; refine zO rfl Rd.asg ?_; refine zN (zT (zS (zR (zA rfl ?_)))); refine zO rfl (Rd.neq rfl rfl) ?_; refine zN (zT ?_)
  by_cases hf : stpFault ⟨1, fuel, 0, 0⟩ = 0
  · rw [if_neg (fun q => q hf), lifeAll] at hall
    have hnow := nowl_l σ3 gx db pb pc cc (sizes p.vars).toNat p inp (doL (codeOf p) inp ⟨1, fuel, 0, 0⟩ L).1 gn3 _ _ hL3' hok2 (by omega) hok2.mach.cells.symm
    refine XA.condF rfl (by first | rfl | exact decide_eq_false (fun q => q hf)) ?_
    refine XA.skip (zT (zS (zR (zA rfl ?_))))
    refine zw rfl (WrA.cE (hnow) rfl) ?_
    rintro _ σ4 _ ⟨Γ4, ⟨po, co, pv2, cv2, rfl, hvo, hvc, hs4, hL4⟩, rfl⟩
    refine XOA.cl ?_
    obtain ⟨g4, mb4, sb4, d4, s4, pi4, ci4, pj4, cj4, -, -, -, -, -, rfl⟩ := hL4
    dsimp only [List.append, List.cons_append, List.nil_append]
    refine zw rfl (WrA.st (tyrow rfl) rfl) ?_
    rintro _ _ _ ⟨rfl, rfl, rfl⟩
    refine zO rfl Rd.asg ?_; refine zN (zT (XA.ret ?_))
    rw [← hok2.mach.cells] at hvc
    exact bodyA.ret (ResA.ct rfl rfl rfl (Ld.atBlk (tyrow rfl) rfl zL rfl (by first | exact take0 (by first | rfl | assumption | (refine (ints_len _).trans ?_; assumption) | (simp [*]; (first | done | fail))) | assumption | exact take_app (by first | rfl | assumption | (refine (ints_len _).trans ?_; assumption) | (simp [*]; (first | done | fail))) | (conv => lhs; simp only [List.drop_succ_cons, List.drop_zero, List.take_succ_cons, List.take_zero])) (by first | rfl | assumption | (refine (ints_len _).trans ?_; assumption) | (simp [*]; (first | done | fail))))) (Ent.nil _) ⟨_, 0, po, co, pv2, cv2, hall, by rw [← hok2.mach.cells]; rfl, hvo, hvc, ((hs1.trans hs2).trans hs3).trans hs4, rfl⟩
  · rw [if_pos hf] at hall
    refine XA.condT rfl (by first | rfl | exact decide_eq_true hf) ?_; refine zS (zR ?_)
    refine zO rfl (Rd.bl (fun _ _ => tyrow) rfl rfl rfl) ?_
    refine zA rfl ?_
    refine zw rfl (WrA.st (tyrow rfl) rfl) ?_
    rintro _ _ _ ⟨rfl, rfl, rfl⟩
    refine zO rfl Rd.asg ?_; refine zN (zT (XA.ret (DA.thn_ret ?_)))
    exact bodyA.ret (ResA.ct rfl rfl rfl (Ld.atBlk (tyrow rfl) rfl zL rfl (by first | exact take0 (by first | rfl | assumption | (refine (ints_len _).trans ?_; assumption) | (simp [*]; (first | done | fail))) | assumption | exact take_app (by first | rfl | assumption | (refine (ints_len _).trans ?_; assumption) | (simp [*]; (first | done | fail))) | (conv => lhs; simp only [List.drop_succ_cons, List.drop_zero, List.take_succ_cons, List.take_zero])) (by first | rfl | assumption | (refine (ints_len _).trans ?_; assumption) | (simp [*]; (first | done | fail))))) (Ent.nil _) ⟨_, _, none, 0, none, 0, hall, by rw [saysC, saysO, saysV, if_neg hf, if_neg hf, if_neg hf]; rfl, by rw [saysO, if_neg hf]; exact PInts.nil _, by rw [saysV, if_neg hf]; exact PInts.nil _, (hs1.trans hs2).trans hs3, rfl⟩
end Go.Proofs.YtmnmcjdgnpgchaaGreat

namespace Go.Proofs.YtmnmcjdgnpgchaaGreat
open Go X
set_option maxHeartbeats 4000000
def stepsL : List LStp := [⟨3, 99, 2, 0⟩, ⟨1, 20, 0, 0⟩, ⟨2, 0, 0, 0⟩, ⟨3, 99, 1, 1⟩]
def codeLL : List In := [⟨2, 0, 0, 0⟩, ⟨1, 0, 0, 3⟩, ⟨7, 0, 0, 0⟩, ⟨13, 12, 0, 0⟩, ⟨2, 0, 0, 0⟩, ⟨1, 0, 0, 1⟩, ⟨4, 0, 0, 0⟩, ⟨9, 0, 0, 0⟩, ⟨2, 0, 0, 0⟩, ⟨11, 0, 0, 0⟩, ⟨15, 0, 0, 0⟩, ⟨14, 0, 0, 0⟩, ⟨16, 0, 0, 0⟩]
theorem checkL : checkP progL = 0 := by decide +kernel
theorem codeLe : codeOf progL = codeLL := by decide +kernel
theorem saysL : (lifeAll codeLL [] (stepsL ++ [⟨1, 99, 0, 0⟩]) (L0 1)).2 = 0 ∧ nowC (lifeAll codeLL [] (stepsL ++ [⟨1, 99, 0, 0⟩]) (L0 1)).1.b = 0 ∧ (lifeAll codeLL [] (stepsL ++ [⟨1, 99, 0, 0⟩]) (L0 1)).1.b.out = [1, 2, 3] ∧ (lifeAll codeLL [] (stepsL ++ [⟨1, 99, 0, 0⟩]) (L0 1)).1.b.m.cells = [3] := by
  refine ⟨?_, ?_, ?_, ?_⟩ <;> decide +kernel
set_option maxRecDepth 20000 in
theorem lifebegun_a (σ : PH) : CallsA Tryz.prog 6 #[] σ [] (RetA fun v σ' Γ' => v = .bool true ∧ σ.sub σ' ∧ Γ' = []) := by
  obtain ⟨q1, q2, q3, q4⟩ := saysL
  refine enterA0 Tryz.func6 rfl rfl rfl ?_
  refine zS (zR (zO rfl Rd.asg ?_)); refine zN (zT (zS (zR ?_)))
  refine zw rfl (WrA.cE (counter_a σ) rfl) ?_
  rintro _ σ1 _ ⟨_, ⟨cs, rfl, hp, hs1, rfl⟩, rfl⟩
  refine XOA.cl ?_
  have hp0 := hp
  obtain ⟨vs, bs, rfl, hv, hb⟩ := hp
  obtain ⟨pv, cv, rfl, -, -⟩ := hv.shape
  obtain ⟨pb0, cb, rfl, -, -⟩ := hb.shape
  refine zO rfl (Rd.bl (fun _ _ => tyrow) rfl rfl rfl) ?_
  refine zO rfl (Rd.bl (fun _ _ => tyrow) rfl rfl rfl) ?_
  refine zO rfl (Rd.bl (fun _ _ => tyrow) rfl rfl rfl) ?_
  refine zO rfl (Rd.bl (fun _ _ => tyrow) rfl rfl rfl) ?_
  refine zw rfl (WrA.bs (fun _ _ => tyrow) rfl rfl rfl rfl rfl) ?_
  rintro _ _ _ ⟨g9, rfl, rfl, rfl⟩
  refine XOA.frz (R := blk g9 _ 45) zL blk_frz blk_frz_mono ?_
  rintro σ2 ⟨⟩ hr9 hs2
  have hsl : PSl 4 rLStp σ2 (.slice (some ⟨g9, 0, none⟩) 4 4) stepsL := by
    have z : ∀ a b c d : Int, c < 9223372036854775808 → 0 ≤ d → d < 18446744073709551616 → rLStp σ2 [i64 a, i64 b, i64 c, .int .u64 d] ⟨a, b, c, d⟩ := fun a b c d h1 h2 h3 => ⟨rfl, h1, h2, h3⟩
    exact Rows_.psl (((((Rows_.nil 4 rLStp σ2).snoc rfl (z 3 99 2 0 (by decide) (by decide) (by decide))).snoc rfl (z 1 20 0 0 (by decide) (by decide) (by decide))).snoc rfl (z 2 0 0 0 (by decide) (by decide) (by decide))).snoc rfl (z 3 99 1 1 (by decide) (by decide) (by decide))) rfl ⟨Nat.le_refl _, by simp [maxLen], rfl, fun _ => ⟨g9, 0, rfl, hr9⟩⟩
  have hrun := runlife_a σ2 _ progL (.slice none 0 0) [] _ stepsL 99 (hp0.mono hs2) (PInts.nil _) hsl (by decide) (by decide +kernel) (by rw [codeLe]; decide) checkL (by decide)
  rw [codeLe, show (sizes progL.vars).toNat = 1 from rfl] at hrun
  refine zw rfl (WrA.cE (hrun) rfl) ?_
  rintro _ σ3 _ ⟨_, ⟨L, f, po, co, pv2, cv2, hall, rfl, hvo, hvc, hs3, rfl⟩, rfl⟩
  refine XOA.cl ?_
  rw [hall] at q1 q2 q3 q4
  dsimp only at q1 q2 q3 q4
  subst q1
  have eC : saysC L 0 = 0 := q2
  have eO : saysO L 0 = [1, 2, 3] := q3
  have eV : saysV L 0 = [3] := q4
  rw [eO] at hvo
  rw [eV] at hvc
  rw [eC, eO, eV]
  refine zA rfl ?_; refine zO rfl (Rd.extract rfl rfl) ?_; refine zO rfl (Rd.extract rfl rfl) ?_
  refine zw rfl (WrA.alloc (tyrow rfl)) ?_
  rintro _ _ _ ⟨g1, rfl, rfl, rfl⟩
  refine zw rfl (WrA.st (tyrow rfl) rfl) ?_
  rintro _ _ _ ⟨rfl, rfl, rfl⟩
  refine zO rfl Rd.asg ?_; refine zN (zT (zS (zR (zA rfl ?_)))); refine zO rfl (Rd.eql rfl rfl) ?_; refine zA rfl ?_
  first | (refine zG ?_; refine zV rfl rfl ?_) | refine zH ?_
  first | (refine zG ?_; refine zB rfl rfl (tyrow rfl) rfl ?_) | refine zH ?_
  first | (refine zG ?_; refine zO rfl (Rd.eql rfl rfl) ?_) | refine zH ?_
  refine zO rfl zP ?_; refine zA rfl ?_
  first | (refine zG ?_; refine zV rfl rfl ?_) | refine zH ?_
  first | (refine zG ?_; refine zB rfl rfl (tyrow rfl) rfl ?_) | refine zH ?_
  first | refine XOA.wanted rfl rfl ?_ | refine XOA.wq rfl rfl ?_
  refine zw rfl (X.WrA.bs (fun _ _ => tyrow) rfl rfl rfl rfl rfl) ?_
  rintro _ _ _ ⟨g23, rfl, rfl, rfl⟩
  refine XOA.frz (R := blk g23 _ 2) zL blk_frz blk_frz_mono ?_
  rintro σ4 ⟨⟩ hr23 hs4
  have h123 : PInts σ4 (.slice (some ⟨g23, 0, none⟩) 3 3) [1, 2, 3] := ⟨_, _, rfl, Nat.le_refl _, by simp [maxLen], fun _ => ⟨g23, 0, rfl, hr23⟩⟩
  first | refine XOA.wanted rfl rfl ?_ | refine XOA.wq rfl rfl ?_
  refine zw rfl (WrA.cE (slongs_a σ4 _ _ _ _ (hvo.mono hs4) h123) rfl) ?_
  rintro _ _ _ ⟨_, ⟨rfl, rfl, rfl⟩, rfl⟩
  refine XOA.cl ?_
  rw [show decide (([1, 2, 3] : List Int) = [1, 2, 3]) = true from rfl]
  refine zO rfl zP ?_; refine zA rfl ?_
  first | (refine zG ?_; refine zV rfl rfl ?_) | refine zH ?_
  first | (refine zG ?_; refine zB rfl rfl (tyrow rfl) rfl ?_) | refine zH ?_
  first | refine XOA.wanted rfl rfl ?_ | refine XOA.wq rfl rfl ?_
  refine zw rfl (X.WrA.bs1 (tyrow rfl) rfl (tyrow rfl)) ?_
  rintro _ _ _ ⟨g29, rfl, rfl, rfl⟩
  refine XOA.frz (R := blk g29 _ 2) zL blk_frz blk_frz_mono ?_
  rintro σ5 ⟨⟩ hr29 hs5
  have h3 : PInts σ5 (.slice (some ⟨g29, 0, none⟩) 1 1) [3] := ⟨_, _, rfl, Nat.le_refl _, by simp [maxLen], fun _ => ⟨g29, 0, rfl, hr29⟩⟩
  first | refine XOA.wanted rfl rfl ?_ | refine XOA.wq rfl rfl ?_
  refine zw rfl (WrA.cE (slongs_a σ5 _ _ _ _ (hvc.mono (hs4.trans hs5)) h3) rfl) ?_
  rintro _ _ _ ⟨_, ⟨rfl, rfl, rfl⟩, rfl⟩
  refine XOA.cl ?_
  rw [show decide (([3] : List Int) = [3]) = true from rfl]
  refine zO rfl zP ?_; refine zO rfl Rd.asg ?_; refine zN (zT (XA.ret ?_))
  exact bodyA.ret (ResA.one rfl rfl) (Ent.nil _) ⟨rfl, (((hs1.trans hs2).trans hs3).trans hs4).trans hs5, rfl⟩
set_option maxRecDepth 20000 in
theorem greatlife_a (σ : PH) (cs : List Value) (p : Pr) (iv : Value) (inp : List Int) (lv : Value) (l : List LStp) (hp : PrAt σ cs p) (hi : PInts σ iv inp) (hl : PSl 4 rLStp σ lv l) :
    CallsA Tryz.prog 7 #[.agg cs.toArray, iv, lv] σ [] (RetA fun v σ' Γ' => ∃ b, v = .bool b ∧ (b = false → Small p ∧ inp.length ≤ 100 ∧ l.length ≤ 60) ∧ σ = σ' ∧ Γ' = []) := by
  have hp0 := hp
  obtain ⟨vs, bs, rfl, hv, hb⟩ := hp
  obtain ⟨pv, cv, rfl, -, -⟩ := hv.shape
  obtain ⟨pb0, cb, rfl, -, -⟩ := hb.shape
  obtain ⟨pl, cl, rfl, hll, hlm⟩ := hl.shape
  obtain ⟨pi0, ci0, rfl, hil, him⟩ := hi.shape
  simp only [maxLen] at hlm him
  refine enterA3 Tryz.func7 rfl rfl rfl ?_
  refine zS (zR ?_)
  refine zw rfl WrA.bx ?_
  rintro _ _ _ ⟨g3, rfl, rfl, rfl⟩
  refine zO rfl Rd.asg ?_; refine zN (zT (zS (zR (zO rfl Rd.asg ?_)))); refine zN (zT (zS (zS (zR (zO rfl Rd.asg ?_))))); refine zN (zT (XA.block ?_))
  refine XA.gen [(1, _), (2, _), (3, _), (6, _), (7, _), (8, _)] ⟨(by with_reducible (conv => lhs; whnf)), (by with_reducible (conv => lhs; whnf)), (by with_reducible (conv => lhs; whnf)), (by with_reducible (conv => lhs; whnf)), (by with_reducible (conv => lhs; whnf)), (by with_reducible (conv => lhs; whnf)), trivial⟩ (fun δ => ?_)
  dsimp only [List.foldl]
  refine XA.loop [(7, 39)] (fun x : Nat × Nat => [(8, i64 x.1), (7, i64 x.2)]) (fun x σ' Γ' => σ = σ' ∧ x.1 ≤ l.length ∧ x.1 ≤ 200 ∧ x.2 ≤ 3000 * x.1 ∧ Γ' = [blk g3 [.slice pv p.vars.length cv, .slice pb0 p.body.length cb] 25]) (fun x => l.length - x.1) (0, 0) (by exact ⟨rfl, rfl, trivial⟩) (Δ0 := _) ?_ (⟨rfl, Nat.zero_le _, by decide, Nat.zero_le _, rfl⟩) ?_
  · exact zE
  rintro ⟨i, a⟩ δ _ _ ⟨rfl, hin, hi2, hia, rfl⟩
  dsimp only [ovr, List.foldl]
  have hin : i ≤ l.length := hin
  have hi2 : i ≤ 200 := hi2
  have hia : a ≤ 3000 * i := hia
  by_cases hlt : i < l.length
  · by_cases h200 : i < 200
    · obtain ⟨x, hx⟩ : ∃ x, l[i]? = some x := ⟨_, List.getElem?_eq_getElem hlt⟩
      obtain ⟨gr, orow, row, rfl, ⟨hrx, -⟩, hrl, hrow⟩ := hl.at hx
      obtain ⟨kd, n, K, m⟩ := x
      simp only at hrx
      subst hrx
      have hrow1 : PRow σ gr (orow + i * 4 + 1) [i64 n] := hrow.sub (j := 1) rfl
      by_cases hn0 : 0 < n
      · by_cases hn1 : n ≤ 3000
        · obtain ⟨n', rfl⟩ : ∃ j : Nat, n = j := ⟨n.toNat, by omega⟩
          refine zS (zS (zR (zA rfl ?_))); refine zA rfl ?_; refine zO rfl (Rd.lenSlice (tyrow rfl) rfl rfl) ?_; refine zO rfl (Rd.lss rfl rfl) ?_; refine zA rfl ?_
          first | (refine zG ?_; refine zA rfl ?_) | refine zH ?_
          first | (refine zG ?_; refine zO rfl (Rd.lss rfl rfl) ?_) | refine zH ?_
          refine zO rfl zP ?_; refine zN (zT (XA.condT rfl (by first | rfl | exact decide_eq_true (by omega)) ?_)); refine XA.skip (zT (zS (XA.block (zS (zR (zA rfl ?_)))))); refine zA rfl ?_; refine zO rfl (Rd.ixS rfl rfl) ?_; refine zV rfl rfl ?_; refine zB rfl rfl (tyrow rfl) rfl ?_
          refine zO rfl (Rd.gtr rfl rfl) ?_; refine zA rfl ?_
          first | (refine zG ?_; refine zA rfl ?_) | refine zH ?_
          first | (refine zG ?_; refine zA rfl ?_) | refine zH ?_
          first | (refine zG ?_; refine zO rfl (Rd.ixS rfl rfl) ?_) | refine zH ?_
          first | (refine zG ?_; refine zV rfl rfl ?_) | refine zH ?_
          first | (refine zG ?_; refine zB rfl rfl (tyrow rfl) rfl ?_) | refine zH ?_
          first | (refine zG ?_; refine zO rfl (Rd.leq rfl rfl) ?_) | refine zH ?_
          refine zO rfl zP ?_; refine zN (zT (XA.condT rfl (by first | rfl | exact decide_eq_true (by omega)) ?_)); refine zR (zA rfl ?_); refine zA rfl ?_; refine zA rfl ?_; refine zO rfl (Rd.ixS rfl rfl) ?_; refine zV rfl rfl ?_; refine zB rfl rfl (tyrow rfl) rfl ?_; refine zO rfl zI ?_
          refine zO rfl Rd.asg ?_; refine zN (DA.inb_normal (zT (zR (zA rfl ?_)))); refine zO rfl zI ?_; refine zO rfl Rd.asg ?_; refine zN (zT ?_)
          rw [← Int.natCast_add]
          refine ⟨(Keep.upd (Keep.upd (Keep.upd (Keep.upd (Keep.upd (Keep.upd (Keep.upd (Keep.upd (Keep.upd (Keep.upd (Keep.upd (Keep.upd (Keep.upd (Keep.upd (Keep.upd (Keep.upd (Keep.upd (Keep.upd (Keep.upd (Keep.upd (Keep.upd (Keep.upd (Keep.upd (Keep.upd (Keep.upd (Keep.upd (Keep.upd (Keep.upd (Keep.upd (Keep.upd (Keep.upd (Keep.upd (Keep.upd (Keep.upd (Keep.upd (Keep.hav (Keep.refl _ _) rfl) rfl) rfl) rfl) rfl) rfl) rfl) rfl) rfl) rfl) rfl) rfl) rfl) rfl) rfl) rfl) rfl) rfl) rfl) rfl) rfl) rfl) rfl) rfl) rfl) rfl) rfl) rfl) rfl) rfl) rfl) rfl) rfl) rfl) rfl) rfl), (i + 1, a + n'), _, zM, ?_, ⟨rfl, hlt, by show i + 1 ≤ 200; omega, by show a + n' ≤ 3000 * (i + 1); omega, rfl⟩, (by simp only; omega)⟩
          · exact zE
        · skip
          refine zS (zS (zR (zA rfl ?_))); refine zA rfl ?_; refine zO rfl (Rd.lenSlice (tyrow rfl) rfl rfl) ?_; refine zO rfl (Rd.lss rfl rfl) ?_; refine zA rfl ?_
          first | (refine zG ?_; refine zA rfl ?_) | refine zH ?_
          first | (refine zG ?_; refine zO rfl (Rd.lss rfl rfl) ?_) | refine zH ?_
          refine zO rfl zP ?_; refine zN (zT (XA.condT rfl (by first | rfl | exact decide_eq_true (by omega)) ?_)); refine XA.skip (zT (zS (XA.block (zS (zR (zA rfl ?_)))))); refine zA rfl ?_; refine zO rfl (Rd.ixS rfl rfl) ?_; refine zV rfl rfl ?_; refine zB rfl rfl (tyrow rfl) rfl ?_
          refine zO rfl (Rd.gtr rfl rfl) ?_; refine zA rfl ?_
          first | (refine zG ?_; refine zA rfl ?_) | refine zH ?_
          first | (refine zG ?_; refine zA rfl ?_) | refine zH ?_
          first | (refine zG ?_; refine zO rfl (Rd.ixS rfl rfl) ?_) | refine zH ?_
          first | (refine zG ?_; refine zV rfl rfl ?_) | refine zH ?_
          first | (refine zG ?_; refine zB rfl rfl (tyrow rfl) rfl ?_) | refine zH ?_
          first | (refine zG ?_; refine zO rfl (Rd.leq rfl rfl) ?_) | refine zH ?_
          refine zO rfl zP ?_; refine zN (zT (XA.condF rfl (by first | rfl | exact decide_eq_false (by omega)) ?_)); refine XA.skip (DA.inb_normal (zT (zR (zA rfl ?_)))); refine zO rfl zI ?_; refine zO rfl Rd.asg ?_; refine zN (zT ?_)
          refine ⟨(Keep.upd (Keep.upd (Keep.upd (Keep.upd (Keep.upd (Keep.upd (Keep.upd (Keep.upd (Keep.upd (Keep.upd (Keep.upd (Keep.upd (Keep.upd (Keep.upd (Keep.upd (Keep.upd (Keep.upd (Keep.upd (Keep.upd (Keep.upd (Keep.upd (Keep.upd (Keep.upd (Keep.upd (Keep.upd (Keep.upd (Keep.upd (Keep.hav (Keep.refl _ _) rfl) rfl) rfl) rfl) rfl) rfl) rfl) rfl) rfl) rfl) rfl) rfl) rfl) rfl) rfl) rfl) rfl) rfl) rfl) rfl) rfl) rfl) rfl) rfl) rfl) rfl) rfl) rfl), (i + 1, a), _, zM, ?_, ⟨rfl, hlt, by show i + 1 ≤ 200; omega, by show a ≤ 3000 * (i + 1); omega, rfl⟩, (by simp only; omega)⟩
          · exact zE
      · skip
        refine zS (zS (zR (zA rfl ?_))); refine zA rfl ?_; refine zO rfl (Rd.lenSlice (tyrow rfl) rfl rfl) ?_; refine zO rfl (Rd.lss rfl rfl) ?_; refine zA rfl ?_
        first | (refine zG ?_; refine zA rfl ?_) | refine zH ?_
        first | (refine zG ?_; refine zO rfl (Rd.lss rfl rfl) ?_) | refine zH ?_
        refine zO rfl zP ?_; refine zN (zT (XA.condT rfl (by first | rfl | exact decide_eq_true (by omega)) ?_)); refine XA.skip (zT (zS (XA.block (zS (zR (zA rfl ?_)))))); refine zA rfl ?_; refine zO rfl (Rd.ixS rfl rfl) ?_; refine zV rfl rfl ?_; refine zB rfl rfl (tyrow rfl) rfl ?_
        refine zO rfl (Rd.gtr rfl rfl) ?_; refine zA rfl ?_
        first | (refine zG ?_; refine zA rfl ?_) | refine zH ?_
        first | (refine zG ?_; refine zA rfl ?_) | refine zH ?_
        first | (refine zG ?_; refine zO rfl (Rd.ixS rfl rfl) ?_) | refine zH ?_
        first | (refine zG ?_; refine zV rfl rfl ?_) | refine zH ?_
        first | (refine zG ?_; refine zB rfl rfl (tyrow rfl) rfl ?_) | refine zH ?_
        first | (refine zG ?_; refine zO rfl (Rd.leq rfl rfl) ?_) | refine zH ?_
        refine zO rfl zP ?_; refine zN (zT (XA.condF rfl (by first | rfl | exact decide_eq_false (by omega)) ?_)); refine XA.skip (DA.inb_normal (zT (zR (zA rfl ?_)))); refine zO rfl zI ?_; refine zO rfl Rd.asg ?_; refine zN (zT ?_)
        refine ⟨(Keep.upd (Keep.upd (Keep.upd (Keep.upd (Keep.upd (Keep.upd (Keep.upd (Keep.upd (Keep.upd (Keep.upd (Keep.upd (Keep.upd (Keep.upd (Keep.upd (Keep.upd (Keep.upd (Keep.upd (Keep.upd (Keep.upd (Keep.upd (Keep.upd (Keep.upd (Keep.upd (Keep.upd (Keep.upd (Keep.upd (Keep.upd (Keep.hav (Keep.refl _ _) rfl) rfl) rfl) rfl) rfl) rfl) rfl) rfl) rfl) rfl) rfl) rfl) rfl) rfl) rfl) rfl) rfl) rfl) rfl) rfl) rfl) rfl) rfl) rfl) rfl) rfl) rfl) rfl), (i + 1, a), _, zM, ?_, ⟨rfl, hlt, by show i + 1 ≤ 200; omega, by show a ≤ 3000 * (i + 1); omega, rfl⟩, (by simp only; omega)⟩
        · exact zE
    · skip
      refine zS (zS (zR (zA rfl ?_))); refine zA rfl ?_; refine zO rfl (Rd.lenSlice (tyrow rfl) rfl rfl) ?_; refine zO rfl (Rd.lss rfl rfl) ?_; refine zA rfl ?_
      first | (refine zG ?_; refine zA rfl ?_) | refine zH ?_
      first | (refine zG ?_; refine zO rfl (Rd.lss rfl rfl) ?_) | refine zH ?_
      refine zO rfl zP ?_; refine zN (zT (XA.condF rfl (by first | rfl | exact decide_eq_false (by omega)) ?_)); refine XA.exit (DA.thn_exit (DA.thn_exit (DA.inb_same (zT (zS (zR (zO rfl (Rd.ldA rfl) ?_)))))))
      refine zw rfl (WrA.cE (great_a σ _ p hp0) rfl) ?_
      rintro _ _ _ ⟨_, ⟨b, rfl, hsm, rfl, rfl⟩, rfl⟩
      refine XOA.cl ?_
      cases b with
      | true =>
        refine zA rfl ?_
        first | (refine zG ?_; refine zA rfl ?_) | refine zH ?_
        first | (refine zG ?_; refine zO rfl (Rd.lenSlice (tyrow rfl) rfl rfl) ?_) | refine zH ?_
        first | (refine zG ?_; refine zO rfl (Rd.gtr rfl rfl) ?_) | refine zH ?_
        refine zO rfl zP ?_; refine zA rfl ?_
        first | (refine zG ?_; refine zA rfl ?_) | refine zH ?_
        first | (refine zG ?_; refine zO rfl (Rd.lenSlice (tyrow rfl) rfl rfl) ?_) | refine zH ?_
        first | (refine zG ?_; refine zO rfl (Rd.gtr rfl rfl) ?_) | refine zH ?_
        refine zO rfl zP ?_; refine zA rfl ?_
        first | (refine zG ?_; refine zA rfl ?_) | refine zH ?_
        first | (refine zG ?_; refine zO rfl (Rd.gtr rfl rfl) ?_) | refine zH ?_
        refine zO rfl zP ?_; refine zO rfl Rd.asg ?_; refine zN (zT (XA.ret ?_))
        exact bodyA.ret (ResA.one rfl rfl) (Ent.nil _) ⟨true, rfl, fun h => (by cases h), rfl, rfl⟩
      | false =>
        by_cases z0 : 100 < inp.length
        · skip
          refine zA rfl ?_
          first | (refine zG ?_; refine zA rfl ?_) | refine zH ?_
          first | (refine zG ?_; refine zO rfl (Rd.lenSlice (tyrow rfl) rfl rfl) ?_) | refine zH ?_
          first | (refine zG ?_; refine zO rfl (Rd.gtr rfl rfl) ?_) | refine zH ?_
          refine zO rfl zP ?_; refine zA rfl ?_
          first | (refine zG ?_; refine zA rfl ?_) | refine zH ?_
          first | (refine zG ?_; refine zO rfl (Rd.lenSlice (tyrow rfl) rfl rfl) ?_) | refine zH ?_
          first | (refine zG ?_; refine zO rfl (Rd.gtr rfl rfl) ?_) | refine zH ?_
          refine zO rfl zP ?_; refine zA rfl ?_
          first | (refine zG ?_; refine zA rfl ?_) | refine zH ?_
          first | (refine zG ?_; refine zO rfl (Rd.gtr rfl rfl) ?_) | refine zH ?_
          refine zO rfl zP ?_; refine zO rfl Rd.asg ?_; refine zN (zT (XA.ret ?_))
          exact bodyA.ret (ResA.one rfl rfl) (Ent.nil _) ⟨true, rfl, fun h => (by cases h), rfl, rfl⟩
        by_cases z1 : 60 < l.length
        · skip
          refine zA rfl ?_
          first | (refine zG ?_; refine zA rfl ?_) | refine zH ?_
          first | (refine zG ?_; refine zO rfl (Rd.lenSlice (tyrow rfl) rfl rfl) ?_) | refine zH ?_
          first | (refine zG ?_; refine zO rfl (Rd.gtr rfl rfl) ?_) | refine zH ?_
          refine zO rfl zP ?_; refine zA rfl ?_
          first | (refine zG ?_; refine zA rfl ?_) | refine zH ?_
          first | (refine zG ?_; refine zO rfl (Rd.lenSlice (tyrow rfl) rfl rfl) ?_) | refine zH ?_
          first | (refine zG ?_; refine zO rfl (Rd.gtr rfl rfl) ?_) | refine zH ?_
          refine zO rfl zP ?_; refine zA rfl ?_
          first | (refine zG ?_; refine zA rfl ?_) | refine zH ?_
          first | (refine zG ?_; refine zO rfl (Rd.gtr rfl rfl) ?_) | refine zH ?_
          refine zO rfl zP ?_; refine zO rfl Rd.asg ?_; refine zN (zT (XA.ret ?_))
          exact bodyA.ret (ResA.one rfl rfl) (Ent.nil _) ⟨true, rfl, fun h => (by cases h), rfl, rfl⟩
        refine zA rfl ?_
        first | (refine zG ?_; refine zA rfl ?_) | refine zH ?_
        first | (refine zG ?_; refine zO rfl (Rd.lenSlice (tyrow rfl) rfl rfl) ?_) | refine zH ?_
        first | (refine zG ?_; refine zO rfl (Rd.gtr rfl rfl) ?_) | refine zH ?_
        refine zO rfl zP ?_; refine zA rfl ?_
        first | (refine zG ?_; refine zA rfl ?_) | refine zH ?_
        first | (refine zG ?_; refine zO rfl (Rd.lenSlice (tyrow rfl) rfl rfl) ?_) | refine zH ?_
        first | (refine zG ?_; refine zO rfl (Rd.gtr rfl rfl) ?_) | refine zH ?_
        refine zO rfl zP ?_; refine zA rfl ?_
        first | (refine zG ?_; refine zA rfl ?_) | refine zH ?_
        first | (refine zG ?_; refine zO rfl (Rd.gtr rfl rfl) ?_) | refine zH ?_
        refine zO rfl zP ?_; refine zO rfl Rd.asg ?_; refine zN (zT (XA.ret ?_))
        exact bodyA.ret (ResA.one rfl rfl) (Ent.nil _) ⟨_, rfl, fun _ => ⟨hsm rfl, by omega, by omega⟩, rfl, rfl⟩
  · skip
    refine zS (zS (zR (zA rfl ?_))); refine zA rfl ?_; refine zO rfl (Rd.lenSlice (tyrow rfl) rfl rfl) ?_; refine zO rfl (Rd.lss rfl rfl) ?_; refine zA rfl ?_
    first | (refine zG ?_; refine zA rfl ?_) | refine zH ?_
    first | (refine zG ?_; refine zO rfl (Rd.lss rfl rfl) ?_) | refine zH ?_
    refine zO rfl zP ?_; refine zN (zT (XA.condF rfl (by first | rfl | exact decide_eq_false (by omega)) ?_)); refine XA.exit (DA.thn_exit (DA.thn_exit (DA.inb_same (zT (zS (zR (zO rfl (Rd.ldA rfl) ?_)))))))
    refine zw rfl (WrA.cE (great_a σ _ p hp0) rfl) ?_
    rintro _ _ _ ⟨_, ⟨b, rfl, hsm, rfl, rfl⟩, rfl⟩
    refine XOA.cl ?_
    cases b with
    | true =>
      refine zA rfl ?_
      first | (refine zG ?_; refine zA rfl ?_) | refine zH ?_
      first | (refine zG ?_; refine zO rfl (Rd.lenSlice (tyrow rfl) rfl rfl) ?_) | refine zH ?_
      first | (refine zG ?_; refine zO rfl (Rd.gtr rfl rfl) ?_) | refine zH ?_
      refine zO rfl zP ?_; refine zA rfl ?_
      first | (refine zG ?_; refine zA rfl ?_) | refine zH ?_
      first | (refine zG ?_; refine zO rfl (Rd.lenSlice (tyrow rfl) rfl rfl) ?_) | refine zH ?_
      first | (refine zG ?_; refine zO rfl (Rd.gtr rfl rfl) ?_) | refine zH ?_
      refine zO rfl zP ?_; refine zA rfl ?_
      first | (refine zG ?_; refine zA rfl ?_) | refine zH ?_
      first | (refine zG ?_; refine zO rfl (Rd.gtr rfl rfl) ?_) | refine zH ?_
      refine zO rfl zP ?_; refine zO rfl Rd.asg ?_; refine zN (zT (XA.ret ?_))
      exact bodyA.ret (ResA.one rfl rfl) (Ent.nil _) ⟨true, rfl, fun h => (by cases h), rfl, rfl⟩
    | false =>
      by_cases z0 : 100 < inp.length
      · skip
        refine zA rfl ?_
        first | (refine zG ?_; refine zA rfl ?_) | refine zH ?_
        first | (refine zG ?_; refine zO rfl (Rd.lenSlice (tyrow rfl) rfl rfl) ?_) | refine zH ?_
        first | (refine zG ?_; refine zO rfl (Rd.gtr rfl rfl) ?_) | refine zH ?_
        refine zO rfl zP ?_; refine zA rfl ?_
        first | (refine zG ?_; refine zA rfl ?_) | refine zH ?_
        first | (refine zG ?_; refine zO rfl (Rd.lenSlice (tyrow rfl) rfl rfl) ?_) | refine zH ?_
        first | (refine zG ?_; refine zO rfl (Rd.gtr rfl rfl) ?_) | refine zH ?_
        refine zO rfl zP ?_; refine zA rfl ?_
        first | (refine zG ?_; refine zA rfl ?_) | refine zH ?_
        first | (refine zG ?_; refine zO rfl (Rd.gtr rfl rfl) ?_) | refine zH ?_
        refine zO rfl zP ?_; refine zO rfl Rd.asg ?_; refine zN (zT (XA.ret ?_))
        exact bodyA.ret (ResA.one rfl rfl) (Ent.nil _) ⟨true, rfl, fun h => (by cases h), rfl, rfl⟩
      by_cases z1 : 60 < l.length
      · skip
        refine zA rfl ?_
        first | (refine zG ?_; refine zA rfl ?_) | refine zH ?_
        first | (refine zG ?_; refine zO rfl (Rd.lenSlice (tyrow rfl) rfl rfl) ?_) | refine zH ?_
        first | (refine zG ?_; refine zO rfl (Rd.gtr rfl rfl) ?_) | refine zH ?_
        refine zO rfl zP ?_; refine zA rfl ?_
        first | (refine zG ?_; refine zA rfl ?_) | refine zH ?_
        first | (refine zG ?_; refine zO rfl (Rd.lenSlice (tyrow rfl) rfl rfl) ?_) | refine zH ?_
        first | (refine zG ?_; refine zO rfl (Rd.gtr rfl rfl) ?_) | refine zH ?_
        refine zO rfl zP ?_; refine zA rfl ?_
        first | (refine zG ?_; refine zA rfl ?_) | refine zH ?_
        first | (refine zG ?_; refine zO rfl (Rd.gtr rfl rfl) ?_) | refine zH ?_
        refine zO rfl zP ?_; refine zO rfl Rd.asg ?_; refine zN (zT (XA.ret ?_))
        exact bodyA.ret (ResA.one rfl rfl) (Ent.nil _) ⟨true, rfl, fun h => (by cases h), rfl, rfl⟩
      refine zA rfl ?_
      first | (refine zG ?_; refine zA rfl ?_) | refine zH ?_
      first | (refine zG ?_; refine zO rfl (Rd.lenSlice (tyrow rfl) rfl rfl) ?_) | refine zH ?_
      first | (refine zG ?_; refine zO rfl (Rd.gtr rfl rfl) ?_) | refine zH ?_
      refine zO rfl zP ?_; refine zA rfl ?_
      first | (refine zG ?_; refine zA rfl ?_) | refine zH ?_
      first | (refine zG ?_; refine zO rfl (Rd.lenSlice (tyrow rfl) rfl rfl) ?_) | refine zH ?_
      first | (refine zG ?_; refine zO rfl (Rd.gtr rfl rfl) ?_) | refine zH ?_
      refine zO rfl zP ?_; refine zA rfl ?_
      first | (refine zG ?_; refine zA rfl ?_) | refine zH ?_
      first | (refine zG ?_; refine zO rfl (Rd.gtr rfl rfl) ?_) | refine zH ?_
      refine zO rfl zP ?_; refine zO rfl Rd.asg ?_; refine zN (zT (XA.ret ?_))
      exact bodyA.ret (ResA.one rfl rfl) (Ent.nil _) ⟨_, rfl, fun _ => ⟨hsm rfl, by omega, by omega⟩, rfl, rfl⟩
end Go.Proofs.YtmnmcjdgnpgchaaGreat

namespace Go.Proofs.YtmnmcjdgnpgchaaGreat
open Go X
set_option maxHeartbeats 4000000
theorem nowe_l (σ : PH) (gx db pb : Nat) (pc : Option Addr) (cc nc : Nat) (p : Pr) (inp : List Int) (L : Li) (k : Nat) (g mb sb : Nat) (d : DiskS) (s : StS) (pi : Option Addr) (ci : Nat) (pj : Option Addr) (cj : Nat) (h : LiOk p inp L k) (hk : k ≤ 1000000) (hn : nc = L.b.m.cells.length) :
    CallsA Tryz.prog 16 #[ptr gx] σ [blk gx [ptr g, ptr db, ptr pb, .slice pc (codeOf p).length cc, .slice pj inp.length cj, i64 nc] 65, blk g [ptr mb, .slice pc (codeOf p).length cc, .slice pi inp.length ci, ptr pb, i64 0, .bool false] 129, Wld mb sb db d s L.M, Prin pb L.b.out L.b.wrong] (RetA fun v σ' Γ' => ∃ po co pv cv, v = .agg #[i64 (nowC L.b), .slice po L.b.out.length co, .slice pv nc cv] ∧ PInts σ' (.slice po L.b.out.length co) L.b.out ∧ PInts σ' (.slice pv nc cv) L.b.m.cells ∧ σ.sub σ' ∧ Γ' = [blk gx [ptr g, ptr db, ptr pb, .slice pc (codeOf p).length cc, .slice pj inp.length cj, i64 nc] 65, blk g [ptr mb, .slice pc (codeOf p).length cc, .slice pi inp.length ci, ptr pb, i64 0, .bool false] 129, Wld mb sb db d s L.M, Prin pb L.b.out L.b.wrong]) := by
  have hol := h.mach.ol
  refine enterA1 Tryz.func16 rfl rfl rfl ?_
  refine zS (zR ?_)
  refine zw rfl (WrA.alloc (tyrow rfl)) ?_
  rintro _ _ _ ⟨g2, rfl, rfl, rfl⟩
  refine zN (zT (zS ?_))
  refine XA.draw (by kernel_rfl) _ _ [8, 9] [(0, .pu), (1, .pu), (2, .pu), (3, .rd), (4, .pu), (5, .pu), (6, .pu), (7, .rd), (8, .wr), (9, .wr)] (by kernel_rfl) (PH.sub.refl _) (Ent.sel (R := blk gx _ _) zL (Ent.nil _)) ?_
  refine zu rfl rfl Rd.mv ?_; refine zu rfl rfl (Rd.nilCheck rfl) ?_; refine zu rfl rfl (Rd.fA rfl) ?_; refine XPA.rd rfl rfl Gd.free (Rd.ldC rfl (tyrow rfl) rfl) ?_; refine zu rfl rfl Rd.mv ?_; refine zu rfl rfl (Rd.nilCheck rfl) ?_
  refine zu rfl rfl (Rd.fA rfl) ?_; refine XPA.rd rfl rfl Gd.free (Rd.ldC rfl (tyrow rfl) rfl) ?_
  refine XPA.wrZ0 rfl rfl Gd.free (by kernel_rfl) (WrA.cE (result_m σ g mb sb db pb (.slice pc (codeOf p).length cc) (.slice pi inp.length ci) 0 false d s L.M L.b.m L.b.out L.b.wrong nc h.mach.sh (by omega) (by omega)) rfl) ?_
  rintro _ σ2 _ ⟨_, ⟨po, co, pv, cv, rfl, hvo, hvc, hs2, rfl⟩, rfl⟩
  refine XPA.cl ?_
  rw [List.take_of_length_le (by omega)] at hvc
  refine XPA.wrZ0 rfl rfl Gd.free (by kernel_rfl) (WrA.st (tyrow rfl) rfl) ?_
  rintro _ _ _ ⟨rfl, rfl, rfl⟩
  refine XPA.nil ?_; refine zT (XA.ret ?_)
  exact bodyA.ret (ResA.cell1 rfl rfl (Ld.atBlk (tyrow rfl) rfl zL rfl (by first | exact take0 (by first | rfl | assumption | (refine (ints_len _).trans ?_; assumption) | (simp [*]; (first | done | fail))) | assumption | exact take_app (by first | rfl | assumption | (refine (ints_len _).trans ?_; assumption) | (simp [*]; (first | done | fail))) | (conv => lhs; simp only [List.drop_succ_cons, List.drop_zero, List.take_succ_cons, List.take_zero])) (by first | rfl | assumption | (refine (ints_len _).trans ?_; assumption) | (simp [*]; (first | done | fail))))) zE ⟨po, co, pv, cv, rfl, hvo, hvc, hs2, rfl⟩
end Go.Proofs.YtmnmcjdgnpgchaaGreat

namespace Go.Proofs.YtmnmcjdgnpgchaaGreat
open Go X
section
variable {C : List In} {inp : List Int}
theorem doIn_out (k : Bool) (x : In) (b : Be) : b.out <+: (doIn inp k x b).out := by
  obtain ⟨⟨nx, st, rd, on, sta, ce⟩, ke, ou, wr⟩ := b
  rw [doIn]
  by_cases q0 : x.op = 1
  · simp only [if_pos q0]
    first | exact List.prefix_rfl | (repeat' split) <;> first | exact List.prefix_rfl | exact List.prefix_append _ _
  by_cases q1 : x.op = 2
  · simp only [if_neg q0, if_pos q1]
    first | exact List.prefix_rfl | (repeat' split) <;> first | exact List.prefix_rfl | exact List.prefix_append _ _
  by_cases q2 : x.op = 3
  · simp only [if_neg q0, if_neg q1, if_pos q2]
    first | exact List.prefix_rfl | (repeat' split) <;> first | exact List.prefix_rfl | exact List.prefix_append _ _
  by_cases q3 : 4 ≤ x.op ∧ x.op ≤ 8
  · simp only [if_neg q0, if_neg q1, if_neg q2, if_pos q3]
    first | exact List.prefix_rfl | (repeat' split) <;> first | exact List.prefix_rfl | exact List.prefix_append _ _
  by_cases q4 : x.op = 9
  · simp only [if_neg q0, if_neg q1, if_neg q2, if_neg q3, if_pos q4]
    first | exact List.prefix_rfl | (repeat' split) <;> first | exact List.prefix_rfl | exact List.prefix_append _ _
  by_cases q5 : x.op = 10
  · simp only [if_neg q0, if_neg q1, if_neg q2, if_neg q3, if_neg q4, if_pos q5]
    first | exact List.prefix_rfl | (repeat' split) <;> first | exact List.prefix_rfl | exact List.prefix_append _ _
  by_cases q6 : x.op = 11
  · simp only [if_neg q0, if_neg q1, if_neg q2, if_neg q3, if_neg q4, if_neg q5, if_pos q6]
    first | exact List.prefix_rfl | (repeat' split) <;> first | exact List.prefix_rfl | exact List.prefix_append _ _
  by_cases q7 : x.op = 12
  · simp only [if_neg q0, if_neg q1, if_neg q2, if_neg q3, if_neg q4, if_neg q5, if_neg q6, if_pos q7]
    first | exact List.prefix_rfl | (repeat' split) <;> first | exact List.prefix_rfl | exact List.prefix_append _ _
  by_cases q8 : x.op = 13
  · simp only [if_neg q0, if_neg q1, if_neg q2, if_neg q3, if_neg q4, if_neg q5, if_neg q6, if_neg q7, if_pos q8]
    first | exact List.prefix_rfl | (repeat' split) <;> first | exact List.prefix_rfl | exact List.prefix_append _ _
  by_cases q9 : x.op = 14
  · simp only [if_neg q0, if_neg q1, if_neg q2, if_neg q3, if_neg q4, if_neg q5, if_neg q6, if_neg q7, if_neg q8, if_pos q9]
    first | exact List.prefix_rfl | (repeat' split) <;> first | exact List.prefix_rfl | exact List.prefix_append _ _
  by_cases q10 : x.op = 15
  · simp only [if_neg q0, if_neg q1, if_neg q2, if_neg q3, if_neg q4, if_neg q5, if_neg q6, if_neg q7, if_neg q8, if_neg q9, if_pos q10]
    first | exact List.prefix_rfl | (repeat' split) <;> first | exact List.prefix_rfl | exact List.prefix_append _ _
  by_cases q11 : x.op = 16
  · simp only [if_neg q0, if_neg q1, if_neg q2, if_neg q3, if_neg q4, if_neg q5, if_neg q6, if_neg q7, if_neg q8, if_neg q9, if_neg q10, if_pos q11]
    first | exact List.prefix_rfl | (repeat' split) <;> first | exact List.prefix_rfl | exact List.prefix_append _ _
  simp only [if_neg q0, if_neg q1, if_neg q2, if_neg q3, if_neg q4, if_neg q5, if_neg q6, if_neg q7, if_neg q8, if_neg q9, if_neg q10, if_neg q11]
  exact List.prefix_rfl
end
end Go.Proofs.YtmnmcjdgnpgchaaGreat

namespace Go.Proofs.YtmnmcjdgnpgchaaGreat
open Go X
set_option maxHeartbeats 1000000
theorem iteM {α β : Type} {c : Prop} [Decidable c] (f : α → β) {a b a' b' : α} (ha : f a = f a') (hb : f b = f b') : f (if c then a else b) = f (if c then a' else b') := by
  by_cases h : c
  · rw [if_pos h, if_pos h]; exact ha
  · rw [if_neg h, if_neg h]; exact hb
theorem doIn_m (inp : List Int) (k k' : Bool) (x : In) (m a a' : Mi) (o o' : List Int) (w w' : Bool) : (doIn inp k x ⟨m, a, o, w⟩).m = (doIn inp k' x ⟨m, a', o', w'⟩).m := by
  obtain ⟨next, stack, rd, outn, st, cells⟩ := m
  simp only [doIn]
  refine iteM Be.m rfl ?_
  refine iteM Be.m rfl ?_
  refine iteM Be.m ?_ ?_
  · cases stack with
    | nil => rfl
    | cons k s => exact iteM Be.m rfl rfl
  refine iteM Be.m ?_ ?_
  · rcases stack with _ | ⟨y, _ | ⟨z, s⟩⟩ <;> rfl
  refine iteM Be.m ?_ ?_
  · cases stack <;> rfl
  refine iteM Be.m ?_ ?_
  · rcases stack with _ | ⟨y, _ | ⟨z, s⟩⟩
    · rfl
    · rfl
    · exact iteM Be.m rfl rfl
  refine iteM Be.m ?_ ?_
  · cases stack with
    | nil => rfl
    | cons n s =>
      simp only
      split <;> split <;> rfl
  refine iteM Be.m (iteM Be.m rfl rfl) ?_
  refine iteM Be.m ?_ ?_
  · cases stack with
    | nil => rfl
    | cons n s => exact iteM Be.m rfl rfl
  refine iteM Be.m rfl ?_
  refine iteM Be.m ?_ ?_
  · cases k <;> cases k' <;> rfl
  exact iteM Be.m rfl rfl
theorem doIn_calm (inp : List Int) (k : Bool) (x : In) (m a : Mi) (o : List Int) (w : Bool) (h11 : x.op ≠ 11) : (doIn inp k x ⟨m, a, o, w⟩).out = o ∧ (doIn inp k x ⟨m, a, o, w⟩).wrong = w ∧ (doIn inp k x ⟨m, a, o, w⟩).m.outn = m.outn := by
  obtain ⟨next, stack, rd, outn, st, cells⟩ := m
  show (fun b' : Be => b'.out = o ∧ b'.wrong = w ∧ b'.m.outn = outn) _
  simp only [doIn]
  refine iteQ2 (Q := fun b' : Be => b'.out = o ∧ b'.wrong = w ∧ b'.m.outn = outn) ⟨rfl, rfl, rfl⟩ ?_
  refine iteQ2 (Q := fun b' : Be => b'.out = o ∧ b'.wrong = w ∧ b'.m.outn = outn) ⟨rfl, rfl, rfl⟩ ?_
  refine iteQ2 (Q := fun b' : Be => b'.out = o ∧ b'.wrong = w ∧ b'.m.outn = outn) ?_ ?_
  · cases stack with
    | nil => exact ⟨rfl, rfl, rfl⟩
    | cons k s => exact iteQ2 (Q := fun b' : Be => b'.out = o ∧ b'.wrong = w ∧ b'.m.outn = outn) ⟨rfl, rfl, rfl⟩ ⟨rfl, rfl, rfl⟩
  refine iteQ2 (Q := fun b' : Be => b'.out = o ∧ b'.wrong = w ∧ b'.m.outn = outn) ?_ ?_
  · rcases stack with _ | ⟨y, _ | ⟨z, s⟩⟩ <;> exact ⟨rfl, rfl, rfl⟩
  refine iteQ2 (Q := fun b' : Be => b'.out = o ∧ b'.wrong = w ∧ b'.m.outn = outn) ?_ ?_
  · cases stack <;> exact ⟨rfl, rfl, rfl⟩
  refine iteQ2 (Q := fun b' : Be => b'.out = o ∧ b'.wrong = w ∧ b'.m.outn = outn) ?_ ?_
  · rcases stack with _ | ⟨y, _ | ⟨z, s⟩⟩
    · exact ⟨rfl, rfl, rfl⟩
    · exact ⟨rfl, rfl, rfl⟩
    · exact iteQ2 (Q := fun b' : Be => b'.out = o ∧ b'.wrong = w ∧ b'.m.outn = outn) ⟨rfl, rfl, rfl⟩ ⟨rfl, rfl, rfl⟩
  rw [if_neg h11]
  refine iteQ2 (Q := fun b' : Be => b'.out = o ∧ b'.wrong = w ∧ b'.m.outn = outn) (iteQ2 (Q := fun b' : Be => b'.out = o ∧ b'.wrong = w ∧ b'.m.outn = outn) ⟨rfl, rfl, rfl⟩ ⟨rfl, rfl, rfl⟩) ?_
  refine iteQ2 (Q := fun b' : Be => b'.out = o ∧ b'.wrong = w ∧ b'.m.outn = outn) ?_ ?_
  · cases stack with
    | nil => exact ⟨rfl, rfl, rfl⟩
    | cons k s => exact iteQ2 (Q := fun b' : Be => b'.out = o ∧ b'.wrong = w ∧ b'.m.outn = outn) ⟨rfl, rfl, rfl⟩ ⟨rfl, rfl, rfl⟩
  refine iteQ2 (Q := fun b' : Be => b'.out = o ∧ b'.wrong = w ∧ b'.m.outn = outn) ⟨rfl, rfl, rfl⟩ ?_
  refine iteQ2 (Q := fun b' : Be => b'.out = o ∧ b'.wrong = w ∧ b'.m.outn = outn) ?_ ?_
  · cases k <;> exact ⟨rfl, rfl, rfl⟩
  exact iteQ2 (Q := fun b' : Be => b'.out = o ∧ b'.wrong = w ∧ b'.m.outn = outn) ⟨rfl, rfl, rfl⟩ ⟨rfl, rfl, rfl⟩
theorem doIn_print (inp : List Int) (k : Bool) (x : In) (b : Be) (h11 : x.op = 11) : doIn inp k x b = match b.m.stack with
    | [] => b
    | n :: s =>
      if b.m.outn = b.out.length then { b with m := { b.m with stack := s, outn := b.m.outn + 1 }, out := b.out ++ [n] }
      else { b with m := { b.m with stack := s, outn := b.m.outn + 1 }, wrong := b.wrong || decide (b.out.getD b.m.outn 0 ≠ n) } := by
  obtain ⟨op, a1, a2, a3⟩ := x
  simp only at h11
  subst h11
  rfl
def Calm (c : Be) : Prop := c.m.outn = c.out.length ∧ c.wrong = false
theorem doIn_follow (inp : List Int) (k : Bool) (x : In) {b c : Be} (hm : b.m = c.m) (hc : Calm c) (hw : b.wrong = false) :
    Calm (doIn inp false x c) ∧ (doIn inp k x b).m = (doIn inp false x c).m ∧ (doIn inp k x b).wrong = false ∨ ¬ (b.out = c.out ∨ (doIn inp false x c).out <+: b.out) := by
  obtain ⟨m, a, o, w⟩ := b
  obtain ⟨m', a', o', w'⟩ := c
  obtain ⟨h1, h2⟩ := hc
  simp only at hm h1 h2 hw
  subst hm h2 hw
  by_cases h11 : x.op = 11
  · have e1 := doIn_print inp k x ⟨m, a, o, false⟩ h11
    have e2 := doIn_print inp false x ⟨m, a', o', false⟩ h11
    rw [e1, e2]
    cases hs : m.stack with
    | nil => exact .inl ⟨⟨h1, rfl⟩, rfl, rfl⟩
    | cons n s =>
      simp only [hs, h1, if_true]
      by_cases ho : o = o'
      · left
        subst ho
        refine ⟨⟨by simp, rfl⟩, by simp, by simp⟩
      · by_cases hp : (o' ++ [n]) <+: o
        · left
          have hl := hp.length_le
          rw [List.length_append, List.length_singleton] at hl
          have hne : ¬ (o'.length = o.length) := by omega
          have hg : o.getD o'.length 0 = n := by
            obtain ⟨t, rfl⟩ := hp
            simp
          refine ⟨⟨by simp, rfl⟩, by rw [if_neg hne], by rw [if_neg hne, hg]; simp⟩
        · right
          rintro (q | q)
          · exact ho q
          · exact hp q
  · obtain ⟨p1, p2, p3⟩ := doIn_calm inp k x m a o false h11
    obtain ⟨q1, q2, q3⟩ := doIn_calm inp false x m a' o' false h11
    exact .inl ⟨⟨by rw [q3, q1, h1], q2⟩, doIn_m inp k false x m a a' o o' false false, p2⟩
theorem doIn_follow_out (inp : List Int) (k : Bool) (x : In) {b c : Be} (hm : b.m = c.m) (hc : Calm c) :
    (b.out = c.out → (doIn inp k x b).out = (doIn inp false x c).out) ∧ ((doIn inp false x c).out <+: b.out → (doIn inp k x b).out = b.out) := by
  obtain ⟨m, a, o, w⟩ := b
  obtain ⟨m', a', o', w'⟩ := c
  obtain ⟨h1, h2⟩ := hc
  simp only at hm h1 h2
  subst hm h2
  by_cases h11 : x.op = 11
  · have e1 := doIn_print inp k x ⟨m, a, o, w⟩ h11
    have e2 := doIn_print inp false x ⟨m, a', o', false⟩ h11
    rw [e1, e2]
    cases hs : m.stack with
    | nil => exact ⟨fun h => h, fun _ => rfl⟩
    | cons n s =>
      simp only [hs, h1, if_true]
      refine ⟨fun h => ?_, fun hp => ?_⟩
      · subst h; rw [if_pos rfl]
      · have hl := hp.length_le
        rw [List.length_append, List.length_singleton] at hl
        rw [if_neg (by omega)]
  · obtain ⟨p1, p2, p3⟩ := doIn_calm inp k x m a o w h11
    obtain ⟨q1, q2, q3⟩ := doIn_calm inp false x m a' o' false h11
    rw [p1, q1]
    exact ⟨fun h => h, fun _ => rfl⟩
section
variable {C : List In} {inp : List Int}
def tr (C : List In) (inp : List Int) (b : Be) : Nat → Be
  | 0 => b
  | n + 1 => nextB C inp false (tr C inp b n)
theorem tr_next (b : Be) : ∀ n, tr C inp b (n + 1) = tr C inp (nextB C inp false b) n
  | 0 => rfl
  | n + 1 => by rw [tr, tr_next b n]; rfl
theorem tr_fix {b : Be} {n : Nat} (h : (tr C inp b n).m.st ≠ 0) : ∀ j, tr C inp b (n + j) = tr C inp b n
  | 0 => rfl
  | j + 1 => by
    have ih := tr_fix h j
    show nextB C inp false (tr C inp b (n + j)) = _
    rw [ih, nextB, if_neg h]
theorem tr_end {b : Be} {n k : Nat} (h : (tr C inp b n).m.st ≠ 0) (hk : n ≤ k) : tr C inp b k = tr C inp b n := by
  obtain ⟨j, rfl⟩ := Nat.exists_eq_add_of_le hk
  exact tr_fix h j
theorem runM_tr : ∀ (f : Nat) (b : Be), (runM C inp f b).1 = tr C inp b f ∧ (runM C inp f b).1 = tr C inp b (runM C inp f b).2
  | 0, b => ⟨rfl, rfl⟩
  | f + 1, b => by
    by_cases h : b.m.st ≠ 0
    · rw [runM, if_pos h]
      exact ⟨(tr_end (b := b) (n := 0) h (Nat.zero_le _)).symm, rfl⟩
    · have h0 : b.m.st = 0 := Classical.byContradiction h
      obtain ⟨h1, h2⟩ := runM_tr f (stepB C inp false b)
      have e : nextB C inp false b = stepB C inp false b := by rw [nextB, if_pos h0]
      rw [runM, if_neg h, tr_next, tr_next, e]
      exact ⟨h1, h2⟩
theorem tr_out (b : Be) : ∀ (n j : Nat), (tr C inp b n).out <+: (tr C inp b (n + j)).out
  | n, 0 => List.prefix_refl _
  | n, j + 1 => by
    refine (tr_out b n j).trans ?_
    show _ <+: (nextB C inp false (tr C inp b (n + j))).out
    rw [nextB]; split
    · rw [stepB]; split
      · exact List.prefix_refl _
      · exact doIn_out false _ (bump _)
    · exact List.prefix_refl _
theorem tr_pre (b : Be) {n k : Nat} (h : n ≤ k) : (tr C inp b n).out <+: (tr C inp b k).out := by
  obtain ⟨j, rfl⟩ := Nat.exists_eq_add_of_le h
  exact tr_out b n j
structure FarB (T : Nat → Be) (n q N : Nat) (b : Be) : Prop where
  m : b.m = (T n).m
  kept : b.kept = (T q).m
  out : b.out = (T N).out
  wrong : b.wrong = false
  nN : n ≤ N
  qN : q ≤ N
theorem nextB_follow {b c : Be} (k : Bool) (hm : b.m = c.m) (hc : Calm c) (hw : b.wrong = false) (ho : b.out = c.out ∨ (nextB C inp false c).out <+: b.out) :
    Calm (nextB C inp false c) ∧ (nextB C inp k b).m = (nextB C inp false c).m ∧ (nextB C inp k b).wrong = false ∧ (b.out = c.out → (nextB C inp k b).out = (nextB C inp false c).out) ∧ ((nextB C inp false c).out <+: b.out → (nextB C inp k b).out = b.out) := by
  by_cases h0 : c.m.st = 0
  · have h0' : b.m.st = 0 := by rw [hm]; exact h0
    have e1 : nextB C inp k b = stepB C inp k b := if_pos h0'
    have e2 : nextB C inp false c = stepB C inp false c := if_pos h0
    rw [e1]
    rw [e2] at ho ⊢
    have s1 : stepB C inp k b = match C[c.m.next]? with | none => b | some x => doIn inp k x (bump b) := by rw [stepB, hm]; rfl
    have s2 : stepB C inp false c = match C[c.m.next]? with | none => c | some x => doIn inp false x (bump c) := rfl
    rw [s1, s2]
    rw [s2] at ho
    cases hx : C[c.m.next]? with
    | none => exact ⟨hc, hm, hw, fun h => h, fun _ => rfl⟩
    | some x =>
      rw [hx] at ho
      simp only at ho ⊢
      have hm' : (bump b).m = (bump c).m := by simp only [bump, hm]
      have hc' : Calm (bump c) := hc
      obtain ⟨r1, r2⟩ := doIn_follow_out inp k x hm' hc'
      rcases doIn_follow inp k x hm' hc' (show (bump b).wrong = false from hw) with ⟨q1, q2, q3⟩ | q
      · exact ⟨q1, q2, q3, r1, r2⟩
      · exact absurd ho q
  · have h0' : ¬ (b.m.st = 0) := by rw [hm]; exact h0
    have e1 : nextB C inp k b = b := if_neg h0'
    have e2 : nextB C inp false c = c := if_neg h0
    rw [e1, e2]
    exact ⟨hc, hm, hw, fun h => h, fun _ => rfl⟩
theorem tr_calm {b : Be} (h : Calm b) : ∀ n, Calm (tr C inp b n)
  | 0 => h
  | n + 1 => (nextB_follow (C := C) (inp := inp) false rfl (tr_calm h n) (tr_calm h n).2 (.inl rfl)).1
theorem FarB.next {b0 b : Be} {n q N : Nat} (h0 : Calm b0) (h : FarB (tr C inp b0) n q N b) (hs : b.m.st = 0) : ∃ q', FarB (tr C inp b0) (n + 1) q' (max N (n + 1)) (nextB C inp true b) := by
  obtain ⟨hm, hk, ho, hw, hn, hq⟩ := h
  have hc := tr_calm (C := C) (inp := inp) h0 n
  have hcase : b.out = (tr C inp b0 n).out ∨ (nextB C inp false (tr C inp b0 n)).out <+: b.out := by
    by_cases e : n = N
    · left; rw [ho, e]
    · right; rw [ho]; exact tr_pre b0 (n := n + 1) (by omega)
  obtain ⟨-, g2, g3, g4, g5⟩ := nextB_follow (C := C) (inp := inp) true hm hc hw hcase
  have gout : (nextB C inp true b).out = (tr C inp b0 (max N (n + 1))).out := by
    by_cases e : n = N
    · subst e
      rw [g4 ho, Nat.max_eq_right (by omega)]; rfl
    · rw [g5 (by rw [ho]; exact tr_pre b0 (n := n + 1) (by omega)), ho, Nat.max_eq_left (by omega)]
  by_cases h15 : ∃ x, C[b.m.next]? = some x ∧ x.op = 15
  · obtain ⟨x, hx, hx15⟩ := h15
    refine ⟨n + 1, g2, ?_, gout, g3, by omega, by omega⟩
    have e : nextB C inp true b = { bump b with kept := (bump b).m } := by rw [nextB, if_pos hs, stepC_be hx hx15]; rfl
    rw [e] at g2
    rw [e]
    exact g2
  · refine ⟨q, g2, ?_, gout, g3, by omega, by omega⟩
    rw [nextB, if_pos hs, stepB]
    cases hx : C[b.m.next]? with
    | none => exact hk
    | some x => exact (doIn_kept inp true x (bump b) (fun e => h15 ⟨x, hx, e⟩)).trans hk
theorem FarB.wake {T : Nat → Be} {b : Be} {n q N : Nat} (h : FarB T n q N b) : FarB T q q N (wakeB b) := ⟨h.kept, h.kept, h.out, h.wrong, h.qN, h.qN⟩
theorem run_far {b0 : Be} (h0 : Calm b0) : ∀ (f : Nat) (L : Li) (n q N : Nat), FarB (tr C inp b0) n q N L.b → ∃ n' q' N', FarB (tr C inp b0) n' q' N' (runL C inp f L).1.b ∧ N ≤ N' ∧ N' ≤ N + (runL C inp f L).2
  | 0, L, n, q, N, h => ⟨n, q, N, h, Nat.le_refl _, Nat.le_refl _⟩
  | f + 1, L, n, q, N, h => by
    rw [runL]; split
    · rename_i hs
      obtain ⟨q1, h1⟩ := h.next h0 hs
      obtain ⟨n2, q2, N2, h2, g1, g2⟩ := run_far h0 f (nextL C inp L) _ _ _ h1
      have := h.nN
      exact ⟨n2, q2, N2, h2, by omega, by simp only; omega⟩
    · exact ⟨n, q, N, h, Nat.le_refl _, Nat.le_refl _⟩
theorem tear_far {b0 : Be} (h0 : Calm b0) (K : Int) (bit : Bool) : ∀ (f : Nat) (L : Li) (n q N : Nat), FarB (tr C inp b0) n q N L.b → ∃ n' q' N', FarB (tr C inp b0) n' q' N' (tearL C inp K bit f L).1.b ∧ N ≤ N' ∧ N' ≤ N + (tearL C inp K bit f L).2
  | 0, L, n, q, N, h => ⟨n, q, N, h, Nat.le_refl _, Nat.le_refl _⟩
  | f + 1, L, n, q, N, h => by
    have := h.nN
    rw [tearL]; split
    · rename_i hc
      rw [tearAt]; split
      · obtain ⟨q1, h1⟩ := h.next h0 (isC_true hc).1
        exact ⟨_, _, _, h1.wake, by omega, by simp only; omega⟩
      · exact ⟨_, _, _, h.wake, Nat.le_refl _, by simp only; omega⟩
    · split
      · rename_i hs
        obtain ⟨q1, h1⟩ := h.next h0 hs
        obtain ⟨n2, q2, N2, h2, g1, g2⟩ := tear_far h0 K bit f (nextL C inp L) _ _ _ h1
        exact ⟨n2, q2, N2, h2, by omega, by simp only; omega⟩
      · exact ⟨n, q, N, h, Nat.le_refl _, Nat.le_refl _⟩
theorem do_far {b0 : Be} (h0 : Calm b0) (s : LStp) {L : Li} {n q N : Nat} (h : FarB (tr C inp b0) n q N L.b) : ∃ n' q' N', FarB (tr C inp b0) n' q' N' (doL C inp s L).1.b ∧ N ≤ N' ∧ N' ≤ N + (doL C inp s L).2 := by
  rw [doL]; split
  · exact ⟨n, q, N, h, Nat.le_refl _, Nat.le_refl _⟩
  · split
    · exact run_far h0 _ L n q N h
    · split
      · exact tear_far h0 _ _ _ L n q N h
      · exact ⟨_, _, _, h.wake, Nat.le_refl _, Nat.le_refl _⟩
theorem calm0 (k : Nat) : Calm (be0 k) := ⟨rfl, rfl⟩
theorem far0 (k : Nat) : FarB (tr C inp (be0 k)) 0 0 0 (L0 k).b := ⟨rfl, rfl, rfl, rfl, Nat.le_refl _, Nat.le_refl _⟩
end
def St4 (n : Int) : Prop := n = 0 ∨ n = 1 ∨ n = 13 ∨ n = 14
theorem tr_st {p : Pr} {inp : List Int} : ∀ n, St4 (tr (codeOf p) inp (be0 (sizes p.vars).toNat) n).m.st := by
  have hdo : ∀ (b : Be) (x : In), St4 b.m.st → St4 (doIn inp false x b).m.st := by
    rintro ⟨⟨next, stack, rd, outn, st, cells⟩, kept, out, wrong⟩ x h
    simp only at h
    show (fun b' : Be => St4 b'.m.st) _
    simp only [doIn]
    refine iteQ2 (Q := fun b' : Be => St4 b'.m.st) h ?_
    refine iteQ2 (Q := fun b' : Be => St4 b'.m.st) h ?_
    refine iteQ2 (Q := fun b' : Be => St4 b'.m.st) ?_ ?_
    · cases stack with
      | nil => exact h
      | cons k s => exact iteQ2 (Q := fun b' : Be => St4 b'.m.st) (.inr (.inr (.inl rfl))) h
    refine iteQ2 (Q := fun b' : Be => St4 b'.m.st) ?_ ?_
    · rcases stack with _ | ⟨y, _ | ⟨z, s⟩⟩ <;> exact h
    refine iteQ2 (Q := fun b' : Be => St4 b'.m.st) ?_ ?_
    · cases stack <;> exact h
    refine iteQ2 (Q := fun b' : Be => St4 b'.m.st) ?_ ?_
    · rcases stack with _ | ⟨y, _ | ⟨z, s⟩⟩
      · exact h
      · exact h
      · exact iteQ2 (Q := fun b' : Be => St4 b'.m.st) (.inr (.inr (.inl rfl))) h
    refine iteQ2 (Q := fun b' : Be => St4 b'.m.st) ?_ ?_
    · cases stack with
      | nil => exact h
      | cons k s => exact iteQ2 (Q := fun b' : Be => St4 b'.m.st) h h
    refine iteQ2 (Q := fun b' : Be => St4 b'.m.st) (iteQ2 (Q := fun b' : Be => St4 b'.m.st) (.inr (.inr (.inr rfl))) h) ?_
    refine iteQ2 (Q := fun b' : Be => St4 b'.m.st) ?_ ?_
    · cases stack with
      | nil => exact h
      | cons k s => exact iteQ2 (Q := fun b' : Be => St4 b'.m.st) h h
    refine iteQ2 (Q := fun b' : Be => St4 b'.m.st) h ?_
    refine iteQ2 (Q := fun b' : Be => St4 b'.m.st) h ?_
    exact iteQ2 (Q := fun b' : Be => St4 b'.m.st) (.inr (.inl rfl)) h
  intro n
  induction n with
  | zero => exact .inl rfl
  | succ n ih =>
    rw [tr, nextB]; split
    · rw [stepB]; split
      · exact ih
      · exact hdo (bump _) _ ih
    · exact ih
theorem now_not15 {b : Be} (hw : b.wrong = false) (h : St4 b.m.st) : nowC b ≠ 15 := by
  rw [nowC, hw]
  rcases h with h | h | h | h <;> rw [h] <;> decide
end Go.Proofs.YtmnmcjdgnpgchaaGreat

namespace Go.Proofs.YtmnmcjdgnpgchaaGreat
open Go X
set_option maxHeartbeats 8000000
set_option maxRecDepth 20000 in
theorem lprints_law (σ : PH) (cs : List Value) (p : Pr) (iv : Value) (inp : List Int) (lv : Value) (l : List LStp) (hp : PrAt σ cs p) (hi : PInts σ iv inp) (hl : PSl 4 rLStp σ lv l) :
    CallsA Tryz.prog 5 #[.agg cs.toArray, iv, lv] σ [] (RetA fun r σ' _ => r = .bool true ∧ σ.sub σ') := by
  have hp0 := hp
  obtain ⟨vs, bs, rfl, hv, hb⟩ := hp
  obtain ⟨pv, cv, rfl, -, -⟩ := hv.shape
  obtain ⟨pb0, cb, rfl, -, -⟩ := hb.shape
  obtain ⟨pl, cl, rfl, hll, hlm⟩ := hl.shape
  obtain ⟨pi0, ci0, rfl, hil, him⟩ := hi.shape
  simp only [maxLen] at hlm him
  refine enterA3 Tryz.func5 rfl rfl rfl ?_
  refine zS (zR ?_)
  refine zw rfl WrA.bx ?_
  rintro _ _ _ ⟨g3, rfl, rfl, rfl⟩
  refine zO rfl Rd.asg ?_; refine zN (zT (zS (zS (zR ?_))))
  refine zw rfl (WrA.cE (lifebegun_a σ) rfl) ?_
  rintro _ σ1 _ ⟨_, ⟨rfl, hs1, rfl⟩, rfl⟩
  refine XOA.cl ?_
  have hp1 := hp0.mono hs1
  have hi1 := hi.mono hs1
  have hl1 := hl.mono hs1 (fun cs x h => h)
  refine zO rfl zJ ?_; refine zN (zT (XA.condF rfl rfl (XA.skip (zT (zS (zS (zR (zO rfl (Rd.ldA rfl) ?_)))))))); refine zA rfl ?_; refine zA rfl ?_
  refine zw rfl (WrA.cE (greatlife_a σ1 _ p _ inp _ l hp1 hi1 hl1) rfl) ?_
  rintro _ _ _ ⟨_, ⟨b, rfl, hsm, rfl, rfl⟩, rfl⟩
  refine XOA.cl ?_
  cases b with
  | true =>
    refine zN (zT (XA.condT rfl rfl (zS (zR (zO rfl Rd.asg ?_))))); refine zN (zT (XA.ret (DA.thn_ret ?_)))
    exact bodyA.ret (ResA.one rfl rfl) (Ent.nil _) ⟨rfl, hs1⟩
  | false =>
    obtain ⟨hsm, h100, h60⟩ := hsm rfl
    have h900 := hsm.2.2
    have hcdl := codeOf_len p
    by_cases hc : checkP p = 0
    · by_cases h40 : inp.length ≤ 40
      · have hnew := newl_ok σ1 _ p _ inp hp1 hi1 (by omega) hc h40
        refine zN (zT (XA.condF rfl rfl (XA.skip (zT (zS (zR (zO rfl (Rd.ldA rfl) ?_))))))); refine zA rfl ?_
        refine zw rfl (WrA.cE (hnew) rfl) ?_
        rintro _ σ2 _ ⟨Γ1, ⟨gx, db, pb, pc, cc, rfl, hs2, hcd, hL1⟩, rfl⟩
        refine XOA.cl ?_
        have hL1' := hL1
        obtain ⟨g, mb, sb, d, s, pi, ci, pj, cj, hQ, hsg, hG, hi2, hj2, rfl⟩ := hL1
        refine zA rfl ?_; refine zO rfl (Rd.extract rfl rfl) ?_; refine zO rfl (Rd.extract rfl rfl) ?_; refine zO rfl Rd.asg ?_; refine zO rfl Rd.asg ?_; refine zN (zT (zS (zS (zR (zA rfl ?_))))); refine zO rfl (Rd.neq rfl rfl) ?_; refine zN (zT (XA.condF rfl rfl (XA.skip (zT (zS (zR ?_))))))
        refine zw rfl (WrA.bs (fun _ _ => tyrow) rfl rfl rfl rfl rfl) ?_
        rintro _ _ _ ⟨g32, rfl, rfl, rfl⟩
        refine zO rfl Rd.asg ?_; refine zO rfl Rd.asg ?_; refine zN (zT (zS (zS (zR (zO rfl Rd.asg ?_))))); refine zN (zT (XA.block ?_))
        have hw0 : PInts σ2 (.slice (some ⟨g32, 0, none⟩) (L0 (sizes p.vars).toNat).b.out.length 0) (L0 (sizes p.vars).toNat).b.out := ⟨_, _, rfl, Nat.le_refl _, by simp [maxLen], fun h => absurd h (Nat.lt_irrefl 0)⟩
        refine XA.gen [(1, _), (2, _), (3, _), (6, _), (7, _), (9, _), (10, _), (11, _)] ⟨(by with_reducible (conv => lhs; whnf)), (by with_reducible (conv => lhs; whnf)), (by with_reducible (conv => lhs; whnf)), (by with_reducible (conv => lhs; whnf)), (by with_reducible (conv => lhs; whnf)), (by with_reducible (conv => lhs; whnf)), (by with_reducible (conv => lhs; whnf)), (by with_reducible (conv => lhs; whnf)), trivial⟩ (fun δ => ?_)
        dsimp only [List.foldl]
        refine XA.loop [(6, 6), (9, 14), (33, 64)] (fun x : (Nat × Nat) × (Li × (Option Addr × Nat)) => [(11, i64 x.1.1), (9, i64 x.1.2), (10, .slice x.2.2.1 x.2.1.b.out.length x.2.2.2)]) (fun x σ' Γ' => σ2.sub σ' ∧ x.1.1 ≤ l.length ∧ x.1.2 ≤ 3000 * x.1.1 ∧ LiOk p inp x.2.1 (3000 * x.1.1) ∧ PInts σ' (.slice x.2.2.1 x.2.1.b.out.length x.2.2.2) x.2.1.b.out ∧ (∃ n q N, FarB (tr (codeOf p) inp (be0 (sizes p.vars).toNat)) n q N x.2.1.b ∧ N ≤ x.1.2) ∧ ∃ gn : Int, gn ≤ (3000 * x.1.1 : Nat) ∧ ∃ Γ1, LifeG σ' gx db pb pc cc (sizes p.vars).toNat p inp x.2.1 gn Γ1 ∧ Γ' = blk g3 [.slice pv p.vars.length cv, .slice pb0 p.body.length cb] 25 :: Γ1) (fun x => l.length - x.1.1) ((0, 0), (L0 (sizes p.vars).toNat, (some ⟨g32, 0, none⟩, 0))) (by exact ⟨rfl, rfl, rfl, trivial⟩) (Δ0 := _) ?_ (⟨.refl _, Nat.zero_le _, Nat.zero_le _, life0 hc inp (by omega) (by omega), hw0, ⟨0, 0, 0, far0 _, Nat.le_refl _⟩, 0, Int.le_refl _, _, hL1', rfl⟩) ?_
        · exact zE
        rintro ⟨⟨i, al⟩, L, pw, cw⟩ δ σ3 _ ⟨hs3, hin, hal, hok, hwas, hfar, gn, hgn, Γ2, hL2, rfl⟩
        dsimp only [ovr, List.foldl]
        have hin : i ≤ l.length := hin
        have hal : al ≤ 3000 * i := hal
        simp only at hok hgn hL2 hwas hfar
        have hL2' := hL2
        obtain ⟨g2, mb2, sb2, d2, s2, pi2, ci2, pj2, cj2, hQ2, hsg2, hG2, hi22, hj22, rfl⟩ := hL2
        have hc3 := hcd.mono hs3 (fun _ _ h => h)
        obtain ⟨n0, q0, N0, hF0, hN0⟩ := hfar
        refine zS (zS (zR (zA rfl ?_))); refine zA rfl ?_; refine zO rfl (Rd.lenSlice (tyrow rfl) rfl rfl) ?_; refine zO rfl (Rd.lss rfl rfl) ?_; refine zN (zT ?_)
        refine XA.condp rfl (fun hlt => ?_) (fun hlt => ?_)
        · have hlt : i < l.length := by omega
          obtain ⟨x, hx⟩ : ∃ x, l[i]? = some x := ⟨_, List.getElem?_eq_getElem hlt⟩
          obtain ⟨gr, orow, row, rfl, ⟨hrx, hxK, hx0, hx1⟩, hrl, hrow⟩ := (hl1.mono (hs2.trans hs3) (fun cs x h => h)).at hx
          subst hrx
          have hdo := do_l σ3 gx db pb pc cc (sizes p.vars).toNat p inp L gn (3000 * i) x _ hxK hx0 hx1 hc3 hL2' hok (by omega) hgn
          obtain ⟨hok2, hle2, -⟩ := doL_ok x hok (by omega)
          obtain ⟨n1, q1, N1, hF1, hN1, hN2⟩ := do_far (calm0 _) x hF0
          obtain ⟨L', hL'⟩ : ∃ L', L' = (doL (codeOf p) inp x L).1 := ⟨_, rfl⟩
          obtain ⟨k', hk'⟩ : ∃ k', k' = (doL (codeOf p) inp x L).2 := ⟨_, rfl⟩
          rw [← hL', ← hk'] at hdo hok2
          rw [← hL'] at hF1
          rw [← hk'] at hle2 hN2
          have hok3 : LiOk p inp L' (3000 * (i + 1)) := hok2.le (by omega)
          have hcl3 := hok3.mach.cells
          have hn15 : nowC L'.b ≠ 15 := now_not15 hF1.wrong (by rw [hF1.m]; exact tr_st _)
          have hpre : L.b.out <+: L'.b.out := by rw [hF0.out, hF1.out]; exact tr_pre _ hN1
          refine XA.skip (zT (zS (XA.block (zS (zR (zA rfl ?_)))))); refine zA rfl ?_; refine zA rfl ?_; refine zO rfl (Rd.ixS rfl rfl) ?_; refine zO rfl (Rd.ldA rfl) ?_
          refine zw rfl (WrA.cE (hdo) rfl) ?_
          rintro _ σ4 _ ⟨Γ3, ⟨rfl, hs4, gn3, hg3, -, hL3⟩, rfl⟩
          refine XOA.cl ?_
          have hL3' := hL3
          obtain ⟨g3, mb3, sb3, d3, s3, pi3, ci3, pj3, cj3, hQ3, hsg3, hG3, hi3, hj3, rfl⟩ := hL3
          try dsimp only [List.append, List.cons_append, List.nil_append]
          refine zA rfl ?_; refine zO rfl (Rd.extract rfl rfl) ?_; refine zO rfl (Rd.extract rfl rfl) ?_; refine zO rfl Rd.asg ?_; refine zO rfl Rd.asg ?_; refine zN (zT (zS (zR (zA rfl ?_)))); refine zA rfl ?_; refine zO rfl zI ?_; refine zO rfl Rd.asg ?_; refine zN (zT (zS (zR (zA rfl ?_))))
          refine zw rfl (WrA.cE (nowe_l σ4 gx db pb pc cc (sizes p.vars).toNat p inp L' (3000 * (i + 1)) g3 mb3 sb3 d3 s3 pi3 ci3 pj3 cj3 hok3 (by omega) hcl3.symm) rfl) ?_
          rintro _ σ5 _ ⟨_, ⟨po, co, pv2, cv2, rfl, hvo, hvc, hs5, rfl⟩, rfl⟩
          refine XOA.cl ?_
          try dsimp only [List.append, List.cons_append, List.nil_append]
          refine zO rfl (Rd.fld (tyrow rfl) rfl rfl (tyrow rfl) rfl rfl rfl) ?_; refine zO rfl Rd.asg ?_; refine zN (zT (zS (zS (zR (zA rfl ?_)))))
          have hnow := nowe_l σ5 gx db pb pc cc (sizes p.vars).toNat p inp L' (3000 * (i + 1)) g3 mb3 sb3 d3 s3 pi3 ci3 pj3 cj3 hok3 (by omega) hcl3.symm
          refine zw rfl (WrA.cE (hnow) rfl) ?_
          rintro _ σ6 _ ⟨_, ⟨po2, co2, pv3, cv3, rfl, hvo2, hvc2, hs6, rfl⟩, rfl⟩
          refine XOA.cl ?_
          try dsimp only [List.append, List.cons_append, List.nil_append]
          refine zO rfl (Rd.fld (tyrow rfl) rfl rfl (tyrow rfl) rfl rfl rfl) ?_; refine zO rfl (Rd.eql rfl rfl) ?_; refine zA rfl ?_
          first | (refine zG ?_; refine zA rfl ?_) | refine zH ?_
          first | (refine zG ?_; refine zA rfl ?_) | refine zH ?_
          first | refine XOA.wanted rfl rfl ?_ | refine XOA.wq rfl rfl ?_
          refine zw rfl (WrA.cE (begins_a σ6 _ _ L.b.out L'.b.out (hwas.mono ((hs4.trans hs5).trans hs6)) (hvo.mono hs6) hpre) rfl) ?_
          rintro _ _ _ ⟨_, ⟨rfl, rfl, rfl⟩, rfl⟩
          refine XOA.cl ?_
          first | (refine zG ?_; refine zO rfl zJ ?_) | refine zH ?_
          refine zO rfl zP ?_; refine zN (zT (XA.condF rfl (by first | rfl | exact decide_eq_false hn15) ?_)); refine XA.skip (zT (zR (zA rfl ?_))); refine zO rfl Rd.asg ?_; refine zN (DA.inb_normal (zT (zR (zA rfl ?_)))); refine zO rfl zI ?_; refine zO rfl Rd.asg ?_; refine zN (zT ?_)
          refine ⟨(Keep.upd (Keep.upd (Keep.upd (Keep.upd (Keep.upd (Keep.upd (Keep.upd (Keep.updO (Keep.upd (Keep.upd (Keep.upd (Keep.upd (Keep.upd (Keep.updO (Keep.upd (Keep.upd (Keep.upd (Keep.updO (Keep.upd (Keep.upd (Keep.upd (Keep.upd (Keep.upd (Keep.upd (Keep.upd (Keep.upd (Keep.upd (Keep.upd (Keep.updO (Keep.upd (Keep.upd (Keep.upd (Keep.upd (Keep.upd (Keep.upd (Keep.upd (Keep.upd (Keep.upd (Keep.upd (Keep.upd (Keep.upd (Keep.hav (Keep.hav (Keep.hav (Keep.refl _ _) rfl) rfl) rfl) rfl) rfl) rfl) rfl) rfl) rfl) rfl) rfl) rfl) rfl) rfl) rfl) rfl) rfl) rfl) rfl) rfl) rfl) rfl) rfl) rfl) rfl) rfl) rfl) rfl) rfl) rfl) rfl) rfl) rfl) rfl) rfl) rfl) rfl) rfl) rfl) rfl) rfl) rfl) rfl) rfl), ((i + 1, al + k'), (L', (po, co))), _, zM, ?_, ⟨((hs3.trans hs4).trans hs5).trans hs6, hlt, by show al + k' ≤ 3000 * (i + 1); omega, hok3, hvo.mono hs6, ⟨n1, q1, N1, hF1, by show N1 ≤ al + k'; omega⟩, gn3, by show gn3 ≤ ((3000 * (i + 1) : Nat) : Int); omega, _, hL3'.mono (hs5.trans hs6), rfl⟩, (by simp only; omega)⟩
          · exact zE
        obtain rfl : i = l.length := by omega
        refine XA.exit (DA.thn_exit (DA.thn_exit (DA.inb_same (zT (zS (zS (zR (zA rfl ?_)))))))); refine zO rfl (Rd.gtr rfl rfl) ?_; refine zN (zT ?_)
        by_cases h3 : 3000 < al
        · refine XA.condT rfl (by first | rfl | exact decide_eq_true (by omega)) ?_
          refine zS (zR (zO rfl Rd.asg ?_)); refine zN (zT (XA.ret (DA.thn_ret ?_)))
          exact bodyA.ret (ResA.one rfl rfl) (Ent.nil _) ⟨rfl, (hs1.trans hs2).trans hs3⟩
        · skip
          refine XA.condF rfl (by first | rfl | exact decide_eq_false (by omega)) ?_; refine XA.skip (zT (zS (zR (zO rfl (Rd.ldA rfl) ?_)))); refine zA rfl ?_; refine zA rfl ?_
          refine zw rfl (WrA.cE (run_ok σ3 _ p _ inp al (hp1.mono (hs2.trans hs3)) (hi1.mono (hs2.trans hs3)) hc h40 (by omega)) rfl) ?_
          rintro _ σ4 _ ⟨_, ⟨c, s, po, pc2, co, cc2, hrun, rfl, hvo, hvc, hle, hs4, rfl⟩, rfl⟩
          refine XOA.cl ?_
          obtain ⟨b, r1, -, -, r4, -, -⟩ := run_sim hc hrun
          obtain ⟨t1, -⟩ := runM_tr (C := codeOf p) (inp := inp) al (be0 (sizes p.vars).toNat)
          rw [r1] at t1
          simp only at t1
          have hpre : L.b.out <+: s.out := by rw [hF0.out, ← r4, t1]; exact tr_pre _ hN0
          refine zA rfl ?_; refine zO rfl (Rd.extract rfl rfl) ?_; refine zO rfl (Rd.extract rfl rfl) ?_; refine zO rfl (Rd.extract rfl rfl) ?_
          refine zw rfl (WrA.alloc (tyrow rfl)) ?_
          rintro _ _ _ ⟨g15, rfl, rfl, rfl⟩
          refine zw rfl (WrA.st (tyrow rfl) rfl) ?_
          rintro _ _ _ ⟨rfl, rfl, rfl⟩
          refine zO rfl Rd.asg ?_; refine zO rfl Rd.asg ?_; refine zN (zT (zS (zR (zA rfl ?_)))); refine zO rfl (Rd.eql rfl rfl) ?_; refine zA rfl ?_
          first | (refine zG ?_; refine zA rfl ?_) | refine zH ?_
          first | (refine zG ?_; refine zV rfl rfl ?_) | refine zH ?_
          first | (refine zG ?_; refine zB rfl rfl (tyrow rfl) rfl ?_) | refine zH ?_
          first | refine XOA.wanted rfl rfl ?_ | refine XOA.wq rfl rfl ?_
          refine zw rfl (WrA.cE (begins_a σ4 _ _ L.b.out s.out (hwas.mono hs4) hvo hpre) rfl) ?_
          rintro _ _ _ ⟨_, ⟨rfl, rfl, rfl⟩, rfl⟩
          refine XOA.cl ?_; refine zO rfl zP ?_; refine zO rfl Rd.asg ?_; refine zN (zT (XA.ret ?_))
          refine bodyA.ret (ResA.one rfl rfl) (Ent.nil _) ⟨?_, ((hs1.trans hs2).trans hs3).trans hs4⟩
          first | rfl | exact congrArg Value.bool (decide_eq_true (by omega))
      · have hnew := newl_long σ1 _ p _ inp hp1 hi1 (by omega) hc (by omega)
        refine zN (zT (XA.condF rfl rfl (XA.skip (zT (zS (zR (zO rfl (Rd.ldA rfl) ?_))))))); refine zA rfl ?_
        refine zw rfl (WrA.cE (hnew) rfl) ?_
        rintro _ σ2 _ ⟨_, ⟨rfl, hs2, rfl⟩, rfl⟩
        refine XOA.cl ?_; refine zA rfl ?_; refine zO rfl (Rd.extract rfl rfl) ?_; refine zO rfl (Rd.extract rfl rfl) ?_; refine zO rfl Rd.asg ?_; refine zO rfl Rd.asg ?_; refine zN (zT (zS (zS (zR (zA rfl ?_))))); refine zO rfl (Rd.neq rfl rfl) ?_
        refine zN (zT (XA.condT rfl rfl (zS (zR (zO rfl Rd.asg ?_))))); refine zN (zT (XA.ret (DA.thn_ret ?_)))
        exact bodyA.ret (ResA.one rfl rfl) (Ent.nil _) ⟨rfl, hs1.trans hs2⟩
    · have hnew := newl_bad σ1 _ p _ inp hp1 hi1 (by omega) hc
      refine zN (zT (XA.condF rfl rfl (XA.skip (zT (zS (zR (zO rfl (Rd.ldA rfl) ?_))))))); refine zA rfl ?_
      refine zw rfl (WrA.cE (hnew) rfl) ?_
      rintro _ σ2 _ ⟨_, ⟨rfl, hs2, rfl⟩, rfl⟩
      refine XOA.cl ?_; refine zA rfl ?_; refine zO rfl (Rd.extract rfl rfl) ?_; refine zO rfl (Rd.extract rfl rfl) ?_; refine zO rfl Rd.asg ?_; refine zO rfl Rd.asg ?_; refine zN (zT (zS (zS (zR (zA rfl ?_))))); refine zO rfl (Rd.neq rfl rfl) ?_
      refine zN (zT (XA.condT rfl (by first | rfl | exact decide_eq_true hc) ?_)); refine zS (zR (zO rfl Rd.asg ?_)); refine zN (zT (XA.ret (DA.thn_ret ?_)))
      exact bodyA.ret (ResA.one rfl rfl) (Ent.nil _) ⟨rfl, hs1.trans hs2⟩
end Go.Proofs.YtmnmcjdgnpgchaaGreat

namespace Go.Proofs.YtmnmcjdgnpgchaaGreat
open Go X Go.ChangeShapes Go.WideShapes Go.ChangeAt Go.RowKit
theorem lst4p {α : Type} : ∀ {l : List α}, l.length = 4 → ∃ a b c d, l = [a, b, c, d]
  | [a, b, c, d], _ => ⟨a, b, c, d, rfl⟩
theorem dec_lstp : Dec Tryz.prog 45 rLStp := ⟨fun {H enc w fuel cs x} h => by
  obtain ⟨hl, hx⟩ := trod_fields (tyrow rfl) rfl h
  obtain ⟨f0, y0, h0⟩ := hx (3, 0) (by simp)
  obtain ⟨f1, y1, h1⟩ := hx (3, 1) (by simp)
  obtain ⟨f2, y2, h2⟩ := hx (3, 2) (by simp)
  obtain ⟨f3, y3, h3⟩ := hx (43, 3) (by simp)
  obtain ⟨a0, p0, -⟩ := (Dec.int (tyrow rfl) rfl).out h0
  obtain ⟨a1, p1, -⟩ := (Dec.int (tyrow rfl) rfl).out h1
  obtain ⟨a2, p2, q2⟩ := (Dec.int (tyrow rfl) rfl).out h2
  obtain ⟨a3, p3, q3⟩ := (Dec.int (tyrow rfl) rfl).out h3
  rw [cellsOf_ty' (tyrow rfl)] at p0 p1 p2 p3
  have hcs : cs.length = 4 := hl
  obtain ⟨c0, c1, c2, c3, rfl⟩ := lst4p hcs
  simp only [List.drop_zero, List.drop_succ_cons] at p0 p1 p2 p3
  have e0 : c0 = i64 a0 := by have := congrArg (·[0]?) p0; simpa using this
  have e1 : c1 = i64 a1 := by have := congrArg (·[0]?) p1; simpa using this
  have e2 : c2 = i64 a2 := by have := congrArg (·[0]?) p2; simpa using this
  have e3 : c3 = .int .u64 a3 := by have := congrArg (·[0]?) p3; simpa using this
  subst e0 e1 e2 e3
  exact ⟨⟨a0, a1, a2, a3⟩, rfl, Int.lt_of_le_of_lt q2.2 (by decide), q3.1, Int.lt_of_le_of_lt q3.2 (by decide)⟩⟩
end Go.Proofs.YtmnmcjdgnpgchaaGreat

namespace Go.Proofs.YtmnmcjdgnpgchaaGreat
open Go X Go.ChangeShapes Go.WideShapes Go.ChangeAt Go.RowKit
set_option maxRecDepth 100000 in
theorem lifePrints_lifted (os : Os) (started : os.Started) (H : Type) (enc : TypeId × Value → H) :
    ReturnsInHanded {} Tryz.checked os 5 .any (Rows.lifePrintsSpec.pre6 enc Tryz.prog Tryz.f5 Rows.lifePrintsRow.domain false) (Rows.lifePrintsSpec.post enc Tryz.prog Tryz.f5 false true false false) := by
  refine returnsInHanded_of_change (C := Tryz.checked) Tryz.own started (by kernel_rfl) Tryz.func5
    (ChangeSpec.witness6 (enc := enc) (C := Tryz.checked) false ⟨#[], #[.agg #[.slice none 0 0, .slice none 0 0], .slice none 0 0, .slice none 0 0], []⟩ 8 (by kernel_rfl) (by kernel_rfl) (by kernel_rfl) (by kernel_rfl)) ?_
  intro W base args ds gs before hval0 hW hcnd _
  have hval : ∀ (j : Nat) t v, Tryz.f5.params[j]? = some t → args[j]? = some v → Value.okWide Tryz.prog W .any base t v := hval0
  have hW' := hW
  obtain ⟨p, q, hA0, hV, rfl, hfz, hnd⟩ := hW
  have hA : DataW.TrodAll enc Tryz.prog W 0 (fun _ => true) true [25, 26, 27] args.toList ds p := hA0
  obtain ⟨v0, v1, v2, d0, d1, d2, p0, p1, p2, rfl, rfl, rfl, h0, h1, h2⟩ := trodAll_three hA
  have hb : Tryz.prog.underlying 4 = some .bool := by kernel_rfl
  refine post_true (fid := 5) (tb := 4) Tryz.laidOut (by kernel_rfl) rfl rfl hb ?_ hW' (callsX_true ?_)
  · obtain ⟨rfl, rfl⟩ := trodVars_none hV; rfl
  · obtain ⟨pr0, cs0, rfl, hp0⟩ := Dec.agg dec_pr (tyrow rfl) rfl (hval 0 _ v0 rfl rfl) h0
    obtain ⟨xs1, _, e1, hxs1⟩ := (Dec.slice (tyrow rfl) rfl (tyrow rfl) rfl (by decide) (Dec.int (tyrow rfl) rfl)).one (tyrow rfl) rfl (hval 1 _ v1 rfl rfl) h1 rSl_one
    simp only [List.cons.injEq, and_true] at e1
    subst e1
    obtain ⟨ms2, _, e2, hms2⟩ := (Dec.slice (tyrow rfl) rfl (tyrow rfl) rfl (by decide) dec_lstp).one (tyrow rfl) rfl (hval 2 _ v2 rfl rfl) h2 rSl_one
    simp only [List.cons.injEq, and_true] at e2
    subst e2
    exact lprints_law _ cs0 pr0 _ xs1 _ ms2 hp0 (pints_of hxs1) hms2
theorem lifePrints_holds : Rows.LifePrintsSaid :=
  OpenClaim.holds_of_wide 5 Tryz.f5 rfl rfl rfl rfl rfl rfl rfl ⟨rfl, rfl, rfl, rfl, rfl⟩ rfl rfl rfl rfl rfl (by kernel_rfl) Tryz.func5 (by kernel_rfl)
    (of_decide_eq_true (by kernel_rfl)) (by unfold Func.isWrapper; first | (rw [if_pos (by decide +kernel)]; kernel_rfl) | (rw [if_neg (by decide +kernel)]; exact ⟨rfl, rfl⟩))
    (fun os started H enc _ => lifePrints_lifted os started H enc)
end Go.Proofs.YtmnmcjdgnpgchaaGreat

