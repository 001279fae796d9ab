/- Part 2 of 3 of what the claim needs: CdK, CdM, CdN, CdO, CdP, CdQ, CdR, CdT, CdU, CdV, CdW, CdX, Px, Sh, Ta, Tb, Tc, Td, Te, Tf, Th, Ti, Tj, Ra, Rb, Rc, Rd, Re, Rf, Rg, Rh, Rj, Ya, Yb, In, Yi, Yo, Rk, Rl, Rn, Yd, Ye, Yf. -/
import Derived.Test.YthefnnkmpcgcmaaDoorWap1
import Derived.Recover
import Derived.Shelf.LaysM
import Derived.Shelf.LaysC
import Derived.Shelf.Strconv.Itoa4
import Derived.Shelf.Strconv.ParseIntPublic10
import Derived.Test.YthefnnkmpcgcmaaDoorProg
import Derived.Laws.Strings2
import Derived.Lib.ParseIntBTie
import Derived.Laws.Concat
import Derived.Lib.ItoaLen
import Derived.Lib.Builder
import Derived.Lib.UnsafeStr
import Derived.Lib.AppendStr
import Derived.Laws.Externs
namespace Go.Proofs.YthefnnkmpcgcmaaDoor
open Go X
set_option maxHeartbeats 1000000
theorem Judge.any {b : Nat} {vs : Value} {e : JE} : ∀ m, Judge b vs e m → ∃ x : Int × Int, (∀ m', Sat [blk b [vs, i64 x.1, i64 x.2] 94] m' → Judge b vs e m') ∧ Sat [blk b [vs, i64 x.1, i64 x.2] 94] m := by
  rintro m ⟨l', c, h, h0⟩
  exact ⟨(l', c), fun m' h' => ⟨l', c, of_sat1 blk_mono h', h0⟩, sat1 h⟩
theorem Judge.anyD {b : Nat} {vs : Value} {e : JE} : ∀ m, Judge b vs e m → ∃ x : Int × Int, (decide (x.2 = 0) = e.isOk ∧ ∀ m', Sat [blk b [vs, i64 x.1, i64 x.2] 94] m' → Judge b vs e m') ∧ Sat [blk b [vs, i64 x.1, i64 x.2] 94] m := by
  rintro m ⟨l', c, h, h0⟩
  refine ⟨(l', c), ⟨?_, fun m' h' => ⟨l', c, of_sat1 blk_mono h', h0⟩⟩, sat1 h⟩
  cases e with
  | ok l => obtain ⟨-, rfl⟩ := h0; rfl
  | error d => obtain ⟨-, h0⟩ := h0; exact decide_eq_false h0
theorem named_a (σ : PH) (b : Nat) (p : Option Addr) (n c : Nat) (e : JE) (v : Int) (is : Bool) :
    CallsA Tryd.prog 96 #[ptr b, i64 v, .bool is] σ [Judge b (.slice p n c) e] (RetA fun r σ' Γ' => r = .tuple #[] ∧ σ = σ' ∧ Γ' = [Judge b (.slice p n c) (e.named n v is)]) := by
  cases is with
  | false =>
    refine enterA3 Tryd.func96 rfl rfl rfl ?_
    refine zS (zR (zA rfl ?_)); refine zA rfl ?_; refine zA rfl ?_
    first | (refine zG ?_; refine zA rfl ?_) | refine zH ?_
    first | (refine zG ?_; refine zO rfl (Rd.lss rfl rfl) ?_) | refine zH ?_
    first | (refine zG ?_; refine zA rfl ?_) | refine zH ?_
    first | (refine zG ?_; refine zA rfl ?_) | refine zH ?_
    first | (refine zG ?_; refine zA rfl ?_) | refine zH ?_
    first | (refine zG ?_; refine zO rfl (Rd.nilCheck rfl) ?_) | refine zH ?_
    first | (refine zG ?_; refine zV rfl rfl ?_) | refine zH ?_
    first | (refine zG ?_; refine zB rfl rfl (tyrow rfl) rfl ?_) | refine zH ?_
    first | (refine zG ?_; refine zO rfl (Rd.lenSlice (tyrow rfl) rfl rfl) ?_) | refine zH ?_
    first | (refine zG ?_; refine zO rfl (Rd.geq rfl rfl) ?_) | refine zH ?_
    first | (refine zG ?_; refine zO rfl zP ?_) | refine zH ?_
    refine zO rfl zP ?_
    refine XOA.wr0 rfl (WrA.cE (fail_a σ b _ e false 1 (by decide)) rfl) ?_
    rintro _ _ _ ⟨_, ⟨rfl, rfl, rfl⟩, rfl⟩
    refine XOA.cl ?_; refine zN (zT (zR (zA rfl ?_))); refine zA rfl ?_; refine zO rfl zJ ?_; refine zA rfl ?_
    first | (refine zG ?_; refine zA rfl ?_) | refine zH ?_
    first | (refine zG ?_; refine zO rfl (Rd.neq rfl rfl) ?_) | refine zH ?_
    refine zO rfl zP ?_
    refine XOA.wr0 rfl (WrA.cE (fail_a σ b _ _ (decide (v ≠ 0)) 5 (by decide)) rfl) ?_
    rintro _ _ _ ⟨_, ⟨rfl, rfl, rfl⟩, rfl⟩
    refine XOA.cl ?_; refine zN ?_
    exact bodyA.normal (ResA.none rfl) (Ent.refl _) ⟨rfl, rfl, rfl⟩
  | true =>
    by_cases h0 : v < 0
    · 
      refine enterA3 Tryd.func96 rfl rfl rfl ?_
      refine zS (zR (zA rfl ?_)); refine zA rfl ?_; refine zA rfl ?_
      first | (refine zG ?_; refine zA rfl ?_) | refine zH ?_
      first | (refine zG ?_; refine zO rfl (Rd.lss rfl rfl) ?_) | refine zH ?_
      first | (refine zG ?_; refine zA rfl ?_) | refine zH ?_
      first | (refine zG ?_; refine zA rfl ?_) | refine zH ?_
      first | (refine zG ?_; refine zA rfl ?_) | refine zH ?_
      first | (refine zG ?_; refine zO rfl (Rd.nilCheck rfl) ?_) | refine zH ?_
      first | (refine zG ?_; refine zV rfl rfl ?_) | refine zH ?_
      first | (refine zG ?_; refine zB rfl rfl (tyrow rfl) rfl ?_) | refine zH ?_
      first | (refine zG ?_; refine zO rfl (Rd.lenSlice (tyrow rfl) rfl rfl) ?_) | refine zH ?_
      first | (refine zG ?_; refine zO rfl (Rd.geq rfl rfl) ?_) | refine zH ?_
      first | (refine zG ?_; refine zO rfl zP ?_) | refine zH ?_
      refine zO rfl zP ?_
      refine XOA.wr0 rfl (WrA.cE (fail_a σ b _ e true 1 (by decide)) rfl) ?_
      rintro _ _ _ ⟨_, ⟨rfl, rfl, rfl⟩, rfl⟩
      refine XOA.cl ?_; refine zN (zT (zR (zA rfl ?_))); refine zA rfl ?_; refine zO rfl zJ ?_; refine zA rfl ?_
      first | (refine zG ?_; refine zA rfl ?_) | refine zH ?_
      first | (refine zG ?_; refine zO rfl (Rd.neq rfl rfl) ?_) | refine zH ?_
      refine zO rfl zP ?_
      refine XOA.wr0 rfl (WrA.cE (fail_a σ b _ _ false 5 (by decide)) rfl) ?_
      rintro _ _ _ ⟨_, ⟨rfl, rfl, rfl⟩, rfl⟩
      refine XOA.cl ?_; refine zN ?_
      refine bodyA.normal (ResA.none rfl) (Ent.refl _) ⟨rfl, rfl, ?_⟩
      have : decide (v < 0 ∨ (n : Int) ≤ v) = true := decide_eq_true (Or.inl h0)
      simp only [JE.named, this, Bool.true_and, Bool.not_true, Bool.false_and]
    · 
      refine enterA3 Tryd.func96 rfl rfl rfl ?_
      refine zS (zR (zA rfl ?_)); refine zA rfl ?_; refine zA rfl ?_
      first | (refine zG ?_; refine zA rfl ?_) | refine zH ?_
      first | (refine zG ?_; refine zO rfl (Rd.lss rfl rfl) ?_) | refine zH ?_
      first | (refine zG ?_; refine zA rfl ?_) | refine zH ?_
      first | (refine zG ?_; refine zA rfl ?_) | refine zH ?_
      first | (refine zG ?_; refine zA rfl ?_) | refine zH ?_
      first | refine XA.opn (R := Judge b (.slice p n c) e) zL (Judge.any) ?_ | refine XOA.opn (R := Judge b (.slice p n c) e) zL (Judge.any) ?_ | refine DA.opn (R := Judge b (.slice p n c) e) zL (Judge.any) ?_
      rintro ⟨l, cc⟩ hf
      first | refine XA.cl ?_ | refine XOA.cl ?_ | refine DA.cl ?_
      first | (refine zG ?_; refine zO rfl (Rd.nilCheck rfl) ?_) | refine zH ?_
      first | (refine zG ?_; refine zV rfl rfl ?_) | refine zH ?_
      first | (refine zG ?_; refine zB rfl rfl (tyrow rfl) rfl ?_) | refine zH ?_
      first | (refine zG ?_; refine zO rfl (Rd.lenSlice (tyrow rfl) rfl rfl) ?_) | refine zH ?_
      first | (refine zG ?_; refine zO rfl (Rd.geq rfl rfl) ?_) | refine zH ?_
      first | (refine zG ?_; refine zO rfl zP ?_) | refine zH ?_
      refine zO rfl zP ?_
      refine XOA.ent (Δ := [Judge b (.slice p n c) e]) (Ent.fold1 zE hf) ?_
      refine XOA.wr0 rfl (WrA.cE (fail_a σ b _ e (decide ((n : Int) ≤ v)) 1 (by decide)) rfl) ?_
      rintro _ _ _ ⟨_, ⟨rfl, rfl, rfl⟩, rfl⟩
      refine XOA.cl ?_; refine zN (zT (zR (zA rfl ?_))); refine zA rfl ?_; refine zO rfl zJ ?_; refine zA rfl ?_
      first | (refine zG ?_; refine zA rfl ?_) | refine zH ?_
      first | (refine zG ?_; refine zO rfl (Rd.neq rfl rfl) ?_) | refine zH ?_
      refine zO rfl zP ?_
      refine XOA.wr0 rfl (WrA.cE (fail_a σ b _ _ false 5 (by decide)) rfl) ?_
      rintro _ _ _ ⟨_, ⟨rfl, rfl, rfl⟩, rfl⟩
      refine XOA.cl ?_; refine zN ?_
      refine bodyA.normal (ResA.none rfl) (Ent.refl _) ⟨rfl, rfl, ?_⟩
      have : decide (v < 0 ∨ (n : Int) ≤ v) = decide ((n : Int) ≤ v) := by rw [decide_eq_decide]; omega
      simp only [JE.named, this, Bool.true_and, Bool.not_true, Bool.false_and]
theorem none_a (σ : PH) (cs : List Value) (x : Ex) (hx : ExAt σ cs x) : CallsA Tryd.prog 95 #[.agg cs.toArray] σ [] (RetA fun v σ' Γ' => v = .bool (noneX x) ∧ σ = σ' ∧ Γ' = []) := by
  obtain ⟨p, c, rfl, -, -, -, -⟩ := hx.inv
  by_cases h1 : x.op = 0
  · by_cases h2 : x.v = 0
    · by_cases h3 : x.n = 0
      · 
        refine enterA1 Tryd.func95 rfl rfl rfl ?_
        refine zS (zR ?_)
        refine XOA.wr0 rfl WrA.bx ?_
        rintro _ _ _ ⟨g1, rfl, rfl, rfl⟩
        refine zO rfl Rd.asg ?_; refine zN (zT (zS (zR (zV rfl rfl ?_)))); refine zB rfl rfl (tyrow rfl) rfl ?_; refine zO rfl (Rd.eql rfl rfl) ?_; refine zA rfl ?_
        first | (refine zG ?_; refine zV rfl rfl ?_) | refine zH ?_
        first | (refine zG ?_; refine zB rfl rfl (tyrow rfl) rfl ?_) | refine zH ?_
        first | (refine zG ?_; refine zO rfl (Rd.eql rfl rfl) ?_) | refine zH ?_
        refine zO rfl zP ?_; refine zA rfl ?_
        first | (refine zG ?_; refine zV rfl rfl ?_) | refine zH ?_
        first | (refine zG ?_; refine zB rfl rfl (tyrow rfl) rfl ?_) | refine zH ?_
        first | (refine zG ?_; refine zO rfl (Rd.eql rfl rfl) ?_) | refine zH ?_
        refine zO rfl zP ?_; refine zA rfl ?_
        first | (refine zG ?_; refine zV rfl rfl ?_) | refine zH ?_
        first | (refine zG ?_; refine zB rfl rfl (tyrow rfl) rfl ?_) | refine zH ?_
        first | (refine zG ?_; refine zO rfl (Rd.lenSlice (tyrow rfl) rfl rfl) ?_) | refine zH ?_
        first | (refine zG ?_; refine zO rfl (Rd.eql rfl rfl) ?_) | refine zH ?_
        refine zO rfl zP ?_; refine zO rfl Rd.asg ?_; refine zN (zT (XA.ret ?_))
        refine bodyA.ret (ResA.one rfl rfl) (Ent.nil _) ⟨?_, rfl, rfl⟩
        simp [noneX, h1, h2, h3]
      · 
        refine enterA1 Tryd.func95 rfl rfl rfl ?_
        refine zS (zR ?_)
        refine XOA.wr0 rfl WrA.bx ?_
        rintro _ _ _ ⟨g1, rfl, rfl, rfl⟩
        refine zO rfl Rd.asg ?_; refine zN (zT (zS (zR (zV rfl rfl ?_)))); refine zB rfl rfl (tyrow rfl) rfl ?_; refine zO rfl (Rd.eql rfl rfl) ?_; refine zA rfl ?_
        first | (refine zG ?_; refine zV rfl rfl ?_) | refine zH ?_
        first | (refine zG ?_; refine zB rfl rfl (tyrow rfl) rfl ?_) | refine zH ?_
        first | (refine zG ?_; refine zO rfl (Rd.eql rfl rfl) ?_) | refine zH ?_
        refine zO rfl zP ?_; refine zA rfl ?_
        first | (refine zG ?_; refine zV rfl rfl ?_) | refine zH ?_
        first | (refine zG ?_; refine zB rfl rfl (tyrow rfl) rfl ?_) | refine zH ?_
        first | (refine zG ?_; refine zO rfl (Rd.eql rfl rfl) ?_) | refine zH ?_
        refine zO rfl zP ?_; refine zA rfl ?_
        first | (refine zG ?_; refine zV rfl rfl ?_) | refine zH ?_
        first | (refine zG ?_; refine zB rfl rfl (tyrow rfl) rfl ?_) | refine zH ?_
        first | (refine zG ?_; refine zO rfl (Rd.lenSlice (tyrow rfl) rfl rfl) ?_) | refine zH ?_
        first | (refine zG ?_; refine zO rfl (Rd.eql rfl rfl) ?_) | refine zH ?_
        refine zO rfl zP ?_; refine zO rfl Rd.asg ?_; refine zN (zT (XA.ret ?_))
        exact bodyA.ret (ResA.one rfl rfl) (Ent.nil _) ⟨by simp [noneX, h3], rfl, rfl⟩
    · 
      refine enterA1 Tryd.func95 rfl rfl rfl ?_
      refine zS (zR ?_)
      refine XOA.wr0 rfl WrA.bx ?_
      rintro _ _ _ ⟨g1, rfl, rfl, rfl⟩
      refine zO rfl Rd.asg ?_; refine zN (zT (zS (zR (zV rfl rfl ?_)))); refine zB rfl rfl (tyrow rfl) rfl ?_; refine zO rfl (Rd.eql rfl rfl) ?_; refine zA rfl ?_
      first | (refine zG ?_; refine zV rfl rfl ?_) | refine zH ?_
      first | (refine zG ?_; refine zB rfl rfl (tyrow rfl) rfl ?_) | refine zH ?_
      first | (refine zG ?_; refine zO rfl (Rd.eql rfl rfl) ?_) | refine zH ?_
      refine zO rfl zP ?_; refine zA rfl ?_
      first | (refine zG ?_; refine zV rfl rfl ?_) | refine zH ?_
      first | (refine zG ?_; refine zB rfl rfl (tyrow rfl) rfl ?_) | refine zH ?_
      first | (refine zG ?_; refine zO rfl (Rd.eql rfl rfl) ?_) | refine zH ?_
      refine zO rfl zP ?_; refine zA rfl ?_
      first | (refine zG ?_; refine zV rfl rfl ?_) | refine zH ?_
      first | (refine zG ?_; refine zB rfl rfl (tyrow rfl) rfl ?_) | refine zH ?_
      first | (refine zG ?_; refine zO rfl (Rd.lenSlice (tyrow rfl) rfl rfl) ?_) | refine zH ?_
      first | (refine zG ?_; refine zO rfl (Rd.eql rfl rfl) ?_) | refine zH ?_
      refine zO rfl zP ?_; refine zO rfl Rd.asg ?_; refine zN (zT (XA.ret ?_))
      exact bodyA.ret (ResA.one rfl rfl) (Ent.nil _) ⟨by simp [noneX, h2], rfl, rfl⟩
  · 
    refine enterA1 Tryd.func95 rfl rfl rfl ?_
    refine zS (zR ?_)
    refine XOA.wr0 rfl WrA.bx ?_
    rintro _ _ _ ⟨g1, rfl, rfl, rfl⟩
    refine zO rfl Rd.asg ?_; refine zN (zT (zS (zR (zV rfl rfl ?_)))); refine zB rfl rfl (tyrow rfl) rfl ?_; refine zO rfl (Rd.eql rfl rfl) ?_; refine zA rfl ?_
    first | (refine zG ?_; refine zV rfl rfl ?_) | refine zH ?_
    first | (refine zG ?_; refine zB rfl rfl (tyrow rfl) rfl ?_) | refine zH ?_
    first | (refine zG ?_; refine zO rfl (Rd.eql rfl rfl) ?_) | refine zH ?_
    refine zO rfl zP ?_; refine zA rfl ?_
    first | (refine zG ?_; refine zV rfl rfl ?_) | refine zH ?_
    first | (refine zG ?_; refine zB rfl rfl (tyrow rfl) rfl ?_) | refine zH ?_
    first | (refine zG ?_; refine zO rfl (Rd.eql rfl rfl) ?_) | refine zH ?_
    refine zO rfl zP ?_; refine zA rfl ?_
    first | (refine zG ?_; refine zV rfl rfl ?_) | refine zH ?_
    first | (refine zG ?_; refine zB rfl rfl (tyrow rfl) rfl ?_) | refine zH ?_
    first | (refine zG ?_; refine zO rfl (Rd.lenSlice (tyrow rfl) rfl rfl) ?_) | refine zH ?_
    first | (refine zG ?_; refine zO rfl (Rd.eql rfl rfl) ?_) | refine zH ?_
    refine zO rfl zP ?_; refine zO rfl Rd.asg ?_; refine zN (zT (XA.ret ?_))
    exact bodyA.ret (ResA.one rfl rfl) (Ent.nil _) ⟨by simp [noneX, h1], rfl, rfl⟩
theorem chas_a (σ : PH) (op : Int) : CallsA Tryd.prog 51 #[i64 op] σ [] (RetA fun v σ' Γ' => v = .tuple #[.bool (needE op), .bool (needF op), .bool (needV op), .bool (needB op), .bool (needO op)] ∧ σ = σ' ∧ Γ' = []) := by
  refine enterA1 Tryd.func51 rfl rfl rfl ?_
  refine zS (zR (zO rfl Rd.asg ?_)); refine zO rfl Rd.asg ?_; refine zO rfl Rd.asg ?_; refine zO rfl Rd.asg ?_; refine zO rfl Rd.asg ?_; refine zN (zT (zS (zS (zR (zA rfl ?_))))); refine zN (zT (XA.block (zS (zR (zO rfl (Rd.eql rfl rfl) ?_))))); refine zO rfl Rd.asg ?_; refine zN (zT ?_)
  refine XA.condp rfl (fun h1 => ?_) (fun h1 => ?_)
  · refine zS ?_
    refine zR (zO rfl Rd.asg ?_); refine zO rfl Rd.asg ?_; refine zO rfl Rd.asg ?_; refine zO rfl Rd.asg ?_; refine zO rfl Rd.asg ?_; refine zN (zT (XA.ret (DA.inb_ret (DA.thn_ret ?_))))
    subst h1
    exact bodyA.ret (ResA.five rfl rfl rfl rfl rfl rfl) (Ent.refl _) ⟨rfl, rfl, rfl⟩
  refine zS (zR (zO rfl (Rd.eql rfl rfl) ?_)); refine zO rfl Rd.asg ?_; refine zN (zT ?_)
  refine XA.condp rfl (fun h2 => ?_) (fun h2 => ?_)
  · refine zS ?_
    refine zR (zO rfl Rd.asg ?_); refine zO rfl Rd.asg ?_; refine zO rfl Rd.asg ?_; refine zO rfl Rd.asg ?_; refine zO rfl Rd.asg ?_; refine zN (zT (XA.ret (DA.inb_ret (DA.thn_ret ?_))))
    subst h2
    exact bodyA.ret (ResA.five rfl rfl rfl rfl rfl rfl) (Ent.refl _) ⟨rfl, rfl, rfl⟩
  refine zS (zR (zO rfl (Rd.eql rfl rfl) ?_)); refine zO rfl Rd.asg ?_; refine zN (zT ?_)
  refine XA.condp rfl (fun h3 => ?_) (fun h3 => ?_)
  · refine zS ?_
    refine zR (zO rfl Rd.asg ?_); refine zO rfl Rd.asg ?_; refine zO rfl Rd.asg ?_; refine zO rfl Rd.asg ?_; refine zO rfl Rd.asg ?_; refine zN (zT (XA.ret (DA.inb_ret (DA.thn_ret ?_))))
    subst h3
    exact bodyA.ret (ResA.five rfl rfl rfl rfl rfl rfl) (Ent.refl _) ⟨rfl, rfl, rfl⟩
  refine zS (zR (zO rfl (Rd.eql rfl rfl) ?_)); refine zO rfl Rd.asg ?_; refine zN (zT ?_)
  refine XA.condp rfl (fun h4 => ?_) (fun h4 => ?_)
  · refine zS ?_
    refine zR (zO rfl Rd.asg ?_); refine zO rfl Rd.asg ?_; refine zO rfl Rd.asg ?_; refine zO rfl Rd.asg ?_; refine zO rfl Rd.asg ?_; refine zN (zT (XA.ret (DA.inb_ret (DA.thn_ret ?_))))
    subst h4
    exact bodyA.ret (ResA.five rfl rfl rfl rfl rfl rfl) (Ent.refl _) ⟨rfl, rfl, rfl⟩
  refine zS (zR (zO rfl (Rd.eql rfl rfl) ?_)); refine zO rfl Rd.asg ?_; refine zN (zT ?_)
  refine XA.condp rfl (fun h5 => ?_) (fun h5 => ?_)
  · refine zS ?_
    refine zR (zO rfl Rd.asg ?_); refine zO rfl Rd.asg ?_; refine zO rfl Rd.asg ?_; refine zO rfl Rd.asg ?_; refine zO rfl Rd.asg ?_; refine zN (zT (XA.ret (DA.inb_ret (DA.thn_ret ?_))))
    subst h5
    exact bodyA.ret (ResA.five rfl rfl rfl rfl rfl rfl) (Ent.refl _) ⟨rfl, rfl, rfl⟩
  refine zS (zR (zO rfl (Rd.eql rfl rfl) ?_)); refine zO rfl Rd.asg ?_; refine zN (zT ?_)
  refine XA.condp rfl (fun h6 => ?_) (fun h6 => ?_)
  · refine zS ?_
    refine zR (zO rfl Rd.asg ?_); refine zO rfl Rd.asg ?_; refine zO rfl Rd.asg ?_; refine zO rfl Rd.asg ?_; refine zO rfl Rd.asg ?_; refine zN (zT (XA.ret (DA.inb_ret (DA.thn_ret ?_))))
    subst h6
    exact bodyA.ret (ResA.five rfl rfl rfl rfl rfl rfl) (Ent.refl _) ⟨rfl, rfl, rfl⟩
  refine XA.skip (DA.inb_normal (zT (XA.ret ?_)))
  refine bodyA.ret (ResA.five rfl rfl rfl rfl rfl rfl) (Ent.refl _) ⟨?_, rfl, rfl⟩
  simp [needE, needF, needV, needB, needO, h1, h2, h3, h4, h5, h6]
theorem in_of {F : Int → JE → JE} (hF : Down F) {e : JE} (h : e.in_) (d : Int) : (F d e).in_ := by
  cases e with
  | error c => rw [hF.err]; intro l hl; cases hl
  | ok a =>
    intro l hl
    obtain ⟨h1, h2⟩ := h a rfl
    obtain ⟨h3, h4, -⟩ := hF.ok _ _ _ h1 hl
    omega
/-- What is to be shown of an expression. -/
def ExprOK (σ : PH) (x : Ex) : Prop := ∀ (cs : List Value) (b : Nat) (p : Option Addr) (n c : Nat) (e : JE) (deep : Int), ExAt σ cs x → e.in_ → 0 ≤ deep → deep ≤ 1000 →
  CallsA Tryd.prog 97 #[ptr b, .agg cs.toArray, i64 deep] σ [Judge b (.slice p n c) e] (RetA fun r σ' Γ' => r = .tuple #[] ∧ σ = σ' ∧ Γ' = [Judge b (.slice p n c) (exE n deep x e)])
theorem isOk_false {e : JE} (h : e.isOk = false) : ∃ c, e = .error c := by
  cases e with
  | ok l => cases h
  | error c => exact ⟨c, rfl⟩
theorem one_ok {e : JE} {d : Int} (h : (e.one d).isOk = true) : d ≤ 12 := by
  cases e with
  | error c => cases h
  | ok l =>
    simp only [JE.one] at h
    split at h
    · cases h
    · omega
theorem expr_a (σ : PH) (x : Ex) : ExprOK σ x := by
  refine Ex.ind (P := ExprOK σ) ?_ x
  intro op v k l ih cs b p n c e deep hx hin hd0 hd1
  obtain ⟨pl, cl, rfl, -, -, -, hl⟩ := hx.inv
  simp only [Ex.op, Ex.v, Ex.n, Ex.l] at hl ⊢
  obtain ⟨-, -, -, hle, hmx⟩ := hl.shape
  have hlen : l.length ≤ maxLen := by
    obtain ⟨q, d, e1, h1, h2⟩ := hl.shape
    omega
  simp only [maxLen] at hlen
  refine enterA3 Tryd.func97 rfl rfl rfl ?_
  refine zS (zR ?_)
  refine XOA.wr0 rfl WrA.bx ?_
  rintro _ _ _ ⟨g4, rfl, rfl, rfl⟩
  refine zN (zT (zS (zS (zR (zA rfl ?_))))); refine zA rfl ?_
  refine XOA.wr0 rfl (WrA.cE (one_a σ b (.slice p n c) e deep hin) rfl) ?_
  rintro _ _ _ ⟨_, ⟨rfl, rfl, rfl⟩, rfl⟩
  refine XOA.cl ?_
  cases hok : (e.one deep).isOk with
  | false =>
    obtain ⟨c', hc'⟩ := isOk_false hok
    have hp : exE n deep (.mk op v k l) e = .error c' := by rw [exE, exHead, hc', fail_err, fail_err, named_err, exsE_err]
    rw [hc', hp]
    refine zO rfl zJ ?_; refine zN (zT (XA.condT rfl rfl (XA.ret (DA.thn_ret ?_))))
    exact bodyA.ret (ResA.none rfl) zE ⟨rfl, rfl, rfl⟩
  | true =>
    have hd := one_ok hok
    refine zO rfl zJ ?_; refine zN (zT (XA.condF rfl rfl (XA.skip (zT (zS (zR (zV rfl rfl ?_))))))); refine zB rfl rfl (tyrow rfl) rfl ?_
    refine XOA.wr0 rfl (WrA.cE (parts_a σ op) rfl) ?_
    rintro _ _ _ ⟨_, ⟨rfl, rfl, rfl⟩, rfl⟩
    refine XOA.cl ?_; refine zO rfl Rd.asg ?_; refine zN (zT (zS (zR (zA rfl ?_)))); refine zA rfl ?_; refine zO rfl (Rd.lss rfl rfl) ?_
    refine XOA.wr0 rfl (WrA.cE (fail_a σ b _ _ (decide (partsOf op < 0)) 2 (by decide)) rfl) ?_
    rintro _ _ _ ⟨_, ⟨rfl, rfl, rfl⟩, rfl⟩
    refine XOA.cl ?_; refine zN (zT (zS (zR (zA rfl ?_)))); refine zV rfl rfl ?_; refine zB rfl rfl (tyrow rfl) rfl ?_; refine zO rfl (Rd.lenSlice (tyrow rfl) rfl rfl) ?_; refine zA rfl ?_
    refine XOA.join (List.take_append_drop 11 _).symm [(20, 20), (25, 35)] (fun _ : Unit => [(20, ptr b), (35, .bool (decide ((l.length : Int) ≠ partsOf op ∨ (k ≠ 0 ∧ op ≠ 1))))]) (fun _ σ' Γ' => σ = σ' ∧ Γ' = [Judge b (.slice p n c) ((e.one deep).fail (decide (partsOf op < 0)) 2), blk g4 [i64 op, i64 v, i64 k, .slice pl l.length cl] 54]) ?_ ?_
    · 
      by_cases h1 : (l.length : Int) = partsOf op
      · by_cases h2 : k = 0
        · have hb : decide ((l.length : Int) ≠ partsOf op ∨ (k ≠ 0 ∧ op ≠ 1)) = false := decide_eq_false (by omega)
          rw [hb]
          refine zO rfl (Rd.neq rfl rfl) ?_; refine zA rfl ?_
          first | (refine zG ?_; refine zV rfl rfl ?_) | refine zH ?_
          first | (refine zG ?_; refine zB rfl rfl (tyrow rfl) rfl ?_) | refine zH ?_
          first | (refine zG ?_; refine zO rfl (Rd.neq rfl rfl) ?_) | refine zH ?_
          first | (refine zG ?_; refine zA rfl ?_) | refine zH ?_
          first | (refine zG ?_; refine zV rfl rfl ?_) | refine zH ?_
          first | (refine zG ?_; refine zB rfl rfl (tyrow rfl) rfl ?_) | refine zH ?_
          first | (refine zG ?_; refine zO rfl (Rd.neq rfl rfl) ?_) | refine zH ?_
          first | (refine zG ?_; refine zO rfl zP ?_) | refine zH ?_
          refine zO rfl zP ?_; refine zN (zT ?_)
          refine ⟨(Keep.upd (Keep.upd (Keep.upd (Keep.upd (Keep.upd (Keep.upd (Keep.upd (Keep.upd (Keep.upd (Keep.upd (Keep.upd (Keep.refl _ _) rfl) rfl) rfl) rfl) rfl) rfl) rfl) rfl) rfl) rfl) rfl), (), _, zM, ?_, ⟨rfl, rfl⟩⟩
          · exact zE
        · have hb : decide ((l.length : Int) ≠ partsOf op ∨ (k ≠ 0 ∧ op ≠ 1)) = decide (op ≠ 1) := by rw [decide_eq_decide]; omega
          rw [hb]
          refine zO rfl (Rd.neq rfl rfl) ?_; refine zA rfl ?_
          first | (refine zG ?_; refine zV rfl rfl ?_) | refine zH ?_
          first | (refine zG ?_; refine zB rfl rfl (tyrow rfl) rfl ?_) | refine zH ?_
          first | (refine zG ?_; refine zO rfl (Rd.neq rfl rfl) ?_) | refine zH ?_
          first | (refine zG ?_; refine zA rfl ?_) | refine zH ?_
          first | (refine zG ?_; refine zV rfl rfl ?_) | refine zH ?_
          first | (refine zG ?_; refine zB rfl rfl (tyrow rfl) rfl ?_) | refine zH ?_
          first | (refine zG ?_; refine zO rfl (Rd.neq rfl rfl) ?_) | refine zH ?_
          first | (refine zG ?_; refine zO rfl zP ?_) | refine zH ?_
          refine zO rfl zP ?_; refine zN (zT ?_)
          refine ⟨(Keep.upd (Keep.upd (Keep.upd (Keep.upd (Keep.upd (Keep.upd (Keep.upd (Keep.upd (Keep.upd (Keep.upd (Keep.upd (Keep.refl _ _) rfl) rfl) rfl) rfl) rfl) rfl) rfl) rfl) rfl) rfl) rfl), (), _, zM, ?_, ⟨rfl, rfl⟩⟩
          · exact zE
      · have hb : decide ((l.length : Int) ≠ partsOf op ∨ (k ≠ 0 ∧ op ≠ 1)) = true := decide_eq_true (by omega)
        rw [hb]
        refine zO rfl (Rd.neq rfl rfl) ?_; refine zA rfl ?_
        first | (refine zG ?_; refine zV rfl rfl ?_) | refine zH ?_
        first | (refine zG ?_; refine zB rfl rfl (tyrow rfl) rfl ?_) | refine zH ?_
        first | (refine zG ?_; refine zO rfl (Rd.neq rfl rfl) ?_) | refine zH ?_
        first | (refine zG ?_; refine zA rfl ?_) | refine zH ?_
        first | (refine zG ?_; refine zV rfl rfl ?_) | refine zH ?_
        first | (refine zG ?_; refine zB rfl rfl (tyrow rfl) rfl ?_) | refine zH ?_
        first | (refine zG ?_; refine zO rfl (Rd.neq rfl rfl) ?_) | refine zH ?_
        first | (refine zG ?_; refine zO rfl zP ?_) | refine zH ?_
        refine zO rfl zP ?_; refine zN (zT ?_)
        refine ⟨(Keep.upd (Keep.upd (Keep.upd (Keep.upd (Keep.upd (Keep.upd (Keep.upd (Keep.upd (Keep.upd (Keep.upd (Keep.upd (Keep.refl _ _) rfl) rfl) rfl) rfl) rfl) rfl) rfl) rfl) rfl) rfl) rfl), (), _, zM, ?_, ⟨rfl, rfl⟩⟩
        · exact zE
    rintro - δ1 _ _ ⟨rfl, rfl⟩
    dsimp only [ovr, List.foldl]
    refine XOA.wr0 rfl (WrA.cE (fail_a σ b _ _ (decide ((l.length : Int) ≠ partsOf op ∨ (k ≠ 0 ∧ op ≠ 1))) 5 (by decide)) rfl) ?_
    rintro _ _ _ ⟨_, ⟨rfl, rfl, rfl⟩, rfl⟩
    refine XOA.cl ?_; refine zN (zT (zS (zR (zA rfl ?_)))); refine zV rfl rfl ?_; refine zB rfl rfl (tyrow rfl) rfl ?_; refine zV rfl rfl ?_; refine zB rfl rfl (tyrow rfl) rfl ?_; refine zO rfl (Rd.eql rfl rfl) ?_
    refine XOA.join (List.take_append_drop 5 _).symm [(37, 37), (39, 39), (43, 47)] (fun _ : Unit => [(37, ptr b), (39, i64 v), (47, .bool (decide (op = 2 ∨ op = 3)))]) (fun _ σ' Γ' => σ = σ' ∧ Γ' = [Judge b (.slice p n c) (((e.one deep).fail (decide (partsOf op < 0)) 2).fail (decide ((l.length : Int) ≠ partsOf op ∨ (k ≠ 0 ∧ op ≠ 1))) 5), blk g4 [i64 op, i64 v, i64 k, .slice pl l.length cl] 54]) ?_ ?_
    · 
      by_cases h1 : op = 2
      · have hb : decide (op = 2 ∨ op = 3) = true := decide_eq_true (by omega)
        rw [hb]
        refine zA rfl ?_
        first | (refine zG ?_; refine zV rfl rfl ?_) | refine zH ?_
        first | (refine zG ?_; refine zB rfl rfl (tyrow rfl) rfl ?_) | refine zH ?_
        first | (refine zG ?_; refine zO rfl (Rd.eql rfl rfl) ?_) | refine zH ?_
        refine zO rfl zP ?_; refine zN (zT ?_)
        refine ⟨(Keep.upd (Keep.upd (Keep.upd (Keep.upd (Keep.upd (Keep.refl _ _) rfl) rfl) rfl) rfl) rfl), (), _, zM, ?_, ⟨rfl, rfl⟩⟩
        · exact zE
      · have hb : decide (op = 2 ∨ op = 3) = decide (op = 3) := by rw [decide_eq_decide]; omega
        rw [hb]
        refine zA rfl ?_
        first | (refine zG ?_; refine zV rfl rfl ?_) | refine zH ?_
        first | (refine zG ?_; refine zB rfl rfl (tyrow rfl) rfl ?_) | refine zH ?_
        first | (refine zG ?_; refine zO rfl (Rd.eql rfl rfl) ?_) | refine zH ?_
        refine zO rfl zP ?_; refine zN (zT ?_)
        refine ⟨(Keep.upd (Keep.upd (Keep.upd (Keep.upd (Keep.upd (Keep.refl _ _) rfl) rfl) rfl) rfl) rfl), (), _, zM, ?_, ⟨rfl, rfl⟩⟩
        · exact zE
    rintro - δ2 _ _ ⟨rfl, rfl⟩
    dsimp only [ovr, List.foldl]
    refine XOA.wr0 rfl (WrA.cE (named_a σ b p n c _ v (decide (op = 2 ∨ op = 3))) rfl) ?_
    rintro _ _ _ ⟨_, ⟨rfl, rfl, rfl⟩, rfl⟩
    refine XOA.cl ?_; refine zN (zT (zS (zR (zV rfl rfl ?_)))); refine zB rfl rfl (tyrow rfl) rfl ?_; refine zO rfl (Rd.lenSlice (tyrow rfl) rfl rfl) ?_; refine zA rfl ?_; refine zN (zT (XA.block ?_))
    refine XA.gen [(0, _), (2, _), (50, _), (51, _), (52, _)] ⟨(by with_reducible (conv => lhs; whnf)), (by with_reducible (conv => lhs; whnf)), (by with_reducible (conv => lhs; whnf)), (by with_reducible (conv => lhs; whnf)), (by with_reducible (conv => lhs; whnf)), trivial⟩ (fun δ => ?_)
    dsimp only [List.foldl]
    refine XA.loop [(8, 8), (52, 66)] (fun q : Nat => [(52, i64 q)]) (fun q σ' Γ' => σ = σ' ∧ q ≤ l.length ∧ Γ' = [Judge b (.slice p n c) (exsE n (deep + 1) (l.take q) (exHead n deep op v k l.length e)), blk g4 [i64 op, i64 v, i64 k, .slice pl l.length cl] 54]) (fun q => l.length - q) 0 (by exact ⟨rfl, trivial⟩) (Δ0 := _) ?_ (⟨rfl, Nat.zero_le _, rfl⟩) ?_
    · rw [List.take_zero, exsE]; exact zE
    rintro q δ _ _ ⟨rfl, hq, rfl⟩
    dsimp only [ovr, List.foldl]
    refine zS (zR (zO rfl (Rd.lss rfl rfl) ?_)); refine zN (zT (zS ?_))
    refine XA.condp rfl (fun hlt => ?_) (fun hlt => ?_)
    · have hlt : q < l.length := by omega
      obtain ⟨x', hx'⟩ : ∃ x', l[q]? = some x' := ⟨_, List.getElem?_eq_getElem hlt⟩
      obtain ⟨g, o, row, rfl, hrx, hrl, hrow⟩ := hl.at hx'
      have hone := hrx.ones
      have e1 := exsE_snoc n (deep + 1) l q x' (exHead n deep op v k l.length e) hx'
      have hin2 : (exsE n (deep + 1) (l.take q) (exHead n deep op v k l.length e)).in_ := in_of (Down.exsE n (l.take q)) (in_of (Down.exHead n op v k l.length) hin deep) (deep + 1)
      refine XA.skip (zT (zS (XA.block (zS (zR (zO rfl (Rd.ixS rfl rfl) ?_)))))); refine zO rfl (Rd.ldA rfl) ?_
      refine XOA.wr0 rfl (WrA.alloc (tyrow rfl)) ?_
      rintro _ _ _ ⟨g8, rfl, rfl, rfl⟩
      refine XOA.wr0 rfl (WrA.st (tyrow rfl) rfl) ?_
      rintro _ _ _ ⟨rfl, rfl, rfl⟩
      refine zN (zT (zS (zR (zA rfl ?_))))
      cases hst : exsE n (deep + 1) (l.take q) (exHead n deep op v k l.length e) with
      | error c' =>
        rw [hst, exE_err] at e1
        first | refine XA.opn (R := Judge b (.slice p n c) (.error c')) zL (Judge.errO) ?_ | refine XOA.opn (R := Judge b (.slice p n c) (.error c')) zL (Judge.errO) ?_ | refine DA.opn (R := Judge b (.slice p n c) (.error c')) zL (Judge.errO) ?_
        rintro lf h0
        first | refine XA.cl ?_ | refine XOA.cl ?_ | refine DA.cl ?_
        refine zO rfl (Rd.nilCheck rfl) ?_; refine zV rfl rfl ?_; refine zB rfl rfl (tyrow rfl) rfl ?_; refine zO rfl (Rd.eql rfl rfl) ?_; refine zN (zT (XA.condF rfl (decide_eq_false h0) (XA.skip (DA.inb_normal (zT (zR (zO rfl zI ?_))))))); refine zA rfl ?_; refine zN (zT ?_)
        refine ⟨(Keep.upd (Keep.upd (Keep.upd (Keep.upd (Keep.upd (Keep.upd (Keep.upd (Keep.updN (Keep.updO (Keep.upd (Keep.upd (Keep.upd (Keep.upd (Keep.hav (Keep.hav (Keep.refl _ _) rfl) rfl) rfl) rfl) rfl) rfl) rfl)) rfl) rfl) rfl) rfl) rfl) rfl) rfl), q + 1, [Judge b (.slice p n c) (.error c'), _], zM, ?_, ⟨rfl, hlt, by rw [e1]⟩, (by omega)⟩
        · exact Ent.foldC (Θ := [_]) zD (Judge.mkE h0) zE
      | ok a =>
        rw [hst] at e1 hin2
        first | refine XA.opn (R := Judge b (.slice p n c) (.ok a)) zL (Judge.okO) ?_ | refine XOA.opn (R := Judge b (.slice p n c) (.ok a)) zL (Judge.okO) ?_ | refine DA.opn (R := Judge b (.slice p n c) (.ok a)) zL (Judge.okO) ?_
        rintro ⟨⟩ -
        first | refine XA.cl ?_ | refine XOA.cl ?_ | refine DA.cl ?_
        refine zO rfl (Rd.nilCheck rfl) ?_; refine zV rfl rfl ?_; refine zB rfl rfl (tyrow rfl) rfl ?_; refine zO rfl (Rd.eql rfl rfl) ?_; refine zN (zT (XA.condT rfl rfl (zR (zA rfl ?_)))); refine zO rfl (Rd.ldA rfl) ?_; refine zA rfl ?_; refine zO rfl zI ?_
        refine XOA.ent (Ent.foldC (Θ := [_]) zD (Judge.mkO (l := a)) (Ent.refl _)) ?_
        refine XOA.wr0 rfl (WrA.cE (ih x' (List.mem_of_getElem? hx') row b p n c (.ok a) (deep + 1) hrx hin2 (by omega) (by omega)) rfl) ?_
        rintro _ _ _ ⟨_, ⟨rfl, rfl, rfl⟩, rfl⟩
        refine XOA.cl ?_; refine zN (DA.inb_normal (zT (zR (zO rfl zI ?_)))); refine zA rfl ?_; refine zN (zT ?_)
        refine ⟨(Keep.upd (Keep.upd (Keep.updO (Keep.upd (Keep.upd (Keep.upd (Keep.upd (Keep.upd (Keep.upd (Keep.upd (Keep.upd (Keep.upd (Keep.updN (Keep.updO (Keep.upd (Keep.upd (Keep.upd (Keep.upd (Keep.hav (Keep.hav (Keep.refl _ _) rfl) rfl) rfl) rfl) rfl) rfl) rfl)) rfl) rfl) rfl) rfl) rfl) rfl) rfl) rfl) rfl) rfl) rfl) rfl), q + 1, _, zM, ?_, ⟨rfl, hlt, by rw [e1]⟩, (by omega)⟩
        · exact zE
    have hqn : q = l.length := by omega
    subst hqn
    rw [List.take_length]
    refine XA.exit (DA.thn_exit (DA.thn_exit (DA.inb_same ?_)))
    exact bodyA.normal (ResA.none rfl) zE ⟨rfl, rfl, rfl⟩
end Go.Proofs.YthefnnkmpcgcmaaDoor

namespace Go.Proofs.YthefnnkmpcgcmaaDoor
open Go X
set_option maxHeartbeats 1000000
def StmtOK (σ : PH) (x : St) : Prop := ∀ (cs : List Value) (b : Nat) (p : Option Addr) (n c : Nat) (e : JE) (deep : Int), StAt σ cs x → e.in_ → 0 ≤ deep → deep ≤ 900 →
  CallsA Tryd.prog 76 #[ptr b, .agg cs.toArray, i64 deep] σ [Judge b (.slice p n c) e] (RetA fun r σ' Γ' => r = .tuple #[] ∧ σ = σ' ∧ Γ' = [Judge b (.slice p n c) (stE n deep x e)])
theorem list_a (σ : PH) (l : List St) (ih : ∀ x ∈ l, StmtOK σ x) (sl : Value) (b : Nat) (p : Option Addr) (n c : Nat) (e : JE) (deep : Int) (hl : PSl 12 StAt σ sl l) (hin : e.in_) (hd0 : 0 ≤ deep) (hd1 : deep ≤ 900) :
    CallsA Tryd.prog 48 #[ptr b, sl, i64 deep] σ [Judge b (.slice p n c) e] (RetA fun r σ' Γ' => r = .tuple #[] ∧ σ = σ' ∧ Γ' = [Judge b (.slice p n c) (stsE n deep l e)]) := by
  obtain ⟨pl, cl, rfl, hle, hmx⟩ := hl.shape
  have hlen : l.length ≤ maxLen := by omega
  simp only [maxLen] at hlen
  refine enterA3 Tryd.func48 rfl rfl rfl ?_
  refine zS (zR (zA rfl ?_)); refine zO rfl (Rd.lenSlice (tyrow rfl) rfl rfl) ?_; refine zA rfl ?_; refine zN (zT (XA.block ?_))
  refine XA.gen [(0, _), (2, _), (8, _), (9, _), (10, _)] ⟨(by with_reducible (conv => lhs; whnf)), (by with_reducible (conv => lhs; whnf)), (by with_reducible (conv => lhs; whnf)), (by with_reducible (conv => lhs; whnf)), (by with_reducible (conv => lhs; whnf)), trivial⟩ (fun δ => ?_)
  dsimp only [List.foldl]
  refine XA.loop [(7, 7), (10, 23)] (fun q : Nat => [(10, i64 q)]) (fun q σ' Γ' => σ = σ' ∧ q ≤ l.length ∧ Γ' = [Judge b (.slice p n c) (stsE n deep (l.take q) e)]) (fun q => l.length - q) 0 (by exact ⟨rfl, trivial⟩) (Δ0 := _) ?_ (⟨rfl, Nat.zero_le _, rfl⟩) ?_
  · rw [List.take_zero, stsE]; exact zE
  rintro q δ _ _ ⟨rfl, hq, rfl⟩
  dsimp only [ovr, List.foldl]
  refine zS (zR (zO rfl (Rd.lss rfl rfl) ?_)); refine zN (zT (zS ?_))
  refine XA.condp rfl (fun hlt => ?_) (fun hlt => ?_)
  · have hlt : q < l.length := by omega
    obtain ⟨x', hx'⟩ : ∃ x', l[q]? = some x' := ⟨_, List.getElem?_eq_getElem hlt⟩
    obtain ⟨g, o, row, rfl, hrx, hrl, hrow⟩ := hl.at hx'
    have hone := hrx.ones
    have e1 := stsE_snoc n deep l q x' e hx'
    have hin2 : (stsE n deep (l.take q) e).in_ := in_of (Down.stsE n (l.take q)) hin deep
    refine XA.skip (zT (zS (XA.block (zS (zR (zO rfl (Rd.ixS rfl rfl) ?_)))))); refine zO rfl (Rd.ldA rfl) ?_
    refine XOA.wr0 rfl (WrA.alloc (tyrow rfl)) ?_
    rintro _ _ _ ⟨g7, rfl, rfl, rfl⟩
    refine XOA.wr0 rfl (WrA.st (tyrow rfl) rfl) ?_
    rintro _ _ _ ⟨rfl, rfl, rfl⟩
    refine zN (zT (zS (zR (zA rfl ?_))))
    cases hst : stsE n deep (l.take q) e with
    | error c' =>
      rw [hst, stE_err] at e1
      first | refine XA.opn (R := Judge b (.slice p n c) (.error c')) zL (Judge.errO) ?_ | refine XOA.opn (R := Judge b (.slice p n c) (.error c')) zL (Judge.errO) ?_ | refine DA.opn (R := Judge b (.slice p n c) (.error c')) zL (Judge.errO) ?_
      rintro lf h0
      first | refine XA.cl ?_ | refine XOA.cl ?_ | refine DA.cl ?_
      refine zO rfl (Rd.nilCheck rfl) ?_; refine zV rfl rfl ?_; refine zB rfl rfl (tyrow rfl) rfl ?_; refine zO rfl (Rd.eql rfl rfl) ?_; refine zN (zT (XA.condF rfl (decide_eq_false h0) (XA.skip (DA.inb_normal (zT (zR (zO rfl zI ?_))))))); refine zA rfl ?_; refine zN (zT ?_)
      refine ⟨(Keep.upd (Keep.upd (Keep.upd (Keep.upd (Keep.upd (Keep.upd (Keep.upd (Keep.updN (Keep.updO (Keep.upd (Keep.upd (Keep.upd (Keep.upd (Keep.hav (Keep.hav (Keep.refl _ _) rfl) rfl) rfl) rfl) rfl) rfl) rfl)) rfl) rfl) rfl) rfl) rfl) rfl) rfl), q + 1, [Judge b (.slice p n c) (.error c')], zM, ?_, ⟨rfl, hlt, by rw [e1]⟩, (by omega)⟩
      · exact Ent.foldC (Θ := [_]) zD (Judge.mkE h0) zE
    | ok a =>
      rw [hst] at e1 hin2
      first | refine XA.opn (R := Judge b (.slice p n c) (.ok a)) zL (Judge.okO) ?_ | refine XOA.opn (R := Judge b (.slice p n c) (.ok a)) zL (Judge.okO) ?_ | refine DA.opn (R := Judge b (.slice p n c) (.ok a)) zL (Judge.okO) ?_
      rintro ⟨⟩ -
      first | refine XA.cl ?_ | refine XOA.cl ?_ | refine DA.cl ?_
      refine zO rfl (Rd.nilCheck rfl) ?_; refine zV rfl rfl ?_; refine zB rfl rfl (tyrow rfl) rfl ?_; refine zO rfl (Rd.eql rfl rfl) ?_; refine zN (zT (XA.condT rfl rfl (zR (zA rfl ?_)))); refine zO rfl (Rd.ldA rfl) ?_; refine zA rfl ?_
      refine XOA.ent (Ent.foldC (Θ := [_]) zD (Judge.mkO (l := a)) (Ent.refl _)) ?_
      refine XOA.wr0 rfl (WrA.cE (ih x' (List.mem_of_getElem? hx') row b p n c (.ok a) deep hrx hin2 (by omega) (by omega)) rfl) ?_
      rintro _ _ _ ⟨_, ⟨rfl, rfl, rfl⟩, rfl⟩
      refine XOA.cl ?_; refine zN (DA.inb_normal (zT (zR (zO rfl zI ?_)))); refine zA rfl ?_; refine zN (zT ?_)
      refine ⟨(Keep.upd (Keep.upd (Keep.updO (Keep.upd (Keep.upd (Keep.upd (Keep.upd (Keep.upd (Keep.upd (Keep.upd (Keep.upd (Keep.updN (Keep.updO (Keep.upd (Keep.upd (Keep.upd (Keep.upd (Keep.hav (Keep.hav (Keep.refl _ _) rfl) rfl) rfl) rfl) rfl) rfl) rfl)) rfl) rfl) rfl) rfl) rfl) rfl) rfl) rfl) rfl) rfl) rfl), q + 1, _, zM, ?_, ⟨rfl, hlt, by rw [e1]⟩, (by omega)⟩
      · exact zE
  have hqn : q = l.length := by omega
  subst hqn
  rw [List.take_length]
  refine XA.exit (DA.thn_exit (DA.thn_exit (DA.inb_same ?_)))
  exact bodyA.normal (ResA.none rfl) zE ⟨rfl, rfl, rfl⟩
theorem stmt_a (σ : PH) (x : St) : StmtOK σ x := by
  refine St.ind (P := StmtOK σ) ?_ x
  intro op v ex fx body els ih jh cs b p n c e deep hx hin hd0 hd1
  obtain ⟨pe, de, pf, df, pb, cb, pl, cl, rfl, -, -, hxe, hxf, hxb, hxl⟩ := hx.inv12
  simp only [St.op, St.v, St.e, St.f, St.body, St.els] at hxe hxf hxb hxl ⊢
  clear hx
  obtain ⟨cells, hcells⟩ : ∃ l, l = [i64 op, i64 v, i64 ex.op, i64 ex.v, i64 ex.n, .slice pe ex.l.length de, i64 fx.op, i64 fx.v, i64 fx.n, .slice pf fx.l.length df, .slice pb body.length cb, .slice pl els.length cl] := ⟨_, rfl⟩
  obtain ⟨ne, hne⟩ : ∃ q, q = noneX ex := ⟨_, rfl⟩
  obtain ⟨nf, hnf⟩ : ∃ q, q = noneX fx := ⟨_, rfl⟩
  obtain ⟨A1, hA1⟩ : ∃ A, A = (!needE op && !ne) := ⟨_, rfl⟩
  obtain ⟨A2, hA2⟩ : ∃ A, A = (!needF op && !nf) := ⟨_, rfl⟩
  obtain ⟨A3, hA3⟩ : ∃ A, A = (!needB op && decide ((0 : Int) < (body.length : Int))) := ⟨_, rfl⟩
  obtain ⟨A4, hA4⟩ : ∃ A, A = (!needO op && decide ((0 : Int) < (els.length : Int))) := ⟨_, rfl⟩
  have hform : stForm op ex fx body.length els.length = (((A1 || A2) || A3) || A4) := by rw [hA1, hA2, hA3, hA4, hne, hnf]; rfl
  refine enterA3 Tryd.func76 rfl rfl rfl ?_
  refine zS (zR ?_)
  refine XOA.wr0 rfl WrA.bx ?_
  rintro _ _ _ ⟨g4, rfl, rfl, rfl⟩
  refine zN (zT (zS (zS (zR (zA rfl ?_))))); refine zA rfl ?_
  refine XOA.wr0 rfl (WrA.cE (one_a σ b (.slice p n c) e deep hin) rfl) ?_
  rintro _ _ _ ⟨_, ⟨rfl, rfl, rfl⟩, rfl⟩
  refine XOA.cl ?_
  cases hok : (e.one deep).isOk with
  | false =>
    obtain ⟨c', hc'⟩ := isOk_false hok
    have hp : stE n deep (.mk op v ex fx body els) e = .error c' := by rw [stE, stHead, hc', fail_err, fail_err, named_err, stEF_err, stsE_err, stsE_err]
    rw [hc', hp]
    refine zO rfl zJ ?_; refine zN (zT (XA.condT rfl rfl (XA.ret (DA.thn_ret ?_))))
    exact bodyA.ret (ResA.none rfl) zE ⟨rfl, rfl, rfl⟩
  | true =>
    have hd := one_ok hok
    refine zO rfl zJ ?_; refine zN (zT (XA.condF rfl rfl (XA.skip (zT (zS (zR (zA rfl ?_))))))); refine zV rfl rfl ?_; refine zB rfl rfl (tyrow rfl) rfl ?_
    refine XOA.join (List.take_append_drop 6 _).symm [(15, 15), (18, 23)] (fun _ : Unit => [(15, ptr b), (23, .bool (decide (op < 1 ∨ 7 < op)))]) (fun _ σ' Γ' => σ = σ' ∧ Γ' = [Judge b (.slice p n c) (e.one deep), blk g4 cells 56]) ?_ ?_
    · 
      by_cases h1 : op < 1
      · have hb : decide (op < 1 ∨ 7 < op) = true := decide_eq_true (by omega)
        rw [hb]
        refine zO rfl (Rd.lss rfl rfl) ?_; refine zA rfl ?_
        first | (refine zG ?_; refine zV rfl rfl ?_) | refine zH ?_
        first | (refine zG ?_; refine zB rfl rfl (tyrow rfl) rfl ?_) | refine zH ?_
        first | (refine zG ?_; refine zO rfl (Rd.gtr rfl rfl) ?_) | refine zH ?_
        refine zO rfl zP ?_; refine zN (zT ?_)
        refine ⟨(Keep.upd (Keep.upd (Keep.upd (Keep.upd (Keep.upd (Keep.upd (Keep.refl _ _) rfl) rfl) rfl) rfl) rfl) rfl), (), _, zM, ?_, ⟨rfl, rfl⟩⟩
        · rw [hcells]; exact zE
      · have hb : decide (op < 1 ∨ 7 < op) = decide (7 < op) := by rw [decide_eq_decide]; omega
        rw [hb]
        refine zO rfl (Rd.lss rfl rfl) ?_; refine zA rfl ?_
        first | (refine zG ?_; refine zV rfl rfl ?_) | refine zH ?_
        first | (refine zG ?_; refine zB rfl rfl (tyrow rfl) rfl ?_) | refine zH ?_
        first | (refine zG ?_; refine zO rfl (Rd.gtr rfl rfl) ?_) | refine zH ?_
        refine zO rfl zP ?_; refine zN (zT ?_)
        refine ⟨(Keep.upd (Keep.upd (Keep.upd (Keep.upd (Keep.upd (Keep.upd (Keep.refl _ _) rfl) rfl) rfl) rfl) rfl) rfl), (), _, zM, ?_, ⟨rfl, rfl⟩⟩
        · rw [hcells]; exact zE
    rintro - δ1 _ _ ⟨rfl, rfl⟩
    dsimp only [ovr, List.foldl]
    rw [hcells]
    refine XOA.wr0 rfl (WrA.cE (fail_a σ b _ _ (decide (op < 1 ∨ 7 < op)) 2 (by decide)) rfl) ?_
    rintro _ _ _ ⟨_, ⟨rfl, rfl, rfl⟩, rfl⟩
    refine XOA.cl ?_; refine zN (zT (zS (zR (zV rfl rfl ?_)))); refine zB rfl rfl (tyrow rfl) rfl ?_
    refine XOA.wr0 rfl (WrA.cE (chas_a σ op) rfl) ?_
    rintro _ _ _ ⟨_, ⟨rfl, rfl, rfl⟩, rfl⟩
    refine XOA.cl ?_; refine zA rfl ?_; refine zO rfl (Rd.extract rfl rfl) ?_; refine zO rfl (Rd.extract rfl rfl) ?_; refine zO rfl (Rd.extract rfl rfl) ?_; refine zO rfl (Rd.extract rfl rfl) ?_; refine zO rfl (Rd.extract rfl rfl) ?_; refine zO rfl Rd.asg ?_; refine zO rfl Rd.asg ?_
    refine zO rfl Rd.asg ?_; refine zO rfl Rd.asg ?_; refine zO rfl Rd.asg ?_; refine zN (zT (zS (zR ?_)))
    obtain ⟨E2, hE2⟩ : ∃ E, E = (e.one deep).fail (decide (op < 1 ∨ 7 < op)) 2 := ⟨_, rfl⟩
    rw [← hE2, ← hcells]
    refine XOA.join (List.take_append_drop 10 _).symm [(34, 43)] (fun _ : Unit => [(34, ptr b), (43, .bool A1)]) (fun _ σ' Γ' => σ = σ' ∧ Γ' = [Judge b (.slice p n c) E2, blk g4 cells 56]) ?_ ?_
    · rw [hcells]
      cases hn : needE op with
      | true =>
        have hb : A1 = false := by rw [hA1, hn]; rfl
        rw [hb]
        refine zA rfl ?_; refine zA rfl ?_; refine zO rfl zJ ?_; refine zA rfl ?_
        first | (refine zG ?_; refine zV rfl rfl ?_) | refine zH ?_
        first | (refine zG ?_; refine zO rfl (Rd.ldA rfl) ?_) | refine zH ?_
        first | refine zH ?_
        first | (refine zG ?_; refine zO rfl zJ ?_) | refine zH ?_
        refine zO rfl zP ?_; refine zA rfl ?_; refine zN (zT ?_)
        refine ⟨(Keep.upd (Keep.upd (Keep.upd (Keep.upd (Keep.upd (Keep.upd (Keep.upd (Keep.upd (Keep.upd (Keep.upd (Keep.refl _ _) rfl) rfl) rfl) rfl) rfl) rfl) rfl) rfl) rfl) rfl), (), _, zM, ?_, ⟨rfl, rfl⟩⟩
        · exact zE
      | false =>
        have hb : A1 = !ne := by rw [hA1, hn]; rfl
        rw [hb]
        refine zA rfl ?_; refine zA rfl ?_; refine zO rfl zJ ?_; refine zA rfl ?_
        first | (refine zG ?_; refine zV rfl rfl ?_) | refine zH ?_
        first | (refine zG ?_; refine zO rfl (Rd.ldA rfl) ?_) | refine zH ?_
        first | refine XOA.wanted rfl rfl ?_ | refine XOA.wq rfl rfl ?_
        refine XOA.wr0 rfl (WrA.cE (none_a σ _ _ hxe) rfl) ?_
        rintro _ _ _ ⟨_, ⟨rfl, rfl, rfl⟩, rfl⟩
        refine XOA.cl ?_
        rw [← hne]
        first | (refine zG ?_; refine zO rfl zJ ?_) | refine zH ?_
        refine zO rfl zP ?_; refine zA rfl ?_; refine zN (zT ?_)
        refine ⟨(Keep.upd (Keep.upd (Keep.upd (Keep.updO (Keep.upd (Keep.upd (Keep.upd (Keep.upd (Keep.upd (Keep.upd (Keep.refl _ _) rfl) rfl) rfl) rfl) rfl) rfl) rfl) rfl) rfl) rfl), (), _, zM, ?_, ⟨rfl, rfl⟩⟩
        · exact zE
    rintro - δ2 _ _ ⟨rfl, rfl⟩
    dsimp only [ovr, List.foldl]
    rw [hcells]
    obtain ⟨B2, hB2⟩ : ∃ A, A = (A1 || A2) := ⟨_, rfl⟩
    rw [← hcells]
    refine XOA.join (List.take_append_drop 10 _).symm [(34, 34), (44, 53)] (fun _ : Unit => [(34, ptr b), (53, .bool B2)]) (fun _ σ' Γ' => σ = σ' ∧ Γ' = [Judge b (.slice p n c) E2, blk g4 cells 56]) ?_ ?_
    · rw [hcells]
      cases A1 with
      | true =>
        have hb : B2 = true := by rw [hB2]; rfl
        rw [hb]
        first | (refine zG ?_; refine zA rfl ?_) | refine zH ?_
        first | (refine zG ?_; refine zO rfl zJ ?_) | refine zH ?_
        first | (refine zG ?_; refine zA rfl ?_) | refine zH ?_
        first | (refine zG ?_; refine zV rfl rfl ?_) | refine zH ?_
        first | (refine zG ?_; refine zO rfl (Rd.ldA rfl) ?_) | refine zH ?_
        first | refine zH ?_
        first | (refine zG ?_; refine zO rfl zJ ?_) | refine zH ?_
        first | (refine zG ?_; refine zO rfl zP ?_) | refine zH ?_
        refine zO rfl zP ?_; refine zA rfl ?_; refine zN (zT ?_)
        refine ⟨(Keep.upd (Keep.upd (Keep.upd (Keep.upd (Keep.upd (Keep.upd (Keep.upd (Keep.upd (Keep.upd (Keep.upd (Keep.refl _ _) rfl) rfl) rfl) rfl) rfl) rfl) rfl) rfl) rfl) rfl), (), _, zM, ?_, ⟨rfl, rfl⟩⟩
        · exact zE
      | false =>
        rw [Bool.false_or] at hB2
        cases hn : needF op with
        | true =>
          have hb : B2 = false := by rw [hB2, hA2, hn]; rfl
          rw [hb]
          first | (refine zG ?_; refine zA rfl ?_) | refine zH ?_
          first | (refine zG ?_; refine zO rfl zJ ?_) | refine zH ?_
          first | (refine zG ?_; refine zA rfl ?_) | refine zH ?_
          first | (refine zG ?_; refine zV rfl rfl ?_) | refine zH ?_
          first | (refine zG ?_; refine zO rfl (Rd.ldA rfl) ?_) | refine zH ?_
          first | refine zH ?_
          first | (refine zG ?_; refine zO rfl zJ ?_) | refine zH ?_
          first | (refine zG ?_; refine zO rfl zP ?_) | refine zH ?_
          refine zO rfl zP ?_; refine zA rfl ?_; refine zN (zT ?_)
          refine ⟨(Keep.upd (Keep.upd (Keep.upd (Keep.upd (Keep.upd (Keep.upd (Keep.upd (Keep.upd (Keep.upd (Keep.upd (Keep.refl _ _) rfl) rfl) rfl) rfl) rfl) rfl) rfl) rfl) rfl) rfl), (), _, zM, ?_, ⟨rfl, rfl⟩⟩
          · exact zE
        | false =>
          have hb : B2 = !nf := by rw [hB2, hA2, hn]; rfl
          rw [hb]
          first | (refine zG ?_; refine zA rfl ?_) | refine zH ?_
          first | (refine zG ?_; refine zO rfl zJ ?_) | refine zH ?_
          first | (refine zG ?_; refine zA rfl ?_) | refine zH ?_
          first | (refine zG ?_; refine zV rfl rfl ?_) | refine zH ?_
          first | (refine zG ?_; refine zO rfl (Rd.ldA rfl) ?_) | refine zH ?_
          first | refine XOA.wanted rfl rfl ?_ | refine XOA.wq rfl rfl ?_
          refine XOA.wr0 rfl (WrA.cE (none_a σ _ _ hxf) rfl) ?_
          rintro _ _ _ ⟨_, ⟨rfl, rfl, rfl⟩, rfl⟩
          refine XOA.cl ?_
          rw [← hnf]
          first | (refine zG ?_; refine zO rfl zJ ?_) | refine zH ?_
          first | (refine zG ?_; refine zO rfl zP ?_) | refine zH ?_
          refine zO rfl zP ?_; refine zA rfl ?_; refine zN (zT ?_)
          refine ⟨(Keep.upd (Keep.upd (Keep.upd (Keep.upd (Keep.updO (Keep.upd (Keep.upd (Keep.upd (Keep.upd (Keep.upd (Keep.refl _ _) rfl) rfl) rfl) rfl) rfl) rfl) rfl) rfl) rfl) rfl), (), _, zM, ?_, ⟨rfl, rfl⟩⟩
          · exact zE
    rintro - δ3 _ _ ⟨rfl, rfl⟩
    dsimp only [ovr, List.foldl]
    obtain ⟨B3, hB3⟩ : ∃ A, A = (B2 || A3) := ⟨_, rfl⟩
    refine XOA.join (List.take_append_drop 10 _).symm [(34, 34), (54, 63)] (fun _ : Unit => [(34, ptr b), (63, .bool B3)]) (fun _ σ' Γ' => σ = σ' ∧ Γ' = [Judge b (.slice p n c) E2, blk g4 cells 56]) ?_ ?_
    · rw [hcells]
      cases hB : B2 with
      | true =>
        have hb : B3 = true := by rw [hB3, hB]; rfl
        rw [hb]
        first | (refine zG ?_; refine zA rfl ?_) | refine zH ?_
        first | (refine zG ?_; refine zO rfl zJ ?_) | refine zH ?_
        first | (refine zG ?_; refine zA rfl ?_) | refine zH ?_
        first | (refine zG ?_; refine zV rfl rfl ?_) | refine zH ?_
        first | (refine zG ?_; refine zB rfl rfl (tyrow rfl) rfl ?_) | refine zH ?_
        first | (refine zG ?_; refine zO rfl (Rd.lenSlice (tyrow rfl) rfl rfl) ?_) | refine zH ?_
        first | (refine zG ?_; refine zO rfl (Rd.gtr rfl rfl) ?_) | refine zH ?_
        first | (refine zG ?_; refine zO rfl zP ?_) | refine zH ?_
        refine zO rfl zP ?_; refine zA rfl ?_; refine zN (zT ?_)
        refine ⟨(Keep.upd (Keep.upd (Keep.upd (Keep.upd (Keep.upd (Keep.upd (Keep.upd (Keep.upd (Keep.upd (Keep.upd (Keep.refl _ _) rfl) rfl) rfl) rfl) rfl) rfl) rfl) rfl) rfl) rfl), (), _, zM, ?_, ⟨rfl, rfl⟩⟩
        · exact zE
      | false =>
        rw [hB, Bool.false_or] at hB3
        cases hn : needB op with
        | true =>
          have hb : B3 = false := by rw [hB3, hA3, hn]; rfl
          rw [hb]
          first | (refine zG ?_; refine zA rfl ?_) | refine zH ?_
          first | (refine zG ?_; refine zO rfl zJ ?_) | refine zH ?_
          first | (refine zG ?_; refine zA rfl ?_) | refine zH ?_
          first | (refine zG ?_; refine zV rfl rfl ?_) | refine zH ?_
          first | (refine zG ?_; refine zB rfl rfl (tyrow rfl) rfl ?_) | refine zH ?_
          first | (refine zG ?_; refine zO rfl (Rd.lenSlice (tyrow rfl) rfl rfl) ?_) | refine zH ?_
          first | (refine zG ?_; refine zO rfl (Rd.gtr rfl rfl) ?_) | refine zH ?_
          first | (refine zG ?_; refine zO rfl zP ?_) | refine zH ?_
          refine zO rfl zP ?_; refine zA rfl ?_; refine zN (zT ?_)
          refine ⟨(Keep.upd (Keep.upd (Keep.upd (Keep.upd (Keep.upd (Keep.upd (Keep.upd (Keep.upd (Keep.upd (Keep.upd (Keep.refl _ _) rfl) rfl) rfl) rfl) rfl) rfl) rfl) rfl) rfl) rfl), (), _, zM, ?_, ⟨rfl, rfl⟩⟩
          · exact zE
        | false =>
          have hb : B3 = decide ((0 : Int) < (body.length : Int)) := by rw [hB3, hA3, hn]; rfl
          rw [hb]
          first | (refine zG ?_; refine zA rfl ?_) | refine zH ?_
          first | (refine zG ?_; refine zO rfl zJ ?_) | refine zH ?_
          first | (refine zG ?_; refine zA rfl ?_) | refine zH ?_
          first | (refine zG ?_; refine zV rfl rfl ?_) | refine zH ?_
          first | (refine zG ?_; refine zB rfl rfl (tyrow rfl) rfl ?_) | refine zH ?_
          first | (refine zG ?_; refine zO rfl (Rd.lenSlice (tyrow rfl) rfl rfl) ?_) | refine zH ?_
          first | (refine zG ?_; refine zO rfl (Rd.gtr rfl rfl) ?_) | refine zH ?_
          first | (refine zG ?_; refine zO rfl zP ?_) | refine zH ?_
          refine zO rfl zP ?_; refine zA rfl ?_; refine zN (zT ?_)
          refine ⟨(Keep.upd (Keep.upd (Keep.upd (Keep.upd (Keep.upd (Keep.upd (Keep.upd (Keep.upd (Keep.upd (Keep.upd (Keep.refl _ _) rfl) rfl) rfl) rfl) rfl) rfl) rfl) rfl) rfl) rfl), (), _, zM, ?_, ⟨rfl, rfl⟩⟩
          · exact zE
    rintro - δ4 _ _ ⟨rfl, rfl⟩
    dsimp only [ovr, List.foldl]
    obtain ⟨B4, hB4⟩ : ∃ A, A = (B3 || A4) := ⟨_, rfl⟩
    refine XOA.join (List.take_append_drop 9 _).symm [(34, 34), (64, 72)] (fun _ : Unit => [(34, ptr b), (72, .bool B4)]) (fun _ σ' Γ' => σ = σ' ∧ Γ' = [Judge b (.slice p n c) E2, blk g4 cells 56]) ?_ ?_
    · rw [hcells]
      cases hB : B3 with
      | true =>
        have hb : B4 = true := by rw [hB4, hB]; rfl
        rw [hb]
        first | (refine zG ?_; refine zA rfl ?_) | refine zH ?_
        first | (refine zG ?_; refine zO rfl zJ ?_) | refine zH ?_
        first | (refine zG ?_; refine zA rfl ?_) | refine zH ?_
        first | (refine zG ?_; refine zV rfl rfl ?_) | refine zH ?_
        first | (refine zG ?_; refine zB rfl rfl (tyrow rfl) rfl ?_) | refine zH ?_
        first | (refine zG ?_; refine zO rfl (Rd.lenSlice (tyrow rfl) rfl rfl) ?_) | refine zH ?_
        first | (refine zG ?_; refine zO rfl (Rd.gtr rfl rfl) ?_) | refine zH ?_
        first | (refine zG ?_; refine zO rfl zP ?_) | refine zH ?_
        refine zO rfl zP ?_; refine zN (zT ?_)
        refine ⟨(Keep.upd (Keep.upd (Keep.upd (Keep.upd (Keep.upd (Keep.upd (Keep.upd (Keep.upd (Keep.upd (Keep.refl _ _) rfl) rfl) rfl) rfl) rfl) rfl) rfl) rfl) rfl), (), _, zM, ?_, ⟨rfl, rfl⟩⟩
        · exact zE
      | false =>
        rw [hB, Bool.false_or] at hB4
        cases hn : needO op with
        | true =>
          have hb : B4 = false := by rw [hB4, hA4, hn]; rfl
          rw [hb]
          first | (refine zG ?_; refine zA rfl ?_) | refine zH ?_
          first | (refine zG ?_; refine zO rfl zJ ?_) | refine zH ?_
          first | (refine zG ?_; refine zA rfl ?_) | refine zH ?_
          first | (refine zG ?_; refine zV rfl rfl ?_) | refine zH ?_
          first | (refine zG ?_; refine zB rfl rfl (tyrow rfl) rfl ?_) | refine zH ?_
          first | (refine zG ?_; refine zO rfl (Rd.lenSlice (tyrow rfl) rfl rfl) ?_) | refine zH ?_
          first | (refine zG ?_; refine zO rfl (Rd.gtr rfl rfl) ?_) | refine zH ?_
          first | (refine zG ?_; refine zO rfl zP ?_) | refine zH ?_
          refine zO rfl zP ?_; refine zN (zT ?_)
          refine ⟨(Keep.upd (Keep.upd (Keep.upd (Keep.upd (Keep.upd (Keep.upd (Keep.upd (Keep.upd (Keep.upd (Keep.refl _ _) rfl) rfl) rfl) rfl) rfl) rfl) rfl) rfl) rfl), (), _, zM, ?_, ⟨rfl, rfl⟩⟩
          · exact zE
        | false =>
          have hb : B4 = decide ((0 : Int) < (els.length : Int)) := by rw [hB4, hA4, hn]; rfl
          rw [hb]
          first | (refine zG ?_; refine zA rfl ?_) | refine zH ?_
          first | (refine zG ?_; refine zO rfl zJ ?_) | refine zH ?_
          first | (refine zG ?_; refine zA rfl ?_) | refine zH ?_
          first | (refine zG ?_; refine zV rfl rfl ?_) | refine zH ?_
          first | (refine zG ?_; refine zB rfl rfl (tyrow rfl) rfl ?_) | refine zH ?_
          first | (refine zG ?_; refine zO rfl (Rd.lenSlice (tyrow rfl) rfl rfl) ?_) | refine zH ?_
          first | (refine zG ?_; refine zO rfl (Rd.gtr rfl rfl) ?_) | refine zH ?_
          first | (refine zG ?_; refine zO rfl zP ?_) | refine zH ?_
          refine zO rfl zP ?_; refine zN (zT ?_)
          refine ⟨(Keep.upd (Keep.upd (Keep.upd (Keep.upd (Keep.upd (Keep.upd (Keep.upd (Keep.upd (Keep.upd (Keep.refl _ _) rfl) rfl) rfl) rfl) rfl) rfl) rfl) rfl) rfl), (), _, zM, ?_, ⟨rfl, rfl⟩⟩
          · exact zE
    rintro - δ5 _ _ ⟨rfl, rfl⟩
    dsimp only [ovr, List.foldl]
    rw [show B4 = stForm op ex fx body.length els.length by rw [hform, hB4, hB3, hB2], hcells]
    refine XOA.wr0 rfl (WrA.cE (fail_a σ b _ _ (stForm op ex fx body.length els.length) 5 (by decide)) rfl) ?_
    rintro _ _ _ ⟨_, ⟨rfl, rfl, rfl⟩, rfl⟩
    refine XOA.cl ?_; refine zN (zT (zS (zR (zA rfl ?_)))); refine zV rfl rfl ?_; refine zB rfl rfl (tyrow rfl) rfl ?_; refine zA rfl ?_
    refine XOA.wr0 rfl (WrA.cE (named_a σ b p n c _ v (needV op)) rfl) ?_
    rintro _ _ _ ⟨_, ⟨rfl, rfl, rfl⟩, rfl⟩
    refine XOA.cl ?_
    obtain ⟨H, hH⟩ : ∃ H, H = stHead n deep op v ex fx body.length els.length e := ⟨_, rfl⟩
    have hHi : H.in_ := by rw [hH]; exact in_of (Down.stHead n op v ex fx body.length els.length) hin deep
    rw [show JE.named (JE.fail E2 (stForm op ex fx body.length els.length) 5) n v (needV op) = H by rw [hH, stHead, hE2]]
    have hpost : stE n deep (.mk op v ex fx body els) e = stsE n (deep + 1) els (stsE n (deep + 1) body (stEF n (deep + 1) op ex fx H)) := by rw [stE, hH]
    rw [hpost]
    clear hpost hform hB4 hB3 hB2 hA1 hA2 hA3 hA4 hne hnf hH hE2
    rw [← hcells]
    obtain ⟨H1, hH1⟩ : ∃ H1, H1 = if needE op then exE n (deep + 1) ex H else H := ⟨_, rfl⟩
    have hH1i : H1.in_ := by
      rw [hH1]; split
      · exact in_of (Down.exE n ex) hHi (deep + 1)
      · exact hHi
    obtain ⟨H2, hH2⟩ : ∃ H2, H2 = stEF n (deep + 1) op ex fx H := ⟨_, rfl⟩
    have hH2i : H2.in_ := by rw [hH2]; exact in_of (Down.stEF n op ex fx) hHi (deep + 1)
    have hH1' := hH1
    have hH2' : H2 = if needF op then exE n (deep + 1) fx H1 else H1 := by rw [hH2, hH1]; rfl
    rw [← hH2]
    refine zN (zT (zS (zS (zR ?_))))
    refine XOA.join (List.take_append_drop 8 _).symm [(79, 86)] (fun _ : Unit => [(86, .bool (needE op && H.isOk))]) (fun _ σ' Γ' => σ = σ' ∧ Γ' = [Judge b (.slice p n c) H, blk g4 cells 56]) ?_ ?_
    · 
      cases hn : needE op with
      | false =>
        rw [Bool.false_and]
        refine zA rfl ?_; refine zA rfl ?_
        first | (refine zG ?_; refine zA rfl ?_) | refine zH ?_
        first | (refine zG ?_; refine zO rfl (Rd.nilCheck rfl) ?_) | refine zH ?_
        first | (refine zG ?_; refine zV rfl rfl ?_) | refine zH ?_
        first | (refine zG ?_; refine zB rfl rfl (tyrow rfl) rfl ?_) | refine zH ?_
        first | (refine zG ?_; refine zO rfl (Rd.eql rfl rfl) ?_) | refine zH ?_
        refine zO rfl zP ?_; refine zN (zT ?_)
        refine ⟨(Keep.upd (Keep.upd (Keep.upd (Keep.upd (Keep.upd (Keep.upd (Keep.upd (Keep.upd (Keep.refl _ _) rfl) rfl) rfl) rfl) rfl) rfl) rfl) rfl), (), _, zM, ?_, ⟨rfl, rfl⟩⟩
        · exact zE
      | true =>
        rw [Bool.true_and]
        refine zA rfl ?_; refine zA rfl ?_
        first | (refine zG ?_; refine zA rfl ?_) | refine zH ?_
        first | refine XA.opn (R := Judge b (.slice p n c) H) zL (Judge.anyD) ?_ | refine XOA.opn (R := Judge b (.slice p n c) H) zL (Judge.anyD) ?_ | refine DA.opn (R := Judge b (.slice p n c) H) zL (Judge.anyD) ?_
        rintro ⟨l, cc⟩ ⟨hdec, hf⟩
        first | refine XA.cl ?_ | refine XOA.cl ?_ | refine DA.cl ?_
        rw [← hdec]
        first | (refine zG ?_; refine zO rfl (Rd.nilCheck rfl) ?_) | refine zH ?_
        first | (refine zG ?_; refine zV rfl rfl ?_) | refine zH ?_
        first | (refine zG ?_; refine zB rfl rfl (tyrow rfl) rfl ?_) | refine zH ?_
        first | (refine zG ?_; refine zO rfl (Rd.eql rfl rfl) ?_) | refine zH ?_
        refine zO rfl zP ?_; refine zN (zT ?_)
        refine ⟨(Keep.upd (Keep.upd (Keep.upd (Keep.upd (Keep.upd (Keep.upd (Keep.upd (Keep.upd (Keep.refl _ _) rfl) rfl) rfl) rfl) rfl) rfl) rfl) rfl), (), _, zM, ?_, ⟨rfl, rfl⟩⟩
        · exact Ent.foldC (Θ := [_]) zD hf zE
    rintro - δ6 _ _ ⟨rfl, rfl⟩
    dsimp only [ovr, List.foldl]
    refine zN (zT ?_)
    refine XA.join [(87, 92)] (fun _ : Unit => []) (fun _ σ' Γ' => σ = σ' ∧ Γ' = [Judge b (.slice p n c) H1, blk g4 cells 56]) ?_ ?_
    · 
      refine XA.cond rfl (fun hq => ?_) (fun hq => ?_)
      · have hq1 : needE op = true ∧ H.isOk = true := by simpa using hq
        rw [hcells]
        refine zR (zA rfl ?_); refine zV rfl rfl ?_; refine zO rfl (Rd.ldA rfl) ?_; refine zA rfl ?_; refine zO rfl zI ?_
        refine XOA.wr0 rfl (WrA.cE (expr_a σ ex _ b p n c H (deep + 1) hxe hHi (by omega) (by omega)) rfl) ?_
        rintro _ _ _ ⟨_, ⟨rfl, rfl, rfl⟩, rfl⟩
        refine XOA.cl ?_; refine zN (zT ?_)
        rw [show H1 = exE n (deep + 1) ex H by rw [hH1', if_pos hq1.1]]
        refine ⟨(Keep.updO (Keep.upd (Keep.upd (Keep.upd (Keep.upd (Keep.upd (Keep.refl _ _) rfl) rfl) rfl) rfl) rfl) rfl), (), _, zM, ?_, ⟨rfl, rfl⟩⟩
        · exact zE
      · have e1 : H1 = H := by
          rw [hH1']
          split
          · rename_i hn
            rw [hn, Bool.true_and] at hq
            obtain ⟨c', hc'⟩ := isOk_false hq
            rw [hc', exE_err]
          · rfl
        rw [e1]
        refine XA.skip (zT ?_)
        refine ⟨(Keep.refl _ _), (), _, zM, ?_, ⟨rfl, rfl⟩⟩
        · exact zE
    rintro - δ6' _ _ ⟨rfl, rfl⟩
    dsimp only [ovr, List.foldl]
    refine zT (zS (zS (zR ?_)))
    refine XOA.join (List.take_append_drop 8 _).symm [(93, 100)] (fun _ : Unit => [(100, .bool (needF op && H1.isOk))]) (fun _ σ' Γ' => σ = σ' ∧ Γ' = [Judge b (.slice p n c) H1, blk g4 cells 56]) ?_ ?_
    · 
      cases hn : needF op with
      | false =>
        rw [Bool.false_and]
        refine zA rfl ?_; refine zA rfl ?_
        first | (refine zG ?_; refine zA rfl ?_) | refine zH ?_
        first | (refine zG ?_; refine zO rfl (Rd.nilCheck rfl) ?_) | refine zH ?_
        first | (refine zG ?_; refine zV rfl rfl ?_) | refine zH ?_
        first | (refine zG ?_; refine zB rfl rfl (tyrow rfl) rfl ?_) | refine zH ?_
        first | (refine zG ?_; refine zO rfl (Rd.eql rfl rfl) ?_) | refine zH ?_
        refine zO rfl zP ?_; refine zN (zT ?_)
        refine ⟨(Keep.upd (Keep.upd (Keep.upd (Keep.upd (Keep.upd (Keep.upd (Keep.upd (Keep.upd (Keep.refl _ _) rfl) rfl) rfl) rfl) rfl) rfl) rfl) rfl), (), _, zM, ?_, ⟨rfl, rfl⟩⟩
        · exact zE
      | true =>
        rw [Bool.true_and]
        refine zA rfl ?_; refine zA rfl ?_
        first | (refine zG ?_; refine zA rfl ?_) | refine zH ?_
        first | refine XA.opn (R := Judge b (.slice p n c) H1) zL (Judge.anyD) ?_ | refine XOA.opn (R := Judge b (.slice p n c) H1) zL (Judge.anyD) ?_ | refine DA.opn (R := Judge b (.slice p n c) H1) zL (Judge.anyD) ?_
        rintro ⟨l, cc⟩ ⟨hdec, hf⟩
        first | refine XA.cl ?_ | refine XOA.cl ?_ | refine DA.cl ?_
        rw [← hdec]
        first | (refine zG ?_; refine zO rfl (Rd.nilCheck rfl) ?_) | refine zH ?_
        first | (refine zG ?_; refine zV rfl rfl ?_) | refine zH ?_
        first | (refine zG ?_; refine zB rfl rfl (tyrow rfl) rfl ?_) | refine zH ?_
        first | (refine zG ?_; refine zO rfl (Rd.eql rfl rfl) ?_) | refine zH ?_
        refine zO rfl zP ?_; refine zN (zT ?_)
        refine ⟨(Keep.upd (Keep.upd (Keep.upd (Keep.upd (Keep.upd (Keep.upd (Keep.upd (Keep.upd (Keep.refl _ _) rfl) rfl) rfl) rfl) rfl) rfl) rfl) rfl), (), _, zM, ?_, ⟨rfl, rfl⟩⟩
        · exact Ent.foldC (Θ := [_]) zD hf zE
    rintro - δ7 _ _ ⟨rfl, rfl⟩
    dsimp only [ovr, List.foldl]
    refine zN (zT ?_)
    refine XA.join [(101, 106)] (fun _ : Unit => []) (fun _ σ' Γ' => σ = σ' ∧ Γ' = [Judge b (.slice p n c) H2, blk g4 cells 56]) ?_ ?_
    · 
      refine XA.cond rfl (fun hq => ?_) (fun hq => ?_)
      · have hq1 : needF op = true ∧ H1.isOk = true := by simpa using hq
        rw [hcells]
        refine zR (zA rfl ?_); refine zV rfl rfl ?_; refine zO rfl (Rd.ldA rfl) ?_; refine zA rfl ?_; refine zO rfl zI ?_
        refine XOA.wr0 rfl (WrA.cE (expr_a σ fx _ b p n c H1 (deep + 1) hxf hH1i (by omega) (by omega)) rfl) ?_
        rintro _ _ _ ⟨_, ⟨rfl, rfl, rfl⟩, rfl⟩
        refine XOA.cl ?_; refine zN (zT ?_)
        rw [show H2 = exE n (deep + 1) fx H1 by rw [hH2', if_pos hq1.1]]
        refine ⟨(Keep.updO (Keep.upd (Keep.upd (Keep.upd (Keep.upd (Keep.upd (Keep.refl _ _) rfl) rfl) rfl) rfl) rfl) rfl), (), _, zM, ?_, ⟨rfl, rfl⟩⟩
        · exact zE
      · have e1 : H2 = H1 := by
          rw [hH2']
          split
          · rename_i hn
            rw [hn, Bool.true_and] at hq
            obtain ⟨c', hc'⟩ := isOk_false hq
            rw [hc', exE_err]
          · rfl
        rw [e1]
        refine XA.skip (zT ?_)
        refine ⟨(Keep.refl _ _), (), _, zM, ?_, ⟨rfl, rfl⟩⟩
        · exact zE
    rintro - δ7' _ _ ⟨rfl, rfl⟩
    dsimp only [ovr, List.foldl]
    refine zT ?_
    rw [hcells]
    refine zS (zR (zA rfl ?_)); refine zV rfl rfl ?_; refine zB rfl rfl (tyrow rfl) rfl ?_; refine zA rfl ?_; refine zO rfl zI ?_
    refine XOA.wr0 rfl (WrA.cE (list_a σ body ih _ b p n c H2 (deep + 1) hxb hH2i (by omega) (by omega)) rfl) ?_
    rintro _ _ _ ⟨_, ⟨rfl, rfl, rfl⟩, rfl⟩
    refine XOA.cl ?_; refine zN (zT (zR (zA rfl ?_))); refine zV rfl rfl ?_; refine zB rfl rfl (tyrow rfl) rfl ?_; refine zA rfl ?_; refine zO rfl zI ?_
    refine XOA.wr0 rfl (WrA.cE (list_a σ els jh _ b p n c _ (deep + 1) hxl (in_of (Down.stsE n body) hH2i (deep + 1)) (by omega) (by omega)) rfl) ?_
    rintro _ _ _ ⟨_, ⟨rfl, rfl, rfl⟩, rfl⟩
    refine XOA.cl ?_; refine zN ?_
    exact bodyA.normal (ResA.none rfl) zE ⟨rfl, rfl, rfl⟩
end Go.Proofs.YthefnnkmpcgcmaaDoor

namespace Go.Proofs.YthefnnkmpcgcmaaDoor
open Go X
set_option maxHeartbeats 1000000
theorem exsN_snoc {l : List Ex} {k : Nat} {x : Ex} (h : l[k]? = some x) : exsN (l.take (k + 1)) = exsN (l.take k) + exN x := by
  rw [List.take_add_one, h]; simp [exsN_app, exsN]
theorem stsN_snoc {l : List St} {k : Nat} {x : St} (h : l[k]? = some x) : stsN (l.take (k + 1)) = stsN (l.take k) + stN x := by
  rw [List.take_add_one, h]; simp [stsN_app, stsN]
def ExPartsOK (σ : PH) (x : Ex) : Prop := ∀ (cs : List Value) (most : Int), ExAt σ cs x → -1000000 ≤ most → most ≤ 1000000 →
  CallsA Tryd.prog 45 #[.agg cs.toArray, i64 most] σ [] (RetA fun v σ' Γ' => ∃ r : Int, v = i64 r ∧ (1 ≤ r ∧ (r ≤ most + 1 ∨ r ≤ 1) ∧ (r ≤ most → r = exN x)) ∧ σ = σ' ∧ Γ' = [])
theorem exprParts_a (σ : PH) (x : Ex) : ExPartsOK σ x := by
  refine Ex.ind (P := ExPartsOK σ) ?_ x
  intro op v k l ih cs most hx hm0 hm1
  obtain ⟨pl, cl, rfl, -, -, -, hl⟩ := hx.inv
  simp only [Ex.op, Ex.v, Ex.n, Ex.l] at hl ⊢
  clear hx
  have hlen : l.length ≤ maxLen := by
    obtain ⟨q, d, e1, h1, h2⟩ := hl.shape
    omega
  simp only [maxLen] at hlen
  refine enterA2 Tryd.func45 rfl rfl rfl ?_
  refine zS (zR ?_)
  refine XOA.wr0 rfl WrA.bx ?_
  rintro _ _ _ ⟨g2, rfl, rfl, rfl⟩
  refine zO rfl Rd.asg ?_; refine zN (zT (zS (zR (zO rfl Rd.asg ?_)))); refine zN (zT (zS (zS (zR (zO rfl Rd.asg ?_))))); refine zN (zT (XA.block ?_))
  refine XA.gen [(1, _), (2, _), (4, _), (5, _), (6, _)] ⟨(by with_reducible (conv => lhs; whnf)), (by with_reducible (conv => lhs; whnf)), (by with_reducible (conv => lhs; whnf)), (by with_reducible (conv => lhs; whnf)), (by with_reducible (conv => lhs; whnf)), trivial⟩ (fun δ => ?_)
  dsimp only [List.foldl]
  refine XA.loop [(5, 29)] (fun q : Nat × Int => [(6, i64 q.1), (5, i64 q.2)]) (fun q σ' Γ' => σ = σ' ∧ q.1 ≤ l.length ∧ (1 ≤ q.2 ∧ (q.2 ≤ most + 1 ∨ q.2 ≤ 1) ∧ (q.2 ≤ most → q.2 = 1 + exsN (l.take q.1))) ∧ Γ' = [blk g2 [i64 op, i64 v, i64 k, .slice pl l.length cl] 54]) (fun q => l.length - q.1) (0, 1) (by exact ⟨rfl, rfl, trivial⟩) (Δ0 := _) ?_ (⟨rfl, Nat.zero_le _, ⟨by simp only; omega, by simp only; omega, fun _ => by simp [exsN]⟩, rfl⟩) ?_
  · exact zE
  rintro ⟨i, n⟩ δ _ _ ⟨rfl, hi, ⟨hn0, hn1, hn2⟩, rfl⟩
  dsimp only [ovr, List.foldl]
  have hi : i ≤ l.length := hi
  have hn0 : 1 ≤ n := hn0
  have hn1 : n ≤ most + 1 ∨ n ≤ 1 := hn1
  have hn2 : n ≤ most → n = 1 + exsN (l.take i) := hn2
  by_cases h1 : i < l.length
  · by_cases h2 : n ≤ most
    · obtain ⟨x', hx'⟩ : ∃ x', l[i]? = some x' := ⟨_, List.getElem?_eq_getElem h1⟩
      obtain ⟨g, o, row, rfl, hrx, hrl, hrow⟩ := hl.at hx'
      have hone := hrx.ones
      have e1 := exsN_snoc hx'
      have h2n := hn2 h2
      refine zS (zS (zR (zA rfl ?_))); refine zV rfl rfl ?_; refine zB rfl rfl (tyrow rfl) rfl ?_; refine zO rfl (Rd.lenSlice (tyrow rfl) rfl rfl) ?_; refine zO rfl (Rd.lss rfl rfl) ?_; refine zA rfl ?_
      first | (refine zG ?_; refine zA rfl ?_) | refine zH ?_
      first | (refine zG ?_; refine zA rfl ?_) | refine zH ?_
      first | (refine zG ?_; refine zO rfl (Rd.leq rfl rfl) ?_) | refine zH ?_
      refine zO rfl zP ?_; refine zN (zT (XA.condT rfl zY ?_)); refine XA.skip (zT (zS (XA.block (zR (zA rfl ?_))))); refine zV rfl rfl ?_; refine zB rfl rfl (tyrow rfl) rfl ?_; refine zA rfl ?_; refine zO rfl (Rd.ixS rfl rfl) ?_; refine zO rfl (Rd.ldA rfl) ?_; refine zA rfl ?_; refine zA rfl ?_
      refine zO rfl (by first | exact Rd.sbi rfl rfl | exact Rd.sub rfl rfl) ?_
      refine XOA.wr0 rfl (WrA.cE (ih x' (List.mem_of_getElem? hx') row (most - n) hrx (by omega) (by omega)) rfl) ?_
      rintro _ _ _ ⟨_, ⟨r, rfl, ⟨hr0, hr1, hr2⟩, rfl, rfl⟩, rfl⟩
      refine XOA.cl ?_; refine zO rfl zI ?_; refine zO rfl Rd.asg ?_; refine zN (DA.inb_normal (zT (zR (zA rfl ?_)))); refine zO rfl zI ?_; refine zO rfl Rd.asg ?_; refine zN (zT ?_)
      refine ⟨(Keep.upd (Keep.upd (Keep.upd (Keep.upd (Keep.upd (Keep.updO (Keep.upd (Keep.upd (Keep.upd (Keep.upd (Keep.upd (Keep.upd (Keep.upd (Keep.upd (Keep.upd (Keep.upd (Keep.upd (Keep.upd (Keep.upd (Keep.upd (Keep.upd (Keep.upd (Keep.upd (Keep.upd (Keep.upd (Keep.upd (Keep.upd (Keep.hav (Keep.refl _ _) rfl) rfl) rfl) rfl) rfl) rfl) rfl) rfl) rfl) rfl) rfl) rfl) rfl) rfl) rfl) rfl) rfl) rfl) rfl) rfl) rfl) rfl) rfl) rfl) rfl) rfl) rfl) rfl), (i + 1, n + r), _, zM, ?_, ⟨rfl, h1, ⟨by simp only; omega, by simp only; omega, fun h => by simp only at h ⊢; have := hr2 (by omega); rw [e1]; omega⟩, rfl⟩, (by simp only; omega)⟩
      · exact zE
    · 
      refine zS (zS (zR (zA rfl ?_))); refine zV rfl rfl ?_; refine zB rfl rfl (tyrow rfl) rfl ?_; refine zO rfl (Rd.lenSlice (tyrow rfl) rfl rfl) ?_; refine zO rfl (Rd.lss rfl rfl) ?_; refine zA rfl ?_
      first | (refine zG ?_; refine zA rfl ?_) | refine zH ?_
      first | (refine zG ?_; refine zA rfl ?_) | refine zH ?_
      first | (refine zG ?_; refine zO rfl (Rd.leq rfl rfl) ?_) | refine zH ?_
      refine zO rfl zP ?_; refine zN (zT (XA.condF rfl zY ?_)); refine XA.exit (DA.thn_exit (DA.thn_exit (DA.inb_same (zT (zS (zR (zA rfl ?_))))))); refine zO rfl Rd.asg ?_; refine zN (zT (XA.ret ?_))
      refine bodyA.ret (ResA.one rfl rfl) (Ent.nil _) ⟨n, rfl, ⟨hn0, hn1, fun h => absurd h h2⟩, rfl, rfl⟩
  · 
    have hil : i = l.length := by omega
    subst hil
    rw [List.take_length] at hn2
    refine zS (zS (zR (zA rfl ?_))); refine zV rfl rfl ?_; refine zB rfl rfl (tyrow rfl) rfl ?_; refine zO rfl (Rd.lenSlice (tyrow rfl) rfl rfl) ?_; refine zO rfl (Rd.lss rfl rfl) ?_; refine zA rfl ?_
    first | (refine zG ?_; refine zA rfl ?_) | refine zH ?_
    first | (refine zG ?_; refine zA rfl ?_) | refine zH ?_
    first | (refine zG ?_; refine zO rfl (Rd.leq rfl rfl) ?_) | refine zH ?_
    refine zO rfl zP ?_; refine zN (zT (XA.condF rfl zY ?_)); refine XA.exit (DA.thn_exit (DA.thn_exit (DA.inb_same (zT (zS (zR (zA rfl ?_))))))); refine zO rfl Rd.asg ?_; refine zN (zT (XA.ret ?_))
    refine bodyA.ret (ResA.one rfl rfl) (Ent.nil _) ⟨n, rfl, ⟨hn0, hn1, fun h => by rw [hn2 h, exN]; omega⟩, rfl, rfl⟩
def StPartsOK (σ : PH) (l : List St) : Prop := ∀ (sl : Value) (most : Int), PSl 12 StAt σ sl l → -1000000 ≤ most → most ≤ 1000000 →
  CallsA Tryd.prog 23 #[sl, i64 most] σ [] (RetA fun v σ' Γ' => ∃ r : Int, v = i64 r ∧ (0 ≤ r ∧ (r ≤ 2 * most + 3 ∨ r ≤ 0) ∧ (r ≤ most → r = stsN l)) ∧ σ = σ' ∧ Γ' = [])
theorem stmtParts_l (σ : PH) (l : List St) (ih : ∀ x ∈ l, StPartsOK σ x.body ∧ StPartsOK σ x.els) : StPartsOK σ l := by
  intro sl most hl hm0 hm1
  obtain ⟨pl, cl, rfl, hle, hmx⟩ := hl.shape
  have hlen : l.length ≤ maxLen := by omega
  simp only [maxLen] at hlen
  refine enterA2 Tryd.func23 rfl rfl rfl ?_
  refine zS (zR (zO rfl Rd.asg ?_)); refine zN (zT (zS (zR (zO rfl Rd.asg ?_)))); refine zN (zT (zS (zS (zR (zO rfl Rd.asg ?_))))); refine zN (zT (XA.block ?_))
  refine XA.gen [(0, _), (1, _), (4, _), (5, _), (6, _)] ⟨(by with_reducible (conv => lhs; whnf)), (by with_reducible (conv => lhs; whnf)), (by with_reducible (conv => lhs; whnf)), (by with_reducible (conv => lhs; whnf)), (by with_reducible (conv => lhs; whnf)), trivial⟩ (fun δ => ?_)
  dsimp only [List.foldl]
  refine XA.loop [(5, 67)] (fun q : Nat × Int => [(6, i64 q.1), (5, i64 q.2)]) (fun q σ' Γ' => σ = σ' ∧ q.1 ≤ l.length ∧ (0 ≤ q.2 ∧ (q.2 ≤ 2 * most + 3 ∨ q.2 ≤ 0) ∧ (q.2 ≤ most → q.2 = stsN (l.take q.1))) ∧ Γ' = []) (fun q => l.length - q.1) (0, 0) (by exact ⟨rfl, rfl, trivial⟩) (Δ0 := _) ?_ (⟨rfl, Nat.zero_le _, ⟨by simp only; omega, by simp only; omega, fun _ => by simp [stsN]⟩, rfl⟩) ?_
  · exact zE
  rintro ⟨i, n⟩ δ _ _ ⟨rfl, hi, ⟨hn0, hn1, hn2⟩, rfl⟩
  dsimp only [ovr, List.foldl]
  have hi : i ≤ l.length := hi
  have hn0 : 0 ≤ n := hn0
  have hn1 : n ≤ 2 * most + 3 ∨ n ≤ 0 := hn1
  have hn2 : n ≤ most → n = stsN (l.take i) := hn2
  by_cases h1 : i < l.length
  · by_cases h2 : n ≤ most
    · obtain ⟨x', hx'⟩ : ∃ x', l[i]? = some x' := ⟨_, List.getElem?_eq_getElem h1⟩
      obtain ⟨g, o, row, rfl, hrx, hrl, hrow⟩ := hl.at hx'
      have hone := hrx.ones
      have e1 := stsN_snoc hx'
      have h2n := hn2 h2
      obtain ⟨ihb, ihe⟩ := ih x' (List.mem_of_getElem? hx')
      obtain ⟨pe, de, pf, df, pb, cb, pe', ce, rfl, -, -, hxe, hxf, hxb, hxl⟩ := hrx.inv12
      have r2 : PRow σ g (o + i * 12 + 2) [i64 x'.e.op, i64 x'.e.v, i64 x'.e.n, .slice pe x'.e.l.length de] := hrow.sub (j := 2) rfl
      have r6 : PRow σ g (o + i * 12 + 6) [i64 x'.f.op, i64 x'.f.v, i64 x'.f.n, .slice pf x'.f.l.length df] := hrow.sub (j := 6) rfl
      have r10 : PRow σ g (o + i * 12 + 10) [.slice pb x'.body.length cb] := hrow.sub (j := 10) rfl
      have r11 : PRow σ g (o + i * 12 + 11) [.slice pe' x'.els.length ce] := hrow.sub (j := 11) rfl
      have e2 : stN x' = 1 + exN x'.e + exN x'.f + stsN x'.body + stsN x'.els := by cases x'; simp [stN, St.e, St.f, St.body, St.els]
      refine zS (zS (zR (zA rfl ?_))); refine zA rfl ?_; refine zO rfl (Rd.lenSlice (tyrow rfl) rfl rfl) ?_; refine zO rfl (Rd.lss rfl rfl) ?_; refine zA rfl ?_
      first | (refine zG ?_; refine zA rfl ?_) | refine zH ?_
      first | (refine zG ?_; refine zA rfl ?_) | refine zH ?_
      first | (refine zG ?_; refine zO rfl (Rd.leq rfl rfl) ?_) | refine zH ?_
      refine zO rfl zP ?_; refine zN (zT (XA.condT rfl zY ?_)); refine XA.skip (zT (zS (XA.block (zS ?_))))
      refine XA.draw (by kernel_rfl) _ _ [19] [(0, .pu), (1, .pu), (2, .pu), (3, .pu), (4, .pu), (5, .rd), (6, .pu), (7, .pu), (8, .pu), (11, .pu), (12, .pu), (13, .pu), (14, .pu), (15, .rd), (16, .pu), (17, .pu), (18, .pu), (9, .wr), (10, .pu), (19, .wr), (20, .pu), (21, .pu), (22, .pu)] (by kernel_rfl) (PH.sub.refl _) (Ent.nil _) ?_
      refine XPA.pu rfl rfl Gd.free Rd.mv ?_; refine XPA.pu rfl rfl Gd.free Rd.mv ?_; refine XPA.pu rfl rfl Gd.free Rd.mv ?_; refine XPA.pu rfl rfl Gd.free (Rd.ixS rfl rfl) ?_; refine XPA.pu rfl rfl Gd.free (Rd.fA rfl) ?_; refine XPA.rd rfl rfl Gd.free (Rd.ldA rfl) ?_
      refine XPA.pu rfl rfl Gd.free Rd.mv ?_; refine XPA.pu rfl rfl Gd.free Rd.mv ?_; refine XPA.pu rfl rfl Gd.free (by first | exact Rd.sbi rfl rfl | exact Rd.sub rfl rfl) ?_; refine XPA.pu rfl rfl Gd.free Rd.mv ?_; refine XPA.pu rfl rfl Gd.free Rd.mv ?_; refine XPA.pu rfl rfl Gd.free (Rd.ixS rfl rfl) ?_
      refine XPA.pu rfl rfl Gd.free (Rd.fA rfl) ?_; refine XPA.rd rfl rfl Gd.free (Rd.ldA rfl) ?_; refine XPA.pu rfl rfl Gd.free Rd.mv ?_; refine XPA.pu rfl rfl Gd.free Rd.mv ?_; refine XPA.pu rfl rfl Gd.free (by first | exact Rd.sbi rfl rfl | exact Rd.sub rfl rfl) ?_
      refine XPA.wr0 rfl rfl Gd.free (WrA.cE (exprParts_a σ x'.e _ (most - n) hxe (by omega) (by omega)) rfl) ?_
      rintro _ _ _ ⟨_, ⟨a, rfl, ⟨ha0, ha1, ha2⟩, rfl, rfl⟩, rfl⟩
      refine stays (XPA.cl ?_)
      refine XPA.pu rfl rfl Gd.free zI ?_
      refine XPA.wrZ0 rfl rfl Gd.free (by kernel_rfl) (WrA.cE (exprParts_a σ x'.f _ (most - n) hxf (by omega) (by omega)) rfl) ?_
      rintro _ _ _ ⟨_, ⟨b, rfl, ⟨hb0, hb1, hb2⟩, rfl, rfl⟩, rfl⟩
      refine XPA.cl ?_; refine XPA.pu rfl rfl Gd.free zI ?_; refine XPA.pu rfl rfl Gd.free zI ?_; refine XPA.pu rfl rfl Gd.free Rd.asg ?_; refine XPA.nil ?_; refine zT (zS (zS (zR (zA rfl ?_)))); refine zA rfl ?_; refine zO rfl (Rd.leq rfl rfl) ?_; refine zN (zT ?_)
      refine XA.join [(5, 5), (43, 53)] (fun q : Int => [(5, i64 q)]) (fun q σ' Γ' => σ = σ' ∧ (0 ≤ q ∧ (q ≤ 2 * most + 3 ∨ q ≤ 0) ∧ (q ≤ most → q = stsN (l.take i) + 1 + exN x'.e + exN x'.f + stsN x'.body)) ∧ Γ' = []) ?_ ?_
      · 
        refine XA.condp rfl (fun h3 => ?_) (fun h3 => ?_)
        · refine zR ?_
          refine zA rfl ?_; refine zA rfl ?_; refine zA rfl ?_; refine zO rfl (Rd.ixS rfl rfl) ?_; refine zV rfl rfl ?_; refine zB rfl rfl (tyrow rfl) rfl ?_; refine zA rfl ?_; refine zA rfl ?_; refine zO rfl (by first | exact Rd.sbi rfl rfl | exact Rd.sub rfl rfl) ?_
          refine XOA.wr0 rfl (WrA.cE (ihb _ (most - (n + (1 + a + b))) hxb (by omega) (by omega)) rfl) ?_
          rintro _ _ _ ⟨_, ⟨c, rfl, ⟨hc0, hc1, hc2⟩, rfl, rfl⟩, rfl⟩
          refine XOA.cl ?_; refine zO rfl zI ?_; refine zO rfl Rd.asg ?_; refine zN (zT ?_)
          have k1 := ha2 (by omega)
          have k2 := hb2 (by omega)
          refine ⟨(Keep.upd (Keep.upd (Keep.updO (Keep.upd (Keep.upd (Keep.upd (Keep.upd (Keep.upd (Keep.upd (Keep.upd (Keep.upd (Keep.upd (Keep.refl _ _) rfl) rfl) rfl) rfl) rfl) rfl) rfl) rfl) rfl) rfl) rfl) rfl), n + (1 + a + b) + c, _, zM, ?_, ⟨rfl, ⟨by omega, by omega, fun h => by have := hc2 (by omega); omega⟩, rfl⟩⟩
          · exact zE
        · refine XA.skip ?_
          refine zT ?_
          refine ⟨(Keep.refl _ _), n + (1 + a + b), _, zM, ?_, ⟨rfl, ⟨by omega, by omega, fun h => absurd h h3⟩, rfl⟩⟩
          · exact zE
      rintro q δ2 _ _ ⟨rfl, ⟨hq0, hq1, hq2⟩, rfl⟩
      dsimp only [ovr, List.foldl]
      refine zT (zS (zR (zA rfl ?_))); refine zA rfl ?_; refine zO rfl (Rd.leq rfl rfl) ?_; refine zN (zT ?_)
      refine XA.join [(5, 5), (57, 67)] (fun q : Int => [(5, i64 q)]) (fun q σ' Γ' => σ = σ' ∧ (0 ≤ q ∧ (q ≤ 2 * most + 3 ∨ q ≤ 0) ∧ (q ≤ most → q = stsN (l.take i) + 1 + exN x'.e + exN x'.f + stsN x'.body + stsN x'.els)) ∧ Γ' = []) ?_ ?_
      · 
        refine XA.condp rfl (fun h3 => ?_) (fun h3 => ?_)
        · have hq3 := hq2 h3
          refine zR (zA rfl ?_); refine zA rfl ?_; refine zA rfl ?_; refine zO rfl (Rd.ixS rfl rfl) ?_; refine zV rfl rfl ?_; refine zB rfl rfl (tyrow rfl) rfl ?_; refine zA rfl ?_; refine zA rfl ?_; refine zO rfl (by first | exact Rd.sbi rfl rfl | exact Rd.sub rfl rfl) ?_
          refine XOA.wr0 rfl (WrA.cE (ihe _ (most - q) hxl (by omega) (by omega)) rfl) ?_
          rintro _ _ _ ⟨_, ⟨c, rfl, ⟨hc0, hc1, hc2⟩, rfl, rfl⟩, rfl⟩
          refine XOA.cl ?_; refine zO rfl zI ?_; refine zO rfl Rd.asg ?_; refine zN (zT ?_)
          refine ⟨(Keep.upd (Keep.upd (Keep.updO (Keep.upd (Keep.upd (Keep.upd (Keep.upd (Keep.upd (Keep.upd (Keep.upd (Keep.upd (Keep.upd (Keep.refl _ _) rfl) rfl) rfl) rfl) rfl) rfl) rfl) rfl) rfl) rfl) rfl) rfl), q + c, _, zM, ?_, ⟨rfl, ⟨by omega, by omega, fun h => by have := hc2 (by omega); omega⟩, rfl⟩⟩
          · exact zE
        · refine XA.skip ?_
          refine zT ?_
          refine ⟨(Keep.refl _ _), q, _, zM, ?_, ⟨rfl, ⟨by omega, by omega, fun h => absurd h h3⟩, rfl⟩⟩
          · exact zE
      rintro q2 δ3 _ _ ⟨rfl, ⟨hs0, hs1, hs2⟩, rfl⟩
      dsimp only [ovr, List.foldl]
      refine DA.inb_normal (zT (zR (zA rfl ?_))); refine zO rfl zI ?_; refine zO rfl Rd.asg ?_; refine zN (zT ?_)
      refine ⟨(Keep.upd (Keep.upd (Keep.upd (Keep.upd (Keep.hav (Keep.hav (Keep.upd (Keep.upd (Keep.upd (Keep.upd (Keep.hav (Keep.hav (Keep.upd (Keep.upd (Keep.upd (Keep.upd (Keep.upd (Keep.upd (Keep.updO (Keep.upd (Keep.updO (Keep.upd (Keep.upd (Keep.upd (Keep.upd (Keep.upd (Keep.upd (Keep.upd (Keep.upd (Keep.upd (Keep.upd (Keep.upd (Keep.upd (Keep.upd (Keep.upd (Keep.upd (Keep.upd (Keep.upd (Keep.upd (Keep.upd (Keep.upd (Keep.upd (Keep.upd (Keep.upd (Keep.upd (Keep.upd (Keep.upd (Keep.upd (Keep.upd (Keep.hav (Keep.refl _ _) rfl) rfl) rfl) rfl) rfl) rfl) rfl) rfl) rfl) rfl) rfl) rfl) rfl) rfl) rfl) rfl) rfl) rfl) rfl) rfl) rfl) rfl) rfl) rfl) rfl) rfl) rfl) rfl) rfl) rfl) rfl) rfl) rfl) rfl) rfl) rfl) rfl) rfl) rfl) rfl) rfl) rfl) rfl) rfl) rfl) rfl) rfl) rfl) rfl) rfl), (i + 1, q2), _, zM, ?_, ⟨rfl, h1, ⟨hs0, hs1, fun h => by simp only at h ⊢; rw [e1]; have := hs2 h; omega⟩, rfl⟩, (by simp only; omega)⟩
      · exact zE
    · 
      refine zS (zS (zR (zA rfl ?_))); refine zA rfl ?_; refine zO rfl (Rd.lenSlice (tyrow rfl) rfl rfl) ?_; refine zO rfl (Rd.lss rfl rfl) ?_; refine zA rfl ?_
      first | (refine zG ?_; refine zA rfl ?_) | refine zH ?_
      first | (refine zG ?_; refine zA rfl ?_) | refine zH ?_
      first | (refine zG ?_; refine zO rfl (Rd.leq rfl rfl) ?_) | refine zH ?_
      refine zO rfl zP ?_; refine zN (zT (XA.condF rfl zY ?_)); refine XA.exit (DA.thn_exit (DA.thn_exit (DA.inb_same (zT (zS (zR (zA rfl ?_))))))); refine zO rfl Rd.asg ?_; refine zN (zT (XA.ret ?_))
      refine bodyA.ret (ResA.one rfl rfl) (Ent.nil _) ⟨n, rfl, ⟨hn0, hn1, fun h => absurd h h2⟩, rfl, rfl⟩
  · 
    have hil : i = l.length := by omega
    subst hil
    rw [List.take_length] at hn2
    refine zS (zS (zR (zA rfl ?_))); refine zA rfl ?_; refine zO rfl (Rd.lenSlice (tyrow rfl) rfl rfl) ?_; refine zO rfl (Rd.lss rfl rfl) ?_; refine zA rfl ?_
    first | (refine zG ?_; refine zA rfl ?_) | refine zH ?_
    first | (refine zG ?_; refine zA rfl ?_) | refine zH ?_
    first | (refine zG ?_; refine zO rfl (Rd.leq rfl rfl) ?_) | refine zH ?_
    refine zO rfl zP ?_; refine zN (zT (XA.condF rfl zY ?_)); refine XA.exit (DA.thn_exit (DA.thn_exit (DA.inb_same (zT (zS (zR (zA rfl ?_))))))); refine zO rfl Rd.asg ?_; refine zN (zT (XA.ret ?_))
    refine bodyA.ret (ResA.one rfl rfl) (Ent.nil _) ⟨n, rfl, ⟨hn0, hn1, fun h => hn2 h⟩, rfl, rfl⟩
theorem stParts_x (σ : PH) (x : St) : StPartsOK σ x.body ∧ StPartsOK σ x.els := by
  refine St.ind (P := fun x => StPartsOK σ x.body ∧ StPartsOK σ x.els) ?_ x
  intro op v e f body els ih jh
  exact ⟨stmtParts_l σ body ih, stmtParts_l σ els jh⟩
theorem stmtParts_a (σ : PH) (l : List St) : StPartsOK σ l := stmtParts_l σ l (fun x _ => stParts_x σ x)
/-- A program that is not great. -/
def Small (p : Pr) : Prop := p.vars.length ≤ 30 ∧ (∀ x ∈ p.vars, x.name.size ≤ 100) ∧ stsN p.body ≤ 900
theorem great_a (σ : PH) (cs : List Value) (p : Pr) (hp : PrAt σ cs p) : CallsA Tryd.prog 11 #[.agg cs.toArray] σ [] (RetA fun v σ' Γ' => ∃ b : Bool, v = .bool b ∧ (b = false → Small p) ∧ σ = σ' ∧ Γ' = []) := by
  obtain ⟨vs, bs, rfl, hv, hb⟩ := hp
  obtain ⟨pv, cv, rfl, hvl, hvm⟩ := hv.shape
  have hlen : p.vars.length ≤ maxLen := by omega
  simp only [maxLen] at hlen
  refine enterA1 Tryd.func11 rfl rfl rfl ?_
  refine zS (zR ?_)
  refine XOA.wr0 rfl WrA.bx ?_
  rintro _ _ _ ⟨g1, rfl, rfl, rfl⟩
  refine zO rfl Rd.asg ?_; refine zN (zT (zS (zS (zR (zO rfl Rd.asg ?_))))); refine zN (zT (XA.block ?_))
  refine XA.gen [(1, _), (2, _), (3, _)] ⟨(by with_reducible (conv => lhs; whnf)), (by with_reducible (conv => lhs; whnf)), (by with_reducible (conv => lhs; whnf)), trivial⟩ (fun δ => ?_)
  dsimp only [List.foldl]
  refine XA.loop [(2, 22)] (fun q : Nat => [(3, i64 q)]) (fun q σ' Γ' => σ = σ' ∧ q ≤ p.vars.length ∧ (∀ (j : Nat) x, j < q → p.vars[j]? = some x → x.name.size ≤ 100) ∧ Γ' = [blk g1 [.slice pv p.vars.length cv, bs] 25]) (fun q => p.vars.length - q) 0 (by exact ⟨rfl, trivial⟩) (Δ0 := _) ?_ (⟨rfl, Nat.zero_le _, fun j x h => absurd h (Nat.not_lt_zero _), rfl⟩) ?_
  · exact zE
  rintro i δ _ _ ⟨rfl, hi, hall, rfl⟩
  dsimp only [ovr, List.foldl]
  by_cases h1 : i < p.vars.length
  · by_cases h2 : i < 30
    · obtain ⟨x', hx'⟩ : ∃ x', p.vars[i]? = some x' := ⟨_, List.getElem?_eq_getElem h1⟩
      obtain ⟨g, o, row, rfl, ⟨rfl, hrx, hns⟩, hrl, hrow⟩ := hv.at hx'
      have r0 : PRow σ g (o + i * 2) [.string x'.name] := hrow.sub (j := 0) rfl
      refine zS (zS (zR (zA rfl ?_))); refine zV rfl rfl ?_; refine zB rfl rfl (tyrow rfl) rfl ?_; refine zO rfl (Rd.lenSlice (tyrow rfl) rfl rfl) ?_; refine zO rfl (Rd.lss rfl rfl) ?_; refine zA rfl ?_
      first | (refine zG ?_; refine zA rfl ?_) | refine zH ?_
      first | (refine zG ?_; refine zO rfl (Rd.lss rfl rfl) ?_) | refine zH ?_
      refine zO rfl zP ?_; refine zN (zT (XA.condT rfl zY ?_)); refine XA.skip (zT (zS (XA.block (zS (zR (zV rfl rfl ?_)))))); refine zB rfl rfl (tyrow rfl) rfl ?_; refine zA rfl ?_; refine zO rfl (Rd.ixS rfl rfl) ?_; refine zV rfl rfl ?_; refine zB rfl rfl (tyrow rfl) rfl ?_
      refine zO rfl (Rd.lenString (tyrow rfl) rfl rfl) ?_; refine zO rfl (Rd.gtr rfl rfl) ?_; refine zN (zT ?_)
      refine XA.condp rfl (fun h3 => ?_) (fun h3 => ?_)
      · refine zS ?_
        refine zR (zO rfl Rd.asg ?_); refine zN (zT (XA.ret (DA.inb_ret (DA.thn_ret (DA.thn_ret (DA.inb_ret (DA.thn_ret ?_)))))))
        refine bodyA.ret (ResA.one rfl rfl) (Ent.nil _) ⟨true, rfl, fun h => (by cases h), rfl, rfl⟩
      have hnew : ∀ (j : Nat) x, j < i + 1 → p.vars[j]? = some x → x.name.size ≤ 100 := fun j x hj hx => by
        rcases Nat.lt_or_ge j i with h | h
        · exact hall j x h hx
        · have : j = i := by omega
          subst this
          rw [hx'] at hx; simp only [Option.some.injEq] at hx; subst hx
          omega
      refine XA.skip (DA.inb_normal (zT (zR (zA rfl ?_)))); refine zO rfl zI ?_; refine zO rfl Rd.asg ?_; refine zN (zT ?_)
      refine ⟨(Keep.upd (Keep.upd (Keep.upd (Keep.upd (Keep.upd (Keep.upd (Keep.upd (Keep.upd (Keep.upd (Keep.upd (Keep.upd (Keep.upd (Keep.upd (Keep.upd (Keep.upd (Keep.upd (Keep.upd (Keep.upd (Keep.upd (Keep.upd (Keep.upd (Keep.hav (Keep.refl _ _) rfl) rfl) rfl) rfl) rfl) rfl) rfl) rfl) rfl) rfl) rfl) rfl) rfl) rfl) rfl) rfl) rfl) rfl) rfl) rfl) rfl) rfl), i + 1, _, zM, ?_, ⟨rfl, h1, hnew, rfl⟩, (by omega)⟩
      · exact zE
    · 
      refine zS (zS (zR (zA rfl ?_))); refine zV rfl rfl ?_; refine zB rfl rfl (tyrow rfl) rfl ?_; refine zO rfl (Rd.lenSlice (tyrow rfl) rfl rfl) ?_; refine zO rfl (Rd.lss rfl rfl) ?_; refine zA rfl ?_
      first | (refine zG ?_; refine zA rfl ?_) | refine zH ?_
      first | (refine zG ?_; refine zO rfl (Rd.lss rfl rfl) ?_) | refine zH ?_
      refine zO rfl zP ?_; refine zN (zT (XA.condF rfl zY ?_)); refine XA.exit (DA.thn_exit (DA.thn_exit (DA.inb_same (zT (zS (zR (zV rfl rfl ?_))))))); refine zB rfl rfl (tyrow rfl) rfl ?_; refine zO rfl (Rd.lenSlice (tyrow rfl) rfl rfl) ?_
      by_cases hbig : 30 < p.vars.length
      · 
        refine zO rfl (Rd.gtr rfl rfl) ?_; refine zA rfl ?_
        first | (refine zG ?_; refine zV rfl rfl ?_) | refine zH ?_
        first | (refine zG ?_; refine zB rfl rfl (tyrow rfl) rfl ?_) | refine zH ?_
        first | refine zH ?_
        first | (refine zG ?_; refine zO rfl (Rd.gtr rfl rfl) ?_) | refine zH ?_
        refine zO rfl zP ?_; refine zO rfl Rd.asg ?_; refine zN (zT (XA.ret ?_))
        exact bodyA.ret (ResA.one rfl rfl) (Ent.nil _) ⟨true, rfl, fun h => (by cases h), rfl, rfl⟩
      · exfalso; omega
  · 
    refine zS (zS (zR (zA rfl ?_))); refine zV rfl rfl ?_; refine zB rfl rfl (tyrow rfl) rfl ?_; refine zO rfl (Rd.lenSlice (tyrow rfl) rfl rfl) ?_; refine zO rfl (Rd.lss rfl rfl) ?_; refine zA rfl ?_
    first | (refine zG ?_; refine zA rfl ?_) | refine zH ?_
    first | (refine zG ?_; refine zO rfl (Rd.lss rfl rfl) ?_) | refine zH ?_
    refine zO rfl zP ?_; refine zN (zT (XA.condF rfl zY ?_)); refine XA.exit (DA.thn_exit (DA.thn_exit (DA.inb_same (zT (zS (zR (zV rfl rfl ?_))))))); refine zB rfl rfl (tyrow rfl) rfl ?_; refine zO rfl (Rd.lenSlice (tyrow rfl) rfl rfl) ?_
    by_cases hbig : 30 < p.vars.length
    · 
      refine zO rfl (Rd.gtr rfl rfl) ?_; refine zA rfl ?_
      first | (refine zG ?_; refine zV rfl rfl ?_) | refine zH ?_
      first | (refine zG ?_; refine zB rfl rfl (tyrow rfl) rfl ?_) | refine zH ?_
      first | refine zH ?_
      first | (refine zG ?_; refine zO rfl (Rd.gtr rfl rfl) ?_) | refine zH ?_
      refine zO rfl zP ?_; refine zO rfl Rd.asg ?_; refine zN (zT (XA.ret ?_))
      exact bodyA.ret (ResA.one rfl rfl) (Ent.nil _) ⟨true, rfl, fun h => (by cases h), rfl, rfl⟩
    · 
      refine zO rfl (Rd.gtr rfl rfl) ?_; refine zA rfl ?_
      first | (refine zG ?_; refine zV rfl rfl ?_) | refine zH ?_
      first | (refine zG ?_; refine zB rfl rfl (tyrow rfl) rfl ?_) | refine zH ?_
      first | refine XOA.wanted rfl rfl ?_ | refine XOA.wq rfl rfl ?_
      refine XOA.wr0 rfl (WrA.cE (stmtParts_a σ p.body _ 900 hb (by decide) (by decide)) rfl) ?_
      rintro _ _ _ ⟨_, ⟨r, rfl, ⟨hr0, hr1, hr2⟩, rfl, rfl⟩, rfl⟩
      refine XOA.cl ?_
      first | (refine zG ?_; refine zO rfl (Rd.gtr rfl rfl) ?_) | refine zH ?_
      refine zO rfl zP ?_; refine zO rfl Rd.asg ?_; refine zN (zT (XA.ret ?_))
      refine bodyA.ret (ResA.one rfl rfl) (Ent.nil _) ⟨decide (900 < r), rfl, fun h => ⟨by omega, fun x hx => ?_, ?_⟩, rfl, rfl⟩
      · obtain ⟨j, hj, e⟩ := List.mem_iff_getElem.1 hx
        exact hall j x (by omega) (by rw [List.getElem?_eq_getElem hj, e])
      · have := hr2 (by simpa using h); have : ¬ 900 < r := of_decide_eq_false h; omega
end Go.Proofs.YthefnnkmpcgcmaaDoor

namespace Go.Proofs.YthefnnkmpcgcmaaDoor
open Go X
set_option maxHeartbeats 1000000
end Go.Proofs.YthefnnkmpcgcmaaDoor

namespace Go.Proofs.YthefnnkmpcgcmaaDoor
open Go X
set_option maxHeartbeats 1000000
/-! variables -/
theorem varEq_a (σ : PH) (g : Nat) (v w : Va) : CallsA Tryd.prog 75 #[vav w, ptr g] σ [blk g [.string v.name, i64 v.size] 51] (RetA fun r σ' Γ' => r = .bool (decide (w.name = v.name)) ∧ σ = σ' ∧ Γ' = [blk g [.string v.name, i64 v.size] 51]) := by
  unfold vav
  refine enterA2 Tryd.func75 rfl rfl rfl ?_
  refine zS (zR ?_)
  refine XOA.wr0 rfl WrA.bx ?_
  rintro _ _ _ ⟨g2, rfl, rfl, rfl⟩
  refine zO rfl Rd.asg ?_; refine zN (zT (zS (zR (zV rfl rfl ?_)))); refine zB rfl rfl (tyrow rfl) rfl ?_; refine zV rfl rfl ?_; refine zB rfl rfl (tyrow rfl) rfl ?_; refine zO rfl (Rd.eqls rfl rfl) ?_; refine zO rfl Rd.asg ?_; refine zN (zT (XA.ret ?_))
  exact bodyA.ret (ResA.one rfl rfl) zE ⟨rfl, rfl, rfl⟩
theorem indexVar_a (σ : PH) (g : Nat) (v : Va) (sl : Value) (l : List Va) (hl : PSl 2 rVa σ sl l) : CallsA Tryd.prog 92 #[sl, .func (.func 75) #[] #[ptr g]] σ [blk g [.string v.name, i64 v.size] 51] (RetA fun r σ' Γ' => ∃ k : Int, r = i64 k ∧ (0 ≤ k ↔ ∃ w ∈ l, w.name = v.name) ∧ σ = σ' ∧ Γ' = [blk g [.string v.name, i64 v.size] 51]) := by
  obtain ⟨pl, cl, rfl, hle, hmx⟩ := hl.shape
  have hlen : l.length ≤ maxLen := by omega
  simp only [maxLen] at hlen
  refine enterA2 Tryd.func92 rfl rfl rfl ?_
  refine zS (zR (zO rfl Rd.asg ?_)); refine zN (zT (zS (zS (zR (zA rfl ?_))))); refine zO rfl (Rd.lenSlice (tyrow rfl) rfl rfl) ?_; refine zA rfl ?_; refine zN (zT (XA.block ?_))
  refine XA.gen [(0, _), (1, _), (4, _), (7, _), (8, _)] ⟨(by with_reducible (conv => lhs; whnf)), (by with_reducible (conv => lhs; whnf)), (by with_reducible (conv => lhs; whnf)), (by with_reducible (conv => lhs; whnf)), (by with_reducible (conv => lhs; whnf)), trivial⟩ (fun δ => ?_)
  dsimp only [List.foldl]
  refine XA.loop [(4, 5), (8, 18)] (fun k : Nat => [(8, i64 k)]) (fun k σ' Γ' => σ = σ' ∧ k ≤ l.length ∧ (∀ (j : Nat) w, j < k → l[j]? = some w → w.name ≠ v.name) ∧ Γ' = [blk g [.string v.name, i64 v.size] 51]) (fun k => l.length - k) 0 (by exact ⟨rfl, trivial⟩) (Δ0 := _) ?_ (⟨rfl, Nat.zero_le _, fun j w h => absurd h (Nat.not_lt_zero _), rfl⟩) ?_
  · exact zE
  rintro k δ _ _ ⟨rfl, hk, hall, rfl⟩
  dsimp only [ovr, List.foldl]
  refine zS (zR (zO rfl (Rd.lss rfl rfl) ?_)); refine zN (zT (zS ?_))
  refine XA.condp rfl (fun hlt => ?_) (fun hlt => ?_)
  · have hlt : k < l.length := by omega
    obtain ⟨x', hx'⟩ : ∃ x', l[k]? = some x' := ⟨_, List.getElem?_eq_getElem hlt⟩
    obtain ⟨gg, o, row, rfl, ⟨rfl, -, -⟩, hrl, hrow⟩ := hl.at hx'
    refine XA.skip (zT (zS (XA.block (zS (zR (zA rfl ?_)))))); refine zO rfl Rd.asg ?_; refine zN (zT (zS (zR (zA rfl ?_)))); refine zA rfl ?_; refine zA rfl ?_; refine zO rfl (Rd.ixS rfl rfl) ?_; refine zO rfl (Rd.ldA rfl) ?_
    refine XOA.wr0 rfl (WrA.cV (first := []) (cap := [ptr g]) rfl (varEq_a σ g v x') rfl) ?_
    rintro _ _ _ ⟨_, ⟨rfl, rfl, rfl⟩, rfl⟩
    refine XOA.cl ?_; refine zN (zT ?_)
    refine XA.condp rfl (fun hc => ?_) (fun hc => ?_)
    · refine zS ?_
      refine zR (zA rfl ?_); refine zO rfl Rd.asg ?_; refine zN (zT (XA.ret (DA.inb_ret (DA.thn_ret (DA.thn_ret (DA.inb_ret (DA.thn_ret ?_)))))))
      exact bodyA.ret (ResA.one rfl rfl) zE ⟨(k : Int), rfl, ⟨fun _ => ⟨x', List.mem_of_getElem? hx', hc⟩, fun _ => by omega⟩, rfl, rfl⟩
    · have hnew : ∀ (j : Nat) w, j < k + 1 → l[j]? = some w → w.name ≠ v.name := fun j w hj hw => by
        rcases Nat.lt_or_ge j k with h | h
        · exact hall j w h hw
        · have : j = k := by omega
          subst this
          rw [hx'] at hw; simp only [Option.some.injEq] at hw; subst hw; exact hc
      refine XA.skip (DA.inb_normal (zT (zR (zO rfl zI ?_)))); refine zA rfl ?_; refine zN (zT ?_)
      refine ⟨(Keep.upd (Keep.upd (Keep.updO (Keep.upd (Keep.upd (Keep.upd (Keep.upd (Keep.upd (Keep.upd (Keep.upd (Keep.upd (Keep.upd (Keep.hav (Keep.hav (Keep.refl _ _) rfl) rfl) rfl) rfl) rfl) rfl) rfl) rfl) rfl) rfl) rfl) rfl) rfl) rfl), k + 1, _, zM, ?_, ⟨rfl, hlt, hnew, rfl⟩, (by omega)⟩
      · exact zE
  have hkn : k = l.length := by omega
  subst hkn
  refine XA.exit (DA.thn_exit (DA.thn_exit (DA.inb_same (zT (zS (zR (zO rfl Rd.asg ?_))))))); refine zN (zT (XA.ret ?_))
  refine bodyA.ret (ResA.one rfl rfl) zE ⟨-1, rfl, ⟨fun h => absurd h (by decide), fun ⟨w, hw, e⟩ => ?_⟩, rfl, rfl⟩
  obtain ⟨j, hj, e2⟩ := List.mem_iff_getElem.1 hw
  exact absurd e (hall j w hj (by rw [List.getElem?_eq_getElem hj, e2]))
theorem containsVar_a (σ : PH) (g : Nat) (v : Va) (sl : Value) (l : List Va) (hl : PSl 2 rVa σ sl l) : CallsA Tryd.prog 74 #[sl, .func (.func 75) #[] #[ptr g]] σ [blk g [.string v.name, i64 v.size] 51] (RetA fun r σ' Γ' => r = .bool (decide (∃ w ∈ l, w.name = v.name)) ∧ σ = σ' ∧ Γ' = [blk g [.string v.name, i64 v.size] 51]) := by
  refine enterA2 Tryd.func74 rfl rfl rfl ?_
  refine zS (zR (zO rfl Rd.asg ?_)); refine zN (zT (zS (zR (zA rfl ?_)))); refine zA rfl ?_
  refine XOA.wr0 rfl (WrA.cE (indexVar_a σ g v sl l hl) rfl) ?_
  rintro _ _ _ ⟨_, ⟨k, rfl, hk, rfl, rfl⟩, rfl⟩
  refine XOA.cl ?_; refine zO rfl (Rd.geq rfl rfl) ?_; refine zO rfl Rd.asg ?_; refine zN (zT (XA.ret ?_))
  exact bodyA.ret (ResA.one rfl rfl) zE ⟨congrArg Value.bool (decide_eq_decide.2 hk), rfl, rfl⟩
end Go.Proofs.YthefnnkmpcgcmaaDoor

namespace Go.Proofs.YthefnnkmpcgcmaaDoor
open Go X
set_option maxHeartbeats 1000000
theorem X.PSl.take {α : Type} {s n c k : Nat} {R : RT α} {σ : PH} {p : Option Addr} {xs : List α} (h : PSl s R σ (.slice p n c) xs) (hk : k ≤ n) : PSl s R σ (.slice p k c) (xs.take k) := by
  obtain ⟨p', c', rows, h1, h2, h3, h4, h5, h6, h7⟩ := h
  simp only [Value.slice.injEq] at h1
  obtain ⟨rfl, rfl, rfl⟩ := h1
  have hl : (xs.take k).length = k := by rw [List.length_take]; exact Nat.min_eq_left hk
  refine ⟨p, c, rows.take k, by rw [hl], by omega, h3, by rw [hl, List.length_take]; omega, fun r hr => h5 r (List.mem_of_mem_take hr), fun i row x a b => ?_, fun hp => ?_⟩
  · rw [List.getElem?_take] at a b
    split at a
    · rename_i hi
      rw [if_pos hi] at b
      exact h6 i row x a b
    · cases a
  · obtain ⟨g, o, e, hr⟩ := h7 (by omega)
    refine ⟨g, o, e, ?_⟩
    have := hr.sub (j := 0) (us := (rows.take k).flatten) (by
      have e : rows.flatten = (rows.take k).flatten ++ (rows.drop k).flatten := by rw [← List.flatten_append, List.take_append_drop]
      rw [List.drop_zero, e]
      exact List.take_left)
    simpa using this
theorem drop_get {α : Type} {l : List α} {k : Nat} {x : α} (h : l[k]? = some x) : l.drop k = x :: l.drop (k + 1) := by
  obtain ⟨h1, h2⟩ := List.getElem?_eq_some_iff.1 h
  rw [List.drop_eq_getElem_cons h1, h2]
theorem vars_a (σ : PH) (sl : Value) (l : List Va) (hl : PSl 2 rVa σ sl l) : CallsA Tryd.prog 47 #[sl] σ [] (RetA fun v σ' Γ' => v = i64 (checkVars l) ∧ σ = σ' ∧ Γ' = []) := by
  obtain ⟨pl, cl, rfl, hle, hmx⟩ := hl.shape
  have hlen : l.length ≤ maxLen := by omega
  simp only [maxLen] at hlen
  refine enterA1 Tryd.func47 rfl rfl rfl ?_
  refine zS (zR (zO rfl Rd.asg ?_)); refine zN (zT (zS (zS (zR (zA rfl ?_))))); refine zO rfl (Rd.lenSlice (tyrow rfl) rfl rfl) ?_; refine zO rfl (Rd.gtr rfl rfl) ?_; refine zN (zT ?_)
  refine XA.condp rfl (fun h8 => ?_) (fun h8 => ?_)
  · refine zS ?_
    refine zR (zO rfl Rd.asg ?_); refine zN (zT (XA.ret (DA.thn_ret ?_)))
    have hr : checkVars l = 3 := by rw [checkVars, if_pos (by omega)]
    exact bodyA.ret (ResA.one rfl rfl) zE ⟨by rw [hr], rfl, rfl⟩
  have hcv : checkVars l = varsGo [] 0 l := by rw [checkVars, if_neg (by omega)]
  rw [hcv]
  refine XA.skip (zT (zS (zR (zO rfl Rd.asg ?_)))); refine zN (zT (zS (zS (zR (zA rfl ?_))))); refine zO rfl (Rd.lenSlice (tyrow rfl) rfl rfl) ?_; refine zA rfl ?_; refine zN (zT (XA.block ?_))
  refine XA.gen [(0, _), (2, _), (3, _), (9, _), (10, _), (11, _)] ⟨(by with_reducible (conv => lhs; whnf)), (by with_reducible (conv => lhs; whnf)), (by with_reducible (conv => lhs; whnf)), (by with_reducible (conv => lhs; whnf)), (by with_reducible (conv => lhs; whnf)), (by with_reducible (conv => lhs; whnf)), trivial⟩ (fun δ => ?_)
  dsimp only [List.foldl]
  refine XA.loop [(2, 5), (11, 42)] (fun q : Nat × Int => [(11, i64 q.1), (3, i64 q.2)]) (fun q σ' Γ' => σ = σ' ∧ q.1 ≤ l.length ∧ (0 ≤ q.2 ∧ q.2 ≤ 48 ∧ varsGo (l.take q.1) q.2 (l.drop q.1) = varsGo [] 0 l) ∧ Γ' = []) (fun q => l.length - q.1) (0, 0) (by exact ⟨rfl, rfl, trivial⟩) (Δ0 := _) ?_ (⟨rfl, Nat.zero_le _, ⟨Int.le_refl _, (by decide), rfl⟩, rfl⟩) ?_
  · exact zE
  rintro ⟨k, n⟩ δ _ _ ⟨rfl, hk, ⟨hn0, hn1, hgo⟩, rfl⟩
  dsimp only [ovr, List.foldl]
  have hk : k ≤ l.length := hk
  have hn0 : 0 ≤ n := hn0
  have hn1 : n ≤ 48 := hn1
  have hgo : varsGo (l.take k) n (l.drop k) = varsGo [] 0 l := hgo
  refine zS (zR (zO rfl (Rd.lss rfl rfl) ?_)); refine zN (zT (zS ?_))
  refine XA.condp rfl (fun hlt => ?_) (fun hlt => ?_)
  · have hlt : k < l.length := by omega
    obtain ⟨x, hx⟩ : ∃ x, l[k]? = some x := ⟨_, List.getElem?_eq_getElem hlt⟩
    obtain ⟨gg, o, row, rfl, ⟨rfl, ⟨hz0, hz1⟩, hnm⟩, hrl, hrow⟩ := hl.at hx
    have hpre := hl.take (k := k) hk
    rw [drop_get hx, varsGo] at hgo
    refine XA.skip (zT (zS (XA.block (zS (zR (zA rfl ?_)))))); refine zO rfl (Rd.ixS rfl rfl) ?_; refine zO rfl (Rd.ldA rfl) ?_
    refine XOA.wr0 rfl (WrA.alloc (tyrow rfl)) ?_
    rintro _ _ _ ⟨g5, rfl, rfl, rfl⟩
    refine zO rfl Rd.asg ?_
    refine XOA.wr0 rfl (WrA.st (tyrow rfl) rfl) ?_
    rintro _ _ _ ⟨rfl, rfl, rfl⟩
    refine zN (zT (zS (XA.block (zS (zR (zV rfl rfl ?_)))))); refine zB rfl rfl (tyrow rfl) rfl ?_
    refine XOA.wr0 rfl (WrA.cE (name_a σ x.name hnm) rfl) ?_
    rintro _ _ _ ⟨_, ⟨rfl, rfl, rfl⟩, rfl⟩
    refine XOA.cl ?_
    cases hnk : nameOk x.name with
    | false =>
      rw [if_pos hnk] at hgo
      refine zO rfl zJ ?_; refine zO rfl Rd.asg ?_; refine zN (zT (XA.condT rfl rfl (zS (zR (zO rfl Rd.asg ?_))))); refine zN (zT (XA.ret (DA.inb_ret (DA.thn_ret (DA.inb_ret (DA.thn_ret (DA.thn_ret (DA.inb_ret (DA.thn_ret ?_)))))))))
      exact bodyA.ret (ResA.one rfl rfl) zE ⟨by rw [← hgo], rfl, rfl⟩
    | true =>
      rw [if_neg (by simp [hnk])] at hgo
      refine zO rfl zJ ?_; refine zO rfl Rd.asg ?_; refine zN (zT (XA.condF rfl rfl (zS (zR (zA rfl ?_))))); refine zA rfl ?_; refine zO rfl (Rd.sliceToN (tyrow rfl) rfl (tyrow rfl) rfl rfl (by omega)) ?_
      refine zO rfl (Rd.makeFunc1 (by with_reducible (conv => lhs; whnf))) ?_
      refine XOA.wr0 rfl (WrA.cE (containsVar_a σ g5 x _ _ hpre) rfl) ?_
      rintro _ _ _ ⟨_, ⟨rfl, rfl, rfl⟩, rfl⟩
      refine XOA.cl ?_; refine zO rfl Rd.asg ?_; refine zN (zT ?_)
      refine XA.condp rfl (fun htw => ?_) (fun htw => ?_)
      · rw [if_pos htw] at hgo
        refine zS (zR (zO rfl Rd.asg ?_)); refine zN (zT (XA.ret (DA.inb_ret (DA.thn_ret (DA.inb_ret (DA.thn_ret (DA.thn_ret (DA.inb_ret (DA.thn_ret ?_)))))))))
        exact bodyA.ret (ResA.one rfl rfl) zE ⟨by rw [← hgo], rfl, rfl⟩
      rw [if_neg htw] at hgo
      by_cases hz : x.size < 1
      · rw [if_pos (.inl hz)] at hgo
        refine zS (zR (zV rfl rfl ?_)); refine zB rfl rfl (tyrow rfl) rfl ?_; refine zO rfl (Rd.lss rfl rfl) ?_; refine zA rfl ?_
        first | (refine zG ?_; refine zV rfl rfl ?_) | refine zH ?_
        first | (refine zG ?_; refine zB rfl rfl (tyrow rfl) rfl ?_) | refine zH ?_
        first | (refine zG ?_; refine zA rfl ?_) | refine zH ?_
        first | (refine zG ?_; refine zO rfl (by first | exact Rd.sbi rfl rfl | exact Rd.sub rfl rfl) ?_) | refine zH ?_
        first | (refine zG ?_; refine zO rfl (Rd.gtr rfl rfl) ?_) | refine zH ?_
        refine zO rfl zP ?_; refine zO rfl Rd.asg ?_; refine zN (zT (XA.condT rfl rfl (zS (zR (zO rfl Rd.asg ?_))))); refine zN (zT (XA.ret (DA.inb_ret (DA.thn_ret (DA.inb_ret (DA.thn_ret (DA.thn_ret (DA.inb_ret (DA.thn_ret ?_)))))))))
        exact bodyA.ret (ResA.one rfl rfl) zE ⟨by rw [← hgo], rfl, rfl⟩
      · 
        refine zS (zR (zV rfl rfl ?_)); refine zB rfl rfl (tyrow rfl) rfl ?_; refine zO rfl (Rd.lss rfl rfl) ?_; refine zA rfl ?_
        first | (refine zG ?_; refine zV rfl rfl ?_) | refine zH ?_
        first | (refine zG ?_; refine zB rfl rfl (tyrow rfl) rfl ?_) | refine zH ?_
        first | (refine zG ?_; refine zA rfl ?_) | refine zH ?_
        first | (refine zG ?_; refine zO rfl (by first | exact Rd.sbi rfl rfl | exact Rd.sub rfl rfl) ?_) | refine zH ?_
        first | (refine zG ?_; refine zO rfl (Rd.gtr rfl rfl) ?_) | refine zH ?_
        refine zO rfl zP ?_; refine zO rfl Rd.asg ?_; refine zN (zT ?_)
        refine XA.condp rfl (fun hz2 => ?_) (fun hz2 => ?_)
        · rw [if_pos (.inr hz2)] at hgo
          refine zS (zR (zO rfl Rd.asg ?_)); refine zN (zT (XA.ret (DA.inb_ret (DA.thn_ret (DA.inb_ret (DA.thn_ret (DA.thn_ret (DA.inb_ret (DA.thn_ret ?_)))))))))
          exact bodyA.ret (ResA.one rfl rfl) zE ⟨by rw [← hgo], rfl, rfl⟩
        rw [if_neg (by omega)] at hgo
        refine XA.skip (DA.inb_normal (zT (zR (zA rfl ?_)))); refine zV rfl rfl ?_; refine zB rfl rfl (tyrow rfl) rfl ?_; refine zO rfl zI ?_; refine zO rfl Rd.asg ?_; refine zN (DA.inb_normal (zT (zR (zO rfl zI ?_)))); refine zA rfl ?_; refine zN (zT ?_)
        refine ⟨(Keep.upd (Keep.upd (Keep.upd (Keep.upd (Keep.upd (Keep.upd (Keep.upd (Keep.upd (Keep.upd (Keep.upd (Keep.upd (Keep.upd (Keep.upd (Keep.upd (Keep.upd (Keep.upd (Keep.upd (Keep.upd (Keep.upd (Keep.updO (Keep.upd (Keep.upd (Keep.upd (Keep.upd (Keep.upd (Keep.upd (Keep.updO (Keep.upd (Keep.upd (Keep.updN (Keep.upd (Keep.updO (Keep.upd (Keep.upd (Keep.upd (Keep.upd (Keep.upd (Keep.upd (Keep.hav (Keep.hav (Keep.refl _ _) rfl) rfl) rfl) rfl) rfl) rfl) rfl) rfl) rfl) rfl)) rfl) rfl) rfl) rfl) rfl) rfl) rfl) rfl) rfl) rfl) rfl) rfl) rfl) rfl) rfl) rfl) rfl) rfl) rfl) rfl) rfl) rfl) rfl) rfl) rfl) rfl) rfl) rfl) rfl), (k + 1, n + x.size), _, zM, ?_, ⟨rfl, hlt, ⟨by simp only; omega, by simp only; omega, by rw [takeS hx]; exact hgo⟩, rfl⟩, (by simp only; omega)⟩
        · exact zE
  have hkn : k = l.length := by omega
  subst hkn
  rw [List.drop_length, varsGo] at hgo
  refine XA.exit (DA.thn_exit (DA.thn_exit (DA.inb_same (zT (zS (zR (zO rfl Rd.asg ?_))))))); refine zN (zT (XA.ret ?_))
  exact bodyA.ret (ResA.one rfl rfl) zE ⟨by rw [← hgo], rfl, rfl⟩
theorem check_a (σ : PH) (cs : List Value) (p : Pr) (hp : PrAt σ cs p) : CallsA Tryd.prog 25 #[.agg cs.toArray] σ [] (RetA fun v σ' Γ' => v = i64 (checkP p) ∧ σ = σ' ∧ Γ' = []) := by
  obtain ⟨vs, bs, rfl, hv, hb⟩ := hp
  obtain ⟨pv, cv, rfl, hvl, hvm⟩ := hv.shape
  refine enterA1 Tryd.func25 rfl rfl rfl ?_
  refine zS (zR ?_)
  refine XOA.wr0 rfl WrA.bx ?_
  rintro _ _ _ ⟨g1, rfl, rfl, rfl⟩
  refine zO rfl Rd.asg ?_; refine zN (zT (zS (zS (zR (zV rfl rfl ?_))))); refine zB rfl rfl (tyrow rfl) rfl ?_
  refine XOA.wr0 rfl (WrA.cE (vars_a σ _ _ hv) rfl) ?_
  rintro _ _ _ ⟨_, ⟨rfl, rfl, rfl⟩, rfl⟩
  refine XOA.cl ?_; refine zO rfl Rd.asg ?_; refine zN (zT (zS (zR (zA rfl ?_)))); refine zO rfl (Rd.neq rfl rfl) ?_; refine zN (zT ?_)
  refine XA.condp rfl (fun hc => ?_) (fun hc => ?_)
  · refine zS ?_
    refine zR (zA rfl ?_); refine zO rfl Rd.asg ?_; refine zN (zT (XA.ret (DA.thn_ret ?_)))
    exact bodyA.ret (ResA.one rfl rfl) zE ⟨by rw [checkP, if_pos hc], rfl, rfl⟩
  refine XA.skip (zT (zS (zR (zV rfl rfl ?_)))); refine zB rfl rfl (tyrow rfl) rfl ?_
  refine zO rfl (Rd.bl (fun _ _ => tyrow) rfl rfl rfl) ?_
  refine XOA.wr0 rfl WrA.bx ?_
  rintro _ _ _ ⟨g14, rfl, rfl, rfl⟩
  refine zO rfl Rd.asg ?_; refine zN (zT (zS (zR (zA rfl ?_)))); refine zV rfl rfl ?_; refine zB rfl rfl (tyrow rfl) rfl ?_
  refine XOA.ent (Ent.foldC (Θ := [_]) zD (Judge.mkO (l := 150)) (Ent.refl _)) ?_
  refine XOA.wr0 rfl (WrA.cE (list_a σ p.body (fun x _ => stmt_a σ x) bs g14 pv p.vars.length cv (.ok 150) 0 hb (fun l hl => by simp only [Except.ok.injEq] at hl; omega) (by decide) (by decide)) rfl) ?_
  rintro _ _ _ ⟨_, ⟨rfl, rfl, rfl⟩, rfl⟩
  refine XOA.cl ?_
  have hcp : checkP p = (stsE p.vars.length 0 p.body (.ok 150)).code := by rw [checkP, if_neg hc]
  rw [hcp]
  refine zN (zT (zS (zR (zA rfl ?_))))
  cases hst : stsE p.vars.length 0 p.body (.ok 150) with
  | ok a =>
    first | refine XA.opn (R := Judge g14 _ (.ok a)) zL (Judge.okO) ?_ | refine XOA.opn (R := Judge g14 _ (.ok a)) zL (Judge.okO) ?_ | refine DA.opn (R := Judge g14 _ (.ok a)) zL (Judge.okO) ?_
    rintro ⟨⟩ -
    first | refine XA.cl ?_ | refine XOA.cl ?_ | refine DA.cl ?_
    refine zO rfl (Rd.nilCheck rfl) ?_; refine zV rfl rfl ?_; refine zB rfl rfl (tyrow rfl) rfl ?_; refine zO rfl Rd.asg ?_; refine zN (zT (XA.ret ?_))
    exact bodyA.ret (ResA.one rfl rfl) (Ent.nil _) ⟨rfl, rfl, rfl⟩
  | error c =>
    first | refine XA.opn (R := Judge g14 _ (.error c)) zL (Judge.errO) ?_ | refine XOA.opn (R := Judge g14 _ (.error c)) zL (Judge.errO) ?_ | refine DA.opn (R := Judge g14 _ (.error c)) zL (Judge.errO) ?_
    rintro l h0
    first | refine XA.cl ?_ | refine XOA.cl ?_ | refine DA.cl ?_
    refine zO rfl (Rd.nilCheck rfl) ?_; refine zV rfl rfl ?_; refine zB rfl rfl (tyrow rfl) rfl ?_; refine zO rfl Rd.asg ?_; refine zN (zT (XA.ret ?_))
    exact bodyA.ret (ResA.one rfl rfl) (Ent.nil _) ⟨rfl, rfl, rfl⟩
end Go.Proofs.YthefnnkmpcgcmaaDoor

namespace Go.Proofs.YthefnnkmpcgcmaaDoor
open Go X
set_option maxHeartbeats 1000000
theorem take_eq_succ {α : Type} {l m : List α} {k : Nat} {x y : α} (hx : l[k]? = some x) (hy : m[k]? = some y) (h : l.take k = m.take k) (e : x = y) : l.take (k + 1) = m.take (k + 1) := by rw [takeS hx, takeS hy, h, e]
end Go.Proofs.YthefnnkmpcgcmaaDoor

namespace Go.Proofs.YthefnnkmpcgcmaaDoor
open Go X
set_option maxHeartbeats 1000000
end Go.Proofs.YthefnnkmpcgcmaaDoor

namespace Go.Proofs.YthefnnkmpcgcmaaDoor
open Go X
set_option maxHeartbeats 1000000
end Go.Proofs.YthefnnkmpcgcmaaDoor

namespace Go.Proofs.YthefnnkmpcgcmaaDoor
open Go X
set_option maxHeartbeats 1000000
end Go.Proofs.YthefnnkmpcgcmaaDoor

namespace Go.Proofs.YthefnnkmpcgcmaaDoor
open Go X
set_option maxHeartbeats 1000000
end Go.Proofs.YthefnnkmpcgcmaaDoor

namespace Go.Proofs.YthefnnkmpcgcmaaDoor
open Go X
set_option maxHeartbeats 1000000
def RSameExOK (σ : PH) (x : Ex) : Prop := ∀ (cs cs' : List Value) (y : Ex), ExAt σ cs x → ExAt σ cs' y →
  CallsA Tryd.prog 58 #[.agg cs.toArray, .agg cs'.toArray] σ [] (RetA fun v σ' Γ' => ∃ b : Bool, v = .bool b ∧ (b = true ↔ x = y) ∧ σ = σ' ∧ Γ' = [])
theorem rsameExpr_a (σ : PH) (x : Ex) : RSameExOK σ x := by
  refine Ex.ind (P := RSameExOK σ) ?_ x
  intro op v k l ih cs cs' y hx hy
  obtain ⟨pl, cl, rfl, -, -, -, hl⟩ := hx.inv
  obtain ⟨pm, cm, rfl, -, -, -, hm⟩ := hy.inv
  simp only [Ex.op, Ex.v, Ex.n, Ex.l] at hl ⊢
  clear hx hy
  obtain ⟨op', v', k', m⟩ := y
  simp only [Ex.op, Ex.v, Ex.n, Ex.l] at hm ⊢
  have hlen : l.length ≤ maxLen := by
    obtain ⟨q, d, e1, h1, h2⟩ := hl.shape
    omega
  simp only [maxLen] at hlen
  have hno : ∀ (q : Prop), (Ex.mk op v k l = Ex.mk op' v' k' m → q) → ¬ q → (false = true ↔ Ex.mk op v k l = Ex.mk op' v' k' m) := fun q h1 h2 => ⟨fun h => (by cases h), fun h => absurd (h1 h) h2⟩
  by_cases h1 : op = op'
  · by_cases h2 : v = v'
    · by_cases h3 : k = k'
      · 
        refine enterA2 Tryd.func58 rfl rfl rfl ?_
        refine zS (zR ?_)
        refine XOA.wr0 rfl WrA.bx ?_
        rintro _ _ _ ⟨g2, rfl, rfl, rfl⟩
        refine XOA.wr0 rfl WrA.bx ?_
        rintro _ _ _ ⟨g3, rfl, rfl, rfl⟩
        refine zO rfl Rd.asg ?_; refine zN (zT (zS (zS (zR (zV rfl rfl ?_))))); refine zB rfl rfl (tyrow rfl) rfl ?_; refine zV rfl rfl ?_; refine zB rfl rfl (tyrow rfl) rfl ?_; refine zO rfl (Rd.neq rfl rfl) ?_; refine zA rfl ?_
        first | (refine zG ?_; refine zV rfl rfl ?_) | refine zH ?_
        first | (refine zG ?_; refine zB rfl rfl (tyrow rfl) rfl ?_) | refine zH ?_
        first | (refine zG ?_; refine zV rfl rfl ?_) | refine zH ?_
        first | (refine zG ?_; refine zB rfl rfl (tyrow rfl) rfl ?_) | refine zH ?_
        first | (refine zG ?_; refine zO rfl (Rd.neq rfl rfl) ?_) | refine zH ?_
        refine zO rfl zP ?_; refine zA rfl ?_
        first | (refine zG ?_; refine zV rfl rfl ?_) | refine zH ?_
        first | (refine zG ?_; refine zB rfl rfl (tyrow rfl) rfl ?_) | refine zH ?_
        first | (refine zG ?_; refine zV rfl rfl ?_) | refine zH ?_
        first | (refine zG ?_; refine zB rfl rfl (tyrow rfl) rfl ?_) | refine zH ?_
        first | (refine zG ?_; refine zO rfl (Rd.neq rfl rfl) ?_) | refine zH ?_
        refine zO rfl zP ?_; refine zA rfl ?_
        first | (refine zG ?_; refine zV rfl rfl ?_) | refine zH ?_
        first | (refine zG ?_; refine zB rfl rfl (tyrow rfl) rfl ?_) | refine zH ?_
        first | (refine zG ?_; refine zO rfl (Rd.lenSlice (tyrow rfl) rfl rfl) ?_) | refine zH ?_
        first | (refine zG ?_; refine zV rfl rfl ?_) | refine zH ?_
        first | (refine zG ?_; refine zB rfl rfl (tyrow rfl) rfl ?_) | refine zH ?_
        first | (refine zG ?_; refine zO rfl (Rd.lenSlice (tyrow rfl) rfl rfl) ?_) | refine zH ?_
        first | (refine zG ?_; refine zO rfl (Rd.neq rfl rfl) ?_) | refine zH ?_
        refine zO rfl zP ?_; refine zN (zT ?_)
        refine XA.condp rfl (fun hne => ?_) (fun hne => ?_)
        · refine zS ?_
          refine zR (zO rfl Rd.asg ?_); refine zN (zT (XA.ret (DA.thn_ret ?_)))
          exact bodyA.ret (ResA.one rfl rfl) (Ent.nil _) ⟨false, rfl, hno _ (fun h => by injection h) (fun e : l = m => hne (by rw [e])), rfl, rfl⟩
        have hlm : l.length = m.length := by omega
        refine XA.skip (zT (zS (zS (zR (zO rfl Rd.asg ?_))))); refine zN (zT (XA.block ?_))
        refine XA.gen [(2, _), (3, _), (4, _), (5, _)] ⟨(by with_reducible (conv => lhs; whnf)), (by with_reducible (conv => lhs; whnf)), (by with_reducible (conv => lhs; whnf)), (by with_reducible (conv => lhs; whnf)), trivial⟩ (fun δ => ?_)
        dsimp only [List.foldl]
        refine XA.loop [(4, 5), (34, 52)] (fun q : Nat => [(5, i64 q)]) (fun q σ' Γ' => σ = σ' ∧ q ≤ l.length ∧ l.take q = m.take q ∧ Γ' = [blk g2 [i64 op, i64 v, i64 k, .slice pl l.length cl] 54, blk g3 [i64 op', i64 v', i64 k', .slice pm m.length cm] 54]) (fun q => l.length - q) 0 (by exact ⟨rfl, trivial⟩) (Δ0 := _) ?_ (⟨rfl, Nat.zero_le _, rfl, rfl⟩) ?_
        · exact zE
        rintro q δ _ _ ⟨rfl, hq, htk, rfl⟩
        dsimp only [ovr, List.foldl]
        refine zS (zS (zR (zA rfl ?_))); refine zV rfl rfl ?_; refine zB rfl rfl (tyrow rfl) rfl ?_; refine zO rfl (Rd.lenSlice (tyrow rfl) rfl rfl) ?_; refine zO rfl (Rd.lss rfl rfl) ?_; refine zN (zT ?_)
        refine XA.condp rfl (fun hlt => ?_) (fun hlt => ?_)
        · have hlt : q < l.length := by omega
          obtain ⟨x', hx'⟩ : ∃ x, l[q]? = some x := ⟨_, List.getElem?_eq_getElem hlt⟩
          obtain ⟨y', hy'⟩ : ∃ y, m[q]? = some y := ⟨_, List.getElem?_eq_getElem (by omega)⟩
          obtain ⟨g, o, row, rfl, hrx, hrl, hrow⟩ := hl.at hx'
          obtain ⟨g', o', row', rfl, hry, hrl', hrow'⟩ := hm.at hy'
          refine XA.skip (zT (zS (XA.block (zS ?_))))
          refine XA.draw (by kernel_rfl) _ _ [10] [(0, .pu), (1, .rd), (2, .pu), (3, .pu), (4, .rd), (5, .pu), (6, .rd), (7, .pu), (8, .pu), (9, .rd), (10, .wr), (11, .pu)] (by kernel_rfl) (PH.sub.refl _) (Ent.sel (R := blk g2 _ _) zL (Ent.sel (R := blk g3 _ _) zL (Ent.nil _))) ?_
          refine XPA.pu rfl rfl Gd.free (Rd.fA rfl) ?_; refine XPA.rd rfl rfl Gd.free (Rd.ldC rfl (tyrow rfl) rfl) ?_; refine XPA.pu rfl rfl Gd.free Rd.mv ?_; refine XPA.pu rfl rfl Gd.free (Rd.ixS rfl rfl) ?_; refine XPA.rd rfl rfl Gd.free (Rd.ldA rfl) ?_; refine XPA.pu rfl rfl Gd.free (Rd.fA rfl) ?_
          refine XPA.rd rfl rfl Gd.free (Rd.ldC rfl (tyrow rfl) rfl) ?_; refine XPA.pu rfl rfl Gd.free Rd.mv ?_; refine XPA.pu rfl rfl Gd.free (Rd.ixS rfl rfl) ?_; refine XPA.rd rfl rfl Gd.free (Rd.ldA rfl) ?_
          refine XPA.wrZ0 rfl rfl Gd.free (by kernel_rfl) (WrA.cE (ih x' (List.mem_of_getElem? hx') row row' y' hrx hry) rfl) ?_
          rintro _ _ _ ⟨_, ⟨b, rfl, hb, rfl, rfl⟩, rfl⟩
          refine XPA.cl ?_
          cases b with
          | false =>
            refine XPA.pu rfl rfl Gd.free zJ ?_; refine XPA.nil ?_; refine zT (XA.condT rfl rfl (zS (zR (zO rfl Rd.asg ?_)))); refine zN (zT (XA.ret (DA.inb_ret (DA.thn_ret (DA.thn_ret (DA.inb_ret (DA.thn_ret ?_)))))))
            refine bodyA.ret (ResA.one rfl rfl) (Ent.nil _) ⟨false, rfl, hno (l = m) (fun h => by injection h) (fun h => ?_), rfl, rfl⟩
            subst h
            rw [hx'] at hy'; simp only [Option.some.injEq] at hy'
            exact absurd (hb.2 hy') (by decide)
          | true =>
            have hxy := hb.1 rfl
            refine XPA.pu rfl rfl Gd.free zJ ?_; refine XPA.nil ?_; refine zT (XA.condF rfl rfl (XA.skip (DA.inb_normal (zT (zR (zA rfl ?_)))))); refine zO rfl zI ?_; refine zO rfl Rd.asg ?_; refine zN (zT ?_)
            refine ⟨(Keep.upd (Keep.upd (Keep.upd (Keep.upd (Keep.updO (Keep.upd (Keep.upd (Keep.upd (Keep.upd (Keep.upd (Keep.upd (Keep.upd (Keep.upd (Keep.upd (Keep.upd (Keep.upd (Keep.upd (Keep.upd (Keep.upd (Keep.upd (Keep.upd (Keep.hav (Keep.hav (Keep.refl _ _) rfl) rfl) rfl) rfl) rfl) rfl) rfl) rfl) rfl) rfl) rfl) rfl) rfl) rfl) rfl) rfl) rfl) rfl) rfl) rfl) rfl) rfl) rfl), q + 1, _, zM, ?_, ⟨rfl, hlt, take_eq_succ hx' hy' htk hxy, rfl⟩, (by omega)⟩
            · exact zE
        have hqn : q = l.length := by omega
        subst hqn
        rw [List.take_length, hlm, List.take_length] at htk
        refine XA.exit (DA.thn_exit (DA.thn_exit (DA.inb_same (zT (zS (zR (zO rfl Rd.asg ?_))))))); refine zN (zT (XA.ret ?_))
        exact bodyA.ret (ResA.one rfl rfl) (Ent.nil _) ⟨true, rfl, ⟨fun _ => by rw [h1, h2, h3, htk], fun _ => rfl⟩, rfl, rfl⟩
      · 
        refine enterA2 Tryd.func58 rfl rfl rfl ?_
        refine zS (zR ?_)
        refine XOA.wr0 rfl WrA.bx ?_
        rintro _ _ _ ⟨g2, rfl, rfl, rfl⟩
        refine XOA.wr0 rfl WrA.bx ?_
        rintro _ _ _ ⟨g3, rfl, rfl, rfl⟩
        refine zO rfl Rd.asg ?_; refine zN (zT (zS (zS (zR (zV rfl rfl ?_))))); refine zB rfl rfl (tyrow rfl) rfl ?_; refine zV rfl rfl ?_; refine zB rfl rfl (tyrow rfl) rfl ?_; refine zO rfl (Rd.neq rfl rfl) ?_; refine zA rfl ?_
        first | (refine zG ?_; refine zV rfl rfl ?_) | refine zH ?_
        first | (refine zG ?_; refine zB rfl rfl (tyrow rfl) rfl ?_) | refine zH ?_
        first | (refine zG ?_; refine zV rfl rfl ?_) | refine zH ?_
        first | (refine zG ?_; refine zB rfl rfl (tyrow rfl) rfl ?_) | refine zH ?_
        first | (refine zG ?_; refine zO rfl (Rd.neq rfl rfl) ?_) | refine zH ?_
        refine zO rfl zP ?_; refine zA rfl ?_
        first | (refine zG ?_; refine zV rfl rfl ?_) | refine zH ?_
        first | (refine zG ?_; refine zB rfl rfl (tyrow rfl) rfl ?_) | refine zH ?_
        first | (refine zG ?_; refine zV rfl rfl ?_) | refine zH ?_
        first | (refine zG ?_; refine zB rfl rfl (tyrow rfl) rfl ?_) | refine zH ?_
        first | (refine zG ?_; refine zO rfl (Rd.neq rfl rfl) ?_) | refine zH ?_
        refine zO rfl zP ?_; refine zA rfl ?_
        first | (refine zG ?_; refine zV rfl rfl ?_) | refine zH ?_
        first | (refine zG ?_; refine zB rfl rfl (tyrow rfl) rfl ?_) | refine zH ?_
        first | (refine zG ?_; refine zO rfl (Rd.lenSlice (tyrow rfl) rfl rfl) ?_) | refine zH ?_
        first | (refine zG ?_; refine zV rfl rfl ?_) | refine zH ?_
        first | (refine zG ?_; refine zB rfl rfl (tyrow rfl) rfl ?_) | refine zH ?_
        first | (refine zG ?_; refine zO rfl (Rd.lenSlice (tyrow rfl) rfl rfl) ?_) | refine zH ?_
        first | (refine zG ?_; refine zO rfl (Rd.neq rfl rfl) ?_) | refine zH ?_
        refine zO rfl zP ?_; refine zN (zT (XA.condT rfl zY ?_)); refine zS (zR (zO rfl Rd.asg ?_)); refine zN (zT (XA.ret (DA.thn_ret ?_)))
        exact bodyA.ret (ResA.one rfl rfl) (Ent.nil _) ⟨false, rfl, hno _ (fun h => by injection h) h3, rfl, rfl⟩
    · 
      refine enterA2 Tryd.func58 rfl rfl rfl ?_
      refine zS (zR ?_)
      refine XOA.wr0 rfl WrA.bx ?_
      rintro _ _ _ ⟨g2, rfl, rfl, rfl⟩
      refine XOA.wr0 rfl WrA.bx ?_
      rintro _ _ _ ⟨g3, rfl, rfl, rfl⟩
      refine zO rfl Rd.asg ?_; refine zN (zT (zS (zS (zR (zV rfl rfl ?_))))); refine zB rfl rfl (tyrow rfl) rfl ?_; refine zV rfl rfl ?_; refine zB rfl rfl (tyrow rfl) rfl ?_; refine zO rfl (Rd.neq rfl rfl) ?_; refine zA rfl ?_
      first | (refine zG ?_; refine zV rfl rfl ?_) | refine zH ?_
      first | (refine zG ?_; refine zB rfl rfl (tyrow rfl) rfl ?_) | refine zH ?_
      first | (refine zG ?_; refine zV rfl rfl ?_) | refine zH ?_
      first | (refine zG ?_; refine zB rfl rfl (tyrow rfl) rfl ?_) | refine zH ?_
      first | (refine zG ?_; refine zO rfl (Rd.neq rfl rfl) ?_) | refine zH ?_
      refine zO rfl zP ?_; refine zA rfl ?_
      first | (refine zG ?_; refine zV rfl rfl ?_) | refine zH ?_
      first | (refine zG ?_; refine zB rfl rfl (tyrow rfl) rfl ?_) | refine zH ?_
      first | (refine zG ?_; refine zV rfl rfl ?_) | refine zH ?_
      first | (refine zG ?_; refine zB rfl rfl (tyrow rfl) rfl ?_) | refine zH ?_
      first | (refine zG ?_; refine zO rfl (Rd.neq rfl rfl) ?_) | refine zH ?_
      refine zO rfl zP ?_; refine zA rfl ?_
      first | (refine zG ?_; refine zV rfl rfl ?_) | refine zH ?_
      first | (refine zG ?_; refine zB rfl rfl (tyrow rfl) rfl ?_) | refine zH ?_
      first | (refine zG ?_; refine zO rfl (Rd.lenSlice (tyrow rfl) rfl rfl) ?_) | refine zH ?_
      first | (refine zG ?_; refine zV rfl rfl ?_) | refine zH ?_
      first | (refine zG ?_; refine zB rfl rfl (tyrow rfl) rfl ?_) | refine zH ?_
      first | (refine zG ?_; refine zO rfl (Rd.lenSlice (tyrow rfl) rfl rfl) ?_) | refine zH ?_
      first | (refine zG ?_; refine zO rfl (Rd.neq rfl rfl) ?_) | refine zH ?_
      refine zO rfl zP ?_; refine zN (zT (XA.condT rfl zY ?_)); refine zS (zR (zO rfl Rd.asg ?_)); refine zN (zT (XA.ret (DA.thn_ret ?_)))
      exact bodyA.ret (ResA.one rfl rfl) (Ent.nil _) ⟨false, rfl, hno _ (fun h => by injection h) h2, rfl, rfl⟩
  · 
    refine enterA2 Tryd.func58 rfl rfl rfl ?_
    refine zS (zR ?_)
    refine XOA.wr0 rfl WrA.bx ?_
    rintro _ _ _ ⟨g2, rfl, rfl, rfl⟩
    refine XOA.wr0 rfl WrA.bx ?_
    rintro _ _ _ ⟨g3, rfl, rfl, rfl⟩
    refine zO rfl Rd.asg ?_; refine zN (zT (zS (zS (zR (zV rfl rfl ?_))))); refine zB rfl rfl (tyrow rfl) rfl ?_; refine zV rfl rfl ?_; refine zB rfl rfl (tyrow rfl) rfl ?_; refine zO rfl (Rd.neq rfl rfl) ?_; refine zA rfl ?_
    first | (refine zG ?_; refine zV rfl rfl ?_) | refine zH ?_
    first | (refine zG ?_; refine zB rfl rfl (tyrow rfl) rfl ?_) | refine zH ?_
    first | (refine zG ?_; refine zV rfl rfl ?_) | refine zH ?_
    first | (refine zG ?_; refine zB rfl rfl (tyrow rfl) rfl ?_) | refine zH ?_
    first | (refine zG ?_; refine zO rfl (Rd.neq rfl rfl) ?_) | refine zH ?_
    refine zO rfl zP ?_; refine zA rfl ?_
    first | (refine zG ?_; refine zV rfl rfl ?_) | refine zH ?_
    first | (refine zG ?_; refine zB rfl rfl (tyrow rfl) rfl ?_) | refine zH ?_
    first | (refine zG ?_; refine zV rfl rfl ?_) | refine zH ?_
    first | (refine zG ?_; refine zB rfl rfl (tyrow rfl) rfl ?_) | refine zH ?_
    first | (refine zG ?_; refine zO rfl (Rd.neq rfl rfl) ?_) | refine zH ?_
    refine zO rfl zP ?_; refine zA rfl ?_
    first | (refine zG ?_; refine zV rfl rfl ?_) | refine zH ?_
    first | (refine zG ?_; refine zB rfl rfl (tyrow rfl) rfl ?_) | refine zH ?_
    first | (refine zG ?_; refine zO rfl (Rd.lenSlice (tyrow rfl) rfl rfl) ?_) | refine zH ?_
    first | (refine zG ?_; refine zV rfl rfl ?_) | refine zH ?_
    first | (refine zG ?_; refine zB rfl rfl (tyrow rfl) rfl ?_) | refine zH ?_
    first | (refine zG ?_; refine zO rfl (Rd.lenSlice (tyrow rfl) rfl rfl) ?_) | refine zH ?_
    first | (refine zG ?_; refine zO rfl (Rd.neq rfl rfl) ?_) | refine zH ?_
    refine zO rfl zP ?_; refine zN (zT (XA.condT rfl zY ?_)); refine zS (zR (zO rfl Rd.asg ?_)); refine zN (zT (XA.ret (DA.thn_ret ?_)))
    exact bodyA.ret (ResA.one rfl rfl) (Ent.nil _) ⟨false, rfl, hno _ (fun h => by injection h) h1, rfl, rfl⟩
end Go.Proofs.YthefnnkmpcgcmaaDoor

namespace Go.Proofs.YthefnnkmpcgcmaaDoor
namespace X
open Go
section
variable {P : Program} {N : Nat} {ρ : Env} {σ : PH} {Γ : List HP} {K : KA}
end
/-! a closure that recovers -/
section
variable {P : Program}
/-! a tail in which, at a panic, the frame is known -/
section
variable {N : Nat} {ρ : Env} {h : Heap} {K : Kont}
end
section
variable {N : Nat} {ρ : Env} {σ : PH} {Γ : List HP} {K : KA} {all : Array Oper} {rest : List Oper} {d : Nat} {ty : TypeId} {pos : String} {af : Array Edge}
end
/-! a function that defers a closure -/
/-! the same over what is owned -/
section
variable {fn : Func} {ρ : Env} {σ : PH} {Γ : List HP} {RR : Ending → PH → List HP → Prop}
end
end
end X
end Go.Proofs.YthefnnkmpcgcmaaDoor

namespace Go.Proofs
open Go.Shelf
def Tryd.laysM173_ren : Go.Shelf.Ren := ⟨fun | 173 => 62 | 246 => 78 | 283 => 99 | 284 => 100 | 285 => 101 | 286 => 102 | 129 => 110 | 317 => 109 | 318 => 111 | 319 => 112 | 320 => 113 | 337 => 118 | 338 => 119 | n => n, fun | 2 => 2 | 3 => 3 | 9 => 9 | 4 => 4 | 171 => 135 | 0 => 0 | 53 => 136 | 37 => 61 | 5 => 5 | 173 => 139 | 212 => 148 | 51 => 149 | 20 => 20 | 213 => 150 | 46 => 46 | 232 => 161 | 233 => 162 | n => n, fun | 17 => 0 | 18 => 3 | 19 => 4 | n => n⟩
theorem Tryd.laysM173 : Go.Proofs.LaysM.n173 Tryd.prog Tryd.laysM173_ren := {
  mixed := by kernel_rfl
  f129 := Tryd.func110.trans (congrArg some (by kernel_rfl))
  f173 := Tryd.func62.trans (congrArg some (by kernel_rfl))
  f246 := Tryd.func78.trans (congrArg some (by kernel_rfl))
  f283 := Tryd.func99.trans (congrArg some (by kernel_rfl))
  f284 := Tryd.func100.trans (congrArg some (by kernel_rfl))
  f285 := Tryd.func101.trans (congrArg some (by kernel_rfl))
  f286 := Tryd.func102.trans (congrArg some (by kernel_rfl))
  f317 := Tryd.func109.trans (congrArg some (by kernel_rfl))
  f318 := Tryd.func111.trans (congrArg some (by kernel_rfl))
  f319 := Tryd.func112.trans (congrArg some (by kernel_rfl))
  f320 := Tryd.func113.trans (congrArg some (by kernel_rfl))
  f337 := Tryd.func118.trans (congrArg some (by kernel_rfl))
  f338 := Tryd.func119.trans (congrArg some (by kernel_rfl))
  t0 := Tryd.underlying0
  a0 := Tryd.isAgg0
  z0 := Tryd.sizeOf0
  v0 := Tryd.zeroValue0
  t2 := Tryd.underlying2
  a2 := Tryd.isAgg2
  z2 := Tryd.sizeOf2
  v2 := Tryd.zeroValue2
  t3 := Tryd.underlying3
  a3 := Tryd.isAgg3
  z3 := Tryd.sizeOf3
  v3 := Tryd.zeroValue3
  t4 := Tryd.underlying4
  a4 := Tryd.isAgg4
  z4 := Tryd.sizeOf4
  v4 := Tryd.zeroValue4
  t5 := Tryd.underlying5
  a5 := Tryd.isAgg5
  z5 := Tryd.sizeOf5
  v5 := Tryd.zeroValue5
  t9 := Tryd.underlying9
  a9 := Tryd.isAgg9
  z9 := Tryd.sizeOf9
  v9 := Tryd.zeroValue9
  t20 := Tryd.underlying20
  a20 := Tryd.isAgg20
  z20 := Tryd.sizeOf20
  v20 := Tryd.zeroValue20
  t37 := Tryd.underlying61
  a37 := Tryd.isAgg61
  z37 := Tryd.sizeOf61
  v37 := Tryd.zeroValue61
  t46 := Tryd.underlying46
  a46 := Tryd.isAgg46
  z46 := Tryd.sizeOf46
  v46 := Tryd.zeroValue46
  t51 := Tryd.underlying149
  a51 := Tryd.isAgg149
  z51 := Tryd.sizeOf149
  v51 := Tryd.zeroValue149
  t53 := Tryd.underlying136
  a53 := Tryd.isAgg136
  z53 := Tryd.sizeOf136
  v53 := Tryd.zeroValue136
  t171 := Tryd.underlying135
  a171 := Tryd.isAgg135
  z171 := Tryd.sizeOf135
  v171 := Tryd.zeroValue135
  t173 := Tryd.underlying139
  a173 := Tryd.isAgg139
  z173 := Tryd.sizeOf139
  v173 := Tryd.zeroValue139
  t212 := Tryd.underlying148
  a212 := Tryd.isAgg148
  z212 := Tryd.sizeOf148
  v212 := Tryd.zeroValue148
  t213 := Tryd.underlying150
  a213 := Tryd.isAgg150
  z213 := Tryd.sizeOf150
  t232 := Tryd.underlying161
  a232 := Tryd.isAgg161
  z232 := Tryd.sizeOf161
  v232 := Tryd.zeroValue161
  t233 := Tryd.underlying162
  a233 := Tryd.isAgg162
  z233 := Tryd.sizeOf162
  v233 := Tryd.zeroValue162
  g17 := by kernel_rfl
  g18 := by kernel_rfl
  g19 := by kernel_rfl
  i0 := by kernel_rfl
  i2 := by kernel_rfl
  i3 := by kernel_rfl
  i4 := by kernel_rfl
  i5 := by kernel_rfl
  i9 := by kernel_rfl
  i20 := by kernel_rfl
  i37 := by kernel_rfl
  i46 := by kernel_rfl
  i51 := by kernel_rfl
  i53 := by kernel_rfl
  i171 := by kernel_rfl
  i173 := by kernel_rfl
  i212 := by kernel_rfl
  i232 := by kernel_rfl
  i233 := by kernel_rfl
  m17 := by kernel_rfl
  m18 := by kernel_rfl
  m19 := by kernel_rfl }
open Go.RowKit Go.Sort Go.Lib in
theorem Tryd.strconv_FormatInt_10 (n : Int) (h0 : -9223372036854775808 ≤ n) (h1 : n ≤ 9223372036854775807) (w : World) (htab : Lib.TabIs Tryd.prog w "internal/strconv.uint64pow10" .u64 Lib.pow10Tab) :
    Calls Tryd.prog 62 #[.int .i64 n, .int .i64 10] w fun e w' => e = .returned (.string ⟨(Lib.itoa n).toArray⟩) ∧ ∃ k os, w' = grow (w.drewN k) os := Any.strconv_FormatInt_10 Tryd.laysM173 n h0 h1 w htab
def Tryd.laysC174_ren : Go.Shelf.Ren := ⟨fun | 174 => 61 | 247 => 81 | 245 => 82 | 287 => 103 | 279 => 104 | 280 => 105 | 281 => 106 | 282 => 107 | 321 => 114 | 322 => 115 | 316 => 116 | 171 => 27 | 205 => 117 | 243 => 50 | 246 => 78 | 283 => 99 | 284 => 100 | 285 => 101 | 286 => 102 | 129 => 110 | 317 => 109 | 318 => 111 | 319 => 112 | 320 => 113 | 337 => 118 | 338 => 119 | n => n, fun | 9 => 9 | 3 => 3 | 2 => 2 | 75 => 97 | 85 => 109 | 4 => 4 | 167 => 141 | 5 => 5 | 53 => 136 | 175 => 142 | 46 => 46 | 168 => 144 | 37 => 61 | 0 => 0 | 210 => 155 | 21 => 21 | 127 => 104 | 145 => 160 | 143 => 158 | 171 => 135 | 173 => 139 | 212 => 148 | 51 => 149 | 20 => 20 | 213 => 150 | 232 => 161 | 233 => 162 | 80 => 70 | n => n, fun | 15 => 1 | 16 => 2 | 17 => 0 | 18 => 3 | 19 => 4 | n => n⟩
theorem Tryd.laysC174 : Go.Proofs.LaysC.n174 Tryd.prog Tryd.laysC174_ren := {
  mixed := by kernel_rfl
  f129 := Tryd.func110.trans (congrArg some (by kernel_rfl))
  f171 := Tryd.func27.trans (congrArg some (by kernel_rfl))
  f174 := Tryd.func61.trans (congrArg some (by kernel_rfl))
  f205 := Tryd.func117.trans (congrArg some (by kernel_rfl))
  f243 := Tryd.func50.trans (congrArg some (by kernel_rfl))
  f245 := Tryd.func82.trans (congrArg some (by kernel_rfl))
  f246 := Tryd.func78.trans (congrArg some (by kernel_rfl))
  f247 := Tryd.func81.trans (congrArg some (by kernel_rfl))
  f279 := Tryd.func104.trans (congrArg some (by kernel_rfl))
  f280 := Tryd.func105.trans (congrArg some (by kernel_rfl))
  f281 := Tryd.func106.trans (congrArg some (by kernel_rfl))
  f282 := Tryd.func107.trans (congrArg some (by kernel_rfl))
  f283 := Tryd.func99.trans (congrArg some (by kernel_rfl))
  f284 := Tryd.func100.trans (congrArg some (by kernel_rfl))
  f285 := Tryd.func101.trans (congrArg some (by kernel_rfl))
  f286 := Tryd.func102.trans (congrArg some (by kernel_rfl))
  f287 := Tryd.func103.trans (congrArg some (by kernel_rfl))
  f316 := Tryd.func116.trans (congrArg some (by kernel_rfl))
  f317 := Tryd.func109.trans (congrArg some (by kernel_rfl))
  f318 := Tryd.func111.trans (congrArg some (by kernel_rfl))
  f319 := Tryd.func112.trans (congrArg some (by kernel_rfl))
  f320 := Tryd.func113.trans (congrArg some (by kernel_rfl))
  f321 := Tryd.func114.trans (congrArg some (by kernel_rfl))
  f322 := Tryd.func115.trans (congrArg some (by kernel_rfl))
  f337 := Tryd.func118.trans (congrArg some (by kernel_rfl))
  f338 := Tryd.func119.trans (congrArg some (by kernel_rfl))
  t0 := Tryd.underlying0
  a0 := Tryd.isAgg0
  z0 := Tryd.sizeOf0
  v0 := Tryd.zeroValue0
  t2 := Tryd.underlying2
  a2 := Tryd.isAgg2
  z2 := Tryd.sizeOf2
  v2 := Tryd.zeroValue2
  t3 := Tryd.underlying3
  a3 := Tryd.isAgg3
  z3 := Tryd.sizeOf3
  v3 := Tryd.zeroValue3
  t4 := Tryd.underlying4
  a4 := Tryd.isAgg4
  z4 := Tryd.sizeOf4
  v4 := Tryd.zeroValue4
  t5 := Tryd.underlying5
  a5 := Tryd.isAgg5
  z5 := Tryd.sizeOf5
  v5 := Tryd.zeroValue5
  t9 := Tryd.underlying9
  a9 := Tryd.isAgg9
  z9 := Tryd.sizeOf9
  v9 := Tryd.zeroValue9
  t20 := Tryd.underlying20
  a20 := Tryd.isAgg20
  z20 := Tryd.sizeOf20
  v20 := Tryd.zeroValue20
  t21 := Tryd.underlying21
  a21 := Tryd.isAgg21
  z21 := Tryd.sizeOf21
  v21 := Tryd.zeroValue21
  t37 := Tryd.underlying61
  a37 := Tryd.isAgg61
  z37 := Tryd.sizeOf61
  v37 := Tryd.zeroValue61
  t46 := Tryd.underlying46
  a46 := Tryd.isAgg46
  z46 := Tryd.sizeOf46
  v46 := Tryd.zeroValue46
  t51 := Tryd.underlying149
  a51 := Tryd.isAgg149
  z51 := Tryd.sizeOf149
  v51 := Tryd.zeroValue149
  t53 := Tryd.underlying136
  a53 := Tryd.isAgg136
  z53 := Tryd.sizeOf136
  v53 := Tryd.zeroValue136
  t75 := Tryd.underlying97
  a75 := Tryd.isAgg97
  z75 := Tryd.sizeOf97
  v75 := Tryd.zeroValue97
  t85 := Tryd.underlying109
  a85 := Tryd.isAgg109
  z85 := Tryd.sizeOf109
  v85 := Tryd.zeroValue109
  t127 := Tryd.underlying104
  a127 := Tryd.isAgg104
  z127 := Tryd.sizeOf104
  v127 := Tryd.zeroValue104
  t143 := Tryd.underlying158
  a143 := Tryd.isAgg158
  z143 := Tryd.sizeOf158
  v143 := Tryd.zeroValue158
  t145 := Tryd.underlying160
  a145 := Tryd.isAgg160
  z145 := Tryd.sizeOf160
  v145 := Tryd.zeroValue160
  t167 := Tryd.underlying141
  a167 := Tryd.isAgg141
  z167 := Tryd.sizeOf141
  v167 := Tryd.zeroValue141
  t168 := Tryd.underlying144
  a168 := Tryd.isAgg144
  z168 := Tryd.sizeOf144
  v168 := Tryd.zeroValue144
  t171 := Tryd.underlying135
  a171 := Tryd.isAgg135
  z171 := Tryd.sizeOf135
  v171 := Tryd.zeroValue135
  t173 := Tryd.underlying139
  a173 := Tryd.isAgg139
  z173 := Tryd.sizeOf139
  v173 := Tryd.zeroValue139
  t175 := Tryd.underlying142
  a175 := Tryd.isAgg142
  z175 := Tryd.sizeOf142
  v175 := Tryd.zeroValue142
  t210 := Tryd.underlying155
  a210 := Tryd.isAgg155
  z210 := Tryd.sizeOf155
  v210 := Tryd.zeroValue155
  t212 := Tryd.underlying148
  a212 := Tryd.isAgg148
  z212 := Tryd.sizeOf148
  v212 := Tryd.zeroValue148
  t213 := Tryd.underlying150
  a213 := Tryd.isAgg150
  z213 := Tryd.sizeOf150
  t232 := Tryd.underlying161
  a232 := Tryd.isAgg161
  z232 := Tryd.sizeOf161
  v232 := Tryd.zeroValue161
  t233 := Tryd.underlying162
  a233 := Tryd.isAgg162
  z233 := Tryd.sizeOf162
  v233 := Tryd.zeroValue162
  g15 := by kernel_rfl
  g16 := by kernel_rfl
  g17 := by kernel_rfl
  g18 := by kernel_rfl
  g19 := by kernel_rfl
  t80 := Tryd.underlying70
  a80 := Tryd.isAgg70
  z80 := Tryd.sizeOf70
  v80 := Tryd.zeroValue70
  i0 := by kernel_rfl
  i2 := by kernel_rfl
  i3 := by kernel_rfl
  i4 := by kernel_rfl
  i5 := by kernel_rfl
  i9 := by kernel_rfl
  i20 := by kernel_rfl
  i21 := by kernel_rfl
  i37 := by kernel_rfl
  i46 := by kernel_rfl
  i51 := by kernel_rfl
  i53 := by kernel_rfl
  i75 := by kernel_rfl
  i80 := by kernel_rfl
  i85 := by kernel_rfl
  i127 := by kernel_rfl
  i143 := by kernel_rfl
  i145 := by kernel_rfl
  i167 := by kernel_rfl
  i168 := by kernel_rfl
  i171 := by kernel_rfl
  i173 := by kernel_rfl
  i175 := by kernel_rfl
  i210 := by kernel_rfl
  i212 := by kernel_rfl
  i232 := by kernel_rfl
  i233 := by kernel_rfl
  m15 := by kernel_rfl
  m16 := by kernel_rfl
  m17 := by kernel_rfl
  m18 := by kernel_rfl
  m19 := by kernel_rfl
  c0 := by kernel_rfl
  c2 := by kernel_rfl
  c3 := by kernel_rfl
  c4 := by kernel_rfl
  c5 := by kernel_rfl
  c9 := by kernel_rfl
  c20 := by kernel_rfl
  c21 := by kernel_rfl
  c37 := by kernel_rfl
  c46 := by kernel_rfl
  c51 := by kernel_rfl
  c53 := by kernel_rfl
  c75 := by kernel_rfl
  c80 := by kernel_rfl
  c85 := by kernel_rfl
  c127 := by kernel_rfl
  c143 := by kernel_rfl
  c145 := by kernel_rfl
  c167 := by kernel_rfl
  c168 := by kernel_rfl
  c171 := by kernel_rfl
  c173 := by kernel_rfl
  c175 := by kernel_rfl
  c210 := by kernel_rfl
  c212 := by kernel_rfl
  c213 := by kernel_rfl
  c232 := by kernel_rfl
  c233 := by kernel_rfl }
open Go.RowKit in
theorem Tryd.strconv_ParseInt_10_at64_ok (s : ByteArray) (hmax : s.size ≤ 9223372036854775806) (v : Int) (h : Lib.parseIntB 64 s.data.toList = .ok v) (w : World) :
    Calls Tryd.prog 61 #[.string s, .int .i64 10, .int .i64 64] w fun e w' => e = .returned (.tuple #[.int .i64 v, .nilIface]) ∧ (w' = w ∨ ∃ t, w' = Lib.bytesWorld w 5 t) := Any.strconv_ParseInt_10_at64_ok Tryd.laysC174 s hmax v h w
open Go.RowKit in
theorem Tryd.strconv_ParseInt_10_at64_syntax (s : ByteArray) (hlim : s.size ≤ 281474976710656) (h : Lib.parseIntB 64 s.data.toList = Lib.NumEnd.syntax) (ev : Value) (w : World) (hv : w.cell? ⟨1, 0, none⟩ = some ev) (hev : ev = .nilIface ∨ ∃ te pe, ev = .iface te pe) :
    Calls Tryd.prog 61 #[.string s, .int .i64 10, .int .i64 64] w fun e w' => ∃ N, e = .returned (.tuple #[.int .i64 (0), .iface 144 (.pointer (some ⟨N, 0, none⟩))]) ∧ w.heap.size ≤ N ∧ w'.heap[N]? = some (.cells #[.string ⟨#[80, 97, 114, 115, 101, 73, 110, 116]⟩, .string s, ev] 155 (0, 0)) ∧ Below w.heap.size w w' := Any.strconv_ParseInt_10_at64_syntax Tryd.laysC174 s hlim h ev w hv hev
open Go.RowKit in
theorem Tryd.strconv_ParseInt_10_at64_range (s : ByteArray) (hlim : s.size ≤ 281474976710656) (h : Lib.parseIntB 64 s.data.toList = .range) (ev : Value) (w : World) (hv : w.cell? ⟨2, 0, none⟩ = some ev) (hev : ev = .nilIface ∨ ∃ te pe, ev = .iface te pe) :
    Calls Tryd.prog 61 #[.string s, .int .i64 10, .int .i64 64] w fun e w' => ∃ N, e = .returned (.tuple #[.int .i64 (Lib.intSat 64 s.data.toList), .iface 144 (.pointer (some ⟨N, 0, none⟩))]) ∧ w.heap.size ≤ N ∧ w'.heap[N]? = some (.cells #[.string ⟨#[80, 97, 114, 115, 101, 73, 110, 116]⟩, .string s, ev] 155 (0, 0)) ∧ Below w.heap.size w w' := Any.strconv_ParseInt_10_at64_range Tryd.laysC174 s hlim h ev w hv hev
end Go.Proofs

namespace Go.Proofs.YthefnnkmpcgcmaaDoor
open Go X
set_option maxHeartbeats 1000000
section
variable {P : Program} {σ f : PH} {Γ : List HP} {h h' : Heap}
/-- New blocks change nothing of what is known. -/
theorem X.Holds.grown (x : Holds σ Γ f h) (hb : ∀ k, k < h.size → h'[k]? = h[k]?) : Holds σ Γ f h' := by
  obtain ⟨m, a, b, c, d, e⟩ := x
  have hl : ∀ {n : PH}, n.le h → n.le h' := fun hn k o e => by rw [hb k (hn.lt e)]; exact hn k o e
  exact ⟨m, a, hl b, hl c, hl d, e⟩
theorem X.CallsA.below {fid : FuncId} {vs : Array Value} {R : Value → Prop} (he : Enters P fid) (hc : ∀ w : World, σ.le w.heap → Calls P fid vs w (fun e w' => ∃ v, e = .returned v ∧ R v ∧ RowKit.Below w.heap.size w w')) : CallsA P fid vs σ [] (RetA fun v σ' Γ' => R v ∧ σ = σ' ∧ Γ' = []) := by
  refine ⟨he, fun fr h hh => ⟨he, fun w hw => ?_⟩⟩
  subst hw
  refine (hc w hh.per).mono ?_
  rintro e w' ⟨v, rfl, hr, hb⟩
  exact ⟨⟨hb.os, hb.tape, hb.output⟩, σ, [], ⟨hr, rfl, rfl⟩, hh.grown hb.block⟩
end
theorem X.ResA.tcT {P : Program} {ρ : Env} {σ : PH} {Γ : List HP} {fn : Func} {t1 t3 : Tmp} {T1 : TypeId} {g1 o1 : Nat} {v1 v3 : Value} (hf : fn.results = #[.tmp t3, .cell t1 T1]) (h1 : ρ t1 = .pointer (some ⟨g1, o1, Option.none⟩)) (h3 : ρ t3 = v3)
    (l1 : ∀ h, Ho σ Γ h → Ld P h T1 g1 o1 v1) : ResA P fn ρ σ Γ (.tuple #[v3, v1]) := fun h hh w a hw he => by
  have e1 := he.get t1; rw [h1] at e1; simp at e1
  have e3 := he.get t3; rw [h3] at e3; simp at e3
  simp [results, hf, e1, e3, asAddr, l1 h hh w hw]
/-- The numbers' table stands. -/
def Tab (σ : PH) : Prop := ∀ w : World, σ.le w.heap → Lib.TabIs Tryd.prog w "internal/strconv.uint64pow10" .u64 Lib.pow10Tab
/-- The two errors stand. -/
def Errs (σ : PH) : Prop := ∃ e1 e2, PRow σ 1 0 [e1] ∧ (e1 = .nilIface ∨ ∃ te pe, e1 = .iface te pe) ∧ PRow σ 2 0 [e2] ∧ (e2 = .nilIface ∨ ∃ te pe, e2 = .iface te pe)
theorem Tab.mono {σ σ' : PH} (h : Tab σ) (s : σ.sub σ') : Tab σ' := fun w hw => h w (s.le hw)
theorem Errs.mono {σ σ' : PH} (h : Errs σ) (s : σ.sub σ') : Errs σ' := by
  obtain ⟨e1, e2, h1, h2, h3, h4⟩ := h
  exact ⟨e1, e2, h1.mono s, h2, h3.mono s, h4⟩
def itoaS (n : Int) : ByteArray := ⟨(Lib.itoa n).toArray⟩
theorem grow_below (w : World) (q : Nat) (os : Array Obj) : RowKit.Below w.heap.size w (Sort.grow (w.drewN q) os) :=
  ⟨rfl, rfl, rfl, by first | (simp [Sort.grow]; done) | (simp [Sort.grow]; omega), fun i hi => by
    show ((w.drewN q).heap ++ os)[i]? = _
    rw [Array.getElem?_append_left (by show i < w.heap.size; omega)]
    rfl⟩
theorem itoa_a (σ : PH) (n : Int) (h0 : -9223372036854775808 ≤ n) (h1 : n ≤ 9223372036854775807) (hT : Tab σ) :
    CallsA Tryd.prog 62 #[i64 n, i64 10] σ [] (RetA fun v σ' Γ' => v = .string (itoaS n) ∧ σ = σ' ∧ Γ' = []) := by
  refine CallsA.below (enters Tryd.func62 rfl rfl) fun w hw => ?_
  refine (Tryd.strconv_FormatInt_10 n h0 h1 w (hT w hw)).mono ?_
  rintro e w' ⟨rfl, k, os, rfl⟩
  exact ⟨_, rfl, rfl, grow_below w k os⟩
/-- A number of 64 bits, as short as can be. -/
def longOf (s : ByteArray) : Option Int := match Lib.parseIntB 64 s.data.toList with
  | .ok n => if itoaS n = s then some n else none
  | _ => none
theorem longOf_ok {s : ByteArray} {n : Int} (h : Lib.parseIntB 64 s.data.toList = .ok n) : longOf s = if itoaS n = s then some n else none := by rw [longOf, h]
section
variable {P : Program} {ρ : Env} {S : Heap → Prop} {ty : TypeId}
end
end Go.Proofs.YthefnnkmpcgcmaaDoor

namespace Go.Proofs.YthefnnkmpcgcmaaDoor
open Go X
set_option maxHeartbeats 1000000
def letterB (c : Nat) : Bool := decide (97 ≤ c ∧ c ≤ 122)
def digitB (c : Nat) : Bool := decide (48 ≤ c ∧ c ≤ 57)
def blankB (c : Nat) : Bool := decide (c = 32 ∨ c = 9 ∨ c = 10 ∨ c = 13)
def runN (p : Nat → Bool) (s : ByteArray) : Nat → Nat → Nat
  | 0, _ => 0
  | f + 1, i => if i < s.size ∧ p (byteAt s i) = true then runN p s f (i + 1) + 1 else 0
/-- How many bytes from a place on are such. -/
def runB (p : Nat → Bool) (s : ByteArray) (i : Nat) : Nat := runN p s (s.size - i) i
theorem runB_eq (p : Nat → Bool) (s : ByteArray) (i : Nat) : runB p s i = if i < s.size ∧ p (byteAt s i) = true then runB p s (i + 1) + 1 else 0 := by
  unfold runB
  by_cases h : i < s.size
  · obtain ⟨k, hk⟩ : ∃ k, s.size - i = k + 1 := ⟨s.size - i - 1, by omega⟩
    rw [hk, runN, show s.size - (i + 1) = k by omega]
  · rw [show s.size - i = 0 by omega, if_neg (fun q => h q.1)]; rfl
theorem runN_le (p : Nat → Bool) (s : ByteArray) : ∀ (f i : Nat), runN p s f i ≤ f
  | 0, _ => Nat.le_refl _
  | f + 1, i => by
    rw [runN]; split
    · have := runN_le p s f (i + 1); omega
    · omega
theorem runB_le (p : Nat → Bool) (s : ByteArray) {i : Nat} (h : i ≤ s.size) : i + runB p s i ≤ s.size := by
  have := runN_le p s (s.size - i) i
  unfold runB; omega
theorem runB_end {p : Nat → Bool} {s : ByteArray} {i : Nat} (h : ¬ (i < s.size ∧ p (byteAt s i) = true)) : runB p s i = 0 := by rw [runB_eq, if_neg h]
section
variable {P : Program} {ρ : Env} {S : Heap → Prop} {ty : TypeId}
end
end Go.Proofs.YthefnnkmpcgcmaaDoor

namespace Go.Proofs.YthefnnkmpcgcmaaDoor
open Go X
set_option maxHeartbeats 2000000
structure Tk where
  at_ : Nat
  text : ByteArray
  num : Bool
  n : Int
def oneT (s : ByteArray) (i : Nat) : Option Tk :=
  if byteAt s i = 40 ∨ byteAt s i = 41 then some ⟨i, s.extract i (i + 1), false, 0⟩
  else if letterB (byteAt s i) = true then some ⟨i, s.extract i (i + runB letterB s i), false, 0⟩
  else if digitB (byteAt s i) = true ∨ byteAt s i = 45 then
    (longOf (s.extract i (i + 1 + runB digitB s (i + 1)))).map fun n => ⟨i, s.extract i (i + 1 + runB digitB s (i + 1)), true, n⟩
  else none
def tkC (t : Tk) : List Value := [i64 t.at_, .string t.text, .bool t.num, i64 t.n]
end Go.Proofs.YthefnnkmpcgcmaaDoor

namespace Go.Proofs.YthefnnkmpcgcmaaDoor
open Go X
set_option maxHeartbeats 2000000
def scanG (s : ByteArray) : Nat → Nat → List Tk → Except Nat (List Tk)
  | 0, _, acc => .ok acc
  | f + 1, i, acc => if i < s.size then match oneT s i with
      | some t => scanG s f (i + t.text.size + runB blankB s (i + t.text.size)) (acc ++ [t])
      | none => .error i
    else .ok acc
abbrev PErr (α : Type) := Except (Int × Int) α
def errC {α : Type} : PErr α → Int | .error e => e.1 | .ok _ => 0
def errA {α : Type} : PErr α → Int | .error e => e.2 | .ok _ => 0
def scanE : Except Nat (List Tk) → PErr (List Tk)
  | .ok l => .ok l
  | .error i => .error (7, (i : Int))
def scanP (s : ByteArray) : PErr (List Tk) := if 6000 < s.size then .error (3, 6000) else scanE (scanG s (s.size + 1) (runB blankB s 0) [])
def rTk : RT Tk := fun _ cs t => cs = tkC t
end Go.Proofs.YthefnnkmpcgcmaaDoor

namespace Go.Proofs.YthefnnkmpcgcmaaDoor
open Go X
set_option maxHeartbeats 4000000
theorem scanG_end (s : ByteArray) (f i : Nat) (acc : List Tk) (h : ¬ i < s.size) : scanG s f i acc = .ok acc := by
  cases f with
  | zero => rfl
  | succ f => rw [scanG, if_neg h]
end Go.Proofs.YthefnnkmpcgcmaaDoor

namespace Go.Proofs.YthefnnkmpcgcmaaDoor
open Go X
set_option maxHeartbeats 2000000
section
variable {ρ : Env} {S : Heap → Prop} {ty : TypeId}
end
end Go.Proofs.YthefnnkmpcgcmaaDoor

namespace Go.Proofs.YthefnnkmpcgcmaaDoor
open Go X
theorem byteAt_ext {a : ByteArray} {b e k : Nat} (h : b + k < e) (he : e ≤ a.size) : byteAt (a.extract b e) k = byteAt a (b + k) := by
  unfold byteAt
  have h1 : k < (a.extract b e).size := by rw [ByteArray.size_extract]; omega
  have h2 : b + k < a.size := by omega
  rw [dif_pos h1, dif_pos h2, ByteArray.getElem_extract]
/-- A run inside a word that stops at its end or before. -/
theorem runB_loc {p : Nat → Bool} {s w : ByteArray} {i : Nat} (hw : s.extract i (i + w.size) = w) (hi : i + w.size ≤ s.size) (hs : ¬ (i + w.size < s.size ∧ p (byteAt s (i + w.size)) = true)) : ∀ (n j : Nat), w.size - j = n → j ≤ w.size → runB p s (i + j) = runB p w j
  | 0, j, h, hj => by
    have e : j = w.size := by omega
    subst e
    rw [runB_end hs, runB_end (fun q => by omega)]
  | n + 1, j, h, hj => by
    have hb : byteAt w j = byteAt s (i + j) := by
      have := byteAt_ext (a := s) (b := i) (e := i + w.size) (k := j) (by omega) hi
      rwa [hw] at this
    rw [runB_eq p s, runB_eq p w, hb]
    have ih := runB_loc hw hi hs n (j + 1) (by omega) (by omega)
    rw [show i + j + 1 = i + (j + 1) by omega, ih]
    by_cases hc : p (byteAt s (i + j)) = true
    · rw [if_pos ⟨by omega, hc⟩, if_pos ⟨by omega, hc⟩]
    · rw [if_neg (fun q => hc q.2), if_neg (fun q => hc q.2)]
theorem ext_loc {s w : ByteArray} {i b : Nat} (hw : s.extract i (i + w.size) = w) (hb : b ≤ w.size) : s.extract i (i + b) = w.extract 0 b := by
  conv => rhs; rw [← hw]
  rw [ByteArray.extract_extract, Nat.add_zero, Nat.min_eq_left (by omega)]
def put (i : Nat) (t : Tk) : Tk := ⟨i, t.text, t.num, t.n⟩
/-- What stands at a place is told by the word that stands there. -/
theorem oneT_loc {s w : ByteArray} {i : Nat} (hw : s.extract i (i + w.size) = w) (hi : i + w.size ≤ s.size) (h1 : 1 ≤ w.size)
    (hl : letterB (byteAt s i) = true → ¬ (i + w.size < s.size ∧ letterB (byteAt s (i + w.size)) = true)) (hd : digitB (byteAt s i) = true ∨ byteAt s i = 45 → ¬ (i + w.size < s.size ∧ digitB (byteAt s (i + w.size)) = true)) :
    oneT s i = (oneT w 0).map (put i) := by
  have hb : byteAt w 0 = byteAt s i := by
    have := byteAt_ext (a := s) (b := i) (e := i + w.size) (k := 0) (by omega) hi
    rwa [hw, Nat.add_zero] at this
  rw [oneT, oneT, hb]
  by_cases c1 : byteAt s i = 40 ∨ byteAt s i = 41
  · rw [if_pos c1, if_pos c1, Option.map_some, put, ext_loc hw h1]
  rw [if_neg c1, if_neg c1]
  by_cases c2 : letterB (byteAt s i) = true
  · have e := runB_loc hw hi (hl c2) w.size 0 (by omega) (by omega)
    have hle := runB_le letterB w (i := 0) (by omega)
    rw [Nat.add_zero] at e
    rw [if_pos c2, if_pos c2, Option.map_some, put, e, Nat.zero_add, ext_loc hw (by omega)]
  rw [if_neg c2, if_neg c2]
  by_cases c3 : digitB (byteAt s i) = true ∨ byteAt s i = 45
  · have e := runB_loc hw hi (hd c3) (w.size - 1) 1 (by omega) h1
    have hle := runB_le digitB w (i := 1) h1
    rw [if_pos c3, if_pos c3, e, Nat.zero_add, Option.map_map, Nat.add_assoc, ext_loc hw (by omega)]
    rfl
  rw [if_neg c3, if_neg c3]; rfl
/-- A word: what a token's text is by itself. -/
def Word (t : Tk) : Prop := 1 ≤ t.text.size ∧ oneT t.text 0 = some (put 0 t)
theorem ext_mid {A w B : ByteArray} : (A ++ (w ++ B)).extract A.size (A.size + w.size) = w := by
  rw [ByteArray.extract_append, ByteArray.extract_append]
  apply ByteArray.ext
  simp
/-- A word begins with no blank. -/
theorem word_first {t : Tk} (h : Word t) : blankB (byteAt t.text 0) = false := by
  have h := h.2
  refine decide_eq_false fun q => ?_
  have hnl : ∀ c, letterB c = true → 97 ≤ c := fun c h => (of_decide_eq_true h).1
  have hnd : ∀ c, digitB c = true → 48 ≤ c ∧ c ≤ 57 := fun c h => of_decide_eq_true h
  rw [oneT] at h
  split at h
  · omega
  · split at h
    · rename_i c; have := hnl _ c; omega
    · split at h
      · rename_i c
        rcases c with c | c
        · have := hnd _ c; omega
        · omega
      · cases h
def tkey (t : Tk) : ByteArray × Bool × Int := (t.text, t.num, t.n)
end Go.Proofs.YthefnnkmpcgcmaaDoor

namespace Go.Proofs.YthefnnkmpcgcmaaDoor
open Go X
set_option maxHeartbeats 2000000
theorem byteAt_right {A B : ByteArray} {k : Nat} (h : k < B.size) : byteAt (A ++ B) (A.size + k) = byteAt B k := by
  have := byteAt_ext (a := A ++ B) (b := A.size) (e := A.size + B.size) (k := k) (by omega) (by rw [ByteArray.size_append]; omega)
  rw [ByteArray.extract_append_eq_right rfl rfl] at this
  exact this.symm
theorem byteAt_left {A B : ByteArray} {k : Nat} (h : k < A.size) : byteAt (A ++ B) k = byteAt A k := by
  have := byteAt_ext (a := A ++ B) (b := 0) (e := A.size) (k := k) (by omega) (by rw [ByteArray.size_append]; omega)
  rw [ByteArray.extract_append_eq_left rfl, Nat.zero_add] at this
  exact this.symm
end Go.Proofs.YthefnnkmpcgcmaaDoor

namespace Go.Proofs.YthefnnkmpcgcmaaDoor
open Go X
def Blank (z : ByteArray) : Prop := ∀ k, k < z.size → blankB (byteAt z k) = true
theorem runB_all {p : Nat → Bool} {s : ByteArray} : ∀ (n i : Nat), (∀ k, k < n → i + k < s.size ∧ p (byteAt s (i + k)) = true) → ¬ (i + n < s.size ∧ p (byteAt s (i + n)) = true) → runB p s i = n
  | 0, i, _, h => runB_end h
  | n + 1, i, h, h' => by
    have h0 := h 0 (by omega)
    rw [Nat.add_zero] at h0
    rw [runB_eq, if_pos h0, runB_all n (i + 1) (fun k hk => by have := h (k + 1) (by omega); rwa [show i + (k + 1) = i + 1 + k by omega] at this) (by rwa [show i + (n + 1) = i + 1 + n by omega] at h')]
theorem blank_none : Blank ByteArray.empty := fun k hk => absurd hk (Nat.not_lt_zero k)
end Go.Proofs.YthefnnkmpcgcmaaDoor

namespace Go.Proofs.YthefnnkmpcgcmaaDoor
open Go X
set_option maxHeartbeats 2000000
/-- The fault at what is left. -/
def failAt (e : Int) (l : List Tk) (code : Int) : Int × Int := match l with
  | t :: _ => (code, t.at_)
  | [] => (if code = 5 then 6 else code, e)
def isT (w : ByteArray) : List Tk → Bool
  | t :: _ => !t.num && decide (t.text = w)
  | [] => false
def goneP (x : Int × Int) : List PanicEntry := [{ v := .iface 79 (.agg #[i64 x.1, i64 x.2]), recovered := false }]
section
variable (σ : PH) (b : Nat) (p : Option Addr) (n c : Nat) (e : Int) (vs : Value)
end
end Go.Proofs.YthefnnkmpcgcmaaDoor

namespace Go.Proofs.YthefnnkmpcgcmaaDoor
open Go X
set_option maxHeartbeats 2000000
def wordsL : List ByteArray := [⟨#[]⟩, ⟨#[110, 117, 109]⟩, ⟨#[118, 97, 114]⟩, ⟨#[103, 101, 116]⟩, ⟨#[97, 100, 100]⟩, ⟨#[115, 117, 98]⟩, ⟨#[109, 117, 108]⟩, ⟨#[108, 101, 115, 115]⟩, ⟨#[115, 97, 109, 101]⟩]
def verbsL : List ByteArray := [⟨#[]⟩, ⟨#[115, 101, 116]⟩, ⟨#[112, 117, 116]⟩, ⟨#[112, 114, 105, 110, 116]⟩, ⟨#[114, 101, 97, 100]⟩, ⟨#[119, 104, 105, 108, 101]⟩, ⟨#[105, 102]⟩, ⟨#[99, 111, 109, 109, 105, 116]⟩]
def wordOf (k : Int) : ByteArray := if 1 ≤ k ∧ k ≤ 8 then wordsL.getD k.toNat ByteArray.empty else ByteArray.empty
def verbOf (k : Int) : ByteArray := if 1 ≤ k ∧ k ≤ 7 then verbsL.getD k.toNat ByteArray.empty else ByteArray.empty
theorem word_p (σ : PH) (k : Int) : CallsA Tryd.prog 39 #[i64 k] σ [] (RetA fun v σ' Γ' => v = .string (wordOf k) ∧ σ = σ' ∧ Γ' = []) := by
  by_cases hr : 1 ≤ k ∧ k ≤ 8
  · have hp : ¬ partsOf k < 0 := by rw [partsOf]; split; (decide); split; (decide); rw [if_pos (by omega)]; decide
    have hop : k = 1 ∨ k = 2 ∨ k = 3 ∨ k = 4 ∨ k = 5 ∨ k = 6 ∨ k = 7 ∨ k = 8 := by omega
    have hel : (List.toArray [Value.string ⟨#[]⟩, .string ⟨#[110, 117, 109]⟩, .string ⟨#[118, 97, 114]⟩, .string ⟨#[103, 101, 116]⟩, .string ⟨#[97, 100, 100]⟩, .string ⟨#[115, 117, 98]⟩, .string ⟨#[109, 117, 108]⟩, .string ⟨#[108, 101, 115, 115]⟩, .string ⟨#[115, 97, 109, 101]⟩])[k.toNat]? = some (.string (wordOf k)) := by
      rcases hop with rfl | rfl | rfl | rfl | rfl | rfl | rfl | rfl <;> rfl
    refine enterA1 Tryd.func39 rfl rfl rfl ?_
    refine zS (zR (zO rfl Rd.asg ?_)); refine zN (zT (zS (zS (zR (zA rfl ?_)))))
    refine XOA.wr0 rfl (WrA.cE (parts_a σ k) rfl) ?_
    rintro _ _ _ ⟨_, ⟨rfl, rfl, rfl⟩, rfl⟩
    refine XOA.cl ?_; refine zO rfl (Rd.lss rfl rfl) ?_; refine zN (zT (XA.condF rfl (by first | rfl | exact decide_eq_false hp) ?_)); refine XA.skip (zT (zS (zR ?_)))
    refine zO rfl (Rd.buildA (cs := [Value.string ⟨#[]⟩, .string ⟨#[110, 117, 109]⟩, .string ⟨#[118, 97, 114]⟩, .string ⟨#[103, 101, 116]⟩, .string ⟨#[97, 100, 100]⟩, .string ⟨#[115, 117, 98]⟩, .string ⟨#[109, 117, 108]⟩, .string ⟨#[108, 101, 115, 115]⟩, .string ⟨#[115, 97, 109, 101]⟩]) (fun _ _ => tyrow) rfl rfl rfl rfl (by kernel_rfl)) ?_
    refine zA rfl ?_
    refine zO rfl (by apply Rd.indexAgg; exact tyrow rfl; rfl; exact tyrow rfl; rfl; rfl; rfl; rfl; exact (by omega); exact hel) ?_
    refine zO rfl Rd.asg ?_; refine zN (zT (XA.ret ?_))
    exact bodyA.ret (ResA.one rfl rfl) (Ent.refl _) ⟨rfl, rfl, rfl⟩
  · have hp : partsOf k < 0 := by rw [partsOf, if_neg (by omega), if_neg (by omega), if_neg (by omega)]; decide
    have hw : wordOf k = ByteArray.empty := by rw [wordOf, if_neg hr]
    rw [hw]
    refine enterA1 Tryd.func39 rfl rfl rfl ?_
    refine zS (zR (zO rfl Rd.asg ?_)); refine zN (zT (zS (zS (zR (zA rfl ?_)))))
    refine XOA.wr0 rfl (WrA.cE (parts_a σ k) rfl) ?_
    rintro _ _ _ ⟨_, ⟨rfl, rfl, rfl⟩, rfl⟩
    refine XOA.cl ?_; refine zO rfl (Rd.lss rfl rfl) ?_; refine zN (zT (XA.condT rfl (by first | rfl | exact decide_eq_true hp) ?_)); refine zS (zR (zO rfl Rd.asg ?_)); refine zN (zT (XA.ret (DA.thn_ret ?_)))
    exact bodyA.ret (ResA.one rfl rfl) (Ent.refl _) ⟨rfl, rfl, rfl⟩
theorem verb_p (σ : PH) (k : Int) : CallsA Tryd.prog 40 #[i64 k] σ [] (RetA fun v σ' Γ' => v = .string (verbOf k) ∧ σ = σ' ∧ Γ' = []) := by
  by_cases h1 : k < 1
  · have hw : verbOf k = ByteArray.empty := by rw [verbOf, if_neg (by omega)]
    rw [hw]
    refine enterA1 Tryd.func40 rfl rfl rfl ?_
    refine zS (zR (zO rfl Rd.asg ?_)); refine zN (zT (zS (zS (zR (zA rfl ?_))))); refine zO rfl (Rd.lss rfl rfl) ?_; refine zA rfl ?_
    first | (refine zG ?_; refine zA rfl ?_) | refine zH ?_
    first | (refine zG ?_; refine zO rfl (Rd.gtr rfl rfl) ?_) | refine zH ?_
    refine zO rfl zP ?_; refine zN (zT (XA.condT rfl (by first | rfl | exact decide_eq_true h1) ?_)); refine zS (zR (zO rfl Rd.asg ?_)); refine zN (zT (XA.ret (DA.thn_ret ?_)))
    exact bodyA.ret (ResA.one rfl rfl) (Ent.refl _) ⟨rfl, rfl, rfl⟩
  by_cases h7 : k > 7
  · have hw : verbOf k = ByteArray.empty := by rw [verbOf, if_neg (by omega)]
    rw [hw]
    refine enterA1 Tryd.func40 rfl rfl rfl ?_
    refine zS (zR (zO rfl Rd.asg ?_)); refine zN (zT (zS (zS (zR (zA rfl ?_))))); refine zO rfl (Rd.lss rfl rfl) ?_; refine zA rfl ?_
    first | (refine zG ?_; refine zA rfl ?_) | refine zH ?_
    first | (refine zG ?_; refine zO rfl (Rd.gtr rfl rfl) ?_) | refine zH ?_
    refine zO rfl zP ?_; refine zN (zT (XA.condT rfl (by first | rfl | exact decide_eq_true h7) ?_)); refine zS (zR (zO rfl Rd.asg ?_)); refine zN (zT (XA.ret (DA.thn_ret ?_)))
    exact bodyA.ret (ResA.one rfl rfl) (Ent.refl _) ⟨rfl, rfl, rfl⟩
  have hop : k = 1 ∨ k = 2 ∨ k = 3 ∨ k = 4 ∨ k = 5 ∨ k = 6 ∨ k = 7 := by omega
  have hel : (List.toArray [Value.string ⟨#[]⟩, .string ⟨#[115, 101, 116]⟩, .string ⟨#[112, 117, 116]⟩, .string ⟨#[112, 114, 105, 110, 116]⟩, .string ⟨#[114, 101, 97, 100]⟩, .string ⟨#[119, 104, 105, 108, 101]⟩, .string ⟨#[105, 102]⟩, .string ⟨#[99, 111, 109, 109, 105, 116]⟩])[k.toNat]? = some (.string (verbOf k)) := by
    rcases hop with rfl | rfl | rfl | rfl | rfl | rfl | rfl <;> rfl
  refine enterA1 Tryd.func40 rfl rfl rfl ?_
  refine zS (zR (zO rfl Rd.asg ?_)); refine zN (zT (zS (zS (zR (zA rfl ?_))))); refine zO rfl (Rd.lss rfl rfl) ?_; refine zA rfl ?_
  first | (refine zG ?_; refine zA rfl ?_) | refine zH ?_
  first | (refine zG ?_; refine zO rfl (Rd.gtr rfl rfl) ?_) | refine zH ?_
  refine zO rfl zP ?_; refine zN (zT (XA.condF rfl (by first | rfl | exact decide_eq_false h7) ?_)); refine XA.skip (zT (zS (zR ?_)))
  refine zO rfl (Rd.buildA (cs := [Value.string ⟨#[]⟩, .string ⟨#[115, 101, 116]⟩, .string ⟨#[112, 117, 116]⟩, .string ⟨#[112, 114, 105, 110, 116]⟩, .string ⟨#[114, 101, 97, 100]⟩, .string ⟨#[119, 104, 105, 108, 101]⟩, .string ⟨#[105, 102]⟩, .string ⟨#[99, 111, 109, 109, 105, 116]⟩]) (fun _ _ => tyrow) rfl rfl rfl rfl (by kernel_rfl)) ?_
  refine zA rfl ?_
  refine zO rfl (by apply Rd.indexAgg; exact tyrow rfl; rfl; exact tyrow rfl; rfl; rfl; rfl; rfl; exact (by omega); exact hel) ?_
  refine zO rfl Rd.asg ?_; refine zN (zT (XA.ret ?_))
  exact bodyA.ret (ResA.one rfl rfl) (Ent.refl _) ⟨rfl, rfl, rfl⟩
section
variable (σ : PH) (b : Nat) (p : Option Addr) (n c : Nat) (e : Int) (vs : Value)
end
end Go.Proofs.YthefnnkmpcgcmaaDoor

namespace Go.Proofs.YthefnnkmpcgcmaaDoor
open Go X
set_option maxHeartbeats 2000000
def idxG (s : ByteArray) : List Va → Nat → Option Nat
  | [], _ => none
  | v :: r, k => if v.name = s then some k else idxG s r (k + 1)
section
variable (σ : PH) (b : Nat) (p : Option Addr) (n c : Nat) (e : Int) (vs : Value)
end
end Go.Proofs.YthefnnkmpcgcmaaDoor

namespace Go.Proofs.YthefnnkmpcgcmaaDoor
open Go X
def pickG (W : Int → ByteArray) (l : List Tk) : Nat → Nat → Option Nat
  | 0, _ => none
  | f + 1, k => if isT (W k) l = true then some k else pickG W l f (k + 1)
def pickT (W : Int → ByteArray) (most : Nat) (l : List Tk) : Option Nat := pickG W l most 1
abbrev lpar : ByteArray := ⟨#[40]⟩
abbrev rpar : ByteArray := ⟨#[41]⟩
abbrev PR (α : Type) := Except (Int × Int) (α × List Tk)
def subsA {α : Type} (E : List Tk → PR α) : Nat → List Tk → List α → PR (List α)
  | 0, l, acc => .ok (acc, l)
  | m + 1, l, acc => match E l with
    | .error x => .error x
    | .ok (x, l1) => subsA E m l1 (acc ++ [x])
def varP (vl : List Va) (e : Int) (l : List Tk) : PR Int := match l with
  | t :: r => if nameOk t.text = true then match idxG t.text vl 0 with
      | some i => .ok ((i : Int), r)
      | none => .error (failAt e l 10)
    else .error (failAt e l 5)
  | [] => .error (failAt e l 5)
def numP (e : Int) (l : List Tk) : PR Int := match l with
  | t :: r => if t.num = true then .ok (t.n, r) else .error (failAt e l 5)
  | [] => .error (failAt e l 5)
/-- What stands behind the word: a variable's number and a number. -/
def headP (vl : List Va) (e : Int) (k : Nat) (l : List Tk) : PR (Int × Int) :=
  if k = 1 then match numP e l with | .error x => .error x | .ok (n, r) => .ok ((0, n), r)
  else if k = 2 ∨ k = 3 then match varP vl e l with | .error x => .error x | .ok (v, r) => .ok ((v, 0), r)
  else .ok ((0, 0), l)
def closeP {α : Type} (e : Int) (x : α) (l : List Tk) : PR α := if isT rpar l = true then .ok (x, l.tail) else .error (failAt e l 5)
def exprP (vl : List Va) (e : Int) : Nat → List Tk → PR Ex
  | 0, l => .error (failAt e l 4)
  | f + 1, l => if isT lpar l = true then match pickT wordOf 8 l.tail with
      | none => .error (failAt e l.tail 5)
      | some k => match headP vl e k l.tail.tail with
        | .error x => .error x
        | .ok (vn, l3) => match subsA (exprP vl e f) (partsOf k).toNat l3 [] with
          | .error x => .error x
          | .ok (xs, l4) => closeP e (.mk k vn.1 vn.2 xs) l4
    else .error (failAt e l 5)
/-- What a parser's tokens hold. -/
def TkF (t : Tk) : Prop := t.text.size ≤ maxLen ∧ i64ok t.n
/-- A call's two ends. -/
def EndA (Q : Value → PH → List HP → Prop) (D : List PanicEntry → PH → List HP → Prop) : Ending → PH → List HP → Prop
  | .returned v, σ, Γ => Q v σ Γ
  | .panicked c, σ, Γ => D c σ Γ
  | _, _, _ => False
end Go.Proofs.YthefnnkmpcgcmaaDoor

namespace Go.Proofs.YthefnnkmpcgcmaaDoor
open Go X
set_option maxHeartbeats 4000000
set_option maxRecDepth 4000
def ExprPOK (vl : List Va) (e : Int) (f : Nat) : Prop := ∀ (σ : PH) (b : Nat) (p : Option Addr) (c : Nat) (pv : Option Addr) (cv : Nat) (l : List Tk) (d : Int), PSl 2 rVa σ (.slice pv vl.length cv) vl → PSl 4 rTk σ (.slice p l.length c) l → (∀ t ∈ l, TkF t) → d + f = 13 → 0 ≤ d →
  CallsA Tryd.prog 89 #[ptr b, i64 d] σ [blk b [.slice p l.length c, i64 e, .slice pv vl.length cv] 83] (EndA
    (fun v σ' Γ' => ∃ x l', exprP vl e f l = .ok (x, l') ∧ ∃ cs p' c', v = .agg (List.toArray cs) ∧ ExAt σ' cs x ∧ PSl 4 rTk σ' (.slice p' l'.length c') l' ∧ σ.sub σ' ∧ Γ' = [blk b [.slice p' l'.length c', i64 e, .slice pv vl.length cv] 83])
    (fun ch σ' Γ' => ∃ x, exprP vl e f l = .error x ∧ ch = goneP x ∧ σ.sub σ' ∧ ∃ cs, Γ' = [blk b cs 83]))
theorem ExprPOK.ok {vl : List Va} {e : Int} {f : Nat} (h : ExprPOK vl e f) {σ : PH} {b : Nat} {p : Option Addr} {c : Nat} {pv : Option Addr} {cv : Nat} {l : List Tk} {d : Int} (hv : PSl 2 rVa σ (.slice pv vl.length cv) vl) (hl : PSl 4 rTk σ (.slice p l.length c) l) (hF : ∀ t ∈ l, TkF t) (hd : d + f = 13) (hd0 : 0 ≤ d) {x : Ex} {l' : List Tk} (ho : exprP vl e f l = .ok (x, l')) :
    CallsA Tryd.prog 89 #[ptr b, i64 d] σ [blk b [.slice p l.length c, i64 e, .slice pv vl.length cv] 83] (RetA fun v σ' Γ' => ∃ cs p' c', v = .agg (List.toArray cs) ∧ ExAt σ' cs x ∧ PSl 4 rTk σ' (.slice p' l'.length c') l' ∧ σ.sub σ' ∧ Γ' = [blk b [.slice p' l'.length c', i64 e, .slice pv vl.length cv] 83]) := by
  refine (h σ b p c pv cv l d hv hl hF hd hd0).mono fun en σ' Γ' hr => ?_
  cases en with
  | returned v =>
    obtain ⟨x', l'', h1, h2⟩ := hr
    rw [ho] at h1
    cases h1
    exact h2
  | panicked ch => obtain ⟨x', h1, -⟩ := hr; rw [ho] at h1; cases h1
  | outgrown => exact False.elim hr
end Go.Proofs.YthefnnkmpcgcmaaDoor

namespace Go.Proofs.YthefnnkmpcgcmaaDoor
open Go X
def bindP {α β : Type} (a : PR α) (k : α → List Tk → PR β) : PR β := match a with
  | .error x => .error x
  | .ok (x, l) => k x l
def zeroX : Ex := .mk 0 0 0 []
def listG (S : List Tk → PR St) : Nat → List Tk → List St → PR (List St)
  | 0, _, _ => .error (0, 0)
  | g + 1, l, acc => if isT rpar l = true then .ok (acc, l.tail) else match S l with
    | .error x => .error x
    | .ok (s, l1) => listG S g l1 (acc ++ [s])
def listP (S : List Tk → PR St) (e : Int) (l : List Tk) : PR (List St) := if isT lpar l = true then listG S (l.tail.length + 1) l.tail [] else .error (failAt e l 5)
def optP {α : Type} (b : Bool) (z : α) (a : List Tk → PR α) (l : List Tk) : PR α := if b = true then a l else .ok (z, l)
def stmtP (vl : List Va) (e : Int) : Nat → List Tk → PR St
  | 0, l => .error (failAt e l 4)
  | f + 1, l => if isT lpar l = true then match pickT verbOf 7 l.tail with
      | none => .error (failAt e l.tail 5)
      | some k => bindP (optP (needV k) 0 (varP vl e) l.tail.tail) fun v l3 => bindP (optP (needE k) zeroX (exprP vl e f) l3) fun x l4 => bindP (optP (needF k) zeroX (exprP vl e f) l4) fun y l5 =>
          bindP (optP (needB k) [] (listP (stmtP vl e f) e) l5) fun bd l6 => bindP (optP (needO k) [] (listP (stmtP vl e f) e) l6) fun el l7 => closeP e (.mk k v x y bd el) l7
    else .error (failAt e l 5)
end Go.Proofs.YthefnnkmpcgcmaaDoor

namespace Go.Proofs.YthefnnkmpcgcmaaDoor
open Go X
set_option maxHeartbeats 4000000
set_option maxRecDepth 4000
def StmtPOK (vl : List Va) (e : Int) (f : Nat) : Prop := ∀ (σ : PH) (b : Nat) (p : Option Addr) (c : Nat) (pv : Option Addr) (cv : Nat) (l : List Tk) (d : Int), PSl 2 rVa σ (.slice pv vl.length cv) vl → PSl 4 rTk σ (.slice p l.length c) l → (∀ t ∈ l, TkF t) → d + f = 13 → 0 ≤ d → l.length ≤ 10000 →
  CallsA Tryd.prog 67 #[ptr b, i64 d] σ [blk b [.slice p l.length c, i64 e, .slice pv vl.length cv] 83] (EndA
    (fun v σ' Γ' => ∃ x l', stmtP vl e f l = .ok (x, l') ∧ ∃ cs p' c', v = .agg (List.toArray cs) ∧ StAt σ' cs x ∧ PSl 4 rTk σ' (.slice p' l'.length c') l' ∧ σ.sub σ' ∧ Γ' = [blk b [.slice p' l'.length c', i64 e, .slice pv vl.length cv] 83])
    (fun ch σ' Γ' => ∃ x, stmtP vl e f l = .error x ∧ ch = goneP x ∧ σ.sub σ' ∧ ∃ cs, Γ' = [blk b cs 83]))
theorem StmtPOK.ok {vl : List Va} {e : Int} {f : Nat} (h : StmtPOK vl e f) {σ : PH} {b : Nat} {p : Option Addr} {c : Nat} {pv : Option Addr} {cv : Nat} {l : List Tk} {d : Int} (hv : PSl 2 rVa σ (.slice pv vl.length cv) vl) (hl : PSl 4 rTk σ (.slice p l.length c) l) (hF : ∀ t ∈ l, TkF t) (hd : d + f = 13) (hd0 : 0 ≤ d) (hL : l.length ≤ 10000) {x} {l' : List Tk} (ho : stmtP vl e f l = .ok (x, l')) :
    CallsA Tryd.prog 67 #[ptr b, i64 d] σ [blk b [.slice p l.length c, i64 e, .slice pv vl.length cv] 83] (RetA fun v σ' Γ' => ∃ cs p' c', v = .agg (List.toArray cs) ∧ StAt σ' cs x ∧ PSl 4 rTk σ' (.slice p' l'.length c') l' ∧ σ.sub σ' ∧ Γ' = [blk b [.slice p' l'.length c', i64 e, .slice pv vl.length cv] 83]) := by
  refine (h σ b p c pv cv l d hv hl hF hd hd0 hL).mono fun en σ' Γ' hr => ?_
  cases en with
  | returned v =>
    obtain ⟨x', l'', h1, h2⟩ := hr
    rw [ho] at h1
    cases h1
    exact h2
  | panicked ch => obtain ⟨x', h1, -⟩ := hr; rw [ho] at h1; cases h1
  | outgrown => exact False.elim hr
def ListPOK (vl : List Va) (e : Int) (f : Nat) : Prop := ∀ (σ : PH) (b : Nat) (p : Option Addr) (c : Nat) (pv : Option Addr) (cv : Nat) (l : List Tk) (d : Int), PSl 2 rVa σ (.slice pv vl.length cv) vl → PSl 4 rTk σ (.slice p l.length c) l → (∀ t ∈ l, TkF t) → d + f = 13 → 0 ≤ d → l.length ≤ 10000 →
  CallsA Tryd.prog 90 #[ptr b, i64 d] σ [blk b [.slice p l.length c, i64 e, .slice pv vl.length cv] 83] (EndA
    (fun v σ' Γ' => ∃ x l', listP (stmtP vl e f) e l = .ok (x, l') ∧ ∃ q m p' c', v = .slice q x.length m ∧ PSl 12 StAt σ' (.slice q x.length m) x ∧ PSl 4 rTk σ' (.slice p' l'.length c') l' ∧ σ.sub σ' ∧ Γ' = [blk b [.slice p' l'.length c', i64 e, .slice pv vl.length cv] 83])
    (fun ch σ' Γ' => ∃ x, listP (stmtP vl e f) e l = .error x ∧ ch = goneP x ∧ σ.sub σ' ∧ ∃ cs, Γ' = [blk b cs 83]))
theorem ListPOK.ok {vl : List Va} {e : Int} {f : Nat} (h : ListPOK vl e f) {σ : PH} {b : Nat} {p : Option Addr} {c : Nat} {pv : Option Addr} {cv : Nat} {l : List Tk} {d : Int} (hv : PSl 2 rVa σ (.slice pv vl.length cv) vl) (hl : PSl 4 rTk σ (.slice p l.length c) l) (hF : ∀ t ∈ l, TkF t) (hd : d + f = 13) (hd0 : 0 ≤ d) (hL : l.length ≤ 10000) {x} {l' : List Tk} (ho : listP (stmtP vl e f) e l = .ok (x, l')) :
    CallsA Tryd.prog 90 #[ptr b, i64 d] σ [blk b [.slice p l.length c, i64 e, .slice pv vl.length cv] 83] (RetA fun v σ' Γ' => ∃ q m p' c', v = .slice q x.length m ∧ PSl 12 StAt σ' (.slice q x.length m) x ∧ PSl 4 rTk σ' (.slice p' l'.length c') l' ∧ σ.sub σ' ∧ Γ' = [blk b [.slice p' l'.length c', i64 e, .slice pv vl.length cv] 83]) := by
  refine (h σ b p c pv cv l d hv hl hF hd hd0 hL).mono fun en σ' Γ' hr => ?_
  cases en with
  | returned v =>
    obtain ⟨x', l'', h1, h2⟩ := hr
    rw [ho] at h1
    cases h1
    exact h2
  | panicked ch => obtain ⟨x', h1, -⟩ := hr; rw [ho] at h1; cases h1
  | outgrown => exact False.elim hr
end Go.Proofs.YthefnnkmpcgcmaaDoor

namespace Go.Proofs.YthefnnkmpcgcmaaDoor
open Go X
set_option maxHeartbeats 4000000
set_option maxRecDepth 4000
abbrev kwLet : ByteArray := ⟨#[108, 101, 116]⟩
def nameP (e : Int) (l : List Tk) : PR ByteArray := match l with
  | t :: r => if nameOk t.text = true then .ok (t.text, r) else .error (failAt e l 5)
  | [] => .error (failAt e l 5)
def cutN (n : Int) : Int := if n < 1 ∨ 48 < n then 0 else n
def letsG (e : Int) : Nat → List Tk → List Va → PR (List Va)
  | 0, _, _ => .error (0, 0)
  | g + 1, l, acc => if isT kwLet l = true then bindP (nameP e l.tail) fun s l1 => bindP (numP e l1) fun n l2 => letsG e g l2 (acc ++ [⟨s, cutN n⟩]) else .ok (acc, l)
def bodyG (S : List Tk → PR St) : Nat → List Tk → List St → PR (List St)
  | 0, _, _ => .error (0, 0)
  | g + 1, l, acc => if l.length = 0 then .ok (acc, l) else match S l with
    | .error x => .error x
    | .ok (s, l1) => bodyG S g l1 (acc ++ [s])
def progP (e : Int) (l : List Tk) : PR Pr := bindP (letsG e (l.length + 1) l []) fun vl l1 => bindP (bodyG (stmtP vl e 13) (l1.length + 1) l1 []) fun b l2 => .ok (⟨vl, b⟩, l2)
end Go.Proofs.YthefnnkmpcgcmaaDoor

namespace Go.Proofs.YthefnnkmpcgcmaaDoor
open Go X
def Eqv (l l' : List Tk) : Prop := l.map tkey = l'.map tkey
theorem Eqv.length {l l' : List Tk} (h : Eqv l l') : l.length = l'.length := by simpa using congrArg List.length h
theorem Eqv.cons {t : Tk} {r l' : List Tk} (h : Eqv (t :: r) l') : ∃ t' r', l' = t' :: r' ∧ t.text = t'.text ∧ t.num = t'.num ∧ t.n = t'.n ∧ Eqv r r' := by
  cases l' with
  | nil => cases h
  | cons t' r' =>
    simp only [Eqv, List.map_cons, List.cons.injEq, tkey, Prod.mk.injEq] at h
    exact ⟨t', r', rfl, h.1.1, h.1.2.1, h.1.2.2, h.2⟩
theorem Eqv.nil {l' : List Tk} (h : Eqv [] l') : l' = [] := by
  cases l' with
  | nil => rfl
  | cons t' r' => cases h
theorem Eqv.tail {l l' : List Tk} (h : Eqv l l') : Eqv l.tail l'.tail := by
  cases l with
  | nil => rw [h.nil]; rfl
  | cons t r => obtain ⟨t', r', rfl, -, -, -, h⟩ := h.cons; exact h
theorem isT_eqv {w : ByteArray} {l l' : List Tk} (h : Eqv l l') : isT w l = isT w l' := by
  cases l with
  | nil => rw [h.nil]
  | cons t r => obtain ⟨t', r', rfl, a, b, -, -⟩ := h.cons; rw [isT, isT, a, b]
theorem pickG_eqv {W : Int → ByteArray} {l l' : List Tk} (h : Eqv l l') : ∀ f k : Nat, pickG W l f k = pickG W l' f k
  | 0, _ => rfl
  | f + 1, k => by rw [pickG, pickG, isT_eqv h, pickG_eqv h f (k + 1)]
def Leads {α : Type} (a b : PR α) : Prop := ∀ x r, a = .ok (x, r) → ∃ r', b = .ok (x, r') ∧ Eqv r r'
theorem Leads.bad {α : Type} {x : Int × Int} {b : PR α} : Leads (.error x) b := fun _ _ h => by cases h
theorem Leads.ok {α : Type} {x : α} {r r' : List Tk} (h : Eqv r r') : Leads (.ok (x, r)) (.ok (x, r')) := fun _ _ q => by cases q; exact ⟨r', rfl, h⟩
theorem bindP_leads {α β : Type} {a b : PR α} {k k' : α → List Tk → PR β} (h : Leads a b) (hk : ∀ x r r', Eqv r r' → Leads (k x r) (k' x r')) : Leads (bindP a k) (bindP b k') := by
  cases a with
  | error x => exact Leads.bad
  | ok y =>
    obtain ⟨x, r⟩ := y
    obtain ⟨r', e, hr⟩ := h x r rfl
    rw [e]
    exact hk x r r' hr
section
variable {vl : List Va} {e e' : Int}
theorem numP_leads {l l' : List Tk} (h : Eqv l l') : Leads (numP e l) (numP e' l') := by
  cases l with
  | nil => exact Leads.bad
  | cons t r =>
    obtain ⟨t', r', rfl, a, b, c, h⟩ := h.cons
    rw [numP, numP, b, c]
    split
    · exact Leads.ok h
    · exact Leads.bad
theorem nameP_leads {l l' : List Tk} (h : Eqv l l') : Leads (nameP e l) (nameP e' l') := by
  cases l with
  | nil => exact Leads.bad
  | cons t r =>
    obtain ⟨t', r', rfl, a, b, c, h⟩ := h.cons
    rw [nameP, nameP, a]
    split
    · exact Leads.ok h
    · exact Leads.bad
theorem varP_leads {l l' : List Tk} (h : Eqv l l') : Leads (varP vl e l) (varP vl e' l') := by
  cases l with
  | nil => exact Leads.bad
  | cons t r =>
    obtain ⟨t', r', rfl, a, b, c, h⟩ := h.cons
    rw [varP, varP, a]
    split
    · cases idxG t'.text vl 0 with
      | some i => exact Leads.ok h
      | none => exact Leads.bad
    · exact Leads.bad
theorem headP_leads {k : Nat} {l l' : List Tk} (h : Eqv l l') : Leads (headP vl e k l) (headP vl e' k l') := by
  rw [headP, headP]
  split
  · intro x r q
    cases hn : numP e l with
    | error y => rw [hn] at q; cases q
    | ok y =>
      obtain ⟨n, r0⟩ := y
      obtain ⟨r', e1, hr⟩ := numP_leads (e := e) (e' := e') h n r0 hn
      rw [hn] at q
      cases q
      rw [e1]
      exact ⟨r', rfl, hr⟩
  · split
    · intro x r q
      cases hn : varP vl e l with
      | error y => rw [hn] at q; cases q
      | ok y =>
        obtain ⟨n, r0⟩ := y
        obtain ⟨r', e1, hr⟩ := varP_leads (vl := vl) (e := e) (e' := e') h n r0 hn
        rw [hn] at q
        cases q
        rw [e1]
        exact ⟨r', rfl, hr⟩
    · exact Leads.ok h
theorem closeP_leads {α : Type} {x : α} {l l' : List Tk} (h : Eqv l l') : Leads (closeP e x l) (closeP e' x l') := by
  rw [closeP, closeP, isT_eqv h]
  split
  · exact Leads.ok h.tail
  · exact Leads.bad
theorem subsA_leads {α : Type} {E E' : List Tk → PR α} (hE : ∀ l l', Eqv l l' → Leads (E l) (E' l')) : ∀ (m : Nat) (l l' : List Tk) (acc : List α), Eqv l l' → Leads (subsA E m l acc) (subsA E' m l' acc)
  | 0, l, l', acc, h => Leads.ok h
  | m + 1, l, l', acc, h => by
    intro x r q
    rw [subsA] at q
    cases hn : E l with
    | error y => rw [hn] at q; cases q
    | ok y =>
      obtain ⟨n, r0⟩ := y
      obtain ⟨r', e1, hr⟩ := hE l l' h n r0 hn
      rw [hn] at q
      rw [subsA, e1]
      exact subsA_leads hE m r0 r' _ hr x r q
theorem exprP_leads : ∀ (f : Nat) (l l' : List Tk), Eqv l l' → Leads (exprP vl e f l) (exprP vl e' f l')
  | 0, l, l', h => Leads.bad
  | f + 1, l, l', h => by
    rw [exprP, exprP, isT_eqv h, pickT, pickT, pickG_eqv h.tail]
    split
    · cases hk : pickG wordOf l'.tail 8 1 with
      | none => exact Leads.bad
      | some k =>
        intro x r q
        simp only at q ⊢
        cases hh : headP vl e k l.tail.tail with
        | error y => rw [hh] at q; cases q
        | ok y =>
          obtain ⟨vn, l3⟩ := y
          obtain ⟨r', e1, hr⟩ := headP_leads (vl := vl) (e := e) (e' := e') (k := k) h.tail.tail vn l3 hh
          rw [hh] at q
          rw [e1]
          simp only at q ⊢
          cases hs : subsA (exprP vl e f) (partsOf k).toNat l3 [] with
          | error y => rw [hs] at q; cases q
          | ok z =>
            obtain ⟨xs, l4⟩ := z
            obtain ⟨r2, e2, hr2⟩ := subsA_leads (exprP_leads f) _ _ _ [] hr xs l4 hs
            rw [hs] at q
            rw [e2]
            exact closeP_leads hr2 x r q
    · exact Leads.bad
theorem listG_leads {S S' : List Tk → PR St} (hS : ∀ l l', Eqv l l' → Leads (S l) (S' l')) : ∀ (g : Nat) (l l' : List Tk) (acc : List St), Eqv l l' → Leads (listG S g l acc) (listG S' g l' acc)
  | 0, l, l', acc, h => Leads.bad
  | g + 1, l, l', acc, h => by
    intro x r q
    rw [listG] at q ⊢
    rw [← isT_eqv h]
    split at q
    · rename_i hq; rw [if_pos hq]; exact Leads.ok h.tail x r q
    · rename_i hq
      rw [if_neg hq]
      cases hn : S l with
      | error y => rw [hn] at q; cases q
      | ok y =>
        obtain ⟨n, r0⟩ := y
        obtain ⟨r', e1, hr⟩ := hS l l' h n r0 hn
        rw [hn] at q
        rw [e1]
        exact listG_leads hS g r0 r' _ hr x r q
theorem listP_leads {S S' : List Tk → PR St} (hS : ∀ l l', Eqv l l' → Leads (S l) (S' l')) {l l' : List Tk} (h : Eqv l l') : Leads (listP S e l) (listP S' e' l') := by
  rw [listP, listP, isT_eqv h, h.tail.length]
  split
  · exact listG_leads hS _ _ _ _ h.tail
  · exact Leads.bad
theorem optP_leads {α : Type} {b : Bool} {z : α} {a a' : List Tk → PR α} (ha : ∀ l l', Eqv l l' → Leads (a l) (a' l')) {l l' : List Tk} (h : Eqv l l') : Leads (optP b z a l) (optP b z a' l') := by
  rw [optP, optP]
  split
  · exact ha _ _ h
  · exact Leads.ok h
theorem stmtP_leads : ∀ (f : Nat) (l l' : List Tk), Eqv l l' → Leads (stmtP vl e f l) (stmtP vl e' f l')
  | 0, l, l', h => Leads.bad
  | f + 1, l, l', h => by
    rw [stmtP, stmtP, isT_eqv h, pickT, pickT, pickG_eqv h.tail]
    split
    · cases hk : pickG verbOf l'.tail 7 1 with
      | none => exact Leads.bad
      | some k =>
        simp only
        refine bindP_leads (optP_leads (fun _ _ => varP_leads) h.tail.tail) fun v r r' h => ?_
        refine bindP_leads (optP_leads (exprP_leads f) h) fun x r r' h => ?_
        refine bindP_leads (optP_leads (exprP_leads f) h) fun y r r' h => ?_
        refine bindP_leads (optP_leads (fun _ _ => listP_leads (stmtP_leads f)) h) fun b r r' h => ?_
        exact bindP_leads (optP_leads (fun _ _ => listP_leads (stmtP_leads f)) h) fun el r r' h => closeP_leads h
    · exact Leads.bad
theorem letsG_leads : ∀ (g : Nat) (l l' : List Tk) (acc : List Va), Eqv l l' → Leads (letsG e g l acc) (letsG e' g l' acc)
  | 0, l, l', acc, h => Leads.bad
  | g + 1, l, l', acc, h => by
    rw [letsG, letsG, isT_eqv h]
    split
    · exact bindP_leads (nameP_leads h.tail) fun s r r' h => bindP_leads (numP_leads h) fun n r r' h => letsG_leads g _ _ _ h
    · exact Leads.ok h
theorem bodyG_leads {S S' : List Tk → PR St} (hS : ∀ l l', Eqv l l' → Leads (S l) (S' l')) : ∀ (g : Nat) (l l' : List Tk) (acc : List St), Eqv l l' → Leads (bodyG S g l acc) (bodyG S' g l' acc)
  | 0, l, l', acc, h => Leads.bad
  | g + 1, l, l', acc, h => by
    intro x r q
    rw [bodyG] at q ⊢
    rw [← h.length]
    split at q
    · rename_i hq; rw [if_pos hq]; exact Leads.ok h x r q
    · rename_i hq
      rw [if_neg hq]
      cases hn : S l with
      | error y => rw [hn] at q; cases q
      | ok y =>
        obtain ⟨n, r0⟩ := y
        obtain ⟨r', e1, hr⟩ := hS l l' h n r0 hn
        rw [hn] at q
        rw [e1]
        exact bodyG_leads hS g r0 r' _ hr x r q
/-- The same texts and numbers: the same program. -/
theorem progP_leads {l l' : List Tk} (h : Eqv l l') : Leads (progP e l) (progP e' l') := by
  rw [progP, progP, h.length]
  refine bindP_leads (letsG_leads _ _ _ _ h) fun vl r r' h => ?_
  rw [h.length]
  exact bindP_leads (bodyG_leads (stmtP_leads 13) _ _ _ _ h) fun b r r' h => Leads.ok h
end
end Go.Proofs.YthefnnkmpcgcmaaDoor

namespace Go.Proofs.YthefnnkmpcgcmaaDoor
open Go X
def dgt (c : UInt8) : Nat := c.toNat - 48
def valD : List UInt8 → Nat → Nat
  | [], acc => acc
  | c :: r, acc => valD r (acc * 10 + dgt c)
theorem valD_ge : ∀ (l : List UInt8) (acc : Nat), acc ≤ valD l acc
  | [], acc => Nat.le_refl _
  | c :: r, acc => by have := valD_ge r (acc * 10 + dgt c); rw [valD]; omega
theorem valD_app (c : UInt8) : ∀ (l : List UInt8) (acc : Nat), valD (l ++ [c]) acc = valD l acc * 10 + dgt c
  | [], acc => rfl
  | d :: r, acc => by rw [List.cons_append, valD, valD, valD_app c r]
def digU (c : UInt8) : Prop := 48 ≤ c.toNat ∧ c.toNat ≤ 57
theorem parseU_dig {M : Nat} (hM : M ≤ 18446744073709551615) : ∀ (l : List UInt8) (acc : Nat), (∀ c ∈ l, digU c) → valD l acc ≤ M → Lib.parseUintM M acc l = .ok (valD l acc)
  | [], acc, _, _ => rfl
  | c :: r, acc, hd, hv => by
    have h1 := valD_ge r (acc * 10 + dgt c)
    rw [valD] at hv ⊢
    have hc : 48 ≤ c.toNat ∧ c.toNat ≤ 57 := hd c (by simp)
    have ih := parseU_dig hM r _ (fun x hx => hd x (by simp [hx])) hv
    unfold dgt at *
    rw [Lib.parseUintM, if_pos hc, if_neg (by omega), if_neg (by omega)]
    exact ih
theorem dig_of {k : Nat} (h : k < 10) : digU (UInt8.ofNat (48 + k)) ∧ dgt (UInt8.ofNat (48 + k)) = k := by
  have : (UInt8.ofNat (48 + k)).toNat = 48 + k := by simp; omega
  unfold digU dgt
  rw [this]
  omega
theorem dec_dig (u : Nat) : (∀ c ∈ Lib.decDigits u, digU c) ∧ valD (Lib.decDigits u) 0 = u ∧ Lib.decDigits u ≠ [] := by
  induction u using Nat.strongRecOn with
  | _ u ih =>
    rw [Lib.decDigits]
    by_cases h : u < 10
    · rw [dif_pos h]
      obtain ⟨h1, h2⟩ := dig_of h
      refine ⟨fun c hc => by rw [List.mem_singleton.1 hc]; exact h1, ?_, by simp⟩
      rw [valD, valD, h2]; omega
    · rw [dif_neg h]
      obtain ⟨i1, i2, i3⟩ := ih (u / 10) (by omega)
      obtain ⟨h1, h2⟩ := dig_of (k := u % 10) (Nat.mod_lt _ (by decide))
      refine ⟨fun c hc => ?_, ?_, by simp⟩
      · rcases List.mem_append.1 hc with hc | hc
        · exact i1 c hc
        · rw [List.mem_singleton.1 hc]; exact h1
      · rw [valD_app, i2, h2]; omega
theorem parseU_dec {u : Nat} (h : u ≤ 18446744073709551615) : Lib.parseUintB 64 (Lib.decDigits u) = .ok u := by
  obtain ⟨d1, d2, d3⟩ := dec_dig u
  rw [Lib.parseUintB, if_neg d3, parseU_dig (by decide) _ _ d1 (by rw [d2]; exact h), d2]
theorem parse_itoa {n : Int} (h0 : -9223372036854775808 ≤ n) (h1 : n ≤ 9223372036854775807) : Lib.parseIntB 64 (Lib.itoa n) = .ok n := by
  have e63 : 2 ^ (64 - 1) = 9223372036854775808 := by decide
  by_cases hn : n < 0
  · have hp := parseU_dec (u := n.natAbs) (by omega)
    have hi : Lib.itoa n = 45 :: Lib.decDigits n.natAbs := by rw [Lib.itoa, if_pos hn]
    have h45 : (45 : UInt8).toNat = 45 := rfl
    have hneg : ¬ (¬ (45 : UInt8).toNat = 45 ∧ 2 ^ (64 - 1) ≤ n.natAbs) := fun q => q.1 rfl
    have hbig : ¬ ((45 : UInt8).toNat = 45 ∧ 2 ^ (64 - 1) < n.natAbs) := fun q => by rw [e63] at q; omega
    rw [hi]
    unfold Lib.parseIntB
    simp only
    rw [if_pos (show (45 : UInt8).toNat = 43 ∨ (45 : UInt8).toNat = 45 from Or.inr rfl), hp]
    simp only
    rw [if_neg hneg, if_neg hbig, if_pos h45]
    congr 1; omega
  · have hp := parseU_dec (u := n.toNat) (by omega)
    obtain ⟨d1, -, d3⟩ := dec_dig n.toNat
    have hi : Lib.itoa n = Lib.decDigits n.toNat := by rw [Lib.itoa, if_neg hn]
    rw [hi]
    cases hl : Lib.decDigits n.toNat with
    | nil => exact absurd hl d3
    | cons c r =>
      have hc : digU c := d1 c (by rw [hl]; simp)
      unfold digU at hc
      have hbig : ¬ (¬ c.toNat = 45 ∧ 2 ^ (64 - 1) ≤ n.toNat) := fun q => by rw [e63] at q; omega
      unfold Lib.parseIntB
      simp only
      rw [if_neg (by omega), ← hl, hp]
      simp only
      rw [if_neg hbig, if_neg (fun q => by omega), if_neg (by omega)]
      congr 1; omega
theorem itoa_shape (n : Int) : ∃ c r, Lib.itoa n = c :: r ∧ (digU c ∨ c.toNat = 45) ∧ ∀ x ∈ r, digU x := by
  by_cases hn : n < 0
  · exact ⟨45, _, by rw [Lib.itoa, if_pos hn], .inr rfl, (dec_dig n.natAbs).1⟩
  · obtain ⟨d1, -, d3⟩ := dec_dig n.toNat
    have hi : Lib.itoa n = Lib.decDigits n.toNat := by rw [Lib.itoa, if_neg hn]
    rw [hi]
    cases hl : Lib.decDigits n.toNat with
    | nil => exact absurd hl d3
    | cons c r => rw [hl] at d1; exact ⟨c, r, rfl, .inl (d1 c (by simp)), fun x hx => d1 x (by simp [hx])⟩
def tkW (w : ByteArray) : Tk := ⟨0, w, false, 0⟩
def tkN (n : Int) : Tk := ⟨0, itoaS n, true, n⟩
theorem ext_all (s : ByteArray) : s.extract 0 s.size = s := by simp
theorem byteAt_mk (l : List UInt8) (k : Nat) (h : k < l.length) : byteAt ⟨l.toArray⟩ k = (l[k]).toNat := by
  unfold byteAt
  rw [dif_pos (show k < (⟨l.toArray⟩ : ByteArray).size from h)]
  rfl
theorem nameOk_iff {s : ByteArray} (h : nameOk s = true) : (∀ i, i < s.size → 97 ≤ byteAt s i ∧ byteAt s i ≤ 122) ∧ 1 ≤ s.size ∧ s.size ≤ 8 := of_decide_eq_true h
theorem word_name {s : ByteArray} (h : nameOk s = true) : Word (tkW s) := by
  obtain ⟨h1, h2, h3⟩ := nameOk_iff h
  have hr : runB letterB s 0 = s.size := runB_all s.size 0 (fun k hk => ⟨by omega, by rw [Nat.zero_add]; exact decide_eq_true (h1 k hk)⟩) (by omega)
  have hb := h1 0 (by omega)
  refine ⟨h2, ?_⟩
  show oneT s 0 = some ⟨0, s, false, 0⟩
  rw [oneT, if_neg (by omega), if_pos (show letterB (byteAt s 0) = true from decide_eq_true hb), hr, Nat.zero_add, ext_all]
theorem itoaS_size (n : Int) : (itoaS n).size = (Lib.itoa n).length := rfl
theorem itoaS_le {n : Int} (h : i64ok n) : (itoaS n).size ≤ 21 := Lib.itoa_length_le n h.1 h.2
theorem word_num {n : Int} (h : i64ok n) : Word (tkN n) := by
  have hp := parse_itoa h.1 h.2
  have hlong : longOf (itoaS n) = some n := by rw [longOf_ok (n := n) (by show Lib.parseIntB 64 (Lib.itoa n).toArray.toList = _; simpa using hp), if_pos rfl]
  obtain ⟨c, r, hl, hc, hr⟩ := itoa_shape n
  have hz : (itoaS n).size = r.length + 1 := by rw [itoaS_size, hl, List.length_cons]
  have hat : ∀ k (h : k < r.length), byteAt (itoaS n) (k + 1) = (r[k]).toNat := fun k hk => by
    have := byteAt_mk (Lib.itoa n) (k + 1) (by rw [hl, List.length_cons]; omega)
    rw [show itoaS n = ⟨(Lib.itoa n).toArray⟩ from rfl, this]
    simp only [hl, List.getElem_cons_succ]
  have h0 : byteAt (itoaS n) 0 = c.toNat := by
    have := byteAt_mk (Lib.itoa n) 0 (by rw [hl, List.length_cons]; omega)
    rw [show itoaS n = ⟨(Lib.itoa n).toArray⟩ from rfl, this]
    simp only [hl, List.getElem_cons_zero]
  have hrun : runB digitB (itoaS n) 1 = r.length := runB_all _ _ (fun k hk => ⟨by omega, by rw [Nat.add_comm, hat k hk]; exact decide_eq_true (hr _ (List.getElem_mem hk))⟩) (by omega)
  unfold digU at hc
  refine ⟨by show 1 ≤ (itoaS n).size; omega, ?_⟩
  show oneT (itoaS n) 0 = some ⟨0, itoaS n, true, n⟩
  have hnl : ¬ letterB (byteAt (itoaS n) 0) = true := fun q => by
    have : 97 ≤ byteAt (itoaS n) 0 ∧ byteAt (itoaS n) 0 ≤ 122 := of_decide_eq_true q
    omega
  have hd : digitB (byteAt (itoaS n) 0) = true ∨ byteAt (itoaS n) 0 = 45 := by
    rcases hc with hc | hc
    · exact .inl (decide_eq_true (by rw [h0]; exact hc))
    · exact .inr (by rw [h0]; exact hc)
  have hall : (itoaS n).extract 0 (0 + 1 + runB digitB (itoaS n) (0 + 1)) = itoaS n := by
    rw [Nat.zero_add, hrun, Nat.add_comm, ← hz]; exact ext_all _
  rw [oneT, if_neg (by omega), if_neg hnl, if_pos hd, hall, hlong]
  rfl
theorem word_lpar : Word (tkW lpar) := ⟨by decide, by rfl⟩
theorem word_rpar : Word (tkW rpar) := ⟨by decide, by rfl⟩
theorem name_word {k : Int} (h : 1 ≤ k ∧ k ≤ 8) : nameOk (wordOf k) = true := by
  have hop : k = 1 ∨ k = 2 ∨ k = 3 ∨ k = 4 ∨ k = 5 ∨ k = 6 ∨ k = 7 ∨ k = 8 := by omega
  rcases hop with rfl | rfl | rfl | rfl | rfl | rfl | rfl | rfl <;> decide
theorem name_verb {k : Int} (h : 1 ≤ k ∧ k ≤ 7) : nameOk (verbOf k) = true := by
  have hop : k = 1 ∨ k = 2 ∨ k = 3 ∨ k = 4 ∨ k = 5 ∨ k = 6 ∨ k = 7 := by omega
  rcases hop with rfl | rfl | rfl | rfl | rfl | rfl | rfl <;> decide
theorem name_let : nameOk kwLet = true := by decide
end Go.Proofs.YthefnnkmpcgcmaaDoor

namespace Go.Proofs.YthefnnkmpcgcmaaDoor
open Go X
set_option maxHeartbeats 1000000
def sp1 : ByteArray := ⟨#[32]⟩
def nl1 : ByteArray := ⟨#[10]⟩
def nameAt (vl : List Va) (v : Int) : ByteArray := ((vl[v.toNat]?).map (·.name)).getD ByteArray.empty
def headT (vl : List Va) (op v n : Int) : ByteArray := if op = 1 then sp1 ++ itoaS n else if op = 2 ∨ op = 3 then sp1 ++ nameAt vl v else ByteArray.empty
def optT (b : Bool) (t : ByteArray) : ByteArray := if b = true then t else ByteArray.empty
mutual
def exT (vl : List Va) : Ex → ByteArray
  | .mk op v n l => lpar ++ (wordOf op ++ (headT vl op v n ++ (exsT vl l ++ rpar)))
def exsT (vl : List Va) : List Ex → ByteArray
  | [] => ByteArray.empty
  | x :: l => sp1 ++ (exT vl x ++ exsT vl l)
end
mutual
def stT (vl : List Va) : St → ByteArray
  | .mk op v e f body els => lpar ++ (verbOf op ++ (optT (needV op) (sp1 ++ nameAt vl v) ++ (optT (needE op) (sp1 ++ exT vl e) ++ (optT (needF op) (sp1 ++ exT vl f) ++
      (optT (needB op) (sp1 ++ (lpar ++ (stsT vl false body ++ rpar))) ++ (optT (needO op) (sp1 ++ (lpar ++ (stsT vl false els ++ rpar))) ++ rpar))))))
def stsT (vl : List Va) (b : Bool) : List St → ByteArray
  | [] => ByteArray.empty
  | x :: l => optT b sp1 ++ (stT vl x ++ stsT vl true l)
end
def varT (v : Va) : ByteArray := kwLet ++ (sp1 ++ (v.name ++ (sp1 ++ (itoaS v.size ++ nl1))))
def varsT : List Va → ByteArray
  | [] => ByteArray.empty
  | v :: r => varT v ++ varsT r
def bodyT (vl : List Va) : List St → ByteArray
  | [] => ByteArray.empty
  | x :: r => (stT vl x ++ nl1) ++ bodyT vl r
def prT (p : Pr) : ByteArray := varsT p.vars ++ bodyT p.vars p.body
theorem varsT_app : ∀ (l m : List Va), varsT (l ++ m) = varsT l ++ varsT m
  | [], m => by rw [List.nil_append, varsT, ByteArray.empty_append]
  | v :: r, m => by rw [List.cons_append, varsT, varsT, varsT_app r m, ByteArray.append_assoc]
theorem bodyT_app (vl : List Va) : ∀ (l m : List St), bodyT vl (l ++ m) = bodyT vl l ++ bodyT vl m
  | [], m => by rw [List.nil_append, bodyT, ByteArray.empty_append]
  | v :: r, m => by rw [List.cons_append, bodyT, bodyT, bodyT_app vl r m]; simp only [ByteArray.append_assoc]
theorem exsT_app (vl : List Va) : ∀ (l m : List Ex), exsT vl (l ++ m) = exsT vl l ++ exsT vl m
  | [], m => by rw [List.nil_append, exsT, ByteArray.empty_append]
  | v :: r, m => by rw [List.cons_append, exsT, exsT, exsT_app vl r m]; simp only [ByteArray.append_assoc]
theorem stsT_snoc (vl : List Va) (x : St) : ∀ (l : List St) (b : Bool), stsT vl b (l ++ [x]) = stsT vl b l ++ (optT (b || decide (0 < l.length)) sp1 ++ stT vl x)
  | [], b => by rw [List.nil_append, stsT, stsT, stsT, ByteArray.append_empty, ByteArray.empty_append]; simp
  | y :: r, b => by rw [List.cons_append, stsT, stsT, stsT_snoc vl x r true]; simp [ByteArray.append_assoc]
/-! pieces: what stands ahead of a token, and the token -/
abbrev Pc := List (ByteArray × Tk)
def joinB : Pc → ByteArray
  | [] => ByteArray.empty
  | p :: r => p.1 ++ (p.2.text ++ joinB r)
theorem joinB_app : ∀ (a b : Pc), joinB (a ++ b) = joinB a ++ joinB b
  | [], b => by rw [List.nil_append, joinB, ByteArray.empty_append]
  | p :: r, b => by rw [List.cons_append, joinB, joinB, joinB_app r b]; simp only [ByteArray.append_assoc]
def br (t : Tk) : Bool := decide (t.text = lpar ∨ t.text = rpar)
def Good : Bool → Pc → Prop
  | _, [] => True
  | b, p :: r => Blank p.1 ∧ Word p.2 ∧ (b = true ∨ 1 ≤ p.1.size ∨ br p.2 = true) ∧ Good (br p.2) r
theorem br_first {t : Tk} (h : br t = true) : byteAt t.text 0 = 40 ∨ byteAt t.text 0 = 41 := by
  have h : t.text = lpar ∨ t.text = rpar := of_decide_eq_true h
  rcases h with h | h <;> rw [h]
  · exact .inl rfl
  · exact .inr rfl
theorem joinB_first {p : ByteArray × Tk} {r : Pc} {T : ByteArray} (h : Word p.2) (hz : Blank p.1) (hc : 1 ≤ p.1.size ∨ br p.2 = true) : letterB (byteAt (joinB (p :: r) ++ T) 0) = false ∧ digitB (byteAt (joinB (p :: r) ++ T) 0) = false := by
  have hw := h.1
  by_cases q : 1 ≤ p.1.size
  · have e : byteAt (joinB (p :: r) ++ T) 0 = byteAt p.1 0 := by rw [joinB, ByteArray.append_assoc]; exact byteAt_left q
    have hb : byteAt p.1 0 = 32 ∨ byteAt p.1 0 = 9 ∨ byteAt p.1 0 = 10 ∨ byteAt p.1 0 = 13 := of_decide_eq_true (hz 0 q)
    rw [e]
    exact ⟨decide_eq_false (by omega), decide_eq_false (by omega)⟩
  · have hbr := br_first (hc.resolve_left q)
    have e : byteAt (joinB (p :: r) ++ T) 0 = byteAt p.2.text 0 := by
      have := byteAt_right (A := p.1) (B := (p.2.text ++ joinB r) ++ T) (k := 0) (by simp only [ByteArray.size_append]; omega)
      rw [show p.1.size + 0 = 0 by omega] at this
      rw [joinB, ByteArray.append_assoc, this, ByteArray.append_assoc, byteAt_left hw]
    rw [e]
    exact ⟨decide_eq_false (by omega), decide_eq_false (by omega)⟩
theorem back_pc {J T : ByteArray} (hT : Blank T) : ∀ (r : Pc) (A : ByteArray) (b : Bool), Good b r → J = A ++ (joinB r ++ T) → ∀ (f : Nat) (acc : List Tk), J.size < A.size + runB blankB J A.size + f → ∃ m, scanG J f (A.size + runB blankB J A.size) acc = .ok (acc ++ m) ∧ m.map tkey = r.map (fun p => tkey p.2)
  | [], A, b, _, hJ, f, acc, hf => by
    have hJ : J = A ++ T := by rw [hJ, joinB, ByteArray.empty_append]
    have hr : runB blankB J A.size = T.size := runB_all _ _ (fun k hk => ⟨by rw [hJ, ByteArray.size_append]; omega, by rw [hJ, byteAt_right hk]; exact hT k hk⟩) (by rw [hJ, ByteArray.size_append]; omega)
    refine ⟨[], ?_, rfl⟩
    rw [List.append_nil, hr]
    exact scanG_end _ _ _ _ (by rw [hJ, ByteArray.size_append]; omega)
  | p :: r, A, b, hG, hJ, f, acc, hf => by
    obtain ⟨hz, hx, -, hG'⟩ := hG
    obtain ⟨z, x⟩ := p
    simp only at hz hx hG'
    have hJ1 : J = A ++ (z ++ (x.text ++ (joinB r ++ T))) := by rw [hJ, joinB]; simp only [ByteArray.append_assoc]
    have hJ2 : J = (A ++ z) ++ (x.text ++ (joinB r ++ T)) := by rw [hJ1, ByteArray.append_assoc]
    have hJ3 : J = (A ++ (z ++ x.text)) ++ (joinB r ++ T) := by rw [hJ1]; simp only [ByteArray.append_assoc]
    have hx1 := hx.1
    have hsz : J.size = A.size + (z.size + (x.text.size + (joinB r ++ T).size)) := by rw [hJ1, ByteArray.size_append, ByteArray.size_append, ByteArray.size_append]
    have hAz : (A ++ z).size = A.size + z.size := ByteArray.size_append
    have hA3 : (A ++ (z ++ x.text)).size = A.size + z.size + x.text.size := by rw [ByteArray.size_append, ByteArray.size_append]; omega
    have hrun : runB blankB J A.size = z.size := by
      refine runB_all _ _ (fun k hk => ⟨by omega, ?_⟩) ?_
      · rw [hJ1, byteAt_right (by rw [ByteArray.size_append]; omega), byteAt_left hk]; exact hz k hk
      · rintro ⟨-, q⟩
        have := byteAt_right (A := A ++ z) (B := x.text ++ (joinB r ++ T)) (k := 0) (by rw [ByteArray.size_append]; omega)
        rw [← hJ2, hAz, Nat.add_zero, byteAt_left hx1] at this
        rw [this, word_first hx] at q
        cases q
    have hext : J.extract (A.size + z.size) (A.size + z.size + x.text.size) = x.text := by rw [hJ2, ← hAz]; exact ext_mid
    have h0 : byteAt J (A.size + z.size) = byteAt x.text 0 := by
      have := byteAt_right (A := A ++ z) (B := x.text ++ (joinB r ++ T)) (k := 0) (by rw [ByteArray.size_append]; omega)
      rwa [← hJ2, hAz, Nat.add_zero, byteAt_left hx1] at this
    have hnext : A.size + z.size + x.text.size < J.size → byteAt J (A.size + z.size + x.text.size) = byteAt (joinB r ++ T) 0 := fun q => by
      have := byteAt_right (A := A ++ (z ++ x.text)) (B := joinB r ++ T) (k := 0) (by omega)
      rwa [← hJ3, hA3, Nat.add_zero] at this
    have hstop : br x = false → A.size + z.size + x.text.size < J.size → letterB (byteAt J (A.size + z.size + x.text.size)) = false ∧ digitB (byteAt J (A.size + z.size + x.text.size)) = false := fun hb q => by
      rw [hnext q]
      cases r with
      | nil =>
        have hTs : 0 < T.size := by rw [hsz, ByteArray.size_append, joinB, show ByteArray.empty.size = 0 from rfl] at q; omega
        have hb : byteAt T 0 = 32 ∨ byteAt T 0 = 9 ∨ byteAt T 0 = 10 ∨ byteAt T 0 = 13 := of_decide_eq_true (hT 0 hTs)
        rw [joinB, ByteArray.empty_append]
        exact ⟨decide_eq_false (by omega), decide_eq_false (by omega)⟩
      | cons p r =>
        obtain ⟨g1, g2, g3, -⟩ := hG'
        exact joinB_first g2 g1 (g3.resolve_left (by rw [hb]; exact Bool.noConfusion))
    have ho : oneT J (A.size + z.size) = some (put (A.size + z.size) x) := by
      rw [oneT_loc hext (by omega) hx1 (fun ql qn => ?_) (fun qd qn => ?_), hx.2]
      · rfl
      · cases hb : br x with
        | true => have hf := br_first hb; have : 97 ≤ byteAt J (A.size + z.size) ∧ byteAt J (A.size + z.size) ≤ 122 := of_decide_eq_true ql; omega
        | false => have := (hstop hb qn.1).1; rw [qn.2] at this; cases this
      · cases hb : br x with
        | true =>
          have hf := br_first hb
          rcases qd with qd | qd
          · have : 48 ≤ byteAt J (A.size + z.size) ∧ byteAt J (A.size + z.size) ≤ 57 := of_decide_eq_true qd; omega
          · omega
        | false => have := (hstop hb qn.1).2; rw [qn.2] at this; cases this
    rw [hrun] at hf ⊢
    obtain ⟨g, rfl⟩ : ∃ g, f = g + 1 := ⟨f - 1, by omega⟩
    obtain ⟨m, e1, e2⟩ := back_pc (J := J) hT r (A ++ (z ++ x.text)) (br x) hG' hJ3 g (acc ++ [put (A.size + z.size) x]) (by omega)
    refine ⟨put (A.size + z.size) x :: m, ?_, by rw [List.map_cons, List.map_cons, e2]; rfl⟩
    rw [scanG, if_pos (by omega), ho]
    simp only
    rw [show (put (A.size + z.size) x).text = x.text from rfl, ← hA3, e1, List.append_assoc]
    rfl
def toks (r : Pc) : List Tk := r.map (·.2)
theorem toks_app (a b : Pc) : toks (a ++ b) = toks a ++ toks b := by simp [toks]
theorem scan_pc {T : ByteArray} (hT : Blank T) {r : Pc} (hG : Good true r) (h6 : (joinB r ++ T).size ≤ 6000) : ∃ m, scanP (joinB r ++ T) = .ok m ∧ Eqv (toks r) m := by
  obtain ⟨m, e1, e2⟩ := back_pc (J := joinB r ++ T) hT r ByteArray.empty true hG (by rw [ByteArray.empty_append]) ((joinB r ++ T).size + 1) [] (by omega)
  rw [show ByteArray.empty.size = 0 from rfl, Nat.zero_add, List.nil_append] at e1
  refine ⟨m, ?_, ?_⟩
  · rw [scanP, if_neg (by omega), e1]; rfl
  · rw [Eqv, e2, toks, List.map_map]; rfl
end Go.Proofs.YthefnnkmpcgcmaaDoor

namespace Go.Proofs.YthefnnkmpcgcmaaDoor
open Go X
/-- An instruction. -/
structure In where
  op : Int
  a : Int
  b : Int
  n : Int
deriving DecidableEq
def sizeV (vs : List Va) (v : Int) : Int := (vs[v.toNat]?.map (·.size)).getD 0
def opIn (vs : List Va) (op v n : Int) : In := ⟨op, if op = 2 ∨ op = 3 then cellOf vs v else 0, if op = 3 then sizeV vs v else 0, n⟩
mutual
def exCode (vs : List Va) : Ex → List In
  | .mk op v n l => exsCode vs l ++ [opIn vs op v n]
def exsCode (vs : List Va) : List Ex → List In
  | [] => []
  | x :: l => exCode vs x ++ exsCode vs l
end
/-! a program that is one -/
mutual
def exH : Ex → Nat
  | .mk _ _ _ l => 1 + exsH l
def exsH : List Ex → Nat
  | [] => 0
  | x :: l => max (exH x) (exsH l)
end
mutual
def ExV (nv : Nat) : Ex → Prop
  | .mk op v n l => (1 ≤ op ∧ op ≤ 8) ∧ (l.length : Int) = partsOf op ∧ (op = 2 ∨ op = 3 → 0 ≤ v ∧ v < nv) ∧ (n ≠ 0 → op = 1) ∧ ExsV nv l
def ExsV (nv : Nat) : List Ex → Prop
  | [] => True
  | x :: l => ExV nv x ∧ ExsV nv l
end
mutual
def StV (nv : Nat) : St → Prop
  | .mk op v e f body els => (1 ≤ op ∧ op ≤ 7) ∧ (needV op = true → 0 ≤ v ∧ v < nv) ∧ (needE op = true → ExV nv e ∧ exH e ≤ 12) ∧ (needF op = true → ExV nv f ∧ exH f ≤ 12) ∧ (needB op = false → body = []) ∧ (needO op = false → els = []) ∧ StsV nv body ∧ StsV nv els
def StsV (nv : Nat) : List St → Prop
  | [] => True
  | x :: l => StV nv x ∧ StsV nv l
end
theorem ExsV.mem {nv : Nat} : ∀ {l : List Ex}, ExsV nv l → ∀ x ∈ l, ExV nv x
  | [], _, _, h => by simp at h
  | y :: l, h, x, hx => by
    rw [ExsV] at h
    rcases List.mem_cons.1 hx with rfl | hx
    · exact h.1
    · exact ExsV.mem h.2 x hx
theorem StsV.mem {nv : Nat} : ∀ {l : List St}, StsV nv l → ∀ x ∈ l, StV nv x
  | [], _, _, h => by simp at h
  | y :: l, h, x, hx => by
    rw [StsV] at h
    rcases List.mem_cons.1 hx with rfl | hx
    · exact h.1
    · exact StsV.mem h.2 x hx
theorem fail_ok {e : JE} {b : Bool} {c l : Int} (h : e.fail b c = .ok l) : e = .ok l ∧ b = false := by
  cases e with
  | error d => simp [JE.fail] at h
  | ok a => cases b <;> simp [JE.fail] at h ⊢; exact h
theorem one_ok' {e : JE} {d l : Int} (h : e.one d = .ok l) : d ≤ 12 ∧ ∃ a, e = .ok a := by
  cases e with
  | error c => simp [JE.one] at h
  | ok a =>
    simp only [JE.one] at h
    split at h
    · simp at h
    · exact ⟨by omega, a, rfl⟩
theorem exHead_ok {nv deep op v n a b : Int} {k : Nat} (h : exHead nv deep op v n k (.ok a) = .ok b) :
    deep ≤ 12 ∧ (1 ≤ op ∧ op ≤ 8) ∧ (k : Int) = partsOf op ∧ (op = 2 ∨ op = 3 → 0 ≤ v ∧ v < nv) ∧ (n ≠ 0 → op = 1) := by
  rw [exHead, JE.named] at h
  obtain ⟨h, h5⟩ := fail_ok h
  obtain ⟨h, h4⟩ := fail_ok h
  obtain ⟨h, h3⟩ := fail_ok h
  obtain ⟨h, h2⟩ := fail_ok h
  obtain ⟨h1, -⟩ := one_ok' h
  simp only [decide_eq_false_iff_not] at h2 h3
  refine ⟨h1, ?_, by omega, ?_, fun hn => by omega⟩
  · have : 0 ≤ partsOf op := by omega
    rw [partsOf] at this
    constructor <;> · repeat' split at this
                      all_goals omega
  · intro ho
    simp only [ho, decide_true, Bool.true_and, decide_eq_false_iff_not] at h4
    omega
theorem exsV_of {nv : Nat} : ∀ (l : List Ex), (∀ x ∈ l, ∀ deep a b : Int, exE nv deep x (.ok a) = .ok b → ExV nv x ∧ deep + exH x ≤ 13) → ∀ deep a b : Int, deep ≤ 13 → exsE nv deep l (.ok a) = .ok b → ExsV nv l ∧ deep + exsH l ≤ 13
  | [], _, deep, a, b, hd, _ => by rw [ExsV, exsH]; exact ⟨trivial, by omega⟩
  | x :: l, h, deep, a, b, hd, hx => by
    rw [exsE] at hx
    cases e : exE nv deep x (.ok a) with
    | error c => rw [e, exsE_err] at hx; cases hx
    | ok a1 =>
      rw [e] at hx
      obtain ⟨g1, g2⟩ := h x (by simp) deep a a1 e
      obtain ⟨g3, g4⟩ := exsV_of l (fun y hy => h y (by simp [hy])) deep a1 b hd hx
      rw [ExsV, exsH]
      exact ⟨⟨g1, g3⟩, by omega⟩
theorem exV_of {nv : Nat} (x : Ex) : ∀ deep a b : Int, exE nv deep x (.ok a) = .ok b → ExV nv x ∧ deep + exH x ≤ 13 := by
  refine Ex.ind (P := fun x => ∀ deep a b : Int, exE nv deep x (.ok a) = .ok b → ExV nv x ∧ deep + exH x ≤ 13) ?_ x
  intro op v n l ih deep a b h
  rw [exE] at h
  cases e : exHead nv deep op v n l.length (.ok a) with
  | error c => rw [e, exsE_err] at h; cases h
  | ok a1 =>
    rw [e] at h
    obtain ⟨g1, g2, g3, g4, g5⟩ := exHead_ok e
    obtain ⟨g6, g7⟩ := exsV_of l ih (deep + 1) a1 b (by omega) h
    rw [ExV, exH]
    exact ⟨⟨g2, g3, g4, g5, g6⟩, by omega⟩
theorem stHead_ok {nv deep op v a b : Int} {e f : Ex} {kb ke : Nat} (h : stHead nv deep op v e f kb ke (.ok a) = .ok b) :
    deep ≤ 12 ∧ (1 ≤ op ∧ op ≤ 7) ∧ (needV op = true → 0 ≤ v ∧ v < nv) ∧ (needB op = false → kb = 0) ∧ (needO op = false → ke = 0) := by
  rw [stHead, JE.named] at h
  obtain ⟨h, h5⟩ := fail_ok h
  obtain ⟨h, h4⟩ := fail_ok h
  obtain ⟨h, h3⟩ := fail_ok h
  obtain ⟨h, h2⟩ := fail_ok h
  obtain ⟨h1, -⟩ := one_ok' h
  simp only [decide_eq_false_iff_not] at h2
  simp only [stForm, Bool.or_eq_false_iff, Bool.and_eq_false_imp, Bool.not_eq_true', decide_eq_false_iff_not] at h3
  refine ⟨h1, by omega, ?_, ?_, ?_⟩
  · intro ho
    simp only [ho, Bool.true_and, decide_eq_false_iff_not] at h4
    omega
  · intro hb; have := h3.1.2 hb; omega
  · intro hb; have := h3.2 hb; omega
theorem stsV_of {nv : Nat} : ∀ (l : List St), (∀ x ∈ l, ∀ deep a b : Int, 0 ≤ deep → stE nv deep x (.ok a) = .ok b → StV nv x) → ∀ deep a b : Int, 0 ≤ deep → stsE nv deep l (.ok a) = .ok b → StsV nv l
  | [], _, deep, a, b, _, _ => by rw [StsV]; trivial
  | x :: l, h, deep, a, b, hd, hx => by
    rw [stsE] at hx
    cases e : stE nv deep x (.ok a) with
    | error c => rw [e, stsE_err] at hx; cases hx
    | ok a1 =>
      rw [e] at hx
      rw [StsV]
      exact ⟨h x (by simp) deep a a1 hd e, stsV_of l (fun y hy => h y (by simp [hy])) deep a1 b hd hx⟩
theorem stV_of {nv : Nat} (x : St) : ∀ deep a b : Int, 0 ≤ deep → stE nv deep x (.ok a) = .ok b → StV nv x := by
  refine St.ind (P := fun x => ∀ deep a b : Int, 0 ≤ deep → stE nv deep x (.ok a) = .ok b → StV nv x) ?_ x
  intro op v e f body els ih jh deep a b hd h
  rw [stE] at h
  cases e1 : stHead nv deep op v e f body.length els.length (.ok a) with
  | error c => rw [e1, stEF_err, stsE_err, stsE_err] at h; cases h
  | ok a1 =>
    rw [e1] at h
    cases e2 : stEF nv (deep + 1) op e f (.ok a1) with
    | error c => rw [e2, stsE_err, stsE_err] at h; cases h
    | ok a2 =>
      rw [e2] at h
      cases e3 : stsE nv (deep + 1) body (.ok a2) with
      | error c => rw [e3, stsE_err] at h; cases h
      | ok a3 =>
        rw [e3] at h
        obtain ⟨g1, g2, g3, g4, g5⟩ := stHead_ok e1
        have hb := stsV_of body ih (deep + 1) a2 a3 (by omega) e3
        have he := stsV_of els jh (deep + 1) a3 b (by omega) h
        rw [StV]
        rw [stEF] at e2
        refine ⟨g2, g3, ?_, ?_, fun hn => List.eq_nil_of_length_eq_zero (g4 hn), fun hn => List.eq_nil_of_length_eq_zero (g5 hn), hb, he⟩
        · intro hn
          rw [if_pos hn] at e2
          cases e4 : exE nv (deep + 1) e (.ok a1) with
          | error c => simp only [e4, exE_err, ite_self] at e2; cases e2
          | ok a4 => obtain ⟨k1, k2⟩ := exV_of e _ _ _ e4; exact ⟨k1, by omega⟩
        · intro hn
          simp only [hn, if_true] at e2
          cases e4 : (if needE op = true then exE nv (deep + 1) e (.ok a1) else .ok a1 : JE) with
          | error c => rw [e4, exE_err] at e2; cases e2
          | ok a4 => rw [e4] at e2; obtain ⟨k1, k2⟩ := exV_of f _ _ _ e2; exact ⟨k1, by omega⟩
theorem check_valid {p : Pr} (h : checkP p = 0) : StsV p.vars.length p.body ∧ p.vars.length ≤ 8 ∧ (∀ x ∈ p.vars, 1 ≤ x.size) ∧ sizes p.vars ≤ 48 := by
  obtain ⟨h1, b, h2⟩ := check_ok h
  exact ⟨stsV_of p.body (fun x _ => stV_of x) 0 150 b (Int.le_refl _) h2, check_sizes h1⟩
end Go.Proofs.YthefnnkmpcgcmaaDoor

namespace Go.Proofs.YthefnnkmpcgcmaaDoor
open Go X
set_option maxHeartbeats 1000000
mutual
def ExW (nv : Nat) : Int → Ex → Prop
  | deep, .mk op v n l => deep ≤ 12 ∧ (1 ≤ op ∧ op ≤ 8) ∧ (l.length : Int) = partsOf op ∧ (op = 2 ∨ op = 3 → 0 ≤ v ∧ v < nv) ∧ (¬ (op = 2 ∨ op = 3) → v = 0) ∧ (n ≠ 0 → op = 1) ∧ ExsW nv (deep + 1) l
def ExsW (nv : Nat) : Int → List Ex → Prop
  | _, [] => True
  | deep, x :: l => ExW nv deep x ∧ ExsW nv deep l
end
mutual
def StW (nv : Nat) : Int → St → Prop
  | deep, .mk op v e f body els => deep ≤ 12 ∧ (1 ≤ op ∧ op ≤ 7) ∧ (needV op = true → 0 ≤ v ∧ v < nv) ∧ (needV op = false → v = 0) ∧ (needE op = true → ExW nv (deep + 1) e) ∧ (needE op = false → e = zeroX) ∧ (needF op = true → ExW nv (deep + 1) f) ∧ (needF op = false → f = zeroX) ∧
      (needB op = false → body = []) ∧ (needO op = false → els = []) ∧ StsW nv (deep + 1) body ∧ StsW nv (deep + 1) els
def StsW (nv : Nat) : Int → List St → Prop
  | _, [] => True
  | deep, x :: l => StW nv deep x ∧ StsW nv deep l
end
theorem ExsW.mem {nv : Nat} {deep : Int} : ∀ {l : List Ex}, ExsW nv deep l → ∀ x ∈ l, ExW nv deep x
  | [], _, _, h => by simp at h
  | y :: l, h, x, hx => by
    rw [ExsW] at h
    rcases List.mem_cons.1 hx with rfl | hx
    · exact h.1
    · exact ExsW.mem h.2 x hx
theorem StsW.mem {nv : Nat} {deep : Int} : ∀ {l : List St}, StsW nv deep l → ∀ x ∈ l, StW nv deep x
  | [], _, _, h => by simp at h
  | y :: l, h, x, hx => by
    rw [StsW] at h
    rcases List.mem_cons.1 hx with rfl | hx
    · exact h.1
    · exact StsW.mem h.2 x hx
theorem one_all {a d l : Int} (h : (JE.one (.ok a) d) = .ok l) : d ≤ 12 ∧ a ≠ 0 ∧ l = a - 1 := by
  simp only [JE.one] at h
  split at h
  · cases h
  · split at h
    · cases h
    · cases h; exact ⟨by omega, by assumption, rfl⟩
theorem exHead_all {nv deep op v n a b : Int} {k : Nat} (h : exHead nv deep op v n k (.ok a) = .ok b) :
    deep ≤ 12 ∧ (1 ≤ op ∧ op ≤ 8) ∧ (k : Int) = partsOf op ∧ (op = 2 ∨ op = 3 → 0 ≤ v ∧ v < nv) ∧ (¬ (op = 2 ∨ op = 3) → v = 0) ∧ (n ≠ 0 → op = 1) ∧ a ≠ 0 ∧ b = a - 1 := by
  obtain ⟨h1, h2, h3, h4, h5⟩ := exHead_ok h
  rw [exHead, JE.named] at h
  obtain ⟨h, q5⟩ := fail_ok h
  obtain ⟨h, q4⟩ := fail_ok h
  obtain ⟨h, q3⟩ := fail_ok h
  obtain ⟨h, q2⟩ := fail_ok h
  obtain ⟨-, k1, k2⟩ := one_all h
  refine ⟨h1, h2, h3, h4, fun ho => ?_, h5, k1, k2⟩
  simp only [ho, decide_false, Bool.not_false, Bool.true_and, decide_eq_false_iff_not] at q5
  exact Decidable.not_not.1 q5
theorem exsW_of {nv : Nat} : ∀ (l : List Ex), (∀ x ∈ l, ∀ deep a b : Int, 0 ≤ a → exE nv deep x (.ok a) = .ok b → ExW nv deep x ∧ b = a - exN x ∧ 0 ≤ b) → ∀ deep a b : Int, 0 ≤ a → exsE nv deep l (.ok a) = .ok b → ExsW nv deep l ∧ b = a - exsN l ∧ 0 ≤ b
  | [], _, deep, a, b, ha, hx => by rw [exsE] at hx; cases hx; rw [ExsW, exsN]; exact ⟨trivial, by omega, ha⟩
  | x :: l, h, deep, a, b, ha, hx => by
    rw [exsE] at hx
    cases e : exE nv deep x (.ok a) with
    | error c => rw [e, exsE_err] at hx; cases hx
    | ok a1 =>
      rw [e] at hx
      obtain ⟨g1, g2, g3⟩ := h x (by simp) deep a a1 ha e
      obtain ⟨g4, g5, g6⟩ := exsW_of l (fun y hy => h y (by simp [hy])) deep a1 b g3 hx
      rw [ExsW, exsN]
      exact ⟨⟨g1, g4⟩, by omega, g6⟩
theorem exW_of {nv : Nat} (x : Ex) : ∀ deep a b : Int, 0 ≤ a → exE nv deep x (.ok a) = .ok b → ExW nv deep x ∧ b = a - exN x ∧ 0 ≤ b := by
  refine Ex.ind (P := fun x => ∀ deep a b : Int, 0 ≤ a → exE nv deep x (.ok a) = .ok b → ExW nv deep x ∧ b = a - exN x ∧ 0 ≤ b) ?_ x
  intro op v n l ih deep a b ha h
  rw [exE] at h
  cases e : exHead nv deep op v n l.length (.ok a) with
  | error c => rw [e, exsE_err] at h; cases h
  | ok a1 =>
    rw [e] at h
    obtain ⟨g1, g2, g3, g4, g5, g6, g7, g8⟩ := exHead_all e
    obtain ⟨k1, k2, k3⟩ := exsW_of l ih (deep + 1) a1 b (by omega) h
    rw [ExW, exN]
    exact ⟨⟨g1, g2, g3, g4, g5, g6, k1⟩, by omega, k3⟩
theorem noneX_zero {x : Ex} (h : noneX x = true) : x = zeroX := by
  cases x with
  | mk op v n l =>
    have q : op = 0 ∧ v = 0 ∧ n = 0 ∧ l.length = 0 := of_decide_eq_true h
    obtain ⟨rfl, rfl, rfl, q4⟩ := q
    rw [List.eq_nil_of_length_eq_zero q4]; rfl
theorem stHead_all {nv deep op v a b : Int} {e f : Ex} {kb ke : Nat} (h : stHead nv deep op v e f kb ke (.ok a) = .ok b) :
    deep ≤ 12 ∧ (1 ≤ op ∧ op ≤ 7) ∧ (needV op = true → 0 ≤ v ∧ v < nv) ∧ (needV op = false → v = 0) ∧ (needE op = false → e = zeroX) ∧ (needF op = false → f = zeroX) ∧ (needB op = false → kb = 0) ∧ (needO op = false → ke = 0) ∧ a ≠ 0 ∧ b = a - 1 := by
  obtain ⟨h1, h2, h3, h4, h5⟩ := stHead_ok h
  rw [stHead, JE.named] at h
  obtain ⟨h, q5⟩ := fail_ok h
  obtain ⟨h, q4⟩ := fail_ok h
  obtain ⟨h, q3⟩ := fail_ok h
  obtain ⟨h, q2⟩ := fail_ok h
  obtain ⟨-, k1, k2⟩ := one_all h
  simp only [stForm, Bool.or_eq_false_iff, Bool.and_eq_false_imp, Bool.not_eq_true', decide_eq_false_iff_not] at q3
  refine ⟨h1, h2, h3, fun ho => ?_, fun ho => ?_, fun ho => ?_, h4, h5, k1, k2⟩
  · simp only [ho, Bool.not_false, Bool.true_and, decide_eq_false_iff_not] at q5
    exact Decidable.not_not.1 q5
  · have := q3.1.1.1 ho
    exact noneX_zero (by simpa using this)
  · have := q3.1.1.2 ho
    exact noneX_zero (by simpa using this)
theorem exN_zero : exN zeroX = 1 := rfl
theorem stsW_of {nv : Nat} : ∀ (l : List St), (∀ x ∈ l, ∀ deep a b : Int, 0 ≤ a → stE nv deep x (.ok a) = .ok b → StW nv deep x ∧ (stN x : Int) ≤ 3 * (a - b) ∧ 0 ≤ b) → ∀ deep a b : Int, 0 ≤ a → stsE nv deep l (.ok a) = .ok b → StsW nv deep l ∧ (stsN l : Int) ≤ 3 * (a - b) ∧ 0 ≤ b
  | [], _, deep, a, b, ha, hx => by rw [stsE] at hx; cases hx; rw [StsW, stsN]; exact ⟨trivial, by omega, ha⟩
  | x :: l, h, deep, a, b, ha, hx => by
    rw [stsE] at hx
    cases e : stE nv deep x (.ok a) with
    | error c => rw [e, stsE_err] at hx; cases hx
    | ok a1 =>
      rw [e] at hx
      obtain ⟨g1, g2, g3⟩ := h x (by simp) deep a a1 ha e
      obtain ⟨g4, g5, g6⟩ := stsW_of l (fun y hy => h y (by simp [hy])) deep a1 b g3 hx
      rw [StsW, stsN]
      exact ⟨⟨g1, g4⟩, by omega, g6⟩
theorem stW_of {nv : Nat} (x : St) : ∀ deep a b : Int, 0 ≤ a → stE nv deep x (.ok a) = .ok b → StW nv deep x ∧ (stN x : Int) ≤ 3 * (a - b) ∧ 0 ≤ b := by
  refine St.ind (P := fun x => ∀ deep a b : Int, 0 ≤ a → stE nv deep x (.ok a) = .ok b → StW nv deep x ∧ (stN x : Int) ≤ 3 * (a - b) ∧ 0 ≤ b) ?_ x
  intro op v e f body els ih jh deep a b ha h
  rw [stE] at h
  cases e1 : stHead nv deep op v e f body.length els.length (.ok a) with
  | error c => rw [e1, stEF_err, stsE_err, stsE_err] at h; cases h
  | ok a1 =>
    rw [e1] at h
    cases e2 : stEF nv (deep + 1) op e f (.ok a1) with
    | error c => rw [e2, stsE_err, stsE_err] at h; cases h
    | ok a2 =>
      rw [e2] at h
      cases e3 : stsE nv (deep + 1) body (.ok a2) with
      | error c => rw [e3, stsE_err] at h; cases h
      | ok a3 =>
        rw [e3] at h
        obtain ⟨g1, g2, g3, g4, g5, g6, g7, g8, g9, g10⟩ := stHead_all e1
        rw [stEF] at e2
        have hE : ∃ a4, (if needE op = true then exE nv (deep + 1) e (.ok a1) else .ok a1 : JE) = .ok a4 ∧ (needE op = true → ExW nv (deep + 1) e) ∧ (exN e : Int) ≤ a1 - a4 + 1 ∧ a4 ≤ a1 ∧ 0 ≤ a4 := by
          cases hn : needE op with
          | true =>
            cases e4 : exE nv (deep + 1) e (.ok a1) with
            | error c => simp only [hn, e4, if_true, exE_err, ite_self] at e2; cases e2
            | ok a4 =>
              obtain ⟨k1, k2, k3⟩ := exW_of e _ _ _ (by omega) e4
              exact ⟨a4, rfl, fun _ => k1, by omega, by omega, k3⟩
          | false =>
            have hz := g5 hn
            exact ⟨a1, rfl, fun q => (by cases q), by rw [hz, exN_zero]; omega, by omega, by omega⟩
        obtain ⟨a4, hE1, hE2, hE3, hE4, hE5⟩ := hE
        simp only [hE1] at e2
        have hF : (needF op = true → ExW nv (deep + 1) f) ∧ (exN f : Int) ≤ a4 - a2 + 1 ∧ a2 ≤ a4 ∧ 0 ≤ a2 := by
          cases hn : needF op with
          | true =>
            rw [hn, if_pos rfl] at e2
            obtain ⟨k1, k2, k3⟩ := exW_of f _ _ _ (by omega) e2
            exact ⟨fun _ => k1, by omega, by omega, k3⟩
          | false =>
            rw [hn] at e2
            have hz := g6 hn
            have e2 : a4 = a2 := by simpa using e2
            exact ⟨fun q => (by cases q), by rw [hz, exN_zero]; omega, by omega, by omega⟩
        obtain ⟨hF1, hF2, hF3, hF4⟩ := hF
        obtain ⟨hb1, hb2, hb3⟩ := stsW_of body ih (deep + 1) a2 a3 hF4 e3
        obtain ⟨he1, he2, he3⟩ := stsW_of els jh (deep + 1) a3 b hb3 h
        rw [StW, stN]
        exact ⟨⟨g1, g2, g3, g4, hE2, g5, hF1, g6, fun hn => List.eq_nil_of_length_eq_zero (g7 hn), fun hn => List.eq_nil_of_length_eq_zero (g8 hn), hb1, he1⟩, by omega, he3⟩
theorem varsGo_ok : ∀ (l seen : List Va) (n : Int), varsGo seen n l = 0 → (∀ x ∈ l, nameOk x.name = true ∧ 1 ≤ x.size) ∧ (∀ x ∈ l, ∀ w ∈ seen, w.name ≠ x.name) ∧ l.Pairwise (fun a b => a.name ≠ b.name)
  | [], seen, n, _ => ⟨fun x h => by simp at h, fun x h => by simp at h, List.Pairwise.nil⟩
  | v :: l, seen, n, h => by
    rw [varsGo] at h
    split at h
    · cases h
    · split at h
      · cases h
      · split at h
        · cases h
        · rename_i q1 q2 q3
          obtain ⟨g1, g2, g3⟩ := varsGo_ok l (seen ++ [v]) _ h
          refine ⟨fun x hx => ?_, fun x hx w hw => ?_, List.Pairwise.cons (fun x hx => g2 x hx v (by simp)) g3⟩
          · rcases List.mem_cons.1 hx with rfl | hx
            · exact ⟨by simpa using q1, by omega⟩
            · exact g1 x hx
          · rcases List.mem_cons.1 hx with rfl | hx
            · exact fun e => q2 ⟨w, hw, e⟩
            · exact g2 x hx w (by simp [hw])
/-- Of a program that is one. -/
structure PrW (p : Pr) : Prop where
  body : StsW p.vars.length 0 p.body
  count : stsN p.body ≤ 450
  vars : p.vars.length ≤ 8
  names : ∀ x ∈ p.vars, nameOk x.name = true ∧ 1 ≤ x.size ∧ x.size ≤ 48
  apart : p.vars.Pairwise (fun a b => a.name ≠ b.name)
theorem sizes_mem : ∀ (l : List Va), (∀ x ∈ l, 1 ≤ x.size) → (0 ≤ sizes l) ∧ ∀ x ∈ l, x.size ≤ sizes l
  | [], _ => ⟨by simp [sizes], fun x h => by simp at h⟩
  | v :: l, h => by
    obtain ⟨g1, g2⟩ := sizes_mem l (fun x hx => h x (by simp [hx]))
    have hv := h v (by simp)
    have e : sizes (v :: l) = v.size + sizes l := by simp [sizes]
    rw [e]
    refine ⟨by omega, fun x hx => ?_⟩
    rcases List.mem_cons.1 hx with rfl | hx
    · omega
    · have := g2 x hx; omega
theorem check_w {p : Pr} (h : checkP p = 0) : PrW p := by
  obtain ⟨h1, b, h2⟩ := check_ok h
  obtain ⟨g1, g2, g3⟩ := stsW_of p.body (fun x _ => stW_of x) 0 150 b (by decide) h2
  obtain ⟨k1, k2, k3⟩ := check_sizes h1
  rw [checkVars] at h1
  split at h1
  · cases h1
  · obtain ⟨m1, -, m3⟩ := varsGo_ok _ _ _ h1
    have hm := (sizes_mem _ k2).2
    exact ⟨g1, by omega, k1, fun x hx => ⟨(m1 x hx).1, k2 x hx, by have := hm x hx; omega⟩, m3⟩
/-! all numbers have 64 bits -/
mutual
def ExI : Ex → Prop
  | .mk _ _ n l => i64ok n ∧ ExsI l
def ExsI : List Ex → Prop
  | [] => True
  | x :: l => ExI x ∧ ExsI l
end
mutual
def StI : St → Prop
  | .mk _ _ e f body els => ExI e ∧ ExI f ∧ StsI body ∧ StsI els
def StsI : List St → Prop
  | [] => True
  | x :: l => StI x ∧ StsI l
end
theorem ExsI.mem : ∀ {l : List Ex}, ExsI l → ∀ x ∈ l, ExI x
  | [], _, _, h => by simp at h
  | y :: l, h, x, hx => by
    rw [ExsI] at h
    rcases List.mem_cons.1 hx with rfl | hx
    · exact h.1
    · exact ExsI.mem h.2 x hx
theorem ExsI.of : ∀ {l : List Ex}, (∀ x ∈ l, ExI x) → ExsI l
  | [], _ => by rw [ExsI]; trivial
  | y :: l, h => by rw [ExsI]; exact ⟨h y (by simp), ExsI.of fun x hx => h x (by simp [hx])⟩
theorem StsI.mem : ∀ {l : List St}, StsI l → ∀ x ∈ l, StI x
  | [], _, _, h => by simp at h
  | y :: l, h, x, hx => by
    rw [StsI] at h
    rcases List.mem_cons.1 hx with rfl | hx
    · exact h.1
    · exact StsI.mem h.2 x hx
theorem StsI.of : ∀ {l : List St}, (∀ x ∈ l, StI x) → StsI l
  | [], _ => by rw [StsI]; trivial
  | y :: l, h => by rw [StsI]; exact ⟨h y (by simp), StsI.of fun x hx => h x (by simp [hx])⟩
theorem rows_all {α : Type} {rows : List (List Value)} {l : List α} {Q : α → Prop} (h3 : rows.length = l.length) (h : ∀ (i : Nat) (row : List Value) (x : α), rows[i]? = some row → l[i]? = some x → Q x) : ∀ x ∈ l, Q x := by
  intro x hx
  obtain ⟨i, hi, rfl⟩ := List.mem_iff_getElem.1 hx
  exact h i _ _ (List.getElem?_eq_getElem (by omega)) (List.getElem?_eq_getElem hi)
theorem ExAt.i {σ : PH} {cs : List Value} {x : Ex} (h : ExAt σ cs x) : ExI x := by
  induction h with
  | mk rows ho hv hn h1 h2 h3 h4 h5 h6 ih => rw [ExI]; exact ⟨hn, ExsI.of (rows_all h3 ih)⟩
theorem StAt.i {σ : PH} {cs : List Value} {x : St} (h : StAt σ cs x) : StI x := by
  induction h with
  | mk rows qows ho hv he hf h1 h2 h3 h4 h5 h6 g1 g2 g3 g4 g5 g6 ih jh => rw [StI]; exact ⟨he.i, hf.i, StsI.of (rows_all h3 ih), StsI.of (rows_all g3 jh)⟩
theorem PSl.all {α : Type} {s : Nat} {R : RT α} {σ : PH} {sl : Value} {l : List α} {Q : α → Prop} (h : PSl s R σ sl l) (k : ∀ row x, R σ row x → Q x) : ∀ x ∈ l, Q x := by
  obtain ⟨p, c, rows, rfl, h1, h2, h3, h4, h5, h6⟩ := h
  exact rows_all h3 fun i row x a b => k row x (h5 i row x a b)
theorem PrAt.i {σ : PH} {cs : List Value} {p : Pr} (h : PrAt σ cs p) : StsI p.body := by
  obtain ⟨vs, bs, -, -, hb⟩ := h
  exact StsI.of (PSl.all hb fun _ _ h => h.i)
/-! how long the text is -/
theorem nameAt_le {vl : List Va} (h : ∀ x ∈ vl, nameOk x.name = true) (v : Int) : (nameAt vl v).size ≤ 8 := by
  rw [nameAt]
  cases e : vl[v.toNat]? with
  | none => exact Nat.zero_le _
  | some w => exact (nameOk_iff (h w (List.mem_of_getElem? e))).2.2
theorem word_le (k : Int) : (wordOf k).size ≤ 4 := by
  rw [wordOf]
  split
  · have hop : k = 1 ∨ k = 2 ∨ k = 3 ∨ k = 4 ∨ k = 5 ∨ k = 6 ∨ k = 7 ∨ k = 8 := by omega
    rcases hop with rfl | rfl | rfl | rfl | rfl | rfl | rfl | rfl <;> decide
  · decide
theorem verb_le (k : Int) : (verbOf k).size ≤ 6 := by
  rw [verbOf]
  split
  · have hop : k = 1 ∨ k = 2 ∨ k = 3 ∨ k = 4 ∨ k = 5 ∨ k = 6 ∨ k = 7 := by omega
    rcases hop with rfl | rfl | rfl | rfl | rfl | rfl | rfl <;> decide
  · decide
theorem headT_le {vl : List Va} (h : ∀ x ∈ vl, nameOk x.name = true) (op v : Int) {n : Int} (hn : i64ok n) : (headT vl op v n).size ≤ 22 := by
  have h1 := nameAt_le h v
  have h2 := itoaS_le hn
  have h3 : sp1.size = 1 := rfl
  rw [headT]
  split
  · rw [ByteArray.size_append]; omega
  · split
    · rw [ByteArray.size_append]; omega
    · exact Nat.zero_le _
theorem optT_le (b : Bool) (t : ByteArray) : (optT b t).size ≤ t.size := by
  rw [optT]; split
  · exact Nat.le_refl _
  · exact Nat.zero_le _
theorem exsT_le {vl : List Va} : ∀ (l : List Ex), (∀ x ∈ l, (exT vl x).size + 1 ≤ 30 * exN x) → (exsT vl l).size ≤ 30 * exsN l
  | [], _ => by rw [exsT]; exact Nat.zero_le _
  | x :: l, h => by
    have h1 := h x (by simp)
    have h2 := exsT_le l (fun y hy => h y (by simp [hy]))
    have h3 : sp1.size = 1 := rfl
    rw [exsT, exsN, ByteArray.size_append, ByteArray.size_append]; omega
theorem exT_le {vl : List Va} (hv : ∀ x ∈ vl, nameOk x.name = true) (x : Ex) : ExI x → (exT vl x).size + 1 ≤ 30 * exN x := by
  refine Ex.ind (P := fun x => ExI x → (exT vl x).size + 1 ≤ 30 * exN x) ?_ x
  intro op v n l ih hi
  rw [ExI] at hi
  have h1 := exsT_le (vl := vl) l (fun x hx => ih x hx (hi.2.mem x hx))
  have h2 := headT_le hv op v hi.1
  have h3 := word_le op
  rw [exT, exN]
  simp only [ByteArray.size_append]
  rw [show lpar.size = 1 from rfl, show rpar.size = 1 from rfl]
  omega
theorem stsT_le {vl : List Va} : ∀ (l : List St) (b : Bool), (∀ x ∈ l, (stT vl x).size + 1 ≤ 30 * stN x) → (stsT vl b l).size ≤ 30 * stsN l
  | [], b, _ => by rw [stsT]; exact Nat.zero_le _
  | x :: l, b, h => by
    have h1 := h x (by simp)
    have h2 := stsT_le l true (fun y hy => h y (by simp [hy]))
    have h3 := optT_le b sp1
    rw [show sp1.size = 1 from rfl] at h3
    rw [stsT, stsN, ByteArray.size_append, ByteArray.size_append]; omega
theorem stT_le {vl : List Va} (hv : ∀ x ∈ vl, nameOk x.name = true) (x : St) : StI x → (stT vl x).size + 1 ≤ 30 * stN x := by
  refine St.ind (P := fun x => StI x → (stT vl x).size + 1 ≤ 30 * stN x) ?_ x
  intro op v e f body els ih jh hi
  rw [StI] at hi
  obtain ⟨i1, i2, i3, i4⟩ := hi
  have h1 := exT_le hv e i1
  have h2 := exT_le hv f i2
  have h3 := stsT_le (vl := vl) body false (fun x hx => ih x hx (i3.mem x hx))
  have h4 := stsT_le (vl := vl) els false (fun x hx => jh x hx (i4.mem x hx))
  have h5 := verb_le op
  have h6 := nameAt_le hv v
  have o1 := optT_le (needV op) (sp1 ++ nameAt vl v)
  have o2 := optT_le (needE op) (sp1 ++ exT vl e)
  have o3 := optT_le (needF op) (sp1 ++ exT vl f)
  have o4 := optT_le (needB op) (sp1 ++ (lpar ++ (stsT vl false body ++ rpar)))
  have o5 := optT_le (needO op) (sp1 ++ (lpar ++ (stsT vl false els ++ rpar)))
  simp only [ByteArray.size_append, show lpar.size = 1 from rfl, show rpar.size = 1 from rfl, show sp1.size = 1 from rfl] at o1 o2 o3 o4 o5
  rw [stT, stN]
  simp only [ByteArray.size_append, show lpar.size = 1 from rfl, show rpar.size = 1 from rfl]
  omega
theorem bodyT_le {vl : List Va} (hv : ∀ x ∈ vl, nameOk x.name = true) : ∀ (l : List St), StsI l → (bodyT vl l).size ≤ 30 * stsN l
  | [], _ => by rw [bodyT]; exact Nat.zero_le _
  | x :: l, h => by
    rw [StsI] at h
    have h1 := stT_le hv x h.1
    have h2 := bodyT_le hv l h.2
    rw [bodyT, stsN]
    simp only [ByteArray.size_append, show nl1.size = 1 from rfl]
    omega
theorem varsT_le : ∀ (l : List Va), (∀ x ∈ l, nameOk x.name = true ∧ 1 ≤ x.size ∧ x.size ≤ 48) → (varsT l).size ≤ 35 * l.length
  | [], _ => by rw [varsT]; exact Nat.zero_le _
  | x :: l, h => by
    obtain ⟨g1, g2, g3⟩ := h x (by simp)
    have h2 := varsT_le l (fun y hy => h y (by simp [hy]))
    have h3 := (nameOk_iff g1).2.2
    have h4 := itoaS_le (n := x.size) ⟨by omega, by omega⟩
    rw [varsT, varT, List.length_cons]
    simp only [ByteArray.size_append, show nl1.size = 1 from rfl, show sp1.size = 1 from rfl, show kwLet.size = 3 from rfl]
    omega
theorem prT_le {p : Pr} (h : PrW p) (hi : StsI p.body) : (varsT p.vars).size ≤ 280 ∧ (bodyT p.vars p.body).size ≤ 13500 := by
  have h1 := varsT_le p.vars h.names
  have h2 := bodyT_le (fun x hx => (h.names x hx).1) p.body hi
  have h3 := h.count
  have h4 := h.vars
  omega
end Go.Proofs.YthefnnkmpcgcmaaDoor

namespace Go.Proofs.YthefnnkmpcgcmaaDoor
open Go X
set_option maxHeartbeats 1000000
abbrev noB : ByteArray := ByteArray.empty
def headPc (vl : List Va) (op v n : Int) : Pc := if op = 1 then [(sp1, tkN n)] else if op = 2 ∨ op = 3 then [(sp1, tkW (nameAt vl v))] else []
def optPc (b : Bool) (r : Pc) : Pc := if b = true then r else []
mutual
def exPc (vl : List Va) : ByteArray → Ex → Pc
  | z, .mk op v n l => (z, tkW lpar) :: (noB, tkW (wordOf op)) :: (headPc vl op v n ++ (exsPc vl l ++ [(noB, tkW rpar)]))
def exsPc (vl : List Va) : List Ex → Pc
  | [] => []
  | x :: l => exPc vl sp1 x ++ exsPc vl l
end
mutual
def stPc (vl : List Va) : ByteArray → St → Pc
  | z, .mk op v e f body els => (z, tkW lpar) :: (noB, tkW (verbOf op)) :: (optPc (needV op) [(sp1, tkW (nameAt vl v))] ++ (optPc (needE op) (exPc vl sp1 e) ++ (optPc (needF op) (exPc vl sp1 f) ++
      (optPc (needB op) ((sp1, tkW lpar) :: (stsPc vl noB body ++ [(noB, tkW rpar)])) ++ (optPc (needO op) ((sp1, tkW lpar) :: (stsPc vl noB els ++ [(noB, tkW rpar)])) ++ [(noB, tkW rpar)])))))
def stsPc (vl : List Va) : ByteArray → List St → Pc
  | _, [] => []
  | z, x :: l => stPc vl z x ++ stsPc vl sp1 l
end
def bodyPc (vl : List Va) : ByteArray → List St → Pc
  | _, [] => []
  | z, x :: l => stPc vl z x ++ bodyPc vl nl1 l
def varPc (z : ByteArray) (v : Va) : Pc := [(z, tkW kwLet), (sp1, tkW v.name), (sp1, tkN v.size)]
def varsPc : ByteArray → List Va → Pc
  | _, [] => []
  | z, v :: l => varPc z v ++ varsPc nl1 l
def endZ {α : Type} (z : ByteArray) : List α → ByteArray
  | [] => z
  | _ :: _ => nl1
def prPc (p : Pr) : Pc := varsPc noB p.vars ++ bodyPc p.vars (endZ noB p.vars) p.body
/-! the text -/
theorem joinB_one (z : ByteArray) (t : Tk) : joinB [(z, t)] = z ++ t.text := by rw [joinB, joinB, ByteArray.append_empty]
theorem headPc_text (vl : List Va) (op v n : Int) : joinB (headPc vl op v n) = headT vl op v n := by
  rw [headPc, headT]
  split
  · rw [joinB_one]; rfl
  · split
    · rw [joinB_one]; rfl
    · rfl
theorem optPc_text (b : Bool) {r : Pc} {t : ByteArray} (h : joinB r = t) : joinB (optPc b r) = optT b t := by
  rw [optPc, optT]
  split
  · exact h
  · rfl
theorem exsPc_text (vl : List Va) : ∀ (l : List Ex), (∀ x ∈ l, ∀ z, joinB (exPc vl z x) = z ++ exT vl x) → joinB (exsPc vl l) = exsT vl l
  | [], _ => by rw [exsPc, exsT, joinB]
  | x :: l, h => by rw [exsPc, exsT, joinB_app, h x (by simp), exsPc_text vl l (fun y hy => h y (by simp [hy])), ByteArray.append_assoc]
theorem exPc_text (vl : List Va) (x : Ex) : ∀ z, joinB (exPc vl z x) = z ++ exT vl x := by
  refine Ex.ind (P := fun x => ∀ z, joinB (exPc vl z x) = z ++ exT vl x) ?_ x
  intro op v n l ih z
  rw [exPc, exT, joinB, joinB, joinB_app, joinB_app, headPc_text, exsPc_text vl l ih, joinB_one, ByteArray.empty_append, ByteArray.empty_append]
  rfl
theorem stsPc_text (vl : List Va) : ∀ (l : List St) (b : Bool), (∀ x ∈ l, ∀ z, joinB (stPc vl z x) = z ++ stT vl x) → joinB (stsPc vl (optT b sp1) l) = stsT vl b l
  | [], b, _ => by rw [stsPc, stsT, joinB]
  | x :: l, b, h => by
    have e := stsPc_text vl l true (fun y hy => h y (by simp [hy]))
    rw [show optT true sp1 = sp1 from rfl] at e
    rw [stsPc, stsT, joinB_app, h x (by simp), e, ByteArray.append_assoc]
theorem stPc_text (vl : List Va) (x : St) : ∀ z, joinB (stPc vl z x) = z ++ stT vl x := by
  refine St.ind (P := fun x => ∀ z, joinB (stPc vl z x) = z ++ stT vl x) ?_ x
  intro op v e f body els ih jh z
  have hb := stsPc_text vl body false ih
  have he := stsPc_text vl els false jh
  rw [show optT false sp1 = noB from rfl] at hb he
  have h1 : joinB (optPc (needV op) [(sp1, tkW (nameAt vl v))]) = optT (needV op) (sp1 ++ nameAt vl v) := optPc_text _ (by rw [joinB_one]; rfl)
  have h2 : joinB (optPc (needE op) (exPc vl sp1 e)) = optT (needE op) (sp1 ++ exT vl e) := optPc_text _ (exPc_text vl e sp1)
  have h3 : joinB (optPc (needF op) (exPc vl sp1 f)) = optT (needF op) (sp1 ++ exT vl f) := optPc_text _ (exPc_text vl f sp1)
  have h4 : joinB (optPc (needB op) ((sp1, tkW lpar) :: (stsPc vl noB body ++ [(noB, tkW rpar)]))) = optT (needB op) (sp1 ++ (lpar ++ (stsT vl false body ++ rpar))) := optPc_text _ (by rw [joinB, joinB_app, hb, joinB_one, ByteArray.empty_append]; rfl)
  have h5 : joinB (optPc (needO op) ((sp1, tkW lpar) :: (stsPc vl noB els ++ [(noB, tkW rpar)]))) = optT (needO op) (sp1 ++ (lpar ++ (stsT vl false els ++ rpar))) := optPc_text _ (by rw [joinB, joinB_app, he, joinB_one, ByteArray.empty_append]; rfl)
  rw [stPc, stT, joinB, joinB, joinB_app, joinB_app, joinB_app, joinB_app, joinB_app, h1, h2, h3, h4, h5, joinB_one, ByteArray.empty_append, ByteArray.empty_append]
  rfl
theorem bodyPc_text (vl : List Va) : ∀ (l : List St) (z : ByteArray), joinB (bodyPc vl z l) ++ endZ z l = z ++ bodyT vl l
  | [], z => by rw [bodyPc, endZ, bodyT, joinB, ByteArray.empty_append, ByteArray.append_empty]
  | x :: l, z => by
    have e := bodyPc_text vl l nl1
    have e2 : endZ nl1 l = nl1 := by cases l <;> rfl
    rw [e2] at e
    rw [bodyPc, endZ, bodyT, joinB_app, stPc_text, ByteArray.append_assoc, e]
    simp only [ByteArray.append_assoc]
theorem varPc_text (z : ByteArray) (v : Va) : joinB (varPc z v) ++ nl1 = z ++ varT v := by
  rw [varPc, joinB, joinB, joinB_one, varT]
  simp only [ByteArray.append_assoc]
  rfl
theorem varsPc_text : ∀ (l : List Va) (z : ByteArray), joinB (varsPc z l) ++ endZ z l = z ++ varsT l
  | [], z => by rw [varsPc, endZ, varsT, joinB, ByteArray.empty_append, ByteArray.append_empty]
  | x :: l, z => by
    have e := varsPc_text l nl1
    have e2 : endZ nl1 l = nl1 := by cases l <;> rfl
    rw [e2] at e
    rw [varsPc, endZ, varsT, joinB_app, ByteArray.append_assoc, e, ← ByteArray.append_assoc, varPc_text, ByteArray.append_assoc]
theorem prPc_text (p : Pr) : joinB (prPc p) ++ endZ (endZ noB p.vars) p.body = prT p := by
  rw [prPc, joinB_app, ByteArray.append_assoc, bodyPc_text, ← ByteArray.append_assoc, varsPc_text, ByteArray.empty_append]; rfl
/-! the tokens stand apart -/
def Goods (r : Pc) : Prop := ∀ b, Good b r
theorem blank_sp1 : Blank sp1 := fun k hk => by
  have : k = 0 := by have : k < 1 := hk; omega
  subst this; rfl
theorem blank_nl1 : Blank nl1 := fun k hk => by
  have : k = 0 := by have : k < 1 := hk; omega
  subst this; rfl
theorem blank_endZ {α : Type} {z : ByteArray} (h : Blank z) (l : List α) : Blank (endZ z l) := by
  cases l with
  | nil => exact h
  | cons _ _ => exact blank_nl1
theorem Goods.lpar {z : ByteArray} {r : Pc} (hz : Blank z) (h : Good true r) : Goods ((z, tkW lpar) :: r) := fun _ => ⟨hz, word_lpar, .inr (.inr rfl), h⟩
theorem Goods.rpar {z : ByteArray} {r : Pc} (hz : Blank z) (h : Good true r) : Goods ((z, tkW rpar) :: r) := fun _ => ⟨hz, word_rpar, .inr (.inr rfl), h⟩
theorem Goods.sp {t : Tk} {r : Pc} (ht : Word t) (h : Goods r) : Goods ((sp1, t) :: r) := fun _ => ⟨blank_sp1, ht, .inr (.inl (Nat.le_refl _)), h _⟩
theorem Good.word {t : Tk} {r : Pc} (ht : Word t) (h : Goods r) : Good true ((noB, t) :: r) := ⟨blank_none, ht, .inl rfl, h _⟩
theorem headPc_good {vl : List Va} {nv : Nat} (hn : ∀ v : Int, 0 ≤ v → v < nv → nameOk (nameAt vl v) = true) {op v n : Int} (hi : i64ok n) (hv : op = 2 ∨ op = 3 → 0 ≤ v ∧ v < nv) {r : Pc} (h : Goods r) : Goods (headPc vl op v n ++ r) := by
  rw [headPc]
  split
  · exact Goods.sp (word_num hi) h
  · split
    · rename_i q
      obtain ⟨a, b⟩ := hv q
      exact Goods.sp (word_name (hn v a b)) h
    · exact h
theorem exsPc_good {vl : List Va} : ∀ (l : List Ex), (∀ x ∈ l, ∀ z, Blank z → ∀ r, Good true r → Goods (exPc vl z x ++ r)) → ∀ r, Goods r → Goods (exsPc vl l ++ r)
  | [], _, r, h => by rw [exsPc]; exact h
  | x :: l, hx, r, h => by
    rw [exsPc, List.append_assoc]
    exact hx x (by simp) sp1 blank_sp1 _ (exsPc_good l (fun y hy => hx y (by simp [hy])) r h true)
theorem exPc_good {vl : List Va} {nv : Nat} (hn : ∀ v : Int, 0 ≤ v → v < nv → nameOk (nameAt vl v) = true) (x : Ex) : ∀ deep, ExW nv deep x → ExI x → ∀ z, Blank z → ∀ r, Good true r → Goods (exPc vl z x ++ r) := by
  refine Ex.ind (P := fun x => ∀ deep, ExW nv deep x → ExI x → ∀ z, Blank z → ∀ r, Good true r → Goods (exPc vl z x ++ r)) ?_ x
  intro op v n l ih deep hw hi z hz r h
  rw [ExW] at hw
  rw [ExI] at hi
  obtain ⟨h1, h2, h3, h4, h5, h6, h7⟩ := hw
  rw [exPc, List.cons_append, List.cons_append, List.append_assoc, List.append_assoc]
  exact Goods.lpar hz (Good.word (word_name (name_word h2)) (headPc_good hn hi.1 h4 (exsPc_good l (fun x hx => ih x hx (deep + 1) (h7.mem x hx) (hi.2.mem x hx)) _ (Goods.rpar blank_none h))))
theorem optPc_good {b : Bool} {a r : Pc} (ha : b = true → Goods r → Goods (a ++ r)) (h : Goods r) : Goods (optPc b a ++ r) := by
  rw [optPc]
  split
  · exact ha (by assumption) h
  · exact h
theorem stsPc_good {vl : List Va} : ∀ (l : List St) (z : ByteArray), Blank z → (∀ x ∈ l, ∀ z, Blank z → ∀ r, Good true r → Goods (stPc vl z x ++ r)) → ∀ r, Goods r → Goods (stsPc vl z l ++ r)
  | [], z, _, _, r, h => by rw [stsPc]; exact h
  | x :: l, z, hz, hx, r, h => by
    rw [stsPc, List.append_assoc]
    exact hx x (by simp) z hz _ (stsPc_good l sp1 blank_sp1 (fun y hy => hx y (by simp [hy])) r h true)
theorem stPc_good {vl : List Va} {nv : Nat} (hn : ∀ v : Int, 0 ≤ v → v < nv → nameOk (nameAt vl v) = true) (x : St) : ∀ deep, StW nv deep x → StI x → ∀ z, Blank z → ∀ r, Good true r → Goods (stPc vl z x ++ r) := by
  refine St.ind (P := fun x => ∀ deep, StW nv deep x → StI x → ∀ z, Blank z → ∀ r, Good true r → Goods (stPc vl z x ++ r)) ?_ x
  intro op v e f body els ih jh deep hw hi z hz r h
  rw [StW] at hw
  rw [StI] at hi
  obtain ⟨h1, h2, h3, h4, h5, h6, h7, h8, h9, h10, h11, h12⟩ := hw
  obtain ⟨i1, i2, i3, i4⟩ := hi
  rw [stPc]
  simp only [List.cons_append, List.append_assoc, List.nil_append]
  refine Goods.lpar hz (Good.word (word_name (name_verb h2)) ?_)
  refine optPc_good (fun q k => Goods.sp (word_name (hn v (h3 q).1 (h3 q).2)) k) ?_
  refine optPc_good (fun q k => exPc_good hn e _ (h5 q) i1 sp1 blank_sp1 _ (k true)) ?_
  refine optPc_good (fun q k => exPc_good hn f _ (h7 q) i2 sp1 blank_sp1 _ (k true)) ?_
  refine optPc_good (fun q k => ?_) ?_
  · rw [List.cons_append, List.append_assoc]
    exact Goods.lpar blank_sp1 (stsPc_good body noB blank_none (fun x hx => ih x hx _ (h11.mem x hx) (i3.mem x hx)) _ (Goods.rpar blank_none (k true)) true)
  refine optPc_good (fun q k => ?_) ?_
  · rw [List.cons_append, List.append_assoc]
    exact Goods.lpar blank_sp1 (stsPc_good els noB blank_none (fun x hx => jh x hx _ (h12.mem x hx) (i4.mem x hx)) _ (Goods.rpar blank_none (k true)) true)
  exact Goods.rpar blank_none h
theorem bodyPc_good {vl : List Va} {nv : Nat} (hn : ∀ v : Int, 0 ≤ v → v < nv → nameOk (nameAt vl v) = true) {deep : Int} : ∀ (l : List St) (z : ByteArray), Blank z → StsW nv deep l → StsI l → Goods (bodyPc vl z l)
  | [], z, _, _, _ => fun b => by rw [bodyPc]; trivial
  | x :: l, z, hz, hw, hi => by
    rw [StsW] at hw
    rw [StsI] at hi
    rw [bodyPc]
    exact stPc_good hn x deep hw.1 hi.1 z hz _ (bodyPc_good hn l nl1 blank_nl1 hw.2 hi.2 true)
theorem varsPc_good {r : Pc} (h : Goods r) : ∀ (l : List Va) (z : ByteArray) (b : Bool), Blank z → (b = true ∨ 1 ≤ z.size) → (∀ x ∈ l, nameOk x.name = true ∧ 1 ≤ x.size ∧ x.size ≤ 48) → Good b (varsPc z l ++ r)
  | [], z, b, _, _, _ => by rw [varsPc]; exact h b
  | v :: l, z, b, hz, hb, hl => by
    obtain ⟨n1, n2, n3⟩ := hl v (by simp)
    have ih := fun b => varsPc_good h l nl1 b blank_nl1 (.inr (Nat.le_refl _)) (fun x hx => hl x (by simp [hx]))
    rw [varsPc, varPc]
    simp only [List.cons_append, List.append_assoc, List.nil_append]
    exact ⟨hz, word_name name_let, hb.imp id .inl, blank_sp1, word_name n1, .inr (.inl (Nat.le_refl _)), blank_sp1, word_num ⟨by omega, by omega⟩, .inr (.inl (Nat.le_refl _)), ih _⟩
theorem names_at {vl : List Va} (h : ∀ x ∈ vl, nameOk x.name = true) : ∀ v : Int, 0 ≤ v → v < vl.length → nameOk (nameAt vl v) = true := fun v h0 h1 => by
  have hk : v.toNat < vl.length := by omega
  rw [nameAt, List.getElem?_eq_getElem hk]
  exact h _ (List.getElem_mem hk)
theorem prPc_good {p : Pr} (h : PrW p) (hi : StsI p.body) : Good true (prPc p) := by
  have hn := names_at (fun x hx => (h.names x hx).1)
  exact varsPc_good (bodyPc_good hn p.body _ (blank_endZ blank_none _) h.body hi) p.vars noB true blank_none (.inl rfl) h.names
theorem scan_print {p : Pr} (h : PrW p) (hi : StsI p.body) (h6 : (prT p).size ≤ 6000) : ∃ m, scanP (prT p) = .ok m ∧ Eqv (toks (prPc p)) m := by
  have := scan_pc (T := endZ (endZ noB p.vars) p.body) (blank_endZ (blank_endZ blank_none _) _) (prPc_good h hi) (by rw [prPc_text]; exact h6)
  rwa [prPc_text] at this
end Go.Proofs.YthefnnkmpcgcmaaDoor

namespace Go.Proofs.YthefnnkmpcgcmaaDoor
open Go X
set_option maxHeartbeats 2000000
section
variable {P : Program} {N : Nat} {fn : Func} {σ : PH} {Γ : List HP}
end
end Go.Proofs.YthefnnkmpcgcmaaDoor

namespace Go.Proofs.YthefnnkmpcgcmaaDoor
open Go X
set_option maxHeartbeats 2000000
def parseP (s : ByteArray) : PErr Pr := match scanP s with
  | .error x => .error x
  | .ok l => match progP s.size l with
    | .error x => .error x
    | .ok (pr, _) => if checkP pr ≠ 0 then .error (checkP pr, -1) else .ok pr
end Go.Proofs.YthefnnkmpcgcmaaDoor

namespace Go.Proofs.YthefnnkmpcgcmaaDoor
open Go X
def NZ {α : Type} (a : PR α) : Prop := ∀ x, a = .error x → x.1 ≠ 0
theorem NZ.ok {α : Type} {y : α × List Tk} : NZ (.ok y : PR α) := fun x q => by cases q
end Go.Proofs.YthefnnkmpcgcmaaDoor

namespace Go.Proofs.YthefnnkmpcgcmaaDoor
open Go X
set_option maxHeartbeats 2000000
section
variable {P : Program} {ρ : Env} {S : Heap → Prop} {ty : TypeId} {σ : PH} {Γ Γ' : List HP}
theorem X.Rd.neqPtrSame {T T' e : TypeId} {x y : Operand} {r re : Ty} {a : Addr} (hT : tyOf P T = some r) (hk : r.k = .pointer e) (hE : tyOf P e = some re) (hx : ev ρ x = .pointer (some a)) (hy : ev ρ y = .pointer (some a)) : Rd P ρ S (.binOp .neq T x y T') ty (.bool false) := by
  refine .pure fun d pos af gd w => ?_
  obtain ⟨dd, i, z, e1, e2, -⟩ := tyOf_spec hT
  obtain ⟨dd', i', z', e1', e2', e3', -⟩ := tyOf_spec hE
  rw [hk] at e2
  cases dd <;> simp [kindOf] at e2
  rw [e2] at e1
  have h1 := Lib.run_neq_ptr_same (P := P) w a e1 e3'
  simp only [execOp, eqGuard, hx, hy, Sem.run_bind]
  simp [h1]
theorem X.Rd.eqPtrNull {T T' e : TypeId} {x : Operand} {r : Ty} {a : Option Addr} (hT : tyOf P T = some r) (hk : r.k = .pointer e) (hx : ev ρ x = .pointer a) : Rd P ρ S (.binOp .eql T x (.const (.pointer none)) T') ty (.bool a.isNone) := by
  refine .pure fun d pos af gd w => ?_
  obtain ⟨dd, i, z, e1, e2, -⟩ := tyOf_spec hT
  rw [hk] at e2
  cases dd <;> simp [kindOf] at e2
  rw [e2] at e1
  have hp : P.underlying T = some (.pointer (P.pointee T)) := by simp [Program.pointee, e1]
  have h1 := run_equal_pointer_nil (P := P) w T a hp
  simp only [execOp, eqGuard, hx, ev, binOp, Sem.run_bind]
  simp [h1]
theorem blk_shape {h : Heap} {g : Nat} {l : List Value} {T : TypeId} (hb : Blk h g l T) {w : World} (hw : w.heap = h) : w.shape? g = some (T, l.length) := by
  subst hw
  simp [World.shape?, hb.get]
theorem X.Rd.toUnsafe {T U e T' : TypeId} {x : Operand} {r re : Ty} {g : Nat} {l : List Value} (hT : tyOf P T = some r) (hk : r.k = .pointer e) (hE : tyOf P e = some re) (hz : Nat.beq re.size 0 = false) (hU : P.underlying U = some .unsafePointer) (hx : ev ρ x = .pointer (some ⟨g, 0, none⟩)) (s : Sel Γ (X.blk g l T') Γ') (hl : 0 < l.length) :
    Rd P ρ (Ho σ Γ) (.convert T U x) ty (.pointer (some ⟨g, 0, none⟩)) := ⟨fun d pos af gd w hS => by
  obtain ⟨dd, i, z, e1, e2, -⟩ := tyOf_spec hT
  obtain ⟨dd', i', z', e1', e2', e3', e4', -⟩ := tyOf_spec hE
  rw [hk] at e2
  cases dd <;> simp [kindOf] at e2
  rw [e2] at e1
  have hsz : i'.size ≠ 0 := by rw [e4']; intro h; rw [h] at hz; cases hz
  have h1 := Lib.run_to_unsafe (P := P) w ⟨g, 0, none⟩ e1 hU e3' hsz (blk_shape (hS.blk s) rfl) hl
  simp only [execOp, hx, Sem.run_bind]
  simp [h1]⟩
theorem X.Rd.fromUnsafe {T U e T' : TypeId} {x : Operand} {r re : Ty} {g n : Nat} {l : List Value} (hT : tyOf P T = some r) (hk : r.k = .pointer e) (hE : tyOf P e = some re) (hU : P.underlying U = some .unsafePointer) (hx : ev ρ x = .pointer (some ⟨g, 0, none⟩)) (s : Sel Γ (X.blk g l T') Γ') (hl : l.length = n) (hlies : liesAt P P.depth T' (n / P.cellsOf T') 0 e 1 = true) :
    Rd P ρ (Ho σ Γ) (.convert U T x) ty (.pointer (some ⟨g, 0, none⟩)) := ⟨fun d pos af gd w hS => by
  obtain ⟨dd, i, z, e1, e2, -⟩ := tyOf_spec hT
  obtain ⟨dd', i', z', e1', e2', e3', e4', -⟩ := tyOf_spec hE
  rw [hk] at e2
  cases dd <;> simp [kindOf] at e2
  rw [e2] at e1
  have h1 := Lib.run_from_unsafe (P := P) w ⟨g, 0, none⟩ hU e1 e3' (blk_shape (hS.blk s) rfl) (by rw [hl]; exact hlies)
  simp only [execOp, hx, Sem.run_bind]
  simp [h1]⟩
theorem X.Rd.noEscape {f : FuncId} {fn : Func} {x : Operand} {v : Value} {ats : Array TypeId} (hf : P.funcs[f]? = some fn) (hname : (fn.name == "runtime.NumGoroutine") = false) (hb : fn.body.isNone = true) (hn : Extern.findNext fn = none) (he : Extern.find fn = some Extern.AbiNoEscape.same) (hx : ev ρ x = v) :
    Rd P ρ S (.call { callee := .value (.func f), args := #[x], argTypes := ats }) ty v := by
  refine .pure fun d pos af gd w => ?_
  have h1 := run_callFunc_extern (P := P) hf hname hb hn he #[v] w
  rw [Lib.run_noEscape] at h1
  simp only [execOp, resolve, Sem.run_bind, ev, Deferred.ofValue, Sem.run_pure, Result.andThen_ok, invoke]
  simp [hx, h1]
theorem X.Rd.sliceData {x : Operand} {ats : Array TypeId} {a : Addr} {n c : Nat} (hx : ev ρ x = .slice (some a) n c) (hc : c ≠ 0) : Rd P ρ S (.call { callee := .builtin .unsafeSliceData, args := #[x], argTypes := ats }) ty (.pointer (some a)) := by
  refine .pure fun d pos af gd w => ?_
  have h1 := Lib.run_unsafeSliceData_row (P := P) w ats ty a n c hc
  simp only [execOp, resolve, invoke, builtin, Sem.run_bind, Sem.run_pure, Result.andThen_ok, List.map_toArray, List.map_cons, List.map_nil, hx]
  simp [hx, h1]
theorem X.Rd.sliceDataNil {x : Operand} {ats : Array TypeId} {n c : Nat} (hx : ev ρ x = .slice none n c) : Rd P ρ S (.call { callee := .builtin .unsafeSliceData, args := #[x], argTypes := ats }) ty (.pointer none) := by
  refine .pure fun d pos af gd w => ?_
  have h1 := Lib.run_unsafeSliceData_nil (P := P) w ats ty n c
  simp only [execOp, resolve, invoke, builtin, Sem.run_bind, Sem.run_pure, Result.andThen_ok, List.map_toArray, List.map_cons, List.map_nil, hx]
  simp [hx, h1]
theorem X.Rd.unsafeNone {x y : Operand} {pt it : TypeId} {p : Option Addr} (hx : ev ρ x = .pointer p) (hy : ev ρ y = i64 0) : Rd P ρ S (.call { callee := .builtin .unsafeString, args := #[x, y], argTypes := #[pt, it] }) ty (.string ByteArray.empty) := by
  refine .pure fun d pos af gd w => ?_
  have h1 := Lib.run_unsafeString_none (P := P) w pt it ty p
  simp only [execOp, resolve, invoke, builtin, Sem.run_bind, Sem.run_pure, Result.andThen_ok, List.map_toArray, List.map_cons, List.map_nil, hx, hy]
  simp [hx, hy, h1]
end
theorem get_freeze_ne {w : World} {p : Addr} {n k : Nat} (h : k ≠ p.block) : (w.freeze p n).heap[k]? = w.heap[k]? := by
  unfold World.freeze
  split
  · rfl
  · simp only [Array.getElem?_modify]; rw [if_neg (fun e => h e.symm)]
theorem same_freeze (w : World) (p : Addr) (n : Nat) : X.Same w (w.freeze p n) := by
  unfold World.freeze
  split
  · exact ⟨rfl, rfl, rfl⟩
  · exact ⟨rfl, rfl, rfl⟩
theorem X.Holds.dropLst {σ f : PH} {Γ Γ' : List HP} {h h' : Heap} {e size n c g : Nat} {xs : List Value} (x : Holds σ Γ f h) (s : Sel Γ (lst e size (.slice (some ⟨g, 0, none⟩) n c) n xs) Γ') (hb : ∀ k, k ≠ g → h'[k]? = h[k]?) : Holds σ Γ' f h' := by
  obtain ⟨m, a, b, c1, d, i, p, q⟩ := x
  obtain ⟨m1, m2, ⟨r0, r1⟩, r2, r3, r4, r5⟩ := s.to a
  have own : ∃ o, m1 g = some o := by
    rcases r1 with ⟨r1, -⟩ | ⟨g', cap, r1, cur, w1, -⟩
    · cases r1
    · simp only [Value.slice.injEq, Option.some.injEq, Addr.mk.injEq, and_true, true_and] at r1
      obtain ⟨rfl, -⟩ := r1
      exact ⟨_, w1⟩
  obtain ⟨o, ho⟩ := own
  have keep : ∀ {n : PH}, n.le h → m1.dis n → n.le h' := fun {n} hn hd k o' hk => by
    have hne : k ≠ g := fun e => by subst e; exact hd k _ _ ho hk
    rw [hb k hne]; exact hn k o' hk
  exact ⟨m2, r2, keep (r5.le b) r3, keep c1 (i.mono r4 (.refl _)), keep d (p.mono r4 (.refl _)), i.mono r5 (.refl _), p.mono r5 (.refl _), q⟩
section
variable {P : Program} {ρ : Env} {ty : TypeId} {σ : PH} {Γ Γ' : List HP}
theorem X.Wr.appendStr {h : Heap} {T U e : TypeId} {x y : Operand} {r ru re : Ty} {v : Value} {n : Nat} {xs : List Value} {s : ByteArray} {F : Nat → Prop} (hT : tyOf P T = some r) (hk : r.k = .slice e) (hU : tyOf P U = some ru) (hku : ru.k = .string) (hE : tyOf P e = some re) (hE1 : re.size = 1) (hEb : re.bytes = 1) (hEz : re.zero.length = 1)
    (hown : Own h e 1 v n xs F) (hs : ev ρ x = v) (hy : ev ρ y = .string s) (hb : n + s.size ≤ 1000000000) :
    Wr P ρ h (.call { callee := .builtin .append, args := #[x, y], argTypes := #[T, U] }) ty (fun v' h' => Own h' e 1 v' (n + s.size) (xs ++ Lib.strCells s) (fun k => F k ∨ h.size ≤ k) ∧ But h h' v.ownBlock ∧ (v = .slice none 0 0 → s.size = 0 → v' = .slice none 0 0)) noP := by
  refine Wr.run fun d pos af gd w hw => ?_
  obtain ⟨dd, i, z, e1, e2, -⟩ := tyOf_spec hT
  obtain ⟨du, iu, zu, u1, u2, -⟩ := tyOf_spec hU
  obtain ⟨dd', i', z', e1', e2', e3', e4', e5', e6', e7'⟩ := tyOf_spec hE
  rw [hk] at e2
  cases dd <;> simp [kindOf] at e2
  rw [e2] at e1
  clear e2
  rw [hku] at u2
  cases du <;> simp [kindOf] at u2
  rw [hE1] at e4'
  rw [hEb] at e5'
  have hzs : z'.cells.size = 1 := by rw [← Array.length_toList, e7', hEz]
  have h63 : n + s.size ≤ maxLen := by simp only [maxLen]; omega
  have hxl : xs.length = n := by simpa using hown.len
  have hlen : (xs ++ Lib.strCells s).length = (n + s.size) * 1 := by rw [List.length_append, hxl, Lib.strCells_length, Nat.mul_one]
  have grown : ∀ (old : Nat), old < n + s.size → ∀ (row : Option Nat),
      Own (w.drew.alloc (.cells (xs.toArray ++ (Lib.strCells s).toArray ++ Builtin.zeroCells z'.cells (grownCap w (n + s.size) old e - (n + s.size))) e)).heap e 1
        (.slice (some ⟨w.heap.size, 0, none⟩) (n + s.size) (grownCap w (n + s.size) old e)) (n + s.size) (xs ++ Lib.strCells s) (fun k => F k ∨ h.size ≤ k) ∧
      But h (w.drew.alloc (.cells (xs.toArray ++ (Lib.strCells s).toArray ++ Builtin.zeroCells z'.cells (grownCap w (n + s.size) old e - (n + s.size))) e)).heap row := by
    intro old ho row
    have hge := grownCap_ge w (n + s.size) old e
    have hcm : grownCap w (n + s.size) old e ≤ maxLen := grownCap_le_maxLen w (n + s.size) old e h63
    refine ⟨⟨hlen, .inr ⟨w.heap.size, _, (xs.toArray ++ (Lib.strCells s).toArray ++ Builtin.zeroCells z'.cells (grownCap w (n + s.size) old e - (n + s.size))).toList, rfl, .inr (by rw [← hw]; exact Nat.le_refl _), ?_, hge, hcm, ?_, ?_⟩⟩, ⟨by rw [← hw]; simp [World.alloc], fun k hk _ => by rw [← hw] at hk ⊢; exact get_push_old hk⟩⟩
    · exact ⟨by rw [Array.toArray_toList]; exact get_push_new rfl⟩
    · simp only [Array.length_toList, Array.size_append, List.size_toArray, size_zeroCells, hzs, hxl, Lib.strCells_length]
      omega
    · simp only [Array.toList_append, List.append_assoc]
      rw [← List.append_assoc, ← hlen]
      exact List.take_left
  have hexec : ∀ v' w', (Builtin.append_ #[T, U] ty #[v, .string s]).run P w = .ok v' w' → (execOp (ev ρ) ⟨d, .call { callee := .builtin .append, args := #[x, y], argTypes := #[T, U] }, ty, pos, af, gd⟩).run P w = .ok (.value v') w' := fun v' w' hr => by
    simp only [execOp, resolve, invoke, builtin, Sem.run_bind, Sem.run_pure, Result.andThen_ok, List.map_toArray, List.map_cons, List.map_nil, hs, hy, hr]
  rcases hown.alt with ⟨rfl, rfl⟩ | ⟨gg, cap, cur, rfl, hF, hg, hnc, hcm, hcs, htake⟩
  · have hx : xs = [] := List.eq_nil_of_length_eq_zero hxl
    subst hx
    by_cases hm : s.size = 0
    · have hn : Lib.strCells s = [] := List.eq_nil_of_length_eq_zero (by rw [Lib.strCells_length]; exact hm)
      have hf := Lib.run_firstCells_string (P := P) w 1 s
      rw [hm] at hf
      refine ⟨.slice none 0 0, w, hexec _ _ ?_, ⟨rfl, rfl, rfl⟩, by rw [hm, hn]; exact Own.nil _ _ _ _, ⟨by rw [hw]; exact Nat.le_refl _, fun k _ _ => by rw [hw]⟩, fun _ _ => rfl⟩
      simp [Builtin.append_, run_underlying e1, run_underlying u1, sizeOf, typeInfo, e3', e4', Builtin.lenOf, hm, hf]
    · have hr := run_append_nil_string (P := P) w T U ty e i' z' e1 u1 e3' e6' s (by omega) (by omega) (by rw [e5']; omega)
      have hgr := grown 0 (by omega) (Value.ownBlock (.slice none 0 0))
      simp only [Nat.zero_add, List.nil_append, Array.empty_append] at hgr ⊢
      have e1 : (s.data.map fun b => Value.int .u8 b.toNat) = (Lib.strCells s).toArray := by
        apply Array.ext'
        simp [Lib.strCells]
      rw [e1] at hr
      exact ⟨_, _, hexec _ _ hr, ⟨rfl, rfl, rfl⟩, hgr.1, hgr.2, fun _ h0 => absurd h0 hm⟩
  · have hgw : w.heap[gg]? = some (.cells cur.toArray e (0, 0)) := by rw [hw]; exact hg.get
    have hcs' : cap ≤ cur.length := by simpa using hcs
    by_cases hroom : n + s.size ≤ cap
    · have hr := Lib.run_append_room_string (P := P) w T U ty e i' e1 u1 e3' e4' gg n cap cur.toArray hgw s hroom (by simp; omega)
      refine ⟨_, _, hexec _ _ hr, ⟨rfl, rfl, rfl⟩, ⟨hlen, .inr ⟨gg, cap, cur.take n ++ Lib.strCells s ++ cur.drop (n + s.size), rfl, .inl hF, ?_, hroom, hcm, ?_, ?_⟩⟩, ⟨by rw [← hw]; simp, fun k _ hk => ?_⟩, fun h0 => by cases h0⟩
      · exact ⟨setRow_heap w gg cur.toArray _ e _ hgw⟩
      · simp only [List.length_append, List.length_take, List.length_drop, Lib.strCells_length]; omega
      · have ht' : cur.take n = xs := by simpa using htake
        rw [ht', ← hlen]
        exact List.take_left
      · rw [← hw]; exact setRow_other w gg k _ (fun e => hk (by simp [Value.ownBlock, e]))
    · have holds : ∀ j u, xs[j]? = some u → w.cell? ((⟨gg, 0, none⟩ : Addr).add j) = some u := fun j u hu => by
        rw [addr_add]
        rw [← htake] at hu
        have hc : cur[j]? = some u := by
          rw [List.getElem?_take] at hu
          split at hu
          · exact hu
          · cases hu
        simp [World.cell?, hgw, hc]
      have hr := Lib.run_append_grow_string (P := P) w T U ty e i' z' e1 u1 e3' e6' ⟨gg, 0, none⟩ n cap xs (by rw [e4', hxl, Nat.mul_one]) holds s (by omega) (by omega) (growslice_fits (by omega) (by rw [e5']; omega))
      have hgr := grown cap (by omega) (Value.ownBlock (.slice (some ⟨gg, 0, none⟩) n cap))
      exact ⟨_, _, hexec _ _ hr, ⟨rfl, rfl, rfl⟩, hgr.1, hgr.2, fun h0 => by cases h0⟩
theorem X.WrA.appendStr {T U e : TypeId} {x y : Operand} {r ru re : Ty} {v : Value} {n : Nat} {xs : List Value} {s : ByteArray} (hT : tyOf P T = some r) (hk : r.k = .slice e) (hU : tyOf P U = some ru) (hku : ru.k = .string) (hE : tyOf P e = some re) (hE1 : re.size = 1) (hEb : re.bytes = 1) (hEz : re.zero.length = 1)
    (hs : ev ρ x = v) (hy : ev ρ y = .string s) (sel : Sel Γ (lst e 1 v n xs) Γ') (h0 : n = 0 → v = .slice none 0 0) (hb : n + s.size ≤ 1000000000) :
    WrA P ρ σ Γ (.call { callee := .builtin .append, args := #[x, y], argTypes := #[T, U] }) ty (fun v' σ' Δ => ∃ p c, v' = .slice p (n + s.size) c ∧ (n + s.size = 0 → p = none ∧ c = 0) ∧ σ = σ' ∧ Δ = lst e 1 (.slice p (n + s.size) c) (n + s.size) (xs ++ Lib.strCells s) :: Γ') noPA :=
  ⟨fun f h hh => ⟨fun d pos af gd a w next Q' he hw hn hp =>
    (Wr.appendStr hT hk hU hku hE hE1 hEb hEz (hh.own sel) hs hy hb).out d pos af gd a w next Q' he hw (fun v' w' sm q => by
      obtain ⟨p, c, rfl⟩ := q.1.shape
      exact hn _ w' sm ⟨σ, _, ⟨p, c, rfl, fun hz => by
        have := q.2.2 (h0 (by omega)) (by omega)
        simp only [Value.slice.injEq] at this
        exact ⟨this.1, this.2.2⟩, rfl, rfl⟩, hh.app sel q.1 q.2.1⟩) (fun _ _ _ q => q.elim)⟩⟩
theorem X.WrA.unsafeString {x y : Operand} {pt it e : TypeId} {rp re : Ty} {g c : Nat} {acc : ByteArray} (hpt : tyOf P pt = some rp) (hk : rp.k = .pointer e) (hE : tyOf P e = some re) (hE1 : re.size = 1) (hx : ev ρ x = .pointer (some ⟨g, 0, none⟩)) (hy : ev ρ y = i64 acc.size) (s : Sel Γ (lst e 1 (.slice (some ⟨g, 0, none⟩) acc.size c) acc.size (Lib.strCells acc)) Γ') (h0 : 0 < acc.size) :
    WrA P ρ σ Γ (.call { callee := .builtin .unsafeString, args := #[x, y], argTypes := #[pt, it] }) ty (fun v σ' Δ => v = .string acc ∧ σ = σ' ∧ Δ = Γ') noPA := by
  obtain ⟨dd, i, z, e1, e2, -⟩ := tyOf_spec hpt
  rw [hk] at e2
  cases dd <;> simp [kindOf] at e2
  rw [e2] at e1
  refine Wr.toA (Q := fun h v h' => v = .string acc ∧ ∀ k, k ≠ g → h'[k]? = h[k]?) (fun h hh => Wr.run fun d pos af gd w hw => ?_) fun f h v h' hh ⟨e1, e2⟩ => ⟨σ, _, ⟨e1, rfl, rfl⟩, hh.dropLst s e2⟩
  obtain ⟨f, hh⟩ := hh
  have own := hh.own s
  rcases own.alt with ⟨h1, -⟩ | ⟨g', cap, cur, h1, h2, h3, h4, h5, h6, h7⟩
  · cases h1
  · simp only [Value.slice.injEq, Option.some.injEq, Addr.mk.injEq, and_true, true_and] at h1
    obtain ⟨rfl, rfl⟩ := h1
    have hgw : w.heap[g]? = some (.cells cur.toArray e (0, 0)) := by rw [hw]; exact h3.get
    have hsh : w.shape? g = some (e, cur.length) := blk_shape h3 hw
    have hl : acc.data.toList.length = acc.size := rfl
    have hlc : acc.size ≤ cur.length := by omega
    have hcell : ∀ (j : Nat) (x : UInt8), acc.data.toList[j]? = some x → w.cell? ((⟨g, 0, none⟩ : Addr).add j) = some (.int .u8 x.toNat) := fun j x hx => by
      have hu : (Lib.strCells acc)[j]? = some (.int .u8 x.toNat) := by rw [Lib.strCells, List.getElem?_map, hx]; rfl
      rw [addr_add]
      rw [← h7] at hu
      have hc : cur[j]? = some (.int .u8 x.toNat) := by
        rw [List.getElem?_take] at hu
        split at hu
        · exact hu
        · cases hu
      simp [World.cell?, hgw, hc]
    have hr := Lib.run_unsafeString_row (P := P) w pt it ty e e1 (by rw [cellsOf_ty hE, hE1]) g cur.length hsh acc.data.toList (fun h => by rw [← hl, h] at h0; exact Nat.lt_irrefl _ h0) (by omega) (by simp only [maxLen] at h5; omega) hcell
    rw [hl] at hr
    refine ⟨.string acc, w.freeze ⟨g, 0, none⟩ acc.size, ?_, same_freeze _ _ _, rfl, fun k hk => by rw [← hw]; exact get_freeze_ne hk⟩
    simp only [execOp, resolve, invoke, builtin, Sem.run_bind, Sem.run_pure, Result.andThen_ok, List.map_toArray, List.map_cons, List.map_nil, hx, hy, hr]
end
end Go.Proofs.YthefnnkmpcgcmaaDoor

namespace Go.Proofs.YthefnnkmpcgcmaaDoor
open Go X
set_option maxHeartbeats 2000000
def nptr (u : Bool) (b : Nat) : Value := .pointer (if u = true then some ⟨b, 0, none⟩ else none)
section
variable (σ : PH) (T : TypeId) (b : Nat) (vs : List Value)
theorem copy_r (u : Bool) (sl : Value) (hlies : liesAt Tryd.prog Tryd.prog.depth T ((vs.length + 2) / Tryd.prog.cellsOf T) 0 63 1 = true) :
    CallsA Tryd.prog 77 #[ptr b] σ [blk b (nptr u b :: sl :: vs) T] (RetA fun v σ' Γ' => v = .tuple #[] ∧ σ = σ' ∧ Γ' = [blk b (ptr b :: sl :: vs) T]) := by
  have hfit2 : ∀ _ : Unit, 0 + 1 ≤ vs.length + 1 + 1 := fun _ => by omega
  cases u with
  | true =>
    refine enterA1 Tryd.func77 rfl rfl rfl ?_
    refine zS (zR (zA rfl ?_)); refine zO rfl (Rd.nilCheck rfl) ?_; refine zV rfl rfl ?_; refine zB rfl rfl (tyrow rfl) rfl ?_; refine zO rfl (X.Rd.eqPtrNull (tyrow rfl) rfl rfl) ?_; refine zN (zT (XA.condF rfl rfl (zS (zR (zA rfl ?_))))); refine zO rfl (Rd.nilCheck rfl) ?_; refine zV rfl rfl ?_
    refine zB rfl rfl (tyrow rfl) rfl ?_; refine zA rfl ?_; refine zO rfl (X.Rd.neqPtrSame (tyrow rfl) rfl (tyrow rfl) rfl rfl) ?_; refine zN (zT (XA.condF rfl rfl (XA.skip ?_)))
    exact bodyA.normal (ResA.none rfl) zE ⟨rfl, rfl, rfl⟩
  | false =>
    refine enterA1 Tryd.func77 rfl rfl rfl ?_
    refine zS (zR (zA rfl ?_)); refine zO rfl (Rd.nilCheck rfl) ?_; refine zV rfl rfl ?_; refine zB rfl rfl (tyrow rfl) rfl ?_; refine zO rfl (X.Rd.eqPtrNull (tyrow rfl) rfl rfl) ?_; refine zN (zT (XA.condT rfl rfl (zR (zA rfl ?_)))); refine zA rfl ?_
    refine zO rfl (X.Rd.toUnsafe (tyrow rfl) rfl (tyrow rfl) rfl (by kernel_rfl) rfl zL (by simp)) ?_; refine zO rfl (X.Rd.noEscape Tryd.func98 (by kernel_rfl) (by kernel_rfl) (by kernel_rfl) (by kernel_rfl) rfl) ?_
    refine zO rfl (X.Rd.fromUnsafe (n := vs.length + 2) (tyrow rfl) rfl (tyrow rfl) (by kernel_rfl) rfl zL (by simp) hlies) ?_; refine zO rfl (Rd.nilCheck rfl) ?_; refine zV rfl rfl ?_
    clear hlies
    refine XOA.wr0 rfl (WrA.st (tyrow rfl) rfl) ?_
    rintro _ _ _ ⟨rfl, rfl, rfl⟩
    refine zN ?_
    exact bodyA.normal (ResA.none rfl) zE ⟨rfl, rfl, rfl⟩
theorem write_r (u : Bool) (p : Option Addr) (n c : Nat) (xs : List Value) (s : ByteArray) (hz : n = 0 → p = none ∧ c = 0) (hb : n + s.size ≤ 1000000000) (hlies : liesAt Tryd.prog Tryd.prog.depth T ((vs.length + 2) / Tryd.prog.cellsOf T) 0 63 1 = true) :
    CallsA Tryd.prog 49 #[ptr b, .string s] σ [blk b (nptr u b :: .slice p n c :: vs) T, lst 5 1 (.slice p n c) n xs] (RetA fun v σ' Γ' => ∃ p' c', v = .tuple #[i64 s.size, .nilIface] ∧ (n + s.size = 0 → p' = none ∧ c' = 0) ∧ σ = σ' ∧ Γ' = [blk b (ptr b :: .slice p' (n + s.size) c' :: vs) T, lst 5 1 (.slice p' (n + s.size) c') (n + s.size) (xs ++ Lib.strCells s)]) := by
  have hfit2 : ∀ _ : Unit, 1 + 1 ≤ vs.length + 1 + 1 := fun _ => by omega
  have h0 : n = 0 → (Value.slice p n c) = .slice none 0 0 := fun h => by obtain ⟨rfl, rfl⟩ := hz h; rw [h]
  have hcopy := copy_r σ T b vs u (.slice p n c) hlies
  clear hlies
  refine enterA2 Tryd.func49 rfl rfl rfl ?_
  refine zS (zR (zO rfl Rd.asg ?_)); refine zO rfl Rd.asg ?_; refine zN (zT (zS (zR (zA rfl ?_))))
  refine XOA.wr0 rfl (WrA.cE (hcopy) rfl) ?_
  rintro _ _ _ ⟨_, ⟨rfl, rfl, rfl⟩, rfl⟩
  refine XOA.cl ?_
  clear hcopy
  refine zN (zT (zS (zR (zA rfl ?_)))); refine zA rfl ?_; refine zO rfl (Rd.nilCheck rfl) ?_; refine zV rfl rfl ?_; refine zB rfl rfl (tyrow rfl) rfl ?_; refine zA rfl ?_
  refine XOA.wr0 rfl (X.WrA.appendStr (tyrow rfl) rfl (tyrow rfl) rfl (tyrow rfl) rfl rfl rfl rfl rfl zL h0 hb) ?_
  rintro _ _ _ ⟨p', c', rfl, hz', rfl, rfl⟩
  refine zO rfl (Rd.nilCheck rfl) ?_; refine zV rfl rfl ?_
  refine XOA.wr0 rfl (WrA.st (tyrow rfl) rfl) ?_
  rintro _ _ _ ⟨rfl, rfl, rfl⟩
  refine zN (zT (zS (zR (zA rfl ?_)))); refine zO rfl (Rd.lenString (tyrow rfl) rfl rfl) ?_; refine zO rfl Rd.asg ?_; refine zO rfl Rd.asg ?_; refine zN (zT (XA.ret ?_))
  exact bodyA.ret (ResA.two rfl rfl rfl) zE ⟨p', c', rfl, hz', rfl, rfl⟩
end
/-- A builder in the head of the block b: it holds acc; what stands behind it is vs. -/
def Bld (T : TypeId) (b : Nat) (vs : List Value) (acc : ByteArray) : HP := fun m => ∃ (u : Bool) (p : Option Addr) (c : Nat), (acc.size = 0 → p = none ∧ c = 0) ∧ Sat [blk b (nptr u b :: .slice p acc.size c :: vs) T, lst 5 1 (.slice p acc.size c) acc.size (Lib.strCells acc)] m
theorem Bld.o {T : TypeId} {b : Nat} {vs : List Value} {acc : ByteArray} : ∀ m, Bld T b vs acc m → ∃ x : Bool × (Option Addr × Nat), (acc.size = 0 → x.2.1 = none ∧ x.2.2 = 0) ∧ Sat [blk b (nptr x.1 b :: .slice x.2.1 acc.size x.2.2 :: vs) T, lst 5 1 (.slice x.2.1 acc.size x.2.2) acc.size (Lib.strCells acc)] m := fun m ⟨u, p, c, h1, h2⟩ => ⟨(u, (p, c)), h1, h2⟩
theorem Bld.mk {T : TypeId} {b : Nat} {vs : List Value} {acc : ByteArray} {p : Option Addr} {c : Nat} (u : Bool) (h : acc.size = 0 → p = none ∧ c = 0) : Ent [blk b (nptr u b :: .slice p acc.size c :: vs) T, lst 5 1 (.slice p acc.size c) acc.size (Lib.strCells acc)] [Bld T b vs acc] :=
  Ent.fold1 (Ent.refl _) fun m hm => ⟨u, p, c, h, hm⟩
theorem X.CallsA.post {P : Program} {f : FuncId} {vs : Array Value} {σ : PH} {Γ : List HP} {R R' : Value → PH → List HP → Prop} (hc : CallsA P f vs σ Γ (RetA R)) (k : ∀ v σ' Γ', R v σ' Γ' → ∃ Γ2, R' v σ' Γ2 ∧ Ent Γ' Γ2) : CallsA P f vs σ Γ (RetA R') :=
  ⟨hc.1, fun fr hp hh => (hc.2 fr hp hh).mono fun e h' ⟨σ', Γ', a, b⟩ => by
    cases e with
    | returned v => obtain ⟨Γ2, a2, he⟩ := k v σ' Γ' a; exact ⟨σ', Γ2, a2, b.ent he⟩
    | panicked c => exact a.elim
    | outgrown => exact a.elim⟩
theorem strCells_app (a b : ByteArray) : Lib.strCells (a ++ b) = Lib.strCells a ++ Lib.strCells b := by simp [Lib.strCells]
theorem lst_room {e size n c : Nat} {p : Option Addr} {xs : List Value} (hn : 0 < n) : ∀ m, lst e size (.slice p n c) n xs m → ∃ g : Nat, (p = some ⟨g, 0, none⟩ ∧ c ≠ 0) ∧ Sat [lst e size (.slice (some ⟨g, 0, none⟩) n c) n xs] m := fun m h => by
  have h0 := h
  obtain ⟨h1, ⟨h2, h3⟩ | ⟨g, cap, h2, cur, h3, h4, h5⟩⟩ := h
  · omega
  · simp only [Value.slice.injEq] at h2
    obtain ⟨rfl, -, rfl⟩ := h2
    exact ⟨g, ⟨rfl, by omega⟩, m, PH.none, h0, trivial, PH.none_dis m, .refl m, PH.none_sub _⟩
section
variable (σ : PH) (T : TypeId) (b : Nat) (vs : List Value)
theorem write_b (acc s : ByteArray) (hb : acc.size + s.size ≤ 1000000000) (hlies : liesAt Tryd.prog Tryd.prog.depth T ((vs.length + 2) / Tryd.prog.cellsOf T) 0 63 1 = true) :
    CallsA Tryd.prog 49 #[ptr b, .string s] σ [Bld T b vs acc] (RetA fun v σ' Γ' => v = .tuple #[i64 s.size, .nilIface] ∧ σ = σ' ∧ Γ' = [Bld T b vs (acc ++ s)]) := by
  refine CallsA.opn (s := Sel.head) Bld.o (enters Tryd.func49 rfl rfl) fun x hx => ?_
  refine (write_r σ T b vs x.1 x.2.1 acc.size x.2.2 (Lib.strCells acc) s hx hb hlies).post ?_
  rintro v σ' Γ' ⟨p', c', rfl, hz', rfl, rfl⟩
  refine ⟨_, ⟨rfl, rfl, rfl⟩, ?_⟩
  rw [← strCells_app, ← ByteArray.size_append]
  exact Bld.mk true (fun h => hz' (by rw [← ByteArray.size_append]; exact h))
theorem len_b (acc : ByteArray) : CallsA Tryd.prog 29 #[ptr b] σ [Bld T b vs acc] (RetA fun v σ' Γ' => v = i64 acc.size ∧ σ = σ' ∧ Γ' = [Bld T b vs acc]) := by
  refine CallsA.opn (s := Sel.head) Bld.o (enters Tryd.func29 rfl rfl) fun x hx => ?_
  obtain ⟨u, p, c⟩ := x
  simp only at hx
  refine CallsA.conv (Γ2 := [blk b (nptr u b :: .slice p acc.size c :: vs) T, lst 5 1 (.slice p acc.size c) acc.size (Lib.strCells acc)]) ?_ (Bld.mk u hx)
  show CallsA _ _ _ _ [blk b (nptr u b :: .slice p acc.size c :: vs) T, lst 5 1 (.slice p acc.size c) acc.size (Lib.strCells acc)] _
  refine enterA1 Tryd.func29 rfl rfl rfl ?_
  refine zS (zR (zO rfl Rd.asg ?_)); refine zN (zT (zS (zR (zA rfl ?_)))); refine zO rfl (Rd.nilCheck rfl) ?_; refine zV rfl rfl ?_; refine zB rfl rfl (tyrow rfl) rfl ?_; refine zO rfl (Rd.lenSlice (tyrow rfl) rfl rfl) ?_; refine zO rfl Rd.asg ?_; refine zN (zT (XA.ret ?_))
  exact bodyA.ret (ResA.one rfl rfl) zE ⟨rfl, rfl, rfl⟩
theorem string_b (acc : ByteArray) : CallsA Tryd.prog 30 #[ptr b] σ [Bld T b vs acc] (RetA fun v σ' Γ' => v = .string acc ∧ σ = σ' ∧ ∃ q sl, Γ' = [blk b (q :: sl :: vs) T]) := by
  refine CallsA.opn (s := Sel.head) Bld.o (enters Tryd.func30 rfl rfl) fun x hx => ?_
  obtain ⟨u, p, c⟩ := x
  simp only at hx
  by_cases h0 : acc.size = 0
  · obtain ⟨rfl, rfl⟩ := hx h0
    have ha : acc = ByteArray.empty := by
      apply ByteArray.ext; apply Array.eq_empty_of_size_eq_zero; exact h0
    rw [h0, ha]
    show CallsA _ _ _ _ [blk b (nptr u b :: .slice none 0 0 :: vs) T, lst 5 1 (.slice none 0 0) 0 (Lib.strCells ByteArray.empty)] _
    clear hx
    refine enterA1 Tryd.func30 rfl rfl rfl ?_
    refine zS (zR (zO rfl Rd.asg ?_)); refine zN (zT (zS ?_))
    refine XA.draw (by kernel_rfl) _ _ [10] [(0, .pu), (1, .pu), (2, .pu), (3, .rd), (5, .pu), (6, .pu), (7, .pu), (8, .rd), (9, .pu), (4, .wr), (10, .wr), (11, .pu)] (by kernel_rfl) (PH.sub.refl _) (Ent.sel (R := blk b _ _) zL (Ent.nil _)) ?_
    refine XPA.pu rfl rfl Gd.free Rd.mv ?_; refine XPA.pu rfl rfl Gd.free (Rd.nilCheck rfl) ?_; refine XPA.pu rfl rfl Gd.free (Rd.fA rfl) ?_; refine XPA.rd rfl rfl Gd.free (Rd.ldC rfl (tyrow rfl) rfl) ?_; refine XPA.pu rfl rfl Gd.free Rd.mv ?_; refine XPA.pu rfl rfl Gd.free (Rd.nilCheck rfl) ?_
    refine XPA.pu rfl rfl Gd.free (Rd.fA rfl) ?_; refine XPA.rd rfl rfl Gd.free (Rd.ldC rfl (tyrow rfl) rfl) ?_; refine XPA.pu rfl rfl Gd.free (Rd.lenSlice (tyrow rfl) rfl rfl) ?_
    refine XPA.wr0 rfl rfl Gd.free (X.Rd.toW (X.Rd.sliceDataNil rfl)) ?_
    rintro _ _ _ ⟨rfl, rfl, rfl⟩
    refine stays ?_
    refine XPA.wrZ0 rfl rfl Gd.free (by kernel_rfl) (X.Rd.toW (X.Rd.unsafeNone rfl rfl)) ?_
    rintro _ _ _ ⟨rfl, rfl, rfl⟩
    refine XPA.pu rfl rfl Gd.free Rd.asg ?_; refine XPA.nil ?_; refine zT (XA.ret ?_)
    exact bodyA.ret (ResA.one rfl rfl) zE ⟨rfl, rfl, _, _, rfl⟩
  · refine CallsA.opn (s := Sel.tail Sel.head) (lst_room (by omega)) (enters Tryd.func30 rfl rfl) fun g hg => ?_
    obtain ⟨rfl, hc⟩ := hg
    have hpos : 0 < acc.size := by omega
    show CallsA _ _ _ _ [lst 5 1 (.slice (some ⟨g, 0, none⟩) acc.size c) acc.size (Lib.strCells acc), blk b (nptr u b :: .slice (some ⟨g, 0, none⟩) acc.size c :: vs) T] _
    clear hx h0
    refine enterA1 Tryd.func30 rfl rfl rfl ?_
    refine zS (zR (zO rfl Rd.asg ?_)); refine zN (zT (zS ?_))
    refine XA.draw (by kernel_rfl) _ _ [10] [(0, .pu), (1, .pu), (2, .pu), (3, .rd), (5, .pu), (6, .pu), (7, .pu), (8, .rd), (9, .pu), (4, .wr), (10, .wr), (11, .pu)] (by kernel_rfl) (PH.sub.refl _) (Ent.sel (R := blk b _ _) zL (Ent.nil _)) ?_
    refine XPA.pu rfl rfl Gd.free Rd.mv ?_; refine XPA.pu rfl rfl Gd.free (Rd.nilCheck rfl) ?_; refine XPA.pu rfl rfl Gd.free (Rd.fA rfl) ?_; refine XPA.rd rfl rfl Gd.free (Rd.ldC rfl (tyrow rfl) rfl) ?_; refine XPA.pu rfl rfl Gd.free Rd.mv ?_; refine XPA.pu rfl rfl Gd.free (Rd.nilCheck rfl) ?_
    refine XPA.pu rfl rfl Gd.free (Rd.fA rfl) ?_; refine XPA.rd rfl rfl Gd.free (Rd.ldC rfl (tyrow rfl) rfl) ?_; refine XPA.pu rfl rfl Gd.free (Rd.lenSlice (tyrow rfl) rfl rfl) ?_
    refine XPA.wr0 rfl rfl Gd.free (X.Rd.toW (X.Rd.sliceData rfl hc)) ?_
    rintro _ _ _ ⟨rfl, rfl, rfl⟩
    refine stays ?_
    refine XPA.wrZ0 rfl rfl Gd.free (by kernel_rfl) (X.WrA.unsafeString (tyrow rfl) rfl (tyrow rfl) rfl rfl rfl zL hpos) ?_
    rintro _ _ _ ⟨rfl, rfl, rfl⟩
    refine XPA.pu rfl rfl Gd.free Rd.asg ?_; refine XPA.nil ?_; refine zT (XA.ret ?_)
    exact bodyA.ret (ResA.one rfl rfl) zE ⟨rfl, rfl, _, _, rfl⟩
end
end Go.Proofs.YthefnnkmpcgcmaaDoor

namespace Go.Proofs.YthefnnkmpcgcmaaDoor
open Go X
set_option maxHeartbeats 4000000
abbrev Wri (b : Nat) (v : Value) (acc : ByteArray) : HP := Bld 65 b [v] acc
theorem wri_lies : liesAt Tryd.prog Tryd.prog.depth 65 (([Value.slice none 0 0].length + 2) / Tryd.prog.cellsOf 65) 0 63 1 = true := by kernel_rfl
def catL : List ByteArray → ByteArray
  | [] => ByteArray.empty
  | a :: r => a ++ catL r
theorem catL_app : ∀ a b : List ByteArray, catL (a ++ b) = catL a ++ catL b
  | [], b => by rw [List.nil_append, catL, ByteArray.empty_append]
  | x :: r, b => by rw [List.cons_append, catL, catL, catL_app r b, ByteArray.append_assoc]
theorem catL_snoc {l : List ByteArray} {k : Nat} {s : ByteArray} (h : l[k]? = some s) : catL (l.take (k + 1)) = catL (l.take k) ++ s := by
  rw [List.take_add_one, h, Option.toList_some, catL_app, catL, catL, ByteArray.append_empty]
theorem catL_cut {l : List ByteArray} {k : Nat} {s : ByteArray} (h : l[k]? = some s) : (catL (l.take k)).size + s.size ≤ (catL l).size := by
  have e1 : catL l = catL (l.take (k + 1)) ++ catL (l.drop (k + 1)) := by rw [← catL_app, List.take_append_drop]
  rw [e1, catL_snoc h, ByteArray.size_append, ByteArray.size_append]; omega
theorem put_w (σ : PH) (b : Nat) (v : Value) (acc : ByteArray) (l : List ByteArray) (g c : Nat) (hb : acc.size + (catL l).size ≤ 1000000000) (hn : l.length ≤ 1000) :
    CallsA Tryd.prog 26 #[ptr b, .slice (some ⟨g, 0, none⟩) l.length c] σ [Wri b v acc, blk g (l.map Value.string) 9] (RetA fun r σ' Γ' => r = .tuple #[] ∧ σ = σ' ∧ Γ' = [Wri b v (acc ++ catL l)]) := by
  have hw := fun (a s : ByteArray) (h : a.size + s.size ≤ 1000000000) => write_b σ 65 b [v] a s h wri_lies
  refine enterA2 Tryd.func26 rfl rfl rfl ?_
  refine zS (zR (zA rfl ?_)); refine zO rfl (Rd.lenSlice (tyrow rfl) rfl rfl) ?_; refine zA rfl ?_; refine zN (zT (XA.block ?_))
  refine XA.gen [(0, _), (6, _), (7, _), (8, _)] ⟨(by with_reducible (conv => lhs; whnf)), (by with_reducible (conv => lhs; whnf)), (by with_reducible (conv => lhs; whnf)), (by with_reducible (conv => lhs; whnf)), trivial⟩ (fun δ => ?_)
  dsimp only [List.foldl]
  refine XA.loop [(5, 5), (8, 17)] (fun k : Nat => [(8, i64 k)]) (fun k σ' Γ' => σ = σ' ∧ k ≤ l.length ∧ Γ' = [Wri b v (acc ++ catL (l.take k)), blk g (l.map Value.string) 9]) (fun k => l.length - k) 0 (by exact ⟨rfl, trivial⟩) (Δ0 := _) ?_ (⟨rfl, Nat.zero_le _, by rw [List.take_zero, catL, ByteArray.append_empty]⟩) ?_
  · exact zE
  rintro k δ _ _ ⟨rfl, hk, rfl⟩
  dsimp only [ovr, List.foldl]
  have hk : k ≤ l.length := hk
  by_cases hlt : k < l.length
  · obtain ⟨s, hs⟩ : ∃ s, l[k]? = some s := ⟨l[k], by simp [hlt]⟩
    have hrow : (l.map Value.string)[k]? = some (.string s) := by rw [List.getElem?_map, hs]; rfl
    have hcut := catL_cut hs
    have hsn := catL_snoc hs
    have hbb : (acc ++ catL (l.take k)).size + s.size ≤ 1000000000 := by rw [ByteArray.size_append]; omega
    refine zS (zR (zO rfl (Rd.lss rfl rfl) ?_)); refine zN (zT (zS (XA.condT rfl (by first | rfl | exact decide_eq_true (by omega)) ?_))); refine XA.skip (zT (zS (XA.block (zS (zR (zO rfl (Rd.ixS rfl rfl) ?_)))))); refine zB rfl rfl (tyrow rfl) rfl ?_; refine zO rfl Rd.asg ?_
    refine zN (zT (zR (zA rfl ?_))); refine zO rfl (Rd.nilCheck rfl) ?_; refine zV rfl rfl ?_; refine zA rfl ?_
    refine XOA.wr0 rfl (WrA.cE (hw (acc ++ catL (l.take k)) s hbb) rfl) ?_
    rintro _ _ _ ⟨_, ⟨rfl, rfl, rfl⟩, rfl⟩
    refine XOA.cl ?_
    rw [ByteArray.append_assoc, ← hsn]
    refine zN (DA.inb_normal (zT (zR (zO rfl zI ?_)))); refine zA rfl ?_; refine zN (zT ?_)
    refine ⟨(Keep.upd (Keep.upd (Keep.updO (Keep.upd (Keep.upd (Keep.upd (Keep.upd (Keep.upd (Keep.upd (Keep.upd (Keep.upd (Keep.upd (Keep.hav (Keep.hav (Keep.refl _ _) rfl) rfl) rfl) rfl) rfl) rfl) rfl) rfl) rfl) rfl) rfl) rfl) rfl) rfl), k + 1, _, zM, ?_, ⟨rfl, hlt, rfl⟩, (by omega)⟩
    · exact zE
  · have e : l.take k = l := List.take_of_length_le (by omega)
    rw [e]
    refine zS (zR (zO rfl (Rd.lss rfl rfl) ?_)); refine zN (zT (zS (XA.condF rfl (by first | rfl | exact decide_eq_false (by omega)) ?_))); refine XA.exit (DA.thn_exit (DA.thn_exit (DA.inb_same ?_)))
    exact bodyA.normal (ResA.none rfl) zE ⟨rfl, rfl, rfl⟩
theorem X.CallsA.pre {P : Program} {f : FuncId} {vs : Array Value} {σ : PH} {Γ Γ0 : List HP} {R : Ending → PH → List HP → Prop} (he : Ent Γ Γ0) (hc : CallsA P f vs σ Γ0 R) : CallsA P f vs σ Γ R := ⟨hc.1, fun fr h hh => hc.2 fr h (hh.ent he)⟩
section
variable (σ : PH) (b : Nat) (v : Value) (acc : ByteArray) (g c : Nat)
theorem put1 (s : ByteArray) (hb : acc.size + s.size ≤ 1000000000) : CallsA Tryd.prog 26 #[ptr b, .slice (some ⟨g, 0, none⟩) 1 c] σ [Wri b v acc, blk g [.string s] 9] (RetA fun r σ' Γ' => r = .tuple #[] ∧ σ = σ' ∧ Γ' = [Wri b v (acc ++ s)]) := by
  have e : catL [s] = s := by rw [catL, catL, ByteArray.append_empty]
  have := put_w σ b v acc [s] g c (by rw [e]; exact hb) (by simp)
  rwa [e] at this
theorem put2 (s t : ByteArray) (hb : acc.size + (s.size + t.size) ≤ 1000000000) : CallsA Tryd.prog 26 #[ptr b, .slice (some ⟨g, 0, none⟩) 2 c] σ [Wri b v acc, blk g [.string s, .string t] 9] (RetA fun r σ' Γ' => r = .tuple #[] ∧ σ = σ' ∧ Γ' = [Wri b v (acc ++ (s ++ t))]) := by
  have e : catL [s, t] = s ++ t := by rw [catL, catL, catL, ByteArray.append_empty]
  have := put_w σ b v acc [s, t] g c (by rw [e, ByteArray.size_append]; exact hb) (by simp)
  rwa [e] at this
theorem put2o (u : Bool) (p : Option Addr) (d : Nat) (hz : acc.size = 0 → p = none ∧ d = 0) (s t : ByteArray) (hb : acc.size + (s.size + t.size) ≤ 1000000000) : CallsA Tryd.prog 26 #[ptr b, .slice (some ⟨g, 0, none⟩) 2 c] σ [blk b [nptr u b, .slice p acc.size d, v] 65, lst 5 1 (.slice p acc.size d) acc.size (Lib.strCells acc), blk g [.string s, .string t] 9] (RetA fun r σ' Γ' => r = .tuple #[] ∧ σ = σ' ∧ Γ' = [Wri b v (acc ++ (s ++ t))]) :=
  CallsA.pre (Ent.fold (Θ := [blk b [nptr u b, .slice p acc.size d, v] 65, lst 5 1 (.slice p acc.size d) acc.size (Lib.strCells acc)]) (Ent.refl _) (fun m hm => ⟨u, p, d, hz, hm⟩) (Ent.refl _)) (put2 σ b v acc g c s t hb)
end
theorem exsT_snoc (vl : List Va) {l : List Ex} {k : Nat} {x : Ex} (h : l[k]? = some x) : exsT vl (l.take (k + 1)) = exsT vl (l.take k) ++ (sp1 ++ exT vl x) := by
  rw [List.take_add_one, h, Option.toList_some, exsT_app, exsT, exsT, ByteArray.append_empty]
theorem exsT_cut (vl : List Va) {l : List Ex} {k : Nat} {x : Ex} (h : l[k]? = some x) : (exsT vl (l.take k)).size + (1 + (exT vl x).size) ≤ (exsT vl l).size := by
  have e1 : exsT vl l = exsT vl (l.take (k + 1)) ++ exsT vl (l.drop (k + 1)) := by rw [← exsT_app, List.take_append_drop]
  have e2 : sp1.size = 1 := rfl
  rw [e1, exsT_snoc vl h]; simp only [ByteArray.size_append]; omega
def PExOK (x : Ex) : Prop := ∀ (σ : PH) (cs : List Value) (b : Nat) (pv : Option Addr) (cv : Nat) (vl : List Va) (acc : ByteArray), ExAt σ cs x → PSl 2 rVa σ (.slice pv vl.length cv) vl → ExV vl.length x → Tab σ → acc.size + (exT vl x).size ≤ 1000000 →
  CallsA Tryd.prog 52 #[ptr b, .agg cs.toArray] σ [Wri b (.slice pv vl.length cv) acc] (RetA fun r σ' Γ' => r = .tuple #[] ∧ σ = σ' ∧ Γ' = [Wri b (.slice pv vl.length cv) (acc ++ exT vl x)])
theorem nameAt_get {vl : List Va} {k : Nat} {w : Va} (h : vl[k]? = some w) : nameAt vl (k : Int) = w.name := by rw [nameAt, Int.toNat_natCast, h]; rfl
theorem pexpr_w (x : Ex) : PExOK x := by
  refine Ex.ind (P := PExOK) ?_ x
  intro op v n l ih σ cs b pv cv vl acc hx hv hok hT hb
  obtain ⟨p, c, rfl, ho, hvv, hn, hl⟩ := hx.inv
  simp only [Ex.op, Ex.v, Ex.n, Ex.l] at hl ho hvv hn ⊢
  clear hx
  rw [ExV] at hok
  obtain ⟨h8, hparts, hvar, -, hsubs⟩ := hok
  have hlen : l.length ≤ maxLen := by
    obtain ⟨q, d, e1, h1, h2⟩ := hl.shape
    omega
  simp only [maxLen] at hlen
  have hlp : lpar.size = 1 := rfl
  have hrp : rpar.size = 1 := rfl
  have hs1 : sp1.size = 1 := rfl
  have hE : exT vl (.mk op v n l) = lpar ++ (wordOf op ++ (headT vl op v n ++ (exsT vl l ++ rpar))) := by rw [exT]
  rw [hE] at hb ⊢
  simp only [ByteArray.size_append] at hb
  obtain ⟨hd, hhd⟩ : ∃ hd, headT vl op v n = hd := ⟨_, rfl⟩
  rw [hhd] at hb ⊢
  refine enterA2 Tryd.func52 rfl rfl rfl ?_
  refine zS (zR ?_)
  refine XOA.wr0 rfl WrA.bx ?_
  rintro _ _ _ ⟨g3, rfl, rfl, rfl⟩
  refine zN (zT (zS (zR (zA rfl ?_)))); refine zV rfl rfl ?_; refine zB rfl rfl (tyrow rfl) rfl ?_
  refine XOA.wr0 rfl (WrA.cE (word_p σ op) rfl) ?_
  rintro _ _ _ ⟨_, ⟨rfl, rfl, rfl⟩, rfl⟩
  refine XOA.cl ?_
  refine XOA.wr0 rfl (WrA.bs (fun _ _ => tyrow) rfl rfl rfl rfl rfl) ?_
  rintro _ _ _ ⟨g10, rfl, rfl, rfl⟩
  refine XOA.wr0 rfl (WrA.cE (put2 σ b _ acc g10 2 lpar (wordOf op) (by omega)) rfl) ?_
  rintro _ _ _ ⟨_, ⟨rfl, rfl, rfl⟩, rfl⟩
  refine XOA.cl ?_; refine zN (zT (zS (zS (zR (zV rfl rfl ?_))))); refine zB rfl rfl (tyrow rfl) rfl ?_; refine zN (zT ?_)
  refine XA.join [(14, 36)] (fun _ : Unit => []) (fun _ σ' Γ' => σ = σ' ∧ Γ' = [Wri b (.slice pv vl.length cv) (acc ++ (lpar ++ (wordOf op ++ hd))), blk g3 [i64 op, i64 v, i64 n, .slice p l.length c] 54]) ?_ ?_
  · refine XA.block ?_
    refine zS (zR (zO rfl (Rd.eql rfl rfl) ?_)); refine zO rfl Rd.asg ?_; refine zN (zT ?_)
    refine XA.condp rfl (fun h1 => ?_) (fun h1 => ?_)
    · have e1 : hd = sp1 ++ itoaS n := by rw [← hhd, headT, if_pos h1]
      have e2 : acc ++ (lpar ++ wordOf op) ++ (sp1 ++ itoaS n) = acc ++ (lpar ++ (wordOf op ++ hd)) := by rw [e1]; simp only [ByteArray.append_assoc]
      have hb2 : (acc ++ (lpar ++ wordOf op)).size + (sp1.size + (itoaS n).size) ≤ 1000000000 := by rw [e1, ByteArray.size_append] at hb; simp only [ByteArray.size_append]; omega
      refine zR (zA rfl ?_); refine zV rfl rfl ?_; refine zB rfl rfl (tyrow rfl) rfl ?_
      refine XOA.wr0 rfl (WrA.cE (itoa_a σ n hn.1 hn.2 hT) rfl) ?_
      rintro _ _ _ ⟨_, ⟨rfl, rfl, rfl⟩, rfl⟩
      refine XOA.cl ?_
      refine XOA.wr0 rfl (WrA.bs (fun _ _ => tyrow) rfl rfl rfl rfl rfl) ?_
      rintro _ _ _ ⟨g20, rfl, rfl, rfl⟩
      refine XOA.wr0 rfl (WrA.cE (put2 σ b _ (acc ++ (lpar ++ wordOf op)) g20 2 sp1 (itoaS n) hb2) rfl) ?_
      rintro _ _ _ ⟨_, ⟨rfl, rfl, rfl⟩, rfl⟩
      refine XOA.cl ?_; refine zN (DA.inb_normal (zT ?_))
      refine ⟨(Keep.updO (Keep.updO (Keep.updO (Keep.upd (Keep.upd (Keep.upd (Keep.upd (Keep.upd (Keep.refl _ _) rfl) rfl) rfl) rfl) rfl) rfl) rfl) rfl), (), _, zM, ?_, ⟨rfl, rfl⟩⟩
      · rw [e2]; exact zE
    · refine zS ?_
      refine zS (zR (zO rfl (Rd.eql rfl rfl) ?_)); refine zO rfl Rd.asg ?_; refine zN (zT ?_)
      by_cases h2 : op = 2 ∨ op = 3
      · obtain ⟨hv0, hv1⟩ := hvar h2
        obtain ⟨k, rfl⟩ : ∃ k : Nat, v = k := ⟨v.toNat, by omega⟩
        have hkl : k < vl.length := by omega
        obtain ⟨w, hw⟩ : ∃ w, vl[k]? = some w := ⟨vl[k], by simp [hkl]⟩
        obtain ⟨gg, o, row, rfl, ⟨rfl, -, -⟩, -, hrow⟩ := hv.at hw
        have a0 : PRow σ gg (o + k * 2) [.string w.name] := hrow.sub (j := 0) rfl
        have e1 : hd = sp1 ++ w.name := by rw [← hhd, headT, if_neg h1, if_pos h2, nameAt_get hw]
        have e2 : acc ++ (lpar ++ wordOf op) ++ (sp1 ++ w.name) = acc ++ (lpar ++ (wordOf op ++ hd)) := by rw [e1]; simp only [ByteArray.append_assoc]
        have hb2 : (acc ++ (lpar ++ wordOf op)).size + (sp1.size + w.name.size) ≤ 1000000000 := by rw [e1, ByteArray.size_append] at hb; simp only [ByteArray.size_append]; omega
        have hlt : (0 : Int) ≤ k ∧ (k : Int) < (vl.length : Nat) := ⟨by omega, by omega⟩
        refine XA.join [(22, 22), (24, 24)] (fun _ : Unit => [(22, .bool true)]) (fun _ σ' Γ' => σ = σ' ∧ Γ' = [Wri b (.slice (some ⟨gg, o, none⟩) vl.length cv) (acc ++ (lpar ++ wordOf op)), blk g3 [i64 op, i64 k, i64 n, .slice p l.length c] 54]) ?_ ?_
        · skip
          rcases h2 with rfl | rfl
          · refine XA.condT rfl rfl ?_
            refine XA.skip (zT ?_)
            refine ⟨(Keep.refl _ _), (), _, zM, ?_, ⟨rfl, rfl⟩⟩
            · exact zE
          · skip
            refine XA.condF rfl rfl (zR (zO rfl (Rd.eql rfl rfl) ?_)); refine zO rfl Rd.asg ?_; refine zN (zT ?_)
            refine ⟨(Keep.upd (Keep.upd (Keep.refl _ _) rfl) rfl), (), _, zM, ?_, ⟨rfl, rfl⟩⟩
            · exact zE
        rintro _ δ _ _ ⟨rfl, rfl⟩
        dsimp only [ovr, List.foldl]
        refine zT (XA.condT rfl rfl ?_)
        first | refine XA.opn (R := Wri b _ _) zL (Bld.o) ?_ | refine XOA.opn (R := Wri b _ _) zL (Bld.o) ?_ | refine DA.opn (R := Wri b _ _) zL (Bld.o) ?_
        rintro ⟨u, pz, cz⟩ hz
        first | refine XA.cl ?_ | refine XOA.cl ?_ | refine DA.cl ?_
        simp only at hz
        refine XA.draw (by kernel_rfl) _ _ [10, 11] [(0, .pu), (1, .pu), (2, .pu), (3, .pu), (4, .rd), (5, .pu), (6, .rd), (7, .pu), (8, .pu), (9, .rd), (10, .wr), (11, .wr)] (by kernel_rfl) (PH.sub.refl _) (Ent.sel (R := blk b _ _) zL (Ent.sel (R := blk g3 _ _) zL (Ent.nil _))) ?_
        refine XPA.pu rfl rfl Gd.free Rd.mv ?_; refine XPA.pu rfl rfl Gd.free Rd.mv ?_; refine XPA.pu rfl rfl Gd.free (Rd.nilCheck rfl) ?_; refine XPA.pu rfl rfl Gd.free (Rd.fA rfl) ?_; refine XPA.rd rfl rfl Gd.free (Rd.ldC rfl (tyrow rfl) rfl) ?_; refine XPA.pu rfl rfl Gd.free (Rd.fA rfl) ?_
        refine XPA.rd rfl rfl Gd.free (Rd.ldC rfl (tyrow rfl) rfl) ?_; refine XPA.pu rfl rfl Gd.free (Rd.ixS rfl rfl) ?_; refine XPA.pu rfl rfl Gd.free (Rd.fA rfl) ?_; refine XPA.rd rfl rfl Gd.free (Rd.ldC rfl (tyrow rfl) rfl) ?_
        refine XPA.wrZ0 rfl rfl Gd.free (by kernel_rfl) (WrA.bs (fun _ _ => tyrow) rfl rfl rfl rfl rfl) ?_
        rintro _ _ _ ⟨g35, rfl, rfl, rfl⟩
        refine XPA.wrZ0 rfl rfl Gd.free (by kernel_rfl) (WrA.cE (put2o σ b _ (acc ++ (lpar ++ wordOf op)) g35 2 u pz cz hz sp1 w.name hb2) rfl) ?_
        rintro _ _ _ ⟨_, ⟨rfl, rfl, rfl⟩, rfl⟩
        refine XPA.cl ?_; refine XPA.nil ?_; refine DA.inb_normal (zT ?_)
        refine ⟨(Keep.updO (Keep.updO (Keep.upd (Keep.upd (Keep.upd (Keep.upd (Keep.upd (Keep.upd (Keep.upd (Keep.upd (Keep.upd (Keep.upd (Keep.upd (Keep.hav (Keep.hav (Keep.upd (Keep.upd (Keep.upd (Keep.upd (Keep.refl _ _) rfl) rfl) rfl) rfl) rfl) rfl) rfl) rfl) rfl) rfl) rfl) rfl) rfl) rfl) rfl) rfl) rfl) rfl) rfl), (), _, zM, ?_, ⟨rfl, rfl⟩⟩
        · rw [e2]; exact zE
      · have e1 : hd = ByteArray.empty := by rw [← hhd, headT, if_neg h1, if_neg h2]
        have e2 : acc ++ (lpar ++ wordOf op) = acc ++ (lpar ++ (wordOf op ++ hd)) := by rw [e1, ByteArray.append_empty]
        have h3 : ¬ op = 2 := fun h => h2 (.inl h)
        have h4 : ¬ op = 3 := fun h => h2 (.inr h)
        refine XA.condF rfl (by first | rfl | exact decide_eq_false h3) ?_; refine zR (zO rfl (Rd.eql rfl rfl) ?_); refine zO rfl Rd.asg ?_; refine zN (zT (XA.condF rfl (by first | rfl | exact decide_eq_false h4) ?_)); refine XA.skip (DA.inb_normal (zT ?_))
        refine ⟨(Keep.upd (Keep.upd (Keep.upd (Keep.upd (Keep.upd (Keep.upd (Keep.refl _ _) rfl) rfl) rfl) rfl) rfl) rfl), (), _, zM, ?_, ⟨rfl, rfl⟩⟩
        · rw [e2]; exact zE
  rintro _ δ _ _ ⟨rfl, rfl⟩
  dsimp only [ovr, List.foldl]
  refine zT (zS (zS (zR (zV rfl rfl ?_)))); refine zB rfl rfl (tyrow rfl) rfl ?_; refine zO rfl (Rd.lenSlice (tyrow rfl) rfl rfl) ?_; refine zA rfl ?_; refine zN (zT (XA.block ?_))
  refine XA.gen [(0, _), (38, _), (39, _), (40, _)] ⟨(by with_reducible (conv => lhs; whnf)), (by with_reducible (conv => lhs; whnf)), (by with_reducible (conv => lhs; whnf)), (by with_reducible (conv => lhs; whnf)), trivial⟩ (fun δ => ?_)
  dsimp only [List.foldl]
  refine XA.loop [(5, 5), (40, 50)] (fun k : Nat => [(40, i64 k)]) (fun k σ' Γ' => σ = σ' ∧ k ≤ l.length ∧ Γ' = [Wri b (.slice pv vl.length cv) (acc ++ (lpar ++ (wordOf op ++ (hd ++ exsT vl (l.take k)))))]) (fun k => l.length - k) 0 (by exact ⟨rfl, trivial⟩) (Δ0 := _) ?_ (⟨rfl, Nat.zero_le _, by rw [List.take_zero, exsT, ByteArray.append_empty]⟩) ?_
  · exact zE
  rintro k δ _ _ ⟨rfl, hk, rfl⟩
  dsimp only [ovr, List.foldl]
  have hk : k ≤ l.length := hk
  by_cases hlt : k < l.length
  · obtain ⟨x', hx'⟩ : ∃ x', l[k]? = some x' := ⟨_, List.getElem?_eq_getElem hlt⟩
    obtain ⟨g, o, row, rfl, hrx, hrl, hrow⟩ := hl.at hx'
    have hone := hrx.ones
    have hcut := exsT_cut vl hx'
    have hsn := exsT_snoc vl hx'
    have hbb : (acc ++ (lpar ++ (wordOf op ++ (hd ++ exsT vl (l.take k))))).size + sp1.size ≤ 1000000000 := by simp only [ByteArray.size_append]; omega
    have hbc : (acc ++ (lpar ++ (wordOf op ++ (hd ++ exsT vl (l.take k)))) ++ sp1).size + (exT vl x').size ≤ 1000000 := by simp only [ByteArray.size_append]; omega
    have e3 : acc ++ (lpar ++ (wordOf op ++ (hd ++ exsT vl (l.take k)))) ++ sp1 ++ exT vl x' = acc ++ (lpar ++ (wordOf op ++ (hd ++ exsT vl (l.take (k + 1))))) := by rw [hsn]; simp only [ByteArray.append_assoc]
    have hm := List.mem_of_getElem? hx'
    have hrec := ih x' hm σ row b pv cv vl (acc ++ (lpar ++ (wordOf op ++ (hd ++ exsT vl (l.take k)))) ++ sp1) hrx hv (hsubs.mem x' hm) hT hbc
    rw [e3] at hrec
    refine zS (zR (zO rfl (Rd.lss rfl rfl) ?_)); refine zN (zT (zS (XA.condT rfl (by first | rfl | exact decide_eq_true (by omega)) ?_))); refine XA.skip (zT (zS (XA.block (zS (zR (zO rfl (Rd.ixS rfl rfl) ?_)))))); refine zO rfl (Rd.ldA rfl) ?_
    refine XOA.wr0 rfl (WrA.alloc (tyrow rfl)) ?_
    rintro _ _ _ ⟨g5, rfl, rfl, rfl⟩
    refine XOA.wr0 rfl (WrA.st (tyrow rfl) rfl) ?_
    rintro _ _ _ ⟨rfl, rfl, rfl⟩
    refine zN (zT (zS (zR (zA rfl ?_))))
    refine XOA.wr0 rfl (WrA.bs1 (tyrow rfl) rfl (tyrow rfl)) ?_
    rintro _ _ _ ⟨g45, rfl, rfl, rfl⟩
    refine XOA.wr0 rfl (WrA.cE (put1 σ b _ (acc ++ (lpar ++ (wordOf op ++ (hd ++ exsT vl (l.take k))))) g45 1 sp1 hbb) rfl) ?_
    rintro _ _ _ ⟨_, ⟨rfl, rfl, rfl⟩, rfl⟩
    refine XOA.cl ?_; refine zN (zT (zR (zA rfl ?_))); refine zO rfl (Rd.ldA rfl) ?_
    refine XOA.wr0 rfl (WrA.cE (hrec) rfl) ?_
    rintro _ _ _ ⟨_, ⟨rfl, rfl, rfl⟩, rfl⟩
    refine XOA.cl ?_; refine zN (DA.inb_normal (zT (zR (zO rfl zI ?_)))); refine zA rfl ?_; refine zN (zT ?_)
    refine ⟨(Keep.upd (Keep.upd (Keep.updO (Keep.upd (Keep.upd (Keep.updO (Keep.updO (Keep.upd (Keep.updN (Keep.updO (Keep.upd (Keep.upd (Keep.upd (Keep.upd (Keep.hav (Keep.hav (Keep.refl _ _) rfl) rfl) rfl) rfl) rfl) rfl) rfl)) rfl) rfl) rfl) rfl) rfl) rfl) rfl) rfl), k + 1, _, zM, ?_, ⟨rfl, hlt, rfl⟩, (by omega)⟩
    · exact zE
  · have e : l.take k = l := List.take_of_length_le (by omega)
    rw [e]
    have hbb : (acc ++ (lpar ++ (wordOf op ++ (hd ++ exsT vl l)))).size + rpar.size ≤ 1000000000 := by simp only [ByteArray.size_append]; omega
    have e3 : acc ++ (lpar ++ (wordOf op ++ (hd ++ exsT vl l))) ++ rpar = acc ++ (lpar ++ (wordOf op ++ (hd ++ (exsT vl l ++ rpar)))) := by simp only [ByteArray.append_assoc]
    refine zS (zR (zO rfl (Rd.lss rfl rfl) ?_)); refine zN (zT (zS (XA.condF rfl (by first | rfl | exact decide_eq_false (by omega)) ?_))); refine XA.exit (DA.thn_exit (DA.thn_exit (DA.inb_same (zT (zR (zA rfl ?_))))))
    refine XOA.wr0 rfl (WrA.bs1 (tyrow rfl) rfl (tyrow rfl)) ?_
    rintro _ _ _ ⟨g52, rfl, rfl, rfl⟩
    refine XOA.wr0 rfl (WrA.cE (put1 σ b _ (acc ++ (lpar ++ (wordOf op ++ (hd ++ exsT vl l)))) g52 1 rpar hbb) rfl) ?_
    rintro _ _ _ ⟨_, ⟨rfl, rfl, rfl⟩, rfl⟩
    refine XOA.cl ?_
    rw [e3]
    refine zN ?_
    exact bodyA.normal (ResA.none rfl) zE ⟨rfl, rfl, rfl⟩
end Go.Proofs.YthefnnkmpcgcmaaDoor

