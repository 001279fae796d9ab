/- Part 2 of 5 of what the claim needs: CdK, CdM, CdN, CdO, CdP, CdQ, CdR, CdT, CdU, CdV, CdW, CdX, Px, Sh, Ta, Tb, Tc. -/
import Derived.Test.YthefnnkmpcgcmaaGreatDoorWre1
import Derived.Recover
import Derived.Shelf.LaysM
import Derived.Shelf.LaysC
import Derived.Shelf.Strconv.Itoa4
import Derived.Shelf.Strconv.ParseIntPublic10
import Derived.Test.YthefnnkmpcgcmaaGreatDoorProg
import Derived.Laws.Strings2
import Derived.Lib.ParseIntBTie
import Derived.Laws.Concat
namespace Go.Proofs.YthefnnkmpcgcmaaGreatDoor
open Go X
set_option maxHeartbeats 1000000
theorem Judge.any {b : Nat} {vs : Value} {e : JE} : ∀ m, Judge b vs e m → ∃ x : Int × Int, (∀ m', Sat [blk b [vs, i64 x.1, i64 x.2] 76] m' → Judge b vs e m') ∧ Sat [blk b [vs, i64 x.1, i64 x.2] 76] m := by
  rintro m ⟨l', c, h, h0⟩
  exact ⟨(l', c), fun m' h' => ⟨l', c, of_sat1 blk_mono h', h0⟩, sat1 h⟩
theorem Judge.anyD {b : Nat} {vs : Value} {e : JE} : ∀ m, Judge b vs e m → ∃ x : Int × Int, (decide (x.2 = 0) = e.isOk ∧ ∀ m', Sat [blk b [vs, i64 x.1, i64 x.2] 76] m' → Judge b vs e m') ∧ Sat [blk b [vs, i64 x.1, i64 x.2] 76] m := by
  rintro m ⟨l', c, h, h0⟩
  refine ⟨(l', c), ⟨?_, fun m' h' => ⟨l', c, of_sat1 blk_mono h', h0⟩⟩, sat1 h⟩
  cases e with
  | ok l => obtain ⟨-, rfl⟩ := h0; rfl
  | error d => obtain ⟨-, h0⟩ := h0; exact decide_eq_false h0
theorem named_a (σ : PH) (b : Nat) (p : Option Addr) (n c : Nat) (e : JE) (v : Int) (is : Bool) :
    CallsA Tryz.prog 80 #[ptr b, i64 v, .bool is] σ [Judge b (.slice p n c) e] (RetA fun r σ' Γ' => r = .tuple #[] ∧ σ = σ' ∧ Γ' = [Judge b (.slice p n c) (e.named n v is)]) := by
  cases is with
  | false =>
    refine enterA3 Tryz.func80 rfl rfl rfl ?_
    refine zS (zR (zA rfl ?_)); refine zA rfl ?_; refine zA rfl ?_
    first | (refine zG ?_; refine zA rfl ?_) | refine zH ?_
    first | (refine zG ?_; refine zO rfl (Rd.lss rfl rfl) ?_) | refine zH ?_
    first | (refine zG ?_; refine zA rfl ?_) | refine zH ?_
    first | (refine zG ?_; refine zA rfl ?_) | refine zH ?_
    first | (refine zG ?_; refine zA rfl ?_) | refine zH ?_
    first | (refine zG ?_; refine zO rfl (Rd.nilCheck rfl) ?_) | refine zH ?_
    first | (refine zG ?_; refine zV rfl rfl ?_) | refine zH ?_
    first | (refine zG ?_; refine zB rfl rfl (tyrow rfl) rfl ?_) | refine zH ?_
    first | (refine zG ?_; refine zO rfl (Rd.lenSlice (tyrow rfl) rfl rfl) ?_) | refine zH ?_
    first | (refine zG ?_; refine zO rfl (Rd.geq rfl rfl) ?_) | refine zH ?_
    first | (refine zG ?_; refine zO rfl zP ?_) | refine zH ?_
    refine zO rfl zP ?_
    refine XOA.wr0 rfl (WrA.cE (fail_a σ b _ e false 1 (by decide)) rfl) ?_
    rintro _ _ _ ⟨_, ⟨rfl, rfl, rfl⟩, rfl⟩
    refine XOA.cl ?_; refine zN (zT (zR (zA rfl ?_))); refine zA rfl ?_; refine zO rfl zJ ?_; refine zA rfl ?_
    first | (refine zG ?_; refine zA rfl ?_) | refine zH ?_
    first | (refine zG ?_; refine zO rfl (Rd.neq rfl rfl) ?_) | refine zH ?_
    refine zO rfl zP ?_
    refine XOA.wr0 rfl (WrA.cE (fail_a σ b _ _ (decide (v ≠ 0)) 5 (by decide)) rfl) ?_
    rintro _ _ _ ⟨_, ⟨rfl, rfl, rfl⟩, rfl⟩
    refine XOA.cl ?_; refine zN ?_
    exact bodyA.normal (ResA.none rfl) (Ent.refl _) ⟨rfl, rfl, rfl⟩
  | true =>
    by_cases h0 : v < 0
    · 
      refine enterA3 Tryz.func80 rfl rfl rfl ?_
      refine zS (zR (zA rfl ?_)); refine zA rfl ?_; refine zA rfl ?_
      first | (refine zG ?_; refine zA rfl ?_) | refine zH ?_
      first | (refine zG ?_; refine zO rfl (Rd.lss rfl rfl) ?_) | refine zH ?_
      first | (refine zG ?_; refine zA rfl ?_) | refine zH ?_
      first | (refine zG ?_; refine zA rfl ?_) | refine zH ?_
      first | (refine zG ?_; refine zA rfl ?_) | refine zH ?_
      first | (refine zG ?_; refine zO rfl (Rd.nilCheck rfl) ?_) | refine zH ?_
      first | (refine zG ?_; refine zV rfl rfl ?_) | refine zH ?_
      first | (refine zG ?_; refine zB rfl rfl (tyrow rfl) rfl ?_) | refine zH ?_
      first | (refine zG ?_; refine zO rfl (Rd.lenSlice (tyrow rfl) rfl rfl) ?_) | refine zH ?_
      first | (refine zG ?_; refine zO rfl (Rd.geq rfl rfl) ?_) | refine zH ?_
      first | (refine zG ?_; refine zO rfl zP ?_) | refine zH ?_
      refine zO rfl zP ?_
      refine XOA.wr0 rfl (WrA.cE (fail_a σ b _ e true 1 (by decide)) rfl) ?_
      rintro _ _ _ ⟨_, ⟨rfl, rfl, rfl⟩, rfl⟩
      refine XOA.cl ?_; refine zN (zT (zR (zA rfl ?_))); refine zA rfl ?_; refine zO rfl zJ ?_; refine zA rfl ?_
      first | (refine zG ?_; refine zA rfl ?_) | refine zH ?_
      first | (refine zG ?_; refine zO rfl (Rd.neq rfl rfl) ?_) | refine zH ?_
      refine zO rfl zP ?_
      refine XOA.wr0 rfl (WrA.cE (fail_a σ b _ _ false 5 (by decide)) rfl) ?_
      rintro _ _ _ ⟨_, ⟨rfl, rfl, rfl⟩, rfl⟩
      refine XOA.cl ?_; refine zN ?_
      refine bodyA.normal (ResA.none rfl) (Ent.refl _) ⟨rfl, rfl, ?_⟩
      have : decide (v < 0 ∨ (n : Int) ≤ v) = true := decide_eq_true (Or.inl h0)
      simp only [JE.named, this, Bool.true_and, Bool.not_true, Bool.false_and]
    · 
      refine enterA3 Tryz.func80 rfl rfl rfl ?_
      refine zS (zR (zA rfl ?_)); refine zA rfl ?_; refine zA rfl ?_
      first | (refine zG ?_; refine zA rfl ?_) | refine zH ?_
      first | (refine zG ?_; refine zO rfl (Rd.lss rfl rfl) ?_) | refine zH ?_
      first | (refine zG ?_; refine zA rfl ?_) | refine zH ?_
      first | (refine zG ?_; refine zA rfl ?_) | refine zH ?_
      first | (refine zG ?_; refine zA rfl ?_) | refine zH ?_
      first | refine XA.opn (R := Judge b (.slice p n c) e) zL (Judge.any) ?_ | refine XOA.opn (R := Judge b (.slice p n c) e) zL (Judge.any) ?_ | refine DA.opn (R := Judge b (.slice p n c) e) zL (Judge.any) ?_
      rintro ⟨l, cc⟩ hf
      first | refine XA.cl ?_ | refine XOA.cl ?_ | refine DA.cl ?_
      first | (refine zG ?_; refine zO rfl (Rd.nilCheck rfl) ?_) | refine zH ?_
      first | (refine zG ?_; refine zV rfl rfl ?_) | refine zH ?_
      first | (refine zG ?_; refine zB rfl rfl (tyrow rfl) rfl ?_) | refine zH ?_
      first | (refine zG ?_; refine zO rfl (Rd.lenSlice (tyrow rfl) rfl rfl) ?_) | refine zH ?_
      first | (refine zG ?_; refine zO rfl (Rd.geq rfl rfl) ?_) | refine zH ?_
      first | (refine zG ?_; refine zO rfl zP ?_) | refine zH ?_
      refine zO rfl zP ?_
      refine XOA.ent (Δ := [Judge b (.slice p n c) e]) (Ent.fold1 zE hf) ?_
      refine XOA.wr0 rfl (WrA.cE (fail_a σ b _ e (decide ((n : Int) ≤ v)) 1 (by decide)) rfl) ?_
      rintro _ _ _ ⟨_, ⟨rfl, rfl, rfl⟩, rfl⟩
      refine XOA.cl ?_; refine zN (zT (zR (zA rfl ?_))); refine zA rfl ?_; refine zO rfl zJ ?_; refine zA rfl ?_
      first | (refine zG ?_; refine zA rfl ?_) | refine zH ?_
      first | (refine zG ?_; refine zO rfl (Rd.neq rfl rfl) ?_) | refine zH ?_
      refine zO rfl zP ?_
      refine XOA.wr0 rfl (WrA.cE (fail_a σ b _ _ false 5 (by decide)) rfl) ?_
      rintro _ _ _ ⟨_, ⟨rfl, rfl, rfl⟩, rfl⟩
      refine XOA.cl ?_; refine zN ?_
      refine bodyA.normal (ResA.none rfl) (Ent.refl _) ⟨rfl, rfl, ?_⟩
      have : decide (v < 0 ∨ (n : Int) ≤ v) = decide ((n : Int) ≤ v) := by rw [decide_eq_decide]; omega
      simp only [JE.named, this, Bool.true_and, Bool.not_true, Bool.false_and]
theorem none_a (σ : PH) (cs : List Value) (x : Ex) (hx : ExAt σ cs x) : CallsA Tryz.prog 79 #[.agg cs.toArray] σ [] (RetA fun v σ' Γ' => v = .bool (noneX x) ∧ σ = σ' ∧ Γ' = []) := by
  obtain ⟨p, c, rfl, -, -, -, -⟩ := hx.inv
  by_cases h1 : x.op = 0
  · by_cases h2 : x.v = 0
    · by_cases h3 : x.n = 0
      · 
        refine enterA1 Tryz.func79 rfl rfl rfl ?_
        refine zS (zR ?_)
        refine XOA.wr0 rfl WrA.bx ?_
        rintro _ _ _ ⟨g1, rfl, rfl, rfl⟩
        refine zO rfl Rd.asg ?_; refine zN (zT (zS (zR (zV rfl rfl ?_)))); refine zB rfl rfl (tyrow rfl) rfl ?_; refine zO rfl (Rd.eql rfl rfl) ?_; refine zA rfl ?_
        first | (refine zG ?_; refine zV rfl rfl ?_) | refine zH ?_
        first | (refine zG ?_; refine zB rfl rfl (tyrow rfl) rfl ?_) | refine zH ?_
        first | (refine zG ?_; refine zO rfl (Rd.eql rfl rfl) ?_) | refine zH ?_
        refine zO rfl zP ?_; refine zA rfl ?_
        first | (refine zG ?_; refine zV rfl rfl ?_) | refine zH ?_
        first | (refine zG ?_; refine zB rfl rfl (tyrow rfl) rfl ?_) | refine zH ?_
        first | (refine zG ?_; refine zO rfl (Rd.eql rfl rfl) ?_) | refine zH ?_
        refine zO rfl zP ?_; refine zA rfl ?_
        first | (refine zG ?_; refine zV rfl rfl ?_) | refine zH ?_
        first | (refine zG ?_; refine zB rfl rfl (tyrow rfl) rfl ?_) | refine zH ?_
        first | (refine zG ?_; refine zO rfl (Rd.lenSlice (tyrow rfl) rfl rfl) ?_) | refine zH ?_
        first | (refine zG ?_; refine zO rfl (Rd.eql rfl rfl) ?_) | refine zH ?_
        refine zO rfl zP ?_; refine zO rfl Rd.asg ?_; refine zN (zT (XA.ret ?_))
        refine bodyA.ret (ResA.one rfl rfl) (Ent.nil _) ⟨?_, rfl, rfl⟩
        simp [noneX, h1, h2, h3]
      · 
        refine enterA1 Tryz.func79 rfl rfl rfl ?_
        refine zS (zR ?_)
        refine XOA.wr0 rfl WrA.bx ?_
        rintro _ _ _ ⟨g1, rfl, rfl, rfl⟩
        refine zO rfl Rd.asg ?_; refine zN (zT (zS (zR (zV rfl rfl ?_)))); refine zB rfl rfl (tyrow rfl) rfl ?_; refine zO rfl (Rd.eql rfl rfl) ?_; refine zA rfl ?_
        first | (refine zG ?_; refine zV rfl rfl ?_) | refine zH ?_
        first | (refine zG ?_; refine zB rfl rfl (tyrow rfl) rfl ?_) | refine zH ?_
        first | (refine zG ?_; refine zO rfl (Rd.eql rfl rfl) ?_) | refine zH ?_
        refine zO rfl zP ?_; refine zA rfl ?_
        first | (refine zG ?_; refine zV rfl rfl ?_) | refine zH ?_
        first | (refine zG ?_; refine zB rfl rfl (tyrow rfl) rfl ?_) | refine zH ?_
        first | (refine zG ?_; refine zO rfl (Rd.eql rfl rfl) ?_) | refine zH ?_
        refine zO rfl zP ?_; refine zA rfl ?_
        first | (refine zG ?_; refine zV rfl rfl ?_) | refine zH ?_
        first | (refine zG ?_; refine zB rfl rfl (tyrow rfl) rfl ?_) | refine zH ?_
        first | (refine zG ?_; refine zO rfl (Rd.lenSlice (tyrow rfl) rfl rfl) ?_) | refine zH ?_
        first | (refine zG ?_; refine zO rfl (Rd.eql rfl rfl) ?_) | refine zH ?_
        refine zO rfl zP ?_; refine zO rfl Rd.asg ?_; refine zN (zT (XA.ret ?_))
        exact bodyA.ret (ResA.one rfl rfl) (Ent.nil _) ⟨by simp [noneX, h3], rfl, rfl⟩
    · 
      refine enterA1 Tryz.func79 rfl rfl rfl ?_
      refine zS (zR ?_)
      refine XOA.wr0 rfl WrA.bx ?_
      rintro _ _ _ ⟨g1, rfl, rfl, rfl⟩
      refine zO rfl Rd.asg ?_; refine zN (zT (zS (zR (zV rfl rfl ?_)))); refine zB rfl rfl (tyrow rfl) rfl ?_; refine zO rfl (Rd.eql rfl rfl) ?_; refine zA rfl ?_
      first | (refine zG ?_; refine zV rfl rfl ?_) | refine zH ?_
      first | (refine zG ?_; refine zB rfl rfl (tyrow rfl) rfl ?_) | refine zH ?_
      first | (refine zG ?_; refine zO rfl (Rd.eql rfl rfl) ?_) | refine zH ?_
      refine zO rfl zP ?_; refine zA rfl ?_
      first | (refine zG ?_; refine zV rfl rfl ?_) | refine zH ?_
      first | (refine zG ?_; refine zB rfl rfl (tyrow rfl) rfl ?_) | refine zH ?_
      first | (refine zG ?_; refine zO rfl (Rd.eql rfl rfl) ?_) | refine zH ?_
      refine zO rfl zP ?_; refine zA rfl ?_
      first | (refine zG ?_; refine zV rfl rfl ?_) | refine zH ?_
      first | (refine zG ?_; refine zB rfl rfl (tyrow rfl) rfl ?_) | refine zH ?_
      first | (refine zG ?_; refine zO rfl (Rd.lenSlice (tyrow rfl) rfl rfl) ?_) | refine zH ?_
      first | (refine zG ?_; refine zO rfl (Rd.eql rfl rfl) ?_) | refine zH ?_
      refine zO rfl zP ?_; refine zO rfl Rd.asg ?_; refine zN (zT (XA.ret ?_))
      exact bodyA.ret (ResA.one rfl rfl) (Ent.nil _) ⟨by simp [noneX, h2], rfl, rfl⟩
  · 
    refine enterA1 Tryz.func79 rfl rfl rfl ?_
    refine zS (zR ?_)
    refine XOA.wr0 rfl WrA.bx ?_
    rintro _ _ _ ⟨g1, rfl, rfl, rfl⟩
    refine zO rfl Rd.asg ?_; refine zN (zT (zS (zR (zV rfl rfl ?_)))); refine zB rfl rfl (tyrow rfl) rfl ?_; refine zO rfl (Rd.eql rfl rfl) ?_; refine zA rfl ?_
    first | (refine zG ?_; refine zV rfl rfl ?_) | refine zH ?_
    first | (refine zG ?_; refine zB rfl rfl (tyrow rfl) rfl ?_) | refine zH ?_
    first | (refine zG ?_; refine zO rfl (Rd.eql rfl rfl) ?_) | refine zH ?_
    refine zO rfl zP ?_; refine zA rfl ?_
    first | (refine zG ?_; refine zV rfl rfl ?_) | refine zH ?_
    first | (refine zG ?_; refine zB rfl rfl (tyrow rfl) rfl ?_) | refine zH ?_
    first | (refine zG ?_; refine zO rfl (Rd.eql rfl rfl) ?_) | refine zH ?_
    refine zO rfl zP ?_; refine zA rfl ?_
    first | (refine zG ?_; refine zV rfl rfl ?_) | refine zH ?_
    first | (refine zG ?_; refine zB rfl rfl (tyrow rfl) rfl ?_) | refine zH ?_
    first | (refine zG ?_; refine zO rfl (Rd.lenSlice (tyrow rfl) rfl rfl) ?_) | refine zH ?_
    first | (refine zG ?_; refine zO rfl (Rd.eql rfl rfl) ?_) | refine zH ?_
    refine zO rfl zP ?_; refine zO rfl Rd.asg ?_; refine zN (zT (XA.ret ?_))
    exact bodyA.ret (ResA.one rfl rfl) (Ent.nil _) ⟨by simp [noneX, h1], rfl, rfl⟩
theorem chas_a (σ : PH) (op : Int) : CallsA Tryz.prog 58 #[i64 op] σ [] (RetA fun v σ' Γ' => v = .tuple #[.bool (needE op), .bool (needF op), .bool (needV op), .bool (needB op), .bool (needO op)] ∧ σ = σ' ∧ Γ' = []) := by
  refine enterA1 Tryz.func58 rfl rfl rfl ?_
  refine zS (zR (zO rfl Rd.asg ?_)); refine zO rfl Rd.asg ?_; refine zO rfl Rd.asg ?_; refine zO rfl Rd.asg ?_; refine zO rfl Rd.asg ?_; refine zN (zT (zS (zS (zR (zA rfl ?_))))); refine zN (zT (XA.block (zS (zR (zO rfl (Rd.eql rfl rfl) ?_))))); refine zO rfl Rd.asg ?_; refine zN (zT ?_)
  refine XA.condp rfl (fun h1 => ?_) (fun h1 => ?_)
  · refine zS ?_
    refine zR (zO rfl Rd.asg ?_); refine zO rfl Rd.asg ?_; refine zO rfl Rd.asg ?_; refine zO rfl Rd.asg ?_; refine zO rfl Rd.asg ?_; refine zN (zT (XA.ret (DA.inb_ret (DA.thn_ret ?_))))
    subst h1
    exact bodyA.ret (ResA.five rfl rfl rfl rfl rfl rfl) (Ent.refl _) ⟨rfl, rfl, rfl⟩
  refine zS (zR (zO rfl (Rd.eql rfl rfl) ?_)); refine zO rfl Rd.asg ?_; refine zN (zT ?_)
  refine XA.condp rfl (fun h2 => ?_) (fun h2 => ?_)
  · refine zS ?_
    refine zR (zO rfl Rd.asg ?_); refine zO rfl Rd.asg ?_; refine zO rfl Rd.asg ?_; refine zO rfl Rd.asg ?_; refine zO rfl Rd.asg ?_; refine zN (zT (XA.ret (DA.inb_ret (DA.thn_ret ?_))))
    subst h2
    exact bodyA.ret (ResA.five rfl rfl rfl rfl rfl rfl) (Ent.refl _) ⟨rfl, rfl, rfl⟩
  refine zS (zR (zO rfl (Rd.eql rfl rfl) ?_)); refine zO rfl Rd.asg ?_; refine zN (zT ?_)
  refine XA.condp rfl (fun h3 => ?_) (fun h3 => ?_)
  · refine zS ?_
    refine zR (zO rfl Rd.asg ?_); refine zO rfl Rd.asg ?_; refine zO rfl Rd.asg ?_; refine zO rfl Rd.asg ?_; refine zO rfl Rd.asg ?_; refine zN (zT (XA.ret (DA.inb_ret (DA.thn_ret ?_))))
    subst h3
    exact bodyA.ret (ResA.five rfl rfl rfl rfl rfl rfl) (Ent.refl _) ⟨rfl, rfl, rfl⟩
  refine zS (zR (zO rfl (Rd.eql rfl rfl) ?_)); refine zO rfl Rd.asg ?_; refine zN (zT ?_)
  refine XA.condp rfl (fun h4 => ?_) (fun h4 => ?_)
  · refine zS ?_
    refine zR (zO rfl Rd.asg ?_); refine zO rfl Rd.asg ?_; refine zO rfl Rd.asg ?_; refine zO rfl Rd.asg ?_; refine zO rfl Rd.asg ?_; refine zN (zT (XA.ret (DA.inb_ret (DA.thn_ret ?_))))
    subst h4
    exact bodyA.ret (ResA.five rfl rfl rfl rfl rfl rfl) (Ent.refl _) ⟨rfl, rfl, rfl⟩
  refine zS (zR (zO rfl (Rd.eql rfl rfl) ?_)); refine zO rfl Rd.asg ?_; refine zN (zT ?_)
  refine XA.condp rfl (fun h5 => ?_) (fun h5 => ?_)
  · refine zS ?_
    refine zR (zO rfl Rd.asg ?_); refine zO rfl Rd.asg ?_; refine zO rfl Rd.asg ?_; refine zO rfl Rd.asg ?_; refine zO rfl Rd.asg ?_; refine zN (zT (XA.ret (DA.inb_ret (DA.thn_ret ?_))))
    subst h5
    exact bodyA.ret (ResA.five rfl rfl rfl rfl rfl rfl) (Ent.refl _) ⟨rfl, rfl, rfl⟩
  refine zS (zR (zO rfl (Rd.eql rfl rfl) ?_)); refine zO rfl Rd.asg ?_; refine zN (zT ?_)
  refine XA.condp rfl (fun h6 => ?_) (fun h6 => ?_)
  · refine zS ?_
    refine zR (zO rfl Rd.asg ?_); refine zO rfl Rd.asg ?_; refine zO rfl Rd.asg ?_; refine zO rfl Rd.asg ?_; refine zO rfl Rd.asg ?_; refine zN (zT (XA.ret (DA.inb_ret (DA.thn_ret ?_))))
    subst h6
    exact bodyA.ret (ResA.five rfl rfl rfl rfl rfl rfl) (Ent.refl _) ⟨rfl, rfl, rfl⟩
  refine XA.skip (DA.inb_normal (zT (XA.ret ?_)))
  refine bodyA.ret (ResA.five rfl rfl rfl rfl rfl rfl) (Ent.refl _) ⟨?_, rfl, rfl⟩
  simp [needE, needF, needV, needB, needO, h1, h2, h3, h4, h5, h6]
theorem in_of {F : Int → JE → JE} (hF : Down F) {e : JE} (h : e.in_) (d : Int) : (F d e).in_ := by
  cases e with
  | error c => rw [hF.err]; intro l hl; cases hl
  | ok a =>
    intro l hl
    obtain ⟨h1, h2⟩ := h a rfl
    obtain ⟨h3, h4, -⟩ := hF.ok _ _ _ h1 hl
    omega
/-- What is to be shown of an expression. -/
def ExprOK (σ : PH) (x : Ex) : Prop := ∀ (cs : List Value) (b : Nat) (p : Option Addr) (n c : Nat) (e : JE) (deep : Int), ExAt σ cs x → e.in_ → 0 ≤ deep → deep ≤ 1000 →
  CallsA Tryz.prog 81 #[ptr b, .agg cs.toArray, i64 deep] σ [Judge b (.slice p n c) e] (RetA fun r σ' Γ' => r = .tuple #[] ∧ σ = σ' ∧ Γ' = [Judge b (.slice p n c) (exE n deep x e)])
theorem isOk_false {e : JE} (h : e.isOk = false) : ∃ c, e = .error c := by
  cases e with
  | ok l => cases h
  | error c => exact ⟨c, rfl⟩
theorem one_ok {e : JE} {d : Int} (h : (e.one d).isOk = true) : d ≤ 12 := by
  cases e with
  | error c => cases h
  | ok l =>
    simp only [JE.one] at h
    split at h
    · cases h
    · omega
theorem expr_a (σ : PH) (x : Ex) : ExprOK σ x := by
  refine Ex.ind (P := ExprOK σ) ?_ x
  intro op v k l ih cs b p n c e deep hx hin hd0 hd1
  obtain ⟨pl, cl, rfl, -, -, -, hl⟩ := hx.inv
  simp only [Ex.op, Ex.v, Ex.n, Ex.l] at hl ⊢
  obtain ⟨-, -, -, hle, hmx⟩ := hl.shape
  have hlen : l.length ≤ maxLen := by
    obtain ⟨q, d, e1, h1, h2⟩ := hl.shape
    omega
  simp only [maxLen] at hlen
  refine enterA3 Tryz.func81 rfl rfl rfl ?_
  refine zS (zR ?_)
  refine XOA.wr0 rfl WrA.bx ?_
  rintro _ _ _ ⟨g4, rfl, rfl, rfl⟩
  refine zN (zT (zS (zS (zR (zA rfl ?_))))); refine zA rfl ?_
  refine XOA.wr0 rfl (WrA.cE (one_a σ b (.slice p n c) e deep hin) rfl) ?_
  rintro _ _ _ ⟨_, ⟨rfl, rfl, rfl⟩, rfl⟩
  refine XOA.cl ?_
  cases hok : (e.one deep).isOk with
  | false =>
    obtain ⟨c', hc'⟩ := isOk_false hok
    have hp : exE n deep (.mk op v k l) e = .error c' := by rw [exE, exHead, hc', fail_err, fail_err, named_err, exsE_err]
    rw [hc', hp]
    refine zO rfl zJ ?_; refine zN (zT (XA.condT rfl rfl (XA.ret (DA.thn_ret ?_))))
    exact bodyA.ret (ResA.none rfl) zE ⟨rfl, rfl, rfl⟩
  | true =>
    have hd := one_ok hok
    refine zO rfl zJ ?_; refine zN (zT (XA.condF rfl rfl (XA.skip (zT (zS (zR (zV rfl rfl ?_))))))); refine zB rfl rfl (tyrow rfl) rfl ?_
    refine XOA.wr0 rfl (WrA.cE (parts_a σ op) rfl) ?_
    rintro _ _ _ ⟨_, ⟨rfl, rfl, rfl⟩, rfl⟩
    refine XOA.cl ?_; refine zO rfl Rd.asg ?_; refine zN (zT (zS (zR (zA rfl ?_)))); refine zA rfl ?_; refine zO rfl (Rd.lss rfl rfl) ?_
    refine XOA.wr0 rfl (WrA.cE (fail_a σ b _ _ (decide (partsOf op < 0)) 2 (by decide)) rfl) ?_
    rintro _ _ _ ⟨_, ⟨rfl, rfl, rfl⟩, rfl⟩
    refine XOA.cl ?_; refine zN (zT (zS (zR (zA rfl ?_)))); refine zV rfl rfl ?_; refine zB rfl rfl (tyrow rfl) rfl ?_; refine zO rfl (Rd.lenSlice (tyrow rfl) rfl rfl) ?_; refine zA rfl ?_
    refine XOA.join (List.take_append_drop 11 _).symm [(20, 20), (25, 35)] (fun _ : Unit => [(20, ptr b), (35, .bool (decide ((l.length : Int) ≠ partsOf op ∨ (k ≠ 0 ∧ op ≠ 1))))]) (fun _ σ' Γ' => σ = σ' ∧ Γ' = [Judge b (.slice p n c) ((e.one deep).fail (decide (partsOf op < 0)) 2), blk g4 [i64 op, i64 v, i64 k, .slice pl l.length cl] 36]) ?_ ?_
    · 
      by_cases h1 : (l.length : Int) = partsOf op
      · by_cases h2 : k = 0
        · have hb : decide ((l.length : Int) ≠ partsOf op ∨ (k ≠ 0 ∧ op ≠ 1)) = false := decide_eq_false (by omega)
          rw [hb]
          refine zO rfl (Rd.neq rfl rfl) ?_; refine zA rfl ?_
          first | (refine zG ?_; refine zV rfl rfl ?_) | refine zH ?_
          first | (refine zG ?_; refine zB rfl rfl (tyrow rfl) rfl ?_) | refine zH ?_
          first | (refine zG ?_; refine zO rfl (Rd.neq rfl rfl) ?_) | refine zH ?_
          first | (refine zG ?_; refine zA rfl ?_) | refine zH ?_
          first | (refine zG ?_; refine zV rfl rfl ?_) | refine zH ?_
          first | (refine zG ?_; refine zB rfl rfl (tyrow rfl) rfl ?_) | refine zH ?_
          first | (refine zG ?_; refine zO rfl (Rd.neq rfl rfl) ?_) | refine zH ?_
          first | (refine zG ?_; refine zO rfl zP ?_) | refine zH ?_
          refine zO rfl zP ?_; refine zN (zT ?_)
          refine ⟨(Keep.upd (Keep.upd (Keep.upd (Keep.upd (Keep.upd (Keep.upd (Keep.upd (Keep.upd (Keep.upd (Keep.upd (Keep.upd (Keep.refl _ _) rfl) rfl) rfl) rfl) rfl) rfl) rfl) rfl) rfl) rfl) rfl), (), _, zM, ?_, ⟨rfl, rfl⟩⟩
          · exact zE
        · have hb : decide ((l.length : Int) ≠ partsOf op ∨ (k ≠ 0 ∧ op ≠ 1)) = decide (op ≠ 1) := by rw [decide_eq_decide]; omega
          rw [hb]
          refine zO rfl (Rd.neq rfl rfl) ?_; refine zA rfl ?_
          first | (refine zG ?_; refine zV rfl rfl ?_) | refine zH ?_
          first | (refine zG ?_; refine zB rfl rfl (tyrow rfl) rfl ?_) | refine zH ?_
          first | (refine zG ?_; refine zO rfl (Rd.neq rfl rfl) ?_) | refine zH ?_
          first | (refine zG ?_; refine zA rfl ?_) | refine zH ?_
          first | (refine zG ?_; refine zV rfl rfl ?_) | refine zH ?_
          first | (refine zG ?_; refine zB rfl rfl (tyrow rfl) rfl ?_) | refine zH ?_
          first | (refine zG ?_; refine zO rfl (Rd.neq rfl rfl) ?_) | refine zH ?_
          first | (refine zG ?_; refine zO rfl zP ?_) | refine zH ?_
          refine zO rfl zP ?_; refine zN (zT ?_)
          refine ⟨(Keep.upd (Keep.upd (Keep.upd (Keep.upd (Keep.upd (Keep.upd (Keep.upd (Keep.upd (Keep.upd (Keep.upd (Keep.upd (Keep.refl _ _) rfl) rfl) rfl) rfl) rfl) rfl) rfl) rfl) rfl) rfl) rfl), (), _, zM, ?_, ⟨rfl, rfl⟩⟩
          · exact zE
      · have hb : decide ((l.length : Int) ≠ partsOf op ∨ (k ≠ 0 ∧ op ≠ 1)) = true := decide_eq_true (by omega)
        rw [hb]
        refine zO rfl (Rd.neq rfl rfl) ?_; refine zA rfl ?_
        first | (refine zG ?_; refine zV rfl rfl ?_) | refine zH ?_
        first | (refine zG ?_; refine zB rfl rfl (tyrow rfl) rfl ?_) | refine zH ?_
        first | (refine zG ?_; refine zO rfl (Rd.neq rfl rfl) ?_) | refine zH ?_
        first | (refine zG ?_; refine zA rfl ?_) | refine zH ?_
        first | (refine zG ?_; refine zV rfl rfl ?_) | refine zH ?_
        first | (refine zG ?_; refine zB rfl rfl (tyrow rfl) rfl ?_) | refine zH ?_
        first | (refine zG ?_; refine zO rfl (Rd.neq rfl rfl) ?_) | refine zH ?_
        first | (refine zG ?_; refine zO rfl zP ?_) | refine zH ?_
        refine zO rfl zP ?_; refine zN (zT ?_)
        refine ⟨(Keep.upd (Keep.upd (Keep.upd (Keep.upd (Keep.upd (Keep.upd (Keep.upd (Keep.upd (Keep.upd (Keep.upd (Keep.upd (Keep.refl _ _) rfl) rfl) rfl) rfl) rfl) rfl) rfl) rfl) rfl) rfl) rfl), (), _, zM, ?_, ⟨rfl, rfl⟩⟩
        · exact zE
    rintro - δ1 _ _ ⟨rfl, rfl⟩
    dsimp only [ovr, List.foldl]
    refine XOA.wr0 rfl (WrA.cE (fail_a σ b _ _ (decide ((l.length : Int) ≠ partsOf op ∨ (k ≠ 0 ∧ op ≠ 1))) 5 (by decide)) rfl) ?_
    rintro _ _ _ ⟨_, ⟨rfl, rfl, rfl⟩, rfl⟩
    refine XOA.cl ?_; refine zN (zT (zS (zR (zA rfl ?_)))); refine zV rfl rfl ?_; refine zB rfl rfl (tyrow rfl) rfl ?_; refine zV rfl rfl ?_; refine zB rfl rfl (tyrow rfl) rfl ?_; refine zO rfl (Rd.eql rfl rfl) ?_
    refine XOA.join (List.take_append_drop 5 _).symm [(37, 37), (39, 39), (43, 47)] (fun _ : Unit => [(37, ptr b), (39, i64 v), (47, .bool (decide (op = 2 ∨ op = 3)))]) (fun _ σ' Γ' => σ = σ' ∧ Γ' = [Judge b (.slice p n c) (((e.one deep).fail (decide (partsOf op < 0)) 2).fail (decide ((l.length : Int) ≠ partsOf op ∨ (k ≠ 0 ∧ op ≠ 1))) 5), blk g4 [i64 op, i64 v, i64 k, .slice pl l.length cl] 36]) ?_ ?_
    · 
      by_cases h1 : op = 2
      · have hb : decide (op = 2 ∨ op = 3) = true := decide_eq_true (by omega)
        rw [hb]
        refine zA rfl ?_
        first | (refine zG ?_; refine zV rfl rfl ?_) | refine zH ?_
        first | (refine zG ?_; refine zB rfl rfl (tyrow rfl) rfl ?_) | refine zH ?_
        first | (refine zG ?_; refine zO rfl (Rd.eql rfl rfl) ?_) | refine zH ?_
        refine zO rfl zP ?_; refine zN (zT ?_)
        refine ⟨(Keep.upd (Keep.upd (Keep.upd (Keep.upd (Keep.upd (Keep.refl _ _) rfl) rfl) rfl) rfl) rfl), (), _, zM, ?_, ⟨rfl, rfl⟩⟩
        · exact zE
      · have hb : decide (op = 2 ∨ op = 3) = decide (op = 3) := by rw [decide_eq_decide]; omega
        rw [hb]
        refine zA rfl ?_
        first | (refine zG ?_; refine zV rfl rfl ?_) | refine zH ?_
        first | (refine zG ?_; refine zB rfl rfl (tyrow rfl) rfl ?_) | refine zH ?_
        first | (refine zG ?_; refine zO rfl (Rd.eql rfl rfl) ?_) | refine zH ?_
        refine zO rfl zP ?_; refine zN (zT ?_)
        refine ⟨(Keep.upd (Keep.upd (Keep.upd (Keep.upd (Keep.upd (Keep.refl _ _) rfl) rfl) rfl) rfl) rfl), (), _, zM, ?_, ⟨rfl, rfl⟩⟩
        · exact zE
    rintro - δ2 _ _ ⟨rfl, rfl⟩
    dsimp only [ovr, List.foldl]
    refine XOA.wr0 rfl (WrA.cE (named_a σ b p n c _ v (decide (op = 2 ∨ op = 3))) rfl) ?_
    rintro _ _ _ ⟨_, ⟨rfl, rfl, rfl⟩, rfl⟩
    refine XOA.cl ?_; refine zN (zT (zS (zR (zV rfl rfl ?_)))); refine zB rfl rfl (tyrow rfl) rfl ?_; refine zO rfl (Rd.lenSlice (tyrow rfl) rfl rfl) ?_; refine zA rfl ?_; refine zN (zT (XA.block ?_))
    refine XA.gen [(0, _), (2, _), (50, _), (51, _), (52, _)] ⟨(by with_reducible (conv => lhs; whnf)), (by with_reducible (conv => lhs; whnf)), (by with_reducible (conv => lhs; whnf)), (by with_reducible (conv => lhs; whnf)), (by with_reducible (conv => lhs; whnf)), trivial⟩ (fun δ => ?_)
    dsimp only [List.foldl]
    refine XA.loop [(8, 8), (52, 66)] (fun q : Nat => [(52, i64 q)]) (fun q σ' Γ' => σ = σ' ∧ q ≤ l.length ∧ Γ' = [Judge b (.slice p n c) (exsE n (deep + 1) (l.take q) (exHead n deep op v k l.length e)), blk g4 [i64 op, i64 v, i64 k, .slice pl l.length cl] 36]) (fun q => l.length - q) 0 (by exact ⟨rfl, trivial⟩) (Δ0 := _) ?_ (⟨rfl, Nat.zero_le _, rfl⟩) ?_
    · rw [List.take_zero, exsE]; exact zE
    rintro q δ _ _ ⟨rfl, hq, rfl⟩
    dsimp only [ovr, List.foldl]
    refine zS (zR (zO rfl (Rd.lss rfl rfl) ?_)); refine zN (zT (zS ?_))
    refine XA.condp rfl (fun hlt => ?_) (fun hlt => ?_)
    · have hlt : q < l.length := by omega
      obtain ⟨x', hx'⟩ : ∃ x', l[q]? = some x' := ⟨_, List.getElem?_eq_getElem hlt⟩
      obtain ⟨g, o, row, rfl, hrx, hrl, hrow⟩ := hl.at hx'
      have hone := hrx.ones
      have e1 := exsE_snoc n (deep + 1) l q x' (exHead n deep op v k l.length e) hx'
      have hin2 : (exsE n (deep + 1) (l.take q) (exHead n deep op v k l.length e)).in_ := in_of (Down.exsE n (l.take q)) (in_of (Down.exHead n op v k l.length) hin deep) (deep + 1)
      refine XA.skip (zT (zS (XA.block (zS (zR (zO rfl (Rd.ixS rfl rfl) ?_)))))); refine zO rfl (Rd.ldA rfl) ?_
      refine XOA.wr0 rfl (WrA.alloc (tyrow rfl)) ?_
      rintro _ _ _ ⟨g8, rfl, rfl, rfl⟩
      refine XOA.wr0 rfl (WrA.st (tyrow rfl) rfl) ?_
      rintro _ _ _ ⟨rfl, rfl, rfl⟩
      refine zN (zT (zS (zR (zA rfl ?_))))
      cases hst : exsE n (deep + 1) (l.take q) (exHead n deep op v k l.length e) with
      | error c' =>
        rw [hst, exE_err] at e1
        first | refine XA.opn (R := Judge b (.slice p n c) (.error c')) zL (Judge.errO) ?_ | refine XOA.opn (R := Judge b (.slice p n c) (.error c')) zL (Judge.errO) ?_ | refine DA.opn (R := Judge b (.slice p n c) (.error c')) zL (Judge.errO) ?_
        rintro lf h0
        first | refine XA.cl ?_ | refine XOA.cl ?_ | refine DA.cl ?_
        refine zO rfl (Rd.nilCheck rfl) ?_; refine zV rfl rfl ?_; refine zB rfl rfl (tyrow rfl) rfl ?_; refine zO rfl (Rd.eql rfl rfl) ?_; refine zN (zT (XA.condF rfl (decide_eq_false h0) (XA.skip (DA.inb_normal (zT (zR (zO rfl zI ?_))))))); refine zA rfl ?_; refine zN (zT ?_)
        refine ⟨(Keep.upd (Keep.upd (Keep.upd (Keep.upd (Keep.upd (Keep.upd (Keep.upd (Keep.updN (Keep.updO (Keep.upd (Keep.upd (Keep.upd (Keep.upd (Keep.hav (Keep.hav (Keep.refl _ _) rfl) rfl) rfl) rfl) rfl) rfl) rfl)) rfl) rfl) rfl) rfl) rfl) rfl) rfl), q + 1, [Judge b (.slice p n c) (.error c'), _], zM, ?_, ⟨rfl, hlt, by rw [e1]⟩, (by omega)⟩
        · exact Ent.foldC (Θ := [_]) zD (Judge.mkE h0) zE
      | ok a =>
        rw [hst] at e1 hin2
        first | refine XA.opn (R := Judge b (.slice p n c) (.ok a)) zL (Judge.okO) ?_ | refine XOA.opn (R := Judge b (.slice p n c) (.ok a)) zL (Judge.okO) ?_ | refine DA.opn (R := Judge b (.slice p n c) (.ok a)) zL (Judge.okO) ?_
        rintro ⟨⟩ -
        first | refine XA.cl ?_ | refine XOA.cl ?_ | refine DA.cl ?_
        refine zO rfl (Rd.nilCheck rfl) ?_; refine zV rfl rfl ?_; refine zB rfl rfl (tyrow rfl) rfl ?_; refine zO rfl (Rd.eql rfl rfl) ?_; refine zN (zT (XA.condT rfl rfl (zR (zA rfl ?_)))); refine zO rfl (Rd.ldA rfl) ?_; refine zA rfl ?_; refine zO rfl zI ?_
        refine XOA.ent (Ent.foldC (Θ := [_]) zD (Judge.mkO (l := a)) (Ent.refl _)) ?_
        refine XOA.wr0 rfl (WrA.cE (ih x' (List.mem_of_getElem? hx') row b p n c (.ok a) (deep + 1) hrx hin2 (by omega) (by omega)) rfl) ?_
        rintro _ _ _ ⟨_, ⟨rfl, rfl, rfl⟩, rfl⟩
        refine XOA.cl ?_; refine zN (DA.inb_normal (zT (zR (zO rfl zI ?_)))); refine zA rfl ?_; refine zN (zT ?_)
        refine ⟨(Keep.upd (Keep.upd (Keep.updO (Keep.upd (Keep.upd (Keep.upd (Keep.upd (Keep.upd (Keep.upd (Keep.upd (Keep.upd (Keep.upd (Keep.updN (Keep.updO (Keep.upd (Keep.upd (Keep.upd (Keep.upd (Keep.hav (Keep.hav (Keep.refl _ _) rfl) rfl) rfl) rfl) rfl) rfl) rfl)) rfl) rfl) rfl) rfl) rfl) rfl) rfl) rfl) rfl) rfl) rfl) rfl), q + 1, _, zM, ?_, ⟨rfl, hlt, by rw [e1]⟩, (by omega)⟩
        · exact zE
    have hqn : q = l.length := by omega
    subst hqn
    rw [List.take_length]
    refine XA.exit (DA.thn_exit (DA.thn_exit (DA.inb_same ?_)))
    exact bodyA.normal (ResA.none rfl) zE ⟨rfl, rfl, rfl⟩
end Go.Proofs.YthefnnkmpcgcmaaGreatDoor

namespace Go.Proofs.YthefnnkmpcgcmaaGreatDoor
open Go X
set_option maxHeartbeats 1000000
def StmtOK (σ : PH) (x : St) : Prop := ∀ (cs : List Value) (b : Nat) (p : Option Addr) (n c : Nat) (e : JE) (deep : Int), StAt σ cs x → e.in_ → 0 ≤ deep → deep ≤ 900 →
  CallsA Tryz.prog 64 #[ptr b, .agg cs.toArray, i64 deep] σ [Judge b (.slice p n c) e] (RetA fun r σ' Γ' => r = .tuple #[] ∧ σ = σ' ∧ Γ' = [Judge b (.slice p n c) (stE n deep x e)])
theorem list_a (σ : PH) (l : List St) (ih : ∀ x ∈ l, StmtOK σ x) (sl : Value) (b : Nat) (p : Option Addr) (n c : Nat) (e : JE) (deep : Int) (hl : PSl 12 StAt σ sl l) (hin : e.in_) (hd0 : 0 ≤ deep) (hd1 : deep ≤ 900) :
    CallsA Tryz.prog 34 #[ptr b, sl, i64 deep] σ [Judge b (.slice p n c) e] (RetA fun r σ' Γ' => r = .tuple #[] ∧ σ = σ' ∧ Γ' = [Judge b (.slice p n c) (stsE n deep l e)]) := by
  obtain ⟨pl, cl, rfl, hle, hmx⟩ := hl.shape
  have hlen : l.length ≤ maxLen := by omega
  simp only [maxLen] at hlen
  refine enterA3 Tryz.func34 rfl rfl rfl ?_
  refine zS (zR (zA rfl ?_)); refine zO rfl (Rd.lenSlice (tyrow rfl) rfl rfl) ?_; refine zA rfl ?_; refine zN (zT (XA.block ?_))
  refine XA.gen [(0, _), (2, _), (8, _), (9, _), (10, _)] ⟨(by with_reducible (conv => lhs; whnf)), (by with_reducible (conv => lhs; whnf)), (by with_reducible (conv => lhs; whnf)), (by with_reducible (conv => lhs; whnf)), (by with_reducible (conv => lhs; whnf)), trivial⟩ (fun δ => ?_)
  dsimp only [List.foldl]
  refine XA.loop [(7, 7), (10, 23)] (fun q : Nat => [(10, i64 q)]) (fun q σ' Γ' => σ = σ' ∧ q ≤ l.length ∧ Γ' = [Judge b (.slice p n c) (stsE n deep (l.take q) e)]) (fun q => l.length - q) 0 (by exact ⟨rfl, trivial⟩) (Δ0 := _) ?_ (⟨rfl, Nat.zero_le _, rfl⟩) ?_
  · rw [List.take_zero, stsE]; exact zE
  rintro q δ _ _ ⟨rfl, hq, rfl⟩
  dsimp only [ovr, List.foldl]
  refine zS (zR (zO rfl (Rd.lss rfl rfl) ?_)); refine zN (zT (zS ?_))
  refine XA.condp rfl (fun hlt => ?_) (fun hlt => ?_)
  · have hlt : q < l.length := by omega
    obtain ⟨x', hx'⟩ : ∃ x', l[q]? = some x' := ⟨_, List.getElem?_eq_getElem hlt⟩
    obtain ⟨g, o, row, rfl, hrx, hrl, hrow⟩ := hl.at hx'
    have hone := hrx.ones
    have e1 := stsE_snoc n deep l q x' e hx'
    have hin2 : (stsE n deep (l.take q) e).in_ := in_of (Down.stsE n (l.take q)) hin deep
    refine XA.skip (zT (zS (XA.block (zS (zR (zO rfl (Rd.ixS rfl rfl) ?_)))))); refine zO rfl (Rd.ldA rfl) ?_
    refine XOA.wr0 rfl (WrA.alloc (tyrow rfl)) ?_
    rintro _ _ _ ⟨g7, rfl, rfl, rfl⟩
    refine XOA.wr0 rfl (WrA.st (tyrow rfl) rfl) ?_
    rintro _ _ _ ⟨rfl, rfl, rfl⟩
    refine zN (zT (zS (zR (zA rfl ?_))))
    cases hst : stsE n deep (l.take q) e with
    | error c' =>
      rw [hst, stE_err] at e1
      first | refine XA.opn (R := Judge b (.slice p n c) (.error c')) zL (Judge.errO) ?_ | refine XOA.opn (R := Judge b (.slice p n c) (.error c')) zL (Judge.errO) ?_ | refine DA.opn (R := Judge b (.slice p n c) (.error c')) zL (Judge.errO) ?_
      rintro lf h0
      first | refine XA.cl ?_ | refine XOA.cl ?_ | refine DA.cl ?_
      refine zO rfl (Rd.nilCheck rfl) ?_; refine zV rfl rfl ?_; refine zB rfl rfl (tyrow rfl) rfl ?_; refine zO rfl (Rd.eql rfl rfl) ?_; refine zN (zT (XA.condF rfl (decide_eq_false h0) (XA.skip (DA.inb_normal (zT (zR (zO rfl zI ?_))))))); refine zA rfl ?_; refine zN (zT ?_)
      refine ⟨(Keep.upd (Keep.upd (Keep.upd (Keep.upd (Keep.upd (Keep.upd (Keep.upd (Keep.updN (Keep.updO (Keep.upd (Keep.upd (Keep.upd (Keep.upd (Keep.hav (Keep.hav (Keep.refl _ _) rfl) rfl) rfl) rfl) rfl) rfl) rfl)) rfl) rfl) rfl) rfl) rfl) rfl) rfl), q + 1, [Judge b (.slice p n c) (.error c')], zM, ?_, ⟨rfl, hlt, by rw [e1]⟩, (by omega)⟩
      · exact Ent.foldC (Θ := [_]) zD (Judge.mkE h0) zE
    | ok a =>
      rw [hst] at e1 hin2
      first | refine XA.opn (R := Judge b (.slice p n c) (.ok a)) zL (Judge.okO) ?_ | refine XOA.opn (R := Judge b (.slice p n c) (.ok a)) zL (Judge.okO) ?_ | refine DA.opn (R := Judge b (.slice p n c) (.ok a)) zL (Judge.okO) ?_
      rintro ⟨⟩ -
      first | refine XA.cl ?_ | refine XOA.cl ?_ | refine DA.cl ?_
      refine zO rfl (Rd.nilCheck rfl) ?_; refine zV rfl rfl ?_; refine zB rfl rfl (tyrow rfl) rfl ?_; refine zO rfl (Rd.eql rfl rfl) ?_; refine zN (zT (XA.condT rfl rfl (zR (zA rfl ?_)))); refine zO rfl (Rd.ldA rfl) ?_; refine zA rfl ?_
      refine XOA.ent (Ent.foldC (Θ := [_]) zD (Judge.mkO (l := a)) (Ent.refl _)) ?_
      refine XOA.wr0 rfl (WrA.cE (ih x' (List.mem_of_getElem? hx') row b p n c (.ok a) deep hrx hin2 (by omega) (by omega)) rfl) ?_
      rintro _ _ _ ⟨_, ⟨rfl, rfl, rfl⟩, rfl⟩
      refine XOA.cl ?_; refine zN (DA.inb_normal (zT (zR (zO rfl zI ?_)))); refine zA rfl ?_; refine zN (zT ?_)
      refine ⟨(Keep.upd (Keep.upd (Keep.updO (Keep.upd (Keep.upd (Keep.upd (Keep.upd (Keep.upd (Keep.upd (Keep.upd (Keep.upd (Keep.updN (Keep.updO (Keep.upd (Keep.upd (Keep.upd (Keep.upd (Keep.hav (Keep.hav (Keep.refl _ _) rfl) rfl) rfl) rfl) rfl) rfl) rfl)) rfl) rfl) rfl) rfl) rfl) rfl) rfl) rfl) rfl) rfl) rfl), q + 1, _, zM, ?_, ⟨rfl, hlt, by rw [e1]⟩, (by omega)⟩
      · exact zE
  have hqn : q = l.length := by omega
  subst hqn
  rw [List.take_length]
  refine XA.exit (DA.thn_exit (DA.thn_exit (DA.inb_same ?_)))
  exact bodyA.normal (ResA.none rfl) zE ⟨rfl, rfl, rfl⟩
theorem stmt_a (σ : PH) (x : St) : StmtOK σ x := by
  refine St.ind (P := StmtOK σ) ?_ x
  intro op v ex fx body els ih jh cs b p n c e deep hx hin hd0 hd1
  obtain ⟨pe, de, pf, df, pb, cb, pl, cl, rfl, -, -, hxe, hxf, hxb, hxl⟩ := hx.inv12
  simp only [St.op, St.v, St.e, St.f, St.body, St.els] at hxe hxf hxb hxl ⊢
  clear hx
  obtain ⟨cells, hcells⟩ : ∃ l, l = [i64 op, i64 v, i64 ex.op, i64 ex.v, i64 ex.n, .slice pe ex.l.length de, i64 fx.op, i64 fx.v, i64 fx.n, .slice pf fx.l.length df, .slice pb body.length cb, .slice pl els.length cl] := ⟨_, rfl⟩
  obtain ⟨ne, hne⟩ : ∃ q, q = noneX ex := ⟨_, rfl⟩
  obtain ⟨nf, hnf⟩ : ∃ q, q = noneX fx := ⟨_, rfl⟩
  obtain ⟨A1, hA1⟩ : ∃ A, A = (!needE op && !ne) := ⟨_, rfl⟩
  obtain ⟨A2, hA2⟩ : ∃ A, A = (!needF op && !nf) := ⟨_, rfl⟩
  obtain ⟨A3, hA3⟩ : ∃ A, A = (!needB op && decide ((0 : Int) < (body.length : Int))) := ⟨_, rfl⟩
  obtain ⟨A4, hA4⟩ : ∃ A, A = (!needO op && decide ((0 : Int) < (els.length : Int))) := ⟨_, rfl⟩
  have hform : stForm op ex fx body.length els.length = (((A1 || A2) || A3) || A4) := by rw [hA1, hA2, hA3, hA4, hne, hnf]; rfl
  refine enterA3 Tryz.func64 rfl rfl rfl ?_
  refine zS (zR ?_)
  refine XOA.wr0 rfl WrA.bx ?_
  rintro _ _ _ ⟨g4, rfl, rfl, rfl⟩
  refine zN (zT (zS (zS (zR (zA rfl ?_))))); refine zA rfl ?_
  refine XOA.wr0 rfl (WrA.cE (one_a σ b (.slice p n c) e deep hin) rfl) ?_
  rintro _ _ _ ⟨_, ⟨rfl, rfl, rfl⟩, rfl⟩
  refine XOA.cl ?_
  cases hok : (e.one deep).isOk with
  | false =>
    obtain ⟨c', hc'⟩ := isOk_false hok
    have hp : stE n deep (.mk op v ex fx body els) e = .error c' := by rw [stE, stHead, hc', fail_err, fail_err, named_err, stEF_err, stsE_err, stsE_err]
    rw [hc', hp]
    refine zO rfl zJ ?_; refine zN (zT (XA.condT rfl rfl (XA.ret (DA.thn_ret ?_))))
    exact bodyA.ret (ResA.none rfl) zE ⟨rfl, rfl, rfl⟩
  | true =>
    have hd := one_ok hok
    refine zO rfl zJ ?_; refine zN (zT (XA.condF rfl rfl (XA.skip (zT (zS (zR (zA rfl ?_))))))); refine zV rfl rfl ?_; refine zB rfl rfl (tyrow rfl) rfl ?_
    refine XOA.join (List.take_append_drop 6 _).symm [(15, 15), (18, 23)] (fun _ : Unit => [(15, ptr b), (23, .bool (decide (op < 1 ∨ 7 < op)))]) (fun _ σ' Γ' => σ = σ' ∧ Γ' = [Judge b (.slice p n c) (e.one deep), blk g4 cells 38]) ?_ ?_
    · 
      by_cases h1 : op < 1
      · have hb : decide (op < 1 ∨ 7 < op) = true := decide_eq_true (by omega)
        rw [hb]
        refine zO rfl (Rd.lss rfl rfl) ?_; refine zA rfl ?_
        first | (refine zG ?_; refine zV rfl rfl ?_) | refine zH ?_
        first | (refine zG ?_; refine zB rfl rfl (tyrow rfl) rfl ?_) | refine zH ?_
        first | (refine zG ?_; refine zO rfl (Rd.gtr rfl rfl) ?_) | refine zH ?_
        refine zO rfl zP ?_; refine zN (zT ?_)
        refine ⟨(Keep.upd (Keep.upd (Keep.upd (Keep.upd (Keep.upd (Keep.upd (Keep.refl _ _) rfl) rfl) rfl) rfl) rfl) rfl), (), _, zM, ?_, ⟨rfl, rfl⟩⟩
        · rw [hcells]; exact zE
      · have hb : decide (op < 1 ∨ 7 < op) = decide (7 < op) := by rw [decide_eq_decide]; omega
        rw [hb]
        refine zO rfl (Rd.lss rfl rfl) ?_; refine zA rfl ?_
        first | (refine zG ?_; refine zV rfl rfl ?_) | refine zH ?_
        first | (refine zG ?_; refine zB rfl rfl (tyrow rfl) rfl ?_) | refine zH ?_
        first | (refine zG ?_; refine zO rfl (Rd.gtr rfl rfl) ?_) | refine zH ?_
        refine zO rfl zP ?_; refine zN (zT ?_)
        refine ⟨(Keep.upd (Keep.upd (Keep.upd (Keep.upd (Keep.upd (Keep.upd (Keep.refl _ _) rfl) rfl) rfl) rfl) rfl) rfl), (), _, zM, ?_, ⟨rfl, rfl⟩⟩
        · rw [hcells]; exact zE
    rintro - δ1 _ _ ⟨rfl, rfl⟩
    dsimp only [ovr, List.foldl]
    rw [hcells]
    refine XOA.wr0 rfl (WrA.cE (fail_a σ b _ _ (decide (op < 1 ∨ 7 < op)) 2 (by decide)) rfl) ?_
    rintro _ _ _ ⟨_, ⟨rfl, rfl, rfl⟩, rfl⟩
    refine XOA.cl ?_; refine zN (zT (zS (zR (zV rfl rfl ?_)))); refine zB rfl rfl (tyrow rfl) rfl ?_
    refine XOA.wr0 rfl (WrA.cE (chas_a σ op) rfl) ?_
    rintro _ _ _ ⟨_, ⟨rfl, rfl, rfl⟩, rfl⟩
    refine XOA.cl ?_; refine zA rfl ?_; refine zO rfl (Rd.extract rfl rfl) ?_; refine zO rfl (Rd.extract rfl rfl) ?_; refine zO rfl (Rd.extract rfl rfl) ?_; refine zO rfl (Rd.extract rfl rfl) ?_; refine zO rfl (Rd.extract rfl rfl) ?_; refine zO rfl Rd.asg ?_; refine zO rfl Rd.asg ?_
    refine zO rfl Rd.asg ?_; refine zO rfl Rd.asg ?_; refine zO rfl Rd.asg ?_; refine zN (zT (zS (zR ?_)))
    obtain ⟨E2, hE2⟩ : ∃ E, E = (e.one deep).fail (decide (op < 1 ∨ 7 < op)) 2 := ⟨_, rfl⟩
    rw [← hE2, ← hcells]
    refine XOA.join (List.take_append_drop 10 _).symm [(34, 43)] (fun _ : Unit => [(34, ptr b), (43, .bool A1)]) (fun _ σ' Γ' => σ = σ' ∧ Γ' = [Judge b (.slice p n c) E2, blk g4 cells 38]) ?_ ?_
    · rw [hcells]
      cases hn : needE op with
      | true =>
        have hb : A1 = false := by rw [hA1, hn]; rfl
        rw [hb]
        refine zA rfl ?_; refine zA rfl ?_; refine zO rfl zJ ?_; refine zA rfl ?_
        first | (refine zG ?_; refine zV rfl rfl ?_) | refine zH ?_
        first | (refine zG ?_; refine zO rfl (Rd.ldA rfl) ?_) | refine zH ?_
        first | refine zH ?_
        first | (refine zG ?_; refine zO rfl zJ ?_) | refine zH ?_
        refine zO rfl zP ?_; refine zA rfl ?_; refine zN (zT ?_)
        refine ⟨(Keep.upd (Keep.upd (Keep.upd (Keep.upd (Keep.upd (Keep.upd (Keep.upd (Keep.upd (Keep.upd (Keep.upd (Keep.refl _ _) rfl) rfl) rfl) rfl) rfl) rfl) rfl) rfl) rfl) rfl), (), _, zM, ?_, ⟨rfl, rfl⟩⟩
        · exact zE
      | false =>
        have hb : A1 = !ne := by rw [hA1, hn]; rfl
        rw [hb]
        refine zA rfl ?_; refine zA rfl ?_; refine zO rfl zJ ?_; refine zA rfl ?_
        first | (refine zG ?_; refine zV rfl rfl ?_) | refine zH ?_
        first | (refine zG ?_; refine zO rfl (Rd.ldA rfl) ?_) | refine zH ?_
        first | refine XOA.wanted rfl rfl ?_ | refine XOA.wq rfl rfl ?_
        refine XOA.wr0 rfl (WrA.cE (none_a σ _ _ hxe) rfl) ?_
        rintro _ _ _ ⟨_, ⟨rfl, rfl, rfl⟩, rfl⟩
        refine XOA.cl ?_
        rw [← hne]
        first | (refine zG ?_; refine zO rfl zJ ?_) | refine zH ?_
        refine zO rfl zP ?_; refine zA rfl ?_; refine zN (zT ?_)
        refine ⟨(Keep.upd (Keep.upd (Keep.upd (Keep.updO (Keep.upd (Keep.upd (Keep.upd (Keep.upd (Keep.upd (Keep.upd (Keep.refl _ _) rfl) rfl) rfl) rfl) rfl) rfl) rfl) rfl) rfl) rfl), (), _, zM, ?_, ⟨rfl, rfl⟩⟩
        · exact zE
    rintro - δ2 _ _ ⟨rfl, rfl⟩
    dsimp only [ovr, List.foldl]
    rw [hcells]
    obtain ⟨B2, hB2⟩ : ∃ A, A = (A1 || A2) := ⟨_, rfl⟩
    rw [← hcells]
    refine XOA.join (List.take_append_drop 10 _).symm [(34, 34), (44, 53)] (fun _ : Unit => [(34, ptr b), (53, .bool B2)]) (fun _ σ' Γ' => σ = σ' ∧ Γ' = [Judge b (.slice p n c) E2, blk g4 cells 38]) ?_ ?_
    · rw [hcells]
      cases A1 with
      | true =>
        have hb : B2 = true := by rw [hB2]; rfl
        rw [hb]
        first | (refine zG ?_; refine zA rfl ?_) | refine zH ?_
        first | (refine zG ?_; refine zO rfl zJ ?_) | refine zH ?_
        first | (refine zG ?_; refine zA rfl ?_) | refine zH ?_
        first | (refine zG ?_; refine zV rfl rfl ?_) | refine zH ?_
        first | (refine zG ?_; refine zO rfl (Rd.ldA rfl) ?_) | refine zH ?_
        first | refine zH ?_
        first | (refine zG ?_; refine zO rfl zJ ?_) | refine zH ?_
        first | (refine zG ?_; refine zO rfl zP ?_) | refine zH ?_
        refine zO rfl zP ?_; refine zA rfl ?_; refine zN (zT ?_)
        refine ⟨(Keep.upd (Keep.upd (Keep.upd (Keep.upd (Keep.upd (Keep.upd (Keep.upd (Keep.upd (Keep.upd (Keep.upd (Keep.refl _ _) rfl) rfl) rfl) rfl) rfl) rfl) rfl) rfl) rfl) rfl), (), _, zM, ?_, ⟨rfl, rfl⟩⟩
        · exact zE
      | false =>
        rw [Bool.false_or] at hB2
        cases hn : needF op with
        | true =>
          have hb : B2 = false := by rw [hB2, hA2, hn]; rfl
          rw [hb]
          first | (refine zG ?_; refine zA rfl ?_) | refine zH ?_
          first | (refine zG ?_; refine zO rfl zJ ?_) | refine zH ?_
          first | (refine zG ?_; refine zA rfl ?_) | refine zH ?_
          first | (refine zG ?_; refine zV rfl rfl ?_) | refine zH ?_
          first | (refine zG ?_; refine zO rfl (Rd.ldA rfl) ?_) | refine zH ?_
          first | refine zH ?_
          first | (refine zG ?_; refine zO rfl zJ ?_) | refine zH ?_
          first | (refine zG ?_; refine zO rfl zP ?_) | refine zH ?_
          refine zO rfl zP ?_; refine zA rfl ?_; refine zN (zT ?_)
          refine ⟨(Keep.upd (Keep.upd (Keep.upd (Keep.upd (Keep.upd (Keep.upd (Keep.upd (Keep.upd (Keep.upd (Keep.upd (Keep.refl _ _) rfl) rfl) rfl) rfl) rfl) rfl) rfl) rfl) rfl) rfl), (), _, zM, ?_, ⟨rfl, rfl⟩⟩
          · exact zE
        | false =>
          have hb : B2 = !nf := by rw [hB2, hA2, hn]; rfl
          rw [hb]
          first | (refine zG ?_; refine zA rfl ?_) | refine zH ?_
          first | (refine zG ?_; refine zO rfl zJ ?_) | refine zH ?_
          first | (refine zG ?_; refine zA rfl ?_) | refine zH ?_
          first | (refine zG ?_; refine zV rfl rfl ?_) | refine zH ?_
          first | (refine zG ?_; refine zO rfl (Rd.ldA rfl) ?_) | refine zH ?_
          first | refine XOA.wanted rfl rfl ?_ | refine XOA.wq rfl rfl ?_
          refine XOA.wr0 rfl (WrA.cE (none_a σ _ _ hxf) rfl) ?_
          rintro _ _ _ ⟨_, ⟨rfl, rfl, rfl⟩, rfl⟩
          refine XOA.cl ?_
          rw [← hnf]
          first | (refine zG ?_; refine zO rfl zJ ?_) | refine zH ?_
          first | (refine zG ?_; refine zO rfl zP ?_) | refine zH ?_
          refine zO rfl zP ?_; refine zA rfl ?_; refine zN (zT ?_)
          refine ⟨(Keep.upd (Keep.upd (Keep.upd (Keep.upd (Keep.updO (Keep.upd (Keep.upd (Keep.upd (Keep.upd (Keep.upd (Keep.refl _ _) rfl) rfl) rfl) rfl) rfl) rfl) rfl) rfl) rfl) rfl), (), _, zM, ?_, ⟨rfl, rfl⟩⟩
          · exact zE
    rintro - δ3 _ _ ⟨rfl, rfl⟩
    dsimp only [ovr, List.foldl]
    obtain ⟨B3, hB3⟩ : ∃ A, A = (B2 || A3) := ⟨_, rfl⟩
    refine XOA.join (List.take_append_drop 10 _).symm [(34, 34), (54, 63)] (fun _ : Unit => [(34, ptr b), (63, .bool B3)]) (fun _ σ' Γ' => σ = σ' ∧ Γ' = [Judge b (.slice p n c) E2, blk g4 cells 38]) ?_ ?_
    · rw [hcells]
      cases hB : B2 with
      | true =>
        have hb : B3 = true := by rw [hB3, hB]; rfl
        rw [hb]
        first | (refine zG ?_; refine zA rfl ?_) | refine zH ?_
        first | (refine zG ?_; refine zO rfl zJ ?_) | refine zH ?_
        first | (refine zG ?_; refine zA rfl ?_) | refine zH ?_
        first | (refine zG ?_; refine zV rfl rfl ?_) | refine zH ?_
        first | (refine zG ?_; refine zB rfl rfl (tyrow rfl) rfl ?_) | refine zH ?_
        first | (refine zG ?_; refine zO rfl (Rd.lenSlice (tyrow rfl) rfl rfl) ?_) | refine zH ?_
        first | (refine zG ?_; refine zO rfl (Rd.gtr rfl rfl) ?_) | refine zH ?_
        first | (refine zG ?_; refine zO rfl zP ?_) | refine zH ?_
        refine zO rfl zP ?_; refine zA rfl ?_; refine zN (zT ?_)
        refine ⟨(Keep.upd (Keep.upd (Keep.upd (Keep.upd (Keep.upd (Keep.upd (Keep.upd (Keep.upd (Keep.upd (Keep.upd (Keep.refl _ _) rfl) rfl) rfl) rfl) rfl) rfl) rfl) rfl) rfl) rfl), (), _, zM, ?_, ⟨rfl, rfl⟩⟩
        · exact zE
      | false =>
        rw [hB, Bool.false_or] at hB3
        cases hn : needB op with
        | true =>
          have hb : B3 = false := by rw [hB3, hA3, hn]; rfl
          rw [hb]
          first | (refine zG ?_; refine zA rfl ?_) | refine zH ?_
          first | (refine zG ?_; refine zO rfl zJ ?_) | refine zH ?_
          first | (refine zG ?_; refine zA rfl ?_) | refine zH ?_
          first | (refine zG ?_; refine zV rfl rfl ?_) | refine zH ?_
          first | (refine zG ?_; refine zB rfl rfl (tyrow rfl) rfl ?_) | refine zH ?_
          first | (refine zG ?_; refine zO rfl (Rd.lenSlice (tyrow rfl) rfl rfl) ?_) | refine zH ?_
          first | (refine zG ?_; refine zO rfl (Rd.gtr rfl rfl) ?_) | refine zH ?_
          first | (refine zG ?_; refine zO rfl zP ?_) | refine zH ?_
          refine zO rfl zP ?_; refine zA rfl ?_; refine zN (zT ?_)
          refine ⟨(Keep.upd (Keep.upd (Keep.upd (Keep.upd (Keep.upd (Keep.upd (Keep.upd (Keep.upd (Keep.upd (Keep.upd (Keep.refl _ _) rfl) rfl) rfl) rfl) rfl) rfl) rfl) rfl) rfl) rfl), (), _, zM, ?_, ⟨rfl, rfl⟩⟩
          · exact zE
        | false =>
          have hb : B3 = decide ((0 : Int) < (body.length : Int)) := by rw [hB3, hA3, hn]; rfl
          rw [hb]
          first | (refine zG ?_; refine zA rfl ?_) | refine zH ?_
          first | (refine zG ?_; refine zO rfl zJ ?_) | refine zH ?_
          first | (refine zG ?_; refine zA rfl ?_) | refine zH ?_
          first | (refine zG ?_; refine zV rfl rfl ?_) | refine zH ?_
          first | (refine zG ?_; refine zB rfl rfl (tyrow rfl) rfl ?_) | refine zH ?_
          first | (refine zG ?_; refine zO rfl (Rd.lenSlice (tyrow rfl) rfl rfl) ?_) | refine zH ?_
          first | (refine zG ?_; refine zO rfl (Rd.gtr rfl rfl) ?_) | refine zH ?_
          first | (refine zG ?_; refine zO rfl zP ?_) | refine zH ?_
          refine zO rfl zP ?_; refine zA rfl ?_; refine zN (zT ?_)
          refine ⟨(Keep.upd (Keep.upd (Keep.upd (Keep.upd (Keep.upd (Keep.upd (Keep.upd (Keep.upd (Keep.upd (Keep.upd (Keep.refl _ _) rfl) rfl) rfl) rfl) rfl) rfl) rfl) rfl) rfl) rfl), (), _, zM, ?_, ⟨rfl, rfl⟩⟩
          · exact zE
    rintro - δ4 _ _ ⟨rfl, rfl⟩
    dsimp only [ovr, List.foldl]
    obtain ⟨B4, hB4⟩ : ∃ A, A = (B3 || A4) := ⟨_, rfl⟩
    refine XOA.join (List.take_append_drop 9 _).symm [(34, 34), (64, 72)] (fun _ : Unit => [(34, ptr b), (72, .bool B4)]) (fun _ σ' Γ' => σ = σ' ∧ Γ' = [Judge b (.slice p n c) E2, blk g4 cells 38]) ?_ ?_
    · rw [hcells]
      cases hB : B3 with
      | true =>
        have hb : B4 = true := by rw [hB4, hB]; rfl
        rw [hb]
        first | (refine zG ?_; refine zA rfl ?_) | refine zH ?_
        first | (refine zG ?_; refine zO rfl zJ ?_) | refine zH ?_
        first | (refine zG ?_; refine zA rfl ?_) | refine zH ?_
        first | (refine zG ?_; refine zV rfl rfl ?_) | refine zH ?_
        first | (refine zG ?_; refine zB rfl rfl (tyrow rfl) rfl ?_) | refine zH ?_
        first | (refine zG ?_; refine zO rfl (Rd.lenSlice (tyrow rfl) rfl rfl) ?_) | refine zH ?_
        first | (refine zG ?_; refine zO rfl (Rd.gtr rfl rfl) ?_) | refine zH ?_
        first | (refine zG ?_; refine zO rfl zP ?_) | refine zH ?_
        refine zO rfl zP ?_; refine zN (zT ?_)
        refine ⟨(Keep.upd (Keep.upd (Keep.upd (Keep.upd (Keep.upd (Keep.upd (Keep.upd (Keep.upd (Keep.upd (Keep.refl _ _) rfl) rfl) rfl) rfl) rfl) rfl) rfl) rfl) rfl), (), _, zM, ?_, ⟨rfl, rfl⟩⟩
        · exact zE
      | false =>
        rw [hB, Bool.false_or] at hB4
        cases hn : needO op with
        | true =>
          have hb : B4 = false := by rw [hB4, hA4, hn]; rfl
          rw [hb]
          first | (refine zG ?_; refine zA rfl ?_) | refine zH ?_
          first | (refine zG ?_; refine zO rfl zJ ?_) | refine zH ?_
          first | (refine zG ?_; refine zA rfl ?_) | refine zH ?_
          first | (refine zG ?_; refine zV rfl rfl ?_) | refine zH ?_
          first | (refine zG ?_; refine zB rfl rfl (tyrow rfl) rfl ?_) | refine zH ?_
          first | (refine zG ?_; refine zO rfl (Rd.lenSlice (tyrow rfl) rfl rfl) ?_) | refine zH ?_
          first | (refine zG ?_; refine zO rfl (Rd.gtr rfl rfl) ?_) | refine zH ?_
          first | (refine zG ?_; refine zO rfl zP ?_) | refine zH ?_
          refine zO rfl zP ?_; refine zN (zT ?_)
          refine ⟨(Keep.upd (Keep.upd (Keep.upd (Keep.upd (Keep.upd (Keep.upd (Keep.upd (Keep.upd (Keep.upd (Keep.refl _ _) rfl) rfl) rfl) rfl) rfl) rfl) rfl) rfl) rfl), (), _, zM, ?_, ⟨rfl, rfl⟩⟩
          · exact zE
        | false =>
          have hb : B4 = decide ((0 : Int) < (els.length : Int)) := by rw [hB4, hA4, hn]; rfl
          rw [hb]
          first | (refine zG ?_; refine zA rfl ?_) | refine zH ?_
          first | (refine zG ?_; refine zO rfl zJ ?_) | refine zH ?_
          first | (refine zG ?_; refine zA rfl ?_) | refine zH ?_
          first | (refine zG ?_; refine zV rfl rfl ?_) | refine zH ?_
          first | (refine zG ?_; refine zB rfl rfl (tyrow rfl) rfl ?_) | refine zH ?_
          first | (refine zG ?_; refine zO rfl (Rd.lenSlice (tyrow rfl) rfl rfl) ?_) | refine zH ?_
          first | (refine zG ?_; refine zO rfl (Rd.gtr rfl rfl) ?_) | refine zH ?_
          first | (refine zG ?_; refine zO rfl zP ?_) | refine zH ?_
          refine zO rfl zP ?_; refine zN (zT ?_)
          refine ⟨(Keep.upd (Keep.upd (Keep.upd (Keep.upd (Keep.upd (Keep.upd (Keep.upd (Keep.upd (Keep.upd (Keep.refl _ _) rfl) rfl) rfl) rfl) rfl) rfl) rfl) rfl) rfl), (), _, zM, ?_, ⟨rfl, rfl⟩⟩
          · exact zE
    rintro - δ5 _ _ ⟨rfl, rfl⟩
    dsimp only [ovr, List.foldl]
    rw [show B4 = stForm op ex fx body.length els.length by rw [hform, hB4, hB3, hB2], hcells]
    refine XOA.wr0 rfl (WrA.cE (fail_a σ b _ _ (stForm op ex fx body.length els.length) 5 (by decide)) rfl) ?_
    rintro _ _ _ ⟨_, ⟨rfl, rfl, rfl⟩, rfl⟩
    refine XOA.cl ?_; refine zN (zT (zS (zR (zA rfl ?_)))); refine zV rfl rfl ?_; refine zB rfl rfl (tyrow rfl) rfl ?_; refine zA rfl ?_
    refine XOA.wr0 rfl (WrA.cE (named_a σ b p n c _ v (needV op)) rfl) ?_
    rintro _ _ _ ⟨_, ⟨rfl, rfl, rfl⟩, rfl⟩
    refine XOA.cl ?_
    obtain ⟨H, hH⟩ : ∃ H, H = stHead n deep op v ex fx body.length els.length e := ⟨_, rfl⟩
    have hHi : H.in_ := by rw [hH]; exact in_of (Down.stHead n op v ex fx body.length els.length) hin deep
    rw [show JE.named (JE.fail E2 (stForm op ex fx body.length els.length) 5) n v (needV op) = H by rw [hH, stHead, hE2]]
    have hpost : stE n deep (.mk op v ex fx body els) e = stsE n (deep + 1) els (stsE n (deep + 1) body (stEF n (deep + 1) op ex fx H)) := by rw [stE, hH]
    rw [hpost]
    clear hpost hform hB4 hB3 hB2 hA1 hA2 hA3 hA4 hne hnf hH hE2
    rw [← hcells]
    obtain ⟨H1, hH1⟩ : ∃ H1, H1 = if needE op then exE n (deep + 1) ex H else H := ⟨_, rfl⟩
    have hH1i : H1.in_ := by
      rw [hH1]; split
      · exact in_of (Down.exE n ex) hHi (deep + 1)
      · exact hHi
    obtain ⟨H2, hH2⟩ : ∃ H2, H2 = stEF n (deep + 1) op ex fx H := ⟨_, rfl⟩
    have hH2i : H2.in_ := by rw [hH2]; exact in_of (Down.stEF n op ex fx) hHi (deep + 1)
    have hH1' := hH1
    have hH2' : H2 = if needF op then exE n (deep + 1) fx H1 else H1 := by rw [hH2, hH1]; rfl
    rw [← hH2]
    refine zN (zT (zS (zS (zR ?_))))
    refine XOA.join (List.take_append_drop 8 _).symm [(79, 86)] (fun _ : Unit => [(86, .bool (needE op && H.isOk))]) (fun _ σ' Γ' => σ = σ' ∧ Γ' = [Judge b (.slice p n c) H, blk g4 cells 38]) ?_ ?_
    · 
      cases hn : needE op with
      | false =>
        rw [Bool.false_and]
        refine zA rfl ?_; refine zA rfl ?_
        first | (refine zG ?_; refine zA rfl ?_) | refine zH ?_
        first | (refine zG ?_; refine zO rfl (Rd.nilCheck rfl) ?_) | refine zH ?_
        first | (refine zG ?_; refine zV rfl rfl ?_) | refine zH ?_
        first | (refine zG ?_; refine zB rfl rfl (tyrow rfl) rfl ?_) | refine zH ?_
        first | (refine zG ?_; refine zO rfl (Rd.eql rfl rfl) ?_) | refine zH ?_
        refine zO rfl zP ?_; refine zN (zT ?_)
        refine ⟨(Keep.upd (Keep.upd (Keep.upd (Keep.upd (Keep.upd (Keep.upd (Keep.upd (Keep.upd (Keep.refl _ _) rfl) rfl) rfl) rfl) rfl) rfl) rfl) rfl), (), _, zM, ?_, ⟨rfl, rfl⟩⟩
        · exact zE
      | true =>
        rw [Bool.true_and]
        refine zA rfl ?_; refine zA rfl ?_
        first | (refine zG ?_; refine zA rfl ?_) | refine zH ?_
        first | refine XA.opn (R := Judge b (.slice p n c) H) zL (Judge.anyD) ?_ | refine XOA.opn (R := Judge b (.slice p n c) H) zL (Judge.anyD) ?_ | refine DA.opn (R := Judge b (.slice p n c) H) zL (Judge.anyD) ?_
        rintro ⟨l, cc⟩ ⟨hdec, hf⟩
        first | refine XA.cl ?_ | refine XOA.cl ?_ | refine DA.cl ?_
        rw [← hdec]
        first | (refine zG ?_; refine zO rfl (Rd.nilCheck rfl) ?_) | refine zH ?_
        first | (refine zG ?_; refine zV rfl rfl ?_) | refine zH ?_
        first | (refine zG ?_; refine zB rfl rfl (tyrow rfl) rfl ?_) | refine zH ?_
        first | (refine zG ?_; refine zO rfl (Rd.eql rfl rfl) ?_) | refine zH ?_
        refine zO rfl zP ?_; refine zN (zT ?_)
        refine ⟨(Keep.upd (Keep.upd (Keep.upd (Keep.upd (Keep.upd (Keep.upd (Keep.upd (Keep.upd (Keep.refl _ _) rfl) rfl) rfl) rfl) rfl) rfl) rfl) rfl), (), _, zM, ?_, ⟨rfl, rfl⟩⟩
        · exact Ent.foldC (Θ := [_]) zD hf zE
    rintro - δ6 _ _ ⟨rfl, rfl⟩
    dsimp only [ovr, List.foldl]
    refine zN (zT ?_)
    refine XA.join [(87, 92)] (fun _ : Unit => []) (fun _ σ' Γ' => σ = σ' ∧ Γ' = [Judge b (.slice p n c) H1, blk g4 cells 38]) ?_ ?_
    · 
      refine XA.cond rfl (fun hq => ?_) (fun hq => ?_)
      · have hq1 : needE op = true ∧ H.isOk = true := by simpa using hq
        rw [hcells]
        refine zR (zA rfl ?_); refine zV rfl rfl ?_; refine zO rfl (Rd.ldA rfl) ?_; refine zA rfl ?_; refine zO rfl zI ?_
        refine XOA.wr0 rfl (WrA.cE (expr_a σ ex _ b p n c H (deep + 1) hxe hHi (by omega) (by omega)) rfl) ?_
        rintro _ _ _ ⟨_, ⟨rfl, rfl, rfl⟩, rfl⟩
        refine XOA.cl ?_; refine zN (zT ?_)
        rw [show H1 = exE n (deep + 1) ex H by rw [hH1', if_pos hq1.1]]
        refine ⟨(Keep.updO (Keep.upd (Keep.upd (Keep.upd (Keep.upd (Keep.upd (Keep.refl _ _) rfl) rfl) rfl) rfl) rfl) rfl), (), _, zM, ?_, ⟨rfl, rfl⟩⟩
        · exact zE
      · have e1 : H1 = H := by
          rw [hH1']
          split
          · rename_i hn
            rw [hn, Bool.true_and] at hq
            obtain ⟨c', hc'⟩ := isOk_false hq
            rw [hc', exE_err]
          · rfl
        rw [e1]
        refine XA.skip (zT ?_)
        refine ⟨(Keep.refl _ _), (), _, zM, ?_, ⟨rfl, rfl⟩⟩
        · exact zE
    rintro - δ6' _ _ ⟨rfl, rfl⟩
    dsimp only [ovr, List.foldl]
    refine zT (zS (zS (zR ?_)))
    refine XOA.join (List.take_append_drop 8 _).symm [(93, 100)] (fun _ : Unit => [(100, .bool (needF op && H1.isOk))]) (fun _ σ' Γ' => σ = σ' ∧ Γ' = [Judge b (.slice p n c) H1, blk g4 cells 38]) ?_ ?_
    · 
      cases hn : needF op with
      | false =>
        rw [Bool.false_and]
        refine zA rfl ?_; refine zA rfl ?_
        first | (refine zG ?_; refine zA rfl ?_) | refine zH ?_
        first | (refine zG ?_; refine zO rfl (Rd.nilCheck rfl) ?_) | refine zH ?_
        first | (refine zG ?_; refine zV rfl rfl ?_) | refine zH ?_
        first | (refine zG ?_; refine zB rfl rfl (tyrow rfl) rfl ?_) | refine zH ?_
        first | (refine zG ?_; refine zO rfl (Rd.eql rfl rfl) ?_) | refine zH ?_
        refine zO rfl zP ?_; refine zN (zT ?_)
        refine ⟨(Keep.upd (Keep.upd (Keep.upd (Keep.upd (Keep.upd (Keep.upd (Keep.upd (Keep.upd (Keep.refl _ _) rfl) rfl) rfl) rfl) rfl) rfl) rfl) rfl), (), _, zM, ?_, ⟨rfl, rfl⟩⟩
        · exact zE
      | true =>
        rw [Bool.true_and]
        refine zA rfl ?_; refine zA rfl ?_
        first | (refine zG ?_; refine zA rfl ?_) | refine zH ?_
        first | refine XA.opn (R := Judge b (.slice p n c) H1) zL (Judge.anyD) ?_ | refine XOA.opn (R := Judge b (.slice p n c) H1) zL (Judge.anyD) ?_ | refine DA.opn (R := Judge b (.slice p n c) H1) zL (Judge.anyD) ?_
        rintro ⟨l, cc⟩ ⟨hdec, hf⟩
        first | refine XA.cl ?_ | refine XOA.cl ?_ | refine DA.cl ?_
        rw [← hdec]
        first | (refine zG ?_; refine zO rfl (Rd.nilCheck rfl) ?_) | refine zH ?_
        first | (refine zG ?_; refine zV rfl rfl ?_) | refine zH ?_
        first | (refine zG ?_; refine zB rfl rfl (tyrow rfl) rfl ?_) | refine zH ?_
        first | (refine zG ?_; refine zO rfl (Rd.eql rfl rfl) ?_) | refine zH ?_
        refine zO rfl zP ?_; refine zN (zT ?_)
        refine ⟨(Keep.upd (Keep.upd (Keep.upd (Keep.upd (Keep.upd (Keep.upd (Keep.upd (Keep.upd (Keep.refl _ _) rfl) rfl) rfl) rfl) rfl) rfl) rfl) rfl), (), _, zM, ?_, ⟨rfl, rfl⟩⟩
        · exact Ent.foldC (Θ := [_]) zD hf zE
    rintro - δ7 _ _ ⟨rfl, rfl⟩
    dsimp only [ovr, List.foldl]
    refine zN (zT ?_)
    refine XA.join [(101, 106)] (fun _ : Unit => []) (fun _ σ' Γ' => σ = σ' ∧ Γ' = [Judge b (.slice p n c) H2, blk g4 cells 38]) ?_ ?_
    · 
      refine XA.cond rfl (fun hq => ?_) (fun hq => ?_)
      · have hq1 : needF op = true ∧ H1.isOk = true := by simpa using hq
        rw [hcells]
        refine zR (zA rfl ?_); refine zV rfl rfl ?_; refine zO rfl (Rd.ldA rfl) ?_; refine zA rfl ?_; refine zO rfl zI ?_
        refine XOA.wr0 rfl (WrA.cE (expr_a σ fx _ b p n c H1 (deep + 1) hxf hH1i (by omega) (by omega)) rfl) ?_
        rintro _ _ _ ⟨_, ⟨rfl, rfl, rfl⟩, rfl⟩
        refine XOA.cl ?_; refine zN (zT ?_)
        rw [show H2 = exE n (deep + 1) fx H1 by rw [hH2', if_pos hq1.1]]
        refine ⟨(Keep.updO (Keep.upd (Keep.upd (Keep.upd (Keep.upd (Keep.upd (Keep.refl _ _) rfl) rfl) rfl) rfl) rfl) rfl), (), _, zM, ?_, ⟨rfl, rfl⟩⟩
        · exact zE
      · have e1 : H2 = H1 := by
          rw [hH2']
          split
          · rename_i hn
            rw [hn, Bool.true_and] at hq
            obtain ⟨c', hc'⟩ := isOk_false hq
            rw [hc', exE_err]
          · rfl
        rw [e1]
        refine XA.skip (zT ?_)
        refine ⟨(Keep.refl _ _), (), _, zM, ?_, ⟨rfl, rfl⟩⟩
        · exact zE
    rintro - δ7' _ _ ⟨rfl, rfl⟩
    dsimp only [ovr, List.foldl]
    refine zT ?_
    rw [hcells]
    refine zS (zR (zA rfl ?_)); refine zV rfl rfl ?_; refine zB rfl rfl (tyrow rfl) rfl ?_; refine zA rfl ?_; refine zO rfl zI ?_
    refine XOA.wr0 rfl (WrA.cE (list_a σ body ih _ b p n c H2 (deep + 1) hxb hH2i (by omega) (by omega)) rfl) ?_
    rintro _ _ _ ⟨_, ⟨rfl, rfl, rfl⟩, rfl⟩
    refine XOA.cl ?_; refine zN (zT (zR (zA rfl ?_))); refine zV rfl rfl ?_; refine zB rfl rfl (tyrow rfl) rfl ?_; refine zA rfl ?_; refine zO rfl zI ?_
    refine XOA.wr0 rfl (WrA.cE (list_a σ els jh _ b p n c _ (deep + 1) hxl (in_of (Down.stsE n body) hH2i (deep + 1)) (by omega) (by omega)) rfl) ?_
    rintro _ _ _ ⟨_, ⟨rfl, rfl, rfl⟩, rfl⟩
    refine XOA.cl ?_; refine zN ?_
    exact bodyA.normal (ResA.none rfl) zE ⟨rfl, rfl, rfl⟩
end Go.Proofs.YthefnnkmpcgcmaaGreatDoor

namespace Go.Proofs.YthefnnkmpcgcmaaGreatDoor
open Go X
set_option maxHeartbeats 1000000
end Go.Proofs.YthefnnkmpcgcmaaGreatDoor

namespace Go.Proofs.YthefnnkmpcgcmaaGreatDoor
open Go X
set_option maxHeartbeats 1000000
end Go.Proofs.YthefnnkmpcgcmaaGreatDoor

namespace Go.Proofs.YthefnnkmpcgcmaaGreatDoor
open Go X
set_option maxHeartbeats 1000000
/-! variables -/
theorem varEq_a (σ : PH) (g : Nat) (v w : Va) : CallsA Tryz.prog 63 #[vav w, ptr g] σ [blk g [.string v.name, i64 v.size] 58] (RetA fun r σ' Γ' => r = .bool (decide (w.name = v.name)) ∧ σ = σ' ∧ Γ' = [blk g [.string v.name, i64 v.size] 58]) := by
  unfold vav
  refine enterA2 Tryz.func63 rfl rfl rfl ?_
  refine zS (zR ?_)
  refine XOA.wr0 rfl WrA.bx ?_
  rintro _ _ _ ⟨g2, rfl, rfl, rfl⟩
  refine zO rfl Rd.asg ?_; refine zN (zT (zS (zR (zV rfl rfl ?_)))); refine zB rfl rfl (tyrow rfl) rfl ?_; refine zV rfl rfl ?_; refine zB rfl rfl (tyrow rfl) rfl ?_; refine zO rfl (Rd.eqls rfl rfl) ?_; refine zO rfl Rd.asg ?_; refine zN (zT (XA.ret ?_))
  exact bodyA.ret (ResA.one rfl rfl) zE ⟨rfl, rfl, rfl⟩
theorem indexVar_a (σ : PH) (g : Nat) (v : Va) (sl : Value) (l : List Va) (hl : PSl 2 rVa σ sl l) : CallsA Tryz.prog 75 #[sl, .func (.func 63) #[] #[ptr g]] σ [blk g [.string v.name, i64 v.size] 58] (RetA fun r σ' Γ' => ∃ k : Int, r = i64 k ∧ (0 ≤ k ↔ ∃ w ∈ l, w.name = v.name) ∧ σ = σ' ∧ Γ' = [blk g [.string v.name, i64 v.size] 58]) := by
  obtain ⟨pl, cl, rfl, hle, hmx⟩ := hl.shape
  have hlen : l.length ≤ maxLen := by omega
  simp only [maxLen] at hlen
  refine enterA2 Tryz.func75 rfl rfl rfl ?_
  refine zS (zR (zO rfl Rd.asg ?_)); refine zN (zT (zS (zS (zR (zA rfl ?_))))); refine zO rfl (Rd.lenSlice (tyrow rfl) rfl rfl) ?_; refine zA rfl ?_; refine zN (zT (XA.block ?_))
  refine XA.gen [(0, _), (1, _), (4, _), (7, _), (8, _)] ⟨(by with_reducible (conv => lhs; whnf)), (by with_reducible (conv => lhs; whnf)), (by with_reducible (conv => lhs; whnf)), (by with_reducible (conv => lhs; whnf)), (by with_reducible (conv => lhs; whnf)), trivial⟩ (fun δ => ?_)
  dsimp only [List.foldl]
  refine XA.loop [(4, 5), (8, 18)] (fun k : Nat => [(8, i64 k)]) (fun k σ' Γ' => σ = σ' ∧ k ≤ l.length ∧ (∀ (j : Nat) w, j < k → l[j]? = some w → w.name ≠ v.name) ∧ Γ' = [blk g [.string v.name, i64 v.size] 58]) (fun k => l.length - k) 0 (by exact ⟨rfl, trivial⟩) (Δ0 := _) ?_ (⟨rfl, Nat.zero_le _, fun j w h => absurd h (Nat.not_lt_zero _), rfl⟩) ?_
  · exact zE
  rintro k δ _ _ ⟨rfl, hk, hall, rfl⟩
  dsimp only [ovr, List.foldl]
  refine zS (zR (zO rfl (Rd.lss rfl rfl) ?_)); refine zN (zT (zS ?_))
  refine XA.condp rfl (fun hlt => ?_) (fun hlt => ?_)
  · have hlt : k < l.length := by omega
    obtain ⟨x', hx'⟩ : ∃ x', l[k]? = some x' := ⟨_, List.getElem?_eq_getElem hlt⟩
    obtain ⟨gg, o, row, rfl, ⟨rfl, -, -⟩, hrl, hrow⟩ := hl.at hx'
    refine XA.skip (zT (zS (XA.block (zS (zR (zA rfl ?_)))))); refine zO rfl Rd.asg ?_; refine zN (zT (zS (zR (zA rfl ?_)))); refine zA rfl ?_; refine zA rfl ?_; refine zO rfl (Rd.ixS rfl rfl) ?_; refine zO rfl (Rd.ldA rfl) ?_
    refine XOA.wr0 rfl (WrA.cV (first := []) (cap := [ptr g]) rfl (varEq_a σ g v x') rfl) ?_
    rintro _ _ _ ⟨_, ⟨rfl, rfl, rfl⟩, rfl⟩
    refine XOA.cl ?_; refine zN (zT ?_)
    refine XA.condp rfl (fun hc => ?_) (fun hc => ?_)
    · refine zS ?_
      refine zR (zA rfl ?_); refine zO rfl Rd.asg ?_; refine zN (zT (XA.ret (DA.inb_ret (DA.thn_ret (DA.thn_ret (DA.inb_ret (DA.thn_ret ?_)))))))
      exact bodyA.ret (ResA.one rfl rfl) zE ⟨(k : Int), rfl, ⟨fun _ => ⟨x', List.mem_of_getElem? hx', hc⟩, fun _ => by omega⟩, rfl, rfl⟩
    · have hnew : ∀ (j : Nat) w, j < k + 1 → l[j]? = some w → w.name ≠ v.name := fun j w hj hw => by
        rcases Nat.lt_or_ge j k with h | h
        · exact hall j w h hw
        · have : j = k := by omega
          subst this
          rw [hx'] at hw; simp only [Option.some.injEq] at hw; subst hw; exact hc
      refine XA.skip (DA.inb_normal (zT (zR (zO rfl zI ?_)))); refine zA rfl ?_; refine zN (zT ?_)
      refine ⟨(Keep.upd (Keep.upd (Keep.updO (Keep.upd (Keep.upd (Keep.upd (Keep.upd (Keep.upd (Keep.upd (Keep.upd (Keep.upd (Keep.upd (Keep.hav (Keep.hav (Keep.refl _ _) rfl) rfl) rfl) rfl) rfl) rfl) rfl) rfl) rfl) rfl) rfl) rfl) rfl) rfl), k + 1, _, zM, ?_, ⟨rfl, hlt, hnew, rfl⟩, (by omega)⟩
      · exact zE
  have hkn : k = l.length := by omega
  subst hkn
  refine XA.exit (DA.thn_exit (DA.thn_exit (DA.inb_same (zT (zS (zR (zO rfl Rd.asg ?_))))))); refine zN (zT (XA.ret ?_))
  refine bodyA.ret (ResA.one rfl rfl) zE ⟨-1, rfl, ⟨fun h => absurd h (by decide), fun ⟨w, hw, e⟩ => ?_⟩, rfl, rfl⟩
  obtain ⟨j, hj, e2⟩ := List.mem_iff_getElem.1 hw
  exact absurd e (hall j w hj (by rw [List.getElem?_eq_getElem hj, e2]))
theorem containsVar_a (σ : PH) (g : Nat) (v : Va) (sl : Value) (l : List Va) (hl : PSl 2 rVa σ sl l) : CallsA Tryz.prog 62 #[sl, .func (.func 63) #[] #[ptr g]] σ [blk g [.string v.name, i64 v.size] 58] (RetA fun r σ' Γ' => r = .bool (decide (∃ w ∈ l, w.name = v.name)) ∧ σ = σ' ∧ Γ' = [blk g [.string v.name, i64 v.size] 58]) := by
  refine enterA2 Tryz.func62 rfl rfl rfl ?_
  refine zS (zR (zO rfl Rd.asg ?_)); refine zN (zT (zS (zR (zA rfl ?_)))); refine zA rfl ?_
  refine XOA.wr0 rfl (WrA.cE (indexVar_a σ g v sl l hl) rfl) ?_
  rintro _ _ _ ⟨_, ⟨k, rfl, hk, rfl, rfl⟩, rfl⟩
  refine XOA.cl ?_; refine zO rfl (Rd.geq rfl rfl) ?_; refine zO rfl Rd.asg ?_; refine zN (zT (XA.ret ?_))
  exact bodyA.ret (ResA.one rfl rfl) zE ⟨congrArg Value.bool (decide_eq_decide.2 hk), rfl, rfl⟩
end Go.Proofs.YthefnnkmpcgcmaaGreatDoor

namespace Go.Proofs.YthefnnkmpcgcmaaGreatDoor
open Go X
set_option maxHeartbeats 1000000
theorem X.PSl.take {α : Type} {s n c k : Nat} {R : RT α} {σ : PH} {p : Option Addr} {xs : List α} (h : PSl s R σ (.slice p n c) xs) (hk : k ≤ n) : PSl s R σ (.slice p k c) (xs.take k) := by
  obtain ⟨p', c', rows, h1, h2, h3, h4, h5, h6, h7⟩ := h
  simp only [Value.slice.injEq] at h1
  obtain ⟨rfl, rfl, rfl⟩ := h1
  have hl : (xs.take k).length = k := by rw [List.length_take]; exact Nat.min_eq_left hk
  refine ⟨p, c, rows.take k, by rw [hl], by omega, h3, by rw [hl, List.length_take]; omega, fun r hr => h5 r (List.mem_of_mem_take hr), fun i row x a b => ?_, fun hp => ?_⟩
  · rw [List.getElem?_take] at a b
    split at a
    · rename_i hi
      rw [if_pos hi] at b
      exact h6 i row x a b
    · cases a
  · obtain ⟨g, o, e, hr⟩ := h7 (by omega)
    refine ⟨g, o, e, ?_⟩
    have := hr.sub (j := 0) (us := (rows.take k).flatten) (by
      have e : rows.flatten = (rows.take k).flatten ++ (rows.drop k).flatten := by rw [← List.flatten_append, List.take_append_drop]
      rw [List.drop_zero, e]
      exact List.take_left)
    simpa using this
theorem drop_get {α : Type} {l : List α} {k : Nat} {x : α} (h : l[k]? = some x) : l.drop k = x :: l.drop (k + 1) := by
  obtain ⟨h1, h2⟩ := List.getElem?_eq_some_iff.1 h
  rw [List.drop_eq_getElem_cons h1, h2]
theorem vars_a (σ : PH) (sl : Value) (l : List Va) (hl : PSl 2 rVa σ sl l) : CallsA Tryz.prog 33 #[sl] σ [] (RetA fun v σ' Γ' => v = i64 (checkVars l) ∧ σ = σ' ∧ Γ' = []) := by
  obtain ⟨pl, cl, rfl, hle, hmx⟩ := hl.shape
  have hlen : l.length ≤ maxLen := by omega
  simp only [maxLen] at hlen
  refine enterA1 Tryz.func33 rfl rfl rfl ?_
  refine zS (zR (zO rfl Rd.asg ?_)); refine zN (zT (zS (zS (zR (zA rfl ?_))))); refine zO rfl (Rd.lenSlice (tyrow rfl) rfl rfl) ?_; refine zO rfl (Rd.gtr rfl rfl) ?_; refine zN (zT ?_)
  refine XA.condp rfl (fun h8 => ?_) (fun h8 => ?_)
  · refine zS ?_
    refine zR (zO rfl Rd.asg ?_); refine zN (zT (XA.ret (DA.thn_ret ?_)))
    have hr : checkVars l = 3 := by rw [checkVars, if_pos (by omega)]
    exact bodyA.ret (ResA.one rfl rfl) zE ⟨by rw [hr], rfl, rfl⟩
  have hcv : checkVars l = varsGo [] 0 l := by rw [checkVars, if_neg (by omega)]
  rw [hcv]
  refine XA.skip (zT (zS (zR (zO rfl Rd.asg ?_)))); refine zN (zT (zS (zS (zR (zA rfl ?_))))); refine zO rfl (Rd.lenSlice (tyrow rfl) rfl rfl) ?_; refine zA rfl ?_; refine zN (zT (XA.block ?_))
  refine XA.gen [(0, _), (2, _), (3, _), (9, _), (10, _), (11, _)] ⟨(by with_reducible (conv => lhs; whnf)), (by with_reducible (conv => lhs; whnf)), (by with_reducible (conv => lhs; whnf)), (by with_reducible (conv => lhs; whnf)), (by with_reducible (conv => lhs; whnf)), (by with_reducible (conv => lhs; whnf)), trivial⟩ (fun δ => ?_)
  dsimp only [List.foldl]
  refine XA.loop [(2, 5), (11, 42)] (fun q : Nat × Int => [(11, i64 q.1), (3, i64 q.2)]) (fun q σ' Γ' => σ = σ' ∧ q.1 ≤ l.length ∧ (0 ≤ q.2 ∧ q.2 ≤ 48 ∧ varsGo (l.take q.1) q.2 (l.drop q.1) = varsGo [] 0 l) ∧ Γ' = []) (fun q => l.length - q.1) (0, 0) (by exact ⟨rfl, rfl, trivial⟩) (Δ0 := _) ?_ (⟨rfl, Nat.zero_le _, ⟨Int.le_refl _, (by decide), rfl⟩, rfl⟩) ?_
  · exact zE
  rintro ⟨k, n⟩ δ _ _ ⟨rfl, hk, ⟨hn0, hn1, hgo⟩, rfl⟩
  dsimp only [ovr, List.foldl]
  have hk : k ≤ l.length := hk
  have hn0 : 0 ≤ n := hn0
  have hn1 : n ≤ 48 := hn1
  have hgo : varsGo (l.take k) n (l.drop k) = varsGo [] 0 l := hgo
  refine zS (zR (zO rfl (Rd.lss rfl rfl) ?_)); refine zN (zT (zS ?_))
  refine XA.condp rfl (fun hlt => ?_) (fun hlt => ?_)
  · have hlt : k < l.length := by omega
    obtain ⟨x, hx⟩ : ∃ x, l[k]? = some x := ⟨_, List.getElem?_eq_getElem hlt⟩
    obtain ⟨gg, o, row, rfl, ⟨rfl, ⟨hz0, hz1⟩, hnm⟩, hrl, hrow⟩ := hl.at hx
    have hpre := hl.take (k := k) hk
    rw [drop_get hx, varsGo] at hgo
    refine XA.skip (zT (zS (XA.block (zS (zR (zA rfl ?_)))))); refine zO rfl (Rd.ixS rfl rfl) ?_; refine zO rfl (Rd.ldA rfl) ?_
    refine XOA.wr0 rfl (WrA.alloc (tyrow rfl)) ?_
    rintro _ _ _ ⟨g5, rfl, rfl, rfl⟩
    refine zO rfl Rd.asg ?_
    refine XOA.wr0 rfl (WrA.st (tyrow rfl) rfl) ?_
    rintro _ _ _ ⟨rfl, rfl, rfl⟩
    refine zN (zT (zS (XA.block (zS (zR (zV rfl rfl ?_)))))); refine zB rfl rfl (tyrow rfl) rfl ?_
    refine XOA.wr0 rfl (WrA.cE (name_a σ x.name hnm) rfl) ?_
    rintro _ _ _ ⟨_, ⟨rfl, rfl, rfl⟩, rfl⟩
    refine XOA.cl ?_
    cases hnk : nameOk x.name with
    | false =>
      rw [if_pos hnk] at hgo
      refine zO rfl zJ ?_; refine zO rfl Rd.asg ?_; refine zN (zT (XA.condT rfl rfl (zS (zR (zO rfl Rd.asg ?_))))); refine zN (zT (XA.ret (DA.inb_ret (DA.thn_ret (DA.inb_ret (DA.thn_ret (DA.thn_ret (DA.inb_ret (DA.thn_ret ?_)))))))))
      exact bodyA.ret (ResA.one rfl rfl) zE ⟨by rw [← hgo], rfl, rfl⟩
    | true =>
      rw [if_neg (by simp [hnk])] at hgo
      refine zO rfl zJ ?_; refine zO rfl Rd.asg ?_; refine zN (zT (XA.condF rfl rfl (zS (zR (zA rfl ?_))))); refine zA rfl ?_; refine zO rfl (Rd.sliceToN (tyrow rfl) rfl (tyrow rfl) rfl rfl (by omega)) ?_
      refine zO rfl (Rd.makeFunc1 (by with_reducible (conv => lhs; whnf))) ?_
      refine XOA.wr0 rfl (WrA.cE (containsVar_a σ g5 x _ _ hpre) rfl) ?_
      rintro _ _ _ ⟨_, ⟨rfl, rfl, rfl⟩, rfl⟩
      refine XOA.cl ?_; refine zO rfl Rd.asg ?_; refine zN (zT ?_)
      refine XA.condp rfl (fun htw => ?_) (fun htw => ?_)
      · rw [if_pos htw] at hgo
        refine zS (zR (zO rfl Rd.asg ?_)); refine zN (zT (XA.ret (DA.inb_ret (DA.thn_ret (DA.inb_ret (DA.thn_ret (DA.thn_ret (DA.inb_ret (DA.thn_ret ?_)))))))))
        exact bodyA.ret (ResA.one rfl rfl) zE ⟨by rw [← hgo], rfl, rfl⟩
      rw [if_neg htw] at hgo
      by_cases hz : x.size < 1
      · rw [if_pos (.inl hz)] at hgo
        refine zS (zR (zV rfl rfl ?_)); refine zB rfl rfl (tyrow rfl) rfl ?_; refine zO rfl (Rd.lss rfl rfl) ?_; refine zA rfl ?_
        first | (refine zG ?_; refine zV rfl rfl ?_) | refine zH ?_
        first | (refine zG ?_; refine zB rfl rfl (tyrow rfl) rfl ?_) | refine zH ?_
        first | (refine zG ?_; refine zA rfl ?_) | refine zH ?_
        first | (refine zG ?_; refine zO rfl (by first | exact Rd.sbi rfl rfl | exact Rd.sub rfl rfl) ?_) | refine zH ?_
        first | (refine zG ?_; refine zO rfl (Rd.gtr rfl rfl) ?_) | refine zH ?_
        refine zO rfl zP ?_; refine zO rfl Rd.asg ?_; refine zN (zT (XA.condT rfl rfl (zS (zR (zO rfl Rd.asg ?_))))); refine zN (zT (XA.ret (DA.inb_ret (DA.thn_ret (DA.inb_ret (DA.thn_ret (DA.thn_ret (DA.inb_ret (DA.thn_ret ?_)))))))))
        exact bodyA.ret (ResA.one rfl rfl) zE ⟨by rw [← hgo], rfl, rfl⟩
      · 
        refine zS (zR (zV rfl rfl ?_)); refine zB rfl rfl (tyrow rfl) rfl ?_; refine zO rfl (Rd.lss rfl rfl) ?_; refine zA rfl ?_
        first | (refine zG ?_; refine zV rfl rfl ?_) | refine zH ?_
        first | (refine zG ?_; refine zB rfl rfl (tyrow rfl) rfl ?_) | refine zH ?_
        first | (refine zG ?_; refine zA rfl ?_) | refine zH ?_
        first | (refine zG ?_; refine zO rfl (by first | exact Rd.sbi rfl rfl | exact Rd.sub rfl rfl) ?_) | refine zH ?_
        first | (refine zG ?_; refine zO rfl (Rd.gtr rfl rfl) ?_) | refine zH ?_
        refine zO rfl zP ?_; refine zO rfl Rd.asg ?_; refine zN (zT ?_)
        refine XA.condp rfl (fun hz2 => ?_) (fun hz2 => ?_)
        · rw [if_pos (.inr hz2)] at hgo
          refine zS (zR (zO rfl Rd.asg ?_)); refine zN (zT (XA.ret (DA.inb_ret (DA.thn_ret (DA.inb_ret (DA.thn_ret (DA.thn_ret (DA.inb_ret (DA.thn_ret ?_)))))))))
          exact bodyA.ret (ResA.one rfl rfl) zE ⟨by rw [← hgo], rfl, rfl⟩
        rw [if_neg (by omega)] at hgo
        refine XA.skip (DA.inb_normal (zT (zR (zA rfl ?_)))); refine zV rfl rfl ?_; refine zB rfl rfl (tyrow rfl) rfl ?_; refine zO rfl zI ?_; refine zO rfl Rd.asg ?_; refine zN (DA.inb_normal (zT (zR (zO rfl zI ?_)))); refine zA rfl ?_; refine zN (zT ?_)
        refine ⟨(Keep.upd (Keep.upd (Keep.upd (Keep.upd (Keep.upd (Keep.upd (Keep.upd (Keep.upd (Keep.upd (Keep.upd (Keep.upd (Keep.upd (Keep.upd (Keep.upd (Keep.upd (Keep.upd (Keep.upd (Keep.upd (Keep.upd (Keep.updO (Keep.upd (Keep.upd (Keep.upd (Keep.upd (Keep.upd (Keep.upd (Keep.updO (Keep.upd (Keep.upd (Keep.updN (Keep.upd (Keep.updO (Keep.upd (Keep.upd (Keep.upd (Keep.upd (Keep.upd (Keep.upd (Keep.hav (Keep.hav (Keep.refl _ _) rfl) rfl) rfl) rfl) rfl) rfl) rfl) rfl) rfl) rfl)) rfl) rfl) rfl) rfl) rfl) rfl) rfl) rfl) rfl) rfl) rfl) rfl) rfl) rfl) rfl) rfl) rfl) rfl) rfl) rfl) rfl) rfl) rfl) rfl) rfl) rfl) rfl) rfl) rfl), (k + 1, n + x.size), _, zM, ?_, ⟨rfl, hlt, ⟨by simp only; omega, by simp only; omega, by rw [takeS hx]; exact hgo⟩, rfl⟩, (by simp only; omega)⟩
        · exact zE
  have hkn : k = l.length := by omega
  subst hkn
  rw [List.drop_length, varsGo] at hgo
  refine XA.exit (DA.thn_exit (DA.thn_exit (DA.inb_same (zT (zS (zR (zO rfl Rd.asg ?_))))))); refine zN (zT (XA.ret ?_))
  exact bodyA.ret (ResA.one rfl rfl) zE ⟨by rw [← hgo], rfl, rfl⟩
theorem check_a (σ : PH) (cs : List Value) (p : Pr) (hp : PrAt σ cs p) : CallsA Tryz.prog 15 #[.agg cs.toArray] σ [] (RetA fun v σ' Γ' => v = i64 (checkP p) ∧ σ = σ' ∧ Γ' = []) := by
  obtain ⟨vs, bs, rfl, hv, hb⟩ := hp
  obtain ⟨pv, cv, rfl, hvl, hvm⟩ := hv.shape
  refine enterA1 Tryz.func15 rfl rfl rfl ?_
  refine zS (zR ?_)
  refine XOA.wr0 rfl WrA.bx ?_
  rintro _ _ _ ⟨g1, rfl, rfl, rfl⟩
  refine zO rfl Rd.asg ?_; refine zN (zT (zS (zS (zR (zV rfl rfl ?_))))); refine zB rfl rfl (tyrow rfl) rfl ?_
  refine XOA.wr0 rfl (WrA.cE (vars_a σ _ _ hv) rfl) ?_
  rintro _ _ _ ⟨_, ⟨rfl, rfl, rfl⟩, rfl⟩
  refine XOA.cl ?_; refine zO rfl Rd.asg ?_; refine zN (zT (zS (zR (zA rfl ?_)))); refine zO rfl (Rd.neq rfl rfl) ?_; refine zN (zT ?_)
  refine XA.condp rfl (fun hc => ?_) (fun hc => ?_)
  · refine zS ?_
    refine zR (zA rfl ?_); refine zO rfl Rd.asg ?_; refine zN (zT (XA.ret (DA.thn_ret ?_)))
    exact bodyA.ret (ResA.one rfl rfl) zE ⟨by rw [checkP, if_pos hc], rfl, rfl⟩
  refine XA.skip (zT (zS (zR (zV rfl rfl ?_)))); refine zB rfl rfl (tyrow rfl) rfl ?_
  refine zO rfl (Rd.bl (fun _ _ => tyrow) rfl rfl rfl) ?_
  refine XOA.wr0 rfl WrA.bx ?_
  rintro _ _ _ ⟨g14, rfl, rfl, rfl⟩
  refine zO rfl Rd.asg ?_; refine zN (zT (zS (zR (zA rfl ?_)))); refine zV rfl rfl ?_; refine zB rfl rfl (tyrow rfl) rfl ?_
  refine XOA.ent (Ent.foldC (Θ := [_]) zD (Judge.mkO (l := 150)) (Ent.refl _)) ?_
  refine XOA.wr0 rfl (WrA.cE (list_a σ p.body (fun x _ => stmt_a σ x) bs g14 pv p.vars.length cv (.ok 150) 0 hb (fun l hl => by simp only [Except.ok.injEq] at hl; omega) (by decide) (by decide)) rfl) ?_
  rintro _ _ _ ⟨_, ⟨rfl, rfl, rfl⟩, rfl⟩
  refine XOA.cl ?_
  have hcp : checkP p = (stsE p.vars.length 0 p.body (.ok 150)).code := by rw [checkP, if_neg hc]
  rw [hcp]
  refine zN (zT (zS (zR (zA rfl ?_))))
  cases hst : stsE p.vars.length 0 p.body (.ok 150) with
  | ok a =>
    first | refine XA.opn (R := Judge g14 _ (.ok a)) zL (Judge.okO) ?_ | refine XOA.opn (R := Judge g14 _ (.ok a)) zL (Judge.okO) ?_ | refine DA.opn (R := Judge g14 _ (.ok a)) zL (Judge.okO) ?_
    rintro ⟨⟩ -
    first | refine XA.cl ?_ | refine XOA.cl ?_ | refine DA.cl ?_
    refine zO rfl (Rd.nilCheck rfl) ?_; refine zV rfl rfl ?_; refine zB rfl rfl (tyrow rfl) rfl ?_; refine zO rfl Rd.asg ?_; refine zN (zT (XA.ret ?_))
    exact bodyA.ret (ResA.one rfl rfl) (Ent.nil _) ⟨rfl, rfl, rfl⟩
  | error c =>
    first | refine XA.opn (R := Judge g14 _ (.error c)) zL (Judge.errO) ?_ | refine XOA.opn (R := Judge g14 _ (.error c)) zL (Judge.errO) ?_ | refine DA.opn (R := Judge g14 _ (.error c)) zL (Judge.errO) ?_
    rintro l h0
    first | refine XA.cl ?_ | refine XOA.cl ?_ | refine DA.cl ?_
    refine zO rfl (Rd.nilCheck rfl) ?_; refine zV rfl rfl ?_; refine zB rfl rfl (tyrow rfl) rfl ?_; refine zO rfl Rd.asg ?_; refine zN (zT (XA.ret ?_))
    exact bodyA.ret (ResA.one rfl rfl) (Ent.nil _) ⟨rfl, rfl, rfl⟩
end Go.Proofs.YthefnnkmpcgcmaaGreatDoor

namespace Go.Proofs.YthefnnkmpcgcmaaGreatDoor
open Go X
set_option maxHeartbeats 1000000
theorem take_eq_succ {α : Type} {l m : List α} {k : Nat} {x y : α} (hx : l[k]? = some x) (hy : m[k]? = some y) (h : l.take k = m.take k) (e : x = y) : l.take (k + 1) = m.take (k + 1) := by rw [takeS hx, takeS hy, h, e]
end Go.Proofs.YthefnnkmpcgcmaaGreatDoor

namespace Go.Proofs.YthefnnkmpcgcmaaGreatDoor
open Go X
set_option maxHeartbeats 1000000
theorem rparts_a (σ : PH) (op : Int) : CallsA Tryz.prog 66 #[i64 op] σ [] (RetA fun v σ' Γ' => v = i64 (partsOf op) ∧ σ = σ' ∧ Γ' = []) := by
  refine enterA1 Tryz.func66 rfl rfl rfl ?_
  refine zS (zR (zO rfl Rd.asg ?_)); refine zN (zT (zS (zS (zR (zA rfl ?_))))); refine zN (zT (XA.block (zS (zS (zR ?_)))))
  by_cases h1 : op = 1
  · subst h1
    refine zO rfl (Rd.eql rfl rfl) ?_; refine zO rfl Rd.asg ?_; refine zN (zT (XA.condT rfl rfl (XA.skip (zT (XA.condT rfl rfl (zS (zR (zO rfl Rd.asg ?_)))))))); refine zN (zT (XA.ret (DA.inb_ret (DA.thn_ret ?_))))
    exact bodyA.ret (ResA.one rfl rfl) (Ent.refl _) ⟨rfl, rfl, rfl⟩
  by_cases h2 : op = 2
  · subst h2
    refine zO rfl (Rd.eql rfl rfl) ?_; refine zO rfl Rd.asg ?_; refine zN (zT (XA.condF rfl rfl (zR (zO rfl (Rd.eql rfl rfl) ?_)))); refine zO rfl Rd.asg ?_; refine zN (zT (XA.condT rfl rfl (zS (zR (zO rfl Rd.asg ?_))))); refine zN (zT (XA.ret (DA.inb_ret (DA.thn_ret ?_))))
    exact bodyA.ret (ResA.one rfl rfl) (Ent.refl _) ⟨rfl, rfl, rfl⟩
  by_cases h3 : op = 3
  · subst h3
    refine zO rfl (Rd.eql rfl rfl) ?_; refine zO rfl Rd.asg ?_; refine zN (zT (XA.condF rfl rfl (zR (zO rfl (Rd.eql rfl rfl) ?_)))); refine zO rfl Rd.asg ?_; refine zN (zT (XA.condF rfl rfl (zS (zR (zO rfl (Rd.eql rfl rfl) ?_))))); refine zO rfl Rd.asg ?_
    refine zN (zT (XA.condT rfl rfl (zS (zR (zO rfl Rd.asg ?_))))); refine zN (zT (XA.ret (DA.inb_ret (DA.thn_ret ?_))))
    exact bodyA.ret (ResA.one rfl rfl) (Ent.refl _) ⟨rfl, rfl, rfl⟩
  refine zO rfl (Rd.eql rfl rfl) ?_; refine zO rfl Rd.asg ?_; refine zN (zT (XA.condF rfl zY ?_)); refine zR (zO rfl (Rd.eql rfl rfl) ?_); refine zO rfl Rd.asg ?_; refine zN (zT (XA.condF rfl zY ?_)); refine zS (zR (zO rfl (Rd.eql rfl rfl) ?_)); refine zO rfl Rd.asg ?_
  refine zN (zT (XA.condF rfl zY ?_)); refine zS (zS (zR (zO rfl (Rd.eql rfl rfl) ?_))); refine zO rfl Rd.asg ?_; refine zN (zT ?_)
  have hp : partsOf op = if 4 ≤ op ∧ op ≤ 8 then 2 else -1 := by rw [partsOf, if_neg (by omega), if_neg h3]
  by_cases h4 : op = 4
  · subst h4
    refine XA.condT rfl rfl (XA.skip (zT (XA.condT rfl rfl (zS (zR (zO rfl Rd.asg ?_)))))); refine zN (zT (XA.ret (DA.inb_ret (DA.thn_ret ?_))))
    exact bodyA.ret (ResA.one rfl rfl) (Ent.refl _) ⟨rfl, rfl, rfl⟩
  by_cases h5 : op = 5
  · subst h5
    refine XA.condF rfl rfl (zS (zR (zO rfl (Rd.eql rfl rfl) ?_))); refine zO rfl Rd.asg ?_; refine zN (zT (XA.condT rfl rfl (XA.skip (zT (XA.condT rfl rfl (zS (zR (zO rfl Rd.asg ?_)))))))); refine zN (zT (XA.ret (DA.inb_ret (DA.thn_ret ?_))))
    exact bodyA.ret (ResA.one rfl rfl) (Ent.refl _) ⟨rfl, rfl, rfl⟩
  by_cases h6 : op = 6
  · subst h6
    refine XA.condF rfl rfl (zS (zR (zO rfl (Rd.eql rfl rfl) ?_))); refine zO rfl Rd.asg ?_; refine zN (zT (XA.condF rfl rfl (zS (zR (zO rfl (Rd.eql rfl rfl) ?_))))); refine zO rfl Rd.asg ?_; refine zN (zT (XA.condT rfl rfl (XA.skip (zT (XA.condT rfl rfl (zS (zR (zO rfl Rd.asg ?_))))))))
    refine zN (zT (XA.ret (DA.inb_ret (DA.thn_ret ?_))))
    exact bodyA.ret (ResA.one rfl rfl) (Ent.refl _) ⟨rfl, rfl, rfl⟩
  by_cases h7 : op = 7
  · subst h7
    refine XA.condF rfl rfl (zS (zR (zO rfl (Rd.eql rfl rfl) ?_))); refine zO rfl Rd.asg ?_; refine zN (zT (XA.condF rfl rfl (zS (zR (zO rfl (Rd.eql rfl rfl) ?_))))); refine zO rfl Rd.asg ?_; refine zN (zT (XA.condF rfl rfl (zS (zR (zO rfl (Rd.eql rfl rfl) ?_))))); refine zO rfl Rd.asg ?_
    refine zN (zT (XA.condT rfl rfl (XA.skip (zT (XA.condT rfl rfl (zS (zR (zO rfl Rd.asg ?_)))))))); refine zN (zT (XA.ret (DA.inb_ret (DA.thn_ret ?_))))
    exact bodyA.ret (ResA.one rfl rfl) (Ent.refl _) ⟨rfl, rfl, rfl⟩
  refine XA.condF rfl zY ?_; refine zS (zR (zO rfl (Rd.eql rfl rfl) ?_)); refine zO rfl Rd.asg ?_; refine zN (zT (XA.condF rfl zY ?_)); refine zS (zR (zO rfl (Rd.eql rfl rfl) ?_)); refine zO rfl Rd.asg ?_; refine zN (zT (XA.condF rfl zY ?_)); refine zS (zR (zO rfl (Rd.eql rfl rfl) ?_))
  refine zO rfl Rd.asg ?_; refine zN (zT (XA.condF rfl zY ?_)); refine zR (zO rfl (Rd.eql rfl rfl) ?_); refine zO rfl Rd.asg ?_; refine zN (zT ?_)
  refine XA.condp rfl (fun h8 => ?_) (fun h8 => ?_)
  · subst h8
    refine zS (zR (zO rfl Rd.asg ?_)); refine zN (zT (XA.ret (DA.inb_ret (DA.thn_ret ?_))))
    exact bodyA.ret (ResA.one rfl rfl) (Ent.refl _) ⟨rfl, rfl, rfl⟩
  rw [hp, if_neg (by omega)]
  refine XA.skip (DA.inb_normal (zT (zS (zR (zO rfl Rd.asg ?_))))); refine zN (zT (XA.ret ?_))
  exact bodyA.ret (ResA.one rfl rfl) (Ent.refl _) ⟨rfl, rfl, rfl⟩
def needs (op : Int) : ByteArray := if op = 1 then ⟨#[101, 118]⟩ else if op = 2 then ⟨#[101, 102, 118]⟩ else if op = 3 then ⟨#[101]⟩ else if op = 4 then ⟨#[118]⟩ else if op = 5 then ⟨#[101, 98]⟩ else if op = 6 then ⟨#[101, 98, 111]⟩ else ⟨#[]⟩
theorem rneeds_a (σ : PH) (op : Int) : CallsA Tryz.prog 65 #[i64 op] σ [] (RetA fun v σ' Γ' => v = .string (needs op) ∧ σ = σ' ∧ Γ' = []) := by
  refine enterA1 Tryz.func65 rfl rfl rfl ?_
  refine zS (zR (zO rfl Rd.asg ?_)); refine zN (zT (zS (zS (zR (zA rfl ?_))))); refine zN (zT (XA.block (zS (zR (zO rfl (Rd.eql rfl rfl) ?_))))); refine zO rfl Rd.asg ?_; refine zN (zT ?_)
  refine XA.condp rfl (fun h1 => ?_) (fun h1 => ?_)
  · subst h1
    refine zS (zR (zO rfl Rd.asg ?_)); refine zN (zT (XA.ret (DA.inb_ret (DA.thn_ret ?_))))
    exact bodyA.ret (ResA.one rfl rfl) (Ent.refl _) ⟨rfl, rfl, rfl⟩
  refine zS (zR (zO rfl (Rd.eql rfl rfl) ?_)); refine zO rfl Rd.asg ?_; refine zN (zT ?_)
  refine XA.condp rfl (fun h2 => ?_) (fun h2 => ?_)
  · subst h2
    refine zS (zR (zO rfl Rd.asg ?_)); refine zN (zT (XA.ret (DA.inb_ret (DA.thn_ret ?_))))
    exact bodyA.ret (ResA.one rfl rfl) (Ent.refl _) ⟨rfl, rfl, rfl⟩
  refine zS (zR (zO rfl (Rd.eql rfl rfl) ?_)); refine zO rfl Rd.asg ?_; refine zN (zT ?_)
  refine XA.condp rfl (fun h3 => ?_) (fun h3 => ?_)
  · subst h3
    refine zS (zR (zO rfl Rd.asg ?_)); refine zN (zT (XA.ret (DA.inb_ret (DA.thn_ret ?_))))
    exact bodyA.ret (ResA.one rfl rfl) (Ent.refl _) ⟨rfl, rfl, rfl⟩
  refine zS (zR (zO rfl (Rd.eql rfl rfl) ?_)); refine zO rfl Rd.asg ?_; refine zN (zT ?_)
  refine XA.condp rfl (fun h4 => ?_) (fun h4 => ?_)
  · subst h4
    refine zS (zR (zO rfl Rd.asg ?_)); refine zN (zT (XA.ret (DA.inb_ret (DA.thn_ret ?_))))
    exact bodyA.ret (ResA.one rfl rfl) (Ent.refl _) ⟨rfl, rfl, rfl⟩
  refine zS (zR (zO rfl (Rd.eql rfl rfl) ?_)); refine zO rfl Rd.asg ?_; refine zN (zT ?_)
  refine XA.condp rfl (fun h5 => ?_) (fun h5 => ?_)
  · subst h5
    refine zS (zR (zO rfl Rd.asg ?_)); refine zN (zT (XA.ret (DA.inb_ret (DA.thn_ret ?_))))
    exact bodyA.ret (ResA.one rfl rfl) (Ent.refl _) ⟨rfl, rfl, rfl⟩
  refine zS (zR (zO rfl (Rd.eql rfl rfl) ?_)); refine zO rfl Rd.asg ?_; refine zN (zT ?_)
  refine XA.condp rfl (fun h6 => ?_) (fun h6 => ?_)
  · subst h6
    refine zS (zR (zO rfl Rd.asg ?_)); refine zN (zT (XA.ret (DA.inb_ret (DA.thn_ret ?_))))
    exact bodyA.ret (ResA.one rfl rfl) (Ent.refl _) ⟨rfl, rfl, rfl⟩
  have hn : needs op = ⟨#[]⟩ := by rw [needs, if_neg h1, if_neg h2, if_neg h3, if_neg h4, if_neg h5, if_neg h6]
  rw [hn]
  refine XA.skip (DA.inb_normal (zT (zS (zR (zO rfl Rd.asg ?_))))); refine zN (zT (XA.ret ?_))
  exact bodyA.ret (ResA.one rfl rfl) (Ent.refl _) ⟨rfl, rfl, rfl⟩
def hasByte (s : ByteArray) (c : Nat) : Bool := decide (∃ i, i < s.size ∧ byteAt s i = c)
theorem rneeded_a (σ : PH) (op : Int) (c : Nat) : CallsA Tryz.prog 41 #[i64 op, .int .u8 c] σ [] (RetA fun v σ' Γ' => v = .bool (hasByte (needs op) c) ∧ σ = σ' ∧ Γ' = []) := by
  have hsz : (needs op).size ≤ 3 := by unfold needs; (repeat' split) <;> decide
  refine enterA2 Tryz.func41 rfl rfl rfl ?_
  refine zS (zR (zO rfl Rd.asg ?_)); refine zN (zT (zS (zR (zA rfl ?_))))
  refine XOA.wr0 rfl (WrA.cE (rneeds_a σ op) rfl) ?_
  rintro _ _ _ ⟨_, ⟨rfl, rfl, rfl⟩, rfl⟩
  refine XOA.cl ?_
  obtain ⟨s, hs⟩ : ∃ s, s = needs op := ⟨_, rfl⟩
  rw [← hs] at hsz ⊢
  refine zO rfl Rd.asg ?_; refine zN (zT (zS (zS (zR (zO rfl Rd.asg ?_))))); refine zN (zT (XA.block ?_))
  refine XA.gen [(1, _), (4, _), (5, _), (6, _)] ⟨(by with_reducible (conv => lhs; whnf)), (by with_reducible (conv => lhs; whnf)), (by with_reducible (conv => lhs; whnf)), (by with_reducible (conv => lhs; whnf)), trivial⟩ (fun δ => ?_)
  dsimp only [List.foldl]
  refine XA.loop [(4, 4), (6, 6), (9, 19)] (fun k : Nat => [(6, i64 k)]) (fun k σ' Γ' => σ = σ' ∧ k ≤ s.size ∧ (∀ i, i < k → byteAt s i ≠ c) ∧ Γ' = []) (fun k => s.size - k) 0 (by exact ⟨rfl, trivial⟩) (Δ0 := _) ?_ (⟨rfl, Nat.zero_le _, fun i h => absurd h (Nat.not_lt_zero _), rfl⟩) ?_
  · exact zE
  rintro k δ _ _ ⟨rfl, hk, hall, rfl⟩
  dsimp only [ovr, List.foldl]
  refine zS (zS (zR (zA rfl ?_))); refine zA rfl ?_; refine zO rfl (Rd.lenString (tyrow rfl) rfl rfl) ?_; refine zO rfl (Rd.lss rfl rfl) ?_; refine zN (zT ?_)
  refine XA.condp rfl (fun hlt => ?_) (fun hlt => ?_)
  · have hlt : k < s.size := by omega
    refine XA.skip (zT (zS (XA.block (zS (zR (zA rfl ?_)))))); refine zA rfl ?_
    refine zO rfl (Rd.indexStr (tyrow rfl) rfl rfl rfl (by first | omega | decide | (simp; omega))) ?_
    refine zA rfl ?_; refine zO rfl (Rd.eql rfl rfl) ?_; refine zN (zT ?_)
    refine XA.condp rfl (fun he => ?_) (fun he => ?_)
    · have hb : hasByte s c = true := decide_eq_true ⟨k, hlt, by omega⟩
      rw [hb]
      refine zS (zR (zO rfl Rd.asg ?_)); refine zN (zT (XA.ret (DA.inb_ret (DA.thn_ret (DA.thn_ret (DA.inb_ret (DA.thn_ret ?_)))))))
      exact bodyA.ret (ResA.one rfl rfl) (Ent.nil _) ⟨rfl, rfl, rfl⟩
    have hnew : ∀ i, i < k + 1 → byteAt s i ≠ c := fun i hi => by
      rcases Nat.lt_or_ge i k with h | h
      · exact hall i h
      · have : i = k := by omega
        subst this; omega
    refine XA.skip (DA.inb_normal (zT (zR (zA rfl ?_)))); refine zO rfl zI ?_; refine zO rfl Rd.asg ?_; refine zN (zT ?_)
    refine ⟨(Keep.upd (Keep.upd (Keep.upd (Keep.upd (Keep.upd (Keep.upd (Keep.upd (Keep.upd (Keep.upd (Keep.upd (Keep.upd (Keep.upd (Keep.upd (Keep.hav (Keep.hav (Keep.hav (Keep.refl _ _) rfl) rfl) rfl) rfl) rfl) rfl) rfl) rfl) rfl) rfl) rfl) rfl) rfl) rfl) rfl) rfl), k + 1, _, zM, ?_, ⟨rfl, hlt, hnew, rfl⟩, (by omega)⟩
    · exact zE
  have hb : hasByte s c = false := decide_eq_false (fun ⟨i, h1, h2⟩ => hall i (by omega) h2)
  rw [hb]
  refine XA.exit (DA.thn_exit (DA.thn_exit (DA.inb_same (zT (zS (zR (zO rfl Rd.asg ?_))))))); refine zN (zT (XA.ret ?_))
  exact bodyA.ret (ResA.one rfl rfl) (Ent.nil _) ⟨rfl, rfl, rfl⟩
theorem need_op (op : Int) : hasByte (needs op) 101 = needE op ∧ hasByte (needs op) 102 = needF op ∧ hasByte (needs op) 118 = needV op ∧ hasByte (needs op) 98 = needB op ∧ hasByte (needs op) 111 = needO op := by
  by_cases h1 : op = 1
  · subst h1; decide +kernel
  by_cases h2 : op = 2
  · subst h2; decide +kernel
  by_cases h3 : op = 3
  · subst h3; decide +kernel
  by_cases h4 : op = 4
  · subst h4; decide +kernel
  by_cases h5 : op = 5
  · subst h5; decide +kernel
  by_cases h6 : op = 6
  · subst h6; decide +kernel
  have hn : needs op = ⟨#[]⟩ := by rw [needs, if_neg h1, if_neg h2, if_neg h3, if_neg h4, if_neg h5, if_neg h6]
  rw [hn]
  have : ∀ c, hasByte ⟨#[]⟩ c = false := fun c => decide_eq_false (fun ⟨i, h, _⟩ => absurd h (Nat.not_lt_zero i))
  simp [this, needE, needF, needV, needB, needO, h1, h2, h3, h4, h5, h6]
theorem rname_a (σ : PH) (s : ByteArray) (hs : s.size ≤ maxLen) : CallsA Tryz.prog 38 #[.string s] σ [] (RetA fun v σ' Γ' => v = .bool (nameOk s) ∧ σ = σ' ∧ Γ' = []) := by
  simp only [maxLen] at hs
  refine enterA1 Tryz.func38 rfl rfl rfl ?_
  refine zS (zR (zO rfl Rd.asg ?_)); refine zN (zT (zS (zS (zR (zO rfl Rd.asg ?_))))); refine zN (zT (XA.block ?_))
  refine XA.gen [(0, _), (2, _), (3, _)] ⟨(by with_reducible (conv => lhs; whnf)), (by with_reducible (conv => lhs; whnf)), (by with_reducible (conv => lhs; whnf)), trivial⟩ (fun δ => ?_)
  dsimp only [List.foldl]
  refine XA.loop [(2, 19)] (fun k : Nat => [(3, i64 k)]) (fun k σ' Γ' => σ = σ' ∧ k ≤ s.size ∧ (∀ i, i < k → 97 ≤ byteAt s i ∧ byteAt s i ≤ 122) ∧ Γ' = []) (fun k => s.size - k) 0 (by exact ⟨rfl, trivial⟩) (Δ0 := _) ?_ (⟨rfl, Nat.zero_le _, by intro i hi; omega, rfl⟩) ?_
  · exact zE
  rintro k δ _ _ ⟨rfl, hk, hall, rfl⟩
  dsimp only [ovr, List.foldl]
  refine zS (zS (zR (zA rfl ?_))); refine zA rfl ?_; refine zO rfl (Rd.lenString (tyrow rfl) rfl rfl) ?_; refine zO rfl (Rd.lss rfl rfl) ?_; refine zN (zT ?_)
  refine XA.condp rfl (fun hlt => ?_) (fun hlt => ?_)
  · have hlt : k < s.size := by omega
    have hb := byteAt_lt s k
    by_cases h1 : byteAt s k < 97
    · 
      refine XA.skip (zT (zS (XA.block (zS (zR (zA rfl ?_)))))); refine zA rfl ?_
      refine zO rfl (Rd.indexStr (tyrow rfl) rfl rfl rfl (by first | omega | decide | (simp; omega))) ?_
      refine zO rfl (Rd.lss rfl rfl) ?_; refine zA rfl ?_
      first | (refine zG ?_; refine zA rfl ?_) | refine zH ?_
      first | (refine zG ?_; refine zA rfl ?_) | refine zH ?_
      first | (refine zG ?_; refine zO rfl (Rd.indexStr (tyrow rfl) rfl rfl rfl (by first | omega | decide | (simp; omega))) ?_) | refine zH ?_
      first | (refine zG ?_; refine zO rfl (Rd.gtr rfl rfl) ?_) | refine zH ?_
      refine zO rfl zP ?_; refine zN (zT (XA.condT rfl rfl (zS (zR (zO rfl Rd.asg ?_))))); refine zN (zT (XA.ret (DA.inb_ret (DA.thn_ret (DA.thn_ret (DA.inb_ret (DA.thn_ret ?_)))))))
      refine bodyA.ret (ResA.one rfl rfl) (Ent.refl _) ⟨?_, rfl, rfl⟩
      have : nameOk s = false := decide_eq_false (fun h => by have := h.1 k hlt; omega)
      rw [this]
    · 
      refine XA.skip (zT (zS (XA.block (zS (zR (zA rfl ?_)))))); refine zA rfl ?_
      refine zO rfl (Rd.indexStr (tyrow rfl) rfl rfl rfl (by first | omega | decide | (simp; omega))) ?_
      refine zO rfl (Rd.lss rfl rfl) ?_; refine zA rfl ?_
      first | (refine zG ?_; refine zA rfl ?_) | refine zH ?_
      first | (refine zG ?_; refine zA rfl ?_) | refine zH ?_
      first | (refine zG ?_; refine zO rfl (Rd.indexStr (tyrow rfl) rfl rfl rfl (by first | omega | decide | (simp; omega))) ?_) | refine zH ?_
      first | (refine zG ?_; refine zO rfl (Rd.gtr rfl rfl) ?_) | refine zH ?_
      refine zO rfl zP ?_; refine zN (zT ?_)
      refine XA.condp rfl (fun h2 => ?_) (fun h2 => ?_)
      · refine zS ?_
        refine zR (zO rfl Rd.asg ?_); refine zN (zT (XA.ret (DA.inb_ret (DA.thn_ret (DA.thn_ret (DA.inb_ret (DA.thn_ret ?_)))))))
        refine bodyA.ret (ResA.one rfl rfl) (Ent.refl _) ⟨?_, rfl, rfl⟩
        have : nameOk s = false := decide_eq_false (fun h => by have := h.1 k hlt; omega)
        rw [this]
      have hnew : ∀ i, i < k + 1 → 97 ≤ byteAt s i ∧ byteAt s i ≤ 122 := fun i hi => by
        rcases Nat.lt_or_ge i k with h | h
        · exact hall i h
        · have : i = k := by omega
          subst this; omega
      refine XA.skip (DA.inb_normal (zT (zR (zA rfl ?_)))); refine zO rfl zI ?_; refine zO rfl Rd.asg ?_; refine zN (zT ?_)
      refine ⟨(Keep.upd (Keep.upd (Keep.upd (Keep.upd (Keep.upd (Keep.upd (Keep.upd (Keep.upd (Keep.upd (Keep.upd (Keep.upd (Keep.upd (Keep.upd (Keep.upd (Keep.upd (Keep.upd (Keep.upd (Keep.upd (Keep.hav (Keep.refl _ _) rfl) rfl) rfl) rfl) rfl) rfl) rfl) rfl) rfl) rfl) rfl) rfl) rfl) rfl) rfl) rfl) rfl) rfl) rfl), k + 1, _, zM, ?_, ⟨rfl, hlt, hnew, rfl⟩, (by omega)⟩
      · exact zE
  have hkn : k = s.size := by omega
  subst hkn
  by_cases h0 : 1 ≤ s.size
  · have : nameOk s = decide ((s.size : Int) ≤ 8) := by
      unfold nameOk
      rw [decide_eq_decide]
      constructor
      · intro h; omega
      · intro h; exact ⟨hall, by omega, by omega⟩
    rw [this]
    refine XA.exit (DA.thn_exit (DA.thn_exit (DA.inb_same (zT (zS (zR (zA rfl ?_))))))); refine zO rfl (Rd.lenString (tyrow rfl) rfl rfl) ?_; refine zO rfl (Rd.geq rfl rfl) ?_; refine zA rfl ?_
    first | (refine zG ?_; refine zA rfl ?_) | refine zH ?_
    first | (refine zG ?_; refine zO rfl (Rd.lenString (tyrow rfl) rfl rfl) ?_) | refine zH ?_
    first | (refine zG ?_; refine zO rfl (Rd.leq rfl rfl) ?_) | refine zH ?_
    refine zO rfl zP ?_; refine zO rfl Rd.asg ?_; refine zN (zT (XA.ret ?_))
    exact bodyA.ret (ResA.one rfl rfl) (Ent.refl _) ⟨rfl, rfl, rfl⟩
  · have : nameOk s = false := decide_eq_false (fun h => by omega)
    rw [this]
    refine XA.exit (DA.thn_exit (DA.thn_exit (DA.inb_same (zT (zS (zR (zA rfl ?_))))))); refine zO rfl (Rd.lenString (tyrow rfl) rfl rfl) ?_; refine zO rfl (Rd.geq rfl rfl) ?_; refine zA rfl ?_
    first | (refine zG ?_; refine zA rfl ?_) | refine zH ?_
    first | (refine zG ?_; refine zO rfl (Rd.lenString (tyrow rfl) rfl rfl) ?_) | refine zH ?_
    first | (refine zG ?_; refine zO rfl (Rd.leq rfl rfl) ?_) | refine zH ?_
    refine zO rfl zP ?_; refine zO rfl Rd.asg ?_; refine zN (zT (XA.ret ?_))
    exact bodyA.ret (ResA.one rfl rfl) (Ent.refl _) ⟨rfl, rfl, rfl⟩
theorem rzero_a (σ : PH) (cs : List Value) (x : Ex) (hx : ExAt σ cs x) : CallsA Tryz.prog 69 #[.agg cs.toArray] σ [] (RetA fun v σ' Γ' => v = .bool (noneX x) ∧ σ = σ' ∧ Γ' = []) := by
  obtain ⟨p, c, rfl, -, -, -, -⟩ := hx.inv
  by_cases h1 : x.op = 0
  · by_cases h2 : x.v = 0
    · by_cases h3 : x.n = 0
      · 
        refine enterA1 Tryz.func69 rfl rfl rfl ?_
        refine zS (zR ?_)
        refine XOA.wr0 rfl WrA.bx ?_
        rintro _ _ _ ⟨g1, rfl, rfl, rfl⟩
        refine zO rfl Rd.asg ?_; refine zN (zT (zS (zR (zV rfl rfl ?_)))); refine zB rfl rfl (tyrow rfl) rfl ?_; refine zO rfl (Rd.eql rfl rfl) ?_; refine zA rfl ?_
        first | (refine zG ?_; refine zV rfl rfl ?_) | refine zH ?_
        first | (refine zG ?_; refine zB rfl rfl (tyrow rfl) rfl ?_) | refine zH ?_
        first | (refine zG ?_; refine zO rfl (Rd.eql rfl rfl) ?_) | refine zH ?_
        refine zO rfl zP ?_; refine zA rfl ?_
        first | (refine zG ?_; refine zV rfl rfl ?_) | refine zH ?_
        first | (refine zG ?_; refine zB rfl rfl (tyrow rfl) rfl ?_) | refine zH ?_
        first | (refine zG ?_; refine zO rfl (Rd.eql rfl rfl) ?_) | refine zH ?_
        refine zO rfl zP ?_; refine zA rfl ?_
        first | (refine zG ?_; refine zV rfl rfl ?_) | refine zH ?_
        first | (refine zG ?_; refine zB rfl rfl (tyrow rfl) rfl ?_) | refine zH ?_
        first | (refine zG ?_; refine zO rfl (Rd.lenSlice (tyrow rfl) rfl rfl) ?_) | refine zH ?_
        first | (refine zG ?_; refine zO rfl (Rd.eql rfl rfl) ?_) | refine zH ?_
        refine zO rfl zP ?_; refine zO rfl Rd.asg ?_; refine zN (zT (XA.ret ?_))
        refine bodyA.ret (ResA.one rfl rfl) (Ent.nil _) ⟨?_, rfl, rfl⟩
        simp [noneX, h1, h2, h3]
      · 
        refine enterA1 Tryz.func69 rfl rfl rfl ?_
        refine zS (zR ?_)
        refine XOA.wr0 rfl WrA.bx ?_
        rintro _ _ _ ⟨g1, rfl, rfl, rfl⟩
        refine zO rfl Rd.asg ?_; refine zN (zT (zS (zR (zV rfl rfl ?_)))); refine zB rfl rfl (tyrow rfl) rfl ?_; refine zO rfl (Rd.eql rfl rfl) ?_; refine zA rfl ?_
        first | (refine zG ?_; refine zV rfl rfl ?_) | refine zH ?_
        first | (refine zG ?_; refine zB rfl rfl (tyrow rfl) rfl ?_) | refine zH ?_
        first | (refine zG ?_; refine zO rfl (Rd.eql rfl rfl) ?_) | refine zH ?_
        refine zO rfl zP ?_; refine zA rfl ?_
        first | (refine zG ?_; refine zV rfl rfl ?_) | refine zH ?_
        first | (refine zG ?_; refine zB rfl rfl (tyrow rfl) rfl ?_) | refine zH ?_
        first | (refine zG ?_; refine zO rfl (Rd.eql rfl rfl) ?_) | refine zH ?_
        refine zO rfl zP ?_; refine zA rfl ?_
        first | (refine zG ?_; refine zV rfl rfl ?_) | refine zH ?_
        first | (refine zG ?_; refine zB rfl rfl (tyrow rfl) rfl ?_) | refine zH ?_
        first | (refine zG ?_; refine zO rfl (Rd.lenSlice (tyrow rfl) rfl rfl) ?_) | refine zH ?_
        first | (refine zG ?_; refine zO rfl (Rd.eql rfl rfl) ?_) | refine zH ?_
        refine zO rfl zP ?_; refine zO rfl Rd.asg ?_; refine zN (zT (XA.ret ?_))
        exact bodyA.ret (ResA.one rfl rfl) (Ent.nil _) ⟨by simp [noneX, h3], rfl, rfl⟩
    · 
      refine enterA1 Tryz.func69 rfl rfl rfl ?_
      refine zS (zR ?_)
      refine XOA.wr0 rfl WrA.bx ?_
      rintro _ _ _ ⟨g1, rfl, rfl, rfl⟩
      refine zO rfl Rd.asg ?_; refine zN (zT (zS (zR (zV rfl rfl ?_)))); refine zB rfl rfl (tyrow rfl) rfl ?_; refine zO rfl (Rd.eql rfl rfl) ?_; refine zA rfl ?_
      first | (refine zG ?_; refine zV rfl rfl ?_) | refine zH ?_
      first | (refine zG ?_; refine zB rfl rfl (tyrow rfl) rfl ?_) | refine zH ?_
      first | (refine zG ?_; refine zO rfl (Rd.eql rfl rfl) ?_) | refine zH ?_
      refine zO rfl zP ?_; refine zA rfl ?_
      first | (refine zG ?_; refine zV rfl rfl ?_) | refine zH ?_
      first | (refine zG ?_; refine zB rfl rfl (tyrow rfl) rfl ?_) | refine zH ?_
      first | (refine zG ?_; refine zO rfl (Rd.eql rfl rfl) ?_) | refine zH ?_
      refine zO rfl zP ?_; refine zA rfl ?_
      first | (refine zG ?_; refine zV rfl rfl ?_) | refine zH ?_
      first | (refine zG ?_; refine zB rfl rfl (tyrow rfl) rfl ?_) | refine zH ?_
      first | (refine zG ?_; refine zO rfl (Rd.lenSlice (tyrow rfl) rfl rfl) ?_) | refine zH ?_
      first | (refine zG ?_; refine zO rfl (Rd.eql rfl rfl) ?_) | refine zH ?_
      refine zO rfl zP ?_; refine zO rfl Rd.asg ?_; refine zN (zT (XA.ret ?_))
      exact bodyA.ret (ResA.one rfl rfl) (Ent.nil _) ⟨by simp [noneX, h2], rfl, rfl⟩
  · 
    refine enterA1 Tryz.func69 rfl rfl rfl ?_
    refine zS (zR ?_)
    refine XOA.wr0 rfl WrA.bx ?_
    rintro _ _ _ ⟨g1, rfl, rfl, rfl⟩
    refine zO rfl Rd.asg ?_; refine zN (zT (zS (zR (zV rfl rfl ?_)))); refine zB rfl rfl (tyrow rfl) rfl ?_; refine zO rfl (Rd.eql rfl rfl) ?_; refine zA rfl ?_
    first | (refine zG ?_; refine zV rfl rfl ?_) | refine zH ?_
    first | (refine zG ?_; refine zB rfl rfl (tyrow rfl) rfl ?_) | refine zH ?_
    first | (refine zG ?_; refine zO rfl (Rd.eql rfl rfl) ?_) | refine zH ?_
    refine zO rfl zP ?_; refine zA rfl ?_
    first | (refine zG ?_; refine zV rfl rfl ?_) | refine zH ?_
    first | (refine zG ?_; refine zB rfl rfl (tyrow rfl) rfl ?_) | refine zH ?_
    first | (refine zG ?_; refine zO rfl (Rd.eql rfl rfl) ?_) | refine zH ?_
    refine zO rfl zP ?_; refine zA rfl ?_
    first | (refine zG ?_; refine zV rfl rfl ?_) | refine zH ?_
    first | (refine zG ?_; refine zB rfl rfl (tyrow rfl) rfl ?_) | refine zH ?_
    first | (refine zG ?_; refine zO rfl (Rd.lenSlice (tyrow rfl) rfl rfl) ?_) | refine zH ?_
    first | (refine zG ?_; refine zO rfl (Rd.eql rfl rfl) ?_) | refine zH ?_
    refine zO rfl zP ?_; refine zO rfl Rd.asg ?_; refine zN (zT (XA.ret ?_))
    exact bodyA.ret (ResA.one rfl rfl) (Ent.nil _) ⟨by simp [noneX, h1], rfl, rfl⟩
end Go.Proofs.YthefnnkmpcgcmaaGreatDoor

namespace Go.Proofs.YthefnnkmpcgcmaaGreatDoor
open Go X
set_option maxHeartbeats 1000000
/-- looking: how many were met, or a code. -/
def Look (b : Nat) (vs bs : Value) (e : JE) : HP := fun m => ∃ n c, blk b [vs, bs, i64 n, i64 c] 90 m ∧ match e with | .ok l => n = 150 - l ∧ c = 0 | .error d => c = d ∧ c ≠ 0
theorem Look.okO {b : Nat} {vs bs : Value} {l : Int} : ∀ m, Look b vs bs (.ok l) m → ∃ _ : Unit, True ∧ Sat [blk b [vs, bs, i64 (150 - l), i64 0] 90] m := by
  rintro m ⟨l', c, h, rfl, rfl⟩; exact ⟨(), trivial, sat1 h⟩
theorem Look.errO {b : Nat} {vs bs : Value} {c : Int} : ∀ m, Look b vs bs (.error c) m → ∃ n : Int, c ≠ 0 ∧ Sat [blk b [vs, bs, i64 n, i64 c] 90] m := by
  rintro m ⟨l', c', h, rfl, h0⟩; exact ⟨l', h0, sat1 h⟩
theorem Look.mkO {b : Nat} {vs bs : Value} {l n : Int} (hn : n = 150 - l) : ∀ m, Sat [blk b [vs, bs, i64 n, i64 0] 90] m → Look b vs bs (.ok l) m := fun m h => ⟨n, 0, of_sat1 blk_mono h, hn, rfl⟩
theorem Look.mkE {b : Nat} {vs bs : Value} {n c : Int} (h0 : c ≠ 0) : ∀ m, Sat [blk b [vs, bs, i64 n, i64 c] 90] m → Look b vs bs (.error c) m := fun m h => ⟨n, c, of_sat1 blk_mono h, rfl, h0⟩
theorem Look.anyD {b : Nat} {vs bs : Value} {e : JE} : ∀ m, Look b vs bs e m → ∃ x : Int × Int, (decide (x.2 = 0) = e.isOk ∧ ∀ m', Sat [blk b [vs, bs, i64 x.1, i64 x.2] 90] m' → Look b vs bs e m') ∧ Sat [blk b [vs, bs, i64 x.1, i64 x.2] 90] m := by
  rintro m ⟨l', c, h, h0⟩
  refine ⟨(l', c), ⟨?_, fun m' h' => ⟨l', c, of_sat1 blk_mono h', h0⟩⟩, sat1 h⟩
  cases e with
  | ok l => obtain ⟨-, rfl⟩ := h0; rfl
  | error d => obtain ⟨-, h0⟩ := h0; exact decide_eq_false h0
/-- A judge of whom the count is not looked at. -/
theorem bad_c (σ : PH) (b : Nat) (vs bs : Value) (n c0 : Int) (is : Bool) (c : Int) :
    CallsA Tryz.prog 68 #[ptr b, .bool is, i64 c] σ [blk b [vs, bs, i64 n, i64 c0] 90] (RetA fun v σ' Γ' => v = .tuple #[] ∧ σ = σ' ∧ Γ' = [blk b [vs, bs, i64 n, i64 (if is ∧ c0 = 0 then c else c0)] 90]) := by
  cases is with
  | false =>
    refine enterA3 Tryz.func68 rfl rfl rfl ?_
    refine zS (zR (zA rfl ?_)); refine zA rfl ?_
    first | (refine zG ?_; refine zA rfl ?_) | refine zH ?_
    first | (refine zG ?_; refine zO rfl (Rd.nilCheck rfl) ?_) | refine zH ?_
    first | (refine zG ?_; refine zV rfl rfl ?_) | refine zH ?_
    first | (refine zG ?_; refine zB rfl rfl (tyrow rfl) rfl ?_) | refine zH ?_
    first | (refine zG ?_; refine zO rfl (Rd.eql rfl rfl) ?_) | refine zH ?_
    refine zO rfl zP ?_; refine zN (zT (XA.condF rfl rfl (XA.skip ?_)))
    exact bodyA.normal (ResA.none rfl) (Ent.refl _) ⟨rfl, rfl, by simp⟩
  | true =>
    by_cases h0 : c0 = 0
    · subst h0
      refine enterA3 Tryz.func68 rfl rfl rfl ?_
      refine zS (zR (zA rfl ?_)); refine zA rfl ?_
      first | (refine zG ?_; refine zA rfl ?_) | refine zH ?_
      first | (refine zG ?_; refine zO rfl (Rd.nilCheck rfl) ?_) | refine zH ?_
      first | (refine zG ?_; refine zV rfl rfl ?_) | refine zH ?_
      first | (refine zG ?_; refine zB rfl rfl (tyrow rfl) rfl ?_) | refine zH ?_
      first | (refine zG ?_; refine zO rfl (Rd.eql rfl rfl) ?_) | refine zH ?_
      refine zO rfl zP ?_; refine zN (zT (XA.condT rfl rfl (zR (zA rfl ?_)))); refine zA rfl ?_; refine zO rfl (Rd.nilCheck rfl) ?_; refine zV rfl rfl ?_
      refine XOA.wr0 rfl (WrA.st (tyrow rfl) rfl) ?_
      rintro _ _ _ ⟨rfl, rfl, rfl⟩
      refine zN ?_
      exact bodyA.normal (ResA.none rfl) (Ent.refl _) ⟨rfl, rfl, by simp⟩
    · 
      refine enterA3 Tryz.func68 rfl rfl rfl ?_
      refine zS (zR (zA rfl ?_)); refine zA rfl ?_
      first | (refine zG ?_; refine zA rfl ?_) | refine zH ?_
      first | (refine zG ?_; refine zO rfl (Rd.nilCheck rfl) ?_) | refine zH ?_
      first | (refine zG ?_; refine zV rfl rfl ?_) | refine zH ?_
      first | (refine zG ?_; refine zB rfl rfl (tyrow rfl) rfl ?_) | refine zH ?_
      first | (refine zG ?_; refine zO rfl (Rd.eql rfl rfl) ?_) | refine zH ?_
      refine zO rfl zP ?_; refine zN (zT (XA.condF rfl (decide_eq_false h0) (XA.skip ?_)))
      exact bodyA.normal (ResA.none rfl) (Ent.refl _) ⟨rfl, rfl, by simp [h0]⟩
theorem Ent.one {R S : HP} (h : ∀ m, R m → S m) : Ent [R] [S] := fun m ⟨m1, m2, a, b, c, d, e⟩ => ⟨m1, m2, h _ a, b, c, d, e⟩
theorem bad_a (σ : PH) (b : Nat) (vs bs : Value) (e : JE) (is : Bool) (c : Int) (hc : c ≠ 0) :
    CallsA Tryz.prog 68 #[ptr b, .bool is, i64 c] σ [Look b vs bs e] (RetA fun v σ' Γ' => v = .tuple #[] ∧ σ = σ' ∧ Γ' = [Look b vs bs (e.fail is c)]) := by
  cases e with
  | ok l =>
    refine CallsA.opn .head Look.okO (enters Tryz.func68 rfl rfl) ?_
    rintro ⟨⟩ -
    refine (bad_c σ b vs bs (150 - l) 0 is c).conv ?_
    cases is with
    | true => exact Ent.one (fun m h => ⟨150 - l, c, h, rfl, hc⟩)
    | false => exact Ent.one (fun m h => ⟨150 - l, 0, h, rfl, rfl⟩)
  | error d =>
    refine CallsA.opn .head Look.errO (enters Tryz.func68 rfl rfl) ?_
    rintro n h0
    refine (bad_c σ b vs bs n d is c).conv ?_
    rw [if_neg (fun h => h0 h.2)]
    exact Ent.one (fun m h => ⟨n, d, h, rfl, h0⟩)
theorem head_a (σ : PH) (b : Nat) (vs bs : Value) (e : JE) (deep : Int) (hl : e.in_) :
    CallsA Tryz.prog 67 #[ptr b, i64 deep] σ [Look b vs bs e] (RetA fun v σ' Γ' => v = .tuple #[] ∧ σ = σ' ∧ Γ' = [Look b vs bs (e.one deep)]) := by
  cases e with
  | error d =>
    refine enterA2 Tryz.func67 rfl rfl rfl ?_
    refine zS (zR (zA rfl ?_))
    first | refine XA.opn (R := Look b vs bs (.error d)) zL (Look.errO) ?_ | refine XOA.opn (R := Look b vs bs (.error d)) zL (Look.errO) ?_ | refine DA.opn (R := Look b vs bs (.error d)) zL (Look.errO) ?_
    rintro n h0
    first | refine XA.cl ?_ | refine XOA.cl ?_ | refine DA.cl ?_
    refine zO rfl (Rd.nilCheck rfl) ?_; refine zV rfl rfl ?_; refine zB rfl rfl (tyrow rfl) rfl ?_; refine zO rfl zI ?_; refine zO rfl (Rd.nilCheck rfl) ?_; refine zV rfl rfl ?_
    refine XOA.wr0 rfl (WrA.st (tyrow rfl) rfl) ?_
    rintro _ _ _ ⟨rfl, rfl, rfl⟩
    refine zN (zT (zS (zR (zA rfl ?_)))); refine zA rfl ?_; refine zO rfl (Rd.gtr rfl rfl) ?_
    refine XOA.wr0 rfl (WrA.cE (bad_c σ b vs bs _ d (decide (12 < deep)) 4) rfl) ?_
    rintro _ _ _ ⟨_, ⟨rfl, rfl, rfl⟩, rfl⟩
    refine XOA.cl ?_; refine zN (zT (zR (zA rfl ?_))); refine zA rfl ?_; refine zO rfl (Rd.nilCheck rfl) ?_; refine zV rfl rfl ?_; refine zB rfl rfl (tyrow rfl) rfl ?_; refine zO rfl (Rd.gtr rfl rfl) ?_
    refine XOA.wr0 rfl (WrA.cE (bad_c σ b vs bs _ _ _ 3) rfl) ?_
    rintro _ _ _ ⟨_, ⟨rfl, rfl, rfl⟩, rfl⟩
    refine XOA.cl ?_
    rw [show (if decide (12 < deep) = true ∧ d = 0 then (4 : Int) else d) = d from if_neg (fun h => h0 h.2), if_neg (fun h => h0 h.2)]
    refine zN ?_
    exact bodyA.normal (ResA.none rfl) (Ent.fold1 zE (Look.mkE h0)) ⟨rfl, rfl, rfl⟩
  | ok l =>
    obtain ⟨l0, l1⟩ := hl l rfl
    refine enterA2 Tryz.func67 rfl rfl rfl ?_
    refine zS (zR (zA rfl ?_))
    first | refine XA.opn (R := Look b vs bs (.ok l)) zL (Look.okO) ?_ | refine XOA.opn (R := Look b vs bs (.ok l)) zL (Look.okO) ?_ | refine DA.opn (R := Look b vs bs (.ok l)) zL (Look.okO) ?_
    rintro ⟨⟩ -
    first | refine XA.cl ?_ | refine XOA.cl ?_ | refine DA.cl ?_
    refine zO rfl (Rd.nilCheck rfl) ?_; refine zV rfl rfl ?_; refine zB rfl rfl (tyrow rfl) rfl ?_; refine zO rfl zI ?_; refine zO rfl (Rd.nilCheck rfl) ?_; refine zV rfl rfl ?_
    refine XOA.wr0 rfl (WrA.st (tyrow rfl) rfl) ?_
    rintro _ _ _ ⟨rfl, rfl, rfl⟩
    refine zN (zT (zS (zR (zA rfl ?_)))); refine zA rfl ?_; refine zO rfl (Rd.gtr rfl rfl) ?_
    refine XOA.wr0 rfl (WrA.cE (bad_c σ b vs bs _ 0 (decide (12 < deep)) 4) rfl) ?_
    rintro _ _ _ ⟨_, ⟨rfl, rfl, rfl⟩, rfl⟩
    refine XOA.cl ?_; refine zN (zT (zR (zA rfl ?_))); refine zA rfl ?_; refine zO rfl (Rd.nilCheck rfl) ?_; refine zV rfl rfl ?_; refine zB rfl rfl (tyrow rfl) rfl ?_; refine zO rfl (Rd.gtr rfl rfl) ?_
    refine XOA.wr0 rfl (WrA.cE (bad_c σ b vs bs _ _ (decide (150 < 150 - l + 1)) 3) rfl) ?_
    rintro _ _ _ ⟨_, ⟨rfl, rfl, rfl⟩, rfl⟩
    refine XOA.cl ?_
    by_cases hd : 12 < deep
    · skip
      rw [show (if decide (12 < deep) = true ∧ (0 : Int) = 0 then (4 : Int) else 0) = 4 by simp [hd], if_neg (fun h => absurd h.2 (by decide))]
      refine zN ?_
      refine bodyA.normal (ResA.none rfl) (Ent.fold1 (Θ := [blk b [vs, bs, i64 (150 - l + 1), i64 4] 90]) zE (Look.mkE (by decide))) ⟨rfl, rfl, ?_⟩
      simp [JE.one, hd]
    · rw [show (if decide (12 < deep) = true ∧ (0 : Int) = 0 then (4 : Int) else 0) = 0 by simp [hd]]
      by_cases h0 : l = 0
      · rw [show (if decide (150 < 150 - l + 1) = true ∧ (0 : Int) = 0 then (3 : Int) else 0) = 3 by simp [h0]]
        refine zN ?_
        refine bodyA.normal (ResA.none rfl) (Ent.fold1 (Θ := [blk b [vs, bs, i64 (150 - l + 1), i64 3] 90]) zE (Look.mkE (by decide))) ⟨rfl, rfl, ?_⟩
        simp [JE.one, hd, h0]
      · rw [show (if decide (150 < 150 - l + 1) = true ∧ (0 : Int) = 0 then (3 : Int) else 0) = 0 by rw [if_neg]; simp; omega]
        refine zN ?_
        refine bodyA.normal (ResA.none rfl) (Ent.fold1 (Θ := [blk b [vs, bs, i64 (150 - l + 1), i64 0] 90]) zE (Look.mkO (l := l - 1) (by omega))) ⟨rfl, rfl, ?_⟩
        simp [JE.one, hd, h0]
theorem variable_a (σ : PH) (b : Nat) (p : Option Addr) (n c : Nat) (bs : Value) (e : JE) (v : Int) (is : Bool) :
    CallsA Tryz.prog 70 #[ptr b, i64 v, .bool is] σ [Look b (.slice p n c) bs e] (RetA fun r σ' Γ' => r = .tuple #[] ∧ σ = σ' ∧ Γ' = [Look b (.slice p n c) bs (e.named n v is)]) := by
  cases is with
  | false =>
    refine enterA3 Tryz.func70 rfl rfl rfl ?_
    refine zS (zR (zA rfl ?_)); refine zN (zT (XA.condF rfl rfl (zR (zA rfl ?_)))); refine zA rfl ?_; refine zO rfl (Rd.neq rfl rfl) ?_
    refine XOA.wr0 rfl (WrA.cE (bad_a σ b _ bs e (decide (v ≠ 0)) 5 (by decide)) rfl) ?_
    rintro _ _ _ ⟨_, ⟨rfl, rfl, rfl⟩, rfl⟩
    refine XOA.cl ?_; refine zN ?_
    exact bodyA.normal (ResA.none rfl) (Ent.refl _) ⟨rfl, rfl, by simp only [JE.named, Bool.false_and, fail_false, Bool.not_false, Bool.true_and]⟩
  | true =>
    by_cases h0 : v < 0
    · 
      refine enterA3 Tryz.func70 rfl rfl rfl ?_
      refine zS (zR (zA rfl ?_)); refine zN (zT (XA.condT rfl rfl (zR (zA rfl ?_)))); refine zA rfl ?_; refine zO rfl (Rd.lss rfl rfl) ?_; refine zA rfl ?_
      first | (refine zG ?_; refine zA rfl ?_) | refine zH ?_
      first | (refine zG ?_; refine zA rfl ?_) | refine zH ?_
      first | (refine zG ?_; refine zO rfl (Rd.nilCheck rfl) ?_) | refine zH ?_
      first | (refine zG ?_; refine zV rfl rfl ?_) | refine zH ?_
      first | (refine zG ?_; refine zV rfl rfl ?_) | refine zH ?_
      first | (refine zG ?_; refine zB rfl rfl (tyrow rfl) rfl ?_) | refine zH ?_
      first | (refine zG ?_; refine zO rfl (Rd.lenSlice (tyrow rfl) rfl rfl) ?_) | refine zH ?_
      first | (refine zG ?_; refine zO rfl (Rd.geq rfl rfl) ?_) | refine zH ?_
      refine zO rfl zP ?_
      refine XOA.wr0 rfl (WrA.cE (bad_a σ b _ bs e true 1 (by decide)) rfl) ?_
      rintro _ _ _ ⟨_, ⟨rfl, rfl, rfl⟩, rfl⟩
      refine XOA.cl ?_; refine zN ?_
      refine bodyA.normal (ResA.none rfl) (Ent.refl _) ⟨rfl, rfl, ?_⟩
      have : decide (v < 0 ∨ (n : Int) ≤ v) = true := decide_eq_true (Or.inl h0)
      simp only [JE.named, this, Bool.true_and, Bool.not_true, Bool.false_and, fail_false]
    · 
      refine enterA3 Tryz.func70 rfl rfl rfl ?_
      refine zS (zR (zA rfl ?_)); refine zN (zT (XA.condT rfl rfl (zR (zA rfl ?_)))); refine zA rfl ?_; refine zO rfl (Rd.lss rfl rfl) ?_; refine zA rfl ?_
      first | (refine zG ?_; refine zA rfl ?_) | refine zH ?_
      first | (refine zG ?_; refine zA rfl ?_) | refine zH ?_
      first | refine XA.opn (R := Look b (.slice p n c) bs e) zL (Look.anyD) ?_ | refine XOA.opn (R := Look b (.slice p n c) bs e) zL (Look.anyD) ?_ | refine DA.opn (R := Look b (.slice p n c) bs e) zL (Look.anyD) ?_
      rintro ⟨l, cc⟩ ⟨-, hf⟩
      first | refine XA.cl ?_ | refine XOA.cl ?_ | refine DA.cl ?_
      first | (refine zG ?_; refine zO rfl (Rd.nilCheck rfl) ?_) | refine zH ?_
      first | (refine zG ?_; refine zV rfl rfl ?_) | refine zH ?_
      first | (refine zG ?_; refine zV rfl rfl ?_) | refine zH ?_
      first | (refine zG ?_; refine zB rfl rfl (tyrow rfl) rfl ?_) | refine zH ?_
      first | (refine zG ?_; refine zO rfl (Rd.lenSlice (tyrow rfl) rfl rfl) ?_) | refine zH ?_
      first | (refine zG ?_; refine zO rfl (Rd.geq rfl rfl) ?_) | refine zH ?_
      refine zO rfl zP ?_
      refine XOA.ent (Δ := [Look b (.slice p n c) bs e]) (Ent.fold1 zE hf) ?_
      refine XOA.wr0 rfl (WrA.cE (bad_a σ b _ bs e (decide ((n : Int) ≤ v)) 1 (by decide)) rfl) ?_
      rintro _ _ _ ⟨_, ⟨rfl, rfl, rfl⟩, rfl⟩
      refine XOA.cl ?_; refine zN ?_
      refine bodyA.normal (ResA.none rfl) (Ent.refl _) ⟨rfl, rfl, ?_⟩
      have : decide (v < 0 ∨ (n : Int) ≤ v) = decide ((n : Int) ≤ v) := by rw [decide_eq_decide]; omega
      simp only [JE.named, this, Bool.true_and, Bool.not_true, Bool.false_and, fail_false]
end Go.Proofs.YthefnnkmpcgcmaaGreatDoor

namespace Go.Proofs.YthefnnkmpcgcmaaGreatDoor
open Go X
set_option maxHeartbeats 1000000
theorem fail_or (e : JE) (a b : Bool) (c : Int) : (e.fail a c).fail b c = e.fail (a || b) c := by
  cases e with
  | error d => rfl
  | ok l => cases a <;> cases b <;> rfl
def RExprOK (σ : PH) (x : Ex) : Prop := ∀ (cs : List Value) (b : Nat) (p : Option Addr) (n c : Nat) (bs : Value) (e : JE) (deep : Int), ExAt σ cs x → e.in_ → 0 ≤ deep → deep ≤ 1000 →
  CallsA Tryz.prog 71 #[ptr b, .agg cs.toArray, i64 deep] σ [Look b (.slice p n c) bs e] (RetA fun r σ' Γ' => r = .tuple #[] ∧ σ = σ' ∧ Γ' = [Look b (.slice p n c) bs (exE n deep x e)])
theorem rexpr_a (σ : PH) (x : Ex) : RExprOK σ x := by
  refine Ex.ind (P := RExprOK σ) ?_ x
  intro op v k l ih cs b p n c bs e deep hx hin hd0 hd1
  obtain ⟨pl, cl, rfl, -, -, -, hl⟩ := hx.inv
  simp only [Ex.op, Ex.v, Ex.n, Ex.l] at hl ⊢
  clear hx
  have hlen : l.length ≤ maxLen := by
    obtain ⟨q, d, e1, h1, h2⟩ := hl.shape
    omega
  simp only [maxLen] at hlen
  cases e with
  | error d =>
    rw [exE_err]
    refine enterA3 Tryz.func71 rfl rfl rfl ?_
    refine zS (zR ?_)
    refine XOA.wr0 rfl WrA.bx ?_
    rintro _ _ _ ⟨g4, rfl, rfl, rfl⟩
    refine zN (zT (zS (zS (zR (zA rfl ?_)))))
    first | refine XA.opn (R := Look b (.slice p n c) bs (.error d)) zL (Look.errO) ?_ | refine XOA.opn (R := Look b (.slice p n c) bs (.error d)) zL (Look.errO) ?_ | refine DA.opn (R := Look b (.slice p n c) bs (.error d)) zL (Look.errO) ?_
    rintro q h0
    first | refine XA.cl ?_ | refine XOA.cl ?_ | refine DA.cl ?_
    refine zO rfl (Rd.nilCheck rfl) ?_; refine zV rfl rfl ?_; refine zB rfl rfl (tyrow rfl) rfl ?_; refine zO rfl (Rd.neq rfl rfl) ?_; refine zN (zT (XA.condT rfl (decide_eq_true h0) (XA.ret (DA.thn_ret ?_))))
    exact bodyA.ret (ResA.none rfl) (Ent.fold1 zE (Look.mkE h0)) ⟨rfl, rfl, rfl⟩
  | ok a =>
    refine enterA3 Tryz.func71 rfl rfl rfl ?_
    refine zS (zR ?_)
    refine XOA.wr0 rfl WrA.bx ?_
    rintro _ _ _ ⟨g4, rfl, rfl, rfl⟩
    refine zN (zT (zS (zS (zR (zA rfl ?_)))))
    first | refine XA.opn (R := Look b (.slice p n c) bs (.ok a)) zL (Look.okO) ?_ | refine XOA.opn (R := Look b (.slice p n c) bs (.ok a)) zL (Look.okO) ?_ | refine DA.opn (R := Look b (.slice p n c) bs (.ok a)) zL (Look.okO) ?_
    rintro ⟨⟩ -
    first | refine XA.cl ?_ | refine XOA.cl ?_ | refine DA.cl ?_
    refine zO rfl (Rd.nilCheck rfl) ?_; refine zV rfl rfl ?_; refine zB rfl rfl (tyrow rfl) rfl ?_; refine zO rfl (Rd.neq rfl rfl) ?_; refine zN (zT (XA.condF rfl rfl (XA.skip (zT (zS (zR (zA rfl ?_))))))); refine zA rfl ?_
    refine XOA.ent (Ent.foldC (Θ := [_]) zD (Look.mkO (l := a) rfl) (Ent.refl _)) ?_
    refine XOA.wr0 rfl (WrA.cE (head_a σ b (.slice p n c) bs (.ok a) deep hin) rfl) ?_
    rintro _ _ _ ⟨_, ⟨rfl, rfl, rfl⟩, rfl⟩
    refine XOA.cl ?_; refine zN (zT (zS (zR (zV rfl rfl ?_)))); refine zB rfl rfl (tyrow rfl) rfl ?_
    refine XOA.wr0 rfl (WrA.cE (rparts_a σ op) rfl) ?_
    rintro _ _ _ ⟨_, ⟨rfl, rfl, rfl⟩, rfl⟩
    refine XOA.cl ?_; refine zO rfl Rd.asg ?_; refine zN (zT (zS (zR (zA rfl ?_)))); refine zA rfl ?_; refine zO rfl (Rd.lss rfl rfl) ?_
    refine XOA.wr0 rfl (WrA.cE (bad_a σ b _ bs _ (decide (partsOf op < 0)) 2 (by decide)) rfl) ?_
    rintro _ _ _ ⟨_, ⟨rfl, rfl, rfl⟩, rfl⟩
    refine XOA.cl ?_; refine zN (zT (zS (zR (zA rfl ?_)))); refine zA rfl ?_; refine zV rfl rfl ?_; refine zB rfl rfl (tyrow rfl) rfl ?_; refine zO rfl (Rd.lenSlice (tyrow rfl) rfl rfl) ?_; refine zO rfl (Rd.neq rfl rfl) ?_
    refine XOA.wr0 rfl (WrA.cE (bad_a σ b _ bs _ (decide (partsOf op ≠ (l.length : Int))) 5 (by decide)) rfl) ?_
    rintro _ _ _ ⟨_, ⟨rfl, rfl, rfl⟩, rfl⟩
    refine XOA.cl ?_; refine zN (zT (zS (zR (zA rfl ?_)))); refine zV rfl rfl ?_; refine zB rfl rfl (tyrow rfl) rfl ?_
    obtain ⟨E2, hE2⟩ : ∃ E2, E2 = JE.fail (JE.fail (JE.one (.ok a) deep) (decide (partsOf op < 0)) 2) (decide (partsOf op ≠ (l.length : Int))) 5 := ⟨_, rfl⟩
    rw [← hE2]
    refine XOA.join (List.take_append_drop 6 _).symm [(30, 30), (33, 38)] (fun _ : Unit => [(30, ptr b), (38, .bool (decide (k ≠ 0 ∧ op ≠ 1)))]) (fun _ σ' Γ' => σ = σ' ∧ Γ' = [Look b (.slice p n c) bs E2, blk g4 [i64 op, i64 v, i64 k, .slice pl l.length cl] 36]) ?_ ?_
    · 
      by_cases h1 : op = 1
      · rw [show decide (k ≠ 0 ∧ op ≠ 1) = false from decide_eq_false (fun h => h.2 h1)]
        refine zO rfl (Rd.neq rfl rfl) ?_; refine zA rfl ?_
        first | (refine zG ?_; refine zV rfl rfl ?_) | refine zH ?_
        first | (refine zG ?_; refine zB rfl rfl (tyrow rfl) rfl ?_) | refine zH ?_
        first | (refine zG ?_; refine zO rfl (Rd.neq rfl rfl) ?_) | refine zH ?_
        refine zO rfl zP ?_; refine zN (zT ?_)
        refine ⟨(Keep.upd (Keep.upd (Keep.upd (Keep.upd (Keep.upd (Keep.upd (Keep.refl _ _) rfl) rfl) rfl) rfl) rfl) rfl), (), _, zM, ?_, ⟨rfl, rfl⟩⟩
        · exact zE
      · rw [show decide (k ≠ 0 ∧ op ≠ 1) = decide (k ≠ 0) from by rw [decide_eq_decide]; exact ⟨fun h => h.1, fun h => ⟨h, h1⟩⟩]
        refine zO rfl (Rd.neq rfl rfl) ?_; refine zA rfl ?_
        first | (refine zG ?_; refine zV rfl rfl ?_) | refine zH ?_
        first | (refine zG ?_; refine zB rfl rfl (tyrow rfl) rfl ?_) | refine zH ?_
        first | (refine zG ?_; refine zO rfl (Rd.neq rfl rfl) ?_) | refine zH ?_
        refine zO rfl zP ?_; refine zN (zT ?_)
        refine ⟨(Keep.upd (Keep.upd (Keep.upd (Keep.upd (Keep.upd (Keep.upd (Keep.refl _ _) rfl) rfl) rfl) rfl) rfl) rfl), (), _, zM, ?_, ⟨rfl, rfl⟩⟩
        · exact zE
    rintro - δ1 _ _ ⟨rfl, rfl⟩
    dsimp only [ovr, List.foldl]
    refine XOA.wr0 rfl (WrA.cE (bad_a σ b _ bs E2 (decide (k ≠ 0 ∧ op ≠ 1)) 5 (by decide)) rfl) ?_
    rintro _ _ _ ⟨_, ⟨rfl, rfl, rfl⟩, rfl⟩
    refine XOA.cl ?_; refine zN (zT (zS (zR (zA rfl ?_)))); refine zV rfl rfl ?_; refine zB rfl rfl (tyrow rfl) rfl ?_; refine zV rfl rfl ?_; refine zB rfl rfl (tyrow rfl) rfl ?_
    obtain ⟨E3, hE3⟩ : ∃ E3, E3 = JE.fail E2 (decide (k ≠ 0 ∧ op ≠ 1)) 5 := ⟨_, rfl⟩
    rw [← hE3]
    refine XOA.join (List.take_append_drop 6 _).symm [(40, 40), (42, 42), (45, 50)] (fun _ : Unit => [(40, ptr b), (42, i64 v), (50, .bool (decide (op = 2 ∨ op = 3)))]) (fun _ σ' Γ' => σ = σ' ∧ Γ' = [Look b (.slice p n c) bs E3, blk g4 [i64 op, i64 v, i64 k, .slice pl l.length cl] 36]) ?_ ?_
    · 
      by_cases h1 : op = 2
      · rw [show decide (op = 2 ∨ op = 3) = true from decide_eq_true (.inl h1)]
        refine zO rfl (Rd.eql rfl rfl) ?_; refine zA rfl ?_
        first | (refine zG ?_; refine zV rfl rfl ?_) | refine zH ?_
        first | (refine zG ?_; refine zB rfl rfl (tyrow rfl) rfl ?_) | refine zH ?_
        first | (refine zG ?_; refine zO rfl (Rd.eql rfl rfl) ?_) | refine zH ?_
        refine zO rfl zP ?_; refine zN (zT ?_)
        refine ⟨(Keep.upd (Keep.upd (Keep.upd (Keep.upd (Keep.upd (Keep.upd (Keep.refl _ _) rfl) rfl) rfl) rfl) rfl) rfl), (), _, zM, ?_, ⟨rfl, rfl⟩⟩
        · exact zE
      · rw [show decide (op = 2 ∨ op = 3) = decide (op = 3) from by rw [decide_eq_decide]; omega]
        refine zO rfl (Rd.eql rfl rfl) ?_; refine zA rfl ?_
        first | (refine zG ?_; refine zV rfl rfl ?_) | refine zH ?_
        first | (refine zG ?_; refine zB rfl rfl (tyrow rfl) rfl ?_) | refine zH ?_
        first | (refine zG ?_; refine zO rfl (Rd.eql rfl rfl) ?_) | refine zH ?_
        refine zO rfl zP ?_; refine zN (zT ?_)
        refine ⟨(Keep.upd (Keep.upd (Keep.upd (Keep.upd (Keep.upd (Keep.upd (Keep.refl _ _) rfl) rfl) rfl) rfl) rfl) rfl), (), _, zM, ?_, ⟨rfl, rfl⟩⟩
        · exact zE
    rintro - δ2 _ _ ⟨rfl, rfl⟩
    dsimp only [ovr, List.foldl]
    refine XOA.wr0 rfl (WrA.cE (variable_a σ b p n c bs E3 v (decide (op = 2 ∨ op = 3))) rfl) ?_
    rintro _ _ _ ⟨_, ⟨rfl, rfl, rfl⟩, rfl⟩
    refine XOA.cl ?_
    have hH : JE.named E3 n v (decide (op = 2 ∨ op = 3)) = exHead n deep op v k l.length (.ok a) := by
      rw [hE3, hE2, fail_or, exHead]
      congr 2
      rw [← Bool.decide_or, decide_eq_decide]
      constructor
      · rintro (h | h)
        · exact .inl (fun e => h e.symm)
        · exact .inr h
      · rintro (h | h)
        · exact .inl (fun e => h e.symm)
        · exact .inr h
    rw [hH]
    clear hH hE3 hE2
    refine zN (zT (zS (zR (zO rfl Rd.asg ?_)))); refine zN (zT (XA.block ?_))
    refine XA.gen [(0, _), (2, _), (4, _), (7, _)] ⟨(by with_reducible (conv => lhs; whnf)), (by with_reducible (conv => lhs; whnf)), (by with_reducible (conv => lhs; whnf)), (by with_reducible (conv => lhs; whnf)), trivial⟩ (fun δ => ?_)
    dsimp only [List.foldl]
    refine XA.loop [(7, 7), (52, 74)] (fun q : Nat => [(7, i64 q)]) (fun q σ' Γ' => σ = σ' ∧ q ≤ l.length ∧ Γ' = [Look b (.slice p n c) bs (exsE n (deep + 1) (l.take q) (exHead n deep op v k l.length (.ok a))), blk g4 [i64 op, i64 v, i64 k, .slice pl l.length cl] 36]) (fun q => l.length - q) 0 (by exact ⟨rfl, trivial⟩) (Δ0 := _) ?_ (⟨rfl, Nat.zero_le _, rfl⟩) ?_
    · rw [List.take_zero, exsE]; exact zE
    rintro q δ _ _ ⟨rfl, hq, rfl⟩
    dsimp only [ovr, List.foldl]
    have hin2 : (exsE n (deep + 1) (l.take q) (exHead n deep op v k l.length (.ok a))).in_ := in_of (Down.exsE n (l.take q)) (in_of (Down.exHead n op v k l.length) hin deep) (deep + 1)
    have hin3 : (exHead n deep op v k l.length (.ok a)).in_ := in_of (Down.exHead n op v k l.length) hin deep
    have hpost : exE n deep (.mk op v k l) (.ok a) = exsE n (deep + 1) l (exHead n deep op v k l.length (.ok a)) := by rw [exE]
    by_cases hlt : q < l.length
    · obtain ⟨x', hx'⟩ : ∃ x', l[q]? = some x' := ⟨_, List.getElem?_eq_getElem hlt⟩
      obtain ⟨g, o, row, rfl, hrx, hrl, hrow⟩ := hl.at hx'
      have hone := hrx.ones
      have e1 := exsE_snoc n (deep + 1) l q x' (exHead n deep op v k l.length (.ok a)) hx'
      refine zS (zS (zR (zA rfl ?_))); refine zV rfl rfl ?_; refine zB rfl rfl (tyrow rfl) rfl ?_; refine zO rfl (Rd.lenSlice (tyrow rfl) rfl rfl) ?_; refine zO rfl (Rd.lss rfl rfl) ?_; refine zA rfl ?_
      first | (refine zG ?_; refine zA rfl ?_) | refine zH ?_
      cases hst : exsE n (deep + 1) (l.take q) (exHead n deep op v k l.length (.ok a)) with
      | error c' =>
        have hfin : exsE n (deep + 1) l (exHead n deep op v k l.length (.ok a)) = .error c' := by
          have := exsE_app n (deep + 1) (l.take q) (l.drop q) (exHead n deep op v k l.length (.ok a))
          rw [List.take_append_drop, hst, exsE_err] at this
          exact this
        first | refine XA.opn (R := Look b (.slice p n c) bs (.error c')) zL (Look.errO) ?_ | refine XOA.opn (R := Look b (.slice p n c) bs (.error c')) zL (Look.errO) ?_ | refine DA.opn (R := Look b (.slice p n c) bs (.error c')) zL (Look.errO) ?_
        rintro lf h0
        first | refine XA.cl ?_ | refine XOA.cl ?_ | refine DA.cl ?_
        first | (refine zG ?_; refine zO rfl (Rd.nilCheck rfl) ?_) | refine zH ?_
        first | (refine zG ?_; refine zV rfl rfl ?_) | refine zH ?_
        first | (refine zG ?_; refine zB rfl rfl (tyrow rfl) rfl ?_) | refine zH ?_
        first | (refine zG ?_; refine zO rfl (Rd.eql rfl rfl) ?_) | refine zH ?_
        refine zO rfl zP ?_; refine zN (zT ?_)
        rw [hpost, hfin]
        refine XA.condF rfl (decide_eq_false h0) (XA.exit (DA.thn_exit (DA.thn_exit (DA.inb_same ?_))))
        exact bodyA.normal (ResA.none rfl) (Ent.fold1 zE (Look.mkE h0)) ⟨rfl, rfl, rfl⟩
      | ok a2 =>
        have hd12 : deep ≤ 12 := by
          apply one_ok (e := .ok a)
          cases hq1 : JE.one (.ok a) deep with
          | ok _ => rfl
          | error c' => exfalso; rw [exHead, hq1, fail_err, fail_err, named_err, exsE_err] at hst; cases hst
        rw [hst] at e1 hin2
        first | refine XA.opn (R := Look b (.slice p n c) bs (.ok a2)) zL (Look.okO) ?_ | refine XOA.opn (R := Look b (.slice p n c) bs (.ok a2)) zL (Look.okO) ?_ | refine DA.opn (R := Look b (.slice p n c) bs (.ok a2)) zL (Look.okO) ?_
        rintro ⟨⟩ -
        first | refine XA.cl ?_ | refine XOA.cl ?_ | refine DA.cl ?_
        first | (refine zG ?_; refine zO rfl (Rd.nilCheck rfl) ?_) | refine zH ?_
        first | (refine zG ?_; refine zV rfl rfl ?_) | refine zH ?_
        first | (refine zG ?_; refine zB rfl rfl (tyrow rfl) rfl ?_) | refine zH ?_
        first | (refine zG ?_; refine zO rfl (Rd.eql rfl rfl) ?_) | refine zH ?_
        refine zO rfl zP ?_; refine zN (zT (XA.condT rfl rfl (XA.skip (zT (zS (XA.block (zR (zA rfl ?_)))))))); refine zV rfl rfl ?_; refine zB rfl rfl (tyrow rfl) rfl ?_; refine zA rfl ?_; refine zO rfl (Rd.ixS rfl rfl) ?_; refine zO rfl (Rd.ldA rfl) ?_; refine zA rfl ?_; refine zO rfl zI ?_
        refine XOA.ent (Ent.foldC (Θ := [_]) zD (Look.mkO (l := a2) rfl) (Ent.refl _)) ?_
        refine XOA.wr0 rfl (WrA.cE (ih x' (List.mem_of_getElem? hx') row b p n c bs (.ok a2) (deep + 1) hrx hin2 (by omega) (by omega)) rfl) ?_
        rintro _ _ _ ⟨_, ⟨rfl, rfl, rfl⟩, rfl⟩
        refine XOA.cl ?_; refine zN (DA.inb_normal (zT (zR (zA rfl ?_)))); refine zO rfl zI ?_; refine zO rfl Rd.asg ?_; refine zN (zT ?_)
        refine ⟨(Keep.upd (Keep.upd (Keep.upd (Keep.updO (Keep.upd (Keep.upd (Keep.upd (Keep.upd (Keep.upd (Keep.upd (Keep.upd (Keep.upd (Keep.upd (Keep.upd (Keep.upd (Keep.upd (Keep.upd (Keep.upd (Keep.upd (Keep.upd (Keep.upd (Keep.upd (Keep.upd (Keep.upd (Keep.upd (Keep.hav (Keep.hav (Keep.refl _ _) rfl) rfl) rfl) rfl) rfl) rfl) rfl) rfl) rfl) rfl) rfl) rfl) rfl) rfl) rfl) rfl) rfl) rfl) rfl) rfl) rfl) rfl) rfl) rfl) rfl) rfl) rfl), q + 1, _, zM, ?_, ⟨rfl, hlt, by rw [e1]⟩, (by omega)⟩
        · exact zE
    have hqn : q = l.length := by omega
    subst hqn
    rw [List.take_length, hpost]
    refine zS (zS (zR (zA rfl ?_))); refine zV rfl rfl ?_; refine zB rfl rfl (tyrow rfl) rfl ?_; refine zO rfl (Rd.lenSlice (tyrow rfl) rfl rfl) ?_; refine zO rfl (Rd.lss rfl rfl) ?_; refine zA rfl ?_
    first | (refine zG ?_; refine zA rfl ?_) | refine zH ?_
    first | (refine zG ?_; refine zO rfl (Rd.nilCheck rfl) ?_) | refine zH ?_
    first | (refine zG ?_; refine zV rfl rfl ?_) | refine zH ?_
    first | (refine zG ?_; refine zB rfl rfl (tyrow rfl) rfl ?_) | refine zH ?_
    first | (refine zG ?_; refine zO rfl (Rd.eql rfl rfl) ?_) | refine zH ?_
    refine zO rfl zP ?_; refine zN (zT (XA.condF rfl zY ?_)); refine XA.exit (DA.thn_exit (DA.thn_exit (DA.inb_same ?_)))
    exact bodyA.normal (ResA.none rfl) zE ⟨rfl, rfl, rfl⟩
end Go.Proofs.YthefnnkmpcgcmaaGreatDoor

namespace Go.Proofs.YthefnnkmpcgcmaaGreatDoor
open Go X
set_option maxHeartbeats 1000000
def RStmtsOK (σ : PH) (l : List St) : Prop := ∀ (sl : Value) (b : Nat) (p : Option Addr) (n c : Nat) (bs : Value) (e : JE) (deep : Int), PSl 12 StAt σ sl l → e.in_ → 0 ≤ deep → (deep ≤ 900 ∧ (e.isOk = true → deep ≤ 13)) →
  CallsA Tryz.prog 46 #[ptr b, sl, i64 deep] σ [Look b (.slice p n c) bs e] (RetA fun r σ' Γ' => r = .tuple #[] ∧ σ = σ' ∧ Γ' = [Look b (.slice p n c) bs (stsE n deep l e)])
theorem st_form (op : Int) (ex fx : Ex) (kb ke : Nat) (s : JE) : (s.fail ((!needE op && !noneX ex) || (!needF op && !noneX fx)) 5).fail ((!needB op && decide ((0 : Int) < (kb : Int))) || (!needO op && decide ((0 : Int) < (ke : Int)))) 5 = s.fail (stForm op ex fx kb ke) 5 := by
  rw [fail_or, stForm]
  congr 1
  simp only [Bool.or_assoc]
theorem rstmts_l (σ : PH) (l : List St) (ih : ∀ x ∈ l, RStmtsOK σ x.body ∧ RStmtsOK σ x.els) : RStmtsOK σ l := by
  intro sl b p n c bs e deep hl hin hd0 ⟨hd1, hd13⟩
  obtain ⟨pl, cl, rfl, hle, hmx⟩ := hl.shape
  have hlen : l.length ≤ maxLen := by omega
  simp only [maxLen] at hlen
  refine enterA3 Tryz.func46 rfl rfl rfl ?_
  refine zS (zR (zO rfl Rd.asg ?_)); refine zN (zT (XA.block ?_))
  refine XA.gen [(0, _), (1, _), (2, _), (6, _)] ⟨(by with_reducible (conv => lhs; whnf)), (by with_reducible (conv => lhs; whnf)), (by with_reducible (conv => lhs; whnf)), (by with_reducible (conv => lhs; whnf)), trivial⟩ (fun δ => ?_)
  dsimp only [List.foldl]
  refine XA.loop [(6, 122)] (fun q : Nat => [(6, i64 q)]) (fun q σ' Γ' => σ = σ' ∧ q ≤ l.length ∧ Γ' = [Look b (.slice p n c) bs (stsE n deep (l.take q) e)]) (fun q => l.length - q) 0 (by exact ⟨rfl, trivial⟩) (Δ0 := _) ?_ (⟨rfl, Nat.zero_le _, rfl⟩) ?_
  · rw [List.take_zero, stsE]; exact zE
  rintro q δ _ _ ⟨rfl, hq, rfl⟩
  dsimp only [ovr, List.foldl]
  have hin2 : (stsE n deep (l.take q) e).in_ := in_of (Down.stsE n (l.take q)) hin deep
  by_cases hlt : q < l.length
  · obtain ⟨x, hx⟩ : ∃ x, l[q]? = some x := ⟨_, List.getElem?_eq_getElem hlt⟩
    obtain ⟨g, o, row, rfl, hrx, hrl, hrow⟩ := hl.at hx
    have hone := hrx.ones
    have e1 := stsE_snoc n deep l q x e hx
    obtain ⟨ihb, ihe⟩ := ih x (List.mem_of_getElem? hx)
    refine zS (zS (zR (zA rfl ?_))); refine zA rfl ?_; refine zO rfl (Rd.lenSlice (tyrow rfl) rfl rfl) ?_; refine zO rfl (Rd.lss rfl rfl) ?_; refine zA rfl ?_
    first | (refine zG ?_; refine zA rfl ?_) | refine zH ?_
    cases hst : stsE n deep (l.take q) e with
    | error c' =>
      have hfin : stsE n deep l e = .error c' := by
        have := stsE_app n deep (l.take q) (l.drop q) e
        rw [List.take_append_drop, hst, stsE_err] at this
        exact this
      rw [hfin]
      first | refine XA.opn (R := Look b (.slice p n c) bs (.error c')) zL (Look.errO) ?_ | refine XOA.opn (R := Look b (.slice p n c) bs (.error c')) zL (Look.errO) ?_ | refine DA.opn (R := Look b (.slice p n c) bs (.error c')) zL (Look.errO) ?_
      rintro lf h0
      first | refine XA.cl ?_ | refine XOA.cl ?_ | refine DA.cl ?_
      first | (refine zG ?_; refine zO rfl (Rd.nilCheck rfl) ?_) | refine zH ?_
      first | (refine zG ?_; refine zV rfl rfl ?_) | refine zH ?_
      first | (refine zG ?_; refine zB rfl rfl (tyrow rfl) rfl ?_) | refine zH ?_
      first | (refine zG ?_; refine zO rfl (Rd.eql rfl rfl) ?_) | refine zH ?_
      refine zO rfl zP ?_; refine zN (zT (XA.condF rfl (decide_eq_false h0) (XA.exit (DA.thn_exit (DA.thn_exit (DA.inb_same ?_))))))
      exact bodyA.normal (ResA.none rfl) (Ent.fold1 zE (Look.mkE h0)) ⟨rfl, rfl, rfl⟩
    | ok a =>
      have hdp : deep ≤ 13 := hd13 (by
        cases e with
        | ok _ => rfl
        | error c' => rw [stsE_err] at hst; cases hst)
      rw [hst] at e1 hin2
      obtain ⟨op, v, ex, fx, body, els⟩ := x
      obtain ⟨pe, de, pf, df, pb, cb, pl', cl', rfl, -, -, hxe, hxf, hxb, hxl⟩ := hrx.inv12
      simp only [St.op, St.v, St.e, St.f, St.body, St.els] at hxe hxf hxb hxl hrow hone hrl ihb ihe
      clear hrx
      obtain ⟨nE, nF, nV, nB, nO⟩ := need_op op
      obtain ⟨qE, hqE⟩ : ∃ q, q = needE op := ⟨_, rfl⟩
      obtain ⟨qF, hqF⟩ : ∃ q, q = needF op := ⟨_, rfl⟩
      obtain ⟨qV, hqV⟩ : ∃ q, q = needV op := ⟨_, rfl⟩
      obtain ⟨qB, hqB⟩ : ∃ q, q = needB op := ⟨_, rfl⟩
      obtain ⟨qO, hqO⟩ : ∃ q, q = needO op := ⟨_, rfl⟩
      rw [← hqE] at nE
      rw [← hqF] at nF
      rw [← hqV] at nV
      rw [← hqB] at nB
      rw [← hqO] at nO
      obtain ⟨cells, hcells⟩ : ∃ l, l = [i64 op, i64 v, i64 ex.op, i64 ex.v, i64 ex.n, .slice pe ex.l.length de, i64 fx.op, i64 fx.v, i64 fx.n, .slice pf fx.l.length df, .slice pb body.length cb, .slice pl' els.length cl'] := ⟨_, rfl⟩
      obtain ⟨ne, hne⟩ : ∃ q, q = noneX ex := ⟨_, rfl⟩
      obtain ⟨nf, hnf⟩ : ∃ q, q = noneX fx := ⟨_, rfl⟩
      obtain ⟨A1, hA1⟩ : ∃ A, A = (!qE && !ne) := ⟨_, rfl⟩
      obtain ⟨A2, hA2⟩ : ∃ A, A = (A1 || (!qF && !nf)) := ⟨_, rfl⟩
      obtain ⟨A3, hA3⟩ : ∃ A, A = (!qB && decide ((0 : Int) < (body.length : Int))) := ⟨_, rfl⟩
      obtain ⟨A4, hA4⟩ : ∃ A, A = (A3 || (!qO && decide ((0 : Int) < (els.length : Int)))) := ⟨_, rfl⟩
      have hform : ∀ s : JE, (s.fail A2 5).fail A4 5 = s.fail (stForm op ex fx body.length els.length) 5 := fun s => by rw [hA2, hA4, hA1, hA3, hne, hnf, hqE, hqF, hqB, hqO, st_form]
      first | refine XA.opn (R := Look b (.slice p n c) bs (.ok a)) zL (Look.okO) ?_ | refine XOA.opn (R := Look b (.slice p n c) bs (.ok a)) zL (Look.okO) ?_ | refine DA.opn (R := Look b (.slice p n c) bs (.ok a)) zL (Look.okO) ?_
      rintro ⟨⟩ -
      first | refine XA.cl ?_ | refine XOA.cl ?_ | refine DA.cl ?_
      first | (refine zG ?_; refine zO rfl (Rd.nilCheck rfl) ?_) | refine zH ?_
      first | (refine zG ?_; refine zV rfl rfl ?_) | refine zH ?_
      first | (refine zG ?_; refine zB rfl rfl (tyrow rfl) rfl ?_) | refine zH ?_
      first | (refine zG ?_; refine zO rfl (Rd.eql rfl rfl) ?_) | refine zH ?_
      refine zO rfl zP ?_; refine zN (zT (XA.condT rfl rfl (XA.skip (zT (zS (XA.block (zS (zR (zA rfl ?_))))))))); refine zA rfl ?_; refine zO rfl (Rd.ixS rfl rfl) ?_; refine zO rfl (Rd.ldA rfl) ?_
      refine XOA.wr0 rfl (WrA.alloc (tyrow rfl)) ?_
      rintro _ _ _ ⟨g7, rfl, rfl, rfl⟩
      refine XOA.wr0 rfl (WrA.st (tyrow rfl) rfl) ?_
      rintro _ _ _ ⟨rfl, rfl, rfl⟩
      refine zN (zT (zS (zR (zA rfl ?_)))); refine zA rfl ?_
      refine XOA.ent (Ent.foldC (Θ := [_]) zD (Look.mkO (l := a) rfl) (Ent.refl _)) ?_
      refine XOA.wr0 rfl (WrA.cE (head_a σ b (.slice p n c) bs (.ok a) deep hin2) rfl) ?_
      rintro _ _ _ ⟨_, ⟨rfl, rfl, rfl⟩, rfl⟩
      refine XOA.cl ?_; refine zN (zT (zS (zR (zA rfl ?_)))); refine zV rfl rfl ?_; refine zB rfl rfl (tyrow rfl) rfl ?_
      obtain ⟨E1, hE1⟩ : ∃ E1, E1 = JE.one (.ok a) deep := ⟨_, rfl⟩
      rw [← hE1, ← hcells]
      refine XOA.join (List.take_append_drop 6 _).symm [(28, 28), (31, 36)] (fun _ : Unit => [(28, ptr b), (36, .bool (decide (op < 1 ∨ 7 < op)))]) (fun _ σ' Γ' => σ = σ' ∧ Γ' = [Look b (.slice p n c) bs E1, blk g7 cells 38]) ?_ ?_
      · rw [hcells]
        by_cases h1 : op < 1
        · rw [show decide (op < 1 ∨ 7 < op) = true from decide_eq_true (.inl h1)]
          refine zO rfl (Rd.lss rfl rfl) ?_; refine zA rfl ?_
          first | (refine zG ?_; refine zV rfl rfl ?_) | refine zH ?_
          first | (refine zG ?_; refine zB rfl rfl (tyrow rfl) rfl ?_) | refine zH ?_
          first | (refine zG ?_; refine zO rfl (Rd.gtr rfl rfl) ?_) | refine zH ?_
          refine zO rfl zP ?_; refine zN (zT ?_)
          refine ⟨(Keep.upd (Keep.upd (Keep.upd (Keep.upd (Keep.upd (Keep.upd (Keep.refl _ _) rfl) rfl) rfl) rfl) rfl) rfl), (), _, zM, ?_, ⟨rfl, rfl⟩⟩
          · exact zE
        · rw [show decide (op < 1 ∨ 7 < op) = decide (7 < op) from by rw [decide_eq_decide]; omega]
          refine zO rfl (Rd.lss rfl rfl) ?_; refine zA rfl ?_
          first | (refine zG ?_; refine zV rfl rfl ?_) | refine zH ?_
          first | (refine zG ?_; refine zB rfl rfl (tyrow rfl) rfl ?_) | refine zH ?_
          first | (refine zG ?_; refine zO rfl (Rd.gtr rfl rfl) ?_) | refine zH ?_
          refine zO rfl zP ?_; refine zN (zT ?_)
          refine ⟨(Keep.upd (Keep.upd (Keep.upd (Keep.upd (Keep.upd (Keep.upd (Keep.refl _ _) rfl) rfl) rfl) rfl) rfl) rfl), (), _, zM, ?_, ⟨rfl, rfl⟩⟩
          · exact zE
      rintro - δ1 _ _ ⟨rfl, rfl⟩
      dsimp only [ovr, List.foldl]
      rw [hcells]
      refine XOA.wr0 rfl (WrA.cE (bad_a σ b _ bs E1 (decide (op < 1 ∨ 7 < op)) 2 (by decide)) rfl) ?_
      rintro _ _ _ ⟨_, ⟨rfl, rfl, rfl⟩, rfl⟩
      refine XOA.cl ?_; refine zN (zT (zS (zR (zA rfl ?_)))); refine zV rfl rfl ?_; refine zB rfl rfl (tyrow rfl) rfl ?_
      obtain ⟨E2, hE2⟩ : ∃ E2, E2 = JE.fail E1 (decide (op < 1 ∨ 7 < op)) 2 := ⟨_, rfl⟩
      rw [← hE2]
      refine XOA.wr0 rfl (WrA.cE (rneeded_a σ op 101) rfl) ?_
      rintro _ _ _ ⟨_, ⟨rfl, rfl, rfl⟩, rfl⟩
      refine XOA.cl ?_
      rw [nE, ← hcells]
      refine zO rfl zJ ?_
      refine XOA.join (List.take_append_drop 7 _).symm [(38, 38), (43, 49)] (fun _ : Unit => [(38, ptr b), (49, .bool A1)]) (fun _ σ' Γ' => σ = σ' ∧ Γ' = [Look b (.slice p n c) bs E2, blk g7 cells 38]) ?_ ?_
      · rw [hcells]
        cases hn : qE with
        | true =>
          rw [show A1 = false by rw [hA1, hn]; rfl]
          refine zA rfl ?_
          first | (refine zG ?_; refine zV rfl rfl ?_) | refine zH ?_
          first | (refine zG ?_; refine zO rfl (Rd.ldA rfl) ?_) | refine zH ?_
          first | refine zH ?_
          first | (refine zG ?_; refine zO rfl zJ ?_) | refine zH ?_
          refine zO rfl zP ?_; refine zA rfl ?_; refine zN (zT ?_)
          refine ⟨(Keep.upd (Keep.upd (Keep.upd (Keep.upd (Keep.upd (Keep.upd (Keep.upd (Keep.refl _ _) rfl) rfl) rfl) rfl) rfl) rfl) rfl), (), _, zM, ?_, ⟨rfl, rfl⟩⟩
          · exact zE
        | false =>
          rw [show A1 = !ne by rw [hA1, hn]; rfl]
          refine zA rfl ?_
          first | (refine zG ?_; refine zV rfl rfl ?_) | refine zH ?_
          first | (refine zG ?_; refine zO rfl (Rd.ldA rfl) ?_) | refine zH ?_
          first | refine XOA.wanted rfl rfl ?_ | refine XOA.wq rfl rfl ?_
          refine XOA.wr0 rfl (WrA.cE (rzero_a σ _ _ hxe) rfl) ?_
          rintro _ _ _ ⟨_, ⟨rfl, rfl, rfl⟩, rfl⟩
          refine XOA.cl ?_
          rw [← hne]
          first | (refine zG ?_; refine zO rfl zJ ?_) | refine zH ?_
          refine zO rfl zP ?_; refine zA rfl ?_; refine zN (zT ?_)
          refine ⟨(Keep.upd (Keep.upd (Keep.upd (Keep.updO (Keep.upd (Keep.upd (Keep.upd (Keep.refl _ _) rfl) rfl) rfl) rfl) rfl) rfl) rfl), (), _, zM, ?_, ⟨rfl, rfl⟩⟩
          · exact zE
      rintro - δ2 _ _ ⟨rfl, rfl⟩
      dsimp only [ovr, List.foldl]
      refine XOA.join (List.take_append_drop 11 _).symm [(38, 38), (50, 60)] (fun _ : Unit => [(38, ptr b), (60, .bool A2)]) (fun _ σ' Γ' => σ = σ' ∧ Γ' = [Look b (.slice p n c) bs E2, blk g7 cells 38]) ?_ ?_
      · rw [hcells]
        cases hB : A1 with
        | true =>
          rw [show A2 = true by rw [hA2, hB]; rfl]
          first | (refine zG ?_; refine zV rfl rfl ?_) | refine zH ?_
          first | (refine zG ?_; refine zB rfl rfl (tyrow rfl) rfl ?_) | refine zH ?_
          first | refine zH ?_
          first | (refine zG ?_; refine zO rfl zJ ?_) | refine zH ?_
          first | (refine zG ?_; refine zA rfl ?_) | refine zH ?_
          first | (refine zG ?_; refine zV rfl rfl ?_) | refine zH ?_
          first | (refine zG ?_; refine zO rfl (Rd.ldA rfl) ?_) | refine zH ?_
          first | refine zH ?_
          first | (refine zG ?_; refine zO rfl zJ ?_) | refine zH ?_
          first | (refine zG ?_; refine zO rfl zP ?_) | refine zH ?_
          refine zO rfl zP ?_; refine zN (zT ?_)
          refine ⟨(Keep.upd (Keep.upd (Keep.upd (Keep.upd (Keep.upd (Keep.upd (Keep.upd (Keep.upd (Keep.upd (Keep.upd (Keep.upd (Keep.refl _ _) rfl) rfl) rfl) rfl) rfl) rfl) rfl) rfl) rfl) rfl) rfl), (), _, zM, ?_, ⟨rfl, rfl⟩⟩
          · exact zE
        | false =>
          rw [hB, Bool.false_or] at hA2
          first | (refine zG ?_; refine zV rfl rfl ?_) | refine zH ?_
          first | (refine zG ?_; refine zB rfl rfl (tyrow rfl) rfl ?_) | refine zH ?_
          first | refine XOA.wanted rfl rfl ?_ | refine XOA.wq rfl rfl ?_
          refine XOA.wr0 rfl (WrA.cE (rneeded_a σ op 102) rfl) ?_
          rintro _ _ _ ⟨_, ⟨rfl, rfl, rfl⟩, rfl⟩
          refine XOA.cl ?_
          rw [nF]
          cases hn : qF with
          | true =>
            rw [show A2 = false by rw [hA2, hn]; rfl]
            first | (refine zG ?_; refine zO rfl zJ ?_) | refine zH ?_
            first | (refine zG ?_; refine zA rfl ?_) | refine zH ?_
            first | (refine zG ?_; refine zV rfl rfl ?_) | refine zH ?_
            first | (refine zG ?_; refine zO rfl (Rd.ldA rfl) ?_) | refine zH ?_
            first | refine zH ?_
            first | (refine zG ?_; refine zO rfl zJ ?_) | refine zH ?_
            first | (refine zG ?_; refine zO rfl zP ?_) | refine zH ?_
            refine zO rfl zP ?_; refine zN (zT ?_)
            refine ⟨(Keep.upd (Keep.upd (Keep.upd (Keep.upd (Keep.upd (Keep.upd (Keep.upd (Keep.upd (Keep.updO (Keep.upd (Keep.upd (Keep.refl _ _) rfl) rfl) rfl) rfl) rfl) rfl) rfl) rfl) rfl) rfl) rfl), (), _, zM, ?_, ⟨rfl, rfl⟩⟩
            · exact zE
          | false =>
            rw [show A2 = !nf by rw [hA2, hn]; rfl]
            first | (refine zG ?_; refine zO rfl zJ ?_) | refine zH ?_
            first | (refine zG ?_; refine zA rfl ?_) | refine zH ?_
            first | (refine zG ?_; refine zV rfl rfl ?_) | refine zH ?_
            first | (refine zG ?_; refine zO rfl (Rd.ldA rfl) ?_) | refine zH ?_
            first | refine XOA.wanted rfl rfl ?_ | refine XOA.wq rfl rfl ?_
            refine XOA.wr0 rfl (WrA.cE (rzero_a σ _ _ hxf) rfl) ?_
            rintro _ _ _ ⟨_, ⟨rfl, rfl, rfl⟩, rfl⟩
            refine XOA.cl ?_
            rw [← hnf]
            first | (refine zG ?_; refine zO rfl zJ ?_) | refine zH ?_
            first | (refine zG ?_; refine zO rfl zP ?_) | refine zH ?_
            refine zO rfl zP ?_; refine zN (zT ?_)
            refine ⟨(Keep.upd (Keep.upd (Keep.upd (Keep.updO (Keep.upd (Keep.upd (Keep.upd (Keep.upd (Keep.updO (Keep.upd (Keep.upd (Keep.refl _ _) rfl) rfl) rfl) rfl) rfl) rfl) rfl) rfl) rfl) rfl) rfl), (), _, zM, ?_, ⟨rfl, rfl⟩⟩
            · exact zE
      rintro - δ3 _ _ ⟨rfl, rfl⟩
      dsimp only [ovr, List.foldl]
      rw [hcells]
      refine XOA.wr0 rfl (WrA.cE (bad_a σ b _ bs E2 A2 5 (by decide)) rfl) ?_
      rintro _ _ _ ⟨_, ⟨rfl, rfl, rfl⟩, rfl⟩
      refine XOA.cl ?_; refine zN (zT (zS (zR (zA rfl ?_)))); refine zV rfl rfl ?_; refine zB rfl rfl (tyrow rfl) rfl ?_
      obtain ⟨E3, hE3⟩ : ∃ E3, E3 = JE.fail E2 A2 5 := ⟨_, rfl⟩
      rw [← hE3]
      refine XOA.wr0 rfl (WrA.cE (rneeded_a σ op 98) rfl) ?_
      rintro _ _ _ ⟨_, ⟨rfl, rfl, rfl⟩, rfl⟩
      refine XOA.cl ?_
      rw [nB, ← hcells]
      refine zO rfl zJ ?_
      refine XOA.join (List.take_append_drop 7 _).symm [(62, 62), (67, 73)] (fun _ : Unit => [(62, ptr b), (73, .bool A3)]) (fun _ σ' Γ' => σ = σ' ∧ Γ' = [Look b (.slice p n c) bs E3, blk g7 cells 38]) ?_ ?_
      · rw [hcells]
        cases hn : qB with
        | true =>
          rw [show A3 = false by rw [hA3, hn]; rfl]
          refine zA rfl ?_
          first | (refine zG ?_; refine zV rfl rfl ?_) | refine zH ?_
          first | (refine zG ?_; refine zB rfl rfl (tyrow rfl) rfl ?_) | refine zH ?_
          first | (refine zG ?_; refine zO rfl (Rd.lenSlice (tyrow rfl) rfl rfl) ?_) | refine zH ?_
          first | (refine zG ?_; refine zO rfl (Rd.gtr rfl rfl) ?_) | refine zH ?_
          refine zO rfl zP ?_; refine zA rfl ?_; refine zN (zT ?_)
          refine ⟨(Keep.upd (Keep.upd (Keep.upd (Keep.upd (Keep.upd (Keep.upd (Keep.upd (Keep.refl _ _) rfl) rfl) rfl) rfl) rfl) rfl) rfl), (), _, zM, ?_, ⟨rfl, rfl⟩⟩
          · exact zE
        | false =>
          rw [show A3 = decide ((0 : Int) < (body.length : Int)) by rw [hA3, hn]; rfl]
          refine zA rfl ?_
          first | (refine zG ?_; refine zV rfl rfl ?_) | refine zH ?_
          first | (refine zG ?_; refine zB rfl rfl (tyrow rfl) rfl ?_) | refine zH ?_
          first | (refine zG ?_; refine zO rfl (Rd.lenSlice (tyrow rfl) rfl rfl) ?_) | refine zH ?_
          first | (refine zG ?_; refine zO rfl (Rd.gtr rfl rfl) ?_) | refine zH ?_
          refine zO rfl zP ?_; refine zA rfl ?_; refine zN (zT ?_)
          refine ⟨(Keep.upd (Keep.upd (Keep.upd (Keep.upd (Keep.upd (Keep.upd (Keep.upd (Keep.refl _ _) rfl) rfl) rfl) rfl) rfl) rfl) rfl), (), _, zM, ?_, ⟨rfl, rfl⟩⟩
          · exact zE
      rintro - δ4 _ _ ⟨rfl, rfl⟩
      dsimp only [ovr, List.foldl]
      refine XOA.join (List.take_append_drop 11 _).symm [(62, 62), (74, 84)] (fun _ : Unit => [(62, ptr b), (84, .bool A4)]) (fun _ σ' Γ' => σ = σ' ∧ Γ' = [Look b (.slice p n c) bs E3, blk g7 cells 38]) ?_ ?_
      · rw [hcells]
        cases hB : A3 with
        | true =>
          rw [show A4 = true by rw [hA4, hB]; rfl]
          first | (refine zG ?_; refine zV rfl rfl ?_) | refine zH ?_
          first | (refine zG ?_; refine zB rfl rfl (tyrow rfl) rfl ?_) | refine zH ?_
          first | refine zH ?_
          first | (refine zG ?_; refine zO rfl zJ ?_) | refine zH ?_
          first | (refine zG ?_; refine zA rfl ?_) | refine zH ?_
          first | (refine zG ?_; refine zV rfl rfl ?_) | refine zH ?_
          first | (refine zG ?_; refine zB rfl rfl (tyrow rfl) rfl ?_) | refine zH ?_
          first | (refine zG ?_; refine zO rfl (Rd.lenSlice (tyrow rfl) rfl rfl) ?_) | refine zH ?_
          first | (refine zG ?_; refine zO rfl (Rd.gtr rfl rfl) ?_) | refine zH ?_
          first | (refine zG ?_; refine zO rfl zP ?_) | refine zH ?_
          refine zO rfl zP ?_; refine zN (zT ?_)
          refine ⟨(Keep.upd (Keep.upd (Keep.upd (Keep.upd (Keep.upd (Keep.upd (Keep.upd (Keep.upd (Keep.upd (Keep.upd (Keep.upd (Keep.refl _ _) rfl) rfl) rfl) rfl) rfl) rfl) rfl) rfl) rfl) rfl) rfl), (), _, zM, ?_, ⟨rfl, rfl⟩⟩
          · exact zE
        | false =>
          rw [hB, Bool.false_or] at hA4
          first | (refine zG ?_; refine zV rfl rfl ?_) | refine zH ?_
          first | (refine zG ?_; refine zB rfl rfl (tyrow rfl) rfl ?_) | refine zH ?_
          first | refine XOA.wanted rfl rfl ?_ | refine XOA.wq rfl rfl ?_
          refine XOA.wr0 rfl (WrA.cE (rneeded_a σ op 111) rfl) ?_
          rintro _ _ _ ⟨_, ⟨rfl, rfl, rfl⟩, rfl⟩
          refine XOA.cl ?_
          rw [nO]
          cases hn : qO with
          | true =>
            rw [show A4 = false by rw [hA4, hn]; rfl]
            first | (refine zG ?_; refine zO rfl zJ ?_) | refine zH ?_
            first | (refine zG ?_; refine zA rfl ?_) | refine zH ?_
            first | (refine zG ?_; refine zV rfl rfl ?_) | refine zH ?_
            first | (refine zG ?_; refine zB rfl rfl (tyrow rfl) rfl ?_) | refine zH ?_
            first | (refine zG ?_; refine zO rfl (Rd.lenSlice (tyrow rfl) rfl rfl) ?_) | refine zH ?_
            first | (refine zG ?_; refine zO rfl (Rd.gtr rfl rfl) ?_) | refine zH ?_
            first | (refine zG ?_; refine zO rfl zP ?_) | refine zH ?_
            refine zO rfl zP ?_; refine zN (zT ?_)
            refine ⟨(Keep.upd (Keep.upd (Keep.upd (Keep.upd (Keep.upd (Keep.upd (Keep.upd (Keep.upd (Keep.updO (Keep.upd (Keep.upd (Keep.refl _ _) rfl) rfl) rfl) rfl) rfl) rfl) rfl) rfl) rfl) rfl) rfl), (), _, zM, ?_, ⟨rfl, rfl⟩⟩
            · exact zE
          | false =>
            rw [show A4 = decide ((0 : Int) < (els.length : Int)) by rw [hA4, hn]; rfl]
            first | (refine zG ?_; refine zO rfl zJ ?_) | refine zH ?_
            first | (refine zG ?_; refine zA rfl ?_) | refine zH ?_
            first | (refine zG ?_; refine zV rfl rfl ?_) | refine zH ?_
            first | (refine zG ?_; refine zB rfl rfl (tyrow rfl) rfl ?_) | refine zH ?_
            first | (refine zG ?_; refine zO rfl (Rd.lenSlice (tyrow rfl) rfl rfl) ?_) | refine zH ?_
            first | (refine zG ?_; refine zO rfl (Rd.gtr rfl rfl) ?_) | refine zH ?_
            first | (refine zG ?_; refine zO rfl zP ?_) | refine zH ?_
            refine zO rfl zP ?_; refine zN (zT ?_)
            refine ⟨(Keep.upd (Keep.upd (Keep.upd (Keep.upd (Keep.upd (Keep.upd (Keep.upd (Keep.upd (Keep.updO (Keep.upd (Keep.upd (Keep.refl _ _) rfl) rfl) rfl) rfl) rfl) rfl) rfl) rfl) rfl) rfl) rfl), (), _, zM, ?_, ⟨rfl, rfl⟩⟩
            · exact zE
      rintro - δ5 _ _ ⟨rfl, rfl⟩
      dsimp only [ovr, List.foldl]
      rw [hcells]
      refine XOA.wr0 rfl (WrA.cE (bad_a σ b _ bs E3 A4 5 (by decide)) rfl) ?_
      rintro _ _ _ ⟨_, ⟨rfl, rfl, rfl⟩, rfl⟩
      refine XOA.cl ?_; refine zN (zT (zS ?_))
      rw [show JE.fail E3 A4 5 = JE.fail E2 (stForm op ex fx body.length els.length) 5 by rw [hE3, hform]]
      obtain ⟨H, hH⟩ : ∃ H, H = stHead n deep op v ex fx body.length els.length (.ok a) := ⟨_, rfl⟩
      have hHi : H.in_ := by rw [hH]; exact in_of (Down.stHead n op v ex fx body.length els.length) hin2 deep
      have hHn : JE.named (JE.fail E2 (stForm op ex fx body.length els.length) 5) n v qV = H := by rw [hH, stHead, hE2, hE1, hqV]
      obtain ⟨H1, hH1⟩ : ∃ H1, H1 = if qE = true then exE n (deep + 1) ex H else H := ⟨_, rfl⟩
      have hH1i : H1.in_ := by
        rw [hH1]; split
        · exact in_of (Down.exE n ex) hHi (deep + 1)
        · exact hHi
      obtain ⟨H2, hH2⟩ : ∃ H2, H2 = if qF = true then exE n (deep + 1) fx H1 else H1 := ⟨_, rfl⟩
      have hH2i : H2.in_ := by
        rw [hH2]; split
        · exact in_of (Down.exE n fx) hH1i (deep + 1)
        · exact hH1i
      have hend : stE n deep (.mk op v ex fx body els) (.ok a) = stsE n (deep + 1) els (stsE n (deep + 1) body H2) := by
        rw [stE, stEF, ← hqE, ← hqF, ← hH, ← hH1, ← hH2]
      have hdd : H2.isOk = true → deep ≤ 12 := fun h => by
        apply one_ok (e := .ok a)
        cases h1 : JE.one (.ok a) deep with
        | ok _ => rfl
        | error c' =>
          exfalso
          have e0 : H = .error c' := by rw [hH, stHead, h1, fail_err, fail_err, named_err]
          have e2 : H2 = .error c' := by rw [hH2, hH1, e0]; simp
          rw [e2] at h; cases h
      have hdd2 : (stsE n (deep + 1) body H2).isOk = true → deep ≤ 12 := fun h => hdd (by
        cases h2 : H2 with
        | ok _ => rfl
        | error c' => rw [h2, stsE_err] at h; cases h)
      clear hform hA1 hA2 hA3 hA4 hE1 hE3 hne hnf hH
      refine XA.draw (by kernel_rfl) _ _ [6] [(0, .pu), (1, .pu), (2, .rd), (3, .pu), (4, .rd), (5, .wr), (6, .wr)] (by kernel_rfl) (PH.sub.refl _) (Ent.sel (R := blk g7 _ _) zL (Ent.nil _)) ?_
      refine XPA.pu rfl rfl Gd.free Rd.mv ?_; refine XPA.pu rfl rfl Gd.free (Rd.fA rfl) ?_; refine XPA.rd rfl rfl Gd.free (Rd.ldC rfl (tyrow rfl) rfl) ?_; refine XPA.pu rfl rfl Gd.free (Rd.fA rfl) ?_; refine XPA.rd rfl rfl Gd.free (Rd.ldC rfl (tyrow rfl) rfl) ?_
      refine XPA.wr0 rfl rfl Gd.free (WrA.cE (rneeded_a σ op 118) rfl) ?_
      rintro _ _ _ ⟨_, ⟨rfl, rfl, rfl⟩, rfl⟩
      refine stays (XPA.cl ?_)
      rw [nV]
      refine XPA.wrZ0 rfl rfl Gd.free (by kernel_rfl) (WrA.cE (variable_a σ b p n c bs _ v qV) rfl) ?_
      rintro _ _ _ ⟨_, ⟨rfl, rfl, rfl⟩, rfl⟩
      refine XPA.cl ?_
      rw [hHn]
      refine XPA.nil ?_; refine zT (zS (zS (zR (zV rfl rfl ?_)))); refine zB rfl rfl (tyrow rfl) rfl ?_
      refine XOA.wr0 rfl (WrA.cE (rneeded_a σ op 101) rfl) ?_
      rintro _ _ _ ⟨_, ⟨rfl, rfl, rfl⟩, rfl⟩
      refine XOA.cl ?_
      rw [nE, ← hcells]
      refine zN (zT ?_)
      refine XA.join [(96, 101)] (fun _ : Unit => []) (fun _ σ' Γ' => σ = σ' ∧ Γ' = [Look b (.slice p n c) bs H1, blk g7 cells 38]) ?_ ?_
      · rw [hcells]
        refine XA.cond rfl (fun hq => ?_) (fun hq => ?_)
        · rw [show H1 = exE n (deep + 1) ex H by rw [hH1, if_pos hq]]
          refine zR (zA rfl ?_); refine zV rfl rfl ?_; refine zO rfl (Rd.ldA rfl) ?_; refine zA rfl ?_; refine zO rfl zI ?_
          refine XOA.wr0 rfl (WrA.cE (rexpr_a σ ex _ b p n c bs H (deep + 1) hxe hHi (by omega) (by omega)) rfl) ?_
          rintro _ _ _ ⟨_, ⟨rfl, rfl, rfl⟩, rfl⟩
          refine XOA.cl ?_; refine zN (zT ?_)
          refine ⟨(Keep.updO (Keep.upd (Keep.upd (Keep.upd (Keep.upd (Keep.upd (Keep.refl _ _) rfl) rfl) rfl) rfl) rfl) rfl), (), _, zM, ?_, ⟨rfl, rfl⟩⟩
          · exact zE
        · rw [show H1 = H by rw [hH1, if_neg (by rw [hq]; decide)]]
          refine XA.skip (zT ?_)
          refine ⟨(Keep.refl _ _), (), _, zM, ?_, ⟨rfl, rfl⟩⟩
          · exact zE
      rintro - δ6 _ _ ⟨rfl, rfl⟩
      dsimp only [ovr, List.foldl]
      refine zT ?_
      rw [hcells]
      refine zS (zS (zR (zV rfl rfl ?_))); refine zB rfl rfl (tyrow rfl) rfl ?_
      refine XOA.wr0 rfl (WrA.cE (rneeded_a σ op 102) rfl) ?_
      rintro _ _ _ ⟨_, ⟨rfl, rfl, rfl⟩, rfl⟩
      refine XOA.cl ?_
      rw [nF, ← hcells]
      refine zN (zT ?_)
      refine XA.join [(105, 110)] (fun _ : Unit => []) (fun _ σ' Γ' => σ = σ' ∧ Γ' = [Look b (.slice p n c) bs H2, blk g7 cells 38]) ?_ ?_
      · rw [hcells]
        refine XA.cond rfl (fun hq => ?_) (fun hq => ?_)
        · rw [show H2 = exE n (deep + 1) fx H1 by rw [hH2, if_pos hq]]
          refine zR (zA rfl ?_); refine zV rfl rfl ?_; refine zO rfl (Rd.ldA rfl) ?_; refine zA rfl ?_; refine zO rfl zI ?_
          refine XOA.wr0 rfl (WrA.cE (rexpr_a σ fx _ b p n c bs H1 (deep + 1) hxf hH1i (by omega) (by omega)) rfl) ?_
          rintro _ _ _ ⟨_, ⟨rfl, rfl, rfl⟩, rfl⟩
          refine XOA.cl ?_; refine zN (zT ?_)
          refine ⟨(Keep.updO (Keep.upd (Keep.upd (Keep.upd (Keep.upd (Keep.upd (Keep.refl _ _) rfl) rfl) rfl) rfl) rfl) rfl), (), _, zM, ?_, ⟨rfl, rfl⟩⟩
          · exact zE
        · rw [show H2 = H1 by rw [hH2, if_neg (by rw [hq]; decide)]]
          refine XA.skip (zT ?_)
          refine ⟨(Keep.refl _ _), (), _, zM, ?_, ⟨rfl, rfl⟩⟩
          · exact zE
      rintro - δ7 _ _ ⟨rfl, rfl⟩
      dsimp only [ovr, List.foldl]
      refine zT ?_
      rw [hcells]
      refine zS (zR (zA rfl ?_)); refine zV rfl rfl ?_; refine zB rfl rfl (tyrow rfl) rfl ?_; refine zA rfl ?_; refine zO rfl zI ?_
      refine XOA.wr0 rfl (WrA.cE (ihb _ b p n c bs H2 (deep + 1) hxb hH2i (by omega) ⟨by omega, fun h => by have := hdd h; omega⟩) rfl) ?_
      rintro _ _ _ ⟨_, ⟨rfl, rfl, rfl⟩, rfl⟩
      refine XOA.cl ?_; refine zN (zT (zR (zA rfl ?_))); refine zV rfl rfl ?_; refine zB rfl rfl (tyrow rfl) rfl ?_; refine zA rfl ?_; refine zO rfl zI ?_
      refine XOA.wr0 rfl (WrA.cE (ihe _ b p n c bs _ (deep + 1) hxl (in_of (Down.stsE n body) hH2i (deep + 1)) (by omega) ⟨by omega, fun h => by have := hdd2 h; omega⟩) rfl) ?_
      rintro _ _ _ ⟨_, ⟨rfl, rfl, rfl⟩, rfl⟩
      refine XOA.cl ?_; refine zN (DA.inb_normal (zT (zR (zA rfl ?_)))); refine zO rfl zI ?_; refine zO rfl Rd.asg ?_; refine zN (zT ?_)
      refine ⟨(Keep.upd (Keep.upd (Keep.upd (Keep.updO (Keep.upd (Keep.upd (Keep.upd (Keep.upd (Keep.upd (Keep.updO (Keep.upd (Keep.upd (Keep.upd (Keep.upd (Keep.upd (Keep.hav (Keep.updO (Keep.upd (Keep.upd (Keep.hav (Keep.updO (Keep.upd (Keep.upd (Keep.updO (Keep.updO (Keep.upd (Keep.upd (Keep.upd (Keep.upd (Keep.upd (Keep.updO (Keep.upd (Keep.upd (Keep.hav (Keep.hav (Keep.upd (Keep.upd (Keep.hav (Keep.hav (Keep.upd (Keep.updO (Keep.upd (Keep.upd (Keep.upd (Keep.updO (Keep.upd (Keep.upd (Keep.hav (Keep.hav (Keep.upd (Keep.upd (Keep.hav (Keep.hav (Keep.upd (Keep.updO (Keep.upd (Keep.upd (Keep.upd (Keep.updO (Keep.upd (Keep.upd (Keep.hav (Keep.hav (Keep.upd (Keep.upd (Keep.upd (Keep.updO (Keep.upd (Keep.upd (Keep.updN (Keep.updO (Keep.upd (Keep.upd (Keep.upd (Keep.upd (Keep.upd (Keep.upd (Keep.upd (Keep.upd (Keep.upd (Keep.upd (Keep.upd (Keep.upd (Keep.upd (Keep.upd (Keep.upd (Keep.upd (Keep.hav (Keep.refl _ _) rfl) rfl) rfl) rfl) rfl) rfl) rfl) rfl) rfl) rfl) rfl) rfl) rfl) rfl) rfl) rfl) rfl) rfl)) rfl) rfl) rfl) rfl) rfl) rfl) rfl) rfl) rfl) rfl) rfl) rfl) rfl) rfl) rfl) rfl) rfl) rfl) rfl) rfl) rfl) rfl) rfl) rfl) rfl) rfl) rfl) rfl) rfl) rfl) rfl) rfl) rfl) rfl) rfl) rfl) rfl) rfl) rfl) rfl) rfl) rfl) rfl) rfl) rfl) rfl) rfl) rfl) rfl) rfl) rfl) rfl) rfl) rfl) rfl) rfl) rfl) rfl) rfl) rfl) rfl) rfl) rfl) rfl) rfl) rfl) rfl) rfl) rfl), q + 1, _, zM, ?_, ⟨rfl, hlt, by rw [e1, hend]⟩, (by omega)⟩
      · exact zE
  · 
    have hqn : q = l.length := by omega
    subst hqn
    rw [List.take_length]
    refine zS (zS (zR (zA rfl ?_))); refine zA rfl ?_; refine zO rfl (Rd.lenSlice (tyrow rfl) rfl rfl) ?_; refine zO rfl (Rd.lss rfl rfl) ?_; refine zA rfl ?_
    first | (refine zG ?_; refine zA rfl ?_) | refine zH ?_
    first | (refine zG ?_; refine zO rfl (Rd.nilCheck rfl) ?_) | refine zH ?_
    first | (refine zG ?_; refine zV rfl rfl ?_) | refine zH ?_
    first | (refine zG ?_; refine zB rfl rfl (tyrow rfl) rfl ?_) | refine zH ?_
    first | (refine zG ?_; refine zO rfl (Rd.eql rfl rfl) ?_) | refine zH ?_
    refine zO rfl zP ?_; refine zN (zT (XA.condF rfl zY ?_)); refine XA.exit (DA.thn_exit (DA.thn_exit (DA.inb_same ?_)))
    exact bodyA.normal (ResA.none rfl) zE ⟨rfl, rfl, rfl⟩
theorem rst_x (σ : PH) (x : St) : RStmtsOK σ x.body ∧ RStmtsOK σ x.els := by
  refine St.ind (P := fun x => RStmtsOK σ x.body ∧ RStmtsOK σ x.els) ?_ x
  intro op v e f body els ih jh
  exact ⟨rstmts_l σ body ih, rstmts_l σ els jh⟩
theorem rstmts_a (σ : PH) (l : List St) : RStmtsOK σ l := rstmts_l σ l (fun x _ => rst_x σ x)
end Go.Proofs.YthefnnkmpcgcmaaGreatDoor

namespace Go.Proofs.YthefnnkmpcgcmaaGreatDoor
open Go X
set_option maxHeartbeats 1000000
theorem fault_a (σ : PH) (cs : List Value) (p : Pr) (hp : PrAt σ cs p) : CallsA Tryz.prog 22 #[.agg cs.toArray] σ [] (RetA fun v σ' Γ' => v = i64 (checkP p) ∧ σ = σ' ∧ Γ' = []) := by
  obtain ⟨vs, bs, rfl, hv, hb⟩ := hp
  obtain ⟨pv, cv, rfl, hvl, hvm⟩ := hv.shape
  obtain ⟨pb, cb, rfl, hbl, hbm⟩ := hb.shape
  obtain ⟨l, body⟩ := p
  simp only at hv hb hvl hbl ⊢
  have hlen : l.length ≤ maxLen := by omega
  simp only [maxLen] at hlen
  refine enterA1 Tryz.func22 rfl rfl rfl ?_
  refine zS (zR ?_)
  refine XOA.wr0 rfl WrA.bx ?_
  rintro _ _ _ ⟨g1, rfl, rfl, rfl⟩
  refine zO rfl Rd.asg ?_; refine zN (zT (zS (zS (zR (zV rfl rfl ?_))))); refine zB rfl rfl (tyrow rfl) rfl ?_; refine zO rfl (Rd.lenSlice (tyrow rfl) rfl rfl) ?_; refine zO rfl (Rd.gtr rfl rfl) ?_; refine zN (zT ?_)
  refine XA.condp rfl (fun h8 => ?_) (fun h8 => ?_)
  · refine zS ?_
    refine zR (zO rfl Rd.asg ?_); refine zN (zT (XA.ret (DA.thn_ret ?_)))
    have hr : checkP ⟨l, body⟩ = 3 := by
      have : checkVars l = 3 := by rw [checkVars, if_pos (by omega)]
      rw [checkP, this, if_pos (by decide)]
    exact bodyA.ret (ResA.one rfl rfl) zE ⟨by rw [hr], rfl, rfl⟩
  have hcv : checkVars l = varsGo [] 0 l := by rw [checkVars, if_neg (by omega)]
  have hcp : ∀ c, varsGo [] 0 l = c → c ≠ 0 → checkP ⟨l, body⟩ = c := fun c h1 h2 => by rw [checkP, if_pos (by rw [hcv, h1]; exact h2), hcv, h1]
  refine XA.skip (zT (zS (zR (zO rfl Rd.asg ?_)))); refine zN (zT (zS (zS (zR (zO rfl Rd.asg ?_))))); refine zN (zT (XA.block ?_))
  refine XA.gen [(1, _), (2, _), (3, _), (4, _)] ⟨(by with_reducible (conv => lhs; whnf)), (by with_reducible (conv => lhs; whnf)), (by with_reducible (conv => lhs; whnf)), (by with_reducible (conv => lhs; whnf)), trivial⟩ (fun δ => ?_)
  dsimp only [List.foldl]
  refine XA.loop [(2, 6), (12, 60)] (fun q : Nat × Int => [(4, i64 q.1), (3, i64 q.2)]) (fun q σ' Γ' => σ = σ' ∧ q.1 ≤ l.length ∧ (0 ≤ q.2 ∧ q.2 ≤ 48 ∧ varsGo (l.take q.1) q.2 (l.drop q.1) = varsGo [] 0 l) ∧ Γ' = [blk g1 [.slice pv l.length cv, .slice pb body.length cb] 26]) (fun q => l.length - q.1) (0, 0) (by exact ⟨rfl, rfl, trivial⟩) (Δ0 := _) ?_ (⟨rfl, Nat.zero_le _, ⟨Int.le_refl _, (by decide), rfl⟩, rfl⟩) ?_
  · exact zE
  rintro ⟨k, n⟩ δ _ _ ⟨rfl, hk, ⟨hn0, hn1, hgo⟩, rfl⟩
  dsimp only [ovr, List.foldl]
  have hk : k ≤ l.length := hk
  have hn0 : 0 ≤ n := hn0
  have hn1 : n ≤ 48 := hn1
  have hgo : varsGo (l.take k) n (l.drop k) = varsGo [] 0 l := hgo
  refine zS (zS (zR (zA rfl ?_))); refine zV rfl rfl ?_; refine zB rfl rfl (tyrow rfl) rfl ?_; refine zO rfl (Rd.lenSlice (tyrow rfl) rfl rfl) ?_; refine zO rfl (Rd.lss rfl rfl) ?_; refine zN (zT ?_)
  refine XA.condp rfl (fun hlt => ?_) (fun hlt => ?_)
  · have hlt : k < l.length := by omega
    obtain ⟨x, hx⟩ : ∃ x, l[k]? = some x := ⟨_, List.getElem?_eq_getElem hlt⟩
    obtain ⟨gg, o, row, rfl, ⟨rfl, ⟨hz0, hz1⟩, hnm⟩, hrl, hrow⟩ := hv.at hx
    rw [drop_get hx, varsGo] at hgo
    refine XA.skip (zT (zS (XA.block (zS (zR (zV rfl rfl ?_)))))); refine zB rfl rfl (tyrow rfl) rfl ?_; refine zA rfl ?_; refine zO rfl (Rd.ixS rfl rfl) ?_; refine zO rfl (Rd.ldA rfl) ?_
    refine XOA.wr0 rfl (WrA.alloc (tyrow rfl)) ?_
    rintro _ _ _ ⟨g5, rfl, rfl, rfl⟩
    refine XOA.wr0 rfl (WrA.st (tyrow rfl) rfl) ?_
    rintro _ _ _ ⟨rfl, rfl, rfl⟩
    refine zN (zT (zS (zS (zR (zV rfl rfl ?_))))); refine zB rfl rfl (tyrow rfl) rfl ?_
    refine XOA.wr0 rfl (WrA.cE (rname_a σ x.name hnm) rfl) ?_
    rintro _ _ _ ⟨_, ⟨rfl, rfl, rfl⟩, rfl⟩
    refine XOA.cl ?_
    cases hnk : nameOk x.name with
    | false =>
      rw [if_pos hnk] at hgo
      rw [hcp 8 hgo.symm (by decide)]
      refine zO rfl zJ ?_; refine zN (zT (XA.condT rfl rfl (zS (zR (zO rfl Rd.asg ?_))))); refine zN (zT (XA.ret (DA.thn_ret (DA.inb_ret (DA.thn_ret (DA.thn_ret (DA.inb_ret (DA.thn_ret ?_))))))))
      exact bodyA.ret (ResA.one rfl rfl) zE ⟨rfl, rfl, rfl⟩
    | true =>
      rw [if_neg (by simp [hnk])] at hgo
      refine zO rfl zJ ?_; refine zN (zT (XA.condF rfl rfl (XA.skip (zT (zS (zS (zR (zO rfl Rd.asg ?_)))))))); refine zN (zT (XA.block ?_))
      refine XA.loop [(2, 2), (6, 6), (28, 41)] (fun j : Nat => [(6, i64 j)]) (fun j σ' Γ' => σ = σ' ∧ j ≤ k ∧ (∀ (i : Nat) w, i < j → l[i]? = some w → w.name ≠ x.name) ∧ Γ' = [blk g5 [.string x.name, i64 x.size] 58, blk g1 [.slice (some ⟨gg, o, none⟩) l.length cv, .slice pb body.length cb] 26]) (fun j => k - j) 0 (by exact ⟨rfl, trivial⟩) (Δ0 := _) ?_ (⟨rfl, Nat.zero_le _, fun i w h => absurd h (Nat.not_lt_zero _), rfl⟩) ?_
      · exact zE
      rintro j δ2 _ _ ⟨rfl, hj, hall, rfl⟩
      dsimp only [ovr, List.foldl]
      refine zS (zS (zR (zA rfl ?_))); refine zA rfl ?_; refine zO rfl (Rd.lss rfl rfl) ?_; refine zN (zT ?_)
      refine XA.condp rfl (fun hjk => ?_) (fun hjk => ?_)
      · have hjk : j < k := by omega
        obtain ⟨y, hy⟩ : ∃ y, l[j]? = some y := ⟨_, List.getElem?_eq_getElem (by omega)⟩
        obtain ⟨gg', o', row', hgo', ⟨rfl, -, -⟩, hrl', hrow'⟩ := hv.at hy
        simp only [Option.some.injEq, Addr.mk.injEq, and_true] at hgo'
        obtain ⟨rfl, rfl⟩ := hgo'
        have r0 : PRow σ gg (o + j * 2) [.string y.name] := hrow'.sub (j := 0) rfl
        refine XA.skip (zT (zS (XA.block (zS ?_))))
        refine XA.draw (by kernel_rfl) _ _ [] [(0, .pu), (1, .rd), (2, .pu), (3, .pu), (4, .pu), (5, .rd), (6, .pu), (7, .rd), (8, .pu)] (by kernel_rfl) (PH.sub.refl _) (Ent.sel (R := blk g1 _ _) zL (Ent.sel (R := blk g5 _ _) zL (Ent.nil _))) ?_
        refine XPA.pu rfl rfl Gd.free (Rd.fA rfl) ?_; refine XPA.rd rfl rfl Gd.free (Rd.ldC rfl (tyrow rfl) rfl) ?_; refine XPA.pu rfl rfl Gd.free Rd.mv ?_; refine XPA.pu rfl rfl Gd.free (Rd.ixS rfl rfl) ?_; refine XPA.pu rfl rfl Gd.free (Rd.fA rfl) ?_
        refine XPA.rd rfl rfl Gd.free (Rd.ldC rfl (tyrow rfl) rfl) ?_; refine XPA.pu rfl rfl Gd.free (Rd.fA rfl) ?_; refine XPA.rd rfl rfl Gd.free (Rd.ldC rfl (tyrow rfl) rfl) ?_; refine XPA.pu rfl rfl Gd.free (Rd.eqls rfl rfl) ?_; refine XPA.nil ?_; refine zT ?_
        refine XA.condp rfl (fun he => ?_) (fun he => ?_)
        · have hex : ∃ w ∈ l.take k, w.name = x.name := ⟨y, List.mem_iff_getElem?.2 ⟨j, by rw [List.getElem?_take, if_pos hjk]; exact hy⟩, he⟩
          rw [if_pos hex] at hgo
          rw [hcp 9 hgo.symm (by decide)]
          refine zS (zR (zO rfl Rd.asg ?_)); refine zN (zT (XA.ret (DA.inb_ret (DA.thn_ret (DA.thn_ret (DA.inb_ret (DA.thn_ret (DA.inb_ret (DA.thn_ret (DA.thn_ret (DA.inb_ret (DA.thn_ret ?_))))))))))))
          exact bodyA.ret (ResA.one rfl rfl) zE ⟨rfl, rfl, rfl⟩
        have hnew : ∀ (i : Nat) w, i < j + 1 → l[i]? = some w → w.name ≠ x.name := fun i w hi hw => by
          rcases Nat.lt_or_ge i j with h | h
          · exact hall i w h hw
          · have : i = j := by omega
            subst this
            rw [hy] at hw; simp only [Option.some.injEq] at hw; subst hw; exact he
        refine XA.skip (DA.inb_normal (zT (zR (zA rfl ?_)))); refine zO rfl zI ?_; refine zO rfl Rd.asg ?_; refine zN (zT ?_)
        refine ⟨(Keep.upd (Keep.upd (Keep.upd (Keep.upd (Keep.upd (Keep.upd (Keep.upd (Keep.upd (Keep.upd (Keep.upd (Keep.upd (Keep.upd (Keep.upd (Keep.upd (Keep.upd (Keep.upd (Keep.hav (Keep.hav (Keep.hav (Keep.refl _ _) rfl) rfl) rfl) rfl) rfl) rfl) rfl) rfl) rfl) rfl) rfl) rfl) rfl) rfl) rfl) rfl) rfl) rfl) rfl), j + 1, _, zM, ?_, ⟨rfl, hjk, hnew, rfl⟩, (by omega)⟩
        · exact zE
      have hjk2 : j = k := by omega
      subst hjk2
      have hnex : ¬ ∃ w ∈ l.take j, w.name = x.name := fun ⟨w, hw, e⟩ => by
        obtain ⟨i, hi⟩ := List.mem_iff_getElem?.1 hw
        rw [List.getElem?_take] at hi
        split at hi
        · exact hall i w (by assumption) hi e
        · cases hi
      rw [if_neg hnex] at hgo
      by_cases hz : x.size < 1
      · rw [if_pos (.inl hz)] at hgo
        rw [hcp 1 hgo.symm (by decide)]
        refine XA.exit (DA.thn_exit (DA.thn_exit (DA.inb_same (zT (zS (zS (zR (zV rfl rfl ?_)))))))); refine zB rfl rfl (tyrow rfl) rfl ?_; refine zO rfl (Rd.lss rfl rfl) ?_; refine zA rfl ?_
        first | (refine zG ?_; refine zV rfl rfl ?_) | refine zH ?_
        first | (refine zG ?_; refine zB rfl rfl (tyrow rfl) rfl ?_) | refine zH ?_
        first | (refine zG ?_; refine zO rfl (Rd.gtr rfl rfl) ?_) | refine zH ?_
        refine zO rfl zP ?_; refine zA rfl ?_
        first | (refine zG ?_; refine zA rfl ?_) | refine zH ?_
        first | (refine zG ?_; refine zV rfl rfl ?_) | refine zH ?_
        first | (refine zG ?_; refine zB rfl rfl (tyrow rfl) rfl ?_) | refine zH ?_
        first | (refine zG ?_; refine zO rfl zI ?_) | refine zH ?_
        first | (refine zG ?_; refine zO rfl (Rd.gtr rfl rfl) ?_) | refine zH ?_
        refine zO rfl zP ?_; refine zN (zT (XA.condT rfl rfl (zS (zR (zO rfl Rd.asg ?_))))); refine zN (zT (XA.ret (DA.thn_ret (DA.inb_ret (DA.thn_ret (DA.thn_ret (DA.inb_ret (DA.thn_ret ?_))))))))
        exact bodyA.ret (ResA.one rfl rfl) zE ⟨rfl, rfl, rfl⟩
      by_cases hz3 : 48 < x.size
      · rw [if_pos (.inr (by omega))] at hgo
        rw [hcp 1 hgo.symm (by decide)]
        refine XA.exit (DA.thn_exit (DA.thn_exit (DA.inb_same (zT (zS (zS (zR (zV rfl rfl ?_)))))))); refine zB rfl rfl (tyrow rfl) rfl ?_; refine zO rfl (Rd.lss rfl rfl) ?_; refine zA rfl ?_
        first | (refine zG ?_; refine zV rfl rfl ?_) | refine zH ?_
        first | (refine zG ?_; refine zB rfl rfl (tyrow rfl) rfl ?_) | refine zH ?_
        first | (refine zG ?_; refine zO rfl (Rd.gtr rfl rfl) ?_) | refine zH ?_
        refine zO rfl zP ?_; refine zA rfl ?_
        first | (refine zG ?_; refine zA rfl ?_) | refine zH ?_
        first | (refine zG ?_; refine zV rfl rfl ?_) | refine zH ?_
        first | (refine zG ?_; refine zB rfl rfl (tyrow rfl) rfl ?_) | refine zH ?_
        first | (refine zG ?_; refine zO rfl zI ?_) | refine zH ?_
        first | (refine zG ?_; refine zO rfl (Rd.gtr rfl rfl) ?_) | refine zH ?_
        refine zO rfl zP ?_; refine zN (zT (XA.condT rfl rfl (zS (zR (zO rfl Rd.asg ?_))))); refine zN (zT (XA.ret (DA.thn_ret (DA.inb_ret (DA.thn_ret (DA.thn_ret (DA.inb_ret (DA.thn_ret ?_))))))))
        exact bodyA.ret (ResA.one rfl rfl) zE ⟨rfl, rfl, rfl⟩
      refine XA.exit (DA.thn_exit (DA.thn_exit (DA.inb_same (zT (zS (zS (zR (zV rfl rfl ?_)))))))); refine zB rfl rfl (tyrow rfl) rfl ?_; refine zO rfl (Rd.lss rfl rfl) ?_; refine zA rfl ?_
      first | (refine zG ?_; refine zV rfl rfl ?_) | refine zH ?_
      first | (refine zG ?_; refine zB rfl rfl (tyrow rfl) rfl ?_) | refine zH ?_
      first | (refine zG ?_; refine zO rfl (Rd.gtr rfl rfl) ?_) | refine zH ?_
      refine zO rfl zP ?_; refine zA rfl ?_
      first | (refine zG ?_; refine zA rfl ?_) | refine zH ?_
      first | (refine zG ?_; refine zV rfl rfl ?_) | refine zH ?_
      first | (refine zG ?_; refine zB rfl rfl (tyrow rfl) rfl ?_) | refine zH ?_
      first | (refine zG ?_; refine zO rfl zI ?_) | refine zH ?_
      first | (refine zG ?_; refine zO rfl (Rd.gtr rfl rfl) ?_) | refine zH ?_
      refine zO rfl zP ?_; refine zN (zT ?_)
      refine XA.condp rfl (fun hz2 => ?_) (fun hz2 => ?_)
      · rw [if_pos (.inr (by omega))] at hgo
        rw [hcp 1 hgo.symm (by decide)]
        refine zS (zR (zO rfl Rd.asg ?_)); refine zN (zT (XA.ret (DA.thn_ret (DA.inb_ret (DA.thn_ret (DA.thn_ret (DA.inb_ret (DA.thn_ret ?_))))))))
        exact bodyA.ret (ResA.one rfl rfl) zE ⟨rfl, rfl, rfl⟩
      rw [if_neg (by omega)] at hgo
      refine XA.skip (zT (zR (zA rfl ?_))); refine zV rfl rfl ?_; refine zB rfl rfl (tyrow rfl) rfl ?_; refine zO rfl zI ?_; refine zO rfl Rd.asg ?_; refine zN (DA.inb_normal (zT (zR (zA rfl ?_)))); refine zO rfl zI ?_; refine zO rfl Rd.asg ?_; refine zN (zT ?_)
      refine ⟨(Keep.upd (Keep.upd (Keep.upd (Keep.upd (Keep.upd (Keep.upd (Keep.upd (Keep.upd (Keep.upd (Keep.upd (Keep.upd (Keep.upd (Keep.upd (Keep.upd (Keep.upd (Keep.upd (Keep.upd (Keep.upd (Keep.upd (Keep.upd (Keep.upd (Keep.upd (Keep.upd (Keep.upd (Keep.upd (Keep.upd (Keep.upd (Keep.hav (Keep.hav (Keep.hav (Keep.upd (Keep.upd (Keep.updO (Keep.upd (Keep.upd (Keep.updN (Keep.updO (Keep.upd (Keep.upd (Keep.upd (Keep.upd (Keep.upd (Keep.upd (Keep.upd (Keep.upd (Keep.upd (Keep.upd (Keep.upd (Keep.upd (Keep.hav (Keep.hav (Keep.refl _ _) rfl) rfl) rfl) rfl) rfl) rfl) rfl) rfl) rfl) rfl) rfl) rfl) rfl) rfl) rfl)) rfl) rfl) rfl) rfl) rfl) rfl) rfl) rfl) rfl) rfl) rfl) rfl) rfl) rfl) rfl) rfl) rfl) rfl) rfl) rfl) rfl) rfl) rfl) rfl) rfl) rfl) rfl) rfl) rfl) rfl) rfl) rfl) rfl) rfl) rfl), (j + 1, n + x.size), _, zM, ?_, ⟨rfl, hlt, ⟨by simp only; omega, by simp only; omega, by rw [takeS hx]; exact hgo⟩, rfl⟩, (by simp only; omega)⟩
      · exact zE
  have hkn : k = l.length := by omega
  subst hkn
  rw [List.drop_length, varsGo] at hgo
  have hcp2 : checkP ⟨l, body⟩ = (stsE l.length 0 body (.ok 150)).code := by rw [checkP, if_neg (by rw [hcv, ← hgo]; decide)]
  rw [hcp2]
  refine XA.exit (DA.thn_exit (DA.thn_exit (DA.inb_same (zT (zS (zR (zO rfl (Rd.ldA rfl) ?_)))))))
  refine zO rfl (Rd.bl (fun _ _ => tyrow) rfl rfl rfl) ?_
  refine XOA.wr0 rfl WrA.bx ?_
  rintro _ _ _ ⟨g63, rfl, rfl, rfl⟩
  refine zO rfl Rd.asg ?_; refine zN (zT (zS (zR (zA rfl ?_)))); refine zV rfl rfl ?_; refine zB rfl rfl (tyrow rfl) rfl ?_
  refine XOA.ent (Ent.foldC (Θ := [blk g63 _ _]) zD (Look.mkO (l := 150) rfl) (Ent.refl _)) ?_
  refine XOA.wr0 rfl (WrA.cE (rstmts_a σ body _ g63 pv l.length cv _ (.ok 150) 0 hb (fun l hl => by simp only [Except.ok.injEq] at hl; omega) (by decide) ⟨by decide, fun _ => by decide⟩) rfl) ?_
  rintro _ _ _ ⟨_, ⟨rfl, rfl, rfl⟩, rfl⟩
  refine XOA.cl ?_; refine zN (zT (zS (zR (zA rfl ?_))))
  cases hst : stsE l.length 0 body (.ok 150) with
  | ok a =>
    first | refine XA.opn (R := Look g63 _ _ (.ok a)) zL (Look.okO) ?_ | refine XOA.opn (R := Look g63 _ _ (.ok a)) zL (Look.okO) ?_ | refine DA.opn (R := Look g63 _ _ (.ok a)) zL (Look.okO) ?_
    rintro ⟨⟩ -
    first | refine XA.cl ?_ | refine XOA.cl ?_ | refine DA.cl ?_
    refine zO rfl (Rd.nilCheck rfl) ?_; refine zV rfl rfl ?_; refine zB rfl rfl (tyrow rfl) rfl ?_; refine zO rfl Rd.asg ?_; refine zN (zT (XA.ret ?_))
    exact bodyA.ret (ResA.one rfl rfl) (Ent.nil _) ⟨rfl, rfl, rfl⟩
  | error c =>
    first | refine XA.opn (R := Look g63 _ _ (.error c)) zL (Look.errO) ?_ | refine XOA.opn (R := Look g63 _ _ (.error c)) zL (Look.errO) ?_ | refine DA.opn (R := Look g63 _ _ (.error c)) zL (Look.errO) ?_
    rintro n2 h0
    first | refine XA.cl ?_ | refine XOA.cl ?_ | refine DA.cl ?_
    refine zO rfl (Rd.nilCheck rfl) ?_; refine zV rfl rfl ?_; refine zB rfl rfl (tyrow rfl) rfl ?_; refine zO rfl Rd.asg ?_; refine zN (zT (XA.ret ?_))
    exact bodyA.ret (ResA.one rfl rfl) (Ent.nil _) ⟨rfl, rfl, rfl⟩
def RSameExOK (σ : PH) (x : Ex) : Prop := ∀ (cs cs' : List Value) (y : Ex), ExAt σ cs x → ExAt σ cs' y →
  CallsA Tryz.prog 47 #[.agg cs.toArray, .agg cs'.toArray] σ [] (RetA fun v σ' Γ' => ∃ b : Bool, v = .bool b ∧ (b = true ↔ x = y) ∧ σ = σ' ∧ Γ' = [])
theorem rsameExpr_a (σ : PH) (x : Ex) : RSameExOK σ x := by
  refine Ex.ind (P := RSameExOK σ) ?_ x
  intro op v k l ih cs cs' y hx hy
  obtain ⟨pl, cl, rfl, -, -, -, hl⟩ := hx.inv
  obtain ⟨pm, cm, rfl, -, -, -, hm⟩ := hy.inv
  simp only [Ex.op, Ex.v, Ex.n, Ex.l] at hl ⊢
  clear hx hy
  obtain ⟨op', v', k', m⟩ := y
  simp only [Ex.op, Ex.v, Ex.n, Ex.l] at hm ⊢
  have hlen : l.length ≤ maxLen := by
    obtain ⟨q, d, e1, h1, h2⟩ := hl.shape
    omega
  simp only [maxLen] at hlen
  have hno : ∀ (q : Prop), (Ex.mk op v k l = Ex.mk op' v' k' m → q) → ¬ q → (false = true ↔ Ex.mk op v k l = Ex.mk op' v' k' m) := fun q h1 h2 => ⟨fun h => (by cases h), fun h => absurd (h1 h) h2⟩
  by_cases h1 : op = op'
  · by_cases h2 : v = v'
    · by_cases h3 : k = k'
      · 
        refine enterA2 Tryz.func47 rfl rfl rfl ?_
        refine zS (zR ?_)
        refine XOA.wr0 rfl WrA.bx ?_
        rintro _ _ _ ⟨g2, rfl, rfl, rfl⟩
        refine XOA.wr0 rfl WrA.bx ?_
        rintro _ _ _ ⟨g3, rfl, rfl, rfl⟩
        refine zO rfl Rd.asg ?_; refine zN (zT (zS (zS (zR (zV rfl rfl ?_))))); refine zB rfl rfl (tyrow rfl) rfl ?_; refine zV rfl rfl ?_; refine zB rfl rfl (tyrow rfl) rfl ?_; refine zO rfl (Rd.neq rfl rfl) ?_; refine zA rfl ?_
        first | (refine zG ?_; refine zV rfl rfl ?_) | refine zH ?_
        first | (refine zG ?_; refine zB rfl rfl (tyrow rfl) rfl ?_) | refine zH ?_
        first | (refine zG ?_; refine zV rfl rfl ?_) | refine zH ?_
        first | (refine zG ?_; refine zB rfl rfl (tyrow rfl) rfl ?_) | refine zH ?_
        first | (refine zG ?_; refine zO rfl (Rd.neq rfl rfl) ?_) | refine zH ?_
        refine zO rfl zP ?_; refine zA rfl ?_
        first | (refine zG ?_; refine zV rfl rfl ?_) | refine zH ?_
        first | (refine zG ?_; refine zB rfl rfl (tyrow rfl) rfl ?_) | refine zH ?_
        first | (refine zG ?_; refine zV rfl rfl ?_) | refine zH ?_
        first | (refine zG ?_; refine zB rfl rfl (tyrow rfl) rfl ?_) | refine zH ?_
        first | (refine zG ?_; refine zO rfl (Rd.neq rfl rfl) ?_) | refine zH ?_
        refine zO rfl zP ?_; refine zA rfl ?_
        first | (refine zG ?_; refine zV rfl rfl ?_) | refine zH ?_
        first | (refine zG ?_; refine zB rfl rfl (tyrow rfl) rfl ?_) | refine zH ?_
        first | (refine zG ?_; refine zO rfl (Rd.lenSlice (tyrow rfl) rfl rfl) ?_) | refine zH ?_
        first | (refine zG ?_; refine zV rfl rfl ?_) | refine zH ?_
        first | (refine zG ?_; refine zB rfl rfl (tyrow rfl) rfl ?_) | refine zH ?_
        first | (refine zG ?_; refine zO rfl (Rd.lenSlice (tyrow rfl) rfl rfl) ?_) | refine zH ?_
        first | (refine zG ?_; refine zO rfl (Rd.neq rfl rfl) ?_) | refine zH ?_
        refine zO rfl zP ?_; refine zN (zT ?_)
        refine XA.condp rfl (fun hne => ?_) (fun hne => ?_)
        · refine zS ?_
          refine zR (zO rfl Rd.asg ?_); refine zN (zT (XA.ret (DA.thn_ret ?_)))
          exact bodyA.ret (ResA.one rfl rfl) (Ent.nil _) ⟨false, rfl, hno _ (fun h => by injection h) (fun e : l = m => hne (by rw [e])), rfl, rfl⟩
        have hlm : l.length = m.length := by omega
        refine XA.skip (zT (zS (zS (zR (zO rfl Rd.asg ?_))))); refine zN (zT (XA.block ?_))
        refine XA.gen [(2, _), (3, _), (4, _), (5, _)] ⟨(by with_reducible (conv => lhs; whnf)), (by with_reducible (conv => lhs; whnf)), (by with_reducible (conv => lhs; whnf)), (by with_reducible (conv => lhs; whnf)), trivial⟩ (fun δ => ?_)
        dsimp only [List.foldl]
        refine XA.loop [(4, 5), (34, 52)] (fun q : Nat => [(5, i64 q)]) (fun q σ' Γ' => σ = σ' ∧ q ≤ l.length ∧ l.take q = m.take q ∧ Γ' = [blk g2 [i64 op, i64 v, i64 k, .slice pl l.length cl] 36, blk g3 [i64 op', i64 v', i64 k', .slice pm m.length cm] 36]) (fun q => l.length - q) 0 (by exact ⟨rfl, trivial⟩) (Δ0 := _) ?_ (⟨rfl, Nat.zero_le _, rfl, rfl⟩) ?_
        · exact zE
        rintro q δ _ _ ⟨rfl, hq, htk, rfl⟩
        dsimp only [ovr, List.foldl]
        refine zS (zS (zR (zA rfl ?_))); refine zV rfl rfl ?_; refine zB rfl rfl (tyrow rfl) rfl ?_; refine zO rfl (Rd.lenSlice (tyrow rfl) rfl rfl) ?_; refine zO rfl (Rd.lss rfl rfl) ?_; refine zN (zT ?_)
        refine XA.condp rfl (fun hlt => ?_) (fun hlt => ?_)
        · have hlt : q < l.length := by omega
          obtain ⟨x', hx'⟩ : ∃ x, l[q]? = some x := ⟨_, List.getElem?_eq_getElem hlt⟩
          obtain ⟨y', hy'⟩ : ∃ y, m[q]? = some y := ⟨_, List.getElem?_eq_getElem (by omega)⟩
          obtain ⟨g, o, row, rfl, hrx, hrl, hrow⟩ := hl.at hx'
          obtain ⟨g', o', row', rfl, hry, hrl', hrow'⟩ := hm.at hy'
          refine XA.skip (zT (zS (XA.block (zS ?_))))
          refine XA.draw (by kernel_rfl) _ _ [10] [(0, .pu), (1, .rd), (2, .pu), (3, .pu), (4, .rd), (5, .pu), (6, .rd), (7, .pu), (8, .pu), (9, .rd), (10, .wr), (11, .pu)] (by kernel_rfl) (PH.sub.refl _) (Ent.sel (R := blk g2 _ _) zL (Ent.sel (R := blk g3 _ _) zL (Ent.nil _))) ?_
          refine XPA.pu rfl rfl Gd.free (Rd.fA rfl) ?_; refine XPA.rd rfl rfl Gd.free (Rd.ldC rfl (tyrow rfl) rfl) ?_; refine XPA.pu rfl rfl Gd.free Rd.mv ?_; refine XPA.pu rfl rfl Gd.free (Rd.ixS rfl rfl) ?_; refine XPA.rd rfl rfl Gd.free (Rd.ldA rfl) ?_; refine XPA.pu rfl rfl Gd.free (Rd.fA rfl) ?_
          refine XPA.rd rfl rfl Gd.free (Rd.ldC rfl (tyrow rfl) rfl) ?_; refine XPA.pu rfl rfl Gd.free Rd.mv ?_; refine XPA.pu rfl rfl Gd.free (Rd.ixS rfl rfl) ?_; refine XPA.rd rfl rfl Gd.free (Rd.ldA rfl) ?_
          refine XPA.wrZ0 rfl rfl Gd.free (by kernel_rfl) (WrA.cE (ih x' (List.mem_of_getElem? hx') row row' y' hrx hry) rfl) ?_
          rintro _ _ _ ⟨_, ⟨b, rfl, hb, rfl, rfl⟩, rfl⟩
          refine XPA.cl ?_
          cases b with
          | false =>
            refine XPA.pu rfl rfl Gd.free zJ ?_; refine XPA.nil ?_; refine zT (XA.condT rfl rfl (zS (zR (zO rfl Rd.asg ?_)))); refine zN (zT (XA.ret (DA.inb_ret (DA.thn_ret (DA.thn_ret (DA.inb_ret (DA.thn_ret ?_)))))))
            refine bodyA.ret (ResA.one rfl rfl) (Ent.nil _) ⟨false, rfl, hno (l = m) (fun h => by injection h) (fun h => ?_), rfl, rfl⟩
            subst h
            rw [hx'] at hy'; simp only [Option.some.injEq] at hy'
            exact absurd (hb.2 hy') (by decide)
          | true =>
            have hxy := hb.1 rfl
            refine XPA.pu rfl rfl Gd.free zJ ?_; refine XPA.nil ?_; refine zT (XA.condF rfl rfl (XA.skip (DA.inb_normal (zT (zR (zA rfl ?_)))))); refine zO rfl zI ?_; refine zO rfl Rd.asg ?_; refine zN (zT ?_)
            refine ⟨(Keep.upd (Keep.upd (Keep.upd (Keep.upd (Keep.updO (Keep.upd (Keep.upd (Keep.upd (Keep.upd (Keep.upd (Keep.upd (Keep.upd (Keep.upd (Keep.upd (Keep.upd (Keep.upd (Keep.upd (Keep.upd (Keep.upd (Keep.upd (Keep.upd (Keep.hav (Keep.hav (Keep.refl _ _) rfl) rfl) rfl) rfl) rfl) rfl) rfl) rfl) rfl) rfl) rfl) rfl) rfl) rfl) rfl) rfl) rfl) rfl) rfl) rfl) rfl) rfl) rfl), q + 1, _, zM, ?_, ⟨rfl, hlt, take_eq_succ hx' hy' htk hxy, rfl⟩, (by omega)⟩
            · exact zE
        have hqn : q = l.length := by omega
        subst hqn
        rw [List.take_length, hlm, List.take_length] at htk
        refine XA.exit (DA.thn_exit (DA.thn_exit (DA.inb_same (zT (zS (zR (zO rfl Rd.asg ?_))))))); refine zN (zT (XA.ret ?_))
        exact bodyA.ret (ResA.one rfl rfl) (Ent.nil _) ⟨true, rfl, ⟨fun _ => by rw [h1, h2, h3, htk], fun _ => rfl⟩, rfl, rfl⟩
      · 
        refine enterA2 Tryz.func47 rfl rfl rfl ?_
        refine zS (zR ?_)
        refine XOA.wr0 rfl WrA.bx ?_
        rintro _ _ _ ⟨g2, rfl, rfl, rfl⟩
        refine XOA.wr0 rfl WrA.bx ?_
        rintro _ _ _ ⟨g3, rfl, rfl, rfl⟩
        refine zO rfl Rd.asg ?_; refine zN (zT (zS (zS (zR (zV rfl rfl ?_))))); refine zB rfl rfl (tyrow rfl) rfl ?_; refine zV rfl rfl ?_; refine zB rfl rfl (tyrow rfl) rfl ?_; refine zO rfl (Rd.neq rfl rfl) ?_; refine zA rfl ?_
        first | (refine zG ?_; refine zV rfl rfl ?_) | refine zH ?_
        first | (refine zG ?_; refine zB rfl rfl (tyrow rfl) rfl ?_) | refine zH ?_
        first | (refine zG ?_; refine zV rfl rfl ?_) | refine zH ?_
        first | (refine zG ?_; refine zB rfl rfl (tyrow rfl) rfl ?_) | refine zH ?_
        first | (refine zG ?_; refine zO rfl (Rd.neq rfl rfl) ?_) | refine zH ?_
        refine zO rfl zP ?_; refine zA rfl ?_
        first | (refine zG ?_; refine zV rfl rfl ?_) | refine zH ?_
        first | (refine zG ?_; refine zB rfl rfl (tyrow rfl) rfl ?_) | refine zH ?_
        first | (refine zG ?_; refine zV rfl rfl ?_) | refine zH ?_
        first | (refine zG ?_; refine zB rfl rfl (tyrow rfl) rfl ?_) | refine zH ?_
        first | (refine zG ?_; refine zO rfl (Rd.neq rfl rfl) ?_) | refine zH ?_
        refine zO rfl zP ?_; refine zA rfl ?_
        first | (refine zG ?_; refine zV rfl rfl ?_) | refine zH ?_
        first | (refine zG ?_; refine zB rfl rfl (tyrow rfl) rfl ?_) | refine zH ?_
        first | (refine zG ?_; refine zO rfl (Rd.lenSlice (tyrow rfl) rfl rfl) ?_) | refine zH ?_
        first | (refine zG ?_; refine zV rfl rfl ?_) | refine zH ?_
        first | (refine zG ?_; refine zB rfl rfl (tyrow rfl) rfl ?_) | refine zH ?_
        first | (refine zG ?_; refine zO rfl (Rd.lenSlice (tyrow rfl) rfl rfl) ?_) | refine zH ?_
        first | (refine zG ?_; refine zO rfl (Rd.neq rfl rfl) ?_) | refine zH ?_
        refine zO rfl zP ?_; refine zN (zT (XA.condT rfl zY ?_)); refine zS (zR (zO rfl Rd.asg ?_)); refine zN (zT (XA.ret (DA.thn_ret ?_)))
        exact bodyA.ret (ResA.one rfl rfl) (Ent.nil _) ⟨false, rfl, hno _ (fun h => by injection h) h3, rfl, rfl⟩
    · 
      refine enterA2 Tryz.func47 rfl rfl rfl ?_
      refine zS (zR ?_)
      refine XOA.wr0 rfl WrA.bx ?_
      rintro _ _ _ ⟨g2, rfl, rfl, rfl⟩
      refine XOA.wr0 rfl WrA.bx ?_
      rintro _ _ _ ⟨g3, rfl, rfl, rfl⟩
      refine zO rfl Rd.asg ?_; refine zN (zT (zS (zS (zR (zV rfl rfl ?_))))); refine zB rfl rfl (tyrow rfl) rfl ?_; refine zV rfl rfl ?_; refine zB rfl rfl (tyrow rfl) rfl ?_; refine zO rfl (Rd.neq rfl rfl) ?_; refine zA rfl ?_
      first | (refine zG ?_; refine zV rfl rfl ?_) | refine zH ?_
      first | (refine zG ?_; refine zB rfl rfl (tyrow rfl) rfl ?_) | refine zH ?_
      first | (refine zG ?_; refine zV rfl rfl ?_) | refine zH ?_
      first | (refine zG ?_; refine zB rfl rfl (tyrow rfl) rfl ?_) | refine zH ?_
      first | (refine zG ?_; refine zO rfl (Rd.neq rfl rfl) ?_) | refine zH ?_
      refine zO rfl zP ?_; refine zA rfl ?_
      first | (refine zG ?_; refine zV rfl rfl ?_) | refine zH ?_
      first | (refine zG ?_; refine zB rfl rfl (tyrow rfl) rfl ?_) | refine zH ?_
      first | (refine zG ?_; refine zV rfl rfl ?_) | refine zH ?_
      first | (refine zG ?_; refine zB rfl rfl (tyrow rfl) rfl ?_) | refine zH ?_
      first | (refine zG ?_; refine zO rfl (Rd.neq rfl rfl) ?_) | refine zH ?_
      refine zO rfl zP ?_; refine zA rfl ?_
      first | (refine zG ?_; refine zV rfl rfl ?_) | refine zH ?_
      first | (refine zG ?_; refine zB rfl rfl (tyrow rfl) rfl ?_) | refine zH ?_
      first | (refine zG ?_; refine zO rfl (Rd.lenSlice (tyrow rfl) rfl rfl) ?_) | refine zH ?_
      first | (refine zG ?_; refine zV rfl rfl ?_) | refine zH ?_
      first | (refine zG ?_; refine zB rfl rfl (tyrow rfl) rfl ?_) | refine zH ?_
      first | (refine zG ?_; refine zO rfl (Rd.lenSlice (tyrow rfl) rfl rfl) ?_) | refine zH ?_
      first | (refine zG ?_; refine zO rfl (Rd.neq rfl rfl) ?_) | refine zH ?_
      refine zO rfl zP ?_; refine zN (zT (XA.condT rfl zY ?_)); refine zS (zR (zO rfl Rd.asg ?_)); refine zN (zT (XA.ret (DA.thn_ret ?_)))
      exact bodyA.ret (ResA.one rfl rfl) (Ent.nil _) ⟨false, rfl, hno _ (fun h => by injection h) h2, rfl, rfl⟩
  · 
    refine enterA2 Tryz.func47 rfl rfl rfl ?_
    refine zS (zR ?_)
    refine XOA.wr0 rfl WrA.bx ?_
    rintro _ _ _ ⟨g2, rfl, rfl, rfl⟩
    refine XOA.wr0 rfl WrA.bx ?_
    rintro _ _ _ ⟨g3, rfl, rfl, rfl⟩
    refine zO rfl Rd.asg ?_; refine zN (zT (zS (zS (zR (zV rfl rfl ?_))))); refine zB rfl rfl (tyrow rfl) rfl ?_; refine zV rfl rfl ?_; refine zB rfl rfl (tyrow rfl) rfl ?_; refine zO rfl (Rd.neq rfl rfl) ?_; refine zA rfl ?_
    first | (refine zG ?_; refine zV rfl rfl ?_) | refine zH ?_
    first | (refine zG ?_; refine zB rfl rfl (tyrow rfl) rfl ?_) | refine zH ?_
    first | (refine zG ?_; refine zV rfl rfl ?_) | refine zH ?_
    first | (refine zG ?_; refine zB rfl rfl (tyrow rfl) rfl ?_) | refine zH ?_
    first | (refine zG ?_; refine zO rfl (Rd.neq rfl rfl) ?_) | refine zH ?_
    refine zO rfl zP ?_; refine zA rfl ?_
    first | (refine zG ?_; refine zV rfl rfl ?_) | refine zH ?_
    first | (refine zG ?_; refine zB rfl rfl (tyrow rfl) rfl ?_) | refine zH ?_
    first | (refine zG ?_; refine zV rfl rfl ?_) | refine zH ?_
    first | (refine zG ?_; refine zB rfl rfl (tyrow rfl) rfl ?_) | refine zH ?_
    first | (refine zG ?_; refine zO rfl (Rd.neq rfl rfl) ?_) | refine zH ?_
    refine zO rfl zP ?_; refine zA rfl ?_
    first | (refine zG ?_; refine zV rfl rfl ?_) | refine zH ?_
    first | (refine zG ?_; refine zB rfl rfl (tyrow rfl) rfl ?_) | refine zH ?_
    first | (refine zG ?_; refine zO rfl (Rd.lenSlice (tyrow rfl) rfl rfl) ?_) | refine zH ?_
    first | (refine zG ?_; refine zV rfl rfl ?_) | refine zH ?_
    first | (refine zG ?_; refine zB rfl rfl (tyrow rfl) rfl ?_) | refine zH ?_
    first | (refine zG ?_; refine zO rfl (Rd.lenSlice (tyrow rfl) rfl rfl) ?_) | refine zH ?_
    first | (refine zG ?_; refine zO rfl (Rd.neq rfl rfl) ?_) | refine zH ?_
    refine zO rfl zP ?_; refine zN (zT (XA.condT rfl zY ?_)); refine zS (zR (zO rfl Rd.asg ?_)); refine zN (zT (XA.ret (DA.thn_ret ?_)))
    exact bodyA.ret (ResA.one rfl rfl) (Ent.nil _) ⟨false, rfl, hno _ (fun h => by injection h) h1, rfl, rfl⟩
end Go.Proofs.YthefnnkmpcgcmaaGreatDoor

namespace Go.Proofs.YthefnnkmpcgcmaaGreatDoor
namespace X
open Go
/-- An end in a panic. -/
def PanA (R : List PanicEntry → PH → List HP → Prop) : Ending → PH → List HP → Prop
  | .panicked c, σ, Γ => R c σ Γ
  | _, _, _ => False
section
variable {P : Program} {N : Nat} {ρ : Env} {σ : PH} {Γ : List HP} {K : KA}
theorem XOA.die {all : Array Oper} {rest : List Oper} {d : Option Nat} {f : FuncId} {args : List Operand} {ats : Array TypeId} {vs : List Value} {ty : TypeId} {pos : String} {af : Array Edge} {R : List PanicEntry → PH → List HP → Prop} {Γ0 Δ : List HP} (hd : dstOk N d = true)
    (hc : CallsA P f vs.toArray σ Γ0 (PanA R)) (hv : args.map (ev ρ) = vs) (kp : ∀ c σ' Γ1, R c σ' Γ1 → DA K (.panic c) ρ σ' (Γ1 ++ Δ)) (he : Ent Γ (Γ0 ++ Δ) := by (repeat (first | exact Ent.all _ | (apply Ent.take; focus (first | ((repeat (first | with_reducible exact Sel.head | apply Sel.tail)); done) | ((repeat (first | exact Sel.head | apply Sel.tail)); done))) | apply Ent.takeNil | apply Ent.takeEmp)); (first | done | fail)) :
    XOA P N all (⟨d, .call { callee := .value (.func f), args := args.toArray, argTypes := ats }, ty, pos, af, none⟩ :: rest) ρ σ Γ K :=
  XOA.wr hd (WrA.callG (first := []) (cap := []) rfl hc (by simpa using hv) he (fun _ _ h => h)) (fun _ _ _ h => by obtain ⟨_, h, _⟩ := h; exact h.elim) (fun c σ' Γ' h => by obtain ⟨Γ1, h, rfl⟩ := h; exact kp c σ' Γ1 h)
theorem XPA.die {ops : Array Oper} {σ0 : PH} {Γs : List HP} {z : List Nat} {i : Nat} {pl : List (Nat × Kd)} {d : Option Nat} {f : FuncId} {args : List Operand} {ats : Array TypeId} {vs : List Value} {ty : TypeId} {pos : String} {af : Array Edge} {g : Option (Nat × Bool)} {R : List PanicEntry → PH → List HP → Prop} {Γ0 Δ : List HP}
    (hi : ops[i]? = some ⟨d, .call { callee := .value (.func f), args := args.toArray, argTypes := ats }, ty, pos, af, g⟩) (hd : dstOk N d = true) (hg : Gd ops ρ g true)
    (hc : CallsA P f vs.toArray σ Γ0 (PanA R)) (hv : args.map (ev ρ) = vs) (kp : ∀ c σ' Γ1, R c σ' Γ1 → DA K (.panic c) ρ σ' (Γ1 ++ Δ)) (he : Ent Γ (Γ0 ++ Δ) := by (repeat (first | exact Ent.all _ | (apply Ent.take; focus (first | ((repeat (first | with_reducible exact Sel.head | apply Sel.tail)); done) | ((repeat (first | exact Sel.head | apply Sel.tail)); done))) | apply Ent.takeNil | apply Ent.takeEmp)); (first | done | fail)) :
    XPA P N ops σ0 Γs z ((i, .wr) :: pl) ρ σ Γ K :=
  XPA.wr hi hd hg (WrA.callG (first := []) (cap := []) rfl hc (by simpa using hv) he (fun _ _ h => h)) (fun _ _ _ h => by obtain ⟨_, h, _⟩ := h; exact h.elim) (fun c σ' Γ' h => by obtain ⟨Γ1, h, rfl⟩ := h; exact kp c σ' Γ1 h)
/-- The operation that panics. -/
theorem XOA.throw {all : Array Oper} {rest : List Oper} {d : Option Nat} {x : Operand} {t : TypeId} {v : Value} {ty : TypeId} {pos : String} {af : Array Edge} (hd : dstOk N d = true) (hx : ev ρ x = .iface t v)
    (kp : DA K (.panic [{ v := .iface t v, recovered := false }]) ρ σ Γ) : XOA P N all (⟨d, .panic x, ty, pos, af, none⟩ :: rest) ρ σ Γ K :=
  XOA.wr (R := fun _ _ _ => False) (pk := fun c σ' Γ' => c = [{ v := .iface t v, recovered := false }] ∧ σ = σ' ∧ Γ' = Γ) hd
    ⟨fun f h hh => ⟨fun d pos af g a w next Q he hw _ hp => by
      unfold Oper.wp
      have hrun : (execOp a.eval ⟨d, .panic x, ty, pos, af, g⟩).run P w = .halt (.panic (.iface t v)) w := by
        rw [he]; simp [execOp, Instr.panic, hx, goPanic]
      rw [hrun, Oper.upon_panic]
      exact hp _ w (Same.refl w) ⟨σ, Γ, ⟨rfl, rfl, rfl⟩, hw ▸ hh⟩⟩⟩
    (fun _ _ _ h => h.elim) (fun c σ' Γ' h => by obtain ⟨rfl, rfl, rfl⟩ := h; exact kp)
theorem Rd.neqIfT {S : Heap → Prop} {ty I T' : TypeId} {x : Operand} {t : TypeId} {v : Value} {ms : Array (String × TypeId)} (hI : P.underlying I = some (.interface ms)) (hx : ev ρ x = .iface t v) : Rd P ρ S (.binOp .neq I x (.const .nilIface) T') ty (.bool true) := by
  refine .pure fun d pos af gd w => ?_
  have h1 : (Op.equalIn Op.maxDepth I (.iface t v) .nilIface).run P w = .ok false w := by
    rw [show Op.maxDepth = 9999 + 1 from rfl, Op.equalIn, Sem.run_bind, run_underlying hI]; rfl
  simp only [execOp, eqGuard, hx, ev, binOp, Sem.run_bind]
  simp [Op.equal, h1]
theorem Rd.neqIfF {S : Heap → Prop} {ty I T' : TypeId} {x : Operand} {ms : Array (String × TypeId)} (hI : P.underlying I = some (.interface ms)) (hx : ev ρ x = .nilIface) : Rd P ρ S (.binOp .neq I x (.const .nilIface) T') ty (.bool false) := by
  refine .pure fun d pos af gd w => ?_
  have h1 : (Op.equalIn Op.maxDepth I .nilIface .nilIface).run P w = .ok true w := by
    rw [show Op.maxDepth = 9999 + 1 from rfl, Op.equalIn, Sem.run_bind, run_underlying hI]; rfl
  simp only [execOp, eqGuard, hx, ev, binOp, Sem.run_bind]
  simp [Op.equal, h1]
end
/-! a closure that recovers -/
section
variable {P : Program}
/-- What recover hands back, and what becomes of the frame below. -/
def recv : FrameMode → Value × FrameMode
  | .panicking ({ v, recovered := false, goexit := false } :: older) => (v, .panicking ({ v, recovered := true } :: older))
  | u => (.nilIface, u)
theorem recoverD_recv (c₀ : Frame) (cs : List Frame) : recoverD (c₀ :: cs) = none ∧ recv c₀.mode = (.nilIface, c₀.mode) ∨ recoverD (c₀ :: cs) = some ((recv c₀.mode).1, { c₀ with mode := (recv c₀.mode).2 } :: cs) := by
  obtain ⟨fn, tmps, todo, defers, mode, kind, ro⟩ := c₀
  cases mode with
  | panicking l =>
    cases l with
    | nil => exact .inl ⟨rfl, rfl⟩
    | cons e older =>
      obtain ⟨v, r, g⟩ := e
      cases r <;> cases g <;> first | exact .inr rfl | exact .inl ⟨rfl, rfl⟩
  | _ => exact .inl ⟨rfl, rfl⟩
theorem calls_recovers {f : FuncId} {fn : Func} {rest : Code} {id : Nat} {d1 d2 : Nat} {t1 t2 : TypeId} {s1 s2 : String} {a1 a2 : Array Edge} {ats : Array TypeId} {vs : Array Value} {ρ0 : Env} {u : FrameMode} {h : Heap} {R : Ending → Heap → Prop}
    (hf : P.funcs[f]? = some fn) (hb : fn.body = some (.seq (.region id #[⟨some d1, .call { callee := .builtin .recover, args := #[], argTypes := ats }, t1, s1, a1, none⟩, ⟨some d2, .assign (.tmp d1), t2, s2, a2, none⟩] false) rest)) (hN : Nat.ble vs.size fn.ntmps = true)
    (h0 : ∀ s, vs.getD s undef = ρ0 s) (hd1 : Nat.blt d1 fn.ntmps = true) (hd2 : Nat.blt d2 fn.ntmps = true) (hx : X P fn.ntmps rest (upd (upd ρ0 d1 (recv u).1) d2 (recv u).1) h (bodyK P fn R)) :
    ∀ w, w.heap = h → CallsD P f vs u w (fun e u' w' => u' = (recv u).2 ∧ Same w w' ∧ R e w'.heap) := by
  intro w hw
  refine callsD_of_wpS hf hb fun c₀ cs hu => ?_
  have hN' : vs.size ≤ fn.ntmps := Nat.le_of_ble_eq_true hN
  have he : EnvOf fn.ntmps { tmps := vs ++ Array.replicate (fn.ntmps - vs.size) undef, defers := [] } ρ0 := by
    refine ⟨by simp; omega, fun s => ?_⟩
    rw [← h0 s]
    simp only [Array.getD_eq_getD_getElem?, Array.getElem?_append, Array.getElem?_replicate]
    by_cases e : s < vs.size
    · simp [e]
    · simp [e]; split <;> simp
  obtain ⟨a0, ha0⟩ : ∃ a : Act, a = { tmps := vs ++ Array.replicate (fn.ntmps - vs.size) undef, defers := [] } := ⟨_, rfl⟩
  rw [← ha0] at he ⊢
  have hdf : a0.defers = [] := by rw [ha0]
  have hK : ∀ (w' : World) (cs' : List Frame), Same w w' → w'.heap = h → cs' = { c₀ with mode := (recv u).2 } :: cs → rest.wpS P (bodyPostS P fn c₀ cs (fun e u' w' => u' = (recv u).2 ∧ Same w w' ∧ R e w'.heap)) ((a0.put (some d1) (recv u).1).put (some d2) (recv u).1) cs' w' := by
    intro w' cs' hs hh hcs
    refine wpS_of_wp (wp_mono (hx.out w ((a0.put (some d1) (recv u).1).put (some d2) (recv u).1) w' hs hh ((he.put hd1 _).put hd2 _)) ?_)
    rintro e a' w'' ⟨g1, g2, ρ', g3, g4⟩
    rw [put_defers, put_defers, hdf] at g1
    cases e with
    | normal => obtain ⟨v, hr, hR⟩ := g4; exact ⟨g1, _, hcs, v, hr w'' a' rfl g3, rfl, g2, hR⟩
    | ret => obtain ⟨v, hr, hR⟩ := g4; exact ⟨g1, _, hcs, v, hr w'' a' rfl g3, rfl, g2, hR⟩
    | panic c => exact ⟨g1, _, hcs, rfl, g2, g4⟩
    | _ => exact g4.elim
  refine wpS_seq (wpS_region ?_)
  have hrec : ∀ a : Act, (execOp a.eval ⟨some d1, .call { callee := .builtin .recover, args := #[], argTypes := ats }, t1, s1, a1, none⟩).run P w = .ok .recover w := fun a => by
    simp [execOp, resolve, invoke, builtin]
  have hasg : ∀ a : Act, (execOp a.eval ⟨some d2, .assign (.tmp d1), t2, s2, a2, none⟩).run P w = .ok (.value (a.eval (.tmp d1))) w := fun a => by
    simp [execOp]
  have hc : ({ c₀ with mode := u } : Frame) = c₀ := by subst hu; rfl
  have hput : (a0.put (some d1) (recv u).1).eval (.tmp d1) = (recv u).1 := by rw [(he.put hd1 _).eval]; exact upd_same _ _ _
  show wpOpsS P _ _ [0, 1] a0 (c₀ :: cs) w
  rcases recoverD_recv c₀ cs with ⟨e1, e2⟩ | e1
  · rw [hu] at e2
    have e3 : recv u = (.nilIface, u) := e2
    simp only [e3] at hput hK ⊢
    simp [wpOpsS, hrec, hasg, Region.wanted, e1, Oper.upon_value, hput, Exit.thenS]
    exact hK w _ (Same.refl w) hw (by rw [hc])
  · rw [hu] at e1
    simp [wpOpsS, hrec, hasg, Region.wanted, e1, Oper.upon_value, hput, Exit.thenS]
    exact hK w _ (Same.refl w) hw rfl
/-! a tail in which, at a panic, the frame is known -/
def PostF (w0 : World) (ds : List Deferred) (N : Nat) (K : Kont) : Exit → Act → World → Prop := fun e a' w' => a'.defers = ds ∧ Same w0 w' ∧ ∃ ρ', EnvOf N a' ρ' ∧ K e ρ' w'.heap
structure XF (P : Program) (N : Nat) (c : Code) (ρ : Env) (h : Heap) (K : Kont) : Prop where
  out : ∀ (w0 : World) (a : Act) (w : World), Same w0 w → w.heap = h → EnvOf N a ρ → c.wp P (PostF w0 a.defers N K) a w
structure XFO (P : Program) (N : Nat) (all : Array Oper) (l : List Oper) (ρ : Env) (h : Heap) (K : Kont) : Prop where
  out : ∀ (w0 : World) (a : Act) (w : World), Same w0 w → w.heap = h → EnvOf N a ρ → wpList P all (PostF w0 a.defers N K) l a w
section
variable {N : Nat} {ρ : Env} {h : Heap} {K : Kont}
theorem XF.seq {x y : Code} (hx : XF P N x ρ h (thn (fun ρ h => XF P N y ρ h K) K)) : XF P N (.seq x y) ρ h K := by
  refine ⟨fun w0 a w hs hh he => wp_seq (wp_mono (hx.out w0 a w hs hh he) ?_)⟩
  rintro e a' w' ⟨h1, h2, ρ', h3, h4⟩
  cases e with
  | normal => rw [← h1]; exact h4.out w0 a' w' h2 rfl h3
  | _ => exact ⟨h1, h2, ρ', h3, h4⟩
theorem XF.region {id : Nat} {l : List Oper} (hx : XFO P N l.toArray l ρ h K) : XF P N (.region id l.toArray false) ρ h K := ⟨fun w0 a w hs hh he => wp_region_lit (hx.out w0 a w hs hh he)⟩
theorem XFO.nil {all : Array Oper} (hk : K .normal ρ h) : XFO P N all [] ρ h K := ⟨fun _ _ _ hs hh he => wpList_nil ⟨rfl, hs, ρ, he, hh ▸ hk⟩⟩
theorem XFO.wr {all : Array Oper} {rest : List Oper} {op : Op} {d : Option Nat} {ty : TypeId} {pos : String} {af : Array Edge} {R : Value → Heap → Prop} {pk : List PanicEntry → Heap → Prop} (hd : dstOk N d = true)
    (hr : Wr P ρ h op ty R pk) (k : ∀ v h', R v h' → XFO P N all rest (updO ρ d v) h' K) (kp : ∀ c h', pk c h' → K (.panic c) ρ h') :
    XFO P N all (⟨d, op, ty, pos, af, none⟩ :: rest) ρ h K := by
  refine ⟨fun w0 a w hs hh he => ?_⟩
  refine wpList_plain rfl fun K' hK' => ?_
  refine hr.out d pos af none a w _ _ he.eval hh (fun v w' h2 h3 => hK' _ _ ?_) (fun c w' h2 h3 => ⟨rfl, hs.trans h2, ρ, he, kp c _ h3⟩)
  have := (k v _ h3).out w0 (a.put d v) w' (hs.trans h2) rfl (he.putO hd v)
  rwa [put_defers] at this
end
structure XFA (P : Program) (N : Nat) (c : Code) (ρ : Env) (σ : PH) (Γ : List HP) (K : KA) : Prop where
  out : ∀ f h, Holds σ Γ f h → XF P N c ρ h (KF f K)
structure XFOA (P : Program) (N : Nat) (all : Array Oper) (l : List Oper) (ρ : Env) (σ : PH) (Γ : List HP) (K : KA) : Prop where
  out : ∀ f h, Holds σ Γ f h → XFO P N all l ρ h (KF f K)
section
variable {N : Nat} {ρ : Env} {σ : PH} {Γ : List HP} {K : KA} {all : Array Oper} {rest : List Oper} {d : Nat} {ty : TypeId} {pos : String} {af : Array Edge}
theorem XFA.seq {x y : Code} (hx : XFA P N x ρ σ Γ (thnA (fun ρ σ Γ => XFA P N y ρ σ Γ K) K)) : XFA P N (.seq x y) ρ σ Γ K := by
  refine ⟨fun f h hh => XF.seq ⟨fun w0 a w hs hw he => wp_mono ((hx.out f h hh).out w0 a w hs hw he) ?_⟩⟩
  rintro e a' w' ⟨h1, h2, ρ', h3, σ', Γ', hk, hh'⟩
  refine ⟨h1, h2, ρ', h3, ?_⟩
  cases e with
  | normal => exact hk.out f _ hh'
  | _ => exact ⟨σ', Γ', hk, hh'⟩
theorem XFA.region {id : Nat} {l : List Oper} (hx : XFOA P N l.toArray l ρ σ Γ K) : XFA P N (.region id l.toArray false) ρ σ Γ K := ⟨fun f h hh => XF.region (hx.out f h hh)⟩
theorem XFOA.nil {all : Array Oper} (hk : K .normal ρ σ Γ) : XFOA P N all [] ρ σ Γ K := ⟨fun f h hh => XFO.nil ⟨σ, Γ, hk, hh⟩⟩
theorem XFOA.rd {op : Op} {v : Value} (hd : Nat.blt d N = true) (hr : Rd P ρ (Ho σ Γ) op ty v) (k : XFOA P N all rest (upd ρ d v) σ Γ K) : XFOA P N all (⟨some d, op, ty, pos, af, none⟩ :: rest) ρ σ Γ K :=
  ⟨fun f h hh => XFO.wr (d := some d) hd (Rd.wr ⟨fun d pos af g w hw => hr.out d pos af g w (hw ▸ hh.ho)⟩) (by rintro _ _ ⟨rfl, rfl⟩; exact k.out f _ hh) (fun _ _ h => h.elim)⟩
theorem XFOA.call {f : FuncId} {args : List Operand} {ats : Array TypeId} {vs : List Value} {R : Value → PH → List HP → Prop} {Γ0 Δ : List HP} (hd : Nat.blt d N = true) (hc : CallsA P f vs.toArray σ Γ0 (RetA R)) (hv : args.map (ev ρ) = vs) (he : Ent Γ (Γ0 ++ Δ))
    (k : ∀ v σ' Γ1, R v σ' Γ1 → XFOA P N all rest (upd ρ d v) σ' (Γ1 ++ Δ) K) : XFOA P N all (⟨some d, .call { callee := .value (.func f), args := args.toArray, argTypes := ats }, ty, pos, af, none⟩ :: rest) ρ σ Γ K :=
  ⟨fun fr h hh => XFO.wr (d := some d) hd ((WrA.call hc hv he).out fr h hh) (fun v h' ⟨σ', Γ', ⟨Γ1, a, e⟩, b⟩ => by subst e; exact (k v σ' Γ1 a).out fr h' b) (fun _ _ ⟨_, _, h, _⟩ => h.elim)⟩
theorem XFOA.die {f : FuncId} {args : List Operand} {ats : Array TypeId} {vs : List Value} {R : List PanicEntry → PH → List HP → Prop} {Γ0 Δ : List HP} (hd : Nat.blt d N = true) (hc : CallsA P f vs.toArray σ Γ0 (PanA R)) (hv : args.map (ev ρ) = vs) (he : Ent Γ (Γ0 ++ Δ))
    (k : ∀ c σ' Γ1, R c σ' Γ1 → K (.panic c) ρ σ' (Γ1 ++ Δ)) : XFOA P N all (⟨some d, .call { callee := .value (.func f), args := args.toArray, argTypes := ats }, ty, pos, af, none⟩ :: rest) ρ σ Γ K :=
  ⟨fun fr h hh => XFO.wr (d := some d) hd ((WrA.callG (first := []) (cap := []) rfl hc (by simpa using hv) he (fun _ _ h => h)).out fr h hh) (fun v h' ⟨_, _, ⟨_, a, _⟩, _⟩ => a.elim) (fun c h' ⟨σ', Γ', ⟨Γ1, a, e⟩, b⟩ => by subst e; exact ⟨σ', _, k c σ' Γ1 a, b⟩)⟩
end
/-! a function that defers a closure -/
/-- The function's end, what it deferred being done. -/
structure XT (P : Program) (fn : Func) (c : Code) (ρ : Env) (h : Heap) (R : Ending → Heap → Prop) : Prop where
  out : ∀ (w0 : World) (a : Act) (w : World), Same w0 w → w.heap = h → EnvOf fn.ntmps a ρ → a.defers = [] → c.wp P (bodyPostD P fn (fun e w' => Same w0 w' ∧ R e w'.heap)) a w
theorem XT.seq {fn : Func} {x y : Code} {ρ : Env} {h : Heap} {R : Ending → Heap → Prop} (hx : X P fn.ntmps x ρ h (thn (fun ρ h => XT P fn y ρ h R) (bodyK P fn R))) : XT P fn (.seq x y) ρ h R := by
  refine ⟨fun w0 a w hs hh he hd => wp_seq (wp_mono (hx.out w0 a w hs hh he) ?_)⟩
  rintro e a' w' ⟨h1, h2, ρ', h3, h4⟩
  rw [hd] at h1
  cases e with
  | normal => exact h4.out w0 a' w' h2 rfl h3 h1
  | ret =>
    obtain ⟨v, hr, hR⟩ := h4
    show Leaves P fn a'.tmps _ a'.defers .returning w'
    rw [h1]; exact ⟨v, hr w' a' rfl h3, h2, hR⟩
  | panic c =>
    show Leaves P fn a'.tmps _ a'.defers (.panicking c) w'
    rw [h1]; exact ⟨h2, h4⟩
  | _ => exact h4.elim
/-- What a deferred closure does at the end, and what is handed back then. -/
def dK (P : Program) (fn : Func) (f : FuncId) (caps : Array Value) (R : Ending → Heap → Prop) : Kont := fun e ρ h =>
  let go := fun (u : FrameMode) => ∀ w, w.heap = h → CallsD P f caps u w (fun e' u' w' => Same w w' ∧ (∃ v0, e' = .returned v0) ∧ settle u' = .returning ∧ ∃ v, Res P fn ρ w'.heap v ∧ R (.returned v) w'.heap)
  match e with
  | .normal | .ret => go .returning
  | .panic c => go (.panicking c)
  | _ => False
theorem leaves_one {fn : Func} {f : FuncId} {caps : Array Value} {R : Ending → Heap → Prop} {ρ : Env} {u : FrameMode} {a : Act} {w0 w : World} (hu : u ≠ .run) (hE : Enters P f) (hs : Same w0 w) (he : EnvOf fn.ntmps a ρ)
    (hc : CallsD P f caps u w (fun e' u' w' => Same w w' ∧ (∃ v0, e' = .returned v0) ∧ settle u' = .returning ∧ ∃ v, Res P fn ρ w'.heap v ∧ R (.returned v) w'.heap)) :
    Leaves P fn a.tmps (fun e w' => Same w0 w' ∧ R e w'.heap) [{ target := .fn (.func f) caps, args := #[] }] u w := by
  refine leaves_cons (f := f) (args := caps) hu ?_ (hc.mono ?_)
  · simp only [invoke]
    have := hE caps w
    simpa using this
  · rintro e u' w' ⟨h1, ⟨v0, rfl⟩, h2, v, h3, h4⟩
    show Leaves P fn a.tmps _ [] (settle u') w'
    rw [h2]
    exact ⟨v, h3 w' a rfl he, hs.trans h1, h4⟩
theorem XT.defer {fn : Func} {y : Code} {ρ : Env} {h : Heap} {R : Ending → Heap → Prop} {id t : Nat} {f : FuncId} {co : Array Operand} {caps : Array Value} {t1 t2 : TypeId} {s1 s2 : String} {a1 a2 : Array Edge} {ats : Array TypeId} (hE : Enters P f) (ht : Nat.blt t fn.ntmps = true) (hcap : co.map (ev ρ) = caps)
    (hx : XF P fn.ntmps y (upd ρ t (.func (.func f) #[] caps)) h (dK P fn f caps R)) :
    XT P fn (.seq (.region id #[⟨some t, .makeFunc (.func f) #[] co, t1, s1, a1, none⟩, ⟨none, .defer { callee := .value (.tmp t), args := #[], argTypes := ats }, t2, s2, a2, none⟩] false) y) ρ h R := by
  refine ⟨fun w0 a w hs hh he hd => wp_seq (wp_region_lit (l := [_, _]) ?_)⟩
  refine wpList_plain rfl fun K1 hK1 => ?_
  have hrun : (execOp a.eval ⟨some t, .makeFunc (.func f) #[] co, t1, s1, a1, none⟩).run P w = .ok (.value (.func (.func f) #[] caps)) w := by
    rw [he.eval]; simp [execOp, Instr.makeFunc, hcap]
  unfold Oper.wp
  rw [hrun, Oper.upon_value]
  refine hK1 _ _ ?_
  have he1 := he.put ht (.func (.func f) #[] caps)
  refine wpList_plain rfl fun K2 hK2 => ?_
  have hrun2 : (execOp (a.put (some t) (.func (.func f) #[] caps)).eval ⟨none, .defer { callee := .value (.tmp t), args := #[], argTypes := ats }, t2, s2, a2, none⟩).run P w = .ok (.defer { target := .fn (.func f) caps, args := #[] }) w := by
    rw [he1.eval]; simp [execOp, resolve, Deferred.ofValue, upd_same]
  unfold Oper.wp
  rw [hrun2, Oper.upon_defer]
  refine hK2 _ _ (wpList_nil ?_)
  obtain ⟨b, hb⟩ : ∃ b : Act, b = ({ (a.put (some t) (.func (.func f) #[] caps)) with defers := { target := .fn (.func f) caps, args := #[] } :: (a.put (some t) (.func (.func f) #[] caps)).defers } : Act).put none undef := ⟨_, rfl⟩
  rw [← hb]
  have hbe : EnvOf fn.ntmps b (upd ρ t (.func (.func f) #[] caps)) := by rw [hb]; exact ⟨he1.size, he1.get⟩
  have hbd : b.defers = [{ target := .fn (.func f) caps, args := #[] }] := by rw [hb]; show _ :: (a.put (some t) _).defers = _; rw [put_defers, hd]
  show y.wp P (bodyPostD P fn (fun e w' => Same w0 w' ∧ R e w'.heap)) b w
  refine wp_mono (hx.out w0 b w hs hh hbe) ?_
  rintro e a' w' ⟨h1, h2, ρ', h3, h4⟩
  rw [hbd] at h1
  cases e with
  | normal =>
    show Leaves P fn a'.tmps _ a'.defers .returning w'
    rw [h1]; exact leaves_one (by simp) hE h2 h3 (h4 w' rfl)
  | ret =>
    show Leaves P fn a'.tmps _ a'.defers .returning w'
    rw [h1]; exact leaves_one (by simp) hE h2 h3 (h4 w' rfl)
  | panic c =>
    show Leaves P fn a'.tmps _ a'.defers (.panicking c) w'
    rw [h1]; exact leaves_one (by simp) hE h2 h3 (h4 w' rfl)
  | _ => exact h4.elim
/-! the same over what is owned -/
theorem enterD {f : FuncId} {fn : Func} {c : Code} {vs : Array Value} {ρ0 : Env} {h : Heap} {R : Ending → Heap → Prop} (hf : P.funcs[f]? = some fn) (hb : fn.body = some c) (hn : goodName fn = true) (hN : Nat.ble vs.size fn.ntmps = true)
    (h0 : ∀ s, vs.getD s undef = ρ0 s) (hx : XT P fn c ρ0 h R) : CallsX P f vs h R := by
  refine ⟨enters hf hb hn, fun w hw => calls_of_wp_defers hf hb ?_⟩
  have hN' : vs.size ≤ fn.ntmps := Nat.le_of_ble_eq_true hN
  have he : EnvOf fn.ntmps { tmps := vs ++ Array.replicate (fn.ntmps - vs.size) undef, defers := [] } ρ0 := by
    refine ⟨by simp; omega, fun s => ?_⟩
    rw [← h0 s]
    simp only [Array.getD_eq_getD_getElem?, Array.getElem?_append, Array.getElem?_replicate]
    by_cases e : s < vs.size
    · simp [e]
    · simp [e]; split <;> simp
  exact hx.out w _ w (Same.refl w) hw he rfl
structure XTA (P : Program) (fn : Func) (c : Code) (ρ : Env) (σ : PH) (Γ : List HP) (R : Ending → PH → List HP → Prop) : Prop where
  out : ∀ f h, Holds σ Γ f h → XT P fn c ρ h (fun e h' => ∃ σ' Γ', R e σ' Γ' ∧ Holds σ' Γ' f h')
def CallsDA (P : Program) (f : FuncId) (vs : Array Value) (u : FrameMode) (σ : PH) (Γ : List HP) (R : FrameMode → PH → List HP → Prop) : Prop :=
  ∀ fr h, Holds σ Γ fr h → ∀ w, w.heap = h → CallsD P f vs u w (fun e' u' w' => Same w w' ∧ (∃ v0, e' = .returned v0) ∧ ∃ σ' Γ', R u' σ' Γ' ∧ Holds σ' Γ' fr w'.heap)
/-- What is given to the closure, and what is handed back behind it. -/
def dKA (P : Program) (fn : Func) (f : FuncId) (caps : Array Value) (R : Ending → PH → List HP → Prop) : KA := fun e ρ σ Γ =>
  let go := fun (u : FrameMode) => CallsDA P f caps u σ Γ (fun u' σ' Γ' => settle u' = .returning ∧ ∃ v, ResA P fn ρ σ' Γ' v ∧ ∃ Δ, Ent Γ' Δ ∧ R (.returned v) σ' Δ)
  match e with
  | .normal | .ret => go .returning
  | .panic c => go (.panicking c)
  | _ => False
section
variable {fn : Func} {ρ : Env} {σ : PH} {Γ : List HP} {RR : Ending → PH → List HP → Prop}
theorem XTA.seq {x y : Code} (hx : XA P fn.ntmps x ρ σ Γ (thnA (fun ρ σ Γ => XTA P fn y ρ σ Γ RR) (bodyA P fn RR))) : XTA P fn (.seq x y) ρ σ Γ RR := by
  refine ⟨fun f h hh => XT.seq (X.mono (hx.out f h hh) ?_)⟩
  rintro e ρ' h' ⟨σ', Γ', hk, hh'⟩
  cases e with
  | normal => exact hk.out f h' hh'
  | ret => obtain ⟨v, a, Δ, b, c⟩ := hk; exact ⟨v, a h' hh'.ho, σ', Δ, c, hh'.ent b⟩
  | panic c => exact ⟨σ', Γ', hk, hh'⟩
  | _ => exact hk.elim
theorem XTA.defer {y : Code} {id t : Nat} {f : FuncId} {co : Array Operand} {caps : Array Value} {t1 t2 : TypeId} {s1 s2 : String} {a1 a2 : Array Edge} {ats : Array TypeId} (hE : Enters P f) (ht : Nat.blt t fn.ntmps = true) (hcap : co.map (ev ρ) = caps)
    (hx : XFA P fn.ntmps y (upd ρ t (.func (.func f) #[] caps)) σ Γ (dKA P fn f caps RR)) :
    XTA P fn (.seq (.region id #[⟨some t, .makeFunc (.func f) #[] co, t1, s1, a1, none⟩, ⟨none, .defer { callee := .value (.tmp t), args := #[], argTypes := ats }, t2, s2, a2, none⟩] false) y) ρ σ Γ RR := by
  have key : ∀ (fr : PH) (ρ' : Env) (σ' : PH) (Γ' : List HP) (h' : Heap) (u : FrameMode), Holds σ' Γ' fr h' → CallsDA P f caps u σ' Γ' (fun u' σ' Γ' => settle u' = .returning ∧ ∃ v, ResA P fn ρ' σ' Γ' v ∧ ∃ Δ, Ent Γ' Δ ∧ RR (.returned v) σ' Δ) →
      ∀ w, w.heap = h' → CallsD P f caps u w (fun e' u' w' => Same w w' ∧ (∃ v0, e' = .returned v0) ∧ settle u' = .returning ∧ ∃ v, Res P fn ρ' w'.heap v ∧ ∃ σ' Γ', RR (.returned v) σ' Γ' ∧ Holds σ' Γ' fr w'.heap) := fun fr ρ' σ' Γ' h' u hh hc w hw =>
    (hc fr h' hh w hw).mono fun e' u' w' ⟨a, b, σ2, Γ2, ⟨c, v, d, Δ, i, j⟩, k⟩ => ⟨a, b, c, v, d _ k.ho, σ2, Δ, j, k.ent i⟩
  refine ⟨fun fr h hh => XT.defer hE ht hcap ⟨fun w0 a w hs hw he => wp_mono ((hx.out fr h hh).out w0 a w hs hw he) ?_⟩⟩
  rintro e a' w' ⟨g1, g2, ρ', g3, σ', Γ', hk, hh'⟩
  refine ⟨g1, g2, ρ', g3, ?_⟩
  generalize w'.heap = h' at hh' ⊢
  cases e with
  | normal => exact key fr ρ' σ' Γ' h' _ hh' hk
  | ret => exact key fr ρ' σ' Γ' h' _ hh' hk
  | panic c => exact key fr ρ' σ' Γ' h' _ hh' hk
  | _ => exact hk.elim
end
end
end X
end Go.Proofs.YthefnnkmpcgcmaaGreatDoor

namespace Go.Proofs
open Go.Shelf
def Tryz.laysM173_ren : Go.Shelf.Ren := ⟨fun | 173 => 51 | 246 => 74 | 283 => 87 | 284 => 88 | 285 => 89 | 286 => 90 | 129 => 97 | 317 => 96 | 318 => 98 | 319 => 99 | 320 => 100 | 337 => 102 | 338 => 103 | n => n, fun | 2 => 2 | 3 => 3 | 9 => 9 | 4 => 4 | 171 => 119 | 0 => 0 | 53 => 112 | 37 => 122 | 5 => 5 | 173 => 123 | 212 => 131 | 51 => 132 | 20 => 20 | 213 => 133 | 46 => 115 | 232 => 140 | 233 => 141 | n => n, fun | 17 => 2 | 18 => 3 | 19 => 4 | n => n⟩
theorem Tryz.laysM173 : Go.Proofs.LaysM.n173 Tryz.prog Tryz.laysM173_ren := {
  mixed := by kernel_rfl
  f129 := Tryz.func97.trans (congrArg some (by kernel_rfl))
  f173 := Tryz.func51.trans (congrArg some (by kernel_rfl))
  f246 := Tryz.func74.trans (congrArg some (by kernel_rfl))
  f283 := Tryz.func87.trans (congrArg some (by kernel_rfl))
  f284 := Tryz.func88.trans (congrArg some (by kernel_rfl))
  f285 := Tryz.func89.trans (congrArg some (by kernel_rfl))
  f286 := Tryz.func90.trans (congrArg some (by kernel_rfl))
  f317 := Tryz.func96.trans (congrArg some (by kernel_rfl))
  f318 := Tryz.func98.trans (congrArg some (by kernel_rfl))
  f319 := Tryz.func99.trans (congrArg some (by kernel_rfl))
  f320 := Tryz.func100.trans (congrArg some (by kernel_rfl))
  f337 := Tryz.func102.trans (congrArg some (by kernel_rfl))
  f338 := Tryz.func103.trans (congrArg some (by kernel_rfl))
  t0 := Tryz.underlying0
  a0 := Tryz.isAgg0
  z0 := Tryz.sizeOf0
  v0 := Tryz.zeroValue0
  t2 := Tryz.underlying2
  a2 := Tryz.isAgg2
  z2 := Tryz.sizeOf2
  v2 := Tryz.zeroValue2
  t3 := Tryz.underlying3
  a3 := Tryz.isAgg3
  z3 := Tryz.sizeOf3
  v3 := Tryz.zeroValue3
  t4 := Tryz.underlying4
  a4 := Tryz.isAgg4
  z4 := Tryz.sizeOf4
  v4 := Tryz.zeroValue4
  t5 := Tryz.underlying5
  a5 := Tryz.isAgg5
  z5 := Tryz.sizeOf5
  v5 := Tryz.zeroValue5
  t9 := Tryz.underlying9
  a9 := Tryz.isAgg9
  z9 := Tryz.sizeOf9
  v9 := Tryz.zeroValue9
  t20 := Tryz.underlying20
  a20 := Tryz.isAgg20
  z20 := Tryz.sizeOf20
  v20 := Tryz.zeroValue20
  t37 := Tryz.underlying122
  a37 := Tryz.isAgg122
  z37 := Tryz.sizeOf122
  v37 := Tryz.zeroValue122
  t46 := Tryz.underlying115
  a46 := Tryz.isAgg115
  z46 := Tryz.sizeOf115
  v46 := Tryz.zeroValue115
  t51 := Tryz.underlying132
  a51 := Tryz.isAgg132
  z51 := Tryz.sizeOf132
  v51 := Tryz.zeroValue132
  t53 := Tryz.underlying112
  a53 := Tryz.isAgg112
  z53 := Tryz.sizeOf112
  v53 := Tryz.zeroValue112
  t171 := Tryz.underlying119
  a171 := Tryz.isAgg119
  z171 := Tryz.sizeOf119
  v171 := Tryz.zeroValue119
  t173 := Tryz.underlying123
  a173 := Tryz.isAgg123
  z173 := Tryz.sizeOf123
  v173 := Tryz.zeroValue123
  t212 := Tryz.underlying131
  a212 := Tryz.isAgg131
  z212 := Tryz.sizeOf131
  v212 := Tryz.zeroValue131
  t213 := Tryz.underlying133
  a213 := Tryz.isAgg133
  z213 := Tryz.sizeOf133
  t232 := Tryz.underlying140
  a232 := Tryz.isAgg140
  z232 := Tryz.sizeOf140
  v232 := Tryz.zeroValue140
  t233 := Tryz.underlying141
  a233 := Tryz.isAgg141
  z233 := Tryz.sizeOf141
  v233 := Tryz.zeroValue141
  g17 := by kernel_rfl
  g18 := by kernel_rfl
  g19 := by kernel_rfl
  i0 := by kernel_rfl
  i2 := by kernel_rfl
  i3 := by kernel_rfl
  i4 := by kernel_rfl
  i5 := by kernel_rfl
  i9 := by kernel_rfl
  i20 := by kernel_rfl
  i37 := by kernel_rfl
  i46 := by kernel_rfl
  i51 := by kernel_rfl
  i53 := by kernel_rfl
  i171 := by kernel_rfl
  i173 := by kernel_rfl
  i212 := by kernel_rfl
  i232 := by kernel_rfl
  i233 := by kernel_rfl
  m17 := by kernel_rfl
  m18 := by kernel_rfl
  m19 := by kernel_rfl }
open Go.RowKit Go.Sort Go.Lib in
theorem Tryz.strconv_FormatInt_10 (n : Int) (h0 : -9223372036854775808 ≤ n) (h1 : n ≤ 9223372036854775807) (w : World) (htab : Lib.TabIs Tryz.prog w "internal/strconv.uint64pow10" .u64 Lib.pow10Tab) :
    Calls Tryz.prog 51 #[.int .i64 n, .int .i64 10] w fun e w' => e = .returned (.string ⟨(Lib.itoa n).toArray⟩) ∧ ∃ k os, w' = grow (w.drewN k) os := Any.strconv_FormatInt_10 Tryz.laysM173 n h0 h1 w htab
def Tryz.laysC174_ren : Go.Shelf.Ren := ⟨fun | 174 => 50 | 247 => 72 | 245 => 73 | 287 => 82 | 279 => 83 | 280 => 84 | 281 => 85 | 282 => 86 | 321 => 91 | 322 => 92 | 316 => 93 | 171 => 95 | 205 => 94 | 243 => 101 | 246 => 74 | 283 => 87 | 284 => 88 | 285 => 89 | 286 => 90 | 129 => 97 | 317 => 96 | 318 => 98 | 319 => 99 | 320 => 100 | 337 => 102 | 338 => 103 | n => n, fun | 9 => 9 | 3 => 3 | 2 => 2 | 75 => 94 | 85 => 95 | 4 => 4 | 167 => 111 | 5 => 5 | 53 => 112 | 175 => 113 | 46 => 115 | 168 => 116 | 37 => 122 | 0 => 0 | 210 => 128 | 21 => 21 | 127 => 135 | 145 => 138 | 143 => 136 | 171 => 119 | 173 => 123 | 212 => 131 | 51 => 132 | 20 => 20 | 213 => 133 | 232 => 140 | 233 => 141 | 80 => 56 | n => n, fun | 15 => 0 | 16 => 1 | 17 => 2 | 18 => 3 | 19 => 4 | n => n⟩
theorem Tryz.laysC174 : Go.Proofs.LaysC.n174 Tryz.prog Tryz.laysC174_ren := {
  mixed := by kernel_rfl
  f129 := Tryz.func97.trans (congrArg some (by kernel_rfl))
  f171 := Tryz.func95.trans (congrArg some (by kernel_rfl))
  f174 := Tryz.func50.trans (congrArg some (by kernel_rfl))
  f205 := Tryz.func94.trans (congrArg some (by kernel_rfl))
  f243 := Tryz.func101.trans (congrArg some (by kernel_rfl))
  f245 := Tryz.func73.trans (congrArg some (by kernel_rfl))
  f246 := Tryz.func74.trans (congrArg some (by kernel_rfl))
  f247 := Tryz.func72.trans (congrArg some (by kernel_rfl))
  f279 := Tryz.func83.trans (congrArg some (by kernel_rfl))
  f280 := Tryz.func84.trans (congrArg some (by kernel_rfl))
  f281 := Tryz.func85.trans (congrArg some (by kernel_rfl))
  f282 := Tryz.func86.trans (congrArg some (by kernel_rfl))
  f283 := Tryz.func87.trans (congrArg some (by kernel_rfl))
  f284 := Tryz.func88.trans (congrArg some (by kernel_rfl))
  f285 := Tryz.func89.trans (congrArg some (by kernel_rfl))
  f286 := Tryz.func90.trans (congrArg some (by kernel_rfl))
  f287 := Tryz.func82.trans (congrArg some (by kernel_rfl))
  f316 := Tryz.func93.trans (congrArg some (by kernel_rfl))
  f317 := Tryz.func96.trans (congrArg some (by kernel_rfl))
  f318 := Tryz.func98.trans (congrArg some (by kernel_rfl))
  f319 := Tryz.func99.trans (congrArg some (by kernel_rfl))
  f320 := Tryz.func100.trans (congrArg some (by kernel_rfl))
  f321 := Tryz.func91.trans (congrArg some (by kernel_rfl))
  f322 := Tryz.func92.trans (congrArg some (by kernel_rfl))
  f337 := Tryz.func102.trans (congrArg some (by kernel_rfl))
  f338 := Tryz.func103.trans (congrArg some (by kernel_rfl))
  t0 := Tryz.underlying0
  a0 := Tryz.isAgg0
  z0 := Tryz.sizeOf0
  v0 := Tryz.zeroValue0
  t2 := Tryz.underlying2
  a2 := Tryz.isAgg2
  z2 := Tryz.sizeOf2
  v2 := Tryz.zeroValue2
  t3 := Tryz.underlying3
  a3 := Tryz.isAgg3
  z3 := Tryz.sizeOf3
  v3 := Tryz.zeroValue3
  t4 := Tryz.underlying4
  a4 := Tryz.isAgg4
  z4 := Tryz.sizeOf4
  v4 := Tryz.zeroValue4
  t5 := Tryz.underlying5
  a5 := Tryz.isAgg5
  z5 := Tryz.sizeOf5
  v5 := Tryz.zeroValue5
  t9 := Tryz.underlying9
  a9 := Tryz.isAgg9
  z9 := Tryz.sizeOf9
  v9 := Tryz.zeroValue9
  t20 := Tryz.underlying20
  a20 := Tryz.isAgg20
  z20 := Tryz.sizeOf20
  v20 := Tryz.zeroValue20
  t21 := Tryz.underlying21
  a21 := Tryz.isAgg21
  z21 := Tryz.sizeOf21
  v21 := Tryz.zeroValue21
  t37 := Tryz.underlying122
  a37 := Tryz.isAgg122
  z37 := Tryz.sizeOf122
  v37 := Tryz.zeroValue122
  t46 := Tryz.underlying115
  a46 := Tryz.isAgg115
  z46 := Tryz.sizeOf115
  v46 := Tryz.zeroValue115
  t51 := Tryz.underlying132
  a51 := Tryz.isAgg132
  z51 := Tryz.sizeOf132
  v51 := Tryz.zeroValue132
  t53 := Tryz.underlying112
  a53 := Tryz.isAgg112
  z53 := Tryz.sizeOf112
  v53 := Tryz.zeroValue112
  t75 := Tryz.underlying94
  a75 := Tryz.isAgg94
  z75 := Tryz.sizeOf94
  v75 := Tryz.zeroValue94
  t85 := Tryz.underlying95
  a85 := Tryz.isAgg95
  z85 := Tryz.sizeOf95
  v85 := Tryz.zeroValue95
  t127 := Tryz.underlying135
  a127 := Tryz.isAgg135
  z127 := Tryz.sizeOf135
  v127 := Tryz.zeroValue135
  t143 := Tryz.underlying136
  a143 := Tryz.isAgg136
  z143 := Tryz.sizeOf136
  v143 := Tryz.zeroValue136
  t145 := Tryz.underlying138
  a145 := Tryz.isAgg138
  z145 := Tryz.sizeOf138
  v145 := Tryz.zeroValue138
  t167 := Tryz.underlying111
  a167 := Tryz.isAgg111
  z167 := Tryz.sizeOf111
  v167 := Tryz.zeroValue111
  t168 := Tryz.underlying116
  a168 := Tryz.isAgg116
  z168 := Tryz.sizeOf116
  v168 := Tryz.zeroValue116
  t171 := Tryz.underlying119
  a171 := Tryz.isAgg119
  z171 := Tryz.sizeOf119
  v171 := Tryz.zeroValue119
  t173 := Tryz.underlying123
  a173 := Tryz.isAgg123
  z173 := Tryz.sizeOf123
  v173 := Tryz.zeroValue123
  t175 := Tryz.underlying113
  a175 := Tryz.isAgg113
  z175 := Tryz.sizeOf113
  v175 := Tryz.zeroValue113
  t210 := Tryz.underlying128
  a210 := Tryz.isAgg128
  z210 := Tryz.sizeOf128
  v210 := Tryz.zeroValue128
  t212 := Tryz.underlying131
  a212 := Tryz.isAgg131
  z212 := Tryz.sizeOf131
  v212 := Tryz.zeroValue131
  t213 := Tryz.underlying133
  a213 := Tryz.isAgg133
  z213 := Tryz.sizeOf133
  t232 := Tryz.underlying140
  a232 := Tryz.isAgg140
  z232 := Tryz.sizeOf140
  v232 := Tryz.zeroValue140
  t233 := Tryz.underlying141
  a233 := Tryz.isAgg141
  z233 := Tryz.sizeOf141
  v233 := Tryz.zeroValue141
  g15 := by kernel_rfl
  g16 := by kernel_rfl
  g17 := by kernel_rfl
  g18 := by kernel_rfl
  g19 := by kernel_rfl
  t80 := Tryz.underlying56
  a80 := Tryz.isAgg56
  z80 := Tryz.sizeOf56
  v80 := Tryz.zeroValue56
  i0 := by kernel_rfl
  i2 := by kernel_rfl
  i3 := by kernel_rfl
  i4 := by kernel_rfl
  i5 := by kernel_rfl
  i9 := by kernel_rfl
  i20 := by kernel_rfl
  i21 := by kernel_rfl
  i37 := by kernel_rfl
  i46 := by kernel_rfl
  i51 := by kernel_rfl
  i53 := by kernel_rfl
  i75 := by kernel_rfl
  i80 := by kernel_rfl
  i85 := by kernel_rfl
  i127 := by kernel_rfl
  i143 := by kernel_rfl
  i145 := by kernel_rfl
  i167 := by kernel_rfl
  i168 := by kernel_rfl
  i171 := by kernel_rfl
  i173 := by kernel_rfl
  i175 := by kernel_rfl
  i210 := by kernel_rfl
  i212 := by kernel_rfl
  i232 := by kernel_rfl
  i233 := by kernel_rfl
  m15 := by kernel_rfl
  m16 := by kernel_rfl
  m17 := by kernel_rfl
  m18 := by kernel_rfl
  m19 := by kernel_rfl
  c0 := by kernel_rfl
  c2 := by kernel_rfl
  c3 := by kernel_rfl
  c4 := by kernel_rfl
  c5 := by kernel_rfl
  c9 := by kernel_rfl
  c20 := by kernel_rfl
  c21 := by kernel_rfl
  c37 := by kernel_rfl
  c46 := by kernel_rfl
  c51 := by kernel_rfl
  c53 := by kernel_rfl
  c75 := by kernel_rfl
  c80 := by kernel_rfl
  c85 := by kernel_rfl
  c127 := by kernel_rfl
  c143 := by kernel_rfl
  c145 := by kernel_rfl
  c167 := by kernel_rfl
  c168 := by kernel_rfl
  c171 := by kernel_rfl
  c173 := by kernel_rfl
  c175 := by kernel_rfl
  c210 := by kernel_rfl
  c212 := by kernel_rfl
  c213 := by kernel_rfl
  c232 := by kernel_rfl
  c233 := by kernel_rfl }
open Go.RowKit in
theorem Tryz.strconv_ParseInt_10_at64_ok (s : ByteArray) (hmax : s.size ≤ 9223372036854775806) (v : Int) (h : Lib.parseIntB 64 s.data.toList = .ok v) (w : World) :
    Calls Tryz.prog 50 #[.string s, .int .i64 10, .int .i64 64] w fun e w' => e = .returned (.tuple #[.int .i64 v, .nilIface]) ∧ (w' = w ∨ ∃ t, w' = Lib.bytesWorld w 5 t) := Any.strconv_ParseInt_10_at64_ok Tryz.laysC174 s hmax v h w
open Go.RowKit in
theorem Tryz.strconv_ParseInt_10_at64_syntax (s : ByteArray) (hlim : s.size ≤ 281474976710656) (h : Lib.parseIntB 64 s.data.toList = Lib.NumEnd.syntax) (ev : Value) (w : World) (hv : w.cell? ⟨0, 0, none⟩ = some ev) (hev : ev = .nilIface ∨ ∃ te pe, ev = .iface te pe) :
    Calls Tryz.prog 50 #[.string s, .int .i64 10, .int .i64 64] w fun e w' => ∃ N, e = .returned (.tuple #[.int .i64 (0), .iface 116 (.pointer (some ⟨N, 0, none⟩))]) ∧ w.heap.size ≤ N ∧ w'.heap[N]? = some (.cells #[.string ⟨#[80, 97, 114, 115, 101, 73, 110, 116]⟩, .string s, ev] 128 (0, 0)) ∧ Below w.heap.size w w' := Any.strconv_ParseInt_10_at64_syntax Tryz.laysC174 s hlim h ev w hv hev
open Go.RowKit in
theorem Tryz.strconv_ParseInt_10_at64_range (s : ByteArray) (hlim : s.size ≤ 281474976710656) (h : Lib.parseIntB 64 s.data.toList = .range) (ev : Value) (w : World) (hv : w.cell? ⟨1, 0, none⟩ = some ev) (hev : ev = .nilIface ∨ ∃ te pe, ev = .iface te pe) :
    Calls Tryz.prog 50 #[.string s, .int .i64 10, .int .i64 64] w fun e w' => ∃ N, e = .returned (.tuple #[.int .i64 (Lib.intSat 64 s.data.toList), .iface 116 (.pointer (some ⟨N, 0, none⟩))]) ∧ w.heap.size ≤ N ∧ w'.heap[N]? = some (.cells #[.string ⟨#[80, 97, 114, 115, 101, 73, 110, 116]⟩, .string s, ev] 128 (0, 0)) ∧ Below w.heap.size w w' := Any.strconv_ParseInt_10_at64_range Tryz.laysC174 s hlim h ev w hv hev
end Go.Proofs

namespace Go.Proofs.YthefnnkmpcgcmaaGreatDoor
open Go X
set_option maxHeartbeats 1000000
section
variable {P : Program} {σ f : PH} {Γ : List HP} {h h' : Heap}
/-- New blocks change nothing of what is known. -/
theorem X.Holds.grown (x : Holds σ Γ f h) (hb : ∀ k, k < h.size → h'[k]? = h[k]?) : Holds σ Γ f h' := by
  obtain ⟨m, a, b, c, d, e⟩ := x
  have hl : ∀ {n : PH}, n.le h → n.le h' := fun hn k o e => by rw [hb k (hn.lt e)]; exact hn k o e
  exact ⟨m, a, hl b, hl c, hl d, e⟩
theorem X.CallsA.below {fid : FuncId} {vs : Array Value} {R : Value → Prop} (he : Enters P fid) (hc : ∀ w : World, σ.le w.heap → Calls P fid vs w (fun e w' => ∃ v, e = .returned v ∧ R v ∧ RowKit.Below w.heap.size w w')) : CallsA P fid vs σ [] (RetA fun v σ' Γ' => R v ∧ σ = σ' ∧ Γ' = []) := by
  refine ⟨he, fun fr h hh => ⟨he, fun w hw => ?_⟩⟩
  subst hw
  refine (hc w hh.per).mono ?_
  rintro e w' ⟨v, rfl, hr, hb⟩
  exact ⟨⟨hb.os, hb.tape, hb.output⟩, σ, [], ⟨hr, rfl, rfl⟩, hh.grown hb.block⟩
end
theorem X.ResA.ctT {P : Program} {ρ : Env} {σ : PH} {Γ : List HP} {fn : Func} {t1 t3 : Tmp} {T1 : TypeId} {g1 o1 : Nat} {v1 v3 : Value} (hf : fn.results = #[.cell t1 T1, .tmp t3]) (h1 : ρ t1 = .pointer (some ⟨g1, o1, Option.none⟩)) (h3 : ρ t3 = v3)
    (l1 : ∀ h, Ho σ Γ h → Ld P h T1 g1 o1 v1) : ResA P fn ρ σ Γ (.tuple #[v1, v3]) := fun h hh w a hw he => by
  have e1 := he.get t1; rw [h1] at e1; simp at e1
  have e3 := he.get t3; rw [h3] at e3; simp at e3
  simp [results, hf, e1, e3, asAddr, l1 h hh w hw]
theorem X.ResA.tcT {P : Program} {ρ : Env} {σ : PH} {Γ : List HP} {fn : Func} {t1 t3 : Tmp} {T1 : TypeId} {g1 o1 : Nat} {v1 v3 : Value} (hf : fn.results = #[.tmp t3, .cell t1 T1]) (h1 : ρ t1 = .pointer (some ⟨g1, o1, Option.none⟩)) (h3 : ρ t3 = v3)
    (l1 : ∀ h, Ho σ Γ h → Ld P h T1 g1 o1 v1) : ResA P fn ρ σ Γ (.tuple #[v3, v1]) := fun h hh w a hw he => by
  have e1 := he.get t1; rw [h1] at e1; simp at e1
  have e3 := he.get t3; rw [h3] at e3; simp at e3
  simp [results, hf, e1, e3, asAddr, l1 h hh w hw]
theorem X.ResA.cellT {P : Program} {ρ : Env} {σ : PH} {Γ : List HP} {fn : Func} {t1 : Tmp} {T1 : TypeId} {g1 o1 : Nat} {v1 : Value} (hf : fn.results = #[.cell t1 T1]) (h1 : ρ t1 = .pointer (some ⟨g1, o1, Option.none⟩)) (l1 : ∀ h, Ho σ Γ h → Ld P h T1 g1 o1 v1) : ResA P fn ρ σ Γ v1 := ResA.cell hf h1 l1
/-- The numbers' table stands. -/
def Tab (σ : PH) : Prop := ∀ w : World, σ.le w.heap → Lib.TabIs Tryz.prog w "internal/strconv.uint64pow10" .u64 Lib.pow10Tab
/-- The two errors stand. -/
def Errs (σ : PH) : Prop := ∃ e1 e2, PRow σ 0 0 [e1] ∧ (e1 = .nilIface ∨ ∃ te pe, e1 = .iface te pe) ∧ PRow σ 1 0 [e2] ∧ (e2 = .nilIface ∨ ∃ te pe, e2 = .iface te pe)
theorem Tab.mono {σ σ' : PH} (h : Tab σ) (s : σ.sub σ') : Tab σ' := fun w hw => h w (s.le hw)
theorem Errs.mono {σ σ' : PH} (h : Errs σ) (s : σ.sub σ') : Errs σ' := by
  obtain ⟨e1, e2, h1, h2, h3, h4⟩ := h
  exact ⟨e1, e2, h1.mono s, h2, h3.mono s, h4⟩
def itoaS (n : Int) : ByteArray := ⟨(Lib.itoa n).toArray⟩
theorem grow_below (w : World) (q : Nat) (os : Array Obj) : RowKit.Below w.heap.size w (Sort.grow (w.drewN q) os) :=
  ⟨rfl, rfl, rfl, by first | (simp [Sort.grow]; done) | (simp [Sort.grow]; omega), fun i hi => by
    show ((w.drewN q).heap ++ os)[i]? = _
    rw [Array.getElem?_append_left (by show i < w.heap.size; omega)]
    rfl⟩
theorem itoa_a (σ : PH) (n : Int) (h0 : -9223372036854775808 ≤ n) (h1 : n ≤ 9223372036854775807) (hT : Tab σ) :
    CallsA Tryz.prog 51 #[i64 n, i64 10] σ [] (RetA fun v σ' Γ' => v = .string (itoaS n) ∧ σ = σ' ∧ Γ' = []) := by
  refine CallsA.below (enters Tryz.func51 rfl rfl) fun w hw => ?_
  refine (Tryz.strconv_FormatInt_10 n h0 h1 w (hT w hw)).mono ?_
  rintro e w' ⟨rfl, k, os, rfl⟩
  exact ⟨_, rfl, rfl, grow_below w k os⟩
theorem bytes_below (w : World) (e : TypeId) (s : ByteArray) : RowKit.Below w.heap.size w (Lib.bytesWorld w e s) := by
  refine ⟨rfl, rfl, rfl, ?_, fun k hk => Lib.bytesWorld_at_old w e s k hk⟩
  simp [Lib.bytesWorld, World.freeze, World.alloc, World.drew, -World.alloc_eq, -World.drew_eq]
/-- What ParseInt says. -/
def numIs (s : ByteArray) (v : Value) : Prop := (∃ n, Lib.parseIntB 64 s.data.toList = .ok n ∧ v = .tuple #[i64 n, .nilIface]) ∨ ((∀ n, Lib.parseIntB 64 s.data.toList ≠ .ok n) ∧ ∃ n a, v = .tuple #[i64 n, .iface 116 (.pointer (some a))])
theorem cell_row {σ : PH} {w : World} (hw : σ.le w.heap) {g : Nat} {v : Value} (h : PRow σ g 0 [v]) : w.cell? ⟨g, 0, none⟩ = some v := by
  obtain ⟨l, T, fr, a, b⟩ := h.row hw
  have h0 : l[0]? = some v := by
    have := congrArg (·[0]?) b
    simpa using this
  simp [World.cell?, a, h0]
theorem parse_a (σ : PH) (s : ByteArray) (hs : s.size ≤ 100000000) (hE : Errs σ) :
    CallsA Tryz.prog 50 #[.string s, i64 10, i64 64] σ [] (RetA fun v σ' Γ' => numIs s v ∧ σ = σ' ∧ Γ' = []) := by
  obtain ⟨e1, e2, r1, q1, r2, q2⟩ := hE
  refine CallsA.below (enters Tryz.func50 rfl rfl) fun w hw => ?_
  cases h : Lib.parseIntB 64 s.data.toList
  · rename_i n
    refine (Tryz.strconv_ParseInt_10_at64_ok s (by omega) n h w).mono ?_
    rintro e w' ⟨rfl, hw'⟩
    refine ⟨_, rfl, .inl ⟨n, h, rfl⟩, ?_⟩
    rcases hw' with rfl | ⟨t, rfl⟩
    · exact .refl _ _
    · exact bytes_below w _ t
  · refine (Tryz.strconv_ParseInt_10_at64_syntax s (by omega) h e1 w (cell_row hw r1) q1).mono ?_
    rintro e w' ⟨N, rfl, -, -, hb⟩
    exact ⟨_, rfl, .inr ⟨fun n => (by rw [h]; intro x; cases x), _, _, rfl⟩, hb⟩
  · refine (Tryz.strconv_ParseInt_10_at64_range s (by omega) h e2 w (cell_row hw r2) q2).mono ?_
    rintro e w' ⟨N, rfl, -, -, hb⟩
    exact ⟨_, rfl, .inr ⟨fun n => (by rw [h]; intro x; cases x), _, _, rfl⟩, hb⟩
/-- A number of 64 bits, as short as can be. -/
def longOf (s : ByteArray) : Option Int := match Lib.parseIntB 64 s.data.toList with
  | .ok n => if itoaS n = s then some n else none
  | _ => none
theorem err_if : ∃ ms, Tryz.prog.underlying 94 = some (.interface ms) := by
  obtain ⟨dd, ii, zz, e1, e2, -⟩ := tyOf_spec (P := Tryz.prog) (T := 94) (tyrow rfl)
  cases dd <;> simp [kindOf, ty94] at e2
  exact ⟨_, e1⟩
theorem longOf_ok {s : ByteArray} {n : Int} (h : Lib.parseIntB 64 s.data.toList = .ok n) : longOf s = if itoaS n = s then some n else none := by rw [longOf, h]
theorem longOf_bad {s : ByteArray} (h : ∀ n, Lib.parseIntB 64 s.data.toList ≠ .ok n) : longOf s = none := by
  rw [longOf]
  split
  · rename_i n hn; exact absurd hn (h n)
  · rfl
theorem parse_bounds {n : Int} {l : List UInt8} (h : Lib.parseIntB 64 l = .ok n) : -9223372036854775808 ≤ n ∧ n ≤ 9223372036854775807 := by
  have := Lib.parseIntB_bounds (B := 64) h
  have e : ((2 ^ (64 - 1) : Nat) : Int) = 9223372036854775808 := by decide
  rw [e] at this
  omega
section
variable {P : Program} {ρ : Env} {S : Heap → Prop} {ty : TypeId}
theorem X.Rd.sliceStr {T : TypeId} {x y z : Operand} {r : Ty} {s : ByteArray} {i j : Int} (hT : tyOf P T = some r) (hk : r.k = .string) (hx : ev ρ x = .string s) (hy : ev ρ y = i64 i) (hz : ev ρ z = i64 j) (h : 0 ≤ i ∧ i ≤ j ∧ j ≤ s.size) : Rd P ρ S (.slice T x (some y) (some z) none) ty (.string (s.extract i.toNat j.toNat)) := by
  refine .pure fun d pos af gd w => ?_
  obtain ⟨dd, ii, zz, e1, e2, -⟩ := tyOf_spec hT
  rw [hk] at e2
  cases dd <;> simp [kindOf] at e2
  have := run_slice_string (P := P) w T s .i64 .i64 i j e1 h.1 h.2.1 h.2.2
  have h2 := run_sliceAt_string (P := P) w T (.string s) (some (i64 i)) (some (i64 j)) none e1
  rw [this] at h2
  simp [execOp, hx, hy, hz, h2]
theorem X.Rd.sliceS {T : TypeId} {x y z : Operand} {r : Ty} {s t : ByteArray} {i j : Int} (hT : tyOf P T = some r) (hk : r.k = .string) (hx : ev ρ x = .string s) (hy : ev ρ y = i64 i) (hz : ev ρ z = i64 j) (h : 0 ≤ i ∧ i ≤ j ∧ j ≤ s.size) (ht : s.extract i.toNat j.toNat = t) : Rd P ρ S (.slice T x (some y) (some z) none) ty (.string t) := ht ▸ Rd.sliceStr hT hk hx hy hz h
end
end Go.Proofs.YthefnnkmpcgcmaaGreatDoor

namespace Go.Proofs.YthefnnkmpcgcmaaGreatDoor
open Go X
set_option maxHeartbeats 1000000
def letterB (c : Nat) : Bool := decide (97 ≤ c ∧ c ≤ 122)
def digitB (c : Nat) : Bool := decide (48 ≤ c ∧ c ≤ 57)
def blankB (c : Nat) : Bool := decide (c = 32 ∨ c = 9 ∨ c = 10 ∨ c = 13)
def runN (p : Nat → Bool) (s : ByteArray) : Nat → Nat → Nat
  | 0, _ => 0
  | f + 1, i => if i < s.size ∧ p (byteAt s i) = true then runN p s f (i + 1) + 1 else 0
/-- How many bytes from a place on are such. -/
def runB (p : Nat → Bool) (s : ByteArray) (i : Nat) : Nat := runN p s (s.size - i) i
theorem runB_eq (p : Nat → Bool) (s : ByteArray) (i : Nat) : runB p s i = if i < s.size ∧ p (byteAt s i) = true then runB p s (i + 1) + 1 else 0 := by
  unfold runB
  by_cases h : i < s.size
  · obtain ⟨k, hk⟩ : ∃ k, s.size - i = k + 1 := ⟨s.size - i - 1, by omega⟩
    rw [hk, runN, show s.size - (i + 1) = k by omega]
  · rw [show s.size - i = 0 by omega, if_neg (fun q => h q.1)]; rfl
theorem runN_le (p : Nat → Bool) (s : ByteArray) : ∀ (f i : Nat), runN p s f i ≤ f
  | 0, _ => Nat.le_refl _
  | f + 1, i => by
    rw [runN]; split
    · have := runN_le p s f (i + 1); omega
    · omega
theorem runB_le (p : Nat → Bool) (s : ByteArray) {i : Nat} (h : i ≤ s.size) : i + runB p s i ≤ s.size := by
  have := runN_le p s (s.size - i) i
  unfold runB; omega
theorem runB_end {p : Nat → Bool} {s : ByteArray} {i : Nat} (h : ¬ (i < s.size ∧ p (byteAt s i) = true)) : runB p s i = 0 := by rw [runB_eq, if_neg h]
section
variable {P : Program} {ρ : Env} {S : Heap → Prop} {ty : TypeId}
theorem X.Rd.ixStr {T : TypeId} {x y : Operand} {r : Ty} {s : ByteArray} {j : Int} {n : Nat} {kk : IntKind} (hT : tyOf P T = some r) (hk : r.k = .string) (hx : ev ρ x = .string s) (hy : ev ρ y = .int kk j) (hn : j = n) (hi : n < s.size) : Rd P ρ S (.index T x y) ty (.int .u8 (byteAt s n)) := by
  subst hn; exact Rd.indexStr hT hk hx hy hi
end
theorem letter_t (σ : PH) (c : Nat) (_ : c < 256) : CallsA Tryz.prog 48 #[.int .u8 c] σ [] (RetA fun v σ' Γ' => v = .bool (letterB c) ∧ σ = σ' ∧ Γ' = []) := by
  by_cases h1 : 97 ≤ c
  · refine enterA1 Tryz.func48 rfl rfl rfl ?_
    refine zS (zR (zO rfl Rd.asg ?_)); refine zN (zT (zS (zR (zA rfl ?_)))); refine zO rfl (Rd.geq rfl rfl) ?_; refine zA rfl ?_
    first | (refine zG ?_; refine zA rfl ?_) | refine zH ?_
    first | (refine zG ?_; refine zO rfl (Rd.leq rfl rfl) ?_) | refine zH ?_
    refine zO rfl zP ?_; refine zO rfl Rd.asg ?_; refine zN (zT (XA.ret ?_))
    refine bodyA.ret (ResA.one rfl rfl) (Ent.nil _) ⟨?_, rfl, rfl⟩
    exact congrArg Value.bool (decide_eq_decide.2 (by omega))
  · refine enterA1 Tryz.func48 rfl rfl rfl ?_
    refine zS (zR (zO rfl Rd.asg ?_)); refine zN (zT (zS (zR (zA rfl ?_)))); refine zO rfl (Rd.geq rfl rfl) ?_; refine zA rfl ?_
    first | (refine zG ?_; refine zA rfl ?_) | refine zH ?_
    first | (refine zG ?_; refine zO rfl (Rd.leq rfl rfl) ?_) | refine zH ?_
    refine zO rfl zP ?_; refine zO rfl Rd.asg ?_; refine zN (zT (XA.ret ?_))
    refine bodyA.ret (ResA.one rfl rfl) (Ent.nil _) ⟨?_, rfl, rfl⟩
    exact congrArg Value.bool (decide_eq_false (by omega)).symm
theorem digit_t (σ : PH) (c : Nat) (_ : c < 256) : CallsA Tryz.prog 49 #[.int .u8 c] σ [] (RetA fun v σ' Γ' => v = .bool (digitB c) ∧ σ = σ' ∧ Γ' = []) := by
  by_cases h1 : 48 ≤ c
  · refine enterA1 Tryz.func49 rfl rfl rfl ?_
    refine zS (zR (zO rfl Rd.asg ?_)); refine zN (zT (zS (zR (zA rfl ?_)))); refine zO rfl (Rd.geq rfl rfl) ?_; refine zA rfl ?_
    first | (refine zG ?_; refine zA rfl ?_) | refine zH ?_
    first | (refine zG ?_; refine zO rfl (Rd.leq rfl rfl) ?_) | refine zH ?_
    refine zO rfl zP ?_; refine zO rfl Rd.asg ?_; refine zN (zT (XA.ret ?_))
    refine bodyA.ret (ResA.one rfl rfl) (Ent.nil _) ⟨?_, rfl, rfl⟩
    exact congrArg Value.bool (decide_eq_decide.2 (by omega))
  · refine enterA1 Tryz.func49 rfl rfl rfl ?_
    refine zS (zR (zO rfl Rd.asg ?_)); refine zN (zT (zS (zR (zA rfl ?_)))); refine zO rfl (Rd.geq rfl rfl) ?_; refine zA rfl ?_
    first | (refine zG ?_; refine zA rfl ?_) | refine zH ?_
    first | (refine zG ?_; refine zO rfl (Rd.leq rfl rfl) ?_) | refine zH ?_
    refine zO rfl zP ?_; refine zO rfl Rd.asg ?_; refine zN (zT (XA.ret ?_))
    refine bodyA.ret (ResA.one rfl rfl) (Ent.nil _) ⟨?_, rfl, rfl⟩
    exact congrArg Value.bool (decide_eq_false (by omega)).symm
theorem rletter_t (σ : PH) (c : Nat) (_ : c < 256) : CallsA Tryz.prog 35 #[.int .u8 c] σ [] (RetA fun v σ' Γ' => v = .bool (letterB c) ∧ σ = σ' ∧ Γ' = []) := by
  by_cases h1 : 97 ≤ c
  · refine enterA1 Tryz.func35 rfl rfl rfl ?_
    refine zS (zR (zO rfl Rd.asg ?_)); refine zN (zT (zS (zR (zA rfl ?_)))); refine zO rfl (Rd.geq rfl rfl) ?_; refine zA rfl ?_
    first | (refine zG ?_; refine zA rfl ?_) | refine zH ?_
    first | (refine zG ?_; refine zO rfl (Rd.leq rfl rfl) ?_) | refine zH ?_
    refine zO rfl zP ?_; refine zO rfl Rd.asg ?_; refine zN (zT (XA.ret ?_))
    refine bodyA.ret (ResA.one rfl rfl) (Ent.nil _) ⟨?_, rfl, rfl⟩
    exact congrArg Value.bool (decide_eq_decide.2 (by omega))
  · refine enterA1 Tryz.func35 rfl rfl rfl ?_
    refine zS (zR (zO rfl Rd.asg ?_)); refine zN (zT (zS (zR (zA rfl ?_)))); refine zO rfl (Rd.geq rfl rfl) ?_; refine zA rfl ?_
    first | (refine zG ?_; refine zA rfl ?_) | refine zH ?_
    first | (refine zG ?_; refine zO rfl (Rd.leq rfl rfl) ?_) | refine zH ?_
    refine zO rfl zP ?_; refine zO rfl Rd.asg ?_; refine zN (zT (XA.ret ?_))
    refine bodyA.ret (ResA.one rfl rfl) (Ent.nil _) ⟨?_, rfl, rfl⟩
    exact congrArg Value.bool (decide_eq_false (by omega)).symm
theorem rdigit_t (σ : PH) (c : Nat) (_ : c < 256) : CallsA Tryz.prog 36 #[.int .u8 c] σ [] (RetA fun v σ' Γ' => v = .bool (digitB c) ∧ σ = σ' ∧ Γ' = []) := by
  by_cases h1 : 48 ≤ c
  · refine enterA1 Tryz.func36 rfl rfl rfl ?_
    refine zS (zR (zO rfl Rd.asg ?_)); refine zN (zT (zS (zR (zA rfl ?_)))); refine zO rfl (Rd.geq rfl rfl) ?_; refine zA rfl ?_
    first | (refine zG ?_; refine zA rfl ?_) | refine zH ?_
    first | (refine zG ?_; refine zO rfl (Rd.leq rfl rfl) ?_) | refine zH ?_
    refine zO rfl zP ?_; refine zO rfl Rd.asg ?_; refine zN (zT (XA.ret ?_))
    refine bodyA.ret (ResA.one rfl rfl) (Ent.nil _) ⟨?_, rfl, rfl⟩
    exact congrArg Value.bool (decide_eq_decide.2 (by omega))
  · refine enterA1 Tryz.func36 rfl rfl rfl ?_
    refine zS (zR (zO rfl Rd.asg ?_)); refine zN (zT (zS (zR (zA rfl ?_)))); refine zO rfl (Rd.geq rfl rfl) ?_; refine zA rfl ?_
    first | (refine zG ?_; refine zA rfl ?_) | refine zH ?_
    first | (refine zG ?_; refine zO rfl (Rd.leq rfl rfl) ?_) | refine zH ?_
    refine zO rfl zP ?_; refine zO rfl Rd.asg ?_; refine zN (zT (XA.ret ?_))
    refine bodyA.ret (ResA.one rfl rfl) (Ent.nil _) ⟨?_, rfl, rfl⟩
    exact congrArg Value.bool (decide_eq_false (by omega)).symm
theorem blank_t (σ : PH) (c : Nat) (_ : c < 256) : CallsA Tryz.prog 27 #[.int .u8 c] σ [] (RetA fun v σ' Γ' => v = .bool (blankB c) ∧ σ = σ' ∧ Γ' = []) := by
  by_cases h1 : c = 32
  · subst h1
    refine enterA1 Tryz.func27 rfl rfl rfl ?_
    refine zS (zR (zO rfl Rd.asg ?_)); refine zN (zT (zS (zR (zA rfl ?_)))); refine zO rfl (Rd.eql rfl rfl) ?_; refine zA rfl ?_
    first | (refine zG ?_; refine zA rfl ?_) | refine zH ?_
    first | (refine zG ?_; refine zO rfl (Rd.eql rfl rfl) ?_) | refine zH ?_
    refine zO rfl zP ?_; refine zA rfl ?_
    first | (refine zG ?_; refine zA rfl ?_) | refine zH ?_
    first | (refine zG ?_; refine zO rfl (Rd.eql rfl rfl) ?_) | refine zH ?_
    refine zO rfl zP ?_; refine zA rfl ?_
    first | (refine zG ?_; refine zA rfl ?_) | refine zH ?_
    first | (refine zG ?_; refine zO rfl (Rd.eql rfl rfl) ?_) | refine zH ?_
    refine zO rfl zP ?_; refine zO rfl Rd.asg ?_; refine zN (zT (XA.ret ?_))
    exact bodyA.ret (ResA.one rfl rfl) (Ent.nil _) ⟨rfl, rfl, rfl⟩
  by_cases h2 : c = 9
  · subst h2
    refine enterA1 Tryz.func27 rfl rfl rfl ?_
    refine zS (zR (zO rfl Rd.asg ?_)); refine zN (zT (zS (zR (zA rfl ?_)))); refine zO rfl (Rd.eql rfl rfl) ?_; refine zA rfl ?_
    first | (refine zG ?_; refine zA rfl ?_) | refine zH ?_
    first | (refine zG ?_; refine zO rfl (Rd.eql rfl rfl) ?_) | refine zH ?_
    refine zO rfl zP ?_; refine zA rfl ?_
    first | (refine zG ?_; refine zA rfl ?_) | refine zH ?_
    first | (refine zG ?_; refine zO rfl (Rd.eql rfl rfl) ?_) | refine zH ?_
    refine zO rfl zP ?_; refine zA rfl ?_
    first | (refine zG ?_; refine zA rfl ?_) | refine zH ?_
    first | (refine zG ?_; refine zO rfl (Rd.eql rfl rfl) ?_) | refine zH ?_
    refine zO rfl zP ?_; refine zO rfl Rd.asg ?_; refine zN (zT (XA.ret ?_))
    exact bodyA.ret (ResA.one rfl rfl) (Ent.nil _) ⟨rfl, rfl, rfl⟩
  by_cases h3 : c = 10
  · subst h3
    refine enterA1 Tryz.func27 rfl rfl rfl ?_
    refine zS (zR (zO rfl Rd.asg ?_)); refine zN (zT (zS (zR (zA rfl ?_)))); refine zO rfl (Rd.eql rfl rfl) ?_; refine zA rfl ?_
    first | (refine zG ?_; refine zA rfl ?_) | refine zH ?_
    first | (refine zG ?_; refine zO rfl (Rd.eql rfl rfl) ?_) | refine zH ?_
    refine zO rfl zP ?_; refine zA rfl ?_
    first | (refine zG ?_; refine zA rfl ?_) | refine zH ?_
    first | (refine zG ?_; refine zO rfl (Rd.eql rfl rfl) ?_) | refine zH ?_
    refine zO rfl zP ?_; refine zA rfl ?_
    first | (refine zG ?_; refine zA rfl ?_) | refine zH ?_
    first | (refine zG ?_; refine zO rfl (Rd.eql rfl rfl) ?_) | refine zH ?_
    refine zO rfl zP ?_; refine zO rfl Rd.asg ?_; refine zN (zT (XA.ret ?_))
    exact bodyA.ret (ResA.one rfl rfl) (Ent.nil _) ⟨rfl, rfl, rfl⟩
  refine enterA1 Tryz.func27 rfl rfl rfl ?_
  refine zS (zR (zO rfl Rd.asg ?_)); refine zN (zT (zS (zR (zA rfl ?_)))); refine zO rfl (Rd.eql rfl rfl) ?_; refine zA rfl ?_
  first | (refine zG ?_; refine zA rfl ?_) | refine zH ?_
  first | (refine zG ?_; refine zO rfl (Rd.eql rfl rfl) ?_) | refine zH ?_
  refine zO rfl zP ?_; refine zA rfl ?_
  first | (refine zG ?_; refine zA rfl ?_) | refine zH ?_
  first | (refine zG ?_; refine zO rfl (Rd.eql rfl rfl) ?_) | refine zH ?_
  refine zO rfl zP ?_; refine zA rfl ?_
  first | (refine zG ?_; refine zA rfl ?_) | refine zH ?_
  first | (refine zG ?_; refine zO rfl (Rd.eql rfl rfl) ?_) | refine zH ?_
  refine zO rfl zP ?_; refine zO rfl Rd.asg ?_; refine zN (zT (XA.ret ?_))
  refine bodyA.ret (ResA.one rfl rfl) (Ent.nil _) ⟨?_, rfl, rfl⟩
  exact congrArg Value.bool (decide_eq_decide.2 (by omega))
/-- What a function of a byte says. -/
def Byte (f : FuncId) (p : Nat → Bool) : Prop := ∀ (σ : PH) (c : Nat), c < 256 → CallsA Tryz.prog f #[.int .u8 c] σ [] (RetA fun v σ' Γ' => v = .bool (p c) ∧ σ = σ' ∧ Γ' = [])
theorem run_t (σ : PH) (s : ByteArray) (i : Nat) (f : FuncId) (p : Nat → Bool) (hp : Byte f p) (hi : i ≤ s.size) (hs : s.size ≤ 100000000) :
    CallsA Tryz.prog 26 #[.string s, i64 i, .func (.func f) #[] #[]] σ [] (RetA fun v σ' Γ' => v = i64 (runB p s i) ∧ σ = σ' ∧ Γ' = []) := by
  refine enterA3 Tryz.func26 rfl rfl rfl ?_
  refine zS (zR (zO rfl Rd.asg ?_)); refine zN (zT (zS (zR (zO rfl Rd.asg ?_)))); refine zN (zT (zS (XA.block ?_)))
  refine XA.gen [(0, _), (1, _), (2, _), (6, _), (7, _)] ⟨(by with_reducible (conv => lhs; whnf)), (by with_reducible (conv => lhs; whnf)), (by with_reducible (conv => lhs; whnf)), (by with_reducible (conv => lhs; whnf)), (by with_reducible (conv => lhs; whnf)), trivial⟩ (fun δ => ?_)
  dsimp only [List.foldl]
  refine XA.loop [(7, 24)] (fun k : Nat => [(7, i64 k)]) (fun k σ' Γ' => σ = σ' ∧ i + k ≤ s.size ∧ runB p s i = runB p s (i + k) + k ∧ Γ' = []) (fun k => s.size - (i + k)) 0 (by exact ⟨rfl, trivial⟩) (Δ0 := _) ?_ (⟨rfl, hi, rfl, rfl⟩) ?_
  · exact zE
  rintro k δ _ _ ⟨rfl, hk, hall, rfl⟩
  dsimp only [ovr, List.foldl]
  have hk : i + k ≤ s.size := hk
  have hall : runB p s i = runB p s (i + k) + k := hall
  by_cases hlt : i + k < s.size
  · have hc := hp σ (byteAt s (i + k)) (byteAt_lt _ _)
    rw [runB_eq p s (i + k)] at hall
    cases hq : p (byteAt s (i + k)) with
    | true =>
      rw [hq] at hc
      rw [if_pos ⟨hlt, hq⟩] at hall
      refine zS (zS (zR (zA rfl ?_))); refine zA rfl ?_; refine zO rfl zI ?_; refine zA rfl ?_; refine zO rfl (Rd.lenString (tyrow rfl) rfl rfl) ?_; refine zO rfl (Rd.lss rfl rfl) ?_; refine zA rfl ?_
      first | (refine zG ?_; refine zA rfl ?_) | refine zH ?_
      first | (refine zG ?_; refine zA rfl ?_) | refine zH ?_
      first | (refine zG ?_; refine zA rfl ?_) | refine zH ?_
      first | (refine zG ?_; refine zA rfl ?_) | refine zH ?_
      first | (refine zG ?_; refine zO rfl zI ?_) | refine zH ?_
      first | refine XOA.wanted rfl rfl ?_ | refine XOA.wq rfl rfl ?_
      refine zO rfl (Rd.ixStr (n := i + k) (tyrow rfl) rfl rfl rfl (by omega) hlt) ?_
      first | refine XOA.wanted rfl rfl ?_ | refine XOA.wq rfl rfl ?_
      refine XOA.wr0 rfl (WrA.cV (first := []) (cap := []) rfl (hc) rfl) ?_
      rintro _ _ _ ⟨_, ⟨rfl, rfl, rfl⟩, rfl⟩
      refine XOA.cl ?_; refine zO rfl zP ?_; refine zN (zT (XA.condT rfl rfl (XA.skip (zT (XA.block (zR (zA rfl ?_))))))); refine zO rfl zI ?_; refine zO rfl Rd.asg ?_; refine zN (DA.inb_normal (zT ?_))
      refine ⟨(Keep.upd (Keep.upd (Keep.upd (Keep.upd (Keep.updO (Keep.upd (Keep.upd (Keep.upd (Keep.upd (Keep.upd (Keep.upd (Keep.upd (Keep.upd (Keep.upd (Keep.upd (Keep.upd (Keep.upd (Keep.upd (Keep.upd (Keep.hav (Keep.refl _ _) rfl) rfl) rfl) rfl) rfl) rfl) rfl) rfl) rfl) rfl) rfl) rfl) rfl) rfl) rfl) rfl) rfl) rfl) rfl) rfl), k + 1, _, zM, ?_, ⟨rfl, by show i + (k + 1) ≤ s.size; omega, by show runB p s i = runB p s (i + (k + 1)) + (k + 1); rw [show i + k + 1 = i + (k + 1) by omega] at hall; omega, rfl⟩, (by omega)⟩
      · exact zE
    | false =>
      rw [hq] at hc
      rw [if_neg (fun x => by rw [hq] at x; exact Bool.noConfusion x.2)] at hall
      refine zS (zS (zR (zA rfl ?_))); refine zA rfl ?_; refine zO rfl zI ?_; refine zA rfl ?_; refine zO rfl (Rd.lenString (tyrow rfl) rfl rfl) ?_; refine zO rfl (Rd.lss rfl rfl) ?_; refine zA rfl ?_
      first | (refine zG ?_; refine zA rfl ?_) | refine zH ?_
      first | (refine zG ?_; refine zA rfl ?_) | refine zH ?_
      first | (refine zG ?_; refine zA rfl ?_) | refine zH ?_
      first | (refine zG ?_; refine zA rfl ?_) | refine zH ?_
      first | (refine zG ?_; refine zO rfl zI ?_) | refine zH ?_
      first | refine XOA.wanted rfl rfl ?_ | refine XOA.wq rfl rfl ?_
      refine zO rfl (Rd.ixStr (n := i + k) (tyrow rfl) rfl rfl rfl (by omega) hlt) ?_
      first | refine XOA.wanted rfl rfl ?_ | refine XOA.wq rfl rfl ?_
      refine XOA.wr0 rfl (WrA.cV (first := []) (cap := []) rfl (hc) rfl) ?_
      rintro _ _ _ ⟨_, ⟨rfl, rfl, rfl⟩, rfl⟩
      refine XOA.cl ?_; refine zO rfl zP ?_; refine zN (zT (XA.condF rfl rfl (XA.exit (DA.thn_exit (DA.thn_exit (DA.inb_same (zT (zS (zR (zA rfl ?_)))))))))); refine zO rfl Rd.asg ?_; refine zN (zT (XA.ret ?_))
      rw [Nat.zero_add] at hall
      rw [hall]
      exact bodyA.ret (ResA.one rfl rfl) (Ent.nil _) ⟨rfl, rfl, rfl⟩
  · rw [runB_end (fun x => hlt x.1), Nat.zero_add] at hall
    refine zS (zS (zR (zA rfl ?_))); refine zA rfl ?_; refine zO rfl zI ?_; refine zA rfl ?_; refine zO rfl (Rd.lenString (tyrow rfl) rfl rfl) ?_; refine zO rfl (Rd.lss rfl rfl) ?_; refine zA rfl ?_
    first | (refine zG ?_; refine zA rfl ?_) | refine zH ?_
    first | (refine zG ?_; refine zA rfl ?_) | refine zH ?_
    first | (refine zG ?_; refine zA rfl ?_) | refine zH ?_
    first | (refine zG ?_; refine zA rfl ?_) | refine zH ?_
    first | (refine zG ?_; refine zO rfl zI ?_) | refine zH ?_
    first | refine zH ?_
    first | refine zH ?_
    refine zO rfl zP ?_; refine zN (zT (XA.condF rfl (by first | rfl | exact decide_eq_false (by omega)) ?_)); refine XA.exit (DA.thn_exit (DA.thn_exit (DA.inb_same (zT (zS (zR (zA rfl ?_))))))); refine zO rfl Rd.asg ?_; refine zN (zT (XA.ret ?_))
    rw [hall]
    exact bodyA.ret (ResA.one rfl rfl) (Ent.nil _) ⟨rfl, rfl, rfl⟩
end Go.Proofs.YthefnnkmpcgcmaaGreatDoor

namespace Go.Proofs.YthefnnkmpcgcmaaGreatDoor
open Go X
set_option maxHeartbeats 2000000
structure Tk where
  at_ : Nat
  text : ByteArray
  num : Bool
  n : Int
def oneT (s : ByteArray) (i : Nat) : Option Tk :=
  if byteAt s i = 40 ∨ byteAt s i = 41 then some ⟨i, s.extract i (i + 1), false, 0⟩
  else if letterB (byteAt s i) = true then some ⟨i, s.extract i (i + runB letterB s i), false, 0⟩
  else if digitB (byteAt s i) = true ∨ byteAt s i = 45 then
    (longOf (s.extract i (i + 1 + runB digitB s (i + 1)))).map fun n => ⟨i, s.extract i (i + 1 + runB digitB s (i + 1)), true, n⟩
  else none
def tkC (t : Tk) : List Value := [i64 t.at_, .string t.text, .bool t.num, i64 t.n]
def oneC (o : Option Tk) : Value := match o with
  | some t => .tuple #[.agg (tkC t).toArray, i64 0]
  | none => .tuple #[.agg #[i64 0, .string ByteArray.empty, .bool false, i64 0], i64 7]
theorem one_tok (σ : PH) (s : ByteArray) (i : Nat) (hi : i < s.size) (hs : s.size ≤ 100000000) (hT : Tab σ) (hE : Errs σ) :
    CallsA Tryz.prog 28 #[.string s, i64 i] σ [] (RetA fun v σ' Γ' => v = oneC (oneT s i) ∧ σ = σ' ∧ Γ' = []) := by
  have hb := byteAt_lt s i
  by_cases h1 : byteAt s i = 40
  · have e : oneT s i = some ⟨i, s.extract i (i + 1), false, 0⟩ := by rw [oneT, if_pos (.inl h1)]
    rw [e]
    refine enterA2 Tryz.func28 rfl rfl rfl ?_
    refine zS (zR ?_)
    refine XOA.wr0 rfl (WrA.alloc (tyrow rfl)) ?_
    rintro _ _ _ ⟨g4, rfl, rfl, rfl⟩
    refine zO rfl Rd.asg ?_; refine zN (zT (zS (zR (zA rfl ?_)))); refine zA rfl ?_
    refine zO rfl (Rd.indexStr (tyrow rfl) rfl rfl rfl (by first | omega | decide | (simp; omega))) ?_
    refine zO rfl Rd.asg ?_; refine zN (zT (zS (XA.block (zS (zR (zA rfl ?_)))))); refine zO rfl (Rd.eql rfl rfl) ?_; refine zA rfl ?_
    first | (refine zG ?_; refine zA rfl ?_) | refine zH ?_
    first | (refine zG ?_; refine zO rfl (Rd.eql rfl rfl) ?_) | refine zH ?_
    refine zO rfl zP ?_; refine zO rfl Rd.asg ?_; refine zN (zT (XA.condT rfl (by first | rfl | exact decide_eq_true (by omega)) ?_)); refine zS (zR (zA rfl ?_)); refine zA rfl ?_; refine zA rfl ?_; refine zA rfl ?_; refine zO rfl zI ?_
    refine zO rfl (Rd.sliceStr (tyrow rfl) rfl rfl rfl rfl (by omega)) ?_
    refine zO rfl (Rd.bl (fun _ _ => tyrow) rfl rfl rfl) ?_
    refine XOA.wr0 rfl (WrA.st (tyrow rfl) rfl) ?_
    rintro _ _ _ ⟨rfl, rfl, rfl⟩
    refine zO rfl Rd.asg ?_; refine zN (zT (XA.ret (DA.inb_ret (DA.thn_ret ?_))))
    exact bodyA.ret (ResA.ctT rfl rfl rfl (Ld.atBlk (tyrow rfl) rfl zL rfl (by first | exact take0 (by first | rfl | assumption | (refine (ints_len _).trans ?_; assumption) | (simp [*]; (first | done | fail))) | assumption | exact take_app (by first | rfl | assumption | (refine (ints_len _).trans ?_; assumption) | (simp [*]; (first | done | fail))) | (conv => lhs; simp only [List.drop_succ_cons, List.drop_zero, List.take_succ_cons, List.take_zero])) (by first | rfl | assumption | (refine (ints_len _).trans ?_; assumption) | (simp [*]; (first | done | fail))))) (Ent.nil _) ⟨rfl, rfl, rfl⟩
  by_cases h2 : byteAt s i = 41
  · have e : oneT s i = some ⟨i, s.extract i (i + 1), false, 0⟩ := by rw [oneT, if_pos (.inr h2)]
    rw [e]
    refine enterA2 Tryz.func28 rfl rfl rfl ?_
    refine zS (zR ?_)
    refine XOA.wr0 rfl (WrA.alloc (tyrow rfl)) ?_
    rintro _ _ _ ⟨g4, rfl, rfl, rfl⟩
    refine zO rfl Rd.asg ?_; refine zN (zT (zS (zR (zA rfl ?_)))); refine zA rfl ?_
    refine zO rfl (Rd.indexStr (tyrow rfl) rfl rfl rfl (by first | omega | decide | (simp; omega))) ?_
    refine zO rfl Rd.asg ?_; refine zN (zT (zS (XA.block (zS (zR (zA rfl ?_)))))); refine zO rfl (Rd.eql rfl rfl) ?_; refine zA rfl ?_
    first | (refine zG ?_; refine zA rfl ?_) | refine zH ?_
    first | (refine zG ?_; refine zO rfl (Rd.eql rfl rfl) ?_) | refine zH ?_
    refine zO rfl zP ?_; refine zO rfl Rd.asg ?_; refine zN (zT (XA.condT rfl (by first | rfl | exact decide_eq_true (by omega)) ?_)); refine zS (zR (zA rfl ?_)); refine zA rfl ?_; refine zA rfl ?_; refine zA rfl ?_; refine zO rfl zI ?_
    refine zO rfl (Rd.sliceStr (tyrow rfl) rfl rfl rfl rfl (by omega)) ?_
    refine zO rfl (Rd.bl (fun _ _ => tyrow) rfl rfl rfl) ?_
    refine XOA.wr0 rfl (WrA.st (tyrow rfl) rfl) ?_
    rintro _ _ _ ⟨rfl, rfl, rfl⟩
    refine zO rfl Rd.asg ?_; refine zN (zT (XA.ret (DA.inb_ret (DA.thn_ret ?_))))
    exact bodyA.ret (ResA.ctT rfl rfl rfl (Ld.atBlk (tyrow rfl) rfl zL rfl (by first | exact take0 (by first | rfl | assumption | (refine (ints_len _).trans ?_; assumption) | (simp [*]; (first | done | fail))) | assumption | exact take_app (by first | rfl | assumption | (refine (ints_len _).trans ?_; assumption) | (simp [*]; (first | done | fail))) | (conv => lhs; simp only [List.drop_succ_cons, List.drop_zero, List.take_succ_cons, List.take_zero])) (by first | rfl | assumption | (refine (ints_len _).trans ?_; assumption) | (simp [*]; (first | done | fail))))) (Ent.nil _) ⟨rfl, rfl, rfl⟩
  have h12 : ¬ (byteAt s i = 40 ∨ byteAt s i = 41) := by omega
  have hlet := letter_t σ (byteAt s i) hb
  have hle1 := runB_le letterB s (i := i) (by omega)
  have hle2 := runB_le digitB s (i := i + 1) (by omega)
  have hdig := digit_t σ (byteAt s i) hb
  have hrl := run_t σ s i 48 letterB letter_t (by omega) hs
  have hrd := run_t σ s (i + 1) 49 digitB digit_t (by omega) hs
  refine enterA2 Tryz.func28 rfl rfl rfl ?_
  refine zS (zR ?_)
  refine XOA.wr0 rfl (WrA.alloc (tyrow rfl)) ?_
  rintro _ _ _ ⟨g4, rfl, rfl, rfl⟩
  refine zO rfl Rd.asg ?_; refine zN (zT (zS (zR (zA rfl ?_)))); refine zA rfl ?_
  refine zO rfl (Rd.indexStr (tyrow rfl) rfl rfl rfl (by first | omega | decide | (simp; omega))) ?_
  refine zO rfl Rd.asg ?_; refine zN (zT (zS (XA.block (zS (zR (zA rfl ?_)))))); refine zO rfl (Rd.eql rfl rfl) ?_; refine zA rfl ?_
  first | (refine zG ?_; refine zA rfl ?_) | refine zH ?_
  first | (refine zG ?_; refine zO rfl (Rd.eql rfl rfl) ?_) | refine zH ?_
  refine zO rfl zP ?_; refine zO rfl Rd.asg ?_; refine zN (zT (XA.condF rfl (by first | rfl | exact decide_eq_false (by omega)) ?_)); refine zS (zR (zA rfl ?_))
  cases hl : letterB (byteAt s i) with
  | true =>
    have e : oneT s i = some ⟨i, s.extract i (i + runB letterB s i), false, 0⟩ := by rw [oneT, if_neg h12, if_pos hl]
    rw [e]
    rw [hl] at hlet
    refine XOA.wr0 rfl (WrA.cE (hlet) rfl) ?_
    rintro _ _ _ ⟨_, ⟨rfl, rfl, rfl⟩, rfl⟩
    refine XOA.cl ?_; refine zO rfl Rd.asg ?_; refine zN (zT (XA.condT rfl rfl (zS (zR (zA rfl ?_))))); refine zA rfl ?_; refine zA rfl ?_; refine zA rfl ?_; refine zA rfl ?_; refine zA rfl ?_
    refine XOA.wr0 rfl (WrA.cE (hrl) rfl) ?_
    rintro _ _ _ ⟨_, ⟨rfl, rfl, rfl⟩, rfl⟩
    refine XOA.cl ?_; refine zO rfl zI ?_; refine zO rfl (Rd.sliceStr (tyrow rfl) rfl rfl rfl rfl (by omega)) ?_
    refine zO rfl (Rd.bl (fun _ _ => tyrow) rfl rfl rfl) ?_
    refine XOA.wr0 rfl (WrA.st (tyrow rfl) rfl) ?_
    rintro _ _ _ ⟨rfl, rfl, rfl⟩
    refine zO rfl Rd.asg ?_; refine zN (zT (XA.ret (DA.inb_ret (DA.thn_ret ?_))))
    exact bodyA.ret (ResA.ctT rfl rfl rfl (Ld.atBlk (tyrow rfl) rfl zL rfl (by first | exact take0 (by first | rfl | assumption | (refine (ints_len _).trans ?_; assumption) | (simp [*]; (first | done | fail))) | assumption | exact take_app (by first | rfl | assumption | (refine (ints_len _).trans ?_; assumption) | (simp [*]; (first | done | fail))) | (conv => lhs; simp only [List.drop_succ_cons, List.drop_zero, List.take_succ_cons, List.take_zero])) (by first | rfl | assumption | (refine (ints_len _).trans ?_; assumption) | (simp [*]; (first | done | fail))))) (Ent.nil _) ⟨rfl, rfl, rfl⟩
  | false =>
    have hl' : ¬ letterB (byteAt s i) = true := by rw [hl]; exact Bool.noConfusion
    rw [hl] at hlet
    by_cases hd : digitB (byteAt s i) = true ∨ byteAt s i = 45
    · have e : oneT s i = (longOf (s.extract i (i + 1 + runB digitB s (i + 1)))).map fun n => ⟨i, s.extract i (i + 1 + runB digitB s (i + 1)), true, n⟩ := by rw [oneT, if_neg h12, if_neg hl', if_pos hd]
      obtain ⟨tx, htx⟩ : ∃ tx, tx = s.extract i (i + 1 + runB digitB s (i + 1)) := ⟨_, rfl⟩
      have htx2 : s.extract (i : Int).toNat (((i : Int) + 1) + (runB digitB s (i + 1) : Nat)).toNat = tx := by rw [htx]; congr 1 <;> omega
      rw [← htx] at e
      rw [e]
      have htz : tx.size ≤ 100000000 := by rw [htx, ByteArray.size_extract]; omega
      have hpar := parse_a σ tx htz hE
      cases hq : digitB (byteAt s i) with
      | true =>
        rw [hq] at hdig
        refine XOA.wr0 rfl (WrA.cE (hlet) rfl) ?_
        rintro _ _ _ ⟨_, ⟨rfl, rfl, rfl⟩, rfl⟩
        refine XOA.cl ?_; refine zO rfl Rd.asg ?_; refine zN (zT (XA.condF rfl rfl (zS (zR (zA rfl ?_)))))
        refine XOA.wr0 rfl (WrA.cE (hdig) rfl) ?_
        rintro _ _ _ ⟨_, ⟨rfl, rfl, rfl⟩, rfl⟩
        refine XOA.cl ?_; refine zO rfl zJ ?_; refine zA rfl ?_
        first | (refine zG ?_; refine zA rfl ?_) | refine zH ?_
        first | (refine zG ?_; refine zO rfl (Rd.neq rfl rfl) ?_) | refine zH ?_
        refine zO rfl zP ?_; refine zO rfl Rd.asg ?_; refine zN (zT (XA.condF rfl rfl (XA.skip (DA.inb_normal (zT (zS (zR (zA rfl ?_)))))))); refine zA rfl ?_; refine zA rfl ?_; refine zO rfl zI ?_; refine zA rfl ?_; refine zA rfl ?_; refine zO rfl zI ?_
        refine XOA.wr0 rfl (WrA.cE (hrd) rfl) ?_
        rintro _ _ _ ⟨_, ⟨rfl, rfl, rfl⟩, rfl⟩
        refine XOA.cl ?_; refine zO rfl zI ?_; refine zO rfl (Rd.sliceS (tyrow rfl) rfl rfl rfl rfl (by omega) htx2) ?_; refine zO rfl Rd.asg ?_; refine zN (zT (zS (zR (zA rfl ?_))))
        refine XOA.wr0 rfl (WrA.cE (hpar) rfl) ?_
        rintro v _ _ ⟨_, ⟨hnum, rfl, rfl⟩, rfl⟩
        refine XOA.cl ?_
        rcases hnum with ⟨n, hn, rfl⟩ | ⟨hno, n, a, rfl⟩
        · obtain ⟨hn0, hn1⟩ := parse_bounds hn
          rw [longOf_ok hn]
          refine zA rfl ?_; refine zO rfl (Rd.extract rfl rfl) ?_; refine zO rfl (Rd.extract rfl rfl) ?_; refine zO rfl Rd.asg ?_; refine zO rfl Rd.asg ?_; refine zN (zT (zS (zS (zR (zA rfl ?_))))); refine zO rfl (Rd.neqIfF err_if.choose_spec rfl) ?_; refine zA rfl ?_
          first | (refine zG ?_; refine zA rfl ?_) | refine zH ?_
          first | refine XOA.wanted rfl rfl ?_ | refine XOA.wq rfl rfl ?_
          refine XOA.wr0 rfl (WrA.cE (itoa_a σ n hn0 hn1 hT) rfl) ?_
          rintro _ _ _ ⟨_, ⟨rfl, rfl, rfl⟩, rfl⟩
          refine XOA.cl ?_
          first | (refine zG ?_; refine zA rfl ?_) | refine zH ?_
          first | (refine zG ?_; refine zO rfl (Rd.neqs rfl rfl) ?_) | refine zH ?_
          refine zO rfl zP ?_; refine zN (zT ?_)
          by_cases hq : itoaS n = tx
          · have hq' : ¬ (itoaS n ≠ tx) := fun h => h hq
            rw [if_pos hq]
            refine XA.condF rfl (by first | rfl | exact decide_eq_false hq') ?_; refine XA.skip (zT (zS (zR (zA rfl ?_)))); refine zA rfl ?_; refine zA rfl ?_
            refine zO rfl (Rd.bl (fun _ _ => tyrow) rfl rfl rfl) ?_
            refine XOA.wr0 rfl (WrA.st (tyrow rfl) rfl) ?_
            rintro _ _ _ ⟨rfl, rfl, rfl⟩
            refine zO rfl Rd.asg ?_; refine zN (zT (XA.ret ?_))
            exact bodyA.ret (ResA.ctT rfl rfl rfl (Ld.atBlk (tyrow rfl) rfl zL rfl (by first | exact take0 (by first | rfl | assumption | (refine (ints_len _).trans ?_; assumption) | (simp [*]; (first | done | fail))) | assumption | exact take_app (by first | rfl | assumption | (refine (ints_len _).trans ?_; assumption) | (simp [*]; (first | done | fail))) | (conv => lhs; simp only [List.drop_succ_cons, List.drop_zero, List.take_succ_cons, List.take_zero])) (by first | rfl | assumption | (refine (ints_len _).trans ?_; assumption) | (simp [*]; (first | done | fail))))) (Ent.nil _) ⟨rfl, rfl, rfl⟩
          · rw [if_neg hq]
            refine XA.condT rfl (by first | rfl | exact decide_eq_true hq) ?_; refine zS (zR ?_)
            refine zO rfl (Rd.bl (fun _ _ => tyrow) rfl rfl rfl) ?_
            refine XOA.wr0 rfl (WrA.st (tyrow rfl) rfl) ?_
            rintro _ _ _ ⟨rfl, rfl, rfl⟩
            refine zO rfl Rd.asg ?_; refine zN (zT (XA.ret (DA.thn_ret ?_)))
            exact bodyA.ret (ResA.ctT rfl rfl rfl (Ld.atBlk (tyrow rfl) rfl zL rfl (by first | exact take0 (by first | rfl | assumption | (refine (ints_len _).trans ?_; assumption) | (simp [*]; (first | done | fail))) | assumption | exact take_app (by first | rfl | assumption | (refine (ints_len _).trans ?_; assumption) | (simp [*]; (first | done | fail))) | (conv => lhs; simp only [List.drop_succ_cons, List.drop_zero, List.take_succ_cons, List.take_zero])) (by first | rfl | assumption | (refine (ints_len _).trans ?_; assumption) | (simp [*]; (first | done | fail))))) (Ent.nil _) ⟨rfl, rfl, rfl⟩
        · rw [longOf_bad hno]
          refine zA rfl ?_; refine zO rfl (Rd.extract rfl rfl) ?_; refine zO rfl (Rd.extract rfl rfl) ?_; refine zO rfl Rd.asg ?_; refine zO rfl Rd.asg ?_; refine zN (zT (zS (zS (zR (zA rfl ?_))))); refine zO rfl (Rd.neqIfT err_if.choose_spec rfl) ?_; refine zA rfl ?_
          first | (refine zG ?_; refine zA rfl ?_) | refine zH ?_
          first | refine zH ?_
          first | (refine zG ?_; refine zA rfl ?_) | refine zH ?_
          first | (refine zG ?_; refine zO rfl (Rd.neqs rfl rfl) ?_) | refine zH ?_
          refine zO rfl zP ?_; refine zN (zT (XA.condT rfl rfl (zS (zR ?_))))
          refine zO rfl (Rd.bl (fun _ _ => tyrow) rfl rfl rfl) ?_
          refine XOA.wr0 rfl (WrA.st (tyrow rfl) rfl) ?_
          rintro _ _ _ ⟨rfl, rfl, rfl⟩
          refine zO rfl Rd.asg ?_; refine zN (zT (XA.ret (DA.thn_ret ?_)))
          exact bodyA.ret (ResA.ctT rfl rfl rfl (Ld.atBlk (tyrow rfl) rfl zL rfl (by first | exact take0 (by first | rfl | assumption | (refine (ints_len _).trans ?_; assumption) | (simp [*]; (first | done | fail))) | assumption | exact take_app (by first | rfl | assumption | (refine (ints_len _).trans ?_; assumption) | (simp [*]; (first | done | fail))) | (conv => lhs; simp only [List.drop_succ_cons, List.drop_zero, List.take_succ_cons, List.take_zero])) (by first | rfl | assumption | (refine (ints_len _).trans ?_; assumption) | (simp [*]; (first | done | fail))))) (Ent.nil _) ⟨rfl, rfl, rfl⟩

      | false =>
        have h45 : byteAt s i = 45 := hd.resolve_left (by rw [hq]; exact Bool.noConfusion)
        have h45' : ¬ ((byteAt s i : Int) ≠ 45) := by omega
        rw [hq] at hdig
        refine XOA.wr0 rfl (WrA.cE (hlet) rfl) ?_
        rintro _ _ _ ⟨_, ⟨rfl, rfl, rfl⟩, rfl⟩
        refine XOA.cl ?_; refine zO rfl Rd.asg ?_; refine zN (zT (XA.condF rfl rfl (zS (zR (zA rfl ?_)))))
        refine XOA.wr0 rfl (WrA.cE (hdig) rfl) ?_
        rintro _ _ _ ⟨_, ⟨rfl, rfl, rfl⟩, rfl⟩
        refine XOA.cl ?_; refine zO rfl zJ ?_; refine zA rfl ?_
        first | (refine zG ?_; refine zA rfl ?_) | refine zH ?_
        first | (refine zG ?_; refine zO rfl (Rd.neq rfl rfl) ?_) | refine zH ?_
        refine zO rfl zP ?_; refine zO rfl Rd.asg ?_; refine zN (zT (XA.condF rfl (by first | rfl | exact decide_eq_false h45') ?_)); refine XA.skip (DA.inb_normal (zT (zS (zR (zA rfl ?_))))); refine zA rfl ?_; refine zA rfl ?_; refine zO rfl zI ?_; refine zA rfl ?_; refine zA rfl ?_; refine zO rfl zI ?_
        refine XOA.wr0 rfl (WrA.cE (hrd) rfl) ?_
        rintro _ _ _ ⟨_, ⟨rfl, rfl, rfl⟩, rfl⟩
        refine XOA.cl ?_; refine zO rfl zI ?_; refine zO rfl (Rd.sliceS (tyrow rfl) rfl rfl rfl rfl (by omega) htx2) ?_; refine zO rfl Rd.asg ?_; refine zN (zT (zS (zR (zA rfl ?_))))
        refine XOA.wr0 rfl (WrA.cE (hpar) rfl) ?_
        rintro v _ _ ⟨_, ⟨hnum, rfl, rfl⟩, rfl⟩
        refine XOA.cl ?_
        rcases hnum with ⟨n, hn, rfl⟩ | ⟨hno, n, a, rfl⟩
        · obtain ⟨hn0, hn1⟩ := parse_bounds hn
          rw [longOf_ok hn]
          refine zA rfl ?_; refine zO rfl (Rd.extract rfl rfl) ?_; refine zO rfl (Rd.extract rfl rfl) ?_; refine zO rfl Rd.asg ?_; refine zO rfl Rd.asg ?_; refine zN (zT (zS (zS (zR (zA rfl ?_))))); refine zO rfl (Rd.neqIfF err_if.choose_spec rfl) ?_; refine zA rfl ?_
          first | (refine zG ?_; refine zA rfl ?_) | refine zH ?_
          first | refine XOA.wanted rfl rfl ?_ | refine XOA.wq rfl rfl ?_
          refine XOA.wr0 rfl (WrA.cE (itoa_a σ n hn0 hn1 hT) rfl) ?_
          rintro _ _ _ ⟨_, ⟨rfl, rfl, rfl⟩, rfl⟩
          refine XOA.cl ?_
          first | (refine zG ?_; refine zA rfl ?_) | refine zH ?_
          first | (refine zG ?_; refine zO rfl (Rd.neqs rfl rfl) ?_) | refine zH ?_
          refine zO rfl zP ?_; refine zN (zT ?_)
          by_cases hq : itoaS n = tx
          · have hq' : ¬ (itoaS n ≠ tx) := fun h => h hq
            rw [if_pos hq]
            refine XA.condF rfl (by first | rfl | exact decide_eq_false hq') ?_; refine XA.skip (zT (zS (zR (zA rfl ?_)))); refine zA rfl ?_; refine zA rfl ?_
            refine zO rfl (Rd.bl (fun _ _ => tyrow) rfl rfl rfl) ?_
            refine XOA.wr0 rfl (WrA.st (tyrow rfl) rfl) ?_
            rintro _ _ _ ⟨rfl, rfl, rfl⟩
            refine zO rfl Rd.asg ?_; refine zN (zT (XA.ret ?_))
            exact bodyA.ret (ResA.ctT rfl rfl rfl (Ld.atBlk (tyrow rfl) rfl zL rfl (by first | exact take0 (by first | rfl | assumption | (refine (ints_len _).trans ?_; assumption) | (simp [*]; (first | done | fail))) | assumption | exact take_app (by first | rfl | assumption | (refine (ints_len _).trans ?_; assumption) | (simp [*]; (first | done | fail))) | (conv => lhs; simp only [List.drop_succ_cons, List.drop_zero, List.take_succ_cons, List.take_zero])) (by first | rfl | assumption | (refine (ints_len _).trans ?_; assumption) | (simp [*]; (first | done | fail))))) (Ent.nil _) ⟨rfl, rfl, rfl⟩
          · rw [if_neg hq]
            refine XA.condT rfl (by first | rfl | exact decide_eq_true hq) ?_; refine zS (zR ?_)
            refine zO rfl (Rd.bl (fun _ _ => tyrow) rfl rfl rfl) ?_
            refine XOA.wr0 rfl (WrA.st (tyrow rfl) rfl) ?_
            rintro _ _ _ ⟨rfl, rfl, rfl⟩
            refine zO rfl Rd.asg ?_; refine zN (zT (XA.ret (DA.thn_ret ?_)))
            exact bodyA.ret (ResA.ctT rfl rfl rfl (Ld.atBlk (tyrow rfl) rfl zL rfl (by first | exact take0 (by first | rfl | assumption | (refine (ints_len _).trans ?_; assumption) | (simp [*]; (first | done | fail))) | assumption | exact take_app (by first | rfl | assumption | (refine (ints_len _).trans ?_; assumption) | (simp [*]; (first | done | fail))) | (conv => lhs; simp only [List.drop_succ_cons, List.drop_zero, List.take_succ_cons, List.take_zero])) (by first | rfl | assumption | (refine (ints_len _).trans ?_; assumption) | (simp [*]; (first | done | fail))))) (Ent.nil _) ⟨rfl, rfl, rfl⟩
        · rw [longOf_bad hno]
          refine zA rfl ?_; refine zO rfl (Rd.extract rfl rfl) ?_; refine zO rfl (Rd.extract rfl rfl) ?_; refine zO rfl Rd.asg ?_; refine zO rfl Rd.asg ?_; refine zN (zT (zS (zS (zR (zA rfl ?_))))); refine zO rfl (Rd.neqIfT err_if.choose_spec rfl) ?_; refine zA rfl ?_
          first | (refine zG ?_; refine zA rfl ?_) | refine zH ?_
          first | refine zH ?_
          first | (refine zG ?_; refine zA rfl ?_) | refine zH ?_
          first | (refine zG ?_; refine zO rfl (Rd.neqs rfl rfl) ?_) | refine zH ?_
          refine zO rfl zP ?_; refine zN (zT (XA.condT rfl rfl (zS (zR ?_))))
          refine zO rfl (Rd.bl (fun _ _ => tyrow) rfl rfl rfl) ?_
          refine XOA.wr0 rfl (WrA.st (tyrow rfl) rfl) ?_
          rintro _ _ _ ⟨rfl, rfl, rfl⟩
          refine zO rfl Rd.asg ?_; refine zN (zT (XA.ret (DA.thn_ret ?_)))
          exact bodyA.ret (ResA.ctT rfl rfl rfl (Ld.atBlk (tyrow rfl) rfl zL rfl (by first | exact take0 (by first | rfl | assumption | (refine (ints_len _).trans ?_; assumption) | (simp [*]; (first | done | fail))) | assumption | exact take_app (by first | rfl | assumption | (refine (ints_len _).trans ?_; assumption) | (simp [*]; (first | done | fail))) | (conv => lhs; simp only [List.drop_succ_cons, List.drop_zero, List.take_succ_cons, List.take_zero])) (by first | rfl | assumption | (refine (ints_len _).trans ?_; assumption) | (simp [*]; (first | done | fail))))) (Ent.nil _) ⟨rfl, rfl, rfl⟩

    · have e : oneT s i = none := by rw [oneT, if_neg h12, if_neg hl', if_neg hd]
      have hq : digitB (byteAt s i) = false := by
        cases h : digitB (byteAt s i) with
        | true => exact absurd (.inl h) hd
        | false => rfl
      have h45 : (byteAt s i : Int) ≠ 45 := fun h => hd (.inr (by omega))
      rw [hq] at hdig
      rw [e]
      refine XOA.wr0 rfl (WrA.cE (hlet) rfl) ?_
      rintro _ _ _ ⟨_, ⟨rfl, rfl, rfl⟩, rfl⟩
      refine XOA.cl ?_; refine zO rfl Rd.asg ?_; refine zN (zT (XA.condF rfl rfl (zS (zR (zA rfl ?_)))))
      refine XOA.wr0 rfl (WrA.cE (hdig) rfl) ?_
      rintro _ _ _ ⟨_, ⟨rfl, rfl, rfl⟩, rfl⟩
      refine XOA.cl ?_; refine zO rfl zJ ?_; refine zA rfl ?_
      first | (refine zG ?_; refine zA rfl ?_) | refine zH ?_
      first | (refine zG ?_; refine zO rfl (Rd.neq rfl rfl) ?_) | refine zH ?_
      refine zO rfl zP ?_; refine zO rfl Rd.asg ?_; refine zN (zT (XA.condT rfl (by first | rfl | exact decide_eq_true h45) ?_)); refine zS (zR ?_)
      refine zO rfl (Rd.bl (fun _ _ => tyrow) rfl rfl rfl) ?_
      refine XOA.wr0 rfl (WrA.st (tyrow rfl) rfl) ?_
      rintro _ _ _ ⟨rfl, rfl, rfl⟩
      refine zO rfl Rd.asg ?_; refine zN (zT (XA.ret (DA.inb_ret (DA.thn_ret ?_))))
      exact bodyA.ret (ResA.ctT rfl rfl rfl (Ld.atBlk (tyrow rfl) rfl zL rfl (by first | exact take0 (by first | rfl | assumption | (refine (ints_len _).trans ?_; assumption) | (simp [*]; (first | done | fail))) | assumption | exact take_app (by first | rfl | assumption | (refine (ints_len _).trans ?_; assumption) | (simp [*]; (first | done | fail))) | (conv => lhs; simp only [List.drop_succ_cons, List.drop_zero, List.take_succ_cons, List.take_zero])) (by first | rfl | assumption | (refine (ints_len _).trans ?_; assumption) | (simp [*]; (first | done | fail))))) (Ent.nil _) ⟨rfl, rfl, rfl⟩
end Go.Proofs.YthefnnkmpcgcmaaGreatDoor

