/- Package code: the judge of expressions and statements. -/
import Derived.Test.YtbbghdkndbpmmaaCdJ
namespace Go.Proofs.Ytbbghdkndbpmmaa
open Go X
set_option maxHeartbeats 1000000
theorem Judge.any {b : Nat} {vs : Value} {e : JE} : ∀ m, Judge b vs e m → ∃ x : Int × Int, (∀ m', Sat [blk b [vs, i64 x.1, i64 x.2] 79] m' → Judge b vs e m') ∧ Sat [blk b [vs, i64 x.1, i64 x.2] 79] m := by
  rintro m ⟨l', c, h, h0⟩
  exact ⟨(l', c), fun m' h' => ⟨l', c, of_sat1 blk_mono h', h0⟩, sat1 h⟩
theorem Judge.anyD {b : Nat} {vs : Value} {e : JE} : ∀ m, Judge b vs e m → ∃ x : Int × Int, (decide (x.2 = 0) = e.isOk ∧ ∀ m', Sat [blk b [vs, i64 x.1, i64 x.2] 79] m' → Judge b vs e m') ∧ Sat [blk b [vs, i64 x.1, i64 x.2] 79] m := by
  rintro m ⟨l', c, h, h0⟩
  refine ⟨(l', c), ⟨?_, fun m' h' => ⟨l', c, of_sat1 blk_mono h', h0⟩⟩, sat1 h⟩
  cases e with
  | ok l => obtain ⟨-, rfl⟩ := h0; rfl
  | error d => obtain ⟨-, h0⟩ := h0; exact decide_eq_false h0
theorem named_a (σ : PH) (b : Nat) (p : Option Addr) (n c : Nat) (e : JE) (v : Int) (is : Bool) :
    CallsA Try.prog 83 #[ptr b, i64 v, .bool is] σ [Judge b (.slice p n c) e] (RetA fun r σ' Γ' => r = .tuple #[] ∧ σ = σ' ∧ Γ' = [Judge b (.slice p n c) (e.named n v is)]) := by
  cases is with
  | false =>
    refine enterA3 Try.func83 rfl rfl rfl ?_
    refine zS ?_; refine zR ?_; refine zO rfl Rd.mv ?_; refine zO rfl Rd.mv ?_; refine zO rfl Rd.mv ?_
    first | ((first | refine zW ?_ | refine zQ ?_); refine zO rfl Rd.mv ?_) | refine zU ?_ | refine zV ?_ | refine zZ ?_
    first | ((first | refine zW ?_ | refine zQ ?_); refine zO rfl (Rd.lss rfl rfl) ?_) | refine zU ?_ | refine zV ?_ | refine zZ ?_
    first | ((first | refine zW ?_ | refine zQ ?_); refine zO rfl Rd.mv ?_) | refine zU ?_ | refine zV ?_ | refine zZ ?_
    first | ((first | refine zW ?_ | refine zQ ?_); refine zO rfl Rd.mv ?_) | refine zU ?_ | refine zV ?_ | refine zZ ?_
    first | ((first | refine zW ?_ | refine zQ ?_); refine zO rfl Rd.mv ?_) | refine zU ?_ | refine zV ?_ | refine zZ ?_
    first | ((first | refine zW ?_ | refine zQ ?_); refine zO rfl (Rd.nilCheck rfl) ?_) | refine zU ?_ | refine zV ?_ | refine zZ ?_
    first | ((first | refine zW ?_ | refine zQ ?_); refine zO rfl (Rd.fA rfl) ?_) | refine zU ?_ | refine zV ?_ | refine zZ ?_
    first | ((first | refine zW ?_ | refine zQ ?_); refine zO rfl (Rd.ldC rfl (tyrow rfl) rfl) ?_) | refine zU ?_ | refine zV ?_ | refine zZ ?_
    first | ((first | refine zW ?_ | refine zQ ?_); refine zO rfl (Rd.lenSlice (tyrow rfl) rfl rfl) ?_) | refine zU ?_ | refine zV ?_ | refine zZ ?_
    first | ((first | refine zW ?_ | refine zQ ?_); refine zO rfl (Rd.geq rfl rfl) ?_) | refine zU ?_ | refine zV ?_ | refine zZ ?_
    first | ((first | refine zW ?_ | refine zQ ?_); refine zO rfl (by first | exact Rd.pT rfl | exact Rd.pF rfl | exact Rd.pP rfl) ?_) | refine zU ?_ | refine zV ?_ | refine zZ ?_
    refine zO rfl (by first | exact Rd.pT rfl | exact Rd.pF rfl | exact Rd.pP rfl) ?_
    refine XOA.wr0 rfl (WrA.cE (fail_a σ b _ e false 1 (by decide)) rfl) ?_
    rintro _ _ _ ⟨_, ⟨rfl, rfl, rfl⟩, rfl⟩
    refine XOA.cl ?_
    refine zN ?_; refine zT ?_; refine zR ?_; refine zO rfl Rd.mv ?_; refine zO rfl Rd.mv ?_
    refine zO rfl (by first | exact Rd.notp rfl | exact Rd.not rfl) ?_
    refine zO rfl Rd.mv ?_
    first | ((first | refine zW ?_ | refine zQ ?_); refine zO rfl Rd.mv ?_) | refine zU ?_ | refine zV ?_ | refine zZ ?_
    first | ((first | refine zW ?_ | refine zQ ?_); refine zO rfl (Rd.neq rfl rfl) ?_) | refine zU ?_ | refine zV ?_ | refine zZ ?_
    refine zO rfl (by first | exact Rd.pT rfl | exact Rd.pF rfl | exact Rd.pP rfl) ?_
    refine XOA.wr0 rfl (WrA.cE (fail_a σ b _ _ (decide (v ≠ 0)) 5 (by decide)) rfl) ?_
    rintro _ _ _ ⟨_, ⟨rfl, rfl, rfl⟩, rfl⟩
    refine XOA.cl ?_
    refine zN ?_
    exact bodyA.normal (ResA.none rfl) (Ent.refl _) ⟨rfl, rfl, rfl⟩
  | true =>
    by_cases h0 : v < 0
    · 
      refine enterA3 Try.func83 rfl rfl rfl ?_
      refine zS ?_; refine zR ?_; refine zO rfl Rd.mv ?_; refine zO rfl Rd.mv ?_; refine zO rfl Rd.mv ?_
      first | ((first | refine zW ?_ | refine zQ ?_); refine zO rfl Rd.mv ?_) | refine zU ?_ | refine zV ?_ | refine zZ ?_
      first | ((first | refine zW ?_ | refine zQ ?_); refine zO rfl (Rd.lss rfl rfl) ?_) | refine zU ?_ | refine zV ?_ | refine zZ ?_
      first | ((first | refine zW ?_ | refine zQ ?_); refine zO rfl Rd.mv ?_) | refine zU ?_ | refine zV ?_ | refine zZ ?_
      first | ((first | refine zW ?_ | refine zQ ?_); refine zO rfl Rd.mv ?_) | refine zU ?_ | refine zV ?_ | refine zZ ?_
      first | ((first | refine zW ?_ | refine zQ ?_); refine zO rfl Rd.mv ?_) | refine zU ?_ | refine zV ?_ | refine zZ ?_
      first | ((first | refine zW ?_ | refine zQ ?_); refine zO rfl (Rd.nilCheck rfl) ?_) | refine zU ?_ | refine zV ?_ | refine zZ ?_
      first | ((first | refine zW ?_ | refine zQ ?_); refine zO rfl (Rd.fA rfl) ?_) | refine zU ?_ | refine zV ?_ | refine zZ ?_
      first | ((first | refine zW ?_ | refine zQ ?_); refine zO rfl (Rd.ldC rfl (tyrow rfl) rfl) ?_) | refine zU ?_ | refine zV ?_ | refine zZ ?_
      first | ((first | refine zW ?_ | refine zQ ?_); refine zO rfl (Rd.lenSlice (tyrow rfl) rfl rfl) ?_) | refine zU ?_ | refine zV ?_ | refine zZ ?_
      first | ((first | refine zW ?_ | refine zQ ?_); refine zO rfl (Rd.geq rfl rfl) ?_) | refine zU ?_ | refine zV ?_ | refine zZ ?_
      first | ((first | refine zW ?_ | refine zQ ?_); refine zO rfl (by first | exact Rd.pT rfl | exact Rd.pF rfl | exact Rd.pP rfl) ?_) | refine zU ?_ | refine zV ?_ | refine zZ ?_
      refine zO rfl (by first | exact Rd.pT rfl | exact Rd.pF rfl | exact Rd.pP rfl) ?_
      refine XOA.wr0 rfl (WrA.cE (fail_a σ b _ e true 1 (by decide)) rfl) ?_
      rintro _ _ _ ⟨_, ⟨rfl, rfl, rfl⟩, rfl⟩
      refine XOA.cl ?_
      refine zN ?_; refine zT ?_; refine zR ?_; refine zO rfl Rd.mv ?_; refine zO rfl Rd.mv ?_
      refine zO rfl (by first | exact Rd.notp rfl | exact Rd.not rfl) ?_
      refine zO rfl Rd.mv ?_
      first | ((first | refine zW ?_ | refine zQ ?_); refine zO rfl Rd.mv ?_) | refine zU ?_ | refine zV ?_ | refine zZ ?_
      first | ((first | refine zW ?_ | refine zQ ?_); refine zO rfl (Rd.neq rfl rfl) ?_) | refine zU ?_ | refine zV ?_ | refine zZ ?_
      refine zO rfl (by first | exact Rd.pT rfl | exact Rd.pF rfl | exact Rd.pP rfl) ?_
      refine XOA.wr0 rfl (WrA.cE (fail_a σ b _ _ false 5 (by decide)) rfl) ?_
      rintro _ _ _ ⟨_, ⟨rfl, rfl, rfl⟩, rfl⟩
      refine XOA.cl ?_
      refine zN ?_
      refine bodyA.normal (ResA.none rfl) (Ent.refl _) ⟨rfl, rfl, ?_⟩
      have : decide (v < 0 ∨ (n : Int) ≤ v) = true := decide_eq_true (Or.inl h0)
      simp only [JE.named, this, Bool.true_and, Bool.not_true, Bool.false_and]
    · 
      refine enterA3 Try.func83 rfl rfl rfl ?_
      refine zS ?_; refine zR ?_; refine zO rfl Rd.mv ?_; refine zO rfl Rd.mv ?_; refine zO rfl Rd.mv ?_
      first | ((first | refine zW ?_ | refine zQ ?_); refine zO rfl Rd.mv ?_) | refine zU ?_ | refine zV ?_ | refine zZ ?_
      first | ((first | refine zW ?_ | refine zQ ?_); refine zO rfl (Rd.lss rfl rfl) ?_) | refine zU ?_ | refine zV ?_ | refine zZ ?_
      first | ((first | refine zW ?_ | refine zQ ?_); refine zO rfl Rd.mv ?_) | refine zU ?_ | refine zV ?_ | refine zZ ?_
      first | ((first | refine zW ?_ | refine zQ ?_); refine zO rfl Rd.mv ?_) | refine zU ?_ | refine zV ?_ | refine zZ ?_
      first | ((first | refine zW ?_ | refine zQ ?_); refine zO rfl Rd.mv ?_) | refine zU ?_ | refine zV ?_ | refine zZ ?_
      first | refine XA.opn (R := Judge b (.slice p n c) e) (by ((repeat (first | with_reducible exact Sel.head | apply Sel.tail)); (first | done | fail))) (Judge.any) ?_ | refine XOA.opn (R := Judge b (.slice p n c) e) (by ((repeat (first | with_reducible exact Sel.head | apply Sel.tail)); (first | done | fail))) (Judge.any) ?_ | refine DA.opn (R := Judge b (.slice p n c) e) (by ((repeat (first | with_reducible exact Sel.head | apply Sel.tail)); (first | done | fail))) (Judge.any) ?_
      rintro ⟨l, cc⟩ hf
      first | refine XA.cl ?_ | refine XOA.cl ?_ | refine DA.cl ?_
      first | ((first | refine zW ?_ | refine zQ ?_); refine zO rfl (Rd.nilCheck rfl) ?_) | refine zU ?_ | refine zV ?_ | refine zZ ?_
      first | ((first | refine zW ?_ | refine zQ ?_); refine zO rfl (Rd.fA rfl) ?_) | refine zU ?_ | refine zV ?_ | refine zZ ?_
      first | ((first | refine zW ?_ | refine zQ ?_); refine zO rfl (Rd.ldC rfl (tyrow rfl) rfl) ?_) | refine zU ?_ | refine zV ?_ | refine zZ ?_
      first | ((first | refine zW ?_ | refine zQ ?_); refine zO rfl (Rd.lenSlice (tyrow rfl) rfl rfl) ?_) | refine zU ?_ | refine zV ?_ | refine zZ ?_
      first | ((first | refine zW ?_ | refine zQ ?_); refine zO rfl (Rd.geq rfl rfl) ?_) | refine zU ?_ | refine zV ?_ | refine zZ ?_
      first | ((first | refine zW ?_ | refine zQ ?_); refine zO rfl (by first | exact Rd.pT rfl | exact Rd.pF rfl | exact Rd.pP rfl) ?_) | refine zU ?_ | refine zV ?_ | refine zZ ?_
      refine zO rfl (by first | exact Rd.pT rfl | exact Rd.pF rfl | exact Rd.pP rfl) ?_
      refine XOA.ent (Δ := [Judge b (.slice p n c) e]) (Ent.fold1 zE hf) ?_
      refine XOA.wr0 rfl (WrA.cE (fail_a σ b _ e (decide ((n : Int) ≤ v)) 1 (by decide)) rfl) ?_
      rintro _ _ _ ⟨_, ⟨rfl, rfl, rfl⟩, rfl⟩
      refine XOA.cl ?_
      refine zN ?_; refine zT ?_; refine zR ?_; refine zO rfl Rd.mv ?_; refine zO rfl Rd.mv ?_
      refine zO rfl (by first | exact Rd.notp rfl | exact Rd.not rfl) ?_
      refine zO rfl Rd.mv ?_
      first | ((first | refine zW ?_ | refine zQ ?_); refine zO rfl Rd.mv ?_) | refine zU ?_ | refine zV ?_ | refine zZ ?_
      first | ((first | refine zW ?_ | refine zQ ?_); refine zO rfl (Rd.neq rfl rfl) ?_) | refine zU ?_ | refine zV ?_ | refine zZ ?_
      refine zO rfl (by first | exact Rd.pT rfl | exact Rd.pF rfl | exact Rd.pP rfl) ?_
      refine XOA.wr0 rfl (WrA.cE (fail_a σ b _ _ false 5 (by decide)) rfl) ?_
      rintro _ _ _ ⟨_, ⟨rfl, rfl, rfl⟩, rfl⟩
      refine XOA.cl ?_
      refine zN ?_
      refine bodyA.normal (ResA.none rfl) (Ent.refl _) ⟨rfl, rfl, ?_⟩
      have : decide (v < 0 ∨ (n : Int) ≤ v) = decide ((n : Int) ≤ v) := by rw [decide_eq_decide]; omega
      simp only [JE.named, this, Bool.true_and, Bool.not_true, Bool.false_and]
theorem none_a (σ : PH) (cs : List Value) (x : Ex) (hx : ExAt σ cs x) : CallsA Try.prog 82 #[.agg cs.toArray] σ [] (RetA fun v σ' Γ' => v = .bool (noneX x) ∧ σ = σ' ∧ Γ' = []) := by
  obtain ⟨p, c, rfl, -, -, -, -⟩ := hx.inv
  by_cases h1 : x.op = 0
  · by_cases h2 : x.v = 0
    · by_cases h3 : x.n = 0
      · 
        refine enterA1 Try.func82 rfl rfl rfl ?_
        refine zS ?_; refine zR ?_
        refine XOA.wr0 rfl WrA.bx ?_
        rintro _ _ _ ⟨g1, rfl, rfl, rfl⟩
        refine zO rfl Rd.asg ?_; refine zN ?_; refine zT ?_; refine zS ?_; refine zR ?_; refine zO rfl (Rd.fA rfl) ?_; refine zO rfl (Rd.ldC rfl (tyrow rfl) rfl) ?_; refine zO rfl (Rd.eql rfl rfl) ?_; refine zO rfl Rd.mv ?_
        first | ((first | refine zW ?_ | refine zQ ?_); refine zO rfl (Rd.fA rfl) ?_) | refine zU ?_ | refine zV ?_ | refine zZ ?_
        first | ((first | refine zW ?_ | refine zQ ?_); refine zO rfl (Rd.ldC rfl (tyrow rfl) rfl) ?_) | refine zU ?_ | refine zV ?_ | refine zZ ?_
        first | ((first | refine zW ?_ | refine zQ ?_); refine zO rfl (Rd.eql rfl rfl) ?_) | refine zU ?_ | refine zV ?_ | refine zZ ?_
        refine zO rfl (by first | exact Rd.pT rfl | exact Rd.pF rfl | exact Rd.pP rfl) ?_
        refine zO rfl Rd.mv ?_
        first | ((first | refine zW ?_ | refine zQ ?_); refine zO rfl (Rd.fA rfl) ?_) | refine zU ?_ | refine zV ?_ | refine zZ ?_
        first | ((first | refine zW ?_ | refine zQ ?_); refine zO rfl (Rd.ldC rfl (tyrow rfl) rfl) ?_) | refine zU ?_ | refine zV ?_ | refine zZ ?_
        first | ((first | refine zW ?_ | refine zQ ?_); refine zO rfl (Rd.eql rfl rfl) ?_) | refine zU ?_ | refine zV ?_ | refine zZ ?_
        refine zO rfl (by first | exact Rd.pT rfl | exact Rd.pF rfl | exact Rd.pP rfl) ?_
        refine zO rfl Rd.mv ?_
        first | ((first | refine zW ?_ | refine zQ ?_); refine zO rfl (Rd.fA rfl) ?_) | refine zU ?_ | refine zV ?_ | refine zZ ?_
        first | ((first | refine zW ?_ | refine zQ ?_); refine zO rfl (Rd.ldC rfl (tyrow rfl) rfl) ?_) | refine zU ?_ | refine zV ?_ | refine zZ ?_
        first | ((first | refine zW ?_ | refine zQ ?_); refine zO rfl (Rd.lenSlice (tyrow rfl) rfl rfl) ?_) | refine zU ?_ | refine zV ?_ | refine zZ ?_
        first | ((first | refine zW ?_ | refine zQ ?_); refine zO rfl (Rd.eql rfl rfl) ?_) | refine zU ?_ | refine zV ?_ | refine zZ ?_
        refine zO rfl (by first | exact Rd.pT rfl | exact Rd.pF rfl | exact Rd.pP rfl) ?_
        refine zO rfl Rd.asg ?_; refine zN ?_; refine zT ?_
        refine XA.ret ?_
        refine bodyA.ret (ResA.one rfl rfl) (Ent.nil _) ⟨?_, rfl, rfl⟩
        simp [noneX, h1, h2, h3]
      · 
        refine enterA1 Try.func82 rfl rfl rfl ?_
        refine zS ?_; refine zR ?_
        refine XOA.wr0 rfl WrA.bx ?_
        rintro _ _ _ ⟨g1, rfl, rfl, rfl⟩
        refine zO rfl Rd.asg ?_; refine zN ?_; refine zT ?_; refine zS ?_; refine zR ?_; refine zO rfl (Rd.fA rfl) ?_; refine zO rfl (Rd.ldC rfl (tyrow rfl) rfl) ?_; refine zO rfl (Rd.eql rfl rfl) ?_; refine zO rfl Rd.mv ?_
        first | ((first | refine zW ?_ | refine zQ ?_); refine zO rfl (Rd.fA rfl) ?_) | refine zU ?_ | refine zV ?_ | refine zZ ?_
        first | ((first | refine zW ?_ | refine zQ ?_); refine zO rfl (Rd.ldC rfl (tyrow rfl) rfl) ?_) | refine zU ?_ | refine zV ?_ | refine zZ ?_
        first | ((first | refine zW ?_ | refine zQ ?_); refine zO rfl (Rd.eql rfl rfl) ?_) | refine zU ?_ | refine zV ?_ | refine zZ ?_
        refine zO rfl (by first | exact Rd.pT rfl | exact Rd.pF rfl | exact Rd.pP rfl) ?_
        refine zO rfl Rd.mv ?_
        first | ((first | refine zW ?_ | refine zQ ?_); refine zO rfl (Rd.fA rfl) ?_) | refine zU ?_ | refine zV ?_ | refine zZ ?_
        first | ((first | refine zW ?_ | refine zQ ?_); refine zO rfl (Rd.ldC rfl (tyrow rfl) rfl) ?_) | refine zU ?_ | refine zV ?_ | refine zZ ?_
        first | ((first | refine zW ?_ | refine zQ ?_); refine zO rfl (Rd.eql rfl rfl) ?_) | refine zU ?_ | refine zV ?_ | refine zZ ?_
        refine zO rfl (by first | exact Rd.pT rfl | exact Rd.pF rfl | exact Rd.pP rfl) ?_
        refine zO rfl Rd.mv ?_
        first | ((first | refine zW ?_ | refine zQ ?_); refine zO rfl (Rd.fA rfl) ?_) | refine zU ?_ | refine zV ?_ | refine zZ ?_
        first | ((first | refine zW ?_ | refine zQ ?_); refine zO rfl (Rd.ldC rfl (tyrow rfl) rfl) ?_) | refine zU ?_ | refine zV ?_ | refine zZ ?_
        first | ((first | refine zW ?_ | refine zQ ?_); refine zO rfl (Rd.lenSlice (tyrow rfl) rfl rfl) ?_) | refine zU ?_ | refine zV ?_ | refine zZ ?_
        first | ((first | refine zW ?_ | refine zQ ?_); refine zO rfl (Rd.eql rfl rfl) ?_) | refine zU ?_ | refine zV ?_ | refine zZ ?_
        refine zO rfl (by first | exact Rd.pT rfl | exact Rd.pF rfl | exact Rd.pP rfl) ?_
        refine zO rfl Rd.asg ?_; refine zN ?_; refine zT ?_
        refine XA.ret ?_
        exact bodyA.ret (ResA.one rfl rfl) (Ent.nil _) ⟨by simp [noneX, h3], rfl, rfl⟩
    · 
      refine enterA1 Try.func82 rfl rfl rfl ?_
      refine zS ?_; refine zR ?_
      refine XOA.wr0 rfl WrA.bx ?_
      rintro _ _ _ ⟨g1, rfl, rfl, rfl⟩
      refine zO rfl Rd.asg ?_; refine zN ?_; refine zT ?_; refine zS ?_; refine zR ?_; refine zO rfl (Rd.fA rfl) ?_; refine zO rfl (Rd.ldC rfl (tyrow rfl) rfl) ?_; refine zO rfl (Rd.eql rfl rfl) ?_; refine zO rfl Rd.mv ?_
      first | ((first | refine zW ?_ | refine zQ ?_); refine zO rfl (Rd.fA rfl) ?_) | refine zU ?_ | refine zV ?_ | refine zZ ?_
      first | ((first | refine zW ?_ | refine zQ ?_); refine zO rfl (Rd.ldC rfl (tyrow rfl) rfl) ?_) | refine zU ?_ | refine zV ?_ | refine zZ ?_
      first | ((first | refine zW ?_ | refine zQ ?_); refine zO rfl (Rd.eql rfl rfl) ?_) | refine zU ?_ | refine zV ?_ | refine zZ ?_
      refine zO rfl (by first | exact Rd.pT rfl | exact Rd.pF rfl | exact Rd.pP rfl) ?_
      refine zO rfl Rd.mv ?_
      first | ((first | refine zW ?_ | refine zQ ?_); refine zO rfl (Rd.fA rfl) ?_) | refine zU ?_ | refine zV ?_ | refine zZ ?_
      first | ((first | refine zW ?_ | refine zQ ?_); refine zO rfl (Rd.ldC rfl (tyrow rfl) rfl) ?_) | refine zU ?_ | refine zV ?_ | refine zZ ?_
      first | ((first | refine zW ?_ | refine zQ ?_); refine zO rfl (Rd.eql rfl rfl) ?_) | refine zU ?_ | refine zV ?_ | refine zZ ?_
      refine zO rfl (by first | exact Rd.pT rfl | exact Rd.pF rfl | exact Rd.pP rfl) ?_
      refine zO rfl Rd.mv ?_
      first | ((first | refine zW ?_ | refine zQ ?_); refine zO rfl (Rd.fA rfl) ?_) | refine zU ?_ | refine zV ?_ | refine zZ ?_
      first | ((first | refine zW ?_ | refine zQ ?_); refine zO rfl (Rd.ldC rfl (tyrow rfl) rfl) ?_) | refine zU ?_ | refine zV ?_ | refine zZ ?_
      first | ((first | refine zW ?_ | refine zQ ?_); refine zO rfl (Rd.lenSlice (tyrow rfl) rfl rfl) ?_) | refine zU ?_ | refine zV ?_ | refine zZ ?_
      first | ((first | refine zW ?_ | refine zQ ?_); refine zO rfl (Rd.eql rfl rfl) ?_) | refine zU ?_ | refine zV ?_ | refine zZ ?_
      refine zO rfl (by first | exact Rd.pT rfl | exact Rd.pF rfl | exact Rd.pP rfl) ?_
      refine zO rfl Rd.asg ?_; refine zN ?_; refine zT ?_
      refine XA.ret ?_
      exact bodyA.ret (ResA.one rfl rfl) (Ent.nil _) ⟨by simp [noneX, h2], rfl, rfl⟩
  · 
    refine enterA1 Try.func82 rfl rfl rfl ?_
    refine zS ?_; refine zR ?_
    refine XOA.wr0 rfl WrA.bx ?_
    rintro _ _ _ ⟨g1, rfl, rfl, rfl⟩
    refine zO rfl Rd.asg ?_; refine zN ?_; refine zT ?_; refine zS ?_; refine zR ?_; refine zO rfl (Rd.fA rfl) ?_; refine zO rfl (Rd.ldC rfl (tyrow rfl) rfl) ?_; refine zO rfl (Rd.eql rfl rfl) ?_; refine zO rfl Rd.mv ?_
    first | ((first | refine zW ?_ | refine zQ ?_); refine zO rfl (Rd.fA rfl) ?_) | refine zU ?_ | refine zV ?_ | refine zZ ?_
    first | ((first | refine zW ?_ | refine zQ ?_); refine zO rfl (Rd.ldC rfl (tyrow rfl) rfl) ?_) | refine zU ?_ | refine zV ?_ | refine zZ ?_
    first | ((first | refine zW ?_ | refine zQ ?_); refine zO rfl (Rd.eql rfl rfl) ?_) | refine zU ?_ | refine zV ?_ | refine zZ ?_
    refine zO rfl (by first | exact Rd.pT rfl | exact Rd.pF rfl | exact Rd.pP rfl) ?_
    refine zO rfl Rd.mv ?_
    first | ((first | refine zW ?_ | refine zQ ?_); refine zO rfl (Rd.fA rfl) ?_) | refine zU ?_ | refine zV ?_ | refine zZ ?_
    first | ((first | refine zW ?_ | refine zQ ?_); refine zO rfl (Rd.ldC rfl (tyrow rfl) rfl) ?_) | refine zU ?_ | refine zV ?_ | refine zZ ?_
    first | ((first | refine zW ?_ | refine zQ ?_); refine zO rfl (Rd.eql rfl rfl) ?_) | refine zU ?_ | refine zV ?_ | refine zZ ?_
    refine zO rfl (by first | exact Rd.pT rfl | exact Rd.pF rfl | exact Rd.pP rfl) ?_
    refine zO rfl Rd.mv ?_
    first | ((first | refine zW ?_ | refine zQ ?_); refine zO rfl (Rd.fA rfl) ?_) | refine zU ?_ | refine zV ?_ | refine zZ ?_
    first | ((first | refine zW ?_ | refine zQ ?_); refine zO rfl (Rd.ldC rfl (tyrow rfl) rfl) ?_) | refine zU ?_ | refine zV ?_ | refine zZ ?_
    first | ((first | refine zW ?_ | refine zQ ?_); refine zO rfl (Rd.lenSlice (tyrow rfl) rfl rfl) ?_) | refine zU ?_ | refine zV ?_ | refine zZ ?_
    first | ((first | refine zW ?_ | refine zQ ?_); refine zO rfl (Rd.eql rfl rfl) ?_) | refine zU ?_ | refine zV ?_ | refine zZ ?_
    refine zO rfl (by first | exact Rd.pT rfl | exact Rd.pF rfl | exact Rd.pP rfl) ?_
    refine zO rfl Rd.asg ?_; refine zN ?_; refine zT ?_
    refine XA.ret ?_
    exact bodyA.ret (ResA.one rfl rfl) (Ent.nil _) ⟨by simp [noneX, h1], rfl, rfl⟩
theorem has_a (σ : PH) (op : Int) : CallsA Try.prog 16 #[i64 op] σ [] (RetA fun v σ' Γ' => v = .tuple #[.bool (needE op), .bool (needF op), .bool (needV op), .bool (needB op), .bool (needO op)] ∧ σ = σ' ∧ Γ' = []) := by
  refine enterA1 Try.func16 rfl rfl rfl ?_
  refine zS ?_; refine zR ?_; refine zO rfl Rd.asg ?_; refine zO rfl Rd.asg ?_; refine zO rfl Rd.asg ?_; refine zO rfl Rd.asg ?_; refine zO rfl Rd.asg ?_; refine zN ?_; refine zT ?_; refine zS ?_; refine zS ?_; refine zR ?_; refine zO rfl Rd.mv ?_; refine zN ?_; refine zT ?_
  refine XA.block ?_
  refine zS ?_; refine zR ?_; refine zO rfl (Rd.eql rfl rfl) ?_; refine zO rfl Rd.asg ?_; refine zN ?_; refine zT ?_
  refine XA.condp rfl (fun h1 => ?_) (fun h1 => ?_)
  · refine zS ?_
    refine zR ?_; refine zO rfl Rd.asg ?_; refine zO rfl Rd.asg ?_; refine zO rfl Rd.asg ?_; refine zO rfl Rd.asg ?_; refine zO rfl Rd.asg ?_; refine zN ?_; refine zT ?_
    refine XA.ret ?_
    refine DA.inb_ret ?_
    refine DA.thn_ret ?_
    subst h1
    exact bodyA.ret (ResA.five rfl rfl rfl rfl rfl rfl) (Ent.refl _) ⟨rfl, rfl, rfl⟩
  refine zS ?_; refine zR ?_; refine zO rfl (Rd.eql rfl rfl) ?_; refine zO rfl Rd.asg ?_; refine zN ?_; refine zT ?_
  refine XA.condp rfl (fun h2 => ?_) (fun h2 => ?_)
  · refine zS ?_
    refine zR ?_; refine zO rfl Rd.asg ?_; refine zO rfl Rd.asg ?_; refine zO rfl Rd.asg ?_; refine zO rfl Rd.asg ?_; refine zO rfl Rd.asg ?_; refine zN ?_; refine zT ?_
    refine XA.ret ?_
    refine DA.inb_ret ?_
    refine DA.thn_ret ?_
    subst h2
    exact bodyA.ret (ResA.five rfl rfl rfl rfl rfl rfl) (Ent.refl _) ⟨rfl, rfl, rfl⟩
  refine zS ?_; refine zR ?_; refine zO rfl (Rd.eql rfl rfl) ?_; refine zO rfl Rd.asg ?_; refine zN ?_; refine zT ?_
  refine XA.condp rfl (fun h3 => ?_) (fun h3 => ?_)
  · refine zS ?_
    refine zR ?_; refine zO rfl Rd.asg ?_; refine zO rfl Rd.asg ?_; refine zO rfl Rd.asg ?_; refine zO rfl Rd.asg ?_; refine zO rfl Rd.asg ?_; refine zN ?_; refine zT ?_
    refine XA.ret ?_
    refine DA.inb_ret ?_
    refine DA.thn_ret ?_
    subst h3
    exact bodyA.ret (ResA.five rfl rfl rfl rfl rfl rfl) (Ent.refl _) ⟨rfl, rfl, rfl⟩
  refine zS ?_; refine zR ?_; refine zO rfl (Rd.eql rfl rfl) ?_; refine zO rfl Rd.asg ?_; refine zN ?_; refine zT ?_
  refine XA.condp rfl (fun h4 => ?_) (fun h4 => ?_)
  · refine zS ?_
    refine zR ?_; refine zO rfl Rd.asg ?_; refine zO rfl Rd.asg ?_; refine zO rfl Rd.asg ?_; refine zO rfl Rd.asg ?_; refine zO rfl Rd.asg ?_; refine zN ?_; refine zT ?_
    refine XA.ret ?_
    refine DA.inb_ret ?_
    refine DA.thn_ret ?_
    subst h4
    exact bodyA.ret (ResA.five rfl rfl rfl rfl rfl rfl) (Ent.refl _) ⟨rfl, rfl, rfl⟩
  refine zS ?_; refine zR ?_; refine zO rfl (Rd.eql rfl rfl) ?_; refine zO rfl Rd.asg ?_; refine zN ?_; refine zT ?_
  refine XA.condp rfl (fun h5 => ?_) (fun h5 => ?_)
  · refine zS ?_
    refine zR ?_; refine zO rfl Rd.asg ?_; refine zO rfl Rd.asg ?_; refine zO rfl Rd.asg ?_; refine zO rfl Rd.asg ?_; refine zO rfl Rd.asg ?_; refine zN ?_; refine zT ?_
    refine XA.ret ?_
    refine DA.inb_ret ?_
    refine DA.thn_ret ?_
    subst h5
    exact bodyA.ret (ResA.five rfl rfl rfl rfl rfl rfl) (Ent.refl _) ⟨rfl, rfl, rfl⟩
  refine zS ?_; refine zR ?_; refine zO rfl (Rd.eql rfl rfl) ?_; refine zO rfl Rd.asg ?_; refine zN ?_; refine zT ?_
  refine XA.condp rfl (fun h6 => ?_) (fun h6 => ?_)
  · refine zS ?_
    refine zR ?_; refine zO rfl Rd.asg ?_; refine zO rfl Rd.asg ?_; refine zO rfl Rd.asg ?_; refine zO rfl Rd.asg ?_; refine zO rfl Rd.asg ?_; refine zN ?_; refine zT ?_
    refine XA.ret ?_
    refine DA.inb_ret ?_
    refine DA.thn_ret ?_
    subst h6
    exact bodyA.ret (ResA.five rfl rfl rfl rfl rfl rfl) (Ent.refl _) ⟨rfl, rfl, rfl⟩
  refine XA.skip ?_
  refine DA.inb_normal ?_
  refine zT ?_
  refine XA.ret ?_
  refine bodyA.ret (ResA.five rfl rfl rfl rfl rfl rfl) (Ent.refl _) ⟨?_, rfl, rfl⟩
  simp [needE, needF, needV, needB, needO, h1, h2, h3, h4, h5, h6]
theorem in_fail {e : JE} (h : e.in_) (b : Bool) (c : Int) : (e.fail b c).in_ := by
  cases e with
  | error d => intro l hl; cases hl
  | ok l => cases b with
    | true => intro l' hl; cases hl
    | false => exact h
theorem in_of {F : Int → JE → JE} (hF : Down F) {e : JE} (h : e.in_) (d : Int) : (F d e).in_ := by
  cases e with
  | error c => rw [hF.err]; intro l hl; cases hl
  | ok a =>
    intro l hl
    obtain ⟨h1, h2⟩ := h a rfl
    obtain ⟨h3, h4, -⟩ := hF.ok _ _ _ h1 hl
    omega
/-- What is to be shown of an expression. -/
def ExprOK (σ : PH) (x : Ex) : Prop := ∀ (cs : List Value) (b : Nat) (p : Option Addr) (n c : Nat) (e : JE) (deep : Int), ExAt σ cs x → e.in_ → 0 ≤ deep → deep ≤ 1000 →
  CallsA Try.prog 84 #[ptr b, .agg cs.toArray, i64 deep] σ [Judge b (.slice p n c) e] (RetA fun r σ' Γ' => r = .tuple #[] ∧ σ = σ' ∧ Γ' = [Judge b (.slice p n c) (exE n deep x e)])
theorem isOk_false {e : JE} (h : e.isOk = false) : ∃ c, e = .error c := by
  cases e with
  | ok l => cases h
  | error c => exact ⟨c, rfl⟩
theorem one_ok {e : JE} {d : Int} (h : (e.one d).isOk = true) : d ≤ 12 := by
  cases e with
  | error c => cases h
  | ok l =>
    simp only [JE.one] at h
    split at h
    · cases h
    · omega
theorem expr_a (σ : PH) (x : Ex) : ExprOK σ x := by
  refine Ex.ind (P := ExprOK σ) ?_ x
  intro op v k l ih cs b p n c e deep hx hin hd0 hd1
  obtain ⟨pl, cl, rfl, -, -, -, hl⟩ := hx.inv
  simp only [Ex.op, Ex.v, Ex.n, Ex.l] at hl ⊢
  obtain ⟨-, -, -, hle, hmx⟩ := hl.shape
  have hlen : l.length ≤ maxLen := by
    obtain ⟨q, d, e1, h1, h2⟩ := hl.shape
    omega
  simp only [maxLen] at hlen
  refine enterA3 Try.func84 rfl rfl rfl ?_
  refine zS ?_; refine zR ?_
  refine XOA.wr0 rfl WrA.bx ?_
  rintro _ _ _ ⟨g4, rfl, rfl, rfl⟩
  refine zN ?_; refine zT ?_; refine zS ?_; refine zS ?_; refine zR ?_; refine zO rfl Rd.mv ?_; refine zO rfl Rd.mv ?_
  refine XOA.wr0 rfl (WrA.cE (one_a σ b (.slice p n c) e deep hin) rfl) ?_
  rintro _ _ _ ⟨_, ⟨rfl, rfl, rfl⟩, rfl⟩
  refine XOA.cl ?_
  cases hok : (e.one deep).isOk with
  | false =>
    obtain ⟨c', hc'⟩ := isOk_false hok
    have hp : exE n deep (.mk op v k l) e = .error c' := by rw [exE, exHead, hc', fail_err, fail_err, named_err, exsE_err]
    rw [hc', hp]
    refine zO rfl (by first | exact Rd.notp rfl | exact Rd.not rfl) ?_
    refine zN ?_; refine zT ?_
    refine XA.condT rfl rfl ?_
    refine XA.ret ?_
    refine DA.thn_ret ?_
    exact bodyA.ret (ResA.none rfl) zE ⟨rfl, rfl, rfl⟩
  | true =>
    have hd := one_ok hok
    refine zO rfl (by first | exact Rd.notp rfl | exact Rd.not rfl) ?_
    refine zN ?_; refine zT ?_
    refine XA.condF rfl rfl ?_
    refine XA.skip ?_
    refine zT ?_; refine zS ?_; refine zR ?_; refine zO rfl (Rd.fA rfl) ?_; refine zO rfl (Rd.ldC rfl (tyrow rfl) rfl) ?_
    refine XOA.wr0 rfl (WrA.cE (parts_a σ op) rfl) ?_
    rintro _ _ _ ⟨_, ⟨rfl, rfl, rfl⟩, rfl⟩
    refine XOA.cl ?_
    refine zO rfl Rd.asg ?_; refine zN ?_; refine zT ?_; refine zS ?_; refine zR ?_; refine zO rfl Rd.mv ?_; refine zO rfl Rd.mv ?_; refine zO rfl (Rd.lss rfl rfl) ?_
    refine XOA.wr0 rfl (WrA.cE (fail_a σ b _ _ (decide (partsOf op < 0)) 2 (by decide)) rfl) ?_
    rintro _ _ _ ⟨_, ⟨rfl, rfl, rfl⟩, rfl⟩
    refine XOA.cl ?_
    refine zN ?_; refine zT ?_; refine zS ?_; refine zR ?_; refine zO rfl Rd.mv ?_; refine zO rfl (Rd.fA rfl) ?_; refine zO rfl (Rd.ldC rfl (tyrow rfl) rfl) ?_; refine zO rfl (Rd.lenSlice (tyrow rfl) rfl rfl) ?_; refine zO rfl Rd.mv ?_
    refine XOA.join (List.take_append_drop 11 _).symm [(20, 20), (25, 35)] (fun _ : Unit => [(20, ptr b), (35, .bool (decide ((l.length : Int) ≠ partsOf op ∨ (k ≠ 0 ∧ op ≠ 1))))]) (fun _ σ' Γ' => σ = σ' ∧ Γ' = [Judge b (.slice p n c) ((e.one deep).fail (decide (partsOf op < 0)) 2), blk g4 [i64 op, i64 v, i64 k, .slice pl l.length cl] 44]) ?_ ?_
    · 
      by_cases h1 : (l.length : Int) = partsOf op
      · by_cases h2 : k = 0
        · have hb : decide ((l.length : Int) ≠ partsOf op ∨ (k ≠ 0 ∧ op ≠ 1)) = false := decide_eq_false (by omega)
          rw [hb]
          refine zO rfl (Rd.neq rfl rfl) ?_
          refine zO rfl Rd.mv ?_
          first | ((first | refine zW ?_ | refine zQ ?_); refine zO rfl (Rd.fA rfl) ?_) | refine zU ?_ | refine zV ?_ | refine zZ ?_
          first | ((first | refine zW ?_ | refine zQ ?_); refine zO rfl (Rd.ldC rfl (tyrow rfl) rfl) ?_) | refine zU ?_ | refine zV ?_ | refine zZ ?_
          first | ((first | refine zW ?_ | refine zQ ?_); refine zO rfl (Rd.neq rfl rfl) ?_) | refine zU ?_ | refine zV ?_ | refine zZ ?_
          first | ((first | refine zW ?_ | refine zQ ?_); refine zO rfl Rd.mv ?_) | refine zU ?_ | refine zV ?_ | refine zZ ?_
          first | ((first | refine zW ?_ | refine zQ ?_); refine zO rfl (Rd.fA rfl) ?_) | refine zU ?_ | refine zV ?_ | refine zZ ?_
          first | ((first | refine zW ?_ | refine zQ ?_); refine zO rfl (Rd.ldC rfl (tyrow rfl) rfl) ?_) | refine zU ?_ | refine zV ?_ | refine zZ ?_
          first | ((first | refine zW ?_ | refine zQ ?_); refine zO rfl (Rd.neq rfl rfl) ?_) | refine zU ?_ | refine zV ?_ | refine zZ ?_
          first | ((first | refine zW ?_ | refine zQ ?_); refine zO rfl (by first | exact Rd.pT rfl | exact Rd.pF rfl | exact Rd.pP rfl) ?_) | refine zU ?_ | refine zV ?_ | refine zZ ?_
          refine zO rfl (by first | exact Rd.pT rfl | exact Rd.pF rfl | exact Rd.pP rfl) ?_
          refine zN ?_; refine zT ?_
          refine ⟨(Keep.upd (Keep.upd (Keep.upd (Keep.upd (Keep.upd (Keep.upd (Keep.upd (Keep.upd (Keep.upd (Keep.upd (Keep.upd (Keep.refl _ _) rfl) rfl) rfl) rfl) rfl) rfl) rfl) rfl) rfl) rfl) rfl), (), _, (by (repeat (first | exact trivial | refine ⟨rfl, ?_⟩ | refine ⟨Eq.trans rfl (congrArg Value.bool hmat.symm), ?_⟩)); (first | done | fail)), ?_, ⟨rfl, rfl⟩⟩
          · exact zE
        · have hb : decide ((l.length : Int) ≠ partsOf op ∨ (k ≠ 0 ∧ op ≠ 1)) = decide (op ≠ 1) := by rw [decide_eq_decide]; omega
          rw [hb]
          refine zO rfl (Rd.neq rfl rfl) ?_
          refine zO rfl Rd.mv ?_
          first | ((first | refine zW ?_ | refine zQ ?_); refine zO rfl (Rd.fA rfl) ?_) | refine zU ?_ | refine zV ?_ | refine zZ ?_
          first | ((first | refine zW ?_ | refine zQ ?_); refine zO rfl (Rd.ldC rfl (tyrow rfl) rfl) ?_) | refine zU ?_ | refine zV ?_ | refine zZ ?_
          first | ((first | refine zW ?_ | refine zQ ?_); refine zO rfl (Rd.neq rfl rfl) ?_) | refine zU ?_ | refine zV ?_ | refine zZ ?_
          first | ((first | refine zW ?_ | refine zQ ?_); refine zO rfl Rd.mv ?_) | refine zU ?_ | refine zV ?_ | refine zZ ?_
          first | ((first | refine zW ?_ | refine zQ ?_); refine zO rfl (Rd.fA rfl) ?_) | refine zU ?_ | refine zV ?_ | refine zZ ?_
          first | ((first | refine zW ?_ | refine zQ ?_); refine zO rfl (Rd.ldC rfl (tyrow rfl) rfl) ?_) | refine zU ?_ | refine zV ?_ | refine zZ ?_
          first | ((first | refine zW ?_ | refine zQ ?_); refine zO rfl (Rd.neq rfl rfl) ?_) | refine zU ?_ | refine zV ?_ | refine zZ ?_
          first | ((first | refine zW ?_ | refine zQ ?_); refine zO rfl (by first | exact Rd.pT rfl | exact Rd.pF rfl | exact Rd.pP rfl) ?_) | refine zU ?_ | refine zV ?_ | refine zZ ?_
          refine zO rfl (by first | exact Rd.pT rfl | exact Rd.pF rfl | exact Rd.pP rfl) ?_
          refine zN ?_; refine zT ?_
          refine ⟨(Keep.upd (Keep.upd (Keep.upd (Keep.upd (Keep.upd (Keep.upd (Keep.upd (Keep.upd (Keep.upd (Keep.upd (Keep.upd (Keep.refl _ _) rfl) rfl) rfl) rfl) rfl) rfl) rfl) rfl) rfl) rfl) rfl), (), _, (by (repeat (first | exact trivial | refine ⟨rfl, ?_⟩ | refine ⟨Eq.trans rfl (congrArg Value.bool hmat.symm), ?_⟩)); (first | done | fail)), ?_, ⟨rfl, rfl⟩⟩
          · exact zE
      · have hb : decide ((l.length : Int) ≠ partsOf op ∨ (k ≠ 0 ∧ op ≠ 1)) = true := decide_eq_true (by omega)
        rw [hb]
        refine zO rfl (Rd.neq rfl rfl) ?_
        refine zO rfl Rd.mv ?_
        first | ((first | refine zW ?_ | refine zQ ?_); refine zO rfl (Rd.fA rfl) ?_) | refine zU ?_ | refine zV ?_ | refine zZ ?_
        first | ((first | refine zW ?_ | refine zQ ?_); refine zO rfl (Rd.ldC rfl (tyrow rfl) rfl) ?_) | refine zU ?_ | refine zV ?_ | refine zZ ?_
        first | ((first | refine zW ?_ | refine zQ ?_); refine zO rfl (Rd.neq rfl rfl) ?_) | refine zU ?_ | refine zV ?_ | refine zZ ?_
        first | ((first | refine zW ?_ | refine zQ ?_); refine zO rfl Rd.mv ?_) | refine zU ?_ | refine zV ?_ | refine zZ ?_
        first | ((first | refine zW ?_ | refine zQ ?_); refine zO rfl (Rd.fA rfl) ?_) | refine zU ?_ | refine zV ?_ | refine zZ ?_
        first | ((first | refine zW ?_ | refine zQ ?_); refine zO rfl (Rd.ldC rfl (tyrow rfl) rfl) ?_) | refine zU ?_ | refine zV ?_ | refine zZ ?_
        first | ((first | refine zW ?_ | refine zQ ?_); refine zO rfl (Rd.neq rfl rfl) ?_) | refine zU ?_ | refine zV ?_ | refine zZ ?_
        first | ((first | refine zW ?_ | refine zQ ?_); refine zO rfl (by first | exact Rd.pT rfl | exact Rd.pF rfl | exact Rd.pP rfl) ?_) | refine zU ?_ | refine zV ?_ | refine zZ ?_
        refine zO rfl (by first | exact Rd.pT rfl | exact Rd.pF rfl | exact Rd.pP rfl) ?_
        refine zN ?_; refine zT ?_
        refine ⟨(Keep.upd (Keep.upd (Keep.upd (Keep.upd (Keep.upd (Keep.upd (Keep.upd (Keep.upd (Keep.upd (Keep.upd (Keep.upd (Keep.refl _ _) rfl) rfl) rfl) rfl) rfl) rfl) rfl) rfl) rfl) rfl) rfl), (), _, (by (repeat (first | exact trivial | refine ⟨rfl, ?_⟩ | refine ⟨Eq.trans rfl (congrArg Value.bool hmat.symm), ?_⟩)); (first | done | fail)), ?_, ⟨rfl, rfl⟩⟩
        · exact zE
    rintro - δ1 _ _ ⟨rfl, rfl⟩
    dsimp only [ovr, List.foldl]
    refine XOA.wr0 rfl (WrA.cE (fail_a σ b _ _ (decide ((l.length : Int) ≠ partsOf op ∨ (k ≠ 0 ∧ op ≠ 1))) 5 (by decide)) rfl) ?_
    rintro _ _ _ ⟨_, ⟨rfl, rfl, rfl⟩, rfl⟩
    refine XOA.cl ?_
    refine zN ?_; refine zT ?_; refine zS ?_; refine zR ?_; refine zO rfl Rd.mv ?_; refine zO rfl (Rd.fA rfl) ?_; refine zO rfl (Rd.ldC rfl (tyrow rfl) rfl) ?_; refine zO rfl (Rd.fA rfl) ?_; refine zO rfl (Rd.ldC rfl (tyrow rfl) rfl) ?_; refine zO rfl (Rd.eql rfl rfl) ?_
    refine XOA.join (List.take_append_drop 5 _).symm [(37, 37), (39, 39), (43, 47)] (fun _ : Unit => [(37, ptr b), (39, i64 v), (47, .bool (decide (op = 2 ∨ op = 3)))]) (fun _ σ' Γ' => σ = σ' ∧ Γ' = [Judge b (.slice p n c) (((e.one deep).fail (decide (partsOf op < 0)) 2).fail (decide ((l.length : Int) ≠ partsOf op ∨ (k ≠ 0 ∧ op ≠ 1))) 5), blk g4 [i64 op, i64 v, i64 k, .slice pl l.length cl] 44]) ?_ ?_
    · 
      by_cases h1 : op = 2
      · have hb : decide (op = 2 ∨ op = 3) = true := decide_eq_true (by omega)
        rw [hb]
        refine zO rfl Rd.mv ?_
        first | ((first | refine zW ?_ | refine zQ ?_); refine zO rfl (Rd.fA rfl) ?_) | refine zU ?_ | refine zV ?_ | refine zZ ?_
        first | ((first | refine zW ?_ | refine zQ ?_); refine zO rfl (Rd.ldC rfl (tyrow rfl) rfl) ?_) | refine zU ?_ | refine zV ?_ | refine zZ ?_
        first | ((first | refine zW ?_ | refine zQ ?_); refine zO rfl (Rd.eql rfl rfl) ?_) | refine zU ?_ | refine zV ?_ | refine zZ ?_
        refine zO rfl (by first | exact Rd.pT rfl | exact Rd.pF rfl | exact Rd.pP rfl) ?_
        refine zN ?_; refine zT ?_
        refine ⟨(Keep.upd (Keep.upd (Keep.upd (Keep.upd (Keep.upd (Keep.refl _ _) rfl) rfl) rfl) rfl) rfl), (), _, (by (repeat (first | exact trivial | refine ⟨rfl, ?_⟩ | refine ⟨Eq.trans rfl (congrArg Value.bool hmat.symm), ?_⟩)); (first | done | fail)), ?_, ⟨rfl, rfl⟩⟩
        · exact zE
      · have hb : decide (op = 2 ∨ op = 3) = decide (op = 3) := by rw [decide_eq_decide]; omega
        rw [hb]
        refine zO rfl Rd.mv ?_
        first | ((first | refine zW ?_ | refine zQ ?_); refine zO rfl (Rd.fA rfl) ?_) | refine zU ?_ | refine zV ?_ | refine zZ ?_
        first | ((first | refine zW ?_ | refine zQ ?_); refine zO rfl (Rd.ldC rfl (tyrow rfl) rfl) ?_) | refine zU ?_ | refine zV ?_ | refine zZ ?_
        first | ((first | refine zW ?_ | refine zQ ?_); refine zO rfl (Rd.eql rfl rfl) ?_) | refine zU ?_ | refine zV ?_ | refine zZ ?_
        refine zO rfl (by first | exact Rd.pT rfl | exact Rd.pF rfl | exact Rd.pP rfl) ?_
        refine zN ?_; refine zT ?_
        refine ⟨(Keep.upd (Keep.upd (Keep.upd (Keep.upd (Keep.upd (Keep.refl _ _) rfl) rfl) rfl) rfl) rfl), (), _, (by (repeat (first | exact trivial | refine ⟨rfl, ?_⟩ | refine ⟨Eq.trans rfl (congrArg Value.bool hmat.symm), ?_⟩)); (first | done | fail)), ?_, ⟨rfl, rfl⟩⟩
        · exact zE
    rintro - δ2 _ _ ⟨rfl, rfl⟩
    dsimp only [ovr, List.foldl]
    refine XOA.wr0 rfl (WrA.cE (named_a σ b p n c _ v (decide (op = 2 ∨ op = 3))) rfl) ?_
    rintro _ _ _ ⟨_, ⟨rfl, rfl, rfl⟩, rfl⟩
    refine XOA.cl ?_
    refine zN ?_; refine zT ?_; refine zS ?_; refine zR ?_; refine zO rfl (Rd.fA rfl) ?_; refine zO rfl (Rd.ldC rfl (tyrow rfl) rfl) ?_; refine zO rfl (Rd.lenSlice (tyrow rfl) rfl rfl) ?_; refine zO rfl Rd.mv ?_; refine zN ?_; refine zT ?_
    refine XA.block ?_
    refine XA.gen [(0, _), (2, _), (50, _), (51, _), (52, _)] ⟨(by with_reducible (conv => lhs; whnf)), (by with_reducible (conv => lhs; whnf)), (by with_reducible (conv => lhs; whnf)), (by with_reducible (conv => lhs; whnf)), (by with_reducible (conv => lhs; whnf)), trivial⟩ (fun δ => ?_)
    dsimp only [List.foldl]
    refine XA.loop [(8, 8), (52, 66)] (fun q : Nat => [(52, i64 q)]) (fun q σ' Γ' => σ = σ' ∧ q ≤ l.length ∧ Γ' = [Judge b (.slice p n c) (exsE n (deep + 1) (l.take q) (exHead n deep op v k l.length e)), blk g4 [i64 op, i64 v, i64 k, .slice pl l.length cl] 44]) (fun q => l.length - q) 0 (by exact ⟨rfl, trivial⟩) (Δ0 := _) ?_ (⟨rfl, Nat.zero_le _, rfl⟩) ?_
    · rw [List.take_zero, exsE]; exact zE
    rintro q δ _ _ ⟨rfl, hq, rfl⟩
    dsimp only [ovr, List.foldl]
    refine zS ?_; refine zR ?_; refine zO rfl (Rd.lss rfl rfl) ?_; refine zN ?_; refine zT ?_; refine zS ?_
    refine XA.condp rfl (fun hlt => ?_) (fun hlt => ?_)
    · have hlt : q < l.length := by omega
      obtain ⟨x', hx'⟩ : ∃ x', l[q]? = some x' := ⟨_, List.getElem?_eq_getElem hlt⟩
      obtain ⟨g, o, row, rfl, hrx, hrl, hrow⟩ := hl.at hx'
      have hone := hrx.ones
      have e1 := exsE_snoc n (deep + 1) l q x' (exHead n deep op v k l.length e) hx'
      have hin2 : (exsE n (deep + 1) (l.take q) (exHead n deep op v k l.length e)).in_ := in_of (Down.exsE n (l.take q)) (in_of (Down.exHead n op v k l.length) hin deep) (deep + 1)
      refine XA.skip ?_
      refine zT ?_; refine zS ?_
      refine XA.block ?_
      refine zS ?_; refine zR ?_
      refine zO rfl (Rd.ixS rfl rfl) ?_
      refine zO rfl (Rd.ldA rfl) ?_
      refine XOA.wr0 rfl (WrA.alloc (tyrow rfl)) ?_
      rintro _ _ _ ⟨g8, rfl, rfl, rfl⟩
      refine XOA.wr0 rfl (WrA.st (tyrow rfl) rfl) ?_
      rintro _ _ _ ⟨rfl, rfl, rfl⟩
      refine zN ?_; refine zT ?_; refine zS ?_; refine zR ?_; refine zO rfl Rd.mv ?_
      cases hst : exsE n (deep + 1) (l.take q) (exHead n deep op v k l.length e) with
      | error c' =>
        rw [hst, exE_err] at e1
        first | refine XA.opn (R := Judge b (.slice p n c) (.error c')) (by ((repeat (first | with_reducible exact Sel.head | apply Sel.tail)); (first | done | fail))) (Judge.errO) ?_ | refine XOA.opn (R := Judge b (.slice p n c) (.error c')) (by ((repeat (first | with_reducible exact Sel.head | apply Sel.tail)); (first | done | fail))) (Judge.errO) ?_ | refine DA.opn (R := Judge b (.slice p n c) (.error c')) (by ((repeat (first | with_reducible exact Sel.head | apply Sel.tail)); (first | done | fail))) (Judge.errO) ?_
        rintro lf h0
        first | refine XA.cl ?_ | refine XOA.cl ?_ | refine DA.cl ?_
        refine zO rfl (Rd.nilCheck rfl) ?_; refine zO rfl (Rd.fA rfl) ?_; refine zO rfl (Rd.ldC rfl (tyrow rfl) rfl) ?_; refine zO rfl (Rd.eql rfl rfl) ?_; refine zN ?_; refine zT ?_
        refine XA.condF rfl (decide_eq_false h0) ?_
        refine XA.skip ?_
        refine DA.inb_normal ?_
        refine zT ?_; refine zR ?_
        refine zO rfl (by first | exact Rd.adi rfl rfl | exact Rd.add rfl rfl) ?_
        refine zO rfl Rd.mv ?_; refine zN ?_; refine zT ?_
        refine ⟨(Keep.upd (Keep.upd (Keep.upd (Keep.upd (Keep.upd (Keep.upd (Keep.upd (Keep.updN (Keep.updO (Keep.upd (Keep.upd (Keep.upd (Keep.upd (Keep.hav (Keep.hav (Keep.refl _ _) rfl) rfl) rfl) rfl) rfl) rfl) rfl)) rfl) rfl) rfl) rfl) rfl) rfl) rfl), q + 1, [Judge b (.slice p n c) (.error c'), _], (by (repeat (first | exact trivial | refine ⟨rfl, ?_⟩ | refine ⟨Eq.trans rfl (congrArg Value.bool hmat.symm), ?_⟩)); (first | done | fail)), ?_, ⟨rfl, hlt, by rw [e1]⟩, (by omega)⟩
        · exact Ent.foldC (Θ := [_]) (by (repeat (first | exact Ent.all _ | (apply Ent.take; focus (first | ((repeat (first | with_reducible exact Sel.head | apply Sel.tail)); done) | ((repeat (first | exact Sel.head | apply Sel.tail)); done))) | apply Ent.takeNil | apply Ent.takeEmp)); (first | done | fail)) (Judge.mkE h0) zE
      | ok a =>
        rw [hst] at e1 hin2
        first | refine XA.opn (R := Judge b (.slice p n c) (.ok a)) (by ((repeat (first | with_reducible exact Sel.head | apply Sel.tail)); (first | done | fail))) (Judge.okO) ?_ | refine XOA.opn (R := Judge b (.slice p n c) (.ok a)) (by ((repeat (first | with_reducible exact Sel.head | apply Sel.tail)); (first | done | fail))) (Judge.okO) ?_ | refine DA.opn (R := Judge b (.slice p n c) (.ok a)) (by ((repeat (first | with_reducible exact Sel.head | apply Sel.tail)); (first | done | fail))) (Judge.okO) ?_
        rintro ⟨⟩ -
        first | refine XA.cl ?_ | refine XOA.cl ?_ | refine DA.cl ?_
        refine zO rfl (Rd.nilCheck rfl) ?_; refine zO rfl (Rd.fA rfl) ?_; refine zO rfl (Rd.ldC rfl (tyrow rfl) rfl) ?_; refine zO rfl (Rd.eql rfl rfl) ?_; refine zN ?_; refine zT ?_
        refine XA.condT rfl rfl ?_
        refine zR ?_; refine zO rfl Rd.mv ?_; refine zO rfl (Rd.ldA rfl) ?_; refine zO rfl Rd.mv ?_
        refine zO rfl (by first | exact Rd.adi rfl rfl | exact Rd.add rfl rfl) ?_
        refine XOA.ent (Ent.foldC (Θ := [_]) (by (repeat (first | exact Ent.all _ | (apply Ent.take; focus (first | ((repeat (first | with_reducible exact Sel.head | apply Sel.tail)); done) | ((repeat (first | exact Sel.head | apply Sel.tail)); done))) | apply Ent.takeNil | apply Ent.takeEmp)); (first | done | fail)) (Judge.mkO (l := a)) (Ent.refl _)) ?_
        refine XOA.wr0 rfl (WrA.cE (ih x' (List.mem_of_getElem? hx') row b p n c (.ok a) (deep + 1) hrx hin2 (by omega) (by omega)) rfl) ?_
        rintro _ _ _ ⟨_, ⟨rfl, rfl, rfl⟩, rfl⟩
        refine XOA.cl ?_
        refine zN ?_
        refine DA.inb_normal ?_
        refine zT ?_; refine zR ?_
        refine zO rfl (by first | exact Rd.adi rfl rfl | exact Rd.add rfl rfl) ?_
        refine zO rfl Rd.mv ?_; refine zN ?_; refine zT ?_
        refine ⟨(Keep.upd (Keep.upd (Keep.updO (Keep.upd (Keep.upd (Keep.upd (Keep.upd (Keep.upd (Keep.upd (Keep.upd (Keep.upd (Keep.upd (Keep.updN (Keep.updO (Keep.upd (Keep.upd (Keep.upd (Keep.upd (Keep.hav (Keep.hav (Keep.refl _ _) rfl) rfl) rfl) rfl) rfl) rfl) rfl)) rfl) rfl) rfl) rfl) rfl) rfl) rfl) rfl) rfl) rfl) rfl) rfl), q + 1, _, (by (repeat (first | exact trivial | refine ⟨rfl, ?_⟩ | refine ⟨Eq.trans rfl (congrArg Value.bool hmat.symm), ?_⟩)); (first | done | fail)), ?_, ⟨rfl, hlt, by rw [e1]⟩, (by omega)⟩
        · exact zE
    have hqn : q = l.length := by omega
    subst hqn
    rw [List.take_length]
    refine XA.exit ?_
    refine DA.thn_exit ?_
    refine DA.thn_exit ?_
    refine DA.inb_same ?_
    exact bodyA.normal (ResA.none rfl) zE ⟨rfl, rfl, rfl⟩
end Go.Proofs.Ytbbghdkndbpmmaa
