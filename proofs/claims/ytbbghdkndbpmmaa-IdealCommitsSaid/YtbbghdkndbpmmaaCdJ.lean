/- Package code: the judge. -/
import Derived.Test.YtbbghdkndbpmmaaCd
namespace Go.Proofs.Ytbbghdkndbpmmaa
open Go X
set_option maxHeartbeats 1000000
/-- A judge: what it knows of variables, and what is left, or a code. -/
def Judge (b : Nat) (vs : Value) (e : JE) : HP := fun m => ∃ l c, blk b [vs, i64 l, i64 c] 79 m ∧ match e with | .ok l' => l = l' ∧ c = 0 | .error d => c = d ∧ c ≠ 0
theorem sat1 {R : HP} {m : PH} (h : R m) : Sat [R] m := ⟨m, PH.none, h, trivial, PH.none_dis m, .refl m, PH.none_sub m⟩
theorem of_sat1 {R : HP} {m : PH} (mono : ∀ m m', R m → m.sub m' → R m') (h : Sat [R] m) : R m := by
  obtain ⟨m1, m2, a, -, -, b, -⟩ := h
  exact mono _ _ a b
theorem blk_mono {g : Nat} {l : List Value} {T : TypeId} : ∀ m m', blk g l T m → PH.sub m m' → blk g l T m' := fun _ _ h s => s _ _ h
theorem Judge.okO {b : Nat} {vs : Value} {l : Int} : ∀ m, Judge b vs (.ok l) m → ∃ _ : Unit, True ∧ Sat [blk b [vs, i64 l, i64 0] 79] m := by
  rintro m ⟨l', c, h, rfl, rfl⟩; exact ⟨(), trivial, sat1 h⟩
theorem Judge.errO {b : Nat} {vs : Value} {c : Int} : ∀ m, Judge b vs (.error c) m → ∃ l : Int, c ≠ 0 ∧ Sat [blk b [vs, i64 l, i64 c] 79] m := by
  rintro m ⟨l', c', h, rfl, h0⟩; exact ⟨l', h0, sat1 h⟩
theorem Judge.mkO {b : Nat} {vs : Value} {l : Int} : ∀ m, Sat [blk b [vs, i64 l, i64 0] 79] m → Judge b vs (.ok l) m := fun m h => ⟨l, 0, of_sat1 blk_mono h, rfl, rfl⟩
theorem Judge.mkE {b : Nat} {vs : Value} {l c : Int} (h0 : c ≠ 0) : ∀ m, Sat [blk b [vs, i64 l, i64 c] 79] m → Judge b vs (.error c) m := fun m h => ⟨l, c, of_sat1 blk_mono h, rfl, h0⟩
theorem fail_a (σ : PH) (b : Nat) (vs : Value) (e : JE) (is : Bool) (c : Int) (hc : c ≠ 0) :
    CallsA Try.prog 81 #[ptr b, .bool is, i64 c] σ [Judge b vs e] (RetA fun v σ' Γ' => v = .tuple #[] ∧ σ = σ' ∧ Γ' = [Judge b vs (e.fail is c)]) := by
  cases is with
  | false =>
    refine enterA3 Try.func81 rfl rfl rfl ?_
    refine zS ?_; refine zR ?_; refine zO rfl Rd.mv ?_; refine zO rfl Rd.mv ?_
    first | ((first | refine zW ?_ | refine zQ ?_); refine zO rfl Rd.mv ?_) | refine zU ?_ | refine zV ?_ | refine zZ ?_
    first | ((first | refine zW ?_ | refine zQ ?_); refine zO rfl (Rd.nilCheck rfl) ?_) | refine zU ?_ | refine zV ?_ | refine zZ ?_
    first | ((first | refine zW ?_ | refine zQ ?_); refine zO rfl (Rd.fA rfl) ?_) | refine zU ?_ | refine zV ?_ | refine zZ ?_
    first | ((first | refine zW ?_ | refine zQ ?_); refine zO rfl (Rd.ldC rfl (tyrow rfl) rfl) ?_) | refine zU ?_ | refine zV ?_ | refine zZ ?_
    first | ((first | refine zW ?_ | refine zQ ?_); refine zO rfl (Rd.eql rfl rfl) ?_) | refine zU ?_ | refine zV ?_ | refine zZ ?_
    refine zO rfl (by first | exact Rd.pT rfl | exact Rd.pF rfl | exact Rd.pP rfl) ?_
    refine zN ?_; refine zT ?_
    refine XA.condF rfl rfl ?_
    refine XA.skip ?_
    exact bodyA.normal (ResA.none rfl) (Ent.refl _) ⟨rfl, rfl, by rw [fail_false]⟩
  | true =>
    cases e with
    | ok l =>
      refine enterA3 Try.func81 rfl rfl rfl ?_
      refine zS ?_; refine zR ?_; refine zO rfl Rd.mv ?_; refine zO rfl Rd.mv ?_
      first | ((first | refine zW ?_ | refine zQ ?_); refine zO rfl Rd.mv ?_) | refine zU ?_ | refine zV ?_ | refine zZ ?_
      first | refine XA.opn (R := Judge b vs (.ok l)) (by ((repeat (first | with_reducible exact Sel.head | apply Sel.tail)); (first | done | fail))) (Judge.okO) ?_ | refine XOA.opn (R := Judge b vs (.ok l)) (by ((repeat (first | with_reducible exact Sel.head | apply Sel.tail)); (first | done | fail))) (Judge.okO) ?_ | refine DA.opn (R := Judge b vs (.ok l)) (by ((repeat (first | with_reducible exact Sel.head | apply Sel.tail)); (first | done | fail))) (Judge.okO) ?_
      rintro ⟨⟩ -
      first | refine XA.cl ?_ | refine XOA.cl ?_ | refine DA.cl ?_
      first | ((first | refine zW ?_ | refine zQ ?_); refine zO rfl (Rd.nilCheck rfl) ?_) | refine zU ?_ | refine zV ?_ | refine zZ ?_
      first | ((first | refine zW ?_ | refine zQ ?_); refine zO rfl (Rd.fA rfl) ?_) | refine zU ?_ | refine zV ?_ | refine zZ ?_
      first | ((first | refine zW ?_ | refine zQ ?_); refine zO rfl (Rd.ldC rfl (tyrow rfl) rfl) ?_) | refine zU ?_ | refine zV ?_ | refine zZ ?_
      first | ((first | refine zW ?_ | refine zQ ?_); refine zO rfl (Rd.eql rfl rfl) ?_) | refine zU ?_ | refine zV ?_ | refine zZ ?_
      refine zO rfl (by first | exact Rd.pT rfl | exact Rd.pF rfl | exact Rd.pP rfl) ?_
      refine zN ?_; refine zT ?_
      refine XA.condT rfl rfl ?_
      refine zR ?_; refine zO rfl Rd.mv ?_; refine zO rfl Rd.mv ?_; refine zO rfl (Rd.nilCheck rfl) ?_; refine zO rfl (Rd.fA rfl) ?_
      refine XOA.wr0 rfl (WrA.st (tyrow rfl) rfl) ?_
      rintro _ _ _ ⟨rfl, rfl, rfl⟩
      refine zN ?_
      exact bodyA.normal (ResA.none rfl) (Ent.fold1 zE (Judge.mkE hc)) ⟨rfl, rfl, rfl⟩
    | error d =>
      refine enterA3 Try.func81 rfl rfl rfl ?_
      refine zS ?_; refine zR ?_; refine zO rfl Rd.mv ?_; refine zO rfl Rd.mv ?_
      first | ((first | refine zW ?_ | refine zQ ?_); refine zO rfl Rd.mv ?_) | refine zU ?_ | refine zV ?_ | refine zZ ?_
      first | refine XA.opn (R := Judge b vs (.error d)) (by ((repeat (first | with_reducible exact Sel.head | apply Sel.tail)); (first | done | fail))) (Judge.errO) ?_ | refine XOA.opn (R := Judge b vs (.error d)) (by ((repeat (first | with_reducible exact Sel.head | apply Sel.tail)); (first | done | fail))) (Judge.errO) ?_ | refine DA.opn (R := Judge b vs (.error d)) (by ((repeat (first | with_reducible exact Sel.head | apply Sel.tail)); (first | done | fail))) (Judge.errO) ?_
      rintro l h0
      first | refine XA.cl ?_ | refine XOA.cl ?_ | refine DA.cl ?_
      first | ((first | refine zW ?_ | refine zQ ?_); refine zO rfl (Rd.nilCheck rfl) ?_) | refine zU ?_ | refine zV ?_ | refine zZ ?_
      first | ((first | refine zW ?_ | refine zQ ?_); refine zO rfl (Rd.fA rfl) ?_) | refine zU ?_ | refine zV ?_ | refine zZ ?_
      first | ((first | refine zW ?_ | refine zQ ?_); refine zO rfl (Rd.ldC rfl (tyrow rfl) rfl) ?_) | refine zU ?_ | refine zV ?_ | refine zZ ?_
      first | ((first | refine zW ?_ | refine zQ ?_); refine zO rfl (Rd.eql rfl rfl) ?_) | refine zU ?_ | refine zV ?_ | refine zZ ?_
      refine zO rfl (by first | exact Rd.pT rfl | exact Rd.pF rfl | exact Rd.pP rfl) ?_
      refine zN ?_; refine zT ?_
      refine XA.condF rfl (decide_eq_false h0) ?_
      refine XA.skip ?_
      exact bodyA.normal (ResA.none rfl) (Ent.fold1 zE (Judge.mkE h0)) ⟨rfl, rfl, rfl⟩
theorem fail_okT (l c : Int) : JE.fail (.ok l) true c = .error c := rfl
def JE.isOk : JE → Bool | .ok _ => true | .error _ => false
def JE.in_ (e : JE) : Prop := ∀ l, e = .ok l → 0 ≤ l ∧ l ≤ 150
theorem one_a (σ : PH) (b : Nat) (vs : Value) (e : JE) (deep : Int) (hl : e.in_) :
    CallsA Try.prog 80 #[ptr b, i64 deep] σ [Judge b vs e] (RetA fun v σ' Γ' => v = .bool (e.one deep).isOk ∧ σ = σ' ∧ Γ' = [Judge b vs (e.one deep)]) := by
  refine enterA2 Try.func80 rfl rfl rfl ?_
  refine zS ?_; refine zR ?_; refine zO rfl Rd.asg ?_; refine zN ?_; refine zT ?_; refine zS ?_; refine zR ?_; refine zO rfl Rd.mv ?_; refine zO rfl Rd.mv ?_
  refine zO rfl (Rd.gtr rfl rfl) ?_
  refine XOA.wr0 rfl (WrA.cE (fail_a σ b vs e (decide (12 < deep)) 4 (by decide)) rfl) ?_
  rintro _ _ _ ⟨_, ⟨rfl, rfl, rfl⟩, rfl⟩
  refine XOA.cl ?_
  cases e with
  | error c =>
    rw [fail_err]
    refine zN ?_; refine zT ?_; refine zS ?_; refine zR ?_; refine zO rfl Rd.mv ?_; refine zO rfl Rd.mv ?_
    first | refine XA.opn (R := Judge b vs (.error c)) (by ((repeat (first | with_reducible exact Sel.head | apply Sel.tail)); (first | done | fail))) (Judge.errO) ?_ | refine XOA.opn (R := Judge b vs (.error c)) (by ((repeat (first | with_reducible exact Sel.head | apply Sel.tail)); (first | done | fail))) (Judge.errO) ?_ | refine DA.opn (R := Judge b vs (.error c)) (by ((repeat (first | with_reducible exact Sel.head | apply Sel.tail)); (first | done | fail))) (Judge.errO) ?_
    rintro l h0
    first | refine XA.cl ?_ | refine XOA.cl ?_ | refine DA.cl ?_
    refine zO rfl (Rd.nilCheck rfl) ?_; refine zO rfl (Rd.fA rfl) ?_; refine zO rfl (Rd.ldC rfl (tyrow rfl) rfl) ?_; refine zO rfl (Rd.eql rfl rfl) ?_
    refine XOA.ent (Δ := [Judge b vs (.error c)]) (Ent.fold1 zE (Judge.mkE h0)) ?_
    refine XOA.wr0 rfl (WrA.cE (fail_a σ b vs (.error c) (decide (l = 0)) 3 (by decide)) rfl) ?_
    rintro _ _ _ ⟨_, ⟨rfl, rfl, rfl⟩, rfl⟩
    refine XOA.cl ?_
    rw [fail_err]
    refine zN ?_; refine zT ?_; refine zS ?_; refine zR ?_; refine zO rfl Rd.mv ?_
    first | refine XA.opn (R := Judge b vs (.error c)) (by ((repeat (first | with_reducible exact Sel.head | apply Sel.tail)); (first | done | fail))) (Judge.errO) ?_ | refine XOA.opn (R := Judge b vs (.error c)) (by ((repeat (first | with_reducible exact Sel.head | apply Sel.tail)); (first | done | fail))) (Judge.errO) ?_ | refine DA.opn (R := Judge b vs (.error c)) (by ((repeat (first | with_reducible exact Sel.head | apply Sel.tail)); (first | done | fail))) (Judge.errO) ?_
    rintro l2 h2
    first | refine XA.cl ?_ | refine XOA.cl ?_ | refine DA.cl ?_
    refine zO rfl (Rd.nilCheck rfl) ?_; refine zO rfl (Rd.fA rfl) ?_; refine zO rfl (Rd.ldC rfl (tyrow rfl) rfl) ?_
    refine zO rfl (by first | exact Rd.sbi rfl rfl | exact Rd.sub rfl rfl) ?_
    refine zO rfl (Rd.nilCheck rfl) ?_; refine zO rfl (Rd.fA rfl) ?_
    refine XOA.wr0 rfl (WrA.st (tyrow rfl) rfl) ?_
    rintro _ _ _ ⟨rfl, rfl, rfl⟩
    refine zN ?_; refine zT ?_; refine zS ?_; refine zR ?_; refine zO rfl Rd.mv ?_; refine zO rfl (Rd.nilCheck rfl) ?_; refine zO rfl (Rd.fA rfl) ?_; refine zO rfl (Rd.ldC rfl (tyrow rfl) rfl) ?_; refine zO rfl (Rd.eql rfl rfl) ?_; refine zO rfl Rd.asg ?_; refine zN ?_; refine zT ?_
    refine XA.ret ?_
    refine bodyA.ret (ResA.one rfl rfl) (Ent.fold1 zE (Judge.mkE h0)) ⟨?_, rfl, rfl⟩
    rw [decide_eq_false h0]; rfl
  | ok l =>
    obtain ⟨l0, l1⟩ := hl l rfl
    by_cases hd : 12 < deep
    · rw [decide_eq_true hd, fail_okT]
      refine zN ?_; refine zT ?_; refine zS ?_; refine zR ?_; refine zO rfl Rd.mv ?_; refine zO rfl Rd.mv ?_
      first | refine XA.opn (R := Judge b vs (.error 4)) (by ((repeat (first | with_reducible exact Sel.head | apply Sel.tail)); (first | done | fail))) (Judge.errO) ?_ | refine XOA.opn (R := Judge b vs (.error 4)) (by ((repeat (first | with_reducible exact Sel.head | apply Sel.tail)); (first | done | fail))) (Judge.errO) ?_ | refine DA.opn (R := Judge b vs (.error 4)) (by ((repeat (first | with_reducible exact Sel.head | apply Sel.tail)); (first | done | fail))) (Judge.errO) ?_
      rintro l2 -
      first | refine XA.cl ?_ | refine XOA.cl ?_ | refine DA.cl ?_
      refine zO rfl (Rd.nilCheck rfl) ?_; refine zO rfl (Rd.fA rfl) ?_; refine zO rfl (Rd.ldC rfl (tyrow rfl) rfl) ?_; refine zO rfl (Rd.eql rfl rfl) ?_
      refine XOA.ent (Δ := [Judge b vs (.error 4)]) (Ent.fold1 zE (Judge.mkE (by decide))) ?_
      refine XOA.wr0 rfl (WrA.cE (fail_a σ b vs (.error 4) (decide (l2 = 0)) 3 (by decide)) rfl) ?_
      rintro _ _ _ ⟨_, ⟨rfl, rfl, rfl⟩, rfl⟩
      refine XOA.cl ?_
      rw [fail_err]
      refine zN ?_; refine zT ?_; refine zS ?_; refine zR ?_; refine zO rfl Rd.mv ?_
      first | refine XA.opn (R := Judge b vs (.error 4)) (by ((repeat (first | with_reducible exact Sel.head | apply Sel.tail)); (first | done | fail))) (Judge.errO) ?_ | refine XOA.opn (R := Judge b vs (.error 4)) (by ((repeat (first | with_reducible exact Sel.head | apply Sel.tail)); (first | done | fail))) (Judge.errO) ?_ | refine DA.opn (R := Judge b vs (.error 4)) (by ((repeat (first | with_reducible exact Sel.head | apply Sel.tail)); (first | done | fail))) (Judge.errO) ?_
      rintro l3 -
      first | refine XA.cl ?_ | refine XOA.cl ?_ | refine DA.cl ?_
      refine zO rfl (Rd.nilCheck rfl) ?_; refine zO rfl (Rd.fA rfl) ?_; refine zO rfl (Rd.ldC rfl (tyrow rfl) rfl) ?_
      refine zO rfl (by first | exact Rd.sbi rfl rfl | exact Rd.sub rfl rfl) ?_
      refine zO rfl (Rd.nilCheck rfl) ?_; refine zO rfl (Rd.fA rfl) ?_
      refine XOA.wr0 rfl (WrA.st (tyrow rfl) rfl) ?_
      rintro _ _ _ ⟨rfl, rfl, rfl⟩
      refine zN ?_; refine zT ?_; refine zS ?_; refine zR ?_; refine zO rfl Rd.mv ?_; refine zO rfl (Rd.nilCheck rfl) ?_; refine zO rfl (Rd.fA rfl) ?_; refine zO rfl (Rd.ldC rfl (tyrow rfl) rfl) ?_; refine zO rfl (Rd.eql rfl rfl) ?_; refine zO rfl Rd.asg ?_; refine zN ?_; refine zT ?_
      refine XA.ret ?_
      refine bodyA.ret (ResA.one rfl rfl) (Ent.fold1 (Γ := _) (Θ := [blk b [vs, _, i64 4] 79]) zE (Judge.mkE (by decide))) ⟨?_, rfl, ?_⟩
      · simp [JE.one, hd, JE.isOk]
      · simp [JE.one, hd]
    · rw [decide_eq_false hd, fail_false]
      refine zN ?_; refine zT ?_; refine zS ?_; refine zR ?_; refine zO rfl Rd.mv ?_; refine zO rfl Rd.mv ?_
      first | refine XA.opn (R := Judge b vs (.ok l)) (by ((repeat (first | with_reducible exact Sel.head | apply Sel.tail)); (first | done | fail))) (Judge.okO) ?_ | refine XOA.opn (R := Judge b vs (.ok l)) (by ((repeat (first | with_reducible exact Sel.head | apply Sel.tail)); (first | done | fail))) (Judge.okO) ?_ | refine DA.opn (R := Judge b vs (.ok l)) (by ((repeat (first | with_reducible exact Sel.head | apply Sel.tail)); (first | done | fail))) (Judge.okO) ?_
      rintro ⟨⟩ -
      first | refine XA.cl ?_ | refine XOA.cl ?_ | refine DA.cl ?_
      refine zO rfl (Rd.nilCheck rfl) ?_; refine zO rfl (Rd.fA rfl) ?_; refine zO rfl (Rd.ldC rfl (tyrow rfl) rfl) ?_; refine zO rfl (Rd.eql rfl rfl) ?_
      refine XOA.ent (Δ := [Judge b vs (.ok l)]) (Ent.fold1 zE Judge.mkO) ?_
      refine XOA.wr0 rfl (WrA.cE (fail_a σ b vs (.ok l) (decide (l = 0)) 3 (by decide)) rfl) ?_
      rintro _ _ _ ⟨_, ⟨rfl, rfl, rfl⟩, rfl⟩
      refine XOA.cl ?_
      by_cases h0 : l = 0
      · rw [decide_eq_true h0, fail_okT]
        refine zN ?_; refine zT ?_; refine zS ?_; refine zR ?_; refine zO rfl Rd.mv ?_
        first | refine XA.opn (R := Judge b vs (.error 3)) (by ((repeat (first | with_reducible exact Sel.head | apply Sel.tail)); (first | done | fail))) (Judge.errO) ?_ | refine XOA.opn (R := Judge b vs (.error 3)) (by ((repeat (first | with_reducible exact Sel.head | apply Sel.tail)); (first | done | fail))) (Judge.errO) ?_ | refine DA.opn (R := Judge b vs (.error 3)) (by ((repeat (first | with_reducible exact Sel.head | apply Sel.tail)); (first | done | fail))) (Judge.errO) ?_
        rintro l3 -
        first | refine XA.cl ?_ | refine XOA.cl ?_ | refine DA.cl ?_
        refine zO rfl (Rd.nilCheck rfl) ?_; refine zO rfl (Rd.fA rfl) ?_; refine zO rfl (Rd.ldC rfl (tyrow rfl) rfl) ?_
        refine zO rfl (by first | exact Rd.sbi rfl rfl | exact Rd.sub rfl rfl) ?_
        refine zO rfl (Rd.nilCheck rfl) ?_; refine zO rfl (Rd.fA rfl) ?_
        refine XOA.wr0 rfl (WrA.st (tyrow rfl) rfl) ?_
        rintro _ _ _ ⟨rfl, rfl, rfl⟩
        refine zN ?_; refine zT ?_; refine zS ?_; refine zR ?_; refine zO rfl Rd.mv ?_; refine zO rfl (Rd.nilCheck rfl) ?_; refine zO rfl (Rd.fA rfl) ?_; refine zO rfl (Rd.ldC rfl (tyrow rfl) rfl) ?_; refine zO rfl (Rd.eql rfl rfl) ?_; refine zO rfl Rd.asg ?_; refine zN ?_; refine zT ?_
        refine XA.ret ?_
        refine bodyA.ret (ResA.one rfl rfl) (Ent.fold1 (Γ := _) (Θ := [blk b [vs, _, i64 3] 79]) zE (Judge.mkE (by decide))) ⟨?_, rfl, ?_⟩
        · simp [JE.one, hd, h0, JE.isOk]
        · simp [JE.one, hd, h0]
      · rw [decide_eq_false h0, fail_false]
        refine zN ?_; refine zT ?_; refine zS ?_; refine zR ?_; refine zO rfl Rd.mv ?_
        first | refine XA.opn (R := Judge b vs (.ok l)) (by ((repeat (first | with_reducible exact Sel.head | apply Sel.tail)); (first | done | fail))) (Judge.okO) ?_ | refine XOA.opn (R := Judge b vs (.ok l)) (by ((repeat (first | with_reducible exact Sel.head | apply Sel.tail)); (first | done | fail))) (Judge.okO) ?_ | refine DA.opn (R := Judge b vs (.ok l)) (by ((repeat (first | with_reducible exact Sel.head | apply Sel.tail)); (first | done | fail))) (Judge.okO) ?_
        rintro ⟨⟩ -
        first | refine XA.cl ?_ | refine XOA.cl ?_ | refine DA.cl ?_
        refine zO rfl (Rd.nilCheck rfl) ?_; refine zO rfl (Rd.fA rfl) ?_; refine zO rfl (Rd.ldC rfl (tyrow rfl) rfl) ?_
        refine zO rfl (by first | exact Rd.sbi rfl rfl | exact Rd.sub rfl rfl) ?_
        refine zO rfl (Rd.nilCheck rfl) ?_; refine zO rfl (Rd.fA rfl) ?_
        refine XOA.wr0 rfl (WrA.st (tyrow rfl) rfl) ?_
        rintro _ _ _ ⟨rfl, rfl, rfl⟩
        refine zN ?_; refine zT ?_; refine zS ?_; refine zR ?_; refine zO rfl Rd.mv ?_; refine zO rfl (Rd.nilCheck rfl) ?_; refine zO rfl (Rd.fA rfl) ?_; refine zO rfl (Rd.ldC rfl (tyrow rfl) rfl) ?_; refine zO rfl (Rd.eql rfl rfl) ?_; refine zO rfl Rd.asg ?_; refine zN ?_; refine zT ?_
        refine XA.ret ?_
        refine bodyA.ret (ResA.one rfl rfl) (Ent.fold1 (Θ := [blk b [vs, i64 (l - 1), i64 0] 79]) zE Judge.mkO) ⟨?_, rfl, ?_⟩
        · simp [JE.one, hd, h0, JE.isOk]
        · simp [JE.one, hd, h0]
end Go.Proofs.Ytbbghdkndbpmmaa
