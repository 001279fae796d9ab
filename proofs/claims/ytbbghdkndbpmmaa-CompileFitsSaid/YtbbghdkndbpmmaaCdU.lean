/- The reference's judge: what it looks at. -/
import Derived.Test.YtbbghdkndbpmmaaCdT
namespace Go.Proofs.Ytbbghdkndbpmmaa
open Go X
set_option maxHeartbeats 1000000
/-- looking: how many were met, or a code. -/
def Look (b : Nat) (vs bs : Value) (e : JE) : HP := fun m => ∃ n c, blk b [vs, bs, i64 n, i64 c] 83 m ∧ match e with | .ok l => n = 150 - l ∧ c = 0 | .error d => c = d ∧ c ≠ 0
theorem Look.okO {b : Nat} {vs bs : Value} {l : Int} : ∀ m, Look b vs bs (.ok l) m → ∃ _ : Unit, True ∧ Sat [blk b [vs, bs, i64 (150 - l), i64 0] 83] m := by
  rintro m ⟨l', c, h, rfl, rfl⟩; exact ⟨(), trivial, sat1 h⟩
theorem Look.errO {b : Nat} {vs bs : Value} {c : Int} : ∀ m, Look b vs bs (.error c) m → ∃ n : Int, c ≠ 0 ∧ Sat [blk b [vs, bs, i64 n, i64 c] 83] m := by
  rintro m ⟨l', c', h, rfl, h0⟩; exact ⟨l', h0, sat1 h⟩
theorem Look.mkO {b : Nat} {vs bs : Value} {l n : Int} (hn : n = 150 - l) : ∀ m, Sat [blk b [vs, bs, i64 n, i64 0] 83] m → Look b vs bs (.ok l) m := fun m h => ⟨n, 0, of_sat1 blk_mono h, hn, rfl⟩
theorem Look.mkE {b : Nat} {vs bs : Value} {n c : Int} (h0 : c ≠ 0) : ∀ m, Sat [blk b [vs, bs, i64 n, i64 c] 83] m → Look b vs bs (.error c) m := fun m h => ⟨n, c, of_sat1 blk_mono h, rfl, h0⟩
theorem Look.anyD {b : Nat} {vs bs : Value} {e : JE} : ∀ m, Look b vs bs e m → ∃ x : Int × Int, (decide (x.2 = 0) = e.isOk ∧ ∀ m', Sat [blk b [vs, bs, i64 x.1, i64 x.2] 83] m' → Look b vs bs e m') ∧ Sat [blk b [vs, bs, i64 x.1, i64 x.2] 83] m := by
  rintro m ⟨l', c, h, h0⟩
  refine ⟨(l', c), ⟨?_, fun m' h' => ⟨l', c, of_sat1 blk_mono h', h0⟩⟩, sat1 h⟩
  cases e with
  | ok l => obtain ⟨-, rfl⟩ := h0; rfl
  | error d => obtain ⟨-, h0⟩ := h0; exact decide_eq_false h0
/-- A judge of whom the count is not looked at. -/
theorem bad_c (σ : PH) (b : Nat) (vs bs : Value) (n c0 : Int) (is : Bool) (c : Int) :
    CallsA Try.prog 65 #[ptr b, .bool is, i64 c] σ [blk b [vs, bs, i64 n, i64 c0] 83] (RetA fun v σ' Γ' => v = .tuple #[] ∧ σ = σ' ∧ Γ' = [blk b [vs, bs, i64 n, i64 (if is ∧ c0 = 0 then c else c0)] 83]) := by
  cases is with
  | false =>
    refine enterA3 Try.func65 rfl rfl rfl ?_
    refine zS ?_; refine zR ?_; refine zO rfl Rd.mv ?_; refine zO rfl Rd.mv ?_
    first | ((first | refine zW ?_ | refine zQ ?_); refine zO rfl Rd.mv ?_) | refine zU ?_ | refine zV ?_ | refine zZ ?_
    first | ((first | refine zW ?_ | refine zQ ?_); refine zO rfl (Rd.nilCheck rfl) ?_) | refine zU ?_ | refine zV ?_ | refine zZ ?_
    first | ((first | refine zW ?_ | refine zQ ?_); refine zO rfl (Rd.fA rfl) ?_) | refine zU ?_ | refine zV ?_ | refine zZ ?_
    first | ((first | refine zW ?_ | refine zQ ?_); refine zO rfl (Rd.ldC rfl (tyrow rfl) rfl) ?_) | refine zU ?_ | refine zV ?_ | refine zZ ?_
    first | ((first | refine zW ?_ | refine zQ ?_); refine zO rfl (Rd.eql rfl rfl) ?_) | refine zU ?_ | refine zV ?_ | refine zZ ?_
    refine zO rfl (by first | exact Rd.pT rfl | exact Rd.pF rfl | exact Rd.pP rfl) ?_
    refine zN ?_; refine zT ?_
    refine XA.condF rfl rfl ?_
    refine XA.skip ?_
    exact bodyA.normal (ResA.none rfl) (Ent.refl _) ⟨rfl, rfl, by simp⟩
  | true =>
    by_cases h0 : c0 = 0
    · subst h0
      refine enterA3 Try.func65 rfl rfl rfl ?_
      refine zS ?_; refine zR ?_; refine zO rfl Rd.mv ?_; refine zO rfl Rd.mv ?_
      first | ((first | refine zW ?_ | refine zQ ?_); refine zO rfl Rd.mv ?_) | refine zU ?_ | refine zV ?_ | refine zZ ?_
      first | ((first | refine zW ?_ | refine zQ ?_); refine zO rfl (Rd.nilCheck rfl) ?_) | refine zU ?_ | refine zV ?_ | refine zZ ?_
      first | ((first | refine zW ?_ | refine zQ ?_); refine zO rfl (Rd.fA rfl) ?_) | refine zU ?_ | refine zV ?_ | refine zZ ?_
      first | ((first | refine zW ?_ | refine zQ ?_); refine zO rfl (Rd.ldC rfl (tyrow rfl) rfl) ?_) | refine zU ?_ | refine zV ?_ | refine zZ ?_
      first | ((first | refine zW ?_ | refine zQ ?_); refine zO rfl (Rd.eql rfl rfl) ?_) | refine zU ?_ | refine zV ?_ | refine zZ ?_
      refine zO rfl (by first | exact Rd.pT rfl | exact Rd.pF rfl | exact Rd.pP rfl) ?_
      refine zN ?_; refine zT ?_
      refine XA.condT rfl rfl ?_
      refine zR ?_; refine zO rfl Rd.mv ?_; refine zO rfl Rd.mv ?_; refine zO rfl (Rd.nilCheck rfl) ?_; refine zO rfl (Rd.fA rfl) ?_
      refine XOA.wr0 rfl (WrA.st (tyrow rfl) rfl) ?_
      rintro _ _ _ ⟨rfl, rfl, rfl⟩
      refine zN ?_
      exact bodyA.normal (ResA.none rfl) (Ent.refl _) ⟨rfl, rfl, by simp⟩
    · 
      refine enterA3 Try.func65 rfl rfl rfl ?_
      refine zS ?_; refine zR ?_; refine zO rfl Rd.mv ?_; refine zO rfl Rd.mv ?_
      first | ((first | refine zW ?_ | refine zQ ?_); refine zO rfl Rd.mv ?_) | refine zU ?_ | refine zV ?_ | refine zZ ?_
      first | ((first | refine zW ?_ | refine zQ ?_); refine zO rfl (Rd.nilCheck rfl) ?_) | refine zU ?_ | refine zV ?_ | refine zZ ?_
      first | ((first | refine zW ?_ | refine zQ ?_); refine zO rfl (Rd.fA rfl) ?_) | refine zU ?_ | refine zV ?_ | refine zZ ?_
      first | ((first | refine zW ?_ | refine zQ ?_); refine zO rfl (Rd.ldC rfl (tyrow rfl) rfl) ?_) | refine zU ?_ | refine zV ?_ | refine zZ ?_
      first | ((first | refine zW ?_ | refine zQ ?_); refine zO rfl (Rd.eql rfl rfl) ?_) | refine zU ?_ | refine zV ?_ | refine zZ ?_
      refine zO rfl (by first | exact Rd.pT rfl | exact Rd.pF rfl | exact Rd.pP rfl) ?_
      refine zN ?_; refine zT ?_
      refine XA.condF rfl (decide_eq_false h0) ?_
      refine XA.skip ?_
      exact bodyA.normal (ResA.none rfl) (Ent.refl _) ⟨rfl, rfl, by simp [h0]⟩
theorem CallsA.foldC {P : Program} {f : FuncId} {vs : Array Value} {σ : PH} {Γ Γ' : List HP} {R : HP} {α : Sort _} {φ : α → Prop} {Θ : α → List HP} {RR : Ending → PH → List HP → Prop} (he : Enters P f) (s : Sel Γ R Γ') (ho : ∀ m, R m → ∃ x, φ x ∧ Sat (Θ x) m) (k : ∀ x, φ x → CallsA P f vs σ (Θ x ++ Γ') RR) : CallsA P f vs σ Γ RR := CallsA.opn s ho he k
theorem Ent.one {R S : HP} (h : ∀ m, R m → S m) : Ent [R] [S] := fun m ⟨m1, m2, a, b, c, d, e⟩ => ⟨m1, m2, h _ a, b, c, d, e⟩
theorem bad_a (σ : PH) (b : Nat) (vs bs : Value) (e : JE) (is : Bool) (c : Int) (hc : c ≠ 0) :
    CallsA Try.prog 65 #[ptr b, .bool is, i64 c] σ [Look b vs bs e] (RetA fun v σ' Γ' => v = .tuple #[] ∧ σ = σ' ∧ Γ' = [Look b vs bs (e.fail is c)]) := by
  cases e with
  | ok l =>
    refine CallsA.opn .head Look.okO (enters Try.func65 rfl rfl) ?_
    rintro ⟨⟩ -
    refine (bad_c σ b vs bs (150 - l) 0 is c).conv ?_
    cases is with
    | true => exact Ent.one (fun m h => ⟨150 - l, c, h, rfl, hc⟩)
    | false => exact Ent.one (fun m h => ⟨150 - l, 0, h, rfl, rfl⟩)
  | error d =>
    refine CallsA.opn .head Look.errO (enters Try.func65 rfl rfl) ?_
    rintro n h0
    refine (bad_c σ b vs bs n d is c).conv ?_
    rw [if_neg (fun h => h0 h.2)]
    exact Ent.one (fun m h => ⟨n, d, h, rfl, h0⟩)
theorem head_a (σ : PH) (b : Nat) (vs bs : Value) (e : JE) (deep : Int) (hl : e.in_) :
    CallsA Try.prog 64 #[ptr b, i64 deep] σ [Look b vs bs e] (RetA fun v σ' Γ' => v = .tuple #[] ∧ σ = σ' ∧ Γ' = [Look b vs bs (e.one deep)]) := by
  cases e with
  | error d =>
    refine enterA2 Try.func64 rfl rfl rfl ?_
    refine zS ?_; refine zR ?_; refine zO rfl Rd.mv ?_
    first | refine XA.opn (R := Look b vs bs (.error d)) (by ((repeat (first | with_reducible exact Sel.head | apply Sel.tail)); (first | done | fail))) (Look.errO) ?_ | refine XOA.opn (R := Look b vs bs (.error d)) (by ((repeat (first | with_reducible exact Sel.head | apply Sel.tail)); (first | done | fail))) (Look.errO) ?_ | refine DA.opn (R := Look b vs bs (.error d)) (by ((repeat (first | with_reducible exact Sel.head | apply Sel.tail)); (first | done | fail))) (Look.errO) ?_
    rintro n h0
    first | refine XA.cl ?_ | refine XOA.cl ?_ | refine DA.cl ?_
    refine zO rfl (Rd.nilCheck rfl) ?_; refine zO rfl (Rd.fA rfl) ?_; refine zO rfl (Rd.ldC rfl (tyrow rfl) rfl) ?_
    refine zO rfl (by first | exact Rd.adi rfl rfl | exact Rd.add rfl rfl) ?_
    refine zO rfl (Rd.nilCheck rfl) ?_; refine zO rfl (Rd.fA rfl) ?_
    refine XOA.wr0 rfl (WrA.st (tyrow rfl) rfl) ?_
    rintro _ _ _ ⟨rfl, rfl, rfl⟩
    refine zN ?_; refine zT ?_; refine zS ?_; refine zR ?_; refine zO rfl Rd.mv ?_; refine zO rfl Rd.mv ?_
    refine zO rfl (Rd.gtr rfl rfl) ?_
    refine XOA.wr0 rfl (WrA.cE (bad_c σ b vs bs _ d (decide (12 < deep)) 4) rfl) ?_
    rintro _ _ _ ⟨_, ⟨rfl, rfl, rfl⟩, rfl⟩
    refine XOA.cl ?_
    refine zN ?_; refine zT ?_; refine zR ?_; refine zO rfl Rd.mv ?_; refine zO rfl Rd.mv ?_; refine zO rfl (Rd.nilCheck rfl) ?_; refine zO rfl (Rd.fA rfl) ?_; refine zO rfl (Rd.ldC rfl (tyrow rfl) rfl) ?_
    refine zO rfl (Rd.gtr rfl rfl) ?_
    refine XOA.wr0 rfl (WrA.cE (bad_c σ b vs bs _ _ _ 3) rfl) ?_
    rintro _ _ _ ⟨_, ⟨rfl, rfl, rfl⟩, rfl⟩
    refine XOA.cl ?_
    rw [show (if decide (12 < deep) = true ∧ d = 0 then (4 : Int) else d) = d from if_neg (fun h => h0 h.2), if_neg (fun h => h0 h.2)]
    refine zN ?_
    exact bodyA.normal (ResA.none rfl) (Ent.fold1 zE (Look.mkE h0)) ⟨rfl, rfl, rfl⟩
  | ok l =>
    obtain ⟨l0, l1⟩ := hl l rfl
    refine enterA2 Try.func64 rfl rfl rfl ?_
    refine zS ?_; refine zR ?_; refine zO rfl Rd.mv ?_
    first | refine XA.opn (R := Look b vs bs (.ok l)) (by ((repeat (first | with_reducible exact Sel.head | apply Sel.tail)); (first | done | fail))) (Look.okO) ?_ | refine XOA.opn (R := Look b vs bs (.ok l)) (by ((repeat (first | with_reducible exact Sel.head | apply Sel.tail)); (first | done | fail))) (Look.okO) ?_ | refine DA.opn (R := Look b vs bs (.ok l)) (by ((repeat (first | with_reducible exact Sel.head | apply Sel.tail)); (first | done | fail))) (Look.okO) ?_
    rintro ⟨⟩ -
    first | refine XA.cl ?_ | refine XOA.cl ?_ | refine DA.cl ?_
    refine zO rfl (Rd.nilCheck rfl) ?_; refine zO rfl (Rd.fA rfl) ?_; refine zO rfl (Rd.ldC rfl (tyrow rfl) rfl) ?_
    refine zO rfl (by first | exact Rd.adi rfl rfl | exact Rd.add rfl rfl) ?_
    refine zO rfl (Rd.nilCheck rfl) ?_; refine zO rfl (Rd.fA rfl) ?_
    refine XOA.wr0 rfl (WrA.st (tyrow rfl) rfl) ?_
    rintro _ _ _ ⟨rfl, rfl, rfl⟩
    refine zN ?_; refine zT ?_; refine zS ?_; refine zR ?_; refine zO rfl Rd.mv ?_; refine zO rfl Rd.mv ?_
    refine zO rfl (Rd.gtr rfl rfl) ?_
    refine XOA.wr0 rfl (WrA.cE (bad_c σ b vs bs _ 0 (decide (12 < deep)) 4) rfl) ?_
    rintro _ _ _ ⟨_, ⟨rfl, rfl, rfl⟩, rfl⟩
    refine XOA.cl ?_
    refine zN ?_; refine zT ?_; refine zR ?_; refine zO rfl Rd.mv ?_; refine zO rfl Rd.mv ?_; refine zO rfl (Rd.nilCheck rfl) ?_; refine zO rfl (Rd.fA rfl) ?_; refine zO rfl (Rd.ldC rfl (tyrow rfl) rfl) ?_
    refine zO rfl (Rd.gtr rfl rfl) ?_
    refine XOA.wr0 rfl (WrA.cE (bad_c σ b vs bs _ _ (decide (150 < 150 - l + 1)) 3) rfl) ?_
    rintro _ _ _ ⟨_, ⟨rfl, rfl, rfl⟩, rfl⟩
    refine XOA.cl ?_
    by_cases hd : 12 < deep
    · skip
      rw [show (if decide (12 < deep) = true ∧ (0 : Int) = 0 then (4 : Int) else 0) = 4 by simp [hd], if_neg (fun h => absurd h.2 (by decide))]
      refine zN ?_
      refine bodyA.normal (ResA.none rfl) (Ent.fold1 (Θ := [blk b [vs, bs, i64 (150 - l + 1), i64 4] 83]) zE (Look.mkE (by decide))) ⟨rfl, rfl, ?_⟩
      simp [JE.one, hd]
    · rw [show (if decide (12 < deep) = true ∧ (0 : Int) = 0 then (4 : Int) else 0) = 0 by simp [hd]]
      by_cases h0 : l = 0
      · rw [show (if decide (150 < 150 - l + 1) = true ∧ (0 : Int) = 0 then (3 : Int) else 0) = 3 by simp [h0]]
        refine zN ?_
        refine bodyA.normal (ResA.none rfl) (Ent.fold1 (Θ := [blk b [vs, bs, i64 (150 - l + 1), i64 3] 83]) zE (Look.mkE (by decide))) ⟨rfl, rfl, ?_⟩
        simp [JE.one, hd, h0]
      · rw [show (if decide (150 < 150 - l + 1) = true ∧ (0 : Int) = 0 then (3 : Int) else 0) = 0 by rw [if_neg]; simp; omega]
        refine zN ?_
        refine bodyA.normal (ResA.none rfl) (Ent.fold1 (Θ := [blk b [vs, bs, i64 (150 - l + 1), i64 0] 83]) zE (Look.mkO (l := l - 1) (by omega))) ⟨rfl, rfl, ?_⟩
        simp [JE.one, hd, h0]
theorem variable_a (σ : PH) (b : Nat) (p : Option Addr) (n c : Nat) (bs : Value) (e : JE) (v : Int) (is : Bool) :
    CallsA Try.prog 67 #[ptr b, i64 v, .bool is] σ [Look b (.slice p n c) bs e] (RetA fun r σ' Γ' => r = .tuple #[] ∧ σ = σ' ∧ Γ' = [Look b (.slice p n c) bs (e.named n v is)]) := by
  cases is with
  | false =>
    refine enterA3 Try.func67 rfl rfl rfl ?_
    refine zS ?_; refine zR ?_; refine zO rfl Rd.mv ?_; refine zN ?_; refine zT ?_
    refine XA.condF rfl rfl ?_
    refine zR ?_; refine zO rfl Rd.mv ?_; refine zO rfl Rd.mv ?_
    refine zO rfl (Rd.neq rfl rfl) ?_
    refine XOA.wr0 rfl (WrA.cE (bad_a σ b _ bs e (decide (v ≠ 0)) 5 (by decide)) rfl) ?_
    rintro _ _ _ ⟨_, ⟨rfl, rfl, rfl⟩, rfl⟩
    refine XOA.cl ?_
    refine zN ?_
    exact bodyA.normal (ResA.none rfl) (Ent.refl _) ⟨rfl, rfl, by simp only [JE.named, Bool.false_and, fail_false, Bool.not_false, Bool.true_and]⟩
  | true =>
    by_cases h0 : v < 0
    · 
      refine enterA3 Try.func67 rfl rfl rfl ?_
      refine zS ?_; refine zR ?_; refine zO rfl Rd.mv ?_; refine zN ?_; refine zT ?_
      refine XA.condT rfl rfl ?_
      refine zR ?_; refine zO rfl Rd.mv ?_; refine zO rfl Rd.mv ?_; refine zO rfl (Rd.lss rfl rfl) ?_; refine zO rfl Rd.mv ?_
      first | ((first | refine zW ?_ | refine zQ ?_); refine zO rfl Rd.mv ?_) | refine zU ?_ | refine zV ?_ | refine zZ ?_
      first | ((first | refine zW ?_ | refine zQ ?_); refine zO rfl Rd.mv ?_) | refine zU ?_ | refine zV ?_ | refine zZ ?_
      first | ((first | refine zW ?_ | refine zQ ?_); refine zO rfl (Rd.nilCheck rfl) ?_) | refine zU ?_ | refine zV ?_ | refine zZ ?_
      first | ((first | refine zW ?_ | refine zQ ?_); refine zO rfl (Rd.fA rfl) ?_) | refine zU ?_ | refine zV ?_ | refine zZ ?_
      first | ((first | refine zW ?_ | refine zQ ?_); refine zO rfl (Rd.fA rfl) ?_) | refine zU ?_ | refine zV ?_ | refine zZ ?_
      first | ((first | refine zW ?_ | refine zQ ?_); refine zO rfl (Rd.ldC rfl (tyrow rfl) rfl) ?_) | refine zU ?_ | refine zV ?_ | refine zZ ?_
      first | ((first | refine zW ?_ | refine zQ ?_); refine zO rfl (Rd.lenSlice (tyrow rfl) rfl rfl) ?_) | refine zU ?_ | refine zV ?_ | refine zZ ?_
      first | ((first | refine zW ?_ | refine zQ ?_); refine zO rfl (Rd.geq rfl rfl) ?_) | refine zU ?_ | refine zV ?_ | refine zZ ?_
      refine zO rfl (by first | exact Rd.pT rfl | exact Rd.pF rfl | exact Rd.pP rfl) ?_
      refine XOA.wr0 rfl (WrA.cE (bad_a σ b _ bs e true 1 (by decide)) rfl) ?_
      rintro _ _ _ ⟨_, ⟨rfl, rfl, rfl⟩, rfl⟩
      refine XOA.cl ?_
      refine zN ?_
      refine bodyA.normal (ResA.none rfl) (Ent.refl _) ⟨rfl, rfl, ?_⟩
      have : decide (v < 0 ∨ (n : Int) ≤ v) = true := decide_eq_true (Or.inl h0)
      simp only [JE.named, this, Bool.true_and, Bool.not_true, Bool.false_and, fail_false]
    · 
      refine enterA3 Try.func67 rfl rfl rfl ?_
      refine zS ?_; refine zR ?_; refine zO rfl Rd.mv ?_; refine zN ?_; refine zT ?_
      refine XA.condT rfl rfl ?_
      refine zR ?_; refine zO rfl Rd.mv ?_; refine zO rfl Rd.mv ?_; refine zO rfl (Rd.lss rfl rfl) ?_; refine zO rfl Rd.mv ?_
      first | ((first | refine zW ?_ | refine zQ ?_); refine zO rfl Rd.mv ?_) | refine zU ?_ | refine zV ?_ | refine zZ ?_
      first | ((first | refine zW ?_ | refine zQ ?_); refine zO rfl Rd.mv ?_) | refine zU ?_ | refine zV ?_ | refine zZ ?_
      first | refine XA.opn (R := Look b (.slice p n c) bs e) (by ((repeat (first | with_reducible exact Sel.head | apply Sel.tail)); (first | done | fail))) (Look.anyD) ?_ | refine XOA.opn (R := Look b (.slice p n c) bs e) (by ((repeat (first | with_reducible exact Sel.head | apply Sel.tail)); (first | done | fail))) (Look.anyD) ?_ | refine DA.opn (R := Look b (.slice p n c) bs e) (by ((repeat (first | with_reducible exact Sel.head | apply Sel.tail)); (first | done | fail))) (Look.anyD) ?_
      rintro ⟨l, cc⟩ ⟨-, hf⟩
      first | refine XA.cl ?_ | refine XOA.cl ?_ | refine DA.cl ?_
      first | ((first | refine zW ?_ | refine zQ ?_); refine zO rfl (Rd.nilCheck rfl) ?_) | refine zU ?_ | refine zV ?_ | refine zZ ?_
      first | ((first | refine zW ?_ | refine zQ ?_); refine zO rfl (Rd.fA rfl) ?_) | refine zU ?_ | refine zV ?_ | refine zZ ?_
      first | ((first | refine zW ?_ | refine zQ ?_); refine zO rfl (Rd.fA rfl) ?_) | refine zU ?_ | refine zV ?_ | refine zZ ?_
      first | ((first | refine zW ?_ | refine zQ ?_); refine zO rfl (Rd.ldC rfl (tyrow rfl) rfl) ?_) | refine zU ?_ | refine zV ?_ | refine zZ ?_
      first | ((first | refine zW ?_ | refine zQ ?_); refine zO rfl (Rd.lenSlice (tyrow rfl) rfl rfl) ?_) | refine zU ?_ | refine zV ?_ | refine zZ ?_
      first | ((first | refine zW ?_ | refine zQ ?_); refine zO rfl (Rd.geq rfl rfl) ?_) | refine zU ?_ | refine zV ?_ | refine zZ ?_
      refine zO rfl (by first | exact Rd.pT rfl | exact Rd.pF rfl | exact Rd.pP rfl) ?_
      refine XOA.ent (Δ := [Look b (.slice p n c) bs e]) (Ent.fold1 zE hf) ?_
      refine XOA.wr0 rfl (WrA.cE (bad_a σ b _ bs e (decide ((n : Int) ≤ v)) 1 (by decide)) rfl) ?_
      rintro _ _ _ ⟨_, ⟨rfl, rfl, rfl⟩, rfl⟩
      refine XOA.cl ?_
      refine zN ?_
      refine bodyA.normal (ResA.none rfl) (Ent.refl _) ⟨rfl, rfl, ?_⟩
      have : decide (v < 0 ∨ (n : Int) ≤ v) = decide ((n : Int) ≤ v) := by rw [decide_eq_decide]; omega
      simp only [JE.named, this, Bool.true_and, Bool.not_true, Bool.false_and, fail_false]
end Go.Proofs.Ytbbghdkndbpmmaa
