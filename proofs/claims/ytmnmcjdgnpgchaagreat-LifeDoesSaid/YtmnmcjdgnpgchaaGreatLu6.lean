/- The law LifeDoes holds: every New, Do, Now and Run of a life is as the document says: for every program, every input, all steps and every fuel. Condition: none. -/
import Derived.Test.YtmnmcjdgnpgchaaGreatLu5
namespace Go.Proofs.YtmnmcjdgnpgchaaGreat
open Go X
set_option maxHeartbeats 4000000
theorem stepfault_a (σ : PH) (s : LStp) : CallsA Tryz.prog 14 #[.agg #[i64 s.kind, i64 s.n, i64 s.K, .int .u64 s.mask]] σ [] (RetA fun v σ' Γ' => v = i64 (stpFault s) ∧ σ = σ' ∧ Γ' = []) := by
  obtain ⟨kd, n, K, m⟩ := s
  by_cases b1 : kd < 1
  · have hf : stpFault ⟨kd, n, K, m⟩ = 2 := by rw [stpFault, if_pos (.inl b1)]
    rw [hf]
    refine enterA1 Tryz.func14 rfl rfl rfl ?_; refine zS (zR ?_); refine zw rfl WrA.bx ?_
    rintro _ _ _ ⟨g1, rfl, rfl, rfl⟩
    refine yS ?_; refine zN (zT (zS (zS (zR (yV ?_))))); refine yB ?_; refine zO rfl (Rd.lss rfl rfl) ?_; refine yA ?_
    first | refine gV ?_ | refine zH ?_
    first | refine gB ?_ | refine zH ?_
    first | (refine zG ?_; refine zO rfl (Rd.gtr rfl rfl) ?_) | refine zH ?_
    refine zO rfl zP ?_; refine zN (zT (XA.condT rfl (by first | rfl | exact decide_eq_true b1) ?_)); refine zS (zR (yS ?_)); refine zN (zT (XA.ret (DA.thn_ret ?_)))
    exact bodyA.ret (ResA.one rfl rfl) (Ent.nil _) ⟨rfl, rfl, rfl⟩
  by_cases b2 : 3 < kd
  · have hf : stpFault ⟨kd, n, K, m⟩ = 2 := by rw [stpFault, if_pos (.inr b2)]
    rw [hf]
    refine enterA1 Tryz.func14 rfl rfl rfl ?_; refine zS (zR ?_); refine zw rfl WrA.bx ?_
    rintro _ _ _ ⟨g1, rfl, rfl, rfl⟩
    refine yS ?_; refine zN (zT (zS (zS (zR (yV ?_))))); refine yB ?_; refine zO rfl (Rd.lss rfl rfl) ?_; refine yA ?_
    first | refine gV ?_ | refine zH ?_
    first | refine gB ?_ | refine zH ?_
    first | (refine zG ?_; refine zO rfl (Rd.gtr rfl rfl) ?_) | refine zH ?_
    refine zO rfl zP ?_; refine zN (zT (XA.condT rfl (by first | rfl | exact decide_eq_true b2) ?_)); refine zS (zR (yS ?_)); refine zN (zT (XA.ret (DA.thn_ret ?_)))
    exact bodyA.ret (ResA.one rfl rfl) (Ent.nil _) ⟨rfl, rfl, rfl⟩
  have hb : ¬ (kd < 1 ∨ 3 < kd) := by omega
  by_cases k2 : kd = 2
  · subst k2
    have hf : stpFault ⟨2, n, K, m⟩ = 0 := by rw [stpFault, if_neg hb, if_neg]; rintro (⟨q, -⟩ | ⟨q, -⟩); exact q rfl; cases q
    rw [hf]
    refine enterA1 Tryz.func14 rfl rfl rfl ?_; refine zS (zR ?_); refine zw rfl WrA.bx ?_
    rintro _ _ _ ⟨g1, rfl, rfl, rfl⟩
    refine yS ?_; refine zN (zT (zS (zS (zR (yV ?_))))); refine yB ?_; refine zO rfl (Rd.lss rfl rfl) ?_; refine yA ?_
    first | refine gV ?_ | refine zH ?_
    first | refine gB ?_ | refine zH ?_
    first | (refine zG ?_; refine zO rfl (Rd.gtr rfl rfl) ?_) | refine zH ?_
    refine zO rfl zP ?_; refine zN (zT (XA.condF rfl (by first | rfl | exact decide_eq_false (by omega)) ?_)); refine XA.skip (zT (zS (zS (zR (yV ?_))))); refine yB ?_; refine zO rfl (Rd.neq rfl rfl) ?_; refine yA ?_
    first | refine gV ?_ | refine zH ?_
    first | refine gB ?_ | refine zH ?_
    first | (refine zG ?_; refine zO rfl (Rd.lss rfl rfl) ?_) | refine zH ?_
    first | refine gA ?_ | refine zH ?_
    first | refine gV ?_ | refine zH ?_
    first | refine gB ?_ | refine zH ?_
    first | (refine zG ?_; refine zO rfl (Rd.gtr rfl rfl) ?_) | refine zH ?_
    first | (refine zG ?_; refine zO rfl zP ?_) | refine zH ?_
    refine zO rfl zP ?_; refine yA ?_
    first | refine gV ?_ | refine zH ?_
    first | refine gB ?_ | refine zH ?_
    first | refine gE ?_ | refine zH ?_
    first | refine gA ?_ | refine zH ?_
    first | refine gV ?_ | refine zH ?_
    first | refine gB ?_ | refine zH ?_
    first | (refine zG ?_; refine zO rfl (Rd.lss rfl rfl) ?_) | refine zH ?_
    first | (refine zG ?_; refine zO rfl zP ?_) | refine zH ?_
    refine zO rfl zP ?_; refine zN (zT (XA.condF rfl (by first | rfl | exact decide_eq_false (by omega)) ?_)); refine XA.skip (zT (zS (zR (yS ?_)))); refine zN (zT (XA.ret ?_))
    exact bodyA.ret (ResA.one rfl rfl) (Ent.nil _) ⟨rfl, rfl, rfl⟩
  have hk : kd = 1 ∨ kd = 3 := by omega
  by_cases n0 : n < 0
  · have hf : stpFault ⟨kd, n, K, m⟩ = 1 := by rw [stpFault, if_neg hb, if_pos (.inl ⟨k2, .inl n0⟩)]
    rw [hf]
    rcases hk with rfl | rfl
    · refine enterA1 Tryz.func14 rfl rfl rfl ?_
      refine zS (zR ?_); refine zw rfl WrA.bx ?_
      rintro _ _ _ ⟨g1, rfl, rfl, rfl⟩
      refine yS ?_; refine zN (zT (zS (zS (zR (yV ?_))))); refine yB ?_; refine zO rfl (Rd.lss rfl rfl) ?_; refine yA ?_
      first | refine gV ?_ | refine zH ?_
      first | refine gB ?_ | refine zH ?_
      first | (refine zG ?_; refine zO rfl (Rd.gtr rfl rfl) ?_) | refine zH ?_
      refine zO rfl zP ?_; refine zN (zT (XA.condF rfl (by first | rfl | exact decide_eq_false (by omega)) ?_)); refine XA.skip (zT (zS (zS (zR (yV ?_))))); refine yB ?_; refine zO rfl (Rd.neq rfl rfl) ?_; refine yA ?_
      first | refine gV ?_ | refine zH ?_
      first | refine gB ?_ | refine zH ?_
      first | (refine zG ?_; refine zO rfl (Rd.lss rfl rfl) ?_) | refine zH ?_
      first | refine gA ?_ | refine zH ?_
      first | refine gV ?_ | refine zH ?_
      first | refine gB ?_ | refine zH ?_
      first | (refine zG ?_; refine zO rfl (Rd.gtr rfl rfl) ?_) | refine zH ?_
      first | (refine zG ?_; refine zO rfl zP ?_) | refine zH ?_
      refine zO rfl zP ?_; refine yA ?_
      first | refine gV ?_ | refine zH ?_
      first | refine gB ?_ | refine zH ?_
      first | refine gE ?_ | refine zH ?_
      first | refine gA ?_ | refine zH ?_
      first | refine gV ?_ | refine zH ?_
      first | refine gB ?_ | refine zH ?_
      first | (refine zG ?_; refine zO rfl (Rd.lss rfl rfl) ?_) | refine zH ?_
      first | (refine zG ?_; refine zO rfl zP ?_) | refine zH ?_
      refine zO rfl zP ?_; refine zN (zT (XA.condT rfl (by first | rfl | exact decide_eq_true n0) ?_)); refine zS (zR (yS ?_)); refine zN (zT (XA.ret (DA.thn_ret ?_)))
      exact bodyA.ret (ResA.one rfl rfl) (Ent.nil _) ⟨rfl, rfl, rfl⟩
    · refine enterA1 Tryz.func14 rfl rfl rfl ?_
      refine zS (zR ?_); refine zw rfl WrA.bx ?_
      rintro _ _ _ ⟨g1, rfl, rfl, rfl⟩
      refine yS ?_; refine zN (zT (zS (zS (zR (yV ?_))))); refine yB ?_; refine zO rfl (Rd.lss rfl rfl) ?_; refine yA ?_
      first | refine gV ?_ | refine zH ?_
      first | refine gB ?_ | refine zH ?_
      first | (refine zG ?_; refine zO rfl (Rd.gtr rfl rfl) ?_) | refine zH ?_
      refine zO rfl zP ?_; refine zN (zT (XA.condF rfl (by first | rfl | exact decide_eq_false (by omega)) ?_)); refine XA.skip (zT (zS (zS (zR (yV ?_))))); refine yB ?_; refine zO rfl (Rd.neq rfl rfl) ?_; refine yA ?_
      first | refine gV ?_ | refine zH ?_
      first | refine gB ?_ | refine zH ?_
      first | (refine zG ?_; refine zO rfl (Rd.lss rfl rfl) ?_) | refine zH ?_
      first | refine gA ?_ | refine zH ?_
      first | refine gV ?_ | refine zH ?_
      first | refine gB ?_ | refine zH ?_
      first | (refine zG ?_; refine zO rfl (Rd.gtr rfl rfl) ?_) | refine zH ?_
      first | (refine zG ?_; refine zO rfl zP ?_) | refine zH ?_
      refine zO rfl zP ?_; refine yA ?_
      first | refine gV ?_ | refine zH ?_
      first | refine gB ?_ | refine zH ?_
      first | refine gE ?_ | refine zH ?_
      first | refine gA ?_ | refine zH ?_
      first | refine gV ?_ | refine zH ?_
      first | refine gB ?_ | refine zH ?_
      first | (refine zG ?_; refine zO rfl (Rd.lss rfl rfl) ?_) | refine zH ?_
      first | (refine zG ?_; refine zO rfl zP ?_) | refine zH ?_
      refine zO rfl zP ?_; refine zN (zT (XA.condT rfl (by first | rfl | exact decide_eq_true n0) ?_)); refine zS (zR (yS ?_)); refine zN (zT (XA.ret (DA.thn_ret ?_)))
      exact bodyA.ret (ResA.one rfl rfl) (Ent.nil _) ⟨rfl, rfl, rfl⟩
  by_cases n1 : 3000 < n
  · have hf : stpFault ⟨kd, n, K, m⟩ = 1 := by rw [stpFault, if_neg hb, if_pos (.inl ⟨k2, .inr n1⟩)]
    rw [hf]
    rcases hk with rfl | rfl
    · refine enterA1 Tryz.func14 rfl rfl rfl ?_
      refine zS (zR ?_); refine zw rfl WrA.bx ?_
      rintro _ _ _ ⟨g1, rfl, rfl, rfl⟩
      refine yS ?_; refine zN (zT (zS (zS (zR (yV ?_))))); refine yB ?_; refine zO rfl (Rd.lss rfl rfl) ?_; refine yA ?_
      first | refine gV ?_ | refine zH ?_
      first | refine gB ?_ | refine zH ?_
      first | (refine zG ?_; refine zO rfl (Rd.gtr rfl rfl) ?_) | refine zH ?_
      refine zO rfl zP ?_; refine zN (zT (XA.condF rfl (by first | rfl | exact decide_eq_false (by omega)) ?_)); refine XA.skip (zT (zS (zS (zR (yV ?_))))); refine yB ?_; refine zO rfl (Rd.neq rfl rfl) ?_; refine yA ?_
      first | refine gV ?_ | refine zH ?_
      first | refine gB ?_ | refine zH ?_
      first | (refine zG ?_; refine zO rfl (Rd.lss rfl rfl) ?_) | refine zH ?_
      first | refine gA ?_ | refine zH ?_
      first | refine gV ?_ | refine zH ?_
      first | refine gB ?_ | refine zH ?_
      first | (refine zG ?_; refine zO rfl (Rd.gtr rfl rfl) ?_) | refine zH ?_
      first | (refine zG ?_; refine zO rfl zP ?_) | refine zH ?_
      refine zO rfl zP ?_; refine yA ?_
      first | refine gV ?_ | refine zH ?_
      first | refine gB ?_ | refine zH ?_
      first | refine gE ?_ | refine zH ?_
      first | refine gA ?_ | refine zH ?_
      first | refine gV ?_ | refine zH ?_
      first | refine gB ?_ | refine zH ?_
      first | (refine zG ?_; refine zO rfl (Rd.lss rfl rfl) ?_) | refine zH ?_
      first | (refine zG ?_; refine zO rfl zP ?_) | refine zH ?_
      refine zO rfl zP ?_; refine zN (zT (XA.condT rfl (by first | rfl | exact decide_eq_true n1) ?_)); refine zS (zR (yS ?_)); refine zN (zT (XA.ret (DA.thn_ret ?_)))
      exact bodyA.ret (ResA.one rfl rfl) (Ent.nil _) ⟨rfl, rfl, rfl⟩
    · refine enterA1 Tryz.func14 rfl rfl rfl ?_
      refine zS (zR ?_); refine zw rfl WrA.bx ?_
      rintro _ _ _ ⟨g1, rfl, rfl, rfl⟩
      refine yS ?_; refine zN (zT (zS (zS (zR (yV ?_))))); refine yB ?_; refine zO rfl (Rd.lss rfl rfl) ?_; refine yA ?_
      first | refine gV ?_ | refine zH ?_
      first | refine gB ?_ | refine zH ?_
      first | (refine zG ?_; refine zO rfl (Rd.gtr rfl rfl) ?_) | refine zH ?_
      refine zO rfl zP ?_; refine zN (zT (XA.condF rfl (by first | rfl | exact decide_eq_false (by omega)) ?_)); refine XA.skip (zT (zS (zS (zR (yV ?_))))); refine yB ?_; refine zO rfl (Rd.neq rfl rfl) ?_; refine yA ?_
      first | refine gV ?_ | refine zH ?_
      first | refine gB ?_ | refine zH ?_
      first | (refine zG ?_; refine zO rfl (Rd.lss rfl rfl) ?_) | refine zH ?_
      first | refine gA ?_ | refine zH ?_
      first | refine gV ?_ | refine zH ?_
      first | refine gB ?_ | refine zH ?_
      first | (refine zG ?_; refine zO rfl (Rd.gtr rfl rfl) ?_) | refine zH ?_
      first | (refine zG ?_; refine zO rfl zP ?_) | refine zH ?_
      refine zO rfl zP ?_; refine yA ?_
      first | refine gV ?_ | refine zH ?_
      first | refine gB ?_ | refine zH ?_
      first | refine gE ?_ | refine zH ?_
      first | refine gA ?_ | refine zH ?_
      first | refine gV ?_ | refine zH ?_
      first | refine gB ?_ | refine zH ?_
      first | (refine zG ?_; refine zO rfl (Rd.lss rfl rfl) ?_) | refine zH ?_
      first | (refine zG ?_; refine zO rfl zP ?_) | refine zH ?_
      refine zO rfl zP ?_; refine zN (zT (XA.condT rfl (by first | rfl | exact decide_eq_true n1) ?_)); refine zS (zR (yS ?_)); refine zN (zT (XA.ret (DA.thn_ret ?_)))
      exact bodyA.ret (ResA.one rfl rfl) (Ent.nil _) ⟨rfl, rfl, rfl⟩
  rcases hk with rfl | rfl
  · have hf : stpFault ⟨1, n, K, m⟩ = 0 := by
      rw [stpFault, if_neg hb, if_neg]
      rintro (⟨-, q⟩ | ⟨q, -⟩)
      · simp only at q; omega
      · cases q
    rw [hf]
    refine enterA1 Tryz.func14 rfl rfl rfl ?_; refine zS (zR ?_); refine zw rfl WrA.bx ?_
    rintro _ _ _ ⟨g1, rfl, rfl, rfl⟩
    refine yS ?_; refine zN (zT (zS (zS (zR (yV ?_))))); refine yB ?_; refine zO rfl (Rd.lss rfl rfl) ?_; refine yA ?_
    first | refine gV ?_ | refine zH ?_
    first | refine gB ?_ | refine zH ?_
    first | (refine zG ?_; refine zO rfl (Rd.gtr rfl rfl) ?_) | refine zH ?_
    refine zO rfl zP ?_; refine zN (zT (XA.condF rfl (by first | rfl | exact decide_eq_false (by omega)) ?_)); refine XA.skip (zT (zS (zS (zR (yV ?_))))); refine yB ?_; refine zO rfl (Rd.neq rfl rfl) ?_; refine yA ?_
    first | refine gV ?_ | refine zH ?_
    first | refine gB ?_ | refine zH ?_
    first | (refine zG ?_; refine zO rfl (Rd.lss rfl rfl) ?_) | refine zH ?_
    first | refine gA ?_ | refine zH ?_
    first | refine gV ?_ | refine zH ?_
    first | refine gB ?_ | refine zH ?_
    first | (refine zG ?_; refine zO rfl (Rd.gtr rfl rfl) ?_) | refine zH ?_
    first | (refine zG ?_; refine zO rfl zP ?_) | refine zH ?_
    refine zO rfl zP ?_; refine yA ?_
    first | refine gV ?_ | refine zH ?_
    first | refine gB ?_ | refine zH ?_
    first | refine gE ?_ | refine zH ?_
    first | refine gA ?_ | refine zH ?_
    first | refine gV ?_ | refine zH ?_
    first | refine gB ?_ | refine zH ?_
    first | (refine zG ?_; refine zO rfl (Rd.lss rfl rfl) ?_) | refine zH ?_
    first | (refine zG ?_; refine zO rfl zP ?_) | refine zH ?_
    refine zO rfl zP ?_; refine zN (zT (XA.condF rfl (by first | rfl | exact decide_eq_false (by omega)) ?_)); refine XA.skip (zT (zS (zR (yS ?_)))); refine zN (zT (XA.ret ?_))
    exact bodyA.ret (ResA.one rfl rfl) (Ent.nil _) ⟨rfl, rfl, rfl⟩
  by_cases q0 : K < 0
  · have hf : stpFault ⟨3, n, K, m⟩ = 1 := by rw [stpFault, if_neg hb, if_pos (.inr ⟨rfl, q0⟩)]
    rw [hf]
    refine enterA1 Tryz.func14 rfl rfl rfl ?_; refine zS (zR ?_); refine zw rfl WrA.bx ?_
    rintro _ _ _ ⟨g1, rfl, rfl, rfl⟩
    refine yS ?_; refine zN (zT (zS (zS (zR (yV ?_))))); refine yB ?_; refine zO rfl (Rd.lss rfl rfl) ?_; refine yA ?_
    first | refine gV ?_ | refine zH ?_
    first | refine gB ?_ | refine zH ?_
    first | (refine zG ?_; refine zO rfl (Rd.gtr rfl rfl) ?_) | refine zH ?_
    refine zO rfl zP ?_; refine zN (zT (XA.condF rfl (by first | rfl | exact decide_eq_false (by omega)) ?_)); refine XA.skip (zT (zS (zS (zR (yV ?_))))); refine yB ?_; refine zO rfl (Rd.neq rfl rfl) ?_; refine yA ?_
    first | refine gV ?_ | refine zH ?_
    first | refine gB ?_ | refine zH ?_
    first | (refine zG ?_; refine zO rfl (Rd.lss rfl rfl) ?_) | refine zH ?_
    first | refine gA ?_ | refine zH ?_
    first | refine gV ?_ | refine zH ?_
    first | refine gB ?_ | refine zH ?_
    first | (refine zG ?_; refine zO rfl (Rd.gtr rfl rfl) ?_) | refine zH ?_
    first | (refine zG ?_; refine zO rfl zP ?_) | refine zH ?_
    refine zO rfl zP ?_; refine yA ?_
    first | refine gV ?_ | refine zH ?_
    first | refine gB ?_ | refine zH ?_
    first | refine gE ?_ | refine zH ?_
    first | refine gA ?_ | refine zH ?_
    first | refine gV ?_ | refine zH ?_
    first | refine gB ?_ | refine zH ?_
    first | (refine zG ?_; refine zO rfl (Rd.lss rfl rfl) ?_) | refine zH ?_
    first | (refine zG ?_; refine zO rfl zP ?_) | refine zH ?_
    refine zO rfl zP ?_; refine zN (zT (XA.condT rfl (by first | rfl | exact decide_eq_true q0) ?_)); refine zS (zR (yS ?_)); refine zN (zT (XA.ret (DA.thn_ret ?_)))
    exact bodyA.ret (ResA.one rfl rfl) (Ent.nil _) ⟨rfl, rfl, rfl⟩
  have hf : stpFault ⟨3, n, K, m⟩ = 0 := by
    rw [stpFault, if_neg hb, if_neg]
    rintro (⟨-, q⟩ | ⟨-, q⟩)
    · simp only at q; omega
    · exact q0 q
  rw [hf]
  refine enterA1 Tryz.func14 rfl rfl rfl ?_; refine zS (zR ?_); refine zw rfl WrA.bx ?_
  rintro _ _ _ ⟨g1, rfl, rfl, rfl⟩
  refine yS ?_; refine zN (zT (zS (zS (zR (yV ?_))))); refine yB ?_; refine zO rfl (Rd.lss rfl rfl) ?_; refine yA ?_
  first | refine gV ?_ | refine zH ?_
  first | refine gB ?_ | refine zH ?_
  first | (refine zG ?_; refine zO rfl (Rd.gtr rfl rfl) ?_) | refine zH ?_
  refine zO rfl zP ?_; refine zN (zT (XA.condF rfl (by first | rfl | exact decide_eq_false (by omega)) ?_)); refine XA.skip (zT (zS (zS (zR (yV ?_))))); refine yB ?_; refine zO rfl (Rd.neq rfl rfl) ?_; refine yA ?_
  first | refine gV ?_ | refine zH ?_
  first | refine gB ?_ | refine zH ?_
  first | (refine zG ?_; refine zO rfl (Rd.lss rfl rfl) ?_) | refine zH ?_
  first | refine gA ?_ | refine zH ?_
  first | refine gV ?_ | refine zH ?_
  first | refine gB ?_ | refine zH ?_
  first | (refine zG ?_; refine zO rfl (Rd.gtr rfl rfl) ?_) | refine zH ?_
  first | (refine zG ?_; refine zO rfl zP ?_) | refine zH ?_
  refine zO rfl zP ?_; refine yA ?_
  first | refine gV ?_ | refine zH ?_
  first | refine gB ?_ | refine zH ?_
  first | refine gE ?_ | refine zH ?_
  first | refine gA ?_ | refine zH ?_
  first | refine gV ?_ | refine zH ?_
  first | refine gB ?_ | refine zH ?_
  first | (refine zG ?_; refine zO rfl (Rd.lss rfl rfl) ?_) | refine zH ?_
  first | (refine zG ?_; refine zO rfl zP ?_) | refine zH ?_
  refine zO rfl zP ?_; refine zN (zT (XA.condF rfl (by first | rfl | exact decide_eq_false (by omega)) ?_)); refine XA.skip (zT (zS (zR (yS ?_)))); refine zN (zT (XA.ret ?_))
  exact bodyA.ret (ResA.one rfl rfl) (Ent.nil _) ⟨rfl, rfl, rfl⟩
end Go.Proofs.YtmnmcjdgnpgchaaGreat

namespace Go.Proofs.YtmnmcjdgnpgchaaGreat
open Go X
set_option maxHeartbeats 4000000
theorem pints_app {σ : PH} {p : Option Addr} {n c : Nat} {xs : List Int} (h : PInts σ (.slice p n c) xs) : n = xs.length ∧ (n ≤ c ∧ c ≤ maxLen ∧ (ints xs).length = n ∧ (0 < n → ∃ g o, p = some ⟨g, o, none⟩ ∧ PRow σ g o (ints xs))) := by
  obtain ⟨p', c', e, h1, h2, h3⟩ := h
  simp only [Value.slice.injEq] at e
  obtain ⟨rfl, rfl, rfl⟩ := e
  exact ⟨rfl, h1, h2, by simp [ints], h3⟩
theorem copyP_b (σ : PH) (k0 k2 k3 k4 : Int) (p1 p2 : Option Addr) (c1 c2 : Nat) (n1 n2 : Nat) (xs ys : List Int) (hx : PInts σ (.slice p1 n1 c1) xs) (hy : PInts σ (.slice p2 n2 c2) ys) (hx1 : n1 ≤ 1000) (hy1 : n2 ≤ 1000) :
    CallsA Tryz.prog 32 #[.agg #[i64 k0, .slice p1 n1 c1, i64 k2, i64 k3, i64 k4, .slice p2 n2 c2]] σ []
      (RetA fun v σ' Γ' => ∃ p3 c3 p4 c4, v = .agg #[i64 k0, .slice p3 n1 c3, i64 k2, i64 k3, i64 k4, .slice p4 n2 c4] ∧ σ = σ' ∧ Γ' = [lst 2 1 (.slice p3 n1 c3) n1 (ints xs), lst 2 1 (.slice p4 n2 c4) n2 (ints ys)]) := by
  obtain ⟨-, hx2⟩ := pints_app hx
  obtain ⟨-, hy2⟩ := pints_app hy
  refine enterA1 Tryz.func32 rfl rfl rfl ?_; refine zS (zR ?_); refine zw rfl WrA.bx ?_
  rintro _ _ _ ⟨g1, rfl, rfl, rfl⟩
  refine zw rfl (WrA.alloc (tyrow rfl)) ?_
  rintro _ _ _ ⟨g2, rfl, rfl, rfl⟩
  refine zN (zT (zS (zR (yS ?_)))); refine yS ?_; refine zN (zT (zS ?_)); refine XA.ent (Ent.selNil (e := 2) (size := 1) (Ent.refl _)) ?_; refine XA.ent (Ent.selNil (e := 2) (size := 1) (Ent.refl _)) ?_
  refine XA.join [(1, 2), (5, 14)] (fun x : (Nat × Nat) × ((Option Addr × Nat) × (Option Addr × Nat)) => [(1, ptr x.1.1), (2, ptr x.1.2)]) (fun x σ' Γ' => σ = σ' ∧ Γ' = [blk x.1.1 [i64 k0, .slice x.2.1.1 n1 x.2.1.2, i64 k2, i64 k3, i64 k4, .slice x.2.2.1 n2 x.2.2.2] 75, blk x.1.2 ty75.zero 75, lst 2 1 (.slice x.2.1.1 n1 x.2.1.2) n1 (ints xs), lst 2 1 (.slice x.2.2.1 n2 x.2.2.2) n2 (ints ys)]) ?_ ?_
  · skip
    refine XA.drawQ (by kernel_rfl) _ _ [8, 9, 10, 11] 12 #[false, false, false, false, false, false, false, false, false, false, false, false] rfl rfl (by kernel_rfl) (PH.sub.refl _) (Ent.sel (R := blk g1 _ _) zL (Ent.nil _)) ?_
    refine qp 0 #[tT,fF,fF,fF,fF,fF,fF,fF,fF,fF,fF,fF] rfl Rd.mv ?_; refine qp 1 #[tT,tT,fF,fF,fF,fF,fF,fF,fF,fF,fF,fF] rfl (Rd.fA rfl) ?_; refine qr 2 #[tT,tT,tT,fF,fF,fF,fF,fF,fF,fF,fF,fF] rfl (Rd.ldC rfl (tyrow rfl) rfl) ?_; refine qp 4 #[tT,tT,tT,fF,tT,fF,fF,fF,fF,fF,fF,fF] rfl Rd.mv ?_
    refine qp 5 #[tT,tT,tT,fF,tT,tT,fF,fF,fF,fF,fF,fF] rfl (Rd.fA rfl) ?_; refine qr 6 #[tT,tT,tT,fF,tT,tT,tT,fF,fF,fF,fF,fF] rfl (Rd.ldC rfl (tyrow rfl) rfl) ?_; refine qa 3 ?_
    refine qw #[tT,tT,tT,tT,tT,tT,tT,fF,fF,fF,fF,fF] rfl (X.WrA.appP (tyrow rfl) rfl (tyrow rfl) rfl rfl zL rfl hx2 (Nat.mul_one _).symm (ones_ints _) (by simp only [maxLen]; omega) (by simp only []; omega) (Nat.zero_add _).symm rfl) ?_
    rintro _ _ _ ⟨p8, c8, rfl, rfl, rfl⟩
    refine ⟨⟨zX, zE⟩, XQA.re zC ?_⟩
    refine qp 8 #[tT,tT,tT,tT,tT,tT,tT,fF,tT,fF,fF,fF] rfl (Rd.fA rfl) ?_; refine qa 7 ?_
    refine qw #[tT,tT,tT,tT,tT,tT,tT,tT,tT,fF,fF,fF] rfl (X.WrA.appP (tyrow rfl) rfl (tyrow rfl) rfl rfl zL rfl hy2 (Nat.mul_one _).symm (ones_ints _) (by simp only [maxLen]; omega) (by simp only []; omega) (Nat.zero_add _).symm rfl) ?_
    rintro _ _ _ ⟨p12, c12, rfl, rfl, rfl⟩
    refine ⟨⟨zX, zE⟩, XQA.re zC ?_⟩
    refine qa 9 ?_
    refine XQA1.wrZ0 (listed' := #[tT,tT,tT,tT,tT,tT,tT,tT,tT,tT,fF,fF]) rfl rfl Gd.free (by kernel_rfl) rfl (by kernel_rfl) (WrA.st (tyrow rfl) rfl) ?_
    rintro _ _ _ ⟨rfl, rfl, rfl⟩
    refine XQA.re zC ?_; refine qp 10 #[tT,tT,tT,tT,tT,tT,tT,tT,tT,tT,tT,fF] rfl (Rd.fA rfl) ?_; refine qa 11 ?_
    refine XQA1.wrZ0 (listed' := #[tT,tT,tT,tT,tT,tT,tT,tT,tT,tT,tT,tT]) rfl rfl Gd.free (by kernel_rfl) rfl (by kernel_rfl) (WrA.st (tyrow rfl) rfl) ?_
    rintro _ _ _ ⟨rfl, rfl, rfl⟩
    refine XQA.re zC ?_; refine XQA.nil rfl ?_
    refine DA.thn_normal ⟨zK, ((g1, g2), ((p8, c8), (p12, c12))), _, zM, ?_, rfl, rfl⟩; exact zE
  rintro ⟨⟨g1, g2⟩, ⟨p3, c3⟩, p4, c4⟩ δ _ _ ⟨rfl, rfl⟩
  dsimp only [ovr, List.foldl]
  refine zT (zS (zR (zO rfl (Rd.ldA rfl) ?_))); refine zw rfl (WrA.st (tyrow rfl) rfl) ?_
  rintro _ _ _ ⟨rfl, rfl, rfl⟩
  refine zN (zT (XA.ret ?_))
  exact bodyA.ret (ResA.cell rfl rfl (Ld.atBlk (tyrow rfl) rfl zL rfl (by first | exact take0 (by first | rfl | assumption | (refine (ints_len _).trans ?_; assumption) | (simp [*]; (first | done | fail))) | assumption | exact take_app (by first | rfl | assumption | (refine (ints_len _).trans ?_; assumption) | (simp [*]; (first | done | fail))) | (conv => lhs; simp only [List.drop_succ_cons, List.drop_zero, List.take_succ_cons, List.take_zero])) (by first | rfl | assumption | (refine (ints_len _).trans ?_; assumption) | (simp [*]; (first | done | fail))))) zE ⟨p3, c3, p4, c4, rfl, rfl, rfl⟩
theorem wake_b (σ : PH) (g : Nat) (cv iv : Value) (b : Be) (Γ : List HP) (hB : BeG σ g cv iv b Γ) (hs : b.kept.stack.length ≤ 1000) (hc : b.kept.cells.length ≤ 1000) :
    CallsA Tryz.prog 36 #[ptr g] σ Γ (RetA fun v σ' Γ' => v = .tuple #[] ∧ σ = σ' ∧ BeG σ' g cv iv (wakeB b) Γ') := by
  obtain ⟨⟨next, stack, rd, outn, st, cells⟩, ⟨knext, kstack, krd, koutn, kst, kcells⟩, out, wrong⟩ := b
  obtain ⟨sp, sc, pl, cl, op, oc, k0, k1, k2, k3, k4, k5, hk, rfl⟩ := hB
  have hk' := hk
  obtain ⟨p, c, p', c', rfl, rfl, rfl, rfl, rfl, rfl, h1, h2⟩ := hk
  simp only at hs hc h1 h2 hk'
  refine enterA1 Tryz.func36 rfl rfl rfl ?_; refine zR (yA ?_); refine yA ?_; refine zO rfl (Rd.nilCheck rfl) ?_; refine yV ?_; refine zO rfl (Rd.ldA rfl) ?_; refine zw rfl (WrA.cE (copyP_b σ _ _ _ _ _ _ _ _ kstack.length kcells.length kstack.reverse kcells h1 h2 hs hc) rfl) ?_
  rintro _ _ _ ⟨_, ⟨p3, c3, p4, c4, rfl, rfl, rfl⟩, rfl⟩
  refine XOA.cl ?_; refine zO rfl (Rd.nilCheck rfl) ?_; refine yV ?_; refine zw rfl (WrA.st (tyrow rfl) rfl) ?_
  rintro _ _ _ ⟨rfl, rfl, rfl⟩
  refine zN ?_
  exact bodyA.normal (ResA.none rfl) zE ⟨rfl, rfl, BeG.of hk'⟩
theorem kept_next {p : Pr} {inp : List Int} {L : Li} {k : Nat} (h : LiOk p inp L k) (hk : k ≤ 1000000) (h0 : L.b.kept.st = 0) : (nextL (codeOf p) inp L).b.kept.st = 0 := by
  show (nextB (codeOf p) inp true L.b).kept.st = 0
  by_cases hs : L.b.m.st = 0
  · obtain ⟨x, hx, -⟩ := h.mach.ok hk hs
    rw [nextB, if_pos hs]
    rcases (h.mach.inv.step (keep := true) h.mach.ch hx).2.2.2 with e | ⟨e, e0⟩
    · rw [e]; exact h0
    · rw [e]; exact e0
  · rw [nextB, if_neg hs]; exact h0
theorem LiOk.small {p : Pr} {inp : List Int} {L : Li} {k : Nat} (h : LiOk p inp L k) (hk : k ≤ 1000000) (h0 : L.b.kept.st = 0) : L.b.kept.stack.length ≤ 1000 ∧ L.b.kept.cells.length ≤ 1000 := by
  obtain ⟨x, -, hx⟩ := h.kept.ok hk (show (wakeB L.b).m.st = 0 from h0)
  have e : (wakeB L.b).m = L.b.kept := rfl
  have hc := h.kept.inv.cells
  rw [e] at hx hc
  obtain ⟨-, -, hv1, h48⟩ := check_valid h.kept.ch
  have := sizes_nonneg hv1
  omega
theorem run_kept {p : Pr} {inp : List Int} : ∀ (f : Nat) {L : Li} {k : Nat}, LiOk p inp L k → k + f ≤ 1000000 → L.b.kept.st = 0 → (runL (codeOf p) inp f L).1.b.kept.st = 0
  | 0, _, _, _, _, h0 => h0
  | f + 1, L, k, h, hk, h0 => by
    rw [runL]; split
    · exact run_kept f (h.next (by omega)) (by omega) (kept_next h (by omega) h0)
    · exact h0
theorem tear_kept {p : Pr} {inp : List Int} {K : Int} {bit : Bool} : ∀ (f : Nat) {L : Li} {k : Nat}, LiOk p inp L k → k + f ≤ 1000000 → L.b.kept.st = 0 → (tearL (codeOf p) inp K bit f L).1.b.kept.st = 0
  | 0, _, _, _, _, h0 => h0
  | f + 1, L, k, h, hk, h0 => by
    rw [tearL]; split
    · rw [tearAt]; split
      · exact kept_next h (by omega) h0
      · exact h0
    · split
      · exact tear_kept f (h.next (by omega)) (by omega) (kept_next h (by omega) h0)
      · exact h0
theorem do_kept {p : Pr} {inp : List Int} {L : Li} {k : Nat} (s : LStp) (h : LiOk p inp L k) (hk : k + 3000 ≤ 1000000) (h0 : L.b.kept.st = 0) : (doL (codeOf p) inp s L).1.b.kept.st = 0 := by
  rw [doL]; split
  · exact h0
  · rename_i hf
    have hf : stpFault s = 0 := Classical.byContradiction hf
    have hn : s.kind ≠ 2 → s.n ≤ 3000 := by
      intro hk2
      rw [stpFault] at hf
      split at hf
      · cases hf
      · split at hf
        · cases hf
        · rename_i q
          exact Classical.byContradiction fun z => q (.inl ⟨hk2, .inr (by omega)⟩)
    split
    · have := hn (by omega); exact run_kept _ h (by omega) h0
    · split
      · have := hn (by omega); exact tear_kept _ h (by omega) h0
      · exact h0
section
variable (σ : PH) (g : Nat) (pc : Option Addr) (cc : Nat) (iv : Value) (p : Pr) (inp : List Int) (L : Li) (k : Nat) (Γ : List HP)
theorem runB_b (n : Nat) (K m : Int) (hc : PSl 4 rIn σ (.slice pc (codeOf p).length cc) (codeOf p)) (hi : PInts σ iv inp) (hB : BeG σ g (.slice pc (codeOf p).length cc) iv L.b Γ) (h : LiOk p inp L k) (hk : k + n ≤ 900000) :
    CallsA Tryz.prog 15 #[ptr g, .agg #[i64 1, i64 n, i64 K, .int .u64 m]] σ Γ (RetA fun v σ' Γ' => v = i64 ((runL (codeOf p) inp n L).2 : Nat) ∧ σ.sub σ' ∧ BeG σ' g (.slice pc (codeOf p).length cc) iv (runL (codeOf p) inp n L).1.b Γ') := by
  obtain ⟨sp, sc, pl, cl, op, oc, k0, k1, k2, k3, k4, k5, hkp, rfl⟩ := hB
  have hB : BeG σ g (.slice pc (codeOf p).length cc) iv L.b _ := ⟨sp, sc, pl, cl, op, oc, k0, k1, k2, k3, k4, k5, hkp, rfl⟩
  refine enterA2 Tryz.func15 rfl rfl rfl ?_; refine zS (zR ?_); refine zw rfl WrA.bx ?_
  rintro _ _ _ ⟨g3, rfl, rfl, rfl⟩
  refine yS ?_; refine zN (zT (zS (zS (zR (yV ?_))))); refine yB ?_; refine yE ?_; refine zN (zT (yF rfl rfl (XA.skip (zT (zS (zR (yS ?_))))))); refine zN (zT (zS (XA.block ?_)))
  refine XA.gen [(0, _), (3, _), (4, _), (5, _)] ⟨(by with_reducible (conv => lhs; whnf)), (by with_reducible (conv => lhs; whnf)), (by with_reducible (conv => lhs; whnf)), (by with_reducible (conv => lhs; whnf)), trivial⟩ (fun δ => ?_)
  dsimp only [List.foldl]
  refine XA.loop [(4, 5), (11, 47)] (fun x : Nat × Li => [(5, i64 x.1)]) (fun x σ' Γ' => σ.sub σ' ∧ x.1 ≤ n ∧ LiOk p inp x.2 (k + x.1) ∧ runL (codeOf p) inp n L = ((runL (codeOf p) inp (n - x.1) x.2).1, (runL (codeOf p) inp (n - x.1) x.2).2 + x.1) ∧ ∃ Γ1, BeG σ' g (.slice pc (codeOf p).length cc) iv x.2.b Γ1 ∧ Γ' = blk g3 [i64 1, i64 n, i64 K, .int .u64 m] 45 :: Γ1) (fun x => n - x.1) (0, L) (by exact ⟨rfl, trivial⟩) (Δ0 := _) ?_ (⟨.refl _, Nat.zero_le _, h, rfl, _, hB, rfl⟩) ?_
  · exact zE
  rintro ⟨i, L1⟩ δ σ1 _ ⟨hs1, hin, hok, hrun, Γ1, hB1, rfl⟩
  dsimp only [ovr, List.foldl]
  have hin : i ≤ n := hin
  simp only at hok hrun hB1
  obtain ⟨sp1, sc1, pl1, cl1, op1, oc1, a0, a1, a2, a3, a4, a5, hk1, rfl⟩ := hB1
  have hB1 : BeG σ1 g (.slice pc (codeOf p).length cc) iv L1.b _ := ⟨sp1, sc1, pl1, cl1, op1, oc1, a0, a1, a2, a3, a4, a5, hk1, rfl⟩
  have hany := bany_b σ1 g pc cc iv inp L1.M L1.b p (k + i) true _ (hc.mono hs1 (fun _ _ h => h)) (hi.mono hs1) hB1 hok.mach (by omega)
  refine zS (zS (zR (yA ?_))); refine yV ?_; refine yB ?_; refine zO rfl (Rd.lss rfl rfl) ?_; refine zN (zT ?_); refine XA.condp rfl (fun hlt => ?_) (fun hlt => ?_)
  · refine XA.skip ?_
    refine zT (XA.block (zS (zS (zR (yV ?_))))); refine yB ?_; refine yE ?_; refine yA ?_
    first | refine gA ?_ | refine zH ?_
    first | refine zH ?_
    refine zO rfl zP ?_; refine zN (zT (yF rfl rfl (XA.skip (zT (zS (zS (zR (yA ?_))))))))
    obtain ⟨f, hf⟩ : ∃ f, n - i = f + 1 := ⟨n - i - 1, by omega⟩
    by_cases h0 : L1.b.m.st = 0
    · rw [decide_eq_true h0] at hany
      rw [hf, runL, if_pos h0] at hrun
      refine zw rfl (WrA.cE (hany) rfl) ?_
      rintro _ σ2 _ ⟨_, ⟨rfl, hs2, hB2⟩, rfl⟩
      refine XOA.cl ?_
      obtain ⟨sp2, sc2, pl2, cl2, op2, oc2, b0, b1, b2, b3, b4, b5, hk2, rfl⟩ := hB2
      have hB2 : BeG σ2 g (.slice pc (codeOf p).length cc) iv (nextL (codeOf p) inp L1).b _ := ⟨sp2, sc2, pl2, cl2, op2, oc2, b0, b1, b2, b3, b4, b5, hk2, rfl⟩
      try dsimp only [List.append, List.cons_append, List.nil_append]
      refine zO rfl zJ ?_; refine zN (zT (yF rfl rfl (XA.skip (zT (zR (yA ?_)))))); refine zO rfl zI ?_; refine yS ?_; refine zN (DA.inb_normal (zT ?_))
      refine ⟨(Keep.upd (Keep.upd (Keep.upd (Keep.upd (Keep.updO (Keep.upd (Keep.upd (Keep.upd (Keep.upd (Keep.upd (Keep.upd (Keep.upd (Keep.upd (Keep.upd (Keep.upd (Keep.upd (Keep.upd (Keep.upd (Keep.hav (Keep.hav (Keep.refl _ _) rfl) rfl) rfl) rfl) rfl) rfl) rfl) rfl) rfl) rfl) rfl) rfl) rfl) rfl) rfl) rfl) rfl) rfl) rfl) rfl), (i + 1, nextL (codeOf p) inp L1), _, zM, ?_, ⟨hs1.trans hs2, by show i + 1 ≤ n; omega, hok.next (by omega), by rw [hrun, show n - (i + 1) = f by omega]; simp only [Prod.mk.injEq, true_and]; omega, _, hB2, rfl⟩, (by simp only; omega)⟩
      · exact zE
    · rw [decide_eq_false h0, nextB, if_neg h0] at hany
      rw [hf, runL, if_neg h0] at hrun
      refine zw rfl (WrA.cE (hany) rfl) ?_
      rintro _ σ2 _ ⟨_, ⟨rfl, hs2, hB2⟩, rfl⟩
      refine XOA.cl ?_
      obtain ⟨sp2, sc2, pl2, cl2, op2, oc2, b0, b1, b2, b3, b4, b5, hk2, rfl⟩ := hB2
      have hB2 : BeG σ2 g (.slice pc (codeOf p).length cc) iv L1.b _ := ⟨sp2, sc2, pl2, cl2, op2, oc2, b0, b1, b2, b3, b4, b5, hk2, rfl⟩
      try dsimp only [List.append, List.cons_append, List.nil_append]
      refine zO rfl zJ ?_; refine zN (zT (yT rfl rfl (zS (zR (yA ?_))))); refine yS ?_; refine zN (zT (XA.ret (DA.thn_ret (DA.inb_ret (DA.thn_ret (DA.inb_ret (DA.thn_ret ?_)))))))
      rw [hrun]
      exact bodyA.ret (ResA.one rfl rfl) zE ⟨by simp, hs1.trans hs2, hB2⟩
  refine XA.exit (DA.thn_exit (DA.thn_exit (DA.inb_same (zT (zS (zR (yA ?_))))))); refine yS ?_; refine zN (zT (XA.ret ?_))
  obtain rfl : i = n := by omega
  rw [Nat.sub_self, runL] at hrun
  rw [hrun]
  exact bodyA.ret (ResA.one rfl rfl) zE ⟨by simp, hs1, hB1⟩
theorem and_one {m : Int} (hm0 : 0 ≤ m) (hm1 : m < 18446744073709551616) : IntKind.u64.wrap ((BitVec.ofInt 64 m &&& BitVec.ofInt 64 1).toNat : Int) = ((m.toNat % 2 : Nat) : Int) := by
  rw [and1 m hm0 hm1]; omega
theorem bit0 (m : Int) : bitOf m 0 = decide (m.toNat % 2 = 1) := by simp [bitOf]
theorem tear_no {C : List In} {inp : List Int} {L : Li} (h : isC C L.b.m = true) : wakeB (nextB C inp false L.b) = wakeB L.b := by
  obtain ⟨h0, x, hx, h15⟩ := isC_true h
  rw [nextB, if_pos h0, stepC_be hx h15]; rfl
theorem BeG.as {σ : PH} {g : Nat} {cv iv : Value} {b b' : Be} {Γ : List HP} (h : BeG σ g cv iv b Γ) (e : b' = b) : BeG σ g cv iv b' Γ := e ▸ h
theorem tearB_b (n : Nat) (K m : Int) (hK0 : 0 ≤ K) (hm0 : 0 ≤ m) (hm1 : m < 18446744073709551616) (hc : PSl 4 rIn σ (.slice pc (codeOf p).length cc) (codeOf p)) (hi : PInts σ iv inp) (hB : BeG σ g (.slice pc (codeOf p).length cc) iv L.b Γ) (h : LiOk p inp L k) (hk : k + n ≤ 900000) (hkp : L.b.kept.st = 0) :
    CallsA Tryz.prog 15 #[ptr g, .agg #[i64 3, i64 n, i64 K, .int .u64 m]] σ Γ (RetA fun v σ' Γ' => v = i64 ((tearL (codeOf p) inp K (bitOf m 0) n L).2 : Nat) ∧ σ.sub σ' ∧ BeG σ' g (.slice pc (codeOf p).length cc) iv (tearL (codeOf p) inp K (bitOf m 0) n L).1.b Γ') := by
  obtain ⟨sp, sc, pl, cl, op, oc, k0, k1, k2, k3, k4, k5, hkk, rfl⟩ := hB
  have hB : BeG σ g (.slice pc (codeOf p).length cc) iv L.b _ := ⟨sp, sc, pl, cl, op, oc, k0, k1, k2, k3, k4, k5, hkk, rfl⟩
  refine enterA2 Tryz.func15 rfl rfl rfl ?_; refine zS (zR ?_); refine zw rfl WrA.bx ?_
  rintro _ _ _ ⟨g3, rfl, rfl, rfl⟩
  refine yS ?_; refine zN (zT (zS (zS (zR (yV ?_))))); refine yB ?_; refine yE ?_; refine zN (zT (yF rfl rfl (XA.skip (zT (zS (zR (yS ?_))))))); refine zN (zT (zS (XA.block ?_)))
  refine XA.gen [(0, _), (3, _), (4, _), (5, _)] ⟨(by with_reducible (conv => lhs; whnf)), (by with_reducible (conv => lhs; whnf)), (by with_reducible (conv => lhs; whnf)), (by with_reducible (conv => lhs; whnf)), trivial⟩ (fun δ => ?_)
  dsimp only [List.foldl]
  refine XA.loop [(4, 5), (11, 47)] (fun x : Nat × Li => [(5, i64 x.1)]) (fun x σ' Γ' => σ.sub σ' ∧ x.1 ≤ n ∧ LiOk p inp x.2 (k + x.1) ∧ x.2.b.kept.st = 0 ∧ tearL (codeOf p) inp K (bitOf m 0) n L = ((tearL (codeOf p) inp K (bitOf m 0) (n - x.1) x.2).1, (tearL (codeOf p) inp K (bitOf m 0) (n - x.1) x.2).2 + x.1) ∧ ∃ Γ1, BeG σ' g (.slice pc (codeOf p).length cc) iv x.2.b Γ1 ∧ Γ' = blk g3 [i64 3, i64 n, i64 K, .int .u64 m] 45 :: Γ1) (fun x => n - x.1) (0, L) (by exact ⟨rfl, trivial⟩) (Δ0 := _) ?_ (⟨.refl _, Nat.zero_le _, h, hkp, rfl, _, hB, rfl⟩) ?_
  · exact zE
  rintro ⟨i, L1⟩ δ σ1 _ ⟨hs1, hin, hok, hkp1, hrun, Γ1, hB1, rfl⟩
  dsimp only [ovr, List.foldl]
  have hin : i ≤ n := hin
  simp only at hok hrun hB1 hkp1
  obtain ⟨sp1, sc1, pl1, cl1, op1, oc1, a0, a1, a2, a3, a4, a5, hk1, rfl⟩ := hB1
  have hB1 : BeG σ1 g (.slice pc (codeOf p).length cc) iv L1.b _ := ⟨sp1, sc1, pl1, cl1, op1, oc1, a0, a1, a2, a3, a4, a5, hk1, rfl⟩
  have hc1 := hc.mono hs1 (fun _ _ h => h)
  have hi1 := hi.mono hs1
  have hany := bcommits_any σ1 g pc cc iv inp L1.M L1.b p (k + i) _ hc1 hB1 hok.mach (by omega)
  refine zS (zS (zR (yA ?_))); refine yV ?_; refine yB ?_; refine zO rfl (Rd.lss rfl rfl) ?_; refine zN (zT ?_); refine XA.condp rfl (fun hlt => ?_) (fun hlt => ?_)
  · refine XA.skip ?_
    refine zT (XA.block (zS (zS (zR (yV ?_))))); refine yB ?_; refine yE ?_; refine yA ?_
    first | refine gA ?_ | refine zH ?_
    obtain ⟨f, hf⟩ : ∃ f, n - i = f + 1 := ⟨n - i - 1, by omega⟩
    by_cases hcx : isC (codeOf p) L1.b.m = true
    · rw [hcx] at hany
      rw [hf, tearL, if_pos hcx] at hrun
      have hst := (isC_true hcx).1
      have hn1 : (nextB (codeOf p) inp true L1.b).kept.stack.length ≤ 1000 ∧ (nextB (codeOf p) inp true L1.b).kept.cells.length ≤ 1000 := (hok.next (by omega)).small (by omega) (kept_next hok (by omega) hkp1)
      have hn0 : (nextB (codeOf p) inp false L1.b).kept.stack.length ≤ 1000 ∧ (nextB (codeOf p) inp false L1.b).kept.cells.length ≤ 1000 := by
        obtain ⟨h0, x, hx, h15⟩ := isC_true hcx
        rw [nextB, if_pos h0, stepC_be hx h15]
        exact hok.small (by omega) hkp1
      by_cases q0 : K = 0
      · subst q0
        have hT : (tearAt (codeOf p) inp 0 (bitOf m 0) L1).b = wakeB (nextB (codeOf p) inp true L1.b) := by rw [tearAt, if_pos (.inl rfl)]; rfl
        first | refine XOA.wanted rfl rfl ?_ | refine XOA.wq rfl rfl ?_
        refine zw rfl (WrA.cE (hany) rfl) ?_
        rintro _ _ _ ⟨_, ⟨rfl, rfl, hB2⟩, rfl⟩
        refine XOA.cl ?_
        obtain ⟨sp2, sc2, pl2, cl2, op2, oc2, b0, b1, b2, b3, b4, b5, hk2, rfl⟩ := hB2
        have hB2 : BeG σ1 g (.slice pc (codeOf p).length cc) iv L1.b _ := ⟨sp2, sc2, pl2, cl2, op2, oc2, b0, b1, b2, b3, b4, b5, hk2, rfl⟩
        have hstp := bany_b σ1 g pc cc iv inp L1.M L1.b p (k + i) true _ hc1 hi1 hB2 hok.mach (by omega)
        try dsimp only [List.append, List.cons_append, List.nil_append]
        refine zO rfl zP ?_; refine zN (zT (yT rfl rfl (zS (zR (yA ?_))))); refine yV ?_; refine yB ?_; refine yE ?_; refine yA ?_
        first | refine gV ?_ | refine zH ?_
        first | refine gB ?_ | refine zH ?_
        first | refine gE ?_ | refine zH ?_
        first | refine gA ?_ | refine zH ?_
        first | refine gV ?_ | refine zH ?_
        first | refine gB ?_ | refine zH ?_
        first | refine zH ?_
        first | refine gE ?_ | refine zH ?_
        first | (refine zG ?_; refine zO rfl zP ?_) | refine zH ?_
        refine zO rfl zP ?_; refine zw rfl (WrA.cE (hstp) rfl) ?_
        rintro _ σ3 _ ⟨_, ⟨rfl, hs3, hB3⟩, rfl⟩
        refine XOA.cl ?_
        obtain ⟨sp3, sc3, pl3, cl3, op3, oc3, d0, d1, d2, d3, d4, d5, hk3, rfl⟩ := hB3
        have hB3 : BeG σ3 g (.slice pc (codeOf p).length cc) iv (nextB (codeOf p) inp true L1.b) _ := ⟨sp3, sc3, pl3, cl3, op3, oc3, d0, d1, d2, d3, d4, d5, hk3, rfl⟩
        try dsimp only [List.append, List.cons_append, List.nil_append]
        refine zN (zT (zS (zR (yA ?_)))); refine zw rfl (WrA.cE (wake_b σ3 g _ _ _ _ hB3 hn1.1 hn1.2) rfl) ?_
        rintro _ _ _ ⟨_, ⟨rfl, rfl, hB4⟩, rfl⟩
        refine XOA.cl ?_
        obtain ⟨sp4, sc4, pl4, cl4, op4, oc4, e0, e1, e2, e3, e4, e5, hk4, rfl⟩ := hB4
        have hB4 : BeG σ3 g (.slice pc (codeOf p).length cc) iv (wakeB (nextB (codeOf p) inp true L1.b)) _ := ⟨sp4, sc4, pl4, cl4, op4, oc4, e0, e1, e2, e3, e4, e5, hk4, rfl⟩
        try dsimp only [List.append, List.cons_append, List.nil_append]
        refine zN (zT (zS (zR (yA ?_)))); refine zO rfl zI ?_; refine yS ?_; refine zN (zT (XA.ret (DA.thn_ret (DA.inb_ret (DA.thn_ret (DA.inb_ret (DA.thn_ret ?_)))))))
        rw [hrun]
        exact bodyA.ret (ResA.one rfl rfl) zE ⟨congrArg i64 (by simp only [Int.natCast_add]; omega), hs1.trans hs3, hB4.as hT⟩
      by_cases q1 : K = 1
      · subst q1
        have hT : (tearAt (codeOf p) inp 1 (bitOf m 0) L1).b = wakeB (nextB (codeOf p) inp (bitOf m 0) L1.b) := by
          rw [tearAt]
          cases hb : bitOf m 0 with
          | true => rw [if_pos (.inr ⟨rfl, rfl⟩)]; rfl
          | false => rw [if_neg (by rintro (q | ⟨-, q⟩); cases q; cases q), tear_no hcx]; rfl
        have hnb : (nextB (codeOf p) inp (bitOf m 0) L1.b).kept.stack.length ≤ 1000 ∧ (nextB (codeOf p) inp (bitOf m 0) L1.b).kept.cells.length ≤ 1000 := by
          cases bitOf m 0 with
          | true => exact hn1
          | false => exact hn0
        first | refine XOA.wanted rfl rfl ?_ | refine XOA.wq rfl rfl ?_
        refine zw rfl (WrA.cE (hany) rfl) ?_
        rintro _ _ _ ⟨_, ⟨rfl, rfl, hB2⟩, rfl⟩
        refine XOA.cl ?_
        obtain ⟨sp2, sc2, pl2, cl2, op2, oc2, b0, b1, b2, b3, b4, b5, hk2, rfl⟩ := hB2
        have hB2 : BeG σ1 g (.slice pc (codeOf p).length cc) iv L1.b _ := ⟨sp2, sc2, pl2, cl2, op2, oc2, b0, b1, b2, b3, b4, b5, hk2, rfl⟩
        have hstp := bany_b σ1 g pc cc iv inp L1.M L1.b p (k + i) (bitOf m 0) _ hc1 hi1 hB2 hok.mach (by omega)
        try dsimp only [List.append, List.cons_append, List.nil_append]
        refine zO rfl zP ?_; refine zN (zT (yT rfl rfl (zS (zR (yA ?_))))); refine yV ?_; refine yB ?_; refine yE ?_; refine yA ?_
        first | refine gV ?_ | refine zH ?_
        first | refine gB ?_ | refine zH ?_
        first | refine gE ?_ | refine zH ?_
        first | refine gA ?_ | refine zH ?_
        first | refine gV ?_ | refine zH ?_
        first | refine gB ?_ | refine zH ?_
        first | refine XOA.wanted rfl rfl ?_ | refine XOA.wq rfl rfl ?_
        refine zO rfl (Rd.andi (c := ((m.toNat % 2 : Nat) : Int)) rfl rfl (and_one hm0 hm1)) ?_
        first | refine gE ?_ | refine zH ?_
        first | (refine zG ?_; refine zO rfl zP ?_) | refine zH ?_
        refine zO rfl zP ?_
        have hT1 := hT
        rw [bit0 m] at hT1
        have hT2 : (tearAt (codeOf p) inp 1 (bitOf m 0) L1).b = wakeB (nextB (codeOf p) inp (decide (m.toNat % 2 = 1)) L1.b) := by rw [bit0 m]; exact hT1
        rw [bit0] at hstp hT hnb
        rw [show decide (((m.toNat % 2 : Nat) : Int) = 1) = decide (m.toNat % 2 = 1) from decide_eq_decide.2 (by omega)]
        refine zw rfl (WrA.cE (hstp) rfl) ?_
        rintro _ σ3 _ ⟨_, ⟨rfl, hs3, hB3⟩, rfl⟩
        refine XOA.cl ?_
        obtain ⟨sp3, sc3, pl3, cl3, op3, oc3, d0, d1, d2, d3, d4, d5, hk3, rfl⟩ := hB3
        have hB3 : BeG σ3 g (.slice pc (codeOf p).length cc) iv (nextB (codeOf p) inp (decide (m.toNat % 2 = 1)) L1.b) _ := ⟨sp3, sc3, pl3, cl3, op3, oc3, d0, d1, d2, d3, d4, d5, hk3, rfl⟩
        try dsimp only [List.append, List.cons_append, List.nil_append]
        refine zN (zT (zS (zR (yA ?_)))); refine zw rfl (WrA.cE (wake_b σ3 g _ _ _ _ hB3 hnb.1 hnb.2) rfl) ?_
        rintro _ _ _ ⟨_, ⟨rfl, rfl, hB4⟩, rfl⟩
        refine XOA.cl ?_
        obtain ⟨sp4, sc4, pl4, cl4, op4, oc4, e0, e1, e2, e3, e4, e5, hk4, rfl⟩ := hB4
        have hB4 : BeG σ3 g (.slice pc (codeOf p).length cc) iv (wakeB (nextB (codeOf p) inp (decide (m.toNat % 2 = 1)) L1.b)) _ := ⟨sp4, sc4, pl4, cl4, op4, oc4, e0, e1, e2, e3, e4, e5, hk4, rfl⟩
        try dsimp only [List.append, List.cons_append, List.nil_append]
        refine zN (zT (zS (zR (yA ?_)))); refine zO rfl zI ?_; refine yS ?_; refine zN (zT (XA.ret (DA.thn_ret (DA.inb_ret (DA.thn_ret (DA.inb_ret (DA.thn_ret ?_)))))))
        rw [hrun]
        exact bodyA.ret (ResA.one rfl rfl) zE ⟨congrArg i64 (by simp only [Int.natCast_add]; omega), hs1.trans hs3, hB4.as hT2⟩
      · have hT : (tearAt (codeOf p) inp K (bitOf m 0) L1).b = wakeB (nextB (codeOf p) inp false L1.b) := by
          rw [tearAt, if_neg (by rintro (q | ⟨q, -⟩); exact q0 q; exact q1 q), tear_no hcx]; rfl
        first | refine XOA.wanted rfl rfl ?_ | refine XOA.wq rfl rfl ?_
        refine zw rfl (WrA.cE (hany) rfl) ?_
        rintro _ _ _ ⟨_, ⟨rfl, rfl, hB2⟩, rfl⟩
        refine XOA.cl ?_
        obtain ⟨sp2, sc2, pl2, cl2, op2, oc2, b0, b1, b2, b3, b4, b5, hk2, rfl⟩ := hB2
        have hB2 : BeG σ1 g (.slice pc (codeOf p).length cc) iv L1.b _ := ⟨sp2, sc2, pl2, cl2, op2, oc2, b0, b1, b2, b3, b4, b5, hk2, rfl⟩
        have hstp := bany_b σ1 g pc cc iv inp L1.M L1.b p (k + i) false _ hc1 hi1 hB2 hok.mach (by omega)
        try dsimp only [List.append, List.cons_append, List.nil_append]
        refine zO rfl zP ?_; refine zN (zT (yT rfl rfl (zS (zR (yA ?_))))); refine yV ?_; refine yB ?_; refine yE ?_; refine yA ?_
        first | refine gV ?_ | refine zH ?_
        first | refine gB ?_ | refine zH ?_
        first | refine gE ?_ | refine zH ?_
        first | refine gA ?_ | refine zH ?_
        first | refine gV ?_ | refine zH ?_
        first | refine gB ?_ | refine zH ?_
        first | refine zH ?_
        first | refine gE ?_ | refine zH ?_
        first | (refine zG ?_; refine zO rfl zP ?_) | refine zH ?_
        refine zO rfl zP ?_; refine zw rfl (WrA.cE (hstp) rfl) ?_
        rintro _ σ3 _ ⟨_, ⟨rfl, hs3, hB3⟩, rfl⟩
        refine XOA.cl ?_
        obtain ⟨sp3, sc3, pl3, cl3, op3, oc3, d0, d1, d2, d3, d4, d5, hk3, rfl⟩ := hB3
        have hB3 : BeG σ3 g (.slice pc (codeOf p).length cc) iv (nextB (codeOf p) inp false L1.b) _ := ⟨sp3, sc3, pl3, cl3, op3, oc3, d0, d1, d2, d3, d4, d5, hk3, rfl⟩
        try dsimp only [List.append, List.cons_append, List.nil_append]
        refine zN (zT (zS (zR (yA ?_)))); refine zw rfl (WrA.cE (wake_b σ3 g _ _ _ _ hB3 hn0.1 hn0.2) rfl) ?_
        rintro _ _ _ ⟨_, ⟨rfl, rfl, hB4⟩, rfl⟩
        refine XOA.cl ?_
        obtain ⟨sp4, sc4, pl4, cl4, op4, oc4, e0, e1, e2, e3, e4, e5, hk4, rfl⟩ := hB4
        have hB4 : BeG σ3 g (.slice pc (codeOf p).length cc) iv (wakeB (nextB (codeOf p) inp false L1.b)) _ := ⟨sp4, sc4, pl4, cl4, op4, oc4, e0, e1, e2, e3, e4, e5, hk4, rfl⟩
        try dsimp only [List.append, List.cons_append, List.nil_append]
        refine zN (zT (zS (zR (yA ?_)))); refine zO rfl zI ?_; refine yS ?_; refine zN (zT (XA.ret (DA.thn_ret (DA.inb_ret (DA.thn_ret (DA.inb_ret (DA.thn_ret ?_)))))))
        rw [hrun]
        exact bodyA.ret (ResA.one rfl rfl) zE ⟨congrArg i64 (by simp only [Int.natCast_add]; omega), hs1.trans hs3, hB4.as hT⟩
    · have hcx2 : isC (codeOf p) L1.b.m = false := by revert hcx; cases isC (codeOf p) L1.b.m <;> simp
      rw [hcx2] at hany
      rw [hf, tearL, if_neg hcx] at hrun
      first | refine XOA.wanted rfl rfl ?_ | refine XOA.wq rfl rfl ?_
      refine zw rfl (WrA.cE (hany) rfl) ?_
      rintro _ _ _ ⟨_, ⟨rfl, rfl, hB2⟩, rfl⟩
      refine XOA.cl ?_
      obtain ⟨sp2, sc2, pl2, cl2, op2, oc2, b0, b1, b2, b3, b4, b5, hk2, rfl⟩ := hB2
      have hB2 : BeG σ1 g (.slice pc (codeOf p).length cc) iv L1.b _ := ⟨sp2, sc2, pl2, cl2, op2, oc2, b0, b1, b2, b3, b4, b5, hk2, rfl⟩
      have hstp := bany_b σ1 g pc cc iv inp L1.M L1.b p (k + i) true _ hc1 hi1 hB2 hok.mach (by omega)
      try dsimp only [List.append, List.cons_append, List.nil_append]
      refine zO rfl zP ?_; refine zN (zT (yF rfl rfl (XA.skip (zT (zS (zS (zR (yA ?_))))))))
      by_cases h0 : L1.b.m.st = 0
      · rw [decide_eq_true h0] at hstp
        rw [if_pos h0] at hrun
        refine zw rfl (WrA.cE (hstp) rfl) ?_
        rintro _ σ3 _ ⟨_, ⟨rfl, hs3, hB3⟩, rfl⟩
        refine XOA.cl ?_
        obtain ⟨sp3, sc3, pl3, cl3, op3, oc3, d0, d1, d2, d3, d4, d5, hk3, rfl⟩ := hB3
        have hB3 : BeG σ3 g (.slice pc (codeOf p).length cc) iv (nextL (codeOf p) inp L1).b _ := ⟨sp3, sc3, pl3, cl3, op3, oc3, d0, d1, d2, d3, d4, d5, hk3, rfl⟩
        try dsimp only [List.append, List.cons_append, List.nil_append]
        refine zO rfl zJ ?_; refine zN (zT (yF rfl rfl (XA.skip (zT (zR (yA ?_)))))); refine zO rfl zI ?_; refine yS ?_; refine zN (DA.inb_normal (zT ?_))
        refine ⟨(Keep.upd (Keep.upd (Keep.upd (Keep.upd (Keep.updO (Keep.upd (Keep.upd (Keep.updO (Keep.upd (Keep.upd (Keep.upd (Keep.upd (Keep.upd (Keep.upd (Keep.upd (Keep.upd (Keep.upd (Keep.upd (Keep.hav (Keep.hav (Keep.refl _ _) rfl) rfl) rfl) rfl) rfl) rfl) rfl) rfl) rfl) rfl) rfl) rfl) rfl) rfl) rfl) rfl) rfl) rfl) rfl) rfl), (i + 1, nextL (codeOf p) inp L1), _, zM, ?_, ⟨hs1.trans hs3, by show i + 1 ≤ n; omega, hok.next (by omega), kept_next hok (by omega) hkp1, by rw [hrun, show n - (i + 1) = f by omega]; simp only [Prod.mk.injEq, true_and]; omega, _, hB3, rfl⟩, (by simp only; omega)⟩
        · exact zE
      · rw [decide_eq_false h0, nextB, if_neg h0] at hstp
        rw [if_neg h0] at hrun
        refine zw rfl (WrA.cE (hstp) rfl) ?_
        rintro _ σ3 _ ⟨_, ⟨rfl, hs3, hB3⟩, rfl⟩
        refine XOA.cl ?_
        obtain ⟨sp3, sc3, pl3, cl3, op3, oc3, d0, d1, d2, d3, d4, d5, hk3, rfl⟩ := hB3
        have hB3 : BeG σ3 g (.slice pc (codeOf p).length cc) iv L1.b _ := ⟨sp3, sc3, pl3, cl3, op3, oc3, d0, d1, d2, d3, d4, d5, hk3, rfl⟩
        try dsimp only [List.append, List.cons_append, List.nil_append]
        refine zO rfl zJ ?_; refine zN (zT (yT rfl rfl (zS (zR (yA ?_))))); refine yS ?_; refine zN (zT (XA.ret (DA.thn_ret (DA.inb_ret (DA.thn_ret (DA.inb_ret (DA.thn_ret ?_)))))))
        rw [hrun]
        exact bodyA.ret (ResA.one rfl rfl) zE ⟨by simp, hs1.trans hs3, hB3⟩
  refine XA.exit (DA.thn_exit (DA.thn_exit (DA.inb_same (zT (zS (zR (yA ?_))))))); refine yS ?_; refine zN (zT (XA.ret ?_))
  obtain rfl : i = n := by omega
  rw [Nat.sub_self, tearL] at hrun
  rw [hrun]
  exact bodyA.ret (ResA.one rfl rfl) zE ⟨by simp, hs1, hB1⟩
theorem do_b (s : LStp) (hf : stpFault s = 0) (hm0 : 0 ≤ s.mask) (hm1 : s.mask < 18446744073709551616) (hc : PSl 4 rIn σ (.slice pc (codeOf p).length cc) (codeOf p)) (hi : PInts σ iv inp) (hB : BeG σ g (.slice pc (codeOf p).length cc) iv L.b Γ) (h : LiOk p inp L k) (hk : k + 3000 ≤ 900000) (hkp : L.b.kept.st = 0) :
    CallsA Tryz.prog 15 #[ptr g, .agg #[i64 s.kind, i64 s.n, i64 s.K, .int .u64 s.mask]] σ Γ (RetA fun v σ' Γ' => v = i64 ((doL (codeOf p) inp s L).2 : Nat) ∧ σ.sub σ' ∧ BeG σ' g (.slice pc (codeOf p).length cc) iv (doL (codeOf p) inp s L).1.b Γ') := by
  obtain ⟨kd, n, K, m⟩ := s
  simp only at hm0 hm1 ⊢
  have hd : doL (codeOf p) inp ⟨kd, n, K, m⟩ L = if kd = 1 then runL (codeOf p) inp n.toNat L else if kd = 3 then tearL (codeOf p) inp K (bitOf m 0) n.toNat L else (wakeL L, 0) := by rw [doL, if_neg (fun x => x hf)]
  have hb : kd = 1 ∨ kd = 2 ∨ kd = 3 := by
    rw [stpFault] at hf
    split at hf
    · cases hf
    · rename_i q; simp only at q; omega
  have hf2 : kd ≠ 2 → 0 ≤ n ∧ n ≤ 3000 := by
    intro h2
    rw [stpFault] at hf
    split at hf
    · cases hf
    · split at hf
      · cases hf
      · rename_i q
        constructor
        · exact Classical.byContradiction fun z => q (.inl ⟨h2, .inl (by simp only; omega)⟩)
        · exact Classical.byContradiction fun z => q (.inl ⟨h2, .inr (by simp only; omega)⟩)
  rcases hb with rfl | rfl | rfl
  · obtain ⟨n0, n1⟩ := hf2 (by decide)
    obtain ⟨n, rfl⟩ : ∃ j : Nat, n = j := ⟨n.toNat, by omega⟩
    rw [hd, if_pos rfl, Int.toNat_natCast]
    exact runB_b σ g pc cc iv p inp L k Γ n K m hc hi hB h (by omega)
  · rw [hd, if_neg (by decide), if_neg (by decide)]
    obtain ⟨hw1, hw2⟩ := h.small (by omega) hkp
    obtain ⟨sp, sc, pl, cl, op, oc, k0, k1, k2, k3, k4, k5, hkk, rfl⟩ := hB
    have hB : BeG σ g (.slice pc (codeOf p).length cc) iv L.b _ := ⟨sp, sc, pl, cl, op, oc, k0, k1, k2, k3, k4, k5, hkk, rfl⟩
    refine enterA2 Tryz.func15 rfl rfl rfl ?_; refine zS (zR ?_); refine zw rfl WrA.bx ?_
    rintro _ _ _ ⟨g3, rfl, rfl, rfl⟩
    refine yS ?_; refine zN (zT (zS (zS (zR (yV ?_))))); refine yB ?_; refine yE ?_; refine zN (zT (yT rfl rfl (zS (zR (yA ?_))))); refine zw rfl (WrA.cE (wake_b σ g _ _ _ _ hB hw1 hw2) rfl) ?_
    rintro _ _ _ ⟨_, ⟨rfl, rfl, hB4⟩, rfl⟩
    refine XOA.cl ?_
    obtain ⟨sp4, sc4, pl4, cl4, op4, oc4, e0, e1, e2, e3, e4, e5, hk4, rfl⟩ := hB4
    have hB4 : BeG σ g (.slice pc (codeOf p).length cc) iv (wakeB L.b) _ := ⟨sp4, sc4, pl4, cl4, op4, oc4, e0, e1, e2, e3, e4, e5, hk4, rfl⟩
    try dsimp only [List.append, List.cons_append, List.nil_append]
    refine zN (zT (zS (zR (yS ?_)))); refine zN (zT (XA.ret (DA.thn_ret ?_)))
    exact bodyA.ret (ResA.one rfl rfl) zE ⟨rfl, .refl _, hB4⟩
  · obtain ⟨n0, n1⟩ := hf2 (by decide)
    obtain ⟨n, rfl⟩ : ∃ j : Nat, n = j := ⟨n.toNat, by omega⟩
    have hK : 0 ≤ K := by
      rw [stpFault] at hf
      split at hf
      · cases hf
      · split at hf
        · cases hf
        · rename_i q
          exact Classical.byContradiction fun z => q (.inr ⟨rfl, by simp only; omega⟩)
    rw [hd, if_neg (by decide), if_pos rfl, Int.toNat_natCast]
    exact tearB_b σ g pc cc iv p inp L k Γ n K m hK hm0 hm1 hc hi hB h (by omega) hkp
end
end Go.Proofs.YtmnmcjdgnpgchaaGreat

namespace Go.Proofs.YtmnmcjdgnpgchaaGreat
open Go X
set_option maxHeartbeats 8000000
theorem runlife_bad (σ : PH) (cs : List Value) (p : Pr) (iv : Value) (inp : List Int) (lv : Value) (l : List LStp) (fuel : Int) (hp : PrAt σ cs p) (hi : PInts σ iv inp) (hl : PSl 4 rLStp σ lv l) (hl100 : l.length ≤ 100) (hN : stsN p.body ≤ 10000) (hc : checkP p ≠ 0) :
    CallsA Tryz.prog 10 #[.agg cs.toArray, iv, lv, i64 fuel] σ [] (RetA fun v σ' Γ' => v = .tuple #[.agg #[i64 0, .slice none 0 0, .slice none 0 0], i64 (checkP p)] ∧ σ.sub σ' ∧ Γ' = []) := by
  have hp0 := hp
  obtain ⟨vs, bs, rfl, hv, hb⟩ := hp
  obtain ⟨pv, cv, rfl, -, -⟩ := hv.shape
  obtain ⟨pb0, cb, rfl, -, -⟩ := hb.shape
  obtain ⟨pl, cl, rfl, hll, hlm⟩ := hl.shape
  have hnew := newl_bad σ _ p iv inp hp0 hi hN hc
  obtain ⟨pi0, ci0, rfl, hil, him⟩ := hi.shape
  refine enterA4 Tryz.func10 rfl rfl rfl ?_; refine zS (zR ?_); refine zw rfl WrA.bx ?_
  rintro _ _ _ ⟨g4, rfl, rfl, rfl⟩
  refine zw rfl (WrA.alloc (tyrow rfl)) ?_
  rintro _ _ _ ⟨g8, rfl, rfl, rfl⟩
  refine yS ?_; refine zN (zT (zS (zS (zR (yA ?_))))); refine zO rfl (Rd.lenSlice (tyrow rfl) rfl rfl) ?_; refine zO rfl (Rd.gtr rfl rfl) ?_; refine zN (zT (XA.condF rfl (by first | rfl | exact decide_eq_false (by omega)) ?_)); refine XA.skip (zT (zS (zR (zO rfl (Rd.ldA rfl) ?_))))
  refine yA ?_; refine zw rfl (WrA.cE (hnew) rfl) ?_
  rintro _ σ1 _ ⟨_, ⟨rfl, hs1, rfl⟩, rfl⟩
  refine XOA.cl ?_; refine yA ?_; refine zO rfl (Rd.extract rfl rfl) ?_; refine zO rfl (Rd.extract rfl rfl) ?_; refine yS ?_; refine yS ?_; refine zN (zT (zS (zS (zR (yA ?_))))); refine zO rfl (Rd.neq rfl rfl) ?_
  refine zN (zT (XA.condT rfl (by first | rfl | exact decide_eq_true hc) ?_)); refine zS (zR ?_)
  refine zO rfl (Rd.bl (fun _ _ => tyrow) rfl rfl rfl) ?_; refine yA ?_; refine zw rfl (WrA.st (tyrow rfl) rfl) ?_
  rintro _ _ _ ⟨rfl, rfl, rfl⟩
  refine yS ?_; refine zN (zT (XA.ret (DA.thn_ret ?_)))
  exact bodyA.ret (ResA.ct rfl rfl rfl (Ld.atBlk (tyrow rfl) rfl zL rfl (by first | exact take0 (by first | rfl | assumption | (refine (ints_len _).trans ?_; assumption) | (simp [*]; (first | done | fail))) | assumption | exact take_app (by first | rfl | assumption | (refine (ints_len _).trans ?_; assumption) | (simp [*]; (first | done | fail))) | (conv => lhs; simp only [List.drop_succ_cons, List.drop_zero, List.take_succ_cons, List.take_zero])) (by first | rfl | assumption | (refine (ints_len _).trans ?_; assumption) | (simp [*]; (first | done | fail))))) (Ent.nil _) ⟨rfl, hs1, rfl⟩
theorem runlife_long (σ : PH) (cs : List Value) (p : Pr) (iv : Value) (inp : List Int) (lv : Value) (l : List LStp) (fuel : Int) (hp : PrAt σ cs p) (hi : PInts σ iv inp) (hl : PSl 4 rLStp σ lv l) (hl100 : l.length ≤ 100) (hN : stsN p.body ≤ 10000) (hc : checkP p = 0) (h40 : 40 < inp.length) :
    CallsA Tryz.prog 10 #[.agg cs.toArray, iv, lv, i64 fuel] σ [] (RetA fun v σ' Γ' => v = .tuple #[.agg #[i64 0, .slice none 0 0, .slice none 0 0], i64 1] ∧ σ.sub σ' ∧ Γ' = []) := by
  have hp0 := hp
  obtain ⟨vs, bs, rfl, hv, hb⟩ := hp
  obtain ⟨pv, cv, rfl, -, -⟩ := hv.shape
  obtain ⟨pb0, cb, rfl, -, -⟩ := hb.shape
  obtain ⟨pl, cl, rfl, hll, hlm⟩ := hl.shape
  have hnew := newl_long σ _ p iv inp hp0 hi hN hc h40
  obtain ⟨pi0, ci0, rfl, hil, him⟩ := hi.shape
  refine enterA4 Tryz.func10 rfl rfl rfl ?_; refine zS (zR ?_); refine zw rfl WrA.bx ?_
  rintro _ _ _ ⟨g4, rfl, rfl, rfl⟩
  refine zw rfl (WrA.alloc (tyrow rfl)) ?_
  rintro _ _ _ ⟨g8, rfl, rfl, rfl⟩
  refine yS ?_; refine zN (zT (zS (zS (zR (yA ?_))))); refine zO rfl (Rd.lenSlice (tyrow rfl) rfl rfl) ?_; refine zO rfl (Rd.gtr rfl rfl) ?_; refine zN (zT (XA.condF rfl (by first | rfl | exact decide_eq_false (by omega)) ?_)); refine XA.skip (zT (zS (zR (zO rfl (Rd.ldA rfl) ?_))))
  refine yA ?_; refine zw rfl (WrA.cE (hnew) rfl) ?_
  rintro _ σ1 _ ⟨_, ⟨rfl, hs1, rfl⟩, rfl⟩
  refine XOA.cl ?_; refine yA ?_; refine zO rfl (Rd.extract rfl rfl) ?_; refine zO rfl (Rd.extract rfl rfl) ?_; refine yS ?_; refine yS ?_; refine zN (zT (zS (zS (zR (yA ?_))))); refine zO rfl (Rd.neq rfl rfl) ?_; refine zN (zT (yT rfl rfl (zS (zR ?_))))
  refine zO rfl (Rd.bl (fun _ _ => tyrow) rfl rfl rfl) ?_; refine yA ?_; refine zw rfl (WrA.st (tyrow rfl) rfl) ?_
  rintro _ _ _ ⟨rfl, rfl, rfl⟩
  refine yS ?_; refine zN (zT (XA.ret (DA.thn_ret ?_)))
  exact bodyA.ret (ResA.ct rfl rfl rfl (Ld.atBlk (tyrow rfl) rfl zL rfl (by first | exact take0 (by first | rfl | assumption | (refine (ints_len _).trans ?_; assumption) | (simp [*]; (first | done | fail))) | assumption | exact take_app (by first | rfl | assumption | (refine (ints_len _).trans ?_; assumption) | (simp [*]; (first | done | fail))) | (conv => lhs; simp only [List.drop_succ_cons, List.drop_zero, List.take_succ_cons, List.take_zero])) (by first | rfl | assumption | (refine (ints_len _).trans ?_; assumption) | (simp [*]; (first | done | fail))))) (Ent.nil _) ⟨rfl, hs1, rfl⟩
theorem lifeAll_snoc {C : List In} {inp : List Int} {l : List LStp} {i : Nat} {x : LStp} (hx : l[i]? = some x) (L0 : Li) : lifeAll C inp (l.take (i + 1)) L0 = if (lifeAll C inp (l.take i) L0).2 ≠ 0 then lifeAll C inp (l.take i) L0 else if stpFault x ≠ 0 then ((lifeAll C inp (l.take i) L0).1, stpFault x) else ((doL C inp x (lifeAll C inp (l.take i) L0).1).1, 0) := by
  rw [List.take_add_one, hx]
  show lifeAll C inp (l.take i ++ [x]) L0 = _
  rw [lifeAll_app]
  rfl
set_option maxRecDepth 20000 in
theorem ldoes_law (σ : PH) (cs : List Value) (p : Pr) (iv : Value) (inp : List Int) (lv : Value) (l : List LStp) (fuel : Int) (hp : PrAt σ cs p) (hi : PInts σ iv inp) (hl : PSl 4 rLStp σ lv l) :
    CallsA Tryz.prog 3 #[.agg cs.toArray, iv, lv, i64 fuel] σ [] (RetA fun r σ' _ => r = .bool true ∧ σ.sub σ') := by
  have hp0 := hp
  obtain ⟨vs, bs, rfl, hv, hb⟩ := hp
  obtain ⟨pv, cv, rfl, -, -⟩ := hv.shape
  obtain ⟨pb0, cb, rfl, -, -⟩ := hb.shape
  obtain ⟨pl, cl, rfl, hll, hlm⟩ := hl.shape
  obtain ⟨pi0, ci0, rfl, hil, him⟩ := hi.shape
  simp only [maxLen] at hlm him
  refine enterA4 Tryz.func3 rfl rfl rfl ?_; refine zS (zR ?_); refine zw rfl WrA.bx ?_
  rintro _ _ _ ⟨g4, rfl, rfl, rfl⟩
  refine yS ?_; refine zN (zT (zS (zS (zR ?_)))); refine zw rfl (WrA.cE (lifebegun_a σ) rfl) ?_
  rintro _ σ1 _ ⟨_, ⟨rfl, hs1, rfl⟩, rfl⟩
  refine XOA.cl ?_
  have hp1 := hp0.mono hs1
  have hi1 := hi.mono hs1
  have hl1 := hl.mono hs1 (fun cs x h => h)
  refine zO rfl zJ ?_; refine zN (zT (yF rfl rfl (XA.skip (zT (zS (zS (zR (zO rfl (Rd.ldA rfl) ?_)))))))); refine yA ?_; refine yA ?_; refine zw rfl (WrA.cE (greatlife_a σ1 _ p _ inp _ l hp1 hi1 hl1) rfl) ?_
  rintro _ _ _ ⟨_, ⟨b, rfl, hsm, rfl, rfl⟩, rfl⟩
  refine XOA.cl ?_
  cases b with
  | true =>
    refine zN (zT (yT rfl rfl (zS (zR (yS ?_))))); refine zN (zT (XA.ret (DA.thn_ret ?_)))
    exact bodyA.ret (ResA.one rfl rfl) (Ent.nil _) ⟨rfl, hs1⟩
  | false =>
    obtain ⟨hsm, h100, h60⟩ := hsm rfl
    have h900 := hsm.2.2
    have hcdl := codeOf_len p
    by_cases hc : checkP p = 0
    · by_cases h40 : inp.length ≤ 40
      · have hnew := newl_ok σ1 _ p _ inp hp1 hi1 (by omega) hc h40
        refine zN (zT (yF rfl rfl (XA.skip (zT (zS (zR (zO rfl (Rd.ldA rfl) ?_))))))); refine yA ?_; refine zw rfl (WrA.cE (hnew) rfl) ?_
        rintro _ σ2 _ ⟨Γ1, ⟨gx, db, pb, pc, cc, rfl, hs2, hcd, hL1⟩, rfl⟩
        refine XOA.cl ?_
        have hL1' := hL1
        obtain ⟨g, mb, sb, d, s, pi, ci, pj, cj, hQ, hsg, hG, hi2, hj2, rfl⟩ := hL1
        have hp2 := hp1.mono hs2
        have hi12 := hi1.mono hs2
        have hl2 := hl1.mono hs2 (fun cs x h => h)
        have hfa := fault_a σ2 _ p hp2
        rw [hc] at hfa
        try dsimp only [List.append, List.cons_append, List.nil_append]
        refine yA ?_; refine zO rfl (Rd.extract rfl rfl) ?_; refine zO rfl (Rd.extract rfl rfl) ?_; refine yS ?_; refine yS ?_; refine zN (zT (zS (zR (zO rfl (Rd.ldA rfl) ?_)))); refine yC (hfa) ?_; refine yS ?_; refine zN (zT (zS (zS (zR (yA ?_))))); refine yE ?_; refine yA ?_
        first | refine gA ?_ | refine zH ?_
        first | (refine zG ?_; refine zO rfl (Rd.lenSlice (tyrow rfl) rfl rfl) ?_) | refine zH ?_
        first | (refine zG ?_; refine zO rfl (Rd.gtr rfl rfl) ?_) | refine zH ?_
        refine zO rfl zP ?_; refine zN (zT (XA.condF rfl (by first | rfl | exact decide_eq_false (by omega)) ?_)); refine XA.skip (zT (zS (zR (zO rfl (Rd.ldA rfl) ?_)))); refine yA ?_; refine yA ?_; refine yA ?_
        have hrl := runlife_a σ2 _ p _ inp _ l fuel hp2 hi12 hl2 (by omega) (by omega) (by omega) hc h40
        refine zw rfl (WrA.cE (hrl) rfl) ?_
        rintro _ σ3 _ ⟨_, ⟨LR, fR, po, co, pv3, cv3, hrun, rfl, hvo, hvc, hs3, rfl⟩, rfl⟩
        refine XOA.cl ?_; refine yA ?_; refine zO rfl (Rd.extract rfl rfl) ?_; refine zO rfl (Rd.extract rfl rfl) ?_; refine zw rfl (WrA.alloc (tyrow rfl)) ?_
        rintro _ _ _ ⟨g12, rfl, rfl, rfl⟩
        refine zw rfl (WrA.st (tyrow rfl) rfl) ?_
        rintro _ _ _ ⟨rfl, rfl, rfl⟩
        refine yS ?_; refine zN (zT (zS (zS (zR (yA ?_))))); refine zO rfl (Rd.neq rfl rfl) ?_; refine zN (zT (yF rfl rfl (XA.skip (zT (zS (zS (zR (yA ?_)))))))); refine zO rfl (Rd.neq rfl rfl) ?_; refine zN (zT (yF rfl rfl (XA.skip (zT (zS (zR (zO rfl (Rd.ldA rfl) ?_))))))); refine yA ?_
        refine zw rfl (WrA.cE (new_b σ3 _ p _ inp (hp2.mono hs3) (hi12.mono hs3) hc (by omega)) rfl) ?_
        rintro _ σ4 _ ⟨_, ⟨gb, pc', cc', rfl, hs4, hcd', hB0⟩, rfl⟩
        refine XOA.cl ?_
        obtain ⟨sp, sc, ql, cql, op, oc, k0, k1, k2, k3, k4, k5, hkk, rfl⟩ := hB0
        have hB0 : BeG σ4 gb (.slice pc' (codeOf p).length cc') (.slice pi0 inp.length ci0) (L0 (sizes p.vars).toNat).b _ := ⟨sp, sc, ql, cql, op, oc, k0, k1, k2, k3, k4, k5, hkk, rfl⟩
        try dsimp only [List.append, List.cons_append, List.nil_append]
        refine yS ?_; refine zN (zT (zS (zR (yS ?_)))); refine zN (zT (zS (zS (zR (yS ?_))))); refine zN (zT (XA.block ?_))
        refine XA.gen [(2, _), (3, _), (8, _), (9, _), (12, _), (13, _), (14, _), (15, _), (16, _)] ⟨(by with_reducible (conv => lhs; whnf)), (by with_reducible (conv => lhs; whnf)), (by with_reducible (conv => lhs; whnf)), (by with_reducible (conv => lhs; whnf)), (by with_reducible (conv => lhs; whnf)), (by with_reducible (conv => lhs; whnf)), (by with_reducible (conv => lhs; whnf)), (by with_reducible (conv => lhs; whnf)), (by with_reducible (conv => lhs; whnf)), trivial⟩ (fun δ => ?_)
        dsimp only [List.foldl]
        refine XA.loop [(8, 8), (15, 19), (70, 121)] (fun x : (Nat × Int) × Li => [(16, i64 x.1.1), (15, i64 x.1.2)]) (fun x σ' Γ' => σ4.sub σ' ∧ x.1.1 ≤ l.length ∧ LiOk p inp x.2 (3000 * x.1.1) ∧ x.2.b.kept.st = 0 ∧ x.1.2 = (lifeAll (codeOf p) inp (l.take x.1.1) (L0 (sizes p.vars).toNat)).2 ∧ (x.1.2 = 0 → (lifeAll (codeOf p) inp (l.take x.1.1) (L0 (sizes p.vars).toNat)).1 = x.2) ∧ ∃ gn : Int, gn ≤ (3000 * x.1.1 : Nat) ∧ ∃ Γ1 Γ2, LifeG σ' gx db pb pc cc (sizes p.vars).toNat p inp x.2 gn Γ1 ∧ BeG σ' gb (.slice pc' (codeOf p).length cc') (.slice pi0 inp.length ci0) x.2.b Γ2 ∧ Γ' = blk g12 [i64 (saysC LR fR), .slice po (saysO LR fR).length co, .slice pv3 (saysV LR fR).length cv3] 35 :: (Γ1 ++ Γ2)) (fun x => l.length - x.1.1) ((0, 0), L0 (sizes p.vars).toNat) (by exact ⟨rfl, rfl, trivial⟩) (Δ0 := _) ?_ (⟨.refl _, Nat.zero_le _, life0 hc inp (by omega) (by omega), rfl, rfl, fun _ => rfl, 0, Int.le_refl _, _, _, hL1'.mono (hs3.trans hs4), hB0, rfl⟩) ?_
        · exact zE
        rintro ⟨⟨i, bad⟩, L⟩ δ σ5 _ ⟨hs5, hin, hok, hkp, hbad, hbl, gn, hgn, Γ1, Γ2, hL2, hB2, rfl⟩
        dsimp only [ovr, List.foldl]
        have hin : i ≤ l.length := hin
        simp only at hok hgn hL2 hB2 hkp hbad hbl
        have hL2' := hL2
        obtain ⟨g2, mb2, sb2, d2, s2, pi2, ci2, pj2, cj2, hQ2, hsg2, hG2, hi22, hj22, rfl⟩ := hL2
        obtain ⟨sp2, sc2, ql2, cql2, op2, oc2, b0, b1, b2, b3, b4, b5, hk2, rfl⟩ := hB2
        have hB2 : BeG σ5 gb (.slice pc' (codeOf p).length cc') (.slice pi0 inp.length ci0) L.b _ := ⟨sp2, sc2, ql2, cql2, op2, oc2, b0, b1, b2, b3, b4, b5, hk2, rfl⟩
        have hc5 := hcd.mono ((hs3.trans hs4).trans hs5) (fun _ _ h => h)
        have hcb5 := hcd'.mono hs5 (fun _ _ h => h)
        have hi5 := (hi12.mono hs3).mono (hs4.trans hs5)
        dsimp only [List.append, List.cons_append, List.nil_append]
        refine zS (zS (zR (yA ?_))); refine yA ?_; refine zO rfl (Rd.lenSlice (tyrow rfl) rfl rfl) ?_; refine zO rfl (Rd.lss rfl rfl) ?_; refine zN (zT ?_); refine XA.condp rfl (fun hlt => ?_) (fun hlt => ?_)
        · have hlt : i < l.length := by omega
          obtain ⟨x, hx⟩ : ∃ x, l[i]? = some x := ⟨_, List.getElem?_eq_getElem hlt⟩
          have hsn := lifeAll_snoc (C := codeOf p) (inp := inp) hx (L0 (sizes p.vars).toNat)
          obtain ⟨gr, orow, row, rfl, ⟨hrx, hxK, hx0, hx1⟩, hrl2, hrow⟩ := (hl2.mono ((hs3.trans hs4).trans hs5) (fun cs x h => h)).at hx
          subst hrx
          have hdo := do_l σ5 gx db pb pc cc (sizes p.vars).toNat p inp L gn (3000 * i) x _ hxK hx0 hx1 hc5 hL2' hok (by omega) hgn
          obtain ⟨hok2, hle2, -⟩ := doL_ok x hok (by omega)
          have hkp2 := do_kept x hok (by omega) hkp
          have hsf := fun σ => stepfault_a σ x
          by_cases hf : stpFault x = 0
          · have hbo := fun σ6 (h6 : σ5.sub σ6) => do_b σ6 gb pc' cc' (.slice pi0 inp.length ci0) p inp L (3000 * i) _ x hf hx0 hx1 (hcb5.mono h6 (fun _ _ h => h)) (hi5.mono h6) (hB2.mono h6) hok (by omega) hkp
            rw [hf] at hdo
            have hsf1 : ∀ σ, CallsA Tryz.prog 14 #[.agg #[i64 x.kind, i64 x.n, i64 x.K, .int .u64 x.mask]] σ [] (RetA fun v σ' Γ' => v = i64 0 ∧ σ = σ' ∧ Γ' = []) := fun σ => by have := hsf σ; rw [hf] at this; exact this
            obtain ⟨L', hL'⟩ : ∃ L', L' = (doL (codeOf p) inp x L).1 := ⟨_, rfl⟩
            obtain ⟨k', hk'⟩ : ∃ k', k' = (doL (codeOf p) inp x L).2 := ⟨_, rfl⟩
            rw [← hL', ← hk'] at hdo hok2
            rw [← hL'] at hkp2
            rw [← hk'] at hle2
            have hbo1 : ∀ σ6 (h6 : σ5.sub σ6), CallsA Tryz.prog 15 #[ptr gb, .agg #[i64 x.kind, i64 x.n, i64 x.K, .int .u64 x.mask]] σ6 _ (RetA fun v σ' Γ' => v = i64 (k' : Nat) ∧ σ6.sub σ' ∧ BeG σ' gb (.slice pc' (codeOf p).length cc') (.slice pi0 inp.length ci0) L'.b Γ') := fun σ6 h6 => by have := hbo σ6 h6; rw [← hL', ← hk'] at this; exact this
            have hok3 : LiOk p inp L' (3000 * (i + 1)) := hok2.le (by omega)
            have hcl3 := hok3.mach.cells
            have hol3 := hok3.mach.ol
            have hnn : ¬ ((k' : Int) ≠ (k' : Int)) := fun h => h rfl
            rw [if_neg (show ¬ (stpFault x ≠ 0) from fun q => q hf)] at hsn
            obtain ⟨-, -, hv1, h48⟩ := check_valid hc
            have hsn0 := sizes_nonneg hv1
            refine XA.skip (zT (zS (XA.block (zS (zR (yA ?_)))))); refine yA ?_; refine yA ?_; refine zO rfl (Rd.ixS rfl rfl) ?_; refine zO rfl (Rd.ldA rfl) ?_; refine zw rfl (WrA.cE (hdo) rfl) ?_
            rintro _ σ6 _ ⟨Γ3, ⟨rfl, hs6, gn3, hg3, -, hL3⟩, rfl⟩
            refine XOA.cl ?_
            have hL3' := hL3
            obtain ⟨g3, mb3, sb3, d3, s3, pi3, ci3, pj3, cj3, hQ3, hsg3, hG3, hi3, hj3, rfl⟩ := hL3
            have hrow6 := hrow.mono hs6
            try dsimp only [List.append, List.cons_append, List.nil_append]
            refine yA ?_; refine zO rfl (Rd.extract rfl rfl) ?_; refine zO rfl (Rd.extract rfl rfl) ?_; refine yS ?_; refine yS ?_; refine zN (zT (zS (zR (yA ?_)))); refine yA ?_; refine zO rfl (Rd.ixS rfl rfl) ?_; refine zO rfl (Rd.ldA rfl) ?_; refine yC (hsf1 σ6) ?_; refine yS ?_
            refine zN (zT (zS (zS (zR (yA ?_))))); refine yA ?_; refine zO rfl (Rd.neq rfl rfl) ?_; refine yA ?_
            first | refine gA ?_ | refine zH ?_
            first | (refine zG ?_; refine zO rfl (Rd.neq rfl rfl) ?_) | refine zH ?_
            first | refine gA ?_ | refine zH ?_
            first | refine gA ?_ | refine zH ?_
            first | (refine zG ?_; refine zO rfl (Rd.neq rfl rfl) ?_) | refine zH ?_
            first | (refine zG ?_; refine zO rfl zP ?_) | refine zH ?_
            refine zO rfl zP ?_; refine zN (zT (yF rfl rfl (XA.skip (zT (zS (zS (zR (yA ?_)))))))); refine zO rfl (Rd.neq rfl rfl) ?_; refine zN (zT (yF rfl rfl (XA.skip (zT (zS (zR (yA ?_))))))); (iterate 3 (refine yA ?_)); refine zO rfl (Rd.ixS rfl rfl) ?_; refine zO rfl (Rd.ldA rfl) ?_
            refine zw rfl (WrA.cE (hbo1 σ6 hs6) rfl) ?_
            rintro _ σ7 _ ⟨_, ⟨rfl, hs7, hB3⟩, rfl⟩
            refine XOA.cl ?_
            obtain ⟨sp3, sc3, ql3, cql3, op3, oc3, e0, e1, e2, e3, e4, e5, hk3, rfl⟩ := hB3
            have hB3 : BeG σ7 gb (.slice pc' (codeOf p).length cc') (.slice pi0 inp.length ci0) L'.b _ := ⟨sp3, sc3, ql3, cql3, op3, oc3, e0, e1, e2, e3, e4, e5, hk3, rfl⟩
            try dsimp only [List.append, List.cons_append, List.nil_append]
            refine zO rfl (Rd.neq rfl rfl) ?_; refine yA ?_
            first | refine gA ?_ | refine zH ?_
            first | refine XOA.wanted rfl rfl ?_ | refine XOA.wq rfl rfl ?_
            refine zw rfl (WrA.cE (nowe_l σ7 gx db pb pc cc (sizes p.vars).toNat p inp L' (3000 * (i + 1)) g3 mb3 sb3 d3 s3 pi3 ci3 pj3 cj3 hok3 (by omega) hcl3.symm) rfl) ?_
            rintro _ σ8 _ ⟨_, ⟨po2, co2, pv2, cv2, rfl, hvo2, hvc2, hs8, rfl⟩, rfl⟩
            refine XOA.cl ?_
            try dsimp only [List.append, List.cons_append, List.nil_append]
            first | refine gA ?_ | refine zH ?_
            first | refine XOA.wanted rfl rfl ?_ | refine XOA.wq rfl rfl ?_
            refine yC (now_b σ8 gb _ _ _ _ _ _ _ _ _ _ _ _ L'.b.m.st ql3 op3 _ _ _ _ L'.b.wrong) ?_
            try dsimp only [List.append, List.cons_append, List.nil_append]
            first | refine XOA.wanted rfl rfl ?_ | refine XOA.wq rfl rfl ?_
            refine yC (sresultO_a σ8 (nowC L'.b) _ _ op3 ql3 oc3 cql3 L'.b.out L'.b.m.cells hvo2 hvc2 (by omega) (by omega)) ?_
            try dsimp only [List.append, List.cons_append, List.nil_append]
            first | (refine zG ?_; refine zO rfl zJ ?_) | refine zH ?_
            refine zO rfl zP ?_; refine zN (zT (yF rfl rfl (XA.skip (DA.inb_normal (zT (zR (yA ?_))))))); refine zO rfl zI ?_; refine yS ?_; refine zN (zT ?_)
            refine ⟨(Keep.upd (Keep.upd (Keep.upd (Keep.upd (Keep.upd (Keep.updO (Keep.updO (Keep.upd (Keep.updO (Keep.upd (Keep.upd (Keep.upd (Keep.updO (Keep.upd (Keep.upd (Keep.upd (Keep.upd (Keep.upd (Keep.upd (Keep.upd (Keep.upd (Keep.upd (Keep.upd (Keep.upd (Keep.upd (Keep.upd (Keep.upd (Keep.upd (Keep.upd (Keep.upd (Keep.upd (Keep.upd (Keep.upd (Keep.updO (Keep.upd (Keep.upd (Keep.upd (Keep.upd (Keep.upd (Keep.upd (Keep.upd (Keep.upd (Keep.upd (Keep.updO (Keep.upd (Keep.upd (Keep.upd (Keep.upd (Keep.upd (Keep.upd (Keep.upd (Keep.upd (Keep.upd (Keep.upd (Keep.upd (Keep.hav (Keep.hav (Keep.hav (Keep.refl _ _) rfl) rfl) rfl) rfl) rfl) rfl) rfl) rfl) rfl) rfl) rfl) rfl) rfl) rfl) rfl) rfl) rfl) rfl) rfl) rfl) rfl) rfl) rfl) rfl) rfl) rfl) rfl) rfl) rfl) rfl) rfl) rfl) rfl) rfl) rfl) rfl) rfl) rfl) rfl) rfl) rfl) rfl) rfl) rfl) rfl) rfl) rfl) rfl) rfl) rfl) rfl) rfl) rfl) rfl) rfl) rfl) rfl) rfl), ((i + 1, bad), L'), _, zM, ?_, ⟨((hs5.trans hs6).trans hs7).trans hs8, hlt, hok3, hkp2, by show bad = (lifeAll (codeOf p) inp (l.take (i + 1)) (L0 (sizes p.vars).toNat)).2; rw [hsn]; by_cases hb0 : bad = 0; rw [if_neg (by rw [← hbad]; exact fun q => q hb0)]; exact hb0; rw [if_pos (by rw [← hbad]; exact hb0)]; exact hbad, fun (hb0 : bad = 0) => by show (lifeAll (codeOf p) inp (l.take (i + 1)) (L0 (sizes p.vars).toNat)).1 = L'; rw [hsn, if_neg (by rw [← hbad]; exact fun q => q hb0), hbl hb0]; exact hL'.symm, gn3, by show gn3 ≤ ((3000 * (i + 1) : Nat) : Int); omega, _, _, hL3'.mono (hs7.trans hs8), hB3.mono hs8, rfl⟩, (by simp only; omega)⟩
            · exact zE
          · have hd0 : doL (codeOf p) inp x L = (L, 0) := by rw [doL, if_pos hf]
            rw [hd0] at hdo
            have hff : ¬ (stpFault x ≠ stpFault x) := fun h => h rfl
            rw [if_pos (show stpFault x ≠ 0 from hf)] at hsn
            refine XA.skip (zT (zS (XA.block (zS (zR (yA ?_)))))); refine yA ?_; refine yA ?_; refine zO rfl (Rd.ixS rfl rfl) ?_; refine zO rfl (Rd.ldA rfl) ?_; refine zw rfl (WrA.cE (hdo) rfl) ?_
            rintro _ σ6 _ ⟨Γ3, ⟨rfl, hs6, gn3, hg3, -, hL3⟩, rfl⟩
            refine XOA.cl ?_
            have hL3' := hL3
            obtain ⟨g3, mb3, sb3, d3, s3, pi3, ci3, pj3, cj3, hQ3, hsg3, hG3, hi3, hj3, rfl⟩ := hL3
            have hrow6 := hrow.mono hs6
            try dsimp only [List.append, List.cons_append, List.nil_append]
            refine yA ?_; refine zO rfl (Rd.extract rfl rfl) ?_; refine zO rfl (Rd.extract rfl rfl) ?_; refine yS ?_; refine yS ?_; refine zN (zT (zS (zR (yA ?_)))); refine yA ?_; refine zO rfl (Rd.ixS rfl rfl) ?_; refine zO rfl (Rd.ldA rfl) ?_; refine yC (hsf σ6) ?_; refine yS ?_
            refine zN (zT (zS (zS (zR (yA ?_))))); refine yA ?_; refine zO rfl (Rd.neq rfl rfl) ?_; refine yA ?_
            first | refine gA ?_ | refine zH ?_
            first | (refine zG ?_; refine zO rfl (Rd.neq rfl rfl) ?_) | refine zH ?_
            first | refine gA ?_ | refine zH ?_
            first | refine gA ?_ | refine zH ?_
            first | (refine zG ?_; refine zO rfl (Rd.neq rfl rfl) ?_) | refine zH ?_
            first | (refine zG ?_; refine zO rfl zP ?_) | refine zH ?_
            refine zO rfl zP ?_; refine zN (zT (XA.condF rfl (by first | rfl | exact decide_eq_false (by omega)) ?_)); refine XA.skip (zT (zS (zS (zR (yA ?_))))); refine zO rfl (Rd.neq rfl rfl) ?_; refine zN (zT (XA.condT rfl (by first | rfl | exact decide_eq_true hf) ?_)); refine zS (zS (zR (yA ?_)))
            refine yE ?_; refine zN (zT ?_)
            by_cases hb0 : bad = 0
            · refine XA.condT rfl (by first | rfl | exact decide_eq_true hb0) ?_
              refine zR (yA ?_); refine yS ?_; refine zN (zT (XA.exit (DA.thn_exit (DA.inb_same (zT (zR (yA ?_))))))); refine zO rfl zI ?_; refine yS ?_; refine zN (zT ?_)
              refine ⟨(Keep.upd (Keep.upd (Keep.upd (Keep.upd (Keep.upd (Keep.upd (Keep.upd (Keep.upd (Keep.upd (Keep.upd (Keep.upd (Keep.upd (Keep.upd (Keep.upd (Keep.upd (Keep.upd (Keep.upd (Keep.upd (Keep.upd (Keep.upd (Keep.upd (Keep.updO (Keep.upd (Keep.upd (Keep.upd (Keep.upd (Keep.upd (Keep.upd (Keep.upd (Keep.upd (Keep.upd (Keep.updO (Keep.upd (Keep.upd (Keep.upd (Keep.upd (Keep.upd (Keep.upd (Keep.upd (Keep.upd (Keep.upd (Keep.upd (Keep.upd (Keep.hav (Keep.hav (Keep.hav (Keep.refl _ _) rfl) rfl) rfl) rfl) rfl) rfl) rfl) rfl) rfl) rfl) rfl) rfl) rfl) rfl) rfl) rfl) rfl) rfl) rfl) rfl) rfl) rfl) rfl) rfl) rfl) rfl) rfl) rfl) rfl) rfl) rfl) rfl) rfl) rfl) rfl) rfl) rfl) rfl) rfl) rfl) rfl) rfl) rfl) rfl) rfl) rfl), ((i + 1, stpFault x), L), _, zM, ?_, ⟨hs5.trans hs6, hlt, hok.le (by show _ ≤ 3000 * (i + 1); omega), hkp, by show stpFault x = (lifeAll (codeOf p) inp (l.take (i + 1)) (L0 (sizes p.vars).toNat)).2; rw [hsn, if_neg (by rw [← hbad]; exact fun q => q hb0)], fun h0 => absurd h0 hf, gn3, by show gn3 ≤ ((3000 * (i + 1) : Nat) : Int); omega, _, _, hL3', hB2.mono hs6, rfl⟩, (by simp only; omega)⟩
              · exact zE
            · skip
              refine XA.condF rfl (by first | rfl | exact decide_eq_false hb0) ?_; refine XA.skip (zT (XA.exit (DA.thn_exit (DA.inb_same (zT (zR (yA ?_))))))); refine zO rfl zI ?_; refine yS ?_; refine zN (zT ?_)
              refine ⟨(Keep.upd (Keep.upd (Keep.upd (Keep.upd (Keep.upd (Keep.upd (Keep.upd (Keep.upd (Keep.upd (Keep.upd (Keep.upd (Keep.upd (Keep.upd (Keep.upd (Keep.upd (Keep.upd (Keep.upd (Keep.upd (Keep.upd (Keep.updO (Keep.upd (Keep.upd (Keep.upd (Keep.upd (Keep.upd (Keep.upd (Keep.upd (Keep.upd (Keep.upd (Keep.updO (Keep.upd (Keep.upd (Keep.upd (Keep.upd (Keep.upd (Keep.upd (Keep.upd (Keep.upd (Keep.upd (Keep.upd (Keep.upd (Keep.hav (Keep.hav (Keep.hav (Keep.refl _ _) rfl) rfl) rfl) rfl) rfl) rfl) rfl) rfl) rfl) rfl) rfl) rfl) rfl) rfl) rfl) rfl) rfl) rfl) rfl) rfl) rfl) rfl) rfl) rfl) rfl) rfl) rfl) rfl) rfl) rfl) rfl) rfl) rfl) rfl) rfl) rfl) rfl) rfl) rfl) rfl) rfl) rfl) rfl) rfl), ((i + 1, bad), L), _, zM, ?_, ⟨hs5.trans hs6, hlt, hok.le (by show _ ≤ 3000 * (i + 1); omega), hkp, by show bad = (lifeAll (codeOf p) inp (l.take (i + 1)) (L0 (sizes p.vars).toNat)).2; rw [hsn, if_pos (by rw [← hbad]; exact hb0)]; exact hbad, fun h0 => absurd h0 hb0, gn3, by show gn3 ≤ ((3000 * (i + 1) : Nat) : Int); omega, _, _, hL3', hB2.mono hs6, rfl⟩, (by simp only; omega)⟩
              · exact zE
        obtain rfl : i = l.length := by omega
        rw [List.take_length] at hbad hbl
        rw [lifeAll_app] at hrun
        refine XA.exit (DA.thn_exit (DA.thn_exit (DA.inb_same (zT (zS (zR (yA ?_))))))); refine zO rfl (Rd.bl (fun _ _ => tyrow) rfl rfl rfl) ?_; refine zw rfl (WrA.alloc (tyrow rfl)) ?_
        rintro _ _ _ ⟨g20, rfl, rfl, rfl⟩
        refine zw rfl (WrA.st (tyrow rfl) rfl) ?_
        rintro _ _ _ ⟨rfl, rfl, rfl⟩
        refine zN (zT (zS (zS (zR (yA ?_))))); refine yE ?_; refine zN (zT ?_)
        have fin0 : bad ≠ 0 → fR = bad ∧ saysC LR fR = 0 ∧ saysO LR fR = [] ∧ saysV LR fR = [] := fun hb0 => by
          rw [if_pos (by rw [← hbad]; exact hb0)] at hrun
          have e2 : fR = bad := by rw [hbad]; exact (congrArg Prod.snd hrun).symm
          have hfR : fR ≠ 0 := by rw [e2]; exact hb0
          exact ⟨e2, by rw [saysC, if_neg hfR], by rw [saysO, if_neg hfR], by rw [saysV, if_neg hfR]⟩
        have fin1 : bad = 0 → stpFault ⟨1, fuel, 0, 0⟩ ≠ 0 → fR = stpFault ⟨1, fuel, 0, 0⟩ ∧ saysC LR fR = 0 ∧ saysO LR fR = [] ∧ saysV LR fR = [] := fun hb0 hf => by
          rw [if_neg (by rw [← hbad]; exact fun q => q hb0), lifeAll, if_pos hf] at hrun
          have e2 : fR = stpFault ⟨1, fuel, 0, 0⟩ := (congrArg Prod.snd hrun).symm
          have hfR : fR ≠ 0 := by rw [e2]; exact hf
          exact ⟨e2, by rw [saysC, if_neg hfR], by rw [saysO, if_neg hfR], by rw [saysV, if_neg hfR]⟩
        have fin2 : bad = 0 → stpFault ⟨1, fuel, 0, 0⟩ = 0 → fR = 0 ∧ LR = (doL (codeOf p) inp ⟨1, fuel, 0, 0⟩ L).1 := fun hb0 hf => by
          rw [if_neg (by rw [← hbad]; exact fun q => q hb0), lifeAll, if_neg (fun q => q hf), lifeAll, hbl hb0] at hrun
          exact ⟨(congrArg Prod.snd hrun).symm, (congrArg Prod.fst hrun).symm⟩
        by_cases hb0 : bad = 0
        · by_cases hf : stpFault ⟨1, fuel, 0, 0⟩ = 0
          · obtain ⟨q1, q2⟩ := fin2 hb0 hf
            subst hb0
            have hsf := stepfault_a σ5 ⟨1, fuel, 0, 0⟩
            rw [hf] at hsf
            have hbo := do_b σ5 gb pc' cc' (.slice pi0 inp.length ci0) p inp L (3000 * l.length) _ ⟨1, fuel, 0, 0⟩ hf (show (0 : Int) ≤ 0 by decide) (show (0 : Int) < 18446744073709551616 by decide) hcb5 hi5 hB2 hok (by omega) hkp
            obtain ⟨hok2, hle2, -⟩ := doL_ok ⟨1, fuel, 0, 0⟩ hok (by omega)
            rw [← q2] at hbo hok2
            have hol3 := hok2.mach.ol
            have hcl3 := hok2.mach.cells
            obtain ⟨-, -, hv1, h48⟩ := check_valid hc
            have hsn0 := sizes_nonneg hv1
            have eC : saysC LR fR = nowC LR.b := by rw [saysC, if_pos q1]
            have eO : saysO LR fR = LR.b.out := by rw [saysO, if_pos q1]
            have eV : saysV LR fR = LR.b.m.cells := by rw [saysV, if_pos q1]
            subst q1
            rw [eO] at hvo
            rw [eV] at hvc
            rw [eC, eO, eV]
            refine yT rfl rfl (zR (zO rfl (Rd.ldA rfl) ?_)); refine yC (hsf) ?_; refine yS ?_; refine zN (zT (zS (zS (zR (yA ?_))))); refine zO rfl (Rd.neq rfl rfl) ?_; refine zN (zT (yF rfl rfl (XA.skip (zT (zS (zR (yA ?_))))))); refine zO rfl (Rd.ldA rfl) ?_; refine zw rfl (WrA.cE (hbo) rfl) ?_
            rintro _ σ6 _ ⟨_, ⟨rfl, hs6, hB3⟩, rfl⟩
            refine XOA.cl ?_
            obtain ⟨sp3, sc3, ql3, cql3, op3, oc3, e0, e1, e2, e3, e4, e5, hk3, rfl⟩ := hB3
            try dsimp only [List.append, List.cons_append, List.nil_append]
            refine zN (zT (zS ?_))
            refine XA.draw (by kernel_rfl) _ _ [6] [(0, .pu), (1, .pu), (2, .pu), (3, .rd), (4, .pu), (5, .wr), (6, .wr), (7, .pu), (8, .pu)] (by kernel_rfl) (PH.sub.refl _) (Ent.sel (R := blk g12 _ _) zL (Ent.nil _)) ?_
            refine zu rfl rfl Rd.mv ?_; refine zu rfl rfl (Rd.eql rfl rfl) ?_; refine zu rfl rfl Rd.mv ?_
            first | refine XPA.rdG rfl rfl (Rd.ldA rfl) ?_ | refine XPA.offG rfl rfl ?_
            first | refine XPA.puG rfl rfl Rd.mv ?_ | refine XPA.puOffG rfl rfl ?_
            refine XPA.wr0 rfl rfl (by first | exact Gd.free | exact Gd.isB rfl rfl rfl | (apply Gd.isQ; rfl; rfl; exact (by first | exact (rfl : decide _ = true) | exact (rfl : decide _ = false) | (refine decide_eq_true ?_; assumption) | (refine decide_eq_false ?_; assumption) | (refine decide_eq_true ?_; omega) | (refine decide_eq_false ?_; omega)); rfl)) (WrA.cE (now_b σ6 gb _ _ _ _ _ _ _ _ _ _ _ _ LR.b.m.st ql3 op3 _ _ _ _ LR.b.wrong) rfl) ?_
            rintro _ _ _ ⟨_, ⟨rfl, rfl, rfl⟩, rfl⟩
            refine stays (XPA.cl ?_)
            try dsimp only [List.append, List.cons_append, List.nil_append]
            refine XPA.wrZ0 rfl rfl (by first | exact Gd.free | exact Gd.isB rfl rfl rfl | (apply Gd.isQ; rfl; rfl; exact (by first | exact (rfl : decide _ = true) | exact (rfl : decide _ = false) | (refine decide_eq_true ?_; assumption) | (refine decide_eq_false ?_; assumption) | (refine decide_eq_true ?_; omega) | (refine decide_eq_false ?_; omega)); rfl)) (by kernel_rfl) (WrA.cE (sresultO_a σ6 (nowC LR.b) _ _ op3 ql3 oc3 cql3 LR.b.out LR.b.m.cells (hvo.mono ((hs4.trans hs5).trans hs6)) (hvc.mono ((hs4.trans hs5).trans hs6)) (by omega) (by omega)) rfl) ?_
            rintro _ _ _ ⟨_, ⟨rfl, rfl, rfl⟩, rfl⟩
            refine XPA.cl ?_
            try dsimp only [List.append, List.cons_append, List.nil_append]
            refine zu rfl rfl zP ?_; refine zu rfl rfl Rd.asg ?_; refine XPA.nil ?_; refine zT (XA.ret ?_)
            refine bodyA.ret (ResA.one rfl rfl) (Ent.nil _) ⟨?_, ((((hs1.trans hs2).trans hs3).trans hs4).trans hs5).trans hs6⟩
            first | rfl | exact congrArg Value.bool (decide_eq_true rfl)
          · obtain ⟨q1, eC, eO, eV⟩ := fin1 hb0 hf
            subst hb0
            have hff : stpFault ⟨1, fuel, 0, 0⟩ = stpFault ⟨1, fuel, 0, 0⟩ := rfl
            have hsf := stepfault_a σ5 ⟨1, fuel, 0, 0⟩
            rw [eO] at hvo
            rw [eV] at hvc
            rw [eC, eO, eV]
            subst q1
            refine yT rfl rfl (zR (zO rfl (Rd.ldA rfl) ?_))
            refine yC (hsf) ?_; refine yS ?_; refine zN (zT (zS (zS (zR (yA ?_))))); refine zO rfl (Rd.neq rfl rfl) ?_; refine zN (zT (XA.condT rfl (by first | rfl | exact decide_eq_true hf) ?_)); refine zS (zR (yA ?_)); refine yA ?_; refine yE ?_; refine yA ?_
            first | (refine zG ?_; refine zO rfl (Rd.ldA rfl) ?_) | refine zH ?_
            first | (refine zG ?_; refine zO rfl (Rd.bl (fun _ _ => tyrow) rfl rfl rfl) ?_) | refine zH ?_
            first | refine XOA.wanted rfl rfl ?_ | refine XOA.wq rfl rfl ?_
            refine yC (sresult_a σ5 0 _ _ _ _ [] [] (hvo.mono (hs4.trans hs5)) (hvc.mono (hs4.trans hs5)) (PInts.nil _) (PInts.nil _)) ?_; refine zO rfl zP ?_; refine yS ?_; refine zN (zT (XA.ret (DA.thn_ret ?_)))
            refine bodyA.ret (ResA.one rfl rfl) (Ent.nil _) ⟨?_, ((((hs1.trans hs2).trans hs3).trans hs4).trans hs5)⟩
            first | rfl | exact congrArg Value.bool (decide_eq_true rfl)
        · obtain ⟨q1, eC, eO, eV⟩ := fin0 hb0
          have hbb : bad = bad := rfl
          rw [eO] at hvo
          rw [eV] at hvc
          rw [eC, eO, eV]
          subst q1
          refine XA.condF rfl (by first | rfl | exact decide_eq_false hb0) ?_; refine XA.skip (zT (zS (zS (zR (yA ?_))))); refine zO rfl (Rd.neq rfl rfl) ?_; refine zN (zT (XA.condT rfl (by first | rfl | exact decide_eq_true hb0) ?_)); refine zS (zR (yA ?_)); refine yA ?_
          refine yE ?_; refine yA ?_
          first | (refine zG ?_; refine zO rfl (Rd.ldA rfl) ?_) | refine zH ?_
          first | (refine zG ?_; refine zO rfl (Rd.bl (fun _ _ => tyrow) rfl rfl rfl) ?_) | refine zH ?_
          first | refine XOA.wanted rfl rfl ?_ | refine XOA.wq rfl rfl ?_
          refine yC (sresult_a σ5 0 _ _ _ _ [] [] (hvo.mono (hs4.trans hs5)) (hvc.mono (hs4.trans hs5)) (PInts.nil _) (PInts.nil _)) ?_; refine zO rfl zP ?_; refine yS ?_; refine zN (zT (XA.ret (DA.thn_ret ?_)))
          refine bodyA.ret (ResA.one rfl rfl) (Ent.nil _) ⟨?_, ((((hs1.trans hs2).trans hs3).trans hs4).trans hs5)⟩
          first | rfl | exact congrArg Value.bool (decide_eq_true rfl)
      · have hnew := newl_long σ1 _ p _ inp hp1 hi1 (by omega) hc (by omega)
        refine zN (zT (yF rfl rfl (XA.skip (zT (zS (zR (zO rfl (Rd.ldA rfl) ?_))))))); refine yA ?_; refine zw rfl (WrA.cE (hnew) rfl) ?_
        rintro _ σ2 _ ⟨_, ⟨rfl, hs2, rfl⟩, rfl⟩
        refine XOA.cl ?_
        have hp2 := hp1.mono hs2
        have hfa := fault_a σ2 _ p hp2
        rw [hc] at hfa
        refine yA ?_; refine zO rfl (Rd.extract rfl rfl) ?_; refine zO rfl (Rd.extract rfl rfl) ?_; refine yS ?_; refine yS ?_; refine zN (zT (zS (zR (zO rfl (Rd.ldA rfl) ?_)))); refine yC (hfa) ?_; refine yS ?_; refine zN (zT (zS (zS (zR (yA ?_))))); refine yE ?_; refine yA ?_
        first | refine gA ?_ | refine zH ?_
        first | (refine zG ?_; refine zO rfl (Rd.lenSlice (tyrow rfl) rfl rfl) ?_) | refine zH ?_
        first | (refine zG ?_; refine zO rfl (Rd.gtr rfl rfl) ?_) | refine zH ?_
        refine zO rfl zP ?_; refine zN (zT (XA.condT rfl (by first | rfl | exact decide_eq_true (by omega)) ?_)); refine zR (yS ?_); refine zN (zT (zS (zR (zO rfl (Rd.ldA rfl) ?_)))); refine yA ?_; refine yA ?_; refine yA ?_
        refine zw rfl (WrA.cE (runlife_long σ2 _ p _ inp _ l fuel hp2 (hi1.mono hs2) (hl1.mono hs2 (fun cs x h => h)) (by omega) (by omega) hc (by omega)) rfl) ?_
        rintro _ σ3 _ ⟨_, ⟨rfl, hs3, rfl⟩, rfl⟩
        refine XOA.cl ?_; refine yA ?_; refine zO rfl (Rd.extract rfl rfl) ?_; refine zO rfl (Rd.extract rfl rfl) ?_; refine zw rfl (WrA.alloc (tyrow rfl)) ?_
        rintro _ _ _ ⟨g12, rfl, rfl, rfl⟩
        refine zw rfl (WrA.st (tyrow rfl) rfl) ?_
        rintro _ _ _ ⟨rfl, rfl, rfl⟩
        refine yS ?_; refine zN (zT (zS (zS (zR (yA ?_))))); refine zO rfl (Rd.neq rfl rfl) ?_; refine zN (zT (yT rfl rfl (zS (zR (yA ?_))))); refine yA ?_; refine yE ?_; refine yA ?_
        first | refine gA ?_ | refine zH ?_
        first | refine gA ?_ | refine zH ?_
        first | refine gE ?_ | refine zH ?_
        refine zO rfl zP ?_; refine yA ?_
        first | (refine zG ?_; refine zO rfl (Rd.ldA rfl) ?_) | refine zH ?_
        first | (refine zG ?_; refine zO rfl (Rd.bl (fun _ _ => tyrow) rfl rfl rfl) ?_) | refine zH ?_
        first | refine XOA.wanted rfl rfl ?_ | refine XOA.wq rfl rfl ?_
        refine yC (sresult_a σ3 0 _ _ _ _ [] [] (PInts.nil _) (PInts.nil _) (PInts.nil _) (PInts.nil _)) ?_; refine zO rfl zP ?_; refine yS ?_; refine zN (zT (XA.ret (DA.thn_ret ?_)))
        exact bodyA.ret (ResA.one rfl rfl) (Ent.nil _) ⟨rfl, (hs1.trans hs2).trans hs3⟩
    · have hnew := newl_bad σ1 _ p _ inp hp1 hi1 (by omega) hc
      have n0 : ¬ (checkP p = 0) := hc
      have n1 : checkP p ≠ 0 := hc
      have n2 : checkP p = checkP p := rfl
      refine zN (zT (yF rfl rfl (XA.skip (zT (zS (zR (zO rfl (Rd.ldA rfl) ?_))))))); refine yA ?_; refine zw rfl (WrA.cE (hnew) rfl) ?_
      rintro _ σ2 _ ⟨_, ⟨rfl, hs2, rfl⟩, rfl⟩
      refine XOA.cl ?_
      have hp2 := hp1.mono hs2
      refine yA ?_; refine zO rfl (Rd.extract rfl rfl) ?_; refine zO rfl (Rd.extract rfl rfl) ?_; refine yS ?_; refine yS ?_; refine zN (zT (zS (zR (zO rfl (Rd.ldA rfl) ?_)))); refine yC (fault_a σ2 _ p hp2) ?_; refine yS ?_; refine zN (zT (zS (zS (zR (yA ?_))))); refine yE ?_; refine yA ?_
      first | refine gA ?_ | refine zH ?_
      first | (refine zG ?_; refine zO rfl (Rd.lenSlice (tyrow rfl) rfl rfl) ?_) | refine zH ?_
      first | (refine zG ?_; refine zO rfl (Rd.gtr rfl rfl) ?_) | refine zH ?_
      refine zO rfl zP ?_; refine zN (zT (XA.condF rfl (by first | rfl | exact decide_eq_false n0) ?_)); refine XA.skip (zT (zS (zR (zO rfl (Rd.ldA rfl) ?_)))); refine yA ?_; refine yA ?_; refine yA ?_
      refine zw rfl (WrA.cE (runlife_bad σ2 _ p _ inp _ l fuel hp2 (hi1.mono hs2) (hl1.mono hs2 (fun cs x h => h)) (by omega) (by omega) hc) rfl) ?_
      rintro _ σ3 _ ⟨_, ⟨rfl, hs3, rfl⟩, rfl⟩
      refine XOA.cl ?_; refine yA ?_; refine zO rfl (Rd.extract rfl rfl) ?_; refine zO rfl (Rd.extract rfl rfl) ?_; refine zw rfl (WrA.alloc (tyrow rfl)) ?_
      rintro _ _ _ ⟨g12, rfl, rfl, rfl⟩
      refine zw rfl (WrA.st (tyrow rfl) rfl) ?_
      rintro _ _ _ ⟨rfl, rfl, rfl⟩
      refine yS ?_; refine zN (zT (zS (zS (zR (yA ?_))))); refine zO rfl (Rd.neq rfl rfl) ?_; refine zN (zT (XA.condT rfl (by first | rfl | exact decide_eq_true hc) ?_)); refine zS (zR (yA ?_)); refine yA ?_; refine yE ?_; refine yA ?_
      first | refine gA ?_ | refine zH ?_
      first | refine gA ?_ | refine zH ?_
      first | refine gE ?_ | refine zH ?_
      refine zO rfl zP ?_; refine yA ?_
      first | (refine zG ?_; refine zO rfl (Rd.ldA rfl) ?_) | refine zH ?_
      first | (refine zG ?_; refine zO rfl (Rd.bl (fun _ _ => tyrow) rfl rfl rfl) ?_) | refine zH ?_
      first | refine XOA.wanted rfl rfl ?_ | refine XOA.wq rfl rfl ?_
      refine yC (sresult_a σ3 0 _ _ _ _ [] [] (PInts.nil _) (PInts.nil _) (PInts.nil _) (PInts.nil _)) ?_; refine zO rfl zP ?_; refine yS ?_; refine zN (zT (XA.ret (DA.thn_ret ?_)))
      refine bodyA.ret (ResA.one rfl rfl) (Ent.nil _) ⟨?_, (hs1.trans hs2).trans hs3⟩
      first | rfl | exact congrArg Value.bool (decide_eq_true rfl)
end Go.Proofs.YtmnmcjdgnpgchaaGreat

namespace Go.Proofs.YtmnmcjdgnpgchaaGreat
open Go X Go.ChangeShapes Go.WideShapes Go.ChangeAt Go.RowKit
theorem lst4p {α : Type} : ∀ {l : List α}, l.length = 4 → ∃ a b c d, l = [a, b, c, d]
  | [a, b, c, d], _ => ⟨a, b, c, d, rfl⟩
theorem dec_lstp : Dec Tryz.prog 45 rLStp := ⟨fun {H enc w fuel cs x} h => by
  obtain ⟨hl, hx⟩ := trod_fields (tyrow rfl) rfl h
  obtain ⟨f0, y0, h0⟩ := hx (3, 0) (by simp)
  obtain ⟨f1, y1, h1⟩ := hx (3, 1) (by simp)
  obtain ⟨f2, y2, h2⟩ := hx (3, 2) (by simp)
  obtain ⟨f3, y3, h3⟩ := hx (43, 3) (by simp)
  obtain ⟨a0, p0, -⟩ := (Dec.int (tyrow rfl) rfl).out h0
  obtain ⟨a1, p1, -⟩ := (Dec.int (tyrow rfl) rfl).out h1
  obtain ⟨a2, p2, q2⟩ := (Dec.int (tyrow rfl) rfl).out h2
  obtain ⟨a3, p3, q3⟩ := (Dec.int (tyrow rfl) rfl).out h3
  rw [cellsOf_ty' (tyrow rfl)] at p0 p1 p2 p3
  have hcs : cs.length = 4 := hl
  obtain ⟨c0, c1, c2, c3, rfl⟩ := lst4p hcs
  simp only [List.drop_zero, List.drop_succ_cons] at p0 p1 p2 p3
  have e0 : c0 = i64 a0 := by have := congrArg (·[0]?) p0; simpa using this
  have e1 : c1 = i64 a1 := by have := congrArg (·[0]?) p1; simpa using this
  have e2 : c2 = i64 a2 := by have := congrArg (·[0]?) p2; simpa using this
  have e3 : c3 = .int .u64 a3 := by have := congrArg (·[0]?) p3; simpa using this
  subst e0 e1 e2 e3
  exact ⟨⟨a0, a1, a2, a3⟩, rfl, Int.lt_of_le_of_lt q2.2 (by decide), q3.1, Int.lt_of_le_of_lt q3.2 (by decide)⟩⟩
end Go.Proofs.YtmnmcjdgnpgchaaGreat

namespace Go.Proofs.YtmnmcjdgnpgchaaGreat
open Go X Go.ChangeShapes Go.WideShapes Go.ChangeAt Go.RowKit
set_option maxRecDepth 100000 in
theorem lifeDoes_lifted (os : Os) (started : os.Started) (H : Type) (enc : TypeId × Value → H) :
    ReturnsInHanded {} Tryz.checked os 3 .any (Rows.lifeDoesSpec.pre6 enc Tryz.prog Tryz.f3 Rows.lifeDoesRow.domain false) (Rows.lifeDoesSpec.post enc Tryz.prog Tryz.f3 false true false false) := by
  refine returnsInHanded_of_change (C := Tryz.checked) Tryz.own started (by kernel_rfl) Tryz.func3
    (ChangeSpec.witness6 (enc := enc) (C := Tryz.checked) false ⟨#[], #[.agg #[.slice none 0 0, .slice none 0 0], .slice none 0 0, .slice none 0 0, .int .i64 0], []⟩ 8 (by kernel_rfl) (by kernel_rfl) (by kernel_rfl) (by kernel_rfl)) ?_
  intro W base args ds gs before hval0 hW hcnd _
  have hval : ∀ (j : Nat) t v, Tryz.f3.params[j]? = some t → args[j]? = some v → Value.okWide Tryz.prog W .any base t v := hval0
  have hW' := hW
  obtain ⟨p, q, hA0, hV, rfl, hfz, hnd⟩ := hW
  have hA : DataW.TrodAll enc Tryz.prog W 0 (fun _ => true) true [25, 26, 27, 3] args.toList ds p := hA0
  obtain ⟨v0, v1, v2, v3, d0, d1, d2, d3, p0, p1, p2, p3, rfl, rfl, rfl, h0, h1, h2, h3⟩ := trodAll_four hA
  have hb : Tryz.prog.underlying 4 = some .bool := by kernel_rfl
  refine post_true (fid := 3) (tb := 4) Tryz.laidOut (by kernel_rfl) rfl rfl hb ?_ hW' (callsX_true ?_)
  · obtain ⟨rfl, rfl⟩ := trodVars_none hV; rfl
  · obtain ⟨pr0, cs0, rfl, hp0⟩ := Dec.agg dec_pr (tyrow rfl) rfl (hval 0 _ v0 rfl rfl) h0
    obtain ⟨xs1, _, e1, hxs1⟩ := (Dec.slice (tyrow rfl) rfl (tyrow rfl) rfl (by decide) (Dec.int (tyrow rfl) rfl)).one (tyrow rfl) rfl (hval 1 _ v1 rfl rfl) h1 rSl_one
    simp only [List.cons.injEq, and_true] at e1
    subst e1
    obtain ⟨ms2, _, e2, hms2⟩ := (Dec.slice (tyrow rfl) rfl (tyrow rfl) rfl (by decide) dec_lstp).one (tyrow rfl) rfl (hval 2 _ v2 rfl rfl) h2 rSl_one
    simp only [List.cons.injEq, and_true] at e2
    subst e2
    obtain ⟨n3, e3, ln3, un3⟩ := (Dec.int (tyrow rfl) rfl).one (tyrow rfl) rfl (hval 3 _ v3 rfl rfl) h3 rInt_one
    simp only [List.cons.injEq, and_true] at e3
    subst e3
    exact ldoes_law _ cs0 pr0 _ xs1 _ ms2 n3 hp0 (pints_of hxs1) hms2
theorem lifeDoes_holds : Rows.LifeDoesSaid :=
  OpenClaim.holds_of_wide 3 Tryz.f3 rfl rfl rfl rfl rfl rfl rfl ⟨rfl, rfl, rfl, rfl, rfl⟩ rfl rfl rfl rfl rfl (by kernel_rfl) Tryz.func3 (by kernel_rfl)
    (of_decide_eq_true (by kernel_rfl)) (by unfold Func.isWrapper; first | (rw [if_pos (by decide +kernel)]; kernel_rfl) | (rw [if_neg (by decide +kernel)]; exact ⟨rfl, rfl⟩))
    (fun os started H enc _ => lifeDoes_lifted os started H enc)
end Go.Proofs.YtmnmcjdgnpgchaaGreat

