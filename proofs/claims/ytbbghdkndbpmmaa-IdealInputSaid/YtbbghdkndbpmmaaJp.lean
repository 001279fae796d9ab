/- The laws of package ideal, plainly: more instructions; more input. -/
import Derived.Test.YtbbghdkndbpmmaaJz
namespace Go.Proofs.Ytbbghdkndbpmmaa
open Go X
section
variable {C : List In} {inp : List Int}
theorem runM_le : ∀ (f : Nat) (b : Be), (runM C inp f b).2 ≤ f ∧ ((runM C inp f b).1.m.st = 0 → (runM C inp f b).2 = f)
  | 0, b => ⟨Nat.le_refl _, fun _ => rfl⟩
  | f + 1, b => by
    rw [runM]
    by_cases h : b.m.st ≠ 0
    · rw [if_pos h]; exact ⟨Nat.zero_le _, fun e => absurd e h⟩
    · rw [if_neg h]
      obtain ⟨a, c⟩ := runM_le f (stepB C inp false b)
      exact ⟨Nat.succ_le_succ a, fun e => by simp only; rw [c e]⟩
theorem runM_done {b : Be} (h : b.m.st ≠ 0) (f : Nat) : runM C inp f b = (b, 0) := by
  cases f with
  | zero => rfl
  | succ f => rw [runM, if_pos h]
theorem runM_add : ∀ (f d : Nat) (b : Be), runM C inp (f + d) b = ((runM C inp d (runM C inp f b).1).1, (runM C inp f b).2 + (runM C inp d (runM C inp f b).1).2)
  | 0, d, b => by simp [runM]
  | f + 1, d, b => by
    by_cases h : b.m.st ≠ 0
    · rw [runM_done h, runM_done h]; simp [runM_done h]
    · rw [Nat.add_right_comm, runM, if_neg h, runM_add f d, runM, if_neg h]
      simp only [Prod.mk.injEq, true_and]; omega
theorem doIn_out (k : Bool) (x : In) (b : Be) : b.out <+: (doIn inp k x b).out := by
  obtain ⟨⟨nx, st, rd, on, sta, ce⟩, ke, ou, wr⟩ := b
  rw [doIn]
  by_cases q0 : x.op = 1
  · simp only [if_pos q0]
    first | exact List.prefix_rfl | (repeat' split) <;> first | exact List.prefix_rfl | exact List.prefix_append _ _
  by_cases q1 : x.op = 2
  · simp only [if_neg q0, if_pos q1]
    first | exact List.prefix_rfl | (repeat' split) <;> first | exact List.prefix_rfl | exact List.prefix_append _ _
  by_cases q2 : x.op = 3
  · simp only [if_neg q0, if_neg q1, if_pos q2]
    first | exact List.prefix_rfl | (repeat' split) <;> first | exact List.prefix_rfl | exact List.prefix_append _ _
  by_cases q3 : 4 ≤ x.op ∧ x.op ≤ 8
  · simp only [if_neg q0, if_neg q1, if_neg q2, if_pos q3]
    first | exact List.prefix_rfl | (repeat' split) <;> first | exact List.prefix_rfl | exact List.prefix_append _ _
  by_cases q4 : x.op = 9
  · simp only [if_neg q0, if_neg q1, if_neg q2, if_neg q3, if_pos q4]
    first | exact List.prefix_rfl | (repeat' split) <;> first | exact List.prefix_rfl | exact List.prefix_append _ _
  by_cases q5 : x.op = 10
  · simp only [if_neg q0, if_neg q1, if_neg q2, if_neg q3, if_neg q4, if_pos q5]
    first | exact List.prefix_rfl | (repeat' split) <;> first | exact List.prefix_rfl | exact List.prefix_append _ _
  by_cases q6 : x.op = 11
  · simp only [if_neg q0, if_neg q1, if_neg q2, if_neg q3, if_neg q4, if_neg q5, if_pos q6]
    first | exact List.prefix_rfl | (repeat' split) <;> first | exact List.prefix_rfl | exact List.prefix_append _ _
  by_cases q7 : x.op = 12
  · simp only [if_neg q0, if_neg q1, if_neg q2, if_neg q3, if_neg q4, if_neg q5, if_neg q6, if_pos q7]
    first | exact List.prefix_rfl | (repeat' split) <;> first | exact List.prefix_rfl | exact List.prefix_append _ _
  by_cases q8 : x.op = 13
  · simp only [if_neg q0, if_neg q1, if_neg q2, if_neg q3, if_neg q4, if_neg q5, if_neg q6, if_neg q7, if_pos q8]
    first | exact List.prefix_rfl | (repeat' split) <;> first | exact List.prefix_rfl | exact List.prefix_append _ _
  by_cases q9 : x.op = 14
  · simp only [if_neg q0, if_neg q1, if_neg q2, if_neg q3, if_neg q4, if_neg q5, if_neg q6, if_neg q7, if_neg q8, if_pos q9]
    first | exact List.prefix_rfl | (repeat' split) <;> first | exact List.prefix_rfl | exact List.prefix_append _ _
  by_cases q10 : x.op = 15
  · simp only [if_neg q0, if_neg q1, if_neg q2, if_neg q3, if_neg q4, if_neg q5, if_neg q6, if_neg q7, if_neg q8, if_neg q9, if_pos q10]
    first | exact List.prefix_rfl | (repeat' split) <;> first | exact List.prefix_rfl | exact List.prefix_append _ _
  by_cases q11 : x.op = 16
  · simp only [if_neg q0, if_neg q1, if_neg q2, if_neg q3, if_neg q4, if_neg q5, if_neg q6, if_neg q7, if_neg q8, if_neg q9, if_neg q10, if_pos q11]
    first | exact List.prefix_rfl | (repeat' split) <;> first | exact List.prefix_rfl | exact List.prefix_append _ _
  simp only [if_neg q0, if_neg q1, if_neg q2, if_neg q3, if_neg q4, if_neg q5, if_neg q6, if_neg q7, if_neg q8, if_neg q9, if_neg q10, if_neg q11]
  exact List.prefix_rfl
theorem runM_out : ∀ (f : Nat) (b : Be), b.out <+: (runM C inp f b).1.out
  | 0, b => List.prefix_rfl
  | f + 1, b => by
    rw [runM]
    by_cases h : b.m.st ≠ 0
    · rw [if_pos h]; exact List.prefix_rfl
    · rw [if_neg h]
      refine List.IsPrefix.trans ?_ (runM_out f (stepB C inp false b))
      rw [stepB]
      cases C[b.m.next]? with
      | none => exact List.prefix_rfl
      | some x => exact doIn_out false x (bump b)
theorem doIn_more {more : List Int} {x : In} {b : Be} (h : (doIn inp false x b).m.st ≠ 14) : doIn (inp ++ more) false x b = doIn inp false x b := by
  by_cases q : x.op = 12
  · have e : ∀ i, doIn i false x b = (if i.length ≤ b.m.rd then { b with m := { b.m with st := 14 } } else { b with m := { b.m with cells := b.m.cells.set x.a.toNat (i.getD b.m.rd 0), rd := b.m.rd + 1 } }) := fun i => by
      rw [doIn]; simp only [q]; rfl
    rw [e] at h ⊢
    rw [e]
    by_cases hl : inp.length ≤ b.m.rd
    · rw [if_pos hl] at h; exact absurd rfl h
    · rw [if_neg hl, if_neg (by rw [List.length_append]; omega)]
      have : (inp ++ more).getD b.m.rd 0 = inp.getD b.m.rd 0 := by
        rw [List.getD_eq_getElem?_getD, List.getD_eq_getElem?_getD, List.getElem?_append_left (by omega)]
      rw [this]
  · rw [doIn, doIn]
    simp only [if_neg q]
theorem runM_more {more : List Int} : ∀ (f : Nat) (b : Be), (runM C inp f b).1.m.st ≠ 14 → runM C (inp ++ more) f b = runM C inp f b
  | 0, b, _ => rfl
  | f + 1, b, h => by
    by_cases h0 : b.m.st ≠ 0
    · rw [runM_done h0, runM_done h0]
    · rw [runM, if_neg h0] at h ⊢
      rw [runM, if_neg h0]
      have hs : (stepB C inp false b).m.st ≠ 14 := fun e => by
        apply h
        simp only
        rw [runM_done (by rw [e]; decide)]; exact e
      have e : stepB C (inp ++ more) false b = stepB C inp false b := by
        rw [stepB, stepB] at *
        cases hx : C[b.m.next]? with
        | none => rfl
        | some x => simp only [hx] at hs ⊢; exact doIn_more hs
      rw [e, runM_more f _ h]
end
theorem fuel_plain {p : Pr} (hc : checkP p = 0) {inp : List Int} {f d : Nat} {c c' : Int} {s s' : RS} (h : RunIs p inp f c s) (k : RunIs p inp (f + d) c' s') :
    s.left ≤ f ∧ s'.left ≤ f + d ∧ f - s.left ≤ f + d - s'.left ∧ s.out <+: s'.out ∧ ((c = 13 ∧ s.left = 0) ∨ (c ≠ 13 ∧ c' = c ∧ s'.out = s.out ∧ s'.cells = s.cells ∧ f + d - s'.left = f - s.left)) := by
  obtain ⟨b, e1, l1, c1, o1, -, q1⟩ := run_sim hc h
  obtain ⟨b', e2, l2, c2, o2, -, q2⟩ := run_sim hc k
  rw [runM_add, e1] at e2
  simp only [Prod.mk.injEq] at e2
  obtain ⟨e3, e4⟩ := e2
  have ho := runM_out (C := codeOf p) (inp := inp) d b
  rw [e3, o1, o2] at ho
  refine ⟨l1, l2, by omega, ho, ?_⟩
  have hz := runM_le (C := codeOf p) (inp := inp) f (be0 (sizes p.vars).toNat)
  rw [e1] at hz
  by_cases h0 : b.m.st = 0
  · left
    have := hz.2 h0
    simp only at this
    exact ⟨by omega, by omega⟩
  · right
    rw [runM_done h0] at e3 e4
    simp only at e3 e4
    subst e3
    exact ⟨by omega, by omega, by rw [← o1, ← o2], by rw [← c1, ← c2], by omega⟩
theorem input_plain {p : Pr} (hc : checkP p = 0) {inp more : List Int} {f : Nat} {c c' : Int} {s s' : RS} (h : RunIs p inp f c s) (k : RunIs p (inp ++ more) f c' s') :
    c = 12 ∨ (c' = c ∧ s'.out = s.out ∧ s'.cells = s.cells ∧ f - s'.left = f - s.left ∧ s'.left ≤ f ∧ s.left ≤ f) := by
  obtain ⟨b, e1, l1, c1, o1, -, q1⟩ := run_sim hc h
  obtain ⟨b', e2, l2, c2, o2, -, q2⟩ := run_sim hc k
  by_cases h0 : b.m.st = 14
  · left; omega
  · right
    rw [runM_more f _ (by rw [e1]; exact h0), e1] at e2
    simp only [Prod.mk.injEq] at e2
    obtain ⟨rfl, e4⟩ := e2
    exact ⟨by omega, by rw [← o1, ← o2], by rw [← c1, ← c2], by omega, l2, l1⟩
end Go.Proofs.Ytbbghdkndbpmmaa
