/- What expressions say is what instructions do, plainly. -/
import Derived.Test.YtbbghdkndbpmmaaJv
namespace Go.Proofs.Ytbbghdkndbpmmaa
open Go X
section
variable {C : List In} {inp : List Int}
/-- By some instructions it comes to another place. -/
def Goes (C : List In) (inp : List Int) (f : Nat) (b : Be) (f' : Nat) (b' : Be) : Prop := f' ≤ f ∧ runM C inp f b = ((runM C inp f' b').1, (runM C inp f' b').2 + (f - f'))
theorem Goes.refl (f : Nat) (b : Be) : Goes C inp f b f b := ⟨Nat.le_refl _, by simp⟩
theorem Goes.trans {f f1 f2 : Nat} {b b1 b2 : Be} (h : Goes C inp f b f1 b1) (k : Goes C inp f1 b1 f2 b2) : Goes C inp f b f2 b2 := by
  refine ⟨Nat.le_trans k.1 h.1, ?_⟩
  rw [h.2, k.2]
  have := h.1; have := k.1
  simp only [Prod.mk.injEq, true_and]; omega
theorem Goes.step {f : Nat} {b : Be} {x : In} (h0 : b.m.st = 0) (hx : C[b.m.next]? = some x) : Goes C inp (f + 1) b f (doIn inp false x (bump b)) := by
  refine ⟨Nat.le_succ _, ?_⟩
  rw [runM, if_neg (by rw [h0]; simp), stepB, hx]
  simp
def At_ (C : List In) (pc : Nat) (L : List In) : Prop := ∀ i x, L[i]? = some x → C[pc + i]? = some x
theorem At_.left {pc : Nat} {L M : List In} (h : At_ C pc (L ++ M)) : At_ C pc L := fun i x hx => h i x (by rw [List.getElem?_append_left (List.getElem?_eq_some_iff.1 hx).1]; exact hx)
theorem At_.right {pc : Nat} {L M : List In} (h : At_ C pc (L ++ M)) : At_ C (pc + L.length) M := fun i x hx => by
  rw [Nat.add_assoc]; exact h _ x (by rw [List.getElem?_append_right (Nat.le_add_right _ _), Nat.add_sub_cancel_left]; exact hx)
theorem At_.one {pc : Nat} {x : In} (h : At_ C pc [x]) : C[pc]? = some x := h 0 x rfl
def adv (b : Be) (n : Nat) (st : List Int) : Be := { b with m := { b.m with next := n, stack := st } }
/-- How a failure looks on the machine. -/
def Fin (c : Int) (f : Nat) (b : Be) : Prop := (c = 13 ∧ f = 0 ∧ b.m.st = 0) ∨ ((c = 11 ∨ c = 12) ∧ b.m.st = c + 2)
/-- It failed, and nothing else is other than the numbers of the stack. -/
def Stuck (b : Be) (c : Int) (f : Nat) (b' : Be) : Prop := b'.m.cells = b.m.cells ∧ b'.out = b.out ∧ b'.wrong = b.wrong ∧ Fin c f b'
def ExSim (C : List In) (inp : List Int) (vs : List Va) (x : Ex) : Prop := ∀ (pc : Nat) (b : Be) (f : Nat), At_ C pc (exCode vs x) → b.m.next = pc → b.m.st = 0 →
  (∀ v f', exRun vs b.m.cells x f = .ok (v, f') → Goes C inp f b f' (adv b (pc + (exCode vs x).length) (v :: b.m.stack))) ∧
  (∀ c f', exRun vs b.m.cells x f = .error (c, f') → ∃ b', Goes C inp f b f' b' ∧ Stuck b c f' b')
theorem exs_sim (vs : List Va) : ∀ (l : List Ex), (∀ x ∈ l, ExSim C inp vs x) → ∀ (pc : Nat) (b : Be) (f : Nat), At_ C pc (exsCode vs l) → b.m.next = pc → b.m.st = 0 →
  (∀ xs f', exsRun vs b.m.cells l f = .ok (xs, f') → Goes C inp f b f' (adv b (pc + (exsCode vs l).length) (xs.reverse ++ b.m.stack))) ∧
  (∀ c f', exsRun vs b.m.cells l f = .error (c, f') → ∃ b', Goes C inp f b f' b' ∧ Stuck b c f' b')
  | [], _, pc, b, f, _, hn, _ => by
    refine ⟨fun xs f' h => ?_, fun c f' h => (by cases h)⟩
    cases h
    have : adv b (pc + (exsCode vs []).length) ([].reverse ++ b.m.stack) = b := by subst hn; rfl
    rw [this]; exact Goes.refl _ _
  | x :: l, hx, pc, b, f, hC, hn, h0 => by
    rw [exsCode] at hC ⊢
    obtain ⟨h1, h2⟩ := hx x (by simp) pc b f hC.left hn h0
    rw [exsRun]
    cases e1 : exRun vs b.m.cells x f with
    | error q =>
      obtain ⟨c, k⟩ := q
      refine ⟨fun xs f' h => (by cases h), fun c' f' h => ?_⟩
      cases h
      exact h2 _ _ e1
    | ok q =>
      obtain ⟨v, f1⟩ := q
      have g1 := h1 _ _ e1
      obtain ⟨k1, k2⟩ := exs_sim vs l (fun y hy => hx y (by simp [hy])) (pc + (exCode vs x).length) (adv b (pc + (exCode vs x).length) (v :: b.m.stack)) f1 hC.right rfl h0
      change (∀ xs f', exsRun vs b.m.cells l f1 = _ → _) at k1
      change (∀ c f', exsRun vs b.m.cells l f1 = _ → _) at k2
      simp only
      cases e2 : exsRun vs b.m.cells l f1 with
      | error q =>
        obtain ⟨c, k⟩ := q
        refine ⟨fun xs f' h => (by cases h), fun c' f' h => ?_⟩
        cases h
        obtain ⟨b', g2, s2⟩ := k2 _ _ e2
        exact ⟨b', g1.trans g2, s2⟩
      | ok q =>
        obtain ⟨xs, f2⟩ := q
        refine ⟨fun ys f' h => ?_, fun c' f' h => (by cases h)⟩
        cases h
        have g2 := g1.trans (k1 _ _ e2)
        have e : adv (adv b (pc + (exCode vs x).length) (v :: b.m.stack)) (pc + (exCode vs x).length + (exsCode vs l).length) (xs.reverse ++ (v :: b.m.stack)) = adv b (pc + (exCode vs x ++ exsCode vs l).length) ((v :: xs).reverse ++ b.m.stack) := by
          simp only [adv, List.length_append, List.reverse_cons, List.append_assoc, List.cons_append, List.nil_append, Nat.add_assoc]
        rw [← e]; exact g2
theorem ex_sim (vs : List Va) (x : Ex) {nv : Nat} : ExV nv x → ExSim C inp vs x := by
  refine Ex.ind (P := fun x => ExV nv x → ExSim C inp vs x) ?_ x
  intro op v n l ih hV pc b f hC hn h0
  rw [ExV] at hV
  obtain ⟨hop, hlp, -, -, hsV⟩ := hV
  rw [exCode] at hC ⊢
  obtain ⟨h1, h2⟩ := exs_sim vs l (fun y hy => ih y hy (hsV.mem y hy)) pc b f hC.left hn h0
  have hx := (hC.right).one
  rw [exRun]
  cases e1 : exsRun vs b.m.cells l f with
  | error q =>
    obtain ⟨c, k⟩ := q
    refine ⟨fun xs f' h => (by cases h), fun c' f' h => ?_⟩
    cases h
    exact h2 _ _ e1
  | ok q =>
    obtain ⟨xs, f1⟩ := q
    have g1 := h1 _ _ e1
    have hlen := exsLen vs b.m.cells l f e1
    cases f1 with
    | zero =>
      refine ⟨fun v f' h => (by cases h), fun c' f' h => ?_⟩
      cases h
      exact ⟨_, g1, rfl, rfl, rfl, .inl ⟨rfl, rfl, h0⟩⟩
    | succ f1 =>
      have g2 := g1.trans (Goes.step (f := f1) (b := adv b (pc + (exsCode vs l).length) (xs.reverse ++ b.m.stack)) h0 hx)
      have hof : oneF (f1 + 1) = .ok f1 := by simp [oneF]
      simp only [hof]
      have hlen' : (pc + (exsCode vs l).length) + 1 = pc + (exsCode vs l ++ [opIn vs op v n]).length := by rw [List.length_append, List.length_singleton, Nat.add_assoc]
      have hpl : (xs.length : Int) = partsOf op := by rw [hlen]; exact hlp
      by_cases q1 : op = 1
      · subst q1
        obtain rfl : xs = [] := List.eq_nil_of_length_eq_zero (by have : partsOf 1 = 0 := rfl; omega)
        refine ⟨fun w f' h => ?_, fun c' f' h => (by cases h)⟩
        cases h
        rw [← hlen']; exact g2
      by_cases q2 : op = 2
      · subst q2
        obtain rfl : xs = [] := List.eq_nil_of_length_eq_zero (by have : partsOf 2 = 0 := rfl; omega)
        refine ⟨fun w f' h => ?_, fun c' f' h => (by cases h)⟩
        cases h
        rw [← hlen']; exact g2
      by_cases q3 : op = 3
      · subst q3
        obtain ⟨a, rfl⟩ : ∃ a, xs = [a] := by
          match xs, hpl with
          | [a], _ => exact ⟨a, rfl⟩
          | [], h => exact absurd h (by decide)
          | _ :: _ :: _, h => have : partsOf 3 = 1 := rfl; rw [this, List.length_cons, List.length_cons] at h; omega
        by_cases hk : a < 0 ∨ sizeV vs v ≤ a
        · have hr : opRun vs b.m.cells 3 v n [a] f1 = .error (11, f1) := if_pos hk
          rw [hr]
          refine ⟨fun w f' h => (by cases h), fun c' f' h => ?_⟩
          cases h
          have e : doIn inp false (opIn vs 3 v n) (bump (adv b (pc + (exsCode vs l).length) ([a].reverse ++ b.m.stack))) = { b with m := { b.m with next := pc + (exsCode vs l).length + 1, stack := b.m.stack, st := 13 } } := if_pos hk
          rw [e] at g2
          exact ⟨_, g2, rfl, rfl, rfl, .inr ⟨by decide, rfl⟩⟩
        · have hr : opRun vs b.m.cells 3 v n [a] f1 = .ok (b.m.cells.getD (cellOf vs v + a).toNat 0, f1) := if_neg hk
          rw [hr]
          refine ⟨fun w f' h => ?_, fun c' f' h => (by cases h)⟩
          cases h
          have e : doIn inp false (opIn vs 3 v n) (bump (adv b (pc + (exsCode vs l).length) ([a].reverse ++ b.m.stack))) = adv b (pc + (exsCode vs l).length + 1) (b.m.cells.getD (cellOf vs v + a).toNat 0 :: b.m.stack) := if_neg hk
          rw [e] at g2
          rw [← hlen']; exact g2
      have h48 : 4 ≤ op ∧ op ≤ 8 := by omega
      have hpo : partsOf op = 2 := by rw [partsOf, if_neg (by omega), if_neg q3, if_pos h48]
      obtain ⟨a, c, rfl⟩ : ∃ a c, xs = [a, c] := by
        match xs, hpl with
        | [a, c], _ => exact ⟨a, c, rfl⟩
        | [], h => rw [hpo] at h; simp at h
        | [_], h => rw [hpo] at h; simp at h
        | _ :: _ :: _ :: _, h => rw [hpo, List.length_cons, List.length_cons, List.length_cons] at h; omega
      have hr : opRun vs b.m.cells op v n [a, c] f1 = .ok (binV op a c, f1) := by rw [opRun, if_neg q1, if_neg q2, if_neg q3]; rfl
      rw [hr]
      refine ⟨fun w f' h => ?_, fun c' f' h => (by cases h)⟩
      cases h
      have hdo : ∀ (b1 : Be) (s : List Int), b1.m.stack = c :: a :: s → doIn inp false (opIn vs op v n) b1 = { b1 with m := { b1.m with stack := binV op a c :: s } } := fun b1 s hs => by
        rw [doIn]
        simp only [ex_op, if_neg q1, if_neg q2, if_neg q3, if_pos h48, hs]
      have e := hdo (bump (adv b (pc + (exsCode vs l).length) ([a, c].reverse ++ b.m.stack))) b.m.stack rfl
      rw [e] at g2
      rw [← hlen']; exact g2
end
end Go.Proofs.Ytbbghdkndbpmmaa
