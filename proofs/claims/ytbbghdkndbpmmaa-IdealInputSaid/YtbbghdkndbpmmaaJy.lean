/- What statements say is what instructions do, plainly. -/
import Derived.Test.YtbbghdkndbpmmaaJx
namespace Go.Proofs.Ytbbghdkndbpmmaa
open Go X
section
variable {C : List In} {inp : List Int}
/-- The machine stands as the runner does. -/
structure Rel (inp : List Int) (pc : Nat) (s : RS) (b : Be) : Prop where
  next : b.m.next = pc
  stack : b.m.stack = []
  outn : b.m.outn = s.out.length
  st : b.m.st = 0
  cells : b.m.cells = s.cells
  out : b.out = s.out
  wrong : b.wrong = false
  inp : s.inp = inp.drop b.m.rd
def Done (c : Int) (s : RS) (b : Be) : Prop := b.m.cells = s.cells ∧ b.out = s.out ∧ b.wrong = false ∧ Fin c s.left b
theorem exS_sim {vs : List Va} {nv : Nat} {x : Ex} (hV : ExV nv x) {pc : Nat} {b : Be} {s : RS} (hC : At_ C pc (exCode vs x)) (hn : b.m.next = pc) (h0 : b.m.st = 0) (hc : b.m.cells = s.cells) (ho : b.out = s.out) (hw : b.wrong = false) :
    (∀ v s', exS vs x s = .ok (v, s') → Goes C inp s.left b s'.left (adv b (pc + (exCode vs x).length) (v :: b.m.stack)) ∧ s' = { s with left := s'.left }) ∧
    (∀ c s', exS vs x s = .error (c, s') → ∃ b', Goes C inp s.left b s'.left b' ∧ Done c s' b') := by
  obtain ⟨h1, h2⟩ := ex_sim (inp := inp) vs x hV pc b s.left hC hn h0
  rw [hc] at h1 h2
  rw [exS]
  cases e : exRun vs s.cells x s.left with
  | error q =>
    obtain ⟨c, k⟩ := q
    refine ⟨fun v s' h => (by cases h), fun c' s' h => ?_⟩
    cases h
    obtain ⟨b', g, a1, a2, a3, a4⟩ := h2 _ _ e
    exact ⟨b', g, a1.trans hc, a2.trans ho, a3.trans hw, a4⟩
  | ok q =>
    obtain ⟨v, k⟩ := q
    refine ⟨fun v' s' h => ?_, fun c' s' h => (by cases h)⟩
    cases h
    exact ⟨h1 _ _ e, rfl⟩
/-- One instruction of the statement's own, behind its expressions. -/
theorem one_sim {f : Nat} {b b1 : Be} {s1 : RS} {x : In} (g : Goes C inp f b s1.left b1) (h0 : b1.m.st = 0) (hx : C[b1.m.next]? = some x) (hc : b1.m.cells = s1.cells) (ho : b1.out = s1.out) (hw : b1.wrong = false) :
    (∀ s2, oneS s1 = .ok s2 → Goes C inp f b s2.left (doIn inp false x (bump b1)) ∧ s2 = { s1 with left := s2.left }) ∧
    (∀ c s2, oneS s1 = .error (c, s2) → ∃ b', Goes C inp f b s2.left b' ∧ Done c s2 b') := by
  obtain ⟨cells, i, o, left⟩ := s1
  cases left with
  | zero =>
    refine ⟨fun s2 h => (by cases h), fun c s2 h => ?_⟩
    cases h
    exact ⟨b1, g, hc, ho, hw, .inl ⟨rfl, rfl, h0⟩⟩
  | succ left =>
    refine ⟨fun s2 h => ?_, fun c s2 h => ?_⟩
    · have e : oneS ⟨cells, i, o, left + 1⟩ = .ok ⟨cells, i, o, left⟩ := by simp [oneS]
      rw [e] at h; cases h
      exact ⟨g.trans (Goes.step h0 hx), rfl⟩
    · have e : oneS ⟨cells, i, o, left + 1⟩ = .ok ⟨cells, i, o, left⟩ := by simp [oneS]
      rw [e] at h; cases h
theorem is_sim {vs : List Va} {nv : Nat} {x : Ex} (hV : ExV nv x) {pc t : Nat} {b : Be} {s : RS} (hC : At_ C pc (exCode vs x ++ [⟨13, (t : Nat), 0, 0⟩])) (hR : Rel inp pc s b) :
    (∀ v s', isS vs x s = .ok (v, s') → ∃ b', Goes C inp s.left b s'.left b' ∧ Rel inp (if v then pc + (exCode vs x).length + 1 else t) s' b') ∧
    (∀ c s', isS vs x s = .error (c, s') → ∃ b', Goes C inp s.left b s'.left b' ∧ Done c s' b') := by
  obtain ⟨h1, h2⟩ := exS_sim (inp := inp) hV hC.left hR.next hR.st hR.cells hR.out hR.wrong
  rw [isS]
  cases e : exS vs x s with
  | error q =>
    refine ⟨fun v s' h => (by cases h), fun c' s' h => ?_⟩
    cases h
    exact h2 _ _ e
  | ok q =>
    obtain ⟨n, s1⟩ := q
    obtain ⟨g1, e1⟩ := h1 _ _ e
    simp only
    obtain ⟨k1, k2⟩ := one_sim g1 hR.st hC.right.one (by rw [e1]; exact hR.cells) (by rw [e1]; exact hR.out) hR.wrong
    cases e2 : oneS s1 with
    | error q =>
      refine ⟨fun v s' h => (by cases h), fun c' s' h => ?_⟩
      cases h
      exact k2 _ _ e2
    | ok s2 =>
      obtain ⟨g2, e3⟩ := k1 _ e2
      refine ⟨fun v s' h => ?_, fun c' s' h => (by cases h)⟩
      cases h
      refine ⟨_, g2, ?_⟩
      have hs2 : s2 = { s with left := s2.left } := by rw [e1] at e3; exact e3
      have ho : s2.out = s.out := by rw [hs2]
      have hc : s2.cells = s.cells := by rw [hs2]
      have hi : s2.inp = s.inp := by rw [hs2]
      by_cases hn : n = 0
      · subst hn
        rw [if_neg (by decide)]
        have ed : doIn inp false ⟨13, (t : Nat), 0, 0⟩ (bump (adv b (pc + (exCode vs x).length) (0 :: b.m.stack))) = adv b t b.m.stack := rfl
        rw [ed]
        exact ⟨rfl, hR.stack, by rw [ho]; exact hR.outn, hR.st, by rw [hc]; exact hR.cells, by rw [ho]; exact hR.out, hR.wrong, by rw [hi]; exact hR.inp⟩
      · rw [if_pos (by simpa using hn)]
        have ed : doIn inp false ⟨13, (t : Nat), 0, 0⟩ (bump (adv b (pc + (exCode vs x).length) (n :: b.m.stack))) = adv b (pc + (exCode vs x).length + 1) b.m.stack := if_neg hn
        rw [ed]
        exact ⟨rfl, hR.stack, by rw [ho]; exact hR.outn, hR.st, by rw [hc]; exact hR.cells, by rw [ho]; exact hR.out, hR.wrong, by rw [hi]; exact hR.inp⟩
def StSim (C : List In) (inp : List Int) (vs : List Va) (F : St → RS → Option RR) (x : St) : Prop := ∀ (pc : Nat) (b : Be) (s : RS) (r : RR), F x s = some r → At_ C pc (stCode vs x pc) → Rel inp pc s b →
  (∀ s', r = .ok s' → ∃ b', Goes C inp s.left b s'.left b' ∧ Rel inp (pc + (stCode vs x pc).length) s' b') ∧ (∀ c s', r = .error (c, s') → ∃ b', Goes C inp s.left b s'.left b' ∧ Done c s' b')
theorem list_sim {vs : List Va} {F : St → RS → Option RR} : ∀ (l : List St), (∀ x ∈ l, StSim C inp vs F x) → ∀ (pc : Nat) (b : Be) (s : RS) (r : RR), listG F l s = some r → At_ C pc (stsCode vs l pc) → Rel inp pc s b →
  (∀ s', r = .ok s' → ∃ b', Goes C inp s.left b s'.left b' ∧ Rel inp (pc + (stsCode vs l pc).length) s' b') ∧ (∀ c s', r = .error (c, s') → ∃ b', Goes C inp s.left b s'.left b' ∧ Done c s' b')
  | [], _, pc, b, s, r, h, _, hR => by
    cases h
    exact ⟨fun s' e => by cases e; exact ⟨b, Goes.refl _ _, hR⟩, fun c s' e => (by cases e)⟩
  | x :: l, hx, pc, b, s, r, h, hC, hR => by
    rw [stsCode] at hC ⊢
    rw [listG] at h
    cases e : F x s with
    | none => rw [e] at h; cases h
    | some q =>
      obtain ⟨k1, k2⟩ := hx x (by simp) pc b s q e hC.left hR
      rw [e] at h
      cases q with
      | error q =>
        cases h
        refine ⟨fun s' e => (by cases e), fun c s' e => ?_⟩
        exact k2 c s' e
      | ok s1 =>
        obtain ⟨b1, g1, R1⟩ := k1 s1 rfl
        obtain ⟨j1, j2⟩ := list_sim l (fun y hy => hx y (by simp [hy])) (pc + (stCode vs x pc).length) b1 s1 r h hC.right R1
        refine ⟨fun s' e => ?_, fun c s' e => ?_⟩
        · obtain ⟨b', g, R⟩ := j1 s' e
          exact ⟨b', g1.trans g, by rw [List.length_append, ← Nat.add_assoc]; exact R⟩
        · obtain ⟨b', g, R⟩ := j2 c s' e
          exact ⟨b', g1.trans g, R⟩
end
end Go.Proofs.Ytbbghdkndbpmmaa
