/- What statements say is what instructions do, plainly. -/
import Derived.Test.YtbbghdkndbpmmaaJy
import Derived.Test.YtbbghdkndbpmmaaKs
namespace Go.Proofs.Ytbbghdkndbpmmaa
open Go X
set_option maxHeartbeats 1000000
section
variable {C : List In} {inp : List Int}
theorem adv_rel {pc n : Nat} {b : Be} {s s1 : RS} (hR : Rel inp pc s b) (e : s1 = { s with left := s1.left }) : Rel inp n s1 (adv b n []) := by
  have ho : s1.out = s.out := by rw [e]
  have hc : s1.cells = s.cells := by rw [e]
  have hi : s1.inp = s.inp := by rw [e]
  exact ⟨rfl, rfl, by rw [ho]; exact hR.outn, hR.st, by rw [hc]; exact hR.cells, by rw [ho]; exact hR.out, hR.wrong, by rw [hi]; exact hR.inp⟩
theorem drop_cons {l : List Int} {n : Nat} {x : Int} {r : List Int} (h : x :: r = l.drop n) : n < l.length ∧ l.getD n 0 = x ∧ r = l.drop (n + 1) := by
  have hn : n < l.length := by
    rcases Nat.lt_or_ge n l.length with h1 | h1
    · exact h1
    · rw [List.drop_of_length_le h1] at h; cases h
  rw [List.drop_eq_getElem_cons hn] at h
  simp only [List.cons.injEq] at h
  exact ⟨hn, by rw [List.getD_eq_getElem?_getD, List.getElem?_eq_getElem hn]; exact h.1.symm, h.2⟩
theorem st_sim (vs : List Va) (nv : Nat) : ∀ (g : Nat) (x : St), StV nv x → StSim C inp vs (stG vs g) x := by
  intro g
  induction g with
  | zero => intro x _ pc b s r h; cases h
  | succ g ih =>
  intro x hV pc b s r hr hC hR
  obtain ⟨op, v, e, f, body, els⟩ := x
  have hV0 := hV
  rw [StV] at hV
  obtain ⟨hop, hv, he, hf, -, -, hsb, hse⟩ := hV
  have hops : op = 1 ∨ op = 2 ∨ op = 3 ∨ op = 4 ∨ op = 5 ∨ op = 6 ∨ op = 7 := by omega
  rcases hops with rfl | rfl | rfl | rfl | rfl | rfl | rfl
  · -- the first cell is set
    have hc : stCode vs (.mk 1 v e f body els) pc = exCode vs e ++ [⟨9, cellOf vs v, 0, 0⟩] := by rw [stCode]; rfl
    rw [hc] at hC ⊢
    rw [stG, if_pos rfl] at hr
    cases hr
    obtain ⟨h1, h2⟩ := exS_sim (inp := inp) (he rfl).1 hC.left hR.next hR.st hR.cells hR.out hR.wrong
    rw [setS]
    cases e1 : exS vs e s with
    | error q => exact ⟨fun s' h => (by cases h), fun c s' h => by cases h; exact h2 _ _ e1⟩
    | ok q =>
      obtain ⟨n, s1⟩ := q
      obtain ⟨g1, q1⟩ := h1 _ _ e1
      rw [hR.stack] at g1
      have R1 := adv_rel (n := pc + (exCode vs e).length) hR q1
      obtain ⟨k1, k2⟩ := one_sim (b1 := adv b (pc + (exCode vs e).length) [n]) g1 R1.st hC.right.one R1.cells R1.out R1.wrong
      simp only
      cases e2 : oneS s1 with
      | error q => exact ⟨fun s' h => (by cases h), fun c s' h => by cases h; exact k2 _ _ e2⟩
      | ok s2 =>
        obtain ⟨g2, q2⟩ := k1 _ e2
        refine ⟨fun s' h => ?_, fun c s' h => (by cases h)⟩
        cases h
        refine ⟨_, g2, ?_⟩
        have ed : doIn inp false ⟨9, cellOf vs v, 0, 0⟩ (bump (adv b (pc + (exCode vs e).length) [n])) = { b with m := { b.m with next := pc + (exCode vs e).length + 1, stack := [], cells := b.m.cells.set (cellOf vs v).toNat n } } := rfl
        rw [ed]
        have h3 : s2 = { s with left := s2.left } := by rw [q1] at q2; exact q2
        have ho : s2.out = s.out := by rw [h3]
        have hcc : s2.cells = s.cells := by rw [h3]
        have hi : s2.inp = s.inp := by rw [h3]
        exact ⟨by simp [Nat.add_assoc], rfl, by show b.m.outn = s2.out.length; rw [ho]; exact hR.outn, hR.st, by show b.m.cells.set _ n = s2.cells.set _ n; rw [hcc, hR.cells], by show b.out = s2.out; rw [ho]; exact hR.out, hR.wrong, by show s2.inp = _; rw [hi]; exact hR.inp⟩
  · -- a cell is set
    have hc : stCode vs (.mk 2 v e f body els) pc = exCode vs e ++ (exCode vs f ++ [⟨10, cellOf vs v, sizeV vs v, 0⟩]) := by rw [stCode, ← List.append_assoc]; rfl
    rw [hc] at hC ⊢
    rw [stG, if_neg (by decide), if_pos rfl] at hr
    cases hr
    obtain ⟨h1, h2⟩ := exS_sim (inp := inp) (he rfl).1 hC.left hR.next hR.st hR.cells hR.out hR.wrong
    rw [putS]
    cases e1 : exS vs e s with
    | error q => exact ⟨fun s' h => (by cases h), fun c s' h => by cases h; exact h2 _ _ e1⟩
    | ok q =>
      obtain ⟨k, s1⟩ := q
      obtain ⟨g1, q1⟩ := h1 _ _ e1
      rw [hR.stack] at g1
      have R1 := adv_rel (n := pc + (exCode vs e).length) hR q1
      have hC2 := hC.right
      obtain ⟨j1, j2⟩ := exS_sim (inp := inp) (b := adv b (pc + (exCode vs e).length) [k]) (s := s1) (hf rfl).1 hC2.left rfl R1.st R1.cells R1.out R1.wrong
      simp only
      cases e2 : exS vs f s1 with
      | error q => exact ⟨fun s' h => (by cases h), fun c s' h => by cases h; obtain ⟨b', g2, d⟩ := j2 _ _ e2; exact ⟨b', g1.trans g2, d⟩⟩
      | ok q =>
        obtain ⟨n, s2⟩ := q
        obtain ⟨g2, q2⟩ := j1 _ _ e2
        have q12 : s2 = { s with left := s2.left } := by rw [q1] at q2; exact q2
        have R2 := adv_rel (n := pc + (exCode vs e).length + (exCode vs f).length) hR q12
        have g12 := g1.trans g2
        obtain ⟨k1, k2⟩ := one_sim (b1 := adv b (pc + (exCode vs e).length + (exCode vs f).length) [n, k]) g12 R2.st hC2.right.one R2.cells R2.out R2.wrong
        simp only
        cases e3 : oneS s2 with
        | error q => exact ⟨fun s' h => (by cases h), fun c s' h => by cases h; exact k2 _ _ e3⟩
        | ok s3 =>
          obtain ⟨g3, q3⟩ := k1 _ e3
          have h3 : s3 = { s with left := s3.left } := by rw [q12] at q3; exact q3
          have ho : s3.out = s.out := by rw [h3]
          have hcc : s3.cells = s.cells := by rw [h3]
          have hi : s3.inp = s.inp := by rw [h3]
          simp only
          by_cases hk : k < 0 ∨ sizeV vs v ≤ k
          · rw [if_pos hk]
            refine ⟨fun s' h => (by cases h), fun c s' h => ?_⟩
            cases h
            have ed : doIn inp false ⟨10, cellOf vs v, sizeV vs v, 0⟩ (bump (adv b (pc + (exCode vs e).length + (exCode vs f).length) [n, k])) = { b with m := { b.m with next := pc + (exCode vs e).length + (exCode vs f).length + 1, stack := [], st := 13 } } := if_pos hk
            rw [ed] at g3
            exact ⟨_, g3, by show b.m.cells = s3.cells; rw [hcc]; exact hR.cells, by show b.out = s3.out; rw [ho]; exact hR.out, hR.wrong, .inr ⟨by decide, rfl⟩⟩
          · rw [if_neg hk]
            refine ⟨fun s' h => ?_, fun c s' h => (by cases h)⟩
            cases h
            have ed : doIn inp false ⟨10, cellOf vs v, sizeV vs v, 0⟩ (bump (adv b (pc + (exCode vs e).length + (exCode vs f).length) [n, k])) = { b with m := { b.m with next := pc + (exCode vs e).length + (exCode vs f).length + 1, stack := [], cells := b.m.cells.set (cellOf vs v + k).toNat n } } := if_neg hk
            rw [ed] at g3
            exact ⟨_, g3, by simp only [List.length_append, List.length_singleton]; omega, rfl, by show b.m.outn = s3.out.length; rw [ho]; exact hR.outn, hR.st, by show b.m.cells.set _ n = s3.cells.set _ n; rw [hcc, hR.cells], by show b.out = s3.out; rw [ho]; exact hR.out, hR.wrong, by show s3.inp = _; rw [hi]; exact hR.inp⟩
  · -- it is printed
    have hc : stCode vs (.mk 3 v e f body els) pc = exCode vs e ++ [⟨11, 0, 0, 0⟩] := by rw [stCode]; rfl
    rw [hc] at hC ⊢
    rw [stG, if_neg (by decide), if_neg (by decide), if_pos rfl] at hr
    cases hr
    obtain ⟨h1, h2⟩ := exS_sim (inp := inp) (he rfl).1 hC.left hR.next hR.st hR.cells hR.out hR.wrong
    rw [printS]
    cases e1 : exS vs e s with
    | error q => exact ⟨fun s' h => (by cases h), fun c s' h => by cases h; exact h2 _ _ e1⟩
    | ok q =>
      obtain ⟨n, s1⟩ := q
      obtain ⟨g1, q1⟩ := h1 _ _ e1
      rw [hR.stack] at g1
      have R1 := adv_rel (n := pc + (exCode vs e).length) hR q1
      obtain ⟨k1, k2⟩ := one_sim (b1 := adv b (pc + (exCode vs e).length) [n]) g1 R1.st hC.right.one R1.cells R1.out R1.wrong
      simp only
      cases e2 : oneS s1 with
      | error q => exact ⟨fun s' h => (by cases h), fun c s' h => by cases h; exact k2 _ _ e2⟩
      | ok s2 =>
        obtain ⟨g2, q2⟩ := k1 _ e2
        refine ⟨fun s' h => ?_, fun c s' h => (by cases h)⟩
        cases h
        refine ⟨_, g2, ?_⟩
        have h3 : s2 = { s with left := s2.left } := by rw [q1] at q2; exact q2
        have ho : s2.out = s.out := by rw [h3]
        have hcc : s2.cells = s.cells := by rw [h3]
        have hi : s2.inp = s.inp := by rw [h3]
        have hol : b.m.outn = b.out.length := by rw [hR.outn, hR.out]
        have ed : doIn inp false ⟨11, 0, 0, 0⟩ (bump (adv b (pc + (exCode vs e).length) [n])) = { b with m := { b.m with next := pc + (exCode vs e).length + 1, stack := [], outn := b.m.outn + 1 }, out := b.out ++ [n] } := if_pos hol
        rw [ed]
        exact ⟨by simp [Nat.add_assoc], rfl, by show b.m.outn + 1 = (s2.out ++ [n]).length; rw [ho, hR.outn]; simp, hR.st, by show b.m.cells = s2.cells; rw [hcc, hR.cells], by show b.out ++ [n] = s2.out ++ [n]; rw [ho, hR.out], hR.wrong, by show s2.inp = _; rw [hi]; exact hR.inp⟩
  · -- it is read
    have hc : stCode vs (.mk 4 v e f body els) pc = [⟨12, cellOf vs v, 0, 0⟩] := by rw [stCode]; rfl
    rw [hc] at hC ⊢
    rw [stG, if_neg (by decide), if_neg (by decide), if_neg (by decide), if_pos rfl] at hr
    cases hr
    obtain ⟨k1, k2⟩ := one_sim (Goes.refl (C := C) (inp := inp) s.left b) hR.st (by rw [hR.next]; exact hC.one) hR.cells hR.out hR.wrong
    rw [readS]
    cases e2 : oneS s with
    | error q => exact ⟨fun s' h => (by cases h), fun c s' h => by cases h; exact k2 _ _ e2⟩
    | ok s1 =>
      obtain ⟨g2, q2⟩ := k1 _ e2
      have ho : s1.out = s.out := by rw [q2]
      have hcc : s1.cells = s.cells := by rw [q2]
      have hi : s1.inp = s.inp := by rw [q2]
      simp only
      cases e3 : s1.inp with
      | nil =>
        refine ⟨fun s' h => (by cases h), fun c s' h => ?_⟩
        cases h
        have hle : inp.length ≤ b.m.rd := by
          have := hR.inp; rw [← hi, e3] at this
          exact List.drop_eq_nil_iff.1 this.symm
        have ed : doIn inp false ⟨12, cellOf vs v, 0, 0⟩ (bump b) = { b with m := { b.m with next := b.m.next + 1, st := 14 } } := if_pos hle
        rw [ed] at g2
        exact ⟨_, g2, by show b.m.cells = s1.cells; rw [hcc]; exact hR.cells, by show b.out = s1.out; rw [ho]; exact hR.out, hR.wrong, .inr ⟨by decide, rfl⟩⟩
      | cons n r =>
        refine ⟨fun s' h => ?_, fun c s' h => (by cases h)⟩
        cases h
        obtain ⟨d1, d2, d3⟩ := drop_cons (l := inp) (n := b.m.rd) (x := n) (r := r) (by rw [← hR.inp, ← hi, e3])
        have ed : doIn inp false ⟨12, cellOf vs v, 0, 0⟩ (bump b) = { b with m := { b.m with next := b.m.next + 1, cells := b.m.cells.set (cellOf vs v).toNat (inp.getD b.m.rd 0), rd := b.m.rd + 1 } } := if_neg (by show ¬ inp.length ≤ b.m.rd; omega)
        rw [ed] at g2
        exact ⟨_, g2, by show b.m.next + 1 = _; rw [hR.next]; rfl, hR.stack, by show b.m.outn = s1.out.length; rw [ho]; exact hR.outn, hR.st, by show b.m.cells.set _ (inp.getD b.m.rd 0) = s1.cells.set _ n; rw [hcc, hR.cells, d2], by show b.out = s1.out; rw [ho]; exact hR.out, hR.wrong, d3⟩
  · -- as long as
    have hC0 := hC
    rw [stCode_5] at hC ⊢
    rw [stG_5] at hr
    obtain ⟨B, hB⟩ : ∃ B, B = stsCode vs body (pc + (exCode vs e).length + 1) := ⟨_, rfl⟩
    rw [← hB] at hC ⊢
    obtain ⟨i1, i2⟩ := is_sim (inp := inp) (he rfl).1 hC.left.left hR
    cases e1 : isS vs e s with
    | error q =>
      rw [e1] at hr
      cases hr
      refine ⟨fun s' h => (by cases h), fun c s' h => ?_⟩
      cases h
      exact i2 _ _ e1
    | ok q =>
      obtain ⟨bb, s1⟩ := q
      obtain ⟨b1, g1, R1⟩ := i1 _ _ e1
      rw [e1] at hr
      cases bb with
      | false =>
        cases hr
        refine ⟨fun s' h => ?_, fun c s' h => (by cases h)⟩
        cases h
        refine ⟨b1, g1, ?_⟩
        have el : pc + (exCode vs e ++ [(⟨13, (pc + (exCode vs e).length + 1 + B.length + 1 : Nat), 0, 0⟩ : In)] ++ B ++ [(⟨14, (pc : Nat), 0, 0⟩ : In)]).length = pc + (exCode vs e).length + 1 + B.length + 1 := by simp only [List.length_append, List.length_singleton]; omega
        rw [el]; exact R1
      | true =>
        simp only at hr
        rw [if_pos rfl] at R1
        have hCB : At_ C (pc + (exCode vs e).length + 1) B := by
          have := hC.left.right
          rw [List.length_append, List.length_singleton, ← Nat.add_assoc] at this; exact this
        cases e2 : listG (stG vs g) body s1 with
        | none => rw [e2] at hr; cases hr
        | some q =>
          obtain ⟨l1, l2⟩ := list_sim body (fun y hy => ih y (hsb.mem y hy)) (pc + (exCode vs e).length + 1) b1 s1 q e2 (by rw [← hB]; exact hCB) R1
          rw [e2] at hr
          cases q with
          | error q =>
            cases hr
            refine ⟨fun s' h => (by cases h), fun c s' h => ?_⟩
            obtain ⟨b', g2, d⟩ := l2 c s' h
            exact ⟨b', g1.trans g2, d⟩
          | ok s2 =>
            obtain ⟨b2, g2, R2⟩ := l1 s2 rfl
            rw [← hB] at R2
            have g12 := g1.trans g2
            have hj : C[b2.m.next]? = some ⟨14, (pc : Nat), 0, 0⟩ := by
              rw [R2.next]
              have := hC.right.one
              simp only [List.length_append, List.length_singleton] at this
              rw [← this]; congr 1; omega
            obtain ⟨k1, k2⟩ := one_sim g12 R2.st hj R2.cells R2.out R2.wrong
            simp only at hr
            cases e3 : oneS s2 with
            | error q =>
              rw [e3] at hr; cases hr
              exact ⟨fun s' h => (by cases h), fun c s' h => by cases h; exact k2 _ _ e3⟩
            | ok s3 =>
              rw [e3] at hr
              obtain ⟨g3, q3⟩ := k1 _ e3
              have ed : doIn inp false ⟨14, (pc : Nat), 0, 0⟩ (bump b2) = adv b2 pc [] := by show adv b2 pc b2.m.stack = _; rw [R2.stack]
              rw [ed] at g3
              have R3 : Rel inp pc s3 (adv b2 pc []) := adv_rel R2 q3
              obtain ⟨m1, m2⟩ := ih (.mk 5 v e f body els) hV0 pc (adv b2 pc []) s3 r hr hC0 R3
              rw [stCode_5, ← hB] at m1
              refine ⟨fun s' h => ?_, fun c s' h => ?_⟩
              · obtain ⟨b', g4, R4⟩ := m1 s' h; exact ⟨b', g3.trans g4, R4⟩
              · obtain ⟨b', g4, d⟩ := m2 c s' h; exact ⟨b', g3.trans g4, d⟩
  · -- if
    rw [stCode_6] at hC ⊢
    rw [stG_6] at hr
    obtain ⟨B, hB⟩ : ∃ B, B = stsCode vs body (pc + (exCode vs e).length + 1) := ⟨_, rfl⟩
    rw [← hB] at hC ⊢
    obtain ⟨O, hO⟩ : ∃ O, O = stsCode vs els (pc + (exCode vs e).length + 1 + B.length + 1) := ⟨_, rfl⟩
    rw [← hO] at hC ⊢
    obtain ⟨i1, i2⟩ := is_sim (inp := inp) (he rfl).1 hC.left.left.left hR
    have el : pc + (exCode vs e ++ [(⟨13, (pc + (exCode vs e).length + 1 + B.length + 1 : Nat), 0, 0⟩ : In)] ++ B ++ [(⟨14, (pc + (exCode vs e).length + 1 + B.length + 1 + O.length : Nat), 0, 0⟩ : In)] ++ O).length = pc + (exCode vs e).length + 1 + B.length + 1 + O.length := by simp only [List.length_append, List.length_singleton]; omega
    rw [el]
    have hCO : At_ C (pc + (exCode vs e).length + 1 + B.length + 1) O := by
      have := hC.right
      simp only [List.length_append, List.length_singleton] at this
      rw [show pc + (exCode vs e).length + 1 + B.length + 1 = pc + ((exCode vs e).length + 1 + B.length + 1) by omega]; exact this
    cases e1 : isS vs e s with
    | error q =>
      rw [e1] at hr; cases hr
      exact ⟨fun s' h => (by cases h), fun c s' h => by cases h; exact i2 _ _ e1⟩
    | ok q =>
      obtain ⟨bb, s1⟩ := q
      obtain ⟨b1, g1, R1⟩ := i1 _ _ e1
      rw [e1] at hr
      cases bb with
      | false =>
        simp only at hr
        rw [if_neg (by decide)] at R1
        obtain ⟨l1, l2⟩ := list_sim els (fun y hy => ih y (hse.mem y hy)) (pc + (exCode vs e).length + 1 + B.length + 1) b1 s1 r hr (by rw [← hO]; exact hCO) R1
        rw [← hO] at l1
        refine ⟨fun s' h => ?_, fun c s' h => ?_⟩
        · obtain ⟨b', g4, R4⟩ := l1 s' h; exact ⟨b', g1.trans g4, R4⟩
        · obtain ⟨b', g4, d⟩ := l2 c s' h; exact ⟨b', g1.trans g4, d⟩
      | true =>
        simp only at hr
        rw [if_pos rfl] at R1
        have hCB : At_ C (pc + (exCode vs e).length + 1) B := by
          have := hC.left.left.right
          rw [List.length_append, List.length_singleton, ← Nat.add_assoc] at this; exact this
        cases e2 : listG (stG vs g) body s1 with
        | none => rw [e2] at hr; cases hr
        | some q =>
          obtain ⟨l1, l2⟩ := list_sim body (fun y hy => ih y (hsb.mem y hy)) (pc + (exCode vs e).length + 1) b1 s1 q e2 (by rw [← hB]; exact hCB) R1
          rw [e2] at hr
          cases q with
          | error q =>
            cases hr
            refine ⟨fun s' h => (by cases h), fun c s' h => ?_⟩
            obtain ⟨b', g2, d⟩ := l2 c s' h
            exact ⟨b', g1.trans g2, d⟩
          | ok s2 =>
            obtain ⟨b2, g2, R2⟩ := l1 s2 rfl
            rw [← hB] at R2
            have g12 := g1.trans g2
            have hj : C[b2.m.next]? = some ⟨14, (pc + (exCode vs e).length + 1 + B.length + 1 + O.length : Nat), 0, 0⟩ := by
              rw [R2.next]
              have := hC.left.right.one
              simp only [List.length_append, List.length_singleton] at this
              rw [← this]; congr 1; omega
            obtain ⟨k1, k2⟩ := one_sim g12 R2.st hj R2.cells R2.out R2.wrong
            cases hr
            cases e3 : oneS s2 with
            | error q => exact ⟨fun s' h => (by cases h), fun c s' h => by cases h; exact k2 _ _ e3⟩
            | ok s3 =>
              obtain ⟨g3, q3⟩ := k1 _ e3
              refine ⟨fun s' h => ?_, fun c s' h => (by cases h)⟩
              cases h
              have ed : doIn inp false ⟨14, (pc + (exCode vs e).length + 1 + B.length + 1 + O.length : Nat), 0, 0⟩ (bump b2) = adv b2 (pc + (exCode vs e).length + 1 + B.length + 1 + O.length) [] := by show adv b2 _ b2.m.stack = _; rw [R2.stack]; rfl
              rw [ed] at g3
              exact ⟨_, g3, adv_rel R2 q3⟩
  · -- a commit
    have hc : stCode vs (.mk 7 v e f body els) pc = [⟨15, 0, 0, 0⟩] := by rw [stCode]; rfl
    rw [hc] at hC ⊢
    rw [stG, if_neg (by decide), if_neg (by decide), if_neg (by decide), if_neg (by decide), if_neg (by decide), if_neg (by decide), if_pos rfl] at hr
    cases hr
    obtain ⟨k1, k2⟩ := one_sim (Goes.refl (C := C) (inp := inp) s.left b) hR.st (by rw [hR.next]; exact hC.one) hR.cells hR.out hR.wrong
    cases e2 : oneS s with
    | error q => exact ⟨fun s' h => (by cases h), fun c s' h => by cases h; exact k2 _ _ e2⟩
    | ok s1 =>
      obtain ⟨g2, q2⟩ := k1 _ e2
      refine ⟨fun s' h => ?_, fun c s' h => (by cases h)⟩
      cases h
      have ed : doIn inp false ⟨15, 0, 0, 0⟩ (bump b) = adv b (pc + 1) [] := by show adv b (b.m.next + 1) b.m.stack = _; rw [hR.next, hR.stack]
      rw [ed] at g2
      exact ⟨_, g2, adv_rel hR q2⟩
end
/-- The machine's start. -/
def be0 (n : Nat) : Be := ⟨⟨0, [], 0, 0, 0, List.replicate n 0⟩, ⟨0, [], 0, 0, 0, List.replicate n 0⟩, [], false⟩
/-- Run comes to what the document's machine comes to. -/
theorem run_sim {p : Pr} (hc : checkP p = 0) {inp : List Int} {fuel : Nat} {c : Int} {s : RS} (h : RunIs p inp fuel c s) :
    ∃ b, runM (codeOf p) inp fuel (be0 (sizes p.vars).toNat) = (b, fuel - s.left) ∧ s.left ≤ fuel ∧ b.m.cells = s.cells ∧ b.out = s.out ∧ b.wrong = false ∧ (c = 0 ∧ b.m.st = 1 ∨ c = 13 ∧ b.m.st = 0 ∨ ((c = 11 ∨ c = 12) ∧ b.m.st = c + 2)) := by
  obtain ⟨g, r, hl, he⟩ := h
  have hcode : codeOf p = stsCode p.vars p.body 0 ++ [⟨16, 0, 0, 0⟩] := rfl
  have hAt : At_ (codeOf p) 0 (stsCode p.vars p.body 0 ++ [⟨16, 0, 0, 0⟩]) := fun i x hx => by rw [Nat.zero_add]; exact hx
  obtain ⟨hV, -⟩ := check_valid hc
  have R0 : Rel inp 0 (start p inp fuel) (be0 (sizes p.vars).toNat) := ⟨rfl, rfl, rfl, rfl, rfl, rfl, rfl, rfl⟩
  obtain ⟨l1, l2⟩ := list_sim p.body (fun y hy => st_sim p.vars p.vars.length g y (hV.mem y hy)) 0 (be0 (sizes p.vars).toNat) (start p inp fuel) r hl hAt.left R0
  have hrun0 : ∀ (k : Nat) (b' : Be), (k = 0 ∨ b'.m.st ≠ 0) → runM (codeOf p) inp k b' = (b', 0) := fun k b' h => by
    cases k with
    | zero => rfl
    | succ k => rcases h with h | h
                · cases h
                · rw [runM, if_pos h]
  have fin : ∀ (c : Int) (s' : RS) (b' : Be), Goes (codeOf p) inp fuel (be0 (sizes p.vars).toNat) s'.left b' → Done c s' b' → 0 < c → ∃ b, runM (codeOf p) inp fuel (be0 (sizes p.vars).toNat) = (b, fuel - s'.left) ∧ s'.left ≤ fuel ∧ b.m.cells = s'.cells ∧ b.out = s'.out ∧ b.wrong = false ∧ (c = 0 ∧ b.m.st = 1 ∨ c = 13 ∧ b.m.st = 0 ∨ ((c = 11 ∨ c = 12) ∧ b.m.st = c + 2)) := by
    intro c s' b' hg hd hc0
    obtain ⟨d1, d2, d3, d4⟩ := hd
    refine ⟨b', ?_, hg.1, d1, d2, d3, ?_⟩
    · rw [hg.2, hrun0 s'.left b' (by
        rcases d4 with ⟨-, e, -⟩ | ⟨e, e2⟩
        · exact .inl e
        · exact .inr (by omega))]
      simp
    · rcases d4 with ⟨e, -, e2⟩ | ⟨e, e2⟩
      · exact .inr (.inl ⟨e, e2⟩)
      · exact .inr (.inr ⟨e, e2⟩)
  cases r with
  | error q =>
    obtain ⟨c0, s0⟩ := q
    obtain ⟨b', g1, d⟩ := l2 c0 s0 rfl
    cases he
    exact fin _ _ b' g1 d (by
      obtain ⟨-, -, -, d4⟩ := d
      rcases d4 with ⟨e, -, -⟩ | ⟨e, -⟩ <;> omega)
  | ok s1 =>
    obtain ⟨b1, g1, R1⟩ := l1 s1 rfl
    have hx := hAt.right.one
    rw [← R1.next] at hx
    obtain ⟨k1, k2⟩ := one_sim g1 R1.st hx R1.cells R1.out R1.wrong
    cases e : oneS s1 with
    | error q =>
      obtain ⟨c0, s0⟩ := q
      obtain ⟨b', g2, d⟩ := k2 _ _ e
      have he' : endR (finR (.ok s1)) = (c0, s0) := by rw [finR, e]; rfl
      rw [he'] at he
      cases he
      obtain ⟨-, h13, -⟩ := oneS_less.2 _ _ e
      exact fin _ _ b' g2 d (by omega)
    | ok s2 =>
      obtain ⟨g2, q2⟩ := k1 _ e
      have he' : endR (finR (.ok s1)) = (0, s2) := by rw [finR, e]; rfl
      rw [he'] at he
      have hc1 : s2.cells = s1.cells := by rw [q2]
      have ho1 : s2.out = s1.out := by rw [q2]
      cases he
      refine ⟨doIn inp false ⟨16, 0, 0, 0⟩ (bump b1), ?_, g2.1, by rw [hc1]; exact R1.cells, by rw [ho1]; exact R1.out, R1.wrong, .inl ⟨rfl, rfl⟩⟩
      have hg := g2.2
      rw [hrun0 _ _ (.inr (show (doIn inp false ⟨16, 0, 0, 0⟩ (bump b1)).m.st ≠ 0 from (by decide : (1 : Int) ≠ 0)))] at hg
      rw [show (start p inp fuel).left = fuel from rfl] at hg
      rw [hg, Nat.zero_add]
end Go.Proofs.Ytbbghdkndbpmmaa
