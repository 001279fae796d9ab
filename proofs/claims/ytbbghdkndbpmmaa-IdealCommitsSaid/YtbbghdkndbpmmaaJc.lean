/- A commit says nothing, plainly. -/
import Derived.Test.YtbbghdkndbpmmaaJv
namespace Go.Proofs.Ytbbghdkndbpmmaa
open Go X
mutual
def calmS : St → St
  | .mk op v e f body els => .mk op v e f (calmL body) (calmL els)
def calmL : List St → List St
  | [] => []
  | x :: l => if x.op = 7 then calmL l else calmS x :: calmL l
end
theorem calmL_len : ∀ l : List St, (calmL l).length ≤ l.length
  | [] => Nat.le_refl _
  | x :: l => by
    have := calmL_len l
    rw [calmL]
    split <;> simp only [List.length_cons] <;> omega
theorem calmL_app : ∀ (l m : List St), calmL (l ++ m) = calmL l ++ calmL m
  | [], m => by simp [calmL]
  | x :: l, m => by
    rw [List.cons_append, calmL, calmL, calmL_app l m]
    split <;> simp
theorem calmL_snoc {l : List St} {k : Nat} {x : St} (h : l[k]? = some x) : calmL (l.take (k + 1)) = if x.op = 7 then calmL (l.take k) else calmL (l.take k) ++ [calmS x] := by
  rw [List.take_add_one, h]
  simp only [Option.toList_some, calmL_app, calmL]
  split <;> simp
/-! it is a program -/
theorem form_less {op : Int} {e f : Ex} {kb ke kb' ke' : Nat} (h : stForm op e f kb ke = false) (h1 : kb' ≤ kb) (h2 : ke' ≤ ke) : stForm op e f kb' ke' = false := by
  simp only [stForm, Bool.or_eq_false_iff, Bool.and_eq_false_imp, Bool.not_eq_true', decide_eq_false_iff_not] at h ⊢
  exact ⟨⟨h.1.1, fun a => by have := h.1.2 a; omega⟩, fun a => by have := h.2 a; omega⟩
theorem head_less {nv d op v a b : Int} {e f : Ex} {kb ke kb' ke' : Nat} (h : stHead nv d op v e f kb ke (.ok a) = .ok b) (h1 : kb' ≤ kb) (h2 : ke' ≤ ke) : stHead nv d op v e f kb' ke' (.ok a) = .ok b := by
  have h0 := h
  rw [stHead, JE.named] at h
  obtain ⟨h, -⟩ := fail_ok h
  obtain ⟨h, -⟩ := fail_ok h
  obtain ⟨-, h3⟩ := fail_ok h
  rw [stHead] at h0 ⊢
  rw [form_less h3 h1 h2]
  rw [h3] at h0
  exact h0
def CalmOk (nv : Int) (x : St) : Prop := ∀ d a b a' : Int, 0 ≤ a → a ≤ a' → stE nv d x (.ok a) = .ok b → ∃ b', b ≤ b' ∧ stE nv d (calmS x) (.ok a') = .ok b'
theorem calm_sts {nv : Int} : ∀ (l : List St), (∀ x ∈ l, CalmOk nv x) → ∀ d a b a' : Int, 0 ≤ a → a ≤ a' → stsE nv d l (.ok a) = .ok b → ∃ b', b ≤ b' ∧ stsE nv d (calmL l) (.ok a') = .ok b'
  | [], _, d, a, b, a', _, h, e => by
    rw [stsE] at e; cases e
    exact ⟨a', h, by rw [calmL, stsE]⟩
  | x :: l, hx, d, a, b, a', h0, h1, e => by
    rw [stsE] at e
    cases e1 : stE nv d x (.ok a) with
    | error c => rw [e1, stsE_err] at e; cases e
    | ok m =>
      rw [e1] at e
      obtain ⟨g1, g2, -⟩ := (Down.stE nv x).ok d a m h0 e1
      rw [calmL]
      split
      · exact calm_sts l (fun y hy => hx y (by simp [hy])) d m b a' g1 (by omega) e
      · obtain ⟨m', k1, k2⟩ := hx x (by simp) d a m a' h0 h1 e1
        obtain ⟨b', k3, k4⟩ := calm_sts l (fun y hy => hx y (by simp [hy])) d m b m' g1 k1 e
        exact ⟨b', k3, by rw [stsE, k2]; exact k4⟩
theorem calm_st (nv : Int) (x : St) : CalmOk nv x := by
  refine St.ind (P := CalmOk nv) ?_ x
  intro op v e f body els ih jh d a b a' h0 h1 h
  rw [stE] at h
  rw [calmS, stE]
  cases e1 : stHead nv d op v e f body.length els.length (.ok a) with
  | error c => rw [e1, stEF_err, stsE_err, stsE_err] at h; cases h
  | ok m1 =>
    rw [e1] at h
    obtain ⟨g1, g2, g3⟩ := (Down.stHead nv op v e f body.length els.length).ok d a m1 h0 e1
    rw [head_less (g3 d a' (Int.le_refl _) h1) (calmL_len body) (calmL_len els)]
    cases e2 : stEF nv (d + 1) op e f (.ok m1) with
    | error c => rw [e2, stsE_err, stsE_err] at h; cases h
    | ok m2 =>
      rw [e2] at h
      obtain ⟨k1, k2, k3⟩ := (Down.stEF nv op e f).ok (d + 1) m1 m2 g1 e2
      rw [k3 (d + 1) (a' - a + m1) (Int.le_refl _) (by omega)]
      cases e3 : stsE nv (d + 1) body (.ok m2) with
      | error c => rw [e3, stsE_err] at h; cases h
      | ok m3 =>
        rw [e3] at h
        obtain ⟨l1, l2, -⟩ := (Down.stsE nv body).ok (d + 1) m2 m3 k1 e3
        obtain ⟨b3, n1, n2⟩ := calm_sts body ih (d + 1) m2 m3 (a' - a + m1 - m1 + m2) k1 (by omega) e3
        rw [n2]
        exact calm_sts els jh (d + 1) m3 b b3 l1 n1 h
theorem calm_check {p : Pr} (h : checkP p = 0) : checkP ⟨p.vars, calmL p.body⟩ = 0 := by
  obtain ⟨h1, b, h2⟩ := check_ok h
  obtain ⟨b', -, h3⟩ := calm_sts p.body (fun x _ => calm_st _ x) 0 150 b 150 (by decide) (Int.le_refl _) h2
  exact check_of (p := ⟨p.vars, calmL p.body⟩) h1 h3
/-! it comes to the same -/
structure Up (s s2 : RS) : Prop where
  cells : s2.cells = s.cells
  inp : s2.inp = s.inp
  out : s2.out = s.out
  left : s.left ≤ s2.left
theorem exs_up {vs : List Va} {cs : List Int} : ∀ (l : List Ex), (∀ x ∈ l, ∀ f d, (∀ v f1, exRun vs cs x f = .ok (v, f1) → exRun vs cs x (f + d) = .ok (v, f1 + d)) ∧ ∀ f1, exRun vs cs x f = .error (11, f1) → exRun vs cs x (f + d) = .error (11, f1 + d)) →
    ∀ f d, (∀ xs f1, exsRun vs cs l f = .ok (xs, f1) → exsRun vs cs l (f + d) = .ok (xs, f1 + d)) ∧ ∀ f1, exsRun vs cs l f = .error (11, f1) → exsRun vs cs l (f + d) = .error (11, f1 + d)
  | [], _, f, d => ⟨fun xs f1 h => by rw [exsRun] at h ⊢; cases h; rfl, fun f1 h => by rw [exsRun] at h; cases h⟩
  | x :: l, hx, f, d => by
    obtain ⟨h1, h2⟩ := hx x (by simp) f d
    rw [exsRun, exsRun]
    cases e1 : exRun vs cs x f with
    | error q =>
      refine ⟨fun xs f1 h => (by cases h), fun f1 h => ?_⟩
      simp only [Except.error.injEq] at h
      subst h
      rw [h2 _ e1]
    | ok q =>
      obtain ⟨v, f0⟩ := q
      rw [h1 _ _ e1]
      obtain ⟨k1, k2⟩ := exs_up l (fun y hy => hx y (by simp [hy])) f0 d
      simp only
      cases e2 : exsRun vs cs l f0 with
      | error q =>
        refine ⟨fun xs f1 h => (by cases h), fun f1 h => ?_⟩
        simp only [Except.error.injEq] at h
        subst h
        rw [k2 _ e2]
      | ok q =>
        obtain ⟨ys, f3⟩ := q
        refine ⟨fun xs f1 h => ?_, fun f1 h => (by cases h)⟩
        simp only [Except.ok.injEq, Prod.mk.injEq] at h
        obtain ⟨rfl, rfl⟩ := h
        rw [k1 _ _ e2]
theorem ex_up (vs : List Va) (cs : List Int) (x : Ex) : ∀ f d, (∀ v f1, exRun vs cs x f = .ok (v, f1) → exRun vs cs x (f + d) = .ok (v, f1 + d)) ∧ ∀ f1, exRun vs cs x f = .error (11, f1) → exRun vs cs x (f + d) = .error (11, f1 + d) := by
  refine Ex.ind (P := fun x => ∀ f d, (∀ v f1, exRun vs cs x f = .ok (v, f1) → exRun vs cs x (f + d) = .ok (v, f1 + d)) ∧ ∀ f1, exRun vs cs x f = .error (11, f1) → exRun vs cs x (f + d) = .error (11, f1 + d)) ?_ x
  intro op v n l ih f d
  obtain ⟨k1, k2⟩ := exs_up l ih f d
  rw [exRun, exRun]
  cases e1 : exsRun vs cs l f with
  | error q =>
    refine ⟨fun xs f1 h => (by cases h), fun f1 h => ?_⟩
    simp only [Except.error.injEq] at h
    subst h
    rw [k2 _ e1]
  | ok q =>
    obtain ⟨xs, f0⟩ := q
    rw [k1 _ _ e1]
    simp only
    cases f0 with
    | zero => exact ⟨fun w f1 h => (by cases h), fun f1 h => (by cases h)⟩
    | succ f0 =>
      rw [oneF_s, show f0 + 1 + d = (f0 + d) + 1 by omega, oneF_s]
      simp only [opRun]
      refine ⟨fun w f1 h => ?_, fun f1 h => ?_⟩
      · by_cases q1 : op = 1
        · rw [if_pos q1] at h ⊢; cases h; rfl
        rw [if_neg q1] at h ⊢
        by_cases q2 : op = 2
        · rw [if_pos q2] at h ⊢; cases h; rfl
        rw [if_neg q2] at h ⊢
        by_cases q3 : op = 3
        · rw [if_pos q3] at h ⊢
          by_cases hk : xs.getD 0 0 < 0 ∨ sizeV vs v ≤ xs.getD 0 0
          · rw [if_pos hk] at h; cases h
          · rw [if_neg hk] at h ⊢; cases h; rfl
        rw [if_neg q3] at h ⊢; cases h; rfl
      · by_cases q1 : op = 1
        · rw [if_pos q1] at h; cases h
        rw [if_neg q1] at h ⊢
        by_cases q2 : op = 2
        · rw [if_pos q2] at h; cases h
        rw [if_neg q2] at h ⊢
        by_cases q3 : op = 3
        · rw [if_pos q3] at h ⊢
          by_cases hk : xs.getD 0 0 < 0 ∨ sizeV vs v ≤ xs.getD 0 0
          · rw [if_pos hk] at h ⊢; cases h; rfl
          · rw [if_neg hk] at h; cases h
        rw [if_neg q3] at h; cases h
theorem exS_up {vs : List Va} {x : Ex} {s s2 : RS} (hu : Up s s2) : (∀ v s1, exS vs x s = .ok (v, s1) → ∃ s3, exS vs x s2 = .ok (v, s3) ∧ Up s1 s3) ∧ ∀ c s1, exS vs x s = .error (c, s1) → c = 13 ∨ ∃ s3, exS vs x s2 = .error (c, s3) ∧ Up s1 s3 := by
  obtain ⟨cells, inp, out, f⟩ := s
  obtain ⟨cells', inp', out', f'⟩ := s2
  obtain ⟨h1, h2, h3, h4⟩ := hu
  simp only at h1 h2 h3 h4
  subst h1; subst h2; subst h3
  obtain ⟨d, rfl⟩ : ∃ d, f' = f + d := ⟨f' - f, by omega⟩
  obtain ⟨k1, k2⟩ := ex_up vs cells' x f d
  have he := exEnd vs cells' x f
  rw [exS, exS]
  simp only
  cases e : exRun vs cells' x f with
  | error q =>
    obtain ⟨c, k⟩ := q
    refine ⟨fun v s1 h => (by cases h), fun c' s1 h => ?_⟩
    cases h
    rcases (he.err _ _ e).2 with ⟨h, -⟩ | rfl
    · exact .inl h
    · rw [k2 _ e]; exact .inr ⟨_, rfl, rfl, rfl, rfl, Nat.le_add_right _ _⟩
  | ok q =>
    obtain ⟨v, k⟩ := q
    refine ⟨fun v' s1 h => ?_, fun c' s1 h => (by cases h)⟩
    cases h
    rw [k1 _ _ e]; exact ⟨_, rfl, rfl, rfl, rfl, Nat.le_add_right _ _⟩
theorem oneS_up {s s2 s1 : RS} (hu : Up s s2) (h : oneS s = .ok s1) : ∃ s3, oneS s2 = .ok s3 ∧ Up s1 s3 := by
  rw [oneS] at h ⊢
  have := hu.left
  by_cases h0 : s.left = 0
  · rw [if_pos h0] at h; cases h
  · rw [if_neg h0] at h
    cases h
    rw [if_neg (by omega)]
    exact ⟨_, rfl, hu.cells, hu.inp, hu.out, by show s.left - 1 ≤ s2.left - 1; omega⟩
theorem oneS_13 {s : RS} {c : Int} {s1 : RS} (h : oneS s = .error (c, s1)) : c = 13 := (oneS_less.2 _ _ h).2.1
theorem isS_up {vs : List Va} {x : Ex} {s s2 : RS} (hu : Up s s2) : (∀ v s1, isS vs x s = .ok (v, s1) → ∃ s3, isS vs x s2 = .ok (v, s3) ∧ Up s1 s3) ∧ ∀ c s1, isS vs x s = .error (c, s1) → c = 13 ∨ ∃ s3, isS vs x s2 = .error (c, s3) ∧ Up s1 s3 := by
  obtain ⟨k1, k2⟩ := exS_up (vs := vs) (x := x) hu
  rw [isS, isS]
  cases e : exS vs x s with
  | error q =>
    refine ⟨fun v s1 h => (by cases h), fun c s1 h => ?_⟩
    cases h
    rcases k2 _ _ e with h | ⟨s3, h, u⟩
    · exact .inl h
    · rw [h]; exact .inr ⟨s3, rfl, u⟩
  | ok q =>
    obtain ⟨n, s0⟩ := q
    obtain ⟨s4, h4, u4⟩ := k1 _ _ e
    rw [h4]
    simp only
    cases e2 : oneS s0 with
    | error q =>
      obtain ⟨c0, s5⟩ := q
      exact ⟨fun v s1 h => (by cases h), fun c s1 h => by cases h; exact .inl (oneS_13 e2)⟩
    | ok s5 =>
      obtain ⟨s6, h6, u6⟩ := oneS_up u4 e2
      rw [h6]
      refine ⟨fun v s1 h => ?_, fun c s1 h => (by cases h)⟩
      cases h
      exact ⟨s6, rfl, u6⟩
/-- Ends that are the same. -/
def UpR : RR → RR → Prop
  | .ok s, .ok s2 => Up s s2
  | .error (c, s), .error (c2, s2) => c2 = c ∧ Up s s2
  | _, _ => False
def No13 (r : RR) : Prop := ∀ s, r ≠ .error (13, s)
theorem UpR.one {s s2 : RS} (hu : Up s s2) (hn : No13 (oneS s)) : UpR (oneS s) (oneS s2) := by
  cases e : oneS s with
  | error q => obtain ⟨c, s1⟩ := q; have := oneS_13 e; subst this; exact absurd e (hn s1)
  | ok s1 => obtain ⟨s3, h, u⟩ := oneS_up hu e; rw [h]; exact u
def CalmSim (vs : List Va) (g : Nat) (x : St) : Prop := ∀ (s s2 : RS) (r : RR), x.op ≠ 7 → stG vs g x s = some r → Up s s2 → No13 r → ∃ r2, stG vs g (calmS x) s2 = some r2 ∧ UpR r r2
theorem calm_list {vs : List Va} {g : Nat} (hg : ∀ x s r, x.op = 7 → stG vs g x s = some r → r = oneS s) : ∀ (l : List St), (∀ x ∈ l, CalmSim vs g x) → ∀ (s s2 : RS) (r : RR), listG (stG vs g) l s = some r → Up s s2 → No13 r → ∃ r2, listG (stG vs g) (calmL l) s2 = some r2 ∧ UpR r r2
  | [], _, s, s2, r, h, hu, _ => by cases h; exact ⟨.ok s2, by rw [calmL]; rfl, hu⟩
  | x :: l, hx, s, s2, r, h, hu, hn => by
    rw [listG] at h
    cases e : stG vs g x s with
    | none => rw [e] at h; cases h
    | some q =>
      rw [e] at h
      rw [calmL]
      by_cases h7 : x.op = 7
      · rw [if_pos h7]
        have hq := hg x s q h7 e
        cases q with
        | error q =>
          obtain ⟨c, s1⟩ := q
          have := oneS_13 hq.symm
          subst this
          cases h
          exact absurd rfl (hn s1)
        | ok s1 =>
          have hl := oneS_less.1 _ hq.symm
          refine calm_list hg l (fun y hy => hx y (by simp [hy])) s1 s2 r h ⟨?_, ?_, ?_, by have := hu.left; omega⟩ hn
          · rw [hl.2.2]; exact hu.cells
          · rw [hl.2.2]; exact hu.inp
          · rw [hl.2.2]; exact hu.out
      · rw [if_neg h7]
        have hn1 : No13 q := fun s1 e1 => by subst e1; cases h; exact hn s1 rfl
        obtain ⟨r2, k1, k2⟩ := hx x (by simp) s s2 q h7 e hu hn1
        cases q with
        | error q =>
          obtain ⟨c, s1⟩ := q
          cases h
          cases r2 with
          | ok _ => exact k2.elim
          | error q2 => exact ⟨.error q2, by rw [listG, k1], k2⟩
        | ok s1 =>
          cases r2 with
          | error _ => exact k2.elim
          | ok s3 =>
            obtain ⟨r3, k3, k4⟩ := calm_list hg l (fun y hy => hx y (by simp [hy])) s1 s3 r h k2 hn
            exact ⟨r3, by rw [listG, k1]; exact k3, k4⟩
theorem stG_7 (vs : List Va) (g : Nat) (x : St) (s : RS) (r : RR) (h7 : x.op = 7) (h : stG vs g x s = some r) : r = oneS s := by
  obtain ⟨op, v, e, f, body, els⟩ := x
  simp only [St.op] at h7
  subst h7
  cases g with
  | zero => cases h
  | succ g =>
    rw [stG, if_neg (by decide), if_neg (by decide), if_neg (by decide), if_neg (by decide), if_neg (by decide), if_neg (by decide), if_pos rfl] at h
    cases h; rfl
theorem calm_stG (vs : List Va) : ∀ (g : Nat) (x : St), CalmSim vs g x := by
  intro g
  induction g with
  | zero => intro x s s2 r _ h; cases h
  | succ g ih =>
  intro x s s2 r h7 h hu hn
  obtain ⟨op, v, e, f, body, els⟩ := x
  simp only [St.op] at h7
  rw [calmS]
  have hL := fun l => calm_list (stG_7 vs g) l (fun y _ => ih y)
  obtain ⟨k1, k2⟩ := exS_up (vs := vs) (x := e) hu
  by_cases q1 : op = 1
  · subst q1
    rw [stG, if_pos rfl] at h ⊢
    cases h
    refine ⟨_, rfl, ?_⟩
    rw [setS] at hn ⊢
    rw [setS]
    cases e1 : exS vs e s with
    | error q =>
      obtain ⟨c, s1⟩ := q
      rw [e1] at hn
      rcases k2 _ _ e1 with rfl | ⟨s3, h3, u3⟩
      · exact absurd rfl (hn s1)
      · rw [h3]; exact ⟨rfl, u3⟩
    | ok q =>
      obtain ⟨n, s1⟩ := q
      rw [e1] at hn
      obtain ⟨s3, h3, u3⟩ := k1 _ _ e1
      rw [h3]
      simp only at hn ⊢
      cases e2 : oneS s1 with
      | error q => obtain ⟨c, s4⟩ := q; have := oneS_13 e2; subst this; rw [e2] at hn; exact absurd rfl (hn s4)
      | ok s4 =>
        obtain ⟨s5, h5, u5⟩ := oneS_up u3 e2
        rw [h5]
        exact ⟨by show s5.cells.set _ n = s4.cells.set _ n; rw [u5.cells], u5.inp, u5.out, u5.left⟩
  by_cases q2 : op = 2
  · subst q2
    rw [stG, if_neg (by decide), if_pos rfl] at h ⊢
    cases h
    refine ⟨_, rfl, ?_⟩
    rw [putS] at hn ⊢
    rw [putS]
    cases e1 : exS vs e s with
    | error q =>
      obtain ⟨c, s1⟩ := q
      rw [e1] at hn
      rcases k2 _ _ e1 with rfl | ⟨s3, h3, u3⟩
      · exact absurd rfl (hn s1)
      · rw [h3]; exact ⟨rfl, u3⟩
    | ok q =>
      obtain ⟨k, s1⟩ := q
      rw [e1] at hn
      obtain ⟨s3, h3, u3⟩ := k1 _ _ e1
      rw [h3]
      simp only at hn ⊢
      obtain ⟨j1, j2⟩ := exS_up (vs := vs) (x := f) u3
      cases e2 : exS vs f s1 with
      | error q =>
        obtain ⟨c, s4⟩ := q
        rw [e2] at hn
        rcases j2 _ _ e2 with rfl | ⟨s5, h5, u5⟩
        · exact absurd rfl (hn s4)
        · rw [h5]; exact ⟨rfl, u5⟩
      | ok q =>
        obtain ⟨n, s4⟩ := q
        rw [e2] at hn
        obtain ⟨s5, h5, u5⟩ := j1 _ _ e2
        rw [h5]
        simp only at hn ⊢
        cases e3 : oneS s4 with
        | error q => obtain ⟨c, s6⟩ := q; have := oneS_13 e3; subst this; rw [e3] at hn; exact absurd rfl (hn s6)
        | ok s6 =>
          obtain ⟨s7, h7', u7⟩ := oneS_up u5 e3
          rw [h7']
          simp only
          by_cases hk : k < 0 ∨ sizeV vs v ≤ k
          · rw [if_pos hk, if_pos hk]; exact ⟨rfl, u7⟩
          · rw [if_neg hk, if_neg hk]
            exact ⟨by show s7.cells.set _ n = s6.cells.set _ n; rw [u7.cells], u7.inp, u7.out, u7.left⟩
  by_cases q3 : op = 3
  · subst q3
    rw [stG, if_neg (by decide), if_neg (by decide), if_pos rfl] at h ⊢
    cases h
    refine ⟨_, rfl, ?_⟩
    rw [printS] at hn ⊢
    rw [printS]
    cases e1 : exS vs e s with
    | error q =>
      obtain ⟨c, s1⟩ := q
      rw [e1] at hn
      rcases k2 _ _ e1 with rfl | ⟨s3, h3, u3⟩
      · exact absurd rfl (hn s1)
      · rw [h3]; exact ⟨rfl, u3⟩
    | ok q =>
      obtain ⟨n, s1⟩ := q
      rw [e1] at hn
      obtain ⟨s3, h3, u3⟩ := k1 _ _ e1
      rw [h3]
      simp only at hn ⊢
      cases e2 : oneS s1 with
      | error q => obtain ⟨c, s4⟩ := q; have := oneS_13 e2; subst this; rw [e2] at hn; exact absurd rfl (hn s4)
      | ok s4 =>
        obtain ⟨s5, h5, u5⟩ := oneS_up u3 e2
        rw [h5]
        exact ⟨u5.cells, u5.inp, by show s5.out ++ [n] = s4.out ++ [n]; rw [u5.out], u5.left⟩
  by_cases q4 : op = 4
  · subst q4
    rw [stG, if_neg (by decide), if_neg (by decide), if_neg (by decide), if_pos rfl] at h ⊢
    cases h
    refine ⟨_, rfl, ?_⟩
    rw [readS] at hn ⊢
    rw [readS]
    cases e2 : oneS s with
    | error q => obtain ⟨c, s4⟩ := q; have := oneS_13 e2; subst this; rw [e2] at hn; exact absurd rfl (hn s4)
    | ok s4 =>
      obtain ⟨s5, h5, u5⟩ := oneS_up hu e2
      rw [h5]
      simp only
      rw [u5.inp]
      cases e3 : s4.inp with
      | nil => exact ⟨rfl, u5⟩
      | cons n t => exact ⟨by show s5.cells.set _ n = s4.cells.set _ n; rw [u5.cells], rfl, u5.out, u5.left⟩
  obtain ⟨i1, i2⟩ := isS_up (vs := vs) (x := e) hu
  by_cases q5 : op = 5
  · subst q5
    rw [stG_5] at h ⊢
    cases e1 : isS vs e s with
    | error q =>
      obtain ⟨c, s1⟩ := q
      rw [e1] at h; cases h
      rcases i2 _ _ e1 with rfl | ⟨s3, h3, u3⟩
      · exact absurd rfl (hn s1)
      · rw [h3]; exact ⟨_, rfl, rfl, u3⟩
    | ok q =>
      obtain ⟨bb, s1⟩ := q
      obtain ⟨s3, h3, u3⟩ := i1 _ _ e1
      rw [e1] at h
      rw [h3]
      cases bb with
      | false => cases h; exact ⟨_, rfl, u3⟩
      | true =>
        simp only at h ⊢
        cases e2 : listG (stG vs g) body s1 with
        | none => rw [e2] at h; cases h
        | some q =>
          rw [e2] at h
          have hn1 : No13 q := fun s5 e5 => by subst e5; cases h; exact hn s5 rfl
          obtain ⟨r2, l1, l2⟩ := hL body s1 s3 q e2 u3 hn1
          rw [l1]
          cases q with
          | error q =>
            obtain ⟨c, s5⟩ := q
            cases h
            cases r2 with
            | ok _ => exact l2.elim
            | error q2 => exact ⟨_, rfl, l2⟩
          | ok s5 =>
            cases r2 with
            | error _ => exact l2.elim
            | ok s6 =>
              simp only at h ⊢
              cases e3 : oneS s5 with
              | error q => obtain ⟨c, s7⟩ := q; have := oneS_13 e3; subst this; rw [e3] at h; cases h; exact absurd rfl (hn s7)
              | ok s7 =>
                obtain ⟨s8, h8, u8⟩ := oneS_up l2 e3
                rw [e3] at h
                rw [h8]
                have := ih (.mk 5 v e f body els) s7 s8 r (by simp [St.op]) h u8 hn
                rw [calmS] at this
                exact this
  by_cases q6 : op = 6
  · subst q6
    rw [stG_6] at h ⊢
    cases e1 : isS vs e s with
    | error q =>
      obtain ⟨c, s1⟩ := q
      rw [e1] at h; cases h
      rcases i2 _ _ e1 with rfl | ⟨s3, h3, u3⟩
      · exact absurd rfl (hn s1)
      · rw [h3]; exact ⟨_, rfl, rfl, u3⟩
    | ok q =>
      obtain ⟨bb, s1⟩ := q
      obtain ⟨s3, h3, u3⟩ := i1 _ _ e1
      rw [e1] at h
      rw [h3]
      cases bb with
      | false => exact hL els s1 s3 r h u3 hn
      | true =>
        simp only at h ⊢
        cases e2 : listG (stG vs g) body s1 with
        | none => rw [e2] at h; cases h
        | some q =>
          rw [e2] at h
          have hn1 : No13 q := fun s5 e5 => by subst e5; cases h; exact hn s5 rfl
          obtain ⟨r2, l1, l2⟩ := hL body s1 s3 q e2 u3 hn1
          rw [l1]
          cases q with
          | error q =>
            obtain ⟨c, s5⟩ := q
            cases h
            cases r2 with
            | ok _ => exact l2.elim
            | error q2 => exact ⟨_, rfl, l2⟩
          | ok s5 =>
            cases r2 with
            | error _ => exact l2.elim
            | ok s6 =>
              cases h
              exact ⟨_, rfl, UpR.one l2 hn⟩
  rw [stG, if_neg q1, if_neg q2, if_neg q3, if_neg q4, if_neg q5, if_neg q6, if_neg h7] at h ⊢
  cases h
  exact ⟨_, rfl, hu⟩
theorem commits_plain {p : Pr} {inp : List Int} {f : Nat} {c c' : Int} {s s' : RS} (h : RunIs p inp f c s) (k : RunIs ⟨p.vars, calmL p.body⟩ inp f c' s') (hc : c ≠ 13) : c' = c ∧ s'.out = s.out ∧ s'.cells = s.cells ∧ s.left ≤ s'.left := by
  obtain ⟨g, r, e1, e2⟩ := h
  have hst : start ⟨p.vars, calmL p.body⟩ inp f = start p inp f := rfl
  have hn : No13 r := fun s1 er => by subst er; cases e2; exact hc rfl
  obtain ⟨r2, k1, k2⟩ := calm_list (stG_7 p.vars g) p.body (fun y _ => calm_stG p.vars g y) (start p inp f) (start p inp f) r e1 ⟨rfl, rfl, rfl, Nat.le_refl _⟩ hn
  have hrun : RunIs ⟨p.vars, calmL p.body⟩ inp f (endR (finR r2)).1 (endR (finR r2)).2 := ⟨g, r2, by rw [hst]; exact k1, rfl⟩
  obtain ⟨rfl, rfl⟩ := run_once k hrun
  cases r with
  | error q =>
    obtain ⟨c0, s0⟩ := q
    cases e2
    cases r2 with
    | ok _ => exact k2.elim
    | error q2 => obtain ⟨c2, s2⟩ := q2; exact ⟨k2.1, k2.2.out, k2.2.cells, k2.2.left⟩
  | ok s0 =>
    cases r2 with
    | error _ => exact k2.elim
    | ok s2 =>
      have hn2 : No13 (oneS s0) := fun s1 er => by
        have : endR (finR (.ok s0)) = (13, s1) := by rw [finR, er]; rfl
        rw [this] at e2; cases e2; exact hc rfl
      have hu := UpR.one k2 hn2
      rw [finR] at e2 ⊢
      cases e3 : oneS s0 with
      | error q => obtain ⟨c1, s1⟩ := q; have := oneS_13 e3; subst this; exact absurd e3 (hn2 s1)
      | ok s1 =>
        rw [e3] at e2 hu
        cases e2
        cases e4 : oneS s2 with
        | error q => rw [e4] at hu; exact hu.elim
        | ok s3 => rw [e4] at hu; exact ⟨rfl, hu.out, hu.cells, hu.left⟩
end Go.Proofs.Ytbbghdkndbpmmaa
