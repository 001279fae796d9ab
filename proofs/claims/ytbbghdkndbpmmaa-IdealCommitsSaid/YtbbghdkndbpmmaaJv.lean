/- The runner comes to an end, plainly. -/
import Derived.Test.YtbbghdkndbpmmaaJt
namespace Go.Proofs.Ytbbghdkndbpmmaa
open Go X
theorem listG_mono {F F' : St → RS → Option RR} (h : ∀ x s r, F x s = some r → F' x s = some r) : ∀ (l : List St) (s : RS) (r : RR), listG F l s = some r → listG F' l s = some r
  | [], s, r, e => e
  | x :: l, s, r, e => by
    rw [listG] at e ⊢
    cases e1 : F x s with
    | none => rw [e1] at e; cases e
    | some q =>
      rw [e1] at e
      rw [h _ _ _ e1]
      cases q with
      | error q => exact e
      | ok s1 => exact listG_mono h l s1 r e
theorem stG_step (vs : List Va) : ∀ (g : Nat) (x : St) (s : RS) (r : RR), stG vs g x s = some r → stG vs (g + 1) x s = some r := by
  intro g
  induction g with
  | zero => intro x s r h; cases h
  | succ g ih =>
    intro x s r h
    obtain ⟨op, v, e, f, body, els⟩ := x
    by_cases q1 : op = 1
    · subst q1; rw [stG, if_pos rfl] at h ⊢; exact h
    by_cases q2 : op = 2
    · subst q2; rw [stG, if_neg (by decide), if_pos rfl] at h ⊢; exact h
    by_cases q3 : op = 3
    · subst q3; rw [stG, if_neg (by decide), if_neg (by decide), if_pos rfl] at h ⊢; exact h
    by_cases q4 : op = 4
    · subst q4; rw [stG, if_neg (by decide), if_neg (by decide), if_neg (by decide), if_pos rfl] at h ⊢; exact h
    have hl := listG_mono ih
    by_cases q5 : op = 5
    · subst q5
      rw [stG_5] at h ⊢
      cases e1 : isS vs e s with
      | error q => rw [e1] at h; exact h
      | ok q =>
        obtain ⟨bb, s1⟩ := q
        rw [e1] at h
        cases bb with
        | false => exact h
        | true =>
          simp only at h ⊢
          cases e2 : listG (stG vs g) body s1 with
          | none => rw [e2] at h; cases h
          | some q =>
            rw [e2] at h
            rw [hl _ _ _ e2]
            cases q with
            | error q => exact h
            | ok s2 =>
              simp only at h ⊢
              cases e3 : oneS s2 with
              | error q => rw [e3] at h; exact h
              | ok s3 => rw [e3] at h; exact ih _ _ _ h
    by_cases q6 : op = 6
    · subst q6
      rw [stG_6] at h ⊢
      cases e1 : isS vs e s with
      | error q => rw [e1] at h; exact h
      | ok q =>
        obtain ⟨bb, s1⟩ := q
        rw [e1] at h
        cases bb with
        | false => exact hl _ _ _ h
        | true =>
          simp only at h ⊢
          cases e2 : listG (stG vs g) body s1 with
          | none => rw [e2] at h; cases h
          | some q => rw [e2] at h; rw [hl _ _ _ e2]; exact h
    rw [stG, if_neg q1, if_neg q2, if_neg q3, if_neg q4, if_neg q5, if_neg q6] at h ⊢
    exact h
theorem stG_le (vs : List Va) {g g' : Nat} (hg : g ≤ g') {x : St} {s : RS} {r : RR} (h : stG vs g x s = some r) : stG vs g' x s = some r := by
  induction hg with
  | refl => exact h
  | step _ ih => exact stG_step vs _ _ _ _ ih
theorem isS_lt {vs : List Va} {x : Ex} {s : RS} {b : Bool} {s' : RS} (h : isS vs x s = .ok (b, s')) : s'.left < s.left := by
  rw [isS] at h
  obtain ⟨h1, -⟩ := exS_less vs x s
  cases e : exS vs x s with
  | error q => rw [e] at h; cases h
  | ok q =>
    obtain ⟨n, s1⟩ := q
    have a := (h1 _ _ e).2.1
    rw [e] at h
    simp only at h
    cases e2 : oneS s1 with
    | error q => rw [e2] at h; cases h
    | ok s2 =>
      rw [e2] at h
      cases h
      have := (oneS_less.1 _ e2).2.1
      omega
theorem listG_total {vs : List Va} {f : Nat} (hT : ∀ x s, s.left ≤ f → ∃ g r, stG vs g x s = some r) : ∀ (l : List St) (s : RS), s.left ≤ f → ∃ g r, listG (stG vs g) l s = some r
  | [], s, _ => ⟨0, _, rfl⟩
  | x :: l, s, hs => by
    obtain ⟨g, r, e⟩ := hT x s hs
    cases r with
    | error q => exact ⟨g, .error q, by rw [listG, e]⟩
    | ok s1 =>
      have hle := stG_less _ _ _ _ _ e
      obtain ⟨g2, r2, e2⟩ := listG_total hT l s1 (Nat.le_trans hle.left hs)
      refine ⟨max g g2, r2, ?_⟩
      rw [listG, stG_le vs (Nat.le_max_left g g2) e]
      exact listG_mono (fun x s r h => stG_le vs (Nat.le_max_right g g2) h) _ _ _ e2
theorem stG_total (vs : List Va) : ∀ (f : Nat) (x : St) (s : RS), s.left ≤ f → ∃ g r, stG vs g x s = some r := by
  intro f
  induction f using Nat.strongRecOn with
  | _ f ih =>
  intro x s hs
  have hL : ∀ (l : List St) (s1 : RS), s1.left < s.left → ∃ g r, listG (stG vs g) l s1 = some r := fun l s1 h1 => listG_total (fun x s2 h2 => ih s1.left (by omega) x s2 h2) l s1 (Nat.le_refl _)
  obtain ⟨op, v, e, ff, body, els⟩ := x
  by_cases q1 : op = 1
  · subst q1; exact ⟨1, _, by rw [stG, if_pos rfl]⟩
  by_cases q2 : op = 2
  · subst q2; exact ⟨1, _, by rw [stG, if_neg (by decide), if_pos rfl]⟩
  by_cases q3 : op = 3
  · subst q3; exact ⟨1, _, by rw [stG, if_neg (by decide), if_neg (by decide), if_pos rfl]⟩
  by_cases q4 : op = 4
  · subst q4; exact ⟨1, _, by rw [stG, if_neg (by decide), if_neg (by decide), if_neg (by decide), if_pos rfl]⟩
  by_cases q5 : op = 5
  · subst q5
    cases e1 : isS vs e s with
    | error q => exact ⟨1, _, by rw [stG_5, e1]⟩
    | ok q =>
      obtain ⟨bb, s1⟩ := q
      have h1 := isS_lt e1
      cases bb with
      | false => exact ⟨1, _, by rw [stG_5, e1]⟩
      | true =>
        obtain ⟨g2, r2, e2⟩ := hL body s1 h1
        cases r2 with
        | error q => exact ⟨g2 + 1, .error q, by rw [stG_5, e1]; simp only [e2]⟩
        | ok s2 =>
          have hle := listG_less (stG_less vs g2) _ _ _ e2
          cases e3 : oneS s2 with
          | error q => exact ⟨g2 + 1, .error q, by rw [stG_5, e1]; simp only [e2, e3]⟩
          | ok s3 =>
            have h3 := (oneS_less.1 _ e3).2.1
            have h2 : s2.left ≤ s1.left := hle.left
            obtain ⟨g4, r4, e4⟩ := ih s3.left (by omega) (.mk 5 v e ff body els) s3 (Nat.le_refl _)
            refine ⟨max g2 g4 + 1, r4, ?_⟩
            rw [stG_5, e1]
            simp only [listG_mono (fun x s r h => stG_le vs (Nat.le_max_left g2 g4) h) _ _ _ e2, e3]
            exact stG_le vs (Nat.le_max_right g2 g4) e4
  by_cases q6 : op = 6
  · subst q6
    cases e1 : isS vs e s with
    | error q => exact ⟨1, _, by rw [stG_6, e1]⟩
    | ok q =>
      obtain ⟨bb, s1⟩ := q
      have h1 := isS_lt e1
      cases bb with
      | false =>
        obtain ⟨g2, r2, e2⟩ := hL els s1 h1
        exact ⟨g2 + 1, r2, by rw [stG_6, e1]; exact e2⟩
      | true =>
        obtain ⟨g2, r2, e2⟩ := hL body s1 h1
        cases r2 with
        | error q => exact ⟨g2 + 1, .error q, by rw [stG_6, e1]; simp only [e2]⟩
        | ok s2 => exact ⟨g2 + 1, oneS s2, by rw [stG_6, e1]; simp only [e2]⟩
  exact ⟨1, if op = 7 then oneS s else .ok s, by rw [stG, if_neg q1, if_neg q2, if_neg q3, if_neg q4, if_neg q5, if_neg q6]; split <;> rfl⟩
/-- What a program's run comes to: a code, and what is left behind. -/
def finR : RR → RR
  | .ok s => oneS s
  | .error e => .error e
def endR : RR → Int × RS
  | .ok s => (0, s)
  | .error e => e
def start (p : Pr) (inp : List Int) (fuel : Nat) : RS := ⟨List.replicate (sizes p.vars).toNat 0, inp, [], fuel⟩
def RunIs (p : Pr) (inp : List Int) (fuel : Nat) (c : Int) (s : RS) : Prop := ∃ g r, listG (stG p.vars g) p.body (start p inp fuel) = some r ∧ endR (finR r) = (c, s)
theorem run_total (p : Pr) (inp : List Int) (fuel : Nat) : ∃ c s, RunIs p inp fuel c s := by
  obtain ⟨g, r, e⟩ := listG_total (stG_total p.vars (start p inp fuel).left) p.body (start p inp fuel) (Nat.le_refl _)
  exact ⟨_, _, g, r, e, rfl⟩
theorem run_once {p : Pr} {inp : List Int} {fuel : Nat} {c c' : Int} {s s' : RS} (h : RunIs p inp fuel c s) (k : RunIs p inp fuel c' s') : c = c' ∧ s = s' := by
  obtain ⟨g, r, e, f⟩ := h
  obtain ⟨g', r', e', f'⟩ := k
  have a := listG_mono (fun x s r h => stG_le p.vars (Nat.le_max_left g g') h) _ _ _ e
  have b := listG_mono (fun x s r h => stG_le p.vars (Nat.le_max_right g g') h) _ _ _ e'
  rw [a] at b
  cases b
  rw [f] at f'
  cases f'
  exact ⟨rfl, rfl⟩
end Go.Proofs.Ytbbghdkndbpmmaa
