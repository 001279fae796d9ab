/- Words of && and ||: the ways of a chain of guarded operations meet again at its word. -/
import Derived.Test.YtbbghdkndbpmmaaAli
namespace Go.Proofs.Ytbbghdkndbpmmaa
namespace X
open Go
variable {P : Program} {N : Nat} {ρ : Env} {σ : PH} {Γ : List HP} {K : KA}
theorem upon_mono2 {o : Oper} {a : Act} {next next' : Act → World → Prop} {Q Q' : Exit → Act → World → Prop} (hn : ∀ a w, next a w → next' a w) (hp : ∀ c a w, Q (.panic c) a w → Q' (.panic c) a w) (ho : LetsOut Q → LetsOut Q') : ∀ {r : Result Next}, o.upon P a next Q r → o.upon P a next' Q' r := by
  intro r h
  unfold Oper.upon at h ⊢
  split at h
  · exact hn _ _ h
  · exact hn _ _ h
  · exact hn _ _ h
  · refine Calls.mono h ?_
    rintro e w' he
    cases e with
    | returned v => exact hn _ _ he
    | panicked c => exact hp _ _ _ he
    | outgrown => exact ho he
  · exact Rows.mono h (fun v w' hv => hn _ _ hv)
  · exact hp _ _ _ h
  · exact h.elim
theorem XO.append {all : Array Oper} {l2 : List Oper} {l1 : List Oper} {h : Heap} {K : Kont} (hx : XO P N all l1 ρ h (thn (fun ρ h => XO P N all l2 ρ h K) K)) : XO P N all (l1 ++ l2) ρ h K := by
  refine ⟨fun w0 a w hs hh he => ?_⟩
  have h0 := hx.out w0 a w hs hh he
  have key : ∀ (l1 : List Oper) (a1 : Act) (w1 : World), wpList P all (Post w0 a.defers N (thn (fun ρ h => XO P N all l2 ρ h K) K)) l1 a1 w1 → wpList P all (Post w0 a.defers N K) (l1 ++ l2) a1 w1 := by
    intro l1
    induction l1 with
    | nil =>
      intro a1 w1 h1
      obtain ⟨e1, e2, ρ', e3, e4⟩ : Post w0 a.defers N (thn (fun ρ h => XO P N all l2 ρ h K) K) .normal a1 w1 := h1
      have h2 : XO P N all l2 ρ' w1.heap K := e4
      have := h2.out w0 a1 w1 e2 rfl e3
      rw [e1] at this
      exact this
    | cons o l ih =>
      intro a1 w1 h1
      simp only [List.cons_append]
      unfold wpList at h1 ⊢
      split
      · rename_i hw
        rw [if_pos hw] at h1
        have ho : LetsOut (Post w0 a.defers N (thn (fun ρ h => XO P N all l2 ρ h K) K)) → LetsOut (Post w0 a.defers N K) := fun ⟨a2, w2, q⟩ => ⟨a2, w2, q⟩
        refine h1.imp (fun hq => upon_mono2 (fun a' w' => ih a' w') (fun c a' w' q => q) ho hq) (fun hq => ⟨hq.1, ho hq.2⟩)
      · rename_i hw
        rw [if_neg hw] at h1
        exact ih _ _ h1
  exact key l1 a w h0
/-- Ways that meet again inside of a region. -/
theorem XOA.join {all : Array Oper} {l l1 l2 : List Oper} {τ : Type} (hl : l = l1 ++ l2) (L : List (Nat × Nat)) (E : τ → List (Nat × Value)) (I : τ → PH → List HP → Prop)
    (hx : XOA P N all l1 ρ σ Γ (thnA (fun ρ' σ' Γ' => Keep L ρ ρ' ∧ ∃ x Δ, Mat ρ' (E x) ∧ Ent Γ' Δ ∧ I x σ' Δ) K))
    (hk : ∀ x δ σ' Δ, I x σ' Δ → XOA P N all l2 ((E x).foldl (fun r p => upd r p.1 p.2) (ovr L ρ δ)) σ' Δ K) : XOA P N all l ρ σ Γ K := by
  subst hl
  refine ⟨fun f h hh => XO.append ?_⟩
  have h0 := hx.out f h hh
  refine ⟨fun w0 a w hs hw he => ?_⟩
  have h1 := h0.out w0 a w hs hw he
  have key : ∀ (l : List Oper) (a1 : Act) (w1 : World), wpList P all (Post w0 a.defers N (KF f (thnA (fun ρ' σ' Γ' => Keep L ρ ρ' ∧ ∃ x Δ, Mat ρ' (E x) ∧ Ent Γ' Δ ∧ I x σ' Δ) K))) l a1 w1 → wpList P all (Post w0 a.defers N (thn (fun ρ h => XO P N all l2 ρ h (KF f K)) (KF f K))) l a1 w1 := by
    intro l
    induction l with
    | nil =>
      rintro a1 w1 ⟨e1, e2, ρ', e3, σ', Γ', ⟨k1, x, Δ, k2, k3, k4⟩, e5⟩
      refine ⟨e1, e2, ρ', e3, ?_⟩
      have := (hk x ρ' σ' Δ k4).out f w1.heap (e5.ent k3)
      rw [ovr_eq k1, mat_self k2] at this
      exact this
    | cons o l ih =>
      intro a1 w1 h1
      unfold wpList at h1 ⊢
      have ho : LetsOut (Post w0 a.defers N (KF f (thnA (fun ρ' σ' Γ' => Keep L ρ ρ' ∧ ∃ x Δ, Mat ρ' (E x) ∧ Ent Γ' Δ ∧ I x σ' Δ) K))) → LetsOut (Post w0 a.defers N (thn (fun ρ h => XO P N all l2 ρ h (KF f K)) (KF f K))) := fun ⟨a2, w2, q⟩ => ⟨a2, w2, q⟩
      split
      · rename_i hw
        rw [if_pos hw] at h1
        exact h1.imp (fun hq => upon_mono2 (fun a' w' => ih a' w') (fun c a' w' q => q) ho hq) (fun hq => ⟨hq.1, ho hq.2⟩)
      · rename_i hw
        rw [if_neg hw] at h1
        exact ih _ _ h1
  exact key l1 a w h1
end X
end Go.Proofs.Ytbbghdkndbpmmaa
