/- An environment of which only some slots are told. -/
import Derived.Test.YtbbghdkndbpmmaaEq
namespace Go.Proofs.Ytbbghdkndbpmmaa
namespace X
open Go
theorem mat_self {ρ : Env} : ∀ {l : List (Nat × Value)}, Mat ρ l → l.foldl (fun r p => upd r p.1 p.2) ρ = ρ
  | [], _ => rfl
  | (d, v) :: l, h => by
    have e : upd ρ d v = ρ := funext fun s => by
      by_cases hs : s = d
      · subst hs; simp [upd, h.1]
      · unfold upd; rw [show s.beq d = false from by cases hb : s.beq d with | true => exact absurd (Nat.eq_of_beq_eq_true hb) hs | false => rfl]
    show l.foldl (fun r p => upd r p.1 p.2) (upd ρ d v) = ρ
    rw [e]; exact mat_self h.2
/-- Forget all slots but those of E. -/
theorem gen {Q : Env → Prop} {ρ : Env} (E : List (Nat × Value)) (hE : Mat ρ E) (k : ∀ δ, Q (E.foldl (fun r p => upd r p.1 p.2) δ)) : Q ρ := by
  have := k ρ; rwa [mat_self hE] at this
end X
end Go.Proofs.Ytbbghdkndbpmmaa
