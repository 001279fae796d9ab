/- The law StoreSafe holds: in whatever way a commit is left off each page is what it was, or each is what it was to be: for every list of steps, every last one and all masks. -/
import Derived.Test.YtplobdiknobhoaaSn
namespace Go.Proofs.Ytplobdiknobhoaa
open Go X Go.ChangeShapes Go.WideShapes Go.ChangeAt Go.RowKit
set_option maxRecDepth 100000 in
theorem storeSafe_lifted (os : Os) (started : os.Started) (H : Type) (enc : TypeId × Value → H) :
    ReturnsInHanded {} Try.checked os 7 .any (Rows.storeSafeSpec.pre6 enc Try.prog Try.f7 Rows.storeSafeRow.domain false) (Rows.storeSafeSpec.post enc Try.prog Try.f7 false true false false) := by
  refine returnsInHanded_of_change (C := Try.checked) Try.own started (by kernel_rfl) Try.func7
    (ChangeSpec.witness6 (enc := enc) (C := Try.checked) false ⟨#[], #[.slice none 0 0, .agg #[.int .i64 0, .int .i64 0, .slice none 0 0, .int .u64 0], .slice none 0 0], []⟩ 8 (by kernel_rfl) (by kernel_rfl) (by kernel_rfl) (by kernel_rfl)) ?_
  intro W base args ds gs before hval0 hW hcnd _
  have hval : ∀ (j : Nat) t v, Try.f7.params[j]? = some t → args[j]? = some v → Value.okWide Try.prog W .any base t v := hval0
  have hW' := hW
  obtain ⟨p, q, hA0, hV, rfl, hfz, hnd⟩ := hW
  have hA : DataW.TrodAll enc Try.prog W 0 (fun _ => true) true [45, 55, 64] args.toList ds p := hA0
  obtain ⟨v0, v1, v2, d0, d1, d2, p0, p1, p2, rfl, rfl, rfl, h0, h1, h2⟩ := trodAll_three hA
  have hb : Try.prog.underlying 4 = some .bool := by kernel_rfl
  refine post_true (fid := 7) (tb := 4) Try.laidOut (by kernel_rfl) rfl rfl hb ?_ hW' (callsX_true ?_)
  · obtain ⟨rfl, rfl⟩ := trodVars_none hV; rfl
  · obtain ⟨ms, _, e0, hms⟩ := (Dec.slice (tyrow rfl) rfl (tyrow rfl) rfl (by decide) dec_stp).one (tyrow rfl) rfl (hval 0 _ v0 rfl rfl) h0 rSl_one
    obtain ⟨x, cs, rfl, sp, rfl, hD, hps, hx0, hx1⟩ := Dec.agg dec_stp (tyrow rfl) rfl (hval 1 _ v1 rfl rfl) h1
    obtain ⟨aL, _, e2, haL⟩ := (Dec.slice (tyrow rfl) rfl (tyrow rfl) rfl (by decide) (Dec.int (tyrow rfl) rfl)).one (tyrow rfl) rfl (hval 2 _ v2 rfl rfl) h2 rSl_one
    simp only [List.cons.injEq, and_true] at e0 e2
    subst e0; subst e2
    exact ssafe_law _ _ _ _ ms x.do_ x.deeds x.mask x.pages aL hms hps hD hx0 hx1 haL
theorem storeSafe_holds : Rows.StoreSafeSaid :=
  OpenClaim.holds_of_wide 7 Try.f7 rfl rfl rfl rfl rfl rfl rfl ⟨rfl, rfl, rfl, rfl, rfl⟩ rfl rfl rfl rfl rfl (by kernel_rfl) Try.func7 (by kernel_rfl)
    (of_decide_eq_true (by kernel_rfl)) (by unfold Func.isWrapper; first | (rw [if_pos (by decide +kernel)]; kernel_rfl) | (rw [if_neg (by decide +kernel)]; exact ⟨rfl, rfl⟩))
    (fun os started H enc _ => storeSafe_lifted os started H enc)
end Go.Proofs.Ytplobdiknobhoaa
