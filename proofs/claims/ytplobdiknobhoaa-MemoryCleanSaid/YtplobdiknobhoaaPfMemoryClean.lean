/- The law MemoryClean holds: words that are put as they are make no page dirty: for every list of steps. -/
import Derived.Test.YtplobdiknobhoaaMp
namespace Go.Proofs.Ytplobdiknobhoaa
open Go X Go.ChangeShapes Go.WideShapes Go.ChangeAt Go.RowKit
set_option maxRecDepth 100000 in
theorem memoryClean_lifted (os : Os) (started : os.Started) (H : Type) (enc : TypeId × Value → H) :
    ReturnsInHanded {} Try.checked os 10 .any (Rows.memoryCleanSpec.pre6 enc Try.prog Try.f10 Rows.memoryCleanRow.domain false) (Rows.memoryCleanSpec.post enc Try.prog Try.f10 false true false false) := by
  refine returnsInHanded_of_change (C := Try.checked) Try.own started (by kernel_rfl) Try.func10
    (ChangeSpec.witness6 (enc := enc) (C := Try.checked) false ⟨#[], #[.slice none 0 0], []⟩ 8 (by kernel_rfl) (by kernel_rfl) (by kernel_rfl) (by kernel_rfl)) ?_
  intro W base args ds gs before hval0 hW hcnd _
  have hval : ∀ (j : Nat) t v, Try.f10.params[j]? = some t → args[j]? = some v → Value.okWide Try.prog W .any base t v := hval0
  have hW' := hW
  obtain ⟨p, q, hA0, hV, rfl, hfz, hnd⟩ := hW
  have hA : DataW.TrodAll enc Try.prog W 0 (fun _ => true) true [71] args.toList ds p := hA0
  obtain ⟨v0, d0, rfl, rfl, h0⟩ := trodAll_one hA
  have hb : Try.prog.underlying 4 = some .bool := by kernel_rfl
  refine post_true (fid := 10) (tb := 4) Try.laidOut (by kernel_rfl) rfl rfl hb ?_ hW' (callsX_true ?_)
  · obtain ⟨rfl, rfl⟩ := trodVars_none hV; rfl
  · obtain ⟨ms, _, e0, hms⟩ := (Dec.slice (tyrow rfl) rfl (tyrow rfl) rfl (by decide) dec_mstp).one (tyrow rfl) rfl (hval 0 _ v0 rfl rfl) h0 rSl_one
    simp only [List.cons.injEq, and_true] at e0
    subst e0
    exact mclean_law _ _ ms hms
theorem memoryClean_holds : Rows.MemoryCleanSaid :=
  OpenClaim.holds_of_wide 10 Try.f10 rfl rfl rfl rfl rfl rfl rfl ⟨rfl, rfl, rfl, rfl, rfl⟩ rfl rfl rfl rfl rfl (by kernel_rfl) Try.func10 (by kernel_rfl)
    (of_decide_eq_true (by kernel_rfl)) (by unfold Func.isWrapper; first | (rw [if_pos (by decide +kernel)]; kernel_rfl) | (rw [if_neg (by decide +kernel)]; exact ⟨rfl, rfl⟩))
    (fun os started H enc _ => memoryClean_lifted os started H enc)
end Go.Proofs.Ytplobdiknobhoaa
