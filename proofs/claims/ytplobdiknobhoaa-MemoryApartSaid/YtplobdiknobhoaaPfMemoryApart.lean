/- The law MemoryApart holds: what is put to a word is what is loaded of it; no other word changes by that: for every list of steps, every place and every word. -/
import Derived.Test.YtplobdiknobhoaaMq
namespace Go.Proofs.Ytplobdiknobhoaa
open Go X Go.ChangeShapes Go.WideShapes Go.ChangeAt Go.RowKit
set_option maxRecDepth 100000 in
theorem memoryApart_lifted (os : Os) (started : os.Started) (H : Type) (enc : TypeId × Value → H) :
    ReturnsInHanded {} Try.checked os 11 .any (Rows.memoryApartSpec.pre6 enc Try.prog Try.f11 Rows.memoryApartRow.domain false) (Rows.memoryApartSpec.post enc Try.prog Try.f11 false true false false) := by
  refine returnsInHanded_of_change (C := Try.checked) Try.own started (by kernel_rfl) Try.func11
    (ChangeSpec.witness6 (enc := enc) (C := Try.checked) false ⟨#[], #[.slice none 0 0, .int .i64 0, .int .i64 0], []⟩ 8 (by kernel_rfl) (by kernel_rfl) (by kernel_rfl) (by kernel_rfl)) ?_
  intro W base args ds gs before hval0 hW hcnd _
  have hval : ∀ (j : Nat) t v, Try.f11.params[j]? = some t → args[j]? = some v → Value.okWide Try.prog W .any base t v := hval0
  have hW' := hW
  obtain ⟨p, q, hA0, hV, rfl, hfz, hnd⟩ := hW
  have hA : DataW.TrodAll enc Try.prog W 0 (fun _ => true) true [71, 3, 2] args.toList ds p := hA0
  obtain ⟨v0, v1, v2, d0, d1, d2, p0, p1, p2, rfl, rfl, rfl, h0, h1, h2⟩ := trodAll_three hA
  have hb : Try.prog.underlying 4 = some .bool := by kernel_rfl
  refine post_true (fid := 11) (tb := 4) Try.laidOut (by kernel_rfl) rfl rfl hb ?_ hW' (callsX_true ?_)
  · obtain ⟨rfl, rfl⟩ := trodVars_none hV; rfl
  · obtain ⟨ms, _, e0, hms⟩ := (Dec.slice (tyrow rfl) rfl (tyrow rfl) rfl (by decide) dec_mstp).one (tyrow rfl) rfl (hval 0 _ v0 rfl rfl) h0 rSl_one
    obtain ⟨m, e1, m0, m1⟩ := (Dec.int (tyrow rfl) rfl).one (tyrow rfl) rfl (hval 1 _ v1 rfl rfl) h1 rInt_one
    obtain ⟨w, e2, -, -⟩ := (Dec.int (tyrow rfl) rfl).one (tyrow rfl) rfl (hval 2 _ v2 rfl rfl) h2 rInt_one
    simp only [List.cons.injEq, and_true] at e0 e1 e2
    subst e0; subst e1; subst e2
    exact mapart_law _ _ ms m w hms
theorem memoryApart_holds : Rows.MemoryApartSaid :=
  OpenClaim.holds_of_wide 11 Try.f11 rfl rfl rfl rfl rfl rfl rfl ⟨rfl, rfl, rfl, rfl, rfl⟩ rfl rfl rfl rfl rfl (by kernel_rfl) Try.func11 (by kernel_rfl)
    (of_decide_eq_true (by kernel_rfl)) (by unfold Func.isWrapper; first | (rw [if_pos (by decide +kernel)]; kernel_rfl) | (rw [if_neg (by decide +kernel)]; exact ⟨rfl, rfl⟩))
    (fun os started H enc _ => memoryApart_lifted os started H enc)
end Go.Proofs.Ytplobdiknobhoaa
