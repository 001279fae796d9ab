/- The law CodeDoes holds: every Parts, Name, Has, Check, Cell, Cells and Same is as the reference says: for every two programs, every two numbers and every text. -/
import Derived.Test.YtbbghdkndbpmmaaCdZ
namespace Go.Proofs.Ytbbghdkndbpmmaa
open Go X Go.ChangeShapes Go.WideShapes Go.ChangeAt Go.RowKit
set_option maxRecDepth 100000 in
theorem codeDoes_lifted (os : Os) (started : os.Started) (H : Type) (enc : TypeId × Value → H) :
    ReturnsInHanded {} Try.checked os 3 .any (Rows.codeDoesSpec.pre6 enc Try.prog Try.f3 Rows.codeDoesRow.domain false) (Rows.codeDoesSpec.post enc Try.prog Try.f3 false true false false) := by
  refine returnsInHanded_of_change (C := Try.checked) Try.own started (by kernel_rfl) Try.func3
    (ChangeSpec.witness6 (enc := enc) (C := Try.checked) false ⟨#[], #[.agg #[.slice none 0 0, .slice none 0 0], .agg #[.slice none 0 0, .slice none 0 0], .int .i64 0, .int .i64 0, .string ⟨#[]⟩], []⟩ 8 (by kernel_rfl) (by kernel_rfl) (by kernel_rfl) (by kernel_rfl)) ?_
  intro W base args ds gs before hval0 hW hcnd _
  have hval : ∀ (j : Nat) t v, Try.f3.params[j]? = some t → args[j]? = some v → Value.okWide Try.prog W .any base t v := hval0
  have hW' := hW
  obtain ⟨p, q, hA0, hV, rfl, hfz, hnd⟩ := hW
  have hA : DataW.TrodAll enc Try.prog W 0 (fun _ => true) true [25, 25, 3, 3, 9] args.toList ds p := hA0
  obtain ⟨v0, vr, d0, dr, p0, pr, e0, rfl, rfl, h0, hA⟩ := trodAll_cons hA
  obtain ⟨v1, vr1, d1, dr1, p1, pr1, rfl, rfl, rfl, h1, hA⟩ := trodAll_cons hA
  obtain ⟨v2, v3, v4, d2, d3, d4, p2, p3, p4, e2, rfl, rfl, h2, h3, h4⟩ := trodAll_three hA
  obtain rfl : vr1 = [v2, v3, v4] := congrArg Array.toList e2
  obtain rfl : args = #[v0, v1, v2, v3, v4] := by rw [← Array.toArray_toList (xs := args), e0]
  have hb : Try.prog.underlying 4 = some .bool := by kernel_rfl
  refine post_true (fid := 3) (tb := 4) Try.laidOut (by kernel_rfl) rfl rfl hb ?_ hW' (callsX_true ?_)
  · obtain ⟨rfl, rfl⟩ := trodVars_none hV; rfl
  · obtain ⟨pr, cs, rfl, hp⟩ := Dec.agg dec_pr (tyrow rfl) rfl (hval 0 _ v0 rfl rfl) h0
    obtain ⟨qr, cs', rfl, hq⟩ := Dec.agg dec_pr (tyrow rfl) rfl (hval 1 _ v1 rfl rfl) h1
    obtain ⟨op, e2, -, -⟩ := (Dec.int (tyrow rfl) rfl).one (tyrow rfl) rfl (hval 2 _ v2 rfl rfl) h2 rInt_one
    obtain ⟨v, e3, -, -⟩ := (Dec.int (tyrow rfl) rfl).one (tyrow rfl) rfl (hval 3 _ v3 rfl rfl) h3 rInt_one
    obtain ⟨s, e4, hs⟩ := (Dec.str (tyrow rfl) rfl).one (tyrow rfl) rfl (hval 4 _ v4 rfl rfl) h4 rStr_one
    simp only [List.cons.injEq, and_true] at e2 e3 e4
    subst e2; subst e3; subst e4
    exact does_law _ cs cs' pr qr op v s hp hq hs
theorem codeDoes_holds : Rows.CodeDoesSaid :=
  OpenClaim.holds_of_wide 3 Try.f3 rfl rfl rfl rfl rfl rfl rfl ⟨rfl, rfl, rfl, rfl, rfl⟩ rfl rfl rfl rfl rfl (by kernel_rfl) Try.func3 (by kernel_rfl)
    (of_decide_eq_true (by kernel_rfl)) (by unfold Func.isWrapper; first | (rw [if_pos (by decide +kernel)]; kernel_rfl) | (rw [if_neg (by decide +kernel)]; exact ⟨rfl, rfl⟩))
    (fun os started H enc _ => codeDoes_lifted os started H enc)
end Go.Proofs.Ytbbghdkndbpmmaa
