/- The law IdealInput holds: what is not read does not matter: for every program, every two inputs and every number. -/
import Derived.Test.YtbbghdkndbpmmaaJi
import Derived.SizedLaws
namespace Go.Proofs.Ytbbghdkndbpmmaa
open Go X Go.ChangeShapes Go.WideShapes Go.ChangeAt Go.RowKit
/-- How long a list is that was read. -/
theorem trod_len {H : Type} {enc : TypeId × Value → H} {P : Program} {W : World} {t e : TypeId} {p : Option Addr} {n c : Nat} {d : DataW H} {ps : List MemPlace} (hu : P.underlying t = some (.slice e)) (h : DataW.Trod enc P W 0 (fun _ => true) true t (.slice p n c) d ps) :
    n = 0 ∨ ∃ elems spare, d = .slice elems spare ∧ elems.length = n := by
  obtain ⟨fuel, h⟩ := h
  have e0 : (Value.slice p n c).cells.toList = [.slice p n c] := rfl
  rw [e0] at h
  obtain ⟨e1, -⟩ | ⟨a, len, cap, elems, rest, m, -, e1, e2, -, -, -, hl, -⟩ := DataW.trod_slice hu h
  · simp only [List.cons.injEq, Value.slice.injEq, and_true] at e1
    exact .inl e1.2.1
  · simp only [List.cons.injEq, Value.slice.injEq, and_true] at e1
    simp only [Prod.mk.injEq] at e2
    exact .inr ⟨_, _, e2.1, by rw [List.length_map, hl]; exact e1.2.1.symm⟩
set_option maxRecDepth 100000 in
theorem idealInput_lifted (os : Os) (started : os.Started) (H : Type) (enc : TypeId × Value → H) :
    ReturnsInHanded {} Try.checked os 11 .any (Rows.idealInputSpec.pre6 enc Try.prog Try.f11 Rows.idealInputRow.domain false) (Rows.idealInputSpec.post enc Try.prog Try.f11 false true false false) := by
  refine returnsInHanded_of_change_sized (C := Try.checked) Try.own started (by kernel_rfl) Try.func11
    (ChangeSpec.witness6 (enc := enc) (C := Try.checked) false ⟨#[], #[.agg #[.slice none 0 0, .slice none 0 0], .slice none 0 0, .slice none 0 0, .int .i64 0], []⟩ 8 (by kernel_rfl) (by kernel_rfl) (by kernel_rfl) (by kernel_rfl)) ?_
  intro W base args ds gs before hval0 hW hcnd hsz _
  have hval : ∀ (j : Nat) t v, Try.f11.params[j]? = some t → args[j]? = some v → Value.okWide Try.prog W .any base t v := hval0
  have hW' := hW
  obtain ⟨p, q, hA0, hV, rfl, hfz, hnd⟩ := hW
  have hA : DataW.TrodAll enc Try.prog W 0 (fun _ => true) true [25, 61, 61, 3] args.toList ds p := hA0
  obtain ⟨v0, v1, v2, v3, d0, d1, d2, d3, p0, p1, p2, p3, rfl, rfl, rfl, h0, h1, h2, h3⟩ := trodAll_four hA
  have hb : Try.prog.underlying 4 = some .bool := by kernel_rfl
  refine post_true (fid := 11) (tb := 4) Try.laidOut (by kernel_rfl) rfl rfl hb ?_ hW' (callsX_true ?_)
  · obtain ⟨rfl, rfl⟩ := trodVars_none hV; rfl
  · obtain ⟨pr0, cs0, rfl, hp0⟩ := Dec.agg dec_pr (tyrow rfl) rfl (hval 0 _ v0 rfl rfl) h0
    obtain ⟨xs1, _, e1, hxs1⟩ := (Dec.slice (tyrow rfl) rfl (tyrow rfl) rfl (by decide) (Dec.int (tyrow rfl) rfl)).one (tyrow rfl) rfl (hval 1 _ v1 rfl rfl) h1 rSl_one
    simp only [List.cons.injEq, and_true] at e1
    subst e1
    obtain ⟨xs2, _, e2, hxs2⟩ := (Dec.slice (tyrow rfl) rfl (tyrow rfl) rfl (by decide) (Dec.int (tyrow rfl) rfl)).one (tyrow rfl) rfl (hval 2 _ v2 rfl rfl) h2 rSl_one
    simp only [List.cons.injEq, and_true] at e2
    subst e2
    obtain ⟨n3, e3, ln3, un3⟩ := (Dec.int (tyrow rfl) rfl).one (tyrow rfl) rfl (hval 3 _ v3 rfl rfl) h3 rInt_one
    simp only [List.cons.injEq, and_true] at e3
    subst e3
    have hbig : xs1.length + xs2.length ≤ 4611686018427387904 := by
      obtain ⟨p1, c1, rfl, -, -⟩ := hxs1.shape
      obtain ⟨p2, c2, rfl, -, -⟩ := hxs2.shape
      have hu : Try.prog.underlying 61 = some (.slice 2) := by kernel_rfl
      have h8 : Try.prog.bytesOf 2 = 8 := by kernel_rfl
      have b1 : xs1.length ≤ reachBytes := by
        rcases trod_len hu h1 with h0 | ⟨elems, spare, rfl, hl⟩
        · omega
        · have : (elems.length + spare.length) * Try.prog.bytesOf 2 ≤ reachBytes := sized_slice (j := 1) hsz rfl rfl hu
          rw [h8] at this; omega
      have b2 : xs2.length ≤ reachBytes := by
        rcases trod_len hu h2 with h0 | ⟨elems, spare, rfl, hl⟩
        · omega
        · have : (elems.length + spare.length) * Try.prog.bytesOf 2 ≤ reachBytes := sized_slice (j := 2) hsz rfl rfl hu
          rw [h8] at this; omega
      have := reachBytes_lt
      omega
    exact input_law _ cs0 pr0 _ _ xs1 xs2 n3 hp0 (pints_of hxs1) (pints_of hxs2) hbig
theorem idealInput_holds : Rows.IdealInputSaid :=
  OpenClaim.holds_of_wide 11 Try.f11 rfl rfl rfl rfl rfl rfl rfl ⟨rfl, rfl, rfl, rfl, rfl⟩ rfl rfl rfl rfl rfl (by kernel_rfl) Try.func11 (by kernel_rfl)
    (of_decide_eq_true (by kernel_rfl)) (by unfold Func.isWrapper; first | (rw [if_pos (by decide +kernel)]; kernel_rfl) | (rw [if_neg (by decide +kernel)]; exact ⟨rfl, rfl⟩))
    (fun os started H enc _ => idealInput_lifted os started H enc)
end Go.Proofs.Ytbbghdkndbpmmaa
