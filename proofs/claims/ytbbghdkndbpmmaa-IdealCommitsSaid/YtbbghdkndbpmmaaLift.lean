/- From what a law's function does to the statement: it returns true; the input reads as it did. -/
import Derived.Test.YtbbghdkndbpmmaaHeap
import Derived.ProofKit
namespace Go.Proofs.Ytbbghdkndbpmmaa
open Go X Go.ChangeShapes Go.WideShapes Go.ChangeAt Go.RowKit
variable {H : Type} {enc : TypeId × Value → H} {P : Program}
/-- Arguments read as they did. -/
theorem all_stay (hl : laidOutB P = true) {W W' : World} (hb : Below W.heap.size W W') : ∀ (ts : List TypeId) {vs : List Value} {ds : List (DataW H)} {ps : List MemPlace}, (∀ t ∈ ts, P.readableRec t = true ∧ t < P.types.size) →
    DataW.TrodAll enc P W 0 (fun _ => true) true ts vs ds ps → (∀ p ∈ ps, p.block < W.heap.size) → DataW.TrodAll enc P W' 0 (fun b => decide (b < W.heap.size)) true ts vs ds ps
  | [], _, _, _, _, h, _ => by
    obtain ⟨rfl, rfl, rfl⟩ := trodAll_nil h
    exact trodAll_mk0
  | t :: ts, _, _, _, ht, h, hp => by
    obtain ⟨v, vs', d, ds', p, q, rfl, rfl, rfl, h1, h2⟩ := trodAll_cons h
    have ht1 := ht t (by simp)
    exact ⟨p, q, Below.trod hl ht1.1 ht1.2 h1 hb (fun x hx => hp x (by simp [hx])), all_stay hl hb ts (fun t' ht' => ht t' (by simp [ht'])) h2 (fun x hx => hp x (by simp [hx])), rfl⟩
theorem below_of {W W' : World} (hs : Same W W') (hx : Ext W.heap W'.heap) : Below W.heap.size W W' := ⟨hs.os, hs.tape, hs.output, hx.size, hx.get⟩
/-- It returns true and what it reads stays. -/
theorem post_true {fid : FuncId} {f : Func} {s : ChangeSpec} {W : World} {args : Array Value} {ds gs : List (DataW H)} {before : List MemPlace} {tb : TypeId} (hl : laidOutB P = true)
    (hts : (f.params.toList.all fun t => P.readableRec t && decide (t < P.types.size)) = true) (hv : s.vars = []) (hrt : f.resultTypes = #[tb]) (hub : P.underlying tb = some .bool) (hfn : s.fn H (ds ++ gs) = { results := [.lit (.bool true)], args := ds })
    (hW : DataW.Whole enc P f.params.toList s.vars false W args.toList ds gs before) (hc : CallsX P fid args W.heap (Ret fun v h' => v = .bool true ∧ Ext W.heap h')) :
    Calls P fid args W fun e W' => ∃ v, e = .returned v ∧ s.post enc P f false true false false W args v W' := by
  refine (hc.2 W rfl).mono ?_
  rintro e W' ⟨hs, hr⟩
  cases e with
  | returned v =>
    obtain ⟨rfl, hx⟩ := hr
    have hb := below_of hs hx
    have hlt := hW.lt
    have hW0 := hW
    obtain ⟨p, q, hA, hV, rfl, -, -⟩ := hW
    rw [hv] at hV
    obtain ⟨rfl, rfl⟩ := trodVars_none hV
    refine ⟨_, rfl, ds, [], p ++ [], [], p, [], hW0, ?_, ?_, ?_, hb.frame _, fun e => by cases e⟩
    · rw [hfn, hrt]; exact trodAll_mk1 (shut_bool hub true)
    · rw [hfn]
      refine all_stay hl hb _ ?_ hA (fun x hx => hlt x (by simp [hx]))
      intro t ht
      have := List.all_eq_true.1 hts t ht
      simpa using this
    · rw [hfn, hv]; rfl
  | panicked c => exact hr.elim
  | outgrown => exact hr.elim
end Go.Proofs.Ytbbghdkndbpmmaa
