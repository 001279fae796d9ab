/- The statement, from what the law's function does. -/
import Derived.Test.YtbbghdkndbpmmaaArgs
import Derived.Test.YtbbghdkndbpmmaaRows
namespace Go.Proofs.Ytbbghdkndbpmmaa
open Go X Go.ChangeShapes Go.WideShapes Go.ChangeAt Go.RowKit
theorem Try.own : ownKnob Try.prog.godebug = none := by kernel_rfl
theorem Try.laidOut : laidOutB Try.prog = true := by kernel_rfl
namespace X
/-- An argument of one cell. -/
theorem one_cell {P : Program} {W : World} {r : Reach} {base : Nat} {t : TypeId} {v u : Value} {ty : Ty} (hT : tyOf P t = some ty) (hk : ty.k.agg = false) (hw : Value.okWide P W r base t v) (h : v.cells.toList = [u]) : v = u := by
  obtain ⟨d, e1, e2, -⟩ := und_of hT
  rw [← e2] at hk
  cases v with
  | agg cs =>
    exfalso
    unfold Value.okWide at hw
    rw [e1] at hw
    cases d <;> simp_all [kindOf, TK.agg, Cell.okWide, Cell.ok]
  | _ => simpa [Value.cells] using h
/-- What an argument of one cell is. -/
theorem Dec.one {α : Type} {P : Program} {W : World} {r : Reach} {base : Nat} {t : TypeId} {v : Value} {ty : Ty} {R : RT α} {H : Type} {enc : TypeId × Value → H} {d : DataW H} {ps : List MemPlace} (hd : Dec P t R) (hT : tyOf P t = some ty) (hk : ty.k.agg = false) (hw : Value.okWide P W r base t v)
    (h : DataW.Trod enc P W 0 (fun _ => true) true t v d ps) (h1 : ∀ y cs, R (ofHeap W.heap) cs y → ∃ u, cs = [u]) : ∃ y, R (ofHeap W.heap) [v] y := by
  obtain ⟨fuel, h⟩ := h
  obtain ⟨y, hy⟩ := hd.out h
  obtain ⟨u, hu⟩ := h1 y _ hy
  have := one_cell hT hk hw hu
  subst this
  rw [hu] at hy
  exact ⟨y, hy⟩
/-- What an argument that is a struct is. -/
theorem Dec.agg {α : Type} {P : Program} {W : World} {r : Reach} {base : Nat} {t : TypeId} {v : Value} {ty : Ty} {R : RT α} {H : Type} {enc : TypeId × Value → H} {d : DataW H} {ps : List MemPlace} {fs : List (TypeId × Nat)} (hd : Dec P t R) (hT : tyOf P t = some ty) (hk : ty.k = .struct fs) (hw : Value.okWide P W r base t v)
    (h : DataW.Trod enc P W 0 (fun _ => true) true t v d ps) : ∃ y cs, v = .agg cs.toArray ∧ R (ofHeap W.heap) cs y := by
  obtain ⟨fuel, h⟩ := h
  obtain ⟨y, hy⟩ := hd.out h
  obtain ⟨dd, e1, e2, -⟩ := und_of hT
  rw [hk] at e2
  cases dd <;> simp [kindOf] at e2
  unfold Value.okWide at hw
  rw [e1] at hw
  obtain ⟨cs, rfl, -⟩ := hw
  exact ⟨y, cs.toList, by simp, hy⟩
theorem rSl_one {α : Type} {s : Nat} {R : RT α} {σ : PH} : ∀ y cs, rSl s R σ cs y → ∃ u, cs = [u] := fun _ _ ⟨v, h, _⟩ => ⟨v, h⟩
theorem rInt_one {k : IntKind} {σ : PH} : ∀ y cs, rInt k σ cs y → ∃ u, cs = [u] := fun _ _ h => ⟨_, h.1⟩
theorem rStr_one {σ : PH} : ∀ y cs, rStr σ cs y → ∃ u, cs = [u] := fun _ _ h => ⟨_, h.1⟩
/-! structs -/
theorem dropParts (cs : List Value) (o n : Nat) : cs.drop o = (cs.drop o).take n ++ cs.drop (o + n) := by rw [← List.drop_drop, List.take_append_drop]
def rWords : RT (List Int) := fun _ cs w => cs = ints w ∧ w.length = 8 ∧ ∀ n ∈ w, IntKind.i64.min ≤ n ∧ n ≤ IntKind.i64.max
theorem Dec.words {P : Program} {t e : TypeId} {r re : Ty} (hT : tyOf P t = some r) (hk : r.k = .array 8 e) (hs : r.size = 8) (hE : tyOf P e = some re) (hke : re.k = .int .i64) (hse : re.size = 1) : Dec P t rWords := ⟨fun {H enc w fuel cs x} h => by
  obtain ⟨hl, hx⟩ := trod_elems hT hk h
  obtain ⟨d', -, -, e3⟩ := und_of hE
  rw [e3, hse] at hx
  rw [hs] at hl
  have hi : ∀ i, i < 8 → ∃ n, cs[i]? = some (.int .i64 n) ∧ IntKind.i64.min ≤ n ∧ n ≤ IntKind.i64.max := fun i hi => by
    obtain ⟨f, y, hy⟩ := hx i hi
    obtain ⟨n, h1, h2⟩ := (Dec.int hE hke).out hy
    refine ⟨n, ?_, h2⟩
    have := congrArg (·[0]?) h1
    simpa [List.getElem?_take, List.getElem?_drop] using this
  have key : ∀ (k : Nat) (cs : List Value), cs.length = k → (∀ i, i < k → ∃ n, cs[i]? = some (.int .i64 n) ∧ IntKind.i64.min ≤ n ∧ n ≤ IntKind.i64.max) → ∃ w : List Int, cs = ints w ∧ w.length = k ∧ ∀ n ∈ w, IntKind.i64.min ≤ n ∧ n ≤ IntKind.i64.max := by
    intro k
    induction k with
    | zero => intro cs hl _; exact ⟨[], by simpa using List.eq_nil_of_length_eq_zero hl, rfl, by simp⟩
    | succ k ih =>
      intro cs hl hi
      cases cs with
      | nil => simp at hl
      | cons c cs =>
        obtain ⟨w, rfl, h2, h3⟩ := ih cs (by simpa using hl) (fun i hi' => by simpa using hi (i + 1) (by omega))
        obtain ⟨n, h4, h5⟩ := hi 0 (by omega)
        simp at h4
        subst h4
        refine ⟨n :: w, rfl, by simp [h2], fun m hm => ?_⟩
        simp only [List.mem_cons] at hm
        rcases hm with rfl | hm
        · exact h5
        · exact h3 m hm
  exact key 8 cs hl hi⟩
end X
end Go.Proofs.Ytbbghdkndbpmmaa
