/- Words held against words. -/
import Derived.Test.YtbbghdkndbpmmaaHeap
namespace Go.Proofs.Ytbbghdkndbpmmaa
namespace X
open Go
section
variable {P : Program} {ρ : Env} {S : Heap → Prop} {ty : TypeId}
theorem run_forIn_all {P : Program} (g : Nat → Option Bool × PUnit → Sem (ForInStep (Option Bool × PUnit))) (p : Nat → Bool) (w : World) : ∀ (l : List Nat),
    (∀ i ∈ l, (g i (none, ⟨⟩)).run P w = .ok (if p i then .yield (none, ⟨⟩) else .done (some false, ⟨⟩)) w) → (forIn l (none, ⟨⟩) g).run P w = .ok (if l.all p then (none, ⟨⟩) else (some false, ⟨⟩)) w
  | [], _ => by simp
  | i :: l, hg => by
    simp only [List.forIn_cons, Sem.run_bind, hg i (by simp), Result.andThen_ok, List.all_cons]
    have ih := run_forIn_all g p w l (fun j hj => hg j (by simp [hj]))
    by_cases hp : p i = true
    · rw [if_pos hp]; simpa [hp] using ih
    · rw [if_neg hp]; simp [hp]
theorem all_ints {a b : List Int} {n : Nat} (ha : a.length = n) (hb : b.length = n) : (List.range' 0 n).all (fun i => a.getD i 0 == b.getD i 0) = decide (a = b) := by
  rw [Bool.eq_iff_iff]
  simp only [List.all_eq_true, beq_iff_eq, decide_eq_true_eq]
  constructor
  · intro h
    apply List.ext_getElem (by omega)
    intro i h1 h2
    have := h i (by simp; omega)
    simpa [List.getD_eq_getElem?_getD, h1, h2] using this
  · rintro rfl i _; rfl
theorem run_equal_words {T e : TypeId} {r re : Ty} {n : Nat} {a b : List Int} (hT : tyOf P T = some r) (hk : r.k = .array n e) (hE : tyOf P e = some re) (hke : re.k = .int .i64) (hsz : re.size = 1) (ha : a.length = n) (hb : b.length = n) (w : World) :
    (Op.equal T (wv a) (wv b)).run P w = .ok (decide (a = b)) w := by
  obtain ⟨dd, i, z, e1, e2, -⟩ := tyOf_spec hT
  obtain ⟨dd', i', z', e1', e2', e3', e4', -⟩ := tyOf_spec hE
  rw [hk] at e2
  rw [hke] at e2'
  cases dd <;> simp [kindOf] at e2
  cases dd' <;> simp [kindOf] at e2'
  obtain ⟨e5, e6⟩ := e2
  rw [e5, e6] at e1
  subst e2'
  show (Op.equalIn (9999 + 1) T _ _).run P w = _
  rw [Op.equalIn]
  simp only [Sem.run_bind, run_underlying e1, Result.andThen_ok, wv]
  have hs : (sizeOf e).run P w = .ok 1 w := by simp [sizeOf, typeInfo, e3', e4', hsz]
  have hpart : ∀ (l : List Int) (j : Nat), j < l.length → (part e (ints l).toArray (j * 1)).run P w = .ok (i64 (l.getD j 0)) w := fun l j hj => by
    have hag : (isAgg e).run P w = .ok false w := by unfold isAgg; rw [Sem.run_bind, run_underlying e1' w]; rfl
    simp [part, hag, List.getD_eq_getElem?_getD, hj]
  rw [hs]
  simp only [Result.andThen_ok]
  have hf := run_forIn_all (P := P) (fun j __s => do
              let __do_lift ← part e (ints a).toArray (j * 1)
              let __do_lift_1 ← part e (ints b).toArray (j * 1)
              let __do_lift ← Op.equalIn 9999 e __do_lift __do_lift_1
              if (!__do_lift) = true then pure (ForInStep.done (some false, ⟨⟩)) else pure (ForInStep.yield (none, ⟨⟩))) (fun j => a.getD j 0 == b.getD j 0) w (List.range' 0 n) (fun j hj => by
    have hj' : j < n := by simpa using hj
    simp only [Sem.run_bind, hpart a j (by omega), hpart b j (by omega), Result.andThen_ok, run_equalIn_int w 9998 e .i64 .i64 _ _ e1']
    cases (a.getD j 0 == b.getD j 0) <;> rfl)
  rw [all_ints ha hb] at hf
  rw [Std.Legacy.Range.forIn_eq_forIn_range']
  simp only [Std.Legacy.Range.size, Nat.sub_zero, Nat.add_sub_cancel, Nat.div_one]
  rw [hf]
  cases decide (a = b) <;> rfl
theorem Rd.eqlWords {T T' : TypeId} {x y : Operand} {e : TypeId} {r re : Ty} {n : Nat} {a b : List Int} (hT : tyOf P T = some r) (hk : r.k = .array n e) (hE : tyOf P e = some re) (hke : re.k = .int .i64) (hsz : re.size = 1) (hg : P.eqGuardType P.depth T = false)
    (hx : ev ρ x = wv a) (hy : ev ρ y = wv b) (ha : a.length = n) (hb : b.length = n) : Rd P ρ S (.binOp .eql T x y T') ty (.bool (decide (a = b))) := by
  refine .pure fun d pos af gd w => ?_
  have h1 := run_equal_words (P := P) hT hk hE hke hsz ha hb w
  have h2 : (eqGuard .eql T x y (wv a) (wv b)).run P w = .ok () w := run_eqGuard_agg w _ _ _ _ _ _ hg
  have h3 : (binOp .eql T (wv a) (wv b)).run P w = .ok (.bool (decide (a = b))) w := by
    show (do Pure.pure (Value.bool (← Op.equal T (wv a) (wv b))) : Sem Value).run P w = _
    rw [Sem.run_bind, h1]; rfl
  simp only [execOp, hx, hy, Sem.run_bind, h2, h3, Result.andThen_ok, Sem.run_pure]
theorem Rd.neqWords {T T' : TypeId} {x y : Operand} {e : TypeId} {r re : Ty} {n : Nat} {a b : List Int} (hT : tyOf P T = some r) (hk : r.k = .array n e) (hE : tyOf P e = some re) (hke : re.k = .int .i64) (hsz : re.size = 1) (hg : P.eqGuardType P.depth T = false)
    (hx : ev ρ x = wv a) (hy : ev ρ y = wv b) (ha : a.length = n) (hb : b.length = n) : Rd P ρ S (.binOp .neq T x y T') ty (.bool (decide (a ≠ b))) := by
  refine .pure fun d pos af gd w => ?_
  have h1 := run_equal_words (P := P) hT hk hE hke hsz ha hb w
  have h2 : (eqGuard .neq T x y (wv a) (wv b)).run P w = .ok () w := run_eqGuard_agg w _ _ _ _ _ _ hg
  have h3 : (binOp .neq T (wv a) (wv b)).run P w = .ok (.bool (decide (a ≠ b))) w := by
    show (do Pure.pure (Value.bool (!(← Op.equal T (wv a) (wv b)))) : Sem Value).run P w = _
    rw [Sem.run_bind, h1]
    by_cases e : a = b <;> simp [e]
  simp only [execOp, hx, hy, Sem.run_bind, h2, h3, Result.andThen_ok, Sem.run_pure]
end
end X
end Go.Proofs.Ytbbghdkndbpmmaa
