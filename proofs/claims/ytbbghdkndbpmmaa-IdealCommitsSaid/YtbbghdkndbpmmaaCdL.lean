/- Package code, told plainly: what is less is a program, too; no fault's code is 0; how many cells there are. -/
import Derived.Test.YtbbghdkndbpmmaaCdS
namespace Go.Proofs.Ytbbghdkndbpmmaa
open Go X
/-- From more parts, and less deep, it comes through too. -/
structure Down (F : Int → JE → JE) : Prop where
  err : ∀ d c, F d (.error c) = .error c
  ok : ∀ d a b, 0 ≤ a → F d (.ok a) = .ok b → 0 ≤ b ∧ b ≤ a ∧ ∀ d' a', d' ≤ d → a ≤ a' → F d' (.ok a') = .ok (a' - a + b)
  nz : ∀ d a c, F d (.ok a) = .error c → c ≠ 0
theorem Down.id : Down fun _ e => e := ⟨fun _ _ => rfl, fun d a b h e => by
  simp only [Except.ok.injEq] at e; subst e
  exact ⟨h, Int.le_refl _, fun d' a' _ _ => by simp⟩, fun _ _ _ e => by cases e⟩
theorem Down.comp {F G : Int → JE → JE} (hF : Down F) (hG : Down G) : Down fun d e => G d (F d e) := by
  refine ⟨fun d c => by rw [hF.err, hG.err], fun d a b h e => ?_, fun d a c e => ?_⟩
  · cases hf : F d (.ok a) with
    | error c => rw [hf, hG.err] at e; cases e
    | ok m =>
      rw [hf] at e
      obtain ⟨h1, h2, h3⟩ := hF.ok d a m h hf
      obtain ⟨g1, g2, g3⟩ := hG.ok d m b h1 e
      refine ⟨g1, by omega, fun d' a' hd ha => ?_⟩
      rw [h3 d' a' hd ha, g3 d' _ hd (by omega)]
      congr 1; omega
  · cases hf : F d (.ok a) with
    | error c' => rw [hf, hG.err] at e; simp only [Except.error.injEq] at e; subst e; exact hF.nz _ _ _ hf
    | ok m => rw [hf] at e; exact hG.nz _ _ _ e
theorem Down.shift {F : Int → JE → JE} (hF : Down F) : Down fun d e => F (d + 1) e :=
  ⟨fun d c => hF.err _ _, fun d a b h e => by
    obtain ⟨h1, h2, h3⟩ := hF.ok _ _ _ h e
    exact ⟨h1, h2, fun d' a' hd ha => h3 _ _ (by omega) ha⟩, fun d a c e => hF.nz _ _ _ e⟩
theorem Down.fail (b : Bool) {c : Int} (hc : c ≠ 0) : Down fun _ e => JE.fail e b c := by
  cases b with
  | false => simpa using Down.id
  | true => exact ⟨fun _ _ => rfl, fun d a b h e => by simp [JE.fail] at e, fun d a c' e => by simp [JE.fail] at e; subst e; exact hc⟩
theorem Down.one : Down fun d e => JE.one e d := by
  refine ⟨fun _ _ => rfl, fun d a b h e => ?_, fun d a c e => ?_⟩
  · simp only [JE.one] at e
    split at e
    · cases e
    · split at e
      · cases e
      · simp only [Except.ok.injEq] at e
        subst e
        refine ⟨by omega, by omega, fun d' a' hd ha => ?_⟩
        simp only [JE.one]
        rw [if_neg (by omega), if_neg (by omega)]
        congr 1; omega
  · simp only [JE.one] at e
    split at e
    · simp only [Except.error.injEq] at e; omega
    · split at e
      · simp only [Except.error.injEq] at e; omega
      · cases e
theorem Down.named (nv v : Int) (is : Bool) : Down fun _ e => JE.named e nv v is := (Down.fail _ (by decide)).comp (Down.fail _ (by decide))
theorem Down.exHead (nv op v n : Int) (k : Nat) : Down fun d e => exHead nv d op v n k e := ((Down.one.comp (Down.fail _ (by decide))).comp (Down.fail _ (by decide))).comp (Down.named _ _ _)
theorem Down.exsE' (nv : Int) : ∀ (l : List Ex), (∀ x ∈ l, Down fun d e => exE nv d x e) → Down fun d e => exsE nv d l e
  | [], _ => by simpa [Go.Proofs.Ytbbghdkndbpmmaa.exsE] using Down.id
  | x :: l, h => by
    have := (h x (by simp)).comp (Down.exsE' nv l (fun y hy => h y (by simp [hy])))
    simpa [Go.Proofs.Ytbbghdkndbpmmaa.exsE] using this
theorem Down.exE (nv : Int) (x : Ex) : Down fun d e => exE nv d x e := by
  refine Ex.ind (P := fun x => Down fun d e => Go.Proofs.Ytbbghdkndbpmmaa.exE nv d x e) ?_ x
  intro op v n l ih
  have := (Down.exHead nv op v n l.length).comp (Down.exsE' nv l ih).shift
  simpa [Go.Proofs.Ytbbghdkndbpmmaa.exE] using this
theorem Down.exsE (nv : Int) (l : List Ex) : Down fun d e => Go.Proofs.Ytbbghdkndbpmmaa.exsE nv d l e := Down.exsE' nv l (fun x _ => Down.exE nv x)
theorem Down.stEF (nv op : Int) (e f : Ex) : Down fun d s => stEF nv d op e f s := by
  unfold Go.Proofs.Ytbbghdkndbpmmaa.stEF
  by_cases h1 : needE op = true <;> by_cases h2 : needF op = true <;> simp only [h1, h2]
  · exact (Down.exE nv e).comp (Down.exE nv f)
  · exact Down.exE nv e
  · exact Down.exE nv f
  · exact Down.id
theorem Down.stHead (nv op v : Int) (e f : Ex) (kb ke : Nat) : Down fun d s => stHead nv d op v e f kb ke s := ((Down.one.comp (Down.fail _ (by decide))).comp (Down.fail _ (by decide))).comp (Down.named _ _ _)
theorem Down.stsE' (nv : Int) : ∀ (l : List St), (∀ x ∈ l, Down fun d e => stE nv d x e) → Down fun d e => stsE nv d l e
  | [], _ => by simpa [Go.Proofs.Ytbbghdkndbpmmaa.stsE] using Down.id
  | x :: l, h => by
    have := (h x (by simp)).comp (Down.stsE' nv l (fun y hy => h y (by simp [hy])))
    simpa [Go.Proofs.Ytbbghdkndbpmmaa.stsE] using this
theorem Down.stE (nv : Int) (x : St) : Down fun d e => stE nv d x e := by
  refine St.ind (P := fun x => Down fun d e => Go.Proofs.Ytbbghdkndbpmmaa.stE nv d x e) ?_ x
  intro op v e f body els ih jh
  have := (((Down.stHead nv op v e f body.length els.length).comp (Down.stEF nv op e f).shift).comp (Down.stsE' nv body ih).shift).comp (Down.stsE' nv els jh).shift
  simpa [Go.Proofs.Ytbbghdkndbpmmaa.stE] using this
theorem Down.stsE (nv : Int) (l : List St) : Down fun d e => stsE nv d l e := Down.stsE' nv l (fun x _ => Down.stE nv x)
theorem sts_sub {nv : Int} {l' l : List St} (hs : l'.Sublist l) : ∀ {d a b a' : Int}, 0 ≤ a → a ≤ a' → Go.Proofs.Ytbbghdkndbpmmaa.stsE nv d l (.ok a) = .ok b → ∃ b', Go.Proofs.Ytbbghdkndbpmmaa.stsE nv d l' (.ok a') = .ok b' := by
  induction hs with
  | slnil => intro d a b a' _ _ _; exact ⟨a', rfl⟩
  | cons x _ ih =>
    intro d a b a' h0 ha e
    rw [Go.Proofs.Ytbbghdkndbpmmaa.stsE] at e
    cases hx : Go.Proofs.Ytbbghdkndbpmmaa.stE nv d x (.ok a) with
    | error c => rw [hx, stsE_err] at e; cases e
    | ok m =>
      rw [hx] at e
      obtain ⟨h1, h2, -⟩ := (Down.stE nv x).ok d a m h0 hx
      exact ih h1 (by omega) e
  | cons_cons x _ ih =>
    intro d a b a' h0 ha e
    rw [Go.Proofs.Ytbbghdkndbpmmaa.stsE] at e ⊢
    cases hx : Go.Proofs.Ytbbghdkndbpmmaa.stE nv d x (.ok a) with
    | error c => rw [hx, stsE_err] at e; cases e
    | ok m =>
      rw [hx] at e
      obtain ⟨h1, h2, h3⟩ := (Down.stE nv x).ok d a m h0 hx
      rw [h3 d a' (Int.le_refl _) ha]
      exact ih h1 (by omega) e
theorem sts_mem {nv : Int} : ∀ {l : List St} {x : St} (_ : x ∈ l) {d a b : Int}, 0 ≤ a → Go.Proofs.Ytbbghdkndbpmmaa.stsE nv d l (.ok a) = .ok b → ∃ a1 b1, 0 ≤ a1 ∧ a1 ≤ a ∧ Go.Proofs.Ytbbghdkndbpmmaa.stE nv d x (.ok a1) = .ok b1
  | y :: l, x, hm, d, a, b, h0, e => by
    rw [Go.Proofs.Ytbbghdkndbpmmaa.stsE] at e
    cases hx : Go.Proofs.Ytbbghdkndbpmmaa.stE nv d y (.ok a) with
    | error c => rw [hx, stsE_err] at e; cases e
    | ok m =>
      rw [hx] at e
      obtain ⟨h1, h2, -⟩ := (Down.stE nv y).ok d a m h0 hx
      simp only [List.mem_cons] at hm
      rcases hm with rfl | hm
      · exact ⟨a, m, h0, Int.le_refl _, hx⟩
      · obtain ⟨a1, b1, k1, k2, k3⟩ := sts_mem hm h1 e
        exact ⟨a1, b1, k1, by omega, k3⟩
theorem code_zero {e : JE} (hn : ∀ c, e = .error c → c ≠ 0) (h : e.code = 0) : ∃ b, e = .ok b := by
  cases e with
  | ok b => exact ⟨b, rfl⟩
  | error c => exact absurd h (hn c rfl)
/-- What a program is. -/
theorem check_ok {p : Pr} (h : checkP p = 0) : checkVars p.vars = 0 ∧ ∃ b, Go.Proofs.Ytbbghdkndbpmmaa.stsE p.vars.length 0 p.body (.ok 150) = .ok b := by
  unfold checkP at h
  split at h
  · exact absurd h (by assumption)
  · rename_i hv
    exact ⟨by simpa using hv, code_zero (fun c hc => (Down.stsE _ p.body).nz _ _ _ hc) h⟩
theorem check_of {p : Pr} {b : Int} (h1 : checkVars p.vars = 0) (h2 : Go.Proofs.Ytbbghdkndbpmmaa.stsE p.vars.length 0 p.body (.ok 150) = .ok b) : checkP p = 0 := by
  unfold checkP; rw [if_neg (by simp [h1]), h2]; rfl
/-- What is less is a program, too. -/
theorem check_sub {vars : List Va} {l l' : List St} (hs : l'.Sublist l) (h : checkP ⟨vars, l⟩ = 0) : checkP ⟨vars, l'⟩ = 0 := by
  obtain ⟨h1, b, h2⟩ := check_ok h
  obtain ⟨b', h3⟩ := sts_sub hs (by decide) (Int.le_refl 150) h2
  exact check_of h1 h3
theorem check_part {vars : List Va} {l : List St} {x : St} (hx : x ∈ l) (h : checkP ⟨vars, l⟩ = 0) : checkP ⟨vars, x.body⟩ = 0 ∧ checkP ⟨vars, x.els⟩ = 0 := by
  obtain ⟨h1, b, h2⟩ := check_ok h
  obtain ⟨a1, b1, k1, k2, k3⟩ := sts_mem hx (by decide) h2
  cases x with
  | mk op v e f body els =>
    rw [Go.Proofs.Ytbbghdkndbpmmaa.stE] at k3
    simp only at h1 h2
    obtain ⟨m, hm⟩ : ∃ m, Go.Proofs.Ytbbghdkndbpmmaa.stEF vars.length (0 + 1) op e f (Go.Proofs.Ytbbghdkndbpmmaa.stHead vars.length 0 op v e f body.length els.length (.ok a1)) = .ok m := by
      cases hq : Go.Proofs.Ytbbghdkndbpmmaa.stEF vars.length (0 + 1) op e f (Go.Proofs.Ytbbghdkndbpmmaa.stHead vars.length 0 op v e f body.length els.length (.ok a1)) with
      | ok m => exact ⟨m, rfl⟩
      | error c => rw [hq] at k3; simp at k3
    rw [hm] at k3
    have hH := ((Down.stHead vars.length op v e f body.length els.length).comp (Down.stEF vars.length op e f).shift).ok 0 a1 m k1 hm
    cases hq : Go.Proofs.Ytbbghdkndbpmmaa.stsE vars.length (0 + 1) body (.ok m) with
    | error c => rw [hq] at k3; simp at k3
    | ok q =>
      rw [hq] at k3
      obtain ⟨q1, q2, q3⟩ := (Down.stsE vars.length body).ok _ _ _ hH.1 hq
      obtain ⟨r1, r2, r3⟩ := (Down.stsE vars.length els).ok _ _ _ q1 k3
      exact ⟨check_of h1 (q3 0 150 (by decide) (by omega)), check_of h1 (r3 0 150 (by decide) (by omega))⟩
/-! cells -/
theorem sizes_cons (x : Va) (l : List Va) : sizes (x :: l) = x.size + sizes l := by simp [sizes]
theorem sizes_app (l m : List Va) : sizes (l ++ m) = sizes l + sizes m := by simp [sizes, List.sum_append]
theorem vars_ok : ∀ (l seen : List Va) (n : Int), n ≤ 48 → varsGo seen n l = 0 → (∀ x ∈ l, 1 ≤ x.size) ∧ n + sizes l ≤ 48
  | [], _, n, hn, _ => by simp [sizes]; exact hn
  | x :: l, seen, n, hn, h => by
    rw [varsGo] at h
    split at h
    · cases h
    · split at h
      · cases h
      · split at h
        · cases h
        · obtain ⟨h1, h2⟩ := vars_ok l _ _ (by omega) h
          refine ⟨fun y hy => ?_, by rw [sizes_cons]; omega⟩
          simp only [List.mem_cons] at hy
          rcases hy with rfl | hy
          · omega
          · exact h1 y hy
theorem check_sizes {l : List Va} (h : checkVars l = 0) : l.length ≤ 8 ∧ (∀ x ∈ l, 1 ≤ x.size) ∧ sizes l ≤ 48 := by
  unfold checkVars at h
  split at h
  · cases h
  · obtain ⟨h1, h2⟩ := vars_ok l [] 0 (by decide) h
    exact ⟨by omega, h1, by omega⟩
theorem sizes_nonneg : ∀ {l : List Va}, (∀ x ∈ l, 1 ≤ x.size) → 0 ≤ sizes l
  | [], _ => Int.le_refl _
  | x :: l, h => by have := sizes_nonneg (l := l) (fun y hy => h y (by simp [hy])); have := h x (by simp); rw [sizes_cons]; omega
/-- Cells of variables stand apart. -/
theorem cells_apart {l : List Va} (h : ∀ x ∈ l, 1 ≤ x.size) {v w : Nat} {x : Va} (hx : l[v]? = some x) (hv : v < w) : sizes (l.take v) + x.size ≤ sizes (l.take w) := by
  obtain ⟨k, rfl⟩ : ∃ k, w = v + 1 + k := ⟨w - (v + 1), by omega⟩
  rw [List.take_add, sizes_app, sizes_take l v x hx]
  have := sizes_nonneg (l := (l.drop (v + 1)).take k) (fun y hy => h y (List.mem_of_mem_drop (List.mem_of_mem_take hy)))
  omega
theorem cells_le {l : List Va} (h : ∀ x ∈ l, 1 ≤ x.size) (v : Nat) : 0 ≤ sizes (l.take v) ∧ sizes (l.take v) ≤ sizes l := by
  refine ⟨sizes_nonneg (fun y hy => h y (List.mem_of_mem_take hy)), ?_⟩
  have h1 : sizes l = sizes (l.take v) + sizes (l.drop v) := by rw [← sizes_app, List.take_append_drop]
  have := sizes_nonneg (l := l.drop v) (fun y hy => h y (List.mem_of_mem_drop hy))
  omega
end Go.Proofs.Ytbbghdkndbpmmaa
