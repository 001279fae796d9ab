/- Loops; regions whose order is drawn; append. -/
import Derived.Test.YtbbghdkndbpmmaaOps
import Derived.OrdersHeld
namespace Go.Proofs.Ytbbghdkndbpmmaa
namespace X
open Go
section
variable {P : Program} {N : Nat} {all : Array Oper} {rest : List Oper} {ρ : Env} {h : Heap} {K : Kont}

/-! loops -/
theorem wp_loop_rel {c : Code} {Q : Exit → Act → World → Prop} (I : Nat → Act → World → Prop)
    (round : ∀ n a w, I n a w → c.wp P (Exit.then (fun a' w' => ∃ m, m < n ∧ I m a' w') Q) a w) : ∀ n a w, I n a w → (Code.loop c).wp P Q a w := by
  intro n a w hI b k cs
  have key : ∀ n a w, I n a w → ∃ e a' w', Q e a' w' ∧ Arrives P (lone (b.at a (.code c :: .inLoop c :: k)) cs w) b k cs e a' w' := by
    intro n
    induction n using Nat.strongRecOn with
    | _ n ih =>
      intro a w hI
      obtain ⟨e, a₁, w₁, hq, harr⟩ := round n a w hI b (.inLoop c :: k) cs
      cases e with
      | normal =>
        obtain ⟨m, hlt, hI₁⟩ := hq
        obtain ⟨e₂, a₂, w₂, hq₂, harr₂⟩ := ih m hlt a₁ w₁ hI₁
        exact ⟨e₂, a₂, w₂, hq₂, .of_steps (Steps.trans harr (.one step_inLoop)) harr₂⟩
      | exit id => exact ⟨_, a₁, w₁, hq, .pass (x := .inLoop c) rfl (fun _ _ => .inl (by simp)) harr⟩
      | goto l => exact ⟨_, a₁, w₁, hq, .pass (x := .inLoop c) rfl (fun _ _ => .inl (by simp)) harr⟩
      | ret => exact ⟨_, a₁, w₁, hq, .pass (x := .inLoop c) rfl (fun _ _ => .inl (by simp)) harr⟩
      | panic ch => exact ⟨_, a₁, w₁, hq, .pass (x := .inLoop c) rfl (fun _ _ => .inl (by simp)) harr⟩
      | outgrown => exact ⟨_, a₁, w₁, hq, .pass (x := .inLoop c) rfl (fun _ _ => .inl (by simp)) harr⟩
  obtain ⟨e, a', w', hq, harr⟩ := key n a w hI
  exact ⟨e, a', w', hq, .of_steps (.one step_loop) harr⟩

@[reducible] def hav (lo hi : Nat) (ρ δ : Env) : Env := fun s => match Nat.ble lo s with
  | true => (match Nat.ble s hi with | true => δ s | false => ρ s)
  | false => ρ s
def ovr : List (Nat × Nat) → Env → Env → Env
  | [], ρ, _ => ρ
  | (lo, hi) :: l, ρ, δ => hav lo hi (ovr l ρ δ) δ
def outL (L : List (Nat × Nat)) (s : Nat) : Bool := L.all fun p => !(Nat.ble p.1 s && Nat.ble s p.2)
def Keep (L : List (Nat × Nat)) (ρ ρ' : Env) : Prop := ∀ s, outL L s = true → ρ' s = ρ s
theorem Keep.refl (L : List (Nat × Nat)) (ρ : Env) : Keep L ρ ρ := fun _ _ => rfl
theorem Keep.upd {L : List (Nat × Nat)} {ρ ρ' : Env} {d : Nat} {v : Value} (hk : Keep L ρ ρ') (hd : outL L d = false) : Keep L ρ (upd ρ' d v) := fun s hs => by
  have : s ≠ d := fun e => by subst e; rw [hd] at hs; cases hs
  rw [upd_ne _ _ _ _ this]; exact hk s hs
theorem Keep.updO {L : List (Nat × Nat)} {ρ ρ' : Env} {d : Nat} {v : Value} (hk : Keep L ρ ρ') (hd : outL L d = false) : Keep L ρ (X.updO ρ' (some d) v) := Keep.upd hk hd
theorem Keep.updN {L : List (Nat × Nat)} {ρ ρ' : Env} {v : Value} (hk : Keep L ρ ρ') : Keep L ρ (X.updO ρ' none v) := hk
theorem outL_sub {L : List (Nat × Nat)} {lo hi s : Nat} (hL : (L.any fun p => Nat.ble p.1 lo && Nat.ble hi p.2) = true) (h1 : Nat.ble lo s = true) (h2 : Nat.ble s hi = true) : outL L s = false := by
  simp only [List.any_eq_true, Bool.and_eq_true] at hL
  obtain ⟨p, hp, h3, h4⟩ := hL
  have a := Nat.le_of_ble_eq_true h1; have b := Nat.le_of_ble_eq_true h2; have c := Nat.le_of_ble_eq_true h3; have d := Nat.le_of_ble_eq_true h4
  unfold outL
  simp only [List.all_eq_false]
  refine ⟨p, hp, ?_⟩
  have e1 : Nat.ble p.1 s = true := Nat.ble_eq_true_of_le (by omega)
  have e2 : Nat.ble s p.2 = true := Nat.ble_eq_true_of_le (by omega)
  simp [e1, e2]
theorem Keep.hav {L : List (Nat × Nat)} {ρ ρ' δ : Env} {lo hi : Nat} (hk : Keep L ρ ρ') (hd : (L.any fun p => Nat.ble p.1 lo && Nat.ble hi p.2) = true) : Keep L ρ (hav lo hi ρ' δ) := fun s hs => by
  unfold X.hav
  cases e1 : Nat.ble lo s with
  | false => exact hk s hs
  | true =>
    cases e2 : Nat.ble s hi with
    | false => exact hk s hs
    | true => rw [outL_sub hd e1 e2] at hs; cases hs
theorem ovr_eq : ∀ {L : List (Nat × Nat)} {ρ ρ' : Env}, Keep L ρ ρ' → ovr L ρ ρ' = ρ' := by
  intro L
  have gen : ∀ (L : List (Nat × Nat)) (ρ ρ' : Env) (s : Nat), ovr L ρ ρ' s = if outL L s = true then ρ s else ρ' s := by
    intro L
    induction L with
    | nil => intro ρ ρ' s; simp [ovr, outL]
    | cons p L ih =>
      intro ρ ρ' s
      obtain ⟨lo, hi⟩ := p
      simp only [ovr, X.hav]
      cases e1 : Nat.ble lo s with
      | false => simp only [ih, outL, List.all_cons, e1, Bool.false_and, Bool.not_false, Bool.true_and]; rfl
      | true =>
        cases e2 : Nat.ble s hi with
        | false => simp only [ih, outL, List.all_cons, e1, e2, Bool.and_false, Bool.not_false, Bool.true_and]; rfl
        | true => simp [outL, e1, e2]
  intro ρ ρ' hk
  funext s
  rw [gen]
  split
  · rename_i e; exact (hk s e).symm
  · rfl
def Mat (ρ : Env) : List (Nat × Value) → Prop
  | [] => True
  | (d, v) :: l => ρ d = v ∧ Mat ρ l
theorem Mat.get {ρ : Env} : ∀ {l : List (Nat × Value)}, Mat ρ l → ∀ p ∈ l, ρ p.1 = p.2
  | [], _, _, hp => by cases hp
  | (d, v) :: l, ⟨h1, h2⟩, p, hp => by
    simp only [List.mem_cons] at hp
    rcases hp with rfl | hp
    · exact h1
    · exact Mat.get h2 p hp
/-- A loop: what its head's slots hold is told by a state x. -/
theorem loopG {c : Code} {σ : Type} (L : List (Nat × Nat)) (E : σ → List (Nat × Value)) (I : σ → Heap → Prop) (μ : σ → Nat) (x0 : σ) (e0 : Mat ρ (E x0)) (h0 : I x0 h)
    (round : ∀ x δ h', I x h' → X P N c ((E x).foldl (fun r p => upd r p.1 p.2) (ovr L ρ δ)) h' (thn (fun ρ' h'' => Keep L ρ ρ' ∧ ∃ x', Mat ρ' (E x') ∧ I x' h'' ∧ μ x' < μ x) K)) : X P N (.loop c) ρ h K := by
  refine ⟨fun w0 a w hs hh he => ?_⟩
  refine wp_loop_rel (fun n a' w' => a'.defers = a.defers ∧ Same w0 w' ∧ ∃ x ρ', μ x = n ∧ EnvOf N a' ρ' ∧ Keep L ρ ρ' ∧ (∀ p ∈ E x, ρ' p.1 = p.2) ∧ I x w'.heap) ?_ (μ x0) a w ⟨rfl, hs, x0, ρ, rfl, he, .refl _ _, e0.get, hh ▸ h0⟩
  rintro n a' w' ⟨hd, hs', x, ρ', rfl, he', hk, hE, hI⟩
  have henv : (E x).foldl (fun r p => X.upd r p.1 p.2) (ovr L ρ ρ') = ρ' := by
    rw [ovr_eq hk]
    have : ∀ (l : List (Nat × Value)), (∀ p ∈ l, ρ' p.1 = p.2) → l.foldl (fun r p => X.upd r p.1 p.2) ρ' = ρ' := by
      intro l
      induction l with
      | nil => intro _; rfl
      | cons p l ih =>
        intro hl
        have : X.upd ρ' p.1 p.2 = ρ' := by
          funext s
          by_cases e : s = p.1
          · rw [e, upd_same, hl p (by simp)]
          · rw [upd_ne _ _ _ _ e]
        rw [List.foldl_cons, this]
        exact ih fun q hq => hl q (by simp [hq])
    exact this _ hE
  have hr := round x ρ' w'.heap hI
  rw [henv] at hr
  refine Code.wp_mono ?_ (hr.out w0 a' w' hs' rfl he')
  rintro e a'' w'' ⟨q1, q2, ρ'', q3, q4⟩
  rw [hd] at q1
  cases e with
  | normal =>
    obtain ⟨k1, x', k2, k3, k4⟩ := q4
    exact ⟨μ x', k4, q1, q2, x', ρ'', rfl, q3, k1, k2.get, k3⟩
  | _ => exact ⟨q1, q2, ρ'', q3, q4⟩

/-! a region whose order is drawn -/
/-- Whatever order is picked from here on, and S holds behind every operation but the late ones, z. -/
def wpAnyZ (P : Program) (ops : Array Oper) (Q : Exit → Act → World → Prop) (S : World → Prop) (z : List Nat) : Nat → Array Bool → Act → World → Prop
  | 0, listed, a, w => Region.ready .any ops listed = [] ∧ Q .normal a w
  | fuel + 1, listed, a, w =>
    (Region.ready .any ops listed = [] → Q .normal a w) ∧
    ∀ i ∈ Region.ready .any ops listed, wpOp P ops Q i (fun a' w' => (z.contains i = true ∨ (S w → S w')) ∧ wpAnyZ P ops Q S z fuel (listed.setIfInBounds i true) a' w') a w
theorem wpAny_of_Z {ops : Array Oper} {Q : Exit → Act → World → Prop} {S : World → Prop} {z : List Nat} : ∀ (fuel : Nat) (listed : Array Bool) (a : Act) (w : World), wpAnyZ P ops Q S z fuel listed a w → wpAny P .any ops Q fuel listed a w
  | 0, _, _, _, h => h
  | fuel + 1, _, _, _, h => ⟨h.1, fun i hi => wpOp_mono (fun a' w' h' => wpAny_of_Z fuel _ a' w' h'.2) (h.2 i hi)⟩
/-- Does j wait for i, by a chain of edges? -/
def reachZ (ops : Array Oper) : Nat → Nat → Nat → Bool
  | 0, _, _ => false
  | n + 1, j, i => match ops[j]? with
    | some o => o.after.any fun e => Region.binds .any e && (e.on == i || reachZ ops n e.on i)
    | none => false
/-- Do all of z wait for i? -/
def waitsZ (ops : Array Oper) (z : List Nat) (i : Nat) : Bool := z.all fun j => match ops[j]? with
  | some _ => reachZ ops 5 j i
  | none => false
/-- What has come up has come up behind all that it waits for. -/
def Closed (ops : Array Oper) (listed : Array Bool) : Prop := ∀ j oj, ops[j]? = some oj → listed.getD j false = true → ∀ e ∈ oj.after, Region.binds .any e = true → listed.getD e.on false = true
theorem Closed.set {ops : Array Oper} {listed : Array Bool} (hc : Closed ops listed) {j : Nat} (hj : j ∈ Region.ready .any ops listed) : Closed ops (listed.setIfInBounds j true) := by
  intro k ok hk hl e he hb
  obtain ⟨_, oj, hoj, hall⟩ := mem_ready.1 hj
  have keep : listed.getD e.on false = true → (listed.setIfInBounds j true).getD e.on false = true := fun h => getD_set_true h
  by_cases hjk : j = k
  · subst hjk
    rw [hk] at hoj
    simp only [Option.some.injEq] at hoj
    subst hoj
    exact keep (hall e he hb)
  · rw [getD_set_ne false hjk] at hl
    exact keep (hc k ok hk hl e he hb)
theorem Closed.reach {ops : Array Oper} {listed : Array Bool} (hc : Closed ops listed) {i : Nat} : ∀ (n j : Nat) (oj : Oper), ops[j]? = some oj → (∀ e ∈ oj.after, Region.binds .any e = true → listed.getD e.on false = true) → reachZ ops n j i = true → listed.getD i false = true
  | 0, _, _, _, _, hr => by simp [reachZ] at hr
  | n + 1, j, oj, hj, hall, hr => by
    simp only [reachZ, hj] at hr
    obtain ⟨k, hk, hb⟩ := Array.any_eq_true.1 hr
    simp only [Bool.and_eq_true, Bool.or_eq_true, beq_iff_eq] at hb
    have h1 := hall _ (Array.getElem_mem hk) hb.1
    rcases hb.2 with h2 | h2
    · rw [← h2]; exact h1
    · cases ho : ops[(oj.after[k]).on]? with
      | none => cases n <;> simp [reachZ, ho] at h2
      | some o' => exact Closed.reach hc n _ o' ho (hc _ o' ho h1) h2
theorem lt_of_getI {α : Type} {l : Array α} {g : Nat} {o : α} (hg : l[g]? = some o) : g < l.size := by
  rcases Nat.lt_or_ge g l.size with hl | hl
  · exact hl
  · rw [Array.getElem?_eq_none hl] at hg; cases hg
theorem wpAnyZ_first {ops : Array Oper} {Q : Exit → Act → World → Prop} {S : World → Prop} {z : List Nat} {i : Nat} {oi : Oper} {v : Value} (hi : ops[i]? = some oi) (hsel : ∀ (j : Nat) (o : Oper) cs b, ops[j]? = some o → o.op ≠ .select cs b)
    (hQ : ∀ c a w, Q (.panic c) (a.put oi.dst v) w → Q (.panic c) a w) (hz : waitsZ ops z i = true) :
    ∀ (fuel : Nat) (listed : Array Bool) (a : Act) (w : World),
      (∀ j oj, ops[j]? = some oj → j ≠ i → listed.getD j true = false → (∀ e ∈ oj.after, Region.binds .any e = true → e.on ≠ i) → oi.apart ops oj = true) →
      i ∈ Region.ready .any ops listed → Closed ops listed → YieldsIf P ops S oi v a → S w →
      wpAnyZ P ops Q S z fuel (listed.setIfInBounds i true) (a.put oi.dst v) w → wpAnyZ P ops Q S z (fuel + 1) listed a w := by
  intro fuel
  induction fuel with
  | zero =>
    intro listed a w _ hr _ hy hS H
    refine ⟨fun h => (by rw [h] at hr; cases hr), fun j hj => ?_⟩
    by_cases hji : j = i
    · subst hji; exact hy.wpOp hi hS ⟨.inr (fun _ => hS), H⟩
    · have := ready_mono hj hji
      rw [H.1] at this
      cases this
  | succ fuel ih =>
    intro listed a w hfree hr hny hy hS H
    refine ⟨fun h => (by rw [h] at hr; cases hr), fun j hj => ?_⟩
    by_cases hji : j = i
    · subst hji; exact hy.wpOp hi hS ⟨.inr (fun _ => hS), H⟩
    · have h1 := H.2 j (ready_mono hj hji)
      obtain ⟨hjun, oj, hoj, hall⟩ := mem_ready.1 hj
      have hnot : ∀ e ∈ oj.after, Region.binds .any e = true → e.on ≠ i := fun e he hb heq => by
        have h1 := hall e he hb
        have h0 := (mem_ready.1 hr).1
        rw [heq] at h1
        rcases Nat.lt_or_ge i listed.size with h' | h'
        · simp [h'] at h0 h1; rw [h0] at h1; cases h1
        · simp [Array.getElem?_eq_none h'] at h1
      have hjz : ¬ z.contains j = true := fun e => by
        have hz1 := List.all_eq_true.1 hz j (by simpa using e)
        simp only [hoj] at hz1
        have h1 := Closed.reach hny 5 j oj hoj (fun e he hb => hall e he hb) hz1
        have h0 := (mem_ready.1 hr).1
        rcases Nat.lt_or_ge i listed.size with h' | h'
        · simp [h'] at h0 h1; rw [h0] at h1; cases h1
        · simp [Array.getElem?_eq_none h'] at h1
      have h2 := wpOp_putIf hoj (hfree j oj hoj hji hjun hnot) (fun cs b => hsel i oi cs b hi) (fun cs b => hsel j oj cs b hoj) hQ hy h1
      have hfree' : ∀ k ok, ops[k]? = some ok → k ≠ i → (listed.setIfInBounds j true).getD k true = false →
          (∀ e ∈ ok.after, Region.binds .any e = true → e.on ≠ i) → oi.apart ops ok = true := fun k ok hk hki hun hno => by
        refine hfree k ok hk hki ?_ hno
        by_cases hjk : j = k
        · subst hjk; exact hjun
        · rw [getD_set_ne true hjk] at hun; exact hun
      refine wpOp_mono (fun a' w' h3 => ?_) h2
      obtain ⟨h3y, h3s, h3w⟩ := h3
      have hSw' : S w' := h3s.resolve_left hjz hS
      refine ⟨.inr (fun _ => hSw'), ih (listed.setIfInBounds j true) a' w' hfree' (ready_mono hr (Ne.symm hji)) (hny.set hj) h3y hSw' ?_⟩
      rw [Array.setIfInBounds_comm _ _ hji]
      exact h3w
/-- One whose word hangs on nothing that others write. -/
theorem wpAnyZ_pure {ops : Array Oper} {Q : Exit → Act → World → Prop} {S : World → Prop} {z : List Nat} {i : Nat} {oi : Oper} {v : Value} (hi : ops[i]? = some oi) (hsel : ∀ (j : Nat) (o : Oper) cs b, ops[j]? = some o → o.op ≠ .select cs b)
    (hQ : ∀ c a w, Q (.panic c) (a.put oi.dst v) w → Q (.panic c) a w) :
    ∀ (fuel : Nat) (listed : Array Bool) (a : Act) (w : World),
      (∀ j oj, ops[j]? = some oj → j ≠ i → listed.getD j true = false → (∀ e ∈ oj.after, Region.binds .any e = true → e.on ≠ i) → oi.apart ops oj = true) →
      i ∈ Region.ready .any ops listed → Closed ops listed → YieldsIf P ops (fun _ => True) oi v a →
      wpAnyZ P ops Q S z fuel (listed.setIfInBounds i true) (a.put oi.dst v) w → wpAnyZ P ops Q S z (fuel + 1) listed a w := by
  intro fuel
  induction fuel with
  | zero =>
    intro listed a w _ hr _ hy H
    refine ⟨fun h => (by rw [h] at hr; cases hr), fun j hj => ?_⟩
    by_cases hji : j = i
    · subst hji; exact hy.wpOp hi trivial ⟨.inr id, H⟩
    · have := ready_mono hj hji
      rw [H.1] at this
      cases this
  | succ fuel ih =>
    intro listed a w hfree hr hny hy H
    refine ⟨fun h => (by rw [h] at hr; cases hr), fun j hj => ?_⟩
    by_cases hji : j = i
    · subst hji; exact hy.wpOp hi trivial ⟨.inr id, H⟩
    · have h1 := H.2 j (ready_mono hj hji)
      obtain ⟨hjun, oj, hoj, hall⟩ := mem_ready.1 hj
      have hnot : ∀ e ∈ oj.after, Region.binds .any e = true → e.on ≠ i := fun e he hb heq => by
        have h1 := hall e he hb
        have h0 := (mem_ready.1 hr).1
        rw [heq] at h1
        rcases Nat.lt_or_ge i listed.size with h' | h'
        · simp [h'] at h0 h1; rw [h0] at h1; cases h1
        · simp [Array.getElem?_eq_none h'] at h1
      have h2 := wpOp_putIf hoj (hfree j oj hoj hji hjun hnot) (fun cs b => hsel i oi cs b hi) (fun cs b => hsel j oj cs b hoj) hQ hy h1
      have hfree' : ∀ k ok, ops[k]? = some ok → k ≠ i → (listed.setIfInBounds j true).getD k true = false →
          (∀ e ∈ ok.after, Region.binds .any e = true → e.on ≠ i) → oi.apart ops ok = true := fun k ok hk hki hun hno => by
        refine hfree k ok hk hki ?_ hno
        by_cases hjk : j = k
        · subst hjk; exact hjun
        · rw [getD_set_ne true hjk] at hun; exact hun
      refine wpOp_mono (fun a' w' h3 => ?_) h2
      obtain ⟨h3y, h3s, h3w⟩ := h3
      refine ⟨h3s, ih (listed.setIfInBounds j true) a' w' hfree' (ready_mono hr (Ne.symm hji)) (hny.set hj) h3y ?_⟩
      rw [Array.setIfInBounds_comm _ _ hji]
      exact h3w
/-- In a plan: a writer, a reader, one that hangs on nothing. -/
inductive Kd where
  | wr | rd | pu
/-- Is this an order in which each reader may be taken first, and each writer comes alone? -/
def validFrom (ops : Array Oper) (z : List Nat) : List (Nat × Kd) → Nat → Array Bool → Bool
  | [], _, listed => (Region.ready .any ops listed).isEmpty
  | _ :: _, 0, _ => false
  | (i, .pu) :: pl, fuel + 1, listed => Region.free .any ops listed i && (Region.ready .any ops listed).contains i && validFrom ops z pl fuel (listed.setIfInBounds i true)
  | (i, .rd) :: pl, fuel + 1, listed => Region.free .any ops listed i && (Region.ready .any ops listed).contains i && waitsZ ops z i && validFrom ops z pl fuel (listed.setIfInBounds i true)
  | (i, .wr) :: pl, fuel + 1, listed => (Region.ready .any ops listed == [i]) && validFrom ops z pl fuel (listed.setIfInBounds i true)
/-- Are all that are still to come late ones? -/
def late (z : List Nat) (pl : List (Nat × Kd)) : Bool := pl.all fun p => match p.2 with
  | .wr => z.contains p.1
  | .rd => false
  | .pu => true
structure XP (P : Program) (N : Nat) (ops : Array Oper) (S : Heap → Prop) (z : List Nat) (pl : List (Nat × Kd)) (ρ : Env) (h : Heap) (K : Kont) : Prop where
  out : ∀ (fuel : Nat) (listed : Array Bool) (w0 : World) (a : Act) (w : World), validFrom ops z pl fuel listed = true → Region.noSelect ops = true → Closed ops listed → Same w0 w → w.heap = h → EnvOf N a ρ → (late z pl = true ∨ S h) → wpAnyZ P ops (Post w0 a.defers N K) (fun w => S w.heap) z fuel listed a w
theorem XP.nil {ops : Array Oper} {S : Heap → Prop} {z : List Nat} (hk : K .normal ρ h) : XP P N ops S z [] ρ h K := by
  refine ⟨fun fuel listed w0 a w hv hs hcl hsm hh he hS => ?_⟩
  simp only [validFrom, List.isEmpty_iff] at hv
  have hq : Post w0 a.defers N K .normal a w := ⟨rfl, hsm, ρ, .of he, hh ▸ hk⟩
  cases fuel with
  | zero => exact ⟨hv, hq⟩
  | succ n => exact ⟨fun _ => hq, by rw [hv]; intro i hi; cases hi⟩
theorem wantedD {ops : Array Oper} {a : Act} (he : EnvOf N a ρ) {j t : Nat} (hj : (ops[j]?).bind (·.dst) = some t) : (∀ b, ρ t = .bool b → yielded ops a.tmps j = some b) ∧ (ρ t = undef → yielded ops a.tmps j = none) := by
  have := he.get t
  unfold yielded
  rw [hj]
  refine ⟨fun b hb => ?_, fun hb => ?_⟩
  · rw [hb] at this
    cases hq : a.tmps[t]? with
    | none => simp [hq, undef] at this
    | some u => simp [hq] at this; subst this; simp [hq]
  · rw [hb] at this
    cases hq : a.tmps[t]? with
    | none => simp [hq]
    | some u => simp [hq] at this; subst this; simp [hq, undef]
/-- Does the guard let the operation run? -/
inductive Gd (ops : Array Oper) (ρ : Env) : Option (Nat × Bool) → Bool → Prop where
  | free : Gd ops ρ none true
  | is {j t : Nat} {b c : Bool} (hj : (ops[j]?).bind (·.dst) = some t) (hb : ρ t = .bool c) : Gd ops ρ (some (j, b)) (c == b)
  | un {j t : Nat} {b : Bool} (hj : (ops[j]?).bind (·.dst) = some t) (hb : ρ t = undef) : Gd ops ρ (some (j, b)) false
theorem Gd.isP {ops : Array Oper} {p : Prop} [Decidable p] {j t : Nat} {b c : Bool} (hj : (ops[j]?).bind (·.dst) = some t) (hb : ρ t = .bool (decide p)) (hp : decide p = c) : Gd ops ρ (some (j, b)) (c == b) := .is hj (hp ▸ hb)
theorem Gd.isQ {ops : Array Oper} {p : Prop} {inst : Decidable p} {j t : Nat} {b c r : Bool} (hj : (ops[j]?).bind (·.dst) = some t) (hb : ρ t = .bool (decide p)) (hp : decide p = c) (hr : (c == b) = r) : Gd ops ρ (some (j, b)) r := hr ▸ .is hj (hp ▸ hb)
theorem Gd.wanted {ops : Array Oper} {a : Act} (he : EnvOf N a ρ) {d : Option Tmp} {op : Op} {ty : TypeId} {pos : String} {af : Array Edge} {g : Option (Nat × Bool)} {r : Bool} (hg : Gd ops ρ g r) : Region.wanted ⟨d, op, ty, pos, af, g⟩ (yielded ops a.tmps) = r := by
  cases hg with
  | free => rfl
  | is hj hb => simp [Region.wanted, (wantedD he hj).1 _ hb]
  | un hj hb => simp [Region.wanted, (wantedD he hj).2 hb]
theorem XP.rdG {ops : Array Oper} {S : Heap → Prop} {z : List Nat} {i d : Nat} {pl : List (Nat × Kd)} {op : Op} {ty : TypeId} {pos : String} {af : Array Edge} {g : Option (Nat × Bool)} {v : Value} (hi : ops[i]? = some ⟨some d, op, ty, pos, af, g⟩) (hd : Nat.blt d N = true)
    (hy : ∀ a, EnvOf N a ρ → YieldsIf P ops (fun w => S w.heap) ⟨some d, op, ty, pos, af, g⟩ v a) (k : XP P N ops S z pl (upd ρ d v) h K) : XP P N ops S z ((i, .rd) :: pl) ρ h K := by
  refine ⟨fun fuel listed w0 a w hv hs hcl hsm hh he hS => ?_⟩
  have hS' : S h := hS.resolve_left (by simp [late])
  cases fuel with
  | zero => simp [validFrom] at hv
  | succ fuel =>
    simp only [validFrom, Bool.and_eq_true] at hv
    have hk := k.out fuel _ w0 (a.put (some d) v) w hv.2 hs (hcl.set (by simpa using hv.1.1.2)) hsm hh (he.put hd v) (.inr hS')
    exact wpAnyZ_first hi (Region.noSelect_spec hs) (fun c a' w' hq => hq) hv.1.2 fuel listed a w (Region.free_spec hi hv.1.1.1) (by simpa using hv.1.1.2) hcl (hy a he) (by show S w.heap; rw [hh]; exact hS') hk
theorem XP.rd {ops : Array Oper} {S : Heap → Prop} {z : List Nat} {i d : Nat} {pl : List (Nat × Kd)} {op : Op} {ty : TypeId} {pos : String} {af : Array Edge} {g : Option (Nat × Bool)} {v : Value} (hi : ops[i]? = some ⟨some d, op, ty, pos, af, g⟩) (hd : Nat.blt d N = true) (hg : Gd ops ρ g true) (hr : Rd P ρ S op ty v) (k : XP P N ops S z pl (upd ρ d v) h K) : XP P N ops S z ((i, .rd) :: pl) ρ h K :=
  XP.rdG hi hd (fun a he => .inl ⟨hg.wanted he, fun w' hw' => by rw [he.eval]; exact hr.out _ _ _ _ w' hw'⟩) k
theorem XP.pu {ops : Array Oper} {S : Heap → Prop} {z : List Nat} {i d : Nat} {pl : List (Nat × Kd)} {op : Op} {ty : TypeId} {pos : String} {af : Array Edge} {g : Option (Nat × Bool)} {v : Value} (hi : ops[i]? = some ⟨some d, op, ty, pos, af, g⟩) (hd : Nat.blt d N = true)
    (hy : ∀ a, EnvOf N a ρ → YieldsIf P ops (fun _ => True) ⟨some d, op, ty, pos, af, g⟩ v a) (k : XP P N ops S z pl (upd ρ d v) h K) : XP P N ops S z ((i, .pu) :: pl) ρ h K := by
  refine ⟨fun fuel listed w0 a w hv hs hcl hsm hh he hS => ?_⟩
  cases fuel with
  | zero => simp [validFrom] at hv
  | succ fuel =>
    simp only [validFrom, Bool.and_eq_true] at hv
    have hk := k.out fuel _ w0 (a.put (some d) v) w hv.2 hs (hcl.set (by simpa using hv.1.2)) hsm hh (he.put hd v) (hS.imp (fun hl => by simpa [late] using hl) id)
    exact wpAnyZ_pure hi (Region.noSelect_spec hs) (fun c a' w' hq => hq) fuel listed a w (Region.free_spec hi hv.1.1) (by simpa using hv.1.2) hcl (hy a he) hk
theorem XP.puR {ops : Array Oper} {S : Heap → Prop} {z : List Nat} {i d : Nat} {pl : List (Nat × Kd)} {op : Op} {ty : TypeId} {pos : String} {af : Array Edge} {g : Option (Nat × Bool)} {v : Value} (hi : ops[i]? = some ⟨some d, op, ty, pos, af, g⟩) (hd : Nat.blt d N = true) (hg : Gd ops ρ g true) (hr : Rd P ρ (fun _ => True) op ty v) (k : XP P N ops S z pl (upd ρ d v) h K) : XP P N ops S z ((i, .pu) :: pl) ρ h K :=
  XP.pu hi hd (fun a he => .inl ⟨hg.wanted he, fun w' _ => by rw [he.eval]; exact hr.out _ _ _ _ w' trivial⟩) k
theorem XP.puOff {ops : Array Oper} {S : Heap → Prop} {z : List Nat} {i d : Nat} {pl : List (Nat × Kd)} {op : Op} {ty : TypeId} {pos : String} {af : Array Edge} {g : Option (Nat × Bool)} (hi : ops[i]? = some ⟨some d, op, ty, pos, af, g⟩) (hd : Nat.blt d N = true) (hg : Gd ops ρ g false) (k : XP P N ops S z pl (upd ρ d undef) h K) : XP P N ops S z ((i, .pu) :: pl) ρ h K :=
  XP.pu hi hd (fun a he => .inr ⟨hg.wanted he, rfl⟩) k
theorem XP.off {ops : Array Oper} {S : Heap → Prop} {z : List Nat} {i d : Nat} {pl : List (Nat × Kd)} {op : Op} {ty : TypeId} {pos : String} {af : Array Edge} {g : Option (Nat × Bool)} (hi : ops[i]? = some ⟨some d, op, ty, pos, af, g⟩) (hd : Nat.blt d N = true) (hg : Gd ops ρ g false) (k : XP P N ops S z pl (upd ρ d undef) h K) : XP P N ops S z ((i, .rd) :: pl) ρ h K :=
  XP.rdG hi hd (fun a he => .inr ⟨hg.wanted he, rfl⟩) k
theorem XP.wrG {ops : Array Oper} {S : Heap → Prop} {z : List Nat} {i : Nat} {d : Option Nat} {pl : List (Nat × Kd)} {op : Op} {ty : TypeId} {pos : String} {af : Array Edge} {g : Option (Nat × Bool)} {R : Value → Heap → Prop} {pk : List PanicEntry → Heap → Prop}
    (hi : ops[i]? = some ⟨d, op, ty, pos, af, g⟩) (hd : dstOk N d = true) (hg : Gd ops ρ g true) (hr : Wr P ρ h op ty R pk) (k : ∀ v h', R v h' → ((z.contains i = true ∧ late z pl = true) ∨ S h') ∧ XP P N ops S z pl (updO ρ d v) h' K) (kp : ∀ c h', pk c h' → K (.panic c) ρ h') : XP P N ops S z ((i, .wr) :: pl) ρ h K := by
  refine ⟨fun fuel listed w0 a w hv hs hcl hsm hh he hS => ?_⟩
  cases fuel with
  | zero => simp [validFrom] at hv
  | succ fuel =>
    simp only [validFrom, Bool.and_eq_true] at hv
    have hrd : Region.ready .any ops listed = [i] := by simpa using hv.1
    refine ⟨fun h0 => (by rw [hrd] at h0; cases h0), fun j hj => ?_⟩
    rw [hrd, List.mem_singleton] at hj
    subst hj
    unfold wpOp
    simp only [hi, hg.wanted he, if_true]
    refine .inl (hr.out d pos af g a w _ _ he.eval hh (fun v w' h2 h3 => ?_) (fun c w' h2 h3 => ⟨rfl, hsm.trans h2, ρ, trivial, kp c _ h3⟩))
    obtain ⟨hS', hk⟩ := k v _ h3
    have := hk.out fuel _ w0 (a.put d v) w' hv.2 hs (hcl.set (by rw [hrd]; simp)) (hsm.trans h2) rfl (he.putO hd v) (hS'.imp (·.2) id)
    rw [put_defers] at this
    exact ⟨hS'.imp (·.1) (fun h _ => h), this⟩
theorem XP.wr {ops : Array Oper} {S : Heap → Prop} {z : List Nat} {i : Nat} {d : Option Nat} {pl : List (Nat × Kd)} {op : Op} {ty : TypeId} {pos : String} {af : Array Edge} {g : Option (Nat × Bool)} {R : Value → Heap → Prop} {pk : List PanicEntry → Heap → Prop}
    (hi : ops[i]? = some ⟨d, op, ty, pos, af, g⟩) (hd : dstOk N d = true) (hg : Gd ops ρ g true) (hr : Wr P ρ h op ty R pk) (k : ∀ v h', R v h' → S h' ∧ XP P N ops S z pl (updO ρ d v) h' K) (kp : ∀ c h', pk c h' → K (.panic c) ρ h') : XP P N ops S z ((i, .wr) :: pl) ρ h K :=
  XP.wrG hi hd hg hr (fun v h' hR => ⟨.inr (k v h' hR).1, (k v h' hR).2⟩) kp
theorem XP.wr0 {ops : Array Oper} {S : Heap → Prop} {z : List Nat} {i : Nat} {d : Option Nat} {pl : List (Nat × Kd)} {op : Op} {ty : TypeId} {pos : String} {af : Array Edge} {g : Option (Nat × Bool)} {R : Value → Heap → Prop}
    (hi : ops[i]? = some ⟨d, op, ty, pos, af, g⟩) (hd : dstOk N d = true) (hg : Gd ops ρ g true) (hr : Wr P ρ h op ty R noP) (k : ∀ v h', R v h' → S h' ∧ XP P N ops S z pl (updO ρ d v) h' K) : XP P N ops S z ((i, .wr) :: pl) ρ h K := XP.wr hi hd hg hr k (fun _ _ hp => hp.elim)
/-- The last operation: S need not hold behind it. -/
theorem XP.wrZ {ops : Array Oper} {S : Heap → Prop} {i : Nat} {d : Option Nat} {op : Op} {ty : TypeId} {pos : String} {af : Array Edge} {g : Option (Nat × Bool)} {R : Value → Heap → Prop}
    (hi : ops[i]? = some ⟨d, op, ty, pos, af, g⟩) (hd : dstOk N d = true) (hg : Gd ops ρ g true) (hr : Wr P ρ h op ty R noP) (k : ∀ v h', R v h' → K .normal (updO ρ d v) h') : XP P N ops S [i] [(i, .wr)] ρ h K := XP.wrG hi hd hg hr (fun v h' hR => ⟨.inl ⟨by simp, rfl⟩, XP.nil (k v h' hR)⟩) (fun _ _ hp => hp.elim)
/-- A writer that its guard does not let. -/
theorem XP.offW {ops : Array Oper} {S : Heap → Prop} {z : List Nat} {i : Nat} {d : Option Nat} {pl : List (Nat × Kd)} {op : Op} {ty : TypeId} {pos : String} {af : Array Edge} {g : Option (Nat × Bool)}
    (hi : ops[i]? = some ⟨d, op, ty, pos, af, g⟩) (hd : dstOk N d = true) (hg : Gd ops ρ g false) (k : XP P N ops S z pl (updO ρ d undef) h K) : XP P N ops S z ((i, .wr) :: pl) ρ h K := by
  refine ⟨fun fuel listed w0 a w hv hs hcl hsm hh he hS => ?_⟩
  cases fuel with
  | zero => simp [validFrom] at hv
  | succ fuel =>
    simp only [validFrom, Bool.and_eq_true] at hv
    have hrd : Region.ready .any ops listed = [i] := by simpa using hv.1
    refine ⟨fun h0 => (by rw [hrd] at h0; cases h0), fun j hj => ?_⟩
    rw [hrd, List.mem_singleton] at hj
    subst hj
    unfold wpOp
    simp only [hi, hg.wanted he]
    have := k.out fuel _ w0 (a.put d undef) w hv.2 hs (hcl.set (by rw [hrd]; simp)) hsm hh (he.putO hd _) (hS.imp (fun hl => by simp only [late, List.all_cons, Bool.and_eq_true] at hl ⊢; exact hl.2) id)
    rw [put_defers] at this
    exact ⟨hS.imp (fun hl => by simp only [late, List.all_cons, Bool.and_eq_true] at hl; exact hl.1) (fun _ h => h), this⟩
theorem draw {id : Nat} {ops : Array Oper} (hm : P.follows .mixedOrders = true) (S : Heap → Prop) (z : List Nat) (pl : List (Nat × Kd)) (hv : (validFrom ops z pl ops.size (Array.replicate ops.size false) && Region.noSelect ops) = true) (hS : S h) (hx : XP P N ops S z pl ρ h K) : X P N (.region id ops true) ρ h K := by
  refine ⟨fun w0 a w hs hh he => ?_⟩
  simp only [Bool.and_eq_true] at hv
  refine wp_region_any hm (wpAny_of_Z (S := fun w => S w.heap) (z := z) _ _ _ _ ?_)
  exact hx.out ops.size _ w0 a _ hv.1 hv.2 (fun j oj _ hl => by simp [Array.getElem?_replicate] at hl; split at hl <;> simp at hl) (hs.trans ⟨rfl, rfl, rfl⟩) hh he (.inr hS)

/-! append to a list of one's own -/
/-- v is a slice with n elements (xs: their cells) of which the block, if it has one, is F's. -/
structure Own (h : Heap) (e : TypeId) (size : Nat) (v : Value) (n : Nat) (xs : List Value) (F : Nat → Prop) : Prop where
  len : xs.length = n * size
  alt : ((v = .slice none 0 0 ∧ n = 0) ∨
    ∃ g cap cur, v = .slice (some ⟨g, 0, none⟩) n cap ∧ F g ∧ Blk h g cur e ∧ n ≤ cap ∧ cap ≤ maxLen ∧ cap * size ≤ cur.length ∧ cur.take (n * size) = xs)
theorem Own.nil (h : Heap) (e : TypeId) (size : Nat) (F : Nat → Prop) : Own h e size (.slice none 0 0) 0 [] F := ⟨by simp, .inl ⟨rfl, rfl⟩⟩
/-- All blocks are as they were but for that one. -/
structure But (h h' : Heap) (row : Option Nat) : Prop where
  size : h.size ≤ h'.size
  get : ∀ k, k < h.size → some k ≠ row → h'[k]? = h[k]?
theorem But.ext {h' : Heap} (hb : But h h' none) : Ext h h' := ⟨hb.size, fun k hk => hb.get k hk (by simp)⟩
theorem Wr.append {T e : TypeId} {x y : Operand} {ty : TypeId} {r re : Ty} {v : Value} {n m c g o : Nat} {xs news : List Value} {F : Nat → Prop} (hT : tyOf P T = some r) (hk : r.k = .slice e) (hE : tyOf P e = some re) (hz : re.zero.length = re.size)
    (hown : Own h e re.size v n xs F) (hs : ev ρ x = v) (hrow : Row h g o news) (hy : ev ρ y = .slice (some ⟨g, o, none⟩) m c) (hl : news.length = m * re.size) (h1 : ones news) (hm : 0 < m) (h63 : n + m ≤ maxLen) (hb : (n + m) * re.bytes ≤ 140737488355328) :
    Wr P ρ h (.call { callee := .builtin .append, args := #[x, y], argTypes := #[T, T] }) ty (fun v' h' => Own h' e re.size v' (n + m) (xs ++ news) (fun k => F k ∨ h.size ≤ k) ∧ But h h' v.ownBlock ∧ (v'.ownBlock = v.ownBlock ∨ ∃ k, v'.ownBlock = some k ∧ h.size ≤ k)) noP := by
  refine Wr.run fun d pos af gd w hw => ?_
  obtain ⟨dd, i, z, e1, e2, -⟩ := tyOf_spec hT
  obtain ⟨dd', i', z', e1', e2', e3', e4', e5', e6', e7'⟩ := tyOf_spec hE
  rw [hk] at e2
  cases dd <;> simp [kindOf] at e2
  rw [e2] at e1
  clear e2
  have hcell : ∀ j u, news[j]? = some u → w.cell? ((⟨g, o, none⟩ : Addr).add j) = some u := fun j u hu => by rw [addr_add]; exact (hrow.cel hu).cell hw
  have hzs : z'.cells.size = re.size := by rw [← Array.length_toList, e7', hz]
  have hsmall : n + m ≤ 9223372036854775807 := by simp only [maxLen] at h63; omega
  have hlen : (xs ++ news).length = (n + m) * re.size := by rw [List.length_append, hown.len, hl, Nat.add_mul]
  have grown : ∀ (old : Nat), old < n + m → ∀ (row : Option Nat),
      Own (w.drew.alloc (.cells (xs.toArray ++ news.toArray ++ Builtin.zeroCells z'.cells (grownCap w (n + m) old e - (n + m))) e)).heap e re.size
        (.slice (some ⟨w.heap.size, 0, none⟩) (n + m) (grownCap w (n + m) old e)) (n + m) (xs ++ news) (fun k => F k ∨ h.size ≤ k) ∧
      But h (w.drew.alloc (.cells (xs.toArray ++ news.toArray ++ Builtin.zeroCells z'.cells (grownCap w (n + m) old e - (n + m))) e)).heap row := by
    intro old ho row
    have hge := grownCap_ge w (n + m) old e
    have hcm : grownCap w (n + m) old e ≤ maxLen := grownCap_le_maxLen w (n + m) old e h63
    refine ⟨⟨hlen, .inr ⟨w.heap.size, _, (xs.toArray ++ news.toArray ++ Builtin.zeroCells z'.cells (grownCap w (n + m) old e - (n + m))).toList, rfl, .inr (by rw [← hw]; exact Nat.le_refl _), ?_, hge, hcm, ?_, ?_⟩⟩, ⟨by rw [← hw]; simp [World.alloc], fun k hk _ => by rw [← hw] at hk ⊢; exact get_push_old hk⟩⟩
    · exact ⟨by rw [Array.toArray_toList]; exact get_push_new rfl⟩
    · simp only [Array.length_toList, Array.size_append, List.size_toArray, size_zeroCells, hzs, hown.len, hl, ← Nat.add_mul]
      apply Nat.mul_le_mul_right
      omega
    · simp only [Array.toList_append, List.append_assoc]
      rw [← List.append_assoc, ← hlen]
      exact List.take_left
  have hexec : ∀ v' w', (Builtin.append_ #[T, T] ty #[v, .slice (some ⟨g, o, none⟩) m c]).run P w = .ok v' w' → (execOp (ev ρ) ⟨d, .call { callee := .builtin .append, args := #[x, y], argTypes := #[T, T] }, ty, pos, af, gd⟩).run P w = .ok (.value v') w' := fun v' w' hr => by
    simp only [execOp, resolve, invoke, builtin, Sem.run_bind, Sem.run_pure, Result.andThen_ok, List.map_toArray, List.map_cons, List.map_nil, hs, hy, hr]
  have hl' : news.length = m * i'.size := by rw [e4']; exact hl
  rcases hown.alt with ⟨rfl, rfl⟩ | ⟨gg, cap, cur, rfl, hF, hg, hnc, hcm, hcs, htake⟩
  · have hx : xs = [] := List.eq_nil_of_length_eq_zero (by simpa using hown.len)
    subst hx
    have hr := run_append_nil (P := P) w T ty e i' z' e1 e3' e6' ⟨g, o, none⟩ m c news hl' hcell (by omega) (by omega) (by rw [e5']; have := hb; simp only [Nat.zero_add] at this; omega)
    have hgr := grown 0 (by omega) (Value.ownBlock (.slice none 0 0))
    simp only [Nat.zero_add, List.nil_append, Array.empty_append] at hgr ⊢
    exact ⟨_, _, hexec _ _ hr, ⟨rfl, rfl, rfl⟩, hgr.1, hgr.2, .inr ⟨_, rfl, by rw [← hw]; exact Nat.le_refl _⟩⟩
  · have hgw : w.heap[gg]? = some (.cells cur.toArray e (0, 0)) := by rw [hw]; exact hg.get
    by_cases hroom : n + m ≤ cap
    · have hfit : n * i'.size + news.length ≤ cur.toArray.size := by
        have hq : (n + m) * re.size ≤ cap * re.size := Nat.mul_le_mul_right _ hroom
        rw [hl, e4', ← Nat.add_mul]; simp; omega
      have hr := run_append_room (P := P) w T ty e i' e1 e3' gg n cap cur.toArray hgw ⟨g, o, none⟩ m c news hl' hcell h1 hroom hfit
      refine ⟨_, _, hexec _ _ hr, ⟨rfl, rfl, rfl⟩, ⟨hlen, .inr ⟨gg, cap, cur.take (n * i'.size) ++ news ++ cur.drop (n * i'.size + news.length), rfl, .inl hF, ?_, hroom, hcm, ?_, ?_⟩⟩, ⟨by rw [← hw]; simp, fun k _ hk => ?_⟩, .inl rfl⟩
      · exact ⟨setRow_heap w gg cur.toArray _ e _ hgw⟩
      · simp at hfit; simp only [List.length_append, List.length_take, List.length_drop]; omega
      · rw [e4'] at *
        rw [htake, ← hlen]
        exact List.take_left
      · rw [← hw]; exact setRow_other w gg k _ (fun e => hk (by simp [Value.ownBlock, e]))
    · have holds : ∀ j u, xs[j]? = some u → w.cell? ((⟨gg, 0, none⟩ : Addr).add j) = some u := fun j u hu => by
        rw [addr_add]
        rw [← htake] at hu
        have hc : cur[j]? = some u := by
          rw [List.getElem?_take] at hu
          split at hu
          · exact hu
          · cases hu
        simp [World.cell?, hgw, hc]
      have hr := run_append_grow (P := P) w T ty e i' z' e1 e3' e6' ⟨gg, 0, none⟩ n cap xs (by rw [e4']; exact hown.len) holds ⟨g, o, none⟩ m c news hl' hcell (by omega) (by omega) (growslice_fits (by omega) (by rw [e5']; exact hb))
      have hgr := grown cap (by omega) (Value.ownBlock (.slice (some ⟨gg, 0, none⟩) n cap))
      exact ⟨_, _, hexec _ _ hr, ⟨rfl, rfl, rfl⟩, hgr.1, hgr.2, .inr ⟨_, rfl, by rw [← hw]; exact Nat.le_refl _⟩⟩

theorem Wr.append1 {T e : TypeId} {x y : Operand} {ty : TypeId} {r re : Ty} {v : Value} {n c g o : Nat} {xs news : List Value} {F : Nat → Prop} (hT : tyOf P T = some r) (hk : r.k = .slice e) (hE : tyOf P e = some re) (hz : re.zero.length = re.size)
    (hown : Own h e re.size v n xs F) (hs : ev ρ x = v) (hy : ev ρ y = .slice (some ⟨g, o, none⟩) 1 c) (hrow : Row h g o news) (hl : news.length = re.size) (h1 : ones news) (h63 : n + 1 ≤ maxLen) (hb : (n + 1) * re.bytes ≤ 140737488355328) :
    Wr P ρ h (.call { callee := .builtin .append, args := #[x, y], argTypes := #[T, T] }) ty (fun v' h' => Own h' e re.size v' (n + 1) (xs ++ news) (fun k => F k ∨ h.size ≤ k) ∧ But h h' v.ownBlock ∧ (v'.ownBlock = v.ownBlock ∨ ∃ k, v'.ownBlock = some k ∧ h.size ≤ k)) noP :=
  Wr.append hT hk hE hz hown hs hrow hy (by omega) h1 (by omega) h63 hb
/-! literals of structs, arrays, slices -/
theorem fold_set (l : List Value) : ∀ (k o : Nat) (acc : Array Value), o + k + l.length ≤ acc.size → ((l.zipIdx k).foldl (fun (a : Array Value) (p : Value × Nat) => a.setIfInBounds (o + p.2) p.1) acc).toList = acc.toList.take (o + k) ++ l ++ acc.toList.drop (o + k + l.length) := by
  induction l with
  | nil => intro k o acc hk; simp
  | cons c cs ih =>
    intro k o acc hk
    simp only [List.length_cons] at hk
    simp only [List.zipIdx_cons, List.foldl_cons]
    rw [ih (k + 1) o _ (by simp; omega)]
    simp only [Array.toList_setIfInBounds, List.length_cons]
    have := list_seg_step acc.toList (o + k) c cs (by simp; omega)
    simpa [Nat.add_assoc, Nat.add_comm 1] using this
/-- The cells of a literal. -/
def bld (place : Nat → Option (Nat × Nat)) : List (Nat × Value) → List Value → Option (List Value)
  | [], z => some z
  | (i, v) :: ps, z => match place i with
    | some (off, sz) => if v.cells.size = sz ∧ off + sz ≤ z.length then bld place ps (splice z off v.cells.toList) else none
    | none => none
theorem fill_bld (place : Nat → Option (Nat × Nat)) : ∀ (ps : List (Nat × Value)) (z cs : List Value), bld place ps z = some cs → Instr.fill place z.toArray ps = some cs.toArray
  | [], z, cs, hb => by simp only [bld, Option.some.injEq] at hb; subst hb; rfl
  | (i, v) :: ps, z, cs, hb => by
    simp only [bld] at hb
    simp only [Instr.fill]
    cases hp : place i with
    | none => rw [hp] at hb; cases hb
    | some q =>
      obtain ⟨off, sz⟩ := q
      rw [hp] at hb
      simp only at hb ⊢
      split at hb
      · rename_i hc
        rw [if_neg (by simp; omega)]
        have e : Array.foldl (fun (cs : Array Value) (p : Value × Nat) => cs.setIfInBounds (off + p.2) p.1) z.toArray v.cells.zipIdx = (splice z off v.cells.toList).toArray := by
          apply Array.ext'
          rw [← Array.foldl_toList]
          have := fold_set v.cells.toList 0 off z.toArray (by simp; omega)
          simp only [Nat.add_zero, Array.toList_zipIdx] at this ⊢
          rw [this]; rfl
        have ih := fill_bld place ps _ cs hb
        rw [← e] at ih
        exact ih
      · cases hb
def places (tb : Nat → Option Ty) (fs : List (TypeId × Nat)) : Option (List (Nat × Nat)) := fs.mapM fun p => (tb p.1).map fun r => (p.2, r.size)
theorem run_places {tb : Nat → Option Ty} (htb : ∀ T r, tb T = some r → tyOf P T = some r) (w : World) : ∀ (fs : List Field) (pl : List (Nat × Nat)), places tb (fs.map fun f => (f.type, f.offset)) = some pl →
    ((fs.mapM fun f => do pure (f.offset, ← sizeOf f.type) : Sem (List (Nat × Nat)))).run P w = .ok pl w := by
  intro fs
  induction fs with
  | nil => intro pl hp; simp [places] at hp; subst hp; rfl
  | cons f fs ih =>
    intro pl hp
    simp only [places, List.map_cons, List.mapM_cons, Option.bind_eq_bind, Option.pure_def, Option.bind_eq_some_iff, Option.some.injEq, Option.map_eq_some_iff] at hp
    obtain ⟨q, ⟨r, hr, rfl⟩, pl', hpl, rfl⟩ := hp
    obtain ⟨dd, i, z, e1, e2, e3, e4, -⟩ := tyOf_spec (htb _ _ hr)
    have hi := ih pl' hpl
    have hsz : (sizeOf f.type).run P w = .ok r.size w := by simp [sizeOf, typeInfo, e3, e4]
    simp only [List.mapM_cons, Sem.run_bind, hsz, Result.andThen_ok, Sem.run_pure, hi]
section
variable {S : Heap → Prop} {ty : TypeId}
theorem Rd.build {T : TypeId} {tb : Nat → Option Ty} {parts : List (Nat × Operand)} {ps : List (Nat × Value)} {r : Ty} {fs : List (TypeId × Nat)} {pl : List (Nat × Nat)} {cs : List Value} (htb : ∀ T r, tb T = some r → tyOf P T = some r) (hT : tb T = some r) (hk : r.k = .struct fs) (hpl : places tb fs = some pl)
    (hp : (parts.map fun p => (p.1, ev ρ p.2)) = ps) (hb : bld (pl[·]?) ps r.zero = some cs) : Rd P ρ S (.build T parts.toArray) ty (.agg cs.toArray) := by
  refine .pure fun d pos af gd w => ?_
  obtain ⟨dd, i, z, e1, e2, e3, e4, e5, e6, e7⟩ := tyOf_spec (htb _ _ hT)
  rw [hk] at e2
  cases dd <;> simp [kindOf] at e2
  rename_i fields
  subst e2
  have hz : z.cells = r.zero.toArray := by rw [← e7]
  have hf := fill_bld _ ps r.zero cs hb
  have hp' : Array.map (fun (i, x) => (i, ev ρ x)) parts.toArray = ps.toArray := by rw [← hp]; simp
  have hm : ((fields.mapM fun f => do Pure.pure (f.offset, ← sizeOf f.type) : Sem (Array (Nat × Nat)))).run P w = .ok pl.toArray w := by
    have := run_places htb w fields.toList pl hpl
    rw [Array.mapM_eq_mapM_toList, Sem.run_map, this]; rfl
  simp only [execOp, Instr.build, Sem.run_bind, zeroValue, typeInfo]
  simp only [Sem.run_bind, run_program, Result.andThen_ok, e3, Sem.run_pure, e6, run_underlying e1, hp', hz]
  simp only [Sem.run_bind, hm, Result.andThen_ok]
  have hfun : (fun x : Nat => pl.toArray[x]?) = (fun x : Nat => pl[x]?) := by funext x; simp
  simp [hfun, hf]
theorem Rd.buildA {T : TypeId} {tb : Nat → Option Ty} {parts : List (Nat × Operand)} {ps : List (Nat × Value)} {r re : Ty} {n e : Nat} {cs : List Value} (htb : ∀ T r, tb T = some r → tyOf P T = some r) (hT : tb T = some r) (hk : r.k = .array n e) (hE : tb e = some re)
    (hp : (parts.map fun p => (p.1, ev ρ p.2)) = ps) (hb : bld (fun i => some (i * re.size, re.size)) ps r.zero = some cs) : Rd P ρ S (.build T parts.toArray) ty (.agg cs.toArray) := by
  refine .pure fun d pos af gd w => ?_
  obtain ⟨dd, i, z, e1, e2, e3, e4, e5, e6, e7⟩ := tyOf_spec (htb _ _ hT)
  obtain ⟨dd', i', z', e1', e2', e3', e4', -⟩ := tyOf_spec (htb _ _ hE)
  rw [hk] at e2
  cases dd <;> simp [kindOf] at e2
  have he := e2.2
  have hz : z.cells = r.zero.toArray := by rw [← e7]
  have hf := fill_bld _ ps r.zero cs hb
  have hp' : Array.map (fun (i, x) => (i, ev ρ x)) parts.toArray = ps.toArray := by rw [← hp]; simp
  have hsz : ∀ E, E = e → (sizeOf E).run P w = .ok re.size w := by rintro _ rfl; simp [sizeOf, typeInfo, e3', e4']
  simp only [execOp, Instr.build, Sem.run_bind, zeroValue, typeInfo]
  simp only [Sem.run_bind, run_program, Result.andThen_ok, e3, Sem.run_pure, e6, run_underlying e1, hp', hz]
  rw [hsz _ he]
  simp [hf]
theorem Wr.buildSlice {T e len n : Nat} {tb : Nat → Option Ty} {parts : List (Nat × Operand)} {ps : List (Nat × Value)} {r re : Ty} {cs : List Value} (htb : ∀ T r, tb T = some r → tyOf P T = some r) (hT : tb T = some r) (hk : r.k = .slice e) (hE : tb e = some re) (hn : h.size = n) (hz : re.zero.length = re.size)
    (hsm : Nat.ble (len * re.size) 16777216 = true) (hp : (parts.map fun p => (p.1, ev ρ p.2)) = ps) (hb : bld (fun i => some (i * re.size, re.size)) ps ((List.range (len * re.size)).map fun k => re.zero.getD (k % re.size) undef) = some cs) :
    Wr P ρ h (.buildSlice T len parts.toArray) ty (fun v' h' => v' = .slice (some ⟨n, 0, none⟩) len len ∧ h' = h.push (.cells cs.toArray e (0, 0))) noP := by
  subst hn
  refine Wr.run fun d pos af gd w hw => ?_
  obtain ⟨dd, i, z, e1, e2, -⟩ := tyOf_spec (htb _ _ hT)
  obtain ⟨dd', i', z', e1', e2', e3', e4', e5', e6', e7'⟩ := tyOf_spec (htb _ _ hE)
  have hsm' := Nat.le_of_ble_eq_true hsm
  rw [hk] at e2
  cases dd <;> simp [kindOf] at e2
  rw [e2] at e1
  clear e2
  have hzs : z'.cells.size = re.size := by rw [← Array.length_toList, e7', hz]
  have hp' : Array.map (fun (i, x) => (i, ev ρ x)) parts.toArray = ps.toArray := by rw [← hp]; simp
  have hf := fill_bld _ ps _ cs hb
  have hzero : ∀ zz : Array Value, (zz = z'.cells ∨ len * re.size = 0) → (Array.range (len * re.size)).map (fun k => zz[k % zz.size]!) = ((List.range (len * re.size)).map fun k => re.zero.getD (k % re.size) undef).toArray := by
    intro zz hzz
    apply Array.ext'
    rcases hzz with rfl | h0
    · simp only [Array.toList_map, Array.toList_range, hzs]
      apply List.map_congr_left
      intro k hk
      have hlt : k % re.size < re.size := Nat.mod_lt _ (by
        rcases Nat.eq_zero_or_pos re.size with h0 | h0
        · rw [h0, Nat.mul_zero] at hk; simp at hk
        · exact h0)
      rw [← e7']
      have hlt' : k % re.size < z'.cells.size := by rw [hzs]; exact hlt
      simp [getElem!_pos, hlt', List.getD_eq_getElem?_getD]
    · rw [h0]; simp
  refine ⟨_, w.alloc (.cells cs.toArray e (0, 0)), ?_, ⟨rfl, rfl, rfl⟩, rfl, by rw [← hw]; rfl⟩
  simp only [execOp, Instr.buildSlice, Sem.run_bind, run_underlying e1, Result.andThen_ok, hp', sizeOf, typeInfo, run_program, e3', e4', Sem.run_pure, zeroValue, e6']
  rw [if_neg (by omega)]
  by_cases h0 : len * re.size = 0
  · have hf' := hf
    rw [← hzero #[] (.inr h0)] at hf'
    rw [if_pos h0]
    simp only [Sem.run_bind, Sem.run_pure, Result.andThen_ok]
    rw [hf']
    simp [newRow, hw]
  · have hf' := hf
    rw [← hzero z'.cells (.inl rfl)] at hf'
    rw [if_neg h0]
    simp only [Sem.run_bind, Sem.run_pure, Result.andThen_ok, run_program, e3', e6']
    rw [hf']
    simp [newRow, hw]
/-! parts of lists; lists held against nil -/
theorem Rd.sliceArr {T : TypeId} {x : Operand} {r re : Ty} {n e g o : Nat} (hT : tyOf P T = some r) (hk : r.k = .array n e) (hE : tyOf P e = some re) (hx : ev ρ x = .pointer (some ⟨g, o, none⟩)) : Rd P ρ S (.slice T x none none none) ty (.slice (some ⟨g, o, none⟩) n n) := by
  refine .pure fun d pos af gd w => ?_
  obtain ⟨dd, i, z, e1, e2, -⟩ := tyOf_spec hT
  obtain ⟨dd', i', z', e1', e2', e3', e4', -⟩ := tyOf_spec hE
  rw [hk] at e2
  cases dd <;> simp [kindOf] at e2
  obtain ⟨rfl, rfl⟩ := e2
  simp [execOp, Instr.sliceAt, run_underlying e1, hx, Instr.sureAddr, Instr.sliceBounds, sizeOf, typeInfo, e3', addr_add]
/-- A part of a list, from l to hh, with room up to m. -/
theorem Rd.slicePart {T : TypeId} {x : Operand} {lo hi mx : Option Operand} {r re : Ty} {e len cap l hh m : Nat} {a : Option Addr} (hT : tyOf P T = some r) (hk : r.k = .slice e) (hE : tyOf P e = some re) (hx : ev ρ x = .slice a len cap)
    (hb : ∀ w, (Instr.sliceBounds true len cap (lo.map (ev ρ)) (hi.map (ev ρ)) (mx.map (ev ρ))).run P w = .ok (l, hh, m) w) : Rd P ρ S (.slice T x lo hi mx) ty (.slice (if m = l then a else a.map (·.add (l * re.size))) (hh - l) (m - l)) := by
  refine .pure fun d pos af gd w => ?_
  obtain ⟨dd, i, z, e1, e2, -⟩ := tyOf_spec hT
  obtain ⟨dd', i', z', e1', e2', e3', e4', -⟩ := tyOf_spec hE
  rw [hk] at e2
  cases dd <;> simp [kindOf] at e2
  rw [e2] at e1
  have hs : (sizeOf e).run P w = .ok re.size w := by simp [sizeOf, typeInfo, e3', e4']
  simp only [execOp, Instr.sliceAt, Sem.run_bind, run_underlying e1, Result.andThen_ok, hx, Instr.slice, hb w, hs, Sem.run_pure]
theorem bound_ok {y : Nat} {c : BoundsCode} {kk : IntKind} {i : Int} (h0 : 0 ≤ i) (h1 : i ≤ y) (w : World) : (Instr.sliceBound (.int kk i) y c).run P w = .ok i.toNat w := by
  simp [Instr.sliceBound, asIntOf, h0, h1]
theorem Rd.sliceFrom {T : TypeId} {x y : Operand} {r re : Ty} {e len cap g o : Nat} {i : Int} {kk : IntKind} (hT : tyOf P T = some r) (hk : r.k = .slice e) (hE : tyOf P e = some re) (hx : ev ρ x = .slice (some ⟨g, o, none⟩) len cap) (hy : ev ρ y = .int kk i) (hi : 0 ≤ i ∧ i ≤ len) (hc : i.toNat < cap) : Rd P ρ S (.slice T x (some y) none none) ty (.slice (some ⟨g, o + i.toNat * re.size, none⟩) (len - i.toNat) (cap - i.toNat)) := by
  have h := Rd.slicePart (P := P) (ρ := ρ) (S := S) (ty := ty) (lo := some y) (hi := none) (mx := none) (l := i.toNat) (hh := len) (m := cap) hT hk hE hx (fun w => by simp [Instr.sliceBounds, hy, bound_ok hi.1 hi.2])
  rw [if_neg (by omega)] at h
  simpa [addr_add] using h
theorem Rd.sliceTo {T : TypeId} {x y : Operand} {r re : Ty} {e len cap : Nat} {a : Option Addr} {i : Int} {kk : IntKind} (hT : tyOf P T = some r) (hk : r.k = .slice e) (hE : tyOf P e = some re) (hx : ev ρ x = .slice a len cap) (hy : ev ρ y = .int kk i) (hi : 0 ≤ i ∧ i ≤ cap) : Rd P ρ S (.slice T x none (some y) none) ty (.slice a i.toNat cap) := by
  have h := Rd.slicePart (P := P) (ρ := ρ) (S := S) (ty := ty) (lo := none) (hi := some y) (mx := none) (l := 0) (hh := i.toNat) (m := cap) hT hk hE hx (fun w => by simp [Instr.sliceBounds, hy, bound_ok hi.1 hi.2])
  have e1 : (if cap = 0 then a else a.map fun x => x.add (0 * re.size)) = a := by split <;> simp [Addr.add]
  rw [e1] at h
  simpa using h
theorem Rd.sliceTo3 {T : TypeId} {x y y' : Operand} {r re : Ty} {e len cap : Nat} {a : Option Addr} {i j : Int} {kk kk' : IntKind} (hT : tyOf P T = some r) (hk : r.k = .slice e) (hE : tyOf P e = some re) (hx : ev ρ x = .slice a len cap) (hy : ev ρ y = .int kk i) (hy' : ev ρ y' = .int kk' j) (hi : 0 ≤ i ∧ i ≤ j) (hj : j ≤ cap) : Rd P ρ S (.slice T x none (some y) (some y')) ty (.slice a i.toNat j.toNat) := by
  have h := Rd.slicePart (P := P) (ρ := ρ) (S := S) (ty := ty) (lo := none) (hi := some y) (mx := some y') (l := 0) (hh := i.toNat) (m := j.toNat) hT hk hE hx (fun w => by
    simp only [Instr.sliceBounds, Option.map_some, Option.map_none, hy, hy', Sem.run_bind, bound_ok (show 0 ≤ j by omega) hj, Result.andThen_ok, Sem.run_pure]
    rw [bound_ok hi.1 (by omega)]; rfl)
  have e1 : (if j.toNat = 0 then a else a.map fun x => x.add (0 * re.size)) = a := by split <;> simp [Addr.add]
  rw [e1] at h
  simpa using h
theorem run_equal_slice {T : TypeId} {r : Ty} {e : TypeId} {a : Option Addr} {n c : Nat} (hT : tyOf P T = some r) (hk : r.k = .slice e) (w : World) : (Op.equal T (.slice a n c) (.slice none 0 0)).run P w = .ok a.isNone w := by
  obtain ⟨dd, i, z, e1, e2, -⟩ := tyOf_spec hT
  rw [hk] at e2
  cases dd <;> simp [kindOf] at e2
  show (Op.equalIn (9999 + 1) T _ _).run P w = _
  rw [Op.equalIn]
  simp only [Sem.run_bind, run_underlying e1, Result.andThen_ok]
  cases a <;> rfl
theorem Rd.eqlNil {T T' : TypeId} {x : Operand} {r : Ty} {e : TypeId} {a : Option Addr} {n c : Nat} (hT : tyOf P T = some r) (hk : r.k = .slice e) (hx : ev ρ x = .slice a n c) : Rd P ρ S (.binOp .eql T x (.const (.slice none 0 0)) T') ty (.bool a.isNone) := by
  refine .pure fun d pos af gd w => ?_
  have h1 := run_equal_slice (P := P) (T := T) (a := a) (n := n) (c := c) hT hk w
  simp only [execOp, eqGuard, hx, ev, binOp, Sem.run_bind]
  simp [h1]
end
end
end X
end Go.Proofs.Ytbbghdkndbpmmaa
