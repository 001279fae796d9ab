/- Regions whose order is drawn and in which two writers may come in either order. -/
import Derived.Test.YtbbghdkndbpmmaaAu
namespace Go.Proofs.Ytbbghdkndbpmmaa
namespace X
open Go
variable {P : Program} {N : Nat} {ρ : Env} {h : Heap} {K : Kont} {ops : Array Oper} {S : Heap → Prop} {z : List Nat}
/-- Are all that have not come late ones? -/
def lateL (z : List Nat) (ops : Array Oper) (listed : Array Bool) : Bool := (List.range ops.size).all fun i => listed.getD i false || z.contains i
structure XQ (P : Program) (N : Nat) (ops : Array Oper) (S : Heap → Prop) (z : List Nat) (fuel : Nat) (listed : Array Bool) (ρ : Env) (h : Heap) (K : Kont) : Prop where
  out : ∀ (w0 : World) (a : Act) (w : World), Region.noSelect ops = true → Closed ops listed → Same w0 w → w.heap = h → EnvOf N a ρ → (lateL z ops listed = true ∨ S h) → wpAnyZ P ops (Post w0 a.defers N K) (fun w => S w.heap) z fuel listed a w
structure XQ1 (P : Program) (N : Nat) (ops : Array Oper) (S : Heap → Prop) (z : List Nat) (fuel : Nat) (listed : Array Bool) (i : Nat) (ρ : Env) (h : Heap) (K : Kont) : Prop where
  out : ∀ (w0 : World) (a : Act) (w : World), Region.noSelect ops = true → Closed ops listed → Same w0 w → w.heap = h → EnvOf N a ρ → (lateL z ops listed = true ∨ S h) → wpOp P ops (Post w0 a.defers N K) i (fun a' w' => (z.contains i = true ∨ (S w.heap → S w'.heap)) ∧ wpAnyZ P ops (Post w0 a.defers N K) (fun w => S w.heap) z fuel (listed.setIfInBounds i true) a' w') a w
theorem XQ.nil {fuel : Nat} {listed : Array Bool} (hr : (Region.ready .any ops listed).isEmpty = true) (hk : K .normal ρ h) : XQ P N ops S z fuel listed ρ h K := by
  refine ⟨fun w0 a w hs hcl hsm hh he hS => ?_⟩
  have hv : Region.ready .any ops listed = [] := by simpa using hr
  have hq : Post w0 a.defers N K .normal a w := ⟨rfl, hsm, ρ, .of he, hh ▸ hk⟩
  cases fuel with
  | zero => exact ⟨hv, hq⟩
  | succ n => exact ⟨fun _ => hq, by rw [hv]; intro i hi; cases hi⟩
theorem XQ.rdG {fuel i d : Nat} {listed listed' : Array Bool} {op : Op} {ty : TypeId} {pos : String} {af : Array Edge} {g : Option (Nat × Bool)} {v : Value} (hi : ops[i]? = some ⟨some d, op, ty, pos, af, g⟩) (hd : Nat.blt d N = true)
    (hv : (Region.free .any ops listed i && (Region.ready .any ops listed).contains i && waitsZ ops z i && !lateL z ops listed) = true) (hl : listed.setIfInBounds i true = listed') (hy : ∀ a, EnvOf N a ρ → YieldsIf P ops (fun w => S w.heap) ⟨some d, op, ty, pos, af, g⟩ v a) (k : XQ P N ops S z fuel listed' (upd ρ d v) h K) : XQ P N ops S z (fuel + 1) listed ρ h K := by
  subst hl
  refine ⟨fun w0 a w hs hcl hsm hh he hS => ?_⟩
  simp only [Bool.and_eq_true] at hv
  have hS' : S h := hS.resolve_left (by simpa using hv.2)
  have hk := k.out w0 (a.put (some d) v) w hs (hcl.set (by simpa using hv.1.1.2)) hsm hh (he.put hd v) (.inr hS')
  exact wpAnyZ_first hi (Region.noSelect_spec hs) (fun c a' w' hq => hq) hv.1.2 fuel listed a w (Region.free_spec hi hv.1.1.1) (by simpa using hv.1.1.2) hcl (hy a he) (by show S w.heap; rw [hh]; exact hS') hk
theorem XQ.pu {fuel i d : Nat} {listed listed' : Array Bool} {op : Op} {ty : TypeId} {pos : String} {af : Array Edge} {g : Option (Nat × Bool)} {v : Value} (hi : ops[i]? = some ⟨some d, op, ty, pos, af, g⟩) (hd : Nat.blt d N = true)
    (hv : (Region.free .any ops listed i && (Region.ready .any ops listed).contains i && (!lateL z ops listed || lateL z ops listed')) = true) (hl : listed.setIfInBounds i true = listed') (hy : ∀ a, EnvOf N a ρ → YieldsIf P ops (fun _ => True) ⟨some d, op, ty, pos, af, g⟩ v a) (k : XQ P N ops S z fuel listed' (upd ρ d v) h K) : XQ P N ops S z (fuel + 1) listed ρ h K := by
  subst hl
  refine ⟨fun w0 a w hs hcl hsm hh he hS => ?_⟩
  simp only [Bool.and_eq_true] at hv
  have hk := k.out w0 (a.put (some d) v) w hs (hcl.set (by simpa using hv.1.2)) hsm hh (he.put hd v) (hS.imp (fun hl => by have := hv.2; rw [hl] at this; simpa using this) id)
  exact wpAnyZ_pure hi (Region.noSelect_spec hs) (fun c a' w' hq => hq) fuel listed a w (Region.free_spec hi hv.1.1) (by simpa using hv.1.2) hcl (hy a he) hk
theorem XQ.w1 {fuel i : Nat} {listed : Array Bool} (hr : (Region.ready .any ops listed == [i]) = true) (k : XQ1 P N ops S z fuel listed i ρ h K) : XQ P N ops S z (fuel + 1) listed ρ h K := by
  have hr' : Region.ready .any ops listed = [i] := by simpa using hr
  refine ⟨fun w0 a w hs hcl hsm hh he hS => ⟨fun e => (by rw [hr'] at e; cases e), fun j hj => ?_⟩⟩
  rw [hr', List.mem_singleton] at hj
  subst hj
  exact k.out w0 a w hs hcl hsm hh he hS
theorem XQ.w2 {fuel i j : Nat} {listed : Array Bool} (hr : (Region.ready .any ops listed == [i, j]) = true) (k1 : XQ1 P N ops S z fuel listed i ρ h K) (k2 : XQ1 P N ops S z fuel listed j ρ h K) : XQ P N ops S z (fuel + 1) listed ρ h K := by
  have hr' : Region.ready .any ops listed = [i, j] := by simpa using hr
  refine ⟨fun w0 a w hs hcl hsm hh he hS => ⟨fun e => (by rw [hr'] at e; cases e), fun q hq => ?_⟩⟩
  rw [hr'] at hq
  simp only [List.mem_cons, List.not_mem_nil, or_false] at hq
  rcases hq with rfl | rfl
  · exact k1.out w0 a w hs hcl hsm hh he hS
  · exact k2.out w0 a w hs hcl hsm hh he hS
theorem XQ1.wr {fuel i : Nat} {listed listed' : Array Bool} {d : Option Nat} {op : Op} {ty : TypeId} {pos : String} {af : Array Edge} {g : Option (Nat × Bool)} {R : Value → Heap → Prop} {pk : List PanicEntry → Heap → Prop}
    (hi : ops[i]? = some ⟨d, op, ty, pos, af, g⟩) (hd : dstOk N d = true) (hg : Gd ops ρ g true) (hrd : (Region.ready .any ops listed).contains i = true) (hl : listed.setIfInBounds i true = listed') (hr : Wr P ρ h op ty R pk)
    (k : ∀ v h', R v h' → ((z.contains i = true ∧ lateL z ops listed' = true) ∨ S h') ∧ XQ P N ops S z fuel listed' (updO ρ d v) h' K) (kp : ∀ c h', pk c h' → K (.panic c) ρ h') : XQ1 P N ops S z fuel listed i ρ h K := by
  subst hl
  refine ⟨fun w0 a w hs hcl hsm hh he hS => ?_⟩
  unfold wpOp
  simp only [hi, hg.wanted he, if_true]
  refine .inl (hr.out d pos af g a w _ _ he.eval hh (fun v w' h2 h3 => ?_) (fun c w' h2 h3 => ⟨rfl, hsm.trans h2, ρ, trivial, kp c _ h3⟩))
  obtain ⟨hS', hk⟩ := k v _ h3
  have := hk.out w0 (a.put d v) w' hs (hcl.set (by simpa using hrd)) (hsm.trans h2) rfl (he.putO hd v) (hS'.imp (·.2) id)
  rw [put_defers] at this
  exact ⟨hS'.imp (·.1) (fun h _ => h), this⟩
theorem drawQ {id : Nat} (hm : P.follows .mixedOrders = true) (S : Heap → Prop) (z : List Nat) (hv : Region.noSelect ops = true) (hS : S h) (hx : XQ P N ops S z ops.size (Array.replicate ops.size false) ρ h K) : X P N (.region id ops true) ρ h K := by
  refine ⟨fun w0 a w hs hh he => ?_⟩
  refine wp_region_any hm (wpAny_of_Z (S := fun w => S w.heap) (z := z) _ _ _ _ ?_)
  exact hx.out w0 a _ hv (fun j oj _ hl => by simp [Array.getElem?_replicate] at hl; split at hl <;> simp at hl) (hs.trans ⟨rfl, rfl, rfl⟩) hh he (.inr hS)
end X
namespace X
variable {P : Program} {N : Nat} {ρ : Env} {σ : PH} {Γ : List HP} {K : KA} {ops : Array Oper} {σ0 : PH} {Γ0 : List HP} {z : List Nat}
/-- (As XPA, but for the order: listed says what has come.) -/
structure XQA (P : Program) (N : Nat) (ops : Array Oper) (σ0 : PH) (Γ0 : List HP) (z : List Nat) (fuel : Nat) (listed : Array Bool) (ρ : Env) (σ : PH) (Γ : List HP) (K : KA) : Prop where
  out : ∀ f h, Holds σ Γ f h → (lateL z ops listed = true ∨ σ0.sub σ ∧ Ent Γ Γ0) → XQ P N ops (Ho σ0 Γ0) z fuel listed ρ h (KF f K)
structure XQA1 (P : Program) (N : Nat) (ops : Array Oper) (σ0 : PH) (Γ0 : List HP) (z : List Nat) (fuel : Nat) (listed : Array Bool) (i : Nat) (ρ : Env) (σ : PH) (Γ : List HP) (K : KA) : Prop where
  out : ∀ f h, Holds σ Γ f h → (lateL z ops listed = true ∨ σ0.sub σ ∧ Ent Γ Γ0) → XQ1 P N ops (Ho σ0 Γ0) z fuel listed i ρ h (KF f K)
theorem XA.drawQ {id : Nat} (hm : P.follows .mixedOrders = true) (σ0 : PH) (Γ0 : List HP) (z : List Nat) (n : Nat) (l0 : Array Bool) (hn : ops.size = n) (hl0 : Array.replicate n false = l0) (hv : Region.noSelect ops = true) (hS : σ0.sub σ) (hE : Ent Γ Γ0) (hx : XQA P N ops σ0 Γ0 z n l0 ρ σ Γ K) : XA P N (.region id ops true) ρ σ Γ K := by
  subst hl0; subst hn
  exact ⟨fun f h hh => X.drawQ hm (Ho σ0 Γ0) z hv (hh.hoSub ⟨hS, hE⟩) (hx.out f h hh (.inr ⟨hS, hE⟩))⟩
theorem XQA.nil {fuel : Nat} {listed : Array Bool} (hr : (Region.ready .any ops listed).isEmpty = true) (hk : DA K .normal ρ σ Γ) : XQA P N ops σ0 Γ0 z fuel listed ρ σ Γ K := ⟨fun f h hh _ => XQ.nil hr (hk.out f h hh)⟩
theorem XQA.rd {fuel i d : Nat} {listed listed' : Array Bool} {op : Op} {ty : TypeId} {pos : String} {af : Array Edge} {g : Option (Nat × Bool)} {v : Value} (hi : ops[i]? = some ⟨some d, op, ty, pos, af, g⟩) (hd : Nat.blt d N = true)
    (hv : (Region.free .any ops listed i && (Region.ready .any ops listed).contains i && waitsZ ops z i && !lateL z ops listed) = true) (hl : listed.setIfInBounds i true = listed') (hg : Gd ops ρ g true) (hr : Rd P ρ (Ho σ0 Γ0) op ty v) (k : XQA P N ops σ0 Γ0 z fuel listed' (upd ρ d v) σ Γ K) : XQA P N ops σ0 Γ0 z (fuel + 1) listed ρ σ Γ K := by
  have hne : ¬ lateL z ops listed = true := by simp only [Bool.and_eq_true] at hv; simpa using hv.2
  exact ⟨fun f h hh hs => XQ.rdG hi hd hv hl (fun a he => .inl ⟨hg.wanted he, fun w' hw' => by rw [he.eval]; exact hr.out _ _ _ _ w' hw'⟩) (k.out f h hh (.inr (hs.resolve_left hne)))⟩
theorem XQA.pu {fuel i d : Nat} {listed listed' : Array Bool} {op : Op} {ty : TypeId} {pos : String} {af : Array Edge} {g : Option (Nat × Bool)} {v : Value} (hi : ops[i]? = some ⟨some d, op, ty, pos, af, g⟩) (hd : Nat.blt d N = true)
    (hv : (Region.free .any ops listed i && (Region.ready .any ops listed).contains i && (!lateL z ops listed || lateL z ops listed')) = true) (hl : listed.setIfInBounds i true = listed') (hg : Gd ops ρ g true) (hr : Rd P ρ (fun _ => True) op ty v) (k : XQA P N ops σ0 Γ0 z fuel listed' (upd ρ d v) σ Γ K) : XQA P N ops σ0 Γ0 z (fuel + 1) listed ρ σ Γ K := by
  refine ⟨fun f h hh hs => XQ.pu hi hd hv hl (fun a he => .inl ⟨hg.wanted he, fun w' _ => by rw [he.eval]; exact hr.out _ _ _ _ w' trivial⟩) (k.out f h hh (hs.imp (fun hq => ?_) id))⟩
  simp only [Bool.and_eq_true] at hv
  have := hv.2; rw [hq] at this; simpa using this
theorem XQA.off {fuel i d : Nat} {listed listed' : Array Bool} {op : Op} {ty : TypeId} {pos : String} {af : Array Edge} {g : Option (Nat × Bool)} (hi : ops[i]? = some ⟨some d, op, ty, pos, af, g⟩) (hd : Nat.blt d N = true)
    (hv : (Region.free .any ops listed i && (Region.ready .any ops listed).contains i && waitsZ ops z i && !lateL z ops listed) = true) (hl : listed.setIfInBounds i true = listed') (hg : Gd ops ρ g false) (k : XQA P N ops σ0 Γ0 z fuel listed' (upd ρ d undef) σ Γ K) : XQA P N ops σ0 Γ0 z (fuel + 1) listed ρ σ Γ K := by
  have hne : ¬ lateL z ops listed = true := by simp only [Bool.and_eq_true] at hv; simpa using hv.2
  exact ⟨fun f h hh hs => XQ.rdG hi hd hv hl (fun a he => .inr ⟨hg.wanted he, rfl⟩) (k.out f h hh (.inr (hs.resolve_left hne)))⟩
theorem XQA.w1 {fuel i : Nat} {listed : Array Bool} (hr : (Region.ready .any ops listed == [i]) = true) (k : XQA1 P N ops σ0 Γ0 z fuel listed i ρ σ Γ K) : XQA P N ops σ0 Γ0 z (fuel + 1) listed ρ σ Γ K := by
  exact ⟨fun f h hh hs => XQ.w1 hr (k.out f h hh hs)⟩
theorem XQA.w2 {fuel i j : Nat} {listed : Array Bool} (hr : (Region.ready .any ops listed == [i, j]) = true) (k1 : XQA1 P N ops σ0 Γ0 z fuel listed i ρ σ Γ K) (k2 : XQA1 P N ops σ0 Γ0 z fuel listed j ρ σ Γ K) : XQA P N ops σ0 Γ0 z (fuel + 1) listed ρ σ Γ K := by
  exact ⟨fun f h hh hs => XQ.w2 hr (k1.out f h hh hs) (k2.out f h hh hs)⟩
theorem XQA1.wr0 {fuel i : Nat} {listed listed' : Array Bool} {d : Option Nat} {op : Op} {ty : TypeId} {pos : String} {af : Array Edge} {g : Option (Nat × Bool)} {R : Value → PH → List HP → Prop}
    (hi : ops[i]? = some ⟨d, op, ty, pos, af, g⟩) (hd : dstOk N d = true) (hg : Gd ops ρ g true) (hrd : (Region.ready .any ops listed).contains i = true) (hl : listed.setIfInBounds i true = listed') (hr : WrA P ρ σ Γ op ty R noPA)
    (k : ∀ v σ' Γ', R v σ' Γ' → (σ0.sub σ' ∧ Ent Γ' Γ0) ∧ XQA P N ops σ0 Γ0 z fuel listed' (updO ρ d v) σ' Γ' K) : XQA1 P N ops σ0 Γ0 z fuel listed i ρ σ Γ K :=
  ⟨fun f h hh hs => XQ1.wr hi hd hg hrd hl (hr.out f h hh) (fun v h' ⟨σ', Γ', a, b⟩ => ⟨.inr (b.hoSub (k v σ' Γ' a).1), (k v σ' Γ' a).2.out f h' b (.inr (k v σ' Γ' a).1)⟩) (fun c h' ⟨σ', Γ', a, b⟩ => a.elim)⟩
theorem XQA1.wrZ0 {fuel i : Nat} {listed listed' : Array Bool} {d : Option Nat} {op : Op} {ty : TypeId} {pos : String} {af : Array Edge} {g : Option (Nat × Bool)} {R : Value → PH → List HP → Prop}
    (hi : ops[i]? = some ⟨d, op, ty, pos, af, g⟩) (hd : dstOk N d = true) (hg : Gd ops ρ g true) (hrd : (Region.ready .any ops listed).contains i = true) (hl : listed.setIfInBounds i true = listed') (he : (z.contains i && lateL z ops listed') = true) (hr : WrA P ρ σ Γ op ty R noPA)
    (k : ∀ v σ' Γ', R v σ' Γ' → XQA P N ops σ0 Γ0 z fuel listed' (updO ρ d v) σ' Γ' K) : XQA1 P N ops σ0 Γ0 z fuel listed i ρ σ Γ K := by
  simp only [Bool.and_eq_true] at he
  exact ⟨fun f h hh hs => XQ1.wr hi hd hg hrd hl (hr.out f h hh) (fun v h' ⟨σ', Γ', a, b⟩ => ⟨.inl he, (k v σ' Γ' a).out f h' b (.inl he.2)⟩) (fun c h' ⟨σ', Γ', a, b⟩ => a.elim)⟩
theorem XQA.re {fuel : Nat} {listed : Array Bool} {Δ : List HP} (e : Γ = Δ) (k : XQA P N ops σ0 Γ0 z fuel listed ρ σ Δ K) : XQA P N ops σ0 Γ0 z fuel listed ρ σ Γ K := e ▸ k
/-- What comes behind a piece of code is proved once. -/
theorem XA.cut {c : Code} (M : Env → PH → List HP → Prop) (hx : XA P N c ρ σ Γ (thnA M K)) (hk : ∀ ρ' σ' Γ', M ρ' σ' Γ' → DA K .normal ρ' σ' Γ') : XA P N c ρ σ Γ K := by
  refine ⟨fun f h hh => X.mono (hx.out f h hh) ?_⟩
  rintro e ρ' h' ⟨σ', Γ', a, b⟩
  cases e with
  | normal => exact (hk _ _ _ a).out f h' b
  | _ => exact ⟨σ', Γ', a, b⟩
/-- Ways that meet again: what they leave is told by a state x. -/
theorem XA.join {c : Code} {τ : Type} (L : List (Nat × Nat)) (E : τ → List (Nat × Value)) (I : τ → PH → List HP → Prop) (hx : XA P N c ρ σ Γ (thnA (fun ρ' σ' Γ' => Keep L ρ ρ' ∧ ∃ x Δ, Mat ρ' (E x) ∧ Ent Γ' Δ ∧ I x σ' Δ) K))
    (hk : ∀ x δ σ' Δ, I x σ' Δ → DA K .normal ((E x).foldl (fun r p => upd r p.1 p.2) (ovr L ρ δ)) σ' Δ) : XA P N c ρ σ Γ K := by
  refine XA.cut _ hx ?_
  rintro ρ' σ' Γ' ⟨hK, x, Δ, hM, hE, hI⟩
  have := hk x ρ' σ' Δ hI
  rw [ovr_eq hK, mat_self hM] at this
  exact DA.ent hE this
end X
end Go.Proofs.Ytbbghdkndbpmmaa
