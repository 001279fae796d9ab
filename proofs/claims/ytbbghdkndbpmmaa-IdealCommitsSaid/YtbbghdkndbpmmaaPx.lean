/- Panics that calls end in; a function that defers a closure; the closure that recovers. -/
import Derived.Test.YtbbghdkndbpmmaaU
import Derived.Recover
namespace Go.Proofs.Ytbbghdkndbpmmaa
namespace X
open Go
/-- An end in a panic. -/
def PanA (R : List PanicEntry → PH → List HP → Prop) : Ending → PH → List HP → Prop
  | .panicked c, σ, Γ => R c σ Γ
  | _, _, _ => False
section
variable {P : Program} {N : Nat} {ρ : Env} {σ : PH} {Γ : List HP} {K : KA}
theorem CallsA.pan {f : FuncId} {vs : Array Value} {R R' : List PanicEntry → PH → List HP → Prop} (hc : CallsA P f vs σ Γ (PanA R)) (hr : ∀ v σ' Γ', R v σ' Γ' → R' v σ' Γ') : CallsA P f vs σ Γ (PanA R') :=
  CallsA.mono hc fun e _ _ he => by cases e <;> first | exact hr _ _ _ he | exact he
theorem XOA.die {all : Array Oper} {rest : List Oper} {d : Option Nat} {f : FuncId} {args : List Operand} {ats : Array TypeId} {vs : List Value} {ty : TypeId} {pos : String} {af : Array Edge} {R : List PanicEntry → PH → List HP → Prop} {Γ0 Δ : List HP} (hd : dstOk N d = true)
    (hc : CallsA P f vs.toArray σ Γ0 (PanA R)) (hv : args.map (ev ρ) = vs) (kp : ∀ c σ' Γ1, R c σ' Γ1 → DA K (.panic c) ρ σ' (Γ1 ++ Δ)) (he : Ent Γ (Γ0 ++ Δ) := by (repeat (first | exact Ent.all _ | (apply Ent.take; focus (first | ((repeat (first | with_reducible exact Sel.head | apply Sel.tail)); done) | ((repeat (first | exact Sel.head | apply Sel.tail)); done))) | apply Ent.takeNil | apply Ent.takeEmp)); (first | done | fail)) :
    XOA P N all (⟨d, .call { callee := .value (.func f), args := args.toArray, argTypes := ats }, ty, pos, af, none⟩ :: rest) ρ σ Γ K :=
  XOA.wr hd (WrA.callG (first := []) (cap := []) rfl hc (by simpa using hv) he (fun _ _ h => h)) (fun _ _ _ h => by obtain ⟨_, h, _⟩ := h; exact h.elim) (fun c σ' Γ' h => by obtain ⟨Γ1, h, rfl⟩ := h; exact kp c σ' Γ1 h)
theorem XPA.die {ops : Array Oper} {σ0 : PH} {Γs : List HP} {z : List Nat} {i : Nat} {pl : List (Nat × Kd)} {d : Option Nat} {f : FuncId} {args : List Operand} {ats : Array TypeId} {vs : List Value} {ty : TypeId} {pos : String} {af : Array Edge} {g : Option (Nat × Bool)} {R : List PanicEntry → PH → List HP → Prop} {Γ0 Δ : List HP}
    (hi : ops[i]? = some ⟨d, .call { callee := .value (.func f), args := args.toArray, argTypes := ats }, ty, pos, af, g⟩) (hd : dstOk N d = true) (hg : Gd ops ρ g true)
    (hc : CallsA P f vs.toArray σ Γ0 (PanA R)) (hv : args.map (ev ρ) = vs) (kp : ∀ c σ' Γ1, R c σ' Γ1 → DA K (.panic c) ρ σ' (Γ1 ++ Δ)) (he : Ent Γ (Γ0 ++ Δ) := by (repeat (first | exact Ent.all _ | (apply Ent.take; focus (first | ((repeat (first | with_reducible exact Sel.head | apply Sel.tail)); done) | ((repeat (first | exact Sel.head | apply Sel.tail)); done))) | apply Ent.takeNil | apply Ent.takeEmp)); (first | done | fail)) :
    XPA P N ops σ0 Γs z ((i, .wr) :: pl) ρ σ Γ K :=
  XPA.wr hi hd hg (WrA.callG (first := []) (cap := []) rfl hc (by simpa using hv) he (fun _ _ h => h)) (fun _ _ _ h => by obtain ⟨_, h, _⟩ := h; exact h.elim) (fun c σ' Γ' h => by obtain ⟨Γ1, h, rfl⟩ := h; exact kp c σ' Γ1 h)
/-- The operation that panics. -/
theorem XOA.throw {all : Array Oper} {rest : List Oper} {d : Option Nat} {x : Operand} {t : TypeId} {v : Value} {ty : TypeId} {pos : String} {af : Array Edge} (hd : dstOk N d = true) (hx : ev ρ x = .iface t v)
    (kp : DA K (.panic [{ v := .iface t v, recovered := false }]) ρ σ Γ) : XOA P N all (⟨d, .panic x, ty, pos, af, none⟩ :: rest) ρ σ Γ K :=
  XOA.wr (R := fun _ _ _ => False) (pk := fun c σ' Γ' => c = [{ v := .iface t v, recovered := false }] ∧ σ = σ' ∧ Γ' = Γ) hd
    ⟨fun f h hh => ⟨fun d pos af g a w next Q he hw _ hp => by
      unfold Oper.wp
      have hrun : (execOp a.eval ⟨d, .panic x, ty, pos, af, g⟩).run P w = .halt (.panic (.iface t v)) w := by
        rw [he]; simp [execOp, Instr.panic, hx, goPanic]
      rw [hrun, Oper.upon_panic]
      exact hp _ w (Same.refl w) ⟨σ, Γ, ⟨rfl, rfl, rfl⟩, hw ▸ hh⟩⟩⟩
    (fun _ _ _ h => h.elim) (fun c σ' Γ' h => by obtain ⟨rfl, rfl, rfl⟩ := h; exact kp)
theorem Rd.mkI {S : Heap → Prop} {ty T : TypeId} {x : Operand} {v : Value} {r : Ty} {kk : IntKind} (hT : tyOf P T = some r) (hk : r.k = .int kk) (hx : ev ρ x = v) : Rd P ρ S (.makeInterface T x) ty (.iface T v) := by
  refine .pure fun d pos af g w => ?_
  obtain ⟨dd, i, z, e1, e2, -⟩ := tyOf_spec hT
  rw [hk] at e2
  cases dd <;> simp [kindOf] at e2
  simp [execOp, Instr.makeInterface, run_underlying e1, hx]
/-- Of what type is it? -/
theorem Rd.tassert {S : Heap → Prop} {ty T I : TypeId} {x : Operand} {v : Value} {r : Ty} {kk : IntKind} (hT : tyOf P T = some r) (hk : r.k = .int kk) (hx : ev ρ x = .iface T v) : Rd P ρ S (.typeAssert x I T true) ty (.tuple #[v, .bool true]) := by
  refine .pure fun d pos af g w => ?_
  obtain ⟨dd, i, z, e1, e2, -⟩ := tyOf_spec hT
  rw [hk] at e2
  cases dd <;> simp [kindOf] at e2
  simp [execOp, Instr.typeAssert, run_underlying e1, hx]
theorem Rd.tassertNil {S : Heap → Prop} {ty T I : TypeId} {x : Operand} {r : Ty} {kk : IntKind} (hT : tyOf P T = some r) (hk : r.k = .int kk) (hz : (P.info? T).bind (·.zero) = some (.int kk 0)) (hx : ev ρ x = .nilIface) : Rd P ρ S (.typeAssert x I T true) ty (.tuple #[.int kk 0, .bool false]) := by
  refine .pure fun d pos af g w => ?_
  obtain ⟨dd, i, z, e1, e2, e3, e4, e5, e6, e7⟩ := tyOf_spec hT
  rw [hk] at e2
  rw [e3] at hz
  simp only [Option.bind_some, e6, Option.some.injEq] at hz
  subst hz
  cases dd <;> simp [kindOf] at e2
  simp [execOp, Instr.typeAssert, run_underlying e1, hx, zeroValue, typeInfo, e3, e6]
theorem Rd.neqIfT {S : Heap → Prop} {ty I T' : TypeId} {x : Operand} {t : TypeId} {v : Value} {ms : Array (String × TypeId)} (hI : P.underlying I = some (.interface ms)) (hx : ev ρ x = .iface t v) : Rd P ρ S (.binOp .neq I x (.const .nilIface) T') ty (.bool true) := by
  refine .pure fun d pos af gd w => ?_
  have h1 : (Op.equalIn Op.maxDepth I (.iface t v) .nilIface).run P w = .ok false w := by
    rw [show Op.maxDepth = 9999 + 1 from rfl, Op.equalIn, Sem.run_bind, run_underlying hI]; rfl
  simp only [execOp, eqGuard, hx, ev, binOp, Sem.run_bind]
  simp [Op.equal, h1]
theorem Rd.neqIfF {S : Heap → Prop} {ty I T' : TypeId} {x : Operand} {ms : Array (String × TypeId)} (hI : P.underlying I = some (.interface ms)) (hx : ev ρ x = .nilIface) : Rd P ρ S (.binOp .neq I x (.const .nilIface) T') ty (.bool false) := by
  refine .pure fun d pos af gd w => ?_
  have h1 : (Op.equalIn Op.maxDepth I .nilIface .nilIface).run P w = .ok true w := by
    rw [show Op.maxDepth = 9999 + 1 from rfl, Op.equalIn, Sem.run_bind, run_underlying hI]; rfl
  simp only [execOp, eqGuard, hx, ev, binOp, Sem.run_bind]
  simp [Op.equal, h1]
end
/-! a closure that recovers -/
section
variable {P : Program}
/-- What recover hands back, and what becomes of the frame below. -/
def recv : FrameMode → Value × FrameMode
  | .panicking ({ v, recovered := false, goexit := false } :: older) => (v, .panicking ({ v, recovered := true } :: older))
  | u => (.nilIface, u)
theorem recoverD_recv (c₀ : Frame) (cs : List Frame) : recoverD (c₀ :: cs) = none ∧ recv c₀.mode = (.nilIface, c₀.mode) ∨ recoverD (c₀ :: cs) = some ((recv c₀.mode).1, { c₀ with mode := (recv c₀.mode).2 } :: cs) := by
  obtain ⟨fn, tmps, todo, defers, mode, kind, ro⟩ := c₀
  cases mode with
  | panicking l =>
    cases l with
    | nil => exact .inl ⟨rfl, rfl⟩
    | cons e older =>
      obtain ⟨v, r, g⟩ := e
      cases r <;> cases g <;> first | exact .inr rfl | exact .inl ⟨rfl, rfl⟩
  | _ => exact .inl ⟨rfl, rfl⟩
theorem calls_recovers {f : FuncId} {fn : Func} {rest : Code} {id : Nat} {d1 d2 : Nat} {t1 t2 : TypeId} {s1 s2 : String} {a1 a2 : Array Edge} {ats : Array TypeId} {vs : Array Value} {ρ0 : Env} {u : FrameMode} {h : Heap} {R : Ending → Heap → Prop}
    (hf : P.funcs[f]? = some fn) (hb : fn.body = some (.seq (.region id #[⟨some d1, .call { callee := .builtin .recover, args := #[], argTypes := ats }, t1, s1, a1, none⟩, ⟨some d2, .assign (.tmp d1), t2, s2, a2, none⟩] false) rest)) (hN : Nat.ble vs.size fn.ntmps = true)
    (h0 : ∀ s, vs.getD s undef = ρ0 s) (hd1 : Nat.blt d1 fn.ntmps = true) (hd2 : Nat.blt d2 fn.ntmps = true) (hx : X P fn.ntmps rest (upd (upd ρ0 d1 (recv u).1) d2 (recv u).1) h (bodyK P fn R)) :
    ∀ w, w.heap = h → CallsD P f vs u w (fun e u' w' => u' = (recv u).2 ∧ Same w w' ∧ R e w'.heap) := by
  intro w hw
  refine callsD_of_wpS hf hb fun c₀ cs hu => ?_
  have hN' : vs.size ≤ fn.ntmps := Nat.le_of_ble_eq_true hN
  have he : EnvOf fn.ntmps { tmps := vs ++ Array.replicate (fn.ntmps - vs.size) undef, defers := [] } ρ0 := by
    refine ⟨by simp; omega, fun s => ?_⟩
    rw [← h0 s]
    simp only [Array.getD_eq_getD_getElem?, Array.getElem?_append, Array.getElem?_replicate]
    by_cases e : s < vs.size
    · simp [e]
    · simp [e]; split <;> simp
  obtain ⟨a0, ha0⟩ : ∃ a : Act, a = { tmps := vs ++ Array.replicate (fn.ntmps - vs.size) undef, defers := [] } := ⟨_, rfl⟩
  rw [← ha0] at he ⊢
  have hdf : a0.defers = [] := by rw [ha0]
  have hK : ∀ (w' : World) (cs' : List Frame), Same w w' → w'.heap = h → cs' = { c₀ with mode := (recv u).2 } :: cs → rest.wpS P (bodyPostS P fn c₀ cs (fun e u' w' => u' = (recv u).2 ∧ Same w w' ∧ R e w'.heap)) ((a0.put (some d1) (recv u).1).put (some d2) (recv u).1) cs' w' := by
    intro w' cs' hs hh hcs
    refine wpS_of_wp (wp_mono (hx.out w ((a0.put (some d1) (recv u).1).put (some d2) (recv u).1) w' hs hh ((he.put hd1 _).put hd2 _)) ?_)
    rintro e a' w'' ⟨g1, g2, ρ', g3, g4⟩
    rw [put_defers, put_defers, hdf] at g1
    cases e with
    | normal => obtain ⟨v, hr, hR⟩ := g4; exact ⟨g1, _, hcs, v, hr w'' a' rfl g3, rfl, g2, hR⟩
    | ret => obtain ⟨v, hr, hR⟩ := g4; exact ⟨g1, _, hcs, v, hr w'' a' rfl g3, rfl, g2, hR⟩
    | panic c => exact ⟨g1, _, hcs, rfl, g2, g4⟩
    | _ => exact g4.elim
  refine wpS_seq (wpS_region ?_)
  have hrec : ∀ a : Act, (execOp a.eval ⟨some d1, .call { callee := .builtin .recover, args := #[], argTypes := ats }, t1, s1, a1, none⟩).run P w = .ok .recover w := fun a => by
    simp [execOp, resolve, invoke, builtin]
  have hasg : ∀ a : Act, (execOp a.eval ⟨some d2, .assign (.tmp d1), t2, s2, a2, none⟩).run P w = .ok (.value (a.eval (.tmp d1))) w := fun a => by
    simp [execOp]
  have hc : ({ c₀ with mode := u } : Frame) = c₀ := by subst hu; rfl
  have hput : (a0.put (some d1) (recv u).1).eval (.tmp d1) = (recv u).1 := by rw [(he.put hd1 _).eval]; exact upd_same _ _ _
  show wpOpsS P _ _ [0, 1] a0 (c₀ :: cs) w
  rcases recoverD_recv c₀ cs with ⟨e1, e2⟩ | e1
  · rw [hu] at e2
    have e3 : recv u = (.nilIface, u) := e2
    simp only [e3] at hput hK ⊢
    simp [wpOpsS, hrec, hasg, Region.wanted, e1, Oper.upon_value, hput, Exit.thenS]
    exact hK w _ (Same.refl w) hw (by rw [hc])
  · rw [hu] at e1
    simp [wpOpsS, hrec, hasg, Region.wanted, e1, Oper.upon_value, hput, Exit.thenS]
    exact hK w _ (Same.refl w) hw rfl
/-! a tail in which, at a panic, the frame is known -/
def PostF (w0 : World) (ds : List Deferred) (N : Nat) (K : Kont) : Exit → Act → World → Prop := fun e a' w' => a'.defers = ds ∧ Same w0 w' ∧ ∃ ρ', EnvOf N a' ρ' ∧ K e ρ' w'.heap
structure XF (P : Program) (N : Nat) (c : Code) (ρ : Env) (h : Heap) (K : Kont) : Prop where
  out : ∀ (w0 : World) (a : Act) (w : World), Same w0 w → w.heap = h → EnvOf N a ρ → c.wp P (PostF w0 a.defers N K) a w
structure XFO (P : Program) (N : Nat) (all : Array Oper) (l : List Oper) (ρ : Env) (h : Heap) (K : Kont) : Prop where
  out : ∀ (w0 : World) (a : Act) (w : World), Same w0 w → w.heap = h → EnvOf N a ρ → wpList P all (PostF w0 a.defers N K) l a w
section
variable {N : Nat} {ρ : Env} {h : Heap} {K : Kont}
theorem XF.seq {x y : Code} (hx : XF P N x ρ h (thn (fun ρ h => XF P N y ρ h K) K)) : XF P N (.seq x y) ρ h K := by
  refine ⟨fun w0 a w hs hh he => wp_seq (wp_mono (hx.out w0 a w hs hh he) ?_)⟩
  rintro e a' w' ⟨h1, h2, ρ', h3, h4⟩
  cases e with
  | normal => rw [← h1]; exact h4.out w0 a' w' h2 rfl h3
  | _ => exact ⟨h1, h2, ρ', h3, h4⟩
theorem XF.ret (hk : K .ret ρ h) : XF P N .ret ρ h K := ⟨fun _ _ _ hs hh he => wp_ret ⟨rfl, hs, ρ, he, hh ▸ hk⟩⟩
theorem XF.region {id : Nat} {l : List Oper} (hx : XFO P N l.toArray l ρ h K) : XF P N (.region id l.toArray false) ρ h K := ⟨fun w0 a w hs hh he => wp_region_lit (hx.out w0 a w hs hh he)⟩
theorem XFO.nil {all : Array Oper} (hk : K .normal ρ h) : XFO P N all [] ρ h K := ⟨fun _ _ _ hs hh he => wpList_nil ⟨rfl, hs, ρ, he, hh ▸ hk⟩⟩
theorem XFO.wr {all : Array Oper} {rest : List Oper} {op : Op} {d : Option Nat} {ty : TypeId} {pos : String} {af : Array Edge} {R : Value → Heap → Prop} {pk : List PanicEntry → Heap → Prop} (hd : dstOk N d = true)
    (hr : Wr P ρ h op ty R pk) (k : ∀ v h', R v h' → XFO P N all rest (updO ρ d v) h' K) (kp : ∀ c h', pk c h' → K (.panic c) ρ h') :
    XFO P N all (⟨d, op, ty, pos, af, none⟩ :: rest) ρ h K := by
  refine ⟨fun w0 a w hs hh he => ?_⟩
  refine wpList_plain rfl fun K' hK' => ?_
  refine hr.out d pos af none a w _ _ he.eval hh (fun v w' h2 h3 => hK' _ _ ?_) (fun c w' h2 h3 => ⟨rfl, hs.trans h2, ρ, he, kp c _ h3⟩)
  have := (k v _ h3).out w0 (a.put d v) w' (hs.trans h2) rfl (he.putO hd v)
  rwa [put_defers] at this
end
structure XFA (P : Program) (N : Nat) (c : Code) (ρ : Env) (σ : PH) (Γ : List HP) (K : KA) : Prop where
  out : ∀ f h, Holds σ Γ f h → XF P N c ρ h (KF f K)
structure XFOA (P : Program) (N : Nat) (all : Array Oper) (l : List Oper) (ρ : Env) (σ : PH) (Γ : List HP) (K : KA) : Prop where
  out : ∀ f h, Holds σ Γ f h → XFO P N all l ρ h (KF f K)
section
variable {N : Nat} {ρ : Env} {σ : PH} {Γ : List HP} {K : KA} {all : Array Oper} {rest : List Oper} {d : Nat} {ty : TypeId} {pos : String} {af : Array Edge}
theorem XFA.seq {x y : Code} (hx : XFA P N x ρ σ Γ (thnA (fun ρ σ Γ => XFA P N y ρ σ Γ K) K)) : XFA P N (.seq x y) ρ σ Γ K := by
  refine ⟨fun f h hh => XF.seq ⟨fun w0 a w hs hw he => wp_mono ((hx.out f h hh).out w0 a w hs hw he) ?_⟩⟩
  rintro e a' w' ⟨h1, h2, ρ', h3, σ', Γ', hk, hh'⟩
  refine ⟨h1, h2, ρ', h3, ?_⟩
  cases e with
  | normal => exact hk.out f _ hh'
  | _ => exact ⟨σ', Γ', hk, hh'⟩
theorem XFA.ret (hk : K .ret ρ σ Γ) : XFA P N .ret ρ σ Γ K := ⟨fun f h hh => XF.ret ⟨σ, Γ, hk, hh⟩⟩
theorem XFA.region {id : Nat} {l : List Oper} (hx : XFOA P N l.toArray l ρ σ Γ K) : XFA P N (.region id l.toArray false) ρ σ Γ K := ⟨fun f h hh => XF.region (hx.out f h hh)⟩
theorem XFOA.nil {all : Array Oper} (hk : K .normal ρ σ Γ) : XFOA P N all [] ρ σ Γ K := ⟨fun f h hh => XFO.nil ⟨σ, Γ, hk, hh⟩⟩
theorem XFOA.rd {op : Op} {v : Value} (hd : Nat.blt d N = true) (hr : Rd P ρ (Ho σ Γ) op ty v) (k : XFOA P N all rest (upd ρ d v) σ Γ K) : XFOA P N all (⟨some d, op, ty, pos, af, none⟩ :: rest) ρ σ Γ K :=
  ⟨fun f h hh => XFO.wr (d := some d) hd (Rd.wr ⟨fun d pos af g w hw => hr.out d pos af g w (hw ▸ hh.ho)⟩) (by rintro _ _ ⟨rfl, rfl⟩; exact k.out f _ hh) (fun _ _ h => h.elim)⟩
theorem XFOA.call {f : FuncId} {args : List Operand} {ats : Array TypeId} {vs : List Value} {R : Value → PH → List HP → Prop} {Γ0 Δ : List HP} (hd : Nat.blt d N = true) (hc : CallsA P f vs.toArray σ Γ0 (RetA R)) (hv : args.map (ev ρ) = vs) (he : Ent Γ (Γ0 ++ Δ))
    (k : ∀ v σ' Γ1, R v σ' Γ1 → XFOA P N all rest (upd ρ d v) σ' (Γ1 ++ Δ) K) : XFOA P N all (⟨some d, .call { callee := .value (.func f), args := args.toArray, argTypes := ats }, ty, pos, af, none⟩ :: rest) ρ σ Γ K :=
  ⟨fun fr h hh => XFO.wr (d := some d) hd ((WrA.call hc hv he).out fr h hh) (fun v h' ⟨σ', Γ', ⟨Γ1, a, e⟩, b⟩ => by subst e; exact (k v σ' Γ1 a).out fr h' b) (fun _ _ ⟨_, _, h, _⟩ => h.elim)⟩
theorem XFOA.die {f : FuncId} {args : List Operand} {ats : Array TypeId} {vs : List Value} {R : List PanicEntry → PH → List HP → Prop} {Γ0 Δ : List HP} (hd : Nat.blt d N = true) (hc : CallsA P f vs.toArray σ Γ0 (PanA R)) (hv : args.map (ev ρ) = vs) (he : Ent Γ (Γ0 ++ Δ))
    (k : ∀ c σ' Γ1, R c σ' Γ1 → K (.panic c) ρ σ' (Γ1 ++ Δ)) : XFOA P N all (⟨some d, .call { callee := .value (.func f), args := args.toArray, argTypes := ats }, ty, pos, af, none⟩ :: rest) ρ σ Γ K :=
  ⟨fun fr h hh => XFO.wr (d := some d) hd ((WrA.callG (first := []) (cap := []) rfl hc (by simpa using hv) he (fun _ _ h => h)).out fr h hh) (fun v h' ⟨_, _, ⟨_, a, _⟩, _⟩ => a.elim) (fun c h' ⟨σ', Γ', ⟨Γ1, a, e⟩, b⟩ => by subst e; exact ⟨σ', _, k c σ' Γ1 a, b⟩)⟩
end
/-! a function that defers a closure -/
/-- The function's end, what it deferred being done. -/
structure XT (P : Program) (fn : Func) (c : Code) (ρ : Env) (h : Heap) (R : Ending → Heap → Prop) : Prop where
  out : ∀ (w0 : World) (a : Act) (w : World), Same w0 w → w.heap = h → EnvOf fn.ntmps a ρ → a.defers = [] → c.wp P (bodyPostD P fn (fun e w' => Same w0 w' ∧ R e w'.heap)) a w
theorem XT.seq {fn : Func} {x y : Code} {ρ : Env} {h : Heap} {R : Ending → Heap → Prop} (hx : X P fn.ntmps x ρ h (thn (fun ρ h => XT P fn y ρ h R) (bodyK P fn R))) : XT P fn (.seq x y) ρ h R := by
  refine ⟨fun w0 a w hs hh he hd => wp_seq (wp_mono (hx.out w0 a w hs hh he) ?_)⟩
  rintro e a' w' ⟨h1, h2, ρ', h3, h4⟩
  rw [hd] at h1
  cases e with
  | normal => exact h4.out w0 a' w' h2 rfl h3 h1
  | ret =>
    obtain ⟨v, hr, hR⟩ := h4
    show Leaves P fn a'.tmps _ a'.defers .returning w'
    rw [h1]; exact ⟨v, hr w' a' rfl h3, h2, hR⟩
  | panic c =>
    show Leaves P fn a'.tmps _ a'.defers (.panicking c) w'
    rw [h1]; exact ⟨h2, h4⟩
  | _ => exact h4.elim
/-- What a deferred closure does at the end, and what is handed back then. -/
def dK (P : Program) (fn : Func) (f : FuncId) (caps : Array Value) (R : Ending → Heap → Prop) : Kont := fun e ρ h =>
  let go := fun (u : FrameMode) => ∀ w, w.heap = h → CallsD P f caps u w (fun e' u' w' => Same w w' ∧ (∃ v0, e' = .returned v0) ∧ settle u' = .returning ∧ ∃ v, Res P fn ρ w'.heap v ∧ R (.returned v) w'.heap)
  match e with
  | .normal | .ret => go .returning
  | .panic c => go (.panicking c)
  | _ => False
theorem leaves_one {fn : Func} {f : FuncId} {caps : Array Value} {R : Ending → Heap → Prop} {ρ : Env} {u : FrameMode} {a : Act} {w0 w : World} (hu : u ≠ .run) (hE : Enters P f) (hs : Same w0 w) (he : EnvOf fn.ntmps a ρ)
    (hc : CallsD P f caps u w (fun e' u' w' => Same w w' ∧ (∃ v0, e' = .returned v0) ∧ settle u' = .returning ∧ ∃ v, Res P fn ρ w'.heap v ∧ R (.returned v) w'.heap)) :
    Leaves P fn a.tmps (fun e w' => Same w0 w' ∧ R e w'.heap) [{ target := .fn (.func f) caps, args := #[] }] u w := by
  refine leaves_cons (f := f) (args := caps) hu ?_ (hc.mono ?_)
  · simp only [invoke]
    have := hE caps w
    simpa using this
  · rintro e u' w' ⟨h1, ⟨v0, rfl⟩, h2, v, h3, h4⟩
    show Leaves P fn a.tmps _ [] (settle u') w'
    rw [h2]
    exact ⟨v, h3 w' a rfl he, hs.trans h1, h4⟩
theorem XT.defer {fn : Func} {y : Code} {ρ : Env} {h : Heap} {R : Ending → Heap → Prop} {id t : Nat} {f : FuncId} {co : Array Operand} {caps : Array Value} {t1 t2 : TypeId} {s1 s2 : String} {a1 a2 : Array Edge} {ats : Array TypeId} (hE : Enters P f) (ht : Nat.blt t fn.ntmps = true) (hcap : co.map (ev ρ) = caps)
    (hx : XF P fn.ntmps y (upd ρ t (.func (.func f) #[] caps)) h (dK P fn f caps R)) :
    XT P fn (.seq (.region id #[⟨some t, .makeFunc (.func f) #[] co, t1, s1, a1, none⟩, ⟨none, .defer { callee := .value (.tmp t), args := #[], argTypes := ats }, t2, s2, a2, none⟩] false) y) ρ h R := by
  refine ⟨fun w0 a w hs hh he hd => wp_seq (wp_region_lit (l := [_, _]) ?_)⟩
  refine wpList_plain rfl fun K1 hK1 => ?_
  have hrun : (execOp a.eval ⟨some t, .makeFunc (.func f) #[] co, t1, s1, a1, none⟩).run P w = .ok (.value (.func (.func f) #[] caps)) w := by
    rw [he.eval]; simp [execOp, Instr.makeFunc, hcap]
  unfold Oper.wp
  rw [hrun, Oper.upon_value]
  refine hK1 _ _ ?_
  have he1 := he.put ht (.func (.func f) #[] caps)
  refine wpList_plain rfl fun K2 hK2 => ?_
  have hrun2 : (execOp (a.put (some t) (.func (.func f) #[] caps)).eval ⟨none, .defer { callee := .value (.tmp t), args := #[], argTypes := ats }, t2, s2, a2, none⟩).run P w = .ok (.defer { target := .fn (.func f) caps, args := #[] }) w := by
    rw [he1.eval]; simp [execOp, resolve, Deferred.ofValue, upd_same]
  unfold Oper.wp
  rw [hrun2, Oper.upon_defer]
  refine hK2 _ _ (wpList_nil ?_)
  obtain ⟨b, hb⟩ : ∃ b : Act, b = ({ (a.put (some t) (.func (.func f) #[] caps)) with defers := { target := .fn (.func f) caps, args := #[] } :: (a.put (some t) (.func (.func f) #[] caps)).defers } : Act).put none undef := ⟨_, rfl⟩
  rw [← hb]
  have hbe : EnvOf fn.ntmps b (upd ρ t (.func (.func f) #[] caps)) := by rw [hb]; exact ⟨he1.size, he1.get⟩
  have hbd : b.defers = [{ target := .fn (.func f) caps, args := #[] }] := by rw [hb]; show _ :: (a.put (some t) _).defers = _; rw [put_defers, hd]
  show y.wp P (bodyPostD P fn (fun e w' => Same w0 w' ∧ R e w'.heap)) b w
  refine wp_mono (hx.out w0 b w hs hh hbe) ?_
  rintro e a' w' ⟨h1, h2, ρ', h3, h4⟩
  rw [hbd] at h1
  cases e with
  | normal =>
    show Leaves P fn a'.tmps _ a'.defers .returning w'
    rw [h1]; exact leaves_one (by simp) hE h2 h3 (h4 w' rfl)
  | ret =>
    show Leaves P fn a'.tmps _ a'.defers .returning w'
    rw [h1]; exact leaves_one (by simp) hE h2 h3 (h4 w' rfl)
  | panic c =>
    show Leaves P fn a'.tmps _ a'.defers (.panicking c) w'
    rw [h1]; exact leaves_one (by simp) hE h2 h3 (h4 w' rfl)
  | _ => exact h4.elim
/-! the same over what is owned -/
theorem enterD {f : FuncId} {fn : Func} {c : Code} {vs : Array Value} {ρ0 : Env} {h : Heap} {R : Ending → Heap → Prop} (hf : P.funcs[f]? = some fn) (hb : fn.body = some c) (hn : goodName fn = true) (hN : Nat.ble vs.size fn.ntmps = true)
    (h0 : ∀ s, vs.getD s undef = ρ0 s) (hx : XT P fn c ρ0 h R) : CallsX P f vs h R := by
  refine ⟨enters hf hb hn, fun w hw => calls_of_wp_defers hf hb ?_⟩
  have hN' : vs.size ≤ fn.ntmps := Nat.le_of_ble_eq_true hN
  have he : EnvOf fn.ntmps { tmps := vs ++ Array.replicate (fn.ntmps - vs.size) undef, defers := [] } ρ0 := by
    refine ⟨by simp; omega, fun s => ?_⟩
    rw [← h0 s]
    simp only [Array.getD_eq_getD_getElem?, Array.getElem?_append, Array.getElem?_replicate]
    by_cases e : s < vs.size
    · simp [e]
    · simp [e]; split <;> simp
  exact hx.out w _ w (Same.refl w) hw he rfl
structure XTA (P : Program) (fn : Func) (c : Code) (ρ : Env) (σ : PH) (Γ : List HP) (R : Ending → PH → List HP → Prop) : Prop where
  out : ∀ f h, Holds σ Γ f h → XT P fn c ρ h (fun e h' => ∃ σ' Γ', R e σ' Γ' ∧ Holds σ' Γ' f h')
def CallsDA (P : Program) (f : FuncId) (vs : Array Value) (u : FrameMode) (σ : PH) (Γ : List HP) (R : FrameMode → PH → List HP → Prop) : Prop :=
  ∀ fr h, Holds σ Γ fr h → ∀ w, w.heap = h → CallsD P f vs u w (fun e' u' w' => Same w w' ∧ (∃ v0, e' = .returned v0) ∧ ∃ σ' Γ', R u' σ' Γ' ∧ Holds σ' Γ' fr w'.heap)
/-- What is given to the closure, and what is handed back behind it. -/
def dKA (P : Program) (fn : Func) (f : FuncId) (caps : Array Value) (R : Ending → PH → List HP → Prop) : KA := fun e ρ σ Γ =>
  let go := fun (u : FrameMode) => CallsDA P f caps u σ Γ (fun u' σ' Γ' => settle u' = .returning ∧ ∃ v, ResA P fn ρ σ' Γ' v ∧ ∃ Δ, Ent Γ' Δ ∧ R (.returned v) σ' Δ)
  match e with
  | .normal | .ret => go .returning
  | .panic c => go (.panicking c)
  | _ => False
section
variable {fn : Func} {ρ : Env} {σ : PH} {Γ : List HP} {RR : Ending → PH → List HP → Prop}
theorem XTA.seq {x y : Code} (hx : XA P fn.ntmps x ρ σ Γ (thnA (fun ρ σ Γ => XTA P fn y ρ σ Γ RR) (bodyA P fn RR))) : XTA P fn (.seq x y) ρ σ Γ RR := by
  refine ⟨fun f h hh => XT.seq (X.mono (hx.out f h hh) ?_)⟩
  rintro e ρ' h' ⟨σ', Γ', hk, hh'⟩
  cases e with
  | normal => exact hk.out f h' hh'
  | ret => obtain ⟨v, a, Δ, b, c⟩ := hk; exact ⟨v, a h' hh'.ho, σ', Δ, c, hh'.ent b⟩
  | panic c => exact ⟨σ', Γ', hk, hh'⟩
  | _ => exact hk.elim
theorem XTA.defer {y : Code} {id t : Nat} {f : FuncId} {co : Array Operand} {caps : Array Value} {t1 t2 : TypeId} {s1 s2 : String} {a1 a2 : Array Edge} {ats : Array TypeId} (hE : Enters P f) (ht : Nat.blt t fn.ntmps = true) (hcap : co.map (ev ρ) = caps)
    (hx : XFA P fn.ntmps y (upd ρ t (.func (.func f) #[] caps)) σ Γ (dKA P fn f caps RR)) :
    XTA P fn (.seq (.region id #[⟨some t, .makeFunc (.func f) #[] co, t1, s1, a1, none⟩, ⟨none, .defer { callee := .value (.tmp t), args := #[], argTypes := ats }, t2, s2, a2, none⟩] false) y) ρ σ Γ RR := by
  have key : ∀ (fr : PH) (ρ' : Env) (σ' : PH) (Γ' : List HP) (h' : Heap) (u : FrameMode), Holds σ' Γ' fr h' → CallsDA P f caps u σ' Γ' (fun u' σ' Γ' => settle u' = .returning ∧ ∃ v, ResA P fn ρ' σ' Γ' v ∧ ∃ Δ, Ent Γ' Δ ∧ RR (.returned v) σ' Δ) →
      ∀ w, w.heap = h' → CallsD P f caps u w (fun e' u' w' => Same w w' ∧ (∃ v0, e' = .returned v0) ∧ settle u' = .returning ∧ ∃ v, Res P fn ρ' w'.heap v ∧ ∃ σ' Γ', RR (.returned v) σ' Γ' ∧ Holds σ' Γ' fr w'.heap) := fun fr ρ' σ' Γ' h' u hh hc w hw =>
    (hc fr h' hh w hw).mono fun e' u' w' ⟨a, b, σ2, Γ2, ⟨c, v, d, Δ, i, j⟩, k⟩ => ⟨a, b, c, v, d _ k.ho, σ2, Δ, j, k.ent i⟩
  refine ⟨fun fr h hh => XT.defer hE ht hcap ⟨fun w0 a w hs hw he => wp_mono ((hx.out fr h hh).out w0 a w hs hw he) ?_⟩⟩
  rintro e a' w' ⟨g1, g2, ρ', g3, σ', Γ', hk, hh'⟩
  refine ⟨g1, g2, ρ', g3, ?_⟩
  generalize w'.heap = h' at hh' ⊢
  cases e with
  | normal => exact key fr ρ' σ' Γ' h' _ hh' hk
  | ret => exact key fr ρ' σ' Γ' h' _ hh' hk
  | panic c => exact key fr ρ' σ' Γ' h' _ hh' hk
  | _ => exact hk.elim
theorem enterD3 {f : FuncId} {co : Code} {a b c : Value} (hf : P.funcs[f]? = some fn) (hb : fn.body = some co) (hn : goodName fn = true) (hN : Nat.ble 3 fn.ntmps = true) (hx : XTA P fn co (upd (upd (upd U 0 a) 1 b) 2 c) σ Γ RR) : CallsA P f #[a, b, c] σ Γ RR :=
  ⟨enters hf hb hn, fun fr h hh => enterD hf hb hn hN (fun s => match s with
    | 0 => rfl
    | 1 => rfl
    | 2 => rfl
    | s + 3 => by rw [show (#[a, b, c] : Array Value).getD (s + 3) undef = undef from by simp, upd_ne _ _ _ _ (by omega), upd_ne _ _ _ _ (by omega), upd_ne _ _ _ _ (by omega)]) (hx.out fr h hh)⟩
/-- A closure that recovers first, of four captured variables. -/
theorem CallsDA.recovers4 {f : FuncId} {rest : Code} {id : Nat} {d1 d2 : Nat} {t1 t2 : TypeId} {s1 s2 : String} {a1 a2 : Array Edge} {ats : Array TypeId} {x0 x1 x2 x3 : Value} {u : FrameMode} {R : FrameMode → PH → List HP → Prop}
    (hf : P.funcs[f]? = some fn) (hb : fn.body = some (.seq (.region id #[⟨some d1, .call { callee := .builtin .recover, args := #[], argTypes := ats }, t1, s1, a1, none⟩, ⟨some d2, .assign (.tmp d1), t2, s2, a2, none⟩] false) rest)) (hN : Nat.ble 4 fn.ntmps = true)
    (hd1 : Nat.blt d1 fn.ntmps = true) (hd2 : Nat.blt d2 fn.ntmps = true) (hx : XA P fn.ntmps rest (upd (upd (upd (upd (upd (upd U 0 x0) 1 x1) 2 x2) 3 x3) d1 (recv u).1) d2 (recv u).1) σ Γ (bodyA P fn (RetA fun _ σ' Γ' => R (recv u).2 σ' Γ'))) :
    CallsDA P f #[x0, x1, x2, x3] u σ Γ R := fun fr h hh w hw => by
  refine (calls_recovers (vs := #[x0, x1, x2, x3]) (ρ0 := upd (upd (upd (upd U 0 x0) 1 x1) 2 x2) 3 x3) hf hb hN (fun s => match s with
    | 0 => rfl
    | 1 => rfl
    | 2 => rfl
    | 3 => rfl
    | s + 4 => by rw [show (#[x0, x1, x2, x3] : Array Value).getD (s + 4) undef = undef from by simp, upd_ne _ _ _ _ (by omega), upd_ne _ _ _ _ (by omega), upd_ne _ _ _ _ (by omega), upd_ne _ _ _ _ (by omega)]) hd1 hd2 (XA.toX hx hh) w hw).mono ?_
  rintro e u' w' ⟨rfl, a, σ', Γ', b, c⟩
  cases e with
  | returned v => exact ⟨a, ⟨v, rfl⟩, σ', Γ', b, c⟩
  | _ => exact b.elim
end
end
end X
end Go.Proofs.Ytbbghdkndbpmmaa
