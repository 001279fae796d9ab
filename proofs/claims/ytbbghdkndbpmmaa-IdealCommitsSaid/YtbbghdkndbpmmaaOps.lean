/- Rules for single operations over an environment and a heap. -/
import Derived.Test.YtbbghdkndbpmmaaCore
import Derived.Laws.AppendOwn
namespace Go.Proofs.Ytbbghdkndbpmmaa
namespace X
open Go
section
variable {P : Program} {N : Nat} {all : Array Oper} {rest : List Oper} {ρ : Env} {h : Heap} {K : Kont}

/-- A value that every heap of S gives, and nothing else is done. -/
structure Rd (P : Program) (ρ : Env) (S : Heap → Prop) (op : Op) (ty : TypeId) (v : Value) : Prop where
  out : ∀ (d : Option Tmp) (pos : String) (af : Array Edge) (g : Option (Nat × Bool)) (w : World), S w.heap → (execOp (ev ρ) ⟨d, op, ty, pos, af, g⟩).run P w = .ok (.value v) w
/-- An operation that does something to the heap, or calls a function. -/
structure Wr (P : Program) (ρ : Env) (h : Heap) (op : Op) (ty : TypeId) (R : Value → Heap → Prop) (pk : List PanicEntry → Heap → Prop) : Prop where
  out : ∀ (d : Option Tmp) (pos : String) (af : Array Edge) (g : Option (Nat × Bool)) (a : Act) (w : World) (next : Act → World → Prop) (Q : Exit → Act → World → Prop), a.eval = ev ρ → w.heap = h →
    (∀ v w', Same w w' → R v w'.heap → next (a.put d v) w') → (∀ c w', Same w w' → pk c w'.heap → Q (.panic c) a w') → (⟨d, op, ty, pos, af, g⟩ : Oper).wp P a w next Q
abbrev noP : List PanicEntry → Heap → Prop := fun _ _ => False
/-- From a run that gives a value. -/
theorem Wr.run {op : Op} {ty : TypeId} {R : Value → Heap → Prop} (hr : ∀ d pos af g w, w.heap = h → ∃ v w', (execOp (ev ρ) ⟨d, op, ty, pos, af, g⟩).run P w = .ok (.value v) w' ∧ Same w w' ∧ R v w'.heap) : Wr P ρ h op ty R noP :=
  ⟨fun d pos af g a w next Q he hh hn _ => by
    obtain ⟨v, w', h1, h2, h3⟩ := hr d pos af g w hh
    unfold Oper.wp
    rw [he, h1]
    exact hn v w' h2 h3⟩
theorem Wr.runU {op : Op} {ty : TypeId} {R : Value → Heap → Prop} (hr : ∀ d pos af g w, w.heap = h → ∃ w', (execOp (ev ρ) ⟨d, op, ty, pos, af, g⟩).run P w = .ok .skip w' ∧ Same w w' ∧ R undef w'.heap) : Wr P ρ h op ty R noP :=
  ⟨fun d pos af g a w next Q he hh hn _ => by
    obtain ⟨w', h1, h2, h3⟩ := hr d pos af g w hh
    unfold Oper.wp
    rw [he, h1]
    exact hn undef w' h2 h3⟩
theorem Rd.wr {op : Op} {ty : TypeId} {v : Value} (hr : Rd P ρ (· = h) op ty v) : Wr P ρ h op ty (fun v' h' => v' = v ∧ h' = h) noP :=
  Wr.run fun d pos af g w hw => ⟨v, w, hr.out d pos af g w hw, Same.refl w, rfl, hw⟩
@[reducible] def updO (ρ : Env) : Option Nat → Value → Env
  | some d, v => upd ρ d v
  | none, _ => ρ
def dstOk (N : Nat) : Option Nat → Bool
  | some d => Nat.blt d N
  | none => true
theorem EnvOf.putO {a : Act} (he : EnvOf N a ρ) {d : Option Nat} (hd : dstOk N d = true) (v : Value) : EnvOf N (a.put d v) (updO ρ d v) := by
  cases d with
  | none => exact he
  | some d => exact he.put hd v
theorem put_defers (a : Act) (d : Option Tmp) (v : Value) : (a.put d v).defers = a.defers := by cases d <;> rfl

theorem XO.nil (hk : K .normal ρ h) : XO P N all [] ρ h K := ⟨fun _ _ _ hs hh he => wpList_nil ⟨rfl, hs, ρ, .of he, hh ▸ hk⟩⟩
theorem XO.wr {op : Op} {d : Option Nat} {ty : TypeId} {pos : String} {af : Array Edge} {R : Value → Heap → Prop} {pk : List PanicEntry → Heap → Prop} (hd : dstOk N d = true)
    (hr : Wr P ρ h op ty R pk) (k : ∀ v h', R v h' → XO P N all rest (updO ρ d v) h' K) (kp : ∀ c h', pk c h' → K (.panic c) ρ h') :
    XO P N all (⟨d, op, ty, pos, af, none⟩ :: rest) ρ h K := by
  refine ⟨fun w0 a w hs hh he => ?_⟩
  refine wpList_plain rfl fun K' hK' => ?_
  refine hr.out d pos af none a w _ _ he.eval hh (fun v w' h2 h3 => hK' _ _ ?_) (fun c w' h2 h3 => ⟨rfl, hs.trans h2, ρ, trivial, kp c _ h3⟩)
  have := (k v _ h3).out w0 (a.put d v) w' (hs.trans h2) rfl (he.putO hd v)
  rwa [put_defers] at this
theorem XO.wr0 {op : Op} {d : Option Nat} {ty : TypeId} {pos : String} {af : Array Edge} {R : Value → Heap → Prop} (hd : dstOk N d = true)
    (hr : Wr P ρ h op ty R noP) (k : ∀ v h', R v h' → XO P N all rest (updO ρ d v) h' K) : XO P N all (⟨d, op, ty, pos, af, none⟩ :: rest) ρ h K := XO.wr hd hr k (fun _ _ hp => hp.elim)
/-- One end. -/
theorem XO.one {op : Op} {d : Option Nat} {ty : TypeId} {pos : String} {af : Array Edge} {v : Value} {h' : Heap} (hd : dstOk N d = true)
    (hr : Wr P ρ h op ty (fun v' h'' => v' = v ∧ h'' = h') noP) (k : XO P N all rest (updO ρ d v) h' K) : XO P N all (⟨d, op, ty, pos, af, none⟩ :: rest) ρ h K := XO.wr0 hd hr (by rintro _ _ ⟨rfl, rfl⟩; exact k)
theorem XO.rd {op : Op} {d : Nat} {ty : TypeId} {pos : String} {af : Array Edge} {v : Value} (hd : Nat.blt d N = true)
    (hr : Rd P ρ (· = h) op ty v) (k : XO P N all rest (upd ρ d v) h K) : XO P N all (⟨some d, op, ty, pos, af, none⟩ :: rest) ρ h K := XO.one (d := some d) hd hr.wr k

/-! guards -/
theorem XO.wanted {d : Option Nat} {op : Op} {ty : TypeId} {pos : String} {af : Array Edge} {j : Nat} {b : Bool} {t : Nat} (hj : (all[j]?).bind (·.dst) = some t) (hb : ρ t = .bool b)
    (k : XO P N all (⟨d, op, ty, pos, af, none⟩ :: rest) ρ h K) : XO P N all (⟨d, op, ty, pos, af, some (j, b)⟩ :: rest) ρ h K := by
  refine ⟨fun w0 a w hs hh he => ?_⟩
  have hk := k.out w0 a w hs hh he
  have hy : yielded all a.tmps j = some b := by
    have := he.get t
    rw [hb] at this
    unfold yielded
    rw [hj]
    cases hq : a.tmps[t]? with
    | none => simp [hq, undef] at this
    | some u => simp [hq] at this; subst this; simp [hq]
  unfold wpList at hk ⊢
  rw [if_pos (by simp [Region.wanted])] at hk
  rw [if_pos (by simp [Region.wanted, hy])]
  exact hk
theorem XO.unwanted {d : Nat} {op : Op} {ty : TypeId} {pos : String} {af : Array Edge} {j : Nat} {b c : Bool} {t : Nat} (hd : Nat.blt d N = true) (hj : (all[j]?).bind (·.dst) = some t) (hb : ρ t = .bool c) (hne : (c == b) = false)
    (k : XO P N all rest (upd ρ d undef) h K) : XO P N all (⟨some d, op, ty, pos, af, some (j, b)⟩ :: rest) ρ h K := by
  refine ⟨fun w0 a w hs hh he => ?_⟩
  have hk := k.out w0 (a.put (some d) undef) w hs hh (he.put hd _)
  have hy : yielded all a.tmps j = some c := by
    have := he.get t
    rw [hb] at this
    unfold yielded
    rw [hj]
    cases hq : a.tmps[t]? with
    | none => simp [hq, undef] at this
    | some u => simp [hq] at this; subst this; simp [hq]
  unfold wpList
  rw [if_neg (by simp [Region.wanted, hy]; intro e; subst e; simp at hne)]
  exact hk
/-- A guard that an operation has not run for: what is not there is no word either. -/
theorem XO.unwantedU {d : Nat} {op : Op} {ty : TypeId} {pos : String} {af : Array Edge} {j : Nat} {b : Bool} {t : Nat} (hd : Nat.blt d N = true) (hj : (all[j]?).bind (·.dst) = some t) (hb : ρ t = undef)
    (k : XO P N all rest (upd ρ d undef) h K) : XO P N all (⟨some d, op, ty, pos, af, some (j, b)⟩ :: rest) ρ h K := by
  refine ⟨fun w0 a w hs hh he => ?_⟩
  have hk := k.out w0 (a.put (some d) undef) w hs hh (he.put hd _)
  have hy : yielded all a.tmps j = none := by
    have := he.get t
    rw [hb] at this
    unfold yielded
    rw [hj]
    cases hq : a.tmps[t]? with
    | none => simp [hq]
    | some u => simp [hq] at this; subst this; simp [hq, undef]
  unfold wpList
  rw [if_neg (by simp [Region.wanted, hy])]
  exact hk

theorem XO.wantedP {p : Prop} [Decidable p] {d : Option Nat} {op : Op} {ty : TypeId} {pos : String} {af : Array Edge} {j : Nat} {b : Bool} {t : Nat} (hj : (all[j]?).bind (·.dst) = some t) (hb : ρ t = .bool (decide p)) (hp : decide p = b)
    (k : XO P N all (⟨d, op, ty, pos, af, none⟩ :: rest) ρ h K) : XO P N all (⟨d, op, ty, pos, af, some (j, b)⟩ :: rest) ρ h K := XO.wanted hj (hp ▸ hb) k
theorem XO.unwantedP {p : Prop} [Decidable p] {d : Nat} {op : Op} {ty : TypeId} {pos : String} {af : Array Edge} {j : Nat} {b : Bool} {t : Nat} (hd : Nat.blt d N = true) (hj : (all[j]?).bind (·.dst) = some t) (hb : ρ t = .bool (decide p)) (hp : decide p = !b)
    (k : XO P N all rest (upd ρ d undef) h K) : XO P N all (⟨some d, op, ty, pos, af, some (j, b)⟩ :: rest) ρ h K := XO.unwanted (c := !b) hd hj (hp ▸ hb) (by cases b <;> rfl) k
section ops
variable {d : Nat} {ty : TypeId} {pos : String} {af : Array Edge}
theorem Rd.pure {S : Heap → Prop} {op : Op} {v : Value} (hr : ∀ d pos af g w, (execOp (ev ρ) ⟨d, op, ty, pos, af, g⟩).run P w = .ok (.value v) w) : Rd P ρ S op ty v := ⟨fun d pos af g w _ => hr d pos af g w⟩
section
variable {S : Heap → Prop}
theorem Rd.move {x : Operand} {v : Value} (hv : ev ρ x = v) : Rd P ρ S (.move x) ty v := .pure fun _ _ _ _ _ => by simp [execOp, hv]
theorem Rd.assign {x : Operand} {v : Value} (hv : ev ρ x = v) : Rd P ρ S (.assign x) ty v := .pure fun _ _ _ _ _ => by simp [execOp, hv]
theorem Rd.pickT {c x y : Operand} {v : Value} (hc : ev ρ c = .bool true) (hv : ev ρ x = v) : Rd P ρ S (.pick c x y) ty v := .pure fun _ _ _ _ _ => by simp [execOp, hc, hv, asBool]
theorem Rd.pickF {c x y : Operand} {v : Value} (hc : ev ρ c = .bool false) (hv : ev ρ y = v) : Rd P ρ S (.pick c x y) ty v := .pure fun _ _ _ _ _ => by simp [execOp, hc, hv, asBool]
theorem Rd.pickP {p : Prop} [Decidable p] {b : Bool} {c x y : Operand} {v : Value} (hc : ev ρ c = .bool (decide p)) (hp : decide p = b) (hv : ev ρ (match b with | true => x | false => y) = v) : Rd P ρ S (.pick c x y) ty v := by
  cases b
  · exact Rd.pickF (hp ▸ hc) hv
  · exact Rd.pickT (hp ▸ hc) hv

/-! loads -/
def Ld (P : Program) (h : Heap) (T : TypeId) (g o : Nat) (v : Value) : Prop := ∀ w, w.heap = h → (loadVar T ⟨g, o, none⟩).run P w = .ok v w
theorem Ld.one {T : TypeId} {r : Ty} (hT : tyOf P T = some r) (hk : r.k.agg = false) {g o : Nat} {v : Value} (hc : Cel h g o v) : Ld P h T g o v := by
  intro w hw
  obtain ⟨dd, i, z, h1, h2, -⟩ := tyOf_spec hT
  have ha := (agg_of h2).trans hk
  have hl := hc.cell hw
  unfold loadVar isAgg
  rw [Sem.run_bind, Sem.run_bind, run_underlying h1 w]
  cases dd <;> simp_all
theorem Ld.row {T : TypeId} {r : Ty} (hT : tyOf P T = some r) (hk : r.k.agg = true) {g o : Nat} {vs : List Value} (hc : Row h g o vs) (hn : vs.length = r.size) : Ld P h T g o (.agg vs.toArray) := by
  intro w hw
  obtain ⟨dd, i, z, h1, h2, h3, h4, -⟩ := tyOf_spec hT
  have ha := (agg_of h2).trans hk
  have hl : (loadCells ⟨g, o, none⟩ vs.length).run P w = .ok vs.toArray w :=
    run_loadCells_list (P := P) w ⟨g, o, none⟩ vs (fun j v hv => by rw [addr_add]; exact (hc.cel hv).cell hw)
  unfold loadVar isAgg
  rw [Sem.run_bind, Sem.run_bind, run_underlying h1 w]
  cases dd <;> simp_all [sizeOf, typeInfo]
theorem Ld.blk {T : TypeId} {r : Ty} (hT : tyOf P T = some r) (hk : r.k.agg = true) {g o n : Nat} {l vs : List Value} {T' : TypeId} (hb : Blk h g l T') (hsz : r.size = n) (hv : (l.drop o).take n = vs) (hn : vs.length = n) : Ld P h T g o (.agg vs.toArray) :=
  Ld.row hT hk (hb.row (by rw [hn]; exact hv)) (by rw [hsz]; exact hn)
theorem take_app {us r : List Value} {n : Nat} (h : us.length = n) : (us ++ r).take n = us := by rw [← h]; simp
theorem take_eq {us : List Value} {n : Nat} (h : us.length = n) : us.take n = us := by rw [← h]; simp
theorem Rd.load {T : TypeId} {x : Operand} {g o : Nat} {v : Value} (hx : ev ρ x = .pointer (some ⟨g, o, none⟩)) (hl : ∀ h, S h → Ld P h T g o v) : Rd P ρ S (.load T x) ty v :=
  ⟨fun d pos af gd w hw => by simp [execOp, hx, Instr.loadAt, Instr.sureAddr, hl _ hw w rfl]⟩
theorem Rd.loadE {T : TypeId} {x : Operand} {g o : Nat} {v : Value} (hx : ev ρ x = .pointer (some ⟨g, o, none⟩)) (hl : Ld P h T g o v) : Rd P ρ (· = h) (.load T x) ty v := Rd.load hx (by rintro _ rfl; exact hl)

/-! addresses -/
theorem Rd.fieldAddr {T : TypeId} {x : Operand} {f g o n m : Nat} {r : Ty} {fs : List (TypeId × Nat)} {ft : TypeId} {r' : Ty} (hT : tyOf P T = some r) (hk : r.k = .struct fs) (hf : fs[f]? = some (ft, n)) (hft : tyOf P ft = some r') (hz : Nat.beq r'.size 0 = false)
    (hx : ev ρ x = .pointer (some ⟨g, o, none⟩)) (ho : o + n = m) : Rd P ρ S (.fieldAddr T x f) ty (.pointer (some ⟨g, m, none⟩)) := by
  subst ho
  refine .pure fun d pos af gd w => ?_
  obtain ⟨dd, i, z, e1, e2, -⟩ := tyOf_spec hT
  obtain ⟨dd', i', z', e1', e2', e3', e4', -⟩ := tyOf_spec hft
  have hz' : i'.size ≠ 0 := by rw [e4']; exact beq_ne hz
  rw [hk] at e2
  cases dd <;> simp [kindOf] at e2
  rename_i fields
  subst e2
  have hfl : ∃ fd, fields[f]? = some fd ∧ fd.type = ft ∧ fd.offset = n := by
    simp only [List.getElem?_map, Option.map_eq_some_iff] at hf
    obtain ⟨fd, h1, h2⟩ := hf
    simp only [Prod.mk.injEq] at h2
    exact ⟨fd, by simpa using h1, h2.1, h2.2⟩
  obtain ⟨fd, h1, rfl, rfl⟩ := hfl
  simp [execOp, Instr.fieldAt, run_underlying e1, hx, h1, Instr.sureAddr, fieldPlace, sizeOf, typeInfo, e3', hz', addr_add]
theorem Rd.indexSlice {T : TypeId} {x y : Operand} {g o len cap e sz m : Nat} {i : Int} {kk : IntKind} {r re : Ty} (hT : tyOf P T = some r) (hk : r.k = .slice e) (hE : tyOf P e = some re)
    (hx : ev ρ x = .slice (some ⟨g, o, none⟩) len cap) (hy : ev ρ y = .int kk i) (hlt : 0 ≤ i ∧ i < len) (hsz : re.size = sz) (ho : o + i.toNat * sz = m) : Rd P ρ S (.indexAddr T x y) ty (.pointer (some ⟨g, m, none⟩)) := by
  subst hsz; subst ho
  refine .pure fun d pos af gd w => ?_
  obtain ⟨dd, i', z, e1, e2, -⟩ := tyOf_spec hT
  obtain ⟨dd', i'', z', e1', e2', e3', e4', -⟩ := tyOf_spec hE
  rw [hk] at e2
  cases dd <;> simp [kindOf] at e2
  subst e2
  simp [execOp, Instr.indexAt, run_underlying e1, hx, hy, asIntOf, sizeOf, typeInfo, e3', e4', addr_add, hlt]
theorem Rd.indexArray {T : TypeId} {x y : Operand} {g o n e sz m : Nat} {i : Int} {kk : IntKind} {r re : Ty} (hT : tyOf P T = some r) (hk : r.k = .array n e) (hE : tyOf P e = some re)
    (hx : ev ρ x = .pointer (some ⟨g, o, none⟩)) (hy : ev ρ y = .int kk i) (hlt : 0 ≤ i ∧ i < n) (hsz : re.size = sz) (ho : o + i.toNat * sz = m) : Rd P ρ S (.indexAddr T x y) ty (.pointer (some ⟨g, m, none⟩)) := by
  subst hsz; subst ho
  refine .pure fun d pos af gd w => ?_
  obtain ⟨dd, i', z, e1, e2, -⟩ := tyOf_spec hT
  obtain ⟨dd', i'', z', e1', e2', e3', e4', -⟩ := tyOf_spec hE
  rw [hk] at e2
  cases dd <;> simp [kindOf] at e2
  obtain ⟨rfl, rfl⟩ := e2
  simp [execOp, Instr.indexAt, run_underlying e1, hx, hy, asIntOf, sizeOf, typeInfo, e3', e4', addr_add, hlt, Instr.sureAddr]
theorem Rd.nilCheck {x : Operand} {a : Addr} (hx : ev ρ x = .pointer (some a)) : Rd P ρ S (.nilCheck x) ty (.pointer (some a)) := .pure fun _ _ _ _ _ => by simp [execOp, hx]
/-- An element of a whole array. -/
theorem Rd.indexAgg {T : TypeId} {x y : Operand} {n e : Nat} {i : Int} {kk : IntKind} {r re : Ty} {cs : Array Value} {v : Value} (hT : tyOf P T = some r) (hk : r.k = .array n e) (hE : tyOf P e = some re) (hka : re.k.agg = false) (hsz : re.size = 1)
    (hx : ev ρ x = .agg cs) (hy : ev ρ y = .int kk i) (hlt : 0 ≤ i ∧ i < n) (hv : cs[i.toNat]? = some v) : Rd P ρ S (.index T x y) ty v := by
  refine .pure fun d pos af gd w => ?_
  obtain ⟨dd, i', z, e1, e2, -⟩ := tyOf_spec hT
  obtain ⟨dd', i'', z', e1', e2', e3', e4', -⟩ := tyOf_spec hE
  have ha := (agg_of e2').trans hka
  have hag : (isAgg e).run P w = .ok false w := by
    unfold isAgg; rw [Sem.run_bind, run_underlying e1' w]; cases dd' <;> simp_all
  rw [hk] at e2
  cases dd <;> simp [kindOf] at e2
  obtain ⟨rfl, rfl⟩ := e2
  simp [execOp, Instr.index, run_underlying e1, hx, hy, asIntOf, sizeOf, typeInfo, e3', e4', hlt, part, hag, hsz, hv]

/-! numbers -/
theorem run_bin {o : BinOp} {T : TypeId} {x y : Operand} {kk : IntKind} {a b : Int} (hx : ev ρ x = .int kk a) (hy : ev ρ y = .int kk b) (w : World) :
    (do eqGuard o T x y (ev ρ x) (ev ρ y); binOp o T (ev ρ x) (ev ρ y) : Sem Value).run P w = (binOp o T (.int kk a) (.int kk b)).run P w := by
  simp [eqGuard, hx, hy]
theorem Rd.bin {o : BinOp} {T T' : TypeId} {x y : Operand} {kk : IntKind} {a b : Int} {v : Value} (hx : ev ρ x = .int kk a) (hy : ev ρ y = .int kk b) (hr : ∀ w, (binOp o T (.int kk a) (.int kk b)).run P w = .ok v w) : Rd P ρ S (.binOp o T x y T') ty v :=
  .pure fun _ _ _ _ w => by
    have := run_bin (P := P) (o := o) (T := T) hx hy w
    simp only [execOp]
    rw [Sem.run_bind, this, hr w]
    rfl
section bin
variable {T T' : TypeId} {x y : Operand} {kk : IntKind} {a b : Int}
theorem Rd.add (hx : ev ρ x = .int kk a) (hy : ev ρ y = .int kk b) : Rd P ρ S (.binOp .add T x y T') ty (.int kk (kk.wrap (a + b))) := .bin hx hy fun w => by simp [binOp, Op.intArith]
theorem Rd.sub (hx : ev ρ x = .int kk a) (hy : ev ρ y = .int kk b) : Rd P ρ S (.binOp .sub T x y T') ty (.int kk (kk.wrap (a - b))) := .bin hx hy fun w => by simp [binOp, Op.intArith]
theorem Rd.mul (hx : ev ρ x = .int kk a) (hy : ev ρ y = .int kk b) : Rd P ρ S (.binOp .mul T x y T') ty (.int kk (kk.wrap (a * b))) := .bin hx hy fun w => by simp [binOp, Op.intArith]
theorem wrap64_in {n : Int} (h1 : -9223372036854775808 ≤ n) (h2 : n ≤ 9223372036854775807) : IntKind.i64.wrap n = n := IntWalk.i64_in n ⟨h1, h2⟩
theorem Rd.addi {c : Int} (hx : ev ρ x = .int .i64 a) (hy : ev ρ y = .int .i64 b) (hc : a + b = c) (hr : -9223372036854775808 ≤ c ∧ c ≤ 9223372036854775807) : Rd P ρ S (.binOp .add T x y T') ty (.int .i64 c) := by
  have := Rd.add (P := P) (S := S) (T := T) (T' := T') (ty := ty) hx hy; rwa [hc, wrap64_in hr.1 hr.2] at this
theorem Rd.subi {c : Int} (hx : ev ρ x = .int .i64 a) (hy : ev ρ y = .int .i64 b) (hc : a - b = c) (hr : -9223372036854775808 ≤ c ∧ c ≤ 9223372036854775807) : Rd P ρ S (.binOp .sub T x y T') ty (.int .i64 c) := by
  have := Rd.sub (P := P) (S := S) (T := T) (T' := T') (ty := ty) hx hy; rwa [hc, wrap64_in hr.1 hr.2] at this
theorem Rd.muli {c : Int} (hx : ev ρ x = .int .i64 a) (hy : ev ρ y = .int .i64 b) (hc : a * b = c) (hr : -9223372036854775808 ≤ c ∧ c ≤ 9223372036854775807) : Rd P ρ S (.binOp .mul T x y T') ty (.int .i64 c) := by
  have := Rd.mul (P := P) (S := S) (T := T) (T' := T') (ty := ty) hx hy; rwa [hc, wrap64_in hr.1 hr.2] at this
theorem Rd.lss (hx : ev ρ x = .int kk a) (hy : ev ρ y = .int kk b) : Rd P ρ S (.binOp .lss T x y T') ty (.bool (decide (a < b))) := .bin hx hy fun w => by simp [binOp, Op.intCmp]
theorem Rd.leq (hx : ev ρ x = .int kk a) (hy : ev ρ y = .int kk b) : Rd P ρ S (.binOp .leq T x y T') ty (.bool (decide (a ≤ b))) := .bin hx hy fun w => by simp [binOp, Op.intCmp]
theorem Rd.gtr (hx : ev ρ x = .int kk a) (hy : ev ρ y = .int kk b) : Rd P ρ S (.binOp .gtr T x y T') ty (.bool (decide (b < a))) := .bin hx hy fun w => by simp [binOp, Op.intCmp]
theorem Rd.geq (hx : ev ρ x = .int kk a) (hy : ev ρ y = .int kk b) : Rd P ρ S (.binOp .geq T x y T') ty (.bool (decide (b ≤ a))) := .bin hx hy fun w => by simp [binOp, Op.intCmp]
theorem Rd.eql (hx : ev ρ x = .int kk a) (hy : ev ρ y = .int kk b) : Rd P ρ S (.binOp .eql T x y T') ty (.bool (decide (a = b))) := .bin hx hy fun w => by simp [binOp, Op.intCmp]; rfl
theorem Rd.neq (hx : ev ρ x = .int kk a) (hy : ev ρ y = .int kk b) : Rd P ρ S (.binOp .neq T x y T') ty (.bool (decide (a ≠ b))) := .bin hx hy fun w => by simp [binOp, Op.intCmp]; by_cases e : a = b <;> simp [e]
theorem Rd.quo (hx : ev ρ x = .int kk a) (hy : ev ρ y = .int kk b) (hb : b ≠ 0) : Rd P ρ S (.binOp .quo T x y T') ty (.int kk (kk.wrap (a.tdiv b))) := .bin hx hy fun w => by simp [binOp, Op.intDiv, hb]
theorem Rd.rem (hx : ev ρ x = .int kk a) (hy : ev ρ y = .int kk b) (hb : b ≠ 0) : Rd P ρ S (.binOp .rem T x y T') ty (.int kk (a.tmod b)) := .bin hx hy fun w => by simp [binOp, Op.intDiv, hb]
theorem Rd.shr {yk : IntKind} (hx : ev ρ x = .int kk a) (hy : ev ρ y = .int yk b) (hb : 0 ≤ b) : Rd P ρ S (.binOp .shr T x y T') ty (.int kk (a.fdiv (2 ^ (min b.toNat kk.bits)))) :=
  .pure fun _ _ _ _ w => by simp [execOp, eqGuard, hx, hy, binOp, Op.shift, Int.not_lt.2 hb]
theorem Rd.and (hx : ev ρ x = .int kk a) (hy : ev ρ y = .int kk b) : Rd P ρ S (.binOp .and T x y T') ty (.int kk (kk.wrap (BitVec.ofInt kk.bits a &&& BitVec.ofInt kk.bits b).toNat)) := .bin hx hy fun w => by simp [binOp, Op.intBits]
theorem Rd.remi {c : Int} (hx : ev ρ x = .int kk a) (hy : ev ρ y = .int kk b) (hb : b ≠ 0) (hc : a.tmod b = c) : Rd P ρ S (.binOp .rem T x y T') ty (.int kk c) := hc ▸ Rd.rem hx hy hb
theorem Rd.shri {yk : IntKind} {c : Int} (hx : ev ρ x = .int kk a) (hy : ev ρ y = .int yk b) (hb : 0 ≤ b) (hc : a.fdiv (2 ^ (min b.toNat kk.bits)) = c) : Rd P ρ S (.binOp .shr T x y T') ty (.int kk c) := hc ▸ Rd.shr hx hy hb
theorem Rd.andi {c : Int} (hx : ev ρ x = .int kk a) (hy : ev ρ y = .int kk b) (hc : kk.wrap (BitVec.ofInt kk.bits a &&& BitVec.ofInt kk.bits b).toNat = c) : Rd P ρ S (.binOp .and T x y T') ty (.int kk c) := hc ▸ Rd.and hx hy
theorem Rd.not {c : Bool} (hx : ev ρ x = .bool c) : Rd P ρ S (.unOp .not T x) ty (.bool (!c)) := .pure fun _ _ _ _ w => by simp [execOp, hx, Op.unary]
theorem Rd.notp {p : Prop} [Decidable p] (hx : ev ρ x = .bool (decide p)) : Rd P ρ S (.unOp .not T x) ty (.bool (decide (¬ p))) := by rw [decide_not]; exact Rd.not hx
theorem run_equal_bool {r : Ty} {c e : Bool} (hT : tyOf P T = some r) (hk : r.k = .bool) (w : World) : (Op.equal T (.bool c) (.bool e)).run P w = .ok (c == e) w := by
  obtain ⟨dd, i, z, e1, e2, -⟩ := tyOf_spec hT
  rw [hk] at e2
  cases dd <;> simp [kindOf] at e2
  show (Op.equalIn (9999 + 1) T (.bool c) (.bool e)).run P w = _
  rw [Op.equalIn]
  simp only [Sem.run_bind, run_underlying e1, Result.andThen_ok]
  rfl
theorem Rd.eqlb {c e : Bool} {r : Ty} (hT : tyOf P T = some r) (hk : r.k = .bool) (hx : ev ρ x = .bool c) (hy : ev ρ y = .bool e) : Rd P ρ S (.binOp .eql T x y T') ty (.bool (decide (c = e))) := by
  refine .pure fun d pos af gd w => ?_
  have h1 := run_equal_bool (P := P) (T := T) (c := c) (e := e) hT hk w
  simp only [execOp, eqGuard, hx, hy, binOp, Sem.run_bind]
  simp [h1]
  cases c <;> cases e <;> rfl
theorem Rd.neqb {c e : Bool} {r : Ty} (hT : tyOf P T = some r) (hk : r.k = .bool) (hx : ev ρ x = .bool c) (hy : ev ρ y = .bool e) : Rd P ρ S (.binOp .neq T x y T') ty (.bool (decide (c ≠ e))) := by
  refine .pure fun d pos af gd w => ?_
  have h1 := run_equal_bool (P := P) (T := T) (c := c) (e := e) hT hk w
  simp only [execOp, eqGuard, hx, hy, binOp, Sem.run_bind]
  simp [h1]
  cases c <;> cases e <;> rfl
theorem Rd.convInt {T1 T2 : TypeId} {r1 r2 : Ty} {k2 : IntKind} (hT1 : tyOf P T1 = some r1) (hT2 : tyOf P T2 = some r2) (hk2 : r2.k = .int k2) (hx : ev ρ x = .int kk a) : Rd P ρ S (.convert T1 T2 x) ty (.int k2 (k2.wrap a)) := by
  refine .pure fun d pos af gd w => ?_
  obtain ⟨dd, i, z, e1, e2, -⟩ := tyOf_spec hT1
  obtain ⟨dd', i', z', e1', e2', -⟩ := tyOf_spec hT2
  rw [hk2] at e2'
  cases dd' <;> simp [kindOf] at e2'
  subst e2'
  simp [execOp, convert, run_underlying e1, run_underlying e1', hx, Conv.intToInt]
end bin

/-! lists -/
theorem Rd.lenSlice {x : Operand} {T : TypeId} {r : Ty} {e : TypeId} {a : Option Addr} {n c : Nat} (hT : tyOf P T = some r) (hk : r.k = .slice e) (hx : ev ρ x = .slice a n c) : Rd P ρ S (.call { callee := .builtin .len, args := #[x], argTypes := #[T] }) ty (.int .i64 n) := by
  refine .pure fun d pos af gd w => ?_
  obtain ⟨dd, i, z, e1, e2, -⟩ := tyOf_spec hT
  rw [hk] at e2
  cases dd <;> simp [kindOf] at e2
  simp [execOp, resolve, invoke, builtin, hx, Builtin.len_, run_underlying e1, goInt]
theorem Rd.lenString {x : Operand} {T : TypeId} {r : Ty} {s : ByteArray} (hT : tyOf P T = some r) (hk : r.k = .string) (hx : ev ρ x = .string s) : Rd P ρ S (.call { callee := .builtin .len, args := #[x], argTypes := #[T] }) ty (.int .i64 s.size) := by
  refine .pure fun d pos af gd w => ?_
  obtain ⟨dd, i, z, e1, e2, -⟩ := tyOf_spec hT
  rw [hk] at e2
  cases dd <;> simp [kindOf] at e2
  simp [execOp, resolve, invoke, builtin, hx, Builtin.len_, run_underlying e1, goInt]
theorem Rd.extract {x : Operand} {i : Nat} {vs : Array Value} {v : Value} (hx : ev ρ x = .tuple vs) (hv : vs[i]? = some v) : Rd P ρ S (.extract x i) ty v := .pure fun _ _ _ _ w => by simp [execOp, hx, Instr.extract, hv]
theorem Rd.makeFunc0 {fn : Fn} : Rd P ρ S (.makeFunc fn #[] #[]) ty (.func fn (List.toArray []) (List.toArray [])) := .pure fun _ _ _ _ w => by simp [execOp, Instr.makeFunc]
theorem Rd.makeFunc1 {fn : Fn} {x : Operand} {v : Value} (h1 : ev ρ x = v) : Rd P ρ S (.makeFunc fn #[] #[x]) ty (.func fn (List.toArray []) (List.toArray [v])) := .pure fun _ _ _ _ w => by simp [execOp, Instr.makeFunc, h1]
theorem Rd.makeFunc2 {fn : Fn} {x y : Operand} {v u : Value} (h1 : ev ρ x = v) (h2 : ev ρ y = u) : Rd P ρ S (.makeFunc fn #[] #[x, y]) ty (.func fn (List.toArray []) (List.toArray [v, u])) := .pure fun _ _ _ _ w => by simp [execOp, Instr.makeFunc, h1, h2]
theorem Rd.makeFunc {fn : Fn} {first cap : Array Operand} {u v : Array Value} (h1 : first.map (ev ρ) = u) (h2 : cap.map (ev ρ) = v) : Rd P ρ S (.makeFunc fn first cap) ty (.func fn u v) := .pure fun _ _ _ _ w => by simp [execOp, Instr.makeFunc, h1, h2]
end

/-! stores -/
theorem heap_setRow (w : World) (g : Nat) (cur cs : Array Value) (T : TypeId) (hg : w.heap[g]? = some (.cells cur T (0, 0))) : (w.setRow g cs).heap = w.heap.setIfInBounds g (.cells cs T (0, 0)) := by
  apply Array.ext_getElem?
  intro i
  simp only [World.setRow, Array.getElem?_modify, Array.getElem?_setIfInBounds]
  by_cases e : g = i
  · subst e
    have hl := lt_of_get hg
    have hg' : w.heap[g] = .cells cur T (0, 0) := by rw [Array.getElem?_eq_getElem hl] at hg; simpa using hg
    simp [hl, hg']
  · simp [e]
def ones (vs : List Value) : Prop := ∀ v ∈ vs, v.oneCell' = true
theorem ones_lit {vs : List Value} (h : vs.all (·.oneCell') = true) : ones vs := by simpa [ones] using h
theorem ones_cons {v : Value} {vs : List Value} (h1 : v.oneCell' = true) (h2 : ones vs) : ones (v :: vs) := by intro u hu; simp at hu; rcases hu with rfl | hu; exact h1; exact h2 u hu
theorem ones_append {us vs : List Value} (h1 : ones us) (h2 : ones vs) : ones (us ++ vs) := by intro u hu; simp at hu; rcases hu with hu | hu; exact h1 u hu; exact h2 u hu
theorem Wr.store {T : TypeId} {x y : Operand} {g o : Nat} {v : Value} {vs : List Value} {r : Ty} {l l' : List Value} {T' : TypeId} (hT : tyOf P T = some r) (hx : ev ρ x = .pointer (some ⟨g, o, none⟩)) (hy : ev ρ y = v) (hv : v.cells = vs.toArray)
    (hb : Blk h g l T') (hn : vs.length = r.size) (hfit : o + r.size ≤ l.length) (h1 : ones vs) (hh : splice l o vs = l') : Wr P ρ h (.store T x y) ty (fun v' h' => v' = undef ∧ h' = hset h g l' T') noP := by
  refine Wr.runU fun d pos af gd w hw => ?_
  obtain ⟨dd, i, z, e1, e2, e3, e4, -⟩ := tyOf_spec hT
  have hg : w.heap[g]? = some (.cells l.toArray T' (0, 0)) := by rw [hw]; exact hb.get
  have hst := run_storeCells_at P g o T' vs 0 l.toArray w hg (by simp; omega) h1
  have hheap := heap_setRow w g l.toArray (l.take o ++ vs ++ l.drop (o + vs.length)).toArray T' hg
  refine ⟨w.setRow g (l.take o ++ vs ++ l.drop (o + vs.length)).toArray, ?_, ⟨rfl, rfl, rfl⟩, rfl, ?_⟩
  · simp only [Nat.add_zero] at hst
    have e5 : v.cells.size = i.size := by rw [hv]; simp; omega
    simp [execOp, Instr.storeAt, Instr.sureAddr, hx, hy, storeVar, sizeOf, typeInfo, e3, e5]
    simp [hv]
    simp at hst
    simp [hst]
  · rw [hheap, ← hh, hw]; rfl

/-! new blocks -/
theorem Wr.alloc {T : TypeId} {r : Ty} {n : Nat} (hT : tyOf P T = some r) (hn : h.size = n) : Wr P ρ h (.alloc T) ty (fun v h' => v = .pointer (some ⟨n, 0, none⟩) ∧ h' = h.push (.cells r.zero.toArray T (0, 0))) noP := by
  subst hn
  refine Wr.run fun d pos af gd w hw => ?_
  obtain ⟨dd, i, z, e1, e2, e3, e4, e5, e6, e7⟩ := tyOf_spec hT
  refine ⟨_, w.alloc (.cells z.cells T (0, 0)), ?_, ⟨rfl, rfl, rfl⟩, rfl, ?_⟩
  · simp [execOp, Instr.alloc, zeroValue, typeInfo, e3, e6, newVar, newRow, hw]
  · rw [← e7, ← hw, Array.toArray_toList]; rfl
theorem Wr.box {T : TypeId} {x : Operand} {v : Value} {n : Nat} {l : List Value} (hx : ev ρ x = v) (hn : h.size = n) (hl : v.cells = l.toArray) : Wr P ρ h (.box T x) ty (fun v' h' => v' = .pointer (some ⟨n, 0, none⟩) ∧ h' = h.push (.cells l.toArray T (0, 0))) noP := by
  subst hn
  rw [← hl]
  refine Wr.run fun d pos af gd w hw => ?_
  refine ⟨_, w.alloc (.cells v.cells T (0, 0)), ?_, ⟨rfl, rfl, rfl⟩, rfl, ?_⟩
  · simp [execOp, Instr.box, newVar, newRow, hw, hx]
  · rw [← hw]; rfl
/-- A slice of one element. -/
theorem Wr.slice1 {T e : TypeId} {x : Operand} {v : Value} {n : Nat} {r re : Ty} {l : List Value} (hT : tyOf P T = some r) (hk : r.k = .slice e) (hE : tyOf P e = some re) (hx : ev ρ x = v) (hn : h.size = n) (hl : v.cells = l.toArray) (hln : l.length = re.size) (hz : re.zero.length = re.size) (hs : re.size ≤ 1000) (hs0 : Nat.beq re.size 0 = false) :
    Wr P ρ h (.buildSlice T 1 #[(0, x)]) ty (fun v' h' => v' = .slice (some ⟨n, 0, none⟩) 1 1 ∧ h' = h.push (.cells l.toArray e (0, 0))) noP := by
  subst hn
  refine Wr.run fun d pos af gd w hw => ?_
  obtain ⟨dd, i, z, e1, e2, -⟩ := tyOf_spec hT
  obtain ⟨dd', i', z', e1', e2', e3', e4', e5', e6', e7'⟩ := tyOf_spec hE
  have hs0' : re.size ≠ 0 := beq_ne hs0
  rw [hk] at e2
  cases dd <;> simp [kindOf] at e2
  rw [e2] at e1
  clear e2
  have hzs : z'.cells.size = re.size := by rw [← Array.length_toList, e7', hz]
  have hfold : ∀ (cs : List Value) (k : Nat) (acc : Array Value), k + cs.length ≤ acc.size → ((cs.zipIdx k).foldl (fun (a : Array Value) (p : Value × Nat) => a.setIfInBounds p.2 p.1) acc).toList = acc.toList.take k ++ cs ++ acc.toList.drop (k + cs.length) := by
    intro cs
    induction cs with
    | nil => intro k acc hk; simp
    | cons c cs ih =>
      intro k acc hk
      simp only [List.length_cons] at hk
      simp only [List.zipIdx_cons, List.foldl_cons]
      rw [ih (k + 1) _ (by simp; omega)]
      simp only [Array.toList_setIfInBounds, List.length_cons]
      have := list_seg_step acc.toList k c cs (by simp; omega)
      simpa [Nat.add_assoc, Nat.add_comm 1] using this
  have hsz : ((Array.range re.size).map (z'.cells[· % z'.cells.size]!)).size = re.size := by simp
  have hcells : Array.foldl (fun (cs : Array Value) (p : Value × Nat) => cs.setIfInBounds (0 + p.2) p.1) ((Array.range re.size).map (z'.cells[· % z'.cells.size]!)) l.toArray.zipIdx = l.toArray := by
    apply Array.ext'
    rw [← Array.foldl_toList]
    have := hfold l 0 ((Array.range re.size).map (z'.cells[· % z'.cells.size]!)) (by rw [hsz]; omega)
    simp only [Nat.zero_add, List.take_zero, List.nil_append] at this ⊢
    simp only [Array.toList_zipIdx]
    rw [this, List.drop_eq_nil_of_le (by simp; omega), List.append_nil]
  refine ⟨_, w.alloc (.cells l.toArray e (0, 0)), ?_, ⟨rfl, rfl, rfl⟩, rfl, by rw [← hw]; rfl⟩
  have hfill : Instr.fill (fun i => some (i * re.size, re.size)) ((Array.range re.size).map (z'.cells[· % z'.cells.size]!)) [(0, v)] = some l.toArray := by
    have hc : v.cells.size = re.size := by rw [hl]; simpa using hln
    simp only [Instr.fill, Nat.zero_mul, hc, hl]
    rw [if_neg (by simp; omega), hcells]
  simp [execOp, Instr.buildSlice, run_underlying e1, hx, sizeOf, typeInfo, e3', e4', zeroValue, e6', Nat.not_lt.2 (show re.size ≤ 16777216 by omega), hs0', hw, newRow]
  simp [hzs] at hfill
  rw [hzs, hfill]
  simp [hw, newRow]
end ops

/-! calls -/
def Enters (P : Program) (f : FuncId) : Prop := ∀ args w, (callFunc f args).run P w = .ok (.enter f args) w
def CallsX (P : Program) (f : FuncId) (vs : Array Value) (h : Heap) (R : Ending → Heap → Prop) : Prop :=
  Enters P f ∧ ∀ w, w.heap = h → Calls P f vs w (fun e w' => Same w w' ∧ R e w'.heap)
def Ret (R : Value → Heap → Prop) : Ending → Heap → Prop
  | .returned v, h => R v h
  | _, _ => False
theorem CallsX.mono {f : FuncId} {vs : Array Value} {R R' : Ending → Heap → Prop} (hc : CallsX P f vs h R) (hr : ∀ e h', R e h' → R' e h') : CallsX P f vs h R' :=
  ⟨hc.1, fun w hw => (hc.2 w hw).mono fun e w' ⟨s, r⟩ => ⟨s, hr _ _ r⟩⟩
theorem CallsX.ret {f : FuncId} {vs : Array Value} {R R' : Value → Heap → Prop} (hc : CallsX P f vs h (Ret R)) (hr : ∀ v h', R v h' → R' v h') : CallsX P f vs h (Ret R') :=
  CallsX.mono hc fun e h' he => by cases e <;> first | exact hr _ _ he | exact he
theorem Wr.callG {f : FuncId} {fo : Operand} {first cap : List Value} {args : List Operand} {ats : Array TypeId} {vs : List Value} {ty : TypeId} {R : Ending → Heap → Prop} (hf : ev ρ fo = .func (.func f) first.toArray cap.toArray)
    (hc : CallsX P f vs.toArray h R) (hv : first ++ args.map (ev ρ) ++ cap = vs) (ko : ∀ h', ¬ R .outgrown h') :
    Wr P ρ h (.call { callee := .value fo, args := args.toArray, argTypes := ats }) ty (fun v h' => R (.returned v) h') (fun c h' => R (.panicked c) h') := by
  refine ⟨fun d pos af g a w next Q he hh hn hp => ?_⟩
  unfold Oper.wp
  have hrun : (execOp (ev ρ) ⟨d, .call { callee := .value fo, args := args.toArray, argTypes := ats }, ty, pos, af, g⟩).run P w = .ok (.enter f vs.toArray) w := by
    simp only [execOp, resolve, Sem.run_bind, hf, Deferred.ofValue, Sem.run_pure, Result.andThen_ok, invoke]
    have e : first.toArray ++ Array.map (ev ρ) args.toArray ++ cap.toArray = vs.toArray := by rw [← hv]; simp
    rw [e]; exact hc.1 _ _
  rw [he, hrun, Oper.upon_enter]
  refine (hc.2 w hh).mono ?_
  rintro e w' ⟨s, r⟩
  cases e with
  | returned v => exact hn v w' s r
  | panicked c => exact hp c w' s r
  | outgrown => exact absurd r (ko _)
theorem Wr.callV {f : FuncId} {fo : Operand} {first cap : List Value} {args : List Operand} {ats : Array TypeId} {vs : List Value} {ty : TypeId} {R : Value → Heap → Prop} (hf : ev ρ fo = .func (.func f) first.toArray cap.toArray)
    (hc : CallsX P f vs.toArray h (Ret R)) (hv : first ++ args.map (ev ρ) ++ cap = vs) : Wr P ρ h (.call { callee := .value fo, args := args.toArray, argTypes := ats }) ty R noP :=
  Wr.callG hf hc hv (fun _ hp => hp)
theorem Wr.call {f : FuncId} {args : List Operand} {ats : Array TypeId} {vs : List Value} {ty : TypeId} {R : Value → Heap → Prop} (hc : CallsX P f vs.toArray h (Ret R)) (hv : args.map (ev ρ) = vs) :
    Wr P ρ h (.call { callee := .value (.func f), args := args.toArray, argTypes := ats }) ty R noP :=
  Wr.callV (first := []) (cap := []) rfl hc (by simpa using hv)

/-! a function's body -/
def init (vs : Array Value) : Env := fun s => vs.getD s undef
def Res (P : Program) (fn : Func) (ρ : Env) (h : Heap) (v : Value) : Prop := ∀ (w : World) (a : Act), w.heap = h → EnvOf fn.ntmps a ρ → (results fn a.tmps).run P w = .ok v w
def bodyK (P : Program) (fn : Func) (R : Ending → Heap → Prop) : Kont
  | .normal, ρ, h | .ret, ρ, h => ∃ v, Res P fn ρ h v ∧ R (.returned v) h
  | .panic c, _, h => R (.panicked c) h
  | _, _, _ => False
def goodName (fn : Func) : Bool := fn.name != "runtime.NumGoroutine"
theorem enters {f : FuncId} {fn : Func} {c : Code} (hf : P.funcs[f]? = some fn) (hb : fn.body = some c) (hn : goodName fn = true) : Enters P f := by
  intro args w
  have hn' : ¬ fn.name = "runtime.NumGoroutine" := by simpa [goodName] using hn
  simp [callFunc, hf, hn', hb]
theorem enter {f : FuncId} {fn : Func} {c : Code} {vs : Array Value} {ρ0 : Env} {R : Ending → Heap → Prop} (hf : P.funcs[f]? = some fn) (hb : fn.body = some c) (hn : goodName fn = true) (hN : Nat.ble vs.size fn.ntmps = true)
    (h0 : ∀ s, vs.getD s undef = ρ0 s) (hx : X P fn.ntmps c ρ0 h (bodyK P fn R)) : CallsX P f vs h R := by
  refine ⟨enters hf hb hn, fun w hw => calls_of_wp hf hb ?_⟩
  have hN' : vs.size ≤ fn.ntmps := Nat.le_of_ble_eq_true hN
  have he : EnvOf fn.ntmps { tmps := vs ++ Array.replicate (fn.ntmps - vs.size) undef, defers := [] } ρ0 := by
    refine ⟨by simp; omega, fun s => ?_⟩
    rw [← h0 s]
    simp only [Array.getD_eq_getD_getElem?, Array.getElem?_append, Array.getElem?_replicate]
    by_cases e : s < vs.size
    · simp [e]
    · simp [e]; split <;> simp
  refine wp_mono (hx.out w _ w (Same.refl w) hw he) ?_
  rintro e a' w' ⟨h1, h2, ρ', h3, h4⟩
  cases e with
  | normal => obtain ⟨v, hr, hR⟩ := h4; exact ⟨h1, v, hr w' a' rfl h3, h2, hR⟩
  | ret => obtain ⟨v, hr, hR⟩ := h4; exact ⟨h1, v, hr w' a' rfl h3, h2, hR⟩
  | panic c => exact ⟨h1, h2, h4⟩
  | _ => exact h4.elim
@[reducible] def U : Env := fun _ => undef
theorem enter0 {f : FuncId} {fn : Func} {co : Code} {R : Ending → Heap → Prop} (hf : P.funcs[f]? = some fn) (hb : fn.body = some co) (hn : goodName fn = true) (hN : Nat.ble 0 fn.ntmps = true)
    (hx : X P fn.ntmps co U h (bodyK P fn R)) : CallsX P f #[] h R :=
  enter hf hb hn hN (fun s => match s with
    | s => by simp) hx
theorem enter1 {f : FuncId} {fn : Func} {co : Code} {a : Value} {R : Ending → Heap → Prop} (hf : P.funcs[f]? = some fn) (hb : fn.body = some co) (hn : goodName fn = true) (hN : Nat.ble 1 fn.ntmps = true)
    (hx : X P fn.ntmps co (upd U 0 a) h (bodyK P fn R)) : CallsX P f #[a] h R :=
  enter hf hb hn hN (fun s => match s with
    | 0 => rfl
    | s + 1 => by rw [show (#[a] : Array Value).getD (s + 1) undef = undef from by simp, upd_ne _ _ _ _ (by omega)]) hx
theorem enter2 {f : FuncId} {fn : Func} {co : Code} {a b : Value} {R : Ending → Heap → Prop} (hf : P.funcs[f]? = some fn) (hb : fn.body = some co) (hn : goodName fn = true) (hN : Nat.ble 2 fn.ntmps = true)
    (hx : X P fn.ntmps co (upd (upd U 0 a) 1 b) h (bodyK P fn R)) : CallsX P f #[a, b] h R :=
  enter hf hb hn hN (fun s => match s with
    | 0 => rfl
    | 1 => rfl
    | s + 2 => by rw [show (#[a, b] : Array Value).getD (s + 2) undef = undef from by simp, upd_ne _ _ _ _ (by omega), upd_ne _ _ _ _ (by omega)]) hx
theorem enter3 {f : FuncId} {fn : Func} {co : Code} {a b c : Value} {R : Ending → Heap → Prop} (hf : P.funcs[f]? = some fn) (hb : fn.body = some co) (hn : goodName fn = true) (hN : Nat.ble 3 fn.ntmps = true)
    (hx : X P fn.ntmps co (upd (upd (upd U 0 a) 1 b) 2 c) h (bodyK P fn R)) : CallsX P f #[a, b, c] h R :=
  enter hf hb hn hN (fun s => match s with
    | 0 => rfl
    | 1 => rfl
    | 2 => rfl
    | s + 3 => by rw [show (#[a, b, c] : Array Value).getD (s + 3) undef = undef from by simp, upd_ne _ _ _ _ (by omega), upd_ne _ _ _ _ (by omega), upd_ne _ _ _ _ (by omega)]) hx
theorem enter4 {f : FuncId} {fn : Func} {co : Code} {a b c d : Value} {R : Ending → Heap → Prop} (hf : P.funcs[f]? = some fn) (hb : fn.body = some co) (hn : goodName fn = true) (hN : Nat.ble 4 fn.ntmps = true)
    (hx : X P fn.ntmps co (upd (upd (upd (upd U 0 a) 1 b) 2 c) 3 d) h (bodyK P fn R)) : CallsX P f #[a, b, c, d] h R :=
  enter hf hb hn hN (fun s => match s with
    | 0 => rfl
    | 1 => rfl
    | 2 => rfl
    | 3 => rfl
    | s + 4 => by rw [show (#[a, b, c, d] : Array Value).getD (s + 4) undef = undef from by simp, upd_ne _ _ _ _ (by omega), upd_ne _ _ _ _ (by omega), upd_ne _ _ _ _ (by omega), upd_ne _ _ _ _ (by omega)]) hx
theorem enter5 {f : FuncId} {fn : Func} {co : Code} {a b c d e : Value} {R : Ending → Heap → Prop} (hf : P.funcs[f]? = some fn) (hb : fn.body = some co) (hn : goodName fn = true) (hN : Nat.ble 5 fn.ntmps = true)
    (hx : X P fn.ntmps co (upd (upd (upd (upd (upd U 0 a) 1 b) 2 c) 3 d) 4 e) h (bodyK P fn R)) : CallsX P f #[a, b, c, d, e] h R :=
  enter hf hb hn hN (fun s => match s with
    | 0 => rfl
    | 1 => rfl
    | 2 => rfl
    | 3 => rfl
    | 4 => rfl
    | s + 5 => by rw [show (#[a, b, c, d, e] : Array Value).getD (s + 5) undef = undef from by simp, upd_ne _ _ _ _ (by omega), upd_ne _ _ _ _ (by omega), upd_ne _ _ _ _ (by omega), upd_ne _ _ _ _ (by omega), upd_ne _ _ _ _ (by omega)]) hx
theorem enter6 {ff : FuncId} {fn : Func} {co : Code} {a b c d e f : Value} {R : Ending → Heap → Prop} (hf : P.funcs[ff]? = some fn) (hb : fn.body = some co) (hn : goodName fn = true) (hN : Nat.ble 6 fn.ntmps = true)
    (hx : X P fn.ntmps co (upd (upd (upd (upd (upd (upd U 0 a) 1 b) 2 c) 3 d) 4 e) 5 f) h (bodyK P fn R)) : CallsX P ff #[a, b, c, d, e, f] h R :=
  enter hf hb hn hN (fun s => match s with
    | 0 => rfl
    | 1 => rfl
    | 2 => rfl
    | 3 => rfl
    | 4 => rfl
    | 5 => rfl
    | s + 6 => by rw [show (#[a, b, c, d, e, f] : Array Value).getD (s + 6) undef = undef from by simp, upd_ne _ _ _ _ (by omega), upd_ne _ _ _ _ (by omega), upd_ne _ _ _ _ (by omega), upd_ne _ _ _ _ (by omega), upd_ne _ _ _ _ (by omega), upd_ne _ _ _ _ (by omega)]) hx
theorem bodyK.ret {fn : Func} {R : Ending → Heap → Prop} {v : Value} (hr : Res P fn ρ h v) (hR : R (.returned v) h) : bodyK P fn R .ret ρ h := ⟨v, hr, hR⟩
theorem bodyK.normal {fn : Func} {R : Ending → Heap → Prop} {v : Value} (hr : Res P fn ρ h v) (hR : R (.returned v) h) : bodyK P fn R .normal ρ h := ⟨v, hr, hR⟩
theorem Res.none {fn : Func} (hf : fn.results = #[]) : Res P fn ρ h (.tuple #[]) := fun w a _ _ => by simp [results, hf]
theorem Res.one {fn : Func} {t : Tmp} {v : Value} (hf : fn.results = #[.tmp t]) (hv : ρ t = v) : Res P fn ρ h v := fun w a _ he => by
  have := he.get t; simp [results, hf]; rw [← hv]; simpa using this
theorem Res.two {fn : Func} {t u : Tmp} {v v' : Value} (hf : fn.results = #[.tmp t, .tmp u]) (hv : ρ t = v) (hv' : ρ u = v') : Res P fn ρ h (.tuple #[v, v']) := fun w a _ he => by
  have h1 := he.get t; have h2 := he.get u; simp [results, hf]; rw [← hv, ← hv']; simp at h1 h2; simp [h1, h2]
theorem Res.cell {fn : Func} {t : Tmp} {T : TypeId} {g o : Nat} {v : Value} (hf : fn.results = #[.cell t T]) (hv : ρ t = .pointer (some ⟨g, o, Option.none⟩)) (hl : Ld P h T g o v) : Res P fn ρ h v := fun w a hw he => by
  have h1 := he.get t; rw [hv] at h1; simp at h1; simp [results, hf, h1, asAddr, hl w hw]
end
end X
end Go.Proofs.Ytbbghdkndbpmmaa
