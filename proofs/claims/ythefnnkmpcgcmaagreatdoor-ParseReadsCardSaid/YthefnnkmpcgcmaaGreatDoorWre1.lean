/- Part 1 of 5 of what the claim needs: Core, Ops, Flow, Heap, Types, Eq, Gen, Sep, A, Ax, Au, Q, Ali, B, Lift, Args, Law, U, Pg, Str, CdS, CdL, Cd, CdJ. -/
import Derived.WalkKit
import Derived.Orders
import Derived.Laws.AppendOwn
import Derived.OrdersHeld
import Derived.Test.YthefnnkmpcgcmaaGreatDoorProg
import Derived.KernelRfl
import Derived.ProofKit
import Derived.ChangeArms
import Derived.Test.YthefnnkmpcgcmaaGreatDoorRows
import Derived.LoopN
import Derived.Laws.Pointers
import Derived.Laws.Strings
import Derived.Laws.StructEq
import Derived.Laws.Small
namespace Go.Proofs.YthefnnkmpcgcmaaGreatDoor
namespace X
open Go
abbrev Env := Nat → Value
abbrev Heap := Array Obj

/-- The environment with one slot other. -/
@[reducible] def upd (ρ : Env) (d : Nat) (v : Value) : Env := fun s => match Nat.beq s d with | true => v | false => ρ s
@[reducible] def ev (ρ : Env) : Operand → Value
  | .tmp t => ρ t
  | .const v => v
  | .global g => .pointer (some ⟨g, 0, none⟩)
  | .func f => .func (.func f) #[] #[]

structure EnvOf (N : Nat) (a : Act) (ρ : Env) : Prop where
  size : a.tmps.size = N
  get : ∀ s, a.tmps.getD s undef = ρ s

theorem beq_false {s d : Nat} (h : s ≠ d) : Nat.beq s d = false := by
  cases e : Nat.beq s d with
  | false => rfl
  | true => exact absurd (Nat.eq_of_beq_eq_true e) h
theorem beq_ne {s d : Nat} (h : Nat.beq s d = false) : s ≠ d := fun e => by subst e; rw [Nat.beq_refl] at h; cases h
theorem blt_lt {d N : Nat} (h : Nat.blt d N = true) : d < N := Nat.le_of_ble_eq_true h
theorem upd_same (ρ : Env) (d : Nat) (v : Value) : upd ρ d v d = v := by simp [upd]
theorem upd_ne (ρ : Env) (d : Nat) (v : Value) (s : Nat) (h : s ≠ d) : upd ρ d v s = ρ s := by
  have : Nat.beq s d = false := beq_false h
  simp [upd, this]

theorem EnvOf.put {N : Nat} {a : Act} {ρ : Env} (h : EnvOf N a ρ) {d : Nat} (hd : Nat.blt d N = true) (v : Value) : EnvOf N (a.put (some d) v) (upd ρ d v) := by
  have hd' : d < N := blt_lt hd
  refine ⟨by simp [Act.put, h.size], fun s => ?_⟩
  by_cases e : s = d
  · subst e; simp [Act.put, upd_same, Array.getD_eq_getD_getElem?, h.size, hd']
  · rw [upd_ne _ _ _ _ e, ← h.get s]; simp [Act.put, Array.getD_eq_getD_getElem?, Ne.symm e]

theorem EnvOf.eval {N : Nat} {a : Act} {ρ : Env} (h : EnvOf N a ρ) : a.eval = ev ρ := by
  funext x; cases x <;> simp [Act.eval, ev]
  rename_i t; have := h.get t; simpa using this

structure Same (w w' : World) : Prop where
  os : w'.os = w.os
  tape : w'.tape = w.tape
  output : w'.output = w.output
theorem Same.refl (w : World) : Same w w := ⟨rfl, rfl, rfl⟩
theorem Same.trans {a b c : World} (h : Same a b) (k : Same b c) : Same a c := ⟨k.os.trans h.os, k.tape.trans h.tape, k.output.trans h.output⟩

abbrev Kont := Exit → Env → Heap → Prop
def EnvE (N : Nat) : Exit → Act → Env → Prop
  | .panic _, _, _ => True
  | _, a, ρ => EnvOf N a ρ
theorem EnvE.of {N : Nat} {e : Exit} {a : Act} {ρ : Env} (h : EnvOf N a ρ) : EnvE N e a ρ := by cases e <;> first | exact h | trivial
/-- (At a panic nothing is said of the frame.) -/
def Post (w : World) (ds : List Deferred) (N : Nat) (K : Kont) : Exit → Act → World → Prop :=
  fun e a' w' => a'.defers = ds ∧ Same w w' ∧ ∃ ρ', EnvE N e a' ρ' ∧ K e ρ' w'.heap

/-- From environment ρ and heap h the code comes to an end of which K holds. -/
structure _root_.Go.Proofs.YthefnnkmpcgcmaaGreatDoor.X (P : Program) (N : Nat) (c : Code) (ρ : Env) (h : Heap) (K : Kont) : Prop where
  out : ∀ (w0 : World) (a : Act) (w : World), Same w0 w → w.heap = h → EnvOf N a ρ → c.wp P (Post w0 a.defers N K) a w
structure XO (P : Program) (N : Nat) (all : Array Oper) (l : List Oper) (ρ : Env) (h : Heap) (K : Kont) : Prop where
  out : ∀ (w0 : World) (a : Act) (w : World), Same w0 w → w.heap = h → EnvOf N a ρ → wpList P all (Post w0 a.defers N K) l a w

def thn (next : Env → Heap → Prop) (K : Kont) : Kont
  | .normal, ρ, h => next ρ h
  | e, ρ, h => K e ρ h
def inb (id : Nat) (K : Kont) : Kont
  | .exit id', ρ, h => if id' = id then K .normal ρ h else K (.exit id') ρ h
  | e, ρ, h => K e ρ h

section
variable {P : Program} {N : Nat} {ρ : Env} {h : Heap} {K : Kont}
theorem mono {c : Code} {K' : Kont} (hx : X P N c ρ h K) (hk : ∀ e ρ h, K e ρ h → K' e ρ h) : X P N c ρ h K' := by
  refine ⟨fun w0 a w hs hh he => ?_⟩
  refine wp_mono (hx.out w0 a w hs hh he) ?_
  rintro e a' w' ⟨h1, h2, ρ', h3, h4⟩
  exact ⟨h1, h2, ρ', h3, hk _ _ _ h4⟩

theorem seq {x y : Code} (hx : X P N x ρ h (thn (fun ρ h => X P N y ρ h K) K)) : X P N (.seq x y) ρ h K := by
  refine ⟨fun w0 a w hs hh he => ?_⟩
  refine wp_seq (wp_mono (hx.out w0 a w hs hh he) ?_)
  rintro e a' w' ⟨h1, h2, ρ', h3, h4⟩
  cases e with
  | normal => rw [← h1]; exact h4.out w0 a' w' h2 rfl h3
  | _ => exact ⟨h1, h2, ρ', h3, h4⟩

theorem block {id : Nat} {c : Code} (hx : X P N c ρ h (inb id K)) : X P N (.block id c) ρ h K := by
  refine ⟨fun w0 a w hs hh he => ?_⟩
  refine wp_block (wp_mono (hx.out w0 a w hs hh he) ?_)
  rintro e a' w' ⟨h1, h2, ρ', h3, h4⟩
  cases e with
  | exit id' =>
    simp only [inb] at h4
    simp only [Exit.inBlock]
    split <;> rename_i hid
    · rw [if_pos hid] at h4; exact ⟨h1, h2, ρ', h3, h4⟩
    · rw [if_neg hid] at h4; exact ⟨h1, h2, ρ', h3, h4⟩
  | _ => exact ⟨h1, h2, ρ', h3, h4⟩
theorem skip (hk : K .normal ρ h) : X P N .skip ρ h K := ⟨fun _ _ _ hs hh he => wp_skip ⟨rfl, hs, ρ, .of he, hh ▸ hk⟩⟩
theorem ret (hk : K .ret ρ h) : X P N .ret ρ h K := ⟨fun _ _ _ hs hh he => wp_ret ⟨rfl, hs, ρ, .of he, hh ▸ hk⟩⟩
theorem exit {id : Nat} (hk : K (.exit id) ρ h) : X P N (.exit id) ρ h K := ⟨fun _ _ _ hs hh he => wp_exit ⟨rfl, hs, ρ, .of he, hh ▸ hk⟩⟩
theorem cond {c : Operand} {x y : Code} {b : Bool} (hc : ev ρ c = .bool b) (ht : b = true → X P N x ρ h K) (hf : b = false → X P N y ρ h K) : X P N (.cond c x y) ρ h K := by
  refine ⟨fun w0 a w hs hh he => ?_⟩
  refine wp_cond_split (t := b) (by rw [he.eval]; exact hc) (fun e => (ht e).out w0 a w hs hh he) (fun e => (hf e).out w0 a w hs hh he)
theorem region {id : Nat} {l : List Oper} (hx : XO P N l.toArray l ρ h K) : X P N (.region id l.toArray false) ρ h K :=
  ⟨fun w0 a w hs hh he => wp_region_lit (hx.out w0 a w hs hh he)⟩

end

/-! types -/
inductive TK where
  | int (k : IntKind) | bool | string | slice (e : TypeId) | array (n : Nat) (e : TypeId) | struct (fs : List (TypeId × Nat)) | pointer (e : TypeId) | iface | func | other
structure Ty where
  k : TK
  size : Nat
  bytes : Nat
  zero : List Value
def kindOf : TypeDesc → TK
  | .int k => .int k
  | .bool => .bool
  | .string => .string
  | .slice e => .slice e
  | .array n e => .array n e
  | .struct fs => .struct (fs.toList.map fun f => (f.type, f.offset))
  | .pointer e => .pointer e
  | .interface _ => .iface
  | .func .. => .func
  | _ => .other
def tyOf (P : Program) (T : TypeId) : Option Ty :=
  match P.underlying T, P.info? T with
  | some d, some i => match i.zero with
    | some z => some ⟨kindOf d, i.size, i.bytes, z.cells.toList⟩
    | none => none
  | _, _ => none
theorem tyOf_spec {P : Program} {T : TypeId} {r : Ty} (h : tyOf P T = some r) : ∃ d i z, P.underlying T = some d ∧ kindOf d = r.k ∧ P.info? T = some i ∧ i.size = r.size ∧ i.bytes = r.bytes ∧ i.zero = some z ∧ z.cells.toList = r.zero := by
  unfold tyOf at h
  split at h
  · rename_i d i hd hi
    split at h
    · rename_i z hz
      simp only [Option.some.injEq] at h
      subst h
      exact ⟨d, i, z, hd, rfl, hi, rfl, rfl, hz, rfl⟩
    · cases h
  · cases h
def TK.agg : TK → Bool
  | .array .. | .struct _ => true
  | _ => false
theorem agg_of {d : TypeDesc} {k : TK} (h : kindOf d = k) : (match d with | .struct _ | .array _ _ => true | _ => false) = k.agg := by
  subst h; cases d <;> rfl

/-! heaps -/
/-- The cells from place o of block g on are vs. -/
structure Row (h : Heap) (g o : Nat) (vs : List Value) : Prop where
  ex : ∃ l T fr, h[g]? = some (.cells l T fr) ∧ (l.toList.drop o).take vs.length = vs
structure Cel (h : Heap) (g o : Nat) (v : Value) : Prop where
  ex : ∃ l T fr, h[g]? = some (.cells l T fr) ∧ l[o]? = some v
/-- A block that may be written. -/
structure Blk (h : Heap) (g : Nat) (l : List Value) (T : TypeId) : Prop where
  get : h[g]? = some (.cells l.toArray T (0, 0))
def hset (h : Heap) (g : Nat) (l : List Value) (T : TypeId) : Heap := h.setIfInBounds g (.cells l.toArray T (0, 0))
def splice (l : List Value) (o : Nat) (vs : List Value) : List Value := l.take o ++ vs ++ l.drop (o + vs.length)

theorem Cel.cell {w : World} {h : Heap} (hw : w.heap = h) {g o : Nat} {v : Value} (hc : Cel h g o v) : w.cell? ⟨g, o, none⟩ = some v := by
  obtain ⟨l, T, fr, h1, h2⟩ := hc
  subst hw
  simp [World.cell?, h1, h2]
theorem Row.cel {h : Heap} {g o : Nat} {vs : List Value} (hr : Row h g o vs) {j : Nat} {v : Value} (hv : vs[j]? = some v) : Cel h g (o + j) v := by
  obtain ⟨l, T, fr, h1, h2⟩ := hr
  refine ⟨l, T, fr, h1, ?_⟩
  rw [← h2] at hv
  have hj : j < vs.length := by
    rcases Nat.lt_or_ge j vs.length with hlt | hge
    · exact hlt
    · simp [List.getElem?_take, Nat.not_lt.2 hge] at hv
  simp only [List.getElem?_take, hj, if_true, List.getElem?_drop] at hv
  simpa using hv
theorem lt_of_get {h : Heap} {g : Nat} {o : Obj} (hg : h[g]? = some o) : g < h.size := by
  rcases Nat.lt_or_ge g h.size with hl | hl
  · exact hl
  · rw [Array.getElem?_eq_none hl] at hg; cases hg
theorem Blk.lt {h : Heap} {g : Nat} {l : List Value} {T : TypeId} (hc : Blk h g l T) : g < h.size := lt_of_get hc.get
theorem get_hset_ne {h : Heap} {g k : Nat} {l : List Value} {T : TypeId} (hne : k ≠ g) : (hset h g l T)[k]? = h[k]? := by
  simp [hset, Array.getElem?_setIfInBounds, Ne.symm hne]
theorem get_hset_same {h : Heap} {g : Nat} {l : List Value} {T : TypeId} (hl : g < h.size) : (hset h g l T)[g]? = some (.cells l.toArray T (0, 0)) := by
  simp [hset, Array.getElem?_setIfInBounds, hl]
theorem get_push_old {h : Heap} {o : Obj} {k : Nat} (hk : k < h.size) : (h.push o)[k]? = h[k]? := by
  rw [Array.getElem?_push, if_neg (by omega)]
theorem get_push_new {h : Heap} {o : Obj} {k : Nat} (hk : k = h.size) : (h.push o)[k]? = some o := by
  subst hk; simp
/-- Only blocks that were not there are new. -/
structure Ext (h h' : Heap) : Prop where
  size : h.size ≤ h'.size
  get : ∀ k, k < h.size → h'[k]? = h[k]?
theorem Blk.cel {h : Heap} {g o : Nat} {l : List Value} {T : TypeId} {v : Value} (hb : Blk h g l T) (hv : l[o]? = some v) : Cel h g o v := ⟨l.toArray, T, (0, 0), hb.get, by simpa using hv⟩
theorem Blk.row {h : Heap} {g o : Nat} {l vs : List Value} {T : TypeId} (hb : Blk h g l T) (hv : (l.drop o).take vs.length = vs) : Row h g o vs := ⟨l.toArray, T, (0, 0), hb.get, by simpa using hv⟩
theorem Blk.rowAll {h : Heap} {g : Nat} {l : List Value} {T : TypeId} (hb : Blk h g l T) : Row h g 0 l := hb.row (by simp)
theorem splice_all {l vs : List Value} (hn : l.length = vs.length) : splice l 0 vs = vs := by simp [splice, ← hn]
theorem addr_add (g o j : Nat) : (⟨g, o, none⟩ : Addr).add j = ⟨g, o + j, none⟩ := by unfold Addr.add; split <;> simp_all
end X
end Go.Proofs.YthefnnkmpcgcmaaGreatDoor

namespace Go.Proofs.YthefnnkmpcgcmaaGreatDoor
namespace X
open Go
section
variable {P : Program} {N : Nat} {all : Array Oper} {rest : List Oper} {ρ : Env} {h : Heap} {K : Kont}

/-- A value that every heap of S gives, and nothing else is done. -/
structure Rd (P : Program) (ρ : Env) (S : Heap → Prop) (op : Op) (ty : TypeId) (v : Value) : Prop where
  out : ∀ (d : Option Tmp) (pos : String) (af : Array Edge) (g : Option (Nat × Bool)) (w : World), S w.heap → (execOp (ev ρ) ⟨d, op, ty, pos, af, g⟩).run P w = .ok (.value v) w
/-- An operation that does something to the heap, or calls a function. -/
structure Wr (P : Program) (ρ : Env) (h : Heap) (op : Op) (ty : TypeId) (R : Value → Heap → Prop) (pk : List PanicEntry → Heap → Prop) : Prop where
  out : ∀ (d : Option Tmp) (pos : String) (af : Array Edge) (g : Option (Nat × Bool)) (a : Act) (w : World) (next : Act → World → Prop) (Q : Exit → Act → World → Prop), a.eval = ev ρ → w.heap = h →
    (∀ v w', Same w w' → R v w'.heap → next (a.put d v) w') → (∀ c w', Same w w' → pk c w'.heap → Q (.panic c) a w') → (⟨d, op, ty, pos, af, g⟩ : Oper).wp P a w next Q
abbrev noP : List PanicEntry → Heap → Prop := fun _ _ => False
/-- From a run that gives a value. -/
theorem Wr.run {op : Op} {ty : TypeId} {R : Value → Heap → Prop} (hr : ∀ d pos af g w, w.heap = h → ∃ v w', (execOp (ev ρ) ⟨d, op, ty, pos, af, g⟩).run P w = .ok (.value v) w' ∧ Same w w' ∧ R v w'.heap) : Wr P ρ h op ty R noP :=
  ⟨fun d pos af g a w next Q he hh hn _ => by
    obtain ⟨v, w', h1, h2, h3⟩ := hr d pos af g w hh
    unfold Oper.wp
    rw [he, h1]
    exact hn v w' h2 h3⟩
theorem Wr.runU {op : Op} {ty : TypeId} {R : Value → Heap → Prop} (hr : ∀ d pos af g w, w.heap = h → ∃ w', (execOp (ev ρ) ⟨d, op, ty, pos, af, g⟩).run P w = .ok .skip w' ∧ Same w w' ∧ R undef w'.heap) : Wr P ρ h op ty R noP :=
  ⟨fun d pos af g a w next Q he hh hn _ => by
    obtain ⟨w', h1, h2, h3⟩ := hr d pos af g w hh
    unfold Oper.wp
    rw [he, h1]
    exact hn undef w' h2 h3⟩
theorem Rd.wr {op : Op} {ty : TypeId} {v : Value} (hr : Rd P ρ (· = h) op ty v) : Wr P ρ h op ty (fun v' h' => v' = v ∧ h' = h) noP :=
  Wr.run fun d pos af g w hw => ⟨v, w, hr.out d pos af g w hw, Same.refl w, rfl, hw⟩
@[reducible] def updO (ρ : Env) : Option Nat → Value → Env
  | some d, v => upd ρ d v
  | none, _ => ρ
def dstOk (N : Nat) : Option Nat → Bool
  | some d => Nat.blt d N
  | none => true
theorem EnvOf.putO {a : Act} (he : EnvOf N a ρ) {d : Option Nat} (hd : dstOk N d = true) (v : Value) : EnvOf N (a.put d v) (updO ρ d v) := by
  cases d with
  | none => exact he
  | some d => exact he.put hd v
theorem put_defers (a : Act) (d : Option Tmp) (v : Value) : (a.put d v).defers = a.defers := by cases d <;> rfl

theorem XO.nil (hk : K .normal ρ h) : XO P N all [] ρ h K := ⟨fun _ _ _ hs hh he => wpList_nil ⟨rfl, hs, ρ, .of he, hh ▸ hk⟩⟩
theorem XO.wr {op : Op} {d : Option Nat} {ty : TypeId} {pos : String} {af : Array Edge} {R : Value → Heap → Prop} {pk : List PanicEntry → Heap → Prop} (hd : dstOk N d = true)
    (hr : Wr P ρ h op ty R pk) (k : ∀ v h', R v h' → XO P N all rest (updO ρ d v) h' K) (kp : ∀ c h', pk c h' → K (.panic c) ρ h') :
    XO P N all (⟨d, op, ty, pos, af, none⟩ :: rest) ρ h K := by
  refine ⟨fun w0 a w hs hh he => ?_⟩
  refine wpList_plain rfl fun K' hK' => ?_
  refine hr.out d pos af none a w _ _ he.eval hh (fun v w' h2 h3 => hK' _ _ ?_) (fun c w' h2 h3 => ⟨rfl, hs.trans h2, ρ, trivial, kp c _ h3⟩)
  have := (k v _ h3).out w0 (a.put d v) w' (hs.trans h2) rfl (he.putO hd v)
  rwa [put_defers] at this
theorem XO.wr0 {op : Op} {d : Option Nat} {ty : TypeId} {pos : String} {af : Array Edge} {R : Value → Heap → Prop} (hd : dstOk N d = true)
    (hr : Wr P ρ h op ty R noP) (k : ∀ v h', R v h' → XO P N all rest (updO ρ d v) h' K) : XO P N all (⟨d, op, ty, pos, af, none⟩ :: rest) ρ h K := XO.wr hd hr k (fun _ _ hp => hp.elim)
/-- One end. -/
theorem XO.one {op : Op} {d : Option Nat} {ty : TypeId} {pos : String} {af : Array Edge} {v : Value} {h' : Heap} (hd : dstOk N d = true)
    (hr : Wr P ρ h op ty (fun v' h'' => v' = v ∧ h'' = h') noP) (k : XO P N all rest (updO ρ d v) h' K) : XO P N all (⟨d, op, ty, pos, af, none⟩ :: rest) ρ h K := XO.wr0 hd hr (by rintro _ _ ⟨rfl, rfl⟩; exact k)
theorem XO.rd {op : Op} {d : Nat} {ty : TypeId} {pos : String} {af : Array Edge} {v : Value} (hd : Nat.blt d N = true)
    (hr : Rd P ρ (· = h) op ty v) (k : XO P N all rest (upd ρ d v) h K) : XO P N all (⟨some d, op, ty, pos, af, none⟩ :: rest) ρ h K := XO.one (d := some d) hd hr.wr k

/-! guards -/
theorem XO.wanted {d : Option Nat} {op : Op} {ty : TypeId} {pos : String} {af : Array Edge} {j : Nat} {b : Bool} {t : Nat} (hj : (all[j]?).bind (·.dst) = some t) (hb : ρ t = .bool b)
    (k : XO P N all (⟨d, op, ty, pos, af, none⟩ :: rest) ρ h K) : XO P N all (⟨d, op, ty, pos, af, some (j, b)⟩ :: rest) ρ h K := by
  refine ⟨fun w0 a w hs hh he => ?_⟩
  have hk := k.out w0 a w hs hh he
  have hy : yielded all a.tmps j = some b := by
    have := he.get t
    rw [hb] at this
    unfold yielded
    rw [hj]
    cases hq : a.tmps[t]? with
    | none => simp [hq, undef] at this
    | some u => simp [hq] at this; subst this; simp [hq]
  unfold wpList at hk ⊢
  rw [if_pos (by simp [Region.wanted])] at hk
  rw [if_pos (by simp [Region.wanted, hy])]
  exact hk
theorem XO.unwanted {d : Nat} {op : Op} {ty : TypeId} {pos : String} {af : Array Edge} {j : Nat} {b c : Bool} {t : Nat} (hd : Nat.blt d N = true) (hj : (all[j]?).bind (·.dst) = some t) (hb : ρ t = .bool c) (hne : (c == b) = false)
    (k : XO P N all rest (upd ρ d undef) h K) : XO P N all (⟨some d, op, ty, pos, af, some (j, b)⟩ :: rest) ρ h K := by
  refine ⟨fun w0 a w hs hh he => ?_⟩
  have hk := k.out w0 (a.put (some d) undef) w hs hh (he.put hd _)
  have hy : yielded all a.tmps j = some c := by
    have := he.get t
    rw [hb] at this
    unfold yielded
    rw [hj]
    cases hq : a.tmps[t]? with
    | none => simp [hq, undef] at this
    | some u => simp [hq] at this; subst this; simp [hq]
  unfold wpList
  rw [if_neg (by simp [Region.wanted, hy]; intro e; subst e; simp at hne)]
  exact hk
/-- A guard that an operation has not run for: what is not there is no word either. -/
theorem XO.unwantedU {d : Nat} {op : Op} {ty : TypeId} {pos : String} {af : Array Edge} {j : Nat} {b : Bool} {t : Nat} (hd : Nat.blt d N = true) (hj : (all[j]?).bind (·.dst) = some t) (hb : ρ t = undef)
    (k : XO P N all rest (upd ρ d undef) h K) : XO P N all (⟨some d, op, ty, pos, af, some (j, b)⟩ :: rest) ρ h K := by
  refine ⟨fun w0 a w hs hh he => ?_⟩
  have hk := k.out w0 (a.put (some d) undef) w hs hh (he.put hd _)
  have hy : yielded all a.tmps j = none := by
    have := he.get t
    rw [hb] at this
    unfold yielded
    rw [hj]
    cases hq : a.tmps[t]? with
    | none => simp [hq]
    | some u => simp [hq] at this; subst this; simp [hq, undef]
  unfold wpList
  rw [if_neg (by simp [Region.wanted, hy])]
  exact hk

section ops
variable {d : Nat} {ty : TypeId} {pos : String} {af : Array Edge}
theorem Rd.pure {S : Heap → Prop} {op : Op} {v : Value} (hr : ∀ d pos af g w, (execOp (ev ρ) ⟨d, op, ty, pos, af, g⟩).run P w = .ok (.value v) w) : Rd P ρ S op ty v := ⟨fun d pos af g w _ => hr d pos af g w⟩
section
variable {S : Heap → Prop}
theorem Rd.move {x : Operand} {v : Value} (hv : ev ρ x = v) : Rd P ρ S (.move x) ty v := .pure fun _ _ _ _ _ => by simp [execOp, hv]
theorem Rd.assign {x : Operand} {v : Value} (hv : ev ρ x = v) : Rd P ρ S (.assign x) ty v := .pure fun _ _ _ _ _ => by simp [execOp, hv]
theorem Rd.pickT {c x y : Operand} {v : Value} (hc : ev ρ c = .bool true) (hv : ev ρ x = v) : Rd P ρ S (.pick c x y) ty v := .pure fun _ _ _ _ _ => by simp [execOp, hc, hv, asBool]
theorem Rd.pickF {c x y : Operand} {v : Value} (hc : ev ρ c = .bool false) (hv : ev ρ y = v) : Rd P ρ S (.pick c x y) ty v := .pure fun _ _ _ _ _ => by simp [execOp, hc, hv, asBool]
theorem Rd.pickP {p : Prop} [Decidable p] {b : Bool} {c x y : Operand} {v : Value} (hc : ev ρ c = .bool (decide p)) (hp : decide p = b) (hv : ev ρ (match b with | true => x | false => y) = v) : Rd P ρ S (.pick c x y) ty v := by
  cases b
  · exact Rd.pickF (hp ▸ hc) hv
  · exact Rd.pickT (hp ▸ hc) hv

/-! loads -/
def Ld (P : Program) (h : Heap) (T : TypeId) (g o : Nat) (v : Value) : Prop := ∀ w, w.heap = h → (loadVar T ⟨g, o, none⟩).run P w = .ok v w
theorem Ld.one {T : TypeId} {r : Ty} (hT : tyOf P T = some r) (hk : r.k.agg = false) {g o : Nat} {v : Value} (hc : Cel h g o v) : Ld P h T g o v := by
  intro w hw
  obtain ⟨dd, i, z, h1, h2, -⟩ := tyOf_spec hT
  have ha := (agg_of h2).trans hk
  have hl := hc.cell hw
  unfold loadVar isAgg
  rw [Sem.run_bind, Sem.run_bind, run_underlying h1 w]
  cases dd <;> simp_all
theorem Ld.row {T : TypeId} {r : Ty} (hT : tyOf P T = some r) (hk : r.k.agg = true) {g o : Nat} {vs : List Value} (hc : Row h g o vs) (hn : vs.length = r.size) : Ld P h T g o (.agg vs.toArray) := by
  intro w hw
  obtain ⟨dd, i, z, h1, h2, h3, h4, -⟩ := tyOf_spec hT
  have ha := (agg_of h2).trans hk
  have hl : (loadCells ⟨g, o, none⟩ vs.length).run P w = .ok vs.toArray w :=
    run_loadCells_list (P := P) w ⟨g, o, none⟩ vs (fun j v hv => by rw [addr_add]; exact (hc.cel hv).cell hw)
  unfold loadVar isAgg
  rw [Sem.run_bind, Sem.run_bind, run_underlying h1 w]
  cases dd <;> simp_all [sizeOf, typeInfo]
theorem Rd.load {T : TypeId} {x : Operand} {g o : Nat} {v : Value} (hx : ev ρ x = .pointer (some ⟨g, o, none⟩)) (hl : ∀ h, S h → Ld P h T g o v) : Rd P ρ S (.load T x) ty v :=
  ⟨fun d pos af gd w hw => by simp [execOp, hx, Instr.loadAt, Instr.sureAddr, hl _ hw w rfl]⟩
/-! addresses -/
theorem Rd.fieldAddr {T : TypeId} {x : Operand} {f g o n m : Nat} {r : Ty} {fs : List (TypeId × Nat)} {ft : TypeId} {r' : Ty} (hT : tyOf P T = some r) (hk : r.k = .struct fs) (hf : fs[f]? = some (ft, n)) (hft : tyOf P ft = some r') (hz : Nat.beq r'.size 0 = false)
    (hx : ev ρ x = .pointer (some ⟨g, o, none⟩)) (ho : o + n = m) : Rd P ρ S (.fieldAddr T x f) ty (.pointer (some ⟨g, m, none⟩)) := by
  subst ho
  refine .pure fun d pos af gd w => ?_
  obtain ⟨dd, i, z, e1, e2, -⟩ := tyOf_spec hT
  obtain ⟨dd', i', z', e1', e2', e3', e4', -⟩ := tyOf_spec hft
  have hz' : i'.size ≠ 0 := by rw [e4']; exact beq_ne hz
  rw [hk] at e2
  cases dd <;> simp [kindOf] at e2
  rename_i fields
  subst e2
  have hfl : ∃ fd, fields[f]? = some fd ∧ fd.type = ft ∧ fd.offset = n := by
    simp only [List.getElem?_map, Option.map_eq_some_iff] at hf
    obtain ⟨fd, h1, h2⟩ := hf
    simp only [Prod.mk.injEq] at h2
    exact ⟨fd, by simpa using h1, h2.1, h2.2⟩
  obtain ⟨fd, h1, rfl, rfl⟩ := hfl
  simp [execOp, Instr.fieldAt, run_underlying e1, hx, h1, Instr.sureAddr, fieldPlace, sizeOf, typeInfo, e3', hz', addr_add]
theorem Rd.indexSlice {T : TypeId} {x y : Operand} {g o len cap e sz m : Nat} {i : Int} {kk : IntKind} {r re : Ty} (hT : tyOf P T = some r) (hk : r.k = .slice e) (hE : tyOf P e = some re)
    (hx : ev ρ x = .slice (some ⟨g, o, none⟩) len cap) (hy : ev ρ y = .int kk i) (hlt : 0 ≤ i ∧ i < len) (hsz : re.size = sz) (ho : o + i.toNat * sz = m) : Rd P ρ S (.indexAddr T x y) ty (.pointer (some ⟨g, m, none⟩)) := by
  subst hsz; subst ho
  refine .pure fun d pos af gd w => ?_
  obtain ⟨dd, i', z, e1, e2, -⟩ := tyOf_spec hT
  obtain ⟨dd', i'', z', e1', e2', e3', e4', -⟩ := tyOf_spec hE
  rw [hk] at e2
  cases dd <;> simp [kindOf] at e2
  subst e2
  simp [execOp, Instr.indexAt, run_underlying e1, hx, hy, asIntOf, sizeOf, typeInfo, e3', e4', addr_add, hlt]
theorem Rd.nilCheck {x : Operand} {a : Addr} (hx : ev ρ x = .pointer (some a)) : Rd P ρ S (.nilCheck x) ty (.pointer (some a)) := .pure fun _ _ _ _ _ => by simp [execOp, hx]
/-- An element of a whole array. -/
theorem Rd.indexAgg {T : TypeId} {x y : Operand} {n e : Nat} {i : Int} {kk : IntKind} {r re : Ty} {cs : Array Value} {v : Value} (hT : tyOf P T = some r) (hk : r.k = .array n e) (hE : tyOf P e = some re) (hka : re.k.agg = false) (hsz : re.size = 1)
    (hx : ev ρ x = .agg cs) (hy : ev ρ y = .int kk i) (hlt : 0 ≤ i ∧ i < n) (hv : cs[i.toNat]? = some v) : Rd P ρ S (.index T x y) ty v := by
  refine .pure fun d pos af gd w => ?_
  obtain ⟨dd, i', z, e1, e2, -⟩ := tyOf_spec hT
  obtain ⟨dd', i'', z', e1', e2', e3', e4', -⟩ := tyOf_spec hE
  have ha := (agg_of e2').trans hka
  have hag : (isAgg e).run P w = .ok false w := by
    unfold isAgg; rw [Sem.run_bind, run_underlying e1' w]; cases dd' <;> simp_all
  rw [hk] at e2
  cases dd <;> simp [kindOf] at e2
  obtain ⟨rfl, rfl⟩ := e2
  simp [execOp, Instr.index, run_underlying e1, hx, hy, asIntOf, sizeOf, typeInfo, e3', e4', hlt, part, hag, hsz, hv]

/-! numbers -/
theorem run_bin {o : BinOp} {T : TypeId} {x y : Operand} {kk : IntKind} {a b : Int} (hx : ev ρ x = .int kk a) (hy : ev ρ y = .int kk b) (w : World) :
    (do eqGuard o T x y (ev ρ x) (ev ρ y); binOp o T (ev ρ x) (ev ρ y) : Sem Value).run P w = (binOp o T (.int kk a) (.int kk b)).run P w := by
  simp [eqGuard, hx, hy]
theorem Rd.bin {o : BinOp} {T T' : TypeId} {x y : Operand} {kk : IntKind} {a b : Int} {v : Value} (hx : ev ρ x = .int kk a) (hy : ev ρ y = .int kk b) (hr : ∀ w, (binOp o T (.int kk a) (.int kk b)).run P w = .ok v w) : Rd P ρ S (.binOp o T x y T') ty v :=
  .pure fun _ _ _ _ w => by
    have := run_bin (P := P) (o := o) (T := T) hx hy w
    simp only [execOp]
    rw [Sem.run_bind, this, hr w]
    rfl
section bin
variable {T T' : TypeId} {x y : Operand} {kk : IntKind} {a b : Int}
theorem Rd.add (hx : ev ρ x = .int kk a) (hy : ev ρ y = .int kk b) : Rd P ρ S (.binOp .add T x y T') ty (.int kk (kk.wrap (a + b))) := .bin hx hy fun w => by simp [binOp, Op.intArith]
theorem Rd.sub (hx : ev ρ x = .int kk a) (hy : ev ρ y = .int kk b) : Rd P ρ S (.binOp .sub T x y T') ty (.int kk (kk.wrap (a - b))) := .bin hx hy fun w => by simp [binOp, Op.intArith]
theorem wrap64_in {n : Int} (h1 : -9223372036854775808 ≤ n) (h2 : n ≤ 9223372036854775807) : IntKind.i64.wrap n = n := IntWalk.i64_in n ⟨h1, h2⟩
theorem Rd.addi {c : Int} (hx : ev ρ x = .int .i64 a) (hy : ev ρ y = .int .i64 b) (hc : a + b = c) (hr : -9223372036854775808 ≤ c ∧ c ≤ 9223372036854775807) : Rd P ρ S (.binOp .add T x y T') ty (.int .i64 c) := by
  have := Rd.add (P := P) (S := S) (T := T) (T' := T') (ty := ty) hx hy; rwa [hc, wrap64_in hr.1 hr.2] at this
theorem Rd.subi {c : Int} (hx : ev ρ x = .int .i64 a) (hy : ev ρ y = .int .i64 b) (hc : a - b = c) (hr : -9223372036854775808 ≤ c ∧ c ≤ 9223372036854775807) : Rd P ρ S (.binOp .sub T x y T') ty (.int .i64 c) := by
  have := Rd.sub (P := P) (S := S) (T := T) (T' := T') (ty := ty) hx hy; rwa [hc, wrap64_in hr.1 hr.2] at this
theorem Rd.lss (hx : ev ρ x = .int kk a) (hy : ev ρ y = .int kk b) : Rd P ρ S (.binOp .lss T x y T') ty (.bool (decide (a < b))) := .bin hx hy fun w => by simp [binOp, Op.intCmp]
theorem Rd.leq (hx : ev ρ x = .int kk a) (hy : ev ρ y = .int kk b) : Rd P ρ S (.binOp .leq T x y T') ty (.bool (decide (a ≤ b))) := .bin hx hy fun w => by simp [binOp, Op.intCmp]
theorem Rd.gtr (hx : ev ρ x = .int kk a) (hy : ev ρ y = .int kk b) : Rd P ρ S (.binOp .gtr T x y T') ty (.bool (decide (b < a))) := .bin hx hy fun w => by simp [binOp, Op.intCmp]
theorem Rd.geq (hx : ev ρ x = .int kk a) (hy : ev ρ y = .int kk b) : Rd P ρ S (.binOp .geq T x y T') ty (.bool (decide (b ≤ a))) := .bin hx hy fun w => by simp [binOp, Op.intCmp]
theorem Rd.eql (hx : ev ρ x = .int kk a) (hy : ev ρ y = .int kk b) : Rd P ρ S (.binOp .eql T x y T') ty (.bool (decide (a = b))) := .bin hx hy fun w => by simp [binOp, Op.intCmp]; rfl
theorem Rd.neq (hx : ev ρ x = .int kk a) (hy : ev ρ y = .int kk b) : Rd P ρ S (.binOp .neq T x y T') ty (.bool (decide (a ≠ b))) := .bin hx hy fun w => by simp [binOp, Op.intCmp]; by_cases e : a = b <;> simp [e]
theorem Rd.not {c : Bool} (hx : ev ρ x = .bool c) : Rd P ρ S (.unOp .not T x) ty (.bool (!c)) := .pure fun _ _ _ _ w => by simp [execOp, hx, Op.unary]
end bin

/-! lists -/
theorem Rd.lenSlice {x : Operand} {T : TypeId} {r : Ty} {e : TypeId} {a : Option Addr} {n c : Nat} (hT : tyOf P T = some r) (hk : r.k = .slice e) (hx : ev ρ x = .slice a n c) : Rd P ρ S (.call { callee := .builtin .len, args := #[x], argTypes := #[T] }) ty (.int .i64 n) := by
  refine .pure fun d pos af gd w => ?_
  obtain ⟨dd, i, z, e1, e2, -⟩ := tyOf_spec hT
  rw [hk] at e2
  cases dd <;> simp [kindOf] at e2
  simp [execOp, resolve, invoke, builtin, hx, Builtin.len_, run_underlying e1, goInt]
theorem Rd.lenString {x : Operand} {T : TypeId} {r : Ty} {s : ByteArray} (hT : tyOf P T = some r) (hk : r.k = .string) (hx : ev ρ x = .string s) : Rd P ρ S (.call { callee := .builtin .len, args := #[x], argTypes := #[T] }) ty (.int .i64 s.size) := by
  refine .pure fun d pos af gd w => ?_
  obtain ⟨dd, i, z, e1, e2, -⟩ := tyOf_spec hT
  rw [hk] at e2
  cases dd <;> simp [kindOf] at e2
  simp [execOp, resolve, invoke, builtin, hx, Builtin.len_, run_underlying e1, goInt]
theorem Rd.extract {x : Operand} {i : Nat} {vs : Array Value} {v : Value} (hx : ev ρ x = .tuple vs) (hv : vs[i]? = some v) : Rd P ρ S (.extract x i) ty v := .pure fun _ _ _ _ w => by simp [execOp, hx, Instr.extract, hv]
theorem Rd.makeFunc1 {fn : Fn} {x : Operand} {v : Value} (h1 : ev ρ x = v) : Rd P ρ S (.makeFunc fn #[] #[x]) ty (.func fn (List.toArray []) (List.toArray [v])) := .pure fun _ _ _ _ w => by simp [execOp, Instr.makeFunc, h1]
end

/-! stores -/
theorem heap_setRow (w : World) (g : Nat) (cur cs : Array Value) (T : TypeId) (hg : w.heap[g]? = some (.cells cur T (0, 0))) : (w.setRow g cs).heap = w.heap.setIfInBounds g (.cells cs T (0, 0)) := by
  apply Array.ext_getElem?
  intro i
  simp only [World.setRow, Array.getElem?_modify, Array.getElem?_setIfInBounds]
  by_cases e : g = i
  · subst e
    have hl := lt_of_get hg
    have hg' : w.heap[g] = .cells cur T (0, 0) := by rw [Array.getElem?_eq_getElem hl] at hg; simpa using hg
    simp [hl, hg']
  · simp [e]
def ones (vs : List Value) : Prop := ∀ v ∈ vs, v.oneCell' = true
theorem ones_lit {vs : List Value} (h : vs.all (·.oneCell') = true) : ones vs := by simpa [ones] using h
theorem Wr.store {T : TypeId} {x y : Operand} {g o : Nat} {v : Value} {vs : List Value} {r : Ty} {l l' : List Value} {T' : TypeId} (hT : tyOf P T = some r) (hx : ev ρ x = .pointer (some ⟨g, o, none⟩)) (hy : ev ρ y = v) (hv : v.cells = vs.toArray)
    (hb : Blk h g l T') (hn : vs.length = r.size) (hfit : o + r.size ≤ l.length) (h1 : ones vs) (hh : splice l o vs = l') : Wr P ρ h (.store T x y) ty (fun v' h' => v' = undef ∧ h' = hset h g l' T') noP := by
  refine Wr.runU fun d pos af gd w hw => ?_
  obtain ⟨dd, i, z, e1, e2, e3, e4, -⟩ := tyOf_spec hT
  have hg : w.heap[g]? = some (.cells l.toArray T' (0, 0)) := by rw [hw]; exact hb.get
  have hst := run_storeCells_at P g o T' vs 0 l.toArray w hg (by simp; omega) h1
  have hheap := heap_setRow w g l.toArray (l.take o ++ vs ++ l.drop (o + vs.length)).toArray T' hg
  refine ⟨w.setRow g (l.take o ++ vs ++ l.drop (o + vs.length)).toArray, ?_, ⟨rfl, rfl, rfl⟩, rfl, ?_⟩
  · simp only [Nat.add_zero] at hst
    have e5 : v.cells.size = i.size := by rw [hv]; simp; omega
    simp [execOp, Instr.storeAt, Instr.sureAddr, hx, hy, storeVar, sizeOf, typeInfo, e3, e5]
    simp [hv]
    simp at hst
    simp [hst]
  · rw [hheap, ← hh, hw]; rfl

/-! new blocks -/
theorem Wr.alloc {T : TypeId} {r : Ty} {n : Nat} (hT : tyOf P T = some r) (hn : h.size = n) : Wr P ρ h (.alloc T) ty (fun v h' => v = .pointer (some ⟨n, 0, none⟩) ∧ h' = h.push (.cells r.zero.toArray T (0, 0))) noP := by
  subst hn
  refine Wr.run fun d pos af gd w hw => ?_
  obtain ⟨dd, i, z, e1, e2, e3, e4, e5, e6, e7⟩ := tyOf_spec hT
  refine ⟨_, w.alloc (.cells z.cells T (0, 0)), ?_, ⟨rfl, rfl, rfl⟩, rfl, ?_⟩
  · simp [execOp, Instr.alloc, zeroValue, typeInfo, e3, e6, newVar, newRow, hw]
  · rw [← e7, ← hw, Array.toArray_toList]; rfl
theorem Wr.box {T : TypeId} {x : Operand} {v : Value} {n : Nat} {l : List Value} (hx : ev ρ x = v) (hn : h.size = n) (hl : v.cells = l.toArray) : Wr P ρ h (.box T x) ty (fun v' h' => v' = .pointer (some ⟨n, 0, none⟩) ∧ h' = h.push (.cells l.toArray T (0, 0))) noP := by
  subst hn
  rw [← hl]
  refine Wr.run fun d pos af gd w hw => ?_
  refine ⟨_, w.alloc (.cells v.cells T (0, 0)), ?_, ⟨rfl, rfl, rfl⟩, rfl, ?_⟩
  · simp [execOp, Instr.box, newVar, newRow, hw, hx]
  · rw [← hw]; rfl
/-- A slice of one element. -/
theorem Wr.slice1 {T e : TypeId} {x : Operand} {v : Value} {n : Nat} {r re : Ty} {l : List Value} (hT : tyOf P T = some r) (hk : r.k = .slice e) (hE : tyOf P e = some re) (hx : ev ρ x = v) (hn : h.size = n) (hl : v.cells = l.toArray) (hln : l.length = re.size) (hz : re.zero.length = re.size) (hs : re.size ≤ 1000) (hs0 : Nat.beq re.size 0 = false) :
    Wr P ρ h (.buildSlice T 1 #[(0, x)]) ty (fun v' h' => v' = .slice (some ⟨n, 0, none⟩) 1 1 ∧ h' = h.push (.cells l.toArray e (0, 0))) noP := by
  subst hn
  refine Wr.run fun d pos af gd w hw => ?_
  obtain ⟨dd, i, z, e1, e2, -⟩ := tyOf_spec hT
  obtain ⟨dd', i', z', e1', e2', e3', e4', e5', e6', e7'⟩ := tyOf_spec hE
  have hs0' : re.size ≠ 0 := beq_ne hs0
  rw [hk] at e2
  cases dd <;> simp [kindOf] at e2
  rw [e2] at e1
  clear e2
  have hzs : z'.cells.size = re.size := by rw [← Array.length_toList, e7', hz]
  have hfold : ∀ (cs : List Value) (k : Nat) (acc : Array Value), k + cs.length ≤ acc.size → ((cs.zipIdx k).foldl (fun (a : Array Value) (p : Value × Nat) => a.setIfInBounds p.2 p.1) acc).toList = acc.toList.take k ++ cs ++ acc.toList.drop (k + cs.length) := by
    intro cs
    induction cs with
    | nil => intro k acc hk; simp
    | cons c cs ih =>
      intro k acc hk
      simp only [List.length_cons] at hk
      simp only [List.zipIdx_cons, List.foldl_cons]
      rw [ih (k + 1) _ (by simp; omega)]
      simp only [Array.toList_setIfInBounds, List.length_cons]
      have := list_seg_step acc.toList k c cs (by simp; omega)
      simpa [Nat.add_assoc, Nat.add_comm 1] using this
  have hsz : ((Array.range re.size).map (z'.cells[· % z'.cells.size]!)).size = re.size := by simp
  have hcells : Array.foldl (fun (cs : Array Value) (p : Value × Nat) => cs.setIfInBounds (0 + p.2) p.1) ((Array.range re.size).map (z'.cells[· % z'.cells.size]!)) l.toArray.zipIdx = l.toArray := by
    apply Array.ext'
    rw [← Array.foldl_toList]
    have := hfold l 0 ((Array.range re.size).map (z'.cells[· % z'.cells.size]!)) (by rw [hsz]; omega)
    simp only [Nat.zero_add, List.take_zero, List.nil_append] at this ⊢
    simp only [Array.toList_zipIdx]
    rw [this, List.drop_eq_nil_of_le (by simp; omega), List.append_nil]
  refine ⟨_, w.alloc (.cells l.toArray e (0, 0)), ?_, ⟨rfl, rfl, rfl⟩, rfl, by rw [← hw]; rfl⟩
  have hfill : Instr.fill (fun i => some (i * re.size, re.size)) ((Array.range re.size).map (z'.cells[· % z'.cells.size]!)) [(0, v)] = some l.toArray := by
    have hc : v.cells.size = re.size := by rw [hl]; simpa using hln
    simp only [Instr.fill, Nat.zero_mul, hc, hl]
    rw [if_neg (by simp; omega), hcells]
  simp [execOp, Instr.buildSlice, run_underlying e1, hx, sizeOf, typeInfo, e3', e4', zeroValue, e6', Nat.not_lt.2 (show re.size ≤ 16777216 by omega), hs0', hw, newRow]
  simp [hzs] at hfill
  rw [hzs, hfill]
  simp [hw, newRow]
end ops

/-! calls -/
def Enters (P : Program) (f : FuncId) : Prop := ∀ args w, (callFunc f args).run P w = .ok (.enter f args) w
def CallsX (P : Program) (f : FuncId) (vs : Array Value) (h : Heap) (R : Ending → Heap → Prop) : Prop :=
  Enters P f ∧ ∀ w, w.heap = h → Calls P f vs w (fun e w' => Same w w' ∧ R e w'.heap)
def Ret (R : Value → Heap → Prop) : Ending → Heap → Prop
  | .returned v, h => R v h
  | _, _ => False
theorem CallsX.mono {f : FuncId} {vs : Array Value} {R R' : Ending → Heap → Prop} (hc : CallsX P f vs h R) (hr : ∀ e h', R e h' → R' e h') : CallsX P f vs h R' :=
  ⟨hc.1, fun w hw => (hc.2 w hw).mono fun e w' ⟨s, r⟩ => ⟨s, hr _ _ r⟩⟩
theorem Wr.callG {f : FuncId} {fo : Operand} {first cap : List Value} {args : List Operand} {ats : Array TypeId} {vs : List Value} {ty : TypeId} {R : Ending → Heap → Prop} (hf : ev ρ fo = .func (.func f) first.toArray cap.toArray)
    (hc : CallsX P f vs.toArray h R) (hv : first ++ args.map (ev ρ) ++ cap = vs) (ko : ∀ h', ¬ R .outgrown h') :
    Wr P ρ h (.call { callee := .value fo, args := args.toArray, argTypes := ats }) ty (fun v h' => R (.returned v) h') (fun c h' => R (.panicked c) h') := by
  refine ⟨fun d pos af g a w next Q he hh hn hp => ?_⟩
  unfold Oper.wp
  have hrun : (execOp (ev ρ) ⟨d, .call { callee := .value fo, args := args.toArray, argTypes := ats }, ty, pos, af, g⟩).run P w = .ok (.enter f vs.toArray) w := by
    simp only [execOp, resolve, Sem.run_bind, hf, Deferred.ofValue, Sem.run_pure, Result.andThen_ok, invoke]
    have e : first.toArray ++ Array.map (ev ρ) args.toArray ++ cap.toArray = vs.toArray := by rw [← hv]; simp
    rw [e]; exact hc.1 _ _
  rw [he, hrun, Oper.upon_enter]
  refine (hc.2 w hh).mono ?_
  rintro e w' ⟨s, r⟩
  cases e with
  | returned v => exact hn v w' s r
  | panicked c => exact hp c w' s r
  | outgrown => exact absurd r (ko _)
/-! a function's body -/
def Res (P : Program) (fn : Func) (ρ : Env) (h : Heap) (v : Value) : Prop := ∀ (w : World) (a : Act), w.heap = h → EnvOf fn.ntmps a ρ → (results fn a.tmps).run P w = .ok v w
def bodyK (P : Program) (fn : Func) (R : Ending → Heap → Prop) : Kont
  | .normal, ρ, h | .ret, ρ, h => ∃ v, Res P fn ρ h v ∧ R (.returned v) h
  | .panic c, _, h => R (.panicked c) h
  | _, _, _ => False
def goodName (fn : Func) : Bool := fn.name != "runtime.NumGoroutine"
theorem enters {f : FuncId} {fn : Func} {c : Code} (hf : P.funcs[f]? = some fn) (hb : fn.body = some c) (hn : goodName fn = true) : Enters P f := by
  intro args w
  have hn' : ¬ fn.name = "runtime.NumGoroutine" := by simpa [goodName] using hn
  simp [callFunc, hf, hn', hb]
theorem enter {f : FuncId} {fn : Func} {c : Code} {vs : Array Value} {ρ0 : Env} {R : Ending → Heap → Prop} (hf : P.funcs[f]? = some fn) (hb : fn.body = some c) (hn : goodName fn = true) (hN : Nat.ble vs.size fn.ntmps = true)
    (h0 : ∀ s, vs.getD s undef = ρ0 s) (hx : X P fn.ntmps c ρ0 h (bodyK P fn R)) : CallsX P f vs h R := by
  refine ⟨enters hf hb hn, fun w hw => calls_of_wp hf hb ?_⟩
  have hN' : vs.size ≤ fn.ntmps := Nat.le_of_ble_eq_true hN
  have he : EnvOf fn.ntmps { tmps := vs ++ Array.replicate (fn.ntmps - vs.size) undef, defers := [] } ρ0 := by
    refine ⟨by simp; omega, fun s => ?_⟩
    rw [← h0 s]
    simp only [Array.getD_eq_getD_getElem?, Array.getElem?_append, Array.getElem?_replicate]
    by_cases e : s < vs.size
    · simp [e]
    · simp [e]; split <;> simp
  refine wp_mono (hx.out w _ w (Same.refl w) hw he) ?_
  rintro e a' w' ⟨h1, h2, ρ', h3, h4⟩
  cases e with
  | normal => obtain ⟨v, hr, hR⟩ := h4; exact ⟨h1, v, hr w' a' rfl h3, h2, hR⟩
  | ret => obtain ⟨v, hr, hR⟩ := h4; exact ⟨h1, v, hr w' a' rfl h3, h2, hR⟩
  | panic c => exact ⟨h1, h2, h4⟩
  | _ => exact h4.elim
@[reducible] def U : Env := fun _ => undef
theorem enter0 {f : FuncId} {fn : Func} {co : Code} {R : Ending → Heap → Prop} (hf : P.funcs[f]? = some fn) (hb : fn.body = some co) (hn : goodName fn = true) (hN : Nat.ble 0 fn.ntmps = true)
    (hx : X P fn.ntmps co U h (bodyK P fn R)) : CallsX P f #[] h R :=
  enter hf hb hn hN (fun s => match s with
    | s => by simp) hx
theorem enter1 {f : FuncId} {fn : Func} {co : Code} {a : Value} {R : Ending → Heap → Prop} (hf : P.funcs[f]? = some fn) (hb : fn.body = some co) (hn : goodName fn = true) (hN : Nat.ble 1 fn.ntmps = true)
    (hx : X P fn.ntmps co (upd U 0 a) h (bodyK P fn R)) : CallsX P f #[a] h R :=
  enter hf hb hn hN (fun s => match s with
    | 0 => rfl
    | s + 1 => by rw [show (#[a] : Array Value).getD (s + 1) undef = undef from by simp, upd_ne _ _ _ _ (by omega)]) hx
theorem enter2 {f : FuncId} {fn : Func} {co : Code} {a b : Value} {R : Ending → Heap → Prop} (hf : P.funcs[f]? = some fn) (hb : fn.body = some co) (hn : goodName fn = true) (hN : Nat.ble 2 fn.ntmps = true)
    (hx : X P fn.ntmps co (upd (upd U 0 a) 1 b) h (bodyK P fn R)) : CallsX P f #[a, b] h R :=
  enter hf hb hn hN (fun s => match s with
    | 0 => rfl
    | 1 => rfl
    | s + 2 => by rw [show (#[a, b] : Array Value).getD (s + 2) undef = undef from by simp, upd_ne _ _ _ _ (by omega), upd_ne _ _ _ _ (by omega)]) hx
theorem enter3 {f : FuncId} {fn : Func} {co : Code} {a b c : Value} {R : Ending → Heap → Prop} (hf : P.funcs[f]? = some fn) (hb : fn.body = some co) (hn : goodName fn = true) (hN : Nat.ble 3 fn.ntmps = true)
    (hx : X P fn.ntmps co (upd (upd (upd U 0 a) 1 b) 2 c) h (bodyK P fn R)) : CallsX P f #[a, b, c] h R :=
  enter hf hb hn hN (fun s => match s with
    | 0 => rfl
    | 1 => rfl
    | 2 => rfl
    | s + 3 => by rw [show (#[a, b, c] : Array Value).getD (s + 3) undef = undef from by simp, upd_ne _ _ _ _ (by omega), upd_ne _ _ _ _ (by omega), upd_ne _ _ _ _ (by omega)]) hx
theorem enter4 {f : FuncId} {fn : Func} {co : Code} {a b c d : Value} {R : Ending → Heap → Prop} (hf : P.funcs[f]? = some fn) (hb : fn.body = some co) (hn : goodName fn = true) (hN : Nat.ble 4 fn.ntmps = true)
    (hx : X P fn.ntmps co (upd (upd (upd (upd U 0 a) 1 b) 2 c) 3 d) h (bodyK P fn R)) : CallsX P f #[a, b, c, d] h R :=
  enter hf hb hn hN (fun s => match s with
    | 0 => rfl
    | 1 => rfl
    | 2 => rfl
    | 3 => rfl
    | s + 4 => by rw [show (#[a, b, c, d] : Array Value).getD (s + 4) undef = undef from by simp, upd_ne _ _ _ _ (by omega), upd_ne _ _ _ _ (by omega), upd_ne _ _ _ _ (by omega), upd_ne _ _ _ _ (by omega)]) hx
theorem Res.none {fn : Func} (hf : fn.results = #[]) : Res P fn ρ h (.tuple #[]) := fun w a _ _ => by simp [results, hf]
theorem Res.one {fn : Func} {t : Tmp} {v : Value} (hf : fn.results = #[.tmp t]) (hv : ρ t = v) : Res P fn ρ h v := fun w a _ he => by
  have := he.get t; simp [results, hf]; rw [← hv]; simpa using this
theorem Res.two {fn : Func} {t u : Tmp} {v v' : Value} (hf : fn.results = #[.tmp t, .tmp u]) (hv : ρ t = v) (hv' : ρ u = v') : Res P fn ρ h (.tuple #[v, v']) := fun w a _ he => by
  have h1 := he.get t; have h2 := he.get u; simp [results, hf]; rw [← hv, ← hv']; simp at h1 h2; simp [h1, h2]
theorem Res.cell {fn : Func} {t : Tmp} {T : TypeId} {g o : Nat} {v : Value} (hf : fn.results = #[.cell t T]) (hv : ρ t = .pointer (some ⟨g, o, Option.none⟩)) (hl : Ld P h T g o v) : Res P fn ρ h v := fun w a hw he => by
  have h1 := he.get t; rw [hv] at h1; simp at h1; simp [results, hf, h1, asAddr, hl w hw]
end
end X
end Go.Proofs.YthefnnkmpcgcmaaGreatDoor

namespace Go.Proofs.YthefnnkmpcgcmaaGreatDoor
namespace X
open Go
section
variable {P : Program} {N : Nat} {all : Array Oper} {rest : List Oper} {ρ : Env} {h : Heap} {K : Kont}

/-! loops -/
theorem wp_loop_rel {c : Code} {Q : Exit → Act → World → Prop} (I : Nat → Act → World → Prop)
    (round : ∀ n a w, I n a w → c.wp P (Exit.then (fun a' w' => ∃ m, m < n ∧ I m a' w') Q) a w) : ∀ n a w, I n a w → (Code.loop c).wp P Q a w := by
  intro n a w hI b k cs
  have key : ∀ n a w, I n a w → ∃ e a' w', Q e a' w' ∧ Arrives P (lone (b.at a (.code c :: .inLoop c :: k)) cs w) b k cs e a' w' := by
    intro n
    induction n using Nat.strongRecOn with
    | _ n ih =>
      intro a w hI
      obtain ⟨e, a₁, w₁, hq, harr⟩ := round n a w hI b (.inLoop c :: k) cs
      cases e with
      | normal =>
        obtain ⟨m, hlt, hI₁⟩ := hq
        obtain ⟨e₂, a₂, w₂, hq₂, harr₂⟩ := ih m hlt a₁ w₁ hI₁
        exact ⟨e₂, a₂, w₂, hq₂, .of_steps (Steps.trans harr (.one step_inLoop)) harr₂⟩
      | exit id => exact ⟨_, a₁, w₁, hq, .pass (x := .inLoop c) rfl (fun _ _ => .inl (by simp)) harr⟩
      | goto l => exact ⟨_, a₁, w₁, hq, .pass (x := .inLoop c) rfl (fun _ _ => .inl (by simp)) harr⟩
      | ret => exact ⟨_, a₁, w₁, hq, .pass (x := .inLoop c) rfl (fun _ _ => .inl (by simp)) harr⟩
      | panic ch => exact ⟨_, a₁, w₁, hq, .pass (x := .inLoop c) rfl (fun _ _ => .inl (by simp)) harr⟩
      | outgrown => exact ⟨_, a₁, w₁, hq, .pass (x := .inLoop c) rfl (fun _ _ => .inl (by simp)) harr⟩
  obtain ⟨e, a', w', hq, harr⟩ := key n a w hI
  exact ⟨e, a', w', hq, .of_steps (.one step_loop) harr⟩

@[reducible] def hav (lo hi : Nat) (ρ δ : Env) : Env := fun s => match Nat.ble lo s with
  | true => (match Nat.ble s hi with | true => δ s | false => ρ s)
  | false => ρ s
def ovr : List (Nat × Nat) → Env → Env → Env
  | [], ρ, _ => ρ
  | (lo, hi) :: l, ρ, δ => hav lo hi (ovr l ρ δ) δ
def outL (L : List (Nat × Nat)) (s : Nat) : Bool := L.all fun p => !(Nat.ble p.1 s && Nat.ble s p.2)
def Keep (L : List (Nat × Nat)) (ρ ρ' : Env) : Prop := ∀ s, outL L s = true → ρ' s = ρ s
theorem Keep.refl (L : List (Nat × Nat)) (ρ : Env) : Keep L ρ ρ := fun _ _ => rfl
theorem Keep.upd {L : List (Nat × Nat)} {ρ ρ' : Env} {d : Nat} {v : Value} (hk : Keep L ρ ρ') (hd : outL L d = false) : Keep L ρ (upd ρ' d v) := fun s hs => by
  have : s ≠ d := fun e => by subst e; rw [hd] at hs; cases hs
  rw [upd_ne _ _ _ _ this]; exact hk s hs
theorem Keep.updO {L : List (Nat × Nat)} {ρ ρ' : Env} {d : Nat} {v : Value} (hk : Keep L ρ ρ') (hd : outL L d = false) : Keep L ρ (X.updO ρ' (some d) v) := Keep.upd hk hd
theorem Keep.updN {L : List (Nat × Nat)} {ρ ρ' : Env} {v : Value} (hk : Keep L ρ ρ') : Keep L ρ (X.updO ρ' none v) := hk
theorem outL_sub {L : List (Nat × Nat)} {lo hi s : Nat} (hL : (L.any fun p => Nat.ble p.1 lo && Nat.ble hi p.2) = true) (h1 : Nat.ble lo s = true) (h2 : Nat.ble s hi = true) : outL L s = false := by
  simp only [List.any_eq_true, Bool.and_eq_true] at hL
  obtain ⟨p, hp, h3, h4⟩ := hL
  have a := Nat.le_of_ble_eq_true h1; have b := Nat.le_of_ble_eq_true h2; have c := Nat.le_of_ble_eq_true h3; have d := Nat.le_of_ble_eq_true h4
  unfold outL
  simp only [List.all_eq_false]
  refine ⟨p, hp, ?_⟩
  have e1 : Nat.ble p.1 s = true := Nat.ble_eq_true_of_le (by omega)
  have e2 : Nat.ble s p.2 = true := Nat.ble_eq_true_of_le (by omega)
  simp [e1, e2]
theorem Keep.hav {L : List (Nat × Nat)} {ρ ρ' δ : Env} {lo hi : Nat} (hk : Keep L ρ ρ') (hd : (L.any fun p => Nat.ble p.1 lo && Nat.ble hi p.2) = true) : Keep L ρ (hav lo hi ρ' δ) := fun s hs => by
  unfold X.hav
  cases e1 : Nat.ble lo s with
  | false => exact hk s hs
  | true =>
    cases e2 : Nat.ble s hi with
    | false => exact hk s hs
    | true => rw [outL_sub hd e1 e2] at hs; cases hs
theorem ovr_eq : ∀ {L : List (Nat × Nat)} {ρ ρ' : Env}, Keep L ρ ρ' → ovr L ρ ρ' = ρ' := by
  intro L
  have gen : ∀ (L : List (Nat × Nat)) (ρ ρ' : Env) (s : Nat), ovr L ρ ρ' s = if outL L s = true then ρ s else ρ' s := by
    intro L
    induction L with
    | nil => intro ρ ρ' s; simp [ovr, outL]
    | cons p L ih =>
      intro ρ ρ' s
      obtain ⟨lo, hi⟩ := p
      simp only [ovr, X.hav]
      cases e1 : Nat.ble lo s with
      | false => simp only [ih, outL, List.all_cons, e1, Bool.false_and, Bool.not_false, Bool.true_and]; rfl
      | true =>
        cases e2 : Nat.ble s hi with
        | false => simp only [ih, outL, List.all_cons, e1, e2, Bool.and_false, Bool.not_false, Bool.true_and]; rfl
        | true => simp [outL, e1, e2]
  intro ρ ρ' hk
  funext s
  rw [gen]
  split
  · rename_i e; exact (hk s e).symm
  · rfl
def Mat (ρ : Env) : List (Nat × Value) → Prop
  | [] => True
  | (d, v) :: l => ρ d = v ∧ Mat ρ l
theorem Mat.get {ρ : Env} : ∀ {l : List (Nat × Value)}, Mat ρ l → ∀ p ∈ l, ρ p.1 = p.2
  | [], _, _, hp => by cases hp
  | (d, v) :: l, ⟨h1, h2⟩, p, hp => by
    simp only [List.mem_cons] at hp
    rcases hp with rfl | hp
    · exact h1
    · exact Mat.get h2 p hp
/-- A loop: what its head's slots hold is told by a state x. -/
theorem loopG {c : Code} {σ : Type} (L : List (Nat × Nat)) (E : σ → List (Nat × Value)) (I : σ → Heap → Prop) (μ : σ → Nat) (x0 : σ) (e0 : Mat ρ (E x0)) (h0 : I x0 h)
    (round : ∀ x δ h', I x h' → X P N c ((E x).foldl (fun r p => upd r p.1 p.2) (ovr L ρ δ)) h' (thn (fun ρ' h'' => Keep L ρ ρ' ∧ ∃ x', Mat ρ' (E x') ∧ I x' h'' ∧ μ x' < μ x) K)) : X P N (.loop c) ρ h K := by
  refine ⟨fun w0 a w hs hh he => ?_⟩
  refine wp_loop_rel (fun n a' w' => a'.defers = a.defers ∧ Same w0 w' ∧ ∃ x ρ', μ x = n ∧ EnvOf N a' ρ' ∧ Keep L ρ ρ' ∧ (∀ p ∈ E x, ρ' p.1 = p.2) ∧ I x w'.heap) ?_ (μ x0) a w ⟨rfl, hs, x0, ρ, rfl, he, .refl _ _, e0.get, hh ▸ h0⟩
  rintro n a' w' ⟨hd, hs', x, ρ', rfl, he', hk, hE, hI⟩
  have henv : (E x).foldl (fun r p => X.upd r p.1 p.2) (ovr L ρ ρ') = ρ' := by
    rw [ovr_eq hk]
    have : ∀ (l : List (Nat × Value)), (∀ p ∈ l, ρ' p.1 = p.2) → l.foldl (fun r p => X.upd r p.1 p.2) ρ' = ρ' := by
      intro l
      induction l with
      | nil => intro _; rfl
      | cons p l ih =>
        intro hl
        have : X.upd ρ' p.1 p.2 = ρ' := by
          funext s
          by_cases e : s = p.1
          · rw [e, upd_same, hl p (by simp)]
          · rw [upd_ne _ _ _ _ e]
        rw [List.foldl_cons, this]
        exact ih fun q hq => hl q (by simp [hq])
    exact this _ hE
  have hr := round x ρ' w'.heap hI
  rw [henv] at hr
  refine Code.wp_mono ?_ (hr.out w0 a' w' hs' rfl he')
  rintro e a'' w'' ⟨q1, q2, ρ'', q3, q4⟩
  rw [hd] at q1
  cases e with
  | normal =>
    obtain ⟨k1, x', k2, k3, k4⟩ := q4
    exact ⟨μ x', k4, q1, q2, x', ρ'', rfl, q3, k1, k2.get, k3⟩
  | _ => exact ⟨q1, q2, ρ'', q3, q4⟩

/-! a region whose order is drawn -/
/-- Whatever order is picked from here on, and S holds behind every operation but the late ones, z. -/
def wpAnyZ (P : Program) (ops : Array Oper) (Q : Exit → Act → World → Prop) (S : World → Prop) (z : List Nat) : Nat → Array Bool → Act → World → Prop
  | 0, listed, a, w => Region.ready .any ops listed = [] ∧ Q .normal a w
  | fuel + 1, listed, a, w =>
    (Region.ready .any ops listed = [] → Q .normal a w) ∧
    ∀ i ∈ Region.ready .any ops listed, wpOp P ops Q i (fun a' w' => (z.contains i = true ∨ (S w → S w')) ∧ wpAnyZ P ops Q S z fuel (listed.setIfInBounds i true) a' w') a w
theorem wpAny_of_Z {ops : Array Oper} {Q : Exit → Act → World → Prop} {S : World → Prop} {z : List Nat} : ∀ (fuel : Nat) (listed : Array Bool) (a : Act) (w : World), wpAnyZ P ops Q S z fuel listed a w → wpAny P .any ops Q fuel listed a w
  | 0, _, _, _, h => h
  | fuel + 1, _, _, _, h => ⟨h.1, fun i hi => wpOp_mono (fun a' w' h' => wpAny_of_Z fuel _ a' w' h'.2) (h.2 i hi)⟩
/-- Does j wait for i, by a chain of edges? -/
def reachZ (ops : Array Oper) : Nat → Nat → Nat → Bool
  | 0, _, _ => false
  | n + 1, j, i => match ops[j]? with
    | some o => o.after.any fun e => Region.binds .any e && (e.on == i || reachZ ops n e.on i)
    | none => false
/-- Do all of z wait for i? -/
def waitsZ (ops : Array Oper) (z : List Nat) (i : Nat) : Bool := z.all fun j => match ops[j]? with
  | some _ => reachZ ops 5 j i
  | none => false
/-- What has come up has come up behind all that it waits for. -/
def Closed (ops : Array Oper) (listed : Array Bool) : Prop := ∀ j oj, ops[j]? = some oj → listed.getD j false = true → ∀ e ∈ oj.after, Region.binds .any e = true → listed.getD e.on false = true
theorem Closed.set {ops : Array Oper} {listed : Array Bool} (hc : Closed ops listed) {j : Nat} (hj : j ∈ Region.ready .any ops listed) : Closed ops (listed.setIfInBounds j true) := by
  intro k ok hk hl e he hb
  obtain ⟨_, oj, hoj, hall⟩ := mem_ready.1 hj
  have keep : listed.getD e.on false = true → (listed.setIfInBounds j true).getD e.on false = true := fun h => getD_set_true h
  by_cases hjk : j = k
  · subst hjk
    rw [hk] at hoj
    simp only [Option.some.injEq] at hoj
    subst hoj
    exact keep (hall e he hb)
  · rw [getD_set_ne false hjk] at hl
    exact keep (hc k ok hk hl e he hb)
theorem Closed.reach {ops : Array Oper} {listed : Array Bool} (hc : Closed ops listed) {i : Nat} : ∀ (n j : Nat) (oj : Oper), ops[j]? = some oj → (∀ e ∈ oj.after, Region.binds .any e = true → listed.getD e.on false = true) → reachZ ops n j i = true → listed.getD i false = true
  | 0, _, _, _, _, hr => by simp [reachZ] at hr
  | n + 1, j, oj, hj, hall, hr => by
    simp only [reachZ, hj] at hr
    obtain ⟨k, hk, hb⟩ := Array.any_eq_true.1 hr
    simp only [Bool.and_eq_true, Bool.or_eq_true, beq_iff_eq] at hb
    have h1 := hall _ (Array.getElem_mem hk) hb.1
    rcases hb.2 with h2 | h2
    · rw [← h2]; exact h1
    · cases ho : ops[(oj.after[k]).on]? with
      | none => cases n <;> simp [reachZ, ho] at h2
      | some o' => exact Closed.reach hc n _ o' ho (hc _ o' ho h1) h2
theorem wpAnyZ_first {ops : Array Oper} {Q : Exit → Act → World → Prop} {S : World → Prop} {z : List Nat} {i : Nat} {oi : Oper} {v : Value} (hi : ops[i]? = some oi) (hsel : ∀ (j : Nat) (o : Oper) cs b, ops[j]? = some o → o.op ≠ .select cs b)
    (hQ : ∀ c a w, Q (.panic c) (a.put oi.dst v) w → Q (.panic c) a w) (hz : waitsZ ops z i = true) :
    ∀ (fuel : Nat) (listed : Array Bool) (a : Act) (w : World),
      (∀ j oj, ops[j]? = some oj → j ≠ i → listed.getD j true = false → (∀ e ∈ oj.after, Region.binds .any e = true → e.on ≠ i) → oi.apart ops oj = true) →
      i ∈ Region.ready .any ops listed → Closed ops listed → YieldsIf P ops S oi v a → S w →
      wpAnyZ P ops Q S z fuel (listed.setIfInBounds i true) (a.put oi.dst v) w → wpAnyZ P ops Q S z (fuel + 1) listed a w := by
  intro fuel
  induction fuel with
  | zero =>
    intro listed a w _ hr _ hy hS H
    refine ⟨fun h => (by rw [h] at hr; cases hr), fun j hj => ?_⟩
    by_cases hji : j = i
    · subst hji; exact hy.wpOp hi hS ⟨.inr (fun _ => hS), H⟩
    · have := ready_mono hj hji
      rw [H.1] at this
      cases this
  | succ fuel ih =>
    intro listed a w hfree hr hny hy hS H
    refine ⟨fun h => (by rw [h] at hr; cases hr), fun j hj => ?_⟩
    by_cases hji : j = i
    · subst hji; exact hy.wpOp hi hS ⟨.inr (fun _ => hS), H⟩
    · have h1 := H.2 j (ready_mono hj hji)
      obtain ⟨hjun, oj, hoj, hall⟩ := mem_ready.1 hj
      have hnot : ∀ e ∈ oj.after, Region.binds .any e = true → e.on ≠ i := fun e he hb heq => by
        have h1 := hall e he hb
        have h0 := (mem_ready.1 hr).1
        rw [heq] at h1
        rcases Nat.lt_or_ge i listed.size with h' | h'
        · simp [h'] at h0 h1; rw [h0] at h1; cases h1
        · simp [Array.getElem?_eq_none h'] at h1
      have hjz : ¬ z.contains j = true := fun e => by
        have hz1 := List.all_eq_true.1 hz j (by simpa using e)
        simp only [hoj] at hz1
        have h1 := Closed.reach hny 5 j oj hoj (fun e he hb => hall e he hb) hz1
        have h0 := (mem_ready.1 hr).1
        rcases Nat.lt_or_ge i listed.size with h' | h'
        · simp [h'] at h0 h1; rw [h0] at h1; cases h1
        · simp [Array.getElem?_eq_none h'] at h1
      have h2 := wpOp_putIf hoj (hfree j oj hoj hji hjun hnot) (fun cs b => hsel i oi cs b hi) (fun cs b => hsel j oj cs b hoj) hQ hy h1
      have hfree' : ∀ k ok, ops[k]? = some ok → k ≠ i → (listed.setIfInBounds j true).getD k true = false →
          (∀ e ∈ ok.after, Region.binds .any e = true → e.on ≠ i) → oi.apart ops ok = true := fun k ok hk hki hun hno => by
        refine hfree k ok hk hki ?_ hno
        by_cases hjk : j = k
        · subst hjk; exact hjun
        · rw [getD_set_ne true hjk] at hun; exact hun
      refine wpOp_mono (fun a' w' h3 => ?_) h2
      obtain ⟨h3y, h3s, h3w⟩ := h3
      have hSw' : S w' := h3s.resolve_left hjz hS
      refine ⟨.inr (fun _ => hSw'), ih (listed.setIfInBounds j true) a' w' hfree' (ready_mono hr (Ne.symm hji)) (hny.set hj) h3y hSw' ?_⟩
      rw [Array.setIfInBounds_comm _ _ hji]
      exact h3w
/-- One whose word hangs on nothing that others write. -/
theorem wpAnyZ_pure {ops : Array Oper} {Q : Exit → Act → World → Prop} {S : World → Prop} {z : List Nat} {i : Nat} {oi : Oper} {v : Value} (hi : ops[i]? = some oi) (hsel : ∀ (j : Nat) (o : Oper) cs b, ops[j]? = some o → o.op ≠ .select cs b)
    (hQ : ∀ c a w, Q (.panic c) (a.put oi.dst v) w → Q (.panic c) a w) :
    ∀ (fuel : Nat) (listed : Array Bool) (a : Act) (w : World),
      (∀ j oj, ops[j]? = some oj → j ≠ i → listed.getD j true = false → (∀ e ∈ oj.after, Region.binds .any e = true → e.on ≠ i) → oi.apart ops oj = true) →
      i ∈ Region.ready .any ops listed → Closed ops listed → YieldsIf P ops (fun _ => True) oi v a →
      wpAnyZ P ops Q S z fuel (listed.setIfInBounds i true) (a.put oi.dst v) w → wpAnyZ P ops Q S z (fuel + 1) listed a w := by
  intro fuel
  induction fuel with
  | zero =>
    intro listed a w _ hr _ hy H
    refine ⟨fun h => (by rw [h] at hr; cases hr), fun j hj => ?_⟩
    by_cases hji : j = i
    · subst hji; exact hy.wpOp hi trivial ⟨.inr id, H⟩
    · have := ready_mono hj hji
      rw [H.1] at this
      cases this
  | succ fuel ih =>
    intro listed a w hfree hr hny hy H
    refine ⟨fun h => (by rw [h] at hr; cases hr), fun j hj => ?_⟩
    by_cases hji : j = i
    · subst hji; exact hy.wpOp hi trivial ⟨.inr id, H⟩
    · have h1 := H.2 j (ready_mono hj hji)
      obtain ⟨hjun, oj, hoj, hall⟩ := mem_ready.1 hj
      have hnot : ∀ e ∈ oj.after, Region.binds .any e = true → e.on ≠ i := fun e he hb heq => by
        have h1 := hall e he hb
        have h0 := (mem_ready.1 hr).1
        rw [heq] at h1
        rcases Nat.lt_or_ge i listed.size with h' | h'
        · simp [h'] at h0 h1; rw [h0] at h1; cases h1
        · simp [Array.getElem?_eq_none h'] at h1
      have h2 := wpOp_putIf hoj (hfree j oj hoj hji hjun hnot) (fun cs b => hsel i oi cs b hi) (fun cs b => hsel j oj cs b hoj) hQ hy h1
      have hfree' : ∀ k ok, ops[k]? = some ok → k ≠ i → (listed.setIfInBounds j true).getD k true = false →
          (∀ e ∈ ok.after, Region.binds .any e = true → e.on ≠ i) → oi.apart ops ok = true := fun k ok hk hki hun hno => by
        refine hfree k ok hk hki ?_ hno
        by_cases hjk : j = k
        · subst hjk; exact hjun
        · rw [getD_set_ne true hjk] at hun; exact hun
      refine wpOp_mono (fun a' w' h3 => ?_) h2
      obtain ⟨h3y, h3s, h3w⟩ := h3
      refine ⟨h3s, ih (listed.setIfInBounds j true) a' w' hfree' (ready_mono hr (Ne.symm hji)) (hny.set hj) h3y ?_⟩
      rw [Array.setIfInBounds_comm _ _ hji]
      exact h3w
/-- In a plan: a writer, a reader, one that hangs on nothing. -/
inductive Kd where
  | wr | rd | pu
/-- Is this an order in which each reader may be taken first, and each writer comes alone? -/
def validFrom (ops : Array Oper) (z : List Nat) : List (Nat × Kd) → Nat → Array Bool → Bool
  | [], _, listed => (Region.ready .any ops listed).isEmpty
  | _ :: _, 0, _ => false
  | (i, .pu) :: pl, fuel + 1, listed => Region.free .any ops listed i && (Region.ready .any ops listed).contains i && validFrom ops z pl fuel (listed.setIfInBounds i true)
  | (i, .rd) :: pl, fuel + 1, listed => Region.free .any ops listed i && (Region.ready .any ops listed).contains i && waitsZ ops z i && validFrom ops z pl fuel (listed.setIfInBounds i true)
  | (i, .wr) :: pl, fuel + 1, listed => (Region.ready .any ops listed == [i]) && validFrom ops z pl fuel (listed.setIfInBounds i true)
/-- Are all that are still to come late ones? -/
def late (z : List Nat) (pl : List (Nat × Kd)) : Bool := pl.all fun p => match p.2 with
  | .wr => z.contains p.1
  | .rd => false
  | .pu => true
structure XP (P : Program) (N : Nat) (ops : Array Oper) (S : Heap → Prop) (z : List Nat) (pl : List (Nat × Kd)) (ρ : Env) (h : Heap) (K : Kont) : Prop where
  out : ∀ (fuel : Nat) (listed : Array Bool) (w0 : World) (a : Act) (w : World), validFrom ops z pl fuel listed = true → Region.noSelect ops = true → Closed ops listed → Same w0 w → w.heap = h → EnvOf N a ρ → (late z pl = true ∨ S h) → wpAnyZ P ops (Post w0 a.defers N K) (fun w => S w.heap) z fuel listed a w
theorem XP.nil {ops : Array Oper} {S : Heap → Prop} {z : List Nat} (hk : K .normal ρ h) : XP P N ops S z [] ρ h K := by
  refine ⟨fun fuel listed w0 a w hv hs hcl hsm hh he hS => ?_⟩
  simp only [validFrom, List.isEmpty_iff] at hv
  have hq : Post w0 a.defers N K .normal a w := ⟨rfl, hsm, ρ, .of he, hh ▸ hk⟩
  cases fuel with
  | zero => exact ⟨hv, hq⟩
  | succ n => exact ⟨fun _ => hq, by rw [hv]; intro i hi; cases hi⟩
theorem wantedD {ops : Array Oper} {a : Act} (he : EnvOf N a ρ) {j t : Nat} (hj : (ops[j]?).bind (·.dst) = some t) : (∀ b, ρ t = .bool b → yielded ops a.tmps j = some b) ∧ (ρ t = undef → yielded ops a.tmps j = none) := by
  have := he.get t
  unfold yielded
  rw [hj]
  refine ⟨fun b hb => ?_, fun hb => ?_⟩
  · rw [hb] at this
    cases hq : a.tmps[t]? with
    | none => simp [hq, undef] at this
    | some u => simp [hq] at this; subst this; simp [hq]
  · rw [hb] at this
    cases hq : a.tmps[t]? with
    | none => simp [hq]
    | some u => simp [hq] at this; subst this; simp [hq, undef]
/-- Does the guard let the operation run? -/
inductive Gd (ops : Array Oper) (ρ : Env) : Option (Nat × Bool) → Bool → Prop where
  | free : Gd ops ρ none true
  | is {j t : Nat} {b c : Bool} (hj : (ops[j]?).bind (·.dst) = some t) (hb : ρ t = .bool c) : Gd ops ρ (some (j, b)) (c == b)
  | un {j t : Nat} {b : Bool} (hj : (ops[j]?).bind (·.dst) = some t) (hb : ρ t = undef) : Gd ops ρ (some (j, b)) false
theorem Gd.isQ {ops : Array Oper} {p : Prop} {inst : Decidable p} {j t : Nat} {b c r : Bool} (hj : (ops[j]?).bind (·.dst) = some t) (hb : ρ t = .bool (decide p)) (hp : decide p = c) (hr : (c == b) = r) : Gd ops ρ (some (j, b)) r := hr ▸ .is hj (hp ▸ hb)
theorem Gd.wanted {ops : Array Oper} {a : Act} (he : EnvOf N a ρ) {d : Option Tmp} {op : Op} {ty : TypeId} {pos : String} {af : Array Edge} {g : Option (Nat × Bool)} {r : Bool} (hg : Gd ops ρ g r) : Region.wanted ⟨d, op, ty, pos, af, g⟩ (yielded ops a.tmps) = r := by
  cases hg with
  | free => rfl
  | is hj hb => simp [Region.wanted, (wantedD he hj).1 _ hb]
  | un hj hb => simp [Region.wanted, (wantedD he hj).2 hb]
theorem XP.rdG {ops : Array Oper} {S : Heap → Prop} {z : List Nat} {i d : Nat} {pl : List (Nat × Kd)} {op : Op} {ty : TypeId} {pos : String} {af : Array Edge} {g : Option (Nat × Bool)} {v : Value} (hi : ops[i]? = some ⟨some d, op, ty, pos, af, g⟩) (hd : Nat.blt d N = true)
    (hy : ∀ a, EnvOf N a ρ → YieldsIf P ops (fun w => S w.heap) ⟨some d, op, ty, pos, af, g⟩ v a) (k : XP P N ops S z pl (upd ρ d v) h K) : XP P N ops S z ((i, .rd) :: pl) ρ h K := by
  refine ⟨fun fuel listed w0 a w hv hs hcl hsm hh he hS => ?_⟩
  have hS' : S h := hS.resolve_left (by simp [late])
  cases fuel with
  | zero => simp [validFrom] at hv
  | succ fuel =>
    simp only [validFrom, Bool.and_eq_true] at hv
    have hk := k.out fuel _ w0 (a.put (some d) v) w hv.2 hs (hcl.set (by simpa using hv.1.1.2)) hsm hh (he.put hd v) (.inr hS')
    exact wpAnyZ_first hi (Region.noSelect_spec hs) (fun c a' w' hq => hq) hv.1.2 fuel listed a w (Region.free_spec hi hv.1.1.1) (by simpa using hv.1.1.2) hcl (hy a he) (by show S w.heap; rw [hh]; exact hS') hk
theorem XP.rd {ops : Array Oper} {S : Heap → Prop} {z : List Nat} {i d : Nat} {pl : List (Nat × Kd)} {op : Op} {ty : TypeId} {pos : String} {af : Array Edge} {g : Option (Nat × Bool)} {v : Value} (hi : ops[i]? = some ⟨some d, op, ty, pos, af, g⟩) (hd : Nat.blt d N = true) (hg : Gd ops ρ g true) (hr : Rd P ρ S op ty v) (k : XP P N ops S z pl (upd ρ d v) h K) : XP P N ops S z ((i, .rd) :: pl) ρ h K :=
  XP.rdG hi hd (fun a he => .inl ⟨hg.wanted he, fun w' hw' => by rw [he.eval]; exact hr.out _ _ _ _ w' hw'⟩) k
theorem XP.pu {ops : Array Oper} {S : Heap → Prop} {z : List Nat} {i d : Nat} {pl : List (Nat × Kd)} {op : Op} {ty : TypeId} {pos : String} {af : Array Edge} {g : Option (Nat × Bool)} {v : Value} (hi : ops[i]? = some ⟨some d, op, ty, pos, af, g⟩) (hd : Nat.blt d N = true)
    (hy : ∀ a, EnvOf N a ρ → YieldsIf P ops (fun _ => True) ⟨some d, op, ty, pos, af, g⟩ v a) (k : XP P N ops S z pl (upd ρ d v) h K) : XP P N ops S z ((i, .pu) :: pl) ρ h K := by
  refine ⟨fun fuel listed w0 a w hv hs hcl hsm hh he hS => ?_⟩
  cases fuel with
  | zero => simp [validFrom] at hv
  | succ fuel =>
    simp only [validFrom, Bool.and_eq_true] at hv
    have hk := k.out fuel _ w0 (a.put (some d) v) w hv.2 hs (hcl.set (by simpa using hv.1.2)) hsm hh (he.put hd v) (hS.imp (fun hl => by simpa [late] using hl) id)
    exact wpAnyZ_pure hi (Region.noSelect_spec hs) (fun c a' w' hq => hq) fuel listed a w (Region.free_spec hi hv.1.1) (by simpa using hv.1.2) hcl (hy a he) hk
theorem XP.puR {ops : Array Oper} {S : Heap → Prop} {z : List Nat} {i d : Nat} {pl : List (Nat × Kd)} {op : Op} {ty : TypeId} {pos : String} {af : Array Edge} {g : Option (Nat × Bool)} {v : Value} (hi : ops[i]? = some ⟨some d, op, ty, pos, af, g⟩) (hd : Nat.blt d N = true) (hg : Gd ops ρ g true) (hr : Rd P ρ (fun _ => True) op ty v) (k : XP P N ops S z pl (upd ρ d v) h K) : XP P N ops S z ((i, .pu) :: pl) ρ h K :=
  XP.pu hi hd (fun a he => .inl ⟨hg.wanted he, fun w' _ => by rw [he.eval]; exact hr.out _ _ _ _ w' trivial⟩) k
theorem XP.puOff {ops : Array Oper} {S : Heap → Prop} {z : List Nat} {i d : Nat} {pl : List (Nat × Kd)} {op : Op} {ty : TypeId} {pos : String} {af : Array Edge} {g : Option (Nat × Bool)} (hi : ops[i]? = some ⟨some d, op, ty, pos, af, g⟩) (hd : Nat.blt d N = true) (hg : Gd ops ρ g false) (k : XP P N ops S z pl (upd ρ d undef) h K) : XP P N ops S z ((i, .pu) :: pl) ρ h K :=
  XP.pu hi hd (fun a he => .inr ⟨hg.wanted he, rfl⟩) k
theorem XP.off {ops : Array Oper} {S : Heap → Prop} {z : List Nat} {i d : Nat} {pl : List (Nat × Kd)} {op : Op} {ty : TypeId} {pos : String} {af : Array Edge} {g : Option (Nat × Bool)} (hi : ops[i]? = some ⟨some d, op, ty, pos, af, g⟩) (hd : Nat.blt d N = true) (hg : Gd ops ρ g false) (k : XP P N ops S z pl (upd ρ d undef) h K) : XP P N ops S z ((i, .rd) :: pl) ρ h K :=
  XP.rdG hi hd (fun a he => .inr ⟨hg.wanted he, rfl⟩) k
theorem XP.wrG {ops : Array Oper} {S : Heap → Prop} {z : List Nat} {i : Nat} {d : Option Nat} {pl : List (Nat × Kd)} {op : Op} {ty : TypeId} {pos : String} {af : Array Edge} {g : Option (Nat × Bool)} {R : Value → Heap → Prop} {pk : List PanicEntry → Heap → Prop}
    (hi : ops[i]? = some ⟨d, op, ty, pos, af, g⟩) (hd : dstOk N d = true) (hg : Gd ops ρ g true) (hr : Wr P ρ h op ty R pk) (k : ∀ v h', R v h' → ((z.contains i = true ∧ late z pl = true) ∨ S h') ∧ XP P N ops S z pl (updO ρ d v) h' K) (kp : ∀ c h', pk c h' → K (.panic c) ρ h') : XP P N ops S z ((i, .wr) :: pl) ρ h K := by
  refine ⟨fun fuel listed w0 a w hv hs hcl hsm hh he hS => ?_⟩
  cases fuel with
  | zero => simp [validFrom] at hv
  | succ fuel =>
    simp only [validFrom, Bool.and_eq_true] at hv
    have hrd : Region.ready .any ops listed = [i] := by simpa using hv.1
    refine ⟨fun h0 => (by rw [hrd] at h0; cases h0), fun j hj => ?_⟩
    rw [hrd, List.mem_singleton] at hj
    subst hj
    unfold wpOp
    simp only [hi, hg.wanted he, if_true]
    refine .inl (hr.out d pos af g a w _ _ he.eval hh (fun v w' h2 h3 => ?_) (fun c w' h2 h3 => ⟨rfl, hsm.trans h2, ρ, trivial, kp c _ h3⟩))
    obtain ⟨hS', hk⟩ := k v _ h3
    have := hk.out fuel _ w0 (a.put d v) w' hv.2 hs (hcl.set (by rw [hrd]; simp)) (hsm.trans h2) rfl (he.putO hd v) (hS'.imp (·.2) id)
    rw [put_defers] at this
    exact ⟨hS'.imp (·.1) (fun h _ => h), this⟩
theorem XP.wr {ops : Array Oper} {S : Heap → Prop} {z : List Nat} {i : Nat} {d : Option Nat} {pl : List (Nat × Kd)} {op : Op} {ty : TypeId} {pos : String} {af : Array Edge} {g : Option (Nat × Bool)} {R : Value → Heap → Prop} {pk : List PanicEntry → Heap → Prop}
    (hi : ops[i]? = some ⟨d, op, ty, pos, af, g⟩) (hd : dstOk N d = true) (hg : Gd ops ρ g true) (hr : Wr P ρ h op ty R pk) (k : ∀ v h', R v h' → S h' ∧ XP P N ops S z pl (updO ρ d v) h' K) (kp : ∀ c h', pk c h' → K (.panic c) ρ h') : XP P N ops S z ((i, .wr) :: pl) ρ h K :=
  XP.wrG hi hd hg hr (fun v h' hR => ⟨.inr (k v h' hR).1, (k v h' hR).2⟩) kp
/-- A writer that its guard does not let. -/
theorem XP.offW {ops : Array Oper} {S : Heap → Prop} {z : List Nat} {i : Nat} {d : Option Nat} {pl : List (Nat × Kd)} {op : Op} {ty : TypeId} {pos : String} {af : Array Edge} {g : Option (Nat × Bool)}
    (hi : ops[i]? = some ⟨d, op, ty, pos, af, g⟩) (hd : dstOk N d = true) (hg : Gd ops ρ g false) (k : XP P N ops S z pl (updO ρ d undef) h K) : XP P N ops S z ((i, .wr) :: pl) ρ h K := by
  refine ⟨fun fuel listed w0 a w hv hs hcl hsm hh he hS => ?_⟩
  cases fuel with
  | zero => simp [validFrom] at hv
  | succ fuel =>
    simp only [validFrom, Bool.and_eq_true] at hv
    have hrd : Region.ready .any ops listed = [i] := by simpa using hv.1
    refine ⟨fun h0 => (by rw [hrd] at h0; cases h0), fun j hj => ?_⟩
    rw [hrd, List.mem_singleton] at hj
    subst hj
    unfold wpOp
    simp only [hi, hg.wanted he]
    have := k.out fuel _ w0 (a.put d undef) w hv.2 hs (hcl.set (by rw [hrd]; simp)) hsm hh (he.putO hd _) (hS.imp (fun hl => by simp only [late, List.all_cons, Bool.and_eq_true] at hl ⊢; exact hl.2) id)
    rw [put_defers] at this
    exact ⟨hS.imp (fun hl => by simp only [late, List.all_cons, Bool.and_eq_true] at hl; exact hl.1) (fun _ h => h), this⟩
theorem draw {id : Nat} {ops : Array Oper} (hm : P.follows .mixedOrders = true) (S : Heap → Prop) (z : List Nat) (pl : List (Nat × Kd)) (hv : (validFrom ops z pl ops.size (Array.replicate ops.size false) && Region.noSelect ops) = true) (hS : S h) (hx : XP P N ops S z pl ρ h K) : X P N (.region id ops true) ρ h K := by
  refine ⟨fun w0 a w hs hh he => ?_⟩
  simp only [Bool.and_eq_true] at hv
  refine wp_region_any hm (wpAny_of_Z (S := fun w => S w.heap) (z := z) _ _ _ _ ?_)
  exact hx.out ops.size _ w0 a _ hv.1 hv.2 (fun j oj _ hl => by simp [Array.getElem?_replicate] at hl; split at hl <;> simp at hl) (hs.trans ⟨rfl, rfl, rfl⟩) hh he (.inr hS)

/-! append to a list of one's own -/
/-- v is a slice with n elements (xs: their cells) of which the block, if it has one, is F's. -/
structure Own (h : Heap) (e : TypeId) (size : Nat) (v : Value) (n : Nat) (xs : List Value) (F : Nat → Prop) : Prop where
  len : xs.length = n * size
  alt : ((v = .slice none 0 0 ∧ n = 0) ∨
    ∃ g cap cur, v = .slice (some ⟨g, 0, none⟩) n cap ∧ F g ∧ Blk h g cur e ∧ n ≤ cap ∧ cap ≤ maxLen ∧ cap * size ≤ cur.length ∧ cur.take (n * size) = xs)
/-- All blocks are as they were but for that one. -/
structure But (h h' : Heap) (row : Option Nat) : Prop where
  size : h.size ≤ h'.size
  get : ∀ k, k < h.size → some k ≠ row → h'[k]? = h[k]?
theorem Wr.append {T e : TypeId} {x y : Operand} {ty : TypeId} {r re : Ty} {v : Value} {n m c g o : Nat} {xs news : List Value} {F : Nat → Prop} (hT : tyOf P T = some r) (hk : r.k = .slice e) (hE : tyOf P e = some re) (hz : re.zero.length = re.size)
    (hown : Own h e re.size v n xs F) (hs : ev ρ x = v) (hrow : Row h g o news) (hy : ev ρ y = .slice (some ⟨g, o, none⟩) m c) (hl : news.length = m * re.size) (h1 : ones news) (hm : 0 < m) (h63 : n + m ≤ maxLen) (hb : (n + m) * re.bytes ≤ 140737488355328) :
    Wr P ρ h (.call { callee := .builtin .append, args := #[x, y], argTypes := #[T, T] }) ty (fun v' h' => Own h' e re.size v' (n + m) (xs ++ news) (fun k => F k ∨ h.size ≤ k) ∧ But h h' v.ownBlock ∧ (v'.ownBlock = v.ownBlock ∨ ∃ k, v'.ownBlock = some k ∧ h.size ≤ k)) noP := by
  refine Wr.run fun d pos af gd w hw => ?_
  obtain ⟨dd, i, z, e1, e2, -⟩ := tyOf_spec hT
  obtain ⟨dd', i', z', e1', e2', e3', e4', e5', e6', e7'⟩ := tyOf_spec hE
  rw [hk] at e2
  cases dd <;> simp [kindOf] at e2
  rw [e2] at e1
  clear e2
  have hcell : ∀ j u, news[j]? = some u → w.cell? ((⟨g, o, none⟩ : Addr).add j) = some u := fun j u hu => by rw [addr_add]; exact (hrow.cel hu).cell hw
  have hzs : z'.cells.size = re.size := by rw [← Array.length_toList, e7', hz]
  have hsmall : n + m ≤ 9223372036854775807 := by simp only [maxLen] at h63; omega
  have hlen : (xs ++ news).length = (n + m) * re.size := by rw [List.length_append, hown.len, hl, Nat.add_mul]
  have grown : ∀ (old : Nat), old < n + m → ∀ (row : Option Nat),
      Own (w.drew.alloc (.cells (xs.toArray ++ news.toArray ++ Builtin.zeroCells z'.cells (grownCap w (n + m) old e - (n + m))) e)).heap e re.size
        (.slice (some ⟨w.heap.size, 0, none⟩) (n + m) (grownCap w (n + m) old e)) (n + m) (xs ++ news) (fun k => F k ∨ h.size ≤ k) ∧
      But h (w.drew.alloc (.cells (xs.toArray ++ news.toArray ++ Builtin.zeroCells z'.cells (grownCap w (n + m) old e - (n + m))) e)).heap row := by
    intro old ho row
    have hge := grownCap_ge w (n + m) old e
    have hcm : grownCap w (n + m) old e ≤ maxLen := grownCap_le_maxLen w (n + m) old e h63
    refine ⟨⟨hlen, .inr ⟨w.heap.size, _, (xs.toArray ++ news.toArray ++ Builtin.zeroCells z'.cells (grownCap w (n + m) old e - (n + m))).toList, rfl, .inr (by rw [← hw]; exact Nat.le_refl _), ?_, hge, hcm, ?_, ?_⟩⟩, ⟨by rw [← hw]; simp [World.alloc], fun k hk _ => by rw [← hw] at hk ⊢; exact get_push_old hk⟩⟩
    · exact ⟨by rw [Array.toArray_toList]; exact get_push_new rfl⟩
    · simp only [Array.length_toList, Array.size_append, List.size_toArray, size_zeroCells, hzs, hown.len, hl, ← Nat.add_mul]
      apply Nat.mul_le_mul_right
      omega
    · simp only [Array.toList_append, List.append_assoc]
      rw [← List.append_assoc, ← hlen]
      exact List.take_left
  have hexec : ∀ v' w', (Builtin.append_ #[T, T] ty #[v, .slice (some ⟨g, o, none⟩) m c]).run P w = .ok v' w' → (execOp (ev ρ) ⟨d, .call { callee := .builtin .append, args := #[x, y], argTypes := #[T, T] }, ty, pos, af, gd⟩).run P w = .ok (.value v') w' := fun v' w' hr => by
    simp only [execOp, resolve, invoke, builtin, Sem.run_bind, Sem.run_pure, Result.andThen_ok, List.map_toArray, List.map_cons, List.map_nil, hs, hy, hr]
  have hl' : news.length = m * i'.size := by rw [e4']; exact hl
  rcases hown.alt with ⟨rfl, rfl⟩ | ⟨gg, cap, cur, rfl, hF, hg, hnc, hcm, hcs, htake⟩
  · have hx : xs = [] := List.eq_nil_of_length_eq_zero (by simpa using hown.len)
    subst hx
    have hr := run_append_nil (P := P) w T ty e i' z' e1 e3' e6' ⟨g, o, none⟩ m c news hl' hcell (by omega) (by omega) (by rw [e5']; have := hb; simp only [Nat.zero_add] at this; omega)
    have hgr := grown 0 (by omega) (Value.ownBlock (.slice none 0 0))
    simp only [Nat.zero_add, List.nil_append, Array.empty_append] at hgr ⊢
    exact ⟨_, _, hexec _ _ hr, ⟨rfl, rfl, rfl⟩, hgr.1, hgr.2, .inr ⟨_, rfl, by rw [← hw]; exact Nat.le_refl _⟩⟩
  · have hgw : w.heap[gg]? = some (.cells cur.toArray e (0, 0)) := by rw [hw]; exact hg.get
    by_cases hroom : n + m ≤ cap
    · have hfit : n * i'.size + news.length ≤ cur.toArray.size := by
        have hq : (n + m) * re.size ≤ cap * re.size := Nat.mul_le_mul_right _ hroom
        rw [hl, e4', ← Nat.add_mul]; simp; omega
      have hr := run_append_room (P := P) w T ty e i' e1 e3' gg n cap cur.toArray hgw ⟨g, o, none⟩ m c news hl' hcell h1 hroom hfit
      refine ⟨_, _, hexec _ _ hr, ⟨rfl, rfl, rfl⟩, ⟨hlen, .inr ⟨gg, cap, cur.take (n * i'.size) ++ news ++ cur.drop (n * i'.size + news.length), rfl, .inl hF, ?_, hroom, hcm, ?_, ?_⟩⟩, ⟨by rw [← hw]; simp, fun k _ hk => ?_⟩, .inl rfl⟩
      · exact ⟨setRow_heap w gg cur.toArray _ e _ hgw⟩
      · simp at hfit; simp only [List.length_append, List.length_take, List.length_drop]; omega
      · rw [e4'] at *
        rw [htake, ← hlen]
        exact List.take_left
      · rw [← hw]; exact setRow_other w gg k _ (fun e => hk (by simp [Value.ownBlock, e]))
    · have holds : ∀ j u, xs[j]? = some u → w.cell? ((⟨gg, 0, none⟩ : Addr).add j) = some u := fun j u hu => by
        rw [addr_add]
        rw [← htake] at hu
        have hc : cur[j]? = some u := by
          rw [List.getElem?_take] at hu
          split at hu
          · exact hu
          · cases hu
        simp [World.cell?, hgw, hc]
      have hr := run_append_grow (P := P) w T ty e i' z' e1 e3' e6' ⟨gg, 0, none⟩ n cap xs (by rw [e4']; exact hown.len) holds ⟨g, o, none⟩ m c news hl' hcell (by omega) (by omega) (growslice_fits (by omega) (by rw [e5']; exact hb))
      have hgr := grown cap (by omega) (Value.ownBlock (.slice (some ⟨gg, 0, none⟩) n cap))
      exact ⟨_, _, hexec _ _ hr, ⟨rfl, rfl, rfl⟩, hgr.1, hgr.2, .inr ⟨_, rfl, by rw [← hw]; exact Nat.le_refl _⟩⟩

/-! literals of structs, arrays, slices -/
theorem fold_set (l : List Value) : ∀ (k o : Nat) (acc : Array Value), o + k + l.length ≤ acc.size → ((l.zipIdx k).foldl (fun (a : Array Value) (p : Value × Nat) => a.setIfInBounds (o + p.2) p.1) acc).toList = acc.toList.take (o + k) ++ l ++ acc.toList.drop (o + k + l.length) := by
  induction l with
  | nil => intro k o acc hk; simp
  | cons c cs ih =>
    intro k o acc hk
    simp only [List.length_cons] at hk
    simp only [List.zipIdx_cons, List.foldl_cons]
    rw [ih (k + 1) o _ (by simp; omega)]
    simp only [Array.toList_setIfInBounds, List.length_cons]
    have := list_seg_step acc.toList (o + k) c cs (by simp; omega)
    simpa [Nat.add_assoc, Nat.add_comm 1] using this
/-- The cells of a literal. -/
def bld (place : Nat → Option (Nat × Nat)) : List (Nat × Value) → List Value → Option (List Value)
  | [], z => some z
  | (i, v) :: ps, z => match place i with
    | some (off, sz) => if v.cells.size = sz ∧ off + sz ≤ z.length then bld place ps (splice z off v.cells.toList) else none
    | none => none
theorem fill_bld (place : Nat → Option (Nat × Nat)) : ∀ (ps : List (Nat × Value)) (z cs : List Value), bld place ps z = some cs → Instr.fill place z.toArray ps = some cs.toArray
  | [], z, cs, hb => by simp only [bld, Option.some.injEq] at hb; subst hb; rfl
  | (i, v) :: ps, z, cs, hb => by
    simp only [bld] at hb
    simp only [Instr.fill]
    cases hp : place i with
    | none => rw [hp] at hb; cases hb
    | some q =>
      obtain ⟨off, sz⟩ := q
      rw [hp] at hb
      simp only at hb ⊢
      split at hb
      · rename_i hc
        rw [if_neg (by simp; omega)]
        have e : Array.foldl (fun (cs : Array Value) (p : Value × Nat) => cs.setIfInBounds (off + p.2) p.1) z.toArray v.cells.zipIdx = (splice z off v.cells.toList).toArray := by
          apply Array.ext'
          rw [← Array.foldl_toList]
          have := fold_set v.cells.toList 0 off z.toArray (by simp; omega)
          simp only [Nat.add_zero, Array.toList_zipIdx] at this ⊢
          rw [this]; rfl
        have ih := fill_bld place ps _ cs hb
        rw [← e] at ih
        exact ih
      · cases hb
def places (tb : Nat → Option Ty) (fs : List (TypeId × Nat)) : Option (List (Nat × Nat)) := fs.mapM fun p => (tb p.1).map fun r => (p.2, r.size)
theorem run_places {tb : Nat → Option Ty} (htb : ∀ T r, tb T = some r → tyOf P T = some r) (w : World) : ∀ (fs : List Field) (pl : List (Nat × Nat)), places tb (fs.map fun f => (f.type, f.offset)) = some pl →
    ((fs.mapM fun f => do pure (f.offset, ← sizeOf f.type) : Sem (List (Nat × Nat)))).run P w = .ok pl w := by
  intro fs
  induction fs with
  | nil => intro pl hp; simp [places] at hp; subst hp; rfl
  | cons f fs ih =>
    intro pl hp
    simp only [places, List.map_cons, List.mapM_cons, Option.bind_eq_bind, Option.pure_def, Option.bind_eq_some_iff, Option.some.injEq, Option.map_eq_some_iff] at hp
    obtain ⟨q, ⟨r, hr, rfl⟩, pl', hpl, rfl⟩ := hp
    obtain ⟨dd, i, z, e1, e2, e3, e4, -⟩ := tyOf_spec (htb _ _ hr)
    have hi := ih pl' hpl
    have hsz : (sizeOf f.type).run P w = .ok r.size w := by simp [sizeOf, typeInfo, e3, e4]
    simp only [List.mapM_cons, Sem.run_bind, hsz, Result.andThen_ok, Sem.run_pure, hi]
section
variable {S : Heap → Prop} {ty : TypeId}
theorem Rd.build {T : TypeId} {tb : Nat → Option Ty} {parts : List (Nat × Operand)} {ps : List (Nat × Value)} {r : Ty} {fs : List (TypeId × Nat)} {pl : List (Nat × Nat)} {cs : List Value} (htb : ∀ T r, tb T = some r → tyOf P T = some r) (hT : tb T = some r) (hk : r.k = .struct fs) (hpl : places tb fs = some pl)
    (hp : (parts.map fun p => (p.1, ev ρ p.2)) = ps) (hb : bld (pl[·]?) ps r.zero = some cs) : Rd P ρ S (.build T parts.toArray) ty (.agg cs.toArray) := by
  refine .pure fun d pos af gd w => ?_
  obtain ⟨dd, i, z, e1, e2, e3, e4, e5, e6, e7⟩ := tyOf_spec (htb _ _ hT)
  rw [hk] at e2
  cases dd <;> simp [kindOf] at e2
  rename_i fields
  subst e2
  have hz : z.cells = r.zero.toArray := by rw [← e7]
  have hf := fill_bld _ ps r.zero cs hb
  have hp' : Array.map (fun (i, x) => (i, ev ρ x)) parts.toArray = ps.toArray := by rw [← hp]; simp
  have hm : ((fields.mapM fun f => do Pure.pure (f.offset, ← sizeOf f.type) : Sem (Array (Nat × Nat)))).run P w = .ok pl.toArray w := by
    have := run_places htb w fields.toList pl hpl
    rw [Array.mapM_eq_mapM_toList, Sem.run_map, this]; rfl
  simp only [execOp, Instr.build, Sem.run_bind, zeroValue, typeInfo]
  simp only [Sem.run_bind, run_program, Result.andThen_ok, e3, Sem.run_pure, e6, run_underlying e1, hp', hz]
  simp only [Sem.run_bind, hm, Result.andThen_ok]
  have hfun : (fun x : Nat => pl.toArray[x]?) = (fun x : Nat => pl[x]?) := by funext x; simp
  simp [hfun, hf]
theorem Rd.buildA {T : TypeId} {tb : Nat → Option Ty} {parts : List (Nat × Operand)} {ps : List (Nat × Value)} {r re : Ty} {n e : Nat} {cs : List Value} (htb : ∀ T r, tb T = some r → tyOf P T = some r) (hT : tb T = some r) (hk : r.k = .array n e) (hE : tb e = some re)
    (hp : (parts.map fun p => (p.1, ev ρ p.2)) = ps) (hb : bld (fun i => some (i * re.size, re.size)) ps r.zero = some cs) : Rd P ρ S (.build T parts.toArray) ty (.agg cs.toArray) := by
  refine .pure fun d pos af gd w => ?_
  obtain ⟨dd, i, z, e1, e2, e3, e4, e5, e6, e7⟩ := tyOf_spec (htb _ _ hT)
  obtain ⟨dd', i', z', e1', e2', e3', e4', -⟩ := tyOf_spec (htb _ _ hE)
  rw [hk] at e2
  cases dd <;> simp [kindOf] at e2
  have he := e2.2
  have hz : z.cells = r.zero.toArray := by rw [← e7]
  have hf := fill_bld _ ps r.zero cs hb
  have hp' : Array.map (fun (i, x) => (i, ev ρ x)) parts.toArray = ps.toArray := by rw [← hp]; simp
  have hsz : ∀ E, E = e → (sizeOf E).run P w = .ok re.size w := by rintro _ rfl; simp [sizeOf, typeInfo, e3', e4']
  simp only [execOp, Instr.build, Sem.run_bind, zeroValue, typeInfo]
  simp only [Sem.run_bind, run_program, Result.andThen_ok, e3, Sem.run_pure, e6, run_underlying e1, hp', hz]
  rw [hsz _ he]
  simp [hf]
theorem Wr.buildSlice {T e len n : Nat} {tb : Nat → Option Ty} {parts : List (Nat × Operand)} {ps : List (Nat × Value)} {r re : Ty} {cs : List Value} (htb : ∀ T r, tb T = some r → tyOf P T = some r) (hT : tb T = some r) (hk : r.k = .slice e) (hE : tb e = some re) (hn : h.size = n) (hz : re.zero.length = re.size)
    (hsm : Nat.ble (len * re.size) 16777216 = true) (hp : (parts.map fun p => (p.1, ev ρ p.2)) = ps) (hb : bld (fun i => some (i * re.size, re.size)) ps ((List.range (len * re.size)).map fun k => re.zero.getD (k % re.size) undef) = some cs) :
    Wr P ρ h (.buildSlice T len parts.toArray) ty (fun v' h' => v' = .slice (some ⟨n, 0, none⟩) len len ∧ h' = h.push (.cells cs.toArray e (0, 0))) noP := by
  subst hn
  refine Wr.run fun d pos af gd w hw => ?_
  obtain ⟨dd, i, z, e1, e2, -⟩ := tyOf_spec (htb _ _ hT)
  obtain ⟨dd', i', z', e1', e2', e3', e4', e5', e6', e7'⟩ := tyOf_spec (htb _ _ hE)
  have hsm' := Nat.le_of_ble_eq_true hsm
  rw [hk] at e2
  cases dd <;> simp [kindOf] at e2
  rw [e2] at e1
  clear e2
  have hzs : z'.cells.size = re.size := by rw [← Array.length_toList, e7', hz]
  have hp' : Array.map (fun (i, x) => (i, ev ρ x)) parts.toArray = ps.toArray := by rw [← hp]; simp
  have hf := fill_bld _ ps _ cs hb
  have hzero : ∀ zz : Array Value, (zz = z'.cells ∨ len * re.size = 0) → (Array.range (len * re.size)).map (fun k => zz[k % zz.size]!) = ((List.range (len * re.size)).map fun k => re.zero.getD (k % re.size) undef).toArray := by
    intro zz hzz
    apply Array.ext'
    rcases hzz with rfl | h0
    · simp only [Array.toList_map, Array.toList_range, hzs]
      apply List.map_congr_left
      intro k hk
      have hlt : k % re.size < re.size := Nat.mod_lt _ (by
        rcases Nat.eq_zero_or_pos re.size with h0 | h0
        · rw [h0, Nat.mul_zero] at hk; simp at hk
        · exact h0)
      rw [← e7']
      have hlt' : k % re.size < z'.cells.size := by rw [hzs]; exact hlt
      simp [getElem!_pos, hlt', List.getD_eq_getElem?_getD]
    · rw [h0]; simp
  refine ⟨_, w.alloc (.cells cs.toArray e (0, 0)), ?_, ⟨rfl, rfl, rfl⟩, rfl, by rw [← hw]; rfl⟩
  simp only [execOp, Instr.buildSlice, Sem.run_bind, run_underlying e1, Result.andThen_ok, hp', sizeOf, typeInfo, run_program, e3', e4', Sem.run_pure, zeroValue, e6']
  rw [if_neg (by omega)]
  by_cases h0 : len * re.size = 0
  · have hf' := hf
    rw [← hzero #[] (.inr h0)] at hf'
    rw [if_pos h0]
    simp only [Sem.run_bind, Sem.run_pure, Result.andThen_ok]
    rw [hf']
    simp [newRow, hw]
  · have hf' := hf
    rw [← hzero z'.cells (.inl rfl)] at hf'
    rw [if_neg h0]
    simp only [Sem.run_bind, Sem.run_pure, Result.andThen_ok, run_program, e3', e6']
    rw [hf']
    simp [newRow, hw]
/-! parts of lists; lists held against nil -/
/-- A part of a list, from l to hh, with room up to m. -/
theorem Rd.slicePart {T : TypeId} {x : Operand} {lo hi mx : Option Operand} {r re : Ty} {e len cap l hh m : Nat} {a : Option Addr} (hT : tyOf P T = some r) (hk : r.k = .slice e) (hE : tyOf P e = some re) (hx : ev ρ x = .slice a len cap)
    (hb : ∀ w, (Instr.sliceBounds true len cap (lo.map (ev ρ)) (hi.map (ev ρ)) (mx.map (ev ρ))).run P w = .ok (l, hh, m) w) : Rd P ρ S (.slice T x lo hi mx) ty (.slice (if m = l then a else a.map (·.add (l * re.size))) (hh - l) (m - l)) := by
  refine .pure fun d pos af gd w => ?_
  obtain ⟨dd, i, z, e1, e2, -⟩ := tyOf_spec hT
  obtain ⟨dd', i', z', e1', e2', e3', e4', -⟩ := tyOf_spec hE
  rw [hk] at e2
  cases dd <;> simp [kindOf] at e2
  rw [e2] at e1
  have hs : (sizeOf e).run P w = .ok re.size w := by simp [sizeOf, typeInfo, e3', e4']
  simp only [execOp, Instr.sliceAt, Sem.run_bind, run_underlying e1, Result.andThen_ok, hx, Instr.slice, hb w, hs, Sem.run_pure]
theorem bound_ok {y : Nat} {c : BoundsCode} {kk : IntKind} {i : Int} (h0 : 0 ≤ i) (h1 : i ≤ y) (w : World) : (Instr.sliceBound (.int kk i) y c).run P w = .ok i.toNat w := by
  simp [Instr.sliceBound, asIntOf, h0, h1]
theorem Rd.sliceTo {T : TypeId} {x y : Operand} {r re : Ty} {e len cap : Nat} {a : Option Addr} {i : Int} {kk : IntKind} (hT : tyOf P T = some r) (hk : r.k = .slice e) (hE : tyOf P e = some re) (hx : ev ρ x = .slice a len cap) (hy : ev ρ y = .int kk i) (hi : 0 ≤ i ∧ i ≤ cap) : Rd P ρ S (.slice T x none (some y) none) ty (.slice a i.toNat cap) := by
  have h := Rd.slicePart (P := P) (ρ := ρ) (S := S) (ty := ty) (lo := none) (hi := some y) (mx := none) (l := 0) (hh := i.toNat) (m := cap) hT hk hE hx (fun w => by simp [Instr.sliceBounds, hy, bound_ok hi.1 hi.2])
  have e1 : (if cap = 0 then a else a.map fun x => x.add (0 * re.size)) = a := by split <;> simp [Addr.add]
  rw [e1] at h
  simpa using h
end
end
end X
end Go.Proofs.YthefnnkmpcgcmaaGreatDoor

namespace Go.Proofs.YthefnnkmpcgcmaaGreatDoor
namespace X
open Go
theorem Own.shape {a : Heap} {e : TypeId} {size : Nat} {v : Value} {n : Nat} {xs : List Value} {F : Nat → Prop} (hc : Own a e size v n xs F) : ∃ p c, v = .slice p n c := by
  obtain ⟨h1, ⟨h2, h3⟩ | ⟨g, cap, cur, r1, r2⟩⟩ := hc
  · exact ⟨none, 0, by rw [h2, h3]⟩
  · exact ⟨_, _, r1⟩
/-- A part of a row. -/
theorem Row.sub {h : Heap} {g o : Nat} {vs us : List Value} (hr : Row h g o vs) {j : Nat} (hu : (vs.drop j).take us.length = us) : Row h g (o + j) us := by
  obtain ⟨l, T, fr, h1, h2⟩ := hr
  refine ⟨l, T, fr, h1, ?_⟩
  have : us.length ≤ vs.length - j := by
    have := congrArg List.length hu
    simp at this; omega
  rw [← h2] at hu
  rw [List.drop_take, List.take_take, List.drop_drop] at hu
  rwa [Nat.min_eq_left this] at hu

/-- Element k of a list whose elements have s cells each. -/
theorem flat_row {α : Type} (f : α → List Value) (s : Nat) : ∀ (l : List α), (∀ x ∈ l, (f x).length = s) → ∀ (k : Nat) (x : α), l[k]? = some x → ((l.flatMap f).drop (k * s)).take (f x).length = f x
  | [], _, k, x, hk => by simp at hk
  | a :: l, hl, 0, x, hk => by
    simp at hk; subst hk; simp
  | a :: l, hl, k + 1, x, hk => by
    have ih := flat_row f s l (fun y hy => hl y (by simp [hy])) k x (by simpa using hk)
    have ha := hl a (by simp)
    simp only [List.flatMap_cons]
    rw [Nat.succ_mul, Nat.add_comm, ← ha, ← List.drop_drop, List.drop_left]
    rw [ha]; exact ih
/-! words -/
theorem agg_cells (l : List Value) : (Value.agg l.toArray).cells = l.toArray := rfl
abbrev ptr (b : Nat) : Value := .pointer (some ⟨b, 0, none⟩)
abbrev i64 (n : Int) : Value := .int .i64 n
end X
end Go.Proofs.YthefnnkmpcgcmaaGreatDoor

namespace Go.Proofs.YthefnnkmpcgcmaaGreatDoor
namespace X
open Go
@[reducible] def ty1 : Ty := ⟨.func, 1, 8, [.nilFunc]⟩
@[reducible] def ty2 : Ty := ⟨.int .i64, 1, 8, [.int .i64 0]⟩
@[reducible] def ty3 : Ty := ⟨.int .i64, 1, 8, [.int .i64 0]⟩
@[reducible] def ty4 : Ty := ⟨.bool, 1, 1, [.bool false]⟩
@[reducible] def ty5 : Ty := ⟨.int .u8, 1, 1, [.int .u8 0]⟩
@[reducible] def ty6 : Ty := ⟨.int .u8, 1, 1, [.int .u8 0]⟩
@[reducible] def ty7 : Ty := ⟨.struct [(2, 0), (3, 1), (4, 2), (6, 3)], 4, 24, [.int .i64 0, .int .i64 0, .bool false, .int .u8 0]⟩
@[reducible] def ty8 : Ty := ⟨.struct [(2, 0), (3, 1), (4, 2), (6, 3)], 4, 24, [.int .i64 0, .int .i64 0, .bool false, .int .u8 0]⟩
@[reducible] def ty9 : Ty := ⟨.string, 1, 16, [.string ByteArray.empty]⟩
@[reducible] def ty10 : Ty := ⟨.string, 1, 16, [.string ByteArray.empty]⟩
@[reducible] def ty11 : Ty := ⟨.string, 1, 16, [.string ByteArray.empty]⟩
@[reducible] def ty12 : Ty := ⟨.int .u64, 1, 8, [.int .u64 0]⟩
@[reducible] def ty13 : Ty := ⟨.struct [(9, 0), (12, 1)], 2, 24, [.string ByteArray.empty, .int .u64 0]⟩
@[reducible] def ty14 : Ty := ⟨.struct [(9, 0), (12, 1)], 2, 24, [.string ByteArray.empty, .int .u64 0]⟩
@[reducible] def ty15 : Ty := ⟨.pointer 143, 1, 8, [.pointer none]⟩
@[reducible] def ty16 : Ty := ⟨.pointer 146, 1, 8, [.pointer none]⟩
@[reducible] def ty17 : Ty := ⟨.pointer 153, 1, 8, [.pointer none]⟩
@[reducible] def ty18 : Ty := ⟨.struct [(17, 0)], 1, 8, [.pointer none]⟩
@[reducible] def ty19 : Ty := ⟨.struct [(17, 0)], 1, 8, [.pointer none]⟩
@[reducible] def ty20 : Ty := ⟨.iface, 1, 16, [.nilIface]⟩
@[reducible] def ty21 : Ty := ⟨.int .i32, 1, 4, [.int .i32 0]⟩
@[reducible] def ty22 : Ty := ⟨.func, 1, 8, [.nilFunc]⟩
@[reducible] def ty23 : Ty := ⟨.slice 58, 1, 24, [.slice none 0 0]⟩
@[reducible] def ty24 : Ty := ⟨.slice 38, 1, 24, [.slice none 0 0]⟩
@[reducible] def ty25 : Ty := ⟨.struct [(23, 0), (24, 1)], 2, 48, [.slice none 0 0, .slice none 0 0]⟩
@[reducible] def ty26 : Ty := ⟨.struct [(23, 0), (24, 1)], 2, 48, [.slice none 0 0, .slice none 0 0]⟩
@[reducible] def ty27 : Ty := ⟨.struct [(3, 0), (3, 1)], 2, 16, [.int .i64 0, .int .i64 0]⟩
@[reducible] def ty28 : Ty := ⟨.struct [(3, 0), (3, 1)], 2, 16, [.int .i64 0, .int .i64 0]⟩
@[reducible] def ty30 : Ty := ⟨.func, 1, 8, [.nilFunc]⟩
@[reducible] def ty31 : Ty := ⟨.func, 1, 8, [.nilFunc]⟩
@[reducible] def ty32 : Ty := ⟨.func, 1, 8, [.nilFunc]⟩
@[reducible] def ty33 : Ty := ⟨.func, 1, 8, [.nilFunc]⟩
@[reducible] def ty34 : Ty := ⟨.slice 36, 1, 24, [.slice none 0 0]⟩
@[reducible] def ty35 : Ty := ⟨.struct [(3, 0), (3, 1), (2, 2), (34, 3)], 4, 48, [.int .i64 0, .int .i64 0, .int .i64 0, .slice none 0 0]⟩
@[reducible] def ty36 : Ty := ⟨.struct [(3, 0), (3, 1), (2, 2), (34, 3)], 4, 48, [.int .i64 0, .int .i64 0, .int .i64 0, .slice none 0 0]⟩
@[reducible] def ty37 : Ty := ⟨.struct [(3, 0), (3, 1), (36, 2), (36, 6), (24, 10), (24, 11)], 12, 160, [.int .i64 0, .int .i64 0, .int .i64 0, .int .i64 0, .int .i64 0, .slice none 0 0, .int .i64 0, .int .i64 0, .int .i64 0, .slice none 0 0, .slice none 0 0, .slice none 0 0]⟩
@[reducible] def ty38 : Ty := ⟨.struct [(3, 0), (3, 1), (36, 2), (36, 6), (24, 10), (24, 11)], 12, 160, [.int .i64 0, .int .i64 0, .int .i64 0, .int .i64 0, .int .i64 0, .slice none 0 0, .int .i64 0, .int .i64 0, .int .i64 0, .slice none 0 0, .slice none 0 0, .slice none 0 0]⟩
@[reducible] def ty39 : Ty := ⟨.slice 70, 1, 24, [.slice none 0 0]⟩
@[reducible] def ty41 : Ty := ⟨.func, 1, 8, [.nilFunc]⟩
@[reducible] def ty42 : Ty := ⟨.struct [(3, 0), (3, 1)], 2, 16, [.int .i64 0, .int .i64 0]⟩
@[reducible] def ty44 : Ty := ⟨.pointer 46, 1, 8, [.pointer none]⟩
@[reducible] def ty45 : Ty := ⟨.struct [(39, 0), (3, 1), (23, 2)], 3, 56, [.slice none 0 0, .int .i64 0, .slice none 0 0]⟩
@[reducible] def ty46 : Ty := ⟨.struct [(39, 0), (3, 1), (23, 2)], 3, 56, [.slice none 0 0, .int .i64 0, .slice none 0 0]⟩
@[reducible] def ty47 : Ty := ⟨.func, 1, 8, [.nilFunc]⟩
@[reducible] def ty48 : Ty := ⟨.func, 1, 8, [.nilFunc]⟩
@[reducible] def ty49 : Ty := ⟨.slice 78, 1, 24, [.slice none 0 0]⟩
@[reducible] def ty51 : Ty := ⟨.func, 1, 8, [.nilFunc]⟩
@[reducible] def ty52 : Ty := ⟨.pointer 54, 1, 8, [.pointer none]⟩
@[reducible] def ty53 : Ty := ⟨.struct [(49, 0), (3, 1), (3, 2), (28, 3), (23, 5)], 6, 80, [.slice none 0 0, .int .i64 0, .int .i64 0, .int .i64 0, .int .i64 0, .slice none 0 0]⟩
@[reducible] def ty54 : Ty := ⟨.struct [(49, 0), (3, 1), (3, 2), (28, 3), (23, 5)], 6, 80, [.slice none 0 0, .int .i64 0, .int .i64 0, .int .i64 0, .int .i64 0, .slice none 0 0]⟩
@[reducible] def ty55 : Ty := ⟨.func, 1, 8, [.nilFunc]⟩
@[reducible] def ty56 : Ty := ⟨.func, 1, 8, [.nilFunc]⟩
@[reducible] def ty57 : Ty := ⟨.struct [(9, 0), (3, 1)], 2, 24, [.string ByteArray.empty, .int .i64 0]⟩
@[reducible] def ty58 : Ty := ⟨.struct [(9, 0), (3, 1)], 2, 24, [.string ByteArray.empty, .int .i64 0]⟩
@[reducible] def ty59 : Ty := ⟨.func, 1, 8, [.nilFunc]⟩
@[reducible] def ty60 : Ty := ⟨.func, 1, 8, [.nilFunc]⟩
@[reducible] def ty61 : Ty := ⟨.func, 1, 8, [.nilFunc]⟩
@[reducible] def ty62 : Ty := ⟨.func, 1, 8, [.nilFunc]⟩
@[reducible] def ty63 : Ty := ⟨.func, 1, 8, [.nilFunc]⟩
@[reducible] def ty64 : Ty := ⟨.array 9 9, 9, 144, [.string ByteArray.empty, .string ByteArray.empty, .string ByteArray.empty, .string ByteArray.empty, .string ByteArray.empty, .string ByteArray.empty, .string ByteArray.empty, .string ByteArray.empty, .string ByteArray.empty]⟩
@[reducible] def ty65 : Ty := ⟨.slice 9, 1, 24, [.slice none 0 0]⟩
@[reducible] def ty66 : Ty := ⟨.array 8 9, 8, 128, [.string ByteArray.empty, .string ByteArray.empty, .string ByteArray.empty, .string ByteArray.empty, .string ByteArray.empty, .string ByteArray.empty, .string ByteArray.empty, .string ByteArray.empty]⟩
@[reducible] def ty68 : Ty := ⟨.func, 1, 8, [.nilFunc]⟩
@[reducible] def ty70 : Ty := ⟨.struct [(3, 0), (9, 1), (4, 2), (2, 3)], 4, 40, [.int .i64 0, .string ByteArray.empty, .bool false, .int .i64 0]⟩
@[reducible] def ty73 : Ty := ⟨.func, 1, 8, [.nilFunc]⟩
@[reducible] def ty74 : Ty := ⟨.pointer 76, 1, 8, [.pointer none]⟩
@[reducible] def ty76 : Ty := ⟨.struct [(23, 0), (3, 1), (3, 2)], 3, 40, [.slice none 0 0, .int .i64 0, .int .i64 0]⟩
@[reducible] def ty78 : Ty := ⟨.struct [(3, 0), (9, 1), (4, 2), (2, 3)], 4, 40, [.int .i64 0, .string ByteArray.empty, .bool false, .int .i64 0]⟩
@[reducible] def ty80 : Ty := ⟨.func, 1, 8, [.nilFunc]⟩
@[reducible] def ty88 : Ty := ⟨.pointer 90, 1, 8, [.pointer none]⟩
@[reducible] def ty90 : Ty := ⟨.struct [(26, 0), (3, 2), (3, 3)], 4, 64, [.slice none 0 0, .slice none 0 0, .int .i64 0, .int .i64 0]⟩
@[reducible] def ty92 : Ty := ⟨.array 9 3, 9, 72, [.int .i64 0, .int .i64 0, .int .i64 0, .int .i64 0, .int .i64 0, .int .i64 0, .int .i64 0, .int .i64 0, .int .i64 0]⟩
@[reducible] def ty94 : Ty := ⟨.iface, 1, 16, [.nilIface]⟩
@[reducible] def ty97 : Ty := ⟨.func, 1, 8, [.nilFunc]⟩
@[reducible] def ty98 : Ty := ⟨.func, 1, 8, [.nilFunc]⟩
@[reducible] def ty100 : Ty := ⟨.func, 1, 8, [.nilFunc]⟩
@[reducible] def ty101 : Ty := ⟨.func, 1, 8, [.nilFunc]⟩
@[reducible] def ty102 : Ty := ⟨.func, 1, 8, [.nilFunc]⟩
@[reducible] def ty103 : Ty := ⟨.func, 1, 8, [.nilFunc]⟩
@[reducible] def ty104 : Ty := ⟨.func, 1, 8, [.nilFunc]⟩
@[reducible] def ty105 : Ty := ⟨.func, 1, 8, [.nilFunc]⟩
@[reducible] def ty106 : Ty := ⟨.func, 1, 8, [.nilFunc]⟩
@[reducible] def ty107 : Ty := ⟨.func, 1, 8, [.nilFunc]⟩
@[reducible] def ty108 : Ty := ⟨.func, 1, 8, [.nilFunc]⟩
@[reducible] def ty109 : Ty := ⟨.func, 1, 8, [.nilFunc]⟩
@[reducible] def ty110 : Ty := ⟨.func, 1, 8, [.nilFunc]⟩
@[reducible] def ty111 : Ty := ⟨.int .i64, 1, 8, [.int .i64 0]⟩
@[reducible] def ty112 : Ty := ⟨.int .u64, 1, 8, [.int .u64 0]⟩
@[reducible] def ty114 : Ty := ⟨.func, 1, 8, [.nilFunc]⟩
@[reducible] def ty115 : Ty := ⟨.int .u64, 1, 8, [.int .u64 0]⟩
@[reducible] def ty116 : Ty := ⟨.pointer 128, 1, 8, [.pointer none]⟩
@[reducible] def ty117 : Ty := ⟨.func, 1, 8, [.nilFunc]⟩
@[reducible] def ty118 : Ty := ⟨.func, 1, 8, [.nilFunc]⟩
@[reducible] def ty119 : Ty := ⟨.array 24 5, 24, 24, List.replicate 24 (.int .u8 0)⟩
@[reducible] def ty120 : Ty := ⟨.func, 1, 8, [.nilFunc]⟩
@[reducible] def ty121 : Ty := ⟨.func, 1, 8, [.nilFunc]⟩
@[reducible] def ty122 : Ty := ⟨.slice 5, 1, 24, [.slice none 0 0]⟩
@[reducible] def ty128 : Ty := ⟨.struct [(9, 0), (9, 1), (94, 2)], 3, 48, [.string ByteArray.empty, .string ByteArray.empty, .nilIface]⟩
@[reducible] def ty131 : Ty := ⟨.array 20 112, 20, 160, List.replicate 20 (.int .u64 0)⟩
@[reducible] def ty132 : Ty := ⟨.int .u32, 1, 4, [.int .u32 0]⟩
@[reducible] def ty133 : Ty := ⟨.array 65 5, 65, 65, List.replicate 65 (.int .u8 0)⟩
@[reducible] def ty135 : Ty := ⟨.pointer 5, 1, 8, [.pointer none]⟩
@[reducible] def ty136 : Ty := ⟨.pointer 138, 1, 8, [.pointer none]⟩
@[reducible] def ty138 : Ty := ⟨.struct [(9, 0)], 1, 16, [.string ByteArray.empty]⟩
@[reducible] def ty140 : Ty := ⟨.array 32 5, 32, 32, List.replicate 32 (.int .u8 0)⟩
@[reducible] def ty141 : Ty := ⟨.array 64 5, 64, 64, List.replicate 64 (.int .u8 0)⟩
@[reducible] def ty143 : Ty := ⟨.struct [(17, 0), (17, 1), (17, 2), (9, 3)], 4, 40, [.pointer none, .pointer none, .pointer none, .string ByteArray.empty]⟩
@[reducible] def ty144 : Ty := ⟨.array 0 16, 0, 0, []⟩
@[reducible] def ty146 : Ty := ⟨.struct [(144, 0)], 0, 0, []⟩
@[reducible] def ty147 : Ty := ⟨.int .u8, 1, 1, [.int .u8 0]⟩
@[reducible] def ty148 : Ty := ⟨.int .u8, 1, 1, [.int .u8 0]⟩
@[reducible] def ty149 : Ty := ⟨.func, 1, 8, [.nilFunc]⟩
@[reducible] def ty150 : Ty := ⟨.int .i32, 1, 4, [.int .i32 0]⟩
@[reducible] def ty151 : Ty := ⟨.int .i32, 1, 4, [.int .i32 0]⟩
@[reducible] def ty153 : Ty := ⟨.struct [(12, 0), (12, 1), (132, 2), (147, 3), (5, 4), (5, 5), (148, 6), (149, 7), (135, 8), (150, 9), (151, 10)], 11, 48, [.int .u64 0, .int .u64 0, .int .u32 0, .int .u8 0, .int .u8 0, .int .u8 0, .int .u8 0, .nilFunc, .pointer none, .int .i32 0, .int .i32 0]⟩
@[reducible] def tab (T : Nat) : Option Ty := (match Nat.blt T 62 with | true => (match Nat.blt T 30 with | true => (match Nat.blt T 15 with | true => (match Nat.blt T 8 with | true => (match Nat.blt T 4 with | true => (match Nat.blt T 2 with | true => (match Nat.beq T 1 with | true => some ty1 | false => none) | false => (match Nat.blt T 3 with | true => (match Nat.beq T 2 with | true => some ty2 | false => none) | false => (match Nat.beq T 3 with | true => some ty3 | false => none))) | false => (match Nat.blt T 6 with | true => (match Nat.blt T 5 with | true => (match Nat.beq T 4 with | true => some ty4 | false => none) | false => (match Nat.beq T 5 with | true => some ty5 | false => none)) | false => (match Nat.blt T 7 with | true => (match Nat.beq T 6 with | true => some ty6 | false => none) | false => (match Nat.beq T 7 with | true => some ty7 | false => none)))) | false => (match Nat.blt T 11 with | true => (match Nat.blt T 9 with | true => (match Nat.beq T 8 with | true => some ty8 | false => none) | false => (match Nat.blt T 10 with | true => (match Nat.beq T 9 with | true => some ty9 | false => none) | false => (match Nat.beq T 10 with | true => some ty10 | false => none))) | false => (match Nat.blt T 13 with | true => (match Nat.blt T 12 with | true => (match Nat.beq T 11 with | true => some ty11 | false => none) | false => (match Nat.beq T 12 with | true => some ty12 | false => none)) | false => (match Nat.blt T 14 with | true => (match Nat.beq T 13 with | true => some ty13 | false => none) | false => (match Nat.beq T 14 with | true => some ty14 | false => none))))) | false => (match Nat.blt T 22 with | true => (match Nat.blt T 18 with | true => (match Nat.blt T 16 with | true => (match Nat.beq T 15 with | true => some ty15 | false => none) | false => (match Nat.blt T 17 with | true => (match Nat.beq T 16 with | true => some ty16 | false => none) | false => (match Nat.beq T 17 with | true => some ty17 | false => none))) | false => (match Nat.blt T 20 with | true => (match Nat.blt T 19 with | true => (match Nat.beq T 18 with | true => some ty18 | false => none) | false => (match Nat.beq T 19 with | true => some ty19 | false => none)) | false => (match Nat.blt T 21 with | true => (match Nat.beq T 20 with | true => some ty20 | false => none) | false => (match Nat.beq T 21 with | true => some ty21 | false => none)))) | false => (match Nat.blt T 25 with | true => (match Nat.blt T 23 with | true => (match Nat.beq T 22 with | true => some ty22 | false => none) | false => (match Nat.blt T 24 with | true => (match Nat.beq T 23 with | true => some ty23 | false => none) | false => (match Nat.beq T 24 with | true => some ty24 | false => none))) | false => (match Nat.blt T 27 with | true => (match Nat.blt T 26 with | true => (match Nat.beq T 25 with | true => some ty25 | false => none) | false => (match Nat.beq T 26 with | true => some ty26 | false => none)) | false => (match Nat.blt T 28 with | true => (match Nat.beq T 27 with | true => some ty27 | false => none) | false => (match Nat.beq T 28 with | true => some ty28 | false => none)))))) | false => (match Nat.blt T 46 with | true => (match Nat.blt T 37 with | true => (match Nat.blt T 33 with | true => (match Nat.blt T 31 with | true => (match Nat.beq T 30 with | true => some ty30 | false => none) | false => (match Nat.blt T 32 with | true => (match Nat.beq T 31 with | true => some ty31 | false => none) | false => (match Nat.beq T 32 with | true => some ty32 | false => none))) | false => (match Nat.blt T 35 with | true => (match Nat.blt T 34 with | true => (match Nat.beq T 33 with | true => some ty33 | false => none) | false => (match Nat.beq T 34 with | true => some ty34 | false => none)) | false => (match Nat.blt T 36 with | true => (match Nat.beq T 35 with | true => some ty35 | false => none) | false => (match Nat.beq T 36 with | true => some ty36 | false => none)))) | false => (match Nat.blt T 41 with | true => (match Nat.blt T 38 with | true => (match Nat.beq T 37 with | true => some ty37 | false => none) | false => (match Nat.blt T 39 with | true => (match Nat.beq T 38 with | true => some ty38 | false => none) | false => (match Nat.beq T 39 with | true => some ty39 | false => none))) | false => (match Nat.blt T 44 with | true => (match Nat.blt T 42 with | true => (match Nat.beq T 41 with | true => some ty41 | false => none) | false => (match Nat.beq T 42 with | true => some ty42 | false => none)) | false => (match Nat.blt T 45 with | true => (match Nat.beq T 44 with | true => some ty44 | false => none) | false => (match Nat.beq T 45 with | true => some ty45 | false => none))))) | false => (match Nat.blt T 54 with | true => (match Nat.blt T 49 with | true => (match Nat.blt T 47 with | true => (match Nat.beq T 46 with | true => some ty46 | false => none) | false => (match Nat.blt T 48 with | true => (match Nat.beq T 47 with | true => some ty47 | false => none) | false => (match Nat.beq T 48 with | true => some ty48 | false => none))) | false => (match Nat.blt T 52 with | true => (match Nat.blt T 51 with | true => (match Nat.beq T 49 with | true => some ty49 | false => none) | false => (match Nat.beq T 51 with | true => some ty51 | false => none)) | false => (match Nat.blt T 53 with | true => (match Nat.beq T 52 with | true => some ty52 | false => none) | false => (match Nat.beq T 53 with | true => some ty53 | false => none)))) | false => (match Nat.blt T 58 with | true => (match Nat.blt T 56 with | true => (match Nat.blt T 55 with | true => (match Nat.beq T 54 with | true => some ty54 | false => none) | false => (match Nat.beq T 55 with | true => some ty55 | false => none)) | false => (match Nat.blt T 57 with | true => (match Nat.beq T 56 with | true => some ty56 | false => none) | false => (match Nat.beq T 57 with | true => some ty57 | false => none))) | false => (match Nat.blt T 60 with | true => (match Nat.blt T 59 with | true => (match Nat.beq T 58 with | true => some ty58 | false => none) | false => (match Nat.beq T 59 with | true => some ty59 | false => none)) | false => (match Nat.blt T 61 with | true => (match Nat.beq T 60 with | true => some ty60 | false => none) | false => (match Nat.beq T 61 with | true => some ty61 | false => none))))))) | false => (match Nat.blt T 111 with | true => (match Nat.blt T 92 with | true => (match Nat.blt T 73 with | true => (match Nat.blt T 65 with | true => (match Nat.blt T 63 with | true => (match Nat.beq T 62 with | true => some ty62 | false => none) | false => (match Nat.blt T 64 with | true => (match Nat.beq T 63 with | true => some ty63 | false => none) | false => (match Nat.beq T 64 with | true => some ty64 | false => none))) | false => (match Nat.blt T 68 with | true => (match Nat.blt T 66 with | true => (match Nat.beq T 65 with | true => some ty65 | false => none) | false => (match Nat.beq T 66 with | true => some ty66 | false => none)) | false => (match Nat.blt T 70 with | true => (match Nat.beq T 68 with | true => some ty68 | false => none) | false => (match Nat.beq T 70 with | true => some ty70 | false => none)))) | false => (match Nat.blt T 78 with | true => (match Nat.blt T 74 with | true => (match Nat.beq T 73 with | true => some ty73 | false => none) | false => (match Nat.blt T 76 with | true => (match Nat.beq T 74 with | true => some ty74 | false => none) | false => (match Nat.beq T 76 with | true => some ty76 | false => none))) | false => (match Nat.blt T 88 with | true => (match Nat.blt T 80 with | true => (match Nat.beq T 78 with | true => some ty78 | false => none) | false => (match Nat.beq T 80 with | true => some ty80 | false => none)) | false => (match Nat.blt T 90 with | true => (match Nat.beq T 88 with | true => some ty88 | false => none) | false => (match Nat.beq T 90 with | true => some ty90 | false => none))))) | false => (match Nat.blt T 103 with | true => (match Nat.blt T 98 with | true => (match Nat.blt T 94 with | true => (match Nat.beq T 92 with | true => some ty92 | false => none) | false => (match Nat.blt T 97 with | true => (match Nat.beq T 94 with | true => some ty94 | false => none) | false => (match Nat.beq T 97 with | true => some ty97 | false => none))) | false => (match Nat.blt T 101 with | true => (match Nat.blt T 100 with | true => (match Nat.beq T 98 with | true => some ty98 | false => none) | false => (match Nat.beq T 100 with | true => some ty100 | false => none)) | false => (match Nat.blt T 102 with | true => (match Nat.beq T 101 with | true => some ty101 | false => none) | false => (match Nat.beq T 102 with | true => some ty102 | false => none)))) | false => (match Nat.blt T 107 with | true => (match Nat.blt T 105 with | true => (match Nat.blt T 104 with | true => (match Nat.beq T 103 with | true => some ty103 | false => none) | false => (match Nat.beq T 104 with | true => some ty104 | false => none)) | false => (match Nat.blt T 106 with | true => (match Nat.beq T 105 with | true => some ty105 | false => none) | false => (match Nat.beq T 106 with | true => some ty106 | false => none))) | false => (match Nat.blt T 109 with | true => (match Nat.blt T 108 with | true => (match Nat.beq T 107 with | true => some ty107 | false => none) | false => (match Nat.beq T 108 with | true => some ty108 | false => none)) | false => (match Nat.blt T 110 with | true => (match Nat.beq T 109 with | true => some ty109 | false => none) | false => (match Nat.beq T 110 with | true => some ty110 | false => none)))))) | false => (match Nat.blt T 133 with | true => (match Nat.blt T 119 with | true => (match Nat.blt T 115 with | true => (match Nat.blt T 112 with | true => (match Nat.beq T 111 with | true => some ty111 | false => none) | false => (match Nat.blt T 114 with | true => (match Nat.beq T 112 with | true => some ty112 | false => none) | false => (match Nat.beq T 114 with | true => some ty114 | false => none))) | false => (match Nat.blt T 117 with | true => (match Nat.blt T 116 with | true => (match Nat.beq T 115 with | true => some ty115 | false => none) | false => (match Nat.beq T 116 with | true => some ty116 | false => none)) | false => (match Nat.blt T 118 with | true => (match Nat.beq T 117 with | true => some ty117 | false => none) | false => (match Nat.beq T 118 with | true => some ty118 | false => none)))) | false => (match Nat.blt T 122 with | true => (match Nat.blt T 120 with | true => (match Nat.beq T 119 with | true => some ty119 | false => none) | false => (match Nat.blt T 121 with | true => (match Nat.beq T 120 with | true => some ty120 | false => none) | false => (match Nat.beq T 121 with | true => some ty121 | false => none))) | false => (match Nat.blt T 131 with | true => (match Nat.blt T 128 with | true => (match Nat.beq T 122 with | true => some ty122 | false => none) | false => (match Nat.beq T 128 with | true => some ty128 | false => none)) | false => (match Nat.blt T 132 with | true => (match Nat.beq T 131 with | true => some ty131 | false => none) | false => (match Nat.beq T 132 with | true => some ty132 | false => none))))) | false => (match Nat.blt T 144 with | true => (match Nat.blt T 138 with | true => (match Nat.blt T 135 with | true => (match Nat.beq T 133 with | true => some ty133 | false => none) | false => (match Nat.blt T 136 with | true => (match Nat.beq T 135 with | true => some ty135 | false => none) | false => (match Nat.beq T 136 with | true => some ty136 | false => none))) | false => (match Nat.blt T 141 with | true => (match Nat.blt T 140 with | true => (match Nat.beq T 138 with | true => some ty138 | false => none) | false => (match Nat.beq T 140 with | true => some ty140 | false => none)) | false => (match Nat.blt T 143 with | true => (match Nat.beq T 141 with | true => some ty141 | false => none) | false => (match Nat.beq T 143 with | true => some ty143 | false => none)))) | false => (match Nat.blt T 149 with | true => (match Nat.blt T 147 with | true => (match Nat.blt T 146 with | true => (match Nat.beq T 144 with | true => some ty144 | false => none) | false => (match Nat.beq T 146 with | true => some ty146 | false => none)) | false => (match Nat.blt T 148 with | true => (match Nat.beq T 147 with | true => some ty147 | false => none) | false => (match Nat.beq T 148 with | true => some ty148 | false => none))) | false => (match Nat.blt T 151 with | true => (match Nat.blt T 150 with | true => (match Nat.beq T 149 with | true => some ty149 | false => none) | false => (match Nat.beq T 150 with | true => some ty150 | false => none)) | false => (match Nat.blt T 153 with | true => (match Nat.beq T 151 with | true => some ty151 | false => none) | false => (match Nat.beq T 153 with | true => some ty153 | false => none))))))))
theorem tyOf1 : tyOf Tryz.prog 1 = some ty1 := by kernel_rfl
theorem tyOf2 : tyOf Tryz.prog 2 = some ty2 := by kernel_rfl
theorem tyOf3 : tyOf Tryz.prog 3 = some ty3 := by kernel_rfl
theorem tyOf4 : tyOf Tryz.prog 4 = some ty4 := by kernel_rfl
theorem tyOf5 : tyOf Tryz.prog 5 = some ty5 := by kernel_rfl
theorem tyOf6 : tyOf Tryz.prog 6 = some ty6 := by kernel_rfl
theorem tyOf7 : tyOf Tryz.prog 7 = some ty7 := by kernel_rfl
theorem tyOf8 : tyOf Tryz.prog 8 = some ty8 := by kernel_rfl
theorem tyOf9 : tyOf Tryz.prog 9 = some ty9 := by kernel_rfl
theorem tyOf10 : tyOf Tryz.prog 10 = some ty10 := by kernel_rfl
theorem tyOf11 : tyOf Tryz.prog 11 = some ty11 := by kernel_rfl
theorem tyOf12 : tyOf Tryz.prog 12 = some ty12 := by kernel_rfl
theorem tyOf13 : tyOf Tryz.prog 13 = some ty13 := by kernel_rfl
theorem tyOf14 : tyOf Tryz.prog 14 = some ty14 := by kernel_rfl
theorem tyOf15 : tyOf Tryz.prog 15 = some ty15 := by kernel_rfl
theorem tyOf16 : tyOf Tryz.prog 16 = some ty16 := by kernel_rfl
theorem tyOf17 : tyOf Tryz.prog 17 = some ty17 := by kernel_rfl
theorem tyOf18 : tyOf Tryz.prog 18 = some ty18 := by kernel_rfl
theorem tyOf19 : tyOf Tryz.prog 19 = some ty19 := by kernel_rfl
theorem tyOf20 : tyOf Tryz.prog 20 = some ty20 := by kernel_rfl
theorem tyOf21 : tyOf Tryz.prog 21 = some ty21 := by kernel_rfl
theorem tyOf22 : tyOf Tryz.prog 22 = some ty22 := by kernel_rfl
theorem tyOf23 : tyOf Tryz.prog 23 = some ty23 := by kernel_rfl
theorem tyOf24 : tyOf Tryz.prog 24 = some ty24 := by kernel_rfl
theorem tyOf25 : tyOf Tryz.prog 25 = some ty25 := by kernel_rfl
theorem tyOf26 : tyOf Tryz.prog 26 = some ty26 := by kernel_rfl
theorem tyOf27 : tyOf Tryz.prog 27 = some ty27 := by kernel_rfl
theorem tyOf28 : tyOf Tryz.prog 28 = some ty28 := by kernel_rfl
theorem tyOf30 : tyOf Tryz.prog 30 = some ty30 := by kernel_rfl
theorem tyOf31 : tyOf Tryz.prog 31 = some ty31 := by kernel_rfl
theorem tyOf32 : tyOf Tryz.prog 32 = some ty32 := by kernel_rfl
theorem tyOf33 : tyOf Tryz.prog 33 = some ty33 := by kernel_rfl
theorem tyOf34 : tyOf Tryz.prog 34 = some ty34 := by kernel_rfl
theorem tyOf35 : tyOf Tryz.prog 35 = some ty35 := by kernel_rfl
theorem tyOf36 : tyOf Tryz.prog 36 = some ty36 := by kernel_rfl
theorem tyOf37 : tyOf Tryz.prog 37 = some ty37 := by kernel_rfl
theorem tyOf38 : tyOf Tryz.prog 38 = some ty38 := by kernel_rfl
theorem tyOf39 : tyOf Tryz.prog 39 = some ty39 := by kernel_rfl
theorem tyOf41 : tyOf Tryz.prog 41 = some ty41 := by kernel_rfl
theorem tyOf42 : tyOf Tryz.prog 42 = some ty42 := by kernel_rfl
theorem tyOf44 : tyOf Tryz.prog 44 = some ty44 := by kernel_rfl
theorem tyOf45 : tyOf Tryz.prog 45 = some ty45 := by kernel_rfl
theorem tyOf46 : tyOf Tryz.prog 46 = some ty46 := by kernel_rfl
theorem tyOf47 : tyOf Tryz.prog 47 = some ty47 := by kernel_rfl
theorem tyOf48 : tyOf Tryz.prog 48 = some ty48 := by kernel_rfl
theorem tyOf49 : tyOf Tryz.prog 49 = some ty49 := by kernel_rfl
theorem tyOf51 : tyOf Tryz.prog 51 = some ty51 := by kernel_rfl
theorem tyOf52 : tyOf Tryz.prog 52 = some ty52 := by kernel_rfl
theorem tyOf53 : tyOf Tryz.prog 53 = some ty53 := by kernel_rfl
theorem tyOf54 : tyOf Tryz.prog 54 = some ty54 := by kernel_rfl
theorem tyOf55 : tyOf Tryz.prog 55 = some ty55 := by kernel_rfl
theorem tyOf56 : tyOf Tryz.prog 56 = some ty56 := by kernel_rfl
theorem tyOf57 : tyOf Tryz.prog 57 = some ty57 := by kernel_rfl
theorem tyOf58 : tyOf Tryz.prog 58 = some ty58 := by kernel_rfl
theorem tyOf59 : tyOf Tryz.prog 59 = some ty59 := by kernel_rfl
theorem tyOf60 : tyOf Tryz.prog 60 = some ty60 := by kernel_rfl
theorem tyOf61 : tyOf Tryz.prog 61 = some ty61 := by kernel_rfl
theorem tyOf62 : tyOf Tryz.prog 62 = some ty62 := by kernel_rfl
theorem tyOf63 : tyOf Tryz.prog 63 = some ty63 := by kernel_rfl
theorem tyOf64 : tyOf Tryz.prog 64 = some ty64 := by kernel_rfl
theorem tyOf65 : tyOf Tryz.prog 65 = some ty65 := by kernel_rfl
theorem tyOf66 : tyOf Tryz.prog 66 = some ty66 := by kernel_rfl
theorem tyOf68 : tyOf Tryz.prog 68 = some ty68 := by kernel_rfl
theorem tyOf70 : tyOf Tryz.prog 70 = some ty70 := by kernel_rfl
theorem tyOf73 : tyOf Tryz.prog 73 = some ty73 := by kernel_rfl
theorem tyOf74 : tyOf Tryz.prog 74 = some ty74 := by kernel_rfl
theorem tyOf76 : tyOf Tryz.prog 76 = some ty76 := by kernel_rfl
theorem tyOf78 : tyOf Tryz.prog 78 = some ty78 := by kernel_rfl
theorem tyOf80 : tyOf Tryz.prog 80 = some ty80 := by kernel_rfl
theorem tyOf88 : tyOf Tryz.prog 88 = some ty88 := by kernel_rfl
theorem tyOf90 : tyOf Tryz.prog 90 = some ty90 := by kernel_rfl
theorem tyOf92 : tyOf Tryz.prog 92 = some ty92 := by kernel_rfl
theorem tyOf94 : tyOf Tryz.prog 94 = some ty94 := by kernel_rfl
theorem tyOf97 : tyOf Tryz.prog 97 = some ty97 := by kernel_rfl
theorem tyOf98 : tyOf Tryz.prog 98 = some ty98 := by kernel_rfl
theorem tyOf100 : tyOf Tryz.prog 100 = some ty100 := by kernel_rfl
theorem tyOf101 : tyOf Tryz.prog 101 = some ty101 := by kernel_rfl
theorem tyOf102 : tyOf Tryz.prog 102 = some ty102 := by kernel_rfl
theorem tyOf103 : tyOf Tryz.prog 103 = some ty103 := by kernel_rfl
theorem tyOf104 : tyOf Tryz.prog 104 = some ty104 := by kernel_rfl
theorem tyOf105 : tyOf Tryz.prog 105 = some ty105 := by kernel_rfl
theorem tyOf106 : tyOf Tryz.prog 106 = some ty106 := by kernel_rfl
theorem tyOf107 : tyOf Tryz.prog 107 = some ty107 := by kernel_rfl
theorem tyOf108 : tyOf Tryz.prog 108 = some ty108 := by kernel_rfl
theorem tyOf109 : tyOf Tryz.prog 109 = some ty109 := by kernel_rfl
theorem tyOf110 : tyOf Tryz.prog 110 = some ty110 := by kernel_rfl
theorem tyOf111 : tyOf Tryz.prog 111 = some ty111 := by kernel_rfl
theorem tyOf112 : tyOf Tryz.prog 112 = some ty112 := by kernel_rfl
theorem tyOf114 : tyOf Tryz.prog 114 = some ty114 := by kernel_rfl
theorem tyOf115 : tyOf Tryz.prog 115 = some ty115 := by kernel_rfl
theorem tyOf116 : tyOf Tryz.prog 116 = some ty116 := by kernel_rfl
theorem tyOf117 : tyOf Tryz.prog 117 = some ty117 := by kernel_rfl
theorem tyOf118 : tyOf Tryz.prog 118 = some ty118 := by kernel_rfl
theorem tyOf119 : tyOf Tryz.prog 119 = some ty119 := by kernel_rfl
theorem tyOf120 : tyOf Tryz.prog 120 = some ty120 := by kernel_rfl
theorem tyOf121 : tyOf Tryz.prog 121 = some ty121 := by kernel_rfl
theorem tyOf122 : tyOf Tryz.prog 122 = some ty122 := by kernel_rfl
theorem tyOf128 : tyOf Tryz.prog 128 = some ty128 := by kernel_rfl
theorem tyOf131 : tyOf Tryz.prog 131 = some ty131 := by kernel_rfl
theorem tyOf132 : tyOf Tryz.prog 132 = some ty132 := by kernel_rfl
theorem tyOf133 : tyOf Tryz.prog 133 = some ty133 := by kernel_rfl
theorem tyOf135 : tyOf Tryz.prog 135 = some ty135 := by kernel_rfl
theorem tyOf136 : tyOf Tryz.prog 136 = some ty136 := by kernel_rfl
theorem tyOf138 : tyOf Tryz.prog 138 = some ty138 := by kernel_rfl
theorem tyOf140 : tyOf Tryz.prog 140 = some ty140 := by kernel_rfl
theorem tyOf141 : tyOf Tryz.prog 141 = some ty141 := by kernel_rfl
theorem tyOf143 : tyOf Tryz.prog 143 = some ty143 := by kernel_rfl
theorem tyOf144 : tyOf Tryz.prog 144 = some ty144 := by kernel_rfl
theorem tyOf146 : tyOf Tryz.prog 146 = some ty146 := by kernel_rfl
theorem tyOf147 : tyOf Tryz.prog 147 = some ty147 := by kernel_rfl
theorem tyOf148 : tyOf Tryz.prog 148 = some ty148 := by kernel_rfl
theorem tyOf149 : tyOf Tryz.prog 149 = some ty149 := by kernel_rfl
theorem tyOf150 : tyOf Tryz.prog 150 = some ty150 := by kernel_rfl
theorem tyOf151 : tyOf Tryz.prog 151 = some ty151 := by kernel_rfl
theorem tyOf153 : tyOf Tryz.prog 153 = some ty153 := by kernel_rfl
theorem tyLeaf {P : Program} {k T : Nat} {t r : Ty} (hk : tyOf P k = some t) (h : (match Nat.beq T k with | true => some t | false => none) = some r) : tyOf P T = some r := by
  split at h
  · rename_i e; rw [Nat.eq_of_beq_eq_true e, hk, h]
  · cases h
theorem tyNode {G : Prop} {r : Ty} {c : Bool} {a b : Option Ty} (h : (match c with | true => a | false => b) = some r) (ha : a = some r → G) (hb : b = some r → G) : G := by
  split at h
  · exact ha h
  · exact hb h
theorem tyrow {T : Nat} {r : Ty} (h0 : tab T = some r) : tyOf Tryz.prog T = some r := (tyNode h0 (fun h1 => (tyNode h1 (fun h2 => (tyNode h2 (fun h3 => (tyNode h3 (fun h4 => (tyNode h4 (fun h5 => (tyNode h5 (fun h6 => (tyLeaf tyOf1 h6)) (fun h6 => (tyNode h6 (fun h7 => (tyLeaf tyOf2 h7)) (fun h7 => (tyLeaf tyOf3 h7)))))) (fun h5 => (tyNode h5 (fun h6 => (tyNode h6 (fun h7 => (tyLeaf tyOf4 h7)) (fun h7 => (tyLeaf tyOf5 h7)))) (fun h6 => (tyNode h6 (fun h7 => (tyLeaf tyOf6 h7)) (fun h7 => (tyLeaf tyOf7 h7)))))))) (fun h4 => (tyNode h4 (fun h5 => (tyNode h5 (fun h6 => (tyLeaf tyOf8 h6)) (fun h6 => (tyNode h6 (fun h7 => (tyLeaf tyOf9 h7)) (fun h7 => (tyLeaf tyOf10 h7)))))) (fun h5 => (tyNode h5 (fun h6 => (tyNode h6 (fun h7 => (tyLeaf tyOf11 h7)) (fun h7 => (tyLeaf tyOf12 h7)))) (fun h6 => (tyNode h6 (fun h7 => (tyLeaf tyOf13 h7)) (fun h7 => (tyLeaf tyOf14 h7)))))))))) (fun h3 => (tyNode h3 (fun h4 => (tyNode h4 (fun h5 => (tyNode h5 (fun h6 => (tyLeaf tyOf15 h6)) (fun h6 => (tyNode h6 (fun h7 => (tyLeaf tyOf16 h7)) (fun h7 => (tyLeaf tyOf17 h7)))))) (fun h5 => (tyNode h5 (fun h6 => (tyNode h6 (fun h7 => (tyLeaf tyOf18 h7)) (fun h7 => (tyLeaf tyOf19 h7)))) (fun h6 => (tyNode h6 (fun h7 => (tyLeaf tyOf20 h7)) (fun h7 => (tyLeaf tyOf21 h7)))))))) (fun h4 => (tyNode h4 (fun h5 => (tyNode h5 (fun h6 => (tyLeaf tyOf22 h6)) (fun h6 => (tyNode h6 (fun h7 => (tyLeaf tyOf23 h7)) (fun h7 => (tyLeaf tyOf24 h7)))))) (fun h5 => (tyNode h5 (fun h6 => (tyNode h6 (fun h7 => (tyLeaf tyOf25 h7)) (fun h7 => (tyLeaf tyOf26 h7)))) (fun h6 => (tyNode h6 (fun h7 => (tyLeaf tyOf27 h7)) (fun h7 => (tyLeaf tyOf28 h7)))))))))))) (fun h2 => (tyNode h2 (fun h3 => (tyNode h3 (fun h4 => (tyNode h4 (fun h5 => (tyNode h5 (fun h6 => (tyLeaf tyOf30 h6)) (fun h6 => (tyNode h6 (fun h7 => (tyLeaf tyOf31 h7)) (fun h7 => (tyLeaf tyOf32 h7)))))) (fun h5 => (tyNode h5 (fun h6 => (tyNode h6 (fun h7 => (tyLeaf tyOf33 h7)) (fun h7 => (tyLeaf tyOf34 h7)))) (fun h6 => (tyNode h6 (fun h7 => (tyLeaf tyOf35 h7)) (fun h7 => (tyLeaf tyOf36 h7)))))))) (fun h4 => (tyNode h4 (fun h5 => (tyNode h5 (fun h6 => (tyLeaf tyOf37 h6)) (fun h6 => (tyNode h6 (fun h7 => (tyLeaf tyOf38 h7)) (fun h7 => (tyLeaf tyOf39 h7)))))) (fun h5 => (tyNode h5 (fun h6 => (tyNode h6 (fun h7 => (tyLeaf tyOf41 h7)) (fun h7 => (tyLeaf tyOf42 h7)))) (fun h6 => (tyNode h6 (fun h7 => (tyLeaf tyOf44 h7)) (fun h7 => (tyLeaf tyOf45 h7)))))))))) (fun h3 => (tyNode h3 (fun h4 => (tyNode h4 (fun h5 => (tyNode h5 (fun h6 => (tyLeaf tyOf46 h6)) (fun h6 => (tyNode h6 (fun h7 => (tyLeaf tyOf47 h7)) (fun h7 => (tyLeaf tyOf48 h7)))))) (fun h5 => (tyNode h5 (fun h6 => (tyNode h6 (fun h7 => (tyLeaf tyOf49 h7)) (fun h7 => (tyLeaf tyOf51 h7)))) (fun h6 => (tyNode h6 (fun h7 => (tyLeaf tyOf52 h7)) (fun h7 => (tyLeaf tyOf53 h7)))))))) (fun h4 => (tyNode h4 (fun h5 => (tyNode h5 (fun h6 => (tyNode h6 (fun h7 => (tyLeaf tyOf54 h7)) (fun h7 => (tyLeaf tyOf55 h7)))) (fun h6 => (tyNode h6 (fun h7 => (tyLeaf tyOf56 h7)) (fun h7 => (tyLeaf tyOf57 h7)))))) (fun h5 => (tyNode h5 (fun h6 => (tyNode h6 (fun h7 => (tyLeaf tyOf58 h7)) (fun h7 => (tyLeaf tyOf59 h7)))) (fun h6 => (tyNode h6 (fun h7 => (tyLeaf tyOf60 h7)) (fun h7 => (tyLeaf tyOf61 h7)))))))))))))) (fun h1 => (tyNode h1 (fun h2 => (tyNode h2 (fun h3 => (tyNode h3 (fun h4 => (tyNode h4 (fun h5 => (tyNode h5 (fun h6 => (tyLeaf tyOf62 h6)) (fun h6 => (tyNode h6 (fun h7 => (tyLeaf tyOf63 h7)) (fun h7 => (tyLeaf tyOf64 h7)))))) (fun h5 => (tyNode h5 (fun h6 => (tyNode h6 (fun h7 => (tyLeaf tyOf65 h7)) (fun h7 => (tyLeaf tyOf66 h7)))) (fun h6 => (tyNode h6 (fun h7 => (tyLeaf tyOf68 h7)) (fun h7 => (tyLeaf tyOf70 h7)))))))) (fun h4 => (tyNode h4 (fun h5 => (tyNode h5 (fun h6 => (tyLeaf tyOf73 h6)) (fun h6 => (tyNode h6 (fun h7 => (tyLeaf tyOf74 h7)) (fun h7 => (tyLeaf tyOf76 h7)))))) (fun h5 => (tyNode h5 (fun h6 => (tyNode h6 (fun h7 => (tyLeaf tyOf78 h7)) (fun h7 => (tyLeaf tyOf80 h7)))) (fun h6 => (tyNode h6 (fun h7 => (tyLeaf tyOf88 h7)) (fun h7 => (tyLeaf tyOf90 h7)))))))))) (fun h3 => (tyNode h3 (fun h4 => (tyNode h4 (fun h5 => (tyNode h5 (fun h6 => (tyLeaf tyOf92 h6)) (fun h6 => (tyNode h6 (fun h7 => (tyLeaf tyOf94 h7)) (fun h7 => (tyLeaf tyOf97 h7)))))) (fun h5 => (tyNode h5 (fun h6 => (tyNode h6 (fun h7 => (tyLeaf tyOf98 h7)) (fun h7 => (tyLeaf tyOf100 h7)))) (fun h6 => (tyNode h6 (fun h7 => (tyLeaf tyOf101 h7)) (fun h7 => (tyLeaf tyOf102 h7)))))))) (fun h4 => (tyNode h4 (fun h5 => (tyNode h5 (fun h6 => (tyNode h6 (fun h7 => (tyLeaf tyOf103 h7)) (fun h7 => (tyLeaf tyOf104 h7)))) (fun h6 => (tyNode h6 (fun h7 => (tyLeaf tyOf105 h7)) (fun h7 => (tyLeaf tyOf106 h7)))))) (fun h5 => (tyNode h5 (fun h6 => (tyNode h6 (fun h7 => (tyLeaf tyOf107 h7)) (fun h7 => (tyLeaf tyOf108 h7)))) (fun h6 => (tyNode h6 (fun h7 => (tyLeaf tyOf109 h7)) (fun h7 => (tyLeaf tyOf110 h7)))))))))))) (fun h2 => (tyNode h2 (fun h3 => (tyNode h3 (fun h4 => (tyNode h4 (fun h5 => (tyNode h5 (fun h6 => (tyLeaf tyOf111 h6)) (fun h6 => (tyNode h6 (fun h7 => (tyLeaf tyOf112 h7)) (fun h7 => (tyLeaf tyOf114 h7)))))) (fun h5 => (tyNode h5 (fun h6 => (tyNode h6 (fun h7 => (tyLeaf tyOf115 h7)) (fun h7 => (tyLeaf tyOf116 h7)))) (fun h6 => (tyNode h6 (fun h7 => (tyLeaf tyOf117 h7)) (fun h7 => (tyLeaf tyOf118 h7)))))))) (fun h4 => (tyNode h4 (fun h5 => (tyNode h5 (fun h6 => (tyLeaf tyOf119 h6)) (fun h6 => (tyNode h6 (fun h7 => (tyLeaf tyOf120 h7)) (fun h7 => (tyLeaf tyOf121 h7)))))) (fun h5 => (tyNode h5 (fun h6 => (tyNode h6 (fun h7 => (tyLeaf tyOf122 h7)) (fun h7 => (tyLeaf tyOf128 h7)))) (fun h6 => (tyNode h6 (fun h7 => (tyLeaf tyOf131 h7)) (fun h7 => (tyLeaf tyOf132 h7)))))))))) (fun h3 => (tyNode h3 (fun h4 => (tyNode h4 (fun h5 => (tyNode h5 (fun h6 => (tyLeaf tyOf133 h6)) (fun h6 => (tyNode h6 (fun h7 => (tyLeaf tyOf135 h7)) (fun h7 => (tyLeaf tyOf136 h7)))))) (fun h5 => (tyNode h5 (fun h6 => (tyNode h6 (fun h7 => (tyLeaf tyOf138 h7)) (fun h7 => (tyLeaf tyOf140 h7)))) (fun h6 => (tyNode h6 (fun h7 => (tyLeaf tyOf141 h7)) (fun h7 => (tyLeaf tyOf143 h7)))))))) (fun h4 => (tyNode h4 (fun h5 => (tyNode h5 (fun h6 => (tyNode h6 (fun h7 => (tyLeaf tyOf144 h7)) (fun h7 => (tyLeaf tyOf146 h7)))) (fun h6 => (tyNode h6 (fun h7 => (tyLeaf tyOf147 h7)) (fun h7 => (tyLeaf tyOf148 h7)))))) (fun h5 => (tyNode h5 (fun h6 => (tyNode h6 (fun h7 => (tyLeaf tyOf149 h7)) (fun h7 => (tyLeaf tyOf150 h7)))) (fun h6 => (tyNode h6 (fun h7 => (tyLeaf tyOf151 h7)) (fun h7 => (tyLeaf tyOf153 h7)))))))))))))))
end X
end Go.Proofs.YthefnnkmpcgcmaaGreatDoor

namespace Go.Proofs.YthefnnkmpcgcmaaGreatDoor
namespace X
open Go
section
variable {P : Program} {ρ : Env} {S : Heap → Prop} {ty : TypeId}
end
end X
end Go.Proofs.YthefnnkmpcgcmaaGreatDoor

namespace Go.Proofs.YthefnnkmpcgcmaaGreatDoor
namespace X
open Go
theorem mat_self {ρ : Env} : ∀ {l : List (Nat × Value)}, Mat ρ l → l.foldl (fun r p => upd r p.1 p.2) ρ = ρ
  | [], _ => rfl
  | (d, v) :: l, h => by
    have e : upd ρ d v = ρ := funext fun s => by
      by_cases hs : s = d
      · subst hs; simp [upd, h.1]
      · unfold upd; rw [show s.beq d = false from by cases hb : s.beq d with | true => exact absurd (Nat.eq_of_beq_eq_true hb) hs | false => rfl]
    show l.foldl (fun r p => upd r p.1 p.2) (upd ρ d v) = ρ
    rw [e]; exact mat_self h.2
/-- Forget all slots but those of E. -/
theorem gen {Q : Env → Prop} {ρ : Env} (E : List (Nat × Value)) (hE : Mat ρ E) (k : ∀ δ, Q (E.foldl (fun r p => upd r p.1 p.2) δ)) : Q ρ := by
  have := k ρ; rwa [mat_self hE] at this
end X
end Go.Proofs.YthefnnkmpcgcmaaGreatDoor

namespace Go.Proofs.YthefnnkmpcgcmaaGreatDoor
namespace X
open Go
abbrev PH := Nat → Option Obj
def PH.le (m : PH) (h : Heap) : Prop := ∀ k o, m k = some o → h[k]? = some o
def PH.sub (m m' : PH) : Prop := ∀ k o, m k = some o → m' k = some o
def PH.dis (m m' : PH) : Prop := ∀ k o o', m k = some o → m' k = some o' → False
def PH.or (m m' : PH) : PH := fun k => match m k with | some o => some o | none => m' k
def PH.one (g : Nat) (o : Obj) : PH := fun k => if k = g then some o else none
theorem PH.sub.refl (m : PH) : m.sub m := fun _ _ h => h
theorem PH.sub.trans {a b c : PH} (h : a.sub b) (k : b.sub c) : a.sub c := fun i o x => k i o (h i o x)
theorem PH.sub.le {a b : PH} {h : Heap} (x : a.sub b) (y : b.le h) : a.le h := fun i o z => y i o (x i o z)
theorem PH.dis.symm {a b : PH} (h : a.dis b) : b.dis a := fun k o o' x y => h k o' o y x
theorem PH.dis.mono {a b a' b' : PH} (h : a.dis b) (x : a'.sub a) (y : b'.sub b) : a'.dis b' := fun k o o' p q => h k o o' (x k o p) (y k o' q)
theorem PH.or_l (a b : PH) : a.sub (a.or b) := fun k o h => by simp [PH.or, h]
theorem PH.or_r {a b : PH} (d : a.dis b) : b.sub (a.or b) := fun k o h => by
  unfold PH.or
  cases e : a k with
  | none => exact h
  | some o' => exact (d k o' o e h).elim
theorem PH.or_some {a b : PH} {k : Nat} {o : Obj} (h : (a.or b) k = some o) : a k = some o ∨ b k = some o := by
  unfold PH.or at h
  cases e : a k with
  | none => rw [e] at h; exact .inr h
  | some o' => rw [e] at h; exact .inl h
theorem PH.or_sub {a b c : PH} (h : a.sub c) (k : b.sub c) : (a.or b).sub c := fun i o x => (PH.or_some x).elim (h i o) (k i o)
theorem PH.or_le {a b : PH} {c : Heap} (h : a.le c) (k : b.le c) : (a.or b).le c := fun i o x => (PH.or_some x).elim (h i o) (k i o)
theorem PH.or_dis {a b c : PH} (h : a.dis c) (k : b.dis c) : (a.or b).dis c := fun i o o' x y => (PH.or_some x).elim (fun z => h i o o' z y) (fun z => k i o o' z y)
theorem PH.one_some {g k : Nat} {o o' : Obj} (h : PH.one g o k = some o') : k = g ∧ o' = o := by
  unfold PH.one at h; split at h
  · simp at h; exact ⟨by assumption, h.symm⟩
  · cases h
def PH.none : PH := fun _ => Option.none
theorem PH.none_le (h : Heap) : PH.none.le h := fun _ _ x => by cases x
theorem PH.none_sub (m : PH) : PH.none.sub m := fun _ _ x => by cases x
theorem PH.none_dis (m : PH) : m.dis PH.none := fun _ _ _ _ x => by cases x
def ofHeap (h : Heap) : PH := fun k => h[k]?
theorem ofHeap_le (h : Heap) : (ofHeap h).le h := fun _ _ x => x
theorem PH.le.lt {m : PH} {h : Heap} (hm : m.le h) {k : Nat} {o : Obj} (e : m k = some o) : k < h.size := lt_of_get (hm k o e)
theorem PH.le.push {m : PH} {h : Heap} (hm : m.le h) (o : Obj) : m.le (h.push o) := fun k o' e => by rw [get_push_old (hm.lt e)]; exact hm k o' e

def HP := PH → Prop
def Sat : List HP → PH → Prop
  | [], _ => True
  | R :: Γ, m => ∃ m1 m2, R m1 ∧ Sat Γ m2 ∧ m1.dis m2 ∧ m1.sub m ∧ m2.sub m
theorem Sat.mono : ∀ {Γ : List HP} {m m' : PH}, Sat Γ m → m.sub m' → Sat Γ m'
  | [], _, _, _, _ => trivial
  | _ :: _, _, _, ⟨m1, m2, a, b, c, d, e⟩, s => ⟨m1, m2, a, b, c, d.trans s, e.trans s⟩
theorem Sat.swap {R S : HP} {Γ : List HP} {m : PH} (h : Sat (R :: S :: Γ) m) : Sat (S :: R :: Γ) m := by
  obtain ⟨m1, m2, a, ⟨m3, m4, b, c, d, e, f⟩, g, i, j⟩ := h
  exact ⟨m3, m1.or m4, b, ⟨m1, m4, a, c, g.mono (.refl _) f, PH.or_l _ _, PH.or_r (g.mono (.refl _) f)⟩, (PH.or_dis (g.mono (.refl _) e) d.symm).symm, e.trans j, PH.or_sub i (f.trans j)⟩
theorem Sat.cons_mono {R : HP} {Γ Δ : List HP} (hs : ∀ m, Sat Γ m → Sat Δ m) {m : PH} (h : Sat (R :: Γ) m) : Sat (R :: Δ) m := by
  obtain ⟨m1, m2, a, b, c, d, e⟩ := h
  exact ⟨m1, m2, a, hs _ b, c, d, e⟩
inductive Sel : List HP → HP → List HP → Prop where
  | head {R : HP} {Γ : List HP} : Sel (R :: Γ) R Γ
  | tail {R S : HP} {Γ Γ' : List HP} (h : Sel Γ R Γ') : Sel (S :: Γ) R (S :: Γ')
theorem Sel.to {Γ Γ' : List HP} {R : HP} (s : Sel Γ R Γ') : ∀ {m : PH}, Sat Γ m → Sat (R :: Γ') m := by
  induction s with
  | head => intro m h; exact h
  | tail _ ih => intro m h; exact (Sat.cons_mono (fun _ => ih) h).swap
theorem Sat.append : ∀ {Γ Δ : List HP} {m : PH}, Sat (Γ ++ Δ) m → ∃ m1 m2, Sat Γ m1 ∧ Sat Δ m2 ∧ m1.dis m2 ∧ m1.sub m ∧ m2.sub m
  | [], Δ, m, h => ⟨PH.none, m, trivial, h, (PH.none_dis m).symm, PH.none_sub m, PH.sub.refl m⟩
  | R :: Γ, Δ, m, ⟨m1, m2, a, b, c, d, e⟩ => by
    obtain ⟨n1, n2, p, q, r, s, t⟩ := Sat.append b
    exact ⟨m1.or n1, n2, ⟨m1, n1, a, p, c.mono (.refl _) s, PH.or_l _ _, PH.or_r (c.mono (.refl _) s)⟩, q, PH.or_dis (c.mono (.refl _) t) r, PH.or_sub d (s.trans e), t.trans e⟩
theorem Sat.join : ∀ {Γ Δ : List HP} {m1 m2 m : PH}, Sat Γ m1 → Sat Δ m2 → m1.dis m2 → m1.sub m → m2.sub m → Sat (Γ ++ Δ) m
  | [], _, _, _, _, _, h, _, _, e => h.mono e
  | R :: Γ, Δ, m1, m2, m, ⟨n1, n2, p, q, r, s, t⟩, h, d, e, f => by
    refine ⟨n1, n2.or m2, p, Sat.join q h (d.mono t (.refl _)) (PH.or_l _ _) (PH.or_r (d.mono t (.refl _))), (PH.or_dis r.symm (d.symm.mono (.refl _) s)).symm, s.trans e, PH.or_sub (t.trans e) f⟩
/-- What Γ gives. -/
def Ent (Γ Δ : List HP) : Prop := ∀ m, Sat Γ m → Sat Δ m
theorem Ent.refl (Γ : List HP) : Ent Γ Γ := fun _ h => h
theorem Ent.nil (Γ : List HP) : Ent Γ [] := fun _ _ => trivial
theorem Ent.sel {Γ Γ' Δ : List HP} {R : HP} (s : Sel Γ R Γ') (h : Ent Γ' Δ) : Ent Γ (R :: Δ) := fun _ x => Sat.cons_mono h (s.to x)
theorem Ent.imp {Γ Γ' Δ : List HP} {R S : HP} (s : Sel Γ R Γ') (hi : ∀ m, R m → S m) (h : Ent Γ' Δ) : Ent Γ (S :: Δ) := fun _ x => by
  obtain ⟨m1, m2, a, b, c⟩ := s.to x
  exact ⟨m1, m2, hi _ a, h _ b, c⟩
/-- A thing of which the parts are Θ. -/
theorem Ent.fold {Γ Θ Γ' Δ : List HP} {S : HP} (s : Ent Γ (Θ ++ Γ')) (hi : ∀ m, Sat Θ m → S m) (h : Ent Γ' Δ) : Ent Γ (S :: Δ) := fun m x => by
  obtain ⟨m1, m2, a, b, c⟩ := Sat.append (s m x)
  exact ⟨m1, m2, hi _ a, h _ b, c⟩
structure Holds (σ : PH) (Γ : List HP) (f : PH) (h : Heap) : Prop where
  ex : ∃ m, Sat Γ m ∧ m.le h ∧ σ.le h ∧ f.le h ∧ m.dis σ ∧ m.dis f ∧ σ.dis f
def Ho (σ : PH) (Γ : List HP) (h : Heap) : Prop := ∃ f, Holds σ Γ f h
theorem Holds.ho {σ f : PH} {Γ : List HP} {h : Heap} (x : Holds σ Γ f h) : Ho σ Γ h := ⟨f, x⟩
theorem Holds.ent {σ f : PH} {Γ Δ : List HP} {h : Heap} (x : Holds σ Γ f h) (e : Ent Γ Δ) : Holds σ Δ f h := by
  obtain ⟨m, a, b⟩ := x; exact ⟨m, e m a, b⟩
theorem Ho.ent {σ : PH} {Γ Δ : List HP} {h : Heap} (x : Ho σ Γ h) (e : Ent Γ Δ) : Ho σ Δ h := by
  obtain ⟨f, y⟩ := x; exact ⟨f, y.ent e⟩
theorem Holds.per {σ f : PH} {Γ : List HP} {h : Heap} (x : Holds σ Γ f h) : σ.le h := by obtain ⟨m, a, b, c, d⟩ := x; exact c
/-- Others' things are put aside, and come back. -/
theorem Holds.aside {σ f : PH} {Γ Δ : List HP} {h : Heap} (x : Holds σ (Γ ++ Δ) f h) : ∃ f', Holds σ Γ f' h ∧ ∀ σ' Γ' h', Holds σ' Γ' f' h' → Holds σ' (Γ' ++ Δ) f h' := by
  obtain ⟨m, a, b, c, d, e, p, q⟩ := x
  obtain ⟨m1, m2, s1, s2, s3, s4, s5⟩ := Sat.append a
  have hd : f.dis m2 := (p.mono s5 (.refl _)).symm
  refine ⟨f.or m2, ⟨m1, s1, s4.le b, c, PH.or_le d (s5.le b), e.mono s4 (.refl _), (PH.or_dis (p.mono s4 (.refl _)).symm s3.symm).symm, (PH.or_dis q.symm (e.mono s5 (.refl _))).symm⟩, ?_⟩
  rintro σ' Γ' h' ⟨n, t1, t2, t3, t4, t5, t6, t7⟩
  have hf := PH.or_l f m2
  have hm := PH.or_r hd
  have hn2 : n.dis m2 := t6.mono (.refl _) hm
  exact ⟨n.or m2, Sat.join t1 s2 hn2 (PH.or_l _ _) (PH.or_r hn2), PH.or_le t2 (hm.le t4), t3, hf.le t4, PH.or_dis t5 (t7.symm.mono hm (.refl _)), PH.or_dis (t6.mono (.refl _) hf) hd.symm, t7.mono (.refl _) hf⟩

/-! blocks -/
def cellsOf (l : List Value) (T : TypeId) : Obj := .cells l.toArray T (0, 0)
/-- A block. -/
def blk (g : Nat) (l : List Value) (T : TypeId) : HP := fun m => m g = some (cellsOf l T)
theorem Holds.blk {σ f : PH} {Γ Γ' : List HP} {h : Heap} {g : Nat} {l : List Value} {T : TypeId} (x : Holds σ Γ f h) (s : Sel Γ (blk g l T) Γ') : Blk h g l T := by
  obtain ⟨m, a, b, c⟩ := x
  obtain ⟨m1, m2, p, q, r, t, u⟩ := s.to a
  exact ⟨b g _ (t g _ p)⟩
theorem Ho.blk {σ : PH} {Γ Γ' : List HP} {h : Heap} {g : Nat} {l : List Value} {T : TypeId} (x : Ho σ Γ h) (s : Sel Γ (X.blk g l T) Γ') : Blk h g l T := by
  obtain ⟨f, y⟩ := x; exact y.blk s
theorem Holds.alloc {σ f : PH} {Γ : List HP} {h : Heap} (x : Holds σ Γ f h) (l : List Value) (T : TypeId) : Holds σ (X.blk h.size l T :: Γ) f (h.push (cellsOf l T)) := by
  obtain ⟨m, a, b, c, d, e, p, q⟩ := x
  have fresh : ∀ {m : PH}, m.le h → (PH.one h.size (cellsOf l T)).dis m := fun {m} hm k o o' x y => by
    obtain ⟨rfl, -⟩ := PH.one_some x
    exact Nat.lt_irrefl _ (hm.lt y)
  refine ⟨(PH.one h.size (cellsOf l T)).or m, ⟨PH.one h.size (cellsOf l T), m, by simp [X.blk, PH.one], a, fresh b, PH.or_l _ _, PH.or_r (fresh b)⟩, PH.or_le (fun k o hk => ?_) (b.push _), c.push _, d.push _, PH.or_dis (fresh c) e, PH.or_dis (fresh d) p, q⟩
  obtain ⟨rfl, rfl⟩ := PH.one_some hk
  exact get_push_new rfl
theorem Holds.set {σ f : PH} {Γ Γ' : List HP} {h : Heap} {g : Nat} {l : List Value} {T : TypeId} (x : Holds σ Γ f h) (s : Sel Γ (X.blk g l T) Γ') (l' : List Value) : Holds σ (X.blk g l' T :: Γ') f (hset h g l' T) := by
  have hb := x.blk s
  obtain ⟨m, a, b, c, d, e, p, q⟩ := x
  obtain ⟨m1, m2, r1, r2, r3, r4, r5⟩ := s.to a
  have r1' : m1 g = some (cellsOf l T) := r1
  have keep : ∀ {n : PH}, n.le h → m1.dis n → n.le (hset h g l' T) := fun {n} hn hd k o hk => by
    have hne : k ≠ g := fun e => by subst e; exact hd k _ _ r1' hk
    rw [get_hset_ne hne]; exact hn k o hk
  have hd : (PH.one g (cellsOf l' T)).dis m2 := fun k o o' x y => by
    obtain ⟨rfl, -⟩ := PH.one_some x
    exact r3 k _ _ r1' y
  refine ⟨(PH.one g (cellsOf l' T)).or m2, ⟨PH.one g (cellsOf l' T), m2, by simp [X.blk, PH.one], r2, hd, PH.or_l _ _, PH.or_r hd⟩, PH.or_le (fun k o hk => ?_) (keep (r5.le b) r3), keep c (e.mono r4 (.refl _)), keep d (p.mono r4 (.refl _)), PH.or_dis (fun k o o' x y => ?_) (e.mono r5 (.refl _)), PH.or_dis (fun k o o' x y => ?_) (p.mono r5 (.refl _)), q⟩
  · obtain ⟨rfl, rfl⟩ := PH.one_some hk
    exact get_hset_same hb.lt
  · obtain ⟨rfl, -⟩ := PH.one_some x
    exact (e.mono r4 (.refl _)) k _ _ r1' y
  · obtain ⟨rfl, -⟩ := PH.one_some x
    exact (p.mono r4 (.refl _)) k _ _ r1' y
/-- What is owned is given for ever. -/
theorem Holds.freeze {σ f : PH} {Γ Γ' : List HP} {R : HP} {h : Heap} (x : Holds σ Γ f h) (s : Sel Γ R Γ') : ∃ σ' m, R m ∧ m.sub σ' ∧ σ.sub σ' ∧ Holds σ' Γ' f h := by
  obtain ⟨m, a, b, c, d, e, p, q⟩ := x
  obtain ⟨m1, m2, r1, r2, r3, r4, r5⟩ := s.to a
  have hd : σ.dis m1 := (e.mono r4 (.refl _)).symm
  exact ⟨σ.or m1, m1, r1, PH.or_r hd, PH.or_l _ _, m2, r2, r5.le b, PH.or_le c (r4.le b), d, (PH.or_dis (e.mono r5 (.refl _)).symm r3).symm, p.mono r5 (.refl _), PH.or_dis q (p.mono r4 (.refl _))⟩

/-! what stays for ever -/
structure PRow (σ : PH) (g o : Nat) (vs : List Value) : Prop where
  ex : ∃ l T fr, σ g = some (.cells l T fr) ∧ (l.toList.drop o).take vs.length = vs
theorem PRow.mono {σ σ' : PH} {g o : Nat} {vs : List Value} (x : PRow σ g o vs) (s : σ.sub σ') : PRow σ' g o vs := by
  obtain ⟨l, T, fr, a, b⟩ := x; exact ⟨l, T, fr, s _ _ a, b⟩
theorem PRow.row {σ : PH} {h : Heap} (hs : σ.le h) {g o : Nat} {vs : List Value} (x : PRow σ g o vs) : Row h g o vs := by
  obtain ⟨l, T, fr, a, b⟩ := x; exact ⟨l, T, fr, hs _ _ a, b⟩
theorem PRow.ofBlk {m : PH} {g o : Nat} {l vs : List Value} {T : TypeId} (x : blk g l T m) (hv : (l.drop o).take vs.length = vs) : PRow m g o vs := ⟨_, T, _, x, by simpa using hv⟩
theorem PRow.sub {σ : PH} {g o : Nat} {vs us : List Value} (hr : PRow σ g o vs) {j : Nat} (hu : (vs.drop j).take us.length = us) : PRow σ g (o + j) us := by
  obtain ⟨l, T, fr, h1, h2⟩ := hr
  refine ⟨l, T, fr, h1, ?_⟩
  have : us.length ≤ vs.length - j := by
    have := congrArg List.length hu
    simp at this; omega
  rw [← h2] at hu
  rw [List.drop_take, List.take_take, List.drop_drop] at hu
  rwa [Nat.min_eq_left this] at hu
/-- Cells that are known. -/
structure At (S : Heap → Prop) (g o : Nat) (vs : List Value) : Prop where
  out : ∀ h, S h → Row h g o vs
theorem At.per {σ : PH} {Γ : List HP} {g o : Nat} {vs : List Value} (x : PRow σ g o vs) : At (Ho σ Γ) g o vs := ⟨fun _ hh => by obtain ⟨f, hh⟩ := hh; exact x.row hh.per⟩
theorem At.blk {σ : PH} {Γ Γ' : List HP} {g o : Nat} {l vs : List Value} {T : TypeId} (s : Sel Γ (X.blk g l T) Γ') (hv : (l.drop o).take vs.length = vs) : At (Ho σ Γ) g o vs := ⟨fun _ hh => (hh.blk s).row hv⟩
/-- One cell that is known. -/
structure AtC (S : Heap → Prop) (g o : Nat) (v : Value) : Prop where
  out : ∀ h, S h → Cel h g o v
theorem AtC.per {σ : PH} {Γ : List HP} {g o : Nat} {v : Value} (x : PRow σ g o [v]) : AtC (Ho σ Γ) g o v := ⟨fun _ hh => by
  obtain ⟨f, hh⟩ := hh; have := (x.row hh.per).cel (j := 0) (v := v) rfl; simpa using this⟩
theorem AtC.blk {σ : PH} {Γ Γ' : List HP} {g o : Nat} {l : List Value} {v : Value} {T : TypeId} (s : Sel Γ (X.blk g l T) Γ') (hv : l[o]? = some v) : AtC (Ho σ Γ) g o v := ⟨fun _ hh => (hh.blk s).cel hv⟩
theorem Ld.atC {P : Program} {S : Heap → Prop} {T : TypeId} {r : Ty} (hT : tyOf P T = some r) (hk : r.k.agg = false) {g o : Nat} {v : Value} (hc : AtC S g o v) : ∀ h, S h → Ld P h T g o v := fun h hh => Ld.one hT hk (hc.out h hh)
theorem Ld.at {P : Program} {S : Heap → Prop} {T : TypeId} {r : Ty} (hT : tyOf P T = some r) (hk : r.k.agg = true) {g o : Nat} {vs : List Value} (hc : At S g o vs) (hn : vs.length = r.size) : ∀ h, S h → Ld P h T g o (.agg vs.toArray) := fun h hh => Ld.row hT hk (hc.out h hh) hn
end X
end Go.Proofs.YthefnnkmpcgcmaaGreatDoor

namespace Go.Proofs.YthefnnkmpcgcmaaGreatDoor
open Go
namespace X
abbrev KA := Exit → Env → PH → List HP → Prop
/-- K holds at an end. -/
def KF (f : PH) (K : KA) : Kont := fun e ρ h => ∃ σ Γ, K e ρ σ Γ ∧ Holds σ Γ f h
structure XA (P : Program) (N : Nat) (c : Code) (ρ : Env) (σ : PH) (Γ : List HP) (K : KA) : Prop where
  out : ∀ f h, Holds σ Γ f h → X P N c ρ h (KF f K)
structure XOA (P : Program) (N : Nat) (all : Array Oper) (l : List Oper) (ρ : Env) (σ : PH) (Γ : List HP) (K : KA) : Prop where
  out : ∀ f h, Holds σ Γ f h → XO P N all l ρ h (KF f K)
/-- An end, up to what is given. -/
structure DA (K : KA) (e : Exit) (ρ : Env) (σ : PH) (Γ : List HP) : Prop where
  out : ∀ f h, Holds σ Γ f h → KF f K e ρ h
/-- Does a judgement hold of whatever is given? -/
class Goes (J : PH → List HP → Prop) : Prop where
  ent : ∀ {σ Γ Δ}, Ent Γ Δ → J σ Δ → J σ Γ
  frz : ∀ {σ Γ Γ' R}, Sel Γ R Γ' → (∀ σ' m, R m → m.sub σ' → σ.sub σ' → J σ' Γ') → J σ Γ
  opn : ∀ {σ Γ Γ' R}, Sel Γ R Γ' → ∀ {α : Type} {Θ : α → List HP}, (∀ m, R m → ∃ x, Sat (Θ x) m) → (∀ x, J σ (Θ x ++ Γ')) → J σ Γ
def thnA (next : Env → PH → List HP → Prop) (K : KA) : KA
  | .normal, ρ, σ, Γ => next ρ σ Γ
  | e, ρ, σ, Γ => K e ρ σ Γ
def inbA (id : Nat) (K : KA) : KA
  | .exit id', ρ, σ, Γ => if id' = id then K .normal ρ σ Γ else K (.exit id') ρ σ Γ
  | e, ρ, σ, Γ => K e ρ σ Γ
theorem holds_open {σ f : PH} {Γ Γ' : List HP} {R : HP} {h : Heap} (x : Holds σ Γ f h) (s : Sel Γ R Γ') {α : Type} {Θ : α → List HP} (ho : ∀ m, R m → ∃ x, Sat (Θ x) m) : ∃ x, Holds σ (Θ x ++ Γ') f h := by
  obtain ⟨m, a, b⟩ := x
  obtain ⟨m1, m2, r1, r2, r3, r4, r5⟩ := s.to a
  obtain ⟨x, hx⟩ := ho _ r1
  exact ⟨x, m, Sat.join hx r2 r3 r4 r5, b⟩
variable {P : Program} {N : Nat} {ρ : Env} {σ : PH} {Γ : List HP} {K : KA}
instance {c : Code} : Goes (fun σ Γ => XA P N c ρ σ Γ K) where
  ent he hx := ⟨fun f h hh => hx.out f h (hh.ent he)⟩
  frz s k := ⟨fun f h hh => by obtain ⟨σ', m, a, b, c, d⟩ := hh.freeze s; exact (k σ' m a b c).out f h d⟩
  opn s _ _ ho k := ⟨fun f h hh => by obtain ⟨x, hx⟩ := holds_open hh s ho; exact (k x).out f h hx⟩
instance {all : Array Oper} {l : List Oper} : Goes (fun σ Γ => XOA P N all l ρ σ Γ K) where
  ent he hx := ⟨fun f h hh => hx.out f h (hh.ent he)⟩
  frz s k := ⟨fun f h hh => by obtain ⟨σ', m, a, b, c, d⟩ := hh.freeze s; exact (k σ' m a b c).out f h d⟩
  opn s _ _ ho k := ⟨fun f h hh => by obtain ⟨x, hx⟩ := holds_open hh s ho; exact (k x).out f h hx⟩
instance {e : Exit} : Goes (fun σ Γ => DA K e ρ σ Γ) where
  ent he hx := ⟨fun f h hh => hx.out f h (hh.ent he)⟩
  frz s k := ⟨fun f h hh => by obtain ⟨σ', m, a, b, c, d⟩ := hh.freeze s; exact (k σ' m a b c).out f h d⟩
  opn s _ _ ho k := ⟨fun f h hh => by obtain ⟨x, hx⟩ := holds_open hh s ho; exact (k x).out f h hx⟩
theorem ent {J : PH → List HP → Prop} [Goes J] {Δ : List HP} (he : Ent Γ Δ) (hx : J σ Δ) : J σ Γ := Goes.ent he hx

theorem DA.here {e : Exit} (hk : K e ρ σ Γ) : DA K e ρ σ Γ := ⟨fun _ _ hh => ⟨σ, Γ, hk, hh⟩⟩
theorem DA.ent {e : Exit} {Δ : List HP} (he : Ent Γ Δ) (hx : DA K e ρ σ Δ) : DA K e ρ σ Γ := ⟨fun f h hh => hx.out f h (hh.ent he)⟩

/-! code -/
theorem XA.seq {x y : Code} (hx : XA P N x ρ σ Γ (thnA (fun ρ σ Γ => XA P N y ρ σ Γ K) K)) : XA P N (.seq x y) ρ σ Γ K := by
  refine ⟨fun f h hh => X.seq (X.mono (hx.out f h hh) ?_)⟩
  rintro e ρ' h' ⟨σ', Γ', hk, hh'⟩
  cases e with
  | normal => exact hk.out f h' hh'
  | _ => exact ⟨σ', Γ', hk, hh'⟩
theorem XA.block {id : Nat} {c : Code} (hx : XA P N c ρ σ Γ (inbA id K)) : XA P N (.block id c) ρ σ Γ K := by
  refine ⟨fun f h hh => X.block (X.mono (hx.out f h hh) ?_)⟩
  rintro e ρ' h' ⟨σ', Γ', hk, hh'⟩
  cases e with
  | exit id' =>
    simp only [inbA] at hk
    simp only [inb]
    split <;> rename_i hid
    · rw [if_pos hid] at hk; exact ⟨σ', Γ', hk, hh'⟩
    · rw [if_neg hid] at hk; exact ⟨σ', Γ', hk, hh'⟩
  | _ => exact ⟨σ', Γ', hk, hh'⟩
theorem XA.skip (hk : DA K .normal ρ σ Γ) : XA P N .skip ρ σ Γ K := ⟨fun f h hh => X.skip (hk.out f h hh)⟩
theorem XA.ret (hk : DA K .ret ρ σ Γ) : XA P N .ret ρ σ Γ K := ⟨fun f h hh => X.ret (hk.out f h hh)⟩
theorem XA.exit {id : Nat} (hk : DA K (.exit id) ρ σ Γ) : XA P N (.exit id) ρ σ Γ K := ⟨fun f h hh => X.exit (hk.out f h hh)⟩
theorem XA.cond {c : Operand} {x y : Code} {b : Bool} (hc : ev ρ c = .bool b) (ht : b = true → XA P N x ρ σ Γ K) (hf : b = false → XA P N y ρ σ Γ K) : XA P N (.cond c x y) ρ σ Γ K :=
  ⟨fun f h hh => X.cond hc (fun e => (ht e).out f h hh) (fun e => (hf e).out f h hh)⟩
theorem XA.condp {c : Operand} {x y : Code} {p : Prop} {inst : Decidable p} (hc : ev ρ c = .bool (@decide p inst)) (ht : p → XA P N x ρ σ Γ K) (hf : ¬ p → XA P N y ρ σ Γ K) : XA P N (.cond c x y) ρ σ Γ K :=
  XA.cond hc (fun e => ht (by simpa using e)) (fun e => hf (by simpa using e))
theorem XA.condT {c : Operand} {x y : Code} {b : Bool} (hc : ev ρ c = .bool b) (hb : b = true) (ht : XA P N x ρ σ Γ K) : XA P N (.cond c x y) ρ σ Γ K :=
  XA.cond hc (fun _ => ht) (fun e => by rw [hb] at e; cases e)
theorem XA.condF {c : Operand} {x y : Code} {b : Bool} (hc : ev ρ c = .bool b) (hb : b = false) (hf : XA P N y ρ σ Γ K) : XA P N (.cond c x y) ρ σ Γ K :=
  XA.cond hc (fun e => by rw [hb] at e; cases e) (fun _ => hf)
theorem XA.region {id : Nat} {l : List Oper} (hx : XOA P N l.toArray l ρ σ Γ K) : XA P N (.region id l.toArray false) ρ σ Γ K := ⟨fun f h hh => X.region (hx.out f h hh)⟩
theorem DA.thn_normal {next : Env → PH → List HP → Prop} (hk : next ρ σ Γ) : DA (thnA next K) .normal ρ σ Γ := .here hk
theorem DA.map {K' : KA} {e e' : Exit} (hk : DA K e ρ σ Γ) (hm : ∀ ρ σ Γ, K e ρ σ Γ → K' e' ρ σ Γ) : DA K' e' ρ σ Γ := ⟨fun f h hh => by
  obtain ⟨σ', Γ', a, b⟩ := hk.out f h hh; exact ⟨σ', Γ', hm _ _ _ a, b⟩⟩
theorem DA.thn_exit {next : Env → PH → List HP → Prop} {id : Nat} (hk : DA K (.exit id) ρ σ Γ) : DA (thnA next K) (.exit id) ρ σ Γ := hk.map fun _ _ _ h => h
theorem DA.thn_ret {next : Env → PH → List HP → Prop} (hk : DA K .ret ρ σ Γ) : DA (thnA next K) .ret ρ σ Γ := hk.map fun _ _ _ h => h
theorem DA.thn_panic {next : Env → PH → List HP → Prop} {c : List PanicEntry} (hk : DA K (.panic c) ρ σ Γ) : DA (thnA next K) (.panic c) ρ σ Γ := hk.map fun _ _ _ h => h
theorem DA.inb_normal {id : Nat} (hk : DA K .normal ρ σ Γ) : DA (inbA id K) .normal ρ σ Γ := hk.map fun _ _ _ h => h
theorem DA.inb_ret {id : Nat} (hk : DA K .ret ρ σ Γ) : DA (inbA id K) .ret ρ σ Γ := hk.map fun _ _ _ h => h
theorem DA.inb_panic {id : Nat} {c : List PanicEntry} (hk : DA K (.panic c) ρ σ Γ) : DA (inbA id K) (.panic c) ρ σ Γ := hk.map fun _ _ _ h => h
theorem DA.inb_same {id : Nat} (hk : DA K .normal ρ σ Γ) : DA (inbA id K) (.exit id) ρ σ Γ := hk.map fun _ _ _ h => by simp only [inbA, if_true]; exact h
/-! operations -/
/-- An operation that does something to what is owned, or calls a function. -/
structure WrA (P : Program) (ρ : Env) (σ : PH) (Γ : List HP) (op : Op) (ty : TypeId) (R : Value → PH → List HP → Prop) (pk : List PanicEntry → PH → List HP → Prop) : Prop where
  out : ∀ f h, Holds σ Γ f h → Wr P ρ h op ty (fun v h' => ∃ σ' Γ', R v σ' Γ' ∧ Holds σ' Γ' f h') (fun c h' => ∃ σ' Γ', pk c σ' Γ' ∧ Holds σ' Γ' f h')
abbrev noPA : List PanicEntry → PH → List HP → Prop := fun _ _ _ => False
section
variable {all : Array Oper} {rest : List Oper}
theorem XOA.nil (hk : DA K .normal ρ σ Γ) : XOA P N all [] ρ σ Γ K := ⟨fun f h hh => XO.nil (hk.out f h hh)⟩
theorem XOA.rd {op : Op} {d : Nat} {ty : TypeId} {pos : String} {af : Array Edge} {v : Value} (hd : Nat.blt d N = true)
    (hr : Rd P ρ (Ho σ Γ) op ty v) (k : XOA P N all rest (upd ρ d v) σ Γ K) : XOA P N all (⟨some d, op, ty, pos, af, none⟩ :: rest) ρ σ Γ K :=
  ⟨fun f h hh => XO.rd hd ⟨fun d pos af g w hw => hr.out d pos af g w (hw ▸ hh.ho)⟩ (k.out f h hh)⟩
theorem XOA.wr {op : Op} {d : Option Nat} {ty : TypeId} {pos : String} {af : Array Edge} {R : Value → PH → List HP → Prop} {pk : List PanicEntry → PH → List HP → Prop} (hd : dstOk N d = true)
    (hr : WrA P ρ σ Γ op ty R pk) (k : ∀ v σ' Γ', R v σ' Γ' → XOA P N all rest (updO ρ d v) σ' Γ' K) (kp : ∀ c σ' Γ', pk c σ' Γ' → DA K (.panic c) ρ σ' Γ') :
    XOA P N all (⟨d, op, ty, pos, af, none⟩ :: rest) ρ σ Γ K :=
  ⟨fun f h hh => XO.wr hd (hr.out f h hh) (fun v h' ⟨σ', Γ', a, b⟩ => (k v σ' Γ' a).out f h' b) (fun c h' ⟨σ', Γ', a, b⟩ => (kp c σ' Γ' a).out f h' b)⟩
theorem XOA.wr0 {op : Op} {d : Option Nat} {ty : TypeId} {pos : String} {af : Array Edge} {R : Value → PH → List HP → Prop} (hd : dstOk N d = true)
    (hr : WrA P ρ σ Γ op ty R noPA) (k : ∀ v σ' Γ', R v σ' Γ' → XOA P N all rest (updO ρ d v) σ' Γ' K) : XOA P N all (⟨d, op, ty, pos, af, none⟩ :: rest) ρ σ Γ K := XOA.wr hd hr k (fun _ _ _ hp => hp.elim)
theorem XOA.wanted {d : Option Nat} {op : Op} {ty : TypeId} {pos : String} {af : Array Edge} {j : Nat} {b : Bool} {t : Nat} (hj : (all[j]?).bind (·.dst) = some t) (hb : ρ t = .bool b)
    (k : XOA P N all (⟨d, op, ty, pos, af, none⟩ :: rest) ρ σ Γ K) : XOA P N all (⟨d, op, ty, pos, af, some (j, b)⟩ :: rest) ρ σ Γ K := ⟨fun f h hh => XO.wanted hj hb (k.out f h hh)⟩
theorem XOA.unwanted {d : Nat} {op : Op} {ty : TypeId} {pos : String} {af : Array Edge} {j : Nat} {b c : Bool} {t : Nat} (hd : Nat.blt d N = true) (hj : (all[j]?).bind (·.dst) = some t) (hb : ρ t = .bool c) (hne : (c == b) = false)
    (k : XOA P N all rest (upd ρ d undef) σ Γ K) : XOA P N all (⟨some d, op, ty, pos, af, some (j, b)⟩ :: rest) ρ σ Γ K := ⟨fun f h hh => XO.unwanted hd hj hb hne (k.out f h hh)⟩
theorem XOA.unwantedU {d : Nat} {op : Op} {ty : TypeId} {pos : String} {af : Array Edge} {j : Nat} {b : Bool} {t : Nat} (hd : Nat.blt d N = true) (hj : (all[j]?).bind (·.dst) = some t) (hb : ρ t = undef)
    (k : XOA P N all rest (upd ρ d undef) σ Γ K) : XOA P N all (⟨some d, op, ty, pos, af, some (j, b)⟩ :: rest) ρ σ Γ K := ⟨fun f h hh => XO.unwantedU hd hj hb (k.out f h hh)⟩
theorem XOA.wantedP {p : Prop} {inst : Decidable p} {d : Option Nat} {op : Op} {ty : TypeId} {pos : String} {af : Array Edge} {j : Nat} {b : Bool} {t : Nat} (hj : (all[j]?).bind (·.dst) = some t) (hb : ρ t = .bool (@decide p inst)) (hp : @decide p inst = b)
    (k : XOA P N all (⟨d, op, ty, pos, af, none⟩ :: rest) ρ σ Γ K) : XOA P N all (⟨d, op, ty, pos, af, some (j, b)⟩ :: rest) ρ σ Γ K := XOA.wanted hj (hp ▸ hb) k
end
theorem Wr.toA {op : Op} {ty : TypeId} {R : Value → PH → List HP → Prop} {Q : Heap → Value → Heap → Prop} (hr : ∀ h, Ho σ Γ h → Wr P ρ h op ty (Q h) noP) (hq : ∀ f h v h', Holds σ Γ f h → Q h v h' → ∃ σ' Γ', R v σ' Γ' ∧ Holds σ' Γ' f h') : WrA P ρ σ Γ op ty R noPA :=
  ⟨fun f h hh => ⟨fun d pos af g a w next Q' he hw hn hp => (hr h hh.ho).out d pos af g a w next Q' he hw (fun v w' s q => hn v w' s (hq f h v _ hh q)) (fun _ _ _ q => q.elim)⟩⟩
section
variable {ty : TypeId}
theorem WrA.alloc {T : TypeId} {r : Ty} (hT : tyOf P T = some r) : WrA P ρ σ Γ (.alloc T) ty (fun v σ' Γ' => ∃ g, v = .pointer (some ⟨g, 0, none⟩) ∧ σ = σ' ∧ Γ' = blk g r.zero T :: Γ) noPA :=
  Wr.toA (Q := fun h v h' => v = .pointer (some ⟨h.size, 0, none⟩) ∧ h' = h.push (cellsOf r.zero T)) (fun _ _ => Wr.alloc hT rfl) fun f h v h' hh ⟨e1, e2⟩ => ⟨σ, _, ⟨h.size, e1, rfl, rfl⟩, e2 ▸ hh.alloc _ _⟩
theorem WrA.box {T : TypeId} {x : Operand} {v : Value} {l : List Value} (hx : ev ρ x = v) (hl : v.cells = l.toArray) : WrA P ρ σ Γ (.box T x) ty (fun v' σ' Γ' => ∃ g, v' = .pointer (some ⟨g, 0, none⟩) ∧ σ = σ' ∧ Γ' = blk g l T :: Γ) noPA :=
  Wr.toA (Q := fun h v h' => v = .pointer (some ⟨h.size, 0, none⟩) ∧ h' = h.push (cellsOf l T)) (fun _ _ => Wr.box hx rfl hl) fun f h v h' hh ⟨e1, e2⟩ => ⟨σ, _, ⟨h.size, e1, rfl, rfl⟩, e2 ▸ hh.alloc _ _⟩
theorem WrA.store {T : TypeId} {x y : Operand} {g o : Nat} {v : Value} {vs : List Value} {r : Ty} {l l' : List Value} {T' : TypeId} {Γ' : List HP} (hT : tyOf P T = some r) (hx : ev ρ x = .pointer (some ⟨g, o, none⟩)) (s : Sel Γ (blk g l T') Γ') (hy : ev ρ y = v) (hv : v.cells = vs.toArray)
    (hn : vs.length = r.size) (hfit : o + r.size ≤ l.length) (h1 : ones vs) (hh : splice l o vs = l') : WrA P ρ σ Γ (.store T x y) ty (fun v' σ' Δ => v' = undef ∧ σ = σ' ∧ Δ = blk g l' T' :: Γ') noPA :=
  Wr.toA (Q := fun h v h' => v = undef ∧ h' = hset h g l' T') (fun h hh' => Wr.store hT hx hy hv (hh'.blk s) hn hfit h1 hh) fun f h v h' hh' ⟨e1, e2⟩ => ⟨σ, _, ⟨e1, rfl, rfl⟩, e2 ▸ hh'.set s l'⟩
theorem WrA.slice1 {T e : TypeId} {x : Operand} {v : Value} {r re : Ty} {l : List Value} (hT : tyOf P T = some r) (hk : r.k = .slice e) (hE : tyOf P e = some re) (hx : ev ρ x = v) (hl : v.cells = l.toArray) (hln : l.length = re.size) (hz : re.zero.length = re.size) (hs : re.size ≤ 1000) (hs0 : Nat.beq re.size 0 = false) :
    WrA P ρ σ Γ (.buildSlice T 1 #[(0, x)]) ty (fun v' σ' Γ' => ∃ g, v' = .slice (some ⟨g, 0, none⟩) 1 1 ∧ σ = σ' ∧ Γ' = blk g l e :: Γ) noPA :=
  Wr.toA (Q := fun h v h' => v = .slice (some ⟨h.size, 0, none⟩) 1 1 ∧ h' = h.push (cellsOf l e)) (fun _ _ => Wr.slice1 hT hk hE hx rfl hl hln hz hs hs0) fun f h v h' hh ⟨e1, e2⟩ => ⟨σ, _, ⟨h.size, e1, rfl, rfl⟩, e2 ▸ hh.alloc _ _⟩
theorem WrA.buildSlice {T e len : Nat} {tb : Nat → Option Ty} {parts : List (Nat × Operand)} {ps : List (Nat × Value)} {r re : Ty} {cs : List Value} (htb : ∀ T r, tb T = some r → tyOf P T = some r) (hT : tb T = some r) (hk : r.k = .slice e) (hE : tb e = some re) (hz : re.zero.length = re.size)
    (hsm : Nat.ble (len * re.size) 16777216 = true) (hp : (parts.map fun p => (p.1, ev ρ p.2)) = ps) (hb : bld (fun i => some (i * re.size, re.size)) ps ((List.range (len * re.size)).map fun k => re.zero.getD (k % re.size) undef) = some cs) :
    WrA P ρ σ Γ (.buildSlice T len parts.toArray) ty (fun v' σ' Γ' => ∃ g, v' = .slice (some ⟨g, 0, none⟩) len len ∧ σ = σ' ∧ Γ' = blk g cs e :: Γ) noPA :=
  Wr.toA (Q := fun h v h' => v = .slice (some ⟨h.size, 0, none⟩) len len ∧ h' = h.push (cellsOf cs e)) (fun _ _ => Wr.buildSlice htb hT hk hE rfl hz hsm hp hb) fun f h v h' hh ⟨e1, e2⟩ => ⟨σ, _, ⟨h.size, e1, rfl, rfl⟩, e2 ▸ hh.alloc _ _⟩

/-! lists of one's own -/
/-- The block of a list. -/
def lstA (g cap : Nat) (e size n : Nat) (xs : List Value) : HP := fun m => ∃ cur, blk g cur e m ∧ n ≤ cap ∧ cap ≤ maxLen ∧ cap * size ≤ cur.length ∧ cur.take (n * size) = xs
/-- v is a list of n elements, of size cells each, of one's own. -/
def lst (e size : Nat) (v : Value) (n : Nat) (xs : List Value) : HP := fun m => xs.length = n * size ∧ ((v = .slice none 0 0 ∧ n = 0) ∨ ∃ g cap, v = .slice (some ⟨g, 0, none⟩) n cap ∧ lstA g cap e size n xs m)
theorem lst_nil (e size : Nat) (m : PH) : lst e size (.slice none 0 0) 0 [] m := ⟨by simp, .inl ⟨rfl, rfl⟩⟩
theorem Holds.own {f : PH} {Γ' : List HP} {h : Heap} {e size n : Nat} {v : Value} {xs : List Value} (x : Holds σ Γ f h) (s : Sel Γ (lst e size v n xs) Γ') : Own h e size v n xs (fun g => v.ownBlock = some g) := by
  obtain ⟨m, a, b, c⟩ := x
  obtain ⟨m1, m2, ⟨p1, p2⟩, q, r, t, u⟩ := s.to a
  refine ⟨p1, p2.imp id ?_⟩
  rintro ⟨g, cap, rfl, cur, w1, w2⟩
  exact ⟨g, cap, cur, rfl, rfl, ⟨b g _ (t g _ w1)⟩, w2⟩
theorem Holds.app {f : PH} {Γ' : List HP} {h h' : Heap} {e size n n' : Nat} {v v' : Value} {xs xs' : List Value} (x : Holds σ Γ f h) (s : Sel Γ (lst e size v n xs) Γ') (ho : Own h' e size v' n' xs' (fun g => v.ownBlock = some g ∨ h.size ≤ g)) (hb : But h h' v.ownBlock) : Holds σ (lst e size v' n' xs' :: Γ') f h' := by
  obtain ⟨m, a, b, c, d, i, p, q⟩ := x
  obtain ⟨m1, m2, ⟨r0, r1⟩, r2, r3, r4, r5⟩ := s.to a
  have own : ∀ g, v.ownBlock = some g → ∃ o, m1 g = some o := by
    intro g hg
    rcases r1 with ⟨rfl, -⟩ | ⟨g', cap, rfl, cur, w1, w2⟩
    · cases hg
    · simp only [Value.ownBlock, Option.some.injEq] at hg; subst hg; exact ⟨_, w1⟩
  have keep : ∀ {n : PH}, n.le h → m1.dis n → n.le h' := fun {n} hn hd k o hk => by
    rw [hb.get k (hn.lt hk) (fun e => ?_)]
    · exact hn k o hk
    · obtain ⟨o', ho'⟩ := own k e.symm
      exact hd k _ _ ho' hk
  obtain ⟨q1, q2⟩ := ho
  rcases q2 with ⟨rfl, rfl⟩ | ⟨g, cap, cur, rfl, hF, hg, z1, z2, z3, z4⟩
  · exact ⟨m2, ⟨PH.none, m2, ⟨q1, .inl ⟨rfl, rfl⟩⟩, r2, (PH.none_dis m2).symm, PH.none_sub _, .refl _⟩, keep (r5.le b) r3, keep c (i.mono r4 (.refl _)), keep d (p.mono r4 (.refl _)), i.mono r5 (.refl _), p.mono r5 (.refl _), q⟩
  · have dis : ∀ {n : PH}, n.le h → m1.dis n → (PH.one g (cellsOf cur e)).dis n := fun {n} hn hd k o o' x y => by
      obtain ⟨rfl, -⟩ := PH.one_some x
      rcases hF with hF | hF
      · obtain ⟨o', ho'⟩ := own k hF
        exact hd k _ _ ho' y
      · exact absurd (hn.lt y) (by omega)
    have d2 := dis (r5.le b) r3
    refine ⟨(PH.one g (cellsOf cur e)).or m2, ⟨PH.one g (cellsOf cur e), m2, ⟨q1, .inr ⟨g, cap, rfl, cur, by simp [X.blk, PH.one], z1, z2, z3, z4⟩⟩, r2, d2, PH.or_l _ _, PH.or_r d2⟩, PH.or_le (fun k o hk => ?_) (keep (r5.le b) r3), keep c (i.mono r4 (.refl _)), keep d (p.mono r4 (.refl _)), PH.or_dis (dis c (i.mono r4 (.refl _))) (i.mono r5 (.refl _)), PH.or_dis (dis d (p.mono r4 (.refl _))) (p.mono r5 (.refl _)), q⟩
    obtain ⟨rfl, rfl⟩ := PH.one_some hk
    exact hg.get
/-- One element, of a literal that is used up. -/
theorem WrA.append1 {T e : TypeId} {x y : Operand} {ty : TypeId} {r re : Ty} {v : Value} {n c g : Nat} {xs news : List Value} {Γ1 Γ' : List HP} {T' : TypeId} (hT : tyOf P T = some r) (hk : r.k = .slice e) (hE : tyOf P e = some re) (hz : re.zero.length = re.size)
    (hs : ev ρ x = v) (hy : ev ρ y = .slice (some ⟨g, 0, none⟩) 1 c) (hg : Sel Γ (blk g news T') Γ1) (s : Sel Γ1 (lst e re.size v n xs) Γ') (hl : news.length = re.size) (h1 : ones news) (h63 : n + 1 ≤ maxLen) (hb : (n + 1) * re.bytes ≤ 140737488355328) :
    WrA P ρ σ Γ (.call { callee := .builtin .append, args := #[x, y], argTypes := #[T, T] }) ty (fun v' σ' Δ => ∃ p c, v' = .slice p (n + 1) c ∧ σ = σ' ∧ Δ = lst e re.size (.slice p (n + 1) c) (n + 1) (xs ++ news) :: Γ') noPA :=
  ⟨fun f h hh => ⟨fun d pos af gd a w next Q' he hw hn hp => by
    have h2 : Holds σ Γ1 f h := hh.ent (fun m hm => by obtain ⟨m1, m2, p, q, r, s, t⟩ := hg.to hm; exact q.mono t)
    exact (Wr.append hT hk hE hz (h2.own s) hs (hh.ho.blk hg).rowAll hy (by omega) h1 (by omega) h63 hb).out d pos af gd a w next Q' he hw (fun v' w' sm q => by obtain ⟨p, c, rfl⟩ := q.1.shape; exact hn _ w' sm ⟨σ, _, ⟨p, c, rfl, rfl, rfl⟩, h2.app s q.1 q.2.1⟩) (fun _ _ _ q => q.elim)⟩⟩
end

/-! calls -/
def CallsA (P : Program) (f : FuncId) (vs : Array Value) (σ : PH) (Γ : List HP) (R : Ending → PH → List HP → Prop) : Prop :=
  Enters P f ∧ ∀ fr h, Holds σ Γ fr h → CallsX P f vs h (fun e h' => ∃ σ' Γ', R e σ' Γ' ∧ Holds σ' Γ' fr h')
def RetA (R : Value → PH → List HP → Prop) : Ending → PH → List HP → Prop
  | .returned v, σ, Γ => R v σ Γ
  | _, _, _ => False
theorem CallsA.mono {f : FuncId} {vs : Array Value} {R R' : Ending → PH → List HP → Prop} (hc : CallsA P f vs σ Γ R) (hr : ∀ e σ' Γ', R e σ' Γ' → R' e σ' Γ') : CallsA P f vs σ Γ R' :=
  ⟨hc.1, fun fr h hh => (hc.2 fr h hh).mono fun e h' ⟨σ', Γ', a, b⟩ => ⟨σ', Γ', hr _ _ _ a, b⟩⟩
/-- What is not wanted by a call stays. -/
theorem CallsA.frame {f : FuncId} {vs : Array Value} {R : Ending → PH → List HP → Prop} {Γ0 : List HP} (Δ : List HP) (hc : CallsA P f vs σ Γ0 R) (he : Ent Γ (Γ0 ++ Δ)) : CallsA P f vs σ Γ (fun e σ' Γ' => ∃ Γ1, R e σ' Γ1 ∧ Γ' = Γ1 ++ Δ) :=
  ⟨hc.1, fun fr h hh => by
    obtain ⟨f', a, b⟩ := (hh.ent he).aside
    exact (hc.2 f' h a).mono fun e h' ⟨σ', Γ', x, y⟩ => ⟨σ', _, ⟨Γ', x, rfl⟩, b _ _ _ y⟩⟩
theorem WrA.callG {f : FuncId} {fo : Operand} {first cap : List Value} {args : List Operand} {ats : Array TypeId} {vs : List Value} {ty : TypeId} {R : Ending → PH → List HP → Prop} {Γ0 Δ : List HP} (hf : ev ρ fo = .func (.func f) first.toArray cap.toArray)
    (hc : CallsA P f vs.toArray σ Γ0 R) (hv : first ++ args.map (ev ρ) ++ cap = vs) (he : Ent Γ (Γ0 ++ Δ)) (ko : ∀ σ' Γ', ¬ R .outgrown σ' Γ') :
    WrA P ρ σ Γ (.call { callee := .value fo, args := args.toArray, argTypes := ats }) ty (fun v σ' Γ' => ∃ Γ1, R (.returned v) σ' Γ1 ∧ Γ' = Γ1 ++ Δ) (fun c σ' Γ' => ∃ Γ1, R (.panicked c) σ' Γ1 ∧ Γ' = Γ1 ++ Δ) :=
  ⟨fun fr h hh => Wr.callG hf ((CallsA.frame Δ hc he).2 fr h hh) hv (fun h' => by rintro ⟨σ', Γ', ⟨Γ1, x, -⟩, -⟩; exact ko _ _ x)⟩
theorem WrA.noP {op : Op} {ty : TypeId} {R : Value → PH → List HP → Prop} {pk : List PanicEntry → PH → List HP → Prop} (hw : WrA P ρ σ Γ op ty R pk) (hn : ∀ c σ' Γ', ¬ pk c σ' Γ') : WrA P ρ σ Γ op ty R noPA :=
  ⟨fun f h hh => ⟨fun d pos af g a w next Q' he hw' hn' hp => (hw.out f h hh).out d pos af g a w next Q' he hw' hn' (fun c w' _ q => by obtain ⟨σ', Γ', x, y⟩ := q; exact (hn _ _ _ x).elim)⟩⟩
theorem WrA.callV {f : FuncId} {fo : Operand} {first cap : List Value} {args : List Operand} {ats : Array TypeId} {vs : List Value} {ty : TypeId} {R : Value → PH → List HP → Prop} {Γ0 Δ : List HP} (hf : ev ρ fo = .func (.func f) first.toArray cap.toArray)
    (hc : CallsA P f vs.toArray σ Γ0 (RetA R)) (hv : first ++ args.map (ev ρ) ++ cap = vs) (he : Ent Γ (Γ0 ++ Δ)) :
    WrA P ρ σ Γ (.call { callee := .value fo, args := args.toArray, argTypes := ats }) ty (fun v σ' Γ' => ∃ Γ1, R v σ' Γ1 ∧ Γ' = Γ1 ++ Δ) noPA :=
  (WrA.callG hf hc hv he (fun _ _ hp => hp)).noP (fun _ _ _ ⟨_, hp, _⟩ => hp)
theorem WrA.call {f : FuncId} {args : List Operand} {ats : Array TypeId} {vs : List Value} {ty : TypeId} {R : Value → PH → List HP → Prop} {Γ0 Δ : List HP}
    (hc : CallsA P f vs.toArray σ Γ0 (RetA R)) (hv : args.map (ev ρ) = vs) (he : Ent Γ (Γ0 ++ Δ)) :
    WrA P ρ σ Γ (.call { callee := .value (.func f), args := args.toArray, argTypes := ats }) ty (fun v σ' Γ' => ∃ Γ1, R v σ' Γ1 ∧ Γ' = Γ1 ++ Δ) noPA :=
  WrA.callV (first := []) (cap := []) rfl hc (by simpa using hv) he

/-! a function's body -/
def ResA (P : Program) (fn : Func) (ρ : Env) (σ : PH) (Γ : List HP) (v : Value) : Prop := ∀ h, Ho σ Γ h → Res P fn ρ h v
def bodyA (P : Program) (fn : Func) (R : Ending → PH → List HP → Prop) : KA
  | .normal, ρ, σ, Γ | .ret, ρ, σ, Γ => ∃ v, ResA P fn ρ σ Γ v ∧ ∃ Γ', Ent Γ Γ' ∧ R (.returned v) σ Γ'
  | .panic c, _, σ, Γ => R (.panicked c) σ Γ
  | _, _, _, _ => False
theorem XA.toX {fn : Func} {c : Code} {R : Ending → PH → List HP → Prop} (hx : XA P fn.ntmps c ρ σ Γ (bodyA P fn R)) {fr : PH} {h : Heap} (hh : Holds σ Γ fr h) : X P fn.ntmps c ρ h (bodyK P fn (fun e h' => ∃ σ' Γ', R e σ' Γ' ∧ Holds σ' Γ' fr h')) := by
  refine X.mono (hx.out fr h hh) ?_
  rintro e ρ' h' ⟨σ', Γ', hk, hh'⟩
  cases e with
  | normal => obtain ⟨v, a, Δ, b, c⟩ := hk; exact ⟨v, a h' hh'.ho, σ', Δ, c, hh'.ent b⟩
  | ret => obtain ⟨v, a, Δ, b, c⟩ := hk; exact ⟨v, a h' hh'.ho, σ', Δ, c, hh'.ent b⟩
  | panic c => exact ⟨σ', Γ', hk, hh'⟩
  | _ => exact hk.elim
section
variable {f : FuncId} {fn : Func} {co : Code} {R : Ending → PH → List HP → Prop} (hf : P.funcs[f]? = some fn) (hb : fn.body = some co) (hn : goodName fn = true)
include hf hb hn
theorem enterA0 (hN : Nat.ble 0 fn.ntmps = true) (hx : XA P fn.ntmps co U σ Γ (bodyA P fn R)) : CallsA P f #[] σ Γ R := ⟨enters hf hb hn, fun _ _ hh => enter0 hf hb hn hN (XA.toX hx hh)⟩
theorem enterA1 {a : Value} (hN : Nat.ble 1 fn.ntmps = true) (hx : XA P fn.ntmps co (upd U 0 a) σ Γ (bodyA P fn R)) : CallsA P f #[a] σ Γ R := ⟨enters hf hb hn, fun _ _ hh => enter1 hf hb hn hN (XA.toX hx hh)⟩
theorem enterA2 {a b : Value} (hN : Nat.ble 2 fn.ntmps = true) (hx : XA P fn.ntmps co (upd (upd U 0 a) 1 b) σ Γ (bodyA P fn R)) : CallsA P f #[a, b] σ Γ R := ⟨enters hf hb hn, fun _ _ hh => enter2 hf hb hn hN (XA.toX hx hh)⟩
theorem enterA3 {a b c : Value} (hN : Nat.ble 3 fn.ntmps = true) (hx : XA P fn.ntmps co (upd (upd (upd U 0 a) 1 b) 2 c) σ Γ (bodyA P fn R)) : CallsA P f #[a, b, c] σ Γ R := ⟨enters hf hb hn, fun _ _ hh => enter3 hf hb hn hN (XA.toX hx hh)⟩
theorem enterA4 {a b c d : Value} (hN : Nat.ble 4 fn.ntmps = true) (hx : XA P fn.ntmps co (upd (upd (upd (upd U 0 a) 1 b) 2 c) 3 d) σ Γ (bodyA P fn R)) : CallsA P f #[a, b, c, d] σ Γ R := ⟨enters hf hb hn, fun _ _ hh => enter4 hf hb hn hN (XA.toX hx hh)⟩
end
theorem bodyA.ret {fn : Func} {R : Ending → PH → List HP → Prop} {v : Value} {Γ' : List HP} (hr : ResA P fn ρ σ Γ v) (he : Ent Γ Γ') (hR : R (.returned v) σ Γ') : DA (bodyA P fn R) .ret ρ σ Γ := .here ⟨v, hr, Γ', he, hR⟩
theorem bodyA.normal {fn : Func} {R : Ending → PH → List HP → Prop} {v : Value} {Γ' : List HP} (hr : ResA P fn ρ σ Γ v) (he : Ent Γ Γ') (hR : R (.returned v) σ Γ') : DA (bodyA P fn R) .normal ρ σ Γ := .here ⟨v, hr, Γ', he, hR⟩
theorem bodyA.panic {fn : Func} {R : Ending → PH → List HP → Prop} {c : List PanicEntry} {Γ' : List HP} (he : Ent Γ Γ') (hR : R (.panicked c) σ Γ') : DA (bodyA P fn R) (.panic c) ρ σ Γ := .ent he (.here hR)
theorem ResA.none {fn : Func} (hf : fn.results = #[]) : ResA P fn ρ σ Γ (.tuple #[]) := fun _ _ => Res.none hf
theorem ResA.one {fn : Func} {t : Tmp} {v : Value} (hf : fn.results = #[.tmp t]) (hv : ρ t = v) : ResA P fn ρ σ Γ v := fun _ _ => Res.one hf hv
theorem ResA.two {fn : Func} {t u : Tmp} {v v' : Value} (hf : fn.results = #[.tmp t, .tmp u]) (hv : ρ t = v) (hv' : ρ u = v') : ResA P fn ρ σ Γ (.tuple #[v, v']) := fun _ _ => Res.two hf hv hv'
theorem ResA.cell {fn : Func} {t : Tmp} {T : TypeId} {g o : Nat} {v : Value} (hf : fn.results = #[.cell t T]) (hv : ρ t = .pointer (some ⟨g, o, Option.none⟩)) (hl : ∀ h, Ho σ Γ h → Ld P h T g o v) : ResA P fn ρ σ Γ v := fun h hh => Res.cell hf hv (hl h hh)

/-! loops -/
/-- A loop: what its head's slots hold is told by a state x; the rest of what is owned stays. -/
theorem XA.loop {c : Code} {τ : Type} (L : List (Nat × Nat)) (E : τ → List (Nat × Value)) (I : τ → PH → List HP → Prop) (μ : τ → Nat) (x0 : τ) (e0 : Mat ρ (E x0)) {Δ0 : List HP} (hE0 : Ent Γ Δ0) (h0 : I x0 σ Δ0)
    (round : ∀ x δ σ' Γ', I x σ' Γ' → XA P N c ((E x).foldl (fun r p => upd r p.1 p.2) (ovr L ρ δ)) σ' Γ' (thnA (fun ρ' σ'' Γ'' => Keep L ρ ρ' ∧ ∃ x' Δ, Mat ρ' (E x') ∧ Ent Γ'' Δ ∧ I x' σ'' Δ ∧ μ x' < μ x) K)) : XA P N (.loop c) ρ σ Γ K := by
  refine ⟨fun f h hh => loopG (σ := τ) L E (fun x h' => ∃ σ' Γ', I x σ' Γ' ∧ Holds σ' Γ' f h') μ x0 e0 ⟨σ, Δ0, h0, hh.ent hE0⟩ ?_⟩
  rintro x δ h' ⟨σ', Γ', hI, hh'⟩
  refine X.mono ((round x δ σ' Γ' hI).out f h' hh') ?_
  rintro e ρ' h'' ⟨σ'', Γ'', hk, hh''⟩
  cases e with
  | normal => obtain ⟨k1, x', Δ, k2, k3, k4, k5⟩ := hk; exact ⟨k1, x', k2, ⟨σ'', Δ, k4, hh''.ent k3⟩, k5⟩
  | _ => exact ⟨σ'', Γ'', hk, hh''⟩

/-! regions whose order is drawn -/
/-- (σ0, Γ0: what is read in the region; f: of others.) -/
structure XPA (P : Program) (N : Nat) (ops : Array Oper) (σ0 : PH) (Γ0 : List HP) (z : List Nat) (pl : List (Nat × Kd)) (ρ : Env) (σ : PH) (Γ : List HP) (K : KA) : Prop where
  out : ∀ f h, Holds σ Γ f h → (σ0.sub σ ∧ Ent Γ Γ0 ∨ late z pl = true) → XP P N ops (Ho σ0 Γ0) z pl ρ h (KF f K)
theorem Holds.sub {f σ0 : PH} {h : Heap} (x : Holds σ Γ f h) (hs : σ0.sub σ) : Holds σ0 Γ f h := by
  obtain ⟨m, a, b, c, d, i, p, q⟩ := x
  exact ⟨m, a, b, hs.le c, d, i.mono (.refl _) hs, p, q.mono hs (.refl _)⟩
theorem Holds.hoSub {f σ0 : PH} {Γ0 : List HP} {h : Heap} (x : Holds σ Γ f h) (hs : σ0.sub σ ∧ Ent Γ Γ0) : Ho σ0 Γ0 h := ((x.sub hs.1).ent hs.2).ho
section
variable {ops : Array Oper} {σ0 : PH} {Γ0 : List HP} {z : List Nat} {i : Nat} {pl : List (Nat × Kd)} {op : Op} {ty : TypeId} {pos : String} {af : Array Edge} {g : Option (Nat × Bool)}
theorem XA.draw {id : Nat} (hm : P.follows .mixedOrders = true) (σ0 : PH) (Γ0 : List HP) (z : List Nat) (pl : List (Nat × Kd)) (hv : (validFrom ops z pl ops.size (Array.replicate ops.size false) && Region.noSelect ops) = true) (hS : σ0.sub σ) (hE : Ent Γ Γ0) (hx : XPA P N ops σ0 Γ0 z pl ρ σ Γ K) : XA P N (.region id ops true) ρ σ Γ K :=
  ⟨fun f h hh => X.draw hm (Ho σ0 Γ0) z pl hv (hh.hoSub ⟨hS, hE⟩) (hx.out f h hh (.inl ⟨hS, hE⟩))⟩
theorem XPA.nil (hk : DA K .normal ρ σ Γ) : XPA P N ops σ0 Γ0 z [] ρ σ Γ K := ⟨fun f h hh _ => XP.nil (hk.out f h hh)⟩
theorem XPA.rd {d : Nat} {v : Value} (hi : ops[i]? = some ⟨some d, op, ty, pos, af, g⟩) (hd : Nat.blt d N = true) (hg : Gd ops ρ g true) (hr : Rd P ρ (Ho σ0 Γ0) op ty v) (k : XPA P N ops σ0 Γ0 z pl (upd ρ d v) σ Γ K) : XPA P N ops σ0 Γ0 z ((i, .rd) :: pl) ρ σ Γ K :=
  ⟨fun f h hh hs => XP.rd hi hd hg hr (k.out f h hh (.inl (hs.resolve_right (by simp [late]))))⟩
theorem XPA.off {d : Nat} (hi : ops[i]? = some ⟨some d, op, ty, pos, af, g⟩) (hd : Nat.blt d N = true) (hg : Gd ops ρ g false) (k : XPA P N ops σ0 Γ0 z pl (upd ρ d undef) σ Γ K) : XPA P N ops σ0 Γ0 z ((i, .rd) :: pl) ρ σ Γ K :=
  ⟨fun f h hh hs => XP.off hi hd hg (k.out f h hh (.inl (hs.resolve_right (by simp [late]))))⟩
theorem XPA.pu {d : Nat} {v : Value} (hi : ops[i]? = some ⟨some d, op, ty, pos, af, g⟩) (hd : Nat.blt d N = true) (hg : Gd ops ρ g true) (hr : Rd P ρ (fun _ => True) op ty v) (k : XPA P N ops σ0 Γ0 z pl (upd ρ d v) σ Γ K) : XPA P N ops σ0 Γ0 z ((i, .pu) :: pl) ρ σ Γ K :=
  ⟨fun f h hh hs => XP.puR hi hd hg hr (k.out f h hh (hs.imp id (fun hl => by simpa [late] using hl)))⟩
theorem XPA.puOff {d : Nat} (hi : ops[i]? = some ⟨some d, op, ty, pos, af, g⟩) (hd : Nat.blt d N = true) (hg : Gd ops ρ g false) (k : XPA P N ops σ0 Γ0 z pl (upd ρ d undef) σ Γ K) : XPA P N ops σ0 Γ0 z ((i, .pu) :: pl) ρ σ Γ K :=
  ⟨fun f h hh hs => XP.puOff hi hd hg (k.out f h hh (hs.imp id (fun hl => by simpa [late] using hl)))⟩
theorem XPA.offW {d : Option Nat} (hi : ops[i]? = some ⟨d, op, ty, pos, af, g⟩) (hd : dstOk N d = true) (hg : Gd ops ρ g false) (k : XPA P N ops σ0 Γ0 z pl (updO ρ d undef) σ Γ K) : XPA P N ops σ0 Γ0 z ((i, .wr) :: pl) ρ σ Γ K :=
  ⟨fun f h hh hs => XP.offW hi hd hg (k.out f h hh (hs.imp id (fun hl => by simp only [late, List.all_cons, Bool.and_eq_true] at hl ⊢; exact hl.2)))⟩
/-- A writer; what is read stays. -/
theorem XPA.wr {d : Option Nat} {R : Value → PH → List HP → Prop} {pk : List PanicEntry → PH → List HP → Prop} (hi : ops[i]? = some ⟨d, op, ty, pos, af, g⟩) (hd : dstOk N d = true) (hg : Gd ops ρ g true) (hr : WrA P ρ σ Γ op ty R pk)
    (k : ∀ v σ' Γ', R v σ' Γ' → (σ0.sub σ' ∧ Ent Γ' Γ0) ∧ XPA P N ops σ0 Γ0 z pl (updO ρ d v) σ' Γ' K) (kp : ∀ c σ' Γ', pk c σ' Γ' → DA K (.panic c) ρ σ' Γ') : XPA P N ops σ0 Γ0 z ((i, .wr) :: pl) ρ σ Γ K :=
  ⟨fun f h hh hs => XP.wr hi hd hg (hr.out f h hh) (fun v h' ⟨σ', Γ', a, b⟩ => ⟨b.hoSub (k v σ' Γ' a).1, (k v σ' Γ' a).2.out f h' b (.inl (k v σ' Γ' a).1)⟩) (fun c h' ⟨σ', Γ', a, b⟩ => (kp c σ' Γ' a).out f h' b)⟩
theorem XPA.wr0 {d : Option Nat} {R : Value → PH → List HP → Prop} (hi : ops[i]? = some ⟨d, op, ty, pos, af, g⟩) (hd : dstOk N d = true) (hg : Gd ops ρ g true) (hr : WrA P ρ σ Γ op ty R noPA)
    (k : ∀ v σ' Γ', R v σ' Γ' → (σ0.sub σ' ∧ Ent Γ' Γ0) ∧ XPA P N ops σ0 Γ0 z pl (updO ρ d v) σ' Γ' K) : XPA P N ops σ0 Γ0 z ((i, .wr) :: pl) ρ σ Γ K := XPA.wr hi hd hg hr k (fun _ _ _ hp => hp.elim)
/-- A late writer: what is read need not stay. -/
theorem XPA.wrZ {d : Option Nat} {R : Value → PH → List HP → Prop} {pk : List PanicEntry → PH → List HP → Prop} (hi : ops[i]? = some ⟨d, op, ty, pos, af, g⟩) (hd : dstOk N d = true) (hg : Gd ops ρ g true) (hz : (z.contains i && late z pl) = true) (hr : WrA P ρ σ Γ op ty R pk)
    (k : ∀ v σ' Γ', R v σ' Γ' → XPA P N ops σ0 Γ0 z pl (updO ρ d v) σ' Γ' K) (kp : ∀ c σ' Γ', pk c σ' Γ' → DA K (.panic c) ρ σ' Γ') : XPA P N ops σ0 Γ0 z ((i, .wr) :: pl) ρ σ Γ K := by
  simp only [Bool.and_eq_true] at hz
  exact ⟨fun f h hh _ => XP.wrG hi hd hg (hr.out f h hh) (fun v h' ⟨σ', Γ', a, b⟩ => ⟨.inl hz, (k v σ' Γ' a).out f h' b (.inr hz.2)⟩) (fun c h' ⟨σ', Γ', a, b⟩ => (kp c σ' Γ' a).out f h' b)⟩
theorem XPA.wrZ0 {d : Option Nat} {R : Value → PH → List HP → Prop} (hi : ops[i]? = some ⟨d, op, ty, pos, af, g⟩) (hd : dstOk N d = true) (hg : Gd ops ρ g true) (hz : (z.contains i && late z pl) = true) (hr : WrA P ρ σ Γ op ty R noPA)
    (k : ∀ v σ' Γ', R v σ' Γ' → XPA P N ops σ0 Γ0 z pl (updO ρ d v) σ' Γ' K) : XPA P N ops σ0 Γ0 z ((i, .wr) :: pl) ρ σ Γ K := XPA.wrZ hi hd hg hz hr k (fun _ _ _ hp => hp.elim)
end
end X
end Go.Proofs.YthefnnkmpcgcmaaGreatDoor

namespace Go.Proofs.YthefnnkmpcgcmaaGreatDoor
namespace X
open Go
section
variable {P : Program} {N : Nat} {ρ : Env} {σ : PH} {Γ Γ' Δ : List HP} {K : KA} {R : HP}
theorem XA.ent {c : Code} (h : Ent Γ Δ) (k : XA P N c ρ σ Δ K) : XA P N c ρ σ Γ K := ⟨fun f hp hh => k.out f hp (hh.ent h)⟩
theorem XOA.ent {all : Array Oper} {l : List Oper} (h : Ent Γ Δ) (k : XOA P N all l ρ σ Δ K) : XOA P N all l ρ σ Γ K := ⟨fun f hp hh => k.out f hp (hh.ent h)⟩
theorem holds_open' {f : PH} {h : Heap} (x : Holds σ Γ f h) (s : Sel Γ R Γ') {α : Sort _} {φ : α → Prop} {Θ : α → List HP} (ho : ∀ m, R m → ∃ x, φ x ∧ Sat (Θ x) m) : ∃ x, φ x ∧ Holds σ (Θ x ++ Γ') f h := by
  obtain ⟨m, a, b⟩ := x
  obtain ⟨m1, m2, r1, r2, r3, r4, r5⟩ := s.to a
  obtain ⟨x, hp, hx⟩ := ho _ r1
  exact ⟨x, hp, m, Sat.join hx r2 r3 r4 r5, b⟩
section
variable {α : Sort _} {φ : α → Prop} {Θ : α → List HP} (s : Sel Γ R Γ') (ho : ∀ m, R m → ∃ x, φ x ∧ Sat (Θ x) m)
include s ho
theorem XOA.opn {all : Array Oper} {l : List Oper} (k : ∀ x, φ x → XOA P N all l ρ σ (Θ x ++ Γ') K) : XOA P N all l ρ σ Γ K := ⟨fun f h hh => by obtain ⟨x, a, b⟩ := holds_open' hh s ho; exact (k x a).out f h b⟩
theorem CallsA.opn {f : FuncId} {vs : Array Value} {RR : Ending → PH → List HP → Prop} (he : Enters P f) (k : ∀ x, φ x → CallsA P f vs σ (Θ x ++ Γ') RR) : CallsA P f vs σ Γ RR := ⟨he, fun fr h hh => by obtain ⟨x, a, b⟩ := holds_open' hh s ho; exact (k x a).2 fr h b⟩
end
theorem holds_freeze' {f : PH} {h : Heap} {α : Sort _} {φ : α → PH → Prop} (x : Holds σ Γ f h) (s : Sel Γ R Γ') (ho : ∀ m, R m → ∃ x, φ x m) (mono : ∀ x m m', φ x m → m.sub m' → φ x m') : ∃ σ' x, φ x σ' ∧ σ.sub σ' ∧ Holds σ' Γ' f h := by
  obtain ⟨σ', m, a, b, c, d⟩ := x.freeze s
  obtain ⟨x, hx⟩ := ho m a
  exact ⟨σ', x, mono _ _ _ hx b, c, d⟩
section
variable {α : Sort _} {φ : α → PH → Prop} (s : Sel Γ R Γ') (ho : ∀ m, R m → ∃ x, φ x m) (mono : ∀ x m m', φ x m → m.sub m' → φ x m')
include s ho mono
theorem XOA.frz {all : Array Oper} {l : List Oper} (k : ∀ σ' x, φ x σ' → σ.sub σ' → XOA P N all l ρ σ' Γ' K) : XOA P N all l ρ σ Γ K := ⟨fun f h hh => by obtain ⟨σ', x, a, b, c⟩ := holds_freeze' hh s ho mono; exact (k σ' x a b).out f h c⟩
theorem DA.frz {e : Exit} (k : ∀ σ' x, φ x σ' → σ.sub σ' → DA K e ρ σ' Γ') : DA K e ρ σ Γ := ⟨fun f h hh => by obtain ⟨σ', x, a, b, c⟩ := holds_freeze' hh s ho mono; exact (k σ' x a b).out f h c⟩
end
end
theorem Ent.all (Γ : List HP) : Ent Γ ([] ++ Γ) := fun _ h => h
theorem Ent.take {Γ Γ' Γ0 Δ : List HP} {R : HP} (s : Sel Γ R Γ') (h : Ent Γ' (Γ0 ++ Δ)) : Ent Γ ((R :: Γ0) ++ Δ) := Ent.sel s h
theorem take0 {l : List Value} {n : Nat} (h : l.length = n) : (l.drop 0).take n = l := by rw [← h]; simp
theorem Ld.atBlk {P : Program} {σ : PH} {Γ Γ' : List HP} {T : TypeId} {r : Ty} (hT : tyOf P T = some r) (hk : r.k.agg = true) {g o n : Nat} {l vs : List Value} {T' : TypeId} (s : Sel Γ (X.blk g l T') Γ') (hsz : r.size = n) (hv : (l.drop o).take n = vs) (hn : vs.length = n) : ∀ h, Ho σ Γ h → Ld P h T g o (.agg vs.toArray) :=
  Ld.at hT hk (At.blk s (by rw [hn]; exact hv)) (by rw [hsz]; exact hn)
theorem Ent.selNil {Γ Δ : List HP} {e size : Nat} (h : Ent Γ Δ) : Ent Γ (lst e size (.slice none 0 0) 0 [] :: Δ) := fun m x => ⟨PH.none, m, lst_nil e size _, h m x, (PH.none_dis m).symm, PH.none_sub m, .refl m⟩
/-- One thing out of its parts; the rest is left. -/
theorem Ent.fold1 {Γ Θ : List HP} {S : HP} (s : Ent Γ Θ) (hi : ∀ m, Sat Θ m → S m) : Ent Γ [S] := fun m x => ⟨m, PH.none, hi _ (s m x), trivial, PH.none_dis m, .refl m, PH.none_sub m⟩
theorem Ent.foldC {Γ Θ Γ' Δ : List HP} {S : HP} (s : Ent Γ (Θ ++ Γ')) (hi : ∀ m, Sat Θ m → S m) (h : Ent Γ' Δ) : Ent Γ (S :: Δ) := Ent.fold s hi h
theorem Ent.selImp {Γ Γ' Δ : List HP} {R S : HP} (s : Sel Γ R Γ') (hi : ∀ m, R m → S m) (h : Ent Γ' Δ) : Ent Γ (S :: Δ) := Ent.imp s hi h
/-- All slots but those of E are forgotten. -/
theorem XA.gen {P : Program} {N : Nat} {ρ : Env} {σ : PH} {Γ : List HP} {K : KA} {c : Code} (E : List (Nat × Value)) (hE : Mat ρ E) (k : ∀ δ, XA P N c (E.foldl (fun r p => upd r p.1 p.2) δ) σ Γ K) : XA P N c ρ σ Γ K := by
  have := k ρ; rwa [mat_self hE] at this
theorem Gd.isB {ops : Array Oper} {ρ : Env} {j t : Nat} {b c r : Bool} (hj : (ops[j]?).bind (·.dst) = some t) (hb : ρ t = .bool c) (hr : (c == b) = r) : Gd ops ρ (some (j, b)) r := hr ▸ .is hj hb
theorem holds_fact {σ f : PH} {Γ Γ' : List HP} {R : HP} {q : Prop} {h : Heap} (x : Holds σ Γ f h) (s : Sel Γ R Γ') (hf : ∀ m, R m → q) : q := by
  obtain ⟨m, a, b⟩ := x
  obtain ⟨m1, m2, r1, r2⟩ := s.to a
  exact hf _ r1
section
variable {P : Program} {N : Nat} {ρ : Env} {σ : PH} {Γ Γ' : List HP} {K : KA} {R : HP} {q : Prop} (s : Sel Γ R Γ') (hf : ∀ m, R m → q)
include s hf
/-- What a thing tells. -/
theorem XA.fact {c : Code} (k : q → XA P N c ρ σ Γ K) : XA P N c ρ σ Γ K := ⟨fun f h hh => (k (holds_fact hh s hf)).out f h hh⟩
end
theorem CallsA.conv {P : Program} {f : FuncId} {vs : Array Value} {σ : PH} {Γ1 Γ2 Δ : List HP} {w : Value} (h : CallsA P f vs σ Γ1 (RetA fun v σ' Γ' => v = w ∧ σ = σ' ∧ Γ' = Γ2)) (he : Ent Γ2 Δ) : CallsA P f vs σ Γ1 (RetA fun v σ' Γ' => v = w ∧ σ = σ' ∧ Γ' = Δ) :=
  ⟨h.1, fun fr hp hh => (h.2 fr hp hh).mono fun e h' ⟨σ', Γ', a, b⟩ => by
    cases e with
    | returned v => obtain ⟨a1, a2, rfl⟩ := a; exact ⟨σ', Δ, ⟨a1, a2, rfl⟩, b.ent he⟩
    | panicked c => exact a.elim
    | outgrown => exact a.elim⟩
theorem map_c {ρ : Env} {i : Nat} {x : Operand} {v : Value} {parts : List (Nat × Operand)} {ps : List (Nat × Value)} (h : ev ρ x = v) (t : (parts.map fun p => (p.1, ev ρ p.2)) = ps) : (((i, x) :: parts).map fun p => (p.1, ev ρ p.2)) = (i, v) :: ps := by simp [h, t]
theorem map_n {ρ : Env} : (([] : List (Nat × Operand)).map fun p => (p.1, ev ρ p.2)) = [] := rfl
theorem bld_n {place : Nat → Option (Nat × Nat)} {z : List Value} : bld place [] z = some z := rfl
theorem bld_z {place : Nat → Option (Nat × Nat)} {ps : List (Nat × Value)} {z z' cs : List Value} (h : z = z') (k : bld place ps z' = some cs) : bld place ps z = some cs := h ▸ k
theorem bld_c {place : Nat → Option (Nat × Nat)} {i off sz : Nat} {q : Nat × Nat} {v : Value} {ps : List (Nat × Value)} {z z' vs cs : List Value} (hp : place i = some q) (ho : q.1 = off) (hz : q.2 = sz) (hv : v.cells = vs.toArray) (hl : vs.length = sz) (hf : off + sz ≤ z.length) (hs : z.take off ++ (vs ++ z.drop (off + sz)) = z') (k : bld place ps z' = some cs) : bld place ((i, v) :: ps) z = some cs := by
  have hs' : splice z off vs = z' := by rw [splice, hl, List.append_assoc]; exact hs
  clear hs
  subst hs' ho hz
  rw [bld, hp]
  simp only [hv]
  rw [if_pos ⟨by simp [hl], hf⟩]
  exact k
def zs : Nat → List Value → List Value
  | 0, _ => []
  | n + 1, z => z ++ zs n z
theorem zs_eq {s : Nat} {z : List Value} (hl : z.length = s) : ∀ n, (List.range (n * s)).map (fun k => z.getD (k % s) undef) = zs n z
  | 0 => by simp [zs]
  | n + 1 => by
    have h1 : (List.range s).map (fun k => z.getD (k % s) undef) = z := by
      apply List.ext_getElem (by simp [hl])
      intro i h1 h2
      simp only [List.length_map, List.length_range] at h1
      simp [List.getD_eq_getElem?_getD, Nat.mod_eq_of_lt h1, h2]
    have h2 := zs_eq hl n
    rw [Nat.succ_mul, Nat.add_comm, List.range_add, List.map_append, h1, zs, List.map_map, ← h2]
    congr 1
    apply List.map_congr_left
    intro k _
    simp
theorem bld_s {place : Nat → Option (Nat × Nat)} {len s : Nat} {ps : List (Nat × Value)} {z z0 zz cs : List Value} (h0 : z = z0) (hl : z0.length = s) (hs : zs len z0 = zz) (k : bld place ps zz = some cs) : bld place ps ((List.range (len * s)).map fun k => z.getD (k % s) undef) = some cs := by
  subst h0; rw [zs_eq hl, hs]; exact k
end X
end Go.Proofs.YthefnnkmpcgcmaaGreatDoor

namespace Go.Proofs.YthefnnkmpcgcmaaGreatDoor
namespace X
open Go
section
variable {P : Program} {N : Nat} {ρ : Env} {S : Heap → Prop} {ty : TypeId} {σ : PH} {Γ : List HP} {K : KA}
theorem Rd.mv {x : Operand} {v : Value} (hv : ev ρ x = v := by with_reducible (conv => lhs; whnf)) : Rd P ρ S (.move x) ty v := .move hv
theorem Rd.asg {x : Operand} {v : Value} (hv : ev ρ x = v := by with_reducible (conv => lhs; whnf)) : Rd P ρ S (.assign x) ty v := .assign hv
theorem Rd.pT {c x y : Operand} {v : Value} (hc : ev ρ c = .bool true) (hv : ev ρ x = v := by with_reducible (conv => lhs; whnf)) : Rd P ρ S (.pick c x y) ty v := .pickT hc hv
theorem Rd.pF {c x y : Operand} {v : Value} (hc : ev ρ c = .bool false) (hv : ev ρ y = v := by with_reducible (conv => lhs; whnf)) : Rd P ρ S (.pick c x y) ty v := .pickF hc hv
theorem Rd.pP {p : Prop} {inst : Decidable p} {b : Bool} {c x y : Operand} {v : Value} (hc : ev ρ c = .bool (@decide p inst)) (hp : @decide p inst = b := by first | exact (rfl : decide _ = true) | exact (rfl : decide _ = false) | (refine decide_eq_true ?_; assumption) | (refine decide_eq_false ?_; assumption) | (refine decide_eq_true ?_; omega) | (refine decide_eq_false ?_; omega)) (hv : ev ρ (match b with | true => x | false => y) = v := by with_reducible (conv => lhs; whnf)) : Rd P ρ S (.pick c x y) ty v := .pickP hc hp hv
theorem Rd.ldA {T : TypeId} {x : Operand} {g o : Nat} {v : Value} (hx : ev ρ x = .pointer (some ⟨g, o, none⟩)) (hl : ∀ h, S h → Ld P h T g o v := by first | (exact Ld.atBlk (tyrow rfl) rfl (by ((repeat (first | with_reducible exact Sel.head | apply Sel.tail)); (first | done | fail))) rfl (by first | exact take0 (by first | rfl | assumption | (refine (ints_len _).trans ?_; assumption) | (simp [*]; (first | done | fail))) | assumption | exact take_app (by first | rfl | assumption | (refine (ints_len _).trans ?_; assumption) | (simp [*]; (first | done | fail))) | (conv => lhs; simp only [List.drop_succ_cons, List.drop_zero, List.take_succ_cons, List.take_zero])) (by first | rfl | assumption | (refine (ints_len _).trans ?_; assumption) | (simp [*]; (first | done | fail)))) | (exact Ld.at (tyrow rfl) rfl (At.per (by assumption)) (by first | rfl | assumption | (refine (ints_len _).trans ?_; assumption) | (simp [*]; (first | done | fail)))) | (exact Ld.atLst (tyrow rfl) rfl (by ((repeat (first | with_reducible exact Sel.head | apply Sel.tail)); (first | done | fail))) rfl (by first | exact take0 (by first | rfl | assumption | (refine (ints_len _).trans ?_; assumption) | (simp [*]; (first | done | fail))) | assumption | exact take_app (by first | rfl | assumption | (refine (ints_len _).trans ?_; assumption) | (simp [*]; (first | done | fail))) | (conv => lhs; simp only [List.drop_succ_cons, List.drop_zero, List.take_succ_cons, List.take_zero])) (by first | rfl | assumption | (refine (ints_len _).trans ?_; assumption) | (simp [*]; (first | done | fail))))) : Rd P ρ S (.load T x) ty v := .load hx hl
theorem Rd.ldC {T : TypeId} {x : Operand} {r : Ty} {g o : Nat} {v : Value} (hx : ev ρ x = .pointer (some ⟨g, o, none⟩)) (hT : tyOf P T = some r) (hk : r.k.agg = false) (hc : AtC S g o v := by first | (exact AtC.blk (by ((repeat (first | with_reducible exact Sel.head | apply Sel.tail)); (first | done | fail))) (by first | rfl | assumption)) | (exact AtC.per (by first | assumption)) | (exact AtC.lst (by ((repeat (first | with_reducible exact Sel.head | apply Sel.tail)); (first | done | fail))) (by first | rfl | assumption))) : Rd P ρ S (.load T x) ty v := .load hx (Ld.atC hT hk hc)
theorem Rd.adi {T T' : TypeId} {x y : Operand} {a b : Int} (hx : ev ρ x = .int .i64 a) (hy : ev ρ y = .int .i64 b) (hr : -9223372036854775808 ≤ a + b ∧ a + b ≤ 9223372036854775807 := by omega) : Rd P ρ S (.binOp .add T x y T') ty (.int .i64 (a + b)) := .addi hx hy rfl hr
theorem Rd.sbi {T T' : TypeId} {x y : Operand} {a b : Int} (hx : ev ρ x = .int .i64 a) (hy : ev ρ y = .int .i64 b) (hr : -9223372036854775808 ≤ a - b ∧ a - b ≤ 9223372036854775807 := by omega) : Rd P ρ S (.binOp .sub T x y T') ty (.int .i64 (a - b)) := .subi hx hy rfl hr
theorem Rd.fA {T : TypeId} {x : Operand} {f g o n m : Nat} {r : Ty} {fs : List (TypeId × Nat)} {ft : TypeId} {r' : Ty} (hx : ev ρ x = .pointer (some ⟨g, o, none⟩)) (hT : tyOf P T = some r := by exact tyrow rfl) (hk : r.k = .struct fs := by rfl) (hf : fs[f]? = some (ft, n) := by rfl) (hft : tyOf P ft = some r' := by exact tyrow rfl) (hz : Nat.beq r'.size 0 = false := by rfl)
    (ho : o + n = m := by first | (conv => lhs; simp only [Nat.reduceAdd, Nat.zero_add, Nat.add_zero, Nat.reduceMul, Nat.mul_one, Int.toNat_natCast, Int.reduceToNat, Nat.zero_mul]) | rfl) : Rd P ρ S (.fieldAddr T x f) ty (.pointer (some ⟨g, m, none⟩)) := .fieldAddr hT hk hf hft hz hx ho
theorem Rd.ixS {T : TypeId} {x y : Operand} {g o len cap e sz m : Nat} {i : Int} {kk : IntKind} {r re : Ty} (hx : ev ρ x = .slice (some ⟨g, o, none⟩) len cap) (hy : ev ρ y = .int kk i) (hT : tyOf P T = some r := by exact tyrow rfl) (hk : r.k = .slice e := by rfl) (hE : tyOf P e = some re := by exact tyrow rfl)
    (hlt : 0 ≤ i ∧ i < len := by first | omega | decide | (simp; omega)) (hsz : re.size = sz := by with_reducible (conv => lhs; whnf)) (ho : o + i.toNat * sz = m := by first | (conv => lhs; simp only [Nat.reduceAdd, Nat.zero_add, Nat.add_zero, Nat.reduceMul, Nat.mul_one, Int.toNat_natCast, Int.reduceToNat, Nat.zero_mul]) | rfl) : Rd P ρ S (.indexAddr T x y) ty (.pointer (some ⟨g, m, none⟩)) := .indexSlice hT hk hE hx hy hlt hsz ho
theorem Rd.bl {T : TypeId} {tb : Nat → Option Ty} {parts : List (Nat × Operand)} {ps : List (Nat × Value)} {r : Ty} {fs : List (TypeId × Nat)} {pl : List (Nat × Nat)} {cs : List Value} (htb : ∀ T r, tb T = some r → tyOf P T = some r) (hT : tb T = some r) (hk : r.k = .struct fs) (hpl : places tb fs = some pl)
    (hp : (parts.map fun p => (p.1, ev ρ p.2)) = ps := by first | ((repeat (first | exact map_n | (apply map_c; exact (by with_reducible (conv => lhs; whnf))))); done) | rfl) (hb : bld (pl[·]?) ps r.zero = some cs := by first | (apply bld_z; exact (by conv => lhs; whnf); (repeat (first | exact bld_n | (apply bld_c; rfl; exact (by conv => lhs; whnf); exact (by conv => lhs; whnf); exact (by first | exact wv_cells _ | exact agg_cells _ | rfl); exact (by first | rfl | assumption | (refine (ints_len _).trans ?_; assumption) | (simp [*]; (first | done | fail))); exact (by first | exact Nat.le_refl _ | exact hfit | exact hfit2 _ | (rw [vlen]; decide; assumption; assumption) | decide | (simp [*]; (first | done | fail)) | (simp; omega)); exact (by conv => lhs; simp only [List.take_zero, List.take_succ_cons, List.drop_zero, List.drop_succ_cons, List.drop_nil, List.nil_append, List.cons_append, List.append_nil, Nat.reduceAdd, Nat.zero_add, Nat.add_zero])))); done) | rfl | assumption | (conv => lhs; simp [bld, splice, Value.cells, *])) : Rd P ρ S (.build T parts.toArray) ty (.agg cs.toArray) := .build htb hT hk hpl hp hb
theorem WrA.bs {T e len : Nat} {tb : Nat → Option Ty} {parts : List (Nat × Operand)} {ps : List (Nat × Value)} {r re : Ty} {cs : List Value} (htb : ∀ T r, tb T = some r → tyOf P T = some r) (hT : tb T = some r) (hk : r.k = .slice e) (hE : tb e = some re) (hz : re.zero.length = re.size)
    (hsm : Nat.ble (len * re.size) 16777216 = true) (hp : (parts.map fun p => (p.1, ev ρ p.2)) = ps := by first | ((repeat (first | exact map_n | (apply map_c; exact (by with_reducible (conv => lhs; whnf))))); done) | rfl) (hb : bld (fun i => some (i * re.size, re.size)) ps ((List.range (len * re.size)).map fun k => re.zero.getD (k % re.size) undef) = some cs := by first | (apply bld_s; exact (by conv => lhs; whnf); rfl; exact (by conv => lhs; simp only [zs, List.cons_append, List.nil_append]); (repeat (first | exact bld_n | (apply bld_c; rfl; exact (by conv => lhs; whnf); exact (by conv => lhs; whnf); exact (by first | exact wv_cells _ | exact agg_cells _ | rfl); exact (by first | rfl | assumption | (refine (ints_len _).trans ?_; assumption) | (simp [*]; (first | done | fail))); exact (by first | exact Nat.le_refl _ | exact hfit | exact hfit2 _ | (rw [vlen]; decide; assumption; assumption) | decide | (simp [*]; (first | done | fail)) | (simp; omega)); exact (by conv => lhs; simp only [List.take_zero, List.take_succ_cons, List.drop_zero, List.drop_succ_cons, List.drop_nil, List.nil_append, List.cons_append, List.append_nil, Nat.reduceAdd, Nat.zero_add, Nat.add_zero])))); done) | rfl | assumption | (conv => lhs; simp [bld, splice, Value.cells, *])) :
    WrA P ρ σ Γ (.buildSlice T len parts.toArray) ty (fun v' σ' Γ' => ∃ g, v' = .slice (some ⟨g, 0, none⟩) len len ∧ σ = σ' ∧ Γ' = blk g cs e :: Γ) noPA := .buildSlice htb hT hk hE hz hsm hp hb
theorem WrA.bs1 {T e : TypeId} {x : Operand} {v : Value} {r re : Ty} {l : List Value} (hT : tyOf P T = some r) (hk : r.k = .slice e) (hE : tyOf P e = some re) (hx : ev ρ x = v := by with_reducible (conv => lhs; whnf)) (hl : v.cells = l.toArray := by first | exact wv_cells _ | exact agg_cells _ | rfl) (hln : l.length = re.size := by first | rfl | assumption | (refine (ints_len _).trans ?_; assumption) | (simp [*]; (first | done | fail))) (hz : re.zero.length = re.size := by rfl) (hs : re.size ≤ 1000 := by decide) (hs0 : Nat.beq re.size 0 = false := by rfl) :
    WrA P ρ σ Γ (.buildSlice T 1 #[(0, x)]) ty (fun v' σ' Γ' => ∃ g, v' = .slice (some ⟨g, 0, none⟩) 1 1 ∧ σ = σ' ∧ Γ' = blk g l e :: Γ) noPA := .slice1 hT hk hE hx hl hln hz hs hs0
theorem WrA.bx {T : TypeId} {x : Operand} {v : Value} {l : List Value} (hx : ev ρ x = v := by with_reducible (conv => lhs; whnf)) (hl : v.cells = l.toArray := by first | exact wv_cells _ | exact agg_cells _ | rfl) : WrA P ρ σ Γ (.box T x) ty (fun v' σ' Γ' => ∃ g, v' = .pointer (some ⟨g, 0, none⟩) ∧ σ = σ' ∧ Γ' = blk g l T :: Γ) noPA := .box hx hl
theorem WrA.st {T : TypeId} {x y : Operand} {g o : Nat} {v : Value} {vs : List Value} {r : Ty} {l l' : List Value} {T' : TypeId} {Γ' : List HP} (hT : tyOf P T = some r) (hx : ev ρ x = .pointer (some ⟨g, o, none⟩)) (s : Sel Γ (blk g l T') Γ' := by ((repeat (first | with_reducible exact Sel.head | apply Sel.tail)); (first | done | fail))) (hy : ev ρ y = v := by with_reducible (conv => lhs; whnf)) (hv : v.cells = vs.toArray := by first | exact wv_cells _ | exact agg_cells _ | rfl)
    (hn : vs.length = r.size := by first | rfl | assumption | (refine (ints_len _).trans ?_; assumption) | (simp [*]; (first | done | fail))) (hfit : o + r.size ≤ l.length := by first | exact Nat.le_refl _ | exact hfit | exact hfit2 _ | (rw [vlen]; decide; assumption; assumption) | decide | (simp [*]; (first | done | fail)) | (simp; omega)) (h1 : ones vs := by (repeat (first | assumption | exact ones_ints _ | exact ones_lit rfl | refine ones_cons rfl ?_ | refine ones_append ?_ ?_)); (first | done | fail)) (hh : splice l o vs = l' := by first | ((with_reducible apply splice_all); (first | rfl | (simp [*]; (first | done | fail)))) | assumption | exact hspl _ | exact hspl2 | exact hspl2 _ | (conv => lhs; simp only [splice, List.take_zero, List.take_succ_cons, List.drop_zero, List.drop_succ_cons, List.length_cons, List.length_nil, List.nil_append, List.cons_append, List.append_nil, List.append_eq, Nat.reduceAdd, Nat.zero_add, Nat.add_zero]) | rfl) : WrA P ρ σ Γ (.store T x y) ty (fun v' σ' Δ => v' = undef ∧ σ = σ' ∧ Δ = blk g l' T' :: Γ') noPA := .store hT hx s hy hv hn hfit h1 hh
theorem WrA.cE {f : FuncId} {args : List Operand} {ats : Array TypeId} {vs : List Value} {R : Value → PH → List HP → Prop} {Γ0 Δ : List HP} (hc : CallsA P f vs.toArray σ Γ0 (RetA R)) (hv : args.map (ev ρ) = vs) (he : Ent Γ (Γ0 ++ Δ) := by (repeat (first | exact Ent.all _ | (apply Ent.take; focus (first | ((repeat (first | with_reducible exact Sel.head | apply Sel.tail)); done) | ((repeat (first | exact Sel.head | apply Sel.tail)); done))) | apply Ent.takeNil | apply Ent.takeEmp)); (first | done | fail)) :
    WrA P ρ σ Γ (.call { callee := .value (.func f), args := args.toArray, argTypes := ats }) ty (fun v σ' Γ' => ∃ Γ1, R v σ' Γ1 ∧ Γ' = Γ1 ++ Δ) noPA := WrA.call hc hv he
theorem WrA.cV {f : FuncId} {fo : Operand} {first cap : List Value} {args : List Operand} {ats : Array TypeId} {vs : List Value} {R : Value → PH → List HP → Prop} {Γ0 Δ : List HP} (hf : ev ρ fo = .func (.func f) first.toArray cap.toArray)
    (hc : CallsA P f vs.toArray σ Γ0 (RetA R)) (hv : first ++ args.map (ev ρ) ++ cap = vs) (he : Ent Γ (Γ0 ++ Δ) := by (repeat (first | exact Ent.all _ | (apply Ent.take; focus (first | ((repeat (first | with_reducible exact Sel.head | apply Sel.tail)); done) | ((repeat (first | exact Sel.head | apply Sel.tail)); done))) | apply Ent.takeNil | apply Ent.takeEmp)); (first | done | fail)) :
    WrA P ρ σ Γ (.call { callee := .value fo, args := args.toArray, argTypes := ats }) ty (fun v σ' Γ' => ∃ Γ1, R v σ' Γ1 ∧ Γ' = Γ1 ++ Δ) noPA := WrA.callV hf hc hv he
theorem WrA.ap1 {T e : TypeId} {x y : Operand} {r re : Ty} {v : Value} {n c g : Nat} {xs news : List Value} {Γ1 Γ' : List HP} {T' : TypeId} (hT : tyOf P T = some r) (hk : r.k = .slice e) (hE : tyOf P e = some re) (hz : re.zero.length = re.size)
    (hs : ev ρ x = v) (hy : ev ρ y = .slice (some ⟨g, 0, none⟩) 1 c) (hg : Sel Γ (blk g news T') Γ1 := by ((repeat (first | with_reducible exact Sel.head | apply Sel.tail)); (first | done | fail))) (s : Sel Γ1 (lst e re.size v n xs) Γ' := by ((repeat (first | with_reducible exact Sel.head | apply Sel.tail)); (first | done | fail))) (hl : news.length = re.size := by first | rfl | assumption | (refine (ints_len _).trans ?_; assumption) | (simp [*]; (first | done | fail))) (h1 : ones news := by (repeat (first | assumption | exact ones_ints _ | exact ones_lit rfl | refine ones_cons rfl ?_ | refine ones_append ?_ ?_)); (first | done | fail)) (h63 : n + 1 ≤ maxLen := by simp only [maxLen]; omega) (hb : (n + 1) * re.bytes ≤ 140737488355328 := by first | omega | (simp only []; omega)) :
    WrA P ρ σ Γ (.call { callee := .builtin .append, args := #[x, y], argTypes := #[T, T] }) ty (fun v' σ' Δ => ∃ p c, v' = .slice p (n + 1) c ∧ σ = σ' ∧ Δ = lst e re.size (.slice p (n + 1) c) (n + 1) (xs ++ news) :: Γ') noPA := .append1 hT hk hE hz hs hy hg s hl h1 h63 hb
theorem DA.cl {e : Exit} {Δ : List HP} (k : DA K e ρ σ Δ) (h : Γ = Δ := by conv => lhs; dsimp only [List.cons_append, List.nil_append]) : DA K e ρ σ Γ := h ▸ k
section
variable {all : Array Oper} {rest : List Oper} {l : List Oper}
theorem XOA.cl {Δ : List HP} (k : XOA P N all l ρ σ Δ K) (h : Γ = Δ := by conv => lhs; dsimp only [List.cons_append, List.nil_append]) : XOA P N all l ρ σ Γ K := h ▸ k
theorem XOA.wq {p : Prop} {inst : Decidable p} {d : Option Nat} {op : Op} {pos : String} {af : Array Edge} {j : Nat} {b : Bool} {t : Nat} (hj : (all[j]?).bind (·.dst) = some t) (hb : ρ t = .bool (@decide p inst))
    (k : XOA P N all (⟨d, op, ty, pos, af, none⟩ :: rest) ρ σ Γ K) (hp : @decide p inst = b := by first | exact (rfl : decide _ = true) | exact (rfl : decide _ = false) | (refine decide_eq_true ?_; assumption) | (refine decide_eq_false ?_; assumption) | (refine decide_eq_true ?_; omega) | (refine decide_eq_false ?_; omega)) : XOA P N all (⟨d, op, ty, pos, af, some (j, b)⟩ :: rest) ρ σ Γ K := .wantedP hj hb hp k
end
section
variable {ops : Array Oper} {σ0 : PH} {Γ0 : List HP} {z : List Nat} {i : Nat} {pl : List (Nat × Kd)} {op : Op} {pos : String} {af : Array Edge} {g : Option (Nat × Bool)}
theorem XPA.cl {Δ : List HP} (k : XPA P N ops σ0 Γ0 z pl ρ σ Δ K) (h : Γ = Δ := by conv => lhs; dsimp only [List.cons_append, List.nil_append]) : XPA P N ops σ0 Γ0 z pl ρ σ Γ K := h ▸ k
theorem XPA.rdG {d : Nat} {v : Value} (hi : ops[i]? = some ⟨some d, op, ty, pos, af, g⟩) (hd : Nat.blt d N = true) (hr : Rd P ρ (Ho σ0 Γ0) op ty v) (k : XPA P N ops σ0 Γ0 z pl (upd ρ d v) σ Γ K) (hg : Gd ops ρ g true := by first | exact Gd.free | exact Gd.isB rfl rfl rfl | (apply Gd.isQ; rfl; rfl; exact (by first | exact (rfl : decide _ = true) | exact (rfl : decide _ = false) | (refine decide_eq_true ?_; assumption) | (refine decide_eq_false ?_; assumption) | (refine decide_eq_true ?_; omega) | (refine decide_eq_false ?_; omega)); rfl)) : XPA P N ops σ0 Γ0 z ((i, .rd) :: pl) ρ σ Γ K := .rd hi hd hg hr k
theorem XPA.puG {d : Nat} {v : Value} (hi : ops[i]? = some ⟨some d, op, ty, pos, af, g⟩) (hd : Nat.blt d N = true) (hr : Rd P ρ (fun _ => True) op ty v) (k : XPA P N ops σ0 Γ0 z pl (upd ρ d v) σ Γ K) (hg : Gd ops ρ g true := by first | exact Gd.free | exact Gd.isB rfl rfl rfl | (apply Gd.isQ; rfl; rfl; exact (by first | exact (rfl : decide _ = true) | exact (rfl : decide _ = false) | (refine decide_eq_true ?_; assumption) | (refine decide_eq_false ?_; assumption) | (refine decide_eq_true ?_; omega) | (refine decide_eq_false ?_; omega)); rfl)) : XPA P N ops σ0 Γ0 z ((i, .pu) :: pl) ρ σ Γ K := .pu hi hd hg hr k
theorem XPA.offG {d : Nat} (hi : ops[i]? = some ⟨some d, op, ty, pos, af, g⟩) (hd : Nat.blt d N = true) (k : XPA P N ops σ0 Γ0 z pl (upd ρ d undef) σ Γ K) (hg : Gd ops ρ g false := by first | exact Gd.isB rfl rfl rfl | exact Gd.un rfl rfl | (apply Gd.isQ; rfl; rfl; exact (by first | exact (rfl : decide _ = true) | exact (rfl : decide _ = false) | (refine decide_eq_true ?_; assumption) | (refine decide_eq_false ?_; assumption) | (refine decide_eq_true ?_; omega) | (refine decide_eq_false ?_; omega)); rfl)) : XPA P N ops σ0 Γ0 z ((i, .rd) :: pl) ρ σ Γ K := .off hi hd hg k
theorem XPA.puOffG {d : Nat} (hi : ops[i]? = some ⟨some d, op, ty, pos, af, g⟩) (hd : Nat.blt d N = true) (k : XPA P N ops σ0 Γ0 z pl (upd ρ d undef) σ Γ K) (hg : Gd ops ρ g false := by first | exact Gd.isB rfl rfl rfl | exact Gd.un rfl rfl | (apply Gd.isQ; rfl; rfl; exact (by first | exact (rfl : decide _ = true) | exact (rfl : decide _ = false) | (refine decide_eq_true ?_; assumption) | (refine decide_eq_false ?_; assumption) | (refine decide_eq_true ?_; omega) | (refine decide_eq_false ?_; omega)); rfl)) : XPA P N ops σ0 Γ0 z ((i, .pu) :: pl) ρ σ Γ K := .puOff hi hd hg k
end
/-! the same, short -/
section
variable {all : Array Oper} {rest : List Oper} {l : List Oper} {d : Nat} {dd : Option Nat} {op : Op} {pos : String} {af : Array Edge} {j t : Nat} {b c : Bool} {p : Prop} {inst : Decidable p}
/-- A guarded operation that is wanted. -/
theorem zG (k : XOA P N all (⟨dd, op, ty, pos, af, none⟩ :: rest) ρ σ Γ K) (hj : (all[j]?).bind (·.dst) = some t := by exact rfl) (hb : ρ t = .bool c := by exact rfl) (hc : c = b := by first | exact rfl | exact (by first | exact (rfl : decide _ = true) | exact (rfl : decide _ = false) | (refine decide_eq_true ?_; assumption) | (refine decide_eq_false ?_; assumption) | (refine decide_eq_true ?_; omega) | (refine decide_eq_false ?_; omega))) : XOA P N all (⟨dd, op, ty, pos, af, some (j, b)⟩ :: rest) ρ σ Γ K := .wanted hj (hc ▸ hb) k
def Off (v : Value) (b : Bool) : Prop := v = undef ∨ ∃ c, v = .bool c ∧ c = !b
/-- A guarded operation that is not wanted. -/
theorem zH (k : XOA P N all rest (upd ρ d undef) σ Γ K) (hd : Nat.blt d N = true := by exact rfl) (hj : (all[j]?).bind (·.dst) = some t := by exact rfl) (hb : Off (ρ t) b := by first | exact Or.inr ⟨_, rfl, rfl⟩ | exact Or.inl rfl | exact Or.inr ⟨_, rfl, (by first | exact (rfl : decide _ = true) | exact (rfl : decide _ = false) | (refine decide_eq_true ?_; assumption) | (refine decide_eq_false ?_; assumption) | (refine decide_eq_true ?_; omega) | (refine decide_eq_false ?_; omega))⟩) : XOA P N all (⟨some d, op, ty, pos, af, some (j, b)⟩ :: rest) ρ σ Γ K := by
  rcases hb with h | ⟨c, h, rfl⟩
  · exact .unwantedU hd hj h k
  · exact .unwanted hd hj h (by cases b <;> rfl) k
end
section
variable {S : Heap → Prop} {op : Op}
theorem zL {Γ' : List HP} {R : HP} (s : Sel Γ R Γ' := by ((repeat (first | with_reducible exact Sel.head | apply Sel.tail)); (first | done | fail))) : Sel Γ R Γ' := s
theorem zM {l : List (Nat × Value)} (h : Mat ρ l := by (repeat (first | exact trivial | refine ⟨rfl, ?_⟩ | refine ⟨Eq.trans rfl (congrArg Value.bool hmat.symm), ?_⟩)); (first | done | fail)) : Mat ρ l := h
theorem zP {v : Value} (h : Rd P ρ S op ty v := by first | exact Rd.pT rfl | exact Rd.pF rfl | exact Rd.pP rfl) : Rd P ρ S op ty v := h
theorem zI {v : Value} (h : Rd P ρ S op ty v := by first | exact Rd.adi rfl rfl | exact Rd.add rfl rfl) : Rd P ρ S op ty v := h
theorem zJ {v : Value} (h : Rd P ρ S op ty v := by first | exact Rd.notp rfl | exact Rd.not rfl) : Rd P ρ S op ty v := h
theorem zD {Δ : List HP} (h : Ent Γ Δ := by (repeat (first | exact Ent.all _ | (apply Ent.take; focus (first | ((repeat (first | with_reducible exact Sel.head | apply Sel.tail)); done) | ((repeat (first | exact Sel.head | apply Sel.tail)); done))) | apply Ent.takeNil | apply Ent.takeEmp)); (first | done | fail)) : Ent Γ Δ := h
theorem zY {b c : Bool} (h : b = c := by first | rfl | exact (by first | exact (rfl : decide _ = true) | exact (rfl : decide _ = false) | (refine decide_eq_true ?_; assumption) | (refine decide_eq_false ?_; assumption) | (refine decide_eq_true ?_; omega) | (refine decide_eq_false ?_; omega))) : b = c := h
end
abbrev zR := @XA.region
abbrev zN := @XOA.nil
abbrev zS := @XA.seq
abbrev zT := @DA.thn_normal
abbrev zO := @XOA.rd
section
variable {all : Array Oper} {rest : List Oper} {d : Nat} {pos : String} {af : Array Edge} {v : Value}
theorem zA {x : Operand} (hd : Nat.blt d N = true) (k : XOA P N all rest (upd ρ d v) σ Γ K) (hv : ev ρ x = v := by with_reducible (conv => lhs; whnf)) : XOA P N all (⟨some d, .move x, ty, pos, af, none⟩ :: rest) ρ σ Γ K := XOA.rd hd (.move hv) k
theorem zB {T : TypeId} {x : Operand} {r : Ty} {g o : Nat} (hd : Nat.blt d N = true) (hx : ev ρ x = .pointer (some ⟨g, o, none⟩)) (hT : tyOf P T = some r) (hk : r.k.agg = false) (k : XOA P N all rest (upd ρ d v) σ Γ K) (hc : AtC (Ho σ Γ) g o v := by first | (exact AtC.blk (by ((repeat (first | with_reducible exact Sel.head | apply Sel.tail)); (first | done | fail))) (by first | rfl | assumption)) | (exact AtC.per (by first | assumption)) | (exact AtC.lst (by ((repeat (first | with_reducible exact Sel.head | apply Sel.tail)); (first | done | fail))) (by first | rfl | assumption))) : XOA P N all (⟨some d, .load T x, ty, pos, af, none⟩ :: rest) ρ σ Γ K := XOA.rd hd (Rd.ldC hx hT hk hc) k
theorem zV {T : TypeId} {x : Operand} {f g o n m : Nat} {r : Ty} {fs : List (TypeId × Nat)} {ft : TypeId} {r' : Ty} (hd : Nat.blt d N = true) (hx : ev ρ x = .pointer (some ⟨g, o, none⟩)) (k : XOA P N all rest (upd ρ d (.pointer (some ⟨g, m, none⟩))) σ Γ K) (hT : tyOf P T = some r := by exact tyrow rfl) (hk : r.k = .struct fs := by rfl) (hf : fs[f]? = some (ft, n) := by rfl) (hft : tyOf P ft = some r' := by exact tyrow rfl) (hz : Nat.beq r'.size 0 = false := by rfl)
    (ho : o + n = m := by first | (conv => lhs; simp only [Nat.reduceAdd, Nat.zero_add, Nat.add_zero, Nat.reduceMul, Nat.mul_one, Int.toNat_natCast, Int.reduceToNat, Nat.zero_mul]) | rfl) : XOA P N all (⟨some d, .fieldAddr T x f, ty, pos, af, none⟩ :: rest) ρ σ Γ K := XOA.rd hd (Rd.fA hx hT hk hf hft hz ho) k
end
theorem zE {Δ : List HP} (he : Ent Γ Δ := by (repeat (first | exact Ent.nil _ | (apply Ent.sel; focus (first | ((repeat (first | with_reducible exact Sel.head | apply Sel.tail)); done) | ((repeat (first | exact Sel.head | apply Sel.tail)); done))) | apply Ent.selNil | apply Ent.selEmp)); (first | done | fail)) : Ent Γ Δ := he
/-- What stays in a region: what is read. -/
theorem stays {σ0 σ' : PH} {Γ' Γ0 : List HP} {J : Prop} (k : J) (hs : σ0.sub σ' := by first | exact PH.sub.refl _ | assumption | (refine PH.sub.trans ?_ (by assumption); assumption)) (he : Ent Γ' Γ0 := by (repeat (first | exact Ent.nil _ | (apply Ent.sel; focus (first | ((repeat (first | with_reducible exact Sel.head | apply Sel.tail)); done) | ((repeat (first | exact Sel.head | apply Sel.tail)); done))) | apply Ent.selNil | apply Ent.selEmp)); (first | done | fail)) : (σ0.sub σ' ∧ Ent Γ' Γ0) ∧ J := ⟨⟨hs, he⟩, k⟩
end
end X
end Go.Proofs.YthefnnkmpcgcmaaGreatDoor

namespace Go.Proofs.YthefnnkmpcgcmaaGreatDoor
namespace X
open Go
variable {P : Program} {N : Nat} {ρ : Env} {h : Heap} {K : Kont} {ops : Array Oper} {S : Heap → Prop} {z : List Nat}
end X
namespace X
variable {P : Program} {N : Nat} {ρ : Env} {σ : PH} {Γ : List HP} {K : KA} {ops : Array Oper} {σ0 : PH} {Γ0 : List HP} {z : List Nat}
/-- What comes behind a piece of code is proved once. -/
theorem XA.cut {c : Code} (M : Env → PH → List HP → Prop) (hx : XA P N c ρ σ Γ (thnA M K)) (hk : ∀ ρ' σ' Γ', M ρ' σ' Γ' → DA K .normal ρ' σ' Γ') : XA P N c ρ σ Γ K := by
  refine ⟨fun f h hh => X.mono (hx.out f h hh) ?_⟩
  rintro e ρ' h' ⟨σ', Γ', a, b⟩
  cases e with
  | normal => exact (hk _ _ _ a).out f h' b
  | _ => exact ⟨σ', Γ', a, b⟩
/-- Ways that meet again: what they leave is told by a state x. -/
theorem XA.join {c : Code} {τ : Type} (L : List (Nat × Nat)) (E : τ → List (Nat × Value)) (I : τ → PH → List HP → Prop) (hx : XA P N c ρ σ Γ (thnA (fun ρ' σ' Γ' => Keep L ρ ρ' ∧ ∃ x Δ, Mat ρ' (E x) ∧ Ent Γ' Δ ∧ I x σ' Δ) K))
    (hk : ∀ x δ σ' Δ, I x σ' Δ → DA K .normal ((E x).foldl (fun r p => upd r p.1 p.2) (ovr L ρ δ)) σ' Δ) : XA P N c ρ σ Γ K := by
  refine XA.cut _ hx ?_
  rintro ρ' σ' Γ' ⟨hK, x, Δ, hM, hE, hI⟩
  have := hk x ρ' σ' Δ hI
  rw [ovr_eq hK, mat_self hM] at this
  exact DA.ent hE this
end X
end Go.Proofs.YthefnnkmpcgcmaaGreatDoor

namespace Go.Proofs.YthefnnkmpcgcmaaGreatDoor
namespace X
open Go
section
variable {P : Program} {ρ : Env} {S : Heap → Prop} {ty : TypeId}
theorem Rd.sliceToN {T : TypeId} {x y : Operand} {r re : Ty} {e len cap : Nat} {a : Option Addr} {i : Nat} {kk : IntKind} (hT : tyOf P T = some r) (hk : r.k = .slice e) (hE : tyOf P e = some re) (hx : ev ρ x = .slice a len cap) (hy : ev ρ y = .int kk i) (hi : i ≤ cap) : Rd P ρ S (.slice T x none (some y) none) ty (.slice a i cap) := by
  have := Rd.sliceTo (P := P) (S := S) (ty := ty) hT hk hE hx hy ⟨by omega, by omega⟩
  simpa using this
end
end X
end Go.Proofs.YthefnnkmpcgcmaaGreatDoor

namespace Go.Proofs.YthefnnkmpcgcmaaGreatDoor
namespace X
open Go
variable {P : Program} {N : Nat} {ρ : Env} {σ : PH} {Γ : List HP} {K : KA}
theorem upon_mono2 {o : Oper} {a : Act} {next next' : Act → World → Prop} {Q Q' : Exit → Act → World → Prop} (hn : ∀ a w, next a w → next' a w) (hp : ∀ c a w, Q (.panic c) a w → Q' (.panic c) a w) (ho : LetsOut Q → LetsOut Q') : ∀ {r : Result Next}, o.upon P a next Q r → o.upon P a next' Q' r := by
  intro r h
  unfold Oper.upon at h ⊢
  split at h
  · exact hn _ _ h
  · exact hn _ _ h
  · exact hn _ _ h
  · refine Calls.mono h ?_
    rintro e w' he
    cases e with
    | returned v => exact hn _ _ he
    | panicked c => exact hp _ _ _ he
    | outgrown => exact ho he
  · exact Rows.mono h (fun v w' hv => hn _ _ hv)
  · exact hp _ _ _ h
  · exact h.elim
theorem XO.append {all : Array Oper} {l2 : List Oper} {l1 : List Oper} {h : Heap} {K : Kont} (hx : XO P N all l1 ρ h (thn (fun ρ h => XO P N all l2 ρ h K) K)) : XO P N all (l1 ++ l2) ρ h K := by
  refine ⟨fun w0 a w hs hh he => ?_⟩
  have h0 := hx.out w0 a w hs hh he
  have key : ∀ (l1 : List Oper) (a1 : Act) (w1 : World), wpList P all (Post w0 a.defers N (thn (fun ρ h => XO P N all l2 ρ h K) K)) l1 a1 w1 → wpList P all (Post w0 a.defers N K) (l1 ++ l2) a1 w1 := by
    intro l1
    induction l1 with
    | nil =>
      intro a1 w1 h1
      obtain ⟨e1, e2, ρ', e3, e4⟩ : Post w0 a.defers N (thn (fun ρ h => XO P N all l2 ρ h K) K) .normal a1 w1 := h1
      have h2 : XO P N all l2 ρ' w1.heap K := e4
      have := h2.out w0 a1 w1 e2 rfl e3
      rw [e1] at this
      exact this
    | cons o l ih =>
      intro a1 w1 h1
      simp only [List.cons_append]
      unfold wpList at h1 ⊢
      split
      · rename_i hw
        rw [if_pos hw] at h1
        have ho : LetsOut (Post w0 a.defers N (thn (fun ρ h => XO P N all l2 ρ h K) K)) → LetsOut (Post w0 a.defers N K) := fun ⟨a2, w2, q⟩ => ⟨a2, w2, q⟩
        refine h1.imp (fun hq => upon_mono2 (fun a' w' => ih a' w') (fun c a' w' q => q) ho hq) (fun hq => ⟨hq.1, ho hq.2⟩)
      · rename_i hw
        rw [if_neg hw] at h1
        exact ih _ _ h1
  exact key l1 a w h0
/-- Ways that meet again inside of a region. -/
theorem XOA.join {all : Array Oper} {l l1 l2 : List Oper} {τ : Type} (hl : l = l1 ++ l2) (L : List (Nat × Nat)) (E : τ → List (Nat × Value)) (I : τ → PH → List HP → Prop)
    (hx : XOA P N all l1 ρ σ Γ (thnA (fun ρ' σ' Γ' => Keep L ρ ρ' ∧ ∃ x Δ, Mat ρ' (E x) ∧ Ent Γ' Δ ∧ I x σ' Δ) K))
    (hk : ∀ x δ σ' Δ, I x σ' Δ → XOA P N all l2 ((E x).foldl (fun r p => upd r p.1 p.2) (ovr L ρ δ)) σ' Δ K) : XOA P N all l ρ σ Γ K := by
  subst hl
  refine ⟨fun f h hh => XO.append ?_⟩
  have h0 := hx.out f h hh
  refine ⟨fun w0 a w hs hw he => ?_⟩
  have h1 := h0.out w0 a w hs hw he
  have key : ∀ (l : List Oper) (a1 : Act) (w1 : World), wpList P all (Post w0 a.defers N (KF f (thnA (fun ρ' σ' Γ' => Keep L ρ ρ' ∧ ∃ x Δ, Mat ρ' (E x) ∧ Ent Γ' Δ ∧ I x σ' Δ) K))) l a1 w1 → wpList P all (Post w0 a.defers N (thn (fun ρ h => XO P N all l2 ρ h (KF f K)) (KF f K))) l a1 w1 := by
    intro l
    induction l with
    | nil =>
      rintro a1 w1 ⟨e1, e2, ρ', e3, σ', Γ', ⟨k1, x, Δ, k2, k3, k4⟩, e5⟩
      refine ⟨e1, e2, ρ', e3, ?_⟩
      have := (hk x ρ' σ' Δ k4).out f w1.heap (e5.ent k3)
      rw [ovr_eq k1, mat_self k2] at this
      exact this
    | cons o l ih =>
      intro a1 w1 h1
      unfold wpList at h1 ⊢
      have ho : LetsOut (Post w0 a.defers N (KF f (thnA (fun ρ' σ' Γ' => Keep L ρ ρ' ∧ ∃ x Δ, Mat ρ' (E x) ∧ Ent Γ' Δ ∧ I x σ' Δ) K))) → LetsOut (Post w0 a.defers N (thn (fun ρ h => XO P N all l2 ρ h (KF f K)) (KF f K))) := fun ⟨a2, w2, q⟩ => ⟨a2, w2, q⟩
      split
      · rename_i hw
        rw [if_pos hw] at h1
        exact h1.imp (fun hq => upon_mono2 (fun a' w' => ih a' w') (fun c a' w' q => q) ho hq) (fun hq => ⟨hq.1, ho hq.2⟩)
      · rename_i hw
        rw [if_neg hw] at h1
        exact ih _ _ h1
  exact key l1 a w h1
end X
end Go.Proofs.YthefnnkmpcgcmaaGreatDoor

namespace Go.Proofs.YthefnnkmpcgcmaaGreatDoor
open Go X Go.ChangeShapes Go.WideShapes Go.ChangeAt Go.RowKit
variable {H : Type} {enc : TypeId × Value → H} {P : Program}
/-- Arguments read as they did. -/
theorem all_stay (hl : laidOutB P = true) {W W' : World} (hb : Below W.heap.size W W') : ∀ (ts : List TypeId) {vs : List Value} {ds : List (DataW H)} {ps : List MemPlace}, (∀ t ∈ ts, P.readableRec t = true ∧ t < P.types.size) →
    DataW.TrodAll enc P W 0 (fun _ => true) true ts vs ds ps → (∀ p ∈ ps, p.block < W.heap.size) → DataW.TrodAll enc P W' 0 (fun b => decide (b < W.heap.size)) true ts vs ds ps
  | [], _, _, _, _, h, _ => by
    obtain ⟨rfl, rfl, rfl⟩ := trodAll_nil h
    exact trodAll_mk0
  | t :: ts, _, _, _, ht, h, hp => by
    obtain ⟨v, vs', d, ds', p, q, rfl, rfl, rfl, h1, h2⟩ := trodAll_cons h
    have ht1 := ht t (by simp)
    exact ⟨p, q, Below.trod hl ht1.1 ht1.2 h1 hb (fun x hx => hp x (by simp [hx])), all_stay hl hb ts (fun t' ht' => ht t' (by simp [ht'])) h2 (fun x hx => hp x (by simp [hx])), rfl⟩
theorem below_of {W W' : World} (hs : Same W W') (hx : Ext W.heap W'.heap) : Below W.heap.size W W' := ⟨hs.os, hs.tape, hs.output, hx.size, hx.get⟩
/-- It returns true and what it reads stays. -/
theorem post_true {fid : FuncId} {f : Func} {s : ChangeSpec} {W : World} {args : Array Value} {ds gs : List (DataW H)} {before : List MemPlace} {tb : TypeId} (hl : laidOutB P = true)
    (hts : (f.params.toList.all fun t => P.readableRec t && decide (t < P.types.size)) = true) (hv : s.vars = []) (hrt : f.resultTypes = #[tb]) (hub : P.underlying tb = some .bool) (hfn : s.fn H (ds ++ gs) = { results := [.lit (.bool true)], args := ds })
    (hW : DataW.Whole enc P f.params.toList s.vars false W args.toList ds gs before) (hc : CallsX P fid args W.heap (Ret fun v h' => v = .bool true ∧ Ext W.heap h')) :
    Calls P fid args W fun e W' => ∃ v, e = .returned v ∧ s.post enc P f false true false false W args v W' := by
  refine (hc.2 W rfl).mono ?_
  rintro e W' ⟨hs, hr⟩
  cases e with
  | returned v =>
    obtain ⟨rfl, hx⟩ := hr
    have hb := below_of hs hx
    have hlt := hW.lt
    have hW0 := hW
    obtain ⟨p, q, hA, hV, rfl, -, -⟩ := hW
    rw [hv] at hV
    obtain ⟨rfl, rfl⟩ := trodVars_none hV
    refine ⟨_, rfl, ds, [], p ++ [], [], p, [], hW0, ?_, ?_, ?_, hb.frame _, fun e => by cases e⟩
    · rw [hfn, hrt]; exact trodAll_mk1 (shut_bool hub true)
    · rw [hfn]
      refine all_stay hl hb _ ?_ hA (fun x hx => hlt x (by simp [hx]))
      intro t ht
      have := List.all_eq_true.1 hts t ht
      simpa using this
    · rw [hfn, hv]; rfl
  | panicked c => exact hr.elim
  | outgrown => exact hr.elim
end Go.Proofs.YthefnnkmpcgcmaaGreatDoor

namespace Go.Proofs.YthefnnkmpcgcmaaGreatDoor
open Go X
namespace X
/-- How a thing of a kind stands in cells, and what of memory tells of it. -/
abbrev RT (α : Type) := PH → List Value → α → Prop
/-- What is read at a type is a thing of a kind. -/
structure Dec {α : Type} (P : Program) (t : TypeId) (R : RT α) : Prop where
  out : ∀ {H : Type} {enc : TypeId × Value → H} {w : World} {fuel : Nat} {cs : List Value} {x : DataW H × List MemPlace}, DataW.trod enc P w 0 (fun _ => true) true fuel t cs = some x → ∃ y, R (ofHeap w.heap) cs y
variable {P : Program} {t e : TypeId}
theorem trod_pos {H : Type} {enc : TypeId × Value → H} {w : World} {base : Nat} {spare : Nat → Bool} {held : Bool} {fuel : Nat} {cs : List Value} {x : DataW H × List MemPlace} (h : DataW.trod enc P w base spare held fuel t cs = some x) : ∃ k, fuel = k + 1 := by
  cases fuel with
  | zero => simp [DataW.trod] at h
  | succ k => exact ⟨k, rfl⟩
def rInt (k : IntKind) : RT Int := fun _ cs n => cs = [.int k n] ∧ k.min ≤ n ∧ n ≤ k.max
theorem und_of {r : Ty} (hT : tyOf P t = some r) : ∃ d, P.underlying t = some d ∧ kindOf d = r.k ∧ P.cellsOf t = r.size := by
  obtain ⟨d, i, z, e1, e2, e3, e4, -⟩ := tyOf_spec hT
  exact ⟨d, e1, e2, by simp [Program.cellsOf, e3, e4]⟩
theorem Dec.int {r : Ty} {k : IntKind} (hT : tyOf P t = some r) (hk : r.k = .int k) : Dec P t (rInt k) := ⟨fun {H enc w fuel cs x} h => by
  obtain ⟨d, e1, e2, -⟩ := und_of hT
  rw [hk] at e2
  cases d <;> simp [kindOf] at e2
  subst e2
  obtain ⟨n, rfl⟩ := trod_pos h
  unfold DataW.trod at h
  rw [e1] at h
  dsimp only at h
  split at h <;> simp_all
  rename_i k' n' heq
  obtain ⟨⟨rfl, hw⟩, -⟩ := h
  obtain ⟨rfl, rfl⟩ := heq
  simp [Lit.wf] at hw
  exact ⟨n', rfl, hw.1, hw.2⟩⟩
/-- A list: of each element a row of s cells. -/
def PSl {α : Type} (s : Nat) (R : RT α) (σ : PH) (v : Value) (xs : List α) : Prop :=
  ∃ (p : Option Addr) (c : Nat) (rows : List (List Value)), v = .slice p xs.length c ∧ xs.length ≤ c ∧ c ≤ maxLen ∧ rows.length = xs.length ∧ (∀ row ∈ rows, row.length = s) ∧ (∀ (i : Nat) (row : List Value) (x : α), rows[i]? = some row → xs[i]? = some x → R σ row x) ∧ (0 < xs.length → ∃ g o, p = some ⟨g, o, none⟩ ∧ PRow σ g o rows.flatten)
theorem PSl.shape {α : Type} {s : Nat} {R : RT α} {σ : PH} {v : Value} {xs : List α} (h : PSl s R σ v xs) : ∃ p c, v = .slice p xs.length c ∧ xs.length ≤ c ∧ c ≤ maxLen := by
  obtain ⟨p, c, rows, h1, h2, h3, -⟩ := h; exact ⟨p, c, h1, h2, h3⟩
/-- Element k. -/
theorem PSl.at {α : Type} {s n c : Nat} {R : RT α} {σ : PH} {p : Option Addr} {xs : List α} (h : PSl s R σ (.slice p n c) xs) {k : Nat} {x : α} (hk : xs[k]? = some x) : ∃ g o row, p = some ⟨g, o, none⟩ ∧ R σ row x ∧ row.length = s ∧ PRow σ g (o + k * s) row := by
  obtain ⟨p', c', rows, h1, h2, h3, h4, h5, h6, h7⟩ := h
  simp only [Value.slice.injEq] at h1
  obtain ⟨rfl, rfl, rfl⟩ := h1
  have hlt := (List.getElem?_eq_some_iff.1 hk).1
  obtain ⟨g, o, rfl, hr⟩ := h7 (by omega)
  have hrk : rows[k]? = some rows[k] := List.getElem?_eq_getElem (by omega)
  have hl := h5 _ (List.mem_of_getElem? hrk)
  refine ⟨g, o, rows[k], rfl, h6 k _ x hrk hk, hl, hr.sub (j := k * s) ?_⟩
  have key : ∀ (rows : List (List Value)), (∀ row ∈ rows, row.length = s) → ∀ (k : Nat) (row : List Value), rows[k]? = some row → (rows.flatten.drop (k * s)).take row.length = row := by
    intro rows hr k row hk
    have := flat_row (fun r : List Value => r) s rows hr k row hk
    simpa [List.flatMap] using this
  exact key rows h5 k _ hrk
theorem PSl.mono {α : Type} {s : Nat} {R : RT α} {σ σ' : PH} {v : Value} {xs : List α} (hs : σ.sub σ') (hR : ∀ cs x, R σ cs x → R σ' cs x) (h : PSl s R σ v xs) : PSl s R σ' v xs := by
  obtain ⟨p, c, rows, h1, h2, h3, h4, h5, h6, h7⟩ := h
  exact ⟨p, c, rows, h1, h2, h3, h4, h5, fun i row x a b => hR _ _ (h6 i row x a b), fun hp => by obtain ⟨g, o, e, r⟩ := h7 hp; exact ⟨g, o, e, r.mono hs⟩⟩
theorem PSl.nil {α : Type} (s : Nat) (R : RT α) (σ : PH) : PSl s R σ (.slice none 0 0) [] := ⟨none, 0, [], rfl, Nat.le_refl _, by simp [maxLen], rfl, by simp, by simp, by simp⟩
/-- From what a law's function does to the statement. -/
theorem callsX_true {fid : FuncId} {args : Array Value} {h : Heap} (hc : CallsA P fid args (ofHeap h) [] (RetA fun v σ' _ => v = .bool true ∧ (ofHeap h).sub σ')) : CallsX P fid args h (Ret fun v h' => v = .bool true ∧ Ext h h') := by
  have hh : Holds (ofHeap h) [] PH.none h := ⟨PH.none, trivial, PH.none_le h, ofHeap_le h, PH.none_le h, (PH.none_dis _).symm, PH.none_dis _, PH.none_dis _⟩
  refine CallsX.mono (hc.2 PH.none h hh) ?_
  rintro e h' ⟨σ', Γ', hr, hh'⟩
  cases e with
  | returned v =>
    obtain ⟨rfl, hs⟩ := hr
    have hle := hs.le hh'.per
    refine ⟨rfl, ?_, fun k hk => ?_⟩
    · rcases Nat.lt_or_ge h'.size h.size with hl | hl
      · have := hle.lt (k := h'.size) (o := h[h'.size]) (by simp [ofHeap, hl])
        omega
      · exact hl
    · rw [Array.getElem?_eq_getElem hk]
      exact hle k _ (by simp [ofHeap, hk])
  | panicked c => exact hr
  | outgrown => exact hr
end X
end Go.Proofs.YthefnnkmpcgcmaaGreatDoor

namespace Go.Proofs.YthefnnkmpcgcmaaGreatDoor
open Go X Go.ChangeShapes Go.WideShapes Go.ChangeAt Go.RowKit
theorem Tryz.own : ownKnob Tryz.prog.godebug = none := by kernel_rfl
theorem Tryz.laidOut : laidOutB Tryz.prog = true := by kernel_rfl
namespace X
/-- An argument of one cell. -/
theorem one_cell {P : Program} {W : World} {r : Reach} {base : Nat} {t : TypeId} {v u : Value} {ty : Ty} (hT : tyOf P t = some ty) (hk : ty.k.agg = false) (hw : Value.okWide P W r base t v) (h : v.cells.toList = [u]) : v = u := by
  obtain ⟨d, e1, e2, -⟩ := und_of hT
  rw [← e2] at hk
  cases v with
  | agg cs =>
    exfalso
    unfold Value.okWide at hw
    rw [e1] at hw
    cases d <;> simp_all [kindOf, TK.agg, Cell.okWide, Cell.ok]
  | _ => simpa [Value.cells] using h
/-- What an argument of one cell is. -/
theorem Dec.one {α : Type} {P : Program} {W : World} {r : Reach} {base : Nat} {t : TypeId} {v : Value} {ty : Ty} {R : RT α} {H : Type} {enc : TypeId × Value → H} {d : DataW H} {ps : List MemPlace} (hd : Dec P t R) (hT : tyOf P t = some ty) (hk : ty.k.agg = false) (hw : Value.okWide P W r base t v)
    (h : DataW.Trod enc P W 0 (fun _ => true) true t v d ps) (h1 : ∀ y cs, R (ofHeap W.heap) cs y → ∃ u, cs = [u]) : ∃ y, R (ofHeap W.heap) [v] y := by
  obtain ⟨fuel, h⟩ := h
  obtain ⟨y, hy⟩ := hd.out h
  obtain ⟨u, hu⟩ := h1 y _ hy
  have := one_cell hT hk hw hu
  subst this
  rw [hu] at hy
  exact ⟨y, hy⟩
theorem rInt_one {k : IntKind} {σ : PH} : ∀ y cs, rInt k σ cs y → ∃ u, cs = [u] := fun _ _ h => ⟨_, h.1⟩
/-! structs -/
end X
end Go.Proofs.YthefnnkmpcgcmaaGreatDoor

namespace Go.Proofs.YthefnnkmpcgcmaaGreatDoor
namespace X
open Go
variable {P : Program} {N : Nat} {ρ : Env} {σ : PH} {Γ Γ' : List HP} {K : KA}
theorem ResA.five {fn : Func} {t1 t2 t3 t4 t5 : Tmp} {v1 v2 v3 v4 v5 : Value} (hf : fn.results = #[.tmp t1, .tmp t2, .tmp t3, .tmp t4, .tmp t5]) (h1 : ρ t1 = v1) (h2 : ρ t2 = v2) (h3 : ρ t3 = v3) (h4 : ρ t4 = v4) (h5 : ρ t5 = v5) : ResA P fn ρ σ Γ (.tuple #[v1, v2, v3, v4, v5]) := fun _ _ w a _ he => by
  have k1 := he.get t1; have k2 := he.get t2; have k3 := he.get t3; have k4 := he.get t4; have k5 := he.get t5
  simp [results, hf]; rw [← h1, ← h2, ← h3, ← h4, ← h5]; simp at k1 k2 k3 k4 k5; simp [k1, k2, k3, k4, k5]
theorem takeS {α : Type} {l : List α} {k : Nat} {x : α} (hk : l[k]? = some x) : l.take (k + 1) = l.take k ++ [x] := by rw [List.take_add_one, hk]; rfl
theorem flatS (rows : List (List Value)) (r : List Value) : (rows ++ [r]).flatten = rows.flatten ++ r := by simp
/-- A list of one's own, given for ever: its cells stay. -/
theorem lst_frz {e size n c : Nat} {p : Option Addr} {xs : List Value} : ∀ m, lst e size (.slice p n c) n xs m → ∃ _ : Unit, n ≤ c ∧ c ≤ maxLen ∧ xs.length = n * size ∧ (0 < n → ∃ g o, p = some ⟨g, o, none⟩ ∧ PRow m g o xs) := by
  rintro m ⟨h1, ⟨h2, rfl⟩ | ⟨g, cap, h2, cur, h3, h4, h5, h6, h7⟩⟩
  · simp only [Value.slice.injEq] at h2
    obtain ⟨rfl, -, rfl⟩ := h2
    exact ⟨(), Nat.le_refl _, by simp [maxLen], h1, fun h => absurd h (Nat.lt_irrefl _)⟩
  · simp only [Value.slice.injEq] at h2
    obtain ⟨rfl, -, rfl⟩ := h2
    exact ⟨(), h4, h5, h1, fun _ => ⟨g, 0, rfl, PRow.ofBlk h3 (by rw [h1]; simpa using h7)⟩⟩
theorem lst_frz_mono {n c k : Nat} {p : Option Addr} {xs : List Value} : ∀ (_ : Unit) (m m' : PH), (n ≤ c ∧ c ≤ maxLen ∧ xs.length = k ∧ (0 < n → ∃ g o, p = some ⟨g, o, none⟩ ∧ PRow m g o xs)) → m.sub m' → (n ≤ c ∧ c ≤ maxLen ∧ xs.length = k ∧ (0 < n → ∃ g o, p = some ⟨g, o, none⟩ ∧ PRow m' g o xs)) :=
  fun _ _ _ ⟨h1, h2, h3, h4⟩ s => ⟨h1, h2, h3, fun h => by obtain ⟨g, o, e, r⟩ := h4 h; exact ⟨g, o, e, r.mono s⟩⟩
/-- Rows of cells, each of a thing. -/
structure Rows_ {α : Type} (s : Nat) (R : RT α) (σ : PH) (rows : List (List Value)) (xs : List α) : Prop where
  len : rows.length = xs.length
  size : ∀ row ∈ rows, row.length = s
  row : ∀ (i : Nat) (row : List Value) (x : α), rows[i]? = some row → xs[i]? = some x → R σ row x
theorem Rows_.nil {α : Type} (s : Nat) (R : RT α) (σ : PH) : Rows_ s R σ [] [] := ⟨rfl, by simp, by simp⟩
theorem Rows_.mono {α : Type} {s : Nat} {R : RT α} {σ σ' : PH} {rows : List (List Value)} {xs : List α} (h : Rows_ s R σ rows xs) (hR : ∀ cs x, R σ cs x → R σ' cs x) : Rows_ s R σ' rows xs := ⟨h.len, h.size, fun i row x a b => hR _ _ (h.row i row x a b)⟩
theorem Rows_.snoc {α : Type} {s : Nat} {R : RT α} {σ : PH} {rows : List (List Value)} {xs : List α} (h : Rows_ s R σ rows xs) {row : List Value} {x : α} (hl : row.length = s) (hr : R σ row x) : Rows_ s R σ (rows ++ [row]) (xs ++ [x]) := by
  refine ⟨by simp [h.len], fun r hm => ?_, fun i r y a b => ?_⟩
  · simp only [List.mem_append, List.mem_singleton] at hm
    rcases hm with hm | rfl
    · exact h.size r hm
    · exact hl
  · rcases Nat.lt_or_ge i rows.length with hi | hi
    · rw [List.getElem?_append_left hi] at a
      rw [List.getElem?_append_left (by rw [← h.len]; exact hi)] at b
      exact h.row i r y a b
    · rw [List.getElem?_append_right hi] at a
      rw [List.getElem?_append_right (by rw [← h.len]; exact hi), ← h.len] at b
      cases hq : i - rows.length with
      | zero => rw [hq] at a b; simp at a b; subst a; subst b; exact hr
      | succ q => rw [hq] at a; simp at a
theorem Rows_.psl {α : Type} {s n c k : Nat} {R : RT α} {σ : PH} {rows : List (List Value)} {xs : List α} {p : Option Addr} (h : Rows_ s R σ rows xs) (hn : n = xs.length) (hf : n ≤ c ∧ c ≤ maxLen ∧ rows.flatten.length = k ∧ (0 < n → ∃ g o, p = some ⟨g, o, none⟩ ∧ PRow σ g o rows.flatten)) : PSl s R σ (.slice p n c) xs := by
  subst hn
  exact ⟨p, c, rows, rfl, hf.1, hf.2.1, h.len, h.size, h.row, hf.2.2.2⟩
end X
end Go.Proofs.YthefnnkmpcgcmaaGreatDoor

namespace Go.Proofs.YthefnnkmpcgcmaaGreatDoor
open Go X
inductive Ex where
  | mk (op v n : Int) (l : List Ex)
inductive St where
  | mk (op v : Int) (e f : Ex) (body els : List St)
structure Va where
  name : ByteArray
  size : Int
  deriving DecidableEq
structure Pr where
  vars : List Va
  body : List St
namespace Ex
def op : Ex → Int | .mk o _ _ _ => o
def v : Ex → Int | .mk _ v _ _ => v
def n : Ex → Int | .mk _ _ n _ => n
def l : Ex → List Ex | .mk _ _ _ l => l
theorem ind {P : Ex → Prop} (h : ∀ op v n l, (∀ x ∈ l, P x) → P (.mk op v n l)) : ∀ x, P x
  | .mk op v n l => h op v n l (fun x _ => ind h x)
end Ex
namespace St
def op : St → Int | .mk o _ _ _ _ _ => o
def v : St → Int | .mk _ v _ _ _ _ => v
def e : St → Ex | .mk _ _ e _ _ _ => e
def f : St → Ex | .mk _ _ _ f _ _ => f
def body : St → List St | .mk _ _ _ _ b _ => b
def els : St → List St | .mk _ _ _ _ _ l => l
theorem ind {P : St → Prop} (h : ∀ op v e f body els, (∀ x ∈ body, P x) → (∀ x ∈ els, P x) → P (.mk op v e f body els)) : ∀ x, P x
  | .mk op v e f body els => h op v e f body els (fun x _ => ind h x) (fun x _ => ind h x)
end St
/-- In 64 bits. -/
def i64ok (n : Int) : Prop := -9223372036854775808 ≤ n ∧ n ≤ 9223372036854775807
/-- An expression in memory: its cells. -/
inductive ExAt (σ : PH) : List Value → Ex → Prop
  | mk {op v n : Int} {l : List Ex} {p : Option Addr} {c : Nat} (rows : List (List Value)) (ho : i64ok op) (hv : i64ok v) (hn : i64ok n) (h1 : l.length ≤ c) (h2 : c ≤ maxLen) (h3 : rows.length = l.length) (h4 : ∀ row ∈ rows, row.length = 4)
      (h5 : ∀ (i : Nat) (row : List Value) (x : Ex), rows[i]? = some row → l[i]? = some x → ExAt σ row x) (h6 : 0 < l.length → ∃ g o, p = some ⟨g, o, none⟩ ∧ PRow σ g o rows.flatten) :
      ExAt σ [i64 op, i64 v, i64 n, .slice p l.length c] (.mk op v n l)
inductive StAt (σ : PH) : List Value → St → Prop
  | mk {op v : Int} {e f : Ex} {body els : List St} {ce cf : List Value} {p q : Option Addr} {c d : Nat} (rows qows : List (List Value)) (ho : i64ok op) (hv : i64ok v) (he : ExAt σ ce e) (hf : ExAt σ cf f)
      (h1 : body.length ≤ c) (h2 : c ≤ maxLen) (h3 : rows.length = body.length) (h4 : ∀ row ∈ rows, row.length = 12)
      (h5 : ∀ (i : Nat) (row : List Value) (x : St), rows[i]? = some row → body[i]? = some x → StAt σ row x) (h6 : 0 < body.length → ∃ g o, p = some ⟨g, o, none⟩ ∧ PRow σ g o rows.flatten)
      (g1 : els.length ≤ d) (g2 : d ≤ maxLen) (g3 : qows.length = els.length) (g4 : ∀ row ∈ qows, row.length = 12)
      (g5 : ∀ (i : Nat) (row : List Value) (x : St), qows[i]? = some row → els[i]? = some x → StAt σ row x) (g6 : 0 < els.length → ∃ g o, q = some ⟨g, o, none⟩ ∧ PRow σ g o qows.flatten) :
      StAt σ (i64 op :: i64 v :: (ce ++ cf ++ [.slice p body.length c, .slice q els.length d])) (.mk op v e f body els)
theorem ExAt.inv {σ : PH} {cs : List Value} {x : Ex} (h : ExAt σ cs x) : ∃ p c, cs = [i64 x.op, i64 x.v, i64 x.n, .slice p x.l.length c] ∧ i64ok x.op ∧ i64ok x.v ∧ i64ok x.n ∧ PSl 4 ExAt σ (.slice p x.l.length c) x.l := by
  cases h with
  | mk rows ho hv hn h1 h2 h3 h4 h5 h6 => exact ⟨_, _, rfl, ho, hv, hn, _, _, rows, rfl, h1, h2, h3, h4, h5, h6⟩
theorem ExAt.of {σ : PH} {op v n : Int} {l : List Ex} {sl : Value} (ho : i64ok op) (hv : i64ok v) (hn : i64ok n) (h : PSl 4 ExAt σ sl l) : ExAt σ [i64 op, i64 v, i64 n, sl] (.mk op v n l) := by
  obtain ⟨p, c, rows, rfl, h1, h2, h3, h4, h5, h6⟩ := h
  exact .mk rows ho hv hn h1 h2 h3 h4 h5 h6
theorem ExAt.len {σ : PH} {cs : List Value} {x : Ex} (h : ExAt σ cs x) : cs.length = 4 := by cases h; rfl
theorem StAt.inv {σ : PH} {cs : List Value} {x : St} (h : StAt σ cs x) : ∃ ce cf p c q d, cs = i64 x.op :: i64 x.v :: (ce ++ cf ++ [.slice p x.body.length c, .slice q x.els.length d]) ∧ i64ok x.op ∧ i64ok x.v ∧ ExAt σ ce x.e ∧ ExAt σ cf x.f ∧ PSl 12 StAt σ (.slice p x.body.length c) x.body ∧ PSl 12 StAt σ (.slice q x.els.length d) x.els := by
  cases h with
  | mk rows qows ho hv he hf h1 h2 h3 h4 h5 h6 g1 g2 g3 g4 g5 g6 => exact ⟨_, _, _, _, _, _, rfl, ho, hv, he, hf, ⟨_, _, rows, rfl, h1, h2, h3, h4, h5, h6⟩, ⟨_, _, qows, rfl, g1, g2, g3, g4, g5, g6⟩⟩
theorem StAt.of {σ : PH} {op v : Int} {e f : Ex} {ce cf : List Value} {body els : List St} {sb se : Value} (ho : i64ok op) (hv : i64ok v) (he : ExAt σ ce e) (hf : ExAt σ cf f) (hb : PSl 12 StAt σ sb body) (hl : PSl 12 StAt σ se els) :
    StAt σ (i64 op :: i64 v :: (ce ++ cf ++ [sb, se])) (.mk op v e f body els) := by
  obtain ⟨p, c, rows, rfl, h1, h2, h3, h4, h5, h6⟩ := hb
  obtain ⟨q, d, qows, rfl, g1, g2, g3, g4, g5, g6⟩ := hl
  exact .mk rows qows ho hv he hf h1 h2 h3 h4 h5 h6 g1 g2 g3 g4 g5 g6
theorem StAt.len {σ : PH} {cs : List Value} {x : St} (h : StAt σ cs x) : cs.length = 12 := by
  obtain ⟨ce, cf, p, c, q, d, rfl, -, -, he, hf, -⟩ := h.inv
  simp [he.len, hf.len]
theorem ExAt.ones {σ : PH} {cs : List Value} {x : Ex} (h : ExAt σ cs x) : X.ones cs := by
  obtain ⟨p, c, rfl, -⟩ := h.inv; exact ones_lit rfl
theorem StAt.inv12 {σ : PH} {cs : List Value} {x : St} (h : StAt σ cs x) : ∃ pe de pf df p c q d, cs = [i64 x.op, i64 x.v, i64 x.e.op, i64 x.e.v, i64 x.e.n, .slice pe x.e.l.length de, i64 x.f.op, i64 x.f.v, i64 x.f.n, .slice pf x.f.l.length df, .slice p x.body.length c, .slice q x.els.length d] ∧
    i64ok x.op ∧ i64ok x.v ∧ ExAt σ [i64 x.e.op, i64 x.e.v, i64 x.e.n, .slice pe x.e.l.length de] x.e ∧ ExAt σ [i64 x.f.op, i64 x.f.v, i64 x.f.n, .slice pf x.f.l.length df] x.f ∧ PSl 12 StAt σ (.slice p x.body.length c) x.body ∧ PSl 12 StAt σ (.slice q x.els.length d) x.els := by
  obtain ⟨ce, cf, p, c, q, d, rfl, h1, h2, h3, h4, h5, h6⟩ := h.inv
  obtain ⟨pe, de, rfl, -⟩ := h3.inv
  obtain ⟨pf, df, rfl, -⟩ := h4.inv
  exact ⟨pe, de, pf, df, p, c, q, d, rfl, h1, h2, h3, h4, h5, h6⟩
theorem StAt.ones {σ : PH} {cs : List Value} {x : St} (h : StAt σ cs x) : X.ones cs := by
  obtain ⟨pe, de, pf, df, p, c, q, d, rfl, -⟩ := h.inv12; exact ones_lit rfl
theorem ExAt.mono {σ σ' : PH} (s : σ.sub σ') {cs : List Value} {x : Ex} (h : ExAt σ cs x) : ExAt σ' cs x := by
  induction h with
  | mk rows ho hv hn h1 h2 h3 h4 h5 h6 ih => exact .mk rows ho hv hn h1 h2 h3 h4 ih (fun hp => by obtain ⟨g, o, e, r⟩ := h6 hp; exact ⟨g, o, e, r.mono s⟩)
theorem StAt.mono {σ σ' : PH} (s : σ.sub σ') {cs : List Value} {x : St} (h : StAt σ cs x) : StAt σ' cs x := by
  induction h with
  | mk rows qows ho hv he hf h1 h2 h3 h4 h5 h6 g1 g2 g3 g4 g5 g6 ih jh =>
    exact .mk rows qows ho hv (he.mono s) (hf.mono s) h1 h2 h3 h4 ih (fun hp => by obtain ⟨g, o, e, r⟩ := h6 hp; exact ⟨g, o, e, r.mono s⟩) g1 g2 g3 g4 jh (fun hp => by obtain ⟨g, o, e, r⟩ := g6 hp; exact ⟨g, o, e, r.mono s⟩)
namespace X
/-- As Dec, by so much fuel at most. -/
structure DecN {α : Type} (n : Nat) (P : Program) (t : TypeId) (R : RT α) : Prop where
  out : ∀ {H : Type} {enc : TypeId × Value → H} {w : World} {fuel : Nat} {cs : List Value} {x : DataW H × List MemPlace}, fuel ≤ n → DataW.trod enc P w 0 (fun _ => true) true fuel t cs = some x → ∃ y, R (ofHeap w.heap) cs y
variable {P : Program} {t e : TypeId} {α : Type}
theorem Dec.n {R : RT α} (h : Dec P t R) (n : Nat) : DecN n P t R := ⟨fun _ hx => h.out hx⟩
theorem list2 {α : Type} : ∀ {l : List α}, l.length = 2 → ∃ a b, l = [a, b]
  | [a, b], _ => ⟨a, b, rfl⟩
end X
open X
def rVa : RT Va := fun _ cs v => cs = [.string v.name, i64 v.size] ∧ i64ok v.size ∧ v.name.size ≤ maxLen
/-- A program in memory: its two cells. -/
def PrAt (σ : PH) (cs : List Value) (p : Pr) : Prop := ∃ vs bs, cs = [vs, bs] ∧ PSl 2 rVa σ vs p.vars ∧ PSl 12 StAt σ bs p.body
theorem PrAt.mono {σ σ' : PH} (s : σ.sub σ') {cs : List Value} {p : Pr} (h : PrAt σ cs p) : PrAt σ' cs p := by
  obtain ⟨vs, bs, rfl, h1, h2⟩ := h
  exact ⟨vs, bs, rfl, h1.mono s (fun _ _ h => h), h2.mono s (fun _ _ h => h.mono s)⟩
end Go.Proofs.YthefnnkmpcgcmaaGreatDoor

namespace Go.Proofs.YthefnnkmpcgcmaaGreatDoor
namespace X
open Go
variable {P : Program} {ρ : Env} {S : Heap → Prop} {ty : TypeId}
/-- The byte at a place. -/
def byteAt (s : ByteArray) (i : Nat) : Nat := if h : i < s.size then (s[i]'h).toNat else 0
theorem byteAt_lt (s : ByteArray) (i : Nat) : byteAt s i < 256 := by
  unfold byteAt; split
  · exact UInt8.toNat_lt _
  · decide
theorem Rd.indexStr {T : TypeId} {x y : Operand} {r : Ty} {s : ByteArray} {i : Nat} {kk : IntKind} (hT : tyOf P T = some r) (hk : r.k = .string) (hx : ev ρ x = .string s) (hy : ev ρ y = .int kk i) (hi : i < s.size) : Rd P ρ S (.index T x y) ty (.int .u8 (byteAt s i)) := by
  refine .pure fun d pos af gd w => ?_
  obtain ⟨dd, ii, z, e1, e2, -⟩ := tyOf_spec hT
  rw [hk] at e2
  cases dd <;> simp [kindOf] at e2
  have h := run_index_string (P := P) w T s kk i e1
  rw [dif_pos ⟨by omega, by omega⟩] at h
  simp only [execOp, hx, hy, Sem.run_bind, h, Result.andThen_ok, Sem.run_pure, byteAt, hi, dif_pos, Int.toNat_natCast]
theorem str_eq (a b : ByteArray) : (a.toList == b.toList) = decide (a = b) := by
  rw [ByteArray.toList_eq, ByteArray.toList_eq]
  obtain ⟨⟨x⟩⟩ := a
  obtain ⟨⟨y⟩⟩ := b
  by_cases h : x = y
  · subst h; simp
  · simp [h]
theorem Rd.eqls {T T' : TypeId} {x y : Operand} {a b : ByteArray} (hx : ev ρ x = .string a) (hy : ev ρ y = .string b) : Rd P ρ S (.binOp .eql T x y T') ty (.bool (decide (a = b))) := by
  refine .pure fun d pos af gd w => ?_
  simp only [execOp, eqGuard, hx, hy, binOp, Op.stringOp, Sem.run_bind, str_eq]
  simp
theorem Rd.neqs {T T' : TypeId} {x y : Operand} {a b : ByteArray} (hx : ev ρ x = .string a) (hy : ev ρ y = .string b) : Rd P ρ S (.binOp .neq T x y T') ty (.bool (decide (a ≠ b))) := by
  refine .pure fun d pos af gd w => ?_
  simp only [execOp, eqGuard, hx, hy, binOp, Op.stringOp, Sem.run_bind, str_eq]
  by_cases h : a = b <;> simp [h]
/-- A variable. -/
def vav (v : Va) : Value := .agg [.string v.name, i64 v.size].toArray
theorem run_equal_var {a b : Va} (w : World) : (Op.equalIn 10000 58 (vav a) (vav b)).run Tryz.prog w = .ok (decide (a = b)) w := by
  have hT : tyOf Tryz.prog 9 = some _ := tyrow rfl
  have hI : tyOf Tryz.prog 3 = some _ := tyrow rfl
  obtain ⟨dd, ii, z, e1, e2, -⟩ := tyOf_spec hT
  obtain ⟨dd', ii', z', e1', e2', -⟩ := tyOf_spec hI
  cases dd <;> simp [kindOf, ty9] at e2
  cases dd' <;> simp [kindOf, ty3] at e2'
  have hu : Tryz.prog.underlying 58 = some (.struct (Tryz.prog.fieldsOf 58)) := by kernel_rfl
  have hf : (Tryz.prog.fieldsOf 58).toList.map (fun f => (f.name, f.type, f.offset)) = [("Name", 9, 0), ("Size", 3, 1)] := by kernel_rfl
  obtain ⟨f1, f2, hf2⟩ := list2 (l := (Tryz.prog.fieldsOf 58).toList) (by simpa using congrArg List.length hf)
  rw [hf2] at hf
  simp only [List.map_cons, List.map_nil, List.cons.injEq, Prod.mk.injEq, and_true] at hf
  obtain ⟨⟨n1, t1, o1⟩, n2, t2, o2⟩ := hf
  rw [vav, vav, run_equalIn_agg w 9999 _ _ _ hu (by kernel_rfl), hf2]
  have ha : ∀ (w : World), (isAgg 9).run Tryz.prog w = .ok false w := fun w => by unfold isAgg; rw [Sem.run_bind, run_underlying e1 w]; rfl
  have hb : ∀ (w : World), (isAgg 3).run Tryz.prog w = .ok false w := fun w => by unfold isAgg; rw [Sem.run_bind, run_underlying e1' w]; rfl
  have q1 := run_equalIn_string (P := Tryz.prog) w 9998 9 a.name b.name e1
  have q2 := run_equalIn_int (P := Tryz.prog) w 9998 3 .i64 _ a.size b.size e1'
  simp [Op.eqFields, part, ha, hb, q1, q2, str_eq, n1, n2, t1, t2, o1, o2]
  obtain ⟨an, az⟩ := a
  obtain ⟨bn, bz⟩ := b
  by_cases h1 : an = bn
  · by_cases h2 : az = bz <;> simp [h1, h2]
  · simp [h1]
theorem Rd.neqVar {T' : TypeId} {x y : Operand} {a b : Va} (hx : ev ρ x = vav a) (hy : ev ρ y = vav b) : Rd Tryz.prog ρ S (.binOp .neq 58 x y T') ty (.bool (decide (a ≠ b))) := by
  refine .pure fun d pos af gd w => ?_
  have h2 : (eqGuard .neq 58 x y (vav a) (vav b)).run Tryz.prog w = .ok () w := run_eqGuard_agg w _ _ _ _ _ _ (by kernel_rfl)
  have h3 : (binOp .neq 58 (vav a) (vav b)).run Tryz.prog w = .ok (.bool (decide (a ≠ b))) w := by
    rw [vav, vav, run_neq_struct]
    have := run_equal_var (a := a) (b := b) w
    rw [vav, vav] at this
    rw [this]
    by_cases h : a = b <;> simp [h]
  simp only [execOp, hx, hy, Sem.run_bind, h2, h3, Result.andThen_ok, Sem.run_pure]
end X
end Go.Proofs.YthefnnkmpcgcmaaGreatDoor

namespace Go.Proofs.YthefnnkmpcgcmaaGreatDoor
open Go X
def partsOf (op : Int) : Int := if op = 1 ∨ op = 2 then 0 else if op = 3 then 1 else if 4 ≤ op ∧ op ≤ 8 then 2 else -1
def needE (op : Int) : Bool := decide (op = 1 ∨ op = 2 ∨ op = 3 ∨ op = 5 ∨ op = 6)
def needF (op : Int) : Bool := decide (op = 2)
def needV (op : Int) : Bool := decide (op = 1 ∨ op = 2 ∨ op = 4)
def needB (op : Int) : Bool := decide (op = 5 ∨ op = 6)
def needO (op : Int) : Bool := decide (op = 6)
/-- What is left of the parts, or a fault's code. -/
abbrev JE := Except Int Int
def JE.fail (e : JE) (b : Bool) (c : Int) : JE := match e with | .ok l => if b then .error c else .ok l | .error d => .error d
def JE.one (e : JE) (deep : Int) : JE := match e with | .ok l => if 12 < deep then .error 4 else if l = 0 then .error 3 else .ok (l - 1) | .error d => .error d
def JE.named (e : JE) (nv v : Int) (is : Bool) : JE := (e.fail (is && decide (v < 0 ∨ nv ≤ v)) 1).fail (!is && decide (v ≠ 0)) 5
def exHead (nv deep op v n : Int) (k : Nat) (e : JE) : JE := (((e.one deep).fail (decide (partsOf op < 0)) 2).fail (decide ((k : Int) ≠ partsOf op ∨ (n ≠ 0 ∧ op ≠ 1))) 5).named nv v (decide (op = 2 ∨ op = 3))
mutual
def exE (nv : Int) : Int → Ex → JE → JE
  | deep, .mk op v n l, e => exsE nv (deep + 1) l (exHead nv deep op v n l.length e)
def exsE (nv : Int) : Int → List Ex → JE → JE
  | _, [], e => e
  | deep, x :: l, e => exsE nv deep l (exE nv deep x e)
end
def noneX (x : Ex) : Bool := decide (x.op = 0 ∧ x.v = 0 ∧ x.n = 0 ∧ x.l.length = 0)
def stForm (op : Int) (e f : Ex) (kb ke : Nat) : Bool := (!needE op && !noneX e) || (!needF op && !noneX f) || (!needB op && decide ((0 : Int) < (kb : Int))) || (!needO op && decide ((0 : Int) < (ke : Int)))
def stHead (nv deep op v : Int) (e f : Ex) (kb ke : Nat) (s : JE) : JE := (((s.one deep).fail (decide (op < 1 ∨ 7 < op)) 2).fail (stForm op e f kb ke) 5).named nv v (needV op)
def stEF (nv deep op : Int) (e f : Ex) (s : JE) : JE :=
  let s1 := if needE op then exE nv deep e s else s
  if needF op then exE nv deep f s1 else s1
mutual
def stE (nv : Int) : Int → St → JE → JE
  | deep, .mk op v e f body els, s => stsE nv (deep + 1) els (stsE nv (deep + 1) body (stEF nv (deep + 1) op e f (stHead nv deep op v e f body.length els.length s)))
def stsE (nv : Int) : Int → List St → JE → JE
  | _, [], s => s
  | deep, x :: l, s => stsE nv deep l (stE nv deep x s)
end
def nameOk (s : ByteArray) : Bool := decide ((∀ i, i < s.size → 97 ≤ byteAt s i ∧ byteAt s i ≤ 122) ∧ 1 ≤ s.size ∧ s.size ≤ 8)
def varsGo (seen : List Va) (n : Int) : List Va → Int
  | [] => 0
  | v :: l => if nameOk v.name = false then 8 else if ∃ w ∈ seen, w.name = v.name then 9 else if v.size < 1 ∨ 48 - n < v.size then 1 else varsGo (seen ++ [v]) (n + v.size) l
def JE.code : JE → Int | .ok _ => 0 | .error c => c
def checkVars (l : List Va) : Int := if 8 < l.length then 3 else varsGo [] 0 l
def checkP (p : Pr) : Int := if checkVars p.vars ≠ 0 then checkVars p.vars else (stsE p.vars.length 0 p.body (.ok 150)).code
/-! how many parts -/
/-! errors stay -/
@[simp] theorem fail_err (c : Int) (b : Bool) (d : Int) : JE.fail (.error c) b d = .error c := rfl
@[simp] theorem one_err (c d : Int) : JE.one (.error c) d = .error c := rfl
@[simp] theorem named_err (c nv v : Int) (is : Bool) : JE.named (.error c) nv v is = .error c := rfl
@[simp] theorem fail_false (e : JE) (d : Int) : JE.fail e false d = e := by cases e <;> rfl
@[simp] theorem exHead_err (nv deep op v n : Int) (k : Nat) (c : Int) : exHead nv deep op v n k (.error c) = .error c := rfl
@[simp] theorem stHead_err (nv deep op v : Int) (e f : Ex) (kb ke : Nat) (c : Int) : stHead nv deep op v e f kb ke (.error c) = .error c := rfl
theorem exsE_err' (nv c : Int) : ∀ (l : List Ex), (∀ x ∈ l, ∀ deep, exE nv deep x (.error c) = .error c) → ∀ deep, exsE nv deep l (.error c) = .error c
  | [], _, _ => rfl
  | x :: l, h, deep => by rw [exsE, h x (by simp)]; exact exsE_err' nv c l (fun y hy => h y (by simp [hy])) deep
@[simp] theorem exE_err (nv c : Int) (x : Ex) : ∀ deep, exE nv deep x (.error c) = .error c := by
  refine Ex.ind (P := fun x => ∀ deep, exE nv deep x (.error c) = .error c) ?_ x
  intro op v n l ih deep
  rw [exE, exHead_err]
  exact exsE_err' nv c l ih _
@[simp] theorem exsE_err (nv c : Int) (l : List Ex) (deep : Int) : exsE nv deep l (.error c) = .error c := exsE_err' nv c l (fun x _ => exE_err nv c x) deep
@[simp] theorem stEF_err (nv deep op : Int) (e f : Ex) (c : Int) : stEF nv deep op e f (.error c) = .error c := by simp [stEF]
theorem stsE_err' (nv c : Int) : ∀ (l : List St), (∀ x ∈ l, ∀ deep, stE nv deep x (.error c) = .error c) → ∀ deep, stsE nv deep l (.error c) = .error c
  | [], _, _ => rfl
  | x :: l, h, deep => by rw [stsE, h x (by simp)]; exact stsE_err' nv c l (fun y hy => h y (by simp [hy])) deep
@[simp] theorem stE_err (nv c : Int) (x : St) : ∀ deep, stE nv deep x (.error c) = .error c := by
  refine St.ind (P := fun x => ∀ deep, stE nv deep x (.error c) = .error c) ?_ x
  intro op v e f body els ih jh deep
  rw [stE, stHead_err, stEF_err, stsE_err' nv c body ih, stsE_err' nv c els jh]
@[simp] theorem stsE_err (nv c : Int) (l : List St) (deep : Int) : stsE nv deep l (.error c) = .error c := stsE_err' nv c l (fun x _ => stE_err nv c x) deep
theorem exsE_app (nv deep : Int) : ∀ (l m : List Ex) (s : JE), exsE nv deep (l ++ m) s = exsE nv deep m (exsE nv deep l s)
  | [], _, _ => rfl
  | x :: l, m, s => by rw [List.cons_append, exsE, exsE, exsE_app nv deep l m]
theorem stsE_app (nv deep : Int) : ∀ (l m : List St) (s : JE), stsE nv deep (l ++ m) s = stsE nv deep m (stsE nv deep l s)
  | [], _, _ => rfl
  | x :: l, m, s => by rw [List.cons_append, stsE, stsE, stsE_app nv deep l m]
theorem exsE_snoc (nv deep : Int) (l : List Ex) (k : Nat) (x : Ex) (s : JE) (h : l[k]? = some x) : exsE nv deep (l.take (k + 1)) s = exE nv deep x (exsE nv deep (l.take k) s) := by
  rw [List.take_add_one, h]; simp [exsE_app, exsE]
theorem stsE_snoc (nv deep : Int) (l : List St) (k : Nat) (x : St) (s : JE) (h : l[k]? = some x) : stsE nv deep (l.take (k + 1)) s = stE nv deep x (stsE nv deep (l.take k) s) := by
  rw [List.take_add_one, h]; simp [stsE_app, stsE]
end Go.Proofs.YthefnnkmpcgcmaaGreatDoor

namespace Go.Proofs.YthefnnkmpcgcmaaGreatDoor
open Go X
/-- From more parts, and less deep, it comes through too. -/
structure Down (F : Int → JE → JE) : Prop where
  err : ∀ d c, F d (.error c) = .error c
  ok : ∀ d a b, 0 ≤ a → F d (.ok a) = .ok b → 0 ≤ b ∧ b ≤ a ∧ ∀ d' a', d' ≤ d → a ≤ a' → F d' (.ok a') = .ok (a' - a + b)
  nz : ∀ d a c, F d (.ok a) = .error c → c ≠ 0
theorem Down.id : Down fun _ e => e := ⟨fun _ _ => rfl, fun d a b h e => by
  simp only [Except.ok.injEq] at e; subst e
  exact ⟨h, Int.le_refl _, fun d' a' _ _ => by simp⟩, fun _ _ _ e => by cases e⟩
theorem Down.comp {F G : Int → JE → JE} (hF : Down F) (hG : Down G) : Down fun d e => G d (F d e) := by
  refine ⟨fun d c => by rw [hF.err, hG.err], fun d a b h e => ?_, fun d a c e => ?_⟩
  · cases hf : F d (.ok a) with
    | error c => rw [hf, hG.err] at e; cases e
    | ok m =>
      rw [hf] at e
      obtain ⟨h1, h2, h3⟩ := hF.ok d a m h hf
      obtain ⟨g1, g2, g3⟩ := hG.ok d m b h1 e
      refine ⟨g1, by omega, fun d' a' hd ha => ?_⟩
      rw [h3 d' a' hd ha, g3 d' _ hd (by omega)]
      congr 1; omega
  · cases hf : F d (.ok a) with
    | error c' => rw [hf, hG.err] at e; simp only [Except.error.injEq] at e; subst e; exact hF.nz _ _ _ hf
    | ok m => rw [hf] at e; exact hG.nz _ _ _ e
theorem Down.shift {F : Int → JE → JE} (hF : Down F) : Down fun d e => F (d + 1) e :=
  ⟨fun d c => hF.err _ _, fun d a b h e => by
    obtain ⟨h1, h2, h3⟩ := hF.ok _ _ _ h e
    exact ⟨h1, h2, fun d' a' hd ha => h3 _ _ (by omega) ha⟩, fun d a c e => hF.nz _ _ _ e⟩
theorem Down.fail (b : Bool) {c : Int} (hc : c ≠ 0) : Down fun _ e => JE.fail e b c := by
  cases b with
  | false => simpa using Down.id
  | true => exact ⟨fun _ _ => rfl, fun d a b h e => by simp [JE.fail] at e, fun d a c' e => by simp [JE.fail] at e; subst e; exact hc⟩
theorem Down.one : Down fun d e => JE.one e d := by
  refine ⟨fun _ _ => rfl, fun d a b h e => ?_, fun d a c e => ?_⟩
  · simp only [JE.one] at e
    split at e
    · cases e
    · split at e
      · cases e
      · simp only [Except.ok.injEq] at e
        subst e
        refine ⟨by omega, by omega, fun d' a' hd ha => ?_⟩
        simp only [JE.one]
        rw [if_neg (by omega), if_neg (by omega)]
        congr 1; omega
  · simp only [JE.one] at e
    split at e
    · simp only [Except.error.injEq] at e; omega
    · split at e
      · simp only [Except.error.injEq] at e; omega
      · cases e
theorem Down.named (nv v : Int) (is : Bool) : Down fun _ e => JE.named e nv v is := (Down.fail _ (by decide)).comp (Down.fail _ (by decide))
theorem Down.exHead (nv op v n : Int) (k : Nat) : Down fun d e => exHead nv d op v n k e := ((Down.one.comp (Down.fail _ (by decide))).comp (Down.fail _ (by decide))).comp (Down.named _ _ _)
theorem Down.exsE' (nv : Int) : ∀ (l : List Ex), (∀ x ∈ l, Down fun d e => exE nv d x e) → Down fun d e => exsE nv d l e
  | [], _ => by simpa [Go.Proofs.YthefnnkmpcgcmaaGreatDoor.exsE] using Down.id
  | x :: l, h => by
    have := (h x (by simp)).comp (Down.exsE' nv l (fun y hy => h y (by simp [hy])))
    simpa [Go.Proofs.YthefnnkmpcgcmaaGreatDoor.exsE] using this
theorem Down.exE (nv : Int) (x : Ex) : Down fun d e => exE nv d x e := by
  refine Ex.ind (P := fun x => Down fun d e => Go.Proofs.YthefnnkmpcgcmaaGreatDoor.exE nv d x e) ?_ x
  intro op v n l ih
  have := (Down.exHead nv op v n l.length).comp (Down.exsE' nv l ih).shift
  simpa [Go.Proofs.YthefnnkmpcgcmaaGreatDoor.exE] using this
theorem Down.exsE (nv : Int) (l : List Ex) : Down fun d e => Go.Proofs.YthefnnkmpcgcmaaGreatDoor.exsE nv d l e := Down.exsE' nv l (fun x _ => Down.exE nv x)
theorem Down.stEF (nv op : Int) (e f : Ex) : Down fun d s => stEF nv d op e f s := by
  unfold Go.Proofs.YthefnnkmpcgcmaaGreatDoor.stEF
  by_cases h1 : needE op = true <;> by_cases h2 : needF op = true <;> simp only [h1, h2]
  · exact (Down.exE nv e).comp (Down.exE nv f)
  · exact Down.exE nv e
  · exact Down.exE nv f
  · exact Down.id
theorem Down.stHead (nv op v : Int) (e f : Ex) (kb ke : Nat) : Down fun d s => stHead nv d op v e f kb ke s := ((Down.one.comp (Down.fail _ (by decide))).comp (Down.fail _ (by decide))).comp (Down.named _ _ _)
theorem Down.stsE' (nv : Int) : ∀ (l : List St), (∀ x ∈ l, Down fun d e => stE nv d x e) → Down fun d e => stsE nv d l e
  | [], _ => by simpa [Go.Proofs.YthefnnkmpcgcmaaGreatDoor.stsE] using Down.id
  | x :: l, h => by
    have := (h x (by simp)).comp (Down.stsE' nv l (fun y hy => h y (by simp [hy])))
    simpa [Go.Proofs.YthefnnkmpcgcmaaGreatDoor.stsE] using this
theorem Down.stE (nv : Int) (x : St) : Down fun d e => stE nv d x e := by
  refine St.ind (P := fun x => Down fun d e => Go.Proofs.YthefnnkmpcgcmaaGreatDoor.stE nv d x e) ?_ x
  intro op v e f body els ih jh
  have := (((Down.stHead nv op v e f body.length els.length).comp (Down.stEF nv op e f).shift).comp (Down.stsE' nv body ih).shift).comp (Down.stsE' nv els jh).shift
  simpa [Go.Proofs.YthefnnkmpcgcmaaGreatDoor.stE] using this
theorem Down.stsE (nv : Int) (l : List St) : Down fun d e => stsE nv d l e := Down.stsE' nv l (fun x _ => Down.stE nv x)
/-! cells -/
end Go.Proofs.YthefnnkmpcgcmaaGreatDoor

namespace Go.Proofs.YthefnnkmpcgcmaaGreatDoor
open Go X
set_option maxHeartbeats 1000000
theorem parts_a (σ : PH) (op : Int) : CallsA Tryz.prog 25 #[i64 op] σ [] (RetA fun v σ' Γ' => v = i64 (partsOf op) ∧ σ = σ' ∧ Γ' = []) := by
  by_cases h0 : op < 1
  · 
    refine enterA1 Tryz.func25 rfl rfl rfl ?_
    refine zS (zR (zO rfl Rd.asg ?_)); refine zN (zT (zS (zS (zR (zA rfl ?_))))); refine zO rfl (Rd.lss rfl rfl) ?_; refine zA rfl ?_
    first | (refine zG ?_; refine zA rfl ?_) | refine zH ?_
    first | (refine zG ?_; refine zO rfl (Rd.gtr rfl rfl) ?_) | refine zH ?_
    refine zO rfl zP ?_; refine zN (zT (XA.condT rfl rfl (zS (zR (zO rfl Rd.asg ?_))))); refine zN (zT (XA.ret (DA.thn_ret ?_)))
    refine bodyA.ret (ResA.one rfl rfl) (Ent.refl _) ⟨?_, rfl, rfl⟩
    rw [partsOf, if_neg (by omega), if_neg (by omega), if_neg (by omega)]
  · 
    refine enterA1 Tryz.func25 rfl rfl rfl ?_
    refine zS (zR (zO rfl Rd.asg ?_)); refine zN (zT (zS (zS (zR (zA rfl ?_))))); refine zO rfl (Rd.lss rfl rfl) ?_; refine zA rfl ?_
    first | (refine zG ?_; refine zA rfl ?_) | refine zH ?_
    first | (refine zG ?_; refine zO rfl (Rd.gtr rfl rfl) ?_) | refine zH ?_
    refine zO rfl zP ?_; refine zN (zT ?_)
    refine XA.condp rfl (fun h1 => ?_) (fun h1 => ?_)
    · refine zS ?_
      refine zR (zO rfl Rd.asg ?_); refine zN (zT (XA.ret (DA.thn_ret ?_)))
      refine bodyA.ret (ResA.one rfl rfl) (Ent.refl _) ⟨?_, rfl, rfl⟩
      rw [partsOf, if_neg (by omega), if_neg (by omega), if_neg (by omega)]
    have hop : op = 1 ∨ op = 2 ∨ op = 3 ∨ op = 4 ∨ op = 5 ∨ op = 6 ∨ op = 7 ∨ op = 8 := by omega
    have hel : (List.toArray [i64 0, i64 0, i64 0, i64 1, i64 2, i64 2, i64 2, i64 2, i64 2])[op.toNat]? = some (i64 (partsOf op)) := by
      rcases hop with rfl | rfl | rfl | rfl | rfl | rfl | rfl | rfl <;> rfl
    refine XA.skip (zT (zS (zR ?_)))
    refine zO rfl (Rd.buildA (cs := [i64 0, i64 0, i64 0, i64 1, i64 2, i64 2, i64 2, i64 2, i64 2]) (fun _ _ => tyrow) rfl rfl rfl rfl (by kernel_rfl)) ?_
    refine zA rfl ?_
    refine zO rfl (by apply Rd.indexAgg; exact tyrow rfl; rfl; exact tyrow rfl; rfl; rfl; rfl; rfl; exact (by omega); exact hel) ?_
    refine zO rfl Rd.asg ?_; refine zN (zT (XA.ret ?_))
    exact bodyA.ret (ResA.one rfl rfl) (Ent.refl _) ⟨rfl, rfl, rfl⟩
theorem name_a (σ : PH) (s : ByteArray) (hs : s.size ≤ maxLen) : CallsA Tryz.prog 53 #[.string s] σ [] (RetA fun v σ' Γ' => v = .bool (nameOk s) ∧ σ = σ' ∧ Γ' = []) := by
  simp only [maxLen] at hs
  refine enterA1 Tryz.func53 rfl rfl rfl ?_
  refine zS (zR (zO rfl Rd.asg ?_)); refine zN (zT (zS (zS (zR (zA rfl ?_))))); refine zO rfl (Rd.lenString (tyrow rfl) rfl rfl) ?_; refine zA rfl ?_; refine zN (zT (XA.block ?_))
  refine XA.gen [(0, _), (2, _), (5, _), (6, _)] ⟨(by with_reducible (conv => lhs; whnf)), (by with_reducible (conv => lhs; whnf)), (by with_reducible (conv => lhs; whnf)), (by with_reducible (conv => lhs; whnf)), trivial⟩ (fun δ => ?_)
  dsimp only [List.foldl]
  refine XA.loop [(2, 3), (6, 19)] (fun k : Nat => [(6, i64 k)]) (fun k σ' Γ' => σ = σ' ∧ k ≤ s.size ∧ (∀ i, i < k → 97 ≤ byteAt s i ∧ byteAt s i ≤ 122) ∧ Γ' = []) (fun k => s.size - k) 0 (by exact ⟨rfl, trivial⟩) (Δ0 := _) ?_ (⟨rfl, Nat.zero_le _, by intro i hi; omega, rfl⟩) ?_
  · exact zE
  rintro k δ _ _ ⟨rfl, hk, hall, rfl⟩
  dsimp only [ovr, List.foldl]
  refine zS (zR (zO rfl (Rd.lss rfl rfl) ?_)); refine zN (zT (zS ?_))
  refine XA.condp rfl (fun hlt => ?_) (fun hlt => ?_)
  · have hlt : k < s.size := by omega
    have hb := byteAt_lt s k
    by_cases h1 : byteAt s k < 97
    · 
      refine XA.skip (zT (zS (XA.block (zS (zR (zA rfl ?_)))))); refine zO rfl Rd.asg ?_; refine zN (zT (zS (zR (zA rfl ?_)))); refine zA rfl ?_
      refine zO rfl (Rd.indexStr (tyrow rfl) rfl rfl rfl (by first | omega | decide | (simp; omega))) ?_
      refine zO rfl (Rd.lss rfl rfl) ?_; refine zA rfl ?_
      first | (refine zG ?_; refine zA rfl ?_) | refine zH ?_
      first | (refine zG ?_; refine zA rfl ?_) | refine zH ?_
      first | (refine zG ?_; refine zO rfl (Rd.indexStr (tyrow rfl) rfl rfl rfl (by first | omega | decide | (simp; omega))) ?_) | refine zH ?_
      first | (refine zG ?_; refine zO rfl (Rd.gtr rfl rfl) ?_) | refine zH ?_
      refine zO rfl zP ?_; refine zN (zT (XA.condT rfl rfl (zS (zR (zO rfl Rd.asg ?_))))); refine zN (zT (XA.ret (DA.inb_ret (DA.thn_ret (DA.thn_ret (DA.inb_ret (DA.thn_ret ?_)))))))
      refine bodyA.ret (ResA.one rfl rfl) (Ent.refl _) ⟨?_, rfl, rfl⟩
      have : nameOk s = false := decide_eq_false (fun h => by have := h.1 k hlt; omega)
      rw [this]
    · 
      refine XA.skip (zT (zS (XA.block (zS (zR (zA rfl ?_)))))); refine zO rfl Rd.asg ?_; refine zN (zT (zS (zR (zA rfl ?_)))); refine zA rfl ?_
      refine zO rfl (Rd.indexStr (tyrow rfl) rfl rfl rfl (by first | omega | decide | (simp; omega))) ?_
      refine zO rfl (Rd.lss rfl rfl) ?_; refine zA rfl ?_
      first | (refine zG ?_; refine zA rfl ?_) | refine zH ?_
      first | (refine zG ?_; refine zA rfl ?_) | refine zH ?_
      first | (refine zG ?_; refine zO rfl (Rd.indexStr (tyrow rfl) rfl rfl rfl (by first | omega | decide | (simp; omega))) ?_) | refine zH ?_
      first | (refine zG ?_; refine zO rfl (Rd.gtr rfl rfl) ?_) | refine zH ?_
      refine zO rfl zP ?_; refine zN (zT ?_)
      refine XA.condp rfl (fun h2 => ?_) (fun h2 => ?_)
      · refine zS ?_
        refine zR (zO rfl Rd.asg ?_); refine zN (zT (XA.ret (DA.inb_ret (DA.thn_ret (DA.thn_ret (DA.inb_ret (DA.thn_ret ?_)))))))
        refine bodyA.ret (ResA.one rfl rfl) (Ent.refl _) ⟨?_, rfl, rfl⟩
        have : nameOk s = false := decide_eq_false (fun h => by have := h.1 k hlt; omega)
        rw [this]
      have hnew : ∀ i, i < k + 1 → 97 ≤ byteAt s i ∧ byteAt s i ≤ 122 := fun i hi => by
        rcases Nat.lt_or_ge i k with h | h
        · exact hall i h
        · have : i = k := by omega
          subst this; omega
      refine XA.skip (DA.inb_normal (zT (zR (zO rfl zI ?_)))); refine zA rfl ?_; refine zN (zT ?_)
      refine ⟨(Keep.upd (Keep.upd (Keep.upd (Keep.upd (Keep.upd (Keep.upd (Keep.upd (Keep.upd (Keep.upd (Keep.upd (Keep.upd (Keep.upd (Keep.upd (Keep.upd (Keep.upd (Keep.upd (Keep.hav (Keep.hav (Keep.refl _ _) rfl) rfl) rfl) rfl) rfl) rfl) rfl) rfl) rfl) rfl) rfl) rfl) rfl) rfl) rfl) rfl) rfl) rfl), k + 1, _, zM, ?_, ⟨rfl, hlt, hnew, rfl⟩, (by omega)⟩
      · exact zE
  have hkn : k = s.size := by omega
  subst hkn
  by_cases h0 : s.size = 0
  · have hz : s = ⟨#[]⟩ := ByteArray.ext (Array.eq_empty_of_size_eq_zero h0)
    subst hz
    refine XA.exit (DA.thn_exit (DA.thn_exit (DA.inb_same (zT (zS (zR (zA rfl ?_))))))); refine zO rfl (Rd.neqs rfl rfl) ?_; refine zA rfl ?_
    first | (refine zG ?_; refine zA rfl ?_) | refine zH ?_
    first | (refine zG ?_; refine zO rfl (Rd.lenString (tyrow rfl) rfl rfl) ?_) | refine zH ?_
    first | (refine zG ?_; refine zO rfl (Rd.leq rfl rfl) ?_) | refine zH ?_
    refine zO rfl zP ?_; refine zO rfl Rd.asg ?_; refine zN (zT (XA.ret ?_))
    exact bodyA.ret (ResA.one rfl rfl) (Ent.refl _) ⟨rfl, rfl, rfl⟩
  · have hz : s ≠ ⟨#[]⟩ := fun e => h0 (by rw [e]; rfl)
    refine XA.exit (DA.thn_exit (DA.thn_exit (DA.inb_same (zT (zS (zR (zA rfl ?_))))))); refine zO rfl (Rd.neqs rfl rfl) ?_; refine zA rfl ?_
    first | (refine zG ?_; refine zA rfl ?_) | refine zH ?_
    first | (refine zG ?_; refine zO rfl (Rd.lenString (tyrow rfl) rfl rfl) ?_) | refine zH ?_
    first | (refine zG ?_; refine zO rfl (Rd.leq rfl rfl) ?_) | refine zH ?_
    refine zO rfl zP ?_; refine zO rfl Rd.asg ?_; refine zN (zT (XA.ret ?_))
    refine bodyA.ret (ResA.one rfl rfl) (Ent.refl _) ⟨?_, rfl, rfl⟩
    have : nameOk s = decide ((s.size : Int) ≤ 8) := by
      unfold nameOk
      rw [decide_eq_decide]
      constructor
      · intro h; omega
      · intro h; exact ⟨hall, by omega, by omega⟩
    rw [this]
end Go.Proofs.YthefnnkmpcgcmaaGreatDoor

namespace Go.Proofs.YthefnnkmpcgcmaaGreatDoor
open Go X
set_option maxHeartbeats 1000000
/-- A judge: what it knows of variables, and what is left, or a code. -/
def Judge (b : Nat) (vs : Value) (e : JE) : HP := fun m => ∃ l c, blk b [vs, i64 l, i64 c] 76 m ∧ match e with | .ok l' => l = l' ∧ c = 0 | .error d => c = d ∧ c ≠ 0
theorem sat1 {R : HP} {m : PH} (h : R m) : Sat [R] m := ⟨m, PH.none, h, trivial, PH.none_dis m, .refl m, PH.none_sub m⟩
theorem of_sat1 {R : HP} {m : PH} (mono : ∀ m m', R m → m.sub m' → R m') (h : Sat [R] m) : R m := by
  obtain ⟨m1, m2, a, -, -, b, -⟩ := h
  exact mono _ _ a b
theorem blk_mono {g : Nat} {l : List Value} {T : TypeId} : ∀ m m', blk g l T m → PH.sub m m' → blk g l T m' := fun _ _ h s => s _ _ h
theorem Judge.okO {b : Nat} {vs : Value} {l : Int} : ∀ m, Judge b vs (.ok l) m → ∃ _ : Unit, True ∧ Sat [blk b [vs, i64 l, i64 0] 76] m := by
  rintro m ⟨l', c, h, rfl, rfl⟩; exact ⟨(), trivial, sat1 h⟩
theorem Judge.errO {b : Nat} {vs : Value} {c : Int} : ∀ m, Judge b vs (.error c) m → ∃ l : Int, c ≠ 0 ∧ Sat [blk b [vs, i64 l, i64 c] 76] m := by
  rintro m ⟨l', c', h, rfl, h0⟩; exact ⟨l', h0, sat1 h⟩
theorem Judge.mkO {b : Nat} {vs : Value} {l : Int} : ∀ m, Sat [blk b [vs, i64 l, i64 0] 76] m → Judge b vs (.ok l) m := fun m h => ⟨l, 0, of_sat1 blk_mono h, rfl, rfl⟩
theorem Judge.mkE {b : Nat} {vs : Value} {l c : Int} (h0 : c ≠ 0) : ∀ m, Sat [blk b [vs, i64 l, i64 c] 76] m → Judge b vs (.error c) m := fun m h => ⟨l, c, of_sat1 blk_mono h, rfl, h0⟩
theorem fail_a (σ : PH) (b : Nat) (vs : Value) (e : JE) (is : Bool) (c : Int) (hc : c ≠ 0) :
    CallsA Tryz.prog 78 #[ptr b, .bool is, i64 c] σ [Judge b vs e] (RetA fun v σ' Γ' => v = .tuple #[] ∧ σ = σ' ∧ Γ' = [Judge b vs (e.fail is c)]) := by
  cases is with
  | false =>
    refine enterA3 Tryz.func78 rfl rfl rfl ?_
    refine zS (zR (zA rfl ?_)); refine zA rfl ?_
    first | (refine zG ?_; refine zA rfl ?_) | refine zH ?_
    first | (refine zG ?_; refine zO rfl (Rd.nilCheck rfl) ?_) | refine zH ?_
    first | (refine zG ?_; refine zV rfl rfl ?_) | refine zH ?_
    first | (refine zG ?_; refine zB rfl rfl (tyrow rfl) rfl ?_) | refine zH ?_
    first | (refine zG ?_; refine zO rfl (Rd.eql rfl rfl) ?_) | refine zH ?_
    refine zO rfl zP ?_; refine zN (zT (XA.condF rfl rfl (XA.skip ?_)))
    exact bodyA.normal (ResA.none rfl) (Ent.refl _) ⟨rfl, rfl, by rw [fail_false]⟩
  | true =>
    cases e with
    | ok l =>
      refine enterA3 Tryz.func78 rfl rfl rfl ?_
      refine zS (zR (zA rfl ?_)); refine zA rfl ?_
      first | (refine zG ?_; refine zA rfl ?_) | refine zH ?_
      first | refine XA.opn (R := Judge b vs (.ok l)) zL (Judge.okO) ?_ | refine XOA.opn (R := Judge b vs (.ok l)) zL (Judge.okO) ?_ | refine DA.opn (R := Judge b vs (.ok l)) zL (Judge.okO) ?_
      rintro ⟨⟩ -
      first | refine XA.cl ?_ | refine XOA.cl ?_ | refine DA.cl ?_
      first | (refine zG ?_; refine zO rfl (Rd.nilCheck rfl) ?_) | refine zH ?_
      first | (refine zG ?_; refine zV rfl rfl ?_) | refine zH ?_
      first | (refine zG ?_; refine zB rfl rfl (tyrow rfl) rfl ?_) | refine zH ?_
      first | (refine zG ?_; refine zO rfl (Rd.eql rfl rfl) ?_) | refine zH ?_
      refine zO rfl zP ?_; refine zN (zT (XA.condT rfl rfl (zR (zA rfl ?_)))); refine zA rfl ?_; refine zO rfl (Rd.nilCheck rfl) ?_; refine zV rfl rfl ?_
      refine XOA.wr0 rfl (WrA.st (tyrow rfl) rfl) ?_
      rintro _ _ _ ⟨rfl, rfl, rfl⟩
      refine zN ?_
      exact bodyA.normal (ResA.none rfl) (Ent.fold1 zE (Judge.mkE hc)) ⟨rfl, rfl, rfl⟩
    | error d =>
      refine enterA3 Tryz.func78 rfl rfl rfl ?_
      refine zS (zR (zA rfl ?_)); refine zA rfl ?_
      first | (refine zG ?_; refine zA rfl ?_) | refine zH ?_
      first | refine XA.opn (R := Judge b vs (.error d)) zL (Judge.errO) ?_ | refine XOA.opn (R := Judge b vs (.error d)) zL (Judge.errO) ?_ | refine DA.opn (R := Judge b vs (.error d)) zL (Judge.errO) ?_
      rintro l h0
      first | refine XA.cl ?_ | refine XOA.cl ?_ | refine DA.cl ?_
      first | (refine zG ?_; refine zO rfl (Rd.nilCheck rfl) ?_) | refine zH ?_
      first | (refine zG ?_; refine zV rfl rfl ?_) | refine zH ?_
      first | (refine zG ?_; refine zB rfl rfl (tyrow rfl) rfl ?_) | refine zH ?_
      first | (refine zG ?_; refine zO rfl (Rd.eql rfl rfl) ?_) | refine zH ?_
      refine zO rfl zP ?_; refine zN (zT (XA.condF rfl (decide_eq_false h0) (XA.skip ?_)))
      exact bodyA.normal (ResA.none rfl) (Ent.fold1 zE (Judge.mkE h0)) ⟨rfl, rfl, rfl⟩
theorem fail_okT (l c : Int) : JE.fail (.ok l) true c = .error c := rfl
def JE.isOk : JE → Bool | .ok _ => true | .error _ => false
def JE.in_ (e : JE) : Prop := ∀ l, e = .ok l → 0 ≤ l ∧ l ≤ 150
theorem one_a (σ : PH) (b : Nat) (vs : Value) (e : JE) (deep : Int) (hl : e.in_) :
    CallsA Tryz.prog 77 #[ptr b, i64 deep] σ [Judge b vs e] (RetA fun v σ' Γ' => v = .bool (e.one deep).isOk ∧ σ = σ' ∧ Γ' = [Judge b vs (e.one deep)]) := by
  refine enterA2 Tryz.func77 rfl rfl rfl ?_
  refine zS (zR (zO rfl Rd.asg ?_)); refine zN (zT (zS (zR (zA rfl ?_)))); refine zA rfl ?_; refine zO rfl (Rd.gtr rfl rfl) ?_
  refine XOA.wr0 rfl (WrA.cE (fail_a σ b vs e (decide (12 < deep)) 4 (by decide)) rfl) ?_
  rintro _ _ _ ⟨_, ⟨rfl, rfl, rfl⟩, rfl⟩
  refine XOA.cl ?_
  cases e with
  | error c =>
    rw [fail_err]
    refine zN (zT (zS (zR (zA rfl ?_)))); refine zA rfl ?_
    first | refine XA.opn (R := Judge b vs (.error c)) zL (Judge.errO) ?_ | refine XOA.opn (R := Judge b vs (.error c)) zL (Judge.errO) ?_ | refine DA.opn (R := Judge b vs (.error c)) zL (Judge.errO) ?_
    rintro l h0
    first | refine XA.cl ?_ | refine XOA.cl ?_ | refine DA.cl ?_
    refine zO rfl (Rd.nilCheck rfl) ?_; refine zV rfl rfl ?_; refine zB rfl rfl (tyrow rfl) rfl ?_; refine zO rfl (Rd.eql rfl rfl) ?_
    refine XOA.ent (Δ := [Judge b vs (.error c)]) (Ent.fold1 zE (Judge.mkE h0)) ?_
    refine XOA.wr0 rfl (WrA.cE (fail_a σ b vs (.error c) (decide (l = 0)) 3 (by decide)) rfl) ?_
    rintro _ _ _ ⟨_, ⟨rfl, rfl, rfl⟩, rfl⟩
    refine XOA.cl ?_
    rw [fail_err]
    refine zN (zT (zS (zR (zA rfl ?_))))
    first | refine XA.opn (R := Judge b vs (.error c)) zL (Judge.errO) ?_ | refine XOA.opn (R := Judge b vs (.error c)) zL (Judge.errO) ?_ | refine DA.opn (R := Judge b vs (.error c)) zL (Judge.errO) ?_
    rintro l2 h2
    first | refine XA.cl ?_ | refine XOA.cl ?_ | refine DA.cl ?_
    refine zO rfl (Rd.nilCheck rfl) ?_; refine zV rfl rfl ?_; refine zB rfl rfl (tyrow rfl) rfl ?_; refine zO rfl (by first | exact Rd.sbi rfl rfl | exact Rd.sub rfl rfl) ?_; refine zO rfl (Rd.nilCheck rfl) ?_; refine zV rfl rfl ?_
    refine XOA.wr0 rfl (WrA.st (tyrow rfl) rfl) ?_
    rintro _ _ _ ⟨rfl, rfl, rfl⟩
    refine zN (zT (zS (zR (zA rfl ?_)))); refine zO rfl (Rd.nilCheck rfl) ?_; refine zV rfl rfl ?_; refine zB rfl rfl (tyrow rfl) rfl ?_; refine zO rfl (Rd.eql rfl rfl) ?_; refine zO rfl Rd.asg ?_; refine zN (zT (XA.ret ?_))
    refine bodyA.ret (ResA.one rfl rfl) (Ent.fold1 zE (Judge.mkE h0)) ⟨?_, rfl, rfl⟩
    rw [decide_eq_false h0]; rfl
  | ok l =>
    obtain ⟨l0, l1⟩ := hl l rfl
    by_cases hd : 12 < deep
    · rw [decide_eq_true hd, fail_okT]
      refine zN (zT (zS (zR (zA rfl ?_)))); refine zA rfl ?_
      first | refine XA.opn (R := Judge b vs (.error 4)) zL (Judge.errO) ?_ | refine XOA.opn (R := Judge b vs (.error 4)) zL (Judge.errO) ?_ | refine DA.opn (R := Judge b vs (.error 4)) zL (Judge.errO) ?_
      rintro l2 -
      first | refine XA.cl ?_ | refine XOA.cl ?_ | refine DA.cl ?_
      refine zO rfl (Rd.nilCheck rfl) ?_; refine zV rfl rfl ?_; refine zB rfl rfl (tyrow rfl) rfl ?_; refine zO rfl (Rd.eql rfl rfl) ?_
      refine XOA.ent (Δ := [Judge b vs (.error 4)]) (Ent.fold1 zE (Judge.mkE (by decide))) ?_
      refine XOA.wr0 rfl (WrA.cE (fail_a σ b vs (.error 4) (decide (l2 = 0)) 3 (by decide)) rfl) ?_
      rintro _ _ _ ⟨_, ⟨rfl, rfl, rfl⟩, rfl⟩
      refine XOA.cl ?_
      rw [fail_err]
      refine zN (zT (zS (zR (zA rfl ?_))))
      first | refine XA.opn (R := Judge b vs (.error 4)) zL (Judge.errO) ?_ | refine XOA.opn (R := Judge b vs (.error 4)) zL (Judge.errO) ?_ | refine DA.opn (R := Judge b vs (.error 4)) zL (Judge.errO) ?_
      rintro l3 -
      first | refine XA.cl ?_ | refine XOA.cl ?_ | refine DA.cl ?_
      refine zO rfl (Rd.nilCheck rfl) ?_; refine zV rfl rfl ?_; refine zB rfl rfl (tyrow rfl) rfl ?_; refine zO rfl (by first | exact Rd.sbi rfl rfl | exact Rd.sub rfl rfl) ?_; refine zO rfl (Rd.nilCheck rfl) ?_; refine zV rfl rfl ?_
      refine XOA.wr0 rfl (WrA.st (tyrow rfl) rfl) ?_
      rintro _ _ _ ⟨rfl, rfl, rfl⟩
      refine zN (zT (zS (zR (zA rfl ?_)))); refine zO rfl (Rd.nilCheck rfl) ?_; refine zV rfl rfl ?_; refine zB rfl rfl (tyrow rfl) rfl ?_; refine zO rfl (Rd.eql rfl rfl) ?_; refine zO rfl Rd.asg ?_; refine zN (zT (XA.ret ?_))
      refine bodyA.ret (ResA.one rfl rfl) (Ent.fold1 (Γ := _) (Θ := [blk b [vs, _, i64 4] 76]) zE (Judge.mkE (by decide))) ⟨?_, rfl, ?_⟩
      · simp [JE.one, hd, JE.isOk]
      · simp [JE.one, hd]
    · rw [decide_eq_false hd, fail_false]
      refine zN (zT (zS (zR (zA rfl ?_)))); refine zA rfl ?_
      first | refine XA.opn (R := Judge b vs (.ok l)) zL (Judge.okO) ?_ | refine XOA.opn (R := Judge b vs (.ok l)) zL (Judge.okO) ?_ | refine DA.opn (R := Judge b vs (.ok l)) zL (Judge.okO) ?_
      rintro ⟨⟩ -
      first | refine XA.cl ?_ | refine XOA.cl ?_ | refine DA.cl ?_
      refine zO rfl (Rd.nilCheck rfl) ?_; refine zV rfl rfl ?_; refine zB rfl rfl (tyrow rfl) rfl ?_; refine zO rfl (Rd.eql rfl rfl) ?_
      refine XOA.ent (Δ := [Judge b vs (.ok l)]) (Ent.fold1 zE Judge.mkO) ?_
      refine XOA.wr0 rfl (WrA.cE (fail_a σ b vs (.ok l) (decide (l = 0)) 3 (by decide)) rfl) ?_
      rintro _ _ _ ⟨_, ⟨rfl, rfl, rfl⟩, rfl⟩
      refine XOA.cl ?_
      by_cases h0 : l = 0
      · rw [decide_eq_true h0, fail_okT]
        refine zN (zT (zS (zR (zA rfl ?_))))
        first | refine XA.opn (R := Judge b vs (.error 3)) zL (Judge.errO) ?_ | refine XOA.opn (R := Judge b vs (.error 3)) zL (Judge.errO) ?_ | refine DA.opn (R := Judge b vs (.error 3)) zL (Judge.errO) ?_
        rintro l3 -
        first | refine XA.cl ?_ | refine XOA.cl ?_ | refine DA.cl ?_
        refine zO rfl (Rd.nilCheck rfl) ?_; refine zV rfl rfl ?_; refine zB rfl rfl (tyrow rfl) rfl ?_; refine zO rfl (by first | exact Rd.sbi rfl rfl | exact Rd.sub rfl rfl) ?_; refine zO rfl (Rd.nilCheck rfl) ?_; refine zV rfl rfl ?_
        refine XOA.wr0 rfl (WrA.st (tyrow rfl) rfl) ?_
        rintro _ _ _ ⟨rfl, rfl, rfl⟩
        refine zN (zT (zS (zR (zA rfl ?_)))); refine zO rfl (Rd.nilCheck rfl) ?_; refine zV rfl rfl ?_; refine zB rfl rfl (tyrow rfl) rfl ?_; refine zO rfl (Rd.eql rfl rfl) ?_; refine zO rfl Rd.asg ?_; refine zN (zT (XA.ret ?_))
        refine bodyA.ret (ResA.one rfl rfl) (Ent.fold1 (Γ := _) (Θ := [blk b [vs, _, i64 3] 76]) zE (Judge.mkE (by decide))) ⟨?_, rfl, ?_⟩
        · simp [JE.one, hd, h0, JE.isOk]
        · simp [JE.one, hd, h0]
      · rw [decide_eq_false h0, fail_false]
        refine zN (zT (zS (zR (zA rfl ?_))))
        first | refine XA.opn (R := Judge b vs (.ok l)) zL (Judge.okO) ?_ | refine XOA.opn (R := Judge b vs (.ok l)) zL (Judge.okO) ?_ | refine DA.opn (R := Judge b vs (.ok l)) zL (Judge.okO) ?_
        rintro ⟨⟩ -
        first | refine XA.cl ?_ | refine XOA.cl ?_ | refine DA.cl ?_
        refine zO rfl (Rd.nilCheck rfl) ?_; refine zV rfl rfl ?_; refine zB rfl rfl (tyrow rfl) rfl ?_; refine zO rfl (by first | exact Rd.sbi rfl rfl | exact Rd.sub rfl rfl) ?_; refine zO rfl (Rd.nilCheck rfl) ?_; refine zV rfl rfl ?_
        refine XOA.wr0 rfl (WrA.st (tyrow rfl) rfl) ?_
        rintro _ _ _ ⟨rfl, rfl, rfl⟩
        refine zN (zT (zS (zR (zA rfl ?_)))); refine zO rfl (Rd.nilCheck rfl) ?_; refine zV rfl rfl ?_; refine zB rfl rfl (tyrow rfl) rfl ?_; refine zO rfl (Rd.eql rfl rfl) ?_; refine zO rfl Rd.asg ?_; refine zN (zT (XA.ret ?_))
        refine bodyA.ret (ResA.one rfl rfl) (Ent.fold1 (Θ := [blk b [vs, i64 (l - 1), i64 0] 76]) zE Judge.mkO) ⟨?_, rfl, ?_⟩
        · simp [JE.one, hd, h0, JE.isOk]
        · simp [JE.one, hd, h0]
end Go.Proofs.YthefnnkmpcgcmaaGreatDoor

