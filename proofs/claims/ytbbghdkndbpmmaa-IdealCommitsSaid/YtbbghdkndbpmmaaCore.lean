import Derived.WalkKit
import Derived.Orders
namespace Go.Proofs.Ytbbghdkndbpmmaa
namespace X
open Go
abbrev Env := Nat → Value
abbrev Heap := Array Obj

/-- The environment with one slot other. -/
@[reducible] def upd (ρ : Env) (d : Nat) (v : Value) : Env := fun s => match Nat.beq s d with | true => v | false => ρ s
@[reducible] def ev (ρ : Env) : Operand → Value
  | .tmp t => ρ t
  | .const v => v
  | .global g => .pointer (some ⟨g, 0, none⟩)
  | .func f => .func (.func f) #[] #[]

structure EnvOf (N : Nat) (a : Act) (ρ : Env) : Prop where
  size : a.tmps.size = N
  get : ∀ s, a.tmps.getD s undef = ρ s

theorem beq_false {s d : Nat} (h : s ≠ d) : Nat.beq s d = false := by
  cases e : Nat.beq s d with
  | false => rfl
  | true => exact absurd (Nat.eq_of_beq_eq_true e) h
theorem beq_ne {s d : Nat} (h : Nat.beq s d = false) : s ≠ d := fun e => by subst e; rw [Nat.beq_refl] at h; cases h
theorem blt_lt {d N : Nat} (h : Nat.blt d N = true) : d < N := Nat.le_of_ble_eq_true h
theorem upd_same (ρ : Env) (d : Nat) (v : Value) : upd ρ d v d = v := by simp [upd]
theorem upd_ne (ρ : Env) (d : Nat) (v : Value) (s : Nat) (h : s ≠ d) : upd ρ d v s = ρ s := by
  have : Nat.beq s d = false := beq_false h
  simp [upd, this]

theorem EnvOf.put {N : Nat} {a : Act} {ρ : Env} (h : EnvOf N a ρ) {d : Nat} (hd : Nat.blt d N = true) (v : Value) : EnvOf N (a.put (some d) v) (upd ρ d v) := by
  have hd' : d < N := blt_lt hd
  refine ⟨by simp [Act.put, h.size], fun s => ?_⟩
  by_cases e : s = d
  · subst e; simp [Act.put, upd_same, Array.getD_eq_getD_getElem?, h.size, hd']
  · rw [upd_ne _ _ _ _ e, ← h.get s]; simp [Act.put, Array.getD_eq_getD_getElem?, Ne.symm e]

theorem EnvOf.eval {N : Nat} {a : Act} {ρ : Env} (h : EnvOf N a ρ) : a.eval = ev ρ := by
  funext x; cases x <;> simp [Act.eval, ev]
  rename_i t; have := h.get t; simpa using this

structure Same (w w' : World) : Prop where
  os : w'.os = w.os
  tape : w'.tape = w.tape
  output : w'.output = w.output
theorem Same.refl (w : World) : Same w w := ⟨rfl, rfl, rfl⟩
theorem Same.trans {a b c : World} (h : Same a b) (k : Same b c) : Same a c := ⟨k.os.trans h.os, k.tape.trans h.tape, k.output.trans h.output⟩

abbrev Kont := Exit → Env → Heap → Prop
def EnvE (N : Nat) : Exit → Act → Env → Prop
  | .panic _, _, _ => True
  | _, a, ρ => EnvOf N a ρ
theorem EnvE.of {N : Nat} {e : Exit} {a : Act} {ρ : Env} (h : EnvOf N a ρ) : EnvE N e a ρ := by cases e <;> first | exact h | trivial
/-- (At a panic nothing is said of the frame.) -/
def Post (w : World) (ds : List Deferred) (N : Nat) (K : Kont) : Exit → Act → World → Prop :=
  fun e a' w' => a'.defers = ds ∧ Same w w' ∧ ∃ ρ', EnvE N e a' ρ' ∧ K e ρ' w'.heap

/-- From environment ρ and heap h the code comes to an end of which K holds. -/
structure _root_.Go.Proofs.Ytbbghdkndbpmmaa.X (P : Program) (N : Nat) (c : Code) (ρ : Env) (h : Heap) (K : Kont) : Prop where
  out : ∀ (w0 : World) (a : Act) (w : World), Same w0 w → w.heap = h → EnvOf N a ρ → c.wp P (Post w0 a.defers N K) a w
structure XO (P : Program) (N : Nat) (all : Array Oper) (l : List Oper) (ρ : Env) (h : Heap) (K : Kont) : Prop where
  out : ∀ (w0 : World) (a : Act) (w : World), Same w0 w → w.heap = h → EnvOf N a ρ → wpList P all (Post w0 a.defers N K) l a w

def thn (next : Env → Heap → Prop) (K : Kont) : Kont
  | .normal, ρ, h => next ρ h
  | e, ρ, h => K e ρ h
def inb (id : Nat) (K : Kont) : Kont
  | .exit id', ρ, h => if id' = id then K .normal ρ h else K (.exit id') ρ h
  | e, ρ, h => K e ρ h

section
variable {P : Program} {N : Nat} {ρ : Env} {h : Heap} {K : Kont}
theorem mono {c : Code} {K' : Kont} (hx : X P N c ρ h K) (hk : ∀ e ρ h, K e ρ h → K' e ρ h) : X P N c ρ h K' := by
  refine ⟨fun w0 a w hs hh he => ?_⟩
  refine wp_mono (hx.out w0 a w hs hh he) ?_
  rintro e a' w' ⟨h1, h2, ρ', h3, h4⟩
  exact ⟨h1, h2, ρ', h3, hk _ _ _ h4⟩

theorem seq {x y : Code} (hx : X P N x ρ h (thn (fun ρ h => X P N y ρ h K) K)) : X P N (.seq x y) ρ h K := by
  refine ⟨fun w0 a w hs hh he => ?_⟩
  refine wp_seq (wp_mono (hx.out w0 a w hs hh he) ?_)
  rintro e a' w' ⟨h1, h2, ρ', h3, h4⟩
  cases e with
  | normal => rw [← h1]; exact h4.out w0 a' w' h2 rfl h3
  | _ => exact ⟨h1, h2, ρ', h3, h4⟩

theorem block {id : Nat} {c : Code} (hx : X P N c ρ h (inb id K)) : X P N (.block id c) ρ h K := by
  refine ⟨fun w0 a w hs hh he => ?_⟩
  refine wp_block (wp_mono (hx.out w0 a w hs hh he) ?_)
  rintro e a' w' ⟨h1, h2, ρ', h3, h4⟩
  cases e with
  | exit id' =>
    simp only [inb] at h4
    simp only [Exit.inBlock]
    split <;> rename_i hid
    · rw [if_pos hid] at h4; exact ⟨h1, h2, ρ', h3, h4⟩
    · rw [if_neg hid] at h4; exact ⟨h1, h2, ρ', h3, h4⟩
  | _ => exact ⟨h1, h2, ρ', h3, h4⟩
theorem skip (hk : K .normal ρ h) : X P N .skip ρ h K := ⟨fun _ _ _ hs hh he => wp_skip ⟨rfl, hs, ρ, .of he, hh ▸ hk⟩⟩
theorem ret (hk : K .ret ρ h) : X P N .ret ρ h K := ⟨fun _ _ _ hs hh he => wp_ret ⟨rfl, hs, ρ, .of he, hh ▸ hk⟩⟩
theorem exit {id : Nat} (hk : K (.exit id) ρ h) : X P N (.exit id) ρ h K := ⟨fun _ _ _ hs hh he => wp_exit ⟨rfl, hs, ρ, .of he, hh ▸ hk⟩⟩
theorem label {l : Nat} (hk : K .normal ρ h) : X P N (.label l) ρ h K := ⟨fun _ _ _ hs hh he => wp_label ⟨rfl, hs, ρ, .of he, hh ▸ hk⟩⟩
theorem cond {c : Operand} {x y : Code} {b : Bool} (hc : ev ρ c = .bool b) (ht : b = true → X P N x ρ h K) (hf : b = false → X P N y ρ h K) : X P N (.cond c x y) ρ h K := by
  refine ⟨fun w0 a w hs hh he => ?_⟩
  refine wp_cond_split (t := b) (by rw [he.eval]; exact hc) (fun e => (ht e).out w0 a w hs hh he) (fun e => (hf e).out w0 a w hs hh he)
/-- A test that is decided by a proposition. -/
theorem condp {c : Operand} {x y : Code} {p : Prop} [Decidable p] (hc : ev ρ c = .bool (decide p)) (ht : p → X P N x ρ h K) (hf : ¬ p → X P N y ρ h K) : X P N (.cond c x y) ρ h K :=
  cond hc (fun e => ht (by simpa using e)) (fun e => hf (by simpa using e))
theorem region {id : Nat} {l : List Oper} (hx : XO P N l.toArray l ρ h K) : X P N (.region id l.toArray false) ρ h K :=
  ⟨fun w0 a w hs hh he => wp_region_lit (hx.out w0 a w hs hh he)⟩

theorem thn_normal {next : Env → Heap → Prop} (hk : next ρ h) : thn next K .normal ρ h := hk
theorem thn_exit {next : Env → Heap → Prop} {id : Nat} (hk : K (.exit id) ρ h) : thn next K (.exit id) ρ h := hk
theorem thn_ret {next : Env → Heap → Prop} (hk : K .ret ρ h) : thn next K .ret ρ h := hk
theorem thn_panic {next : Env → Heap → Prop} {c : List PanicEntry} (hk : K (.panic c) ρ h) : thn next K (.panic c) ρ h := hk
theorem inb_normal {id : Nat} (hk : K .normal ρ h) : inb id K .normal ρ h := hk
theorem inb_ret {id : Nat} (hk : K .ret ρ h) : inb id K .ret ρ h := hk
theorem inb_panic {id : Nat} {c : List PanicEntry} (hk : K (.panic c) ρ h) : inb id K (.panic c) ρ h := hk
theorem inb_same {id : Nat} (hk : K .normal ρ h) : inb id K (.exit id) ρ h := by simp only [inb, if_true]; exact hk
theorem inb_other {id id' : Nat} (hne : Nat.beq id' id = false) (hk : K (.exit id') ρ h) : inb id K (.exit id') ρ h := by
  have : id' ≠ id := beq_ne hne
  simp only [inb, if_neg this]; exact hk
end

/-! types -/
inductive TK where
  | int (k : IntKind) | bool | string | slice (e : TypeId) | array (n : Nat) (e : TypeId) | struct (fs : List (TypeId × Nat)) | pointer (e : TypeId) | iface | func | other
structure Ty where
  k : TK
  size : Nat
  bytes : Nat
  zero : List Value
def kindOf : TypeDesc → TK
  | .int k => .int k
  | .bool => .bool
  | .string => .string
  | .slice e => .slice e
  | .array n e => .array n e
  | .struct fs => .struct (fs.toList.map fun f => (f.type, f.offset))
  | .pointer e => .pointer e
  | .interface _ => .iface
  | .func .. => .func
  | _ => .other
def tyOf (P : Program) (T : TypeId) : Option Ty :=
  match P.underlying T, P.info? T with
  | some d, some i => match i.zero with
    | some z => some ⟨kindOf d, i.size, i.bytes, z.cells.toList⟩
    | none => none
  | _, _ => none
theorem tyOf_spec {P : Program} {T : TypeId} {r : Ty} (h : tyOf P T = some r) : ∃ d i z, P.underlying T = some d ∧ kindOf d = r.k ∧ P.info? T = some i ∧ i.size = r.size ∧ i.bytes = r.bytes ∧ i.zero = some z ∧ z.cells.toList = r.zero := by
  unfold tyOf at h
  split at h
  · rename_i d i hd hi
    split at h
    · rename_i z hz
      simp only [Option.some.injEq] at h
      subst h
      exact ⟨d, i, z, hd, rfl, hi, rfl, rfl, hz, rfl⟩
    · cases h
  · cases h
def TK.agg : TK → Bool
  | .array .. | .struct _ => true
  | _ => false
theorem agg_of {d : TypeDesc} {k : TK} (h : kindOf d = k) : (match d with | .struct _ | .array _ _ => true | _ => false) = k.agg := by
  subst h; cases d <;> rfl

/-! heaps -/
/-- The cells from place o of block g on are vs. -/
structure Row (h : Heap) (g o : Nat) (vs : List Value) : Prop where
  ex : ∃ l T fr, h[g]? = some (.cells l T fr) ∧ (l.toList.drop o).take vs.length = vs
structure Cel (h : Heap) (g o : Nat) (v : Value) : Prop where
  ex : ∃ l T fr, h[g]? = some (.cells l T fr) ∧ l[o]? = some v
/-- A block that may be written. -/
structure Blk (h : Heap) (g : Nat) (l : List Value) (T : TypeId) : Prop where
  get : h[g]? = some (.cells l.toArray T (0, 0))
def hset (h : Heap) (g : Nat) (l : List Value) (T : TypeId) : Heap := h.setIfInBounds g (.cells l.toArray T (0, 0))
def splice (l : List Value) (o : Nat) (vs : List Value) : List Value := l.take o ++ vs ++ l.drop (o + vs.length)

theorem Cel.cell {w : World} {h : Heap} (hw : w.heap = h) {g o : Nat} {v : Value} (hc : Cel h g o v) : w.cell? ⟨g, o, none⟩ = some v := by
  obtain ⟨l, T, fr, h1, h2⟩ := hc
  subst hw
  simp [World.cell?, h1, h2]
theorem Row.cel {h : Heap} {g o : Nat} {vs : List Value} (hr : Row h g o vs) {j : Nat} {v : Value} (hv : vs[j]? = some v) : Cel h g (o + j) v := by
  obtain ⟨l, T, fr, h1, h2⟩ := hr
  refine ⟨l, T, fr, h1, ?_⟩
  rw [← h2] at hv
  have hj : j < vs.length := by
    rcases Nat.lt_or_ge j vs.length with hlt | hge
    · exact hlt
    · simp [List.getElem?_take, Nat.not_lt.2 hge] at hv
  simp only [List.getElem?_take, hj, if_true, List.getElem?_drop] at hv
  simpa using hv
theorem lt_of_get {h : Heap} {g : Nat} {o : Obj} (hg : h[g]? = some o) : g < h.size := by
  rcases Nat.lt_or_ge g h.size with hl | hl
  · exact hl
  · rw [Array.getElem?_eq_none hl] at hg; cases hg
theorem Cel.lt {h : Heap} {g o : Nat} {v : Value} (hc : Cel h g o v) : g < h.size := by obtain ⟨l, T, fr, h1, _⟩ := hc; exact lt_of_get h1
theorem Row.lt {h : Heap} {g o : Nat} {vs : List Value} (hc : Row h g o vs) : g < h.size := by obtain ⟨l, T, fr, h1, _⟩ := hc; exact lt_of_get h1
theorem Blk.lt {h : Heap} {g : Nat} {l : List Value} {T : TypeId} (hc : Blk h g l T) : g < h.size := lt_of_get hc.get
theorem size_hset (h : Heap) (g : Nat) (l : List Value) (T : TypeId) : (hset h g l T).size = h.size := by simp [hset]
theorem get_hset_ne {h : Heap} {g k : Nat} {l : List Value} {T : TypeId} (hne : k ≠ g) : (hset h g l T)[k]? = h[k]? := by
  simp [hset, Array.getElem?_setIfInBounds, Ne.symm hne]
theorem get_hset_same {h : Heap} {g : Nat} {l : List Value} {T : TypeId} (hl : g < h.size) : (hset h g l T)[g]? = some (.cells l.toArray T (0, 0)) := by
  simp [hset, Array.getElem?_setIfInBounds, hl]
theorem get_push_old {h : Heap} {o : Obj} {k : Nat} (hk : k < h.size) : (h.push o)[k]? = h[k]? := by
  rw [Array.getElem?_push, if_neg (by omega)]
theorem get_push_new {h : Heap} {o : Obj} {k : Nat} (hk : k = h.size) : (h.push o)[k]? = some o := by
  subst hk; simp
/-- Only blocks that were not there are new. -/
structure Ext (h h' : Heap) : Prop where
  size : h.size ≤ h'.size
  get : ∀ k, k < h.size → h'[k]? = h[k]?
theorem Ext.refl (h : Heap) : Ext h h := ⟨Nat.le_refl _, fun _ _ => rfl⟩
theorem Ext.trans {a b c : Heap} (h : Ext a b) (k : Ext b c) : Ext a c := ⟨Nat.le_trans h.size k.size, fun i hi => (k.get i (Nat.lt_of_lt_of_le hi h.size)).trans (h.get i hi)⟩
theorem Ext.push {a b : Heap} (h : Ext a b) (o : Obj) : Ext a (b.push o) := ⟨by have := h.size; simp; omega, fun k hk => (get_push_old (by have := h.size; omega)).trans (h.get k hk)⟩
theorem Ext.hset {a b : Heap} (h : Ext a b) {g : Nat} (hg : a.size ≤ g) (l : List Value) (T : TypeId) : Ext a (hset b g l T) := ⟨by rw [size_hset]; exact h.size, fun k hk => (get_hset_ne (by omega)).trans (h.get k hk)⟩
theorem Cel.ext {h h' : Heap} (hx : Ext h h') {g o : Nat} {v : Value} (hc : Cel h g o v) : Cel h' g o v := by
  have hl := hc.lt; obtain ⟨l, T, fr, h1, h2⟩ := hc; exact ⟨l, T, fr, (hx.get g hl).trans h1, h2⟩
theorem Row.ext {h h' : Heap} (hx : Ext h h') {g o : Nat} {vs : List Value} (hc : Row h g o vs) : Row h' g o vs := by
  have hl := hc.lt; obtain ⟨l, T, fr, h1, h2⟩ := hc; exact ⟨l, T, fr, (hx.get g hl).trans h1, h2⟩
theorem Blk.ext {h h' : Heap} (hx : Ext h h') {g : Nat} {l : List Value} {T : TypeId} (hc : Blk h g l T) : Blk h' g l T := ⟨(hx.get g hc.lt).trans hc.get⟩
theorem Cel.old {h : Heap} {ob : Obj} {g o : Nat} {v : Value} (hc : Cel h g o v) : Cel (h.push ob) g o v := hc.ext ((Ext.refl h).push ob)
theorem Row.old {h : Heap} {ob : Obj} {g o : Nat} {vs : List Value} (hc : Row h g o vs) : Row (h.push ob) g o vs := hc.ext ((Ext.refl h).push ob)
theorem Blk.old {h : Heap} {ob : Obj} {g : Nat} {l : List Value} {T : TypeId} (hc : Blk h g l T) : Blk (h.push ob) g l T := hc.ext ((Ext.refl h).push ob)
theorem Blk.new {h : Heap} {g : Nat} {l : List Value} {T : TypeId} (hg : g = h.size) : Blk (h.push (.cells l.toArray T (0, 0))) g l T := ⟨get_push_new hg⟩
theorem Blk.same {h : Heap} {g : Nat} {l : List Value} {T : TypeId} (hl : g < h.size) : Blk (X.hset h g l T) g l T := ⟨get_hset_same hl⟩
theorem Blk.ne {h : Heap} {g g' : Nat} {l l' : List Value} {T T' : TypeId} (hne : g ≠ g') (hc : Blk h g l T) : Blk (X.hset h g' l' T') g l T := ⟨(get_hset_ne hne).trans hc.get⟩
theorem Cel.ne {h : Heap} {g g' o : Nat} {l' : List Value} {T' : TypeId} {v : Value} (hne : g ≠ g') (hc : Cel h g o v) : Cel (X.hset h g' l' T') g o v := by
  obtain ⟨l, T, fr, h1, h2⟩ := hc; exact ⟨l, T, fr, (get_hset_ne hne).trans h1, h2⟩
theorem Row.ne {h : Heap} {g g' o : Nat} {l' : List Value} {T' : TypeId} {vs : List Value} (hne : g ≠ g') (hc : Row h g o vs) : Row (X.hset h g' l' T') g o vs := by
  obtain ⟨l, T, fr, h1, h2⟩ := hc; exact ⟨l, T, fr, (get_hset_ne hne).trans h1, h2⟩
theorem Blk.cel {h : Heap} {g o : Nat} {l : List Value} {T : TypeId} {v : Value} (hb : Blk h g l T) (hv : l[o]? = some v) : Cel h g o v := ⟨l.toArray, T, (0, 0), hb.get, by simpa using hv⟩
theorem Blk.row {h : Heap} {g o : Nat} {l vs : List Value} {T : TypeId} (hb : Blk h g l T) (hv : (l.drop o).take vs.length = vs) : Row h g o vs := ⟨l.toArray, T, (0, 0), hb.get, by simpa using hv⟩
theorem Blk.rowAll {h : Heap} {g : Nat} {l : List Value} {T : TypeId} (hb : Blk h g l T) : Row h g 0 l := hb.row (by simp)
theorem splice_all {l vs : List Value} (hn : l.length = vs.length) : splice l 0 vs = vs := by simp [splice, ← hn]
theorem addr_add (g o j : Nat) : (⟨g, o, none⟩ : Addr).add j = ⟨g, o + j, none⟩ := by unfold Addr.add; split <;> simp_all
end X
end Go.Proofs.Ytbbghdkndbpmmaa
