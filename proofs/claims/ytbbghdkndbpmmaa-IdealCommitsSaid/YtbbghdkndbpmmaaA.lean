/- The judgement over what is owned: rules for code, operations, calls, loops. -/
import Derived.Test.YtbbghdkndbpmmaaSep
import Derived.Test.YtbbghdkndbpmmaaGen
namespace Go.Proofs.Ytbbghdkndbpmmaa
open Go
namespace X
abbrev KA := Exit → Env → PH → List HP → Prop
/-- K holds at an end. -/
def KF (f : PH) (K : KA) : Kont := fun e ρ h => ∃ σ Γ, K e ρ σ Γ ∧ Holds σ Γ f h
structure XA (P : Program) (N : Nat) (c : Code) (ρ : Env) (σ : PH) (Γ : List HP) (K : KA) : Prop where
  out : ∀ f h, Holds σ Γ f h → X P N c ρ h (KF f K)
structure XOA (P : Program) (N : Nat) (all : Array Oper) (l : List Oper) (ρ : Env) (σ : PH) (Γ : List HP) (K : KA) : Prop where
  out : ∀ f h, Holds σ Γ f h → XO P N all l ρ h (KF f K)
/-- An end, up to what is given. -/
structure DA (K : KA) (e : Exit) (ρ : Env) (σ : PH) (Γ : List HP) : Prop where
  out : ∀ f h, Holds σ Γ f h → KF f K e ρ h
/-- Does a judgement hold of whatever is given? -/
class Goes (J : PH → List HP → Prop) : Prop where
  ent : ∀ {σ Γ Δ}, Ent Γ Δ → J σ Δ → J σ Γ
  frz : ∀ {σ Γ Γ' R}, Sel Γ R Γ' → (∀ σ' m, R m → m.sub σ' → σ.sub σ' → J σ' Γ') → J σ Γ
  opn : ∀ {σ Γ Γ' R}, Sel Γ R Γ' → ∀ {α : Type} {Θ : α → List HP}, (∀ m, R m → ∃ x, Sat (Θ x) m) → (∀ x, J σ (Θ x ++ Γ')) → J σ Γ
def thnA (next : Env → PH → List HP → Prop) (K : KA) : KA
  | .normal, ρ, σ, Γ => next ρ σ Γ
  | e, ρ, σ, Γ => K e ρ σ Γ
def inbA (id : Nat) (K : KA) : KA
  | .exit id', ρ, σ, Γ => if id' = id then K .normal ρ σ Γ else K (.exit id') ρ σ Γ
  | e, ρ, σ, Γ => K e ρ σ Γ
theorem holds_open {σ f : PH} {Γ Γ' : List HP} {R : HP} {h : Heap} (x : Holds σ Γ f h) (s : Sel Γ R Γ') {α : Type} {Θ : α → List HP} (ho : ∀ m, R m → ∃ x, Sat (Θ x) m) : ∃ x, Holds σ (Θ x ++ Γ') f h := by
  obtain ⟨m, a, b⟩ := x
  obtain ⟨m1, m2, r1, r2, r3, r4, r5⟩ := s.to a
  obtain ⟨x, hx⟩ := ho _ r1
  exact ⟨x, m, Sat.join hx r2 r3 r4 r5, b⟩
variable {P : Program} {N : Nat} {ρ : Env} {σ : PH} {Γ : List HP} {K : KA}
instance {c : Code} : Goes (fun σ Γ => XA P N c ρ σ Γ K) where
  ent he hx := ⟨fun f h hh => hx.out f h (hh.ent he)⟩
  frz s k := ⟨fun f h hh => by obtain ⟨σ', m, a, b, c, d⟩ := hh.freeze s; exact (k σ' m a b c).out f h d⟩
  opn s _ _ ho k := ⟨fun f h hh => by obtain ⟨x, hx⟩ := holds_open hh s ho; exact (k x).out f h hx⟩
instance {all : Array Oper} {l : List Oper} : Goes (fun σ Γ => XOA P N all l ρ σ Γ K) where
  ent he hx := ⟨fun f h hh => hx.out f h (hh.ent he)⟩
  frz s k := ⟨fun f h hh => by obtain ⟨σ', m, a, b, c, d⟩ := hh.freeze s; exact (k σ' m a b c).out f h d⟩
  opn s _ _ ho k := ⟨fun f h hh => by obtain ⟨x, hx⟩ := holds_open hh s ho; exact (k x).out f h hx⟩
instance {e : Exit} : Goes (fun σ Γ => DA K e ρ σ Γ) where
  ent he hx := ⟨fun f h hh => hx.out f h (hh.ent he)⟩
  frz s k := ⟨fun f h hh => by obtain ⟨σ', m, a, b, c, d⟩ := hh.freeze s; exact (k σ' m a b c).out f h d⟩
  opn s _ _ ho k := ⟨fun f h hh => by obtain ⟨x, hx⟩ := holds_open hh s ho; exact (k x).out f h hx⟩
theorem ent {J : PH → List HP → Prop} [Goes J] {Δ : List HP} (he : Ent Γ Δ) (hx : J σ Δ) : J σ Γ := Goes.ent he hx

theorem DA.here {e : Exit} (hk : K e ρ σ Γ) : DA K e ρ σ Γ := ⟨fun _ _ hh => ⟨σ, Γ, hk, hh⟩⟩
theorem DA.ent {e : Exit} {Δ : List HP} (he : Ent Γ Δ) (hx : DA K e ρ σ Δ) : DA K e ρ σ Γ := ⟨fun f h hh => hx.out f h (hh.ent he)⟩

/-! code -/
theorem XA.seq {x y : Code} (hx : XA P N x ρ σ Γ (thnA (fun ρ σ Γ => XA P N y ρ σ Γ K) K)) : XA P N (.seq x y) ρ σ Γ K := by
  refine ⟨fun f h hh => X.seq (X.mono (hx.out f h hh) ?_)⟩
  rintro e ρ' h' ⟨σ', Γ', hk, hh'⟩
  cases e with
  | normal => exact hk.out f h' hh'
  | _ => exact ⟨σ', Γ', hk, hh'⟩
theorem XA.block {id : Nat} {c : Code} (hx : XA P N c ρ σ Γ (inbA id K)) : XA P N (.block id c) ρ σ Γ K := by
  refine ⟨fun f h hh => X.block (X.mono (hx.out f h hh) ?_)⟩
  rintro e ρ' h' ⟨σ', Γ', hk, hh'⟩
  cases e with
  | exit id' =>
    simp only [inbA] at hk
    simp only [inb]
    split <;> rename_i hid
    · rw [if_pos hid] at hk; exact ⟨σ', Γ', hk, hh'⟩
    · rw [if_neg hid] at hk; exact ⟨σ', Γ', hk, hh'⟩
  | _ => exact ⟨σ', Γ', hk, hh'⟩
theorem XA.skip (hk : DA K .normal ρ σ Γ) : XA P N .skip ρ σ Γ K := ⟨fun f h hh => X.skip (hk.out f h hh)⟩
theorem XA.ret (hk : DA K .ret ρ σ Γ) : XA P N .ret ρ σ Γ K := ⟨fun f h hh => X.ret (hk.out f h hh)⟩
theorem XA.exit {id : Nat} (hk : DA K (.exit id) ρ σ Γ) : XA P N (.exit id) ρ σ Γ K := ⟨fun f h hh => X.exit (hk.out f h hh)⟩
theorem XA.cond {c : Operand} {x y : Code} {b : Bool} (hc : ev ρ c = .bool b) (ht : b = true → XA P N x ρ σ Γ K) (hf : b = false → XA P N y ρ σ Γ K) : XA P N (.cond c x y) ρ σ Γ K :=
  ⟨fun f h hh => X.cond hc (fun e => (ht e).out f h hh) (fun e => (hf e).out f h hh)⟩
theorem XA.condp {c : Operand} {x y : Code} {p : Prop} {inst : Decidable p} (hc : ev ρ c = .bool (@decide p inst)) (ht : p → XA P N x ρ σ Γ K) (hf : ¬ p → XA P N y ρ σ Γ K) : XA P N (.cond c x y) ρ σ Γ K :=
  XA.cond hc (fun e => ht (by simpa using e)) (fun e => hf (by simpa using e))
theorem XA.condT {c : Operand} {x y : Code} {b : Bool} (hc : ev ρ c = .bool b) (hb : b = true) (ht : XA P N x ρ σ Γ K) : XA P N (.cond c x y) ρ σ Γ K :=
  XA.cond hc (fun _ => ht) (fun e => by rw [hb] at e; cases e)
theorem XA.condF {c : Operand} {x y : Code} {b : Bool} (hc : ev ρ c = .bool b) (hb : b = false) (hf : XA P N y ρ σ Γ K) : XA P N (.cond c x y) ρ σ Γ K :=
  XA.cond hc (fun e => by rw [hb] at e; cases e) (fun _ => hf)
theorem XA.region {id : Nat} {l : List Oper} (hx : XOA P N l.toArray l ρ σ Γ K) : XA P N (.region id l.toArray false) ρ σ Γ K := ⟨fun f h hh => X.region (hx.out f h hh)⟩
theorem DA.thn_normal {next : Env → PH → List HP → Prop} (hk : next ρ σ Γ) : DA (thnA next K) .normal ρ σ Γ := .here hk
theorem DA.map {K' : KA} {e e' : Exit} (hk : DA K e ρ σ Γ) (hm : ∀ ρ σ Γ, K e ρ σ Γ → K' e' ρ σ Γ) : DA K' e' ρ σ Γ := ⟨fun f h hh => by
  obtain ⟨σ', Γ', a, b⟩ := hk.out f h hh; exact ⟨σ', Γ', hm _ _ _ a, b⟩⟩
theorem DA.thn_exit {next : Env → PH → List HP → Prop} {id : Nat} (hk : DA K (.exit id) ρ σ Γ) : DA (thnA next K) (.exit id) ρ σ Γ := hk.map fun _ _ _ h => h
theorem DA.thn_ret {next : Env → PH → List HP → Prop} (hk : DA K .ret ρ σ Γ) : DA (thnA next K) .ret ρ σ Γ := hk.map fun _ _ _ h => h
theorem DA.thn_panic {next : Env → PH → List HP → Prop} {c : List PanicEntry} (hk : DA K (.panic c) ρ σ Γ) : DA (thnA next K) (.panic c) ρ σ Γ := hk.map fun _ _ _ h => h
theorem DA.inb_normal {id : Nat} (hk : DA K .normal ρ σ Γ) : DA (inbA id K) .normal ρ σ Γ := hk.map fun _ _ _ h => h
theorem DA.inb_ret {id : Nat} (hk : DA K .ret ρ σ Γ) : DA (inbA id K) .ret ρ σ Γ := hk.map fun _ _ _ h => h
theorem DA.inb_panic {id : Nat} {c : List PanicEntry} (hk : DA K (.panic c) ρ σ Γ) : DA (inbA id K) (.panic c) ρ σ Γ := hk.map fun _ _ _ h => h
theorem DA.inb_same {id : Nat} (hk : DA K .normal ρ σ Γ) : DA (inbA id K) (.exit id) ρ σ Γ := hk.map fun _ _ _ h => by simp only [inbA, if_true]; exact h
theorem DA.inb_other {id id' : Nat} (hne : Nat.beq id' id = false) (hk : DA K (.exit id') ρ σ Γ) : DA (inbA id K) (.exit id') ρ σ Γ := hk.map fun _ _ _ h => by
  have : id' ≠ id := beq_ne hne
  simp only [inbA, if_neg this]; exact h

/-! operations -/
/-- An operation that does something to what is owned, or calls a function. -/
structure WrA (P : Program) (ρ : Env) (σ : PH) (Γ : List HP) (op : Op) (ty : TypeId) (R : Value → PH → List HP → Prop) (pk : List PanicEntry → PH → List HP → Prop) : Prop where
  out : ∀ f h, Holds σ Γ f h → Wr P ρ h op ty (fun v h' => ∃ σ' Γ', R v σ' Γ' ∧ Holds σ' Γ' f h') (fun c h' => ∃ σ' Γ', pk c σ' Γ' ∧ Holds σ' Γ' f h')
abbrev noPA : List PanicEntry → PH → List HP → Prop := fun _ _ _ => False
section
variable {all : Array Oper} {rest : List Oper}
theorem XOA.nil (hk : DA K .normal ρ σ Γ) : XOA P N all [] ρ σ Γ K := ⟨fun f h hh => XO.nil (hk.out f h hh)⟩
theorem XOA.rd {op : Op} {d : Nat} {ty : TypeId} {pos : String} {af : Array Edge} {v : Value} (hd : Nat.blt d N = true)
    (hr : Rd P ρ (Ho σ Γ) op ty v) (k : XOA P N all rest (upd ρ d v) σ Γ K) : XOA P N all (⟨some d, op, ty, pos, af, none⟩ :: rest) ρ σ Γ K :=
  ⟨fun f h hh => XO.rd hd ⟨fun d pos af g w hw => hr.out d pos af g w (hw ▸ hh.ho)⟩ (k.out f h hh)⟩
theorem XOA.wr {op : Op} {d : Option Nat} {ty : TypeId} {pos : String} {af : Array Edge} {R : Value → PH → List HP → Prop} {pk : List PanicEntry → PH → List HP → Prop} (hd : dstOk N d = true)
    (hr : WrA P ρ σ Γ op ty R pk) (k : ∀ v σ' Γ', R v σ' Γ' → XOA P N all rest (updO ρ d v) σ' Γ' K) (kp : ∀ c σ' Γ', pk c σ' Γ' → DA K (.panic c) ρ σ' Γ') :
    XOA P N all (⟨d, op, ty, pos, af, none⟩ :: rest) ρ σ Γ K :=
  ⟨fun f h hh => XO.wr hd (hr.out f h hh) (fun v h' ⟨σ', Γ', a, b⟩ => (k v σ' Γ' a).out f h' b) (fun c h' ⟨σ', Γ', a, b⟩ => (kp c σ' Γ' a).out f h' b)⟩
theorem XOA.wr0 {op : Op} {d : Option Nat} {ty : TypeId} {pos : String} {af : Array Edge} {R : Value → PH → List HP → Prop} (hd : dstOk N d = true)
    (hr : WrA P ρ σ Γ op ty R noPA) (k : ∀ v σ' Γ', R v σ' Γ' → XOA P N all rest (updO ρ d v) σ' Γ' K) : XOA P N all (⟨d, op, ty, pos, af, none⟩ :: rest) ρ σ Γ K := XOA.wr hd hr k (fun _ _ _ hp => hp.elim)
theorem XOA.wanted {d : Option Nat} {op : Op} {ty : TypeId} {pos : String} {af : Array Edge} {j : Nat} {b : Bool} {t : Nat} (hj : (all[j]?).bind (·.dst) = some t) (hb : ρ t = .bool b)
    (k : XOA P N all (⟨d, op, ty, pos, af, none⟩ :: rest) ρ σ Γ K) : XOA P N all (⟨d, op, ty, pos, af, some (j, b)⟩ :: rest) ρ σ Γ K := ⟨fun f h hh => XO.wanted hj hb (k.out f h hh)⟩
theorem XOA.unwanted {d : Nat} {op : Op} {ty : TypeId} {pos : String} {af : Array Edge} {j : Nat} {b c : Bool} {t : Nat} (hd : Nat.blt d N = true) (hj : (all[j]?).bind (·.dst) = some t) (hb : ρ t = .bool c) (hne : (c == b) = false)
    (k : XOA P N all rest (upd ρ d undef) σ Γ K) : XOA P N all (⟨some d, op, ty, pos, af, some (j, b)⟩ :: rest) ρ σ Γ K := ⟨fun f h hh => XO.unwanted hd hj hb hne (k.out f h hh)⟩
theorem XOA.unwantedU {d : Nat} {op : Op} {ty : TypeId} {pos : String} {af : Array Edge} {j : Nat} {b : Bool} {t : Nat} (hd : Nat.blt d N = true) (hj : (all[j]?).bind (·.dst) = some t) (hb : ρ t = undef)
    (k : XOA P N all rest (upd ρ d undef) σ Γ K) : XOA P N all (⟨some d, op, ty, pos, af, some (j, b)⟩ :: rest) ρ σ Γ K := ⟨fun f h hh => XO.unwantedU hd hj hb (k.out f h hh)⟩
theorem XOA.wantedP {p : Prop} {inst : Decidable p} {d : Option Nat} {op : Op} {ty : TypeId} {pos : String} {af : Array Edge} {j : Nat} {b : Bool} {t : Nat} (hj : (all[j]?).bind (·.dst) = some t) (hb : ρ t = .bool (@decide p inst)) (hp : @decide p inst = b)
    (k : XOA P N all (⟨d, op, ty, pos, af, none⟩ :: rest) ρ σ Γ K) : XOA P N all (⟨d, op, ty, pos, af, some (j, b)⟩ :: rest) ρ σ Γ K := XOA.wanted hj (hp ▸ hb) k
theorem XOA.unwantedP {p : Prop} {inst : Decidable p} {d : Nat} {op : Op} {ty : TypeId} {pos : String} {af : Array Edge} {j : Nat} {b : Bool} {t : Nat} (hd : Nat.blt d N = true) (hj : (all[j]?).bind (·.dst) = some t) (hb : ρ t = .bool (@decide p inst)) (hp : @decide p inst = !b)
    (k : XOA P N all rest (upd ρ d undef) σ Γ K) : XOA P N all (⟨some d, op, ty, pos, af, some (j, b)⟩ :: rest) ρ σ Γ K := XOA.unwanted (c := !b) hd hj (hp ▸ hb) (by cases b <;> rfl) k
end
theorem Wr.toA {op : Op} {ty : TypeId} {R : Value → PH → List HP → Prop} {Q : Heap → Value → Heap → Prop} (hr : ∀ h, Ho σ Γ h → Wr P ρ h op ty (Q h) noP) (hq : ∀ f h v h', Holds σ Γ f h → Q h v h' → ∃ σ' Γ', R v σ' Γ' ∧ Holds σ' Γ' f h') : WrA P ρ σ Γ op ty R noPA :=
  ⟨fun f h hh => ⟨fun d pos af g a w next Q' he hw hn hp => (hr h hh.ho).out d pos af g a w next Q' he hw (fun v w' s q => hn v w' s (hq f h v _ hh q)) (fun _ _ _ q => q.elim)⟩⟩
section
variable {ty : TypeId}
theorem WrA.alloc {T : TypeId} {r : Ty} (hT : tyOf P T = some r) : WrA P ρ σ Γ (.alloc T) ty (fun v σ' Γ' => ∃ g, v = .pointer (some ⟨g, 0, none⟩) ∧ σ = σ' ∧ Γ' = blk g r.zero T :: Γ) noPA :=
  Wr.toA (Q := fun h v h' => v = .pointer (some ⟨h.size, 0, none⟩) ∧ h' = h.push (cellsOf r.zero T)) (fun _ _ => Wr.alloc hT rfl) fun f h v h' hh ⟨e1, e2⟩ => ⟨σ, _, ⟨h.size, e1, rfl, rfl⟩, e2 ▸ hh.alloc _ _⟩
theorem WrA.box {T : TypeId} {x : Operand} {v : Value} {l : List Value} (hx : ev ρ x = v) (hl : v.cells = l.toArray) : WrA P ρ σ Γ (.box T x) ty (fun v' σ' Γ' => ∃ g, v' = .pointer (some ⟨g, 0, none⟩) ∧ σ = σ' ∧ Γ' = blk g l T :: Γ) noPA :=
  Wr.toA (Q := fun h v h' => v = .pointer (some ⟨h.size, 0, none⟩) ∧ h' = h.push (cellsOf l T)) (fun _ _ => Wr.box hx rfl hl) fun f h v h' hh ⟨e1, e2⟩ => ⟨σ, _, ⟨h.size, e1, rfl, rfl⟩, e2 ▸ hh.alloc _ _⟩
theorem WrA.store {T : TypeId} {x y : Operand} {g o : Nat} {v : Value} {vs : List Value} {r : Ty} {l l' : List Value} {T' : TypeId} {Γ' : List HP} (hT : tyOf P T = some r) (hx : ev ρ x = .pointer (some ⟨g, o, none⟩)) (s : Sel Γ (blk g l T') Γ') (hy : ev ρ y = v) (hv : v.cells = vs.toArray)
    (hn : vs.length = r.size) (hfit : o + r.size ≤ l.length) (h1 : ones vs) (hh : splice l o vs = l') : WrA P ρ σ Γ (.store T x y) ty (fun v' σ' Δ => v' = undef ∧ σ = σ' ∧ Δ = blk g l' T' :: Γ') noPA :=
  Wr.toA (Q := fun h v h' => v = undef ∧ h' = hset h g l' T') (fun h hh' => Wr.store hT hx hy hv (hh'.blk s) hn hfit h1 hh) fun f h v h' hh' ⟨e1, e2⟩ => ⟨σ, _, ⟨e1, rfl, rfl⟩, e2 ▸ hh'.set s l'⟩
theorem WrA.slice1 {T e : TypeId} {x : Operand} {v : Value} {r re : Ty} {l : List Value} (hT : tyOf P T = some r) (hk : r.k = .slice e) (hE : tyOf P e = some re) (hx : ev ρ x = v) (hl : v.cells = l.toArray) (hln : l.length = re.size) (hz : re.zero.length = re.size) (hs : re.size ≤ 1000) (hs0 : Nat.beq re.size 0 = false) :
    WrA P ρ σ Γ (.buildSlice T 1 #[(0, x)]) ty (fun v' σ' Γ' => ∃ g, v' = .slice (some ⟨g, 0, none⟩) 1 1 ∧ σ = σ' ∧ Γ' = blk g l e :: Γ) noPA :=
  Wr.toA (Q := fun h v h' => v = .slice (some ⟨h.size, 0, none⟩) 1 1 ∧ h' = h.push (cellsOf l e)) (fun _ _ => Wr.slice1 hT hk hE hx rfl hl hln hz hs hs0) fun f h v h' hh ⟨e1, e2⟩ => ⟨σ, _, ⟨h.size, e1, rfl, rfl⟩, e2 ▸ hh.alloc _ _⟩
theorem WrA.buildSlice {T e len : Nat} {tb : Nat → Option Ty} {parts : List (Nat × Operand)} {ps : List (Nat × Value)} {r re : Ty} {cs : List Value} (htb : ∀ T r, tb T = some r → tyOf P T = some r) (hT : tb T = some r) (hk : r.k = .slice e) (hE : tb e = some re) (hz : re.zero.length = re.size)
    (hsm : Nat.ble (len * re.size) 16777216 = true) (hp : (parts.map fun p => (p.1, ev ρ p.2)) = ps) (hb : bld (fun i => some (i * re.size, re.size)) ps ((List.range (len * re.size)).map fun k => re.zero.getD (k % re.size) undef) = some cs) :
    WrA P ρ σ Γ (.buildSlice T len parts.toArray) ty (fun v' σ' Γ' => ∃ g, v' = .slice (some ⟨g, 0, none⟩) len len ∧ σ = σ' ∧ Γ' = blk g cs e :: Γ) noPA :=
  Wr.toA (Q := fun h v h' => v = .slice (some ⟨h.size, 0, none⟩) len len ∧ h' = h.push (cellsOf cs e)) (fun _ _ => Wr.buildSlice htb hT hk hE rfl hz hsm hp hb) fun f h v h' hh ⟨e1, e2⟩ => ⟨σ, _, ⟨h.size, e1, rfl, rfl⟩, e2 ▸ hh.alloc _ _⟩

/-! lists of one's own -/
/-- The block of a list. -/
def lstA (g cap : Nat) (e size n : Nat) (xs : List Value) : HP := fun m => ∃ cur, blk g cur e m ∧ n ≤ cap ∧ cap ≤ maxLen ∧ cap * size ≤ cur.length ∧ cur.take (n * size) = xs
/-- v is a list of n elements, of size cells each, of one's own. -/
def lst (e size : Nat) (v : Value) (n : Nat) (xs : List Value) : HP := fun m => xs.length = n * size ∧ ((v = .slice none 0 0 ∧ n = 0) ∨ ∃ g cap, v = .slice (some ⟨g, 0, none⟩) n cap ∧ lstA g cap e size n xs m)
theorem lst_nil (e size : Nat) (m : PH) : lst e size (.slice none 0 0) 0 [] m := ⟨by simp, .inl ⟨rfl, rfl⟩⟩
theorem Holds.own {f : PH} {Γ' : List HP} {h : Heap} {e size n : Nat} {v : Value} {xs : List Value} (x : Holds σ Γ f h) (s : Sel Γ (lst e size v n xs) Γ') : Own h e size v n xs (fun g => v.ownBlock = some g) := by
  obtain ⟨m, a, b, c⟩ := x
  obtain ⟨m1, m2, ⟨p1, p2⟩, q, r, t, u⟩ := s.to a
  refine ⟨p1, p2.imp id ?_⟩
  rintro ⟨g, cap, rfl, cur, w1, w2⟩
  exact ⟨g, cap, cur, rfl, rfl, ⟨b g _ (t g _ w1)⟩, w2⟩
theorem Holds.app {f : PH} {Γ' : List HP} {h h' : Heap} {e size n n' : Nat} {v v' : Value} {xs xs' : List Value} (x : Holds σ Γ f h) (s : Sel Γ (lst e size v n xs) Γ') (ho : Own h' e size v' n' xs' (fun g => v.ownBlock = some g ∨ h.size ≤ g)) (hb : But h h' v.ownBlock) : Holds σ (lst e size v' n' xs' :: Γ') f h' := by
  obtain ⟨m, a, b, c, d, i, p, q⟩ := x
  obtain ⟨m1, m2, ⟨r0, r1⟩, r2, r3, r4, r5⟩ := s.to a
  have own : ∀ g, v.ownBlock = some g → ∃ o, m1 g = some o := by
    intro g hg
    rcases r1 with ⟨rfl, -⟩ | ⟨g', cap, rfl, cur, w1, w2⟩
    · cases hg
    · simp only [Value.ownBlock, Option.some.injEq] at hg; subst hg; exact ⟨_, w1⟩
  have keep : ∀ {n : PH}, n.le h → m1.dis n → n.le h' := fun {n} hn hd k o hk => by
    rw [hb.get k (hn.lt hk) (fun e => ?_)]
    · exact hn k o hk
    · obtain ⟨o', ho'⟩ := own k e.symm
      exact hd k _ _ ho' hk
  obtain ⟨q1, q2⟩ := ho
  rcases q2 with ⟨rfl, rfl⟩ | ⟨g, cap, cur, rfl, hF, hg, z1, z2, z3, z4⟩
  · exact ⟨m2, ⟨PH.none, m2, ⟨q1, .inl ⟨rfl, rfl⟩⟩, r2, (PH.none_dis m2).symm, PH.none_sub _, .refl _⟩, keep (r5.le b) r3, keep c (i.mono r4 (.refl _)), keep d (p.mono r4 (.refl _)), i.mono r5 (.refl _), p.mono r5 (.refl _), q⟩
  · have dis : ∀ {n : PH}, n.le h → m1.dis n → (PH.one g (cellsOf cur e)).dis n := fun {n} hn hd k o o' x y => by
      obtain ⟨rfl, -⟩ := PH.one_some x
      rcases hF with hF | hF
      · obtain ⟨o', ho'⟩ := own k hF
        exact hd k _ _ ho' y
      · exact absurd (hn.lt y) (by omega)
    have d2 := dis (r5.le b) r3
    refine ⟨(PH.one g (cellsOf cur e)).or m2, ⟨PH.one g (cellsOf cur e), m2, ⟨q1, .inr ⟨g, cap, rfl, cur, by simp [X.blk, PH.one], z1, z2, z3, z4⟩⟩, r2, d2, PH.or_l _ _, PH.or_r d2⟩, PH.or_le (fun k o hk => ?_) (keep (r5.le b) r3), keep c (i.mono r4 (.refl _)), keep d (p.mono r4 (.refl _)), PH.or_dis (dis c (i.mono r4 (.refl _))) (i.mono r5 (.refl _)), PH.or_dis (dis d (p.mono r4 (.refl _))) (p.mono r5 (.refl _)), q⟩
    obtain ⟨rfl, rfl⟩ := PH.one_some hk
    exact hg.get
theorem WrA.append {T e : TypeId} {x y : Operand} {ty : TypeId} {r re : Ty} {v : Value} {n m c g o : Nat} {xs news : List Value} {Γ' : List HP} (hT : tyOf P T = some r) (hk : r.k = .slice e) (hE : tyOf P e = some re) (hz : re.zero.length = re.size)
    (hs : ev ρ x = v) (s : Sel Γ (lst e re.size v n xs) Γ') (hy : ev ρ y = .slice (some ⟨g, o, none⟩) m c) (hrow : At (Ho σ Γ) g o news) (hl : news.length = m * re.size) (h1 : ones news) (hm : 0 < m) (h63 : n + m ≤ maxLen) (hb : (n + m) * re.bytes ≤ 140737488355328) :
    WrA P ρ σ Γ (.call { callee := .builtin .append, args := #[x, y], argTypes := #[T, T] }) ty (fun v' σ' Δ => ∃ p c, v' = .slice p (n + m) c ∧ σ = σ' ∧ Δ = lst e re.size (.slice p (n + m) c) (n + m) (xs ++ news) :: Γ') noPA :=
  ⟨fun f h hh => ⟨fun d pos af gd a w next Q' he hw hn hp =>
    (Wr.append hT hk hE hz (hh.own s) hs (hrow.out h hh.ho) hy hl h1 hm h63 hb).out d pos af gd a w next Q' he hw (fun v' w' sm q => by obtain ⟨p, c, rfl⟩ := q.1.shape; exact hn _ w' sm ⟨σ, _, ⟨p, c, rfl, rfl, rfl⟩, hh.app s q.1 q.2.1⟩) (fun _ _ _ q => q.elim)⟩⟩
/-- One element, of a literal that is used up. -/
theorem WrA.append1 {T e : TypeId} {x y : Operand} {ty : TypeId} {r re : Ty} {v : Value} {n c g : Nat} {xs news : List Value} {Γ1 Γ' : List HP} {T' : TypeId} (hT : tyOf P T = some r) (hk : r.k = .slice e) (hE : tyOf P e = some re) (hz : re.zero.length = re.size)
    (hs : ev ρ x = v) (hy : ev ρ y = .slice (some ⟨g, 0, none⟩) 1 c) (hg : Sel Γ (blk g news T') Γ1) (s : Sel Γ1 (lst e re.size v n xs) Γ') (hl : news.length = re.size) (h1 : ones news) (h63 : n + 1 ≤ maxLen) (hb : (n + 1) * re.bytes ≤ 140737488355328) :
    WrA P ρ σ Γ (.call { callee := .builtin .append, args := #[x, y], argTypes := #[T, T] }) ty (fun v' σ' Δ => ∃ p c, v' = .slice p (n + 1) c ∧ σ = σ' ∧ Δ = lst e re.size (.slice p (n + 1) c) (n + 1) (xs ++ news) :: Γ') noPA :=
  ⟨fun f h hh => ⟨fun d pos af gd a w next Q' he hw hn hp => by
    have h2 : Holds σ Γ1 f h := hh.ent (fun m hm => by obtain ⟨m1, m2, p, q, r, s, t⟩ := hg.to hm; exact q.mono t)
    exact (Wr.append hT hk hE hz (h2.own s) hs (hh.ho.blk hg).rowAll hy (by omega) h1 (by omega) h63 hb).out d pos af gd a w next Q' he hw (fun v' w' sm q => by obtain ⟨p, c, rfl⟩ := q.1.shape; exact hn _ w' sm ⟨σ, _, ⟨p, c, rfl, rfl, rfl⟩, h2.app s q.1 q.2.1⟩) (fun _ _ _ q => q.elim)⟩⟩
end

/-! calls -/
def CallsA (P : Program) (f : FuncId) (vs : Array Value) (σ : PH) (Γ : List HP) (R : Ending → PH → List HP → Prop) : Prop :=
  Enters P f ∧ ∀ fr h, Holds σ Γ fr h → CallsX P f vs h (fun e h' => ∃ σ' Γ', R e σ' Γ' ∧ Holds σ' Γ' fr h')
def RetA (R : Value → PH → List HP → Prop) : Ending → PH → List HP → Prop
  | .returned v, σ, Γ => R v σ Γ
  | _, _, _ => False
theorem CallsA.mono {f : FuncId} {vs : Array Value} {R R' : Ending → PH → List HP → Prop} (hc : CallsA P f vs σ Γ R) (hr : ∀ e σ' Γ', R e σ' Γ' → R' e σ' Γ') : CallsA P f vs σ Γ R' :=
  ⟨hc.1, fun fr h hh => (hc.2 fr h hh).mono fun e h' ⟨σ', Γ', a, b⟩ => ⟨σ', Γ', hr _ _ _ a, b⟩⟩
theorem CallsA.ret {f : FuncId} {vs : Array Value} {R R' : Value → PH → List HP → Prop} (hc : CallsA P f vs σ Γ (RetA R)) (hr : ∀ v σ' Γ', R v σ' Γ' → R' v σ' Γ') : CallsA P f vs σ Γ (RetA R') :=
  CallsA.mono hc fun e _ _ he => by cases e <;> first | exact hr _ _ _ he | exact he
/-- What is not wanted by a call stays. -/
theorem CallsA.frame {f : FuncId} {vs : Array Value} {R : Ending → PH → List HP → Prop} {Γ0 : List HP} (Δ : List HP) (hc : CallsA P f vs σ Γ0 R) (he : Ent Γ (Γ0 ++ Δ)) : CallsA P f vs σ Γ (fun e σ' Γ' => ∃ Γ1, R e σ' Γ1 ∧ Γ' = Γ1 ++ Δ) :=
  ⟨hc.1, fun fr h hh => by
    obtain ⟨f', a, b⟩ := (hh.ent he).aside
    exact (hc.2 f' h a).mono fun e h' ⟨σ', Γ', x, y⟩ => ⟨σ', _, ⟨Γ', x, rfl⟩, b _ _ _ y⟩⟩
theorem WrA.callG {f : FuncId} {fo : Operand} {first cap : List Value} {args : List Operand} {ats : Array TypeId} {vs : List Value} {ty : TypeId} {R : Ending → PH → List HP → Prop} {Γ0 Δ : List HP} (hf : ev ρ fo = .func (.func f) first.toArray cap.toArray)
    (hc : CallsA P f vs.toArray σ Γ0 R) (hv : first ++ args.map (ev ρ) ++ cap = vs) (he : Ent Γ (Γ0 ++ Δ)) (ko : ∀ σ' Γ', ¬ R .outgrown σ' Γ') :
    WrA P ρ σ Γ (.call { callee := .value fo, args := args.toArray, argTypes := ats }) ty (fun v σ' Γ' => ∃ Γ1, R (.returned v) σ' Γ1 ∧ Γ' = Γ1 ++ Δ) (fun c σ' Γ' => ∃ Γ1, R (.panicked c) σ' Γ1 ∧ Γ' = Γ1 ++ Δ) :=
  ⟨fun fr h hh => Wr.callG hf ((CallsA.frame Δ hc he).2 fr h hh) hv (fun h' => by rintro ⟨σ', Γ', ⟨Γ1, x, -⟩, -⟩; exact ko _ _ x)⟩
theorem WrA.noP {op : Op} {ty : TypeId} {R : Value → PH → List HP → Prop} {pk : List PanicEntry → PH → List HP → Prop} (hw : WrA P ρ σ Γ op ty R pk) (hn : ∀ c σ' Γ', ¬ pk c σ' Γ') : WrA P ρ σ Γ op ty R noPA :=
  ⟨fun f h hh => ⟨fun d pos af g a w next Q' he hw' hn' hp => (hw.out f h hh).out d pos af g a w next Q' he hw' hn' (fun c w' _ q => by obtain ⟨σ', Γ', x, y⟩ := q; exact (hn _ _ _ x).elim)⟩⟩
theorem WrA.callV {f : FuncId} {fo : Operand} {first cap : List Value} {args : List Operand} {ats : Array TypeId} {vs : List Value} {ty : TypeId} {R : Value → PH → List HP → Prop} {Γ0 Δ : List HP} (hf : ev ρ fo = .func (.func f) first.toArray cap.toArray)
    (hc : CallsA P f vs.toArray σ Γ0 (RetA R)) (hv : first ++ args.map (ev ρ) ++ cap = vs) (he : Ent Γ (Γ0 ++ Δ)) :
    WrA P ρ σ Γ (.call { callee := .value fo, args := args.toArray, argTypes := ats }) ty (fun v σ' Γ' => ∃ Γ1, R v σ' Γ1 ∧ Γ' = Γ1 ++ Δ) noPA :=
  (WrA.callG hf hc hv he (fun _ _ hp => hp)).noP (fun _ _ _ ⟨_, hp, _⟩ => hp)
theorem WrA.call {f : FuncId} {args : List Operand} {ats : Array TypeId} {vs : List Value} {ty : TypeId} {R : Value → PH → List HP → Prop} {Γ0 Δ : List HP}
    (hc : CallsA P f vs.toArray σ Γ0 (RetA R)) (hv : args.map (ev ρ) = vs) (he : Ent Γ (Γ0 ++ Δ)) :
    WrA P ρ σ Γ (.call { callee := .value (.func f), args := args.toArray, argTypes := ats }) ty (fun v σ' Γ' => ∃ Γ1, R v σ' Γ1 ∧ Γ' = Γ1 ++ Δ) noPA :=
  WrA.callV (first := []) (cap := []) rfl hc (by simpa using hv) he

/-! a function's body -/
def ResA (P : Program) (fn : Func) (ρ : Env) (σ : PH) (Γ : List HP) (v : Value) : Prop := ∀ h, Ho σ Γ h → Res P fn ρ h v
def bodyA (P : Program) (fn : Func) (R : Ending → PH → List HP → Prop) : KA
  | .normal, ρ, σ, Γ | .ret, ρ, σ, Γ => ∃ v, ResA P fn ρ σ Γ v ∧ ∃ Γ', Ent Γ Γ' ∧ R (.returned v) σ Γ'
  | .panic c, _, σ, Γ => R (.panicked c) σ Γ
  | _, _, _, _ => False
theorem XA.toX {fn : Func} {c : Code} {R : Ending → PH → List HP → Prop} (hx : XA P fn.ntmps c ρ σ Γ (bodyA P fn R)) {fr : PH} {h : Heap} (hh : Holds σ Γ fr h) : X P fn.ntmps c ρ h (bodyK P fn (fun e h' => ∃ σ' Γ', R e σ' Γ' ∧ Holds σ' Γ' fr h')) := by
  refine X.mono (hx.out fr h hh) ?_
  rintro e ρ' h' ⟨σ', Γ', hk, hh'⟩
  cases e with
  | normal => obtain ⟨v, a, Δ, b, c⟩ := hk; exact ⟨v, a h' hh'.ho, σ', Δ, c, hh'.ent b⟩
  | ret => obtain ⟨v, a, Δ, b, c⟩ := hk; exact ⟨v, a h' hh'.ho, σ', Δ, c, hh'.ent b⟩
  | panic c => exact ⟨σ', Γ', hk, hh'⟩
  | _ => exact hk.elim
section
variable {f : FuncId} {fn : Func} {co : Code} {R : Ending → PH → List HP → Prop} (hf : P.funcs[f]? = some fn) (hb : fn.body = some co) (hn : goodName fn = true)
include hf hb hn
theorem enterA0 (hN : Nat.ble 0 fn.ntmps = true) (hx : XA P fn.ntmps co U σ Γ (bodyA P fn R)) : CallsA P f #[] σ Γ R := ⟨enters hf hb hn, fun _ _ hh => enter0 hf hb hn hN (XA.toX hx hh)⟩
theorem enterA1 {a : Value} (hN : Nat.ble 1 fn.ntmps = true) (hx : XA P fn.ntmps co (upd U 0 a) σ Γ (bodyA P fn R)) : CallsA P f #[a] σ Γ R := ⟨enters hf hb hn, fun _ _ hh => enter1 hf hb hn hN (XA.toX hx hh)⟩
theorem enterA2 {a b : Value} (hN : Nat.ble 2 fn.ntmps = true) (hx : XA P fn.ntmps co (upd (upd U 0 a) 1 b) σ Γ (bodyA P fn R)) : CallsA P f #[a, b] σ Γ R := ⟨enters hf hb hn, fun _ _ hh => enter2 hf hb hn hN (XA.toX hx hh)⟩
theorem enterA3 {a b c : Value} (hN : Nat.ble 3 fn.ntmps = true) (hx : XA P fn.ntmps co (upd (upd (upd U 0 a) 1 b) 2 c) σ Γ (bodyA P fn R)) : CallsA P f #[a, b, c] σ Γ R := ⟨enters hf hb hn, fun _ _ hh => enter3 hf hb hn hN (XA.toX hx hh)⟩
theorem enterA4 {a b c d : Value} (hN : Nat.ble 4 fn.ntmps = true) (hx : XA P fn.ntmps co (upd (upd (upd (upd U 0 a) 1 b) 2 c) 3 d) σ Γ (bodyA P fn R)) : CallsA P f #[a, b, c, d] σ Γ R := ⟨enters hf hb hn, fun _ _ hh => enter4 hf hb hn hN (XA.toX hx hh)⟩
theorem enterA5 {a b c d e : Value} (hN : Nat.ble 5 fn.ntmps = true) (hx : XA P fn.ntmps co (upd (upd (upd (upd (upd U 0 a) 1 b) 2 c) 3 d) 4 e) σ Γ (bodyA P fn R)) : CallsA P f #[a, b, c, d, e] σ Γ R := ⟨enters hf hb hn, fun _ _ hh => enter5 hf hb hn hN (XA.toX hx hh)⟩
end
theorem bodyA.ret {fn : Func} {R : Ending → PH → List HP → Prop} {v : Value} {Γ' : List HP} (hr : ResA P fn ρ σ Γ v) (he : Ent Γ Γ') (hR : R (.returned v) σ Γ') : DA (bodyA P fn R) .ret ρ σ Γ := .here ⟨v, hr, Γ', he, hR⟩
theorem bodyA.normal {fn : Func} {R : Ending → PH → List HP → Prop} {v : Value} {Γ' : List HP} (hr : ResA P fn ρ σ Γ v) (he : Ent Γ Γ') (hR : R (.returned v) σ Γ') : DA (bodyA P fn R) .normal ρ σ Γ := .here ⟨v, hr, Γ', he, hR⟩
theorem bodyA.panic {fn : Func} {R : Ending → PH → List HP → Prop} {c : List PanicEntry} {Γ' : List HP} (he : Ent Γ Γ') (hR : R (.panicked c) σ Γ') : DA (bodyA P fn R) (.panic c) ρ σ Γ := .ent he (.here hR)
theorem ResA.none {fn : Func} (hf : fn.results = #[]) : ResA P fn ρ σ Γ (.tuple #[]) := fun _ _ => Res.none hf
theorem ResA.one {fn : Func} {t : Tmp} {v : Value} (hf : fn.results = #[.tmp t]) (hv : ρ t = v) : ResA P fn ρ σ Γ v := fun _ _ => Res.one hf hv
theorem ResA.two {fn : Func} {t u : Tmp} {v v' : Value} (hf : fn.results = #[.tmp t, .tmp u]) (hv : ρ t = v) (hv' : ρ u = v') : ResA P fn ρ σ Γ (.tuple #[v, v']) := fun _ _ => Res.two hf hv hv'
theorem ResA.cell {fn : Func} {t : Tmp} {T : TypeId} {g o : Nat} {v : Value} (hf : fn.results = #[.cell t T]) (hv : ρ t = .pointer (some ⟨g, o, Option.none⟩)) (hl : ∀ h, Ho σ Γ h → Ld P h T g o v) : ResA P fn ρ σ Γ v := fun h hh => Res.cell hf hv (hl h hh)

/-! loops -/
/-- A loop: what its head's slots hold is told by a state x; the rest of what is owned stays. -/
theorem XA.loop {c : Code} {τ : Type} (L : List (Nat × Nat)) (E : τ → List (Nat × Value)) (I : τ → PH → List HP → Prop) (μ : τ → Nat) (x0 : τ) (e0 : Mat ρ (E x0)) {Δ0 : List HP} (hE0 : Ent Γ Δ0) (h0 : I x0 σ Δ0)
    (round : ∀ x δ σ' Γ', I x σ' Γ' → XA P N c ((E x).foldl (fun r p => upd r p.1 p.2) (ovr L ρ δ)) σ' Γ' (thnA (fun ρ' σ'' Γ'' => Keep L ρ ρ' ∧ ∃ x' Δ, Mat ρ' (E x') ∧ Ent Γ'' Δ ∧ I x' σ'' Δ ∧ μ x' < μ x) K)) : XA P N (.loop c) ρ σ Γ K := by
  refine ⟨fun f h hh => loopG (σ := τ) L E (fun x h' => ∃ σ' Γ', I x σ' Γ' ∧ Holds σ' Γ' f h') μ x0 e0 ⟨σ, Δ0, h0, hh.ent hE0⟩ ?_⟩
  rintro x δ h' ⟨σ', Γ', hI, hh'⟩
  refine X.mono ((round x δ σ' Γ' hI).out f h' hh') ?_
  rintro e ρ' h'' ⟨σ'', Γ'', hk, hh''⟩
  cases e with
  | normal => obtain ⟨k1, x', Δ, k2, k3, k4, k5⟩ := hk; exact ⟨k1, x', k2, ⟨σ'', Δ, k4, hh''.ent k3⟩, k5⟩
  | _ => exact ⟨σ'', Γ'', hk, hh''⟩

/-! regions whose order is drawn -/
/-- (σ0, Γ0: what is read in the region; f: of others.) -/
structure XPA (P : Program) (N : Nat) (ops : Array Oper) (σ0 : PH) (Γ0 : List HP) (z : List Nat) (pl : List (Nat × Kd)) (ρ : Env) (σ : PH) (Γ : List HP) (K : KA) : Prop where
  out : ∀ f h, Holds σ Γ f h → (σ0.sub σ ∧ Ent Γ Γ0 ∨ late z pl = true) → XP P N ops (Ho σ0 Γ0) z pl ρ h (KF f K)
theorem Holds.sub {f σ0 : PH} {h : Heap} (x : Holds σ Γ f h) (hs : σ0.sub σ) : Holds σ0 Γ f h := by
  obtain ⟨m, a, b, c, d, i, p, q⟩ := x
  exact ⟨m, a, b, hs.le c, d, i.mono (.refl _) hs, p, q.mono hs (.refl _)⟩
theorem Holds.hoSub {f σ0 : PH} {Γ0 : List HP} {h : Heap} (x : Holds σ Γ f h) (hs : σ0.sub σ ∧ Ent Γ Γ0) : Ho σ0 Γ0 h := ((x.sub hs.1).ent hs.2).ho
section
variable {ops : Array Oper} {σ0 : PH} {Γ0 : List HP} {z : List Nat} {i : Nat} {pl : List (Nat × Kd)} {op : Op} {ty : TypeId} {pos : String} {af : Array Edge} {g : Option (Nat × Bool)}
theorem XA.draw {id : Nat} (hm : P.follows .mixedOrders = true) (σ0 : PH) (Γ0 : List HP) (z : List Nat) (pl : List (Nat × Kd)) (hv : (validFrom ops z pl ops.size (Array.replicate ops.size false) && Region.noSelect ops) = true) (hS : σ0.sub σ) (hE : Ent Γ Γ0) (hx : XPA P N ops σ0 Γ0 z pl ρ σ Γ K) : XA P N (.region id ops true) ρ σ Γ K :=
  ⟨fun f h hh => X.draw hm (Ho σ0 Γ0) z pl hv (hh.hoSub ⟨hS, hE⟩) (hx.out f h hh (.inl ⟨hS, hE⟩))⟩
theorem XPA.nil (hk : DA K .normal ρ σ Γ) : XPA P N ops σ0 Γ0 z [] ρ σ Γ K := ⟨fun f h hh _ => XP.nil (hk.out f h hh)⟩
theorem XPA.rd {d : Nat} {v : Value} (hi : ops[i]? = some ⟨some d, op, ty, pos, af, g⟩) (hd : Nat.blt d N = true) (hg : Gd ops ρ g true) (hr : Rd P ρ (Ho σ0 Γ0) op ty v) (k : XPA P N ops σ0 Γ0 z pl (upd ρ d v) σ Γ K) : XPA P N ops σ0 Γ0 z ((i, .rd) :: pl) ρ σ Γ K :=
  ⟨fun f h hh hs => XP.rd hi hd hg hr (k.out f h hh (.inl (hs.resolve_right (by simp [late]))))⟩
theorem XPA.off {d : Nat} (hi : ops[i]? = some ⟨some d, op, ty, pos, af, g⟩) (hd : Nat.blt d N = true) (hg : Gd ops ρ g false) (k : XPA P N ops σ0 Γ0 z pl (upd ρ d undef) σ Γ K) : XPA P N ops σ0 Γ0 z ((i, .rd) :: pl) ρ σ Γ K :=
  ⟨fun f h hh hs => XP.off hi hd hg (k.out f h hh (.inl (hs.resolve_right (by simp [late]))))⟩
theorem XPA.pu {d : Nat} {v : Value} (hi : ops[i]? = some ⟨some d, op, ty, pos, af, g⟩) (hd : Nat.blt d N = true) (hg : Gd ops ρ g true) (hr : Rd P ρ (fun _ => True) op ty v) (k : XPA P N ops σ0 Γ0 z pl (upd ρ d v) σ Γ K) : XPA P N ops σ0 Γ0 z ((i, .pu) :: pl) ρ σ Γ K :=
  ⟨fun f h hh hs => XP.puR hi hd hg hr (k.out f h hh (hs.imp id (fun hl => by simpa [late] using hl)))⟩
theorem XPA.puOff {d : Nat} (hi : ops[i]? = some ⟨some d, op, ty, pos, af, g⟩) (hd : Nat.blt d N = true) (hg : Gd ops ρ g false) (k : XPA P N ops σ0 Γ0 z pl (upd ρ d undef) σ Γ K) : XPA P N ops σ0 Γ0 z ((i, .pu) :: pl) ρ σ Γ K :=
  ⟨fun f h hh hs => XP.puOff hi hd hg (k.out f h hh (hs.imp id (fun hl => by simpa [late] using hl)))⟩
theorem XPA.offW {d : Option Nat} (hi : ops[i]? = some ⟨d, op, ty, pos, af, g⟩) (hd : dstOk N d = true) (hg : Gd ops ρ g false) (k : XPA P N ops σ0 Γ0 z pl (updO ρ d undef) σ Γ K) : XPA P N ops σ0 Γ0 z ((i, .wr) :: pl) ρ σ Γ K :=
  ⟨fun f h hh hs => XP.offW hi hd hg (k.out f h hh (hs.imp id (fun hl => by simp only [late, List.all_cons, Bool.and_eq_true] at hl ⊢; exact hl.2)))⟩
/-- A writer; what is read stays. -/
theorem XPA.wr {d : Option Nat} {R : Value → PH → List HP → Prop} {pk : List PanicEntry → PH → List HP → Prop} (hi : ops[i]? = some ⟨d, op, ty, pos, af, g⟩) (hd : dstOk N d = true) (hg : Gd ops ρ g true) (hr : WrA P ρ σ Γ op ty R pk)
    (k : ∀ v σ' Γ', R v σ' Γ' → (σ0.sub σ' ∧ Ent Γ' Γ0) ∧ XPA P N ops σ0 Γ0 z pl (updO ρ d v) σ' Γ' K) (kp : ∀ c σ' Γ', pk c σ' Γ' → DA K (.panic c) ρ σ' Γ') : XPA P N ops σ0 Γ0 z ((i, .wr) :: pl) ρ σ Γ K :=
  ⟨fun f h hh hs => XP.wr hi hd hg (hr.out f h hh) (fun v h' ⟨σ', Γ', a, b⟩ => ⟨b.hoSub (k v σ' Γ' a).1, (k v σ' Γ' a).2.out f h' b (.inl (k v σ' Γ' a).1)⟩) (fun c h' ⟨σ', Γ', a, b⟩ => (kp c σ' Γ' a).out f h' b)⟩
theorem XPA.wr0 {d : Option Nat} {R : Value → PH → List HP → Prop} (hi : ops[i]? = some ⟨d, op, ty, pos, af, g⟩) (hd : dstOk N d = true) (hg : Gd ops ρ g true) (hr : WrA P ρ σ Γ op ty R noPA)
    (k : ∀ v σ' Γ', R v σ' Γ' → (σ0.sub σ' ∧ Ent Γ' Γ0) ∧ XPA P N ops σ0 Γ0 z pl (updO ρ d v) σ' Γ' K) : XPA P N ops σ0 Γ0 z ((i, .wr) :: pl) ρ σ Γ K := XPA.wr hi hd hg hr k (fun _ _ _ hp => hp.elim)
/-- A late writer: what is read need not stay. -/
theorem XPA.wrZ {d : Option Nat} {R : Value → PH → List HP → Prop} {pk : List PanicEntry → PH → List HP → Prop} (hi : ops[i]? = some ⟨d, op, ty, pos, af, g⟩) (hd : dstOk N d = true) (hg : Gd ops ρ g true) (hz : (z.contains i && late z pl) = true) (hr : WrA P ρ σ Γ op ty R pk)
    (k : ∀ v σ' Γ', R v σ' Γ' → XPA P N ops σ0 Γ0 z pl (updO ρ d v) σ' Γ' K) (kp : ∀ c σ' Γ', pk c σ' Γ' → DA K (.panic c) ρ σ' Γ') : XPA P N ops σ0 Γ0 z ((i, .wr) :: pl) ρ σ Γ K := by
  simp only [Bool.and_eq_true] at hz
  exact ⟨fun f h hh _ => XP.wrG hi hd hg (hr.out f h hh) (fun v h' ⟨σ', Γ', a, b⟩ => ⟨.inl hz, (k v σ' Γ' a).out f h' b (.inr hz.2)⟩) (fun c h' ⟨σ', Γ', a, b⟩ => (kp c σ' Γ' a).out f h' b)⟩
theorem XPA.wrZ0 {d : Option Nat} {R : Value → PH → List HP → Prop} (hi : ops[i]? = some ⟨d, op, ty, pos, af, g⟩) (hd : dstOk N d = true) (hg : Gd ops ρ g true) (hz : (z.contains i && late z pl) = true) (hr : WrA P ρ σ Γ op ty R noPA)
    (k : ∀ v σ' Γ', R v σ' Γ' → XPA P N ops σ0 Γ0 z pl (updO ρ d v) σ' Γ' K) : XPA P N ops σ0 Γ0 z ((i, .wr) :: pl) ρ σ Γ K := XPA.wrZ hi hd hg hz hr k (fun _ _ _ hp => hp.elim)
end
end X
end Go.Proofs.Ytbbghdkndbpmmaa
