/- Separation: what stays for ever (σ), what is owned (Γ), what others own (f). -/
import Derived.Test.YtbbghdkndbpmmaaHeap
namespace Go.Proofs.Ytbbghdkndbpmmaa
namespace X
open Go
abbrev PH := Nat → Option Obj
def PH.le (m : PH) (h : Heap) : Prop := ∀ k o, m k = some o → h[k]? = some o
def PH.sub (m m' : PH) : Prop := ∀ k o, m k = some o → m' k = some o
def PH.dis (m m' : PH) : Prop := ∀ k o o', m k = some o → m' k = some o' → False
def PH.or (m m' : PH) : PH := fun k => match m k with | some o => some o | none => m' k
def PH.one (g : Nat) (o : Obj) : PH := fun k => if k = g then some o else none
theorem PH.sub.refl (m : PH) : m.sub m := fun _ _ h => h
theorem PH.sub.trans {a b c : PH} (h : a.sub b) (k : b.sub c) : a.sub c := fun i o x => k i o (h i o x)
theorem PH.sub.le {a b : PH} {h : Heap} (x : a.sub b) (y : b.le h) : a.le h := fun i o z => y i o (x i o z)
theorem PH.dis.symm {a b : PH} (h : a.dis b) : b.dis a := fun k o o' x y => h k o' o y x
theorem PH.dis.mono {a b a' b' : PH} (h : a.dis b) (x : a'.sub a) (y : b'.sub b) : a'.dis b' := fun k o o' p q => h k o o' (x k o p) (y k o' q)
theorem PH.or_l (a b : PH) : a.sub (a.or b) := fun k o h => by simp [PH.or, h]
theorem PH.or_r {a b : PH} (d : a.dis b) : b.sub (a.or b) := fun k o h => by
  unfold PH.or
  cases e : a k with
  | none => exact h
  | some o' => exact (d k o' o e h).elim
theorem PH.or_some {a b : PH} {k : Nat} {o : Obj} (h : (a.or b) k = some o) : a k = some o ∨ b k = some o := by
  unfold PH.or at h
  cases e : a k with
  | none => rw [e] at h; exact .inr h
  | some o' => rw [e] at h; exact .inl h
theorem PH.or_sub {a b c : PH} (h : a.sub c) (k : b.sub c) : (a.or b).sub c := fun i o x => (PH.or_some x).elim (h i o) (k i o)
theorem PH.or_le {a b : PH} {c : Heap} (h : a.le c) (k : b.le c) : (a.or b).le c := fun i o x => (PH.or_some x).elim (h i o) (k i o)
theorem PH.or_dis {a b c : PH} (h : a.dis c) (k : b.dis c) : (a.or b).dis c := fun i o o' x y => (PH.or_some x).elim (fun z => h i o o' z y) (fun z => k i o o' z y)
theorem PH.one_some {g k : Nat} {o o' : Obj} (h : PH.one g o k = some o') : k = g ∧ o' = o := by
  unfold PH.one at h; split at h
  · simp at h; exact ⟨by assumption, h.symm⟩
  · cases h
def PH.none : PH := fun _ => Option.none
theorem PH.none_le (h : Heap) : PH.none.le h := fun _ _ x => by cases x
theorem PH.none_sub (m : PH) : PH.none.sub m := fun _ _ x => by cases x
theorem PH.none_dis (m : PH) : m.dis PH.none := fun _ _ _ _ x => by cases x
def ofHeap (h : Heap) : PH := fun k => h[k]?
theorem ofHeap_le (h : Heap) : (ofHeap h).le h := fun _ _ x => x
theorem PH.le.lt {m : PH} {h : Heap} (hm : m.le h) {k : Nat} {o : Obj} (e : m k = some o) : k < h.size := lt_of_get (hm k o e)
theorem PH.le.push {m : PH} {h : Heap} (hm : m.le h) (o : Obj) : m.le (h.push o) := fun k o' e => by rw [get_push_old (hm.lt e)]; exact hm k o' e

def HP := PH → Prop
def Sat : List HP → PH → Prop
  | [], _ => True
  | R :: Γ, m => ∃ m1 m2, R m1 ∧ Sat Γ m2 ∧ m1.dis m2 ∧ m1.sub m ∧ m2.sub m
theorem Sat.mono : ∀ {Γ : List HP} {m m' : PH}, Sat Γ m → m.sub m' → Sat Γ m'
  | [], _, _, _, _ => trivial
  | _ :: _, _, _, ⟨m1, m2, a, b, c, d, e⟩, s => ⟨m1, m2, a, b, c, d.trans s, e.trans s⟩
theorem Sat.swap {R S : HP} {Γ : List HP} {m : PH} (h : Sat (R :: S :: Γ) m) : Sat (S :: R :: Γ) m := by
  obtain ⟨m1, m2, a, ⟨m3, m4, b, c, d, e, f⟩, g, i, j⟩ := h
  exact ⟨m3, m1.or m4, b, ⟨m1, m4, a, c, g.mono (.refl _) f, PH.or_l _ _, PH.or_r (g.mono (.refl _) f)⟩, (PH.or_dis (g.mono (.refl _) e) d.symm).symm, e.trans j, PH.or_sub i (f.trans j)⟩
theorem Sat.cons_mono {R : HP} {Γ Δ : List HP} (hs : ∀ m, Sat Γ m → Sat Δ m) {m : PH} (h : Sat (R :: Γ) m) : Sat (R :: Δ) m := by
  obtain ⟨m1, m2, a, b, c, d, e⟩ := h
  exact ⟨m1, m2, a, hs _ b, c, d, e⟩
inductive Sel : List HP → HP → List HP → Prop where
  | head {R : HP} {Γ : List HP} : Sel (R :: Γ) R Γ
  | tail {R S : HP} {Γ Γ' : List HP} (h : Sel Γ R Γ') : Sel (S :: Γ) R (S :: Γ')
theorem Sel.to {Γ Γ' : List HP} {R : HP} (s : Sel Γ R Γ') : ∀ {m : PH}, Sat Γ m → Sat (R :: Γ') m := by
  induction s with
  | head => intro m h; exact h
  | tail _ ih => intro m h; exact (Sat.cons_mono (fun _ => ih) h).swap
theorem Sel.of {Γ Γ' : List HP} {R : HP} (s : Sel Γ R Γ') : ∀ {m : PH}, Sat (R :: Γ') m → Sat Γ m := by
  induction s with
  | head => intro m h; exact h
  | tail _ ih => intro m h; exact Sat.cons_mono (fun _ => ih) h.swap
theorem Sat.append : ∀ {Γ Δ : List HP} {m : PH}, Sat (Γ ++ Δ) m → ∃ m1 m2, Sat Γ m1 ∧ Sat Δ m2 ∧ m1.dis m2 ∧ m1.sub m ∧ m2.sub m
  | [], Δ, m, h => ⟨PH.none, m, trivial, h, (PH.none_dis m).symm, PH.none_sub m, PH.sub.refl m⟩
  | R :: Γ, Δ, m, ⟨m1, m2, a, b, c, d, e⟩ => by
    obtain ⟨n1, n2, p, q, r, s, t⟩ := Sat.append b
    exact ⟨m1.or n1, n2, ⟨m1, n1, a, p, c.mono (.refl _) s, PH.or_l _ _, PH.or_r (c.mono (.refl _) s)⟩, q, PH.or_dis (c.mono (.refl _) t) r, PH.or_sub d (s.trans e), t.trans e⟩
theorem Sat.join : ∀ {Γ Δ : List HP} {m1 m2 m : PH}, Sat Γ m1 → Sat Δ m2 → m1.dis m2 → m1.sub m → m2.sub m → Sat (Γ ++ Δ) m
  | [], _, _, _, _, _, h, _, _, e => h.mono e
  | R :: Γ, Δ, m1, m2, m, ⟨n1, n2, p, q, r, s, t⟩, h, d, e, f => by
    refine ⟨n1, n2.or m2, p, Sat.join q h (d.mono t (.refl _)) (PH.or_l _ _) (PH.or_r (d.mono t (.refl _))), (PH.or_dis r.symm (d.symm.mono (.refl _) s)).symm, s.trans e, PH.or_sub (t.trans e) f⟩
/-- What Γ gives. -/
def Ent (Γ Δ : List HP) : Prop := ∀ m, Sat Γ m → Sat Δ m
theorem Ent.refl (Γ : List HP) : Ent Γ Γ := fun _ h => h
theorem Ent.trans {Γ Δ Ω : List HP} (h : Ent Γ Δ) (k : Ent Δ Ω) : Ent Γ Ω := fun m x => k m (h m x)
theorem Ent.nil (Γ : List HP) : Ent Γ [] := fun _ _ => trivial
theorem Ent.sel {Γ Γ' Δ : List HP} {R : HP} (s : Sel Γ R Γ') (h : Ent Γ' Δ) : Ent Γ (R :: Δ) := fun _ x => Sat.cons_mono h (s.to x)
theorem Ent.imp {Γ Γ' Δ : List HP} {R S : HP} (s : Sel Γ R Γ') (hi : ∀ m, R m → S m) (h : Ent Γ' Δ) : Ent Γ (S :: Δ) := fun _ x => by
  obtain ⟨m1, m2, a, b, c⟩ := s.to x
  exact ⟨m1, m2, hi _ a, h _ b, c⟩
/-- A thing of which the parts are Θ. -/
theorem Ent.fold {Γ Θ Γ' Δ : List HP} {S : HP} (s : Ent Γ (Θ ++ Γ')) (hi : ∀ m, Sat Θ m → S m) (h : Ent Γ' Δ) : Ent Γ (S :: Δ) := fun m x => by
  obtain ⟨m1, m2, a, b, c⟩ := Sat.append (s m x)
  exact ⟨m1, m2, hi _ a, h _ b, c⟩
theorem Ent.app {Γ Δ : List HP} (h : Ent Γ Δ) (Ω : List HP) : Ent (Γ ++ Ω) (Δ ++ Ω) := fun m x => by
  obtain ⟨m1, m2, a, b, c, d, e⟩ := Sat.append x
  exact Sat.join (h _ a) b c d e

structure Holds (σ : PH) (Γ : List HP) (f : PH) (h : Heap) : Prop where
  ex : ∃ m, Sat Γ m ∧ m.le h ∧ σ.le h ∧ f.le h ∧ m.dis σ ∧ m.dis f ∧ σ.dis f
def Ho (σ : PH) (Γ : List HP) (h : Heap) : Prop := ∃ f, Holds σ Γ f h
theorem Holds.ho {σ f : PH} {Γ : List HP} {h : Heap} (x : Holds σ Γ f h) : Ho σ Γ h := ⟨f, x⟩
theorem Holds.ent {σ f : PH} {Γ Δ : List HP} {h : Heap} (x : Holds σ Γ f h) (e : Ent Γ Δ) : Holds σ Δ f h := by
  obtain ⟨m, a, b⟩ := x; exact ⟨m, e m a, b⟩
theorem Ho.ent {σ : PH} {Γ Δ : List HP} {h : Heap} (x : Ho σ Γ h) (e : Ent Γ Δ) : Ho σ Δ h := by
  obtain ⟨f, y⟩ := x; exact ⟨f, y.ent e⟩
theorem Holds.per {σ f : PH} {Γ : List HP} {h : Heap} (x : Holds σ Γ f h) : σ.le h := by obtain ⟨m, a, b, c, d⟩ := x; exact c
/-- Others' things are put aside, and come back. -/
theorem Holds.aside {σ f : PH} {Γ Δ : List HP} {h : Heap} (x : Holds σ (Γ ++ Δ) f h) : ∃ f', Holds σ Γ f' h ∧ ∀ σ' Γ' h', Holds σ' Γ' f' h' → Holds σ' (Γ' ++ Δ) f h' := by
  obtain ⟨m, a, b, c, d, e, p, q⟩ := x
  obtain ⟨m1, m2, s1, s2, s3, s4, s5⟩ := Sat.append a
  have hd : f.dis m2 := (p.mono s5 (.refl _)).symm
  refine ⟨f.or m2, ⟨m1, s1, s4.le b, c, PH.or_le d (s5.le b), e.mono s4 (.refl _), (PH.or_dis (p.mono s4 (.refl _)).symm s3.symm).symm, (PH.or_dis q.symm (e.mono s5 (.refl _))).symm⟩, ?_⟩
  rintro σ' Γ' h' ⟨n, t1, t2, t3, t4, t5, t6, t7⟩
  have hf := PH.or_l f m2
  have hm := PH.or_r hd
  have hn2 : n.dis m2 := t6.mono (.refl _) hm
  exact ⟨n.or m2, Sat.join t1 s2 hn2 (PH.or_l _ _) (PH.or_r hn2), PH.or_le t2 (hm.le t4), t3, hf.le t4, PH.or_dis t5 (t7.symm.mono hm (.refl _)), PH.or_dis (t6.mono (.refl _) hf) hd.symm, t7.mono (.refl _) hf⟩

/-! blocks -/
def cellsOf (l : List Value) (T : TypeId) : Obj := .cells l.toArray T (0, 0)
/-- A block. -/
def blk (g : Nat) (l : List Value) (T : TypeId) : HP := fun m => m g = some (cellsOf l T)
theorem Holds.blk {σ f : PH} {Γ Γ' : List HP} {h : Heap} {g : Nat} {l : List Value} {T : TypeId} (x : Holds σ Γ f h) (s : Sel Γ (blk g l T) Γ') : Blk h g l T := by
  obtain ⟨m, a, b, c⟩ := x
  obtain ⟨m1, m2, p, q, r, t, u⟩ := s.to a
  exact ⟨b g _ (t g _ p)⟩
theorem Ho.blk {σ : PH} {Γ Γ' : List HP} {h : Heap} {g : Nat} {l : List Value} {T : TypeId} (x : Ho σ Γ h) (s : Sel Γ (X.blk g l T) Γ') : Blk h g l T := by
  obtain ⟨f, y⟩ := x; exact y.blk s
theorem Holds.alloc {σ f : PH} {Γ : List HP} {h : Heap} (x : Holds σ Γ f h) (l : List Value) (T : TypeId) : Holds σ (X.blk h.size l T :: Γ) f (h.push (cellsOf l T)) := by
  obtain ⟨m, a, b, c, d, e, p, q⟩ := x
  have fresh : ∀ {m : PH}, m.le h → (PH.one h.size (cellsOf l T)).dis m := fun {m} hm k o o' x y => by
    obtain ⟨rfl, -⟩ := PH.one_some x
    exact Nat.lt_irrefl _ (hm.lt y)
  refine ⟨(PH.one h.size (cellsOf l T)).or m, ⟨PH.one h.size (cellsOf l T), m, by simp [X.blk, PH.one], a, fresh b, PH.or_l _ _, PH.or_r (fresh b)⟩, PH.or_le (fun k o hk => ?_) (b.push _), c.push _, d.push _, PH.or_dis (fresh c) e, PH.or_dis (fresh d) p, q⟩
  obtain ⟨rfl, rfl⟩ := PH.one_some hk
  exact get_push_new rfl
theorem Holds.set {σ f : PH} {Γ Γ' : List HP} {h : Heap} {g : Nat} {l : List Value} {T : TypeId} (x : Holds σ Γ f h) (s : Sel Γ (X.blk g l T) Γ') (l' : List Value) : Holds σ (X.blk g l' T :: Γ') f (hset h g l' T) := by
  have hb := x.blk s
  obtain ⟨m, a, b, c, d, e, p, q⟩ := x
  obtain ⟨m1, m2, r1, r2, r3, r4, r5⟩ := s.to a
  have r1' : m1 g = some (cellsOf l T) := r1
  have keep : ∀ {n : PH}, n.le h → m1.dis n → n.le (hset h g l' T) := fun {n} hn hd k o hk => by
    have hne : k ≠ g := fun e => by subst e; exact hd k _ _ r1' hk
    rw [get_hset_ne hne]; exact hn k o hk
  have hd : (PH.one g (cellsOf l' T)).dis m2 := fun k o o' x y => by
    obtain ⟨rfl, -⟩ := PH.one_some x
    exact r3 k _ _ r1' y
  refine ⟨(PH.one g (cellsOf l' T)).or m2, ⟨PH.one g (cellsOf l' T), m2, by simp [X.blk, PH.one], r2, hd, PH.or_l _ _, PH.or_r hd⟩, PH.or_le (fun k o hk => ?_) (keep (r5.le b) r3), keep c (e.mono r4 (.refl _)), keep d (p.mono r4 (.refl _)), PH.or_dis (fun k o o' x y => ?_) (e.mono r5 (.refl _)), PH.or_dis (fun k o o' x y => ?_) (p.mono r5 (.refl _)), q⟩
  · obtain ⟨rfl, rfl⟩ := PH.one_some hk
    exact get_hset_same hb.lt
  · obtain ⟨rfl, -⟩ := PH.one_some x
    exact (e.mono r4 (.refl _)) k _ _ r1' y
  · obtain ⟨rfl, -⟩ := PH.one_some x
    exact (p.mono r4 (.refl _)) k _ _ r1' y
/-- What is owned is given for ever. -/
theorem Holds.freeze {σ f : PH} {Γ Γ' : List HP} {R : HP} {h : Heap} (x : Holds σ Γ f h) (s : Sel Γ R Γ') : ∃ σ' m, R m ∧ m.sub σ' ∧ σ.sub σ' ∧ Holds σ' Γ' f h := by
  obtain ⟨m, a, b, c, d, e, p, q⟩ := x
  obtain ⟨m1, m2, r1, r2, r3, r4, r5⟩ := s.to a
  have hd : σ.dis m1 := (e.mono r4 (.refl _)).symm
  exact ⟨σ.or m1, m1, r1, PH.or_r hd, PH.or_l _ _, m2, r2, r5.le b, PH.or_le c (r4.le b), d, (PH.or_dis (e.mono r5 (.refl _)).symm r3).symm, p.mono r5 (.refl _), PH.or_dis q (p.mono r4 (.refl _))⟩

/-! what stays for ever -/
structure PRow (σ : PH) (g o : Nat) (vs : List Value) : Prop where
  ex : ∃ l T fr, σ g = some (.cells l T fr) ∧ (l.toList.drop o).take vs.length = vs
theorem PRow.mono {σ σ' : PH} {g o : Nat} {vs : List Value} (x : PRow σ g o vs) (s : σ.sub σ') : PRow σ' g o vs := by
  obtain ⟨l, T, fr, a, b⟩ := x; exact ⟨l, T, fr, s _ _ a, b⟩
theorem PRow.row {σ : PH} {h : Heap} (hs : σ.le h) {g o : Nat} {vs : List Value} (x : PRow σ g o vs) : Row h g o vs := by
  obtain ⟨l, T, fr, a, b⟩ := x; exact ⟨l, T, fr, hs _ _ a, b⟩
theorem PRow.of {h : Heap} {g o : Nat} {vs : List Value} (x : Row h g o vs) : PRow (ofHeap h) g o vs := by
  obtain ⟨l, T, fr, a, b⟩ := x; exact ⟨l, T, fr, a, b⟩
theorem PRow.ofBlk {m : PH} {g o : Nat} {l vs : List Value} {T : TypeId} (x : blk g l T m) (hv : (l.drop o).take vs.length = vs) : PRow m g o vs := ⟨_, T, _, x, by simpa using hv⟩
theorem PRow.sub {σ : PH} {g o : Nat} {vs us : List Value} (hr : PRow σ g o vs) {j : Nat} (hu : (vs.drop j).take us.length = us) : PRow σ g (o + j) us := by
  obtain ⟨l, T, fr, h1, h2⟩ := hr
  refine ⟨l, T, fr, h1, ?_⟩
  have : us.length ≤ vs.length - j := by
    have := congrArg List.length hu
    simp at this; omega
  rw [← h2] at hu
  rw [List.drop_take, List.take_take, List.drop_drop] at hu
  rwa [Nat.min_eq_left this] at hu
/-- Cells that are known. -/
structure At (S : Heap → Prop) (g o : Nat) (vs : List Value) : Prop where
  out : ∀ h, S h → Row h g o vs
theorem At.per {σ : PH} {Γ : List HP} {g o : Nat} {vs : List Value} (x : PRow σ g o vs) : At (Ho σ Γ) g o vs := ⟨fun _ hh => by obtain ⟨f, hh⟩ := hh; exact x.row hh.per⟩
theorem At.blk {σ : PH} {Γ Γ' : List HP} {g o : Nat} {l vs : List Value} {T : TypeId} (s : Sel Γ (X.blk g l T) Γ') (hv : (l.drop o).take vs.length = vs) : At (Ho σ Γ) g o vs := ⟨fun _ hh => (hh.blk s).row hv⟩
theorem At.all {σ : PH} {Γ Γ' : List HP} {g : Nat} {l : List Value} {T : TypeId} (s : Sel Γ (X.blk g l T) Γ') : At (Ho σ Γ) g 0 l := ⟨fun _ hh => (hh.blk s).rowAll⟩
/-- One cell that is known. -/
structure AtC (S : Heap → Prop) (g o : Nat) (v : Value) : Prop where
  out : ∀ h, S h → Cel h g o v
theorem AtC.per {σ : PH} {Γ : List HP} {g o : Nat} {v : Value} (x : PRow σ g o [v]) : AtC (Ho σ Γ) g o v := ⟨fun _ hh => by
  obtain ⟨f, hh⟩ := hh; have := (x.row hh.per).cel (j := 0) (v := v) rfl; simpa using this⟩
theorem AtC.blk {σ : PH} {Γ Γ' : List HP} {g o : Nat} {l : List Value} {v : Value} {T : TypeId} (s : Sel Γ (X.blk g l T) Γ') (hv : l[o]? = some v) : AtC (Ho σ Γ) g o v := ⟨fun _ hh => (hh.blk s).cel hv⟩
theorem Ld.atC {P : Program} {S : Heap → Prop} {T : TypeId} {r : Ty} (hT : tyOf P T = some r) (hk : r.k.agg = false) {g o : Nat} {v : Value} (hc : AtC S g o v) : ∀ h, S h → Ld P h T g o v := fun h hh => Ld.one hT hk (hc.out h hh)
theorem Ld.at {P : Program} {S : Heap → Prop} {T : TypeId} {r : Ty} (hT : tyOf P T = some r) (hk : r.k.agg = true) {g o : Nat} {vs : List Value} (hc : At S g o vs) (hn : vs.length = r.size) : ∀ h, S h → Ld P h T g o (.agg vs.toArray) := fun h hh => Ld.row hT hk (hc.out h hh) hn
end X
end Go.Proofs.Ytbbghdkndbpmmaa
