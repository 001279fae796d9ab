/- Owners of blocks (tags), and what a call may turn. -/
import Derived.Test.YtbbghdkndbpmmaaFlow
namespace Go.Proofs.Ytbbghdkndbpmmaa
namespace X
open Go
/-- Blocks that are new have no owner yet. -/
def Norm (h : Heap) (t : Nat → Nat) : Prop := ∀ k, h.size ≤ k → t k = 0
/-- From h to h' only blocks whose owner is of A were written; old blocks keep their owners. -/
structure St (A : Nat → Prop) (h : Heap) (t : Nat → Nat) (h' : Heap) (t' : Nat → Nat) : Prop where
  size : h.size ≤ h'.size
  tag : ∀ k, k < h.size → t' k = t k
  get : ∀ k, k < h.size → ¬ A (t k) → h'[k]? = h[k]?
theorem St.refl (A : Nat → Prop) (h : Heap) (t : Nat → Nat) : St A h t h t := ⟨Nat.le_refl _, fun _ _ => rfl, fun _ _ _ => rfl⟩
theorem St.trans {A : Nat → Prop} {a b c : Heap} {t t' t'' : Nat → Nat} (x : St A a t b t') (y : St A b t' c t'') : St A a t c t'' :=
  ⟨Nat.le_trans x.size y.size, fun k hk => (y.tag k (Nat.lt_of_lt_of_le hk x.size)).trans (x.tag k hk), fun k hk hn => (y.get k (Nat.lt_of_lt_of_le hk x.size) (by rw [x.tag k hk]; exact hn)).trans (x.get k hk hn)⟩
theorem St.mono {A B : Nat → Prop} {a b : Heap} {t t' : Nat → Nat} (x : St A a t b t') (hAB : ∀ i, A i → B i) : St B a t b t' :=
  ⟨x.size, x.tag, fun k hk hn => x.get k hk fun ha => hn (hAB _ ha)⟩
theorem St.ofExt {A : Nat → Prop} {a b : Heap} {t : Nat → Nat} (x : Ext a b) : St A a t b t := ⟨x.size, fun _ _ => rfl, fun k hk _ => x.get k hk⟩
theorem St.push {A : Nat → Prop} {a b : Heap} {t t' : Nat → Nat} (x : St A a t b t') (o : Obj) : St A a t (b.push o) t' := x.trans (.ofExt ((Ext.refl b).push o))
theorem Norm.push {h : Heap} {t : Nat → Nat} (hn : Norm h t) (o : Obj) : Norm (h.push o) t := fun k hk => hn k (by simp at hk; omega)
theorem Norm.ext {h h' : Heap} {t : Nat → Nat} (hn : Norm h t) (hx : Ext h h') : Norm h' t := fun k hk => hn k (Nat.le_trans hx.size hk)
theorem Norm.hset {h : Heap} {t : Nat → Nat} (hn : Norm h t) (g : Nat) (l : List Value) (T : TypeId) : Norm (hset h g l T) t := fun k hk => hn k (by rw [size_hset] at hk; exact hk)
theorem St.hset {A : Nat → Prop} {a b : Heap} {t t' : Nat → Nat} (x : St A a t b t') {g : Nat} (hg : g < a.size → A (t g)) (l : List Value) (T : TypeId) : St A a t (hset b g l T) t' :=
  ⟨by rw [size_hset]; exact x.size, x.tag, fun k hk hn => by
    by_cases e : k = g
    · subst e; exact absurd (hg hk) hn
    · rw [get_hset_ne e]; exact x.get k hk hn⟩
theorem Cel.st {A : Nat → Prop} {a b : Heap} {t t' : Nat → Nat} (x : St A a t b t') {g o : Nat} {v : Value} (hA : ¬ A (t g)) (hc : Cel a g o v) : Cel b g o v := by
  have hl := hc.lt; obtain ⟨l, T, fr, h1, h2⟩ := hc; exact ⟨l, T, fr, (x.get g hl hA).trans h1, h2⟩
theorem Row.st {A : Nat → Prop} {a b : Heap} {t t' : Nat → Nat} (x : St A a t b t') {g o : Nat} {vs : List Value} (hA : ¬ A (t g)) (hc : Row a g o vs) : Row b g o vs := by
  have hl := hc.lt; obtain ⟨l, T, fr, h1, h2⟩ := hc; exact ⟨l, T, fr, (x.get g hl hA).trans h1, h2⟩
theorem Blk.st {A : Nat → Prop} {a b : Heap} {t t' : Nat → Nat} (x : St A a t b t') {g : Nat} {l : List Value} {T : TypeId} (hA : ¬ A (t g)) (hc : Blk a g l T) : Blk b g l T := ⟨(x.get g hc.lt hA).trans hc.get⟩
theorem Own.st {A : Nat → Prop} {a b : Heap} {t t' : Nat → Nat} (x : St A a t b t') {e : TypeId} {size : Nat} {v : Value} {n : Nat} {xs : List Value} {F F' : Nat → Prop} (hA : ∀ g, F g → ¬ A (t g)) (hF : ∀ g, g < a.size → F g → F' g) (hc : Own a e size v n xs F) : Own b e size v n xs F' := by
  obtain ⟨h1, h2 | ⟨g, cap, cur, r1, r2, r3, r4⟩⟩ := hc
  · exact ⟨h1, .inl h2⟩
  · exact ⟨h1, .inr ⟨g, cap, cur, r1, hF g r3.lt r2, r3.st x (hA g r2), r4⟩⟩
theorem Own.ext {a b : Heap} (x : Ext a b) {e : TypeId} {size : Nat} {v : Value} {n : Nat} {xs : List Value} {F : Nat → Prop} (hc : Own a e size v n xs F) : Own b e size v n xs F := by
  obtain ⟨h1, h2 | ⟨g, cap, cur, r1, r2, r3, r4⟩⟩ := hc
  · exact ⟨h1, .inl h2⟩
  · exact ⟨h1, .inr ⟨g, cap, cur, r1, r2, r3.ext x, r4⟩⟩
theorem Own.weak {a : Heap} {e : TypeId} {size : Nat} {v : Value} {n : Nat} {xs : List Value} {F F' : Nat → Prop} (hF : ∀ g, g < a.size → F g → F' g) (hc : Own a e size v n xs F) : Own a e size v n xs F' := by
  obtain ⟨h1, h2 | ⟨g, cap, cur, r1, r2, r3, r4⟩⟩ := hc
  · exact ⟨h1, .inl h2⟩
  · exact ⟨h1, .inr ⟨g, cap, cur, r1, hF g r3.lt r2, r3, r4⟩⟩
theorem Own.ne {a : Heap} {e : TypeId} {size : Nat} {v : Value} {n : Nat} {xs : List Value} {F : Nat → Prop} {g' : Nat} {l' : List Value} {T' : TypeId} (hF : ∀ g, F g → g ≠ g') (hc : Own a e size v n xs F) : Own (hset a g' l' T') e size v n xs F := by
  obtain ⟨h1, h2 | ⟨g, cap, cur, r1, r2, r3, r4⟩⟩ := hc
  · exact ⟨h1, .inl h2⟩
  · exact ⟨h1, .inr ⟨g, cap, cur, r1, r2, Blk.ne (hF g r2) r3, r4⟩⟩
/-- What is read of an owned list. -/
theorem Own.row {a : Heap} {e : TypeId} {size : Nat} {v : Value} {n : Nat} {xs : List Value} {F : Nat → Prop} (hc : Own a e size v n xs F) (hn : 0 < n) : ∃ g cap, v = .slice (some ⟨g, 0, none⟩) n cap ∧ F g ∧ Row a g 0 xs := by
  obtain ⟨h1, ⟨_, h2⟩ | ⟨g, cap, cur, r1, r2, r3, r4, r5, r6, r7⟩⟩ := hc
  · omega
  · exact ⟨g, cap, r1, r2, r3.row (by rw [h1]; simpa using r7)⟩
theorem Own.shape {a : Heap} {e : TypeId} {size : Nat} {v : Value} {n : Nat} {xs : List Value} {F : Nat → Prop} (hc : Own a e size v n xs F) : ∃ p c, v = .slice p n c := by
  obtain ⟨h1, ⟨h2, h3⟩ | ⟨g, cap, cur, r1, r2⟩⟩ := hc
  · exact ⟨none, 0, by rw [h2, h3]⟩
  · exact ⟨_, _, r1⟩
theorem Own.weakB {a : Heap} {e : TypeId} {size : Nat} {v : Value} {n : Nat} {xs : List Value} {F F' : Nat → Prop} (hF : ∀ g, v.ownBlock = some g → g < a.size → F g → F' g) (hc : Own a e size v n xs F) : Own a e size v n xs F' := by
  obtain ⟨h1, h2 | ⟨g, cap, cur, r1, r2, r3, r4⟩⟩ := hc
  · exact ⟨h1, .inl h2⟩
  · exact ⟨h1, .inr ⟨g, cap, cur, r1, hF g (by rw [r1]; rfl) r3.lt r2, r3, r4⟩⟩
theorem Own.block {a : Heap} {e : TypeId} {size : Nat} {v : Value} {n : Nat} {xs : List Value} {F : Nat → Prop} (hc : Own a e size v n xs F) {g : Nat} (hg : v.ownBlock = some g) : F g ∧ g < a.size := by
  obtain ⟨h1, ⟨h2, h3⟩ | ⟨g', cap, cur, r1, r2, r3, r4⟩⟩ := hc
  · rw [h2] at hg; cases hg
  · rw [r1] at hg; simp only [Value.ownBlock, Option.some.injEq] at hg; subst hg; exact ⟨r2, r3.lt⟩
/-- A new block gets an owner. -/
def own1 (t : Nat → Nat) (n : Nat) (ob : Option Nat) (i : Nat) : Nat → Nat := fun k => if n ≤ k ∧ ob = some k then i else t k
theorem own1_old {t : Nat → Nat} {n : Nat} {ob : Option Nat} {i k : Nat} (hk : k < n) : own1 t n ob i k = t k := by unfold own1; rw [if_neg (by omega)]
theorem own1_new {t : Nat → Nat} {n i k : Nat} (hk : n ≤ k) : own1 t n (some k) i k = i := by unfold own1; rw [if_pos ⟨hk, rfl⟩]
theorem Norm.own1 {h h' : Heap} {t : Nat → Nat} (hn : Norm h t) {ob : Option Nat} {i : Nat} (hs : h.size ≤ h'.size) (hb : ∀ k, ob = some k → k < h'.size) : Norm h' (own1 t h.size ob i) := fun k hk => by
  unfold X.own1
  rw [if_neg (by rintro ⟨_, e⟩; have := hb k e; omega)]
  exact hn k (by omega)
theorem Cel.but {a b : Heap} {row : Option Nat} (x : But a b row) {g o : Nat} {v : Value} (hA : some g ≠ row) (hc : Cel a g o v) : Cel b g o v := by
  have hl := hc.lt; obtain ⟨l, T, fr, h1, h2⟩ := hc; exact ⟨l, T, fr, (x.get g hl hA).trans h1, h2⟩
theorem Row.but {a b : Heap} {row : Option Nat} (x : But a b row) {g o : Nat} {vs : List Value} (hA : some g ≠ row) (hc : Row a g o vs) : Row b g o vs := by
  have hl := hc.lt; obtain ⟨l, T, fr, h1, h2⟩ := hc; exact ⟨l, T, fr, (x.get g hl hA).trans h1, h2⟩
theorem Blk.but {a b : Heap} {row : Option Nat} (x : But a b row) {g : Nat} {l : List Value} {T : TypeId} (hA : some g ≠ row) (hc : Blk a g l T) : Blk b g l T := ⟨(x.get g hc.lt hA).trans hc.get⟩
theorem Own.but {a b : Heap} {row : Option Nat} (x : But a b row) {e : TypeId} {size : Nat} {v : Value} {n : Nat} {xs : List Value} {F : Nat → Prop} (hF : ∀ g, F g → some g ≠ row) (hc : Own a e size v n xs F) : Own b e size v n xs F := by
  obtain ⟨h1, h2 | ⟨g, cap, cur, r1, r2, r3, r4⟩⟩ := hc
  · exact ⟨h1, .inl h2⟩
  · exact ⟨h1, .inr ⟨g, cap, cur, r1, r2, r3.but x (hF g r2), r4⟩⟩
theorem St.but {A : Nat → Prop} {a b c : Heap} {t t' : Nat → Nat} (x : St A a t b t') {row : Option Nat} (y : But b c row) (hr : ∀ g, row = some g → g < a.size → A (t g)) : St A a t c t' :=
  ⟨Nat.le_trans x.size y.size, x.tag, fun k hk hn => (y.get k (Nat.lt_of_lt_of_le hk x.size) fun e => hn (hr k e.symm hk)).trans (x.get k hk hn)⟩
/-- New owners for new blocks. -/
theorem St.tag' {A : Nat → Prop} {a b : Heap} {t t' t'' : Nat → Nat} (x : St A a t b t') (ht : ∀ k, k < a.size → t'' k = t' k) : St A a t b t'' := ⟨x.size, fun k hk => (ht k hk).trans (x.tag k hk), x.get⟩
theorem But.refl (h : Heap) (row : Option Nat) : But h h row := ⟨Nat.le_refl _, fun _ _ _ => rfl⟩
theorem But.trans {a b c : Heap} {row : Option Nat} (x : But a b row) (y : But b c row) : But a c row := ⟨Nat.le_trans x.size y.size, fun k hk hn => (y.get k (Nat.lt_of_lt_of_le hk x.size) hn).trans (x.get k hk hn)⟩
theorem But.ofExt {a b : Heap} (x : Ext a b) (row : Option Nat) : But a b row := ⟨x.size, fun k hk _ => x.get k hk⟩
theorem But.push {a b : Heap} {row : Option Nat} (x : But a b row) (o : Obj) : But a (b.push o) row := x.trans (.ofExt ((Ext.refl b).push o) row)
theorem But.set {a b : Heap} {g : Nat} (x : But a b (some g)) (l : List Value) (T : TypeId) : But a (hset b g l T) (some g) := ⟨by rw [size_hset]; exact x.size, fun k hk hn => by rw [get_hset_ne (fun e => hn (by rw [e]))]; exact x.get k hk hn⟩
theorem But.setNew {a b : Heap} {row : Option Nat} (x : But a b row) {g : Nat} (hg : a.size ≤ g) (l : List Value) (T : TypeId) : But a (hset b g l T) row := ⟨by rw [size_hset]; exact x.size, fun k hk hn => by rw [get_hset_ne (by omega)]; exact x.get k hk hn⟩
theorem But.st {a b : Heap} {g i : Nat} {t : Nat → Nat} (x : But a b (some g)) (ht : t g = i) : St (· = i) a t b t := ⟨x.size, fun _ _ => rfl, fun k hk hn => x.get k hk fun e => hn (by simp at e; subst e; exact ht)⟩
theorem Norm.le {h h' : Heap} {t : Nat → Nat} (hn : Norm h t) (hs : h.size ≤ h'.size) : Norm h' t := fun k hk => hn k (Nat.le_trans hs hk)
theorem St.ext {A : Nat → Prop} {a b : Heap} {t t' : Nat → Nat} (x : St A a t b t') (hA : ∀ k, k < a.size → ¬ A (t k)) : Ext a b := ⟨x.size, fun k hk => x.get k hk (hA k hk)⟩
def t0 : Nat → Nat := fun _ => 0
theorem norm0 (h : Heap) : Norm h t0 := fun _ _ => rfl
/-- A part of a row. -/
theorem Row.sub {h : Heap} {g o : Nat} {vs us : List Value} (hr : Row h g o vs) {j : Nat} (hu : (vs.drop j).take us.length = us) : Row h g (o + j) us := by
  obtain ⟨l, T, fr, h1, h2⟩ := hr
  refine ⟨l, T, fr, h1, ?_⟩
  have : us.length ≤ vs.length - j := by
    have := congrArg List.length hu
    simp at this; omega
  rw [← h2] at hu
  rw [List.drop_take, List.take_take, List.drop_drop] at hu
  rwa [Nat.min_eq_left this] at hu

/-- Element k of a list whose elements have s cells each. -/
theorem flat_row {α : Type} (f : α → List Value) (s : Nat) : ∀ (l : List α), (∀ x ∈ l, (f x).length = s) → ∀ (k : Nat) (x : α), l[k]? = some x → ((l.flatMap f).drop (k * s)).take (f x).length = f x
  | [], _, k, x, hk => by simp at hk
  | a :: l, hl, 0, x, hk => by
    simp at hk; subst hk; simp
  | a :: l, hl, k + 1, x, hk => by
    have ih := flat_row f s l (fun y hy => hl y (by simp [hy])) k x (by simpa using hk)
    have ha := hl a (by simp)
    simp only [List.flatMap_cons]
    rw [Nat.succ_mul, Nat.add_comm, ← ha, ← List.drop_drop, List.drop_left]
    rw [ha]; exact ih
theorem flat_len {α : Type} (f : α → List Value) (s : Nat) : ∀ (l : List α), (∀ x ∈ l, (f x).length = s) → (l.flatMap f).length = l.length * s
  | [], _ => by simp
  | a :: l, hl => by simp [flat_len f s l (fun y hy => hl y (by simp [hy])), hl a (by simp), Nat.succ_mul]; omega
/-! words -/
abbrev ints (l : List Int) : List Value := l.map (Value.int .i64)
def wv (l : List Int) : Value := .agg (ints l).toArray
theorem wv_cells (l : List Int) : (wv l).cells = (ints l).toArray := rfl
theorem agg_cells (l : List Value) : (Value.agg l.toArray).cells = l.toArray := rfl
theorem ones_ints (l : List Int) : ones (ints l) := by intro v hv; simp at hv; obtain ⟨n, _, rfl⟩ := hv; rfl
abbrev ptr (b : Nat) : Value := .pointer (some ⟨b, 0, none⟩)
abbrev i64 (n : Int) : Value := .int .i64 n
end X
end Go.Proofs.Ytbbghdkndbpmmaa
