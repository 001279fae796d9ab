/- Programs: expressions, statements, variables; how they stand in memory; what is read of an argument. -/
import Derived.Test.YtbbghdkndbpmmaaB
import Derived.Test.YtbbghdkndbpmmaaLaw
namespace Go.Proofs.Ytbbghdkndbpmmaa
open Go X
inductive Ex where
  | mk (op v n : Int) (l : List Ex)
inductive St where
  | mk (op v : Int) (e f : Ex) (body els : List St)
structure Va where
  name : ByteArray
  size : Int
  deriving DecidableEq
structure Pr where
  vars : List Va
  body : List St
namespace Ex
def op : Ex → Int | .mk o _ _ _ => o
def v : Ex → Int | .mk _ v _ _ => v
def n : Ex → Int | .mk _ _ n _ => n
def l : Ex → List Ex | .mk _ _ _ l => l
theorem ind {P : Ex → Prop} (h : ∀ op v n l, (∀ x ∈ l, P x) → P (.mk op v n l)) : ∀ x, P x
  | .mk op v n l => h op v n l (fun x _ => ind h x)
end Ex
namespace St
def op : St → Int | .mk o _ _ _ _ _ => o
def v : St → Int | .mk _ v _ _ _ _ => v
def e : St → Ex | .mk _ _ e _ _ _ => e
def f : St → Ex | .mk _ _ _ f _ _ => f
def body : St → List St | .mk _ _ _ _ b _ => b
def els : St → List St | .mk _ _ _ _ _ l => l
theorem ind {P : St → Prop} (h : ∀ op v e f body els, (∀ x ∈ body, P x) → (∀ x ∈ els, P x) → P (.mk op v e f body els)) : ∀ x, P x
  | .mk op v e f body els => h op v e f body els (fun x _ => ind h x) (fun x _ => ind h x)
end St
/-- In 64 bits. -/
def i64ok (n : Int) : Prop := -9223372036854775808 ≤ n ∧ n ≤ 9223372036854775807
/-- An expression in memory: its cells. -/
inductive ExAt (σ : PH) : List Value → Ex → Prop
  | mk {op v n : Int} {l : List Ex} {p : Option Addr} {c : Nat} (rows : List (List Value)) (ho : i64ok op) (hv : i64ok v) (hn : i64ok n) (h1 : l.length ≤ c) (h2 : c ≤ maxLen) (h3 : rows.length = l.length) (h4 : ∀ row ∈ rows, row.length = 4)
      (h5 : ∀ (i : Nat) (row : List Value) (x : Ex), rows[i]? = some row → l[i]? = some x → ExAt σ row x) (h6 : 0 < l.length → ∃ g o, p = some ⟨g, o, none⟩ ∧ PRow σ g o rows.flatten) :
      ExAt σ [i64 op, i64 v, i64 n, .slice p l.length c] (.mk op v n l)
inductive StAt (σ : PH) : List Value → St → Prop
  | mk {op v : Int} {e f : Ex} {body els : List St} {ce cf : List Value} {p q : Option Addr} {c d : Nat} (rows qows : List (List Value)) (ho : i64ok op) (hv : i64ok v) (he : ExAt σ ce e) (hf : ExAt σ cf f)
      (h1 : body.length ≤ c) (h2 : c ≤ maxLen) (h3 : rows.length = body.length) (h4 : ∀ row ∈ rows, row.length = 12)
      (h5 : ∀ (i : Nat) (row : List Value) (x : St), rows[i]? = some row → body[i]? = some x → StAt σ row x) (h6 : 0 < body.length → ∃ g o, p = some ⟨g, o, none⟩ ∧ PRow σ g o rows.flatten)
      (g1 : els.length ≤ d) (g2 : d ≤ maxLen) (g3 : qows.length = els.length) (g4 : ∀ row ∈ qows, row.length = 12)
      (g5 : ∀ (i : Nat) (row : List Value) (x : St), qows[i]? = some row → els[i]? = some x → StAt σ row x) (g6 : 0 < els.length → ∃ g o, q = some ⟨g, o, none⟩ ∧ PRow σ g o qows.flatten) :
      StAt σ (i64 op :: i64 v :: (ce ++ cf ++ [.slice p body.length c, .slice q els.length d])) (.mk op v e f body els)
theorem ExAt.inv {σ : PH} {cs : List Value} {x : Ex} (h : ExAt σ cs x) : ∃ p c, cs = [i64 x.op, i64 x.v, i64 x.n, .slice p x.l.length c] ∧ i64ok x.op ∧ i64ok x.v ∧ i64ok x.n ∧ PSl 4 ExAt σ (.slice p x.l.length c) x.l := by
  cases h with
  | mk rows ho hv hn h1 h2 h3 h4 h5 h6 => exact ⟨_, _, rfl, ho, hv, hn, _, _, rows, rfl, h1, h2, h3, h4, h5, h6⟩
theorem ExAt.of {σ : PH} {op v n : Int} {l : List Ex} {sl : Value} (ho : i64ok op) (hv : i64ok v) (hn : i64ok n) (h : PSl 4 ExAt σ sl l) : ExAt σ [i64 op, i64 v, i64 n, sl] (.mk op v n l) := by
  obtain ⟨p, c, rows, rfl, h1, h2, h3, h4, h5, h6⟩ := h
  exact .mk rows ho hv hn h1 h2 h3 h4 h5 h6
theorem ExAt.len {σ : PH} {cs : List Value} {x : Ex} (h : ExAt σ cs x) : cs.length = 4 := by cases h; rfl
theorem StAt.inv {σ : PH} {cs : List Value} {x : St} (h : StAt σ cs x) : ∃ ce cf p c q d, cs = i64 x.op :: i64 x.v :: (ce ++ cf ++ [.slice p x.body.length c, .slice q x.els.length d]) ∧ i64ok x.op ∧ i64ok x.v ∧ ExAt σ ce x.e ∧ ExAt σ cf x.f ∧ PSl 12 StAt σ (.slice p x.body.length c) x.body ∧ PSl 12 StAt σ (.slice q x.els.length d) x.els := by
  cases h with
  | mk rows qows ho hv he hf h1 h2 h3 h4 h5 h6 g1 g2 g3 g4 g5 g6 => exact ⟨_, _, _, _, _, _, rfl, ho, hv, he, hf, ⟨_, _, rows, rfl, h1, h2, h3, h4, h5, h6⟩, ⟨_, _, qows, rfl, g1, g2, g3, g4, g5, g6⟩⟩
theorem StAt.of {σ : PH} {op v : Int} {e f : Ex} {ce cf : List Value} {body els : List St} {sb se : Value} (ho : i64ok op) (hv : i64ok v) (he : ExAt σ ce e) (hf : ExAt σ cf f) (hb : PSl 12 StAt σ sb body) (hl : PSl 12 StAt σ se els) :
    StAt σ (i64 op :: i64 v :: (ce ++ cf ++ [sb, se])) (.mk op v e f body els) := by
  obtain ⟨p, c, rows, rfl, h1, h2, h3, h4, h5, h6⟩ := hb
  obtain ⟨q, d, qows, rfl, g1, g2, g3, g4, g5, g6⟩ := hl
  exact .mk rows qows ho hv he hf h1 h2 h3 h4 h5 h6 g1 g2 g3 g4 g5 g6
theorem StAt.len {σ : PH} {cs : List Value} {x : St} (h : StAt σ cs x) : cs.length = 12 := by
  obtain ⟨ce, cf, p, c, q, d, rfl, -, -, he, hf, -⟩ := h.inv
  simp [he.len, hf.len]
theorem ExAt.ones {σ : PH} {cs : List Value} {x : Ex} (h : ExAt σ cs x) : X.ones cs := by
  obtain ⟨p, c, rfl, -⟩ := h.inv; exact ones_lit rfl
theorem StAt.inv12 {σ : PH} {cs : List Value} {x : St} (h : StAt σ cs x) : ∃ pe de pf df p c q d, cs = [i64 x.op, i64 x.v, i64 x.e.op, i64 x.e.v, i64 x.e.n, .slice pe x.e.l.length de, i64 x.f.op, i64 x.f.v, i64 x.f.n, .slice pf x.f.l.length df, .slice p x.body.length c, .slice q x.els.length d] ∧
    i64ok x.op ∧ i64ok x.v ∧ ExAt σ [i64 x.e.op, i64 x.e.v, i64 x.e.n, .slice pe x.e.l.length de] x.e ∧ ExAt σ [i64 x.f.op, i64 x.f.v, i64 x.f.n, .slice pf x.f.l.length df] x.f ∧ PSl 12 StAt σ (.slice p x.body.length c) x.body ∧ PSl 12 StAt σ (.slice q x.els.length d) x.els := by
  obtain ⟨ce, cf, p, c, q, d, rfl, h1, h2, h3, h4, h5, h6⟩ := h.inv
  obtain ⟨pe, de, rfl, -⟩ := h3.inv
  obtain ⟨pf, df, rfl, -⟩ := h4.inv
  exact ⟨pe, de, pf, df, p, c, q, d, rfl, h1, h2, h3, h4, h5, h6⟩
theorem StAt.ones {σ : PH} {cs : List Value} {x : St} (h : StAt σ cs x) : X.ones cs := by
  obtain ⟨pe, de, pf, df, p, c, q, d, rfl, -⟩ := h.inv12; exact ones_lit rfl
theorem ExAt.mono {σ σ' : PH} (s : σ.sub σ') {cs : List Value} {x : Ex} (h : ExAt σ cs x) : ExAt σ' cs x := by
  induction h with
  | mk rows ho hv hn h1 h2 h3 h4 h5 h6 ih => exact .mk rows ho hv hn h1 h2 h3 h4 ih (fun hp => by obtain ⟨g, o, e, r⟩ := h6 hp; exact ⟨g, o, e, r.mono s⟩)
theorem StAt.mono {σ σ' : PH} (s : σ.sub σ') {cs : List Value} {x : St} (h : StAt σ cs x) : StAt σ' cs x := by
  induction h with
  | mk rows qows ho hv he hf h1 h2 h3 h4 h5 h6 g1 g2 g3 g4 g5 g6 ih jh =>
    exact .mk rows qows ho hv (he.mono s) (hf.mono s) h1 h2 h3 h4 ih (fun hp => by obtain ⟨g, o, e, r⟩ := h6 hp; exact ⟨g, o, e, r.mono s⟩) g1 g2 g3 g4 jh (fun hp => by obtain ⟨g, o, e, r⟩ := g6 hp; exact ⟨g, o, e, r.mono s⟩)
namespace X
/-- As Dec, by so much fuel at most. -/
structure DecN {α : Type} (n : Nat) (P : Program) (t : TypeId) (R : RT α) : Prop where
  out : ∀ {H : Type} {enc : TypeId × Value → H} {w : World} {fuel : Nat} {cs : List Value} {x : DataW H × List MemPlace}, fuel ≤ n → DataW.trod enc P w 0 (fun _ => true) true fuel t cs = some x → ∃ y, R (ofHeap w.heap) cs y
variable {P : Program} {t e : TypeId} {α : Type}
theorem DecN.all {R : RT α} (h : ∀ n, DecN n P t R) : Dec P t R := ⟨fun {_ _ _ fuel _ _} hx => (h fuel).out (Nat.le_refl _) hx⟩
theorem Dec.n {R : RT α} (h : Dec P t R) (n : Nat) : DecN n P t R := ⟨fun _ hx => h.out hx⟩
theorem DecN.less {R : RT α} {m n : Nat} (hm : m ≤ n) (h : DecN n P t R) : DecN m P t R := ⟨fun hf hx => h.out (Nat.le_trans hf hm) hx⟩
theorem DecN.zero {R : RT α} : DecN 0 P t R := ⟨fun hf hx => by obtain ⟨k, rfl⟩ := trod_pos hx; omega⟩
theorem DecN.slice {r re : Ty} {s n : Nat} {R : RT α} (hT : tyOf P t = some r) (hk : r.k = .slice e) (hE : tyOf P e = some re) (hs : re.size = s) (hs0 : 0 < s) (hd : DecN n P e R) : DecN n P t (rSl s R) := ⟨fun {H enc w fuel cs x} hfuel h => by
  obtain ⟨d, e1, e2, -⟩ := und_of hT
  obtain ⟨d', -, -, e3⟩ := und_of hE
  rw [hk] at e2
  cases d <;> simp [kindOf] at e2
  subst e2
  obtain ⟨rfl, -⟩ | ⟨a, len, cap, elems, rest, n', rfl, rfl, -, -, hle, hcap, hlen, hel, -, -⟩ := DataW.trod_slice e1 h
  · exact ⟨[], _, rfl, PSl.nil _ _ _⟩
  · rw [e3, hs] at hel
    have hrow : ∀ i, i < len → ∃ row, row.length = s ∧ (∀ j, j < s → w.cell? ((a.add (i * s)).add j) = row[j]?) ∧ ∃ y, R (ofHeap w.heap) row y := fun i hi => by
      have hy := hel i hi
      rw [List.getElem?_eq_getElem (by omega)] at hy
      simp only [Option.bind_eq_some_iff] at hy
      obtain ⟨row, h1, h2⟩ := hy
      obtain ⟨-, h3, h4⟩ := World.cells?_some h1
      exact ⟨row, h3, h4, hd.out (by omega) h2⟩
    exact rows_slice hs0 hle hcap hrow⟩
/-- The parts of a struct, by less fuel. -/
theorem trod_fieldsN {r : Ty} {fs : List (TypeId × Nat)} (hT : tyOf P t = some r) (hk : r.k = .struct fs) {H : Type} {enc : TypeId × Value → H} {w : World} {fuel : Nat} {cs : List Value} {x : DataW H × List MemPlace} (h : DataW.trod enc P w 0 (fun _ => true) true fuel t cs = some x) :
    ∃ n, fuel = n + 1 ∧ cs.length = r.size ∧ ∀ f ∈ fs, ∃ y, DataW.trod enc P w 0 (fun _ => true) true n f.1 ((cs.drop f.2).take (P.cellsOf f.1)) = some y := by
  obtain ⟨d, e1, e2, e3⟩ := und_of hT
  rw [hk] at e2
  cases d <;> simp [kindOf] at e2
  rename_i fields
  subst e2
  obtain ⟨n, rfl⟩ := trod_pos h
  unfold DataW.trod at h
  rw [e1] at h
  dsimp only at h
  split at h
  · rename_i hl
    refine ⟨n, rfl, by rw [hl, e3], fun f hf => ?_⟩
    simp only [Option.map_eq_some_iff] at h
    obtain ⟨xs, hxs, -⟩ := h
    simp only [List.mem_map] at hf
    obtain ⟨fd, hfd, rfl⟩ := hf
    obtain ⟨y, hy⟩ := mapM_mem hxs fd hfd
    exact ⟨y, hy⟩
  · cases h
theorem cellsOf_ty {r : Ty} (hT : tyOf P t = some r) : P.cellsOf t = r.size := by obtain ⟨d, -, -, e3⟩ := und_of hT; exact e3
theorem list2 {α : Type} : ∀ {l : List α}, l.length = 2 → ∃ a b, l = [a, b]
  | [a, b], _ => ⟨a, b, rfl⟩
theorem list4 {α : Type} : ∀ {l : List α}, l.length = 4 → ∃ a b c d, l = [a, b, c, d]
  | [a, b, c, d], _ => ⟨a, b, c, d, rfl⟩
theorem list12 {α : Type} {l : List α} (h : l.length = 12) : ∃ a b c d e f g i j k m n, l = [a, b, c, d, e, f, g, i, j, k, m, n] := by
  obtain ⟨a, b, c, d, h1⟩ := list4 (l := l.take 4) (by simp [h])
  obtain ⟨e, f, g, i, h2⟩ := list4 (l := (l.drop 4).take 4) (by simp [h])
  obtain ⟨j, k, m, n, h3⟩ := list4 (l := l.drop 8) (by simp [h])
  refine ⟨a, b, c, d, e, f, g, i, j, k, m, n, ?_⟩
  have e1 := List.take_append_drop 4 l
  have e2 := List.take_append_drop 4 (l.drop 4)
  rw [List.drop_drop, h3, h2] at e2
  rw [h1, ← e2] at e1
  exact e1.symm
end X
open X
theorem dec_ex : ∀ n, DecN n Try.prog 44 ExAt := by
  intro n
  induction n with
  | zero => exact DecN.zero
  | succ n ih =>
    refine ⟨fun {H enc w fuel cs x} hf h => ?_⟩
    obtain ⟨k, rfl, hl, hx⟩ := trod_fieldsN (tyrow rfl) rfl h
    have hk : k ≤ n := by omega
    obtain ⟨y0, h0⟩ := hx (3, 0) (by simp)
    obtain ⟨y1, h1⟩ := hx (3, 1) (by simp)
    obtain ⟨y2, h2⟩ := hx (2, 2) (by simp)
    obtain ⟨y3, h3⟩ := hx (42, 3) (by simp)
    obtain ⟨a0, p0, q0⟩ := (Dec.int (tyrow rfl) rfl).out h0
    obtain ⟨a1, p1, q1⟩ := (Dec.int (tyrow rfl) rfl).out h1
    obtain ⟨a2, p2, q2⟩ := (Dec.int (tyrow rfl) rfl).out h2
    obtain ⟨a3, v3, p3, q3⟩ := (DecN.slice (tyrow rfl) rfl (tyrow rfl) rfl (by decide) (ih.less hk)).out (Nat.le_refl _) h3
    rw [cellsOf_ty (tyrow rfl)] at p0 p1 p2 p3
    have hcs : cs.length = 4 := hl
    obtain ⟨c0, c1, c2, c3, rfl⟩ := list4 hcs
    next =>
      simp only [List.drop_zero, List.drop_succ_cons] at p0 p1 p2 p3
      have e0 : c0 = i64 a0 := by have := congrArg (·[0]?) p0; simpa using this
      have e1 : c1 = i64 a1 := by have := congrArg (·[0]?) p1; simpa using this
      have e2 : c2 = i64 a2 := by have := congrArg (·[0]?) p2; simpa using this
      have e3 : c3 = v3 := by have := congrArg (·[0]?) p3; simpa using this
      subst e0 e1 e2 e3
      exact ⟨_, ExAt.of q0 q1 q2 q3⟩
theorem dec_st : ∀ n, DecN n Try.prog 46 StAt := by
  intro n
  induction n with
  | zero => exact DecN.zero
  | succ n ih =>
    refine ⟨fun {H enc w fuel cs x} hf h => ?_⟩
    obtain ⟨k, rfl, hl, hx⟩ := trod_fieldsN (tyrow rfl) rfl h
    have hk : k ≤ n := by omega
    obtain ⟨y0, h0⟩ := hx (3, 0) (by simp)
    obtain ⟨y1, h1⟩ := hx (3, 1) (by simp)
    obtain ⟨y2, h2⟩ := hx (44, 2) (by simp)
    obtain ⟨y3, h3⟩ := hx (44, 6) (by simp)
    obtain ⟨y4, h4⟩ := hx (23, 10) (by simp)
    obtain ⟨y5, h5⟩ := hx (23, 11) (by simp)
    obtain ⟨a0, p0, q0⟩ := (Dec.int (tyrow rfl) rfl).out h0
    obtain ⟨a1, p1, q1⟩ := (Dec.int (tyrow rfl) rfl).out h1
    obtain ⟨a2, q2⟩ := (dec_ex k).out (Nat.le_refl _) h2
    obtain ⟨a3, q3⟩ := (dec_ex k).out (Nat.le_refl _) h3
    obtain ⟨a4, v4, p4, q4⟩ := (DecN.slice (tyrow rfl) rfl (tyrow rfl) rfl (by decide) (ih.less hk)).out (Nat.le_refl _) h4
    obtain ⟨a5, v5, p5, q5⟩ := (DecN.slice (tyrow rfl) rfl (tyrow rfl) rfl (by decide) (ih.less hk)).out (Nat.le_refl _) h5
    rw [cellsOf_ty (tyrow rfl)] at p0 p1 p4 p5 q2 q3
    have hcs : cs.length = 12 := hl
    obtain ⟨c0, c1, c2, c3, c4, c5, c6, c7, c8, c9, c10, c11, rfl⟩ := list12 hcs
    next =>
      simp only [List.drop_zero, List.drop_succ_cons] at p0 p1 p4 p5 q2 q3
      have e0 : c0 = i64 a0 := by have := congrArg (·[0]?) p0; simpa using this
      have e1 : c1 = i64 a1 := by have := congrArg (·[0]?) p1; simpa using this
      have e4 : c10 = v4 := by have := congrArg (·[0]?) p4; simpa using this
      have e5 : c11 = v5 := by have := congrArg (·[0]?) p5; simpa using this
      subst e0 e1 e4 e5
      exact ⟨_, StAt.of q0 q1 q2 q3 q4 q5⟩
def rVa : RT Va := fun _ cs v => cs = [.string v.name, i64 v.size] ∧ i64ok v.size ∧ v.name.size ≤ maxLen
theorem dec_va : Dec Try.prog 37 rVa := ⟨fun {H enc w fuel cs x} h => by
  obtain ⟨k, rfl, hl, hx⟩ := trod_fieldsN (tyrow rfl) rfl h
  obtain ⟨y0, h0⟩ := hx (9, 0) (by simp)
  obtain ⟨y1, h1⟩ := hx (3, 1) (by simp)
  obtain ⟨a0, p0, q0⟩ := (Dec.str (tyrow rfl) rfl).out h0
  obtain ⟨a1, p1, q1⟩ := (Dec.int (tyrow rfl) rfl).out h1
  rw [cellsOf_ty (tyrow rfl)] at p0 p1
  have hcs : cs.length = 2 := hl
  obtain ⟨c0, c1, rfl⟩ := list2 hcs
  next =>
    simp only [List.drop_zero, List.drop_succ_cons] at p0 p1
    have e0 : c0 = .string a0 := by have := congrArg (·[0]?) p0; simpa using this
    have e1 : c1 = i64 a1 := by have := congrArg (·[0]?) p1; simpa using this
    subst e0 e1
    exact ⟨⟨a0, a1⟩, rfl, q1, q0⟩⟩
/-- A program in memory: its two cells. -/
def PrAt (σ : PH) (cs : List Value) (p : Pr) : Prop := ∃ vs bs, cs = [vs, bs] ∧ PSl 2 rVa σ vs p.vars ∧ PSl 12 StAt σ bs p.body
theorem dec_pr : Dec Try.prog 25 PrAt := ⟨fun {H enc w fuel cs x} h => by
  obtain ⟨k, rfl, hl, hx⟩ := trod_fieldsN (tyrow rfl) rfl h
  obtain ⟨y0, h0⟩ := hx (22, 0) (by simp)
  obtain ⟨y1, h1⟩ := hx (23, 1) (by simp)
  obtain ⟨a0, v0, p0, q0⟩ := (Dec.slice (tyrow rfl) rfl (tyrow rfl) rfl (by decide) dec_va).out h0
  obtain ⟨a1, v1, p1, q1⟩ := (DecN.slice (tyrow rfl) rfl (tyrow rfl) rfl (by decide) (dec_st k)).out (Nat.le_refl _) h1
  rw [cellsOf_ty (tyrow rfl)] at p0 p1
  have hcs : cs.length = 2 := hl
  obtain ⟨c0, c1, rfl⟩ := list2 hcs
  next =>
    simp only [List.drop_zero, List.drop_succ_cons] at p0 p1
    have e0 : c0 = v0 := by have := congrArg (·[0]?) p0; simpa using this
    have e1 : c1 = v1 := by have := congrArg (·[0]?) p1; simpa using this
    subst e0 e1
    exact ⟨⟨a0, a1⟩, _, _, rfl, q0, q1⟩⟩
theorem PrAt.mono {σ σ' : PH} (s : σ.sub σ') {cs : List Value} {p : Pr} (h : PrAt σ cs p) : PrAt σ' cs p := by
  obtain ⟨vs, bs, rfl, h1, h2⟩ := h
  exact ⟨vs, bs, rfl, h1.mono s (fun _ _ h => h), h2.mono s (fun _ _ h => h.mono s)⟩
end Go.Proofs.Ytbbghdkndbpmmaa
