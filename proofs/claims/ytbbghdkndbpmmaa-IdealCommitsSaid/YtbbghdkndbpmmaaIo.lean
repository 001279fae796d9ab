/- The stack is enough: plainly. -/
import Derived.Test.YtbbghdkndbpmmaaIn
namespace Go.Proofs.Ytbbghdkndbpmmaa
open Go X
def popA (op : Int) : Int := if op = 3 then 1 else if 4 ≤ op ∧ op ≤ 8 then 2 else if op = 9 ∨ op = 11 ∨ op = 13 then 1 else if op = 10 then 2 else 0
def popB (op : Int) : Int := if 1 ≤ op ∧ op ≤ 8 then 1 else 0
def dl (x : In) : Int := popB x.op - popA x.op
def hts (l : List In) : Int := (l.map dl).sum
theorem hts_nil : hts [] = 0 := rfl
theorem hts_cons (x : In) (l : List In) : hts (x :: l) = dl x + hts l := by simp [hts]
theorem hts_app (l m : List In) : hts (l ++ m) = hts l + hts m := by simp [hts, List.sum_append]
theorem hts_one (x : In) : hts [x] = dl x := by simp [hts]
def cellOk (cells : Int) (x : In) : Prop := ((x.op = 2 ∨ x.op = 9 ∨ x.op = 12) → 0 ≤ x.a ∧ x.a < cells) ∧ ((x.op = 3 ∨ x.op = 10) → 0 ≤ x.a ∧ 1 ≤ x.b ∧ x.a + x.b ≤ cells)
/-- Gone through as they stand, from so many numbers on the stack. -/
def Fit (cells : Int) : Int → List In → Prop
  | _, [] => True
  | n, x :: l => (popA x.op ≤ n ∧ n + dl x ≤ 24 ∧ ((x.op = 13 ∨ x.op = 14) → n + dl x = 0) ∧ cellOk cells x ∧ x.op ≠ 16) ∧ Fit cells (n + dl x) l
theorem Fit.app {cells : Int} : ∀ {l m : List In} {n : Int}, Fit cells n l → Fit cells (n + hts l) m → Fit cells n (l ++ m)
  | [], m, n, _, h => by rw [hts_nil, Int.add_zero] at h; exact h
  | x :: l, m, n, h, g => by
    rw [Fit] at h
    rw [hts_cons] at g
    rw [List.cons_append, Fit]
    exact ⟨h.1, Fit.app h.2 (by rw [Int.add_assoc]; exact g)⟩
theorem Fit.at {cells : Int} : ∀ {l : List In} {n : Int}, Fit cells n l → ∀ {i : Nat} {x : In}, l[i]? = some x → popA x.op ≤ n + hts (l.take i) ∧ n + hts (l.take (i + 1)) ≤ 24 ∧ ((x.op = 13 ∨ x.op = 14) → n + hts (l.take (i + 1)) = 0) ∧ cellOk cells x ∧ x.op ≠ 16
  | [], _, _, _, _, hx => by simp at hx
  | y :: l, n, h, 0, x, hx => by
    simp only [List.getElem?_cons_zero, Option.some.injEq] at hx
    subst hx
    rw [Fit] at h
    simp only [List.take_zero, hts_nil, Int.add_zero, List.take_succ_cons, hts_cons]
    exact h.1
  | y :: l, n, h, i + 1, x, hx => by
    simp only [List.getElem?_cons_succ] at hx
    rw [Fit] at h
    have := Fit.at h.2 hx
    simp only [List.take_succ_cons, hts_cons, ← Int.add_assoc]
    exact this
theorem sizeV_get {vs : List Va} {v : Int} {x : Va} (h : vs[v.toNat]? = some x) : sizeV vs v = x.size := by rw [sizeV, h]; rfl
theorem var_at {vs : List Va} (h1 : ∀ x ∈ vs, 1 ≤ x.size) {v : Int} (h : 0 ≤ v ∧ v < vs.length) : ∃ x, vs[v.toNat]? = some x ∧ sizeV vs v = x.size ∧ 0 ≤ cellOf vs v ∧ 1 ≤ sizeV vs v ∧ cellOf vs v + sizeV vs v ≤ sizes vs := by
  have hlt : v.toNat < vs.length := by omega
  have hx : vs[v.toNat]? = some vs[v.toNat] := List.getElem?_eq_getElem hlt
  have e := sizes_take vs v.toNat _ hx
  have a := (cells_le h1 (v.toNat)).1
  have b := (cells_le h1 (v.toNat + 1)).2
  have c := h1 _ (List.getElem_mem hlt)
  refine ⟨_, hx, sizeV_get hx, a, by rw [sizeV_get hx]; exact c, ?_⟩
  rw [sizeV_get hx, cellOf, ← e]; exact b
theorem opIn_ok {vs : List Va} (h1 : ∀ x ∈ vs, 1 ≤ x.size) {op v n : Int} (hop : 1 ≤ op ∧ op ≤ 8) (hv : op = 2 ∨ op = 3 → 0 ≤ v ∧ v < vs.length) : cellOk (sizes vs) (opIn vs op v n) := by
  refine ⟨fun h => ?_, fun h => ?_⟩
  · simp only [opIn] at h
    have h2 : op = 2 := by omega
    obtain ⟨x, -, -, c, d, e⟩ := var_at h1 (hv (.inl h2))
    simp only [opIn, h2, true_or, if_true]
    omega
  · simp only [opIn] at h
    have h2 : op = 3 := by omega
    obtain ⟨x, -, -, c, d, e⟩ := var_at h1 (hv (.inr h2))
    simp only [opIn, h2, or_true, if_true]
    exact ⟨c, d, e⟩
theorem popA_parts {op : Int} (h : 1 ≤ op ∧ op ≤ 8) : popA op = partsOf op := by
  rw [popA, partsOf]
  repeat' split
  all_goals omega
theorem popB_one {op : Int} (h : 1 ≤ op ∧ op ≤ 8) : popB op = 1 := if_pos h
theorem ex_op (vs : List Va) (op v n : Int) : (opIn vs op v n).op = op := rfl
theorem exs_fit {vs : List Va} (h1 : ∀ x ∈ vs, 1 ≤ x.size) : ∀ (l : List Ex), (∀ x ∈ l, ∀ n : Int, 0 ≤ n → n + exH x ≤ 24 → Fit (sizes vs) n (exCode vs x) ∧ hts (exCode vs x) = 1) → ∀ n : Int, 0 ≤ n → n + l.length + exsH l ≤ 25 → Fit (sizes vs) n (exsCode vs l) ∧ hts (exsCode vs l) = l.length
  | [], _, n, _, _ => ⟨trivial, rfl⟩
  | x :: l, h, n, h0, hn => by
    rw [exsH, List.length_cons] at hn
    obtain ⟨a, b⟩ := h x (by simp) n h0 (by omega)
    obtain ⟨c, d⟩ := exs_fit h1 l (fun y hy => h y (by simp [hy])) (n + 1) (by omega) (by omega)
    rw [exsCode]
    refine ⟨a.app (by rw [b]; exact c), ?_⟩
    rw [hts_app, b, d, List.length_cons]; omega
theorem ex_fit {vs : List Va} (h1 : ∀ x ∈ vs, 1 ≤ x.size) (x : Ex) : ExV vs.length x → ∀ n : Int, 0 ≤ n → n + exH x ≤ 24 → Fit (sizes vs) n (exCode vs x) ∧ hts (exCode vs x) = 1 := by
  refine Ex.ind (P := fun x => ExV vs.length x → ∀ n : Int, 0 ≤ n → n + exH x ≤ 24 → Fit (sizes vs) n (exCode vs x) ∧ hts (exCode vs x) = 1) ?_ x
  intro op v k l ih hx n h0 hn
  rw [ExV] at hx
  obtain ⟨hop, hl, hv, -, hs⟩ := hx
  rw [exH] at hn
  have hp : (l.length : Int) ≤ 2 := by rw [hl, partsOf]; repeat' split
                                       all_goals omega
  obtain ⟨a, b⟩ := exs_fit h1 l (fun y hy n h0 hn => ih y hy (hs.mem y hy) n h0 hn) n h0 (by omega)
  rw [exCode]
  have hd : dl (opIn vs op v k) = 1 - l.length := by rw [dl, ex_op, popB_one hop, popA_parts hop, hl]
  refine ⟨a.app ?_, ?_⟩
  · rw [b, Fit, ex_op, popA_parts hop, ← hl, hd]
    refine ⟨⟨by omega, by omega, fun h => by omega, opIn_ok h1 hop hv, by omega⟩, trivial⟩
  · rw [hts_app, b, hts_one, hd]; omega
/-- A jump within. -/
def JIn (at_ : Nat) (L : List In) (x : In) : Prop := (x.op = 13 ∨ x.op = 14) → ∃ j : Nat, x.a = (at_ + j : Nat) ∧ j ≤ L.length ∧ hts (L.take j) = 0
theorem JIn.lift {at_ : Nat} {A L B : List In} {x : In} (h : JIn (at_ + A.length) L x) (hA : hts A = 0) : JIn at_ (A ++ L ++ B) x := fun ho => by
  obtain ⟨j, e, hj, hz⟩ := h ho
  refine ⟨A.length + j, by rw [e]; congr 1; omega, by simp only [List.length_append]; omega, ?_⟩
  rw [List.append_assoc, List.take_length_add_append, hts_app, hA, List.take_append_of_le_length hj, hz]; rfl
theorem JIn.none {at_ : Nat} {L : List In} {x : In} (h : x.op ≠ 13 ∧ x.op ≠ 14) : JIn at_ L x := fun ho => by omega
theorem exs_small {vs : List Va} : ∀ (l : List Ex), (∀ x ∈ l, ∀ y ∈ exCode vs x, 1 ≤ y.op ∧ y.op ≤ 8) → ∀ y ∈ exsCode vs l, 1 ≤ y.op ∧ y.op ≤ 8
  | [], _, y, hy => by simp [exsCode] at hy
  | x :: l, h, y, hy => by
    rw [exsCode, List.mem_append] at hy
    rcases hy with hy | hy
    · exact h x (by simp) y hy
    · exact exs_small l (fun z hz => h z (by simp [hz])) y hy
theorem ex_small {vs : List Va} {nv : Nat} (x : Ex) : ExV nv x → ∀ y ∈ exCode vs x, 1 ≤ y.op ∧ y.op ≤ 8 := by
  refine Ex.ind (P := fun x => ExV nv x → ∀ y ∈ exCode vs x, 1 ≤ y.op ∧ y.op ≤ 8) ?_ x
  intro op v k l ih hx y hy
  rw [ExV] at hx
  rw [exCode, List.mem_append, List.mem_singleton] at hy
  rcases hy with hy | rfl
  · exact exs_small l (fun z hz => ih z hz (hx.2.2.2.2.mem z hz)) y hy
  · exact hx.1
/-- What a piece of statements' instructions is. -/
def Piece (cells : Int) (at_ : Nat) (L : List In) : Prop := Fit cells 0 L ∧ hts L = 0 ∧ ∀ x ∈ L, JIn at_ L x
theorem Piece.nil {cells : Int} {at_ : Nat} : Piece cells at_ [] := ⟨trivial, rfl, fun x h => by simp at h⟩
theorem Piece.app {cells : Int} {at_ : Nat} {L M : List In} (h : Piece cells at_ L) (g : Piece cells (at_ + L.length) M) : Piece cells at_ (L ++ M) := by
  refine ⟨h.1.app (by rw [h.2.1]; exact g.1), by rw [hts_app, h.2.1, g.2.1]; rfl, fun x hx => ?_⟩
  rcases List.mem_append.1 hx with hx | hx
  · have := JIn.lift (A := []) (B := M) (h.2.2 x hx) rfl
    simpa using this
  · have := JIn.lift (A := L) (B := []) (g.2.2 x hx) h.2.1
    simpa using this
/-- An expression, then something that takes it. -/
theorem Piece.plain {cells : Int} {at_ : Nat} {L : List In} (h : Fit cells 0 L) (hz : hts L = 0) (hs : ∀ x ∈ L, x.op ≠ 13 ∧ x.op ≠ 14) : Piece cells at_ L := ⟨h, hz, fun x hx => JIn.none (hs x hx)⟩
theorem sts_piece {vs : List Va} {cells : Int} : ∀ (l : List St), (∀ x ∈ l, ∀ k, Piece cells k (stCode vs x k)) → ∀ k, Piece cells k (stsCode vs l k)
  | [], _, k => by rw [stsCode]; exact Piece.nil
  | x :: l, h, k => by rw [stsCode]; exact (h x (by simp) k).app (sts_piece l (fun y hy => h y (by simp [hy])) _)
theorem Fit.snoc {cells : Int} {L : List In} {x : In} {n m : Int} (h : Fit cells n L) (hm : n + hts L = m) (h1 : popA x.op ≤ m) (h2 : m + dl x ≤ 24) (h3 : (x.op = 13 ∨ x.op = 14) → m + dl x = 0) (h4 : cellOk cells x) (h5 : x.op ≠ 16) : Fit cells n (L ++ [x]) :=
  h.app (by rw [hm]; exact ⟨⟨h1, h2, h3, h4, h5⟩, trivial⟩)
theorem st_piece {vs : List Va} (h1 : ∀ x ∈ vs, 1 ≤ x.size) (x : St) : StV vs.length x → ∀ k, Piece (sizes vs) k (stCode vs x k) := by
  refine St.ind (P := fun x => StV vs.length x → ∀ k, Piece (sizes vs) k (stCode vs x k)) ?_ x
  intro op v e f body els ih jh hx k
  rw [StV] at hx
  obtain ⟨hop, hv, he, hf, hb, ho, hsb, hse⟩ := hx
  have hB := sts_piece (cells := sizes vs) body (fun y hy => ih y hy (hsb.mem y hy))
  have hE := sts_piece (cells := sizes vs) els (fun y hy => jh y hy (hse.mem y hy))
  have hex : ∀ {z : Ex} {n : Int}, ExV vs.length z ∧ exH z ≤ 12 → 0 ≤ n → n ≤ 12 → Fit (sizes vs) n (exCode vs z) ∧ hts (exCode vs z) = 1 := fun hz h0 hn => ex_fit h1 _ hz.1 _ h0 (by have := hz.2; omega)
  have hno : ∀ {z : Ex}, ExV vs.length z ∧ exH z ≤ 12 → ∀ y ∈ exCode vs z, y.op ≠ 13 ∧ y.op ≠ 14 := fun hz y hy => by have := ex_small _ hz.1 y hy; omega
  rw [stCode]
  have c0 : ∀ {o a b n : Int}, (o = 11 ∨ o = 13 ∨ o = 14 ∨ o = 15) → cellOk (sizes vs) ⟨o, a, b, n⟩ := fun h => ⟨fun g => by simp only at g; omega, fun g => by simp only at g; omega⟩
  by_cases g1 : op = 1
  · subst g1
    obtain ⟨a, b⟩ := hex (n := 0) (he rfl) (by decide) (by decide)
    obtain ⟨y, -, -, c, d, e'⟩ := var_at h1 (hv rfl)
    simp only [show needE 1 = true from rfl, if_true]
    refine Piece.plain (a.snoc (m := 1) (by rw [b]; rfl) (by simp [popA]) (by simp [dl, popA, popB]) (fun g => by simp at g) ⟨fun _ => ⟨c, by simp only; omega⟩, fun g => by simp at g⟩ (by simp)) (by rw [hts_app, b, hts_one]; rfl) fun y hy => ?_
    rcases List.mem_append.1 hy with hy | hy
    · exact hno (he rfl) y hy
    · rw [List.mem_singleton.1 hy]; constructor <;> simp
  by_cases g2 : op = 2
  · subst g2
    obtain ⟨a, b⟩ := hex (n := 0) (he rfl) (by decide) (by decide)
    obtain ⟨a', b'⟩ := hex (n := 1) (hf rfl) (by decide) (by decide)
    obtain ⟨y, -, -, c, d, e'⟩ := var_at h1 (hv rfl)
    simp only [show needE 2 = true from rfl, if_true, show ¬ (2 : Int) = 1 by decide, if_false]
    refine Piece.plain ((a.app (m := exCode vs f) (by rw [b]; exact a')).snoc (m := 2) (by rw [hts_app, b, b']; rfl) (by simp [popA]) (by simp [dl, popA, popB]) (fun g => by simp at g) ⟨fun g => by simp at g, fun _ => ⟨c, d, e'⟩⟩ (by simp)) (by rw [hts_app, hts_app, b, b', hts_one]; rfl) fun y hy => ?_
    rcases List.mem_append.1 hy with hy | hy
    · rcases List.mem_append.1 hy with hy | hy
      · exact hno (he rfl) y hy
      · exact hno (hf rfl) y hy
    · rw [List.mem_singleton.1 hy]; constructor <;> simp
  by_cases g3 : op = 3
  · subst g3
    obtain ⟨a, b⟩ := hex (n := 0) (he rfl) (by decide) (by decide)
    simp only [show needE 3 = true from rfl, if_true, show ¬ (3 : Int) = 1 by decide, show ¬ (3 : Int) = 2 by decide, if_false]
    refine Piece.plain (a.snoc (m := 1) (by rw [b]; rfl) (by simp [popA]) (by simp [dl, popA, popB]) (fun g => by simp at g) (c0 (by decide)) (by simp)) (by rw [hts_app, b, hts_one]; rfl) fun y hy => ?_
    rcases List.mem_append.1 hy with hy | hy
    · exact hno (he rfl) y hy
    · rw [List.mem_singleton.1 hy]; constructor <;> simp
  by_cases g4 : op = 4
  · subst g4
    obtain ⟨y, -, -, c, d, e'⟩ := var_at h1 (hv rfl)
    simp only [show needE 4 = false from rfl, if_true, show ¬ (4 : Int) = 1 by decide, show ¬ (4 : Int) = 2 by decide, show ¬ (4 : Int) = 3 by decide, if_false, Bool.false_eq_true]
    refine Piece.plain (Fit.snoc (L := []) (m := 0) trivial rfl (by simp [popA]) (by simp [dl, popA, popB]) (fun g => by simp at g) ⟨fun _ => ⟨c, by simp only; omega⟩, fun g => by simp at g⟩ (by simp)) rfl fun y hy => ?_
    rw [List.nil_append] at hy
    rw [List.mem_singleton.1 hy]; constructor <;> simp
  by_cases g7 : op = 7
  · subst g7
    simp only [show needE 7 = false from rfl, if_true, show ¬ (7 : Int) = 1 by decide, show ¬ (7 : Int) = 2 by decide, show ¬ (7 : Int) = 3 by decide, show ¬ (7 : Int) = 4 by decide, show ¬ (7 : Int) = 5 by decide, show ¬ (7 : Int) = 6 by decide, if_false, Bool.false_eq_true]
    refine Piece.plain (Fit.snoc (L := []) (m := 0) trivial rfl (by simp [popA]) (by simp [dl, popA, popB]) (fun g => by simp at g) (c0 (by decide)) (by simp)) rfl fun y hy => ?_
    rw [List.mem_singleton.1 hy]; constructor <;> simp
  simp only [g1, g2, g3, g4, g7, if_false]
  have h56 : op = 5 ∨ op = 6 := by omega
  have hne : needE op = true := by rcases h56 with rfl | rfl <;> rfl
  obtain ⟨a, b⟩ := hex (n := 0) (he hne) (by decide) (by decide)
  have hn0 := hno (he hne)
  rw [if_pos hne]
  -- the head: the condition, and the jump behind it
  have head : ∀ t : Int, Fit (sizes vs) 0 (exCode vs e ++ [⟨13, t, 0, 0⟩]) ∧ hts (exCode vs e ++ [⟨13, t, 0, 0⟩]) = 0 := fun t =>
    ⟨a.snoc (m := 1) (by rw [b]; rfl) (by simp [popA]) (by simp [dl, popA, popB]) (fun _ => by simp [dl, popA, popB]) (c0 (by decide)) (by simp), by rw [hts_app, b, hts_one]; rfl⟩
  have body_ := hB (k + (exCode vs e).length + 1)
  generalize hbe : stsCode vs body (k + (exCode vs e).length + 1) = Bc at body_ ⊢
  generalize hee : stsCode vs els (k + (exCode vs e).length + 1 + Bc.length + 1) = Ec
  have els_ := hE (k + (exCode vs e).length + 1 + Bc.length + 1)
  rw [hee] at els_
  clear hbe hee
  generalize exCode vs e = C at *
  by_cases g5 : op = 5
  · rw [if_pos g5]
    refine ⟨Fit.snoc (m := 0) ((head _).1.app (by rw [(head _).2]; exact body_.1)) (by rw [hts_app, (head _).2, body_.2.1]; rfl) (by simp [popA]) (by simp [dl, popA, popB]) (fun _ => by simp [dl, popA, popB]) (c0 (by decide)) (by simp), by rw [hts_app, hts_app, (head _).2, body_.2.1, hts_one]; rfl, ?_⟩
    intro y hy
    rcases List.mem_append.1 hy with hy | hy
    · rcases List.mem_append.1 hy with hy | hy
      · rcases List.mem_append.1 hy with hy | hy
        · exact JIn.none (hn0 y hy)
        · rw [List.mem_singleton.1 hy]
          refine fun _ => ⟨C.length + 1 + Bc.length + 1, by simp only; congr 1; omega, by simp only [List.length_append, List.length_singleton]; omega, ?_⟩
          rw [List.take_of_length_le (by simp only [List.length_append, List.length_singleton]; omega), hts_app, hts_app, (head _).2, body_.2.1, hts_one]; rfl
      · refine JIn.lift (by rw [List.length_append, List.length_singleton, ← Nat.add_assoc]; exact body_.2.2 y hy) (head _).2
    · rw [List.mem_singleton.1 hy]
      exact fun _ => ⟨0, rfl, Nat.zero_le _, rfl⟩
  rw [if_neg g5, if_pos (by omega)]
  have hmid : ∀ t u : Int, Fit (sizes vs) 0 (C ++ [⟨13, t, 0, 0⟩] ++ Bc ++ [⟨14, u, 0, 0⟩]) ∧ hts (C ++ [⟨13, t, 0, 0⟩] ++ Bc ++ [⟨14, u, 0, 0⟩]) = 0 := fun t u =>
    ⟨Fit.snoc (m := 0) ((head _).1.app (by rw [(head _).2]; exact body_.1)) (by rw [hts_app, (head _).2, body_.2.1]; rfl) (by simp [popA]) (by simp [dl, popA, popB]) (fun _ => by simp [dl, popA, popB]) (c0 (by decide)) (by simp), by rw [hts_app, hts_app, (head _).2, body_.2.1, hts_one]; rfl⟩
  refine ⟨(hmid _ _).1.app (by rw [(hmid _ _).2]; exact els_.1), by rw [hts_app, (hmid _ _).2, els_.2.1]; rfl, ?_⟩
  intro y hy
  rcases List.mem_append.1 hy with hy | hy
  · rcases List.mem_append.1 hy with hy | hy
    · rcases List.mem_append.1 hy with hy | hy
      · rcases List.mem_append.1 hy with hy | hy
        · exact JIn.none (hn0 y hy)
        · rw [List.mem_singleton.1 hy]
          refine fun _ => ⟨C.length + 1 + Bc.length + 1, by simp only; congr 1; omega, by simp only [List.length_append, List.length_singleton]; omega, ?_⟩
          rw [List.take_append_of_le_length (by simp only [List.length_append, List.length_singleton]; omega), List.take_of_length_le (by simp only [List.length_append, List.length_singleton]; omega), (hmid _ _).2]
      · rw [List.append_assoc]
        refine JIn.lift (by rw [List.length_append, List.length_singleton, ← Nat.add_assoc]; exact body_.2.2 y hy) (head _).2
    · rw [List.mem_singleton.1 hy]
      refine fun _ => ⟨C.length + 1 + Bc.length + 1 + Ec.length, by simp only; congr 1; omega, by simp only [List.length_append, List.length_singleton]; omega, ?_⟩
      rw [List.take_of_length_le (by simp only [List.length_append, List.length_singleton]; omega), hts_app, (hmid _ _).2, els_.2.1]; rfl
  · have := JIn.lift (B := []) (at_ := k) (A := C ++ [⟨13, (k + C.length + 1 + Bc.length + 1 : Nat), 0, 0⟩] ++ Bc ++ [⟨14, (k + C.length + 1 + Bc.length + 1 + Ec.length : Nat), 0, 0⟩]) (L := Ec) (x := y) (by rw [show k + (C ++ [⟨13, (k + C.length + 1 + Bc.length + 1 : Nat), 0, 0⟩] ++ Bc ++ [⟨14, (k + C.length + 1 + Bc.length + 1 + Ec.length : Nat), 0, 0⟩] : List In).length = k + C.length + 1 + Bc.length + 1 by simp only [List.length_append, List.length_singleton]; omega]; exact els_.2.2 y hy) (hmid _ _).2
    rwa [List.append_nil] at this
/-- The whole: fits. -/
theorem code_fits {p : Pr} (h : checkP p = 0) : Piece (sizes p.vars) 0 (stsCode p.vars p.body 0) := by
  obtain ⟨a, -, c, -⟩ := check_valid h
  exact sts_piece _ (fun x hx => st_piece c x (a.mem x hx)) 0
end Go.Proofs.Ytbbghdkndbpmmaa
