/- Package compile, told plainly: a program that is one, and its instructions. -/
import Derived.Test.YtbbghdkndbpmmaaCdL
namespace Go.Proofs.Ytbbghdkndbpmmaa
open Go X
/-- An instruction. -/
structure In where
  op : Int
  a : Int
  b : Int
  n : Int
deriving DecidableEq
def inC (i : In) : List Value := [i64 i.op, i64 i.a, i64 i.b, i64 i.n]
def sizeV (vs : List Va) (v : Int) : Int := (vs[v.toNat]?.map (·.size)).getD 0
def opIn (vs : List Va) (op v n : Int) : In := ⟨op, if op = 2 ∨ op = 3 then cellOf vs v else 0, if op = 3 then sizeV vs v else 0, n⟩
mutual
def exCode (vs : List Va) : Ex → List In
  | .mk op v n l => exsCode vs l ++ [opIn vs op v n]
def exsCode (vs : List Va) : List Ex → List In
  | [] => []
  | x :: l => exCode vs x ++ exsCode vs l
end
mutual
def stCode (vs : List Va) : St → Nat → List In
  | .mk op v e f body els, at_ =>
    let l := if needE op then exCode vs e else []
    if op = 1 then l ++ [⟨9, cellOf vs v, 0, 0⟩]
    else if op = 2 then l ++ exCode vs f ++ [⟨10, cellOf vs v, sizeV vs v, 0⟩]
    else if op = 3 then l ++ [⟨11, 0, 0, 0⟩]
    else if op = 4 then l ++ [⟨12, cellOf vs v, 0, 0⟩]
    else if op = 5 then
      let b := stsCode vs body (at_ + l.length + 1)
      l ++ [⟨13, (at_ + l.length + 1 + b.length + 1 : Nat), 0, 0⟩] ++ b ++ [⟨14, (at_ : Nat), 0, 0⟩]
    else if op = 6 then
      let b := stsCode vs body (at_ + l.length + 1)
      let o := stsCode vs els (at_ + l.length + 1 + b.length + 1)
      l ++ [⟨13, (at_ + l.length + 1 + b.length + 1 : Nat), 0, 0⟩] ++ b ++ [⟨14, (at_ + l.length + 1 + b.length + 1 + o.length : Nat), 0, 0⟩] ++ o
    else if op = 7 then [⟨15, 0, 0, 0⟩]
    else l
def stsCode (vs : List Va) : List St → Nat → List In
  | [], _ => []
  | x :: l, at_ => stCode vs x at_ ++ stsCode vs l (at_ + (stCode vs x at_).length)
end
def codeOf (p : Pr) : List In := stsCode p.vars p.body 0 ++ [⟨16, 0, 0, 0⟩]
theorem exsCode_app (vs : List Va) : ∀ (l m : List Ex), exsCode vs (l ++ m) = exsCode vs l ++ exsCode vs m
  | [], m => by simp [exsCode]
  | x :: l, m => by rw [List.cons_append, exsCode, exsCode, exsCode_app vs l m, List.append_assoc]
theorem exsCode_snoc (vs : List Va) {l : List Ex} {k : Nat} {x : Ex} (h : l[k]? = some x) : exsCode vs (l.take (k + 1)) = exsCode vs (l.take k) ++ exCode vs x := by
  rw [List.take_add_one, h]; simp [exsCode_app, exsCode]
theorem stsCode_app (vs : List Va) : ∀ (l m : List St) (k : Nat), stsCode vs (l ++ m) k = stsCode vs l k ++ stsCode vs m (k + (stsCode vs l k).length)
  | [], m, k => by simp [stsCode]
  | x :: l, m, k => by rw [List.cons_append, stsCode, stsCode, stsCode_app vs l m, List.append_assoc, List.length_append, Nat.add_assoc]
theorem stsCode_snoc (vs : List Va) {l : List St} {k : Nat} {x : St} (h : l[k]? = some x) (j : Nat) : stsCode vs (l.take (k + 1)) j = stsCode vs (l.take k) j ++ stCode vs x (j + (stsCode vs (l.take k) j).length) := by
  rw [List.take_add_one, h]; simp [stsCode_app, stsCode]
theorem exsCode_len' (vs : List Va) : ∀ (l : List Ex), (∀ x ∈ l, (exCode vs x).length = exN x) → (exsCode vs l).length = exsN l
  | [], _ => rfl
  | x :: l, h => by rw [exsCode, exsN, List.length_append, h x (by simp), exsCode_len' vs l (fun y hy => h y (by simp [hy]))]
theorem exCode_len (vs : List Va) (x : Ex) : (exCode vs x).length = exN x := by
  refine Ex.ind (P := fun x => (exCode vs x).length = exN x) ?_ x
  intro op v n l ih
  rw [exCode, exN, List.length_append, exsCode_len' vs l ih, List.length_singleton, Nat.add_comm]
theorem exsCode_len (vs : List Va) (l : List Ex) : (exsCode vs l).length = exsN l := exsCode_len' vs l (fun x _ => exCode_len vs x)
theorem stsCode_len' (vs : List Va) : ∀ (l : List St), (∀ x ∈ l, ∀ k, (stCode vs x k).length ≤ stN x) → ∀ k, (stsCode vs l k).length ≤ stsN l
  | [], _, _ => Nat.zero_le _
  | x :: l, h, k => by
    have h1 := h x (by simp) k
    have h2 := stsCode_len' vs l (fun y hy => h y (by simp [hy])) (k + (stCode vs x k).length)
    rw [stsCode, stsN, List.length_append]; omega
theorem stCode_len (vs : List Va) (x : St) : ∀ k, (stCode vs x k).length ≤ stN x := by
  refine St.ind (P := fun x => ∀ k, (stCode vs x k).length ≤ stN x) ?_ x
  intro op v e f body els ih jh k
  have hb := stsCode_len' vs body ih
  have he := stsCode_len' vs els jh
  have h1 := exN_pos e
  have h2 := exN_pos f
  have hl : (if needE op then exCode vs e else []).length ≤ exN e := by split <;> simp [exCode_len]
  rw [stCode, stN]
  have hb1 := hb (k + (if needE op then exCode vs e else []).length + 1)
  have he1 := he (k + (if needE op then exCode vs e else []).length + 1 + (stsCode vs body (k + (if needE op then exCode vs e else []).length + 1)).length + 1)
  by_cases g1 : op = 1
  · simp only [g1, if_true, List.length_append, List.length_singleton] at *; omega
  by_cases g2 : op = 2
  · simp only [g2, show ¬ (2 : Int) = 1 by decide, if_true, if_false, List.length_append, List.length_singleton, exCode_len] at *; omega
  by_cases g3 : op = 3
  · simp only [g3, show ¬ (3 : Int) = 1 by decide, show ¬ (3 : Int) = 2 by decide, if_true, if_false, List.length_append, List.length_singleton] at *; omega
  by_cases g4 : op = 4
  · simp only [g4, show ¬ (4 : Int) = 1 by decide, show ¬ (4 : Int) = 2 by decide, show ¬ (4 : Int) = 3 by decide, if_true, if_false, List.length_append, List.length_singleton] at *; omega
  simp only [g1, g2, g3, g4, if_false]
  generalize (if needE op then exCode vs e else []) = L at *
  by_cases g5 : op = 5
  · rw [if_pos g5]; simp only [List.length_append, List.length_singleton]; omega
  rw [if_neg g5]
  by_cases g6 : op = 6
  · rw [if_pos g6]; simp only [List.length_append, List.length_singleton]; omega
  rw [if_neg g6]
  by_cases g7 : op = 7
  · rw [if_pos g7]; simp only [List.length_singleton]; omega
  rw [if_neg g7]; omega
theorem stsCode_len (vs : List Va) (l : List St) (k : Nat) : (stsCode vs l k).length ≤ stsN l := stsCode_len' vs l (fun x _ => stCode_len vs x) k
/-! a program that is one -/
mutual
def exH : Ex → Nat
  | .mk _ _ _ l => 1 + exsH l
def exsH : List Ex → Nat
  | [] => 0
  | x :: l => max (exH x) (exsH l)
end
mutual
def ExV (nv : Nat) : Ex → Prop
  | .mk op v n l => (1 ≤ op ∧ op ≤ 8) ∧ (l.length : Int) = partsOf op ∧ (op = 2 ∨ op = 3 → 0 ≤ v ∧ v < nv) ∧ (n ≠ 0 → op = 1) ∧ ExsV nv l
def ExsV (nv : Nat) : List Ex → Prop
  | [] => True
  | x :: l => ExV nv x ∧ ExsV nv l
end
mutual
def StV (nv : Nat) : St → Prop
  | .mk op v e f body els => (1 ≤ op ∧ op ≤ 7) ∧ (needV op = true → 0 ≤ v ∧ v < nv) ∧ (needE op = true → ExV nv e ∧ exH e ≤ 12) ∧ (needF op = true → ExV nv f ∧ exH f ≤ 12) ∧ (needB op = false → body = []) ∧ (needO op = false → els = []) ∧ StsV nv body ∧ StsV nv els
def StsV (nv : Nat) : List St → Prop
  | [] => True
  | x :: l => StV nv x ∧ StsV nv l
end
theorem ExsV.mem {nv : Nat} : ∀ {l : List Ex}, ExsV nv l → ∀ x ∈ l, ExV nv x
  | [], _, _, h => by simp at h
  | y :: l, h, x, hx => by
    rw [ExsV] at h
    rcases List.mem_cons.1 hx with rfl | hx
    · exact h.1
    · exact ExsV.mem h.2 x hx
theorem StsV.mem {nv : Nat} : ∀ {l : List St}, StsV nv l → ∀ x ∈ l, StV nv x
  | [], _, _, h => by simp at h
  | y :: l, h, x, hx => by
    rw [StsV] at h
    rcases List.mem_cons.1 hx with rfl | hx
    · exact h.1
    · exact StsV.mem h.2 x hx
theorem StsV.of {nv : Nat} : ∀ {l : List St}, (∀ x ∈ l, StV nv x) → StsV nv l
  | [], _ => by rw [StsV]; trivial
  | y :: l, h => by rw [StsV]; exact ⟨h y (by simp), StsV.of fun x hx => h x (by simp [hx])⟩
theorem fail_ok {e : JE} {b : Bool} {c l : Int} (h : e.fail b c = .ok l) : e = .ok l ∧ b = false := by
  cases e with
  | error d => simp [JE.fail] at h
  | ok a => cases b <;> simp [JE.fail] at h ⊢; exact h
theorem one_ok' {e : JE} {d l : Int} (h : e.one d = .ok l) : d ≤ 12 ∧ ∃ a, e = .ok a := by
  cases e with
  | error c => simp [JE.one] at h
  | ok a =>
    simp only [JE.one] at h
    split at h
    · simp at h
    · exact ⟨by omega, a, rfl⟩
theorem exHead_ok {nv deep op v n a b : Int} {k : Nat} (h : exHead nv deep op v n k (.ok a) = .ok b) :
    deep ≤ 12 ∧ (1 ≤ op ∧ op ≤ 8) ∧ (k : Int) = partsOf op ∧ (op = 2 ∨ op = 3 → 0 ≤ v ∧ v < nv) ∧ (n ≠ 0 → op = 1) := by
  rw [exHead, JE.named] at h
  obtain ⟨h, h5⟩ := fail_ok h
  obtain ⟨h, h4⟩ := fail_ok h
  obtain ⟨h, h3⟩ := fail_ok h
  obtain ⟨h, h2⟩ := fail_ok h
  obtain ⟨h1, -⟩ := one_ok' h
  simp only [decide_eq_false_iff_not] at h2 h3
  refine ⟨h1, ?_, by omega, ?_, fun hn => by omega⟩
  · have : 0 ≤ partsOf op := by omega
    rw [partsOf] at this
    constructor <;> · repeat' split at this
                      all_goals omega
  · intro ho
    simp only [ho, decide_true, Bool.true_and, decide_eq_false_iff_not] at h4
    omega
theorem exsV_of {nv : Nat} : ∀ (l : List Ex), (∀ x ∈ l, ∀ deep a b : Int, exE nv deep x (.ok a) = .ok b → ExV nv x ∧ deep + exH x ≤ 13) → ∀ deep a b : Int, deep ≤ 13 → exsE nv deep l (.ok a) = .ok b → ExsV nv l ∧ deep + exsH l ≤ 13
  | [], _, deep, a, b, hd, _ => by rw [ExsV, exsH]; exact ⟨trivial, by omega⟩
  | x :: l, h, deep, a, b, hd, hx => by
    rw [exsE] at hx
    cases e : exE nv deep x (.ok a) with
    | error c => rw [e, exsE_err] at hx; cases hx
    | ok a1 =>
      rw [e] at hx
      obtain ⟨g1, g2⟩ := h x (by simp) deep a a1 e
      obtain ⟨g3, g4⟩ := exsV_of l (fun y hy => h y (by simp [hy])) deep a1 b hd hx
      rw [ExsV, exsH]
      exact ⟨⟨g1, g3⟩, by omega⟩
theorem exV_of {nv : Nat} (x : Ex) : ∀ deep a b : Int, exE nv deep x (.ok a) = .ok b → ExV nv x ∧ deep + exH x ≤ 13 := by
  refine Ex.ind (P := fun x => ∀ deep a b : Int, exE nv deep x (.ok a) = .ok b → ExV nv x ∧ deep + exH x ≤ 13) ?_ x
  intro op v n l ih deep a b h
  rw [exE] at h
  cases e : exHead nv deep op v n l.length (.ok a) with
  | error c => rw [e, exsE_err] at h; cases h
  | ok a1 =>
    rw [e] at h
    obtain ⟨g1, g2, g3, g4, g5⟩ := exHead_ok e
    obtain ⟨g6, g7⟩ := exsV_of l ih (deep + 1) a1 b (by omega) h
    rw [ExV, exH]
    exact ⟨⟨g2, g3, g4, g5, g6⟩, by omega⟩
theorem stHead_ok {nv deep op v a b : Int} {e f : Ex} {kb ke : Nat} (h : stHead nv deep op v e f kb ke (.ok a) = .ok b) :
    deep ≤ 12 ∧ (1 ≤ op ∧ op ≤ 7) ∧ (needV op = true → 0 ≤ v ∧ v < nv) ∧ (needB op = false → kb = 0) ∧ (needO op = false → ke = 0) := by
  rw [stHead, JE.named] at h
  obtain ⟨h, h5⟩ := fail_ok h
  obtain ⟨h, h4⟩ := fail_ok h
  obtain ⟨h, h3⟩ := fail_ok h
  obtain ⟨h, h2⟩ := fail_ok h
  obtain ⟨h1, -⟩ := one_ok' h
  simp only [decide_eq_false_iff_not] at h2
  simp only [stForm, Bool.or_eq_false_iff, Bool.and_eq_false_imp, Bool.not_eq_true', decide_eq_false_iff_not] at h3
  refine ⟨h1, by omega, ?_, ?_, ?_⟩
  · intro ho
    simp only [ho, Bool.true_and, decide_eq_false_iff_not] at h4
    omega
  · intro hb; have := h3.1.2 hb; omega
  · intro hb; have := h3.2 hb; omega
theorem stsV_of {nv : Nat} : ∀ (l : List St), (∀ x ∈ l, ∀ deep a b : Int, 0 ≤ deep → stE nv deep x (.ok a) = .ok b → StV nv x) → ∀ deep a b : Int, 0 ≤ deep → stsE nv deep l (.ok a) = .ok b → StsV nv l
  | [], _, deep, a, b, _, _ => by rw [StsV]; trivial
  | x :: l, h, deep, a, b, hd, hx => by
    rw [stsE] at hx
    cases e : stE nv deep x (.ok a) with
    | error c => rw [e, stsE_err] at hx; cases hx
    | ok a1 =>
      rw [e] at hx
      rw [StsV]
      exact ⟨h x (by simp) deep a a1 hd e, stsV_of l (fun y hy => h y (by simp [hy])) deep a1 b hd hx⟩
theorem stV_of {nv : Nat} (x : St) : ∀ deep a b : Int, 0 ≤ deep → stE nv deep x (.ok a) = .ok b → StV nv x := by
  refine St.ind (P := fun x => ∀ deep a b : Int, 0 ≤ deep → stE nv deep x (.ok a) = .ok b → StV nv x) ?_ x
  intro op v e f body els ih jh deep a b hd h
  rw [stE] at h
  cases e1 : stHead nv deep op v e f body.length els.length (.ok a) with
  | error c => rw [e1, stEF_err, stsE_err, stsE_err] at h; cases h
  | ok a1 =>
    rw [e1] at h
    cases e2 : stEF nv (deep + 1) op e f (.ok a1) with
    | error c => rw [e2, stsE_err, stsE_err] at h; cases h
    | ok a2 =>
      rw [e2] at h
      cases e3 : stsE nv (deep + 1) body (.ok a2) with
      | error c => rw [e3, stsE_err] at h; cases h
      | ok a3 =>
        rw [e3] at h
        obtain ⟨g1, g2, g3, g4, g5⟩ := stHead_ok e1
        have hb := stsV_of body ih (deep + 1) a2 a3 (by omega) e3
        have he := stsV_of els jh (deep + 1) a3 b (by omega) h
        rw [StV]
        rw [stEF] at e2
        refine ⟨g2, g3, ?_, ?_, fun hn => List.eq_nil_of_length_eq_zero (g4 hn), fun hn => List.eq_nil_of_length_eq_zero (g5 hn), hb, he⟩
        · intro hn
          rw [if_pos hn] at e2
          cases e4 : exE nv (deep + 1) e (.ok a1) with
          | error c => simp only [e4, exE_err, ite_self] at e2; cases e2
          | ok a4 => obtain ⟨k1, k2⟩ := exV_of e _ _ _ e4; exact ⟨k1, by omega⟩
        · intro hn
          simp only [hn, if_true] at e2
          cases e4 : (if needE op = true then exE nv (deep + 1) e (.ok a1) else .ok a1 : JE) with
          | error c => rw [e4, exE_err] at e2; cases e2
          | ok a4 => rw [e4] at e2; obtain ⟨k1, k2⟩ := exV_of f _ _ _ e2; exact ⟨k1, by omega⟩
theorem check_valid {p : Pr} (h : checkP p = 0) : StsV p.vars.length p.body ∧ p.vars.length ≤ 8 ∧ (∀ x ∈ p.vars, 1 ≤ x.size) ∧ sizes p.vars ≤ 48 := by
  obtain ⟨h1, b, h2⟩ := check_ok h
  exact ⟨stsV_of p.body (fun x _ => stV_of x) 0 150 b (Int.le_refl _) h2, check_sizes h1⟩
end Go.Proofs.Ytbbghdkndbpmmaa
