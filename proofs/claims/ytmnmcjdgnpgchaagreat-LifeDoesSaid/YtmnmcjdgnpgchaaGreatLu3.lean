/- Part 3 of 6 of what the claim needs: In, Io, Ir, Cd, CdJ, CdK, CdM, CdN, CdO, CdP, CdQ, CdR, Kp, Ks, Km, Ja, Je, Js, Jt, Ju, Jv, Mr, Jw, Ap, CdT, CdU, CdV, CdW. -/
import Derived.Test.YtmnmcjdgnpgchaaGreatLu2
namespace Go.Proofs.YtmnmcjdgnpgchaaGreat
open Go X
structure In where
  op : Int
  a : Int
  b : Int
  n : Int
deriving DecidableEq
def inC (i : In) : List Value := [i64 i.op, i64 i.a, i64 i.b, i64 i.n]
def sizeV (vs : List Va) (v : Int) : Int := (vs[v.toNat]?.map (·.size)).getD 0
def opIn (vs : List Va) (op v n : Int) : In := ⟨op, if op = 2 ∨ op = 3 then cellOf vs v else 0, if op = 3 then sizeV vs v else 0, n⟩
mutual
def exCode (vs : List Va) : Ex → List In
  | .mk op v n l => exsCode vs l ++ [opIn vs op v n]
def exsCode (vs : List Va) : List Ex → List In
  | [] => []
  | x :: l => exCode vs x ++ exsCode vs l
end
mutual
def stCode (vs : List Va) : St → Nat → List In
  | .mk op v e f body els, at_ =>
    let l := if needE op then exCode vs e else []
    if op = 1 then l ++ [⟨9, cellOf vs v, 0, 0⟩]
    else if op = 2 then l ++ exCode vs f ++ [⟨10, cellOf vs v, sizeV vs v, 0⟩]
    else if op = 3 then l ++ [⟨11, 0, 0, 0⟩]
    else if op = 4 then l ++ [⟨12, cellOf vs v, 0, 0⟩]
    else if op = 5 then
      let b := stsCode vs body (at_ + l.length + 1)
      l ++ [⟨13, (at_ + l.length + 1 + b.length + 1 : Nat), 0, 0⟩] ++ b ++ [⟨14, (at_ : Nat), 0, 0⟩]
    else if op = 6 then
      let b := stsCode vs body (at_ + l.length + 1)
      let o := stsCode vs els (at_ + l.length + 1 + b.length + 1)
      l ++ [⟨13, (at_ + l.length + 1 + b.length + 1 : Nat), 0, 0⟩] ++ b ++ [⟨14, (at_ + l.length + 1 + b.length + 1 + o.length : Nat), 0, 0⟩] ++ o
    else if op = 7 then [⟨15, 0, 0, 0⟩]
    else l
def stsCode (vs : List Va) : List St → Nat → List In
  | [], _ => []
  | x :: l, at_ => stCode vs x at_ ++ stsCode vs l (at_ + (stCode vs x at_).length)
end
def codeOf (p : Pr) : List In := stsCode p.vars p.body 0 ++ [⟨16, 0, 0, 0⟩]
theorem exsCode_app (vs : List Va) : ∀ (l m : List Ex), exsCode vs (l ++ m) = exsCode vs l ++ exsCode vs m
  | [], m => by simp [exsCode]
  | x :: l, m => by rw [List.cons_append, exsCode, exsCode, exsCode_app vs l m, List.append_assoc]
theorem exsCode_snoc (vs : List Va) {l : List Ex} {k : Nat} {x : Ex} (h : l[k]? = some x) : exsCode vs (l.take (k + 1)) = exsCode vs (l.take k) ++ exCode vs x := by
  rw [List.take_add_one, h]; simp [exsCode_app, exsCode]
theorem stsCode_app (vs : List Va) : ∀ (l m : List St) (k : Nat), stsCode vs (l ++ m) k = stsCode vs l k ++ stsCode vs m (k + (stsCode vs l k).length)
  | [], m, k => by simp [stsCode]
  | x :: l, m, k => by rw [List.cons_append, stsCode, stsCode, stsCode_app vs l m, List.append_assoc, List.length_append, Nat.add_assoc]
theorem stsCode_snoc (vs : List Va) {l : List St} {k : Nat} {x : St} (h : l[k]? = some x) (j : Nat) : stsCode vs (l.take (k + 1)) j = stsCode vs (l.take k) j ++ stCode vs x (j + (stsCode vs (l.take k) j).length) := by
  rw [List.take_add_one, h]; simp [stsCode_app, stsCode]
theorem exsCode_len' (vs : List Va) : ∀ (l : List Ex), (∀ x ∈ l, (exCode vs x).length = exN x) → (exsCode vs l).length = exsN l
  | [], _ => rfl
  | x :: l, h => by rw [exsCode, exsN, List.length_append, h x (by simp), exsCode_len' vs l (fun y hy => h y (by simp [hy]))]
theorem exCode_len (vs : List Va) (x : Ex) : (exCode vs x).length = exN x := by
  refine Ex.ind (P := fun x => (exCode vs x).length = exN x) ?_ x
  intro op v n l ih
  rw [exCode, exN, List.length_append, exsCode_len' vs l ih, List.length_singleton, Nat.add_comm]
theorem exsCode_len (vs : List Va) (l : List Ex) : (exsCode vs l).length = exsN l := exsCode_len' vs l (fun x _ => exCode_len vs x)
theorem stsCode_len' (vs : List Va) : ∀ (l : List St), (∀ x ∈ l, ∀ k, (stCode vs x k).length ≤ stN x) → ∀ k, (stsCode vs l k).length ≤ stsN l
  | [], _, _ => Nat.zero_le _
  | x :: l, h, k => by
    have h1 := h x (by simp) k
    have h2 := stsCode_len' vs l (fun y hy => h y (by simp [hy])) (k + (stCode vs x k).length)
    rw [stsCode, stsN, List.length_append]; omega
theorem stCode_len (vs : List Va) (x : St) : ∀ k, (stCode vs x k).length ≤ stN x := by
  refine St.ind (P := fun x => ∀ k, (stCode vs x k).length ≤ stN x) ?_ x
  intro op v e f body els ih jh k
  have hb := stsCode_len' vs body ih
  have he := stsCode_len' vs els jh
  have h1 := exN_pos e
  have h2 := exN_pos f
  have hl : (if needE op then exCode vs e else []).length ≤ exN e := by split <;> simp [exCode_len]
  rw [stCode, stN]
  have hb1 := hb (k + (if needE op then exCode vs e else []).length + 1)
  have he1 := he (k + (if needE op then exCode vs e else []).length + 1 + (stsCode vs body (k + (if needE op then exCode vs e else []).length + 1)).length + 1)
  by_cases g1 : op = 1
  · simp only [g1, if_true, List.length_append, List.length_singleton] at *; omega
  by_cases g2 : op = 2
  · simp only [g2, show ¬ (2 : Int) = 1 by decide, if_true, if_false, List.length_append, List.length_singleton, exCode_len] at *; omega
  by_cases g3 : op = 3
  · simp only [g3, show ¬ (3 : Int) = 1 by decide, show ¬ (3 : Int) = 2 by decide, if_true, if_false, List.length_append, List.length_singleton] at *; omega
  by_cases g4 : op = 4
  · simp only [g4, show ¬ (4 : Int) = 1 by decide, show ¬ (4 : Int) = 2 by decide, show ¬ (4 : Int) = 3 by decide, if_true, if_false, List.length_append, List.length_singleton] at *; omega
  simp only [g1, g2, g3, g4, if_false]
  generalize (if needE op then exCode vs e else []) = L at *
  by_cases g5 : op = 5
  · rw [if_pos g5]; simp only [List.length_append, List.length_singleton]; omega
  rw [if_neg g5]
  by_cases g6 : op = 6
  · rw [if_pos g6]; simp only [List.length_append, List.length_singleton]; omega
  rw [if_neg g6]
  by_cases g7 : op = 7
  · rw [if_pos g7]; simp only [List.length_singleton]; omega
  rw [if_neg g7]; omega
theorem stsCode_len (vs : List Va) (l : List St) (k : Nat) : (stsCode vs l k).length ≤ stsN l := stsCode_len' vs l (fun x _ => stCode_len vs x) k
mutual
def exH : Ex → Nat
  | .mk _ _ _ l => 1 + exsH l
def exsH : List Ex → Nat
  | [] => 0
  | x :: l => max (exH x) (exsH l)
end
mutual
def ExV (nv : Nat) : Ex → Prop
  | .mk op v n l => (1 ≤ op ∧ op ≤ 8) ∧ (l.length : Int) = partsOf op ∧ (op = 2 ∨ op = 3 → 0 ≤ v ∧ v < nv) ∧ (n ≠ 0 → op = 1) ∧ ExsV nv l
def ExsV (nv : Nat) : List Ex → Prop
  | [] => True
  | x :: l => ExV nv x ∧ ExsV nv l
end
mutual
def StV (nv : Nat) : St → Prop
  | .mk op v e f body els => (1 ≤ op ∧ op ≤ 7) ∧ (needV op = true → 0 ≤ v ∧ v < nv) ∧ (needE op = true → ExV nv e ∧ exH e ≤ 12) ∧ (needF op = true → ExV nv f ∧ exH f ≤ 12) ∧ (needB op = false → body = []) ∧ (needO op = false → els = []) ∧ StsV nv body ∧ StsV nv els
def StsV (nv : Nat) : List St → Prop
  | [] => True
  | x :: l => StV nv x ∧ StsV nv l
end
theorem ExsV.mem {nv : Nat} : ∀ {l : List Ex}, ExsV nv l → ∀ x ∈ l, ExV nv x
  | [], _, _, h => by simp at h
  | y :: l, h, x, hx => by
    rw [ExsV] at h
    rcases List.mem_cons.1 hx with rfl | hx
    · exact h.1
    · exact ExsV.mem h.2 x hx
theorem StsV.mem {nv : Nat} : ∀ {l : List St}, StsV nv l → ∀ x ∈ l, StV nv x
  | [], _, _, h => by simp at h
  | y :: l, h, x, hx => by
    rw [StsV] at h
    rcases List.mem_cons.1 hx with rfl | hx
    · exact h.1
    · exact StsV.mem h.2 x hx
theorem fail_ok {e : JE} {b : Bool} {c l : Int} (h : e.fail b c = .ok l) : e = .ok l ∧ b = false := by
  cases e with
  | error d => simp [JE.fail] at h
  | ok a => cases b <;> simp [JE.fail] at h ⊢; exact h
theorem one_ok' {e : JE} {d l : Int} (h : e.one d = .ok l) : d ≤ 12 ∧ ∃ a, e = .ok a := by
  cases e with
  | error c => simp [JE.one] at h
  | ok a =>
    simp only [JE.one] at h
    split at h
    · simp at h
    · exact ⟨by omega, a, rfl⟩
theorem exHead_ok {nv deep op v n a b : Int} {k : Nat} (h : exHead nv deep op v n k (.ok a) = .ok b) :
    deep ≤ 12 ∧ (1 ≤ op ∧ op ≤ 8) ∧ (k : Int) = partsOf op ∧ (op = 2 ∨ op = 3 → 0 ≤ v ∧ v < nv) ∧ (n ≠ 0 → op = 1) := by
  rw [exHead, JE.named] at h
  obtain ⟨h, h5⟩ := fail_ok h
  obtain ⟨h, h4⟩ := fail_ok h
  obtain ⟨h, h3⟩ := fail_ok h
  obtain ⟨h, h2⟩ := fail_ok h
  obtain ⟨h1, -⟩ := one_ok' h
  simp only [decide_eq_false_iff_not] at h2 h3
  refine ⟨h1, ?_, by omega, ?_, fun hn => by omega⟩
  · have : 0 ≤ partsOf op := by omega
    rw [partsOf] at this
    constructor <;> · repeat' split at this
                      all_goals omega
  · intro ho
    simp only [ho, decide_true, Bool.true_and, decide_eq_false_iff_not] at h4
    omega
theorem exsV_of {nv : Nat} : ∀ (l : List Ex), (∀ x ∈ l, ∀ deep a b : Int, exE nv deep x (.ok a) = .ok b → ExV nv x ∧ deep + exH x ≤ 13) → ∀ deep a b : Int, deep ≤ 13 → exsE nv deep l (.ok a) = .ok b → ExsV nv l ∧ deep + exsH l ≤ 13
  | [], _, deep, a, b, hd, _ => by rw [ExsV, exsH]; exact ⟨trivial, by omega⟩
  | x :: l, h, deep, a, b, hd, hx => by
    rw [exsE] at hx
    cases e : exE nv deep x (.ok a) with
    | error c => rw [e, exsE_err] at hx; cases hx
    | ok a1 =>
      rw [e] at hx
      obtain ⟨g1, g2⟩ := h x (by simp) deep a a1 e
      obtain ⟨g3, g4⟩ := exsV_of l (fun y hy => h y (by simp [hy])) deep a1 b hd hx
      rw [ExsV, exsH]
      exact ⟨⟨g1, g3⟩, by omega⟩
theorem exV_of {nv : Nat} (x : Ex) : ∀ deep a b : Int, exE nv deep x (.ok a) = .ok b → ExV nv x ∧ deep + exH x ≤ 13 := by
  refine Ex.ind (P := fun x => ∀ deep a b : Int, exE nv deep x (.ok a) = .ok b → ExV nv x ∧ deep + exH x ≤ 13) ?_ x
  intro op v n l ih deep a b h
  rw [exE] at h
  cases e : exHead nv deep op v n l.length (.ok a) with
  | error c => rw [e, exsE_err] at h; cases h
  | ok a1 =>
    rw [e] at h
    obtain ⟨g1, g2, g3, g4, g5⟩ := exHead_ok e
    obtain ⟨g6, g7⟩ := exsV_of l ih (deep + 1) a1 b (by omega) h
    rw [ExV, exH]
    exact ⟨⟨g2, g3, g4, g5, g6⟩, by omega⟩
theorem stHead_ok {nv deep op v a b : Int} {e f : Ex} {kb ke : Nat} (h : stHead nv deep op v e f kb ke (.ok a) = .ok b) :
    deep ≤ 12 ∧ (1 ≤ op ∧ op ≤ 7) ∧ (needV op = true → 0 ≤ v ∧ v < nv) ∧ (needB op = false → kb = 0) ∧ (needO op = false → ke = 0) := by
  rw [stHead, JE.named] at h
  obtain ⟨h, h5⟩ := fail_ok h
  obtain ⟨h, h4⟩ := fail_ok h
  obtain ⟨h, h3⟩ := fail_ok h
  obtain ⟨h, h2⟩ := fail_ok h
  obtain ⟨h1, -⟩ := one_ok' h
  simp only [decide_eq_false_iff_not] at h2
  simp only [stForm, Bool.or_eq_false_iff, Bool.and_eq_false_imp, Bool.not_eq_true', decide_eq_false_iff_not] at h3
  refine ⟨h1, by omega, ?_, ?_, ?_⟩
  · intro ho
    simp only [ho, Bool.true_and, decide_eq_false_iff_not] at h4
    omega
  · intro hb; have := h3.1.2 hb; omega
  · intro hb; have := h3.2 hb; omega
theorem stsV_of {nv : Nat} : ∀ (l : List St), (∀ x ∈ l, ∀ deep a b : Int, 0 ≤ deep → stE nv deep x (.ok a) = .ok b → StV nv x) → ∀ deep a b : Int, 0 ≤ deep → stsE nv deep l (.ok a) = .ok b → StsV nv l
  | [], _, deep, a, b, _, _ => by rw [StsV]; trivial
  | x :: l, h, deep, a, b, hd, hx => by
    rw [stsE] at hx
    cases e : stE nv deep x (.ok a) with
    | error c => rw [e, stsE_err] at hx; cases hx
    | ok a1 =>
      rw [e] at hx
      rw [StsV]
      exact ⟨h x (by simp) deep a a1 hd e, stsV_of l (fun y hy => h y (by simp [hy])) deep a1 b hd hx⟩
theorem stV_of {nv : Nat} (x : St) : ∀ deep a b : Int, 0 ≤ deep → stE nv deep x (.ok a) = .ok b → StV nv x := by
  refine St.ind (P := fun x => ∀ deep a b : Int, 0 ≤ deep → stE nv deep x (.ok a) = .ok b → StV nv x) ?_ x
  intro op v e f body els ih jh deep a b hd h
  rw [stE] at h
  cases e1 : stHead nv deep op v e f body.length els.length (.ok a) with
  | error c => rw [e1, stEF_err, stsE_err, stsE_err] at h; cases h
  | ok a1 =>
    rw [e1] at h
    cases e2 : stEF nv (deep + 1) op e f (.ok a1) with
    | error c => rw [e2, stsE_err, stsE_err] at h; cases h
    | ok a2 =>
      rw [e2] at h
      cases e3 : stsE nv (deep + 1) body (.ok a2) with
      | error c => rw [e3, stsE_err] at h; cases h
      | ok a3 =>
        rw [e3] at h
        obtain ⟨g1, g2, g3, g4, g5⟩ := stHead_ok e1
        have hb := stsV_of body ih (deep + 1) a2 a3 (by omega) e3
        have he := stsV_of els jh (deep + 1) a3 b (by omega) h
        rw [StV]
        rw [stEF] at e2
        refine ⟨g2, g3, ?_, ?_, fun hn => List.eq_nil_of_length_eq_zero (g4 hn), fun hn => List.eq_nil_of_length_eq_zero (g5 hn), hb, he⟩
        · intro hn
          rw [if_pos hn] at e2
          cases e4 : exE nv (deep + 1) e (.ok a1) with
          | error c => simp only [e4, exE_err, ite_self] at e2; cases e2
          | ok a4 => obtain ⟨k1, k2⟩ := exV_of e _ _ _ e4; exact ⟨k1, by omega⟩
        · intro hn
          simp only [hn, if_true] at e2
          cases e4 : (if needE op = true then exE nv (deep + 1) e (.ok a1) else .ok a1 : JE) with
          | error c => rw [e4, exE_err] at e2; cases e2
          | ok a4 => rw [e4] at e2; obtain ⟨k1, k2⟩ := exV_of f _ _ _ e2; exact ⟨k1, by omega⟩
theorem check_valid {p : Pr} (h : checkP p = 0) : StsV p.vars.length p.body ∧ p.vars.length ≤ 8 ∧ (∀ x ∈ p.vars, 1 ≤ x.size) ∧ sizes p.vars ≤ 48 := by
  obtain ⟨h1, b, h2⟩ := check_ok h
  exact ⟨stsV_of p.body (fun x _ => stV_of x) 0 150 b (Int.le_refl _) h2, check_sizes h1⟩
end Go.Proofs.YtmnmcjdgnpgchaaGreat

namespace Go.Proofs.YtmnmcjdgnpgchaaGreat
open Go X
def popA (op : Int) : Int := if op = 3 then 1 else if 4 ≤ op ∧ op ≤ 8 then 2 else if op = 9 ∨ op = 11 ∨ op = 13 then 1 else if op = 10 then 2 else 0
def popB (op : Int) : Int := if 1 ≤ op ∧ op ≤ 8 then 1 else 0
def dl (x : In) : Int := popB x.op - popA x.op
def hts (l : List In) : Int := (l.map dl).sum
theorem hts_nil : hts [] = 0 := rfl
theorem hts_cons (x : In) (l : List In) : hts (x :: l) = dl x + hts l := by simp [hts]
theorem hts_app (l m : List In) : hts (l ++ m) = hts l + hts m := by simp [hts, List.sum_append]
theorem hts_one (x : In) : hts [x] = dl x := by simp [hts]
def cellOk (cells : Int) (x : In) : Prop := ((x.op = 2 ∨ x.op = 9 ∨ x.op = 12) → 0 ≤ x.a ∧ x.a < cells) ∧ ((x.op = 3 ∨ x.op = 10) → 0 ≤ x.a ∧ 1 ≤ x.b ∧ x.a + x.b ≤ cells)
def Fit (cells : Int) : Int → List In → Prop
  | _, [] => True
  | n, x :: l => (popA x.op ≤ n ∧ n + dl x ≤ 24 ∧ ((x.op = 13 ∨ x.op = 14) → n + dl x = 0) ∧ cellOk cells x ∧ x.op ≠ 16) ∧ Fit cells (n + dl x) l
theorem Fit.app {cells : Int} : ∀ {l m : List In} {n : Int}, Fit cells n l → Fit cells (n + hts l) m → Fit cells n (l ++ m)
  | [], m, n, _, h => by rw [hts_nil, Int.add_zero] at h; exact h
  | x :: l, m, n, h, g => by
    rw [Fit] at h
    rw [hts_cons] at g
    rw [List.cons_append, Fit]
    exact ⟨h.1, Fit.app h.2 (by rw [Int.add_assoc]; exact g)⟩
theorem Fit.at {cells : Int} : ∀ {l : List In} {n : Int}, Fit cells n l → ∀ {i : Nat} {x : In}, l[i]? = some x → popA x.op ≤ n + hts (l.take i) ∧ n + hts (l.take (i + 1)) ≤ 24 ∧ ((x.op = 13 ∨ x.op = 14) → n + hts (l.take (i + 1)) = 0) ∧ cellOk cells x ∧ x.op ≠ 16
  | [], _, _, _, _, hx => by simp at hx
  | y :: l, n, h, 0, x, hx => by
    simp only [List.getElem?_cons_zero, Option.some.injEq] at hx
    subst hx
    rw [Fit] at h
    simp only [List.take_zero, hts_nil, Int.add_zero, List.take_succ_cons, hts_cons]
    exact h.1
  | y :: l, n, h, i + 1, x, hx => by
    simp only [List.getElem?_cons_succ] at hx
    rw [Fit] at h
    have := Fit.at h.2 hx
    simp only [List.take_succ_cons, hts_cons, ← Int.add_assoc]
    exact this
theorem sizeV_get {vs : List Va} {v : Int} {x : Va} (h : vs[v.toNat]? = some x) : sizeV vs v = x.size := by rw [sizeV, h]; rfl
theorem var_at {vs : List Va} (h1 : ∀ x ∈ vs, 1 ≤ x.size) {v : Int} (h : 0 ≤ v ∧ v < vs.length) : ∃ x, vs[v.toNat]? = some x ∧ sizeV vs v = x.size ∧ 0 ≤ cellOf vs v ∧ 1 ≤ sizeV vs v ∧ cellOf vs v + sizeV vs v ≤ sizes vs := by
  have hlt : v.toNat < vs.length := by omega
  have hx : vs[v.toNat]? = some vs[v.toNat] := List.getElem?_eq_getElem hlt
  have e := sizes_take vs v.toNat _ hx
  have a := (cells_le h1 (v.toNat)).1
  have b := (cells_le h1 (v.toNat + 1)).2
  have c := h1 _ (List.getElem_mem hlt)
  refine ⟨_, hx, sizeV_get hx, a, by rw [sizeV_get hx]; exact c, ?_⟩
  rw [sizeV_get hx, cellOf, ← e]; exact b
theorem opIn_ok {vs : List Va} (h1 : ∀ x ∈ vs, 1 ≤ x.size) {op v n : Int} (hop : 1 ≤ op ∧ op ≤ 8) (hv : op = 2 ∨ op = 3 → 0 ≤ v ∧ v < vs.length) : cellOk (sizes vs) (opIn vs op v n) := by
  refine ⟨fun h => ?_, fun h => ?_⟩
  · simp only [opIn] at h
    have h2 : op = 2 := by omega
    obtain ⟨x, -, -, c, d, e⟩ := var_at h1 (hv (.inl h2))
    simp only [opIn, h2, true_or, if_true]
    omega
  · simp only [opIn] at h
    have h2 : op = 3 := by omega
    obtain ⟨x, -, -, c, d, e⟩ := var_at h1 (hv (.inr h2))
    simp only [opIn, h2, or_true, if_true]
    exact ⟨c, d, e⟩
theorem popA_parts {op : Int} (h : 1 ≤ op ∧ op ≤ 8) : popA op = partsOf op := by
  rw [popA, partsOf]
  repeat' split
  all_goals omega
theorem popB_one {op : Int} (h : 1 ≤ op ∧ op ≤ 8) : popB op = 1 := if_pos h
theorem ex_op (vs : List Va) (op v n : Int) : (opIn vs op v n).op = op := rfl
theorem exs_fit {vs : List Va} (h1 : ∀ x ∈ vs, 1 ≤ x.size) : ∀ (l : List Ex), (∀ x ∈ l, ∀ n : Int, 0 ≤ n → n + exH x ≤ 24 → Fit (sizes vs) n (exCode vs x) ∧ hts (exCode vs x) = 1) → ∀ n : Int, 0 ≤ n → n + l.length + exsH l ≤ 25 → Fit (sizes vs) n (exsCode vs l) ∧ hts (exsCode vs l) = l.length
  | [], _, n, _, _ => ⟨trivial, rfl⟩
  | x :: l, h, n, h0, hn => by
    rw [exsH, List.length_cons] at hn
    obtain ⟨a, b⟩ := h x (by simp) n h0 (by omega)
    obtain ⟨c, d⟩ := exs_fit h1 l (fun y hy => h y (by simp [hy])) (n + 1) (by omega) (by omega)
    rw [exsCode]
    refine ⟨a.app (by rw [b]; exact c), ?_⟩
    rw [hts_app, b, d, List.length_cons]; omega
theorem ex_fit {vs : List Va} (h1 : ∀ x ∈ vs, 1 ≤ x.size) (x : Ex) : ExV vs.length x → ∀ n : Int, 0 ≤ n → n + exH x ≤ 24 → Fit (sizes vs) n (exCode vs x) ∧ hts (exCode vs x) = 1 := by
  refine Ex.ind (P := fun x => ExV vs.length x → ∀ n : Int, 0 ≤ n → n + exH x ≤ 24 → Fit (sizes vs) n (exCode vs x) ∧ hts (exCode vs x) = 1) ?_ x
  intro op v k l ih hx n h0 hn
  rw [ExV] at hx
  obtain ⟨hop, hl, hv, -, hs⟩ := hx
  rw [exH] at hn
  have hp : (l.length : Int) ≤ 2 := by rw [hl, partsOf]; repeat' split
                                       all_goals omega
  obtain ⟨a, b⟩ := exs_fit h1 l (fun y hy n h0 hn => ih y hy (hs.mem y hy) n h0 hn) n h0 (by omega)
  rw [exCode]
  have hd : dl (opIn vs op v k) = 1 - l.length := by rw [dl, ex_op, popB_one hop, popA_parts hop, hl]
  refine ⟨a.app ?_, ?_⟩
  · rw [b, Fit, ex_op, popA_parts hop, ← hl, hd]
    refine ⟨⟨by omega, by omega, fun h => by omega, opIn_ok h1 hop hv, by omega⟩, trivial⟩
  · rw [hts_app, b, hts_one, hd]; omega
def JIn (at_ : Nat) (L : List In) (x : In) : Prop := (x.op = 13 ∨ x.op = 14) → ∃ j : Nat, x.a = (at_ + j : Nat) ∧ j ≤ L.length ∧ hts (L.take j) = 0
theorem JIn.lift {at_ : Nat} {A L B : List In} {x : In} (h : JIn (at_ + A.length) L x) (hA : hts A = 0) : JIn at_ (A ++ L ++ B) x := fun ho => by
  obtain ⟨j, e, hj, hz⟩ := h ho
  refine ⟨A.length + j, by rw [e]; congr 1; omega, by simp only [List.length_append]; omega, ?_⟩
  rw [List.append_assoc, List.take_length_add_append, hts_app, hA, List.take_append_of_le_length hj, hz]; rfl
theorem JIn.none {at_ : Nat} {L : List In} {x : In} (h : x.op ≠ 13 ∧ x.op ≠ 14) : JIn at_ L x := fun ho => by omega
theorem exs_small {vs : List Va} : ∀ (l : List Ex), (∀ x ∈ l, ∀ y ∈ exCode vs x, 1 ≤ y.op ∧ y.op ≤ 8) → ∀ y ∈ exsCode vs l, 1 ≤ y.op ∧ y.op ≤ 8
  | [], _, y, hy => by simp [exsCode] at hy
  | x :: l, h, y, hy => by
    rw [exsCode, List.mem_append] at hy
    rcases hy with hy | hy
    · exact h x (by simp) y hy
    · exact exs_small l (fun z hz => h z (by simp [hz])) y hy
theorem ex_small {vs : List Va} {nv : Nat} (x : Ex) : ExV nv x → ∀ y ∈ exCode vs x, 1 ≤ y.op ∧ y.op ≤ 8 := by
  refine Ex.ind (P := fun x => ExV nv x → ∀ y ∈ exCode vs x, 1 ≤ y.op ∧ y.op ≤ 8) ?_ x
  intro op v k l ih hx y hy
  rw [ExV] at hx
  rw [exCode, List.mem_append, List.mem_singleton] at hy
  rcases hy with hy | rfl
  · exact exs_small l (fun z hz => ih z hz (hx.2.2.2.2.mem z hz)) y hy
  · exact hx.1
def Piece (cells : Int) (at_ : Nat) (L : List In) : Prop := Fit cells 0 L ∧ hts L = 0 ∧ ∀ x ∈ L, JIn at_ L x
theorem Piece.nil {cells : Int} {at_ : Nat} : Piece cells at_ [] := ⟨trivial, rfl, fun x h => by simp at h⟩
theorem Piece.app {cells : Int} {at_ : Nat} {L M : List In} (h : Piece cells at_ L) (g : Piece cells (at_ + L.length) M) : Piece cells at_ (L ++ M) := by
  refine ⟨h.1.app (by rw [h.2.1]; exact g.1), by rw [hts_app, h.2.1, g.2.1]; rfl, fun x hx => ?_⟩
  rcases List.mem_append.1 hx with hx | hx
  · have := JIn.lift (A := []) (B := M) (h.2.2 x hx) rfl
    simpa using this
  · have := JIn.lift (A := L) (B := []) (g.2.2 x hx) h.2.1
    simpa using this
theorem Piece.plain {cells : Int} {at_ : Nat} {L : List In} (h : Fit cells 0 L) (hz : hts L = 0) (hs : ∀ x ∈ L, x.op ≠ 13 ∧ x.op ≠ 14) : Piece cells at_ L := ⟨h, hz, fun x hx => JIn.none (hs x hx)⟩
theorem sts_piece {vs : List Va} {cells : Int} : ∀ (l : List St), (∀ x ∈ l, ∀ k, Piece cells k (stCode vs x k)) → ∀ k, Piece cells k (stsCode vs l k)
  | [], _, k => by rw [stsCode]; exact Piece.nil
  | x :: l, h, k => by rw [stsCode]; exact (h x (by simp) k).app (sts_piece l (fun y hy => h y (by simp [hy])) _)
theorem Fit.snoc {cells : Int} {L : List In} {x : In} {n m : Int} (h : Fit cells n L) (hm : n + hts L = m) (h1 : popA x.op ≤ m) (h2 : m + dl x ≤ 24) (h3 : (x.op = 13 ∨ x.op = 14) → m + dl x = 0) (h4 : cellOk cells x) (h5 : x.op ≠ 16) : Fit cells n (L ++ [x]) :=
  h.app (by rw [hm]; exact ⟨⟨h1, h2, h3, h4, h5⟩, trivial⟩)
theorem st_piece {vs : List Va} (h1 : ∀ x ∈ vs, 1 ≤ x.size) (x : St) : StV vs.length x → ∀ k, Piece (sizes vs) k (stCode vs x k) := by
  refine St.ind (P := fun x => StV vs.length x → ∀ k, Piece (sizes vs) k (stCode vs x k)) ?_ x
  intro op v e f body els ih jh hx k
  rw [StV] at hx
  obtain ⟨hop, hv, he, hf, hb, ho, hsb, hse⟩ := hx
  have hB := sts_piece (cells := sizes vs) body (fun y hy => ih y hy (hsb.mem y hy))
  have hE := sts_piece (cells := sizes vs) els (fun y hy => jh y hy (hse.mem y hy))
  have hex : ∀ {z : Ex} {n : Int}, ExV vs.length z ∧ exH z ≤ 12 → 0 ≤ n → n ≤ 12 → Fit (sizes vs) n (exCode vs z) ∧ hts (exCode vs z) = 1 := fun hz h0 hn => ex_fit h1 _ hz.1 _ h0 (by have := hz.2; omega)
  have hno : ∀ {z : Ex}, ExV vs.length z ∧ exH z ≤ 12 → ∀ y ∈ exCode vs z, y.op ≠ 13 ∧ y.op ≠ 14 := fun hz y hy => by have := ex_small _ hz.1 y hy; omega
  rw [stCode]
  have c0 : ∀ {o a b n : Int}, (o = 11 ∨ o = 13 ∨ o = 14 ∨ o = 15) → cellOk (sizes vs) ⟨o, a, b, n⟩ := fun h => ⟨fun g => by simp only at g; omega, fun g => by simp only at g; omega⟩
  by_cases g1 : op = 1
  · subst g1
    obtain ⟨a, b⟩ := hex (n := 0) (he rfl) (by decide) (by decide)
    obtain ⟨y, -, -, c, d, e'⟩ := var_at h1 (hv rfl)
    simp only [show needE 1 = true from rfl, if_true]
    refine Piece.plain (a.snoc (m := 1) (by rw [b]; rfl) (by simp [popA]) (by simp [dl, popA, popB]) (fun g => by simp at g) ⟨fun _ => ⟨c, by simp only; omega⟩, fun g => by simp at g⟩ (by simp)) (by rw [hts_app, b, hts_one]; rfl) fun y hy => ?_
    rcases List.mem_append.1 hy with hy | hy
    · exact hno (he rfl) y hy
    · rw [List.mem_singleton.1 hy]; constructor <;> simp
  by_cases g2 : op = 2
  · subst g2
    obtain ⟨a, b⟩ := hex (n := 0) (he rfl) (by decide) (by decide)
    obtain ⟨a', b'⟩ := hex (n := 1) (hf rfl) (by decide) (by decide)
    obtain ⟨y, -, -, c, d, e'⟩ := var_at h1 (hv rfl)
    simp only [show needE 2 = true from rfl, if_true, show ¬ (2 : Int) = 1 by decide, if_false]
    refine Piece.plain ((a.app (m := exCode vs f) (by rw [b]; exact a')).snoc (m := 2) (by rw [hts_app, b, b']; rfl) (by simp [popA]) (by simp [dl, popA, popB]) (fun g => by simp at g) ⟨fun g => by simp at g, fun _ => ⟨c, d, e'⟩⟩ (by simp)) (by rw [hts_app, hts_app, b, b', hts_one]; rfl) fun y hy => ?_
    rcases List.mem_append.1 hy with hy | hy
    · rcases List.mem_append.1 hy with hy | hy
      · exact hno (he rfl) y hy
      · exact hno (hf rfl) y hy
    · rw [List.mem_singleton.1 hy]; constructor <;> simp
  by_cases g3 : op = 3
  · subst g3
    obtain ⟨a, b⟩ := hex (n := 0) (he rfl) (by decide) (by decide)
    simp only [show needE 3 = true from rfl, if_true, show ¬ (3 : Int) = 1 by decide, show ¬ (3 : Int) = 2 by decide, if_false]
    refine Piece.plain (a.snoc (m := 1) (by rw [b]; rfl) (by simp [popA]) (by simp [dl, popA, popB]) (fun g => by simp at g) (c0 (by decide)) (by simp)) (by rw [hts_app, b, hts_one]; rfl) fun y hy => ?_
    rcases List.mem_append.1 hy with hy | hy
    · exact hno (he rfl) y hy
    · rw [List.mem_singleton.1 hy]; constructor <;> simp
  by_cases g4 : op = 4
  · subst g4
    obtain ⟨y, -, -, c, d, e'⟩ := var_at h1 (hv rfl)
    simp only [show needE 4 = false from rfl, if_true, show ¬ (4 : Int) = 1 by decide, show ¬ (4 : Int) = 2 by decide, show ¬ (4 : Int) = 3 by decide, if_false, Bool.false_eq_true]
    refine Piece.plain (Fit.snoc (L := []) (m := 0) trivial rfl (by simp [popA]) (by simp [dl, popA, popB]) (fun g => by simp at g) ⟨fun _ => ⟨c, by simp only; omega⟩, fun g => by simp at g⟩ (by simp)) rfl fun y hy => ?_
    rw [List.nil_append] at hy
    rw [List.mem_singleton.1 hy]; constructor <;> simp
  by_cases g7 : op = 7
  · subst g7
    simp only [show needE 7 = false from rfl, if_true, show ¬ (7 : Int) = 1 by decide, show ¬ (7 : Int) = 2 by decide, show ¬ (7 : Int) = 3 by decide, show ¬ (7 : Int) = 4 by decide, show ¬ (7 : Int) = 5 by decide, show ¬ (7 : Int) = 6 by decide, if_false, Bool.false_eq_true]
    refine Piece.plain (Fit.snoc (L := []) (m := 0) trivial rfl (by simp [popA]) (by simp [dl, popA, popB]) (fun g => by simp at g) (c0 (by decide)) (by simp)) rfl fun y hy => ?_
    rw [List.mem_singleton.1 hy]; constructor <;> simp
  simp only [g1, g2, g3, g4, g7, if_false]
  have h56 : op = 5 ∨ op = 6 := by omega
  have hne : needE op = true := by rcases h56 with rfl | rfl <;> rfl
  obtain ⟨a, b⟩ := hex (n := 0) (he hne) (by decide) (by decide)
  have hn0 := hno (he hne)
  rw [if_pos hne]
  -- the head: the condition, and the jump behind it
  have head : ∀ t : Int, Fit (sizes vs) 0 (exCode vs e ++ [⟨13, t, 0, 0⟩]) ∧ hts (exCode vs e ++ [⟨13, t, 0, 0⟩]) = 0 := fun t =>
    ⟨a.snoc (m := 1) (by rw [b]; rfl) (by simp [popA]) (by simp [dl, popA, popB]) (fun _ => by simp [dl, popA, popB]) (c0 (by decide)) (by simp), by rw [hts_app, b, hts_one]; rfl⟩
  have body_ := hB (k + (exCode vs e).length + 1)
  generalize hbe : stsCode vs body (k + (exCode vs e).length + 1) = Bc at body_ ⊢
  generalize hee : stsCode vs els (k + (exCode vs e).length + 1 + Bc.length + 1) = Ec
  have els_ := hE (k + (exCode vs e).length + 1 + Bc.length + 1)
  rw [hee] at els_
  clear hbe hee
  generalize exCode vs e = C at *
  by_cases g5 : op = 5
  · rw [if_pos g5]
    refine ⟨Fit.snoc (m := 0) ((head _).1.app (by rw [(head _).2]; exact body_.1)) (by rw [hts_app, (head _).2, body_.2.1]; rfl) (by simp [popA]) (by simp [dl, popA, popB]) (fun _ => by simp [dl, popA, popB]) (c0 (by decide)) (by simp), by rw [hts_app, hts_app, (head _).2, body_.2.1, hts_one]; rfl, ?_⟩
    intro y hy
    rcases List.mem_append.1 hy with hy | hy
    · rcases List.mem_append.1 hy with hy | hy
      · rcases List.mem_append.1 hy with hy | hy
        · exact JIn.none (hn0 y hy)
        · rw [List.mem_singleton.1 hy]
          refine fun _ => ⟨C.length + 1 + Bc.length + 1, by simp only; congr 1; omega, by simp only [List.length_append, List.length_singleton]; omega, ?_⟩
          rw [List.take_of_length_le (by simp only [List.length_append, List.length_singleton]; omega), hts_app, hts_app, (head _).2, body_.2.1, hts_one]; rfl
      · refine JIn.lift (by rw [List.length_append, List.length_singleton, ← Nat.add_assoc]; exact body_.2.2 y hy) (head _).2
    · rw [List.mem_singleton.1 hy]
      exact fun _ => ⟨0, rfl, Nat.zero_le _, rfl⟩
  rw [if_neg g5, if_pos (by omega)]
  have hmid : ∀ t u : Int, Fit (sizes vs) 0 (C ++ [⟨13, t, 0, 0⟩] ++ Bc ++ [⟨14, u, 0, 0⟩]) ∧ hts (C ++ [⟨13, t, 0, 0⟩] ++ Bc ++ [⟨14, u, 0, 0⟩]) = 0 := fun t u =>
    ⟨Fit.snoc (m := 0) ((head _).1.app (by rw [(head _).2]; exact body_.1)) (by rw [hts_app, (head _).2, body_.2.1]; rfl) (by simp [popA]) (by simp [dl, popA, popB]) (fun _ => by simp [dl, popA, popB]) (c0 (by decide)) (by simp), by rw [hts_app, hts_app, (head _).2, body_.2.1, hts_one]; rfl⟩
  refine ⟨(hmid _ _).1.app (by rw [(hmid _ _).2]; exact els_.1), by rw [hts_app, (hmid _ _).2, els_.2.1]; rfl, ?_⟩
  intro y hy
  rcases List.mem_append.1 hy with hy | hy
  · rcases List.mem_append.1 hy with hy | hy
    · rcases List.mem_append.1 hy with hy | hy
      · rcases List.mem_append.1 hy with hy | hy
        · exact JIn.none (hn0 y hy)
        · rw [List.mem_singleton.1 hy]
          refine fun _ => ⟨C.length + 1 + Bc.length + 1, by simp only; congr 1; omega, by simp only [List.length_append, List.length_singleton]; omega, ?_⟩
          rw [List.take_append_of_le_length (by simp only [List.length_append, List.length_singleton]; omega), List.take_of_length_le (by simp only [List.length_append, List.length_singleton]; omega), (hmid _ _).2]
      · rw [List.append_assoc]
        refine JIn.lift (by rw [List.length_append, List.length_singleton, ← Nat.add_assoc]; exact body_.2.2 y hy) (head _).2
    · rw [List.mem_singleton.1 hy]
      refine fun _ => ⟨C.length + 1 + Bc.length + 1 + Ec.length, by simp only; congr 1; omega, by simp only [List.length_append, List.length_singleton]; omega, ?_⟩
      rw [List.take_of_length_le (by simp only [List.length_append, List.length_singleton]; omega), hts_app, (hmid _ _).2, els_.2.1]; rfl
  · have := JIn.lift (B := []) (at_ := k) (A := C ++ [⟨13, (k + C.length + 1 + Bc.length + 1 : Nat), 0, 0⟩] ++ Bc ++ [⟨14, (k + C.length + 1 + Bc.length + 1 + Ec.length : Nat), 0, 0⟩]) (L := Ec) (x := y) (by rw [show k + (C ++ [⟨13, (k + C.length + 1 + Bc.length + 1 : Nat), 0, 0⟩] ++ Bc ++ [⟨14, (k + C.length + 1 + Bc.length + 1 + Ec.length : Nat), 0, 0⟩] : List In).length = k + C.length + 1 + Bc.length + 1 by simp only [List.length_append, List.length_singleton]; omega]; exact els_.2.2 y hy) (hmid _ _).2
    rwa [List.append_nil] at this
theorem code_fits {p : Pr} (h : checkP p = 0) : Piece (sizes p.vars) 0 (stsCode p.vars p.body 0) := by
  obtain ⟨a, -, c, -⟩ := check_valid h
  exact sts_piece _ (fun x hx => st_piece c x (a.mem x hx)) 0
end Go.Proofs.YtmnmcjdgnpgchaaGreat

namespace Go.Proofs.YtmnmcjdgnpgchaaGreat
open Go X
def wrap_ (n : Int) : Int := IntKind.i64.wrap n
def binV (op a b : Int) : Int := if op = 4 then wrap_ (a + b) else if op = 5 then wrap_ (a - b) else if op = 6 then wrap_ (a * b) else if op = 7 then (if a < b then 1 else 0) else if a = b then 1 else 0
structure RS where
  cells : List Int
  inp : List Int
  out : List Int
  left : Nat
abbrev RR := Except (Int × RS) RS
def oneS (s : RS) : RR := if s.left = 0 then .error (13, s) else .ok { s with left := s.left - 1 }
def readS (vs : List Va) (v : Int) (s : RS) : RR := match oneS s with
  | .error e => .error e
  | .ok s1 => match s1.inp with
    | [] => .error (12, s1)
    | x :: r => .ok { s1 with cells := s1.cells.set (cellOf vs v).toNat x, inp := r }
structure Mi where
  next : Nat
  stack : List Int
  rd : Nat
  outn : Nat
  st : Int
  cells : List Int
structure Be where
  m : Mi
  kept : Mi
  out : List Int
  wrong : Bool
def doIn (inp : List Int) (keep : Bool) (x : In) (b : Be) : Be :=
  let m := b.m
  if x.op = 1 then { b with m := { m with stack := x.n :: m.stack } }
  else if x.op = 2 then { b with m := { m with stack := m.cells.getD x.a.toNat 0 :: m.stack } }
  else if x.op = 3 then match m.stack with
    | [] => b
    | k :: s => if k < 0 ∨ x.b ≤ k then { b with m := { m with stack := s, st := 13 } } else { b with m := { m with stack := m.cells.getD (x.a + k).toNat 0 :: s } }
  else if 4 ≤ x.op ∧ x.op ≤ 8 then match m.stack with
    | y :: z :: s => { b with m := { m with stack := binV x.op z y :: s } }
    | _ => b
  else if x.op = 9 then match m.stack with
    | [] => b
    | n :: s => { b with m := { m with stack := s, cells := m.cells.set x.a.toNat n } }
  else if x.op = 10 then match m.stack with
    | n :: k :: s => if k < 0 ∨ x.b ≤ k then { b with m := { m with stack := s, st := 13 } } else { b with m := { m with stack := s, cells := m.cells.set (x.a + k).toNat n } }
    | _ => b
  else if x.op = 11 then match m.stack with
    | [] => b
    | n :: s =>
      if m.outn = b.out.length then { b with m := { m with stack := s, outn := m.outn + 1 }, out := b.out ++ [n] }
      else { b with m := { m with stack := s, outn := m.outn + 1 }, wrong := b.wrong || decide (b.out.getD m.outn 0 ≠ n) }
  else if x.op = 12 then (if inp.length ≤ m.rd then { b with m := { m with st := 14 } } else { b with m := { m with cells := m.cells.set x.a.toNat (inp.getD m.rd 0), rd := m.rd + 1 } })
  else if x.op = 13 then match m.stack with
    | [] => b
    | n :: s => if n = 0 then { b with m := { m with stack := s, next := x.a.toNat } } else { b with m := { m with stack := s } }
  else if x.op = 14 then { b with m := { m with next := x.a.toNat } }
  else if x.op = 15 then (if keep then { b with kept := m } else b)
  else if x.op = 16 then { b with m := { m with st := 1 } }
  else b
def bump (b : Be) : Be := { b with m := { b.m with next := b.m.next + 1 } }
def stepB (code : List In) (inp : List Int) (keep : Bool) (b : Be) : Be := match code[b.m.next]? with
  | none => b
  | some x => doIn inp keep x (bump b)
def runM (code : List In) (inp : List Int) : Nat → Be → Be × Nat
  | 0, b => (b, 0)
  | f + 1, b => if b.m.st ≠ 0 then (b, 0) else ((runM code inp f (stepB code inp false b)).1, (runM code inp f (stepB code inp false b)).2 + 1)
end Go.Proofs.YtmnmcjdgnpgchaaGreat

namespace Go.Proofs.YtmnmcjdgnpgchaaGreat
open Go X
set_option maxHeartbeats 1000000
theorem parts_a (σ : PH) (op : Int) : CallsA Tryz.prog 117 #[i64 op] σ [] (RetA fun v σ' Γ' => v = i64 (partsOf op) ∧ σ = σ' ∧ Γ' = []) := by
  by_cases h0 : op < 1
  · 
    refine enterA1 Tryz.func117 rfl rfl rfl ?_; refine zS (zR (yS ?_)); refine zN (zT (zS (zS (zR (yA ?_))))); refine zO rfl (Rd.lss rfl rfl) ?_; refine yA ?_
    first | refine gA ?_ | refine zH ?_
    first | (refine zG ?_; refine zO rfl (Rd.gtr rfl rfl) ?_) | refine zH ?_
    refine zO rfl zP ?_; refine zN (zT (yT rfl rfl (zS (zR (yS ?_))))); refine zN (zT (XA.ret (DA.thn_ret ?_)))
    refine bodyA.ret (ResA.one rfl rfl) (Ent.refl _) ⟨?_, rfl, rfl⟩
    rw [partsOf, if_neg (by omega), if_neg (by omega), if_neg (by omega)]
  · 
    refine enterA1 Tryz.func117 rfl rfl rfl ?_; refine zS (zR (yS ?_)); refine zN (zT (zS (zS (zR (yA ?_))))); refine zO rfl (Rd.lss rfl rfl) ?_; refine yA ?_
    first | refine gA ?_ | refine zH ?_
    first | (refine zG ?_; refine zO rfl (Rd.gtr rfl rfl) ?_) | refine zH ?_
    refine zO rfl zP ?_; refine zN (zT ?_); refine XA.condp rfl (fun h1 => ?_) (fun h1 => ?_)
    · refine zS ?_
      refine zR (yS ?_); refine zN (zT (XA.ret (DA.thn_ret ?_)))
      refine bodyA.ret (ResA.one rfl rfl) (Ent.refl _) ⟨?_, rfl, rfl⟩
      rw [partsOf, if_neg (by omega), if_neg (by omega), if_neg (by omega)]
    have hop : op = 1 ∨ op = 2 ∨ op = 3 ∨ op = 4 ∨ op = 5 ∨ op = 6 ∨ op = 7 ∨ op = 8 := by omega
    have hel : (List.toArray [i64 0, i64 0, i64 0, i64 1, i64 2, i64 2, i64 2, i64 2, i64 2])[op.toNat]? = some (i64 (partsOf op)) := by
      rcases hop with rfl | rfl | rfl | rfl | rfl | rfl | rfl | rfl <;> rfl
    refine XA.skip (zT (zS (zR ?_)))
    refine zO rfl (Rd.buildA (cs := [i64 0, i64 0, i64 0, i64 1, i64 2, i64 2, i64 2, i64 2, i64 2]) (fun _ _ => tyrow) rfl rfl rfl rfl (by kernel_rfl)) ?_
    refine yA ?_
    refine zO rfl (by apply Rd.indexAgg; exact tyrow rfl; rfl; exact tyrow rfl; rfl; rfl; rfl; rfl; exact (by omega); exact hel) ?_
    refine yS ?_; refine zN (zT (XA.ret ?_))
    exact bodyA.ret (ResA.one rfl rfl) (Ent.refl _) ⟨rfl, rfl, rfl⟩
theorem name_a (σ : PH) (s : ByteArray) (hs : s.size ≤ maxLen) : CallsA Tryz.prog 90 #[.string s] σ [] (RetA fun v σ' Γ' => v = .bool (nameOk s) ∧ σ = σ' ∧ Γ' = []) := by
  simp only [maxLen] at hs
  refine enterA1 Tryz.func90 rfl rfl rfl ?_; refine zS (zR (yS ?_)); refine zN (zT (zS (zS (zR (yA ?_))))); refine zO rfl (Rd.lenString (tyrow rfl) rfl rfl) ?_; refine yA ?_; refine zN (zT (XA.block ?_))
  refine XA.gen [(0, _), (2, _), (5, _), (6, _)] ⟨(by with_reducible (conv => lhs; whnf)), (by with_reducible (conv => lhs; whnf)), (by with_reducible (conv => lhs; whnf)), (by with_reducible (conv => lhs; whnf)), trivial⟩ (fun δ => ?_)
  dsimp only [List.foldl]
  refine XA.loop [(2, 3), (6, 19)] (fun k : Nat => [(6, i64 k)]) (fun k σ' Γ' => σ = σ' ∧ k ≤ s.size ∧ (∀ i, i < k → 97 ≤ byteAt s i ∧ byteAt s i ≤ 122) ∧ Γ' = []) (fun k => s.size - k) 0 (by exact ⟨rfl, trivial⟩) (Δ0 := _) ?_ (⟨rfl, Nat.zero_le _, by intro i hi; omega, rfl⟩) ?_
  · exact zE
  rintro k δ _ _ ⟨rfl, hk, hall, rfl⟩
  dsimp only [ovr, List.foldl]
  refine zS (zR (zO rfl (Rd.lss rfl rfl) ?_)); refine zN (zT (zS ?_)); refine XA.condp rfl (fun hlt => ?_) (fun hlt => ?_)
  · have hlt : k < s.size := by omega
    have hb := byteAt_lt s k
    by_cases h1 : byteAt s k < 97
    · 
      refine XA.skip (zT (zS (XA.block (zS (zR (yA ?_)))))); refine yS ?_; refine zN (zT (zS (zR (yA ?_)))); refine yA ?_
      refine zO rfl (Rd.indexStr (tyrow rfl) rfl rfl rfl (by first | omega | decide | (simp; omega))) ?_
      refine zO rfl (Rd.lss rfl rfl) ?_; refine yA ?_
      first | refine gA ?_ | refine zH ?_
      first | refine gA ?_ | refine zH ?_
      first | (refine zG ?_; refine zO rfl (Rd.indexStr (tyrow rfl) rfl rfl rfl (by first | omega | decide | (simp; omega))) ?_) | refine zH ?_
      first | (refine zG ?_; refine zO rfl (Rd.gtr rfl rfl) ?_) | refine zH ?_
      refine zO rfl zP ?_; refine zN (zT (yT rfl rfl (zS (zR (yS ?_))))); refine zN (zT (XA.ret (DA.inb_ret (DA.thn_ret (DA.thn_ret (DA.inb_ret (DA.thn_ret ?_)))))))
      refine bodyA.ret (ResA.one rfl rfl) (Ent.refl _) ⟨?_, rfl, rfl⟩
      have : nameOk s = false := decide_eq_false (fun h => by have := h.1 k hlt; omega)
      rw [this]
    · 
      refine XA.skip (zT (zS (XA.block (zS (zR (yA ?_)))))); refine yS ?_; refine zN (zT (zS (zR (yA ?_)))); refine yA ?_
      refine zO rfl (Rd.indexStr (tyrow rfl) rfl rfl rfl (by first | omega | decide | (simp; omega))) ?_
      refine zO rfl (Rd.lss rfl rfl) ?_; refine yA ?_
      first | refine gA ?_ | refine zH ?_
      first | refine gA ?_ | refine zH ?_
      first | (refine zG ?_; refine zO rfl (Rd.indexStr (tyrow rfl) rfl rfl rfl (by first | omega | decide | (simp; omega))) ?_) | refine zH ?_
      first | (refine zG ?_; refine zO rfl (Rd.gtr rfl rfl) ?_) | refine zH ?_
      refine zO rfl zP ?_; refine zN (zT ?_); refine XA.condp rfl (fun h2 => ?_) (fun h2 => ?_)
      · refine zS ?_
        refine zR (yS ?_); refine zN (zT (XA.ret (DA.inb_ret (DA.thn_ret (DA.thn_ret (DA.inb_ret (DA.thn_ret ?_)))))))
        refine bodyA.ret (ResA.one rfl rfl) (Ent.refl _) ⟨?_, rfl, rfl⟩
        have : nameOk s = false := decide_eq_false (fun h => by have := h.1 k hlt; omega)
        rw [this]
      have hnew : ∀ i, i < k + 1 → 97 ≤ byteAt s i ∧ byteAt s i ≤ 122 := fun i hi => by
        rcases Nat.lt_or_ge i k with h | h
        · exact hall i h
        · have : i = k := by omega
          subst this; omega
      refine XA.skip (DA.inb_normal (zT (zR (zO rfl zI ?_)))); refine yA ?_; refine zN (zT ?_)
      refine ⟨(Keep.upd (Keep.upd (Keep.upd (Keep.upd (Keep.upd (Keep.upd (Keep.upd (Keep.upd (Keep.upd (Keep.upd (Keep.upd (Keep.upd (Keep.upd (Keep.upd (Keep.upd (Keep.upd (Keep.hav (Keep.hav (Keep.refl _ _) rfl) rfl) rfl) rfl) rfl) rfl) rfl) rfl) rfl) rfl) rfl) rfl) rfl) rfl) rfl) rfl) rfl) rfl), k + 1, _, zM, ?_, ⟨rfl, hlt, hnew, rfl⟩, (by omega)⟩
      · exact zE
  have hkn : k = s.size := by omega
  subst hkn
  by_cases h0 : s.size = 0
  · have hz : s = ⟨#[]⟩ := ByteArray.ext (Array.eq_empty_of_size_eq_zero h0)
    subst hz
    refine XA.exit (DA.thn_exit (DA.thn_exit (DA.inb_same (zT (zS (zR (yA ?_))))))); refine zO rfl (Rd.neqs rfl rfl) ?_; refine yA ?_
    first | refine gA ?_ | refine zH ?_
    first | (refine zG ?_; refine zO rfl (Rd.lenString (tyrow rfl) rfl rfl) ?_) | refine zH ?_
    first | (refine zG ?_; refine zO rfl (Rd.leq rfl rfl) ?_) | refine zH ?_
    refine zO rfl zP ?_; refine yS ?_; refine zN (zT (XA.ret ?_))
    exact bodyA.ret (ResA.one rfl rfl) (Ent.refl _) ⟨rfl, rfl, rfl⟩
  · have hz : s ≠ ⟨#[]⟩ := fun e => h0 (by rw [e]; rfl)
    refine XA.exit (DA.thn_exit (DA.thn_exit (DA.inb_same (zT (zS (zR (yA ?_))))))); refine zO rfl (Rd.neqs rfl rfl) ?_; refine yA ?_
    first | refine gA ?_ | refine zH ?_
    first | (refine zG ?_; refine zO rfl (Rd.lenString (tyrow rfl) rfl rfl) ?_) | refine zH ?_
    first | (refine zG ?_; refine zO rfl (Rd.leq rfl rfl) ?_) | refine zH ?_
    refine zO rfl zP ?_; refine yS ?_; refine zN (zT (XA.ret ?_))
    refine bodyA.ret (ResA.one rfl rfl) (Ent.refl _) ⟨?_, rfl, rfl⟩
    have : nameOk s = decide ((s.size : Int) ≤ 8) := by
      unfold nameOk
      rw [decide_eq_decide]
      constructor
      · intro h; omega
      · intro h; exact ⟨hall, by omega, by omega⟩
    rw [this]
end Go.Proofs.YtmnmcjdgnpgchaaGreat

namespace Go.Proofs.YtmnmcjdgnpgchaaGreat
open Go X
set_option maxHeartbeats 1000000
def Judge (b : Nat) (vs : Value) (e : JE) : HP := fun m => ∃ l c, blk b [vs, i64 l, i64 c] 135 m ∧ match e with | .ok l' => l = l' ∧ c = 0 | .error d => c = d ∧ c ≠ 0
theorem sat1 {R : HP} {m : PH} (h : R m) : Sat [R] m := ⟨m, PH.none, h, trivial, PH.none_dis m, .refl m, PH.none_sub m⟩
theorem of_sat1 {R : HP} {m : PH} (mono : ∀ m m', R m → m.sub m' → R m') (h : Sat [R] m) : R m := by
  obtain ⟨m1, m2, a, -, -, b, -⟩ := h
  exact mono _ _ a b
theorem blk_mono {g : Nat} {l : List Value} {T : TypeId} : ∀ m m', blk g l T m → PH.sub m m' → blk g l T m' := fun _ _ h s => s _ _ h
theorem Judge.okO {b : Nat} {vs : Value} {l : Int} : ∀ m, Judge b vs (.ok l) m → ∃ _ : Unit, True ∧ Sat [blk b [vs, i64 l, i64 0] 135] m := by
  rintro m ⟨l', c, h, rfl, rfl⟩; exact ⟨(), trivial, sat1 h⟩
theorem Judge.errO {b : Nat} {vs : Value} {c : Int} : ∀ m, Judge b vs (.error c) m → ∃ l : Int, c ≠ 0 ∧ Sat [blk b [vs, i64 l, i64 c] 135] m := by
  rintro m ⟨l', c', h, rfl, h0⟩; exact ⟨l', h0, sat1 h⟩
theorem Judge.mkO {b : Nat} {vs : Value} {l : Int} : ∀ m, Sat [blk b [vs, i64 l, i64 0] 135] m → Judge b vs (.ok l) m := fun m h => ⟨l, 0, of_sat1 blk_mono h, rfl, rfl⟩
theorem Judge.mkE {b : Nat} {vs : Value} {l c : Int} (h0 : c ≠ 0) : ∀ m, Sat [blk b [vs, i64 l, i64 c] 135] m → Judge b vs (.error c) m := fun m h => ⟨l, c, of_sat1 blk_mono h, rfl, h0⟩
theorem fail_a (σ : PH) (b : Nat) (vs : Value) (e : JE) (is : Bool) (c : Int) (hc : c ≠ 0) :
    CallsA Tryz.prog 110 #[ptr b, .bool is, i64 c] σ [Judge b vs e] (RetA fun v σ' Γ' => v = .tuple #[] ∧ σ = σ' ∧ Γ' = [Judge b vs (e.fail is c)]) := by
  cases is with
  | false =>
    refine enterA3 Tryz.func110 rfl rfl rfl ?_; refine zS (zR (yA ?_)); refine yA ?_
    first | refine gA ?_ | refine zH ?_
    first | (refine zG ?_; refine zO rfl (Rd.nilCheck rfl) ?_) | refine zH ?_
    first | refine gV ?_ | refine zH ?_
    first | refine gB ?_ | refine zH ?_
    first | refine gE ?_ | refine zH ?_
    refine zO rfl zP ?_; refine zN (zT (yF rfl rfl (XA.skip ?_)))
    exact bodyA.normal (ResA.none rfl) (Ent.refl _) ⟨rfl, rfl, by rw [fail_false]⟩
  | true =>
    cases e with
    | ok l =>
      refine enterA3 Tryz.func110 rfl rfl rfl ?_; refine zS (zR (yA ?_)); refine yA ?_
      first | refine gA ?_ | refine zH ?_
      first | refine XA.opn (R := Judge b vs (.ok l)) zL (Judge.okO) ?_ | refine XOA.opn (R := Judge b vs (.ok l)) zL (Judge.okO) ?_ | refine DA.opn (R := Judge b vs (.ok l)) zL (Judge.okO) ?_
      rintro ⟨⟩ -
      first | refine XA.cl ?_ | refine XOA.cl ?_ | refine DA.cl ?_
      first | (refine zG ?_; refine zO rfl (Rd.nilCheck rfl) ?_) | refine zH ?_
      first | refine gV ?_ | refine zH ?_
      first | refine gB ?_ | refine zH ?_
      first | refine gE ?_ | refine zH ?_
      refine zO rfl zP ?_; refine zN (zT (yT rfl rfl (zR (yA ?_)))); refine yA ?_; refine zO rfl (Rd.nilCheck rfl) ?_; refine yV ?_; refine zw rfl (WrA.st (tyrow rfl) rfl) ?_
      rintro _ _ _ ⟨rfl, rfl, rfl⟩
      refine zN ?_
      exact bodyA.normal (ResA.none rfl) (Ent.fold1 zE (Judge.mkE hc)) ⟨rfl, rfl, rfl⟩
    | error d =>
      refine enterA3 Tryz.func110 rfl rfl rfl ?_; refine zS (zR (yA ?_)); refine yA ?_
      first | refine gA ?_ | refine zH ?_
      first | refine XA.opn (R := Judge b vs (.error d)) zL (Judge.errO) ?_ | refine XOA.opn (R := Judge b vs (.error d)) zL (Judge.errO) ?_ | refine DA.opn (R := Judge b vs (.error d)) zL (Judge.errO) ?_
      rintro l h0
      first | refine XA.cl ?_ | refine XOA.cl ?_ | refine DA.cl ?_
      first | (refine zG ?_; refine zO rfl (Rd.nilCheck rfl) ?_) | refine zH ?_
      first | refine gV ?_ | refine zH ?_
      first | refine gB ?_ | refine zH ?_
      first | refine gE ?_ | refine zH ?_
      refine zO rfl zP ?_; refine zN (zT (XA.condF rfl (decide_eq_false h0) (XA.skip ?_)))
      exact bodyA.normal (ResA.none rfl) (Ent.fold1 zE (Judge.mkE h0)) ⟨rfl, rfl, rfl⟩
theorem fail_okT (l c : Int) : JE.fail (.ok l) true c = .error c := rfl
def JE.isOk : JE → Bool | .ok _ => true | .error _ => false
def JE.in_ (e : JE) : Prop := ∀ l, e = .ok l → 0 ≤ l ∧ l ≤ 150
theorem one_a (σ : PH) (b : Nat) (vs : Value) (e : JE) (deep : Int) (hl : e.in_) :
    CallsA Tryz.prog 109 #[ptr b, i64 deep] σ [Judge b vs e] (RetA fun v σ' Γ' => v = .bool (e.one deep).isOk ∧ σ = σ' ∧ Γ' = [Judge b vs (e.one deep)]) := by
  refine enterA2 Tryz.func109 rfl rfl rfl ?_; refine zS (zR (yS ?_)); refine zN (zT (zS (zR (yA ?_)))); refine yA ?_; refine zO rfl (Rd.gtr rfl rfl) ?_
  refine yC (fail_a σ b vs e (decide (12 < deep)) 4 (by decide)) ?_
  cases e with
  | error c =>
    rw [fail_err]
    refine zN (zT (zS (zR (yA ?_)))); refine yA ?_
    first | refine XA.opn (R := Judge b vs (.error c)) zL (Judge.errO) ?_ | refine XOA.opn (R := Judge b vs (.error c)) zL (Judge.errO) ?_ | refine DA.opn (R := Judge b vs (.error c)) zL (Judge.errO) ?_
    rintro l h0
    first | refine XA.cl ?_ | refine XOA.cl ?_ | refine DA.cl ?_
    refine zO rfl (Rd.nilCheck rfl) ?_; refine yV ?_; refine yB ?_; refine yE ?_; refine XOA.ent (Δ := [Judge b vs (.error c)]) (Ent.fold1 zE (Judge.mkE h0)) ?_
    refine yC (fail_a σ b vs (.error c) (decide (l = 0)) 3 (by decide)) ?_
    rw [fail_err]
    refine zN (zT (zS (zR (yA ?_))))
    first | refine XA.opn (R := Judge b vs (.error c)) zL (Judge.errO) ?_ | refine XOA.opn (R := Judge b vs (.error c)) zL (Judge.errO) ?_ | refine DA.opn (R := Judge b vs (.error c)) zL (Judge.errO) ?_
    rintro l2 h2
    first | refine XA.cl ?_ | refine XOA.cl ?_ | refine DA.cl ?_
    refine zO rfl (Rd.nilCheck rfl) ?_; refine yV ?_; refine yB ?_; refine zO rfl (by first | exact Rd.sbi rfl rfl | exact Rd.sub rfl rfl) ?_; refine zO rfl (Rd.nilCheck rfl) ?_; refine yV ?_
    refine zw rfl (WrA.st (tyrow rfl) rfl) ?_
    rintro _ _ _ ⟨rfl, rfl, rfl⟩
    refine zN (zT (zS (zR (yA ?_)))); refine zO rfl (Rd.nilCheck rfl) ?_; refine yV ?_; refine yB ?_; refine yE ?_; refine yS ?_; refine zN (zT (XA.ret ?_))
    refine bodyA.ret (ResA.one rfl rfl) (Ent.fold1 zE (Judge.mkE h0)) ⟨?_, rfl, rfl⟩
    rw [decide_eq_false h0]; rfl
  | ok l =>
    obtain ⟨l0, l1⟩ := hl l rfl
    by_cases hd : 12 < deep
    · rw [decide_eq_true hd, fail_okT]
      refine zN (zT (zS (zR (yA ?_)))); refine yA ?_
      first | refine XA.opn (R := Judge b vs (.error 4)) zL (Judge.errO) ?_ | refine XOA.opn (R := Judge b vs (.error 4)) zL (Judge.errO) ?_ | refine DA.opn (R := Judge b vs (.error 4)) zL (Judge.errO) ?_
      rintro l2 -
      first | refine XA.cl ?_ | refine XOA.cl ?_ | refine DA.cl ?_
      refine zO rfl (Rd.nilCheck rfl) ?_; refine yV ?_; refine yB ?_; refine yE ?_
      refine XOA.ent (Δ := [Judge b vs (.error 4)]) (Ent.fold1 zE (Judge.mkE (by decide))) ?_
      refine yC (fail_a σ b vs (.error 4) (decide (l2 = 0)) 3 (by decide)) ?_
      rw [fail_err]
      refine zN (zT (zS (zR (yA ?_))))
      first | refine XA.opn (R := Judge b vs (.error 4)) zL (Judge.errO) ?_ | refine XOA.opn (R := Judge b vs (.error 4)) zL (Judge.errO) ?_ | refine DA.opn (R := Judge b vs (.error 4)) zL (Judge.errO) ?_
      rintro l3 -
      first | refine XA.cl ?_ | refine XOA.cl ?_ | refine DA.cl ?_
      refine zO rfl (Rd.nilCheck rfl) ?_; refine yV ?_; refine yB ?_; refine zO rfl (by first | exact Rd.sbi rfl rfl | exact Rd.sub rfl rfl) ?_; refine zO rfl (Rd.nilCheck rfl) ?_; refine yV ?_
      refine zw rfl (WrA.st (tyrow rfl) rfl) ?_
      rintro _ _ _ ⟨rfl, rfl, rfl⟩
      refine zN (zT (zS (zR (yA ?_)))); refine zO rfl (Rd.nilCheck rfl) ?_; refine yV ?_; refine yB ?_; refine yE ?_; refine yS ?_; refine zN (zT (XA.ret ?_))
      refine bodyA.ret (ResA.one rfl rfl) (Ent.fold1 (Γ := _) (Θ := [blk b [vs, _, i64 4] 135]) zE (Judge.mkE (by decide))) ⟨?_, rfl, ?_⟩
      · simp [JE.one, hd, JE.isOk]
      · simp [JE.one, hd]
    · rw [decide_eq_false hd, fail_false]
      refine zN (zT (zS (zR (yA ?_)))); refine yA ?_
      first | refine XA.opn (R := Judge b vs (.ok l)) zL (Judge.okO) ?_ | refine XOA.opn (R := Judge b vs (.ok l)) zL (Judge.okO) ?_ | refine DA.opn (R := Judge b vs (.ok l)) zL (Judge.okO) ?_
      rintro ⟨⟩ -
      first | refine XA.cl ?_ | refine XOA.cl ?_ | refine DA.cl ?_
      refine zO rfl (Rd.nilCheck rfl) ?_; refine yV ?_; refine yB ?_; refine yE ?_; refine XOA.ent (Δ := [Judge b vs (.ok l)]) (Ent.fold1 zE Judge.mkO) ?_
      refine yC (fail_a σ b vs (.ok l) (decide (l = 0)) 3 (by decide)) ?_
      by_cases h0 : l = 0
      · rw [decide_eq_true h0, fail_okT]
        refine zN (zT (zS (zR (yA ?_))))
        first | refine XA.opn (R := Judge b vs (.error 3)) zL (Judge.errO) ?_ | refine XOA.opn (R := Judge b vs (.error 3)) zL (Judge.errO) ?_ | refine DA.opn (R := Judge b vs (.error 3)) zL (Judge.errO) ?_
        rintro l3 -
        first | refine XA.cl ?_ | refine XOA.cl ?_ | refine DA.cl ?_
        refine zO rfl (Rd.nilCheck rfl) ?_; refine yV ?_; refine yB ?_; refine zO rfl (by first | exact Rd.sbi rfl rfl | exact Rd.sub rfl rfl) ?_; refine zO rfl (Rd.nilCheck rfl) ?_; refine yV ?_
        refine zw rfl (WrA.st (tyrow rfl) rfl) ?_
        rintro _ _ _ ⟨rfl, rfl, rfl⟩
        refine zN (zT (zS (zR (yA ?_)))); refine zO rfl (Rd.nilCheck rfl) ?_; refine yV ?_; refine yB ?_; refine yE ?_; refine yS ?_; refine zN (zT (XA.ret ?_))
        refine bodyA.ret (ResA.one rfl rfl) (Ent.fold1 (Γ := _) (Θ := [blk b [vs, _, i64 3] 135]) zE (Judge.mkE (by decide))) ⟨?_, rfl, ?_⟩
        · simp [JE.one, hd, h0, JE.isOk]
        · simp [JE.one, hd, h0]
      · rw [decide_eq_false h0, fail_false]
        refine zN (zT (zS (zR (yA ?_))))
        first | refine XA.opn (R := Judge b vs (.ok l)) zL (Judge.okO) ?_ | refine XOA.opn (R := Judge b vs (.ok l)) zL (Judge.okO) ?_ | refine DA.opn (R := Judge b vs (.ok l)) zL (Judge.okO) ?_
        rintro ⟨⟩ -
        first | refine XA.cl ?_ | refine XOA.cl ?_ | refine DA.cl ?_
        refine zO rfl (Rd.nilCheck rfl) ?_; refine yV ?_; refine yB ?_; refine zO rfl (by first | exact Rd.sbi rfl rfl | exact Rd.sub rfl rfl) ?_; refine zO rfl (Rd.nilCheck rfl) ?_; refine yV ?_
        refine zw rfl (WrA.st (tyrow rfl) rfl) ?_
        rintro _ _ _ ⟨rfl, rfl, rfl⟩
        refine zN (zT (zS (zR (yA ?_)))); refine zO rfl (Rd.nilCheck rfl) ?_; refine yV ?_; refine yB ?_; refine yE ?_; refine yS ?_; refine zN (zT (XA.ret ?_))
        refine bodyA.ret (ResA.one rfl rfl) (Ent.fold1 (Θ := [blk b [vs, i64 (l - 1), i64 0] 135]) zE Judge.mkO) ⟨?_, rfl, ?_⟩
        · simp [JE.one, hd, h0, JE.isOk]
        · simp [JE.one, hd, h0]
end Go.Proofs.YtmnmcjdgnpgchaaGreat

namespace Go.Proofs.YtmnmcjdgnpgchaaGreat
open Go X
set_option maxHeartbeats 1000000
theorem Judge.any {b : Nat} {vs : Value} {e : JE} : ∀ m, Judge b vs e m → ∃ x : Int × Int, (∀ m', Sat [blk b [vs, i64 x.1, i64 x.2] 135] m' → Judge b vs e m') ∧ Sat [blk b [vs, i64 x.1, i64 x.2] 135] m := by
  rintro m ⟨l', c, h, h0⟩
  exact ⟨(l', c), fun m' h' => ⟨l', c, of_sat1 blk_mono h', h0⟩, sat1 h⟩
theorem Judge.anyD {b : Nat} {vs : Value} {e : JE} : ∀ m, Judge b vs e m → ∃ x : Int × Int, (decide (x.2 = 0) = e.isOk ∧ ∀ m', Sat [blk b [vs, i64 x.1, i64 x.2] 135] m' → Judge b vs e m') ∧ Sat [blk b [vs, i64 x.1, i64 x.2] 135] m := by
  rintro m ⟨l', c, h, h0⟩
  refine ⟨(l', c), ⟨?_, fun m' h' => ⟨l', c, of_sat1 blk_mono h', h0⟩⟩, sat1 h⟩
  cases e with
  | ok l => obtain ⟨-, rfl⟩ := h0; rfl
  | error d => obtain ⟨-, h0⟩ := h0; exact decide_eq_false h0
theorem named_a (σ : PH) (b : Nat) (p : Option Addr) (n c : Nat) (e : JE) (v : Int) (is : Bool) :
    CallsA Tryz.prog 112 #[ptr b, i64 v, .bool is] σ [Judge b (.slice p n c) e] (RetA fun r σ' Γ' => r = .tuple #[] ∧ σ = σ' ∧ Γ' = [Judge b (.slice p n c) (e.named n v is)]) := by
  cases is with
  | false =>
    refine enterA3 Tryz.func112 rfl rfl rfl ?_; refine zS (zR (yA ?_)); refine yA ?_; refine yA ?_
    first | refine gA ?_ | refine zH ?_
    first | (refine zG ?_; refine zO rfl (Rd.lss rfl rfl) ?_) | refine zH ?_
    first | refine gA ?_ | refine zH ?_
    first | refine gA ?_ | refine zH ?_
    first | refine gA ?_ | refine zH ?_
    first | (refine zG ?_; refine zO rfl (Rd.nilCheck rfl) ?_) | refine zH ?_
    first | refine gV ?_ | refine zH ?_
    first | refine gB ?_ | refine zH ?_
    first | (refine zG ?_; refine zO rfl (Rd.lenSlice (tyrow rfl) rfl rfl) ?_) | refine zH ?_
    first | (refine zG ?_; refine zO rfl (Rd.geq rfl rfl) ?_) | refine zH ?_
    first | (refine zG ?_; refine zO rfl zP ?_) | refine zH ?_
    refine zO rfl zP ?_
    refine yC (fail_a σ b _ e false 1 (by decide)) ?_; refine zN (zT (zR (yA ?_))); refine yA ?_; refine zO rfl zJ ?_; refine yA ?_
    first | refine gA ?_ | refine zH ?_
    first | (refine zG ?_; refine zO rfl (Rd.neq rfl rfl) ?_) | refine zH ?_
    refine zO rfl zP ?_
    refine yC (fail_a σ b _ _ (decide (v ≠ 0)) 5 (by decide)) ?_; refine zN ?_
    exact bodyA.normal (ResA.none rfl) (Ent.refl _) ⟨rfl, rfl, rfl⟩
  | true =>
    by_cases h0 : v < 0
    · 
      refine enterA3 Tryz.func112 rfl rfl rfl ?_; refine zS (zR (yA ?_)); refine yA ?_; refine yA ?_
      first | refine gA ?_ | refine zH ?_
      first | (refine zG ?_; refine zO rfl (Rd.lss rfl rfl) ?_) | refine zH ?_
      first | refine gA ?_ | refine zH ?_
      first | refine gA ?_ | refine zH ?_
      first | refine gA ?_ | refine zH ?_
      first | (refine zG ?_; refine zO rfl (Rd.nilCheck rfl) ?_) | refine zH ?_
      first | refine gV ?_ | refine zH ?_
      first | refine gB ?_ | refine zH ?_
      first | (refine zG ?_; refine zO rfl (Rd.lenSlice (tyrow rfl) rfl rfl) ?_) | refine zH ?_
      first | (refine zG ?_; refine zO rfl (Rd.geq rfl rfl) ?_) | refine zH ?_
      first | (refine zG ?_; refine zO rfl zP ?_) | refine zH ?_
      refine zO rfl zP ?_
      refine yC (fail_a σ b _ e true 1 (by decide)) ?_; refine zN (zT (zR (yA ?_))); refine yA ?_; refine zO rfl zJ ?_; refine yA ?_
      first | refine gA ?_ | refine zH ?_
      first | (refine zG ?_; refine zO rfl (Rd.neq rfl rfl) ?_) | refine zH ?_
      refine zO rfl zP ?_
      refine yC (fail_a σ b _ _ false 5 (by decide)) ?_; refine zN ?_
      refine bodyA.normal (ResA.none rfl) (Ent.refl _) ⟨rfl, rfl, ?_⟩
      have : decide (v < 0 ∨ (n : Int) ≤ v) = true := decide_eq_true (Or.inl h0)
      simp only [JE.named, this, Bool.true_and, Bool.not_true, Bool.false_and]
    · 
      refine enterA3 Tryz.func112 rfl rfl rfl ?_; refine zS (zR (yA ?_)); refine yA ?_; refine yA ?_
      first | refine gA ?_ | refine zH ?_
      first | (refine zG ?_; refine zO rfl (Rd.lss rfl rfl) ?_) | refine zH ?_
      first | refine gA ?_ | refine zH ?_
      first | refine gA ?_ | refine zH ?_
      first | refine gA ?_ | refine zH ?_
      first | refine XA.opn (R := Judge b (.slice p n c) e) zL (Judge.any) ?_ | refine XOA.opn (R := Judge b (.slice p n c) e) zL (Judge.any) ?_ | refine DA.opn (R := Judge b (.slice p n c) e) zL (Judge.any) ?_
      rintro ⟨l, cc⟩ hf
      first | refine XA.cl ?_ | refine XOA.cl ?_ | refine DA.cl ?_
      first | (refine zG ?_; refine zO rfl (Rd.nilCheck rfl) ?_) | refine zH ?_
      first | refine gV ?_ | refine zH ?_
      first | refine gB ?_ | refine zH ?_
      first | (refine zG ?_; refine zO rfl (Rd.lenSlice (tyrow rfl) rfl rfl) ?_) | refine zH ?_
      first | (refine zG ?_; refine zO rfl (Rd.geq rfl rfl) ?_) | refine zH ?_
      first | (refine zG ?_; refine zO rfl zP ?_) | refine zH ?_
      refine zO rfl zP ?_; refine XOA.ent (Δ := [Judge b (.slice p n c) e]) (Ent.fold1 zE hf) ?_
      refine yC (fail_a σ b _ e (decide ((n : Int) ≤ v)) 1 (by decide)) ?_; refine zN (zT (zR (yA ?_))); refine yA ?_; refine zO rfl zJ ?_; refine yA ?_
      first | refine gA ?_ | refine zH ?_
      first | (refine zG ?_; refine zO rfl (Rd.neq rfl rfl) ?_) | refine zH ?_
      refine zO rfl zP ?_
      refine yC (fail_a σ b _ _ false 5 (by decide)) ?_; refine zN ?_
      refine bodyA.normal (ResA.none rfl) (Ent.refl _) ⟨rfl, rfl, ?_⟩
      have : decide (v < 0 ∨ (n : Int) ≤ v) = decide ((n : Int) ≤ v) := by rw [decide_eq_decide]; omega
      simp only [JE.named, this, Bool.true_and, Bool.not_true, Bool.false_and]
theorem none_a (σ : PH) (cs : List Value) (x : Ex) (hx : ExAt σ cs x) : CallsA Tryz.prog 111 #[.agg cs.toArray] σ [] (RetA fun v σ' Γ' => v = .bool (noneX x) ∧ σ = σ' ∧ Γ' = []) := by
  obtain ⟨p, c, rfl, -, -, -, -⟩ := hx.inv
  by_cases h1 : x.op = 0
  · by_cases h2 : x.v = 0
    · by_cases h3 : x.n = 0
      · 
        refine enterA1 Tryz.func111 rfl rfl rfl ?_; refine zS (zR ?_); refine zw rfl WrA.bx ?_
        rintro _ _ _ ⟨g1, rfl, rfl, rfl⟩
        refine yS ?_; refine zN (zT (zS (zR (yV ?_)))); refine yB ?_; refine yE ?_; refine yA ?_
        first | refine gV ?_ | refine zH ?_
        first | refine gB ?_ | refine zH ?_
        first | refine gE ?_ | refine zH ?_
        refine zO rfl zP ?_; refine yA ?_
        first | refine gV ?_ | refine zH ?_
        first | refine gB ?_ | refine zH ?_
        first | refine gE ?_ | refine zH ?_
        refine zO rfl zP ?_; refine yA ?_
        first | refine gV ?_ | refine zH ?_
        first | refine gB ?_ | refine zH ?_
        first | (refine zG ?_; refine zO rfl (Rd.lenSlice (tyrow rfl) rfl rfl) ?_) | refine zH ?_
        first | refine gE ?_ | refine zH ?_
        refine zO rfl zP ?_; refine yS ?_; refine zN (zT (XA.ret ?_))
        refine bodyA.ret (ResA.one rfl rfl) (Ent.nil _) ⟨?_, rfl, rfl⟩
        simp [noneX, h1, h2, h3]
      · 
        refine enterA1 Tryz.func111 rfl rfl rfl ?_; refine zS (zR ?_); refine zw rfl WrA.bx ?_
        rintro _ _ _ ⟨g1, rfl, rfl, rfl⟩
        refine yS ?_; refine zN (zT (zS (zR (yV ?_)))); refine yB ?_; refine yE ?_; refine yA ?_
        first | refine gV ?_ | refine zH ?_
        first | refine gB ?_ | refine zH ?_
        first | refine gE ?_ | refine zH ?_
        refine zO rfl zP ?_; refine yA ?_
        first | refine gV ?_ | refine zH ?_
        first | refine gB ?_ | refine zH ?_
        first | refine gE ?_ | refine zH ?_
        refine zO rfl zP ?_; refine yA ?_
        first | refine gV ?_ | refine zH ?_
        first | refine gB ?_ | refine zH ?_
        first | (refine zG ?_; refine zO rfl (Rd.lenSlice (tyrow rfl) rfl rfl) ?_) | refine zH ?_
        first | refine gE ?_ | refine zH ?_
        refine zO rfl zP ?_; refine yS ?_; refine zN (zT (XA.ret ?_))
        exact bodyA.ret (ResA.one rfl rfl) (Ent.nil _) ⟨by simp [noneX, h3], rfl, rfl⟩
    · 
      refine enterA1 Tryz.func111 rfl rfl rfl ?_; refine zS (zR ?_); refine zw rfl WrA.bx ?_
      rintro _ _ _ ⟨g1, rfl, rfl, rfl⟩
      refine yS ?_; refine zN (zT (zS (zR (yV ?_)))); refine yB ?_; refine yE ?_; refine yA ?_
      first | refine gV ?_ | refine zH ?_
      first | refine gB ?_ | refine zH ?_
      first | refine gE ?_ | refine zH ?_
      refine zO rfl zP ?_; refine yA ?_
      first | refine gV ?_ | refine zH ?_
      first | refine gB ?_ | refine zH ?_
      first | refine gE ?_ | refine zH ?_
      refine zO rfl zP ?_; refine yA ?_
      first | refine gV ?_ | refine zH ?_
      first | refine gB ?_ | refine zH ?_
      first | (refine zG ?_; refine zO rfl (Rd.lenSlice (tyrow rfl) rfl rfl) ?_) | refine zH ?_
      first | refine gE ?_ | refine zH ?_
      refine zO rfl zP ?_; refine yS ?_; refine zN (zT (XA.ret ?_))
      exact bodyA.ret (ResA.one rfl rfl) (Ent.nil _) ⟨by simp [noneX, h2], rfl, rfl⟩
  · 
    refine enterA1 Tryz.func111 rfl rfl rfl ?_; refine zS (zR ?_); refine zw rfl WrA.bx ?_
    rintro _ _ _ ⟨g1, rfl, rfl, rfl⟩
    refine yS ?_; refine zN (zT (zS (zR (yV ?_)))); refine yB ?_; refine yE ?_; refine yA ?_
    first | refine gV ?_ | refine zH ?_
    first | refine gB ?_ | refine zH ?_
    first | refine gE ?_ | refine zH ?_
    refine zO rfl zP ?_; refine yA ?_
    first | refine gV ?_ | refine zH ?_
    first | refine gB ?_ | refine zH ?_
    first | refine gE ?_ | refine zH ?_
    refine zO rfl zP ?_; refine yA ?_
    first | refine gV ?_ | refine zH ?_
    first | refine gB ?_ | refine zH ?_
    first | (refine zG ?_; refine zO rfl (Rd.lenSlice (tyrow rfl) rfl rfl) ?_) | refine zH ?_
    first | refine gE ?_ | refine zH ?_
    refine zO rfl zP ?_; refine yS ?_; refine zN (zT (XA.ret ?_))
    exact bodyA.ret (ResA.one rfl rfl) (Ent.nil _) ⟨by simp [noneX, h1], rfl, rfl⟩
theorem chas_a (σ : PH) (op : Int) : CallsA Tryz.prog 97 #[i64 op] σ [] (RetA fun v σ' Γ' => v = .tuple #[.bool (needE op), .bool (needF op), .bool (needV op), .bool (needB op), .bool (needO op)] ∧ σ = σ' ∧ Γ' = []) := by
  refine enterA1 Tryz.func97 rfl rfl rfl ?_; refine zS (zR (yS ?_)); (iterate 4 (refine yS ?_)); refine zN (zT (zS (zS (zR (yA ?_))))); refine zN (zT (XA.block (zS (zR (yE ?_))))); refine yS ?_; refine zN (zT ?_); refine XA.condp rfl (fun h1 => ?_) (fun h1 => ?_)
  · refine zS ?_
    refine zR (yS ?_); (iterate 4 (refine yS ?_)); refine zN (zT (XA.ret (DA.inb_ret (DA.thn_ret ?_))))
    subst h1
    exact bodyA.ret (ResA.five rfl rfl rfl rfl rfl rfl) (Ent.refl _) ⟨rfl, rfl, rfl⟩
  refine zS (zR (yE ?_)); refine yS ?_; refine zN (zT ?_); refine XA.condp rfl (fun h2 => ?_) (fun h2 => ?_)
  · refine zS ?_
    refine zR (yS ?_); (iterate 4 (refine yS ?_)); refine zN (zT (XA.ret (DA.inb_ret (DA.thn_ret ?_))))
    subst h2
    exact bodyA.ret (ResA.five rfl rfl rfl rfl rfl rfl) (Ent.refl _) ⟨rfl, rfl, rfl⟩
  refine zS (zR (yE ?_)); refine yS ?_; refine zN (zT ?_); refine XA.condp rfl (fun h3 => ?_) (fun h3 => ?_)
  · refine zS ?_
    refine zR (yS ?_); (iterate 4 (refine yS ?_)); refine zN (zT (XA.ret (DA.inb_ret (DA.thn_ret ?_))))
    subst h3
    exact bodyA.ret (ResA.five rfl rfl rfl rfl rfl rfl) (Ent.refl _) ⟨rfl, rfl, rfl⟩
  refine zS (zR (yE ?_)); refine yS ?_; refine zN (zT ?_); refine XA.condp rfl (fun h4 => ?_) (fun h4 => ?_)
  · refine zS ?_
    refine zR (yS ?_); (iterate 4 (refine yS ?_)); refine zN (zT (XA.ret (DA.inb_ret (DA.thn_ret ?_))))
    subst h4
    exact bodyA.ret (ResA.five rfl rfl rfl rfl rfl rfl) (Ent.refl _) ⟨rfl, rfl, rfl⟩
  refine zS (zR (yE ?_)); refine yS ?_; refine zN (zT ?_); refine XA.condp rfl (fun h5 => ?_) (fun h5 => ?_)
  · refine zS ?_
    refine zR (yS ?_); (iterate 4 (refine yS ?_)); refine zN (zT (XA.ret (DA.inb_ret (DA.thn_ret ?_))))
    subst h5
    exact bodyA.ret (ResA.five rfl rfl rfl rfl rfl rfl) (Ent.refl _) ⟨rfl, rfl, rfl⟩
  refine zS (zR (yE ?_)); refine yS ?_; refine zN (zT ?_); refine XA.condp rfl (fun h6 => ?_) (fun h6 => ?_)
  · refine zS ?_
    refine zR (yS ?_); (iterate 4 (refine yS ?_)); refine zN (zT (XA.ret (DA.inb_ret (DA.thn_ret ?_))))
    subst h6
    exact bodyA.ret (ResA.five rfl rfl rfl rfl rfl rfl) (Ent.refl _) ⟨rfl, rfl, rfl⟩
  refine XA.skip (DA.inb_normal (zT (XA.ret ?_)))
  refine bodyA.ret (ResA.five rfl rfl rfl rfl rfl rfl) (Ent.refl _) ⟨?_, rfl, rfl⟩
  simp [needE, needF, needV, needB, needO, h1, h2, h3, h4, h5, h6]
theorem in_of {F : Int → JE → JE} (hF : Down F) {e : JE} (h : e.in_) (d : Int) : (F d e).in_ := by
  cases e with
  | error c => rw [hF.err]; intro l hl; cases hl
  | ok a =>
    intro l hl
    obtain ⟨h1, h2⟩ := h a rfl
    obtain ⟨h3, h4, -⟩ := hF.ok _ _ _ h1 hl
    omega
def ExprOK (σ : PH) (x : Ex) : Prop := ∀ (cs : List Value) (b : Nat) (p : Option Addr) (n c : Nat) (e : JE) (deep : Int), ExAt σ cs x → e.in_ → 0 ≤ deep → deep ≤ 1000 →
  CallsA Tryz.prog 113 #[ptr b, .agg cs.toArray, i64 deep] σ [Judge b (.slice p n c) e] (RetA fun r σ' Γ' => r = .tuple #[] ∧ σ = σ' ∧ Γ' = [Judge b (.slice p n c) (exE n deep x e)])
theorem isOk_false {e : JE} (h : e.isOk = false) : ∃ c, e = .error c := by
  cases e with
  | ok l => cases h
  | error c => exact ⟨c, rfl⟩
theorem one_ok {e : JE} {d : Int} (h : (e.one d).isOk = true) : d ≤ 12 := by
  cases e with
  | error c => cases h
  | ok l =>
    simp only [JE.one] at h
    split at h
    · cases h
    · omega
theorem expr_a (σ : PH) (x : Ex) : ExprOK σ x := by
  refine Ex.ind (P := ExprOK σ) ?_ x
  intro op v k l ih cs b p n c e deep hx hin hd0 hd1
  obtain ⟨pl, cl, rfl, -, -, -, hl⟩ := hx.inv
  simp only [Ex.op, Ex.v, Ex.n, Ex.l] at hl ⊢
  obtain ⟨-, -, -, hle, hmx⟩ := hl.shape
  have hlen : l.length ≤ maxLen := by
    obtain ⟨q, d, e1, h1, h2⟩ := hl.shape
    omega
  simp only [maxLen] at hlen
  refine enterA3 Tryz.func113 rfl rfl rfl ?_; refine zS (zR ?_); refine zw rfl WrA.bx ?_
  rintro _ _ _ ⟨g4, rfl, rfl, rfl⟩
  refine zN (zT (zS (zS (zR (yA ?_))))); refine yA ?_; refine yC (one_a σ b (.slice p n c) e deep hin) ?_
  cases hok : (e.one deep).isOk with
  | false =>
    obtain ⟨c', hc'⟩ := isOk_false hok
    have hp : exE n deep (.mk op v k l) e = .error c' := by rw [exE, exHead, hc', fail_err, fail_err, named_err, exsE_err]
    rw [hc', hp]
    refine zO rfl zJ ?_; refine zN (zT (yT rfl rfl (XA.ret (DA.thn_ret ?_))))
    exact bodyA.ret (ResA.none rfl) zE ⟨rfl, rfl, rfl⟩
  | true =>
    have hd := one_ok hok
    refine zO rfl zJ ?_; refine zN (zT (yF rfl rfl (XA.skip (zT (zS (zR (yV ?_))))))); refine yB ?_; refine yC (parts_a σ op) ?_; refine yS ?_; refine zN (zT (zS (zR (yA ?_)))); refine yA ?_; refine zO rfl (Rd.lss rfl rfl) ?_
    refine yC (fail_a σ b _ _ (decide (partsOf op < 0)) 2 (by decide)) ?_; refine zN (zT (zS (zR (yA ?_)))); refine yV ?_; refine yB ?_; refine zO rfl (Rd.lenSlice (tyrow rfl) rfl rfl) ?_; refine yA ?_
    refine XOA.join (List.take_append_drop 11 _).symm [(20, 20), (25, 35)] (fun _ : Unit => [(20, ptr b), (35, .bool (decide ((l.length : Int) ≠ partsOf op ∨ (k ≠ 0 ∧ op ≠ 1))))]) (fun _ σ' Γ' => σ = σ' ∧ Γ' = [Judge b (.slice p n c) ((e.one deep).fail (decide (partsOf op < 0)) 2), blk g4 [i64 op, i64 v, i64 k, .slice pl l.length cl] 93]) ?_ ?_
    · 
      by_cases h1 : (l.length : Int) = partsOf op
      · by_cases h2 : k = 0
        · have hb : decide ((l.length : Int) ≠ partsOf op ∨ (k ≠ 0 ∧ op ≠ 1)) = false := decide_eq_false (by omega)
          rw [hb]
          refine zO rfl (Rd.neq rfl rfl) ?_; refine yA ?_
          first | refine gV ?_ | refine zH ?_
          first | refine gB ?_ | refine zH ?_
          first | (refine zG ?_; refine zO rfl (Rd.neq rfl rfl) ?_) | refine zH ?_
          first | refine gA ?_ | refine zH ?_
          first | refine gV ?_ | refine zH ?_
          first | refine gB ?_ | refine zH ?_
          first | (refine zG ?_; refine zO rfl (Rd.neq rfl rfl) ?_) | refine zH ?_
          first | (refine zG ?_; refine zO rfl zP ?_) | refine zH ?_
          refine zO rfl zP ?_; refine zN (zT ?_)
          refine ⟨(Keep.upd (Keep.upd (Keep.upd (Keep.upd (Keep.upd (Keep.upd (Keep.upd (Keep.upd (Keep.upd (Keep.upd (Keep.upd (Keep.refl _ _) rfl) rfl) rfl) rfl) rfl) rfl) rfl) rfl) rfl) rfl) rfl), (), _, zM, ?_, ⟨rfl, rfl⟩⟩
          · exact zE
        · have hb : decide ((l.length : Int) ≠ partsOf op ∨ (k ≠ 0 ∧ op ≠ 1)) = decide (op ≠ 1) := by rw [decide_eq_decide]; omega
          rw [hb]
          refine zO rfl (Rd.neq rfl rfl) ?_; refine yA ?_
          first | refine gV ?_ | refine zH ?_
          first | refine gB ?_ | refine zH ?_
          first | (refine zG ?_; refine zO rfl (Rd.neq rfl rfl) ?_) | refine zH ?_
          first | refine gA ?_ | refine zH ?_
          first | refine gV ?_ | refine zH ?_
          first | refine gB ?_ | refine zH ?_
          first | (refine zG ?_; refine zO rfl (Rd.neq rfl rfl) ?_) | refine zH ?_
          first | (refine zG ?_; refine zO rfl zP ?_) | refine zH ?_
          refine zO rfl zP ?_; refine zN (zT ?_)
          refine ⟨(Keep.upd (Keep.upd (Keep.upd (Keep.upd (Keep.upd (Keep.upd (Keep.upd (Keep.upd (Keep.upd (Keep.upd (Keep.upd (Keep.refl _ _) rfl) rfl) rfl) rfl) rfl) rfl) rfl) rfl) rfl) rfl) rfl), (), _, zM, ?_, ⟨rfl, rfl⟩⟩
          · exact zE
      · have hb : decide ((l.length : Int) ≠ partsOf op ∨ (k ≠ 0 ∧ op ≠ 1)) = true := decide_eq_true (by omega)
        rw [hb]
        refine zO rfl (Rd.neq rfl rfl) ?_; refine yA ?_
        first | refine gV ?_ | refine zH ?_
        first | refine gB ?_ | refine zH ?_
        first | (refine zG ?_; refine zO rfl (Rd.neq rfl rfl) ?_) | refine zH ?_
        first | refine gA ?_ | refine zH ?_
        first | refine gV ?_ | refine zH ?_
        first | refine gB ?_ | refine zH ?_
        first | (refine zG ?_; refine zO rfl (Rd.neq rfl rfl) ?_) | refine zH ?_
        first | (refine zG ?_; refine zO rfl zP ?_) | refine zH ?_
        refine zO rfl zP ?_; refine zN (zT ?_)
        refine ⟨(Keep.upd (Keep.upd (Keep.upd (Keep.upd (Keep.upd (Keep.upd (Keep.upd (Keep.upd (Keep.upd (Keep.upd (Keep.upd (Keep.refl _ _) rfl) rfl) rfl) rfl) rfl) rfl) rfl) rfl) rfl) rfl) rfl), (), _, zM, ?_, ⟨rfl, rfl⟩⟩
        · exact zE
    rintro - δ1 _ _ ⟨rfl, rfl⟩
    dsimp only [ovr, List.foldl]
    refine yC (fail_a σ b _ _ (decide ((l.length : Int) ≠ partsOf op ∨ (k ≠ 0 ∧ op ≠ 1))) 5 (by decide)) ?_; refine zN (zT (zS (zR (yA ?_)))); refine yV ?_; refine yB ?_; refine yV ?_; refine yB ?_; refine yE ?_
    refine XOA.join (List.take_append_drop 5 _).symm [(37, 37), (39, 39), (43, 47)] (fun _ : Unit => [(37, ptr b), (39, i64 v), (47, .bool (decide (op = 2 ∨ op = 3)))]) (fun _ σ' Γ' => σ = σ' ∧ Γ' = [Judge b (.slice p n c) (((e.one deep).fail (decide (partsOf op < 0)) 2).fail (decide ((l.length : Int) ≠ partsOf op ∨ (k ≠ 0 ∧ op ≠ 1))) 5), blk g4 [i64 op, i64 v, i64 k, .slice pl l.length cl] 93]) ?_ ?_
    · 
      by_cases h1 : op = 2
      · have hb : decide (op = 2 ∨ op = 3) = true := decide_eq_true (by omega)
        rw [hb]
        refine yA ?_
        first | refine gV ?_ | refine zH ?_
        first | refine gB ?_ | refine zH ?_
        first | refine gE ?_ | refine zH ?_
        refine zO rfl zP ?_; refine zN (zT ?_)
        refine ⟨(Keep.upd (Keep.upd (Keep.upd (Keep.upd (Keep.upd (Keep.refl _ _) rfl) rfl) rfl) rfl) rfl), (), _, zM, ?_, ⟨rfl, rfl⟩⟩
        · exact zE
      · have hb : decide (op = 2 ∨ op = 3) = decide (op = 3) := by rw [decide_eq_decide]; omega
        rw [hb]
        refine yA ?_
        first | refine gV ?_ | refine zH ?_
        first | refine gB ?_ | refine zH ?_
        first | refine gE ?_ | refine zH ?_
        refine zO rfl zP ?_; refine zN (zT ?_)
        refine ⟨(Keep.upd (Keep.upd (Keep.upd (Keep.upd (Keep.upd (Keep.refl _ _) rfl) rfl) rfl) rfl) rfl), (), _, zM, ?_, ⟨rfl, rfl⟩⟩
        · exact zE
    rintro - δ2 _ _ ⟨rfl, rfl⟩
    dsimp only [ovr, List.foldl]
    refine yC (named_a σ b p n c _ v (decide (op = 2 ∨ op = 3))) ?_; refine zN (zT (zS (zR (yV ?_)))); refine yB ?_; refine zO rfl (Rd.lenSlice (tyrow rfl) rfl rfl) ?_; refine yA ?_; refine zN (zT (XA.block ?_))
    refine XA.gen [(0, _), (2, _), (50, _), (51, _), (52, _)] ⟨(by with_reducible (conv => lhs; whnf)), (by with_reducible (conv => lhs; whnf)), (by with_reducible (conv => lhs; whnf)), (by with_reducible (conv => lhs; whnf)), (by with_reducible (conv => lhs; whnf)), trivial⟩ (fun δ => ?_)
    dsimp only [List.foldl]
    refine XA.loop [(8, 8), (52, 66)] (fun q : Nat => [(52, i64 q)]) (fun q σ' Γ' => σ = σ' ∧ q ≤ l.length ∧ Γ' = [Judge b (.slice p n c) (exsE n (deep + 1) (l.take q) (exHead n deep op v k l.length e)), blk g4 [i64 op, i64 v, i64 k, .slice pl l.length cl] 93]) (fun q => l.length - q) 0 (by exact ⟨rfl, trivial⟩) (Δ0 := _) ?_ (⟨rfl, Nat.zero_le _, rfl⟩) ?_
    · rw [List.take_zero, exsE]; exact zE
    rintro q δ _ _ ⟨rfl, hq, rfl⟩
    dsimp only [ovr, List.foldl]
    refine zS (zR (zO rfl (Rd.lss rfl rfl) ?_)); refine zN (zT (zS ?_)); refine XA.condp rfl (fun hlt => ?_) (fun hlt => ?_)
    · have hlt : q < l.length := by omega
      obtain ⟨x', hx'⟩ : ∃ x', l[q]? = some x' := ⟨_, List.getElem?_eq_getElem hlt⟩
      obtain ⟨g, o, row, rfl, hrx, hrl, hrow⟩ := hl.at hx'
      have hone := hrx.ones
      have e1 := exsE_snoc n (deep + 1) l q x' (exHead n deep op v k l.length e) hx'
      have hin2 : (exsE n (deep + 1) (l.take q) (exHead n deep op v k l.length e)).in_ := in_of (Down.exsE n (l.take q)) (in_of (Down.exHead n op v k l.length) hin deep) (deep + 1)
      refine XA.skip (zT (zS (XA.block (zS (zR (zO rfl (Rd.ixS rfl rfl) ?_)))))); refine zO rfl (Rd.ldA rfl) ?_; refine zw rfl (WrA.alloc (tyrow rfl)) ?_
      rintro _ _ _ ⟨g8, rfl, rfl, rfl⟩
      refine zw rfl (WrA.st (tyrow rfl) rfl) ?_
      rintro _ _ _ ⟨rfl, rfl, rfl⟩
      refine zN (zT (zS (zR (yA ?_))))
      cases hst : exsE n (deep + 1) (l.take q) (exHead n deep op v k l.length e) with
      | error c' =>
        rw [hst, exE_err] at e1
        first | refine XA.opn (R := Judge b (.slice p n c) (.error c')) zL (Judge.errO) ?_ | refine XOA.opn (R := Judge b (.slice p n c) (.error c')) zL (Judge.errO) ?_ | refine DA.opn (R := Judge b (.slice p n c) (.error c')) zL (Judge.errO) ?_
        rintro lf h0
        first | refine XA.cl ?_ | refine XOA.cl ?_ | refine DA.cl ?_
        refine zO rfl (Rd.nilCheck rfl) ?_; refine yV ?_; refine yB ?_; refine yE ?_; refine zN (zT (XA.condF rfl (decide_eq_false h0) (XA.skip (DA.inb_normal (zT (zR (zO rfl zI ?_))))))); refine yA ?_; refine zN (zT ?_)
        refine ⟨(Keep.upd (Keep.upd (Keep.upd (Keep.upd (Keep.upd (Keep.upd (Keep.upd (Keep.updN (Keep.updO (Keep.upd (Keep.upd (Keep.upd (Keep.upd (Keep.hav (Keep.hav (Keep.refl _ _) rfl) rfl) rfl) rfl) rfl) rfl) rfl)) rfl) rfl) rfl) rfl) rfl) rfl) rfl), q + 1, [Judge b (.slice p n c) (.error c'), _], zM, ?_, ⟨rfl, hlt, by rw [e1]⟩, (by omega)⟩
        · exact Ent.foldC (Θ := [_]) zD (Judge.mkE h0) zE
      | ok a =>
        rw [hst] at e1 hin2
        first | refine XA.opn (R := Judge b (.slice p n c) (.ok a)) zL (Judge.okO) ?_ | refine XOA.opn (R := Judge b (.slice p n c) (.ok a)) zL (Judge.okO) ?_ | refine DA.opn (R := Judge b (.slice p n c) (.ok a)) zL (Judge.okO) ?_
        rintro ⟨⟩ -
        first | refine XA.cl ?_ | refine XOA.cl ?_ | refine DA.cl ?_
        refine zO rfl (Rd.nilCheck rfl) ?_; refine yV ?_; refine yB ?_; refine yE ?_; refine zN (zT (yT rfl rfl (zR (yA ?_)))); refine zO rfl (Rd.ldA rfl) ?_; refine yA ?_; refine zO rfl zI ?_; refine XOA.ent (Ent.foldC (Θ := [_]) zD (Judge.mkO (l := a)) (Ent.refl _)) ?_
        refine yC (ih x' (List.mem_of_getElem? hx') row b p n c (.ok a) (deep + 1) hrx hin2 (by omega) (by omega)) ?_; refine zN (DA.inb_normal (zT (zR (zO rfl zI ?_)))); refine yA ?_; refine zN (zT ?_)
        refine ⟨(Keep.upd (Keep.upd (Keep.updO (Keep.upd (Keep.upd (Keep.upd (Keep.upd (Keep.upd (Keep.upd (Keep.upd (Keep.upd (Keep.upd (Keep.updN (Keep.updO (Keep.upd (Keep.upd (Keep.upd (Keep.upd (Keep.hav (Keep.hav (Keep.refl _ _) rfl) rfl) rfl) rfl) rfl) rfl) rfl)) rfl) rfl) rfl) rfl) rfl) rfl) rfl) rfl) rfl) rfl) rfl) rfl), q + 1, _, zM, ?_, ⟨rfl, hlt, by rw [e1]⟩, (by omega)⟩
        · exact zE
    have hqn : q = l.length := by omega
    subst hqn
    rw [List.take_length]
    refine XA.exit (DA.thn_exit (DA.thn_exit (DA.inb_same ?_)))
    exact bodyA.normal (ResA.none rfl) zE ⟨rfl, rfl, rfl⟩
end Go.Proofs.YtmnmcjdgnpgchaaGreat

namespace Go.Proofs.YtmnmcjdgnpgchaaGreat
open Go X
set_option maxHeartbeats 1000000
def StmtOK (σ : PH) (x : St) : Prop := ∀ (cs : List Value) (b : Nat) (p : Option Addr) (n c : Nat) (e : JE) (deep : Int), StAt σ cs x → e.in_ → 0 ≤ deep → deep ≤ 900 →
  CallsA Tryz.prog 93 #[ptr b, .agg cs.toArray, i64 deep] σ [Judge b (.slice p n c) e] (RetA fun r σ' Γ' => r = .tuple #[] ∧ σ = σ' ∧ Γ' = [Judge b (.slice p n c) (stE n deep x e)])
theorem list_a (σ : PH) (l : List St) (ih : ∀ x ∈ l, StmtOK σ x) (sl : Value) (b : Nat) (p : Option Addr) (n c : Nat) (e : JE) (deep : Int) (hl : PSl 12 StAt σ sl l) (hin : e.in_) (hd0 : 0 ≤ deep) (hd1 : deep ≤ 900) :
    CallsA Tryz.prog 70 #[ptr b, sl, i64 deep] σ [Judge b (.slice p n c) e] (RetA fun r σ' Γ' => r = .tuple #[] ∧ σ = σ' ∧ Γ' = [Judge b (.slice p n c) (stsE n deep l e)]) := by
  obtain ⟨pl, cl, rfl, hle, hmx⟩ := hl.shape
  have hlen : l.length ≤ maxLen := by omega
  simp only [maxLen] at hlen
  refine enterA3 Tryz.func70 rfl rfl rfl ?_; refine zS (zR (yA ?_)); refine zO rfl (Rd.lenSlice (tyrow rfl) rfl rfl) ?_; refine yA ?_; refine zN (zT (XA.block ?_))
  refine XA.gen [(0, _), (2, _), (8, _), (9, _), (10, _)] ⟨(by with_reducible (conv => lhs; whnf)), (by with_reducible (conv => lhs; whnf)), (by with_reducible (conv => lhs; whnf)), (by with_reducible (conv => lhs; whnf)), (by with_reducible (conv => lhs; whnf)), trivial⟩ (fun δ => ?_)
  dsimp only [List.foldl]
  refine XA.loop [(7, 7), (10, 23)] (fun q : Nat => [(10, i64 q)]) (fun q σ' Γ' => σ = σ' ∧ q ≤ l.length ∧ Γ' = [Judge b (.slice p n c) (stsE n deep (l.take q) e)]) (fun q => l.length - q) 0 (by exact ⟨rfl, trivial⟩) (Δ0 := _) ?_ (⟨rfl, Nat.zero_le _, rfl⟩) ?_
  · rw [List.take_zero, stsE]; exact zE
  rintro q δ _ _ ⟨rfl, hq, rfl⟩
  dsimp only [ovr, List.foldl]
  refine zS (zR (zO rfl (Rd.lss rfl rfl) ?_)); refine zN (zT (zS ?_)); refine XA.condp rfl (fun hlt => ?_) (fun hlt => ?_)
  · have hlt : q < l.length := by omega
    obtain ⟨x', hx'⟩ : ∃ x', l[q]? = some x' := ⟨_, List.getElem?_eq_getElem hlt⟩
    obtain ⟨g, o, row, rfl, hrx, hrl, hrow⟩ := hl.at hx'
    have hone := hrx.ones
    have e1 := stsE_snoc n deep l q x' e hx'
    have hin2 : (stsE n deep (l.take q) e).in_ := in_of (Down.stsE n (l.take q)) hin deep
    refine XA.skip (zT (zS (XA.block (zS (zR (zO rfl (Rd.ixS rfl rfl) ?_)))))); refine zO rfl (Rd.ldA rfl) ?_; refine zw rfl (WrA.alloc (tyrow rfl)) ?_
    rintro _ _ _ ⟨g7, rfl, rfl, rfl⟩
    refine zw rfl (WrA.st (tyrow rfl) rfl) ?_
    rintro _ _ _ ⟨rfl, rfl, rfl⟩
    refine zN (zT (zS (zR (yA ?_))))
    cases hst : stsE n deep (l.take q) e with
    | error c' =>
      rw [hst, stE_err] at e1
      first | refine XA.opn (R := Judge b (.slice p n c) (.error c')) zL (Judge.errO) ?_ | refine XOA.opn (R := Judge b (.slice p n c) (.error c')) zL (Judge.errO) ?_ | refine DA.opn (R := Judge b (.slice p n c) (.error c')) zL (Judge.errO) ?_
      rintro lf h0
      first | refine XA.cl ?_ | refine XOA.cl ?_ | refine DA.cl ?_
      refine zO rfl (Rd.nilCheck rfl) ?_; refine yV ?_; refine yB ?_; refine yE ?_; refine zN (zT (XA.condF rfl (decide_eq_false h0) (XA.skip (DA.inb_normal (zT (zR (zO rfl zI ?_))))))); refine yA ?_; refine zN (zT ?_)
      refine ⟨(Keep.upd (Keep.upd (Keep.upd (Keep.upd (Keep.upd (Keep.upd (Keep.upd (Keep.updN (Keep.updO (Keep.upd (Keep.upd (Keep.upd (Keep.upd (Keep.hav (Keep.hav (Keep.refl _ _) rfl) rfl) rfl) rfl) rfl) rfl) rfl)) rfl) rfl) rfl) rfl) rfl) rfl) rfl), q + 1, [Judge b (.slice p n c) (.error c')], zM, ?_, ⟨rfl, hlt, by rw [e1]⟩, (by omega)⟩
      · exact Ent.foldC (Θ := [_]) zD (Judge.mkE h0) zE
    | ok a =>
      rw [hst] at e1 hin2
      first | refine XA.opn (R := Judge b (.slice p n c) (.ok a)) zL (Judge.okO) ?_ | refine XOA.opn (R := Judge b (.slice p n c) (.ok a)) zL (Judge.okO) ?_ | refine DA.opn (R := Judge b (.slice p n c) (.ok a)) zL (Judge.okO) ?_
      rintro ⟨⟩ -
      first | refine XA.cl ?_ | refine XOA.cl ?_ | refine DA.cl ?_
      refine zO rfl (Rd.nilCheck rfl) ?_; refine yV ?_; refine yB ?_; refine yE ?_; refine zN (zT (yT rfl rfl (zR (yA ?_)))); refine zO rfl (Rd.ldA rfl) ?_; refine yA ?_; refine XOA.ent (Ent.foldC (Θ := [_]) zD (Judge.mkO (l := a)) (Ent.refl _)) ?_
      refine yC (ih x' (List.mem_of_getElem? hx') row b p n c (.ok a) deep hrx hin2 (by omega) (by omega)) ?_; refine zN (DA.inb_normal (zT (zR (zO rfl zI ?_)))); refine yA ?_; refine zN (zT ?_)
      refine ⟨(Keep.upd (Keep.upd (Keep.updO (Keep.upd (Keep.upd (Keep.upd (Keep.upd (Keep.upd (Keep.upd (Keep.upd (Keep.upd (Keep.updN (Keep.updO (Keep.upd (Keep.upd (Keep.upd (Keep.upd (Keep.hav (Keep.hav (Keep.refl _ _) rfl) rfl) rfl) rfl) rfl) rfl) rfl)) rfl) rfl) rfl) rfl) rfl) rfl) rfl) rfl) rfl) rfl) rfl), q + 1, _, zM, ?_, ⟨rfl, hlt, by rw [e1]⟩, (by omega)⟩
      · exact zE
  have hqn : q = l.length := by omega
  subst hqn
  rw [List.take_length]
  refine XA.exit (DA.thn_exit (DA.thn_exit (DA.inb_same ?_)))
  exact bodyA.normal (ResA.none rfl) zE ⟨rfl, rfl, rfl⟩
theorem stmt_a (σ : PH) (x : St) : StmtOK σ x := by
  refine St.ind (P := StmtOK σ) ?_ x
  intro op v ex fx body els ih jh cs b p n c e deep hx hin hd0 hd1
  obtain ⟨pe, de, pf, df, pb, cb, pl, cl, rfl, -, -, hxe, hxf, hxb, hxl⟩ := hx.inv12
  simp only [St.op, St.v, St.e, St.f, St.body, St.els] at hxe hxf hxb hxl ⊢
  clear hx
  obtain ⟨cells, hcells⟩ : ∃ l, l = [i64 op, i64 v, i64 ex.op, i64 ex.v, i64 ex.n, .slice pe ex.l.length de, i64 fx.op, i64 fx.v, i64 fx.n, .slice pf fx.l.length df, .slice pb body.length cb, .slice pl els.length cl] := ⟨_, rfl⟩
  obtain ⟨ne, hne⟩ : ∃ q, q = noneX ex := ⟨_, rfl⟩
  obtain ⟨nf, hnf⟩ : ∃ q, q = noneX fx := ⟨_, rfl⟩
  obtain ⟨A1, hA1⟩ : ∃ A, A = (!needE op && !ne) := ⟨_, rfl⟩
  obtain ⟨A2, hA2⟩ : ∃ A, A = (!needF op && !nf) := ⟨_, rfl⟩
  obtain ⟨A3, hA3⟩ : ∃ A, A = (!needB op && decide ((0 : Int) < (body.length : Int))) := ⟨_, rfl⟩
  obtain ⟨A4, hA4⟩ : ∃ A, A = (!needO op && decide ((0 : Int) < (els.length : Int))) := ⟨_, rfl⟩
  have hform : stForm op ex fx body.length els.length = (((A1 || A2) || A3) || A4) := by rw [hA1, hA2, hA3, hA4, hne, hnf]; rfl
  refine enterA3 Tryz.func93 rfl rfl rfl ?_; refine zS (zR ?_); refine zw rfl WrA.bx ?_
  rintro _ _ _ ⟨g4, rfl, rfl, rfl⟩
  refine zN (zT (zS (zS (zR (yA ?_))))); refine yA ?_; refine yC (one_a σ b (.slice p n c) e deep hin) ?_
  cases hok : (e.one deep).isOk with
  | false =>
    obtain ⟨c', hc'⟩ := isOk_false hok
    have hp : stE n deep (.mk op v ex fx body els) e = .error c' := by rw [stE, stHead, hc', fail_err, fail_err, named_err, stEF_err, stsE_err, stsE_err]
    rw [hc', hp]
    refine zO rfl zJ ?_; refine zN (zT (yT rfl rfl (XA.ret (DA.thn_ret ?_))))
    exact bodyA.ret (ResA.none rfl) zE ⟨rfl, rfl, rfl⟩
  | true =>
    have hd := one_ok hok
    refine zO rfl zJ ?_; refine zN (zT (yF rfl rfl (XA.skip (zT (zS (zR (yA ?_))))))); refine yV ?_; refine yB ?_
    refine XOA.join (List.take_append_drop 6 _).symm [(15, 15), (18, 23)] (fun _ : Unit => [(15, ptr b), (23, .bool (decide (op < 1 ∨ 7 < op)))]) (fun _ σ' Γ' => σ = σ' ∧ Γ' = [Judge b (.slice p n c) (e.one deep), blk g4 cells 96]) ?_ ?_
    · 
      by_cases h1 : op < 1
      · have hb : decide (op < 1 ∨ 7 < op) = true := decide_eq_true (by omega)
        rw [hb]
        refine zO rfl (Rd.lss rfl rfl) ?_; refine yA ?_
        first | refine gV ?_ | refine zH ?_
        first | refine gB ?_ | refine zH ?_
        first | (refine zG ?_; refine zO rfl (Rd.gtr rfl rfl) ?_) | refine zH ?_
        refine zO rfl zP ?_; refine zN (zT ?_)
        refine ⟨(Keep.upd (Keep.upd (Keep.upd (Keep.upd (Keep.upd (Keep.upd (Keep.refl _ _) rfl) rfl) rfl) rfl) rfl) rfl), (), _, zM, ?_, ⟨rfl, rfl⟩⟩
        · rw [hcells]; exact zE
      · have hb : decide (op < 1 ∨ 7 < op) = decide (7 < op) := by rw [decide_eq_decide]; omega
        rw [hb]
        refine zO rfl (Rd.lss rfl rfl) ?_; refine yA ?_
        first | refine gV ?_ | refine zH ?_
        first | refine gB ?_ | refine zH ?_
        first | (refine zG ?_; refine zO rfl (Rd.gtr rfl rfl) ?_) | refine zH ?_
        refine zO rfl zP ?_; refine zN (zT ?_)
        refine ⟨(Keep.upd (Keep.upd (Keep.upd (Keep.upd (Keep.upd (Keep.upd (Keep.refl _ _) rfl) rfl) rfl) rfl) rfl) rfl), (), _, zM, ?_, ⟨rfl, rfl⟩⟩
        · rw [hcells]; exact zE
    rintro - δ1 _ _ ⟨rfl, rfl⟩
    dsimp only [ovr, List.foldl]
    rw [hcells]
    refine yC (fail_a σ b _ _ (decide (op < 1 ∨ 7 < op)) 2 (by decide)) ?_; refine zN (zT (zS (zR (yV ?_)))); refine yB ?_
    refine yC (chas_a σ op) ?_; refine yA ?_; (iterate 5 (refine zO rfl (Rd.extract rfl rfl) ?_)); (iterate 5 (refine yS ?_)); refine zN (zT (zS (zR ?_)))
    obtain ⟨E2, hE2⟩ : ∃ E, E = (e.one deep).fail (decide (op < 1 ∨ 7 < op)) 2 := ⟨_, rfl⟩
    rw [← hE2, ← hcells]
    refine XOA.join (List.take_append_drop 10 _).symm [(34, 43)] (fun _ : Unit => [(34, ptr b), (43, .bool A1)]) (fun _ σ' Γ' => σ = σ' ∧ Γ' = [Judge b (.slice p n c) E2, blk g4 cells 96]) ?_ ?_
    · rw [hcells]
      cases hn : needE op with
      | true =>
        have hb : A1 = false := by rw [hA1, hn]; rfl
        rw [hb]
        refine yA ?_; refine yA ?_; refine zO rfl zJ ?_; refine yA ?_
        first | refine gV ?_ | refine zH ?_
        first | (refine zG ?_; refine zO rfl (Rd.ldA rfl) ?_) | refine zH ?_
        first | refine zH ?_
        first | (refine zG ?_; refine zO rfl zJ ?_) | refine zH ?_
        refine zO rfl zP ?_; refine yA ?_; refine zN (zT ?_)
        refine ⟨(Keep.upd (Keep.upd (Keep.upd (Keep.upd (Keep.upd (Keep.upd (Keep.upd (Keep.upd (Keep.upd (Keep.upd (Keep.refl _ _) rfl) rfl) rfl) rfl) rfl) rfl) rfl) rfl) rfl) rfl), (), _, zM, ?_, ⟨rfl, rfl⟩⟩
        · exact zE
      | false =>
        have hb : A1 = !ne := by rw [hA1, hn]; rfl
        rw [hb]
        refine yA ?_; refine yA ?_; refine zO rfl zJ ?_; refine yA ?_
        first | refine gV ?_ | refine zH ?_
        first | (refine zG ?_; refine zO rfl (Rd.ldA rfl) ?_) | refine zH ?_
        first | refine XOA.wanted rfl rfl ?_ | refine XOA.wq rfl rfl ?_
        refine yC (none_a σ _ _ hxe) ?_
        rw [← hne]
        first | (refine zG ?_; refine zO rfl zJ ?_) | refine zH ?_
        refine zO rfl zP ?_; refine yA ?_; refine zN (zT ?_)
        refine ⟨(Keep.upd (Keep.upd (Keep.upd (Keep.updO (Keep.upd (Keep.upd (Keep.upd (Keep.upd (Keep.upd (Keep.upd (Keep.refl _ _) rfl) rfl) rfl) rfl) rfl) rfl) rfl) rfl) rfl) rfl), (), _, zM, ?_, ⟨rfl, rfl⟩⟩
        · exact zE
    rintro - δ2 _ _ ⟨rfl, rfl⟩
    dsimp only [ovr, List.foldl]
    rw [hcells]
    obtain ⟨B2, hB2⟩ : ∃ A, A = (A1 || A2) := ⟨_, rfl⟩
    rw [← hcells]
    refine XOA.join (List.take_append_drop 10 _).symm [(34, 34), (44, 53)] (fun _ : Unit => [(34, ptr b), (53, .bool B2)]) (fun _ σ' Γ' => σ = σ' ∧ Γ' = [Judge b (.slice p n c) E2, blk g4 cells 96]) ?_ ?_
    · rw [hcells]
      cases A1 with
      | true =>
        have hb : B2 = true := by rw [hB2]; rfl
        rw [hb]
        first | refine gA ?_ | refine zH ?_
        first | (refine zG ?_; refine zO rfl zJ ?_) | refine zH ?_
        first | refine gA ?_ | refine zH ?_
        first | refine gV ?_ | refine zH ?_
        first | (refine zG ?_; refine zO rfl (Rd.ldA rfl) ?_) | refine zH ?_
        first | refine zH ?_
        first | (refine zG ?_; refine zO rfl zJ ?_) | refine zH ?_
        first | (refine zG ?_; refine zO rfl zP ?_) | refine zH ?_
        refine zO rfl zP ?_; refine yA ?_; refine zN (zT ?_)
        refine ⟨(Keep.upd (Keep.upd (Keep.upd (Keep.upd (Keep.upd (Keep.upd (Keep.upd (Keep.upd (Keep.upd (Keep.upd (Keep.refl _ _) rfl) rfl) rfl) rfl) rfl) rfl) rfl) rfl) rfl) rfl), (), _, zM, ?_, ⟨rfl, rfl⟩⟩
        · exact zE
      | false =>
        rw [Bool.false_or] at hB2
        cases hn : needF op with
        | true =>
          have hb : B2 = false := by rw [hB2, hA2, hn]; rfl
          rw [hb]
          first | refine gA ?_ | refine zH ?_
          first | (refine zG ?_; refine zO rfl zJ ?_) | refine zH ?_
          first | refine gA ?_ | refine zH ?_
          first | refine gV ?_ | refine zH ?_
          first | (refine zG ?_; refine zO rfl (Rd.ldA rfl) ?_) | refine zH ?_
          first | refine zH ?_
          first | (refine zG ?_; refine zO rfl zJ ?_) | refine zH ?_
          first | (refine zG ?_; refine zO rfl zP ?_) | refine zH ?_
          refine zO rfl zP ?_; refine yA ?_; refine zN (zT ?_)
          refine ⟨(Keep.upd (Keep.upd (Keep.upd (Keep.upd (Keep.upd (Keep.upd (Keep.upd (Keep.upd (Keep.upd (Keep.upd (Keep.refl _ _) rfl) rfl) rfl) rfl) rfl) rfl) rfl) rfl) rfl) rfl), (), _, zM, ?_, ⟨rfl, rfl⟩⟩
          · exact zE
        | false =>
          have hb : B2 = !nf := by rw [hB2, hA2, hn]; rfl
          rw [hb]
          first | refine gA ?_ | refine zH ?_
          first | (refine zG ?_; refine zO rfl zJ ?_) | refine zH ?_
          first | refine gA ?_ | refine zH ?_
          first | refine gV ?_ | refine zH ?_
          first | (refine zG ?_; refine zO rfl (Rd.ldA rfl) ?_) | refine zH ?_
          first | refine XOA.wanted rfl rfl ?_ | refine XOA.wq rfl rfl ?_
          refine yC (none_a σ _ _ hxf) ?_
          rw [← hnf]
          first | (refine zG ?_; refine zO rfl zJ ?_) | refine zH ?_
          first | (refine zG ?_; refine zO rfl zP ?_) | refine zH ?_
          refine zO rfl zP ?_; refine yA ?_; refine zN (zT ?_)
          refine ⟨(Keep.upd (Keep.upd (Keep.upd (Keep.upd (Keep.updO (Keep.upd (Keep.upd (Keep.upd (Keep.upd (Keep.upd (Keep.refl _ _) rfl) rfl) rfl) rfl) rfl) rfl) rfl) rfl) rfl) rfl), (), _, zM, ?_, ⟨rfl, rfl⟩⟩
          · exact zE
    rintro - δ3 _ _ ⟨rfl, rfl⟩
    dsimp only [ovr, List.foldl]
    obtain ⟨B3, hB3⟩ : ∃ A, A = (B2 || A3) := ⟨_, rfl⟩
    refine XOA.join (List.take_append_drop 10 _).symm [(34, 34), (54, 63)] (fun _ : Unit => [(34, ptr b), (63, .bool B3)]) (fun _ σ' Γ' => σ = σ' ∧ Γ' = [Judge b (.slice p n c) E2, blk g4 cells 96]) ?_ ?_
    · rw [hcells]
      cases hB : B2 with
      | true =>
        have hb : B3 = true := by rw [hB3, hB]; rfl
        rw [hb]
        first | refine gA ?_ | refine zH ?_
        first | (refine zG ?_; refine zO rfl zJ ?_) | refine zH ?_
        first | refine gA ?_ | refine zH ?_
        first | refine gV ?_ | refine zH ?_
        first | refine gB ?_ | refine zH ?_
        first | (refine zG ?_; refine zO rfl (Rd.lenSlice (tyrow rfl) rfl rfl) ?_) | refine zH ?_
        first | (refine zG ?_; refine zO rfl (Rd.gtr rfl rfl) ?_) | refine zH ?_
        first | (refine zG ?_; refine zO rfl zP ?_) | refine zH ?_
        refine zO rfl zP ?_; refine yA ?_; refine zN (zT ?_)
        refine ⟨(Keep.upd (Keep.upd (Keep.upd (Keep.upd (Keep.upd (Keep.upd (Keep.upd (Keep.upd (Keep.upd (Keep.upd (Keep.refl _ _) rfl) rfl) rfl) rfl) rfl) rfl) rfl) rfl) rfl) rfl), (), _, zM, ?_, ⟨rfl, rfl⟩⟩
        · exact zE
      | false =>
        rw [hB, Bool.false_or] at hB3
        cases hn : needB op with
        | true =>
          have hb : B3 = false := by rw [hB3, hA3, hn]; rfl
          rw [hb]
          first | refine gA ?_ | refine zH ?_
          first | (refine zG ?_; refine zO rfl zJ ?_) | refine zH ?_
          first | refine gA ?_ | refine zH ?_
          first | refine gV ?_ | refine zH ?_
          first | refine gB ?_ | refine zH ?_
          first | (refine zG ?_; refine zO rfl (Rd.lenSlice (tyrow rfl) rfl rfl) ?_) | refine zH ?_
          first | (refine zG ?_; refine zO rfl (Rd.gtr rfl rfl) ?_) | refine zH ?_
          first | (refine zG ?_; refine zO rfl zP ?_) | refine zH ?_
          refine zO rfl zP ?_; refine yA ?_; refine zN (zT ?_)
          refine ⟨(Keep.upd (Keep.upd (Keep.upd (Keep.upd (Keep.upd (Keep.upd (Keep.upd (Keep.upd (Keep.upd (Keep.upd (Keep.refl _ _) rfl) rfl) rfl) rfl) rfl) rfl) rfl) rfl) rfl) rfl), (), _, zM, ?_, ⟨rfl, rfl⟩⟩
          · exact zE
        | false =>
          have hb : B3 = decide ((0 : Int) < (body.length : Int)) := by rw [hB3, hA3, hn]; rfl
          rw [hb]
          first | refine gA ?_ | refine zH ?_
          first | (refine zG ?_; refine zO rfl zJ ?_) | refine zH ?_
          first | refine gA ?_ | refine zH ?_
          first | refine gV ?_ | refine zH ?_
          first | refine gB ?_ | refine zH ?_
          first | (refine zG ?_; refine zO rfl (Rd.lenSlice (tyrow rfl) rfl rfl) ?_) | refine zH ?_
          first | (refine zG ?_; refine zO rfl (Rd.gtr rfl rfl) ?_) | refine zH ?_
          first | (refine zG ?_; refine zO rfl zP ?_) | refine zH ?_
          refine zO rfl zP ?_; refine yA ?_; refine zN (zT ?_)
          refine ⟨(Keep.upd (Keep.upd (Keep.upd (Keep.upd (Keep.upd (Keep.upd (Keep.upd (Keep.upd (Keep.upd (Keep.upd (Keep.refl _ _) rfl) rfl) rfl) rfl) rfl) rfl) rfl) rfl) rfl) rfl), (), _, zM, ?_, ⟨rfl, rfl⟩⟩
          · exact zE
    rintro - δ4 _ _ ⟨rfl, rfl⟩
    dsimp only [ovr, List.foldl]
    obtain ⟨B4, hB4⟩ : ∃ A, A = (B3 || A4) := ⟨_, rfl⟩
    refine XOA.join (List.take_append_drop 9 _).symm [(34, 34), (64, 72)] (fun _ : Unit => [(34, ptr b), (72, .bool B4)]) (fun _ σ' Γ' => σ = σ' ∧ Γ' = [Judge b (.slice p n c) E2, blk g4 cells 96]) ?_ ?_
    · rw [hcells]
      cases hB : B3 with
      | true =>
        have hb : B4 = true := by rw [hB4, hB]; rfl
        rw [hb]
        first | refine gA ?_ | refine zH ?_
        first | (refine zG ?_; refine zO rfl zJ ?_) | refine zH ?_
        first | refine gA ?_ | refine zH ?_
        first | refine gV ?_ | refine zH ?_
        first | refine gB ?_ | refine zH ?_
        first | (refine zG ?_; refine zO rfl (Rd.lenSlice (tyrow rfl) rfl rfl) ?_) | refine zH ?_
        first | (refine zG ?_; refine zO rfl (Rd.gtr rfl rfl) ?_) | refine zH ?_
        first | (refine zG ?_; refine zO rfl zP ?_) | refine zH ?_
        refine zO rfl zP ?_; refine zN (zT ?_)
        refine ⟨(Keep.upd (Keep.upd (Keep.upd (Keep.upd (Keep.upd (Keep.upd (Keep.upd (Keep.upd (Keep.upd (Keep.refl _ _) rfl) rfl) rfl) rfl) rfl) rfl) rfl) rfl) rfl), (), _, zM, ?_, ⟨rfl, rfl⟩⟩
        · exact zE
      | false =>
        rw [hB, Bool.false_or] at hB4
        cases hn : needO op with
        | true =>
          have hb : B4 = false := by rw [hB4, hA4, hn]; rfl
          rw [hb]
          first | refine gA ?_ | refine zH ?_
          first | (refine zG ?_; refine zO rfl zJ ?_) | refine zH ?_
          first | refine gA ?_ | refine zH ?_
          first | refine gV ?_ | refine zH ?_
          first | refine gB ?_ | refine zH ?_
          first | (refine zG ?_; refine zO rfl (Rd.lenSlice (tyrow rfl) rfl rfl) ?_) | refine zH ?_
          first | (refine zG ?_; refine zO rfl (Rd.gtr rfl rfl) ?_) | refine zH ?_
          first | (refine zG ?_; refine zO rfl zP ?_) | refine zH ?_
          refine zO rfl zP ?_; refine zN (zT ?_)
          refine ⟨(Keep.upd (Keep.upd (Keep.upd (Keep.upd (Keep.upd (Keep.upd (Keep.upd (Keep.upd (Keep.upd (Keep.refl _ _) rfl) rfl) rfl) rfl) rfl) rfl) rfl) rfl) rfl), (), _, zM, ?_, ⟨rfl, rfl⟩⟩
          · exact zE
        | false =>
          have hb : B4 = decide ((0 : Int) < (els.length : Int)) := by rw [hB4, hA4, hn]; rfl
          rw [hb]
          first | refine gA ?_ | refine zH ?_
          first | (refine zG ?_; refine zO rfl zJ ?_) | refine zH ?_
          first | refine gA ?_ | refine zH ?_
          first | refine gV ?_ | refine zH ?_
          first | refine gB ?_ | refine zH ?_
          first | (refine zG ?_; refine zO rfl (Rd.lenSlice (tyrow rfl) rfl rfl) ?_) | refine zH ?_
          first | (refine zG ?_; refine zO rfl (Rd.gtr rfl rfl) ?_) | refine zH ?_
          first | (refine zG ?_; refine zO rfl zP ?_) | refine zH ?_
          refine zO rfl zP ?_; refine zN (zT ?_)
          refine ⟨(Keep.upd (Keep.upd (Keep.upd (Keep.upd (Keep.upd (Keep.upd (Keep.upd (Keep.upd (Keep.upd (Keep.refl _ _) rfl) rfl) rfl) rfl) rfl) rfl) rfl) rfl) rfl), (), _, zM, ?_, ⟨rfl, rfl⟩⟩
          · exact zE
    rintro - δ5 _ _ ⟨rfl, rfl⟩
    dsimp only [ovr, List.foldl]
    rw [show B4 = stForm op ex fx body.length els.length by rw [hform, hB4, hB3, hB2], hcells]
    refine yC (fail_a σ b _ _ (stForm op ex fx body.length els.length) 5 (by decide)) ?_; refine zN (zT (zS (zR (yA ?_)))); refine yV ?_; refine yB ?_; refine yA ?_
    refine yC (named_a σ b p n c _ v (needV op)) ?_
    obtain ⟨H, hH⟩ : ∃ H, H = stHead n deep op v ex fx body.length els.length e := ⟨_, rfl⟩
    have hHi : H.in_ := by rw [hH]; exact in_of (Down.stHead n op v ex fx body.length els.length) hin deep
    rw [show JE.named (JE.fail E2 (stForm op ex fx body.length els.length) 5) n v (needV op) = H by rw [hH, stHead, hE2]]
    have hpost : stE n deep (.mk op v ex fx body els) e = stsE n (deep + 1) els (stsE n (deep + 1) body (stEF n (deep + 1) op ex fx H)) := by rw [stE, hH]
    rw [hpost]
    clear hpost hform hB4 hB3 hB2 hA1 hA2 hA3 hA4 hne hnf hH hE2
    rw [← hcells]
    obtain ⟨H1, hH1⟩ : ∃ H1, H1 = if needE op then exE n (deep + 1) ex H else H := ⟨_, rfl⟩
    have hH1i : H1.in_ := by
      rw [hH1]; split
      · exact in_of (Down.exE n ex) hHi (deep + 1)
      · exact hHi
    obtain ⟨H2, hH2⟩ : ∃ H2, H2 = stEF n (deep + 1) op ex fx H := ⟨_, rfl⟩
    have hH2i : H2.in_ := by rw [hH2]; exact in_of (Down.stEF n op ex fx) hHi (deep + 1)
    have hH1' := hH1
    have hH2' : H2 = if needF op then exE n (deep + 1) fx H1 else H1 := by rw [hH2, hH1]; rfl
    rw [← hH2]
    refine zN (zT (zS (zS (zR ?_)))); refine XOA.join (List.take_append_drop 8 _).symm [(79, 86)] (fun _ : Unit => [(86, .bool (needE op && H.isOk))]) (fun _ σ' Γ' => σ = σ' ∧ Γ' = [Judge b (.slice p n c) H, blk g4 cells 96]) ?_ ?_
    · 
      cases hn : needE op with
      | false =>
        rw [Bool.false_and]
        refine yA ?_; refine yA ?_
        first | refine gA ?_ | refine zH ?_
        first | (refine zG ?_; refine zO rfl (Rd.nilCheck rfl) ?_) | refine zH ?_
        first | refine gV ?_ | refine zH ?_
        first | refine gB ?_ | refine zH ?_
        first | refine gE ?_ | refine zH ?_
        refine zO rfl zP ?_; refine zN (zT ?_)
        refine ⟨(Keep.upd (Keep.upd (Keep.upd (Keep.upd (Keep.upd (Keep.upd (Keep.upd (Keep.upd (Keep.refl _ _) rfl) rfl) rfl) rfl) rfl) rfl) rfl) rfl), (), _, zM, ?_, ⟨rfl, rfl⟩⟩
        · exact zE
      | true =>
        rw [Bool.true_and]
        refine yA ?_; refine yA ?_
        first | refine gA ?_ | refine zH ?_
        first | refine XA.opn (R := Judge b (.slice p n c) H) zL (Judge.anyD) ?_ | refine XOA.opn (R := Judge b (.slice p n c) H) zL (Judge.anyD) ?_ | refine DA.opn (R := Judge b (.slice p n c) H) zL (Judge.anyD) ?_
        rintro ⟨l, cc⟩ ⟨hdec, hf⟩
        first | refine XA.cl ?_ | refine XOA.cl ?_ | refine DA.cl ?_
        rw [← hdec]
        first | (refine zG ?_; refine zO rfl (Rd.nilCheck rfl) ?_) | refine zH ?_
        first | refine gV ?_ | refine zH ?_
        first | refine gB ?_ | refine zH ?_
        first | refine gE ?_ | refine zH ?_
        refine zO rfl zP ?_; refine zN (zT ?_)
        refine ⟨(Keep.upd (Keep.upd (Keep.upd (Keep.upd (Keep.upd (Keep.upd (Keep.upd (Keep.upd (Keep.refl _ _) rfl) rfl) rfl) rfl) rfl) rfl) rfl) rfl), (), _, zM, ?_, ⟨rfl, rfl⟩⟩
        · exact Ent.foldC (Θ := [_]) zD hf zE
    rintro - δ6 _ _ ⟨rfl, rfl⟩
    dsimp only [ovr, List.foldl]
    refine zN (zT ?_); refine XA.join [(87, 92)] (fun _ : Unit => []) (fun _ σ' Γ' => σ = σ' ∧ Γ' = [Judge b (.slice p n c) H1, blk g4 cells 96]) ?_ ?_
    · 
      refine XA.cond rfl (fun hq => ?_) (fun hq => ?_)
      · have hq1 : needE op = true ∧ H.isOk = true := by simpa using hq
        rw [hcells]
        refine zR (yA ?_); refine yV ?_; refine zO rfl (Rd.ldA rfl) ?_; refine yA ?_; refine zO rfl zI ?_
        refine yC (expr_a σ ex _ b p n c H (deep + 1) hxe hHi (by omega) (by omega)) ?_; refine zN (zT ?_)
        rw [show H1 = exE n (deep + 1) ex H by rw [hH1', if_pos hq1.1]]
        refine ⟨(Keep.updO (Keep.upd (Keep.upd (Keep.upd (Keep.upd (Keep.upd (Keep.refl _ _) rfl) rfl) rfl) rfl) rfl) rfl), (), _, zM, ?_, ⟨rfl, rfl⟩⟩
        · exact zE
      · have e1 : H1 = H := by
          rw [hH1']
          split
          · rename_i hn
            rw [hn, Bool.true_and] at hq
            obtain ⟨c', hc'⟩ := isOk_false hq
            rw [hc', exE_err]
          · rfl
        rw [e1]
        refine XA.skip (zT ?_)
        refine ⟨(Keep.refl _ _), (), _, zM, ?_, ⟨rfl, rfl⟩⟩
        · exact zE
    rintro - δ6' _ _ ⟨rfl, rfl⟩
    dsimp only [ovr, List.foldl]
    refine zT (zS (zS (zR ?_))); refine XOA.join (List.take_append_drop 8 _).symm [(93, 100)] (fun _ : Unit => [(100, .bool (needF op && H1.isOk))]) (fun _ σ' Γ' => σ = σ' ∧ Γ' = [Judge b (.slice p n c) H1, blk g4 cells 96]) ?_ ?_
    · 
      cases hn : needF op with
      | false =>
        rw [Bool.false_and]
        refine yA ?_; refine yA ?_
        first | refine gA ?_ | refine zH ?_
        first | (refine zG ?_; refine zO rfl (Rd.nilCheck rfl) ?_) | refine zH ?_
        first | refine gV ?_ | refine zH ?_
        first | refine gB ?_ | refine zH ?_
        first | refine gE ?_ | refine zH ?_
        refine zO rfl zP ?_; refine zN (zT ?_)
        refine ⟨(Keep.upd (Keep.upd (Keep.upd (Keep.upd (Keep.upd (Keep.upd (Keep.upd (Keep.upd (Keep.refl _ _) rfl) rfl) rfl) rfl) rfl) rfl) rfl) rfl), (), _, zM, ?_, ⟨rfl, rfl⟩⟩
        · exact zE
      | true =>
        rw [Bool.true_and]
        refine yA ?_; refine yA ?_
        first | refine gA ?_ | refine zH ?_
        first | refine XA.opn (R := Judge b (.slice p n c) H1) zL (Judge.anyD) ?_ | refine XOA.opn (R := Judge b (.slice p n c) H1) zL (Judge.anyD) ?_ | refine DA.opn (R := Judge b (.slice p n c) H1) zL (Judge.anyD) ?_
        rintro ⟨l, cc⟩ ⟨hdec, hf⟩
        first | refine XA.cl ?_ | refine XOA.cl ?_ | refine DA.cl ?_
        rw [← hdec]
        first | (refine zG ?_; refine zO rfl (Rd.nilCheck rfl) ?_) | refine zH ?_
        first | refine gV ?_ | refine zH ?_
        first | refine gB ?_ | refine zH ?_
        first | refine gE ?_ | refine zH ?_
        refine zO rfl zP ?_; refine zN (zT ?_)
        refine ⟨(Keep.upd (Keep.upd (Keep.upd (Keep.upd (Keep.upd (Keep.upd (Keep.upd (Keep.upd (Keep.refl _ _) rfl) rfl) rfl) rfl) rfl) rfl) rfl) rfl), (), _, zM, ?_, ⟨rfl, rfl⟩⟩
        · exact Ent.foldC (Θ := [_]) zD hf zE
    rintro - δ7 _ _ ⟨rfl, rfl⟩
    dsimp only [ovr, List.foldl]
    refine zN (zT ?_); refine XA.join [(101, 106)] (fun _ : Unit => []) (fun _ σ' Γ' => σ = σ' ∧ Γ' = [Judge b (.slice p n c) H2, blk g4 cells 96]) ?_ ?_
    · 
      refine XA.cond rfl (fun hq => ?_) (fun hq => ?_)
      · have hq1 : needF op = true ∧ H1.isOk = true := by simpa using hq
        rw [hcells]
        refine zR (yA ?_); refine yV ?_; refine zO rfl (Rd.ldA rfl) ?_; refine yA ?_; refine zO rfl zI ?_
        refine yC (expr_a σ fx _ b p n c H1 (deep + 1) hxf hH1i (by omega) (by omega)) ?_; refine zN (zT ?_)
        rw [show H2 = exE n (deep + 1) fx H1 by rw [hH2', if_pos hq1.1]]
        refine ⟨(Keep.updO (Keep.upd (Keep.upd (Keep.upd (Keep.upd (Keep.upd (Keep.refl _ _) rfl) rfl) rfl) rfl) rfl) rfl), (), _, zM, ?_, ⟨rfl, rfl⟩⟩
        · exact zE
      · have e1 : H2 = H1 := by
          rw [hH2']
          split
          · rename_i hn
            rw [hn, Bool.true_and] at hq
            obtain ⟨c', hc'⟩ := isOk_false hq
            rw [hc', exE_err]
          · rfl
        rw [e1]
        refine XA.skip (zT ?_)
        refine ⟨(Keep.refl _ _), (), _, zM, ?_, ⟨rfl, rfl⟩⟩
        · exact zE
    rintro - δ7' _ _ ⟨rfl, rfl⟩
    dsimp only [ovr, List.foldl]
    refine zT ?_
    rw [hcells]
    refine zS (zR (yA ?_)); refine yV ?_; refine yB ?_; refine yA ?_; refine zO rfl zI ?_
    refine yC (list_a σ body ih _ b p n c H2 (deep + 1) hxb hH2i (by omega) (by omega)) ?_; refine zN (zT (zR (yA ?_))); refine yV ?_; refine yB ?_; refine yA ?_; refine zO rfl zI ?_
    refine yC (list_a σ els jh _ b p n c _ (deep + 1) hxl (in_of (Down.stsE n body) hH2i (deep + 1)) (by omega) (by omega)) ?_; refine zN ?_
    exact bodyA.normal (ResA.none rfl) zE ⟨rfl, rfl, rfl⟩
end Go.Proofs.YtmnmcjdgnpgchaaGreat

namespace Go.Proofs.YtmnmcjdgnpgchaaGreat
open Go X
set_option maxHeartbeats 1000000
theorem exsN_snoc {l : List Ex} {k : Nat} {x : Ex} (h : l[k]? = some x) : exsN (l.take (k + 1)) = exsN (l.take k) + exN x := by
  rw [List.take_add_one, h]; simp [exsN_app, exsN]
theorem stsN_snoc {l : List St} {k : Nat} {x : St} (h : l[k]? = some x) : stsN (l.take (k + 1)) = stsN (l.take k) + stN x := by
  rw [List.take_add_one, h]; simp [stsN_app, stsN]
def ExPartsOK (σ : PH) (x : Ex) : Prop := ∀ (cs : List Value) (most : Int), ExAt σ cs x → -1000000 ≤ most → most ≤ 1000000 →
  CallsA Tryz.prog 73 #[.agg cs.toArray, i64 most] σ [] (RetA fun v σ' Γ' => ∃ r : Int, v = i64 r ∧ (1 ≤ r ∧ (r ≤ most + 1 ∨ r ≤ 1) ∧ (r ≤ most → r = exN x)) ∧ σ = σ' ∧ Γ' = [])
theorem exprParts_a (σ : PH) (x : Ex) : ExPartsOK σ x := by
  refine Ex.ind (P := ExPartsOK σ) ?_ x
  intro op v k l ih cs most hx hm0 hm1
  obtain ⟨pl, cl, rfl, -, -, -, hl⟩ := hx.inv
  simp only [Ex.op, Ex.v, Ex.n, Ex.l] at hl ⊢
  clear hx
  have hlen : l.length ≤ maxLen := by
    obtain ⟨q, d, e1, h1, h2⟩ := hl.shape
    omega
  simp only [maxLen] at hlen
  refine enterA2 Tryz.func73 rfl rfl rfl ?_; refine zS (zR ?_); refine zw rfl WrA.bx ?_
  rintro _ _ _ ⟨g2, rfl, rfl, rfl⟩
  refine yS ?_; refine zN (zT (zS (zR (yS ?_)))); refine zN (zT (zS (zS (zR (yS ?_))))); refine zN (zT (XA.block ?_))
  refine XA.gen [(1, _), (2, _), (4, _), (5, _), (6, _)] ⟨(by with_reducible (conv => lhs; whnf)), (by with_reducible (conv => lhs; whnf)), (by with_reducible (conv => lhs; whnf)), (by with_reducible (conv => lhs; whnf)), (by with_reducible (conv => lhs; whnf)), trivial⟩ (fun δ => ?_)
  dsimp only [List.foldl]
  refine XA.loop [(5, 29)] (fun q : Nat × Int => [(6, i64 q.1), (5, i64 q.2)]) (fun q σ' Γ' => σ = σ' ∧ q.1 ≤ l.length ∧ (1 ≤ q.2 ∧ (q.2 ≤ most + 1 ∨ q.2 ≤ 1) ∧ (q.2 ≤ most → q.2 = 1 + exsN (l.take q.1))) ∧ Γ' = [blk g2 [i64 op, i64 v, i64 k, .slice pl l.length cl] 93]) (fun q => l.length - q.1) (0, 1) (by exact ⟨rfl, rfl, trivial⟩) (Δ0 := _) ?_ (⟨rfl, Nat.zero_le _, ⟨by simp only; omega, by simp only; omega, fun _ => by simp [exsN]⟩, rfl⟩) ?_
  · exact zE
  rintro ⟨i, n⟩ δ _ _ ⟨rfl, hi, ⟨hn0, hn1, hn2⟩, rfl⟩
  dsimp only [ovr, List.foldl]
  have hi : i ≤ l.length := hi
  have hn0 : 1 ≤ n := hn0
  have hn1 : n ≤ most + 1 ∨ n ≤ 1 := hn1
  have hn2 : n ≤ most → n = 1 + exsN (l.take i) := hn2
  by_cases h1 : i < l.length
  · by_cases h2 : n ≤ most
    · obtain ⟨x', hx'⟩ : ∃ x', l[i]? = some x' := ⟨_, List.getElem?_eq_getElem h1⟩
      obtain ⟨g, o, row, rfl, hrx, hrl, hrow⟩ := hl.at hx'
      have hone := hrx.ones
      have e1 := exsN_snoc hx'
      have h2n := hn2 h2
      refine zS (zS (zR (yA ?_))); refine yV ?_; refine yB ?_; refine zO rfl (Rd.lenSlice (tyrow rfl) rfl rfl) ?_; refine zO rfl (Rd.lss rfl rfl) ?_; refine yA ?_
      first | refine gA ?_ | refine zH ?_
      first | refine gA ?_ | refine zH ?_
      first | (refine zG ?_; refine zO rfl (Rd.leq rfl rfl) ?_) | refine zH ?_
      refine zO rfl zP ?_; refine zN (zT (XA.condT rfl zY ?_)); refine XA.skip (zT (zS (XA.block (zR (yA ?_))))); refine yV ?_; refine yB ?_; refine yA ?_; refine zO rfl (Rd.ixS rfl rfl) ?_; refine zO rfl (Rd.ldA rfl) ?_; refine yA ?_; refine yA ?_
      refine zO rfl (by first | exact Rd.sbi rfl rfl | exact Rd.sub rfl rfl) ?_
      refine zw rfl (WrA.cE (ih x' (List.mem_of_getElem? hx') row (most - n) hrx (by omega) (by omega)) rfl) ?_
      rintro _ _ _ ⟨_, ⟨r, rfl, ⟨hr0, hr1, hr2⟩, rfl, rfl⟩, rfl⟩
      refine XOA.cl ?_; refine zO rfl zI ?_; refine yS ?_; refine zN (DA.inb_normal (zT (zR (yA ?_)))); refine zO rfl zI ?_; refine yS ?_; refine zN (zT ?_)
      refine ⟨(Keep.upd (Keep.upd (Keep.upd (Keep.upd (Keep.upd (Keep.updO (Keep.upd (Keep.upd (Keep.upd (Keep.upd (Keep.upd (Keep.upd (Keep.upd (Keep.upd (Keep.upd (Keep.upd (Keep.upd (Keep.upd (Keep.upd (Keep.upd (Keep.upd (Keep.upd (Keep.upd (Keep.upd (Keep.upd (Keep.upd (Keep.upd (Keep.hav (Keep.refl _ _) rfl) rfl) rfl) rfl) rfl) rfl) rfl) rfl) rfl) rfl) rfl) rfl) rfl) rfl) rfl) rfl) rfl) rfl) rfl) rfl) rfl) rfl) rfl) rfl) rfl) rfl) rfl) rfl), (i + 1, n + r), _, zM, ?_, ⟨rfl, h1, ⟨by simp only; omega, by simp only; omega, fun h => by simp only at h ⊢; have := hr2 (by omega); rw [e1]; omega⟩, rfl⟩, (by simp only; omega)⟩
      · exact zE
    · 
      refine zS (zS (zR (yA ?_))); refine yV ?_; refine yB ?_; refine zO rfl (Rd.lenSlice (tyrow rfl) rfl rfl) ?_; refine zO rfl (Rd.lss rfl rfl) ?_; refine yA ?_
      first | refine gA ?_ | refine zH ?_
      first | refine gA ?_ | refine zH ?_
      first | (refine zG ?_; refine zO rfl (Rd.leq rfl rfl) ?_) | refine zH ?_
      refine zO rfl zP ?_; refine zN (zT (XA.condF rfl zY ?_)); refine XA.exit (DA.thn_exit (DA.thn_exit (DA.inb_same (zT (zS (zR (yA ?_))))))); refine yS ?_; refine zN (zT (XA.ret ?_))
      refine bodyA.ret (ResA.one rfl rfl) (Ent.nil _) ⟨n, rfl, ⟨hn0, hn1, fun h => absurd h h2⟩, rfl, rfl⟩
  · 
    have hil : i = l.length := by omega
    subst hil
    rw [List.take_length] at hn2
    refine zS (zS (zR (yA ?_))); refine yV ?_; refine yB ?_; refine zO rfl (Rd.lenSlice (tyrow rfl) rfl rfl) ?_; refine zO rfl (Rd.lss rfl rfl) ?_; refine yA ?_
    first | refine gA ?_ | refine zH ?_
    first | refine gA ?_ | refine zH ?_
    first | (refine zG ?_; refine zO rfl (Rd.leq rfl rfl) ?_) | refine zH ?_
    refine zO rfl zP ?_; refine zN (zT (XA.condF rfl zY ?_)); refine XA.exit (DA.thn_exit (DA.thn_exit (DA.inb_same (zT (zS (zR (yA ?_))))))); refine yS ?_; refine zN (zT (XA.ret ?_))
    refine bodyA.ret (ResA.one rfl rfl) (Ent.nil _) ⟨n, rfl, ⟨hn0, hn1, fun h => by rw [hn2 h, exN]; omega⟩, rfl, rfl⟩
def StPartsOK (σ : PH) (l : List St) : Prop := ∀ (sl : Value) (most : Int), PSl 12 StAt σ sl l → -1000000 ≤ most → most ≤ 1000000 →
  CallsA Tryz.prog 45 #[sl, i64 most] σ [] (RetA fun v σ' Γ' => ∃ r : Int, v = i64 r ∧ (0 ≤ r ∧ (r ≤ 2 * most + 3 ∨ r ≤ 0) ∧ (r ≤ most → r = stsN l)) ∧ σ = σ' ∧ Γ' = [])
theorem stmtParts_l (σ : PH) (l : List St) (ih : ∀ x ∈ l, StPartsOK σ x.body ∧ StPartsOK σ x.els) : StPartsOK σ l := by
  intro sl most hl hm0 hm1
  obtain ⟨pl, cl, rfl, hle, hmx⟩ := hl.shape
  have hlen : l.length ≤ maxLen := by omega
  simp only [maxLen] at hlen
  refine enterA2 Tryz.func45 rfl rfl rfl ?_; refine zS (zR (yS ?_)); refine zN (zT (zS (zR (yS ?_)))); refine zN (zT (zS (zS (zR (yS ?_))))); refine zN (zT (XA.block ?_))
  refine XA.gen [(0, _), (1, _), (4, _), (5, _), (6, _)] ⟨(by with_reducible (conv => lhs; whnf)), (by with_reducible (conv => lhs; whnf)), (by with_reducible (conv => lhs; whnf)), (by with_reducible (conv => lhs; whnf)), (by with_reducible (conv => lhs; whnf)), trivial⟩ (fun δ => ?_)
  dsimp only [List.foldl]
  refine XA.loop [(5, 67)] (fun q : Nat × Int => [(6, i64 q.1), (5, i64 q.2)]) (fun q σ' Γ' => σ = σ' ∧ q.1 ≤ l.length ∧ (0 ≤ q.2 ∧ (q.2 ≤ 2 * most + 3 ∨ q.2 ≤ 0) ∧ (q.2 ≤ most → q.2 = stsN (l.take q.1))) ∧ Γ' = []) (fun q => l.length - q.1) (0, 0) (by exact ⟨rfl, rfl, trivial⟩) (Δ0 := _) ?_ (⟨rfl, Nat.zero_le _, ⟨by simp only; omega, by simp only; omega, fun _ => by simp [stsN]⟩, rfl⟩) ?_
  · exact zE
  rintro ⟨i, n⟩ δ _ _ ⟨rfl, hi, ⟨hn0, hn1, hn2⟩, rfl⟩
  dsimp only [ovr, List.foldl]
  have hi : i ≤ l.length := hi
  have hn0 : 0 ≤ n := hn0
  have hn1 : n ≤ 2 * most + 3 ∨ n ≤ 0 := hn1
  have hn2 : n ≤ most → n = stsN (l.take i) := hn2
  by_cases h1 : i < l.length
  · by_cases h2 : n ≤ most
    · obtain ⟨x', hx'⟩ : ∃ x', l[i]? = some x' := ⟨_, List.getElem?_eq_getElem h1⟩
      obtain ⟨g, o, row, rfl, hrx, hrl, hrow⟩ := hl.at hx'
      have hone := hrx.ones
      have e1 := stsN_snoc hx'
      have h2n := hn2 h2
      obtain ⟨ihb, ihe⟩ := ih x' (List.mem_of_getElem? hx')
      obtain ⟨pe, de, pf, df, pb, cb, pe', ce, rfl, -, -, hxe, hxf, hxb, hxl⟩ := hrx.inv12
      have r2 : PRow σ g (o + i * 12 + 2) [i64 x'.e.op, i64 x'.e.v, i64 x'.e.n, .slice pe x'.e.l.length de] := hrow.sub (j := 2) rfl
      have r6 : PRow σ g (o + i * 12 + 6) [i64 x'.f.op, i64 x'.f.v, i64 x'.f.n, .slice pf x'.f.l.length df] := hrow.sub (j := 6) rfl
      have r10 : PRow σ g (o + i * 12 + 10) [.slice pb x'.body.length cb] := hrow.sub (j := 10) rfl
      have r11 : PRow σ g (o + i * 12 + 11) [.slice pe' x'.els.length ce] := hrow.sub (j := 11) rfl
      have e2 : stN x' = 1 + exN x'.e + exN x'.f + stsN x'.body + stsN x'.els := by cases x'; simp [stN, St.e, St.f, St.body, St.els]
      refine zS (zS (zR (yA ?_))); refine yA ?_; refine zO rfl (Rd.lenSlice (tyrow rfl) rfl rfl) ?_; refine zO rfl (Rd.lss rfl rfl) ?_; refine yA ?_
      first | refine gA ?_ | refine zH ?_
      first | refine gA ?_ | refine zH ?_
      first | (refine zG ?_; refine zO rfl (Rd.leq rfl rfl) ?_) | refine zH ?_
      refine zO rfl zP ?_; refine zN (zT (XA.condT rfl zY ?_)); refine XA.skip (zT (zS (XA.block (zS ?_))))
      refine XA.draw (by kernel_rfl) _ _ [19] [(0, .pu), (1, .pu), (2, .pu), (3, .pu), (4, .pu), (5, .rd), (6, .pu), (7, .pu), (8, .pu), (11, .pu), (12, .pu), (13, .pu), (14, .pu), (15, .rd), (16, .pu), (17, .pu), (18, .pu), (9, .wr), (10, .pu), (19, .wr), (20, .pu), (21, .pu), (22, .pu)] (by kernel_rfl) (PH.sub.refl _) (Ent.nil _) ?_
      (iterate 3 (refine zu rfl rfl Rd.mv ?_)); refine zu rfl rfl (Rd.ixS rfl rfl) ?_; refine zu rfl rfl (Rd.fA rfl) ?_; refine XPA.rd rfl rfl Gd.free (Rd.ldA rfl) ?_
      refine zu rfl rfl Rd.mv ?_; refine zu rfl rfl Rd.mv ?_; refine zu rfl rfl (by first | exact Rd.sbi rfl rfl | exact Rd.sub rfl rfl) ?_; refine zu rfl rfl Rd.mv ?_; refine zu rfl rfl Rd.mv ?_; refine zu rfl rfl (Rd.ixS rfl rfl) ?_
      refine zu rfl rfl (Rd.fA rfl) ?_; refine XPA.rd rfl rfl Gd.free (Rd.ldA rfl) ?_; refine zu rfl rfl Rd.mv ?_; refine zu rfl rfl Rd.mv ?_; refine zu rfl rfl (by first | exact Rd.sbi rfl rfl | exact Rd.sub rfl rfl) ?_
      refine XPA.wr0 rfl rfl Gd.free (WrA.cE (exprParts_a σ x'.e _ (most - n) hxe (by omega) (by omega)) rfl) ?_
      rintro _ _ _ ⟨_, ⟨a, rfl, ⟨ha0, ha1, ha2⟩, rfl, rfl⟩, rfl⟩
      refine stays (XPA.cl ?_); refine zu rfl rfl zI ?_
      refine XPA.wrZ0 rfl rfl Gd.free (by kernel_rfl) (WrA.cE (exprParts_a σ x'.f _ (most - n) hxf (by omega) (by omega)) rfl) ?_
      rintro _ _ _ ⟨_, ⟨b, rfl, ⟨hb0, hb1, hb2⟩, rfl, rfl⟩, rfl⟩
      refine XPA.cl ?_; refine zu rfl rfl zI ?_; refine zu rfl rfl zI ?_; refine zu rfl rfl Rd.asg ?_; refine XPA.nil ?_; refine zT (zS (zS (zR (yA ?_)))); refine yA ?_; refine zO rfl (Rd.leq rfl rfl) ?_; refine zN (zT ?_)
      refine XA.join [(5, 5), (43, 53)] (fun q : Int => [(5, i64 q)]) (fun q σ' Γ' => σ = σ' ∧ (0 ≤ q ∧ (q ≤ 2 * most + 3 ∨ q ≤ 0) ∧ (q ≤ most → q = stsN (l.take i) + 1 + exN x'.e + exN x'.f + stsN x'.body)) ∧ Γ' = []) ?_ ?_
      · 
        refine XA.condp rfl (fun h3 => ?_) (fun h3 => ?_)
        · refine zR ?_
          refine yA ?_; refine yA ?_; refine yA ?_; refine zO rfl (Rd.ixS rfl rfl) ?_; refine yV ?_; refine yB ?_; refine yA ?_; refine yA ?_; refine zO rfl (by first | exact Rd.sbi rfl rfl | exact Rd.sub rfl rfl) ?_
          refine zw rfl (WrA.cE (ihb _ (most - (n + (1 + a + b))) hxb (by omega) (by omega)) rfl) ?_
          rintro _ _ _ ⟨_, ⟨c, rfl, ⟨hc0, hc1, hc2⟩, rfl, rfl⟩, rfl⟩
          refine XOA.cl ?_; refine zO rfl zI ?_; refine yS ?_; refine zN (zT ?_)
          have k1 := ha2 (by omega)
          have k2 := hb2 (by omega)
          refine ⟨(Keep.upd (Keep.upd (Keep.updO (Keep.upd (Keep.upd (Keep.upd (Keep.upd (Keep.upd (Keep.upd (Keep.upd (Keep.upd (Keep.upd (Keep.refl _ _) rfl) rfl) rfl) rfl) rfl) rfl) rfl) rfl) rfl) rfl) rfl) rfl), n + (1 + a + b) + c, _, zM, ?_, ⟨rfl, ⟨by omega, by omega, fun h => by have := hc2 (by omega); omega⟩, rfl⟩⟩
          · exact zE
        · refine XA.skip ?_
          refine zT ?_
          refine ⟨(Keep.refl _ _), n + (1 + a + b), _, zM, ?_, ⟨rfl, ⟨by omega, by omega, fun h => absurd h h3⟩, rfl⟩⟩
          · exact zE
      rintro q δ2 _ _ ⟨rfl, ⟨hq0, hq1, hq2⟩, rfl⟩
      dsimp only [ovr, List.foldl]
      refine zT (zS (zR (yA ?_))); refine yA ?_; refine zO rfl (Rd.leq rfl rfl) ?_; refine zN (zT ?_)
      refine XA.join [(5, 5), (57, 67)] (fun q : Int => [(5, i64 q)]) (fun q σ' Γ' => σ = σ' ∧ (0 ≤ q ∧ (q ≤ 2 * most + 3 ∨ q ≤ 0) ∧ (q ≤ most → q = stsN (l.take i) + 1 + exN x'.e + exN x'.f + stsN x'.body + stsN x'.els)) ∧ Γ' = []) ?_ ?_
      · 
        refine XA.condp rfl (fun h3 => ?_) (fun h3 => ?_)
        · have hq3 := hq2 h3
          refine zR (yA ?_); refine yA ?_; refine yA ?_; refine zO rfl (Rd.ixS rfl rfl) ?_; refine yV ?_; refine yB ?_; refine yA ?_; refine yA ?_; refine zO rfl (by first | exact Rd.sbi rfl rfl | exact Rd.sub rfl rfl) ?_
          refine zw rfl (WrA.cE (ihe _ (most - q) hxl (by omega) (by omega)) rfl) ?_
          rintro _ _ _ ⟨_, ⟨c, rfl, ⟨hc0, hc1, hc2⟩, rfl, rfl⟩, rfl⟩
          refine XOA.cl ?_; refine zO rfl zI ?_; refine yS ?_; refine zN (zT ?_)
          refine ⟨(Keep.upd (Keep.upd (Keep.updO (Keep.upd (Keep.upd (Keep.upd (Keep.upd (Keep.upd (Keep.upd (Keep.upd (Keep.upd (Keep.upd (Keep.refl _ _) rfl) rfl) rfl) rfl) rfl) rfl) rfl) rfl) rfl) rfl) rfl) rfl), q + c, _, zM, ?_, ⟨rfl, ⟨by omega, by omega, fun h => by have := hc2 (by omega); omega⟩, rfl⟩⟩
          · exact zE
        · refine XA.skip ?_
          refine zT ?_
          refine ⟨(Keep.refl _ _), q, _, zM, ?_, ⟨rfl, ⟨by omega, by omega, fun h => absurd h h3⟩, rfl⟩⟩
          · exact zE
      rintro q2 δ3 _ _ ⟨rfl, ⟨hs0, hs1, hs2⟩, rfl⟩
      dsimp only [ovr, List.foldl]
      refine DA.inb_normal (zT (zR (yA ?_))); refine zO rfl zI ?_; refine yS ?_; refine zN (zT ?_)
      refine ⟨(Keep.upd (Keep.upd (Keep.upd (Keep.upd (Keep.hav (Keep.hav (Keep.upd (Keep.upd (Keep.upd (Keep.upd (Keep.hav (Keep.hav (Keep.upd (Keep.upd (Keep.upd (Keep.upd (Keep.upd (Keep.upd (Keep.updO (Keep.upd (Keep.updO (Keep.upd (Keep.upd (Keep.upd (Keep.upd (Keep.upd (Keep.upd (Keep.upd (Keep.upd (Keep.upd (Keep.upd (Keep.upd (Keep.upd (Keep.upd (Keep.upd (Keep.upd (Keep.upd (Keep.upd (Keep.upd (Keep.upd (Keep.upd (Keep.upd (Keep.upd (Keep.upd (Keep.upd (Keep.upd (Keep.upd (Keep.upd (Keep.upd (Keep.hav (Keep.refl _ _) rfl) rfl) rfl) rfl) rfl) rfl) rfl) rfl) rfl) rfl) rfl) rfl) rfl) rfl) rfl) rfl) rfl) rfl) rfl) rfl) rfl) rfl) rfl) rfl) rfl) rfl) rfl) rfl) rfl) rfl) rfl) rfl) rfl) rfl) rfl) rfl) rfl) rfl) rfl) rfl) rfl) rfl) rfl) rfl) rfl) rfl) rfl) rfl) rfl) rfl), (i + 1, q2), _, zM, ?_, ⟨rfl, h1, ⟨hs0, hs1, fun h => by simp only at h ⊢; rw [e1]; have := hs2 h; omega⟩, rfl⟩, (by simp only; omega)⟩
      · exact zE
    · 
      refine zS (zS (zR (yA ?_))); refine yA ?_; refine zO rfl (Rd.lenSlice (tyrow rfl) rfl rfl) ?_; refine zO rfl (Rd.lss rfl rfl) ?_; refine yA ?_
      first | refine gA ?_ | refine zH ?_
      first | refine gA ?_ | refine zH ?_
      first | (refine zG ?_; refine zO rfl (Rd.leq rfl rfl) ?_) | refine zH ?_
      refine zO rfl zP ?_; refine zN (zT (XA.condF rfl zY ?_)); refine XA.exit (DA.thn_exit (DA.thn_exit (DA.inb_same (zT (zS (zR (yA ?_))))))); refine yS ?_; refine zN (zT (XA.ret ?_))
      refine bodyA.ret (ResA.one rfl rfl) (Ent.nil _) ⟨n, rfl, ⟨hn0, hn1, fun h => absurd h h2⟩, rfl, rfl⟩
  · 
    have hil : i = l.length := by omega
    subst hil
    rw [List.take_length] at hn2
    refine zS (zS (zR (yA ?_))); refine yA ?_; refine zO rfl (Rd.lenSlice (tyrow rfl) rfl rfl) ?_; refine zO rfl (Rd.lss rfl rfl) ?_; refine yA ?_
    first | refine gA ?_ | refine zH ?_
    first | refine gA ?_ | refine zH ?_
    first | (refine zG ?_; refine zO rfl (Rd.leq rfl rfl) ?_) | refine zH ?_
    refine zO rfl zP ?_; refine zN (zT (XA.condF rfl zY ?_)); refine XA.exit (DA.thn_exit (DA.thn_exit (DA.inb_same (zT (zS (zR (yA ?_))))))); refine yS ?_; refine zN (zT (XA.ret ?_))
    refine bodyA.ret (ResA.one rfl rfl) (Ent.nil _) ⟨n, rfl, ⟨hn0, hn1, fun h => hn2 h⟩, rfl, rfl⟩
theorem stParts_x (σ : PH) (x : St) : StPartsOK σ x.body ∧ StPartsOK σ x.els := by
  refine St.ind (P := fun x => StPartsOK σ x.body ∧ StPartsOK σ x.els) ?_ x
  intro op v e f body els ih jh
  exact ⟨stmtParts_l σ body ih, stmtParts_l σ els jh⟩
theorem stmtParts_a (σ : PH) (l : List St) : StPartsOK σ l := stmtParts_l σ l (fun x _ => stParts_x σ x)
def Small (p : Pr) : Prop := p.vars.length ≤ 30 ∧ (∀ x ∈ p.vars, x.name.size ≤ 100) ∧ stsN p.body ≤ 900
theorem great_a (σ : PH) (cs : List Value) (p : Pr) (hp : PrAt σ cs p) : CallsA Tryz.prog 22 #[.agg cs.toArray] σ [] (RetA fun v σ' Γ' => ∃ b : Bool, v = .bool b ∧ (b = false → Small p) ∧ σ = σ' ∧ Γ' = []) := by
  obtain ⟨vs, bs, rfl, hv, hb⟩ := hp
  obtain ⟨pv, cv, rfl, hvl, hvm⟩ := hv.shape
  have hlen : p.vars.length ≤ maxLen := by omega
  simp only [maxLen] at hlen
  refine enterA1 Tryz.func22 rfl rfl rfl ?_; refine zS (zR ?_); refine zw rfl WrA.bx ?_
  rintro _ _ _ ⟨g1, rfl, rfl, rfl⟩
  refine yS ?_; refine zN (zT (zS (zS (zR (yS ?_))))); refine zN (zT (XA.block ?_))
  refine XA.gen [(1, _), (2, _), (3, _)] ⟨(by with_reducible (conv => lhs; whnf)), (by with_reducible (conv => lhs; whnf)), (by with_reducible (conv => lhs; whnf)), trivial⟩ (fun δ => ?_)
  dsimp only [List.foldl]
  refine XA.loop [(2, 22)] (fun q : Nat => [(3, i64 q)]) (fun q σ' Γ' => σ = σ' ∧ q ≤ p.vars.length ∧ (∀ (j : Nat) x, j < q → p.vars[j]? = some x → x.name.size ≤ 100) ∧ Γ' = [blk g1 [.slice pv p.vars.length cv, bs] 25]) (fun q => p.vars.length - q) 0 (by exact ⟨rfl, trivial⟩) (Δ0 := _) ?_ (⟨rfl, Nat.zero_le _, fun j x h => absurd h (Nat.not_lt_zero _), rfl⟩) ?_
  · exact zE
  rintro i δ _ _ ⟨rfl, hi, hall, rfl⟩
  dsimp only [ovr, List.foldl]
  by_cases h1 : i < p.vars.length
  · by_cases h2 : i < 30
    · obtain ⟨x', hx'⟩ : ∃ x', p.vars[i]? = some x' := ⟨_, List.getElem?_eq_getElem h1⟩
      obtain ⟨g, o, row, rfl, ⟨rfl, hrx, hns⟩, hrl, hrow⟩ := hv.at hx'
      have r0 : PRow σ g (o + i * 2) [.string x'.name] := hrow.sub (j := 0) rfl
      refine zS (zS (zR (yA ?_))); refine yV ?_; refine yB ?_; refine zO rfl (Rd.lenSlice (tyrow rfl) rfl rfl) ?_; refine zO rfl (Rd.lss rfl rfl) ?_; refine yA ?_
      first | refine gA ?_ | refine zH ?_
      first | (refine zG ?_; refine zO rfl (Rd.lss rfl rfl) ?_) | refine zH ?_
      refine zO rfl zP ?_; refine zN (zT (XA.condT rfl zY ?_)); refine XA.skip (zT (zS (XA.block (zS (zR (yV ?_)))))); refine yB ?_; refine yA ?_; refine zO rfl (Rd.ixS rfl rfl) ?_; refine yV ?_; refine yB ?_; refine zO rfl (Rd.lenString (tyrow rfl) rfl rfl) ?_; refine zO rfl (Rd.gtr rfl rfl) ?_
      refine zN (zT ?_); refine XA.condp rfl (fun h3 => ?_) (fun h3 => ?_)
      · refine zS ?_
        refine zR (yS ?_); refine zN (zT (XA.ret (DA.inb_ret (DA.thn_ret (DA.thn_ret (DA.inb_ret (DA.thn_ret ?_)))))))
        refine bodyA.ret (ResA.one rfl rfl) (Ent.nil _) ⟨true, rfl, fun h => (by cases h), rfl, rfl⟩
      have hnew : ∀ (j : Nat) x, j < i + 1 → p.vars[j]? = some x → x.name.size ≤ 100 := fun j x hj hx => by
        rcases Nat.lt_or_ge j i with h | h
        · exact hall j x h hx
        · have : j = i := by omega
          subst this
          rw [hx'] at hx; simp only [Option.some.injEq] at hx; subst hx
          omega
      refine XA.skip (DA.inb_normal (zT (zR (yA ?_)))); refine zO rfl zI ?_; refine yS ?_; refine zN (zT ?_)
      refine ⟨(Keep.upd (Keep.upd (Keep.upd (Keep.upd (Keep.upd (Keep.upd (Keep.upd (Keep.upd (Keep.upd (Keep.upd (Keep.upd (Keep.upd (Keep.upd (Keep.upd (Keep.upd (Keep.upd (Keep.upd (Keep.upd (Keep.upd (Keep.upd (Keep.upd (Keep.hav (Keep.refl _ _) rfl) rfl) rfl) rfl) rfl) rfl) rfl) rfl) rfl) rfl) rfl) rfl) rfl) rfl) rfl) rfl) rfl) rfl) rfl) rfl) rfl) rfl), i + 1, _, zM, ?_, ⟨rfl, h1, hnew, rfl⟩, (by omega)⟩
      · exact zE
    · 
      refine zS (zS (zR (yA ?_))); refine yV ?_; refine yB ?_; refine zO rfl (Rd.lenSlice (tyrow rfl) rfl rfl) ?_; refine zO rfl (Rd.lss rfl rfl) ?_; refine yA ?_
      first | refine gA ?_ | refine zH ?_
      first | (refine zG ?_; refine zO rfl (Rd.lss rfl rfl) ?_) | refine zH ?_
      refine zO rfl zP ?_; refine zN (zT (XA.condF rfl zY ?_)); refine XA.exit (DA.thn_exit (DA.thn_exit (DA.inb_same (zT (zS (zR (yV ?_))))))); refine yB ?_; refine zO rfl (Rd.lenSlice (tyrow rfl) rfl rfl) ?_
      by_cases hbig : 30 < p.vars.length
      · 
        refine zO rfl (Rd.gtr rfl rfl) ?_; refine yA ?_
        first | refine gV ?_ | refine zH ?_
        first | refine gB ?_ | refine zH ?_
        first | refine zH ?_
        first | (refine zG ?_; refine zO rfl (Rd.gtr rfl rfl) ?_) | refine zH ?_
        refine zO rfl zP ?_; refine yS ?_; refine zN (zT (XA.ret ?_))
        exact bodyA.ret (ResA.one rfl rfl) (Ent.nil _) ⟨true, rfl, fun h => (by cases h), rfl, rfl⟩
      · exfalso; omega
  · 
    refine zS (zS (zR (yA ?_))); refine yV ?_; refine yB ?_; refine zO rfl (Rd.lenSlice (tyrow rfl) rfl rfl) ?_; refine zO rfl (Rd.lss rfl rfl) ?_; refine yA ?_
    first | refine gA ?_ | refine zH ?_
    first | (refine zG ?_; refine zO rfl (Rd.lss rfl rfl) ?_) | refine zH ?_
    refine zO rfl zP ?_; refine zN (zT (XA.condF rfl zY ?_)); refine XA.exit (DA.thn_exit (DA.thn_exit (DA.inb_same (zT (zS (zR (yV ?_))))))); refine yB ?_; refine zO rfl (Rd.lenSlice (tyrow rfl) rfl rfl) ?_
    by_cases hbig : 30 < p.vars.length
    · 
      refine zO rfl (Rd.gtr rfl rfl) ?_; refine yA ?_
      first | refine gV ?_ | refine zH ?_
      first | refine gB ?_ | refine zH ?_
      first | refine zH ?_
      first | (refine zG ?_; refine zO rfl (Rd.gtr rfl rfl) ?_) | refine zH ?_
      refine zO rfl zP ?_; refine yS ?_; refine zN (zT (XA.ret ?_))
      exact bodyA.ret (ResA.one rfl rfl) (Ent.nil _) ⟨true, rfl, fun h => (by cases h), rfl, rfl⟩
    · 
      refine zO rfl (Rd.gtr rfl rfl) ?_; refine yA ?_
      first | refine gV ?_ | refine zH ?_
      first | refine gB ?_ | refine zH ?_
      first | refine XOA.wanted rfl rfl ?_ | refine XOA.wq rfl rfl ?_
      refine zw rfl (WrA.cE (stmtParts_a σ p.body _ 900 hb (by decide) (by decide)) rfl) ?_
      rintro _ _ _ ⟨_, ⟨r, rfl, ⟨hr0, hr1, hr2⟩, rfl, rfl⟩, rfl⟩
      refine XOA.cl ?_
      first | (refine zG ?_; refine zO rfl (Rd.gtr rfl rfl) ?_) | refine zH ?_
      refine zO rfl zP ?_; refine yS ?_; refine zN (zT (XA.ret ?_))
      refine bodyA.ret (ResA.one rfl rfl) (Ent.nil _) ⟨decide (900 < r), rfl, fun h => ⟨by omega, fun x hx => ?_, ?_⟩, rfl, rfl⟩
      · obtain ⟨j, hj, e⟩ := List.mem_iff_getElem.1 hx
        exact hall j x (by omega) (by rw [List.getElem?_eq_getElem hj, e])
      · have := hr2 (by simpa using h); have : ¬ 900 < r := of_decide_eq_false h; omega
end Go.Proofs.YtmnmcjdgnpgchaaGreat

namespace Go.Proofs.YtmnmcjdgnpgchaaGreat
open Go X
set_option maxHeartbeats 1000000
end Go.Proofs.YtmnmcjdgnpgchaaGreat

namespace Go.Proofs.YtmnmcjdgnpgchaaGreat
open Go X
set_option maxHeartbeats 1000000
theorem psl_rows {α : Type} {s n c : Nat} {R : RT α} {σ : PH} {p : Option Addr} {xs : List α} (h : PSl s R σ (.slice p n c) xs) : ∃ rows, Rows_ s R σ rows xs ∧ n = xs.length ∧ xs.length ≤ c ∧ c ≤ maxLen ∧ (0 < xs.length → ∃ g o, p = some ⟨g, o, none⟩ ∧ PRow σ g o rows.flatten) := by
  obtain ⟨p', c', rows, h1, h2, h3, h4, h5, h6, h7⟩ := h
  simp only [Value.slice.injEq] at h1
  obtain ⟨rfl, rfl, rfl⟩ := h1
  exact ⟨rows, ⟨h4, h5, h6⟩, rfl, h2, h3, h7⟩
theorem varEq_a (σ : PH) (g : Nat) (v w : Va) : CallsA Tryz.prog 92 #[vav w, ptr g] σ [blk g [.string v.name, i64 v.size] 67] (RetA fun r σ' Γ' => r = .bool (decide (w.name = v.name)) ∧ σ = σ' ∧ Γ' = [blk g [.string v.name, i64 v.size] 67]) := by
  unfold vav
  refine enterA2 Tryz.func92 rfl rfl rfl ?_; refine zS (zR ?_); refine zw rfl WrA.bx ?_
  rintro _ _ _ ⟨g2, rfl, rfl, rfl⟩
  refine yS ?_; refine zN (zT (zS (zR (yV ?_)))); refine yB ?_; refine yV ?_; refine yB ?_; refine zO rfl (Rd.eqls rfl rfl) ?_; refine yS ?_; refine zN (zT (XA.ret ?_))
  exact bodyA.ret (ResA.one rfl rfl) zE ⟨rfl, rfl, rfl⟩
theorem indexVar_a (σ : PH) (g : Nat) (v : Va) (sl : Value) (l : List Va) (hl : PSl 2 rVa σ sl l) : CallsA Tryz.prog 108 #[sl, .func (.func 92) #[] #[ptr g]] σ [blk g [.string v.name, i64 v.size] 67] (RetA fun r σ' Γ' => ∃ k : Int, r = i64 k ∧ (0 ≤ k ↔ ∃ w ∈ l, w.name = v.name) ∧ σ = σ' ∧ Γ' = [blk g [.string v.name, i64 v.size] 67]) := by
  obtain ⟨pl, cl, rfl, hle, hmx⟩ := hl.shape
  have hlen : l.length ≤ maxLen := by omega
  simp only [maxLen] at hlen
  refine enterA2 Tryz.func108 rfl rfl rfl ?_; refine zS (zR (yS ?_)); refine zN (zT (zS (zS (zR (yA ?_))))); refine zO rfl (Rd.lenSlice (tyrow rfl) rfl rfl) ?_; refine yA ?_; refine zN (zT (XA.block ?_))
  refine XA.gen [(0, _), (1, _), (4, _), (7, _), (8, _)] ⟨(by with_reducible (conv => lhs; whnf)), (by with_reducible (conv => lhs; whnf)), (by with_reducible (conv => lhs; whnf)), (by with_reducible (conv => lhs; whnf)), (by with_reducible (conv => lhs; whnf)), trivial⟩ (fun δ => ?_)
  dsimp only [List.foldl]
  refine XA.loop [(4, 5), (8, 18)] (fun k : Nat => [(8, i64 k)]) (fun k σ' Γ' => σ = σ' ∧ k ≤ l.length ∧ (∀ (j : Nat) w, j < k → l[j]? = some w → w.name ≠ v.name) ∧ Γ' = [blk g [.string v.name, i64 v.size] 67]) (fun k => l.length - k) 0 (by exact ⟨rfl, trivial⟩) (Δ0 := _) ?_ (⟨rfl, Nat.zero_le _, fun j w h => absurd h (Nat.not_lt_zero _), rfl⟩) ?_
  · exact zE
  rintro k δ _ _ ⟨rfl, hk, hall, rfl⟩
  dsimp only [ovr, List.foldl]
  refine zS (zR (zO rfl (Rd.lss rfl rfl) ?_)); refine zN (zT (zS ?_)); refine XA.condp rfl (fun hlt => ?_) (fun hlt => ?_)
  · have hlt : k < l.length := by omega
    obtain ⟨x', hx'⟩ : ∃ x', l[k]? = some x' := ⟨_, List.getElem?_eq_getElem hlt⟩
    obtain ⟨gg, o, row, rfl, ⟨rfl, -, -⟩, hrl, hrow⟩ := hl.at hx'
    refine XA.skip (zT (zS (XA.block (zS (zR (yA ?_)))))); refine yS ?_; refine zN (zT (zS (zR (yA ?_)))); refine yA ?_; refine yA ?_; refine zO rfl (Rd.ixS rfl rfl) ?_; refine zO rfl (Rd.ldA rfl) ?_; refine zw rfl (WrA.cV (first := []) (cap := [ptr g]) rfl (varEq_a σ g v x') rfl) ?_
    rintro _ _ _ ⟨_, ⟨rfl, rfl, rfl⟩, rfl⟩
    refine XOA.cl ?_; refine zN (zT ?_); refine XA.condp rfl (fun hc => ?_) (fun hc => ?_)
    · refine zS ?_
      refine zR (yA ?_); refine yS ?_; refine zN (zT (XA.ret (DA.inb_ret (DA.thn_ret (DA.thn_ret (DA.inb_ret (DA.thn_ret ?_)))))))
      exact bodyA.ret (ResA.one rfl rfl) zE ⟨(k : Int), rfl, ⟨fun _ => ⟨x', List.mem_of_getElem? hx', hc⟩, fun _ => by omega⟩, rfl, rfl⟩
    · have hnew : ∀ (j : Nat) w, j < k + 1 → l[j]? = some w → w.name ≠ v.name := fun j w hj hw => by
        rcases Nat.lt_or_ge j k with h | h
        · exact hall j w h hw
        · have : j = k := by omega
          subst this
          rw [hx'] at hw; simp only [Option.some.injEq] at hw; subst hw; exact hc
      refine XA.skip (DA.inb_normal (zT (zR (zO rfl zI ?_)))); refine yA ?_; refine zN (zT ?_)
      refine ⟨(Keep.upd (Keep.upd (Keep.updO (Keep.upd (Keep.upd (Keep.upd (Keep.upd (Keep.upd (Keep.upd (Keep.upd (Keep.upd (Keep.upd (Keep.hav (Keep.hav (Keep.refl _ _) rfl) rfl) rfl) rfl) rfl) rfl) rfl) rfl) rfl) rfl) rfl) rfl) rfl) rfl), k + 1, _, zM, ?_, ⟨rfl, hlt, hnew, rfl⟩, (by omega)⟩
      · exact zE
  have hkn : k = l.length := by omega
  subst hkn
  refine XA.exit (DA.thn_exit (DA.thn_exit (DA.inb_same (zT (zS (zR (yS ?_))))))); refine zN (zT (XA.ret ?_))
  refine bodyA.ret (ResA.one rfl rfl) zE ⟨-1, rfl, ⟨fun h => absurd h (by decide), fun ⟨w, hw, e⟩ => ?_⟩, rfl, rfl⟩
  obtain ⟨j, hj, e2⟩ := List.mem_iff_getElem.1 hw
  exact absurd e (hall j w hj (by rw [List.getElem?_eq_getElem hj, e2]))
theorem containsVar_a (σ : PH) (g : Nat) (v : Va) (sl : Value) (l : List Va) (hl : PSl 2 rVa σ sl l) : CallsA Tryz.prog 91 #[sl, .func (.func 92) #[] #[ptr g]] σ [blk g [.string v.name, i64 v.size] 67] (RetA fun r σ' Γ' => r = .bool (decide (∃ w ∈ l, w.name = v.name)) ∧ σ = σ' ∧ Γ' = [blk g [.string v.name, i64 v.size] 67]) := by
  refine enterA2 Tryz.func91 rfl rfl rfl ?_; refine zS (zR (yS ?_)); refine zN (zT (zS (zR (yA ?_)))); refine yA ?_; refine zw rfl (WrA.cE (indexVar_a σ g v sl l hl) rfl) ?_
  rintro _ _ _ ⟨_, ⟨k, rfl, hk, rfl, rfl⟩, rfl⟩
  refine XOA.cl ?_; refine zO rfl (Rd.geq rfl rfl) ?_; refine yS ?_; refine zN (zT (XA.ret ?_))
  exact bodyA.ret (ResA.one rfl rfl) zE ⟨congrArg Value.bool (decide_eq_decide.2 hk), rfl, rfl⟩
end Go.Proofs.YtmnmcjdgnpgchaaGreat

namespace Go.Proofs.YtmnmcjdgnpgchaaGreat
open Go X
set_option maxHeartbeats 1000000
theorem X.PSl.take {α : Type} {s n c k : Nat} {R : RT α} {σ : PH} {p : Option Addr} {xs : List α} (h : PSl s R σ (.slice p n c) xs) (hk : k ≤ n) : PSl s R σ (.slice p k c) (xs.take k) := by
  obtain ⟨p', c', rows, h1, h2, h3, h4, h5, h6, h7⟩ := h
  simp only [Value.slice.injEq] at h1
  obtain ⟨rfl, rfl, rfl⟩ := h1
  have hl : (xs.take k).length = k := by rw [List.length_take]; exact Nat.min_eq_left hk
  refine ⟨p, c, rows.take k, by rw [hl], by omega, h3, by rw [hl, List.length_take]; omega, fun r hr => h5 r (List.mem_of_mem_take hr), fun i row x a b => ?_, fun hp => ?_⟩
  · rw [List.getElem?_take] at a b
    split at a
    · rename_i hi
      rw [if_pos hi] at b
      exact h6 i row x a b
    · cases a
  · obtain ⟨g, o, e, hr⟩ := h7 (by omega)
    refine ⟨g, o, e, ?_⟩
    have := hr.sub (j := 0) (us := (rows.take k).flatten) (by
      have e : rows.flatten = (rows.take k).flatten ++ (rows.drop k).flatten := by rw [← List.flatten_append, List.take_append_drop]
      rw [List.drop_zero, e]
      exact List.take_left)
    simpa using this
theorem drop_get {α : Type} {l : List α} {k : Nat} {x : α} (h : l[k]? = some x) : l.drop k = x :: l.drop (k + 1) := by
  obtain ⟨h1, h2⟩ := List.getElem?_eq_some_iff.1 h
  rw [List.drop_eq_getElem_cons h1, h2]
theorem vars_a (σ : PH) (sl : Value) (l : List Va) (hl : PSl 2 rVa σ sl l) : CallsA Tryz.prog 69 #[sl] σ [] (RetA fun v σ' Γ' => v = i64 (checkVars l) ∧ σ = σ' ∧ Γ' = []) := by
  obtain ⟨pl, cl, rfl, hle, hmx⟩ := hl.shape
  have hlen : l.length ≤ maxLen := by omega
  simp only [maxLen] at hlen
  refine enterA1 Tryz.func69 rfl rfl rfl ?_; refine zS (zR (yS ?_)); refine zN (zT (zS (zS (zR (yA ?_))))); refine zO rfl (Rd.lenSlice (tyrow rfl) rfl rfl) ?_; refine zO rfl (Rd.gtr rfl rfl) ?_; refine zN (zT ?_); refine XA.condp rfl (fun h8 => ?_) (fun h8 => ?_)
  · refine zS ?_
    refine zR (yS ?_); refine zN (zT (XA.ret (DA.thn_ret ?_)))
    have hr : checkVars l = 3 := by rw [checkVars, if_pos (by omega)]
    exact bodyA.ret (ResA.one rfl rfl) zE ⟨by rw [hr], rfl, rfl⟩
  have hcv : checkVars l = varsGo [] 0 l := by rw [checkVars, if_neg (by omega)]
  rw [hcv]
  refine XA.skip (zT (zS (zR (yS ?_)))); refine zN (zT (zS (zS (zR (yA ?_))))); refine zO rfl (Rd.lenSlice (tyrow rfl) rfl rfl) ?_; refine yA ?_; refine zN (zT (XA.block ?_))
  refine XA.gen [(0, _), (2, _), (3, _), (9, _), (10, _), (11, _)] ⟨(by with_reducible (conv => lhs; whnf)), (by with_reducible (conv => lhs; whnf)), (by with_reducible (conv => lhs; whnf)), (by with_reducible (conv => lhs; whnf)), (by with_reducible (conv => lhs; whnf)), (by with_reducible (conv => lhs; whnf)), trivial⟩ (fun δ => ?_)
  dsimp only [List.foldl]
  refine XA.loop [(2, 5), (11, 42)] (fun q : Nat × Int => [(11, i64 q.1), (3, i64 q.2)]) (fun q σ' Γ' => σ = σ' ∧ q.1 ≤ l.length ∧ (0 ≤ q.2 ∧ q.2 ≤ 48 ∧ varsGo (l.take q.1) q.2 (l.drop q.1) = varsGo [] 0 l) ∧ Γ' = []) (fun q => l.length - q.1) (0, 0) (by exact ⟨rfl, rfl, trivial⟩) (Δ0 := _) ?_ (⟨rfl, Nat.zero_le _, ⟨Int.le_refl _, (by decide), rfl⟩, rfl⟩) ?_
  · exact zE
  rintro ⟨k, n⟩ δ _ _ ⟨rfl, hk, ⟨hn0, hn1, hgo⟩, rfl⟩
  dsimp only [ovr, List.foldl]
  have hk : k ≤ l.length := hk
  have hn0 : 0 ≤ n := hn0
  have hn1 : n ≤ 48 := hn1
  have hgo : varsGo (l.take k) n (l.drop k) = varsGo [] 0 l := hgo
  refine zS (zR (zO rfl (Rd.lss rfl rfl) ?_)); refine zN (zT (zS ?_)); refine XA.condp rfl (fun hlt => ?_) (fun hlt => ?_)
  · have hlt : k < l.length := by omega
    obtain ⟨x, hx⟩ : ∃ x, l[k]? = some x := ⟨_, List.getElem?_eq_getElem hlt⟩
    obtain ⟨gg, o, row, rfl, ⟨rfl, ⟨hz0, hz1⟩, hnm⟩, hrl, hrow⟩ := hl.at hx
    have hpre := hl.take (k := k) hk
    rw [drop_get hx, varsGo] at hgo
    refine XA.skip (zT (zS (XA.block (zS (zR (yA ?_)))))); refine zO rfl (Rd.ixS rfl rfl) ?_; refine zO rfl (Rd.ldA rfl) ?_; refine zw rfl (WrA.alloc (tyrow rfl)) ?_
    rintro _ _ _ ⟨g5, rfl, rfl, rfl⟩
    refine yS ?_; refine zw rfl (WrA.st (tyrow rfl) rfl) ?_
    rintro _ _ _ ⟨rfl, rfl, rfl⟩
    refine zN (zT (zS (XA.block (zS (zR (yV ?_)))))); refine yB ?_; refine yC (name_a σ x.name hnm) ?_
    cases hnk : nameOk x.name with
    | false =>
      rw [if_pos hnk] at hgo
      refine zO rfl zJ ?_; refine yS ?_; refine zN (zT (yT rfl rfl (zS (zR (yS ?_))))); refine zN (zT (XA.ret (DA.inb_ret (DA.thn_ret (DA.inb_ret (DA.thn_ret (DA.thn_ret (DA.inb_ret (DA.thn_ret ?_)))))))))
      exact bodyA.ret (ResA.one rfl rfl) zE ⟨by rw [← hgo], rfl, rfl⟩
    | true =>
      rw [if_neg (by simp [hnk])] at hgo
      refine zO rfl zJ ?_; refine yS ?_; refine zN (zT (yF rfl rfl (zS (zR (yA ?_))))); refine yA ?_; refine zO rfl (Rd.sliceToN (tyrow rfl) rfl (tyrow rfl) rfl rfl (by omega)) ?_
      refine zO rfl (Rd.makeFunc1 (by with_reducible (conv => lhs; whnf))) ?_
      refine yC (containsVar_a σ g5 x _ _ hpre) ?_; refine yS ?_; refine zN (zT ?_); refine XA.condp rfl (fun htw => ?_) (fun htw => ?_)
      · rw [if_pos htw] at hgo
        refine zS (zR (yS ?_)); refine zN (zT (XA.ret (DA.inb_ret (DA.thn_ret (DA.inb_ret (DA.thn_ret (DA.thn_ret (DA.inb_ret (DA.thn_ret ?_)))))))))
        exact bodyA.ret (ResA.one rfl rfl) zE ⟨by rw [← hgo], rfl, rfl⟩
      rw [if_neg htw] at hgo
      by_cases hz : x.size < 1
      · rw [if_pos (.inl hz)] at hgo
        refine zS (zR (yV ?_)); refine yB ?_; refine zO rfl (Rd.lss rfl rfl) ?_; refine yA ?_
        first | refine gV ?_ | refine zH ?_
        first | refine gB ?_ | refine zH ?_
        first | refine gA ?_ | refine zH ?_
        first | (refine zG ?_; refine zO rfl (by first | exact Rd.sbi rfl rfl | exact Rd.sub rfl rfl) ?_) | refine zH ?_
        first | (refine zG ?_; refine zO rfl (Rd.gtr rfl rfl) ?_) | refine zH ?_
        refine zO rfl zP ?_; refine yS ?_; refine zN (zT (yT rfl rfl (zS (zR (yS ?_))))); refine zN (zT (XA.ret (DA.inb_ret (DA.thn_ret (DA.inb_ret (DA.thn_ret (DA.thn_ret (DA.inb_ret (DA.thn_ret ?_)))))))))
        exact bodyA.ret (ResA.one rfl rfl) zE ⟨by rw [← hgo], rfl, rfl⟩
      · 
        refine zS (zR (yV ?_)); refine yB ?_; refine zO rfl (Rd.lss rfl rfl) ?_; refine yA ?_
        first | refine gV ?_ | refine zH ?_
        first | refine gB ?_ | refine zH ?_
        first | refine gA ?_ | refine zH ?_
        first | (refine zG ?_; refine zO rfl (by first | exact Rd.sbi rfl rfl | exact Rd.sub rfl rfl) ?_) | refine zH ?_
        first | (refine zG ?_; refine zO rfl (Rd.gtr rfl rfl) ?_) | refine zH ?_
        refine zO rfl zP ?_; refine yS ?_; refine zN (zT ?_); refine XA.condp rfl (fun hz2 => ?_) (fun hz2 => ?_)
        · rw [if_pos (.inr hz2)] at hgo
          refine zS (zR (yS ?_)); refine zN (zT (XA.ret (DA.inb_ret (DA.thn_ret (DA.inb_ret (DA.thn_ret (DA.thn_ret (DA.inb_ret (DA.thn_ret ?_)))))))))
          exact bodyA.ret (ResA.one rfl rfl) zE ⟨by rw [← hgo], rfl, rfl⟩
        rw [if_neg (by omega)] at hgo
        refine XA.skip (DA.inb_normal (zT (zR (yA ?_)))); refine yV ?_; refine yB ?_; refine zO rfl zI ?_; refine yS ?_; refine zN (DA.inb_normal (zT (zR (zO rfl zI ?_)))); refine yA ?_; refine zN (zT ?_)
        refine ⟨(Keep.upd (Keep.upd (Keep.upd (Keep.upd (Keep.upd (Keep.upd (Keep.upd (Keep.upd (Keep.upd (Keep.upd (Keep.upd (Keep.upd (Keep.upd (Keep.upd (Keep.upd (Keep.upd (Keep.upd (Keep.upd (Keep.upd (Keep.updO (Keep.upd (Keep.upd (Keep.upd (Keep.upd (Keep.upd (Keep.upd (Keep.updO (Keep.upd (Keep.upd (Keep.updN (Keep.upd (Keep.updO (Keep.upd (Keep.upd (Keep.upd (Keep.upd (Keep.upd (Keep.upd (Keep.hav (Keep.hav (Keep.refl _ _) rfl) rfl) rfl) rfl) rfl) rfl) rfl) rfl) rfl) rfl)) rfl) rfl) rfl) rfl) rfl) rfl) rfl) rfl) rfl) rfl) rfl) rfl) rfl) rfl) rfl) rfl) rfl) rfl) rfl) rfl) rfl) rfl) rfl) rfl) rfl) rfl) rfl) rfl) rfl), (k + 1, n + x.size), _, zM, ?_, ⟨rfl, hlt, ⟨by simp only; omega, by simp only; omega, by rw [takeS hx]; exact hgo⟩, rfl⟩, (by simp only; omega)⟩
        · exact zE
  have hkn : k = l.length := by omega
  subst hkn
  rw [List.drop_length, varsGo] at hgo
  refine XA.exit (DA.thn_exit (DA.thn_exit (DA.inb_same (zT (zS (zR (yS ?_))))))); refine zN (zT (XA.ret ?_))
  exact bodyA.ret (ResA.one rfl rfl) zE ⟨by rw [← hgo], rfl, rfl⟩
theorem check_a (σ : PH) (cs : List Value) (p : Pr) (hp : PrAt σ cs p) : CallsA Tryz.prog 40 #[.agg cs.toArray] σ [] (RetA fun v σ' Γ' => v = i64 (checkP p) ∧ σ = σ' ∧ Γ' = []) := by
  obtain ⟨vs, bs, rfl, hv, hb⟩ := hp
  obtain ⟨pv, cv, rfl, hvl, hvm⟩ := hv.shape
  refine enterA1 Tryz.func40 rfl rfl rfl ?_; refine zS (zR ?_); refine zw rfl WrA.bx ?_
  rintro _ _ _ ⟨g1, rfl, rfl, rfl⟩
  refine yS ?_; refine zN (zT (zS (zS (zR (yV ?_))))); refine yB ?_; refine yC (vars_a σ _ _ hv) ?_; refine yS ?_; refine zN (zT (zS (zR (yA ?_)))); refine zO rfl (Rd.neq rfl rfl) ?_; refine zN (zT ?_); refine XA.condp rfl (fun hc => ?_) (fun hc => ?_)
  · refine zS ?_
    refine zR (yA ?_); refine yS ?_; refine zN (zT (XA.ret (DA.thn_ret ?_)))
    exact bodyA.ret (ResA.one rfl rfl) zE ⟨by rw [checkP, if_pos hc], rfl, rfl⟩
  refine XA.skip (zT (zS (zR (yV ?_)))); refine yB ?_; refine zO rfl (Rd.bl (fun _ _ => tyrow) rfl rfl rfl) ?_; refine zw rfl WrA.bx ?_
  rintro _ _ _ ⟨g14, rfl, rfl, rfl⟩
  refine yS ?_; refine zN (zT (zS (zR (yA ?_)))); refine yV ?_; refine yB ?_; refine XOA.ent (Ent.foldC (Θ := [_]) zD (Judge.mkO (l := 150)) (Ent.refl _)) ?_
  refine yC (list_a σ p.body (fun x _ => stmt_a σ x) bs g14 pv p.vars.length cv (.ok 150) 0 hb (fun l hl => by simp only [Except.ok.injEq] at hl; omega) (by decide) (by decide)) ?_
  have hcp : checkP p = (stsE p.vars.length 0 p.body (.ok 150)).code := by rw [checkP, if_neg hc]
  rw [hcp]
  refine zN (zT (zS (zR (yA ?_))))
  cases hst : stsE p.vars.length 0 p.body (.ok 150) with
  | ok a =>
    first | refine XA.opn (R := Judge g14 _ (.ok a)) zL (Judge.okO) ?_ | refine XOA.opn (R := Judge g14 _ (.ok a)) zL (Judge.okO) ?_ | refine DA.opn (R := Judge g14 _ (.ok a)) zL (Judge.okO) ?_
    rintro ⟨⟩ -
    first | refine XA.cl ?_ | refine XOA.cl ?_ | refine DA.cl ?_
    refine zO rfl (Rd.nilCheck rfl) ?_; refine yV ?_; refine yB ?_; refine yS ?_; refine zN (zT (XA.ret ?_))
    exact bodyA.ret (ResA.one rfl rfl) (Ent.nil _) ⟨rfl, rfl, rfl⟩
  | error c =>
    first | refine XA.opn (R := Judge g14 _ (.error c)) zL (Judge.errO) ?_ | refine XOA.opn (R := Judge g14 _ (.error c)) zL (Judge.errO) ?_ | refine DA.opn (R := Judge g14 _ (.error c)) zL (Judge.errO) ?_
    rintro l h0
    first | refine XA.cl ?_ | refine XOA.cl ?_ | refine DA.cl ?_
    refine zO rfl (Rd.nilCheck rfl) ?_; refine yV ?_; refine yB ?_; refine yS ?_; refine zN (zT (XA.ret ?_))
    exact bodyA.ret (ResA.one rfl rfl) (Ent.nil _) ⟨rfl, rfl, rfl⟩
theorem sizes_bound : ∀ (l : List Va), (∀ x ∈ l, 0 ≤ x.size ∧ x.size ≤ 1000) → 0 ≤ sizes l ∧ sizes l ≤ 1000 * l.length
  | [], _ => by simp [sizes]
  | x :: l, h => by
    have h1 := sizes_bound l (fun y hy => h y (by simp [hy]))
    have h2 := h x (by simp)
    rw [sizes_cons, List.length_cons]; omega
theorem cell_a (σ : PH) (cs : List Value) (p : Pr) (v : Int) (hp : PrAt σ cs p) (hz : ∀ x ∈ p.vars, 0 ≤ x.size ∧ x.size ≤ 1000) (hl : p.vars.length ≤ 1000) :
    CallsA Tryz.prog 48 #[.agg cs.toArray, i64 v] σ [] (RetA fun r σ' Γ' => r = i64 (cellOf p.vars v) ∧ σ = σ' ∧ Γ' = []) := by
  obtain ⟨vs, bs, rfl, hv, hb⟩ := hp
  obtain ⟨pv, cv, rfl, hvl, hvm⟩ := hv.shape
  obtain ⟨m, hm⟩ : ∃ m, m = min v.toNat p.vars.length := ⟨_, rfl⟩
  have hmin : (if (p.vars.length : Int) < (if (0 : Int) > v then 0 else v) then (p.vars.length : Int) else (if (0 : Int) > v then 0 else v)) = (m : Int) := by
    subst hm; split <;> split at * <;> omega
  have hcell : cellOf p.vars v = sizes (p.vars.take m) := by
    rw [cellOf, hm, ← List.take_eq_take_min]
  rw [hcell]
  have hml : m ≤ p.vars.length := by omega
  refine enterA2 Tryz.func48 rfl rfl rfl ?_; refine zS (zR ?_); refine zw rfl WrA.bx ?_
  rintro _ _ _ ⟨g2, rfl, rfl, rfl⟩
  refine yS ?_; refine zN (zT (zS (zR (yS ?_)))); refine zN (zT (zS (zS (zR (yA ?_))))); refine zO rfl (Rd.max2 rfl rfl) ?_; refine yV ?_; refine yB ?_; refine zO rfl (Rd.lenSlice (tyrow rfl) rfl rfl) ?_; refine zO rfl (Rd.min2 rfl rfl) ?_; refine yA ?_; refine zN (zT (XA.block ?_))
  rw [hmin]
  refine XA.gen [(2, _), (4, _), (5, _), (12, _), (13, _)] ⟨(by with_reducible (conv => lhs; whnf)), (by with_reducible (conv => lhs; whnf)), (by with_reducible (conv => lhs; whnf)), (by with_reducible (conv => lhs; whnf)), (by with_reducible (conv => lhs; whnf)), trivial⟩ (fun δ => ?_)
  dsimp only [List.foldl]
  refine XA.loop [(5, 6), (13, 24)] (fun q : Nat × Int => [(13, i64 q.1), (5, i64 q.2)]) (fun q σ' Γ' => σ = σ' ∧ q.1 ≤ m ∧ q.2 = sizes (p.vars.take q.1) ∧ Γ' = [blk g2 [.slice pv p.vars.length cv, bs] 25]) (fun q => m - q.1) (0, 0) (by exact ⟨rfl, rfl, trivial⟩) (Δ0 := _) ?_ (⟨rfl, Nat.zero_le _, rfl, rfl⟩) ?_
  · exact zE
  rintro ⟨k, n⟩ δ _ _ ⟨rfl, hk, hn, rfl⟩
  dsimp only [ovr, List.foldl]
  have hk : k ≤ m := hk
  have hn : n = sizes (p.vars.take k) := hn
  have hsb := sizes_bound (p.vars.take k) (fun y hy => hz y (List.mem_of_mem_take hy))
  have hkl : (p.vars.take k).length = k := by rw [List.length_take]; omega
  refine zS (zR (zO rfl (Rd.lss rfl rfl) ?_)); refine zN (zT (zS ?_)); refine XA.condp rfl (fun hlt => ?_) (fun hlt => ?_)
  · have hlt : k < m := by omega
    obtain ⟨x, hx⟩ : ∃ x, p.vars[k]? = some x := ⟨_, List.getElem?_eq_getElem (by omega)⟩
    obtain ⟨gg, o, row, rfl, ⟨rfl, ⟨hz0, hz1⟩, hnm⟩, hrl, hrow⟩ := hv.at hx
    have r1 : PRow σ gg (o + k * 2 + 1) [i64 x.size] := hrow.sub (j := 1) rfl
    have e1 := sizes_take p.vars k x hx
    have hxz := hz x (List.mem_of_getElem? hx)
    refine XA.skip (zT (zS (XA.block (zS (zR (yA ?_)))))); refine yS ?_; refine zN (zT (zR (yA ?_))); refine yV ?_; refine yB ?_; refine yA ?_; refine zO rfl (Rd.ixS rfl rfl) ?_; refine yV ?_; refine yB ?_; refine zO rfl zI ?_; refine yS ?_; refine zN (DA.inb_normal (zT (zR (zO rfl zI ?_))))
    refine yA ?_; refine zN (zT ?_)
    refine ⟨(Keep.upd (Keep.upd (Keep.upd (Keep.upd (Keep.upd (Keep.upd (Keep.upd (Keep.upd (Keep.upd (Keep.upd (Keep.upd (Keep.upd (Keep.upd (Keep.upd (Keep.upd (Keep.upd (Keep.hav (Keep.hav (Keep.refl _ _) rfl) rfl) rfl) rfl) rfl) rfl) rfl) rfl) rfl) rfl) rfl) rfl) rfl) rfl) rfl) rfl) rfl) rfl), (k + 1, n + x.size), _, zM, ?_, ⟨rfl, hlt, by simp only; omega, rfl⟩, (by simp only; omega)⟩
    · exact zE
  have hkm : k = m := by omega
  subst hkm
  refine XA.exit (DA.thn_exit (DA.thn_exit (DA.inb_same (zT (zS (zR (yA ?_))))))); refine yS ?_; refine zN (zT (XA.ret ?_))
  exact bodyA.ret (ResA.one rfl rfl) (Ent.nil _) ⟨by rw [← hn], rfl, rfl⟩
theorem cells_a (σ : PH) (cs : List Value) (p : Pr) (hp : PrAt σ cs p) (hz : ∀ x ∈ p.vars, 0 ≤ x.size ∧ x.size ≤ 1000) (hl : p.vars.length ≤ 1000) :
    CallsA Tryz.prog 26 #[.agg cs.toArray] σ [] (RetA fun r σ' Γ' => r = i64 (sizes p.vars) ∧ σ = σ' ∧ Γ' = []) := by
  have hp0 := hp
  obtain ⟨vs, bs, rfl, hv, hb⟩ := hp
  obtain ⟨pv, cv, rfl, hvl, hvm⟩ := hv.shape
  refine enterA1 Tryz.func26 rfl rfl rfl ?_; refine zS (zR ?_); refine zw rfl WrA.bx ?_
  rintro _ _ _ ⟨g1, rfl, rfl, rfl⟩
  refine yS ?_; refine zN (zT (zS (zR (zO rfl (Rd.ldA rfl) ?_)))); refine yV ?_; refine yB ?_; refine zO rfl (Rd.lenSlice (tyrow rfl) rfl rfl) ?_; refine yC (cell_a σ _ p p.vars.length hp0 hz hl) ?_; refine yS ?_; refine zN (zT (XA.ret ?_))
  exact bodyA.ret (ResA.one rfl rfl) (Ent.nil _) ⟨by rw [cellOf, Int.toNat_natCast, List.take_length], rfl, rfl⟩
end Go.Proofs.YtmnmcjdgnpgchaaGreat

namespace Go.Proofs.YtmnmcjdgnpgchaaGreat
open Go X
set_option maxHeartbeats 1000000
end Go.Proofs.YtmnmcjdgnpgchaaGreat

namespace Go.Proofs.YtmnmcjdgnpgchaaGreat
open Go X
set_option maxHeartbeats 1000000
def insC (l : List In) : List Value := (l.map inC).flatten
theorem insC_snoc (l : List In) (x : In) : insC (l ++ [x]) = insC l ++ inC x := by simp [insC]
theorem insC_app (l m : List In) : insC (l ++ m) = insC l ++ insC m := by simp [insC]
theorem insC_len (l : List In) : (insC l).length = l.length * 4 := by
  induction l with
  | nil => rfl
  | cons x l ih => simp only [insC, List.map_cons, List.flatten_cons, List.length_append, List.length_cons] at ih ⊢; rw [ih]; simp only [inC, List.length_cons, List.length_nil]; omega
theorem put_i (σ : PH) (b : Nat) (vs bs : Value) (p : Option Addr) (c : Nat) (L : List In) (x : In) (hn : L.length ≤ 100000) :
    CallsA Tryz.prog 47 #[ptr b, .agg (inC x).toArray] σ [blk b [vs, bs, .slice p L.length c] 100, lst 103 4 (.slice p L.length c) L.length (insC L)]
      (RetA fun v σ' Γ' => ∃ p' c', v = i64 L.length ∧ σ = σ' ∧ Γ' = [blk b [vs, bs, .slice p' (L ++ [x]).length c'] 100, lst 103 4 (.slice p' (L ++ [x]).length c') (L ++ [x]).length (insC (L ++ [x]))]) := by
  simp only [insC_snoc, List.length_append, List.length_singleton]
  unfold inC
  refine enterA2 Tryz.func47 rfl rfl rfl ?_; refine zS (zR ?_); refine zw rfl WrA.bx ?_
  rintro _ _ _ ⟨g3, rfl, rfl, rfl⟩
  refine yS ?_; refine zN (zT (zS ?_))
  refine XA.draw (by kernel_rfl) _ _ [7, 10] [(0, .pu), (1, .pu), (2, .pu), (3, .pu), (4, .rd), (5, .rd), (6, .wr), (7, .wr), (8, .pu), (9, .pu), (10, .wr)] (by kernel_rfl) (PH.sub.refl _) (Ent.sel (R := blk b _ _) zL (Ent.sel (R := blk g3 _ _) zL (Ent.nil _))) ?_
  refine zu rfl rfl Rd.mv ?_; refine zu rfl rfl Rd.mv ?_; refine zu rfl rfl (Rd.nilCheck rfl) ?_; refine zu rfl rfl (Rd.fA rfl) ?_; refine XPA.rd rfl rfl Gd.free (Rd.ldC rfl (tyrow rfl) rfl) ?_; refine XPA.rd rfl rfl Gd.free (Rd.ldA rfl) ?_
  refine XPA.wr0 rfl rfl Gd.free (WrA.bs1 (tyrow rfl) rfl (tyrow rfl)) ?_
  rintro _ _ _ ⟨g11, rfl, rfl, rfl⟩
  refine stays ?_
  refine XPA.wrZ0 rfl rfl Gd.free (by kernel_rfl) (WrA.ap1 (tyrow rfl) rfl (tyrow rfl) rfl rfl rfl) ?_
  rintro _ _ _ ⟨p12, c12, rfl, rfl, rfl⟩
  refine zu rfl rfl (Rd.nilCheck rfl) ?_; refine zu rfl rfl (Rd.fA rfl) ?_
  refine XPA.wrZ0 rfl rfl Gd.free (by kernel_rfl) (WrA.st (tyrow rfl) rfl) ?_
  rintro _ _ _ ⟨rfl, rfl, rfl⟩
  refine XPA.nil ?_; refine zT (zS (zR (yA ?_))); refine zO rfl (Rd.nilCheck rfl) ?_; refine yV ?_; refine yB ?_; refine zO rfl (Rd.lenSlice (tyrow rfl) rfl rfl) ?_; refine zO rfl (by first | exact Rd.sbi rfl rfl | exact Rd.sub rfl rfl) ?_; refine yS ?_
  refine zN (zT (XA.ret ?_))
  refine bodyA.ret (ResA.one rfl rfl) zE ⟨_, _, by show i64 (((L.length + 1 : Nat) : Int) - 1) = i64 L.length; congr 1; omega, rfl, rfl⟩
theorem cell_i (σ : PH) (b : Nat) (vs bs sl : Value) (pr : Pr) (v : Int) (hp : PrAt σ [vs, bs] pr) (hz : ∀ x ∈ pr.vars, 0 ≤ x.size ∧ x.size ≤ 1000) (hl : pr.vars.length ≤ 1000) :
    CallsA Tryz.prog 99 #[ptr b, i64 v] σ [blk b [vs, bs, sl] 100] (RetA fun r σ' Γ' => r = i64 (cellOf pr.vars v) ∧ σ = σ' ∧ Γ' = [blk b [vs, bs, sl] 100]) := by
  refine enterA2 Tryz.func99 rfl rfl rfl ?_; refine zS (zR (yS ?_)); refine zN (zT (zS (zR (yA ?_)))); refine zO rfl (Rd.nilCheck rfl) ?_; refine yV ?_; refine zO rfl (Rd.ldA rfl) ?_; refine yA ?_; refine yC (cell_a σ [vs, bs] pr v hp hz hl) ?_; refine yS ?_; refine zN (zT (XA.ret ?_))
  exact bodyA.ret (ResA.one rfl rfl) zE ⟨rfl, rfl, rfl⟩
theorem exsN_mem : ∀ {l : List Ex} {x : Ex}, x ∈ l → exN x ≤ exsN l
  | y :: l, x, h => by
    rw [exsN]
    rcases List.mem_cons.1 h with rfl | h
    · omega
    · have := exsN_mem h; omega
def ExprI (σ : PH) (pr : Pr) (x : Ex) : Prop := ∀ (cs : List Value) (b : Nat) (pv : Option Addr) (cv : Nat) (bs : Value) (p : Option Addr) (c : Nat) (L : List In),
  PrAt σ [.slice pv pr.vars.length cv, bs] pr → ExAt σ cs x → ExV pr.vars.length x → L.length + exN x ≤ 100000 →
  CallsA Tryz.prog 98 #[ptr b, .agg cs.toArray] σ [blk b [.slice pv pr.vars.length cv, bs, .slice p L.length c] 100, lst 103 4 (.slice p L.length c) L.length (insC L)]
    (RetA fun v σ' Γ' => ∃ p' c', v = .tuple #[] ∧ σ = σ' ∧ Γ' = [blk b [.slice pv pr.vars.length cv, bs, .slice p' (L ++ exCode pr.vars x).length c'] 100, lst 103 4 (.slice p' (L ++ exCode pr.vars x).length c') (L ++ exCode pr.vars x).length (insC (L ++ exCode pr.vars x))])
theorem expr_i (σ : PH) (pr : Pr) (hz : ∀ x ∈ pr.vars, 0 ≤ x.size ∧ x.size ≤ 1000) (hvl : pr.vars.length ≤ 1000) (x : Ex) : ExprI σ pr x := by
  refine Ex.ind (P := ExprI σ pr) ?_ x
  intro op v k l ih cs b pv cv bs p c L hp hx hV hN
  obtain ⟨pl, cl, rfl, ho, hv, hk, hl⟩ := hx.inv
  simp only [Ex.op, Ex.v, Ex.n, Ex.l] at ho hv hk hl ⊢
  clear hx
  rw [ExV] at hV
  obtain ⟨hop, hlp, hvr, -, hsV⟩ := hV
  rw [exN] at hN
  have hlen : l.length ≤ 100000 := by have := exsN_len l; omega
  refine enterA2 Tryz.func98 rfl rfl rfl ?_; refine zS (zR ?_); refine zw rfl WrA.bx ?_
  rintro _ _ _ ⟨g3, rfl, rfl, rfl⟩
  refine zN (zT (zS (zS (zR (yV ?_))))); refine yB ?_; refine zO rfl (Rd.lenSlice (tyrow rfl) rfl rfl) ?_; refine yA ?_; refine zN (zT (XA.block ?_))
  refine XA.gen [(0, _), (3, _), (8, _), (9, _), (10, _)] ⟨(by with_reducible (conv => lhs; whnf)), (by with_reducible (conv => lhs; whnf)), (by with_reducible (conv => lhs; whnf)), (by with_reducible (conv => lhs; whnf)), (by with_reducible (conv => lhs; whnf)), trivial⟩ (fun δ => ?_)
  dsimp only [List.foldl]
  refine XA.loop [(5, 5), (10, 17)] (fun i : Nat => [(10, i64 i)]) (fun i σ' Γ' => σ = σ' ∧ i ≤ l.length ∧ ∃ (p' : Option Addr) (c' : Nat) (M : List In), M = L ++ exsCode pr.vars (l.take i) ∧ Γ' = [blk b [.slice pv pr.vars.length cv, bs, .slice p' M.length c'] 100, lst 103 4 (.slice p' M.length c') M.length (insC M), blk g3 [i64 op, i64 v, i64 k, .slice pl l.length cl] 93]) (fun i => l.length - i) 0 (by exact ⟨rfl, trivial⟩) (Δ0 := _) ?_ (⟨rfl, Nat.zero_le _, p, c, L, by simp [exsCode], rfl⟩) ?_
  · exact zE
  rintro i δ _ _ ⟨rfl, hi, p', c', M, hM, rfl⟩
  dsimp only [ovr, List.foldl]
  have hMl : M.length + exsN (l.drop i) + 1 ≤ 100000 := by
    have h2 := exsN_app (l.take i) (l.drop i); rw [List.take_append_drop] at h2
    rw [hM, List.length_append, exsCode_len]; omega
  refine zS (zR (zO rfl (Rd.lss rfl rfl) ?_)); refine zN (zT (zS ?_)); refine XA.condp rfl (fun hlt => ?_) (fun hlt => ?_)
  · have hlt : i < l.length := by omega
    obtain ⟨x', hx'⟩ : ∃ x', l[i]? = some x' := ⟨_, List.getElem?_eq_getElem hlt⟩
    obtain ⟨g, o, row, rfl, hrx, hrl, hrow⟩ := hl.at hx'
    have hmem := List.mem_of_getElem? hx'
    have hone := hrx.ones
    have hdx : l.drop i = x' :: l.drop (i + 1) := drop_get hx'
    have hNx : exN x' ≤ exsN (l.drop i) := exsN_mem (by rw [hdx]; simp)
    refine XA.skip (zT (zS (XA.block (zS (zR (zO rfl (Rd.ixS rfl rfl) ?_)))))); refine zO rfl (Rd.ldA rfl) ?_; refine zw rfl (WrA.alloc (tyrow rfl)) ?_
    rintro _ _ _ ⟨g5, rfl, rfl, rfl⟩
    refine zw rfl (WrA.st (tyrow rfl) rfl) ?_
    rintro _ _ _ ⟨rfl, rfl, rfl⟩
    refine zN (zT (zR (yA ?_))); refine zO rfl (Rd.ldA rfl) ?_
    refine zw rfl (WrA.cE (ih x' hmem row b pv cv bs p' c' M hp hrx (hsV.mem x' hmem) (by omega)) rfl) ?_
    rintro _ _ _ ⟨_, ⟨p2, c2, rfl, rfl, rfl⟩, rfl⟩
    refine XOA.cl ?_; refine zN (DA.inb_normal (zT (zR (zO rfl zI ?_)))); refine yA ?_; refine zN (zT ?_)
    refine ⟨(Keep.upd (Keep.upd (Keep.updO (Keep.upd (Keep.upd (Keep.updN (Keep.updO (Keep.upd (Keep.upd (Keep.upd (Keep.upd (Keep.hav (Keep.hav (Keep.refl _ _) rfl) rfl) rfl) rfl) rfl) rfl) rfl)) rfl) rfl) rfl) rfl) rfl), i + 1, _, zM, ?_, ⟨rfl, hlt, p2, c2, M ++ exCode pr.vars x', by rw [hM, exsCode_snoc _ hx', List.append_assoc], rfl⟩, (by omega)⟩
    · exact zE
  have hil : i = l.length := by omega
  subst hil
  rw [List.take_length] at hM
  refine XA.exit (DA.thn_exit (DA.thn_exit (DA.inb_same (zT (zS (zR (yV ?_))))))); refine yB ?_; refine yV ?_; refine yB ?_; refine zO rfl (Rd.bl (fun _ _ => tyrow) rfl rfl rfl) ?_; refine zw rfl (WrA.alloc (tyrow rfl)) ?_
  rintro _ _ _ ⟨g6, rfl, rfl, rfl⟩
  refine zw rfl (WrA.st (tyrow rfl) rfl) ?_
  rintro _ _ _ ⟨rfl, rfl, rfl⟩
  refine zN (zT (zS (zS (zR (yV ?_))))); refine yB ?_; refine zN (zT (XA.block (zS (zR (yE ?_))))); refine yS ?_; refine zN (zT ?_)
  have hMl2 : M.length ≤ 99999 := by omega
  have hfin : L ++ exCode pr.vars (.mk op v k l) = M ++ [opIn pr.vars op v k] := by rw [hM, exCode, List.append_assoc]
  rw [hfin]
  by_cases h2 : op = 2
  · subst h2
    have hop2 : opIn pr.vars 2 v k = ⟨2, cellOf pr.vars v, 0, k⟩ := rfl
    rw [hop2]
    refine yT rfl rfl (zR (yA ?_)); refine yV ?_; refine yB ?_; refine yC (cell_i σ b _ _ _ pr v hp hz hvl) ?_; refine yV ?_; refine zw rfl (WrA.st (tyrow rfl) rfl) ?_
    rintro _ _ _ ⟨rfl, rfl, rfl⟩
    refine zN (DA.inb_normal (zT (zR (yA ?_)))); refine zO rfl (Rd.ldA rfl) ?_
    refine zw rfl (WrA.cE (put_i σ b _ _ _ _ M ⟨2, cellOf pr.vars v, 0, k⟩ (by omega)) rfl) ?_
    rintro _ _ _ ⟨_, ⟨p7, c7, rfl, rfl, rfl⟩, rfl⟩
    refine XOA.cl ?_; refine zN ?_
    exact bodyA.normal (ResA.none rfl) zE ⟨p7, c7, rfl, rfl, rfl⟩
  · by_cases h3 : op = 3
    · subst h3
      obtain ⟨hv0, hv1⟩ := hvr (.inr rfl)
      obtain ⟨vx, hvx⟩ : ∃ vx, pr.vars[v.toNat]? = some vx := ⟨_, List.getElem?_eq_getElem (by omega)⟩
      have hop3 : opIn pr.vars 3 v k = ⟨3, cellOf pr.vars v, vx.size, k⟩ := by rw [opIn, sizeV, hvx]; rfl
      rw [hop3]
      have hp0 := hp
      obtain ⟨vs', bs', heq, hpv, hpb⟩ := hp
      simp only [List.cons.injEq, and_true] at heq
      obtain ⟨rfl, rfl⟩ := heq
      obtain ⟨gg, oo, rowv, rfl, ⟨rfl, ⟨hz0, hz1⟩, hnm⟩, hrl, hrow⟩ := hpv.at hvx
      have r1 : PRow σ gg (oo + v.toNat * 2 + 1) [i64 vx.size] := hrow.sub (j := 1) rfl
      refine XA.condF rfl (by decide) ?_; refine zS (zR (yE ?_)); refine yS ?_; refine zN (zT (yT rfl rfl ?_))
      refine XA.draw (by kernel_rfl) _ _ [17] [(0, .pu), (1, .pu), (2, .rd), (4, .pu), (5, .pu), (6, .pu), (7, .pu), (8, .rd), (9, .pu), (10, .rd), (11, .pu), (12, .pu), (13, .rd), (3, .wr), (14, .pu), (15, .wr), (16, .pu), (17, .wr)] (by kernel_rfl) (PH.sub.refl _) (Ent.sel (R := blk b _ _) zL (Ent.sel (R := blk g3 _ _) zL (Ent.nil _))) ?_
      refine zu rfl rfl Rd.mv ?_; refine zu rfl rfl (Rd.fA rfl) ?_; refine XPA.rd rfl rfl Gd.free (Rd.ldC rfl (tyrow rfl) rfl) ?_; refine zu rfl rfl Rd.mv ?_; refine zu rfl rfl (Rd.nilCheck rfl) ?_; refine zu rfl rfl (Rd.fA rfl) ?_; refine zu rfl rfl (Rd.fA rfl) ?_
      refine XPA.rd rfl rfl Gd.free (Rd.ldC rfl (tyrow rfl) rfl) ?_; refine zu rfl rfl (Rd.fA rfl) ?_; refine XPA.rd rfl rfl Gd.free (Rd.ldC rfl (tyrow rfl) rfl) ?_; refine zu rfl rfl (Rd.ixS rfl rfl) ?_; refine zu rfl rfl (Rd.fA rfl) ?_; refine XPA.rd rfl rfl Gd.free (Rd.ldC rfl (tyrow rfl) rfl) ?_
      refine XPA.wr0 rfl rfl Gd.free (WrA.cE (cell_i σ b _ _ _ pr v hp0 hz hvl) rfl) ?_
      rintro _ _ _ ⟨_, ⟨rfl, rfl, rfl⟩, rfl⟩
      refine stays (XPA.cl ?_); refine zu rfl rfl (Rd.fA rfl) ?_; refine XPA.wr0 rfl rfl Gd.free (WrA.st (tyrow rfl) rfl) ?_
      rintro _ _ _ ⟨rfl, rfl, rfl⟩
      refine stays ?_; refine zu rfl rfl (Rd.fA rfl) ?_
      refine XPA.wrZ0 rfl rfl Gd.free (by kernel_rfl) (WrA.st (tyrow rfl) rfl) ?_
      rintro _ _ _ ⟨rfl, rfl, rfl⟩
      refine XPA.nil ?_; refine DA.inb_normal (zT (zR (yA ?_))); refine zO rfl (Rd.ldA rfl) ?_
      refine zw rfl (WrA.cE (put_i σ b _ _ _ _ M ⟨3, cellOf pr.vars v, vx.size, k⟩ (by omega)) rfl) ?_
      rintro _ _ _ ⟨_, ⟨p7, c7, rfl, rfl, rfl⟩, rfl⟩
      refine XOA.cl ?_; refine zN ?_
      exact bodyA.normal (ResA.none rfl) zE ⟨p7, c7, rfl, rfl, rfl⟩
    · have hop4 : opIn pr.vars op v k = ⟨op, 0, 0, k⟩ := by rw [opIn, if_neg (by omega), if_neg h3]
      rw [hop4]
      refine XA.condF rfl (decide_eq_false h2) (zS (zR (yE ?_))); refine yS ?_; refine zN (zT (XA.condF rfl (decide_eq_false h3) (XA.skip (DA.inb_normal (zT (zR (yA ?_))))))); refine zO rfl (Rd.ldA rfl) ?_
      refine zw rfl (WrA.cE (put_i σ b _ _ _ _ M ⟨op, 0, 0, k⟩ (by omega)) rfl) ?_
      rintro _ _ _ ⟨_, ⟨p7, c7, rfl, rfl, rfl⟩, rfl⟩
      refine XOA.cl ?_; refine zN ?_
      exact bodyA.normal (ResA.none rfl) zE ⟨p7, c7, rfl, rfl, rfl⟩
end Go.Proofs.YtmnmcjdgnpgchaaGreat

namespace Go.Proofs.YtmnmcjdgnpgchaaGreat
open Go X
set_option maxHeartbeats 1000000
theorem lst_openW {e size n c : Nat} {p : Option Addr} {xs : List Value} (hn : 0 < n) : ∀ m, lst e size (.slice p n c) n xs m → ∃ x : Nat × List Value, (p = some ⟨x.1, 0, none⟩ ∧ n ≤ c ∧ c ≤ maxLen ∧ xs.length = n * size ∧ c * size ≤ (xs ++ x.2).length) ∧ Sat [blk x.1 (xs ++ x.2) e] m := by
  rintro m ⟨h1, ⟨h2, rfl⟩ | ⟨g, cap, h2, cur, h3, h4, h5, h6, h7⟩⟩
  · exact absurd hn (Nat.lt_irrefl _)
  · simp only [Value.slice.injEq] at h2
    obtain ⟨rfl, -, rfl⟩ := h2
    refine ⟨(g, cur.drop (n * size)), ⟨rfl, h4, h5, h1, ?_⟩, m, PH.none, ?_, trivial, PH.none_dis m, .refl m, PH.none_sub m⟩
    · rw [← h7, List.take_append_drop]; exact h6
    · rw [← h7, List.take_append_drop]; exact h3
theorem lst_close {e size n c g : Nat} {xs rest : List Value} (hl : xs.length = n * size) (hn : n ≤ c) (hm : c ≤ maxLen) (hc : c * size ≤ (xs ++ rest).length) : ∀ m, Sat [blk g (xs ++ rest) e] m → lst e size (.slice (some ⟨g, 0, none⟩) n c) n xs m := fun m h =>
  ⟨hl, .inr ⟨g, c, rfl, xs ++ rest, of_sat1 blk_mono h, hn, hm, hc, by rw [← hl]; simp⟩⟩
theorem insC_patch (A Z : List In) (x : In) (v : Int) (rest : List Value) : splice (insC (A ++ x :: Z) ++ rest) (A.length * 4 + 1) [i64 v] = insC (A ++ { x with a := v } :: Z) ++ rest := by
  have e1 : insC (A ++ x :: Z) ++ rest = (insC A ++ [i64 x.op]) ++ i64 x.a :: ([i64 x.b, i64 x.n] ++ insC Z ++ rest) := by simp [insC, inC]
  have e2 : insC (A ++ { x with a := v } :: Z) ++ rest = (insC A ++ [i64 x.op]) ++ i64 v :: ([i64 x.b, i64 x.n] ++ insC Z ++ rest) := by simp [insC, inC]
  have e3 : (insC A ++ [i64 x.op]).length = A.length * 4 + 1 := by rw [List.length_append, insC_len]; rfl
  rw [e1, e2, splice, ← e3, List.take_left, List.append_assoc]
  congr 1
  rw [List.length_singleton, List.drop_length_add_append]; rfl
theorem stCode_5 (vs : List Va) (v : Int) (e f : Ex) (body els : List St) (k : Nat) : stCode vs (.mk 5 v e f body els) k = exCode vs e ++ [⟨13, (k + (exCode vs e).length + 1 + (stsCode vs body (k + (exCode vs e).length + 1)).length + 1 : Nat), 0, 0⟩] ++ stsCode vs body (k + (exCode vs e).length + 1) ++ [⟨14, (k : Nat), 0, 0⟩] := by rw [stCode]; rfl
theorem stCode_6 (vs : List Va) (v : Int) (e f : Ex) (body els : List St) (k : Nat) : stCode vs (.mk 6 v e f body els) k = exCode vs e ++ [⟨13, (k + (exCode vs e).length + 1 + (stsCode vs body (k + (exCode vs e).length + 1)).length + 1 : Nat), 0, 0⟩] ++ stsCode vs body (k + (exCode vs e).length + 1) ++ [⟨14, (k + (exCode vs e).length + 1 + (stsCode vs body (k + (exCode vs e).length + 1)).length + 1 + (stsCode vs els (k + (exCode vs e).length + 1 + (stsCode vs body (k + (exCode vs e).length + 1)).length + 1)).length : Nat), 0, 0⟩] ++ stsCode vs els (k + (exCode vs e).length + 1 + (stsCode vs body (k + (exCode vs e).length + 1)).length + 1) := by rw [stCode]; rfl
def StmtI (σ : PH) (pr : Pr) (x : St) : Prop := ∀ (cs : List Value) (b : Nat) (pv : Option Addr) (cv : Nat) (bs : Value) (p : Option Addr) (c : Nat) (L : List In),
  PrAt σ [.slice pv pr.vars.length cv, bs] pr → StAt σ cs x → StV pr.vars.length x → L.length + stN x ≤ 100000 →
  CallsA Tryz.prog 74 #[ptr b, .agg cs.toArray] σ [blk b [.slice pv pr.vars.length cv, bs, .slice p (L).length c] 100, lst 103 4 (.slice p (L).length c) (L).length (insC (L))]
    (RetA fun v σ' Γ' => ∃ p' c', v = .tuple #[] ∧ σ = σ' ∧ Γ' = [blk b [.slice pv pr.vars.length cv, bs, .slice p' (L ++ stCode pr.vars x L.length).length c'] 100, lst 103 4 (.slice p' (L ++ stCode pr.vars x L.length).length c') (L ++ stCode pr.vars x L.length).length (insC (L ++ stCode pr.vars x L.length))])
theorem stsN_mem : ∀ {l : List St} {x : St}, x ∈ l → stN x ≤ stsN l
  | y :: l, x, h => by
    rw [stsN]
    rcases List.mem_cons.1 h with rfl | h
    · omega
    · have := stsN_mem h; omega
theorem list_i (σ : PH) (pr : Pr) (l : List St) (ih : ∀ x ∈ l, StmtI σ pr x) (sl : Value) (b : Nat) (pv : Option Addr) (cv : Nat) (bs : Value) (p : Option Addr) (c : Nat) (L : List In)
    (hp : PrAt σ [.slice pv pr.vars.length cv, bs] pr) (hl : PSl 12 StAt σ sl l) (hsV : StsV pr.vars.length l) (hN : L.length + stsN l ≤ 100000) :
    CallsA Tryz.prog 46 #[ptr b, sl] σ [blk b [.slice pv pr.vars.length cv, bs, .slice p (L).length c] 100, lst 103 4 (.slice p (L).length c) (L).length (insC (L))]
      (RetA fun v σ' Γ' => ∃ p' c', v = .tuple #[] ∧ σ = σ' ∧ Γ' = [blk b [.slice pv pr.vars.length cv, bs, .slice p' (L ++ stsCode pr.vars l L.length).length c'] 100, lst 103 4 (.slice p' (L ++ stsCode pr.vars l L.length).length c') (L ++ stsCode pr.vars l L.length).length (insC (L ++ stsCode pr.vars l L.length))]) := by
  obtain ⟨pl, cl, rfl, hle, hmx⟩ := hl.shape
  have hlen : l.length ≤ 100000 := by have := stsN_len l; omega
  refine enterA2 Tryz.func46 rfl rfl rfl ?_; refine zS (zR (yA ?_)); refine zO rfl (Rd.lenSlice (tyrow rfl) rfl rfl) ?_; refine yA ?_; refine zN (zT (XA.block ?_))
  refine XA.gen [(0, _), (6, _), (7, _), (8, _)] ⟨(by with_reducible (conv => lhs; whnf)), (by with_reducible (conv => lhs; whnf)), (by with_reducible (conv => lhs; whnf)), (by with_reducible (conv => lhs; whnf)), trivial⟩ (fun δ => ?_)
  dsimp only [List.foldl]
  refine XA.loop [(5, 5), (8, 15)] (fun i : Nat => [(8, i64 i)]) (fun i σ' Γ' => σ = σ' ∧ i ≤ l.length ∧ ∃ (p' : Option Addr) (c' : Nat) (M : List In), M = L ++ stsCode pr.vars (l.take i) L.length ∧ Γ' = [blk b [.slice pv pr.vars.length cv, bs, .slice p' (M).length c'] 100, lst 103 4 (.slice p' (M).length c') (M).length (insC (M))]) (fun i => l.length - i) 0 (by exact ⟨rfl, trivial⟩) (Δ0 := _) ?_ (⟨rfl, Nat.zero_le _, p, c, L, by simp [stsCode], rfl⟩) ?_
  · exact zE
  rintro i δ _ _ ⟨rfl, hi, p', c', M, hM, rfl⟩
  dsimp only [ovr, List.foldl]
  have hMl : M.length + stsN (l.drop i) ≤ 100000 := by
    have h2 := stsN_app (l.take i) (l.drop i); rw [List.take_append_drop] at h2
    have h3 := stsCode_len pr.vars (l.take i) L.length
    rw [hM, List.length_append]; omega
  refine zS (zR (zO rfl (Rd.lss rfl rfl) ?_)); refine zN (zT (zS ?_)); refine XA.condp rfl (fun hlt => ?_) (fun hlt => ?_)
  · have hlt : i < l.length := by omega
    obtain ⟨x', hx'⟩ : ∃ x', l[i]? = some x' := ⟨_, List.getElem?_eq_getElem hlt⟩
    obtain ⟨g, o, row, rfl, hrx, hrl, hrow⟩ := hl.at hx'
    have hmem := List.mem_of_getElem? hx'
    have hone := hrx.ones
    have hdx : l.drop i = x' :: l.drop (i + 1) := drop_get hx'
    have hNx : stN x' ≤ stsN (l.drop i) := stsN_mem (by rw [hdx]; simp)
    refine XA.skip (zT (zS (XA.block (zS (zR (zO rfl (Rd.ixS rfl rfl) ?_)))))); refine zO rfl (Rd.ldA rfl) ?_; refine zw rfl (WrA.alloc (tyrow rfl)) ?_
    rintro _ _ _ ⟨g5, rfl, rfl, rfl⟩
    refine zw rfl (WrA.st (tyrow rfl) rfl) ?_
    rintro _ _ _ ⟨rfl, rfl, rfl⟩
    refine zN (zT (zR (yA ?_))); refine zO rfl (Rd.ldA rfl) ?_
    refine zw rfl (WrA.cE (ih x' hmem row b pv cv bs p' c' M hp hrx (hsV.mem x' hmem) (by omega)) rfl) ?_
    rintro _ _ _ ⟨_, ⟨p2, c2, rfl, rfl, rfl⟩, rfl⟩
    refine XOA.cl ?_; refine zN (DA.inb_normal (zT (zR (zO rfl zI ?_)))); refine yA ?_; refine zN (zT ?_)
    refine ⟨(Keep.upd (Keep.upd (Keep.updO (Keep.upd (Keep.upd (Keep.updN (Keep.updO (Keep.upd (Keep.upd (Keep.upd (Keep.upd (Keep.hav (Keep.hav (Keep.refl _ _) rfl) rfl) rfl) rfl) rfl) rfl) rfl)) rfl) rfl) rfl) rfl) rfl), i + 1, _, zM, ?_, ⟨rfl, hlt, p2, c2, M ++ stCode pr.vars x' M.length, by rw [hM, stsCode_snoc _ hx', List.append_assoc, List.length_append], rfl⟩, (by omega)⟩
    · exact zE
  have hil : i = l.length := by omega
  subst hil
  rw [List.take_length] at hM
  rw [← hM]
  refine XA.exit (DA.thn_exit (DA.thn_exit (DA.inb_same ?_)))
  exact bodyA.normal (ResA.none rfl) zE ⟨p', c', rfl, rfl, rfl⟩
theorem stmt_i (σ : PH) (pr : Pr) (hz : ∀ x ∈ pr.vars, 0 ≤ x.size ∧ x.size ≤ 1000) (hvl : pr.vars.length ≤ 1000) (x : St) : StmtI σ pr x := by
  refine St.ind (P := StmtI σ pr) ?_ x
  intro op v ex fx body els ih jh cs b pv cv bs p c L hp hx hV hN
  obtain ⟨pe, de, pf, df, pb, cb, pl, cl, rfl, -, -, hxe, hxf, hxb, hxl⟩ := hx.inv12
  simp only [St.op, St.v, St.e, St.f, St.body, St.els] at hxe hxf hxb hxl ⊢
  clear hx
  rw [StV] at hV
  obtain ⟨hop, hv, he, hf, -, -, hsb, hse⟩ := hV
  rw [stN] at hN
  have hlE := exCode_len pr.vars ex
  have hlF := exCode_len pr.vars fx
  have e1 := exN_pos ex
  have e2 := exN_pos fx
  have hops : op = 1 ∨ op = 2 ∨ op = 3 ∨ op = 4 ∨ op = 7 ∨ op = 5 ∨ op = 6 := by omega
  rcases hops with rfl | rfl | rfl | rfl | rfl | h56
  · have hc : stCode pr.vars (.mk 1 v ex fx body els) L.length = exCode pr.vars ex ++ [⟨9, cellOf pr.vars v, 0, 0⟩] := by rw [stCode]; rfl
    rw [hc, ← List.append_assoc]
    refine enterA2 Tryz.func74 rfl rfl rfl ?_; refine zS (zR ?_); refine zw rfl WrA.bx ?_
    rintro _ _ _ ⟨g3, rfl, rfl, rfl⟩
    refine zN (zT (zS (zR (yA ?_)))); refine zO rfl (Rd.nilCheck rfl) ?_; refine yV ?_; refine yB ?_; refine zO rfl (Rd.lenSlice (tyrow rfl) rfl rfl) ?_; refine yS ?_; refine zN (zT (zS (zS (zR (yV ?_))))); refine yB ?_; refine yC (chas_a σ 1) ?_; refine yA ?_
    (iterate 5 (refine zO rfl (Rd.extract rfl rfl) ?_)); (iterate 5 (refine yS ?_)); refine zN (zT (zS (zR (yA ?_)))); refine zN (zT (yT rfl rfl (zR (yA ?_)))); refine yV ?_; refine zO rfl (Rd.ldA rfl) ?_
    refine zw rfl (WrA.cE (expr_i σ pr hz hvl ex _ b pv cv bs p c (L) hp hxe (he rfl).1 (by first | omega | (simp only [List.length_append, List.length_singleton]; omega))) rfl) ?_
    rintro _ _ _ ⟨_, ⟨p2, c2, rfl, rfl, rfl⟩, rfl⟩
    refine XOA.cl ?_; refine zN (zT (zS (zR (yV ?_)))); refine yB ?_; refine zN (zT (XA.block (zS (zR (yE ?_))))); refine yS ?_; refine zN (zT (yT rfl rfl (zR (yA ?_)))); refine yA ?_; refine yV ?_; refine yB ?_; refine yC (cell_i σ b _ _ _ pr v hp hz hvl) ?_
    refine zO rfl (Rd.bl (fun _ _ => tyrow) rfl rfl rfl) ?_
    refine zw rfl (WrA.cE (put_i σ b _ _ _ _ (L ++ exCode pr.vars ex) ⟨9, cellOf pr.vars v, 0, 0⟩ (by first | omega | (simp only [List.length_append, List.length_singleton]; omega))) rfl) ?_
    rintro _ _ _ ⟨_, ⟨p7, c7, rfl, rfl, rfl⟩, rfl⟩
    refine XOA.cl ?_; refine zN (DA.inb_normal ?_)
    exact bodyA.normal (ResA.none rfl) zE ⟨p7, c7, rfl, rfl, rfl⟩
  · obtain ⟨hv0, hv1⟩ := hv rfl
    obtain ⟨vx, hvx⟩ : ∃ vx, pr.vars[v.toNat]? = some vx := ⟨_, List.getElem?_eq_getElem (by omega)⟩
    have hc : stCode pr.vars (.mk 2 v ex fx body els) L.length = exCode pr.vars ex ++ exCode pr.vars fx ++ [⟨10, cellOf pr.vars v, vx.size, 0⟩] := by rw [stCode, sizeV, hvx]; rfl
    rw [hc, ← List.append_assoc, ← List.append_assoc]
    have hp0 := hp
    obtain ⟨vs', bs', heq, hpv, hpb⟩ := hp0
    simp only [List.cons.injEq, and_true] at heq
    obtain ⟨rfl, rfl⟩ := heq
    obtain ⟨gg, oo, rowv, rfl, ⟨rfl, ⟨hz0, hz1⟩, hnm⟩, hrl, hrow⟩ := hpv.at hvx
    have r1 : PRow σ gg (oo + v.toNat * 2 + 1) [i64 vx.size] := hrow.sub (j := 1) rfl
    refine enterA2 Tryz.func74 rfl rfl rfl ?_; refine zS (zR ?_); refine zw rfl WrA.bx ?_
    rintro _ _ _ ⟨g3, rfl, rfl, rfl⟩
    refine zN (zT (zS (zR (yA ?_)))); refine zO rfl (Rd.nilCheck rfl) ?_; refine yV ?_; refine yB ?_; refine zO rfl (Rd.lenSlice (tyrow rfl) rfl rfl) ?_; refine yS ?_; refine zN (zT (zS (zS (zR (yV ?_))))); refine yB ?_; refine yC (chas_a σ 2) ?_; refine yA ?_
    (iterate 5 (refine zO rfl (Rd.extract rfl rfl) ?_)); (iterate 5 (refine yS ?_)); refine zN (zT (zS (zR (yA ?_)))); refine zN (zT (yT rfl rfl (zR (yA ?_)))); refine yV ?_; refine zO rfl (Rd.ldA rfl) ?_
    refine zw rfl (WrA.cE (expr_i σ pr hz hvl ex _ b _ cv bs p c (L) hp hxe (he rfl).1 (by first | omega | (simp only [List.length_append, List.length_singleton]; omega))) rfl) ?_
    rintro _ _ _ ⟨_, ⟨p2, c2, rfl, rfl, rfl⟩, rfl⟩
    refine XOA.cl ?_; refine zN (zT (zS (zR (yV ?_)))); refine yB ?_; refine zN (zT (XA.block (zS (zR (yE ?_))))); refine yS ?_; refine zN (zT (yF rfl rfl (zS (zR (yE ?_))))); refine yS ?_; refine zN (zT (yT rfl rfl (zS (zR (yA ?_))))); refine yV ?_; refine zO rfl (Rd.ldA rfl) ?_
    refine zw rfl (WrA.cE (expr_i σ pr hz hvl fx _ b _ cv bs p2 c2 (L ++ exCode pr.vars ex) hp hxf (hf rfl).1 (by first | omega | (simp only [List.length_append, List.length_singleton]; omega))) rfl) ?_
    rintro _ _ _ ⟨_, ⟨p3, c3, rfl, rfl, rfl⟩, rfl⟩
    refine XOA.cl ?_; refine zN (zT ?_)
    refine XA.draw (by kernel_rfl) _ _ [16] [(0, .pu), (1, .pu), (2, .pu), (3, .rd), (5, .pu), (6, .pu), (7, .pu), (8, .pu), (9, .rd), (10, .pu), (11, .rd), (12, .pu), (13, .pu), (14, .rd), (4, .wr), (15, .pu), (16, .wr)] (by kernel_rfl) (PH.sub.refl _) (Ent.sel (R := blk b _ _) zL (Ent.sel (R := blk g3 _ _) zL (Ent.nil _))) ?_
    refine zu rfl rfl Rd.mv ?_; refine zu rfl rfl Rd.mv ?_; refine zu rfl rfl (Rd.fA rfl) ?_; refine XPA.rd rfl rfl Gd.free (Rd.ldC rfl (tyrow rfl) rfl) ?_; refine zu rfl rfl Rd.mv ?_; refine zu rfl rfl (Rd.nilCheck rfl) ?_; refine zu rfl rfl (Rd.fA rfl) ?_; refine zu rfl rfl (Rd.fA rfl) ?_
    refine XPA.rd rfl rfl Gd.free (Rd.ldC rfl (tyrow rfl) rfl) ?_; refine zu rfl rfl (Rd.fA rfl) ?_; refine XPA.rd rfl rfl Gd.free (Rd.ldC rfl (tyrow rfl) rfl) ?_; refine zu rfl rfl (Rd.ixS rfl rfl) ?_; refine zu rfl rfl (Rd.fA rfl) ?_; refine XPA.rd rfl rfl Gd.free (Rd.ldC rfl (tyrow rfl) rfl) ?_
    refine XPA.wr0 rfl rfl Gd.free (WrA.cE (cell_i σ b _ _ _ pr v hp hz hvl) rfl) ?_
    rintro _ _ _ ⟨_, ⟨rfl, rfl, rfl⟩, rfl⟩
    refine stays (XPA.cl ?_); refine zu rfl rfl (Rd.bl (fun _ _ => tyrow) rfl rfl rfl) ?_
    refine XPA.wrZ0 rfl rfl Gd.free (by kernel_rfl) (WrA.cE (put_i σ b _ _ _ _ (L ++ exCode pr.vars ex ++ exCode pr.vars fx) ⟨10, cellOf pr.vars v, vx.size, 0⟩ (by first | omega | (simp only [List.length_append, List.length_singleton]; omega))) rfl) ?_
    rintro _ _ _ ⟨_, ⟨p7, c7, rfl, rfl, rfl⟩, rfl⟩
    refine XPA.cl ?_; refine XPA.nil ?_; refine DA.inb_normal ?_
    exact bodyA.normal (ResA.none rfl) zE ⟨p7, c7, rfl, rfl, rfl⟩
  · have hc : stCode pr.vars (.mk 3 v ex fx body els) L.length = exCode pr.vars ex ++ [⟨11, 0, 0, 0⟩] := by rw [stCode]; rfl
    rw [hc, ← List.append_assoc]
    refine enterA2 Tryz.func74 rfl rfl rfl ?_; refine zS (zR ?_); refine zw rfl WrA.bx ?_
    rintro _ _ _ ⟨g3, rfl, rfl, rfl⟩
    refine zN (zT (zS (zR (yA ?_)))); refine zO rfl (Rd.nilCheck rfl) ?_; refine yV ?_; refine yB ?_; refine zO rfl (Rd.lenSlice (tyrow rfl) rfl rfl) ?_; refine yS ?_; refine zN (zT (zS (zS (zR (yV ?_))))); refine yB ?_; refine yC (chas_a σ 3) ?_; refine yA ?_
    (iterate 5 (refine zO rfl (Rd.extract rfl rfl) ?_)); (iterate 5 (refine yS ?_)); refine zN (zT (zS (zR (yA ?_)))); refine zN (zT (yT rfl rfl (zR (yA ?_)))); refine yV ?_; refine zO rfl (Rd.ldA rfl) ?_
    refine zw rfl (WrA.cE (expr_i σ pr hz hvl ex _ b pv cv bs p c (L) hp hxe (he rfl).1 (by first | omega | (simp only [List.length_append, List.length_singleton]; omega))) rfl) ?_
    rintro _ _ _ ⟨_, ⟨p2, c2, rfl, rfl, rfl⟩, rfl⟩
    refine XOA.cl ?_; refine zN (zT (zS (zR (yV ?_)))); refine yB ?_; refine zN (zT (XA.block (zS (zR (yE ?_))))); refine yS ?_; refine zN (zT (yF rfl rfl (zS (zR (yE ?_))))); refine yS ?_; refine zN (zT (yF rfl rfl (zS (zR (yE ?_))))); refine yS ?_; refine zN (zT (yT rfl rfl (zR (yA ?_))))
    refine zO rfl (Rd.bl (fun _ _ => tyrow) rfl rfl rfl) ?_
    refine zw rfl (WrA.cE (put_i σ b _ _ _ _ (L ++ exCode pr.vars ex) ⟨11, 0, 0, 0⟩ (by first | omega | (simp only [List.length_append, List.length_singleton]; omega))) rfl) ?_
    rintro _ _ _ ⟨_, ⟨p7, c7, rfl, rfl, rfl⟩, rfl⟩
    refine XOA.cl ?_; refine zN (DA.inb_normal ?_)
    exact bodyA.normal (ResA.none rfl) zE ⟨p7, c7, rfl, rfl, rfl⟩
  · have hc : stCode pr.vars (.mk 4 v ex fx body els) L.length = [⟨12, cellOf pr.vars v, 0, 0⟩] := by rw [stCode]; rfl
    rw [hc]
    refine enterA2 Tryz.func74 rfl rfl rfl ?_; refine zS (zR ?_); refine zw rfl WrA.bx ?_
    rintro _ _ _ ⟨g3, rfl, rfl, rfl⟩
    refine zN (zT (zS (zR (yA ?_)))); refine zO rfl (Rd.nilCheck rfl) ?_; refine yV ?_; refine yB ?_; refine zO rfl (Rd.lenSlice (tyrow rfl) rfl rfl) ?_; refine yS ?_; refine zN (zT (zS (zS (zR (yV ?_))))); refine yB ?_; refine yC (chas_a σ 4) ?_; refine yA ?_
    (iterate 5 (refine zO rfl (Rd.extract rfl rfl) ?_)); (iterate 5 (refine yS ?_)); refine zN (zT (zS (zR (yA ?_)))); refine zN (zT (yF rfl rfl (XA.skip (zT (zS (zR (yV ?_))))))); refine yB ?_; refine zN (zT (XA.block (zS (zR (yE ?_)))))
    (iterate 3 (refine yS ?_; refine zN (zT (yF rfl rfl (zS (zR (yE ?_))))))); refine yS ?_; refine zN (zT (yT rfl rfl (zR (yA ?_)))); refine yA ?_; refine yV ?_; refine yB ?_; refine yC (cell_i σ b _ _ _ pr v hp hz hvl) ?_; refine zO rfl (Rd.bl (fun _ _ => tyrow) rfl rfl rfl) ?_
    refine zw rfl (WrA.cE (put_i σ b _ _ _ _ (L) ⟨12, cellOf pr.vars v, 0, 0⟩ (by first | omega | (simp only [List.length_append, List.length_singleton]; omega))) rfl) ?_
    rintro _ _ _ ⟨_, ⟨p7, c7, rfl, rfl, rfl⟩, rfl⟩
    refine XOA.cl ?_; refine zN (DA.inb_normal ?_)
    exact bodyA.normal (ResA.none rfl) zE ⟨p7, c7, rfl, rfl, rfl⟩
  · have hc : stCode pr.vars (.mk 7 v ex fx body els) L.length = [⟨15, 0, 0, 0⟩] := by rw [stCode]; rfl
    rw [hc]
    refine enterA2 Tryz.func74 rfl rfl rfl ?_; refine zS (zR ?_); refine zw rfl WrA.bx ?_
    rintro _ _ _ ⟨g3, rfl, rfl, rfl⟩
    refine zN (zT (zS (zR (yA ?_)))); refine zO rfl (Rd.nilCheck rfl) ?_; refine yV ?_; refine yB ?_; refine zO rfl (Rd.lenSlice (tyrow rfl) rfl rfl) ?_; refine yS ?_; refine zN (zT (zS (zS (zR (yV ?_))))); refine yB ?_; refine yC (chas_a σ 7) ?_; refine yA ?_
    (iterate 5 (refine zO rfl (Rd.extract rfl rfl) ?_)); (iterate 5 (refine yS ?_)); refine zN (zT (zS (zR (yA ?_)))); refine zN (zT (yF rfl rfl (XA.skip (zT (zS (zR (yV ?_))))))); refine yB ?_; refine zN (zT (XA.block (zS (zR (yE ?_)))))
    (iterate 3 (refine yS ?_; refine zN (zT (yF rfl rfl (zS (zR (yE ?_))))))); refine yS ?_; refine zN (zT (yF rfl rfl (zS (zS (zR (yE ?_)))))); refine yS ?_; refine zN (zT (yF rfl rfl (zR (yE ?_)))); refine yS ?_; refine zN (zT (yF rfl rfl (zS (zR (yE ?_))))); refine yS ?_
    refine zN (zT (yT rfl rfl (zR (yA ?_)))); refine zO rfl (Rd.bl (fun _ _ => tyrow) rfl rfl rfl) ?_
    refine zw rfl (WrA.cE (put_i σ b _ _ _ _ (L) ⟨15, 0, 0, 0⟩ (by first | omega | (simp only [List.length_append, List.length_singleton]; omega))) rfl) ?_
    rintro _ _ _ ⟨_, ⟨p7, c7, rfl, rfl, rfl⟩, rfl⟩
    refine XOA.cl ?_; refine zN (DA.inb_normal ?_)
    exact bodyA.normal (ResA.none rfl) zE ⟨p7, c7, rfl, rfl, rfl⟩
  · rcases h56 with rfl | rfl
    · obtain ⟨L1, hL1⟩ : ∃ L1, L1 = L ++ exCode pr.vars ex := ⟨_, rfl⟩
      have hL1l : L1.length = L.length + exN ex := by rw [hL1, List.length_append, hlE]
      obtain ⟨B, hB⟩ : ∃ B, B = stsCode pr.vars body (L1 ++ [(⟨13, 0, 0, 0⟩ : In)]).length := ⟨_, rfl⟩
      have hBl : B.length ≤ stsN body := by rw [hB]; exact stsCode_len _ _ _
      have hB2 : stsCode pr.vars body (L.length + (exCode pr.vars ex).length + 1) = B := by rw [hB]; congr 1; rw [List.length_append, hL1l, hlE]; rfl
      obtain ⟨O, hO⟩ : ∃ O, O = L1 ++ [(⟨13, 0, 0, 0⟩ : In)] ++ B := ⟨_, rfl⟩
      have hOl : O.length = L1.length + B.length + 1 := by rw [hO]; simp only [List.length_append, List.length_singleton]; omega
      obtain ⟨M, hM⟩ : ∃ M, M = O ++ [(⟨14, L.length, 0, 0⟩ : In)] := ⟨_, rfl⟩
      have hMl : M.length = L1.length + B.length + 2 := by rw [hM, hO]; simp only [List.length_append, List.length_singleton]; omega
      obtain ⟨M', hM'⟩ : ∃ M', M' = L1 ++ [(⟨13, M.length, 0, 0⟩ : In)] ++ B ++ [⟨14, L.length, 0, 0⟩] := ⟨_, rfl⟩
      have hMl' : M'.length = M.length := by rw [hMl, hM']; simp only [List.length_append, List.length_singleton]; omega
      have hspl0 : ∀ rest : List Value, splice (insC M ++ rest) (L1.length * 4 + 1) [i64 M.length] = insC M' ++ rest := fun rest => by
        have := insC_patch L1 (B ++ [⟨14, L.length, 0, 0⟩]) ⟨13, 0, 0, 0⟩ M.length rest
        rw [hM', hM, hO]; simp only [List.append_assoc, List.singleton_append, List.cons_append, List.nil_append] at this ⊢
        rw [hM, hO] at this; simpa only [List.append_assoc, List.singleton_append, List.cons_append, List.nil_append] using this
      have hc : L ++ stCode pr.vars (.mk 5 v ex fx body els) L.length = M' := by
        rw [stCode_5, hB2, hM', hMl, hL1l, hL1, hlE]
        simp only [List.append_assoc]
        rw [show L.length + exN ex + 1 + B.length + 1 = L.length + exN ex + B.length + 2 by omega]
      rw [hc]
      refine enterA2 Tryz.func74 rfl rfl rfl ?_; refine zS (zR ?_); refine zw rfl WrA.bx ?_
      rintro _ _ _ ⟨g3, rfl, rfl, rfl⟩
      refine zN (zT (zS (zR (yA ?_)))); refine zO rfl (Rd.nilCheck rfl) ?_; refine yV ?_; refine yB ?_; refine zO rfl (Rd.lenSlice (tyrow rfl) rfl rfl) ?_; refine yS ?_; refine zN (zT (zS (zS (zR (yV ?_))))); refine yB ?_; refine yC (chas_a σ 5) ?_; refine yA ?_
      (iterate 5 (refine zO rfl (Rd.extract rfl rfl) ?_)); (iterate 5 (refine yS ?_)); refine zN (zT (zS (zR (yA ?_)))); refine zN (zT (yT rfl rfl (zR (yA ?_)))); refine yV ?_; refine zO rfl (Rd.ldA rfl) ?_
      refine zw rfl (WrA.cE (expr_i σ pr hz hvl ex _ b pv cv bs p c (L) hp hxe (he rfl).1 (by first | omega | (simp only [List.length_append, List.length_singleton]; omega))) rfl) ?_
      rintro _ _ _ ⟨_, ⟨p2, c2, rfl, rfl, rfl⟩, rfl⟩
      refine XOA.cl ?_; refine zN (zT (zS (zR (yV ?_)))); refine yB ?_; refine zN (zT (XA.block (zS (zR (yE ?_))))); refine yS ?_; refine zN (zT ?_)
      rw [← hL1]
      refine yF rfl rfl (zS (zR (yE ?_))); refine yS ?_; refine zN (zT (yF rfl rfl (zS (zR (yE ?_))))); refine yS ?_; refine zN (zT (yF rfl rfl (zS (zR (yE ?_))))); refine yS ?_; refine zN (zT (yF rfl rfl (zS (zS (zR (yE ?_)))))); refine yS ?_
      refine zN (zT (yT rfl rfl (XA.skip (zT (yT rfl rfl (zS (zR (yA ?_)))))))); refine zO rfl (Rd.bl (fun _ _ => tyrow) rfl rfl rfl) ?_
      refine zw rfl (WrA.cE (put_i σ b _ _ _ _ L1 ⟨13, 0, 0, 0⟩ (by omega)) rfl) ?_
      rintro _ _ _ ⟨_, ⟨p3, c3, rfl, rfl, rfl⟩, rfl⟩
      refine XOA.cl ?_; refine yS ?_; refine zN (zT (zS (zR (yA ?_)))); refine yV ?_; refine yB ?_
      refine zw rfl (WrA.cE (list_i σ pr body ih _ b pv cv bs p3 c3 (L1 ++ [⟨13, 0, 0, 0⟩]) hp hxb hsb (by first | omega | (simp only [List.length_append, List.length_singleton]; omega))) rfl) ?_
      rintro _ _ _ ⟨_, ⟨p4, c4, rfl, rfl, rfl⟩, rfl⟩
      refine XOA.cl ?_
      rw [← hB, ← hO]
      refine zN (zT (zS (zR (yA ?_)))); refine yA ?_; refine zO rfl (Rd.bl (fun _ _ => tyrow) rfl rfl rfl) ?_
      refine zw rfl (WrA.cE (put_i σ b _ _ _ _ O ⟨14, L.length, 0, 0⟩ (by omega)) rfl) ?_
      rintro _ _ _ ⟨_, ⟨p5, c5, rfl, rfl, rfl⟩, rfl⟩
      refine XOA.cl ?_
      rw [← hM]
      first | refine XA.opn (R := lst 103 4 (.slice p5 M.length c5) _ _) zL (lst_openW (by omega)) ?_ | refine XOA.opn (R := lst 103 4 (.slice p5 M.length c5) _ _) zL (lst_openW (by omega)) ?_ | refine DA.opn (R := lst 103 4 (.slice p5 M.length c5) _ _) zL (lst_openW (by omega)) ?_
      rintro ⟨g5, rest5⟩ ⟨rfl, hc5, hm5, hx5, hr5⟩
      first | refine XA.cl ?_ | refine XOA.cl ?_ | refine DA.cl ?_
      have hspl := hspl0 rest5
      have hil := insC_len M
      have hil' : (insC M').length = M.length * 4 := by rw [insC_len, hMl']
      have hr5 : c5 * 4 ≤ (insC M ++ rest5).length := hr5
      have hfit : L1.length * 4 + 1 + ty3.size ≤ (insC M ++ rest5).length := by rw [List.length_append, hil]; show L1.length * 4 + 1 + 1 ≤ _; omega
      have hcl : c5 * 4 ≤ (insC M' ++ rest5).length := by rw [List.length_append] at hr5 ⊢; omega
      refine yS ?_; refine zN (zT (zS ?_))
      refine XA.draw (by kernel_rfl) _ _ [12] [(0, .pu), (1, .pu), (2, .pu), (3, .rd), (4, .pu), (5, .pu), (6, .pu), (7, .pu), (8, .rd), (9, .pu), (10, .pu), (11, .pu), (12, .wr)] (by kernel_rfl) (PH.sub.refl _) (Ent.sel (R := blk b _ _) zL (Ent.nil _)) ?_
      refine zu rfl rfl Rd.mv ?_; refine zu rfl rfl (Rd.nilCheck rfl) ?_; refine zu rfl rfl (Rd.fA rfl) ?_; refine XPA.rd rfl rfl Gd.free (Rd.ldC rfl (tyrow rfl) rfl) ?_; refine zu rfl rfl Rd.mv ?_; refine zu rfl rfl Rd.mv ?_; refine zu rfl rfl (Rd.nilCheck rfl) ?_; refine zu rfl rfl (Rd.fA rfl) ?_
      refine XPA.rd rfl rfl Gd.free (Rd.ldC rfl (tyrow rfl) rfl) ?_; refine zu rfl rfl (Rd.lenSlice (tyrow rfl) rfl rfl) ?_; refine zu rfl rfl (Rd.ixS rfl rfl) ?_; refine zu rfl rfl (Rd.fA rfl) ?_
      refine XPA.wrZ0 rfl rfl Gd.free (by kernel_rfl) (WrA.st (tyrow rfl) rfl) ?_
      rintro _ _ _ ⟨rfl, rfl, rfl⟩
      refine XPA.nil ?_; refine zT (zS (zR (yV ?_))); refine yB ?_; refine yE ?_; refine zN (zT (yF rfl rfl (XA.skip (DA.inb_normal ?_)))); refine DA.ent (Ent.foldC (Θ := [blk g5 (insC M' ++ rest5) 103]) zD (lst_close (n := M.length) (c := c5) (rest := rest5) hil' hc5 hm5 hcl) (Ent.refl _)) ?_
      rw [hMl']
      exact bodyA.normal (ResA.none rfl) zE ⟨some ⟨g5, 0, none⟩, c5, rfl, rfl, rfl⟩
    · obtain ⟨L1, hL1⟩ : ∃ L1, L1 = L ++ exCode pr.vars ex := ⟨_, rfl⟩
      have hL1l : L1.length = L.length + exN ex := by rw [hL1, List.length_append, hlE]
      obtain ⟨B, hB⟩ : ∃ B, B = stsCode pr.vars body (L1 ++ [(⟨13, 0, 0, 0⟩ : In)]).length := ⟨_, rfl⟩
      have hBl : B.length ≤ stsN body := by rw [hB]; exact stsCode_len _ _ _
      have hB2 : stsCode pr.vars body (L.length + (exCode pr.vars ex).length + 1) = B := by rw [hB]; congr 1; rw [List.length_append, hL1l, hlE]; rfl
      obtain ⟨O, hO⟩ : ∃ O, O = L1 ++ [(⟨13, 0, 0, 0⟩ : In)] ++ B := ⟨_, rfl⟩
      have hOl : O.length = L1.length + B.length + 1 := by rw [hO]; simp only [List.length_append, List.length_singleton]; omega
      obtain ⟨M, hM⟩ : ∃ M, M = O ++ [(⟨14, L.length, 0, 0⟩ : In)] := ⟨_, rfl⟩
      have hMl : M.length = L1.length + B.length + 2 := by rw [hM, hO]; simp only [List.length_append, List.length_singleton]; omega
      obtain ⟨M', hM'⟩ : ∃ M', M' = L1 ++ [(⟨13, M.length, 0, 0⟩ : In)] ++ B ++ [⟨14, L.length, 0, 0⟩] := ⟨_, rfl⟩
      have hMl' : M'.length = M.length := by rw [hMl, hM']; simp only [List.length_append, List.length_singleton]; omega
      have hspl0 : ∀ rest : List Value, splice (insC M ++ rest) (L1.length * 4 + 1) [i64 M.length] = insC M' ++ rest := fun rest => by
        have := insC_patch L1 (B ++ [⟨14, L.length, 0, 0⟩]) ⟨13, 0, 0, 0⟩ M.length rest
        rw [hM', hM, hO]; simp only [List.append_assoc, List.singleton_append, List.cons_append, List.nil_append] at this ⊢
        rw [hM, hO] at this; simpa only [List.append_assoc, List.singleton_append, List.cons_append, List.nil_append] using this
      obtain ⟨Eb, hEb⟩ : ∃ Eb, Eb = stsCode pr.vars els M.length := ⟨_, rfl⟩
      have hEl : Eb.length ≤ stsN els := by rw [hEb]; exact stsCode_len _ _ _
      obtain ⟨M2, hM2⟩ : ∃ M2, M2 = M' ++ Eb := ⟨_, rfl⟩
      have hM2l : M2.length = M.length + Eb.length := by rw [hM2, List.length_append, hMl']
      obtain ⟨M3, hM3⟩ : ∃ M3, M3 = L1 ++ [(⟨13, M.length, 0, 0⟩ : In)] ++ B ++ [⟨14, M2.length, 0, 0⟩] ++ Eb := ⟨_, rfl⟩
      have hM3l : M3.length = M2.length := by rw [hM2l, hMl, hM3]; simp only [List.length_append, List.length_singleton]; omega
      have hspl6 : ∀ rest : List Value, splice (insC M2 ++ rest) (O.length * 4 + 1) [i64 M2.length] = insC M3 ++ rest := fun rest => by
        have := insC_patch (L1 ++ [(⟨13, M.length, 0, 0⟩ : In)] ++ B) Eb ⟨14, L.length, 0, 0⟩ M2.length rest
        have e : (L1 ++ [(⟨13, M.length, 0, 0⟩ : In)] ++ B).length = O.length := by rw [hOl]; simp only [List.length_append, List.length_singleton]; omega
        rw [e] at this
        rw [hM3]
        have e2 : insC M2 = insC (L1 ++ [(⟨13, M.length, 0, 0⟩ : In)] ++ B ++ ⟨14, L.length, 0, 0⟩ :: Eb) := by rw [hM2, hM']; simp only [List.append_assoc, List.singleton_append, List.cons_append, List.nil_append]
        rw [e2, this]; simp only [List.append_assoc, List.singleton_append, List.cons_append, List.nil_append]
      have hc : L ++ stCode pr.vars (.mk 6 v ex fx body els) L.length = M3 := by
        have e1 : L.length + (exCode pr.vars ex).length + 1 + B.length + 1 = M.length := by rw [hMl, hL1l, hlE]; omega
        rw [stCode_6, hB2, e1, ← hEb, hM3, hL1, hM2l]
        simp only [List.append_assoc]
      rw [hc]
      have hls := fun p c => list_i σ pr els jh (.slice pl els.length cl) b pv cv bs p c M' hp hxl hse (by omega)
      rw [hMl', ← hEb, ← hM2] at hls
      refine enterA2 Tryz.func74 rfl rfl rfl ?_; refine zS (zR ?_); refine zw rfl WrA.bx ?_
      rintro _ _ _ ⟨g3, rfl, rfl, rfl⟩
      refine zN (zT (zS (zR (yA ?_)))); refine zO rfl (Rd.nilCheck rfl) ?_; refine yV ?_; refine yB ?_; refine zO rfl (Rd.lenSlice (tyrow rfl) rfl rfl) ?_; refine yS ?_; refine zN (zT (zS (zS (zR (yV ?_))))); refine yB ?_; refine yC (chas_a σ 6) ?_; refine yA ?_
      (iterate 5 (refine zO rfl (Rd.extract rfl rfl) ?_)); (iterate 5 (refine yS ?_)); refine zN (zT (zS (zR (yA ?_)))); refine zN (zT (yT rfl rfl (zR (yA ?_)))); refine yV ?_; refine zO rfl (Rd.ldA rfl) ?_
      refine zw rfl (WrA.cE (expr_i σ pr hz hvl ex _ b pv cv bs p c (L) hp hxe (he rfl).1 (by first | omega | (simp only [List.length_append, List.length_singleton]; omega))) rfl) ?_
      rintro _ _ _ ⟨_, ⟨p2, c2, rfl, rfl, rfl⟩, rfl⟩
      refine XOA.cl ?_; refine zN (zT (zS (zR (yV ?_)))); refine yB ?_; refine zN (zT (XA.block (zS (zR (yE ?_))))); refine yS ?_; refine zN (zT ?_)
      rw [← hL1]
      refine yF rfl rfl (zS (zR (yE ?_))); refine yS ?_; refine zN (zT (yF rfl rfl (zS (zR (yE ?_))))); refine yS ?_; refine zN (zT (yF rfl rfl (zS (zR (yE ?_))))); refine yS ?_; refine zN (zT (yF rfl rfl (zS (zS (zR (yE ?_)))))); refine yS ?_; refine zN (zT (yF rfl rfl (zR (yE ?_)))); refine yS ?_
      refine zN (zT (yT rfl rfl (zS (zR (yA ?_))))); refine zO rfl (Rd.bl (fun _ _ => tyrow) rfl rfl rfl) ?_
      refine zw rfl (WrA.cE (put_i σ b _ _ _ _ L1 ⟨13, 0, 0, 0⟩ (by omega)) rfl) ?_
      rintro _ _ _ ⟨_, ⟨p3, c3, rfl, rfl, rfl⟩, rfl⟩
      refine XOA.cl ?_; refine yS ?_; refine zN (zT (zS (zR (yA ?_)))); refine yV ?_; refine yB ?_
      refine zw rfl (WrA.cE (list_i σ pr body ih _ b pv cv bs p3 c3 (L1 ++ [⟨13, 0, 0, 0⟩]) hp hxb hsb (by first | omega | (simp only [List.length_append, List.length_singleton]; omega))) rfl) ?_
      rintro _ _ _ ⟨_, ⟨p4, c4, rfl, rfl, rfl⟩, rfl⟩
      refine XOA.cl ?_
      rw [← hB, ← hO]
      refine zN (zT (zS (zR (yA ?_)))); refine yA ?_; refine zO rfl (Rd.bl (fun _ _ => tyrow) rfl rfl rfl) ?_
      refine zw rfl (WrA.cE (put_i σ b _ _ _ _ O ⟨14, L.length, 0, 0⟩ (by omega)) rfl) ?_
      rintro _ _ _ ⟨_, ⟨p5, c5, rfl, rfl, rfl⟩, rfl⟩
      refine XOA.cl ?_
      rw [← hM]
      first | refine XA.opn (R := lst 103 4 (.slice p5 M.length c5) _ _) zL (lst_openW (by omega)) ?_ | refine XOA.opn (R := lst 103 4 (.slice p5 M.length c5) _ _) zL (lst_openW (by omega)) ?_ | refine DA.opn (R := lst 103 4 (.slice p5 M.length c5) _ _) zL (lst_openW (by omega)) ?_
      rintro ⟨g5, rest5⟩ ⟨rfl, hc5, hm5, hx5, hr5⟩
      first | refine XA.cl ?_ | refine XOA.cl ?_ | refine DA.cl ?_
      have hspl := hspl0 rest5
      have hil := insC_len M
      have hil' : (insC M').length = M.length * 4 := by rw [insC_len, hMl']
      have hr5 : c5 * 4 ≤ (insC M ++ rest5).length := hr5
      have hfit : L1.length * 4 + 1 + ty3.size ≤ (insC M ++ rest5).length := by rw [List.length_append, hil]; show L1.length * 4 + 1 + 1 ≤ _; omega
      have hcl : c5 * 4 ≤ (insC M' ++ rest5).length := by rw [List.length_append] at hr5 ⊢; omega
      refine yS ?_; refine zN (zT (zS ?_))
      refine XA.draw (by kernel_rfl) _ _ [12] [(0, .pu), (1, .pu), (2, .pu), (3, .rd), (4, .pu), (5, .pu), (6, .pu), (7, .pu), (8, .rd), (9, .pu), (10, .pu), (11, .pu), (12, .wr)] (by kernel_rfl) (PH.sub.refl _) (Ent.sel (R := blk b _ _) zL (Ent.nil _)) ?_
      refine zu rfl rfl Rd.mv ?_; refine zu rfl rfl (Rd.nilCheck rfl) ?_; refine zu rfl rfl (Rd.fA rfl) ?_; refine XPA.rd rfl rfl Gd.free (Rd.ldC rfl (tyrow rfl) rfl) ?_; refine zu rfl rfl Rd.mv ?_; refine zu rfl rfl Rd.mv ?_; refine zu rfl rfl (Rd.nilCheck rfl) ?_; refine zu rfl rfl (Rd.fA rfl) ?_
      refine XPA.rd rfl rfl Gd.free (Rd.ldC rfl (tyrow rfl) rfl) ?_; refine zu rfl rfl (Rd.lenSlice (tyrow rfl) rfl rfl) ?_; refine zu rfl rfl (Rd.ixS rfl rfl) ?_; refine zu rfl rfl (Rd.fA rfl) ?_
      refine XPA.wrZ0 rfl rfl Gd.free (by kernel_rfl) (WrA.st (tyrow rfl) rfl) ?_
      rintro _ _ _ ⟨rfl, rfl, rfl⟩
      refine XPA.nil ?_; refine zT (zS (zR (yV ?_))); refine yB ?_; refine yE ?_; refine zN (zT (yT rfl rfl (zS (zR (yA ?_))))); refine yV ?_; refine yB ?_
      refine XOA.ent (Ent.foldC (Θ := [blk g5 (insC M' ++ rest5) 103]) zD (lst_close (n := M.length) (c := c5) (rest := rest5) hil' hc5 hm5 hcl) (Ent.refl _)) ?_
      clear hspl hfit
      refine zw rfl (WrA.cE (hls _ _) rfl) ?_
      rintro _ _ _ ⟨_, ⟨p6, c6, rfl, rfl, rfl⟩, rfl⟩
      refine XOA.cl ?_
      first | refine XA.opn (R := lst 103 4 (.slice p6 M2.length c6) _ _) zL (lst_openW (by omega)) ?_ | refine XOA.opn (R := lst 103 4 (.slice p6 M2.length c6) _ _) zL (lst_openW (by omega)) ?_ | refine DA.opn (R := lst 103 4 (.slice p6 M2.length c6) _ _) zL (lst_openW (by omega)) ?_
      rintro ⟨g6, rest6⟩ ⟨rfl, hc6, hm6, hx6, hr6⟩
      first | refine XA.cl ?_ | refine XOA.cl ?_ | refine DA.cl ?_
      have hspl := hspl6 rest6
      have hil2 := insC_len M2
      have hil3 : (insC M3).length = M2.length * 4 := by rw [insC_len, hM3l]
      have hr6 : c6 * 4 ≤ (insC M2 ++ rest6).length := hr6
      have hfit : O.length * 4 + 1 + ty3.size ≤ (insC M2 ++ rest6).length := by rw [List.length_append, hil2]; show O.length * 4 + 1 + 1 ≤ _; omega
      have hcl6 : c6 * 4 ≤ (insC M3 ++ rest6).length := by rw [List.length_append] at hr6 ⊢; omega
      refine zN (zT ?_)
      refine XA.draw (by kernel_rfl) _ _ [12] [(0, .pu), (1, .pu), (2, .pu), (3, .rd), (4, .pu), (5, .pu), (6, .pu), (7, .pu), (8, .rd), (9, .pu), (10, .pu), (11, .pu), (12, .wr)] (by kernel_rfl) (PH.sub.refl _) (Ent.sel (R := blk b _ _) zL (Ent.nil _)) ?_
      refine zu rfl rfl Rd.mv ?_; refine zu rfl rfl (Rd.nilCheck rfl) ?_; refine zu rfl rfl (Rd.fA rfl) ?_; refine XPA.rd rfl rfl Gd.free (Rd.ldC rfl (tyrow rfl) rfl) ?_; refine zu rfl rfl Rd.mv ?_; refine zu rfl rfl Rd.mv ?_; refine zu rfl rfl (Rd.nilCheck rfl) ?_; refine zu rfl rfl (Rd.fA rfl) ?_
      refine XPA.rd rfl rfl Gd.free (Rd.ldC rfl (tyrow rfl) rfl) ?_; refine zu rfl rfl (Rd.lenSlice (tyrow rfl) rfl rfl) ?_; refine zu rfl rfl (Rd.ixS rfl rfl) ?_; refine zu rfl rfl (Rd.fA rfl) ?_
      refine XPA.wrZ0 rfl rfl Gd.free (by kernel_rfl) (WrA.st (tyrow rfl) rfl) ?_
      rintro _ _ _ ⟨rfl, rfl, rfl⟩
      refine XPA.nil ?_; refine DA.inb_normal ?_; refine DA.ent (Ent.foldC (Θ := [blk g6 (insC M3 ++ rest6) 103]) zD (lst_close (n := M2.length) (c := c6) (rest := rest6) hil3 hc6 hm6 hcl6) (Ent.refl _)) ?_
      rw [hM3l]
      exact bodyA.normal (ResA.none rfl) zE ⟨some ⟨g6, 0, none⟩, c6, rfl, rfl, rfl⟩
      
end Go.Proofs.YtmnmcjdgnpgchaaGreat

namespace Go.Proofs.YtmnmcjdgnpgchaaGreat
open Go X
set_option maxHeartbeats 1000000
def rIn : RT In := fun _ cs i => cs = inC i
theorem size_le : ∀ {l : List Va}, (∀ x ∈ l, 1 ≤ x.size) → ∀ x ∈ l, x.size ≤ sizes l
  | y :: l, h, x, hx => by
    have h1 := h y (by simp)
    have h2 := sizes_nonneg (l := l) (fun z hz => h z (by simp [hz]))
    rw [sizes_cons]
    rcases List.mem_cons.1 hx with rfl | hx
    · omega
    · have := size_le (l := l) (fun z hz => h z (by simp [hz])) x hx; omega
theorem check_small {p : Pr} (h : checkP p = 0) : (∀ x ∈ p.vars, 0 ≤ x.size ∧ x.size ≤ 1000) ∧ p.vars.length ≤ 1000 := by
  obtain ⟨-, h1, h2, h3⟩ := check_valid h
  exact ⟨fun x hx => by have a := h2 x hx; have b := size_le h2 x hx; omega, by omega⟩
theorem rows_in (σ : PH) (l : List In) : Rows_ 4 rIn σ (l.map inC) l :=
  ⟨by simp, fun r hr => by obtain ⟨i, -, rfl⟩ := List.mem_map.1 hr; rfl, fun k r x hr hx => by rw [List.getElem?_map, hx] at hr; simpa [rIn] using hr.symm⟩
theorem codeOf_len (p : Pr) : (codeOf p).length ≤ stsN p.body + 1 := by rw [codeOf, List.length_append]; have := stsCode_len p.vars p.body 0; simp; omega
theorem make_a (σ : PH) (cs : List Value) (p : Pr) (hp : PrAt σ cs p) (hN : stsN p.body ≤ 10000) :
    CallsA Tryz.prog 23 #[.agg cs.toArray] σ [] (RetA fun v σ' Γ' => ∃ sl, v = .tuple #[sl, i64 (checkP p)] ∧ PSl 4 rIn σ' sl (if checkP p = 0 then codeOf p else []) ∧ σ.sub σ' ∧ Γ' = []) := by
  have hp0 := hp
  obtain ⟨vs, bs, rfl, hv, hb⟩ := hp
  obtain ⟨pv, cv, rfl, hvl, hvm⟩ := hv.shape
  refine enterA1 Tryz.func23 rfl rfl rfl ?_; refine zS (zR ?_); refine zw rfl WrA.bx ?_
  rintro _ _ _ ⟨g1, rfl, rfl, rfl⟩
  refine yS ?_; refine yS ?_; refine zN (zT (zS (zS (zR (zO rfl (Rd.ldA rfl) ?_))))); refine yC (check_a σ _ p hp0) ?_; refine yS ?_; refine zN (zT (zS (zR (yA ?_)))); refine zO rfl (Rd.neq rfl rfl) ?_; refine zN (zT ?_); refine XA.condp rfl (fun hc => ?_) (fun hc => ?_)
  · refine zS ?_
    refine zR (yA ?_); refine yS ?_; refine yS ?_; refine zN (zT (XA.ret (DA.thn_ret ?_)))
    rw [if_neg hc]
    exact bodyA.ret (ResA.two rfl rfl rfl) (Ent.nil _) ⟨_, rfl, PSl.nil _ _ _, .refl _, rfl⟩
  have hc : checkP p = 0 := by omega
  obtain ⟨hz, hl⟩ := check_small hc
  obtain ⟨hV, -, -, -⟩ := check_valid hc
  refine XA.skip (zT (zS (zR (zO rfl (Rd.ldA rfl) ?_)))); refine zO rfl (Rd.bl (fun _ _ => tyrow) rfl rfl rfl) ?_; refine zw rfl WrA.bx ?_
  rintro _ _ _ ⟨g13, rfl, rfl, rfl⟩
  refine yS ?_; refine zN (zT (zS (zR (yA ?_)))); refine yV ?_; refine yB ?_
  have hls := fun b => list_i σ p p.body (fun x _ => stmt_i σ p hz hl x) bs b pv cv bs none 0 [] hp0 hb hV (by simp only [List.length_nil]; omega)
  simp only [List.nil_append, List.length_nil, show insC [] = [] from rfl] at hls
  refine zw rfl (WrA.cE (hls _) rfl) ?_
  rintro _ _ _ ⟨_, ⟨p7, c7, rfl, rfl, rfl⟩, rfl⟩
  refine XOA.cl ?_
  have hln := stsCode_len p.vars p.body 0
  refine zN (zT (zS (zR (yA ?_)))); refine zO rfl (Rd.bl (fun _ _ => tyrow) rfl rfl rfl) ?_
  refine zw rfl (WrA.cE (put_i σ _ _ _ _ _ (stsCode p.vars p.body 0) ⟨16, 0, 0, 0⟩ (by omega)) rfl) ?_
  rintro _ _ _ ⟨_, ⟨p8, c8, rfl, rfl, rfl⟩, rfl⟩
  refine XOA.cl ?_; refine zN (zT (zS (zR (yA ?_)))); refine zO rfl (Rd.nilCheck rfl) ?_; refine yV ?_; refine yB ?_; refine yS ?_; refine yS ?_; refine zN (zT (XA.ret ?_)); refine DA.frz (R := lst 103 4 _ _ _) zL lst_frz lst_frz_mono ?_
  rintro σ3 ⟨⟩ hf hs3
  rw [if_pos hc, hc]
  exact bodyA.ret (ResA.two rfl rfl rfl) (Ent.nil _) ⟨_, rfl, (rows_in σ3 (codeOf p)).psl rfl hf, hs3, rfl⟩
end Go.Proofs.YtmnmcjdgnpgchaaGreat

namespace Go.Proofs.YtmnmcjdgnpgchaaGreat
open Go X
set_option maxHeartbeats 1000000
def goneC (c : Int) : List PanicEntry := [{ v := .iface 88 (i64 c), recovered := false }]
end Go.Proofs.YtmnmcjdgnpgchaaGreat

namespace Go.Proofs.YtmnmcjdgnpgchaaGreat
open Go X
set_option maxHeartbeats 1000000
end Go.Proofs.YtmnmcjdgnpgchaaGreat

namespace Go.Proofs.YtmnmcjdgnpgchaaGreat
open Go X
set_option maxHeartbeats 1000000
def EndS (σ : PH) (mk : RS → Value → Option Addr → Nat → List HP) (r : RR) : Ending → PH → List HP → Prop := fun e σ' Γ' => match r, e with
  | .ok s', .returned v => v = .tuple #[] ∧ σ = σ' ∧ ∃ vi po co, PInts σ vi s'.inp ∧ Γ' = mk s' vi po co
  | .error (c, s'), .panicked ch => ch = goneC c ∧ σ = σ' ∧ ∃ vi po co, PInts σ vi s'.inp ∧ Γ' = mk s' vi po co
  | _, _ => False
theorem EndS.ok {P : Program} {f : FuncId} {vs : Array Value} {Γ : List HP} {σ : PH} {mk : RS → Value → Option Addr → Nat → List HP} {s' : RS} (h : CallsA P f vs σ Γ (EndS σ mk (.ok s'))) :
    CallsA P f vs σ Γ (RetA fun v σ' Γ' => v = .tuple #[] ∧ σ = σ' ∧ ∃ vi po co, PInts σ vi s'.inp ∧ Γ' = mk s' vi po co) := CallsA.mono h fun e _ _ he => by cases e <;> exact he
structure Less (s s' : RS) : Prop where
  cl : s'.cells.length = s.cells.length
  left : s'.left ≤ s.left
  out : s'.out.length + s'.left ≤ s.out.length + s.left
theorem Less.trans {a b c : RS} (h : Less a b) (k : Less b c) : Less a c := ⟨k.cl.trans h.cl, Nat.le_trans k.left h.left, Nat.le_trans k.out h.out⟩
end Go.Proofs.YtmnmcjdgnpgchaaGreat

namespace Go.Proofs.YtmnmcjdgnpgchaaGreat
open Go X
set_option maxHeartbeats 1000000
end Go.Proofs.YtmnmcjdgnpgchaaGreat

namespace Go.Proofs.YtmnmcjdgnpgchaaGreat
open Go X
set_option maxHeartbeats 2000000
end Go.Proofs.YtmnmcjdgnpgchaaGreat

namespace Go.Proofs.YtmnmcjdgnpgchaaGreat
open Go X
end Go.Proofs.YtmnmcjdgnpgchaaGreat

namespace Go.Proofs.YtmnmcjdgnpgchaaGreat
open Go X
set_option maxHeartbeats 1000000
section
variable {P : Program} {ρ : Env} {h : Heap} {ty : TypeId} {σ : PH} {Γ : List HP}
theorem Wr.makeSlice {T e n m : Nat} {x y : Operand} {kx ky : IntKind} {r re : Ty} (hT : tyOf P T = some r) (hk : r.k = .slice e) (hE : tyOf P e = some re) (hx : ev ρ x = .int kx n) (hy : ev ρ y = .int ky n) (hn : h.size = m) (hz : re.zero.length = re.size) (hb : re.bytes * n ≤ 16777216) (hs : n ≤ 16777216) (h0 : n * re.size ≠ 0) :
    Wr P ρ h (.makeSlice T x y) ty (fun v' h' => v' = .slice (some ⟨m, 0, none⟩) n n ∧ h' = h.push (.cells ((List.range (n * re.size)).map fun k => re.zero.getD (k % re.size) undef).toArray e (0, 0))) X.noP := by
  subst hn
  refine Wr.run fun d pos af gd w hw => ?_
  obtain ⟨dd, i, z, e1, e2, -⟩ := tyOf_spec hT
  obtain ⟨dd', i', z', e1', e2', e3', e4', e5', e6', e7'⟩ := tyOf_spec hE
  rw [hk] at e2
  cases dd <;> simp [kindOf] at e2
  rw [e2] at e1
  clear e2
  have hzs : z'.cells.size = re.size := by rw [← Array.length_toList, e7', hz]
  have hzero : (Array.range (n * re.size)).map (fun k => z'.cells[k % z'.cells.size]!) = ((List.range (n * re.size)).map fun k => re.zero.getD (k % re.size) undef).toArray := by
    apply Array.ext'
    simp only [Array.toList_map, Array.toList_range, hzs]
    apply List.map_congr_left
    intro k hk
    have hlt : k % re.size < re.size := Nat.mod_lt _ (by
      rcases Nat.eq_zero_or_pos re.size with h0 | h0
      · rw [h0, Nat.mul_zero] at hk; simp at hk
      · exact h0)
    rw [← e7']
    have hlt' : k % re.size < z'.cells.size := by rw [hzs]; exact hlt
    simp [getElem!_pos, hlt', List.getD_eq_getElem?_getD]
  have hwn : IntKind.i64.wrap (n : Int) = n := X.wrap64_in (by omega) (by omega)
  have hroom : ¬ (n * re.bytes > roomBytes) := by rw [Nat.mul_comm]; simp only [roomBytes]; omega
  have hbi : ¬ ((re.bytes : Int) * n > 2 ^ 48) := by
    have : ((re.bytes * n : Nat) : Int) ≤ 16777216 := by omega
    rw [Int.natCast_mul] at this
    omega
  refine ⟨_, w.alloc (.cells ((List.range (n * re.size)).map fun k => re.zero.getD (k % re.size) undef).toArray e (0, 0)), ?_, ⟨rfl, rfl, rfl⟩, rfl, by rw [← hw]; rfl⟩
  simp only [execOp, Instr.makeSlice, Sem.run_bind, run_underlying e1, Result.andThen_ok, sizeOf, typeInfo, run_program, e3', e4', e5', Sem.run_pure, zeroValue, e6', hx, hy, asInt, asIntOf, Result.andThen_ok, hwn]
  rw [if_neg (by simp; omega)]
  simp only [askRoom, if_neg hroom, Int.toNat_natCast, Sem.run_bind, Sem.run_pure, Result.andThen_ok, sizeOf, typeInfo, run_program, e3', e4', zeroValue, e6', if_neg h0]
  rw [hzero]
  simp [newRow, hw]
theorem X.WrA.mkS {T e n : Nat} {x y : Operand} {kx ky : IntKind} {r re : Ty} {zs : List Value} (hT : tyOf P T = some r) (hk : r.k = .slice e) (hE : tyOf P e = some re) (hx : ev ρ x = .int kx n) (hy : ev ρ y = .int ky n) (hz : re.zero.length = re.size) (hb : re.bytes * n ≤ 16777216) (hs : n ≤ 16777216) (h0 : n * re.size ≠ 0)
    (hzs : ((List.range (n * re.size)).map fun k => re.zero.getD (k % re.size) undef) = zs) : WrA P ρ σ Γ (.makeSlice T x y) ty (fun v' σ' Γ' => ∃ g, v' = .slice (some ⟨g, 0, none⟩) n n ∧ σ = σ' ∧ Γ' = blk g zs e :: Γ) noPA :=
  Wr.toA (Q := fun h v h' => v = .slice (some ⟨h.size, 0, none⟩) n n ∧ h' = h.push (cellsOf zs e)) (fun _ _ => by subst hzs; exact Wr.makeSlice hT hk hE hx hy rfl hz hb hs h0) fun f h v h' hh ⟨e1, e2⟩ => ⟨σ, _, ⟨h.size, e1, rfl, rfl⟩, e2 ▸ hh.alloc _ _⟩
end
end Go.Proofs.YtmnmcjdgnpgchaaGreat

namespace Go.Proofs.YtmnmcjdgnpgchaaGreat
open Go X
set_option maxHeartbeats 1000000
section
variable {P : Program} {ρ : Env} {h : Heap} {ty : TypeId} {σ : PH} {Γ : List HP}
theorem Wr.makeNone {T e m : Nat} {x y : Operand} {kx ky : IntKind} {r re : Ty} (hT : tyOf P T = some r) (hk : r.k = .slice e) (hE : tyOf P e = some re) (hx : ev ρ x = .int kx 0) (hy : ev ρ y = .int ky 0) (hn : h.size = m) :
    Wr P ρ h (.makeSlice T x y) ty (fun v' h' => v' = .slice (some ⟨m, 0, none⟩) 0 0 ∧ h' = h.push (.cells ([] : List Value).toArray e (0, 0))) X.noP := by
  subst hn
  refine Wr.run fun d pos af gd w hw => ?_
  obtain ⟨dd, i, z, e1, e2, -⟩ := tyOf_spec hT
  obtain ⟨dd', i', z', e1', e2', e3', e4', e5', e6', e7'⟩ := tyOf_spec hE
  rw [hk] at e2
  cases dd <;> simp [kindOf] at e2
  rw [e2] at e1
  clear e2
  have hwn : IntKind.i64.wrap 0 = 0 := rfl
  have hroom : ¬ (0 * re.bytes > roomBytes) := by simp
  refine ⟨_, w.alloc (.cells ([] : List Value).toArray e (0, 0)), ?_, ⟨rfl, rfl, rfl⟩, rfl, by rw [← hw]; rfl⟩
  simp only [execOp, Instr.makeSlice, Sem.run_bind, run_underlying e1, Result.andThen_ok, sizeOf, typeInfo, run_program, e3', e4', e5', Sem.run_pure, zeroValue, e6', hx, hy, asInt, asIntOf, Result.andThen_ok, hwn]
  rw [if_neg (by simp)]
  simp [askRoom, newRow, hw, sizeOf, typeInfo, e3']
  congr 2
  apply Array.ext'
  simp
theorem X.WrA.mkA {T e n : Nat} {x y : Operand} {kx ky : IntKind} {r re : Ty} {zs : List Value} (hT : tyOf P T = some r) (hk : r.k = .slice e) (hE : tyOf P e = some re) (hx : ev ρ x = .int kx n) (hy : ev ρ y = .int ky n) (hz : re.zero.length = re.size) (hs1 : re.size = 1) (hb : re.bytes * n ≤ 16777216) (hs : n ≤ 16777216)
    (hzs : ((List.range (n * re.size)).map fun k => re.zero.getD (k % re.size) undef) = zs) : WrA P ρ σ Γ (.makeSlice T x y) ty (fun v' σ' Γ' => ∃ g, v' = .slice (some ⟨g, 0, none⟩) n n ∧ σ = σ' ∧ Γ' = blk g zs e :: Γ) noPA := by
  cases n with
  | zero =>
    have hz0 : zs = [] := by rw [← hzs]; simp
    subst hz0
    exact Wr.toA (Q := fun h v h' => v = .slice (some ⟨h.size, 0, none⟩) 0 0 ∧ h' = h.push (cellsOf ([] : List Value) e)) (fun _ _ => Wr.makeNone hT hk hE hx hy rfl) fun f h v h' hh ⟨e1, e2⟩ => ⟨σ, _, ⟨h.size, e1, rfl, rfl⟩, e2 ▸ hh.alloc _ _⟩
  | succ n => exact X.WrA.mkS hT hk hE hx hy hz hb hs (by rw [hs1]; omega) hzs
end
theorem zeros_ints (n : Nat) {z : List Value} (hz : z = [i64 0]) : ((List.range (n * 1)).map fun k => z.getD (k % 1) undef) = ints (List.replicate n 0) := by
  subst hz
  rw [ints, Nat.mul_one]
  induction n with
  | zero => rfl
  | succ n ih => rw [List.range_succ, List.map_append, ih, List.replicate_succ']; simp [Nat.mod_one]
section
variable (σ : PH) (g10 g5 g6 g7 gr gc nc : Nat) (v0 v1 vi : Value) (po : Option Addr) (no co fuel left : Nat) (hf : fuel ≤ 3000) (hs : left ≤ fuel) (r0 r1 : List Value) (hr0 : r0.length = 3) (hr1 : r1.length = 1)
include hf hs hr0 hr1
end
end Go.Proofs.YtmnmcjdgnpgchaaGreat

namespace Go.Proofs.YtmnmcjdgnpgchaaGreat
open Go X
section
variable {P : Program} {ρ : Env} {σ : PH} {Γ : List HP}
theorem X.WrA.appP {T e : TypeId} {x y : Operand} {ty : TypeId} {r re : Ty} {n m c c' k : Nat} {p q : Option Addr} {xs news : List Value} {Γ' : List HP} (hT : tyOf P T = some r) (hk : r.k = .slice e) (hE : tyOf P e = some re) (hz : re.zero.length = re.size)
    (hs : ev ρ x = .slice p n c) (s : Sel Γ (lst e re.size (.slice p n c) n xs) Γ') (hy : ev ρ y = .slice q m c') (hf : m ≤ c' ∧ c' ≤ maxLen ∧ news.length = k ∧ (0 < m → ∃ g o, q = some ⟨g, o, none⟩ ∧ PRow σ g o news)) (hl : k = m * re.size) (h1 : ones news) (h63 : n + m ≤ maxLen) (hb : (n + m) * re.bytes ≤ 140737488355328) {n' : Nat} {zs : List Value} (hn' : n' = n + m) (hzs : zs = xs ++ news) :
    WrA P ρ σ Γ (.call { callee := .builtin .append, args := #[x, y], argTypes := #[T, T] }) ty (fun v' σ' Δ => ∃ p c, v' = .slice p n' c ∧ σ = σ' ∧ Δ = lst e re.size (.slice p n' c) n' zs :: Γ') noPA := by
  subst hn' hzs
  obtain ⟨hf1, hf2, hf3, hf4⟩ := hf
  by_cases hm : m = 0
  · subst hm
    have hn0 : news = [] := List.eq_nil_of_length_eq_zero (by rw [hf3, hl]; omega)
    subst hn0
    refine ⟨fun f h hh => ⟨fun d pos af gd a w next Q' he hw hn hp => ?_⟩⟩
    have hc := holds_fact hh s (q := n ≤ c) (fun m hm => (lst_cap m hm).1)
    refine ((Rd.toW (σ := σ) (Γ := Γ) (Rd.appendNone hT hk hE hs hy hc)).out f h hh).out d pos af gd a w next Q' he hw (fun v' w' sm q => ?_) (fun _ _ _ q => by obtain ⟨_, _, q, _⟩ := q; exact q.elim)
    obtain ⟨σ', Γ'', ⟨rfl, rfl, rfl⟩, hh'⟩ := q
    refine hn _ w' sm ⟨σ, _, ⟨p, c, rfl, rfl, rfl⟩, ?_⟩
    rw [Nat.add_zero, List.append_nil]
    exact hh'.ent (Ent.imp s (fun _ h => h) (Ent.refl _))
  · obtain ⟨g, o, rfl, hr⟩ := hf4 (by omega)
    exact WrA.append hT hk hE hz hs s hy (At.per hr) (by rw [hf3, hl]) h1 (by omega) h63 hb
end
end Go.Proofs.YtmnmcjdgnpgchaaGreat

namespace Go.Proofs.YtmnmcjdgnpgchaaGreat
open Go X
set_option maxHeartbeats 1000000
theorem rparts_a (σ : PH) (op : Int) : CallsA Tryz.prog 78 #[i64 op] σ [] (RetA fun v σ' Γ' => v = i64 (partsOf op) ∧ σ = σ' ∧ Γ' = []) := by
  refine enterA1 Tryz.func78 rfl rfl rfl ?_; refine zS (zR (yS ?_)); refine zN (zT (zS (zS (zR (yA ?_))))); refine zN (zT (XA.block (zS (zS (zR ?_)))))
  by_cases h1 : op = 1
  · subst h1
    refine yE ?_; refine yS ?_; refine zN (zT (yT rfl rfl (XA.skip (zT (yT rfl rfl (zS (zR (yS ?_)))))))); refine zN (zT (XA.ret (DA.inb_ret (DA.thn_ret ?_))))
    exact bodyA.ret (ResA.one rfl rfl) (Ent.refl _) ⟨rfl, rfl, rfl⟩
  by_cases h2 : op = 2
  · subst h2
    refine yE ?_; refine yS ?_; refine zN (zT (yF rfl rfl (zR (yE ?_)))); refine yS ?_; refine zN (zT (yT rfl rfl (zS (zR (yS ?_))))); refine zN (zT (XA.ret (DA.inb_ret (DA.thn_ret ?_))))
    exact bodyA.ret (ResA.one rfl rfl) (Ent.refl _) ⟨rfl, rfl, rfl⟩
  by_cases h3 : op = 3
  · subst h3
    refine yE ?_; refine yS ?_; refine zN (zT (yF rfl rfl (zR (yE ?_)))); refine yS ?_; refine zN (zT (yF rfl rfl (zS (zR (yE ?_))))); refine yS ?_; refine zN (zT (yT rfl rfl (zS (zR (yS ?_))))); refine zN (zT (XA.ret (DA.inb_ret (DA.thn_ret ?_))))
    exact bodyA.ret (ResA.one rfl rfl) (Ent.refl _) ⟨rfl, rfl, rfl⟩
  refine yE ?_; refine yS ?_; refine zN (zT (XA.condF rfl zY ?_)); refine zR (yE ?_); refine yS ?_; refine zN (zT (XA.condF rfl zY ?_)); refine zS (zR (yE ?_)); refine yS ?_; refine zN (zT (XA.condF rfl zY ?_)); refine zS (zS (zR (yE ?_))); refine yS ?_; refine zN (zT ?_)
  have hp : partsOf op = if 4 ≤ op ∧ op ≤ 8 then 2 else -1 := by rw [partsOf, if_neg (by omega), if_neg h3]
  by_cases h4 : op = 4
  · subst h4
    refine yT rfl rfl (XA.skip (zT (yT rfl rfl (zS (zR (yS ?_)))))); refine zN (zT (XA.ret (DA.inb_ret (DA.thn_ret ?_))))
    exact bodyA.ret (ResA.one rfl rfl) (Ent.refl _) ⟨rfl, rfl, rfl⟩
  by_cases h5 : op = 5
  · subst h5
    refine yF rfl rfl (zS (zR (yE ?_))); refine yS ?_; refine zN (zT (yT rfl rfl (XA.skip (zT (yT rfl rfl (zS (zR (yS ?_)))))))); refine zN (zT (XA.ret (DA.inb_ret (DA.thn_ret ?_))))
    exact bodyA.ret (ResA.one rfl rfl) (Ent.refl _) ⟨rfl, rfl, rfl⟩
  by_cases h6 : op = 6
  · subst h6
    refine yF rfl rfl (zS (zR (yE ?_))); refine yS ?_; refine zN (zT (yF rfl rfl (zS (zR (yE ?_))))); refine yS ?_; refine zN (zT (yT rfl rfl (XA.skip (zT (yT rfl rfl (zS (zR (yS ?_)))))))); refine zN (zT (XA.ret (DA.inb_ret (DA.thn_ret ?_))))
    exact bodyA.ret (ResA.one rfl rfl) (Ent.refl _) ⟨rfl, rfl, rfl⟩
  by_cases h7 : op = 7
  · subst h7
    refine yF rfl rfl (zS (zR (yE ?_))); refine yS ?_; refine zN (zT (yF rfl rfl (zS (zR (yE ?_))))); refine yS ?_; refine zN (zT (yF rfl rfl (zS (zR (yE ?_))))); refine yS ?_; refine zN (zT (yT rfl rfl (XA.skip (zT (yT rfl rfl (zS (zR (yS ?_)))))))); refine zN (zT (XA.ret (DA.inb_ret (DA.thn_ret ?_))))
    exact bodyA.ret (ResA.one rfl rfl) (Ent.refl _) ⟨rfl, rfl, rfl⟩
  refine XA.condF rfl zY ?_; (iterate 3 (refine zS (zR (yE ?_)); refine yS ?_; refine zN (zT (XA.condF rfl zY ?_)))); refine zR (yE ?_); refine yS ?_; refine zN (zT ?_); refine XA.condp rfl (fun h8 => ?_) (fun h8 => ?_)
  · subst h8
    refine zS (zR (yS ?_)); refine zN (zT (XA.ret (DA.inb_ret (DA.thn_ret ?_))))
    exact bodyA.ret (ResA.one rfl rfl) (Ent.refl _) ⟨rfl, rfl, rfl⟩
  rw [hp, if_neg (by omega)]
  refine XA.skip (DA.inb_normal (zT (zS (zR (yS ?_))))); refine zN (zT (XA.ret ?_))
  exact bodyA.ret (ResA.one rfl rfl) (Ent.refl _) ⟨rfl, rfl, rfl⟩
def needs (op : Int) : ByteArray := if op = 1 then ⟨#[101, 118]⟩ else if op = 2 then ⟨#[101, 102, 118]⟩ else if op = 3 then ⟨#[101]⟩ else if op = 4 then ⟨#[118]⟩ else if op = 5 then ⟨#[101, 98]⟩ else if op = 6 then ⟨#[101, 98, 111]⟩ else ⟨#[]⟩
theorem rneeds_a (σ : PH) (op : Int) : CallsA Tryz.prog 77 #[i64 op] σ [] (RetA fun v σ' Γ' => v = .string (needs op) ∧ σ = σ' ∧ Γ' = []) := by
  refine enterA1 Tryz.func77 rfl rfl rfl ?_; refine zS (zR (yS ?_)); refine zN (zT (zS (zS (zR (yA ?_))))); refine zN (zT (XA.block (zS (zR (yE ?_))))); refine yS ?_; refine zN (zT ?_); refine XA.condp rfl (fun h1 => ?_) (fun h1 => ?_)
  · subst h1
    refine zS (zR (yS ?_)); refine zN (zT (XA.ret (DA.inb_ret (DA.thn_ret ?_))))
    exact bodyA.ret (ResA.one rfl rfl) (Ent.refl _) ⟨rfl, rfl, rfl⟩
  refine zS (zR (yE ?_)); refine yS ?_; refine zN (zT ?_); refine XA.condp rfl (fun h2 => ?_) (fun h2 => ?_)
  · subst h2
    refine zS (zR (yS ?_)); refine zN (zT (XA.ret (DA.inb_ret (DA.thn_ret ?_))))
    exact bodyA.ret (ResA.one rfl rfl) (Ent.refl _) ⟨rfl, rfl, rfl⟩
  refine zS (zR (yE ?_)); refine yS ?_; refine zN (zT ?_); refine XA.condp rfl (fun h3 => ?_) (fun h3 => ?_)
  · subst h3
    refine zS (zR (yS ?_)); refine zN (zT (XA.ret (DA.inb_ret (DA.thn_ret ?_))))
    exact bodyA.ret (ResA.one rfl rfl) (Ent.refl _) ⟨rfl, rfl, rfl⟩
  refine zS (zR (yE ?_)); refine yS ?_; refine zN (zT ?_); refine XA.condp rfl (fun h4 => ?_) (fun h4 => ?_)
  · subst h4
    refine zS (zR (yS ?_)); refine zN (zT (XA.ret (DA.inb_ret (DA.thn_ret ?_))))
    exact bodyA.ret (ResA.one rfl rfl) (Ent.refl _) ⟨rfl, rfl, rfl⟩
  refine zS (zR (yE ?_)); refine yS ?_; refine zN (zT ?_); refine XA.condp rfl (fun h5 => ?_) (fun h5 => ?_)
  · subst h5
    refine zS (zR (yS ?_)); refine zN (zT (XA.ret (DA.inb_ret (DA.thn_ret ?_))))
    exact bodyA.ret (ResA.one rfl rfl) (Ent.refl _) ⟨rfl, rfl, rfl⟩
  refine zS (zR (yE ?_)); refine yS ?_; refine zN (zT ?_); refine XA.condp rfl (fun h6 => ?_) (fun h6 => ?_)
  · subst h6
    refine zS (zR (yS ?_)); refine zN (zT (XA.ret (DA.inb_ret (DA.thn_ret ?_))))
    exact bodyA.ret (ResA.one rfl rfl) (Ent.refl _) ⟨rfl, rfl, rfl⟩
  have hn : needs op = ⟨#[]⟩ := by rw [needs, if_neg h1, if_neg h2, if_neg h3, if_neg h4, if_neg h5, if_neg h6]
  rw [hn]
  refine XA.skip (DA.inb_normal (zT (zS (zR (yS ?_))))); refine zN (zT (XA.ret ?_))
  exact bodyA.ret (ResA.one rfl rfl) (Ent.refl _) ⟨rfl, rfl, rfl⟩
def hasByte (s : ByteArray) (c : Nat) : Bool := decide (∃ i, i < s.size ∧ byteAt s i = c)
theorem rneeded_a (σ : PH) (op : Int) (c : Nat) : CallsA Tryz.prog 54 #[i64 op, .int .u8 c] σ [] (RetA fun v σ' Γ' => v = .bool (hasByte (needs op) c) ∧ σ = σ' ∧ Γ' = []) := by
  have hsz : (needs op).size ≤ 3 := by unfold needs; (repeat' split) <;> decide
  refine enterA2 Tryz.func54 rfl rfl rfl ?_; refine zS (zR (yS ?_)); refine zN (zT (zS (zR (yA ?_)))); refine yC (rneeds_a σ op) ?_
  obtain ⟨s, hs⟩ : ∃ s, s = needs op := ⟨_, rfl⟩
  rw [← hs] at hsz ⊢
  refine yS ?_; refine zN (zT (zS (zS (zR (yS ?_))))); refine zN (zT (XA.block ?_))
  refine XA.gen [(1, _), (4, _), (5, _), (6, _)] ⟨(by with_reducible (conv => lhs; whnf)), (by with_reducible (conv => lhs; whnf)), (by with_reducible (conv => lhs; whnf)), (by with_reducible (conv => lhs; whnf)), trivial⟩ (fun δ => ?_)
  dsimp only [List.foldl]
  refine XA.loop [(4, 4), (6, 6), (9, 19)] (fun k : Nat => [(6, i64 k)]) (fun k σ' Γ' => σ = σ' ∧ k ≤ s.size ∧ (∀ i, i < k → byteAt s i ≠ c) ∧ Γ' = []) (fun k => s.size - k) 0 (by exact ⟨rfl, trivial⟩) (Δ0 := _) ?_ (⟨rfl, Nat.zero_le _, fun i h => absurd h (Nat.not_lt_zero _), rfl⟩) ?_
  · exact zE
  rintro k δ _ _ ⟨rfl, hk, hall, rfl⟩
  dsimp only [ovr, List.foldl]
  refine zS (zS (zR (yA ?_))); refine yA ?_; refine zO rfl (Rd.lenString (tyrow rfl) rfl rfl) ?_; refine zO rfl (Rd.lss rfl rfl) ?_; refine zN (zT ?_); refine XA.condp rfl (fun hlt => ?_) (fun hlt => ?_)
  · have hlt : k < s.size := by omega
    refine XA.skip (zT (zS (XA.block (zS (zR (yA ?_)))))); refine yA ?_
    refine zO rfl (Rd.indexStr (tyrow rfl) rfl rfl rfl (by first | omega | decide | (simp; omega))) ?_
    refine yA ?_; refine yE ?_; refine zN (zT ?_); refine XA.condp rfl (fun he => ?_) (fun he => ?_)
    · have hb : hasByte s c = true := decide_eq_true ⟨k, hlt, by omega⟩
      rw [hb]
      refine zS (zR (yS ?_)); refine zN (zT (XA.ret (DA.inb_ret (DA.thn_ret (DA.thn_ret (DA.inb_ret (DA.thn_ret ?_)))))))
      exact bodyA.ret (ResA.one rfl rfl) (Ent.nil _) ⟨rfl, rfl, rfl⟩
    have hnew : ∀ i, i < k + 1 → byteAt s i ≠ c := fun i hi => by
      rcases Nat.lt_or_ge i k with h | h
      · exact hall i h
      · have : i = k := by omega
        subst this; omega
    refine XA.skip (DA.inb_normal (zT (zR (yA ?_)))); refine zO rfl zI ?_; refine yS ?_; refine zN (zT ?_)
    refine ⟨(Keep.upd (Keep.upd (Keep.upd (Keep.upd (Keep.upd (Keep.upd (Keep.upd (Keep.upd (Keep.upd (Keep.upd (Keep.upd (Keep.upd (Keep.upd (Keep.hav (Keep.hav (Keep.hav (Keep.refl _ _) rfl) rfl) rfl) rfl) rfl) rfl) rfl) rfl) rfl) rfl) rfl) rfl) rfl) rfl) rfl) rfl), k + 1, _, zM, ?_, ⟨rfl, hlt, hnew, rfl⟩, (by omega)⟩
    · exact zE
  have hb : hasByte s c = false := decide_eq_false (fun ⟨i, h1, h2⟩ => hall i (by omega) h2)
  rw [hb]
  refine XA.exit (DA.thn_exit (DA.thn_exit (DA.inb_same (zT (zS (zR (yS ?_))))))); refine zN (zT (XA.ret ?_))
  exact bodyA.ret (ResA.one rfl rfl) (Ent.nil _) ⟨rfl, rfl, rfl⟩
theorem need_op (op : Int) : hasByte (needs op) 101 = needE op ∧ hasByte (needs op) 102 = needF op ∧ hasByte (needs op) 118 = needV op ∧ hasByte (needs op) 98 = needB op ∧ hasByte (needs op) 111 = needO op := by
  by_cases h1 : op = 1
  · subst h1; decide +kernel
  by_cases h2 : op = 2
  · subst h2; decide +kernel
  by_cases h3 : op = 3
  · subst h3; decide +kernel
  by_cases h4 : op = 4
  · subst h4; decide +kernel
  by_cases h5 : op = 5
  · subst h5; decide +kernel
  by_cases h6 : op = 6
  · subst h6; decide +kernel
  have hn : needs op = ⟨#[]⟩ := by rw [needs, if_neg h1, if_neg h2, if_neg h3, if_neg h4, if_neg h5, if_neg h6]
  rw [hn]
  have : ∀ c, hasByte ⟨#[]⟩ c = false := fun c => decide_eq_false (fun ⟨i, h, _⟩ => absurd h (Nat.not_lt_zero i))
  simp [this, needE, needF, needV, needB, needO, h1, h2, h3, h4, h5, h6]
theorem rname_a (σ : PH) (s : ByteArray) (hs : s.size ≤ maxLen) : CallsA Tryz.prog 28 #[.string s] σ [] (RetA fun v σ' Γ' => v = .bool (nameOk s) ∧ σ = σ' ∧ Γ' = []) := by
  simp only [maxLen] at hs
  refine enterA1 Tryz.func28 rfl rfl rfl ?_; refine zS (zR (yS ?_)); refine zN (zT (zS (zS (zR (yS ?_))))); refine zN (zT (XA.block ?_))
  refine XA.gen [(0, _), (2, _), (3, _)] ⟨(by with_reducible (conv => lhs; whnf)), (by with_reducible (conv => lhs; whnf)), (by with_reducible (conv => lhs; whnf)), trivial⟩ (fun δ => ?_)
  dsimp only [List.foldl]
  refine XA.loop [(2, 19)] (fun k : Nat => [(3, i64 k)]) (fun k σ' Γ' => σ = σ' ∧ k ≤ s.size ∧ (∀ i, i < k → 97 ≤ byteAt s i ∧ byteAt s i ≤ 122) ∧ Γ' = []) (fun k => s.size - k) 0 (by exact ⟨rfl, trivial⟩) (Δ0 := _) ?_ (⟨rfl, Nat.zero_le _, by intro i hi; omega, rfl⟩) ?_
  · exact zE
  rintro k δ _ _ ⟨rfl, hk, hall, rfl⟩
  dsimp only [ovr, List.foldl]
  refine zS (zS (zR (yA ?_))); refine yA ?_; refine zO rfl (Rd.lenString (tyrow rfl) rfl rfl) ?_; refine zO rfl (Rd.lss rfl rfl) ?_; refine zN (zT ?_); refine XA.condp rfl (fun hlt => ?_) (fun hlt => ?_)
  · have hlt : k < s.size := by omega
    have hb := byteAt_lt s k
    by_cases h1 : byteAt s k < 97
    · 
      refine XA.skip (zT (zS (XA.block (zS (zR (yA ?_)))))); refine yA ?_
      refine zO rfl (Rd.indexStr (tyrow rfl) rfl rfl rfl (by first | omega | decide | (simp; omega))) ?_
      refine zO rfl (Rd.lss rfl rfl) ?_; refine yA ?_
      first | refine gA ?_ | refine zH ?_
      first | refine gA ?_ | refine zH ?_
      first | (refine zG ?_; refine zO rfl (Rd.indexStr (tyrow rfl) rfl rfl rfl (by first | omega | decide | (simp; omega))) ?_) | refine zH ?_
      first | (refine zG ?_; refine zO rfl (Rd.gtr rfl rfl) ?_) | refine zH ?_
      refine zO rfl zP ?_; refine zN (zT (yT rfl rfl (zS (zR (yS ?_))))); refine zN (zT (XA.ret (DA.inb_ret (DA.thn_ret (DA.thn_ret (DA.inb_ret (DA.thn_ret ?_)))))))
      refine bodyA.ret (ResA.one rfl rfl) (Ent.refl _) ⟨?_, rfl, rfl⟩
      have : nameOk s = false := decide_eq_false (fun h => by have := h.1 k hlt; omega)
      rw [this]
    · 
      refine XA.skip (zT (zS (XA.block (zS (zR (yA ?_)))))); refine yA ?_
      refine zO rfl (Rd.indexStr (tyrow rfl) rfl rfl rfl (by first | omega | decide | (simp; omega))) ?_
      refine zO rfl (Rd.lss rfl rfl) ?_; refine yA ?_
      first | refine gA ?_ | refine zH ?_
      first | refine gA ?_ | refine zH ?_
      first | (refine zG ?_; refine zO rfl (Rd.indexStr (tyrow rfl) rfl rfl rfl (by first | omega | decide | (simp; omega))) ?_) | refine zH ?_
      first | (refine zG ?_; refine zO rfl (Rd.gtr rfl rfl) ?_) | refine zH ?_
      refine zO rfl zP ?_; refine zN (zT ?_); refine XA.condp rfl (fun h2 => ?_) (fun h2 => ?_)
      · refine zS ?_
        refine zR (yS ?_); refine zN (zT (XA.ret (DA.inb_ret (DA.thn_ret (DA.thn_ret (DA.inb_ret (DA.thn_ret ?_)))))))
        refine bodyA.ret (ResA.one rfl rfl) (Ent.refl _) ⟨?_, rfl, rfl⟩
        have : nameOk s = false := decide_eq_false (fun h => by have := h.1 k hlt; omega)
        rw [this]
      have hnew : ∀ i, i < k + 1 → 97 ≤ byteAt s i ∧ byteAt s i ≤ 122 := fun i hi => by
        rcases Nat.lt_or_ge i k with h | h
        · exact hall i h
        · have : i = k := by omega
          subst this; omega
      refine XA.skip (DA.inb_normal (zT (zR (yA ?_)))); refine zO rfl zI ?_; refine yS ?_; refine zN (zT ?_)
      refine ⟨(Keep.upd (Keep.upd (Keep.upd (Keep.upd (Keep.upd (Keep.upd (Keep.upd (Keep.upd (Keep.upd (Keep.upd (Keep.upd (Keep.upd (Keep.upd (Keep.upd (Keep.upd (Keep.upd (Keep.upd (Keep.upd (Keep.hav (Keep.refl _ _) rfl) rfl) rfl) rfl) rfl) rfl) rfl) rfl) rfl) rfl) rfl) rfl) rfl) rfl) rfl) rfl) rfl) rfl) rfl), k + 1, _, zM, ?_, ⟨rfl, hlt, hnew, rfl⟩, (by omega)⟩
      · exact zE
  have hkn : k = s.size := by omega
  subst hkn
  by_cases h0 : 1 ≤ s.size
  · have : nameOk s = decide ((s.size : Int) ≤ 8) := by
      unfold nameOk
      rw [decide_eq_decide]
      constructor
      · intro h; omega
      · intro h; exact ⟨hall, by omega, by omega⟩
    rw [this]
    refine XA.exit (DA.thn_exit (DA.thn_exit (DA.inb_same (zT (zS (zR (yA ?_))))))); refine zO rfl (Rd.lenString (tyrow rfl) rfl rfl) ?_; refine zO rfl (Rd.geq rfl rfl) ?_; refine yA ?_
    first | refine gA ?_ | refine zH ?_
    first | (refine zG ?_; refine zO rfl (Rd.lenString (tyrow rfl) rfl rfl) ?_) | refine zH ?_
    first | (refine zG ?_; refine zO rfl (Rd.leq rfl rfl) ?_) | refine zH ?_
    refine zO rfl zP ?_; refine yS ?_; refine zN (zT (XA.ret ?_))
    exact bodyA.ret (ResA.one rfl rfl) (Ent.refl _) ⟨rfl, rfl, rfl⟩
  · have : nameOk s = false := decide_eq_false (fun h => by omega)
    rw [this]
    refine XA.exit (DA.thn_exit (DA.thn_exit (DA.inb_same (zT (zS (zR (yA ?_))))))); refine zO rfl (Rd.lenString (tyrow rfl) rfl rfl) ?_; refine zO rfl (Rd.geq rfl rfl) ?_; refine yA ?_
    first | refine gA ?_ | refine zH ?_
    first | (refine zG ?_; refine zO rfl (Rd.lenString (tyrow rfl) rfl rfl) ?_) | refine zH ?_
    first | (refine zG ?_; refine zO rfl (Rd.leq rfl rfl) ?_) | refine zH ?_
    refine zO rfl zP ?_; refine yS ?_; refine zN (zT (XA.ret ?_))
    exact bodyA.ret (ResA.one rfl rfl) (Ent.refl _) ⟨rfl, rfl, rfl⟩
theorem rzero_a (σ : PH) (cs : List Value) (x : Ex) (hx : ExAt σ cs x) : CallsA Tryz.prog 55 #[.agg cs.toArray] σ [] (RetA fun v σ' Γ' => v = .bool (noneX x) ∧ σ = σ' ∧ Γ' = []) := by
  obtain ⟨p, c, rfl, -, -, -, -⟩ := hx.inv
  by_cases h1 : x.op = 0
  · by_cases h2 : x.v = 0
    · by_cases h3 : x.n = 0
      · 
        refine enterA1 Tryz.func55 rfl rfl rfl ?_; refine zS (zR ?_); refine zw rfl WrA.bx ?_
        rintro _ _ _ ⟨g1, rfl, rfl, rfl⟩
        refine yS ?_; refine zN (zT (zS (zR (yV ?_)))); refine yB ?_; refine yE ?_; refine yA ?_
        first | refine gV ?_ | refine zH ?_
        first | refine gB ?_ | refine zH ?_
        first | refine gE ?_ | refine zH ?_
        refine zO rfl zP ?_; refine yA ?_
        first | refine gV ?_ | refine zH ?_
        first | refine gB ?_ | refine zH ?_
        first | refine gE ?_ | refine zH ?_
        refine zO rfl zP ?_; refine yA ?_
        first | refine gV ?_ | refine zH ?_
        first | refine gB ?_ | refine zH ?_
        first | (refine zG ?_; refine zO rfl (Rd.lenSlice (tyrow rfl) rfl rfl) ?_) | refine zH ?_
        first | refine gE ?_ | refine zH ?_
        refine zO rfl zP ?_; refine yS ?_; refine zN (zT (XA.ret ?_))
        refine bodyA.ret (ResA.one rfl rfl) (Ent.nil _) ⟨?_, rfl, rfl⟩
        simp [noneX, h1, h2, h3]
      · 
        refine enterA1 Tryz.func55 rfl rfl rfl ?_; refine zS (zR ?_); refine zw rfl WrA.bx ?_
        rintro _ _ _ ⟨g1, rfl, rfl, rfl⟩
        refine yS ?_; refine zN (zT (zS (zR (yV ?_)))); refine yB ?_; refine yE ?_; refine yA ?_
        first | refine gV ?_ | refine zH ?_
        first | refine gB ?_ | refine zH ?_
        first | refine gE ?_ | refine zH ?_
        refine zO rfl zP ?_; refine yA ?_
        first | refine gV ?_ | refine zH ?_
        first | refine gB ?_ | refine zH ?_
        first | refine gE ?_ | refine zH ?_
        refine zO rfl zP ?_; refine yA ?_
        first | refine gV ?_ | refine zH ?_
        first | refine gB ?_ | refine zH ?_
        first | (refine zG ?_; refine zO rfl (Rd.lenSlice (tyrow rfl) rfl rfl) ?_) | refine zH ?_
        first | refine gE ?_ | refine zH ?_
        refine zO rfl zP ?_; refine yS ?_; refine zN (zT (XA.ret ?_))
        exact bodyA.ret (ResA.one rfl rfl) (Ent.nil _) ⟨by simp [noneX, h3], rfl, rfl⟩
    · 
      refine enterA1 Tryz.func55 rfl rfl rfl ?_; refine zS (zR ?_); refine zw rfl WrA.bx ?_
      rintro _ _ _ ⟨g1, rfl, rfl, rfl⟩
      refine yS ?_; refine zN (zT (zS (zR (yV ?_)))); refine yB ?_; refine yE ?_; refine yA ?_
      first | refine gV ?_ | refine zH ?_
      first | refine gB ?_ | refine zH ?_
      first | refine gE ?_ | refine zH ?_
      refine zO rfl zP ?_; refine yA ?_
      first | refine gV ?_ | refine zH ?_
      first | refine gB ?_ | refine zH ?_
      first | refine gE ?_ | refine zH ?_
      refine zO rfl zP ?_; refine yA ?_
      first | refine gV ?_ | refine zH ?_
      first | refine gB ?_ | refine zH ?_
      first | (refine zG ?_; refine zO rfl (Rd.lenSlice (tyrow rfl) rfl rfl) ?_) | refine zH ?_
      first | refine gE ?_ | refine zH ?_
      refine zO rfl zP ?_; refine yS ?_; refine zN (zT (XA.ret ?_))
      exact bodyA.ret (ResA.one rfl rfl) (Ent.nil _) ⟨by simp [noneX, h2], rfl, rfl⟩
  · 
    refine enterA1 Tryz.func55 rfl rfl rfl ?_; refine zS (zR ?_); refine zw rfl WrA.bx ?_
    rintro _ _ _ ⟨g1, rfl, rfl, rfl⟩
    refine yS ?_; refine zN (zT (zS (zR (yV ?_)))); refine yB ?_; refine yE ?_; refine yA ?_
    first | refine gV ?_ | refine zH ?_
    first | refine gB ?_ | refine zH ?_
    first | refine gE ?_ | refine zH ?_
    refine zO rfl zP ?_; refine yA ?_
    first | refine gV ?_ | refine zH ?_
    first | refine gB ?_ | refine zH ?_
    first | refine gE ?_ | refine zH ?_
    refine zO rfl zP ?_; refine yA ?_
    first | refine gV ?_ | refine zH ?_
    first | refine gB ?_ | refine zH ?_
    first | (refine zG ?_; refine zO rfl (Rd.lenSlice (tyrow rfl) rfl rfl) ?_) | refine zH ?_
    first | refine gE ?_ | refine zH ?_
    refine zO rfl zP ?_; refine yS ?_; refine zN (zT (XA.ret ?_))
    exact bodyA.ret (ResA.one rfl rfl) (Ent.nil _) ⟨by simp [noneX, h1], rfl, rfl⟩
end Go.Proofs.YtmnmcjdgnpgchaaGreat

namespace Go.Proofs.YtmnmcjdgnpgchaaGreat
open Go X
set_option maxHeartbeats 1000000
def Look (b : Nat) (vs bs : Value) (e : JE) : HP := fun m => ∃ n c, blk b [vs, bs, i64 n, i64 c] 71 m ∧ match e with | .ok l => n = 150 - l ∧ c = 0 | .error d => c = d ∧ c ≠ 0
theorem Look.okO {b : Nat} {vs bs : Value} {l : Int} : ∀ m, Look b vs bs (.ok l) m → ∃ _ : Unit, True ∧ Sat [blk b [vs, bs, i64 (150 - l), i64 0] 71] m := by
  rintro m ⟨l', c, h, rfl, rfl⟩; exact ⟨(), trivial, sat1 h⟩
theorem Look.errO {b : Nat} {vs bs : Value} {c : Int} : ∀ m, Look b vs bs (.error c) m → ∃ n : Int, c ≠ 0 ∧ Sat [blk b [vs, bs, i64 n, i64 c] 71] m := by
  rintro m ⟨l', c', h, rfl, h0⟩; exact ⟨l', h0, sat1 h⟩
theorem Look.mkO {b : Nat} {vs bs : Value} {l n : Int} (hn : n = 150 - l) : ∀ m, Sat [blk b [vs, bs, i64 n, i64 0] 71] m → Look b vs bs (.ok l) m := fun m h => ⟨n, 0, of_sat1 blk_mono h, hn, rfl⟩
theorem Look.mkE {b : Nat} {vs bs : Value} {n c : Int} (h0 : c ≠ 0) : ∀ m, Sat [blk b [vs, bs, i64 n, i64 c] 71] m → Look b vs bs (.error c) m := fun m h => ⟨n, c, of_sat1 blk_mono h, rfl, h0⟩
theorem Look.anyD {b : Nat} {vs bs : Value} {e : JE} : ∀ m, Look b vs bs e m → ∃ x : Int × Int, (decide (x.2 = 0) = e.isOk ∧ ∀ m', Sat [blk b [vs, bs, i64 x.1, i64 x.2] 71] m' → Look b vs bs e m') ∧ Sat [blk b [vs, bs, i64 x.1, i64 x.2] 71] m := by
  rintro m ⟨l', c, h, h0⟩
  refine ⟨(l', c), ⟨?_, fun m' h' => ⟨l', c, of_sat1 blk_mono h', h0⟩⟩, sat1 h⟩
  cases e with
  | ok l => obtain ⟨-, rfl⟩ := h0; rfl
  | error d => obtain ⟨-, h0⟩ := h0; exact decide_eq_false h0
theorem bad_c (σ : PH) (b : Nat) (vs bs : Value) (n c0 : Int) (is : Bool) (c : Int) :
    CallsA Tryz.prog 53 #[ptr b, .bool is, i64 c] σ [blk b [vs, bs, i64 n, i64 c0] 71] (RetA fun v σ' Γ' => v = .tuple #[] ∧ σ = σ' ∧ Γ' = [blk b [vs, bs, i64 n, i64 (if is ∧ c0 = 0 then c else c0)] 71]) := by
  cases is with
  | false =>
    refine enterA3 Tryz.func53 rfl rfl rfl ?_; refine zS (zR (yA ?_)); refine yA ?_
    first | refine gA ?_ | refine zH ?_
    first | (refine zG ?_; refine zO rfl (Rd.nilCheck rfl) ?_) | refine zH ?_
    first | refine gV ?_ | refine zH ?_
    first | refine gB ?_ | refine zH ?_
    first | refine gE ?_ | refine zH ?_
    refine zO rfl zP ?_; refine zN (zT (yF rfl rfl (XA.skip ?_)))
    exact bodyA.normal (ResA.none rfl) (Ent.refl _) ⟨rfl, rfl, by simp⟩
  | true =>
    by_cases h0 : c0 = 0
    · subst h0
      refine enterA3 Tryz.func53 rfl rfl rfl ?_; refine zS (zR (yA ?_)); refine yA ?_
      first | refine gA ?_ | refine zH ?_
      first | (refine zG ?_; refine zO rfl (Rd.nilCheck rfl) ?_) | refine zH ?_
      first | refine gV ?_ | refine zH ?_
      first | refine gB ?_ | refine zH ?_
      first | refine gE ?_ | refine zH ?_
      refine zO rfl zP ?_; refine zN (zT (yT rfl rfl (zR (yA ?_)))); refine yA ?_; refine zO rfl (Rd.nilCheck rfl) ?_; refine yV ?_; refine zw rfl (WrA.st (tyrow rfl) rfl) ?_
      rintro _ _ _ ⟨rfl, rfl, rfl⟩
      refine zN ?_
      exact bodyA.normal (ResA.none rfl) (Ent.refl _) ⟨rfl, rfl, by simp⟩
    · 
      refine enterA3 Tryz.func53 rfl rfl rfl ?_; refine zS (zR (yA ?_)); refine yA ?_
      first | refine gA ?_ | refine zH ?_
      first | (refine zG ?_; refine zO rfl (Rd.nilCheck rfl) ?_) | refine zH ?_
      first | refine gV ?_ | refine zH ?_
      first | refine gB ?_ | refine zH ?_
      first | refine gE ?_ | refine zH ?_
      refine zO rfl zP ?_; refine zN (zT (XA.condF rfl (decide_eq_false h0) (XA.skip ?_)))
      exact bodyA.normal (ResA.none rfl) (Ent.refl _) ⟨rfl, rfl, by simp [h0]⟩
theorem Ent.one {R S : HP} (h : ∀ m, R m → S m) : Ent [R] [S] := fun m ⟨m1, m2, a, b, c, d, e⟩ => ⟨m1, m2, h _ a, b, c, d, e⟩
theorem bad_a (σ : PH) (b : Nat) (vs bs : Value) (e : JE) (is : Bool) (c : Int) (hc : c ≠ 0) :
    CallsA Tryz.prog 53 #[ptr b, .bool is, i64 c] σ [Look b vs bs e] (RetA fun v σ' Γ' => v = .tuple #[] ∧ σ = σ' ∧ Γ' = [Look b vs bs (e.fail is c)]) := by
  cases e with
  | ok l =>
    refine CallsA.opn .head Look.okO (enters Tryz.func53 rfl rfl) ?_
    rintro ⟨⟩ -
    refine (bad_c σ b vs bs (150 - l) 0 is c).conv ?_
    cases is with
    | true => exact Ent.one (fun m h => ⟨150 - l, c, h, rfl, hc⟩)
    | false => exact Ent.one (fun m h => ⟨150 - l, 0, h, rfl, rfl⟩)
  | error d =>
    refine CallsA.opn .head Look.errO (enters Tryz.func53 rfl rfl) ?_
    rintro n h0
    refine (bad_c σ b vs bs n d is c).conv ?_
    rw [if_neg (fun h => h0 h.2)]
    exact Ent.one (fun m h => ⟨n, d, h, rfl, h0⟩)
theorem head_a (σ : PH) (b : Nat) (vs bs : Value) (e : JE) (deep : Int) (hl : e.in_) :
    CallsA Tryz.prog 52 #[ptr b, i64 deep] σ [Look b vs bs e] (RetA fun v σ' Γ' => v = .tuple #[] ∧ σ = σ' ∧ Γ' = [Look b vs bs (e.one deep)]) := by
  cases e with
  | error d =>
    refine enterA2 Tryz.func52 rfl rfl rfl ?_; refine zS (zR (yA ?_))
    first | refine XA.opn (R := Look b vs bs (.error d)) zL (Look.errO) ?_ | refine XOA.opn (R := Look b vs bs (.error d)) zL (Look.errO) ?_ | refine DA.opn (R := Look b vs bs (.error d)) zL (Look.errO) ?_
    rintro n h0
    first | refine XA.cl ?_ | refine XOA.cl ?_ | refine DA.cl ?_
    refine zO rfl (Rd.nilCheck rfl) ?_; refine yV ?_; refine yB ?_; refine zO rfl zI ?_; refine zO rfl (Rd.nilCheck rfl) ?_; refine yV ?_; refine zw rfl (WrA.st (tyrow rfl) rfl) ?_
    rintro _ _ _ ⟨rfl, rfl, rfl⟩
    refine zN (zT (zS (zR (yA ?_)))); refine yA ?_; refine zO rfl (Rd.gtr rfl rfl) ?_; refine yC (bad_c σ b vs bs _ d (decide (12 < deep)) 4) ?_; refine zN (zT (zR (yA ?_))); refine yA ?_; refine zO rfl (Rd.nilCheck rfl) ?_; refine yV ?_; refine yB ?_; refine zO rfl (Rd.gtr rfl rfl) ?_
    refine yC (bad_c σ b vs bs _ _ _ 3) ?_
    rw [show (if decide (12 < deep) = true ∧ d = 0 then (4 : Int) else d) = d from if_neg (fun h => h0 h.2), if_neg (fun h => h0 h.2)]
    refine zN ?_
    exact bodyA.normal (ResA.none rfl) (Ent.fold1 zE (Look.mkE h0)) ⟨rfl, rfl, rfl⟩
  | ok l =>
    obtain ⟨l0, l1⟩ := hl l rfl
    refine enterA2 Tryz.func52 rfl rfl rfl ?_; refine zS (zR (yA ?_))
    first | refine XA.opn (R := Look b vs bs (.ok l)) zL (Look.okO) ?_ | refine XOA.opn (R := Look b vs bs (.ok l)) zL (Look.okO) ?_ | refine DA.opn (R := Look b vs bs (.ok l)) zL (Look.okO) ?_
    rintro ⟨⟩ -
    first | refine XA.cl ?_ | refine XOA.cl ?_ | refine DA.cl ?_
    refine zO rfl (Rd.nilCheck rfl) ?_; refine yV ?_; refine yB ?_; refine zO rfl zI ?_; refine zO rfl (Rd.nilCheck rfl) ?_; refine yV ?_; refine zw rfl (WrA.st (tyrow rfl) rfl) ?_
    rintro _ _ _ ⟨rfl, rfl, rfl⟩
    refine zN (zT (zS (zR (yA ?_)))); refine yA ?_; refine zO rfl (Rd.gtr rfl rfl) ?_; refine yC (bad_c σ b vs bs _ 0 (decide (12 < deep)) 4) ?_; refine zN (zT (zR (yA ?_))); refine yA ?_; refine zO rfl (Rd.nilCheck rfl) ?_; refine yV ?_; refine yB ?_; refine zO rfl (Rd.gtr rfl rfl) ?_
    refine yC (bad_c σ b vs bs _ _ (decide (150 < 150 - l + 1)) 3) ?_
    by_cases hd : 12 < deep
    · skip
      rw [show (if decide (12 < deep) = true ∧ (0 : Int) = 0 then (4 : Int) else 0) = 4 by simp [hd], if_neg (fun h => absurd h.2 (by decide))]
      refine zN ?_
      refine bodyA.normal (ResA.none rfl) (Ent.fold1 (Θ := [blk b [vs, bs, i64 (150 - l + 1), i64 4] 71]) zE (Look.mkE (by decide))) ⟨rfl, rfl, ?_⟩
      simp [JE.one, hd]
    · rw [show (if decide (12 < deep) = true ∧ (0 : Int) = 0 then (4 : Int) else 0) = 0 by simp [hd]]
      by_cases h0 : l = 0
      · rw [show (if decide (150 < 150 - l + 1) = true ∧ (0 : Int) = 0 then (3 : Int) else 0) = 3 by simp [h0]]
        refine zN ?_
        refine bodyA.normal (ResA.none rfl) (Ent.fold1 (Θ := [blk b [vs, bs, i64 (150 - l + 1), i64 3] 71]) zE (Look.mkE (by decide))) ⟨rfl, rfl, ?_⟩
        simp [JE.one, hd, h0]
      · rw [show (if decide (150 < 150 - l + 1) = true ∧ (0 : Int) = 0 then (3 : Int) else 0) = 0 by rw [if_neg]; simp; omega]
        refine zN ?_
        refine bodyA.normal (ResA.none rfl) (Ent.fold1 (Θ := [blk b [vs, bs, i64 (150 - l + 1), i64 0] 71]) zE (Look.mkO (l := l - 1) (by omega))) ⟨rfl, rfl, ?_⟩
        simp [JE.one, hd, h0]
theorem variable_a (σ : PH) (b : Nat) (p : Option Addr) (n c : Nat) (bs : Value) (e : JE) (v : Int) (is : Bool) :
    CallsA Tryz.prog 56 #[ptr b, i64 v, .bool is] σ [Look b (.slice p n c) bs e] (RetA fun r σ' Γ' => r = .tuple #[] ∧ σ = σ' ∧ Γ' = [Look b (.slice p n c) bs (e.named n v is)]) := by
  cases is with
  | false =>
    refine enterA3 Tryz.func56 rfl rfl rfl ?_; refine zS (zR (yA ?_)); refine zN (zT (yF rfl rfl (zR (yA ?_)))); refine yA ?_; refine zO rfl (Rd.neq rfl rfl) ?_
    refine yC (bad_a σ b _ bs e (decide (v ≠ 0)) 5 (by decide)) ?_; refine zN ?_
    exact bodyA.normal (ResA.none rfl) (Ent.refl _) ⟨rfl, rfl, by simp only [JE.named, Bool.false_and, fail_false, Bool.not_false, Bool.true_and]⟩
  | true =>
    by_cases h0 : v < 0
    · 
      refine enterA3 Tryz.func56 rfl rfl rfl ?_; refine zS (zR (yA ?_)); refine zN (zT (yT rfl rfl (zR (yA ?_)))); refine yA ?_; refine zO rfl (Rd.lss rfl rfl) ?_; refine yA ?_
      first | refine gA ?_ | refine zH ?_
      first | refine gA ?_ | refine zH ?_
      first | (refine zG ?_; refine zO rfl (Rd.nilCheck rfl) ?_) | refine zH ?_
      first | refine gV ?_ | refine zH ?_
      first | refine gV ?_ | refine zH ?_
      first | refine gB ?_ | refine zH ?_
      first | (refine zG ?_; refine zO rfl (Rd.lenSlice (tyrow rfl) rfl rfl) ?_) | refine zH ?_
      first | (refine zG ?_; refine zO rfl (Rd.geq rfl rfl) ?_) | refine zH ?_
      refine zO rfl zP ?_
      refine yC (bad_a σ b _ bs e true 1 (by decide)) ?_; refine zN ?_
      refine bodyA.normal (ResA.none rfl) (Ent.refl _) ⟨rfl, rfl, ?_⟩
      have : decide (v < 0 ∨ (n : Int) ≤ v) = true := decide_eq_true (Or.inl h0)
      simp only [JE.named, this, Bool.true_and, Bool.not_true, Bool.false_and, fail_false]
    · 
      refine enterA3 Tryz.func56 rfl rfl rfl ?_; refine zS (zR (yA ?_)); refine zN (zT (yT rfl rfl (zR (yA ?_)))); refine yA ?_; refine zO rfl (Rd.lss rfl rfl) ?_; refine yA ?_
      first | refine gA ?_ | refine zH ?_
      first | refine gA ?_ | refine zH ?_
      first | refine XA.opn (R := Look b (.slice p n c) bs e) zL (Look.anyD) ?_ | refine XOA.opn (R := Look b (.slice p n c) bs e) zL (Look.anyD) ?_ | refine DA.opn (R := Look b (.slice p n c) bs e) zL (Look.anyD) ?_
      rintro ⟨l, cc⟩ ⟨-, hf⟩
      first | refine XA.cl ?_ | refine XOA.cl ?_ | refine DA.cl ?_
      first | (refine zG ?_; refine zO rfl (Rd.nilCheck rfl) ?_) | refine zH ?_
      first | refine gV ?_ | refine zH ?_
      first | refine gV ?_ | refine zH ?_
      first | refine gB ?_ | refine zH ?_
      first | (refine zG ?_; refine zO rfl (Rd.lenSlice (tyrow rfl) rfl rfl) ?_) | refine zH ?_
      first | (refine zG ?_; refine zO rfl (Rd.geq rfl rfl) ?_) | refine zH ?_
      refine zO rfl zP ?_; refine XOA.ent (Δ := [Look b (.slice p n c) bs e]) (Ent.fold1 zE hf) ?_
      refine yC (bad_a σ b _ bs e (decide ((n : Int) ≤ v)) 1 (by decide)) ?_; refine zN ?_
      refine bodyA.normal (ResA.none rfl) (Ent.refl _) ⟨rfl, rfl, ?_⟩
      have : decide (v < 0 ∨ (n : Int) ≤ v) = decide ((n : Int) ≤ v) := by rw [decide_eq_decide]; omega
      simp only [JE.named, this, Bool.true_and, Bool.not_true, Bool.false_and, fail_false]
end Go.Proofs.YtmnmcjdgnpgchaaGreat

namespace Go.Proofs.YtmnmcjdgnpgchaaGreat
open Go X
set_option maxHeartbeats 1000000
theorem fail_or (e : JE) (a b : Bool) (c : Int) : (e.fail a c).fail b c = e.fail (a || b) c := by
  cases e with
  | error d => rfl
  | ok l => cases a <;> cases b <;> rfl
def RExprOK (σ : PH) (x : Ex) : Prop := ∀ (cs : List Value) (b : Nat) (p : Option Addr) (n c : Nat) (bs : Value) (e : JE) (deep : Int), ExAt σ cs x → e.in_ → 0 ≤ deep → deep ≤ 1000 →
  CallsA Tryz.prog 57 #[ptr b, .agg cs.toArray, i64 deep] σ [Look b (.slice p n c) bs e] (RetA fun r σ' Γ' => r = .tuple #[] ∧ σ = σ' ∧ Γ' = [Look b (.slice p n c) bs (exE n deep x e)])
theorem rexpr_a (σ : PH) (x : Ex) : RExprOK σ x := by
  refine Ex.ind (P := RExprOK σ) ?_ x
  intro op v k l ih cs b p n c bs e deep hx hin hd0 hd1
  obtain ⟨pl, cl, rfl, -, -, -, hl⟩ := hx.inv
  simp only [Ex.op, Ex.v, Ex.n, Ex.l] at hl ⊢
  clear hx
  have hlen : l.length ≤ maxLen := by
    obtain ⟨q, d, e1, h1, h2⟩ := hl.shape
    omega
  simp only [maxLen] at hlen
  cases e with
  | error d =>
    rw [exE_err]
    refine enterA3 Tryz.func57 rfl rfl rfl ?_; refine zS (zR ?_); refine zw rfl WrA.bx ?_
    rintro _ _ _ ⟨g4, rfl, rfl, rfl⟩
    refine zN (zT (zS (zS (zR (yA ?_)))))
    first | refine XA.opn (R := Look b (.slice p n c) bs (.error d)) zL (Look.errO) ?_ | refine XOA.opn (R := Look b (.slice p n c) bs (.error d)) zL (Look.errO) ?_ | refine DA.opn (R := Look b (.slice p n c) bs (.error d)) zL (Look.errO) ?_
    rintro q h0
    first | refine XA.cl ?_ | refine XOA.cl ?_ | refine DA.cl ?_
    refine zO rfl (Rd.nilCheck rfl) ?_; refine yV ?_; refine yB ?_; refine zO rfl (Rd.neq rfl rfl) ?_; refine zN (zT (XA.condT rfl (decide_eq_true h0) (XA.ret (DA.thn_ret ?_))))
    exact bodyA.ret (ResA.none rfl) (Ent.fold1 zE (Look.mkE h0)) ⟨rfl, rfl, rfl⟩
  | ok a =>
    refine enterA3 Tryz.func57 rfl rfl rfl ?_; refine zS (zR ?_); refine zw rfl WrA.bx ?_
    rintro _ _ _ ⟨g4, rfl, rfl, rfl⟩
    refine zN (zT (zS (zS (zR (yA ?_)))))
    first | refine XA.opn (R := Look b (.slice p n c) bs (.ok a)) zL (Look.okO) ?_ | refine XOA.opn (R := Look b (.slice p n c) bs (.ok a)) zL (Look.okO) ?_ | refine DA.opn (R := Look b (.slice p n c) bs (.ok a)) zL (Look.okO) ?_
    rintro ⟨⟩ -
    first | refine XA.cl ?_ | refine XOA.cl ?_ | refine DA.cl ?_
    refine zO rfl (Rd.nilCheck rfl) ?_; refine yV ?_; refine yB ?_; refine zO rfl (Rd.neq rfl rfl) ?_; refine zN (zT (yF rfl rfl (XA.skip (zT (zS (zR (yA ?_))))))); refine yA ?_; refine XOA.ent (Ent.foldC (Θ := [_]) zD (Look.mkO (l := a) rfl) (Ent.refl _)) ?_
    refine yC (head_a σ b (.slice p n c) bs (.ok a) deep hin) ?_; refine zN (zT (zS (zR (yV ?_)))); refine yB ?_; refine yC (rparts_a σ op) ?_; refine yS ?_; refine zN (zT (zS (zR (yA ?_)))); refine yA ?_; refine zO rfl (Rd.lss rfl rfl) ?_
    refine yC (bad_a σ b _ bs _ (decide (partsOf op < 0)) 2 (by decide)) ?_; refine zN (zT (zS (zR (yA ?_)))); refine yA ?_; refine yV ?_; refine yB ?_; refine zO rfl (Rd.lenSlice (tyrow rfl) rfl rfl) ?_; refine zO rfl (Rd.neq rfl rfl) ?_
    refine yC (bad_a σ b _ bs _ (decide (partsOf op ≠ (l.length : Int))) 5 (by decide)) ?_; refine zN (zT (zS (zR (yA ?_)))); refine yV ?_; refine yB ?_
    obtain ⟨E2, hE2⟩ : ∃ E2, E2 = JE.fail (JE.fail (JE.one (.ok a) deep) (decide (partsOf op < 0)) 2) (decide (partsOf op ≠ (l.length : Int))) 5 := ⟨_, rfl⟩
    rw [← hE2]
    refine XOA.join (List.take_append_drop 6 _).symm [(30, 30), (33, 38)] (fun _ : Unit => [(30, ptr b), (38, .bool (decide (k ≠ 0 ∧ op ≠ 1)))]) (fun _ σ' Γ' => σ = σ' ∧ Γ' = [Look b (.slice p n c) bs E2, blk g4 [i64 op, i64 v, i64 k, .slice pl l.length cl] 93]) ?_ ?_
    · 
      by_cases h1 : op = 1
      · rw [show decide (k ≠ 0 ∧ op ≠ 1) = false from decide_eq_false (fun h => h.2 h1)]
        refine zO rfl (Rd.neq rfl rfl) ?_; refine yA ?_
        first | refine gV ?_ | refine zH ?_
        first | refine gB ?_ | refine zH ?_
        first | (refine zG ?_; refine zO rfl (Rd.neq rfl rfl) ?_) | refine zH ?_
        refine zO rfl zP ?_; refine zN (zT ?_)
        refine ⟨(Keep.upd (Keep.upd (Keep.upd (Keep.upd (Keep.upd (Keep.upd (Keep.refl _ _) rfl) rfl) rfl) rfl) rfl) rfl), (), _, zM, ?_, ⟨rfl, rfl⟩⟩
        · exact zE
      · rw [show decide (k ≠ 0 ∧ op ≠ 1) = decide (k ≠ 0) from by rw [decide_eq_decide]; exact ⟨fun h => h.1, fun h => ⟨h, h1⟩⟩]
        refine zO rfl (Rd.neq rfl rfl) ?_; refine yA ?_
        first | refine gV ?_ | refine zH ?_
        first | refine gB ?_ | refine zH ?_
        first | (refine zG ?_; refine zO rfl (Rd.neq rfl rfl) ?_) | refine zH ?_
        refine zO rfl zP ?_; refine zN (zT ?_)
        refine ⟨(Keep.upd (Keep.upd (Keep.upd (Keep.upd (Keep.upd (Keep.upd (Keep.refl _ _) rfl) rfl) rfl) rfl) rfl) rfl), (), _, zM, ?_, ⟨rfl, rfl⟩⟩
        · exact zE
    rintro - δ1 _ _ ⟨rfl, rfl⟩
    dsimp only [ovr, List.foldl]
    refine yC (bad_a σ b _ bs E2 (decide (k ≠ 0 ∧ op ≠ 1)) 5 (by decide)) ?_; refine zN (zT (zS (zR (yA ?_)))); refine yV ?_; refine yB ?_; refine yV ?_; refine yB ?_
    obtain ⟨E3, hE3⟩ : ∃ E3, E3 = JE.fail E2 (decide (k ≠ 0 ∧ op ≠ 1)) 5 := ⟨_, rfl⟩
    rw [← hE3]
    refine XOA.join (List.take_append_drop 6 _).symm [(40, 40), (42, 42), (45, 50)] (fun _ : Unit => [(40, ptr b), (42, i64 v), (50, .bool (decide (op = 2 ∨ op = 3)))]) (fun _ σ' Γ' => σ = σ' ∧ Γ' = [Look b (.slice p n c) bs E3, blk g4 [i64 op, i64 v, i64 k, .slice pl l.length cl] 93]) ?_ ?_
    · 
      by_cases h1 : op = 2
      · rw [show decide (op = 2 ∨ op = 3) = true from decide_eq_true (.inl h1)]
        refine yE ?_; refine yA ?_
        first | refine gV ?_ | refine zH ?_
        first | refine gB ?_ | refine zH ?_
        first | refine gE ?_ | refine zH ?_
        refine zO rfl zP ?_; refine zN (zT ?_)
        refine ⟨(Keep.upd (Keep.upd (Keep.upd (Keep.upd (Keep.upd (Keep.upd (Keep.refl _ _) rfl) rfl) rfl) rfl) rfl) rfl), (), _, zM, ?_, ⟨rfl, rfl⟩⟩
        · exact zE
      · rw [show decide (op = 2 ∨ op = 3) = decide (op = 3) from by rw [decide_eq_decide]; omega]
        refine yE ?_; refine yA ?_
        first | refine gV ?_ | refine zH ?_
        first | refine gB ?_ | refine zH ?_
        first | refine gE ?_ | refine zH ?_
        refine zO rfl zP ?_; refine zN (zT ?_)
        refine ⟨(Keep.upd (Keep.upd (Keep.upd (Keep.upd (Keep.upd (Keep.upd (Keep.refl _ _) rfl) rfl) rfl) rfl) rfl) rfl), (), _, zM, ?_, ⟨rfl, rfl⟩⟩
        · exact zE
    rintro - δ2 _ _ ⟨rfl, rfl⟩
    dsimp only [ovr, List.foldl]
    refine yC (variable_a σ b p n c bs E3 v (decide (op = 2 ∨ op = 3))) ?_
    have hH : JE.named E3 n v (decide (op = 2 ∨ op = 3)) = exHead n deep op v k l.length (.ok a) := by
      rw [hE3, hE2, fail_or, exHead]
      congr 2
      rw [← Bool.decide_or, decide_eq_decide]
      constructor
      · rintro (h | h)
        · exact .inl (fun e => h e.symm)
        · exact .inr h
      · rintro (h | h)
        · exact .inl (fun e => h e.symm)
        · exact .inr h
    rw [hH]
    clear hH hE3 hE2
    refine zN (zT (zS (zR (yS ?_)))); refine zN (zT (XA.block ?_))
    refine XA.gen [(0, _), (2, _), (4, _), (7, _)] ⟨(by with_reducible (conv => lhs; whnf)), (by with_reducible (conv => lhs; whnf)), (by with_reducible (conv => lhs; whnf)), (by with_reducible (conv => lhs; whnf)), trivial⟩ (fun δ => ?_)
    dsimp only [List.foldl]
    refine XA.loop [(7, 7), (52, 74)] (fun q : Nat => [(7, i64 q)]) (fun q σ' Γ' => σ = σ' ∧ q ≤ l.length ∧ Γ' = [Look b (.slice p n c) bs (exsE n (deep + 1) (l.take q) (exHead n deep op v k l.length (.ok a))), blk g4 [i64 op, i64 v, i64 k, .slice pl l.length cl] 93]) (fun q => l.length - q) 0 (by exact ⟨rfl, trivial⟩) (Δ0 := _) ?_ (⟨rfl, Nat.zero_le _, rfl⟩) ?_
    · rw [List.take_zero, exsE]; exact zE
    rintro q δ _ _ ⟨rfl, hq, rfl⟩
    dsimp only [ovr, List.foldl]
    have hin2 : (exsE n (deep + 1) (l.take q) (exHead n deep op v k l.length (.ok a))).in_ := in_of (Down.exsE n (l.take q)) (in_of (Down.exHead n op v k l.length) hin deep) (deep + 1)
    have hin3 : (exHead n deep op v k l.length (.ok a)).in_ := in_of (Down.exHead n op v k l.length) hin deep
    have hpost : exE n deep (.mk op v k l) (.ok a) = exsE n (deep + 1) l (exHead n deep op v k l.length (.ok a)) := by rw [exE]
    by_cases hlt : q < l.length
    · obtain ⟨x', hx'⟩ : ∃ x', l[q]? = some x' := ⟨_, List.getElem?_eq_getElem hlt⟩
      obtain ⟨g, o, row, rfl, hrx, hrl, hrow⟩ := hl.at hx'
      have hone := hrx.ones
      have e1 := exsE_snoc n (deep + 1) l q x' (exHead n deep op v k l.length (.ok a)) hx'
      refine zS (zS (zR (yA ?_))); refine yV ?_; refine yB ?_; refine zO rfl (Rd.lenSlice (tyrow rfl) rfl rfl) ?_; refine zO rfl (Rd.lss rfl rfl) ?_; refine yA ?_
      first | refine gA ?_ | refine zH ?_
      cases hst : exsE n (deep + 1) (l.take q) (exHead n deep op v k l.length (.ok a)) with
      | error c' =>
        have hfin : exsE n (deep + 1) l (exHead n deep op v k l.length (.ok a)) = .error c' := by
          have := exsE_app n (deep + 1) (l.take q) (l.drop q) (exHead n deep op v k l.length (.ok a))
          rw [List.take_append_drop, hst, exsE_err] at this
          exact this
        first | refine XA.opn (R := Look b (.slice p n c) bs (.error c')) zL (Look.errO) ?_ | refine XOA.opn (R := Look b (.slice p n c) bs (.error c')) zL (Look.errO) ?_ | refine DA.opn (R := Look b (.slice p n c) bs (.error c')) zL (Look.errO) ?_
        rintro lf h0
        first | refine XA.cl ?_ | refine XOA.cl ?_ | refine DA.cl ?_
        first | (refine zG ?_; refine zO rfl (Rd.nilCheck rfl) ?_) | refine zH ?_
        first | refine gV ?_ | refine zH ?_
        first | refine gB ?_ | refine zH ?_
        first | refine gE ?_ | refine zH ?_
        refine zO rfl zP ?_; refine zN (zT ?_)
        rw [hpost, hfin]
        refine XA.condF rfl (decide_eq_false h0) (XA.exit (DA.thn_exit (DA.thn_exit (DA.inb_same ?_))))
        exact bodyA.normal (ResA.none rfl) (Ent.fold1 zE (Look.mkE h0)) ⟨rfl, rfl, rfl⟩
      | ok a2 =>
        have hd12 : deep ≤ 12 := by
          apply one_ok (e := .ok a)
          cases hq1 : JE.one (.ok a) deep with
          | ok _ => rfl
          | error c' => exfalso; rw [exHead, hq1, fail_err, fail_err, named_err, exsE_err] at hst; cases hst
        rw [hst] at e1 hin2
        first | refine XA.opn (R := Look b (.slice p n c) bs (.ok a2)) zL (Look.okO) ?_ | refine XOA.opn (R := Look b (.slice p n c) bs (.ok a2)) zL (Look.okO) ?_ | refine DA.opn (R := Look b (.slice p n c) bs (.ok a2)) zL (Look.okO) ?_
        rintro ⟨⟩ -
        first | refine XA.cl ?_ | refine XOA.cl ?_ | refine DA.cl ?_
        first | (refine zG ?_; refine zO rfl (Rd.nilCheck rfl) ?_) | refine zH ?_
        first | refine gV ?_ | refine zH ?_
        first | refine gB ?_ | refine zH ?_
        first | refine gE ?_ | refine zH ?_
        refine zO rfl zP ?_; refine zN (zT (yT rfl rfl (XA.skip (zT (zS (XA.block (zR (yA ?_)))))))); refine yV ?_; refine yB ?_; refine yA ?_; refine zO rfl (Rd.ixS rfl rfl) ?_; refine zO rfl (Rd.ldA rfl) ?_; refine yA ?_; refine zO rfl zI ?_
        refine XOA.ent (Ent.foldC (Θ := [_]) zD (Look.mkO (l := a2) rfl) (Ent.refl _)) ?_
        refine yC (ih x' (List.mem_of_getElem? hx') row b p n c bs (.ok a2) (deep + 1) hrx hin2 (by omega) (by omega)) ?_; refine zN (DA.inb_normal (zT (zR (yA ?_)))); refine zO rfl zI ?_; refine yS ?_; refine zN (zT ?_)
        refine ⟨(Keep.upd (Keep.upd (Keep.upd (Keep.updO (Keep.upd (Keep.upd (Keep.upd (Keep.upd (Keep.upd (Keep.upd (Keep.upd (Keep.upd (Keep.upd (Keep.upd (Keep.upd (Keep.upd (Keep.upd (Keep.upd (Keep.upd (Keep.upd (Keep.upd (Keep.upd (Keep.upd (Keep.upd (Keep.upd (Keep.hav (Keep.hav (Keep.refl _ _) rfl) rfl) rfl) rfl) rfl) rfl) rfl) rfl) rfl) rfl) rfl) rfl) rfl) rfl) rfl) rfl) rfl) rfl) rfl) rfl) rfl) rfl) rfl) rfl) rfl) rfl) rfl), q + 1, _, zM, ?_, ⟨rfl, hlt, by rw [e1]⟩, (by omega)⟩
        · exact zE
    have hqn : q = l.length := by omega
    subst hqn
    rw [List.take_length, hpost]
    refine zS (zS (zR (yA ?_))); refine yV ?_; refine yB ?_; refine zO rfl (Rd.lenSlice (tyrow rfl) rfl rfl) ?_; refine zO rfl (Rd.lss rfl rfl) ?_; refine yA ?_
    first | refine gA ?_ | refine zH ?_
    first | (refine zG ?_; refine zO rfl (Rd.nilCheck rfl) ?_) | refine zH ?_
    first | refine gV ?_ | refine zH ?_
    first | refine gB ?_ | refine zH ?_
    first | refine gE ?_ | refine zH ?_
    refine zO rfl zP ?_; refine zN (zT (XA.condF rfl zY ?_)); refine XA.exit (DA.thn_exit (DA.thn_exit (DA.inb_same ?_)))
    exact bodyA.normal (ResA.none rfl) zE ⟨rfl, rfl, rfl⟩
end Go.Proofs.YtmnmcjdgnpgchaaGreat

namespace Go.Proofs.YtmnmcjdgnpgchaaGreat
open Go X
set_option maxHeartbeats 1000000
def RStmtsOK (σ : PH) (l : List St) : Prop := ∀ (sl : Value) (b : Nat) (p : Option Addr) (n c : Nat) (bs : Value) (e : JE) (deep : Int), PSl 12 StAt σ sl l → e.in_ → 0 ≤ deep → (deep ≤ 900 ∧ (e.isOk = true → deep ≤ 13)) →
  CallsA Tryz.prog 29 #[ptr b, sl, i64 deep] σ [Look b (.slice p n c) bs e] (RetA fun r σ' Γ' => r = .tuple #[] ∧ σ = σ' ∧ Γ' = [Look b (.slice p n c) bs (stsE n deep l e)])
theorem st_form (op : Int) (ex fx : Ex) (kb ke : Nat) (s : JE) : (s.fail ((!needE op && !noneX ex) || (!needF op && !noneX fx)) 5).fail ((!needB op && decide ((0 : Int) < (kb : Int))) || (!needO op && decide ((0 : Int) < (ke : Int)))) 5 = s.fail (stForm op ex fx kb ke) 5 := by
  rw [fail_or, stForm]
  congr 1
  simp only [Bool.or_assoc]
theorem rstmts_l (σ : PH) (l : List St) (ih : ∀ x ∈ l, RStmtsOK σ x.body ∧ RStmtsOK σ x.els) : RStmtsOK σ l := by
  intro sl b p n c bs e deep hl hin hd0 ⟨hd1, hd13⟩
  obtain ⟨pl, cl, rfl, hle, hmx⟩ := hl.shape
  have hlen : l.length ≤ maxLen := by omega
  simp only [maxLen] at hlen
  refine enterA3 Tryz.func29 rfl rfl rfl ?_; refine zS (zR (yS ?_)); refine zN (zT (XA.block ?_))
  refine XA.gen [(0, _), (1, _), (2, _), (6, _)] ⟨(by with_reducible (conv => lhs; whnf)), (by with_reducible (conv => lhs; whnf)), (by with_reducible (conv => lhs; whnf)), (by with_reducible (conv => lhs; whnf)), trivial⟩ (fun δ => ?_)
  dsimp only [List.foldl]
  refine XA.loop [(6, 122)] (fun q : Nat => [(6, i64 q)]) (fun q σ' Γ' => σ = σ' ∧ q ≤ l.length ∧ Γ' = [Look b (.slice p n c) bs (stsE n deep (l.take q) e)]) (fun q => l.length - q) 0 (by exact ⟨rfl, trivial⟩) (Δ0 := _) ?_ (⟨rfl, Nat.zero_le _, rfl⟩) ?_
  · rw [List.take_zero, stsE]; exact zE
  rintro q δ _ _ ⟨rfl, hq, rfl⟩
  dsimp only [ovr, List.foldl]
  have hin2 : (stsE n deep (l.take q) e).in_ := in_of (Down.stsE n (l.take q)) hin deep
  by_cases hlt : q < l.length
  · obtain ⟨x, hx⟩ : ∃ x, l[q]? = some x := ⟨_, List.getElem?_eq_getElem hlt⟩
    obtain ⟨g, o, row, rfl, hrx, hrl, hrow⟩ := hl.at hx
    have hone := hrx.ones
    have e1 := stsE_snoc n deep l q x e hx
    obtain ⟨ihb, ihe⟩ := ih x (List.mem_of_getElem? hx)
    refine zS (zS (zR (yA ?_))); refine yA ?_; refine zO rfl (Rd.lenSlice (tyrow rfl) rfl rfl) ?_; refine zO rfl (Rd.lss rfl rfl) ?_; refine yA ?_
    first | refine gA ?_ | refine zH ?_
    cases hst : stsE n deep (l.take q) e with
    | error c' =>
      have hfin : stsE n deep l e = .error c' := by
        have := stsE_app n deep (l.take q) (l.drop q) e
        rw [List.take_append_drop, hst, stsE_err] at this
        exact this
      rw [hfin]
      first | refine XA.opn (R := Look b (.slice p n c) bs (.error c')) zL (Look.errO) ?_ | refine XOA.opn (R := Look b (.slice p n c) bs (.error c')) zL (Look.errO) ?_ | refine DA.opn (R := Look b (.slice p n c) bs (.error c')) zL (Look.errO) ?_
      rintro lf h0
      first | refine XA.cl ?_ | refine XOA.cl ?_ | refine DA.cl ?_
      first | (refine zG ?_; refine zO rfl (Rd.nilCheck rfl) ?_) | refine zH ?_
      first | refine gV ?_ | refine zH ?_
      first | refine gB ?_ | refine zH ?_
      first | refine gE ?_ | refine zH ?_
      refine zO rfl zP ?_; refine zN (zT (XA.condF rfl (decide_eq_false h0) (XA.exit (DA.thn_exit (DA.thn_exit (DA.inb_same ?_))))))
      exact bodyA.normal (ResA.none rfl) (Ent.fold1 zE (Look.mkE h0)) ⟨rfl, rfl, rfl⟩
    | ok a =>
      have hdp : deep ≤ 13 := hd13 (by
        cases e with
        | ok _ => rfl
        | error c' => rw [stsE_err] at hst; cases hst)
      rw [hst] at e1 hin2
      obtain ⟨op, v, ex, fx, body, els⟩ := x
      obtain ⟨pe, de, pf, df, pb, cb, pl', cl', rfl, -, -, hxe, hxf, hxb, hxl⟩ := hrx.inv12
      simp only [St.op, St.v, St.e, St.f, St.body, St.els] at hxe hxf hxb hxl hrow hone hrl ihb ihe
      clear hrx
      obtain ⟨nE, nF, nV, nB, nO⟩ := need_op op
      obtain ⟨qE, hqE⟩ : ∃ q, q = needE op := ⟨_, rfl⟩
      obtain ⟨qF, hqF⟩ : ∃ q, q = needF op := ⟨_, rfl⟩
      obtain ⟨qV, hqV⟩ : ∃ q, q = needV op := ⟨_, rfl⟩
      obtain ⟨qB, hqB⟩ : ∃ q, q = needB op := ⟨_, rfl⟩
      obtain ⟨qO, hqO⟩ : ∃ q, q = needO op := ⟨_, rfl⟩
      rw [← hqE] at nE
      rw [← hqF] at nF
      rw [← hqV] at nV
      rw [← hqB] at nB
      rw [← hqO] at nO
      obtain ⟨cells, hcells⟩ : ∃ l, l = [i64 op, i64 v, i64 ex.op, i64 ex.v, i64 ex.n, .slice pe ex.l.length de, i64 fx.op, i64 fx.v, i64 fx.n, .slice pf fx.l.length df, .slice pb body.length cb, .slice pl' els.length cl'] := ⟨_, rfl⟩
      obtain ⟨ne, hne⟩ : ∃ q, q = noneX ex := ⟨_, rfl⟩
      obtain ⟨nf, hnf⟩ : ∃ q, q = noneX fx := ⟨_, rfl⟩
      obtain ⟨A1, hA1⟩ : ∃ A, A = (!qE && !ne) := ⟨_, rfl⟩
      obtain ⟨A2, hA2⟩ : ∃ A, A = (A1 || (!qF && !nf)) := ⟨_, rfl⟩
      obtain ⟨A3, hA3⟩ : ∃ A, A = (!qB && decide ((0 : Int) < (body.length : Int))) := ⟨_, rfl⟩
      obtain ⟨A4, hA4⟩ : ∃ A, A = (A3 || (!qO && decide ((0 : Int) < (els.length : Int)))) := ⟨_, rfl⟩
      have hform : ∀ s : JE, (s.fail A2 5).fail A4 5 = s.fail (stForm op ex fx body.length els.length) 5 := fun s => by rw [hA2, hA4, hA1, hA3, hne, hnf, hqE, hqF, hqB, hqO, st_form]
      first | refine XA.opn (R := Look b (.slice p n c) bs (.ok a)) zL (Look.okO) ?_ | refine XOA.opn (R := Look b (.slice p n c) bs (.ok a)) zL (Look.okO) ?_ | refine DA.opn (R := Look b (.slice p n c) bs (.ok a)) zL (Look.okO) ?_
      rintro ⟨⟩ -
      first | refine XA.cl ?_ | refine XOA.cl ?_ | refine DA.cl ?_
      first | (refine zG ?_; refine zO rfl (Rd.nilCheck rfl) ?_) | refine zH ?_
      first | refine gV ?_ | refine zH ?_
      first | refine gB ?_ | refine zH ?_
      first | refine gE ?_ | refine zH ?_
      refine zO rfl zP ?_; refine zN (zT (yT rfl rfl (XA.skip (zT (zS (XA.block (zS (zR (yA ?_))))))))); refine yA ?_; refine zO rfl (Rd.ixS rfl rfl) ?_; refine zO rfl (Rd.ldA rfl) ?_; refine zw rfl (WrA.alloc (tyrow rfl)) ?_
      rintro _ _ _ ⟨g7, rfl, rfl, rfl⟩
      refine zw rfl (WrA.st (tyrow rfl) rfl) ?_
      rintro _ _ _ ⟨rfl, rfl, rfl⟩
      refine zN (zT (zS (zR (yA ?_)))); refine yA ?_; refine XOA.ent (Ent.foldC (Θ := [_]) zD (Look.mkO (l := a) rfl) (Ent.refl _)) ?_; refine yC (head_a σ b (.slice p n c) bs (.ok a) deep hin2) ?_; refine zN (zT (zS (zR (yA ?_)))); refine yV ?_; refine yB ?_
      obtain ⟨E1, hE1⟩ : ∃ E1, E1 = JE.one (.ok a) deep := ⟨_, rfl⟩
      rw [← hE1, ← hcells]
      refine XOA.join (List.take_append_drop 6 _).symm [(28, 28), (31, 36)] (fun _ : Unit => [(28, ptr b), (36, .bool (decide (op < 1 ∨ 7 < op)))]) (fun _ σ' Γ' => σ = σ' ∧ Γ' = [Look b (.slice p n c) bs E1, blk g7 cells 96]) ?_ ?_
      · rw [hcells]
        by_cases h1 : op < 1
        · rw [show decide (op < 1 ∨ 7 < op) = true from decide_eq_true (.inl h1)]
          refine zO rfl (Rd.lss rfl rfl) ?_; refine yA ?_
          first | refine gV ?_ | refine zH ?_
          first | refine gB ?_ | refine zH ?_
          first | (refine zG ?_; refine zO rfl (Rd.gtr rfl rfl) ?_) | refine zH ?_
          refine zO rfl zP ?_; refine zN (zT ?_)
          refine ⟨(Keep.upd (Keep.upd (Keep.upd (Keep.upd (Keep.upd (Keep.upd (Keep.refl _ _) rfl) rfl) rfl) rfl) rfl) rfl), (), _, zM, ?_, ⟨rfl, rfl⟩⟩
          · exact zE
        · rw [show decide (op < 1 ∨ 7 < op) = decide (7 < op) from by rw [decide_eq_decide]; omega]
          refine zO rfl (Rd.lss rfl rfl) ?_; refine yA ?_
          first | refine gV ?_ | refine zH ?_
          first | refine gB ?_ | refine zH ?_
          first | (refine zG ?_; refine zO rfl (Rd.gtr rfl rfl) ?_) | refine zH ?_
          refine zO rfl zP ?_; refine zN (zT ?_)
          refine ⟨(Keep.upd (Keep.upd (Keep.upd (Keep.upd (Keep.upd (Keep.upd (Keep.refl _ _) rfl) rfl) rfl) rfl) rfl) rfl), (), _, zM, ?_, ⟨rfl, rfl⟩⟩
          · exact zE
      rintro - δ1 _ _ ⟨rfl, rfl⟩
      dsimp only [ovr, List.foldl]
      rw [hcells]
      refine yC (bad_a σ b _ bs E1 (decide (op < 1 ∨ 7 < op)) 2 (by decide)) ?_; refine zN (zT (zS (zR (yA ?_)))); refine yV ?_; refine yB ?_
      obtain ⟨E2, hE2⟩ : ∃ E2, E2 = JE.fail E1 (decide (op < 1 ∨ 7 < op)) 2 := ⟨_, rfl⟩
      rw [← hE2]
      refine yC (rneeded_a σ op 101) ?_
      rw [nE, ← hcells]
      refine zO rfl zJ ?_; refine XOA.join (List.take_append_drop 7 _).symm [(38, 38), (43, 49)] (fun _ : Unit => [(38, ptr b), (49, .bool A1)]) (fun _ σ' Γ' => σ = σ' ∧ Γ' = [Look b (.slice p n c) bs E2, blk g7 cells 96]) ?_ ?_
      · rw [hcells]
        cases hn : qE with
        | true =>
          rw [show A1 = false by rw [hA1, hn]; rfl]
          refine yA ?_
          first | refine gV ?_ | refine zH ?_
          first | (refine zG ?_; refine zO rfl (Rd.ldA rfl) ?_) | refine zH ?_
          first | refine zH ?_
          first | (refine zG ?_; refine zO rfl zJ ?_) | refine zH ?_
          refine zO rfl zP ?_; refine yA ?_; refine zN (zT ?_)
          refine ⟨(Keep.upd (Keep.upd (Keep.upd (Keep.upd (Keep.upd (Keep.upd (Keep.upd (Keep.refl _ _) rfl) rfl) rfl) rfl) rfl) rfl) rfl), (), _, zM, ?_, ⟨rfl, rfl⟩⟩
          · exact zE
        | false =>
          rw [show A1 = !ne by rw [hA1, hn]; rfl]
          refine yA ?_
          first | refine gV ?_ | refine zH ?_
          first | (refine zG ?_; refine zO rfl (Rd.ldA rfl) ?_) | refine zH ?_
          first | refine XOA.wanted rfl rfl ?_ | refine XOA.wq rfl rfl ?_
          refine yC (rzero_a σ _ _ hxe) ?_
          rw [← hne]
          first | (refine zG ?_; refine zO rfl zJ ?_) | refine zH ?_
          refine zO rfl zP ?_; refine yA ?_; refine zN (zT ?_)
          refine ⟨(Keep.upd (Keep.upd (Keep.upd (Keep.updO (Keep.upd (Keep.upd (Keep.upd (Keep.refl _ _) rfl) rfl) rfl) rfl) rfl) rfl) rfl), (), _, zM, ?_, ⟨rfl, rfl⟩⟩
          · exact zE
      rintro - δ2 _ _ ⟨rfl, rfl⟩
      dsimp only [ovr, List.foldl]
      refine XOA.join (List.take_append_drop 11 _).symm [(38, 38), (50, 60)] (fun _ : Unit => [(38, ptr b), (60, .bool A2)]) (fun _ σ' Γ' => σ = σ' ∧ Γ' = [Look b (.slice p n c) bs E2, blk g7 cells 96]) ?_ ?_
      · rw [hcells]
        cases hB : A1 with
        | true =>
          rw [show A2 = true by rw [hA2, hB]; rfl]
          first | refine gV ?_ | refine zH ?_
          first | refine gB ?_ | refine zH ?_
          first | refine zH ?_
          first | (refine zG ?_; refine zO rfl zJ ?_) | refine zH ?_
          first | refine gA ?_ | refine zH ?_
          first | refine gV ?_ | refine zH ?_
          first | (refine zG ?_; refine zO rfl (Rd.ldA rfl) ?_) | refine zH ?_
          first | refine zH ?_
          first | (refine zG ?_; refine zO rfl zJ ?_) | refine zH ?_
          first | (refine zG ?_; refine zO rfl zP ?_) | refine zH ?_
          refine zO rfl zP ?_; refine zN (zT ?_)
          refine ⟨(Keep.upd (Keep.upd (Keep.upd (Keep.upd (Keep.upd (Keep.upd (Keep.upd (Keep.upd (Keep.upd (Keep.upd (Keep.upd (Keep.refl _ _) rfl) rfl) rfl) rfl) rfl) rfl) rfl) rfl) rfl) rfl) rfl), (), _, zM, ?_, ⟨rfl, rfl⟩⟩
          · exact zE
        | false =>
          rw [hB, Bool.false_or] at hA2
          first | refine gV ?_ | refine zH ?_
          first | refine gB ?_ | refine zH ?_
          first | refine XOA.wanted rfl rfl ?_ | refine XOA.wq rfl rfl ?_
          refine yC (rneeded_a σ op 102) ?_
          rw [nF]
          cases hn : qF with
          | true =>
            rw [show A2 = false by rw [hA2, hn]; rfl]
            first | (refine zG ?_; refine zO rfl zJ ?_) | refine zH ?_
            first | refine gA ?_ | refine zH ?_
            first | refine gV ?_ | refine zH ?_
            first | (refine zG ?_; refine zO rfl (Rd.ldA rfl) ?_) | refine zH ?_
            first | refine zH ?_
            first | (refine zG ?_; refine zO rfl zJ ?_) | refine zH ?_
            first | (refine zG ?_; refine zO rfl zP ?_) | refine zH ?_
            refine zO rfl zP ?_; refine zN (zT ?_)
            refine ⟨(Keep.upd (Keep.upd (Keep.upd (Keep.upd (Keep.upd (Keep.upd (Keep.upd (Keep.upd (Keep.updO (Keep.upd (Keep.upd (Keep.refl _ _) rfl) rfl) rfl) rfl) rfl) rfl) rfl) rfl) rfl) rfl) rfl), (), _, zM, ?_, ⟨rfl, rfl⟩⟩
            · exact zE
          | false =>
            rw [show A2 = !nf by rw [hA2, hn]; rfl]
            first | (refine zG ?_; refine zO rfl zJ ?_) | refine zH ?_
            first | refine gA ?_ | refine zH ?_
            first | refine gV ?_ | refine zH ?_
            first | (refine zG ?_; refine zO rfl (Rd.ldA rfl) ?_) | refine zH ?_
            first | refine XOA.wanted rfl rfl ?_ | refine XOA.wq rfl rfl ?_
            refine yC (rzero_a σ _ _ hxf) ?_
            rw [← hnf]
            first | (refine zG ?_; refine zO rfl zJ ?_) | refine zH ?_
            first | (refine zG ?_; refine zO rfl zP ?_) | refine zH ?_
            refine zO rfl zP ?_; refine zN (zT ?_)
            refine ⟨(Keep.upd (Keep.upd (Keep.upd (Keep.updO (Keep.upd (Keep.upd (Keep.upd (Keep.upd (Keep.updO (Keep.upd (Keep.upd (Keep.refl _ _) rfl) rfl) rfl) rfl) rfl) rfl) rfl) rfl) rfl) rfl) rfl), (), _, zM, ?_, ⟨rfl, rfl⟩⟩
            · exact zE
      rintro - δ3 _ _ ⟨rfl, rfl⟩
      dsimp only [ovr, List.foldl]
      rw [hcells]
      refine yC (bad_a σ b _ bs E2 A2 5 (by decide)) ?_; refine zN (zT (zS (zR (yA ?_)))); refine yV ?_; refine yB ?_
      obtain ⟨E3, hE3⟩ : ∃ E3, E3 = JE.fail E2 A2 5 := ⟨_, rfl⟩
      rw [← hE3]
      refine yC (rneeded_a σ op 98) ?_
      rw [nB, ← hcells]
      refine zO rfl zJ ?_; refine XOA.join (List.take_append_drop 7 _).symm [(62, 62), (67, 73)] (fun _ : Unit => [(62, ptr b), (73, .bool A3)]) (fun _ σ' Γ' => σ = σ' ∧ Γ' = [Look b (.slice p n c) bs E3, blk g7 cells 96]) ?_ ?_
      · rw [hcells]
        cases hn : qB with
        | true =>
          rw [show A3 = false by rw [hA3, hn]; rfl]
          refine yA ?_
          first | refine gV ?_ | refine zH ?_
          first | refine gB ?_ | refine zH ?_
          first | (refine zG ?_; refine zO rfl (Rd.lenSlice (tyrow rfl) rfl rfl) ?_) | refine zH ?_
          first | (refine zG ?_; refine zO rfl (Rd.gtr rfl rfl) ?_) | refine zH ?_
          refine zO rfl zP ?_; refine yA ?_; refine zN (zT ?_)
          refine ⟨(Keep.upd (Keep.upd (Keep.upd (Keep.upd (Keep.upd (Keep.upd (Keep.upd (Keep.refl _ _) rfl) rfl) rfl) rfl) rfl) rfl) rfl), (), _, zM, ?_, ⟨rfl, rfl⟩⟩
          · exact zE
        | false =>
          rw [show A3 = decide ((0 : Int) < (body.length : Int)) by rw [hA3, hn]; rfl]
          refine yA ?_
          first | refine gV ?_ | refine zH ?_
          first | refine gB ?_ | refine zH ?_
          first | (refine zG ?_; refine zO rfl (Rd.lenSlice (tyrow rfl) rfl rfl) ?_) | refine zH ?_
          first | (refine zG ?_; refine zO rfl (Rd.gtr rfl rfl) ?_) | refine zH ?_
          refine zO rfl zP ?_; refine yA ?_; refine zN (zT ?_)
          refine ⟨(Keep.upd (Keep.upd (Keep.upd (Keep.upd (Keep.upd (Keep.upd (Keep.upd (Keep.refl _ _) rfl) rfl) rfl) rfl) rfl) rfl) rfl), (), _, zM, ?_, ⟨rfl, rfl⟩⟩
          · exact zE
      rintro - δ4 _ _ ⟨rfl, rfl⟩
      dsimp only [ovr, List.foldl]
      refine XOA.join (List.take_append_drop 11 _).symm [(62, 62), (74, 84)] (fun _ : Unit => [(62, ptr b), (84, .bool A4)]) (fun _ σ' Γ' => σ = σ' ∧ Γ' = [Look b (.slice p n c) bs E3, blk g7 cells 96]) ?_ ?_
      · rw [hcells]
        cases hB : A3 with
        | true =>
          rw [show A4 = true by rw [hA4, hB]; rfl]
          first | refine gV ?_ | refine zH ?_
          first | refine gB ?_ | refine zH ?_
          first | refine zH ?_
          first | (refine zG ?_; refine zO rfl zJ ?_) | refine zH ?_
          first | refine gA ?_ | refine zH ?_
          first | refine gV ?_ | refine zH ?_
          first | refine gB ?_ | refine zH ?_
          first | (refine zG ?_; refine zO rfl (Rd.lenSlice (tyrow rfl) rfl rfl) ?_) | refine zH ?_
          first | (refine zG ?_; refine zO rfl (Rd.gtr rfl rfl) ?_) | refine zH ?_
          first | (refine zG ?_; refine zO rfl zP ?_) | refine zH ?_
          refine zO rfl zP ?_; refine zN (zT ?_)
          refine ⟨(Keep.upd (Keep.upd (Keep.upd (Keep.upd (Keep.upd (Keep.upd (Keep.upd (Keep.upd (Keep.upd (Keep.upd (Keep.upd (Keep.refl _ _) rfl) rfl) rfl) rfl) rfl) rfl) rfl) rfl) rfl) rfl) rfl), (), _, zM, ?_, ⟨rfl, rfl⟩⟩
          · exact zE
        | false =>
          rw [hB, Bool.false_or] at hA4
          first | refine gV ?_ | refine zH ?_
          first | refine gB ?_ | refine zH ?_
          first | refine XOA.wanted rfl rfl ?_ | refine XOA.wq rfl rfl ?_
          refine yC (rneeded_a σ op 111) ?_
          rw [nO]
          cases hn : qO with
          | true =>
            rw [show A4 = false by rw [hA4, hn]; rfl]
            first | (refine zG ?_; refine zO rfl zJ ?_) | refine zH ?_
            first | refine gA ?_ | refine zH ?_
            first | refine gV ?_ | refine zH ?_
            first | refine gB ?_ | refine zH ?_
            first | (refine zG ?_; refine zO rfl (Rd.lenSlice (tyrow rfl) rfl rfl) ?_) | refine zH ?_
            first | (refine zG ?_; refine zO rfl (Rd.gtr rfl rfl) ?_) | refine zH ?_
            first | (refine zG ?_; refine zO rfl zP ?_) | refine zH ?_
            refine zO rfl zP ?_; refine zN (zT ?_)
            refine ⟨(Keep.upd (Keep.upd (Keep.upd (Keep.upd (Keep.upd (Keep.upd (Keep.upd (Keep.upd (Keep.updO (Keep.upd (Keep.upd (Keep.refl _ _) rfl) rfl) rfl) rfl) rfl) rfl) rfl) rfl) rfl) rfl) rfl), (), _, zM, ?_, ⟨rfl, rfl⟩⟩
            · exact zE
          | false =>
            rw [show A4 = decide ((0 : Int) < (els.length : Int)) by rw [hA4, hn]; rfl]
            first | (refine zG ?_; refine zO rfl zJ ?_) | refine zH ?_
            first | refine gA ?_ | refine zH ?_
            first | refine gV ?_ | refine zH ?_
            first | refine gB ?_ | refine zH ?_
            first | (refine zG ?_; refine zO rfl (Rd.lenSlice (tyrow rfl) rfl rfl) ?_) | refine zH ?_
            first | (refine zG ?_; refine zO rfl (Rd.gtr rfl rfl) ?_) | refine zH ?_
            first | (refine zG ?_; refine zO rfl zP ?_) | refine zH ?_
            refine zO rfl zP ?_; refine zN (zT ?_)
            refine ⟨(Keep.upd (Keep.upd (Keep.upd (Keep.upd (Keep.upd (Keep.upd (Keep.upd (Keep.upd (Keep.updO (Keep.upd (Keep.upd (Keep.refl _ _) rfl) rfl) rfl) rfl) rfl) rfl) rfl) rfl) rfl) rfl) rfl), (), _, zM, ?_, ⟨rfl, rfl⟩⟩
            · exact zE
      rintro - δ5 _ _ ⟨rfl, rfl⟩
      dsimp only [ovr, List.foldl]
      rw [hcells]
      refine yC (bad_a σ b _ bs E3 A4 5 (by decide)) ?_; refine zN (zT (zS ?_))
      rw [show JE.fail E3 A4 5 = JE.fail E2 (stForm op ex fx body.length els.length) 5 by rw [hE3, hform]]
      obtain ⟨H, hH⟩ : ∃ H, H = stHead n deep op v ex fx body.length els.length (.ok a) := ⟨_, rfl⟩
      have hHi : H.in_ := by rw [hH]; exact in_of (Down.stHead n op v ex fx body.length els.length) hin2 deep
      have hHn : JE.named (JE.fail E2 (stForm op ex fx body.length els.length) 5) n v qV = H := by rw [hH, stHead, hE2, hE1, hqV]
      obtain ⟨H1, hH1⟩ : ∃ H1, H1 = if qE = true then exE n (deep + 1) ex H else H := ⟨_, rfl⟩
      have hH1i : H1.in_ := by
        rw [hH1]; split
        · exact in_of (Down.exE n ex) hHi (deep + 1)
        · exact hHi
      obtain ⟨H2, hH2⟩ : ∃ H2, H2 = if qF = true then exE n (deep + 1) fx H1 else H1 := ⟨_, rfl⟩
      have hH2i : H2.in_ := by
        rw [hH2]; split
        · exact in_of (Down.exE n fx) hH1i (deep + 1)
        · exact hH1i
      have hend : stE n deep (.mk op v ex fx body els) (.ok a) = stsE n (deep + 1) els (stsE n (deep + 1) body H2) := by
        rw [stE, stEF, ← hqE, ← hqF, ← hH, ← hH1, ← hH2]
      have hdd : H2.isOk = true → deep ≤ 12 := fun h => by
        apply one_ok (e := .ok a)
        cases h1 : JE.one (.ok a) deep with
        | ok _ => rfl
        | error c' =>
          exfalso
          have e0 : H = .error c' := by rw [hH, stHead, h1, fail_err, fail_err, named_err]
          have e2 : H2 = .error c' := by rw [hH2, hH1, e0]; simp
          rw [e2] at h; cases h
      have hdd2 : (stsE n (deep + 1) body H2).isOk = true → deep ≤ 12 := fun h => hdd (by
        cases h2 : H2 with
        | ok _ => rfl
        | error c' => rw [h2, stsE_err] at h; cases h)
      clear hform hA1 hA2 hA3 hA4 hE1 hE3 hne hnf hH
      refine XA.draw (by kernel_rfl) _ _ [6] [(0, .pu), (1, .pu), (2, .rd), (3, .pu), (4, .rd), (5, .wr), (6, .wr)] (by kernel_rfl) (PH.sub.refl _) (Ent.sel (R := blk g7 _ _) zL (Ent.nil _)) ?_
      refine zu rfl rfl Rd.mv ?_; refine zu rfl rfl (Rd.fA rfl) ?_; refine XPA.rd rfl rfl Gd.free (Rd.ldC rfl (tyrow rfl) rfl) ?_; refine zu rfl rfl (Rd.fA rfl) ?_; refine XPA.rd rfl rfl Gd.free (Rd.ldC rfl (tyrow rfl) rfl) ?_; refine XPA.wr0 rfl rfl Gd.free (WrA.cE (rneeded_a σ op 118) rfl) ?_
      rintro _ _ _ ⟨_, ⟨rfl, rfl, rfl⟩, rfl⟩
      refine stays (XPA.cl ?_)
      rw [nV]
      refine XPA.wrZ0 rfl rfl Gd.free (by kernel_rfl) (WrA.cE (variable_a σ b p n c bs _ v qV) rfl) ?_
      rintro _ _ _ ⟨_, ⟨rfl, rfl, rfl⟩, rfl⟩
      refine XPA.cl ?_
      rw [hHn]
      refine XPA.nil ?_; refine zT (zS (zS (zR (yV ?_)))); refine yB ?_; refine yC (rneeded_a σ op 101) ?_
      rw [nE, ← hcells]
      refine zN (zT ?_); refine XA.join [(96, 101)] (fun _ : Unit => []) (fun _ σ' Γ' => σ = σ' ∧ Γ' = [Look b (.slice p n c) bs H1, blk g7 cells 96]) ?_ ?_
      · rw [hcells]
        refine XA.cond rfl (fun hq => ?_) (fun hq => ?_)
        · rw [show H1 = exE n (deep + 1) ex H by rw [hH1, if_pos hq]]
          refine zR (yA ?_); refine yV ?_; refine zO rfl (Rd.ldA rfl) ?_; refine yA ?_; refine zO rfl zI ?_
          refine yC (rexpr_a σ ex _ b p n c bs H (deep + 1) hxe hHi (by omega) (by omega)) ?_; refine zN (zT ?_)
          refine ⟨(Keep.updO (Keep.upd (Keep.upd (Keep.upd (Keep.upd (Keep.upd (Keep.refl _ _) rfl) rfl) rfl) rfl) rfl) rfl), (), _, zM, ?_, ⟨rfl, rfl⟩⟩
          · exact zE
        · rw [show H1 = H by rw [hH1, if_neg (by rw [hq]; decide)]]
          refine XA.skip (zT ?_)
          refine ⟨(Keep.refl _ _), (), _, zM, ?_, ⟨rfl, rfl⟩⟩
          · exact zE
      rintro - δ6 _ _ ⟨rfl, rfl⟩
      dsimp only [ovr, List.foldl]
      refine zT ?_
      rw [hcells]
      refine zS (zS (zR (yV ?_))); refine yB ?_; refine yC (rneeded_a σ op 102) ?_
      rw [nF, ← hcells]
      refine zN (zT ?_); refine XA.join [(105, 110)] (fun _ : Unit => []) (fun _ σ' Γ' => σ = σ' ∧ Γ' = [Look b (.slice p n c) bs H2, blk g7 cells 96]) ?_ ?_
      · rw [hcells]
        refine XA.cond rfl (fun hq => ?_) (fun hq => ?_)
        · rw [show H2 = exE n (deep + 1) fx H1 by rw [hH2, if_pos hq]]
          refine zR (yA ?_); refine yV ?_; refine zO rfl (Rd.ldA rfl) ?_; refine yA ?_; refine zO rfl zI ?_
          refine yC (rexpr_a σ fx _ b p n c bs H1 (deep + 1) hxf hH1i (by omega) (by omega)) ?_; refine zN (zT ?_)
          refine ⟨(Keep.updO (Keep.upd (Keep.upd (Keep.upd (Keep.upd (Keep.upd (Keep.refl _ _) rfl) rfl) rfl) rfl) rfl) rfl), (), _, zM, ?_, ⟨rfl, rfl⟩⟩
          · exact zE
        · rw [show H2 = H1 by rw [hH2, if_neg (by rw [hq]; decide)]]
          refine XA.skip (zT ?_)
          refine ⟨(Keep.refl _ _), (), _, zM, ?_, ⟨rfl, rfl⟩⟩
          · exact zE
      rintro - δ7 _ _ ⟨rfl, rfl⟩
      dsimp only [ovr, List.foldl]
      refine zT ?_
      rw [hcells]
      refine zS (zR (yA ?_)); refine yV ?_; refine yB ?_; refine yA ?_; refine zO rfl zI ?_
      refine yC (ihb _ b p n c bs H2 (deep + 1) hxb hH2i (by omega) ⟨by omega, fun h => by have := hdd h; omega⟩) ?_; refine zN (zT (zR (yA ?_))); refine yV ?_; refine yB ?_; refine yA ?_; refine zO rfl zI ?_
      refine yC (ihe _ b p n c bs _ (deep + 1) hxl (in_of (Down.stsE n body) hH2i (deep + 1)) (by omega) ⟨by omega, fun h => by have := hdd2 h; omega⟩) ?_; refine zN (DA.inb_normal (zT (zR (yA ?_)))); refine zO rfl zI ?_; refine yS ?_; refine zN (zT ?_)
      refine ⟨(Keep.upd (Keep.upd (Keep.upd (Keep.updO (Keep.upd (Keep.upd (Keep.upd (Keep.upd (Keep.upd (Keep.updO (Keep.upd (Keep.upd (Keep.upd (Keep.upd (Keep.upd (Keep.hav (Keep.updO (Keep.upd (Keep.upd (Keep.hav (Keep.updO (Keep.upd (Keep.upd (Keep.updO (Keep.updO (Keep.upd (Keep.upd (Keep.upd (Keep.upd (Keep.upd (Keep.updO (Keep.upd (Keep.upd (Keep.hav (Keep.hav (Keep.upd (Keep.upd (Keep.hav (Keep.hav (Keep.upd (Keep.updO (Keep.upd (Keep.upd (Keep.upd (Keep.updO (Keep.upd (Keep.upd (Keep.hav (Keep.hav (Keep.upd (Keep.upd (Keep.hav (Keep.hav (Keep.upd (Keep.updO (Keep.upd (Keep.upd (Keep.upd (Keep.updO (Keep.upd (Keep.upd (Keep.hav (Keep.hav (Keep.upd (Keep.upd (Keep.upd (Keep.updO (Keep.upd (Keep.upd (Keep.updN (Keep.updO (Keep.upd (Keep.upd (Keep.upd (Keep.upd (Keep.upd (Keep.upd (Keep.upd (Keep.upd (Keep.upd (Keep.upd (Keep.upd (Keep.upd (Keep.upd (Keep.upd (Keep.upd (Keep.upd (Keep.hav (Keep.refl _ _) rfl) rfl) rfl) rfl) rfl) rfl) rfl) rfl) rfl) rfl) rfl) rfl) rfl) rfl) rfl) rfl) rfl) rfl)) rfl) rfl) rfl) rfl) rfl) rfl) rfl) rfl) rfl) rfl) rfl) rfl) rfl) rfl) rfl) rfl) rfl) rfl) rfl) rfl) rfl) rfl) rfl) rfl) rfl) rfl) rfl) rfl) rfl) rfl) rfl) rfl) rfl) rfl) rfl) rfl) rfl) rfl) rfl) rfl) rfl) rfl) rfl) rfl) rfl) rfl) rfl) rfl) rfl) rfl) rfl) rfl) rfl) rfl) rfl) rfl) rfl) rfl) rfl) rfl) rfl) rfl) rfl) rfl) rfl) rfl) rfl) rfl) rfl), q + 1, _, zM, ?_, ⟨rfl, hlt, by rw [e1, hend]⟩, (by omega)⟩
      · exact zE
  · 
    have hqn : q = l.length := by omega
    subst hqn
    rw [List.take_length]
    refine zS (zS (zR (yA ?_))); refine yA ?_; refine zO rfl (Rd.lenSlice (tyrow rfl) rfl rfl) ?_; refine zO rfl (Rd.lss rfl rfl) ?_; refine yA ?_
    first | refine gA ?_ | refine zH ?_
    first | (refine zG ?_; refine zO rfl (Rd.nilCheck rfl) ?_) | refine zH ?_
    first | refine gV ?_ | refine zH ?_
    first | refine gB ?_ | refine zH ?_
    first | refine gE ?_ | refine zH ?_
    refine zO rfl zP ?_; refine zN (zT (XA.condF rfl zY ?_)); refine XA.exit (DA.thn_exit (DA.thn_exit (DA.inb_same ?_)))
    exact bodyA.normal (ResA.none rfl) zE ⟨rfl, rfl, rfl⟩
theorem rst_x (σ : PH) (x : St) : RStmtsOK σ x.body ∧ RStmtsOK σ x.els := by
  refine St.ind (P := fun x => RStmtsOK σ x.body ∧ RStmtsOK σ x.els) ?_ x
  intro op v e f body els ih jh
  exact ⟨rstmts_l σ body ih, rstmts_l σ els jh⟩
theorem rstmts_a (σ : PH) (l : List St) : RStmtsOK σ l := rstmts_l σ l (fun x _ => rst_x σ x)
end Go.Proofs.YtmnmcjdgnpgchaaGreat

