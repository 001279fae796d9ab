/- Package code, told plainly: what a program's check comes to. -/
import Derived.Test.YtbbghdkndbpmmaaStr
namespace Go.Proofs.Ytbbghdkndbpmmaa
open Go X
def partsOf (op : Int) : Int := if op = 1 ∨ op = 2 then 0 else if op = 3 then 1 else if 4 ≤ op ∧ op ≤ 8 then 2 else -1
def needE (op : Int) : Bool := decide (op = 1 ∨ op = 2 ∨ op = 3 ∨ op = 5 ∨ op = 6)
def needF (op : Int) : Bool := decide (op = 2)
def needV (op : Int) : Bool := decide (op = 1 ∨ op = 2 ∨ op = 4)
def needB (op : Int) : Bool := decide (op = 5 ∨ op = 6)
def needO (op : Int) : Bool := decide (op = 6)
/-- What is left of the parts, or a fault's code. -/
abbrev JE := Except Int Int
def JE.fail (e : JE) (b : Bool) (c : Int) : JE := match e with | .ok l => if b then .error c else .ok l | .error d => .error d
def JE.one (e : JE) (deep : Int) : JE := match e with | .ok l => if 12 < deep then .error 4 else if l = 0 then .error 3 else .ok (l - 1) | .error d => .error d
def JE.named (e : JE) (nv v : Int) (is : Bool) : JE := (e.fail (is && decide (v < 0 ∨ nv ≤ v)) 1).fail (!is && decide (v ≠ 0)) 5
def exHead (nv deep op v n : Int) (k : Nat) (e : JE) : JE := (((e.one deep).fail (decide (partsOf op < 0)) 2).fail (decide ((k : Int) ≠ partsOf op ∨ (n ≠ 0 ∧ op ≠ 1))) 5).named nv v (decide (op = 2 ∨ op = 3))
mutual
def exE (nv : Int) : Int → Ex → JE → JE
  | deep, .mk op v n l, e => exsE nv (deep + 1) l (exHead nv deep op v n l.length e)
def exsE (nv : Int) : Int → List Ex → JE → JE
  | _, [], e => e
  | deep, x :: l, e => exsE nv deep l (exE nv deep x e)
end
def noneX (x : Ex) : Bool := decide (x.op = 0 ∧ x.v = 0 ∧ x.n = 0 ∧ x.l.length = 0)
def stForm (op : Int) (e f : Ex) (kb ke : Nat) : Bool := (!needE op && !noneX e) || (!needF op && !noneX f) || (!needB op && decide ((0 : Int) < (kb : Int))) || (!needO op && decide ((0 : Int) < (ke : Int)))
def stHead (nv deep op v : Int) (e f : Ex) (kb ke : Nat) (s : JE) : JE := (((s.one deep).fail (decide (op < 1 ∨ 7 < op)) 2).fail (stForm op e f kb ke) 5).named nv v (needV op)
def stEF (nv deep op : Int) (e f : Ex) (s : JE) : JE :=
  let s1 := if needE op then exE nv deep e s else s
  if needF op then exE nv deep f s1 else s1
mutual
def stE (nv : Int) : Int → St → JE → JE
  | deep, .mk op v e f body els, s => stsE nv (deep + 1) els (stsE nv (deep + 1) body (stEF nv (deep + 1) op e f (stHead nv deep op v e f body.length els.length s)))
def stsE (nv : Int) : Int → List St → JE → JE
  | _, [], s => s
  | deep, x :: l, s => stsE nv deep l (stE nv deep x s)
end
def nameOk (s : ByteArray) : Bool := decide ((∀ i, i < s.size → 97 ≤ byteAt s i ∧ byteAt s i ≤ 122) ∧ 1 ≤ s.size ∧ s.size ≤ 8)
def sizes (l : List Va) : Int := (l.map (·.size)).sum
def varsGo (seen : List Va) (n : Int) : List Va → Int
  | [] => 0
  | v :: l => if nameOk v.name = false then 8 else if ∃ w ∈ seen, w.name = v.name then 9 else if v.size < 1 ∨ 48 - n < v.size then 1 else varsGo (seen ++ [v]) (n + v.size) l
def JE.code : JE → Int | .ok _ => 0 | .error c => c
def checkVars (l : List Va) : Int := if 8 < l.length then 3 else varsGo [] 0 l
def checkP (p : Pr) : Int := if checkVars p.vars ≠ 0 then checkVars p.vars else (stsE p.vars.length 0 p.body (.ok 150)).code
def cellOf (l : List Va) (v : Int) : Int := sizes (l.take v.toNat)
/-! how many parts -/
mutual
def exN : Ex → Nat
  | .mk _ _ _ l => 1 + exsN l
def exsN : List Ex → Nat
  | [] => 0
  | x :: l => exN x + exsN l
end
mutual
def stN : St → Nat
  | .mk _ _ e f body els => 1 + exN e + exN f + stsN body + stsN els
def stsN : List St → Nat
  | [] => 0
  | x :: l => stN x + stsN l
end
theorem exN_pos (x : Ex) : 1 ≤ exN x := by cases x; simp [exN]
theorem stN_pos (x : St) : 3 ≤ stN x := by
  cases x with
  | mk op v e f b l => have := exN_pos e; have := exN_pos f; simp only [stN]; omega
theorem exsN_len : ∀ l : List Ex, l.length ≤ exsN l
  | [] => Nat.le_refl _
  | x :: l => by have := exsN_len l; have := exN_pos x; simp only [exsN, List.length_cons]; omega
theorem stsN_len : ∀ l : List St, l.length * 3 ≤ stsN l
  | [] => Nat.le_refl _
  | x :: l => by have := stsN_len l; have := stN_pos x; simp only [stsN, List.length_cons]; omega
theorem exsN_app : ∀ (l m : List Ex), exsN (l ++ m) = exsN l + exsN m
  | [], m => by simp [exsN]
  | x :: l, m => by have := exsN_app l m; simp only [List.cons_append, exsN, this]; omega
theorem stsN_app : ∀ (l m : List St), stsN (l ++ m) = stsN l + stsN m
  | [], m => by simp [stsN]
  | x :: l, m => by have := stsN_app l m; simp only [List.cons_append, stsN, this]; omega
/-! errors stay -/
@[simp] theorem fail_err (c : Int) (b : Bool) (d : Int) : JE.fail (.error c) b d = .error c := rfl
@[simp] theorem one_err (c d : Int) : JE.one (.error c) d = .error c := rfl
@[simp] theorem named_err (c nv v : Int) (is : Bool) : JE.named (.error c) nv v is = .error c := rfl
@[simp] theorem fail_false (e : JE) (d : Int) : JE.fail e false d = e := by cases e <;> rfl
@[simp] theorem exHead_err (nv deep op v n : Int) (k : Nat) (c : Int) : exHead nv deep op v n k (.error c) = .error c := rfl
@[simp] theorem stHead_err (nv deep op v : Int) (e f : Ex) (kb ke : Nat) (c : Int) : stHead nv deep op v e f kb ke (.error c) = .error c := rfl
theorem exsE_err' (nv c : Int) : ∀ (l : List Ex), (∀ x ∈ l, ∀ deep, exE nv deep x (.error c) = .error c) → ∀ deep, exsE nv deep l (.error c) = .error c
  | [], _, _ => rfl
  | x :: l, h, deep => by rw [exsE, h x (by simp)]; exact exsE_err' nv c l (fun y hy => h y (by simp [hy])) deep
@[simp] theorem exE_err (nv c : Int) (x : Ex) : ∀ deep, exE nv deep x (.error c) = .error c := by
  refine Ex.ind (P := fun x => ∀ deep, exE nv deep x (.error c) = .error c) ?_ x
  intro op v n l ih deep
  rw [exE, exHead_err]
  exact exsE_err' nv c l ih _
@[simp] theorem exsE_err (nv c : Int) (l : List Ex) (deep : Int) : exsE nv deep l (.error c) = .error c := exsE_err' nv c l (fun x _ => exE_err nv c x) deep
@[simp] theorem stEF_err (nv deep op : Int) (e f : Ex) (c : Int) : stEF nv deep op e f (.error c) = .error c := by simp [stEF]
theorem stsE_err' (nv c : Int) : ∀ (l : List St), (∀ x ∈ l, ∀ deep, stE nv deep x (.error c) = .error c) → ∀ deep, stsE nv deep l (.error c) = .error c
  | [], _, _ => rfl
  | x :: l, h, deep => by rw [stsE, h x (by simp)]; exact stsE_err' nv c l (fun y hy => h y (by simp [hy])) deep
@[simp] theorem stE_err (nv c : Int) (x : St) : ∀ deep, stE nv deep x (.error c) = .error c := by
  refine St.ind (P := fun x => ∀ deep, stE nv deep x (.error c) = .error c) ?_ x
  intro op v e f body els ih jh deep
  rw [stE, stHead_err, stEF_err, stsE_err' nv c body ih, stsE_err' nv c els jh]
@[simp] theorem stsE_err (nv c : Int) (l : List St) (deep : Int) : stsE nv deep l (.error c) = .error c := stsE_err' nv c l (fun x _ => stE_err nv c x) deep
theorem exsE_app (nv deep : Int) : ∀ (l m : List Ex) (s : JE), exsE nv deep (l ++ m) s = exsE nv deep m (exsE nv deep l s)
  | [], _, _ => rfl
  | x :: l, m, s => by rw [List.cons_append, exsE, exsE, exsE_app nv deep l m]
theorem stsE_app (nv deep : Int) : ∀ (l m : List St) (s : JE), stsE nv deep (l ++ m) s = stsE nv deep m (stsE nv deep l s)
  | [], _, _ => rfl
  | x :: l, m, s => by rw [List.cons_append, stsE, stsE, stsE_app nv deep l m]
theorem exsE_snoc (nv deep : Int) (l : List Ex) (k : Nat) (x : Ex) (s : JE) (h : l[k]? = some x) : exsE nv deep (l.take (k + 1)) s = exE nv deep x (exsE nv deep (l.take k) s) := by
  rw [List.take_add_one, h]; simp [exsE_app, exsE]
theorem stsE_snoc (nv deep : Int) (l : List St) (k : Nat) (x : St) (s : JE) (h : l[k]? = some x) : stsE nv deep (l.take (k + 1)) s = stE nv deep x (stsE nv deep (l.take k) s) := by
  rw [List.take_add_one, h]; simp [stsE_app, stsE]
theorem sizes_take (l : List Va) (k : Nat) (x : Va) (h : l[k]? = some x) : sizes (l.take (k + 1)) = sizes (l.take k) + x.size := by
  rw [List.take_add_one, h]; simp [sizes, List.sum_append]
end Go.Proofs.Ytbbghdkndbpmmaa
