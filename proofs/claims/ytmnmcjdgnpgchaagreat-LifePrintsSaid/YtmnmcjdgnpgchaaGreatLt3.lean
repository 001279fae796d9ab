/- Part 3 of 6 of what the claim needs: Str, CdS, CdL, In, Io, Ir, Cd, CdJ, CdK, CdM, CdN, CdO, CdP, CdQ, CdR, Kp, Ks, Km, Ja. -/
import Derived.Test.YtmnmcjdgnpgchaaGreatLt1
import Derived.Test.YtmnmcjdgnpgchaaGreatLt2
import Derived.Laws.Strings
import Derived.Laws.StructEq
import Derived.Laws.Small
namespace Go.Proofs.YtmnmcjdgnpgchaaGreat
namespace X
open Go
variable {P : Program} {ρ : Env} {S : Heap → Prop} {ty : TypeId}
def byteAt (s : ByteArray) (i : Nat) : Nat := if h : i < s.size then (s[i]'h).toNat else 0
theorem byteAt_lt (s : ByteArray) (i : Nat) : byteAt s i < 256 := by
  unfold byteAt; split
  · exact UInt8.toNat_lt _
  · decide
theorem Rd.indexStr {T : TypeId} {x y : Operand} {r : Ty} {s : ByteArray} {i : Nat} {kk : IntKind} (hT : tyOf P T = some r) (hk : r.k = .string) (hx : ev ρ x = .string s) (hy : ev ρ y = .int kk i) (hi : i < s.size) : Rd P ρ S (.index T x y) ty (.int .u8 (byteAt s i)) := by
  refine .pure fun d pos af gd w => ?_
  obtain ⟨dd, ii, z, e1, e2, -⟩ := tyOf_spec hT
  rw [hk] at e2
  cases dd <;> simp [kindOf] at e2
  have h := run_index_string (P := P) w T s kk i e1
  rw [dif_pos ⟨by omega, by omega⟩] at h
  simp only [execOp, hx, hy, Sem.run_bind, h, Result.andThen_ok, Sem.run_pure, byteAt, hi, dif_pos, Int.toNat_natCast]
theorem str_eq (a b : ByteArray) : (a.toList == b.toList) = decide (a = b) := by
  rw [ByteArray.toList_eq, ByteArray.toList_eq]
  obtain ⟨⟨x⟩⟩ := a
  obtain ⟨⟨y⟩⟩ := b
  by_cases h : x = y
  · subst h; simp
  · simp [h]
theorem Rd.eqls {T T' : TypeId} {x y : Operand} {a b : ByteArray} (hx : ev ρ x = .string a) (hy : ev ρ y = .string b) : Rd P ρ S (.binOp .eql T x y T') ty (.bool (decide (a = b))) := by
  refine .pure fun d pos af gd w => ?_
  simp only [execOp, eqGuard, hx, hy, binOp, Op.stringOp, Sem.run_bind, str_eq]
  simp
theorem Rd.neqs {T T' : TypeId} {x y : Operand} {a b : ByteArray} (hx : ev ρ x = .string a) (hy : ev ρ y = .string b) : Rd P ρ S (.binOp .neq T x y T') ty (.bool (decide (a ≠ b))) := by
  refine .pure fun d pos af gd w => ?_
  simp only [execOp, eqGuard, hx, hy, binOp, Op.stringOp, Sem.run_bind, str_eq]
  by_cases h : a = b <;> simp [h]
theorem Rd.max2 {x y : Operand} {a b : Int} {ats : Array TypeId} (hx : ev ρ x = i64 a) (hy : ev ρ y = i64 b) : Rd P ρ S (.call { callee := .builtin .max, args := #[x, y], argTypes := ats }) ty (i64 (if b > a then b else a)) := by
  refine .pure fun d pos af gd w => ?_
  simp [execOp, resolve, invoke, builtin, hx, hy, run_max_int2]
theorem Rd.min2 {x y : Operand} {a b : Int} {ats : Array TypeId} (hx : ev ρ x = i64 a) (hy : ev ρ y = i64 b) : Rd P ρ S (.call { callee := .builtin .min, args := #[x, y], argTypes := ats }) ty (i64 (if b < a then b else a)) := by
  refine .pure fun d pos af gd w => ?_
  simp [execOp, resolve, invoke, builtin, hx, hy, run_min_int2]
def vav (v : Va) : Value := .agg [.string v.name, i64 v.size].toArray
end X
end Go.Proofs.YtmnmcjdgnpgchaaGreat

namespace Go.Proofs.YtmnmcjdgnpgchaaGreat
open Go X
def partsOf (op : Int) : Int := if op = 1 ∨ op = 2 then 0 else if op = 3 then 1 else if 4 ≤ op ∧ op ≤ 8 then 2 else -1
def needE (op : Int) : Bool := decide (op = 1 ∨ op = 2 ∨ op = 3 ∨ op = 5 ∨ op = 6)
def needF (op : Int) : Bool := decide (op = 2)
def needV (op : Int) : Bool := decide (op = 1 ∨ op = 2 ∨ op = 4)
def needB (op : Int) : Bool := decide (op = 5 ∨ op = 6)
def needO (op : Int) : Bool := decide (op = 6)
abbrev JE := Except Int Int
def JE.fail (e : JE) (b : Bool) (c : Int) : JE := match e with | .ok l => if b then .error c else .ok l | .error d => .error d
def JE.one (e : JE) (deep : Int) : JE := match e with | .ok l => if 12 < deep then .error 4 else if l = 0 then .error 3 else .ok (l - 1) | .error d => .error d
def JE.named (e : JE) (nv v : Int) (is : Bool) : JE := (e.fail (is && decide (v < 0 ∨ nv ≤ v)) 1).fail (!is && decide (v ≠ 0)) 5
def exHead (nv deep op v n : Int) (k : Nat) (e : JE) : JE := (((e.one deep).fail (decide (partsOf op < 0)) 2).fail (decide ((k : Int) ≠ partsOf op ∨ (n ≠ 0 ∧ op ≠ 1))) 5).named nv v (decide (op = 2 ∨ op = 3))
mutual
def exE (nv : Int) : Int → Ex → JE → JE
  | deep, .mk op v n l, e => exsE nv (deep + 1) l (exHead nv deep op v n l.length e)
def exsE (nv : Int) : Int → List Ex → JE → JE
  | _, [], e => e
  | deep, x :: l, e => exsE nv deep l (exE nv deep x e)
end
def noneX (x : Ex) : Bool := decide (x.op = 0 ∧ x.v = 0 ∧ x.n = 0 ∧ x.l.length = 0)
def stForm (op : Int) (e f : Ex) (kb ke : Nat) : Bool := (!needE op && !noneX e) || (!needF op && !noneX f) || (!needB op && decide ((0 : Int) < (kb : Int))) || (!needO op && decide ((0 : Int) < (ke : Int)))
def stHead (nv deep op v : Int) (e f : Ex) (kb ke : Nat) (s : JE) : JE := (((s.one deep).fail (decide (op < 1 ∨ 7 < op)) 2).fail (stForm op e f kb ke) 5).named nv v (needV op)
def stEF (nv deep op : Int) (e f : Ex) (s : JE) : JE :=
  let s1 := if needE op then exE nv deep e s else s
  if needF op then exE nv deep f s1 else s1
mutual
def stE (nv : Int) : Int → St → JE → JE
  | deep, .mk op v e f body els, s => stsE nv (deep + 1) els (stsE nv (deep + 1) body (stEF nv (deep + 1) op e f (stHead nv deep op v e f body.length els.length s)))
def stsE (nv : Int) : Int → List St → JE → JE
  | _, [], s => s
  | deep, x :: l, s => stsE nv deep l (stE nv deep x s)
end
def nameOk (s : ByteArray) : Bool := decide ((∀ i, i < s.size → 97 ≤ byteAt s i ∧ byteAt s i ≤ 122) ∧ 1 ≤ s.size ∧ s.size ≤ 8)
def sizes (l : List Va) : Int := (l.map (·.size)).sum
def varsGo (seen : List Va) (n : Int) : List Va → Int
  | [] => 0
  | v :: l => if nameOk v.name = false then 8 else if ∃ w ∈ seen, w.name = v.name then 9 else if v.size < 1 ∨ 48 - n < v.size then 1 else varsGo (seen ++ [v]) (n + v.size) l
def JE.code : JE → Int | .ok _ => 0 | .error c => c
def checkVars (l : List Va) : Int := if 8 < l.length then 3 else varsGo [] 0 l
def checkP (p : Pr) : Int := if checkVars p.vars ≠ 0 then checkVars p.vars else (stsE p.vars.length 0 p.body (.ok 150)).code
def cellOf (l : List Va) (v : Int) : Int := sizes (l.take v.toNat)
mutual
def exN : Ex → Nat
  | .mk _ _ _ l => 1 + exsN l
def exsN : List Ex → Nat
  | [] => 0
  | x :: l => exN x + exsN l
end
mutual
def stN : St → Nat
  | .mk _ _ e f body els => 1 + exN e + exN f + stsN body + stsN els
def stsN : List St → Nat
  | [] => 0
  | x :: l => stN x + stsN l
end
theorem exN_pos (x : Ex) : 1 ≤ exN x := by cases x; simp [exN]
theorem stN_pos (x : St) : 3 ≤ stN x := by
  cases x with
  | mk op v e f b l => have := exN_pos e; have := exN_pos f; simp only [stN]; omega
theorem exsN_len : ∀ l : List Ex, l.length ≤ exsN l
  | [] => Nat.le_refl _
  | x :: l => by have := exsN_len l; have := exN_pos x; simp only [exsN, List.length_cons]; omega
theorem stsN_len : ∀ l : List St, l.length * 3 ≤ stsN l
  | [] => Nat.le_refl _
  | x :: l => by have := stsN_len l; have := stN_pos x; simp only [stsN, List.length_cons]; omega
theorem exsN_app : ∀ (l m : List Ex), exsN (l ++ m) = exsN l + exsN m
  | [], m => by simp [exsN]
  | x :: l, m => by have := exsN_app l m; simp only [List.cons_append, exsN, this]; omega
theorem stsN_app : ∀ (l m : List St), stsN (l ++ m) = stsN l + stsN m
  | [], m => by simp [stsN]
  | x :: l, m => by have := stsN_app l m; simp only [List.cons_append, stsN, this]; omega
@[simp] theorem fail_err (c : Int) (b : Bool) (d : Int) : JE.fail (.error c) b d = .error c := rfl
@[simp] theorem one_err (c d : Int) : JE.one (.error c) d = .error c := rfl
@[simp] theorem named_err (c nv v : Int) (is : Bool) : JE.named (.error c) nv v is = .error c := rfl
@[simp] theorem fail_false (e : JE) (d : Int) : JE.fail e false d = e := by cases e <;> rfl
@[simp] theorem exHead_err (nv deep op v n : Int) (k : Nat) (c : Int) : exHead nv deep op v n k (.error c) = .error c := rfl
@[simp] theorem stHead_err (nv deep op v : Int) (e f : Ex) (kb ke : Nat) (c : Int) : stHead nv deep op v e f kb ke (.error c) = .error c := rfl
theorem exsE_err' (nv c : Int) : ∀ (l : List Ex), (∀ x ∈ l, ∀ deep, exE nv deep x (.error c) = .error c) → ∀ deep, exsE nv deep l (.error c) = .error c
  | [], _, _ => rfl
  | x :: l, h, deep => by rw [exsE, h x (by simp)]; exact exsE_err' nv c l (fun y hy => h y (by simp [hy])) deep
@[simp] theorem exE_err (nv c : Int) (x : Ex) : ∀ deep, exE nv deep x (.error c) = .error c := by
  refine Ex.ind (P := fun x => ∀ deep, exE nv deep x (.error c) = .error c) ?_ x
  intro op v n l ih deep
  rw [exE, exHead_err]
  exact exsE_err' nv c l ih _
@[simp] theorem exsE_err (nv c : Int) (l : List Ex) (deep : Int) : exsE nv deep l (.error c) = .error c := exsE_err' nv c l (fun x _ => exE_err nv c x) deep
@[simp] theorem stEF_err (nv deep op : Int) (e f : Ex) (c : Int) : stEF nv deep op e f (.error c) = .error c := by simp [stEF]
theorem stsE_err' (nv c : Int) : ∀ (l : List St), (∀ x ∈ l, ∀ deep, stE nv deep x (.error c) = .error c) → ∀ deep, stsE nv deep l (.error c) = .error c
  | [], _, _ => rfl
  | x :: l, h, deep => by rw [stsE, h x (by simp)]; exact stsE_err' nv c l (fun y hy => h y (by simp [hy])) deep
@[simp] theorem stE_err (nv c : Int) (x : St) : ∀ deep, stE nv deep x (.error c) = .error c := by
  refine St.ind (P := fun x => ∀ deep, stE nv deep x (.error c) = .error c) ?_ x
  intro op v e f body els ih jh deep
  rw [stE, stHead_err, stEF_err, stsE_err' nv c body ih, stsE_err' nv c els jh]
@[simp] theorem stsE_err (nv c : Int) (l : List St) (deep : Int) : stsE nv deep l (.error c) = .error c := stsE_err' nv c l (fun x _ => stE_err nv c x) deep
theorem exsE_app (nv deep : Int) : ∀ (l m : List Ex) (s : JE), exsE nv deep (l ++ m) s = exsE nv deep m (exsE nv deep l s)
  | [], _, _ => rfl
  | x :: l, m, s => by rw [List.cons_append, exsE, exsE, exsE_app nv deep l m]
theorem stsE_app (nv deep : Int) : ∀ (l m : List St) (s : JE), stsE nv deep (l ++ m) s = stsE nv deep m (stsE nv deep l s)
  | [], _, _ => rfl
  | x :: l, m, s => by rw [List.cons_append, stsE, stsE, stsE_app nv deep l m]
theorem exsE_snoc (nv deep : Int) (l : List Ex) (k : Nat) (x : Ex) (s : JE) (h : l[k]? = some x) : exsE nv deep (l.take (k + 1)) s = exE nv deep x (exsE nv deep (l.take k) s) := by
  rw [List.take_add_one, h]; simp [exsE_app, exsE]
theorem stsE_snoc (nv deep : Int) (l : List St) (k : Nat) (x : St) (s : JE) (h : l[k]? = some x) : stsE nv deep (l.take (k + 1)) s = stE nv deep x (stsE nv deep (l.take k) s) := by
  rw [List.take_add_one, h]; simp [stsE_app, stsE]
theorem sizes_take (l : List Va) (k : Nat) (x : Va) (h : l[k]? = some x) : sizes (l.take (k + 1)) = sizes (l.take k) + x.size := by
  rw [List.take_add_one, h]; simp [sizes, List.sum_append]
end Go.Proofs.YtmnmcjdgnpgchaaGreat

namespace Go.Proofs.YtmnmcjdgnpgchaaGreat
open Go X
structure Down (F : Int → JE → JE) : Prop where
  err : ∀ d c, F d (.error c) = .error c
  ok : ∀ d a b, 0 ≤ a → F d (.ok a) = .ok b → 0 ≤ b ∧ b ≤ a ∧ ∀ d' a', d' ≤ d → a ≤ a' → F d' (.ok a') = .ok (a' - a + b)
  nz : ∀ d a c, F d (.ok a) = .error c → c ≠ 0
theorem Down.id : Down fun _ e => e := ⟨fun _ _ => rfl, fun d a b h e => by
  simp only [Except.ok.injEq] at e; subst e
  exact ⟨h, Int.le_refl _, fun d' a' _ _ => by simp⟩, fun _ _ _ e => by cases e⟩
theorem Down.comp {F G : Int → JE → JE} (hF : Down F) (hG : Down G) : Down fun d e => G d (F d e) := by
  refine ⟨fun d c => by rw [hF.err, hG.err], fun d a b h e => ?_, fun d a c e => ?_⟩
  · cases hf : F d (.ok a) with
    | error c => rw [hf, hG.err] at e; cases e
    | ok m =>
      rw [hf] at e
      obtain ⟨h1, h2, h3⟩ := hF.ok d a m h hf
      obtain ⟨g1, g2, g3⟩ := hG.ok d m b h1 e
      refine ⟨g1, by omega, fun d' a' hd ha => ?_⟩
      rw [h3 d' a' hd ha, g3 d' _ hd (by omega)]
      congr 1; omega
  · cases hf : F d (.ok a) with
    | error c' => rw [hf, hG.err] at e; simp only [Except.error.injEq] at e; subst e; exact hF.nz _ _ _ hf
    | ok m => rw [hf] at e; exact hG.nz _ _ _ e
theorem Down.shift {F : Int → JE → JE} (hF : Down F) : Down fun d e => F (d + 1) e :=
  ⟨fun d c => hF.err _ _, fun d a b h e => by
    obtain ⟨h1, h2, h3⟩ := hF.ok _ _ _ h e
    exact ⟨h1, h2, fun d' a' hd ha => h3 _ _ (by omega) ha⟩, fun d a c e => hF.nz _ _ _ e⟩
theorem Down.fail (b : Bool) {c : Int} (hc : c ≠ 0) : Down fun _ e => JE.fail e b c := by
  cases b with
  | false => simpa using Down.id
  | true => exact ⟨fun _ _ => rfl, fun d a b h e => by simp [JE.fail] at e, fun d a c' e => by simp [JE.fail] at e; subst e; exact hc⟩
theorem Down.one : Down fun d e => JE.one e d := by
  refine ⟨fun _ _ => rfl, fun d a b h e => ?_, fun d a c e => ?_⟩
  · simp only [JE.one] at e
    split at e
    · cases e
    · split at e
      · cases e
      · simp only [Except.ok.injEq] at e
        subst e
        refine ⟨by omega, by omega, fun d' a' hd ha => ?_⟩
        simp only [JE.one]
        rw [if_neg (by omega), if_neg (by omega)]
        congr 1; omega
  · simp only [JE.one] at e
    split at e
    · simp only [Except.error.injEq] at e; omega
    · split at e
      · simp only [Except.error.injEq] at e; omega
      · cases e
theorem Down.named (nv v : Int) (is : Bool) : Down fun _ e => JE.named e nv v is := (Down.fail _ (by decide)).comp (Down.fail _ (by decide))
theorem Down.exHead (nv op v n : Int) (k : Nat) : Down fun d e => exHead nv d op v n k e := ((Down.one.comp (Down.fail _ (by decide))).comp (Down.fail _ (by decide))).comp (Down.named _ _ _)
theorem Down.exsE' (nv : Int) : ∀ (l : List Ex), (∀ x ∈ l, Down fun d e => exE nv d x e) → Down fun d e => exsE nv d l e
  | [], _ => by simpa [Go.Proofs.YtmnmcjdgnpgchaaGreat.exsE] using Down.id
  | x :: l, h => by
    have := (h x (by simp)).comp (Down.exsE' nv l (fun y hy => h y (by simp [hy])))
    simpa [Go.Proofs.YtmnmcjdgnpgchaaGreat.exsE] using this
theorem Down.exE (nv : Int) (x : Ex) : Down fun d e => exE nv d x e := by
  refine Ex.ind (P := fun x => Down fun d e => Go.Proofs.YtmnmcjdgnpgchaaGreat.exE nv d x e) ?_ x
  intro op v n l ih
  have := (Down.exHead nv op v n l.length).comp (Down.exsE' nv l ih).shift
  simpa [Go.Proofs.YtmnmcjdgnpgchaaGreat.exE] using this
theorem Down.exsE (nv : Int) (l : List Ex) : Down fun d e => Go.Proofs.YtmnmcjdgnpgchaaGreat.exsE nv d l e := Down.exsE' nv l (fun x _ => Down.exE nv x)
theorem Down.stEF (nv op : Int) (e f : Ex) : Down fun d s => stEF nv d op e f s := by
  unfold Go.Proofs.YtmnmcjdgnpgchaaGreat.stEF
  by_cases h1 : needE op = true <;> by_cases h2 : needF op = true <;> simp only [h1, h2]
  · exact (Down.exE nv e).comp (Down.exE nv f)
  · exact Down.exE nv e
  · exact Down.exE nv f
  · exact Down.id
theorem Down.stHead (nv op v : Int) (e f : Ex) (kb ke : Nat) : Down fun d s => stHead nv d op v e f kb ke s := ((Down.one.comp (Down.fail _ (by decide))).comp (Down.fail _ (by decide))).comp (Down.named _ _ _)
theorem Down.stsE' (nv : Int) : ∀ (l : List St), (∀ x ∈ l, Down fun d e => stE nv d x e) → Down fun d e => stsE nv d l e
  | [], _ => by simpa [Go.Proofs.YtmnmcjdgnpgchaaGreat.stsE] using Down.id
  | x :: l, h => by
    have := (h x (by simp)).comp (Down.stsE' nv l (fun y hy => h y (by simp [hy])))
    simpa [Go.Proofs.YtmnmcjdgnpgchaaGreat.stsE] using this
theorem Down.stE (nv : Int) (x : St) : Down fun d e => stE nv d x e := by
  refine St.ind (P := fun x => Down fun d e => Go.Proofs.YtmnmcjdgnpgchaaGreat.stE nv d x e) ?_ x
  intro op v e f body els ih jh
  have := (((Down.stHead nv op v e f body.length els.length).comp (Down.stEF nv op e f).shift).comp (Down.stsE' nv body ih).shift).comp (Down.stsE' nv els jh).shift
  simpa [Go.Proofs.YtmnmcjdgnpgchaaGreat.stE] using this
theorem Down.stsE (nv : Int) (l : List St) : Down fun d e => stsE nv d l e := Down.stsE' nv l (fun x _ => Down.stE nv x)
theorem sts_mem {nv : Int} : ∀ {l : List St} {x : St} (_ : x ∈ l) {d a b : Int}, 0 ≤ a → Go.Proofs.YtmnmcjdgnpgchaaGreat.stsE nv d l (.ok a) = .ok b → ∃ a1 b1, 0 ≤ a1 ∧ a1 ≤ a ∧ Go.Proofs.YtmnmcjdgnpgchaaGreat.stE nv d x (.ok a1) = .ok b1
  | y :: l, x, hm, d, a, b, h0, e => by
    rw [Go.Proofs.YtmnmcjdgnpgchaaGreat.stsE] at e
    cases hx : Go.Proofs.YtmnmcjdgnpgchaaGreat.stE nv d y (.ok a) with
    | error c => rw [hx, stsE_err] at e; cases e
    | ok m =>
      rw [hx] at e
      obtain ⟨h1, h2, -⟩ := (Down.stE nv y).ok d a m h0 hx
      simp only [List.mem_cons] at hm
      rcases hm with rfl | hm
      · exact ⟨a, m, h0, Int.le_refl _, hx⟩
      · obtain ⟨a1, b1, k1, k2, k3⟩ := sts_mem hm h1 e
        exact ⟨a1, b1, k1, by omega, k3⟩
theorem code_zero {e : JE} (hn : ∀ c, e = .error c → c ≠ 0) (h : e.code = 0) : ∃ b, e = .ok b := by
  cases e with
  | ok b => exact ⟨b, rfl⟩
  | error c => exact absurd h (hn c rfl)
theorem check_ok {p : Pr} (h : checkP p = 0) : checkVars p.vars = 0 ∧ ∃ b, Go.Proofs.YtmnmcjdgnpgchaaGreat.stsE p.vars.length 0 p.body (.ok 150) = .ok b := by
  unfold checkP at h
  split at h
  · exact absurd h (by assumption)
  · rename_i hv
    exact ⟨by simpa using hv, code_zero (fun c hc => (Down.stsE _ p.body).nz _ _ _ hc) h⟩
theorem sizes_cons (x : Va) (l : List Va) : sizes (x :: l) = x.size + sizes l := by simp [sizes]
theorem sizes_app (l m : List Va) : sizes (l ++ m) = sizes l + sizes m := by simp [sizes, List.sum_append]
theorem vars_ok : ∀ (l seen : List Va) (n : Int), n ≤ 48 → varsGo seen n l = 0 → (∀ x ∈ l, 1 ≤ x.size) ∧ n + sizes l ≤ 48
  | [], _, n, hn, _ => by simp [sizes]; exact hn
  | x :: l, seen, n, hn, h => by
    rw [varsGo] at h
    split at h
    · cases h
    · split at h
      · cases h
      · split at h
        · cases h
        · obtain ⟨h1, h2⟩ := vars_ok l _ _ (by omega) h
          refine ⟨fun y hy => ?_, by rw [sizes_cons]; omega⟩
          simp only [List.mem_cons] at hy
          rcases hy with rfl | hy
          · omega
          · exact h1 y hy
theorem check_sizes {l : List Va} (h : checkVars l = 0) : l.length ≤ 8 ∧ (∀ x ∈ l, 1 ≤ x.size) ∧ sizes l ≤ 48 := by
  unfold checkVars at h
  split at h
  · cases h
  · obtain ⟨h1, h2⟩ := vars_ok l [] 0 (by decide) h
    exact ⟨by omega, h1, by omega⟩
theorem sizes_nonneg : ∀ {l : List Va}, (∀ x ∈ l, 1 ≤ x.size) → 0 ≤ sizes l
  | [], _ => Int.le_refl _
  | x :: l, h => by have := sizes_nonneg (l := l) (fun y hy => h y (by simp [hy])); have := h x (by simp); rw [sizes_cons]; omega
theorem cells_le {l : List Va} (h : ∀ x ∈ l, 1 ≤ x.size) (v : Nat) : 0 ≤ sizes (l.take v) ∧ sizes (l.take v) ≤ sizes l := by
  refine ⟨sizes_nonneg (fun y hy => h y (List.mem_of_mem_take hy)), ?_⟩
  have h1 : sizes l = sizes (l.take v) + sizes (l.drop v) := by rw [← sizes_app, List.take_append_drop]
  have := sizes_nonneg (l := l.drop v) (fun y hy => h y (List.mem_of_mem_drop hy))
  omega
end Go.Proofs.YtmnmcjdgnpgchaaGreat

namespace Go.Proofs.YtmnmcjdgnpgchaaGreat
open Go X
structure In where
  op : Int
  a : Int
  b : Int
  n : Int
deriving DecidableEq
def inC (i : In) : List Value := [i64 i.op, i64 i.a, i64 i.b, i64 i.n]
def sizeV (vs : List Va) (v : Int) : Int := (vs[v.toNat]?.map (·.size)).getD 0
def opIn (vs : List Va) (op v n : Int) : In := ⟨op, if op = 2 ∨ op = 3 then cellOf vs v else 0, if op = 3 then sizeV vs v else 0, n⟩
mutual
def exCode (vs : List Va) : Ex → List In
  | .mk op v n l => exsCode vs l ++ [opIn vs op v n]
def exsCode (vs : List Va) : List Ex → List In
  | [] => []
  | x :: l => exCode vs x ++ exsCode vs l
end
mutual
def stCode (vs : List Va) : St → Nat → List In
  | .mk op v e f body els, at_ =>
    let l := if needE op then exCode vs e else []
    if op = 1 then l ++ [⟨9, cellOf vs v, 0, 0⟩]
    else if op = 2 then l ++ exCode vs f ++ [⟨10, cellOf vs v, sizeV vs v, 0⟩]
    else if op = 3 then l ++ [⟨11, 0, 0, 0⟩]
    else if op = 4 then l ++ [⟨12, cellOf vs v, 0, 0⟩]
    else if op = 5 then
      let b := stsCode vs body (at_ + l.length + 1)
      l ++ [⟨13, (at_ + l.length + 1 + b.length + 1 : Nat), 0, 0⟩] ++ b ++ [⟨14, (at_ : Nat), 0, 0⟩]
    else if op = 6 then
      let b := stsCode vs body (at_ + l.length + 1)
      let o := stsCode vs els (at_ + l.length + 1 + b.length + 1)
      l ++ [⟨13, (at_ + l.length + 1 + b.length + 1 : Nat), 0, 0⟩] ++ b ++ [⟨14, (at_ + l.length + 1 + b.length + 1 + o.length : Nat), 0, 0⟩] ++ o
    else if op = 7 then [⟨15, 0, 0, 0⟩]
    else l
def stsCode (vs : List Va) : List St → Nat → List In
  | [], _ => []
  | x :: l, at_ => stCode vs x at_ ++ stsCode vs l (at_ + (stCode vs x at_).length)
end
def codeOf (p : Pr) : List In := stsCode p.vars p.body 0 ++ [⟨16, 0, 0, 0⟩]
theorem exsCode_app (vs : List Va) : ∀ (l m : List Ex), exsCode vs (l ++ m) = exsCode vs l ++ exsCode vs m
  | [], m => by simp [exsCode]
  | x :: l, m => by rw [List.cons_append, exsCode, exsCode, exsCode_app vs l m, List.append_assoc]
theorem exsCode_snoc (vs : List Va) {l : List Ex} {k : Nat} {x : Ex} (h : l[k]? = some x) : exsCode vs (l.take (k + 1)) = exsCode vs (l.take k) ++ exCode vs x := by
  rw [List.take_add_one, h]; simp [exsCode_app, exsCode]
theorem stsCode_app (vs : List Va) : ∀ (l m : List St) (k : Nat), stsCode vs (l ++ m) k = stsCode vs l k ++ stsCode vs m (k + (stsCode vs l k).length)
  | [], m, k => by simp [stsCode]
  | x :: l, m, k => by rw [List.cons_append, stsCode, stsCode, stsCode_app vs l m, List.append_assoc, List.length_append, Nat.add_assoc]
theorem stsCode_snoc (vs : List Va) {l : List St} {k : Nat} {x : St} (h : l[k]? = some x) (j : Nat) : stsCode vs (l.take (k + 1)) j = stsCode vs (l.take k) j ++ stCode vs x (j + (stsCode vs (l.take k) j).length) := by
  rw [List.take_add_one, h]; simp [stsCode_app, stsCode]
theorem exsCode_len' (vs : List Va) : ∀ (l : List Ex), (∀ x ∈ l, (exCode vs x).length = exN x) → (exsCode vs l).length = exsN l
  | [], _ => rfl
  | x :: l, h => by rw [exsCode, exsN, List.length_append, h x (by simp), exsCode_len' vs l (fun y hy => h y (by simp [hy]))]
theorem exCode_len (vs : List Va) (x : Ex) : (exCode vs x).length = exN x := by
  refine Ex.ind (P := fun x => (exCode vs x).length = exN x) ?_ x
  intro op v n l ih
  rw [exCode, exN, List.length_append, exsCode_len' vs l ih, List.length_singleton, Nat.add_comm]
theorem exsCode_len (vs : List Va) (l : List Ex) : (exsCode vs l).length = exsN l := exsCode_len' vs l (fun x _ => exCode_len vs x)
theorem stsCode_len' (vs : List Va) : ∀ (l : List St), (∀ x ∈ l, ∀ k, (stCode vs x k).length ≤ stN x) → ∀ k, (stsCode vs l k).length ≤ stsN l
  | [], _, _ => Nat.zero_le _
  | x :: l, h, k => by
    have h1 := h x (by simp) k
    have h2 := stsCode_len' vs l (fun y hy => h y (by simp [hy])) (k + (stCode vs x k).length)
    rw [stsCode, stsN, List.length_append]; omega
theorem stCode_len (vs : List Va) (x : St) : ∀ k, (stCode vs x k).length ≤ stN x := by
  refine St.ind (P := fun x => ∀ k, (stCode vs x k).length ≤ stN x) ?_ x
  intro op v e f body els ih jh k
  have hb := stsCode_len' vs body ih
  have he := stsCode_len' vs els jh
  have h1 := exN_pos e
  have h2 := exN_pos f
  have hl : (if needE op then exCode vs e else []).length ≤ exN e := by split <;> simp [exCode_len]
  rw [stCode, stN]
  have hb1 := hb (k + (if needE op then exCode vs e else []).length + 1)
  have he1 := he (k + (if needE op then exCode vs e else []).length + 1 + (stsCode vs body (k + (if needE op then exCode vs e else []).length + 1)).length + 1)
  by_cases g1 : op = 1
  · simp only [g1, if_true, List.length_append, List.length_singleton] at *; omega
  by_cases g2 : op = 2
  · simp only [g2, show ¬ (2 : Int) = 1 by decide, if_true, if_false, List.length_append, List.length_singleton, exCode_len] at *; omega
  by_cases g3 : op = 3
  · simp only [g3, show ¬ (3 : Int) = 1 by decide, show ¬ (3 : Int) = 2 by decide, if_true, if_false, List.length_append, List.length_singleton] at *; omega
  by_cases g4 : op = 4
  · simp only [g4, show ¬ (4 : Int) = 1 by decide, show ¬ (4 : Int) = 2 by decide, show ¬ (4 : Int) = 3 by decide, if_true, if_false, List.length_append, List.length_singleton] at *; omega
  simp only [g1, g2, g3, g4, if_false]
  generalize (if needE op then exCode vs e else []) = L at *
  by_cases g5 : op = 5
  · rw [if_pos g5]; simp only [List.length_append, List.length_singleton]; omega
  rw [if_neg g5]
  by_cases g6 : op = 6
  · rw [if_pos g6]; simp only [List.length_append, List.length_singleton]; omega
  rw [if_neg g6]
  by_cases g7 : op = 7
  · rw [if_pos g7]; simp only [List.length_singleton]; omega
  rw [if_neg g7]; omega
theorem stsCode_len (vs : List Va) (l : List St) (k : Nat) : (stsCode vs l k).length ≤ stsN l := stsCode_len' vs l (fun x _ => stCode_len vs x) k
mutual
def exH : Ex → Nat
  | .mk _ _ _ l => 1 + exsH l
def exsH : List Ex → Nat
  | [] => 0
  | x :: l => max (exH x) (exsH l)
end
mutual
def ExV (nv : Nat) : Ex → Prop
  | .mk op v n l => (1 ≤ op ∧ op ≤ 8) ∧ (l.length : Int) = partsOf op ∧ (op = 2 ∨ op = 3 → 0 ≤ v ∧ v < nv) ∧ (n ≠ 0 → op = 1) ∧ ExsV nv l
def ExsV (nv : Nat) : List Ex → Prop
  | [] => True
  | x :: l => ExV nv x ∧ ExsV nv l
end
mutual
def StV (nv : Nat) : St → Prop
  | .mk op v e f body els => (1 ≤ op ∧ op ≤ 7) ∧ (needV op = true → 0 ≤ v ∧ v < nv) ∧ (needE op = true → ExV nv e ∧ exH e ≤ 12) ∧ (needF op = true → ExV nv f ∧ exH f ≤ 12) ∧ (needB op = false → body = []) ∧ (needO op = false → els = []) ∧ StsV nv body ∧ StsV nv els
def StsV (nv : Nat) : List St → Prop
  | [] => True
  | x :: l => StV nv x ∧ StsV nv l
end
theorem ExsV.mem {nv : Nat} : ∀ {l : List Ex}, ExsV nv l → ∀ x ∈ l, ExV nv x
  | [], _, _, h => by simp at h
  | y :: l, h, x, hx => by
    rw [ExsV] at h
    rcases List.mem_cons.1 hx with rfl | hx
    · exact h.1
    · exact ExsV.mem h.2 x hx
theorem StsV.mem {nv : Nat} : ∀ {l : List St}, StsV nv l → ∀ x ∈ l, StV nv x
  | [], _, _, h => by simp at h
  | y :: l, h, x, hx => by
    rw [StsV] at h
    rcases List.mem_cons.1 hx with rfl | hx
    · exact h.1
    · exact StsV.mem h.2 x hx
theorem fail_ok {e : JE} {b : Bool} {c l : Int} (h : e.fail b c = .ok l) : e = .ok l ∧ b = false := by
  cases e with
  | error d => simp [JE.fail] at h
  | ok a => cases b <;> simp [JE.fail] at h ⊢; exact h
theorem one_ok' {e : JE} {d l : Int} (h : e.one d = .ok l) : d ≤ 12 ∧ ∃ a, e = .ok a := by
  cases e with
  | error c => simp [JE.one] at h
  | ok a =>
    simp only [JE.one] at h
    split at h
    · simp at h
    · exact ⟨by omega, a, rfl⟩
theorem exHead_ok {nv deep op v n a b : Int} {k : Nat} (h : exHead nv deep op v n k (.ok a) = .ok b) :
    deep ≤ 12 ∧ (1 ≤ op ∧ op ≤ 8) ∧ (k : Int) = partsOf op ∧ (op = 2 ∨ op = 3 → 0 ≤ v ∧ v < nv) ∧ (n ≠ 0 → op = 1) := by
  rw [exHead, JE.named] at h
  obtain ⟨h, h5⟩ := fail_ok h
  obtain ⟨h, h4⟩ := fail_ok h
  obtain ⟨h, h3⟩ := fail_ok h
  obtain ⟨h, h2⟩ := fail_ok h
  obtain ⟨h1, -⟩ := one_ok' h
  simp only [decide_eq_false_iff_not] at h2 h3
  refine ⟨h1, ?_, by omega, ?_, fun hn => by omega⟩
  · have : 0 ≤ partsOf op := by omega
    rw [partsOf] at this
    constructor <;> · repeat' split at this
                      all_goals omega
  · intro ho
    simp only [ho, decide_true, Bool.true_and, decide_eq_false_iff_not] at h4
    omega
theorem exsV_of {nv : Nat} : ∀ (l : List Ex), (∀ x ∈ l, ∀ deep a b : Int, exE nv deep x (.ok a) = .ok b → ExV nv x ∧ deep + exH x ≤ 13) → ∀ deep a b : Int, deep ≤ 13 → exsE nv deep l (.ok a) = .ok b → ExsV nv l ∧ deep + exsH l ≤ 13
  | [], _, deep, a, b, hd, _ => by rw [ExsV, exsH]; exact ⟨trivial, by omega⟩
  | x :: l, h, deep, a, b, hd, hx => by
    rw [exsE] at hx
    cases e : exE nv deep x (.ok a) with
    | error c => rw [e, exsE_err] at hx; cases hx
    | ok a1 =>
      rw [e] at hx
      obtain ⟨g1, g2⟩ := h x (by simp) deep a a1 e
      obtain ⟨g3, g4⟩ := exsV_of l (fun y hy => h y (by simp [hy])) deep a1 b hd hx
      rw [ExsV, exsH]
      exact ⟨⟨g1, g3⟩, by omega⟩
theorem exV_of {nv : Nat} (x : Ex) : ∀ deep a b : Int, exE nv deep x (.ok a) = .ok b → ExV nv x ∧ deep + exH x ≤ 13 := by
  refine Ex.ind (P := fun x => ∀ deep a b : Int, exE nv deep x (.ok a) = .ok b → ExV nv x ∧ deep + exH x ≤ 13) ?_ x
  intro op v n l ih deep a b h
  rw [exE] at h
  cases e : exHead nv deep op v n l.length (.ok a) with
  | error c => rw [e, exsE_err] at h; cases h
  | ok a1 =>
    rw [e] at h
    obtain ⟨g1, g2, g3, g4, g5⟩ := exHead_ok e
    obtain ⟨g6, g7⟩ := exsV_of l ih (deep + 1) a1 b (by omega) h
    rw [ExV, exH]
    exact ⟨⟨g2, g3, g4, g5, g6⟩, by omega⟩
theorem stHead_ok {nv deep op v a b : Int} {e f : Ex} {kb ke : Nat} (h : stHead nv deep op v e f kb ke (.ok a) = .ok b) :
    deep ≤ 12 ∧ (1 ≤ op ∧ op ≤ 7) ∧ (needV op = true → 0 ≤ v ∧ v < nv) ∧ (needB op = false → kb = 0) ∧ (needO op = false → ke = 0) := by
  rw [stHead, JE.named] at h
  obtain ⟨h, h5⟩ := fail_ok h
  obtain ⟨h, h4⟩ := fail_ok h
  obtain ⟨h, h3⟩ := fail_ok h
  obtain ⟨h, h2⟩ := fail_ok h
  obtain ⟨h1, -⟩ := one_ok' h
  simp only [decide_eq_false_iff_not] at h2
  simp only [stForm, Bool.or_eq_false_iff, Bool.and_eq_false_imp, Bool.not_eq_true', decide_eq_false_iff_not] at h3
  refine ⟨h1, by omega, ?_, ?_, ?_⟩
  · intro ho
    simp only [ho, Bool.true_and, decide_eq_false_iff_not] at h4
    omega
  · intro hb; have := h3.1.2 hb; omega
  · intro hb; have := h3.2 hb; omega
theorem stsV_of {nv : Nat} : ∀ (l : List St), (∀ x ∈ l, ∀ deep a b : Int, 0 ≤ deep → stE nv deep x (.ok a) = .ok b → StV nv x) → ∀ deep a b : Int, 0 ≤ deep → stsE nv deep l (.ok a) = .ok b → StsV nv l
  | [], _, deep, a, b, _, _ => by rw [StsV]; trivial
  | x :: l, h, deep, a, b, hd, hx => by
    rw [stsE] at hx
    cases e : stE nv deep x (.ok a) with
    | error c => rw [e, stsE_err] at hx; cases hx
    | ok a1 =>
      rw [e] at hx
      rw [StsV]
      exact ⟨h x (by simp) deep a a1 hd e, stsV_of l (fun y hy => h y (by simp [hy])) deep a1 b hd hx⟩
theorem stV_of {nv : Nat} (x : St) : ∀ deep a b : Int, 0 ≤ deep → stE nv deep x (.ok a) = .ok b → StV nv x := by
  refine St.ind (P := fun x => ∀ deep a b : Int, 0 ≤ deep → stE nv deep x (.ok a) = .ok b → StV nv x) ?_ x
  intro op v e f body els ih jh deep a b hd h
  rw [stE] at h
  cases e1 : stHead nv deep op v e f body.length els.length (.ok a) with
  | error c => rw [e1, stEF_err, stsE_err, stsE_err] at h; cases h
  | ok a1 =>
    rw [e1] at h
    cases e2 : stEF nv (deep + 1) op e f (.ok a1) with
    | error c => rw [e2, stsE_err, stsE_err] at h; cases h
    | ok a2 =>
      rw [e2] at h
      cases e3 : stsE nv (deep + 1) body (.ok a2) with
      | error c => rw [e3, stsE_err] at h; cases h
      | ok a3 =>
        rw [e3] at h
        obtain ⟨g1, g2, g3, g4, g5⟩ := stHead_ok e1
        have hb := stsV_of body ih (deep + 1) a2 a3 (by omega) e3
        have he := stsV_of els jh (deep + 1) a3 b (by omega) h
        rw [StV]
        rw [stEF] at e2
        refine ⟨g2, g3, ?_, ?_, fun hn => List.eq_nil_of_length_eq_zero (g4 hn), fun hn => List.eq_nil_of_length_eq_zero (g5 hn), hb, he⟩
        · intro hn
          rw [if_pos hn] at e2
          cases e4 : exE nv (deep + 1) e (.ok a1) with
          | error c => simp only [e4, exE_err, ite_self] at e2; cases e2
          | ok a4 => obtain ⟨k1, k2⟩ := exV_of e _ _ _ e4; exact ⟨k1, by omega⟩
        · intro hn
          simp only [hn, if_true] at e2
          cases e4 : (if needE op = true then exE nv (deep + 1) e (.ok a1) else .ok a1 : JE) with
          | error c => rw [e4, exE_err] at e2; cases e2
          | ok a4 => rw [e4] at e2; obtain ⟨k1, k2⟩ := exV_of f _ _ _ e2; exact ⟨k1, by omega⟩
theorem check_valid {p : Pr} (h : checkP p = 0) : StsV p.vars.length p.body ∧ p.vars.length ≤ 8 ∧ (∀ x ∈ p.vars, 1 ≤ x.size) ∧ sizes p.vars ≤ 48 := by
  obtain ⟨h1, b, h2⟩ := check_ok h
  exact ⟨stsV_of p.body (fun x _ => stV_of x) 0 150 b (Int.le_refl _) h2, check_sizes h1⟩
end Go.Proofs.YtmnmcjdgnpgchaaGreat

namespace Go.Proofs.YtmnmcjdgnpgchaaGreat
open Go X
def popA (op : Int) : Int := if op = 3 then 1 else if 4 ≤ op ∧ op ≤ 8 then 2 else if op = 9 ∨ op = 11 ∨ op = 13 then 1 else if op = 10 then 2 else 0
def popB (op : Int) : Int := if 1 ≤ op ∧ op ≤ 8 then 1 else 0
def dl (x : In) : Int := popB x.op - popA x.op
def hts (l : List In) : Int := (l.map dl).sum
theorem hts_nil : hts [] = 0 := rfl
theorem hts_cons (x : In) (l : List In) : hts (x :: l) = dl x + hts l := by simp [hts]
theorem hts_app (l m : List In) : hts (l ++ m) = hts l + hts m := by simp [hts, List.sum_append]
theorem hts_one (x : In) : hts [x] = dl x := by simp [hts]
def cellOk (cells : Int) (x : In) : Prop := ((x.op = 2 ∨ x.op = 9 ∨ x.op = 12) → 0 ≤ x.a ∧ x.a < cells) ∧ ((x.op = 3 ∨ x.op = 10) → 0 ≤ x.a ∧ 1 ≤ x.b ∧ x.a + x.b ≤ cells)
def Fit (cells : Int) : Int → List In → Prop
  | _, [] => True
  | n, x :: l => (popA x.op ≤ n ∧ n + dl x ≤ 24 ∧ ((x.op = 13 ∨ x.op = 14) → n + dl x = 0) ∧ cellOk cells x ∧ x.op ≠ 16) ∧ Fit cells (n + dl x) l
theorem Fit.app {cells : Int} : ∀ {l m : List In} {n : Int}, Fit cells n l → Fit cells (n + hts l) m → Fit cells n (l ++ m)
  | [], m, n, _, h => by rw [hts_nil, Int.add_zero] at h; exact h
  | x :: l, m, n, h, g => by
    rw [Fit] at h
    rw [hts_cons] at g
    rw [List.cons_append, Fit]
    exact ⟨h.1, Fit.app h.2 (by rw [Int.add_assoc]; exact g)⟩
theorem Fit.at {cells : Int} : ∀ {l : List In} {n : Int}, Fit cells n l → ∀ {i : Nat} {x : In}, l[i]? = some x → popA x.op ≤ n + hts (l.take i) ∧ n + hts (l.take (i + 1)) ≤ 24 ∧ ((x.op = 13 ∨ x.op = 14) → n + hts (l.take (i + 1)) = 0) ∧ cellOk cells x ∧ x.op ≠ 16
  | [], _, _, _, _, hx => by simp at hx
  | y :: l, n, h, 0, x, hx => by
    simp only [List.getElem?_cons_zero, Option.some.injEq] at hx
    subst hx
    rw [Fit] at h
    simp only [List.take_zero, hts_nil, Int.add_zero, List.take_succ_cons, hts_cons]
    exact h.1
  | y :: l, n, h, i + 1, x, hx => by
    simp only [List.getElem?_cons_succ] at hx
    rw [Fit] at h
    have := Fit.at h.2 hx
    simp only [List.take_succ_cons, hts_cons, ← Int.add_assoc]
    exact this
theorem sizeV_get {vs : List Va} {v : Int} {x : Va} (h : vs[v.toNat]? = some x) : sizeV vs v = x.size := by rw [sizeV, h]; rfl
theorem var_at {vs : List Va} (h1 : ∀ x ∈ vs, 1 ≤ x.size) {v : Int} (h : 0 ≤ v ∧ v < vs.length) : ∃ x, vs[v.toNat]? = some x ∧ sizeV vs v = x.size ∧ 0 ≤ cellOf vs v ∧ 1 ≤ sizeV vs v ∧ cellOf vs v + sizeV vs v ≤ sizes vs := by
  have hlt : v.toNat < vs.length := by omega
  have hx : vs[v.toNat]? = some vs[v.toNat] := List.getElem?_eq_getElem hlt
  have e := sizes_take vs v.toNat _ hx
  have a := (cells_le h1 (v.toNat)).1
  have b := (cells_le h1 (v.toNat + 1)).2
  have c := h1 _ (List.getElem_mem hlt)
  refine ⟨_, hx, sizeV_get hx, a, by rw [sizeV_get hx]; exact c, ?_⟩
  rw [sizeV_get hx, cellOf, ← e]; exact b
theorem opIn_ok {vs : List Va} (h1 : ∀ x ∈ vs, 1 ≤ x.size) {op v n : Int} (hop : 1 ≤ op ∧ op ≤ 8) (hv : op = 2 ∨ op = 3 → 0 ≤ v ∧ v < vs.length) : cellOk (sizes vs) (opIn vs op v n) := by
  refine ⟨fun h => ?_, fun h => ?_⟩
  · simp only [opIn] at h
    have h2 : op = 2 := by omega
    obtain ⟨x, -, -, c, d, e⟩ := var_at h1 (hv (.inl h2))
    simp only [opIn, h2, true_or, if_true]
    omega
  · simp only [opIn] at h
    have h2 : op = 3 := by omega
    obtain ⟨x, -, -, c, d, e⟩ := var_at h1 (hv (.inr h2))
    simp only [opIn, h2, or_true, if_true]
    exact ⟨c, d, e⟩
theorem popA_parts {op : Int} (h : 1 ≤ op ∧ op ≤ 8) : popA op = partsOf op := by
  rw [popA, partsOf]
  repeat' split
  all_goals omega
theorem popB_one {op : Int} (h : 1 ≤ op ∧ op ≤ 8) : popB op = 1 := if_pos h
theorem ex_op (vs : List Va) (op v n : Int) : (opIn vs op v n).op = op := rfl
theorem exs_fit {vs : List Va} (h1 : ∀ x ∈ vs, 1 ≤ x.size) : ∀ (l : List Ex), (∀ x ∈ l, ∀ n : Int, 0 ≤ n → n + exH x ≤ 24 → Fit (sizes vs) n (exCode vs x) ∧ hts (exCode vs x) = 1) → ∀ n : Int, 0 ≤ n → n + l.length + exsH l ≤ 25 → Fit (sizes vs) n (exsCode vs l) ∧ hts (exsCode vs l) = l.length
  | [], _, n, _, _ => ⟨trivial, rfl⟩
  | x :: l, h, n, h0, hn => by
    rw [exsH, List.length_cons] at hn
    obtain ⟨a, b⟩ := h x (by simp) n h0 (by omega)
    obtain ⟨c, d⟩ := exs_fit h1 l (fun y hy => h y (by simp [hy])) (n + 1) (by omega) (by omega)
    rw [exsCode]
    refine ⟨a.app (by rw [b]; exact c), ?_⟩
    rw [hts_app, b, d, List.length_cons]; omega
theorem ex_fit {vs : List Va} (h1 : ∀ x ∈ vs, 1 ≤ x.size) (x : Ex) : ExV vs.length x → ∀ n : Int, 0 ≤ n → n + exH x ≤ 24 → Fit (sizes vs) n (exCode vs x) ∧ hts (exCode vs x) = 1 := by
  refine Ex.ind (P := fun x => ExV vs.length x → ∀ n : Int, 0 ≤ n → n + exH x ≤ 24 → Fit (sizes vs) n (exCode vs x) ∧ hts (exCode vs x) = 1) ?_ x
  intro op v k l ih hx n h0 hn
  rw [ExV] at hx
  obtain ⟨hop, hl, hv, -, hs⟩ := hx
  rw [exH] at hn
  have hp : (l.length : Int) ≤ 2 := by rw [hl, partsOf]; repeat' split
                                       all_goals omega
  obtain ⟨a, b⟩ := exs_fit h1 l (fun y hy n h0 hn => ih y hy (hs.mem y hy) n h0 hn) n h0 (by omega)
  rw [exCode]
  have hd : dl (opIn vs op v k) = 1 - l.length := by rw [dl, ex_op, popB_one hop, popA_parts hop, hl]
  refine ⟨a.app ?_, ?_⟩
  · rw [b, Fit, ex_op, popA_parts hop, ← hl, hd]
    refine ⟨⟨by omega, by omega, fun h => by omega, opIn_ok h1 hop hv, by omega⟩, trivial⟩
  · rw [hts_app, b, hts_one, hd]; omega
def JIn (at_ : Nat) (L : List In) (x : In) : Prop := (x.op = 13 ∨ x.op = 14) → ∃ j : Nat, x.a = (at_ + j : Nat) ∧ j ≤ L.length ∧ hts (L.take j) = 0
theorem JIn.lift {at_ : Nat} {A L B : List In} {x : In} (h : JIn (at_ + A.length) L x) (hA : hts A = 0) : JIn at_ (A ++ L ++ B) x := fun ho => by
  obtain ⟨j, e, hj, hz⟩ := h ho
  refine ⟨A.length + j, by rw [e]; congr 1; omega, by simp only [List.length_append]; omega, ?_⟩
  rw [List.append_assoc, List.take_length_add_append, hts_app, hA, List.take_append_of_le_length hj, hz]; rfl
theorem JIn.none {at_ : Nat} {L : List In} {x : In} (h : x.op ≠ 13 ∧ x.op ≠ 14) : JIn at_ L x := fun ho => by omega
theorem exs_small {vs : List Va} : ∀ (l : List Ex), (∀ x ∈ l, ∀ y ∈ exCode vs x, 1 ≤ y.op ∧ y.op ≤ 8) → ∀ y ∈ exsCode vs l, 1 ≤ y.op ∧ y.op ≤ 8
  | [], _, y, hy => by simp [exsCode] at hy
  | x :: l, h, y, hy => by
    rw [exsCode, List.mem_append] at hy
    rcases hy with hy | hy
    · exact h x (by simp) y hy
    · exact exs_small l (fun z hz => h z (by simp [hz])) y hy
theorem ex_small {vs : List Va} {nv : Nat} (x : Ex) : ExV nv x → ∀ y ∈ exCode vs x, 1 ≤ y.op ∧ y.op ≤ 8 := by
  refine Ex.ind (P := fun x => ExV nv x → ∀ y ∈ exCode vs x, 1 ≤ y.op ∧ y.op ≤ 8) ?_ x
  intro op v k l ih hx y hy
  rw [ExV] at hx
  rw [exCode, List.mem_append, List.mem_singleton] at hy
  rcases hy with hy | rfl
  · exact exs_small l (fun z hz => ih z hz (hx.2.2.2.2.mem z hz)) y hy
  · exact hx.1
def Piece (cells : Int) (at_ : Nat) (L : List In) : Prop := Fit cells 0 L ∧ hts L = 0 ∧ ∀ x ∈ L, JIn at_ L x
theorem Piece.nil {cells : Int} {at_ : Nat} : Piece cells at_ [] := ⟨trivial, rfl, fun x h => by simp at h⟩
theorem Piece.app {cells : Int} {at_ : Nat} {L M : List In} (h : Piece cells at_ L) (g : Piece cells (at_ + L.length) M) : Piece cells at_ (L ++ M) := by
  refine ⟨h.1.app (by rw [h.2.1]; exact g.1), by rw [hts_app, h.2.1, g.2.1]; rfl, fun x hx => ?_⟩
  rcases List.mem_append.1 hx with hx | hx
  · have := JIn.lift (A := []) (B := M) (h.2.2 x hx) rfl
    simpa using this
  · have := JIn.lift (A := L) (B := []) (g.2.2 x hx) h.2.1
    simpa using this
theorem Piece.plain {cells : Int} {at_ : Nat} {L : List In} (h : Fit cells 0 L) (hz : hts L = 0) (hs : ∀ x ∈ L, x.op ≠ 13 ∧ x.op ≠ 14) : Piece cells at_ L := ⟨h, hz, fun x hx => JIn.none (hs x hx)⟩
theorem sts_piece {vs : List Va} {cells : Int} : ∀ (l : List St), (∀ x ∈ l, ∀ k, Piece cells k (stCode vs x k)) → ∀ k, Piece cells k (stsCode vs l k)
  | [], _, k => by rw [stsCode]; exact Piece.nil
  | x :: l, h, k => by rw [stsCode]; exact (h x (by simp) k).app (sts_piece l (fun y hy => h y (by simp [hy])) _)
theorem Fit.snoc {cells : Int} {L : List In} {x : In} {n m : Int} (h : Fit cells n L) (hm : n + hts L = m) (h1 : popA x.op ≤ m) (h2 : m + dl x ≤ 24) (h3 : (x.op = 13 ∨ x.op = 14) → m + dl x = 0) (h4 : cellOk cells x) (h5 : x.op ≠ 16) : Fit cells n (L ++ [x]) :=
  h.app (by rw [hm]; exact ⟨⟨h1, h2, h3, h4, h5⟩, trivial⟩)
theorem st_piece {vs : List Va} (h1 : ∀ x ∈ vs, 1 ≤ x.size) (x : St) : StV vs.length x → ∀ k, Piece (sizes vs) k (stCode vs x k) := by
  refine St.ind (P := fun x => StV vs.length x → ∀ k, Piece (sizes vs) k (stCode vs x k)) ?_ x
  intro op v e f body els ih jh hx k
  rw [StV] at hx
  obtain ⟨hop, hv, he, hf, hb, ho, hsb, hse⟩ := hx
  have hB := sts_piece (cells := sizes vs) body (fun y hy => ih y hy (hsb.mem y hy))
  have hE := sts_piece (cells := sizes vs) els (fun y hy => jh y hy (hse.mem y hy))
  have hex : ∀ {z : Ex} {n : Int}, ExV vs.length z ∧ exH z ≤ 12 → 0 ≤ n → n ≤ 12 → Fit (sizes vs) n (exCode vs z) ∧ hts (exCode vs z) = 1 := fun hz h0 hn => ex_fit h1 _ hz.1 _ h0 (by have := hz.2; omega)
  have hno : ∀ {z : Ex}, ExV vs.length z ∧ exH z ≤ 12 → ∀ y ∈ exCode vs z, y.op ≠ 13 ∧ y.op ≠ 14 := fun hz y hy => by have := ex_small _ hz.1 y hy; omega
  rw [stCode]
  have c0 : ∀ {o a b n : Int}, (o = 11 ∨ o = 13 ∨ o = 14 ∨ o = 15) → cellOk (sizes vs) ⟨o, a, b, n⟩ := fun h => ⟨fun g => by simp only at g; omega, fun g => by simp only at g; omega⟩
  by_cases g1 : op = 1
  · subst g1
    obtain ⟨a, b⟩ := hex (n := 0) (he rfl) (by decide) (by decide)
    obtain ⟨y, -, -, c, d, e'⟩ := var_at h1 (hv rfl)
    simp only [show needE 1 = true from rfl, if_true]
    refine Piece.plain (a.snoc (m := 1) (by rw [b]; rfl) (by simp [popA]) (by simp [dl, popA, popB]) (fun g => by simp at g) ⟨fun _ => ⟨c, by simp only; omega⟩, fun g => by simp at g⟩ (by simp)) (by rw [hts_app, b, hts_one]; rfl) fun y hy => ?_
    rcases List.mem_append.1 hy with hy | hy
    · exact hno (he rfl) y hy
    · rw [List.mem_singleton.1 hy]; constructor <;> simp
  by_cases g2 : op = 2
  · subst g2
    obtain ⟨a, b⟩ := hex (n := 0) (he rfl) (by decide) (by decide)
    obtain ⟨a', b'⟩ := hex (n := 1) (hf rfl) (by decide) (by decide)
    obtain ⟨y, -, -, c, d, e'⟩ := var_at h1 (hv rfl)
    simp only [show needE 2 = true from rfl, if_true, show ¬ (2 : Int) = 1 by decide, if_false]
    refine Piece.plain ((a.app (m := exCode vs f) (by rw [b]; exact a')).snoc (m := 2) (by rw [hts_app, b, b']; rfl) (by simp [popA]) (by simp [dl, popA, popB]) (fun g => by simp at g) ⟨fun g => by simp at g, fun _ => ⟨c, d, e'⟩⟩ (by simp)) (by rw [hts_app, hts_app, b, b', hts_one]; rfl) fun y hy => ?_
    rcases List.mem_append.1 hy with hy | hy
    · rcases List.mem_append.1 hy with hy | hy
      · exact hno (he rfl) y hy
      · exact hno (hf rfl) y hy
    · rw [List.mem_singleton.1 hy]; constructor <;> simp
  by_cases g3 : op = 3
  · subst g3
    obtain ⟨a, b⟩ := hex (n := 0) (he rfl) (by decide) (by decide)
    simp only [show needE 3 = true from rfl, if_true, show ¬ (3 : Int) = 1 by decide, show ¬ (3 : Int) = 2 by decide, if_false]
    refine Piece.plain (a.snoc (m := 1) (by rw [b]; rfl) (by simp [popA]) (by simp [dl, popA, popB]) (fun g => by simp at g) (c0 (by decide)) (by simp)) (by rw [hts_app, b, hts_one]; rfl) fun y hy => ?_
    rcases List.mem_append.1 hy with hy | hy
    · exact hno (he rfl) y hy
    · rw [List.mem_singleton.1 hy]; constructor <;> simp
  by_cases g4 : op = 4
  · subst g4
    obtain ⟨y, -, -, c, d, e'⟩ := var_at h1 (hv rfl)
    simp only [show needE 4 = false from rfl, if_true, show ¬ (4 : Int) = 1 by decide, show ¬ (4 : Int) = 2 by decide, show ¬ (4 : Int) = 3 by decide, if_false, Bool.false_eq_true]
    refine Piece.plain (Fit.snoc (L := []) (m := 0) trivial rfl (by simp [popA]) (by simp [dl, popA, popB]) (fun g => by simp at g) ⟨fun _ => ⟨c, by simp only; omega⟩, fun g => by simp at g⟩ (by simp)) rfl fun y hy => ?_
    rw [List.nil_append] at hy
    rw [List.mem_singleton.1 hy]; constructor <;> simp
  by_cases g7 : op = 7
  · subst g7
    simp only [show needE 7 = false from rfl, if_true, show ¬ (7 : Int) = 1 by decide, show ¬ (7 : Int) = 2 by decide, show ¬ (7 : Int) = 3 by decide, show ¬ (7 : Int) = 4 by decide, show ¬ (7 : Int) = 5 by decide, show ¬ (7 : Int) = 6 by decide, if_false, Bool.false_eq_true]
    refine Piece.plain (Fit.snoc (L := []) (m := 0) trivial rfl (by simp [popA]) (by simp [dl, popA, popB]) (fun g => by simp at g) (c0 (by decide)) (by simp)) rfl fun y hy => ?_
    rw [List.mem_singleton.1 hy]; constructor <;> simp
  simp only [g1, g2, g3, g4, g7, if_false]
  have h56 : op = 5 ∨ op = 6 := by omega
  have hne : needE op = true := by rcases h56 with rfl | rfl <;> rfl
  obtain ⟨a, b⟩ := hex (n := 0) (he hne) (by decide) (by decide)
  have hn0 := hno (he hne)
  rw [if_pos hne]
  -- the head: the condition, and the jump behind it
  have head : ∀ t : Int, Fit (sizes vs) 0 (exCode vs e ++ [⟨13, t, 0, 0⟩]) ∧ hts (exCode vs e ++ [⟨13, t, 0, 0⟩]) = 0 := fun t =>
    ⟨a.snoc (m := 1) (by rw [b]; rfl) (by simp [popA]) (by simp [dl, popA, popB]) (fun _ => by simp [dl, popA, popB]) (c0 (by decide)) (by simp), by rw [hts_app, b, hts_one]; rfl⟩
  have body_ := hB (k + (exCode vs e).length + 1)
  generalize hbe : stsCode vs body (k + (exCode vs e).length + 1) = Bc at body_ ⊢
  generalize hee : stsCode vs els (k + (exCode vs e).length + 1 + Bc.length + 1) = Ec
  have els_ := hE (k + (exCode vs e).length + 1 + Bc.length + 1)
  rw [hee] at els_
  clear hbe hee
  generalize exCode vs e = C at *
  by_cases g5 : op = 5
  · rw [if_pos g5]
    refine ⟨Fit.snoc (m := 0) ((head _).1.app (by rw [(head _).2]; exact body_.1)) (by rw [hts_app, (head _).2, body_.2.1]; rfl) (by simp [popA]) (by simp [dl, popA, popB]) (fun _ => by simp [dl, popA, popB]) (c0 (by decide)) (by simp), by rw [hts_app, hts_app, (head _).2, body_.2.1, hts_one]; rfl, ?_⟩
    intro y hy
    rcases List.mem_append.1 hy with hy | hy
    · rcases List.mem_append.1 hy with hy | hy
      · rcases List.mem_append.1 hy with hy | hy
        · exact JIn.none (hn0 y hy)
        · rw [List.mem_singleton.1 hy]
          refine fun _ => ⟨C.length + 1 + Bc.length + 1, by simp only; congr 1; omega, by simp only [List.length_append, List.length_singleton]; omega, ?_⟩
          rw [List.take_of_length_le (by simp only [List.length_append, List.length_singleton]; omega), hts_app, hts_app, (head _).2, body_.2.1, hts_one]; rfl
      · refine JIn.lift (by rw [List.length_append, List.length_singleton, ← Nat.add_assoc]; exact body_.2.2 y hy) (head _).2
    · rw [List.mem_singleton.1 hy]
      exact fun _ => ⟨0, rfl, Nat.zero_le _, rfl⟩
  rw [if_neg g5, if_pos (by omega)]
  have hmid : ∀ t u : Int, Fit (sizes vs) 0 (C ++ [⟨13, t, 0, 0⟩] ++ Bc ++ [⟨14, u, 0, 0⟩]) ∧ hts (C ++ [⟨13, t, 0, 0⟩] ++ Bc ++ [⟨14, u, 0, 0⟩]) = 0 := fun t u =>
    ⟨Fit.snoc (m := 0) ((head _).1.app (by rw [(head _).2]; exact body_.1)) (by rw [hts_app, (head _).2, body_.2.1]; rfl) (by simp [popA]) (by simp [dl, popA, popB]) (fun _ => by simp [dl, popA, popB]) (c0 (by decide)) (by simp), by rw [hts_app, hts_app, (head _).2, body_.2.1, hts_one]; rfl⟩
  refine ⟨(hmid _ _).1.app (by rw [(hmid _ _).2]; exact els_.1), by rw [hts_app, (hmid _ _).2, els_.2.1]; rfl, ?_⟩
  intro y hy
  rcases List.mem_append.1 hy with hy | hy
  · rcases List.mem_append.1 hy with hy | hy
    · rcases List.mem_append.1 hy with hy | hy
      · rcases List.mem_append.1 hy with hy | hy
        · exact JIn.none (hn0 y hy)
        · rw [List.mem_singleton.1 hy]
          refine fun _ => ⟨C.length + 1 + Bc.length + 1, by simp only; congr 1; omega, by simp only [List.length_append, List.length_singleton]; omega, ?_⟩
          rw [List.take_append_of_le_length (by simp only [List.length_append, List.length_singleton]; omega), List.take_of_length_le (by simp only [List.length_append, List.length_singleton]; omega), (hmid _ _).2]
      · rw [List.append_assoc]
        refine JIn.lift (by rw [List.length_append, List.length_singleton, ← Nat.add_assoc]; exact body_.2.2 y hy) (head _).2
    · rw [List.mem_singleton.1 hy]
      refine fun _ => ⟨C.length + 1 + Bc.length + 1 + Ec.length, by simp only; congr 1; omega, by simp only [List.length_append, List.length_singleton]; omega, ?_⟩
      rw [List.take_of_length_le (by simp only [List.length_append, List.length_singleton]; omega), hts_app, (hmid _ _).2, els_.2.1]; rfl
  · have := JIn.lift (B := []) (at_ := k) (A := C ++ [⟨13, (k + C.length + 1 + Bc.length + 1 : Nat), 0, 0⟩] ++ Bc ++ [⟨14, (k + C.length + 1 + Bc.length + 1 + Ec.length : Nat), 0, 0⟩]) (L := Ec) (x := y) (by rw [show k + (C ++ [⟨13, (k + C.length + 1 + Bc.length + 1 : Nat), 0, 0⟩] ++ Bc ++ [⟨14, (k + C.length + 1 + Bc.length + 1 + Ec.length : Nat), 0, 0⟩] : List In).length = k + C.length + 1 + Bc.length + 1 by simp only [List.length_append, List.length_singleton]; omega]; exact els_.2.2 y hy) (hmid _ _).2
    rwa [List.append_nil] at this
theorem code_fits {p : Pr} (h : checkP p = 0) : Piece (sizes p.vars) 0 (stsCode p.vars p.body 0) := by
  obtain ⟨a, -, c, -⟩ := check_valid h
  exact sts_piece _ (fun x hx => st_piece c x (a.mem x hx)) 0
end Go.Proofs.YtmnmcjdgnpgchaaGreat

namespace Go.Proofs.YtmnmcjdgnpgchaaGreat
open Go X
def wrap_ (n : Int) : Int := IntKind.i64.wrap n
def binV (op a b : Int) : Int := if op = 4 then wrap_ (a + b) else if op = 5 then wrap_ (a - b) else if op = 6 then wrap_ (a * b) else if op = 7 then (if a < b then 1 else 0) else if a = b then 1 else 0
abbrev XR (α : Type) := Except (Int × Nat) (α × Nat)
def opRun (vs : List Va) (cs : List Int) (op v n : Int) (xs : List Int) (f : Nat) : XR Int :=
  if op = 1 then .ok (n, f)
  else if op = 2 then .ok (cs.getD (cellOf vs v).toNat 0, f)
  else if op = 3 then (if xs.getD 0 0 < 0 ∨ sizeV vs v ≤ xs.getD 0 0 then .error (11, f) else .ok (cs.getD (cellOf vs v + xs.getD 0 0).toNat 0, f))
  else .ok (binV op (xs.getD 0 0) (xs.getD 1 0), f)
def oneF (f : Nat) : Except (Int × Nat) Nat := if f = 0 then .error (13, 0) else .ok (f - 1)
mutual
def exRun (vs : List Va) (cs : List Int) : Ex → Nat → XR Int
  | .mk op v n l, f => match exsRun vs cs l f with
    | .error e => .error e
    | .ok (xs, f1) => match oneF f1 with
      | .error e => .error e
      | .ok f2 => opRun vs cs op v n xs f2
def exsRun (vs : List Va) (cs : List Int) : List Ex → Nat → XR (List Int)
  | [], f => .ok ([], f)
  | x :: l, f => match exRun vs cs x f with
    | .error e => .error e
    | .ok (a, f1) => match exsRun vs cs l f1 with
      | .error e => .error e
      | .ok (xs, f2) => .ok (a :: xs, f2)
end
structure RS where
  cells : List Int
  inp : List Int
  out : List Int
  left : Nat
abbrev RR := Except (Int × RS) RS
def exS (vs : List Va) (x : Ex) (s : RS) : Except (Int × RS) (Int × RS) := match exRun vs s.cells x s.left with
  | .error (c, f) => .error (c, { s with left := f })
  | .ok (v, f) => .ok (v, { s with left := f })
def oneS (s : RS) : RR := if s.left = 0 then .error (13, s) else .ok { s with left := s.left - 1 }
def isS (vs : List Va) (x : Ex) (s : RS) : Except (Int × RS) (Bool × RS) := match exS vs x s with
  | .error e => .error e
  | .ok (n, s1) => match oneS s1 with
    | .error e => .error e
    | .ok s2 => .ok (decide (n ≠ 0), s2)
def setS (vs : List Va) (v : Int) (e : Ex) (s : RS) : RR := match exS vs e s with
  | .error e => .error e
  | .ok (n, s1) => match oneS s1 with
    | .error e => .error e
    | .ok s2 => .ok { s2 with cells := s2.cells.set (cellOf vs v).toNat n }
def putS (vs : List Va) (v : Int) (e f : Ex) (s : RS) : RR := match exS vs e s with
  | .error e => .error e
  | .ok (k, s1) => match exS vs f s1 with
    | .error e => .error e
    | .ok (n, s2) => match oneS s2 with
      | .error e => .error e
      | .ok s3 => if k < 0 ∨ sizeV vs v ≤ k then .error (11, s3) else .ok { s3 with cells := s3.cells.set (cellOf vs v + k).toNat n }
def printS (vs : List Va) (e : Ex) (s : RS) : RR := match exS vs e s with
  | .error e => .error e
  | .ok (n, s1) => match oneS s1 with
    | .error e => .error e
    | .ok s2 => .ok { s2 with out := s2.out ++ [n] }
def readS (vs : List Va) (v : Int) (s : RS) : RR := match oneS s with
  | .error e => .error e
  | .ok s1 => match s1.inp with
    | [] => .error (12, s1)
    | x :: r => .ok { s1 with cells := s1.cells.set (cellOf vs v).toNat x, inp := r }
def listG (F : St → RS → Option RR) : List St → RS → Option RR
  | [], s => some (.ok s)
  | x :: l, s => match F x s with
    | none => none
    | some (.error e) => some (.error e)
    | some (.ok s1) => listG F l s1
def stG (vs : List Va) : Nat → St → RS → Option RR
  | 0, _, _ => none
  | g + 1, .mk op v e f body els, s =>
    if op = 1 then some (setS vs v e s)
    else if op = 2 then some (putS vs v e f s)
    else if op = 3 then some (printS vs e s)
    else if op = 4 then some (readS vs v s)
    else if op = 5 then match isS vs e s with
      | .error e => some (.error e)
      | .ok (false, s1) => some (.ok s1)
      | .ok (true, s1) => match listG (stG vs g) body s1 with
        | none => none
        | some (.error e) => some (.error e)
        | some (.ok s2) => match oneS s2 with
          | .error e => some (.error e)
          | .ok s3 => stG vs g (.mk op v e f body els) s3
    else if op = 6 then match isS vs e s with
      | .error e => some (.error e)
      | .ok (true, s1) => match listG (stG vs g) body s1 with
        | none => none
        | some (.error e) => some (.error e)
        | some (.ok s2) => some (oneS s2)
      | .ok (false, s1) => listG (stG vs g) els s1
    else if op = 7 then some (oneS s)
    else some (.ok s)
theorem oneF_le {f f' : Nat} (h : oneF f = .ok f') : f' + 1 = f := by
  rw [oneF] at h
  split at h
  · cases h
  · simp only [Except.ok.injEq] at h; omega
theorem opRun_left {vs : List Va} {cs : List Int} {op v n : Int} {xs : List Int} {f : Nat} : (∀ r, opRun vs cs op v n xs f = .ok r → r.2 = f) ∧ ∀ e, opRun vs cs op v n xs f = .error e → e = (11, f) := by
  rw [opRun]
  refine ⟨fun r h => ?_, fun e h => ?_⟩
  · repeat' split at h
    all_goals first | cases h; rfl | cases h
  · repeat' split at h
    all_goals first | cases h; rfl | cases h
structure XEnd {α : Type} (r : XR α) (f : Nat) : Prop where
  ok : ∀ a, r = .ok a → a.2 ≤ f
  err : ∀ c k, r = .error (c, k) → k ≤ f ∧ (c = 13 ∧ k = 0 ∨ c = 11)
theorem exsEnd {vs : List Va} {cs : List Int} : ∀ (l : List Ex), (∀ x ∈ l, ∀ f, XEnd (exRun vs cs x f) f) → ∀ f, XEnd (exsRun vs cs l f) f ∧ ∀ xs k, exsRun vs cs l f = .ok (xs, k) → xs.length = l.length
  | [], _, f => by
    rw [exsRun]
    exact ⟨⟨fun a h => by cases h; exact Nat.le_refl _, fun c k h => (by cases h)⟩, fun xs k h => by cases h; rfl⟩
  | x :: l, h, f => by
    have hx := h x (by simp) f
    rw [exsRun]
    cases e1 : exRun vs cs x f with
    | error e =>
      refine ⟨⟨fun a h => (by cases h), fun c k h => ?_⟩, fun xs k h => (by cases h)⟩
      simp only [Except.error.injEq] at h; subst h
      exact hx.err c k e1
    | ok a =>
      obtain ⟨v, f1⟩ := a
      have h1 := hx.ok _ e1
      simp only at h1 ⊢
      obtain ⟨h2, h3⟩ := exsEnd l (fun y hy => h y (by simp [hy])) f1
      cases e2 : exsRun vs cs l f1 with
      | error e =>
        refine ⟨⟨fun a h => (by cases h), fun c k h => ?_⟩, fun xs k h => (by cases h)⟩
        simp only [Except.error.injEq] at h; subst h
        have := h2.err c k e2
        exact ⟨by omega, this.2⟩
      | ok a =>
        obtain ⟨xs, f2⟩ := a
        have := h2.ok _ e2
        refine ⟨⟨fun a h => ?_, fun c k h => (by cases h)⟩, fun ys k h => ?_⟩
        · simp only [Except.ok.injEq] at h; subst h; simp only at this ⊢; omega
        · simp only [Except.ok.injEq, Prod.mk.injEq] at h; obtain ⟨rfl, -⟩ := h
          rw [List.length_cons, List.length_cons, h3 xs f2 e2]
theorem exEnd (vs : List Va) (cs : List Int) (x : Ex) : ∀ f, XEnd (exRun vs cs x f) f := by
  refine Ex.ind (P := fun x => ∀ f, XEnd (exRun vs cs x f) f) ?_ x
  intro op v n l ih f
  have hl := (exsEnd l ih f).1
  rw [exRun]
  cases e1 : exsRun vs cs l f with
  | error e =>
    refine ⟨fun a h => (by cases h), fun c k h => ?_⟩
    simp only [Except.error.injEq] at h; subst h
    exact hl.err c k e1
  | ok a =>
    obtain ⟨xs, f1⟩ := a
    have h1 := hl.ok _ e1
    simp only at h1 ⊢
    cases e2 : oneF f1 with
    | error e =>
      refine ⟨fun a h => (by cases h), fun c k h => ?_⟩
      simp only [Except.error.injEq] at h; subst h
      rw [oneF] at e2
      split at e2
      · cases e2; exact ⟨Nat.zero_le _, .inl ⟨rfl, rfl⟩⟩
      · cases e2
    | ok f2 =>
      have h2 := oneF_le e2
      obtain ⟨g1, g2⟩ := opRun_left (vs := vs) (cs := cs) (op := op) (v := v) (n := n) (xs := xs) (f := f2)
      refine ⟨fun a h => ?_, fun c k h => ?_⟩
      · have := g1 a h; omega
      · have := g2 _ h; simp only [Prod.mk.injEq] at this; obtain ⟨rfl, rfl⟩ := this; exact ⟨by omega, .inr rfl⟩
theorem exsLen (vs : List Va) (cs : List Int) (l : List Ex) (f : Nat) {xs : List Int} {k : Nat} (h : exsRun vs cs l f = .ok (xs, k)) : xs.length = l.length := (exsEnd l (fun x _ => exEnd vs cs x) f).2 xs k h
structure Mi where
  next : Nat
  stack : List Int
  rd : Nat
  outn : Nat
  st : Int
  cells : List Int
structure Be where
  m : Mi
  kept : Mi
  out : List Int
  wrong : Bool
def doIn (inp : List Int) (keep : Bool) (x : In) (b : Be) : Be :=
  let m := b.m
  if x.op = 1 then { b with m := { m with stack := x.n :: m.stack } }
  else if x.op = 2 then { b with m := { m with stack := m.cells.getD x.a.toNat 0 :: m.stack } }
  else if x.op = 3 then match m.stack with
    | [] => b
    | k :: s => if k < 0 ∨ x.b ≤ k then { b with m := { m with stack := s, st := 13 } } else { b with m := { m with stack := m.cells.getD (x.a + k).toNat 0 :: s } }
  else if 4 ≤ x.op ∧ x.op ≤ 8 then match m.stack with
    | y :: z :: s => { b with m := { m with stack := binV x.op z y :: s } }
    | _ => b
  else if x.op = 9 then match m.stack with
    | [] => b
    | n :: s => { b with m := { m with stack := s, cells := m.cells.set x.a.toNat n } }
  else if x.op = 10 then match m.stack with
    | n :: k :: s => if k < 0 ∨ x.b ≤ k then { b with m := { m with stack := s, st := 13 } } else { b with m := { m with stack := s, cells := m.cells.set (x.a + k).toNat n } }
    | _ => b
  else if x.op = 11 then match m.stack with
    | [] => b
    | n :: s =>
      if m.outn = b.out.length then { b with m := { m with stack := s, outn := m.outn + 1 }, out := b.out ++ [n] }
      else { b with m := { m with stack := s, outn := m.outn + 1 }, wrong := b.wrong || decide (b.out.getD m.outn 0 ≠ n) }
  else if x.op = 12 then (if inp.length ≤ m.rd then { b with m := { m with st := 14 } } else { b with m := { m with cells := m.cells.set x.a.toNat (inp.getD m.rd 0), rd := m.rd + 1 } })
  else if x.op = 13 then match m.stack with
    | [] => b
    | n :: s => if n = 0 then { b with m := { m with stack := s, next := x.a.toNat } } else { b with m := { m with stack := s } }
  else if x.op = 14 then { b with m := { m with next := x.a.toNat } }
  else if x.op = 15 then (if keep then { b with kept := m } else b)
  else if x.op = 16 then { b with m := { m with st := 1 } }
  else b
def bump (b : Be) : Be := { b with m := { b.m with next := b.m.next + 1 } }
def stepB (code : List In) (inp : List Int) (keep : Bool) (b : Be) : Be := match code[b.m.next]? with
  | none => b
  | some x => doIn inp keep x (bump b)
def runM (code : List In) (inp : List Int) : Nat → Be → Be × Nat
  | 0, b => (b, 0)
  | f + 1, b => if b.m.st ≠ 0 then (b, 0) else ((runM code inp f (stepB code inp false b)).1, (runM code inp f (stepB code inp false b)).2 + 1)
end Go.Proofs.YtmnmcjdgnpgchaaGreat

namespace Go.Proofs.YtmnmcjdgnpgchaaGreat
open Go X
set_option maxHeartbeats 1000000
theorem parts_a (σ : PH) (op : Int) : CallsA Tryz.prog 117 #[i64 op] σ [] (RetA fun v σ' Γ' => v = i64 (partsOf op) ∧ σ = σ' ∧ Γ' = []) := by
  by_cases h0 : op < 1
  · 
    refine enterA1 Tryz.func117 rfl rfl rfl ?_
    refine zS (zR (zO rfl Rd.asg ?_)); refine zN (zT (zS (zS (zR (zA rfl ?_))))); refine zO rfl (Rd.lss rfl rfl) ?_; refine zA rfl ?_
    first | (refine zG ?_; refine zA rfl ?_) | refine zH ?_
    first | (refine zG ?_; refine zO rfl (Rd.gtr rfl rfl) ?_) | refine zH ?_
    refine zO rfl zP ?_; refine zN (zT (XA.condT rfl rfl (zS (zR (zO rfl Rd.asg ?_))))); refine zN (zT (XA.ret (DA.thn_ret ?_)))
    refine bodyA.ret (ResA.one rfl rfl) (Ent.refl _) ⟨?_, rfl, rfl⟩
    rw [partsOf, if_neg (by omega), if_neg (by omega), if_neg (by omega)]
  · 
    refine enterA1 Tryz.func117 rfl rfl rfl ?_
    refine zS (zR (zO rfl Rd.asg ?_)); refine zN (zT (zS (zS (zR (zA rfl ?_))))); refine zO rfl (Rd.lss rfl rfl) ?_; refine zA rfl ?_
    first | (refine zG ?_; refine zA rfl ?_) | refine zH ?_
    first | (refine zG ?_; refine zO rfl (Rd.gtr rfl rfl) ?_) | refine zH ?_
    refine zO rfl zP ?_; refine zN (zT ?_)
    refine XA.condp rfl (fun h1 => ?_) (fun h1 => ?_)
    · refine zS ?_
      refine zR (zO rfl Rd.asg ?_); refine zN (zT (XA.ret (DA.thn_ret ?_)))
      refine bodyA.ret (ResA.one rfl rfl) (Ent.refl _) ⟨?_, rfl, rfl⟩
      rw [partsOf, if_neg (by omega), if_neg (by omega), if_neg (by omega)]
    have hop : op = 1 ∨ op = 2 ∨ op = 3 ∨ op = 4 ∨ op = 5 ∨ op = 6 ∨ op = 7 ∨ op = 8 := by omega
    have hel : (List.toArray [i64 0, i64 0, i64 0, i64 1, i64 2, i64 2, i64 2, i64 2, i64 2])[op.toNat]? = some (i64 (partsOf op)) := by
      rcases hop with rfl | rfl | rfl | rfl | rfl | rfl | rfl | rfl <;> rfl
    refine XA.skip (zT (zS (zR ?_)))
    refine zO rfl (Rd.buildA (cs := [i64 0, i64 0, i64 0, i64 1, i64 2, i64 2, i64 2, i64 2, i64 2]) (fun _ _ => tyrow) rfl rfl rfl rfl (by kernel_rfl)) ?_
    refine zA rfl ?_
    refine zO rfl (by apply Rd.indexAgg; exact tyrow rfl; rfl; exact tyrow rfl; rfl; rfl; rfl; rfl; exact (by omega); exact hel) ?_
    refine zO rfl Rd.asg ?_; refine zN (zT (XA.ret ?_))
    exact bodyA.ret (ResA.one rfl rfl) (Ent.refl _) ⟨rfl, rfl, rfl⟩
theorem name_a (σ : PH) (s : ByteArray) (hs : s.size ≤ maxLen) : CallsA Tryz.prog 90 #[.string s] σ [] (RetA fun v σ' Γ' => v = .bool (nameOk s) ∧ σ = σ' ∧ Γ' = []) := by
  simp only [maxLen] at hs
  refine enterA1 Tryz.func90 rfl rfl rfl ?_
  refine zS (zR (zO rfl Rd.asg ?_)); refine zN (zT (zS (zS (zR (zA rfl ?_))))); refine zO rfl (Rd.lenString (tyrow rfl) rfl rfl) ?_; refine zA rfl ?_; refine zN (zT (XA.block ?_))
  refine XA.gen [(0, _), (2, _), (5, _), (6, _)] ⟨(by with_reducible (conv => lhs; whnf)), (by with_reducible (conv => lhs; whnf)), (by with_reducible (conv => lhs; whnf)), (by with_reducible (conv => lhs; whnf)), trivial⟩ (fun δ => ?_)
  dsimp only [List.foldl]
  refine XA.loop [(2, 3), (6, 19)] (fun k : Nat => [(6, i64 k)]) (fun k σ' Γ' => σ = σ' ∧ k ≤ s.size ∧ (∀ i, i < k → 97 ≤ byteAt s i ∧ byteAt s i ≤ 122) ∧ Γ' = []) (fun k => s.size - k) 0 (by exact ⟨rfl, trivial⟩) (Δ0 := _) ?_ (⟨rfl, Nat.zero_le _, by intro i hi; omega, rfl⟩) ?_
  · exact zE
  rintro k δ _ _ ⟨rfl, hk, hall, rfl⟩
  dsimp only [ovr, List.foldl]
  refine zS (zR (zO rfl (Rd.lss rfl rfl) ?_)); refine zN (zT (zS ?_))
  refine XA.condp rfl (fun hlt => ?_) (fun hlt => ?_)
  · have hlt : k < s.size := by omega
    have hb := byteAt_lt s k
    by_cases h1 : byteAt s k < 97
    · 
      refine XA.skip (zT (zS (XA.block (zS (zR (zA rfl ?_)))))); refine zO rfl Rd.asg ?_; refine zN (zT (zS (zR (zA rfl ?_)))); refine zA rfl ?_
      refine zO rfl (Rd.indexStr (tyrow rfl) rfl rfl rfl (by first | omega | decide | (simp; omega))) ?_
      refine zO rfl (Rd.lss rfl rfl) ?_; refine zA rfl ?_
      first | (refine zG ?_; refine zA rfl ?_) | refine zH ?_
      first | (refine zG ?_; refine zA rfl ?_) | refine zH ?_
      first | (refine zG ?_; refine zO rfl (Rd.indexStr (tyrow rfl) rfl rfl rfl (by first | omega | decide | (simp; omega))) ?_) | refine zH ?_
      first | (refine zG ?_; refine zO rfl (Rd.gtr rfl rfl) ?_) | refine zH ?_
      refine zO rfl zP ?_; refine zN (zT (XA.condT rfl rfl (zS (zR (zO rfl Rd.asg ?_))))); refine zN (zT (XA.ret (DA.inb_ret (DA.thn_ret (DA.thn_ret (DA.inb_ret (DA.thn_ret ?_)))))))
      refine bodyA.ret (ResA.one rfl rfl) (Ent.refl _) ⟨?_, rfl, rfl⟩
      have : nameOk s = false := decide_eq_false (fun h => by have := h.1 k hlt; omega)
      rw [this]
    · 
      refine XA.skip (zT (zS (XA.block (zS (zR (zA rfl ?_)))))); refine zO rfl Rd.asg ?_; refine zN (zT (zS (zR (zA rfl ?_)))); refine zA rfl ?_
      refine zO rfl (Rd.indexStr (tyrow rfl) rfl rfl rfl (by first | omega | decide | (simp; omega))) ?_
      refine zO rfl (Rd.lss rfl rfl) ?_; refine zA rfl ?_
      first | (refine zG ?_; refine zA rfl ?_) | refine zH ?_
      first | (refine zG ?_; refine zA rfl ?_) | refine zH ?_
      first | (refine zG ?_; refine zO rfl (Rd.indexStr (tyrow rfl) rfl rfl rfl (by first | omega | decide | (simp; omega))) ?_) | refine zH ?_
      first | (refine zG ?_; refine zO rfl (Rd.gtr rfl rfl) ?_) | refine zH ?_
      refine zO rfl zP ?_; refine zN (zT ?_)
      refine XA.condp rfl (fun h2 => ?_) (fun h2 => ?_)
      · refine zS ?_
        refine zR (zO rfl Rd.asg ?_); refine zN (zT (XA.ret (DA.inb_ret (DA.thn_ret (DA.thn_ret (DA.inb_ret (DA.thn_ret ?_)))))))
        refine bodyA.ret (ResA.one rfl rfl) (Ent.refl _) ⟨?_, rfl, rfl⟩
        have : nameOk s = false := decide_eq_false (fun h => by have := h.1 k hlt; omega)
        rw [this]
      have hnew : ∀ i, i < k + 1 → 97 ≤ byteAt s i ∧ byteAt s i ≤ 122 := fun i hi => by
        rcases Nat.lt_or_ge i k with h | h
        · exact hall i h
        · have : i = k := by omega
          subst this; omega
      refine XA.skip (DA.inb_normal (zT (zR (zO rfl zI ?_)))); refine zA rfl ?_; refine zN (zT ?_)
      refine ⟨(Keep.upd (Keep.upd (Keep.upd (Keep.upd (Keep.upd (Keep.upd (Keep.upd (Keep.upd (Keep.upd (Keep.upd (Keep.upd (Keep.upd (Keep.upd (Keep.upd (Keep.upd (Keep.upd (Keep.hav (Keep.hav (Keep.refl _ _) rfl) rfl) rfl) rfl) rfl) rfl) rfl) rfl) rfl) rfl) rfl) rfl) rfl) rfl) rfl) rfl) rfl) rfl), k + 1, _, zM, ?_, ⟨rfl, hlt, hnew, rfl⟩, (by omega)⟩
      · exact zE
  have hkn : k = s.size := by omega
  subst hkn
  by_cases h0 : s.size = 0
  · have hz : s = ⟨#[]⟩ := ByteArray.ext (Array.eq_empty_of_size_eq_zero h0)
    subst hz
    refine XA.exit (DA.thn_exit (DA.thn_exit (DA.inb_same (zT (zS (zR (zA rfl ?_))))))); refine zO rfl (Rd.neqs rfl rfl) ?_; refine zA rfl ?_
    first | (refine zG ?_; refine zA rfl ?_) | refine zH ?_
    first | (refine zG ?_; refine zO rfl (Rd.lenString (tyrow rfl) rfl rfl) ?_) | refine zH ?_
    first | (refine zG ?_; refine zO rfl (Rd.leq rfl rfl) ?_) | refine zH ?_
    refine zO rfl zP ?_; refine zO rfl Rd.asg ?_; refine zN (zT (XA.ret ?_))
    exact bodyA.ret (ResA.one rfl rfl) (Ent.refl _) ⟨rfl, rfl, rfl⟩
  · have hz : s ≠ ⟨#[]⟩ := fun e => h0 (by rw [e]; rfl)
    refine XA.exit (DA.thn_exit (DA.thn_exit (DA.inb_same (zT (zS (zR (zA rfl ?_))))))); refine zO rfl (Rd.neqs rfl rfl) ?_; refine zA rfl ?_
    first | (refine zG ?_; refine zA rfl ?_) | refine zH ?_
    first | (refine zG ?_; refine zO rfl (Rd.lenString (tyrow rfl) rfl rfl) ?_) | refine zH ?_
    first | (refine zG ?_; refine zO rfl (Rd.leq rfl rfl) ?_) | refine zH ?_
    refine zO rfl zP ?_; refine zO rfl Rd.asg ?_; refine zN (zT (XA.ret ?_))
    refine bodyA.ret (ResA.one rfl rfl) (Ent.refl _) ⟨?_, rfl, rfl⟩
    have : nameOk s = decide ((s.size : Int) ≤ 8) := by
      unfold nameOk
      rw [decide_eq_decide]
      constructor
      · intro h; omega
      · intro h; exact ⟨hall, by omega, by omega⟩
    rw [this]
end Go.Proofs.YtmnmcjdgnpgchaaGreat

namespace Go.Proofs.YtmnmcjdgnpgchaaGreat
open Go X
set_option maxHeartbeats 1000000
def Judge (b : Nat) (vs : Value) (e : JE) : HP := fun m => ∃ l c, blk b [vs, i64 l, i64 c] 135 m ∧ match e with | .ok l' => l = l' ∧ c = 0 | .error d => c = d ∧ c ≠ 0
theorem sat1 {R : HP} {m : PH} (h : R m) : Sat [R] m := ⟨m, PH.none, h, trivial, PH.none_dis m, .refl m, PH.none_sub m⟩
theorem of_sat1 {R : HP} {m : PH} (mono : ∀ m m', R m → m.sub m' → R m') (h : Sat [R] m) : R m := by
  obtain ⟨m1, m2, a, -, -, b, -⟩ := h
  exact mono _ _ a b
theorem blk_mono {g : Nat} {l : List Value} {T : TypeId} : ∀ m m', blk g l T m → PH.sub m m' → blk g l T m' := fun _ _ h s => s _ _ h
theorem Judge.okO {b : Nat} {vs : Value} {l : Int} : ∀ m, Judge b vs (.ok l) m → ∃ _ : Unit, True ∧ Sat [blk b [vs, i64 l, i64 0] 135] m := by
  rintro m ⟨l', c, h, rfl, rfl⟩; exact ⟨(), trivial, sat1 h⟩
theorem Judge.errO {b : Nat} {vs : Value} {c : Int} : ∀ m, Judge b vs (.error c) m → ∃ l : Int, c ≠ 0 ∧ Sat [blk b [vs, i64 l, i64 c] 135] m := by
  rintro m ⟨l', c', h, rfl, h0⟩; exact ⟨l', h0, sat1 h⟩
theorem Judge.mkO {b : Nat} {vs : Value} {l : Int} : ∀ m, Sat [blk b [vs, i64 l, i64 0] 135] m → Judge b vs (.ok l) m := fun m h => ⟨l, 0, of_sat1 blk_mono h, rfl, rfl⟩
theorem Judge.mkE {b : Nat} {vs : Value} {l c : Int} (h0 : c ≠ 0) : ∀ m, Sat [blk b [vs, i64 l, i64 c] 135] m → Judge b vs (.error c) m := fun m h => ⟨l, c, of_sat1 blk_mono h, rfl, h0⟩
theorem fail_a (σ : PH) (b : Nat) (vs : Value) (e : JE) (is : Bool) (c : Int) (hc : c ≠ 0) :
    CallsA Tryz.prog 110 #[ptr b, .bool is, i64 c] σ [Judge b vs e] (RetA fun v σ' Γ' => v = .tuple #[] ∧ σ = σ' ∧ Γ' = [Judge b vs (e.fail is c)]) := by
  cases is with
  | false =>
    refine enterA3 Tryz.func110 rfl rfl rfl ?_
    refine zS (zR (zA rfl ?_)); refine zA rfl ?_
    first | (refine zG ?_; refine zA rfl ?_) | refine zH ?_
    first | (refine zG ?_; refine zO rfl (Rd.nilCheck rfl) ?_) | refine zH ?_
    first | (refine zG ?_; refine zV rfl rfl ?_) | refine zH ?_
    first | (refine zG ?_; refine zB rfl rfl (tyrow rfl) rfl ?_) | refine zH ?_
    first | (refine zG ?_; refine zO rfl (Rd.eql rfl rfl) ?_) | refine zH ?_
    refine zO rfl zP ?_; refine zN (zT (XA.condF rfl rfl (XA.skip ?_)))
    exact bodyA.normal (ResA.none rfl) (Ent.refl _) ⟨rfl, rfl, by rw [fail_false]⟩
  | true =>
    cases e with
    | ok l =>
      refine enterA3 Tryz.func110 rfl rfl rfl ?_
      refine zS (zR (zA rfl ?_)); refine zA rfl ?_
      first | (refine zG ?_; refine zA rfl ?_) | refine zH ?_
      first | refine XA.opn (R := Judge b vs (.ok l)) zL (Judge.okO) ?_ | refine XOA.opn (R := Judge b vs (.ok l)) zL (Judge.okO) ?_ | refine DA.opn (R := Judge b vs (.ok l)) zL (Judge.okO) ?_
      rintro ⟨⟩ -
      first | refine XA.cl ?_ | refine XOA.cl ?_ | refine DA.cl ?_
      first | (refine zG ?_; refine zO rfl (Rd.nilCheck rfl) ?_) | refine zH ?_
      first | (refine zG ?_; refine zV rfl rfl ?_) | refine zH ?_
      first | (refine zG ?_; refine zB rfl rfl (tyrow rfl) rfl ?_) | refine zH ?_
      first | (refine zG ?_; refine zO rfl (Rd.eql rfl rfl) ?_) | refine zH ?_
      refine zO rfl zP ?_; refine zN (zT (XA.condT rfl rfl (zR (zA rfl ?_)))); refine zA rfl ?_; refine zO rfl (Rd.nilCheck rfl) ?_; refine zV rfl rfl ?_
      refine zw rfl (WrA.st (tyrow rfl) rfl) ?_
      rintro _ _ _ ⟨rfl, rfl, rfl⟩
      refine zN ?_
      exact bodyA.normal (ResA.none rfl) (Ent.fold1 zE (Judge.mkE hc)) ⟨rfl, rfl, rfl⟩
    | error d =>
      refine enterA3 Tryz.func110 rfl rfl rfl ?_
      refine zS (zR (zA rfl ?_)); refine zA rfl ?_
      first | (refine zG ?_; refine zA rfl ?_) | refine zH ?_
      first | refine XA.opn (R := Judge b vs (.error d)) zL (Judge.errO) ?_ | refine XOA.opn (R := Judge b vs (.error d)) zL (Judge.errO) ?_ | refine DA.opn (R := Judge b vs (.error d)) zL (Judge.errO) ?_
      rintro l h0
      first | refine XA.cl ?_ | refine XOA.cl ?_ | refine DA.cl ?_
      first | (refine zG ?_; refine zO rfl (Rd.nilCheck rfl) ?_) | refine zH ?_
      first | (refine zG ?_; refine zV rfl rfl ?_) | refine zH ?_
      first | (refine zG ?_; refine zB rfl rfl (tyrow rfl) rfl ?_) | refine zH ?_
      first | (refine zG ?_; refine zO rfl (Rd.eql rfl rfl) ?_) | refine zH ?_
      refine zO rfl zP ?_; refine zN (zT (XA.condF rfl (decide_eq_false h0) (XA.skip ?_)))
      exact bodyA.normal (ResA.none rfl) (Ent.fold1 zE (Judge.mkE h0)) ⟨rfl, rfl, rfl⟩
theorem fail_okT (l c : Int) : JE.fail (.ok l) true c = .error c := rfl
def JE.isOk : JE → Bool | .ok _ => true | .error _ => false
def JE.in_ (e : JE) : Prop := ∀ l, e = .ok l → 0 ≤ l ∧ l ≤ 150
theorem one_a (σ : PH) (b : Nat) (vs : Value) (e : JE) (deep : Int) (hl : e.in_) :
    CallsA Tryz.prog 109 #[ptr b, i64 deep] σ [Judge b vs e] (RetA fun v σ' Γ' => v = .bool (e.one deep).isOk ∧ σ = σ' ∧ Γ' = [Judge b vs (e.one deep)]) := by
  refine enterA2 Tryz.func109 rfl rfl rfl ?_
  refine zS (zR (zO rfl Rd.asg ?_)); refine zN (zT (zS (zR (zA rfl ?_)))); refine zA rfl ?_; refine zO rfl (Rd.gtr rfl rfl) ?_
  refine zw rfl (WrA.cE (fail_a σ b vs e (decide (12 < deep)) 4 (by decide)) rfl) ?_
  rintro _ _ _ ⟨_, ⟨rfl, rfl, rfl⟩, rfl⟩
  refine XOA.cl ?_
  cases e with
  | error c =>
    rw [fail_err]
    refine zN (zT (zS (zR (zA rfl ?_)))); refine zA rfl ?_
    first | refine XA.opn (R := Judge b vs (.error c)) zL (Judge.errO) ?_ | refine XOA.opn (R := Judge b vs (.error c)) zL (Judge.errO) ?_ | refine DA.opn (R := Judge b vs (.error c)) zL (Judge.errO) ?_
    rintro l h0
    first | refine XA.cl ?_ | refine XOA.cl ?_ | refine DA.cl ?_
    refine zO rfl (Rd.nilCheck rfl) ?_; refine zV rfl rfl ?_; refine zB rfl rfl (tyrow rfl) rfl ?_; refine zO rfl (Rd.eql rfl rfl) ?_
    refine XOA.ent (Δ := [Judge b vs (.error c)]) (Ent.fold1 zE (Judge.mkE h0)) ?_
    refine zw rfl (WrA.cE (fail_a σ b vs (.error c) (decide (l = 0)) 3 (by decide)) rfl) ?_
    rintro _ _ _ ⟨_, ⟨rfl, rfl, rfl⟩, rfl⟩
    refine XOA.cl ?_
    rw [fail_err]
    refine zN (zT (zS (zR (zA rfl ?_))))
    first | refine XA.opn (R := Judge b vs (.error c)) zL (Judge.errO) ?_ | refine XOA.opn (R := Judge b vs (.error c)) zL (Judge.errO) ?_ | refine DA.opn (R := Judge b vs (.error c)) zL (Judge.errO) ?_
    rintro l2 h2
    first | refine XA.cl ?_ | refine XOA.cl ?_ | refine DA.cl ?_
    refine zO rfl (Rd.nilCheck rfl) ?_; refine zV rfl rfl ?_; refine zB rfl rfl (tyrow rfl) rfl ?_; refine zO rfl (by first | exact Rd.sbi rfl rfl | exact Rd.sub rfl rfl) ?_; refine zO rfl (Rd.nilCheck rfl) ?_; refine zV rfl rfl ?_
    refine zw rfl (WrA.st (tyrow rfl) rfl) ?_
    rintro _ _ _ ⟨rfl, rfl, rfl⟩
    refine zN (zT (zS (zR (zA rfl ?_)))); refine zO rfl (Rd.nilCheck rfl) ?_; refine zV rfl rfl ?_; refine zB rfl rfl (tyrow rfl) rfl ?_; refine zO rfl (Rd.eql rfl rfl) ?_; refine zO rfl Rd.asg ?_; refine zN (zT (XA.ret ?_))
    refine bodyA.ret (ResA.one rfl rfl) (Ent.fold1 zE (Judge.mkE h0)) ⟨?_, rfl, rfl⟩
    rw [decide_eq_false h0]; rfl
  | ok l =>
    obtain ⟨l0, l1⟩ := hl l rfl
    by_cases hd : 12 < deep
    · rw [decide_eq_true hd, fail_okT]
      refine zN (zT (zS (zR (zA rfl ?_)))); refine zA rfl ?_
      first | refine XA.opn (R := Judge b vs (.error 4)) zL (Judge.errO) ?_ | refine XOA.opn (R := Judge b vs (.error 4)) zL (Judge.errO) ?_ | refine DA.opn (R := Judge b vs (.error 4)) zL (Judge.errO) ?_
      rintro l2 -
      first | refine XA.cl ?_ | refine XOA.cl ?_ | refine DA.cl ?_
      refine zO rfl (Rd.nilCheck rfl) ?_; refine zV rfl rfl ?_; refine zB rfl rfl (tyrow rfl) rfl ?_; refine zO rfl (Rd.eql rfl rfl) ?_
      refine XOA.ent (Δ := [Judge b vs (.error 4)]) (Ent.fold1 zE (Judge.mkE (by decide))) ?_
      refine zw rfl (WrA.cE (fail_a σ b vs (.error 4) (decide (l2 = 0)) 3 (by decide)) rfl) ?_
      rintro _ _ _ ⟨_, ⟨rfl, rfl, rfl⟩, rfl⟩
      refine XOA.cl ?_
      rw [fail_err]
      refine zN (zT (zS (zR (zA rfl ?_))))
      first | refine XA.opn (R := Judge b vs (.error 4)) zL (Judge.errO) ?_ | refine XOA.opn (R := Judge b vs (.error 4)) zL (Judge.errO) ?_ | refine DA.opn (R := Judge b vs (.error 4)) zL (Judge.errO) ?_
      rintro l3 -
      first | refine XA.cl ?_ | refine XOA.cl ?_ | refine DA.cl ?_
      refine zO rfl (Rd.nilCheck rfl) ?_; refine zV rfl rfl ?_; refine zB rfl rfl (tyrow rfl) rfl ?_; refine zO rfl (by first | exact Rd.sbi rfl rfl | exact Rd.sub rfl rfl) ?_; refine zO rfl (Rd.nilCheck rfl) ?_; refine zV rfl rfl ?_
      refine zw rfl (WrA.st (tyrow rfl) rfl) ?_
      rintro _ _ _ ⟨rfl, rfl, rfl⟩
      refine zN (zT (zS (zR (zA rfl ?_)))); refine zO rfl (Rd.nilCheck rfl) ?_; refine zV rfl rfl ?_; refine zB rfl rfl (tyrow rfl) rfl ?_; refine zO rfl (Rd.eql rfl rfl) ?_; refine zO rfl Rd.asg ?_; refine zN (zT (XA.ret ?_))
      refine bodyA.ret (ResA.one rfl rfl) (Ent.fold1 (Γ := _) (Θ := [blk b [vs, _, i64 4] 135]) zE (Judge.mkE (by decide))) ⟨?_, rfl, ?_⟩
      · simp [JE.one, hd, JE.isOk]
      · simp [JE.one, hd]
    · rw [decide_eq_false hd, fail_false]
      refine zN (zT (zS (zR (zA rfl ?_)))); refine zA rfl ?_
      first | refine XA.opn (R := Judge b vs (.ok l)) zL (Judge.okO) ?_ | refine XOA.opn (R := Judge b vs (.ok l)) zL (Judge.okO) ?_ | refine DA.opn (R := Judge b vs (.ok l)) zL (Judge.okO) ?_
      rintro ⟨⟩ -
      first | refine XA.cl ?_ | refine XOA.cl ?_ | refine DA.cl ?_
      refine zO rfl (Rd.nilCheck rfl) ?_; refine zV rfl rfl ?_; refine zB rfl rfl (tyrow rfl) rfl ?_; refine zO rfl (Rd.eql rfl rfl) ?_
      refine XOA.ent (Δ := [Judge b vs (.ok l)]) (Ent.fold1 zE Judge.mkO) ?_
      refine zw rfl (WrA.cE (fail_a σ b vs (.ok l) (decide (l = 0)) 3 (by decide)) rfl) ?_
      rintro _ _ _ ⟨_, ⟨rfl, rfl, rfl⟩, rfl⟩
      refine XOA.cl ?_
      by_cases h0 : l = 0
      · rw [decide_eq_true h0, fail_okT]
        refine zN (zT (zS (zR (zA rfl ?_))))
        first | refine XA.opn (R := Judge b vs (.error 3)) zL (Judge.errO) ?_ | refine XOA.opn (R := Judge b vs (.error 3)) zL (Judge.errO) ?_ | refine DA.opn (R := Judge b vs (.error 3)) zL (Judge.errO) ?_
        rintro l3 -
        first | refine XA.cl ?_ | refine XOA.cl ?_ | refine DA.cl ?_
        refine zO rfl (Rd.nilCheck rfl) ?_; refine zV rfl rfl ?_; refine zB rfl rfl (tyrow rfl) rfl ?_; refine zO rfl (by first | exact Rd.sbi rfl rfl | exact Rd.sub rfl rfl) ?_; refine zO rfl (Rd.nilCheck rfl) ?_; refine zV rfl rfl ?_
        refine zw rfl (WrA.st (tyrow rfl) rfl) ?_
        rintro _ _ _ ⟨rfl, rfl, rfl⟩
        refine zN (zT (zS (zR (zA rfl ?_)))); refine zO rfl (Rd.nilCheck rfl) ?_; refine zV rfl rfl ?_; refine zB rfl rfl (tyrow rfl) rfl ?_; refine zO rfl (Rd.eql rfl rfl) ?_; refine zO rfl Rd.asg ?_; refine zN (zT (XA.ret ?_))
        refine bodyA.ret (ResA.one rfl rfl) (Ent.fold1 (Γ := _) (Θ := [blk b [vs, _, i64 3] 135]) zE (Judge.mkE (by decide))) ⟨?_, rfl, ?_⟩
        · simp [JE.one, hd, h0, JE.isOk]
        · simp [JE.one, hd, h0]
      · rw [decide_eq_false h0, fail_false]
        refine zN (zT (zS (zR (zA rfl ?_))))
        first | refine XA.opn (R := Judge b vs (.ok l)) zL (Judge.okO) ?_ | refine XOA.opn (R := Judge b vs (.ok l)) zL (Judge.okO) ?_ | refine DA.opn (R := Judge b vs (.ok l)) zL (Judge.okO) ?_
        rintro ⟨⟩ -
        first | refine XA.cl ?_ | refine XOA.cl ?_ | refine DA.cl ?_
        refine zO rfl (Rd.nilCheck rfl) ?_; refine zV rfl rfl ?_; refine zB rfl rfl (tyrow rfl) rfl ?_; refine zO rfl (by first | exact Rd.sbi rfl rfl | exact Rd.sub rfl rfl) ?_; refine zO rfl (Rd.nilCheck rfl) ?_; refine zV rfl rfl ?_
        refine zw rfl (WrA.st (tyrow rfl) rfl) ?_
        rintro _ _ _ ⟨rfl, rfl, rfl⟩
        refine zN (zT (zS (zR (zA rfl ?_)))); refine zO rfl (Rd.nilCheck rfl) ?_; refine zV rfl rfl ?_; refine zB rfl rfl (tyrow rfl) rfl ?_; refine zO rfl (Rd.eql rfl rfl) ?_; refine zO rfl Rd.asg ?_; refine zN (zT (XA.ret ?_))
        refine bodyA.ret (ResA.one rfl rfl) (Ent.fold1 (Θ := [blk b [vs, i64 (l - 1), i64 0] 135]) zE Judge.mkO) ⟨?_, rfl, ?_⟩
        · simp [JE.one, hd, h0, JE.isOk]
        · simp [JE.one, hd, h0]
end Go.Proofs.YtmnmcjdgnpgchaaGreat

namespace Go.Proofs.YtmnmcjdgnpgchaaGreat
open Go X
set_option maxHeartbeats 1000000
theorem Judge.any {b : Nat} {vs : Value} {e : JE} : ∀ m, Judge b vs e m → ∃ x : Int × Int, (∀ m', Sat [blk b [vs, i64 x.1, i64 x.2] 135] m' → Judge b vs e m') ∧ Sat [blk b [vs, i64 x.1, i64 x.2] 135] m := by
  rintro m ⟨l', c, h, h0⟩
  exact ⟨(l', c), fun m' h' => ⟨l', c, of_sat1 blk_mono h', h0⟩, sat1 h⟩
theorem Judge.anyD {b : Nat} {vs : Value} {e : JE} : ∀ m, Judge b vs e m → ∃ x : Int × Int, (decide (x.2 = 0) = e.isOk ∧ ∀ m', Sat [blk b [vs, i64 x.1, i64 x.2] 135] m' → Judge b vs e m') ∧ Sat [blk b [vs, i64 x.1, i64 x.2] 135] m := by
  rintro m ⟨l', c, h, h0⟩
  refine ⟨(l', c), ⟨?_, fun m' h' => ⟨l', c, of_sat1 blk_mono h', h0⟩⟩, sat1 h⟩
  cases e with
  | ok l => obtain ⟨-, rfl⟩ := h0; rfl
  | error d => obtain ⟨-, h0⟩ := h0; exact decide_eq_false h0
theorem named_a (σ : PH) (b : Nat) (p : Option Addr) (n c : Nat) (e : JE) (v : Int) (is : Bool) :
    CallsA Tryz.prog 112 #[ptr b, i64 v, .bool is] σ [Judge b (.slice p n c) e] (RetA fun r σ' Γ' => r = .tuple #[] ∧ σ = σ' ∧ Γ' = [Judge b (.slice p n c) (e.named n v is)]) := by
  cases is with
  | false =>
    refine enterA3 Tryz.func112 rfl rfl rfl ?_
    refine zS (zR (zA rfl ?_)); refine zA rfl ?_; refine zA rfl ?_
    first | (refine zG ?_; refine zA rfl ?_) | refine zH ?_
    first | (refine zG ?_; refine zO rfl (Rd.lss rfl rfl) ?_) | refine zH ?_
    first | (refine zG ?_; refine zA rfl ?_) | refine zH ?_
    first | (refine zG ?_; refine zA rfl ?_) | refine zH ?_
    first | (refine zG ?_; refine zA rfl ?_) | refine zH ?_
    first | (refine zG ?_; refine zO rfl (Rd.nilCheck rfl) ?_) | refine zH ?_
    first | (refine zG ?_; refine zV rfl rfl ?_) | refine zH ?_
    first | (refine zG ?_; refine zB rfl rfl (tyrow rfl) rfl ?_) | refine zH ?_
    first | (refine zG ?_; refine zO rfl (Rd.lenSlice (tyrow rfl) rfl rfl) ?_) | refine zH ?_
    first | (refine zG ?_; refine zO rfl (Rd.geq rfl rfl) ?_) | refine zH ?_
    first | (refine zG ?_; refine zO rfl zP ?_) | refine zH ?_
    refine zO rfl zP ?_
    refine zw rfl (WrA.cE (fail_a σ b _ e false 1 (by decide)) rfl) ?_
    rintro _ _ _ ⟨_, ⟨rfl, rfl, rfl⟩, rfl⟩
    refine XOA.cl ?_; refine zN (zT (zR (zA rfl ?_))); refine zA rfl ?_; refine zO rfl zJ ?_; refine zA rfl ?_
    first | (refine zG ?_; refine zA rfl ?_) | refine zH ?_
    first | (refine zG ?_; refine zO rfl (Rd.neq rfl rfl) ?_) | refine zH ?_
    refine zO rfl zP ?_
    refine zw rfl (WrA.cE (fail_a σ b _ _ (decide (v ≠ 0)) 5 (by decide)) rfl) ?_
    rintro _ _ _ ⟨_, ⟨rfl, rfl, rfl⟩, rfl⟩
    refine XOA.cl ?_; refine zN ?_
    exact bodyA.normal (ResA.none rfl) (Ent.refl _) ⟨rfl, rfl, rfl⟩
  | true =>
    by_cases h0 : v < 0
    · 
      refine enterA3 Tryz.func112 rfl rfl rfl ?_
      refine zS (zR (zA rfl ?_)); refine zA rfl ?_; refine zA rfl ?_
      first | (refine zG ?_; refine zA rfl ?_) | refine zH ?_
      first | (refine zG ?_; refine zO rfl (Rd.lss rfl rfl) ?_) | refine zH ?_
      first | (refine zG ?_; refine zA rfl ?_) | refine zH ?_
      first | (refine zG ?_; refine zA rfl ?_) | refine zH ?_
      first | (refine zG ?_; refine zA rfl ?_) | refine zH ?_
      first | (refine zG ?_; refine zO rfl (Rd.nilCheck rfl) ?_) | refine zH ?_
      first | (refine zG ?_; refine zV rfl rfl ?_) | refine zH ?_
      first | (refine zG ?_; refine zB rfl rfl (tyrow rfl) rfl ?_) | refine zH ?_
      first | (refine zG ?_; refine zO rfl (Rd.lenSlice (tyrow rfl) rfl rfl) ?_) | refine zH ?_
      first | (refine zG ?_; refine zO rfl (Rd.geq rfl rfl) ?_) | refine zH ?_
      first | (refine zG ?_; refine zO rfl zP ?_) | refine zH ?_
      refine zO rfl zP ?_
      refine zw rfl (WrA.cE (fail_a σ b _ e true 1 (by decide)) rfl) ?_
      rintro _ _ _ ⟨_, ⟨rfl, rfl, rfl⟩, rfl⟩
      refine XOA.cl ?_; refine zN (zT (zR (zA rfl ?_))); refine zA rfl ?_; refine zO rfl zJ ?_; refine zA rfl ?_
      first | (refine zG ?_; refine zA rfl ?_) | refine zH ?_
      first | (refine zG ?_; refine zO rfl (Rd.neq rfl rfl) ?_) | refine zH ?_
      refine zO rfl zP ?_
      refine zw rfl (WrA.cE (fail_a σ b _ _ false 5 (by decide)) rfl) ?_
      rintro _ _ _ ⟨_, ⟨rfl, rfl, rfl⟩, rfl⟩
      refine XOA.cl ?_; refine zN ?_
      refine bodyA.normal (ResA.none rfl) (Ent.refl _) ⟨rfl, rfl, ?_⟩
      have : decide (v < 0 ∨ (n : Int) ≤ v) = true := decide_eq_true (Or.inl h0)
      simp only [JE.named, this, Bool.true_and, Bool.not_true, Bool.false_and]
    · 
      refine enterA3 Tryz.func112 rfl rfl rfl ?_
      refine zS (zR (zA rfl ?_)); refine zA rfl ?_; refine zA rfl ?_
      first | (refine zG ?_; refine zA rfl ?_) | refine zH ?_
      first | (refine zG ?_; refine zO rfl (Rd.lss rfl rfl) ?_) | refine zH ?_
      first | (refine zG ?_; refine zA rfl ?_) | refine zH ?_
      first | (refine zG ?_; refine zA rfl ?_) | refine zH ?_
      first | (refine zG ?_; refine zA rfl ?_) | refine zH ?_
      first | refine XA.opn (R := Judge b (.slice p n c) e) zL (Judge.any) ?_ | refine XOA.opn (R := Judge b (.slice p n c) e) zL (Judge.any) ?_ | refine DA.opn (R := Judge b (.slice p n c) e) zL (Judge.any) ?_
      rintro ⟨l, cc⟩ hf
      first | refine XA.cl ?_ | refine XOA.cl ?_ | refine DA.cl ?_
      first | (refine zG ?_; refine zO rfl (Rd.nilCheck rfl) ?_) | refine zH ?_
      first | (refine zG ?_; refine zV rfl rfl ?_) | refine zH ?_
      first | (refine zG ?_; refine zB rfl rfl (tyrow rfl) rfl ?_) | refine zH ?_
      first | (refine zG ?_; refine zO rfl (Rd.lenSlice (tyrow rfl) rfl rfl) ?_) | refine zH ?_
      first | (refine zG ?_; refine zO rfl (Rd.geq rfl rfl) ?_) | refine zH ?_
      first | (refine zG ?_; refine zO rfl zP ?_) | refine zH ?_
      refine zO rfl zP ?_
      refine XOA.ent (Δ := [Judge b (.slice p n c) e]) (Ent.fold1 zE hf) ?_
      refine zw rfl (WrA.cE (fail_a σ b _ e (decide ((n : Int) ≤ v)) 1 (by decide)) rfl) ?_
      rintro _ _ _ ⟨_, ⟨rfl, rfl, rfl⟩, rfl⟩
      refine XOA.cl ?_; refine zN (zT (zR (zA rfl ?_))); refine zA rfl ?_; refine zO rfl zJ ?_; refine zA rfl ?_
      first | (refine zG ?_; refine zA rfl ?_) | refine zH ?_
      first | (refine zG ?_; refine zO rfl (Rd.neq rfl rfl) ?_) | refine zH ?_
      refine zO rfl zP ?_
      refine zw rfl (WrA.cE (fail_a σ b _ _ false 5 (by decide)) rfl) ?_
      rintro _ _ _ ⟨_, ⟨rfl, rfl, rfl⟩, rfl⟩
      refine XOA.cl ?_; refine zN ?_
      refine bodyA.normal (ResA.none rfl) (Ent.refl _) ⟨rfl, rfl, ?_⟩
      have : decide (v < 0 ∨ (n : Int) ≤ v) = decide ((n : Int) ≤ v) := by rw [decide_eq_decide]; omega
      simp only [JE.named, this, Bool.true_and, Bool.not_true, Bool.false_and]
theorem none_a (σ : PH) (cs : List Value) (x : Ex) (hx : ExAt σ cs x) : CallsA Tryz.prog 111 #[.agg cs.toArray] σ [] (RetA fun v σ' Γ' => v = .bool (noneX x) ∧ σ = σ' ∧ Γ' = []) := by
  obtain ⟨p, c, rfl, -, -, -, -⟩ := hx.inv
  by_cases h1 : x.op = 0
  · by_cases h2 : x.v = 0
    · by_cases h3 : x.n = 0
      · 
        refine enterA1 Tryz.func111 rfl rfl rfl ?_
        refine zS (zR ?_)
        refine zw rfl WrA.bx ?_
        rintro _ _ _ ⟨g1, rfl, rfl, rfl⟩
        refine zO rfl Rd.asg ?_; refine zN (zT (zS (zR (zV rfl rfl ?_)))); refine zB rfl rfl (tyrow rfl) rfl ?_; refine zO rfl (Rd.eql rfl rfl) ?_; refine zA rfl ?_
        first | (refine zG ?_; refine zV rfl rfl ?_) | refine zH ?_
        first | (refine zG ?_; refine zB rfl rfl (tyrow rfl) rfl ?_) | refine zH ?_
        first | (refine zG ?_; refine zO rfl (Rd.eql rfl rfl) ?_) | refine zH ?_
        refine zO rfl zP ?_; refine zA rfl ?_
        first | (refine zG ?_; refine zV rfl rfl ?_) | refine zH ?_
        first | (refine zG ?_; refine zB rfl rfl (tyrow rfl) rfl ?_) | refine zH ?_
        first | (refine zG ?_; refine zO rfl (Rd.eql rfl rfl) ?_) | refine zH ?_
        refine zO rfl zP ?_; refine zA rfl ?_
        first | (refine zG ?_; refine zV rfl rfl ?_) | refine zH ?_
        first | (refine zG ?_; refine zB rfl rfl (tyrow rfl) rfl ?_) | refine zH ?_
        first | (refine zG ?_; refine zO rfl (Rd.lenSlice (tyrow rfl) rfl rfl) ?_) | refine zH ?_
        first | (refine zG ?_; refine zO rfl (Rd.eql rfl rfl) ?_) | refine zH ?_
        refine zO rfl zP ?_; refine zO rfl Rd.asg ?_; refine zN (zT (XA.ret ?_))
        refine bodyA.ret (ResA.one rfl rfl) (Ent.nil _) ⟨?_, rfl, rfl⟩
        simp [noneX, h1, h2, h3]
      · 
        refine enterA1 Tryz.func111 rfl rfl rfl ?_
        refine zS (zR ?_)
        refine zw rfl WrA.bx ?_
        rintro _ _ _ ⟨g1, rfl, rfl, rfl⟩
        refine zO rfl Rd.asg ?_; refine zN (zT (zS (zR (zV rfl rfl ?_)))); refine zB rfl rfl (tyrow rfl) rfl ?_; refine zO rfl (Rd.eql rfl rfl) ?_; refine zA rfl ?_
        first | (refine zG ?_; refine zV rfl rfl ?_) | refine zH ?_
        first | (refine zG ?_; refine zB rfl rfl (tyrow rfl) rfl ?_) | refine zH ?_
        first | (refine zG ?_; refine zO rfl (Rd.eql rfl rfl) ?_) | refine zH ?_
        refine zO rfl zP ?_; refine zA rfl ?_
        first | (refine zG ?_; refine zV rfl rfl ?_) | refine zH ?_
        first | (refine zG ?_; refine zB rfl rfl (tyrow rfl) rfl ?_) | refine zH ?_
        first | (refine zG ?_; refine zO rfl (Rd.eql rfl rfl) ?_) | refine zH ?_
        refine zO rfl zP ?_; refine zA rfl ?_
        first | (refine zG ?_; refine zV rfl rfl ?_) | refine zH ?_
        first | (refine zG ?_; refine zB rfl rfl (tyrow rfl) rfl ?_) | refine zH ?_
        first | (refine zG ?_; refine zO rfl (Rd.lenSlice (tyrow rfl) rfl rfl) ?_) | refine zH ?_
        first | (refine zG ?_; refine zO rfl (Rd.eql rfl rfl) ?_) | refine zH ?_
        refine zO rfl zP ?_; refine zO rfl Rd.asg ?_; refine zN (zT (XA.ret ?_))
        exact bodyA.ret (ResA.one rfl rfl) (Ent.nil _) ⟨by simp [noneX, h3], rfl, rfl⟩
    · 
      refine enterA1 Tryz.func111 rfl rfl rfl ?_
      refine zS (zR ?_)
      refine zw rfl WrA.bx ?_
      rintro _ _ _ ⟨g1, rfl, rfl, rfl⟩
      refine zO rfl Rd.asg ?_; refine zN (zT (zS (zR (zV rfl rfl ?_)))); refine zB rfl rfl (tyrow rfl) rfl ?_; refine zO rfl (Rd.eql rfl rfl) ?_; refine zA rfl ?_
      first | (refine zG ?_; refine zV rfl rfl ?_) | refine zH ?_
      first | (refine zG ?_; refine zB rfl rfl (tyrow rfl) rfl ?_) | refine zH ?_
      first | (refine zG ?_; refine zO rfl (Rd.eql rfl rfl) ?_) | refine zH ?_
      refine zO rfl zP ?_; refine zA rfl ?_
      first | (refine zG ?_; refine zV rfl rfl ?_) | refine zH ?_
      first | (refine zG ?_; refine zB rfl rfl (tyrow rfl) rfl ?_) | refine zH ?_
      first | (refine zG ?_; refine zO rfl (Rd.eql rfl rfl) ?_) | refine zH ?_
      refine zO rfl zP ?_; refine zA rfl ?_
      first | (refine zG ?_; refine zV rfl rfl ?_) | refine zH ?_
      first | (refine zG ?_; refine zB rfl rfl (tyrow rfl) rfl ?_) | refine zH ?_
      first | (refine zG ?_; refine zO rfl (Rd.lenSlice (tyrow rfl) rfl rfl) ?_) | refine zH ?_
      first | (refine zG ?_; refine zO rfl (Rd.eql rfl rfl) ?_) | refine zH ?_
      refine zO rfl zP ?_; refine zO rfl Rd.asg ?_; refine zN (zT (XA.ret ?_))
      exact bodyA.ret (ResA.one rfl rfl) (Ent.nil _) ⟨by simp [noneX, h2], rfl, rfl⟩
  · 
    refine enterA1 Tryz.func111 rfl rfl rfl ?_
    refine zS (zR ?_)
    refine zw rfl WrA.bx ?_
    rintro _ _ _ ⟨g1, rfl, rfl, rfl⟩
    refine zO rfl Rd.asg ?_; refine zN (zT (zS (zR (zV rfl rfl ?_)))); refine zB rfl rfl (tyrow rfl) rfl ?_; refine zO rfl (Rd.eql rfl rfl) ?_; refine zA rfl ?_
    first | (refine zG ?_; refine zV rfl rfl ?_) | refine zH ?_
    first | (refine zG ?_; refine zB rfl rfl (tyrow rfl) rfl ?_) | refine zH ?_
    first | (refine zG ?_; refine zO rfl (Rd.eql rfl rfl) ?_) | refine zH ?_
    refine zO rfl zP ?_; refine zA rfl ?_
    first | (refine zG ?_; refine zV rfl rfl ?_) | refine zH ?_
    first | (refine zG ?_; refine zB rfl rfl (tyrow rfl) rfl ?_) | refine zH ?_
    first | (refine zG ?_; refine zO rfl (Rd.eql rfl rfl) ?_) | refine zH ?_
    refine zO rfl zP ?_; refine zA rfl ?_
    first | (refine zG ?_; refine zV rfl rfl ?_) | refine zH ?_
    first | (refine zG ?_; refine zB rfl rfl (tyrow rfl) rfl ?_) | refine zH ?_
    first | (refine zG ?_; refine zO rfl (Rd.lenSlice (tyrow rfl) rfl rfl) ?_) | refine zH ?_
    first | (refine zG ?_; refine zO rfl (Rd.eql rfl rfl) ?_) | refine zH ?_
    refine zO rfl zP ?_; refine zO rfl Rd.asg ?_; refine zN (zT (XA.ret ?_))
    exact bodyA.ret (ResA.one rfl rfl) (Ent.nil _) ⟨by simp [noneX, h1], rfl, rfl⟩
theorem chas_a (σ : PH) (op : Int) : CallsA Tryz.prog 97 #[i64 op] σ [] (RetA fun v σ' Γ' => v = .tuple #[.bool (needE op), .bool (needF op), .bool (needV op), .bool (needB op), .bool (needO op)] ∧ σ = σ' ∧ Γ' = []) := by
  refine enterA1 Tryz.func97 rfl rfl rfl ?_
  refine zS (zR (zO rfl Rd.asg ?_)); refine zO rfl Rd.asg ?_; refine zO rfl Rd.asg ?_; refine zO rfl Rd.asg ?_; refine zO rfl Rd.asg ?_; refine zN (zT (zS (zS (zR (zA rfl ?_))))); refine zN (zT (XA.block (zS (zR (zO rfl (Rd.eql rfl rfl) ?_))))); refine zO rfl Rd.asg ?_; refine zN (zT ?_)
  refine XA.condp rfl (fun h1 => ?_) (fun h1 => ?_)
  · refine zS ?_
    refine zR (zO rfl Rd.asg ?_); refine zO rfl Rd.asg ?_; refine zO rfl Rd.asg ?_; refine zO rfl Rd.asg ?_; refine zO rfl Rd.asg ?_; refine zN (zT (XA.ret (DA.inb_ret (DA.thn_ret ?_))))
    subst h1
    exact bodyA.ret (ResA.five rfl rfl rfl rfl rfl rfl) (Ent.refl _) ⟨rfl, rfl, rfl⟩
  refine zS (zR (zO rfl (Rd.eql rfl rfl) ?_)); refine zO rfl Rd.asg ?_; refine zN (zT ?_)
  refine XA.condp rfl (fun h2 => ?_) (fun h2 => ?_)
  · refine zS ?_
    refine zR (zO rfl Rd.asg ?_); refine zO rfl Rd.asg ?_; refine zO rfl Rd.asg ?_; refine zO rfl Rd.asg ?_; refine zO rfl Rd.asg ?_; refine zN (zT (XA.ret (DA.inb_ret (DA.thn_ret ?_))))
    subst h2
    exact bodyA.ret (ResA.five rfl rfl rfl rfl rfl rfl) (Ent.refl _) ⟨rfl, rfl, rfl⟩
  refine zS (zR (zO rfl (Rd.eql rfl rfl) ?_)); refine zO rfl Rd.asg ?_; refine zN (zT ?_)
  refine XA.condp rfl (fun h3 => ?_) (fun h3 => ?_)
  · refine zS ?_
    refine zR (zO rfl Rd.asg ?_); refine zO rfl Rd.asg ?_; refine zO rfl Rd.asg ?_; refine zO rfl Rd.asg ?_; refine zO rfl Rd.asg ?_; refine zN (zT (XA.ret (DA.inb_ret (DA.thn_ret ?_))))
    subst h3
    exact bodyA.ret (ResA.five rfl rfl rfl rfl rfl rfl) (Ent.refl _) ⟨rfl, rfl, rfl⟩
  refine zS (zR (zO rfl (Rd.eql rfl rfl) ?_)); refine zO rfl Rd.asg ?_; refine zN (zT ?_)
  refine XA.condp rfl (fun h4 => ?_) (fun h4 => ?_)
  · refine zS ?_
    refine zR (zO rfl Rd.asg ?_); refine zO rfl Rd.asg ?_; refine zO rfl Rd.asg ?_; refine zO rfl Rd.asg ?_; refine zO rfl Rd.asg ?_; refine zN (zT (XA.ret (DA.inb_ret (DA.thn_ret ?_))))
    subst h4
    exact bodyA.ret (ResA.five rfl rfl rfl rfl rfl rfl) (Ent.refl _) ⟨rfl, rfl, rfl⟩
  refine zS (zR (zO rfl (Rd.eql rfl rfl) ?_)); refine zO rfl Rd.asg ?_; refine zN (zT ?_)
  refine XA.condp rfl (fun h5 => ?_) (fun h5 => ?_)
  · refine zS ?_
    refine zR (zO rfl Rd.asg ?_); refine zO rfl Rd.asg ?_; refine zO rfl Rd.asg ?_; refine zO rfl Rd.asg ?_; refine zO rfl Rd.asg ?_; refine zN (zT (XA.ret (DA.inb_ret (DA.thn_ret ?_))))
    subst h5
    exact bodyA.ret (ResA.five rfl rfl rfl rfl rfl rfl) (Ent.refl _) ⟨rfl, rfl, rfl⟩
  refine zS (zR (zO rfl (Rd.eql rfl rfl) ?_)); refine zO rfl Rd.asg ?_; refine zN (zT ?_)
  refine XA.condp rfl (fun h6 => ?_) (fun h6 => ?_)
  · refine zS ?_
    refine zR (zO rfl Rd.asg ?_); refine zO rfl Rd.asg ?_; refine zO rfl Rd.asg ?_; refine zO rfl Rd.asg ?_; refine zO rfl Rd.asg ?_; refine zN (zT (XA.ret (DA.inb_ret (DA.thn_ret ?_))))
    subst h6
    exact bodyA.ret (ResA.five rfl rfl rfl rfl rfl rfl) (Ent.refl _) ⟨rfl, rfl, rfl⟩
  refine XA.skip (DA.inb_normal (zT (XA.ret ?_)))
  refine bodyA.ret (ResA.five rfl rfl rfl rfl rfl rfl) (Ent.refl _) ⟨?_, rfl, rfl⟩
  simp [needE, needF, needV, needB, needO, h1, h2, h3, h4, h5, h6]
theorem in_of {F : Int → JE → JE} (hF : Down F) {e : JE} (h : e.in_) (d : Int) : (F d e).in_ := by
  cases e with
  | error c => rw [hF.err]; intro l hl; cases hl
  | ok a =>
    intro l hl
    obtain ⟨h1, h2⟩ := h a rfl
    obtain ⟨h3, h4, -⟩ := hF.ok _ _ _ h1 hl
    omega
def ExprOK (σ : PH) (x : Ex) : Prop := ∀ (cs : List Value) (b : Nat) (p : Option Addr) (n c : Nat) (e : JE) (deep : Int), ExAt σ cs x → e.in_ → 0 ≤ deep → deep ≤ 1000 →
  CallsA Tryz.prog 113 #[ptr b, .agg cs.toArray, i64 deep] σ [Judge b (.slice p n c) e] (RetA fun r σ' Γ' => r = .tuple #[] ∧ σ = σ' ∧ Γ' = [Judge b (.slice p n c) (exE n deep x e)])
theorem isOk_false {e : JE} (h : e.isOk = false) : ∃ c, e = .error c := by
  cases e with
  | ok l => cases h
  | error c => exact ⟨c, rfl⟩
theorem one_ok {e : JE} {d : Int} (h : (e.one d).isOk = true) : d ≤ 12 := by
  cases e with
  | error c => cases h
  | ok l =>
    simp only [JE.one] at h
    split at h
    · cases h
    · omega
theorem expr_a (σ : PH) (x : Ex) : ExprOK σ x := by
  refine Ex.ind (P := ExprOK σ) ?_ x
  intro op v k l ih cs b p n c e deep hx hin hd0 hd1
  obtain ⟨pl, cl, rfl, -, -, -, hl⟩ := hx.inv
  simp only [Ex.op, Ex.v, Ex.n, Ex.l] at hl ⊢
  obtain ⟨-, -, -, hle, hmx⟩ := hl.shape
  have hlen : l.length ≤ maxLen := by
    obtain ⟨q, d, e1, h1, h2⟩ := hl.shape
    omega
  simp only [maxLen] at hlen
  refine enterA3 Tryz.func113 rfl rfl rfl ?_
  refine zS (zR ?_)
  refine zw rfl WrA.bx ?_
  rintro _ _ _ ⟨g4, rfl, rfl, rfl⟩
  refine zN (zT (zS (zS (zR (zA rfl ?_))))); refine zA rfl ?_
  refine zw rfl (WrA.cE (one_a σ b (.slice p n c) e deep hin) rfl) ?_
  rintro _ _ _ ⟨_, ⟨rfl, rfl, rfl⟩, rfl⟩
  refine XOA.cl ?_
  cases hok : (e.one deep).isOk with
  | false =>
    obtain ⟨c', hc'⟩ := isOk_false hok
    have hp : exE n deep (.mk op v k l) e = .error c' := by rw [exE, exHead, hc', fail_err, fail_err, named_err, exsE_err]
    rw [hc', hp]
    refine zO rfl zJ ?_; refine zN (zT (XA.condT rfl rfl (XA.ret (DA.thn_ret ?_))))
    exact bodyA.ret (ResA.none rfl) zE ⟨rfl, rfl, rfl⟩
  | true =>
    have hd := one_ok hok
    refine zO rfl zJ ?_; refine zN (zT (XA.condF rfl rfl (XA.skip (zT (zS (zR (zV rfl rfl ?_))))))); refine zB rfl rfl (tyrow rfl) rfl ?_
    refine zw rfl (WrA.cE (parts_a σ op) rfl) ?_
    rintro _ _ _ ⟨_, ⟨rfl, rfl, rfl⟩, rfl⟩
    refine XOA.cl ?_; refine zO rfl Rd.asg ?_; refine zN (zT (zS (zR (zA rfl ?_)))); refine zA rfl ?_; refine zO rfl (Rd.lss rfl rfl) ?_
    refine zw rfl (WrA.cE (fail_a σ b _ _ (decide (partsOf op < 0)) 2 (by decide)) rfl) ?_
    rintro _ _ _ ⟨_, ⟨rfl, rfl, rfl⟩, rfl⟩
    refine XOA.cl ?_; refine zN (zT (zS (zR (zA rfl ?_)))); refine zV rfl rfl ?_; refine zB rfl rfl (tyrow rfl) rfl ?_; refine zO rfl (Rd.lenSlice (tyrow rfl) rfl rfl) ?_; refine zA rfl ?_
    refine XOA.join (List.take_append_drop 11 _).symm [(20, 20), (25, 35)] (fun _ : Unit => [(20, ptr b), (35, .bool (decide ((l.length : Int) ≠ partsOf op ∨ (k ≠ 0 ∧ op ≠ 1))))]) (fun _ σ' Γ' => σ = σ' ∧ Γ' = [Judge b (.slice p n c) ((e.one deep).fail (decide (partsOf op < 0)) 2), blk g4 [i64 op, i64 v, i64 k, .slice pl l.length cl] 93]) ?_ ?_
    · 
      by_cases h1 : (l.length : Int) = partsOf op
      · by_cases h2 : k = 0
        · have hb : decide ((l.length : Int) ≠ partsOf op ∨ (k ≠ 0 ∧ op ≠ 1)) = false := decide_eq_false (by omega)
          rw [hb]
          refine zO rfl (Rd.neq rfl rfl) ?_; refine zA rfl ?_
          first | (refine zG ?_; refine zV rfl rfl ?_) | refine zH ?_
          first | (refine zG ?_; refine zB rfl rfl (tyrow rfl) rfl ?_) | refine zH ?_
          first | (refine zG ?_; refine zO rfl (Rd.neq rfl rfl) ?_) | refine zH ?_
          first | (refine zG ?_; refine zA rfl ?_) | refine zH ?_
          first | (refine zG ?_; refine zV rfl rfl ?_) | refine zH ?_
          first | (refine zG ?_; refine zB rfl rfl (tyrow rfl) rfl ?_) | refine zH ?_
          first | (refine zG ?_; refine zO rfl (Rd.neq rfl rfl) ?_) | refine zH ?_
          first | (refine zG ?_; refine zO rfl zP ?_) | refine zH ?_
          refine zO rfl zP ?_; refine zN (zT ?_)
          refine ⟨(Keep.upd (Keep.upd (Keep.upd (Keep.upd (Keep.upd (Keep.upd (Keep.upd (Keep.upd (Keep.upd (Keep.upd (Keep.upd (Keep.refl _ _) rfl) rfl) rfl) rfl) rfl) rfl) rfl) rfl) rfl) rfl) rfl), (), _, zM, ?_, ⟨rfl, rfl⟩⟩
          · exact zE
        · have hb : decide ((l.length : Int) ≠ partsOf op ∨ (k ≠ 0 ∧ op ≠ 1)) = decide (op ≠ 1) := by rw [decide_eq_decide]; omega
          rw [hb]
          refine zO rfl (Rd.neq rfl rfl) ?_; refine zA rfl ?_
          first | (refine zG ?_; refine zV rfl rfl ?_) | refine zH ?_
          first | (refine zG ?_; refine zB rfl rfl (tyrow rfl) rfl ?_) | refine zH ?_
          first | (refine zG ?_; refine zO rfl (Rd.neq rfl rfl) ?_) | refine zH ?_
          first | (refine zG ?_; refine zA rfl ?_) | refine zH ?_
          first | (refine zG ?_; refine zV rfl rfl ?_) | refine zH ?_
          first | (refine zG ?_; refine zB rfl rfl (tyrow rfl) rfl ?_) | refine zH ?_
          first | (refine zG ?_; refine zO rfl (Rd.neq rfl rfl) ?_) | refine zH ?_
          first | (refine zG ?_; refine zO rfl zP ?_) | refine zH ?_
          refine zO rfl zP ?_; refine zN (zT ?_)
          refine ⟨(Keep.upd (Keep.upd (Keep.upd (Keep.upd (Keep.upd (Keep.upd (Keep.upd (Keep.upd (Keep.upd (Keep.upd (Keep.upd (Keep.refl _ _) rfl) rfl) rfl) rfl) rfl) rfl) rfl) rfl) rfl) rfl) rfl), (), _, zM, ?_, ⟨rfl, rfl⟩⟩
          · exact zE
      · have hb : decide ((l.length : Int) ≠ partsOf op ∨ (k ≠ 0 ∧ op ≠ 1)) = true := decide_eq_true (by omega)
        rw [hb]
        refine zO rfl (Rd.neq rfl rfl) ?_; refine zA rfl ?_
        first | (refine zG ?_; refine zV rfl rfl ?_) | refine zH ?_
        first | (refine zG ?_; refine zB rfl rfl (tyrow rfl) rfl ?_) | refine zH ?_
        first | (refine zG ?_; refine zO rfl (Rd.neq rfl rfl) ?_) | refine zH ?_
        first | (refine zG ?_; refine zA rfl ?_) | refine zH ?_
        first | (refine zG ?_; refine zV rfl rfl ?_) | refine zH ?_
        first | (refine zG ?_; refine zB rfl rfl (tyrow rfl) rfl ?_) | refine zH ?_
        first | (refine zG ?_; refine zO rfl (Rd.neq rfl rfl) ?_) | refine zH ?_
        first | (refine zG ?_; refine zO rfl zP ?_) | refine zH ?_
        refine zO rfl zP ?_; refine zN (zT ?_)
        refine ⟨(Keep.upd (Keep.upd (Keep.upd (Keep.upd (Keep.upd (Keep.upd (Keep.upd (Keep.upd (Keep.upd (Keep.upd (Keep.upd (Keep.refl _ _) rfl) rfl) rfl) rfl) rfl) rfl) rfl) rfl) rfl) rfl) rfl), (), _, zM, ?_, ⟨rfl, rfl⟩⟩
        · exact zE
    rintro - δ1 _ _ ⟨rfl, rfl⟩
    dsimp only [ovr, List.foldl]
    refine zw rfl (WrA.cE (fail_a σ b _ _ (decide ((l.length : Int) ≠ partsOf op ∨ (k ≠ 0 ∧ op ≠ 1))) 5 (by decide)) rfl) ?_
    rintro _ _ _ ⟨_, ⟨rfl, rfl, rfl⟩, rfl⟩
    refine XOA.cl ?_; refine zN (zT (zS (zR (zA rfl ?_)))); refine zV rfl rfl ?_; refine zB rfl rfl (tyrow rfl) rfl ?_; refine zV rfl rfl ?_; refine zB rfl rfl (tyrow rfl) rfl ?_; refine zO rfl (Rd.eql rfl rfl) ?_
    refine XOA.join (List.take_append_drop 5 _).symm [(37, 37), (39, 39), (43, 47)] (fun _ : Unit => [(37, ptr b), (39, i64 v), (47, .bool (decide (op = 2 ∨ op = 3)))]) (fun _ σ' Γ' => σ = σ' ∧ Γ' = [Judge b (.slice p n c) (((e.one deep).fail (decide (partsOf op < 0)) 2).fail (decide ((l.length : Int) ≠ partsOf op ∨ (k ≠ 0 ∧ op ≠ 1))) 5), blk g4 [i64 op, i64 v, i64 k, .slice pl l.length cl] 93]) ?_ ?_
    · 
      by_cases h1 : op = 2
      · have hb : decide (op = 2 ∨ op = 3) = true := decide_eq_true (by omega)
        rw [hb]
        refine zA rfl ?_
        first | (refine zG ?_; refine zV rfl rfl ?_) | refine zH ?_
        first | (refine zG ?_; refine zB rfl rfl (tyrow rfl) rfl ?_) | refine zH ?_
        first | (refine zG ?_; refine zO rfl (Rd.eql rfl rfl) ?_) | refine zH ?_
        refine zO rfl zP ?_; refine zN (zT ?_)
        refine ⟨(Keep.upd (Keep.upd (Keep.upd (Keep.upd (Keep.upd (Keep.refl _ _) rfl) rfl) rfl) rfl) rfl), (), _, zM, ?_, ⟨rfl, rfl⟩⟩
        · exact zE
      · have hb : decide (op = 2 ∨ op = 3) = decide (op = 3) := by rw [decide_eq_decide]; omega
        rw [hb]
        refine zA rfl ?_
        first | (refine zG ?_; refine zV rfl rfl ?_) | refine zH ?_
        first | (refine zG ?_; refine zB rfl rfl (tyrow rfl) rfl ?_) | refine zH ?_
        first | (refine zG ?_; refine zO rfl (Rd.eql rfl rfl) ?_) | refine zH ?_
        refine zO rfl zP ?_; refine zN (zT ?_)
        refine ⟨(Keep.upd (Keep.upd (Keep.upd (Keep.upd (Keep.upd (Keep.refl _ _) rfl) rfl) rfl) rfl) rfl), (), _, zM, ?_, ⟨rfl, rfl⟩⟩
        · exact zE
    rintro - δ2 _ _ ⟨rfl, rfl⟩
    dsimp only [ovr, List.foldl]
    refine zw rfl (WrA.cE (named_a σ b p n c _ v (decide (op = 2 ∨ op = 3))) rfl) ?_
    rintro _ _ _ ⟨_, ⟨rfl, rfl, rfl⟩, rfl⟩
    refine XOA.cl ?_; refine zN (zT (zS (zR (zV rfl rfl ?_)))); refine zB rfl rfl (tyrow rfl) rfl ?_; refine zO rfl (Rd.lenSlice (tyrow rfl) rfl rfl) ?_; refine zA rfl ?_; refine zN (zT (XA.block ?_))
    refine XA.gen [(0, _), (2, _), (50, _), (51, _), (52, _)] ⟨(by with_reducible (conv => lhs; whnf)), (by with_reducible (conv => lhs; whnf)), (by with_reducible (conv => lhs; whnf)), (by with_reducible (conv => lhs; whnf)), (by with_reducible (conv => lhs; whnf)), trivial⟩ (fun δ => ?_)
    dsimp only [List.foldl]
    refine XA.loop [(8, 8), (52, 66)] (fun q : Nat => [(52, i64 q)]) (fun q σ' Γ' => σ = σ' ∧ q ≤ l.length ∧ Γ' = [Judge b (.slice p n c) (exsE n (deep + 1) (l.take q) (exHead n deep op v k l.length e)), blk g4 [i64 op, i64 v, i64 k, .slice pl l.length cl] 93]) (fun q => l.length - q) 0 (by exact ⟨rfl, trivial⟩) (Δ0 := _) ?_ (⟨rfl, Nat.zero_le _, rfl⟩) ?_
    · rw [List.take_zero, exsE]; exact zE
    rintro q δ _ _ ⟨rfl, hq, rfl⟩
    dsimp only [ovr, List.foldl]
    refine zS (zR (zO rfl (Rd.lss rfl rfl) ?_)); refine zN (zT (zS ?_))
    refine XA.condp rfl (fun hlt => ?_) (fun hlt => ?_)
    · have hlt : q < l.length := by omega
      obtain ⟨x', hx'⟩ : ∃ x', l[q]? = some x' := ⟨_, List.getElem?_eq_getElem hlt⟩
      obtain ⟨g, o, row, rfl, hrx, hrl, hrow⟩ := hl.at hx'
      have hone := hrx.ones
      have e1 := exsE_snoc n (deep + 1) l q x' (exHead n deep op v k l.length e) hx'
      have hin2 : (exsE n (deep + 1) (l.take q) (exHead n deep op v k l.length e)).in_ := in_of (Down.exsE n (l.take q)) (in_of (Down.exHead n op v k l.length) hin deep) (deep + 1)
      refine XA.skip (zT (zS (XA.block (zS (zR (zO rfl (Rd.ixS rfl rfl) ?_)))))); refine zO rfl (Rd.ldA rfl) ?_
      refine zw rfl (WrA.alloc (tyrow rfl)) ?_
      rintro _ _ _ ⟨g8, rfl, rfl, rfl⟩
      refine zw rfl (WrA.st (tyrow rfl) rfl) ?_
      rintro _ _ _ ⟨rfl, rfl, rfl⟩
      refine zN (zT (zS (zR (zA rfl ?_))))
      cases hst : exsE n (deep + 1) (l.take q) (exHead n deep op v k l.length e) with
      | error c' =>
        rw [hst, exE_err] at e1
        first | refine XA.opn (R := Judge b (.slice p n c) (.error c')) zL (Judge.errO) ?_ | refine XOA.opn (R := Judge b (.slice p n c) (.error c')) zL (Judge.errO) ?_ | refine DA.opn (R := Judge b (.slice p n c) (.error c')) zL (Judge.errO) ?_
        rintro lf h0
        first | refine XA.cl ?_ | refine XOA.cl ?_ | refine DA.cl ?_
        refine zO rfl (Rd.nilCheck rfl) ?_; refine zV rfl rfl ?_; refine zB rfl rfl (tyrow rfl) rfl ?_; refine zO rfl (Rd.eql rfl rfl) ?_; refine zN (zT (XA.condF rfl (decide_eq_false h0) (XA.skip (DA.inb_normal (zT (zR (zO rfl zI ?_))))))); refine zA rfl ?_; refine zN (zT ?_)
        refine ⟨(Keep.upd (Keep.upd (Keep.upd (Keep.upd (Keep.upd (Keep.upd (Keep.upd (Keep.updN (Keep.updO (Keep.upd (Keep.upd (Keep.upd (Keep.upd (Keep.hav (Keep.hav (Keep.refl _ _) rfl) rfl) rfl) rfl) rfl) rfl) rfl)) rfl) rfl) rfl) rfl) rfl) rfl) rfl), q + 1, [Judge b (.slice p n c) (.error c'), _], zM, ?_, ⟨rfl, hlt, by rw [e1]⟩, (by omega)⟩
        · exact Ent.foldC (Θ := [_]) zD (Judge.mkE h0) zE
      | ok a =>
        rw [hst] at e1 hin2
        first | refine XA.opn (R := Judge b (.slice p n c) (.ok a)) zL (Judge.okO) ?_ | refine XOA.opn (R := Judge b (.slice p n c) (.ok a)) zL (Judge.okO) ?_ | refine DA.opn (R := Judge b (.slice p n c) (.ok a)) zL (Judge.okO) ?_
        rintro ⟨⟩ -
        first | refine XA.cl ?_ | refine XOA.cl ?_ | refine DA.cl ?_
        refine zO rfl (Rd.nilCheck rfl) ?_; refine zV rfl rfl ?_; refine zB rfl rfl (tyrow rfl) rfl ?_; refine zO rfl (Rd.eql rfl rfl) ?_; refine zN (zT (XA.condT rfl rfl (zR (zA rfl ?_)))); refine zO rfl (Rd.ldA rfl) ?_; refine zA rfl ?_; refine zO rfl zI ?_
        refine XOA.ent (Ent.foldC (Θ := [_]) zD (Judge.mkO (l := a)) (Ent.refl _)) ?_
        refine zw rfl (WrA.cE (ih x' (List.mem_of_getElem? hx') row b p n c (.ok a) (deep + 1) hrx hin2 (by omega) (by omega)) rfl) ?_
        rintro _ _ _ ⟨_, ⟨rfl, rfl, rfl⟩, rfl⟩
        refine XOA.cl ?_; refine zN (DA.inb_normal (zT (zR (zO rfl zI ?_)))); refine zA rfl ?_; refine zN (zT ?_)
        refine ⟨(Keep.upd (Keep.upd (Keep.updO (Keep.upd (Keep.upd (Keep.upd (Keep.upd (Keep.upd (Keep.upd (Keep.upd (Keep.upd (Keep.upd (Keep.updN (Keep.updO (Keep.upd (Keep.upd (Keep.upd (Keep.upd (Keep.hav (Keep.hav (Keep.refl _ _) rfl) rfl) rfl) rfl) rfl) rfl) rfl)) rfl) rfl) rfl) rfl) rfl) rfl) rfl) rfl) rfl) rfl) rfl) rfl), q + 1, _, zM, ?_, ⟨rfl, hlt, by rw [e1]⟩, (by omega)⟩
        · exact zE
    have hqn : q = l.length := by omega
    subst hqn
    rw [List.take_length]
    refine XA.exit (DA.thn_exit (DA.thn_exit (DA.inb_same ?_)))
    exact bodyA.normal (ResA.none rfl) zE ⟨rfl, rfl, rfl⟩
end Go.Proofs.YtmnmcjdgnpgchaaGreat

namespace Go.Proofs.YtmnmcjdgnpgchaaGreat
open Go X
set_option maxHeartbeats 1000000
def StmtOK (σ : PH) (x : St) : Prop := ∀ (cs : List Value) (b : Nat) (p : Option Addr) (n c : Nat) (e : JE) (deep : Int), StAt σ cs x → e.in_ → 0 ≤ deep → deep ≤ 900 →
  CallsA Tryz.prog 93 #[ptr b, .agg cs.toArray, i64 deep] σ [Judge b (.slice p n c) e] (RetA fun r σ' Γ' => r = .tuple #[] ∧ σ = σ' ∧ Γ' = [Judge b (.slice p n c) (stE n deep x e)])
theorem list_a (σ : PH) (l : List St) (ih : ∀ x ∈ l, StmtOK σ x) (sl : Value) (b : Nat) (p : Option Addr) (n c : Nat) (e : JE) (deep : Int) (hl : PSl 12 StAt σ sl l) (hin : e.in_) (hd0 : 0 ≤ deep) (hd1 : deep ≤ 900) :
    CallsA Tryz.prog 70 #[ptr b, sl, i64 deep] σ [Judge b (.slice p n c) e] (RetA fun r σ' Γ' => r = .tuple #[] ∧ σ = σ' ∧ Γ' = [Judge b (.slice p n c) (stsE n deep l e)]) := by
  obtain ⟨pl, cl, rfl, hle, hmx⟩ := hl.shape
  have hlen : l.length ≤ maxLen := by omega
  simp only [maxLen] at hlen
  refine enterA3 Tryz.func70 rfl rfl rfl ?_
  refine zS (zR (zA rfl ?_)); refine zO rfl (Rd.lenSlice (tyrow rfl) rfl rfl) ?_; refine zA rfl ?_; refine zN (zT (XA.block ?_))
  refine XA.gen [(0, _), (2, _), (8, _), (9, _), (10, _)] ⟨(by with_reducible (conv => lhs; whnf)), (by with_reducible (conv => lhs; whnf)), (by with_reducible (conv => lhs; whnf)), (by with_reducible (conv => lhs; whnf)), (by with_reducible (conv => lhs; whnf)), trivial⟩ (fun δ => ?_)
  dsimp only [List.foldl]
  refine XA.loop [(7, 7), (10, 23)] (fun q : Nat => [(10, i64 q)]) (fun q σ' Γ' => σ = σ' ∧ q ≤ l.length ∧ Γ' = [Judge b (.slice p n c) (stsE n deep (l.take q) e)]) (fun q => l.length - q) 0 (by exact ⟨rfl, trivial⟩) (Δ0 := _) ?_ (⟨rfl, Nat.zero_le _, rfl⟩) ?_
  · rw [List.take_zero, stsE]; exact zE
  rintro q δ _ _ ⟨rfl, hq, rfl⟩
  dsimp only [ovr, List.foldl]
  refine zS (zR (zO rfl (Rd.lss rfl rfl) ?_)); refine zN (zT (zS ?_))
  refine XA.condp rfl (fun hlt => ?_) (fun hlt => ?_)
  · have hlt : q < l.length := by omega
    obtain ⟨x', hx'⟩ : ∃ x', l[q]? = some x' := ⟨_, List.getElem?_eq_getElem hlt⟩
    obtain ⟨g, o, row, rfl, hrx, hrl, hrow⟩ := hl.at hx'
    have hone := hrx.ones
    have e1 := stsE_snoc n deep l q x' e hx'
    have hin2 : (stsE n deep (l.take q) e).in_ := in_of (Down.stsE n (l.take q)) hin deep
    refine XA.skip (zT (zS (XA.block (zS (zR (zO rfl (Rd.ixS rfl rfl) ?_)))))); refine zO rfl (Rd.ldA rfl) ?_
    refine zw rfl (WrA.alloc (tyrow rfl)) ?_
    rintro _ _ _ ⟨g7, rfl, rfl, rfl⟩
    refine zw rfl (WrA.st (tyrow rfl) rfl) ?_
    rintro _ _ _ ⟨rfl, rfl, rfl⟩
    refine zN (zT (zS (zR (zA rfl ?_))))
    cases hst : stsE n deep (l.take q) e with
    | error c' =>
      rw [hst, stE_err] at e1
      first | refine XA.opn (R := Judge b (.slice p n c) (.error c')) zL (Judge.errO) ?_ | refine XOA.opn (R := Judge b (.slice p n c) (.error c')) zL (Judge.errO) ?_ | refine DA.opn (R := Judge b (.slice p n c) (.error c')) zL (Judge.errO) ?_
      rintro lf h0
      first | refine XA.cl ?_ | refine XOA.cl ?_ | refine DA.cl ?_
      refine zO rfl (Rd.nilCheck rfl) ?_; refine zV rfl rfl ?_; refine zB rfl rfl (tyrow rfl) rfl ?_; refine zO rfl (Rd.eql rfl rfl) ?_; refine zN (zT (XA.condF rfl (decide_eq_false h0) (XA.skip (DA.inb_normal (zT (zR (zO rfl zI ?_))))))); refine zA rfl ?_; refine zN (zT ?_)
      refine ⟨(Keep.upd (Keep.upd (Keep.upd (Keep.upd (Keep.upd (Keep.upd (Keep.upd (Keep.updN (Keep.updO (Keep.upd (Keep.upd (Keep.upd (Keep.upd (Keep.hav (Keep.hav (Keep.refl _ _) rfl) rfl) rfl) rfl) rfl) rfl) rfl)) rfl) rfl) rfl) rfl) rfl) rfl) rfl), q + 1, [Judge b (.slice p n c) (.error c')], zM, ?_, ⟨rfl, hlt, by rw [e1]⟩, (by omega)⟩
      · exact Ent.foldC (Θ := [_]) zD (Judge.mkE h0) zE
    | ok a =>
      rw [hst] at e1 hin2
      first | refine XA.opn (R := Judge b (.slice p n c) (.ok a)) zL (Judge.okO) ?_ | refine XOA.opn (R := Judge b (.slice p n c) (.ok a)) zL (Judge.okO) ?_ | refine DA.opn (R := Judge b (.slice p n c) (.ok a)) zL (Judge.okO) ?_
      rintro ⟨⟩ -
      first | refine XA.cl ?_ | refine XOA.cl ?_ | refine DA.cl ?_
      refine zO rfl (Rd.nilCheck rfl) ?_; refine zV rfl rfl ?_; refine zB rfl rfl (tyrow rfl) rfl ?_; refine zO rfl (Rd.eql rfl rfl) ?_; refine zN (zT (XA.condT rfl rfl (zR (zA rfl ?_)))); refine zO rfl (Rd.ldA rfl) ?_; refine zA rfl ?_
      refine XOA.ent (Ent.foldC (Θ := [_]) zD (Judge.mkO (l := a)) (Ent.refl _)) ?_
      refine zw rfl (WrA.cE (ih x' (List.mem_of_getElem? hx') row b p n c (.ok a) deep hrx hin2 (by omega) (by omega)) rfl) ?_
      rintro _ _ _ ⟨_, ⟨rfl, rfl, rfl⟩, rfl⟩
      refine XOA.cl ?_; refine zN (DA.inb_normal (zT (zR (zO rfl zI ?_)))); refine zA rfl ?_; refine zN (zT ?_)
      refine ⟨(Keep.upd (Keep.upd (Keep.updO (Keep.upd (Keep.upd (Keep.upd (Keep.upd (Keep.upd (Keep.upd (Keep.upd (Keep.upd (Keep.updN (Keep.updO (Keep.upd (Keep.upd (Keep.upd (Keep.upd (Keep.hav (Keep.hav (Keep.refl _ _) rfl) rfl) rfl) rfl) rfl) rfl) rfl)) rfl) rfl) rfl) rfl) rfl) rfl) rfl) rfl) rfl) rfl) rfl), q + 1, _, zM, ?_, ⟨rfl, hlt, by rw [e1]⟩, (by omega)⟩
      · exact zE
  have hqn : q = l.length := by omega
  subst hqn
  rw [List.take_length]
  refine XA.exit (DA.thn_exit (DA.thn_exit (DA.inb_same ?_)))
  exact bodyA.normal (ResA.none rfl) zE ⟨rfl, rfl, rfl⟩
theorem stmt_a (σ : PH) (x : St) : StmtOK σ x := by
  refine St.ind (P := StmtOK σ) ?_ x
  intro op v ex fx body els ih jh cs b p n c e deep hx hin hd0 hd1
  obtain ⟨pe, de, pf, df, pb, cb, pl, cl, rfl, -, -, hxe, hxf, hxb, hxl⟩ := hx.inv12
  simp only [St.op, St.v, St.e, St.f, St.body, St.els] at hxe hxf hxb hxl ⊢
  clear hx
  obtain ⟨cells, hcells⟩ : ∃ l, l = [i64 op, i64 v, i64 ex.op, i64 ex.v, i64 ex.n, .slice pe ex.l.length de, i64 fx.op, i64 fx.v, i64 fx.n, .slice pf fx.l.length df, .slice pb body.length cb, .slice pl els.length cl] := ⟨_, rfl⟩
  obtain ⟨ne, hne⟩ : ∃ q, q = noneX ex := ⟨_, rfl⟩
  obtain ⟨nf, hnf⟩ : ∃ q, q = noneX fx := ⟨_, rfl⟩
  obtain ⟨A1, hA1⟩ : ∃ A, A = (!needE op && !ne) := ⟨_, rfl⟩
  obtain ⟨A2, hA2⟩ : ∃ A, A = (!needF op && !nf) := ⟨_, rfl⟩
  obtain ⟨A3, hA3⟩ : ∃ A, A = (!needB op && decide ((0 : Int) < (body.length : Int))) := ⟨_, rfl⟩
  obtain ⟨A4, hA4⟩ : ∃ A, A = (!needO op && decide ((0 : Int) < (els.length : Int))) := ⟨_, rfl⟩
  have hform : stForm op ex fx body.length els.length = (((A1 || A2) || A3) || A4) := by rw [hA1, hA2, hA3, hA4, hne, hnf]; rfl
  refine enterA3 Tryz.func93 rfl rfl rfl ?_
  refine zS (zR ?_)
  refine zw rfl WrA.bx ?_
  rintro _ _ _ ⟨g4, rfl, rfl, rfl⟩
  refine zN (zT (zS (zS (zR (zA rfl ?_))))); refine zA rfl ?_
  refine zw rfl (WrA.cE (one_a σ b (.slice p n c) e deep hin) rfl) ?_
  rintro _ _ _ ⟨_, ⟨rfl, rfl, rfl⟩, rfl⟩
  refine XOA.cl ?_
  cases hok : (e.one deep).isOk with
  | false =>
    obtain ⟨c', hc'⟩ := isOk_false hok
    have hp : stE n deep (.mk op v ex fx body els) e = .error c' := by rw [stE, stHead, hc', fail_err, fail_err, named_err, stEF_err, stsE_err, stsE_err]
    rw [hc', hp]
    refine zO rfl zJ ?_; refine zN (zT (XA.condT rfl rfl (XA.ret (DA.thn_ret ?_))))
    exact bodyA.ret (ResA.none rfl) zE ⟨rfl, rfl, rfl⟩
  | true =>
    have hd := one_ok hok
    refine zO rfl zJ ?_; refine zN (zT (XA.condF rfl rfl (XA.skip (zT (zS (zR (zA rfl ?_))))))); refine zV rfl rfl ?_; refine zB rfl rfl (tyrow rfl) rfl ?_
    refine XOA.join (List.take_append_drop 6 _).symm [(15, 15), (18, 23)] (fun _ : Unit => [(15, ptr b), (23, .bool (decide (op < 1 ∨ 7 < op)))]) (fun _ σ' Γ' => σ = σ' ∧ Γ' = [Judge b (.slice p n c) (e.one deep), blk g4 cells 96]) ?_ ?_
    · 
      by_cases h1 : op < 1
      · have hb : decide (op < 1 ∨ 7 < op) = true := decide_eq_true (by omega)
        rw [hb]
        refine zO rfl (Rd.lss rfl rfl) ?_; refine zA rfl ?_
        first | (refine zG ?_; refine zV rfl rfl ?_) | refine zH ?_
        first | (refine zG ?_; refine zB rfl rfl (tyrow rfl) rfl ?_) | refine zH ?_
        first | (refine zG ?_; refine zO rfl (Rd.gtr rfl rfl) ?_) | refine zH ?_
        refine zO rfl zP ?_; refine zN (zT ?_)
        refine ⟨(Keep.upd (Keep.upd (Keep.upd (Keep.upd (Keep.upd (Keep.upd (Keep.refl _ _) rfl) rfl) rfl) rfl) rfl) rfl), (), _, zM, ?_, ⟨rfl, rfl⟩⟩
        · rw [hcells]; exact zE
      · have hb : decide (op < 1 ∨ 7 < op) = decide (7 < op) := by rw [decide_eq_decide]; omega
        rw [hb]
        refine zO rfl (Rd.lss rfl rfl) ?_; refine zA rfl ?_
        first | (refine zG ?_; refine zV rfl rfl ?_) | refine zH ?_
        first | (refine zG ?_; refine zB rfl rfl (tyrow rfl) rfl ?_) | refine zH ?_
        first | (refine zG ?_; refine zO rfl (Rd.gtr rfl rfl) ?_) | refine zH ?_
        refine zO rfl zP ?_; refine zN (zT ?_)
        refine ⟨(Keep.upd (Keep.upd (Keep.upd (Keep.upd (Keep.upd (Keep.upd (Keep.refl _ _) rfl) rfl) rfl) rfl) rfl) rfl), (), _, zM, ?_, ⟨rfl, rfl⟩⟩
        · rw [hcells]; exact zE
    rintro - δ1 _ _ ⟨rfl, rfl⟩
    dsimp only [ovr, List.foldl]
    rw [hcells]
    refine zw rfl (WrA.cE (fail_a σ b _ _ (decide (op < 1 ∨ 7 < op)) 2 (by decide)) rfl) ?_
    rintro _ _ _ ⟨_, ⟨rfl, rfl, rfl⟩, rfl⟩
    refine XOA.cl ?_; refine zN (zT (zS (zR (zV rfl rfl ?_)))); refine zB rfl rfl (tyrow rfl) rfl ?_
    refine zw rfl (WrA.cE (chas_a σ op) rfl) ?_
    rintro _ _ _ ⟨_, ⟨rfl, rfl, rfl⟩, rfl⟩
    refine XOA.cl ?_; refine zA rfl ?_; refine zO rfl (Rd.extract rfl rfl) ?_; refine zO rfl (Rd.extract rfl rfl) ?_; refine zO rfl (Rd.extract rfl rfl) ?_; refine zO rfl (Rd.extract rfl rfl) ?_; refine zO rfl (Rd.extract rfl rfl) ?_; refine zO rfl Rd.asg ?_; refine zO rfl Rd.asg ?_
    refine zO rfl Rd.asg ?_; refine zO rfl Rd.asg ?_; refine zO rfl Rd.asg ?_; refine zN (zT (zS (zR ?_)))
    obtain ⟨E2, hE2⟩ : ∃ E, E = (e.one deep).fail (decide (op < 1 ∨ 7 < op)) 2 := ⟨_, rfl⟩
    rw [← hE2, ← hcells]
    refine XOA.join (List.take_append_drop 10 _).symm [(34, 43)] (fun _ : Unit => [(34, ptr b), (43, .bool A1)]) (fun _ σ' Γ' => σ = σ' ∧ Γ' = [Judge b (.slice p n c) E2, blk g4 cells 96]) ?_ ?_
    · rw [hcells]
      cases hn : needE op with
      | true =>
        have hb : A1 = false := by rw [hA1, hn]; rfl
        rw [hb]
        refine zA rfl ?_; refine zA rfl ?_; refine zO rfl zJ ?_; refine zA rfl ?_
        first | (refine zG ?_; refine zV rfl rfl ?_) | refine zH ?_
        first | (refine zG ?_; refine zO rfl (Rd.ldA rfl) ?_) | refine zH ?_
        first | refine zH ?_
        first | (refine zG ?_; refine zO rfl zJ ?_) | refine zH ?_
        refine zO rfl zP ?_; refine zA rfl ?_; refine zN (zT ?_)
        refine ⟨(Keep.upd (Keep.upd (Keep.upd (Keep.upd (Keep.upd (Keep.upd (Keep.upd (Keep.upd (Keep.upd (Keep.upd (Keep.refl _ _) rfl) rfl) rfl) rfl) rfl) rfl) rfl) rfl) rfl) rfl), (), _, zM, ?_, ⟨rfl, rfl⟩⟩
        · exact zE
      | false =>
        have hb : A1 = !ne := by rw [hA1, hn]; rfl
        rw [hb]
        refine zA rfl ?_; refine zA rfl ?_; refine zO rfl zJ ?_; refine zA rfl ?_
        first | (refine zG ?_; refine zV rfl rfl ?_) | refine zH ?_
        first | (refine zG ?_; refine zO rfl (Rd.ldA rfl) ?_) | refine zH ?_
        first | refine XOA.wanted rfl rfl ?_ | refine XOA.wq rfl rfl ?_
        refine zw rfl (WrA.cE (none_a σ _ _ hxe) rfl) ?_
        rintro _ _ _ ⟨_, ⟨rfl, rfl, rfl⟩, rfl⟩
        refine XOA.cl ?_
        rw [← hne]
        first | (refine zG ?_; refine zO rfl zJ ?_) | refine zH ?_
        refine zO rfl zP ?_; refine zA rfl ?_; refine zN (zT ?_)
        refine ⟨(Keep.upd (Keep.upd (Keep.upd (Keep.updO (Keep.upd (Keep.upd (Keep.upd (Keep.upd (Keep.upd (Keep.upd (Keep.refl _ _) rfl) rfl) rfl) rfl) rfl) rfl) rfl) rfl) rfl) rfl), (), _, zM, ?_, ⟨rfl, rfl⟩⟩
        · exact zE
    rintro - δ2 _ _ ⟨rfl, rfl⟩
    dsimp only [ovr, List.foldl]
    rw [hcells]
    obtain ⟨B2, hB2⟩ : ∃ A, A = (A1 || A2) := ⟨_, rfl⟩
    rw [← hcells]
    refine XOA.join (List.take_append_drop 10 _).symm [(34, 34), (44, 53)] (fun _ : Unit => [(34, ptr b), (53, .bool B2)]) (fun _ σ' Γ' => σ = σ' ∧ Γ' = [Judge b (.slice p n c) E2, blk g4 cells 96]) ?_ ?_
    · rw [hcells]
      cases A1 with
      | true =>
        have hb : B2 = true := by rw [hB2]; rfl
        rw [hb]
        first | (refine zG ?_; refine zA rfl ?_) | refine zH ?_
        first | (refine zG ?_; refine zO rfl zJ ?_) | refine zH ?_
        first | (refine zG ?_; refine zA rfl ?_) | refine zH ?_
        first | (refine zG ?_; refine zV rfl rfl ?_) | refine zH ?_
        first | (refine zG ?_; refine zO rfl (Rd.ldA rfl) ?_) | refine zH ?_
        first | refine zH ?_
        first | (refine zG ?_; refine zO rfl zJ ?_) | refine zH ?_
        first | (refine zG ?_; refine zO rfl zP ?_) | refine zH ?_
        refine zO rfl zP ?_; refine zA rfl ?_; refine zN (zT ?_)
        refine ⟨(Keep.upd (Keep.upd (Keep.upd (Keep.upd (Keep.upd (Keep.upd (Keep.upd (Keep.upd (Keep.upd (Keep.upd (Keep.refl _ _) rfl) rfl) rfl) rfl) rfl) rfl) rfl) rfl) rfl) rfl), (), _, zM, ?_, ⟨rfl, rfl⟩⟩
        · exact zE
      | false =>
        rw [Bool.false_or] at hB2
        cases hn : needF op with
        | true =>
          have hb : B2 = false := by rw [hB2, hA2, hn]; rfl
          rw [hb]
          first | (refine zG ?_; refine zA rfl ?_) | refine zH ?_
          first | (refine zG ?_; refine zO rfl zJ ?_) | refine zH ?_
          first | (refine zG ?_; refine zA rfl ?_) | refine zH ?_
          first | (refine zG ?_; refine zV rfl rfl ?_) | refine zH ?_
          first | (refine zG ?_; refine zO rfl (Rd.ldA rfl) ?_) | refine zH ?_
          first | refine zH ?_
          first | (refine zG ?_; refine zO rfl zJ ?_) | refine zH ?_
          first | (refine zG ?_; refine zO rfl zP ?_) | refine zH ?_
          refine zO rfl zP ?_; refine zA rfl ?_; refine zN (zT ?_)
          refine ⟨(Keep.upd (Keep.upd (Keep.upd (Keep.upd (Keep.upd (Keep.upd (Keep.upd (Keep.upd (Keep.upd (Keep.upd (Keep.refl _ _) rfl) rfl) rfl) rfl) rfl) rfl) rfl) rfl) rfl) rfl), (), _, zM, ?_, ⟨rfl, rfl⟩⟩
          · exact zE
        | false =>
          have hb : B2 = !nf := by rw [hB2, hA2, hn]; rfl
          rw [hb]
          first | (refine zG ?_; refine zA rfl ?_) | refine zH ?_
          first | (refine zG ?_; refine zO rfl zJ ?_) | refine zH ?_
          first | (refine zG ?_; refine zA rfl ?_) | refine zH ?_
          first | (refine zG ?_; refine zV rfl rfl ?_) | refine zH ?_
          first | (refine zG ?_; refine zO rfl (Rd.ldA rfl) ?_) | refine zH ?_
          first | refine XOA.wanted rfl rfl ?_ | refine XOA.wq rfl rfl ?_
          refine zw rfl (WrA.cE (none_a σ _ _ hxf) rfl) ?_
          rintro _ _ _ ⟨_, ⟨rfl, rfl, rfl⟩, rfl⟩
          refine XOA.cl ?_
          rw [← hnf]
          first | (refine zG ?_; refine zO rfl zJ ?_) | refine zH ?_
          first | (refine zG ?_; refine zO rfl zP ?_) | refine zH ?_
          refine zO rfl zP ?_; refine zA rfl ?_; refine zN (zT ?_)
          refine ⟨(Keep.upd (Keep.upd (Keep.upd (Keep.upd (Keep.updO (Keep.upd (Keep.upd (Keep.upd (Keep.upd (Keep.upd (Keep.refl _ _) rfl) rfl) rfl) rfl) rfl) rfl) rfl) rfl) rfl) rfl), (), _, zM, ?_, ⟨rfl, rfl⟩⟩
          · exact zE
    rintro - δ3 _ _ ⟨rfl, rfl⟩
    dsimp only [ovr, List.foldl]
    obtain ⟨B3, hB3⟩ : ∃ A, A = (B2 || A3) := ⟨_, rfl⟩
    refine XOA.join (List.take_append_drop 10 _).symm [(34, 34), (54, 63)] (fun _ : Unit => [(34, ptr b), (63, .bool B3)]) (fun _ σ' Γ' => σ = σ' ∧ Γ' = [Judge b (.slice p n c) E2, blk g4 cells 96]) ?_ ?_
    · rw [hcells]
      cases hB : B2 with
      | true =>
        have hb : B3 = true := by rw [hB3, hB]; rfl
        rw [hb]
        first | (refine zG ?_; refine zA rfl ?_) | refine zH ?_
        first | (refine zG ?_; refine zO rfl zJ ?_) | refine zH ?_
        first | (refine zG ?_; refine zA rfl ?_) | refine zH ?_
        first | (refine zG ?_; refine zV rfl rfl ?_) | refine zH ?_
        first | (refine zG ?_; refine zB rfl rfl (tyrow rfl) rfl ?_) | refine zH ?_
        first | (refine zG ?_; refine zO rfl (Rd.lenSlice (tyrow rfl) rfl rfl) ?_) | refine zH ?_
        first | (refine zG ?_; refine zO rfl (Rd.gtr rfl rfl) ?_) | refine zH ?_
        first | (refine zG ?_; refine zO rfl zP ?_) | refine zH ?_
        refine zO rfl zP ?_; refine zA rfl ?_; refine zN (zT ?_)
        refine ⟨(Keep.upd (Keep.upd (Keep.upd (Keep.upd (Keep.upd (Keep.upd (Keep.upd (Keep.upd (Keep.upd (Keep.upd (Keep.refl _ _) rfl) rfl) rfl) rfl) rfl) rfl) rfl) rfl) rfl) rfl), (), _, zM, ?_, ⟨rfl, rfl⟩⟩
        · exact zE
      | false =>
        rw [hB, Bool.false_or] at hB3
        cases hn : needB op with
        | true =>
          have hb : B3 = false := by rw [hB3, hA3, hn]; rfl
          rw [hb]
          first | (refine zG ?_; refine zA rfl ?_) | refine zH ?_
          first | (refine zG ?_; refine zO rfl zJ ?_) | refine zH ?_
          first | (refine zG ?_; refine zA rfl ?_) | refine zH ?_
          first | (refine zG ?_; refine zV rfl rfl ?_) | refine zH ?_
          first | (refine zG ?_; refine zB rfl rfl (tyrow rfl) rfl ?_) | refine zH ?_
          first | (refine zG ?_; refine zO rfl (Rd.lenSlice (tyrow rfl) rfl rfl) ?_) | refine zH ?_
          first | (refine zG ?_; refine zO rfl (Rd.gtr rfl rfl) ?_) | refine zH ?_
          first | (refine zG ?_; refine zO rfl zP ?_) | refine zH ?_
          refine zO rfl zP ?_; refine zA rfl ?_; refine zN (zT ?_)
          refine ⟨(Keep.upd (Keep.upd (Keep.upd (Keep.upd (Keep.upd (Keep.upd (Keep.upd (Keep.upd (Keep.upd (Keep.upd (Keep.refl _ _) rfl) rfl) rfl) rfl) rfl) rfl) rfl) rfl) rfl) rfl), (), _, zM, ?_, ⟨rfl, rfl⟩⟩
          · exact zE
        | false =>
          have hb : B3 = decide ((0 : Int) < (body.length : Int)) := by rw [hB3, hA3, hn]; rfl
          rw [hb]
          first | (refine zG ?_; refine zA rfl ?_) | refine zH ?_
          first | (refine zG ?_; refine zO rfl zJ ?_) | refine zH ?_
          first | (refine zG ?_; refine zA rfl ?_) | refine zH ?_
          first | (refine zG ?_; refine zV rfl rfl ?_) | refine zH ?_
          first | (refine zG ?_; refine zB rfl rfl (tyrow rfl) rfl ?_) | refine zH ?_
          first | (refine zG ?_; refine zO rfl (Rd.lenSlice (tyrow rfl) rfl rfl) ?_) | refine zH ?_
          first | (refine zG ?_; refine zO rfl (Rd.gtr rfl rfl) ?_) | refine zH ?_
          first | (refine zG ?_; refine zO rfl zP ?_) | refine zH ?_
          refine zO rfl zP ?_; refine zA rfl ?_; refine zN (zT ?_)
          refine ⟨(Keep.upd (Keep.upd (Keep.upd (Keep.upd (Keep.upd (Keep.upd (Keep.upd (Keep.upd (Keep.upd (Keep.upd (Keep.refl _ _) rfl) rfl) rfl) rfl) rfl) rfl) rfl) rfl) rfl) rfl), (), _, zM, ?_, ⟨rfl, rfl⟩⟩
          · exact zE
    rintro - δ4 _ _ ⟨rfl, rfl⟩
    dsimp only [ovr, List.foldl]
    obtain ⟨B4, hB4⟩ : ∃ A, A = (B3 || A4) := ⟨_, rfl⟩
    refine XOA.join (List.take_append_drop 9 _).symm [(34, 34), (64, 72)] (fun _ : Unit => [(34, ptr b), (72, .bool B4)]) (fun _ σ' Γ' => σ = σ' ∧ Γ' = [Judge b (.slice p n c) E2, blk g4 cells 96]) ?_ ?_
    · rw [hcells]
      cases hB : B3 with
      | true =>
        have hb : B4 = true := by rw [hB4, hB]; rfl
        rw [hb]
        first | (refine zG ?_; refine zA rfl ?_) | refine zH ?_
        first | (refine zG ?_; refine zO rfl zJ ?_) | refine zH ?_
        first | (refine zG ?_; refine zA rfl ?_) | refine zH ?_
        first | (refine zG ?_; refine zV rfl rfl ?_) | refine zH ?_
        first | (refine zG ?_; refine zB rfl rfl (tyrow rfl) rfl ?_) | refine zH ?_
        first | (refine zG ?_; refine zO rfl (Rd.lenSlice (tyrow rfl) rfl rfl) ?_) | refine zH ?_
        first | (refine zG ?_; refine zO rfl (Rd.gtr rfl rfl) ?_) | refine zH ?_
        first | (refine zG ?_; refine zO rfl zP ?_) | refine zH ?_
        refine zO rfl zP ?_; refine zN (zT ?_)
        refine ⟨(Keep.upd (Keep.upd (Keep.upd (Keep.upd (Keep.upd (Keep.upd (Keep.upd (Keep.upd (Keep.upd (Keep.refl _ _) rfl) rfl) rfl) rfl) rfl) rfl) rfl) rfl) rfl), (), _, zM, ?_, ⟨rfl, rfl⟩⟩
        · exact zE
      | false =>
        rw [hB, Bool.false_or] at hB4
        cases hn : needO op with
        | true =>
          have hb : B4 = false := by rw [hB4, hA4, hn]; rfl
          rw [hb]
          first | (refine zG ?_; refine zA rfl ?_) | refine zH ?_
          first | (refine zG ?_; refine zO rfl zJ ?_) | refine zH ?_
          first | (refine zG ?_; refine zA rfl ?_) | refine zH ?_
          first | (refine zG ?_; refine zV rfl rfl ?_) | refine zH ?_
          first | (refine zG ?_; refine zB rfl rfl (tyrow rfl) rfl ?_) | refine zH ?_
          first | (refine zG ?_; refine zO rfl (Rd.lenSlice (tyrow rfl) rfl rfl) ?_) | refine zH ?_
          first | (refine zG ?_; refine zO rfl (Rd.gtr rfl rfl) ?_) | refine zH ?_
          first | (refine zG ?_; refine zO rfl zP ?_) | refine zH ?_
          refine zO rfl zP ?_; refine zN (zT ?_)
          refine ⟨(Keep.upd (Keep.upd (Keep.upd (Keep.upd (Keep.upd (Keep.upd (Keep.upd (Keep.upd (Keep.upd (Keep.refl _ _) rfl) rfl) rfl) rfl) rfl) rfl) rfl) rfl) rfl), (), _, zM, ?_, ⟨rfl, rfl⟩⟩
          · exact zE
        | false =>
          have hb : B4 = decide ((0 : Int) < (els.length : Int)) := by rw [hB4, hA4, hn]; rfl
          rw [hb]
          first | (refine zG ?_; refine zA rfl ?_) | refine zH ?_
          first | (refine zG ?_; refine zO rfl zJ ?_) | refine zH ?_
          first | (refine zG ?_; refine zA rfl ?_) | refine zH ?_
          first | (refine zG ?_; refine zV rfl rfl ?_) | refine zH ?_
          first | (refine zG ?_; refine zB rfl rfl (tyrow rfl) rfl ?_) | refine zH ?_
          first | (refine zG ?_; refine zO rfl (Rd.lenSlice (tyrow rfl) rfl rfl) ?_) | refine zH ?_
          first | (refine zG ?_; refine zO rfl (Rd.gtr rfl rfl) ?_) | refine zH ?_
          first | (refine zG ?_; refine zO rfl zP ?_) | refine zH ?_
          refine zO rfl zP ?_; refine zN (zT ?_)
          refine ⟨(Keep.upd (Keep.upd (Keep.upd (Keep.upd (Keep.upd (Keep.upd (Keep.upd (Keep.upd (Keep.upd (Keep.refl _ _) rfl) rfl) rfl) rfl) rfl) rfl) rfl) rfl) rfl), (), _, zM, ?_, ⟨rfl, rfl⟩⟩
          · exact zE
    rintro - δ5 _ _ ⟨rfl, rfl⟩
    dsimp only [ovr, List.foldl]
    rw [show B4 = stForm op ex fx body.length els.length by rw [hform, hB4, hB3, hB2], hcells]
    refine zw rfl (WrA.cE (fail_a σ b _ _ (stForm op ex fx body.length els.length) 5 (by decide)) rfl) ?_
    rintro _ _ _ ⟨_, ⟨rfl, rfl, rfl⟩, rfl⟩
    refine XOA.cl ?_; refine zN (zT (zS (zR (zA rfl ?_)))); refine zV rfl rfl ?_; refine zB rfl rfl (tyrow rfl) rfl ?_; refine zA rfl ?_
    refine zw rfl (WrA.cE (named_a σ b p n c _ v (needV op)) rfl) ?_
    rintro _ _ _ ⟨_, ⟨rfl, rfl, rfl⟩, rfl⟩
    refine XOA.cl ?_
    obtain ⟨H, hH⟩ : ∃ H, H = stHead n deep op v ex fx body.length els.length e := ⟨_, rfl⟩
    have hHi : H.in_ := by rw [hH]; exact in_of (Down.stHead n op v ex fx body.length els.length) hin deep
    rw [show JE.named (JE.fail E2 (stForm op ex fx body.length els.length) 5) n v (needV op) = H by rw [hH, stHead, hE2]]
    have hpost : stE n deep (.mk op v ex fx body els) e = stsE n (deep + 1) els (stsE n (deep + 1) body (stEF n (deep + 1) op ex fx H)) := by rw [stE, hH]
    rw [hpost]
    clear hpost hform hB4 hB3 hB2 hA1 hA2 hA3 hA4 hne hnf hH hE2
    rw [← hcells]
    obtain ⟨H1, hH1⟩ : ∃ H1, H1 = if needE op then exE n (deep + 1) ex H else H := ⟨_, rfl⟩
    have hH1i : H1.in_ := by
      rw [hH1]; split
      · exact in_of (Down.exE n ex) hHi (deep + 1)
      · exact hHi
    obtain ⟨H2, hH2⟩ : ∃ H2, H2 = stEF n (deep + 1) op ex fx H := ⟨_, rfl⟩
    have hH2i : H2.in_ := by rw [hH2]; exact in_of (Down.stEF n op ex fx) hHi (deep + 1)
    have hH1' := hH1
    have hH2' : H2 = if needF op then exE n (deep + 1) fx H1 else H1 := by rw [hH2, hH1]; rfl
    rw [← hH2]
    refine zN (zT (zS (zS (zR ?_))))
    refine XOA.join (List.take_append_drop 8 _).symm [(79, 86)] (fun _ : Unit => [(86, .bool (needE op && H.isOk))]) (fun _ σ' Γ' => σ = σ' ∧ Γ' = [Judge b (.slice p n c) H, blk g4 cells 96]) ?_ ?_
    · 
      cases hn : needE op with
      | false =>
        rw [Bool.false_and]
        refine zA rfl ?_; refine zA rfl ?_
        first | (refine zG ?_; refine zA rfl ?_) | refine zH ?_
        first | (refine zG ?_; refine zO rfl (Rd.nilCheck rfl) ?_) | refine zH ?_
        first | (refine zG ?_; refine zV rfl rfl ?_) | refine zH ?_
        first | (refine zG ?_; refine zB rfl rfl (tyrow rfl) rfl ?_) | refine zH ?_
        first | (refine zG ?_; refine zO rfl (Rd.eql rfl rfl) ?_) | refine zH ?_
        refine zO rfl zP ?_; refine zN (zT ?_)
        refine ⟨(Keep.upd (Keep.upd (Keep.upd (Keep.upd (Keep.upd (Keep.upd (Keep.upd (Keep.upd (Keep.refl _ _) rfl) rfl) rfl) rfl) rfl) rfl) rfl) rfl), (), _, zM, ?_, ⟨rfl, rfl⟩⟩
        · exact zE
      | true =>
        rw [Bool.true_and]
        refine zA rfl ?_; refine zA rfl ?_
        first | (refine zG ?_; refine zA rfl ?_) | refine zH ?_
        first | refine XA.opn (R := Judge b (.slice p n c) H) zL (Judge.anyD) ?_ | refine XOA.opn (R := Judge b (.slice p n c) H) zL (Judge.anyD) ?_ | refine DA.opn (R := Judge b (.slice p n c) H) zL (Judge.anyD) ?_
        rintro ⟨l, cc⟩ ⟨hdec, hf⟩
        first | refine XA.cl ?_ | refine XOA.cl ?_ | refine DA.cl ?_
        rw [← hdec]
        first | (refine zG ?_; refine zO rfl (Rd.nilCheck rfl) ?_) | refine zH ?_
        first | (refine zG ?_; refine zV rfl rfl ?_) | refine zH ?_
        first | (refine zG ?_; refine zB rfl rfl (tyrow rfl) rfl ?_) | refine zH ?_
        first | (refine zG ?_; refine zO rfl (Rd.eql rfl rfl) ?_) | refine zH ?_
        refine zO rfl zP ?_; refine zN (zT ?_)
        refine ⟨(Keep.upd (Keep.upd (Keep.upd (Keep.upd (Keep.upd (Keep.upd (Keep.upd (Keep.upd (Keep.refl _ _) rfl) rfl) rfl) rfl) rfl) rfl) rfl) rfl), (), _, zM, ?_, ⟨rfl, rfl⟩⟩
        · exact Ent.foldC (Θ := [_]) zD hf zE
    rintro - δ6 _ _ ⟨rfl, rfl⟩
    dsimp only [ovr, List.foldl]
    refine zN (zT ?_)
    refine XA.join [(87, 92)] (fun _ : Unit => []) (fun _ σ' Γ' => σ = σ' ∧ Γ' = [Judge b (.slice p n c) H1, blk g4 cells 96]) ?_ ?_
    · 
      refine XA.cond rfl (fun hq => ?_) (fun hq => ?_)
      · have hq1 : needE op = true ∧ H.isOk = true := by simpa using hq
        rw [hcells]
        refine zR (zA rfl ?_); refine zV rfl rfl ?_; refine zO rfl (Rd.ldA rfl) ?_; refine zA rfl ?_; refine zO rfl zI ?_
        refine zw rfl (WrA.cE (expr_a σ ex _ b p n c H (deep + 1) hxe hHi (by omega) (by omega)) rfl) ?_
        rintro _ _ _ ⟨_, ⟨rfl, rfl, rfl⟩, rfl⟩
        refine XOA.cl ?_; refine zN (zT ?_)
        rw [show H1 = exE n (deep + 1) ex H by rw [hH1', if_pos hq1.1]]
        refine ⟨(Keep.updO (Keep.upd (Keep.upd (Keep.upd (Keep.upd (Keep.upd (Keep.refl _ _) rfl) rfl) rfl) rfl) rfl) rfl), (), _, zM, ?_, ⟨rfl, rfl⟩⟩
        · exact zE
      · have e1 : H1 = H := by
          rw [hH1']
          split
          · rename_i hn
            rw [hn, Bool.true_and] at hq
            obtain ⟨c', hc'⟩ := isOk_false hq
            rw [hc', exE_err]
          · rfl
        rw [e1]
        refine XA.skip (zT ?_)
        refine ⟨(Keep.refl _ _), (), _, zM, ?_, ⟨rfl, rfl⟩⟩
        · exact zE
    rintro - δ6' _ _ ⟨rfl, rfl⟩
    dsimp only [ovr, List.foldl]
    refine zT (zS (zS (zR ?_)))
    refine XOA.join (List.take_append_drop 8 _).symm [(93, 100)] (fun _ : Unit => [(100, .bool (needF op && H1.isOk))]) (fun _ σ' Γ' => σ = σ' ∧ Γ' = [Judge b (.slice p n c) H1, blk g4 cells 96]) ?_ ?_
    · 
      cases hn : needF op with
      | false =>
        rw [Bool.false_and]
        refine zA rfl ?_; refine zA rfl ?_
        first | (refine zG ?_; refine zA rfl ?_) | refine zH ?_
        first | (refine zG ?_; refine zO rfl (Rd.nilCheck rfl) ?_) | refine zH ?_
        first | (refine zG ?_; refine zV rfl rfl ?_) | refine zH ?_
        first | (refine zG ?_; refine zB rfl rfl (tyrow rfl) rfl ?_) | refine zH ?_
        first | (refine zG ?_; refine zO rfl (Rd.eql rfl rfl) ?_) | refine zH ?_
        refine zO rfl zP ?_; refine zN (zT ?_)
        refine ⟨(Keep.upd (Keep.upd (Keep.upd (Keep.upd (Keep.upd (Keep.upd (Keep.upd (Keep.upd (Keep.refl _ _) rfl) rfl) rfl) rfl) rfl) rfl) rfl) rfl), (), _, zM, ?_, ⟨rfl, rfl⟩⟩
        · exact zE
      | true =>
        rw [Bool.true_and]
        refine zA rfl ?_; refine zA rfl ?_
        first | (refine zG ?_; refine zA rfl ?_) | refine zH ?_
        first | refine XA.opn (R := Judge b (.slice p n c) H1) zL (Judge.anyD) ?_ | refine XOA.opn (R := Judge b (.slice p n c) H1) zL (Judge.anyD) ?_ | refine DA.opn (R := Judge b (.slice p n c) H1) zL (Judge.anyD) ?_
        rintro ⟨l, cc⟩ ⟨hdec, hf⟩
        first | refine XA.cl ?_ | refine XOA.cl ?_ | refine DA.cl ?_
        rw [← hdec]
        first | (refine zG ?_; refine zO rfl (Rd.nilCheck rfl) ?_) | refine zH ?_
        first | (refine zG ?_; refine zV rfl rfl ?_) | refine zH ?_
        first | (refine zG ?_; refine zB rfl rfl (tyrow rfl) rfl ?_) | refine zH ?_
        first | (refine zG ?_; refine zO rfl (Rd.eql rfl rfl) ?_) | refine zH ?_
        refine zO rfl zP ?_; refine zN (zT ?_)
        refine ⟨(Keep.upd (Keep.upd (Keep.upd (Keep.upd (Keep.upd (Keep.upd (Keep.upd (Keep.upd (Keep.refl _ _) rfl) rfl) rfl) rfl) rfl) rfl) rfl) rfl), (), _, zM, ?_, ⟨rfl, rfl⟩⟩
        · exact Ent.foldC (Θ := [_]) zD hf zE
    rintro - δ7 _ _ ⟨rfl, rfl⟩
    dsimp only [ovr, List.foldl]
    refine zN (zT ?_)
    refine XA.join [(101, 106)] (fun _ : Unit => []) (fun _ σ' Γ' => σ = σ' ∧ Γ' = [Judge b (.slice p n c) H2, blk g4 cells 96]) ?_ ?_
    · 
      refine XA.cond rfl (fun hq => ?_) (fun hq => ?_)
      · have hq1 : needF op = true ∧ H1.isOk = true := by simpa using hq
        rw [hcells]
        refine zR (zA rfl ?_); refine zV rfl rfl ?_; refine zO rfl (Rd.ldA rfl) ?_; refine zA rfl ?_; refine zO rfl zI ?_
        refine zw rfl (WrA.cE (expr_a σ fx _ b p n c H1 (deep + 1) hxf hH1i (by omega) (by omega)) rfl) ?_
        rintro _ _ _ ⟨_, ⟨rfl, rfl, rfl⟩, rfl⟩
        refine XOA.cl ?_; refine zN (zT ?_)
        rw [show H2 = exE n (deep + 1) fx H1 by rw [hH2', if_pos hq1.1]]
        refine ⟨(Keep.updO (Keep.upd (Keep.upd (Keep.upd (Keep.upd (Keep.upd (Keep.refl _ _) rfl) rfl) rfl) rfl) rfl) rfl), (), _, zM, ?_, ⟨rfl, rfl⟩⟩
        · exact zE
      · have e1 : H2 = H1 := by
          rw [hH2']
          split
          · rename_i hn
            rw [hn, Bool.true_and] at hq
            obtain ⟨c', hc'⟩ := isOk_false hq
            rw [hc', exE_err]
          · rfl
        rw [e1]
        refine XA.skip (zT ?_)
        refine ⟨(Keep.refl _ _), (), _, zM, ?_, ⟨rfl, rfl⟩⟩
        · exact zE
    rintro - δ7' _ _ ⟨rfl, rfl⟩
    dsimp only [ovr, List.foldl]
    refine zT ?_
    rw [hcells]
    refine zS (zR (zA rfl ?_)); refine zV rfl rfl ?_; refine zB rfl rfl (tyrow rfl) rfl ?_; refine zA rfl ?_; refine zO rfl zI ?_
    refine zw rfl (WrA.cE (list_a σ body ih _ b p n c H2 (deep + 1) hxb hH2i (by omega) (by omega)) rfl) ?_
    rintro _ _ _ ⟨_, ⟨rfl, rfl, rfl⟩, rfl⟩
    refine XOA.cl ?_; refine zN (zT (zR (zA rfl ?_))); refine zV rfl rfl ?_; refine zB rfl rfl (tyrow rfl) rfl ?_; refine zA rfl ?_; refine zO rfl zI ?_
    refine zw rfl (WrA.cE (list_a σ els jh _ b p n c _ (deep + 1) hxl (in_of (Down.stsE n body) hH2i (deep + 1)) (by omega) (by omega)) rfl) ?_
    rintro _ _ _ ⟨_, ⟨rfl, rfl, rfl⟩, rfl⟩
    refine XOA.cl ?_; refine zN ?_
    exact bodyA.normal (ResA.none rfl) zE ⟨rfl, rfl, rfl⟩
end Go.Proofs.YtmnmcjdgnpgchaaGreat

namespace Go.Proofs.YtmnmcjdgnpgchaaGreat
open Go X
set_option maxHeartbeats 1000000
theorem exsN_snoc {l : List Ex} {k : Nat} {x : Ex} (h : l[k]? = some x) : exsN (l.take (k + 1)) = exsN (l.take k) + exN x := by
  rw [List.take_add_one, h]; simp [exsN_app, exsN]
theorem stsN_snoc {l : List St} {k : Nat} {x : St} (h : l[k]? = some x) : stsN (l.take (k + 1)) = stsN (l.take k) + stN x := by
  rw [List.take_add_one, h]; simp [stsN_app, stsN]
def ExPartsOK (σ : PH) (x : Ex) : Prop := ∀ (cs : List Value) (most : Int), ExAt σ cs x → -1000000 ≤ most → most ≤ 1000000 →
  CallsA Tryz.prog 73 #[.agg cs.toArray, i64 most] σ [] (RetA fun v σ' Γ' => ∃ r : Int, v = i64 r ∧ (1 ≤ r ∧ (r ≤ most + 1 ∨ r ≤ 1) ∧ (r ≤ most → r = exN x)) ∧ σ = σ' ∧ Γ' = [])
theorem exprParts_a (σ : PH) (x : Ex) : ExPartsOK σ x := by
  refine Ex.ind (P := ExPartsOK σ) ?_ x
  intro op v k l ih cs most hx hm0 hm1
  obtain ⟨pl, cl, rfl, -, -, -, hl⟩ := hx.inv
  simp only [Ex.op, Ex.v, Ex.n, Ex.l] at hl ⊢
  clear hx
  have hlen : l.length ≤ maxLen := by
    obtain ⟨q, d, e1, h1, h2⟩ := hl.shape
    omega
  simp only [maxLen] at hlen
  refine enterA2 Tryz.func73 rfl rfl rfl ?_
  refine zS (zR ?_)
  refine zw rfl WrA.bx ?_
  rintro _ _ _ ⟨g2, rfl, rfl, rfl⟩
  refine zO rfl Rd.asg ?_; refine zN (zT (zS (zR (zO rfl Rd.asg ?_)))); refine zN (zT (zS (zS (zR (zO rfl Rd.asg ?_))))); refine zN (zT (XA.block ?_))
  refine XA.gen [(1, _), (2, _), (4, _), (5, _), (6, _)] ⟨(by with_reducible (conv => lhs; whnf)), (by with_reducible (conv => lhs; whnf)), (by with_reducible (conv => lhs; whnf)), (by with_reducible (conv => lhs; whnf)), (by with_reducible (conv => lhs; whnf)), trivial⟩ (fun δ => ?_)
  dsimp only [List.foldl]
  refine XA.loop [(5, 29)] (fun q : Nat × Int => [(6, i64 q.1), (5, i64 q.2)]) (fun q σ' Γ' => σ = σ' ∧ q.1 ≤ l.length ∧ (1 ≤ q.2 ∧ (q.2 ≤ most + 1 ∨ q.2 ≤ 1) ∧ (q.2 ≤ most → q.2 = 1 + exsN (l.take q.1))) ∧ Γ' = [blk g2 [i64 op, i64 v, i64 k, .slice pl l.length cl] 93]) (fun q => l.length - q.1) (0, 1) (by exact ⟨rfl, rfl, trivial⟩) (Δ0 := _) ?_ (⟨rfl, Nat.zero_le _, ⟨by simp only; omega, by simp only; omega, fun _ => by simp [exsN]⟩, rfl⟩) ?_
  · exact zE
  rintro ⟨i, n⟩ δ _ _ ⟨rfl, hi, ⟨hn0, hn1, hn2⟩, rfl⟩
  dsimp only [ovr, List.foldl]
  have hi : i ≤ l.length := hi
  have hn0 : 1 ≤ n := hn0
  have hn1 : n ≤ most + 1 ∨ n ≤ 1 := hn1
  have hn2 : n ≤ most → n = 1 + exsN (l.take i) := hn2
  by_cases h1 : i < l.length
  · by_cases h2 : n ≤ most
    · obtain ⟨x', hx'⟩ : ∃ x', l[i]? = some x' := ⟨_, List.getElem?_eq_getElem h1⟩
      obtain ⟨g, o, row, rfl, hrx, hrl, hrow⟩ := hl.at hx'
      have hone := hrx.ones
      have e1 := exsN_snoc hx'
      have h2n := hn2 h2
      refine zS (zS (zR (zA rfl ?_))); refine zV rfl rfl ?_; refine zB rfl rfl (tyrow rfl) rfl ?_; refine zO rfl (Rd.lenSlice (tyrow rfl) rfl rfl) ?_; refine zO rfl (Rd.lss rfl rfl) ?_; refine zA rfl ?_
      first | (refine zG ?_; refine zA rfl ?_) | refine zH ?_
      first | (refine zG ?_; refine zA rfl ?_) | refine zH ?_
      first | (refine zG ?_; refine zO rfl (Rd.leq rfl rfl) ?_) | refine zH ?_
      refine zO rfl zP ?_; refine zN (zT (XA.condT rfl zY ?_)); refine XA.skip (zT (zS (XA.block (zR (zA rfl ?_))))); refine zV rfl rfl ?_; refine zB rfl rfl (tyrow rfl) rfl ?_; refine zA rfl ?_; refine zO rfl (Rd.ixS rfl rfl) ?_; refine zO rfl (Rd.ldA rfl) ?_; refine zA rfl ?_; refine zA rfl ?_
      refine zO rfl (by first | exact Rd.sbi rfl rfl | exact Rd.sub rfl rfl) ?_
      refine zw rfl (WrA.cE (ih x' (List.mem_of_getElem? hx') row (most - n) hrx (by omega) (by omega)) rfl) ?_
      rintro _ _ _ ⟨_, ⟨r, rfl, ⟨hr0, hr1, hr2⟩, rfl, rfl⟩, rfl⟩
      refine XOA.cl ?_; refine zO rfl zI ?_; refine zO rfl Rd.asg ?_; refine zN (DA.inb_normal (zT (zR (zA rfl ?_)))); refine zO rfl zI ?_; refine zO rfl Rd.asg ?_; refine zN (zT ?_)
      refine ⟨(Keep.upd (Keep.upd (Keep.upd (Keep.upd (Keep.upd (Keep.updO (Keep.upd (Keep.upd (Keep.upd (Keep.upd (Keep.upd (Keep.upd (Keep.upd (Keep.upd (Keep.upd (Keep.upd (Keep.upd (Keep.upd (Keep.upd (Keep.upd (Keep.upd (Keep.upd (Keep.upd (Keep.upd (Keep.upd (Keep.upd (Keep.upd (Keep.hav (Keep.refl _ _) rfl) rfl) rfl) rfl) rfl) rfl) rfl) rfl) rfl) rfl) rfl) rfl) rfl) rfl) rfl) rfl) rfl) rfl) rfl) rfl) rfl) rfl) rfl) rfl) rfl) rfl) rfl) rfl), (i + 1, n + r), _, zM, ?_, ⟨rfl, h1, ⟨by simp only; omega, by simp only; omega, fun h => by simp only at h ⊢; have := hr2 (by omega); rw [e1]; omega⟩, rfl⟩, (by simp only; omega)⟩
      · exact zE
    · 
      refine zS (zS (zR (zA rfl ?_))); refine zV rfl rfl ?_; refine zB rfl rfl (tyrow rfl) rfl ?_; refine zO rfl (Rd.lenSlice (tyrow rfl) rfl rfl) ?_; refine zO rfl (Rd.lss rfl rfl) ?_; refine zA rfl ?_
      first | (refine zG ?_; refine zA rfl ?_) | refine zH ?_
      first | (refine zG ?_; refine zA rfl ?_) | refine zH ?_
      first | (refine zG ?_; refine zO rfl (Rd.leq rfl rfl) ?_) | refine zH ?_
      refine zO rfl zP ?_; refine zN (zT (XA.condF rfl zY ?_)); refine XA.exit (DA.thn_exit (DA.thn_exit (DA.inb_same (zT (zS (zR (zA rfl ?_))))))); refine zO rfl Rd.asg ?_; refine zN (zT (XA.ret ?_))
      refine bodyA.ret (ResA.one rfl rfl) (Ent.nil _) ⟨n, rfl, ⟨hn0, hn1, fun h => absurd h h2⟩, rfl, rfl⟩
  · 
    have hil : i = l.length := by omega
    subst hil
    rw [List.take_length] at hn2
    refine zS (zS (zR (zA rfl ?_))); refine zV rfl rfl ?_; refine zB rfl rfl (tyrow rfl) rfl ?_; refine zO rfl (Rd.lenSlice (tyrow rfl) rfl rfl) ?_; refine zO rfl (Rd.lss rfl rfl) ?_; refine zA rfl ?_
    first | (refine zG ?_; refine zA rfl ?_) | refine zH ?_
    first | (refine zG ?_; refine zA rfl ?_) | refine zH ?_
    first | (refine zG ?_; refine zO rfl (Rd.leq rfl rfl) ?_) | refine zH ?_
    refine zO rfl zP ?_; refine zN (zT (XA.condF rfl zY ?_)); refine XA.exit (DA.thn_exit (DA.thn_exit (DA.inb_same (zT (zS (zR (zA rfl ?_))))))); refine zO rfl Rd.asg ?_; refine zN (zT (XA.ret ?_))
    refine bodyA.ret (ResA.one rfl rfl) (Ent.nil _) ⟨n, rfl, ⟨hn0, hn1, fun h => by rw [hn2 h, exN]; omega⟩, rfl, rfl⟩
def StPartsOK (σ : PH) (l : List St) : Prop := ∀ (sl : Value) (most : Int), PSl 12 StAt σ sl l → -1000000 ≤ most → most ≤ 1000000 →
  CallsA Tryz.prog 45 #[sl, i64 most] σ [] (RetA fun v σ' Γ' => ∃ r : Int, v = i64 r ∧ (0 ≤ r ∧ (r ≤ 2 * most + 3 ∨ r ≤ 0) ∧ (r ≤ most → r = stsN l)) ∧ σ = σ' ∧ Γ' = [])
theorem stmtParts_l (σ : PH) (l : List St) (ih : ∀ x ∈ l, StPartsOK σ x.body ∧ StPartsOK σ x.els) : StPartsOK σ l := by
  intro sl most hl hm0 hm1
  obtain ⟨pl, cl, rfl, hle, hmx⟩ := hl.shape
  have hlen : l.length ≤ maxLen := by omega
  simp only [maxLen] at hlen
  refine enterA2 Tryz.func45 rfl rfl rfl ?_
  refine zS (zR (zO rfl Rd.asg ?_)); refine zN (zT (zS (zR (zO rfl Rd.asg ?_)))); refine zN (zT (zS (zS (zR (zO rfl Rd.asg ?_))))); refine zN (zT (XA.block ?_))
  refine XA.gen [(0, _), (1, _), (4, _), (5, _), (6, _)] ⟨(by with_reducible (conv => lhs; whnf)), (by with_reducible (conv => lhs; whnf)), (by with_reducible (conv => lhs; whnf)), (by with_reducible (conv => lhs; whnf)), (by with_reducible (conv => lhs; whnf)), trivial⟩ (fun δ => ?_)
  dsimp only [List.foldl]
  refine XA.loop [(5, 67)] (fun q : Nat × Int => [(6, i64 q.1), (5, i64 q.2)]) (fun q σ' Γ' => σ = σ' ∧ q.1 ≤ l.length ∧ (0 ≤ q.2 ∧ (q.2 ≤ 2 * most + 3 ∨ q.2 ≤ 0) ∧ (q.2 ≤ most → q.2 = stsN (l.take q.1))) ∧ Γ' = []) (fun q => l.length - q.1) (0, 0) (by exact ⟨rfl, rfl, trivial⟩) (Δ0 := _) ?_ (⟨rfl, Nat.zero_le _, ⟨by simp only; omega, by simp only; omega, fun _ => by simp [stsN]⟩, rfl⟩) ?_
  · exact zE
  rintro ⟨i, n⟩ δ _ _ ⟨rfl, hi, ⟨hn0, hn1, hn2⟩, rfl⟩
  dsimp only [ovr, List.foldl]
  have hi : i ≤ l.length := hi
  have hn0 : 0 ≤ n := hn0
  have hn1 : n ≤ 2 * most + 3 ∨ n ≤ 0 := hn1
  have hn2 : n ≤ most → n = stsN (l.take i) := hn2
  by_cases h1 : i < l.length
  · by_cases h2 : n ≤ most
    · obtain ⟨x', hx'⟩ : ∃ x', l[i]? = some x' := ⟨_, List.getElem?_eq_getElem h1⟩
      obtain ⟨g, o, row, rfl, hrx, hrl, hrow⟩ := hl.at hx'
      have hone := hrx.ones
      have e1 := stsN_snoc hx'
      have h2n := hn2 h2
      obtain ⟨ihb, ihe⟩ := ih x' (List.mem_of_getElem? hx')
      obtain ⟨pe, de, pf, df, pb, cb, pe', ce, rfl, -, -, hxe, hxf, hxb, hxl⟩ := hrx.inv12
      have r2 : PRow σ g (o + i * 12 + 2) [i64 x'.e.op, i64 x'.e.v, i64 x'.e.n, .slice pe x'.e.l.length de] := hrow.sub (j := 2) rfl
      have r6 : PRow σ g (o + i * 12 + 6) [i64 x'.f.op, i64 x'.f.v, i64 x'.f.n, .slice pf x'.f.l.length df] := hrow.sub (j := 6) rfl
      have r10 : PRow σ g (o + i * 12 + 10) [.slice pb x'.body.length cb] := hrow.sub (j := 10) rfl
      have r11 : PRow σ g (o + i * 12 + 11) [.slice pe' x'.els.length ce] := hrow.sub (j := 11) rfl
      have e2 : stN x' = 1 + exN x'.e + exN x'.f + stsN x'.body + stsN x'.els := by cases x'; simp [stN, St.e, St.f, St.body, St.els]
      refine zS (zS (zR (zA rfl ?_))); refine zA rfl ?_; refine zO rfl (Rd.lenSlice (tyrow rfl) rfl rfl) ?_; refine zO rfl (Rd.lss rfl rfl) ?_; refine zA rfl ?_
      first | (refine zG ?_; refine zA rfl ?_) | refine zH ?_
      first | (refine zG ?_; refine zA rfl ?_) | refine zH ?_
      first | (refine zG ?_; refine zO rfl (Rd.leq rfl rfl) ?_) | refine zH ?_
      refine zO rfl zP ?_; refine zN (zT (XA.condT rfl zY ?_)); refine XA.skip (zT (zS (XA.block (zS ?_))))
      refine XA.draw (by kernel_rfl) _ _ [19] [(0, .pu), (1, .pu), (2, .pu), (3, .pu), (4, .pu), (5, .rd), (6, .pu), (7, .pu), (8, .pu), (11, .pu), (12, .pu), (13, .pu), (14, .pu), (15, .rd), (16, .pu), (17, .pu), (18, .pu), (9, .wr), (10, .pu), (19, .wr), (20, .pu), (21, .pu), (22, .pu)] (by kernel_rfl) (PH.sub.refl _) (Ent.nil _) ?_
      refine zu rfl rfl Rd.mv ?_; refine zu rfl rfl Rd.mv ?_; refine zu rfl rfl Rd.mv ?_; refine zu rfl rfl (Rd.ixS rfl rfl) ?_; refine zu rfl rfl (Rd.fA rfl) ?_; refine XPA.rd rfl rfl Gd.free (Rd.ldA rfl) ?_
      refine zu rfl rfl Rd.mv ?_; refine zu rfl rfl Rd.mv ?_; refine zu rfl rfl (by first | exact Rd.sbi rfl rfl | exact Rd.sub rfl rfl) ?_; refine zu rfl rfl Rd.mv ?_; refine zu rfl rfl Rd.mv ?_; refine zu rfl rfl (Rd.ixS rfl rfl) ?_
      refine zu rfl rfl (Rd.fA rfl) ?_; refine XPA.rd rfl rfl Gd.free (Rd.ldA rfl) ?_; refine zu rfl rfl Rd.mv ?_; refine zu rfl rfl Rd.mv ?_; refine zu rfl rfl (by first | exact Rd.sbi rfl rfl | exact Rd.sub rfl rfl) ?_
      refine XPA.wr0 rfl rfl Gd.free (WrA.cE (exprParts_a σ x'.e _ (most - n) hxe (by omega) (by omega)) rfl) ?_
      rintro _ _ _ ⟨_, ⟨a, rfl, ⟨ha0, ha1, ha2⟩, rfl, rfl⟩, rfl⟩
      refine stays (XPA.cl ?_)
      refine zu rfl rfl zI ?_
      refine XPA.wrZ0 rfl rfl Gd.free (by kernel_rfl) (WrA.cE (exprParts_a σ x'.f _ (most - n) hxf (by omega) (by omega)) rfl) ?_
      rintro _ _ _ ⟨_, ⟨b, rfl, ⟨hb0, hb1, hb2⟩, rfl, rfl⟩, rfl⟩
      refine XPA.cl ?_; refine zu rfl rfl zI ?_; refine zu rfl rfl zI ?_; refine zu rfl rfl Rd.asg ?_; refine XPA.nil ?_; refine zT (zS (zS (zR (zA rfl ?_)))); refine zA rfl ?_; refine zO rfl (Rd.leq rfl rfl) ?_; refine zN (zT ?_)
      refine XA.join [(5, 5), (43, 53)] (fun q : Int => [(5, i64 q)]) (fun q σ' Γ' => σ = σ' ∧ (0 ≤ q ∧ (q ≤ 2 * most + 3 ∨ q ≤ 0) ∧ (q ≤ most → q = stsN (l.take i) + 1 + exN x'.e + exN x'.f + stsN x'.body)) ∧ Γ' = []) ?_ ?_
      · 
        refine XA.condp rfl (fun h3 => ?_) (fun h3 => ?_)
        · refine zR ?_
          refine zA rfl ?_; refine zA rfl ?_; refine zA rfl ?_; refine zO rfl (Rd.ixS rfl rfl) ?_; refine zV rfl rfl ?_; refine zB rfl rfl (tyrow rfl) rfl ?_; refine zA rfl ?_; refine zA rfl ?_; refine zO rfl (by first | exact Rd.sbi rfl rfl | exact Rd.sub rfl rfl) ?_
          refine zw rfl (WrA.cE (ihb _ (most - (n + (1 + a + b))) hxb (by omega) (by omega)) rfl) ?_
          rintro _ _ _ ⟨_, ⟨c, rfl, ⟨hc0, hc1, hc2⟩, rfl, rfl⟩, rfl⟩
          refine XOA.cl ?_; refine zO rfl zI ?_; refine zO rfl Rd.asg ?_; refine zN (zT ?_)
          have k1 := ha2 (by omega)
          have k2 := hb2 (by omega)
          refine ⟨(Keep.upd (Keep.upd (Keep.updO (Keep.upd (Keep.upd (Keep.upd (Keep.upd (Keep.upd (Keep.upd (Keep.upd (Keep.upd (Keep.upd (Keep.refl _ _) rfl) rfl) rfl) rfl) rfl) rfl) rfl) rfl) rfl) rfl) rfl) rfl), n + (1 + a + b) + c, _, zM, ?_, ⟨rfl, ⟨by omega, by omega, fun h => by have := hc2 (by omega); omega⟩, rfl⟩⟩
          · exact zE
        · refine XA.skip ?_
          refine zT ?_
          refine ⟨(Keep.refl _ _), n + (1 + a + b), _, zM, ?_, ⟨rfl, ⟨by omega, by omega, fun h => absurd h h3⟩, rfl⟩⟩
          · exact zE
      rintro q δ2 _ _ ⟨rfl, ⟨hq0, hq1, hq2⟩, rfl⟩
      dsimp only [ovr, List.foldl]
      refine zT (zS (zR (zA rfl ?_))); refine zA rfl ?_; refine zO rfl (Rd.leq rfl rfl) ?_; refine zN (zT ?_)
      refine XA.join [(5, 5), (57, 67)] (fun q : Int => [(5, i64 q)]) (fun q σ' Γ' => σ = σ' ∧ (0 ≤ q ∧ (q ≤ 2 * most + 3 ∨ q ≤ 0) ∧ (q ≤ most → q = stsN (l.take i) + 1 + exN x'.e + exN x'.f + stsN x'.body + stsN x'.els)) ∧ Γ' = []) ?_ ?_
      · 
        refine XA.condp rfl (fun h3 => ?_) (fun h3 => ?_)
        · have hq3 := hq2 h3
          refine zR (zA rfl ?_); refine zA rfl ?_; refine zA rfl ?_; refine zO rfl (Rd.ixS rfl rfl) ?_; refine zV rfl rfl ?_; refine zB rfl rfl (tyrow rfl) rfl ?_; refine zA rfl ?_; refine zA rfl ?_; refine zO rfl (by first | exact Rd.sbi rfl rfl | exact Rd.sub rfl rfl) ?_
          refine zw rfl (WrA.cE (ihe _ (most - q) hxl (by omega) (by omega)) rfl) ?_
          rintro _ _ _ ⟨_, ⟨c, rfl, ⟨hc0, hc1, hc2⟩, rfl, rfl⟩, rfl⟩
          refine XOA.cl ?_; refine zO rfl zI ?_; refine zO rfl Rd.asg ?_; refine zN (zT ?_)
          refine ⟨(Keep.upd (Keep.upd (Keep.updO (Keep.upd (Keep.upd (Keep.upd (Keep.upd (Keep.upd (Keep.upd (Keep.upd (Keep.upd (Keep.upd (Keep.refl _ _) rfl) rfl) rfl) rfl) rfl) rfl) rfl) rfl) rfl) rfl) rfl) rfl), q + c, _, zM, ?_, ⟨rfl, ⟨by omega, by omega, fun h => by have := hc2 (by omega); omega⟩, rfl⟩⟩
          · exact zE
        · refine XA.skip ?_
          refine zT ?_
          refine ⟨(Keep.refl _ _), q, _, zM, ?_, ⟨rfl, ⟨by omega, by omega, fun h => absurd h h3⟩, rfl⟩⟩
          · exact zE
      rintro q2 δ3 _ _ ⟨rfl, ⟨hs0, hs1, hs2⟩, rfl⟩
      dsimp only [ovr, List.foldl]
      refine DA.inb_normal (zT (zR (zA rfl ?_))); refine zO rfl zI ?_; refine zO rfl Rd.asg ?_; refine zN (zT ?_)
      refine ⟨(Keep.upd (Keep.upd (Keep.upd (Keep.upd (Keep.hav (Keep.hav (Keep.upd (Keep.upd (Keep.upd (Keep.upd (Keep.hav (Keep.hav (Keep.upd (Keep.upd (Keep.upd (Keep.upd (Keep.upd (Keep.upd (Keep.updO (Keep.upd (Keep.updO (Keep.upd (Keep.upd (Keep.upd (Keep.upd (Keep.upd (Keep.upd (Keep.upd (Keep.upd (Keep.upd (Keep.upd (Keep.upd (Keep.upd (Keep.upd (Keep.upd (Keep.upd (Keep.upd (Keep.upd (Keep.upd (Keep.upd (Keep.upd (Keep.upd (Keep.upd (Keep.upd (Keep.upd (Keep.upd (Keep.upd (Keep.upd (Keep.upd (Keep.hav (Keep.refl _ _) rfl) rfl) rfl) rfl) rfl) rfl) rfl) rfl) rfl) rfl) rfl) rfl) rfl) rfl) rfl) rfl) rfl) rfl) rfl) rfl) rfl) rfl) rfl) rfl) rfl) rfl) rfl) rfl) rfl) rfl) rfl) rfl) rfl) rfl) rfl) rfl) rfl) rfl) rfl) rfl) rfl) rfl) rfl) rfl) rfl) rfl) rfl) rfl) rfl) rfl), (i + 1, q2), _, zM, ?_, ⟨rfl, h1, ⟨hs0, hs1, fun h => by simp only at h ⊢; rw [e1]; have := hs2 h; omega⟩, rfl⟩, (by simp only; omega)⟩
      · exact zE
    · 
      refine zS (zS (zR (zA rfl ?_))); refine zA rfl ?_; refine zO rfl (Rd.lenSlice (tyrow rfl) rfl rfl) ?_; refine zO rfl (Rd.lss rfl rfl) ?_; refine zA rfl ?_
      first | (refine zG ?_; refine zA rfl ?_) | refine zH ?_
      first | (refine zG ?_; refine zA rfl ?_) | refine zH ?_
      first | (refine zG ?_; refine zO rfl (Rd.leq rfl rfl) ?_) | refine zH ?_
      refine zO rfl zP ?_; refine zN (zT (XA.condF rfl zY ?_)); refine XA.exit (DA.thn_exit (DA.thn_exit (DA.inb_same (zT (zS (zR (zA rfl ?_))))))); refine zO rfl Rd.asg ?_; refine zN (zT (XA.ret ?_))
      refine bodyA.ret (ResA.one rfl rfl) (Ent.nil _) ⟨n, rfl, ⟨hn0, hn1, fun h => absurd h h2⟩, rfl, rfl⟩
  · 
    have hil : i = l.length := by omega
    subst hil
    rw [List.take_length] at hn2
    refine zS (zS (zR (zA rfl ?_))); refine zA rfl ?_; refine zO rfl (Rd.lenSlice (tyrow rfl) rfl rfl) ?_; refine zO rfl (Rd.lss rfl rfl) ?_; refine zA rfl ?_
    first | (refine zG ?_; refine zA rfl ?_) | refine zH ?_
    first | (refine zG ?_; refine zA rfl ?_) | refine zH ?_
    first | (refine zG ?_; refine zO rfl (Rd.leq rfl rfl) ?_) | refine zH ?_
    refine zO rfl zP ?_; refine zN (zT (XA.condF rfl zY ?_)); refine XA.exit (DA.thn_exit (DA.thn_exit (DA.inb_same (zT (zS (zR (zA rfl ?_))))))); refine zO rfl Rd.asg ?_; refine zN (zT (XA.ret ?_))
    refine bodyA.ret (ResA.one rfl rfl) (Ent.nil _) ⟨n, rfl, ⟨hn0, hn1, fun h => hn2 h⟩, rfl, rfl⟩
theorem stParts_x (σ : PH) (x : St) : StPartsOK σ x.body ∧ StPartsOK σ x.els := by
  refine St.ind (P := fun x => StPartsOK σ x.body ∧ StPartsOK σ x.els) ?_ x
  intro op v e f body els ih jh
  exact ⟨stmtParts_l σ body ih, stmtParts_l σ els jh⟩
theorem stmtParts_a (σ : PH) (l : List St) : StPartsOK σ l := stmtParts_l σ l (fun x _ => stParts_x σ x)
def Small (p : Pr) : Prop := p.vars.length ≤ 30 ∧ (∀ x ∈ p.vars, x.name.size ≤ 100) ∧ stsN p.body ≤ 900
theorem great_a (σ : PH) (cs : List Value) (p : Pr) (hp : PrAt σ cs p) : CallsA Tryz.prog 22 #[.agg cs.toArray] σ [] (RetA fun v σ' Γ' => ∃ b : Bool, v = .bool b ∧ (b = false → Small p) ∧ σ = σ' ∧ Γ' = []) := by
  obtain ⟨vs, bs, rfl, hv, hb⟩ := hp
  obtain ⟨pv, cv, rfl, hvl, hvm⟩ := hv.shape
  have hlen : p.vars.length ≤ maxLen := by omega
  simp only [maxLen] at hlen
  refine enterA1 Tryz.func22 rfl rfl rfl ?_
  refine zS (zR ?_)
  refine zw rfl WrA.bx ?_
  rintro _ _ _ ⟨g1, rfl, rfl, rfl⟩
  refine zO rfl Rd.asg ?_; refine zN (zT (zS (zS (zR (zO rfl Rd.asg ?_))))); refine zN (zT (XA.block ?_))
  refine XA.gen [(1, _), (2, _), (3, _)] ⟨(by with_reducible (conv => lhs; whnf)), (by with_reducible (conv => lhs; whnf)), (by with_reducible (conv => lhs; whnf)), trivial⟩ (fun δ => ?_)
  dsimp only [List.foldl]
  refine XA.loop [(2, 22)] (fun q : Nat => [(3, i64 q)]) (fun q σ' Γ' => σ = σ' ∧ q ≤ p.vars.length ∧ (∀ (j : Nat) x, j < q → p.vars[j]? = some x → x.name.size ≤ 100) ∧ Γ' = [blk g1 [.slice pv p.vars.length cv, bs] 25]) (fun q => p.vars.length - q) 0 (by exact ⟨rfl, trivial⟩) (Δ0 := _) ?_ (⟨rfl, Nat.zero_le _, fun j x h => absurd h (Nat.not_lt_zero _), rfl⟩) ?_
  · exact zE
  rintro i δ _ _ ⟨rfl, hi, hall, rfl⟩
  dsimp only [ovr, List.foldl]
  by_cases h1 : i < p.vars.length
  · by_cases h2 : i < 30
    · obtain ⟨x', hx'⟩ : ∃ x', p.vars[i]? = some x' := ⟨_, List.getElem?_eq_getElem h1⟩
      obtain ⟨g, o, row, rfl, ⟨rfl, hrx, hns⟩, hrl, hrow⟩ := hv.at hx'
      have r0 : PRow σ g (o + i * 2) [.string x'.name] := hrow.sub (j := 0) rfl
      refine zS (zS (zR (zA rfl ?_))); refine zV rfl rfl ?_; refine zB rfl rfl (tyrow rfl) rfl ?_; refine zO rfl (Rd.lenSlice (tyrow rfl) rfl rfl) ?_; refine zO rfl (Rd.lss rfl rfl) ?_; refine zA rfl ?_
      first | (refine zG ?_; refine zA rfl ?_) | refine zH ?_
      first | (refine zG ?_; refine zO rfl (Rd.lss rfl rfl) ?_) | refine zH ?_
      refine zO rfl zP ?_; refine zN (zT (XA.condT rfl zY ?_)); refine XA.skip (zT (zS (XA.block (zS (zR (zV rfl rfl ?_)))))); refine zB rfl rfl (tyrow rfl) rfl ?_; refine zA rfl ?_; refine zO rfl (Rd.ixS rfl rfl) ?_; refine zV rfl rfl ?_; refine zB rfl rfl (tyrow rfl) rfl ?_
      refine zO rfl (Rd.lenString (tyrow rfl) rfl rfl) ?_; refine zO rfl (Rd.gtr rfl rfl) ?_; refine zN (zT ?_)
      refine XA.condp rfl (fun h3 => ?_) (fun h3 => ?_)
      · refine zS ?_
        refine zR (zO rfl Rd.asg ?_); refine zN (zT (XA.ret (DA.inb_ret (DA.thn_ret (DA.thn_ret (DA.inb_ret (DA.thn_ret ?_)))))))
        refine bodyA.ret (ResA.one rfl rfl) (Ent.nil _) ⟨true, rfl, fun h => (by cases h), rfl, rfl⟩
      have hnew : ∀ (j : Nat) x, j < i + 1 → p.vars[j]? = some x → x.name.size ≤ 100 := fun j x hj hx => by
        rcases Nat.lt_or_ge j i with h | h
        · exact hall j x h hx
        · have : j = i := by omega
          subst this
          rw [hx'] at hx; simp only [Option.some.injEq] at hx; subst hx
          omega
      refine XA.skip (DA.inb_normal (zT (zR (zA rfl ?_)))); refine zO rfl zI ?_; refine zO rfl Rd.asg ?_; refine zN (zT ?_)
      refine ⟨(Keep.upd (Keep.upd (Keep.upd (Keep.upd (Keep.upd (Keep.upd (Keep.upd (Keep.upd (Keep.upd (Keep.upd (Keep.upd (Keep.upd (Keep.upd (Keep.upd (Keep.upd (Keep.upd (Keep.upd (Keep.upd (Keep.upd (Keep.upd (Keep.upd (Keep.hav (Keep.refl _ _) rfl) rfl) rfl) rfl) rfl) rfl) rfl) rfl) rfl) rfl) rfl) rfl) rfl) rfl) rfl) rfl) rfl) rfl) rfl) rfl) rfl) rfl), i + 1, _, zM, ?_, ⟨rfl, h1, hnew, rfl⟩, (by omega)⟩
      · exact zE
    · 
      refine zS (zS (zR (zA rfl ?_))); refine zV rfl rfl ?_; refine zB rfl rfl (tyrow rfl) rfl ?_; refine zO rfl (Rd.lenSlice (tyrow rfl) rfl rfl) ?_; refine zO rfl (Rd.lss rfl rfl) ?_; refine zA rfl ?_
      first | (refine zG ?_; refine zA rfl ?_) | refine zH ?_
      first | (refine zG ?_; refine zO rfl (Rd.lss rfl rfl) ?_) | refine zH ?_
      refine zO rfl zP ?_; refine zN (zT (XA.condF rfl zY ?_)); refine XA.exit (DA.thn_exit (DA.thn_exit (DA.inb_same (zT (zS (zR (zV rfl rfl ?_))))))); refine zB rfl rfl (tyrow rfl) rfl ?_; refine zO rfl (Rd.lenSlice (tyrow rfl) rfl rfl) ?_
      by_cases hbig : 30 < p.vars.length
      · 
        refine zO rfl (Rd.gtr rfl rfl) ?_; refine zA rfl ?_
        first | (refine zG ?_; refine zV rfl rfl ?_) | refine zH ?_
        first | (refine zG ?_; refine zB rfl rfl (tyrow rfl) rfl ?_) | refine zH ?_
        first | refine zH ?_
        first | (refine zG ?_; refine zO rfl (Rd.gtr rfl rfl) ?_) | refine zH ?_
        refine zO rfl zP ?_; refine zO rfl Rd.asg ?_; refine zN (zT (XA.ret ?_))
        exact bodyA.ret (ResA.one rfl rfl) (Ent.nil _) ⟨true, rfl, fun h => (by cases h), rfl, rfl⟩
      · exfalso; omega
  · 
    refine zS (zS (zR (zA rfl ?_))); refine zV rfl rfl ?_; refine zB rfl rfl (tyrow rfl) rfl ?_; refine zO rfl (Rd.lenSlice (tyrow rfl) rfl rfl) ?_; refine zO rfl (Rd.lss rfl rfl) ?_; refine zA rfl ?_
    first | (refine zG ?_; refine zA rfl ?_) | refine zH ?_
    first | (refine zG ?_; refine zO rfl (Rd.lss rfl rfl) ?_) | refine zH ?_
    refine zO rfl zP ?_; refine zN (zT (XA.condF rfl zY ?_)); refine XA.exit (DA.thn_exit (DA.thn_exit (DA.inb_same (zT (zS (zR (zV rfl rfl ?_))))))); refine zB rfl rfl (tyrow rfl) rfl ?_; refine zO rfl (Rd.lenSlice (tyrow rfl) rfl rfl) ?_
    by_cases hbig : 30 < p.vars.length
    · 
      refine zO rfl (Rd.gtr rfl rfl) ?_; refine zA rfl ?_
      first | (refine zG ?_; refine zV rfl rfl ?_) | refine zH ?_
      first | (refine zG ?_; refine zB rfl rfl (tyrow rfl) rfl ?_) | refine zH ?_
      first | refine zH ?_
      first | (refine zG ?_; refine zO rfl (Rd.gtr rfl rfl) ?_) | refine zH ?_
      refine zO rfl zP ?_; refine zO rfl Rd.asg ?_; refine zN (zT (XA.ret ?_))
      exact bodyA.ret (ResA.one rfl rfl) (Ent.nil _) ⟨true, rfl, fun h => (by cases h), rfl, rfl⟩
    · 
      refine zO rfl (Rd.gtr rfl rfl) ?_; refine zA rfl ?_
      first | (refine zG ?_; refine zV rfl rfl ?_) | refine zH ?_
      first | (refine zG ?_; refine zB rfl rfl (tyrow rfl) rfl ?_) | refine zH ?_
      first | refine XOA.wanted rfl rfl ?_ | refine XOA.wq rfl rfl ?_
      refine zw rfl (WrA.cE (stmtParts_a σ p.body _ 900 hb (by decide) (by decide)) rfl) ?_
      rintro _ _ _ ⟨_, ⟨r, rfl, ⟨hr0, hr1, hr2⟩, rfl, rfl⟩, rfl⟩
      refine XOA.cl ?_
      first | (refine zG ?_; refine zO rfl (Rd.gtr rfl rfl) ?_) | refine zH ?_
      refine zO rfl zP ?_; refine zO rfl Rd.asg ?_; refine zN (zT (XA.ret ?_))
      refine bodyA.ret (ResA.one rfl rfl) (Ent.nil _) ⟨decide (900 < r), rfl, fun h => ⟨by omega, fun x hx => ?_, ?_⟩, rfl, rfl⟩
      · obtain ⟨j, hj, e⟩ := List.mem_iff_getElem.1 hx
        exact hall j x (by omega) (by rw [List.getElem?_eq_getElem hj, e])
      · have := hr2 (by simpa using h); have : ¬ 900 < r := of_decide_eq_false h; omega
end Go.Proofs.YtmnmcjdgnpgchaaGreat

namespace Go.Proofs.YtmnmcjdgnpgchaaGreat
open Go X
set_option maxHeartbeats 1000000
end Go.Proofs.YtmnmcjdgnpgchaaGreat

namespace Go.Proofs.YtmnmcjdgnpgchaaGreat
open Go X
set_option maxHeartbeats 1000000
theorem psl_rows {α : Type} {s n c : Nat} {R : RT α} {σ : PH} {p : Option Addr} {xs : List α} (h : PSl s R σ (.slice p n c) xs) : ∃ rows, Rows_ s R σ rows xs ∧ n = xs.length ∧ xs.length ≤ c ∧ c ≤ maxLen ∧ (0 < xs.length → ∃ g o, p = some ⟨g, o, none⟩ ∧ PRow σ g o rows.flatten) := by
  obtain ⟨p', c', rows, h1, h2, h3, h4, h5, h6, h7⟩ := h
  simp only [Value.slice.injEq] at h1
  obtain ⟨rfl, rfl, rfl⟩ := h1
  exact ⟨rows, ⟨h4, h5, h6⟩, rfl, h2, h3, h7⟩
theorem X.Rows_.flat_len {α : Type} {s : Nat} {R : RT α} {σ : PH} {rows : List (List Value)} {xs : List α} (h : Rows_ s R σ rows xs) : rows.flatten.length = xs.length * s := by rw [flatten_len h.size, h.len]
theorem varEq_a (σ : PH) (g : Nat) (v w : Va) : CallsA Tryz.prog 92 #[vav w, ptr g] σ [blk g [.string v.name, i64 v.size] 67] (RetA fun r σ' Γ' => r = .bool (decide (w.name = v.name)) ∧ σ = σ' ∧ Γ' = [blk g [.string v.name, i64 v.size] 67]) := by
  unfold vav
  refine enterA2 Tryz.func92 rfl rfl rfl ?_
  refine zS (zR ?_)
  refine zw rfl WrA.bx ?_
  rintro _ _ _ ⟨g2, rfl, rfl, rfl⟩
  refine zO rfl Rd.asg ?_; refine zN (zT (zS (zR (zV rfl rfl ?_)))); refine zB rfl rfl (tyrow rfl) rfl ?_; refine zV rfl rfl ?_; refine zB rfl rfl (tyrow rfl) rfl ?_; refine zO rfl (Rd.eqls rfl rfl) ?_; refine zO rfl Rd.asg ?_; refine zN (zT (XA.ret ?_))
  exact bodyA.ret (ResA.one rfl rfl) zE ⟨rfl, rfl, rfl⟩
theorem indexVar_a (σ : PH) (g : Nat) (v : Va) (sl : Value) (l : List Va) (hl : PSl 2 rVa σ sl l) : CallsA Tryz.prog 108 #[sl, .func (.func 92) #[] #[ptr g]] σ [blk g [.string v.name, i64 v.size] 67] (RetA fun r σ' Γ' => ∃ k : Int, r = i64 k ∧ (0 ≤ k ↔ ∃ w ∈ l, w.name = v.name) ∧ σ = σ' ∧ Γ' = [blk g [.string v.name, i64 v.size] 67]) := by
  obtain ⟨pl, cl, rfl, hle, hmx⟩ := hl.shape
  have hlen : l.length ≤ maxLen := by omega
  simp only [maxLen] at hlen
  refine enterA2 Tryz.func108 rfl rfl rfl ?_
  refine zS (zR (zO rfl Rd.asg ?_)); refine zN (zT (zS (zS (zR (zA rfl ?_))))); refine zO rfl (Rd.lenSlice (tyrow rfl) rfl rfl) ?_; refine zA rfl ?_; refine zN (zT (XA.block ?_))
  refine XA.gen [(0, _), (1, _), (4, _), (7, _), (8, _)] ⟨(by with_reducible (conv => lhs; whnf)), (by with_reducible (conv => lhs; whnf)), (by with_reducible (conv => lhs; whnf)), (by with_reducible (conv => lhs; whnf)), (by with_reducible (conv => lhs; whnf)), trivial⟩ (fun δ => ?_)
  dsimp only [List.foldl]
  refine XA.loop [(4, 5), (8, 18)] (fun k : Nat => [(8, i64 k)]) (fun k σ' Γ' => σ = σ' ∧ k ≤ l.length ∧ (∀ (j : Nat) w, j < k → l[j]? = some w → w.name ≠ v.name) ∧ Γ' = [blk g [.string v.name, i64 v.size] 67]) (fun k => l.length - k) 0 (by exact ⟨rfl, trivial⟩) (Δ0 := _) ?_ (⟨rfl, Nat.zero_le _, fun j w h => absurd h (Nat.not_lt_zero _), rfl⟩) ?_
  · exact zE
  rintro k δ _ _ ⟨rfl, hk, hall, rfl⟩
  dsimp only [ovr, List.foldl]
  refine zS (zR (zO rfl (Rd.lss rfl rfl) ?_)); refine zN (zT (zS ?_))
  refine XA.condp rfl (fun hlt => ?_) (fun hlt => ?_)
  · have hlt : k < l.length := by omega
    obtain ⟨x', hx'⟩ : ∃ x', l[k]? = some x' := ⟨_, List.getElem?_eq_getElem hlt⟩
    obtain ⟨gg, o, row, rfl, ⟨rfl, -, -⟩, hrl, hrow⟩ := hl.at hx'
    refine XA.skip (zT (zS (XA.block (zS (zR (zA rfl ?_)))))); refine zO rfl Rd.asg ?_; refine zN (zT (zS (zR (zA rfl ?_)))); refine zA rfl ?_; refine zA rfl ?_; refine zO rfl (Rd.ixS rfl rfl) ?_; refine zO rfl (Rd.ldA rfl) ?_
    refine zw rfl (WrA.cV (first := []) (cap := [ptr g]) rfl (varEq_a σ g v x') rfl) ?_
    rintro _ _ _ ⟨_, ⟨rfl, rfl, rfl⟩, rfl⟩
    refine XOA.cl ?_; refine zN (zT ?_)
    refine XA.condp rfl (fun hc => ?_) (fun hc => ?_)
    · refine zS ?_
      refine zR (zA rfl ?_); refine zO rfl Rd.asg ?_; refine zN (zT (XA.ret (DA.inb_ret (DA.thn_ret (DA.thn_ret (DA.inb_ret (DA.thn_ret ?_)))))))
      exact bodyA.ret (ResA.one rfl rfl) zE ⟨(k : Int), rfl, ⟨fun _ => ⟨x', List.mem_of_getElem? hx', hc⟩, fun _ => by omega⟩, rfl, rfl⟩
    · have hnew : ∀ (j : Nat) w, j < k + 1 → l[j]? = some w → w.name ≠ v.name := fun j w hj hw => by
        rcases Nat.lt_or_ge j k with h | h
        · exact hall j w h hw
        · have : j = k := by omega
          subst this
          rw [hx'] at hw; simp only [Option.some.injEq] at hw; subst hw; exact hc
      refine XA.skip (DA.inb_normal (zT (zR (zO rfl zI ?_)))); refine zA rfl ?_; refine zN (zT ?_)
      refine ⟨(Keep.upd (Keep.upd (Keep.updO (Keep.upd (Keep.upd (Keep.upd (Keep.upd (Keep.upd (Keep.upd (Keep.upd (Keep.upd (Keep.upd (Keep.hav (Keep.hav (Keep.refl _ _) rfl) rfl) rfl) rfl) rfl) rfl) rfl) rfl) rfl) rfl) rfl) rfl) rfl) rfl), k + 1, _, zM, ?_, ⟨rfl, hlt, hnew, rfl⟩, (by omega)⟩
      · exact zE
  have hkn : k = l.length := by omega
  subst hkn
  refine XA.exit (DA.thn_exit (DA.thn_exit (DA.inb_same (zT (zS (zR (zO rfl Rd.asg ?_))))))); refine zN (zT (XA.ret ?_))
  refine bodyA.ret (ResA.one rfl rfl) zE ⟨-1, rfl, ⟨fun h => absurd h (by decide), fun ⟨w, hw, e⟩ => ?_⟩, rfl, rfl⟩
  obtain ⟨j, hj, e2⟩ := List.mem_iff_getElem.1 hw
  exact absurd e (hall j w hj (by rw [List.getElem?_eq_getElem hj, e2]))
theorem containsVar_a (σ : PH) (g : Nat) (v : Va) (sl : Value) (l : List Va) (hl : PSl 2 rVa σ sl l) : CallsA Tryz.prog 91 #[sl, .func (.func 92) #[] #[ptr g]] σ [blk g [.string v.name, i64 v.size] 67] (RetA fun r σ' Γ' => r = .bool (decide (∃ w ∈ l, w.name = v.name)) ∧ σ = σ' ∧ Γ' = [blk g [.string v.name, i64 v.size] 67]) := by
  refine enterA2 Tryz.func91 rfl rfl rfl ?_
  refine zS (zR (zO rfl Rd.asg ?_)); refine zN (zT (zS (zR (zA rfl ?_)))); refine zA rfl ?_
  refine zw rfl (WrA.cE (indexVar_a σ g v sl l hl) rfl) ?_
  rintro _ _ _ ⟨_, ⟨k, rfl, hk, rfl, rfl⟩, rfl⟩
  refine XOA.cl ?_; refine zO rfl (Rd.geq rfl rfl) ?_; refine zO rfl Rd.asg ?_; refine zN (zT (XA.ret ?_))
  exact bodyA.ret (ResA.one rfl rfl) zE ⟨congrArg Value.bool (decide_eq_decide.2 hk), rfl, rfl⟩
end Go.Proofs.YtmnmcjdgnpgchaaGreat

namespace Go.Proofs.YtmnmcjdgnpgchaaGreat
open Go X
set_option maxHeartbeats 1000000
theorem X.PSl.take {α : Type} {s n c k : Nat} {R : RT α} {σ : PH} {p : Option Addr} {xs : List α} (h : PSl s R σ (.slice p n c) xs) (hk : k ≤ n) : PSl s R σ (.slice p k c) (xs.take k) := by
  obtain ⟨p', c', rows, h1, h2, h3, h4, h5, h6, h7⟩ := h
  simp only [Value.slice.injEq] at h1
  obtain ⟨rfl, rfl, rfl⟩ := h1
  have hl : (xs.take k).length = k := by rw [List.length_take]; exact Nat.min_eq_left hk
  refine ⟨p, c, rows.take k, by rw [hl], by omega, h3, by rw [hl, List.length_take]; omega, fun r hr => h5 r (List.mem_of_mem_take hr), fun i row x a b => ?_, fun hp => ?_⟩
  · rw [List.getElem?_take] at a b
    split at a
    · rename_i hi
      rw [if_pos hi] at b
      exact h6 i row x a b
    · cases a
  · obtain ⟨g, o, e, hr⟩ := h7 (by omega)
    refine ⟨g, o, e, ?_⟩
    have := hr.sub (j := 0) (us := (rows.take k).flatten) (by
      have e : rows.flatten = (rows.take k).flatten ++ (rows.drop k).flatten := by rw [← List.flatten_append, List.take_append_drop]
      rw [List.drop_zero, e]
      exact List.take_left)
    simpa using this
theorem drop_get {α : Type} {l : List α} {k : Nat} {x : α} (h : l[k]? = some x) : l.drop k = x :: l.drop (k + 1) := by
  obtain ⟨h1, h2⟩ := List.getElem?_eq_some_iff.1 h
  rw [List.drop_eq_getElem_cons h1, h2]
theorem vars_a (σ : PH) (sl : Value) (l : List Va) (hl : PSl 2 rVa σ sl l) : CallsA Tryz.prog 69 #[sl] σ [] (RetA fun v σ' Γ' => v = i64 (checkVars l) ∧ σ = σ' ∧ Γ' = []) := by
  obtain ⟨pl, cl, rfl, hle, hmx⟩ := hl.shape
  have hlen : l.length ≤ maxLen := by omega
  simp only [maxLen] at hlen
  refine enterA1 Tryz.func69 rfl rfl rfl ?_
  refine zS (zR (zO rfl Rd.asg ?_)); refine zN (zT (zS (zS (zR (zA rfl ?_))))); refine zO rfl (Rd.lenSlice (tyrow rfl) rfl rfl) ?_; refine zO rfl (Rd.gtr rfl rfl) ?_; refine zN (zT ?_)
  refine XA.condp rfl (fun h8 => ?_) (fun h8 => ?_)
  · refine zS ?_
    refine zR (zO rfl Rd.asg ?_); refine zN (zT (XA.ret (DA.thn_ret ?_)))
    have hr : checkVars l = 3 := by rw [checkVars, if_pos (by omega)]
    exact bodyA.ret (ResA.one rfl rfl) zE ⟨by rw [hr], rfl, rfl⟩
  have hcv : checkVars l = varsGo [] 0 l := by rw [checkVars, if_neg (by omega)]
  rw [hcv]
  refine XA.skip (zT (zS (zR (zO rfl Rd.asg ?_)))); refine zN (zT (zS (zS (zR (zA rfl ?_))))); refine zO rfl (Rd.lenSlice (tyrow rfl) rfl rfl) ?_; refine zA rfl ?_; refine zN (zT (XA.block ?_))
  refine XA.gen [(0, _), (2, _), (3, _), (9, _), (10, _), (11, _)] ⟨(by with_reducible (conv => lhs; whnf)), (by with_reducible (conv => lhs; whnf)), (by with_reducible (conv => lhs; whnf)), (by with_reducible (conv => lhs; whnf)), (by with_reducible (conv => lhs; whnf)), (by with_reducible (conv => lhs; whnf)), trivial⟩ (fun δ => ?_)
  dsimp only [List.foldl]
  refine XA.loop [(2, 5), (11, 42)] (fun q : Nat × Int => [(11, i64 q.1), (3, i64 q.2)]) (fun q σ' Γ' => σ = σ' ∧ q.1 ≤ l.length ∧ (0 ≤ q.2 ∧ q.2 ≤ 48 ∧ varsGo (l.take q.1) q.2 (l.drop q.1) = varsGo [] 0 l) ∧ Γ' = []) (fun q => l.length - q.1) (0, 0) (by exact ⟨rfl, rfl, trivial⟩) (Δ0 := _) ?_ (⟨rfl, Nat.zero_le _, ⟨Int.le_refl _, (by decide), rfl⟩, rfl⟩) ?_
  · exact zE
  rintro ⟨k, n⟩ δ _ _ ⟨rfl, hk, ⟨hn0, hn1, hgo⟩, rfl⟩
  dsimp only [ovr, List.foldl]
  have hk : k ≤ l.length := hk
  have hn0 : 0 ≤ n := hn0
  have hn1 : n ≤ 48 := hn1
  have hgo : varsGo (l.take k) n (l.drop k) = varsGo [] 0 l := hgo
  refine zS (zR (zO rfl (Rd.lss rfl rfl) ?_)); refine zN (zT (zS ?_))
  refine XA.condp rfl (fun hlt => ?_) (fun hlt => ?_)
  · have hlt : k < l.length := by omega
    obtain ⟨x, hx⟩ : ∃ x, l[k]? = some x := ⟨_, List.getElem?_eq_getElem hlt⟩
    obtain ⟨gg, o, row, rfl, ⟨rfl, ⟨hz0, hz1⟩, hnm⟩, hrl, hrow⟩ := hl.at hx
    have hpre := hl.take (k := k) hk
    rw [drop_get hx, varsGo] at hgo
    refine XA.skip (zT (zS (XA.block (zS (zR (zA rfl ?_)))))); refine zO rfl (Rd.ixS rfl rfl) ?_; refine zO rfl (Rd.ldA rfl) ?_
    refine zw rfl (WrA.alloc (tyrow rfl)) ?_
    rintro _ _ _ ⟨g5, rfl, rfl, rfl⟩
    refine zO rfl Rd.asg ?_
    refine zw rfl (WrA.st (tyrow rfl) rfl) ?_
    rintro _ _ _ ⟨rfl, rfl, rfl⟩
    refine zN (zT (zS (XA.block (zS (zR (zV rfl rfl ?_)))))); refine zB rfl rfl (tyrow rfl) rfl ?_
    refine zw rfl (WrA.cE (name_a σ x.name hnm) rfl) ?_
    rintro _ _ _ ⟨_, ⟨rfl, rfl, rfl⟩, rfl⟩
    refine XOA.cl ?_
    cases hnk : nameOk x.name with
    | false =>
      rw [if_pos hnk] at hgo
      refine zO rfl zJ ?_; refine zO rfl Rd.asg ?_; refine zN (zT (XA.condT rfl rfl (zS (zR (zO rfl Rd.asg ?_))))); refine zN (zT (XA.ret (DA.inb_ret (DA.thn_ret (DA.inb_ret (DA.thn_ret (DA.thn_ret (DA.inb_ret (DA.thn_ret ?_)))))))))
      exact bodyA.ret (ResA.one rfl rfl) zE ⟨by rw [← hgo], rfl, rfl⟩
    | true =>
      rw [if_neg (by simp [hnk])] at hgo
      refine zO rfl zJ ?_; refine zO rfl Rd.asg ?_; refine zN (zT (XA.condF rfl rfl (zS (zR (zA rfl ?_))))); refine zA rfl ?_; refine zO rfl (Rd.sliceToN (tyrow rfl) rfl (tyrow rfl) rfl rfl (by omega)) ?_
      refine zO rfl (Rd.makeFunc1 (by with_reducible (conv => lhs; whnf))) ?_
      refine zw rfl (WrA.cE (containsVar_a σ g5 x _ _ hpre) rfl) ?_
      rintro _ _ _ ⟨_, ⟨rfl, rfl, rfl⟩, rfl⟩
      refine XOA.cl ?_; refine zO rfl Rd.asg ?_; refine zN (zT ?_)
      refine XA.condp rfl (fun htw => ?_) (fun htw => ?_)
      · rw [if_pos htw] at hgo
        refine zS (zR (zO rfl Rd.asg ?_)); refine zN (zT (XA.ret (DA.inb_ret (DA.thn_ret (DA.inb_ret (DA.thn_ret (DA.thn_ret (DA.inb_ret (DA.thn_ret ?_)))))))))
        exact bodyA.ret (ResA.one rfl rfl) zE ⟨by rw [← hgo], rfl, rfl⟩
      rw [if_neg htw] at hgo
      by_cases hz : x.size < 1
      · rw [if_pos (.inl hz)] at hgo
        refine zS (zR (zV rfl rfl ?_)); refine zB rfl rfl (tyrow rfl) rfl ?_; refine zO rfl (Rd.lss rfl rfl) ?_; refine zA rfl ?_
        first | (refine zG ?_; refine zV rfl rfl ?_) | refine zH ?_
        first | (refine zG ?_; refine zB rfl rfl (tyrow rfl) rfl ?_) | refine zH ?_
        first | (refine zG ?_; refine zA rfl ?_) | refine zH ?_
        first | (refine zG ?_; refine zO rfl (by first | exact Rd.sbi rfl rfl | exact Rd.sub rfl rfl) ?_) | refine zH ?_
        first | (refine zG ?_; refine zO rfl (Rd.gtr rfl rfl) ?_) | refine zH ?_
        refine zO rfl zP ?_; refine zO rfl Rd.asg ?_; refine zN (zT (XA.condT rfl rfl (zS (zR (zO rfl Rd.asg ?_))))); refine zN (zT (XA.ret (DA.inb_ret (DA.thn_ret (DA.inb_ret (DA.thn_ret (DA.thn_ret (DA.inb_ret (DA.thn_ret ?_)))))))))
        exact bodyA.ret (ResA.one rfl rfl) zE ⟨by rw [← hgo], rfl, rfl⟩
      · 
        refine zS (zR (zV rfl rfl ?_)); refine zB rfl rfl (tyrow rfl) rfl ?_; refine zO rfl (Rd.lss rfl rfl) ?_; refine zA rfl ?_
        first | (refine zG ?_; refine zV rfl rfl ?_) | refine zH ?_
        first | (refine zG ?_; refine zB rfl rfl (tyrow rfl) rfl ?_) | refine zH ?_
        first | (refine zG ?_; refine zA rfl ?_) | refine zH ?_
        first | (refine zG ?_; refine zO rfl (by first | exact Rd.sbi rfl rfl | exact Rd.sub rfl rfl) ?_) | refine zH ?_
        first | (refine zG ?_; refine zO rfl (Rd.gtr rfl rfl) ?_) | refine zH ?_
        refine zO rfl zP ?_; refine zO rfl Rd.asg ?_; refine zN (zT ?_)
        refine XA.condp rfl (fun hz2 => ?_) (fun hz2 => ?_)
        · rw [if_pos (.inr hz2)] at hgo
          refine zS (zR (zO rfl Rd.asg ?_)); refine zN (zT (XA.ret (DA.inb_ret (DA.thn_ret (DA.inb_ret (DA.thn_ret (DA.thn_ret (DA.inb_ret (DA.thn_ret ?_)))))))))
          exact bodyA.ret (ResA.one rfl rfl) zE ⟨by rw [← hgo], rfl, rfl⟩
        rw [if_neg (by omega)] at hgo
        refine XA.skip (DA.inb_normal (zT (zR (zA rfl ?_)))); refine zV rfl rfl ?_; refine zB rfl rfl (tyrow rfl) rfl ?_; refine zO rfl zI ?_; refine zO rfl Rd.asg ?_; refine zN (DA.inb_normal (zT (zR (zO rfl zI ?_)))); refine zA rfl ?_; refine zN (zT ?_)
        refine ⟨(Keep.upd (Keep.upd (Keep.upd (Keep.upd (Keep.upd (Keep.upd (Keep.upd (Keep.upd (Keep.upd (Keep.upd (Keep.upd (Keep.upd (Keep.upd (Keep.upd (Keep.upd (Keep.upd (Keep.upd (Keep.upd (Keep.upd (Keep.updO (Keep.upd (Keep.upd (Keep.upd (Keep.upd (Keep.upd (Keep.upd (Keep.updO (Keep.upd (Keep.upd (Keep.updN (Keep.upd (Keep.updO (Keep.upd (Keep.upd (Keep.upd (Keep.upd (Keep.upd (Keep.upd (Keep.hav (Keep.hav (Keep.refl _ _) rfl) rfl) rfl) rfl) rfl) rfl) rfl) rfl) rfl) rfl)) rfl) rfl) rfl) rfl) rfl) rfl) rfl) rfl) rfl) rfl) rfl) rfl) rfl) rfl) rfl) rfl) rfl) rfl) rfl) rfl) rfl) rfl) rfl) rfl) rfl) rfl) rfl) rfl) rfl), (k + 1, n + x.size), _, zM, ?_, ⟨rfl, hlt, ⟨by simp only; omega, by simp only; omega, by rw [takeS hx]; exact hgo⟩, rfl⟩, (by simp only; omega)⟩
        · exact zE
  have hkn : k = l.length := by omega
  subst hkn
  rw [List.drop_length, varsGo] at hgo
  refine XA.exit (DA.thn_exit (DA.thn_exit (DA.inb_same (zT (zS (zR (zO rfl Rd.asg ?_))))))); refine zN (zT (XA.ret ?_))
  exact bodyA.ret (ResA.one rfl rfl) zE ⟨by rw [← hgo], rfl, rfl⟩
theorem check_a (σ : PH) (cs : List Value) (p : Pr) (hp : PrAt σ cs p) : CallsA Tryz.prog 40 #[.agg cs.toArray] σ [] (RetA fun v σ' Γ' => v = i64 (checkP p) ∧ σ = σ' ∧ Γ' = []) := by
  obtain ⟨vs, bs, rfl, hv, hb⟩ := hp
  obtain ⟨pv, cv, rfl, hvl, hvm⟩ := hv.shape
  refine enterA1 Tryz.func40 rfl rfl rfl ?_
  refine zS (zR ?_)
  refine zw rfl WrA.bx ?_
  rintro _ _ _ ⟨g1, rfl, rfl, rfl⟩
  refine zO rfl Rd.asg ?_; refine zN (zT (zS (zS (zR (zV rfl rfl ?_))))); refine zB rfl rfl (tyrow rfl) rfl ?_
  refine zw rfl (WrA.cE (vars_a σ _ _ hv) rfl) ?_
  rintro _ _ _ ⟨_, ⟨rfl, rfl, rfl⟩, rfl⟩
  refine XOA.cl ?_; refine zO rfl Rd.asg ?_; refine zN (zT (zS (zR (zA rfl ?_)))); refine zO rfl (Rd.neq rfl rfl) ?_; refine zN (zT ?_)
  refine XA.condp rfl (fun hc => ?_) (fun hc => ?_)
  · refine zS ?_
    refine zR (zA rfl ?_); refine zO rfl Rd.asg ?_; refine zN (zT (XA.ret (DA.thn_ret ?_)))
    exact bodyA.ret (ResA.one rfl rfl) zE ⟨by rw [checkP, if_pos hc], rfl, rfl⟩
  refine XA.skip (zT (zS (zR (zV rfl rfl ?_)))); refine zB rfl rfl (tyrow rfl) rfl ?_
  refine zO rfl (Rd.bl (fun _ _ => tyrow) rfl rfl rfl) ?_
  refine zw rfl WrA.bx ?_
  rintro _ _ _ ⟨g14, rfl, rfl, rfl⟩
  refine zO rfl Rd.asg ?_; refine zN (zT (zS (zR (zA rfl ?_)))); refine zV rfl rfl ?_; refine zB rfl rfl (tyrow rfl) rfl ?_
  refine XOA.ent (Ent.foldC (Θ := [_]) zD (Judge.mkO (l := 150)) (Ent.refl _)) ?_
  refine zw rfl (WrA.cE (list_a σ p.body (fun x _ => stmt_a σ x) bs g14 pv p.vars.length cv (.ok 150) 0 hb (fun l hl => by simp only [Except.ok.injEq] at hl; omega) (by decide) (by decide)) rfl) ?_
  rintro _ _ _ ⟨_, ⟨rfl, rfl, rfl⟩, rfl⟩
  refine XOA.cl ?_
  have hcp : checkP p = (stsE p.vars.length 0 p.body (.ok 150)).code := by rw [checkP, if_neg hc]
  rw [hcp]
  refine zN (zT (zS (zR (zA rfl ?_))))
  cases hst : stsE p.vars.length 0 p.body (.ok 150) with
  | ok a =>
    first | refine XA.opn (R := Judge g14 _ (.ok a)) zL (Judge.okO) ?_ | refine XOA.opn (R := Judge g14 _ (.ok a)) zL (Judge.okO) ?_ | refine DA.opn (R := Judge g14 _ (.ok a)) zL (Judge.okO) ?_
    rintro ⟨⟩ -
    first | refine XA.cl ?_ | refine XOA.cl ?_ | refine DA.cl ?_
    refine zO rfl (Rd.nilCheck rfl) ?_; refine zV rfl rfl ?_; refine zB rfl rfl (tyrow rfl) rfl ?_; refine zO rfl Rd.asg ?_; refine zN (zT (XA.ret ?_))
    exact bodyA.ret (ResA.one rfl rfl) (Ent.nil _) ⟨rfl, rfl, rfl⟩
  | error c =>
    first | refine XA.opn (R := Judge g14 _ (.error c)) zL (Judge.errO) ?_ | refine XOA.opn (R := Judge g14 _ (.error c)) zL (Judge.errO) ?_ | refine DA.opn (R := Judge g14 _ (.error c)) zL (Judge.errO) ?_
    rintro l h0
    first | refine XA.cl ?_ | refine XOA.cl ?_ | refine DA.cl ?_
    refine zO rfl (Rd.nilCheck rfl) ?_; refine zV rfl rfl ?_; refine zB rfl rfl (tyrow rfl) rfl ?_; refine zO rfl Rd.asg ?_; refine zN (zT (XA.ret ?_))
    exact bodyA.ret (ResA.one rfl rfl) (Ent.nil _) ⟨rfl, rfl, rfl⟩
theorem sizes_bound : ∀ (l : List Va), (∀ x ∈ l, 0 ≤ x.size ∧ x.size ≤ 1000) → 0 ≤ sizes l ∧ sizes l ≤ 1000 * l.length
  | [], _ => by simp [sizes]
  | x :: l, h => by
    have h1 := sizes_bound l (fun y hy => h y (by simp [hy]))
    have h2 := h x (by simp)
    rw [sizes_cons, List.length_cons]; omega
theorem cell_a (σ : PH) (cs : List Value) (p : Pr) (v : Int) (hp : PrAt σ cs p) (hz : ∀ x ∈ p.vars, 0 ≤ x.size ∧ x.size ≤ 1000) (hl : p.vars.length ≤ 1000) :
    CallsA Tryz.prog 48 #[.agg cs.toArray, i64 v] σ [] (RetA fun r σ' Γ' => r = i64 (cellOf p.vars v) ∧ σ = σ' ∧ Γ' = []) := by
  obtain ⟨vs, bs, rfl, hv, hb⟩ := hp
  obtain ⟨pv, cv, rfl, hvl, hvm⟩ := hv.shape
  obtain ⟨m, hm⟩ : ∃ m, m = min v.toNat p.vars.length := ⟨_, rfl⟩
  have hmin : (if (p.vars.length : Int) < (if (0 : Int) > v then 0 else v) then (p.vars.length : Int) else (if (0 : Int) > v then 0 else v)) = (m : Int) := by
    subst hm; split <;> split at * <;> omega
  have hcell : cellOf p.vars v = sizes (p.vars.take m) := by
    rw [cellOf, hm, ← List.take_eq_take_min]
  rw [hcell]
  have hml : m ≤ p.vars.length := by omega
  refine enterA2 Tryz.func48 rfl rfl rfl ?_
  refine zS (zR ?_)
  refine zw rfl WrA.bx ?_
  rintro _ _ _ ⟨g2, rfl, rfl, rfl⟩
  refine zO rfl Rd.asg ?_; refine zN (zT (zS (zR (zO rfl Rd.asg ?_)))); refine zN (zT (zS (zS (zR (zA rfl ?_))))); refine zO rfl (Rd.max2 rfl rfl) ?_; refine zV rfl rfl ?_; refine zB rfl rfl (tyrow rfl) rfl ?_; refine zO rfl (Rd.lenSlice (tyrow rfl) rfl rfl) ?_; refine zO rfl (Rd.min2 rfl rfl) ?_
  refine zA rfl ?_; refine zN (zT (XA.block ?_))
  rw [hmin]
  refine XA.gen [(2, _), (4, _), (5, _), (12, _), (13, _)] ⟨(by with_reducible (conv => lhs; whnf)), (by with_reducible (conv => lhs; whnf)), (by with_reducible (conv => lhs; whnf)), (by with_reducible (conv => lhs; whnf)), (by with_reducible (conv => lhs; whnf)), trivial⟩ (fun δ => ?_)
  dsimp only [List.foldl]
  refine XA.loop [(5, 6), (13, 24)] (fun q : Nat × Int => [(13, i64 q.1), (5, i64 q.2)]) (fun q σ' Γ' => σ = σ' ∧ q.1 ≤ m ∧ q.2 = sizes (p.vars.take q.1) ∧ Γ' = [blk g2 [.slice pv p.vars.length cv, bs] 25]) (fun q => m - q.1) (0, 0) (by exact ⟨rfl, rfl, trivial⟩) (Δ0 := _) ?_ (⟨rfl, Nat.zero_le _, rfl, rfl⟩) ?_
  · exact zE
  rintro ⟨k, n⟩ δ _ _ ⟨rfl, hk, hn, rfl⟩
  dsimp only [ovr, List.foldl]
  have hk : k ≤ m := hk
  have hn : n = sizes (p.vars.take k) := hn
  have hsb := sizes_bound (p.vars.take k) (fun y hy => hz y (List.mem_of_mem_take hy))
  have hkl : (p.vars.take k).length = k := by rw [List.length_take]; omega
  refine zS (zR (zO rfl (Rd.lss rfl rfl) ?_)); refine zN (zT (zS ?_))
  refine XA.condp rfl (fun hlt => ?_) (fun hlt => ?_)
  · have hlt : k < m := by omega
    obtain ⟨x, hx⟩ : ∃ x, p.vars[k]? = some x := ⟨_, List.getElem?_eq_getElem (by omega)⟩
    obtain ⟨gg, o, row, rfl, ⟨rfl, ⟨hz0, hz1⟩, hnm⟩, hrl, hrow⟩ := hv.at hx
    have r1 : PRow σ gg (o + k * 2 + 1) [i64 x.size] := hrow.sub (j := 1) rfl
    have e1 := sizes_take p.vars k x hx
    have hxz := hz x (List.mem_of_getElem? hx)
    refine XA.skip (zT (zS (XA.block (zS (zR (zA rfl ?_)))))); refine zO rfl Rd.asg ?_; refine zN (zT (zR (zA rfl ?_))); refine zV rfl rfl ?_; refine zB rfl rfl (tyrow rfl) rfl ?_; refine zA rfl ?_; refine zO rfl (Rd.ixS rfl rfl) ?_; refine zV rfl rfl ?_; refine zB rfl rfl (tyrow rfl) rfl ?_
    refine zO rfl zI ?_; refine zO rfl Rd.asg ?_; refine zN (DA.inb_normal (zT (zR (zO rfl zI ?_)))); refine zA rfl ?_; refine zN (zT ?_)
    refine ⟨(Keep.upd (Keep.upd (Keep.upd (Keep.upd (Keep.upd (Keep.upd (Keep.upd (Keep.upd (Keep.upd (Keep.upd (Keep.upd (Keep.upd (Keep.upd (Keep.upd (Keep.upd (Keep.upd (Keep.hav (Keep.hav (Keep.refl _ _) rfl) rfl) rfl) rfl) rfl) rfl) rfl) rfl) rfl) rfl) rfl) rfl) rfl) rfl) rfl) rfl) rfl) rfl), (k + 1, n + x.size), _, zM, ?_, ⟨rfl, hlt, by simp only; omega, rfl⟩, (by simp only; omega)⟩
    · exact zE
  have hkm : k = m := by omega
  subst hkm
  refine XA.exit (DA.thn_exit (DA.thn_exit (DA.inb_same (zT (zS (zR (zA rfl ?_))))))); refine zO rfl Rd.asg ?_; refine zN (zT (XA.ret ?_))
  exact bodyA.ret (ResA.one rfl rfl) (Ent.nil _) ⟨by rw [← hn], rfl, rfl⟩
theorem cells_a (σ : PH) (cs : List Value) (p : Pr) (hp : PrAt σ cs p) (hz : ∀ x ∈ p.vars, 0 ≤ x.size ∧ x.size ≤ 1000) (hl : p.vars.length ≤ 1000) :
    CallsA Tryz.prog 26 #[.agg cs.toArray] σ [] (RetA fun r σ' Γ' => r = i64 (sizes p.vars) ∧ σ = σ' ∧ Γ' = []) := by
  have hp0 := hp
  obtain ⟨vs, bs, rfl, hv, hb⟩ := hp
  obtain ⟨pv, cv, rfl, hvl, hvm⟩ := hv.shape
  refine enterA1 Tryz.func26 rfl rfl rfl ?_
  refine zS (zR ?_)
  refine zw rfl WrA.bx ?_
  rintro _ _ _ ⟨g1, rfl, rfl, rfl⟩
  refine zO rfl Rd.asg ?_; refine zN (zT (zS (zR (zO rfl (Rd.ldA rfl) ?_)))); refine zV rfl rfl ?_; refine zB rfl rfl (tyrow rfl) rfl ?_; refine zO rfl (Rd.lenSlice (tyrow rfl) rfl rfl) ?_
  refine zw rfl (WrA.cE (cell_a σ _ p p.vars.length hp0 hz hl) rfl) ?_
  rintro _ _ _ ⟨_, ⟨rfl, rfl, rfl⟩, rfl⟩
  refine XOA.cl ?_; refine zO rfl Rd.asg ?_; refine zN (zT (XA.ret ?_))
  exact bodyA.ret (ResA.one rfl rfl) (Ent.nil _) ⟨by rw [cellOf, Int.toNat_natCast, List.take_length], rfl, rfl⟩
end Go.Proofs.YtmnmcjdgnpgchaaGreat

namespace Go.Proofs.YtmnmcjdgnpgchaaGreat
open Go X
set_option maxHeartbeats 1000000
end Go.Proofs.YtmnmcjdgnpgchaaGreat

namespace Go.Proofs.YtmnmcjdgnpgchaaGreat
open Go X
set_option maxHeartbeats 1000000
def insC (l : List In) : List Value := (l.map inC).flatten
theorem insC_snoc (l : List In) (x : In) : insC (l ++ [x]) = insC l ++ inC x := by simp [insC]
theorem insC_len (l : List In) : (insC l).length = l.length * 4 := by
  induction l with
  | nil => rfl
  | cons x l ih => simp only [insC, List.map_cons, List.flatten_cons, List.length_append, List.length_cons] at ih ⊢; rw [ih]; simp only [inC, List.length_cons, List.length_nil]; omega
theorem put_i (σ : PH) (b : Nat) (vs bs : Value) (p : Option Addr) (c : Nat) (L : List In) (x : In) (hn : L.length ≤ 100000) :
    CallsA Tryz.prog 47 #[ptr b, .agg (inC x).toArray] σ [blk b [vs, bs, .slice p L.length c] 100, lst 103 4 (.slice p L.length c) L.length (insC L)]
      (RetA fun v σ' Γ' => ∃ p' c', v = i64 L.length ∧ σ = σ' ∧ Γ' = [blk b [vs, bs, .slice p' (L ++ [x]).length c'] 100, lst 103 4 (.slice p' (L ++ [x]).length c') (L ++ [x]).length (insC (L ++ [x]))]) := by
  simp only [insC_snoc, List.length_append, List.length_singleton]
  unfold inC
  refine enterA2 Tryz.func47 rfl rfl rfl ?_
  refine zS (zR ?_)
  refine zw rfl WrA.bx ?_
  rintro _ _ _ ⟨g3, rfl, rfl, rfl⟩
  refine zO rfl Rd.asg ?_; refine zN (zT (zS ?_))
  refine XA.draw (by kernel_rfl) _ _ [7, 10] [(0, .pu), (1, .pu), (2, .pu), (3, .pu), (4, .rd), (5, .rd), (6, .wr), (7, .wr), (8, .pu), (9, .pu), (10, .wr)] (by kernel_rfl) (PH.sub.refl _) (Ent.sel (R := blk b _ _) zL (Ent.sel (R := blk g3 _ _) zL (Ent.nil _))) ?_
  refine zu rfl rfl Rd.mv ?_; refine zu rfl rfl Rd.mv ?_; refine zu rfl rfl (Rd.nilCheck rfl) ?_; refine zu rfl rfl (Rd.fA rfl) ?_; refine XPA.rd rfl rfl Gd.free (Rd.ldC rfl (tyrow rfl) rfl) ?_; refine XPA.rd rfl rfl Gd.free (Rd.ldA rfl) ?_
  refine XPA.wr0 rfl rfl Gd.free (WrA.bs1 (tyrow rfl) rfl (tyrow rfl)) ?_
  rintro _ _ _ ⟨g11, rfl, rfl, rfl⟩
  refine stays ?_
  refine XPA.wrZ0 rfl rfl Gd.free (by kernel_rfl) (WrA.ap1 (tyrow rfl) rfl (tyrow rfl) rfl rfl rfl) ?_
  rintro _ _ _ ⟨p12, c12, rfl, rfl, rfl⟩
  refine zu rfl rfl (Rd.nilCheck rfl) ?_; refine zu rfl rfl (Rd.fA rfl) ?_
  refine XPA.wrZ0 rfl rfl Gd.free (by kernel_rfl) (WrA.st (tyrow rfl) rfl) ?_
  rintro _ _ _ ⟨rfl, rfl, rfl⟩
  refine XPA.nil ?_; refine zT (zS (zR (zA rfl ?_))); refine zO rfl (Rd.nilCheck rfl) ?_; refine zV rfl rfl ?_; refine zB rfl rfl (tyrow rfl) rfl ?_; refine zO rfl (Rd.lenSlice (tyrow rfl) rfl rfl) ?_; refine zO rfl (by first | exact Rd.sbi rfl rfl | exact Rd.sub rfl rfl) ?_; refine zO rfl Rd.asg ?_
  refine zN (zT (XA.ret ?_))
  refine bodyA.ret (ResA.one rfl rfl) zE ⟨_, _, by show i64 (((L.length + 1 : Nat) : Int) - 1) = i64 L.length; congr 1; omega, rfl, rfl⟩
theorem cell_i (σ : PH) (b : Nat) (vs bs sl : Value) (pr : Pr) (v : Int) (hp : PrAt σ [vs, bs] pr) (hz : ∀ x ∈ pr.vars, 0 ≤ x.size ∧ x.size ≤ 1000) (hl : pr.vars.length ≤ 1000) :
    CallsA Tryz.prog 99 #[ptr b, i64 v] σ [blk b [vs, bs, sl] 100] (RetA fun r σ' Γ' => r = i64 (cellOf pr.vars v) ∧ σ = σ' ∧ Γ' = [blk b [vs, bs, sl] 100]) := by
  refine enterA2 Tryz.func99 rfl rfl rfl ?_
  refine zS (zR (zO rfl Rd.asg ?_)); refine zN (zT (zS (zR (zA rfl ?_)))); refine zO rfl (Rd.nilCheck rfl) ?_; refine zV rfl rfl ?_; refine zO rfl (Rd.ldA rfl) ?_; refine zA rfl ?_
  refine zw rfl (WrA.cE (cell_a σ [vs, bs] pr v hp hz hl) rfl) ?_
  rintro _ _ _ ⟨_, ⟨rfl, rfl, rfl⟩, rfl⟩
  refine XOA.cl ?_; refine zO rfl Rd.asg ?_; refine zN (zT (XA.ret ?_))
  exact bodyA.ret (ResA.one rfl rfl) zE ⟨rfl, rfl, rfl⟩
theorem exsN_mem : ∀ {l : List Ex} {x : Ex}, x ∈ l → exN x ≤ exsN l
  | y :: l, x, h => by
    rw [exsN]
    rcases List.mem_cons.1 h with rfl | h
    · omega
    · have := exsN_mem h; omega
def ExprI (σ : PH) (pr : Pr) (x : Ex) : Prop := ∀ (cs : List Value) (b : Nat) (pv : Option Addr) (cv : Nat) (bs : Value) (p : Option Addr) (c : Nat) (L : List In),
  PrAt σ [.slice pv pr.vars.length cv, bs] pr → ExAt σ cs x → ExV pr.vars.length x → L.length + exN x ≤ 100000 →
  CallsA Tryz.prog 98 #[ptr b, .agg cs.toArray] σ [blk b [.slice pv pr.vars.length cv, bs, .slice p L.length c] 100, lst 103 4 (.slice p L.length c) L.length (insC L)]
    (RetA fun v σ' Γ' => ∃ p' c', v = .tuple #[] ∧ σ = σ' ∧ Γ' = [blk b [.slice pv pr.vars.length cv, bs, .slice p' (L ++ exCode pr.vars x).length c'] 100, lst 103 4 (.slice p' (L ++ exCode pr.vars x).length c') (L ++ exCode pr.vars x).length (insC (L ++ exCode pr.vars x))])
theorem expr_i (σ : PH) (pr : Pr) (hz : ∀ x ∈ pr.vars, 0 ≤ x.size ∧ x.size ≤ 1000) (hvl : pr.vars.length ≤ 1000) (x : Ex) : ExprI σ pr x := by
  refine Ex.ind (P := ExprI σ pr) ?_ x
  intro op v k l ih cs b pv cv bs p c L hp hx hV hN
  obtain ⟨pl, cl, rfl, ho, hv, hk, hl⟩ := hx.inv
  simp only [Ex.op, Ex.v, Ex.n, Ex.l] at ho hv hk hl ⊢
  clear hx
  rw [ExV] at hV
  obtain ⟨hop, hlp, hvr, -, hsV⟩ := hV
  rw [exN] at hN
  have hlen : l.length ≤ 100000 := by have := exsN_len l; omega
  refine enterA2 Tryz.func98 rfl rfl rfl ?_
  refine zS (zR ?_)
  refine zw rfl WrA.bx ?_
  rintro _ _ _ ⟨g3, rfl, rfl, rfl⟩
  refine zN (zT (zS (zS (zR (zV rfl rfl ?_))))); refine zB rfl rfl (tyrow rfl) rfl ?_; refine zO rfl (Rd.lenSlice (tyrow rfl) rfl rfl) ?_; refine zA rfl ?_; refine zN (zT (XA.block ?_))
  refine XA.gen [(0, _), (3, _), (8, _), (9, _), (10, _)] ⟨(by with_reducible (conv => lhs; whnf)), (by with_reducible (conv => lhs; whnf)), (by with_reducible (conv => lhs; whnf)), (by with_reducible (conv => lhs; whnf)), (by with_reducible (conv => lhs; whnf)), trivial⟩ (fun δ => ?_)
  dsimp only [List.foldl]
  refine XA.loop [(5, 5), (10, 17)] (fun i : Nat => [(10, i64 i)]) (fun i σ' Γ' => σ = σ' ∧ i ≤ l.length ∧ ∃ (p' : Option Addr) (c' : Nat) (M : List In), M = L ++ exsCode pr.vars (l.take i) ∧ Γ' = [blk b [.slice pv pr.vars.length cv, bs, .slice p' M.length c'] 100, lst 103 4 (.slice p' M.length c') M.length (insC M), blk g3 [i64 op, i64 v, i64 k, .slice pl l.length cl] 93]) (fun i => l.length - i) 0 (by exact ⟨rfl, trivial⟩) (Δ0 := _) ?_ (⟨rfl, Nat.zero_le _, p, c, L, by simp [exsCode], rfl⟩) ?_
  · exact zE
  rintro i δ _ _ ⟨rfl, hi, p', c', M, hM, rfl⟩
  dsimp only [ovr, List.foldl]
  have hMl : M.length + exsN (l.drop i) + 1 ≤ 100000 := by
    have h2 := exsN_app (l.take i) (l.drop i); rw [List.take_append_drop] at h2
    rw [hM, List.length_append, exsCode_len]; omega
  refine zS (zR (zO rfl (Rd.lss rfl rfl) ?_)); refine zN (zT (zS ?_))
  refine XA.condp rfl (fun hlt => ?_) (fun hlt => ?_)
  · have hlt : i < l.length := by omega
    obtain ⟨x', hx'⟩ : ∃ x', l[i]? = some x' := ⟨_, List.getElem?_eq_getElem hlt⟩
    obtain ⟨g, o, row, rfl, hrx, hrl, hrow⟩ := hl.at hx'
    have hmem := List.mem_of_getElem? hx'
    have hone := hrx.ones
    have hdx : l.drop i = x' :: l.drop (i + 1) := drop_get hx'
    have hNx : exN x' ≤ exsN (l.drop i) := exsN_mem (by rw [hdx]; simp)
    refine XA.skip (zT (zS (XA.block (zS (zR (zO rfl (Rd.ixS rfl rfl) ?_)))))); refine zO rfl (Rd.ldA rfl) ?_
    refine zw rfl (WrA.alloc (tyrow rfl)) ?_
    rintro _ _ _ ⟨g5, rfl, rfl, rfl⟩
    refine zw rfl (WrA.st (tyrow rfl) rfl) ?_
    rintro _ _ _ ⟨rfl, rfl, rfl⟩
    refine zN (zT (zR (zA rfl ?_))); refine zO rfl (Rd.ldA rfl) ?_
    refine zw rfl (WrA.cE (ih x' hmem row b pv cv bs p' c' M hp hrx (hsV.mem x' hmem) (by omega)) rfl) ?_
    rintro _ _ _ ⟨_, ⟨p2, c2, rfl, rfl, rfl⟩, rfl⟩
    refine XOA.cl ?_; refine zN (DA.inb_normal (zT (zR (zO rfl zI ?_)))); refine zA rfl ?_; refine zN (zT ?_)
    refine ⟨(Keep.upd (Keep.upd (Keep.updO (Keep.upd (Keep.upd (Keep.updN (Keep.updO (Keep.upd (Keep.upd (Keep.upd (Keep.upd (Keep.hav (Keep.hav (Keep.refl _ _) rfl) rfl) rfl) rfl) rfl) rfl) rfl)) rfl) rfl) rfl) rfl) rfl), i + 1, _, zM, ?_, ⟨rfl, hlt, p2, c2, M ++ exCode pr.vars x', by rw [hM, exsCode_snoc _ hx', List.append_assoc], rfl⟩, (by omega)⟩
    · exact zE
  have hil : i = l.length := by omega
  subst hil
  rw [List.take_length] at hM
  refine XA.exit (DA.thn_exit (DA.thn_exit (DA.inb_same (zT (zS (zR (zV rfl rfl ?_))))))); refine zB rfl rfl (tyrow rfl) rfl ?_; refine zV rfl rfl ?_; refine zB rfl rfl (tyrow rfl) rfl ?_
  refine zO rfl (Rd.bl (fun _ _ => tyrow) rfl rfl rfl) ?_
  refine zw rfl (WrA.alloc (tyrow rfl)) ?_
  rintro _ _ _ ⟨g6, rfl, rfl, rfl⟩
  refine zw rfl (WrA.st (tyrow rfl) rfl) ?_
  rintro _ _ _ ⟨rfl, rfl, rfl⟩
  refine zN (zT (zS (zS (zR (zV rfl rfl ?_))))); refine zB rfl rfl (tyrow rfl) rfl ?_; refine zN (zT (XA.block (zS (zR (zO rfl (Rd.eql rfl rfl) ?_))))); refine zO rfl Rd.asg ?_; refine zN (zT ?_)
  have hMl2 : M.length ≤ 99999 := by omega
  have hfin : L ++ exCode pr.vars (.mk op v k l) = M ++ [opIn pr.vars op v k] := by rw [hM, exCode, List.append_assoc]
  rw [hfin]
  by_cases h2 : op = 2
  · subst h2
    have hop2 : opIn pr.vars 2 v k = ⟨2, cellOf pr.vars v, 0, k⟩ := rfl
    rw [hop2]
    refine XA.condT rfl rfl (zR (zA rfl ?_)); refine zV rfl rfl ?_; refine zB rfl rfl (tyrow rfl) rfl ?_
    refine zw rfl (WrA.cE (cell_i σ b _ _ _ pr v hp hz hvl) rfl) ?_
    rintro _ _ _ ⟨_, ⟨rfl, rfl, rfl⟩, rfl⟩
    refine XOA.cl ?_; refine zV rfl rfl ?_
    refine zw rfl (WrA.st (tyrow rfl) rfl) ?_
    rintro _ _ _ ⟨rfl, rfl, rfl⟩
    refine zN (DA.inb_normal (zT (zR (zA rfl ?_)))); refine zO rfl (Rd.ldA rfl) ?_
    refine zw rfl (WrA.cE (put_i σ b _ _ _ _ M ⟨2, cellOf pr.vars v, 0, k⟩ (by omega)) rfl) ?_
    rintro _ _ _ ⟨_, ⟨p7, c7, rfl, rfl, rfl⟩, rfl⟩
    refine XOA.cl ?_; refine zN ?_
    exact bodyA.normal (ResA.none rfl) zE ⟨p7, c7, rfl, rfl, rfl⟩
  · by_cases h3 : op = 3
    · subst h3
      obtain ⟨hv0, hv1⟩ := hvr (.inr rfl)
      obtain ⟨vx, hvx⟩ : ∃ vx, pr.vars[v.toNat]? = some vx := ⟨_, List.getElem?_eq_getElem (by omega)⟩
      have hop3 : opIn pr.vars 3 v k = ⟨3, cellOf pr.vars v, vx.size, k⟩ := by rw [opIn, sizeV, hvx]; rfl
      rw [hop3]
      have hp0 := hp
      obtain ⟨vs', bs', heq, hpv, hpb⟩ := hp
      simp only [List.cons.injEq, and_true] at heq
      obtain ⟨rfl, rfl⟩ := heq
      obtain ⟨gg, oo, rowv, rfl, ⟨rfl, ⟨hz0, hz1⟩, hnm⟩, hrl, hrow⟩ := hpv.at hvx
      have r1 : PRow σ gg (oo + v.toNat * 2 + 1) [i64 vx.size] := hrow.sub (j := 1) rfl
      refine XA.condF rfl (by decide) ?_; refine zS (zR (zO rfl (Rd.eql rfl rfl) ?_)); refine zO rfl Rd.asg ?_; refine zN (zT (XA.condT rfl rfl ?_))
      refine XA.draw (by kernel_rfl) _ _ [17] [(0, .pu), (1, .pu), (2, .rd), (4, .pu), (5, .pu), (6, .pu), (7, .pu), (8, .rd), (9, .pu), (10, .rd), (11, .pu), (12, .pu), (13, .rd), (3, .wr), (14, .pu), (15, .wr), (16, .pu), (17, .wr)] (by kernel_rfl) (PH.sub.refl _) (Ent.sel (R := blk b _ _) zL (Ent.sel (R := blk g3 _ _) zL (Ent.nil _))) ?_
      refine zu rfl rfl Rd.mv ?_; refine zu rfl rfl (Rd.fA rfl) ?_; refine XPA.rd rfl rfl Gd.free (Rd.ldC rfl (tyrow rfl) rfl) ?_; refine zu rfl rfl Rd.mv ?_; refine zu rfl rfl (Rd.nilCheck rfl) ?_; refine zu rfl rfl (Rd.fA rfl) ?_
      refine zu rfl rfl (Rd.fA rfl) ?_; refine XPA.rd rfl rfl Gd.free (Rd.ldC rfl (tyrow rfl) rfl) ?_; refine zu rfl rfl (Rd.fA rfl) ?_; refine XPA.rd rfl rfl Gd.free (Rd.ldC rfl (tyrow rfl) rfl) ?_; refine zu rfl rfl (Rd.ixS rfl rfl) ?_
      refine zu rfl rfl (Rd.fA rfl) ?_; refine XPA.rd rfl rfl Gd.free (Rd.ldC rfl (tyrow rfl) rfl) ?_
      refine XPA.wr0 rfl rfl Gd.free (WrA.cE (cell_i σ b _ _ _ pr v hp0 hz hvl) rfl) ?_
      rintro _ _ _ ⟨_, ⟨rfl, rfl, rfl⟩, rfl⟩
      refine stays (XPA.cl ?_)
      refine zu rfl rfl (Rd.fA rfl) ?_
      refine XPA.wr0 rfl rfl Gd.free (WrA.st (tyrow rfl) rfl) ?_
      rintro _ _ _ ⟨rfl, rfl, rfl⟩
      refine stays ?_
      refine zu rfl rfl (Rd.fA rfl) ?_
      refine XPA.wrZ0 rfl rfl Gd.free (by kernel_rfl) (WrA.st (tyrow rfl) rfl) ?_
      rintro _ _ _ ⟨rfl, rfl, rfl⟩
      refine XPA.nil ?_; refine DA.inb_normal (zT (zR (zA rfl ?_))); refine zO rfl (Rd.ldA rfl) ?_
      refine zw rfl (WrA.cE (put_i σ b _ _ _ _ M ⟨3, cellOf pr.vars v, vx.size, k⟩ (by omega)) rfl) ?_
      rintro _ _ _ ⟨_, ⟨p7, c7, rfl, rfl, rfl⟩, rfl⟩
      refine XOA.cl ?_; refine zN ?_
      exact bodyA.normal (ResA.none rfl) zE ⟨p7, c7, rfl, rfl, rfl⟩
    · have hop4 : opIn pr.vars op v k = ⟨op, 0, 0, k⟩ := by rw [opIn, if_neg (by omega), if_neg h3]
      rw [hop4]
      refine XA.condF rfl (decide_eq_false h2) (zS (zR (zO rfl (Rd.eql rfl rfl) ?_))); refine zO rfl Rd.asg ?_; refine zN (zT (XA.condF rfl (decide_eq_false h3) (XA.skip (DA.inb_normal (zT (zR (zA rfl ?_))))))); refine zO rfl (Rd.ldA rfl) ?_
      refine zw rfl (WrA.cE (put_i σ b _ _ _ _ M ⟨op, 0, 0, k⟩ (by omega)) rfl) ?_
      rintro _ _ _ ⟨_, ⟨p7, c7, rfl, rfl, rfl⟩, rfl⟩
      refine XOA.cl ?_; refine zN ?_
      exact bodyA.normal (ResA.none rfl) zE ⟨p7, c7, rfl, rfl, rfl⟩
end Go.Proofs.YtmnmcjdgnpgchaaGreat

namespace Go.Proofs.YtmnmcjdgnpgchaaGreat
open Go X
set_option maxHeartbeats 1000000
theorem lst_openW {e size n c : Nat} {p : Option Addr} {xs : List Value} (hn : 0 < n) : ∀ m, lst e size (.slice p n c) n xs m → ∃ x : Nat × List Value, (p = some ⟨x.1, 0, none⟩ ∧ n ≤ c ∧ c ≤ maxLen ∧ xs.length = n * size ∧ c * size ≤ (xs ++ x.2).length) ∧ Sat [blk x.1 (xs ++ x.2) e] m := by
  rintro m ⟨h1, ⟨h2, rfl⟩ | ⟨g, cap, h2, cur, h3, h4, h5, h6, h7⟩⟩
  · exact absurd hn (Nat.lt_irrefl _)
  · simp only [Value.slice.injEq] at h2
    obtain ⟨rfl, -, rfl⟩ := h2
    refine ⟨(g, cur.drop (n * size)), ⟨rfl, h4, h5, h1, ?_⟩, m, PH.none, ?_, trivial, PH.none_dis m, .refl m, PH.none_sub m⟩
    · rw [← h7, List.take_append_drop]; exact h6
    · rw [← h7, List.take_append_drop]; exact h3
theorem lst_close {e size n c g : Nat} {xs rest : List Value} (hl : xs.length = n * size) (hn : n ≤ c) (hm : c ≤ maxLen) (hc : c * size ≤ (xs ++ rest).length) : ∀ m, Sat [blk g (xs ++ rest) e] m → lst e size (.slice (some ⟨g, 0, none⟩) n c) n xs m := fun m h =>
  ⟨hl, .inr ⟨g, c, rfl, xs ++ rest, of_sat1 blk_mono h, hn, hm, hc, by rw [← hl]; simp⟩⟩
theorem insC_patch (A Z : List In) (x : In) (v : Int) (rest : List Value) : splice (insC (A ++ x :: Z) ++ rest) (A.length * 4 + 1) [i64 v] = insC (A ++ { x with a := v } :: Z) ++ rest := by
  have e1 : insC (A ++ x :: Z) ++ rest = (insC A ++ [i64 x.op]) ++ i64 x.a :: ([i64 x.b, i64 x.n] ++ insC Z ++ rest) := by simp [insC, inC]
  have e2 : insC (A ++ { x with a := v } :: Z) ++ rest = (insC A ++ [i64 x.op]) ++ i64 v :: ([i64 x.b, i64 x.n] ++ insC Z ++ rest) := by simp [insC, inC]
  have e3 : (insC A ++ [i64 x.op]).length = A.length * 4 + 1 := by rw [List.length_append, insC_len]; rfl
  rw [e1, e2, splice, ← e3, List.take_left, List.append_assoc]
  congr 1
  rw [List.length_singleton, List.drop_length_add_append]; rfl
theorem stCode_5 (vs : List Va) (v : Int) (e f : Ex) (body els : List St) (k : Nat) : stCode vs (.mk 5 v e f body els) k = exCode vs e ++ [⟨13, (k + (exCode vs e).length + 1 + (stsCode vs body (k + (exCode vs e).length + 1)).length + 1 : Nat), 0, 0⟩] ++ stsCode vs body (k + (exCode vs e).length + 1) ++ [⟨14, (k : Nat), 0, 0⟩] := by rw [stCode]; rfl
theorem stCode_6 (vs : List Va) (v : Int) (e f : Ex) (body els : List St) (k : Nat) : stCode vs (.mk 6 v e f body els) k = exCode vs e ++ [⟨13, (k + (exCode vs e).length + 1 + (stsCode vs body (k + (exCode vs e).length + 1)).length + 1 : Nat), 0, 0⟩] ++ stsCode vs body (k + (exCode vs e).length + 1) ++ [⟨14, (k + (exCode vs e).length + 1 + (stsCode vs body (k + (exCode vs e).length + 1)).length + 1 + (stsCode vs els (k + (exCode vs e).length + 1 + (stsCode vs body (k + (exCode vs e).length + 1)).length + 1)).length : Nat), 0, 0⟩] ++ stsCode vs els (k + (exCode vs e).length + 1 + (stsCode vs body (k + (exCode vs e).length + 1)).length + 1) := by rw [stCode]; rfl
def StmtI (σ : PH) (pr : Pr) (x : St) : Prop := ∀ (cs : List Value) (b : Nat) (pv : Option Addr) (cv : Nat) (bs : Value) (p : Option Addr) (c : Nat) (L : List In),
  PrAt σ [.slice pv pr.vars.length cv, bs] pr → StAt σ cs x → StV pr.vars.length x → L.length + stN x ≤ 100000 →
  CallsA Tryz.prog 74 #[ptr b, .agg cs.toArray] σ [blk b [.slice pv pr.vars.length cv, bs, .slice p (L).length c] 100, lst 103 4 (.slice p (L).length c) (L).length (insC (L))]
    (RetA fun v σ' Γ' => ∃ p' c', v = .tuple #[] ∧ σ = σ' ∧ Γ' = [blk b [.slice pv pr.vars.length cv, bs, .slice p' (L ++ stCode pr.vars x L.length).length c'] 100, lst 103 4 (.slice p' (L ++ stCode pr.vars x L.length).length c') (L ++ stCode pr.vars x L.length).length (insC (L ++ stCode pr.vars x L.length))])
theorem stsN_mem : ∀ {l : List St} {x : St}, x ∈ l → stN x ≤ stsN l
  | y :: l, x, h => by
    rw [stsN]
    rcases List.mem_cons.1 h with rfl | h
    · omega
    · have := stsN_mem h; omega
theorem list_i (σ : PH) (pr : Pr) (l : List St) (ih : ∀ x ∈ l, StmtI σ pr x) (sl : Value) (b : Nat) (pv : Option Addr) (cv : Nat) (bs : Value) (p : Option Addr) (c : Nat) (L : List In)
    (hp : PrAt σ [.slice pv pr.vars.length cv, bs] pr) (hl : PSl 12 StAt σ sl l) (hsV : StsV pr.vars.length l) (hN : L.length + stsN l ≤ 100000) :
    CallsA Tryz.prog 46 #[ptr b, sl] σ [blk b [.slice pv pr.vars.length cv, bs, .slice p (L).length c] 100, lst 103 4 (.slice p (L).length c) (L).length (insC (L))]
      (RetA fun v σ' Γ' => ∃ p' c', v = .tuple #[] ∧ σ = σ' ∧ Γ' = [blk b [.slice pv pr.vars.length cv, bs, .slice p' (L ++ stsCode pr.vars l L.length).length c'] 100, lst 103 4 (.slice p' (L ++ stsCode pr.vars l L.length).length c') (L ++ stsCode pr.vars l L.length).length (insC (L ++ stsCode pr.vars l L.length))]) := by
  obtain ⟨pl, cl, rfl, hle, hmx⟩ := hl.shape
  have hlen : l.length ≤ 100000 := by have := stsN_len l; omega
  refine enterA2 Tryz.func46 rfl rfl rfl ?_
  refine zS (zR (zA rfl ?_)); refine zO rfl (Rd.lenSlice (tyrow rfl) rfl rfl) ?_; refine zA rfl ?_; refine zN (zT (XA.block ?_))
  refine XA.gen [(0, _), (6, _), (7, _), (8, _)] ⟨(by with_reducible (conv => lhs; whnf)), (by with_reducible (conv => lhs; whnf)), (by with_reducible (conv => lhs; whnf)), (by with_reducible (conv => lhs; whnf)), trivial⟩ (fun δ => ?_)
  dsimp only [List.foldl]
  refine XA.loop [(5, 5), (8, 15)] (fun i : Nat => [(8, i64 i)]) (fun i σ' Γ' => σ = σ' ∧ i ≤ l.length ∧ ∃ (p' : Option Addr) (c' : Nat) (M : List In), M = L ++ stsCode pr.vars (l.take i) L.length ∧ Γ' = [blk b [.slice pv pr.vars.length cv, bs, .slice p' (M).length c'] 100, lst 103 4 (.slice p' (M).length c') (M).length (insC (M))]) (fun i => l.length - i) 0 (by exact ⟨rfl, trivial⟩) (Δ0 := _) ?_ (⟨rfl, Nat.zero_le _, p, c, L, by simp [stsCode], rfl⟩) ?_
  · exact zE
  rintro i δ _ _ ⟨rfl, hi, p', c', M, hM, rfl⟩
  dsimp only [ovr, List.foldl]
  have hMl : M.length + stsN (l.drop i) ≤ 100000 := by
    have h2 := stsN_app (l.take i) (l.drop i); rw [List.take_append_drop] at h2
    have h3 := stsCode_len pr.vars (l.take i) L.length
    rw [hM, List.length_append]; omega
  refine zS (zR (zO rfl (Rd.lss rfl rfl) ?_)); refine zN (zT (zS ?_))
  refine XA.condp rfl (fun hlt => ?_) (fun hlt => ?_)
  · have hlt : i < l.length := by omega
    obtain ⟨x', hx'⟩ : ∃ x', l[i]? = some x' := ⟨_, List.getElem?_eq_getElem hlt⟩
    obtain ⟨g, o, row, rfl, hrx, hrl, hrow⟩ := hl.at hx'
    have hmem := List.mem_of_getElem? hx'
    have hone := hrx.ones
    have hdx : l.drop i = x' :: l.drop (i + 1) := drop_get hx'
    have hNx : stN x' ≤ stsN (l.drop i) := stsN_mem (by rw [hdx]; simp)
    refine XA.skip (zT (zS (XA.block (zS (zR (zO rfl (Rd.ixS rfl rfl) ?_)))))); refine zO rfl (Rd.ldA rfl) ?_
    refine zw rfl (WrA.alloc (tyrow rfl)) ?_
    rintro _ _ _ ⟨g5, rfl, rfl, rfl⟩
    refine zw rfl (WrA.st (tyrow rfl) rfl) ?_
    rintro _ _ _ ⟨rfl, rfl, rfl⟩
    refine zN (zT (zR (zA rfl ?_))); refine zO rfl (Rd.ldA rfl) ?_
    refine zw rfl (WrA.cE (ih x' hmem row b pv cv bs p' c' M hp hrx (hsV.mem x' hmem) (by omega)) rfl) ?_
    rintro _ _ _ ⟨_, ⟨p2, c2, rfl, rfl, rfl⟩, rfl⟩
    refine XOA.cl ?_; refine zN (DA.inb_normal (zT (zR (zO rfl zI ?_)))); refine zA rfl ?_; refine zN (zT ?_)
    refine ⟨(Keep.upd (Keep.upd (Keep.updO (Keep.upd (Keep.upd (Keep.updN (Keep.updO (Keep.upd (Keep.upd (Keep.upd (Keep.upd (Keep.hav (Keep.hav (Keep.refl _ _) rfl) rfl) rfl) rfl) rfl) rfl) rfl)) rfl) rfl) rfl) rfl) rfl), i + 1, _, zM, ?_, ⟨rfl, hlt, p2, c2, M ++ stCode pr.vars x' M.length, by rw [hM, stsCode_snoc _ hx', List.append_assoc, List.length_append], rfl⟩, (by omega)⟩
    · exact zE
  have hil : i = l.length := by omega
  subst hil
  rw [List.take_length] at hM
  rw [← hM]
  refine XA.exit (DA.thn_exit (DA.thn_exit (DA.inb_same ?_)))
  exact bodyA.normal (ResA.none rfl) zE ⟨p', c', rfl, rfl, rfl⟩
theorem stmt_i (σ : PH) (pr : Pr) (hz : ∀ x ∈ pr.vars, 0 ≤ x.size ∧ x.size ≤ 1000) (hvl : pr.vars.length ≤ 1000) (x : St) : StmtI σ pr x := by
  refine St.ind (P := StmtI σ pr) ?_ x
  intro op v ex fx body els ih jh cs b pv cv bs p c L hp hx hV hN
  obtain ⟨pe, de, pf, df, pb, cb, pl, cl, rfl, -, -, hxe, hxf, hxb, hxl⟩ := hx.inv12
  simp only [St.op, St.v, St.e, St.f, St.body, St.els] at hxe hxf hxb hxl ⊢
  clear hx
  rw [StV] at hV
  obtain ⟨hop, hv, he, hf, -, -, hsb, hse⟩ := hV
  rw [stN] at hN
  have hlE := exCode_len pr.vars ex
  have hlF := exCode_len pr.vars fx
  have e1 := exN_pos ex
  have e2 := exN_pos fx
  have hops : op = 1 ∨ op = 2 ∨ op = 3 ∨ op = 4 ∨ op = 7 ∨ op = 5 ∨ op = 6 := by omega
  rcases hops with rfl | rfl | rfl | rfl | rfl | h56
  · have hc : stCode pr.vars (.mk 1 v ex fx body els) L.length = exCode pr.vars ex ++ [⟨9, cellOf pr.vars v, 0, 0⟩] := by rw [stCode]; rfl
    rw [hc, ← List.append_assoc]
    refine enterA2 Tryz.func74 rfl rfl rfl ?_
    refine zS (zR ?_)
    refine zw rfl WrA.bx ?_
    rintro _ _ _ ⟨g3, rfl, rfl, rfl⟩
    refine zN (zT (zS (zR (zA rfl ?_)))); refine zO rfl (Rd.nilCheck rfl) ?_; refine zV rfl rfl ?_; refine zB rfl rfl (tyrow rfl) rfl ?_; refine zO rfl (Rd.lenSlice (tyrow rfl) rfl rfl) ?_; refine zO rfl Rd.asg ?_; refine zN (zT (zS (zS (zR (zV rfl rfl ?_))))); refine zB rfl rfl (tyrow rfl) rfl ?_
    refine zw rfl (WrA.cE (chas_a σ 1) rfl) ?_
    rintro _ _ _ ⟨_, ⟨rfl, rfl, rfl⟩, rfl⟩
    refine XOA.cl ?_; refine zA rfl ?_; refine zO rfl (Rd.extract rfl rfl) ?_; refine zO rfl (Rd.extract rfl rfl) ?_; refine zO rfl (Rd.extract rfl rfl) ?_; refine zO rfl (Rd.extract rfl rfl) ?_; refine zO rfl (Rd.extract rfl rfl) ?_; refine zO rfl Rd.asg ?_; refine zO rfl Rd.asg ?_
    refine zO rfl Rd.asg ?_; refine zO rfl Rd.asg ?_; refine zO rfl Rd.asg ?_; refine zN (zT (zS (zR (zA rfl ?_)))); refine zN (zT (XA.condT rfl rfl (zR (zA rfl ?_)))); refine zV rfl rfl ?_; refine zO rfl (Rd.ldA rfl) ?_
    refine zw rfl (WrA.cE (expr_i σ pr hz hvl ex _ b pv cv bs p c (L) hp hxe (he rfl).1 (by first | omega | (simp only [List.length_append, List.length_singleton]; omega))) rfl) ?_
    rintro _ _ _ ⟨_, ⟨p2, c2, rfl, rfl, rfl⟩, rfl⟩
    refine XOA.cl ?_; refine zN (zT (zS (zR (zV rfl rfl ?_)))); refine zB rfl rfl (tyrow rfl) rfl ?_; refine zN (zT (XA.block (zS (zR (zO rfl (Rd.eql rfl rfl) ?_))))); refine zO rfl Rd.asg ?_; refine zN (zT (XA.condT rfl rfl (zR (zA rfl ?_)))); refine zA rfl ?_; refine zV rfl rfl ?_
    refine zB rfl rfl (tyrow rfl) rfl ?_
    refine zw rfl (WrA.cE (cell_i σ b _ _ _ pr v hp hz hvl) rfl) ?_
    rintro _ _ _ ⟨_, ⟨rfl, rfl, rfl⟩, rfl⟩
    refine XOA.cl ?_
    refine zO rfl (Rd.bl (fun _ _ => tyrow) rfl rfl rfl) ?_
    refine zw rfl (WrA.cE (put_i σ b _ _ _ _ (L ++ exCode pr.vars ex) ⟨9, cellOf pr.vars v, 0, 0⟩ (by first | omega | (simp only [List.length_append, List.length_singleton]; omega))) rfl) ?_
    rintro _ _ _ ⟨_, ⟨p7, c7, rfl, rfl, rfl⟩, rfl⟩
    refine XOA.cl ?_; refine zN (DA.inb_normal ?_)
    exact bodyA.normal (ResA.none rfl) zE ⟨p7, c7, rfl, rfl, rfl⟩
  · obtain ⟨hv0, hv1⟩ := hv rfl
    obtain ⟨vx, hvx⟩ : ∃ vx, pr.vars[v.toNat]? = some vx := ⟨_, List.getElem?_eq_getElem (by omega)⟩
    have hc : stCode pr.vars (.mk 2 v ex fx body els) L.length = exCode pr.vars ex ++ exCode pr.vars fx ++ [⟨10, cellOf pr.vars v, vx.size, 0⟩] := by rw [stCode, sizeV, hvx]; rfl
    rw [hc, ← List.append_assoc, ← List.append_assoc]
    have hp0 := hp
    obtain ⟨vs', bs', heq, hpv, hpb⟩ := hp0
    simp only [List.cons.injEq, and_true] at heq
    obtain ⟨rfl, rfl⟩ := heq
    obtain ⟨gg, oo, rowv, rfl, ⟨rfl, ⟨hz0, hz1⟩, hnm⟩, hrl, hrow⟩ := hpv.at hvx
    have r1 : PRow σ gg (oo + v.toNat * 2 + 1) [i64 vx.size] := hrow.sub (j := 1) rfl
    refine enterA2 Tryz.func74 rfl rfl rfl ?_
    refine zS (zR ?_)
    refine zw rfl WrA.bx ?_
    rintro _ _ _ ⟨g3, rfl, rfl, rfl⟩
    refine zN (zT (zS (zR (zA rfl ?_)))); refine zO rfl (Rd.nilCheck rfl) ?_; refine zV rfl rfl ?_; refine zB rfl rfl (tyrow rfl) rfl ?_; refine zO rfl (Rd.lenSlice (tyrow rfl) rfl rfl) ?_; refine zO rfl Rd.asg ?_; refine zN (zT (zS (zS (zR (zV rfl rfl ?_))))); refine zB rfl rfl (tyrow rfl) rfl ?_
    refine zw rfl (WrA.cE (chas_a σ 2) rfl) ?_
    rintro _ _ _ ⟨_, ⟨rfl, rfl, rfl⟩, rfl⟩
    refine XOA.cl ?_; refine zA rfl ?_; refine zO rfl (Rd.extract rfl rfl) ?_; refine zO rfl (Rd.extract rfl rfl) ?_; refine zO rfl (Rd.extract rfl rfl) ?_; refine zO rfl (Rd.extract rfl rfl) ?_; refine zO rfl (Rd.extract rfl rfl) ?_; refine zO rfl Rd.asg ?_; refine zO rfl Rd.asg ?_
    refine zO rfl Rd.asg ?_; refine zO rfl Rd.asg ?_; refine zO rfl Rd.asg ?_; refine zN (zT (zS (zR (zA rfl ?_)))); refine zN (zT (XA.condT rfl rfl (zR (zA rfl ?_)))); refine zV rfl rfl ?_; refine zO rfl (Rd.ldA rfl) ?_
    refine zw rfl (WrA.cE (expr_i σ pr hz hvl ex _ b _ cv bs p c (L) hp hxe (he rfl).1 (by first | omega | (simp only [List.length_append, List.length_singleton]; omega))) rfl) ?_
    rintro _ _ _ ⟨_, ⟨p2, c2, rfl, rfl, rfl⟩, rfl⟩
    refine XOA.cl ?_; refine zN (zT (zS (zR (zV rfl rfl ?_)))); refine zB rfl rfl (tyrow rfl) rfl ?_; refine zN (zT (XA.block (zS (zR (zO rfl (Rd.eql rfl rfl) ?_))))); refine zO rfl Rd.asg ?_; refine zN (zT (XA.condF rfl rfl (zS (zR (zO rfl (Rd.eql rfl rfl) ?_))))); refine zO rfl Rd.asg ?_
    refine zN (zT (XA.condT rfl rfl (zS (zR (zA rfl ?_))))); refine zV rfl rfl ?_; refine zO rfl (Rd.ldA rfl) ?_
    refine zw rfl (WrA.cE (expr_i σ pr hz hvl fx _ b _ cv bs p2 c2 (L ++ exCode pr.vars ex) hp hxf (hf rfl).1 (by first | omega | (simp only [List.length_append, List.length_singleton]; omega))) rfl) ?_
    rintro _ _ _ ⟨_, ⟨p3, c3, rfl, rfl, rfl⟩, rfl⟩
    refine XOA.cl ?_; refine zN (zT ?_)
    refine XA.draw (by kernel_rfl) _ _ [16] [(0, .pu), (1, .pu), (2, .pu), (3, .rd), (5, .pu), (6, .pu), (7, .pu), (8, .pu), (9, .rd), (10, .pu), (11, .rd), (12, .pu), (13, .pu), (14, .rd), (4, .wr), (15, .pu), (16, .wr)] (by kernel_rfl) (PH.sub.refl _) (Ent.sel (R := blk b _ _) zL (Ent.sel (R := blk g3 _ _) zL (Ent.nil _))) ?_
    refine zu rfl rfl Rd.mv ?_; refine zu rfl rfl Rd.mv ?_; refine zu rfl rfl (Rd.fA rfl) ?_; refine XPA.rd rfl rfl Gd.free (Rd.ldC rfl (tyrow rfl) rfl) ?_; refine zu rfl rfl Rd.mv ?_; refine zu rfl rfl (Rd.nilCheck rfl) ?_
    refine zu rfl rfl (Rd.fA rfl) ?_; refine zu rfl rfl (Rd.fA rfl) ?_; refine XPA.rd rfl rfl Gd.free (Rd.ldC rfl (tyrow rfl) rfl) ?_; refine zu rfl rfl (Rd.fA rfl) ?_; refine XPA.rd rfl rfl Gd.free (Rd.ldC rfl (tyrow rfl) rfl) ?_
    refine zu rfl rfl (Rd.ixS rfl rfl) ?_; refine zu rfl rfl (Rd.fA rfl) ?_; refine XPA.rd rfl rfl Gd.free (Rd.ldC rfl (tyrow rfl) rfl) ?_
    refine XPA.wr0 rfl rfl Gd.free (WrA.cE (cell_i σ b _ _ _ pr v hp hz hvl) rfl) ?_
    rintro _ _ _ ⟨_, ⟨rfl, rfl, rfl⟩, rfl⟩
    refine stays (XPA.cl ?_)
    refine zu rfl rfl (Rd.bl (fun _ _ => tyrow) rfl rfl rfl) ?_
    refine XPA.wrZ0 rfl rfl Gd.free (by kernel_rfl) (WrA.cE (put_i σ b _ _ _ _ (L ++ exCode pr.vars ex ++ exCode pr.vars fx) ⟨10, cellOf pr.vars v, vx.size, 0⟩ (by first | omega | (simp only [List.length_append, List.length_singleton]; omega))) rfl) ?_
    rintro _ _ _ ⟨_, ⟨p7, c7, rfl, rfl, rfl⟩, rfl⟩
    refine XPA.cl ?_; refine XPA.nil ?_; refine DA.inb_normal ?_
    exact bodyA.normal (ResA.none rfl) zE ⟨p7, c7, rfl, rfl, rfl⟩
  · have hc : stCode pr.vars (.mk 3 v ex fx body els) L.length = exCode pr.vars ex ++ [⟨11, 0, 0, 0⟩] := by rw [stCode]; rfl
    rw [hc, ← List.append_assoc]
    refine enterA2 Tryz.func74 rfl rfl rfl ?_
    refine zS (zR ?_)
    refine zw rfl WrA.bx ?_
    rintro _ _ _ ⟨g3, rfl, rfl, rfl⟩
    refine zN (zT (zS (zR (zA rfl ?_)))); refine zO rfl (Rd.nilCheck rfl) ?_; refine zV rfl rfl ?_; refine zB rfl rfl (tyrow rfl) rfl ?_; refine zO rfl (Rd.lenSlice (tyrow rfl) rfl rfl) ?_; refine zO rfl Rd.asg ?_; refine zN (zT (zS (zS (zR (zV rfl rfl ?_))))); refine zB rfl rfl (tyrow rfl) rfl ?_
    refine zw rfl (WrA.cE (chas_a σ 3) rfl) ?_
    rintro _ _ _ ⟨_, ⟨rfl, rfl, rfl⟩, rfl⟩
    refine XOA.cl ?_; refine zA rfl ?_; refine zO rfl (Rd.extract rfl rfl) ?_; refine zO rfl (Rd.extract rfl rfl) ?_; refine zO rfl (Rd.extract rfl rfl) ?_; refine zO rfl (Rd.extract rfl rfl) ?_; refine zO rfl (Rd.extract rfl rfl) ?_; refine zO rfl Rd.asg ?_; refine zO rfl Rd.asg ?_
    refine zO rfl Rd.asg ?_; refine zO rfl Rd.asg ?_; refine zO rfl Rd.asg ?_; refine zN (zT (zS (zR (zA rfl ?_)))); refine zN (zT (XA.condT rfl rfl (zR (zA rfl ?_)))); refine zV rfl rfl ?_; refine zO rfl (Rd.ldA rfl) ?_
    refine zw rfl (WrA.cE (expr_i σ pr hz hvl ex _ b pv cv bs p c (L) hp hxe (he rfl).1 (by first | omega | (simp only [List.length_append, List.length_singleton]; omega))) rfl) ?_
    rintro _ _ _ ⟨_, ⟨p2, c2, rfl, rfl, rfl⟩, rfl⟩
    refine XOA.cl ?_; refine zN (zT (zS (zR (zV rfl rfl ?_)))); refine zB rfl rfl (tyrow rfl) rfl ?_; refine zN (zT (XA.block (zS (zR (zO rfl (Rd.eql rfl rfl) ?_))))); refine zO rfl Rd.asg ?_; refine zN (zT (XA.condF rfl rfl (zS (zR (zO rfl (Rd.eql rfl rfl) ?_))))); refine zO rfl Rd.asg ?_
    refine zN (zT (XA.condF rfl rfl (zS (zR (zO rfl (Rd.eql rfl rfl) ?_))))); refine zO rfl Rd.asg ?_; refine zN (zT (XA.condT rfl rfl (zR (zA rfl ?_))))
    refine zO rfl (Rd.bl (fun _ _ => tyrow) rfl rfl rfl) ?_
    refine zw rfl (WrA.cE (put_i σ b _ _ _ _ (L ++ exCode pr.vars ex) ⟨11, 0, 0, 0⟩ (by first | omega | (simp only [List.length_append, List.length_singleton]; omega))) rfl) ?_
    rintro _ _ _ ⟨_, ⟨p7, c7, rfl, rfl, rfl⟩, rfl⟩
    refine XOA.cl ?_; refine zN (DA.inb_normal ?_)
    exact bodyA.normal (ResA.none rfl) zE ⟨p7, c7, rfl, rfl, rfl⟩
  · have hc : stCode pr.vars (.mk 4 v ex fx body els) L.length = [⟨12, cellOf pr.vars v, 0, 0⟩] := by rw [stCode]; rfl
    rw [hc]
    refine enterA2 Tryz.func74 rfl rfl rfl ?_
    refine zS (zR ?_)
    refine zw rfl WrA.bx ?_
    rintro _ _ _ ⟨g3, rfl, rfl, rfl⟩
    refine zN (zT (zS (zR (zA rfl ?_)))); refine zO rfl (Rd.nilCheck rfl) ?_; refine zV rfl rfl ?_; refine zB rfl rfl (tyrow rfl) rfl ?_; refine zO rfl (Rd.lenSlice (tyrow rfl) rfl rfl) ?_; refine zO rfl Rd.asg ?_; refine zN (zT (zS (zS (zR (zV rfl rfl ?_))))); refine zB rfl rfl (tyrow rfl) rfl ?_
    refine zw rfl (WrA.cE (chas_a σ 4) rfl) ?_
    rintro _ _ _ ⟨_, ⟨rfl, rfl, rfl⟩, rfl⟩
    refine XOA.cl ?_; refine zA rfl ?_; refine zO rfl (Rd.extract rfl rfl) ?_; refine zO rfl (Rd.extract rfl rfl) ?_; refine zO rfl (Rd.extract rfl rfl) ?_; refine zO rfl (Rd.extract rfl rfl) ?_; refine zO rfl (Rd.extract rfl rfl) ?_; refine zO rfl Rd.asg ?_; refine zO rfl Rd.asg ?_
    refine zO rfl Rd.asg ?_; refine zO rfl Rd.asg ?_; refine zO rfl Rd.asg ?_; refine zN (zT (zS (zR (zA rfl ?_)))); refine zN (zT (XA.condF rfl rfl (XA.skip (zT (zS (zR (zV rfl rfl ?_))))))); refine zB rfl rfl (tyrow rfl) rfl ?_; refine zN (zT (XA.block (zS (zR (zO rfl (Rd.eql rfl rfl) ?_)))))
    refine zO rfl Rd.asg ?_; refine zN (zT (XA.condF rfl rfl (zS (zR (zO rfl (Rd.eql rfl rfl) ?_))))); refine zO rfl Rd.asg ?_; refine zN (zT (XA.condF rfl rfl (zS (zR (zO rfl (Rd.eql rfl rfl) ?_))))); refine zO rfl Rd.asg ?_; refine zN (zT (XA.condF rfl rfl (zS (zR (zO rfl (Rd.eql rfl rfl) ?_)))))
    refine zO rfl Rd.asg ?_; refine zN (zT (XA.condT rfl rfl (zR (zA rfl ?_)))); refine zA rfl ?_; refine zV rfl rfl ?_; refine zB rfl rfl (tyrow rfl) rfl ?_
    refine zw rfl (WrA.cE (cell_i σ b _ _ _ pr v hp hz hvl) rfl) ?_
    rintro _ _ _ ⟨_, ⟨rfl, rfl, rfl⟩, rfl⟩
    refine XOA.cl ?_
    refine zO rfl (Rd.bl (fun _ _ => tyrow) rfl rfl rfl) ?_
    refine zw rfl (WrA.cE (put_i σ b _ _ _ _ (L) ⟨12, cellOf pr.vars v, 0, 0⟩ (by first | omega | (simp only [List.length_append, List.length_singleton]; omega))) rfl) ?_
    rintro _ _ _ ⟨_, ⟨p7, c7, rfl, rfl, rfl⟩, rfl⟩
    refine XOA.cl ?_; refine zN (DA.inb_normal ?_)
    exact bodyA.normal (ResA.none rfl) zE ⟨p7, c7, rfl, rfl, rfl⟩
  · have hc : stCode pr.vars (.mk 7 v ex fx body els) L.length = [⟨15, 0, 0, 0⟩] := by rw [stCode]; rfl
    rw [hc]
    refine enterA2 Tryz.func74 rfl rfl rfl ?_
    refine zS (zR ?_)
    refine zw rfl WrA.bx ?_
    rintro _ _ _ ⟨g3, rfl, rfl, rfl⟩
    refine zN (zT (zS (zR (zA rfl ?_)))); refine zO rfl (Rd.nilCheck rfl) ?_; refine zV rfl rfl ?_; refine zB rfl rfl (tyrow rfl) rfl ?_; refine zO rfl (Rd.lenSlice (tyrow rfl) rfl rfl) ?_; refine zO rfl Rd.asg ?_; refine zN (zT (zS (zS (zR (zV rfl rfl ?_))))); refine zB rfl rfl (tyrow rfl) rfl ?_
    refine zw rfl (WrA.cE (chas_a σ 7) rfl) ?_
    rintro _ _ _ ⟨_, ⟨rfl, rfl, rfl⟩, rfl⟩
    refine XOA.cl ?_; refine zA rfl ?_; refine zO rfl (Rd.extract rfl rfl) ?_; refine zO rfl (Rd.extract rfl rfl) ?_; refine zO rfl (Rd.extract rfl rfl) ?_; refine zO rfl (Rd.extract rfl rfl) ?_; refine zO rfl (Rd.extract rfl rfl) ?_; refine zO rfl Rd.asg ?_; refine zO rfl Rd.asg ?_
    refine zO rfl Rd.asg ?_; refine zO rfl Rd.asg ?_; refine zO rfl Rd.asg ?_; refine zN (zT (zS (zR (zA rfl ?_)))); refine zN (zT (XA.condF rfl rfl (XA.skip (zT (zS (zR (zV rfl rfl ?_))))))); refine zB rfl rfl (tyrow rfl) rfl ?_; refine zN (zT (XA.block (zS (zR (zO rfl (Rd.eql rfl rfl) ?_)))))
    refine zO rfl Rd.asg ?_; refine zN (zT (XA.condF rfl rfl (zS (zR (zO rfl (Rd.eql rfl rfl) ?_))))); refine zO rfl Rd.asg ?_; refine zN (zT (XA.condF rfl rfl (zS (zR (zO rfl (Rd.eql rfl rfl) ?_))))); refine zO rfl Rd.asg ?_; refine zN (zT (XA.condF rfl rfl (zS (zR (zO rfl (Rd.eql rfl rfl) ?_)))))
    refine zO rfl Rd.asg ?_; refine zN (zT (XA.condF rfl rfl (zS (zS (zR (zO rfl (Rd.eql rfl rfl) ?_)))))); refine zO rfl Rd.asg ?_; refine zN (zT (XA.condF rfl rfl (zR (zO rfl (Rd.eql rfl rfl) ?_)))); refine zO rfl Rd.asg ?_; refine zN (zT (XA.condF rfl rfl (zS (zR (zO rfl (Rd.eql rfl rfl) ?_)))))
    refine zO rfl Rd.asg ?_; refine zN (zT (XA.condT rfl rfl (zR (zA rfl ?_))))
    refine zO rfl (Rd.bl (fun _ _ => tyrow) rfl rfl rfl) ?_
    refine zw rfl (WrA.cE (put_i σ b _ _ _ _ (L) ⟨15, 0, 0, 0⟩ (by first | omega | (simp only [List.length_append, List.length_singleton]; omega))) rfl) ?_
    rintro _ _ _ ⟨_, ⟨p7, c7, rfl, rfl, rfl⟩, rfl⟩
    refine XOA.cl ?_; refine zN (DA.inb_normal ?_)
    exact bodyA.normal (ResA.none rfl) zE ⟨p7, c7, rfl, rfl, rfl⟩
  · rcases h56 with rfl | rfl
    · obtain ⟨L1, hL1⟩ : ∃ L1, L1 = L ++ exCode pr.vars ex := ⟨_, rfl⟩
      have hL1l : L1.length = L.length + exN ex := by rw [hL1, List.length_append, hlE]
      obtain ⟨B, hB⟩ : ∃ B, B = stsCode pr.vars body (L1 ++ [(⟨13, 0, 0, 0⟩ : In)]).length := ⟨_, rfl⟩
      have hBl : B.length ≤ stsN body := by rw [hB]; exact stsCode_len _ _ _
      have hB2 : stsCode pr.vars body (L.length + (exCode pr.vars ex).length + 1) = B := by rw [hB]; congr 1; rw [List.length_append, hL1l, hlE]; rfl
      obtain ⟨O, hO⟩ : ∃ O, O = L1 ++ [(⟨13, 0, 0, 0⟩ : In)] ++ B := ⟨_, rfl⟩
      have hOl : O.length = L1.length + B.length + 1 := by rw [hO]; simp only [List.length_append, List.length_singleton]; omega
      obtain ⟨M, hM⟩ : ∃ M, M = O ++ [(⟨14, L.length, 0, 0⟩ : In)] := ⟨_, rfl⟩
      have hMl : M.length = L1.length + B.length + 2 := by rw [hM, hO]; simp only [List.length_append, List.length_singleton]; omega
      obtain ⟨M', hM'⟩ : ∃ M', M' = L1 ++ [(⟨13, M.length, 0, 0⟩ : In)] ++ B ++ [⟨14, L.length, 0, 0⟩] := ⟨_, rfl⟩
      have hMl' : M'.length = M.length := by rw [hMl, hM']; simp only [List.length_append, List.length_singleton]; omega
      have hspl0 : ∀ rest : List Value, splice (insC M ++ rest) (L1.length * 4 + 1) [i64 M.length] = insC M' ++ rest := fun rest => by
        have := insC_patch L1 (B ++ [⟨14, L.length, 0, 0⟩]) ⟨13, 0, 0, 0⟩ M.length rest
        rw [hM', hM, hO]; simp only [List.append_assoc, List.singleton_append, List.cons_append, List.nil_append] at this ⊢
        rw [hM, hO] at this; simpa only [List.append_assoc, List.singleton_append, List.cons_append, List.nil_append] using this
      have hc : L ++ stCode pr.vars (.mk 5 v ex fx body els) L.length = M' := by
        rw [stCode_5, hB2, hM', hMl, hL1l, hL1, hlE]
        simp only [List.append_assoc]
        rw [show L.length + exN ex + 1 + B.length + 1 = L.length + exN ex + B.length + 2 by omega]
      rw [hc]
      refine enterA2 Tryz.func74 rfl rfl rfl ?_
      refine zS (zR ?_)
      refine zw rfl WrA.bx ?_
      rintro _ _ _ ⟨g3, rfl, rfl, rfl⟩
      refine zN (zT (zS (zR (zA rfl ?_)))); refine zO rfl (Rd.nilCheck rfl) ?_; refine zV rfl rfl ?_; refine zB rfl rfl (tyrow rfl) rfl ?_; refine zO rfl (Rd.lenSlice (tyrow rfl) rfl rfl) ?_; refine zO rfl Rd.asg ?_; refine zN (zT (zS (zS (zR (zV rfl rfl ?_))))); refine zB rfl rfl (tyrow rfl) rfl ?_
      refine zw rfl (WrA.cE (chas_a σ 5) rfl) ?_
      rintro _ _ _ ⟨_, ⟨rfl, rfl, rfl⟩, rfl⟩
      refine XOA.cl ?_; refine zA rfl ?_; refine zO rfl (Rd.extract rfl rfl) ?_; refine zO rfl (Rd.extract rfl rfl) ?_; refine zO rfl (Rd.extract rfl rfl) ?_; refine zO rfl (Rd.extract rfl rfl) ?_; refine zO rfl (Rd.extract rfl rfl) ?_; refine zO rfl Rd.asg ?_; refine zO rfl Rd.asg ?_
      refine zO rfl Rd.asg ?_; refine zO rfl Rd.asg ?_; refine zO rfl Rd.asg ?_; refine zN (zT (zS (zR (zA rfl ?_)))); refine zN (zT (XA.condT rfl rfl (zR (zA rfl ?_)))); refine zV rfl rfl ?_; refine zO rfl (Rd.ldA rfl) ?_
      refine zw rfl (WrA.cE (expr_i σ pr hz hvl ex _ b pv cv bs p c (L) hp hxe (he rfl).1 (by first | omega | (simp only [List.length_append, List.length_singleton]; omega))) rfl) ?_
      rintro _ _ _ ⟨_, ⟨p2, c2, rfl, rfl, rfl⟩, rfl⟩
      refine XOA.cl ?_; refine zN (zT (zS (zR (zV rfl rfl ?_)))); refine zB rfl rfl (tyrow rfl) rfl ?_; refine zN (zT (XA.block (zS (zR (zO rfl (Rd.eql rfl rfl) ?_))))); refine zO rfl Rd.asg ?_; refine zN (zT ?_)
      rw [← hL1]
      refine XA.condF rfl rfl (zS (zR (zO rfl (Rd.eql rfl rfl) ?_))); refine zO rfl Rd.asg ?_; refine zN (zT (XA.condF rfl rfl (zS (zR (zO rfl (Rd.eql rfl rfl) ?_))))); refine zO rfl Rd.asg ?_; refine zN (zT (XA.condF rfl rfl (zS (zR (zO rfl (Rd.eql rfl rfl) ?_))))); refine zO rfl Rd.asg ?_
      refine zN (zT (XA.condF rfl rfl (zS (zS (zR (zO rfl (Rd.eql rfl rfl) ?_)))))); refine zO rfl Rd.asg ?_; refine zN (zT (XA.condT rfl rfl (XA.skip (zT (XA.condT rfl rfl (zS (zR (zA rfl ?_))))))))
      refine zO rfl (Rd.bl (fun _ _ => tyrow) rfl rfl rfl) ?_
      refine zw rfl (WrA.cE (put_i σ b _ _ _ _ L1 ⟨13, 0, 0, 0⟩ (by omega)) rfl) ?_
      rintro _ _ _ ⟨_, ⟨p3, c3, rfl, rfl, rfl⟩, rfl⟩
      refine XOA.cl ?_; refine zO rfl Rd.asg ?_; refine zN (zT (zS (zR (zA rfl ?_)))); refine zV rfl rfl ?_; refine zB rfl rfl (tyrow rfl) rfl ?_
      refine zw rfl (WrA.cE (list_i σ pr body ih _ b pv cv bs p3 c3 (L1 ++ [⟨13, 0, 0, 0⟩]) hp hxb hsb (by first | omega | (simp only [List.length_append, List.length_singleton]; omega))) rfl) ?_
      rintro _ _ _ ⟨_, ⟨p4, c4, rfl, rfl, rfl⟩, rfl⟩
      refine XOA.cl ?_
      rw [← hB, ← hO]
      refine zN (zT (zS (zR (zA rfl ?_)))); refine zA rfl ?_
      refine zO rfl (Rd.bl (fun _ _ => tyrow) rfl rfl rfl) ?_
      refine zw rfl (WrA.cE (put_i σ b _ _ _ _ O ⟨14, L.length, 0, 0⟩ (by omega)) rfl) ?_
      rintro _ _ _ ⟨_, ⟨p5, c5, rfl, rfl, rfl⟩, rfl⟩
      refine XOA.cl ?_
      rw [← hM]
      first | refine XA.opn (R := lst 103 4 (.slice p5 M.length c5) _ _) zL (lst_openW (by omega)) ?_ | refine XOA.opn (R := lst 103 4 (.slice p5 M.length c5) _ _) zL (lst_openW (by omega)) ?_ | refine DA.opn (R := lst 103 4 (.slice p5 M.length c5) _ _) zL (lst_openW (by omega)) ?_
      rintro ⟨g5, rest5⟩ ⟨rfl, hc5, hm5, hx5, hr5⟩
      first | refine XA.cl ?_ | refine XOA.cl ?_ | refine DA.cl ?_
      have hspl := hspl0 rest5
      have hil := insC_len M
      have hil' : (insC M').length = M.length * 4 := by rw [insC_len, hMl']
      have hr5 : c5 * 4 ≤ (insC M ++ rest5).length := hr5
      have hfit : L1.length * 4 + 1 + ty3.size ≤ (insC M ++ rest5).length := by rw [List.length_append, hil]; show L1.length * 4 + 1 + 1 ≤ _; omega
      have hcl : c5 * 4 ≤ (insC M' ++ rest5).length := by rw [List.length_append] at hr5 ⊢; omega
      refine zO rfl Rd.asg ?_; refine zN (zT (zS ?_))
      refine XA.draw (by kernel_rfl) _ _ [12] [(0, .pu), (1, .pu), (2, .pu), (3, .rd), (4, .pu), (5, .pu), (6, .pu), (7, .pu), (8, .rd), (9, .pu), (10, .pu), (11, .pu), (12, .wr)] (by kernel_rfl) (PH.sub.refl _) (Ent.sel (R := blk b _ _) zL (Ent.nil _)) ?_
      refine zu rfl rfl Rd.mv ?_; refine zu rfl rfl (Rd.nilCheck rfl) ?_; refine zu rfl rfl (Rd.fA rfl) ?_; refine XPA.rd rfl rfl Gd.free (Rd.ldC rfl (tyrow rfl) rfl) ?_; refine zu rfl rfl Rd.mv ?_; refine zu rfl rfl Rd.mv ?_
      refine zu rfl rfl (Rd.nilCheck rfl) ?_; refine zu rfl rfl (Rd.fA rfl) ?_; refine XPA.rd rfl rfl Gd.free (Rd.ldC rfl (tyrow rfl) rfl) ?_; refine zu rfl rfl (Rd.lenSlice (tyrow rfl) rfl rfl) ?_; refine zu rfl rfl (Rd.ixS rfl rfl) ?_
      refine zu rfl rfl (Rd.fA rfl) ?_
      refine XPA.wrZ0 rfl rfl Gd.free (by kernel_rfl) (WrA.st (tyrow rfl) rfl) ?_
      rintro _ _ _ ⟨rfl, rfl, rfl⟩
      refine XPA.nil ?_; refine zT (zS (zR (zV rfl rfl ?_))); refine zB rfl rfl (tyrow rfl) rfl ?_; refine zO rfl (Rd.eql rfl rfl) ?_; refine zN (zT (XA.condF rfl rfl (XA.skip (DA.inb_normal ?_))))
      refine DA.ent (Ent.foldC (Θ := [blk g5 (insC M' ++ rest5) 103]) zD (lst_close (n := M.length) (c := c5) (rest := rest5) hil' hc5 hm5 hcl) (Ent.refl _)) ?_
      rw [hMl']
      exact bodyA.normal (ResA.none rfl) zE ⟨some ⟨g5, 0, none⟩, c5, rfl, rfl, rfl⟩
    · obtain ⟨L1, hL1⟩ : ∃ L1, L1 = L ++ exCode pr.vars ex := ⟨_, rfl⟩
      have hL1l : L1.length = L.length + exN ex := by rw [hL1, List.length_append, hlE]
      obtain ⟨B, hB⟩ : ∃ B, B = stsCode pr.vars body (L1 ++ [(⟨13, 0, 0, 0⟩ : In)]).length := ⟨_, rfl⟩
      have hBl : B.length ≤ stsN body := by rw [hB]; exact stsCode_len _ _ _
      have hB2 : stsCode pr.vars body (L.length + (exCode pr.vars ex).length + 1) = B := by rw [hB]; congr 1; rw [List.length_append, hL1l, hlE]; rfl
      obtain ⟨O, hO⟩ : ∃ O, O = L1 ++ [(⟨13, 0, 0, 0⟩ : In)] ++ B := ⟨_, rfl⟩
      have hOl : O.length = L1.length + B.length + 1 := by rw [hO]; simp only [List.length_append, List.length_singleton]; omega
      obtain ⟨M, hM⟩ : ∃ M, M = O ++ [(⟨14, L.length, 0, 0⟩ : In)] := ⟨_, rfl⟩
      have hMl : M.length = L1.length + B.length + 2 := by rw [hM, hO]; simp only [List.length_append, List.length_singleton]; omega
      obtain ⟨M', hM'⟩ : ∃ M', M' = L1 ++ [(⟨13, M.length, 0, 0⟩ : In)] ++ B ++ [⟨14, L.length, 0, 0⟩] := ⟨_, rfl⟩
      have hMl' : M'.length = M.length := by rw [hMl, hM']; simp only [List.length_append, List.length_singleton]; omega
      have hspl0 : ∀ rest : List Value, splice (insC M ++ rest) (L1.length * 4 + 1) [i64 M.length] = insC M' ++ rest := fun rest => by
        have := insC_patch L1 (B ++ [⟨14, L.length, 0, 0⟩]) ⟨13, 0, 0, 0⟩ M.length rest
        rw [hM', hM, hO]; simp only [List.append_assoc, List.singleton_append, List.cons_append, List.nil_append] at this ⊢
        rw [hM, hO] at this; simpa only [List.append_assoc, List.singleton_append, List.cons_append, List.nil_append] using this
      obtain ⟨Eb, hEb⟩ : ∃ Eb, Eb = stsCode pr.vars els M.length := ⟨_, rfl⟩
      have hEl : Eb.length ≤ stsN els := by rw [hEb]; exact stsCode_len _ _ _
      obtain ⟨M2, hM2⟩ : ∃ M2, M2 = M' ++ Eb := ⟨_, rfl⟩
      have hM2l : M2.length = M.length + Eb.length := by rw [hM2, List.length_append, hMl']
      obtain ⟨M3, hM3⟩ : ∃ M3, M3 = L1 ++ [(⟨13, M.length, 0, 0⟩ : In)] ++ B ++ [⟨14, M2.length, 0, 0⟩] ++ Eb := ⟨_, rfl⟩
      have hM3l : M3.length = M2.length := by rw [hM2l, hMl, hM3]; simp only [List.length_append, List.length_singleton]; omega
      have hspl6 : ∀ rest : List Value, splice (insC M2 ++ rest) (O.length * 4 + 1) [i64 M2.length] = insC M3 ++ rest := fun rest => by
        have := insC_patch (L1 ++ [(⟨13, M.length, 0, 0⟩ : In)] ++ B) Eb ⟨14, L.length, 0, 0⟩ M2.length rest
        have e : (L1 ++ [(⟨13, M.length, 0, 0⟩ : In)] ++ B).length = O.length := by rw [hOl]; simp only [List.length_append, List.length_singleton]; omega
        rw [e] at this
        rw [hM3]
        have e2 : insC M2 = insC (L1 ++ [(⟨13, M.length, 0, 0⟩ : In)] ++ B ++ ⟨14, L.length, 0, 0⟩ :: Eb) := by rw [hM2, hM']; simp only [List.append_assoc, List.singleton_append, List.cons_append, List.nil_append]
        rw [e2, this]; simp only [List.append_assoc, List.singleton_append, List.cons_append, List.nil_append]
      have hc : L ++ stCode pr.vars (.mk 6 v ex fx body els) L.length = M3 := by
        have e1 : L.length + (exCode pr.vars ex).length + 1 + B.length + 1 = M.length := by rw [hMl, hL1l, hlE]; omega
        rw [stCode_6, hB2, e1, ← hEb, hM3, hL1, hM2l]
        simp only [List.append_assoc]
      rw [hc]
      have hls := fun p c => list_i σ pr els jh (.slice pl els.length cl) b pv cv bs p c M' hp hxl hse (by omega)
      rw [hMl', ← hEb, ← hM2] at hls
      refine enterA2 Tryz.func74 rfl rfl rfl ?_
      refine zS (zR ?_)
      refine zw rfl WrA.bx ?_
      rintro _ _ _ ⟨g3, rfl, rfl, rfl⟩
      refine zN (zT (zS (zR (zA rfl ?_)))); refine zO rfl (Rd.nilCheck rfl) ?_; refine zV rfl rfl ?_; refine zB rfl rfl (tyrow rfl) rfl ?_; refine zO rfl (Rd.lenSlice (tyrow rfl) rfl rfl) ?_; refine zO rfl Rd.asg ?_; refine zN (zT (zS (zS (zR (zV rfl rfl ?_))))); refine zB rfl rfl (tyrow rfl) rfl ?_
      refine zw rfl (WrA.cE (chas_a σ 6) rfl) ?_
      rintro _ _ _ ⟨_, ⟨rfl, rfl, rfl⟩, rfl⟩
      refine XOA.cl ?_; refine zA rfl ?_; refine zO rfl (Rd.extract rfl rfl) ?_; refine zO rfl (Rd.extract rfl rfl) ?_; refine zO rfl (Rd.extract rfl rfl) ?_; refine zO rfl (Rd.extract rfl rfl) ?_; refine zO rfl (Rd.extract rfl rfl) ?_; refine zO rfl Rd.asg ?_; refine zO rfl Rd.asg ?_
      refine zO rfl Rd.asg ?_; refine zO rfl Rd.asg ?_; refine zO rfl Rd.asg ?_; refine zN (zT (zS (zR (zA rfl ?_)))); refine zN (zT (XA.condT rfl rfl (zR (zA rfl ?_)))); refine zV rfl rfl ?_; refine zO rfl (Rd.ldA rfl) ?_
      refine zw rfl (WrA.cE (expr_i σ pr hz hvl ex _ b pv cv bs p c (L) hp hxe (he rfl).1 (by first | omega | (simp only [List.length_append, List.length_singleton]; omega))) rfl) ?_
      rintro _ _ _ ⟨_, ⟨p2, c2, rfl, rfl, rfl⟩, rfl⟩
      refine XOA.cl ?_; refine zN (zT (zS (zR (zV rfl rfl ?_)))); refine zB rfl rfl (tyrow rfl) rfl ?_; refine zN (zT (XA.block (zS (zR (zO rfl (Rd.eql rfl rfl) ?_))))); refine zO rfl Rd.asg ?_; refine zN (zT ?_)
      rw [← hL1]
      refine XA.condF rfl rfl (zS (zR (zO rfl (Rd.eql rfl rfl) ?_))); refine zO rfl Rd.asg ?_; refine zN (zT (XA.condF rfl rfl (zS (zR (zO rfl (Rd.eql rfl rfl) ?_))))); refine zO rfl Rd.asg ?_; refine zN (zT (XA.condF rfl rfl (zS (zR (zO rfl (Rd.eql rfl rfl) ?_))))); refine zO rfl Rd.asg ?_
      refine zN (zT (XA.condF rfl rfl (zS (zS (zR (zO rfl (Rd.eql rfl rfl) ?_)))))); refine zO rfl Rd.asg ?_; refine zN (zT (XA.condF rfl rfl (zR (zO rfl (Rd.eql rfl rfl) ?_)))); refine zO rfl Rd.asg ?_; refine zN (zT (XA.condT rfl rfl (zS (zR (zA rfl ?_)))))
      refine zO rfl (Rd.bl (fun _ _ => tyrow) rfl rfl rfl) ?_
      refine zw rfl (WrA.cE (put_i σ b _ _ _ _ L1 ⟨13, 0, 0, 0⟩ (by omega)) rfl) ?_
      rintro _ _ _ ⟨_, ⟨p3, c3, rfl, rfl, rfl⟩, rfl⟩
      refine XOA.cl ?_; refine zO rfl Rd.asg ?_; refine zN (zT (zS (zR (zA rfl ?_)))); refine zV rfl rfl ?_; refine zB rfl rfl (tyrow rfl) rfl ?_
      refine zw rfl (WrA.cE (list_i σ pr body ih _ b pv cv bs p3 c3 (L1 ++ [⟨13, 0, 0, 0⟩]) hp hxb hsb (by first | omega | (simp only [List.length_append, List.length_singleton]; omega))) rfl) ?_
      rintro _ _ _ ⟨_, ⟨p4, c4, rfl, rfl, rfl⟩, rfl⟩
      refine XOA.cl ?_
      rw [← hB, ← hO]
      refine zN (zT (zS (zR (zA rfl ?_)))); refine zA rfl ?_
      refine zO rfl (Rd.bl (fun _ _ => tyrow) rfl rfl rfl) ?_
      refine zw rfl (WrA.cE (put_i σ b _ _ _ _ O ⟨14, L.length, 0, 0⟩ (by omega)) rfl) ?_
      rintro _ _ _ ⟨_, ⟨p5, c5, rfl, rfl, rfl⟩, rfl⟩
      refine XOA.cl ?_
      rw [← hM]
      first | refine XA.opn (R := lst 103 4 (.slice p5 M.length c5) _ _) zL (lst_openW (by omega)) ?_ | refine XOA.opn (R := lst 103 4 (.slice p5 M.length c5) _ _) zL (lst_openW (by omega)) ?_ | refine DA.opn (R := lst 103 4 (.slice p5 M.length c5) _ _) zL (lst_openW (by omega)) ?_
      rintro ⟨g5, rest5⟩ ⟨rfl, hc5, hm5, hx5, hr5⟩
      first | refine XA.cl ?_ | refine XOA.cl ?_ | refine DA.cl ?_
      have hspl := hspl0 rest5
      have hil := insC_len M
      have hil' : (insC M').length = M.length * 4 := by rw [insC_len, hMl']
      have hr5 : c5 * 4 ≤ (insC M ++ rest5).length := hr5
      have hfit : L1.length * 4 + 1 + ty3.size ≤ (insC M ++ rest5).length := by rw [List.length_append, hil]; show L1.length * 4 + 1 + 1 ≤ _; omega
      have hcl : c5 * 4 ≤ (insC M' ++ rest5).length := by rw [List.length_append] at hr5 ⊢; omega
      refine zO rfl Rd.asg ?_; refine zN (zT (zS ?_))
      refine XA.draw (by kernel_rfl) _ _ [12] [(0, .pu), (1, .pu), (2, .pu), (3, .rd), (4, .pu), (5, .pu), (6, .pu), (7, .pu), (8, .rd), (9, .pu), (10, .pu), (11, .pu), (12, .wr)] (by kernel_rfl) (PH.sub.refl _) (Ent.sel (R := blk b _ _) zL (Ent.nil _)) ?_
      refine zu rfl rfl Rd.mv ?_; refine zu rfl rfl (Rd.nilCheck rfl) ?_; refine zu rfl rfl (Rd.fA rfl) ?_; refine XPA.rd rfl rfl Gd.free (Rd.ldC rfl (tyrow rfl) rfl) ?_; refine zu rfl rfl Rd.mv ?_; refine zu rfl rfl Rd.mv ?_
      refine zu rfl rfl (Rd.nilCheck rfl) ?_; refine zu rfl rfl (Rd.fA rfl) ?_; refine XPA.rd rfl rfl Gd.free (Rd.ldC rfl (tyrow rfl) rfl) ?_; refine zu rfl rfl (Rd.lenSlice (tyrow rfl) rfl rfl) ?_; refine zu rfl rfl (Rd.ixS rfl rfl) ?_
      refine zu rfl rfl (Rd.fA rfl) ?_
      refine XPA.wrZ0 rfl rfl Gd.free (by kernel_rfl) (WrA.st (tyrow rfl) rfl) ?_
      rintro _ _ _ ⟨rfl, rfl, rfl⟩
      refine XPA.nil ?_; refine zT (zS (zR (zV rfl rfl ?_))); refine zB rfl rfl (tyrow rfl) rfl ?_; refine zO rfl (Rd.eql rfl rfl) ?_; refine zN (zT (XA.condT rfl rfl (zS (zR (zA rfl ?_))))); refine zV rfl rfl ?_; refine zB rfl rfl (tyrow rfl) rfl ?_
      refine XOA.ent (Ent.foldC (Θ := [blk g5 (insC M' ++ rest5) 103]) zD (lst_close (n := M.length) (c := c5) (rest := rest5) hil' hc5 hm5 hcl) (Ent.refl _)) ?_
      clear hspl hfit
      refine zw rfl (WrA.cE (hls _ _) rfl) ?_
      rintro _ _ _ ⟨_, ⟨p6, c6, rfl, rfl, rfl⟩, rfl⟩
      refine XOA.cl ?_
      first | refine XA.opn (R := lst 103 4 (.slice p6 M2.length c6) _ _) zL (lst_openW (by omega)) ?_ | refine XOA.opn (R := lst 103 4 (.slice p6 M2.length c6) _ _) zL (lst_openW (by omega)) ?_ | refine DA.opn (R := lst 103 4 (.slice p6 M2.length c6) _ _) zL (lst_openW (by omega)) ?_
      rintro ⟨g6, rest6⟩ ⟨rfl, hc6, hm6, hx6, hr6⟩
      first | refine XA.cl ?_ | refine XOA.cl ?_ | refine DA.cl ?_
      have hspl := hspl6 rest6
      have hil2 := insC_len M2
      have hil3 : (insC M3).length = M2.length * 4 := by rw [insC_len, hM3l]
      have hr6 : c6 * 4 ≤ (insC M2 ++ rest6).length := hr6
      have hfit : O.length * 4 + 1 + ty3.size ≤ (insC M2 ++ rest6).length := by rw [List.length_append, hil2]; show O.length * 4 + 1 + 1 ≤ _; omega
      have hcl6 : c6 * 4 ≤ (insC M3 ++ rest6).length := by rw [List.length_append] at hr6 ⊢; omega
      refine zN (zT ?_)
      refine XA.draw (by kernel_rfl) _ _ [12] [(0, .pu), (1, .pu), (2, .pu), (3, .rd), (4, .pu), (5, .pu), (6, .pu), (7, .pu), (8, .rd), (9, .pu), (10, .pu), (11, .pu), (12, .wr)] (by kernel_rfl) (PH.sub.refl _) (Ent.sel (R := blk b _ _) zL (Ent.nil _)) ?_
      refine zu rfl rfl Rd.mv ?_; refine zu rfl rfl (Rd.nilCheck rfl) ?_; refine zu rfl rfl (Rd.fA rfl) ?_; refine XPA.rd rfl rfl Gd.free (Rd.ldC rfl (tyrow rfl) rfl) ?_; refine zu rfl rfl Rd.mv ?_; refine zu rfl rfl Rd.mv ?_
      refine zu rfl rfl (Rd.nilCheck rfl) ?_; refine zu rfl rfl (Rd.fA rfl) ?_; refine XPA.rd rfl rfl Gd.free (Rd.ldC rfl (tyrow rfl) rfl) ?_; refine zu rfl rfl (Rd.lenSlice (tyrow rfl) rfl rfl) ?_; refine zu rfl rfl (Rd.ixS rfl rfl) ?_
      refine zu rfl rfl (Rd.fA rfl) ?_
      refine XPA.wrZ0 rfl rfl Gd.free (by kernel_rfl) (WrA.st (tyrow rfl) rfl) ?_
      rintro _ _ _ ⟨rfl, rfl, rfl⟩
      refine XPA.nil ?_; refine DA.inb_normal ?_
      refine DA.ent (Ent.foldC (Θ := [blk g6 (insC M3 ++ rest6) 103]) zD (lst_close (n := M2.length) (c := c6) (rest := rest6) hil3 hc6 hm6 hcl6) (Ent.refl _)) ?_
      rw [hM3l]
      exact bodyA.normal (ResA.none rfl) zE ⟨some ⟨g6, 0, none⟩, c6, rfl, rfl, rfl⟩
      
end Go.Proofs.YtmnmcjdgnpgchaaGreat

namespace Go.Proofs.YtmnmcjdgnpgchaaGreat
open Go X
set_option maxHeartbeats 1000000
def rIn : RT In := fun _ cs i => cs = inC i
theorem size_le : ∀ {l : List Va}, (∀ x ∈ l, 1 ≤ x.size) → ∀ x ∈ l, x.size ≤ sizes l
  | y :: l, h, x, hx => by
    have h1 := h y (by simp)
    have h2 := sizes_nonneg (l := l) (fun z hz => h z (by simp [hz]))
    rw [sizes_cons]
    rcases List.mem_cons.1 hx with rfl | hx
    · omega
    · have := size_le (l := l) (fun z hz => h z (by simp [hz])) x hx; omega
theorem check_small {p : Pr} (h : checkP p = 0) : (∀ x ∈ p.vars, 0 ≤ x.size ∧ x.size ≤ 1000) ∧ p.vars.length ≤ 1000 := by
  obtain ⟨-, h1, h2, h3⟩ := check_valid h
  exact ⟨fun x hx => by have a := h2 x hx; have b := size_le h2 x hx; omega, by omega⟩
theorem rows_in (σ : PH) (l : List In) : Rows_ 4 rIn σ (l.map inC) l :=
  ⟨by simp, fun r hr => by obtain ⟨i, -, rfl⟩ := List.mem_map.1 hr; rfl, fun k r x hr hx => by rw [List.getElem?_map, hx] at hr; simpa [rIn] using hr.symm⟩
theorem codeOf_len (p : Pr) : (codeOf p).length ≤ stsN p.body + 1 := by rw [codeOf, List.length_append]; have := stsCode_len p.vars p.body 0; simp; omega
theorem make_a (σ : PH) (cs : List Value) (p : Pr) (hp : PrAt σ cs p) (hN : stsN p.body ≤ 10000) :
    CallsA Tryz.prog 23 #[.agg cs.toArray] σ [] (RetA fun v σ' Γ' => ∃ sl, v = .tuple #[sl, i64 (checkP p)] ∧ PSl 4 rIn σ' sl (if checkP p = 0 then codeOf p else []) ∧ σ.sub σ' ∧ Γ' = []) := by
  have hp0 := hp
  obtain ⟨vs, bs, rfl, hv, hb⟩ := hp
  obtain ⟨pv, cv, rfl, hvl, hvm⟩ := hv.shape
  refine enterA1 Tryz.func23 rfl rfl rfl ?_
  refine zS (zR ?_)
  refine zw rfl WrA.bx ?_
  rintro _ _ _ ⟨g1, rfl, rfl, rfl⟩
  refine zO rfl Rd.asg ?_; refine zO rfl Rd.asg ?_; refine zN (zT (zS (zS (zR (zO rfl (Rd.ldA rfl) ?_)))))
  refine zw rfl (WrA.cE (check_a σ _ p hp0) rfl) ?_
  rintro _ _ _ ⟨_, ⟨rfl, rfl, rfl⟩, rfl⟩
  refine XOA.cl ?_; refine zO rfl Rd.asg ?_; refine zN (zT (zS (zR (zA rfl ?_)))); refine zO rfl (Rd.neq rfl rfl) ?_; refine zN (zT ?_)
  refine XA.condp rfl (fun hc => ?_) (fun hc => ?_)
  · refine zS ?_
    refine zR (zA rfl ?_); refine zO rfl Rd.asg ?_; refine zO rfl Rd.asg ?_; refine zN (zT (XA.ret (DA.thn_ret ?_)))
    rw [if_neg hc]
    exact bodyA.ret (ResA.two rfl rfl rfl) (Ent.nil _) ⟨_, rfl, PSl.nil _ _ _, .refl _, rfl⟩
  have hc : checkP p = 0 := by omega
  obtain ⟨hz, hl⟩ := check_small hc
  obtain ⟨hV, -, -, -⟩ := check_valid hc
  refine XA.skip (zT (zS (zR (zO rfl (Rd.ldA rfl) ?_))))
  refine zO rfl (Rd.bl (fun _ _ => tyrow) rfl rfl rfl) ?_
  refine zw rfl WrA.bx ?_
  rintro _ _ _ ⟨g13, rfl, rfl, rfl⟩
  refine zO rfl Rd.asg ?_; refine zN (zT (zS (zR (zA rfl ?_)))); refine zV rfl rfl ?_; refine zB rfl rfl (tyrow rfl) rfl ?_
  have hls := fun b => list_i σ p p.body (fun x _ => stmt_i σ p hz hl x) bs b pv cv bs none 0 [] hp0 hb hV (by simp only [List.length_nil]; omega)
  simp only [List.nil_append, List.length_nil, show insC [] = [] from rfl] at hls
  refine zw rfl (WrA.cE (hls _) rfl) ?_
  rintro _ _ _ ⟨_, ⟨p7, c7, rfl, rfl, rfl⟩, rfl⟩
  refine XOA.cl ?_
  have hln := stsCode_len p.vars p.body 0
  refine zN (zT (zS (zR (zA rfl ?_))))
  refine zO rfl (Rd.bl (fun _ _ => tyrow) rfl rfl rfl) ?_
  refine zw rfl (WrA.cE (put_i σ _ _ _ _ _ (stsCode p.vars p.body 0) ⟨16, 0, 0, 0⟩ (by omega)) rfl) ?_
  rintro _ _ _ ⟨_, ⟨p8, c8, rfl, rfl, rfl⟩, rfl⟩
  refine XOA.cl ?_; refine zN (zT (zS (zR (zA rfl ?_)))); refine zO rfl (Rd.nilCheck rfl) ?_; refine zV rfl rfl ?_; refine zB rfl rfl (tyrow rfl) rfl ?_; refine zO rfl Rd.asg ?_; refine zO rfl Rd.asg ?_; refine zN (zT (XA.ret ?_))
  refine DA.frz (R := lst 103 4 _ _ _) zL lst_frz lst_frz_mono ?_
  rintro σ3 ⟨⟩ hf hs3
  rw [if_pos hc, hc]
  exact bodyA.ret (ResA.two rfl rfl rfl) (Ent.nil _) ⟨_, rfl, (rows_in σ3 (codeOf p)).psl rfl hf, hs3, rfl⟩
end Go.Proofs.YtmnmcjdgnpgchaaGreat

namespace Go.Proofs.YtmnmcjdgnpgchaaGreat
open Go X
set_option maxHeartbeats 1000000
def goneC (c : Int) : List PanicEntry := [{ v := .iface 88 (i64 c), recovered := false }]
theorem fail_t (σ : PH) (is : Bool) (c : Int) (h : is = true) : CallsA Tryz.prog 72 #[.bool is, i64 c] σ [] (PanA fun ch σ' Γ' => ch = goneC c ∧ σ = σ' ∧ Γ' = []) := by
  subst h
  refine enterA2 Tryz.func72 rfl rfl rfl ?_
  refine zS (zR (zA rfl ?_)); refine zN (zT (XA.condT rfl rfl (zR (zA rfl ?_)))); refine zO rfl (Rd.mkI (tyrow rfl) rfl rfl) ?_
  refine XOA.throw rfl rfl ?_
  repeat (first | refine DA.thn_panic ?_ | refine DA.inb_panic ?_)
  exact bodyA.panic zE ⟨rfl, rfl, rfl⟩
theorem fail_f (σ : PH) (is : Bool) (c : Int) (h : is = false) : CallsA Tryz.prog 72 #[.bool is, i64 c] σ [] (RetA fun v σ' Γ' => v = .tuple #[] ∧ σ = σ' ∧ Γ' = []) := by
  subst h
  refine enterA2 Tryz.func72 rfl rfl rfl ?_
  refine zS (zR (zA rfl ?_)); refine zN (zT (XA.condF rfl rfl (XA.skip ?_)))
  exact bodyA.normal (ResA.none rfl) (Ent.nil _) ⟨rfl, rfl, rfl⟩
theorem one_t (σ : PH) (b : Nat) (v0 v1 v2 v3 v4 : Value) :
    CallsA Tryz.prog 43 #[ptr b] σ [blk b [v0, v1, v2, v3, v4, i64 0] 87] (PanA fun ch σ' Γ' => ch = goneC 13 ∧ σ = σ' ∧ Γ' = [blk b [v0, v1, v2, v3, v4, i64 0] 87]) := by
  refine enterA1 Tryz.func43 rfl rfl rfl ?_
  refine zS (zR (zA rfl ?_)); refine zO rfl (Rd.nilCheck rfl) ?_; refine zV rfl rfl ?_; refine zB rfl rfl (tyrow rfl) rfl ?_; refine zO rfl (Rd.eql rfl rfl) ?_
  refine XOA.die rfl (fail_t σ _ 13 (decide_eq_true rfl)) rfl ?_
  rintro _ _ _ ⟨rfl, rfl, rfl⟩
  refine DA.cl ?_
  repeat (first | refine DA.thn_panic ?_ | refine DA.inb_panic ?_)
  exact bodyA.panic zE ⟨rfl, rfl, rfl⟩
theorem one_f (σ : PH) (b : Nat) (v0 v1 v2 v3 v4 : Value) (f : Nat) (h1 : f < 1000000) :
    CallsA Tryz.prog 43 #[ptr b] σ [blk b [v0, v1, v2, v3, v4, i64 ((f + 1 : Nat) : Int)] 87] (RetA fun v σ' Γ' => v = .tuple #[] ∧ σ = σ' ∧ Γ' = [blk b [v0, v1, v2, v3, v4, i64 f] 87]) := by
  have e : (f : Int) = ((f + 1 : Nat) : Int) - 1 := by omega
  rw [e]
  refine enterA1 Tryz.func43 rfl rfl rfl ?_
  refine zS (zR (zA rfl ?_)); refine zO rfl (Rd.nilCheck rfl) ?_; refine zV rfl rfl ?_; refine zB rfl rfl (tyrow rfl) rfl ?_; refine zO rfl (Rd.eql rfl rfl) ?_
  refine zw rfl (WrA.cE (fail_f σ _ 13 (decide_eq_false (by omega))) rfl) ?_
  rintro _ _ _ ⟨_, ⟨rfl, rfl, rfl⟩, rfl⟩
  refine XOA.cl ?_; refine zN (zT (zR (zA rfl ?_))); refine zO rfl (Rd.nilCheck rfl) ?_; refine zV rfl rfl ?_; refine zB rfl rfl (tyrow rfl) rfl ?_; refine zO rfl (by first | exact Rd.sbi rfl rfl | exact Rd.sub rfl rfl) ?_; refine zO rfl (Rd.nilCheck rfl) ?_; refine zV rfl rfl ?_
  refine zw rfl (WrA.st (tyrow rfl) rfl) ?_
  rintro _ _ _ ⟨rfl, rfl, rfl⟩
  refine zN ?_
  exact bodyA.normal (ResA.none rfl) zE ⟨rfl, rfl, rfl⟩
theorem flag_a (σ : PH) (b : Bool) : CallsA Tryz.prog 114 #[.bool b] σ [] (RetA fun v σ' Γ' => v = i64 (if b then 1 else 0) ∧ σ = σ' ∧ Γ' = []) := by
  cases b with
  | true =>
    refine enterA1 Tryz.func114 rfl rfl rfl ?_
    refine zS (zR (zO rfl Rd.asg ?_)); refine zN (zT (zS (zS (zR (zA rfl ?_))))); refine zN (zT (XA.condT rfl rfl (zS (zR (zO rfl Rd.asg ?_))))); refine zN (zT (XA.ret (DA.thn_ret ?_)))
    exact bodyA.ret (ResA.one rfl rfl) (Ent.nil _) ⟨rfl, rfl, rfl⟩
  | false =>
    refine enterA1 Tryz.func114 rfl rfl rfl ?_
    refine zS (zR (zO rfl Rd.asg ?_)); refine zN (zT (zS (zS (zR (zA rfl ?_))))); refine zN (zT (XA.condF rfl rfl (XA.skip (zT (zS (zR (zO rfl Rd.asg ?_))))))); refine zN (zT (XA.ret ?_))
    exact bodyA.ret (ResA.one rfl rfl) (Ent.nil _) ⟨rfl, rfl, rfl⟩
theorem at_t (σ : PH) (b : Nat) (pr : Pr) (pv : Option Addr) (cv : Nat) (bs v2 v3 v4 v5 : Value) (v k : Int) (hp : PrAt σ [.slice pv pr.vars.length cv, bs] pr) (hz : ∀ x ∈ pr.vars, 0 ≤ x.size ∧ x.size ≤ 1000) (hvl : pr.vars.length ≤ 1000) (hv : 0 ≤ v ∧ v < pr.vars.length) (hk : k < 0 ∨ sizeV pr.vars v ≤ k) : CallsA Tryz.prog 95 #[ptr b, i64 v, i64 k] σ [blk b [.slice pv pr.vars.length cv, bs, v2, v3, v4, v5] 87] (PanA fun ch σ' Γ' => ch = goneC 11 ∧ σ = σ' ∧ Γ' = [blk b [.slice pv pr.vars.length cv, bs, v2, v3, v4, v5] 87]) := by
  obtain ⟨vx, hvx⟩ : ∃ vx, pr.vars[v.toNat]? = some vx := ⟨_, List.getElem?_eq_getElem (by omega)⟩
  rw [sizeV_get hvx] at hk
  obtain ⟨vs', bs', heq, hpv, hpb⟩ := hp
  simp only [List.cons.injEq, and_true] at heq
  obtain ⟨rfl, rfl⟩ := heq
  obtain ⟨gg, oo, rowv, rfl, ⟨rfl, ⟨hz0, hz1⟩, hnm⟩, hrl, hrow⟩ := hpv.at hvx
  have r1 : PRow σ gg (oo + v.toNat * 2 + 1) [i64 vx.size] := hrow.sub (j := 1) rfl
  obtain ⟨hv0, hv1⟩ := hv
  by_cases h0 : k < 0
  · refine enterA3 Tryz.func95 rfl rfl rfl ?_
    refine zS (zR (zO rfl Rd.asg ?_)); refine zN (zT (zS (zR (zA rfl ?_)))); refine zO rfl (Rd.lss rfl rfl) ?_; refine zA rfl ?_
    first | (refine zG ?_; refine zA rfl ?_) | refine zH ?_
    first | (refine zG ?_; refine zA rfl ?_) | refine zH ?_
    first | (refine zG ?_; refine zO rfl (Rd.nilCheck rfl) ?_) | refine zH ?_
    first | (refine zG ?_; refine zV rfl rfl ?_) | refine zH ?_
    first | (refine zG ?_; refine zV rfl rfl ?_) | refine zH ?_
    first | (refine zG ?_; refine zB rfl rfl (tyrow rfl) rfl ?_) | refine zH ?_
    first | (refine zG ?_; refine zA rfl ?_) | refine zH ?_
    first | (refine zG ?_; refine zO rfl (Rd.ixS rfl rfl) ?_) | refine zH ?_
    first | (refine zG ?_; refine zV rfl rfl ?_) | refine zH ?_
    first | (refine zG ?_; refine zB rfl rfl (tyrow rfl) rfl ?_) | refine zH ?_
    first | (refine zG ?_; refine zO rfl (Rd.geq rfl rfl) ?_) | refine zH ?_
    refine zO rfl zP ?_
    refine XOA.die rfl (fail_t σ _ 11 rfl) rfl ?_
    rintro _ _ _ ⟨rfl, rfl, rfl⟩
    refine DA.cl ?_
    repeat (first | refine DA.thn_panic ?_ | refine DA.inb_panic ?_)
    exact bodyA.panic zE ⟨rfl, rfl, rfl⟩
  · refine enterA3 Tryz.func95 rfl rfl rfl ?_
    refine zS (zR (zO rfl Rd.asg ?_)); refine zN (zT (zS (zR (zA rfl ?_)))); refine zO rfl (Rd.lss rfl rfl) ?_; refine zA rfl ?_
    first | (refine zG ?_; refine zA rfl ?_) | refine zH ?_
    first | (refine zG ?_; refine zA rfl ?_) | refine zH ?_
    first | (refine zG ?_; refine zO rfl (Rd.nilCheck rfl) ?_) | refine zH ?_
    first | (refine zG ?_; refine zV rfl rfl ?_) | refine zH ?_
    first | (refine zG ?_; refine zV rfl rfl ?_) | refine zH ?_
    first | (refine zG ?_; refine zB rfl rfl (tyrow rfl) rfl ?_) | refine zH ?_
    first | (refine zG ?_; refine zA rfl ?_) | refine zH ?_
    first | (refine zG ?_; refine zO rfl (Rd.ixS rfl rfl) ?_) | refine zH ?_
    first | (refine zG ?_; refine zV rfl rfl ?_) | refine zH ?_
    first | (refine zG ?_; refine zB rfl rfl (tyrow rfl) rfl ?_) | refine zH ?_
    first | (refine zG ?_; refine zO rfl (Rd.geq rfl rfl) ?_) | refine zH ?_
    refine zO rfl zP ?_
    refine XOA.die rfl (fail_t σ _ 11 (decide_eq_true (by omega))) rfl ?_
    rintro _ _ _ ⟨rfl, rfl, rfl⟩
    refine DA.cl ?_
    repeat (first | refine DA.thn_panic ?_ | refine DA.inb_panic ?_)
    exact bodyA.panic zE ⟨rfl, rfl, rfl⟩
theorem at_f (σ : PH) (b : Nat) (pr : Pr) (pv : Option Addr) (cv : Nat) (bs v2 v3 v4 v5 : Value) (v k : Int) (hp : PrAt σ [.slice pv pr.vars.length cv, bs] pr) (hz : ∀ x ∈ pr.vars, 0 ≤ x.size ∧ x.size ≤ 1000) (hvl : pr.vars.length ≤ 1000) (hv : 0 ≤ v ∧ v < pr.vars.length) (h0 : 0 ≤ k) (hk : k < sizeV pr.vars v) : CallsA Tryz.prog 95 #[ptr b, i64 v, i64 k] σ [blk b [.slice pv pr.vars.length cv, bs, v2, v3, v4, v5] 87] (RetA fun r σ' Γ' => r = i64 (cellOf pr.vars v + k) ∧ σ = σ' ∧ Γ' = [blk b [.slice pv pr.vars.length cv, bs, v2, v3, v4, v5] 87]) := by
  have hp0 := hp
  obtain ⟨vx, hvx⟩ : ∃ vx, pr.vars[v.toNat]? = some vx := ⟨_, List.getElem?_eq_getElem (by omega)⟩
  have hzx := hz vx (List.mem_of_getElem? hvx)
  rw [sizeV_get hvx] at hk
  obtain ⟨vs', bs', heq, hpv, hpb⟩ := hp
  simp only [List.cons.injEq, and_true] at heq
  obtain ⟨rfl, rfl⟩ := heq
  obtain ⟨gg, oo, rowv, rfl, ⟨rfl, ⟨hz0, hz1⟩, hnm⟩, hrl, hrow⟩ := hpv.at hvx
  have r1 : PRow σ gg (oo + v.toNat * 2 + 1) [i64 vx.size] := hrow.sub (j := 1) rfl
  have hcb := sizes_bound (pr.vars.take v.toNat) (fun y hy => hz y (List.mem_of_mem_take hy))
  have hcl : ((pr.vars.take v.toNat).length : Int) ≤ 1000 := by rw [List.length_take]; omega
  have hcell : cellOf pr.vars v = sizes (pr.vars.take v.toNat) := rfl
  obtain ⟨hv0, hv1⟩ := hv
  have hn0 : ¬ k < 0 := by omega
  refine enterA3 Tryz.func95 rfl rfl rfl ?_
  refine zS (zR (zO rfl Rd.asg ?_)); refine zN (zT (zS (zR (zA rfl ?_)))); refine zO rfl (Rd.lss rfl rfl) ?_; refine zA rfl ?_
  first | (refine zG ?_; refine zA rfl ?_) | refine zH ?_
  first | (refine zG ?_; refine zA rfl ?_) | refine zH ?_
  first | (refine zG ?_; refine zO rfl (Rd.nilCheck rfl) ?_) | refine zH ?_
  first | (refine zG ?_; refine zV rfl rfl ?_) | refine zH ?_
  first | (refine zG ?_; refine zV rfl rfl ?_) | refine zH ?_
  first | (refine zG ?_; refine zB rfl rfl (tyrow rfl) rfl ?_) | refine zH ?_
  first | (refine zG ?_; refine zA rfl ?_) | refine zH ?_
  first | (refine zG ?_; refine zO rfl (Rd.ixS rfl rfl) ?_) | refine zH ?_
  first | (refine zG ?_; refine zV rfl rfl ?_) | refine zH ?_
  first | (refine zG ?_; refine zB rfl rfl (tyrow rfl) rfl ?_) | refine zH ?_
  first | (refine zG ?_; refine zO rfl (Rd.geq rfl rfl) ?_) | refine zH ?_
  refine zO rfl zP ?_
  refine zw rfl (WrA.cE (fail_f σ _ 11 (decide_eq_false (by omega))) rfl) ?_
  rintro _ _ _ ⟨_, ⟨rfl, rfl, rfl⟩, rfl⟩
  refine XOA.cl ?_; refine zN (zT (zS (zR (zA rfl ?_)))); refine zO rfl (Rd.nilCheck rfl) ?_; refine zV rfl rfl ?_; refine zO rfl (Rd.ldA rfl) ?_; refine zA rfl ?_
  refine zw rfl (WrA.cE (cell_a σ _ pr v hp0 hz hvl) rfl) ?_
  rintro _ _ _ ⟨_, ⟨rfl, rfl, rfl⟩, rfl⟩
  refine XOA.cl ?_; refine zA rfl ?_; refine zO rfl zI ?_; refine zO rfl Rd.asg ?_; refine zN (zT (XA.ret ?_))
  exact bodyA.ret (ResA.one rfl rfl) zE ⟨rfl, rfl, rfl⟩
end Go.Proofs.YtmnmcjdgnpgchaaGreat

