/- The law ParseJoins holds: a text that is a program, with the text of another program's statements behind it, is both's statements, or has the fault of the program that they make. Condition: the given card's own, that the variables of the library that it lists hold what it lays. -/
import Derived.Test.YthefnnkmpcgcmaaDoorWjo1
import Derived.Test.YthefnnkmpcgcmaaDoorWjo2
import Derived.Test.YthefnnkmpcgcmaaDoorWjo3
import Derived.Lib.Builder
import Derived.Lib.UnsafeStr
import Derived.Lib.AppendStr
import Derived.Laws.Externs
import Derived.Shelf.LaysM
import Derived.Shelf.LaysC
import Derived.Shelf.Strconv.Itoa4
import Derived.Shelf.Strconv.ParseIntPublic10
import Derived.Test.YthefnnkmpcgcmaaDoorProg
import Derived.Laws.Strings3
import Derived.Test.YthefnnkmpcgcmaaDoorRows
import Derived.LaidLaws
import Derived.Stop.LaidErr
import Derived.RowKit3
import Derived.RowKitTokens
import Derived.ChangeMaps5
import Derived.Handed
import Derived.SizedLaws
import Derived.Test.YthefnnkmpcgcmaaDoorCards
import Derived.Test.YthefnnkmpcgcmaaDoorTie
namespace Go.Proofs.YthefnnkmpcgcmaaDoor
open Go X
def NZ {α : Type} (a : PR α) : Prop := ∀ x, a = .error x → x.1 ≠ 0
theorem failAt_nz {e : Int} {l : List Tk} {c : Int} (h : c ≠ 0) : (failAt e l c).1 ≠ 0 := by
  cases l with
  | nil =>
    rw [failAt]
    by_cases q : c = 5
    · rw [if_pos q]; show (6 : Int) ≠ 0; decide
    · rw [if_neg q]; exact h
  | cons t r => exact h
theorem NZ.fail {α : Type} {e : Int} {l : List Tk} {c : Int} (h : c ≠ 0) : NZ (.error (failAt e l c) : PR α) := fun x q => by cases q; exact failAt_nz h
theorem NZ.ok {α : Type} {y : α × List Tk} : NZ (.ok y : PR α) := fun x q => by cases q
theorem bindP_nz {α β : Type} {a : PR α} {k : α → List Tk → PR β} (h : NZ a) (hk : ∀ x r, a = .ok (x, r) → NZ (k x r)) : NZ (bindP a k) := by
  cases a with
  | error x => exact fun y q => by cases q; exact h x rfl
  | ok y => obtain ⟨x, r⟩ := y; exact hk x r rfl
theorem numP_nz {e : Int} {l : List Tk} : NZ (numP e l) := fun x h => by rw [(numP_err h).1]; exact failAt_nz (by decide)
theorem nameP_nz {e : Int} {l : List Tk} : NZ (nameP e l) := fun x h => by rw [(nameP_err h).1]; exact failAt_nz (by decide)
theorem varP_nz {vl : List Va} {e : Int} {l : List Tk} : NZ (varP vl e l) := fun x h => by
  rcases varP_err h with ⟨rfl, -⟩ | ⟨t, r, -, rfl, -⟩
  · exact failAt_nz (by decide)
  · exact failAt_nz (by decide)
theorem headP_nz {vl : List Va} {e : Int} {k : Nat} {l : List Tk} : NZ (headP vl e k l) := by
  intro x h
  rw [headP] at h
  split at h
  · cases q : numP e l with
    | error y => rw [q] at h; cases h; exact numP_nz _ q
    | ok y => rw [q] at h; cases h
  · split at h
    · cases q : varP vl e l with
      | error y => rw [q] at h; cases h; exact varP_nz _ q
      | ok y => rw [q] at h; cases h
    · cases h
theorem closeP_nz {α : Type} {e : Int} {x : α} {l : List Tk} : NZ (closeP e x l) := by
  rw [closeP]; split
  · exact NZ.ok
  · exact NZ.fail (by decide)
theorem subsA_nz {α : Type} {E : List Tk → PR α} (hE : ∀ l, NZ (E l)) : ∀ (m : Nat) (l : List Tk) (acc : List α), NZ (subsA E m l acc)
  | 0, l, acc => NZ.ok
  | m + 1, l, acc => by
    intro x h
    rw [subsA] at h
    cases q : E l with
    | error y => rw [q] at h; cases h; exact hE l _ q
    | ok y => obtain ⟨a, r⟩ := y; rw [q] at h; exact subsA_nz hE m r _ x h
theorem exprP_nz {vl : List Va} {e : Int} : ∀ (f : Nat) (l : List Tk), NZ (exprP vl e f l)
  | 0, l => NZ.fail (by decide)
  | f + 1, l => by
    intro x h
    rw [exprP] at h
    split at h
    · cases hk : pickT wordOf 8 l.tail with
      | none => rw [hk] at h; cases h; exact failAt_nz (by decide)
      | some k =>
        rw [hk] at h
        simp only at h
        cases hh : headP vl e k l.tail.tail with
        | error y => rw [hh] at h; cases h; exact headP_nz _ hh
        | ok y =>
          obtain ⟨vn, l3⟩ := y
          rw [hh] at h
          simp only at h
          cases hs : subsA (exprP vl e f) (partsOf k).toNat l3 [] with
          | error y => rw [hs] at h; cases h; exact subsA_nz (exprP_nz f) _ _ _ _ hs
          | ok z => obtain ⟨xs, l4⟩ := z; rw [hs] at h; exact closeP_nz x h
    · cases h; exact failAt_nz (by decide)
theorem listG_nz {S : List Tk → PR St} (hS : ∀ l, NZ (S l)) (hlt : ∀ l x l', S l = .ok (x, l') → l'.length < l.length) : ∀ (g : Nat) (l : List Tk) (acc : List St), l.length < g → NZ (listG S g l acc)
  | 0, l, acc, hg => by omega
  | g + 1, l, acc, hg => by
    intro x h
    rw [listG] at h
    split at h
    · cases h
    · cases q : S l with
      | error y => rw [q] at h; cases h; exact hS l _ q
      | ok y => obtain ⟨a, r⟩ := y; rw [q] at h; have := hlt l a r q; exact listG_nz hS hlt g r _ (by omega) x h
theorem listP_nz {S : List Tk → PR St} {e : Int} (hS : ∀ l, NZ (S l)) (hlt : ∀ l x l', S l = .ok (x, l') → l'.length < l.length) (l : List Tk) : NZ (listP S e l) := by
  rw [listP]; split
  · exact listG_nz hS hlt _ _ _ (by omega)
  · exact NZ.fail (by decide)
theorem optP_nz {α : Type} {b : Bool} {z : α} {a : List Tk → PR α} (ha : ∀ l, NZ (a l)) (l : List Tk) : NZ (optP b z a l) := by
  rw [optP]; split
  · exact ha l
  · exact NZ.ok
theorem stmtP_nz {vl : List Va} {e : Int} : ∀ (f : Nat) (l : List Tk), NZ (stmtP vl e f l)
  | 0, l => NZ.fail (by decide)
  | f + 1, l => by
    have hlt : ∀ l x l', stmtP vl e f l = .ok (x, l') → l'.length < l.length := fun l x l' h => (stmtP_sub f l x l' h).2
    rw [stmtP]
    split
    · cases hk : pickT verbOf 7 l.tail with
      | none => exact NZ.fail (by decide)
      | some k =>
        exact bindP_nz (optP_nz (fun _ => varP_nz) _) fun v r _ => bindP_nz (optP_nz (exprP_nz f) _) fun x r _ => bindP_nz (optP_nz (exprP_nz f) _) fun y r _ =>
          bindP_nz (optP_nz (listP_nz (stmtP_nz f) hlt) _) fun b r _ => bindP_nz (optP_nz (listP_nz (stmtP_nz f) hlt) _) fun el r _ => closeP_nz
    · exact NZ.fail (by decide)
theorem letsG_nz {e : Int} : ∀ (g : Nat) (l : List Tk) (acc : List Va), l.length < g → NZ (letsG e g l acc)
  | 0, l, acc, hg => by omega
  | g + 1, l, acc, hg => by
    rw [letsG]
    split
    · refine bindP_nz nameP_nz fun s r h1 => bindP_nz numP_nz fun n r2 h2 => ?_
      obtain ⟨t, rfl, -, -⟩ := numP_ok h2
      obtain ⟨t', e1, -, -⟩ := nameP_ok h1
      have := congrArg List.length e1
      rw [List.length_tail] at this
      simp only [List.length_cons] at this
      exact letsG_nz g r2 _ (by omega)
    · exact NZ.ok
theorem bodyG_nz {S : List Tk → PR St} (hS : ∀ l, NZ (S l)) (hlt : ∀ l x l', S l = .ok (x, l') → l'.length < l.length) : ∀ (g : Nat) (l : List Tk) (acc : List St), l.length < g → NZ (bodyG S g l acc)
  | 0, l, acc, hg => by omega
  | g + 1, l, acc, hg => by
    intro x h
    rw [bodyG] at h
    split at h
    · cases h
    · cases q : S l with
      | error y => rw [q] at h; cases h; exact hS l _ q
      | ok y => obtain ⟨a, r⟩ := y; rw [q] at h; have := hlt l a r q; exact bodyG_nz hS hlt g r _ (by omega) x h
theorem progP_nz {e : Int} {l : List Tk} : NZ (progP e l) := by
  rw [progP]
  exact bindP_nz (letsG_nz _ _ _ (by omega)) fun vl r _ => bindP_nz (bodyG_nz (stmtP_nz 13) (fun l x l' h => (stmtP_sub 13 l x l' h).2) _ _ _ (by omega)) fun b r _ => NZ.ok
theorem parseP_err {s : ByteArray} {x : Int × Int} (h : parseP s = .error x) : x.1 ≠ 0 := by
  rw [parseP] at h
  cases hs : scanP s with
  | error y =>
    rw [hs] at h
    cases h
    rw [scanP] at hs
    split at hs
    · cases hs; show (3 : Int) ≠ 0; decide
    · cases hl : scanG s (s.size + 1) (runB blankB s 0) [] with
      | ok l' => rw [hl] at hs; cases hs
      | error i => rw [hl] at hs; cases hs; show (7 : Int) ≠ 0; decide
  | ok l =>
    rw [hs] at h
    simp only at h
    cases hp : progP s.size l with
    | error y => rw [hp] at h; cases h; exact progP_nz _ hp
    | ok y =>
      obtain ⟨pr, r⟩ := y
      rw [hp] at h
      simp only at h
      split at h
      · rename_i hc; cases h; exact hc
      · cases h
end Go.Proofs.YthefnnkmpcgcmaaDoor

namespace Go.Proofs.YthefnnkmpcgcmaaDoor
open Go X
set_option maxHeartbeats 2000000
section
variable {P : Program} {ρ : Env} {S : Heap → Prop} {ty : TypeId} {σ : PH} {Γ Γ' : List HP}
end
section
variable {P : Program} {ρ : Env} {ty : TypeId} {σ : PH} {Γ Γ' : List HP}
end
end Go.Proofs.YthefnnkmpcgcmaaDoor

namespace Go.Proofs.YthefnnkmpcgcmaaDoor
open Go X
set_option maxHeartbeats 2000000
def nptr (u : Bool) (b : Nat) : Value := .pointer (if u = true then some ⟨b, 0, none⟩ else none)
section
variable (σ : PH) (T : TypeId) (b : Nat) (vs : List Value)
end
def Bld (T : TypeId) (b : Nat) (vs : List Value) (acc : ByteArray) : HP := fun m => ∃ (u : Bool) (p : Option Addr) (c : Nat), (acc.size = 0 → p = none ∧ c = 0) ∧ Sat [blk b (nptr u b :: .slice p acc.size c :: vs) T, lst 5 1 (.slice p acc.size c) acc.size (Lib.strCells acc)] m
theorem Bld.mk {T : TypeId} {b : Nat} {vs : List Value} {acc : ByteArray} {p : Option Addr} {c : Nat} (u : Bool) (h : acc.size = 0 → p = none ∧ c = 0) : Ent [blk b (nptr u b :: .slice p acc.size c :: vs) T, lst 5 1 (.slice p acc.size c) acc.size (Lib.strCells acc)] [Bld T b vs acc] :=
  Ent.fold1 (Ent.refl _) fun m hm => ⟨u, p, c, h, hm⟩
section
variable (σ : PH) (T : TypeId) (b : Nat) (vs : List Value)
end
end Go.Proofs.YthefnnkmpcgcmaaDoor

namespace Go.Proofs.YthefnnkmpcgcmaaDoor
open Go X
set_option maxHeartbeats 4000000
section
variable (σ : PH) (b : Nat) (v : Value) (acc : ByteArray) (g c : Nat)
end
theorem exsT_snoc (vl : List Va) {l : List Ex} {k : Nat} {x : Ex} (h : l[k]? = some x) : exsT vl (l.take (k + 1)) = exsT vl (l.take k) ++ (sp1 ++ exT vl x) := by
  rw [List.take_add_one, h, Option.toList_some, exsT_app, exsT, exsT, ByteArray.append_empty]
theorem exsT_cut (vl : List Va) {l : List Ex} {k : Nat} {x : Ex} (h : l[k]? = some x) : (exsT vl (l.take k)).size + (1 + (exT vl x).size) ≤ (exsT vl l).size := by
  have e1 : exsT vl l = exsT vl (l.take (k + 1)) ++ exsT vl (l.drop (k + 1)) := by rw [← exsT_app, List.take_append_drop]
  have e2 : sp1.size = 1 := rfl
  rw [e1, exsT_snoc vl h]; simp only [ByteArray.size_append]; omega
theorem nameAt_get {vl : List Va} {k : Nat} {w : Va} (h : vl[k]? = some w) : nameAt vl (k : Int) = w.name := by rw [nameAt, Int.toNat_natCast, h]; rfl
end Go.Proofs.YthefnnkmpcgcmaaDoor

namespace Go.Proofs.YthefnnkmpcgcmaaDoor
open Go X
set_option maxHeartbeats 4000000
theorem stsT_app (vl : List Va) (m : List St) : ∀ (l : List St) (b : Bool), stsT vl b (l ++ m) = stsT vl b l ++ stsT vl (b || decide (0 < l.length)) m
  | [], b => by rw [List.nil_append, stsT, ByteArray.empty_append]; simp
  | y :: r, b => by rw [List.cons_append, stsT, stsT, stsT_app vl m r true]; simp [ByteArray.append_assoc]
theorem stsT_step (vl : List Va) {l : List St} {k : Nat} {x : St} (h : l[k]? = some x) : stsT vl false (l.take (k + 1)) = stsT vl false (l.take k) ++ (optT (decide (0 < k)) sp1 ++ stT vl x) := by
  have hk := (List.getElem?_eq_some_iff.1 h).1
  have e : (l.take k).length = k := by rw [List.length_take]; omega
  rw [List.take_add_one, h, Option.toList_some, stsT_snoc, e, Bool.false_or]
theorem stsT_cut (vl : List Va) {l : List St} {k : Nat} {x : St} (h : l[k]? = some x) : (stsT vl false (l.take k)).size + ((optT (decide (0 < k)) sp1).size + (stT vl x).size) ≤ (stsT vl false l).size := by
  have e1 : stsT vl false l = stsT vl false (l.take (k + 1)) ++ stsT vl (false || decide (0 < (l.take (k + 1)).length)) (l.drop (k + 1)) := by rw [← stsT_app, List.take_append_drop]
  rw [e1, stsT_step vl h]; simp only [ByteArray.size_append]; omega
end Go.Proofs.YthefnnkmpcgcmaaDoor

namespace Go.Proofs
open Go.Shelf
def Tryd.laysM171_ren : Go.Shelf.Ren := ⟨fun | 171 => 27 | 243 => 50 | 246 => 78 | 283 => 99 | 284 => 100 | 285 => 101 | 286 => 102 | 129 => 110 | 317 => 109 | 318 => 111 | 319 => 112 | 320 => 113 | 337 => 118 | 338 => 119 | n => n, fun | 3 => 3 | 9 => 9 | 2 => 2 | 4 => 4 | 171 => 135 | 0 => 0 | 53 => 136 | 37 => 61 | 5 => 5 | 173 => 139 | 212 => 148 | 51 => 149 | 20 => 20 | 213 => 150 | 46 => 46 | 232 => 161 | 233 => 162 | n => n, fun | 17 => 0 | 18 => 3 | 19 => 4 | n => n⟩
theorem Tryd.laysM171 : Go.Proofs.LaysM.n171 Tryd.prog Tryd.laysM171_ren := {
  mixed := by kernel_rfl
  f129 := Tryd.func110.trans (congrArg some (by kernel_rfl))
  f171 := Tryd.func27.trans (congrArg some (by kernel_rfl))
  f243 := Tryd.func50.trans (congrArg some (by kernel_rfl))
  f246 := Tryd.func78.trans (congrArg some (by kernel_rfl))
  f283 := Tryd.func99.trans (congrArg some (by kernel_rfl))
  f284 := Tryd.func100.trans (congrArg some (by kernel_rfl))
  f285 := Tryd.func101.trans (congrArg some (by kernel_rfl))
  f286 := Tryd.func102.trans (congrArg some (by kernel_rfl))
  f317 := Tryd.func109.trans (congrArg some (by kernel_rfl))
  f318 := Tryd.func111.trans (congrArg some (by kernel_rfl))
  f319 := Tryd.func112.trans (congrArg some (by kernel_rfl))
  f320 := Tryd.func113.trans (congrArg some (by kernel_rfl))
  f337 := Tryd.func118.trans (congrArg some (by kernel_rfl))
  f338 := Tryd.func119.trans (congrArg some (by kernel_rfl))
  t0 := Tryd.underlying0
  a0 := Tryd.isAgg0
  z0 := Tryd.sizeOf0
  v0 := Tryd.zeroValue0
  t2 := Tryd.underlying2
  a2 := Tryd.isAgg2
  z2 := Tryd.sizeOf2
  v2 := Tryd.zeroValue2
  t3 := Tryd.underlying3
  a3 := Tryd.isAgg3
  z3 := Tryd.sizeOf3
  v3 := Tryd.zeroValue3
  t4 := Tryd.underlying4
  a4 := Tryd.isAgg4
  z4 := Tryd.sizeOf4
  v4 := Tryd.zeroValue4
  t5 := Tryd.underlying5
  a5 := Tryd.isAgg5
  z5 := Tryd.sizeOf5
  v5 := Tryd.zeroValue5
  t9 := Tryd.underlying9
  a9 := Tryd.isAgg9
  z9 := Tryd.sizeOf9
  v9 := Tryd.zeroValue9
  t20 := Tryd.underlying20
  a20 := Tryd.isAgg20
  z20 := Tryd.sizeOf20
  v20 := Tryd.zeroValue20
  t37 := Tryd.underlying61
  a37 := Tryd.isAgg61
  z37 := Tryd.sizeOf61
  v37 := Tryd.zeroValue61
  t46 := Tryd.underlying46
  a46 := Tryd.isAgg46
  z46 := Tryd.sizeOf46
  v46 := Tryd.zeroValue46
  t51 := Tryd.underlying149
  a51 := Tryd.isAgg149
  z51 := Tryd.sizeOf149
  v51 := Tryd.zeroValue149
  t53 := Tryd.underlying136
  a53 := Tryd.isAgg136
  z53 := Tryd.sizeOf136
  v53 := Tryd.zeroValue136
  t171 := Tryd.underlying135
  a171 := Tryd.isAgg135
  z171 := Tryd.sizeOf135
  v171 := Tryd.zeroValue135
  t173 := Tryd.underlying139
  a173 := Tryd.isAgg139
  z173 := Tryd.sizeOf139
  v173 := Tryd.zeroValue139
  t212 := Tryd.underlying148
  a212 := Tryd.isAgg148
  z212 := Tryd.sizeOf148
  v212 := Tryd.zeroValue148
  t213 := Tryd.underlying150
  a213 := Tryd.isAgg150
  z213 := Tryd.sizeOf150
  t232 := Tryd.underlying161
  a232 := Tryd.isAgg161
  z232 := Tryd.sizeOf161
  v232 := Tryd.zeroValue161
  t233 := Tryd.underlying162
  a233 := Tryd.isAgg162
  z233 := Tryd.sizeOf162
  v233 := Tryd.zeroValue162
  g17 := by kernel_rfl
  g18 := by kernel_rfl
  g19 := by kernel_rfl
  i0 := by kernel_rfl
  i2 := by kernel_rfl
  i3 := by kernel_rfl
  i4 := by kernel_rfl
  i5 := by kernel_rfl
  i9 := by kernel_rfl
  i20 := by kernel_rfl
  i37 := by kernel_rfl
  i46 := by kernel_rfl
  i51 := by kernel_rfl
  i53 := by kernel_rfl
  i171 := by kernel_rfl
  i173 := by kernel_rfl
  i212 := by kernel_rfl
  i232 := by kernel_rfl
  i233 := by kernel_rfl
  m17 := by kernel_rfl
  m18 := by kernel_rfl
  m19 := by kernel_rfl }
open Go.RowKit Go.Sort Go.Lib in
theorem Tryd.strconv_Itoa (n : Int) (h0 : -9223372036854775808 ≤ n) (h1 : n ≤ 9223372036854775807) (w : World) (htab : Lib.TabIs Tryd.prog w "internal/strconv.uint64pow10" .u64 Lib.pow10Tab) :
    Calls Tryd.prog 27 #[.int .i64 n] w fun e w' => e = .returned (.string ⟨(Lib.itoa n).toArray⟩) ∧ ∃ k os, w' = grow (w.drewN k) os := Any.strconv_Itoa Tryd.laysM171 n h0 h1 w htab
end Go.Proofs

namespace Go.Proofs.YthefnnkmpcgcmaaDoor
open Go X
set_option maxHeartbeats 4000000
theorem itoa_i (σ : PH) (n : Int) (h0 : -9223372036854775808 ≤ n) (h1 : n ≤ 9223372036854775807) (hT : Tab σ) :
    CallsA Tryd.prog 27 #[i64 n] σ [] (RetA fun v σ' Γ' => v = .string (itoaS n) ∧ σ = σ' ∧ Γ' = []) := by
  refine CallsA.below (enters Tryd.func27 rfl rfl) fun w hw => ?_; refine (Tryd.strconv_Itoa n h0 h1 w (hT w hw)).mono ?_
  rintro e w' ⟨rfl, k, os, rfl⟩
  exact ⟨_, rfl, rfl, grow_below w k os⟩
def printP (p : Pr) : PErr ByteArray := if checkP p ≠ 0 then .error (checkP p, -1) else if 6000 < (prT p).size then .error (3, -1) else .ok (prT p)
def okB : PErr ByteArray → ByteArray | .error _ => ByteArray.empty | .ok s => s
theorem varsT_step {l : List Va} {k : Nat} {x : Va} (h : l[k]? = some x) : varsT (l.take (k + 1)) = varsT (l.take k) ++ varT x := by
  rw [List.take_add_one, h, Option.toList_some, varsT_app, varsT, varsT, ByteArray.append_empty]
theorem varsT_cut {l : List Va} {k : Nat} {x : Va} (h : l[k]? = some x) : (varsT (l.take k)).size + (varT x).size ≤ (varsT l).size := by
  have e1 : varsT l = varsT (l.take (k + 1)) ++ varsT (l.drop (k + 1)) := by rw [← varsT_app, List.take_append_drop]
  rw [e1, varsT_step h]; simp only [ByteArray.size_append]; omega
theorem bodyT_step (vl : List Va) {l : List St} {k : Nat} {x : St} (h : l[k]? = some x) : bodyT vl (l.take (k + 1)) = bodyT vl (l.take k) ++ (stT vl x ++ nl1) := by
  rw [List.take_add_one, h, Option.toList_some, bodyT_app, bodyT, bodyT, ByteArray.append_empty]
theorem bodyT_cut (vl : List Va) {l : List St} {k : Nat} {x : St} (h : l[k]? = some x) : (bodyT vl (l.take k)).size + ((stT vl x).size + 1) ≤ (bodyT vl l).size := by
  have e1 : bodyT vl l = bodyT vl (l.take (k + 1)) ++ bodyT vl (l.drop (k + 1)) := by rw [← bodyT_app, List.take_append_drop]
  rw [e1, bodyT_step vl h]; simp only [ByteArray.size_append, show nl1.size = 1 from rfl]; omega
section
variable (σ : PH) (b : Nat) (v : Value) (acc : ByteArray) (g c : Nat)
end
end Go.Proofs.YthefnnkmpcgcmaaDoor

namespace Go.Proofs.YthefnnkmpcgcmaaDoor
open Go X
set_option maxHeartbeats 1000000
theorem toks_z (vl : List Va) (z : ByteArray) (x : Ex) : toks (exPc vl z x) = toks (exPc vl noB x) := by cases x; rfl
theorem toks_zs (vl : List Va) (z : ByteArray) (x : St) : toks (stPc vl z x) = toks (stPc vl noB x) := by cases x; rfl
theorem toks_cons (p : ByteArray × Tk) (r : Pc) : toks (p :: r) = p.2 :: toks r := rfl
theorem toks_nil : toks [] = [] := rfl
theorem isT_tkW (w v : ByteArray) (r : List Tk) : isT w (tkW v :: r) = decide (v = w) := by
  show (!false && decide (v = w)) = _; simp
theorem pick_word {op : Int} (h : 1 ≤ op ∧ op ≤ 8) (r : List Tk) : pickT wordOf 8 (tkW (wordOf op) :: r) = some op.toNat := by
  have hop : op = 1 ∨ op = 2 ∨ op = 3 ∨ op = 4 ∨ op = 5 ∨ op = 6 ∨ op = 7 ∨ op = 8 := by omega
  rcases hop with rfl | rfl | rfl | rfl | rfl | rfl | rfl | rfl <;> rfl
theorem pick_verb {op : Int} (h : 1 ≤ op ∧ op ≤ 7) (r : List Tk) : pickT verbOf 7 (tkW (verbOf op) :: r) = some op.toNat := by
  have hop : op = 1 ∨ op = 2 ∨ op = 3 ∨ op = 4 ∨ op = 5 ∨ op = 6 ∨ op = 7 := by omega
  rcases hop with rfl | rfl | rfl | rfl | rfl | rfl | rfl <;> rfl
def Found (vl : List Va) : Prop := ∀ v : Int, 0 ≤ v → v < vl.length → nameOk (nameAt vl v) = true ∧ idxG (nameAt vl v) vl 0 = some v.toNat
theorem idxG_at {s : ByteArray} : ∀ (l : List Va) (k j : Nat) (w : Va), l[k]? = some w → w.name = s → (∀ i x, i < k → l[i]? = some x → x.name ≠ s) → idxG s l j = some (j + k)
  | [], k, j, w, h, _, _ => by simp at h
  | v :: l, 0, j, w, h, hs, _ => by
    simp only [List.getElem?_cons_zero, Option.some.injEq] at h
    subst h
    rw [idxG, if_pos hs]; rfl
  | v :: l, k + 1, j, w, h, hs, hne => by
    have h0 := hne 0 v (by omega) rfl
    rw [idxG, if_neg h0, idxG_at l k (j + 1) w (by simpa using h) hs (fun i x hi hx => hne (i + 1) x (by omega) (by simpa using hx))]
    congr 1; omega
theorem found_of {p : Pr} (h : PrW p) : Found p.vars := fun v h0 h1 => by
  have hk : v.toNat < p.vars.length := by omega
  have hg : p.vars[v.toNat]? = some p.vars[v.toNat] := List.getElem?_eq_getElem hk
  have hn : nameAt p.vars v = p.vars[v.toNat].name := by rw [nameAt, hg]; rfl
  rw [hn]
  refine ⟨(h.names _ (List.getElem_mem hk)).1, ?_⟩
  rw [idxG_at p.vars v.toNat 0 _ hg rfl (fun i x hi hx => ?_), Nat.zero_add]
  have hi' : i < p.vars.length := by omega
  rw [List.getElem?_eq_getElem hi'] at hx
  cases hx
  exact List.pairwise_iff_getElem.1 h.apart i v.toNat hi' hk hi
theorem varP_at {vl : List Va} (hf : Found vl) {e v : Int} (h0 : 0 ≤ v) (h1 : v < vl.length) (R : List Tk) : varP vl e (tkW (nameAt vl v) :: R) = .ok (v, R) := by
  obtain ⟨a, b⟩ := hf v h0 h1
  rw [varP]
  rw [show (tkW (nameAt vl v)).text = nameAt vl v from rfl, if_pos a, b]
  simp only
  rw [Int.toNat_of_nonneg h0]
theorem headP_at {vl : List Va} (hf : Found vl) {e op v n : Int} (hop : 1 ≤ op ∧ op ≤ 8) (hv : op = 2 ∨ op = 3 → 0 ≤ v ∧ v < vl.length) (hv0 : ¬ (op = 2 ∨ op = 3) → v = 0) (hn : n ≠ 0 → op = 1) (R : List Tk) : headP vl e op.toNat (toks (headPc vl op v n) ++ R) = .ok ((v, n), R) := by
  rw [headP, headPc]
  by_cases h1 : op = 1
  · rw [if_pos (by omega), if_pos h1, hv0 (by omega)]; rfl
  · have hn0 : n = 0 := Decidable.byContradiction fun q => h1 (hn q)
    rw [if_neg (by omega), if_neg h1]
    by_cases h2 : op = 2 ∨ op = 3
    · obtain ⟨a, b⟩ := hv h2
      rw [if_pos (by omega), if_pos h2, toks_cons, toks_nil, List.singleton_append, varP_at hf a b, hn0]
    · rw [if_neg (by omega), if_neg h2, hv0 h2, hn0]; rfl
theorem subsA_at {vl : List Va} {E : List Tk → PR Ex} : ∀ (l : List Ex) (acc : List Ex) (R : List Tk), (∀ x ∈ l, ∀ R, E (toks (exPc vl noB x) ++ R) = .ok (x, R)) → subsA E l.length (toks (exsPc vl l) ++ R) acc = .ok (acc ++ l, R)
  | [], acc, R, _ => by rw [exsPc, toks_nil, List.nil_append, List.append_nil]; rfl
  | x :: l, acc, R, h => by
    rw [exsPc, toks_app, toks_z, List.append_assoc, List.length_cons, subsA, h x (by simp)]
    simp only
    rw [subsA_at l _ R (fun y hy => h y (by simp [hy])), List.append_assoc]; rfl
theorem closeP_at {α : Type} {e : Int} (x : α) (R : List Tk) : closeP e x (tkW rpar :: R) = .ok (x, R) := by
  rw [closeP, isT_tkW, decide_eq_true rfl, if_pos rfl]; rfl
theorem exprP_at {vl : List Va} (hf : Found vl) {e : Int} (x : Ex) : ∀ (deep : Int) (f : Nat), (f : Int) + deep = 13 → ExW vl.length deep x → ∀ R, exprP vl e f (toks (exPc vl noB x) ++ R) = .ok (x, R) := by
  refine Ex.ind (P := fun x => ∀ (deep : Int) (f : Nat), (f : Int) + deep = 13 → ExW vl.length deep x → ∀ R, exprP vl e f (toks (exPc vl noB x) ++ R) = .ok (x, R)) ?_ x
  intro op v n l ih deep f hf13 hw R
  rw [ExW] at hw
  obtain ⟨h1, h2, h3, h4, h5, h6, h7⟩ := hw
  obtain ⟨g, rfl⟩ : ∃ g, f = g + 1 := ⟨f - 1, by omega⟩
  have hto : ((op.toNat : Nat) : Int) = op := by omega
  rw [exPc, toks_cons, toks_cons, toks_app, toks_app, toks_cons, toks_nil]
  simp only [List.cons_append, List.append_assoc, List.nil_append]
  rw [exprP, isT_tkW, decide_eq_true rfl, if_pos rfl, List.tail_cons, pick_word h2]
  simp only
  rw [List.tail_cons, headP_at hf h2 h4 h5 h6]
  simp only
  have hp : (partsOf ((op.toNat : Nat) : Int)).toNat = l.length := by rw [hto, ← h3]; rfl
  rw [hp, subsA_at l [] _ (fun x hx R => ih x hx (deep + 1) g (by omega) (h7.mem x hx) R)]
  simp only
  rw [closeP_at, hto]; rfl
theorem optP_at {α : Type} {b : Bool} {z x : α} {a : List Tk → PR α} {q : Pc} {R : List Tk} (h1 : b = true → a (toks q ++ R) = .ok (x, R)) (h2 : b = false → x = z) : optP b z a (toks (optPc b q) ++ R) = .ok (x, R) := by
  cases b with
  | true => exact h1 rfl
  | false => rw [h2 rfl]; rfl
theorem stPc_head (vl : List Va) (z : ByteArray) (x : St) : ∃ r, toks (stPc vl z x) = tkW lpar :: r := by cases x; exact ⟨_, rfl⟩
theorem listG_at {vl : List Va} {S : List Tk → PR St} : ∀ (l : List St) (z : ByteArray) (g : Nat) (acc : List St) (R : List Tk), l.length < g → (∀ x ∈ l, ∀ R, S (toks (stPc vl noB x) ++ R) = .ok (x, R)) → listG S g (toks (stsPc vl z l) ++ tkW rpar :: R) acc = .ok (acc ++ l, R)
  | [], z, g, acc, R, hg, _ => by
    obtain ⟨g, rfl⟩ : ∃ k, g = k + 1 := ⟨g - 1, by omega⟩
    rw [stsPc, toks_nil, List.nil_append, listG, isT_tkW, decide_eq_true rfl, if_pos rfl, List.append_nil]; rfl
  | x :: l, z, g, acc, R, hg, h => by
    obtain ⟨g, rfl⟩ : ∃ k, g = k + 1 := ⟨g - 1, by omega⟩
    simp only [List.length_cons] at hg
    obtain ⟨r, hr⟩ := stPc_head vl noB x
    have hx := h x (by simp) (toks (stsPc vl sp1 l) ++ tkW rpar :: R)
    rw [stsPc, toks_app, toks_zs, List.append_assoc]
    rw [hr] at hx ⊢
    rw [listG, List.cons_append, isT_tkW, if_neg (by decide), ← List.cons_append, hx]
    simp only
    rw [listG_at l sp1 g _ R (by omega) (fun y hy => h y (by simp [hy])), List.append_assoc]; rfl
theorem stsPc_len (vl : List Va) : ∀ (l : List St) (z : ByteArray), l.length ≤ (toks (stsPc vl z l)).length
  | [], z => Nat.zero_le _
  | x :: l, z => by
    obtain ⟨r, hr⟩ := stPc_head vl z x
    have := stsPc_len vl l sp1
    rw [stsPc, toks_app, hr, List.length_append, List.length_cons, List.length_cons]; omega
theorem listP_at {vl : List Va} {S : List Tk → PR St} {e : Int} (l : List St) (R : List Tk) (h : ∀ x ∈ l, ∀ R, S (toks (stPc vl noB x) ++ R) = .ok (x, R)) : listP S e (toks ((sp1, tkW lpar) :: (stsPc vl noB l ++ [(noB, tkW rpar)])) ++ R) = .ok (l, R) := by
  rw [toks_cons, toks_app, toks_cons, toks_nil]
  simp only [List.cons_append, List.append_assoc, List.nil_append]
  rw [listP, isT_tkW, decide_eq_true rfl, if_pos rfl, List.tail_cons, listG_at l noB _ [] R ?_ h, List.nil_append]
  have := stsPc_len vl l noB
  rw [List.length_append]; omega
theorem stmtP_at {vl : List Va} (hf : Found vl) {e : Int} (x : St) : ∀ (deep : Int) (f : Nat), (f : Int) + deep = 13 → StW vl.length deep x → ∀ R, stmtP vl e f (toks (stPc vl noB x) ++ R) = .ok (x, R) := by
  refine St.ind (P := fun x => ∀ (deep : Int) (f : Nat), (f : Int) + deep = 13 → StW vl.length deep x → ∀ R, stmtP vl e f (toks (stPc vl noB x) ++ R) = .ok (x, R)) ?_ x
  intro op v ex fx body els ih jh deep f hf13 hw R
  rw [StW] at hw
  obtain ⟨h1, h2, h3, h4, h5, h6, h7, h8, h9, h10, h11, h12⟩ := hw
  obtain ⟨g, rfl⟩ : ∃ g, f = g + 1 := ⟨f - 1, by omega⟩
  have hto : ((op.toNat : Nat) : Int) = op := by omega
  rw [stPc, toks_cons, toks_cons, toks_app, toks_app, toks_app, toks_app, toks_app, toks_cons, toks_nil]
  simp only [List.cons_append, List.append_assoc, List.nil_append]
  rw [stmtP, isT_tkW, decide_eq_true rfl, if_pos rfl, List.tail_cons, pick_verb h2]
  simp only
  rw [List.tail_cons, hto]
  rw [optP_at (x := v) (fun q => by rw [toks_cons, toks_nil, List.singleton_append]; exact varP_at hf (h3 q).1 (h3 q).2 _) (fun q => h4 q)]
  rw [bindP, optP_at (x := ex) (fun q => by rw [toks_z]; exact exprP_at hf ex (deep + 1) g (by omega) (h5 q) _) (fun q => h6 q)]
  rw [bindP, optP_at (x := fx) (fun q => by rw [toks_z]; exact exprP_at hf fx (deep + 1) g (by omega) (h7 q) _) (fun q => h8 q)]
  rw [bindP, optP_at (x := body) (fun q => listP_at body _ (fun x hx R => ih x hx (deep + 1) g (by omega) (h11.mem x hx) R)) (fun q => h9 q)]
  rw [bindP, optP_at (x := els) (fun q => listP_at els _ (fun x hx R => jh x hx (deep + 1) g (by omega) (h12.mem x hx) R)) (fun q => h10 q)]
  rw [bindP]
  exact closeP_at _ R
theorem bodyG_at {vl : List Va} {S : List Tk → PR St} : ∀ (l : List St) (z : ByteArray) (g : Nat) (acc : List St), l.length < g → (∀ x ∈ l, ∀ R, S (toks (stPc vl noB x) ++ R) = .ok (x, R)) → bodyG S g (toks (bodyPc vl z l)) acc = .ok (acc ++ l, [])
  | [], z, g, acc, hg, _ => by
    obtain ⟨g, rfl⟩ : ∃ k, g = k + 1 := ⟨g - 1, by omega⟩
    rw [bodyPc, toks_nil, bodyG, if_pos (show ([] : List Tk).length = 0 from rfl), List.append_nil]
  | x :: l, z, g, acc, hg, h => by
    obtain ⟨g, rfl⟩ : ∃ k, g = k + 1 := ⟨g - 1, by omega⟩
    simp only [List.length_cons] at hg
    obtain ⟨r, hr⟩ := stPc_head vl noB x
    have hx := h x (by simp) (toks (bodyPc vl nl1 l))
    rw [bodyPc, toks_app, toks_zs]
    have hne : ¬ (toks (stPc vl noB x) ++ toks (bodyPc vl nl1 l)).length = 0 := by rw [hr, List.cons_append, List.length_cons]; omega
    rw [bodyG, if_neg hne, hx]
    simp only
    rw [bodyG_at l nl1 g _ (by omega) (fun y hy => h y (by simp [hy])), List.append_assoc]; rfl
theorem bodyPc_len (vl : List Va) : ∀ (l : List St) (z : ByteArray), l.length ≤ (toks (bodyPc vl z l)).length
  | [], z => Nat.zero_le _
  | x :: l, z => by
    obtain ⟨r, hr⟩ := stPc_head vl z x
    have := bodyPc_len vl l nl1
    rw [bodyPc, toks_app, hr, List.length_append, List.length_cons, List.length_cons]; omega
theorem bodyPc_let (vl : List Va) (l : List St) (z : ByteArray) : isT kwLet (toks (bodyPc vl z l)) = false := by
  cases l with
  | nil => rfl
  | cons x l =>
    obtain ⟨r, hr⟩ := stPc_head vl z x
    rw [bodyPc, toks_app, hr, List.cons_append, isT_tkW]; decide
end Go.Proofs.YthefnnkmpcgcmaaDoor

namespace Go.Proofs.YthefnnkmpcgcmaaDoor
open Go X
set_option maxHeartbeats 1000000
section
variable {a c : ByteArray}
theorem runB_plus {p : Nat → Bool} {s : ByteArray} : ∀ (n i : Nat), (∀ k, k < n → i + k < s.size ∧ p (byteAt s (i + k)) = true) → runB p s i = n + runB p s (i + n)
  | 0, i, _ => by rw [Nat.zero_add, Nat.add_zero]
  | n + 1, i, h => by
    have h0 := h 0 (by omega)
    rw [Nat.add_zero] at h0
    have := runB_plus n (i + 1) (fun k hk => by have := h (k + 1) (by omega); rwa [show i + (k + 1) = i + 1 + k by omega] at this)
    rw [runB_eq, if_pos h0, this, show i + (n + 1) = i + 1 + n by omega]; omega
theorem runB_in {p : Nat → Bool} {s : ByteArray} : ∀ (n i k : Nat), runB p s i = n → k < n → i + k < s.size ∧ p (byteAt s (i + k)) = true
  | 0, i, k, _, hk => by omega
  | n + 1, i, 0, h, hk => by
    rw [runB_eq] at h
    split at h
    · assumption
    · cases h
  | n + 1, i, k + 1, h, hk => by
    rw [runB_eq] at h
    split at h
    · have := runB_in (p := p) (s := s) n (i + 1) k (by omega) (by omega)
      rwa [show i + 1 + k = i + (k + 1) by omega] at this
    · cases h
theorem app_run {p : Nat → Bool} (hc : p (byteAt (a ++ c) a.size) = false) {j : Nat} (hj : j ≤ a.size) : runB p (a ++ c) j = runB p a j := by
  have h := runB_loc (p := p) (s := a ++ c) (w := a) (i := 0) (by rw [Nat.zero_add, ByteArray.extract_append_eq_left rfl]) (by rw [ByteArray.size_append]; omega) (by rw [Nat.zero_add]; rintro ⟨-, q⟩; rw [hc] at q; cases q) (a.size - j) j rfl hj
  rwa [Nat.zero_add] at h
theorem app_ext {i e : Nat} (he : e ≤ a.size) : (a ++ c).extract i e = a.extract i e := by
  have h : (a ++ c).extract 0 a.size = a := ByteArray.extract_append_eq_left rfl
  conv => rhs; rw [← h]
  rw [ByteArray.extract_extract, Nat.zero_add, Nat.zero_add, Nat.min_eq_left he]
theorem app_one (hl : letterB (byteAt (a ++ c) a.size) = false) (hd : digitB (byteAt (a ++ c) a.size) = false) {i : Nat} (hi : i < a.size) : oneT (a ++ c) i = oneT a i := by
  have h1 := runB_le letterB a (i := i) (by omega)
  have h2 := runB_le digitB a (i := i + 1) (by omega)
  rw [oneT, oneT, byteAt_left hi, app_run hl (by omega), app_run hd (by omega), app_ext (by omega), app_ext (by omega), app_ext (by omega)]
def Rel (a c : ByteArray) (i j : Nat) : Prop := (i < a.size ∧ j = i) ∨ (i = a.size ∧ j = a.size + runB blankB (a ++ c) a.size)
theorem rel_next {k : Nat} (hk : k ≤ a.size) : Rel a c (k + runB blankB a k) (k + runB blankB (a ++ c) k) := by
  have hle := runB_le blankB a hk
  have hin : ∀ n, n < runB blankB a k → k + n < (a ++ c).size ∧ blankB (byteAt (a ++ c) (k + n)) = true := fun n hn => by
    obtain ⟨h1, h2⟩ := runB_in _ k n rfl hn
    exact ⟨by rw [ByteArray.size_append]; omega, by rw [byteAt_left h1]; exact h2⟩
  have hp := runB_plus _ _ hin
  by_cases h : k + runB blankB a k < a.size
  · left
    refine ⟨h, ?_⟩
    have hs := runB_stop blankB a _ k rfl
    have hz : runB blankB (a ++ c) (k + runB blankB a k) = 0 := runB_end (fun q => hs ⟨h, by rw [← byteAt_left (B := c) h]; exact q.2⟩)
    rw [hp, hz, Nat.add_zero]
  · right
    have e : k + runB blankB a k = a.size := by omega
    refine ⟨e, ?_⟩
    rw [hp, ← Nat.add_assoc, e]
theorem scan_pre (hl : letterB (byteAt (a ++ c) a.size) = false) (hd : digitB (byteAt (a ++ c) a.size) = false) : ∀ (f i : Nat) (acc l : List Tk), scanG a f i acc = .ok l → a.size < i + f → ∀ j, Rel a c i j → ∀ f', (a ++ c).size < j + f' →
    ∃ f'', scanG (a ++ c) f' j acc = scanG (a ++ c) f'' (a.size + runB blankB (a ++ c) a.size) l ∧ (a ++ c).size < a.size + runB blankB (a ++ c) a.size + f''
  | 0, i, acc, l, h, hf, j, hr, f', hf' => by rcases hr with ⟨h1, -⟩ | ⟨h1, -⟩ <;> omega
  | f + 1, i, acc, l, h, hf, j, hr, f', hf' => by
    rcases hr with ⟨h1, rfl⟩ | ⟨h1, rfl⟩
    · rw [scanG, if_pos h1] at h
      have hsz : (a ++ c).size = a.size + c.size := ByteArray.size_append
      obtain ⟨g, rfl⟩ : ∃ g, f' = g + 1 := ⟨f' - 1, by omega⟩
      cases ho : oneT a j with
      | none => rw [ho] at h; cases h
      | some t =>
        rw [ho] at h
        simp only at h
        obtain ⟨q1, q2, q3⟩ := oneT_size h1 ho
        have hrel := rel_next (c := c) q3
        have hpos : j + t.text.size ≤ j + t.text.size + runB blankB (a ++ c) (j + t.text.size) := Nat.le_add_right _ _
        obtain ⟨f'', e1, e2⟩ := scan_pre hl hd f _ _ l h (by omega) _ hrel g (by omega)
        refine ⟨f'', ?_, e2⟩
        rw [scanG, if_pos (by omega), app_one hl hd h1, ho]
        exact e1
    · rw [scanG, if_neg (by omega)] at h
      cases h
      exact ⟨f', rfl, hf'⟩
end
theorem blank_no {x : Nat} (h : blankB x = true) : letterB x = false ∧ digitB x = false := by
  have h : x = 32 ∨ x = 9 ∨ x = 10 ∨ x = 13 := of_decide_eq_true h
  exact ⟨decide_eq_false (by omega), decide_eq_false (by omega)⟩
theorem scan_join {a T : ByteArray} {l : List Tk} {r : Pc} (hl : scanP a = .ok l) (hG : Good true r) (hT : Blank T) (h1 : 0 < (joinB r ++ T).size) (hb : blankB (byteAt (joinB r ++ T) 0) = true) (h6 : (a ++ (joinB r ++ T)).size ≤ 6000) : ∃ m, scanP (a ++ (joinB r ++ T)) = .ok (l ++ m) ∧ Eqv (toks r) m := by
  have h0 : a.size ≤ 6000 := (scanP_ok hl).1
  have hg : scanG a (a.size + 1) (runB blankB a 0) [] = .ok l := by
    rw [scanP, if_neg (by omega)] at hl
    cases hq : scanG a (a.size + 1) (runB blankB a 0) [] with
    | ok l' => rw [hq] at hl; cases hl; rfl
    | error i => rw [hq] at hl; cases hl
  have hb0 : byteAt (a ++ (joinB r ++ T)) a.size = byteAt (joinB r ++ T) 0 := by
    have := byteAt_right (A := a) (B := joinB r ++ T) (k := 0) h1
    rwa [Nat.add_zero] at this
  obtain ⟨n1, n2⟩ := blank_no hb
  rw [← hb0] at n1 n2
  have hrel := rel_next (a := a) (c := joinB r ++ T) (k := 0) (Nat.zero_le _)
  rw [Nat.zero_add, Nat.zero_add] at hrel
  obtain ⟨f'', e1, e2⟩ := scan_pre n1 n2 _ _ _ _ hg (by omega) _ hrel ((a ++ (joinB r ++ T)).size + 1) (by omega)
  obtain ⟨m, e3, e4⟩ := back_pc (J := a ++ (joinB r ++ T)) hT r a true hG rfl f'' l e2
  refine ⟨m, ?_, ?_⟩
  · rw [scanP, if_neg (by omega), e1, e3]; rfl
  · rw [Eqv, e4, toks, List.map_map]; rfl
section
variable (m : List Tk)
def Ext {α : Type} (x y : PR α) : Prop := ∀ v r, x = .ok (v, r) → y = .ok (v, r ++ m)
variable {m} {vl : List Va} {e e' : Int}
theorem Ext.bad {α : Type} {x : Int × Int} {b : PR α} : Ext m (.error x) b := fun _ _ h => by cases h
theorem Ext.ok {α : Type} {x : α} {r : List Tk} : Ext m (.ok (x, r)) (.ok (x, r ++ m)) := fun _ _ q => by cases q; rfl
theorem bindP_ext {α β : Type} {a b : PR α} {k k' : α → List Tk → PR β} (h : Ext m a b) (hk : ∀ x r, Ext m (k x r) (k' x (r ++ m))) : Ext m (bindP a k) (bindP b k') := by
  cases a with
  | error x => exact Ext.bad
  | ok y => obtain ⟨x, r⟩ := y; rw [h x r rfl]; exact hk x r
theorem isT_app {w : ByteArray} {l : List Tk} (h : l ≠ []) : isT w (l ++ m) = isT w l := by
  cases l with
  | nil => exact absurd rfl h
  | cons t r => rfl
theorem pickG_app {W : Int → ByteArray} {l : List Tk} (h : l ≠ []) : ∀ f k : Nat, pickG W (l ++ m) f k = pickG W l f k
  | 0, _ => rfl
  | f + 1, k => by rw [pickG, pickG, isT_app h, pickG_app h f (k + 1)]
theorem tail_app {l : List Tk} (h : l ≠ []) : (l ++ m).tail = l.tail ++ m := by
  cases l with
  | nil => exact absurd rfl h
  | cons t r => rfl
theorem isT_ne {w : ByteArray} {l : List Tk} (h : isT w l = true) : l ≠ [] := by rintro rfl; cases h
theorem pickG_ne {W : Int → ByteArray} {l : List Tk} {k0 : Nat} {f k : Nat} (h : pickG W l f k = some k0) : l ≠ [] := isT_ne (pickG_some f k h).2.2.1
theorem numP_ext {l : List Tk} : Ext m (numP e l) (numP e' (l ++ m)) := by
  cases l with
  | nil => exact Ext.bad
  | cons t r =>
    rw [numP, List.cons_append, numP]
    split
    · exact Ext.ok
    · exact Ext.bad
theorem nameP_ext {l : List Tk} : Ext m (nameP e l) (nameP e' (l ++ m)) := by
  cases l with
  | nil => exact Ext.bad
  | cons t r =>
    rw [nameP, List.cons_append, nameP]
    split
    · exact Ext.ok
    · exact Ext.bad
theorem varP_ext {l : List Tk} : Ext m (varP vl e l) (varP vl e' (l ++ m)) := by
  cases l with
  | nil => exact Ext.bad
  | cons t r =>
    rw [varP, List.cons_append, varP]
    split
    · cases idxG t.text vl 0 with
      | some i => exact Ext.ok
      | none => exact Ext.bad
    · exact Ext.bad
theorem headP_ext {k : Nat} {l : List Tk} : Ext m (headP vl e k l) (headP vl e' k (l ++ m)) := by
  rw [headP, headP]
  split
  · intro x r q
    cases hn : numP e l with
    | error y => rw [hn] at q; cases q
    | ok y =>
      obtain ⟨n, r0⟩ := y
      rw [hn] at q
      cases q
      rw [numP_ext (e := e) (e' := e') _ _ hn]
  · split
    · intro x r q
      cases hn : varP vl e l with
      | error y => rw [hn] at q; cases q
      | ok y =>
        obtain ⟨n, r0⟩ := y
        rw [hn] at q
        cases q
        rw [varP_ext (vl := vl) (e := e) (e' := e') _ _ hn]
    · exact Ext.ok
theorem closeP_ext {α : Type} {x : α} {l : List Tk} : Ext m (closeP e x l) (closeP e' x (l ++ m)) := by
  rw [closeP]
  split
  · rename_i h
    rw [closeP, isT_app (isT_ne h), if_pos h, tail_app (isT_ne h)]
    exact Ext.ok
  · exact Ext.bad
theorem subsA_ext {α : Type} {E E' : List Tk → PR α} (hE : ∀ l, Ext m (E l) (E' (l ++ m))) : ∀ (n : Nat) (l : List Tk) (acc : List α), Ext m (subsA E n l acc) (subsA E' n (l ++ m) acc)
  | 0, l, acc => Ext.ok
  | n + 1, l, acc => by
    intro x r q
    rw [subsA] at q
    cases hn : E l with
    | error y => rw [hn] at q; cases q
    | ok y =>
      obtain ⟨v, r0⟩ := y
      rw [hn] at q
      rw [subsA, hE l v r0 hn]
      exact subsA_ext hE n r0 _ x r q
theorem exprP_ext : ∀ (f : Nat) (l : List Tk), Ext m (exprP vl e f l) (exprP vl e' f (l ++ m))
  | 0, l => Ext.bad
  | f + 1, l => by
    rw [exprP]
    split
    · rename_i h
      rw [exprP, isT_app (isT_ne h), if_pos h, tail_app (isT_ne h), pickT, pickT]
      cases hk : pickG wordOf l.tail 8 1 with
      | none => exact Ext.bad
      | some k =>
        have hne := pickG_ne hk
        rw [pickG_app hne, hk]
        intro x r q
        simp only at q ⊢
        rw [tail_app hne]
        cases hh : headP vl e k l.tail.tail with
        | error y => rw [hh] at q; cases q
        | ok y =>
          obtain ⟨vn, l3⟩ := y
          rw [hh] at q
          rw [headP_ext (vl := vl) (e := e) (e' := e') vn l3 hh]
          simp only at q ⊢
          cases hs : subsA (exprP vl e f) (partsOf k).toNat l3 [] with
          | error y => rw [hs] at q; cases q
          | ok z =>
            obtain ⟨xs, l4⟩ := z
            rw [hs] at q
            rw [subsA_ext (exprP_ext f) _ _ _ xs l4 hs]
            exact closeP_ext x r q
    · exact Ext.bad
theorem listG_ext {S S' : List Tk → PR St} (hS : ∀ l, Ext m (S l) (S' (l ++ m))) (hb : ∀ x, ¬ ∃ y, S [] = .ok y ∧ x = y) : ∀ (g g' : Nat) (l : List Tk) (acc : List St), g ≤ g' → Ext m (listG S g l acc) (listG S' g' (l ++ m) acc)
  | 0, g', l, acc, _ => Ext.bad
  | g + 1, 0, l, acc, h => by omega
  | g + 1, g' + 1, l, acc, h => by
    intro x r q
    rw [listG] at q
    split at q
    · rename_i hq
      rw [listG, isT_app (isT_ne hq), if_pos hq, tail_app (isT_ne hq)]
      exact Ext.ok x r q
    · rename_i hq
      cases hn : S l with
      | error y => rw [hn] at q; cases q
      | ok y =>
        have hne : l ≠ [] := by rintro rfl; exact hb y ⟨y, hn, rfl⟩
        obtain ⟨v, r0⟩ := y
        rw [hn] at q
        rw [listG, isT_app hne, if_neg hq, hS l v r0 hn]
        exact listG_ext hS hb g g' r0 _ (by omega) x r q
theorem listP_ext {S S' : List Tk → PR St} (hS : ∀ l, Ext m (S l) (S' (l ++ m))) (hb : ∀ x, ¬ ∃ y, S [] = .ok y ∧ x = y) {l : List Tk} : Ext m (listP S e l) (listP S' e' (l ++ m)) := by
  rw [listP]
  split
  · rename_i h
    rw [listP, isT_app (isT_ne h), if_pos h, tail_app (isT_ne h)]
    exact listG_ext hS hb _ _ _ _ (by rw [List.length_append]; omega)
  · exact Ext.bad
theorem optP_ext {α : Type} {b : Bool} {z : α} {a a' : List Tk → PR α} (ha : ∀ l, Ext m (a l) (a' (l ++ m))) {l : List Tk} : Ext m (optP b z a l) (optP b z a' (l ++ m)) := by
  rw [optP, optP]
  split
  · exact ha l
  · exact Ext.ok
theorem stmtP_nil (vl : List Va) (e : Int) (f : Nat) : ∀ x, ¬ ∃ y, stmtP vl e f [] = .ok y ∧ x = y := by
  rintro x ⟨y, h, -⟩
  cases f with
  | zero => cases h
  | succ f => rw [stmtP, if_neg (by decide)] at h; cases h
theorem stmtP_ext : ∀ (f : Nat) (l : List Tk), Ext m (stmtP vl e f l) (stmtP vl e' f (l ++ m))
  | 0, l => Ext.bad
  | f + 1, l => by
    rw [stmtP]
    split
    · rename_i h
      rw [stmtP, isT_app (isT_ne h), if_pos h, tail_app (isT_ne h), pickT, pickT]
      cases hk : pickG verbOf l.tail 7 1 with
      | none => exact Ext.bad
      | some k =>
        have hne := pickG_ne hk
        rw [pickG_app hne, hk]
        simp only
        rw [tail_app hne]
        refine bindP_ext (optP_ext (fun _ => varP_ext)) fun v r => ?_; refine bindP_ext (optP_ext (exprP_ext f)) fun x r => ?_; refine bindP_ext (optP_ext (exprP_ext f)) fun y r => ?_; refine bindP_ext (optP_ext (fun _ => listP_ext (stmtP_ext f) (stmtP_nil vl e f))) fun b r => ?_
        exact bindP_ext (optP_ext (fun _ => listP_ext (stmtP_ext f) (stmtP_nil vl e f))) fun el r => closeP_ext
    · exact Ext.bad
theorem letsG_ext (hm : isT kwLet m = false) : ∀ (g g' : Nat) (l : List Tk) (acc : List Va), g ≤ g' → Ext m (letsG e g l acc) (letsG e' g' (l ++ m) acc)
  | 0, g', l, acc, _ => Ext.bad
  | g + 1, 0, l, acc, h => by omega
  | g + 1, g' + 1, l, acc, h => by
    rw [letsG]
    split
    · rename_i hq
      rw [letsG, isT_app (isT_ne hq), if_pos hq, tail_app (isT_ne hq)]
      exact bindP_ext nameP_ext fun s r => bindP_ext numP_ext fun n r => letsG_ext hm g g' r _ (by omega)
    · rename_i hq
      have hq2 : ¬ isT kwLet (l ++ m) = true := by
        cases l with
        | nil => rw [List.nil_append, hm]; exact Bool.noConfusion
        | cons t r => exact hq
      rw [letsG, if_neg hq2]
      exact Ext.ok
theorem bodyG_ext {S S' : List Tk → PR St} (hS : ∀ l, Ext m (S l) (S' (l ++ m))) : ∀ (g : Nat) (l : List Tk) (acc b : List St) (r : List Tk), bodyG S g l acc = .ok (b, r) → ∀ g', l.length + m.length < g' → (∀ l x l', S' l = .ok (x, l') → l'.length < l.length) → ∃ g'', m.length < g'' ∧ bodyG S' g' (l ++ m) acc = bodyG S' g'' m b
  | 0, l, acc, b, r, h, _, _, _ => by cases h
  | g + 1, l, acc, b, r, h, g', hg, hlt => by
    rw [bodyG] at h
    split at h
    · rename_i hz
      cases h
      rw [List.eq_nil_of_length_eq_zero hz] at hg ⊢
      exact ⟨g', by simpa using hg, rfl⟩
    · rename_i hz
      obtain ⟨g', rfl⟩ : ∃ k, g' = k + 1 := ⟨g' - 1, by omega⟩
      cases hn : S l with
      | error y => rw [hn] at h; cases h
      | ok y =>
        obtain ⟨v, r0⟩ := y
        rw [hn] at h
        have h2 := hS l v r0 hn
        have h3 := hlt _ _ _ h2
        simp only [List.length_append] at h3
        obtain ⟨g'', e1, e2⟩ := bodyG_ext hS g r0 _ b r h g' (by omega) hlt
        refine ⟨g'', e1, ?_⟩
        rw [bodyG, if_neg (by rw [List.length_append]; omega), h2]
        exact e2
end
theorem StsI.take {l : List St} (h : StsI l) (n : Nat) : StsI (l.take n) := StsI.of fun x hx => h.mem x (List.mem_of_mem_take hx)
theorem StsW.take {nv : Nat} {deep : Int} {l : List St} (h : StsW nv deep l) (n : Nat) : StsW nv deep (l.take n) := StsW.of fun x hx => h.mem x (List.mem_of_mem_take hx)
theorem progP_join {p : Pr} (hw : PrW p) {e e' : Int} {l : List Tk} {r : List Tk} (h : progP e l = .ok (p, r)) (n : Nat) (z : ByteArray) : progP e' (l ++ toks (bodyPc p.vars z (p.body.take n))) = .ok (⟨p.vars, p.body ++ p.body.take n⟩, []) := by
  rw [progP] at h
  obtain ⟨vl, l1, h1, h⟩ := bindP_ok h
  obtain ⟨b, l2, h2, h⟩ := bindP_ok h
  cases h
  have hm := bodyPc_let vl (b.take n) z
  have e1 := letsG_ext (e := e) (e' := e') hm _ ((l ++ toks (bodyPc vl z (b.take n))).length + 1) l [] (by rw [List.length_append]; omega) vl l1 h1
  have hlt : ∀ l x l', stmtP vl e' 13 l = .ok (x, l') → l'.length < l.length := fun l x l' h => (stmtP_sub 13 l x l' h).2
  obtain ⟨g'', e2, e3⟩ := bodyG_ext (m := toks (bodyPc vl z (b.take n))) (S' := stmtP vl e' 13) (fun l => stmtP_ext (e := e) (e' := e') 13 l) _ l1 [] b _ h2 ((l1 ++ toks (bodyPc vl z (b.take n))).length + 1) (by rw [List.length_append]; omega) hlt
  have hlen := bodyPc_len vl (b.take n) z
  have e4 := bodyG_at (vl := vl) (S := stmtP vl e' 13) (b.take n) z g'' b (by omega) (fun x hx R => stmtP_at (found_of hw) x 0 13 (by decide) (hw.body.mem x (List.mem_of_mem_take hx)) R)
  rw [progP, e1, bindP, e3, e4]
  rfl
theorem parse_join {a : ByteArray} {p : Pr} (hp : parseP a = .ok p) (hi : StsI p.body) (n : Nat) (h6 : (a ++ (nl1 ++ bodyT p.vars (p.body.take n))).size ≤ 6000) :
    parseP (a ++ (nl1 ++ bodyT p.vars (p.body.take n))) = if checkP ⟨p.vars, p.body ++ p.body.take n⟩ ≠ 0 then .error (checkP ⟨p.vars, p.body ++ p.body.take n⟩, -1) else .ok ⟨p.vars, p.body ++ p.body.take n⟩ := by
  rw [parseP] at hp
  cases hl : scanP a with
  | error y => rw [hl] at hp; cases hp
  | ok l =>
    rw [hl] at hp
    simp only at hp
    cases hq : progP a.size l with
    | error y => rw [hq] at hp; cases hp
    | ok y =>
      obtain ⟨p', r⟩ := y
      rw [hq] at hp
      simp only at hp
      split at hp
      · cases hp
      · rename_i hc
        cases hp
        have hw := check_w (Decidable.not_not.1 hc)
        have hn := names_at (fun x hx => (hw.names x hx).1)
        have ht := bodyPc_text p.vars (p.body.take n) nl1
        have hG := bodyPc_good hn (p.body.take n) nl1 blank_nl1 (hw.body.take n) (hi.take n) true
        have hT : Blank (endZ nl1 (p.body.take n)) := blank_endZ blank_nl1 _
        have hs : 0 < (nl1 ++ bodyT p.vars (p.body.take n)).size := by rw [ByteArray.size_append, show nl1.size = 1 from rfl]; omega
        have hb : blankB (byteAt (nl1 ++ bodyT p.vars (p.body.take n)) 0) = true := by rw [byteAt_left (by decide)]; rfl
        rw [← ht] at h6 hs hb
        obtain ⟨m, e1, e2⟩ := scan_join hl hG hT hs hb h6
        have e3 := progP_join hw (e' := (a ++ (nl1 ++ bodyT p.vars (p.body.take n))).size) hq n nl1
        have heq : Eqv (l ++ toks (bodyPc p.vars nl1 (p.body.take n))) (l ++ m) := by
          rw [Eqv, List.map_append, List.map_append, e2]
        obtain ⟨r', e4, -⟩ := progP_leads (e := (a ++ (nl1 ++ bodyT p.vars (p.body.take n))).size) (e' := (a ++ (nl1 ++ bodyT p.vars (p.body.take n))).size) heq _ _ e3
        rw [ht] at e1
        rw [parseP, e1]
        simp only
        rw [e4]
end Go.Proofs.YthefnnkmpcgcmaaDoor

namespace Go.Proofs.YthefnnkmpcgcmaaDoor
open Go X
set_option maxHeartbeats 4000000
theorem rword_p (σ : PH) (k : Int) : CallsA Tryd.prog 80 #[i64 k] σ [] (RetA fun v σ' Γ' => v = .string (wordOf k) ∧ σ = σ' ∧ Γ' = []) := by
  by_cases h1 : k < 1
  · have hw : wordOf k = ByteArray.empty := by rw [wordOf, if_neg (by omega)]
    rw [hw]
    refine enterA1 Tryd.func80 rfl rfl rfl ?_; refine zS (zR (yS ?_)); refine zN (zT (zS (zR ?_))); refine zw rfl (WrA.bs (fun _ _ => tyrow) rfl rfl rfl rfl rfl) ?_
    rintro _ _ _ ⟨g4, rfl, rfl, rfl⟩
    refine yS ?_; refine zN (zT (zS (zS (zR (yA ?_))))); refine zO rfl (Rd.lss rfl rfl) ?_; refine yA ?_
    first | refine gA ?_ | refine zH ?_
    first | refine gA ?_ | refine zH ?_
    first | (refine zG ?_; refine zO rfl (Rd.lenSlice (tyrow rfl) rfl rfl) ?_) | refine zH ?_
    first | (refine zG ?_; refine zO rfl (Rd.gtr rfl rfl) ?_) | refine zH ?_
    refine zO rfl zP ?_; refine zN (zT (yT rfl rfl (zS (zR (yS ?_))))); refine zN (zT (XA.ret (DA.thn_ret ?_)))
    exact bodyA.ret (ResA.one rfl rfl) (Ent.nil _) ⟨rfl, rfl, rfl⟩
  by_cases h7 : k > 8
  · have hw : wordOf k = ByteArray.empty := by rw [wordOf, if_neg (by omega)]
    rw [hw]
    refine enterA1 Tryd.func80 rfl rfl rfl ?_; refine zS (zR (yS ?_)); refine zN (zT (zS (zR ?_))); refine zw rfl (WrA.bs (fun _ _ => tyrow) rfl rfl rfl rfl rfl) ?_
    rintro _ _ _ ⟨g4, rfl, rfl, rfl⟩
    refine yS ?_; refine zN (zT (zS (zS (zR (yA ?_))))); refine zO rfl (Rd.lss rfl rfl) ?_; refine yA ?_
    first | refine gA ?_ | refine zH ?_
    first | refine gA ?_ | refine zH ?_
    first | (refine zG ?_; refine zO rfl (Rd.lenSlice (tyrow rfl) rfl rfl) ?_) | refine zH ?_
    first | (refine zG ?_; refine zO rfl (Rd.gtr rfl rfl) ?_) | refine zH ?_
    refine zO rfl zP ?_; refine zN (zT (XA.condT rfl (by first | rfl | exact decide_eq_true (by omega)) ?_)); refine zS (zR (yS ?_)); refine zN (zT (XA.ret (DA.thn_ret ?_)))
    exact bodyA.ret (ResA.one rfl rfl) (Ent.nil _) ⟨rfl, rfl, rfl⟩
  have hop : k = 1 ∨ k = 2 ∨ k = 3 ∨ k = 4 ∨ k = 5 ∨ k = 6 ∨ k = 7 ∨ k = 8 := by omega
  clear h1 h7
  rcases hop with rfl | rfl | rfl | rfl | rfl | rfl | rfl | rfl
  · refine enterA1 Tryd.func80 rfl rfl rfl ?_
    refine zS (zR (yS ?_)); refine zN (zT (zS (zR ?_))); refine zw rfl (WrA.bs (fun _ _ => tyrow) rfl rfl rfl rfl rfl) ?_
    rintro _ _ _ ⟨g4, rfl, rfl, rfl⟩
    refine yS ?_; refine zN (zT (zS (zS (zR (yA ?_))))); refine zO rfl (Rd.lss rfl rfl) ?_; refine yA ?_
    first | refine gA ?_ | refine zH ?_
    first | refine gA ?_ | refine zH ?_
    first | (refine zG ?_; refine zO rfl (Rd.lenSlice (tyrow rfl) rfl rfl) ?_) | refine zH ?_
    first | (refine zG ?_; refine zO rfl (Rd.gtr rfl rfl) ?_) | refine zH ?_
    refine zO rfl zP ?_; refine zN (zT (yF rfl rfl (XA.skip (zT (zS (zR (yA ?_))))))); refine yA ?_; refine zO rfl (by first | exact Rd.sbi rfl rfl | exact Rd.sub rfl rfl) ?_; refine zO rfl (Rd.ixS rfl rfl) ?_; refine yB ?_; refine yS ?_
    refine zN (zT (XA.ret ?_))
    exact bodyA.ret (ResA.one rfl rfl) (Ent.nil _) ⟨rfl, rfl, rfl⟩
  · refine enterA1 Tryd.func80 rfl rfl rfl ?_
    refine zS (zR (yS ?_)); refine zN (zT (zS (zR ?_))); refine zw rfl (WrA.bs (fun _ _ => tyrow) rfl rfl rfl rfl rfl) ?_
    rintro _ _ _ ⟨g4, rfl, rfl, rfl⟩
    refine yS ?_; refine zN (zT (zS (zS (zR (yA ?_))))); refine zO rfl (Rd.lss rfl rfl) ?_; refine yA ?_
    first | refine gA ?_ | refine zH ?_
    first | refine gA ?_ | refine zH ?_
    first | (refine zG ?_; refine zO rfl (Rd.lenSlice (tyrow rfl) rfl rfl) ?_) | refine zH ?_
    first | (refine zG ?_; refine zO rfl (Rd.gtr rfl rfl) ?_) | refine zH ?_
    refine zO rfl zP ?_; refine zN (zT (yF rfl rfl (XA.skip (zT (zS (zR (yA ?_))))))); refine yA ?_; refine zO rfl (by first | exact Rd.sbi rfl rfl | exact Rd.sub rfl rfl) ?_; refine zO rfl (Rd.ixS rfl rfl) ?_; refine yB ?_; refine yS ?_
    refine zN (zT (XA.ret ?_))
    exact bodyA.ret (ResA.one rfl rfl) (Ent.nil _) ⟨rfl, rfl, rfl⟩
  · refine enterA1 Tryd.func80 rfl rfl rfl ?_
    refine zS (zR (yS ?_)); refine zN (zT (zS (zR ?_))); refine zw rfl (WrA.bs (fun _ _ => tyrow) rfl rfl rfl rfl rfl) ?_
    rintro _ _ _ ⟨g4, rfl, rfl, rfl⟩
    refine yS ?_; refine zN (zT (zS (zS (zR (yA ?_))))); refine zO rfl (Rd.lss rfl rfl) ?_; refine yA ?_
    first | refine gA ?_ | refine zH ?_
    first | refine gA ?_ | refine zH ?_
    first | (refine zG ?_; refine zO rfl (Rd.lenSlice (tyrow rfl) rfl rfl) ?_) | refine zH ?_
    first | (refine zG ?_; refine zO rfl (Rd.gtr rfl rfl) ?_) | refine zH ?_
    refine zO rfl zP ?_; refine zN (zT (yF rfl rfl (XA.skip (zT (zS (zR (yA ?_))))))); refine yA ?_; refine zO rfl (by first | exact Rd.sbi rfl rfl | exact Rd.sub rfl rfl) ?_; refine zO rfl (Rd.ixS rfl rfl) ?_; refine yB ?_; refine yS ?_
    refine zN (zT (XA.ret ?_))
    exact bodyA.ret (ResA.one rfl rfl) (Ent.nil _) ⟨rfl, rfl, rfl⟩
  · refine enterA1 Tryd.func80 rfl rfl rfl ?_
    refine zS (zR (yS ?_)); refine zN (zT (zS (zR ?_))); refine zw rfl (WrA.bs (fun _ _ => tyrow) rfl rfl rfl rfl rfl) ?_
    rintro _ _ _ ⟨g4, rfl, rfl, rfl⟩
    refine yS ?_; refine zN (zT (zS (zS (zR (yA ?_))))); refine zO rfl (Rd.lss rfl rfl) ?_; refine yA ?_
    first | refine gA ?_ | refine zH ?_
    first | refine gA ?_ | refine zH ?_
    first | (refine zG ?_; refine zO rfl (Rd.lenSlice (tyrow rfl) rfl rfl) ?_) | refine zH ?_
    first | (refine zG ?_; refine zO rfl (Rd.gtr rfl rfl) ?_) | refine zH ?_
    refine zO rfl zP ?_; refine zN (zT (yF rfl rfl (XA.skip (zT (zS (zR (yA ?_))))))); refine yA ?_; refine zO rfl (by first | exact Rd.sbi rfl rfl | exact Rd.sub rfl rfl) ?_; refine zO rfl (Rd.ixS rfl rfl) ?_; refine yB ?_; refine yS ?_
    refine zN (zT (XA.ret ?_))
    exact bodyA.ret (ResA.one rfl rfl) (Ent.nil _) ⟨rfl, rfl, rfl⟩
  · refine enterA1 Tryd.func80 rfl rfl rfl ?_
    refine zS (zR (yS ?_)); refine zN (zT (zS (zR ?_))); refine zw rfl (WrA.bs (fun _ _ => tyrow) rfl rfl rfl rfl rfl) ?_
    rintro _ _ _ ⟨g4, rfl, rfl, rfl⟩
    refine yS ?_; refine zN (zT (zS (zS (zR (yA ?_))))); refine zO rfl (Rd.lss rfl rfl) ?_; refine yA ?_
    first | refine gA ?_ | refine zH ?_
    first | refine gA ?_ | refine zH ?_
    first | (refine zG ?_; refine zO rfl (Rd.lenSlice (tyrow rfl) rfl rfl) ?_) | refine zH ?_
    first | (refine zG ?_; refine zO rfl (Rd.gtr rfl rfl) ?_) | refine zH ?_
    refine zO rfl zP ?_; refine zN (zT (yF rfl rfl (XA.skip (zT (zS (zR (yA ?_))))))); refine yA ?_; refine zO rfl (by first | exact Rd.sbi rfl rfl | exact Rd.sub rfl rfl) ?_; refine zO rfl (Rd.ixS rfl rfl) ?_; refine yB ?_; refine yS ?_
    refine zN (zT (XA.ret ?_))
    exact bodyA.ret (ResA.one rfl rfl) (Ent.nil _) ⟨rfl, rfl, rfl⟩
  · refine enterA1 Tryd.func80 rfl rfl rfl ?_
    refine zS (zR (yS ?_)); refine zN (zT (zS (zR ?_))); refine zw rfl (WrA.bs (fun _ _ => tyrow) rfl rfl rfl rfl rfl) ?_
    rintro _ _ _ ⟨g4, rfl, rfl, rfl⟩
    refine yS ?_; refine zN (zT (zS (zS (zR (yA ?_))))); refine zO rfl (Rd.lss rfl rfl) ?_; refine yA ?_
    first | refine gA ?_ | refine zH ?_
    first | refine gA ?_ | refine zH ?_
    first | (refine zG ?_; refine zO rfl (Rd.lenSlice (tyrow rfl) rfl rfl) ?_) | refine zH ?_
    first | (refine zG ?_; refine zO rfl (Rd.gtr rfl rfl) ?_) | refine zH ?_
    refine zO rfl zP ?_; refine zN (zT (yF rfl rfl (XA.skip (zT (zS (zR (yA ?_))))))); refine yA ?_; refine zO rfl (by first | exact Rd.sbi rfl rfl | exact Rd.sub rfl rfl) ?_; refine zO rfl (Rd.ixS rfl rfl) ?_; refine yB ?_; refine yS ?_
    refine zN (zT (XA.ret ?_))
    exact bodyA.ret (ResA.one rfl rfl) (Ent.nil _) ⟨rfl, rfl, rfl⟩
  · refine enterA1 Tryd.func80 rfl rfl rfl ?_
    refine zS (zR (yS ?_)); refine zN (zT (zS (zR ?_))); refine zw rfl (WrA.bs (fun _ _ => tyrow) rfl rfl rfl rfl rfl) ?_
    rintro _ _ _ ⟨g4, rfl, rfl, rfl⟩
    refine yS ?_; refine zN (zT (zS (zS (zR (yA ?_))))); refine zO rfl (Rd.lss rfl rfl) ?_; refine yA ?_
    first | refine gA ?_ | refine zH ?_
    first | refine gA ?_ | refine zH ?_
    first | (refine zG ?_; refine zO rfl (Rd.lenSlice (tyrow rfl) rfl rfl) ?_) | refine zH ?_
    first | (refine zG ?_; refine zO rfl (Rd.gtr rfl rfl) ?_) | refine zH ?_
    refine zO rfl zP ?_; refine zN (zT (yF rfl rfl (XA.skip (zT (zS (zR (yA ?_))))))); refine yA ?_; refine zO rfl (by first | exact Rd.sbi rfl rfl | exact Rd.sub rfl rfl) ?_; refine zO rfl (Rd.ixS rfl rfl) ?_; refine yB ?_; refine yS ?_
    refine zN (zT (XA.ret ?_))
    exact bodyA.ret (ResA.one rfl rfl) (Ent.nil _) ⟨rfl, rfl, rfl⟩
  · refine enterA1 Tryd.func80 rfl rfl rfl ?_
    refine zS (zR (yS ?_)); refine zN (zT (zS (zR ?_))); refine zw rfl (WrA.bs (fun _ _ => tyrow) rfl rfl rfl rfl rfl) ?_
    rintro _ _ _ ⟨g4, rfl, rfl, rfl⟩
    refine yS ?_; refine zN (zT (zS (zS (zR (yA ?_))))); refine zO rfl (Rd.lss rfl rfl) ?_; refine yA ?_
    first | refine gA ?_ | refine zH ?_
    first | refine gA ?_ | refine zH ?_
    first | (refine zG ?_; refine zO rfl (Rd.lenSlice (tyrow rfl) rfl rfl) ?_) | refine zH ?_
    first | (refine zG ?_; refine zO rfl (Rd.gtr rfl rfl) ?_) | refine zH ?_
    refine zO rfl zP ?_; refine zN (zT (yF rfl rfl (XA.skip (zT (zS (zR (yA ?_))))))); refine yA ?_; refine zO rfl (by first | exact Rd.sbi rfl rfl | exact Rd.sub rfl rfl) ?_; refine zO rfl (Rd.ixS rfl rfl) ?_; refine yB ?_; refine yS ?_
    refine zN (zT (XA.ret ?_))
    exact bodyA.ret (ResA.one rfl rfl) (Ent.nil _) ⟨rfl, rfl, rfl⟩
theorem rverb_p (σ : PH) (k : Int) : CallsA Tryd.prog 54 #[i64 k] σ [] (RetA fun v σ' Γ' => v = .string (verbOf k) ∧ σ = σ' ∧ Γ' = []) := by
  by_cases h1 : k < 1
  · have hw : verbOf k = ByteArray.empty := by rw [verbOf, if_neg (by omega)]
    rw [hw]
    refine enterA1 Tryd.func54 rfl rfl rfl ?_; refine zS (zR (yS ?_)); refine zN (zT (zS (zR ?_))); refine zw rfl (WrA.bs (fun _ _ => tyrow) rfl rfl rfl rfl rfl) ?_
    rintro _ _ _ ⟨g4, rfl, rfl, rfl⟩
    refine yS ?_; refine zN (zT (zS (zS (zR (yA ?_))))); refine zO rfl (Rd.lss rfl rfl) ?_; refine yA ?_
    first | refine gA ?_ | refine zH ?_
    first | refine gA ?_ | refine zH ?_
    first | (refine zG ?_; refine zO rfl (Rd.lenSlice (tyrow rfl) rfl rfl) ?_) | refine zH ?_
    first | (refine zG ?_; refine zO rfl (Rd.gtr rfl rfl) ?_) | refine zH ?_
    refine zO rfl zP ?_; refine zN (zT (yT rfl rfl (zS (zR (yS ?_))))); refine zN (zT (XA.ret (DA.thn_ret ?_)))
    exact bodyA.ret (ResA.one rfl rfl) (Ent.nil _) ⟨rfl, rfl, rfl⟩
  by_cases h7 : k > 7
  · have hw : verbOf k = ByteArray.empty := by rw [verbOf, if_neg (by omega)]
    rw [hw]
    refine enterA1 Tryd.func54 rfl rfl rfl ?_; refine zS (zR (yS ?_)); refine zN (zT (zS (zR ?_))); refine zw rfl (WrA.bs (fun _ _ => tyrow) rfl rfl rfl rfl rfl) ?_
    rintro _ _ _ ⟨g4, rfl, rfl, rfl⟩
    refine yS ?_; refine zN (zT (zS (zS (zR (yA ?_))))); refine zO rfl (Rd.lss rfl rfl) ?_; refine yA ?_
    first | refine gA ?_ | refine zH ?_
    first | refine gA ?_ | refine zH ?_
    first | (refine zG ?_; refine zO rfl (Rd.lenSlice (tyrow rfl) rfl rfl) ?_) | refine zH ?_
    first | (refine zG ?_; refine zO rfl (Rd.gtr rfl rfl) ?_) | refine zH ?_
    refine zO rfl zP ?_; refine zN (zT (XA.condT rfl (by first | rfl | exact decide_eq_true (by omega)) ?_)); refine zS (zR (yS ?_)); refine zN (zT (XA.ret (DA.thn_ret ?_)))
    exact bodyA.ret (ResA.one rfl rfl) (Ent.nil _) ⟨rfl, rfl, rfl⟩
  have hop : k = 1 ∨ k = 2 ∨ k = 3 ∨ k = 4 ∨ k = 5 ∨ k = 6 ∨ k = 7 := by omega
  clear h1 h7
  rcases hop with rfl | rfl | rfl | rfl | rfl | rfl | rfl
  · refine enterA1 Tryd.func54 rfl rfl rfl ?_
    refine zS (zR (yS ?_)); refine zN (zT (zS (zR ?_))); refine zw rfl (WrA.bs (fun _ _ => tyrow) rfl rfl rfl rfl rfl) ?_
    rintro _ _ _ ⟨g4, rfl, rfl, rfl⟩
    refine yS ?_; refine zN (zT (zS (zS (zR (yA ?_))))); refine zO rfl (Rd.lss rfl rfl) ?_; refine yA ?_
    first | refine gA ?_ | refine zH ?_
    first | refine gA ?_ | refine zH ?_
    first | (refine zG ?_; refine zO rfl (Rd.lenSlice (tyrow rfl) rfl rfl) ?_) | refine zH ?_
    first | (refine zG ?_; refine zO rfl (Rd.gtr rfl rfl) ?_) | refine zH ?_
    refine zO rfl zP ?_; refine zN (zT (yF rfl rfl (XA.skip (zT (zS (zR (yA ?_))))))); refine yA ?_; refine zO rfl (by first | exact Rd.sbi rfl rfl | exact Rd.sub rfl rfl) ?_; refine zO rfl (Rd.ixS rfl rfl) ?_; refine yB ?_; refine yS ?_
    refine zN (zT (XA.ret ?_))
    exact bodyA.ret (ResA.one rfl rfl) (Ent.nil _) ⟨rfl, rfl, rfl⟩
  · refine enterA1 Tryd.func54 rfl rfl rfl ?_
    refine zS (zR (yS ?_)); refine zN (zT (zS (zR ?_))); refine zw rfl (WrA.bs (fun _ _ => tyrow) rfl rfl rfl rfl rfl) ?_
    rintro _ _ _ ⟨g4, rfl, rfl, rfl⟩
    refine yS ?_; refine zN (zT (zS (zS (zR (yA ?_))))); refine zO rfl (Rd.lss rfl rfl) ?_; refine yA ?_
    first | refine gA ?_ | refine zH ?_
    first | refine gA ?_ | refine zH ?_
    first | (refine zG ?_; refine zO rfl (Rd.lenSlice (tyrow rfl) rfl rfl) ?_) | refine zH ?_
    first | (refine zG ?_; refine zO rfl (Rd.gtr rfl rfl) ?_) | refine zH ?_
    refine zO rfl zP ?_; refine zN (zT (yF rfl rfl (XA.skip (zT (zS (zR (yA ?_))))))); refine yA ?_; refine zO rfl (by first | exact Rd.sbi rfl rfl | exact Rd.sub rfl rfl) ?_; refine zO rfl (Rd.ixS rfl rfl) ?_; refine yB ?_; refine yS ?_
    refine zN (zT (XA.ret ?_))
    exact bodyA.ret (ResA.one rfl rfl) (Ent.nil _) ⟨rfl, rfl, rfl⟩
  · refine enterA1 Tryd.func54 rfl rfl rfl ?_
    refine zS (zR (yS ?_)); refine zN (zT (zS (zR ?_))); refine zw rfl (WrA.bs (fun _ _ => tyrow) rfl rfl rfl rfl rfl) ?_
    rintro _ _ _ ⟨g4, rfl, rfl, rfl⟩
    refine yS ?_; refine zN (zT (zS (zS (zR (yA ?_))))); refine zO rfl (Rd.lss rfl rfl) ?_; refine yA ?_
    first | refine gA ?_ | refine zH ?_
    first | refine gA ?_ | refine zH ?_
    first | (refine zG ?_; refine zO rfl (Rd.lenSlice (tyrow rfl) rfl rfl) ?_) | refine zH ?_
    first | (refine zG ?_; refine zO rfl (Rd.gtr rfl rfl) ?_) | refine zH ?_
    refine zO rfl zP ?_; refine zN (zT (yF rfl rfl (XA.skip (zT (zS (zR (yA ?_))))))); refine yA ?_; refine zO rfl (by first | exact Rd.sbi rfl rfl | exact Rd.sub rfl rfl) ?_; refine zO rfl (Rd.ixS rfl rfl) ?_; refine yB ?_; refine yS ?_
    refine zN (zT (XA.ret ?_))
    exact bodyA.ret (ResA.one rfl rfl) (Ent.nil _) ⟨rfl, rfl, rfl⟩
  · refine enterA1 Tryd.func54 rfl rfl rfl ?_
    refine zS (zR (yS ?_)); refine zN (zT (zS (zR ?_))); refine zw rfl (WrA.bs (fun _ _ => tyrow) rfl rfl rfl rfl rfl) ?_
    rintro _ _ _ ⟨g4, rfl, rfl, rfl⟩
    refine yS ?_; refine zN (zT (zS (zS (zR (yA ?_))))); refine zO rfl (Rd.lss rfl rfl) ?_; refine yA ?_
    first | refine gA ?_ | refine zH ?_
    first | refine gA ?_ | refine zH ?_
    first | (refine zG ?_; refine zO rfl (Rd.lenSlice (tyrow rfl) rfl rfl) ?_) | refine zH ?_
    first | (refine zG ?_; refine zO rfl (Rd.gtr rfl rfl) ?_) | refine zH ?_
    refine zO rfl zP ?_; refine zN (zT (yF rfl rfl (XA.skip (zT (zS (zR (yA ?_))))))); refine yA ?_; refine zO rfl (by first | exact Rd.sbi rfl rfl | exact Rd.sub rfl rfl) ?_; refine zO rfl (Rd.ixS rfl rfl) ?_; refine yB ?_; refine yS ?_
    refine zN (zT (XA.ret ?_))
    exact bodyA.ret (ResA.one rfl rfl) (Ent.nil _) ⟨rfl, rfl, rfl⟩
  · refine enterA1 Tryd.func54 rfl rfl rfl ?_
    refine zS (zR (yS ?_)); refine zN (zT (zS (zR ?_))); refine zw rfl (WrA.bs (fun _ _ => tyrow) rfl rfl rfl rfl rfl) ?_
    rintro _ _ _ ⟨g4, rfl, rfl, rfl⟩
    refine yS ?_; refine zN (zT (zS (zS (zR (yA ?_))))); refine zO rfl (Rd.lss rfl rfl) ?_; refine yA ?_
    first | refine gA ?_ | refine zH ?_
    first | refine gA ?_ | refine zH ?_
    first | (refine zG ?_; refine zO rfl (Rd.lenSlice (tyrow rfl) rfl rfl) ?_) | refine zH ?_
    first | (refine zG ?_; refine zO rfl (Rd.gtr rfl rfl) ?_) | refine zH ?_
    refine zO rfl zP ?_; refine zN (zT (yF rfl rfl (XA.skip (zT (zS (zR (yA ?_))))))); refine yA ?_; refine zO rfl (by first | exact Rd.sbi rfl rfl | exact Rd.sub rfl rfl) ?_; refine zO rfl (Rd.ixS rfl rfl) ?_; refine yB ?_; refine yS ?_
    refine zN (zT (XA.ret ?_))
    exact bodyA.ret (ResA.one rfl rfl) (Ent.nil _) ⟨rfl, rfl, rfl⟩
  · refine enterA1 Tryd.func54 rfl rfl rfl ?_
    refine zS (zR (yS ?_)); refine zN (zT (zS (zR ?_))); refine zw rfl (WrA.bs (fun _ _ => tyrow) rfl rfl rfl rfl rfl) ?_
    rintro _ _ _ ⟨g4, rfl, rfl, rfl⟩
    refine yS ?_; refine zN (zT (zS (zS (zR (yA ?_))))); refine zO rfl (Rd.lss rfl rfl) ?_; refine yA ?_
    first | refine gA ?_ | refine zH ?_
    first | refine gA ?_ | refine zH ?_
    first | (refine zG ?_; refine zO rfl (Rd.lenSlice (tyrow rfl) rfl rfl) ?_) | refine zH ?_
    first | (refine zG ?_; refine zO rfl (Rd.gtr rfl rfl) ?_) | refine zH ?_
    refine zO rfl zP ?_; refine zN (zT (yF rfl rfl (XA.skip (zT (zS (zR (yA ?_))))))); refine yA ?_; refine zO rfl (by first | exact Rd.sbi rfl rfl | exact Rd.sub rfl rfl) ?_; refine zO rfl (Rd.ixS rfl rfl) ?_; refine yB ?_; refine yS ?_
    refine zN (zT (XA.ret ?_))
    exact bodyA.ret (ResA.one rfl rfl) (Ent.nil _) ⟨rfl, rfl, rfl⟩
  · refine enterA1 Tryd.func54 rfl rfl rfl ?_
    refine zS (zR (yS ?_)); refine zN (zT (zS (zR ?_))); refine zw rfl (WrA.bs (fun _ _ => tyrow) rfl rfl rfl rfl rfl) ?_
    rintro _ _ _ ⟨g4, rfl, rfl, rfl⟩
    refine yS ?_; refine zN (zT (zS (zS (zR (yA ?_))))); refine zO rfl (Rd.lss rfl rfl) ?_; refine yA ?_
    first | refine gA ?_ | refine zH ?_
    first | refine gA ?_ | refine zH ?_
    first | (refine zG ?_; refine zO rfl (Rd.lenSlice (tyrow rfl) rfl rfl) ?_) | refine zH ?_
    first | (refine zG ?_; refine zO rfl (Rd.gtr rfl rfl) ?_) | refine zH ?_
    refine zO rfl zP ?_; refine zN (zT (yF rfl rfl (XA.skip (zT (zS (zR (yA ?_))))))); refine yA ?_; refine zO rfl (by first | exact Rd.sbi rfl rfl | exact Rd.sub rfl rfl) ?_; refine zO rfl (Rd.ixS rfl rfl) ?_; refine yB ?_; refine yS ?_
    refine zN (zT (XA.ret ?_))
    exact bodyA.ret (ResA.one rfl rfl) (Ent.nil _) ⟨rfl, rfl, rfl⟩
def RTexOK (x : Ex) : Prop := ∀ (σ : PH) (cs : List Value) (pv : Option Addr) (cv : Nat) (vl : List Va) (bs : Value), ExAt σ cs x → PSl 2 rVa σ (.slice pv vl.length cv) vl → ExV vl.length x → Tab σ → (exT vl x).size ≤ 1000000 →
  CallsA Tryd.prog 56 #[.agg #[.slice pv vl.length cv, bs], .agg cs.toArray] σ [] (RetA fun r σ' Γ' => r = .string (exT vl x) ∧ σ = σ' ∧ Γ' = [])
theorem rexpr_w (x : Ex) : RTexOK x := by
  refine Ex.ind (P := RTexOK) ?_ x
  intro op v n l ih σ cs pv cv vl bs hx hv hok hT hb
  obtain ⟨p, c, rfl, ho, hvv, hn, hl⟩ := hx.inv
  simp only [Ex.op, Ex.v, Ex.n, Ex.l] at hl ho hvv hn ⊢
  clear hx
  rw [ExV] at hok
  obtain ⟨h8, hparts, hvar, -, hsubs⟩ := hok
  have hlen : l.length ≤ maxLen := by
    obtain ⟨q, d, e1, h1, h2⟩ := hl.shape
    omega
  simp only [maxLen] at hlen
  have hlp : lpar.size = 1 := rfl
  have hrp : rpar.size = 1 := rfl
  have hs1 : sp1.size = 1 := rfl
  have hE : exT vl (.mk op v n l) = lpar ++ (wordOf op ++ (headT vl op v n ++ (exsT vl l ++ rpar))) := by rw [exT]
  rw [hE] at hb ⊢
  simp only [ByteArray.size_append] at hb
  obtain ⟨hd, hhd⟩ : ∃ hd, headT vl op v n = hd := ⟨_, rfl⟩
  rw [hhd] at hb ⊢
  refine enterA2 Tryd.func56 rfl rfl rfl ?_; refine zS (zR ?_); refine zw rfl WrA.bx ?_
  rintro _ _ _ ⟨g2, rfl, rfl, rfl⟩
  refine zw rfl WrA.bx ?_
  rintro _ _ _ ⟨g3, rfl, rfl, rfl⟩
  refine yS ?_; refine zN (zT (zS (zR (yV ?_)))); refine yB ?_; refine yC (rword_p σ op) ?_
  refine zO rfl (X.Rd.catStr rfl rfl (by show 1 + (wordOf op).size ≤ _; omega)) ?_
  refine yS ?_; refine zN (zT (zS (zS (zR (yV ?_))))); refine yB ?_; refine yE ?_; refine zN (zT ?_)
  refine XA.join [(5, 5), (14, 19)] (fun _ : Unit => [(5, .string (lpar ++ wordOf op ++ (if op = 1 then hd else ByteArray.empty)))]) (fun _ σ' Γ' => σ = σ' ∧ Γ' = [blk g2 [.slice pv vl.length cv, bs] 25, blk g3 [i64 op, i64 v, i64 n, .slice p l.length c] 54]) ?_ ?_
  · skip
    refine XA.condp rfl (fun h1 => ?_) (fun h1 => ?_)
    · have e1 : hd = sp1 ++ itoaS n := by rw [← hhd, headT, if_pos h1]
      rw [if_pos h1, e1]
      rw [e1, ByteArray.size_append] at hb
      refine zR (yA ?_); refine yV ?_; refine yB ?_; refine yC (itoa_a σ n hn.1 hn.2 hT) ?_
      refine zO rfl (X.Rd.catStr rfl rfl (by show 1 + (itoaS n).size ≤ _; omega)) ?_
      refine zO rfl (X.Rd.catStr rfl rfl (by show (lpar ++ wordOf op).size + (sp1 ++ itoaS n).size ≤ _; rw [ByteArray.size_append, ByteArray.size_append]; omega)) ?_
      refine yS ?_; refine zN (zT ?_)
      refine ⟨(Keep.upd (Keep.upd (Keep.upd (Keep.updO (Keep.upd (Keep.upd (Keep.upd (Keep.refl _ _) rfl) rfl) rfl) rfl) rfl) rfl) rfl), (), _, zM, ?_, ⟨rfl, rfl⟩⟩
      · exact zE
    · rw [if_neg h1, ByteArray.append_empty]
      refine XA.skip (zT ?_)
      refine ⟨(Keep.refl _ _), (), _, zM, ?_, ⟨rfl, rfl⟩⟩
      · exact zE
  rintro _ δ _ _ ⟨rfl, rfl⟩
  dsimp only [ovr, List.foldl]
  refine zT (zS (zS ?_)); refine XA.join [(20, 27)] (fun _ : Unit => [(27, .bool (decide (op = 2 ∨ op = 3)))]) (fun _ σ' Γ' => σ = σ' ∧ Γ' = [blk g2 [.slice pv vl.length cv, bs] 25, blk g3 [i64 op, i64 v, i64 n, .slice p l.length c] 54]) ?_ ?_
  · skip
    by_cases h2 : op = 2
    · have e1 : decide (op = 2 ∨ op = 3) = true := decide_eq_true (.inl h2)
      have e2 : decide (op = 2) = true := decide_eq_true h2
      rw [e1]
      refine zR (yV ?_); refine yB ?_; refine yE ?_; refine yA ?_
      first | refine gV ?_ | refine zH ?_
      first | refine gB ?_ | refine zH ?_
      first | refine gE ?_ | refine zH ?_
      refine zO rfl zP ?_; refine zN (zT ?_)
      refine ⟨(Keep.upd (Keep.upd (Keep.upd (Keep.upd (Keep.upd (Keep.upd (Keep.upd (Keep.upd (Keep.refl _ _) rfl) rfl) rfl) rfl) rfl) rfl) rfl) rfl), (), _, zM, ?_, ⟨rfl, rfl⟩⟩
      · exact zE
    · have e2 : decide (op = 2) = false := decide_eq_false h2
      have e1 : decide (op = 2 ∨ op = 3) = decide (op = 3) := by simp [h2]
      rw [e1]
      refine zR (yV ?_); refine yB ?_; refine yE ?_; refine yA ?_
      first | refine gV ?_ | refine zH ?_
      first | refine gB ?_ | refine zH ?_
      first | refine gE ?_ | refine zH ?_
      refine zO rfl zP ?_; refine zN (zT ?_)
      refine ⟨(Keep.upd (Keep.upd (Keep.upd (Keep.upd (Keep.upd (Keep.upd (Keep.upd (Keep.upd (Keep.refl _ _) rfl) rfl) rfl) rfl) rfl) rfl) rfl) rfl), (), _, zM, ?_, ⟨rfl, rfl⟩⟩
      · exact zE
  rintro _ δ _ _ ⟨rfl, rfl⟩
  dsimp only [ovr, List.foldl]
  refine zT ?_; refine XA.join [(5, 5), (28, 37)] (fun _ : Unit => [(5, .string (lpar ++ wordOf op ++ hd))]) (fun _ σ' Γ' => σ = σ' ∧ Γ' = [blk g2 [.slice pv vl.length cv, bs] 25, blk g3 [i64 op, i64 v, i64 n, .slice p l.length c] 54]) ?_ ?_
  · skip
    refine XA.condp rfl (fun h2 => ?_) (fun h2 => ?_)
    · have h1 : ¬ op = 1 := by omega
      obtain ⟨hv0, hv1⟩ := hvar h2
      obtain ⟨k, rfl⟩ : ∃ k : Nat, v = k := ⟨v.toNat, by omega⟩
      have hkl : k < vl.length := by omega
      obtain ⟨w, hw⟩ : ∃ w, vl[k]? = some w := ⟨vl[k], by simp [hkl]⟩
      obtain ⟨gg, o, row, rfl, ⟨rfl, -, -⟩, -, hrow⟩ := hv.at hw
      have a0 : PRow σ gg (o + k * 2) [.string w.name] := hrow.sub (j := 0) rfl
      have e1 : hd = sp1 ++ w.name := by rw [← hhd, headT, if_neg h1, if_pos h2, nameAt_get hw]
      have hlt : (0 : Int) ≤ k ∧ (k : Int) < (vl.length : Nat) := ⟨by omega, by omega⟩
      rw [if_neg h1, ByteArray.append_empty, e1]
      rw [e1, ByteArray.size_append] at hb
      refine zR (yA ?_); refine yV ?_; refine yB ?_; refine yV ?_; refine yB ?_; refine zO rfl (Rd.ixS rfl rfl) ?_; refine yV ?_; refine yB ?_
      refine zO rfl (X.Rd.catStr rfl rfl (by show 1 + w.name.size ≤ _; omega)) ?_
      refine zO rfl (X.Rd.catStr rfl rfl (by show (lpar ++ wordOf op).size + (sp1 ++ w.name).size ≤ _; rw [ByteArray.size_append, ByteArray.size_append]; omega)) ?_
      refine yS ?_; refine zN (zT ?_)
      refine ⟨(Keep.upd (Keep.upd (Keep.upd (Keep.upd (Keep.upd (Keep.upd (Keep.upd (Keep.upd (Keep.upd (Keep.upd (Keep.upd (Keep.refl _ _) rfl) rfl) rfl) rfl) rfl) rfl) rfl) rfl) rfl) rfl) rfl), (), _, zM, ?_, ⟨rfl, rfl⟩⟩
      · exact zE
    · have e1 : (if op = 1 then hd else ByteArray.empty) = hd := by
        split
        · rfl
        · rename_i h1; rw [← hhd, headT, if_neg h1, if_neg h2]
      rw [e1]
      refine XA.skip (zT ?_)
      refine ⟨(Keep.refl _ _), (), _, zM, ?_, ⟨rfl, rfl⟩⟩
      · exact zE
  rintro _ δ _ _ ⟨rfl, rfl⟩
  dsimp only [ovr, List.foldl]
  refine zT (zS (zS (zR (yS ?_)))); refine zN (zT (XA.block ?_))
  refine XA.gen [(2, _), (3, _), (4, _), (5, _), (6, _)] ⟨(by with_reducible (conv => lhs; whnf)), (by with_reducible (conv => lhs; whnf)), (by with_reducible (conv => lhs; whnf)), (by with_reducible (conv => lhs; whnf)), (by with_reducible (conv => lhs; whnf)), trivial⟩ (fun δ => ?_)
  dsimp only [List.foldl]
  refine XA.loop [(5, 6), (38, 54)] (fun x : Nat × ByteArray => [(6, i64 x.1), (5, .string x.2)]) (fun x σ' Γ' => σ = σ' ∧ x.1 ≤ l.length ∧ x.2 = lpar ++ wordOf op ++ hd ++ exsT vl (l.take x.1) ∧ Γ' = [blk g2 [.slice pv vl.length cv, bs] 25, blk g3 [i64 op, i64 v, i64 n, .slice p l.length c] 54]) (fun x => l.length - x.1) (0, lpar ++ wordOf op ++ hd) (by exact ⟨rfl, rfl, trivial⟩) (Δ0 := _) ?_ (⟨rfl, Nat.zero_le _, by rw [List.take_zero, exsT, ByteArray.append_empty], rfl⟩) ?_
  · exact zE
  rintro ⟨k, s⟩ δ _ _ ⟨rfl, hk, hs, rfl⟩
  dsimp only [ovr, List.foldl]
  simp only at hk hs
  by_cases hlt : k < l.length
  · obtain ⟨x', hx'⟩ : ∃ x', l[k]? = some x' := ⟨_, List.getElem?_eq_getElem hlt⟩
    obtain ⟨g, o, row, rfl, hrx, hrl, hrow⟩ := hl.at hx'
    have hcut := exsT_cut vl hx'
    have hsn := exsT_snoc vl hx'
    have hm := List.mem_of_getElem? hx'
    have hsz : s.size = 1 + ((wordOf op).size + (hd.size + (exsT vl (l.take k)).size)) := by rw [hs]; simp only [ByteArray.size_append]; omega
    have hrec := ih x' hm σ row pv cv vl bs hrx hv (hsubs.mem x' hm) hT (by omega)
    obtain ⟨pe, ce, rfl, -⟩ := hrx.inv
    have e3 : s ++ (sp1 ++ exT vl x') = lpar ++ wordOf op ++ hd ++ exsT vl (l.take (k + 1)) := by rw [hsn, hs]; simp only [ByteArray.append_assoc]
    refine zS (zS (zR (yA ?_))); refine yV ?_; refine yB ?_; refine zO rfl (Rd.lenSlice (tyrow rfl) rfl rfl) ?_; refine zO rfl (Rd.lss rfl rfl) ?_; refine zN (zT (XA.condT rfl (by first | rfl | exact decide_eq_true (by omega)) ?_))
    refine XA.skip (zT (zS (XA.block ?_)))
    refine XA.draw (by kernel_rfl) _ _ [7] [(0, .pu), (1, .rd), (2, .pu), (3, .rd), (4, .pu), (5, .pu), (6, .rd), (7, .wr), (8, .pu), (9, .pu), (10, .pu)] (by kernel_rfl) (PH.sub.refl _) (Ent.sel (R := blk g2 _ _) zL (Ent.sel (R := blk g3 _ _) zL (Ent.nil _))) ?_
    refine zu rfl rfl Rd.mv ?_; refine XPA.rd rfl rfl Gd.free (Rd.ldA rfl) ?_; refine zu rfl rfl (Rd.fA rfl) ?_; refine XPA.rd rfl rfl Gd.free (Rd.ldC rfl (tyrow rfl) rfl) ?_; refine zu rfl rfl Rd.mv ?_; refine zu rfl rfl (Rd.ixS rfl rfl) ?_; refine XPA.rd rfl rfl Gd.free (Rd.ldA rfl) ?_
    refine XPA.wrZ0 rfl rfl Gd.free (by kernel_rfl) (WrA.cE (hrec) rfl) ?_
    rintro _ _ _ ⟨_, ⟨rfl, rfl, rfl⟩, rfl⟩
    refine XPA.cl ?_
    refine zu rfl rfl (X.Rd.catStr rfl rfl (by show 1 + (exT vl x').size ≤ _; omega)) ?_
    refine zu rfl rfl (X.Rd.catStr rfl rfl (by show s.size + (sp1 ++ exT vl x').size ≤ _; rw [ByteArray.size_append]; omega)) ?_
    refine zu rfl rfl Rd.asg ?_; refine XPA.nil ?_; refine DA.inb_normal (zT (zR (yA ?_))); refine zO rfl zI ?_; refine yS ?_; refine zN (zT ?_)
    refine ⟨(Keep.upd (Keep.upd (Keep.upd (Keep.upd (Keep.upd (Keep.upd (Keep.updO (Keep.upd (Keep.upd (Keep.upd (Keep.upd (Keep.upd (Keep.upd (Keep.upd (Keep.upd (Keep.upd (Keep.upd (Keep.upd (Keep.upd (Keep.upd (Keep.upd (Keep.hav (Keep.hav (Keep.refl _ _) rfl) rfl) rfl) rfl) rfl) rfl) rfl) rfl) rfl) rfl) rfl) rfl) rfl) rfl) rfl) rfl) rfl) rfl) rfl) rfl) rfl) rfl) rfl), (k + 1, s ++ (sp1 ++ exT vl x')), _, zM, ?_, ⟨rfl, hlt, e3, rfl⟩, (by omega)⟩
    · exact zE
  · have e : l.take k = l := List.take_of_length_le (by omega)
    rw [e] at hs
    have hsz : s.size = 1 + ((wordOf op).size + (hd.size + (exsT vl l).size)) := by rw [hs]; simp only [ByteArray.size_append]; omega
    have e3 : s ++ rpar = lpar ++ (wordOf op ++ (hd ++ (exsT vl l ++ rpar))) := by rw [hs]; simp only [ByteArray.append_assoc]
    refine zS (zS (zR (yA ?_))); refine yV ?_; refine yB ?_; refine zO rfl (Rd.lenSlice (tyrow rfl) rfl rfl) ?_; refine zO rfl (Rd.lss rfl rfl) ?_; refine zN (zT (XA.condF rfl (by first | rfl | exact decide_eq_false (by omega)) ?_))
    refine XA.exit (DA.thn_exit (DA.thn_exit (DA.inb_same (zT (zS (zR (yA ?_)))))))
    refine zO rfl (X.Rd.catStr rfl rfl (by show s.size + 1 ≤ _; omega)) ?_
    refine yS ?_; refine zN (zT (XA.ret ?_))
    exact bodyA.ret (ResA.one rfl rfl) (Ent.nil _) ⟨congrArg Value.string e3, rfl, rfl⟩
end Go.Proofs.YthefnnkmpcgcmaaDoor

namespace Go.Proofs.YthefnnkmpcgcmaaDoor
open Go X
set_option maxHeartbeats 4000000
def RTstOK (x : St) : Prop := ∀ (σ : PH) (cs : List Value) (pv : Option Addr) (cv : Nat) (vl : List Va) (bs : Value), StAt σ cs x → PSl 2 rVa σ (.slice pv vl.length cv) vl → StV vl.length x → Tab σ → (stT vl x).size ≤ 1000000 →
  CallsA Tryd.prog 31 #[.agg #[.slice pv vl.length cv, bs], .agg cs.toArray] σ [] (RetA fun r σ' Γ' => r = .string (stT vl x) ∧ σ = σ' ∧ Γ' = [])
def RTliOK (l : List St) : Prop := ∀ (σ : PH) (p : Option Addr) (c : Nat) (pv : Option Addr) (cv : Nat) (vl : List Va) (bs : Value), PSl 12 StAt σ (.slice p l.length c) l → PSl 2 rVa σ (.slice pv vl.length cv) vl → StsV vl.length l → Tab σ → (stsT vl false l).size ≤ 1000000 →
  CallsA Tryd.prog 57 #[.agg #[.slice pv vl.length cv, bs], .slice p l.length c] σ [] (RetA fun r σ' Γ' => r = .string (lpar ++ (stsT vl false l ++ rpar)) ∧ σ = σ' ∧ Γ' = [])
theorem rlist_w (l : List St) (ih : ∀ x ∈ l, RTstOK x) : RTliOK l := by
  intro σ p c pv cv vl bs hl hv hok hT hb
  have hlen : l.length ≤ maxLen := by
    obtain ⟨q, d, e1, h1, h2⟩ := hl.shape
    omega
  simp only [maxLen] at hlen
  have hs1 : sp1.size = 1 := rfl
  refine enterA2 Tryd.func57 rfl rfl rfl ?_; refine zS (zR ?_); refine zw rfl WrA.bx ?_
  rintro _ _ _ ⟨g2, rfl, rfl, rfl⟩
  refine yS ?_; refine zN (zT (zS (zR (yS ?_)))); refine zN (zT (zS (zS (zR (yS ?_))))); refine zN (zT (XA.block ?_))
  refine XA.gen [(1, _), (2, _), (4, _), (5, _), (6, _)] ⟨(by with_reducible (conv => lhs; whnf)), (by with_reducible (conv => lhs; whnf)), (by with_reducible (conv => lhs; whnf)), (by with_reducible (conv => lhs; whnf)), (by with_reducible (conv => lhs; whnf)), trivial⟩ (fun δ => ?_)
  dsimp only [List.foldl]
  refine XA.loop [(5, 24)] (fun x : Nat × ByteArray => [(6, i64 x.1), (5, .string x.2)]) (fun x σ' Γ' => σ = σ' ∧ x.1 ≤ l.length ∧ x.2 = lpar ++ stsT vl false (l.take x.1) ∧ Γ' = [blk g2 [.slice pv vl.length cv, bs] 25]) (fun x => l.length - x.1) (0, lpar) (by exact ⟨rfl, rfl, trivial⟩) (Δ0 := _) ?_ (⟨rfl, Nat.zero_le _, by rw [List.take_zero, stsT, ByteArray.append_empty], rfl⟩) ?_
  · exact zE
  rintro ⟨k, s⟩ δ _ _ ⟨rfl, hk, hs, rfl⟩
  dsimp only [ovr, List.foldl]
  simp only at hk hs
  by_cases hlt : k < l.length
  · obtain ⟨x', hx'⟩ : ∃ x', l[k]? = some x' := ⟨_, List.getElem?_eq_getElem hlt⟩
    obtain ⟨g, o, row, rfl, hrx, hrl, hrow⟩ := hl.at hx'
    have hcut := stsT_cut vl hx'
    have hsn := stsT_step vl hx'
    have hm := List.mem_of_getElem? hx'
    have hsz : s.size = 1 + (stsT vl false (l.take k)).size := by rw [hs, ByteArray.size_append]; rfl
    have hrec := ih x' hm σ row pv cv vl bs hrx hv (hok.mem x' hm) hT (by omega)
    obtain ⟨pe, de, pf, df, pb, cb, pq, cq, rfl, -⟩ := hrx.inv12
    have e3 : s ++ optT (decide (0 < k)) sp1 ++ stT vl x' = lpar ++ stsT vl false (l.take (k + 1)) := by rw [hsn, hs]; simp only [ByteArray.append_assoc]
    refine zS (zS (zR (yA ?_))); refine yA ?_; refine zO rfl (Rd.lenSlice (tyrow rfl) rfl rfl) ?_; refine zO rfl (Rd.lss rfl rfl) ?_; refine zN (zT (XA.condT rfl (by first | rfl | exact decide_eq_true (by omega)) ?_)); refine XA.skip (zT (zS (XA.block (zS (zS (zR (yA ?_)))))))
    refine zO rfl (Rd.gtr rfl rfl) ?_; refine zN (zT ?_); refine XA.join [(5, 5), (15, 16)] (fun _ : Unit => [(5, .string (s ++ optT (decide (0 < k)) sp1))]) (fun _ σ' Γ' => σ = σ' ∧ Γ' = [blk g2 [.slice pv vl.length cv, bs] 25]) ?_ ?_
    · skip
      refine XA.condp rfl (fun h0 => ?_) (fun h0 => ?_)
      · have e1 : optT (decide (0 < k)) sp1 = sp1 := by rw [optT, if_pos (decide_eq_true (by omega))]
        rw [e1]
        refine zR (yA ?_)
        refine zO rfl (X.Rd.catStr rfl rfl (by show s.size + 1 ≤ _; omega)) ?_
        refine yS ?_; refine zN (zT ?_)
        refine ⟨(Keep.upd (Keep.upd (Keep.upd (Keep.refl _ _) rfl) rfl) rfl), (), _, zM, ?_, ⟨rfl, rfl⟩⟩
        · exact zE
      · have e1 : optT (decide (0 < k)) sp1 = ByteArray.empty := by rw [optT, if_neg (by rw [decide_eq_true_eq]; omega)]
        rw [e1, ByteArray.append_empty]
        refine XA.skip (zT ?_)
        refine ⟨(Keep.refl _ _), (), _, zM, ?_, ⟨rfl, rfl⟩⟩
        · exact zE
    rintro _ δ _ _ ⟨rfl, rfl⟩
    dsimp only [ovr, List.foldl]
    refine zT ?_
    refine XA.draw (by kernel_rfl) _ _ [6] [(0, .pu), (1, .rd), (2, .pu), (3, .pu), (4, .pu), (5, .rd), (6, .wr), (7, .pu), (8, .pu)] (by kernel_rfl) (PH.sub.refl _) (Ent.sel (R := blk g2 _ _) zL (Ent.nil _)) ?_
    refine zu rfl rfl Rd.mv ?_; refine XPA.rd rfl rfl Gd.free (Rd.ldA rfl) ?_; refine zu rfl rfl Rd.mv ?_; refine zu rfl rfl Rd.mv ?_; refine zu rfl rfl (Rd.ixS rfl rfl) ?_; refine XPA.rd rfl rfl Gd.free (Rd.ldA rfl) ?_
    refine XPA.wrZ0 rfl rfl Gd.free (by kernel_rfl) (WrA.cE (hrec) rfl) ?_
    rintro _ _ _ ⟨_, ⟨rfl, rfl, rfl⟩, rfl⟩
    refine XPA.cl ?_
    refine zu rfl rfl (X.Rd.catStr rfl rfl (by show (s ++ optT (decide (0 < k)) sp1).size + (stT vl x').size ≤ _; rw [ByteArray.size_append]; omega)) ?_
    refine zu rfl rfl Rd.asg ?_; refine XPA.nil ?_; refine DA.inb_normal (zT (zR (yA ?_))); refine zO rfl zI ?_; refine yS ?_; refine zN (zT ?_)
    refine ⟨(Keep.upd (Keep.upd (Keep.upd (Keep.upd (Keep.upd (Keep.updO (Keep.upd (Keep.upd (Keep.upd (Keep.upd (Keep.upd (Keep.upd (Keep.upd (Keep.hav (Keep.hav (Keep.upd (Keep.upd (Keep.upd (Keep.upd (Keep.upd (Keep.upd (Keep.upd (Keep.upd (Keep.hav (Keep.refl _ _) rfl) rfl) rfl) rfl) rfl) rfl) rfl) rfl) rfl) rfl) rfl) rfl) rfl) rfl) rfl) rfl) rfl) rfl) rfl) rfl) rfl) rfl) rfl) rfl), (k + 1, s ++ optT (decide (0 < k)) sp1 ++ stT vl x'), _, zM, ?_, ⟨rfl, hlt, e3, rfl⟩, (by omega)⟩
    · exact zE
  · have e : l.take k = l := List.take_of_length_le (by omega)
    rw [e] at hs
    have hsz : s.size = 1 + (stsT vl false l).size := by rw [hs, ByteArray.size_append]; rfl
    have e3 : s ++ rpar = lpar ++ (stsT vl false l ++ rpar) := by rw [hs, ByteArray.append_assoc]
    refine zS (zS (zR (yA ?_))); refine yA ?_; refine zO rfl (Rd.lenSlice (tyrow rfl) rfl rfl) ?_; refine zO rfl (Rd.lss rfl rfl) ?_; refine zN (zT (XA.condF rfl (by first | rfl | exact decide_eq_false (by omega)) ?_))
    refine XA.exit (DA.thn_exit (DA.thn_exit (DA.inb_same (zT (zS (zR (yA ?_)))))))
    refine zO rfl (X.Rd.catStr rfl rfl (by show s.size + 1 ≤ _; omega)) ?_
    refine yS ?_; refine zN (zT (XA.ret ?_))
    exact bodyA.ret (ResA.one rfl rfl) (Ent.nil _) ⟨congrArg Value.string e3, rfl, rfl⟩
theorem rneed (σ : PH) (op : Int) (c : Nat) (q : Bool) (h : hasByte (needs op) c = q) : CallsA Tryd.prog 55 #[i64 op, .int .u8 c] σ [] (RetA fun v σ' Γ' => v = .bool q ∧ σ = σ' ∧ Γ' = []) := h ▸ rneeded_a σ op c
theorem rst_w (x : St) : RTstOK x := by
  refine St.ind (P := RTstOK) ?_ x
  intro op v e f body els ih jh σ cs pv cv vl bs hx hv hok hT hb
  obtain ⟨pe, de, pf, df, pb, cb, pl, cl, rfl, ho, hvv, hxe, hxf, hxb, hxl⟩ := hx.inv12
  simp only [St.op, St.v, St.e, St.f, St.body, St.els] at hxe hxf hxb hxl ho hvv ⊢
  clear hx
  rw [StV] at hok
  obtain ⟨h7, hvar, hoke, hokf, -, -, hokb, hokl⟩ := hok
  obtain ⟨need1, need2, need3, need4, need5⟩ := need_op op
  have hlp : lpar.size = 1 := rfl
  have hrp : rpar.size = 1 := rfl
  have hs1 : sp1.size = 1 := rfl
  obtain ⟨tv, htv⟩ : ∃ t, optT (needV op) (sp1 ++ nameAt vl v) = t := ⟨_, rfl⟩
  obtain ⟨te, hte⟩ : ∃ t, optT (needE op) (sp1 ++ exT vl e) = t := ⟨_, rfl⟩
  obtain ⟨tf, htf⟩ : ∃ t, optT (needF op) (sp1 ++ exT vl f) = t := ⟨_, rfl⟩
  obtain ⟨tb, htb⟩ : ∃ t, optT (needB op) (sp1 ++ (lpar ++ (stsT vl false body ++ rpar))) = t := ⟨_, rfl⟩
  obtain ⟨to, hto⟩ : ∃ t, optT (needO op) (sp1 ++ (lpar ++ (stsT vl false els ++ rpar))) = t := ⟨_, rfl⟩
  have hE : stT vl (.mk op v e f body els) = lpar ++ (verbOf op ++ (tv ++ (te ++ (tf ++ (tb ++ (to ++ rpar)))))) := by rw [stT, htv, hte, htf, htb, hto]
  rw [hE] at hb ⊢
  simp only [ByteArray.size_append] at hb
  refine enterA2 Tryd.func31 rfl rfl rfl ?_; refine zS (zR ?_); refine zw rfl WrA.bx ?_
  rintro _ _ _ ⟨g2, rfl, rfl, rfl⟩
  refine zw rfl WrA.bx ?_
  rintro _ _ _ ⟨g3, rfl, rfl, rfl⟩
  refine yS ?_; refine zN (zT (zS (zR (yV ?_)))); refine yB ?_; refine yC (rverb_p σ op) ?_
  refine zO rfl (X.Rd.catStr rfl rfl (by show 1 + (verbOf op).size ≤ _; omega)) ?_
  refine yS ?_; refine zN (zT (zS (zS (zR (yV ?_))))); refine yB ?_; refine yC (rneed σ op 118 _ need3) ?_; refine zN (zT ?_)
  refine XA.join [(5, 5), (13, 22)] (fun _ : Unit => [(5, .string (lpar ++ verbOf op ++ tv))]) (fun _ σ' Γ' => σ = σ' ∧ Γ' = [blk g2 [.slice pv vl.length cv, bs] 25, blk g3 [i64 op, i64 v, i64 e.op, i64 e.v, i64 e.n, .slice pe e.l.length de, i64 f.op, i64 f.v, i64 f.n, .slice pf f.l.length df, .slice pb body.length cb, .slice pl els.length cl] 56]) ?_ ?_
  · skip
    refine XA.cond rfl (fun hq => ?_) (fun hq => ?_)
    · obtain ⟨hv0, hv1⟩ := hvar hq
      obtain ⟨k, rfl⟩ : ∃ k : Nat, v = k := ⟨v.toNat, by omega⟩
      have hkl : k < vl.length := by omega
      obtain ⟨w, hw⟩ : ∃ w, vl[k]? = some w := ⟨vl[k], by simp [hkl]⟩
      obtain ⟨gg, o, row, rfl, ⟨rfl, -, -⟩, -, hrow⟩ := hv.at hw
      have a0 : PRow σ gg (o + k * 2) [.string w.name] := hrow.sub (j := 0) rfl
      have e1 : tv = sp1 ++ w.name := by rw [← htv, optT, if_pos hq, nameAt_get hw]
      have hlt : (0 : Int) ≤ k ∧ (k : Int) < (vl.length : Nat) := ⟨by omega, by omega⟩
      rw [e1]
      refine zR (yA ?_); refine yV ?_; refine yB ?_; refine yV ?_; refine yB ?_; refine zO rfl (Rd.ixS rfl rfl) ?_; refine yV ?_; refine yB ?_
      refine zO rfl (X.Rd.catStr rfl rfl (by show 1 + (w.name).size ≤ _; rw [e1] at hb; simp only [ByteArray.size_append] at hb ⊢; omega)) ?_
      refine zO rfl (X.Rd.catStr rfl rfl (by show (lpar ++ verbOf op).size + (sp1 ++ w.name).size ≤ _; rw [e1] at hb; simp only [ByteArray.size_append] at hb ⊢; omega)) ?_
      refine yS ?_; refine zN (zT ?_)
      refine ⟨(Keep.upd (Keep.upd (Keep.upd (Keep.upd (Keep.upd (Keep.upd (Keep.upd (Keep.upd (Keep.upd (Keep.upd (Keep.upd (Keep.refl _ _) rfl) rfl) rfl) rfl) rfl) rfl) rfl) rfl) rfl) rfl) rfl), (), _, zM, ?_, ⟨rfl, rfl⟩⟩
      · exact zE
    · have e1 : tv = ByteArray.empty := by rw [← htv, optT, if_neg (by rw [hq]; exact Bool.noConfusion)]
      rw [e1, ByteArray.append_empty]
      refine XA.skip (zT ?_)
      refine ⟨(Keep.refl _ _), (), _, zM, ?_, ⟨rfl, rfl⟩⟩
      · exact zE
  rintro _ δ _ _ ⟨rfl, rfl⟩
  dsimp only [ovr, List.foldl]
  refine zT (zS (zS (zR (yV ?_)))); refine yB ?_; refine yC (rneed σ op 101 _ need1) ?_; refine zN (zT ?_)
  refine XA.join [(5, 5), (26, 32)] (fun _ : Unit => [(5, .string (lpar ++ verbOf op ++ tv ++ te))]) (fun _ σ' Γ' => σ = σ' ∧ Γ' = [blk g2 [.slice pv vl.length cv, bs] 25, blk g3 [i64 op, i64 v, i64 e.op, i64 e.v, i64 e.n, .slice pe e.l.length de, i64 f.op, i64 f.v, i64 f.n, .slice pf f.l.length df, .slice pb body.length cb, .slice pl els.length cl] 56]) ?_ ?_
  · skip
    refine XA.cond rfl (fun hq => ?_) (fun hq => ?_)
    · have e1 : te = sp1 ++ exT vl e := by rw [← hte, optT, if_pos hq]
      obtain ⟨hval, -⟩ := hoke hq
      have hb3 : (exT vl e).size ≤ 1000000 := by rw [e1] at hb; simp only [ByteArray.size_append] at hb ⊢; omega
      have hrec := rexpr_w e σ _ pv cv vl bs hxe hv hval hT hb3
      rw [e1]
      refine zR (yA ?_); refine zO rfl (Rd.ldA rfl) ?_; refine yV ?_; refine zO rfl (Rd.ldA rfl) ?_; refine yC (hrec) ?_
      refine zO rfl (X.Rd.catStr rfl rfl (by show 1 + (exT vl e).size ≤ _; rw [e1] at hb; simp only [ByteArray.size_append] at hb ⊢; omega)) ?_
      refine zO rfl (X.Rd.catStr rfl rfl (by show (lpar ++ verbOf op ++ tv).size + (sp1 ++ exT vl e).size ≤ _; rw [e1] at hb; simp only [ByteArray.size_append] at hb ⊢; omega)) ?_
      refine yS ?_; refine zN (zT ?_)
      refine ⟨(Keep.upd (Keep.upd (Keep.upd (Keep.updO (Keep.upd (Keep.upd (Keep.upd (Keep.upd (Keep.refl _ _) rfl) rfl) rfl) rfl) rfl) rfl) rfl) rfl), (), _, zM, ?_, ⟨rfl, rfl⟩⟩
      · exact zE
    · have e1 : te = ByteArray.empty := by rw [← hte, optT, if_neg (by rw [hq]; exact Bool.noConfusion)]
      rw [e1, ByteArray.append_empty]
      refine XA.skip (zT ?_)
      refine ⟨(Keep.refl _ _), (), _, zM, ?_, ⟨rfl, rfl⟩⟩
      · exact zE
  rintro _ δ _ _ ⟨rfl, rfl⟩
  dsimp only [ovr, List.foldl]
  refine zT (zS (zS (zR (yV ?_)))); refine yB ?_; refine yC (rneed σ op 102 _ need2) ?_; refine zN (zT ?_)
  refine XA.join [(5, 5), (36, 42)] (fun _ : Unit => [(5, .string (lpar ++ verbOf op ++ tv ++ te ++ tf))]) (fun _ σ' Γ' => σ = σ' ∧ Γ' = [blk g2 [.slice pv vl.length cv, bs] 25, blk g3 [i64 op, i64 v, i64 e.op, i64 e.v, i64 e.n, .slice pe e.l.length de, i64 f.op, i64 f.v, i64 f.n, .slice pf f.l.length df, .slice pb body.length cb, .slice pl els.length cl] 56]) ?_ ?_
  · skip
    refine XA.cond rfl (fun hq => ?_) (fun hq => ?_)
    · have e1 : tf = sp1 ++ exT vl f := by rw [← htf, optT, if_pos hq]
      obtain ⟨hval, -⟩ := hokf hq
      have hb3 : (exT vl f).size ≤ 1000000 := by rw [e1] at hb; simp only [ByteArray.size_append] at hb ⊢; omega
      have hrec := rexpr_w f σ _ pv cv vl bs hxf hv hval hT hb3
      rw [e1]
      refine zR (yA ?_); refine zO rfl (Rd.ldA rfl) ?_; refine yV ?_; refine zO rfl (Rd.ldA rfl) ?_; refine yC (hrec) ?_
      refine zO rfl (X.Rd.catStr rfl rfl (by show 1 + (exT vl f).size ≤ _; rw [e1] at hb; simp only [ByteArray.size_append] at hb ⊢; omega)) ?_
      refine zO rfl (X.Rd.catStr rfl rfl (by show (lpar ++ verbOf op ++ tv ++ te).size + (sp1 ++ exT vl f).size ≤ _; rw [e1] at hb; simp only [ByteArray.size_append] at hb ⊢; omega)) ?_
      refine yS ?_; refine zN (zT ?_)
      refine ⟨(Keep.upd (Keep.upd (Keep.upd (Keep.updO (Keep.upd (Keep.upd (Keep.upd (Keep.upd (Keep.refl _ _) rfl) rfl) rfl) rfl) rfl) rfl) rfl) rfl), (), _, zM, ?_, ⟨rfl, rfl⟩⟩
      · exact zE
    · have e1 : tf = ByteArray.empty := by rw [← htf, optT, if_neg (by rw [hq]; exact Bool.noConfusion)]
      rw [e1, ByteArray.append_empty]
      refine XA.skip (zT ?_)
      refine ⟨(Keep.refl _ _), (), _, zM, ?_, ⟨rfl, rfl⟩⟩
      · exact zE
  rintro _ δ _ _ ⟨rfl, rfl⟩
  dsimp only [ovr, List.foldl]
  refine zT (zS (zS (zR (yV ?_)))); refine yB ?_; refine yC (rneed σ op 98 _ need4) ?_; refine zN (zT ?_)
  refine XA.join [(5, 5), (46, 52)] (fun _ : Unit => [(5, .string (lpar ++ verbOf op ++ tv ++ te ++ tf ++ tb))]) (fun _ σ' Γ' => σ = σ' ∧ Γ' = [blk g2 [.slice pv vl.length cv, bs] 25, blk g3 [i64 op, i64 v, i64 e.op, i64 e.v, i64 e.n, .slice pe e.l.length de, i64 f.op, i64 f.v, i64 f.n, .slice pf f.l.length df, .slice pb body.length cb, .slice pl els.length cl] 56]) ?_ ?_
  · skip
    refine XA.cond rfl (fun hq => ?_) (fun hq => ?_)
    · have e1 : tb = sp1 ++ (lpar ++ (stsT vl false body ++ rpar)) := by rw [← htb, optT, if_pos hq]
      have hb3 : (stsT vl false body).size ≤ 1000000 := by rw [e1] at hb; simp only [ByteArray.size_append] at hb ⊢; omega
      have hrec := rlist_w body ih σ _ _ pv cv vl bs hxb hv hokb hT hb3
      rw [e1]
      refine zR (yA ?_); refine zO rfl (Rd.ldA rfl) ?_; refine yV ?_; refine yB ?_; refine yC (hrec) ?_
      refine zO rfl (X.Rd.catStr rfl rfl (by show 1 + ((lpar ++ (stsT vl false body ++ rpar))).size ≤ _; rw [e1] at hb; simp only [ByteArray.size_append] at hb ⊢; omega)) ?_
      refine zO rfl (X.Rd.catStr rfl rfl (by show (lpar ++ verbOf op ++ tv ++ te ++ tf).size + (sp1 ++ (lpar ++ (stsT vl false body ++ rpar))).size ≤ _; rw [e1] at hb; simp only [ByteArray.size_append] at hb ⊢; omega)) ?_
      refine yS ?_; refine zN (zT ?_)
      refine ⟨(Keep.upd (Keep.upd (Keep.upd (Keep.updO (Keep.upd (Keep.upd (Keep.upd (Keep.upd (Keep.refl _ _) rfl) rfl) rfl) rfl) rfl) rfl) rfl) rfl), (), _, zM, ?_, ⟨rfl, rfl⟩⟩
      · exact zE
    · have e1 : tb = ByteArray.empty := by rw [← htb, optT, if_neg (by rw [hq]; exact Bool.noConfusion)]
      rw [e1, ByteArray.append_empty]
      refine XA.skip (zT ?_)
      refine ⟨(Keep.refl _ _), (), _, zM, ?_, ⟨rfl, rfl⟩⟩
      · exact zE
  rintro _ δ _ _ ⟨rfl, rfl⟩
  dsimp only [ovr, List.foldl]
  refine zT (zS (zS (zR (yV ?_)))); refine yB ?_; refine yC (rneed σ op 111 _ need5) ?_; refine zN (zT ?_)
  refine XA.join [(5, 5), (56, 62)] (fun _ : Unit => [(5, .string (lpar ++ verbOf op ++ tv ++ te ++ tf ++ tb ++ to))]) (fun _ σ' Γ' => σ = σ' ∧ Γ' = [blk g2 [.slice pv vl.length cv, bs] 25, blk g3 [i64 op, i64 v, i64 e.op, i64 e.v, i64 e.n, .slice pe e.l.length de, i64 f.op, i64 f.v, i64 f.n, .slice pf f.l.length df, .slice pb body.length cb, .slice pl els.length cl] 56]) ?_ ?_
  · skip
    refine XA.cond rfl (fun hq => ?_) (fun hq => ?_)
    · have e1 : to = sp1 ++ (lpar ++ (stsT vl false els ++ rpar)) := by rw [← hto, optT, if_pos hq]
      have hb3 : (stsT vl false els).size ≤ 1000000 := by rw [e1] at hb; simp only [ByteArray.size_append] at hb ⊢; omega
      have hrec := rlist_w els jh σ _ _ pv cv vl bs hxl hv hokl hT hb3
      rw [e1]
      refine zR (yA ?_); refine zO rfl (Rd.ldA rfl) ?_; refine yV ?_; refine yB ?_; refine yC (hrec) ?_
      refine zO rfl (X.Rd.catStr rfl rfl (by show 1 + ((lpar ++ (stsT vl false els ++ rpar))).size ≤ _; rw [e1] at hb; simp only [ByteArray.size_append] at hb ⊢; omega)) ?_
      refine zO rfl (X.Rd.catStr rfl rfl (by show (lpar ++ verbOf op ++ tv ++ te ++ tf ++ tb).size + (sp1 ++ (lpar ++ (stsT vl false els ++ rpar))).size ≤ _; rw [e1] at hb; simp only [ByteArray.size_append] at hb ⊢; omega)) ?_
      refine yS ?_; refine zN (zT ?_)
      refine ⟨(Keep.upd (Keep.upd (Keep.upd (Keep.updO (Keep.upd (Keep.upd (Keep.upd (Keep.upd (Keep.refl _ _) rfl) rfl) rfl) rfl) rfl) rfl) rfl) rfl), (), _, zM, ?_, ⟨rfl, rfl⟩⟩
      · exact zE
    · have e1 : to = ByteArray.empty := by rw [← hto, optT, if_neg (by rw [hq]; exact Bool.noConfusion)]
      rw [e1, ByteArray.append_empty]
      refine XA.skip (zT ?_)
      refine ⟨(Keep.refl _ _), (), _, zM, ?_, ⟨rfl, rfl⟩⟩
      · exact zE
  rintro _ δ _ _ ⟨rfl, rfl⟩
  dsimp only [ovr, List.foldl]
  refine zT (zS (zR (yA ?_)))
  refine zO rfl (X.Rd.catStr rfl rfl (by show (lpar ++ verbOf op ++ tv ++ te ++ tf ++ tb ++ to).size + 1 ≤ _; simp only [ByteArray.size_append]; omega)) ?_
  refine yS ?_; refine zN (zT (XA.ret ?_))
  have e3 : lpar ++ verbOf op ++ tv ++ te ++ tf ++ tb ++ to ++ rpar = lpar ++ (verbOf op ++ (tv ++ (te ++ (tf ++ (tb ++ (to ++ rpar)))))) := by simp only [ByteArray.append_assoc]
  exact bodyA.ret (ResA.one rfl rfl) (Ent.nil _) ⟨congrArg Value.string e3, rfl, rfl⟩
end Go.Proofs.YthefnnkmpcgcmaaDoor

namespace Go.Proofs.YthefnnkmpcgcmaaDoor
open Go X
set_option maxHeartbeats 4000000
theorem printed_p (σ : PH) (cs : List Value) (pr : Pr) (hp : PrAt σ cs pr) (hT : Tab σ) :
    CallsA Tryd.prog 14 #[.agg cs.toArray] σ [] (RetA fun v σ' Γ' => v = .tuple #[.string (okB (printP pr)), .agg #[i64 (errC (printP pr)), i64 (errA (printP pr))]] ∧ σ = σ' ∧ Γ' = []) := by
  have hp0 := hp
  obtain ⟨vs, bs, rfl, hv, hb⟩ := hp
  obtain ⟨pv, cv, rfl, hv1, hv2⟩ := hv.shape
  obtain ⟨pb, cb, rfl, hb1, hb2⟩ := hb.shape
  have hlv : pr.vars.length ≤ maxLen := by omega
  have hlb : pr.body.length ≤ maxLen := by omega
  simp only [maxLen] at hlv hlb
  have hchk := fault_a σ _ pr hp0
  by_cases hc : checkP pr ≠ 0
  · have e : printP pr = .error (checkP pr, -1) := by rw [printP, if_pos hc]
    rw [e]
    refine enterA1 Tryd.func14 rfl rfl rfl ?_; refine zS (zR ?_); refine zw rfl WrA.bx ?_
    rintro _ _ _ ⟨g1, rfl, rfl, rfl⟩
    refine yS ?_; refine zw rfl (WrA.alloc (tyrow rfl)) ?_
    rintro _ _ _ ⟨g3, rfl, rfl, rfl⟩
    refine zN (zT (zS (zS (zR (zO rfl (Rd.ldA rfl) ?_)))))
    refine yC (hchk) ?_; refine yS ?_; refine zN (zT (zS (zR (yA ?_)))); refine zO rfl (Rd.neq rfl rfl) ?_; refine zN (zT (XA.condT rfl (by first | rfl | exact decide_eq_true hc) ?_)); refine zS (zR (yA ?_))
    refine yC (rF_t σ (checkP pr) (-1)) ?_; refine yS ?_; refine zw rfl (WrA.st (tyrow rfl) rfl) ?_
    rintro _ _ _ ⟨rfl, rfl, rfl⟩
    refine zN (zT (XA.ret (DA.thn_ret ?_)))
    exact bodyA.ret (ResA.tcT rfl rfl rfl (Ld.atBlk (tyrow rfl) rfl zL rfl (by first | exact take0 (by first | rfl | assumption | (refine (ints_len _).trans ?_; assumption) | (simp [*]; (first | done | fail))) | assumption | exact take_app (by first | rfl | assumption | (refine (ints_len _).trans ?_; assumption) | (simp [*]; (first | done | fail))) | (conv => lhs; simp only [List.drop_succ_cons, List.drop_zero, List.take_succ_cons, List.take_zero])) (by first | rfl | assumption | (refine (ints_len _).trans ?_; assumption) | (simp [*]; (first | done | fail))))) (Ent.nil _) ⟨rfl, rfl, rfl⟩
  have hc0 : checkP pr = 0 := by omega
  have hw := check_w hc0
  have hi := hp0.i
  obtain ⟨hz1, hz2⟩ := prT_le hw hi
  have hok := (check_valid hc0).1
  have elet : (⟨#[108, 101, 116, 32]⟩ : ByteArray) = kwLet ++ sp1 := by decide
  refine enterA1 Tryd.func14 rfl rfl rfl ?_; refine zS (zR ?_); refine zw rfl WrA.bx ?_
  rintro _ _ _ ⟨g1, rfl, rfl, rfl⟩
  refine yS ?_; refine zw rfl (WrA.alloc (tyrow rfl)) ?_
  rintro _ _ _ ⟨g3, rfl, rfl, rfl⟩
  refine zN (zT (zS (zS (zR (zO rfl (Rd.ldA rfl) ?_)))))
  refine yC (hchk) ?_; refine yS ?_; refine zN (zT (zS (zR (yA ?_)))); refine zO rfl (Rd.neq rfl rfl) ?_; refine zN (zT (XA.condF rfl (by first | rfl | exact decide_eq_false hc) ?_)); refine XA.skip (zT (zS (zR (yS ?_)))); refine zN (zT (zS (zS (zR (yS ?_)))))
  refine zN (zT (XA.block ?_))
  refine XA.gen [(1, _), (2, _), (3, _), (5, _), (6, _)] ⟨(by with_reducible (conv => lhs; whnf)), (by with_reducible (conv => lhs; whnf)), (by with_reducible (conv => lhs; whnf)), (by with_reducible (conv => lhs; whnf)), (by with_reducible (conv => lhs; whnf)), trivial⟩ (fun δ => ?_)
  dsimp only [List.foldl]
  refine XA.loop [(5, 6), (14, 39)] (fun x : Nat × ByteArray => [(6, i64 x.1), (5, .string x.2)]) (fun x σ' Γ' => σ = σ' ∧ x.1 ≤ pr.vars.length ∧ x.2 = varsT (pr.vars.take x.1) ∧ Γ' = [blk g3 [i64 0, i64 0] 30, blk g1 [.slice pv pr.vars.length cv, .slice pb pr.body.length cb] 25]) (fun x => pr.vars.length - x.1) (0, ByteArray.empty) (by exact ⟨rfl, rfl, trivial⟩) (Δ0 := _) ?_ (⟨rfl, Nat.zero_le _, by rw [List.take_zero, varsT], rfl⟩) ?_
  · exact zE
  rintro ⟨k, s⟩ δ _ _ ⟨rfl, hk, hs, rfl⟩
  dsimp only [ovr, List.foldl]
  simp only at hk hs
  by_cases hlt : k < pr.vars.length
  · obtain ⟨w, hw'⟩ : ∃ w, pr.vars[k]? = some w := ⟨_, List.getElem?_eq_getElem hlt⟩
    obtain ⟨gg, o, row, rfl, ⟨rfl, -, -⟩, -, hrow⟩ := hv.at hw'
    obtain ⟨n1, n2, n3⟩ := hw.names w (List.mem_of_getElem? hw')
    have a0 : PRow σ gg (o + k * 2) [.string w.name] := hrow.sub (j := 0) rfl
    have a1 : PRow σ gg (o + k * 2 + 1) [i64 w.size] := hrow.sub (j := 1) rfl
    have hcut := varsT_cut hw'
    have hsn := varsT_step hw'
    have n4 := (nameOk_iff n1).2.2
    have n5 := itoaS_le (n := w.size) ⟨by omega, by omega⟩
    have hsz : s.size ≤ 280 := by rw [hs]; omega
    have evar : (⟨#[108, 101, 116, 32]⟩ : ByteArray) ++ w.name ++ (⟨#[32]⟩ : ByteArray) ++ itoaS w.size ++ (⟨#[10]⟩ : ByteArray) = varT w := by rw [elet, varT]; simp only [ByteArray.append_assoc]; rfl
    have e3 : s ++ ((⟨#[108, 101, 116, 32]⟩ : ByteArray) ++ w.name ++ (⟨#[32]⟩ : ByteArray) ++ itoaS w.size ++ (⟨#[10]⟩ : ByteArray)) = varsT (pr.vars.take (k + 1)) := by rw [hsn, evar, hs]
    have z4 : (⟨#[108, 101, 116, 32]⟩ : ByteArray).size = 4 := rfl
    have z1 : (⟨#[32]⟩ : ByteArray).size = 1 := rfl
    have z2 : (⟨#[10]⟩ : ByteArray).size = 1 := rfl
    refine zS (zS (zR (yA ?_))); refine yV ?_; refine yB ?_; refine zO rfl (Rd.lenSlice (tyrow rfl) rfl rfl) ?_; refine zO rfl (Rd.lss rfl rfl) ?_; refine zN (zT (XA.condT rfl (by first | rfl | exact decide_eq_true (by omega)) ?_))
    refine XA.skip (zT (zS (XA.block ?_)))
    refine XA.draw (by kernel_rfl) _ _ [] [(0, .pu), (1, .pu), (2, .rd), (3, .pu), (4, .pu), (5, .pu), (6, .rd), (7, .pu), (8, .pu), (9, .pu), (10, .rd), (11, .pu), (12, .pu), (13, .pu), (14, .rd), (15, .wr), (16, .pu), (17, .pu), (18, .pu), (19, .pu)] (by kernel_rfl) (PH.sub.refl _) (Ent.sel (R := blk g1 _ _) zL (Ent.nil _)) ?_
    refine zu rfl rfl Rd.mv ?_; refine zu rfl rfl (Rd.fA rfl) ?_; refine XPA.rd rfl rfl Gd.free (Rd.ldC rfl (tyrow rfl) rfl) ?_; refine zu rfl rfl Rd.mv ?_; refine zu rfl rfl (Rd.ixS rfl rfl) ?_; refine zu rfl rfl (Rd.fA rfl) ?_; refine XPA.rd rfl rfl Gd.free (Rd.ldC rfl (tyrow rfl) rfl) ?_
    refine zu rfl rfl (X.Rd.catStr rfl rfl (by show 4 + w.name.size ≤ _; omega)) ?_
    refine zu rfl rfl (X.Rd.catStr rfl rfl (by show ((⟨#[108, 101, 116, 32]⟩ : ByteArray) ++ w.name).size + 1 ≤ _; rw [ByteArray.size_append, z4]; omega)) ?_
    refine zu rfl rfl (Rd.fA rfl) ?_; refine XPA.rd rfl rfl Gd.free (Rd.ldC rfl (tyrow rfl) rfl) ?_; refine zu rfl rfl Rd.mv ?_; refine zu rfl rfl (Rd.ixS rfl rfl) ?_; refine zu rfl rfl (Rd.fA rfl) ?_; refine XPA.rd rfl rfl Gd.free (Rd.ldC rfl (tyrow rfl) rfl) ?_
    refine XPA.wr0 rfl rfl Gd.free (WrA.cE (itoa_i σ w.size (by omega) (by omega) hT) rfl) ?_
    rintro _ _ _ ⟨_, ⟨rfl, rfl, rfl⟩, rfl⟩
    refine stays (XPA.cl ?_)
    refine zu rfl rfl (X.Rd.catStr rfl rfl (by show ((⟨#[108, 101, 116, 32]⟩ : ByteArray) ++ w.name ++ (⟨#[32]⟩ : ByteArray)).size + (itoaS w.size).size ≤ _; simp only [ByteArray.size_append, z4, z1]; omega)) ?_
    refine zu rfl rfl (X.Rd.catStr rfl rfl (by show ((⟨#[108, 101, 116, 32]⟩ : ByteArray) ++ w.name ++ (⟨#[32]⟩ : ByteArray) ++ itoaS w.size).size + 1 ≤ _; simp only [ByteArray.size_append, z4, z1]; omega)) ?_
    refine zu rfl rfl (X.Rd.catStr rfl rfl (by show s.size + ((⟨#[108, 101, 116, 32]⟩ : ByteArray) ++ w.name ++ (⟨#[32]⟩ : ByteArray) ++ itoaS w.size ++ (⟨#[10]⟩ : ByteArray)).size ≤ _; simp only [ByteArray.size_append, z4, z1, z2]; omega)) ?_
    refine zu rfl rfl Rd.asg ?_; refine XPA.nil ?_; refine DA.inb_normal (zT (zR (yA ?_))); refine zO rfl zI ?_; refine yS ?_; refine zN (zT ?_)
    refine ⟨(Keep.upd (Keep.upd (Keep.upd (Keep.upd (Keep.upd (Keep.upd (Keep.upd (Keep.updO (Keep.upd (Keep.upd (Keep.upd (Keep.upd (Keep.upd (Keep.upd (Keep.upd (Keep.upd (Keep.upd (Keep.upd (Keep.upd (Keep.upd (Keep.upd (Keep.upd (Keep.upd (Keep.upd (Keep.upd (Keep.upd (Keep.upd (Keep.upd (Keep.upd (Keep.upd (Keep.hav (Keep.hav (Keep.refl _ _) rfl) rfl) rfl) rfl) rfl) rfl) rfl) rfl) rfl) rfl) rfl) rfl) rfl) rfl) rfl) rfl) rfl) rfl) rfl) rfl) rfl) rfl) rfl) rfl) rfl) rfl) rfl) rfl) rfl) rfl) rfl) rfl), (k + 1, s ++ ((⟨#[108, 101, 116, 32]⟩ : ByteArray) ++ w.name ++ (⟨#[32]⟩ : ByteArray) ++ itoaS w.size ++ (⟨#[10]⟩ : ByteArray))), _, zM, ?_, ⟨rfl, hlt, e3, rfl⟩, (by omega)⟩
    · exact zE
  have e : pr.vars.take k = pr.vars := List.take_of_length_le (by omega)
  rw [e] at hs
  refine zS (zS (zR (yA ?_))); refine yV ?_; refine yB ?_; refine zO rfl (Rd.lenSlice (tyrow rfl) rfl rfl) ?_; refine zO rfl (Rd.lss rfl rfl) ?_; refine zN (zT (XA.condF rfl (by first | rfl | exact decide_eq_false (by omega)) ?_))
  refine XA.exit (DA.thn_exit (DA.thn_exit (DA.inb_same (zT (zS (zS (zR (yS ?_)))))))); refine zN (zT (XA.block ?_))
  subst hs
  refine XA.gen [(1, _), (2, _), (3, _), (5, _), (7, _)] ⟨(by with_reducible (conv => lhs; whnf)), (by with_reducible (conv => lhs; whnf)), (by with_reducible (conv => lhs; whnf)), (by with_reducible (conv => lhs; whnf)), (by with_reducible (conv => lhs; whnf)), trivial⟩ (fun δ => ?_)
  dsimp only [List.foldl]
  refine XA.loop [(5, 5), (7, 7), (40, 56)] (fun x : Nat × ByteArray => [(7, i64 x.1), (5, .string x.2)]) (fun x σ' Γ' => σ = σ' ∧ x.1 ≤ pr.body.length ∧ x.2 = varsT pr.vars ++ bodyT pr.vars (pr.body.take x.1) ∧ Γ' = [blk g3 [i64 0, i64 0] 30, blk g1 [.slice pv pr.vars.length cv, .slice pb pr.body.length cb] 25]) (fun x => pr.body.length - x.1) (0, varsT pr.vars) (by exact ⟨rfl, rfl, trivial⟩) (Δ0 := _) ?_ (⟨rfl, Nat.zero_le _, by rw [List.take_zero, bodyT, ByteArray.append_empty], rfl⟩) ?_
  · exact zE
  rintro ⟨k, s⟩ δ _ _ ⟨rfl, hk, hs, rfl⟩
  dsimp only [ovr, List.foldl]
  simp only at hk hs
  by_cases hlt : k < pr.body.length
  · obtain ⟨x', hx'⟩ : ∃ x', pr.body[k]? = some x' := ⟨_, List.getElem?_eq_getElem hlt⟩
    obtain ⟨gg, o, row, rfl, hrx, hrl, hrow⟩ := hb.at hx'
    have hcut := bodyT_cut pr.vars hx'
    have hsn := bodyT_step pr.vars hx'
    have hm := List.mem_of_getElem? hx'
    have hrec := rst_w x' σ row pv cv pr.vars (.slice (some ⟨gg, o, none⟩) pr.body.length cb) hrx hv (hok.mem x' hm) hT (by omega)
    obtain ⟨pe, de, pf, df, pb', cb', pq, cq, rfl, -⟩ := hrx.inv12
    have hsz : s.size = (varsT pr.vars).size + (bodyT pr.vars (pr.body.take k)).size := by rw [hs, ByteArray.size_append]
    have e3 : s ++ (stT pr.vars x' ++ nl1) = varsT pr.vars ++ bodyT pr.vars (pr.body.take (k + 1)) := by rw [hsn, hs]; simp only [ByteArray.append_assoc]
    refine zS (zS (zR (yA ?_))); refine yV ?_; refine yB ?_; refine zO rfl (Rd.lenSlice (tyrow rfl) rfl rfl) ?_; refine zO rfl (Rd.lss rfl rfl) ?_; refine zN (zT (XA.condT rfl (by first | rfl | exact decide_eq_true (by omega)) ?_))
    refine XA.skip (zT (zS (XA.block ?_)))
    refine XA.draw (by kernel_rfl) _ _ [7] [(0, .pu), (1, .rd), (2, .pu), (3, .rd), (4, .pu), (5, .pu), (6, .rd), (7, .wr), (8, .pu), (9, .pu), (10, .pu)] (by kernel_rfl) (PH.sub.refl _) (Ent.sel (R := blk g1 _ _) zL (Ent.nil _)) ?_
    refine zu rfl rfl Rd.mv ?_; refine XPA.rd rfl rfl Gd.free (Rd.ldA rfl) ?_; refine zu rfl rfl (Rd.fA rfl) ?_; refine XPA.rd rfl rfl Gd.free (Rd.ldC rfl (tyrow rfl) rfl) ?_; refine zu rfl rfl Rd.mv ?_; refine zu rfl rfl (Rd.ixS rfl rfl) ?_; refine XPA.rd rfl rfl Gd.free (Rd.ldA rfl) ?_
    refine XPA.wrZ0 rfl rfl Gd.free (by kernel_rfl) (WrA.cE (hrec) rfl) ?_
    rintro _ _ _ ⟨_, ⟨rfl, rfl, rfl⟩, rfl⟩
    refine XPA.cl ?_
    refine zu rfl rfl (X.Rd.catStr rfl rfl (by show (stT pr.vars x').size + 1 ≤ _; omega)) ?_
    refine zu rfl rfl (X.Rd.catStr rfl rfl (by show s.size + (stT pr.vars x' ++ nl1).size ≤ _; rw [ByteArray.size_append, show nl1.size = 1 from rfl]; omega)) ?_
    refine zu rfl rfl Rd.asg ?_; refine XPA.nil ?_; refine DA.inb_normal (zT (zR (yA ?_))); refine zO rfl zI ?_; refine yS ?_; refine zN (zT ?_)
    refine ⟨(Keep.upd (Keep.upd (Keep.upd (Keep.upd (Keep.upd (Keep.upd (Keep.updO (Keep.upd (Keep.upd (Keep.upd (Keep.upd (Keep.upd (Keep.upd (Keep.upd (Keep.upd (Keep.upd (Keep.upd (Keep.upd (Keep.upd (Keep.upd (Keep.upd (Keep.hav (Keep.hav (Keep.hav (Keep.refl _ _) rfl) rfl) rfl) rfl) rfl) rfl) rfl) rfl) rfl) rfl) rfl) rfl) rfl) rfl) rfl) rfl) rfl) rfl) rfl) rfl) rfl) rfl) rfl) rfl), (k + 1, s ++ (stT pr.vars x' ++ nl1)), _, zM, ?_, ⟨rfl, hlt, e3, rfl⟩, (by omega)⟩
    · exact zE
  have e : pr.body.take k = pr.body := List.take_of_length_le (by omega)
  rw [e] at hs
  have hT2 : s = prT pr := hs
  refine zS (zS (zR (yA ?_))); refine yV ?_; refine yB ?_; refine zO rfl (Rd.lenSlice (tyrow rfl) rfl rfl) ?_; refine zO rfl (Rd.lss rfl rfl) ?_; refine zN (zT (XA.condF rfl (by first | rfl | exact decide_eq_false (by omega)) ?_))
  refine XA.exit (DA.thn_exit (DA.thn_exit (DA.inb_same (zT (zS (zS (zR (yA ?_)))))))); refine zO rfl (Rd.lenString (tyrow rfl) rfl rfl) ?_; refine zO rfl (Rd.gtr rfl rfl) ?_; refine zN (zT ?_)
  clear hs
  subst hT2
  by_cases h6 : 6000 < (prT pr).size
  · have e : printP pr = .error (3, -1) := by rw [printP, if_neg hc, if_pos h6]
    rw [e]
    refine XA.condT rfl (by first | rfl | exact decide_eq_true (by omega)) ?_; refine zS (zR ?_)
    refine yC (rF_t σ 3 (-1)) ?_; refine yS ?_; refine zw rfl (WrA.st (tyrow rfl) rfl) ?_
    rintro _ _ _ ⟨rfl, rfl, rfl⟩
    refine zN (zT (XA.ret (DA.thn_ret ?_)))
    exact bodyA.ret (ResA.tcT rfl rfl rfl (Ld.atBlk (tyrow rfl) rfl zL rfl (by first | exact take0 (by first | rfl | assumption | (refine (ints_len _).trans ?_; assumption) | (simp [*]; (first | done | fail))) | assumption | exact take_app (by first | rfl | assumption | (refine (ints_len _).trans ?_; assumption) | (simp [*]; (first | done | fail))) | (conv => lhs; simp only [List.drop_succ_cons, List.drop_zero, List.take_succ_cons, List.take_zero])) (by first | rfl | assumption | (refine (ints_len _).trans ?_; assumption) | (simp [*]; (first | done | fail))))) (Ent.nil _) ⟨rfl, rfl, rfl⟩
  · have e : printP pr = .ok (prT pr) := by rw [printP, if_neg hc, if_neg h6]
    rw [e]
    refine XA.condF rfl (by first | rfl | exact decide_eq_false (by omega)) ?_; refine XA.skip (zT (zS (zR (yA ?_))))
    refine zO rfl (Rd.bl (fun _ _ => tyrow) rfl rfl rfl) ?_; refine yS ?_; refine zw rfl (WrA.st (tyrow rfl) rfl) ?_
    rintro _ _ _ ⟨rfl, rfl, rfl⟩
    refine zN (zT (XA.ret ?_))
    exact bodyA.ret (ResA.tcT rfl rfl rfl (Ld.atBlk (tyrow rfl) rfl zL rfl (by first | exact take0 (by first | rfl | assumption | (refine (ints_len _).trans ?_; assumption) | (simp [*]; (first | done | fail))) | assumption | exact take_app (by first | rfl | assumption | (refine (ints_len _).trans ?_; assumption) | (simp [*]; (first | done | fail))) | (conv => lhs; simp only [List.drop_succ_cons, List.drop_zero, List.take_succ_cons, List.take_zero])) (by first | rfl | assumption | (refine (ints_len _).trans ?_; assumption) | (simp [*]; (first | done | fail))))) (Ent.nil _) ⟨rfl, rfl, rfl⟩
end Go.Proofs.YthefnnkmpcgcmaaDoor

namespace Go.Proofs.YthefnnkmpcgcmaaDoor
open Go X
set_option maxHeartbeats 1000000
end Go.Proofs.YthefnnkmpcgcmaaDoor

namespace Go.Proofs.YthefnnkmpcgcmaaDoor
open Go X
set_option maxHeartbeats 2000000
def RSameListOK (σ : PH) (l : List St) : Prop := ∀ (sl sm : Value) (m : List St), PSl 12 StAt σ sl l → PSl 12 StAt σ sm m →
  CallsA Tryd.prog 32 #[sl, sm] σ [] (RetA fun v σ' Γ' => ∃ b : Bool, v = .bool b ∧ (b = true ↔ l = m) ∧ σ = σ' ∧ Γ' = [])
theorem rsameList_l (σ : PH) (l : List St) (ih : ∀ x ∈ l, RSameListOK σ x.body ∧ RSameListOK σ x.els) : RSameListOK σ l := by
  intro sl sm m hl hm
  obtain ⟨pl, cl, rfl, hle, hmx⟩ := hl.shape
  obtain ⟨pm, cm, rfl, hle2, hmx2⟩ := hm.shape
  have hlen : l.length ≤ maxLen := by omega
  simp only [maxLen] at hlen
  refine enterA2 Tryd.func32 rfl rfl rfl ?_; refine zS (zR (yS ?_)); refine zN (zT (zS (zS (zR (yA ?_))))); refine zO rfl (Rd.lenSlice (tyrow rfl) rfl rfl) ?_; refine yA ?_; refine zO rfl (Rd.lenSlice (tyrow rfl) rfl rfl) ?_; refine zO rfl (Rd.neq rfl rfl) ?_; refine zN (zT ?_)
  refine XA.condp rfl (fun hne => ?_) (fun hne => ?_)
  · refine zS ?_
    refine zR (yS ?_); refine zN (zT (XA.ret (DA.thn_ret ?_)))
    exact bodyA.ret (ResA.one rfl rfl) zE ⟨false, rfl, ⟨fun h => (by cases h), fun h => absurd (by rw [h]) hne⟩, rfl, rfl⟩
  have hlm : l.length = m.length := by omega
  refine XA.skip (zT (zS (zS (zR (yS ?_))))); refine zN (zT (XA.block ?_))
  refine XA.gen [(0, _), (1, _), (4, _), (5, _)] ⟨(by with_reducible (conv => lhs; whnf)), (by with_reducible (conv => lhs; whnf)), (by with_reducible (conv => lhs; whnf)), (by with_reducible (conv => lhs; whnf)), trivial⟩ (fun δ => ?_)
  dsimp only [List.foldl]
  refine XA.loop [(4, 5), (11, 96)] (fun k : Nat => [(5, i64 k)]) (fun k σ' Γ' => σ = σ' ∧ k ≤ l.length ∧ l.take k = m.take k ∧ Γ' = []) (fun k => l.length - k) 0 (by exact ⟨rfl, trivial⟩) (Δ0 := _) ?_ (⟨rfl, Nat.zero_le _, rfl, rfl⟩) ?_
  · exact zE
  rintro k δ _ _ ⟨rfl, hk, htk, rfl⟩
  dsimp only [ovr, List.foldl]
  refine zS (zS (zR (yA ?_))); refine yA ?_; refine zO rfl (Rd.lenSlice (tyrow rfl) rfl rfl) ?_; refine zO rfl (Rd.lss rfl rfl) ?_; refine zN (zT ?_); refine XA.condp rfl (fun hlt => ?_) (fun hlt => ?_)
  · have hlt : k < l.length := by omega
    obtain ⟨x, hx⟩ : ∃ x, l[k]? = some x := ⟨_, List.getElem?_eq_getElem hlt⟩
    obtain ⟨y, hy⟩ : ∃ y, m[k]? = some y := ⟨_, List.getElem?_eq_getElem (by omega)⟩
    obtain ⟨ihb, ihe⟩ := ih x (List.mem_of_getElem? hx)
    obtain ⟨g, o, row, rfl, hrx, hrl, hrow⟩ := hl.at hx
    obtain ⟨g', o', row', rfl, hry, hrl', hrow'⟩ := hm.at hy
    have hout : x ≠ y → ¬ l = m := fun h1 h2 => by
      subst h2
      rw [hx] at hy; simp only [Option.some.injEq] at hy
      exact h1 hy
    obtain ⟨op, v, ex, fx, body, els⟩ := x
    obtain ⟨op', v', ex', fx', body', els'⟩ := y
    obtain ⟨pe, de, pf, df, pb, cb, pl', cl', rfl, -, -, hxe, hxf, hxb, hxl⟩ := hrx.inv12
    obtain ⟨pe2, de2, pf2, df2, pb2, cb2, pl2, cl2, rfl, -, -, hye, hyf, hyb, hyl⟩ := hry.inv12
    simp only [St.op, St.v, St.e, St.f, St.body, St.els] at hxe hxf hxb hxl hrow hye hyf hyb hyl hrow' ihb ihe
    clear hrx hry hrl hrl'
    have r0 : PRow σ g (o + k * 12) [i64 op] := hrow.sub (j := 0) rfl
    have r1 : PRow σ g (o + k * 12 + 1) [i64 v] := hrow.sub (j := 1) rfl
    have r2 : PRow σ g (o + k * 12 + 2) [i64 ex.op, i64 ex.v, i64 ex.n, .slice pe ex.l.length de] := hrow.sub (j := 2) rfl
    have r6 : PRow σ g (o + k * 12 + 6) [i64 fx.op, i64 fx.v, i64 fx.n, .slice pf fx.l.length df] := hrow.sub (j := 6) rfl
    have r10 : PRow σ g (o + k * 12 + 10) [.slice pb body.length cb] := hrow.sub (j := 10) rfl
    have r11 : PRow σ g (o + k * 12 + 11) [.slice pl' els.length cl'] := hrow.sub (j := 11) rfl
    have s0 : PRow σ g' (o' + k * 12) [i64 op'] := hrow'.sub (j := 0) rfl
    have s1 : PRow σ g' (o' + k * 12 + 1) [i64 v'] := hrow'.sub (j := 1) rfl
    have s2 : PRow σ g' (o' + k * 12 + 2) [i64 ex'.op, i64 ex'.v, i64 ex'.n, .slice pe2 ex'.l.length de2] := hrow'.sub (j := 2) rfl
    have s6 : PRow σ g' (o' + k * 12 + 6) [i64 fx'.op, i64 fx'.v, i64 fx'.n, .slice pf2 fx'.l.length df2] := hrow'.sub (j := 6) rfl
    have s10 : PRow σ g' (o' + k * 12 + 10) [.slice pb2 body'.length cb2] := hrow'.sub (j := 10) rfl
    have s11 : PRow σ g' (o' + k * 12 + 11) [.slice pl2 els'.length cl2] := hrow'.sub (j := 11) rfl
    clear hrow hrow'
    refine XA.skip (zT (zS (XA.block (zS ?_))))
    by_cases h1 : op = op'
    · by_cases h2 : v = v'
      · 
        refine XA.draw (by kernel_rfl) _ _ [] [(0, .pu), (1, .pu), (2, .pu), (3, .pu), (4, .rd), (5, .pu), (6, .pu), (7, .pu), (8, .pu), (9, .rd), (10, .pu), (11, .pu), (12, .pu), (13, .pu), (14, .pu), (15, .pu), (16, .rd), (17, .pu), (18, .pu), (19, .pu), (20, .pu), (21, .rd), (22, .pu), (23, .pu), (24, .pu), (25, .pu), (26, .pu), (27, .pu), (28, .pu), (29, .rd), (30, .pu), (31, .pu), (32, .pu), (33, .pu), (34, .rd), (35, .wr), (36, .pu), (37, .pu), (38, .pu), (39, .pu), (40, .pu), (41, .pu), (42, .pu), (43, .rd), (44, .pu), (45, .pu), (46, .pu), (47, .pu), (48, .rd), (49, .wr), (50, .pu), (51, .pu), (52, .pu), (53, .pu), (54, .pu), (55, .pu), (56, .pu), (57, .rd), (58, .pu), (59, .pu), (60, .pu), (61, .pu), (62, .rd), (63, .wr), (64, .pu), (65, .pu), (66, .pu), (67, .pu), (68, .pu), (69, .pu), (70, .pu), (71, .rd), (72, .pu), (73, .pu), (74, .pu), (75, .pu), (76, .rd), (77, .wr), (78, .pu), (79, .pu)] (by kernel_rfl) (PH.sub.refl _) (Ent.nil _) ?_
        refine zu rfl rfl Rd.mv ?_; refine zu rfl rfl Rd.mv ?_; refine zu rfl rfl (Rd.ixS rfl rfl) ?_; refine zu rfl rfl (Rd.fA rfl) ?_; refine XPA.rd rfl rfl Gd.free (Rd.ldC rfl (tyrow rfl) rfl) ?_; refine zu rfl rfl Rd.mv ?_; refine zu rfl rfl Rd.mv ?_; refine zu rfl rfl (Rd.ixS rfl rfl) ?_
        refine zu rfl rfl (Rd.fA rfl) ?_; refine XPA.rd rfl rfl Gd.free (Rd.ldC rfl (tyrow rfl) rfl) ?_; refine zu rfl rfl (Rd.neq rfl rfl) ?_; refine zu rfl rfl Rd.mv ?_
        first | refine XPA.puG rfl rfl Rd.mv ?_ | refine XPA.puOffG rfl rfl ?_
        first | refine XPA.puG rfl rfl Rd.mv ?_ | refine XPA.puOffG rfl rfl ?_
        first | refine XPA.puG rfl rfl (Rd.ixS rfl rfl) ?_ | refine XPA.puOffG rfl rfl ?_
        first | refine XPA.puG rfl rfl (Rd.fA rfl) ?_ | refine XPA.puOffG rfl rfl ?_
        first | refine XPA.rdG rfl rfl (Rd.ldC rfl (tyrow rfl) rfl) ?_ | refine XPA.offG rfl rfl ?_
        first | refine XPA.puG rfl rfl Rd.mv ?_ | refine XPA.puOffG rfl rfl ?_
        first | refine XPA.puG rfl rfl Rd.mv ?_ | refine XPA.puOffG rfl rfl ?_
        first | refine XPA.puG rfl rfl (Rd.ixS rfl rfl) ?_ | refine XPA.puOffG rfl rfl ?_
        first | refine XPA.puG rfl rfl (Rd.fA rfl) ?_ | refine XPA.puOffG rfl rfl ?_
        first | refine XPA.rdG rfl rfl (Rd.ldC rfl (tyrow rfl) rfl) ?_ | refine XPA.offG rfl rfl ?_
        first | refine XPA.puG rfl rfl (Rd.neq rfl rfl) ?_ | refine XPA.puOffG rfl rfl ?_
        refine zu rfl rfl zP ?_; refine zu rfl rfl Rd.mv ?_
        first | refine XPA.puG rfl rfl Rd.mv ?_ | refine XPA.puOffG rfl rfl ?_
        first | refine XPA.puG rfl rfl Rd.mv ?_ | refine XPA.puOffG rfl rfl ?_
        first | refine XPA.puG rfl rfl (Rd.ixS rfl rfl) ?_ | refine XPA.puOffG rfl rfl ?_
        first | refine XPA.puG rfl rfl (Rd.fA rfl) ?_ | refine XPA.puOffG rfl rfl ?_
        first | refine XPA.rdG rfl rfl (Rd.ldA rfl) ?_ | refine XPA.offG rfl rfl ?_
        first | refine XPA.puG rfl rfl Rd.mv ?_ | refine XPA.puOffG rfl rfl ?_
        first | refine XPA.puG rfl rfl Rd.mv ?_ | refine XPA.puOffG rfl rfl ?_
        first | refine XPA.puG rfl rfl (Rd.ixS rfl rfl) ?_ | refine XPA.puOffG rfl rfl ?_
        first | refine XPA.puG rfl rfl (Rd.fA rfl) ?_ | refine XPA.puOffG rfl rfl ?_
        first | refine XPA.rdG rfl rfl (Rd.ldA rfl) ?_ | refine XPA.offG rfl rfl ?_
        refine XPA.wr0 rfl rfl (by first | exact Gd.free | exact Gd.isB rfl rfl rfl | (apply Gd.isQ; rfl; rfl; exact (by first | exact (rfl : decide _ = true) | exact (rfl : decide _ = false) | (refine decide_eq_true ?_; assumption) | (refine decide_eq_false ?_; assumption) | (refine decide_eq_true ?_; omega) | (refine decide_eq_false ?_; omega)); rfl)) (WrA.cE (rsameExpr_a σ ex _ _ ex' hxe hye) rfl) ?_
        rintro _ _ _ ⟨_, ⟨b1, rfl, hb1, rfl, rfl⟩, rfl⟩
        refine stays (XPA.cl ?_)
        cases b1 with
        | false =>
          have hn := hout (fun h => absurd (hb1.2 (by injection h)) (by decide))
          first | refine XPA.puG rfl rfl zJ ?_ | refine XPA.puOffG rfl rfl ?_
          refine zu rfl rfl zP ?_; refine zu rfl rfl Rd.mv ?_
          first | refine XPA.puG rfl rfl Rd.mv ?_ | refine XPA.puOffG rfl rfl ?_
          first | refine XPA.puG rfl rfl Rd.mv ?_ | refine XPA.puOffG rfl rfl ?_
          first | refine XPA.puG rfl rfl (Rd.ixS rfl rfl) ?_ | refine XPA.puOffG rfl rfl ?_
          first | refine XPA.puG rfl rfl (Rd.fA rfl) ?_ | refine XPA.puOffG rfl rfl ?_
          first | refine XPA.rdG rfl rfl (Rd.ldA rfl) ?_ | refine XPA.offG rfl rfl ?_
          first | refine XPA.puG rfl rfl Rd.mv ?_ | refine XPA.puOffG rfl rfl ?_
          first | refine XPA.puG rfl rfl Rd.mv ?_ | refine XPA.puOffG rfl rfl ?_
          first | refine XPA.puG rfl rfl (Rd.ixS rfl rfl) ?_ | refine XPA.puOffG rfl rfl ?_
          first | refine XPA.puG rfl rfl (Rd.fA rfl) ?_ | refine XPA.puOffG rfl rfl ?_
          first | refine XPA.rdG rfl rfl (Rd.ldA rfl) ?_ | refine XPA.offG rfl rfl ?_
          first | refine XPA.off rfl rfl (by first | exact Gd.isB rfl rfl rfl | exact Gd.un rfl rfl | (apply Gd.isQ; rfl; rfl; exact (by first | exact (rfl : decide _ = true) | exact (rfl : decide _ = false) | (refine decide_eq_true ?_; assumption) | (refine decide_eq_false ?_; assumption) | (refine decide_eq_true ?_; omega) | (refine decide_eq_false ?_; omega)); rfl)) ?_ | refine XPA.puOff rfl rfl (by first | exact Gd.isB rfl rfl rfl | exact Gd.un rfl rfl | (apply Gd.isQ; rfl; rfl; exact (by first | exact (rfl : decide _ = true) | exact (rfl : decide _ = false) | (refine decide_eq_true ?_; assumption) | (refine decide_eq_false ?_; assumption) | (refine decide_eq_true ?_; omega) | (refine decide_eq_false ?_; omega)); rfl)) ?_ | refine XPA.offW rfl rfl (by first | exact Gd.isB rfl rfl rfl | exact Gd.un rfl rfl | (apply Gd.isQ; rfl; rfl; exact (by first | exact (rfl : decide _ = true) | exact (rfl : decide _ = false) | (refine decide_eq_true ?_; assumption) | (refine decide_eq_false ?_; assumption) | (refine decide_eq_true ?_; omega) | (refine decide_eq_false ?_; omega)); rfl)) ?_
          first | refine XPA.puG rfl rfl zJ ?_ | refine XPA.puOffG rfl rfl ?_
          refine zu rfl rfl zP ?_; refine zu rfl rfl Rd.mv ?_
          first | refine XPA.puG rfl rfl Rd.mv ?_ | refine XPA.puOffG rfl rfl ?_
          first | refine XPA.puG rfl rfl Rd.mv ?_ | refine XPA.puOffG rfl rfl ?_
          first | refine XPA.puG rfl rfl (Rd.ixS rfl rfl) ?_ | refine XPA.puOffG rfl rfl ?_
          first | refine XPA.puG rfl rfl (Rd.fA rfl) ?_ | refine XPA.puOffG rfl rfl ?_
          first | refine XPA.rdG rfl rfl (Rd.ldC rfl (tyrow rfl) rfl) ?_ | refine XPA.offG rfl rfl ?_
          first | refine XPA.puG rfl rfl Rd.mv ?_ | refine XPA.puOffG rfl rfl ?_
          first | refine XPA.puG rfl rfl Rd.mv ?_ | refine XPA.puOffG rfl rfl ?_
          first | refine XPA.puG rfl rfl (Rd.ixS rfl rfl) ?_ | refine XPA.puOffG rfl rfl ?_
          first | refine XPA.puG rfl rfl (Rd.fA rfl) ?_ | refine XPA.puOffG rfl rfl ?_
          first | refine XPA.rdG rfl rfl (Rd.ldC rfl (tyrow rfl) rfl) ?_ | refine XPA.offG rfl rfl ?_
          first | refine XPA.off rfl rfl (by first | exact Gd.isB rfl rfl rfl | exact Gd.un rfl rfl | (apply Gd.isQ; rfl; rfl; exact (by first | exact (rfl : decide _ = true) | exact (rfl : decide _ = false) | (refine decide_eq_true ?_; assumption) | (refine decide_eq_false ?_; assumption) | (refine decide_eq_true ?_; omega) | (refine decide_eq_false ?_; omega)); rfl)) ?_ | refine XPA.puOff rfl rfl (by first | exact Gd.isB rfl rfl rfl | exact Gd.un rfl rfl | (apply Gd.isQ; rfl; rfl; exact (by first | exact (rfl : decide _ = true) | exact (rfl : decide _ = false) | (refine decide_eq_true ?_; assumption) | (refine decide_eq_false ?_; assumption) | (refine decide_eq_true ?_; omega) | (refine decide_eq_false ?_; omega)); rfl)) ?_ | refine XPA.offW rfl rfl (by first | exact Gd.isB rfl rfl rfl | exact Gd.un rfl rfl | (apply Gd.isQ; rfl; rfl; exact (by first | exact (rfl : decide _ = true) | exact (rfl : decide _ = false) | (refine decide_eq_true ?_; assumption) | (refine decide_eq_false ?_; assumption) | (refine decide_eq_true ?_; omega) | (refine decide_eq_false ?_; omega)); rfl)) ?_
          first | refine XPA.puG rfl rfl zJ ?_ | refine XPA.puOffG rfl rfl ?_
          refine zu rfl rfl zP ?_; refine zu rfl rfl Rd.mv ?_
          first | refine XPA.puG rfl rfl Rd.mv ?_ | refine XPA.puOffG rfl rfl ?_
          first | refine XPA.puG rfl rfl Rd.mv ?_ | refine XPA.puOffG rfl rfl ?_
          first | refine XPA.puG rfl rfl (Rd.ixS rfl rfl) ?_ | refine XPA.puOffG rfl rfl ?_
          first | refine XPA.puG rfl rfl (Rd.fA rfl) ?_ | refine XPA.puOffG rfl rfl ?_
          first | refine XPA.rdG rfl rfl (Rd.ldC rfl (tyrow rfl) rfl) ?_ | refine XPA.offG rfl rfl ?_
          first | refine XPA.puG rfl rfl Rd.mv ?_ | refine XPA.puOffG rfl rfl ?_
          first | refine XPA.puG rfl rfl Rd.mv ?_ | refine XPA.puOffG rfl rfl ?_
          first | refine XPA.puG rfl rfl (Rd.ixS rfl rfl) ?_ | refine XPA.puOffG rfl rfl ?_
          first | refine XPA.puG rfl rfl (Rd.fA rfl) ?_ | refine XPA.puOffG rfl rfl ?_
          first | refine XPA.rdG rfl rfl (Rd.ldC rfl (tyrow rfl) rfl) ?_ | refine XPA.offG rfl rfl ?_
          first | refine XPA.off rfl rfl (by first | exact Gd.isB rfl rfl rfl | exact Gd.un rfl rfl | (apply Gd.isQ; rfl; rfl; exact (by first | exact (rfl : decide _ = true) | exact (rfl : decide _ = false) | (refine decide_eq_true ?_; assumption) | (refine decide_eq_false ?_; assumption) | (refine decide_eq_true ?_; omega) | (refine decide_eq_false ?_; omega)); rfl)) ?_ | refine XPA.puOff rfl rfl (by first | exact Gd.isB rfl rfl rfl | exact Gd.un rfl rfl | (apply Gd.isQ; rfl; rfl; exact (by first | exact (rfl : decide _ = true) | exact (rfl : decide _ = false) | (refine decide_eq_true ?_; assumption) | (refine decide_eq_false ?_; assumption) | (refine decide_eq_true ?_; omega) | (refine decide_eq_false ?_; omega)); rfl)) ?_ | refine XPA.offW rfl rfl (by first | exact Gd.isB rfl rfl rfl | exact Gd.un rfl rfl | (apply Gd.isQ; rfl; rfl; exact (by first | exact (rfl : decide _ = true) | exact (rfl : decide _ = false) | (refine decide_eq_true ?_; assumption) | (refine decide_eq_false ?_; assumption) | (refine decide_eq_true ?_; omega) | (refine decide_eq_false ?_; omega)); rfl)) ?_
          first | refine XPA.puG rfl rfl zJ ?_ | refine XPA.puOffG rfl rfl ?_
          refine zu rfl rfl zP ?_; refine XPA.nil ?_; refine zT (yT rfl rfl (zS (zR (yS ?_)))); refine zN (zT (XA.ret (DA.inb_ret (DA.thn_ret (DA.thn_ret (DA.inb_ret (DA.thn_ret ?_)))))))
          exact bodyA.ret (ResA.one rfl rfl) (Ent.nil _) ⟨false, rfl, ⟨fun h => (by cases h), fun h => absurd h hn⟩, rfl, rfl⟩
        | true =>
          first | refine XPA.puG rfl rfl zJ ?_ | refine XPA.puOffG rfl rfl ?_
          refine zu rfl rfl zP ?_; refine zu rfl rfl Rd.mv ?_
          first | refine XPA.puG rfl rfl Rd.mv ?_ | refine XPA.puOffG rfl rfl ?_
          first | refine XPA.puG rfl rfl Rd.mv ?_ | refine XPA.puOffG rfl rfl ?_
          first | refine XPA.puG rfl rfl (Rd.ixS rfl rfl) ?_ | refine XPA.puOffG rfl rfl ?_
          first | refine XPA.puG rfl rfl (Rd.fA rfl) ?_ | refine XPA.puOffG rfl rfl ?_
          first | refine XPA.rdG rfl rfl (Rd.ldA rfl) ?_ | refine XPA.offG rfl rfl ?_
          first | refine XPA.puG rfl rfl Rd.mv ?_ | refine XPA.puOffG rfl rfl ?_
          first | refine XPA.puG rfl rfl Rd.mv ?_ | refine XPA.puOffG rfl rfl ?_
          first | refine XPA.puG rfl rfl (Rd.ixS rfl rfl) ?_ | refine XPA.puOffG rfl rfl ?_
          first | refine XPA.puG rfl rfl (Rd.fA rfl) ?_ | refine XPA.puOffG rfl rfl ?_
          first | refine XPA.rdG rfl rfl (Rd.ldA rfl) ?_ | refine XPA.offG rfl rfl ?_
          refine XPA.wr0 rfl rfl (by first | exact Gd.free | exact Gd.isB rfl rfl rfl | (apply Gd.isQ; rfl; rfl; exact (by first | exact (rfl : decide _ = true) | exact (rfl : decide _ = false) | (refine decide_eq_true ?_; assumption) | (refine decide_eq_false ?_; assumption) | (refine decide_eq_true ?_; omega) | (refine decide_eq_false ?_; omega)); rfl)) (WrA.cE (rsameExpr_a σ fx _ _ fx' hxf hyf) rfl) ?_
          rintro _ _ _ ⟨_, ⟨b2, rfl, hb2, rfl, rfl⟩, rfl⟩
          refine stays (XPA.cl ?_)
          cases b2 with
          | false =>
            have hn := hout (fun h => absurd (hb2.2 (by injection h)) (by decide))
            first | refine XPA.puG rfl rfl zJ ?_ | refine XPA.puOffG rfl rfl ?_
            refine zu rfl rfl zP ?_; refine zu rfl rfl Rd.mv ?_
            first | refine XPA.puG rfl rfl Rd.mv ?_ | refine XPA.puOffG rfl rfl ?_
            first | refine XPA.puG rfl rfl Rd.mv ?_ | refine XPA.puOffG rfl rfl ?_
            first | refine XPA.puG rfl rfl (Rd.ixS rfl rfl) ?_ | refine XPA.puOffG rfl rfl ?_
            first | refine XPA.puG rfl rfl (Rd.fA rfl) ?_ | refine XPA.puOffG rfl rfl ?_
            first | refine XPA.rdG rfl rfl (Rd.ldC rfl (tyrow rfl) rfl) ?_ | refine XPA.offG rfl rfl ?_
            first | refine XPA.puG rfl rfl Rd.mv ?_ | refine XPA.puOffG rfl rfl ?_
            first | refine XPA.puG rfl rfl Rd.mv ?_ | refine XPA.puOffG rfl rfl ?_
            first | refine XPA.puG rfl rfl (Rd.ixS rfl rfl) ?_ | refine XPA.puOffG rfl rfl ?_
            first | refine XPA.puG rfl rfl (Rd.fA rfl) ?_ | refine XPA.puOffG rfl rfl ?_
            first | refine XPA.rdG rfl rfl (Rd.ldC rfl (tyrow rfl) rfl) ?_ | refine XPA.offG rfl rfl ?_
            first | refine XPA.off rfl rfl (by first | exact Gd.isB rfl rfl rfl | exact Gd.un rfl rfl | (apply Gd.isQ; rfl; rfl; exact (by first | exact (rfl : decide _ = true) | exact (rfl : decide _ = false) | (refine decide_eq_true ?_; assumption) | (refine decide_eq_false ?_; assumption) | (refine decide_eq_true ?_; omega) | (refine decide_eq_false ?_; omega)); rfl)) ?_ | refine XPA.puOff rfl rfl (by first | exact Gd.isB rfl rfl rfl | exact Gd.un rfl rfl | (apply Gd.isQ; rfl; rfl; exact (by first | exact (rfl : decide _ = true) | exact (rfl : decide _ = false) | (refine decide_eq_true ?_; assumption) | (refine decide_eq_false ?_; assumption) | (refine decide_eq_true ?_; omega) | (refine decide_eq_false ?_; omega)); rfl)) ?_ | refine XPA.offW rfl rfl (by first | exact Gd.isB rfl rfl rfl | exact Gd.un rfl rfl | (apply Gd.isQ; rfl; rfl; exact (by first | exact (rfl : decide _ = true) | exact (rfl : decide _ = false) | (refine decide_eq_true ?_; assumption) | (refine decide_eq_false ?_; assumption) | (refine decide_eq_true ?_; omega) | (refine decide_eq_false ?_; omega)); rfl)) ?_
            first | refine XPA.puG rfl rfl zJ ?_ | refine XPA.puOffG rfl rfl ?_
            refine zu rfl rfl zP ?_; refine zu rfl rfl Rd.mv ?_
            first | refine XPA.puG rfl rfl Rd.mv ?_ | refine XPA.puOffG rfl rfl ?_
            first | refine XPA.puG rfl rfl Rd.mv ?_ | refine XPA.puOffG rfl rfl ?_
            first | refine XPA.puG rfl rfl (Rd.ixS rfl rfl) ?_ | refine XPA.puOffG rfl rfl ?_
            first | refine XPA.puG rfl rfl (Rd.fA rfl) ?_ | refine XPA.puOffG rfl rfl ?_
            first | refine XPA.rdG rfl rfl (Rd.ldC rfl (tyrow rfl) rfl) ?_ | refine XPA.offG rfl rfl ?_
            first | refine XPA.puG rfl rfl Rd.mv ?_ | refine XPA.puOffG rfl rfl ?_
            first | refine XPA.puG rfl rfl Rd.mv ?_ | refine XPA.puOffG rfl rfl ?_
            first | refine XPA.puG rfl rfl (Rd.ixS rfl rfl) ?_ | refine XPA.puOffG rfl rfl ?_
            first | refine XPA.puG rfl rfl (Rd.fA rfl) ?_ | refine XPA.puOffG rfl rfl ?_
            first | refine XPA.rdG rfl rfl (Rd.ldC rfl (tyrow rfl) rfl) ?_ | refine XPA.offG rfl rfl ?_
            first | refine XPA.off rfl rfl (by first | exact Gd.isB rfl rfl rfl | exact Gd.un rfl rfl | (apply Gd.isQ; rfl; rfl; exact (by first | exact (rfl : decide _ = true) | exact (rfl : decide _ = false) | (refine decide_eq_true ?_; assumption) | (refine decide_eq_false ?_; assumption) | (refine decide_eq_true ?_; omega) | (refine decide_eq_false ?_; omega)); rfl)) ?_ | refine XPA.puOff rfl rfl (by first | exact Gd.isB rfl rfl rfl | exact Gd.un rfl rfl | (apply Gd.isQ; rfl; rfl; exact (by first | exact (rfl : decide _ = true) | exact (rfl : decide _ = false) | (refine decide_eq_true ?_; assumption) | (refine decide_eq_false ?_; assumption) | (refine decide_eq_true ?_; omega) | (refine decide_eq_false ?_; omega)); rfl)) ?_ | refine XPA.offW rfl rfl (by first | exact Gd.isB rfl rfl rfl | exact Gd.un rfl rfl | (apply Gd.isQ; rfl; rfl; exact (by first | exact (rfl : decide _ = true) | exact (rfl : decide _ = false) | (refine decide_eq_true ?_; assumption) | (refine decide_eq_false ?_; assumption) | (refine decide_eq_true ?_; omega) | (refine decide_eq_false ?_; omega)); rfl)) ?_
            first | refine XPA.puG rfl rfl zJ ?_ | refine XPA.puOffG rfl rfl ?_
            refine zu rfl rfl zP ?_; refine XPA.nil ?_; refine zT (yT rfl rfl (zS (zR (yS ?_)))); refine zN (zT (XA.ret (DA.inb_ret (DA.thn_ret (DA.thn_ret (DA.inb_ret (DA.thn_ret ?_)))))))
            exact bodyA.ret (ResA.one rfl rfl) (Ent.nil _) ⟨false, rfl, ⟨fun h => (by cases h), fun h => absurd h hn⟩, rfl, rfl⟩
          | true =>
            first | refine XPA.puG rfl rfl zJ ?_ | refine XPA.puOffG rfl rfl ?_
            refine zu rfl rfl zP ?_; refine zu rfl rfl Rd.mv ?_
            first | refine XPA.puG rfl rfl Rd.mv ?_ | refine XPA.puOffG rfl rfl ?_
            first | refine XPA.puG rfl rfl Rd.mv ?_ | refine XPA.puOffG rfl rfl ?_
            first | refine XPA.puG rfl rfl (Rd.ixS rfl rfl) ?_ | refine XPA.puOffG rfl rfl ?_
            first | refine XPA.puG rfl rfl (Rd.fA rfl) ?_ | refine XPA.puOffG rfl rfl ?_
            first | refine XPA.rdG rfl rfl (Rd.ldC rfl (tyrow rfl) rfl) ?_ | refine XPA.offG rfl rfl ?_
            first | refine XPA.puG rfl rfl Rd.mv ?_ | refine XPA.puOffG rfl rfl ?_
            first | refine XPA.puG rfl rfl Rd.mv ?_ | refine XPA.puOffG rfl rfl ?_
            first | refine XPA.puG rfl rfl (Rd.ixS rfl rfl) ?_ | refine XPA.puOffG rfl rfl ?_
            first | refine XPA.puG rfl rfl (Rd.fA rfl) ?_ | refine XPA.puOffG rfl rfl ?_
            first | refine XPA.rdG rfl rfl (Rd.ldC rfl (tyrow rfl) rfl) ?_ | refine XPA.offG rfl rfl ?_
            refine XPA.wr0 rfl rfl (by first | exact Gd.free | exact Gd.isB rfl rfl rfl | (apply Gd.isQ; rfl; rfl; exact (by first | exact (rfl : decide _ = true) | exact (rfl : decide _ = false) | (refine decide_eq_true ?_; assumption) | (refine decide_eq_false ?_; assumption) | (refine decide_eq_true ?_; omega) | (refine decide_eq_false ?_; omega)); rfl)) (WrA.cE (ihb _ _ body' hxb hyb) rfl) ?_
            rintro _ _ _ ⟨_, ⟨b3, rfl, hb3, rfl, rfl⟩, rfl⟩
            refine stays (XPA.cl ?_)
            cases b3 with
            | false =>
              have hn := hout (fun h => absurd (hb3.2 (by injection h)) (by decide))
              first | refine XPA.puG rfl rfl zJ ?_ | refine XPA.puOffG rfl rfl ?_
              refine zu rfl rfl zP ?_; refine zu rfl rfl Rd.mv ?_
              first | refine XPA.puG rfl rfl Rd.mv ?_ | refine XPA.puOffG rfl rfl ?_
              first | refine XPA.puG rfl rfl Rd.mv ?_ | refine XPA.puOffG rfl rfl ?_
              first | refine XPA.puG rfl rfl (Rd.ixS rfl rfl) ?_ | refine XPA.puOffG rfl rfl ?_
              first | refine XPA.puG rfl rfl (Rd.fA rfl) ?_ | refine XPA.puOffG rfl rfl ?_
              first | refine XPA.rdG rfl rfl (Rd.ldC rfl (tyrow rfl) rfl) ?_ | refine XPA.offG rfl rfl ?_
              first | refine XPA.puG rfl rfl Rd.mv ?_ | refine XPA.puOffG rfl rfl ?_
              first | refine XPA.puG rfl rfl Rd.mv ?_ | refine XPA.puOffG rfl rfl ?_
              first | refine XPA.puG rfl rfl (Rd.ixS rfl rfl) ?_ | refine XPA.puOffG rfl rfl ?_
              first | refine XPA.puG rfl rfl (Rd.fA rfl) ?_ | refine XPA.puOffG rfl rfl ?_
              first | refine XPA.rdG rfl rfl (Rd.ldC rfl (tyrow rfl) rfl) ?_ | refine XPA.offG rfl rfl ?_
              first | refine XPA.off rfl rfl (by first | exact Gd.isB rfl rfl rfl | exact Gd.un rfl rfl | (apply Gd.isQ; rfl; rfl; exact (by first | exact (rfl : decide _ = true) | exact (rfl : decide _ = false) | (refine decide_eq_true ?_; assumption) | (refine decide_eq_false ?_; assumption) | (refine decide_eq_true ?_; omega) | (refine decide_eq_false ?_; omega)); rfl)) ?_ | refine XPA.puOff rfl rfl (by first | exact Gd.isB rfl rfl rfl | exact Gd.un rfl rfl | (apply Gd.isQ; rfl; rfl; exact (by first | exact (rfl : decide _ = true) | exact (rfl : decide _ = false) | (refine decide_eq_true ?_; assumption) | (refine decide_eq_false ?_; assumption) | (refine decide_eq_true ?_; omega) | (refine decide_eq_false ?_; omega)); rfl)) ?_ | refine XPA.offW rfl rfl (by first | exact Gd.isB rfl rfl rfl | exact Gd.un rfl rfl | (apply Gd.isQ; rfl; rfl; exact (by first | exact (rfl : decide _ = true) | exact (rfl : decide _ = false) | (refine decide_eq_true ?_; assumption) | (refine decide_eq_false ?_; assumption) | (refine decide_eq_true ?_; omega) | (refine decide_eq_false ?_; omega)); rfl)) ?_
              first | refine XPA.puG rfl rfl zJ ?_ | refine XPA.puOffG rfl rfl ?_
              refine zu rfl rfl zP ?_; refine XPA.nil ?_; refine zT (yT rfl rfl (zS (zR (yS ?_)))); refine zN (zT (XA.ret (DA.inb_ret (DA.thn_ret (DA.thn_ret (DA.inb_ret (DA.thn_ret ?_)))))))
              exact bodyA.ret (ResA.one rfl rfl) (Ent.nil _) ⟨false, rfl, ⟨fun h => (by cases h), fun h => absurd h hn⟩, rfl, rfl⟩
            | true =>
              first | refine XPA.puG rfl rfl zJ ?_ | refine XPA.puOffG rfl rfl ?_
              refine zu rfl rfl zP ?_; refine zu rfl rfl Rd.mv ?_
              first | refine XPA.puG rfl rfl Rd.mv ?_ | refine XPA.puOffG rfl rfl ?_
              first | refine XPA.puG rfl rfl Rd.mv ?_ | refine XPA.puOffG rfl rfl ?_
              first | refine XPA.puG rfl rfl (Rd.ixS rfl rfl) ?_ | refine XPA.puOffG rfl rfl ?_
              first | refine XPA.puG rfl rfl (Rd.fA rfl) ?_ | refine XPA.puOffG rfl rfl ?_
              first | refine XPA.rdG rfl rfl (Rd.ldC rfl (tyrow rfl) rfl) ?_ | refine XPA.offG rfl rfl ?_
              first | refine XPA.puG rfl rfl Rd.mv ?_ | refine XPA.puOffG rfl rfl ?_
              first | refine XPA.puG rfl rfl Rd.mv ?_ | refine XPA.puOffG rfl rfl ?_
              first | refine XPA.puG rfl rfl (Rd.ixS rfl rfl) ?_ | refine XPA.puOffG rfl rfl ?_
              first | refine XPA.puG rfl rfl (Rd.fA rfl) ?_ | refine XPA.puOffG rfl rfl ?_
              first | refine XPA.rdG rfl rfl (Rd.ldC rfl (tyrow rfl) rfl) ?_ | refine XPA.offG rfl rfl ?_
              refine XPA.wr0 rfl rfl (by first | exact Gd.free | exact Gd.isB rfl rfl rfl | (apply Gd.isQ; rfl; rfl; exact (by first | exact (rfl : decide _ = true) | exact (rfl : decide _ = false) | (refine decide_eq_true ?_; assumption) | (refine decide_eq_false ?_; assumption) | (refine decide_eq_true ?_; omega) | (refine decide_eq_false ?_; omega)); rfl)) (WrA.cE (ihe _ _ els' hxl hyl) rfl) ?_
              rintro _ _ _ ⟨_, ⟨b4, rfl, hb4, rfl, rfl⟩, rfl⟩
              refine stays (XPA.cl ?_)
              cases b4 with
              | false =>
                have hn := hout (fun h => absurd (hb4.2 (by injection h)) (by decide))
                first | refine XPA.puG rfl rfl zJ ?_ | refine XPA.puOffG rfl rfl ?_
                refine zu rfl rfl zP ?_; refine XPA.nil ?_; refine zT (yT rfl rfl (zS (zR (yS ?_)))); refine zN (zT (XA.ret (DA.inb_ret (DA.thn_ret (DA.thn_ret (DA.inb_ret (DA.thn_ret ?_)))))))
                exact bodyA.ret (ResA.one rfl rfl) (Ent.nil _) ⟨false, rfl, ⟨fun h => (by cases h), fun h => absurd h hn⟩, rfl, rfl⟩
              | true =>
                have hxy : St.mk op v ex fx body els = St.mk op' v' ex' fx' body' els' := by rw [h1, h2, hb1.1 rfl, hb2.1 rfl, hb3.1 rfl, hb4.1 rfl]
                first | refine XPA.puG rfl rfl zJ ?_ | refine XPA.puOffG rfl rfl ?_
                refine zu rfl rfl zP ?_; refine XPA.nil ?_; refine zT (yF rfl rfl (XA.skip (DA.inb_normal (zT (zR (yA ?_)))))); refine zO rfl zI ?_; refine yS ?_; refine zN (zT ?_)
                refine ⟨(Keep.upd (Keep.upd (Keep.upd (Keep.upd (Keep.upd (Keep.updO (Keep.upd (Keep.upd (Keep.upd (Keep.upd (Keep.upd (Keep.upd (Keep.upd (Keep.upd (Keep.upd (Keep.upd (Keep.upd (Keep.upd (Keep.upd (Keep.updO (Keep.upd (Keep.upd (Keep.upd (Keep.upd (Keep.upd (Keep.upd (Keep.upd (Keep.upd (Keep.upd (Keep.upd (Keep.upd (Keep.upd (Keep.upd (Keep.updO (Keep.upd (Keep.upd (Keep.upd (Keep.upd (Keep.upd (Keep.upd (Keep.upd (Keep.upd (Keep.upd (Keep.upd (Keep.upd (Keep.upd (Keep.upd (Keep.updO (Keep.upd (Keep.upd (Keep.upd (Keep.upd (Keep.upd (Keep.upd (Keep.upd (Keep.upd (Keep.upd (Keep.upd (Keep.upd (Keep.upd (Keep.upd (Keep.upd (Keep.upd (Keep.upd (Keep.upd (Keep.upd (Keep.upd (Keep.upd (Keep.upd (Keep.upd (Keep.upd (Keep.upd (Keep.upd (Keep.upd (Keep.upd (Keep.upd (Keep.upd (Keep.upd (Keep.upd (Keep.upd (Keep.upd (Keep.upd (Keep.upd (Keep.upd (Keep.upd (Keep.upd (Keep.upd (Keep.upd (Keep.hav (Keep.hav (Keep.refl _ _) rfl) rfl) rfl) rfl) rfl) rfl) rfl) rfl) rfl) rfl) rfl) rfl) rfl) rfl) rfl) rfl) rfl) rfl) rfl) rfl) rfl) rfl) rfl) rfl) rfl) rfl) rfl) rfl) rfl) rfl) rfl) rfl) rfl) rfl) rfl) rfl) rfl) rfl) rfl) rfl) rfl) rfl) rfl) rfl) rfl) rfl) rfl) rfl) rfl) rfl) rfl) rfl) rfl) rfl) rfl) rfl) rfl) rfl) rfl) rfl) rfl) rfl) rfl) rfl) rfl) rfl) rfl) rfl) rfl) rfl) rfl) rfl) rfl) rfl) rfl) rfl) rfl) rfl) rfl) rfl) rfl) rfl) rfl) rfl) rfl) rfl) rfl) rfl) rfl) rfl), k + 1, [], zM, ?_, ⟨rfl, hlt, take_eq_succ hx hy htk hxy, rfl⟩, (by omega)⟩
                · exact zE
      · have hn := hout (fun h => h2 (by injection h))
        refine XA.draw (by kernel_rfl) _ _ [] [(0, .pu), (1, .pu), (2, .pu), (3, .pu), (4, .rd), (5, .pu), (6, .pu), (7, .pu), (8, .pu), (9, .rd), (10, .pu), (11, .pu), (12, .pu), (13, .pu), (14, .pu), (15, .pu), (16, .rd), (17, .pu), (18, .pu), (19, .pu), (20, .pu), (21, .rd), (22, .pu), (23, .pu), (24, .pu), (25, .pu), (26, .pu), (27, .pu), (28, .pu), (29, .rd), (30, .pu), (31, .pu), (32, .pu), (33, .pu), (34, .rd), (35, .wr), (36, .pu), (37, .pu), (38, .pu), (39, .pu), (40, .pu), (41, .pu), (42, .pu), (43, .rd), (44, .pu), (45, .pu), (46, .pu), (47, .pu), (48, .rd), (49, .wr), (50, .pu), (51, .pu), (52, .pu), (53, .pu), (54, .pu), (55, .pu), (56, .pu), (57, .rd), (58, .pu), (59, .pu), (60, .pu), (61, .pu), (62, .rd), (63, .wr), (64, .pu), (65, .pu), (66, .pu), (67, .pu), (68, .pu), (69, .pu), (70, .pu), (71, .rd), (72, .pu), (73, .pu), (74, .pu), (75, .pu), (76, .rd), (77, .wr), (78, .pu), (79, .pu)] (by kernel_rfl) (PH.sub.refl _) (Ent.nil _) ?_
        refine zu rfl rfl Rd.mv ?_; refine zu rfl rfl Rd.mv ?_; refine zu rfl rfl (Rd.ixS rfl rfl) ?_; refine zu rfl rfl (Rd.fA rfl) ?_; refine XPA.rd rfl rfl Gd.free (Rd.ldC rfl (tyrow rfl) rfl) ?_; refine zu rfl rfl Rd.mv ?_; refine zu rfl rfl Rd.mv ?_; refine zu rfl rfl (Rd.ixS rfl rfl) ?_
        refine zu rfl rfl (Rd.fA rfl) ?_; refine XPA.rd rfl rfl Gd.free (Rd.ldC rfl (tyrow rfl) rfl) ?_; refine zu rfl rfl (Rd.neq rfl rfl) ?_; refine zu rfl rfl Rd.mv ?_
        first | refine XPA.puG rfl rfl Rd.mv ?_ | refine XPA.puOffG rfl rfl ?_
        first | refine XPA.puG rfl rfl Rd.mv ?_ | refine XPA.puOffG rfl rfl ?_
        first | refine XPA.puG rfl rfl (Rd.ixS rfl rfl) ?_ | refine XPA.puOffG rfl rfl ?_
        first | refine XPA.puG rfl rfl (Rd.fA rfl) ?_ | refine XPA.puOffG rfl rfl ?_
        first | refine XPA.rdG rfl rfl (Rd.ldC rfl (tyrow rfl) rfl) ?_ | refine XPA.offG rfl rfl ?_
        first | refine XPA.puG rfl rfl Rd.mv ?_ | refine XPA.puOffG rfl rfl ?_
        first | refine XPA.puG rfl rfl Rd.mv ?_ | refine XPA.puOffG rfl rfl ?_
        first | refine XPA.puG rfl rfl (Rd.ixS rfl rfl) ?_ | refine XPA.puOffG rfl rfl ?_
        first | refine XPA.puG rfl rfl (Rd.fA rfl) ?_ | refine XPA.puOffG rfl rfl ?_
        first | refine XPA.rdG rfl rfl (Rd.ldC rfl (tyrow rfl) rfl) ?_ | refine XPA.offG rfl rfl ?_
        first | refine XPA.puG rfl rfl (Rd.neq rfl rfl) ?_ | refine XPA.puOffG rfl rfl ?_
        refine zu rfl rfl zP ?_; refine zu rfl rfl Rd.mv ?_
        first | refine XPA.puG rfl rfl Rd.mv ?_ | refine XPA.puOffG rfl rfl ?_
        first | refine XPA.puG rfl rfl Rd.mv ?_ | refine XPA.puOffG rfl rfl ?_
        first | refine XPA.puG rfl rfl (Rd.ixS rfl rfl) ?_ | refine XPA.puOffG rfl rfl ?_
        first | refine XPA.puG rfl rfl (Rd.fA rfl) ?_ | refine XPA.puOffG rfl rfl ?_
        first | refine XPA.rdG rfl rfl (Rd.ldA rfl) ?_ | refine XPA.offG rfl rfl ?_
        first | refine XPA.puG rfl rfl Rd.mv ?_ | refine XPA.puOffG rfl rfl ?_
        first | refine XPA.puG rfl rfl Rd.mv ?_ | refine XPA.puOffG rfl rfl ?_
        first | refine XPA.puG rfl rfl (Rd.ixS rfl rfl) ?_ | refine XPA.puOffG rfl rfl ?_
        first | refine XPA.puG rfl rfl (Rd.fA rfl) ?_ | refine XPA.puOffG rfl rfl ?_
        first | refine XPA.rdG rfl rfl (Rd.ldA rfl) ?_ | refine XPA.offG rfl rfl ?_
        first | refine XPA.off rfl rfl (by first | exact Gd.isB rfl rfl rfl | exact Gd.un rfl rfl | (apply Gd.isQ; rfl; rfl; exact (by first | exact (rfl : decide _ = true) | exact (rfl : decide _ = false) | (refine decide_eq_true ?_; assumption) | (refine decide_eq_false ?_; assumption) | (refine decide_eq_true ?_; omega) | (refine decide_eq_false ?_; omega)); rfl)) ?_ | refine XPA.puOff rfl rfl (by first | exact Gd.isB rfl rfl rfl | exact Gd.un rfl rfl | (apply Gd.isQ; rfl; rfl; exact (by first | exact (rfl : decide _ = true) | exact (rfl : decide _ = false) | (refine decide_eq_true ?_; assumption) | (refine decide_eq_false ?_; assumption) | (refine decide_eq_true ?_; omega) | (refine decide_eq_false ?_; omega)); rfl)) ?_ | refine XPA.offW rfl rfl (by first | exact Gd.isB rfl rfl rfl | exact Gd.un rfl rfl | (apply Gd.isQ; rfl; rfl; exact (by first | exact (rfl : decide _ = true) | exact (rfl : decide _ = false) | (refine decide_eq_true ?_; assumption) | (refine decide_eq_false ?_; assumption) | (refine decide_eq_true ?_; omega) | (refine decide_eq_false ?_; omega)); rfl)) ?_
        first | refine XPA.puG rfl rfl zJ ?_ | refine XPA.puOffG rfl rfl ?_
        refine zu rfl rfl zP ?_; refine zu rfl rfl Rd.mv ?_
        first | refine XPA.puG rfl rfl Rd.mv ?_ | refine XPA.puOffG rfl rfl ?_
        first | refine XPA.puG rfl rfl Rd.mv ?_ | refine XPA.puOffG rfl rfl ?_
        first | refine XPA.puG rfl rfl (Rd.ixS rfl rfl) ?_ | refine XPA.puOffG rfl rfl ?_
        first | refine XPA.puG rfl rfl (Rd.fA rfl) ?_ | refine XPA.puOffG rfl rfl ?_
        first | refine XPA.rdG rfl rfl (Rd.ldA rfl) ?_ | refine XPA.offG rfl rfl ?_
        first | refine XPA.puG rfl rfl Rd.mv ?_ | refine XPA.puOffG rfl rfl ?_
        first | refine XPA.puG rfl rfl Rd.mv ?_ | refine XPA.puOffG rfl rfl ?_
        first | refine XPA.puG rfl rfl (Rd.ixS rfl rfl) ?_ | refine XPA.puOffG rfl rfl ?_
        first | refine XPA.puG rfl rfl (Rd.fA rfl) ?_ | refine XPA.puOffG rfl rfl ?_
        first | refine XPA.rdG rfl rfl (Rd.ldA rfl) ?_ | refine XPA.offG rfl rfl ?_
        first | refine XPA.off rfl rfl (by first | exact Gd.isB rfl rfl rfl | exact Gd.un rfl rfl | (apply Gd.isQ; rfl; rfl; exact (by first | exact (rfl : decide _ = true) | exact (rfl : decide _ = false) | (refine decide_eq_true ?_; assumption) | (refine decide_eq_false ?_; assumption) | (refine decide_eq_true ?_; omega) | (refine decide_eq_false ?_; omega)); rfl)) ?_ | refine XPA.puOff rfl rfl (by first | exact Gd.isB rfl rfl rfl | exact Gd.un rfl rfl | (apply Gd.isQ; rfl; rfl; exact (by first | exact (rfl : decide _ = true) | exact (rfl : decide _ = false) | (refine decide_eq_true ?_; assumption) | (refine decide_eq_false ?_; assumption) | (refine decide_eq_true ?_; omega) | (refine decide_eq_false ?_; omega)); rfl)) ?_ | refine XPA.offW rfl rfl (by first | exact Gd.isB rfl rfl rfl | exact Gd.un rfl rfl | (apply Gd.isQ; rfl; rfl; exact (by first | exact (rfl : decide _ = true) | exact (rfl : decide _ = false) | (refine decide_eq_true ?_; assumption) | (refine decide_eq_false ?_; assumption) | (refine decide_eq_true ?_; omega) | (refine decide_eq_false ?_; omega)); rfl)) ?_
        first | refine XPA.puG rfl rfl zJ ?_ | refine XPA.puOffG rfl rfl ?_
        refine zu rfl rfl zP ?_; refine zu rfl rfl Rd.mv ?_
        first | refine XPA.puG rfl rfl Rd.mv ?_ | refine XPA.puOffG rfl rfl ?_
        first | refine XPA.puG rfl rfl Rd.mv ?_ | refine XPA.puOffG rfl rfl ?_
        first | refine XPA.puG rfl rfl (Rd.ixS rfl rfl) ?_ | refine XPA.puOffG rfl rfl ?_
        first | refine XPA.puG rfl rfl (Rd.fA rfl) ?_ | refine XPA.puOffG rfl rfl ?_
        first | refine XPA.rdG rfl rfl (Rd.ldC rfl (tyrow rfl) rfl) ?_ | refine XPA.offG rfl rfl ?_
        first | refine XPA.puG rfl rfl Rd.mv ?_ | refine XPA.puOffG rfl rfl ?_
        first | refine XPA.puG rfl rfl Rd.mv ?_ | refine XPA.puOffG rfl rfl ?_
        first | refine XPA.puG rfl rfl (Rd.ixS rfl rfl) ?_ | refine XPA.puOffG rfl rfl ?_
        first | refine XPA.puG rfl rfl (Rd.fA rfl) ?_ | refine XPA.puOffG rfl rfl ?_
        first | refine XPA.rdG rfl rfl (Rd.ldC rfl (tyrow rfl) rfl) ?_ | refine XPA.offG rfl rfl ?_
        first | refine XPA.off rfl rfl (by first | exact Gd.isB rfl rfl rfl | exact Gd.un rfl rfl | (apply Gd.isQ; rfl; rfl; exact (by first | exact (rfl : decide _ = true) | exact (rfl : decide _ = false) | (refine decide_eq_true ?_; assumption) | (refine decide_eq_false ?_; assumption) | (refine decide_eq_true ?_; omega) | (refine decide_eq_false ?_; omega)); rfl)) ?_ | refine XPA.puOff rfl rfl (by first | exact Gd.isB rfl rfl rfl | exact Gd.un rfl rfl | (apply Gd.isQ; rfl; rfl; exact (by first | exact (rfl : decide _ = true) | exact (rfl : decide _ = false) | (refine decide_eq_true ?_; assumption) | (refine decide_eq_false ?_; assumption) | (refine decide_eq_true ?_; omega) | (refine decide_eq_false ?_; omega)); rfl)) ?_ | refine XPA.offW rfl rfl (by first | exact Gd.isB rfl rfl rfl | exact Gd.un rfl rfl | (apply Gd.isQ; rfl; rfl; exact (by first | exact (rfl : decide _ = true) | exact (rfl : decide _ = false) | (refine decide_eq_true ?_; assumption) | (refine decide_eq_false ?_; assumption) | (refine decide_eq_true ?_; omega) | (refine decide_eq_false ?_; omega)); rfl)) ?_
        first | refine XPA.puG rfl rfl zJ ?_ | refine XPA.puOffG rfl rfl ?_
        refine zu rfl rfl zP ?_; refine zu rfl rfl Rd.mv ?_
        first | refine XPA.puG rfl rfl Rd.mv ?_ | refine XPA.puOffG rfl rfl ?_
        first | refine XPA.puG rfl rfl Rd.mv ?_ | refine XPA.puOffG rfl rfl ?_
        first | refine XPA.puG rfl rfl (Rd.ixS rfl rfl) ?_ | refine XPA.puOffG rfl rfl ?_
        first | refine XPA.puG rfl rfl (Rd.fA rfl) ?_ | refine XPA.puOffG rfl rfl ?_
        first | refine XPA.rdG rfl rfl (Rd.ldC rfl (tyrow rfl) rfl) ?_ | refine XPA.offG rfl rfl ?_
        first | refine XPA.puG rfl rfl Rd.mv ?_ | refine XPA.puOffG rfl rfl ?_
        first | refine XPA.puG rfl rfl Rd.mv ?_ | refine XPA.puOffG rfl rfl ?_
        first | refine XPA.puG rfl rfl (Rd.ixS rfl rfl) ?_ | refine XPA.puOffG rfl rfl ?_
        first | refine XPA.puG rfl rfl (Rd.fA rfl) ?_ | refine XPA.puOffG rfl rfl ?_
        first | refine XPA.rdG rfl rfl (Rd.ldC rfl (tyrow rfl) rfl) ?_ | refine XPA.offG rfl rfl ?_
        first | refine XPA.off rfl rfl (by first | exact Gd.isB rfl rfl rfl | exact Gd.un rfl rfl | (apply Gd.isQ; rfl; rfl; exact (by first | exact (rfl : decide _ = true) | exact (rfl : decide _ = false) | (refine decide_eq_true ?_; assumption) | (refine decide_eq_false ?_; assumption) | (refine decide_eq_true ?_; omega) | (refine decide_eq_false ?_; omega)); rfl)) ?_ | refine XPA.puOff rfl rfl (by first | exact Gd.isB rfl rfl rfl | exact Gd.un rfl rfl | (apply Gd.isQ; rfl; rfl; exact (by first | exact (rfl : decide _ = true) | exact (rfl : decide _ = false) | (refine decide_eq_true ?_; assumption) | (refine decide_eq_false ?_; assumption) | (refine decide_eq_true ?_; omega) | (refine decide_eq_false ?_; omega)); rfl)) ?_ | refine XPA.offW rfl rfl (by first | exact Gd.isB rfl rfl rfl | exact Gd.un rfl rfl | (apply Gd.isQ; rfl; rfl; exact (by first | exact (rfl : decide _ = true) | exact (rfl : decide _ = false) | (refine decide_eq_true ?_; assumption) | (refine decide_eq_false ?_; assumption) | (refine decide_eq_true ?_; omega) | (refine decide_eq_false ?_; omega)); rfl)) ?_
        first | refine XPA.puG rfl rfl zJ ?_ | refine XPA.puOffG rfl rfl ?_
        refine zu rfl rfl zP ?_; refine XPA.nil ?_; refine zT (XA.condT rfl zY ?_); refine zS (zR (yS ?_)); refine zN (zT (XA.ret (DA.inb_ret (DA.thn_ret (DA.thn_ret (DA.inb_ret (DA.thn_ret ?_)))))))
        exact bodyA.ret (ResA.one rfl rfl) (Ent.nil _) ⟨false, rfl, ⟨fun h => (by cases h), fun h => absurd h hn⟩, rfl, rfl⟩
    · have hn := hout (fun h => h1 (by injection h))
      refine XA.draw (by kernel_rfl) _ _ [] [(0, .pu), (1, .pu), (2, .pu), (3, .pu), (4, .rd), (5, .pu), (6, .pu), (7, .pu), (8, .pu), (9, .rd), (10, .pu), (11, .pu), (12, .pu), (13, .pu), (14, .pu), (15, .pu), (16, .rd), (17, .pu), (18, .pu), (19, .pu), (20, .pu), (21, .rd), (22, .pu), (23, .pu), (24, .pu), (25, .pu), (26, .pu), (27, .pu), (28, .pu), (29, .rd), (30, .pu), (31, .pu), (32, .pu), (33, .pu), (34, .rd), (35, .wr), (36, .pu), (37, .pu), (38, .pu), (39, .pu), (40, .pu), (41, .pu), (42, .pu), (43, .rd), (44, .pu), (45, .pu), (46, .pu), (47, .pu), (48, .rd), (49, .wr), (50, .pu), (51, .pu), (52, .pu), (53, .pu), (54, .pu), (55, .pu), (56, .pu), (57, .rd), (58, .pu), (59, .pu), (60, .pu), (61, .pu), (62, .rd), (63, .wr), (64, .pu), (65, .pu), (66, .pu), (67, .pu), (68, .pu), (69, .pu), (70, .pu), (71, .rd), (72, .pu), (73, .pu), (74, .pu), (75, .pu), (76, .rd), (77, .wr), (78, .pu), (79, .pu)] (by kernel_rfl) (PH.sub.refl _) (Ent.nil _) ?_
      refine zu rfl rfl Rd.mv ?_; refine zu rfl rfl Rd.mv ?_; refine zu rfl rfl (Rd.ixS rfl rfl) ?_; refine zu rfl rfl (Rd.fA rfl) ?_; refine XPA.rd rfl rfl Gd.free (Rd.ldC rfl (tyrow rfl) rfl) ?_; refine zu rfl rfl Rd.mv ?_; refine zu rfl rfl Rd.mv ?_; refine zu rfl rfl (Rd.ixS rfl rfl) ?_
      refine zu rfl rfl (Rd.fA rfl) ?_; refine XPA.rd rfl rfl Gd.free (Rd.ldC rfl (tyrow rfl) rfl) ?_; refine zu rfl rfl (Rd.neq rfl rfl) ?_; refine zu rfl rfl Rd.mv ?_
      first | refine XPA.puG rfl rfl Rd.mv ?_ | refine XPA.puOffG rfl rfl ?_
      first | refine XPA.puG rfl rfl Rd.mv ?_ | refine XPA.puOffG rfl rfl ?_
      first | refine XPA.puG rfl rfl (Rd.ixS rfl rfl) ?_ | refine XPA.puOffG rfl rfl ?_
      first | refine XPA.puG rfl rfl (Rd.fA rfl) ?_ | refine XPA.puOffG rfl rfl ?_
      first | refine XPA.rdG rfl rfl (Rd.ldC rfl (tyrow rfl) rfl) ?_ | refine XPA.offG rfl rfl ?_
      first | refine XPA.puG rfl rfl Rd.mv ?_ | refine XPA.puOffG rfl rfl ?_
      first | refine XPA.puG rfl rfl Rd.mv ?_ | refine XPA.puOffG rfl rfl ?_
      first | refine XPA.puG rfl rfl (Rd.ixS rfl rfl) ?_ | refine XPA.puOffG rfl rfl ?_
      first | refine XPA.puG rfl rfl (Rd.fA rfl) ?_ | refine XPA.puOffG rfl rfl ?_
      first | refine XPA.rdG rfl rfl (Rd.ldC rfl (tyrow rfl) rfl) ?_ | refine XPA.offG rfl rfl ?_
      first | refine XPA.puG rfl rfl (Rd.neq rfl rfl) ?_ | refine XPA.puOffG rfl rfl ?_
      refine zu rfl rfl zP ?_; refine zu rfl rfl Rd.mv ?_
      first | refine XPA.puG rfl rfl Rd.mv ?_ | refine XPA.puOffG rfl rfl ?_
      first | refine XPA.puG rfl rfl Rd.mv ?_ | refine XPA.puOffG rfl rfl ?_
      first | refine XPA.puG rfl rfl (Rd.ixS rfl rfl) ?_ | refine XPA.puOffG rfl rfl ?_
      first | refine XPA.puG rfl rfl (Rd.fA rfl) ?_ | refine XPA.puOffG rfl rfl ?_
      first | refine XPA.rdG rfl rfl (Rd.ldA rfl) ?_ | refine XPA.offG rfl rfl ?_
      first | refine XPA.puG rfl rfl Rd.mv ?_ | refine XPA.puOffG rfl rfl ?_
      first | refine XPA.puG rfl rfl Rd.mv ?_ | refine XPA.puOffG rfl rfl ?_
      first | refine XPA.puG rfl rfl (Rd.ixS rfl rfl) ?_ | refine XPA.puOffG rfl rfl ?_
      first | refine XPA.puG rfl rfl (Rd.fA rfl) ?_ | refine XPA.puOffG rfl rfl ?_
      first | refine XPA.rdG rfl rfl (Rd.ldA rfl) ?_ | refine XPA.offG rfl rfl ?_
      first | refine XPA.off rfl rfl (by first | exact Gd.isB rfl rfl rfl | exact Gd.un rfl rfl | (apply Gd.isQ; rfl; rfl; exact (by first | exact (rfl : decide _ = true) | exact (rfl : decide _ = false) | (refine decide_eq_true ?_; assumption) | (refine decide_eq_false ?_; assumption) | (refine decide_eq_true ?_; omega) | (refine decide_eq_false ?_; omega)); rfl)) ?_ | refine XPA.puOff rfl rfl (by first | exact Gd.isB rfl rfl rfl | exact Gd.un rfl rfl | (apply Gd.isQ; rfl; rfl; exact (by first | exact (rfl : decide _ = true) | exact (rfl : decide _ = false) | (refine decide_eq_true ?_; assumption) | (refine decide_eq_false ?_; assumption) | (refine decide_eq_true ?_; omega) | (refine decide_eq_false ?_; omega)); rfl)) ?_ | refine XPA.offW rfl rfl (by first | exact Gd.isB rfl rfl rfl | exact Gd.un rfl rfl | (apply Gd.isQ; rfl; rfl; exact (by first | exact (rfl : decide _ = true) | exact (rfl : decide _ = false) | (refine decide_eq_true ?_; assumption) | (refine decide_eq_false ?_; assumption) | (refine decide_eq_true ?_; omega) | (refine decide_eq_false ?_; omega)); rfl)) ?_
      first | refine XPA.puG rfl rfl zJ ?_ | refine XPA.puOffG rfl rfl ?_
      refine zu rfl rfl zP ?_; refine zu rfl rfl Rd.mv ?_
      first | refine XPA.puG rfl rfl Rd.mv ?_ | refine XPA.puOffG rfl rfl ?_
      first | refine XPA.puG rfl rfl Rd.mv ?_ | refine XPA.puOffG rfl rfl ?_
      first | refine XPA.puG rfl rfl (Rd.ixS rfl rfl) ?_ | refine XPA.puOffG rfl rfl ?_
      first | refine XPA.puG rfl rfl (Rd.fA rfl) ?_ | refine XPA.puOffG rfl rfl ?_
      first | refine XPA.rdG rfl rfl (Rd.ldA rfl) ?_ | refine XPA.offG rfl rfl ?_
      first | refine XPA.puG rfl rfl Rd.mv ?_ | refine XPA.puOffG rfl rfl ?_
      first | refine XPA.puG rfl rfl Rd.mv ?_ | refine XPA.puOffG rfl rfl ?_
      first | refine XPA.puG rfl rfl (Rd.ixS rfl rfl) ?_ | refine XPA.puOffG rfl rfl ?_
      first | refine XPA.puG rfl rfl (Rd.fA rfl) ?_ | refine XPA.puOffG rfl rfl ?_
      first | refine XPA.rdG rfl rfl (Rd.ldA rfl) ?_ | refine XPA.offG rfl rfl ?_
      first | refine XPA.off rfl rfl (by first | exact Gd.isB rfl rfl rfl | exact Gd.un rfl rfl | (apply Gd.isQ; rfl; rfl; exact (by first | exact (rfl : decide _ = true) | exact (rfl : decide _ = false) | (refine decide_eq_true ?_; assumption) | (refine decide_eq_false ?_; assumption) | (refine decide_eq_true ?_; omega) | (refine decide_eq_false ?_; omega)); rfl)) ?_ | refine XPA.puOff rfl rfl (by first | exact Gd.isB rfl rfl rfl | exact Gd.un rfl rfl | (apply Gd.isQ; rfl; rfl; exact (by first | exact (rfl : decide _ = true) | exact (rfl : decide _ = false) | (refine decide_eq_true ?_; assumption) | (refine decide_eq_false ?_; assumption) | (refine decide_eq_true ?_; omega) | (refine decide_eq_false ?_; omega)); rfl)) ?_ | refine XPA.offW rfl rfl (by first | exact Gd.isB rfl rfl rfl | exact Gd.un rfl rfl | (apply Gd.isQ; rfl; rfl; exact (by first | exact (rfl : decide _ = true) | exact (rfl : decide _ = false) | (refine decide_eq_true ?_; assumption) | (refine decide_eq_false ?_; assumption) | (refine decide_eq_true ?_; omega) | (refine decide_eq_false ?_; omega)); rfl)) ?_
      first | refine XPA.puG rfl rfl zJ ?_ | refine XPA.puOffG rfl rfl ?_
      refine zu rfl rfl zP ?_; refine zu rfl rfl Rd.mv ?_
      first | refine XPA.puG rfl rfl Rd.mv ?_ | refine XPA.puOffG rfl rfl ?_
      first | refine XPA.puG rfl rfl Rd.mv ?_ | refine XPA.puOffG rfl rfl ?_
      first | refine XPA.puG rfl rfl (Rd.ixS rfl rfl) ?_ | refine XPA.puOffG rfl rfl ?_
      first | refine XPA.puG rfl rfl (Rd.fA rfl) ?_ | refine XPA.puOffG rfl rfl ?_
      first | refine XPA.rdG rfl rfl (Rd.ldC rfl (tyrow rfl) rfl) ?_ | refine XPA.offG rfl rfl ?_
      first | refine XPA.puG rfl rfl Rd.mv ?_ | refine XPA.puOffG rfl rfl ?_
      first | refine XPA.puG rfl rfl Rd.mv ?_ | refine XPA.puOffG rfl rfl ?_
      first | refine XPA.puG rfl rfl (Rd.ixS rfl rfl) ?_ | refine XPA.puOffG rfl rfl ?_
      first | refine XPA.puG rfl rfl (Rd.fA rfl) ?_ | refine XPA.puOffG rfl rfl ?_
      first | refine XPA.rdG rfl rfl (Rd.ldC rfl (tyrow rfl) rfl) ?_ | refine XPA.offG rfl rfl ?_
      first | refine XPA.off rfl rfl (by first | exact Gd.isB rfl rfl rfl | exact Gd.un rfl rfl | (apply Gd.isQ; rfl; rfl; exact (by first | exact (rfl : decide _ = true) | exact (rfl : decide _ = false) | (refine decide_eq_true ?_; assumption) | (refine decide_eq_false ?_; assumption) | (refine decide_eq_true ?_; omega) | (refine decide_eq_false ?_; omega)); rfl)) ?_ | refine XPA.puOff rfl rfl (by first | exact Gd.isB rfl rfl rfl | exact Gd.un rfl rfl | (apply Gd.isQ; rfl; rfl; exact (by first | exact (rfl : decide _ = true) | exact (rfl : decide _ = false) | (refine decide_eq_true ?_; assumption) | (refine decide_eq_false ?_; assumption) | (refine decide_eq_true ?_; omega) | (refine decide_eq_false ?_; omega)); rfl)) ?_ | refine XPA.offW rfl rfl (by first | exact Gd.isB rfl rfl rfl | exact Gd.un rfl rfl | (apply Gd.isQ; rfl; rfl; exact (by first | exact (rfl : decide _ = true) | exact (rfl : decide _ = false) | (refine decide_eq_true ?_; assumption) | (refine decide_eq_false ?_; assumption) | (refine decide_eq_true ?_; omega) | (refine decide_eq_false ?_; omega)); rfl)) ?_
      first | refine XPA.puG rfl rfl zJ ?_ | refine XPA.puOffG rfl rfl ?_
      refine zu rfl rfl zP ?_; refine zu rfl rfl Rd.mv ?_
      first | refine XPA.puG rfl rfl Rd.mv ?_ | refine XPA.puOffG rfl rfl ?_
      first | refine XPA.puG rfl rfl Rd.mv ?_ | refine XPA.puOffG rfl rfl ?_
      first | refine XPA.puG rfl rfl (Rd.ixS rfl rfl) ?_ | refine XPA.puOffG rfl rfl ?_
      first | refine XPA.puG rfl rfl (Rd.fA rfl) ?_ | refine XPA.puOffG rfl rfl ?_
      first | refine XPA.rdG rfl rfl (Rd.ldC rfl (tyrow rfl) rfl) ?_ | refine XPA.offG rfl rfl ?_
      first | refine XPA.puG rfl rfl Rd.mv ?_ | refine XPA.puOffG rfl rfl ?_
      first | refine XPA.puG rfl rfl Rd.mv ?_ | refine XPA.puOffG rfl rfl ?_
      first | refine XPA.puG rfl rfl (Rd.ixS rfl rfl) ?_ | refine XPA.puOffG rfl rfl ?_
      first | refine XPA.puG rfl rfl (Rd.fA rfl) ?_ | refine XPA.puOffG rfl rfl ?_
      first | refine XPA.rdG rfl rfl (Rd.ldC rfl (tyrow rfl) rfl) ?_ | refine XPA.offG rfl rfl ?_
      first | refine XPA.off rfl rfl (by first | exact Gd.isB rfl rfl rfl | exact Gd.un rfl rfl | (apply Gd.isQ; rfl; rfl; exact (by first | exact (rfl : decide _ = true) | exact (rfl : decide _ = false) | (refine decide_eq_true ?_; assumption) | (refine decide_eq_false ?_; assumption) | (refine decide_eq_true ?_; omega) | (refine decide_eq_false ?_; omega)); rfl)) ?_ | refine XPA.puOff rfl rfl (by first | exact Gd.isB rfl rfl rfl | exact Gd.un rfl rfl | (apply Gd.isQ; rfl; rfl; exact (by first | exact (rfl : decide _ = true) | exact (rfl : decide _ = false) | (refine decide_eq_true ?_; assumption) | (refine decide_eq_false ?_; assumption) | (refine decide_eq_true ?_; omega) | (refine decide_eq_false ?_; omega)); rfl)) ?_ | refine XPA.offW rfl rfl (by first | exact Gd.isB rfl rfl rfl | exact Gd.un rfl rfl | (apply Gd.isQ; rfl; rfl; exact (by first | exact (rfl : decide _ = true) | exact (rfl : decide _ = false) | (refine decide_eq_true ?_; assumption) | (refine decide_eq_false ?_; assumption) | (refine decide_eq_true ?_; omega) | (refine decide_eq_false ?_; omega)); rfl)) ?_
      first | refine XPA.puG rfl rfl zJ ?_ | refine XPA.puOffG rfl rfl ?_
      refine zu rfl rfl zP ?_; refine XPA.nil ?_; refine zT (XA.condT rfl zY ?_); refine zS (zR (yS ?_)); refine zN (zT (XA.ret (DA.inb_ret (DA.thn_ret (DA.thn_ret (DA.inb_ret (DA.thn_ret ?_)))))))
      exact bodyA.ret (ResA.one rfl rfl) (Ent.nil _) ⟨false, rfl, ⟨fun h => (by cases h), fun h => absurd h hn⟩, rfl, rfl⟩
  have hkn : k = l.length := by omega
  subst hkn
  rw [List.take_length, hlm, List.take_length] at htk
  refine XA.exit (DA.thn_exit (DA.thn_exit (DA.inb_same (zT (zS (zR (yS ?_))))))); refine zN (zT (XA.ret ?_))
  exact bodyA.ret (ResA.one rfl rfl) (Ent.nil _) ⟨true, rfl, ⟨fun _ => htk, fun _ => rfl⟩, rfl, rfl⟩
theorem rsl_x (σ : PH) (x : St) : RSameListOK σ x.body ∧ RSameListOK σ x.els := by
  refine St.ind (P := fun x => RSameListOK σ x.body ∧ RSameListOK σ x.els) ?_ x
  intro op v e f body els ih jh
  exact ⟨rsameList_l σ body ih, rsameList_l σ els jh⟩
theorem rsameList_a (σ : PH) (l : List St) : RSameListOK σ l := rsameList_l σ l (fun x _ => rsl_x σ x)
theorem rsame_a (σ : PH) (cs cs' : List Value) (p q : Pr) (hp : PrAt σ cs p) (hq : PrAt σ cs' q) :
    CallsA Tryd.prog 15 #[.agg cs.toArray, .agg cs'.toArray] σ [] (RetA fun v σ' Γ' => ∃ b : Bool, v = .bool b ∧ (b = true ↔ p = q) ∧ σ = σ' ∧ Γ' = []) := by
  obtain ⟨vs, bs, rfl, hv, hb⟩ := hp
  obtain ⟨vs', bs', rfl, hv', hb'⟩ := hq
  obtain ⟨l, pb⟩ := p
  obtain ⟨m, qb⟩ := q
  simp only at hv hb hv' hb'
  obtain ⟨pl, cl, rfl, hle, hmx⟩ := hv.shape
  obtain ⟨pm, cm, rfl, hle2, hmx2⟩ := hv'.shape
  have hlen : l.length ≤ maxLen := by omega
  simp only [maxLen] at hlen
  have hno : ∀ (q : Prop), (Pr.mk l pb = Pr.mk m qb → q) → ¬ q → (false = true ↔ Pr.mk l pb = Pr.mk m qb) := fun q h1 h2 => ⟨fun h => (by cases h), fun h => absurd (h1 h) h2⟩
  by_cases hlm : l.length = m.length
  · 
    refine enterA2 Tryd.func15 rfl rfl rfl ?_; refine zS (zR ?_); refine zw rfl WrA.bx ?_
    rintro _ _ _ ⟨g2, rfl, rfl, rfl⟩
    refine zw rfl WrA.bx ?_
    rintro _ _ _ ⟨g3, rfl, rfl, rfl⟩
    refine yS ?_; refine zN (zT (zS (zS (zR (yV ?_))))); refine yB ?_; refine zO rfl (Rd.lenSlice (tyrow rfl) rfl rfl) ?_; refine yV ?_; refine yB ?_; refine zO rfl (Rd.lenSlice (tyrow rfl) rfl rfl) ?_; refine zO rfl (Rd.neq rfl rfl) ?_; refine yA ?_
    first | refine gV ?_ | refine zH ?_
    first | refine gB ?_ | refine zH ?_
    first | refine gV ?_ | refine zH ?_
    first | refine gB ?_ | refine zH ?_
    first | refine XOA.wanted rfl rfl ?_ | refine XOA.wq rfl rfl ?_
    refine zw rfl (WrA.cE (rsameList_a σ pb _ _ qb hb hb') rfl) ?_
    rintro _ _ _ ⟨_, ⟨b1, rfl, hb1, rfl, rfl⟩, rfl⟩
    refine XOA.cl ?_
    cases b1 with
    | false =>
      first | (refine zG ?_; refine zO rfl zJ ?_) | refine zH ?_
      refine zO rfl zP ?_; refine zN (zT (yT rfl rfl (zS (zR (yS ?_))))); refine zN (zT (XA.ret (DA.thn_ret ?_)))
      exact bodyA.ret (ResA.one rfl rfl) (Ent.nil _) ⟨false, rfl, hno (pb = qb) (fun h => by injection h) (fun h => absurd (hb1.2 h) (by decide)), rfl, rfl⟩
    | true =>
      first | (refine zG ?_; refine zO rfl zJ ?_) | refine zH ?_
      refine zO rfl zP ?_; refine zN (zT (yF rfl rfl (XA.skip (zT (zS (zS (zR (yS ?_)))))))); refine zN (zT (XA.block ?_))
      refine XA.gen [(2, _), (3, _), (4, _), (5, _)] ⟨(by with_reducible (conv => lhs; whnf)), (by with_reducible (conv => lhs; whnf)), (by with_reducible (conv => lhs; whnf)), (by with_reducible (conv => lhs; whnf)), trivial⟩ (fun δ => ?_)
      dsimp only [List.foldl]
      refine XA.loop [(4, 5), (21, 38)] (fun k : Nat => [(5, i64 k)]) (fun k σ' Γ' => σ = σ' ∧ k ≤ l.length ∧ l.take k = m.take k ∧ Γ' = [blk g2 [.slice pl l.length cl, bs] 25, blk g3 [.slice pm m.length cm, bs'] 25]) (fun k => l.length - k) 0 (by exact ⟨rfl, trivial⟩) (Δ0 := _) ?_ (⟨rfl, Nat.zero_le _, rfl, rfl⟩) ?_
      · exact zE
      rintro k δ _ _ ⟨rfl, hk, htk, rfl⟩
      dsimp only [ovr, List.foldl]
      refine zS (zS (zR (yA ?_))); refine yV ?_; refine yB ?_; refine zO rfl (Rd.lenSlice (tyrow rfl) rfl rfl) ?_; refine zO rfl (Rd.lss rfl rfl) ?_; refine zN (zT ?_); refine XA.condp rfl (fun hlt => ?_) (fun hlt => ?_)
      · have hlt : k < l.length := by omega
        obtain ⟨x, hx⟩ : ∃ x, l[k]? = some x := ⟨_, List.getElem?_eq_getElem hlt⟩
        obtain ⟨y, hy⟩ : ∃ y, m[k]? = some y := ⟨_, List.getElem?_eq_getElem (by omega)⟩
        obtain ⟨g, o, row, rfl, ⟨rfl, -⟩, hrl, hrow⟩ := hv.at hx
        obtain ⟨g', o', row', rfl, ⟨rfl, -⟩, hrl', hrow'⟩ := hv'.at hy
        refine XA.skip (zT (zS (XA.block (zS ?_))))
        refine XA.draw (by kernel_rfl) _ _ [] [(0, .pu), (1, .rd), (2, .pu), (3, .pu), (4, .rd), (5, .pu), (6, .rd), (7, .pu), (8, .pu), (9, .rd), (10, .pu)] (by kernel_rfl) (PH.sub.refl _) (Ent.sel (R := blk g2 _ _) zL (Ent.sel (R := blk g3 _ _) zL (Ent.nil _))) ?_
        refine zu rfl rfl (Rd.fA rfl) ?_; refine XPA.rd rfl rfl Gd.free (Rd.ldC rfl (tyrow rfl) rfl) ?_; refine zu rfl rfl Rd.mv ?_; refine zu rfl rfl (Rd.ixS rfl rfl) ?_; refine XPA.rd rfl rfl Gd.free (Rd.ldA rfl) ?_; refine zu rfl rfl (Rd.fA rfl) ?_
        refine XPA.rd rfl rfl Gd.free (Rd.ldC rfl (tyrow rfl) rfl) ?_; refine zu rfl rfl Rd.mv ?_; refine zu rfl rfl (Rd.ixS rfl rfl) ?_; refine XPA.rd rfl rfl Gd.free (Rd.ldA rfl) ?_; refine zu rfl rfl (Rd.neqVar (a := x) (b := y) rfl rfl) ?_; refine XPA.nil ?_; refine zT ?_
        refine XA.condp rfl (fun hxy => ?_) (fun hxy => ?_)
        · refine zS ?_
          refine zR (yS ?_); refine zN (zT (XA.ret (DA.inb_ret (DA.thn_ret (DA.thn_ret (DA.inb_ret (DA.thn_ret ?_)))))))
          refine bodyA.ret (ResA.one rfl rfl) (Ent.nil _) ⟨false, rfl, hno (l = m) (fun h => by injection h) (fun h => ?_), rfl, rfl⟩
          subst h
          rw [hx] at hy; simp only [Option.some.injEq] at hy
          exact absurd hy hxy
        have hxy : x = y := Decidable.not_not.1 hxy
        refine XA.skip (DA.inb_normal (zT (zR (yA ?_)))); refine zO rfl zI ?_; refine yS ?_; refine zN (zT ?_)
        refine ⟨(Keep.upd (Keep.upd (Keep.upd (Keep.upd (Keep.upd (Keep.upd (Keep.upd (Keep.upd (Keep.upd (Keep.upd (Keep.upd (Keep.upd (Keep.upd (Keep.upd (Keep.upd (Keep.upd (Keep.upd (Keep.upd (Keep.upd (Keep.upd (Keep.hav (Keep.hav (Keep.refl _ _) rfl) rfl) rfl) rfl) rfl) rfl) rfl) rfl) rfl) rfl) rfl) rfl) rfl) rfl) rfl) rfl) rfl) rfl) rfl) rfl) rfl) rfl), k + 1, _, zM, ?_, ⟨rfl, hlt, take_eq_succ hx hy htk hxy, rfl⟩, (by omega)⟩
        · exact zE
      have hkn : k = l.length := by omega
      subst hkn
      rw [List.take_length, hlm, List.take_length] at htk
      refine XA.exit (DA.thn_exit (DA.thn_exit (DA.inb_same (zT (zS (zR (yS ?_))))))); refine zN (zT (XA.ret ?_))
      exact bodyA.ret (ResA.one rfl rfl) (Ent.nil _) ⟨true, rfl, ⟨fun _ => by rw [htk, hb1.1 rfl], fun _ => rfl⟩, rfl, rfl⟩
  · 
    refine enterA2 Tryd.func15 rfl rfl rfl ?_; refine zS (zR ?_); refine zw rfl WrA.bx ?_
    rintro _ _ _ ⟨g2, rfl, rfl, rfl⟩
    refine zw rfl WrA.bx ?_
    rintro _ _ _ ⟨g3, rfl, rfl, rfl⟩
    refine yS ?_; refine zN (zT (zS (zS (zR (yV ?_))))); refine yB ?_; refine zO rfl (Rd.lenSlice (tyrow rfl) rfl rfl) ?_; refine yV ?_; refine yB ?_; refine zO rfl (Rd.lenSlice (tyrow rfl) rfl rfl) ?_; refine zO rfl (Rd.neq rfl rfl) ?_; refine yA ?_
    first | refine gV ?_ | refine zH ?_
    first | refine gB ?_ | refine zH ?_
    first | refine gV ?_ | refine zH ?_
    first | refine gB ?_ | refine zH ?_
    first | refine zH ?_
    first | (refine zG ?_; refine zO rfl zJ ?_) | refine zH ?_
    refine zO rfl zP ?_; refine zN (zT (XA.condT rfl zY ?_)); refine zS (zR (yS ?_)); refine zN (zT (XA.ret (DA.thn_ret ?_)))
    exact bodyA.ret (ResA.one rfl rfl) (Ent.nil _) ⟨false, rfl, hno (l = m) (fun h => by injection h) (fun h => hlm (by rw [h])), rfl, rfl⟩
end Go.Proofs.YthefnnkmpcgcmaaDoor

namespace Go.Proofs.YthefnnkmpcgcmaaDoor
open Go X
set_option maxHeartbeats 2000000
end Go.Proofs.YthefnnkmpcgcmaaDoor

namespace Go.Proofs.YthefnnkmpcgcmaaDoor
open Go X
set_option maxHeartbeats 4000000
theorem X.Rd.eqFault {ρ : Env} {S : Heap → Prop} {ty : TypeId} {T' : TypeId} {x y : Operand} {a b c e : Int} (hx : ev ρ x = .agg #[i64 a, i64 b]) (hy : ev ρ y = .agg #[i64 c, i64 e]) : Rd Tryd.prog ρ S (.binOp .eql 30 x y T') ty (.bool (decide (a = c ∧ b = e))) := by
  refine .pure fun d pos af gd w => ?_
  have h2 : (eqGuard .eql 30 x y (.agg #[i64 a, i64 b]) (.agg #[i64 c, i64 e])).run Tryd.prog w = .ok () w := run_eqGuard_agg w _ _ _ _ _ _ (by kernel_rfl)
  have h3 : (binOp .eql 30 (.agg #[i64 a, i64 b]) (.agg #[i64 c, i64 e])).run Tryd.prog w = .ok (.bool (decide (a = c ∧ b = e))) w := by
    rw [run_eql_struct]
    rw [X.run_equal_fault (a := a) (b := b) w]
    simp
  simp only [execOp, hx, hy, Sem.run_bind, h2, h3, Result.andThen_ok, Sem.run_pure]
theorem X.Rd.eqFaultT {ρ : Env} {S : Heap → Prop} {ty : TypeId} {T' : TypeId} {x y : Operand} {a b : Int} (hx : ev ρ x = .agg #[i64 a, i64 b]) (hy : ev ρ y = .agg #[i64 a, i64 b]) : Rd Tryd.prog ρ S (.binOp .eql 30 x y T') ty (.bool true) := by
  have := X.Rd.eqFault (S := S) (ty := ty) (T' := T') hx hy
  rwa [decide_eq_true (⟨rfl, rfl⟩ : a = a ∧ b = b)] at this
end Go.Proofs.YthefnnkmpcgcmaaDoor

namespace Go.Proofs.YthefnnkmpcgcmaaDoor
open Go X
set_option maxHeartbeats 4000000
def plit : ByteArray := ⟨#[108, 101, 116, 32, 97, 32, 50, 32, 40, 119, 104, 105, 108, 101, 32, 40, 108, 101, 115, 115, 32, 40, 118, 97, 114, 32, 97, 41, 32, 40, 110, 117, 109, 32, 51, 41, 41, 32, 40, 40, 115, 101, 116, 32, 97, 32, 40, 97, 100, 100, 32, 40, 118, 97, 114, 32, 97, 41, 32, 40, 110, 117, 109, 32, 49, 41, 41, 41, 41, 41]⟩
def pr0 : Pr := ⟨[⟨⟨#[97]⟩, 2⟩], [.mk 5 0 (.mk 7 0 0 [.mk 2 0 0 [], .mk 1 0 3 []]) zeroX [.mk 1 0 (.mk 4 0 0 [.mk 2 0 0 [], .mk 1 0 1 []]) zeroX [] []] []]⟩
theorem parse_lit : parseP plit = .ok pr0 := by kernel_rfl
theorem plit_t (σ : PH) (hT : Tab σ) (hE : Errs σ) : CallsA Tryd.prog 20 #[.string plit] σ [] (RetA fun v σ' Γ' => ∃ pv cv g o cb pb db, v = .tuple #[.agg #[.slice pv 1 cv, .slice (some ⟨g, o, none⟩) 1 cb], .agg #[i64 0, i64 0]] ∧ PRow σ' g (o + 2) [i64 7] ∧ PRow σ' g (o + 10) [.slice pb 1 db] ∧ σ.sub σ' ∧ Γ' = []) := by
  refine (parse_p σ plit (by decide) hT hE).mono fun e σ' Γ' h => ?_
  cases e with
  | returned v =>
    obtain ⟨cs, rfl, hp, hs, rfl⟩ := h
    rw [parse_lit] at hp
    obtain ⟨vs, bs, rfl, hv, hb⟩ := hp
    obtain ⟨pv, cv, rfl, -, -⟩ := hv.shape
    obtain ⟨pb, cb, rfl, -, -⟩ := hb.shape
    obtain ⟨g, o, row, rfl, hr, -, hrow⟩ := hb.at (k := 0) rfl
    obtain ⟨pe, de, pf, df, p, c, q, d, rfl, -⟩ := hr.inv12
    rw [Nat.zero_mul, Nat.add_zero] at hrow
    refine ⟨pv, cv, g, o, cb, p, c, by rw [parse_lit]; rfl, hrow.sub (j := 2) rfl, hrow.sub (j := 10) rfl, hs, rfl⟩
  | _ => exact False.elim h
theorem pbegun_a (σ : PH) (hT : Tab σ) (hE : Errs σ) : CallsA Tryd.prog 19 #[] σ [] (RetA fun v σ' Γ' => v = .bool true ∧ σ.sub σ' ∧ Γ' = []) := by
  refine enterA0 Tryd.func19 rfl rfl rfl ?_; refine zS (zR (yS ?_)); refine zN (zT (zS (zR ?_))); refine zw rfl (WrA.cE (plit_t σ hT hE) rfl) ?_
  rintro _ σ1 _ ⟨_, ⟨pv, cv, g, o, cb, pb, db, rfl, h1, h2, hs1, rfl⟩, rfl⟩
  refine XOA.cl ?_; refine yA ?_; refine zO rfl (Rd.extract rfl rfl) ?_; refine zO rfl (Rd.extract rfl rfl) ?_; refine zw rfl (WrA.alloc (tyrow rfl)) ?_
  rintro _ _ _ ⟨g1, rfl, rfl, rfl⟩
  refine zw rfl (WrA.alloc (tyrow rfl)) ?_
  rintro _ _ _ ⟨g2, rfl, rfl, rfl⟩
  refine zw rfl (WrA.st (tyrow rfl) rfl) ?_
  rintro _ _ _ ⟨rfl, rfl, rfl⟩
  refine zw rfl (WrA.st (tyrow rfl) rfl) ?_
  rintro _ _ _ ⟨rfl, rfl, rfl⟩
  refine zN (zT (zS (zR (yV ?_)))); refine yB ?_; refine yE ?_; refine yA ?_
  first | refine gV ?_ | refine zH ?_
  first | refine gB ?_ | refine zH ?_
  first | (refine zG ?_; refine zO rfl (Rd.lenSlice (tyrow rfl) rfl rfl) ?_) | refine zH ?_
  first | refine gE ?_ | refine zH ?_
  refine zO rfl zP ?_; refine yA ?_
  first | refine gV ?_ | refine zH ?_
  first | refine gB ?_ | refine zH ?_
  first | (refine zG ?_; refine zO rfl (Rd.lenSlice (tyrow rfl) rfl rfl) ?_) | refine zH ?_
  first | refine gE ?_ | refine zH ?_
  refine zO rfl zP ?_; refine yA ?_
  first | refine gV ?_ | refine zH ?_
  first | refine gB ?_ | refine zH ?_
  first | (refine zG ?_; refine zO rfl (Rd.ixS rfl rfl) ?_) | refine zH ?_
  first | refine gV ?_ | refine zH ?_
  first | refine gB ?_ | refine zH ?_
  first | (refine zG ?_; refine zO rfl (Rd.lenSlice (tyrow rfl) rfl rfl) ?_) | refine zH ?_
  first | refine gE ?_ | refine zH ?_
  refine zO rfl zP ?_; refine yA ?_
  first | refine gV ?_ | refine zH ?_
  first | refine gB ?_ | refine zH ?_
  first | (refine zG ?_; refine zO rfl (Rd.ixS rfl rfl) ?_) | refine zH ?_
  first | refine gV ?_ | refine zH ?_
  first | refine gV ?_ | refine zH ?_
  first | refine gB ?_ | refine zH ?_
  first | refine gE ?_ | refine zH ?_
  refine zO rfl zP ?_; refine yA ?_
  first | refine XOA.wanted rfl rfl ?_ | refine XOA.wq rfl rfl ?_
  refine yC (word_p σ1 8) ?_
  first | (refine zG ?_; refine zO rfl (Rd.eqls rfl rfl) ?_) | refine zH ?_
  refine zO rfl zP ?_; refine yA ?_
  first | refine XOA.wanted rfl rfl ?_ | refine XOA.wq rfl rfl ?_
  refine yC (verb_p σ1 0) ?_
  first | (refine zG ?_; refine zO rfl (Rd.eqls rfl rfl) ?_) | refine zH ?_
  refine zO rfl zP ?_; refine yS ?_; refine zN (zT (XA.ret ?_))
  exact bodyA.ret (ResA.one rfl rfl) (Ent.nil _) ⟨rfl, hs1, rfl⟩
end Go.Proofs.YthefnnkmpcgcmaaDoor

namespace Go.Proofs.YthefnnkmpcgcmaaDoor
open Go X
set_option maxHeartbeats 4000000
theorem parse_ok (σ : PH) {s : ByteArray} {pr : Pr} (hs : s.size ≤ 100000000) (hT : Tab σ) (hE : Errs σ) (h : parseP s = .ok pr) : CallsA Tryd.prog 20 #[.string s] σ [] (RetA fun v σ' Γ' => ∃ pv cv pb cb, v = .tuple #[.agg #[.slice pv pr.vars.length cv, .slice pb pr.body.length cb], .agg #[i64 0, i64 0]] ∧ PrAt σ' [.slice pv pr.vars.length cv, .slice pb pr.body.length cb] pr ∧ σ.sub σ' ∧ Γ' = []) := by
  refine (parse_p σ s hs hT hE).mono fun e σ' Γ' hh => ?_
  cases e with
  | returned v =>
    obtain ⟨cs, rfl, hp, hs, rfl⟩ := hh
    rw [h] at hp
    have hp0 := hp
    obtain ⟨vs, bs, rfl, hv, hb⟩ := hp
    obtain ⟨pv, cv, rfl, -, -⟩ := hv.shape
    obtain ⟨pb, cb, rfl, -, -⟩ := hb.shape
    exact ⟨pv, cv, pb, cb, by rw [h]; rfl, hp0, hs, rfl⟩
  | _ => exact False.elim hh
theorem parse_no (σ : PH) {s : ByteArray} {x1 x2 : Int} (hs : s.size ≤ 100000000) (hT : Tab σ) (hE : Errs σ) (h : parseP s = .error (x1, x2)) : CallsA Tryd.prog 20 #[.string s] σ [] (RetA fun v σ' Γ' => ∃ pv cv pb cb, v = .tuple #[.agg #[.slice pv 0 cv, .slice pb 0 cb], .agg #[i64 x1, i64 x2]] ∧ σ.sub σ' ∧ Γ' = []) := by
  refine (parse_p σ s hs hT hE).mono fun e σ' Γ' hh => ?_
  cases e with
  | returned v =>
    obtain ⟨cs, rfl, hp, hs, rfl⟩ := hh
    rw [h] at hp
    obtain ⟨vs, bs, rfl, hv, hb⟩ := hp
    obtain ⟨pv, cv, rfl, -, -⟩ := hv.shape
    obtain ⟨pb, cb, rfl, -, -⟩ := hb.shape
    exact ⟨pv, cv, pb, cb, by rw [h]; rfl, hs, rfl⟩
  | _ => exact False.elim hh
end Go.Proofs.YthefnnkmpcgcmaaDoor

namespace Go.Proofs.YthefnnkmpcgcmaaDoor
open Go X
set_option maxHeartbeats 4000000
theorem printP_err {p : Pr} {x : Int × Int} (h : printP p = .error x) : x.1 ≠ 0 := by
  rw [printP] at h
  split at h
  · rename_i hc; cases h; exact hc
  · split at h
    · cases h; show (3 : Int) ≠ 0; decide
    · cases h
end Go.Proofs.YthefnnkmpcgcmaaDoor

namespace Go.Proofs.YthefnnkmpcgcmaaDoor
open Go X
section
variable {P : Program} {ρ : Env} {σ : PH} {Γ : List HP}
theorem X.WrA.appP {T e : TypeId} {x y : Operand} {ty : TypeId} {r re : Ty} {n m c c' k : Nat} {p q : Option Addr} {xs news : List Value} {Γ' : List HP} (hT : tyOf P T = some r) (hk : r.k = .slice e) (hE : tyOf P e = some re) (hz : re.zero.length = re.size)
    (hs : ev ρ x = .slice p n c) (s : Sel Γ (lst e re.size (.slice p n c) n xs) Γ') (hy : ev ρ y = .slice q m c') (hf : m ≤ c' ∧ c' ≤ maxLen ∧ news.length = k ∧ (0 < m → ∃ g o, q = some ⟨g, o, none⟩ ∧ PRow σ g o news)) (hl : k = m * re.size) (h1 : ones news) (h63 : n + m ≤ maxLen) (hb : (n + m) * re.bytes ≤ 140737488355328) {n' : Nat} {zs : List Value} (hn' : n' = n + m) (hzs : zs = xs ++ news) :
    WrA P ρ σ Γ (.call { callee := .builtin .append, args := #[x, y], argTypes := #[T, T] }) ty (fun v' σ' Δ => ∃ p c, v' = .slice p n' c ∧ σ = σ' ∧ Δ = lst e re.size (.slice p n' c) n' zs :: Γ') noPA := by
  subst hn' hzs
  obtain ⟨hf1, hf2, hf3, hf4⟩ := hf
  by_cases hm : m = 0
  · subst hm
    have hn0 : news = [] := List.eq_nil_of_length_eq_zero (by rw [hf3, hl]; omega)
    subst hn0
    refine ⟨fun f h hh => ⟨fun d pos af gd a w next Q' he hw hn hp => ?_⟩⟩
    have hc := holds_fact hh s (q := n ≤ c) (fun m hm => (lst_cap m hm).1)
    refine ((Rd.toW (σ := σ) (Γ := Γ) (Rd.appendNone hT hk hE hs hy hc)).out f h hh).out d pos af gd a w next Q' he hw (fun v' w' sm q => ?_) (fun _ _ _ q => by obtain ⟨_, _, q, _⟩ := q; exact q.elim)
    obtain ⟨σ', Γ'', ⟨rfl, rfl, rfl⟩, hh'⟩ := q
    refine hn _ w' sm ⟨σ, _, ⟨p, c, rfl, rfl, rfl⟩, ?_⟩
    rw [Nat.add_zero, List.append_nil]
    exact hh'.ent (Ent.imp s (fun _ h => h) (Ent.refl _))
  · obtain ⟨g, o, rfl, hr⟩ := hf4 (by omega)
    exact WrA.append hT hk hE hz hs s hy (At.per hr) (by rw [hf3, hl]) h1 (by omega) h63 hb
end
end Go.Proofs.YthefnnkmpcgcmaaDoor

namespace Go.Proofs.YthefnnkmpcgcmaaDoor
open Go X
set_option maxHeartbeats 4000000
theorem X.Rd.strFrom {P : Program} {ρ : Env} {S : Heap → Prop} {ty : TypeId} {T : TypeId} {x y : Operand} {r : Ty} {s t : ByteArray} {i : Int} (hT : tyOf P T = some r) (hk : r.k = .string) (hx : ev ρ x = .string s) (hy : ev ρ y = i64 i) (h : 0 ≤ i ∧ i ≤ s.size) (ht : s.extract i.toNat s.size = t) : Rd P ρ S (.slice T x (some y) none none) ty (.string t) := by
  subst ht
  refine .pure fun d pos af gd w => ?_
  obtain ⟨dd, ii, zz, e1, e2, -⟩ := tyOf_spec hT
  rw [hk] at e2
  cases dd <;> simp [kindOf] at e2
  have := run_slice_string_from_if (P := P) w T s .i64 i e1
  rw [if_pos h] at this
  have h2 := run_sliceAt_string (P := P) w T (.string s) (some (i64 i)) none none e1
  rw [this] at h2
  simp [execOp, hx, hy, h2]
theorem parseP_check {s : ByteArray} {p : Pr} (h : parseP s = .ok p) : checkP p = 0 := by
  rw [parseP] at h
  cases hs : scanP s with
  | error y => rw [hs] at h; cases h
  | ok l =>
    rw [hs] at h
    simp only at h
    cases hp : progP s.size l with
    | error y => rw [hp] at h; cases h
    | ok y =>
      obtain ⟨pr, r⟩ := y
      rw [hp] at h
      simp only at h
      split at h
      · cases h
      · rename_i hc; cases h; exact Decidable.not_not.1 hc
theorem printP_of {p : Pr} (h : errC (printP p) = 0) : printP p = .ok (okB (printP p)) ∧ okB (printP p) = prT p := by
  cases e : printP p with
  | error x => rw [e] at h; exact absurd h (printP_err e)
  | ok s =>
    refine ⟨rfl, ?_⟩
    rw [printP] at e
    split at e
    · cases e
    · split at e
      · cases e
      · cases e; rfl
theorem Rows_.app {α : Type} {s : Nat} {R : RT α} {σ : PH} : ∀ {rows2 : List (List Value)} {ys : List α}, Rows_ s R σ rows2 ys → ∀ {rows : List (List Value)} {xs : List α}, Rows_ s R σ rows xs → Rows_ s R σ (rows ++ rows2) (xs ++ ys)
  | rows2, ys, h2, rows, xs, h1 => ⟨by rw [List.length_append, List.length_append, h1.len, h2.len], fun r hr => by
      rcases List.mem_append.1 hr with hr | hr
      · exact h1.size r hr
      · exact h2.size r hr, fun i row x a b => by
      by_cases hi : i < rows.length
      · have hx : i < xs.length := by rw [← h1.len]; exact hi
        rw [List.getElem?_append_left hi] at a
        rw [List.getElem?_append_left hx] at b
        exact h1.row i row x a b
      · have hx : xs.length ≤ i := by rw [← h1.len]; omega
        rw [List.getElem?_append_right (by omega)] at a
        rw [List.getElem?_append_right hx] at b
        exact h2.row (i - xs.length) row x (by rw [← h1.len]; exact a) b⟩
theorem st_ones {σ : PH} {rows : List (List Value)} {l : List St} (h : Rows_ 12 StAt σ rows l) : ones rows.flatten := ones_flat fun row hm => by
  obtain ⟨x, -, hx⟩ := h.mem hm
  exact hx.ones
theorem parse_any (σ : PH) (s : ByteArray) (hs : s.size ≤ 100000000) (hT : Tab σ) (hE : Errs σ) : CallsA Tryd.prog 20 #[.string s] σ [] (RetA fun v σ' Γ' => ∃ pv nv cv pb nb cb, v = .tuple #[.agg #[.slice pv nv cv, .slice pb nb cb], .agg #[i64 (errC (parseP s)), i64 (errA (parseP s))]] ∧ PrAt σ' [.slice pv nv cv, .slice pb nb cb] (okPr (parseP s)) ∧ σ.sub σ' ∧ Γ' = []) := by
  refine (parse_p σ s hs hT hE).mono fun e σ' Γ' hh => ?_
  cases e with
  | returned v =>
    obtain ⟨cs, rfl, hp, hs, rfl⟩ := hh
    have hp0 := hp
    obtain ⟨vs, bs, rfl, hv, hb⟩ := hp
    obtain ⟨pv, cv, rfl, -, -⟩ := hv.shape
    obtain ⟨pb, cb, rfl, -, -⟩ := hb.shape
    exact ⟨pv, _, cv, pb, _, cb, rfl, hp0, hs, rfl⟩
  | _ => exact False.elim hh
theorem joins_law (σ : PH) (s : ByteArray) (kk : Int) (hk0 : -9223372036854775808 ≤ kk) (hk1 : kk ≤ 9223372036854775807) (hT : Tab σ) (hE : Errs σ) : CallsA Tryd.prog 8 #[.string s, i64 kk] σ [] (RetA fun r σ' _ => r = .bool true ∧ σ.sub σ') := by
  refine enterA2 Tryd.func8 rfl rfl rfl ?_; refine zS (zR (yS ?_)); refine zN (zT (zS (zS (zR ?_)))); refine zw rfl (WrA.cE (pbegun_a σ hT hE) rfl) ?_
  rintro _ σ1 _ ⟨_, ⟨rfl, hs1, rfl⟩, rfl⟩
  refine XOA.cl ?_
  have hT1 := hT.mono hs1
  have hE1 := hE.mono hs1
  refine zO rfl zJ ?_; refine zN (zT (yF rfl rfl (XA.skip (zT (zS (zS (zR (yA ?_)))))))); refine zO rfl (Rd.lenString (tyrow rfl) rfl rfl) ?_; refine zO rfl (Rd.gtr rfl rfl) ?_; refine zN (zT ?_)
  by_cases h9 : 2900 < s.size
  · skip
    refine XA.condT rfl (by first | rfl | exact decide_eq_true (by omega)) ?_; refine zS (zR (yS ?_)); refine zN (zT (XA.ret (DA.thn_ret ?_)))
    exact bodyA.ret (ResA.one rfl rfl) (Ent.nil _) ⟨rfl, hs1⟩
  cases hR : parseP s with
  | error e =>
    obtain ⟨e1, e2⟩ := e
    have he := parseP_err hR
    simp only at he
    refine XA.condF rfl (by first | rfl | exact decide_eq_false (by omega)) ?_; refine XA.skip (zT (zS (zR (yA ?_))))
    refine zw rfl (WrA.cE (parse_no σ1 (by omega) hT1 hE1 hR) rfl) ?_
    rintro _ σ2 _ ⟨_, ⟨pv, cv, pb, cb, rfl, hs2, rfl⟩, rfl⟩
    refine XOA.cl ?_; refine yA ?_; refine zO rfl (Rd.extract rfl rfl) ?_; refine zO rfl (Rd.extract rfl rfl) ?_; refine zw rfl (WrA.alloc (tyrow rfl)) ?_
    rintro _ _ _ ⟨g5, rfl, rfl, rfl⟩
    refine zw rfl (WrA.alloc (tyrow rfl)) ?_
    rintro _ _ _ ⟨g6, rfl, rfl, rfl⟩
    refine zw rfl (WrA.st (tyrow rfl) rfl) ?_
    rintro _ _ _ ⟨rfl, rfl, rfl⟩
    refine zw rfl (WrA.st (tyrow rfl) rfl) ?_
    rintro _ _ _ ⟨rfl, rfl, rfl⟩
    refine zN (zT (zS (zS (zR (yV ?_))))); refine yB ?_; refine zO rfl (Rd.neq rfl rfl) ?_; refine zN (zT (XA.condT rfl (by first | rfl | exact decide_eq_true he) ?_)); refine zS (zR (yS ?_)); refine zN (zT (XA.ret (DA.thn_ret ?_)))
    exact bodyA.ret (ResA.one rfl rfl) (Ent.nil _) ⟨rfl, hs1.trans hs2⟩
  | ok pr =>
    have hck := parseP_check hR
    have hw := check_w hck
    have hcount := hw.count
    have hlen := stsN_len pr.body
    refine XA.condF rfl (by first | rfl | exact decide_eq_false (by omega)) ?_; refine XA.skip (zT (zS (zR (yA ?_))))
    refine zw rfl (WrA.cE (parse_ok σ1 (by omega) hT1 hE1 hR) rfl) ?_
    rintro _ σ2 _ ⟨_, ⟨pv, cv, pb, cb, rfl, hp1, hs2, rfl⟩, rfl⟩
    refine XOA.cl ?_
    have hT2 := hT1.mono hs2
    have hE2 := hE1.mono hs2
    have hi := hp1.i
    obtain ⟨u, hu⟩ : ∃ u : Nat, IntKind.u64.wrap kk = (u : Int) := Int.eq_ofNat_of_zero_le (by simp [IntKind.wrap, IntKind.bits, IntKind.signed]; omega)
    obtain ⟨n, hn⟩ : ∃ n, n = u % (pr.body.length + 1) := ⟨_, rfl⟩
    have hn1 : n ≤ pr.body.length := by have := Nat.mod_lt u (show 0 < pr.body.length + 1 by omega); omega
    refine yA ?_; refine zO rfl (Rd.extract rfl rfl) ?_; refine zO rfl (Rd.extract rfl rfl) ?_; refine zw rfl (WrA.alloc (tyrow rfl)) ?_
    rintro _ _ _ ⟨g5, rfl, rfl, rfl⟩
    refine zw rfl (WrA.alloc (tyrow rfl)) ?_
    rintro _ _ _ ⟨g6, rfl, rfl, rfl⟩
    refine zw rfl (WrA.st (tyrow rfl) rfl) ?_
    rintro _ _ _ ⟨rfl, rfl, rfl⟩
    refine zw rfl (WrA.st (tyrow rfl) rfl) ?_
    rintro _ _ _ ⟨rfl, rfl, rfl⟩
    refine zN (zT (zS (zS (zR (yV ?_))))); refine yB ?_; refine zO rfl (Rd.neq rfl rfl) ?_; refine zN (zT ?_)
    refine XA.condF rfl (by first | rfl | exact decide_eq_false (fun h => h rfl)) ?_
    refine XA.skip (zT (zS (zR (yA ?_)))); refine zO rfl (Rd.cvI (tyrow rfl) (tyrow rfl) rfl rfl) ?_; refine yV ?_; refine yB ?_; refine zO rfl (Rd.lenSlice (tyrow rfl) rfl rfl) ?_; refine zO rfl zI ?_; refine zO rfl (Rd.cvI (tyrow rfl) (tyrow rfl) rfl rfl) ?_
    rw [hu]
    refine zO rfl (Rd.remi (c := (n : Int)) rfl rfl (by omega) (by rw [Int.tmod_eq_emod_of_nonneg (by omega), hn]; rfl)) ?_
    refine zO rfl (Rd.cvI (tyrow rfl) (tyrow rfl) rfl rfl) ?_; refine yS ?_; refine zN (zT (zS ?_))
    obtain ⟨vs', bs', hcs, hv2, hb2⟩ := hp1
    simp only [List.cons.injEq, and_true] at hcs
    obtain ⟨rfl, rfl⟩ := hcs
    obtain ⟨cap1, cap2⟩ : pr.body.length ≤ cb ∧ cb ≤ maxLen := by
      obtain ⟨q, d, e1, h1, h2⟩ := hb2.shape
      simp only [Value.slice.injEq] at e1
      obtain ⟨-, -, rfl⟩ := e1
      exact ⟨h1, h2⟩
    simp only [maxLen] at cap2
    have htk := X.PSl.take hb2 hn1
    have hpm : PrAt σ2 [.slice pv pr.vars.length cv, .slice pb n cb] ⟨pr.vars, pr.body.take n⟩ := ⟨_, _, rfl, hv2, htk⟩
    have hph : PrAt σ2 [.slice pv pr.vars.length cv, .slice none 0 0] ⟨pr.vars, []⟩ := ⟨_, _, rfl, hv2, PSl.nil _ _ _⟩
    obtain ⟨T1, hT1e⟩ : ∃ t, okB (printP ⟨pr.vars, pr.body.take n⟩) = t := ⟨_, rfl⟩
    obtain ⟨c1, hc1⟩ : ∃ t, errC (printP ⟨pr.vars, pr.body.take n⟩) = t := ⟨_, rfl⟩
    obtain ⟨a1, ha1⟩ : ∃ t, errA (printP ⟨pr.vars, pr.body.take n⟩) = t := ⟨_, rfl⟩
    obtain ⟨T2, hT2e⟩ : ∃ t, okB (printP ⟨pr.vars, []⟩) = t := ⟨_, rfl⟩
    obtain ⟨c2, hc2⟩ : ∃ t, errC (printP ⟨pr.vars, []⟩) = t := ⟨_, rfl⟩
    obtain ⟨a2, ha2⟩ : ∃ t, errA (printP ⟨pr.vars, []⟩) = t := ⟨_, rfl⟩
    have hpr1 := printed_p σ2 _ _ hpm hT2
    have hpr2 := printed_p σ2 _ _ hph hT2
    rw [hT1e, hc1, ha1] at hpr1
    rw [hT2e, hc2, ha2] at hpr2
    refine XA.join [(8, 9), (38, 48)] (fun y : Nat => [(8, .string T1), (9, ptr y)]) (fun y σ' Γ' => σ2 = σ' ∧ Γ' = [blk y [i64 c1, i64 a1] 30, blk g5 [.slice pv pr.vars.length cv, .slice pb pr.body.length cb] 25]) ?_ ?_
    · skip
      refine XA.drawQ (by kernel_rfl) _ _ [6, 8, 9, 10, 12, 13] 14 #[false, false, false, false, false, false, false, false, false, false, false, false, false, false] rfl rfl (by kernel_rfl) (PH.sub.refl _) (Ent.sel (R := blk g5 _ _) zL (Ent.nil _)) ?_
      refine qp 0 #[tT,fF,fF,fF,fF,fF,fF,fF,fF,fF,fF,fF,fF,fF] rfl (Rd.fA rfl) ?_; refine qr 1 #[tT,tT,fF,fF,fF,fF,fF,fF,fF,fF,fF,fF,fF,fF] rfl (Rd.ldC rfl (tyrow rfl) rfl) ?_; refine qp 2 #[tT,tT,tT,fF,fF,fF,fF,fF,fF,fF,fF,fF,fF,fF] rfl (Rd.fA rfl) ?_
      refine qr 3 #[tT,tT,tT,tT,fF,fF,fF,fF,fF,fF,fF,fF,fF,fF] rfl (Rd.ldC rfl (tyrow rfl) rfl) ?_; refine qp 4 #[tT,tT,tT,tT,tT,fF,fF,fF,fF,fF,fF,fF,fF,fF] rfl Rd.mv ?_
      refine qp 5 #[tT,tT,tT,tT,tT,tT,fF,fF,fF,fF,fF,fF,fF,fF] rfl (Rd.sliceToN (tyrow rfl) rfl (tyrow rfl) rfl rfl (by omega)) ?_
      refine qp 6 #[tT,tT,tT,tT,tT,tT,tT,fF,fF,fF,fF,fF,fF,fF] rfl (Rd.bl (fun _ _ => tyrow) rfl rfl rfl) ?_
      refine XQA.w2 (i := 7) (j := 11) (by kernel_rfl) ?_ ?_
      · refine qw #[tT,tT,tT,tT,tT,tT,tT,tT,fF,fF,fF,fF,fF,fF] rfl (WrA.cE hpr1 rfl) ?_
        rintro _ _ _ ⟨_, ⟨rfl, rfl, rfl⟩, rfl⟩
        refine ⟨⟨zX, zE⟩, XQA.re zC ?_⟩
        refine qp 8 #[tT,tT,tT,tT,tT,tT,tT,tT,tT,fF,fF,fF,fF,fF] rfl Rd.mv ?_; refine qp 9 #[tT,tT,tT,tT,tT,tT,tT,tT,tT,tT,fF,fF,fF,fF] rfl (Rd.extract rfl rfl) ?_; refine qp 10 #[tT,tT,tT,tT,tT,tT,tT,tT,tT,tT,tT,fF,fF,fF] rfl (Rd.extract rfl rfl) ?_; refine qa 11 ?_
        refine qw #[tT,tT,tT,tT,tT,tT,tT,tT,tT,tT,tT,tT,fF,fF] rfl (WrA.alloc (tyrow rfl)) ?_
        rintro _ _ _ ⟨g9, rfl, rfl, rfl⟩
        refine ⟨⟨zX, zE⟩, XQA.re zC ?_⟩
        refine qp 12 #[tT,tT,tT,tT,tT,tT,tT,tT,tT,tT,tT,tT,tT,fF] rfl Rd.asg ?_; refine qa 13 ?_
        refine XQA1.wrZ0 (listed' := #[tT,tT,tT,tT,tT,tT,tT,tT,tT,tT,tT,tT,tT,tT]) rfl rfl Gd.free (by kernel_rfl) rfl (by kernel_rfl) (WrA.st (tyrow rfl) rfl) ?_
        rintro _ _ _ ⟨rfl, rfl, rfl⟩
        refine XQA.re zC ?_; refine XQA.nil rfl ?_
        refine DA.thn_normal ⟨zK, g9, _, zM, ?_, rfl, rfl⟩; exact zE
      · refine qw #[tT,tT,tT,tT,tT,tT,tT,fF,fF,fF,fF,tT,fF,fF] rfl (WrA.alloc (tyrow rfl)) ?_
        rintro _ _ _ ⟨g9, rfl, rfl, rfl⟩
        refine ⟨⟨zX, zE⟩, XQA.re zC ?_⟩
        refine qa 7 ?_; refine qw #[tT,tT,tT,tT,tT,tT,tT,tT,fF,fF,fF,tT,fF,fF] rfl (WrA.cE hpr1 rfl) ?_
        rintro _ _ _ ⟨_, ⟨rfl, rfl, rfl⟩, rfl⟩
        refine ⟨⟨zX, zE⟩, XQA.re zC ?_⟩
        refine qp 8 #[tT,tT,tT,tT,tT,tT,tT,tT,tT,fF,fF,tT,fF,fF] rfl Rd.mv ?_; refine qp 9 #[tT,tT,tT,tT,tT,tT,tT,tT,tT,tT,fF,tT,fF,fF] rfl (Rd.extract rfl rfl) ?_; refine qp 10 #[tT,tT,tT,tT,tT,tT,tT,tT,tT,tT,tT,tT,fF,fF] rfl (Rd.extract rfl rfl) ?_
        refine qp 12 #[tT,tT,tT,tT,tT,tT,tT,tT,tT,tT,tT,tT,tT,fF] rfl Rd.asg ?_; refine qa 13 ?_
        refine XQA1.wrZ0 (listed' := #[tT,tT,tT,tT,tT,tT,tT,tT,tT,tT,tT,tT,tT,tT]) rfl rfl Gd.free (by kernel_rfl) rfl (by kernel_rfl) (WrA.st (tyrow rfl) rfl) ?_
        rintro _ _ _ ⟨rfl, rfl, rfl⟩
        refine XQA.re zC ?_; refine XQA.nil rfl ?_
        refine DA.thn_normal ⟨zK, g9, _, zM, ?_, rfl, rfl⟩; exact zE
    rintro g9 δ _ _ ⟨rfl, rfl⟩
    dsimp only [ovr, List.foldl]
    refine zT (zS (zR (yV ?_))); refine yB ?_; refine zO rfl (Rd.bl (fun _ _ => tyrow) rfl rfl rfl) ?_; refine yC (hpr2) ?_; refine yA ?_; refine zO rfl (Rd.extract rfl rfl) ?_; refine zO rfl (Rd.extract rfl rfl) ?_; refine zw rfl (WrA.alloc (tyrow rfl)) ?_
    rintro _ _ _ ⟨g11, rfl, rfl, rfl⟩
    refine yS ?_; refine zw rfl (WrA.st (tyrow rfl) rfl) ?_
    rintro _ _ _ ⟨rfl, rfl, rfl⟩
    refine zN (zT (zS (zS ?_)))
    by_cases q1 : c1 = 0
    · have q1' : ¬ (c1 ≠ 0) := fun h => h q1
      by_cases q2 : c2 = 0
      · have q2' : ¬ (c2 ≠ 0) := fun h => h q2
        by_cases q3 : 2900 < T1.size
        · have q3' : (2900 : Int) < (T1.size : Nat) := by omega
          refine zR (yV ?_); refine yB ?_; refine zO rfl (Rd.neq rfl rfl) ?_; refine yA ?_
          first | refine gV ?_ | refine zH ?_
          first | refine gB ?_ | refine zH ?_
          first | (refine zG ?_; refine zO rfl (Rd.neq rfl rfl) ?_) | refine zH ?_
          refine zO rfl zP ?_; refine yA ?_
          first | refine gA ?_ | refine zH ?_
          first | (refine zG ?_; refine zO rfl (Rd.lenString (tyrow rfl) rfl rfl) ?_) | refine zH ?_
          first | (refine zG ?_; refine zO rfl (Rd.gtr rfl rfl) ?_) | refine zH ?_
          refine zO rfl zP ?_; refine zN (zT (XA.condT rfl (by first | rfl | exact decide_eq_true q3') ?_)); refine zS (zR (yS ?_)); refine zN (zT (XA.ret (DA.thn_ret ?_)))
          exact bodyA.ret (ResA.one rfl rfl) (Ent.nil _) ⟨rfl, hs1.trans hs2⟩
        · have q3' : ¬ (2900 : Int) < (T1.size : Nat) := by omega
          have ht1 := (printP_of (hc1.trans q1)).2
          have ht2 := (printP_of (hc2.trans q2)).2
          rw [hT1e, prT] at ht1
          rw [hT2e, prT, bodyT, ByteArray.append_empty] at ht2
          simp only at ht1 ht2
          have hle : T2.size ≤ T1.size := by rw [ht1, ht2, ByteArray.size_append]; omega
          have hcut : T1.extract (T2.size : Int).toNat T1.size = bodyT pr.vars (pr.body.take n) := by
            rw [Int.toNat_natCast, ht1, ht2]; exact ByteArray.extract_append_eq_right rfl ByteArray.size_append
          have hbsz : (bodyT pr.vars (pr.body.take n)).size ≤ 2900 := by have := congrArg ByteArray.size ht1; rw [ByteArray.size_append] at this; omega
          have eJ : s ++ nl1 ++ bodyT pr.vars (pr.body.take n) = s ++ (nl1 ++ bodyT pr.vars (pr.body.take n)) := ByteArray.append_assoc
          obtain ⟨J, hJ⟩ : ∃ J, s ++ nl1 ++ bodyT pr.vars (pr.body.take n) = J := ⟨_, rfl⟩
          have hJs : J.size ≤ 6000 := by rw [← hJ]; simp only [ByteArray.size_append, show nl1.size = 1 from rfl]; omega
          have hjoin := parse_join hR hi n (by rw [← eJ, hJ]; exact hJs)
          rw [← eJ, hJ] at hjoin
          obtain ⟨cq, hcq⟩ : ∃ t, errC (parseP J) = t := ⟨_, rfl⟩
          obtain ⟨aq, haq⟩ : ∃ t, errA (parseP J) = t := ⟨_, rfl⟩
          obtain ⟨pq, hpq⟩ : ∃ t, okPr (parseP J) = t := ⟨_, rfl⟩
          have hpj := parse_any σ2 J (by omega) hT2 hE2
          rw [hcq, haq, hpq] at hpj
          rw [← hJ] at hpj
          obtain ⟨rows1, hr1, -, -, -, hrow1⟩ := psl_rows hb2
          obtain ⟨rows2, hr2, hn2, -, -, hrow2⟩ := psl_rows htk
          have hlt : (pr.body.take n).length = n := hn2.symm
          have on1 := st_ones hr1
          have on2 := st_ones hr2
          have fl1 := hr1.flat_len
          have fl2 := hr2.flat_len
          rw [hlt] at fl2 hrow2
          refine zR (yV ?_); refine yB ?_; refine zO rfl (Rd.neq rfl rfl) ?_; refine yA ?_
          first | refine gV ?_ | refine zH ?_
          first | refine gB ?_ | refine zH ?_
          first | (refine zG ?_; refine zO rfl (Rd.neq rfl rfl) ?_) | refine zH ?_
          refine zO rfl zP ?_; refine yA ?_
          first | refine gA ?_ | refine zH ?_
          first | (refine zG ?_; refine zO rfl (Rd.lenString (tyrow rfl) rfl rfl) ?_) | refine zH ?_
          first | (refine zG ?_; refine zO rfl (Rd.gtr rfl rfl) ?_) | refine zH ?_
          refine zO rfl zP ?_; refine zN (zT (XA.condF rfl (by first | rfl | exact decide_eq_false q3') ?_)); refine XA.skip (zT (zS (zR (yA ?_))))
          refine zO rfl (X.Rd.catStr rfl rfl (by show s.size + 1 ≤ _; omega)) ?_
          refine yA ?_; refine yA ?_; refine zO rfl (Rd.lenString (tyrow rfl) rfl rfl) ?_; refine zO rfl (X.Rd.strFrom (tyrow rfl) rfl rfl rfl ⟨by omega, by omega⟩ hcut) ?_
          refine zO rfl (X.Rd.catStr rfl rfl (by show (s ++ nl1).size + (bodyT pr.vars (pr.body.take n)).size ≤ _; rw [ByteArray.size_append, show nl1.size = 1 from rfl]; omega)) ?_
          refine zw rfl (WrA.cE (hpj) rfl) ?_
          rintro _ σ3 _ ⟨_, ⟨pvq, nvq, cvq, pbq, nbq, cbq, rfl, hpq3, hs3, rfl⟩, rfl⟩
          refine XOA.cl ?_
          have hr13 := hr1.mono (σ' := σ3) (fun _ _ h => h.mono hs3)
          have hr23 := hr2.mono (σ' := σ3) (fun _ _ h => h.mono hs3)
          have hrw1 : 0 < pr.body.length → ∃ g o, pb = some ⟨g, o, none⟩ ∧ PRow σ3 g o rows1.flatten := fun h => by obtain ⟨g, o, e, r⟩ := hrow1 h; exact ⟨g, o, e, r.mono hs3⟩
          have hrw2 : 0 < n → ∃ g o, pb = some ⟨g, o, none⟩ ∧ PRow σ3 g o rows2.flatten := fun h => by obtain ⟨g, o, e, r⟩ := hrow2 h; exact ⟨g, o, e, r.mono hs3⟩
          refine yA ?_; refine zO rfl (Rd.extract rfl rfl) ?_; refine zO rfl (Rd.extract rfl rfl) ?_; refine zw rfl (WrA.alloc (tyrow rfl)) ?_
          rintro _ _ _ ⟨g12, rfl, rfl, rfl⟩
          refine zw rfl (WrA.alloc (tyrow rfl)) ?_
          rintro _ _ _ ⟨g13, rfl, rfl, rfl⟩
          refine zw rfl (WrA.st (tyrow rfl) rfl) ?_
          rintro _ _ _ ⟨rfl, rfl, rfl⟩
          refine zw rfl (WrA.st (tyrow rfl) rfl) ?_
          rintro _ _ _ ⟨rfl, rfl, rfl⟩
          refine zN (zT (zS (zR (yV ?_)))); refine yB ?_; refine zO rfl (Rd.bl (fun _ _ => tyrow) rfl rfl rfl) ?_; refine zw rfl (WrA.alloc (tyrow rfl)) ?_
          rintro _ _ _ ⟨g14, rfl, rfl, rfl⟩
          refine zw rfl (WrA.st (tyrow rfl) rfl) ?_
          rintro _ _ _ ⟨rfl, rfl, rfl⟩
          refine zN (zT (zS ?_)); refine XA.ent (Ent.selNil (e := 56) (size := 12) (Ent.refl _)) ?_
          refine XA.draw (by kernel_rfl) _ _ [9, 11] [(0, .pu), (1, .rd), (2, .pu), (3, .rd), (5, .pu), (6, .rd), (7, .pu), (8, .pu), (4, .wr), (9, .wr), (10, .pu), (11, .wr)] (by kernel_rfl) (PH.sub.refl _) (Ent.sel (R := blk g14 _ _) zL (Ent.sel (R := blk g5 _ _) zL (Ent.nil _))) ?_
          refine zu rfl rfl (Rd.fA rfl) ?_; refine XPA.rd rfl rfl Gd.free (Rd.ldC rfl (tyrow rfl) rfl) ?_; refine zu rfl rfl (Rd.fA rfl) ?_; refine XPA.rd rfl rfl Gd.free (Rd.ldC rfl (tyrow rfl) rfl) ?_; refine zu rfl rfl (Rd.fA rfl) ?_
          refine XPA.rd rfl rfl Gd.free (Rd.ldC rfl (tyrow rfl) rfl) ?_; refine zu rfl rfl Rd.mv ?_; refine zu rfl rfl (Rd.sliceToN (tyrow rfl) rfl (tyrow rfl) rfl rfl (by omega)) ?_
          refine XPA.wr0 rfl rfl Gd.free (WrA.appP (tyrow rfl) rfl (tyrow rfl) rfl rfl zL rfl ⟨cap1, by simp only [maxLen]; omega, fl1, hrw1⟩ rfl on1 (by simp only [maxLen]; omega) (by simp only []; omega) (Nat.zero_add _).symm (List.nil_append _).symm) ?_
          rintro _ _ _ ⟨p87, c87, rfl, rfl, rfl⟩
          refine stays ?_
          refine XPA.wrZ0 rfl rfl Gd.free (by kernel_rfl) (WrA.appP (tyrow rfl) rfl (tyrow rfl) rfl rfl zL rfl ⟨by omega, by simp only [maxLen]; omega, fl2, hrw2⟩ rfl on2 (by simp only [maxLen]; omega) (by simp only []; omega) rfl rfl) ?_
          rintro _ _ _ ⟨p92, c92, rfl, rfl, rfl⟩
          refine zu rfl rfl (Rd.fA rfl) ?_
          refine XPA.wrZ0 rfl rfl Gd.free (by kernel_rfl) (WrA.st (tyrow rfl) rfl) ?_
          rintro _ _ _ ⟨rfl, rfl, rfl⟩
          refine XPA.nil ?_; refine zT (zS (zS (zR (zO rfl (Rd.ldA rfl) ?_)))); refine XOA.frz (R := lst 56 12 (.slice p92 (pr.body.length + n) c92) _ _) zL lst_frz lst_frz_mono ?_
          rintro σ4 ⟨⟩ hf4 hs4
          have hwant : PrAt σ4 [.slice pv pr.vars.length cv, .slice p92 (pr.body.length + n) c92] ⟨pr.vars, pr.body ++ pr.body.take n⟩ :=
            ⟨_, _, rfl, (hv2.mono hs3 (fun _ _ h => h)).mono hs4 (fun _ _ h => h), ((Rows_.app hr23 hr13).mono (fun _ _ h => h.mono hs4)).psl (by rw [List.length_append, hlt]) (by rw [List.flatten_append]; exact hf4)⟩
          have hpq4 := hpq3.mono hs4
          have hs14 := ((hs1.trans hs2).trans hs3).trans hs4
          refine yC (fault_a σ4 _ _ hwant) ?_; refine yS ?_; refine zN (zT (zS (zR (yA ?_)))); refine zO rfl (Rd.neq rfl rfl) ?_; refine zN (zT ?_)
          by_cases hcw : checkP ⟨pr.vars, pr.body ++ pr.body.take n⟩ ≠ 0
          · rw [if_pos hcw] at hjoin
            rw [hjoin] at hcq haq
            have hcq : checkP ⟨pr.vars, pr.body ++ pr.body.take n⟩ = cq := hcq
            have haq : (-1 : Int) = aq := haq
            subst hcq haq
            refine XA.condT rfl (by first | rfl | exact decide_eq_true hcw) ?_; refine zS ?_
            refine XA.draw (by kernel_rfl) _ _ [] [(0, .rd), (1, .pu), (2, .wr), (3, .pu), (4, .pu)] (by kernel_rfl) (PH.sub.refl _) (Ent.sel (R := blk g13 _ _) zL (Ent.nil _)) ?_
            refine XPA.rd rfl rfl Gd.free (Rd.ldA rfl) ?_; refine zu rfl rfl Rd.mv ?_; refine XPA.wr0 rfl rfl Gd.free (WrA.cE (rF_t σ4 (checkP ⟨pr.vars, pr.body ++ pr.body.take n⟩) (-1)) rfl) ?_
            rintro _ _ _ ⟨_, ⟨rfl, rfl, rfl⟩, rfl⟩
            refine stays (XPA.cl ?_); refine zu rfl rfl (X.Rd.eqFaultT rfl rfl) ?_; refine zu rfl rfl Rd.asg ?_; refine XPA.nil ?_; refine zT (XA.ret (DA.thn_ret ?_))
            exact bodyA.ret (ResA.one rfl rfl) (Ent.nil _) ⟨rfl, hs14⟩
          · rw [if_neg hcw] at hjoin
            rw [hjoin] at hcq haq hpq
            have hcq : (0 : Int) = cq := hcq
            have hpq : (⟨pr.vars, pr.body ++ pr.body.take n⟩ : Pr) = pq := hpq
            subst hcq hpq
            refine XA.condF rfl (by first | rfl | exact decide_eq_false hcw) ?_; refine XA.skip (zT (zS (zR (yV ?_)))); refine yB ?_; refine yE ?_; refine yA ?_
            first | (refine zG ?_; refine zO rfl (Rd.ldA rfl) ?_) | refine zH ?_
            first | (refine zG ?_; refine zO rfl (Rd.ldA rfl) ?_) | refine zH ?_
            first | refine XOA.wanted rfl rfl ?_ | refine XOA.wq rfl rfl ?_
            refine zw rfl (WrA.cE (rsame_a σ4 _ _ _ _ hpq4 hwant) rfl) ?_
            rintro _ _ _ ⟨_, ⟨b, rfl, hb1, rfl, rfl⟩, rfl⟩
            refine XOA.cl ?_
            obtain rfl : b = true := hb1.2 rfl
            refine zO rfl zP ?_; refine yS ?_; refine zN (zT (XA.ret ?_))
            exact bodyA.ret (ResA.one rfl rfl) (Ent.nil _) ⟨rfl, hs14⟩
      · skip
        refine zR (yV ?_); refine yB ?_; refine zO rfl (Rd.neq rfl rfl) ?_; refine yA ?_
        first | refine gV ?_ | refine zH ?_
        first | refine gB ?_ | refine zH ?_
        first | (refine zG ?_; refine zO rfl (Rd.neq rfl rfl) ?_) | refine zH ?_
        refine zO rfl zP ?_; refine yA ?_
        first | refine gA ?_ | refine zH ?_
        first | (refine zG ?_; refine zO rfl (Rd.lenString (tyrow rfl) rfl rfl) ?_) | refine zH ?_
        first | (refine zG ?_; refine zO rfl (Rd.gtr rfl rfl) ?_) | refine zH ?_
        refine zO rfl zP ?_; refine zN (zT (yT rfl rfl (zS (zR (yS ?_))))); refine zN (zT (XA.ret (DA.thn_ret ?_)))
        exact bodyA.ret (ResA.one rfl rfl) (Ent.nil _) ⟨rfl, hs1.trans hs2⟩
    · skip
      refine zR (yV ?_); refine yB ?_; refine zO rfl (Rd.neq rfl rfl) ?_; refine yA ?_
      first | refine gV ?_ | refine zH ?_
      first | refine gB ?_ | refine zH ?_
      first | (refine zG ?_; refine zO rfl (Rd.neq rfl rfl) ?_) | refine zH ?_
      refine zO rfl zP ?_; refine yA ?_
      first | refine gA ?_ | refine zH ?_
      first | (refine zG ?_; refine zO rfl (Rd.lenString (tyrow rfl) rfl rfl) ?_) | refine zH ?_
      first | (refine zG ?_; refine zO rfl (Rd.gtr rfl rfl) ?_) | refine zH ?_
      refine zO rfl zP ?_; refine zN (zT (yT rfl rfl (zS (zR (yS ?_))))); refine zN (zT (XA.ret (DA.thn_ret ?_)))
      exact bodyA.ret (ResA.one rfl rfl) (Ent.nil _) ⟨rfl, hs1.trans hs2⟩
end Go.Proofs.YthefnnkmpcgcmaaDoor

namespace Go.Proofs.YthefnnkmpcgcmaaDoor
open Go X Go.RowKit
set_option maxHeartbeats 1000000
abbrev laid5 : List (String × DataW Unit) := [("math/bits.deBruijn32tab", Rows.laid_math_bits_deBruijn32tab), ("math/bits.deBruijn64tab", Rows.laid_math_bits_deBruijn64tab), ("internal/strconv.uint64pow10", Rows.laid_internal_strconv_uint64pow10), ("strconv.ErrRange", Rows.laid_strconv_ErrRange), ("strconv.ErrSyntax", Rows.laid_strconv_ErrSyntax)]
theorem star : "*" ++ "errors.errorString" = "*errors.errorString" := by decide
theorem errRow (u : TypeId) (h : Tryd.prog.typeName? 3 u = some "*errors.errorString") : u = 158 :=
  typeName_ptr_named (nm := "errors.errorString") (by rw [star]; kernel_rfl) (by kernel_rfl) (by decide) u (by rw [star]; exact h)
theorem var_le {W w : World} {n : String} {cs : Array Value} (hw : (ofHeap W.heap).le w.heap) (h : W.var? Tryd.prog n = some cs) : w.var? Tryd.prog n = some cs := by
  unfold World.var? at h ⊢
  cases hg : Tryd.prog.globalNamed n with
  | none => simp [hg] at h
  | some g =>
    simp only [hg, Option.bind_some] at h ⊢
    cases ho : W.heap[g]? with
    | none => simp [ho] at h
    | some o =>
      have := hw g o ho
      rw [this]
      rw [ho] at h
      exact h
theorem var_row {W : World} {n : String} {g : Nat} {cs : Array Value} (hg : Tryd.prog.globalNamed n = some g) (h : W.var? Tryd.prog n = some cs) : PRow (ofHeap W.heap) g 0 cs.toList := by
  unfold World.var? at h
  simp only [hg, Option.bind_some] at h
  split at h
  · rename_i cs' T fr he
    cases h
    exact ⟨_, _, _, he, by rw [List.drop_zero]; exact List.take_of_length_le (Nat.le_refl _)⟩
  · cases h
theorem list1 {α : Type} {l : List α} (h : l.length = 1) : ∃ a, l = [a] := by
  match l, h with
  | [a], _ => exact ⟨a, rfl⟩
theorem errField : ∃ f : Field, Tryd.prog.underlying 160 = some (.struct #[f]) ∧ f.type = 9 ∧ f.offset = 0 := by
  have hu : Tryd.prog.underlying 160 = some (.struct (Tryd.prog.fieldsOf 160)) := by kernel_rfl
  have hf : (Tryd.prog.fieldsOf 160).toList.map (fun f => (f.type, f.offset)) = [(9, 0)] := by kernel_rfl
  obtain ⟨f, hl⟩ := list1 (l := (Tryd.prog.fieldsOf 160).toList) (by simpa using congrArg List.length hf)
  rw [hl] at hf
  simp only [List.map_cons, List.map_nil, List.cons.injEq, Prod.mk.injEq, and_true] at hf
  refine ⟨f, ?_, hf.1, hf.2⟩
  rw [hu, ← Array.toArray_toList (xs := Tryd.prog.fieldsOf 160), hl]
theorem laid_facts {W : World} (h : laidMet Tryd.prog laid5 W) : Tab (ofHeap W.heap) ∧ Errs (ofHeap W.heap) := by
  have ht := Lib.tabIs_of_head (P := Tryd.prog) (W := W) (k := .u64) (zs := Lib.pow10Tab) (g := 0) (t := 148) (e := 136) (n := 20) (by kernel_rfl) (by kernel_rfl) (by kernel_rfl) (by kernel_rfl) (by kernel_rfl) (by kernel_rfl) h.tail.tail
  obtain ⟨f, hf1, hf2, hf3⟩ := errField
  obtain ⟨a1, s1, hv1, -, -, -⟩ := laid_sentinel h.tail.tail.tail (g := 2) (by kernel_rfl) (ti := 97) (by kernel_rfl) err_if.choose_spec errRow (te := 160) (by kernel_rfl) hf1 hf2 hf3 (by kernel_rfl) (by kernel_rfl) (by kernel_rfl)
  obtain ⟨a2, s2, hv2, -, -, -⟩ := laid_sentinel h.tail.tail.tail.tail (g := 1) (by kernel_rfl) (ti := 97) (by kernel_rfl) err_if.choose_spec errRow (te := 160) (by kernel_rfl) hf1 hf2 hf3 (by kernel_rfl) (by kernel_rfl) (by kernel_rfl)
  refine ⟨fun w hw => ?_, _, _, var_row (by kernel_rfl) hv2, .inr ⟨_, _, rfl⟩, var_row (by kernel_rfl) hv1, .inr ⟨_, _, rfl⟩⟩
  unfold Lib.TabIs at ht ⊢
  exact var_le hw ht
abbrev synS : ByteArray := { data := #[105, 110, 118, 97, 108, 105, 100, 32, 115, 121, 110, 116, 97, 120] }
abbrev rngS : ByteArray := { data := #[118, 97, 108, 117, 101, 32, 111, 117, 116, 32, 111, 102, 32, 114, 97, 110, 103, 101] }
noncomputable def low : Nat := (World.holding Tryd.prog default ⟨#[], #[], []⟩).heap.size
def setCells (cs : Array Value) : Obj → Obj
  | .cells _ t frozen => .cells cs t frozen
  | o => o
def tabOf (d : DataW Unit) : Array Value := match d with
  | .agg l => (l.map fun d => match d with | .lit (.int k z) => Value.int k z | _ => undef).toArray
  | _ => #[]
noncomputable def laidWorld (os : Os) : World :=
  let w0 := World.holding Tryd.prog os ⟨#[.cells #[.string synS] 160, .cells #[.string rngS] 160], #[], []⟩
  { w0 with heap := ((((w0.heap.modify 1 (setCells #[.iface 158 (.pointer (some ⟨low, 0, none⟩))])).modify 2 (setCells #[.iface 158 (.pointer (some ⟨low + 1, 0, none⟩))])).modify 0 (setCells (tabOf Rows.laid_internal_strconv_uint64pow10))).modify
      3 (setCells (tabOf Rows.laid_math_bits_deBruijn32tab))).modify 4 (setCells (tabOf Rows.laid_math_bits_deBruijn64tab)) }
set_option maxRecDepth 100000 in
theorem laidWorld_met (os : Os) (args : Array Value) : laidMet Tryd.prog laid5 ((laidWorld os).forCall (fun _ _ => 0) ⟨#[], args, []⟩).memory :=
  laidMet_of_run' 8 (by kernel_rfl) (by kernel_rfl)
end Go.Proofs.YthefnnkmpcgcmaaDoor

namespace Go.Proofs.YthefnnkmpcgcmaaDoor
open Go X Go.ChangeShapes Go.WideShapes Go.ChangeAt Go.RowKit
open Go.ChangeMaps (open_string shut_string)
set_option maxRecDepth 100000 in
theorem parseJoins_lifted (os : Os) (started : os.Started) (H : Type) (enc : TypeId × Value → H) :
    ReturnsInHanded {} Tryd.checked os 8 .any (fun w args => (Rows.parseJoinsSpec.pre enc Tryd.prog Tryd.f8 Rows.parseJoinsRow.domain false w args ∧ laidMet Tryd.prog laid5 w) ∧ sizedMet enc Tryd.prog Tryd.f8 (OpenSpec.ofChange Rows.parseJoinsSpec) false w args)
      (Rows.parseJoinsSpec.post enc Tryd.prog Tryd.f8 false true false false) := by
  refine returnsInHanded_of_change_and (C := Tryd.checked) (X := fun w _ => laidMet Tryd.prog laid5 w) (fun _ _ _ hh h => h.of_heap hh) Tryd.own started (by kernel_rfl) Tryd.func8
    (ChangeSpec.witness_at (enc := enc) (C := Tryd.checked) (os := os) (X := fun w _ => laidMet Tryd.prog laid5 w) false (laidWorld os) #[.string ⟨#[]⟩, .int .i64 0] 8 rfl (by kernel_rfl) (by kernel_rfl) (by kernel_rfl) (by kernel_rfl) (by kernel_rfl) (laidWorld_met os _)) ?_
  intro W base args ds gs before hval0 hW _ _ hL _
  have hval : ∀ (j : Nat) t v, Tryd.f8.params[j]? = some t → args[j]? = some v → Value.okWide Tryd.prog W .any base t v := hval0
  have hW' := hW
  obtain ⟨p, q, hA0, hV, rfl, hfz, hnd⟩ := hW
  have hA : DataW.TrodAll enc Tryd.prog W 0 (fun _ => true) true [9, 3] args.toList ds p := hA0
  obtain ⟨v0, v1, d0, d1, p0, p1, rfl, rfl, rfl, h0, h1⟩ := trodAll_two hA
  have hb : Tryd.prog.underlying 4 = some .bool := by kernel_rfl
  refine post_true (fid := 8) (tb := 4) Tryd.laidOut (by kernel_rfl) rfl rfl hb ?_ hW' (callsX_true ?_)
  · obtain ⟨rfl, rfl⟩ := trodVars_none hV; rfl
  · obtain ⟨s, rfl, -, -, -⟩ := open_string (by kernel_rfl : Tryd.prog.underlying 9 = some .string) (hval 0 _ v0 rfl rfl) h0
    obtain ⟨n1, e1, ln1, un1⟩ := (Dec.int (tyrow rfl) rfl).one (tyrow rfl) rfl (hval 1 _ v1 rfl rfl) h1 rInt_one
    simp only [List.cons.injEq, and_true] at e1
    subst e1
    obtain ⟨hT, hE⟩ := laid_facts hL
    exact joins_law _ s n1 ln1 un1 hT hE
theorem parseJoins_row : Rows.ParseJoinsSaid :=
  OpenClaim.holds_of_wide 8 Tryd.f8 rfl rfl rfl rfl rfl rfl rfl ⟨rfl, rfl, rfl, rfl, rfl⟩ rfl rfl rfl rfl rfl (by kernel_rfl) Tryd.func8 (by kernel_rfl)
    (of_decide_eq_true (by kernel_rfl)) (by unfold Func.isWrapper; first | (rw [if_pos (by decide +kernel)]; kernel_rfl) | (rw [if_neg (by decide +kernel)]; exact ⟨rfl, rfl⟩))
    (fun os started H enc _ => parseJoins_lifted os started H enc)
theorem parseJoins_holds : Rows.ParseJoinsCardSaid :=
  Claim7.holds_tied_plain_at .later [] [.data, .data, .data, .sentinel, .sentinel] true (true, "9fbee17c67760fa0909904053e84e62a0a224b532630f95ef45ea5d0c49ecdd4") true
    parseJoins_row (fun _ h => by cases h) (by kernel_rfl) (fun _ h => by cases h) parseJoins_row_tie rfl ⟨rfl, rfl⟩ (by kernel_rfl) rfl
    (fun f fn hf hfn => by
      obtain rfl : f = 8 := Option.some.inj ((show Tryd.prog.funcNamed "overwinter/overwinterlaw.ParseJoins" = some 8 by kernel_rfl).symm.trans hf) |>.symm
      obtain rfl : fn = Tryd.f8 := (Option.some.inj (Tryd.func8.symm.trans hfn)).symm
      exact ⟨by kernel_rfl, fun j t ht => by
        have hm : t ∈ [9, 3] := by simpa using Array.mem_of_getElem? ht
        have hall : ([9, 3].all fun u => !Tryd.prog.wantsStandIn u) = true := by kernel_rfl
        exact (show Tryd.prog.wantsStandIn t = false by simpa using List.all_eq_true.1 hall t hm)⟩)
    (by kernel_rfl)
end Go.Proofs.YthefnnkmpcgcmaaDoor

