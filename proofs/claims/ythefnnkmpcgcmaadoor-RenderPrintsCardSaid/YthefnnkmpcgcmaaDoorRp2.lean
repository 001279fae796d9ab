/- Part 2 of 4 of what the claim needs: Cd, CdJ, CdK, CdM, CdN, CdO, CdP, CdQ, CdR, CdT, CdU, CdV, CdW, CdX, Px, Sh, Ta. -/
import Derived.Test.YthefnnkmpcgcmaaDoorRp1
import Derived.Recover
import Derived.Shelf.LaysM
import Derived.Shelf.LaysC
import Derived.Shelf.Strconv.Itoa4
import Derived.Shelf.Strconv.ParseIntPublic10
import Derived.Test.YthefnnkmpcgcmaaDoorProg
import Derived.Laws.Strings2
import Derived.Lib.ParseIntBTie
import Derived.Laws.Concat
namespace Go.Proofs.YthefnnkmpcgcmaaDoor
open Go X
set_option maxHeartbeats 1000000
theorem parts_a (σ : PH) (op : Int) : CallsA Tryd.prog 63 #[i64 op] σ [] (RetA fun v σ' Γ' => v = i64 (partsOf op) ∧ σ = σ' ∧ Γ' = []) := by
  by_cases h0 : op < 1
  · 
    refine enterA1 Tryd.func63 rfl rfl rfl ?_
    refine zS (zR (zO rfl Rd.asg ?_)); refine zN (zT (zS (zS (zR (zA rfl ?_))))); refine zO rfl (Rd.lss rfl rfl) ?_; refine zA rfl ?_
    first | (refine zG ?_; refine zA rfl ?_) | refine zH ?_
    first | (refine zG ?_; refine zO rfl (Rd.gtr rfl rfl) ?_) | refine zH ?_
    refine zO rfl zP ?_; refine zN (zT (XA.condT rfl rfl (zS (zR (zO rfl Rd.asg ?_))))); refine zN (zT (XA.ret (DA.thn_ret ?_)))
    refine bodyA.ret (ResA.one rfl rfl) (Ent.refl _) ⟨?_, rfl, rfl⟩
    rw [partsOf, if_neg (by omega), if_neg (by omega), if_neg (by omega)]
  · 
    refine enterA1 Tryd.func63 rfl rfl rfl ?_
    refine zS (zR (zO rfl Rd.asg ?_)); refine zN (zT (zS (zS (zR (zA rfl ?_))))); refine zO rfl (Rd.lss rfl rfl) ?_; refine zA rfl ?_
    first | (refine zG ?_; refine zA rfl ?_) | refine zH ?_
    first | (refine zG ?_; refine zO rfl (Rd.gtr rfl rfl) ?_) | refine zH ?_
    refine zO rfl zP ?_; refine zN (zT ?_)
    refine XA.condp rfl (fun h1 => ?_) (fun h1 => ?_)
    · refine zS ?_
      refine zR (zO rfl Rd.asg ?_); refine zN (zT (XA.ret (DA.thn_ret ?_)))
      refine bodyA.ret (ResA.one rfl rfl) (Ent.refl _) ⟨?_, rfl, rfl⟩
      rw [partsOf, if_neg (by omega), if_neg (by omega), if_neg (by omega)]
    have hop : op = 1 ∨ op = 2 ∨ op = 3 ∨ op = 4 ∨ op = 5 ∨ op = 6 ∨ op = 7 ∨ op = 8 := by omega
    have hel : (List.toArray [i64 0, i64 0, i64 0, i64 1, i64 2, i64 2, i64 2, i64 2, i64 2])[op.toNat]? = some (i64 (partsOf op)) := by
      rcases hop with rfl | rfl | rfl | rfl | rfl | rfl | rfl | rfl <;> rfl
    refine XA.skip (zT (zS (zR ?_)))
    refine zO rfl (Rd.buildA (cs := [i64 0, i64 0, i64 0, i64 1, i64 2, i64 2, i64 2, i64 2, i64 2]) (fun _ _ => tyrow) rfl rfl rfl rfl (by kernel_rfl)) ?_
    refine zA rfl ?_
    refine zO rfl (by apply Rd.indexAgg; exact tyrow rfl; rfl; exact tyrow rfl; rfl; rfl; rfl; rfl; exact (by omega); exact hel) ?_
    refine zO rfl Rd.asg ?_; refine zN (zT (XA.ret ?_))
    exact bodyA.ret (ResA.one rfl rfl) (Ent.refl _) ⟨rfl, rfl, rfl⟩
theorem name_a (σ : PH) (s : ByteArray) (hs : s.size ≤ maxLen) : CallsA Tryd.prog 73 #[.string s] σ [] (RetA fun v σ' Γ' => v = .bool (nameOk s) ∧ σ = σ' ∧ Γ' = []) := by
  simp only [maxLen] at hs
  refine enterA1 Tryd.func73 rfl rfl rfl ?_
  refine zS (zR (zO rfl Rd.asg ?_)); refine zN (zT (zS (zS (zR (zA rfl ?_))))); refine zO rfl (Rd.lenString (tyrow rfl) rfl rfl) ?_; refine zA rfl ?_; refine zN (zT (XA.block ?_))
  refine XA.gen [(0, _), (2, _), (5, _), (6, _)] ⟨(by with_reducible (conv => lhs; whnf)), (by with_reducible (conv => lhs; whnf)), (by with_reducible (conv => lhs; whnf)), (by with_reducible (conv => lhs; whnf)), trivial⟩ (fun δ => ?_)
  dsimp only [List.foldl]
  refine XA.loop [(2, 3), (6, 19)] (fun k : Nat => [(6, i64 k)]) (fun k σ' Γ' => σ = σ' ∧ k ≤ s.size ∧ (∀ i, i < k → 97 ≤ byteAt s i ∧ byteAt s i ≤ 122) ∧ Γ' = []) (fun k => s.size - k) 0 (by exact ⟨rfl, trivial⟩) (Δ0 := _) ?_ (⟨rfl, Nat.zero_le _, by intro i hi; omega, rfl⟩) ?_
  · exact zE
  rintro k δ _ _ ⟨rfl, hk, hall, rfl⟩
  dsimp only [ovr, List.foldl]
  refine zS (zR (zO rfl (Rd.lss rfl rfl) ?_)); refine zN (zT (zS ?_))
  refine XA.condp rfl (fun hlt => ?_) (fun hlt => ?_)
  · have hlt : k < s.size := by omega
    have hb := byteAt_lt s k
    by_cases h1 : byteAt s k < 97
    · 
      refine XA.skip (zT (zS (XA.block (zS (zR (zA rfl ?_)))))); refine zO rfl Rd.asg ?_; refine zN (zT (zS (zR (zA rfl ?_)))); refine zA rfl ?_
      refine zO rfl (Rd.indexStr (tyrow rfl) rfl rfl rfl (by first | omega | decide | (simp; omega))) ?_
      refine zO rfl (Rd.lss rfl rfl) ?_; refine zA rfl ?_
      first | (refine zG ?_; refine zA rfl ?_) | refine zH ?_
      first | (refine zG ?_; refine zA rfl ?_) | refine zH ?_
      first | (refine zG ?_; refine zO rfl (Rd.indexStr (tyrow rfl) rfl rfl rfl (by first | omega | decide | (simp; omega))) ?_) | refine zH ?_
      first | (refine zG ?_; refine zO rfl (Rd.gtr rfl rfl) ?_) | refine zH ?_
      refine zO rfl zP ?_; refine zN (zT (XA.condT rfl rfl (zS (zR (zO rfl Rd.asg ?_))))); refine zN (zT (XA.ret (DA.inb_ret (DA.thn_ret (DA.thn_ret (DA.inb_ret (DA.thn_ret ?_)))))))
      refine bodyA.ret (ResA.one rfl rfl) (Ent.refl _) ⟨?_, rfl, rfl⟩
      have : nameOk s = false := decide_eq_false (fun h => by have := h.1 k hlt; omega)
      rw [this]
    · 
      refine XA.skip (zT (zS (XA.block (zS (zR (zA rfl ?_)))))); refine zO rfl Rd.asg ?_; refine zN (zT (zS (zR (zA rfl ?_)))); refine zA rfl ?_
      refine zO rfl (Rd.indexStr (tyrow rfl) rfl rfl rfl (by first | omega | decide | (simp; omega))) ?_
      refine zO rfl (Rd.lss rfl rfl) ?_; refine zA rfl ?_
      first | (refine zG ?_; refine zA rfl ?_) | refine zH ?_
      first | (refine zG ?_; refine zA rfl ?_) | refine zH ?_
      first | (refine zG ?_; refine zO rfl (Rd.indexStr (tyrow rfl) rfl rfl rfl (by first | omega | decide | (simp; omega))) ?_) | refine zH ?_
      first | (refine zG ?_; refine zO rfl (Rd.gtr rfl rfl) ?_) | refine zH ?_
      refine zO rfl zP ?_; refine zN (zT ?_)
      refine XA.condp rfl (fun h2 => ?_) (fun h2 => ?_)
      · refine zS ?_
        refine zR (zO rfl Rd.asg ?_); refine zN (zT (XA.ret (DA.inb_ret (DA.thn_ret (DA.thn_ret (DA.inb_ret (DA.thn_ret ?_)))))))
        refine bodyA.ret (ResA.one rfl rfl) (Ent.refl _) ⟨?_, rfl, rfl⟩
        have : nameOk s = false := decide_eq_false (fun h => by have := h.1 k hlt; omega)
        rw [this]
      have hnew : ∀ i, i < k + 1 → 97 ≤ byteAt s i ∧ byteAt s i ≤ 122 := fun i hi => by
        rcases Nat.lt_or_ge i k with h | h
        · exact hall i h
        · have : i = k := by omega
          subst this; omega
      refine XA.skip (DA.inb_normal (zT (zR (zO rfl zI ?_)))); refine zA rfl ?_; refine zN (zT ?_)
      refine ⟨(Keep.upd (Keep.upd (Keep.upd (Keep.upd (Keep.upd (Keep.upd (Keep.upd (Keep.upd (Keep.upd (Keep.upd (Keep.upd (Keep.upd (Keep.upd (Keep.upd (Keep.upd (Keep.upd (Keep.hav (Keep.hav (Keep.refl _ _) rfl) rfl) rfl) rfl) rfl) rfl) rfl) rfl) rfl) rfl) rfl) rfl) rfl) rfl) rfl) rfl) rfl) rfl), k + 1, _, zM, ?_, ⟨rfl, hlt, hnew, rfl⟩, (by omega)⟩
      · exact zE
  have hkn : k = s.size := by omega
  subst hkn
  by_cases h0 : s.size = 0
  · have hz : s = ⟨#[]⟩ := ByteArray.ext (Array.eq_empty_of_size_eq_zero h0)
    subst hz
    refine XA.exit (DA.thn_exit (DA.thn_exit (DA.inb_same (zT (zS (zR (zA rfl ?_))))))); refine zO rfl (Rd.neqs rfl rfl) ?_; refine zA rfl ?_
    first | (refine zG ?_; refine zA rfl ?_) | refine zH ?_
    first | (refine zG ?_; refine zO rfl (Rd.lenString (tyrow rfl) rfl rfl) ?_) | refine zH ?_
    first | (refine zG ?_; refine zO rfl (Rd.leq rfl rfl) ?_) | refine zH ?_
    refine zO rfl zP ?_; refine zO rfl Rd.asg ?_; refine zN (zT (XA.ret ?_))
    exact bodyA.ret (ResA.one rfl rfl) (Ent.refl _) ⟨rfl, rfl, rfl⟩
  · have hz : s ≠ ⟨#[]⟩ := fun e => h0 (by rw [e]; rfl)
    refine XA.exit (DA.thn_exit (DA.thn_exit (DA.inb_same (zT (zS (zR (zA rfl ?_))))))); refine zO rfl (Rd.neqs rfl rfl) ?_; refine zA rfl ?_
    first | (refine zG ?_; refine zA rfl ?_) | refine zH ?_
    first | (refine zG ?_; refine zO rfl (Rd.lenString (tyrow rfl) rfl rfl) ?_) | refine zH ?_
    first | (refine zG ?_; refine zO rfl (Rd.leq rfl rfl) ?_) | refine zH ?_
    refine zO rfl zP ?_; refine zO rfl Rd.asg ?_; refine zN (zT (XA.ret ?_))
    refine bodyA.ret (ResA.one rfl rfl) (Ent.refl _) ⟨?_, rfl, rfl⟩
    have : nameOk s = decide ((s.size : Int) ≤ 8) := by
      unfold nameOk
      rw [decide_eq_decide]
      constructor
      · intro h; omega
      · intro h; exact ⟨hall, by omega, by omega⟩
    rw [this]
end Go.Proofs.YthefnnkmpcgcmaaDoor

namespace Go.Proofs.YthefnnkmpcgcmaaDoor
open Go X
set_option maxHeartbeats 1000000
/-- A judge: what it knows of variables, and what is left, or a code. -/
def Judge (b : Nat) (vs : Value) (e : JE) : HP := fun m => ∃ l c, blk b [vs, i64 l, i64 c] 94 m ∧ match e with | .ok l' => l = l' ∧ c = 0 | .error d => c = d ∧ c ≠ 0
theorem sat1 {R : HP} {m : PH} (h : R m) : Sat [R] m := ⟨m, PH.none, h, trivial, PH.none_dis m, .refl m, PH.none_sub m⟩
theorem of_sat1 {R : HP} {m : PH} (mono : ∀ m m', R m → m.sub m' → R m') (h : Sat [R] m) : R m := by
  obtain ⟨m1, m2, a, -, -, b, -⟩ := h
  exact mono _ _ a b
theorem blk_mono {g : Nat} {l : List Value} {T : TypeId} : ∀ m m', blk g l T m → PH.sub m m' → blk g l T m' := fun _ _ h s => s _ _ h
theorem Judge.okO {b : Nat} {vs : Value} {l : Int} : ∀ m, Judge b vs (.ok l) m → ∃ _ : Unit, True ∧ Sat [blk b [vs, i64 l, i64 0] 94] m := by
  rintro m ⟨l', c, h, rfl, rfl⟩; exact ⟨(), trivial, sat1 h⟩
theorem Judge.errO {b : Nat} {vs : Value} {c : Int} : ∀ m, Judge b vs (.error c) m → ∃ l : Int, c ≠ 0 ∧ Sat [blk b [vs, i64 l, i64 c] 94] m := by
  rintro m ⟨l', c', h, rfl, h0⟩; exact ⟨l', h0, sat1 h⟩
theorem Judge.mkO {b : Nat} {vs : Value} {l : Int} : ∀ m, Sat [blk b [vs, i64 l, i64 0] 94] m → Judge b vs (.ok l) m := fun m h => ⟨l, 0, of_sat1 blk_mono h, rfl, rfl⟩
theorem Judge.mkE {b : Nat} {vs : Value} {l c : Int} (h0 : c ≠ 0) : ∀ m, Sat [blk b [vs, i64 l, i64 c] 94] m → Judge b vs (.error c) m := fun m h => ⟨l, c, of_sat1 blk_mono h, rfl, h0⟩
theorem fail_a (σ : PH) (b : Nat) (vs : Value) (e : JE) (is : Bool) (c : Int) (hc : c ≠ 0) :
    CallsA Tryd.prog 94 #[ptr b, .bool is, i64 c] σ [Judge b vs e] (RetA fun v σ' Γ' => v = .tuple #[] ∧ σ = σ' ∧ Γ' = [Judge b vs (e.fail is c)]) := by
  cases is with
  | false =>
    refine enterA3 Tryd.func94 rfl rfl rfl ?_
    refine zS (zR (zA rfl ?_)); refine zA rfl ?_
    first | (refine zG ?_; refine zA rfl ?_) | refine zH ?_
    first | (refine zG ?_; refine zO rfl (Rd.nilCheck rfl) ?_) | refine zH ?_
    first | (refine zG ?_; refine zV rfl rfl ?_) | refine zH ?_
    first | (refine zG ?_; refine zB rfl rfl (tyrow rfl) rfl ?_) | refine zH ?_
    first | (refine zG ?_; refine zO rfl (Rd.eql rfl rfl) ?_) | refine zH ?_
    refine zO rfl zP ?_; refine zN (zT (XA.condF rfl rfl (XA.skip ?_)))
    exact bodyA.normal (ResA.none rfl) (Ent.refl _) ⟨rfl, rfl, by rw [fail_false]⟩
  | true =>
    cases e with
    | ok l =>
      refine enterA3 Tryd.func94 rfl rfl rfl ?_
      refine zS (zR (zA rfl ?_)); refine zA rfl ?_
      first | (refine zG ?_; refine zA rfl ?_) | refine zH ?_
      first | refine XA.opn (R := Judge b vs (.ok l)) zL (Judge.okO) ?_ | refine XOA.opn (R := Judge b vs (.ok l)) zL (Judge.okO) ?_ | refine DA.opn (R := Judge b vs (.ok l)) zL (Judge.okO) ?_
      rintro ⟨⟩ -
      first | refine XA.cl ?_ | refine XOA.cl ?_ | refine DA.cl ?_
      first | (refine zG ?_; refine zO rfl (Rd.nilCheck rfl) ?_) | refine zH ?_
      first | (refine zG ?_; refine zV rfl rfl ?_) | refine zH ?_
      first | (refine zG ?_; refine zB rfl rfl (tyrow rfl) rfl ?_) | refine zH ?_
      first | (refine zG ?_; refine zO rfl (Rd.eql rfl rfl) ?_) | refine zH ?_
      refine zO rfl zP ?_; refine zN (zT (XA.condT rfl rfl (zR (zA rfl ?_)))); refine zA rfl ?_; refine zO rfl (Rd.nilCheck rfl) ?_; refine zV rfl rfl ?_
      refine XOA.wr0 rfl (WrA.st (tyrow rfl) rfl) ?_
      rintro _ _ _ ⟨rfl, rfl, rfl⟩
      refine zN ?_
      exact bodyA.normal (ResA.none rfl) (Ent.fold1 zE (Judge.mkE hc)) ⟨rfl, rfl, rfl⟩
    | error d =>
      refine enterA3 Tryd.func94 rfl rfl rfl ?_
      refine zS (zR (zA rfl ?_)); refine zA rfl ?_
      first | (refine zG ?_; refine zA rfl ?_) | refine zH ?_
      first | refine XA.opn (R := Judge b vs (.error d)) zL (Judge.errO) ?_ | refine XOA.opn (R := Judge b vs (.error d)) zL (Judge.errO) ?_ | refine DA.opn (R := Judge b vs (.error d)) zL (Judge.errO) ?_
      rintro l h0
      first | refine XA.cl ?_ | refine XOA.cl ?_ | refine DA.cl ?_
      first | (refine zG ?_; refine zO rfl (Rd.nilCheck rfl) ?_) | refine zH ?_
      first | (refine zG ?_; refine zV rfl rfl ?_) | refine zH ?_
      first | (refine zG ?_; refine zB rfl rfl (tyrow rfl) rfl ?_) | refine zH ?_
      first | (refine zG ?_; refine zO rfl (Rd.eql rfl rfl) ?_) | refine zH ?_
      refine zO rfl zP ?_; refine zN (zT (XA.condF rfl (decide_eq_false h0) (XA.skip ?_)))
      exact bodyA.normal (ResA.none rfl) (Ent.fold1 zE (Judge.mkE h0)) ⟨rfl, rfl, rfl⟩
theorem fail_okT (l c : Int) : JE.fail (.ok l) true c = .error c := rfl
def JE.isOk : JE → Bool | .ok _ => true | .error _ => false
def JE.in_ (e : JE) : Prop := ∀ l, e = .ok l → 0 ≤ l ∧ l ≤ 150
theorem one_a (σ : PH) (b : Nat) (vs : Value) (e : JE) (deep : Int) (hl : e.in_) :
    CallsA Tryd.prog 93 #[ptr b, i64 deep] σ [Judge b vs e] (RetA fun v σ' Γ' => v = .bool (e.one deep).isOk ∧ σ = σ' ∧ Γ' = [Judge b vs (e.one deep)]) := by
  refine enterA2 Tryd.func93 rfl rfl rfl ?_
  refine zS (zR (zO rfl Rd.asg ?_)); refine zN (zT (zS (zR (zA rfl ?_)))); refine zA rfl ?_; refine zO rfl (Rd.gtr rfl rfl) ?_
  refine XOA.wr0 rfl (WrA.cE (fail_a σ b vs e (decide (12 < deep)) 4 (by decide)) rfl) ?_
  rintro _ _ _ ⟨_, ⟨rfl, rfl, rfl⟩, rfl⟩
  refine XOA.cl ?_
  cases e with
  | error c =>
    rw [fail_err]
    refine zN (zT (zS (zR (zA rfl ?_)))); refine zA rfl ?_
    first | refine XA.opn (R := Judge b vs (.error c)) zL (Judge.errO) ?_ | refine XOA.opn (R := Judge b vs (.error c)) zL (Judge.errO) ?_ | refine DA.opn (R := Judge b vs (.error c)) zL (Judge.errO) ?_
    rintro l h0
    first | refine XA.cl ?_ | refine XOA.cl ?_ | refine DA.cl ?_
    refine zO rfl (Rd.nilCheck rfl) ?_; refine zV rfl rfl ?_; refine zB rfl rfl (tyrow rfl) rfl ?_; refine zO rfl (Rd.eql rfl rfl) ?_
    refine XOA.ent (Δ := [Judge b vs (.error c)]) (Ent.fold1 zE (Judge.mkE h0)) ?_
    refine XOA.wr0 rfl (WrA.cE (fail_a σ b vs (.error c) (decide (l = 0)) 3 (by decide)) rfl) ?_
    rintro _ _ _ ⟨_, ⟨rfl, rfl, rfl⟩, rfl⟩
    refine XOA.cl ?_
    rw [fail_err]
    refine zN (zT (zS (zR (zA rfl ?_))))
    first | refine XA.opn (R := Judge b vs (.error c)) zL (Judge.errO) ?_ | refine XOA.opn (R := Judge b vs (.error c)) zL (Judge.errO) ?_ | refine DA.opn (R := Judge b vs (.error c)) zL (Judge.errO) ?_
    rintro l2 h2
    first | refine XA.cl ?_ | refine XOA.cl ?_ | refine DA.cl ?_
    refine zO rfl (Rd.nilCheck rfl) ?_; refine zV rfl rfl ?_; refine zB rfl rfl (tyrow rfl) rfl ?_; refine zO rfl (by first | exact Rd.sbi rfl rfl | exact Rd.sub rfl rfl) ?_; refine zO rfl (Rd.nilCheck rfl) ?_; refine zV rfl rfl ?_
    refine XOA.wr0 rfl (WrA.st (tyrow rfl) rfl) ?_
    rintro _ _ _ ⟨rfl, rfl, rfl⟩
    refine zN (zT (zS (zR (zA rfl ?_)))); refine zO rfl (Rd.nilCheck rfl) ?_; refine zV rfl rfl ?_; refine zB rfl rfl (tyrow rfl) rfl ?_; refine zO rfl (Rd.eql rfl rfl) ?_; refine zO rfl Rd.asg ?_; refine zN (zT (XA.ret ?_))
    refine bodyA.ret (ResA.one rfl rfl) (Ent.fold1 zE (Judge.mkE h0)) ⟨?_, rfl, rfl⟩
    rw [decide_eq_false h0]; rfl
  | ok l =>
    obtain ⟨l0, l1⟩ := hl l rfl
    by_cases hd : 12 < deep
    · rw [decide_eq_true hd, fail_okT]
      refine zN (zT (zS (zR (zA rfl ?_)))); refine zA rfl ?_
      first | refine XA.opn (R := Judge b vs (.error 4)) zL (Judge.errO) ?_ | refine XOA.opn (R := Judge b vs (.error 4)) zL (Judge.errO) ?_ | refine DA.opn (R := Judge b vs (.error 4)) zL (Judge.errO) ?_
      rintro l2 -
      first | refine XA.cl ?_ | refine XOA.cl ?_ | refine DA.cl ?_
      refine zO rfl (Rd.nilCheck rfl) ?_; refine zV rfl rfl ?_; refine zB rfl rfl (tyrow rfl) rfl ?_; refine zO rfl (Rd.eql rfl rfl) ?_
      refine XOA.ent (Δ := [Judge b vs (.error 4)]) (Ent.fold1 zE (Judge.mkE (by decide))) ?_
      refine XOA.wr0 rfl (WrA.cE (fail_a σ b vs (.error 4) (decide (l2 = 0)) 3 (by decide)) rfl) ?_
      rintro _ _ _ ⟨_, ⟨rfl, rfl, rfl⟩, rfl⟩
      refine XOA.cl ?_
      rw [fail_err]
      refine zN (zT (zS (zR (zA rfl ?_))))
      first | refine XA.opn (R := Judge b vs (.error 4)) zL (Judge.errO) ?_ | refine XOA.opn (R := Judge b vs (.error 4)) zL (Judge.errO) ?_ | refine DA.opn (R := Judge b vs (.error 4)) zL (Judge.errO) ?_
      rintro l3 -
      first | refine XA.cl ?_ | refine XOA.cl ?_ | refine DA.cl ?_
      refine zO rfl (Rd.nilCheck rfl) ?_; refine zV rfl rfl ?_; refine zB rfl rfl (tyrow rfl) rfl ?_; refine zO rfl (by first | exact Rd.sbi rfl rfl | exact Rd.sub rfl rfl) ?_; refine zO rfl (Rd.nilCheck rfl) ?_; refine zV rfl rfl ?_
      refine XOA.wr0 rfl (WrA.st (tyrow rfl) rfl) ?_
      rintro _ _ _ ⟨rfl, rfl, rfl⟩
      refine zN (zT (zS (zR (zA rfl ?_)))); refine zO rfl (Rd.nilCheck rfl) ?_; refine zV rfl rfl ?_; refine zB rfl rfl (tyrow rfl) rfl ?_; refine zO rfl (Rd.eql rfl rfl) ?_; refine zO rfl Rd.asg ?_; refine zN (zT (XA.ret ?_))
      refine bodyA.ret (ResA.one rfl rfl) (Ent.fold1 (Γ := _) (Θ := [blk b [vs, _, i64 4] 94]) zE (Judge.mkE (by decide))) ⟨?_, rfl, ?_⟩
      · simp [JE.one, hd, JE.isOk]
      · simp [JE.one, hd]
    · rw [decide_eq_false hd, fail_false]
      refine zN (zT (zS (zR (zA rfl ?_)))); refine zA rfl ?_
      first | refine XA.opn (R := Judge b vs (.ok l)) zL (Judge.okO) ?_ | refine XOA.opn (R := Judge b vs (.ok l)) zL (Judge.okO) ?_ | refine DA.opn (R := Judge b vs (.ok l)) zL (Judge.okO) ?_
      rintro ⟨⟩ -
      first | refine XA.cl ?_ | refine XOA.cl ?_ | refine DA.cl ?_
      refine zO rfl (Rd.nilCheck rfl) ?_; refine zV rfl rfl ?_; refine zB rfl rfl (tyrow rfl) rfl ?_; refine zO rfl (Rd.eql rfl rfl) ?_
      refine XOA.ent (Δ := [Judge b vs (.ok l)]) (Ent.fold1 zE Judge.mkO) ?_
      refine XOA.wr0 rfl (WrA.cE (fail_a σ b vs (.ok l) (decide (l = 0)) 3 (by decide)) rfl) ?_
      rintro _ _ _ ⟨_, ⟨rfl, rfl, rfl⟩, rfl⟩
      refine XOA.cl ?_
      by_cases h0 : l = 0
      · rw [decide_eq_true h0, fail_okT]
        refine zN (zT (zS (zR (zA rfl ?_))))
        first | refine XA.opn (R := Judge b vs (.error 3)) zL (Judge.errO) ?_ | refine XOA.opn (R := Judge b vs (.error 3)) zL (Judge.errO) ?_ | refine DA.opn (R := Judge b vs (.error 3)) zL (Judge.errO) ?_
        rintro l3 -
        first | refine XA.cl ?_ | refine XOA.cl ?_ | refine DA.cl ?_
        refine zO rfl (Rd.nilCheck rfl) ?_; refine zV rfl rfl ?_; refine zB rfl rfl (tyrow rfl) rfl ?_; refine zO rfl (by first | exact Rd.sbi rfl rfl | exact Rd.sub rfl rfl) ?_; refine zO rfl (Rd.nilCheck rfl) ?_; refine zV rfl rfl ?_
        refine XOA.wr0 rfl (WrA.st (tyrow rfl) rfl) ?_
        rintro _ _ _ ⟨rfl, rfl, rfl⟩
        refine zN (zT (zS (zR (zA rfl ?_)))); refine zO rfl (Rd.nilCheck rfl) ?_; refine zV rfl rfl ?_; refine zB rfl rfl (tyrow rfl) rfl ?_; refine zO rfl (Rd.eql rfl rfl) ?_; refine zO rfl Rd.asg ?_; refine zN (zT (XA.ret ?_))
        refine bodyA.ret (ResA.one rfl rfl) (Ent.fold1 (Γ := _) (Θ := [blk b [vs, _, i64 3] 94]) zE (Judge.mkE (by decide))) ⟨?_, rfl, ?_⟩
        · simp [JE.one, hd, h0, JE.isOk]
        · simp [JE.one, hd, h0]
      · rw [decide_eq_false h0, fail_false]
        refine zN (zT (zS (zR (zA rfl ?_))))
        first | refine XA.opn (R := Judge b vs (.ok l)) zL (Judge.okO) ?_ | refine XOA.opn (R := Judge b vs (.ok l)) zL (Judge.okO) ?_ | refine DA.opn (R := Judge b vs (.ok l)) zL (Judge.okO) ?_
        rintro ⟨⟩ -
        first | refine XA.cl ?_ | refine XOA.cl ?_ | refine DA.cl ?_
        refine zO rfl (Rd.nilCheck rfl) ?_; refine zV rfl rfl ?_; refine zB rfl rfl (tyrow rfl) rfl ?_; refine zO rfl (by first | exact Rd.sbi rfl rfl | exact Rd.sub rfl rfl) ?_; refine zO rfl (Rd.nilCheck rfl) ?_; refine zV rfl rfl ?_
        refine XOA.wr0 rfl (WrA.st (tyrow rfl) rfl) ?_
        rintro _ _ _ ⟨rfl, rfl, rfl⟩
        refine zN (zT (zS (zR (zA rfl ?_)))); refine zO rfl (Rd.nilCheck rfl) ?_; refine zV rfl rfl ?_; refine zB rfl rfl (tyrow rfl) rfl ?_; refine zO rfl (Rd.eql rfl rfl) ?_; refine zO rfl Rd.asg ?_; refine zN (zT (XA.ret ?_))
        refine bodyA.ret (ResA.one rfl rfl) (Ent.fold1 (Θ := [blk b [vs, i64 (l - 1), i64 0] 94]) zE Judge.mkO) ⟨?_, rfl, ?_⟩
        · simp [JE.one, hd, h0, JE.isOk]
        · simp [JE.one, hd, h0]
end Go.Proofs.YthefnnkmpcgcmaaDoor

namespace Go.Proofs.YthefnnkmpcgcmaaDoor
open Go X
set_option maxHeartbeats 1000000
theorem Judge.any {b : Nat} {vs : Value} {e : JE} : ∀ m, Judge b vs e m → ∃ x : Int × Int, (∀ m', Sat [blk b [vs, i64 x.1, i64 x.2] 94] m' → Judge b vs e m') ∧ Sat [blk b [vs, i64 x.1, i64 x.2] 94] m := by
  rintro m ⟨l', c, h, h0⟩
  exact ⟨(l', c), fun m' h' => ⟨l', c, of_sat1 blk_mono h', h0⟩, sat1 h⟩
theorem Judge.anyD {b : Nat} {vs : Value} {e : JE} : ∀ m, Judge b vs e m → ∃ x : Int × Int, (decide (x.2 = 0) = e.isOk ∧ ∀ m', Sat [blk b [vs, i64 x.1, i64 x.2] 94] m' → Judge b vs e m') ∧ Sat [blk b [vs, i64 x.1, i64 x.2] 94] m := by
  rintro m ⟨l', c, h, h0⟩
  refine ⟨(l', c), ⟨?_, fun m' h' => ⟨l', c, of_sat1 blk_mono h', h0⟩⟩, sat1 h⟩
  cases e with
  | ok l => obtain ⟨-, rfl⟩ := h0; rfl
  | error d => obtain ⟨-, h0⟩ := h0; exact decide_eq_false h0
theorem named_a (σ : PH) (b : Nat) (p : Option Addr) (n c : Nat) (e : JE) (v : Int) (is : Bool) :
    CallsA Tryd.prog 96 #[ptr b, i64 v, .bool is] σ [Judge b (.slice p n c) e] (RetA fun r σ' Γ' => r = .tuple #[] ∧ σ = σ' ∧ Γ' = [Judge b (.slice p n c) (e.named n v is)]) := by
  cases is with
  | false =>
    refine enterA3 Tryd.func96 rfl rfl rfl ?_
    refine zS (zR (zA rfl ?_)); refine zA rfl ?_; refine zA rfl ?_
    first | (refine zG ?_; refine zA rfl ?_) | refine zH ?_
    first | (refine zG ?_; refine zO rfl (Rd.lss rfl rfl) ?_) | refine zH ?_
    first | (refine zG ?_; refine zA rfl ?_) | refine zH ?_
    first | (refine zG ?_; refine zA rfl ?_) | refine zH ?_
    first | (refine zG ?_; refine zA rfl ?_) | refine zH ?_
    first | (refine zG ?_; refine zO rfl (Rd.nilCheck rfl) ?_) | refine zH ?_
    first | (refine zG ?_; refine zV rfl rfl ?_) | refine zH ?_
    first | (refine zG ?_; refine zB rfl rfl (tyrow rfl) rfl ?_) | refine zH ?_
    first | (refine zG ?_; refine zO rfl (Rd.lenSlice (tyrow rfl) rfl rfl) ?_) | refine zH ?_
    first | (refine zG ?_; refine zO rfl (Rd.geq rfl rfl) ?_) | refine zH ?_
    first | (refine zG ?_; refine zO rfl zP ?_) | refine zH ?_
    refine zO rfl zP ?_
    refine XOA.wr0 rfl (WrA.cE (fail_a σ b _ e false 1 (by decide)) rfl) ?_
    rintro _ _ _ ⟨_, ⟨rfl, rfl, rfl⟩, rfl⟩
    refine XOA.cl ?_; refine zN (zT (zR (zA rfl ?_))); refine zA rfl ?_; refine zO rfl zJ ?_; refine zA rfl ?_
    first | (refine zG ?_; refine zA rfl ?_) | refine zH ?_
    first | (refine zG ?_; refine zO rfl (Rd.neq rfl rfl) ?_) | refine zH ?_
    refine zO rfl zP ?_
    refine XOA.wr0 rfl (WrA.cE (fail_a σ b _ _ (decide (v ≠ 0)) 5 (by decide)) rfl) ?_
    rintro _ _ _ ⟨_, ⟨rfl, rfl, rfl⟩, rfl⟩
    refine XOA.cl ?_; refine zN ?_
    exact bodyA.normal (ResA.none rfl) (Ent.refl _) ⟨rfl, rfl, rfl⟩
  | true =>
    by_cases h0 : v < 0
    · 
      refine enterA3 Tryd.func96 rfl rfl rfl ?_
      refine zS (zR (zA rfl ?_)); refine zA rfl ?_; refine zA rfl ?_
      first | (refine zG ?_; refine zA rfl ?_) | refine zH ?_
      first | (refine zG ?_; refine zO rfl (Rd.lss rfl rfl) ?_) | refine zH ?_
      first | (refine zG ?_; refine zA rfl ?_) | refine zH ?_
      first | (refine zG ?_; refine zA rfl ?_) | refine zH ?_
      first | (refine zG ?_; refine zA rfl ?_) | refine zH ?_
      first | (refine zG ?_; refine zO rfl (Rd.nilCheck rfl) ?_) | refine zH ?_
      first | (refine zG ?_; refine zV rfl rfl ?_) | refine zH ?_
      first | (refine zG ?_; refine zB rfl rfl (tyrow rfl) rfl ?_) | refine zH ?_
      first | (refine zG ?_; refine zO rfl (Rd.lenSlice (tyrow rfl) rfl rfl) ?_) | refine zH ?_
      first | (refine zG ?_; refine zO rfl (Rd.geq rfl rfl) ?_) | refine zH ?_
      first | (refine zG ?_; refine zO rfl zP ?_) | refine zH ?_
      refine zO rfl zP ?_
      refine XOA.wr0 rfl (WrA.cE (fail_a σ b _ e true 1 (by decide)) rfl) ?_
      rintro _ _ _ ⟨_, ⟨rfl, rfl, rfl⟩, rfl⟩
      refine XOA.cl ?_; refine zN (zT (zR (zA rfl ?_))); refine zA rfl ?_; refine zO rfl zJ ?_; refine zA rfl ?_
      first | (refine zG ?_; refine zA rfl ?_) | refine zH ?_
      first | (refine zG ?_; refine zO rfl (Rd.neq rfl rfl) ?_) | refine zH ?_
      refine zO rfl zP ?_
      refine XOA.wr0 rfl (WrA.cE (fail_a σ b _ _ false 5 (by decide)) rfl) ?_
      rintro _ _ _ ⟨_, ⟨rfl, rfl, rfl⟩, rfl⟩
      refine XOA.cl ?_; refine zN ?_
      refine bodyA.normal (ResA.none rfl) (Ent.refl _) ⟨rfl, rfl, ?_⟩
      have : decide (v < 0 ∨ (n : Int) ≤ v) = true := decide_eq_true (Or.inl h0)
      simp only [JE.named, this, Bool.true_and, Bool.not_true, Bool.false_and]
    · 
      refine enterA3 Tryd.func96 rfl rfl rfl ?_
      refine zS (zR (zA rfl ?_)); refine zA rfl ?_; refine zA rfl ?_
      first | (refine zG ?_; refine zA rfl ?_) | refine zH ?_
      first | (refine zG ?_; refine zO rfl (Rd.lss rfl rfl) ?_) | refine zH ?_
      first | (refine zG ?_; refine zA rfl ?_) | refine zH ?_
      first | (refine zG ?_; refine zA rfl ?_) | refine zH ?_
      first | (refine zG ?_; refine zA rfl ?_) | refine zH ?_
      first | refine XA.opn (R := Judge b (.slice p n c) e) zL (Judge.any) ?_ | refine XOA.opn (R := Judge b (.slice p n c) e) zL (Judge.any) ?_ | refine DA.opn (R := Judge b (.slice p n c) e) zL (Judge.any) ?_
      rintro ⟨l, cc⟩ hf
      first | refine XA.cl ?_ | refine XOA.cl ?_ | refine DA.cl ?_
      first | (refine zG ?_; refine zO rfl (Rd.nilCheck rfl) ?_) | refine zH ?_
      first | (refine zG ?_; refine zV rfl rfl ?_) | refine zH ?_
      first | (refine zG ?_; refine zB rfl rfl (tyrow rfl) rfl ?_) | refine zH ?_
      first | (refine zG ?_; refine zO rfl (Rd.lenSlice (tyrow rfl) rfl rfl) ?_) | refine zH ?_
      first | (refine zG ?_; refine zO rfl (Rd.geq rfl rfl) ?_) | refine zH ?_
      first | (refine zG ?_; refine zO rfl zP ?_) | refine zH ?_
      refine zO rfl zP ?_
      refine XOA.ent (Δ := [Judge b (.slice p n c) e]) (Ent.fold1 zE hf) ?_
      refine XOA.wr0 rfl (WrA.cE (fail_a σ b _ e (decide ((n : Int) ≤ v)) 1 (by decide)) rfl) ?_
      rintro _ _ _ ⟨_, ⟨rfl, rfl, rfl⟩, rfl⟩
      refine XOA.cl ?_; refine zN (zT (zR (zA rfl ?_))); refine zA rfl ?_; refine zO rfl zJ ?_; refine zA rfl ?_
      first | (refine zG ?_; refine zA rfl ?_) | refine zH ?_
      first | (refine zG ?_; refine zO rfl (Rd.neq rfl rfl) ?_) | refine zH ?_
      refine zO rfl zP ?_
      refine XOA.wr0 rfl (WrA.cE (fail_a σ b _ _ false 5 (by decide)) rfl) ?_
      rintro _ _ _ ⟨_, ⟨rfl, rfl, rfl⟩, rfl⟩
      refine XOA.cl ?_; refine zN ?_
      refine bodyA.normal (ResA.none rfl) (Ent.refl _) ⟨rfl, rfl, ?_⟩
      have : decide (v < 0 ∨ (n : Int) ≤ v) = decide ((n : Int) ≤ v) := by rw [decide_eq_decide]; omega
      simp only [JE.named, this, Bool.true_and, Bool.not_true, Bool.false_and]
theorem none_a (σ : PH) (cs : List Value) (x : Ex) (hx : ExAt σ cs x) : CallsA Tryd.prog 95 #[.agg cs.toArray] σ [] (RetA fun v σ' Γ' => v = .bool (noneX x) ∧ σ = σ' ∧ Γ' = []) := by
  obtain ⟨p, c, rfl, -, -, -, -⟩ := hx.inv
  by_cases h1 : x.op = 0
  · by_cases h2 : x.v = 0
    · by_cases h3 : x.n = 0
      · 
        refine enterA1 Tryd.func95 rfl rfl rfl ?_
        refine zS (zR ?_)
        refine XOA.wr0 rfl WrA.bx ?_
        rintro _ _ _ ⟨g1, rfl, rfl, rfl⟩
        refine zO rfl Rd.asg ?_; refine zN (zT (zS (zR (zV rfl rfl ?_)))); refine zB rfl rfl (tyrow rfl) rfl ?_; refine zO rfl (Rd.eql rfl rfl) ?_; refine zA rfl ?_
        first | (refine zG ?_; refine zV rfl rfl ?_) | refine zH ?_
        first | (refine zG ?_; refine zB rfl rfl (tyrow rfl) rfl ?_) | refine zH ?_
        first | (refine zG ?_; refine zO rfl (Rd.eql rfl rfl) ?_) | refine zH ?_
        refine zO rfl zP ?_; refine zA rfl ?_
        first | (refine zG ?_; refine zV rfl rfl ?_) | refine zH ?_
        first | (refine zG ?_; refine zB rfl rfl (tyrow rfl) rfl ?_) | refine zH ?_
        first | (refine zG ?_; refine zO rfl (Rd.eql rfl rfl) ?_) | refine zH ?_
        refine zO rfl zP ?_; refine zA rfl ?_
        first | (refine zG ?_; refine zV rfl rfl ?_) | refine zH ?_
        first | (refine zG ?_; refine zB rfl rfl (tyrow rfl) rfl ?_) | refine zH ?_
        first | (refine zG ?_; refine zO rfl (Rd.lenSlice (tyrow rfl) rfl rfl) ?_) | refine zH ?_
        first | (refine zG ?_; refine zO rfl (Rd.eql rfl rfl) ?_) | refine zH ?_
        refine zO rfl zP ?_; refine zO rfl Rd.asg ?_; refine zN (zT (XA.ret ?_))
        refine bodyA.ret (ResA.one rfl rfl) (Ent.nil _) ⟨?_, rfl, rfl⟩
        simp [noneX, h1, h2, h3]
      · 
        refine enterA1 Tryd.func95 rfl rfl rfl ?_
        refine zS (zR ?_)
        refine XOA.wr0 rfl WrA.bx ?_
        rintro _ _ _ ⟨g1, rfl, rfl, rfl⟩
        refine zO rfl Rd.asg ?_; refine zN (zT (zS (zR (zV rfl rfl ?_)))); refine zB rfl rfl (tyrow rfl) rfl ?_; refine zO rfl (Rd.eql rfl rfl) ?_; refine zA rfl ?_
        first | (refine zG ?_; refine zV rfl rfl ?_) | refine zH ?_
        first | (refine zG ?_; refine zB rfl rfl (tyrow rfl) rfl ?_) | refine zH ?_
        first | (refine zG ?_; refine zO rfl (Rd.eql rfl rfl) ?_) | refine zH ?_
        refine zO rfl zP ?_; refine zA rfl ?_
        first | (refine zG ?_; refine zV rfl rfl ?_) | refine zH ?_
        first | (refine zG ?_; refine zB rfl rfl (tyrow rfl) rfl ?_) | refine zH ?_
        first | (refine zG ?_; refine zO rfl (Rd.eql rfl rfl) ?_) | refine zH ?_
        refine zO rfl zP ?_; refine zA rfl ?_
        first | (refine zG ?_; refine zV rfl rfl ?_) | refine zH ?_
        first | (refine zG ?_; refine zB rfl rfl (tyrow rfl) rfl ?_) | refine zH ?_
        first | (refine zG ?_; refine zO rfl (Rd.lenSlice (tyrow rfl) rfl rfl) ?_) | refine zH ?_
        first | (refine zG ?_; refine zO rfl (Rd.eql rfl rfl) ?_) | refine zH ?_
        refine zO rfl zP ?_; refine zO rfl Rd.asg ?_; refine zN (zT (XA.ret ?_))
        exact bodyA.ret (ResA.one rfl rfl) (Ent.nil _) ⟨by simp [noneX, h3], rfl, rfl⟩
    · 
      refine enterA1 Tryd.func95 rfl rfl rfl ?_
      refine zS (zR ?_)
      refine XOA.wr0 rfl WrA.bx ?_
      rintro _ _ _ ⟨g1, rfl, rfl, rfl⟩
      refine zO rfl Rd.asg ?_; refine zN (zT (zS (zR (zV rfl rfl ?_)))); refine zB rfl rfl (tyrow rfl) rfl ?_; refine zO rfl (Rd.eql rfl rfl) ?_; refine zA rfl ?_
      first | (refine zG ?_; refine zV rfl rfl ?_) | refine zH ?_
      first | (refine zG ?_; refine zB rfl rfl (tyrow rfl) rfl ?_) | refine zH ?_
      first | (refine zG ?_; refine zO rfl (Rd.eql rfl rfl) ?_) | refine zH ?_
      refine zO rfl zP ?_; refine zA rfl ?_
      first | (refine zG ?_; refine zV rfl rfl ?_) | refine zH ?_
      first | (refine zG ?_; refine zB rfl rfl (tyrow rfl) rfl ?_) | refine zH ?_
      first | (refine zG ?_; refine zO rfl (Rd.eql rfl rfl) ?_) | refine zH ?_
      refine zO rfl zP ?_; refine zA rfl ?_
      first | (refine zG ?_; refine zV rfl rfl ?_) | refine zH ?_
      first | (refine zG ?_; refine zB rfl rfl (tyrow rfl) rfl ?_) | refine zH ?_
      first | (refine zG ?_; refine zO rfl (Rd.lenSlice (tyrow rfl) rfl rfl) ?_) | refine zH ?_
      first | (refine zG ?_; refine zO rfl (Rd.eql rfl rfl) ?_) | refine zH ?_
      refine zO rfl zP ?_; refine zO rfl Rd.asg ?_; refine zN (zT (XA.ret ?_))
      exact bodyA.ret (ResA.one rfl rfl) (Ent.nil _) ⟨by simp [noneX, h2], rfl, rfl⟩
  · 
    refine enterA1 Tryd.func95 rfl rfl rfl ?_
    refine zS (zR ?_)
    refine XOA.wr0 rfl WrA.bx ?_
    rintro _ _ _ ⟨g1, rfl, rfl, rfl⟩
    refine zO rfl Rd.asg ?_; refine zN (zT (zS (zR (zV rfl rfl ?_)))); refine zB rfl rfl (tyrow rfl) rfl ?_; refine zO rfl (Rd.eql rfl rfl) ?_; refine zA rfl ?_
    first | (refine zG ?_; refine zV rfl rfl ?_) | refine zH ?_
    first | (refine zG ?_; refine zB rfl rfl (tyrow rfl) rfl ?_) | refine zH ?_
    first | (refine zG ?_; refine zO rfl (Rd.eql rfl rfl) ?_) | refine zH ?_
    refine zO rfl zP ?_; refine zA rfl ?_
    first | (refine zG ?_; refine zV rfl rfl ?_) | refine zH ?_
    first | (refine zG ?_; refine zB rfl rfl (tyrow rfl) rfl ?_) | refine zH ?_
    first | (refine zG ?_; refine zO rfl (Rd.eql rfl rfl) ?_) | refine zH ?_
    refine zO rfl zP ?_; refine zA rfl ?_
    first | (refine zG ?_; refine zV rfl rfl ?_) | refine zH ?_
    first | (refine zG ?_; refine zB rfl rfl (tyrow rfl) rfl ?_) | refine zH ?_
    first | (refine zG ?_; refine zO rfl (Rd.lenSlice (tyrow rfl) rfl rfl) ?_) | refine zH ?_
    first | (refine zG ?_; refine zO rfl (Rd.eql rfl rfl) ?_) | refine zH ?_
    refine zO rfl zP ?_; refine zO rfl Rd.asg ?_; refine zN (zT (XA.ret ?_))
    exact bodyA.ret (ResA.one rfl rfl) (Ent.nil _) ⟨by simp [noneX, h1], rfl, rfl⟩
theorem chas_a (σ : PH) (op : Int) : CallsA Tryd.prog 51 #[i64 op] σ [] (RetA fun v σ' Γ' => v = .tuple #[.bool (needE op), .bool (needF op), .bool (needV op), .bool (needB op), .bool (needO op)] ∧ σ = σ' ∧ Γ' = []) := by
  refine enterA1 Tryd.func51 rfl rfl rfl ?_
  refine zS (zR (zO rfl Rd.asg ?_)); refine zO rfl Rd.asg ?_; refine zO rfl Rd.asg ?_; refine zO rfl Rd.asg ?_; refine zO rfl Rd.asg ?_; refine zN (zT (zS (zS (zR (zA rfl ?_))))); refine zN (zT (XA.block (zS (zR (zO rfl (Rd.eql rfl rfl) ?_))))); refine zO rfl Rd.asg ?_; refine zN (zT ?_)
  refine XA.condp rfl (fun h1 => ?_) (fun h1 => ?_)
  · refine zS ?_
    refine zR (zO rfl Rd.asg ?_); refine zO rfl Rd.asg ?_; refine zO rfl Rd.asg ?_; refine zO rfl Rd.asg ?_; refine zO rfl Rd.asg ?_; refine zN (zT (XA.ret (DA.inb_ret (DA.thn_ret ?_))))
    subst h1
    exact bodyA.ret (ResA.five rfl rfl rfl rfl rfl rfl) (Ent.refl _) ⟨rfl, rfl, rfl⟩
  refine zS (zR (zO rfl (Rd.eql rfl rfl) ?_)); refine zO rfl Rd.asg ?_; refine zN (zT ?_)
  refine XA.condp rfl (fun h2 => ?_) (fun h2 => ?_)
  · refine zS ?_
    refine zR (zO rfl Rd.asg ?_); refine zO rfl Rd.asg ?_; refine zO rfl Rd.asg ?_; refine zO rfl Rd.asg ?_; refine zO rfl Rd.asg ?_; refine zN (zT (XA.ret (DA.inb_ret (DA.thn_ret ?_))))
    subst h2
    exact bodyA.ret (ResA.five rfl rfl rfl rfl rfl rfl) (Ent.refl _) ⟨rfl, rfl, rfl⟩
  refine zS (zR (zO rfl (Rd.eql rfl rfl) ?_)); refine zO rfl Rd.asg ?_; refine zN (zT ?_)
  refine XA.condp rfl (fun h3 => ?_) (fun h3 => ?_)
  · refine zS ?_
    refine zR (zO rfl Rd.asg ?_); refine zO rfl Rd.asg ?_; refine zO rfl Rd.asg ?_; refine zO rfl Rd.asg ?_; refine zO rfl Rd.asg ?_; refine zN (zT (XA.ret (DA.inb_ret (DA.thn_ret ?_))))
    subst h3
    exact bodyA.ret (ResA.five rfl rfl rfl rfl rfl rfl) (Ent.refl _) ⟨rfl, rfl, rfl⟩
  refine zS (zR (zO rfl (Rd.eql rfl rfl) ?_)); refine zO rfl Rd.asg ?_; refine zN (zT ?_)
  refine XA.condp rfl (fun h4 => ?_) (fun h4 => ?_)
  · refine zS ?_
    refine zR (zO rfl Rd.asg ?_); refine zO rfl Rd.asg ?_; refine zO rfl Rd.asg ?_; refine zO rfl Rd.asg ?_; refine zO rfl Rd.asg ?_; refine zN (zT (XA.ret (DA.inb_ret (DA.thn_ret ?_))))
    subst h4
    exact bodyA.ret (ResA.five rfl rfl rfl rfl rfl rfl) (Ent.refl _) ⟨rfl, rfl, rfl⟩
  refine zS (zR (zO rfl (Rd.eql rfl rfl) ?_)); refine zO rfl Rd.asg ?_; refine zN (zT ?_)
  refine XA.condp rfl (fun h5 => ?_) (fun h5 => ?_)
  · refine zS ?_
    refine zR (zO rfl Rd.asg ?_); refine zO rfl Rd.asg ?_; refine zO rfl Rd.asg ?_; refine zO rfl Rd.asg ?_; refine zO rfl Rd.asg ?_; refine zN (zT (XA.ret (DA.inb_ret (DA.thn_ret ?_))))
    subst h5
    exact bodyA.ret (ResA.five rfl rfl rfl rfl rfl rfl) (Ent.refl _) ⟨rfl, rfl, rfl⟩
  refine zS (zR (zO rfl (Rd.eql rfl rfl) ?_)); refine zO rfl Rd.asg ?_; refine zN (zT ?_)
  refine XA.condp rfl (fun h6 => ?_) (fun h6 => ?_)
  · refine zS ?_
    refine zR (zO rfl Rd.asg ?_); refine zO rfl Rd.asg ?_; refine zO rfl Rd.asg ?_; refine zO rfl Rd.asg ?_; refine zO rfl Rd.asg ?_; refine zN (zT (XA.ret (DA.inb_ret (DA.thn_ret ?_))))
    subst h6
    exact bodyA.ret (ResA.five rfl rfl rfl rfl rfl rfl) (Ent.refl _) ⟨rfl, rfl, rfl⟩
  refine XA.skip (DA.inb_normal (zT (XA.ret ?_)))
  refine bodyA.ret (ResA.five rfl rfl rfl rfl rfl rfl) (Ent.refl _) ⟨?_, rfl, rfl⟩
  simp [needE, needF, needV, needB, needO, h1, h2, h3, h4, h5, h6]
theorem in_of {F : Int → JE → JE} (hF : Down F) {e : JE} (h : e.in_) (d : Int) : (F d e).in_ := by
  cases e with
  | error c => rw [hF.err]; intro l hl; cases hl
  | ok a =>
    intro l hl
    obtain ⟨h1, h2⟩ := h a rfl
    obtain ⟨h3, h4, -⟩ := hF.ok _ _ _ h1 hl
    omega
/-- What is to be shown of an expression. -/
def ExprOK (σ : PH) (x : Ex) : Prop := ∀ (cs : List Value) (b : Nat) (p : Option Addr) (n c : Nat) (e : JE) (deep : Int), ExAt σ cs x → e.in_ → 0 ≤ deep → deep ≤ 1000 →
  CallsA Tryd.prog 97 #[ptr b, .agg cs.toArray, i64 deep] σ [Judge b (.slice p n c) e] (RetA fun r σ' Γ' => r = .tuple #[] ∧ σ = σ' ∧ Γ' = [Judge b (.slice p n c) (exE n deep x e)])
theorem isOk_false {e : JE} (h : e.isOk = false) : ∃ c, e = .error c := by
  cases e with
  | ok l => cases h
  | error c => exact ⟨c, rfl⟩
theorem one_ok {e : JE} {d : Int} (h : (e.one d).isOk = true) : d ≤ 12 := by
  cases e with
  | error c => cases h
  | ok l =>
    simp only [JE.one] at h
    split at h
    · cases h
    · omega
theorem expr_a (σ : PH) (x : Ex) : ExprOK σ x := by
  refine Ex.ind (P := ExprOK σ) ?_ x
  intro op v k l ih cs b p n c e deep hx hin hd0 hd1
  obtain ⟨pl, cl, rfl, -, -, -, hl⟩ := hx.inv
  simp only [Ex.op, Ex.v, Ex.n, Ex.l] at hl ⊢
  obtain ⟨-, -, -, hle, hmx⟩ := hl.shape
  have hlen : l.length ≤ maxLen := by
    obtain ⟨q, d, e1, h1, h2⟩ := hl.shape
    omega
  simp only [maxLen] at hlen
  refine enterA3 Tryd.func97 rfl rfl rfl ?_
  refine zS (zR ?_)
  refine XOA.wr0 rfl WrA.bx ?_
  rintro _ _ _ ⟨g4, rfl, rfl, rfl⟩
  refine zN (zT (zS (zS (zR (zA rfl ?_))))); refine zA rfl ?_
  refine XOA.wr0 rfl (WrA.cE (one_a σ b (.slice p n c) e deep hin) rfl) ?_
  rintro _ _ _ ⟨_, ⟨rfl, rfl, rfl⟩, rfl⟩
  refine XOA.cl ?_
  cases hok : (e.one deep).isOk with
  | false =>
    obtain ⟨c', hc'⟩ := isOk_false hok
    have hp : exE n deep (.mk op v k l) e = .error c' := by rw [exE, exHead, hc', fail_err, fail_err, named_err, exsE_err]
    rw [hc', hp]
    refine zO rfl zJ ?_; refine zN (zT (XA.condT rfl rfl (XA.ret (DA.thn_ret ?_))))
    exact bodyA.ret (ResA.none rfl) zE ⟨rfl, rfl, rfl⟩
  | true =>
    have hd := one_ok hok
    refine zO rfl zJ ?_; refine zN (zT (XA.condF rfl rfl (XA.skip (zT (zS (zR (zV rfl rfl ?_))))))); refine zB rfl rfl (tyrow rfl) rfl ?_
    refine XOA.wr0 rfl (WrA.cE (parts_a σ op) rfl) ?_
    rintro _ _ _ ⟨_, ⟨rfl, rfl, rfl⟩, rfl⟩
    refine XOA.cl ?_; refine zO rfl Rd.asg ?_; refine zN (zT (zS (zR (zA rfl ?_)))); refine zA rfl ?_; refine zO rfl (Rd.lss rfl rfl) ?_
    refine XOA.wr0 rfl (WrA.cE (fail_a σ b _ _ (decide (partsOf op < 0)) 2 (by decide)) rfl) ?_
    rintro _ _ _ ⟨_, ⟨rfl, rfl, rfl⟩, rfl⟩
    refine XOA.cl ?_; refine zN (zT (zS (zR (zA rfl ?_)))); refine zV rfl rfl ?_; refine zB rfl rfl (tyrow rfl) rfl ?_; refine zO rfl (Rd.lenSlice (tyrow rfl) rfl rfl) ?_; refine zA rfl ?_
    refine XOA.join (List.take_append_drop 11 _).symm [(20, 20), (25, 35)] (fun _ : Unit => [(20, ptr b), (35, .bool (decide ((l.length : Int) ≠ partsOf op ∨ (k ≠ 0 ∧ op ≠ 1))))]) (fun _ σ' Γ' => σ = σ' ∧ Γ' = [Judge b (.slice p n c) ((e.one deep).fail (decide (partsOf op < 0)) 2), blk g4 [i64 op, i64 v, i64 k, .slice pl l.length cl] 54]) ?_ ?_
    · 
      by_cases h1 : (l.length : Int) = partsOf op
      · by_cases h2 : k = 0
        · have hb : decide ((l.length : Int) ≠ partsOf op ∨ (k ≠ 0 ∧ op ≠ 1)) = false := decide_eq_false (by omega)
          rw [hb]
          refine zO rfl (Rd.neq rfl rfl) ?_; refine zA rfl ?_
          first | (refine zG ?_; refine zV rfl rfl ?_) | refine zH ?_
          first | (refine zG ?_; refine zB rfl rfl (tyrow rfl) rfl ?_) | refine zH ?_
          first | (refine zG ?_; refine zO rfl (Rd.neq rfl rfl) ?_) | refine zH ?_
          first | (refine zG ?_; refine zA rfl ?_) | refine zH ?_
          first | (refine zG ?_; refine zV rfl rfl ?_) | refine zH ?_
          first | (refine zG ?_; refine zB rfl rfl (tyrow rfl) rfl ?_) | refine zH ?_
          first | (refine zG ?_; refine zO rfl (Rd.neq rfl rfl) ?_) | refine zH ?_
          first | (refine zG ?_; refine zO rfl zP ?_) | refine zH ?_
          refine zO rfl zP ?_; refine zN (zT ?_)
          refine ⟨(Keep.upd (Keep.upd (Keep.upd (Keep.upd (Keep.upd (Keep.upd (Keep.upd (Keep.upd (Keep.upd (Keep.upd (Keep.upd (Keep.refl _ _) rfl) rfl) rfl) rfl) rfl) rfl) rfl) rfl) rfl) rfl) rfl), (), _, zM, ?_, ⟨rfl, rfl⟩⟩
          · exact zE
        · have hb : decide ((l.length : Int) ≠ partsOf op ∨ (k ≠ 0 ∧ op ≠ 1)) = decide (op ≠ 1) := by rw [decide_eq_decide]; omega
          rw [hb]
          refine zO rfl (Rd.neq rfl rfl) ?_; refine zA rfl ?_
          first | (refine zG ?_; refine zV rfl rfl ?_) | refine zH ?_
          first | (refine zG ?_; refine zB rfl rfl (tyrow rfl) rfl ?_) | refine zH ?_
          first | (refine zG ?_; refine zO rfl (Rd.neq rfl rfl) ?_) | refine zH ?_
          first | (refine zG ?_; refine zA rfl ?_) | refine zH ?_
          first | (refine zG ?_; refine zV rfl rfl ?_) | refine zH ?_
          first | (refine zG ?_; refine zB rfl rfl (tyrow rfl) rfl ?_) | refine zH ?_
          first | (refine zG ?_; refine zO rfl (Rd.neq rfl rfl) ?_) | refine zH ?_
          first | (refine zG ?_; refine zO rfl zP ?_) | refine zH ?_
          refine zO rfl zP ?_; refine zN (zT ?_)
          refine ⟨(Keep.upd (Keep.upd (Keep.upd (Keep.upd (Keep.upd (Keep.upd (Keep.upd (Keep.upd (Keep.upd (Keep.upd (Keep.upd (Keep.refl _ _) rfl) rfl) rfl) rfl) rfl) rfl) rfl) rfl) rfl) rfl) rfl), (), _, zM, ?_, ⟨rfl, rfl⟩⟩
          · exact zE
      · have hb : decide ((l.length : Int) ≠ partsOf op ∨ (k ≠ 0 ∧ op ≠ 1)) = true := decide_eq_true (by omega)
        rw [hb]
        refine zO rfl (Rd.neq rfl rfl) ?_; refine zA rfl ?_
        first | (refine zG ?_; refine zV rfl rfl ?_) | refine zH ?_
        first | (refine zG ?_; refine zB rfl rfl (tyrow rfl) rfl ?_) | refine zH ?_
        first | (refine zG ?_; refine zO rfl (Rd.neq rfl rfl) ?_) | refine zH ?_
        first | (refine zG ?_; refine zA rfl ?_) | refine zH ?_
        first | (refine zG ?_; refine zV rfl rfl ?_) | refine zH ?_
        first | (refine zG ?_; refine zB rfl rfl (tyrow rfl) rfl ?_) | refine zH ?_
        first | (refine zG ?_; refine zO rfl (Rd.neq rfl rfl) ?_) | refine zH ?_
        first | (refine zG ?_; refine zO rfl zP ?_) | refine zH ?_
        refine zO rfl zP ?_; refine zN (zT ?_)
        refine ⟨(Keep.upd (Keep.upd (Keep.upd (Keep.upd (Keep.upd (Keep.upd (Keep.upd (Keep.upd (Keep.upd (Keep.upd (Keep.upd (Keep.refl _ _) rfl) rfl) rfl) rfl) rfl) rfl) rfl) rfl) rfl) rfl) rfl), (), _, zM, ?_, ⟨rfl, rfl⟩⟩
        · exact zE
    rintro - δ1 _ _ ⟨rfl, rfl⟩
    dsimp only [ovr, List.foldl]
    refine XOA.wr0 rfl (WrA.cE (fail_a σ b _ _ (decide ((l.length : Int) ≠ partsOf op ∨ (k ≠ 0 ∧ op ≠ 1))) 5 (by decide)) rfl) ?_
    rintro _ _ _ ⟨_, ⟨rfl, rfl, rfl⟩, rfl⟩
    refine XOA.cl ?_; refine zN (zT (zS (zR (zA rfl ?_)))); refine zV rfl rfl ?_; refine zB rfl rfl (tyrow rfl) rfl ?_; refine zV rfl rfl ?_; refine zB rfl rfl (tyrow rfl) rfl ?_; refine zO rfl (Rd.eql rfl rfl) ?_
    refine XOA.join (List.take_append_drop 5 _).symm [(37, 37), (39, 39), (43, 47)] (fun _ : Unit => [(37, ptr b), (39, i64 v), (47, .bool (decide (op = 2 ∨ op = 3)))]) (fun _ σ' Γ' => σ = σ' ∧ Γ' = [Judge b (.slice p n c) (((e.one deep).fail (decide (partsOf op < 0)) 2).fail (decide ((l.length : Int) ≠ partsOf op ∨ (k ≠ 0 ∧ op ≠ 1))) 5), blk g4 [i64 op, i64 v, i64 k, .slice pl l.length cl] 54]) ?_ ?_
    · 
      by_cases h1 : op = 2
      · have hb : decide (op = 2 ∨ op = 3) = true := decide_eq_true (by omega)
        rw [hb]
        refine zA rfl ?_
        first | (refine zG ?_; refine zV rfl rfl ?_) | refine zH ?_
        first | (refine zG ?_; refine zB rfl rfl (tyrow rfl) rfl ?_) | refine zH ?_
        first | (refine zG ?_; refine zO rfl (Rd.eql rfl rfl) ?_) | refine zH ?_
        refine zO rfl zP ?_; refine zN (zT ?_)
        refine ⟨(Keep.upd (Keep.upd (Keep.upd (Keep.upd (Keep.upd (Keep.refl _ _) rfl) rfl) rfl) rfl) rfl), (), _, zM, ?_, ⟨rfl, rfl⟩⟩
        · exact zE
      · have hb : decide (op = 2 ∨ op = 3) = decide (op = 3) := by rw [decide_eq_decide]; omega
        rw [hb]
        refine zA rfl ?_
        first | (refine zG ?_; refine zV rfl rfl ?_) | refine zH ?_
        first | (refine zG ?_; refine zB rfl rfl (tyrow rfl) rfl ?_) | refine zH ?_
        first | (refine zG ?_; refine zO rfl (Rd.eql rfl rfl) ?_) | refine zH ?_
        refine zO rfl zP ?_; refine zN (zT ?_)
        refine ⟨(Keep.upd (Keep.upd (Keep.upd (Keep.upd (Keep.upd (Keep.refl _ _) rfl) rfl) rfl) rfl) rfl), (), _, zM, ?_, ⟨rfl, rfl⟩⟩
        · exact zE
    rintro - δ2 _ _ ⟨rfl, rfl⟩
    dsimp only [ovr, List.foldl]
    refine XOA.wr0 rfl (WrA.cE (named_a σ b p n c _ v (decide (op = 2 ∨ op = 3))) rfl) ?_
    rintro _ _ _ ⟨_, ⟨rfl, rfl, rfl⟩, rfl⟩
    refine XOA.cl ?_; refine zN (zT (zS (zR (zV rfl rfl ?_)))); refine zB rfl rfl (tyrow rfl) rfl ?_; refine zO rfl (Rd.lenSlice (tyrow rfl) rfl rfl) ?_; refine zA rfl ?_; refine zN (zT (XA.block ?_))
    refine XA.gen [(0, _), (2, _), (50, _), (51, _), (52, _)] ⟨(by with_reducible (conv => lhs; whnf)), (by with_reducible (conv => lhs; whnf)), (by with_reducible (conv => lhs; whnf)), (by with_reducible (conv => lhs; whnf)), (by with_reducible (conv => lhs; whnf)), trivial⟩ (fun δ => ?_)
    dsimp only [List.foldl]
    refine XA.loop [(8, 8), (52, 66)] (fun q : Nat => [(52, i64 q)]) (fun q σ' Γ' => σ = σ' ∧ q ≤ l.length ∧ Γ' = [Judge b (.slice p n c) (exsE n (deep + 1) (l.take q) (exHead n deep op v k l.length e)), blk g4 [i64 op, i64 v, i64 k, .slice pl l.length cl] 54]) (fun q => l.length - q) 0 (by exact ⟨rfl, trivial⟩) (Δ0 := _) ?_ (⟨rfl, Nat.zero_le _, rfl⟩) ?_
    · rw [List.take_zero, exsE]; exact zE
    rintro q δ _ _ ⟨rfl, hq, rfl⟩
    dsimp only [ovr, List.foldl]
    refine zS (zR (zO rfl (Rd.lss rfl rfl) ?_)); refine zN (zT (zS ?_))
    refine XA.condp rfl (fun hlt => ?_) (fun hlt => ?_)
    · have hlt : q < l.length := by omega
      obtain ⟨x', hx'⟩ : ∃ x', l[q]? = some x' := ⟨_, List.getElem?_eq_getElem hlt⟩
      obtain ⟨g, o, row, rfl, hrx, hrl, hrow⟩ := hl.at hx'
      have hone := hrx.ones
      have e1 := exsE_snoc n (deep + 1) l q x' (exHead n deep op v k l.length e) hx'
      have hin2 : (exsE n (deep + 1) (l.take q) (exHead n deep op v k l.length e)).in_ := in_of (Down.exsE n (l.take q)) (in_of (Down.exHead n op v k l.length) hin deep) (deep + 1)
      refine XA.skip (zT (zS (XA.block (zS (zR (zO rfl (Rd.ixS rfl rfl) ?_)))))); refine zO rfl (Rd.ldA rfl) ?_
      refine XOA.wr0 rfl (WrA.alloc (tyrow rfl)) ?_
      rintro _ _ _ ⟨g8, rfl, rfl, rfl⟩
      refine XOA.wr0 rfl (WrA.st (tyrow rfl) rfl) ?_
      rintro _ _ _ ⟨rfl, rfl, rfl⟩
      refine zN (zT (zS (zR (zA rfl ?_))))
      cases hst : exsE n (deep + 1) (l.take q) (exHead n deep op v k l.length e) with
      | error c' =>
        rw [hst, exE_err] at e1
        first | refine XA.opn (R := Judge b (.slice p n c) (.error c')) zL (Judge.errO) ?_ | refine XOA.opn (R := Judge b (.slice p n c) (.error c')) zL (Judge.errO) ?_ | refine DA.opn (R := Judge b (.slice p n c) (.error c')) zL (Judge.errO) ?_
        rintro lf h0
        first | refine XA.cl ?_ | refine XOA.cl ?_ | refine DA.cl ?_
        refine zO rfl (Rd.nilCheck rfl) ?_; refine zV rfl rfl ?_; refine zB rfl rfl (tyrow rfl) rfl ?_; refine zO rfl (Rd.eql rfl rfl) ?_; refine zN (zT (XA.condF rfl (decide_eq_false h0) (XA.skip (DA.inb_normal (zT (zR (zO rfl zI ?_))))))); refine zA rfl ?_; refine zN (zT ?_)
        refine ⟨(Keep.upd (Keep.upd (Keep.upd (Keep.upd (Keep.upd (Keep.upd (Keep.upd (Keep.updN (Keep.updO (Keep.upd (Keep.upd (Keep.upd (Keep.upd (Keep.hav (Keep.hav (Keep.refl _ _) rfl) rfl) rfl) rfl) rfl) rfl) rfl)) rfl) rfl) rfl) rfl) rfl) rfl) rfl), q + 1, [Judge b (.slice p n c) (.error c'), _], zM, ?_, ⟨rfl, hlt, by rw [e1]⟩, (by omega)⟩
        · exact Ent.foldC (Θ := [_]) zD (Judge.mkE h0) zE
      | ok a =>
        rw [hst] at e1 hin2
        first | refine XA.opn (R := Judge b (.slice p n c) (.ok a)) zL (Judge.okO) ?_ | refine XOA.opn (R := Judge b (.slice p n c) (.ok a)) zL (Judge.okO) ?_ | refine DA.opn (R := Judge b (.slice p n c) (.ok a)) zL (Judge.okO) ?_
        rintro ⟨⟩ -
        first | refine XA.cl ?_ | refine XOA.cl ?_ | refine DA.cl ?_
        refine zO rfl (Rd.nilCheck rfl) ?_; refine zV rfl rfl ?_; refine zB rfl rfl (tyrow rfl) rfl ?_; refine zO rfl (Rd.eql rfl rfl) ?_; refine zN (zT (XA.condT rfl rfl (zR (zA rfl ?_)))); refine zO rfl (Rd.ldA rfl) ?_; refine zA rfl ?_; refine zO rfl zI ?_
        refine XOA.ent (Ent.foldC (Θ := [_]) zD (Judge.mkO (l := a)) (Ent.refl _)) ?_
        refine XOA.wr0 rfl (WrA.cE (ih x' (List.mem_of_getElem? hx') row b p n c (.ok a) (deep + 1) hrx hin2 (by omega) (by omega)) rfl) ?_
        rintro _ _ _ ⟨_, ⟨rfl, rfl, rfl⟩, rfl⟩
        refine XOA.cl ?_; refine zN (DA.inb_normal (zT (zR (zO rfl zI ?_)))); refine zA rfl ?_; refine zN (zT ?_)
        refine ⟨(Keep.upd (Keep.upd (Keep.updO (Keep.upd (Keep.upd (Keep.upd (Keep.upd (Keep.upd (Keep.upd (Keep.upd (Keep.upd (Keep.upd (Keep.updN (Keep.updO (Keep.upd (Keep.upd (Keep.upd (Keep.upd (Keep.hav (Keep.hav (Keep.refl _ _) rfl) rfl) rfl) rfl) rfl) rfl) rfl)) rfl) rfl) rfl) rfl) rfl) rfl) rfl) rfl) rfl) rfl) rfl) rfl), q + 1, _, zM, ?_, ⟨rfl, hlt, by rw [e1]⟩, (by omega)⟩
        · exact zE
    have hqn : q = l.length := by omega
    subst hqn
    rw [List.take_length]
    refine XA.exit (DA.thn_exit (DA.thn_exit (DA.inb_same ?_)))
    exact bodyA.normal (ResA.none rfl) zE ⟨rfl, rfl, rfl⟩
end Go.Proofs.YthefnnkmpcgcmaaDoor

namespace Go.Proofs.YthefnnkmpcgcmaaDoor
open Go X
set_option maxHeartbeats 1000000
def StmtOK (σ : PH) (x : St) : Prop := ∀ (cs : List Value) (b : Nat) (p : Option Addr) (n c : Nat) (e : JE) (deep : Int), StAt σ cs x → e.in_ → 0 ≤ deep → deep ≤ 900 →
  CallsA Tryd.prog 76 #[ptr b, .agg cs.toArray, i64 deep] σ [Judge b (.slice p n c) e] (RetA fun r σ' Γ' => r = .tuple #[] ∧ σ = σ' ∧ Γ' = [Judge b (.slice p n c) (stE n deep x e)])
theorem list_a (σ : PH) (l : List St) (ih : ∀ x ∈ l, StmtOK σ x) (sl : Value) (b : Nat) (p : Option Addr) (n c : Nat) (e : JE) (deep : Int) (hl : PSl 12 StAt σ sl l) (hin : e.in_) (hd0 : 0 ≤ deep) (hd1 : deep ≤ 900) :
    CallsA Tryd.prog 48 #[ptr b, sl, i64 deep] σ [Judge b (.slice p n c) e] (RetA fun r σ' Γ' => r = .tuple #[] ∧ σ = σ' ∧ Γ' = [Judge b (.slice p n c) (stsE n deep l e)]) := by
  obtain ⟨pl, cl, rfl, hle, hmx⟩ := hl.shape
  have hlen : l.length ≤ maxLen := by omega
  simp only [maxLen] at hlen
  refine enterA3 Tryd.func48 rfl rfl rfl ?_
  refine zS (zR (zA rfl ?_)); refine zO rfl (Rd.lenSlice (tyrow rfl) rfl rfl) ?_; refine zA rfl ?_; refine zN (zT (XA.block ?_))
  refine XA.gen [(0, _), (2, _), (8, _), (9, _), (10, _)] ⟨(by with_reducible (conv => lhs; whnf)), (by with_reducible (conv => lhs; whnf)), (by with_reducible (conv => lhs; whnf)), (by with_reducible (conv => lhs; whnf)), (by with_reducible (conv => lhs; whnf)), trivial⟩ (fun δ => ?_)
  dsimp only [List.foldl]
  refine XA.loop [(7, 7), (10, 23)] (fun q : Nat => [(10, i64 q)]) (fun q σ' Γ' => σ = σ' ∧ q ≤ l.length ∧ Γ' = [Judge b (.slice p n c) (stsE n deep (l.take q) e)]) (fun q => l.length - q) 0 (by exact ⟨rfl, trivial⟩) (Δ0 := _) ?_ (⟨rfl, Nat.zero_le _, rfl⟩) ?_
  · rw [List.take_zero, stsE]; exact zE
  rintro q δ _ _ ⟨rfl, hq, rfl⟩
  dsimp only [ovr, List.foldl]
  refine zS (zR (zO rfl (Rd.lss rfl rfl) ?_)); refine zN (zT (zS ?_))
  refine XA.condp rfl (fun hlt => ?_) (fun hlt => ?_)
  · have hlt : q < l.length := by omega
    obtain ⟨x', hx'⟩ : ∃ x', l[q]? = some x' := ⟨_, List.getElem?_eq_getElem hlt⟩
    obtain ⟨g, o, row, rfl, hrx, hrl, hrow⟩ := hl.at hx'
    have hone := hrx.ones
    have e1 := stsE_snoc n deep l q x' e hx'
    have hin2 : (stsE n deep (l.take q) e).in_ := in_of (Down.stsE n (l.take q)) hin deep
    refine XA.skip (zT (zS (XA.block (zS (zR (zO rfl (Rd.ixS rfl rfl) ?_)))))); refine zO rfl (Rd.ldA rfl) ?_
    refine XOA.wr0 rfl (WrA.alloc (tyrow rfl)) ?_
    rintro _ _ _ ⟨g7, rfl, rfl, rfl⟩
    refine XOA.wr0 rfl (WrA.st (tyrow rfl) rfl) ?_
    rintro _ _ _ ⟨rfl, rfl, rfl⟩
    refine zN (zT (zS (zR (zA rfl ?_))))
    cases hst : stsE n deep (l.take q) e with
    | error c' =>
      rw [hst, stE_err] at e1
      first | refine XA.opn (R := Judge b (.slice p n c) (.error c')) zL (Judge.errO) ?_ | refine XOA.opn (R := Judge b (.slice p n c) (.error c')) zL (Judge.errO) ?_ | refine DA.opn (R := Judge b (.slice p n c) (.error c')) zL (Judge.errO) ?_
      rintro lf h0
      first | refine XA.cl ?_ | refine XOA.cl ?_ | refine DA.cl ?_
      refine zO rfl (Rd.nilCheck rfl) ?_; refine zV rfl rfl ?_; refine zB rfl rfl (tyrow rfl) rfl ?_; refine zO rfl (Rd.eql rfl rfl) ?_; refine zN (zT (XA.condF rfl (decide_eq_false h0) (XA.skip (DA.inb_normal (zT (zR (zO rfl zI ?_))))))); refine zA rfl ?_; refine zN (zT ?_)
      refine ⟨(Keep.upd (Keep.upd (Keep.upd (Keep.upd (Keep.upd (Keep.upd (Keep.upd (Keep.updN (Keep.updO (Keep.upd (Keep.upd (Keep.upd (Keep.upd (Keep.hav (Keep.hav (Keep.refl _ _) rfl) rfl) rfl) rfl) rfl) rfl) rfl)) rfl) rfl) rfl) rfl) rfl) rfl) rfl), q + 1, [Judge b (.slice p n c) (.error c')], zM, ?_, ⟨rfl, hlt, by rw [e1]⟩, (by omega)⟩
      · exact Ent.foldC (Θ := [_]) zD (Judge.mkE h0) zE
    | ok a =>
      rw [hst] at e1 hin2
      first | refine XA.opn (R := Judge b (.slice p n c) (.ok a)) zL (Judge.okO) ?_ | refine XOA.opn (R := Judge b (.slice p n c) (.ok a)) zL (Judge.okO) ?_ | refine DA.opn (R := Judge b (.slice p n c) (.ok a)) zL (Judge.okO) ?_
      rintro ⟨⟩ -
      first | refine XA.cl ?_ | refine XOA.cl ?_ | refine DA.cl ?_
      refine zO rfl (Rd.nilCheck rfl) ?_; refine zV rfl rfl ?_; refine zB rfl rfl (tyrow rfl) rfl ?_; refine zO rfl (Rd.eql rfl rfl) ?_; refine zN (zT (XA.condT rfl rfl (zR (zA rfl ?_)))); refine zO rfl (Rd.ldA rfl) ?_; refine zA rfl ?_
      refine XOA.ent (Ent.foldC (Θ := [_]) zD (Judge.mkO (l := a)) (Ent.refl _)) ?_
      refine XOA.wr0 rfl (WrA.cE (ih x' (List.mem_of_getElem? hx') row b p n c (.ok a) deep hrx hin2 (by omega) (by omega)) rfl) ?_
      rintro _ _ _ ⟨_, ⟨rfl, rfl, rfl⟩, rfl⟩
      refine XOA.cl ?_; refine zN (DA.inb_normal (zT (zR (zO rfl zI ?_)))); refine zA rfl ?_; refine zN (zT ?_)
      refine ⟨(Keep.upd (Keep.upd (Keep.updO (Keep.upd (Keep.upd (Keep.upd (Keep.upd (Keep.upd (Keep.upd (Keep.upd (Keep.upd (Keep.updN (Keep.updO (Keep.upd (Keep.upd (Keep.upd (Keep.upd (Keep.hav (Keep.hav (Keep.refl _ _) rfl) rfl) rfl) rfl) rfl) rfl) rfl)) rfl) rfl) rfl) rfl) rfl) rfl) rfl) rfl) rfl) rfl) rfl), q + 1, _, zM, ?_, ⟨rfl, hlt, by rw [e1]⟩, (by omega)⟩
      · exact zE
  have hqn : q = l.length := by omega
  subst hqn
  rw [List.take_length]
  refine XA.exit (DA.thn_exit (DA.thn_exit (DA.inb_same ?_)))
  exact bodyA.normal (ResA.none rfl) zE ⟨rfl, rfl, rfl⟩
theorem stmt_a (σ : PH) (x : St) : StmtOK σ x := by
  refine St.ind (P := StmtOK σ) ?_ x
  intro op v ex fx body els ih jh cs b p n c e deep hx hin hd0 hd1
  obtain ⟨pe, de, pf, df, pb, cb, pl, cl, rfl, -, -, hxe, hxf, hxb, hxl⟩ := hx.inv12
  simp only [St.op, St.v, St.e, St.f, St.body, St.els] at hxe hxf hxb hxl ⊢
  clear hx
  obtain ⟨cells, hcells⟩ : ∃ l, l = [i64 op, i64 v, i64 ex.op, i64 ex.v, i64 ex.n, .slice pe ex.l.length de, i64 fx.op, i64 fx.v, i64 fx.n, .slice pf fx.l.length df, .slice pb body.length cb, .slice pl els.length cl] := ⟨_, rfl⟩
  obtain ⟨ne, hne⟩ : ∃ q, q = noneX ex := ⟨_, rfl⟩
  obtain ⟨nf, hnf⟩ : ∃ q, q = noneX fx := ⟨_, rfl⟩
  obtain ⟨A1, hA1⟩ : ∃ A, A = (!needE op && !ne) := ⟨_, rfl⟩
  obtain ⟨A2, hA2⟩ : ∃ A, A = (!needF op && !nf) := ⟨_, rfl⟩
  obtain ⟨A3, hA3⟩ : ∃ A, A = (!needB op && decide ((0 : Int) < (body.length : Int))) := ⟨_, rfl⟩
  obtain ⟨A4, hA4⟩ : ∃ A, A = (!needO op && decide ((0 : Int) < (els.length : Int))) := ⟨_, rfl⟩
  have hform : stForm op ex fx body.length els.length = (((A1 || A2) || A3) || A4) := by rw [hA1, hA2, hA3, hA4, hne, hnf]; rfl
  refine enterA3 Tryd.func76 rfl rfl rfl ?_
  refine zS (zR ?_)
  refine XOA.wr0 rfl WrA.bx ?_
  rintro _ _ _ ⟨g4, rfl, rfl, rfl⟩
  refine zN (zT (zS (zS (zR (zA rfl ?_))))); refine zA rfl ?_
  refine XOA.wr0 rfl (WrA.cE (one_a σ b (.slice p n c) e deep hin) rfl) ?_
  rintro _ _ _ ⟨_, ⟨rfl, rfl, rfl⟩, rfl⟩
  refine XOA.cl ?_
  cases hok : (e.one deep).isOk with
  | false =>
    obtain ⟨c', hc'⟩ := isOk_false hok
    have hp : stE n deep (.mk op v ex fx body els) e = .error c' := by rw [stE, stHead, hc', fail_err, fail_err, named_err, stEF_err, stsE_err, stsE_err]
    rw [hc', hp]
    refine zO rfl zJ ?_; refine zN (zT (XA.condT rfl rfl (XA.ret (DA.thn_ret ?_))))
    exact bodyA.ret (ResA.none rfl) zE ⟨rfl, rfl, rfl⟩
  | true =>
    have hd := one_ok hok
    refine zO rfl zJ ?_; refine zN (zT (XA.condF rfl rfl (XA.skip (zT (zS (zR (zA rfl ?_))))))); refine zV rfl rfl ?_; refine zB rfl rfl (tyrow rfl) rfl ?_
    refine XOA.join (List.take_append_drop 6 _).symm [(15, 15), (18, 23)] (fun _ : Unit => [(15, ptr b), (23, .bool (decide (op < 1 ∨ 7 < op)))]) (fun _ σ' Γ' => σ = σ' ∧ Γ' = [Judge b (.slice p n c) (e.one deep), blk g4 cells 56]) ?_ ?_
    · 
      by_cases h1 : op < 1
      · have hb : decide (op < 1 ∨ 7 < op) = true := decide_eq_true (by omega)
        rw [hb]
        refine zO rfl (Rd.lss rfl rfl) ?_; refine zA rfl ?_
        first | (refine zG ?_; refine zV rfl rfl ?_) | refine zH ?_
        first | (refine zG ?_; refine zB rfl rfl (tyrow rfl) rfl ?_) | refine zH ?_
        first | (refine zG ?_; refine zO rfl (Rd.gtr rfl rfl) ?_) | refine zH ?_
        refine zO rfl zP ?_; refine zN (zT ?_)
        refine ⟨(Keep.upd (Keep.upd (Keep.upd (Keep.upd (Keep.upd (Keep.upd (Keep.refl _ _) rfl) rfl) rfl) rfl) rfl) rfl), (), _, zM, ?_, ⟨rfl, rfl⟩⟩
        · rw [hcells]; exact zE
      · have hb : decide (op < 1 ∨ 7 < op) = decide (7 < op) := by rw [decide_eq_decide]; omega
        rw [hb]
        refine zO rfl (Rd.lss rfl rfl) ?_; refine zA rfl ?_
        first | (refine zG ?_; refine zV rfl rfl ?_) | refine zH ?_
        first | (refine zG ?_; refine zB rfl rfl (tyrow rfl) rfl ?_) | refine zH ?_
        first | (refine zG ?_; refine zO rfl (Rd.gtr rfl rfl) ?_) | refine zH ?_
        refine zO rfl zP ?_; refine zN (zT ?_)
        refine ⟨(Keep.upd (Keep.upd (Keep.upd (Keep.upd (Keep.upd (Keep.upd (Keep.refl _ _) rfl) rfl) rfl) rfl) rfl) rfl), (), _, zM, ?_, ⟨rfl, rfl⟩⟩
        · rw [hcells]; exact zE
    rintro - δ1 _ _ ⟨rfl, rfl⟩
    dsimp only [ovr, List.foldl]
    rw [hcells]
    refine XOA.wr0 rfl (WrA.cE (fail_a σ b _ _ (decide (op < 1 ∨ 7 < op)) 2 (by decide)) rfl) ?_
    rintro _ _ _ ⟨_, ⟨rfl, rfl, rfl⟩, rfl⟩
    refine XOA.cl ?_; refine zN (zT (zS (zR (zV rfl rfl ?_)))); refine zB rfl rfl (tyrow rfl) rfl ?_
    refine XOA.wr0 rfl (WrA.cE (chas_a σ op) rfl) ?_
    rintro _ _ _ ⟨_, ⟨rfl, rfl, rfl⟩, rfl⟩
    refine XOA.cl ?_; refine zA rfl ?_; refine zO rfl (Rd.extract rfl rfl) ?_; refine zO rfl (Rd.extract rfl rfl) ?_; refine zO rfl (Rd.extract rfl rfl) ?_; refine zO rfl (Rd.extract rfl rfl) ?_; refine zO rfl (Rd.extract rfl rfl) ?_; refine zO rfl Rd.asg ?_; refine zO rfl Rd.asg ?_
    refine zO rfl Rd.asg ?_; refine zO rfl Rd.asg ?_; refine zO rfl Rd.asg ?_; refine zN (zT (zS (zR ?_)))
    obtain ⟨E2, hE2⟩ : ∃ E, E = (e.one deep).fail (decide (op < 1 ∨ 7 < op)) 2 := ⟨_, rfl⟩
    rw [← hE2, ← hcells]
    refine XOA.join (List.take_append_drop 10 _).symm [(34, 43)] (fun _ : Unit => [(34, ptr b), (43, .bool A1)]) (fun _ σ' Γ' => σ = σ' ∧ Γ' = [Judge b (.slice p n c) E2, blk g4 cells 56]) ?_ ?_
    · rw [hcells]
      cases hn : needE op with
      | true =>
        have hb : A1 = false := by rw [hA1, hn]; rfl
        rw [hb]
        refine zA rfl ?_; refine zA rfl ?_; refine zO rfl zJ ?_; refine zA rfl ?_
        first | (refine zG ?_; refine zV rfl rfl ?_) | refine zH ?_
        first | (refine zG ?_; refine zO rfl (Rd.ldA rfl) ?_) | refine zH ?_
        first | refine zH ?_
        first | (refine zG ?_; refine zO rfl zJ ?_) | refine zH ?_
        refine zO rfl zP ?_; refine zA rfl ?_; refine zN (zT ?_)
        refine ⟨(Keep.upd (Keep.upd (Keep.upd (Keep.upd (Keep.upd (Keep.upd (Keep.upd (Keep.upd (Keep.upd (Keep.upd (Keep.refl _ _) rfl) rfl) rfl) rfl) rfl) rfl) rfl) rfl) rfl) rfl), (), _, zM, ?_, ⟨rfl, rfl⟩⟩
        · exact zE
      | false =>
        have hb : A1 = !ne := by rw [hA1, hn]; rfl
        rw [hb]
        refine zA rfl ?_; refine zA rfl ?_; refine zO rfl zJ ?_; refine zA rfl ?_
        first | (refine zG ?_; refine zV rfl rfl ?_) | refine zH ?_
        first | (refine zG ?_; refine zO rfl (Rd.ldA rfl) ?_) | refine zH ?_
        first | refine XOA.wanted rfl rfl ?_ | refine XOA.wq rfl rfl ?_
        refine XOA.wr0 rfl (WrA.cE (none_a σ _ _ hxe) rfl) ?_
        rintro _ _ _ ⟨_, ⟨rfl, rfl, rfl⟩, rfl⟩
        refine XOA.cl ?_
        rw [← hne]
        first | (refine zG ?_; refine zO rfl zJ ?_) | refine zH ?_
        refine zO rfl zP ?_; refine zA rfl ?_; refine zN (zT ?_)
        refine ⟨(Keep.upd (Keep.upd (Keep.upd (Keep.updO (Keep.upd (Keep.upd (Keep.upd (Keep.upd (Keep.upd (Keep.upd (Keep.refl _ _) rfl) rfl) rfl) rfl) rfl) rfl) rfl) rfl) rfl) rfl), (), _, zM, ?_, ⟨rfl, rfl⟩⟩
        · exact zE
    rintro - δ2 _ _ ⟨rfl, rfl⟩
    dsimp only [ovr, List.foldl]
    rw [hcells]
    obtain ⟨B2, hB2⟩ : ∃ A, A = (A1 || A2) := ⟨_, rfl⟩
    rw [← hcells]
    refine XOA.join (List.take_append_drop 10 _).symm [(34, 34), (44, 53)] (fun _ : Unit => [(34, ptr b), (53, .bool B2)]) (fun _ σ' Γ' => σ = σ' ∧ Γ' = [Judge b (.slice p n c) E2, blk g4 cells 56]) ?_ ?_
    · rw [hcells]
      cases A1 with
      | true =>
        have hb : B2 = true := by rw [hB2]; rfl
        rw [hb]
        first | (refine zG ?_; refine zA rfl ?_) | refine zH ?_
        first | (refine zG ?_; refine zO rfl zJ ?_) | refine zH ?_
        first | (refine zG ?_; refine zA rfl ?_) | refine zH ?_
        first | (refine zG ?_; refine zV rfl rfl ?_) | refine zH ?_
        first | (refine zG ?_; refine zO rfl (Rd.ldA rfl) ?_) | refine zH ?_
        first | refine zH ?_
        first | (refine zG ?_; refine zO rfl zJ ?_) | refine zH ?_
        first | (refine zG ?_; refine zO rfl zP ?_) | refine zH ?_
        refine zO rfl zP ?_; refine zA rfl ?_; refine zN (zT ?_)
        refine ⟨(Keep.upd (Keep.upd (Keep.upd (Keep.upd (Keep.upd (Keep.upd (Keep.upd (Keep.upd (Keep.upd (Keep.upd (Keep.refl _ _) rfl) rfl) rfl) rfl) rfl) rfl) rfl) rfl) rfl) rfl), (), _, zM, ?_, ⟨rfl, rfl⟩⟩
        · exact zE
      | false =>
        rw [Bool.false_or] at hB2
        cases hn : needF op with
        | true =>
          have hb : B2 = false := by rw [hB2, hA2, hn]; rfl
          rw [hb]
          first | (refine zG ?_; refine zA rfl ?_) | refine zH ?_
          first | (refine zG ?_; refine zO rfl zJ ?_) | refine zH ?_
          first | (refine zG ?_; refine zA rfl ?_) | refine zH ?_
          first | (refine zG ?_; refine zV rfl rfl ?_) | refine zH ?_
          first | (refine zG ?_; refine zO rfl (Rd.ldA rfl) ?_) | refine zH ?_
          first | refine zH ?_
          first | (refine zG ?_; refine zO rfl zJ ?_) | refine zH ?_
          first | (refine zG ?_; refine zO rfl zP ?_) | refine zH ?_
          refine zO rfl zP ?_; refine zA rfl ?_; refine zN (zT ?_)
          refine ⟨(Keep.upd (Keep.upd (Keep.upd (Keep.upd (Keep.upd (Keep.upd (Keep.upd (Keep.upd (Keep.upd (Keep.upd (Keep.refl _ _) rfl) rfl) rfl) rfl) rfl) rfl) rfl) rfl) rfl) rfl), (), _, zM, ?_, ⟨rfl, rfl⟩⟩
          · exact zE
        | false =>
          have hb : B2 = !nf := by rw [hB2, hA2, hn]; rfl
          rw [hb]
          first | (refine zG ?_; refine zA rfl ?_) | refine zH ?_
          first | (refine zG ?_; refine zO rfl zJ ?_) | refine zH ?_
          first | (refine zG ?_; refine zA rfl ?_) | refine zH ?_
          first | (refine zG ?_; refine zV rfl rfl ?_) | refine zH ?_
          first | (refine zG ?_; refine zO rfl (Rd.ldA rfl) ?_) | refine zH ?_
          first | refine XOA.wanted rfl rfl ?_ | refine XOA.wq rfl rfl ?_
          refine XOA.wr0 rfl (WrA.cE (none_a σ _ _ hxf) rfl) ?_
          rintro _ _ _ ⟨_, ⟨rfl, rfl, rfl⟩, rfl⟩
          refine XOA.cl ?_
          rw [← hnf]
          first | (refine zG ?_; refine zO rfl zJ ?_) | refine zH ?_
          first | (refine zG ?_; refine zO rfl zP ?_) | refine zH ?_
          refine zO rfl zP ?_; refine zA rfl ?_; refine zN (zT ?_)
          refine ⟨(Keep.upd (Keep.upd (Keep.upd (Keep.upd (Keep.updO (Keep.upd (Keep.upd (Keep.upd (Keep.upd (Keep.upd (Keep.refl _ _) rfl) rfl) rfl) rfl) rfl) rfl) rfl) rfl) rfl) rfl), (), _, zM, ?_, ⟨rfl, rfl⟩⟩
          · exact zE
    rintro - δ3 _ _ ⟨rfl, rfl⟩
    dsimp only [ovr, List.foldl]
    obtain ⟨B3, hB3⟩ : ∃ A, A = (B2 || A3) := ⟨_, rfl⟩
    refine XOA.join (List.take_append_drop 10 _).symm [(34, 34), (54, 63)] (fun _ : Unit => [(34, ptr b), (63, .bool B3)]) (fun _ σ' Γ' => σ = σ' ∧ Γ' = [Judge b (.slice p n c) E2, blk g4 cells 56]) ?_ ?_
    · rw [hcells]
      cases hB : B2 with
      | true =>
        have hb : B3 = true := by rw [hB3, hB]; rfl
        rw [hb]
        first | (refine zG ?_; refine zA rfl ?_) | refine zH ?_
        first | (refine zG ?_; refine zO rfl zJ ?_) | refine zH ?_
        first | (refine zG ?_; refine zA rfl ?_) | refine zH ?_
        first | (refine zG ?_; refine zV rfl rfl ?_) | refine zH ?_
        first | (refine zG ?_; refine zB rfl rfl (tyrow rfl) rfl ?_) | refine zH ?_
        first | (refine zG ?_; refine zO rfl (Rd.lenSlice (tyrow rfl) rfl rfl) ?_) | refine zH ?_
        first | (refine zG ?_; refine zO rfl (Rd.gtr rfl rfl) ?_) | refine zH ?_
        first | (refine zG ?_; refine zO rfl zP ?_) | refine zH ?_
        refine zO rfl zP ?_; refine zA rfl ?_; refine zN (zT ?_)
        refine ⟨(Keep.upd (Keep.upd (Keep.upd (Keep.upd (Keep.upd (Keep.upd (Keep.upd (Keep.upd (Keep.upd (Keep.upd (Keep.refl _ _) rfl) rfl) rfl) rfl) rfl) rfl) rfl) rfl) rfl) rfl), (), _, zM, ?_, ⟨rfl, rfl⟩⟩
        · exact zE
      | false =>
        rw [hB, Bool.false_or] at hB3
        cases hn : needB op with
        | true =>
          have hb : B3 = false := by rw [hB3, hA3, hn]; rfl
          rw [hb]
          first | (refine zG ?_; refine zA rfl ?_) | refine zH ?_
          first | (refine zG ?_; refine zO rfl zJ ?_) | refine zH ?_
          first | (refine zG ?_; refine zA rfl ?_) | refine zH ?_
          first | (refine zG ?_; refine zV rfl rfl ?_) | refine zH ?_
          first | (refine zG ?_; refine zB rfl rfl (tyrow rfl) rfl ?_) | refine zH ?_
          first | (refine zG ?_; refine zO rfl (Rd.lenSlice (tyrow rfl) rfl rfl) ?_) | refine zH ?_
          first | (refine zG ?_; refine zO rfl (Rd.gtr rfl rfl) ?_) | refine zH ?_
          first | (refine zG ?_; refine zO rfl zP ?_) | refine zH ?_
          refine zO rfl zP ?_; refine zA rfl ?_; refine zN (zT ?_)
          refine ⟨(Keep.upd (Keep.upd (Keep.upd (Keep.upd (Keep.upd (Keep.upd (Keep.upd (Keep.upd (Keep.upd (Keep.upd (Keep.refl _ _) rfl) rfl) rfl) rfl) rfl) rfl) rfl) rfl) rfl) rfl), (), _, zM, ?_, ⟨rfl, rfl⟩⟩
          · exact zE
        | false =>
          have hb : B3 = decide ((0 : Int) < (body.length : Int)) := by rw [hB3, hA3, hn]; rfl
          rw [hb]
          first | (refine zG ?_; refine zA rfl ?_) | refine zH ?_
          first | (refine zG ?_; refine zO rfl zJ ?_) | refine zH ?_
          first | (refine zG ?_; refine zA rfl ?_) | refine zH ?_
          first | (refine zG ?_; refine zV rfl rfl ?_) | refine zH ?_
          first | (refine zG ?_; refine zB rfl rfl (tyrow rfl) rfl ?_) | refine zH ?_
          first | (refine zG ?_; refine zO rfl (Rd.lenSlice (tyrow rfl) rfl rfl) ?_) | refine zH ?_
          first | (refine zG ?_; refine zO rfl (Rd.gtr rfl rfl) ?_) | refine zH ?_
          first | (refine zG ?_; refine zO rfl zP ?_) | refine zH ?_
          refine zO rfl zP ?_; refine zA rfl ?_; refine zN (zT ?_)
          refine ⟨(Keep.upd (Keep.upd (Keep.upd (Keep.upd (Keep.upd (Keep.upd (Keep.upd (Keep.upd (Keep.upd (Keep.upd (Keep.refl _ _) rfl) rfl) rfl) rfl) rfl) rfl) rfl) rfl) rfl) rfl), (), _, zM, ?_, ⟨rfl, rfl⟩⟩
          · exact zE
    rintro - δ4 _ _ ⟨rfl, rfl⟩
    dsimp only [ovr, List.foldl]
    obtain ⟨B4, hB4⟩ : ∃ A, A = (B3 || A4) := ⟨_, rfl⟩
    refine XOA.join (List.take_append_drop 9 _).symm [(34, 34), (64, 72)] (fun _ : Unit => [(34, ptr b), (72, .bool B4)]) (fun _ σ' Γ' => σ = σ' ∧ Γ' = [Judge b (.slice p n c) E2, blk g4 cells 56]) ?_ ?_
    · rw [hcells]
      cases hB : B3 with
      | true =>
        have hb : B4 = true := by rw [hB4, hB]; rfl
        rw [hb]
        first | (refine zG ?_; refine zA rfl ?_) | refine zH ?_
        first | (refine zG ?_; refine zO rfl zJ ?_) | refine zH ?_
        first | (refine zG ?_; refine zA rfl ?_) | refine zH ?_
        first | (refine zG ?_; refine zV rfl rfl ?_) | refine zH ?_
        first | (refine zG ?_; refine zB rfl rfl (tyrow rfl) rfl ?_) | refine zH ?_
        first | (refine zG ?_; refine zO rfl (Rd.lenSlice (tyrow rfl) rfl rfl) ?_) | refine zH ?_
        first | (refine zG ?_; refine zO rfl (Rd.gtr rfl rfl) ?_) | refine zH ?_
        first | (refine zG ?_; refine zO rfl zP ?_) | refine zH ?_
        refine zO rfl zP ?_; refine zN (zT ?_)
        refine ⟨(Keep.upd (Keep.upd (Keep.upd (Keep.upd (Keep.upd (Keep.upd (Keep.upd (Keep.upd (Keep.upd (Keep.refl _ _) rfl) rfl) rfl) rfl) rfl) rfl) rfl) rfl) rfl), (), _, zM, ?_, ⟨rfl, rfl⟩⟩
        · exact zE
      | false =>
        rw [hB, Bool.false_or] at hB4
        cases hn : needO op with
        | true =>
          have hb : B4 = false := by rw [hB4, hA4, hn]; rfl
          rw [hb]
          first | (refine zG ?_; refine zA rfl ?_) | refine zH ?_
          first | (refine zG ?_; refine zO rfl zJ ?_) | refine zH ?_
          first | (refine zG ?_; refine zA rfl ?_) | refine zH ?_
          first | (refine zG ?_; refine zV rfl rfl ?_) | refine zH ?_
          first | (refine zG ?_; refine zB rfl rfl (tyrow rfl) rfl ?_) | refine zH ?_
          first | (refine zG ?_; refine zO rfl (Rd.lenSlice (tyrow rfl) rfl rfl) ?_) | refine zH ?_
          first | (refine zG ?_; refine zO rfl (Rd.gtr rfl rfl) ?_) | refine zH ?_
          first | (refine zG ?_; refine zO rfl zP ?_) | refine zH ?_
          refine zO rfl zP ?_; refine zN (zT ?_)
          refine ⟨(Keep.upd (Keep.upd (Keep.upd (Keep.upd (Keep.upd (Keep.upd (Keep.upd (Keep.upd (Keep.upd (Keep.refl _ _) rfl) rfl) rfl) rfl) rfl) rfl) rfl) rfl) rfl), (), _, zM, ?_, ⟨rfl, rfl⟩⟩
          · exact zE
        | false =>
          have hb : B4 = decide ((0 : Int) < (els.length : Int)) := by rw [hB4, hA4, hn]; rfl
          rw [hb]
          first | (refine zG ?_; refine zA rfl ?_) | refine zH ?_
          first | (refine zG ?_; refine zO rfl zJ ?_) | refine zH ?_
          first | (refine zG ?_; refine zA rfl ?_) | refine zH ?_
          first | (refine zG ?_; refine zV rfl rfl ?_) | refine zH ?_
          first | (refine zG ?_; refine zB rfl rfl (tyrow rfl) rfl ?_) | refine zH ?_
          first | (refine zG ?_; refine zO rfl (Rd.lenSlice (tyrow rfl) rfl rfl) ?_) | refine zH ?_
          first | (refine zG ?_; refine zO rfl (Rd.gtr rfl rfl) ?_) | refine zH ?_
          first | (refine zG ?_; refine zO rfl zP ?_) | refine zH ?_
          refine zO rfl zP ?_; refine zN (zT ?_)
          refine ⟨(Keep.upd (Keep.upd (Keep.upd (Keep.upd (Keep.upd (Keep.upd (Keep.upd (Keep.upd (Keep.upd (Keep.refl _ _) rfl) rfl) rfl) rfl) rfl) rfl) rfl) rfl) rfl), (), _, zM, ?_, ⟨rfl, rfl⟩⟩
          · exact zE
    rintro - δ5 _ _ ⟨rfl, rfl⟩
    dsimp only [ovr, List.foldl]
    rw [show B4 = stForm op ex fx body.length els.length by rw [hform, hB4, hB3, hB2], hcells]
    refine XOA.wr0 rfl (WrA.cE (fail_a σ b _ _ (stForm op ex fx body.length els.length) 5 (by decide)) rfl) ?_
    rintro _ _ _ ⟨_, ⟨rfl, rfl, rfl⟩, rfl⟩
    refine XOA.cl ?_; refine zN (zT (zS (zR (zA rfl ?_)))); refine zV rfl rfl ?_; refine zB rfl rfl (tyrow rfl) rfl ?_; refine zA rfl ?_
    refine XOA.wr0 rfl (WrA.cE (named_a σ b p n c _ v (needV op)) rfl) ?_
    rintro _ _ _ ⟨_, ⟨rfl, rfl, rfl⟩, rfl⟩
    refine XOA.cl ?_
    obtain ⟨H, hH⟩ : ∃ H, H = stHead n deep op v ex fx body.length els.length e := ⟨_, rfl⟩
    have hHi : H.in_ := by rw [hH]; exact in_of (Down.stHead n op v ex fx body.length els.length) hin deep
    rw [show JE.named (JE.fail E2 (stForm op ex fx body.length els.length) 5) n v (needV op) = H by rw [hH, stHead, hE2]]
    have hpost : stE n deep (.mk op v ex fx body els) e = stsE n (deep + 1) els (stsE n (deep + 1) body (stEF n (deep + 1) op ex fx H)) := by rw [stE, hH]
    rw [hpost]
    clear hpost hform hB4 hB3 hB2 hA1 hA2 hA3 hA4 hne hnf hH hE2
    rw [← hcells]
    obtain ⟨H1, hH1⟩ : ∃ H1, H1 = if needE op then exE n (deep + 1) ex H else H := ⟨_, rfl⟩
    have hH1i : H1.in_ := by
      rw [hH1]; split
      · exact in_of (Down.exE n ex) hHi (deep + 1)
      · exact hHi
    obtain ⟨H2, hH2⟩ : ∃ H2, H2 = stEF n (deep + 1) op ex fx H := ⟨_, rfl⟩
    have hH2i : H2.in_ := by rw [hH2]; exact in_of (Down.stEF n op ex fx) hHi (deep + 1)
    have hH1' := hH1
    have hH2' : H2 = if needF op then exE n (deep + 1) fx H1 else H1 := by rw [hH2, hH1]; rfl
    rw [← hH2]
    refine zN (zT (zS (zS (zR ?_))))
    refine XOA.join (List.take_append_drop 8 _).symm [(79, 86)] (fun _ : Unit => [(86, .bool (needE op && H.isOk))]) (fun _ σ' Γ' => σ = σ' ∧ Γ' = [Judge b (.slice p n c) H, blk g4 cells 56]) ?_ ?_
    · 
      cases hn : needE op with
      | false =>
        rw [Bool.false_and]
        refine zA rfl ?_; refine zA rfl ?_
        first | (refine zG ?_; refine zA rfl ?_) | refine zH ?_
        first | (refine zG ?_; refine zO rfl (Rd.nilCheck rfl) ?_) | refine zH ?_
        first | (refine zG ?_; refine zV rfl rfl ?_) | refine zH ?_
        first | (refine zG ?_; refine zB rfl rfl (tyrow rfl) rfl ?_) | refine zH ?_
        first | (refine zG ?_; refine zO rfl (Rd.eql rfl rfl) ?_) | refine zH ?_
        refine zO rfl zP ?_; refine zN (zT ?_)
        refine ⟨(Keep.upd (Keep.upd (Keep.upd (Keep.upd (Keep.upd (Keep.upd (Keep.upd (Keep.upd (Keep.refl _ _) rfl) rfl) rfl) rfl) rfl) rfl) rfl) rfl), (), _, zM, ?_, ⟨rfl, rfl⟩⟩
        · exact zE
      | true =>
        rw [Bool.true_and]
        refine zA rfl ?_; refine zA rfl ?_
        first | (refine zG ?_; refine zA rfl ?_) | refine zH ?_
        first | refine XA.opn (R := Judge b (.slice p n c) H) zL (Judge.anyD) ?_ | refine XOA.opn (R := Judge b (.slice p n c) H) zL (Judge.anyD) ?_ | refine DA.opn (R := Judge b (.slice p n c) H) zL (Judge.anyD) ?_
        rintro ⟨l, cc⟩ ⟨hdec, hf⟩
        first | refine XA.cl ?_ | refine XOA.cl ?_ | refine DA.cl ?_
        rw [← hdec]
        first | (refine zG ?_; refine zO rfl (Rd.nilCheck rfl) ?_) | refine zH ?_
        first | (refine zG ?_; refine zV rfl rfl ?_) | refine zH ?_
        first | (refine zG ?_; refine zB rfl rfl (tyrow rfl) rfl ?_) | refine zH ?_
        first | (refine zG ?_; refine zO rfl (Rd.eql rfl rfl) ?_) | refine zH ?_
        refine zO rfl zP ?_; refine zN (zT ?_)
        refine ⟨(Keep.upd (Keep.upd (Keep.upd (Keep.upd (Keep.upd (Keep.upd (Keep.upd (Keep.upd (Keep.refl _ _) rfl) rfl) rfl) rfl) rfl) rfl) rfl) rfl), (), _, zM, ?_, ⟨rfl, rfl⟩⟩
        · exact Ent.foldC (Θ := [_]) zD hf zE
    rintro - δ6 _ _ ⟨rfl, rfl⟩
    dsimp only [ovr, List.foldl]
    refine zN (zT ?_)
    refine XA.join [(87, 92)] (fun _ : Unit => []) (fun _ σ' Γ' => σ = σ' ∧ Γ' = [Judge b (.slice p n c) H1, blk g4 cells 56]) ?_ ?_
    · 
      refine XA.cond rfl (fun hq => ?_) (fun hq => ?_)
      · have hq1 : needE op = true ∧ H.isOk = true := by simpa using hq
        rw [hcells]
        refine zR (zA rfl ?_); refine zV rfl rfl ?_; refine zO rfl (Rd.ldA rfl) ?_; refine zA rfl ?_; refine zO rfl zI ?_
        refine XOA.wr0 rfl (WrA.cE (expr_a σ ex _ b p n c H (deep + 1) hxe hHi (by omega) (by omega)) rfl) ?_
        rintro _ _ _ ⟨_, ⟨rfl, rfl, rfl⟩, rfl⟩
        refine XOA.cl ?_; refine zN (zT ?_)
        rw [show H1 = exE n (deep + 1) ex H by rw [hH1', if_pos hq1.1]]
        refine ⟨(Keep.updO (Keep.upd (Keep.upd (Keep.upd (Keep.upd (Keep.upd (Keep.refl _ _) rfl) rfl) rfl) rfl) rfl) rfl), (), _, zM, ?_, ⟨rfl, rfl⟩⟩
        · exact zE
      · have e1 : H1 = H := by
          rw [hH1']
          split
          · rename_i hn
            rw [hn, Bool.true_and] at hq
            obtain ⟨c', hc'⟩ := isOk_false hq
            rw [hc', exE_err]
          · rfl
        rw [e1]
        refine XA.skip (zT ?_)
        refine ⟨(Keep.refl _ _), (), _, zM, ?_, ⟨rfl, rfl⟩⟩
        · exact zE
    rintro - δ6' _ _ ⟨rfl, rfl⟩
    dsimp only [ovr, List.foldl]
    refine zT (zS (zS (zR ?_)))
    refine XOA.join (List.take_append_drop 8 _).symm [(93, 100)] (fun _ : Unit => [(100, .bool (needF op && H1.isOk))]) (fun _ σ' Γ' => σ = σ' ∧ Γ' = [Judge b (.slice p n c) H1, blk g4 cells 56]) ?_ ?_
    · 
      cases hn : needF op with
      | false =>
        rw [Bool.false_and]
        refine zA rfl ?_; refine zA rfl ?_
        first | (refine zG ?_; refine zA rfl ?_) | refine zH ?_
        first | (refine zG ?_; refine zO rfl (Rd.nilCheck rfl) ?_) | refine zH ?_
        first | (refine zG ?_; refine zV rfl rfl ?_) | refine zH ?_
        first | (refine zG ?_; refine zB rfl rfl (tyrow rfl) rfl ?_) | refine zH ?_
        first | (refine zG ?_; refine zO rfl (Rd.eql rfl rfl) ?_) | refine zH ?_
        refine zO rfl zP ?_; refine zN (zT ?_)
        refine ⟨(Keep.upd (Keep.upd (Keep.upd (Keep.upd (Keep.upd (Keep.upd (Keep.upd (Keep.upd (Keep.refl _ _) rfl) rfl) rfl) rfl) rfl) rfl) rfl) rfl), (), _, zM, ?_, ⟨rfl, rfl⟩⟩
        · exact zE
      | true =>
        rw [Bool.true_and]
        refine zA rfl ?_; refine zA rfl ?_
        first | (refine zG ?_; refine zA rfl ?_) | refine zH ?_
        first | refine XA.opn (R := Judge b (.slice p n c) H1) zL (Judge.anyD) ?_ | refine XOA.opn (R := Judge b (.slice p n c) H1) zL (Judge.anyD) ?_ | refine DA.opn (R := Judge b (.slice p n c) H1) zL (Judge.anyD) ?_
        rintro ⟨l, cc⟩ ⟨hdec, hf⟩
        first | refine XA.cl ?_ | refine XOA.cl ?_ | refine DA.cl ?_
        rw [← hdec]
        first | (refine zG ?_; refine zO rfl (Rd.nilCheck rfl) ?_) | refine zH ?_
        first | (refine zG ?_; refine zV rfl rfl ?_) | refine zH ?_
        first | (refine zG ?_; refine zB rfl rfl (tyrow rfl) rfl ?_) | refine zH ?_
        first | (refine zG ?_; refine zO rfl (Rd.eql rfl rfl) ?_) | refine zH ?_
        refine zO rfl zP ?_; refine zN (zT ?_)
        refine ⟨(Keep.upd (Keep.upd (Keep.upd (Keep.upd (Keep.upd (Keep.upd (Keep.upd (Keep.upd (Keep.refl _ _) rfl) rfl) rfl) rfl) rfl) rfl) rfl) rfl), (), _, zM, ?_, ⟨rfl, rfl⟩⟩
        · exact Ent.foldC (Θ := [_]) zD hf zE
    rintro - δ7 _ _ ⟨rfl, rfl⟩
    dsimp only [ovr, List.foldl]
    refine zN (zT ?_)
    refine XA.join [(101, 106)] (fun _ : Unit => []) (fun _ σ' Γ' => σ = σ' ∧ Γ' = [Judge b (.slice p n c) H2, blk g4 cells 56]) ?_ ?_
    · 
      refine XA.cond rfl (fun hq => ?_) (fun hq => ?_)
      · have hq1 : needF op = true ∧ H1.isOk = true := by simpa using hq
        rw [hcells]
        refine zR (zA rfl ?_); refine zV rfl rfl ?_; refine zO rfl (Rd.ldA rfl) ?_; refine zA rfl ?_; refine zO rfl zI ?_
        refine XOA.wr0 rfl (WrA.cE (expr_a σ fx _ b p n c H1 (deep + 1) hxf hH1i (by omega) (by omega)) rfl) ?_
        rintro _ _ _ ⟨_, ⟨rfl, rfl, rfl⟩, rfl⟩
        refine XOA.cl ?_; refine zN (zT ?_)
        rw [show H2 = exE n (deep + 1) fx H1 by rw [hH2', if_pos hq1.1]]
        refine ⟨(Keep.updO (Keep.upd (Keep.upd (Keep.upd (Keep.upd (Keep.upd (Keep.refl _ _) rfl) rfl) rfl) rfl) rfl) rfl), (), _, zM, ?_, ⟨rfl, rfl⟩⟩
        · exact zE
      · have e1 : H2 = H1 := by
          rw [hH2']
          split
          · rename_i hn
            rw [hn, Bool.true_and] at hq
            obtain ⟨c', hc'⟩ := isOk_false hq
            rw [hc', exE_err]
          · rfl
        rw [e1]
        refine XA.skip (zT ?_)
        refine ⟨(Keep.refl _ _), (), _, zM, ?_, ⟨rfl, rfl⟩⟩
        · exact zE
    rintro - δ7' _ _ ⟨rfl, rfl⟩
    dsimp only [ovr, List.foldl]
    refine zT ?_
    rw [hcells]
    refine zS (zR (zA rfl ?_)); refine zV rfl rfl ?_; refine zB rfl rfl (tyrow rfl) rfl ?_; refine zA rfl ?_; refine zO rfl zI ?_
    refine XOA.wr0 rfl (WrA.cE (list_a σ body ih _ b p n c H2 (deep + 1) hxb hH2i (by omega) (by omega)) rfl) ?_
    rintro _ _ _ ⟨_, ⟨rfl, rfl, rfl⟩, rfl⟩
    refine XOA.cl ?_; refine zN (zT (zR (zA rfl ?_))); refine zV rfl rfl ?_; refine zB rfl rfl (tyrow rfl) rfl ?_; refine zA rfl ?_; refine zO rfl zI ?_
    refine XOA.wr0 rfl (WrA.cE (list_a σ els jh _ b p n c _ (deep + 1) hxl (in_of (Down.stsE n body) hH2i (deep + 1)) (by omega) (by omega)) rfl) ?_
    rintro _ _ _ ⟨_, ⟨rfl, rfl, rfl⟩, rfl⟩
    refine XOA.cl ?_; refine zN ?_
    exact bodyA.normal (ResA.none rfl) zE ⟨rfl, rfl, rfl⟩
end Go.Proofs.YthefnnkmpcgcmaaDoor

namespace Go.Proofs.YthefnnkmpcgcmaaDoor
open Go X
set_option maxHeartbeats 1000000
theorem exsN_snoc {l : List Ex} {k : Nat} {x : Ex} (h : l[k]? = some x) : exsN (l.take (k + 1)) = exsN (l.take k) + exN x := by
  rw [List.take_add_one, h]; simp [exsN_app, exsN]
theorem stsN_snoc {l : List St} {k : Nat} {x : St} (h : l[k]? = some x) : stsN (l.take (k + 1)) = stsN (l.take k) + stN x := by
  rw [List.take_add_one, h]; simp [stsN_app, stsN]
def ExPartsOK (σ : PH) (x : Ex) : Prop := ∀ (cs : List Value) (most : Int), ExAt σ cs x → -1000000 ≤ most → most ≤ 1000000 →
  CallsA Tryd.prog 45 #[.agg cs.toArray, i64 most] σ [] (RetA fun v σ' Γ' => ∃ r : Int, v = i64 r ∧ (1 ≤ r ∧ (r ≤ most + 1 ∨ r ≤ 1) ∧ (r ≤ most → r = exN x)) ∧ σ = σ' ∧ Γ' = [])
theorem exprParts_a (σ : PH) (x : Ex) : ExPartsOK σ x := by
  refine Ex.ind (P := ExPartsOK σ) ?_ x
  intro op v k l ih cs most hx hm0 hm1
  obtain ⟨pl, cl, rfl, -, -, -, hl⟩ := hx.inv
  simp only [Ex.op, Ex.v, Ex.n, Ex.l] at hl ⊢
  clear hx
  have hlen : l.length ≤ maxLen := by
    obtain ⟨q, d, e1, h1, h2⟩ := hl.shape
    omega
  simp only [maxLen] at hlen
  refine enterA2 Tryd.func45 rfl rfl rfl ?_
  refine zS (zR ?_)
  refine XOA.wr0 rfl WrA.bx ?_
  rintro _ _ _ ⟨g2, rfl, rfl, rfl⟩
  refine zO rfl Rd.asg ?_; refine zN (zT (zS (zR (zO rfl Rd.asg ?_)))); refine zN (zT (zS (zS (zR (zO rfl Rd.asg ?_))))); refine zN (zT (XA.block ?_))
  refine XA.gen [(1, _), (2, _), (4, _), (5, _), (6, _)] ⟨(by with_reducible (conv => lhs; whnf)), (by with_reducible (conv => lhs; whnf)), (by with_reducible (conv => lhs; whnf)), (by with_reducible (conv => lhs; whnf)), (by with_reducible (conv => lhs; whnf)), trivial⟩ (fun δ => ?_)
  dsimp only [List.foldl]
  refine XA.loop [(5, 29)] (fun q : Nat × Int => [(6, i64 q.1), (5, i64 q.2)]) (fun q σ' Γ' => σ = σ' ∧ q.1 ≤ l.length ∧ (1 ≤ q.2 ∧ (q.2 ≤ most + 1 ∨ q.2 ≤ 1) ∧ (q.2 ≤ most → q.2 = 1 + exsN (l.take q.1))) ∧ Γ' = [blk g2 [i64 op, i64 v, i64 k, .slice pl l.length cl] 54]) (fun q => l.length - q.1) (0, 1) (by exact ⟨rfl, rfl, trivial⟩) (Δ0 := _) ?_ (⟨rfl, Nat.zero_le _, ⟨by simp only; omega, by simp only; omega, fun _ => by simp [exsN]⟩, rfl⟩) ?_
  · exact zE
  rintro ⟨i, n⟩ δ _ _ ⟨rfl, hi, ⟨hn0, hn1, hn2⟩, rfl⟩
  dsimp only [ovr, List.foldl]
  have hi : i ≤ l.length := hi
  have hn0 : 1 ≤ n := hn0
  have hn1 : n ≤ most + 1 ∨ n ≤ 1 := hn1
  have hn2 : n ≤ most → n = 1 + exsN (l.take i) := hn2
  by_cases h1 : i < l.length
  · by_cases h2 : n ≤ most
    · obtain ⟨x', hx'⟩ : ∃ x', l[i]? = some x' := ⟨_, List.getElem?_eq_getElem h1⟩
      obtain ⟨g, o, row, rfl, hrx, hrl, hrow⟩ := hl.at hx'
      have hone := hrx.ones
      have e1 := exsN_snoc hx'
      have h2n := hn2 h2
      refine zS (zS (zR (zA rfl ?_))); refine zV rfl rfl ?_; refine zB rfl rfl (tyrow rfl) rfl ?_; refine zO rfl (Rd.lenSlice (tyrow rfl) rfl rfl) ?_; refine zO rfl (Rd.lss rfl rfl) ?_; refine zA rfl ?_
      first | (refine zG ?_; refine zA rfl ?_) | refine zH ?_
      first | (refine zG ?_; refine zA rfl ?_) | refine zH ?_
      first | (refine zG ?_; refine zO rfl (Rd.leq rfl rfl) ?_) | refine zH ?_
      refine zO rfl zP ?_; refine zN (zT (XA.condT rfl zY ?_)); refine XA.skip (zT (zS (XA.block (zR (zA rfl ?_))))); refine zV rfl rfl ?_; refine zB rfl rfl (tyrow rfl) rfl ?_; refine zA rfl ?_; refine zO rfl (Rd.ixS rfl rfl) ?_; refine zO rfl (Rd.ldA rfl) ?_; refine zA rfl ?_; refine zA rfl ?_
      refine zO rfl (by first | exact Rd.sbi rfl rfl | exact Rd.sub rfl rfl) ?_
      refine XOA.wr0 rfl (WrA.cE (ih x' (List.mem_of_getElem? hx') row (most - n) hrx (by omega) (by omega)) rfl) ?_
      rintro _ _ _ ⟨_, ⟨r, rfl, ⟨hr0, hr1, hr2⟩, rfl, rfl⟩, rfl⟩
      refine XOA.cl ?_; refine zO rfl zI ?_; refine zO rfl Rd.asg ?_; refine zN (DA.inb_normal (zT (zR (zA rfl ?_)))); refine zO rfl zI ?_; refine zO rfl Rd.asg ?_; refine zN (zT ?_)
      refine ⟨(Keep.upd (Keep.upd (Keep.upd (Keep.upd (Keep.upd (Keep.updO (Keep.upd (Keep.upd (Keep.upd (Keep.upd (Keep.upd (Keep.upd (Keep.upd (Keep.upd (Keep.upd (Keep.upd (Keep.upd (Keep.upd (Keep.upd (Keep.upd (Keep.upd (Keep.upd (Keep.upd (Keep.upd (Keep.upd (Keep.upd (Keep.upd (Keep.hav (Keep.refl _ _) rfl) rfl) rfl) rfl) rfl) rfl) rfl) rfl) rfl) rfl) rfl) rfl) rfl) rfl) rfl) rfl) rfl) rfl) rfl) rfl) rfl) rfl) rfl) rfl) rfl) rfl) rfl) rfl), (i + 1, n + r), _, zM, ?_, ⟨rfl, h1, ⟨by simp only; omega, by simp only; omega, fun h => by simp only at h ⊢; have := hr2 (by omega); rw [e1]; omega⟩, rfl⟩, (by simp only; omega)⟩
      · exact zE
    · 
      refine zS (zS (zR (zA rfl ?_))); refine zV rfl rfl ?_; refine zB rfl rfl (tyrow rfl) rfl ?_; refine zO rfl (Rd.lenSlice (tyrow rfl) rfl rfl) ?_; refine zO rfl (Rd.lss rfl rfl) ?_; refine zA rfl ?_
      first | (refine zG ?_; refine zA rfl ?_) | refine zH ?_
      first | (refine zG ?_; refine zA rfl ?_) | refine zH ?_
      first | (refine zG ?_; refine zO rfl (Rd.leq rfl rfl) ?_) | refine zH ?_
      refine zO rfl zP ?_; refine zN (zT (XA.condF rfl zY ?_)); refine XA.exit (DA.thn_exit (DA.thn_exit (DA.inb_same (zT (zS (zR (zA rfl ?_))))))); refine zO rfl Rd.asg ?_; refine zN (zT (XA.ret ?_))
      refine bodyA.ret (ResA.one rfl rfl) (Ent.nil _) ⟨n, rfl, ⟨hn0, hn1, fun h => absurd h h2⟩, rfl, rfl⟩
  · 
    have hil : i = l.length := by omega
    subst hil
    rw [List.take_length] at hn2
    refine zS (zS (zR (zA rfl ?_))); refine zV rfl rfl ?_; refine zB rfl rfl (tyrow rfl) rfl ?_; refine zO rfl (Rd.lenSlice (tyrow rfl) rfl rfl) ?_; refine zO rfl (Rd.lss rfl rfl) ?_; refine zA rfl ?_
    first | (refine zG ?_; refine zA rfl ?_) | refine zH ?_
    first | (refine zG ?_; refine zA rfl ?_) | refine zH ?_
    first | (refine zG ?_; refine zO rfl (Rd.leq rfl rfl) ?_) | refine zH ?_
    refine zO rfl zP ?_; refine zN (zT (XA.condF rfl zY ?_)); refine XA.exit (DA.thn_exit (DA.thn_exit (DA.inb_same (zT (zS (zR (zA rfl ?_))))))); refine zO rfl Rd.asg ?_; refine zN (zT (XA.ret ?_))
    refine bodyA.ret (ResA.one rfl rfl) (Ent.nil _) ⟨n, rfl, ⟨hn0, hn1, fun h => by rw [hn2 h, exN]; omega⟩, rfl, rfl⟩
def StPartsOK (σ : PH) (l : List St) : Prop := ∀ (sl : Value) (most : Int), PSl 12 StAt σ sl l → -1000000 ≤ most → most ≤ 1000000 →
  CallsA Tryd.prog 23 #[sl, i64 most] σ [] (RetA fun v σ' Γ' => ∃ r : Int, v = i64 r ∧ (0 ≤ r ∧ (r ≤ 2 * most + 3 ∨ r ≤ 0) ∧ (r ≤ most → r = stsN l)) ∧ σ = σ' ∧ Γ' = [])
theorem stmtParts_l (σ : PH) (l : List St) (ih : ∀ x ∈ l, StPartsOK σ x.body ∧ StPartsOK σ x.els) : StPartsOK σ l := by
  intro sl most hl hm0 hm1
  obtain ⟨pl, cl, rfl, hle, hmx⟩ := hl.shape
  have hlen : l.length ≤ maxLen := by omega
  simp only [maxLen] at hlen
  refine enterA2 Tryd.func23 rfl rfl rfl ?_
  refine zS (zR (zO rfl Rd.asg ?_)); refine zN (zT (zS (zR (zO rfl Rd.asg ?_)))); refine zN (zT (zS (zS (zR (zO rfl Rd.asg ?_))))); refine zN (zT (XA.block ?_))
  refine XA.gen [(0, _), (1, _), (4, _), (5, _), (6, _)] ⟨(by with_reducible (conv => lhs; whnf)), (by with_reducible (conv => lhs; whnf)), (by with_reducible (conv => lhs; whnf)), (by with_reducible (conv => lhs; whnf)), (by with_reducible (conv => lhs; whnf)), trivial⟩ (fun δ => ?_)
  dsimp only [List.foldl]
  refine XA.loop [(5, 67)] (fun q : Nat × Int => [(6, i64 q.1), (5, i64 q.2)]) (fun q σ' Γ' => σ = σ' ∧ q.1 ≤ l.length ∧ (0 ≤ q.2 ∧ (q.2 ≤ 2 * most + 3 ∨ q.2 ≤ 0) ∧ (q.2 ≤ most → q.2 = stsN (l.take q.1))) ∧ Γ' = []) (fun q => l.length - q.1) (0, 0) (by exact ⟨rfl, rfl, trivial⟩) (Δ0 := _) ?_ (⟨rfl, Nat.zero_le _, ⟨by simp only; omega, by simp only; omega, fun _ => by simp [stsN]⟩, rfl⟩) ?_
  · exact zE
  rintro ⟨i, n⟩ δ _ _ ⟨rfl, hi, ⟨hn0, hn1, hn2⟩, rfl⟩
  dsimp only [ovr, List.foldl]
  have hi : i ≤ l.length := hi
  have hn0 : 0 ≤ n := hn0
  have hn1 : n ≤ 2 * most + 3 ∨ n ≤ 0 := hn1
  have hn2 : n ≤ most → n = stsN (l.take i) := hn2
  by_cases h1 : i < l.length
  · by_cases h2 : n ≤ most
    · obtain ⟨x', hx'⟩ : ∃ x', l[i]? = some x' := ⟨_, List.getElem?_eq_getElem h1⟩
      obtain ⟨g, o, row, rfl, hrx, hrl, hrow⟩ := hl.at hx'
      have hone := hrx.ones
      have e1 := stsN_snoc hx'
      have h2n := hn2 h2
      obtain ⟨ihb, ihe⟩ := ih x' (List.mem_of_getElem? hx')
      obtain ⟨pe, de, pf, df, pb, cb, pe', ce, rfl, -, -, hxe, hxf, hxb, hxl⟩ := hrx.inv12
      have r2 : PRow σ g (o + i * 12 + 2) [i64 x'.e.op, i64 x'.e.v, i64 x'.e.n, .slice pe x'.e.l.length de] := hrow.sub (j := 2) rfl
      have r6 : PRow σ g (o + i * 12 + 6) [i64 x'.f.op, i64 x'.f.v, i64 x'.f.n, .slice pf x'.f.l.length df] := hrow.sub (j := 6) rfl
      have r10 : PRow σ g (o + i * 12 + 10) [.slice pb x'.body.length cb] := hrow.sub (j := 10) rfl
      have r11 : PRow σ g (o + i * 12 + 11) [.slice pe' x'.els.length ce] := hrow.sub (j := 11) rfl
      have e2 : stN x' = 1 + exN x'.e + exN x'.f + stsN x'.body + stsN x'.els := by cases x'; simp [stN, St.e, St.f, St.body, St.els]
      refine zS (zS (zR (zA rfl ?_))); refine zA rfl ?_; refine zO rfl (Rd.lenSlice (tyrow rfl) rfl rfl) ?_; refine zO rfl (Rd.lss rfl rfl) ?_; refine zA rfl ?_
      first | (refine zG ?_; refine zA rfl ?_) | refine zH ?_
      first | (refine zG ?_; refine zA rfl ?_) | refine zH ?_
      first | (refine zG ?_; refine zO rfl (Rd.leq rfl rfl) ?_) | refine zH ?_
      refine zO rfl zP ?_; refine zN (zT (XA.condT rfl zY ?_)); refine XA.skip (zT (zS (XA.block (zS ?_))))
      refine XA.draw (by kernel_rfl) _ _ [19] [(0, .pu), (1, .pu), (2, .pu), (3, .pu), (4, .pu), (5, .rd), (6, .pu), (7, .pu), (8, .pu), (11, .pu), (12, .pu), (13, .pu), (14, .pu), (15, .rd), (16, .pu), (17, .pu), (18, .pu), (9, .wr), (10, .pu), (19, .wr), (20, .pu), (21, .pu), (22, .pu)] (by kernel_rfl) (PH.sub.refl _) (Ent.nil _) ?_
      refine XPA.pu rfl rfl Gd.free Rd.mv ?_; refine XPA.pu rfl rfl Gd.free Rd.mv ?_; refine XPA.pu rfl rfl Gd.free Rd.mv ?_; refine XPA.pu rfl rfl Gd.free (Rd.ixS rfl rfl) ?_; refine XPA.pu rfl rfl Gd.free (Rd.fA rfl) ?_; refine XPA.rd rfl rfl Gd.free (Rd.ldA rfl) ?_
      refine XPA.pu rfl rfl Gd.free Rd.mv ?_; refine XPA.pu rfl rfl Gd.free Rd.mv ?_; refine XPA.pu rfl rfl Gd.free (by first | exact Rd.sbi rfl rfl | exact Rd.sub rfl rfl) ?_; refine XPA.pu rfl rfl Gd.free Rd.mv ?_; refine XPA.pu rfl rfl Gd.free Rd.mv ?_; refine XPA.pu rfl rfl Gd.free (Rd.ixS rfl rfl) ?_
      refine XPA.pu rfl rfl Gd.free (Rd.fA rfl) ?_; refine XPA.rd rfl rfl Gd.free (Rd.ldA rfl) ?_; refine XPA.pu rfl rfl Gd.free Rd.mv ?_; refine XPA.pu rfl rfl Gd.free Rd.mv ?_; refine XPA.pu rfl rfl Gd.free (by first | exact Rd.sbi rfl rfl | exact Rd.sub rfl rfl) ?_
      refine XPA.wr0 rfl rfl Gd.free (WrA.cE (exprParts_a σ x'.e _ (most - n) hxe (by omega) (by omega)) rfl) ?_
      rintro _ _ _ ⟨_, ⟨a, rfl, ⟨ha0, ha1, ha2⟩, rfl, rfl⟩, rfl⟩
      refine stays (XPA.cl ?_)
      refine XPA.pu rfl rfl Gd.free zI ?_
      refine XPA.wrZ0 rfl rfl Gd.free (by kernel_rfl) (WrA.cE (exprParts_a σ x'.f _ (most - n) hxf (by omega) (by omega)) rfl) ?_
      rintro _ _ _ ⟨_, ⟨b, rfl, ⟨hb0, hb1, hb2⟩, rfl, rfl⟩, rfl⟩
      refine XPA.cl ?_; refine XPA.pu rfl rfl Gd.free zI ?_; refine XPA.pu rfl rfl Gd.free zI ?_; refine XPA.pu rfl rfl Gd.free Rd.asg ?_; refine XPA.nil ?_; refine zT (zS (zS (zR (zA rfl ?_)))); refine zA rfl ?_; refine zO rfl (Rd.leq rfl rfl) ?_; refine zN (zT ?_)
      refine XA.join [(5, 5), (43, 53)] (fun q : Int => [(5, i64 q)]) (fun q σ' Γ' => σ = σ' ∧ (0 ≤ q ∧ (q ≤ 2 * most + 3 ∨ q ≤ 0) ∧ (q ≤ most → q = stsN (l.take i) + 1 + exN x'.e + exN x'.f + stsN x'.body)) ∧ Γ' = []) ?_ ?_
      · 
        refine XA.condp rfl (fun h3 => ?_) (fun h3 => ?_)
        · refine zR ?_
          refine zA rfl ?_; refine zA rfl ?_; refine zA rfl ?_; refine zO rfl (Rd.ixS rfl rfl) ?_; refine zV rfl rfl ?_; refine zB rfl rfl (tyrow rfl) rfl ?_; refine zA rfl ?_; refine zA rfl ?_; refine zO rfl (by first | exact Rd.sbi rfl rfl | exact Rd.sub rfl rfl) ?_
          refine XOA.wr0 rfl (WrA.cE (ihb _ (most - (n + (1 + a + b))) hxb (by omega) (by omega)) rfl) ?_
          rintro _ _ _ ⟨_, ⟨c, rfl, ⟨hc0, hc1, hc2⟩, rfl, rfl⟩, rfl⟩
          refine XOA.cl ?_; refine zO rfl zI ?_; refine zO rfl Rd.asg ?_; refine zN (zT ?_)
          have k1 := ha2 (by omega)
          have k2 := hb2 (by omega)
          refine ⟨(Keep.upd (Keep.upd (Keep.updO (Keep.upd (Keep.upd (Keep.upd (Keep.upd (Keep.upd (Keep.upd (Keep.upd (Keep.upd (Keep.upd (Keep.refl _ _) rfl) rfl) rfl) rfl) rfl) rfl) rfl) rfl) rfl) rfl) rfl) rfl), n + (1 + a + b) + c, _, zM, ?_, ⟨rfl, ⟨by omega, by omega, fun h => by have := hc2 (by omega); omega⟩, rfl⟩⟩
          · exact zE
        · refine XA.skip ?_
          refine zT ?_
          refine ⟨(Keep.refl _ _), n + (1 + a + b), _, zM, ?_, ⟨rfl, ⟨by omega, by omega, fun h => absurd h h3⟩, rfl⟩⟩
          · exact zE
      rintro q δ2 _ _ ⟨rfl, ⟨hq0, hq1, hq2⟩, rfl⟩
      dsimp only [ovr, List.foldl]
      refine zT (zS (zR (zA rfl ?_))); refine zA rfl ?_; refine zO rfl (Rd.leq rfl rfl) ?_; refine zN (zT ?_)
      refine XA.join [(5, 5), (57, 67)] (fun q : Int => [(5, i64 q)]) (fun q σ' Γ' => σ = σ' ∧ (0 ≤ q ∧ (q ≤ 2 * most + 3 ∨ q ≤ 0) ∧ (q ≤ most → q = stsN (l.take i) + 1 + exN x'.e + exN x'.f + stsN x'.body + stsN x'.els)) ∧ Γ' = []) ?_ ?_
      · 
        refine XA.condp rfl (fun h3 => ?_) (fun h3 => ?_)
        · have hq3 := hq2 h3
          refine zR (zA rfl ?_); refine zA rfl ?_; refine zA rfl ?_; refine zO rfl (Rd.ixS rfl rfl) ?_; refine zV rfl rfl ?_; refine zB rfl rfl (tyrow rfl) rfl ?_; refine zA rfl ?_; refine zA rfl ?_; refine zO rfl (by first | exact Rd.sbi rfl rfl | exact Rd.sub rfl rfl) ?_
          refine XOA.wr0 rfl (WrA.cE (ihe _ (most - q) hxl (by omega) (by omega)) rfl) ?_
          rintro _ _ _ ⟨_, ⟨c, rfl, ⟨hc0, hc1, hc2⟩, rfl, rfl⟩, rfl⟩
          refine XOA.cl ?_; refine zO rfl zI ?_; refine zO rfl Rd.asg ?_; refine zN (zT ?_)
          refine ⟨(Keep.upd (Keep.upd (Keep.updO (Keep.upd (Keep.upd (Keep.upd (Keep.upd (Keep.upd (Keep.upd (Keep.upd (Keep.upd (Keep.upd (Keep.refl _ _) rfl) rfl) rfl) rfl) rfl) rfl) rfl) rfl) rfl) rfl) rfl) rfl), q + c, _, zM, ?_, ⟨rfl, ⟨by omega, by omega, fun h => by have := hc2 (by omega); omega⟩, rfl⟩⟩
          · exact zE
        · refine XA.skip ?_
          refine zT ?_
          refine ⟨(Keep.refl _ _), q, _, zM, ?_, ⟨rfl, ⟨by omega, by omega, fun h => absurd h h3⟩, rfl⟩⟩
          · exact zE
      rintro q2 δ3 _ _ ⟨rfl, ⟨hs0, hs1, hs2⟩, rfl⟩
      dsimp only [ovr, List.foldl]
      refine DA.inb_normal (zT (zR (zA rfl ?_))); refine zO rfl zI ?_; refine zO rfl Rd.asg ?_; refine zN (zT ?_)
      refine ⟨(Keep.upd (Keep.upd (Keep.upd (Keep.upd (Keep.hav (Keep.hav (Keep.upd (Keep.upd (Keep.upd (Keep.upd (Keep.hav (Keep.hav (Keep.upd (Keep.upd (Keep.upd (Keep.upd (Keep.upd (Keep.upd (Keep.updO (Keep.upd (Keep.updO (Keep.upd (Keep.upd (Keep.upd (Keep.upd (Keep.upd (Keep.upd (Keep.upd (Keep.upd (Keep.upd (Keep.upd (Keep.upd (Keep.upd (Keep.upd (Keep.upd (Keep.upd (Keep.upd (Keep.upd (Keep.upd (Keep.upd (Keep.upd (Keep.upd (Keep.upd (Keep.upd (Keep.upd (Keep.upd (Keep.upd (Keep.upd (Keep.upd (Keep.hav (Keep.refl _ _) rfl) rfl) rfl) rfl) rfl) rfl) rfl) rfl) rfl) rfl) rfl) rfl) rfl) rfl) rfl) rfl) rfl) rfl) rfl) rfl) rfl) rfl) rfl) rfl) rfl) rfl) rfl) rfl) rfl) rfl) rfl) rfl) rfl) rfl) rfl) rfl) rfl) rfl) rfl) rfl) rfl) rfl) rfl) rfl) rfl) rfl) rfl) rfl) rfl) rfl), (i + 1, q2), _, zM, ?_, ⟨rfl, h1, ⟨hs0, hs1, fun h => by simp only at h ⊢; rw [e1]; have := hs2 h; omega⟩, rfl⟩, (by simp only; omega)⟩
      · exact zE
    · 
      refine zS (zS (zR (zA rfl ?_))); refine zA rfl ?_; refine zO rfl (Rd.lenSlice (tyrow rfl) rfl rfl) ?_; refine zO rfl (Rd.lss rfl rfl) ?_; refine zA rfl ?_
      first | (refine zG ?_; refine zA rfl ?_) | refine zH ?_
      first | (refine zG ?_; refine zA rfl ?_) | refine zH ?_
      first | (refine zG ?_; refine zO rfl (Rd.leq rfl rfl) ?_) | refine zH ?_
      refine zO rfl zP ?_; refine zN (zT (XA.condF rfl zY ?_)); refine XA.exit (DA.thn_exit (DA.thn_exit (DA.inb_same (zT (zS (zR (zA rfl ?_))))))); refine zO rfl Rd.asg ?_; refine zN (zT (XA.ret ?_))
      refine bodyA.ret (ResA.one rfl rfl) (Ent.nil _) ⟨n, rfl, ⟨hn0, hn1, fun h => absurd h h2⟩, rfl, rfl⟩
  · 
    have hil : i = l.length := by omega
    subst hil
    rw [List.take_length] at hn2
    refine zS (zS (zR (zA rfl ?_))); refine zA rfl ?_; refine zO rfl (Rd.lenSlice (tyrow rfl) rfl rfl) ?_; refine zO rfl (Rd.lss rfl rfl) ?_; refine zA rfl ?_
    first | (refine zG ?_; refine zA rfl ?_) | refine zH ?_
    first | (refine zG ?_; refine zA rfl ?_) | refine zH ?_
    first | (refine zG ?_; refine zO rfl (Rd.leq rfl rfl) ?_) | refine zH ?_
    refine zO rfl zP ?_; refine zN (zT (XA.condF rfl zY ?_)); refine XA.exit (DA.thn_exit (DA.thn_exit (DA.inb_same (zT (zS (zR (zA rfl ?_))))))); refine zO rfl Rd.asg ?_; refine zN (zT (XA.ret ?_))
    refine bodyA.ret (ResA.one rfl rfl) (Ent.nil _) ⟨n, rfl, ⟨hn0, hn1, fun h => hn2 h⟩, rfl, rfl⟩
theorem stParts_x (σ : PH) (x : St) : StPartsOK σ x.body ∧ StPartsOK σ x.els := by
  refine St.ind (P := fun x => StPartsOK σ x.body ∧ StPartsOK σ x.els) ?_ x
  intro op v e f body els ih jh
  exact ⟨stmtParts_l σ body ih, stmtParts_l σ els jh⟩
theorem stmtParts_a (σ : PH) (l : List St) : StPartsOK σ l := stmtParts_l σ l (fun x _ => stParts_x σ x)
/-- A program that is not great. -/
def Small (p : Pr) : Prop := p.vars.length ≤ 30 ∧ (∀ x ∈ p.vars, x.name.size ≤ 100) ∧ stsN p.body ≤ 900
theorem great_a (σ : PH) (cs : List Value) (p : Pr) (hp : PrAt σ cs p) : CallsA Tryd.prog 11 #[.agg cs.toArray] σ [] (RetA fun v σ' Γ' => ∃ b : Bool, v = .bool b ∧ (b = false → Small p) ∧ σ = σ' ∧ Γ' = []) := by
  obtain ⟨vs, bs, rfl, hv, hb⟩ := hp
  obtain ⟨pv, cv, rfl, hvl, hvm⟩ := hv.shape
  have hlen : p.vars.length ≤ maxLen := by omega
  simp only [maxLen] at hlen
  refine enterA1 Tryd.func11 rfl rfl rfl ?_
  refine zS (zR ?_)
  refine XOA.wr0 rfl WrA.bx ?_
  rintro _ _ _ ⟨g1, rfl, rfl, rfl⟩
  refine zO rfl Rd.asg ?_; refine zN (zT (zS (zS (zR (zO rfl Rd.asg ?_))))); refine zN (zT (XA.block ?_))
  refine XA.gen [(1, _), (2, _), (3, _)] ⟨(by with_reducible (conv => lhs; whnf)), (by with_reducible (conv => lhs; whnf)), (by with_reducible (conv => lhs; whnf)), trivial⟩ (fun δ => ?_)
  dsimp only [List.foldl]
  refine XA.loop [(2, 22)] (fun q : Nat => [(3, i64 q)]) (fun q σ' Γ' => σ = σ' ∧ q ≤ p.vars.length ∧ (∀ (j : Nat) x, j < q → p.vars[j]? = some x → x.name.size ≤ 100) ∧ Γ' = [blk g1 [.slice pv p.vars.length cv, bs] 25]) (fun q => p.vars.length - q) 0 (by exact ⟨rfl, trivial⟩) (Δ0 := _) ?_ (⟨rfl, Nat.zero_le _, fun j x h => absurd h (Nat.not_lt_zero _), rfl⟩) ?_
  · exact zE
  rintro i δ _ _ ⟨rfl, hi, hall, rfl⟩
  dsimp only [ovr, List.foldl]
  by_cases h1 : i < p.vars.length
  · by_cases h2 : i < 30
    · obtain ⟨x', hx'⟩ : ∃ x', p.vars[i]? = some x' := ⟨_, List.getElem?_eq_getElem h1⟩
      obtain ⟨g, o, row, rfl, ⟨rfl, hrx, hns⟩, hrl, hrow⟩ := hv.at hx'
      have r0 : PRow σ g (o + i * 2) [.string x'.name] := hrow.sub (j := 0) rfl
      refine zS (zS (zR (zA rfl ?_))); refine zV rfl rfl ?_; refine zB rfl rfl (tyrow rfl) rfl ?_; refine zO rfl (Rd.lenSlice (tyrow rfl) rfl rfl) ?_; refine zO rfl (Rd.lss rfl rfl) ?_; refine zA rfl ?_
      first | (refine zG ?_; refine zA rfl ?_) | refine zH ?_
      first | (refine zG ?_; refine zO rfl (Rd.lss rfl rfl) ?_) | refine zH ?_
      refine zO rfl zP ?_; refine zN (zT (XA.condT rfl zY ?_)); refine XA.skip (zT (zS (XA.block (zS (zR (zV rfl rfl ?_)))))); refine zB rfl rfl (tyrow rfl) rfl ?_; refine zA rfl ?_; refine zO rfl (Rd.ixS rfl rfl) ?_; refine zV rfl rfl ?_; refine zB rfl rfl (tyrow rfl) rfl ?_
      refine zO rfl (Rd.lenString (tyrow rfl) rfl rfl) ?_; refine zO rfl (Rd.gtr rfl rfl) ?_; refine zN (zT ?_)
      refine XA.condp rfl (fun h3 => ?_) (fun h3 => ?_)
      · refine zS ?_
        refine zR (zO rfl Rd.asg ?_); refine zN (zT (XA.ret (DA.inb_ret (DA.thn_ret (DA.thn_ret (DA.inb_ret (DA.thn_ret ?_)))))))
        refine bodyA.ret (ResA.one rfl rfl) (Ent.nil _) ⟨true, rfl, fun h => (by cases h), rfl, rfl⟩
      have hnew : ∀ (j : Nat) x, j < i + 1 → p.vars[j]? = some x → x.name.size ≤ 100 := fun j x hj hx => by
        rcases Nat.lt_or_ge j i with h | h
        · exact hall j x h hx
        · have : j = i := by omega
          subst this
          rw [hx'] at hx; simp only [Option.some.injEq] at hx; subst hx
          omega
      refine XA.skip (DA.inb_normal (zT (zR (zA rfl ?_)))); refine zO rfl zI ?_; refine zO rfl Rd.asg ?_; refine zN (zT ?_)
      refine ⟨(Keep.upd (Keep.upd (Keep.upd (Keep.upd (Keep.upd (Keep.upd (Keep.upd (Keep.upd (Keep.upd (Keep.upd (Keep.upd (Keep.upd (Keep.upd (Keep.upd (Keep.upd (Keep.upd (Keep.upd (Keep.upd (Keep.upd (Keep.upd (Keep.upd (Keep.hav (Keep.refl _ _) rfl) rfl) rfl) rfl) rfl) rfl) rfl) rfl) rfl) rfl) rfl) rfl) rfl) rfl) rfl) rfl) rfl) rfl) rfl) rfl) rfl) rfl), i + 1, _, zM, ?_, ⟨rfl, h1, hnew, rfl⟩, (by omega)⟩
      · exact zE
    · 
      refine zS (zS (zR (zA rfl ?_))); refine zV rfl rfl ?_; refine zB rfl rfl (tyrow rfl) rfl ?_; refine zO rfl (Rd.lenSlice (tyrow rfl) rfl rfl) ?_; refine zO rfl (Rd.lss rfl rfl) ?_; refine zA rfl ?_
      first | (refine zG ?_; refine zA rfl ?_) | refine zH ?_
      first | (refine zG ?_; refine zO rfl (Rd.lss rfl rfl) ?_) | refine zH ?_
      refine zO rfl zP ?_; refine zN (zT (XA.condF rfl zY ?_)); refine XA.exit (DA.thn_exit (DA.thn_exit (DA.inb_same (zT (zS (zR (zV rfl rfl ?_))))))); refine zB rfl rfl (tyrow rfl) rfl ?_; refine zO rfl (Rd.lenSlice (tyrow rfl) rfl rfl) ?_
      by_cases hbig : 30 < p.vars.length
      · 
        refine zO rfl (Rd.gtr rfl rfl) ?_; refine zA rfl ?_
        first | (refine zG ?_; refine zV rfl rfl ?_) | refine zH ?_
        first | (refine zG ?_; refine zB rfl rfl (tyrow rfl) rfl ?_) | refine zH ?_
        first | refine zH ?_
        first | (refine zG ?_; refine zO rfl (Rd.gtr rfl rfl) ?_) | refine zH ?_
        refine zO rfl zP ?_; refine zO rfl Rd.asg ?_; refine zN (zT (XA.ret ?_))
        exact bodyA.ret (ResA.one rfl rfl) (Ent.nil _) ⟨true, rfl, fun h => (by cases h), rfl, rfl⟩
      · exfalso; omega
  · 
    refine zS (zS (zR (zA rfl ?_))); refine zV rfl rfl ?_; refine zB rfl rfl (tyrow rfl) rfl ?_; refine zO rfl (Rd.lenSlice (tyrow rfl) rfl rfl) ?_; refine zO rfl (Rd.lss rfl rfl) ?_; refine zA rfl ?_
    first | (refine zG ?_; refine zA rfl ?_) | refine zH ?_
    first | (refine zG ?_; refine zO rfl (Rd.lss rfl rfl) ?_) | refine zH ?_
    refine zO rfl zP ?_; refine zN (zT (XA.condF rfl zY ?_)); refine XA.exit (DA.thn_exit (DA.thn_exit (DA.inb_same (zT (zS (zR (zV rfl rfl ?_))))))); refine zB rfl rfl (tyrow rfl) rfl ?_; refine zO rfl (Rd.lenSlice (tyrow rfl) rfl rfl) ?_
    by_cases hbig : 30 < p.vars.length
    · 
      refine zO rfl (Rd.gtr rfl rfl) ?_; refine zA rfl ?_
      first | (refine zG ?_; refine zV rfl rfl ?_) | refine zH ?_
      first | (refine zG ?_; refine zB rfl rfl (tyrow rfl) rfl ?_) | refine zH ?_
      first | refine zH ?_
      first | (refine zG ?_; refine zO rfl (Rd.gtr rfl rfl) ?_) | refine zH ?_
      refine zO rfl zP ?_; refine zO rfl Rd.asg ?_; refine zN (zT (XA.ret ?_))
      exact bodyA.ret (ResA.one rfl rfl) (Ent.nil _) ⟨true, rfl, fun h => (by cases h), rfl, rfl⟩
    · 
      refine zO rfl (Rd.gtr rfl rfl) ?_; refine zA rfl ?_
      first | (refine zG ?_; refine zV rfl rfl ?_) | refine zH ?_
      first | (refine zG ?_; refine zB rfl rfl (tyrow rfl) rfl ?_) | refine zH ?_
      first | refine XOA.wanted rfl rfl ?_ | refine XOA.wq rfl rfl ?_
      refine XOA.wr0 rfl (WrA.cE (stmtParts_a σ p.body _ 900 hb (by decide) (by decide)) rfl) ?_
      rintro _ _ _ ⟨_, ⟨r, rfl, ⟨hr0, hr1, hr2⟩, rfl, rfl⟩, rfl⟩
      refine XOA.cl ?_
      first | (refine zG ?_; refine zO rfl (Rd.gtr rfl rfl) ?_) | refine zH ?_
      refine zO rfl zP ?_; refine zO rfl Rd.asg ?_; refine zN (zT (XA.ret ?_))
      refine bodyA.ret (ResA.one rfl rfl) (Ent.nil _) ⟨decide (900 < r), rfl, fun h => ⟨by omega, fun x hx => ?_, ?_⟩, rfl, rfl⟩
      · obtain ⟨j, hj, e⟩ := List.mem_iff_getElem.1 hx
        exact hall j x (by omega) (by rw [List.getElem?_eq_getElem hj, e])
      · have := hr2 (by simpa using h); have : ¬ 900 < r := of_decide_eq_false h; omega
end Go.Proofs.YthefnnkmpcgcmaaDoor

namespace Go.Proofs.YthefnnkmpcgcmaaDoor
open Go X
set_option maxHeartbeats 1000000
def OwnExOK (x : Ex) : Prop := ∀ (σ : PH) (cs : List Value), ExAt σ cs x → exN x ≤ 1000 →
  CallsA Tryd.prog 46 #[.agg cs.toArray] σ [] (RetA fun v σ' Γ' => ∃ cs' : List Value, v = .agg cs'.toArray ∧ ExAt σ' cs' x ∧ σ.sub σ' ∧ Γ' = [])
theorem ownExpr_a (x : Ex) : OwnExOK x := by
  refine Ex.ind (P := OwnExOK) ?_ x
  intro op v k l ih σ cs hx hN
  obtain ⟨pl, cl, rfl, ho, hv, hk, hl⟩ := hx.inv
  simp only [Ex.op, Ex.v, Ex.n, Ex.l] at ho hv hk hl ⊢
  clear hx
  have hlen : l.length ≤ 1000 := by have := exsN_len l; rw [exN] at hN; omega
  have hNl : exsN l ≤ 1000 := by rw [exN] at hN; omega
  refine enterA1 Tryd.func46 rfl rfl rfl ?_
  refine zS (zR ?_)
  refine XOA.wr0 rfl WrA.bx ?_
  rintro _ _ _ ⟨g1, rfl, rfl, rfl⟩
  refine XOA.wr0 rfl (WrA.alloc (tyrow rfl)) ?_
  rintro _ _ _ ⟨g2, rfl, rfl, rfl⟩
  refine zN (zT (zS (zR (zV rfl rfl ?_)))); refine zB rfl rfl (tyrow rfl) rfl ?_; refine zV rfl rfl ?_; refine zB rfl rfl (tyrow rfl) rfl ?_; refine zV rfl rfl ?_; refine zB rfl rfl (tyrow rfl) rfl ?_
  refine zO rfl (Rd.bl (fun _ _ => tyrow) rfl rfl rfl) ?_
  refine XOA.wr0 rfl (WrA.alloc (tyrow rfl)) ?_
  rintro _ _ _ ⟨g3, rfl, rfl, rfl⟩
  refine XOA.wr0 rfl (WrA.st (tyrow rfl) rfl) ?_
  rintro _ _ _ ⟨rfl, rfl, rfl⟩
  refine zN (zT (zS (zS (zR (zO rfl Rd.asg ?_))))); refine zN (zT (XA.block ?_))
  refine XA.gen [(1, _), (2, _), (3, _), (4, _)] ⟨(by with_reducible (conv => lhs; whnf)), (by with_reducible (conv => lhs; whnf)), (by with_reducible (conv => lhs; whnf)), (by with_reducible (conv => lhs; whnf)), trivial⟩ (fun δ => ?_)
  dsimp only [List.foldl]
  refine XA.loop [(4, 4), (12, 29)] (fun i : Nat => [(4, i64 i)]) (fun i σ' Γ' => σ.sub σ' ∧ i ≤ l.length ∧ ∃ (p : Option Addr) (c : Nat) (rows : List (List Value)), Rows_ 4 ExAt σ' rows (l.take i) ∧ Γ' = [lst 54 4 (.slice p i c) i rows.flatten, blk g3 [i64 op, i64 v, i64 k, .slice p i c] 54, blk g1 [i64 op, i64 v, i64 k, .slice pl l.length cl] 54, blk g2 ty54.zero 54]) (fun i => l.length - i) 0 (by exact ⟨rfl, trivial⟩) (Δ0 := _) ?_ (⟨.refl _, Nat.zero_le _, none, 0, [], Rows_.nil _ _ _, rfl⟩) ?_
  · exact zE
  rintro i δ σ1 _ ⟨hs1, hi, p, c, rows, hrows, rfl⟩
  dsimp only [ovr, List.foldl]
  refine zS (zS (zR (zA rfl ?_))); refine zV rfl rfl ?_; refine zB rfl rfl (tyrow rfl) rfl ?_; refine zO rfl (Rd.lenSlice (tyrow rfl) rfl rfl) ?_; refine zO rfl (Rd.lss rfl rfl) ?_; refine zN (zT ?_)
  refine XA.condp rfl (fun hlt => ?_) (fun hlt => ?_)
  · have hlt : i < l.length := by omega
    obtain ⟨x', hx'⟩ : ∃ x', l[i]? = some x' := ⟨_, List.getElem?_eq_getElem hlt⟩
    have hl1 := hl.mono hs1 (fun _ _ h => h.mono hs1)
    obtain ⟨g, o, row, rfl, hrx, hrl, hrow⟩ := hl1.at hx'
    have hNx : exN x' ≤ 1000 := by have := exsN_snoc hx'; have h2 := exsN_app (l.take (i + 1)) (l.drop (i + 1)); rw [List.take_append_drop] at h2; omega
    refine XA.skip (zT (zS (XA.block ?_)))
    refine XA.draw (by kernel_rfl) _ _ [9, 11] [(0, .pu), (1, .rd), (2, .pu), (3, .rd), (4, .pu), (5, .pu), (6, .rd), (7, .wr), (8, .wr), (9, .wr), (10, .pu), (11, .wr)] (by kernel_rfl) (PH.sub.refl _) (Ent.sel (R := blk g3 _ _) zL (Ent.sel (R := blk g1 _ _) zL (Ent.nil _))) ?_
    refine XPA.pu rfl rfl Gd.free (Rd.fA rfl) ?_; refine XPA.rd rfl rfl Gd.free (Rd.ldC rfl (tyrow rfl) rfl) ?_; refine XPA.pu rfl rfl Gd.free (Rd.fA rfl) ?_; refine XPA.rd rfl rfl Gd.free (Rd.ldC rfl (tyrow rfl) rfl) ?_; refine XPA.pu rfl rfl Gd.free Rd.mv ?_
    refine XPA.pu rfl rfl Gd.free (Rd.ixS rfl rfl) ?_; refine XPA.rd rfl rfl Gd.free (Rd.ldA rfl) ?_
    refine XPA.wr0 rfl rfl Gd.free (WrA.cE (ih x' (List.mem_of_getElem? hx') σ1 row hrx hNx) rfl) ?_
    rintro _ σ2 _ ⟨_, ⟨cs2, rfl, hcs2, hs2, rfl⟩, rfl⟩
    refine stays (XPA.cl ?_)
    have hl2 := hcs2.len
    have hone2 := hcs2.ones
    refine XPA.wr0 rfl rfl Gd.free (WrA.bs1 (tyrow rfl) rfl (tyrow rfl)) ?_
    rintro _ _ _ ⟨g27, rfl, rfl, rfl⟩
    refine stays ?_
    refine XPA.wrZ0 rfl rfl Gd.free (by kernel_rfl) (WrA.ap1 (tyrow rfl) rfl (tyrow rfl) rfl rfl rfl) ?_
    rintro _ _ _ ⟨p28, c28, rfl, rfl, rfl⟩
    refine XPA.pu rfl rfl Gd.free (Rd.fA rfl) ?_
    refine XPA.wrZ0 rfl rfl Gd.free (by kernel_rfl) (WrA.st (tyrow rfl) rfl) ?_
    rintro _ _ _ ⟨rfl, rfl, rfl⟩
    refine XPA.nil ?_; refine DA.inb_normal (zT (zR (zA rfl ?_))); refine zO rfl zI ?_; refine zO rfl Rd.asg ?_; refine zN (zT ?_)
    have hnew : Rows_ 4 ExAt σ2 (rows ++ [cs2]) (l.take (i + 1)) := by rw [takeS hx']; exact (hrows.mono (fun _ _ h => h.mono hs2)).snoc hl2 hcs2
    refine ⟨(Keep.upd (Keep.upd (Keep.upd (Keep.updN (Keep.upd (Keep.updO (Keep.updO (Keep.updO (Keep.upd (Keep.upd (Keep.upd (Keep.upd (Keep.upd (Keep.upd (Keep.upd (Keep.upd (Keep.upd (Keep.upd (Keep.upd (Keep.upd (Keep.upd (Keep.hav (Keep.hav (Keep.refl _ _) rfl) rfl) rfl) rfl) rfl) rfl) rfl) rfl) rfl) rfl) rfl) rfl) rfl) rfl) rfl) rfl) rfl) rfl) rfl)) rfl) rfl) rfl), i + 1, _, zM, ?_, ⟨hs1.trans hs2, hlt, p28, c28, rows ++ [cs2], hnew, rfl⟩, (by omega)⟩
    · rw [flatS]; exact zE
  have hil : i = l.length := by omega
  subst hil
  rw [List.take_length] at hrows
  refine XA.exit (DA.thn_exit (DA.thn_exit (DA.inb_same (zT (zS (zR (zO rfl (Rd.ldA rfl) ?_)))))))
  refine XOA.wr0 rfl (WrA.st (tyrow rfl) rfl) ?_
  rintro _ _ _ ⟨rfl, rfl, rfl⟩
  refine zN (zT (XA.ret ?_))
  refine DA.frz (R := lst 54 4 _ _ _) zL lst_frz lst_frz_mono ?_
  rintro σ3 ⟨⟩ hf hs3
  have hfin : ExAt σ3 [i64 op, i64 v, i64 k, .slice p l.length c] (.mk op v k l) := ExAt.of ho hv hk ((hrows.mono (fun _ _ h => h.mono hs3)).psl rfl hf)
  exact bodyA.ret (ResA.cell rfl rfl (Ld.atBlk (tyrow rfl) rfl zL rfl (by first | exact take0 (by first | rfl | assumption | (refine (ints_len _).trans ?_; assumption) | (simp [*]; (first | done | fail))) | assumption | exact take_app (by first | rfl | assumption | (refine (ints_len _).trans ?_; assumption) | (simp [*]; (first | done | fail))) | (conv => lhs; simp only [List.drop_succ_cons, List.drop_zero, List.take_succ_cons, List.take_zero])) (by first | rfl | assumption | (refine (ints_len _).trans ?_; assumption) | (simp [*]; (first | done | fail))))) (Ent.nil _) ⟨_, rfl, hfin, hs1.trans hs3, rfl⟩
def OwnListOK (l : List St) : Prop := ∀ (σ : PH) (sl : Value), PSl 12 StAt σ sl l → stsN l ≤ 1000 →
  CallsA Tryd.prog 24 #[sl] σ [] (RetA fun v σ' Γ' => ∃ (p : Option Addr) (c : Nat) (rows : List (List Value)), v = .slice p l.length c ∧ Rows_ 12 StAt σ' rows l ∧ σ.sub σ' ∧ Γ' = [lst 56 12 (.slice p l.length c) l.length rows.flatten])
theorem ownList_l (l : List St) (ih : ∀ x ∈ l, OwnListOK x.body ∧ OwnListOK x.els) : OwnListOK l := by
  intro σ sl hl hN
  obtain ⟨pl, cl, rfl, hle, hmx⟩ := hl.shape
  have hlen : l.length ≤ 1000 := by have := stsN_len l; omega
  refine enterA1 Tryd.func24 rfl rfl rfl ?_
  refine zS (zR (zO rfl Rd.asg ?_)); refine zN (zT (zS (zR (zO rfl Rd.asg ?_)))); refine zN (zT (zS (zS (zR (zO rfl Rd.asg ?_))))); refine zN (zT (XA.block ?_))
  refine XA.gen [(0, _), (2, _), (3, _), (4, _)] ⟨(by with_reducible (conv => lhs; whnf)), (by with_reducible (conv => lhs; whnf)), (by with_reducible (conv => lhs; whnf)), (by with_reducible (conv => lhs; whnf)), trivial⟩ (fun δ => ?_)
  dsimp only [List.foldl]
  refine XA.loop [(3, 48)] (fun q : Nat × (Option Addr × Nat) => [(4, i64 q.1), (3, .slice q.2.1 q.1 q.2.2)]) (fun q σ' Γ' => σ.sub σ' ∧ q.1 ≤ l.length ∧ ∃ (rows : List (List Value)), Rows_ 12 StAt σ' rows (l.take q.1) ∧ Γ' = [lst 56 12 (.slice q.2.1 q.1 q.2.2) q.1 rows.flatten]) (fun q => l.length - q.1) (0, (none, 0)) (by exact ⟨rfl, rfl, trivial⟩) (Δ0 := _) ?_ (⟨.refl _, Nat.zero_le _, [], Rows_.nil _ _ _, rfl⟩) ?_
  · exact zE
  rintro ⟨i, p, c⟩ δ σ1 _ ⟨hs1, hi, rows, hrows, rfl⟩
  dsimp only [ovr, List.foldl]
  have hi : i ≤ l.length := hi
  have hrows : Rows_ 12 StAt σ1 rows (l.take i) := hrows
  refine zS (zS (zR (zA rfl ?_))); refine zA rfl ?_; refine zO rfl (Rd.lenSlice (tyrow rfl) rfl rfl) ?_; refine zO rfl (Rd.lss rfl rfl) ?_; refine zN (zT ?_)
  refine XA.condp rfl (fun hlt => ?_) (fun hlt => ?_)
  · have hlt : i < l.length := by omega
    obtain ⟨x', hx'⟩ : ∃ x', l[i]? = some x' := ⟨_, List.getElem?_eq_getElem hlt⟩
    obtain ⟨ihb, ihe⟩ := ih x' (List.mem_of_getElem? hx')
    have hl1 := hl.mono hs1 (fun _ _ h => h.mono hs1)
    obtain ⟨g, o, row, rfl, hrx, hrl, hrow⟩ := hl1.at hx'
    have hNx : stN x' ≤ 1000 := by have := stsN_snoc hx'; have h2 := stsN_app (l.take (i + 1)) (l.drop (i + 1)); rw [List.take_append_drop] at h2; omega
    have e2 : stN x' = 1 + exN x'.e + exN x'.f + stsN x'.body + stsN x'.els := by cases x'; simp [stN, St.e, St.f, St.body, St.els]
    obtain ⟨pe, de, pf, df, pb, cb, pe', ce, rfl, ho, hv, hxe, hxf, hxb, hxl⟩ := hrx.inv12
    have r0 : PRow σ1 g (o + i * 12) [i64 x'.op] := hrow.sub (j := 0) rfl
    have r1 : PRow σ1 g (o + i * 12 + 1) [i64 x'.v] := hrow.sub (j := 1) rfl
    have r2 : PRow σ1 g (o + i * 12 + 2) [i64 x'.e.op, i64 x'.e.v, i64 x'.e.n, .slice pe x'.e.l.length de] := hrow.sub (j := 2) rfl
    have r6 : PRow σ1 g (o + i * 12 + 6) [i64 x'.f.op, i64 x'.f.v, i64 x'.f.n, .slice pf x'.f.l.length df] := hrow.sub (j := 6) rfl
    have r10 : PRow σ1 g (o + i * 12 + 10) [.slice pb x'.body.length cb] := hrow.sub (j := 10) rfl
    have r11 : PRow σ1 g (o + i * 12 + 11) [.slice pe' x'.els.length ce] := hrow.sub (j := 11) rfl
    refine XA.skip (zT (zS (XA.block ?_)))
    refine XA.draw (by kernel_rfl) _ _ [36, 37] [(0, .pu), (1, .pu), (2, .pu), (3, .pu), (4, .pu), (5, .rd), (6, .pu), (7, .pu), (8, .pu), (9, .pu), (10, .rd), (11, .pu), (12, .pu), (13, .pu), (14, .pu), (15, .rd), (17, .pu), (18, .pu), (19, .pu), (20, .pu), (21, .rd), (23, .pu), (24, .pu), (25, .pu), (26, .pu), (27, .rd), (29, .pu), (30, .pu), (31, .pu), (32, .pu), (33, .rd), (16, .wr), (22, .wr), (28, .wr), (34, .wr), (35, .pu), (36, .wr), (37, .wr), (38, .pu)] (by kernel_rfl) (PH.sub.refl _) (Ent.nil _) ?_
    refine XPA.pu rfl rfl Gd.free Rd.mv ?_; refine XPA.pu rfl rfl Gd.free Rd.mv ?_; refine XPA.pu rfl rfl Gd.free Rd.mv ?_; refine XPA.pu rfl rfl Gd.free (Rd.ixS rfl rfl) ?_; refine XPA.pu rfl rfl Gd.free (Rd.fA rfl) ?_; refine XPA.rd rfl rfl Gd.free (Rd.ldC rfl (tyrow rfl) rfl) ?_
    refine XPA.pu rfl rfl Gd.free Rd.mv ?_; refine XPA.pu rfl rfl Gd.free Rd.mv ?_; refine XPA.pu rfl rfl Gd.free (Rd.ixS rfl rfl) ?_; refine XPA.pu rfl rfl Gd.free (Rd.fA rfl) ?_; refine XPA.rd rfl rfl Gd.free (Rd.ldC rfl (tyrow rfl) rfl) ?_; refine XPA.pu rfl rfl Gd.free Rd.mv ?_
    refine XPA.pu rfl rfl Gd.free Rd.mv ?_; refine XPA.pu rfl rfl Gd.free (Rd.ixS rfl rfl) ?_; refine XPA.pu rfl rfl Gd.free (Rd.fA rfl) ?_; refine XPA.rd rfl rfl Gd.free (Rd.ldA rfl) ?_; refine XPA.pu rfl rfl Gd.free Rd.mv ?_; refine XPA.pu rfl rfl Gd.free Rd.mv ?_
    refine XPA.pu rfl rfl Gd.free (Rd.ixS rfl rfl) ?_; refine XPA.pu rfl rfl Gd.free (Rd.fA rfl) ?_; refine XPA.rd rfl rfl Gd.free (Rd.ldA rfl) ?_; refine XPA.pu rfl rfl Gd.free Rd.mv ?_; refine XPA.pu rfl rfl Gd.free Rd.mv ?_; refine XPA.pu rfl rfl Gd.free (Rd.ixS rfl rfl) ?_
    refine XPA.pu rfl rfl Gd.free (Rd.fA rfl) ?_; refine XPA.rd rfl rfl Gd.free (Rd.ldC rfl (tyrow rfl) rfl) ?_; refine XPA.pu rfl rfl Gd.free Rd.mv ?_; refine XPA.pu rfl rfl Gd.free Rd.mv ?_; refine XPA.pu rfl rfl Gd.free (Rd.ixS rfl rfl) ?_; refine XPA.pu rfl rfl Gd.free (Rd.fA rfl) ?_
    refine XPA.rd rfl rfl Gd.free (Rd.ldC rfl (tyrow rfl) rfl) ?_
    refine XPA.wr0 rfl rfl Gd.free (WrA.cE (ownExpr_a x'.e σ1 _ hxe (by omega)) rfl) ?_
    rintro _ σ2 _ ⟨_, ⟨cs2, rfl, hcs2, hs2, rfl⟩, rfl⟩
    refine stays (XPA.cl ?_)
    obtain ⟨p2, c2, rfl, -, -, -, -⟩ := hcs2.inv
    refine XPA.wr0 rfl rfl Gd.free (WrA.cE (ownExpr_a x'.f σ2 _ (hxf.mono hs2) (by omega)) rfl) ?_
    rintro _ σ3 _ ⟨_, ⟨cs3, rfl, hcs3, hs3, rfl⟩, rfl⟩
    refine stays (XPA.cl ?_)
    obtain ⟨p3, c3, rfl, -, -, -, -⟩ := hcs3.inv
    have hs13 := hs2.trans hs3
    refine XPA.wr0 rfl rfl Gd.free (WrA.cE (ihb σ3 _ (hxb.mono hs13 (fun _ _ h => h.mono hs13)) (by omega)) rfl) ?_
    rintro _ σ4 _ ⟨_, ⟨p4, c4, rows4, rfl, hrows4, hs4, rfl⟩, rfl⟩
    refine stays (XPA.cl ?_)
    have hs14 := hs13.trans hs4
    refine XPA.wr0 rfl rfl Gd.free (WrA.cE (ihe σ4 _ (hxl.mono hs14 (fun _ _ h => h.mono hs14)) (by omega)) rfl) ?_
    rintro _ σ5 _ ⟨_, ⟨p5, c5, rows5, rfl, hrows5, hs5, rfl⟩, rfl⟩
    refine stays (XPA.cl ?_)
    have hs15 := hs14.trans hs5
    refine XPA.pu rfl rfl Gd.free (Rd.bl (fun _ _ => tyrow) rfl rfl rfl) ?_
    refine XPA.wrZ0 rfl rfl Gd.free (by kernel_rfl) (WrA.bs1 (tyrow rfl) rfl (tyrow rfl)) ?_
    rintro _ _ _ ⟨g47, rfl, rfl, rfl⟩
    refine XPA.wrZ0 rfl rfl Gd.free (by kernel_rfl) (WrA.ap1 (tyrow rfl) rfl (tyrow rfl) rfl rfl rfl) ?_
    rintro _ _ _ ⟨p48, c48, rfl, rfl, rfl⟩
    refine XPA.pu rfl rfl Gd.free Rd.asg ?_; refine XPA.nil ?_; refine DA.inb_normal (zT (zR ?_))
    refine XOA.frz (R := lst 56 12 (.slice p4 x'.body.length c4) _ _) zL lst_frz lst_frz_mono ?_
    rintro σ6 ⟨⟩ hf6 hs6
    refine XOA.frz (R := lst 56 12 (.slice p5 x'.els.length c5) _ _) zL lst_frz lst_frz_mono ?_
    rintro σ7 ⟨⟩ hf7 hs7
    have hs57 := hs6.trans hs7
    have hs47 := hs5.trans hs57
    have hs37 := hs4.trans hs47
    have hs27 := hs3.trans hs37
    have hs17 := hs2.trans hs27
    have hst : StAt σ7 [i64 x'.op, i64 x'.v, i64 x'.e.op, i64 x'.e.v, i64 x'.e.n, .slice p2 x'.e.l.length c2, i64 x'.f.op, i64 x'.f.v, i64 x'.f.n, .slice p3 x'.f.l.length c3, .slice p4 x'.body.length c4, .slice p5 x'.els.length c5] x' := by
      have h4 := (hrows4.mono (fun _ _ h => h.mono hs47)).psl rfl (lst_frz_mono () _ _ hf6 hs7)
      have h5 := (hrows5.mono (fun _ _ h => h.mono hs57)).psl rfl hf7
      have := StAt.of ho hv (hcs2.mono hs27) (hcs3.mono hs37) h4 h5
      cases x'; exact this
    have hnew : Rows_ 12 StAt σ7 (rows ++ [[i64 x'.op, i64 x'.v, i64 x'.e.op, i64 x'.e.v, i64 x'.e.n, .slice p2 x'.e.l.length c2, i64 x'.f.op, i64 x'.f.v, i64 x'.f.n, .slice p3 x'.f.l.length c3, .slice p4 x'.body.length c4, .slice p5 x'.els.length c5]]) (l.take (i + 1)) := by
      rw [takeS hx']; exact (hrows.mono (fun _ _ h => h.mono hs17)).snoc rfl hst
    refine zA rfl ?_; refine zO rfl zI ?_; refine zO rfl Rd.asg ?_; refine zN (zT ?_)
    refine ⟨(Keep.upd (Keep.upd (Keep.upd (Keep.upd (Keep.updO (Keep.updO (Keep.upd (Keep.updO (Keep.updO (Keep.updO (Keep.updO (Keep.upd (Keep.upd (Keep.upd (Keep.upd (Keep.upd (Keep.upd (Keep.upd (Keep.upd (Keep.upd (Keep.upd (Keep.upd (Keep.upd (Keep.upd (Keep.upd (Keep.upd (Keep.upd (Keep.upd (Keep.upd (Keep.upd (Keep.upd (Keep.upd (Keep.upd (Keep.upd (Keep.upd (Keep.upd (Keep.upd (Keep.upd (Keep.upd (Keep.upd (Keep.upd (Keep.upd (Keep.upd (Keep.upd (Keep.upd (Keep.upd (Keep.upd (Keep.upd (Keep.hav (Keep.refl _ _) rfl) rfl) rfl) rfl) rfl) rfl) rfl) rfl) rfl) rfl) rfl) rfl) rfl) rfl) rfl) rfl) rfl) rfl) rfl) rfl) rfl) rfl) rfl) rfl) rfl) rfl) rfl) rfl) rfl) rfl) rfl) rfl) rfl) rfl) rfl) rfl) rfl) rfl) rfl) rfl) rfl) rfl) rfl) rfl) rfl) rfl) rfl) rfl) rfl), (i + 1, (p48, c48)), _, zM, ?_, ⟨hs1.trans hs17, hlt, _, hnew, rfl⟩, (by simp only; omega)⟩
    · rw [flatS]; exact zE
  have hil : i = l.length := by omega
  subst hil
  rw [List.take_length] at hrows
  refine XA.exit (DA.thn_exit (DA.thn_exit (DA.inb_same (zT (zS (zR (zA rfl ?_))))))); refine zO rfl Rd.asg ?_; refine zN (zT (XA.ret ?_))
  exact bodyA.ret (ResA.one rfl rfl) zE ⟨p, c, rows, rfl, hrows, hs1, rfl⟩
end Go.Proofs.YthefnnkmpcgcmaaDoor

namespace Go.Proofs.YthefnnkmpcgcmaaDoor
open Go X
set_option maxHeartbeats 1000000
theorem stOwn_x (x : St) : OwnListOK x.body ∧ OwnListOK x.els := by
  refine St.ind (P := fun x => OwnListOK x.body ∧ OwnListOK x.els) ?_ x
  intro op v e f body els ih jh
  exact ⟨ownList_l body ih, ownList_l els jh⟩
theorem ownList_a (l : List St) : OwnListOK l := ownList_l l (fun x _ => stOwn_x x)
theorem ones_flat {rows : List (List Value)} (h : ∀ row ∈ rows, ones row) : ones rows.flatten := fun v hv => by
  simp only [List.mem_flatten] at hv
  obtain ⟨r, h1, h2⟩ := hv
  exact h r h1 v h2
theorem psl_rows {α : Type} {s n c : Nat} {R : RT α} {σ : PH} {p : Option Addr} {xs : List α} (h : PSl s R σ (.slice p n c) xs) : ∃ rows, Rows_ s R σ rows xs ∧ n = xs.length ∧ xs.length ≤ c ∧ c ≤ maxLen ∧ (0 < xs.length → ∃ g o, p = some ⟨g, o, none⟩ ∧ PRow σ g o rows.flatten) := by
  obtain ⟨p', c', rows, h1, h2, h3, h4, h5, h6, h7⟩ := h
  simp only [Value.slice.injEq] at h1
  obtain ⟨rfl, rfl, rfl⟩ := h1
  exact ⟨rows, ⟨h4, h5, h6⟩, rfl, h2, h3, h7⟩
theorem X.Rows_.flat_len {α : Type} {s : Nat} {R : RT α} {σ : PH} {rows : List (List Value)} {xs : List α} (h : Rows_ s R σ rows xs) : rows.flatten.length = xs.length * s := by rw [flatten_len h.size, h.len]
theorem X.Rows_.mem {α : Type} {s : Nat} {R : RT α} {σ : PH} {rows : List (List Value)} {xs : List α} (h : Rows_ s R σ rows xs) {row : List Value} (hm : row ∈ rows) : ∃ x ∈ xs, R σ row x := by
  obtain ⟨i, hi, rfl⟩ := List.mem_iff_getElem.1 hm
  have hx : i < xs.length := by rw [← h.len]; exact hi
  exact ⟨xs[i], List.getElem_mem _, h.row i _ _ (List.getElem?_eq_getElem hi) (List.getElem?_eq_getElem hx)⟩
theorem own_a (σ : PH) (cs : List Value) (p : Pr) (hp : PrAt σ cs p) (hsm : Small p) :
    CallsA Tryd.prog 12 #[.agg cs.toArray] σ [] (RetA fun v σ' Γ' => ∃ (vs : Value) (pb : Option Addr) (cb : Nat) (rows : List (List Value)), v = .agg [vs, .slice pb p.body.length cb].toArray ∧ PSl 2 rVa σ' vs p.vars ∧ Rows_ 12 StAt σ' rows p.body ∧ σ.sub σ' ∧ Γ' = [lst 56 12 (.slice pb p.body.length cb) p.body.length rows.flatten]) := by
  obtain ⟨vs, bs, rfl, hv, hb⟩ := hp
  obtain ⟨pv, cv, rfl, hvl, hvm⟩ := hv.shape
  obtain ⟨rows, hrows, -, -, -, hrow⟩ := psl_rows hv
  have h30 := hsm.1
  have h900 := hsm.2.2
  have hfl := hrows.flat_len
  have hones : ones rows.flatten := ones_flat fun row hm => by
    obtain ⟨x, -, rfl, -⟩ := hrows.mem hm
    exact ones_lit rfl
  by_cases h0 : p.vars.length = 0
  · have hnil : p.vars = [] := List.eq_nil_of_length_eq_zero h0
    rw [hnil]
    simp only [List.length_nil]
    refine enterA1 Tryd.func12 rfl rfl rfl ?_
    refine zS (zR ?_)
    refine XOA.wr0 rfl WrA.bx ?_
    rintro _ _ _ ⟨g1, rfl, rfl, rfl⟩
    refine XOA.wr0 rfl (WrA.alloc (tyrow rfl)) ?_
    rintro _ _ _ ⟨g2, rfl, rfl, rfl⟩
    refine zN (zT (zS (zR (zO rfl Rd.asg ?_)))); refine zN (zT (zS ?_))
    refine XA.draw (by kernel_rfl) _ _ [6, 8] [(0, .pu), (1, .pu), (2, .rd), (4, .pu), (5, .rd), (3, .wr), (6, .wr), (7, .pu), (8, .wr)] (by kernel_rfl) (PH.sub.refl _) (Ent.sel (R := blk g1 _ _) zL (Ent.nil _)) ?_
    refine XPA.pu rfl rfl Gd.free Rd.mv ?_; refine XPA.pu rfl rfl Gd.free (Rd.fA rfl) ?_; refine XPA.rd rfl rfl Gd.free (Rd.ldC rfl (tyrow rfl) rfl) ?_; refine XPA.pu rfl rfl Gd.free (Rd.fA rfl) ?_; refine XPA.rd rfl rfl Gd.free (Rd.ldC rfl (tyrow rfl) rfl) ?_
    refine XPA.wr0 rfl rfl Gd.free (Rd.toW (Rd.appendNone (tyrow rfl) rfl (tyrow rfl) rfl rfl (Nat.le_refl _))) ?_
    rintro _ _ _ ⟨rfl, rfl, rfl⟩
    refine stays ?_
    refine XPA.wrZ0 rfl rfl Gd.free (by kernel_rfl) (WrA.cE (ownList_a p.body σ bs hb (by omega)) rfl) ?_
    rintro _ σ2 _ ⟨_, ⟨pb, cb, rows2, rfl, hr2, hs2, rfl⟩, rfl⟩
    refine XPA.cl ?_
    refine XPA.pu rfl rfl Gd.free (Rd.bl (fun _ _ => tyrow) rfl rfl rfl) ?_
    refine XPA.wrZ0 rfl rfl Gd.free (by kernel_rfl) (WrA.st (tyrow rfl) rfl) ?_
    rintro _ _ _ ⟨rfl, rfl, rfl⟩
    refine XPA.nil ?_; refine zT (XA.ret ?_)
    exact bodyA.ret (ResA.cell rfl rfl (Ld.atBlk (tyrow rfl) rfl zL rfl (by first | exact take0 (by first | rfl | assumption | (refine (ints_len _).trans ?_; assumption) | (simp [*]; (first | done | fail))) | assumption | exact take_app (by first | rfl | assumption | (refine (ints_len _).trans ?_; assumption) | (simp [*]; (first | done | fail))) | (conv => lhs; simp only [List.drop_succ_cons, List.drop_zero, List.take_succ_cons, List.take_zero])) (by first | rfl | assumption | (refine (ints_len _).trans ?_; assumption) | (simp [*]; (first | done | fail))))) zE ⟨_, pb, cb, rows2, rfl, PSl.nil _ _ _, hr2, hs2, rfl⟩
  · obtain ⟨g, o, rfl, hr⟩ := hrow (by omega)
    refine enterA1 Tryd.func12 rfl rfl rfl ?_
    refine zS (zR ?_)
    refine XOA.wr0 rfl WrA.bx ?_
    rintro _ _ _ ⟨g1, rfl, rfl, rfl⟩
    refine XOA.wr0 rfl (WrA.alloc (tyrow rfl)) ?_
    rintro _ _ _ ⟨g2, rfl, rfl, rfl⟩
    refine zN (zT (zS (zR (zO rfl Rd.asg ?_)))); refine zN (zT (zS ?_))
    refine XA.draw (by kernel_rfl) _ _ [6, 8] [(0, .pu), (1, .pu), (2, .rd), (4, .pu), (5, .rd), (3, .wr), (6, .wr), (7, .pu), (8, .wr)] (by kernel_rfl) (PH.sub.refl _) (Ent.sel (R := blk g1 _ _) zL (Ent.nil _)) ?_
    refine XPA.pu rfl rfl Gd.free Rd.mv ?_; refine XPA.pu rfl rfl Gd.free (Rd.fA rfl) ?_; refine XPA.rd rfl rfl Gd.free (Rd.ldC rfl (tyrow rfl) rfl) ?_; refine XPA.pu rfl rfl Gd.free (Rd.fA rfl) ?_; refine XPA.rd rfl rfl Gd.free (Rd.ldC rfl (tyrow rfl) rfl) ?_
    refine XPA.wr0 rfl rfl Gd.free (WrA.appendNew (tyrow rfl) rfl (tyrow rfl) rfl rfl rfl (At.per hr) hfl hones (by omega) (by simp only [maxLen]; omega) (by simp only []; omega)) ?_
    rintro _ _ _ ⟨p7, c7, rfl, rfl, rfl⟩
    refine stays ?_
    refine XPA.wrZ0 rfl rfl Gd.free (by kernel_rfl) (WrA.cE (ownList_a p.body σ bs hb (by omega)) rfl) ?_
    rintro _ σ2 _ ⟨_, ⟨pb, cb, rows2, rfl, hr2, hs2, rfl⟩, rfl⟩
    refine XPA.cl ?_
    refine XPA.pu rfl rfl Gd.free (Rd.bl (fun _ _ => tyrow) rfl rfl rfl) ?_
    refine XPA.wrZ0 rfl rfl Gd.free (by kernel_rfl) (WrA.st (tyrow rfl) rfl) ?_
    rintro _ _ _ ⟨rfl, rfl, rfl⟩
    refine XPA.nil ?_; refine zT (XA.ret ?_)
    refine DA.frz (R := lst 51 2 _ _ _) zL lst_frz lst_frz_mono ?_
    rintro σ3 ⟨⟩ hf hs3
    exact bodyA.ret (ResA.cell rfl rfl (Ld.atBlk (tyrow rfl) rfl zL rfl (by first | exact take0 (by first | rfl | assumption | (refine (ints_len _).trans ?_; assumption) | (simp [*]; (first | done | fail))) | assumption | exact take_app (by first | rfl | assumption | (refine (ints_len _).trans ?_; assumption) | (simp [*]; (first | done | fail))) | (conv => lhs; simp only [List.drop_succ_cons, List.drop_zero, List.take_succ_cons, List.take_zero])) (by first | rfl | assumption | (refine (ints_len _).trans ?_; assumption) | (simp [*]; (first | done | fail))))) zE ⟨_, pb, cb, rows2, rfl, (hrows.mono (σ' := σ3) (fun _ _ h => h)).psl rfl hf, hr2.mono (fun _ _ h => h.mono hs3), hs2.trans hs3, rfl⟩
/-! variables -/
theorem varEq_a (σ : PH) (g : Nat) (v w : Va) : CallsA Tryd.prog 75 #[vav w, ptr g] σ [blk g [.string v.name, i64 v.size] 51] (RetA fun r σ' Γ' => r = .bool (decide (w.name = v.name)) ∧ σ = σ' ∧ Γ' = [blk g [.string v.name, i64 v.size] 51]) := by
  unfold vav
  refine enterA2 Tryd.func75 rfl rfl rfl ?_
  refine zS (zR ?_)
  refine XOA.wr0 rfl WrA.bx ?_
  rintro _ _ _ ⟨g2, rfl, rfl, rfl⟩
  refine zO rfl Rd.asg ?_; refine zN (zT (zS (zR (zV rfl rfl ?_)))); refine zB rfl rfl (tyrow rfl) rfl ?_; refine zV rfl rfl ?_; refine zB rfl rfl (tyrow rfl) rfl ?_; refine zO rfl (Rd.eqls rfl rfl) ?_; refine zO rfl Rd.asg ?_; refine zN (zT (XA.ret ?_))
  exact bodyA.ret (ResA.one rfl rfl) zE ⟨rfl, rfl, rfl⟩
theorem indexVar_a (σ : PH) (g : Nat) (v : Va) (sl : Value) (l : List Va) (hl : PSl 2 rVa σ sl l) : CallsA Tryd.prog 92 #[sl, .func (.func 75) #[] #[ptr g]] σ [blk g [.string v.name, i64 v.size] 51] (RetA fun r σ' Γ' => ∃ k : Int, r = i64 k ∧ (0 ≤ k ↔ ∃ w ∈ l, w.name = v.name) ∧ σ = σ' ∧ Γ' = [blk g [.string v.name, i64 v.size] 51]) := by
  obtain ⟨pl, cl, rfl, hle, hmx⟩ := hl.shape
  have hlen : l.length ≤ maxLen := by omega
  simp only [maxLen] at hlen
  refine enterA2 Tryd.func92 rfl rfl rfl ?_
  refine zS (zR (zO rfl Rd.asg ?_)); refine zN (zT (zS (zS (zR (zA rfl ?_))))); refine zO rfl (Rd.lenSlice (tyrow rfl) rfl rfl) ?_; refine zA rfl ?_; refine zN (zT (XA.block ?_))
  refine XA.gen [(0, _), (1, _), (4, _), (7, _), (8, _)] ⟨(by with_reducible (conv => lhs; whnf)), (by with_reducible (conv => lhs; whnf)), (by with_reducible (conv => lhs; whnf)), (by with_reducible (conv => lhs; whnf)), (by with_reducible (conv => lhs; whnf)), trivial⟩ (fun δ => ?_)
  dsimp only [List.foldl]
  refine XA.loop [(4, 5), (8, 18)] (fun k : Nat => [(8, i64 k)]) (fun k σ' Γ' => σ = σ' ∧ k ≤ l.length ∧ (∀ (j : Nat) w, j < k → l[j]? = some w → w.name ≠ v.name) ∧ Γ' = [blk g [.string v.name, i64 v.size] 51]) (fun k => l.length - k) 0 (by exact ⟨rfl, trivial⟩) (Δ0 := _) ?_ (⟨rfl, Nat.zero_le _, fun j w h => absurd h (Nat.not_lt_zero _), rfl⟩) ?_
  · exact zE
  rintro k δ _ _ ⟨rfl, hk, hall, rfl⟩
  dsimp only [ovr, List.foldl]
  refine zS (zR (zO rfl (Rd.lss rfl rfl) ?_)); refine zN (zT (zS ?_))
  refine XA.condp rfl (fun hlt => ?_) (fun hlt => ?_)
  · have hlt : k < l.length := by omega
    obtain ⟨x', hx'⟩ : ∃ x', l[k]? = some x' := ⟨_, List.getElem?_eq_getElem hlt⟩
    obtain ⟨gg, o, row, rfl, ⟨rfl, -, -⟩, hrl, hrow⟩ := hl.at hx'
    refine XA.skip (zT (zS (XA.block (zS (zR (zA rfl ?_)))))); refine zO rfl Rd.asg ?_; refine zN (zT (zS (zR (zA rfl ?_)))); refine zA rfl ?_; refine zA rfl ?_; refine zO rfl (Rd.ixS rfl rfl) ?_; refine zO rfl (Rd.ldA rfl) ?_
    refine XOA.wr0 rfl (WrA.cV (first := []) (cap := [ptr g]) rfl (varEq_a σ g v x') rfl) ?_
    rintro _ _ _ ⟨_, ⟨rfl, rfl, rfl⟩, rfl⟩
    refine XOA.cl ?_; refine zN (zT ?_)
    refine XA.condp rfl (fun hc => ?_) (fun hc => ?_)
    · refine zS ?_
      refine zR (zA rfl ?_); refine zO rfl Rd.asg ?_; refine zN (zT (XA.ret (DA.inb_ret (DA.thn_ret (DA.thn_ret (DA.inb_ret (DA.thn_ret ?_)))))))
      exact bodyA.ret (ResA.one rfl rfl) zE ⟨(k : Int), rfl, ⟨fun _ => ⟨x', List.mem_of_getElem? hx', hc⟩, fun _ => by omega⟩, rfl, rfl⟩
    · have hnew : ∀ (j : Nat) w, j < k + 1 → l[j]? = some w → w.name ≠ v.name := fun j w hj hw => by
        rcases Nat.lt_or_ge j k with h | h
        · exact hall j w h hw
        · have : j = k := by omega
          subst this
          rw [hx'] at hw; simp only [Option.some.injEq] at hw; subst hw; exact hc
      refine XA.skip (DA.inb_normal (zT (zR (zO rfl zI ?_)))); refine zA rfl ?_; refine zN (zT ?_)
      refine ⟨(Keep.upd (Keep.upd (Keep.updO (Keep.upd (Keep.upd (Keep.upd (Keep.upd (Keep.upd (Keep.upd (Keep.upd (Keep.upd (Keep.upd (Keep.hav (Keep.hav (Keep.refl _ _) rfl) rfl) rfl) rfl) rfl) rfl) rfl) rfl) rfl) rfl) rfl) rfl) rfl) rfl), k + 1, _, zM, ?_, ⟨rfl, hlt, hnew, rfl⟩, (by omega)⟩
      · exact zE
  have hkn : k = l.length := by omega
  subst hkn
  refine XA.exit (DA.thn_exit (DA.thn_exit (DA.inb_same (zT (zS (zR (zO rfl Rd.asg ?_))))))); refine zN (zT (XA.ret ?_))
  refine bodyA.ret (ResA.one rfl rfl) zE ⟨-1, rfl, ⟨fun h => absurd h (by decide), fun ⟨w, hw, e⟩ => ?_⟩, rfl, rfl⟩
  obtain ⟨j, hj, e2⟩ := List.mem_iff_getElem.1 hw
  exact absurd e (hall j w hj (by rw [List.getElem?_eq_getElem hj, e2]))
theorem containsVar_a (σ : PH) (g : Nat) (v : Va) (sl : Value) (l : List Va) (hl : PSl 2 rVa σ sl l) : CallsA Tryd.prog 74 #[sl, .func (.func 75) #[] #[ptr g]] σ [blk g [.string v.name, i64 v.size] 51] (RetA fun r σ' Γ' => r = .bool (decide (∃ w ∈ l, w.name = v.name)) ∧ σ = σ' ∧ Γ' = [blk g [.string v.name, i64 v.size] 51]) := by
  refine enterA2 Tryd.func74 rfl rfl rfl ?_
  refine zS (zR (zO rfl Rd.asg ?_)); refine zN (zT (zS (zR (zA rfl ?_)))); refine zA rfl ?_
  refine XOA.wr0 rfl (WrA.cE (indexVar_a σ g v sl l hl) rfl) ?_
  rintro _ _ _ ⟨_, ⟨k, rfl, hk, rfl, rfl⟩, rfl⟩
  refine XOA.cl ?_; refine zO rfl (Rd.geq rfl rfl) ?_; refine zO rfl Rd.asg ?_; refine zN (zT (XA.ret ?_))
  exact bodyA.ret (ResA.one rfl rfl) zE ⟨congrArg Value.bool (decide_eq_decide.2 hk), rfl, rfl⟩
end Go.Proofs.YthefnnkmpcgcmaaDoor

namespace Go.Proofs.YthefnnkmpcgcmaaDoor
open Go X
set_option maxHeartbeats 1000000
theorem X.PSl.take {α : Type} {s n c k : Nat} {R : RT α} {σ : PH} {p : Option Addr} {xs : List α} (h : PSl s R σ (.slice p n c) xs) (hk : k ≤ n) : PSl s R σ (.slice p k c) (xs.take k) := by
  obtain ⟨p', c', rows, h1, h2, h3, h4, h5, h6, h7⟩ := h
  simp only [Value.slice.injEq] at h1
  obtain ⟨rfl, rfl, rfl⟩ := h1
  have hl : (xs.take k).length = k := by rw [List.length_take]; exact Nat.min_eq_left hk
  refine ⟨p, c, rows.take k, by rw [hl], by omega, h3, by rw [hl, List.length_take]; omega, fun r hr => h5 r (List.mem_of_mem_take hr), fun i row x a b => ?_, fun hp => ?_⟩
  · rw [List.getElem?_take] at a b
    split at a
    · rename_i hi
      rw [if_pos hi] at b
      exact h6 i row x a b
    · cases a
  · obtain ⟨g, o, e, hr⟩ := h7 (by omega)
    refine ⟨g, o, e, ?_⟩
    have := hr.sub (j := 0) (us := (rows.take k).flatten) (by
      have e : rows.flatten = (rows.take k).flatten ++ (rows.drop k).flatten := by rw [← List.flatten_append, List.take_append_drop]
      rw [List.drop_zero, e]
      exact List.take_left)
    simpa using this
theorem drop_get {α : Type} {l : List α} {k : Nat} {x : α} (h : l[k]? = some x) : l.drop k = x :: l.drop (k + 1) := by
  obtain ⟨h1, h2⟩ := List.getElem?_eq_some_iff.1 h
  rw [List.drop_eq_getElem_cons h1, h2]
theorem vars_a (σ : PH) (sl : Value) (l : List Va) (hl : PSl 2 rVa σ sl l) : CallsA Tryd.prog 47 #[sl] σ [] (RetA fun v σ' Γ' => v = i64 (checkVars l) ∧ σ = σ' ∧ Γ' = []) := by
  obtain ⟨pl, cl, rfl, hle, hmx⟩ := hl.shape
  have hlen : l.length ≤ maxLen := by omega
  simp only [maxLen] at hlen
  refine enterA1 Tryd.func47 rfl rfl rfl ?_
  refine zS (zR (zO rfl Rd.asg ?_)); refine zN (zT (zS (zS (zR (zA rfl ?_))))); refine zO rfl (Rd.lenSlice (tyrow rfl) rfl rfl) ?_; refine zO rfl (Rd.gtr rfl rfl) ?_; refine zN (zT ?_)
  refine XA.condp rfl (fun h8 => ?_) (fun h8 => ?_)
  · refine zS ?_
    refine zR (zO rfl Rd.asg ?_); refine zN (zT (XA.ret (DA.thn_ret ?_)))
    have hr : checkVars l = 3 := by rw [checkVars, if_pos (by omega)]
    exact bodyA.ret (ResA.one rfl rfl) zE ⟨by rw [hr], rfl, rfl⟩
  have hcv : checkVars l = varsGo [] 0 l := by rw [checkVars, if_neg (by omega)]
  rw [hcv]
  refine XA.skip (zT (zS (zR (zO rfl Rd.asg ?_)))); refine zN (zT (zS (zS (zR (zA rfl ?_))))); refine zO rfl (Rd.lenSlice (tyrow rfl) rfl rfl) ?_; refine zA rfl ?_; refine zN (zT (XA.block ?_))
  refine XA.gen [(0, _), (2, _), (3, _), (9, _), (10, _), (11, _)] ⟨(by with_reducible (conv => lhs; whnf)), (by with_reducible (conv => lhs; whnf)), (by with_reducible (conv => lhs; whnf)), (by with_reducible (conv => lhs; whnf)), (by with_reducible (conv => lhs; whnf)), (by with_reducible (conv => lhs; whnf)), trivial⟩ (fun δ => ?_)
  dsimp only [List.foldl]
  refine XA.loop [(2, 5), (11, 42)] (fun q : Nat × Int => [(11, i64 q.1), (3, i64 q.2)]) (fun q σ' Γ' => σ = σ' ∧ q.1 ≤ l.length ∧ (0 ≤ q.2 ∧ q.2 ≤ 48 ∧ varsGo (l.take q.1) q.2 (l.drop q.1) = varsGo [] 0 l) ∧ Γ' = []) (fun q => l.length - q.1) (0, 0) (by exact ⟨rfl, rfl, trivial⟩) (Δ0 := _) ?_ (⟨rfl, Nat.zero_le _, ⟨Int.le_refl _, (by decide), rfl⟩, rfl⟩) ?_
  · exact zE
  rintro ⟨k, n⟩ δ _ _ ⟨rfl, hk, ⟨hn0, hn1, hgo⟩, rfl⟩
  dsimp only [ovr, List.foldl]
  have hk : k ≤ l.length := hk
  have hn0 : 0 ≤ n := hn0
  have hn1 : n ≤ 48 := hn1
  have hgo : varsGo (l.take k) n (l.drop k) = varsGo [] 0 l := hgo
  refine zS (zR (zO rfl (Rd.lss rfl rfl) ?_)); refine zN (zT (zS ?_))
  refine XA.condp rfl (fun hlt => ?_) (fun hlt => ?_)
  · have hlt : k < l.length := by omega
    obtain ⟨x, hx⟩ : ∃ x, l[k]? = some x := ⟨_, List.getElem?_eq_getElem hlt⟩
    obtain ⟨gg, o, row, rfl, ⟨rfl, ⟨hz0, hz1⟩, hnm⟩, hrl, hrow⟩ := hl.at hx
    have hpre := hl.take (k := k) hk
    rw [drop_get hx, varsGo] at hgo
    refine XA.skip (zT (zS (XA.block (zS (zR (zA rfl ?_)))))); refine zO rfl (Rd.ixS rfl rfl) ?_; refine zO rfl (Rd.ldA rfl) ?_
    refine XOA.wr0 rfl (WrA.alloc (tyrow rfl)) ?_
    rintro _ _ _ ⟨g5, rfl, rfl, rfl⟩
    refine zO rfl Rd.asg ?_
    refine XOA.wr0 rfl (WrA.st (tyrow rfl) rfl) ?_
    rintro _ _ _ ⟨rfl, rfl, rfl⟩
    refine zN (zT (zS (XA.block (zS (zR (zV rfl rfl ?_)))))); refine zB rfl rfl (tyrow rfl) rfl ?_
    refine XOA.wr0 rfl (WrA.cE (name_a σ x.name hnm) rfl) ?_
    rintro _ _ _ ⟨_, ⟨rfl, rfl, rfl⟩, rfl⟩
    refine XOA.cl ?_
    cases hnk : nameOk x.name with
    | false =>
      rw [if_pos hnk] at hgo
      refine zO rfl zJ ?_; refine zO rfl Rd.asg ?_; refine zN (zT (XA.condT rfl rfl (zS (zR (zO rfl Rd.asg ?_))))); refine zN (zT (XA.ret (DA.inb_ret (DA.thn_ret (DA.inb_ret (DA.thn_ret (DA.thn_ret (DA.inb_ret (DA.thn_ret ?_)))))))))
      exact bodyA.ret (ResA.one rfl rfl) zE ⟨by rw [← hgo], rfl, rfl⟩
    | true =>
      rw [if_neg (by simp [hnk])] at hgo
      refine zO rfl zJ ?_; refine zO rfl Rd.asg ?_; refine zN (zT (XA.condF rfl rfl (zS (zR (zA rfl ?_))))); refine zA rfl ?_; refine zO rfl (Rd.sliceToN (tyrow rfl) rfl (tyrow rfl) rfl rfl (by omega)) ?_
      refine zO rfl (Rd.makeFunc1 (by with_reducible (conv => lhs; whnf))) ?_
      refine XOA.wr0 rfl (WrA.cE (containsVar_a σ g5 x _ _ hpre) rfl) ?_
      rintro _ _ _ ⟨_, ⟨rfl, rfl, rfl⟩, rfl⟩
      refine XOA.cl ?_; refine zO rfl Rd.asg ?_; refine zN (zT ?_)
      refine XA.condp rfl (fun htw => ?_) (fun htw => ?_)
      · rw [if_pos htw] at hgo
        refine zS (zR (zO rfl Rd.asg ?_)); refine zN (zT (XA.ret (DA.inb_ret (DA.thn_ret (DA.inb_ret (DA.thn_ret (DA.thn_ret (DA.inb_ret (DA.thn_ret ?_)))))))))
        exact bodyA.ret (ResA.one rfl rfl) zE ⟨by rw [← hgo], rfl, rfl⟩
      rw [if_neg htw] at hgo
      by_cases hz : x.size < 1
      · rw [if_pos (.inl hz)] at hgo
        refine zS (zR (zV rfl rfl ?_)); refine zB rfl rfl (tyrow rfl) rfl ?_; refine zO rfl (Rd.lss rfl rfl) ?_; refine zA rfl ?_
        first | (refine zG ?_; refine zV rfl rfl ?_) | refine zH ?_
        first | (refine zG ?_; refine zB rfl rfl (tyrow rfl) rfl ?_) | refine zH ?_
        first | (refine zG ?_; refine zA rfl ?_) | refine zH ?_
        first | (refine zG ?_; refine zO rfl (by first | exact Rd.sbi rfl rfl | exact Rd.sub rfl rfl) ?_) | refine zH ?_
        first | (refine zG ?_; refine zO rfl (Rd.gtr rfl rfl) ?_) | refine zH ?_
        refine zO rfl zP ?_; refine zO rfl Rd.asg ?_; refine zN (zT (XA.condT rfl rfl (zS (zR (zO rfl Rd.asg ?_))))); refine zN (zT (XA.ret (DA.inb_ret (DA.thn_ret (DA.inb_ret (DA.thn_ret (DA.thn_ret (DA.inb_ret (DA.thn_ret ?_)))))))))
        exact bodyA.ret (ResA.one rfl rfl) zE ⟨by rw [← hgo], rfl, rfl⟩
      · 
        refine zS (zR (zV rfl rfl ?_)); refine zB rfl rfl (tyrow rfl) rfl ?_; refine zO rfl (Rd.lss rfl rfl) ?_; refine zA rfl ?_
        first | (refine zG ?_; refine zV rfl rfl ?_) | refine zH ?_
        first | (refine zG ?_; refine zB rfl rfl (tyrow rfl) rfl ?_) | refine zH ?_
        first | (refine zG ?_; refine zA rfl ?_) | refine zH ?_
        first | (refine zG ?_; refine zO rfl (by first | exact Rd.sbi rfl rfl | exact Rd.sub rfl rfl) ?_) | refine zH ?_
        first | (refine zG ?_; refine zO rfl (Rd.gtr rfl rfl) ?_) | refine zH ?_
        refine zO rfl zP ?_; refine zO rfl Rd.asg ?_; refine zN (zT ?_)
        refine XA.condp rfl (fun hz2 => ?_) (fun hz2 => ?_)
        · rw [if_pos (.inr hz2)] at hgo
          refine zS (zR (zO rfl Rd.asg ?_)); refine zN (zT (XA.ret (DA.inb_ret (DA.thn_ret (DA.inb_ret (DA.thn_ret (DA.thn_ret (DA.inb_ret (DA.thn_ret ?_)))))))))
          exact bodyA.ret (ResA.one rfl rfl) zE ⟨by rw [← hgo], rfl, rfl⟩
        rw [if_neg (by omega)] at hgo
        refine XA.skip (DA.inb_normal (zT (zR (zA rfl ?_)))); refine zV rfl rfl ?_; refine zB rfl rfl (tyrow rfl) rfl ?_; refine zO rfl zI ?_; refine zO rfl Rd.asg ?_; refine zN (DA.inb_normal (zT (zR (zO rfl zI ?_)))); refine zA rfl ?_; refine zN (zT ?_)
        refine ⟨(Keep.upd (Keep.upd (Keep.upd (Keep.upd (Keep.upd (Keep.upd (Keep.upd (Keep.upd (Keep.upd (Keep.upd (Keep.upd (Keep.upd (Keep.upd (Keep.upd (Keep.upd (Keep.upd (Keep.upd (Keep.upd (Keep.upd (Keep.updO (Keep.upd (Keep.upd (Keep.upd (Keep.upd (Keep.upd (Keep.upd (Keep.updO (Keep.upd (Keep.upd (Keep.updN (Keep.upd (Keep.updO (Keep.upd (Keep.upd (Keep.upd (Keep.upd (Keep.upd (Keep.upd (Keep.hav (Keep.hav (Keep.refl _ _) rfl) rfl) rfl) rfl) rfl) rfl) rfl) rfl) rfl) rfl)) rfl) rfl) rfl) rfl) rfl) rfl) rfl) rfl) rfl) rfl) rfl) rfl) rfl) rfl) rfl) rfl) rfl) rfl) rfl) rfl) rfl) rfl) rfl) rfl) rfl) rfl) rfl) rfl) rfl), (k + 1, n + x.size), _, zM, ?_, ⟨rfl, hlt, ⟨by simp only; omega, by simp only; omega, by rw [takeS hx]; exact hgo⟩, rfl⟩, (by simp only; omega)⟩
        · exact zE
  have hkn : k = l.length := by omega
  subst hkn
  rw [List.drop_length, varsGo] at hgo
  refine XA.exit (DA.thn_exit (DA.thn_exit (DA.inb_same (zT (zS (zR (zO rfl Rd.asg ?_))))))); refine zN (zT (XA.ret ?_))
  exact bodyA.ret (ResA.one rfl rfl) zE ⟨by rw [← hgo], rfl, rfl⟩
theorem check_a (σ : PH) (cs : List Value) (p : Pr) (hp : PrAt σ cs p) : CallsA Tryd.prog 25 #[.agg cs.toArray] σ [] (RetA fun v σ' Γ' => v = i64 (checkP p) ∧ σ = σ' ∧ Γ' = []) := by
  obtain ⟨vs, bs, rfl, hv, hb⟩ := hp
  obtain ⟨pv, cv, rfl, hvl, hvm⟩ := hv.shape
  refine enterA1 Tryd.func25 rfl rfl rfl ?_
  refine zS (zR ?_)
  refine XOA.wr0 rfl WrA.bx ?_
  rintro _ _ _ ⟨g1, rfl, rfl, rfl⟩
  refine zO rfl Rd.asg ?_; refine zN (zT (zS (zS (zR (zV rfl rfl ?_))))); refine zB rfl rfl (tyrow rfl) rfl ?_
  refine XOA.wr0 rfl (WrA.cE (vars_a σ _ _ hv) rfl) ?_
  rintro _ _ _ ⟨_, ⟨rfl, rfl, rfl⟩, rfl⟩
  refine XOA.cl ?_; refine zO rfl Rd.asg ?_; refine zN (zT (zS (zR (zA rfl ?_)))); refine zO rfl (Rd.neq rfl rfl) ?_; refine zN (zT ?_)
  refine XA.condp rfl (fun hc => ?_) (fun hc => ?_)
  · refine zS ?_
    refine zR (zA rfl ?_); refine zO rfl Rd.asg ?_; refine zN (zT (XA.ret (DA.thn_ret ?_)))
    exact bodyA.ret (ResA.one rfl rfl) zE ⟨by rw [checkP, if_pos hc], rfl, rfl⟩
  refine XA.skip (zT (zS (zR (zV rfl rfl ?_)))); refine zB rfl rfl (tyrow rfl) rfl ?_
  refine zO rfl (Rd.bl (fun _ _ => tyrow) rfl rfl rfl) ?_
  refine XOA.wr0 rfl WrA.bx ?_
  rintro _ _ _ ⟨g14, rfl, rfl, rfl⟩
  refine zO rfl Rd.asg ?_; refine zN (zT (zS (zR (zA rfl ?_)))); refine zV rfl rfl ?_; refine zB rfl rfl (tyrow rfl) rfl ?_
  refine XOA.ent (Ent.foldC (Θ := [_]) zD (Judge.mkO (l := 150)) (Ent.refl _)) ?_
  refine XOA.wr0 rfl (WrA.cE (list_a σ p.body (fun x _ => stmt_a σ x) bs g14 pv p.vars.length cv (.ok 150) 0 hb (fun l hl => by simp only [Except.ok.injEq] at hl; omega) (by decide) (by decide)) rfl) ?_
  rintro _ _ _ ⟨_, ⟨rfl, rfl, rfl⟩, rfl⟩
  refine XOA.cl ?_
  have hcp : checkP p = (stsE p.vars.length 0 p.body (.ok 150)).code := by rw [checkP, if_neg hc]
  rw [hcp]
  refine zN (zT (zS (zR (zA rfl ?_))))
  cases hst : stsE p.vars.length 0 p.body (.ok 150) with
  | ok a =>
    first | refine XA.opn (R := Judge g14 _ (.ok a)) zL (Judge.okO) ?_ | refine XOA.opn (R := Judge g14 _ (.ok a)) zL (Judge.okO) ?_ | refine DA.opn (R := Judge g14 _ (.ok a)) zL (Judge.okO) ?_
    rintro ⟨⟩ -
    first | refine XA.cl ?_ | refine XOA.cl ?_ | refine DA.cl ?_
    refine zO rfl (Rd.nilCheck rfl) ?_; refine zV rfl rfl ?_; refine zB rfl rfl (tyrow rfl) rfl ?_; refine zO rfl Rd.asg ?_; refine zN (zT (XA.ret ?_))
    exact bodyA.ret (ResA.one rfl rfl) (Ent.nil _) ⟨rfl, rfl, rfl⟩
  | error c =>
    first | refine XA.opn (R := Judge g14 _ (.error c)) zL (Judge.errO) ?_ | refine XOA.opn (R := Judge g14 _ (.error c)) zL (Judge.errO) ?_ | refine DA.opn (R := Judge g14 _ (.error c)) zL (Judge.errO) ?_
    rintro l h0
    first | refine XA.cl ?_ | refine XOA.cl ?_ | refine DA.cl ?_
    refine zO rfl (Rd.nilCheck rfl) ?_; refine zV rfl rfl ?_; refine zB rfl rfl (tyrow rfl) rfl ?_; refine zO rfl Rd.asg ?_; refine zN (zT (XA.ret ?_))
    exact bodyA.ret (ResA.one rfl rfl) (Ent.nil _) ⟨rfl, rfl, rfl⟩
end Go.Proofs.YthefnnkmpcgcmaaDoor

namespace Go.Proofs.YthefnnkmpcgcmaaDoor
open Go X
set_option maxHeartbeats 1000000
theorem take_eq_succ {α : Type} {l m : List α} {k : Nat} {x y : α} (hx : l[k]? = some x) (hy : m[k]? = some y) (h : l.take k = m.take k) (e : x = y) : l.take (k + 1) = m.take (k + 1) := by rw [takeS hx, takeS hy, h, e]
end Go.Proofs.YthefnnkmpcgcmaaDoor

namespace Go.Proofs.YthefnnkmpcgcmaaDoor
open Go X
set_option maxHeartbeats 1000000
theorem rparts_a (σ : PH) (op : Int) : CallsA Tryd.prog 91 #[i64 op] σ [] (RetA fun v σ' Γ' => v = i64 (partsOf op) ∧ σ = σ' ∧ Γ' = []) := by
  refine enterA1 Tryd.func91 rfl rfl rfl ?_
  refine zS (zR (zO rfl Rd.asg ?_)); refine zN (zT (zS (zS (zR (zA rfl ?_))))); refine zN (zT (XA.block (zS (zS (zR ?_)))))
  by_cases h1 : op = 1
  · subst h1
    refine zO rfl (Rd.eql rfl rfl) ?_; refine zO rfl Rd.asg ?_; refine zN (zT (XA.condT rfl rfl (XA.skip (zT (XA.condT rfl rfl (zS (zR (zO rfl Rd.asg ?_)))))))); refine zN (zT (XA.ret (DA.inb_ret (DA.thn_ret ?_))))
    exact bodyA.ret (ResA.one rfl rfl) (Ent.refl _) ⟨rfl, rfl, rfl⟩
  by_cases h2 : op = 2
  · subst h2
    refine zO rfl (Rd.eql rfl rfl) ?_; refine zO rfl Rd.asg ?_; refine zN (zT (XA.condF rfl rfl (zR (zO rfl (Rd.eql rfl rfl) ?_)))); refine zO rfl Rd.asg ?_; refine zN (zT (XA.condT rfl rfl (zS (zR (zO rfl Rd.asg ?_))))); refine zN (zT (XA.ret (DA.inb_ret (DA.thn_ret ?_))))
    exact bodyA.ret (ResA.one rfl rfl) (Ent.refl _) ⟨rfl, rfl, rfl⟩
  by_cases h3 : op = 3
  · subst h3
    refine zO rfl (Rd.eql rfl rfl) ?_; refine zO rfl Rd.asg ?_; refine zN (zT (XA.condF rfl rfl (zR (zO rfl (Rd.eql rfl rfl) ?_)))); refine zO rfl Rd.asg ?_; refine zN (zT (XA.condF rfl rfl (zS (zR (zO rfl (Rd.eql rfl rfl) ?_))))); refine zO rfl Rd.asg ?_
    refine zN (zT (XA.condT rfl rfl (zS (zR (zO rfl Rd.asg ?_))))); refine zN (zT (XA.ret (DA.inb_ret (DA.thn_ret ?_))))
    exact bodyA.ret (ResA.one rfl rfl) (Ent.refl _) ⟨rfl, rfl, rfl⟩
  refine zO rfl (Rd.eql rfl rfl) ?_; refine zO rfl Rd.asg ?_; refine zN (zT (XA.condF rfl zY ?_)); refine zR (zO rfl (Rd.eql rfl rfl) ?_); refine zO rfl Rd.asg ?_; refine zN (zT (XA.condF rfl zY ?_)); refine zS (zR (zO rfl (Rd.eql rfl rfl) ?_)); refine zO rfl Rd.asg ?_
  refine zN (zT (XA.condF rfl zY ?_)); refine zS (zS (zR (zO rfl (Rd.eql rfl rfl) ?_))); refine zO rfl Rd.asg ?_; refine zN (zT ?_)
  have hp : partsOf op = if 4 ≤ op ∧ op ≤ 8 then 2 else -1 := by rw [partsOf, if_neg (by omega), if_neg h3]
  by_cases h4 : op = 4
  · subst h4
    refine XA.condT rfl rfl (XA.skip (zT (XA.condT rfl rfl (zS (zR (zO rfl Rd.asg ?_)))))); refine zN (zT (XA.ret (DA.inb_ret (DA.thn_ret ?_))))
    exact bodyA.ret (ResA.one rfl rfl) (Ent.refl _) ⟨rfl, rfl, rfl⟩
  by_cases h5 : op = 5
  · subst h5
    refine XA.condF rfl rfl (zS (zR (zO rfl (Rd.eql rfl rfl) ?_))); refine zO rfl Rd.asg ?_; refine zN (zT (XA.condT rfl rfl (XA.skip (zT (XA.condT rfl rfl (zS (zR (zO rfl Rd.asg ?_)))))))); refine zN (zT (XA.ret (DA.inb_ret (DA.thn_ret ?_))))
    exact bodyA.ret (ResA.one rfl rfl) (Ent.refl _) ⟨rfl, rfl, rfl⟩
  by_cases h6 : op = 6
  · subst h6
    refine XA.condF rfl rfl (zS (zR (zO rfl (Rd.eql rfl rfl) ?_))); refine zO rfl Rd.asg ?_; refine zN (zT (XA.condF rfl rfl (zS (zR (zO rfl (Rd.eql rfl rfl) ?_))))); refine zO rfl Rd.asg ?_; refine zN (zT (XA.condT rfl rfl (XA.skip (zT (XA.condT rfl rfl (zS (zR (zO rfl Rd.asg ?_))))))))
    refine zN (zT (XA.ret (DA.inb_ret (DA.thn_ret ?_))))
    exact bodyA.ret (ResA.one rfl rfl) (Ent.refl _) ⟨rfl, rfl, rfl⟩
  by_cases h7 : op = 7
  · subst h7
    refine XA.condF rfl rfl (zS (zR (zO rfl (Rd.eql rfl rfl) ?_))); refine zO rfl Rd.asg ?_; refine zN (zT (XA.condF rfl rfl (zS (zR (zO rfl (Rd.eql rfl rfl) ?_))))); refine zO rfl Rd.asg ?_; refine zN (zT (XA.condF rfl rfl (zS (zR (zO rfl (Rd.eql rfl rfl) ?_))))); refine zO rfl Rd.asg ?_
    refine zN (zT (XA.condT rfl rfl (XA.skip (zT (XA.condT rfl rfl (zS (zR (zO rfl Rd.asg ?_)))))))); refine zN (zT (XA.ret (DA.inb_ret (DA.thn_ret ?_))))
    exact bodyA.ret (ResA.one rfl rfl) (Ent.refl _) ⟨rfl, rfl, rfl⟩
  refine XA.condF rfl zY ?_; refine zS (zR (zO rfl (Rd.eql rfl rfl) ?_)); refine zO rfl Rd.asg ?_; refine zN (zT (XA.condF rfl zY ?_)); refine zS (zR (zO rfl (Rd.eql rfl rfl) ?_)); refine zO rfl Rd.asg ?_; refine zN (zT (XA.condF rfl zY ?_)); refine zS (zR (zO rfl (Rd.eql rfl rfl) ?_))
  refine zO rfl Rd.asg ?_; refine zN (zT (XA.condF rfl zY ?_)); refine zR (zO rfl (Rd.eql rfl rfl) ?_); refine zO rfl Rd.asg ?_; refine zN (zT ?_)
  refine XA.condp rfl (fun h8 => ?_) (fun h8 => ?_)
  · subst h8
    refine zS (zR (zO rfl Rd.asg ?_)); refine zN (zT (XA.ret (DA.inb_ret (DA.thn_ret ?_))))
    exact bodyA.ret (ResA.one rfl rfl) (Ent.refl _) ⟨rfl, rfl, rfl⟩
  rw [hp, if_neg (by omega)]
  refine XA.skip (DA.inb_normal (zT (zS (zR (zO rfl Rd.asg ?_))))); refine zN (zT (XA.ret ?_))
  exact bodyA.ret (ResA.one rfl rfl) (Ent.refl _) ⟨rfl, rfl, rfl⟩
def needs (op : Int) : ByteArray := if op = 1 then ⟨#[101, 118]⟩ else if op = 2 then ⟨#[101, 102, 118]⟩ else if op = 3 then ⟨#[101]⟩ else if op = 4 then ⟨#[118]⟩ else if op = 5 then ⟨#[101, 98]⟩ else if op = 6 then ⟨#[101, 98, 111]⟩ else ⟨#[]⟩
theorem rneeds_a (σ : PH) (op : Int) : CallsA Tryd.prog 79 #[i64 op] σ [] (RetA fun v σ' Γ' => v = .string (needs op) ∧ σ = σ' ∧ Γ' = []) := by
  refine enterA1 Tryd.func79 rfl rfl rfl ?_
  refine zS (zR (zO rfl Rd.asg ?_)); refine zN (zT (zS (zS (zR (zA rfl ?_))))); refine zN (zT (XA.block (zS (zR (zO rfl (Rd.eql rfl rfl) ?_))))); refine zO rfl Rd.asg ?_; refine zN (zT ?_)
  refine XA.condp rfl (fun h1 => ?_) (fun h1 => ?_)
  · subst h1
    refine zS (zR (zO rfl Rd.asg ?_)); refine zN (zT (XA.ret (DA.inb_ret (DA.thn_ret ?_))))
    exact bodyA.ret (ResA.one rfl rfl) (Ent.refl _) ⟨rfl, rfl, rfl⟩
  refine zS (zR (zO rfl (Rd.eql rfl rfl) ?_)); refine zO rfl Rd.asg ?_; refine zN (zT ?_)
  refine XA.condp rfl (fun h2 => ?_) (fun h2 => ?_)
  · subst h2
    refine zS (zR (zO rfl Rd.asg ?_)); refine zN (zT (XA.ret (DA.inb_ret (DA.thn_ret ?_))))
    exact bodyA.ret (ResA.one rfl rfl) (Ent.refl _) ⟨rfl, rfl, rfl⟩
  refine zS (zR (zO rfl (Rd.eql rfl rfl) ?_)); refine zO rfl Rd.asg ?_; refine zN (zT ?_)
  refine XA.condp rfl (fun h3 => ?_) (fun h3 => ?_)
  · subst h3
    refine zS (zR (zO rfl Rd.asg ?_)); refine zN (zT (XA.ret (DA.inb_ret (DA.thn_ret ?_))))
    exact bodyA.ret (ResA.one rfl rfl) (Ent.refl _) ⟨rfl, rfl, rfl⟩
  refine zS (zR (zO rfl (Rd.eql rfl rfl) ?_)); refine zO rfl Rd.asg ?_; refine zN (zT ?_)
  refine XA.condp rfl (fun h4 => ?_) (fun h4 => ?_)
  · subst h4
    refine zS (zR (zO rfl Rd.asg ?_)); refine zN (zT (XA.ret (DA.inb_ret (DA.thn_ret ?_))))
    exact bodyA.ret (ResA.one rfl rfl) (Ent.refl _) ⟨rfl, rfl, rfl⟩
  refine zS (zR (zO rfl (Rd.eql rfl rfl) ?_)); refine zO rfl Rd.asg ?_; refine zN (zT ?_)
  refine XA.condp rfl (fun h5 => ?_) (fun h5 => ?_)
  · subst h5
    refine zS (zR (zO rfl Rd.asg ?_)); refine zN (zT (XA.ret (DA.inb_ret (DA.thn_ret ?_))))
    exact bodyA.ret (ResA.one rfl rfl) (Ent.refl _) ⟨rfl, rfl, rfl⟩
  refine zS (zR (zO rfl (Rd.eql rfl rfl) ?_)); refine zO rfl Rd.asg ?_; refine zN (zT ?_)
  refine XA.condp rfl (fun h6 => ?_) (fun h6 => ?_)
  · subst h6
    refine zS (zR (zO rfl Rd.asg ?_)); refine zN (zT (XA.ret (DA.inb_ret (DA.thn_ret ?_))))
    exact bodyA.ret (ResA.one rfl rfl) (Ent.refl _) ⟨rfl, rfl, rfl⟩
  have hn : needs op = ⟨#[]⟩ := by rw [needs, if_neg h1, if_neg h2, if_neg h3, if_neg h4, if_neg h5, if_neg h6]
  rw [hn]
  refine XA.skip (DA.inb_normal (zT (zS (zR (zO rfl Rd.asg ?_))))); refine zN (zT (XA.ret ?_))
  exact bodyA.ret (ResA.one rfl rfl) (Ent.refl _) ⟨rfl, rfl, rfl⟩
def hasByte (s : ByteArray) (c : Nat) : Bool := decide (∃ i, i < s.size ∧ byteAt s i = c)
theorem rneeded_a (σ : PH) (op : Int) (c : Nat) : CallsA Tryd.prog 55 #[i64 op, .int .u8 c] σ [] (RetA fun v σ' Γ' => v = .bool (hasByte (needs op) c) ∧ σ = σ' ∧ Γ' = []) := by
  have hsz : (needs op).size ≤ 3 := by unfold needs; (repeat' split) <;> decide
  refine enterA2 Tryd.func55 rfl rfl rfl ?_
  refine zS (zR (zO rfl Rd.asg ?_)); refine zN (zT (zS (zR (zA rfl ?_))))
  refine XOA.wr0 rfl (WrA.cE (rneeds_a σ op) rfl) ?_
  rintro _ _ _ ⟨_, ⟨rfl, rfl, rfl⟩, rfl⟩
  refine XOA.cl ?_
  obtain ⟨s, hs⟩ : ∃ s, s = needs op := ⟨_, rfl⟩
  rw [← hs] at hsz ⊢
  refine zO rfl Rd.asg ?_; refine zN (zT (zS (zS (zR (zO rfl Rd.asg ?_))))); refine zN (zT (XA.block ?_))
  refine XA.gen [(1, _), (4, _), (5, _), (6, _)] ⟨(by with_reducible (conv => lhs; whnf)), (by with_reducible (conv => lhs; whnf)), (by with_reducible (conv => lhs; whnf)), (by with_reducible (conv => lhs; whnf)), trivial⟩ (fun δ => ?_)
  dsimp only [List.foldl]
  refine XA.loop [(4, 4), (6, 6), (9, 19)] (fun k : Nat => [(6, i64 k)]) (fun k σ' Γ' => σ = σ' ∧ k ≤ s.size ∧ (∀ i, i < k → byteAt s i ≠ c) ∧ Γ' = []) (fun k => s.size - k) 0 (by exact ⟨rfl, trivial⟩) (Δ0 := _) ?_ (⟨rfl, Nat.zero_le _, fun i h => absurd h (Nat.not_lt_zero _), rfl⟩) ?_
  · exact zE
  rintro k δ _ _ ⟨rfl, hk, hall, rfl⟩
  dsimp only [ovr, List.foldl]
  refine zS (zS (zR (zA rfl ?_))); refine zA rfl ?_; refine zO rfl (Rd.lenString (tyrow rfl) rfl rfl) ?_; refine zO rfl (Rd.lss rfl rfl) ?_; refine zN (zT ?_)
  refine XA.condp rfl (fun hlt => ?_) (fun hlt => ?_)
  · have hlt : k < s.size := by omega
    refine XA.skip (zT (zS (XA.block (zS (zR (zA rfl ?_)))))); refine zA rfl ?_
    refine zO rfl (Rd.indexStr (tyrow rfl) rfl rfl rfl (by first | omega | decide | (simp; omega))) ?_
    refine zA rfl ?_; refine zO rfl (Rd.eql rfl rfl) ?_; refine zN (zT ?_)
    refine XA.condp rfl (fun he => ?_) (fun he => ?_)
    · have hb : hasByte s c = true := decide_eq_true ⟨k, hlt, by omega⟩
      rw [hb]
      refine zS (zR (zO rfl Rd.asg ?_)); refine zN (zT (XA.ret (DA.inb_ret (DA.thn_ret (DA.thn_ret (DA.inb_ret (DA.thn_ret ?_)))))))
      exact bodyA.ret (ResA.one rfl rfl) (Ent.nil _) ⟨rfl, rfl, rfl⟩
    have hnew : ∀ i, i < k + 1 → byteAt s i ≠ c := fun i hi => by
      rcases Nat.lt_or_ge i k with h | h
      · exact hall i h
      · have : i = k := by omega
        subst this; omega
    refine XA.skip (DA.inb_normal (zT (zR (zA rfl ?_)))); refine zO rfl zI ?_; refine zO rfl Rd.asg ?_; refine zN (zT ?_)
    refine ⟨(Keep.upd (Keep.upd (Keep.upd (Keep.upd (Keep.upd (Keep.upd (Keep.upd (Keep.upd (Keep.upd (Keep.upd (Keep.upd (Keep.upd (Keep.upd (Keep.hav (Keep.hav (Keep.hav (Keep.refl _ _) rfl) rfl) rfl) rfl) rfl) rfl) rfl) rfl) rfl) rfl) rfl) rfl) rfl) rfl) rfl) rfl), k + 1, _, zM, ?_, ⟨rfl, hlt, hnew, rfl⟩, (by omega)⟩
    · exact zE
  have hb : hasByte s c = false := decide_eq_false (fun ⟨i, h1, h2⟩ => hall i (by omega) h2)
  rw [hb]
  refine XA.exit (DA.thn_exit (DA.thn_exit (DA.inb_same (zT (zS (zR (zO rfl Rd.asg ?_))))))); refine zN (zT (XA.ret ?_))
  exact bodyA.ret (ResA.one rfl rfl) (Ent.nil _) ⟨rfl, rfl, rfl⟩
theorem need_op (op : Int) : hasByte (needs op) 101 = needE op ∧ hasByte (needs op) 102 = needF op ∧ hasByte (needs op) 118 = needV op ∧ hasByte (needs op) 98 = needB op ∧ hasByte (needs op) 111 = needO op := by
  by_cases h1 : op = 1
  · subst h1; decide +kernel
  by_cases h2 : op = 2
  · subst h2; decide +kernel
  by_cases h3 : op = 3
  · subst h3; decide +kernel
  by_cases h4 : op = 4
  · subst h4; decide +kernel
  by_cases h5 : op = 5
  · subst h5; decide +kernel
  by_cases h6 : op = 6
  · subst h6; decide +kernel
  have hn : needs op = ⟨#[]⟩ := by rw [needs, if_neg h1, if_neg h2, if_neg h3, if_neg h4, if_neg h5, if_neg h6]
  rw [hn]
  have : ∀ c, hasByte ⟨#[]⟩ c = false := fun c => decide_eq_false (fun ⟨i, h, _⟩ => absurd h (Nat.not_lt_zero i))
  simp [this, needE, needF, needV, needB, needO, h1, h2, h3, h4, h5, h6]
theorem rname_a (σ : PH) (s : ByteArray) (hs : s.size ≤ maxLen) : CallsA Tryd.prog 43 #[.string s] σ [] (RetA fun v σ' Γ' => v = .bool (nameOk s) ∧ σ = σ' ∧ Γ' = []) := by
  simp only [maxLen] at hs
  refine enterA1 Tryd.func43 rfl rfl rfl ?_
  refine zS (zR (zO rfl Rd.asg ?_)); refine zN (zT (zS (zS (zR (zO rfl Rd.asg ?_))))); refine zN (zT (XA.block ?_))
  refine XA.gen [(0, _), (2, _), (3, _)] ⟨(by with_reducible (conv => lhs; whnf)), (by with_reducible (conv => lhs; whnf)), (by with_reducible (conv => lhs; whnf)), trivial⟩ (fun δ => ?_)
  dsimp only [List.foldl]
  refine XA.loop [(2, 19)] (fun k : Nat => [(3, i64 k)]) (fun k σ' Γ' => σ = σ' ∧ k ≤ s.size ∧ (∀ i, i < k → 97 ≤ byteAt s i ∧ byteAt s i ≤ 122) ∧ Γ' = []) (fun k => s.size - k) 0 (by exact ⟨rfl, trivial⟩) (Δ0 := _) ?_ (⟨rfl, Nat.zero_le _, by intro i hi; omega, rfl⟩) ?_
  · exact zE
  rintro k δ _ _ ⟨rfl, hk, hall, rfl⟩
  dsimp only [ovr, List.foldl]
  refine zS (zS (zR (zA rfl ?_))); refine zA rfl ?_; refine zO rfl (Rd.lenString (tyrow rfl) rfl rfl) ?_; refine zO rfl (Rd.lss rfl rfl) ?_; refine zN (zT ?_)
  refine XA.condp rfl (fun hlt => ?_) (fun hlt => ?_)
  · have hlt : k < s.size := by omega
    have hb := byteAt_lt s k
    by_cases h1 : byteAt s k < 97
    · 
      refine XA.skip (zT (zS (XA.block (zS (zR (zA rfl ?_)))))); refine zA rfl ?_
      refine zO rfl (Rd.indexStr (tyrow rfl) rfl rfl rfl (by first | omega | decide | (simp; omega))) ?_
      refine zO rfl (Rd.lss rfl rfl) ?_; refine zA rfl ?_
      first | (refine zG ?_; refine zA rfl ?_) | refine zH ?_
      first | (refine zG ?_; refine zA rfl ?_) | refine zH ?_
      first | (refine zG ?_; refine zO rfl (Rd.indexStr (tyrow rfl) rfl rfl rfl (by first | omega | decide | (simp; omega))) ?_) | refine zH ?_
      first | (refine zG ?_; refine zO rfl (Rd.gtr rfl rfl) ?_) | refine zH ?_
      refine zO rfl zP ?_; refine zN (zT (XA.condT rfl rfl (zS (zR (zO rfl Rd.asg ?_))))); refine zN (zT (XA.ret (DA.inb_ret (DA.thn_ret (DA.thn_ret (DA.inb_ret (DA.thn_ret ?_)))))))
      refine bodyA.ret (ResA.one rfl rfl) (Ent.refl _) ⟨?_, rfl, rfl⟩
      have : nameOk s = false := decide_eq_false (fun h => by have := h.1 k hlt; omega)
      rw [this]
    · 
      refine XA.skip (zT (zS (XA.block (zS (zR (zA rfl ?_)))))); refine zA rfl ?_
      refine zO rfl (Rd.indexStr (tyrow rfl) rfl rfl rfl (by first | omega | decide | (simp; omega))) ?_
      refine zO rfl (Rd.lss rfl rfl) ?_; refine zA rfl ?_
      first | (refine zG ?_; refine zA rfl ?_) | refine zH ?_
      first | (refine zG ?_; refine zA rfl ?_) | refine zH ?_
      first | (refine zG ?_; refine zO rfl (Rd.indexStr (tyrow rfl) rfl rfl rfl (by first | omega | decide | (simp; omega))) ?_) | refine zH ?_
      first | (refine zG ?_; refine zO rfl (Rd.gtr rfl rfl) ?_) | refine zH ?_
      refine zO rfl zP ?_; refine zN (zT ?_)
      refine XA.condp rfl (fun h2 => ?_) (fun h2 => ?_)
      · refine zS ?_
        refine zR (zO rfl Rd.asg ?_); refine zN (zT (XA.ret (DA.inb_ret (DA.thn_ret (DA.thn_ret (DA.inb_ret (DA.thn_ret ?_)))))))
        refine bodyA.ret (ResA.one rfl rfl) (Ent.refl _) ⟨?_, rfl, rfl⟩
        have : nameOk s = false := decide_eq_false (fun h => by have := h.1 k hlt; omega)
        rw [this]
      have hnew : ∀ i, i < k + 1 → 97 ≤ byteAt s i ∧ byteAt s i ≤ 122 := fun i hi => by
        rcases Nat.lt_or_ge i k with h | h
        · exact hall i h
        · have : i = k := by omega
          subst this; omega
      refine XA.skip (DA.inb_normal (zT (zR (zA rfl ?_)))); refine zO rfl zI ?_; refine zO rfl Rd.asg ?_; refine zN (zT ?_)
      refine ⟨(Keep.upd (Keep.upd (Keep.upd (Keep.upd (Keep.upd (Keep.upd (Keep.upd (Keep.upd (Keep.upd (Keep.upd (Keep.upd (Keep.upd (Keep.upd (Keep.upd (Keep.upd (Keep.upd (Keep.upd (Keep.upd (Keep.hav (Keep.refl _ _) rfl) rfl) rfl) rfl) rfl) rfl) rfl) rfl) rfl) rfl) rfl) rfl) rfl) rfl) rfl) rfl) rfl) rfl) rfl), k + 1, _, zM, ?_, ⟨rfl, hlt, hnew, rfl⟩, (by omega)⟩
      · exact zE
  have hkn : k = s.size := by omega
  subst hkn
  by_cases h0 : 1 ≤ s.size
  · have : nameOk s = decide ((s.size : Int) ≤ 8) := by
      unfold nameOk
      rw [decide_eq_decide]
      constructor
      · intro h; omega
      · intro h; exact ⟨hall, by omega, by omega⟩
    rw [this]
    refine XA.exit (DA.thn_exit (DA.thn_exit (DA.inb_same (zT (zS (zR (zA rfl ?_))))))); refine zO rfl (Rd.lenString (tyrow rfl) rfl rfl) ?_; refine zO rfl (Rd.geq rfl rfl) ?_; refine zA rfl ?_
    first | (refine zG ?_; refine zA rfl ?_) | refine zH ?_
    first | (refine zG ?_; refine zO rfl (Rd.lenString (tyrow rfl) rfl rfl) ?_) | refine zH ?_
    first | (refine zG ?_; refine zO rfl (Rd.leq rfl rfl) ?_) | refine zH ?_
    refine zO rfl zP ?_; refine zO rfl Rd.asg ?_; refine zN (zT (XA.ret ?_))
    exact bodyA.ret (ResA.one rfl rfl) (Ent.refl _) ⟨rfl, rfl, rfl⟩
  · have : nameOk s = false := decide_eq_false (fun h => by omega)
    rw [this]
    refine XA.exit (DA.thn_exit (DA.thn_exit (DA.inb_same (zT (zS (zR (zA rfl ?_))))))); refine zO rfl (Rd.lenString (tyrow rfl) rfl rfl) ?_; refine zO rfl (Rd.geq rfl rfl) ?_; refine zA rfl ?_
    first | (refine zG ?_; refine zA rfl ?_) | refine zH ?_
    first | (refine zG ?_; refine zO rfl (Rd.lenString (tyrow rfl) rfl rfl) ?_) | refine zH ?_
    first | (refine zG ?_; refine zO rfl (Rd.leq rfl rfl) ?_) | refine zH ?_
    refine zO rfl zP ?_; refine zO rfl Rd.asg ?_; refine zN (zT (XA.ret ?_))
    exact bodyA.ret (ResA.one rfl rfl) (Ent.refl _) ⟨rfl, rfl, rfl⟩
theorem rzero_a (σ : PH) (cs : List Value) (x : Ex) (hx : ExAt σ cs x) : CallsA Tryd.prog 70 #[.agg cs.toArray] σ [] (RetA fun v σ' Γ' => v = .bool (noneX x) ∧ σ = σ' ∧ Γ' = []) := by
  obtain ⟨p, c, rfl, -, -, -, -⟩ := hx.inv
  by_cases h1 : x.op = 0
  · by_cases h2 : x.v = 0
    · by_cases h3 : x.n = 0
      · 
        refine enterA1 Tryd.func70 rfl rfl rfl ?_
        refine zS (zR ?_)
        refine XOA.wr0 rfl WrA.bx ?_
        rintro _ _ _ ⟨g1, rfl, rfl, rfl⟩
        refine zO rfl Rd.asg ?_; refine zN (zT (zS (zR (zV rfl rfl ?_)))); refine zB rfl rfl (tyrow rfl) rfl ?_; refine zO rfl (Rd.eql rfl rfl) ?_; refine zA rfl ?_
        first | (refine zG ?_; refine zV rfl rfl ?_) | refine zH ?_
        first | (refine zG ?_; refine zB rfl rfl (tyrow rfl) rfl ?_) | refine zH ?_
        first | (refine zG ?_; refine zO rfl (Rd.eql rfl rfl) ?_) | refine zH ?_
        refine zO rfl zP ?_; refine zA rfl ?_
        first | (refine zG ?_; refine zV rfl rfl ?_) | refine zH ?_
        first | (refine zG ?_; refine zB rfl rfl (tyrow rfl) rfl ?_) | refine zH ?_
        first | (refine zG ?_; refine zO rfl (Rd.eql rfl rfl) ?_) | refine zH ?_
        refine zO rfl zP ?_; refine zA rfl ?_
        first | (refine zG ?_; refine zV rfl rfl ?_) | refine zH ?_
        first | (refine zG ?_; refine zB rfl rfl (tyrow rfl) rfl ?_) | refine zH ?_
        first | (refine zG ?_; refine zO rfl (Rd.lenSlice (tyrow rfl) rfl rfl) ?_) | refine zH ?_
        first | (refine zG ?_; refine zO rfl (Rd.eql rfl rfl) ?_) | refine zH ?_
        refine zO rfl zP ?_; refine zO rfl Rd.asg ?_; refine zN (zT (XA.ret ?_))
        refine bodyA.ret (ResA.one rfl rfl) (Ent.nil _) ⟨?_, rfl, rfl⟩
        simp [noneX, h1, h2, h3]
      · 
        refine enterA1 Tryd.func70 rfl rfl rfl ?_
        refine zS (zR ?_)
        refine XOA.wr0 rfl WrA.bx ?_
        rintro _ _ _ ⟨g1, rfl, rfl, rfl⟩
        refine zO rfl Rd.asg ?_; refine zN (zT (zS (zR (zV rfl rfl ?_)))); refine zB rfl rfl (tyrow rfl) rfl ?_; refine zO rfl (Rd.eql rfl rfl) ?_; refine zA rfl ?_
        first | (refine zG ?_; refine zV rfl rfl ?_) | refine zH ?_
        first | (refine zG ?_; refine zB rfl rfl (tyrow rfl) rfl ?_) | refine zH ?_
        first | (refine zG ?_; refine zO rfl (Rd.eql rfl rfl) ?_) | refine zH ?_
        refine zO rfl zP ?_; refine zA rfl ?_
        first | (refine zG ?_; refine zV rfl rfl ?_) | refine zH ?_
        first | (refine zG ?_; refine zB rfl rfl (tyrow rfl) rfl ?_) | refine zH ?_
        first | (refine zG ?_; refine zO rfl (Rd.eql rfl rfl) ?_) | refine zH ?_
        refine zO rfl zP ?_; refine zA rfl ?_
        first | (refine zG ?_; refine zV rfl rfl ?_) | refine zH ?_
        first | (refine zG ?_; refine zB rfl rfl (tyrow rfl) rfl ?_) | refine zH ?_
        first | (refine zG ?_; refine zO rfl (Rd.lenSlice (tyrow rfl) rfl rfl) ?_) | refine zH ?_
        first | (refine zG ?_; refine zO rfl (Rd.eql rfl rfl) ?_) | refine zH ?_
        refine zO rfl zP ?_; refine zO rfl Rd.asg ?_; refine zN (zT (XA.ret ?_))
        exact bodyA.ret (ResA.one rfl rfl) (Ent.nil _) ⟨by simp [noneX, h3], rfl, rfl⟩
    · 
      refine enterA1 Tryd.func70 rfl rfl rfl ?_
      refine zS (zR ?_)
      refine XOA.wr0 rfl WrA.bx ?_
      rintro _ _ _ ⟨g1, rfl, rfl, rfl⟩
      refine zO rfl Rd.asg ?_; refine zN (zT (zS (zR (zV rfl rfl ?_)))); refine zB rfl rfl (tyrow rfl) rfl ?_; refine zO rfl (Rd.eql rfl rfl) ?_; refine zA rfl ?_
      first | (refine zG ?_; refine zV rfl rfl ?_) | refine zH ?_
      first | (refine zG ?_; refine zB rfl rfl (tyrow rfl) rfl ?_) | refine zH ?_
      first | (refine zG ?_; refine zO rfl (Rd.eql rfl rfl) ?_) | refine zH ?_
      refine zO rfl zP ?_; refine zA rfl ?_
      first | (refine zG ?_; refine zV rfl rfl ?_) | refine zH ?_
      first | (refine zG ?_; refine zB rfl rfl (tyrow rfl) rfl ?_) | refine zH ?_
      first | (refine zG ?_; refine zO rfl (Rd.eql rfl rfl) ?_) | refine zH ?_
      refine zO rfl zP ?_; refine zA rfl ?_
      first | (refine zG ?_; refine zV rfl rfl ?_) | refine zH ?_
      first | (refine zG ?_; refine zB rfl rfl (tyrow rfl) rfl ?_) | refine zH ?_
      first | (refine zG ?_; refine zO rfl (Rd.lenSlice (tyrow rfl) rfl rfl) ?_) | refine zH ?_
      first | (refine zG ?_; refine zO rfl (Rd.eql rfl rfl) ?_) | refine zH ?_
      refine zO rfl zP ?_; refine zO rfl Rd.asg ?_; refine zN (zT (XA.ret ?_))
      exact bodyA.ret (ResA.one rfl rfl) (Ent.nil _) ⟨by simp [noneX, h2], rfl, rfl⟩
  · 
    refine enterA1 Tryd.func70 rfl rfl rfl ?_
    refine zS (zR ?_)
    refine XOA.wr0 rfl WrA.bx ?_
    rintro _ _ _ ⟨g1, rfl, rfl, rfl⟩
    refine zO rfl Rd.asg ?_; refine zN (zT (zS (zR (zV rfl rfl ?_)))); refine zB rfl rfl (tyrow rfl) rfl ?_; refine zO rfl (Rd.eql rfl rfl) ?_; refine zA rfl ?_
    first | (refine zG ?_; refine zV rfl rfl ?_) | refine zH ?_
    first | (refine zG ?_; refine zB rfl rfl (tyrow rfl) rfl ?_) | refine zH ?_
    first | (refine zG ?_; refine zO rfl (Rd.eql rfl rfl) ?_) | refine zH ?_
    refine zO rfl zP ?_; refine zA rfl ?_
    first | (refine zG ?_; refine zV rfl rfl ?_) | refine zH ?_
    first | (refine zG ?_; refine zB rfl rfl (tyrow rfl) rfl ?_) | refine zH ?_
    first | (refine zG ?_; refine zO rfl (Rd.eql rfl rfl) ?_) | refine zH ?_
    refine zO rfl zP ?_; refine zA rfl ?_
    first | (refine zG ?_; refine zV rfl rfl ?_) | refine zH ?_
    first | (refine zG ?_; refine zB rfl rfl (tyrow rfl) rfl ?_) | refine zH ?_
    first | (refine zG ?_; refine zO rfl (Rd.lenSlice (tyrow rfl) rfl rfl) ?_) | refine zH ?_
    first | (refine zG ?_; refine zO rfl (Rd.eql rfl rfl) ?_) | refine zH ?_
    refine zO rfl zP ?_; refine zO rfl Rd.asg ?_; refine zN (zT (XA.ret ?_))
    exact bodyA.ret (ResA.one rfl rfl) (Ent.nil _) ⟨by simp [noneX, h1], rfl, rfl⟩
end Go.Proofs.YthefnnkmpcgcmaaDoor

namespace Go.Proofs.YthefnnkmpcgcmaaDoor
open Go X
set_option maxHeartbeats 1000000
/-- looking: how many were met, or a code. -/
def Look (b : Nat) (vs bs : Value) (e : JE) : HP := fun m => ∃ n c, blk b [vs, bs, i64 n, i64 c] 87 m ∧ match e with | .ok l => n = 150 - l ∧ c = 0 | .error d => c = d ∧ c ≠ 0
theorem Look.okO {b : Nat} {vs bs : Value} {l : Int} : ∀ m, Look b vs bs (.ok l) m → ∃ _ : Unit, True ∧ Sat [blk b [vs, bs, i64 (150 - l), i64 0] 87] m := by
  rintro m ⟨l', c, h, rfl, rfl⟩; exact ⟨(), trivial, sat1 h⟩
theorem Look.errO {b : Nat} {vs bs : Value} {c : Int} : ∀ m, Look b vs bs (.error c) m → ∃ n : Int, c ≠ 0 ∧ Sat [blk b [vs, bs, i64 n, i64 c] 87] m := by
  rintro m ⟨l', c', h, rfl, h0⟩; exact ⟨l', h0, sat1 h⟩
theorem Look.mkO {b : Nat} {vs bs : Value} {l n : Int} (hn : n = 150 - l) : ∀ m, Sat [blk b [vs, bs, i64 n, i64 0] 87] m → Look b vs bs (.ok l) m := fun m h => ⟨n, 0, of_sat1 blk_mono h, hn, rfl⟩
theorem Look.mkE {b : Nat} {vs bs : Value} {n c : Int} (h0 : c ≠ 0) : ∀ m, Sat [blk b [vs, bs, i64 n, i64 c] 87] m → Look b vs bs (.error c) m := fun m h => ⟨n, c, of_sat1 blk_mono h, rfl, h0⟩
theorem Look.anyD {b : Nat} {vs bs : Value} {e : JE} : ∀ m, Look b vs bs e m → ∃ x : Int × Int, (decide (x.2 = 0) = e.isOk ∧ ∀ m', Sat [blk b [vs, bs, i64 x.1, i64 x.2] 87] m' → Look b vs bs e m') ∧ Sat [blk b [vs, bs, i64 x.1, i64 x.2] 87] m := by
  rintro m ⟨l', c, h, h0⟩
  refine ⟨(l', c), ⟨?_, fun m' h' => ⟨l', c, of_sat1 blk_mono h', h0⟩⟩, sat1 h⟩
  cases e with
  | ok l => obtain ⟨-, rfl⟩ := h0; rfl
  | error d => obtain ⟨-, h0⟩ := h0; exact decide_eq_false h0
/-- A judge of whom the count is not looked at. -/
theorem bad_c (σ : PH) (b : Nat) (vs bs : Value) (n c0 : Int) (is : Bool) (c : Int) :
    CallsA Tryd.prog 69 #[ptr b, .bool is, i64 c] σ [blk b [vs, bs, i64 n, i64 c0] 87] (RetA fun v σ' Γ' => v = .tuple #[] ∧ σ = σ' ∧ Γ' = [blk b [vs, bs, i64 n, i64 (if is ∧ c0 = 0 then c else c0)] 87]) := by
  cases is with
  | false =>
    refine enterA3 Tryd.func69 rfl rfl rfl ?_
    refine zS (zR (zA rfl ?_)); refine zA rfl ?_
    first | (refine zG ?_; refine zA rfl ?_) | refine zH ?_
    first | (refine zG ?_; refine zO rfl (Rd.nilCheck rfl) ?_) | refine zH ?_
    first | (refine zG ?_; refine zV rfl rfl ?_) | refine zH ?_
    first | (refine zG ?_; refine zB rfl rfl (tyrow rfl) rfl ?_) | refine zH ?_
    first | (refine zG ?_; refine zO rfl (Rd.eql rfl rfl) ?_) | refine zH ?_
    refine zO rfl zP ?_; refine zN (zT (XA.condF rfl rfl (XA.skip ?_)))
    exact bodyA.normal (ResA.none rfl) (Ent.refl _) ⟨rfl, rfl, by simp⟩
  | true =>
    by_cases h0 : c0 = 0
    · subst h0
      refine enterA3 Tryd.func69 rfl rfl rfl ?_
      refine zS (zR (zA rfl ?_)); refine zA rfl ?_
      first | (refine zG ?_; refine zA rfl ?_) | refine zH ?_
      first | (refine zG ?_; refine zO rfl (Rd.nilCheck rfl) ?_) | refine zH ?_
      first | (refine zG ?_; refine zV rfl rfl ?_) | refine zH ?_
      first | (refine zG ?_; refine zB rfl rfl (tyrow rfl) rfl ?_) | refine zH ?_
      first | (refine zG ?_; refine zO rfl (Rd.eql rfl rfl) ?_) | refine zH ?_
      refine zO rfl zP ?_; refine zN (zT (XA.condT rfl rfl (zR (zA rfl ?_)))); refine zA rfl ?_; refine zO rfl (Rd.nilCheck rfl) ?_; refine zV rfl rfl ?_
      refine XOA.wr0 rfl (WrA.st (tyrow rfl) rfl) ?_
      rintro _ _ _ ⟨rfl, rfl, rfl⟩
      refine zN ?_
      exact bodyA.normal (ResA.none rfl) (Ent.refl _) ⟨rfl, rfl, by simp⟩
    · 
      refine enterA3 Tryd.func69 rfl rfl rfl ?_
      refine zS (zR (zA rfl ?_)); refine zA rfl ?_
      first | (refine zG ?_; refine zA rfl ?_) | refine zH ?_
      first | (refine zG ?_; refine zO rfl (Rd.nilCheck rfl) ?_) | refine zH ?_
      first | (refine zG ?_; refine zV rfl rfl ?_) | refine zH ?_
      first | (refine zG ?_; refine zB rfl rfl (tyrow rfl) rfl ?_) | refine zH ?_
      first | (refine zG ?_; refine zO rfl (Rd.eql rfl rfl) ?_) | refine zH ?_
      refine zO rfl zP ?_; refine zN (zT (XA.condF rfl (decide_eq_false h0) (XA.skip ?_)))
      exact bodyA.normal (ResA.none rfl) (Ent.refl _) ⟨rfl, rfl, by simp [h0]⟩
theorem Ent.one {R S : HP} (h : ∀ m, R m → S m) : Ent [R] [S] := fun m ⟨m1, m2, a, b, c, d, e⟩ => ⟨m1, m2, h _ a, b, c, d, e⟩
theorem bad_a (σ : PH) (b : Nat) (vs bs : Value) (e : JE) (is : Bool) (c : Int) (hc : c ≠ 0) :
    CallsA Tryd.prog 69 #[ptr b, .bool is, i64 c] σ [Look b vs bs e] (RetA fun v σ' Γ' => v = .tuple #[] ∧ σ = σ' ∧ Γ' = [Look b vs bs (e.fail is c)]) := by
  cases e with
  | ok l =>
    refine CallsA.opn .head Look.okO (enters Tryd.func69 rfl rfl) ?_
    rintro ⟨⟩ -
    refine (bad_c σ b vs bs (150 - l) 0 is c).conv ?_
    cases is with
    | true => exact Ent.one (fun m h => ⟨150 - l, c, h, rfl, hc⟩)
    | false => exact Ent.one (fun m h => ⟨150 - l, 0, h, rfl, rfl⟩)
  | error d =>
    refine CallsA.opn .head Look.errO (enters Tryd.func69 rfl rfl) ?_
    rintro n h0
    refine (bad_c σ b vs bs n d is c).conv ?_
    rw [if_neg (fun h => h0 h.2)]
    exact Ent.one (fun m h => ⟨n, d, h, rfl, h0⟩)
theorem head_a (σ : PH) (b : Nat) (vs bs : Value) (e : JE) (deep : Int) (hl : e.in_) :
    CallsA Tryd.prog 68 #[ptr b, i64 deep] σ [Look b vs bs e] (RetA fun v σ' Γ' => v = .tuple #[] ∧ σ = σ' ∧ Γ' = [Look b vs bs (e.one deep)]) := by
  cases e with
  | error d =>
    refine enterA2 Tryd.func68 rfl rfl rfl ?_
    refine zS (zR (zA rfl ?_))
    first | refine XA.opn (R := Look b vs bs (.error d)) zL (Look.errO) ?_ | refine XOA.opn (R := Look b vs bs (.error d)) zL (Look.errO) ?_ | refine DA.opn (R := Look b vs bs (.error d)) zL (Look.errO) ?_
    rintro n h0
    first | refine XA.cl ?_ | refine XOA.cl ?_ | refine DA.cl ?_
    refine zO rfl (Rd.nilCheck rfl) ?_; refine zV rfl rfl ?_; refine zB rfl rfl (tyrow rfl) rfl ?_; refine zO rfl zI ?_; refine zO rfl (Rd.nilCheck rfl) ?_; refine zV rfl rfl ?_
    refine XOA.wr0 rfl (WrA.st (tyrow rfl) rfl) ?_
    rintro _ _ _ ⟨rfl, rfl, rfl⟩
    refine zN (zT (zS (zR (zA rfl ?_)))); refine zA rfl ?_; refine zO rfl (Rd.gtr rfl rfl) ?_
    refine XOA.wr0 rfl (WrA.cE (bad_c σ b vs bs _ d (decide (12 < deep)) 4) rfl) ?_
    rintro _ _ _ ⟨_, ⟨rfl, rfl, rfl⟩, rfl⟩
    refine XOA.cl ?_; refine zN (zT (zR (zA rfl ?_))); refine zA rfl ?_; refine zO rfl (Rd.nilCheck rfl) ?_; refine zV rfl rfl ?_; refine zB rfl rfl (tyrow rfl) rfl ?_; refine zO rfl (Rd.gtr rfl rfl) ?_
    refine XOA.wr0 rfl (WrA.cE (bad_c σ b vs bs _ _ _ 3) rfl) ?_
    rintro _ _ _ ⟨_, ⟨rfl, rfl, rfl⟩, rfl⟩
    refine XOA.cl ?_
    rw [show (if decide (12 < deep) = true ∧ d = 0 then (4 : Int) else d) = d from if_neg (fun h => h0 h.2), if_neg (fun h => h0 h.2)]
    refine zN ?_
    exact bodyA.normal (ResA.none rfl) (Ent.fold1 zE (Look.mkE h0)) ⟨rfl, rfl, rfl⟩
  | ok l =>
    obtain ⟨l0, l1⟩ := hl l rfl
    refine enterA2 Tryd.func68 rfl rfl rfl ?_
    refine zS (zR (zA rfl ?_))
    first | refine XA.opn (R := Look b vs bs (.ok l)) zL (Look.okO) ?_ | refine XOA.opn (R := Look b vs bs (.ok l)) zL (Look.okO) ?_ | refine DA.opn (R := Look b vs bs (.ok l)) zL (Look.okO) ?_
    rintro ⟨⟩ -
    first | refine XA.cl ?_ | refine XOA.cl ?_ | refine DA.cl ?_
    refine zO rfl (Rd.nilCheck rfl) ?_; refine zV rfl rfl ?_; refine zB rfl rfl (tyrow rfl) rfl ?_; refine zO rfl zI ?_; refine zO rfl (Rd.nilCheck rfl) ?_; refine zV rfl rfl ?_
    refine XOA.wr0 rfl (WrA.st (tyrow rfl) rfl) ?_
    rintro _ _ _ ⟨rfl, rfl, rfl⟩
    refine zN (zT (zS (zR (zA rfl ?_)))); refine zA rfl ?_; refine zO rfl (Rd.gtr rfl rfl) ?_
    refine XOA.wr0 rfl (WrA.cE (bad_c σ b vs bs _ 0 (decide (12 < deep)) 4) rfl) ?_
    rintro _ _ _ ⟨_, ⟨rfl, rfl, rfl⟩, rfl⟩
    refine XOA.cl ?_; refine zN (zT (zR (zA rfl ?_))); refine zA rfl ?_; refine zO rfl (Rd.nilCheck rfl) ?_; refine zV rfl rfl ?_; refine zB rfl rfl (tyrow rfl) rfl ?_; refine zO rfl (Rd.gtr rfl rfl) ?_
    refine XOA.wr0 rfl (WrA.cE (bad_c σ b vs bs _ _ (decide (150 < 150 - l + 1)) 3) rfl) ?_
    rintro _ _ _ ⟨_, ⟨rfl, rfl, rfl⟩, rfl⟩
    refine XOA.cl ?_
    by_cases hd : 12 < deep
    · skip
      rw [show (if decide (12 < deep) = true ∧ (0 : Int) = 0 then (4 : Int) else 0) = 4 by simp [hd], if_neg (fun h => absurd h.2 (by decide))]
      refine zN ?_
      refine bodyA.normal (ResA.none rfl) (Ent.fold1 (Θ := [blk b [vs, bs, i64 (150 - l + 1), i64 4] 87]) zE (Look.mkE (by decide))) ⟨rfl, rfl, ?_⟩
      simp [JE.one, hd]
    · rw [show (if decide (12 < deep) = true ∧ (0 : Int) = 0 then (4 : Int) else 0) = 0 by simp [hd]]
      by_cases h0 : l = 0
      · rw [show (if decide (150 < 150 - l + 1) = true ∧ (0 : Int) = 0 then (3 : Int) else 0) = 3 by simp [h0]]
        refine zN ?_
        refine bodyA.normal (ResA.none rfl) (Ent.fold1 (Θ := [blk b [vs, bs, i64 (150 - l + 1), i64 3] 87]) zE (Look.mkE (by decide))) ⟨rfl, rfl, ?_⟩
        simp [JE.one, hd, h0]
      · rw [show (if decide (150 < 150 - l + 1) = true ∧ (0 : Int) = 0 then (3 : Int) else 0) = 0 by rw [if_neg]; simp; omega]
        refine zN ?_
        refine bodyA.normal (ResA.none rfl) (Ent.fold1 (Θ := [blk b [vs, bs, i64 (150 - l + 1), i64 0] 87]) zE (Look.mkO (l := l - 1) (by omega))) ⟨rfl, rfl, ?_⟩
        simp [JE.one, hd, h0]
theorem variable_a (σ : PH) (b : Nat) (p : Option Addr) (n c : Nat) (bs : Value) (e : JE) (v : Int) (is : Bool) :
    CallsA Tryd.prog 71 #[ptr b, i64 v, .bool is] σ [Look b (.slice p n c) bs e] (RetA fun r σ' Γ' => r = .tuple #[] ∧ σ = σ' ∧ Γ' = [Look b (.slice p n c) bs (e.named n v is)]) := by
  cases is with
  | false =>
    refine enterA3 Tryd.func71 rfl rfl rfl ?_
    refine zS (zR (zA rfl ?_)); refine zN (zT (XA.condF rfl rfl (zR (zA rfl ?_)))); refine zA rfl ?_; refine zO rfl (Rd.neq rfl rfl) ?_
    refine XOA.wr0 rfl (WrA.cE (bad_a σ b _ bs e (decide (v ≠ 0)) 5 (by decide)) rfl) ?_
    rintro _ _ _ ⟨_, ⟨rfl, rfl, rfl⟩, rfl⟩
    refine XOA.cl ?_; refine zN ?_
    exact bodyA.normal (ResA.none rfl) (Ent.refl _) ⟨rfl, rfl, by simp only [JE.named, Bool.false_and, fail_false, Bool.not_false, Bool.true_and]⟩
  | true =>
    by_cases h0 : v < 0
    · 
      refine enterA3 Tryd.func71 rfl rfl rfl ?_
      refine zS (zR (zA rfl ?_)); refine zN (zT (XA.condT rfl rfl (zR (zA rfl ?_)))); refine zA rfl ?_; refine zO rfl (Rd.lss rfl rfl) ?_; refine zA rfl ?_
      first | (refine zG ?_; refine zA rfl ?_) | refine zH ?_
      first | (refine zG ?_; refine zA rfl ?_) | refine zH ?_
      first | (refine zG ?_; refine zO rfl (Rd.nilCheck rfl) ?_) | refine zH ?_
      first | (refine zG ?_; refine zV rfl rfl ?_) | refine zH ?_
      first | (refine zG ?_; refine zV rfl rfl ?_) | refine zH ?_
      first | (refine zG ?_; refine zB rfl rfl (tyrow rfl) rfl ?_) | refine zH ?_
      first | (refine zG ?_; refine zO rfl (Rd.lenSlice (tyrow rfl) rfl rfl) ?_) | refine zH ?_
      first | (refine zG ?_; refine zO rfl (Rd.geq rfl rfl) ?_) | refine zH ?_
      refine zO rfl zP ?_
      refine XOA.wr0 rfl (WrA.cE (bad_a σ b _ bs e true 1 (by decide)) rfl) ?_
      rintro _ _ _ ⟨_, ⟨rfl, rfl, rfl⟩, rfl⟩
      refine XOA.cl ?_; refine zN ?_
      refine bodyA.normal (ResA.none rfl) (Ent.refl _) ⟨rfl, rfl, ?_⟩
      have : decide (v < 0 ∨ (n : Int) ≤ v) = true := decide_eq_true (Or.inl h0)
      simp only [JE.named, this, Bool.true_and, Bool.not_true, Bool.false_and, fail_false]
    · 
      refine enterA3 Tryd.func71 rfl rfl rfl ?_
      refine zS (zR (zA rfl ?_)); refine zN (zT (XA.condT rfl rfl (zR (zA rfl ?_)))); refine zA rfl ?_; refine zO rfl (Rd.lss rfl rfl) ?_; refine zA rfl ?_
      first | (refine zG ?_; refine zA rfl ?_) | refine zH ?_
      first | (refine zG ?_; refine zA rfl ?_) | refine zH ?_
      first | refine XA.opn (R := Look b (.slice p n c) bs e) zL (Look.anyD) ?_ | refine XOA.opn (R := Look b (.slice p n c) bs e) zL (Look.anyD) ?_ | refine DA.opn (R := Look b (.slice p n c) bs e) zL (Look.anyD) ?_
      rintro ⟨l, cc⟩ ⟨-, hf⟩
      first | refine XA.cl ?_ | refine XOA.cl ?_ | refine DA.cl ?_
      first | (refine zG ?_; refine zO rfl (Rd.nilCheck rfl) ?_) | refine zH ?_
      first | (refine zG ?_; refine zV rfl rfl ?_) | refine zH ?_
      first | (refine zG ?_; refine zV rfl rfl ?_) | refine zH ?_
      first | (refine zG ?_; refine zB rfl rfl (tyrow rfl) rfl ?_) | refine zH ?_
      first | (refine zG ?_; refine zO rfl (Rd.lenSlice (tyrow rfl) rfl rfl) ?_) | refine zH ?_
      first | (refine zG ?_; refine zO rfl (Rd.geq rfl rfl) ?_) | refine zH ?_
      refine zO rfl zP ?_
      refine XOA.ent (Δ := [Look b (.slice p n c) bs e]) (Ent.fold1 zE hf) ?_
      refine XOA.wr0 rfl (WrA.cE (bad_a σ b _ bs e (decide ((n : Int) ≤ v)) 1 (by decide)) rfl) ?_
      rintro _ _ _ ⟨_, ⟨rfl, rfl, rfl⟩, rfl⟩
      refine XOA.cl ?_; refine zN ?_
      refine bodyA.normal (ResA.none rfl) (Ent.refl _) ⟨rfl, rfl, ?_⟩
      have : decide (v < 0 ∨ (n : Int) ≤ v) = decide ((n : Int) ≤ v) := by rw [decide_eq_decide]; omega
      simp only [JE.named, this, Bool.true_and, Bool.not_true, Bool.false_and, fail_false]
end Go.Proofs.YthefnnkmpcgcmaaDoor

namespace Go.Proofs.YthefnnkmpcgcmaaDoor
open Go X
set_option maxHeartbeats 1000000
theorem fail_or (e : JE) (a b : Bool) (c : Int) : (e.fail a c).fail b c = e.fail (a || b) c := by
  cases e with
  | error d => rfl
  | ok l => cases a <;> cases b <;> rfl
def RExprOK (σ : PH) (x : Ex) : Prop := ∀ (cs : List Value) (b : Nat) (p : Option Addr) (n c : Nat) (bs : Value) (e : JE) (deep : Int), ExAt σ cs x → e.in_ → 0 ≤ deep → deep ≤ 1000 →
  CallsA Tryd.prog 72 #[ptr b, .agg cs.toArray, i64 deep] σ [Look b (.slice p n c) bs e] (RetA fun r σ' Γ' => r = .tuple #[] ∧ σ = σ' ∧ Γ' = [Look b (.slice p n c) bs (exE n deep x e)])
theorem rexpr_a (σ : PH) (x : Ex) : RExprOK σ x := by
  refine Ex.ind (P := RExprOK σ) ?_ x
  intro op v k l ih cs b p n c bs e deep hx hin hd0 hd1
  obtain ⟨pl, cl, rfl, -, -, -, hl⟩ := hx.inv
  simp only [Ex.op, Ex.v, Ex.n, Ex.l] at hl ⊢
  clear hx
  have hlen : l.length ≤ maxLen := by
    obtain ⟨q, d, e1, h1, h2⟩ := hl.shape
    omega
  simp only [maxLen] at hlen
  cases e with
  | error d =>
    rw [exE_err]
    refine enterA3 Tryd.func72 rfl rfl rfl ?_
    refine zS (zR ?_)
    refine XOA.wr0 rfl WrA.bx ?_
    rintro _ _ _ ⟨g4, rfl, rfl, rfl⟩
    refine zN (zT (zS (zS (zR (zA rfl ?_)))))
    first | refine XA.opn (R := Look b (.slice p n c) bs (.error d)) zL (Look.errO) ?_ | refine XOA.opn (R := Look b (.slice p n c) bs (.error d)) zL (Look.errO) ?_ | refine DA.opn (R := Look b (.slice p n c) bs (.error d)) zL (Look.errO) ?_
    rintro q h0
    first | refine XA.cl ?_ | refine XOA.cl ?_ | refine DA.cl ?_
    refine zO rfl (Rd.nilCheck rfl) ?_; refine zV rfl rfl ?_; refine zB rfl rfl (tyrow rfl) rfl ?_; refine zO rfl (Rd.neq rfl rfl) ?_; refine zN (zT (XA.condT rfl (decide_eq_true h0) (XA.ret (DA.thn_ret ?_))))
    exact bodyA.ret (ResA.none rfl) (Ent.fold1 zE (Look.mkE h0)) ⟨rfl, rfl, rfl⟩
  | ok a =>
    refine enterA3 Tryd.func72 rfl rfl rfl ?_
    refine zS (zR ?_)
    refine XOA.wr0 rfl WrA.bx ?_
    rintro _ _ _ ⟨g4, rfl, rfl, rfl⟩
    refine zN (zT (zS (zS (zR (zA rfl ?_)))))
    first | refine XA.opn (R := Look b (.slice p n c) bs (.ok a)) zL (Look.okO) ?_ | refine XOA.opn (R := Look b (.slice p n c) bs (.ok a)) zL (Look.okO) ?_ | refine DA.opn (R := Look b (.slice p n c) bs (.ok a)) zL (Look.okO) ?_
    rintro ⟨⟩ -
    first | refine XA.cl ?_ | refine XOA.cl ?_ | refine DA.cl ?_
    refine zO rfl (Rd.nilCheck rfl) ?_; refine zV rfl rfl ?_; refine zB rfl rfl (tyrow rfl) rfl ?_; refine zO rfl (Rd.neq rfl rfl) ?_; refine zN (zT (XA.condF rfl rfl (XA.skip (zT (zS (zR (zA rfl ?_))))))); refine zA rfl ?_
    refine XOA.ent (Ent.foldC (Θ := [_]) zD (Look.mkO (l := a) rfl) (Ent.refl _)) ?_
    refine XOA.wr0 rfl (WrA.cE (head_a σ b (.slice p n c) bs (.ok a) deep hin) rfl) ?_
    rintro _ _ _ ⟨_, ⟨rfl, rfl, rfl⟩, rfl⟩
    refine XOA.cl ?_; refine zN (zT (zS (zR (zV rfl rfl ?_)))); refine zB rfl rfl (tyrow rfl) rfl ?_
    refine XOA.wr0 rfl (WrA.cE (rparts_a σ op) rfl) ?_
    rintro _ _ _ ⟨_, ⟨rfl, rfl, rfl⟩, rfl⟩
    refine XOA.cl ?_; refine zO rfl Rd.asg ?_; refine zN (zT (zS (zR (zA rfl ?_)))); refine zA rfl ?_; refine zO rfl (Rd.lss rfl rfl) ?_
    refine XOA.wr0 rfl (WrA.cE (bad_a σ b _ bs _ (decide (partsOf op < 0)) 2 (by decide)) rfl) ?_
    rintro _ _ _ ⟨_, ⟨rfl, rfl, rfl⟩, rfl⟩
    refine XOA.cl ?_; refine zN (zT (zS (zR (zA rfl ?_)))); refine zA rfl ?_; refine zV rfl rfl ?_; refine zB rfl rfl (tyrow rfl) rfl ?_; refine zO rfl (Rd.lenSlice (tyrow rfl) rfl rfl) ?_; refine zO rfl (Rd.neq rfl rfl) ?_
    refine XOA.wr0 rfl (WrA.cE (bad_a σ b _ bs _ (decide (partsOf op ≠ (l.length : Int))) 5 (by decide)) rfl) ?_
    rintro _ _ _ ⟨_, ⟨rfl, rfl, rfl⟩, rfl⟩
    refine XOA.cl ?_; refine zN (zT (zS (zR (zA rfl ?_)))); refine zV rfl rfl ?_; refine zB rfl rfl (tyrow rfl) rfl ?_
    obtain ⟨E2, hE2⟩ : ∃ E2, E2 = JE.fail (JE.fail (JE.one (.ok a) deep) (decide (partsOf op < 0)) 2) (decide (partsOf op ≠ (l.length : Int))) 5 := ⟨_, rfl⟩
    rw [← hE2]
    refine XOA.join (List.take_append_drop 6 _).symm [(30, 30), (33, 38)] (fun _ : Unit => [(30, ptr b), (38, .bool (decide (k ≠ 0 ∧ op ≠ 1)))]) (fun _ σ' Γ' => σ = σ' ∧ Γ' = [Look b (.slice p n c) bs E2, blk g4 [i64 op, i64 v, i64 k, .slice pl l.length cl] 54]) ?_ ?_
    · 
      by_cases h1 : op = 1
      · rw [show decide (k ≠ 0 ∧ op ≠ 1) = false from decide_eq_false (fun h => h.2 h1)]
        refine zO rfl (Rd.neq rfl rfl) ?_; refine zA rfl ?_
        first | (refine zG ?_; refine zV rfl rfl ?_) | refine zH ?_
        first | (refine zG ?_; refine zB rfl rfl (tyrow rfl) rfl ?_) | refine zH ?_
        first | (refine zG ?_; refine zO rfl (Rd.neq rfl rfl) ?_) | refine zH ?_
        refine zO rfl zP ?_; refine zN (zT ?_)
        refine ⟨(Keep.upd (Keep.upd (Keep.upd (Keep.upd (Keep.upd (Keep.upd (Keep.refl _ _) rfl) rfl) rfl) rfl) rfl) rfl), (), _, zM, ?_, ⟨rfl, rfl⟩⟩
        · exact zE
      · rw [show decide (k ≠ 0 ∧ op ≠ 1) = decide (k ≠ 0) from by rw [decide_eq_decide]; exact ⟨fun h => h.1, fun h => ⟨h, h1⟩⟩]
        refine zO rfl (Rd.neq rfl rfl) ?_; refine zA rfl ?_
        first | (refine zG ?_; refine zV rfl rfl ?_) | refine zH ?_
        first | (refine zG ?_; refine zB rfl rfl (tyrow rfl) rfl ?_) | refine zH ?_
        first | (refine zG ?_; refine zO rfl (Rd.neq rfl rfl) ?_) | refine zH ?_
        refine zO rfl zP ?_; refine zN (zT ?_)
        refine ⟨(Keep.upd (Keep.upd (Keep.upd (Keep.upd (Keep.upd (Keep.upd (Keep.refl _ _) rfl) rfl) rfl) rfl) rfl) rfl), (), _, zM, ?_, ⟨rfl, rfl⟩⟩
        · exact zE
    rintro - δ1 _ _ ⟨rfl, rfl⟩
    dsimp only [ovr, List.foldl]
    refine XOA.wr0 rfl (WrA.cE (bad_a σ b _ bs E2 (decide (k ≠ 0 ∧ op ≠ 1)) 5 (by decide)) rfl) ?_
    rintro _ _ _ ⟨_, ⟨rfl, rfl, rfl⟩, rfl⟩
    refine XOA.cl ?_; refine zN (zT (zS (zR (zA rfl ?_)))); refine zV rfl rfl ?_; refine zB rfl rfl (tyrow rfl) rfl ?_; refine zV rfl rfl ?_; refine zB rfl rfl (tyrow rfl) rfl ?_
    obtain ⟨E3, hE3⟩ : ∃ E3, E3 = JE.fail E2 (decide (k ≠ 0 ∧ op ≠ 1)) 5 := ⟨_, rfl⟩
    rw [← hE3]
    refine XOA.join (List.take_append_drop 6 _).symm [(40, 40), (42, 42), (45, 50)] (fun _ : Unit => [(40, ptr b), (42, i64 v), (50, .bool (decide (op = 2 ∨ op = 3)))]) (fun _ σ' Γ' => σ = σ' ∧ Γ' = [Look b (.slice p n c) bs E3, blk g4 [i64 op, i64 v, i64 k, .slice pl l.length cl] 54]) ?_ ?_
    · 
      by_cases h1 : op = 2
      · rw [show decide (op = 2 ∨ op = 3) = true from decide_eq_true (.inl h1)]
        refine zO rfl (Rd.eql rfl rfl) ?_; refine zA rfl ?_
        first | (refine zG ?_; refine zV rfl rfl ?_) | refine zH ?_
        first | (refine zG ?_; refine zB rfl rfl (tyrow rfl) rfl ?_) | refine zH ?_
        first | (refine zG ?_; refine zO rfl (Rd.eql rfl rfl) ?_) | refine zH ?_
        refine zO rfl zP ?_; refine zN (zT ?_)
        refine ⟨(Keep.upd (Keep.upd (Keep.upd (Keep.upd (Keep.upd (Keep.upd (Keep.refl _ _) rfl) rfl) rfl) rfl) rfl) rfl), (), _, zM, ?_, ⟨rfl, rfl⟩⟩
        · exact zE
      · rw [show decide (op = 2 ∨ op = 3) = decide (op = 3) from by rw [decide_eq_decide]; omega]
        refine zO rfl (Rd.eql rfl rfl) ?_; refine zA rfl ?_
        first | (refine zG ?_; refine zV rfl rfl ?_) | refine zH ?_
        first | (refine zG ?_; refine zB rfl rfl (tyrow rfl) rfl ?_) | refine zH ?_
        first | (refine zG ?_; refine zO rfl (Rd.eql rfl rfl) ?_) | refine zH ?_
        refine zO rfl zP ?_; refine zN (zT ?_)
        refine ⟨(Keep.upd (Keep.upd (Keep.upd (Keep.upd (Keep.upd (Keep.upd (Keep.refl _ _) rfl) rfl) rfl) rfl) rfl) rfl), (), _, zM, ?_, ⟨rfl, rfl⟩⟩
        · exact zE
    rintro - δ2 _ _ ⟨rfl, rfl⟩
    dsimp only [ovr, List.foldl]
    refine XOA.wr0 rfl (WrA.cE (variable_a σ b p n c bs E3 v (decide (op = 2 ∨ op = 3))) rfl) ?_
    rintro _ _ _ ⟨_, ⟨rfl, rfl, rfl⟩, rfl⟩
    refine XOA.cl ?_
    have hH : JE.named E3 n v (decide (op = 2 ∨ op = 3)) = exHead n deep op v k l.length (.ok a) := by
      rw [hE3, hE2, fail_or, exHead]
      congr 2
      rw [← Bool.decide_or, decide_eq_decide]
      constructor
      · rintro (h | h)
        · exact .inl (fun e => h e.symm)
        · exact .inr h
      · rintro (h | h)
        · exact .inl (fun e => h e.symm)
        · exact .inr h
    rw [hH]
    clear hH hE3 hE2
    refine zN (zT (zS (zR (zO rfl Rd.asg ?_)))); refine zN (zT (XA.block ?_))
    refine XA.gen [(0, _), (2, _), (4, _), (7, _)] ⟨(by with_reducible (conv => lhs; whnf)), (by with_reducible (conv => lhs; whnf)), (by with_reducible (conv => lhs; whnf)), (by with_reducible (conv => lhs; whnf)), trivial⟩ (fun δ => ?_)
    dsimp only [List.foldl]
    refine XA.loop [(7, 7), (52, 74)] (fun q : Nat => [(7, i64 q)]) (fun q σ' Γ' => σ = σ' ∧ q ≤ l.length ∧ Γ' = [Look b (.slice p n c) bs (exsE n (deep + 1) (l.take q) (exHead n deep op v k l.length (.ok a))), blk g4 [i64 op, i64 v, i64 k, .slice pl l.length cl] 54]) (fun q => l.length - q) 0 (by exact ⟨rfl, trivial⟩) (Δ0 := _) ?_ (⟨rfl, Nat.zero_le _, rfl⟩) ?_
    · rw [List.take_zero, exsE]; exact zE
    rintro q δ _ _ ⟨rfl, hq, rfl⟩
    dsimp only [ovr, List.foldl]
    have hin2 : (exsE n (deep + 1) (l.take q) (exHead n deep op v k l.length (.ok a))).in_ := in_of (Down.exsE n (l.take q)) (in_of (Down.exHead n op v k l.length) hin deep) (deep + 1)
    have hin3 : (exHead n deep op v k l.length (.ok a)).in_ := in_of (Down.exHead n op v k l.length) hin deep
    have hpost : exE n deep (.mk op v k l) (.ok a) = exsE n (deep + 1) l (exHead n deep op v k l.length (.ok a)) := by rw [exE]
    by_cases hlt : q < l.length
    · obtain ⟨x', hx'⟩ : ∃ x', l[q]? = some x' := ⟨_, List.getElem?_eq_getElem hlt⟩
      obtain ⟨g, o, row, rfl, hrx, hrl, hrow⟩ := hl.at hx'
      have hone := hrx.ones
      have e1 := exsE_snoc n (deep + 1) l q x' (exHead n deep op v k l.length (.ok a)) hx'
      refine zS (zS (zR (zA rfl ?_))); refine zV rfl rfl ?_; refine zB rfl rfl (tyrow rfl) rfl ?_; refine zO rfl (Rd.lenSlice (tyrow rfl) rfl rfl) ?_; refine zO rfl (Rd.lss rfl rfl) ?_; refine zA rfl ?_
      first | (refine zG ?_; refine zA rfl ?_) | refine zH ?_
      cases hst : exsE n (deep + 1) (l.take q) (exHead n deep op v k l.length (.ok a)) with
      | error c' =>
        have hfin : exsE n (deep + 1) l (exHead n deep op v k l.length (.ok a)) = .error c' := by
          have := exsE_app n (deep + 1) (l.take q) (l.drop q) (exHead n deep op v k l.length (.ok a))
          rw [List.take_append_drop, hst, exsE_err] at this
          exact this
        first | refine XA.opn (R := Look b (.slice p n c) bs (.error c')) zL (Look.errO) ?_ | refine XOA.opn (R := Look b (.slice p n c) bs (.error c')) zL (Look.errO) ?_ | refine DA.opn (R := Look b (.slice p n c) bs (.error c')) zL (Look.errO) ?_
        rintro lf h0
        first | refine XA.cl ?_ | refine XOA.cl ?_ | refine DA.cl ?_
        first | (refine zG ?_; refine zO rfl (Rd.nilCheck rfl) ?_) | refine zH ?_
        first | (refine zG ?_; refine zV rfl rfl ?_) | refine zH ?_
        first | (refine zG ?_; refine zB rfl rfl (tyrow rfl) rfl ?_) | refine zH ?_
        first | (refine zG ?_; refine zO rfl (Rd.eql rfl rfl) ?_) | refine zH ?_
        refine zO rfl zP ?_; refine zN (zT ?_)
        rw [hpost, hfin]
        refine XA.condF rfl (decide_eq_false h0) (XA.exit (DA.thn_exit (DA.thn_exit (DA.inb_same ?_))))
        exact bodyA.normal (ResA.none rfl) (Ent.fold1 zE (Look.mkE h0)) ⟨rfl, rfl, rfl⟩
      | ok a2 =>
        have hd12 : deep ≤ 12 := by
          apply one_ok (e := .ok a)
          cases hq1 : JE.one (.ok a) deep with
          | ok _ => rfl
          | error c' => exfalso; rw [exHead, hq1, fail_err, fail_err, named_err, exsE_err] at hst; cases hst
        rw [hst] at e1 hin2
        first | refine XA.opn (R := Look b (.slice p n c) bs (.ok a2)) zL (Look.okO) ?_ | refine XOA.opn (R := Look b (.slice p n c) bs (.ok a2)) zL (Look.okO) ?_ | refine DA.opn (R := Look b (.slice p n c) bs (.ok a2)) zL (Look.okO) ?_
        rintro ⟨⟩ -
        first | refine XA.cl ?_ | refine XOA.cl ?_ | refine DA.cl ?_
        first | (refine zG ?_; refine zO rfl (Rd.nilCheck rfl) ?_) | refine zH ?_
        first | (refine zG ?_; refine zV rfl rfl ?_) | refine zH ?_
        first | (refine zG ?_; refine zB rfl rfl (tyrow rfl) rfl ?_) | refine zH ?_
        first | (refine zG ?_; refine zO rfl (Rd.eql rfl rfl) ?_) | refine zH ?_
        refine zO rfl zP ?_; refine zN (zT (XA.condT rfl rfl (XA.skip (zT (zS (XA.block (zR (zA rfl ?_)))))))); refine zV rfl rfl ?_; refine zB rfl rfl (tyrow rfl) rfl ?_; refine zA rfl ?_; refine zO rfl (Rd.ixS rfl rfl) ?_; refine zO rfl (Rd.ldA rfl) ?_; refine zA rfl ?_; refine zO rfl zI ?_
        refine XOA.ent (Ent.foldC (Θ := [_]) zD (Look.mkO (l := a2) rfl) (Ent.refl _)) ?_
        refine XOA.wr0 rfl (WrA.cE (ih x' (List.mem_of_getElem? hx') row b p n c bs (.ok a2) (deep + 1) hrx hin2 (by omega) (by omega)) rfl) ?_
        rintro _ _ _ ⟨_, ⟨rfl, rfl, rfl⟩, rfl⟩
        refine XOA.cl ?_; refine zN (DA.inb_normal (zT (zR (zA rfl ?_)))); refine zO rfl zI ?_; refine zO rfl Rd.asg ?_; refine zN (zT ?_)
        refine ⟨(Keep.upd (Keep.upd (Keep.upd (Keep.updO (Keep.upd (Keep.upd (Keep.upd (Keep.upd (Keep.upd (Keep.upd (Keep.upd (Keep.upd (Keep.upd (Keep.upd (Keep.upd (Keep.upd (Keep.upd (Keep.upd (Keep.upd (Keep.upd (Keep.upd (Keep.upd (Keep.upd (Keep.upd (Keep.upd (Keep.hav (Keep.hav (Keep.refl _ _) rfl) rfl) rfl) rfl) rfl) rfl) rfl) rfl) rfl) rfl) rfl) rfl) rfl) rfl) rfl) rfl) rfl) rfl) rfl) rfl) rfl) rfl) rfl) rfl) rfl) rfl) rfl), q + 1, _, zM, ?_, ⟨rfl, hlt, by rw [e1]⟩, (by omega)⟩
        · exact zE
    have hqn : q = l.length := by omega
    subst hqn
    rw [List.take_length, hpost]
    refine zS (zS (zR (zA rfl ?_))); refine zV rfl rfl ?_; refine zB rfl rfl (tyrow rfl) rfl ?_; refine zO rfl (Rd.lenSlice (tyrow rfl) rfl rfl) ?_; refine zO rfl (Rd.lss rfl rfl) ?_; refine zA rfl ?_
    first | (refine zG ?_; refine zA rfl ?_) | refine zH ?_
    first | (refine zG ?_; refine zO rfl (Rd.nilCheck rfl) ?_) | refine zH ?_
    first | (refine zG ?_; refine zV rfl rfl ?_) | refine zH ?_
    first | (refine zG ?_; refine zB rfl rfl (tyrow rfl) rfl ?_) | refine zH ?_
    first | (refine zG ?_; refine zO rfl (Rd.eql rfl rfl) ?_) | refine zH ?_
    refine zO rfl zP ?_; refine zN (zT (XA.condF rfl zY ?_)); refine XA.exit (DA.thn_exit (DA.thn_exit (DA.inb_same ?_)))
    exact bodyA.normal (ResA.none rfl) zE ⟨rfl, rfl, rfl⟩
end Go.Proofs.YthefnnkmpcgcmaaDoor

namespace Go.Proofs.YthefnnkmpcgcmaaDoor
open Go X
set_option maxHeartbeats 1000000
def RStmtsOK (σ : PH) (l : List St) : Prop := ∀ (sl : Value) (b : Nat) (p : Option Addr) (n c : Nat) (bs : Value) (e : JE) (deep : Int), PSl 12 StAt σ sl l → e.in_ → 0 ≤ deep → (deep ≤ 900 ∧ (e.isOk = true → deep ≤ 13)) →
  CallsA Tryd.prog 44 #[ptr b, sl, i64 deep] σ [Look b (.slice p n c) bs e] (RetA fun r σ' Γ' => r = .tuple #[] ∧ σ = σ' ∧ Γ' = [Look b (.slice p n c) bs (stsE n deep l e)])
theorem st_form (op : Int) (ex fx : Ex) (kb ke : Nat) (s : JE) : (s.fail ((!needE op && !noneX ex) || (!needF op && !noneX fx)) 5).fail ((!needB op && decide ((0 : Int) < (kb : Int))) || (!needO op && decide ((0 : Int) < (ke : Int)))) 5 = s.fail (stForm op ex fx kb ke) 5 := by
  rw [fail_or, stForm]
  congr 1
  simp only [Bool.or_assoc]
theorem rstmts_l (σ : PH) (l : List St) (ih : ∀ x ∈ l, RStmtsOK σ x.body ∧ RStmtsOK σ x.els) : RStmtsOK σ l := by
  intro sl b p n c bs e deep hl hin hd0 ⟨hd1, hd13⟩
  obtain ⟨pl, cl, rfl, hle, hmx⟩ := hl.shape
  have hlen : l.length ≤ maxLen := by omega
  simp only [maxLen] at hlen
  refine enterA3 Tryd.func44 rfl rfl rfl ?_
  refine zS (zR (zO rfl Rd.asg ?_)); refine zN (zT (XA.block ?_))
  refine XA.gen [(0, _), (1, _), (2, _), (6, _)] ⟨(by with_reducible (conv => lhs; whnf)), (by with_reducible (conv => lhs; whnf)), (by with_reducible (conv => lhs; whnf)), (by with_reducible (conv => lhs; whnf)), trivial⟩ (fun δ => ?_)
  dsimp only [List.foldl]
  refine XA.loop [(6, 122)] (fun q : Nat => [(6, i64 q)]) (fun q σ' Γ' => σ = σ' ∧ q ≤ l.length ∧ Γ' = [Look b (.slice p n c) bs (stsE n deep (l.take q) e)]) (fun q => l.length - q) 0 (by exact ⟨rfl, trivial⟩) (Δ0 := _) ?_ (⟨rfl, Nat.zero_le _, rfl⟩) ?_
  · rw [List.take_zero, stsE]; exact zE
  rintro q δ _ _ ⟨rfl, hq, rfl⟩
  dsimp only [ovr, List.foldl]
  have hin2 : (stsE n deep (l.take q) e).in_ := in_of (Down.stsE n (l.take q)) hin deep
  by_cases hlt : q < l.length
  · obtain ⟨x, hx⟩ : ∃ x, l[q]? = some x := ⟨_, List.getElem?_eq_getElem hlt⟩
    obtain ⟨g, o, row, rfl, hrx, hrl, hrow⟩ := hl.at hx
    have hone := hrx.ones
    have e1 := stsE_snoc n deep l q x e hx
    obtain ⟨ihb, ihe⟩ := ih x (List.mem_of_getElem? hx)
    refine zS (zS (zR (zA rfl ?_))); refine zA rfl ?_; refine zO rfl (Rd.lenSlice (tyrow rfl) rfl rfl) ?_; refine zO rfl (Rd.lss rfl rfl) ?_; refine zA rfl ?_
    first | (refine zG ?_; refine zA rfl ?_) | refine zH ?_
    cases hst : stsE n deep (l.take q) e with
    | error c' =>
      have hfin : stsE n deep l e = .error c' := by
        have := stsE_app n deep (l.take q) (l.drop q) e
        rw [List.take_append_drop, hst, stsE_err] at this
        exact this
      rw [hfin]
      first | refine XA.opn (R := Look b (.slice p n c) bs (.error c')) zL (Look.errO) ?_ | refine XOA.opn (R := Look b (.slice p n c) bs (.error c')) zL (Look.errO) ?_ | refine DA.opn (R := Look b (.slice p n c) bs (.error c')) zL (Look.errO) ?_
      rintro lf h0
      first | refine XA.cl ?_ | refine XOA.cl ?_ | refine DA.cl ?_
      first | (refine zG ?_; refine zO rfl (Rd.nilCheck rfl) ?_) | refine zH ?_
      first | (refine zG ?_; refine zV rfl rfl ?_) | refine zH ?_
      first | (refine zG ?_; refine zB rfl rfl (tyrow rfl) rfl ?_) | refine zH ?_
      first | (refine zG ?_; refine zO rfl (Rd.eql rfl rfl) ?_) | refine zH ?_
      refine zO rfl zP ?_; refine zN (zT (XA.condF rfl (decide_eq_false h0) (XA.exit (DA.thn_exit (DA.thn_exit (DA.inb_same ?_))))))
      exact bodyA.normal (ResA.none rfl) (Ent.fold1 zE (Look.mkE h0)) ⟨rfl, rfl, rfl⟩
    | ok a =>
      have hdp : deep ≤ 13 := hd13 (by
        cases e with
        | ok _ => rfl
        | error c' => rw [stsE_err] at hst; cases hst)
      rw [hst] at e1 hin2
      obtain ⟨op, v, ex, fx, body, els⟩ := x
      obtain ⟨pe, de, pf, df, pb, cb, pl', cl', rfl, -, -, hxe, hxf, hxb, hxl⟩ := hrx.inv12
      simp only [St.op, St.v, St.e, St.f, St.body, St.els] at hxe hxf hxb hxl hrow hone hrl ihb ihe
      clear hrx
      obtain ⟨nE, nF, nV, nB, nO⟩ := need_op op
      obtain ⟨qE, hqE⟩ : ∃ q, q = needE op := ⟨_, rfl⟩
      obtain ⟨qF, hqF⟩ : ∃ q, q = needF op := ⟨_, rfl⟩
      obtain ⟨qV, hqV⟩ : ∃ q, q = needV op := ⟨_, rfl⟩
      obtain ⟨qB, hqB⟩ : ∃ q, q = needB op := ⟨_, rfl⟩
      obtain ⟨qO, hqO⟩ : ∃ q, q = needO op := ⟨_, rfl⟩
      rw [← hqE] at nE
      rw [← hqF] at nF
      rw [← hqV] at nV
      rw [← hqB] at nB
      rw [← hqO] at nO
      obtain ⟨cells, hcells⟩ : ∃ l, l = [i64 op, i64 v, i64 ex.op, i64 ex.v, i64 ex.n, .slice pe ex.l.length de, i64 fx.op, i64 fx.v, i64 fx.n, .slice pf fx.l.length df, .slice pb body.length cb, .slice pl' els.length cl'] := ⟨_, rfl⟩
      obtain ⟨ne, hne⟩ : ∃ q, q = noneX ex := ⟨_, rfl⟩
      obtain ⟨nf, hnf⟩ : ∃ q, q = noneX fx := ⟨_, rfl⟩
      obtain ⟨A1, hA1⟩ : ∃ A, A = (!qE && !ne) := ⟨_, rfl⟩
      obtain ⟨A2, hA2⟩ : ∃ A, A = (A1 || (!qF && !nf)) := ⟨_, rfl⟩
      obtain ⟨A3, hA3⟩ : ∃ A, A = (!qB && decide ((0 : Int) < (body.length : Int))) := ⟨_, rfl⟩
      obtain ⟨A4, hA4⟩ : ∃ A, A = (A3 || (!qO && decide ((0 : Int) < (els.length : Int)))) := ⟨_, rfl⟩
      have hform : ∀ s : JE, (s.fail A2 5).fail A4 5 = s.fail (stForm op ex fx body.length els.length) 5 := fun s => by rw [hA2, hA4, hA1, hA3, hne, hnf, hqE, hqF, hqB, hqO, st_form]
      first | refine XA.opn (R := Look b (.slice p n c) bs (.ok a)) zL (Look.okO) ?_ | refine XOA.opn (R := Look b (.slice p n c) bs (.ok a)) zL (Look.okO) ?_ | refine DA.opn (R := Look b (.slice p n c) bs (.ok a)) zL (Look.okO) ?_
      rintro ⟨⟩ -
      first | refine XA.cl ?_ | refine XOA.cl ?_ | refine DA.cl ?_
      first | (refine zG ?_; refine zO rfl (Rd.nilCheck rfl) ?_) | refine zH ?_
      first | (refine zG ?_; refine zV rfl rfl ?_) | refine zH ?_
      first | (refine zG ?_; refine zB rfl rfl (tyrow rfl) rfl ?_) | refine zH ?_
      first | (refine zG ?_; refine zO rfl (Rd.eql rfl rfl) ?_) | refine zH ?_
      refine zO rfl zP ?_; refine zN (zT (XA.condT rfl rfl (XA.skip (zT (zS (XA.block (zS (zR (zA rfl ?_))))))))); refine zA rfl ?_; refine zO rfl (Rd.ixS rfl rfl) ?_; refine zO rfl (Rd.ldA rfl) ?_
      refine XOA.wr0 rfl (WrA.alloc (tyrow rfl)) ?_
      rintro _ _ _ ⟨g7, rfl, rfl, rfl⟩
      refine XOA.wr0 rfl (WrA.st (tyrow rfl) rfl) ?_
      rintro _ _ _ ⟨rfl, rfl, rfl⟩
      refine zN (zT (zS (zR (zA rfl ?_)))); refine zA rfl ?_
      refine XOA.ent (Ent.foldC (Θ := [_]) zD (Look.mkO (l := a) rfl) (Ent.refl _)) ?_
      refine XOA.wr0 rfl (WrA.cE (head_a σ b (.slice p n c) bs (.ok a) deep hin2) rfl) ?_
      rintro _ _ _ ⟨_, ⟨rfl, rfl, rfl⟩, rfl⟩
      refine XOA.cl ?_; refine zN (zT (zS (zR (zA rfl ?_)))); refine zV rfl rfl ?_; refine zB rfl rfl (tyrow rfl) rfl ?_
      obtain ⟨E1, hE1⟩ : ∃ E1, E1 = JE.one (.ok a) deep := ⟨_, rfl⟩
      rw [← hE1, ← hcells]
      refine XOA.join (List.take_append_drop 6 _).symm [(28, 28), (31, 36)] (fun _ : Unit => [(28, ptr b), (36, .bool (decide (op < 1 ∨ 7 < op)))]) (fun _ σ' Γ' => σ = σ' ∧ Γ' = [Look b (.slice p n c) bs E1, blk g7 cells 56]) ?_ ?_
      · rw [hcells]
        by_cases h1 : op < 1
        · rw [show decide (op < 1 ∨ 7 < op) = true from decide_eq_true (.inl h1)]
          refine zO rfl (Rd.lss rfl rfl) ?_; refine zA rfl ?_
          first | (refine zG ?_; refine zV rfl rfl ?_) | refine zH ?_
          first | (refine zG ?_; refine zB rfl rfl (tyrow rfl) rfl ?_) | refine zH ?_
          first | (refine zG ?_; refine zO rfl (Rd.gtr rfl rfl) ?_) | refine zH ?_
          refine zO rfl zP ?_; refine zN (zT ?_)
          refine ⟨(Keep.upd (Keep.upd (Keep.upd (Keep.upd (Keep.upd (Keep.upd (Keep.refl _ _) rfl) rfl) rfl) rfl) rfl) rfl), (), _, zM, ?_, ⟨rfl, rfl⟩⟩
          · exact zE
        · rw [show decide (op < 1 ∨ 7 < op) = decide (7 < op) from by rw [decide_eq_decide]; omega]
          refine zO rfl (Rd.lss rfl rfl) ?_; refine zA rfl ?_
          first | (refine zG ?_; refine zV rfl rfl ?_) | refine zH ?_
          first | (refine zG ?_; refine zB rfl rfl (tyrow rfl) rfl ?_) | refine zH ?_
          first | (refine zG ?_; refine zO rfl (Rd.gtr rfl rfl) ?_) | refine zH ?_
          refine zO rfl zP ?_; refine zN (zT ?_)
          refine ⟨(Keep.upd (Keep.upd (Keep.upd (Keep.upd (Keep.upd (Keep.upd (Keep.refl _ _) rfl) rfl) rfl) rfl) rfl) rfl), (), _, zM, ?_, ⟨rfl, rfl⟩⟩
          · exact zE
      rintro - δ1 _ _ ⟨rfl, rfl⟩
      dsimp only [ovr, List.foldl]
      rw [hcells]
      refine XOA.wr0 rfl (WrA.cE (bad_a σ b _ bs E1 (decide (op < 1 ∨ 7 < op)) 2 (by decide)) rfl) ?_
      rintro _ _ _ ⟨_, ⟨rfl, rfl, rfl⟩, rfl⟩
      refine XOA.cl ?_; refine zN (zT (zS (zR (zA rfl ?_)))); refine zV rfl rfl ?_; refine zB rfl rfl (tyrow rfl) rfl ?_
      obtain ⟨E2, hE2⟩ : ∃ E2, E2 = JE.fail E1 (decide (op < 1 ∨ 7 < op)) 2 := ⟨_, rfl⟩
      rw [← hE2]
      refine XOA.wr0 rfl (WrA.cE (rneeded_a σ op 101) rfl) ?_
      rintro _ _ _ ⟨_, ⟨rfl, rfl, rfl⟩, rfl⟩
      refine XOA.cl ?_
      rw [nE, ← hcells]
      refine zO rfl zJ ?_
      refine XOA.join (List.take_append_drop 7 _).symm [(38, 38), (43, 49)] (fun _ : Unit => [(38, ptr b), (49, .bool A1)]) (fun _ σ' Γ' => σ = σ' ∧ Γ' = [Look b (.slice p n c) bs E2, blk g7 cells 56]) ?_ ?_
      · rw [hcells]
        cases hn : qE with
        | true =>
          rw [show A1 = false by rw [hA1, hn]; rfl]
          refine zA rfl ?_
          first | (refine zG ?_; refine zV rfl rfl ?_) | refine zH ?_
          first | (refine zG ?_; refine zO rfl (Rd.ldA rfl) ?_) | refine zH ?_
          first | refine zH ?_
          first | (refine zG ?_; refine zO rfl zJ ?_) | refine zH ?_
          refine zO rfl zP ?_; refine zA rfl ?_; refine zN (zT ?_)
          refine ⟨(Keep.upd (Keep.upd (Keep.upd (Keep.upd (Keep.upd (Keep.upd (Keep.upd (Keep.refl _ _) rfl) rfl) rfl) rfl) rfl) rfl) rfl), (), _, zM, ?_, ⟨rfl, rfl⟩⟩
          · exact zE
        | false =>
          rw [show A1 = !ne by rw [hA1, hn]; rfl]
          refine zA rfl ?_
          first | (refine zG ?_; refine zV rfl rfl ?_) | refine zH ?_
          first | (refine zG ?_; refine zO rfl (Rd.ldA rfl) ?_) | refine zH ?_
          first | refine XOA.wanted rfl rfl ?_ | refine XOA.wq rfl rfl ?_
          refine XOA.wr0 rfl (WrA.cE (rzero_a σ _ _ hxe) rfl) ?_
          rintro _ _ _ ⟨_, ⟨rfl, rfl, rfl⟩, rfl⟩
          refine XOA.cl ?_
          rw [← hne]
          first | (refine zG ?_; refine zO rfl zJ ?_) | refine zH ?_
          refine zO rfl zP ?_; refine zA rfl ?_; refine zN (zT ?_)
          refine ⟨(Keep.upd (Keep.upd (Keep.upd (Keep.updO (Keep.upd (Keep.upd (Keep.upd (Keep.refl _ _) rfl) rfl) rfl) rfl) rfl) rfl) rfl), (), _, zM, ?_, ⟨rfl, rfl⟩⟩
          · exact zE
      rintro - δ2 _ _ ⟨rfl, rfl⟩
      dsimp only [ovr, List.foldl]
      refine XOA.join (List.take_append_drop 11 _).symm [(38, 38), (50, 60)] (fun _ : Unit => [(38, ptr b), (60, .bool A2)]) (fun _ σ' Γ' => σ = σ' ∧ Γ' = [Look b (.slice p n c) bs E2, blk g7 cells 56]) ?_ ?_
      · rw [hcells]
        cases hB : A1 with
        | true =>
          rw [show A2 = true by rw [hA2, hB]; rfl]
          first | (refine zG ?_; refine zV rfl rfl ?_) | refine zH ?_
          first | (refine zG ?_; refine zB rfl rfl (tyrow rfl) rfl ?_) | refine zH ?_
          first | refine zH ?_
          first | (refine zG ?_; refine zO rfl zJ ?_) | refine zH ?_
          first | (refine zG ?_; refine zA rfl ?_) | refine zH ?_
          first | (refine zG ?_; refine zV rfl rfl ?_) | refine zH ?_
          first | (refine zG ?_; refine zO rfl (Rd.ldA rfl) ?_) | refine zH ?_
          first | refine zH ?_
          first | (refine zG ?_; refine zO rfl zJ ?_) | refine zH ?_
          first | (refine zG ?_; refine zO rfl zP ?_) | refine zH ?_
          refine zO rfl zP ?_; refine zN (zT ?_)
          refine ⟨(Keep.upd (Keep.upd (Keep.upd (Keep.upd (Keep.upd (Keep.upd (Keep.upd (Keep.upd (Keep.upd (Keep.upd (Keep.upd (Keep.refl _ _) rfl) rfl) rfl) rfl) rfl) rfl) rfl) rfl) rfl) rfl) rfl), (), _, zM, ?_, ⟨rfl, rfl⟩⟩
          · exact zE
        | false =>
          rw [hB, Bool.false_or] at hA2
          first | (refine zG ?_; refine zV rfl rfl ?_) | refine zH ?_
          first | (refine zG ?_; refine zB rfl rfl (tyrow rfl) rfl ?_) | refine zH ?_
          first | refine XOA.wanted rfl rfl ?_ | refine XOA.wq rfl rfl ?_
          refine XOA.wr0 rfl (WrA.cE (rneeded_a σ op 102) rfl) ?_
          rintro _ _ _ ⟨_, ⟨rfl, rfl, rfl⟩, rfl⟩
          refine XOA.cl ?_
          rw [nF]
          cases hn : qF with
          | true =>
            rw [show A2 = false by rw [hA2, hn]; rfl]
            first | (refine zG ?_; refine zO rfl zJ ?_) | refine zH ?_
            first | (refine zG ?_; refine zA rfl ?_) | refine zH ?_
            first | (refine zG ?_; refine zV rfl rfl ?_) | refine zH ?_
            first | (refine zG ?_; refine zO rfl (Rd.ldA rfl) ?_) | refine zH ?_
            first | refine zH ?_
            first | (refine zG ?_; refine zO rfl zJ ?_) | refine zH ?_
            first | (refine zG ?_; refine zO rfl zP ?_) | refine zH ?_
            refine zO rfl zP ?_; refine zN (zT ?_)
            refine ⟨(Keep.upd (Keep.upd (Keep.upd (Keep.upd (Keep.upd (Keep.upd (Keep.upd (Keep.upd (Keep.updO (Keep.upd (Keep.upd (Keep.refl _ _) rfl) rfl) rfl) rfl) rfl) rfl) rfl) rfl) rfl) rfl) rfl), (), _, zM, ?_, ⟨rfl, rfl⟩⟩
            · exact zE
          | false =>
            rw [show A2 = !nf by rw [hA2, hn]; rfl]
            first | (refine zG ?_; refine zO rfl zJ ?_) | refine zH ?_
            first | (refine zG ?_; refine zA rfl ?_) | refine zH ?_
            first | (refine zG ?_; refine zV rfl rfl ?_) | refine zH ?_
            first | (refine zG ?_; refine zO rfl (Rd.ldA rfl) ?_) | refine zH ?_
            first | refine XOA.wanted rfl rfl ?_ | refine XOA.wq rfl rfl ?_
            refine XOA.wr0 rfl (WrA.cE (rzero_a σ _ _ hxf) rfl) ?_
            rintro _ _ _ ⟨_, ⟨rfl, rfl, rfl⟩, rfl⟩
            refine XOA.cl ?_
            rw [← hnf]
            first | (refine zG ?_; refine zO rfl zJ ?_) | refine zH ?_
            first | (refine zG ?_; refine zO rfl zP ?_) | refine zH ?_
            refine zO rfl zP ?_; refine zN (zT ?_)
            refine ⟨(Keep.upd (Keep.upd (Keep.upd (Keep.updO (Keep.upd (Keep.upd (Keep.upd (Keep.upd (Keep.updO (Keep.upd (Keep.upd (Keep.refl _ _) rfl) rfl) rfl) rfl) rfl) rfl) rfl) rfl) rfl) rfl) rfl), (), _, zM, ?_, ⟨rfl, rfl⟩⟩
            · exact zE
      rintro - δ3 _ _ ⟨rfl, rfl⟩
      dsimp only [ovr, List.foldl]
      rw [hcells]
      refine XOA.wr0 rfl (WrA.cE (bad_a σ b _ bs E2 A2 5 (by decide)) rfl) ?_
      rintro _ _ _ ⟨_, ⟨rfl, rfl, rfl⟩, rfl⟩
      refine XOA.cl ?_; refine zN (zT (zS (zR (zA rfl ?_)))); refine zV rfl rfl ?_; refine zB rfl rfl (tyrow rfl) rfl ?_
      obtain ⟨E3, hE3⟩ : ∃ E3, E3 = JE.fail E2 A2 5 := ⟨_, rfl⟩
      rw [← hE3]
      refine XOA.wr0 rfl (WrA.cE (rneeded_a σ op 98) rfl) ?_
      rintro _ _ _ ⟨_, ⟨rfl, rfl, rfl⟩, rfl⟩
      refine XOA.cl ?_
      rw [nB, ← hcells]
      refine zO rfl zJ ?_
      refine XOA.join (List.take_append_drop 7 _).symm [(62, 62), (67, 73)] (fun _ : Unit => [(62, ptr b), (73, .bool A3)]) (fun _ σ' Γ' => σ = σ' ∧ Γ' = [Look b (.slice p n c) bs E3, blk g7 cells 56]) ?_ ?_
      · rw [hcells]
        cases hn : qB with
        | true =>
          rw [show A3 = false by rw [hA3, hn]; rfl]
          refine zA rfl ?_
          first | (refine zG ?_; refine zV rfl rfl ?_) | refine zH ?_
          first | (refine zG ?_; refine zB rfl rfl (tyrow rfl) rfl ?_) | refine zH ?_
          first | (refine zG ?_; refine zO rfl (Rd.lenSlice (tyrow rfl) rfl rfl) ?_) | refine zH ?_
          first | (refine zG ?_; refine zO rfl (Rd.gtr rfl rfl) ?_) | refine zH ?_
          refine zO rfl zP ?_; refine zA rfl ?_; refine zN (zT ?_)
          refine ⟨(Keep.upd (Keep.upd (Keep.upd (Keep.upd (Keep.upd (Keep.upd (Keep.upd (Keep.refl _ _) rfl) rfl) rfl) rfl) rfl) rfl) rfl), (), _, zM, ?_, ⟨rfl, rfl⟩⟩
          · exact zE
        | false =>
          rw [show A3 = decide ((0 : Int) < (body.length : Int)) by rw [hA3, hn]; rfl]
          refine zA rfl ?_
          first | (refine zG ?_; refine zV rfl rfl ?_) | refine zH ?_
          first | (refine zG ?_; refine zB rfl rfl (tyrow rfl) rfl ?_) | refine zH ?_
          first | (refine zG ?_; refine zO rfl (Rd.lenSlice (tyrow rfl) rfl rfl) ?_) | refine zH ?_
          first | (refine zG ?_; refine zO rfl (Rd.gtr rfl rfl) ?_) | refine zH ?_
          refine zO rfl zP ?_; refine zA rfl ?_; refine zN (zT ?_)
          refine ⟨(Keep.upd (Keep.upd (Keep.upd (Keep.upd (Keep.upd (Keep.upd (Keep.upd (Keep.refl _ _) rfl) rfl) rfl) rfl) rfl) rfl) rfl), (), _, zM, ?_, ⟨rfl, rfl⟩⟩
          · exact zE
      rintro - δ4 _ _ ⟨rfl, rfl⟩
      dsimp only [ovr, List.foldl]
      refine XOA.join (List.take_append_drop 11 _).symm [(62, 62), (74, 84)] (fun _ : Unit => [(62, ptr b), (84, .bool A4)]) (fun _ σ' Γ' => σ = σ' ∧ Γ' = [Look b (.slice p n c) bs E3, blk g7 cells 56]) ?_ ?_
      · rw [hcells]
        cases hB : A3 with
        | true =>
          rw [show A4 = true by rw [hA4, hB]; rfl]
          first | (refine zG ?_; refine zV rfl rfl ?_) | refine zH ?_
          first | (refine zG ?_; refine zB rfl rfl (tyrow rfl) rfl ?_) | refine zH ?_
          first | refine zH ?_
          first | (refine zG ?_; refine zO rfl zJ ?_) | refine zH ?_
          first | (refine zG ?_; refine zA rfl ?_) | refine zH ?_
          first | (refine zG ?_; refine zV rfl rfl ?_) | refine zH ?_
          first | (refine zG ?_; refine zB rfl rfl (tyrow rfl) rfl ?_) | refine zH ?_
          first | (refine zG ?_; refine zO rfl (Rd.lenSlice (tyrow rfl) rfl rfl) ?_) | refine zH ?_
          first | (refine zG ?_; refine zO rfl (Rd.gtr rfl rfl) ?_) | refine zH ?_
          first | (refine zG ?_; refine zO rfl zP ?_) | refine zH ?_
          refine zO rfl zP ?_; refine zN (zT ?_)
          refine ⟨(Keep.upd (Keep.upd (Keep.upd (Keep.upd (Keep.upd (Keep.upd (Keep.upd (Keep.upd (Keep.upd (Keep.upd (Keep.upd (Keep.refl _ _) rfl) rfl) rfl) rfl) rfl) rfl) rfl) rfl) rfl) rfl) rfl), (), _, zM, ?_, ⟨rfl, rfl⟩⟩
          · exact zE
        | false =>
          rw [hB, Bool.false_or] at hA4
          first | (refine zG ?_; refine zV rfl rfl ?_) | refine zH ?_
          first | (refine zG ?_; refine zB rfl rfl (tyrow rfl) rfl ?_) | refine zH ?_
          first | refine XOA.wanted rfl rfl ?_ | refine XOA.wq rfl rfl ?_
          refine XOA.wr0 rfl (WrA.cE (rneeded_a σ op 111) rfl) ?_
          rintro _ _ _ ⟨_, ⟨rfl, rfl, rfl⟩, rfl⟩
          refine XOA.cl ?_
          rw [nO]
          cases hn : qO with
          | true =>
            rw [show A4 = false by rw [hA4, hn]; rfl]
            first | (refine zG ?_; refine zO rfl zJ ?_) | refine zH ?_
            first | (refine zG ?_; refine zA rfl ?_) | refine zH ?_
            first | (refine zG ?_; refine zV rfl rfl ?_) | refine zH ?_
            first | (refine zG ?_; refine zB rfl rfl (tyrow rfl) rfl ?_) | refine zH ?_
            first | (refine zG ?_; refine zO rfl (Rd.lenSlice (tyrow rfl) rfl rfl) ?_) | refine zH ?_
            first | (refine zG ?_; refine zO rfl (Rd.gtr rfl rfl) ?_) | refine zH ?_
            first | (refine zG ?_; refine zO rfl zP ?_) | refine zH ?_
            refine zO rfl zP ?_; refine zN (zT ?_)
            refine ⟨(Keep.upd (Keep.upd (Keep.upd (Keep.upd (Keep.upd (Keep.upd (Keep.upd (Keep.upd (Keep.updO (Keep.upd (Keep.upd (Keep.refl _ _) rfl) rfl) rfl) rfl) rfl) rfl) rfl) rfl) rfl) rfl) rfl), (), _, zM, ?_, ⟨rfl, rfl⟩⟩
            · exact zE
          | false =>
            rw [show A4 = decide ((0 : Int) < (els.length : Int)) by rw [hA4, hn]; rfl]
            first | (refine zG ?_; refine zO rfl zJ ?_) | refine zH ?_
            first | (refine zG ?_; refine zA rfl ?_) | refine zH ?_
            first | (refine zG ?_; refine zV rfl rfl ?_) | refine zH ?_
            first | (refine zG ?_; refine zB rfl rfl (tyrow rfl) rfl ?_) | refine zH ?_
            first | (refine zG ?_; refine zO rfl (Rd.lenSlice (tyrow rfl) rfl rfl) ?_) | refine zH ?_
            first | (refine zG ?_; refine zO rfl (Rd.gtr rfl rfl) ?_) | refine zH ?_
            first | (refine zG ?_; refine zO rfl zP ?_) | refine zH ?_
            refine zO rfl zP ?_; refine zN (zT ?_)
            refine ⟨(Keep.upd (Keep.upd (Keep.upd (Keep.upd (Keep.upd (Keep.upd (Keep.upd (Keep.upd (Keep.updO (Keep.upd (Keep.upd (Keep.refl _ _) rfl) rfl) rfl) rfl) rfl) rfl) rfl) rfl) rfl) rfl) rfl), (), _, zM, ?_, ⟨rfl, rfl⟩⟩
            · exact zE
      rintro - δ5 _ _ ⟨rfl, rfl⟩
      dsimp only [ovr, List.foldl]
      rw [hcells]
      refine XOA.wr0 rfl (WrA.cE (bad_a σ b _ bs E3 A4 5 (by decide)) rfl) ?_
      rintro _ _ _ ⟨_, ⟨rfl, rfl, rfl⟩, rfl⟩
      refine XOA.cl ?_; refine zN (zT (zS ?_))
      rw [show JE.fail E3 A4 5 = JE.fail E2 (stForm op ex fx body.length els.length) 5 by rw [hE3, hform]]
      obtain ⟨H, hH⟩ : ∃ H, H = stHead n deep op v ex fx body.length els.length (.ok a) := ⟨_, rfl⟩
      have hHi : H.in_ := by rw [hH]; exact in_of (Down.stHead n op v ex fx body.length els.length) hin2 deep
      have hHn : JE.named (JE.fail E2 (stForm op ex fx body.length els.length) 5) n v qV = H := by rw [hH, stHead, hE2, hE1, hqV]
      obtain ⟨H1, hH1⟩ : ∃ H1, H1 = if qE = true then exE n (deep + 1) ex H else H := ⟨_, rfl⟩
      have hH1i : H1.in_ := by
        rw [hH1]; split
        · exact in_of (Down.exE n ex) hHi (deep + 1)
        · exact hHi
      obtain ⟨H2, hH2⟩ : ∃ H2, H2 = if qF = true then exE n (deep + 1) fx H1 else H1 := ⟨_, rfl⟩
      have hH2i : H2.in_ := by
        rw [hH2]; split
        · exact in_of (Down.exE n fx) hH1i (deep + 1)
        · exact hH1i
      have hend : stE n deep (.mk op v ex fx body els) (.ok a) = stsE n (deep + 1) els (stsE n (deep + 1) body H2) := by
        rw [stE, stEF, ← hqE, ← hqF, ← hH, ← hH1, ← hH2]
      have hdd : H2.isOk = true → deep ≤ 12 := fun h => by
        apply one_ok (e := .ok a)
        cases h1 : JE.one (.ok a) deep with
        | ok _ => rfl
        | error c' =>
          exfalso
          have e0 : H = .error c' := by rw [hH, stHead, h1, fail_err, fail_err, named_err]
          have e2 : H2 = .error c' := by rw [hH2, hH1, e0]; simp
          rw [e2] at h; cases h
      have hdd2 : (stsE n (deep + 1) body H2).isOk = true → deep ≤ 12 := fun h => hdd (by
        cases h2 : H2 with
        | ok _ => rfl
        | error c' => rw [h2, stsE_err] at h; cases h)
      clear hform hA1 hA2 hA3 hA4 hE1 hE3 hne hnf hH
      refine XA.draw (by kernel_rfl) _ _ [6] [(0, .pu), (1, .pu), (2, .rd), (3, .pu), (4, .rd), (5, .wr), (6, .wr)] (by kernel_rfl) (PH.sub.refl _) (Ent.sel (R := blk g7 _ _) zL (Ent.nil _)) ?_
      refine XPA.pu rfl rfl Gd.free Rd.mv ?_; refine XPA.pu rfl rfl Gd.free (Rd.fA rfl) ?_; refine XPA.rd rfl rfl Gd.free (Rd.ldC rfl (tyrow rfl) rfl) ?_; refine XPA.pu rfl rfl Gd.free (Rd.fA rfl) ?_; refine XPA.rd rfl rfl Gd.free (Rd.ldC rfl (tyrow rfl) rfl) ?_
      refine XPA.wr0 rfl rfl Gd.free (WrA.cE (rneeded_a σ op 118) rfl) ?_
      rintro _ _ _ ⟨_, ⟨rfl, rfl, rfl⟩, rfl⟩
      refine stays (XPA.cl ?_)
      rw [nV]
      refine XPA.wrZ0 rfl rfl Gd.free (by kernel_rfl) (WrA.cE (variable_a σ b p n c bs _ v qV) rfl) ?_
      rintro _ _ _ ⟨_, ⟨rfl, rfl, rfl⟩, rfl⟩
      refine XPA.cl ?_
      rw [hHn]
      refine XPA.nil ?_; refine zT (zS (zS (zR (zV rfl rfl ?_)))); refine zB rfl rfl (tyrow rfl) rfl ?_
      refine XOA.wr0 rfl (WrA.cE (rneeded_a σ op 101) rfl) ?_
      rintro _ _ _ ⟨_, ⟨rfl, rfl, rfl⟩, rfl⟩
      refine XOA.cl ?_
      rw [nE, ← hcells]
      refine zN (zT ?_)
      refine XA.join [(96, 101)] (fun _ : Unit => []) (fun _ σ' Γ' => σ = σ' ∧ Γ' = [Look b (.slice p n c) bs H1, blk g7 cells 56]) ?_ ?_
      · rw [hcells]
        refine XA.cond rfl (fun hq => ?_) (fun hq => ?_)
        · rw [show H1 = exE n (deep + 1) ex H by rw [hH1, if_pos hq]]
          refine zR (zA rfl ?_); refine zV rfl rfl ?_; refine zO rfl (Rd.ldA rfl) ?_; refine zA rfl ?_; refine zO rfl zI ?_
          refine XOA.wr0 rfl (WrA.cE (rexpr_a σ ex _ b p n c bs H (deep + 1) hxe hHi (by omega) (by omega)) rfl) ?_
          rintro _ _ _ ⟨_, ⟨rfl, rfl, rfl⟩, rfl⟩
          refine XOA.cl ?_; refine zN (zT ?_)
          refine ⟨(Keep.updO (Keep.upd (Keep.upd (Keep.upd (Keep.upd (Keep.upd (Keep.refl _ _) rfl) rfl) rfl) rfl) rfl) rfl), (), _, zM, ?_, ⟨rfl, rfl⟩⟩
          · exact zE
        · rw [show H1 = H by rw [hH1, if_neg (by rw [hq]; decide)]]
          refine XA.skip (zT ?_)
          refine ⟨(Keep.refl _ _), (), _, zM, ?_, ⟨rfl, rfl⟩⟩
          · exact zE
      rintro - δ6 _ _ ⟨rfl, rfl⟩
      dsimp only [ovr, List.foldl]
      refine zT ?_
      rw [hcells]
      refine zS (zS (zR (zV rfl rfl ?_))); refine zB rfl rfl (tyrow rfl) rfl ?_
      refine XOA.wr0 rfl (WrA.cE (rneeded_a σ op 102) rfl) ?_
      rintro _ _ _ ⟨_, ⟨rfl, rfl, rfl⟩, rfl⟩
      refine XOA.cl ?_
      rw [nF, ← hcells]
      refine zN (zT ?_)
      refine XA.join [(105, 110)] (fun _ : Unit => []) (fun _ σ' Γ' => σ = σ' ∧ Γ' = [Look b (.slice p n c) bs H2, blk g7 cells 56]) ?_ ?_
      · rw [hcells]
        refine XA.cond rfl (fun hq => ?_) (fun hq => ?_)
        · rw [show H2 = exE n (deep + 1) fx H1 by rw [hH2, if_pos hq]]
          refine zR (zA rfl ?_); refine zV rfl rfl ?_; refine zO rfl (Rd.ldA rfl) ?_; refine zA rfl ?_; refine zO rfl zI ?_
          refine XOA.wr0 rfl (WrA.cE (rexpr_a σ fx _ b p n c bs H1 (deep + 1) hxf hH1i (by omega) (by omega)) rfl) ?_
          rintro _ _ _ ⟨_, ⟨rfl, rfl, rfl⟩, rfl⟩
          refine XOA.cl ?_; refine zN (zT ?_)
          refine ⟨(Keep.updO (Keep.upd (Keep.upd (Keep.upd (Keep.upd (Keep.upd (Keep.refl _ _) rfl) rfl) rfl) rfl) rfl) rfl), (), _, zM, ?_, ⟨rfl, rfl⟩⟩
          · exact zE
        · rw [show H2 = H1 by rw [hH2, if_neg (by rw [hq]; decide)]]
          refine XA.skip (zT ?_)
          refine ⟨(Keep.refl _ _), (), _, zM, ?_, ⟨rfl, rfl⟩⟩
          · exact zE
      rintro - δ7 _ _ ⟨rfl, rfl⟩
      dsimp only [ovr, List.foldl]
      refine zT ?_
      rw [hcells]
      refine zS (zR (zA rfl ?_)); refine zV rfl rfl ?_; refine zB rfl rfl (tyrow rfl) rfl ?_; refine zA rfl ?_; refine zO rfl zI ?_
      refine XOA.wr0 rfl (WrA.cE (ihb _ b p n c bs H2 (deep + 1) hxb hH2i (by omega) ⟨by omega, fun h => by have := hdd h; omega⟩) rfl) ?_
      rintro _ _ _ ⟨_, ⟨rfl, rfl, rfl⟩, rfl⟩
      refine XOA.cl ?_; refine zN (zT (zR (zA rfl ?_))); refine zV rfl rfl ?_; refine zB rfl rfl (tyrow rfl) rfl ?_; refine zA rfl ?_; refine zO rfl zI ?_
      refine XOA.wr0 rfl (WrA.cE (ihe _ b p n c bs _ (deep + 1) hxl (in_of (Down.stsE n body) hH2i (deep + 1)) (by omega) ⟨by omega, fun h => by have := hdd2 h; omega⟩) rfl) ?_
      rintro _ _ _ ⟨_, ⟨rfl, rfl, rfl⟩, rfl⟩
      refine XOA.cl ?_; refine zN (DA.inb_normal (zT (zR (zA rfl ?_)))); refine zO rfl zI ?_; refine zO rfl Rd.asg ?_; refine zN (zT ?_)
      refine ⟨(Keep.upd (Keep.upd (Keep.upd (Keep.updO (Keep.upd (Keep.upd (Keep.upd (Keep.upd (Keep.upd (Keep.updO (Keep.upd (Keep.upd (Keep.upd (Keep.upd (Keep.upd (Keep.hav (Keep.updO (Keep.upd (Keep.upd (Keep.hav (Keep.updO (Keep.upd (Keep.upd (Keep.updO (Keep.updO (Keep.upd (Keep.upd (Keep.upd (Keep.upd (Keep.upd (Keep.updO (Keep.upd (Keep.upd (Keep.hav (Keep.hav (Keep.upd (Keep.upd (Keep.hav (Keep.hav (Keep.upd (Keep.updO (Keep.upd (Keep.upd (Keep.upd (Keep.updO (Keep.upd (Keep.upd (Keep.hav (Keep.hav (Keep.upd (Keep.upd (Keep.hav (Keep.hav (Keep.upd (Keep.updO (Keep.upd (Keep.upd (Keep.upd (Keep.updO (Keep.upd (Keep.upd (Keep.hav (Keep.hav (Keep.upd (Keep.upd (Keep.upd (Keep.updO (Keep.upd (Keep.upd (Keep.updN (Keep.updO (Keep.upd (Keep.upd (Keep.upd (Keep.upd (Keep.upd (Keep.upd (Keep.upd (Keep.upd (Keep.upd (Keep.upd (Keep.upd (Keep.upd (Keep.upd (Keep.upd (Keep.upd (Keep.upd (Keep.hav (Keep.refl _ _) rfl) rfl) rfl) rfl) rfl) rfl) rfl) rfl) rfl) rfl) rfl) rfl) rfl) rfl) rfl) rfl) rfl) rfl)) rfl) rfl) rfl) rfl) rfl) rfl) rfl) rfl) rfl) rfl) rfl) rfl) rfl) rfl) rfl) rfl) rfl) rfl) rfl) rfl) rfl) rfl) rfl) rfl) rfl) rfl) rfl) rfl) rfl) rfl) rfl) rfl) rfl) rfl) rfl) rfl) rfl) rfl) rfl) rfl) rfl) rfl) rfl) rfl) rfl) rfl) rfl) rfl) rfl) rfl) rfl) rfl) rfl) rfl) rfl) rfl) rfl) rfl) rfl) rfl) rfl) rfl) rfl) rfl) rfl) rfl) rfl) rfl) rfl), q + 1, _, zM, ?_, ⟨rfl, hlt, by rw [e1, hend]⟩, (by omega)⟩
      · exact zE
  · 
    have hqn : q = l.length := by omega
    subst hqn
    rw [List.take_length]
    refine zS (zS (zR (zA rfl ?_))); refine zA rfl ?_; refine zO rfl (Rd.lenSlice (tyrow rfl) rfl rfl) ?_; refine zO rfl (Rd.lss rfl rfl) ?_; refine zA rfl ?_
    first | (refine zG ?_; refine zA rfl ?_) | refine zH ?_
    first | (refine zG ?_; refine zO rfl (Rd.nilCheck rfl) ?_) | refine zH ?_
    first | (refine zG ?_; refine zV rfl rfl ?_) | refine zH ?_
    first | (refine zG ?_; refine zB rfl rfl (tyrow rfl) rfl ?_) | refine zH ?_
    first | (refine zG ?_; refine zO rfl (Rd.eql rfl rfl) ?_) | refine zH ?_
    refine zO rfl zP ?_; refine zN (zT (XA.condF rfl zY ?_)); refine XA.exit (DA.thn_exit (DA.thn_exit (DA.inb_same ?_)))
    exact bodyA.normal (ResA.none rfl) zE ⟨rfl, rfl, rfl⟩
theorem rst_x (σ : PH) (x : St) : RStmtsOK σ x.body ∧ RStmtsOK σ x.els := by
  refine St.ind (P := fun x => RStmtsOK σ x.body ∧ RStmtsOK σ x.els) ?_ x
  intro op v e f body els ih jh
  exact ⟨rstmts_l σ body ih, rstmts_l σ els jh⟩
theorem rstmts_a (σ : PH) (l : List St) : RStmtsOK σ l := rstmts_l σ l (fun x _ => rst_x σ x)
end Go.Proofs.YthefnnkmpcgcmaaDoor

namespace Go.Proofs.YthefnnkmpcgcmaaDoor
open Go X
set_option maxHeartbeats 1000000
theorem fault_a (σ : PH) (cs : List Value) (p : Pr) (hp : PrAt σ cs p) : CallsA Tryd.prog 21 #[.agg cs.toArray] σ [] (RetA fun v σ' Γ' => v = i64 (checkP p) ∧ σ = σ' ∧ Γ' = []) := by
  obtain ⟨vs, bs, rfl, hv, hb⟩ := hp
  obtain ⟨pv, cv, rfl, hvl, hvm⟩ := hv.shape
  obtain ⟨pb, cb, rfl, hbl, hbm⟩ := hb.shape
  obtain ⟨l, body⟩ := p
  simp only at hv hb hvl hbl ⊢
  have hlen : l.length ≤ maxLen := by omega
  simp only [maxLen] at hlen
  refine enterA1 Tryd.func21 rfl rfl rfl ?_
  refine zS (zR ?_)
  refine XOA.wr0 rfl WrA.bx ?_
  rintro _ _ _ ⟨g1, rfl, rfl, rfl⟩
  refine zO rfl Rd.asg ?_; refine zN (zT (zS (zS (zR (zV rfl rfl ?_))))); refine zB rfl rfl (tyrow rfl) rfl ?_; refine zO rfl (Rd.lenSlice (tyrow rfl) rfl rfl) ?_; refine zO rfl (Rd.gtr rfl rfl) ?_; refine zN (zT ?_)
  refine XA.condp rfl (fun h8 => ?_) (fun h8 => ?_)
  · refine zS ?_
    refine zR (zO rfl Rd.asg ?_); refine zN (zT (XA.ret (DA.thn_ret ?_)))
    have hr : checkP ⟨l, body⟩ = 3 := by
      have : checkVars l = 3 := by rw [checkVars, if_pos (by omega)]
      rw [checkP, this, if_pos (by decide)]
    exact bodyA.ret (ResA.one rfl rfl) zE ⟨by rw [hr], rfl, rfl⟩
  have hcv : checkVars l = varsGo [] 0 l := by rw [checkVars, if_neg (by omega)]
  have hcp : ∀ c, varsGo [] 0 l = c → c ≠ 0 → checkP ⟨l, body⟩ = c := fun c h1 h2 => by rw [checkP, if_pos (by rw [hcv, h1]; exact h2), hcv, h1]
  refine XA.skip (zT (zS (zR (zO rfl Rd.asg ?_)))); refine zN (zT (zS (zS (zR (zO rfl Rd.asg ?_))))); refine zN (zT (XA.block ?_))
  refine XA.gen [(1, _), (2, _), (3, _), (4, _)] ⟨(by with_reducible (conv => lhs; whnf)), (by with_reducible (conv => lhs; whnf)), (by with_reducible (conv => lhs; whnf)), (by with_reducible (conv => lhs; whnf)), trivial⟩ (fun δ => ?_)
  dsimp only [List.foldl]
  refine XA.loop [(2, 6), (12, 60)] (fun q : Nat × Int => [(4, i64 q.1), (3, i64 q.2)]) (fun q σ' Γ' => σ = σ' ∧ q.1 ≤ l.length ∧ (0 ≤ q.2 ∧ q.2 ≤ 48 ∧ varsGo (l.take q.1) q.2 (l.drop q.1) = varsGo [] 0 l) ∧ Γ' = [blk g1 [.slice pv l.length cv, .slice pb body.length cb] 25]) (fun q => l.length - q.1) (0, 0) (by exact ⟨rfl, rfl, trivial⟩) (Δ0 := _) ?_ (⟨rfl, Nat.zero_le _, ⟨Int.le_refl _, (by decide), rfl⟩, rfl⟩) ?_
  · exact zE
  rintro ⟨k, n⟩ δ _ _ ⟨rfl, hk, ⟨hn0, hn1, hgo⟩, rfl⟩
  dsimp only [ovr, List.foldl]
  have hk : k ≤ l.length := hk
  have hn0 : 0 ≤ n := hn0
  have hn1 : n ≤ 48 := hn1
  have hgo : varsGo (l.take k) n (l.drop k) = varsGo [] 0 l := hgo
  refine zS (zS (zR (zA rfl ?_))); refine zV rfl rfl ?_; refine zB rfl rfl (tyrow rfl) rfl ?_; refine zO rfl (Rd.lenSlice (tyrow rfl) rfl rfl) ?_; refine zO rfl (Rd.lss rfl rfl) ?_; refine zN (zT ?_)
  refine XA.condp rfl (fun hlt => ?_) (fun hlt => ?_)
  · have hlt : k < l.length := by omega
    obtain ⟨x, hx⟩ : ∃ x, l[k]? = some x := ⟨_, List.getElem?_eq_getElem hlt⟩
    obtain ⟨gg, o, row, rfl, ⟨rfl, ⟨hz0, hz1⟩, hnm⟩, hrl, hrow⟩ := hv.at hx
    rw [drop_get hx, varsGo] at hgo
    refine XA.skip (zT (zS (XA.block (zS (zR (zV rfl rfl ?_)))))); refine zB rfl rfl (tyrow rfl) rfl ?_; refine zA rfl ?_; refine zO rfl (Rd.ixS rfl rfl) ?_; refine zO rfl (Rd.ldA rfl) ?_
    refine XOA.wr0 rfl (WrA.alloc (tyrow rfl)) ?_
    rintro _ _ _ ⟨g5, rfl, rfl, rfl⟩
    refine XOA.wr0 rfl (WrA.st (tyrow rfl) rfl) ?_
    rintro _ _ _ ⟨rfl, rfl, rfl⟩
    refine zN (zT (zS (zS (zR (zV rfl rfl ?_))))); refine zB rfl rfl (tyrow rfl) rfl ?_
    refine XOA.wr0 rfl (WrA.cE (rname_a σ x.name hnm) rfl) ?_
    rintro _ _ _ ⟨_, ⟨rfl, rfl, rfl⟩, rfl⟩
    refine XOA.cl ?_
    cases hnk : nameOk x.name with
    | false =>
      rw [if_pos hnk] at hgo
      rw [hcp 8 hgo.symm (by decide)]
      refine zO rfl zJ ?_; refine zN (zT (XA.condT rfl rfl (zS (zR (zO rfl Rd.asg ?_))))); refine zN (zT (XA.ret (DA.thn_ret (DA.inb_ret (DA.thn_ret (DA.thn_ret (DA.inb_ret (DA.thn_ret ?_))))))))
      exact bodyA.ret (ResA.one rfl rfl) zE ⟨rfl, rfl, rfl⟩
    | true =>
      rw [if_neg (by simp [hnk])] at hgo
      refine zO rfl zJ ?_; refine zN (zT (XA.condF rfl rfl (XA.skip (zT (zS (zS (zR (zO rfl Rd.asg ?_)))))))); refine zN (zT (XA.block ?_))
      refine XA.loop [(2, 2), (6, 6), (28, 41)] (fun j : Nat => [(6, i64 j)]) (fun j σ' Γ' => σ = σ' ∧ j ≤ k ∧ (∀ (i : Nat) w, i < j → l[i]? = some w → w.name ≠ x.name) ∧ Γ' = [blk g5 [.string x.name, i64 x.size] 51, blk g1 [.slice (some ⟨gg, o, none⟩) l.length cv, .slice pb body.length cb] 25]) (fun j => k - j) 0 (by exact ⟨rfl, trivial⟩) (Δ0 := _) ?_ (⟨rfl, Nat.zero_le _, fun i w h => absurd h (Nat.not_lt_zero _), rfl⟩) ?_
      · exact zE
      rintro j δ2 _ _ ⟨rfl, hj, hall, rfl⟩
      dsimp only [ovr, List.foldl]
      refine zS (zS (zR (zA rfl ?_))); refine zA rfl ?_; refine zO rfl (Rd.lss rfl rfl) ?_; refine zN (zT ?_)
      refine XA.condp rfl (fun hjk => ?_) (fun hjk => ?_)
      · have hjk : j < k := by omega
        obtain ⟨y, hy⟩ : ∃ y, l[j]? = some y := ⟨_, List.getElem?_eq_getElem (by omega)⟩
        obtain ⟨gg', o', row', hgo', ⟨rfl, -, -⟩, hrl', hrow'⟩ := hv.at hy
        simp only [Option.some.injEq, Addr.mk.injEq, and_true] at hgo'
        obtain ⟨rfl, rfl⟩ := hgo'
        have r0 : PRow σ gg (o + j * 2) [.string y.name] := hrow'.sub (j := 0) rfl
        refine XA.skip (zT (zS (XA.block (zS ?_))))
        refine XA.draw (by kernel_rfl) _ _ [] [(0, .pu), (1, .rd), (2, .pu), (3, .pu), (4, .pu), (5, .rd), (6, .pu), (7, .rd), (8, .pu)] (by kernel_rfl) (PH.sub.refl _) (Ent.sel (R := blk g1 _ _) zL (Ent.sel (R := blk g5 _ _) zL (Ent.nil _))) ?_
        refine XPA.pu rfl rfl Gd.free (Rd.fA rfl) ?_; refine XPA.rd rfl rfl Gd.free (Rd.ldC rfl (tyrow rfl) rfl) ?_; refine XPA.pu rfl rfl Gd.free Rd.mv ?_; refine XPA.pu rfl rfl Gd.free (Rd.ixS rfl rfl) ?_; refine XPA.pu rfl rfl Gd.free (Rd.fA rfl) ?_
        refine XPA.rd rfl rfl Gd.free (Rd.ldC rfl (tyrow rfl) rfl) ?_; refine XPA.pu rfl rfl Gd.free (Rd.fA rfl) ?_; refine XPA.rd rfl rfl Gd.free (Rd.ldC rfl (tyrow rfl) rfl) ?_; refine XPA.pu rfl rfl Gd.free (Rd.eqls rfl rfl) ?_; refine XPA.nil ?_; refine zT ?_
        refine XA.condp rfl (fun he => ?_) (fun he => ?_)
        · have hex : ∃ w ∈ l.take k, w.name = x.name := ⟨y, List.mem_iff_getElem?.2 ⟨j, by rw [List.getElem?_take, if_pos hjk]; exact hy⟩, he⟩
          rw [if_pos hex] at hgo
          rw [hcp 9 hgo.symm (by decide)]
          refine zS (zR (zO rfl Rd.asg ?_)); refine zN (zT (XA.ret (DA.inb_ret (DA.thn_ret (DA.thn_ret (DA.inb_ret (DA.thn_ret (DA.inb_ret (DA.thn_ret (DA.thn_ret (DA.inb_ret (DA.thn_ret ?_))))))))))))
          exact bodyA.ret (ResA.one rfl rfl) zE ⟨rfl, rfl, rfl⟩
        have hnew : ∀ (i : Nat) w, i < j + 1 → l[i]? = some w → w.name ≠ x.name := fun i w hi hw => by
          rcases Nat.lt_or_ge i j with h | h
          · exact hall i w h hw
          · have : i = j := by omega
            subst this
            rw [hy] at hw; simp only [Option.some.injEq] at hw; subst hw; exact he
        refine XA.skip (DA.inb_normal (zT (zR (zA rfl ?_)))); refine zO rfl zI ?_; refine zO rfl Rd.asg ?_; refine zN (zT ?_)
        refine ⟨(Keep.upd (Keep.upd (Keep.upd (Keep.upd (Keep.upd (Keep.upd (Keep.upd (Keep.upd (Keep.upd (Keep.upd (Keep.upd (Keep.upd (Keep.upd (Keep.upd (Keep.upd (Keep.upd (Keep.hav (Keep.hav (Keep.hav (Keep.refl _ _) rfl) rfl) rfl) rfl) rfl) rfl) rfl) rfl) rfl) rfl) rfl) rfl) rfl) rfl) rfl) rfl) rfl) rfl) rfl), j + 1, _, zM, ?_, ⟨rfl, hjk, hnew, rfl⟩, (by omega)⟩
        · exact zE
      have hjk2 : j = k := by omega
      subst hjk2
      have hnex : ¬ ∃ w ∈ l.take j, w.name = x.name := fun ⟨w, hw, e⟩ => by
        obtain ⟨i, hi⟩ := List.mem_iff_getElem?.1 hw
        rw [List.getElem?_take] at hi
        split at hi
        · exact hall i w (by assumption) hi e
        · cases hi
      rw [if_neg hnex] at hgo
      by_cases hz : x.size < 1
      · rw [if_pos (.inl hz)] at hgo
        rw [hcp 1 hgo.symm (by decide)]
        refine XA.exit (DA.thn_exit (DA.thn_exit (DA.inb_same (zT (zS (zS (zR (zV rfl rfl ?_)))))))); refine zB rfl rfl (tyrow rfl) rfl ?_; refine zO rfl (Rd.lss rfl rfl) ?_; refine zA rfl ?_
        first | (refine zG ?_; refine zV rfl rfl ?_) | refine zH ?_
        first | (refine zG ?_; refine zB rfl rfl (tyrow rfl) rfl ?_) | refine zH ?_
        first | (refine zG ?_; refine zO rfl (Rd.gtr rfl rfl) ?_) | refine zH ?_
        refine zO rfl zP ?_; refine zA rfl ?_
        first | (refine zG ?_; refine zA rfl ?_) | refine zH ?_
        first | (refine zG ?_; refine zV rfl rfl ?_) | refine zH ?_
        first | (refine zG ?_; refine zB rfl rfl (tyrow rfl) rfl ?_) | refine zH ?_
        first | (refine zG ?_; refine zO rfl zI ?_) | refine zH ?_
        first | (refine zG ?_; refine zO rfl (Rd.gtr rfl rfl) ?_) | refine zH ?_
        refine zO rfl zP ?_; refine zN (zT (XA.condT rfl rfl (zS (zR (zO rfl Rd.asg ?_))))); refine zN (zT (XA.ret (DA.thn_ret (DA.inb_ret (DA.thn_ret (DA.thn_ret (DA.inb_ret (DA.thn_ret ?_))))))))
        exact bodyA.ret (ResA.one rfl rfl) zE ⟨rfl, rfl, rfl⟩
      by_cases hz3 : 48 < x.size
      · rw [if_pos (.inr (by omega))] at hgo
        rw [hcp 1 hgo.symm (by decide)]
        refine XA.exit (DA.thn_exit (DA.thn_exit (DA.inb_same (zT (zS (zS (zR (zV rfl rfl ?_)))))))); refine zB rfl rfl (tyrow rfl) rfl ?_; refine zO rfl (Rd.lss rfl rfl) ?_; refine zA rfl ?_
        first | (refine zG ?_; refine zV rfl rfl ?_) | refine zH ?_
        first | (refine zG ?_; refine zB rfl rfl (tyrow rfl) rfl ?_) | refine zH ?_
        first | (refine zG ?_; refine zO rfl (Rd.gtr rfl rfl) ?_) | refine zH ?_
        refine zO rfl zP ?_; refine zA rfl ?_
        first | (refine zG ?_; refine zA rfl ?_) | refine zH ?_
        first | (refine zG ?_; refine zV rfl rfl ?_) | refine zH ?_
        first | (refine zG ?_; refine zB rfl rfl (tyrow rfl) rfl ?_) | refine zH ?_
        first | (refine zG ?_; refine zO rfl zI ?_) | refine zH ?_
        first | (refine zG ?_; refine zO rfl (Rd.gtr rfl rfl) ?_) | refine zH ?_
        refine zO rfl zP ?_; refine zN (zT (XA.condT rfl rfl (zS (zR (zO rfl Rd.asg ?_))))); refine zN (zT (XA.ret (DA.thn_ret (DA.inb_ret (DA.thn_ret (DA.thn_ret (DA.inb_ret (DA.thn_ret ?_))))))))
        exact bodyA.ret (ResA.one rfl rfl) zE ⟨rfl, rfl, rfl⟩
      refine XA.exit (DA.thn_exit (DA.thn_exit (DA.inb_same (zT (zS (zS (zR (zV rfl rfl ?_)))))))); refine zB rfl rfl (tyrow rfl) rfl ?_; refine zO rfl (Rd.lss rfl rfl) ?_; refine zA rfl ?_
      first | (refine zG ?_; refine zV rfl rfl ?_) | refine zH ?_
      first | (refine zG ?_; refine zB rfl rfl (tyrow rfl) rfl ?_) | refine zH ?_
      first | (refine zG ?_; refine zO rfl (Rd.gtr rfl rfl) ?_) | refine zH ?_
      refine zO rfl zP ?_; refine zA rfl ?_
      first | (refine zG ?_; refine zA rfl ?_) | refine zH ?_
      first | (refine zG ?_; refine zV rfl rfl ?_) | refine zH ?_
      first | (refine zG ?_; refine zB rfl rfl (tyrow rfl) rfl ?_) | refine zH ?_
      first | (refine zG ?_; refine zO rfl zI ?_) | refine zH ?_
      first | (refine zG ?_; refine zO rfl (Rd.gtr rfl rfl) ?_) | refine zH ?_
      refine zO rfl zP ?_; refine zN (zT ?_)
      refine XA.condp rfl (fun hz2 => ?_) (fun hz2 => ?_)
      · rw [if_pos (.inr (by omega))] at hgo
        rw [hcp 1 hgo.symm (by decide)]
        refine zS (zR (zO rfl Rd.asg ?_)); refine zN (zT (XA.ret (DA.thn_ret (DA.inb_ret (DA.thn_ret (DA.thn_ret (DA.inb_ret (DA.thn_ret ?_))))))))
        exact bodyA.ret (ResA.one rfl rfl) zE ⟨rfl, rfl, rfl⟩
      rw [if_neg (by omega)] at hgo
      refine XA.skip (zT (zR (zA rfl ?_))); refine zV rfl rfl ?_; refine zB rfl rfl (tyrow rfl) rfl ?_; refine zO rfl zI ?_; refine zO rfl Rd.asg ?_; refine zN (DA.inb_normal (zT (zR (zA rfl ?_)))); refine zO rfl zI ?_; refine zO rfl Rd.asg ?_; refine zN (zT ?_)
      refine ⟨(Keep.upd (Keep.upd (Keep.upd (Keep.upd (Keep.upd (Keep.upd (Keep.upd (Keep.upd (Keep.upd (Keep.upd (Keep.upd (Keep.upd (Keep.upd (Keep.upd (Keep.upd (Keep.upd (Keep.upd (Keep.upd (Keep.upd (Keep.upd (Keep.upd (Keep.upd (Keep.upd (Keep.upd (Keep.upd (Keep.upd (Keep.upd (Keep.hav (Keep.hav (Keep.hav (Keep.upd (Keep.upd (Keep.updO (Keep.upd (Keep.upd (Keep.updN (Keep.updO (Keep.upd (Keep.upd (Keep.upd (Keep.upd (Keep.upd (Keep.upd (Keep.upd (Keep.upd (Keep.upd (Keep.upd (Keep.upd (Keep.upd (Keep.hav (Keep.hav (Keep.refl _ _) rfl) rfl) rfl) rfl) rfl) rfl) rfl) rfl) rfl) rfl) rfl) rfl) rfl) rfl) rfl)) rfl) rfl) rfl) rfl) rfl) rfl) rfl) rfl) rfl) rfl) rfl) rfl) rfl) rfl) rfl) rfl) rfl) rfl) rfl) rfl) rfl) rfl) rfl) rfl) rfl) rfl) rfl) rfl) rfl) rfl) rfl) rfl) rfl) rfl) rfl), (j + 1, n + x.size), _, zM, ?_, ⟨rfl, hlt, ⟨by simp only; omega, by simp only; omega, by rw [takeS hx]; exact hgo⟩, rfl⟩, (by simp only; omega)⟩
      · exact zE
  have hkn : k = l.length := by omega
  subst hkn
  rw [List.drop_length, varsGo] at hgo
  have hcp2 : checkP ⟨l, body⟩ = (stsE l.length 0 body (.ok 150)).code := by rw [checkP, if_neg (by rw [hcv, ← hgo]; decide)]
  rw [hcp2]
  refine XA.exit (DA.thn_exit (DA.thn_exit (DA.inb_same (zT (zS (zR (zO rfl (Rd.ldA rfl) ?_)))))))
  refine zO rfl (Rd.bl (fun _ _ => tyrow) rfl rfl rfl) ?_
  refine XOA.wr0 rfl WrA.bx ?_
  rintro _ _ _ ⟨g63, rfl, rfl, rfl⟩
  refine zO rfl Rd.asg ?_; refine zN (zT (zS (zR (zA rfl ?_)))); refine zV rfl rfl ?_; refine zB rfl rfl (tyrow rfl) rfl ?_
  refine XOA.ent (Ent.foldC (Θ := [blk g63 _ _]) zD (Look.mkO (l := 150) rfl) (Ent.refl _)) ?_
  refine XOA.wr0 rfl (WrA.cE (rstmts_a σ body _ g63 pv l.length cv _ (.ok 150) 0 hb (fun l hl => by simp only [Except.ok.injEq] at hl; omega) (by decide) ⟨by decide, fun _ => by decide⟩) rfl) ?_
  rintro _ _ _ ⟨_, ⟨rfl, rfl, rfl⟩, rfl⟩
  refine XOA.cl ?_; refine zN (zT (zS (zR (zA rfl ?_))))
  cases hst : stsE l.length 0 body (.ok 150) with
  | ok a =>
    first | refine XA.opn (R := Look g63 _ _ (.ok a)) zL (Look.okO) ?_ | refine XOA.opn (R := Look g63 _ _ (.ok a)) zL (Look.okO) ?_ | refine DA.opn (R := Look g63 _ _ (.ok a)) zL (Look.okO) ?_
    rintro ⟨⟩ -
    first | refine XA.cl ?_ | refine XOA.cl ?_ | refine DA.cl ?_
    refine zO rfl (Rd.nilCheck rfl) ?_; refine zV rfl rfl ?_; refine zB rfl rfl (tyrow rfl) rfl ?_; refine zO rfl Rd.asg ?_; refine zN (zT (XA.ret ?_))
    exact bodyA.ret (ResA.one rfl rfl) (Ent.nil _) ⟨rfl, rfl, rfl⟩
  | error c =>
    first | refine XA.opn (R := Look g63 _ _ (.error c)) zL (Look.errO) ?_ | refine XOA.opn (R := Look g63 _ _ (.error c)) zL (Look.errO) ?_ | refine DA.opn (R := Look g63 _ _ (.error c)) zL (Look.errO) ?_
    rintro n2 h0
    first | refine XA.cl ?_ | refine XOA.cl ?_ | refine DA.cl ?_
    refine zO rfl (Rd.nilCheck rfl) ?_; refine zV rfl rfl ?_; refine zB rfl rfl (tyrow rfl) rfl ?_; refine zO rfl Rd.asg ?_; refine zN (zT (XA.ret ?_))
    exact bodyA.ret (ResA.one rfl rfl) (Ent.nil _) ⟨rfl, rfl, rfl⟩
def RSameExOK (σ : PH) (x : Ex) : Prop := ∀ (cs cs' : List Value) (y : Ex), ExAt σ cs x → ExAt σ cs' y →
  CallsA Tryd.prog 58 #[.agg cs.toArray, .agg cs'.toArray] σ [] (RetA fun v σ' Γ' => ∃ b : Bool, v = .bool b ∧ (b = true ↔ x = y) ∧ σ = σ' ∧ Γ' = [])
theorem rsameExpr_a (σ : PH) (x : Ex) : RSameExOK σ x := by
  refine Ex.ind (P := RSameExOK σ) ?_ x
  intro op v k l ih cs cs' y hx hy
  obtain ⟨pl, cl, rfl, -, -, -, hl⟩ := hx.inv
  obtain ⟨pm, cm, rfl, -, -, -, hm⟩ := hy.inv
  simp only [Ex.op, Ex.v, Ex.n, Ex.l] at hl ⊢
  clear hx hy
  obtain ⟨op', v', k', m⟩ := y
  simp only [Ex.op, Ex.v, Ex.n, Ex.l] at hm ⊢
  have hlen : l.length ≤ maxLen := by
    obtain ⟨q, d, e1, h1, h2⟩ := hl.shape
    omega
  simp only [maxLen] at hlen
  have hno : ∀ (q : Prop), (Ex.mk op v k l = Ex.mk op' v' k' m → q) → ¬ q → (false = true ↔ Ex.mk op v k l = Ex.mk op' v' k' m) := fun q h1 h2 => ⟨fun h => (by cases h), fun h => absurd (h1 h) h2⟩
  by_cases h1 : op = op'
  · by_cases h2 : v = v'
    · by_cases h3 : k = k'
      · 
        refine enterA2 Tryd.func58 rfl rfl rfl ?_
        refine zS (zR ?_)
        refine XOA.wr0 rfl WrA.bx ?_
        rintro _ _ _ ⟨g2, rfl, rfl, rfl⟩
        refine XOA.wr0 rfl WrA.bx ?_
        rintro _ _ _ ⟨g3, rfl, rfl, rfl⟩
        refine zO rfl Rd.asg ?_; refine zN (zT (zS (zS (zR (zV rfl rfl ?_))))); refine zB rfl rfl (tyrow rfl) rfl ?_; refine zV rfl rfl ?_; refine zB rfl rfl (tyrow rfl) rfl ?_; refine zO rfl (Rd.neq rfl rfl) ?_; refine zA rfl ?_
        first | (refine zG ?_; refine zV rfl rfl ?_) | refine zH ?_
        first | (refine zG ?_; refine zB rfl rfl (tyrow rfl) rfl ?_) | refine zH ?_
        first | (refine zG ?_; refine zV rfl rfl ?_) | refine zH ?_
        first | (refine zG ?_; refine zB rfl rfl (tyrow rfl) rfl ?_) | refine zH ?_
        first | (refine zG ?_; refine zO rfl (Rd.neq rfl rfl) ?_) | refine zH ?_
        refine zO rfl zP ?_; refine zA rfl ?_
        first | (refine zG ?_; refine zV rfl rfl ?_) | refine zH ?_
        first | (refine zG ?_; refine zB rfl rfl (tyrow rfl) rfl ?_) | refine zH ?_
        first | (refine zG ?_; refine zV rfl rfl ?_) | refine zH ?_
        first | (refine zG ?_; refine zB rfl rfl (tyrow rfl) rfl ?_) | refine zH ?_
        first | (refine zG ?_; refine zO rfl (Rd.neq rfl rfl) ?_) | refine zH ?_
        refine zO rfl zP ?_; refine zA rfl ?_
        first | (refine zG ?_; refine zV rfl rfl ?_) | refine zH ?_
        first | (refine zG ?_; refine zB rfl rfl (tyrow rfl) rfl ?_) | refine zH ?_
        first | (refine zG ?_; refine zO rfl (Rd.lenSlice (tyrow rfl) rfl rfl) ?_) | refine zH ?_
        first | (refine zG ?_; refine zV rfl rfl ?_) | refine zH ?_
        first | (refine zG ?_; refine zB rfl rfl (tyrow rfl) rfl ?_) | refine zH ?_
        first | (refine zG ?_; refine zO rfl (Rd.lenSlice (tyrow rfl) rfl rfl) ?_) | refine zH ?_
        first | (refine zG ?_; refine zO rfl (Rd.neq rfl rfl) ?_) | refine zH ?_
        refine zO rfl zP ?_; refine zN (zT ?_)
        refine XA.condp rfl (fun hne => ?_) (fun hne => ?_)
        · refine zS ?_
          refine zR (zO rfl Rd.asg ?_); refine zN (zT (XA.ret (DA.thn_ret ?_)))
          exact bodyA.ret (ResA.one rfl rfl) (Ent.nil _) ⟨false, rfl, hno _ (fun h => by injection h) (fun e : l = m => hne (by rw [e])), rfl, rfl⟩
        have hlm : l.length = m.length := by omega
        refine XA.skip (zT (zS (zS (zR (zO rfl Rd.asg ?_))))); refine zN (zT (XA.block ?_))
        refine XA.gen [(2, _), (3, _), (4, _), (5, _)] ⟨(by with_reducible (conv => lhs; whnf)), (by with_reducible (conv => lhs; whnf)), (by with_reducible (conv => lhs; whnf)), (by with_reducible (conv => lhs; whnf)), trivial⟩ (fun δ => ?_)
        dsimp only [List.foldl]
        refine XA.loop [(4, 5), (34, 52)] (fun q : Nat => [(5, i64 q)]) (fun q σ' Γ' => σ = σ' ∧ q ≤ l.length ∧ l.take q = m.take q ∧ Γ' = [blk g2 [i64 op, i64 v, i64 k, .slice pl l.length cl] 54, blk g3 [i64 op', i64 v', i64 k', .slice pm m.length cm] 54]) (fun q => l.length - q) 0 (by exact ⟨rfl, trivial⟩) (Δ0 := _) ?_ (⟨rfl, Nat.zero_le _, rfl, rfl⟩) ?_
        · exact zE
        rintro q δ _ _ ⟨rfl, hq, htk, rfl⟩
        dsimp only [ovr, List.foldl]
        refine zS (zS (zR (zA rfl ?_))); refine zV rfl rfl ?_; refine zB rfl rfl (tyrow rfl) rfl ?_; refine zO rfl (Rd.lenSlice (tyrow rfl) rfl rfl) ?_; refine zO rfl (Rd.lss rfl rfl) ?_; refine zN (zT ?_)
        refine XA.condp rfl (fun hlt => ?_) (fun hlt => ?_)
        · have hlt : q < l.length := by omega
          obtain ⟨x', hx'⟩ : ∃ x, l[q]? = some x := ⟨_, List.getElem?_eq_getElem hlt⟩
          obtain ⟨y', hy'⟩ : ∃ y, m[q]? = some y := ⟨_, List.getElem?_eq_getElem (by omega)⟩
          obtain ⟨g, o, row, rfl, hrx, hrl, hrow⟩ := hl.at hx'
          obtain ⟨g', o', row', rfl, hry, hrl', hrow'⟩ := hm.at hy'
          refine XA.skip (zT (zS (XA.block (zS ?_))))
          refine XA.draw (by kernel_rfl) _ _ [10] [(0, .pu), (1, .rd), (2, .pu), (3, .pu), (4, .rd), (5, .pu), (6, .rd), (7, .pu), (8, .pu), (9, .rd), (10, .wr), (11, .pu)] (by kernel_rfl) (PH.sub.refl _) (Ent.sel (R := blk g2 _ _) zL (Ent.sel (R := blk g3 _ _) zL (Ent.nil _))) ?_
          refine XPA.pu rfl rfl Gd.free (Rd.fA rfl) ?_; refine XPA.rd rfl rfl Gd.free (Rd.ldC rfl (tyrow rfl) rfl) ?_; refine XPA.pu rfl rfl Gd.free Rd.mv ?_; refine XPA.pu rfl rfl Gd.free (Rd.ixS rfl rfl) ?_; refine XPA.rd rfl rfl Gd.free (Rd.ldA rfl) ?_; refine XPA.pu rfl rfl Gd.free (Rd.fA rfl) ?_
          refine XPA.rd rfl rfl Gd.free (Rd.ldC rfl (tyrow rfl) rfl) ?_; refine XPA.pu rfl rfl Gd.free Rd.mv ?_; refine XPA.pu rfl rfl Gd.free (Rd.ixS rfl rfl) ?_; refine XPA.rd rfl rfl Gd.free (Rd.ldA rfl) ?_
          refine XPA.wrZ0 rfl rfl Gd.free (by kernel_rfl) (WrA.cE (ih x' (List.mem_of_getElem? hx') row row' y' hrx hry) rfl) ?_
          rintro _ _ _ ⟨_, ⟨b, rfl, hb, rfl, rfl⟩, rfl⟩
          refine XPA.cl ?_
          cases b with
          | false =>
            refine XPA.pu rfl rfl Gd.free zJ ?_; refine XPA.nil ?_; refine zT (XA.condT rfl rfl (zS (zR (zO rfl Rd.asg ?_)))); refine zN (zT (XA.ret (DA.inb_ret (DA.thn_ret (DA.thn_ret (DA.inb_ret (DA.thn_ret ?_)))))))
            refine bodyA.ret (ResA.one rfl rfl) (Ent.nil _) ⟨false, rfl, hno (l = m) (fun h => by injection h) (fun h => ?_), rfl, rfl⟩
            subst h
            rw [hx'] at hy'; simp only [Option.some.injEq] at hy'
            exact absurd (hb.2 hy') (by decide)
          | true =>
            have hxy := hb.1 rfl
            refine XPA.pu rfl rfl Gd.free zJ ?_; refine XPA.nil ?_; refine zT (XA.condF rfl rfl (XA.skip (DA.inb_normal (zT (zR (zA rfl ?_)))))); refine zO rfl zI ?_; refine zO rfl Rd.asg ?_; refine zN (zT ?_)
            refine ⟨(Keep.upd (Keep.upd (Keep.upd (Keep.upd (Keep.updO (Keep.upd (Keep.upd (Keep.upd (Keep.upd (Keep.upd (Keep.upd (Keep.upd (Keep.upd (Keep.upd (Keep.upd (Keep.upd (Keep.upd (Keep.upd (Keep.upd (Keep.upd (Keep.upd (Keep.hav (Keep.hav (Keep.refl _ _) rfl) rfl) rfl) rfl) rfl) rfl) rfl) rfl) rfl) rfl) rfl) rfl) rfl) rfl) rfl) rfl) rfl) rfl) rfl) rfl) rfl) rfl) rfl), q + 1, _, zM, ?_, ⟨rfl, hlt, take_eq_succ hx' hy' htk hxy, rfl⟩, (by omega)⟩
            · exact zE
        have hqn : q = l.length := by omega
        subst hqn
        rw [List.take_length, hlm, List.take_length] at htk
        refine XA.exit (DA.thn_exit (DA.thn_exit (DA.inb_same (zT (zS (zR (zO rfl Rd.asg ?_))))))); refine zN (zT (XA.ret ?_))
        exact bodyA.ret (ResA.one rfl rfl) (Ent.nil _) ⟨true, rfl, ⟨fun _ => by rw [h1, h2, h3, htk], fun _ => rfl⟩, rfl, rfl⟩
      · 
        refine enterA2 Tryd.func58 rfl rfl rfl ?_
        refine zS (zR ?_)
        refine XOA.wr0 rfl WrA.bx ?_
        rintro _ _ _ ⟨g2, rfl, rfl, rfl⟩
        refine XOA.wr0 rfl WrA.bx ?_
        rintro _ _ _ ⟨g3, rfl, rfl, rfl⟩
        refine zO rfl Rd.asg ?_; refine zN (zT (zS (zS (zR (zV rfl rfl ?_))))); refine zB rfl rfl (tyrow rfl) rfl ?_; refine zV rfl rfl ?_; refine zB rfl rfl (tyrow rfl) rfl ?_; refine zO rfl (Rd.neq rfl rfl) ?_; refine zA rfl ?_
        first | (refine zG ?_; refine zV rfl rfl ?_) | refine zH ?_
        first | (refine zG ?_; refine zB rfl rfl (tyrow rfl) rfl ?_) | refine zH ?_
        first | (refine zG ?_; refine zV rfl rfl ?_) | refine zH ?_
        first | (refine zG ?_; refine zB rfl rfl (tyrow rfl) rfl ?_) | refine zH ?_
        first | (refine zG ?_; refine zO rfl (Rd.neq rfl rfl) ?_) | refine zH ?_
        refine zO rfl zP ?_; refine zA rfl ?_
        first | (refine zG ?_; refine zV rfl rfl ?_) | refine zH ?_
        first | (refine zG ?_; refine zB rfl rfl (tyrow rfl) rfl ?_) | refine zH ?_
        first | (refine zG ?_; refine zV rfl rfl ?_) | refine zH ?_
        first | (refine zG ?_; refine zB rfl rfl (tyrow rfl) rfl ?_) | refine zH ?_
        first | (refine zG ?_; refine zO rfl (Rd.neq rfl rfl) ?_) | refine zH ?_
        refine zO rfl zP ?_; refine zA rfl ?_
        first | (refine zG ?_; refine zV rfl rfl ?_) | refine zH ?_
        first | (refine zG ?_; refine zB rfl rfl (tyrow rfl) rfl ?_) | refine zH ?_
        first | (refine zG ?_; refine zO rfl (Rd.lenSlice (tyrow rfl) rfl rfl) ?_) | refine zH ?_
        first | (refine zG ?_; refine zV rfl rfl ?_) | refine zH ?_
        first | (refine zG ?_; refine zB rfl rfl (tyrow rfl) rfl ?_) | refine zH ?_
        first | (refine zG ?_; refine zO rfl (Rd.lenSlice (tyrow rfl) rfl rfl) ?_) | refine zH ?_
        first | (refine zG ?_; refine zO rfl (Rd.neq rfl rfl) ?_) | refine zH ?_
        refine zO rfl zP ?_; refine zN (zT (XA.condT rfl zY ?_)); refine zS (zR (zO rfl Rd.asg ?_)); refine zN (zT (XA.ret (DA.thn_ret ?_)))
        exact bodyA.ret (ResA.one rfl rfl) (Ent.nil _) ⟨false, rfl, hno _ (fun h => by injection h) h3, rfl, rfl⟩
    · 
      refine enterA2 Tryd.func58 rfl rfl rfl ?_
      refine zS (zR ?_)
      refine XOA.wr0 rfl WrA.bx ?_
      rintro _ _ _ ⟨g2, rfl, rfl, rfl⟩
      refine XOA.wr0 rfl WrA.bx ?_
      rintro _ _ _ ⟨g3, rfl, rfl, rfl⟩
      refine zO rfl Rd.asg ?_; refine zN (zT (zS (zS (zR (zV rfl rfl ?_))))); refine zB rfl rfl (tyrow rfl) rfl ?_; refine zV rfl rfl ?_; refine zB rfl rfl (tyrow rfl) rfl ?_; refine zO rfl (Rd.neq rfl rfl) ?_; refine zA rfl ?_
      first | (refine zG ?_; refine zV rfl rfl ?_) | refine zH ?_
      first | (refine zG ?_; refine zB rfl rfl (tyrow rfl) rfl ?_) | refine zH ?_
      first | (refine zG ?_; refine zV rfl rfl ?_) | refine zH ?_
      first | (refine zG ?_; refine zB rfl rfl (tyrow rfl) rfl ?_) | refine zH ?_
      first | (refine zG ?_; refine zO rfl (Rd.neq rfl rfl) ?_) | refine zH ?_
      refine zO rfl zP ?_; refine zA rfl ?_
      first | (refine zG ?_; refine zV rfl rfl ?_) | refine zH ?_
      first | (refine zG ?_; refine zB rfl rfl (tyrow rfl) rfl ?_) | refine zH ?_
      first | (refine zG ?_; refine zV rfl rfl ?_) | refine zH ?_
      first | (refine zG ?_; refine zB rfl rfl (tyrow rfl) rfl ?_) | refine zH ?_
      first | (refine zG ?_; refine zO rfl (Rd.neq rfl rfl) ?_) | refine zH ?_
      refine zO rfl zP ?_; refine zA rfl ?_
      first | (refine zG ?_; refine zV rfl rfl ?_) | refine zH ?_
      first | (refine zG ?_; refine zB rfl rfl (tyrow rfl) rfl ?_) | refine zH ?_
      first | (refine zG ?_; refine zO rfl (Rd.lenSlice (tyrow rfl) rfl rfl) ?_) | refine zH ?_
      first | (refine zG ?_; refine zV rfl rfl ?_) | refine zH ?_
      first | (refine zG ?_; refine zB rfl rfl (tyrow rfl) rfl ?_) | refine zH ?_
      first | (refine zG ?_; refine zO rfl (Rd.lenSlice (tyrow rfl) rfl rfl) ?_) | refine zH ?_
      first | (refine zG ?_; refine zO rfl (Rd.neq rfl rfl) ?_) | refine zH ?_
      refine zO rfl zP ?_; refine zN (zT (XA.condT rfl zY ?_)); refine zS (zR (zO rfl Rd.asg ?_)); refine zN (zT (XA.ret (DA.thn_ret ?_)))
      exact bodyA.ret (ResA.one rfl rfl) (Ent.nil _) ⟨false, rfl, hno _ (fun h => by injection h) h2, rfl, rfl⟩
  · 
    refine enterA2 Tryd.func58 rfl rfl rfl ?_
    refine zS (zR ?_)
    refine XOA.wr0 rfl WrA.bx ?_
    rintro _ _ _ ⟨g2, rfl, rfl, rfl⟩
    refine XOA.wr0 rfl WrA.bx ?_
    rintro _ _ _ ⟨g3, rfl, rfl, rfl⟩
    refine zO rfl Rd.asg ?_; refine zN (zT (zS (zS (zR (zV rfl rfl ?_))))); refine zB rfl rfl (tyrow rfl) rfl ?_; refine zV rfl rfl ?_; refine zB rfl rfl (tyrow rfl) rfl ?_; refine zO rfl (Rd.neq rfl rfl) ?_; refine zA rfl ?_
    first | (refine zG ?_; refine zV rfl rfl ?_) | refine zH ?_
    first | (refine zG ?_; refine zB rfl rfl (tyrow rfl) rfl ?_) | refine zH ?_
    first | (refine zG ?_; refine zV rfl rfl ?_) | refine zH ?_
    first | (refine zG ?_; refine zB rfl rfl (tyrow rfl) rfl ?_) | refine zH ?_
    first | (refine zG ?_; refine zO rfl (Rd.neq rfl rfl) ?_) | refine zH ?_
    refine zO rfl zP ?_; refine zA rfl ?_
    first | (refine zG ?_; refine zV rfl rfl ?_) | refine zH ?_
    first | (refine zG ?_; refine zB rfl rfl (tyrow rfl) rfl ?_) | refine zH ?_
    first | (refine zG ?_; refine zV rfl rfl ?_) | refine zH ?_
    first | (refine zG ?_; refine zB rfl rfl (tyrow rfl) rfl ?_) | refine zH ?_
    first | (refine zG ?_; refine zO rfl (Rd.neq rfl rfl) ?_) | refine zH ?_
    refine zO rfl zP ?_; refine zA rfl ?_
    first | (refine zG ?_; refine zV rfl rfl ?_) | refine zH ?_
    first | (refine zG ?_; refine zB rfl rfl (tyrow rfl) rfl ?_) | refine zH ?_
    first | (refine zG ?_; refine zO rfl (Rd.lenSlice (tyrow rfl) rfl rfl) ?_) | refine zH ?_
    first | (refine zG ?_; refine zV rfl rfl ?_) | refine zH ?_
    first | (refine zG ?_; refine zB rfl rfl (tyrow rfl) rfl ?_) | refine zH ?_
    first | (refine zG ?_; refine zO rfl (Rd.lenSlice (tyrow rfl) rfl rfl) ?_) | refine zH ?_
    first | (refine zG ?_; refine zO rfl (Rd.neq rfl rfl) ?_) | refine zH ?_
    refine zO rfl zP ?_; refine zN (zT (XA.condT rfl zY ?_)); refine zS (zR (zO rfl Rd.asg ?_)); refine zN (zT (XA.ret (DA.thn_ret ?_)))
    exact bodyA.ret (ResA.one rfl rfl) (Ent.nil _) ⟨false, rfl, hno _ (fun h => by injection h) h1, rfl, rfl⟩
end Go.Proofs.YthefnnkmpcgcmaaDoor

namespace Go.Proofs.YthefnnkmpcgcmaaDoor
namespace X
open Go
section
variable {P : Program} {N : Nat} {ρ : Env} {σ : PH} {Γ : List HP} {K : KA}
end
/-! a closure that recovers -/
section
variable {P : Program}
/-! a tail in which, at a panic, the frame is known -/
def PostF (w0 : World) (ds : List Deferred) (N : Nat) (K : Kont) : Exit → Act → World → Prop := fun e a' w' => a'.defers = ds ∧ Same w0 w' ∧ ∃ ρ', EnvOf N a' ρ' ∧ K e ρ' w'.heap
structure XFO (P : Program) (N : Nat) (all : Array Oper) (l : List Oper) (ρ : Env) (h : Heap) (K : Kont) : Prop where
  out : ∀ (w0 : World) (a : Act) (w : World), Same w0 w → w.heap = h → EnvOf N a ρ → wpList P all (PostF w0 a.defers N K) l a w
section
variable {N : Nat} {ρ : Env} {h : Heap} {K : Kont}
theorem XFO.nil {all : Array Oper} (hk : K .normal ρ h) : XFO P N all [] ρ h K := ⟨fun _ _ _ hs hh he => wpList_nil ⟨rfl, hs, ρ, he, hh ▸ hk⟩⟩
end
structure XFOA (P : Program) (N : Nat) (all : Array Oper) (l : List Oper) (ρ : Env) (σ : PH) (Γ : List HP) (K : KA) : Prop where
  out : ∀ f h, Holds σ Γ f h → XFO P N all l ρ h (KF f K)
section
variable {N : Nat} {ρ : Env} {σ : PH} {Γ : List HP} {K : KA} {all : Array Oper} {rest : List Oper} {d : Nat} {ty : TypeId} {pos : String} {af : Array Edge}
theorem XFOA.nil {all : Array Oper} (hk : K .normal ρ σ Γ) : XFOA P N all [] ρ σ Γ K := ⟨fun f h hh => XFO.nil ⟨σ, Γ, hk, hh⟩⟩
end
/-! a function that defers a closure -/
/-! the same over what is owned -/
section
variable {fn : Func} {ρ : Env} {σ : PH} {Γ : List HP} {RR : Ending → PH → List HP → Prop}
end
end
end X
end Go.Proofs.YthefnnkmpcgcmaaDoor

namespace Go.Proofs
open Go.Shelf
def Tryd.laysM173_ren : Go.Shelf.Ren := ⟨fun | 173 => 62 | 246 => 78 | 283 => 99 | 284 => 100 | 285 => 101 | 286 => 102 | 129 => 110 | 317 => 109 | 318 => 111 | 319 => 112 | 320 => 113 | 337 => 118 | 338 => 119 | n => n, fun | 2 => 2 | 3 => 3 | 9 => 9 | 4 => 4 | 171 => 135 | 0 => 0 | 53 => 136 | 37 => 61 | 5 => 5 | 173 => 139 | 212 => 148 | 51 => 149 | 20 => 20 | 213 => 150 | 46 => 46 | 232 => 161 | 233 => 162 | n => n, fun | 17 => 0 | 18 => 3 | 19 => 4 | n => n⟩
theorem Tryd.laysM173 : Go.Proofs.LaysM.n173 Tryd.prog Tryd.laysM173_ren := {
  mixed := by kernel_rfl
  f129 := Tryd.func110.trans (congrArg some (by kernel_rfl))
  f173 := Tryd.func62.trans (congrArg some (by kernel_rfl))
  f246 := Tryd.func78.trans (congrArg some (by kernel_rfl))
  f283 := Tryd.func99.trans (congrArg some (by kernel_rfl))
  f284 := Tryd.func100.trans (congrArg some (by kernel_rfl))
  f285 := Tryd.func101.trans (congrArg some (by kernel_rfl))
  f286 := Tryd.func102.trans (congrArg some (by kernel_rfl))
  f317 := Tryd.func109.trans (congrArg some (by kernel_rfl))
  f318 := Tryd.func111.trans (congrArg some (by kernel_rfl))
  f319 := Tryd.func112.trans (congrArg some (by kernel_rfl))
  f320 := Tryd.func113.trans (congrArg some (by kernel_rfl))
  f337 := Tryd.func118.trans (congrArg some (by kernel_rfl))
  f338 := Tryd.func119.trans (congrArg some (by kernel_rfl))
  t0 := Tryd.underlying0
  a0 := Tryd.isAgg0
  z0 := Tryd.sizeOf0
  v0 := Tryd.zeroValue0
  t2 := Tryd.underlying2
  a2 := Tryd.isAgg2
  z2 := Tryd.sizeOf2
  v2 := Tryd.zeroValue2
  t3 := Tryd.underlying3
  a3 := Tryd.isAgg3
  z3 := Tryd.sizeOf3
  v3 := Tryd.zeroValue3
  t4 := Tryd.underlying4
  a4 := Tryd.isAgg4
  z4 := Tryd.sizeOf4
  v4 := Tryd.zeroValue4
  t5 := Tryd.underlying5
  a5 := Tryd.isAgg5
  z5 := Tryd.sizeOf5
  v5 := Tryd.zeroValue5
  t9 := Tryd.underlying9
  a9 := Tryd.isAgg9
  z9 := Tryd.sizeOf9
  v9 := Tryd.zeroValue9
  t20 := Tryd.underlying20
  a20 := Tryd.isAgg20
  z20 := Tryd.sizeOf20
  v20 := Tryd.zeroValue20
  t37 := Tryd.underlying61
  a37 := Tryd.isAgg61
  z37 := Tryd.sizeOf61
  v37 := Tryd.zeroValue61
  t46 := Tryd.underlying46
  a46 := Tryd.isAgg46
  z46 := Tryd.sizeOf46
  v46 := Tryd.zeroValue46
  t51 := Tryd.underlying149
  a51 := Tryd.isAgg149
  z51 := Tryd.sizeOf149
  v51 := Tryd.zeroValue149
  t53 := Tryd.underlying136
  a53 := Tryd.isAgg136
  z53 := Tryd.sizeOf136
  v53 := Tryd.zeroValue136
  t171 := Tryd.underlying135
  a171 := Tryd.isAgg135
  z171 := Tryd.sizeOf135
  v171 := Tryd.zeroValue135
  t173 := Tryd.underlying139
  a173 := Tryd.isAgg139
  z173 := Tryd.sizeOf139
  v173 := Tryd.zeroValue139
  t212 := Tryd.underlying148
  a212 := Tryd.isAgg148
  z212 := Tryd.sizeOf148
  v212 := Tryd.zeroValue148
  t213 := Tryd.underlying150
  a213 := Tryd.isAgg150
  z213 := Tryd.sizeOf150
  t232 := Tryd.underlying161
  a232 := Tryd.isAgg161
  z232 := Tryd.sizeOf161
  v232 := Tryd.zeroValue161
  t233 := Tryd.underlying162
  a233 := Tryd.isAgg162
  z233 := Tryd.sizeOf162
  v233 := Tryd.zeroValue162
  g17 := by kernel_rfl
  g18 := by kernel_rfl
  g19 := by kernel_rfl
  i0 := by kernel_rfl
  i2 := by kernel_rfl
  i3 := by kernel_rfl
  i4 := by kernel_rfl
  i5 := by kernel_rfl
  i9 := by kernel_rfl
  i20 := by kernel_rfl
  i37 := by kernel_rfl
  i46 := by kernel_rfl
  i51 := by kernel_rfl
  i53 := by kernel_rfl
  i171 := by kernel_rfl
  i173 := by kernel_rfl
  i212 := by kernel_rfl
  i232 := by kernel_rfl
  i233 := by kernel_rfl
  m17 := by kernel_rfl
  m18 := by kernel_rfl
  m19 := by kernel_rfl }
open Go.RowKit Go.Sort Go.Lib in
theorem Tryd.strconv_FormatInt_10 (n : Int) (h0 : -9223372036854775808 ≤ n) (h1 : n ≤ 9223372036854775807) (w : World) (htab : Lib.TabIs Tryd.prog w "internal/strconv.uint64pow10" .u64 Lib.pow10Tab) :
    Calls Tryd.prog 62 #[.int .i64 n, .int .i64 10] w fun e w' => e = .returned (.string ⟨(Lib.itoa n).toArray⟩) ∧ ∃ k os, w' = grow (w.drewN k) os := Any.strconv_FormatInt_10 Tryd.laysM173 n h0 h1 w htab
def Tryd.laysC174_ren : Go.Shelf.Ren := ⟨fun | 174 => 61 | 247 => 81 | 245 => 82 | 287 => 103 | 279 => 104 | 280 => 105 | 281 => 106 | 282 => 107 | 321 => 114 | 322 => 115 | 316 => 116 | 171 => 27 | 205 => 117 | 243 => 50 | 246 => 78 | 283 => 99 | 284 => 100 | 285 => 101 | 286 => 102 | 129 => 110 | 317 => 109 | 318 => 111 | 319 => 112 | 320 => 113 | 337 => 118 | 338 => 119 | n => n, fun | 9 => 9 | 3 => 3 | 2 => 2 | 75 => 97 | 85 => 109 | 4 => 4 | 167 => 141 | 5 => 5 | 53 => 136 | 175 => 142 | 46 => 46 | 168 => 144 | 37 => 61 | 0 => 0 | 210 => 155 | 21 => 21 | 127 => 104 | 145 => 160 | 143 => 158 | 171 => 135 | 173 => 139 | 212 => 148 | 51 => 149 | 20 => 20 | 213 => 150 | 232 => 161 | 233 => 162 | 80 => 70 | n => n, fun | 15 => 1 | 16 => 2 | 17 => 0 | 18 => 3 | 19 => 4 | n => n⟩
theorem Tryd.laysC174 : Go.Proofs.LaysC.n174 Tryd.prog Tryd.laysC174_ren := {
  mixed := by kernel_rfl
  f129 := Tryd.func110.trans (congrArg some (by kernel_rfl))
  f171 := Tryd.func27.trans (congrArg some (by kernel_rfl))
  f174 := Tryd.func61.trans (congrArg some (by kernel_rfl))
  f205 := Tryd.func117.trans (congrArg some (by kernel_rfl))
  f243 := Tryd.func50.trans (congrArg some (by kernel_rfl))
  f245 := Tryd.func82.trans (congrArg some (by kernel_rfl))
  f246 := Tryd.func78.trans (congrArg some (by kernel_rfl))
  f247 := Tryd.func81.trans (congrArg some (by kernel_rfl))
  f279 := Tryd.func104.trans (congrArg some (by kernel_rfl))
  f280 := Tryd.func105.trans (congrArg some (by kernel_rfl))
  f281 := Tryd.func106.trans (congrArg some (by kernel_rfl))
  f282 := Tryd.func107.trans (congrArg some (by kernel_rfl))
  f283 := Tryd.func99.trans (congrArg some (by kernel_rfl))
  f284 := Tryd.func100.trans (congrArg some (by kernel_rfl))
  f285 := Tryd.func101.trans (congrArg some (by kernel_rfl))
  f286 := Tryd.func102.trans (congrArg some (by kernel_rfl))
  f287 := Tryd.func103.trans (congrArg some (by kernel_rfl))
  f316 := Tryd.func116.trans (congrArg some (by kernel_rfl))
  f317 := Tryd.func109.trans (congrArg some (by kernel_rfl))
  f318 := Tryd.func111.trans (congrArg some (by kernel_rfl))
  f319 := Tryd.func112.trans (congrArg some (by kernel_rfl))
  f320 := Tryd.func113.trans (congrArg some (by kernel_rfl))
  f321 := Tryd.func114.trans (congrArg some (by kernel_rfl))
  f322 := Tryd.func115.trans (congrArg some (by kernel_rfl))
  f337 := Tryd.func118.trans (congrArg some (by kernel_rfl))
  f338 := Tryd.func119.trans (congrArg some (by kernel_rfl))
  t0 := Tryd.underlying0
  a0 := Tryd.isAgg0
  z0 := Tryd.sizeOf0
  v0 := Tryd.zeroValue0
  t2 := Tryd.underlying2
  a2 := Tryd.isAgg2
  z2 := Tryd.sizeOf2
  v2 := Tryd.zeroValue2
  t3 := Tryd.underlying3
  a3 := Tryd.isAgg3
  z3 := Tryd.sizeOf3
  v3 := Tryd.zeroValue3
  t4 := Tryd.underlying4
  a4 := Tryd.isAgg4
  z4 := Tryd.sizeOf4
  v4 := Tryd.zeroValue4
  t5 := Tryd.underlying5
  a5 := Tryd.isAgg5
  z5 := Tryd.sizeOf5
  v5 := Tryd.zeroValue5
  t9 := Tryd.underlying9
  a9 := Tryd.isAgg9
  z9 := Tryd.sizeOf9
  v9 := Tryd.zeroValue9
  t20 := Tryd.underlying20
  a20 := Tryd.isAgg20
  z20 := Tryd.sizeOf20
  v20 := Tryd.zeroValue20
  t21 := Tryd.underlying21
  a21 := Tryd.isAgg21
  z21 := Tryd.sizeOf21
  v21 := Tryd.zeroValue21
  t37 := Tryd.underlying61
  a37 := Tryd.isAgg61
  z37 := Tryd.sizeOf61
  v37 := Tryd.zeroValue61
  t46 := Tryd.underlying46
  a46 := Tryd.isAgg46
  z46 := Tryd.sizeOf46
  v46 := Tryd.zeroValue46
  t51 := Tryd.underlying149
  a51 := Tryd.isAgg149
  z51 := Tryd.sizeOf149
  v51 := Tryd.zeroValue149
  t53 := Tryd.underlying136
  a53 := Tryd.isAgg136
  z53 := Tryd.sizeOf136
  v53 := Tryd.zeroValue136
  t75 := Tryd.underlying97
  a75 := Tryd.isAgg97
  z75 := Tryd.sizeOf97
  v75 := Tryd.zeroValue97
  t85 := Tryd.underlying109
  a85 := Tryd.isAgg109
  z85 := Tryd.sizeOf109
  v85 := Tryd.zeroValue109
  t127 := Tryd.underlying104
  a127 := Tryd.isAgg104
  z127 := Tryd.sizeOf104
  v127 := Tryd.zeroValue104
  t143 := Tryd.underlying158
  a143 := Tryd.isAgg158
  z143 := Tryd.sizeOf158
  v143 := Tryd.zeroValue158
  t145 := Tryd.underlying160
  a145 := Tryd.isAgg160
  z145 := Tryd.sizeOf160
  v145 := Tryd.zeroValue160
  t167 := Tryd.underlying141
  a167 := Tryd.isAgg141
  z167 := Tryd.sizeOf141
  v167 := Tryd.zeroValue141
  t168 := Tryd.underlying144
  a168 := Tryd.isAgg144
  z168 := Tryd.sizeOf144
  v168 := Tryd.zeroValue144
  t171 := Tryd.underlying135
  a171 := Tryd.isAgg135
  z171 := Tryd.sizeOf135
  v171 := Tryd.zeroValue135
  t173 := Tryd.underlying139
  a173 := Tryd.isAgg139
  z173 := Tryd.sizeOf139
  v173 := Tryd.zeroValue139
  t175 := Tryd.underlying142
  a175 := Tryd.isAgg142
  z175 := Tryd.sizeOf142
  v175 := Tryd.zeroValue142
  t210 := Tryd.underlying155
  a210 := Tryd.isAgg155
  z210 := Tryd.sizeOf155
  v210 := Tryd.zeroValue155
  t212 := Tryd.underlying148
  a212 := Tryd.isAgg148
  z212 := Tryd.sizeOf148
  v212 := Tryd.zeroValue148
  t213 := Tryd.underlying150
  a213 := Tryd.isAgg150
  z213 := Tryd.sizeOf150
  t232 := Tryd.underlying161
  a232 := Tryd.isAgg161
  z232 := Tryd.sizeOf161
  v232 := Tryd.zeroValue161
  t233 := Tryd.underlying162
  a233 := Tryd.isAgg162
  z233 := Tryd.sizeOf162
  v233 := Tryd.zeroValue162
  g15 := by kernel_rfl
  g16 := by kernel_rfl
  g17 := by kernel_rfl
  g18 := by kernel_rfl
  g19 := by kernel_rfl
  t80 := Tryd.underlying70
  a80 := Tryd.isAgg70
  z80 := Tryd.sizeOf70
  v80 := Tryd.zeroValue70
  i0 := by kernel_rfl
  i2 := by kernel_rfl
  i3 := by kernel_rfl
  i4 := by kernel_rfl
  i5 := by kernel_rfl
  i9 := by kernel_rfl
  i20 := by kernel_rfl
  i21 := by kernel_rfl
  i37 := by kernel_rfl
  i46 := by kernel_rfl
  i51 := by kernel_rfl
  i53 := by kernel_rfl
  i75 := by kernel_rfl
  i80 := by kernel_rfl
  i85 := by kernel_rfl
  i127 := by kernel_rfl
  i143 := by kernel_rfl
  i145 := by kernel_rfl
  i167 := by kernel_rfl
  i168 := by kernel_rfl
  i171 := by kernel_rfl
  i173 := by kernel_rfl
  i175 := by kernel_rfl
  i210 := by kernel_rfl
  i212 := by kernel_rfl
  i232 := by kernel_rfl
  i233 := by kernel_rfl
  m15 := by kernel_rfl
  m16 := by kernel_rfl
  m17 := by kernel_rfl
  m18 := by kernel_rfl
  m19 := by kernel_rfl
  c0 := by kernel_rfl
  c2 := by kernel_rfl
  c3 := by kernel_rfl
  c4 := by kernel_rfl
  c5 := by kernel_rfl
  c9 := by kernel_rfl
  c20 := by kernel_rfl
  c21 := by kernel_rfl
  c37 := by kernel_rfl
  c46 := by kernel_rfl
  c51 := by kernel_rfl
  c53 := by kernel_rfl
  c75 := by kernel_rfl
  c80 := by kernel_rfl
  c85 := by kernel_rfl
  c127 := by kernel_rfl
  c143 := by kernel_rfl
  c145 := by kernel_rfl
  c167 := by kernel_rfl
  c168 := by kernel_rfl
  c171 := by kernel_rfl
  c173 := by kernel_rfl
  c175 := by kernel_rfl
  c210 := by kernel_rfl
  c212 := by kernel_rfl
  c213 := by kernel_rfl
  c232 := by kernel_rfl
  c233 := by kernel_rfl }
open Go.RowKit in
theorem Tryd.strconv_ParseInt_10_at64_ok (s : ByteArray) (hmax : s.size ≤ 9223372036854775806) (v : Int) (h : Lib.parseIntB 64 s.data.toList = .ok v) (w : World) :
    Calls Tryd.prog 61 #[.string s, .int .i64 10, .int .i64 64] w fun e w' => e = .returned (.tuple #[.int .i64 v, .nilIface]) ∧ (w' = w ∨ ∃ t, w' = Lib.bytesWorld w 5 t) := Any.strconv_ParseInt_10_at64_ok Tryd.laysC174 s hmax v h w
open Go.RowKit in
theorem Tryd.strconv_ParseInt_10_at64_syntax (s : ByteArray) (hlim : s.size ≤ 281474976710656) (h : Lib.parseIntB 64 s.data.toList = Lib.NumEnd.syntax) (ev : Value) (w : World) (hv : w.cell? ⟨1, 0, none⟩ = some ev) (hev : ev = .nilIface ∨ ∃ te pe, ev = .iface te pe) :
    Calls Tryd.prog 61 #[.string s, .int .i64 10, .int .i64 64] w fun e w' => ∃ N, e = .returned (.tuple #[.int .i64 (0), .iface 144 (.pointer (some ⟨N, 0, none⟩))]) ∧ w.heap.size ≤ N ∧ w'.heap[N]? = some (.cells #[.string ⟨#[80, 97, 114, 115, 101, 73, 110, 116]⟩, .string s, ev] 155 (0, 0)) ∧ Below w.heap.size w w' := Any.strconv_ParseInt_10_at64_syntax Tryd.laysC174 s hlim h ev w hv hev
open Go.RowKit in
theorem Tryd.strconv_ParseInt_10_at64_range (s : ByteArray) (hlim : s.size ≤ 281474976710656) (h : Lib.parseIntB 64 s.data.toList = .range) (ev : Value) (w : World) (hv : w.cell? ⟨2, 0, none⟩ = some ev) (hev : ev = .nilIface ∨ ∃ te pe, ev = .iface te pe) :
    Calls Tryd.prog 61 #[.string s, .int .i64 10, .int .i64 64] w fun e w' => ∃ N, e = .returned (.tuple #[.int .i64 (Lib.intSat 64 s.data.toList), .iface 144 (.pointer (some ⟨N, 0, none⟩))]) ∧ w.heap.size ≤ N ∧ w'.heap[N]? = some (.cells #[.string ⟨#[80, 97, 114, 115, 101, 73, 110, 116]⟩, .string s, ev] 155 (0, 0)) ∧ Below w.heap.size w w' := Any.strconv_ParseInt_10_at64_range Tryd.laysC174 s hlim h ev w hv hev
end Go.Proofs

namespace Go.Proofs.YthefnnkmpcgcmaaDoor
open Go X
set_option maxHeartbeats 1000000
section
variable {P : Program} {σ f : PH} {Γ : List HP} {h h' : Heap}
/-- New blocks change nothing of what is known. -/
theorem X.Holds.grown (x : Holds σ Γ f h) (hb : ∀ k, k < h.size → h'[k]? = h[k]?) : Holds σ Γ f h' := by
  obtain ⟨m, a, b, c, d, e⟩ := x
  have hl : ∀ {n : PH}, n.le h → n.le h' := fun hn k o e => by rw [hb k (hn.lt e)]; exact hn k o e
  exact ⟨m, a, hl b, hl c, hl d, e⟩
theorem X.CallsA.below {fid : FuncId} {vs : Array Value} {R : Value → Prop} (he : Enters P fid) (hc : ∀ w : World, σ.le w.heap → Calls P fid vs w (fun e w' => ∃ v, e = .returned v ∧ R v ∧ RowKit.Below w.heap.size w w')) : CallsA P fid vs σ [] (RetA fun v σ' Γ' => R v ∧ σ = σ' ∧ Γ' = []) := by
  refine ⟨he, fun fr h hh => ⟨he, fun w hw => ?_⟩⟩
  subst hw
  refine (hc w hh.per).mono ?_
  rintro e w' ⟨v, rfl, hr, hb⟩
  exact ⟨⟨hb.os, hb.tape, hb.output⟩, σ, [], ⟨hr, rfl, rfl⟩, hh.grown hb.block⟩
end
theorem X.ResA.tcT {P : Program} {ρ : Env} {σ : PH} {Γ : List HP} {fn : Func} {t1 t3 : Tmp} {T1 : TypeId} {g1 o1 : Nat} {v1 v3 : Value} (hf : fn.results = #[.tmp t3, .cell t1 T1]) (h1 : ρ t1 = .pointer (some ⟨g1, o1, Option.none⟩)) (h3 : ρ t3 = v3)
    (l1 : ∀ h, Ho σ Γ h → Ld P h T1 g1 o1 v1) : ResA P fn ρ σ Γ (.tuple #[v3, v1]) := fun h hh w a hw he => by
  have e1 := he.get t1; rw [h1] at e1; simp at e1
  have e3 := he.get t3; rw [h3] at e3; simp at e3
  simp [results, hf, e1, e3, asAddr, l1 h hh w hw]
theorem X.ResA.cellT {P : Program} {ρ : Env} {σ : PH} {Γ : List HP} {fn : Func} {t1 : Tmp} {T1 : TypeId} {g1 o1 : Nat} {v1 : Value} (hf : fn.results = #[.cell t1 T1]) (h1 : ρ t1 = .pointer (some ⟨g1, o1, Option.none⟩)) (l1 : ∀ h, Ho σ Γ h → Ld P h T1 g1 o1 v1) : ResA P fn ρ σ Γ v1 := ResA.cell hf h1 l1
/-- The numbers' table stands. -/
def Tab (σ : PH) : Prop := ∀ w : World, σ.le w.heap → Lib.TabIs Tryd.prog w "internal/strconv.uint64pow10" .u64 Lib.pow10Tab
/-- The two errors stand. -/
def Errs (σ : PH) : Prop := ∃ e1 e2, PRow σ 1 0 [e1] ∧ (e1 = .nilIface ∨ ∃ te pe, e1 = .iface te pe) ∧ PRow σ 2 0 [e2] ∧ (e2 = .nilIface ∨ ∃ te pe, e2 = .iface te pe)
theorem Tab.mono {σ σ' : PH} (h : Tab σ) (s : σ.sub σ') : Tab σ' := fun w hw => h w (s.le hw)
theorem Errs.mono {σ σ' : PH} (h : Errs σ) (s : σ.sub σ') : Errs σ' := by
  obtain ⟨e1, e2, h1, h2, h3, h4⟩ := h
  exact ⟨e1, e2, h1.mono s, h2, h3.mono s, h4⟩
def itoaS (n : Int) : ByteArray := ⟨(Lib.itoa n).toArray⟩
theorem grow_below (w : World) (q : Nat) (os : Array Obj) : RowKit.Below w.heap.size w (Sort.grow (w.drewN q) os) :=
  ⟨rfl, rfl, rfl, by first | (simp [Sort.grow]; done) | (simp [Sort.grow]; omega), fun i hi => by
    show ((w.drewN q).heap ++ os)[i]? = _
    rw [Array.getElem?_append_left (by show i < w.heap.size; omega)]
    rfl⟩
theorem itoa_a (σ : PH) (n : Int) (h0 : -9223372036854775808 ≤ n) (h1 : n ≤ 9223372036854775807) (hT : Tab σ) :
    CallsA Tryd.prog 62 #[i64 n, i64 10] σ [] (RetA fun v σ' Γ' => v = .string (itoaS n) ∧ σ = σ' ∧ Γ' = []) := by
  refine CallsA.below (enters Tryd.func62 rfl rfl) fun w hw => ?_
  refine (Tryd.strconv_FormatInt_10 n h0 h1 w (hT w hw)).mono ?_
  rintro e w' ⟨rfl, k, os, rfl⟩
  exact ⟨_, rfl, rfl, grow_below w k os⟩
section
variable {P : Program} {ρ : Env} {S : Heap → Prop} {ty : TypeId}
theorem X.Rd.catStr {T T' : TypeId} {x y : Operand} {a b : ByteArray} (hx : ev ρ x = .string a) (hy : ev ρ y = .string b) (h : a.size + b.size ≤ 9223372036854775807) : Rd P ρ S (.binOp .add T x y T') ty (.string (a ++ b)) := by
  refine .pure fun d pos af gd w => ?_
  simp only [execOp, hx, hy, binOp, Sem.run_bind]
  have := run_string_add_sum (P := P) w a b h
  simp [eqGuard, this]
end
end Go.Proofs.YthefnnkmpcgcmaaDoor

