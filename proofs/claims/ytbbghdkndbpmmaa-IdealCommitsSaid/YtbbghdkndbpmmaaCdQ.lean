/- A program's variables; Check, Cell and Cells. -/
import Derived.Test.YtbbghdkndbpmmaaCdP
namespace Go.Proofs.Ytbbghdkndbpmmaa
open Go X
set_option maxHeartbeats 1000000
theorem X.PSl.take {α : Type} {s n c k : Nat} {R : RT α} {σ : PH} {p : Option Addr} {xs : List α} (h : PSl s R σ (.slice p n c) xs) (hk : k ≤ n) : PSl s R σ (.slice p k c) (xs.take k) := by
  obtain ⟨p', c', rows, h1, h2, h3, h4, h5, h6, h7⟩ := h
  simp only [Value.slice.injEq] at h1
  obtain ⟨rfl, rfl, rfl⟩ := h1
  have hl : (xs.take k).length = k := by rw [List.length_take]; exact Nat.min_eq_left hk
  refine ⟨p, c, rows.take k, by rw [hl], by omega, h3, by rw [hl, List.length_take]; omega, fun r hr => h5 r (List.mem_of_mem_take hr), fun i row x a b => ?_, fun hp => ?_⟩
  · rw [List.getElem?_take] at a b
    split at a
    · rename_i hi
      rw [if_pos hi] at b
      exact h6 i row x a b
    · cases a
  · obtain ⟨g, o, e, hr⟩ := h7 (by omega)
    refine ⟨g, o, e, ?_⟩
    have := hr.sub (j := 0) (us := (rows.take k).flatten) (by
      have e : rows.flatten = (rows.take k).flatten ++ (rows.drop k).flatten := by rw [← List.flatten_append, List.take_append_drop]
      rw [List.drop_zero, e]
      exact List.take_left)
    simpa using this
theorem drop_get {α : Type} {l : List α} {k : Nat} {x : α} (h : l[k]? = some x) : l.drop k = x :: l.drop (k + 1) := by
  obtain ⟨h1, h2⟩ := List.getElem?_eq_some_iff.1 h
  rw [List.drop_eq_getElem_cons h1, h2]
theorem vars_a (σ : PH) (sl : Value) (l : List Va) (hl : PSl 2 rVa σ sl l) : CallsA Try.prog 42 #[sl] σ [] (RetA fun v σ' Γ' => v = i64 (checkVars l) ∧ σ = σ' ∧ Γ' = []) := by
  obtain ⟨pl, cl, rfl, hle, hmx⟩ := hl.shape
  have hlen : l.length ≤ maxLen := by omega
  simp only [maxLen] at hlen
  refine enterA1 Try.func42 rfl rfl rfl ?_
  refine zS ?_; refine zR ?_; refine zO rfl Rd.asg ?_; refine zN ?_; refine zT ?_; refine zS ?_; refine zS ?_; refine zR ?_; refine zO rfl Rd.mv ?_; refine zO rfl (Rd.lenSlice (tyrow rfl) rfl rfl) ?_
  refine zO rfl (Rd.gtr rfl rfl) ?_
  refine zN ?_; refine zT ?_
  refine XA.condp rfl (fun h8 => ?_) (fun h8 => ?_)
  · refine zS ?_
    refine zR ?_; refine zO rfl Rd.asg ?_; refine zN ?_; refine zT ?_
    refine XA.ret ?_
    refine DA.thn_ret ?_
    have hr : checkVars l = 3 := by rw [checkVars, if_pos (by omega)]
    exact bodyA.ret (ResA.one rfl rfl) zE ⟨by rw [hr], rfl, rfl⟩
  have hcv : checkVars l = varsGo [] 0 l := by rw [checkVars, if_neg (by omega)]
  rw [hcv]
  refine XA.skip ?_
  refine zT ?_; refine zS ?_; refine zR ?_; refine zO rfl Rd.asg ?_; refine zN ?_; refine zT ?_; refine zS ?_; refine zS ?_; refine zR ?_; refine zO rfl Rd.mv ?_; refine zO rfl (Rd.lenSlice (tyrow rfl) rfl rfl) ?_; refine zO rfl Rd.mv ?_; refine zN ?_; refine zT ?_
  refine XA.block ?_
  refine XA.gen [(0, _), (2, _), (3, _), (9, _), (10, _), (11, _)] ⟨(by with_reducible (conv => lhs; whnf)), (by with_reducible (conv => lhs; whnf)), (by with_reducible (conv => lhs; whnf)), (by with_reducible (conv => lhs; whnf)), (by with_reducible (conv => lhs; whnf)), (by with_reducible (conv => lhs; whnf)), trivial⟩ (fun δ => ?_)
  dsimp only [List.foldl]
  refine XA.loop [(2, 5), (11, 42)] (fun q : Nat × Int => [(11, i64 q.1), (3, i64 q.2)]) (fun q σ' Γ' => σ = σ' ∧ q.1 ≤ l.length ∧ (0 ≤ q.2 ∧ q.2 ≤ 48 ∧ varsGo (l.take q.1) q.2 (l.drop q.1) = varsGo [] 0 l) ∧ Γ' = []) (fun q => l.length - q.1) (0, 0) (by exact ⟨rfl, rfl, trivial⟩) (Δ0 := _) ?_ (⟨rfl, Nat.zero_le _, ⟨Int.le_refl _, (by decide), rfl⟩, rfl⟩) ?_
  · exact zE
  rintro ⟨k, n⟩ δ _ _ ⟨rfl, hk, ⟨hn0, hn1, hgo⟩, rfl⟩
  dsimp only [ovr, List.foldl]
  have hk : k ≤ l.length := hk
  have hn0 : 0 ≤ n := hn0
  have hn1 : n ≤ 48 := hn1
  have hgo : varsGo (l.take k) n (l.drop k) = varsGo [] 0 l := hgo
  refine zS ?_; refine zR ?_; refine zO rfl (Rd.lss rfl rfl) ?_; refine zN ?_; refine zT ?_; refine zS ?_
  refine XA.condp rfl (fun hlt => ?_) (fun hlt => ?_)
  · have hlt : k < l.length := by omega
    obtain ⟨x, hx⟩ : ∃ x, l[k]? = some x := ⟨_, List.getElem?_eq_getElem hlt⟩
    obtain ⟨gg, o, row, rfl, ⟨rfl, ⟨hz0, hz1⟩, hnm⟩, hrl, hrow⟩ := hl.at hx
    have hpre := hl.take (k := k) hk
    rw [drop_get hx, varsGo] at hgo
    refine XA.skip ?_
    refine zT ?_; refine zS ?_
    refine XA.block ?_
    refine zS ?_; refine zR ?_; refine zO rfl Rd.mv ?_
    refine zO rfl (Rd.ixS rfl rfl) ?_
    refine zO rfl (Rd.ldA rfl) ?_
    refine XOA.wr0 rfl (WrA.alloc (tyrow rfl)) ?_
    rintro _ _ _ ⟨g5, rfl, rfl, rfl⟩
    refine zO rfl Rd.asg ?_
    refine XOA.wr0 rfl (WrA.st (tyrow rfl) rfl) ?_
    rintro _ _ _ ⟨rfl, rfl, rfl⟩
    refine zN ?_; refine zT ?_; refine zS ?_
    refine XA.block ?_
    refine zS ?_; refine zR ?_; refine zO rfl (Rd.fA rfl) ?_; refine zO rfl (Rd.ldC rfl (tyrow rfl) rfl) ?_
    refine XOA.wr0 rfl (WrA.cE (name_a σ x.name hnm) rfl) ?_
    rintro _ _ _ ⟨_, ⟨rfl, rfl, rfl⟩, rfl⟩
    refine XOA.cl ?_
    cases hnk : nameOk x.name with
    | false =>
      rw [if_pos hnk] at hgo
      refine zO rfl (by first | exact Rd.notp rfl | exact Rd.not rfl) ?_
      refine zO rfl Rd.asg ?_; refine zN ?_; refine zT ?_
      refine XA.condT rfl rfl ?_
      refine zS ?_; refine zR ?_; refine zO rfl Rd.asg ?_; refine zN ?_; refine zT ?_
      refine XA.ret ?_
      refine DA.inb_ret ?_
      refine DA.thn_ret ?_
      refine DA.inb_ret ?_
      refine DA.thn_ret ?_
      refine DA.thn_ret ?_
      refine DA.inb_ret ?_
      refine DA.thn_ret ?_
      exact bodyA.ret (ResA.one rfl rfl) zE ⟨by rw [← hgo], rfl, rfl⟩
    | true =>
      rw [if_neg (by simp [hnk])] at hgo
      refine zO rfl (by first | exact Rd.notp rfl | exact Rd.not rfl) ?_
      refine zO rfl Rd.asg ?_; refine zN ?_; refine zT ?_
      refine XA.condF rfl rfl ?_
      refine zS ?_; refine zR ?_; refine zO rfl Rd.mv ?_; refine zO rfl Rd.mv ?_
      refine zO rfl (Rd.sliceToN (tyrow rfl) rfl (tyrow rfl) rfl rfl (by omega)) ?_
      refine zO rfl (Rd.makeFunc1 (by with_reducible (conv => lhs; whnf))) ?_
      refine XOA.wr0 rfl (WrA.cE (containsVar_a σ g5 x _ _ hpre) rfl) ?_
      rintro _ _ _ ⟨_, ⟨rfl, rfl, rfl⟩, rfl⟩
      refine XOA.cl ?_
      refine zO rfl Rd.asg ?_; refine zN ?_; refine zT ?_
      refine XA.condp rfl (fun htw => ?_) (fun htw => ?_)
      · rw [if_pos htw] at hgo
        refine zS ?_; refine zR ?_; refine zO rfl Rd.asg ?_; refine zN ?_; refine zT ?_
        refine XA.ret ?_
        refine DA.inb_ret ?_
        refine DA.thn_ret ?_
        refine DA.inb_ret ?_
        refine DA.thn_ret ?_
        refine DA.thn_ret ?_
        refine DA.inb_ret ?_
        refine DA.thn_ret ?_
        exact bodyA.ret (ResA.one rfl rfl) zE ⟨by rw [← hgo], rfl, rfl⟩
      rw [if_neg htw] at hgo
      by_cases hz : x.size < 1
      · rw [if_pos (.inl hz)] at hgo
        refine zS ?_; refine zR ?_; refine zO rfl (Rd.fA rfl) ?_; refine zO rfl (Rd.ldC rfl (tyrow rfl) rfl) ?_; refine zO rfl (Rd.lss rfl rfl) ?_; refine zO rfl Rd.mv ?_
        first | ((first | refine zW ?_ | refine zQ ?_); refine zO rfl (Rd.fA rfl) ?_) | refine zU ?_ | refine zV ?_ | refine zZ ?_
        first | ((first | refine zW ?_ | refine zQ ?_); refine zO rfl (Rd.ldC rfl (tyrow rfl) rfl) ?_) | refine zU ?_ | refine zV ?_ | refine zZ ?_
        first | ((first | refine zW ?_ | refine zQ ?_); refine zO rfl Rd.mv ?_) | refine zU ?_ | refine zV ?_ | refine zZ ?_
        first | ((first | refine zW ?_ | refine zQ ?_); refine zO rfl (by first | exact Rd.sbi rfl rfl | exact Rd.sub rfl rfl) ?_) | refine zU ?_ | refine zV ?_ | refine zZ ?_
        first | ((first | refine zW ?_ | refine zQ ?_); refine zO rfl (Rd.gtr rfl rfl) ?_) | refine zU ?_ | refine zV ?_ | refine zZ ?_
        refine zO rfl (by first | exact Rd.pT rfl | exact Rd.pF rfl | exact Rd.pP rfl) ?_
        refine zO rfl Rd.asg ?_; refine zN ?_; refine zT ?_
        refine XA.condT rfl rfl ?_
        refine zS ?_; refine zR ?_; refine zO rfl Rd.asg ?_; refine zN ?_; refine zT ?_
        refine XA.ret ?_
        refine DA.inb_ret ?_
        refine DA.thn_ret ?_
        refine DA.inb_ret ?_
        refine DA.thn_ret ?_
        refine DA.thn_ret ?_
        refine DA.inb_ret ?_
        refine DA.thn_ret ?_
        exact bodyA.ret (ResA.one rfl rfl) zE ⟨by rw [← hgo], rfl, rfl⟩
      · 
        refine zS ?_; refine zR ?_; refine zO rfl (Rd.fA rfl) ?_; refine zO rfl (Rd.ldC rfl (tyrow rfl) rfl) ?_; refine zO rfl (Rd.lss rfl rfl) ?_; refine zO rfl Rd.mv ?_
        first | ((first | refine zW ?_ | refine zQ ?_); refine zO rfl (Rd.fA rfl) ?_) | refine zU ?_ | refine zV ?_ | refine zZ ?_
        first | ((first | refine zW ?_ | refine zQ ?_); refine zO rfl (Rd.ldC rfl (tyrow rfl) rfl) ?_) | refine zU ?_ | refine zV ?_ | refine zZ ?_
        first | ((first | refine zW ?_ | refine zQ ?_); refine zO rfl Rd.mv ?_) | refine zU ?_ | refine zV ?_ | refine zZ ?_
        first | ((first | refine zW ?_ | refine zQ ?_); refine zO rfl (by first | exact Rd.sbi rfl rfl | exact Rd.sub rfl rfl) ?_) | refine zU ?_ | refine zV ?_ | refine zZ ?_
        first | ((first | refine zW ?_ | refine zQ ?_); refine zO rfl (Rd.gtr rfl rfl) ?_) | refine zU ?_ | refine zV ?_ | refine zZ ?_
        refine zO rfl (by first | exact Rd.pT rfl | exact Rd.pF rfl | exact Rd.pP rfl) ?_
        refine zO rfl Rd.asg ?_; refine zN ?_; refine zT ?_
        refine XA.condp rfl (fun hz2 => ?_) (fun hz2 => ?_)
        · rw [if_pos (.inr hz2)] at hgo
          refine zS ?_; refine zR ?_; refine zO rfl Rd.asg ?_; refine zN ?_; refine zT ?_
          refine XA.ret ?_
          refine DA.inb_ret ?_
          refine DA.thn_ret ?_
          refine DA.inb_ret ?_
          refine DA.thn_ret ?_
          refine DA.thn_ret ?_
          refine DA.inb_ret ?_
          refine DA.thn_ret ?_
          exact bodyA.ret (ResA.one rfl rfl) zE ⟨by rw [← hgo], rfl, rfl⟩
        rw [if_neg (by omega)] at hgo
        refine XA.skip ?_
        refine DA.inb_normal ?_
        refine zT ?_; refine zR ?_; refine zO rfl Rd.mv ?_; refine zO rfl (Rd.fA rfl) ?_; refine zO rfl (Rd.ldC rfl (tyrow rfl) rfl) ?_
        refine zO rfl (by first | exact Rd.adi rfl rfl | exact Rd.add rfl rfl) ?_
        refine zO rfl Rd.asg ?_; refine zN ?_
        refine DA.inb_normal ?_
        refine zT ?_; refine zR ?_
        refine zO rfl (by first | exact Rd.adi rfl rfl | exact Rd.add rfl rfl) ?_
        refine zO rfl Rd.mv ?_; refine zN ?_; refine zT ?_
        refine ⟨(Keep.upd (Keep.upd (Keep.upd (Keep.upd (Keep.upd (Keep.upd (Keep.upd (Keep.upd (Keep.upd (Keep.upd (Keep.upd (Keep.upd (Keep.upd (Keep.upd (Keep.upd (Keep.upd (Keep.upd (Keep.upd (Keep.upd (Keep.updO (Keep.upd (Keep.upd (Keep.upd (Keep.upd (Keep.upd (Keep.upd (Keep.updO (Keep.upd (Keep.upd (Keep.updN (Keep.upd (Keep.updO (Keep.upd (Keep.upd (Keep.upd (Keep.upd (Keep.upd (Keep.upd (Keep.hav (Keep.hav (Keep.refl _ _) rfl) rfl) rfl) rfl) rfl) rfl) rfl) rfl) rfl) rfl)) rfl) rfl) rfl) rfl) rfl) rfl) rfl) rfl) rfl) rfl) rfl) rfl) rfl) rfl) rfl) rfl) rfl) rfl) rfl) rfl) rfl) rfl) rfl) rfl) rfl) rfl) rfl) rfl) rfl), (k + 1, n + x.size), _, (by (repeat (first | exact trivial | refine ⟨rfl, ?_⟩ | refine ⟨Eq.trans rfl (congrArg Value.bool hmat.symm), ?_⟩)); (first | done | fail)), ?_, ⟨rfl, hlt, ⟨by simp only; omega, by simp only; omega, by rw [takeS hx]; exact hgo⟩, rfl⟩, (by simp only; omega)⟩
        · exact zE
  have hkn : k = l.length := by omega
  subst hkn
  rw [List.drop_length, varsGo] at hgo
  refine XA.exit ?_
  refine DA.thn_exit ?_
  refine DA.thn_exit ?_
  refine DA.inb_same ?_
  refine zT ?_; refine zS ?_; refine zR ?_; refine zO rfl Rd.asg ?_; refine zN ?_; refine zT ?_
  refine XA.ret ?_
  exact bodyA.ret (ResA.one rfl rfl) zE ⟨by rw [← hgo], rfl, rfl⟩
theorem check_a (σ : PH) (cs : List Value) (p : Pr) (hp : PrAt σ cs p) : CallsA Try.prog 18 #[.agg cs.toArray] σ [] (RetA fun v σ' Γ' => v = i64 (checkP p) ∧ σ = σ' ∧ Γ' = []) := by
  obtain ⟨vs, bs, rfl, hv, hb⟩ := hp
  obtain ⟨pv, cv, rfl, hvl, hvm⟩ := hv.shape
  refine enterA1 Try.func18 rfl rfl rfl ?_
  refine zS ?_; refine zR ?_
  refine XOA.wr0 rfl WrA.bx ?_
  rintro _ _ _ ⟨g1, rfl, rfl, rfl⟩
  refine zO rfl Rd.asg ?_; refine zN ?_; refine zT ?_; refine zS ?_; refine zS ?_; refine zR ?_; refine zO rfl (Rd.fA rfl) ?_; refine zO rfl (Rd.ldC rfl (tyrow rfl) rfl) ?_
  refine XOA.wr0 rfl (WrA.cE (vars_a σ _ _ hv) rfl) ?_
  rintro _ _ _ ⟨_, ⟨rfl, rfl, rfl⟩, rfl⟩
  refine XOA.cl ?_
  refine zO rfl Rd.asg ?_; refine zN ?_; refine zT ?_; refine zS ?_; refine zR ?_; refine zO rfl Rd.mv ?_
  refine zO rfl (Rd.neq rfl rfl) ?_
  refine zN ?_; refine zT ?_
  refine XA.condp rfl (fun hc => ?_) (fun hc => ?_)
  · refine zS ?_
    refine zR ?_; refine zO rfl Rd.mv ?_; refine zO rfl Rd.asg ?_; refine zN ?_; refine zT ?_
    refine XA.ret ?_
    refine DA.thn_ret ?_
    exact bodyA.ret (ResA.one rfl rfl) zE ⟨by rw [checkP, if_pos hc], rfl, rfl⟩
  refine XA.skip ?_
  refine zT ?_; refine zS ?_; refine zR ?_; refine zO rfl (Rd.fA rfl) ?_; refine zO rfl (Rd.ldC rfl (tyrow rfl) rfl) ?_
  refine zO rfl (Rd.bl (fun _ _ => tyrow) rfl rfl rfl) ?_
  refine XOA.wr0 rfl WrA.bx ?_
  rintro _ _ _ ⟨g14, rfl, rfl, rfl⟩
  refine zO rfl Rd.asg ?_; refine zN ?_; refine zT ?_; refine zS ?_; refine zR ?_; refine zO rfl Rd.mv ?_; refine zO rfl (Rd.fA rfl) ?_; refine zO rfl (Rd.ldC rfl (tyrow rfl) rfl) ?_
  refine XOA.ent (Ent.foldC (Θ := [_]) (by (repeat (first | exact Ent.all _ | (apply Ent.take; focus (first | ((repeat (first | with_reducible exact Sel.head | apply Sel.tail)); done) | ((repeat (first | exact Sel.head | apply Sel.tail)); done))) | apply Ent.takeNil | apply Ent.takeEmp)); (first | done | fail)) (Judge.mkO (l := 150)) (Ent.refl _)) ?_
  refine XOA.wr0 rfl (WrA.cE (list_a σ p.body (fun x _ => stmt_a σ x) bs g14 pv p.vars.length cv (.ok 150) 0 hb (fun l hl => by simp only [Except.ok.injEq] at hl; omega) (by decide) (by decide)) rfl) ?_
  rintro _ _ _ ⟨_, ⟨rfl, rfl, rfl⟩, rfl⟩
  refine XOA.cl ?_
  have hcp : checkP p = (stsE p.vars.length 0 p.body (.ok 150)).code := by rw [checkP, if_neg hc]
  rw [hcp]
  refine zN ?_; refine zT ?_; refine zS ?_; refine zR ?_; refine zO rfl Rd.mv ?_
  cases hst : stsE p.vars.length 0 p.body (.ok 150) with
  | ok a =>
    first | refine XA.opn (R := Judge g14 _ (.ok a)) (by ((repeat (first | with_reducible exact Sel.head | apply Sel.tail)); (first | done | fail))) (Judge.okO) ?_ | refine XOA.opn (R := Judge g14 _ (.ok a)) (by ((repeat (first | with_reducible exact Sel.head | apply Sel.tail)); (first | done | fail))) (Judge.okO) ?_ | refine DA.opn (R := Judge g14 _ (.ok a)) (by ((repeat (first | with_reducible exact Sel.head | apply Sel.tail)); (first | done | fail))) (Judge.okO) ?_
    rintro ⟨⟩ -
    first | refine XA.cl ?_ | refine XOA.cl ?_ | refine DA.cl ?_
    refine zO rfl (Rd.nilCheck rfl) ?_; refine zO rfl (Rd.fA rfl) ?_; refine zO rfl (Rd.ldC rfl (tyrow rfl) rfl) ?_; refine zO rfl Rd.asg ?_; refine zN ?_; refine zT ?_
    refine XA.ret ?_
    exact bodyA.ret (ResA.one rfl rfl) (Ent.nil _) ⟨rfl, rfl, rfl⟩
  | error c =>
    first | refine XA.opn (R := Judge g14 _ (.error c)) (by ((repeat (first | with_reducible exact Sel.head | apply Sel.tail)); (first | done | fail))) (Judge.errO) ?_ | refine XOA.opn (R := Judge g14 _ (.error c)) (by ((repeat (first | with_reducible exact Sel.head | apply Sel.tail)); (first | done | fail))) (Judge.errO) ?_ | refine DA.opn (R := Judge g14 _ (.error c)) (by ((repeat (first | with_reducible exact Sel.head | apply Sel.tail)); (first | done | fail))) (Judge.errO) ?_
    rintro l h0
    first | refine XA.cl ?_ | refine XOA.cl ?_ | refine DA.cl ?_
    refine zO rfl (Rd.nilCheck rfl) ?_; refine zO rfl (Rd.fA rfl) ?_; refine zO rfl (Rd.ldC rfl (tyrow rfl) rfl) ?_; refine zO rfl Rd.asg ?_; refine zN ?_; refine zT ?_
    refine XA.ret ?_
    exact bodyA.ret (ResA.one rfl rfl) (Ent.nil _) ⟨rfl, rfl, rfl⟩
theorem sizes_bound : ∀ (l : List Va), (∀ x ∈ l, 0 ≤ x.size ∧ x.size ≤ 1000) → 0 ≤ sizes l ∧ sizes l ≤ 1000 * l.length
  | [], _ => by simp [sizes]
  | x :: l, h => by
    have h1 := sizes_bound l (fun y hy => h y (by simp [hy]))
    have h2 := h x (by simp)
    rw [sizes_cons, List.length_cons]; omega
theorem cell_a (σ : PH) (cs : List Value) (p : Pr) (v : Int) (hp : PrAt σ cs p) (hz : ∀ x ∈ p.vars, 0 ≤ x.size ∧ x.size ≤ 1000) (hl : p.vars.length ≤ 1000) :
    CallsA Try.prog 26 #[.agg cs.toArray, i64 v] σ [] (RetA fun r σ' Γ' => r = i64 (cellOf p.vars v) ∧ σ = σ' ∧ Γ' = []) := by
  obtain ⟨vs, bs, rfl, hv, hb⟩ := hp
  obtain ⟨pv, cv, rfl, hvl, hvm⟩ := hv.shape
  obtain ⟨m, hm⟩ : ∃ m, m = min v.toNat p.vars.length := ⟨_, rfl⟩
  have hmin : (if (p.vars.length : Int) < (if (0 : Int) > v then 0 else v) then (p.vars.length : Int) else (if (0 : Int) > v then 0 else v)) = (m : Int) := by
    subst hm; split <;> split at * <;> omega
  have hcell : cellOf p.vars v = sizes (p.vars.take m) := by
    rw [cellOf, hm, ← List.take_eq_take_min]
  rw [hcell]
  have hml : m ≤ p.vars.length := by omega
  refine enterA2 Try.func26 rfl rfl rfl ?_
  refine zS ?_; refine zR ?_
  refine XOA.wr0 rfl WrA.bx ?_
  rintro _ _ _ ⟨g2, rfl, rfl, rfl⟩
  refine zO rfl Rd.asg ?_; refine zN ?_; refine zT ?_; refine zS ?_; refine zR ?_; refine zO rfl Rd.asg ?_; refine zN ?_; refine zT ?_; refine zS ?_; refine zS ?_; refine zR ?_; refine zO rfl Rd.mv ?_
  refine zO rfl (Rd.max2 rfl rfl) ?_
  refine zO rfl (Rd.fA rfl) ?_; refine zO rfl (Rd.ldC rfl (tyrow rfl) rfl) ?_; refine zO rfl (Rd.lenSlice (tyrow rfl) rfl rfl) ?_
  refine zO rfl (Rd.min2 rfl rfl) ?_
  refine zO rfl Rd.mv ?_; refine zN ?_; refine zT ?_
  refine XA.block ?_
  rw [hmin]
  refine XA.gen [(2, _), (4, _), (5, _), (12, _), (13, _)] ⟨(by with_reducible (conv => lhs; whnf)), (by with_reducible (conv => lhs; whnf)), (by with_reducible (conv => lhs; whnf)), (by with_reducible (conv => lhs; whnf)), (by with_reducible (conv => lhs; whnf)), trivial⟩ (fun δ => ?_)
  dsimp only [List.foldl]
  refine XA.loop [(5, 6), (13, 24)] (fun q : Nat × Int => [(13, i64 q.1), (5, i64 q.2)]) (fun q σ' Γ' => σ = σ' ∧ q.1 ≤ m ∧ q.2 = sizes (p.vars.take q.1) ∧ Γ' = [blk g2 [.slice pv p.vars.length cv, bs] 25]) (fun q => m - q.1) (0, 0) (by exact ⟨rfl, rfl, trivial⟩) (Δ0 := _) ?_ (⟨rfl, Nat.zero_le _, rfl, rfl⟩) ?_
  · exact zE
  rintro ⟨k, n⟩ δ _ _ ⟨rfl, hk, hn, rfl⟩
  dsimp only [ovr, List.foldl]
  have hk : k ≤ m := hk
  have hn : n = sizes (p.vars.take k) := hn
  have hsb := sizes_bound (p.vars.take k) (fun y hy => hz y (List.mem_of_mem_take hy))
  have hkl : (p.vars.take k).length = k := by rw [List.length_take]; omega
  refine zS ?_; refine zR ?_; refine zO rfl (Rd.lss rfl rfl) ?_; refine zN ?_; refine zT ?_; refine zS ?_
  refine XA.condp rfl (fun hlt => ?_) (fun hlt => ?_)
  · have hlt : k < m := by omega
    obtain ⟨x, hx⟩ : ∃ x, p.vars[k]? = some x := ⟨_, List.getElem?_eq_getElem (by omega)⟩
    obtain ⟨gg, o, row, rfl, ⟨rfl, ⟨hz0, hz1⟩, hnm⟩, hrl, hrow⟩ := hv.at hx
    have r1 : PRow σ gg (o + k * 2 + 1) [i64 x.size] := hrow.sub (j := 1) rfl
    have e1 := sizes_take p.vars k x hx
    have hxz := hz x (List.mem_of_getElem? hx)
    refine XA.skip ?_
    refine zT ?_; refine zS ?_
    refine XA.block ?_
    refine zS ?_; refine zR ?_; refine zO rfl Rd.mv ?_; refine zO rfl Rd.asg ?_; refine zN ?_; refine zT ?_; refine zR ?_; refine zO rfl Rd.mv ?_; refine zO rfl (Rd.fA rfl) ?_; refine zO rfl (Rd.ldC rfl (tyrow rfl) rfl) ?_; refine zO rfl Rd.mv ?_
    refine zO rfl (Rd.ixS rfl rfl) ?_
    refine zO rfl (Rd.fA rfl) ?_; refine zO rfl (Rd.ldC rfl (tyrow rfl) rfl) ?_
    refine zO rfl (by first | exact Rd.adi rfl rfl | exact Rd.add rfl rfl) ?_
    refine zO rfl Rd.asg ?_; refine zN ?_
    refine DA.inb_normal ?_
    refine zT ?_; refine zR ?_
    refine zO rfl (by first | exact Rd.adi rfl rfl | exact Rd.add rfl rfl) ?_
    refine zO rfl Rd.mv ?_; refine zN ?_; refine zT ?_
    refine ⟨(Keep.upd (Keep.upd (Keep.upd (Keep.upd (Keep.upd (Keep.upd (Keep.upd (Keep.upd (Keep.upd (Keep.upd (Keep.upd (Keep.upd (Keep.upd (Keep.upd (Keep.upd (Keep.upd (Keep.hav (Keep.hav (Keep.refl _ _) rfl) rfl) rfl) rfl) rfl) rfl) rfl) rfl) rfl) rfl) rfl) rfl) rfl) rfl) rfl) rfl) rfl) rfl), (k + 1, n + x.size), _, (by (repeat (first | exact trivial | refine ⟨rfl, ?_⟩ | refine ⟨Eq.trans rfl (congrArg Value.bool hmat.symm), ?_⟩)); (first | done | fail)), ?_, ⟨rfl, hlt, by simp only; omega, rfl⟩, (by simp only; omega)⟩
    · exact zE
  have hkm : k = m := by omega
  subst hkm
  refine XA.exit ?_
  refine DA.thn_exit ?_
  refine DA.thn_exit ?_
  refine DA.inb_same ?_
  refine zT ?_; refine zS ?_; refine zR ?_; refine zO rfl Rd.mv ?_; refine zO rfl Rd.asg ?_; refine zN ?_; refine zT ?_
  refine XA.ret ?_
  exact bodyA.ret (ResA.one rfl rfl) (Ent.nil _) ⟨by rw [← hn], rfl, rfl⟩
theorem cells_a (σ : PH) (cs : List Value) (p : Pr) (hp : PrAt σ cs p) (hz : ∀ x ∈ p.vars, 0 ≤ x.size ∧ x.size ≤ 1000) (hl : p.vars.length ≤ 1000) :
    CallsA Try.prog 28 #[.agg cs.toArray] σ [] (RetA fun r σ' Γ' => r = i64 (sizes p.vars) ∧ σ = σ' ∧ Γ' = []) := by
  have hp0 := hp
  obtain ⟨vs, bs, rfl, hv, hb⟩ := hp
  obtain ⟨pv, cv, rfl, hvl, hvm⟩ := hv.shape
  refine enterA1 Try.func28 rfl rfl rfl ?_
  refine zS ?_; refine zR ?_
  refine XOA.wr0 rfl WrA.bx ?_
  rintro _ _ _ ⟨g1, rfl, rfl, rfl⟩
  refine zO rfl Rd.asg ?_; refine zN ?_; refine zT ?_; refine zS ?_; refine zR ?_; refine zO rfl (Rd.ldA rfl) ?_; refine zO rfl (Rd.fA rfl) ?_; refine zO rfl (Rd.ldC rfl (tyrow rfl) rfl) ?_; refine zO rfl (Rd.lenSlice (tyrow rfl) rfl rfl) ?_
  refine XOA.wr0 rfl (WrA.cE (cell_a σ _ p p.vars.length hp0 hz hl) rfl) ?_
  rintro _ _ _ ⟨_, ⟨rfl, rfl, rfl⟩, rfl⟩
  refine XOA.cl ?_
  refine zO rfl Rd.asg ?_; refine zN ?_; refine zT ?_
  refine XA.ret ?_
  exact bodyA.ret (ResA.one rfl rfl) (Ent.nil _) ⟨by rw [cellOf, Int.toNat_natCast, List.take_length], rfl, rfl⟩
end Go.Proofs.Ytbbghdkndbpmmaa
