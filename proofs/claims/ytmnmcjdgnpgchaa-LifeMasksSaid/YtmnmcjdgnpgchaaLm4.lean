/- Part 4 of 6 of what the claim needs: CdQ, CdR, Kp, Ks, Km, Ja, Je, Js, Jt, Ju, Jv, Mr, Jw, Ap, CdT, CdU, CdV, CdW, CdX, Kr, Kq, Na, Kz, Kf, Nb, Jx, Nc, Wb, Wp, Wc, Wd, We, Wf, Jy, Jz, Nd. -/
import Derived.Test.YtmnmcjdgnpgchaaLm2
import Derived.Test.YtmnmcjdgnpgchaaLm3
namespace Go.Proofs.Ytmnmcjdgnpgchaa
open Go X
set_option maxHeartbeats 1000000
theorem X.PSl.take {α : Type} {s n c k : Nat} {R : RT α} {σ : PH} {p : Option Addr} {xs : List α} (h : PSl s R σ (.slice p n c) xs) (hk : k ≤ n) : PSl s R σ (.slice p k c) (xs.take k) := by
  obtain ⟨p', c', rows, h1, h2, h3, h4, h5, h6, h7⟩ := h
  simp only [Value.slice.injEq] at h1
  obtain ⟨rfl, rfl, rfl⟩ := h1
  have hl : (xs.take k).length = k := by rw [List.length_take]; exact Nat.min_eq_left hk
  refine ⟨p, c, rows.take k, by rw [hl], by omega, h3, by rw [hl, List.length_take]; omega, fun r hr => h5 r (List.mem_of_mem_take hr), fun i row x a b => ?_, fun hp => ?_⟩
  · rw [List.getElem?_take] at a b
    split at a
    · rename_i hi
      rw [if_pos hi] at b
      exact h6 i row x a b
    · cases a
  · obtain ⟨g, o, e, hr⟩ := h7 (by omega)
    refine ⟨g, o, e, ?_⟩
    have := hr.sub (j := 0) (us := (rows.take k).flatten) (by
      have e : rows.flatten = (rows.take k).flatten ++ (rows.drop k).flatten := by rw [← List.flatten_append, List.take_append_drop]
      rw [List.drop_zero, e]
      exact List.take_left)
    simpa using this
theorem drop_get {α : Type} {l : List α} {k : Nat} {x : α} (h : l[k]? = some x) : l.drop k = x :: l.drop (k + 1) := by
  obtain ⟨h1, h2⟩ := List.getElem?_eq_some_iff.1 h
  rw [List.drop_eq_getElem_cons h1, h2]
theorem vars_a (σ : PH) (sl : Value) (l : List Va) (hl : PSl 2 rVa σ sl l) : CallsA Try.prog 70 #[sl] σ [] (RetA fun v σ' Γ' => v = i64 (checkVars l) ∧ σ = σ' ∧ Γ' = []) := by
  obtain ⟨pl, cl, rfl, hle, hmx⟩ := hl.shape
  have hlen : l.length ≤ maxLen := by omega
  simp only [maxLen] at hlen
  refine enterA1 Try.func70 rfl rfl rfl ?_
  refine zS ?_; refine zR ?_; refine zO rfl Rd.asg ?_; refine zN ?_; refine zT ?_; refine zS ?_; refine zS ?_; refine zR ?_; refine zO rfl Rd.mv ?_; refine zO rfl (Rd.lenSlice (tyrow rfl) rfl rfl) ?_
  refine zO rfl (Rd.gtr rfl rfl) ?_
  refine zN ?_; refine zT ?_
  refine XA.condp rfl (fun h8 => ?_) (fun h8 => ?_)
  · refine zS ?_
    refine zR ?_; refine zO rfl Rd.asg ?_; refine zN ?_; refine zT ?_
    refine XA.ret ?_
    refine DA.thn_ret ?_
    have hr : checkVars l = 3 := by rw [checkVars, if_pos (by omega)]
    exact bodyA.ret (ResA.one rfl rfl) zE ⟨by rw [hr], rfl, rfl⟩
  have hcv : checkVars l = varsGo [] 0 l := by rw [checkVars, if_neg (by omega)]
  rw [hcv]
  refine XA.skip ?_
  refine zT ?_; refine zS ?_; refine zR ?_; refine zO rfl Rd.asg ?_; refine zN ?_; refine zT ?_; refine zS ?_; refine zS ?_; refine zR ?_; refine zO rfl Rd.mv ?_; refine zO rfl (Rd.lenSlice (tyrow rfl) rfl rfl) ?_; refine zO rfl Rd.mv ?_; refine zN ?_; refine zT ?_
  refine XA.block ?_
  refine XA.gen [(0, _), (2, _), (3, _), (9, _), (10, _), (11, _)] ⟨(by with_reducible (conv => lhs; whnf)), (by with_reducible (conv => lhs; whnf)), (by with_reducible (conv => lhs; whnf)), (by with_reducible (conv => lhs; whnf)), (by with_reducible (conv => lhs; whnf)), (by with_reducible (conv => lhs; whnf)), trivial⟩ (fun δ => ?_)
  dsimp only [List.foldl]
  refine XA.loop [(2, 5), (11, 42)] (fun q : Nat × Int => [(11, i64 q.1), (3, i64 q.2)]) (fun q σ' Γ' => σ = σ' ∧ q.1 ≤ l.length ∧ (0 ≤ q.2 ∧ q.2 ≤ 48 ∧ varsGo (l.take q.1) q.2 (l.drop q.1) = varsGo [] 0 l) ∧ Γ' = []) (fun q => l.length - q.1) (0, 0) (by exact ⟨rfl, rfl, trivial⟩) (Δ0 := _) ?_ (⟨rfl, Nat.zero_le _, ⟨Int.le_refl _, (by decide), rfl⟩, rfl⟩) ?_
  · exact zE
  rintro ⟨k, n⟩ δ _ _ ⟨rfl, hk, ⟨hn0, hn1, hgo⟩, rfl⟩
  dsimp only [ovr, List.foldl]
  have hk : k ≤ l.length := hk
  have hn0 : 0 ≤ n := hn0
  have hn1 : n ≤ 48 := hn1
  have hgo : varsGo (l.take k) n (l.drop k) = varsGo [] 0 l := hgo
  refine zS ?_; refine zR ?_; refine zO rfl (Rd.lss rfl rfl) ?_; refine zN ?_; refine zT ?_; refine zS ?_
  refine XA.condp rfl (fun hlt => ?_) (fun hlt => ?_)
  · have hlt : k < l.length := by omega
    obtain ⟨x, hx⟩ : ∃ x, l[k]? = some x := ⟨_, List.getElem?_eq_getElem hlt⟩
    obtain ⟨gg, o, row, rfl, ⟨rfl, ⟨hz0, hz1⟩, hnm⟩, hrl, hrow⟩ := hl.at hx
    have hpre := hl.take (k := k) hk
    rw [drop_get hx, varsGo] at hgo
    refine XA.skip ?_
    refine zT ?_; refine zS ?_
    refine XA.block ?_
    refine zS ?_; refine zR ?_; refine zO rfl Rd.mv ?_
    refine zO rfl (Rd.ixS rfl rfl) ?_
    refine zO rfl (Rd.ldA rfl) ?_
    refine zw rfl (WrA.alloc (tyrow rfl)) ?_
    rintro _ _ _ ⟨g5, rfl, rfl, rfl⟩
    refine zO rfl Rd.asg ?_
    refine zw rfl (WrA.st (tyrow rfl) rfl) ?_
    rintro _ _ _ ⟨rfl, rfl, rfl⟩
    refine zN ?_; refine zT ?_; refine zS ?_
    refine XA.block ?_
    refine zS ?_; refine zR ?_; refine zO rfl (Rd.fA rfl) ?_; refine zO rfl (Rd.ldC rfl (tyrow rfl) rfl) ?_
    refine zw rfl (WrA.cE (name_a σ x.name hnm) rfl) ?_
    rintro _ _ _ ⟨_, ⟨rfl, rfl, rfl⟩, rfl⟩
    refine XOA.cl ?_
    cases hnk : nameOk x.name with
    | false =>
      rw [if_pos hnk] at hgo
      refine zO rfl (by first | exact Rd.notp rfl | exact Rd.not rfl) ?_
      refine zO rfl Rd.asg ?_; refine zN ?_; refine zT ?_
      refine XA.condT rfl rfl ?_
      refine zS ?_; refine zR ?_; refine zO rfl Rd.asg ?_; refine zN ?_; refine zT ?_
      refine XA.ret ?_
      refine DA.inb_ret ?_
      refine DA.thn_ret ?_
      refine DA.inb_ret ?_
      refine DA.thn_ret ?_
      refine DA.thn_ret ?_
      refine DA.inb_ret ?_
      refine DA.thn_ret ?_
      exact bodyA.ret (ResA.one rfl rfl) zE ⟨by rw [← hgo], rfl, rfl⟩
    | true =>
      rw [if_neg (by simp [hnk])] at hgo
      refine zO rfl (by first | exact Rd.notp rfl | exact Rd.not rfl) ?_
      refine zO rfl Rd.asg ?_; refine zN ?_; refine zT ?_
      refine XA.condF rfl rfl ?_
      refine zS ?_; refine zR ?_; refine zO rfl Rd.mv ?_; refine zO rfl Rd.mv ?_
      refine zO rfl (Rd.sliceToN (tyrow rfl) rfl (tyrow rfl) rfl rfl (by omega)) ?_
      refine zO rfl (Rd.makeFunc1 (by with_reducible (conv => lhs; whnf))) ?_
      refine zw rfl (WrA.cE (containsVar_a σ g5 x _ _ hpre) rfl) ?_
      rintro _ _ _ ⟨_, ⟨rfl, rfl, rfl⟩, rfl⟩
      refine XOA.cl ?_
      refine zO rfl Rd.asg ?_; refine zN ?_; refine zT ?_
      refine XA.condp rfl (fun htw => ?_) (fun htw => ?_)
      · rw [if_pos htw] at hgo
        refine zS ?_; refine zR ?_; refine zO rfl Rd.asg ?_; refine zN ?_; refine zT ?_
        refine XA.ret ?_
        refine DA.inb_ret ?_
        refine DA.thn_ret ?_
        refine DA.inb_ret ?_
        refine DA.thn_ret ?_
        refine DA.thn_ret ?_
        refine DA.inb_ret ?_
        refine DA.thn_ret ?_
        exact bodyA.ret (ResA.one rfl rfl) zE ⟨by rw [← hgo], rfl, rfl⟩
      rw [if_neg htw] at hgo
      by_cases hz : x.size < 1
      · rw [if_pos (.inl hz)] at hgo
        refine zS ?_; refine zR ?_; refine zO rfl (Rd.fA rfl) ?_; refine zO rfl (Rd.ldC rfl (tyrow rfl) rfl) ?_; refine zO rfl (Rd.lss rfl rfl) ?_; refine zO rfl Rd.mv ?_
        first | ((first | refine zW ?_ | refine zQ ?_); refine zO rfl (Rd.fA rfl) ?_) | refine zU ?_ | refine zV ?_ | refine zZ ?_
        first | ((first | refine zW ?_ | refine zQ ?_); refine zO rfl (Rd.ldC rfl (tyrow rfl) rfl) ?_) | refine zU ?_ | refine zV ?_ | refine zZ ?_
        first | ((first | refine zW ?_ | refine zQ ?_); refine zO rfl Rd.mv ?_) | refine zU ?_ | refine zV ?_ | refine zZ ?_
        first | ((first | refine zW ?_ | refine zQ ?_); refine zO rfl (by first | exact Rd.sbi rfl rfl | exact Rd.sub rfl rfl) ?_) | refine zU ?_ | refine zV ?_ | refine zZ ?_
        first | ((first | refine zW ?_ | refine zQ ?_); refine zO rfl (Rd.gtr rfl rfl) ?_) | refine zU ?_ | refine zV ?_ | refine zZ ?_
        refine zO rfl (by first | exact Rd.pT rfl | exact Rd.pF rfl | exact Rd.pP rfl) ?_
        refine zO rfl Rd.asg ?_; refine zN ?_; refine zT ?_
        refine XA.condT rfl rfl ?_
        refine zS ?_; refine zR ?_; refine zO rfl Rd.asg ?_; refine zN ?_; refine zT ?_
        refine XA.ret ?_
        refine DA.inb_ret ?_
        refine DA.thn_ret ?_
        refine DA.inb_ret ?_
        refine DA.thn_ret ?_
        refine DA.thn_ret ?_
        refine DA.inb_ret ?_
        refine DA.thn_ret ?_
        exact bodyA.ret (ResA.one rfl rfl) zE ⟨by rw [← hgo], rfl, rfl⟩
      · 
        refine zS ?_; refine zR ?_; refine zO rfl (Rd.fA rfl) ?_; refine zO rfl (Rd.ldC rfl (tyrow rfl) rfl) ?_; refine zO rfl (Rd.lss rfl rfl) ?_; refine zO rfl Rd.mv ?_
        first | ((first | refine zW ?_ | refine zQ ?_); refine zO rfl (Rd.fA rfl) ?_) | refine zU ?_ | refine zV ?_ | refine zZ ?_
        first | ((first | refine zW ?_ | refine zQ ?_); refine zO rfl (Rd.ldC rfl (tyrow rfl) rfl) ?_) | refine zU ?_ | refine zV ?_ | refine zZ ?_
        first | ((first | refine zW ?_ | refine zQ ?_); refine zO rfl Rd.mv ?_) | refine zU ?_ | refine zV ?_ | refine zZ ?_
        first | ((first | refine zW ?_ | refine zQ ?_); refine zO rfl (by first | exact Rd.sbi rfl rfl | exact Rd.sub rfl rfl) ?_) | refine zU ?_ | refine zV ?_ | refine zZ ?_
        first | ((first | refine zW ?_ | refine zQ ?_); refine zO rfl (Rd.gtr rfl rfl) ?_) | refine zU ?_ | refine zV ?_ | refine zZ ?_
        refine zO rfl (by first | exact Rd.pT rfl | exact Rd.pF rfl | exact Rd.pP rfl) ?_
        refine zO rfl Rd.asg ?_; refine zN ?_; refine zT ?_
        refine XA.condp rfl (fun hz2 => ?_) (fun hz2 => ?_)
        · rw [if_pos (.inr hz2)] at hgo
          refine zS ?_; refine zR ?_; refine zO rfl Rd.asg ?_; refine zN ?_; refine zT ?_
          refine XA.ret ?_
          refine DA.inb_ret ?_
          refine DA.thn_ret ?_
          refine DA.inb_ret ?_
          refine DA.thn_ret ?_
          refine DA.thn_ret ?_
          refine DA.inb_ret ?_
          refine DA.thn_ret ?_
          exact bodyA.ret (ResA.one rfl rfl) zE ⟨by rw [← hgo], rfl, rfl⟩
        rw [if_neg (by omega)] at hgo
        refine XA.skip ?_
        refine DA.inb_normal ?_
        refine zT ?_; refine zR ?_; refine zO rfl Rd.mv ?_; refine zO rfl (Rd.fA rfl) ?_; refine zO rfl (Rd.ldC rfl (tyrow rfl) rfl) ?_
        refine zO rfl (by first | exact Rd.adi rfl rfl | exact Rd.add rfl rfl) ?_
        refine zO rfl Rd.asg ?_; refine zN ?_
        refine DA.inb_normal ?_
        refine zT ?_; refine zR ?_
        refine zO rfl (by first | exact Rd.adi rfl rfl | exact Rd.add rfl rfl) ?_
        refine zO rfl Rd.mv ?_; refine zN ?_; refine zT ?_
        refine ⟨(Keep.upd (Keep.upd (Keep.upd (Keep.upd (Keep.upd (Keep.upd (Keep.upd (Keep.upd (Keep.upd (Keep.upd (Keep.upd (Keep.upd (Keep.upd (Keep.upd (Keep.upd (Keep.upd (Keep.upd (Keep.upd (Keep.upd (Keep.updO (Keep.upd (Keep.upd (Keep.upd (Keep.upd (Keep.upd (Keep.upd (Keep.updO (Keep.upd (Keep.upd (Keep.updN (Keep.upd (Keep.updO (Keep.upd (Keep.upd (Keep.upd (Keep.upd (Keep.upd (Keep.upd (Keep.hav (Keep.hav (Keep.refl _ _) rfl) rfl) rfl) rfl) rfl) rfl) rfl) rfl) rfl) rfl)) rfl) rfl) rfl) rfl) rfl) rfl) rfl) rfl) rfl) rfl) rfl) rfl) rfl) rfl) rfl) rfl) rfl) rfl) rfl) rfl) rfl) rfl) rfl) rfl) rfl) rfl) rfl) rfl) rfl), (k + 1, n + x.size), _, (by (repeat (first | exact trivial | refine ⟨rfl, ?_⟩ | refine ⟨Eq.trans rfl (congrArg Value.bool hmat.symm), ?_⟩)); (first | done | fail)), ?_, ⟨rfl, hlt, ⟨by simp only; omega, by simp only; omega, by rw [takeS hx]; exact hgo⟩, rfl⟩, (by simp only; omega)⟩
        · exact zE
  have hkn : k = l.length := by omega
  subst hkn
  rw [List.drop_length, varsGo] at hgo
  refine XA.exit ?_
  refine DA.thn_exit ?_
  refine DA.thn_exit ?_
  refine DA.inb_same ?_
  refine zT ?_; refine zS ?_; refine zR ?_; refine zO rfl Rd.asg ?_; refine zN ?_; refine zT ?_
  refine XA.ret ?_
  exact bodyA.ret (ResA.one rfl rfl) zE ⟨by rw [← hgo], rfl, rfl⟩
theorem check_a (σ : PH) (cs : List Value) (p : Pr) (hp : PrAt σ cs p) : CallsA Try.prog 41 #[.agg cs.toArray] σ [] (RetA fun v σ' Γ' => v = i64 (checkP p) ∧ σ = σ' ∧ Γ' = []) := by
  obtain ⟨vs, bs, rfl, hv, hb⟩ := hp
  obtain ⟨pv, cv, rfl, hvl, hvm⟩ := hv.shape
  refine enterA1 Try.func41 rfl rfl rfl ?_
  refine zS ?_; refine zR ?_
  refine zw rfl WrA.bx ?_
  rintro _ _ _ ⟨g1, rfl, rfl, rfl⟩
  refine zO rfl Rd.asg ?_; refine zN ?_; refine zT ?_; refine zS ?_; refine zS ?_; refine zR ?_; refine zO rfl (Rd.fA rfl) ?_; refine zO rfl (Rd.ldC rfl (tyrow rfl) rfl) ?_
  refine zw rfl (WrA.cE (vars_a σ _ _ hv) rfl) ?_
  rintro _ _ _ ⟨_, ⟨rfl, rfl, rfl⟩, rfl⟩
  refine XOA.cl ?_
  refine zO rfl Rd.asg ?_; refine zN ?_; refine zT ?_; refine zS ?_; refine zR ?_; refine zO rfl Rd.mv ?_
  refine zO rfl (Rd.neq rfl rfl) ?_
  refine zN ?_; refine zT ?_
  refine XA.condp rfl (fun hc => ?_) (fun hc => ?_)
  · refine zS ?_
    refine zR ?_; refine zO rfl Rd.mv ?_; refine zO rfl Rd.asg ?_; refine zN ?_; refine zT ?_
    refine XA.ret ?_
    refine DA.thn_ret ?_
    exact bodyA.ret (ResA.one rfl rfl) zE ⟨by rw [checkP, if_pos hc], rfl, rfl⟩
  refine XA.skip ?_
  refine zT ?_; refine zS ?_; refine zR ?_; refine zO rfl (Rd.fA rfl) ?_; refine zO rfl (Rd.ldC rfl (tyrow rfl) rfl) ?_
  refine zO rfl (Rd.bl (fun _ _ => tyrow) rfl rfl rfl) ?_
  refine zw rfl WrA.bx ?_
  rintro _ _ _ ⟨g14, rfl, rfl, rfl⟩
  refine zO rfl Rd.asg ?_; refine zN ?_; refine zT ?_; refine zS ?_; refine zR ?_; refine zO rfl Rd.mv ?_; refine zO rfl (Rd.fA rfl) ?_; refine zO rfl (Rd.ldC rfl (tyrow rfl) rfl) ?_
  refine XOA.ent (Ent.foldC (Θ := [_]) (by (repeat (first | exact Ent.all _ | (apply Ent.take; focus (first | ((repeat (first | with_reducible exact Sel.head | apply Sel.tail)); done) | ((repeat (first | exact Sel.head | apply Sel.tail)); done))) | apply Ent.takeNil | apply Ent.takeEmp)); (first | done | fail)) (Judge.mkO (l := 150)) (Ent.refl _)) ?_
  refine zw rfl (WrA.cE (list_a σ p.body (fun x _ => stmt_a σ x) bs g14 pv p.vars.length cv (.ok 150) 0 hb (fun l hl => by simp only [Except.ok.injEq] at hl; omega) (by decide) (by decide)) rfl) ?_
  rintro _ _ _ ⟨_, ⟨rfl, rfl, rfl⟩, rfl⟩
  refine XOA.cl ?_
  have hcp : checkP p = (stsE p.vars.length 0 p.body (.ok 150)).code := by rw [checkP, if_neg hc]
  rw [hcp]
  refine zN ?_; refine zT ?_; refine zS ?_; refine zR ?_; refine zO rfl Rd.mv ?_
  cases hst : stsE p.vars.length 0 p.body (.ok 150) with
  | ok a =>
    first | refine XA.opn (R := Judge g14 _ (.ok a)) (by ((repeat (first | with_reducible exact Sel.head | apply Sel.tail)); (first | done | fail))) (Judge.okO) ?_ | refine XOA.opn (R := Judge g14 _ (.ok a)) (by ((repeat (first | with_reducible exact Sel.head | apply Sel.tail)); (first | done | fail))) (Judge.okO) ?_ | refine DA.opn (R := Judge g14 _ (.ok a)) (by ((repeat (first | with_reducible exact Sel.head | apply Sel.tail)); (first | done | fail))) (Judge.okO) ?_
    rintro ⟨⟩ -
    first | refine XA.cl ?_ | refine XOA.cl ?_ | refine DA.cl ?_
    refine zO rfl (Rd.nilCheck rfl) ?_; refine zO rfl (Rd.fA rfl) ?_; refine zO rfl (Rd.ldC rfl (tyrow rfl) rfl) ?_; refine zO rfl Rd.asg ?_; refine zN ?_; refine zT ?_
    refine XA.ret ?_
    exact bodyA.ret (ResA.one rfl rfl) (Ent.nil _) ⟨rfl, rfl, rfl⟩
  | error c =>
    first | refine XA.opn (R := Judge g14 _ (.error c)) (by ((repeat (first | with_reducible exact Sel.head | apply Sel.tail)); (first | done | fail))) (Judge.errO) ?_ | refine XOA.opn (R := Judge g14 _ (.error c)) (by ((repeat (first | with_reducible exact Sel.head | apply Sel.tail)); (first | done | fail))) (Judge.errO) ?_ | refine DA.opn (R := Judge g14 _ (.error c)) (by ((repeat (first | with_reducible exact Sel.head | apply Sel.tail)); (first | done | fail))) (Judge.errO) ?_
    rintro l h0
    first | refine XA.cl ?_ | refine XOA.cl ?_ | refine DA.cl ?_
    refine zO rfl (Rd.nilCheck rfl) ?_; refine zO rfl (Rd.fA rfl) ?_; refine zO rfl (Rd.ldC rfl (tyrow rfl) rfl) ?_; refine zO rfl Rd.asg ?_; refine zN ?_; refine zT ?_
    refine XA.ret ?_
    exact bodyA.ret (ResA.one rfl rfl) (Ent.nil _) ⟨rfl, rfl, rfl⟩
theorem sizes_bound : ∀ (l : List Va), (∀ x ∈ l, 0 ≤ x.size ∧ x.size ≤ 1000) → 0 ≤ sizes l ∧ sizes l ≤ 1000 * l.length
  | [], _ => by simp [sizes]
  | x :: l, h => by
    have h1 := sizes_bound l (fun y hy => h y (by simp [hy]))
    have h2 := h x (by simp)
    rw [sizes_cons, List.length_cons]; omega
theorem cell_a (σ : PH) (cs : List Value) (p : Pr) (v : Int) (hp : PrAt σ cs p) (hz : ∀ x ∈ p.vars, 0 ≤ x.size ∧ x.size ≤ 1000) (hl : p.vars.length ≤ 1000) :
    CallsA Try.prog 82 #[.agg cs.toArray, i64 v] σ [] (RetA fun r σ' Γ' => r = i64 (cellOf p.vars v) ∧ σ = σ' ∧ Γ' = []) := by
  obtain ⟨vs, bs, rfl, hv, hb⟩ := hp
  obtain ⟨pv, cv, rfl, hvl, hvm⟩ := hv.shape
  obtain ⟨m, hm⟩ : ∃ m, m = min v.toNat p.vars.length := ⟨_, rfl⟩
  have hmin : (if (p.vars.length : Int) < (if (0 : Int) > v then 0 else v) then (p.vars.length : Int) else (if (0 : Int) > v then 0 else v)) = (m : Int) := by
    subst hm; split <;> split at * <;> omega
  have hcell : cellOf p.vars v = sizes (p.vars.take m) := by
    rw [cellOf, hm, ← List.take_eq_take_min]
  rw [hcell]
  have hml : m ≤ p.vars.length := by omega
  refine enterA2 Try.func82 rfl rfl rfl ?_
  refine zS ?_; refine zR ?_
  refine zw rfl WrA.bx ?_
  rintro _ _ _ ⟨g2, rfl, rfl, rfl⟩
  refine zO rfl Rd.asg ?_; refine zN ?_; refine zT ?_; refine zS ?_; refine zR ?_; refine zO rfl Rd.asg ?_; refine zN ?_; refine zT ?_; refine zS ?_; refine zS ?_; refine zR ?_; refine zO rfl Rd.mv ?_
  refine zO rfl (Rd.max2 rfl rfl) ?_
  refine zO rfl (Rd.fA rfl) ?_; refine zO rfl (Rd.ldC rfl (tyrow rfl) rfl) ?_; refine zO rfl (Rd.lenSlice (tyrow rfl) rfl rfl) ?_
  refine zO rfl (Rd.min2 rfl rfl) ?_
  refine zO rfl Rd.mv ?_; refine zN ?_; refine zT ?_
  refine XA.block ?_
  rw [hmin]
  refine XA.gen [(2, _), (4, _), (5, _), (12, _), (13, _)] ⟨(by with_reducible (conv => lhs; whnf)), (by with_reducible (conv => lhs; whnf)), (by with_reducible (conv => lhs; whnf)), (by with_reducible (conv => lhs; whnf)), (by with_reducible (conv => lhs; whnf)), trivial⟩ (fun δ => ?_)
  dsimp only [List.foldl]
  refine XA.loop [(5, 6), (13, 24)] (fun q : Nat × Int => [(13, i64 q.1), (5, i64 q.2)]) (fun q σ' Γ' => σ = σ' ∧ q.1 ≤ m ∧ q.2 = sizes (p.vars.take q.1) ∧ Γ' = [blk g2 [.slice pv p.vars.length cv, bs] 25]) (fun q => m - q.1) (0, 0) (by exact ⟨rfl, rfl, trivial⟩) (Δ0 := _) ?_ (⟨rfl, Nat.zero_le _, rfl, rfl⟩) ?_
  · exact zE
  rintro ⟨k, n⟩ δ _ _ ⟨rfl, hk, hn, rfl⟩
  dsimp only [ovr, List.foldl]
  have hk : k ≤ m := hk
  have hn : n = sizes (p.vars.take k) := hn
  have hsb := sizes_bound (p.vars.take k) (fun y hy => hz y (List.mem_of_mem_take hy))
  have hkl : (p.vars.take k).length = k := by rw [List.length_take]; omega
  refine zS ?_; refine zR ?_; refine zO rfl (Rd.lss rfl rfl) ?_; refine zN ?_; refine zT ?_; refine zS ?_
  refine XA.condp rfl (fun hlt => ?_) (fun hlt => ?_)
  · have hlt : k < m := by omega
    obtain ⟨x, hx⟩ : ∃ x, p.vars[k]? = some x := ⟨_, List.getElem?_eq_getElem (by omega)⟩
    obtain ⟨gg, o, row, rfl, ⟨rfl, ⟨hz0, hz1⟩, hnm⟩, hrl, hrow⟩ := hv.at hx
    have r1 : PRow σ gg (o + k * 2 + 1) [i64 x.size] := hrow.sub (j := 1) rfl
    have e1 := sizes_take p.vars k x hx
    have hxz := hz x (List.mem_of_getElem? hx)
    refine XA.skip ?_
    refine zT ?_; refine zS ?_
    refine XA.block ?_
    refine zS ?_; refine zR ?_; refine zO rfl Rd.mv ?_; refine zO rfl Rd.asg ?_; refine zN ?_; refine zT ?_; refine zR ?_; refine zO rfl Rd.mv ?_; refine zO rfl (Rd.fA rfl) ?_; refine zO rfl (Rd.ldC rfl (tyrow rfl) rfl) ?_; refine zO rfl Rd.mv ?_
    refine zO rfl (Rd.ixS rfl rfl) ?_
    refine zO rfl (Rd.fA rfl) ?_; refine zO rfl (Rd.ldC rfl (tyrow rfl) rfl) ?_
    refine zO rfl (by first | exact Rd.adi rfl rfl | exact Rd.add rfl rfl) ?_
    refine zO rfl Rd.asg ?_; refine zN ?_
    refine DA.inb_normal ?_
    refine zT ?_; refine zR ?_
    refine zO rfl (by first | exact Rd.adi rfl rfl | exact Rd.add rfl rfl) ?_
    refine zO rfl Rd.mv ?_; refine zN ?_; refine zT ?_
    refine ⟨(Keep.upd (Keep.upd (Keep.upd (Keep.upd (Keep.upd (Keep.upd (Keep.upd (Keep.upd (Keep.upd (Keep.upd (Keep.upd (Keep.upd (Keep.upd (Keep.upd (Keep.upd (Keep.upd (Keep.hav (Keep.hav (Keep.refl _ _) rfl) rfl) rfl) rfl) rfl) rfl) rfl) rfl) rfl) rfl) rfl) rfl) rfl) rfl) rfl) rfl) rfl) rfl), (k + 1, n + x.size), _, (by (repeat (first | exact trivial | refine ⟨rfl, ?_⟩ | refine ⟨Eq.trans rfl (congrArg Value.bool hmat.symm), ?_⟩)); (first | done | fail)), ?_, ⟨rfl, hlt, by simp only; omega, rfl⟩, (by simp only; omega)⟩
    · exact zE
  have hkm : k = m := by omega
  subst hkm
  refine XA.exit ?_
  refine DA.thn_exit ?_
  refine DA.thn_exit ?_
  refine DA.inb_same ?_
  refine zT ?_; refine zS ?_; refine zR ?_; refine zO rfl Rd.mv ?_; refine zO rfl Rd.asg ?_; refine zN ?_; refine zT ?_
  refine XA.ret ?_
  exact bodyA.ret (ResA.one rfl rfl) (Ent.nil _) ⟨by rw [← hn], rfl, rfl⟩
theorem cells_a (σ : PH) (cs : List Value) (p : Pr) (hp : PrAt σ cs p) (hz : ∀ x ∈ p.vars, 0 ≤ x.size ∧ x.size ≤ 1000) (hl : p.vars.length ≤ 1000) :
    CallsA Try.prog 64 #[.agg cs.toArray] σ [] (RetA fun r σ' Γ' => r = i64 (sizes p.vars) ∧ σ = σ' ∧ Γ' = []) := by
  have hp0 := hp
  obtain ⟨vs, bs, rfl, hv, hb⟩ := hp
  obtain ⟨pv, cv, rfl, hvl, hvm⟩ := hv.shape
  refine enterA1 Try.func64 rfl rfl rfl ?_
  refine zS ?_; refine zR ?_
  refine zw rfl WrA.bx ?_
  rintro _ _ _ ⟨g1, rfl, rfl, rfl⟩
  refine zO rfl Rd.asg ?_; refine zN ?_; refine zT ?_; refine zS ?_; refine zR ?_; refine zO rfl (Rd.ldA rfl) ?_; refine zO rfl (Rd.fA rfl) ?_; refine zO rfl (Rd.ldC rfl (tyrow rfl) rfl) ?_; refine zO rfl (Rd.lenSlice (tyrow rfl) rfl rfl) ?_
  refine zw rfl (WrA.cE (cell_a σ _ p p.vars.length hp0 hz hl) rfl) ?_
  rintro _ _ _ ⟨_, ⟨rfl, rfl, rfl⟩, rfl⟩
  refine XOA.cl ?_
  refine zO rfl Rd.asg ?_; refine zN ?_; refine zT ?_
  refine XA.ret ?_
  exact bodyA.ret (ResA.one rfl rfl) (Ent.nil _) ⟨by rw [cellOf, Int.toNat_natCast, List.take_length], rfl, rfl⟩
end Go.Proofs.Ytmnmcjdgnpgchaa

namespace Go.Proofs.Ytmnmcjdgnpgchaa
open Go X
set_option maxHeartbeats 1000000
end Go.Proofs.Ytmnmcjdgnpgchaa

namespace Go.Proofs.Ytmnmcjdgnpgchaa
open Go X
set_option maxHeartbeats 1000000
def insC (l : List In) : List Value := (l.map inC).flatten
theorem insC_snoc (l : List In) (x : In) : insC (l ++ [x]) = insC l ++ inC x := by simp [insC]
theorem insC_len (l : List In) : (insC l).length = l.length * 4 := by
  induction l with
  | nil => rfl
  | cons x l ih => simp only [insC, List.map_cons, List.flatten_cons, List.length_append, List.length_cons] at ih ⊢; rw [ih]; simp only [inC, List.length_cons, List.length_nil]; omega
theorem put_i (σ : PH) (b : Nat) (vs bs : Value) (p : Option Addr) (c : Nat) (L : List In) (x : In) (hn : L.length ≤ 100000) :
    CallsA Try.prog 43 #[ptr b, .agg (inC x).toArray] σ [blk b [vs, bs, .slice p L.length c] 100, lst 104 4 (.slice p L.length c) L.length (insC L)]
      (RetA fun v σ' Γ' => ∃ p' c', v = i64 L.length ∧ σ = σ' ∧ Γ' = [blk b [vs, bs, .slice p' (L ++ [x]).length c'] 100, lst 104 4 (.slice p' (L ++ [x]).length c') (L ++ [x]).length (insC (L ++ [x]))]) := by
  simp only [insC_snoc, List.length_append, List.length_singleton]
  unfold inC
  refine enterA2 Try.func43 rfl rfl rfl ?_
  refine zS ?_; refine zR ?_
  refine zw rfl WrA.bx ?_
  rintro _ _ _ ⟨g3, rfl, rfl, rfl⟩
  refine zO rfl Rd.asg ?_; refine zN ?_; refine zT ?_; refine zS ?_
  refine XA.draw (by kernel_rfl) _ _ [7, 10] [(0, .pu), (1, .pu), (2, .pu), (3, .pu), (4, .rd), (5, .rd), (6, .wr), (7, .wr), (8, .pu), (9, .pu), (10, .wr)] (by kernel_rfl) (PH.sub.refl _) (Ent.sel (R := blk b _ _) (by ((repeat (first | with_reducible exact Sel.head | apply Sel.tail)); (first | done | fail))) (Ent.sel (R := blk g3 _ _) (by ((repeat (first | with_reducible exact Sel.head | apply Sel.tail)); (first | done | fail))) (Ent.nil _))) ?_
  refine zu rfl rfl Rd.mv ?_
  refine zu rfl rfl Rd.mv ?_
  refine zu rfl rfl (Rd.nilCheck rfl) ?_
  refine zu rfl rfl (Rd.fA rfl) ?_
  refine XPA.rd rfl rfl Gd.free (Rd.ldC rfl (tyrow rfl) rfl) ?_
  refine XPA.rd rfl rfl Gd.free (Rd.ldA rfl) ?_
  refine XPA.wr0 rfl rfl Gd.free (WrA.bs1 (tyrow rfl) rfl (tyrow rfl)) ?_
  rintro _ _ _ ⟨g11, rfl, rfl, rfl⟩
  refine stays ?_
  refine XPA.wrZ0 rfl rfl Gd.free (by kernel_rfl) (WrA.ap1 (tyrow rfl) rfl (tyrow rfl) rfl rfl rfl) ?_
  rintro _ _ _ ⟨p12, c12, rfl, rfl, rfl⟩
  refine zu rfl rfl (Rd.nilCheck rfl) ?_
  refine zu rfl rfl (Rd.fA rfl) ?_
  refine XPA.wrZ0 rfl rfl Gd.free (by kernel_rfl) (WrA.st (tyrow rfl) rfl) ?_
  rintro _ _ _ ⟨rfl, rfl, rfl⟩
  refine XPA.nil ?_
  refine zT ?_; refine zS ?_; refine zR ?_; refine zO rfl Rd.mv ?_; refine zO rfl (Rd.nilCheck rfl) ?_; refine zO rfl (Rd.fA rfl) ?_; refine zO rfl (Rd.ldC rfl (tyrow rfl) rfl) ?_; refine zO rfl (Rd.lenSlice (tyrow rfl) rfl rfl) ?_
  refine zO rfl (by first | exact Rd.sbi rfl rfl | exact Rd.sub rfl rfl) ?_
  refine zO rfl Rd.asg ?_; refine zN ?_; refine zT ?_
  refine XA.ret ?_
  refine bodyA.ret (ResA.one rfl rfl) zE ⟨_, _, by show i64 (((L.length + 1 : Nat) : Int) - 1) = i64 L.length; congr 1; omega, rfl, rfl⟩
theorem cell_i (σ : PH) (b : Nat) (vs bs sl : Value) (pr : Pr) (v : Int) (hp : PrAt σ [vs, bs] pr) (hz : ∀ x ∈ pr.vars, 0 ≤ x.size ∧ x.size ≤ 1000) (hl : pr.vars.length ≤ 1000) :
    CallsA Try.prog 91 #[ptr b, i64 v] σ [blk b [vs, bs, sl] 100] (RetA fun r σ' Γ' => r = i64 (cellOf pr.vars v) ∧ σ = σ' ∧ Γ' = [blk b [vs, bs, sl] 100]) := by
  refine enterA2 Try.func91 rfl rfl rfl ?_
  refine zS ?_; refine zR ?_; refine zO rfl Rd.asg ?_; refine zN ?_; refine zT ?_; refine zS ?_; refine zR ?_; refine zO rfl Rd.mv ?_; refine zO rfl (Rd.nilCheck rfl) ?_; refine zO rfl (Rd.fA rfl) ?_; refine zO rfl (Rd.ldA rfl) ?_; refine zO rfl Rd.mv ?_
  refine zw rfl (WrA.cE (cell_a σ [vs, bs] pr v hp hz hl) rfl) ?_
  rintro _ _ _ ⟨_, ⟨rfl, rfl, rfl⟩, rfl⟩
  refine XOA.cl ?_
  refine zO rfl Rd.asg ?_; refine zN ?_; refine zT ?_
  refine XA.ret ?_
  exact bodyA.ret (ResA.one rfl rfl) zE ⟨rfl, rfl, rfl⟩
theorem exsN_mem : ∀ {l : List Ex} {x : Ex}, x ∈ l → exN x ≤ exsN l
  | y :: l, x, h => by
    rw [exsN]
    rcases List.mem_cons.1 h with rfl | h
    · omega
    · have := exsN_mem h; omega
def ExprI (σ : PH) (pr : Pr) (x : Ex) : Prop := ∀ (cs : List Value) (b : Nat) (pv : Option Addr) (cv : Nat) (bs : Value) (p : Option Addr) (c : Nat) (L : List In),
  PrAt σ [.slice pv pr.vars.length cv, bs] pr → ExAt σ cs x → ExV pr.vars.length x → L.length + exN x ≤ 100000 →
  CallsA Try.prog 90 #[ptr b, .agg cs.toArray] σ [blk b [.slice pv pr.vars.length cv, bs, .slice p L.length c] 100, lst 104 4 (.slice p L.length c) L.length (insC L)]
    (RetA fun v σ' Γ' => ∃ p' c', v = .tuple #[] ∧ σ = σ' ∧ Γ' = [blk b [.slice pv pr.vars.length cv, bs, .slice p' (L ++ exCode pr.vars x).length c'] 100, lst 104 4 (.slice p' (L ++ exCode pr.vars x).length c') (L ++ exCode pr.vars x).length (insC (L ++ exCode pr.vars x))])
theorem expr_i (σ : PH) (pr : Pr) (hz : ∀ x ∈ pr.vars, 0 ≤ x.size ∧ x.size ≤ 1000) (hvl : pr.vars.length ≤ 1000) (x : Ex) : ExprI σ pr x := by
  refine Ex.ind (P := ExprI σ pr) ?_ x
  intro op v k l ih cs b pv cv bs p c L hp hx hV hN
  obtain ⟨pl, cl, rfl, ho, hv, hk, hl⟩ := hx.inv
  simp only [Ex.op, Ex.v, Ex.n, Ex.l] at ho hv hk hl ⊢
  clear hx
  rw [ExV] at hV
  obtain ⟨hop, hlp, hvr, -, hsV⟩ := hV
  rw [exN] at hN
  have hlen : l.length ≤ 100000 := by have := exsN_len l; omega
  refine enterA2 Try.func90 rfl rfl rfl ?_
  refine zS ?_; refine zR ?_
  refine zw rfl WrA.bx ?_
  rintro _ _ _ ⟨g3, rfl, rfl, rfl⟩
  refine zN ?_; refine zT ?_; refine zS ?_; refine zS ?_; refine zR ?_; refine zO rfl (Rd.fA rfl) ?_; refine zO rfl (Rd.ldC rfl (tyrow rfl) rfl) ?_; refine zO rfl (Rd.lenSlice (tyrow rfl) rfl rfl) ?_; refine zO rfl Rd.mv ?_; refine zN ?_; refine zT ?_
  refine XA.block ?_
  refine XA.gen [(0, _), (3, _), (8, _), (9, _), (10, _)] ⟨(by with_reducible (conv => lhs; whnf)), (by with_reducible (conv => lhs; whnf)), (by with_reducible (conv => lhs; whnf)), (by with_reducible (conv => lhs; whnf)), (by with_reducible (conv => lhs; whnf)), trivial⟩ (fun δ => ?_)
  dsimp only [List.foldl]
  refine XA.loop [(5, 5), (10, 17)] (fun i : Nat => [(10, i64 i)]) (fun i σ' Γ' => σ = σ' ∧ i ≤ l.length ∧ ∃ (p' : Option Addr) (c' : Nat) (M : List In), M = L ++ exsCode pr.vars (l.take i) ∧ Γ' = [blk b [.slice pv pr.vars.length cv, bs, .slice p' M.length c'] 100, lst 104 4 (.slice p' M.length c') M.length (insC M), blk g3 [i64 op, i64 v, i64 k, .slice pl l.length cl] 93]) (fun i => l.length - i) 0 (by exact ⟨rfl, trivial⟩) (Δ0 := _) ?_ (⟨rfl, Nat.zero_le _, p, c, L, by simp [exsCode], rfl⟩) ?_
  · exact zE
  rintro i δ _ _ ⟨rfl, hi, p', c', M, hM, rfl⟩
  dsimp only [ovr, List.foldl]
  have hMl : M.length + exsN (l.drop i) + 1 ≤ 100000 := by
    have h2 := exsN_app (l.take i) (l.drop i); rw [List.take_append_drop] at h2
    rw [hM, List.length_append, exsCode_len]; omega
  refine zS ?_; refine zR ?_; refine zO rfl (Rd.lss rfl rfl) ?_; refine zN ?_; refine zT ?_; refine zS ?_
  refine XA.condp rfl (fun hlt => ?_) (fun hlt => ?_)
  · have hlt : i < l.length := by omega
    obtain ⟨x', hx'⟩ : ∃ x', l[i]? = some x' := ⟨_, List.getElem?_eq_getElem hlt⟩
    obtain ⟨g, o, row, rfl, hrx, hrl, hrow⟩ := hl.at hx'
    have hmem := List.mem_of_getElem? hx'
    have hone := hrx.ones
    have hdx : l.drop i = x' :: l.drop (i + 1) := drop_get hx'
    have hNx : exN x' ≤ exsN (l.drop i) := exsN_mem (by rw [hdx]; simp)
    refine XA.skip ?_
    refine zT ?_; refine zS ?_
    refine XA.block ?_
    refine zS ?_; refine zR ?_
    refine zO rfl (Rd.ixS rfl rfl) ?_
    refine zO rfl (Rd.ldA rfl) ?_
    refine zw rfl (WrA.alloc (tyrow rfl)) ?_
    rintro _ _ _ ⟨g5, rfl, rfl, rfl⟩
    refine zw rfl (WrA.st (tyrow rfl) rfl) ?_
    rintro _ _ _ ⟨rfl, rfl, rfl⟩
    refine zN ?_; refine zT ?_; refine zR ?_; refine zO rfl Rd.mv ?_; refine zO rfl (Rd.ldA rfl) ?_
    refine zw rfl (WrA.cE (ih x' hmem row b pv cv bs p' c' M hp hrx (hsV.mem x' hmem) (by omega)) rfl) ?_
    rintro _ _ _ ⟨_, ⟨p2, c2, rfl, rfl, rfl⟩, rfl⟩
    refine XOA.cl ?_
    refine zN ?_
    refine DA.inb_normal ?_
    refine zT ?_; refine zR ?_
    refine zO rfl (by first | exact Rd.adi rfl rfl | exact Rd.add rfl rfl) ?_
    refine zO rfl Rd.mv ?_; refine zN ?_; refine zT ?_
    refine ⟨(Keep.upd (Keep.upd (Keep.updO (Keep.upd (Keep.upd (Keep.updN (Keep.updO (Keep.upd (Keep.upd (Keep.upd (Keep.upd (Keep.hav (Keep.hav (Keep.refl _ _) rfl) rfl) rfl) rfl) rfl) rfl) rfl)) rfl) rfl) rfl) rfl) rfl), i + 1, _, (by (repeat (first | exact trivial | refine ⟨rfl, ?_⟩ | refine ⟨Eq.trans rfl (congrArg Value.bool hmat.symm), ?_⟩)); (first | done | fail)), ?_, ⟨rfl, hlt, p2, c2, M ++ exCode pr.vars x', by rw [hM, exsCode_snoc _ hx', List.append_assoc], rfl⟩, (by omega)⟩
    · exact zE
  have hil : i = l.length := by omega
  subst hil
  rw [List.take_length] at hM
  refine XA.exit ?_
  refine DA.thn_exit ?_
  refine DA.thn_exit ?_
  refine DA.inb_same ?_
  refine zT ?_; refine zS ?_; refine zR ?_; refine zO rfl (Rd.fA rfl) ?_; refine zO rfl (Rd.ldC rfl (tyrow rfl) rfl) ?_; refine zO rfl (Rd.fA rfl) ?_; refine zO rfl (Rd.ldC rfl (tyrow rfl) rfl) ?_
  refine zO rfl (Rd.bl (fun _ _ => tyrow) rfl rfl rfl) ?_
  refine zw rfl (WrA.alloc (tyrow rfl)) ?_
  rintro _ _ _ ⟨g6, rfl, rfl, rfl⟩
  refine zw rfl (WrA.st (tyrow rfl) rfl) ?_
  rintro _ _ _ ⟨rfl, rfl, rfl⟩
  refine zN ?_; refine zT ?_; refine zS ?_; refine zS ?_; refine zR ?_; refine zO rfl (Rd.fA rfl) ?_; refine zO rfl (Rd.ldC rfl (tyrow rfl) rfl) ?_; refine zN ?_; refine zT ?_
  refine XA.block ?_
  refine zS ?_; refine zR ?_; refine zO rfl (Rd.eql rfl rfl) ?_; refine zO rfl Rd.asg ?_; refine zN ?_; refine zT ?_
  have hMl2 : M.length ≤ 99999 := by omega
  have hfin : L ++ exCode pr.vars (.mk op v k l) = M ++ [opIn pr.vars op v k] := by rw [hM, exCode, List.append_assoc]
  rw [hfin]
  by_cases h2 : op = 2
  · subst h2
    have hop2 : opIn pr.vars 2 v k = ⟨2, cellOf pr.vars v, 0, k⟩ := rfl
    rw [hop2]
    refine XA.condT rfl rfl ?_
    refine zR ?_; refine zO rfl Rd.mv ?_; refine zO rfl (Rd.fA rfl) ?_; refine zO rfl (Rd.ldC rfl (tyrow rfl) rfl) ?_
    refine zw rfl (WrA.cE (cell_i σ b _ _ _ pr v hp hz hvl) rfl) ?_
    rintro _ _ _ ⟨_, ⟨rfl, rfl, rfl⟩, rfl⟩
    refine XOA.cl ?_
    refine zO rfl (Rd.fA rfl) ?_
    refine zw rfl (WrA.st (tyrow rfl) rfl) ?_
    rintro _ _ _ ⟨rfl, rfl, rfl⟩
    refine zN ?_
    refine DA.inb_normal ?_
    refine zT ?_; refine zR ?_; refine zO rfl Rd.mv ?_; refine zO rfl (Rd.ldA rfl) ?_
    refine zw rfl (WrA.cE (put_i σ b _ _ _ _ M ⟨2, cellOf pr.vars v, 0, k⟩ (by omega)) rfl) ?_
    rintro _ _ _ ⟨_, ⟨p7, c7, rfl, rfl, rfl⟩, rfl⟩
    refine XOA.cl ?_
    refine zN ?_
    exact bodyA.normal (ResA.none rfl) zE ⟨p7, c7, rfl, rfl, rfl⟩
  · by_cases h3 : op = 3
    · subst h3
      obtain ⟨hv0, hv1⟩ := hvr (.inr rfl)
      obtain ⟨vx, hvx⟩ : ∃ vx, pr.vars[v.toNat]? = some vx := ⟨_, List.getElem?_eq_getElem (by omega)⟩
      have hop3 : opIn pr.vars 3 v k = ⟨3, cellOf pr.vars v, vx.size, k⟩ := by rw [opIn, sizeV, hvx]; rfl
      rw [hop3]
      have hp0 := hp
      obtain ⟨vs', bs', heq, hpv, hpb⟩ := hp
      simp only [List.cons.injEq, and_true] at heq
      obtain ⟨rfl, rfl⟩ := heq
      obtain ⟨gg, oo, rowv, rfl, ⟨rfl, ⟨hz0, hz1⟩, hnm⟩, hrl, hrow⟩ := hpv.at hvx
      have r1 : PRow σ gg (oo + v.toNat * 2 + 1) [i64 vx.size] := hrow.sub (j := 1) rfl
      refine XA.condF rfl (by decide) ?_
      refine zS ?_; refine zR ?_; refine zO rfl (Rd.eql rfl rfl) ?_; refine zO rfl Rd.asg ?_; refine zN ?_; refine zT ?_
      refine XA.condT rfl rfl ?_
      refine XA.draw (by kernel_rfl) _ _ [17] [(0, .pu), (1, .pu), (2, .rd), (4, .pu), (5, .pu), (6, .pu), (7, .pu), (8, .rd), (9, .pu), (10, .rd), (11, .pu), (12, .pu), (13, .rd), (3, .wr), (14, .pu), (15, .wr), (16, .pu), (17, .wr)] (by kernel_rfl) (PH.sub.refl _) (Ent.sel (R := blk b _ _) (by ((repeat (first | with_reducible exact Sel.head | apply Sel.tail)); (first | done | fail))) (Ent.sel (R := blk g3 _ _) (by ((repeat (first | with_reducible exact Sel.head | apply Sel.tail)); (first | done | fail))) (Ent.nil _))) ?_
      refine zu rfl rfl Rd.mv ?_
      refine zu rfl rfl (Rd.fA rfl) ?_
      refine XPA.rd rfl rfl Gd.free (Rd.ldC rfl (tyrow rfl) rfl) ?_
      refine zu rfl rfl Rd.mv ?_
      refine zu rfl rfl (Rd.nilCheck rfl) ?_
      refine zu rfl rfl (Rd.fA rfl) ?_
      refine zu rfl rfl (Rd.fA rfl) ?_
      refine XPA.rd rfl rfl Gd.free (Rd.ldC rfl (tyrow rfl) rfl) ?_
      refine zu rfl rfl (Rd.fA rfl) ?_
      refine XPA.rd rfl rfl Gd.free (Rd.ldC rfl (tyrow rfl) rfl) ?_
      refine zu rfl rfl (Rd.ixS rfl rfl) ?_
      refine zu rfl rfl (Rd.fA rfl) ?_
      refine XPA.rd rfl rfl Gd.free (Rd.ldC rfl (tyrow rfl) rfl) ?_
      refine XPA.wr0 rfl rfl Gd.free (WrA.cE (cell_i σ b _ _ _ pr v hp0 hz hvl) rfl) ?_
      rintro _ _ _ ⟨_, ⟨rfl, rfl, rfl⟩, rfl⟩
      refine stays (XPA.cl ?_)
      refine zu rfl rfl (Rd.fA rfl) ?_
      refine XPA.wr0 rfl rfl Gd.free (WrA.st (tyrow rfl) rfl) ?_
      rintro _ _ _ ⟨rfl, rfl, rfl⟩
      refine stays ?_
      refine zu rfl rfl (Rd.fA rfl) ?_
      refine XPA.wrZ0 rfl rfl Gd.free (by kernel_rfl) (WrA.st (tyrow rfl) rfl) ?_
      rintro _ _ _ ⟨rfl, rfl, rfl⟩
      refine XPA.nil ?_
      refine DA.inb_normal ?_
      refine zT ?_; refine zR ?_; refine zO rfl Rd.mv ?_; refine zO rfl (Rd.ldA rfl) ?_
      refine zw rfl (WrA.cE (put_i σ b _ _ _ _ M ⟨3, cellOf pr.vars v, vx.size, k⟩ (by omega)) rfl) ?_
      rintro _ _ _ ⟨_, ⟨p7, c7, rfl, rfl, rfl⟩, rfl⟩
      refine XOA.cl ?_
      refine zN ?_
      exact bodyA.normal (ResA.none rfl) zE ⟨p7, c7, rfl, rfl, rfl⟩
    · have hop4 : opIn pr.vars op v k = ⟨op, 0, 0, k⟩ := by rw [opIn, if_neg (by omega), if_neg h3]
      rw [hop4]
      refine XA.condF rfl (decide_eq_false h2) ?_
      refine zS ?_; refine zR ?_; refine zO rfl (Rd.eql rfl rfl) ?_; refine zO rfl Rd.asg ?_; refine zN ?_; refine zT ?_
      refine XA.condF rfl (decide_eq_false h3) ?_
      refine XA.skip ?_
      refine DA.inb_normal ?_
      refine zT ?_; refine zR ?_; refine zO rfl Rd.mv ?_; refine zO rfl (Rd.ldA rfl) ?_
      refine zw rfl (WrA.cE (put_i σ b _ _ _ _ M ⟨op, 0, 0, k⟩ (by omega)) rfl) ?_
      rintro _ _ _ ⟨_, ⟨p7, c7, rfl, rfl, rfl⟩, rfl⟩
      refine XOA.cl ?_
      refine zN ?_
      exact bodyA.normal (ResA.none rfl) zE ⟨p7, c7, rfl, rfl, rfl⟩
end Go.Proofs.Ytmnmcjdgnpgchaa

namespace Go.Proofs.Ytmnmcjdgnpgchaa
open Go X
set_option maxHeartbeats 1000000
theorem lst_openW {e size n c : Nat} {p : Option Addr} {xs : List Value} (hn : 0 < n) : ∀ m, lst e size (.slice p n c) n xs m → ∃ x : Nat × List Value, (p = some ⟨x.1, 0, none⟩ ∧ n ≤ c ∧ c ≤ maxLen ∧ xs.length = n * size ∧ c * size ≤ (xs ++ x.2).length) ∧ Sat [blk x.1 (xs ++ x.2) e] m := by
  rintro m ⟨h1, ⟨h2, rfl⟩ | ⟨g, cap, h2, cur, h3, h4, h5, h6, h7⟩⟩
  · exact absurd hn (Nat.lt_irrefl _)
  · simp only [Value.slice.injEq] at h2
    obtain ⟨rfl, -, rfl⟩ := h2
    refine ⟨(g, cur.drop (n * size)), ⟨rfl, h4, h5, h1, ?_⟩, m, PH.none, ?_, trivial, PH.none_dis m, .refl m, PH.none_sub m⟩
    · rw [← h7, List.take_append_drop]; exact h6
    · rw [← h7, List.take_append_drop]; exact h3
theorem lst_close {e size n c g : Nat} {xs rest : List Value} (hl : xs.length = n * size) (hn : n ≤ c) (hm : c ≤ maxLen) (hc : c * size ≤ (xs ++ rest).length) : ∀ m, Sat [blk g (xs ++ rest) e] m → lst e size (.slice (some ⟨g, 0, none⟩) n c) n xs m := fun m h =>
  ⟨hl, .inr ⟨g, c, rfl, xs ++ rest, of_sat1 blk_mono h, hn, hm, hc, by rw [← hl]; simp⟩⟩
theorem insC_patch (A Z : List In) (x : In) (v : Int) (rest : List Value) : splice (insC (A ++ x :: Z) ++ rest) (A.length * 4 + 1) [i64 v] = insC (A ++ { x with a := v } :: Z) ++ rest := by
  have e1 : insC (A ++ x :: Z) ++ rest = (insC A ++ [i64 x.op]) ++ i64 x.a :: ([i64 x.b, i64 x.n] ++ insC Z ++ rest) := by simp [insC, inC]
  have e2 : insC (A ++ { x with a := v } :: Z) ++ rest = (insC A ++ [i64 x.op]) ++ i64 v :: ([i64 x.b, i64 x.n] ++ insC Z ++ rest) := by simp [insC, inC]
  have e3 : (insC A ++ [i64 x.op]).length = A.length * 4 + 1 := by rw [List.length_append, insC_len]; rfl
  rw [e1, e2, splice, ← e3, List.take_left, List.append_assoc]
  congr 1
  rw [List.length_singleton, List.drop_length_add_append]; rfl
theorem stCode_5 (vs : List Va) (v : Int) (e f : Ex) (body els : List St) (k : Nat) : stCode vs (.mk 5 v e f body els) k = exCode vs e ++ [⟨13, (k + (exCode vs e).length + 1 + (stsCode vs body (k + (exCode vs e).length + 1)).length + 1 : Nat), 0, 0⟩] ++ stsCode vs body (k + (exCode vs e).length + 1) ++ [⟨14, (k : Nat), 0, 0⟩] := by rw [stCode]; rfl
theorem stCode_6 (vs : List Va) (v : Int) (e f : Ex) (body els : List St) (k : Nat) : stCode vs (.mk 6 v e f body els) k = exCode vs e ++ [⟨13, (k + (exCode vs e).length + 1 + (stsCode vs body (k + (exCode vs e).length + 1)).length + 1 : Nat), 0, 0⟩] ++ stsCode vs body (k + (exCode vs e).length + 1) ++ [⟨14, (k + (exCode vs e).length + 1 + (stsCode vs body (k + (exCode vs e).length + 1)).length + 1 + (stsCode vs els (k + (exCode vs e).length + 1 + (stsCode vs body (k + (exCode vs e).length + 1)).length + 1)).length : Nat), 0, 0⟩] ++ stsCode vs els (k + (exCode vs e).length + 1 + (stsCode vs body (k + (exCode vs e).length + 1)).length + 1) := by rw [stCode]; rfl
def StmtI (σ : PH) (pr : Pr) (x : St) : Prop := ∀ (cs : List Value) (b : Nat) (pv : Option Addr) (cv : Nat) (bs : Value) (p : Option Addr) (c : Nat) (L : List In),
  PrAt σ [.slice pv pr.vars.length cv, bs] pr → StAt σ cs x → StV pr.vars.length x → L.length + stN x ≤ 100000 →
  CallsA Try.prog 72 #[ptr b, .agg cs.toArray] σ [blk b [.slice pv pr.vars.length cv, bs, .slice p (L).length c] 100, lst 104 4 (.slice p (L).length c) (L).length (insC (L))]
    (RetA fun v σ' Γ' => ∃ p' c', v = .tuple #[] ∧ σ = σ' ∧ Γ' = [blk b [.slice pv pr.vars.length cv, bs, .slice p' (L ++ stCode pr.vars x L.length).length c'] 100, lst 104 4 (.slice p' (L ++ stCode pr.vars x L.length).length c') (L ++ stCode pr.vars x L.length).length (insC (L ++ stCode pr.vars x L.length))])
theorem stsN_mem : ∀ {l : List St} {x : St}, x ∈ l → stN x ≤ stsN l
  | y :: l, x, h => by
    rw [stsN]
    rcases List.mem_cons.1 h with rfl | h
    · omega
    · have := stsN_mem h; omega
theorem list_i (σ : PH) (pr : Pr) (l : List St) (ih : ∀ x ∈ l, StmtI σ pr x) (sl : Value) (b : Nat) (pv : Option Addr) (cv : Nat) (bs : Value) (p : Option Addr) (c : Nat) (L : List In)
    (hp : PrAt σ [.slice pv pr.vars.length cv, bs] pr) (hl : PSl 12 StAt σ sl l) (hsV : StsV pr.vars.length l) (hN : L.length + stsN l ≤ 100000) :
    CallsA Try.prog 42 #[ptr b, sl] σ [blk b [.slice pv pr.vars.length cv, bs, .slice p (L).length c] 100, lst 104 4 (.slice p (L).length c) (L).length (insC (L))]
      (RetA fun v σ' Γ' => ∃ p' c', v = .tuple #[] ∧ σ = σ' ∧ Γ' = [blk b [.slice pv pr.vars.length cv, bs, .slice p' (L ++ stsCode pr.vars l L.length).length c'] 100, lst 104 4 (.slice p' (L ++ stsCode pr.vars l L.length).length c') (L ++ stsCode pr.vars l L.length).length (insC (L ++ stsCode pr.vars l L.length))]) := by
  obtain ⟨pl, cl, rfl, hle, hmx⟩ := hl.shape
  have hlen : l.length ≤ 100000 := by have := stsN_len l; omega
  refine enterA2 Try.func42 rfl rfl rfl ?_
  refine zS ?_; refine zR ?_; refine zO rfl Rd.mv ?_; refine zO rfl (Rd.lenSlice (tyrow rfl) rfl rfl) ?_; refine zO rfl Rd.mv ?_; refine zN ?_; refine zT ?_
  refine XA.block ?_
  refine XA.gen [(0, _), (6, _), (7, _), (8, _)] ⟨(by with_reducible (conv => lhs; whnf)), (by with_reducible (conv => lhs; whnf)), (by with_reducible (conv => lhs; whnf)), (by with_reducible (conv => lhs; whnf)), trivial⟩ (fun δ => ?_)
  dsimp only [List.foldl]
  refine XA.loop [(5, 5), (8, 15)] (fun i : Nat => [(8, i64 i)]) (fun i σ' Γ' => σ = σ' ∧ i ≤ l.length ∧ ∃ (p' : Option Addr) (c' : Nat) (M : List In), M = L ++ stsCode pr.vars (l.take i) L.length ∧ Γ' = [blk b [.slice pv pr.vars.length cv, bs, .slice p' (M).length c'] 100, lst 104 4 (.slice p' (M).length c') (M).length (insC (M))]) (fun i => l.length - i) 0 (by exact ⟨rfl, trivial⟩) (Δ0 := _) ?_ (⟨rfl, Nat.zero_le _, p, c, L, by simp [stsCode], rfl⟩) ?_
  · exact zE
  rintro i δ _ _ ⟨rfl, hi, p', c', M, hM, rfl⟩
  dsimp only [ovr, List.foldl]
  have hMl : M.length + stsN (l.drop i) ≤ 100000 := by
    have h2 := stsN_app (l.take i) (l.drop i); rw [List.take_append_drop] at h2
    have h3 := stsCode_len pr.vars (l.take i) L.length
    rw [hM, List.length_append]; omega
  refine zS ?_; refine zR ?_; refine zO rfl (Rd.lss rfl rfl) ?_; refine zN ?_; refine zT ?_; refine zS ?_
  refine XA.condp rfl (fun hlt => ?_) (fun hlt => ?_)
  · have hlt : i < l.length := by omega
    obtain ⟨x', hx'⟩ : ∃ x', l[i]? = some x' := ⟨_, List.getElem?_eq_getElem hlt⟩
    obtain ⟨g, o, row, rfl, hrx, hrl, hrow⟩ := hl.at hx'
    have hmem := List.mem_of_getElem? hx'
    have hone := hrx.ones
    have hdx : l.drop i = x' :: l.drop (i + 1) := drop_get hx'
    have hNx : stN x' ≤ stsN (l.drop i) := stsN_mem (by rw [hdx]; simp)
    refine XA.skip ?_
    refine zT ?_; refine zS ?_
    refine XA.block ?_
    refine zS ?_; refine zR ?_
    refine zO rfl (Rd.ixS rfl rfl) ?_
    refine zO rfl (Rd.ldA rfl) ?_
    refine zw rfl (WrA.alloc (tyrow rfl)) ?_
    rintro _ _ _ ⟨g5, rfl, rfl, rfl⟩
    refine zw rfl (WrA.st (tyrow rfl) rfl) ?_
    rintro _ _ _ ⟨rfl, rfl, rfl⟩
    refine zN ?_; refine zT ?_; refine zR ?_; refine zO rfl Rd.mv ?_; refine zO rfl (Rd.ldA rfl) ?_
    refine zw rfl (WrA.cE (ih x' hmem row b pv cv bs p' c' M hp hrx (hsV.mem x' hmem) (by omega)) rfl) ?_
    rintro _ _ _ ⟨_, ⟨p2, c2, rfl, rfl, rfl⟩, rfl⟩
    refine XOA.cl ?_
    refine zN ?_
    refine DA.inb_normal ?_
    refine zT ?_; refine zR ?_
    refine zO rfl (by first | exact Rd.adi rfl rfl | exact Rd.add rfl rfl) ?_
    refine zO rfl Rd.mv ?_; refine zN ?_; refine zT ?_
    refine ⟨(Keep.upd (Keep.upd (Keep.updO (Keep.upd (Keep.upd (Keep.updN (Keep.updO (Keep.upd (Keep.upd (Keep.upd (Keep.upd (Keep.hav (Keep.hav (Keep.refl _ _) rfl) rfl) rfl) rfl) rfl) rfl) rfl)) rfl) rfl) rfl) rfl) rfl), i + 1, _, (by (repeat (first | exact trivial | refine ⟨rfl, ?_⟩ | refine ⟨Eq.trans rfl (congrArg Value.bool hmat.symm), ?_⟩)); (first | done | fail)), ?_, ⟨rfl, hlt, p2, c2, M ++ stCode pr.vars x' M.length, by rw [hM, stsCode_snoc _ hx', List.append_assoc, List.length_append], rfl⟩, (by omega)⟩
    · exact zE
  have hil : i = l.length := by omega
  subst hil
  rw [List.take_length] at hM
  rw [← hM]
  refine XA.exit ?_
  refine DA.thn_exit ?_
  refine DA.thn_exit ?_
  refine DA.inb_same ?_
  exact bodyA.normal (ResA.none rfl) zE ⟨p', c', rfl, rfl, rfl⟩
theorem stmt_i (σ : PH) (pr : Pr) (hz : ∀ x ∈ pr.vars, 0 ≤ x.size ∧ x.size ≤ 1000) (hvl : pr.vars.length ≤ 1000) (x : St) : StmtI σ pr x := by
  refine St.ind (P := StmtI σ pr) ?_ x
  intro op v ex fx body els ih jh cs b pv cv bs p c L hp hx hV hN
  obtain ⟨pe, de, pf, df, pb, cb, pl, cl, rfl, -, -, hxe, hxf, hxb, hxl⟩ := hx.inv12
  simp only [St.op, St.v, St.e, St.f, St.body, St.els] at hxe hxf hxb hxl ⊢
  clear hx
  rw [StV] at hV
  obtain ⟨hop, hv, he, hf, -, -, hsb, hse⟩ := hV
  rw [stN] at hN
  have hlE := exCode_len pr.vars ex
  have hlF := exCode_len pr.vars fx
  have e1 := exN_pos ex
  have e2 := exN_pos fx
  have hops : op = 1 ∨ op = 2 ∨ op = 3 ∨ op = 4 ∨ op = 7 ∨ op = 5 ∨ op = 6 := by omega
  rcases hops with rfl | rfl | rfl | rfl | rfl | h56
  · have hc : stCode pr.vars (.mk 1 v ex fx body els) L.length = exCode pr.vars ex ++ [⟨9, cellOf pr.vars v, 0, 0⟩] := by rw [stCode]; rfl
    rw [hc, ← List.append_assoc]
    refine enterA2 Try.func72 rfl rfl rfl ?_
    refine zS ?_; refine zR ?_
    refine zw rfl WrA.bx ?_
    rintro _ _ _ ⟨g3, rfl, rfl, rfl⟩
    refine zN ?_; refine zT ?_; refine zS ?_; refine zR ?_; refine zO rfl Rd.mv ?_; refine zO rfl (Rd.nilCheck rfl) ?_; refine zO rfl (Rd.fA rfl) ?_; refine zO rfl (Rd.ldC rfl (tyrow rfl) rfl) ?_; refine zO rfl (Rd.lenSlice (tyrow rfl) rfl rfl) ?_; refine zO rfl Rd.asg ?_; refine zN ?_; refine zT ?_; refine zS ?_
    refine zS ?_; refine zR ?_; refine zO rfl (Rd.fA rfl) ?_; refine zO rfl (Rd.ldC rfl (tyrow rfl) rfl) ?_
    refine zw rfl (WrA.cE (chas_a σ 1) rfl) ?_
    rintro _ _ _ ⟨_, ⟨rfl, rfl, rfl⟩, rfl⟩
    refine XOA.cl ?_
    refine zO rfl Rd.mv ?_
    refine zO rfl (Rd.extract rfl rfl) ?_
    refine zO rfl (Rd.extract rfl rfl) ?_
    refine zO rfl (Rd.extract rfl rfl) ?_
    refine zO rfl (Rd.extract rfl rfl) ?_
    refine zO rfl (Rd.extract rfl rfl) ?_
    refine zO rfl Rd.asg ?_; refine zO rfl Rd.asg ?_; refine zO rfl Rd.asg ?_; refine zO rfl Rd.asg ?_; refine zO rfl Rd.asg ?_; refine zN ?_; refine zT ?_; refine zS ?_; refine zR ?_; refine zO rfl Rd.mv ?_; refine zN ?_; refine zT ?_
    refine XA.condT rfl rfl ?_
    refine zR ?_; refine zO rfl Rd.mv ?_; refine zO rfl (Rd.fA rfl) ?_; refine zO rfl (Rd.ldA rfl) ?_
    refine zw rfl (WrA.cE (expr_i σ pr hz hvl ex _ b pv cv bs p c (L) hp hxe (he rfl).1 (by first | omega | (simp only [List.length_append, List.length_singleton]; omega))) rfl) ?_
    rintro _ _ _ ⟨_, ⟨p2, c2, rfl, rfl, rfl⟩, rfl⟩
    refine XOA.cl ?_
    refine zN ?_; refine zT ?_; refine zS ?_; refine zR ?_; refine zO rfl (Rd.fA rfl) ?_; refine zO rfl (Rd.ldC rfl (tyrow rfl) rfl) ?_; refine zN ?_; refine zT ?_
    refine XA.block ?_
    refine zS ?_; refine zR ?_; refine zO rfl (Rd.eql rfl rfl) ?_; refine zO rfl Rd.asg ?_; refine zN ?_; refine zT ?_
    refine XA.condT rfl rfl ?_
    refine zR ?_; refine zO rfl Rd.mv ?_; refine zO rfl Rd.mv ?_; refine zO rfl (Rd.fA rfl) ?_; refine zO rfl (Rd.ldC rfl (tyrow rfl) rfl) ?_
    refine zw rfl (WrA.cE (cell_i σ b _ _ _ pr v hp hz hvl) rfl) ?_
    rintro _ _ _ ⟨_, ⟨rfl, rfl, rfl⟩, rfl⟩
    refine XOA.cl ?_
    refine zO rfl (Rd.bl (fun _ _ => tyrow) rfl rfl rfl) ?_
    refine zw rfl (WrA.cE (put_i σ b _ _ _ _ (L ++ exCode pr.vars ex) ⟨9, cellOf pr.vars v, 0, 0⟩ (by first | omega | (simp only [List.length_append, List.length_singleton]; omega))) rfl) ?_
    rintro _ _ _ ⟨_, ⟨p7, c7, rfl, rfl, rfl⟩, rfl⟩
    refine XOA.cl ?_
    refine zN ?_
    refine DA.inb_normal ?_
    exact bodyA.normal (ResA.none rfl) zE ⟨p7, c7, rfl, rfl, rfl⟩
  · obtain ⟨hv0, hv1⟩ := hv rfl
    obtain ⟨vx, hvx⟩ : ∃ vx, pr.vars[v.toNat]? = some vx := ⟨_, List.getElem?_eq_getElem (by omega)⟩
    have hc : stCode pr.vars (.mk 2 v ex fx body els) L.length = exCode pr.vars ex ++ exCode pr.vars fx ++ [⟨10, cellOf pr.vars v, vx.size, 0⟩] := by rw [stCode, sizeV, hvx]; rfl
    rw [hc, ← List.append_assoc, ← List.append_assoc]
    have hp0 := hp
    obtain ⟨vs', bs', heq, hpv, hpb⟩ := hp0
    simp only [List.cons.injEq, and_true] at heq
    obtain ⟨rfl, rfl⟩ := heq
    obtain ⟨gg, oo, rowv, rfl, ⟨rfl, ⟨hz0, hz1⟩, hnm⟩, hrl, hrow⟩ := hpv.at hvx
    have r1 : PRow σ gg (oo + v.toNat * 2 + 1) [i64 vx.size] := hrow.sub (j := 1) rfl
    refine enterA2 Try.func72 rfl rfl rfl ?_
    refine zS ?_; refine zR ?_
    refine zw rfl WrA.bx ?_
    rintro _ _ _ ⟨g3, rfl, rfl, rfl⟩
    refine zN ?_; refine zT ?_; refine zS ?_; refine zR ?_; refine zO rfl Rd.mv ?_; refine zO rfl (Rd.nilCheck rfl) ?_; refine zO rfl (Rd.fA rfl) ?_; refine zO rfl (Rd.ldC rfl (tyrow rfl) rfl) ?_; refine zO rfl (Rd.lenSlice (tyrow rfl) rfl rfl) ?_; refine zO rfl Rd.asg ?_; refine zN ?_; refine zT ?_; refine zS ?_
    refine zS ?_; refine zR ?_; refine zO rfl (Rd.fA rfl) ?_; refine zO rfl (Rd.ldC rfl (tyrow rfl) rfl) ?_
    refine zw rfl (WrA.cE (chas_a σ 2) rfl) ?_
    rintro _ _ _ ⟨_, ⟨rfl, rfl, rfl⟩, rfl⟩
    refine XOA.cl ?_
    refine zO rfl Rd.mv ?_
    refine zO rfl (Rd.extract rfl rfl) ?_
    refine zO rfl (Rd.extract rfl rfl) ?_
    refine zO rfl (Rd.extract rfl rfl) ?_
    refine zO rfl (Rd.extract rfl rfl) ?_
    refine zO rfl (Rd.extract rfl rfl) ?_
    refine zO rfl Rd.asg ?_; refine zO rfl Rd.asg ?_; refine zO rfl Rd.asg ?_; refine zO rfl Rd.asg ?_; refine zO rfl Rd.asg ?_; refine zN ?_; refine zT ?_; refine zS ?_; refine zR ?_; refine zO rfl Rd.mv ?_; refine zN ?_; refine zT ?_
    refine XA.condT rfl rfl ?_
    refine zR ?_; refine zO rfl Rd.mv ?_; refine zO rfl (Rd.fA rfl) ?_; refine zO rfl (Rd.ldA rfl) ?_
    refine zw rfl (WrA.cE (expr_i σ pr hz hvl ex _ b _ cv bs p c (L) hp hxe (he rfl).1 (by first | omega | (simp only [List.length_append, List.length_singleton]; omega))) rfl) ?_
    rintro _ _ _ ⟨_, ⟨p2, c2, rfl, rfl, rfl⟩, rfl⟩
    refine XOA.cl ?_
    refine zN ?_; refine zT ?_; refine zS ?_; refine zR ?_; refine zO rfl (Rd.fA rfl) ?_; refine zO rfl (Rd.ldC rfl (tyrow rfl) rfl) ?_; refine zN ?_; refine zT ?_
    refine XA.block ?_
    refine zS ?_; refine zR ?_; refine zO rfl (Rd.eql rfl rfl) ?_; refine zO rfl Rd.asg ?_; refine zN ?_; refine zT ?_
    refine XA.condF rfl rfl ?_
    refine zS ?_; refine zR ?_; refine zO rfl (Rd.eql rfl rfl) ?_; refine zO rfl Rd.asg ?_; refine zN ?_; refine zT ?_
    refine XA.condT rfl rfl ?_
    refine zS ?_; refine zR ?_; refine zO rfl Rd.mv ?_; refine zO rfl (Rd.fA rfl) ?_; refine zO rfl (Rd.ldA rfl) ?_
    refine zw rfl (WrA.cE (expr_i σ pr hz hvl fx _ b _ cv bs p2 c2 (L ++ exCode pr.vars ex) hp hxf (hf rfl).1 (by first | omega | (simp only [List.length_append, List.length_singleton]; omega))) rfl) ?_
    rintro _ _ _ ⟨_, ⟨p3, c3, rfl, rfl, rfl⟩, rfl⟩
    refine XOA.cl ?_
    refine zN ?_; refine zT ?_
    refine XA.draw (by kernel_rfl) _ _ [16] [(0, .pu), (1, .pu), (2, .pu), (3, .rd), (5, .pu), (6, .pu), (7, .pu), (8, .pu), (9, .rd), (10, .pu), (11, .rd), (12, .pu), (13, .pu), (14, .rd), (4, .wr), (15, .pu), (16, .wr)] (by kernel_rfl) (PH.sub.refl _) (Ent.sel (R := blk b _ _) (by ((repeat (first | with_reducible exact Sel.head | apply Sel.tail)); (first | done | fail))) (Ent.sel (R := blk g3 _ _) (by ((repeat (first | with_reducible exact Sel.head | apply Sel.tail)); (first | done | fail))) (Ent.nil _))) ?_
    refine zu rfl rfl Rd.mv ?_
    refine zu rfl rfl Rd.mv ?_
    refine zu rfl rfl (Rd.fA rfl) ?_
    refine XPA.rd rfl rfl Gd.free (Rd.ldC rfl (tyrow rfl) rfl) ?_
    refine zu rfl rfl Rd.mv ?_
    refine zu rfl rfl (Rd.nilCheck rfl) ?_
    refine zu rfl rfl (Rd.fA rfl) ?_
    refine zu rfl rfl (Rd.fA rfl) ?_
    refine XPA.rd rfl rfl Gd.free (Rd.ldC rfl (tyrow rfl) rfl) ?_
    refine zu rfl rfl (Rd.fA rfl) ?_
    refine XPA.rd rfl rfl Gd.free (Rd.ldC rfl (tyrow rfl) rfl) ?_
    refine zu rfl rfl (Rd.ixS rfl rfl) ?_
    refine zu rfl rfl (Rd.fA rfl) ?_
    refine XPA.rd rfl rfl Gd.free (Rd.ldC rfl (tyrow rfl) rfl) ?_
    refine XPA.wr0 rfl rfl Gd.free (WrA.cE (cell_i σ b _ _ _ pr v hp hz hvl) rfl) ?_
    rintro _ _ _ ⟨_, ⟨rfl, rfl, rfl⟩, rfl⟩
    refine stays (XPA.cl ?_)
    refine zu rfl rfl (Rd.bl (fun _ _ => tyrow) rfl rfl rfl) ?_
    refine XPA.wrZ0 rfl rfl Gd.free (by kernel_rfl) (WrA.cE (put_i σ b _ _ _ _ (L ++ exCode pr.vars ex ++ exCode pr.vars fx) ⟨10, cellOf pr.vars v, vx.size, 0⟩ (by first | omega | (simp only [List.length_append, List.length_singleton]; omega))) rfl) ?_
    rintro _ _ _ ⟨_, ⟨p7, c7, rfl, rfl, rfl⟩, rfl⟩
    refine XPA.cl ?_
    refine XPA.nil ?_
    refine DA.inb_normal ?_
    exact bodyA.normal (ResA.none rfl) zE ⟨p7, c7, rfl, rfl, rfl⟩
  · have hc : stCode pr.vars (.mk 3 v ex fx body els) L.length = exCode pr.vars ex ++ [⟨11, 0, 0, 0⟩] := by rw [stCode]; rfl
    rw [hc, ← List.append_assoc]
    refine enterA2 Try.func72 rfl rfl rfl ?_
    refine zS ?_; refine zR ?_
    refine zw rfl WrA.bx ?_
    rintro _ _ _ ⟨g3, rfl, rfl, rfl⟩
    refine zN ?_; refine zT ?_; refine zS ?_; refine zR ?_; refine zO rfl Rd.mv ?_; refine zO rfl (Rd.nilCheck rfl) ?_; refine zO rfl (Rd.fA rfl) ?_; refine zO rfl (Rd.ldC rfl (tyrow rfl) rfl) ?_; refine zO rfl (Rd.lenSlice (tyrow rfl) rfl rfl) ?_; refine zO rfl Rd.asg ?_; refine zN ?_; refine zT ?_; refine zS ?_
    refine zS ?_; refine zR ?_; refine zO rfl (Rd.fA rfl) ?_; refine zO rfl (Rd.ldC rfl (tyrow rfl) rfl) ?_
    refine zw rfl (WrA.cE (chas_a σ 3) rfl) ?_
    rintro _ _ _ ⟨_, ⟨rfl, rfl, rfl⟩, rfl⟩
    refine XOA.cl ?_
    refine zO rfl Rd.mv ?_
    refine zO rfl (Rd.extract rfl rfl) ?_
    refine zO rfl (Rd.extract rfl rfl) ?_
    refine zO rfl (Rd.extract rfl rfl) ?_
    refine zO rfl (Rd.extract rfl rfl) ?_
    refine zO rfl (Rd.extract rfl rfl) ?_
    refine zO rfl Rd.asg ?_; refine zO rfl Rd.asg ?_; refine zO rfl Rd.asg ?_; refine zO rfl Rd.asg ?_; refine zO rfl Rd.asg ?_; refine zN ?_; refine zT ?_; refine zS ?_; refine zR ?_; refine zO rfl Rd.mv ?_; refine zN ?_; refine zT ?_
    refine XA.condT rfl rfl ?_
    refine zR ?_; refine zO rfl Rd.mv ?_; refine zO rfl (Rd.fA rfl) ?_; refine zO rfl (Rd.ldA rfl) ?_
    refine zw rfl (WrA.cE (expr_i σ pr hz hvl ex _ b pv cv bs p c (L) hp hxe (he rfl).1 (by first | omega | (simp only [List.length_append, List.length_singleton]; omega))) rfl) ?_
    rintro _ _ _ ⟨_, ⟨p2, c2, rfl, rfl, rfl⟩, rfl⟩
    refine XOA.cl ?_
    refine zN ?_; refine zT ?_; refine zS ?_; refine zR ?_; refine zO rfl (Rd.fA rfl) ?_; refine zO rfl (Rd.ldC rfl (tyrow rfl) rfl) ?_; refine zN ?_; refine zT ?_
    refine XA.block ?_
    refine zS ?_; refine zR ?_; refine zO rfl (Rd.eql rfl rfl) ?_; refine zO rfl Rd.asg ?_; refine zN ?_; refine zT ?_
    refine XA.condF rfl rfl ?_
    refine zS ?_; refine zR ?_; refine zO rfl (Rd.eql rfl rfl) ?_; refine zO rfl Rd.asg ?_; refine zN ?_; refine zT ?_
    refine XA.condF rfl rfl ?_
    refine zS ?_; refine zR ?_; refine zO rfl (Rd.eql rfl rfl) ?_; refine zO rfl Rd.asg ?_; refine zN ?_; refine zT ?_
    refine XA.condT rfl rfl ?_
    refine zR ?_; refine zO rfl Rd.mv ?_
    refine zO rfl (Rd.bl (fun _ _ => tyrow) rfl rfl rfl) ?_
    refine zw rfl (WrA.cE (put_i σ b _ _ _ _ (L ++ exCode pr.vars ex) ⟨11, 0, 0, 0⟩ (by first | omega | (simp only [List.length_append, List.length_singleton]; omega))) rfl) ?_
    rintro _ _ _ ⟨_, ⟨p7, c7, rfl, rfl, rfl⟩, rfl⟩
    refine XOA.cl ?_
    refine zN ?_
    refine DA.inb_normal ?_
    exact bodyA.normal (ResA.none rfl) zE ⟨p7, c7, rfl, rfl, rfl⟩
  · have hc : stCode pr.vars (.mk 4 v ex fx body els) L.length = [⟨12, cellOf pr.vars v, 0, 0⟩] := by rw [stCode]; rfl
    rw [hc]
    refine enterA2 Try.func72 rfl rfl rfl ?_
    refine zS ?_; refine zR ?_
    refine zw rfl WrA.bx ?_
    rintro _ _ _ ⟨g3, rfl, rfl, rfl⟩
    refine zN ?_; refine zT ?_; refine zS ?_; refine zR ?_; refine zO rfl Rd.mv ?_; refine zO rfl (Rd.nilCheck rfl) ?_; refine zO rfl (Rd.fA rfl) ?_; refine zO rfl (Rd.ldC rfl (tyrow rfl) rfl) ?_; refine zO rfl (Rd.lenSlice (tyrow rfl) rfl rfl) ?_; refine zO rfl Rd.asg ?_; refine zN ?_; refine zT ?_; refine zS ?_
    refine zS ?_; refine zR ?_; refine zO rfl (Rd.fA rfl) ?_; refine zO rfl (Rd.ldC rfl (tyrow rfl) rfl) ?_
    refine zw rfl (WrA.cE (chas_a σ 4) rfl) ?_
    rintro _ _ _ ⟨_, ⟨rfl, rfl, rfl⟩, rfl⟩
    refine XOA.cl ?_
    refine zO rfl Rd.mv ?_
    refine zO rfl (Rd.extract rfl rfl) ?_
    refine zO rfl (Rd.extract rfl rfl) ?_
    refine zO rfl (Rd.extract rfl rfl) ?_
    refine zO rfl (Rd.extract rfl rfl) ?_
    refine zO rfl (Rd.extract rfl rfl) ?_
    refine zO rfl Rd.asg ?_; refine zO rfl Rd.asg ?_; refine zO rfl Rd.asg ?_; refine zO rfl Rd.asg ?_; refine zO rfl Rd.asg ?_; refine zN ?_; refine zT ?_; refine zS ?_; refine zR ?_; refine zO rfl Rd.mv ?_; refine zN ?_; refine zT ?_
    refine XA.condF rfl rfl ?_
    refine XA.skip ?_
    refine zT ?_; refine zS ?_; refine zR ?_; refine zO rfl (Rd.fA rfl) ?_; refine zO rfl (Rd.ldC rfl (tyrow rfl) rfl) ?_; refine zN ?_; refine zT ?_
    refine XA.block ?_
    refine zS ?_; refine zR ?_; refine zO rfl (Rd.eql rfl rfl) ?_; refine zO rfl Rd.asg ?_; refine zN ?_; refine zT ?_
    refine XA.condF rfl rfl ?_
    refine zS ?_; refine zR ?_; refine zO rfl (Rd.eql rfl rfl) ?_; refine zO rfl Rd.asg ?_; refine zN ?_; refine zT ?_
    refine XA.condF rfl rfl ?_
    refine zS ?_; refine zR ?_; refine zO rfl (Rd.eql rfl rfl) ?_; refine zO rfl Rd.asg ?_; refine zN ?_; refine zT ?_
    refine XA.condF rfl rfl ?_
    refine zS ?_; refine zR ?_; refine zO rfl (Rd.eql rfl rfl) ?_; refine zO rfl Rd.asg ?_; refine zN ?_; refine zT ?_
    refine XA.condT rfl rfl ?_
    refine zR ?_; refine zO rfl Rd.mv ?_; refine zO rfl Rd.mv ?_; refine zO rfl (Rd.fA rfl) ?_; refine zO rfl (Rd.ldC rfl (tyrow rfl) rfl) ?_
    refine zw rfl (WrA.cE (cell_i σ b _ _ _ pr v hp hz hvl) rfl) ?_
    rintro _ _ _ ⟨_, ⟨rfl, rfl, rfl⟩, rfl⟩
    refine XOA.cl ?_
    refine zO rfl (Rd.bl (fun _ _ => tyrow) rfl rfl rfl) ?_
    refine zw rfl (WrA.cE (put_i σ b _ _ _ _ (L) ⟨12, cellOf pr.vars v, 0, 0⟩ (by first | omega | (simp only [List.length_append, List.length_singleton]; omega))) rfl) ?_
    rintro _ _ _ ⟨_, ⟨p7, c7, rfl, rfl, rfl⟩, rfl⟩
    refine XOA.cl ?_
    refine zN ?_
    refine DA.inb_normal ?_
    exact bodyA.normal (ResA.none rfl) zE ⟨p7, c7, rfl, rfl, rfl⟩
  · have hc : stCode pr.vars (.mk 7 v ex fx body els) L.length = [⟨15, 0, 0, 0⟩] := by rw [stCode]; rfl
    rw [hc]
    refine enterA2 Try.func72 rfl rfl rfl ?_
    refine zS ?_; refine zR ?_
    refine zw rfl WrA.bx ?_
    rintro _ _ _ ⟨g3, rfl, rfl, rfl⟩
    refine zN ?_; refine zT ?_; refine zS ?_; refine zR ?_; refine zO rfl Rd.mv ?_; refine zO rfl (Rd.nilCheck rfl) ?_; refine zO rfl (Rd.fA rfl) ?_; refine zO rfl (Rd.ldC rfl (tyrow rfl) rfl) ?_; refine zO rfl (Rd.lenSlice (tyrow rfl) rfl rfl) ?_; refine zO rfl Rd.asg ?_; refine zN ?_; refine zT ?_; refine zS ?_
    refine zS ?_; refine zR ?_; refine zO rfl (Rd.fA rfl) ?_; refine zO rfl (Rd.ldC rfl (tyrow rfl) rfl) ?_
    refine zw rfl (WrA.cE (chas_a σ 7) rfl) ?_
    rintro _ _ _ ⟨_, ⟨rfl, rfl, rfl⟩, rfl⟩
    refine XOA.cl ?_
    refine zO rfl Rd.mv ?_
    refine zO rfl (Rd.extract rfl rfl) ?_
    refine zO rfl (Rd.extract rfl rfl) ?_
    refine zO rfl (Rd.extract rfl rfl) ?_
    refine zO rfl (Rd.extract rfl rfl) ?_
    refine zO rfl (Rd.extract rfl rfl) ?_
    refine zO rfl Rd.asg ?_; refine zO rfl Rd.asg ?_; refine zO rfl Rd.asg ?_; refine zO rfl Rd.asg ?_; refine zO rfl Rd.asg ?_; refine zN ?_; refine zT ?_; refine zS ?_; refine zR ?_; refine zO rfl Rd.mv ?_; refine zN ?_; refine zT ?_
    refine XA.condF rfl rfl ?_
    refine XA.skip ?_
    refine zT ?_; refine zS ?_; refine zR ?_; refine zO rfl (Rd.fA rfl) ?_; refine zO rfl (Rd.ldC rfl (tyrow rfl) rfl) ?_; refine zN ?_; refine zT ?_
    refine XA.block ?_
    refine zS ?_; refine zR ?_; refine zO rfl (Rd.eql rfl rfl) ?_; refine zO rfl Rd.asg ?_; refine zN ?_; refine zT ?_
    refine XA.condF rfl rfl ?_
    refine zS ?_; refine zR ?_; refine zO rfl (Rd.eql rfl rfl) ?_; refine zO rfl Rd.asg ?_; refine zN ?_; refine zT ?_
    refine XA.condF rfl rfl ?_
    refine zS ?_; refine zR ?_; refine zO rfl (Rd.eql rfl rfl) ?_; refine zO rfl Rd.asg ?_; refine zN ?_; refine zT ?_
    refine XA.condF rfl rfl ?_
    refine zS ?_; refine zR ?_; refine zO rfl (Rd.eql rfl rfl) ?_; refine zO rfl Rd.asg ?_; refine zN ?_; refine zT ?_
    refine XA.condF rfl rfl ?_
    refine zS ?_; refine zS ?_; refine zR ?_; refine zO rfl (Rd.eql rfl rfl) ?_; refine zO rfl Rd.asg ?_; refine zN ?_; refine zT ?_
    refine XA.condF rfl rfl ?_
    refine zR ?_; refine zO rfl (Rd.eql rfl rfl) ?_; refine zO rfl Rd.asg ?_; refine zN ?_; refine zT ?_
    refine XA.condF rfl rfl ?_
    refine zS ?_; refine zR ?_; refine zO rfl (Rd.eql rfl rfl) ?_; refine zO rfl Rd.asg ?_; refine zN ?_; refine zT ?_
    refine XA.condT rfl rfl ?_
    refine zR ?_; refine zO rfl Rd.mv ?_
    refine zO rfl (Rd.bl (fun _ _ => tyrow) rfl rfl rfl) ?_
    refine zw rfl (WrA.cE (put_i σ b _ _ _ _ (L) ⟨15, 0, 0, 0⟩ (by first | omega | (simp only [List.length_append, List.length_singleton]; omega))) rfl) ?_
    rintro _ _ _ ⟨_, ⟨p7, c7, rfl, rfl, rfl⟩, rfl⟩
    refine XOA.cl ?_
    refine zN ?_
    refine DA.inb_normal ?_
    exact bodyA.normal (ResA.none rfl) zE ⟨p7, c7, rfl, rfl, rfl⟩
  · rcases h56 with rfl | rfl
    · obtain ⟨L1, hL1⟩ : ∃ L1, L1 = L ++ exCode pr.vars ex := ⟨_, rfl⟩
      have hL1l : L1.length = L.length + exN ex := by rw [hL1, List.length_append, hlE]
      obtain ⟨B, hB⟩ : ∃ B, B = stsCode pr.vars body (L1 ++ [(⟨13, 0, 0, 0⟩ : In)]).length := ⟨_, rfl⟩
      have hBl : B.length ≤ stsN body := by rw [hB]; exact stsCode_len _ _ _
      have hB2 : stsCode pr.vars body (L.length + (exCode pr.vars ex).length + 1) = B := by rw [hB]; congr 1; rw [List.length_append, hL1l, hlE]; rfl
      obtain ⟨O, hO⟩ : ∃ O, O = L1 ++ [(⟨13, 0, 0, 0⟩ : In)] ++ B := ⟨_, rfl⟩
      have hOl : O.length = L1.length + B.length + 1 := by rw [hO]; simp only [List.length_append, List.length_singleton]; omega
      obtain ⟨M, hM⟩ : ∃ M, M = O ++ [(⟨14, L.length, 0, 0⟩ : In)] := ⟨_, rfl⟩
      have hMl : M.length = L1.length + B.length + 2 := by rw [hM, hO]; simp only [List.length_append, List.length_singleton]; omega
      obtain ⟨M', hM'⟩ : ∃ M', M' = L1 ++ [(⟨13, M.length, 0, 0⟩ : In)] ++ B ++ [⟨14, L.length, 0, 0⟩] := ⟨_, rfl⟩
      have hMl' : M'.length = M.length := by rw [hMl, hM']; simp only [List.length_append, List.length_singleton]; omega
      have hspl0 : ∀ rest : List Value, splice (insC M ++ rest) (L1.length * 4 + 1) [i64 M.length] = insC M' ++ rest := fun rest => by
        have := insC_patch L1 (B ++ [⟨14, L.length, 0, 0⟩]) ⟨13, 0, 0, 0⟩ M.length rest
        rw [hM', hM, hO]; simp only [List.append_assoc, List.singleton_append, List.cons_append, List.nil_append] at this ⊢
        rw [hM, hO] at this; simpa only [List.append_assoc, List.singleton_append, List.cons_append, List.nil_append] using this
      have hc : L ++ stCode pr.vars (.mk 5 v ex fx body els) L.length = M' := by
        rw [stCode_5, hB2, hM', hMl, hL1l, hL1, hlE]
        simp only [List.append_assoc]
        rw [show L.length + exN ex + 1 + B.length + 1 = L.length + exN ex + B.length + 2 by omega]
      rw [hc]
      refine enterA2 Try.func72 rfl rfl rfl ?_
      refine zS ?_; refine zR ?_
      refine zw rfl WrA.bx ?_
      rintro _ _ _ ⟨g3, rfl, rfl, rfl⟩
      refine zN ?_; refine zT ?_; refine zS ?_; refine zR ?_; refine zO rfl Rd.mv ?_; refine zO rfl (Rd.nilCheck rfl) ?_; refine zO rfl (Rd.fA rfl) ?_; refine zO rfl (Rd.ldC rfl (tyrow rfl) rfl) ?_; refine zO rfl (Rd.lenSlice (tyrow rfl) rfl rfl) ?_; refine zO rfl Rd.asg ?_; refine zN ?_; refine zT ?_; refine zS ?_
      refine zS ?_; refine zR ?_; refine zO rfl (Rd.fA rfl) ?_; refine zO rfl (Rd.ldC rfl (tyrow rfl) rfl) ?_
      refine zw rfl (WrA.cE (chas_a σ 5) rfl) ?_
      rintro _ _ _ ⟨_, ⟨rfl, rfl, rfl⟩, rfl⟩
      refine XOA.cl ?_
      refine zO rfl Rd.mv ?_
      refine zO rfl (Rd.extract rfl rfl) ?_
      refine zO rfl (Rd.extract rfl rfl) ?_
      refine zO rfl (Rd.extract rfl rfl) ?_
      refine zO rfl (Rd.extract rfl rfl) ?_
      refine zO rfl (Rd.extract rfl rfl) ?_
      refine zO rfl Rd.asg ?_; refine zO rfl Rd.asg ?_; refine zO rfl Rd.asg ?_; refine zO rfl Rd.asg ?_; refine zO rfl Rd.asg ?_; refine zN ?_; refine zT ?_; refine zS ?_; refine zR ?_; refine zO rfl Rd.mv ?_; refine zN ?_; refine zT ?_
      refine XA.condT rfl rfl ?_
      refine zR ?_; refine zO rfl Rd.mv ?_; refine zO rfl (Rd.fA rfl) ?_; refine zO rfl (Rd.ldA rfl) ?_
      refine zw rfl (WrA.cE (expr_i σ pr hz hvl ex _ b pv cv bs p c (L) hp hxe (he rfl).1 (by first | omega | (simp only [List.length_append, List.length_singleton]; omega))) rfl) ?_
      rintro _ _ _ ⟨_, ⟨p2, c2, rfl, rfl, rfl⟩, rfl⟩
      refine XOA.cl ?_
      refine zN ?_; refine zT ?_; refine zS ?_; refine zR ?_; refine zO rfl (Rd.fA rfl) ?_; refine zO rfl (Rd.ldC rfl (tyrow rfl) rfl) ?_; refine zN ?_; refine zT ?_
      refine XA.block ?_
      refine zS ?_; refine zR ?_; refine zO rfl (Rd.eql rfl rfl) ?_; refine zO rfl Rd.asg ?_; refine zN ?_; refine zT ?_
      rw [← hL1]
      refine XA.condF rfl rfl ?_
      refine zS ?_; refine zR ?_; refine zO rfl (Rd.eql rfl rfl) ?_; refine zO rfl Rd.asg ?_; refine zN ?_; refine zT ?_
      refine XA.condF rfl rfl ?_
      refine zS ?_; refine zR ?_; refine zO rfl (Rd.eql rfl rfl) ?_; refine zO rfl Rd.asg ?_; refine zN ?_; refine zT ?_
      refine XA.condF rfl rfl ?_
      refine zS ?_; refine zR ?_; refine zO rfl (Rd.eql rfl rfl) ?_; refine zO rfl Rd.asg ?_; refine zN ?_; refine zT ?_
      refine XA.condF rfl rfl ?_
      refine zS ?_; refine zS ?_; refine zR ?_; refine zO rfl (Rd.eql rfl rfl) ?_; refine zO rfl Rd.asg ?_; refine zN ?_; refine zT ?_
      refine XA.condT rfl rfl ?_
      refine XA.skip ?_
      refine zT ?_
      refine XA.condT rfl rfl ?_
      refine zS ?_; refine zR ?_; refine zO rfl Rd.mv ?_
      refine zO rfl (Rd.bl (fun _ _ => tyrow) rfl rfl rfl) ?_
      refine zw rfl (WrA.cE (put_i σ b _ _ _ _ L1 ⟨13, 0, 0, 0⟩ (by omega)) rfl) ?_
      rintro _ _ _ ⟨_, ⟨p3, c3, rfl, rfl, rfl⟩, rfl⟩
      refine XOA.cl ?_
      refine zO rfl Rd.asg ?_; refine zN ?_; refine zT ?_; refine zS ?_; refine zR ?_; refine zO rfl Rd.mv ?_; refine zO rfl (Rd.fA rfl) ?_; refine zO rfl (Rd.ldC rfl (tyrow rfl) rfl) ?_
      refine zw rfl (WrA.cE (list_i σ pr body ih _ b pv cv bs p3 c3 (L1 ++ [⟨13, 0, 0, 0⟩]) hp hxb hsb (by first | omega | (simp only [List.length_append, List.length_singleton]; omega))) rfl) ?_
      rintro _ _ _ ⟨_, ⟨p4, c4, rfl, rfl, rfl⟩, rfl⟩
      refine XOA.cl ?_
      rw [← hB, ← hO]
      refine zN ?_; refine zT ?_; refine zS ?_; refine zR ?_; refine zO rfl Rd.mv ?_; refine zO rfl Rd.mv ?_
      refine zO rfl (Rd.bl (fun _ _ => tyrow) rfl rfl rfl) ?_
      refine zw rfl (WrA.cE (put_i σ b _ _ _ _ O ⟨14, L.length, 0, 0⟩ (by omega)) rfl) ?_
      rintro _ _ _ ⟨_, ⟨p5, c5, rfl, rfl, rfl⟩, rfl⟩
      refine XOA.cl ?_
      rw [← hM]
      first | refine XA.opn (R := lst 104 4 (.slice p5 M.length c5) _ _) (by ((repeat (first | with_reducible exact Sel.head | apply Sel.tail)); (first | done | fail))) (lst_openW (by omega)) ?_ | refine XOA.opn (R := lst 104 4 (.slice p5 M.length c5) _ _) (by ((repeat (first | with_reducible exact Sel.head | apply Sel.tail)); (first | done | fail))) (lst_openW (by omega)) ?_ | refine DA.opn (R := lst 104 4 (.slice p5 M.length c5) _ _) (by ((repeat (first | with_reducible exact Sel.head | apply Sel.tail)); (first | done | fail))) (lst_openW (by omega)) ?_
      rintro ⟨g5, rest5⟩ ⟨rfl, hc5, hm5, hx5, hr5⟩
      first | refine XA.cl ?_ | refine XOA.cl ?_ | refine DA.cl ?_
      have hspl := hspl0 rest5
      have hil := insC_len M
      have hil' : (insC M').length = M.length * 4 := by rw [insC_len, hMl']
      have hr5 : c5 * 4 ≤ (insC M ++ rest5).length := hr5
      have hfit : L1.length * 4 + 1 + ty3.size ≤ (insC M ++ rest5).length := by rw [List.length_append, hil]; show L1.length * 4 + 1 + 1 ≤ _; omega
      have hcl : c5 * 4 ≤ (insC M' ++ rest5).length := by rw [List.length_append] at hr5 ⊢; omega
      refine zO rfl Rd.asg ?_; refine zN ?_; refine zT ?_; refine zS ?_
      refine XA.draw (by kernel_rfl) _ _ [12] [(0, .pu), (1, .pu), (2, .pu), (3, .rd), (4, .pu), (5, .pu), (6, .pu), (7, .pu), (8, .rd), (9, .pu), (10, .pu), (11, .pu), (12, .wr)] (by kernel_rfl) (PH.sub.refl _) (Ent.sel (R := blk b _ _) (by ((repeat (first | with_reducible exact Sel.head | apply Sel.tail)); (first | done | fail))) (Ent.nil _)) ?_
      refine zu rfl rfl Rd.mv ?_
      refine zu rfl rfl (Rd.nilCheck rfl) ?_
      refine zu rfl rfl (Rd.fA rfl) ?_
      refine XPA.rd rfl rfl Gd.free (Rd.ldC rfl (tyrow rfl) rfl) ?_
      refine zu rfl rfl Rd.mv ?_
      refine zu rfl rfl Rd.mv ?_
      refine zu rfl rfl (Rd.nilCheck rfl) ?_
      refine zu rfl rfl (Rd.fA rfl) ?_
      refine XPA.rd rfl rfl Gd.free (Rd.ldC rfl (tyrow rfl) rfl) ?_
      refine zu rfl rfl (Rd.lenSlice (tyrow rfl) rfl rfl) ?_
      refine zu rfl rfl (Rd.ixS rfl rfl) ?_
      refine zu rfl rfl (Rd.fA rfl) ?_
      refine XPA.wrZ0 rfl rfl Gd.free (by kernel_rfl) (WrA.st (tyrow rfl) rfl) ?_
      rintro _ _ _ ⟨rfl, rfl, rfl⟩
      refine XPA.nil ?_
      refine zT ?_; refine zS ?_; refine zR ?_; refine zO rfl (Rd.fA rfl) ?_; refine zO rfl (Rd.ldC rfl (tyrow rfl) rfl) ?_; refine zO rfl (Rd.eql rfl rfl) ?_; refine zN ?_; refine zT ?_
      refine XA.condF rfl rfl ?_
      refine XA.skip ?_
      refine DA.inb_normal ?_
      refine DA.ent (Ent.foldC (Θ := [blk g5 (insC M' ++ rest5) 104]) (by (repeat (first | exact Ent.all _ | (apply Ent.take; focus (first | ((repeat (first | with_reducible exact Sel.head | apply Sel.tail)); done) | ((repeat (first | exact Sel.head | apply Sel.tail)); done))) | apply Ent.takeNil | apply Ent.takeEmp)); (first | done | fail)) (lst_close (n := M.length) (c := c5) (rest := rest5) hil' hc5 hm5 hcl) (Ent.refl _)) ?_
      rw [hMl']
      exact bodyA.normal (ResA.none rfl) zE ⟨some ⟨g5, 0, none⟩, c5, rfl, rfl, rfl⟩
    · obtain ⟨L1, hL1⟩ : ∃ L1, L1 = L ++ exCode pr.vars ex := ⟨_, rfl⟩
      have hL1l : L1.length = L.length + exN ex := by rw [hL1, List.length_append, hlE]
      obtain ⟨B, hB⟩ : ∃ B, B = stsCode pr.vars body (L1 ++ [(⟨13, 0, 0, 0⟩ : In)]).length := ⟨_, rfl⟩
      have hBl : B.length ≤ stsN body := by rw [hB]; exact stsCode_len _ _ _
      have hB2 : stsCode pr.vars body (L.length + (exCode pr.vars ex).length + 1) = B := by rw [hB]; congr 1; rw [List.length_append, hL1l, hlE]; rfl
      obtain ⟨O, hO⟩ : ∃ O, O = L1 ++ [(⟨13, 0, 0, 0⟩ : In)] ++ B := ⟨_, rfl⟩
      have hOl : O.length = L1.length + B.length + 1 := by rw [hO]; simp only [List.length_append, List.length_singleton]; omega
      obtain ⟨M, hM⟩ : ∃ M, M = O ++ [(⟨14, L.length, 0, 0⟩ : In)] := ⟨_, rfl⟩
      have hMl : M.length = L1.length + B.length + 2 := by rw [hM, hO]; simp only [List.length_append, List.length_singleton]; omega
      obtain ⟨M', hM'⟩ : ∃ M', M' = L1 ++ [(⟨13, M.length, 0, 0⟩ : In)] ++ B ++ [⟨14, L.length, 0, 0⟩] := ⟨_, rfl⟩
      have hMl' : M'.length = M.length := by rw [hMl, hM']; simp only [List.length_append, List.length_singleton]; omega
      have hspl0 : ∀ rest : List Value, splice (insC M ++ rest) (L1.length * 4 + 1) [i64 M.length] = insC M' ++ rest := fun rest => by
        have := insC_patch L1 (B ++ [⟨14, L.length, 0, 0⟩]) ⟨13, 0, 0, 0⟩ M.length rest
        rw [hM', hM, hO]; simp only [List.append_assoc, List.singleton_append, List.cons_append, List.nil_append] at this ⊢
        rw [hM, hO] at this; simpa only [List.append_assoc, List.singleton_append, List.cons_append, List.nil_append] using this
      obtain ⟨Eb, hEb⟩ : ∃ Eb, Eb = stsCode pr.vars els M.length := ⟨_, rfl⟩
      have hEl : Eb.length ≤ stsN els := by rw [hEb]; exact stsCode_len _ _ _
      obtain ⟨M2, hM2⟩ : ∃ M2, M2 = M' ++ Eb := ⟨_, rfl⟩
      have hM2l : M2.length = M.length + Eb.length := by rw [hM2, List.length_append, hMl']
      obtain ⟨M3, hM3⟩ : ∃ M3, M3 = L1 ++ [(⟨13, M.length, 0, 0⟩ : In)] ++ B ++ [⟨14, M2.length, 0, 0⟩] ++ Eb := ⟨_, rfl⟩
      have hM3l : M3.length = M2.length := by rw [hM2l, hMl, hM3]; simp only [List.length_append, List.length_singleton]; omega
      have hspl6 : ∀ rest : List Value, splice (insC M2 ++ rest) (O.length * 4 + 1) [i64 M2.length] = insC M3 ++ rest := fun rest => by
        have := insC_patch (L1 ++ [(⟨13, M.length, 0, 0⟩ : In)] ++ B) Eb ⟨14, L.length, 0, 0⟩ M2.length rest
        have e : (L1 ++ [(⟨13, M.length, 0, 0⟩ : In)] ++ B).length = O.length := by rw [hOl]; simp only [List.length_append, List.length_singleton]; omega
        rw [e] at this
        rw [hM3]
        have e2 : insC M2 = insC (L1 ++ [(⟨13, M.length, 0, 0⟩ : In)] ++ B ++ ⟨14, L.length, 0, 0⟩ :: Eb) := by rw [hM2, hM']; simp only [List.append_assoc, List.singleton_append, List.cons_append, List.nil_append]
        rw [e2, this]; simp only [List.append_assoc, List.singleton_append, List.cons_append, List.nil_append]
      have hc : L ++ stCode pr.vars (.mk 6 v ex fx body els) L.length = M3 := by
        have e1 : L.length + (exCode pr.vars ex).length + 1 + B.length + 1 = M.length := by rw [hMl, hL1l, hlE]; omega
        rw [stCode_6, hB2, e1, ← hEb, hM3, hL1, hM2l]
        simp only [List.append_assoc]
      rw [hc]
      have hls := fun p c => list_i σ pr els jh (.slice pl els.length cl) b pv cv bs p c M' hp hxl hse (by omega)
      rw [hMl', ← hEb, ← hM2] at hls
      refine enterA2 Try.func72 rfl rfl rfl ?_
      refine zS ?_; refine zR ?_
      refine zw rfl WrA.bx ?_
      rintro _ _ _ ⟨g3, rfl, rfl, rfl⟩
      refine zN ?_; refine zT ?_; refine zS ?_; refine zR ?_; refine zO rfl Rd.mv ?_; refine zO rfl (Rd.nilCheck rfl) ?_; refine zO rfl (Rd.fA rfl) ?_; refine zO rfl (Rd.ldC rfl (tyrow rfl) rfl) ?_; refine zO rfl (Rd.lenSlice (tyrow rfl) rfl rfl) ?_; refine zO rfl Rd.asg ?_; refine zN ?_; refine zT ?_; refine zS ?_
      refine zS ?_; refine zR ?_; refine zO rfl (Rd.fA rfl) ?_; refine zO rfl (Rd.ldC rfl (tyrow rfl) rfl) ?_
      refine zw rfl (WrA.cE (chas_a σ 6) rfl) ?_
      rintro _ _ _ ⟨_, ⟨rfl, rfl, rfl⟩, rfl⟩
      refine XOA.cl ?_
      refine zO rfl Rd.mv ?_
      refine zO rfl (Rd.extract rfl rfl) ?_
      refine zO rfl (Rd.extract rfl rfl) ?_
      refine zO rfl (Rd.extract rfl rfl) ?_
      refine zO rfl (Rd.extract rfl rfl) ?_
      refine zO rfl (Rd.extract rfl rfl) ?_
      refine zO rfl Rd.asg ?_; refine zO rfl Rd.asg ?_; refine zO rfl Rd.asg ?_; refine zO rfl Rd.asg ?_; refine zO rfl Rd.asg ?_; refine zN ?_; refine zT ?_; refine zS ?_; refine zR ?_; refine zO rfl Rd.mv ?_; refine zN ?_; refine zT ?_
      refine XA.condT rfl rfl ?_
      refine zR ?_; refine zO rfl Rd.mv ?_; refine zO rfl (Rd.fA rfl) ?_; refine zO rfl (Rd.ldA rfl) ?_
      refine zw rfl (WrA.cE (expr_i σ pr hz hvl ex _ b pv cv bs p c (L) hp hxe (he rfl).1 (by first | omega | (simp only [List.length_append, List.length_singleton]; omega))) rfl) ?_
      rintro _ _ _ ⟨_, ⟨p2, c2, rfl, rfl, rfl⟩, rfl⟩
      refine XOA.cl ?_
      refine zN ?_; refine zT ?_; refine zS ?_; refine zR ?_; refine zO rfl (Rd.fA rfl) ?_; refine zO rfl (Rd.ldC rfl (tyrow rfl) rfl) ?_; refine zN ?_; refine zT ?_
      refine XA.block ?_
      refine zS ?_; refine zR ?_; refine zO rfl (Rd.eql rfl rfl) ?_; refine zO rfl Rd.asg ?_; refine zN ?_; refine zT ?_
      rw [← hL1]
      refine XA.condF rfl rfl ?_
      refine zS ?_; refine zR ?_; refine zO rfl (Rd.eql rfl rfl) ?_; refine zO rfl Rd.asg ?_; refine zN ?_; refine zT ?_
      refine XA.condF rfl rfl ?_
      refine zS ?_; refine zR ?_; refine zO rfl (Rd.eql rfl rfl) ?_; refine zO rfl Rd.asg ?_; refine zN ?_; refine zT ?_
      refine XA.condF rfl rfl ?_
      refine zS ?_; refine zR ?_; refine zO rfl (Rd.eql rfl rfl) ?_; refine zO rfl Rd.asg ?_; refine zN ?_; refine zT ?_
      refine XA.condF rfl rfl ?_
      refine zS ?_; refine zS ?_; refine zR ?_; refine zO rfl (Rd.eql rfl rfl) ?_; refine zO rfl Rd.asg ?_; refine zN ?_; refine zT ?_
      refine XA.condF rfl rfl ?_
      refine zR ?_; refine zO rfl (Rd.eql rfl rfl) ?_; refine zO rfl Rd.asg ?_; refine zN ?_; refine zT ?_
      refine XA.condT rfl rfl ?_
      refine zS ?_; refine zR ?_; refine zO rfl Rd.mv ?_
      refine zO rfl (Rd.bl (fun _ _ => tyrow) rfl rfl rfl) ?_
      refine zw rfl (WrA.cE (put_i σ b _ _ _ _ L1 ⟨13, 0, 0, 0⟩ (by omega)) rfl) ?_
      rintro _ _ _ ⟨_, ⟨p3, c3, rfl, rfl, rfl⟩, rfl⟩
      refine XOA.cl ?_
      refine zO rfl Rd.asg ?_; refine zN ?_; refine zT ?_; refine zS ?_; refine zR ?_; refine zO rfl Rd.mv ?_; refine zO rfl (Rd.fA rfl) ?_; refine zO rfl (Rd.ldC rfl (tyrow rfl) rfl) ?_
      refine zw rfl (WrA.cE (list_i σ pr body ih _ b pv cv bs p3 c3 (L1 ++ [⟨13, 0, 0, 0⟩]) hp hxb hsb (by first | omega | (simp only [List.length_append, List.length_singleton]; omega))) rfl) ?_
      rintro _ _ _ ⟨_, ⟨p4, c4, rfl, rfl, rfl⟩, rfl⟩
      refine XOA.cl ?_
      rw [← hB, ← hO]
      refine zN ?_; refine zT ?_; refine zS ?_; refine zR ?_; refine zO rfl Rd.mv ?_; refine zO rfl Rd.mv ?_
      refine zO rfl (Rd.bl (fun _ _ => tyrow) rfl rfl rfl) ?_
      refine zw rfl (WrA.cE (put_i σ b _ _ _ _ O ⟨14, L.length, 0, 0⟩ (by omega)) rfl) ?_
      rintro _ _ _ ⟨_, ⟨p5, c5, rfl, rfl, rfl⟩, rfl⟩
      refine XOA.cl ?_
      rw [← hM]
      first | refine XA.opn (R := lst 104 4 (.slice p5 M.length c5) _ _) (by ((repeat (first | with_reducible exact Sel.head | apply Sel.tail)); (first | done | fail))) (lst_openW (by omega)) ?_ | refine XOA.opn (R := lst 104 4 (.slice p5 M.length c5) _ _) (by ((repeat (first | with_reducible exact Sel.head | apply Sel.tail)); (first | done | fail))) (lst_openW (by omega)) ?_ | refine DA.opn (R := lst 104 4 (.slice p5 M.length c5) _ _) (by ((repeat (first | with_reducible exact Sel.head | apply Sel.tail)); (first | done | fail))) (lst_openW (by omega)) ?_
      rintro ⟨g5, rest5⟩ ⟨rfl, hc5, hm5, hx5, hr5⟩
      first | refine XA.cl ?_ | refine XOA.cl ?_ | refine DA.cl ?_
      have hspl := hspl0 rest5
      have hil := insC_len M
      have hil' : (insC M').length = M.length * 4 := by rw [insC_len, hMl']
      have hr5 : c5 * 4 ≤ (insC M ++ rest5).length := hr5
      have hfit : L1.length * 4 + 1 + ty3.size ≤ (insC M ++ rest5).length := by rw [List.length_append, hil]; show L1.length * 4 + 1 + 1 ≤ _; omega
      have hcl : c5 * 4 ≤ (insC M' ++ rest5).length := by rw [List.length_append] at hr5 ⊢; omega
      refine zO rfl Rd.asg ?_; refine zN ?_; refine zT ?_; refine zS ?_
      refine XA.draw (by kernel_rfl) _ _ [12] [(0, .pu), (1, .pu), (2, .pu), (3, .rd), (4, .pu), (5, .pu), (6, .pu), (7, .pu), (8, .rd), (9, .pu), (10, .pu), (11, .pu), (12, .wr)] (by kernel_rfl) (PH.sub.refl _) (Ent.sel (R := blk b _ _) (by ((repeat (first | with_reducible exact Sel.head | apply Sel.tail)); (first | done | fail))) (Ent.nil _)) ?_
      refine zu rfl rfl Rd.mv ?_
      refine zu rfl rfl (Rd.nilCheck rfl) ?_
      refine zu rfl rfl (Rd.fA rfl) ?_
      refine XPA.rd rfl rfl Gd.free (Rd.ldC rfl (tyrow rfl) rfl) ?_
      refine zu rfl rfl Rd.mv ?_
      refine zu rfl rfl Rd.mv ?_
      refine zu rfl rfl (Rd.nilCheck rfl) ?_
      refine zu rfl rfl (Rd.fA rfl) ?_
      refine XPA.rd rfl rfl Gd.free (Rd.ldC rfl (tyrow rfl) rfl) ?_
      refine zu rfl rfl (Rd.lenSlice (tyrow rfl) rfl rfl) ?_
      refine zu rfl rfl (Rd.ixS rfl rfl) ?_
      refine zu rfl rfl (Rd.fA rfl) ?_
      refine XPA.wrZ0 rfl rfl Gd.free (by kernel_rfl) (WrA.st (tyrow rfl) rfl) ?_
      rintro _ _ _ ⟨rfl, rfl, rfl⟩
      refine XPA.nil ?_
      refine zT ?_; refine zS ?_; refine zR ?_; refine zO rfl (Rd.fA rfl) ?_; refine zO rfl (Rd.ldC rfl (tyrow rfl) rfl) ?_; refine zO rfl (Rd.eql rfl rfl) ?_; refine zN ?_; refine zT ?_
      refine XA.condT rfl rfl ?_
      refine zS ?_; refine zR ?_; refine zO rfl Rd.mv ?_; refine zO rfl (Rd.fA rfl) ?_; refine zO rfl (Rd.ldC rfl (tyrow rfl) rfl) ?_
      refine XOA.ent (Ent.foldC (Θ := [blk g5 (insC M' ++ rest5) 104]) (by (repeat (first | exact Ent.all _ | (apply Ent.take; focus (first | ((repeat (first | with_reducible exact Sel.head | apply Sel.tail)); done) | ((repeat (first | exact Sel.head | apply Sel.tail)); done))) | apply Ent.takeNil | apply Ent.takeEmp)); (first | done | fail)) (lst_close (n := M.length) (c := c5) (rest := rest5) hil' hc5 hm5 hcl) (Ent.refl _)) ?_
      clear hspl hfit
      refine zw rfl (WrA.cE (hls _ _) rfl) ?_
      rintro _ _ _ ⟨_, ⟨p6, c6, rfl, rfl, rfl⟩, rfl⟩
      refine XOA.cl ?_
      first | refine XA.opn (R := lst 104 4 (.slice p6 M2.length c6) _ _) (by ((repeat (first | with_reducible exact Sel.head | apply Sel.tail)); (first | done | fail))) (lst_openW (by omega)) ?_ | refine XOA.opn (R := lst 104 4 (.slice p6 M2.length c6) _ _) (by ((repeat (first | with_reducible exact Sel.head | apply Sel.tail)); (first | done | fail))) (lst_openW (by omega)) ?_ | refine DA.opn (R := lst 104 4 (.slice p6 M2.length c6) _ _) (by ((repeat (first | with_reducible exact Sel.head | apply Sel.tail)); (first | done | fail))) (lst_openW (by omega)) ?_
      rintro ⟨g6, rest6⟩ ⟨rfl, hc6, hm6, hx6, hr6⟩
      first | refine XA.cl ?_ | refine XOA.cl ?_ | refine DA.cl ?_
      have hspl := hspl6 rest6
      have hil2 := insC_len M2
      have hil3 : (insC M3).length = M2.length * 4 := by rw [insC_len, hM3l]
      have hr6 : c6 * 4 ≤ (insC M2 ++ rest6).length := hr6
      have hfit : O.length * 4 + 1 + ty3.size ≤ (insC M2 ++ rest6).length := by rw [List.length_append, hil2]; show O.length * 4 + 1 + 1 ≤ _; omega
      have hcl6 : c6 * 4 ≤ (insC M3 ++ rest6).length := by rw [List.length_append] at hr6 ⊢; omega
      refine zN ?_; refine zT ?_
      refine XA.draw (by kernel_rfl) _ _ [12] [(0, .pu), (1, .pu), (2, .pu), (3, .rd), (4, .pu), (5, .pu), (6, .pu), (7, .pu), (8, .rd), (9, .pu), (10, .pu), (11, .pu), (12, .wr)] (by kernel_rfl) (PH.sub.refl _) (Ent.sel (R := blk b _ _) (by ((repeat (first | with_reducible exact Sel.head | apply Sel.tail)); (first | done | fail))) (Ent.nil _)) ?_
      refine zu rfl rfl Rd.mv ?_
      refine zu rfl rfl (Rd.nilCheck rfl) ?_
      refine zu rfl rfl (Rd.fA rfl) ?_
      refine XPA.rd rfl rfl Gd.free (Rd.ldC rfl (tyrow rfl) rfl) ?_
      refine zu rfl rfl Rd.mv ?_
      refine zu rfl rfl Rd.mv ?_
      refine zu rfl rfl (Rd.nilCheck rfl) ?_
      refine zu rfl rfl (Rd.fA rfl) ?_
      refine XPA.rd rfl rfl Gd.free (Rd.ldC rfl (tyrow rfl) rfl) ?_
      refine zu rfl rfl (Rd.lenSlice (tyrow rfl) rfl rfl) ?_
      refine zu rfl rfl (Rd.ixS rfl rfl) ?_
      refine zu rfl rfl (Rd.fA rfl) ?_
      refine XPA.wrZ0 rfl rfl Gd.free (by kernel_rfl) (WrA.st (tyrow rfl) rfl) ?_
      rintro _ _ _ ⟨rfl, rfl, rfl⟩
      refine XPA.nil ?_
      refine DA.inb_normal ?_
      refine DA.ent (Ent.foldC (Θ := [blk g6 (insC M3 ++ rest6) 104]) (by (repeat (first | exact Ent.all _ | (apply Ent.take; focus (first | ((repeat (first | with_reducible exact Sel.head | apply Sel.tail)); done) | ((repeat (first | exact Sel.head | apply Sel.tail)); done))) | apply Ent.takeNil | apply Ent.takeEmp)); (first | done | fail)) (lst_close (n := M2.length) (c := c6) (rest := rest6) hil3 hc6 hm6 hcl6) (Ent.refl _)) ?_
      rw [hM3l]
      exact bodyA.normal (ResA.none rfl) zE ⟨some ⟨g6, 0, none⟩, c6, rfl, rfl, rfl⟩
      
end Go.Proofs.Ytmnmcjdgnpgchaa

namespace Go.Proofs.Ytmnmcjdgnpgchaa
open Go X
set_option maxHeartbeats 1000000
def rIn : RT In := fun _ cs i => cs = inC i
theorem size_le : ∀ {l : List Va}, (∀ x ∈ l, 1 ≤ x.size) → ∀ x ∈ l, x.size ≤ sizes l
  | y :: l, h, x, hx => by
    have h1 := h y (by simp)
    have h2 := sizes_nonneg (l := l) (fun z hz => h z (by simp [hz]))
    rw [sizes_cons]
    rcases List.mem_cons.1 hx with rfl | hx
    · omega
    · have := size_le (l := l) (fun z hz => h z (by simp [hz])) x hx; omega
theorem check_small {p : Pr} (h : checkP p = 0) : (∀ x ∈ p.vars, 0 ≤ x.size ∧ x.size ≤ 1000) ∧ p.vars.length ≤ 1000 := by
  obtain ⟨-, h1, h2, h3⟩ := check_valid h
  exact ⟨fun x hx => by have a := h2 x hx; have b := size_le h2 x hx; omega, by omega⟩
theorem rows_in (σ : PH) (l : List In) : Rows_ 4 rIn σ (l.map inC) l :=
  ⟨by simp, fun r hr => by obtain ⟨i, -, rfl⟩ := List.mem_map.1 hr; rfl, fun k r x hr hx => by rw [List.getElem?_map, hx] at hr; simpa [rIn] using hr.symm⟩
theorem codeOf_len (p : Pr) : (codeOf p).length ≤ stsN p.body + 1 := by rw [codeOf, List.length_append]; have := stsCode_len p.vars p.body 0; simp; omega
theorem make_a (σ : PH) (cs : List Value) (p : Pr) (hp : PrAt σ cs p) (hN : stsN p.body ≤ 10000) :
    CallsA Try.prog 13 #[.agg cs.toArray] σ [] (RetA fun v σ' Γ' => ∃ sl, v = .tuple #[sl, i64 (checkP p)] ∧ PSl 4 rIn σ' sl (if checkP p = 0 then codeOf p else []) ∧ σ.sub σ' ∧ Γ' = []) := by
  have hp0 := hp
  obtain ⟨vs, bs, rfl, hv, hb⟩ := hp
  obtain ⟨pv, cv, rfl, hvl, hvm⟩ := hv.shape
  refine enterA1 Try.func13 rfl rfl rfl ?_
  refine zS ?_; refine zR ?_
  refine zw rfl WrA.bx ?_
  rintro _ _ _ ⟨g1, rfl, rfl, rfl⟩
  refine zO rfl Rd.asg ?_; refine zO rfl Rd.asg ?_; refine zN ?_; refine zT ?_; refine zS ?_; refine zS ?_; refine zR ?_; refine zO rfl (Rd.ldA rfl) ?_
  refine zw rfl (WrA.cE (check_a σ _ p hp0) rfl) ?_
  rintro _ _ _ ⟨_, ⟨rfl, rfl, rfl⟩, rfl⟩
  refine XOA.cl ?_
  refine zO rfl Rd.asg ?_; refine zN ?_; refine zT ?_; refine zS ?_; refine zR ?_; refine zO rfl Rd.mv ?_
  refine zO rfl (Rd.neq rfl rfl) ?_
  refine zN ?_; refine zT ?_
  refine XA.condp rfl (fun hc => ?_) (fun hc => ?_)
  · refine zS ?_
    refine zR ?_; refine zO rfl Rd.mv ?_; refine zO rfl Rd.asg ?_; refine zO rfl Rd.asg ?_; refine zN ?_; refine zT ?_
    refine XA.ret ?_
    refine DA.thn_ret ?_
    rw [if_neg hc]
    exact bodyA.ret (ResA.two rfl rfl rfl) (Ent.nil _) ⟨_, rfl, PSl.nil _ _ _, .refl _, rfl⟩
  have hc : checkP p = 0 := by omega
  obtain ⟨hz, hl⟩ := check_small hc
  obtain ⟨hV, -, -, -⟩ := check_valid hc
  refine XA.skip ?_
  refine zT ?_; refine zS ?_; refine zR ?_; refine zO rfl (Rd.ldA rfl) ?_
  refine zO rfl (Rd.bl (fun _ _ => tyrow) rfl rfl rfl) ?_
  refine zw rfl WrA.bx ?_
  rintro _ _ _ ⟨g13, rfl, rfl, rfl⟩
  refine zO rfl Rd.asg ?_; refine zN ?_; refine zT ?_; refine zS ?_; refine zR ?_; refine zO rfl Rd.mv ?_; refine zO rfl (Rd.fA rfl) ?_; refine zO rfl (Rd.ldC rfl (tyrow rfl) rfl) ?_
  have hls := fun b => list_i σ p p.body (fun x _ => stmt_i σ p hz hl x) bs b pv cv bs none 0 [] hp0 hb hV (by simp only [List.length_nil]; omega)
  simp only [List.nil_append, List.length_nil, show insC [] = [] from rfl] at hls
  refine zw rfl (WrA.cE (hls _) rfl) ?_
  rintro _ _ _ ⟨_, ⟨p7, c7, rfl, rfl, rfl⟩, rfl⟩
  refine XOA.cl ?_
  have hln := stsCode_len p.vars p.body 0
  refine zN ?_; refine zT ?_; refine zS ?_; refine zR ?_; refine zO rfl Rd.mv ?_
  refine zO rfl (Rd.bl (fun _ _ => tyrow) rfl rfl rfl) ?_
  refine zw rfl (WrA.cE (put_i σ _ _ _ _ _ (stsCode p.vars p.body 0) ⟨16, 0, 0, 0⟩ (by omega)) rfl) ?_
  rintro _ _ _ ⟨_, ⟨p8, c8, rfl, rfl, rfl⟩, rfl⟩
  refine XOA.cl ?_
  refine zN ?_; refine zT ?_; refine zS ?_; refine zR ?_; refine zO rfl Rd.mv ?_; refine zO rfl (Rd.nilCheck rfl) ?_; refine zO rfl (Rd.fA rfl) ?_; refine zO rfl (Rd.ldC rfl (tyrow rfl) rfl) ?_; refine zO rfl Rd.asg ?_; refine zO rfl Rd.asg ?_; refine zN ?_; refine zT ?_
  refine XA.ret ?_
  refine DA.frz (R := lst 104 4 _ _ _) (by ((repeat (first | with_reducible exact Sel.head | apply Sel.tail)); (first | done | fail))) lst_frz lst_frz_mono ?_
  rintro σ3 ⟨⟩ hf hs3
  rw [if_pos hc, hc]
  exact bodyA.ret (ResA.two rfl rfl rfl) (Ent.nil _) ⟨_, rfl, (rows_in σ3 (codeOf p)).psl rfl hf, hs3, rfl⟩
end Go.Proofs.Ytmnmcjdgnpgchaa

namespace Go.Proofs.Ytmnmcjdgnpgchaa
open Go X
set_option maxHeartbeats 1000000
end Go.Proofs.Ytmnmcjdgnpgchaa

namespace Go.Proofs.Ytmnmcjdgnpgchaa
open Go X
set_option maxHeartbeats 1000000
end Go.Proofs.Ytmnmcjdgnpgchaa

namespace Go.Proofs.Ytmnmcjdgnpgchaa
open Go X
set_option maxHeartbeats 1000000
structure Less (s s' : RS) : Prop where
  cl : s'.cells.length = s.cells.length
  left : s'.left ≤ s.left
  out : s'.out.length + s'.left ≤ s.out.length + s.left
theorem Less.refl (s : RS) : Less s s := ⟨rfl, Nat.le_refl _, Nat.le_refl _⟩
theorem Less.trans {a b c : RS} (h : Less a b) (k : Less b c) : Less a c := ⟨k.cl.trans h.cl, Nat.le_trans k.left h.left, Nat.le_trans k.out h.out⟩
end Go.Proofs.Ytmnmcjdgnpgchaa

namespace Go.Proofs.Ytmnmcjdgnpgchaa
open Go X
set_option maxHeartbeats 1000000
end Go.Proofs.Ytmnmcjdgnpgchaa

namespace Go.Proofs.Ytmnmcjdgnpgchaa
open Go X
set_option maxHeartbeats 2000000
end Go.Proofs.Ytmnmcjdgnpgchaa

namespace Go.Proofs.Ytmnmcjdgnpgchaa
open Go X
end Go.Proofs.Ytmnmcjdgnpgchaa

namespace Go.Proofs.Ytmnmcjdgnpgchaa
open Go X
set_option maxHeartbeats 1000000
section
variable {P : Program} {ρ : Env} {h : Heap} {ty : TypeId} {σ : PH} {Γ : List HP}
end
end Go.Proofs.Ytmnmcjdgnpgchaa

namespace Go.Proofs.Ytmnmcjdgnpgchaa
open Go X
set_option maxHeartbeats 1000000
section
variable {P : Program} {ρ : Env} {h : Heap} {ty : TypeId} {σ : PH} {Γ : List HP}
end
section
variable (σ : PH) (g10 g5 g6 g7 gr gc nc : Nat) (v0 v1 vi : Value) (po : Option Addr) (no co fuel left : Nat) (hf : fuel ≤ 3000) (hs : left ≤ fuel) (r0 r1 : List Value) (hr0 : r0.length = 3) (hr1 : r1.length = 1)
include hf hs hr0 hr1
end
end Go.Proofs.Ytmnmcjdgnpgchaa

namespace Go.Proofs.Ytmnmcjdgnpgchaa
open Go X
section
variable {P : Program} {ρ : Env} {σ : PH} {Γ : List HP}
end
end Go.Proofs.Ytmnmcjdgnpgchaa

namespace Go.Proofs.Ytmnmcjdgnpgchaa
open Go X
set_option maxHeartbeats 1000000
end Go.Proofs.Ytmnmcjdgnpgchaa

namespace Go.Proofs.Ytmnmcjdgnpgchaa
open Go X
set_option maxHeartbeats 1000000
theorem Ent.one {R S : HP} (h : ∀ m, R m → S m) : Ent [R] [S] := fun m ⟨m1, m2, a, b, c, d, e⟩ => ⟨m1, m2, h _ a, b, c, d, e⟩
end Go.Proofs.Ytmnmcjdgnpgchaa

namespace Go.Proofs.Ytmnmcjdgnpgchaa
open Go X
set_option maxHeartbeats 1000000
end Go.Proofs.Ytmnmcjdgnpgchaa

namespace Go.Proofs.Ytmnmcjdgnpgchaa
open Go X
set_option maxHeartbeats 1000000
end Go.Proofs.Ytmnmcjdgnpgchaa

namespace Go.Proofs.Ytmnmcjdgnpgchaa
open Go X
set_option maxHeartbeats 1000000
end Go.Proofs.Ytmnmcjdgnpgchaa

namespace Go.Proofs.Ytmnmcjdgnpgchaa
open Go X
set_option maxHeartbeats 1000000
end Go.Proofs.Ytmnmcjdgnpgchaa

namespace Go.Proofs.Ytmnmcjdgnpgchaa
open Go X
set_option maxHeartbeats 1000000
end Go.Proofs.Ytmnmcjdgnpgchaa

namespace Go.Proofs.Ytmnmcjdgnpgchaa
open Go X
set_option maxHeartbeats 1000000
section
variable {P : Program} {ρ : Env} {σ : PH} {Γ : List HP}
end
section
variable (σ : PH) (g : Nat) (v0 v1 v2 v4 v5 v6 v7 k0 k1 k2 k3 k4 k5 ov wr : Value)
end
end Go.Proofs.Ytmnmcjdgnpgchaa

namespace Go.Proofs.Ytmnmcjdgnpgchaa
open Go X
set_option maxHeartbeats 1000000
end Go.Proofs.Ytmnmcjdgnpgchaa

namespace Go.Proofs.Ytmnmcjdgnpgchaa
open Go X
set_option maxHeartbeats 1000000
theorem code_fit {p : Pr} (h : checkP p = 0) {i : Nat} {x : In} (hx : (codeOf p)[i]? = some x) :
    popA x.op ≤ hts ((codeOf p).take i) ∧ hts ((codeOf p).take (i + 1)) ≤ 24 ∧ ((x.op = 13 ∨ x.op = 14) → hts ((codeOf p).take (i + 1)) = 0) ∧ (x.op = 16 ↔ i = (codeOf p).length - 1) ∧ cellOk (sizes p.vars) x := by
  obtain ⟨hF, hz, -⟩ := code_fits h
  generalize stsCode p.vars p.body 0 = L at hF hz
  have hc : codeOf p = stsCode p.vars p.body 0 ++ [⟨16, 0, 0, 0⟩] := rfl
  obtain ⟨hF, hz, -⟩ := code_fits h
  rw [hc] at hx ⊢
  generalize stsCode p.vars p.body 0 = L at *
  have hlen : (L ++ [(⟨16, 0, 0, 0⟩ : In)]).length - 1 = L.length := by simp
  rw [hlen]
  by_cases hi : i < L.length
  · rw [List.getElem?_append_left hi] at hx
    have := Fit.at hF hx
    rw [List.take_append_of_le_length (by omega), List.take_append_of_le_length (by omega)]
    simp only [Int.zero_add] at this
    exact ⟨this.1, this.2.1, this.2.2.1, ⟨fun e => absurd e this.2.2.2.2, fun e => absurd e (by omega)⟩, this.2.2.2.1⟩
  · have hil : i < (L ++ [(⟨16, 0, 0, 0⟩ : In)]).length := (List.getElem?_eq_some_iff.1 hx).1
    rw [List.length_append, List.length_singleton] at hil
    have hie : i = L.length := by omega
    subst hie
    rw [List.getElem?_append_right (Nat.le_refl _), Nat.sub_self] at hx
    simp only [List.getElem?_cons_zero, Option.some.injEq] at hx
    subst hx
    rw [List.take_left, List.take_of_length_le (by simp), hts_app, hz, hts_one]
    refine ⟨by simp [popA], by simp [dl, popA, popB], fun g => by simp at g, ⟨fun _ => rfl, fun _ => rfl⟩, ⟨fun g => by simp at g, fun g => by simp at g⟩⟩
theorem code_jump {p : Pr} (h : checkP p = 0) {x : In} (hx : x ∈ codeOf p) (ho : x.op = 13 ∨ x.op = 14) : ∃ j : Nat, x.a = j ∧ j < (codeOf p).length ∧ hts ((codeOf p).take j) = 0 := by
  have hc : codeOf p = stsCode p.vars p.body 0 ++ [⟨16, 0, 0, 0⟩] := rfl
  obtain ⟨-, -, hJ⟩ := code_fits h
  rw [hc] at hx ⊢
  rcases List.mem_append.1 hx with hx | hx
  · obtain ⟨j, e, hj, hz⟩ := hJ x hx ho
    exact ⟨j, by rw [e]; congr 1; omega, by rw [List.length_append, List.length_singleton]; omega, by rw [List.take_append_of_le_length hj, hz]⟩
  · rw [List.mem_singleton.1 hx] at ho; simp at ho
end Go.Proofs.Ytmnmcjdgnpgchaa

namespace Go.Proofs.Ytmnmcjdgnpgchaa
open Go X
set_option maxHeartbeats 2000000
theorem pints_frz {σ : PH} {p : Option Addr} {n c : Nat} {xs : List Int} (hx : xs.length = n) (h : n ≤ c ∧ c ≤ maxLen ∧ (ints xs).length = n * 1 ∧ (0 < n → ∃ g o, p = some ⟨g, o, none⟩ ∧ PRow σ g o (ints xs))) : PInts σ (.slice p n c) xs := by
  subst hx
  exact ⟨p, c, rfl, h.1, h.2.1, h.2.2.2⟩
structure StepOk (code : List In) (inp : List Int) (b : Be) (x : In) : Prop where
  st : b.m.st = 0
  at_ : code[b.m.next]? = some x
  pop : popA x.op ≤ b.m.stack.length
  cell : cellOk b.m.cells.length x
  goto : (x.op = 13 ∨ x.op = 14) → 0 ≤ x.a
  stack : b.m.stack.length ≤ 900
  cells : b.m.cells.length ≤ 1000
  code : code.length ≤ 1000000
  rd : b.m.rd ≤ 1000000
  outs : b.out.length ≤ 1000000
  outn : b.m.outn ≤ b.out.length
end Go.Proofs.Ytmnmcjdgnpgchaa

namespace Go.Proofs.Ytmnmcjdgnpgchaa
open Go X
section
variable {C : List In} {inp : List Int}
def Goes (C : List In) (inp : List Int) (f : Nat) (b : Be) (f' : Nat) (b' : Be) : Prop := f' ≤ f ∧ runM C inp f b = ((runM C inp f' b').1, (runM C inp f' b').2 + (f - f'))
theorem Goes.refl (f : Nat) (b : Be) : Goes C inp f b f b := ⟨Nat.le_refl _, by simp⟩
theorem Goes.trans {f f1 f2 : Nat} {b b1 b2 : Be} (h : Goes C inp f b f1 b1) (k : Goes C inp f1 b1 f2 b2) : Goes C inp f b f2 b2 := by
  refine ⟨Nat.le_trans k.1 h.1, ?_⟩
  rw [h.2, k.2]
  have := h.1; have := k.1
  simp only [Prod.mk.injEq, true_and]; omega
def At_ (C : List In) (pc : Nat) (L : List In) : Prop := ∀ i x, L[i]? = some x → C[pc + i]? = some x
theorem At_.left {pc : Nat} {L M : List In} (h : At_ C pc (L ++ M)) : At_ C pc L := fun i x hx => h i x (by rw [List.getElem?_append_left (List.getElem?_eq_some_iff.1 hx).1]; exact hx)
theorem At_.one {pc : Nat} {x : In} (h : At_ C pc [x]) : C[pc]? = some x := h 0 x rfl
end
end Go.Proofs.Ytmnmcjdgnpgchaa

namespace Go.Proofs.Ytmnmcjdgnpgchaa
open Go X
structure MInv (p : Pr) (inp : List Int) (o : Nat) (m : Mi) : Prop where
  at_ : m.st = 0 → m.next < (codeOf p).length ∧ (m.stack.length : Int) = hts ((codeOf p).take m.next)
  cells : m.cells.length = (sizes p.vars).toNat
  outn : m.outn ≤ o
  rd : m.rd ≤ inp.length
theorem hts_le {p : Pr} (hc : checkP p = 0) {i : Nat} (hi : i < (codeOf p).length) : hts ((codeOf p).take i) ≤ 24 := by
  cases i with
  | zero => rw [List.take_zero, hts_nil]; decide
  | succ j =>
    obtain ⟨x, hx⟩ : ∃ x, (codeOf p)[j]? = some x := ⟨_, List.getElem?_eq_getElem (by omega)⟩
    exact (code_fit hc hx).2.1
theorem MInv.ok {p : Pr} {inp : List Int} {b : Be} (hc : checkP p = 0) (h : MInv p inp b.out.length b.m) (h0 : b.m.st = 0) (hi : inp.length ≤ 1000000) (ho : b.out.length ≤ 1000000) (hl : (codeOf p).length ≤ 1000000) : ∃ x, StepOk (codeOf p) inp b x := by
  obtain ⟨h1, h2⟩ := h.at_ h0
  obtain ⟨x, hx⟩ : ∃ x, (codeOf p)[b.m.next]? = some x := ⟨_, List.getElem?_eq_getElem h1⟩
  obtain ⟨f1, f2, f3, f4, f5⟩ := code_fit hc hx
  obtain ⟨-, -, hv1, h48⟩ := check_valid hc
  have h24 := hts_le hc h1
  have hcl := h.cells
  have hrd := h.rd
  have hsn : (0 : Int) ≤ sizes p.vars := sizes_nonneg hv1
  refine ⟨x, h0, hx, by omega, ?_, fun ho => ?_, by omega, by omega, hl, by omega, ho, h.outn⟩
  · rw [show ((b.m.cells.length : Nat) : Int) = sizes p.vars by omega]; exact f5
  · obtain ⟨j, e, -⟩ := code_jump hc (List.mem_of_getElem? hx) ho
    omega
theorem MInv.step {p : Pr} {inp : List Int} {b : Be} {x : In} {keep : Bool} (hc : checkP p = 0) (h : MInv p inp b.out.length b.m) (hk : StepOk (codeOf p) inp b x) :
    MInv p inp (stepB (codeOf p) inp keep b).out.length (stepB (codeOf p) inp keep b).m ∧ b.out.length ≤ (stepB (codeOf p) inp keep b).out.length ∧ (stepB (codeOf p) inp keep b).out.length ≤ b.out.length + 1 ∧ ((stepB (codeOf p) inp keep b).kept = b.kept ∨ (stepB (codeOf p) inp keep b).kept = (stepB (codeOf p) inp keep b).m ∧ (stepB (codeOf p) inp keep b).m.st = 0) := by
  obtain ⟨⟨next, stack, rd, outn, st, cells⟩, kept, out, wrong⟩ := b
  obtain ⟨hst, hx, hpop, -, -, -, -, -, -, -, -⟩ := hk
  obtain ⟨hat, hcl, hon, hrd⟩ := h
  simp only at hst hx hpop hat hcl hon hrd
  subst hst
  obtain ⟨hlt, hn⟩ := hat rfl
  obtain ⟨f1, f2, f3, f4, -⟩ := code_fit hc hx
  have hd : hts ((codeOf p).take (next + 1)) = hts ((codeOf p).take next) + (popB x.op - popA x.op) := by rw [takeS hx, hts_app, hts_one]; rfl
  have hjmp := fun ho => code_jump hc (List.mem_of_getElem? hx) ho
  rw [stepB, hx]
  obtain ⟨op, a, bb, n⟩ := x
  simp only [bump] at hd f1 f3 f4 hjmp hpop ⊢
  have adv : op ≠ 16 → next + 1 < (codeOf p).length := fun h => by
    have : ¬ next = (codeOf p).length - 1 := fun e => h (f4.2 e)
    omega
  clear f2 hat hx f4
  by_cases h1 : op = 1
  · subst h1
    have adv := adv
    simp only [popA, popB] at hd hpop
    simp at hd hpop
    rw [show doIn inp keep ⟨1, a, bb, n⟩ ⟨⟨next + 1, stack, rd, outn, 0, cells⟩, kept, out, wrong⟩ = ⟨⟨next + 1, n :: stack, rd, outn, 0, cells⟩, kept, out, wrong⟩ from rfl]
    dsimp only
    exact ⟨⟨fun _ => ⟨adv (by decide), by first | omega | (simp only [List.length_cons, List.length_append, List.length_nil]; omega)⟩, hcl, by first | omega | (simp only [List.length_cons, List.length_append, List.length_nil]; omega), by first | omega | (simp only [List.length_cons, List.length_append, List.length_nil]; omega)⟩, by first | omega | (simp only [List.length_cons, List.length_append, List.length_nil]; omega), by first | omega | (simp only [List.length_cons, List.length_append, List.length_nil]; omega), .inl rfl⟩
  by_cases h2 : op = 2
  · subst h2
    have adv := adv
    simp only [popA, popB] at hd hpop
    simp at hd hpop
    rw [show doIn inp keep ⟨2, a, bb, n⟩ ⟨⟨next + 1, stack, rd, outn, 0, cells⟩, kept, out, wrong⟩ = ⟨⟨next + 1, cells.getD a.toNat 0 :: stack, rd, outn, 0, cells⟩, kept, out, wrong⟩ from rfl]
    dsimp only
    exact ⟨⟨fun _ => ⟨adv (by decide), by first | omega | (simp only [List.length_cons, List.length_append, List.length_nil]; omega)⟩, hcl, by first | omega | (simp only [List.length_cons, List.length_append, List.length_nil]; omega), by first | omega | (simp only [List.length_cons, List.length_append, List.length_nil]; omega)⟩, by first | omega | (simp only [List.length_cons, List.length_append, List.length_nil]; omega), by first | omega | (simp only [List.length_cons, List.length_append, List.length_nil]; omega), .inl rfl⟩
  by_cases h3 : op = 3
  · subst h3
    have adv := adv
    simp only [popA, popB] at hd hpop
    simp at hd hpop
    obtain ⟨k, s, rfl⟩ : ∃ n s, stack = n :: s := by
      cases stack with
      | nil => simp at hpop
      | cons n s => exact ⟨n, s, rfl⟩
    simp only [List.length_cons] at hn
    by_cases hk : k < 0 ∨ bb ≤ k
    · skip
      rw [show doIn inp keep ⟨3, a, bb, n⟩ ⟨⟨next + 1, k :: s, rd, outn, 0, cells⟩, kept, out, wrong⟩ = ⟨⟨next + 1, s, rd, outn, 13, cells⟩, kept, out, wrong⟩ from by simp [doIn, hk]]
      dsimp only
      exact ⟨⟨fun q => by simp at q, hcl, by first | omega | (simp only [List.length_cons, List.length_append, List.length_nil]; omega), by first | omega | (simp only [List.length_cons, List.length_append, List.length_nil]; omega)⟩, by first | omega | (simp only [List.length_cons, List.length_append, List.length_nil]; omega), by first | omega | (simp only [List.length_cons, List.length_append, List.length_nil]; omega), .inl rfl⟩
    · skip
      rw [show doIn inp keep ⟨3, a, bb, n⟩ ⟨⟨next + 1, k :: s, rd, outn, 0, cells⟩, kept, out, wrong⟩ = ⟨⟨next + 1, cells.getD (a + k).toNat 0 :: s, rd, outn, 0, cells⟩, kept, out, wrong⟩ from by simp [doIn, hk]]
      dsimp only
      exact ⟨⟨fun _ => ⟨adv (by decide), by first | omega | (simp only [List.length_cons, List.length_append, List.length_nil]; omega)⟩, hcl, by first | omega | (simp only [List.length_cons, List.length_append, List.length_nil]; omega), by first | omega | (simp only [List.length_cons, List.length_append, List.length_nil]; omega)⟩, by first | omega | (simp only [List.length_cons, List.length_append, List.length_nil]; omega), by first | omega | (simp only [List.length_cons, List.length_append, List.length_nil]; omega), .inl rfl⟩
  by_cases h4 : op = 4
  · subst h4
    have adv := adv
    simp only [popA, popB] at hd hpop
    simp at hd hpop
    obtain ⟨y, z, s, rfl⟩ : ∃ y z s, stack = y :: z :: s := by
      cases stack with
      | nil => simp at hpop
      | cons y s => cases s with
        | nil => simp at hpop
        | cons z s => exact ⟨y, z, s, rfl⟩
    simp only [List.length_cons] at hn
    rw [show doIn inp keep ⟨4, a, bb, n⟩ ⟨⟨next + 1, y :: z :: s, rd, outn, 0, cells⟩, kept, out, wrong⟩ = ⟨⟨next + 1, binV 4 z y :: s, rd, outn, 0, cells⟩, kept, out, wrong⟩ from rfl]
    dsimp only
    exact ⟨⟨fun _ => ⟨adv (by decide), by first | omega | (simp only [List.length_cons, List.length_append, List.length_nil]; omega)⟩, hcl, by first | omega | (simp only [List.length_cons, List.length_append, List.length_nil]; omega), by first | omega | (simp only [List.length_cons, List.length_append, List.length_nil]; omega)⟩, by first | omega | (simp only [List.length_cons, List.length_append, List.length_nil]; omega), by first | omega | (simp only [List.length_cons, List.length_append, List.length_nil]; omega), .inl rfl⟩
  by_cases h5 : op = 5
  · subst h5
    have adv := adv
    simp only [popA, popB] at hd hpop
    simp at hd hpop
    obtain ⟨y, z, s, rfl⟩ : ∃ y z s, stack = y :: z :: s := by
      cases stack with
      | nil => simp at hpop
      | cons y s => cases s with
        | nil => simp at hpop
        | cons z s => exact ⟨y, z, s, rfl⟩
    simp only [List.length_cons] at hn
    rw [show doIn inp keep ⟨5, a, bb, n⟩ ⟨⟨next + 1, y :: z :: s, rd, outn, 0, cells⟩, kept, out, wrong⟩ = ⟨⟨next + 1, binV 5 z y :: s, rd, outn, 0, cells⟩, kept, out, wrong⟩ from rfl]
    dsimp only
    exact ⟨⟨fun _ => ⟨adv (by decide), by first | omega | (simp only [List.length_cons, List.length_append, List.length_nil]; omega)⟩, hcl, by first | omega | (simp only [List.length_cons, List.length_append, List.length_nil]; omega), by first | omega | (simp only [List.length_cons, List.length_append, List.length_nil]; omega)⟩, by first | omega | (simp only [List.length_cons, List.length_append, List.length_nil]; omega), by first | omega | (simp only [List.length_cons, List.length_append, List.length_nil]; omega), .inl rfl⟩
  by_cases h6 : op = 6
  · subst h6
    have adv := adv
    simp only [popA, popB] at hd hpop
    simp at hd hpop
    obtain ⟨y, z, s, rfl⟩ : ∃ y z s, stack = y :: z :: s := by
      cases stack with
      | nil => simp at hpop
      | cons y s => cases s with
        | nil => simp at hpop
        | cons z s => exact ⟨y, z, s, rfl⟩
    simp only [List.length_cons] at hn
    rw [show doIn inp keep ⟨6, a, bb, n⟩ ⟨⟨next + 1, y :: z :: s, rd, outn, 0, cells⟩, kept, out, wrong⟩ = ⟨⟨next + 1, binV 6 z y :: s, rd, outn, 0, cells⟩, kept, out, wrong⟩ from rfl]
    dsimp only
    exact ⟨⟨fun _ => ⟨adv (by decide), by first | omega | (simp only [List.length_cons, List.length_append, List.length_nil]; omega)⟩, hcl, by first | omega | (simp only [List.length_cons, List.length_append, List.length_nil]; omega), by first | omega | (simp only [List.length_cons, List.length_append, List.length_nil]; omega)⟩, by first | omega | (simp only [List.length_cons, List.length_append, List.length_nil]; omega), by first | omega | (simp only [List.length_cons, List.length_append, List.length_nil]; omega), .inl rfl⟩
  by_cases h7 : op = 7
  · subst h7
    have adv := adv
    simp only [popA, popB] at hd hpop
    simp at hd hpop
    obtain ⟨y, z, s, rfl⟩ : ∃ y z s, stack = y :: z :: s := by
      cases stack with
      | nil => simp at hpop
      | cons y s => cases s with
        | nil => simp at hpop
        | cons z s => exact ⟨y, z, s, rfl⟩
    simp only [List.length_cons] at hn
    rw [show doIn inp keep ⟨7, a, bb, n⟩ ⟨⟨next + 1, y :: z :: s, rd, outn, 0, cells⟩, kept, out, wrong⟩ = ⟨⟨next + 1, binV 7 z y :: s, rd, outn, 0, cells⟩, kept, out, wrong⟩ from rfl]
    dsimp only
    exact ⟨⟨fun _ => ⟨adv (by decide), by first | omega | (simp only [List.length_cons, List.length_append, List.length_nil]; omega)⟩, hcl, by first | omega | (simp only [List.length_cons, List.length_append, List.length_nil]; omega), by first | omega | (simp only [List.length_cons, List.length_append, List.length_nil]; omega)⟩, by first | omega | (simp only [List.length_cons, List.length_append, List.length_nil]; omega), by first | omega | (simp only [List.length_cons, List.length_append, List.length_nil]; omega), .inl rfl⟩
  by_cases h8 : op = 8
  · subst h8
    have adv := adv
    simp only [popA, popB] at hd hpop
    simp at hd hpop
    obtain ⟨y, z, s, rfl⟩ : ∃ y z s, stack = y :: z :: s := by
      cases stack with
      | nil => simp at hpop
      | cons y s => cases s with
        | nil => simp at hpop
        | cons z s => exact ⟨y, z, s, rfl⟩
    simp only [List.length_cons] at hn
    rw [show doIn inp keep ⟨8, a, bb, n⟩ ⟨⟨next + 1, y :: z :: s, rd, outn, 0, cells⟩, kept, out, wrong⟩ = ⟨⟨next + 1, binV 8 z y :: s, rd, outn, 0, cells⟩, kept, out, wrong⟩ from rfl]
    dsimp only
    exact ⟨⟨fun _ => ⟨adv (by decide), by first | omega | (simp only [List.length_cons, List.length_append, List.length_nil]; omega)⟩, hcl, by first | omega | (simp only [List.length_cons, List.length_append, List.length_nil]; omega), by first | omega | (simp only [List.length_cons, List.length_append, List.length_nil]; omega)⟩, by first | omega | (simp only [List.length_cons, List.length_append, List.length_nil]; omega), by first | omega | (simp only [List.length_cons, List.length_append, List.length_nil]; omega), .inl rfl⟩
  by_cases h9 : op = 9
  · subst h9
    have adv := adv
    simp only [popA, popB] at hd hpop
    simp at hd hpop
    obtain ⟨k, s, rfl⟩ : ∃ n s, stack = n :: s := by
      cases stack with
      | nil => simp at hpop
      | cons n s => exact ⟨n, s, rfl⟩
    simp only [List.length_cons] at hn
    rw [show doIn inp keep ⟨9, a, bb, n⟩ ⟨⟨next + 1, k :: s, rd, outn, 0, cells⟩, kept, out, wrong⟩ = ⟨⟨next + 1, s, rd, outn, 0, cells.set a.toNat k⟩, kept, out, wrong⟩ from rfl]
    dsimp only
    exact ⟨⟨fun _ => ⟨adv (by decide), by first | omega | (simp only [List.length_cons, List.length_append, List.length_nil]; omega)⟩, by simpa using hcl, by first | omega | (simp only [List.length_cons, List.length_append, List.length_nil]; omega), by first | omega | (simp only [List.length_cons, List.length_append, List.length_nil]; omega)⟩, by first | omega | (simp only [List.length_cons, List.length_append, List.length_nil]; omega), by first | omega | (simp only [List.length_cons, List.length_append, List.length_nil]; omega), .inl rfl⟩
  by_cases h10 : op = 10
  · subst h10
    have adv := adv
    simp only [popA, popB] at hd hpop
    simp at hd hpop
    obtain ⟨y, k, s, rfl⟩ : ∃ y z s, stack = y :: z :: s := by
      cases stack with
      | nil => simp at hpop
      | cons y s => cases s with
        | nil => simp at hpop
        | cons z s => exact ⟨y, z, s, rfl⟩
    simp only [List.length_cons] at hn
    by_cases hk : k < 0 ∨ bb ≤ k
    · skip
      rw [show doIn inp keep ⟨10, a, bb, n⟩ ⟨⟨next + 1, y :: k :: s, rd, outn, 0, cells⟩, kept, out, wrong⟩ = ⟨⟨next + 1, s, rd, outn, 13, cells⟩, kept, out, wrong⟩ from by simp [doIn, hk]]
      dsimp only
      exact ⟨⟨fun q => by simp at q, hcl, by first | omega | (simp only [List.length_cons, List.length_append, List.length_nil]; omega), by first | omega | (simp only [List.length_cons, List.length_append, List.length_nil]; omega)⟩, by first | omega | (simp only [List.length_cons, List.length_append, List.length_nil]; omega), by first | omega | (simp only [List.length_cons, List.length_append, List.length_nil]; omega), .inl rfl⟩
    · skip
      rw [show doIn inp keep ⟨10, a, bb, n⟩ ⟨⟨next + 1, y :: k :: s, rd, outn, 0, cells⟩, kept, out, wrong⟩ = ⟨⟨next + 1, s, rd, outn, 0, cells.set (a + k).toNat y⟩, kept, out, wrong⟩ from by simp [doIn, hk]]
      dsimp only
      exact ⟨⟨fun _ => ⟨adv (by decide), by first | omega | (simp only [List.length_cons, List.length_append, List.length_nil]; omega)⟩, by simpa using hcl, by first | omega | (simp only [List.length_cons, List.length_append, List.length_nil]; omega), by first | omega | (simp only [List.length_cons, List.length_append, List.length_nil]; omega)⟩, by first | omega | (simp only [List.length_cons, List.length_append, List.length_nil]; omega), by first | omega | (simp only [List.length_cons, List.length_append, List.length_nil]; omega), .inl rfl⟩
  by_cases h11 : op = 11
  · subst h11
    have adv := adv
    simp only [popA, popB] at hd hpop
    simp at hd hpop
    obtain ⟨k, s, rfl⟩ : ∃ n s, stack = n :: s := by
      cases stack with
      | nil => simp at hpop
      | cons n s => exact ⟨n, s, rfl⟩
    simp only [List.length_cons] at hn
    by_cases hk : outn = out.length
    · skip
      rw [show doIn inp keep ⟨11, a, bb, n⟩ ⟨⟨next + 1, k :: s, rd, outn, 0, cells⟩, kept, out, wrong⟩ = ⟨⟨next + 1, s, rd, outn + 1, 0, cells⟩, kept, out ++ [k], wrong⟩ from by simp [doIn, hk]]
      dsimp only
      exact ⟨⟨fun _ => ⟨adv (by decide), by first | omega | (simp only [List.length_cons, List.length_append, List.length_nil]; omega)⟩, hcl, by first | omega | (simp only [List.length_cons, List.length_append, List.length_nil]; omega), by first | omega | (simp only [List.length_cons, List.length_append, List.length_nil]; omega)⟩, by first | omega | (simp only [List.length_cons, List.length_append, List.length_nil]; omega), by first | omega | (simp only [List.length_cons, List.length_append, List.length_nil]; omega), .inl rfl⟩
    · skip
      rw [show doIn inp keep ⟨11, a, bb, n⟩ ⟨⟨next + 1, k :: s, rd, outn, 0, cells⟩, kept, out, wrong⟩ = ⟨⟨next + 1, s, rd, outn + 1, 0, cells⟩, kept, out, (wrong || decide (out.getD outn 0 ≠ k))⟩ from by simp [doIn, hk]]
      dsimp only
      exact ⟨⟨fun _ => ⟨adv (by decide), by first | omega | (simp only [List.length_cons, List.length_append, List.length_nil]; omega)⟩, hcl, by first | omega | (simp only [List.length_cons, List.length_append, List.length_nil]; omega), by first | omega | (simp only [List.length_cons, List.length_append, List.length_nil]; omega)⟩, by first | omega | (simp only [List.length_cons, List.length_append, List.length_nil]; omega), by first | omega | (simp only [List.length_cons, List.length_append, List.length_nil]; omega), .inl rfl⟩
  by_cases h12 : op = 12
  · subst h12
    have adv := adv
    simp only [popA, popB] at hd hpop
    simp at hd hpop
    by_cases hk : inp.length ≤ rd
    · skip
      rw [show doIn inp keep ⟨12, a, bb, n⟩ ⟨⟨next + 1, stack, rd, outn, 0, cells⟩, kept, out, wrong⟩ = ⟨⟨next + 1, stack, rd, outn, 14, cells⟩, kept, out, wrong⟩ from by simp [doIn, hk]]
      dsimp only
      exact ⟨⟨fun q => by simp at q, hcl, by first | omega | (simp only [List.length_cons, List.length_append, List.length_nil]; omega), by first | omega | (simp only [List.length_cons, List.length_append, List.length_nil]; omega)⟩, by first | omega | (simp only [List.length_cons, List.length_append, List.length_nil]; omega), by first | omega | (simp only [List.length_cons, List.length_append, List.length_nil]; omega), .inl rfl⟩
    · skip
      rw [show doIn inp keep ⟨12, a, bb, n⟩ ⟨⟨next + 1, stack, rd, outn, 0, cells⟩, kept, out, wrong⟩ = ⟨⟨next + 1, stack, rd + 1, outn, 0, cells.set a.toNat (inp.getD rd 0)⟩, kept, out, wrong⟩ from by simp [doIn, hk]]
      dsimp only
      exact ⟨⟨fun _ => ⟨adv (by decide), by first | omega | (simp only [List.length_cons, List.length_append, List.length_nil]; omega)⟩, by simpa using hcl, by first | omega | (simp only [List.length_cons, List.length_append, List.length_nil]; omega), by first | omega | (simp only [List.length_cons, List.length_append, List.length_nil]; omega)⟩, by first | omega | (simp only [List.length_cons, List.length_append, List.length_nil]; omega), by first | omega | (simp only [List.length_cons, List.length_append, List.length_nil]; omega), .inl rfl⟩
  by_cases h13 : op = 13
  · subst h13
    have adv := adv
    simp only [popA, popB] at hd hpop
    simp at hd hpop
    obtain ⟨k, s, rfl⟩ : ∃ n s, stack = n :: s := by
      cases stack with
      | nil => simp at hpop
      | cons n s => exact ⟨n, s, rfl⟩
    simp only [List.length_cons] at hn
    obtain ⟨j, rfl, hj, hz⟩ := hjmp (by decide)
    have f3 := f3 (by decide)
    by_cases hk : k = 0
    · skip
      rw [show doIn inp keep ⟨13, (j : Int), bb, n⟩ ⟨⟨next + 1, k :: s, rd, outn, 0, cells⟩, kept, out, wrong⟩ = ⟨⟨j, s, rd, outn, 0, cells⟩, kept, out, wrong⟩ from by simp [doIn, hk]]
      dsimp only
      exact ⟨⟨fun _ => ⟨hj, by first | omega | (simp only [List.length_cons, List.length_append, List.length_nil]; omega)⟩, hcl, by first | omega | (simp only [List.length_cons, List.length_append, List.length_nil]; omega), by first | omega | (simp only [List.length_cons, List.length_append, List.length_nil]; omega)⟩, by first | omega | (simp only [List.length_cons, List.length_append, List.length_nil]; omega), by first | omega | (simp only [List.length_cons, List.length_append, List.length_nil]; omega), .inl rfl⟩
    · skip
      rw [show doIn inp keep ⟨13, (j : Int), bb, n⟩ ⟨⟨next + 1, k :: s, rd, outn, 0, cells⟩, kept, out, wrong⟩ = ⟨⟨next + 1, s, rd, outn, 0, cells⟩, kept, out, wrong⟩ from by simp [doIn, hk]]
      dsimp only
      exact ⟨⟨fun _ => ⟨adv (by decide), by first | omega | (simp only [List.length_cons, List.length_append, List.length_nil]; omega)⟩, hcl, by first | omega | (simp only [List.length_cons, List.length_append, List.length_nil]; omega), by first | omega | (simp only [List.length_cons, List.length_append, List.length_nil]; omega)⟩, by first | omega | (simp only [List.length_cons, List.length_append, List.length_nil]; omega), by first | omega | (simp only [List.length_cons, List.length_append, List.length_nil]; omega), .inl rfl⟩
  by_cases h14 : op = 14
  · subst h14
    have adv := adv
    simp only [popA, popB] at hd hpop
    simp at hd hpop
    obtain ⟨j, rfl, hj, hz⟩ := hjmp (by decide)
    have f3 := f3 (by decide)
    rw [show doIn inp keep ⟨14, (j : Int), bb, n⟩ ⟨⟨next + 1, stack, rd, outn, 0, cells⟩, kept, out, wrong⟩ = ⟨⟨j, stack, rd, outn, 0, cells⟩, kept, out, wrong⟩ from by simp [doIn]]
    dsimp only
    exact ⟨⟨fun _ => ⟨hj, by first | omega | (simp only [List.length_cons, List.length_append, List.length_nil]; omega)⟩, hcl, by first | omega | (simp only [List.length_cons, List.length_append, List.length_nil]; omega), by first | omega | (simp only [List.length_cons, List.length_append, List.length_nil]; omega)⟩, by first | omega | (simp only [List.length_cons, List.length_append, List.length_nil]; omega), by first | omega | (simp only [List.length_cons, List.length_append, List.length_nil]; omega), .inl rfl⟩
  by_cases h15 : op = 15
  · subst h15
    have adv := adv
    simp only [popA, popB] at hd hpop
    simp at hd hpop
    cases keep with
    | false =>
      rw [show doIn inp false ⟨15, a, bb, n⟩ ⟨⟨next + 1, stack, rd, outn, 0, cells⟩, kept, out, wrong⟩ = ⟨⟨next + 1, stack, rd, outn, 0, cells⟩, kept, out, wrong⟩ from rfl]
      dsimp only
      exact ⟨⟨fun _ => ⟨adv (by decide), by first | omega | (simp only [List.length_cons, List.length_append, List.length_nil]; omega)⟩, hcl, by first | omega | (simp only [List.length_cons, List.length_append, List.length_nil]; omega), by first | omega | (simp only [List.length_cons, List.length_append, List.length_nil]; omega)⟩, by first | omega | (simp only [List.length_cons, List.length_append, List.length_nil]; omega), by first | omega | (simp only [List.length_cons, List.length_append, List.length_nil]; omega), .inl rfl⟩
    | true =>
      rw [show doIn inp true ⟨15, a, bb, n⟩ ⟨⟨next + 1, stack, rd, outn, 0, cells⟩, kept, out, wrong⟩ = ⟨⟨next + 1, stack, rd, outn, 0, cells⟩, ⟨next + 1, stack, rd, outn, 0, cells⟩, out, wrong⟩ from rfl]
      dsimp only
      exact ⟨⟨fun _ => ⟨adv (by decide), by first | omega | (simp only [List.length_cons, List.length_append, List.length_nil]; omega)⟩, hcl, by first | omega | (simp only [List.length_cons, List.length_append, List.length_nil]; omega), by first | omega | (simp only [List.length_cons, List.length_append, List.length_nil]; omega)⟩, by first | omega | (simp only [List.length_cons, List.length_append, List.length_nil]; omega), by first | omega | (simp only [List.length_cons, List.length_append, List.length_nil]; omega), .inr ⟨rfl, rfl⟩⟩
  by_cases h16 : op = 16
  · subst h16
    have adv := adv
    simp only [popA, popB] at hd hpop
    simp at hd hpop
    rw [show doIn inp keep ⟨16, a, bb, n⟩ ⟨⟨next + 1, stack, rd, outn, 0, cells⟩, kept, out, wrong⟩ = ⟨⟨next + 1, stack, rd, outn, 1, cells⟩, kept, out, wrong⟩ from rfl]
    dsimp only
    exact ⟨⟨fun q => by simp at q, hcl, by first | omega | (simp only [List.length_cons, List.length_append, List.length_nil]; omega), by first | omega | (simp only [List.length_cons, List.length_append, List.length_nil]; omega)⟩, by first | omega | (simp only [List.length_cons, List.length_append, List.length_nil]; omega), by first | omega | (simp only [List.length_cons, List.length_append, List.length_nil]; omega), .inl rfl⟩
  have hA : popA op = 0 := by simp only [popA]; rw [if_neg h3, if_neg (show ¬ (4 ≤ op ∧ op ≤ 8) by omega), if_neg (show ¬ (op = 9 ∨ op = 11 ∨ op = 13) by omega), if_neg h10]
  have hB : popB op = 0 := by simp only [popB]; rw [if_neg (show ¬ (1 ≤ op ∧ op ≤ 8) by omega)]
  rw [hA, hB] at hd
  simp only [doIn]
  rw [if_neg h1, if_neg h2, if_neg h3, if_neg (show ¬ (4 ≤ op ∧ op ≤ 8) by omega), if_neg h9, if_neg h10, if_neg h11, if_neg h12, if_neg h13, if_neg h14, if_neg h15, if_neg h16]
  dsimp only
  exact ⟨⟨fun _ => ⟨adv h16, by show (stack.length : Int) = hts ((codeOf p).take (next + 1)); omega⟩, hcl, by omega, by omega⟩, by omega, by omega, .inl rfl⟩
end Go.Proofs.Ytmnmcjdgnpgchaa

namespace Go.Proofs.Ytmnmcjdgnpgchaa
open Go X
theorem putC_ok {C : List (List Int)} (h : pgsOk C) (a w : Int) : pgsOk (putC C a w) := by
  unfold putC; split
  · rename_i hc
    exact pgs_set h _ (by rw [List.length_set]; exact pgs_row8 h (by omega))
  · exact h
theorem wput {C : List (List Int)} (h : pgsOk C) {a : Int} (w : Int) (ha : 0 ≤ a ∧ a < 112) (b : Int) : wordC (putC C a w) b = if b = a then w else wordC C b := by
  by_cases hb : 0 ≤ b ∧ b < 112
  · obtain ⟨n, rfl⟩ := Int.eq_ofNat_of_zero_le hb.1
    exact wordC_put h a w (by omega)
  · rw [wordC_out hb, wordC_out hb, if_neg (by omega)]
structure Shows (C : List (List Int)) (m : Mi) : Prop where
  ok : pgsOk C
  nx : wordC C 0 = m.next
  sl : wordC C 1 = m.stack.length
  rd : wordC C 2 = m.rd
  on : wordC C 3 = m.outn
  st : wordC C 4 = m.st
  ce : ∀ k : Nat, k < m.cells.length → wordC C (5 + k) = m.cells.getD k 0
  sk : ∀ j : Nat, j < m.stack.length → wordC C (53 + j) = m.stack.reverse.getD j 0
  lc : m.cells.length ≤ 48
  ls : m.stack.length ≤ 59
theorem rev_lt (n : Int) (s : List Int) {j : Nat} (h : j < s.length) : (n :: s).reverse.getD j 0 = s.reverse.getD j 0 := by
  rw [List.reverse_cons, List.getD_eq_getElem?_getD, List.getD_eq_getElem?_getD, List.getElem?_append_left (by rw [List.length_reverse]; exact h)]
theorem rev_at (n : Int) (s : List Int) : (n :: s).reverse.getD s.length 0 = n := by
  rw [List.reverse_cons, List.getD_eq_getElem?_getD, List.getElem?_append_right (by simp)]; simp
section
variable {C : List (List Int)} {next rd outn : Nat} {stack cells : List Int} {st : Int}
theorem Shows.put0 (h : Shows C ⟨next, stack, rd, outn, st, cells⟩) (n : Nat) : Shows (putC C 0 n) ⟨n, stack, rd, outn, st, cells⟩ := by
  have w := wput h.ok (a := 0) n (by omega)
  refine ⟨putC_ok h.ok _ _, by rw [w, if_pos rfl], by rw [w, if_neg (by omega)]; exact h.sl, by rw [w, if_neg (by omega)]; exact h.rd, by rw [w, if_neg (by omega)]; exact h.on, by rw [w, if_neg (by omega)]; exact h.st, fun k hk => ?_, fun j hj => ?_, h.lc, h.ls⟩
  · rw [w, if_neg (by omega)]; exact h.ce k hk
  · rw [w, if_neg (by omega)]; exact h.sk j hj
theorem Shows.put2 (h : Shows C ⟨next, stack, rd, outn, st, cells⟩) (n : Nat) : Shows (putC C 2 n) ⟨next, stack, n, outn, st, cells⟩ := by
  have w := wput h.ok (a := 2) n (by omega)
  refine ⟨putC_ok h.ok _ _, by rw [w, if_neg (by omega)]; exact h.nx, by rw [w, if_neg (by omega)]; exact h.sl, by rw [w, if_pos rfl], by rw [w, if_neg (by omega)]; exact h.on, by rw [w, if_neg (by omega)]; exact h.st, fun k hk => ?_, fun j hj => ?_, h.lc, h.ls⟩
  · rw [w, if_neg (by omega)]; exact h.ce k hk
  · rw [w, if_neg (by omega)]; exact h.sk j hj
theorem Shows.put3 (h : Shows C ⟨next, stack, rd, outn, st, cells⟩) (n : Nat) : Shows (putC C 3 n) ⟨next, stack, rd, n, st, cells⟩ := by
  have w := wput h.ok (a := 3) n (by omega)
  refine ⟨putC_ok h.ok _ _, by rw [w, if_neg (by omega)]; exact h.nx, by rw [w, if_neg (by omega)]; exact h.sl, by rw [w, if_neg (by omega)]; exact h.rd, by rw [w, if_pos rfl], by rw [w, if_neg (by omega)]; exact h.st, fun k hk => ?_, fun j hj => ?_, h.lc, h.ls⟩
  · rw [w, if_neg (by omega)]; exact h.ce k hk
  · rw [w, if_neg (by omega)]; exact h.sk j hj
theorem Shows.put4 (h : Shows C ⟨next, stack, rd, outn, st, cells⟩) (n : Int) : Shows (putC C 4 n) ⟨next, stack, rd, outn, n, cells⟩ := by
  have w := wput h.ok (a := 4) n (by omega)
  refine ⟨putC_ok h.ok _ _, by rw [w, if_neg (by omega)]; exact h.nx, by rw [w, if_neg (by omega)]; exact h.sl, by rw [w, if_neg (by omega)]; exact h.rd, by rw [w, if_neg (by omega)]; exact h.on, by rw [w, if_pos rfl], fun k hk => ?_, fun j hj => ?_, h.lc, h.ls⟩
  · rw [w, if_neg (by omega)]; exact h.ce k hk
  · rw [w, if_neg (by omega)]; exact h.sk j hj
theorem Shows.putc (h : Shows C ⟨next, stack, rd, outn, st, cells⟩) {a : Nat} (ha : a < cells.length) (n : Int) : Shows (putC C (5 + a) n) ⟨next, stack, rd, outn, st, cells.set a n⟩ := by
  have hl := h.lc
  have hs := h.ls
  simp only at hl hs
  have w := wput h.ok (a := 5 + a) n (by omega)
  refine ⟨putC_ok h.ok _ _, by rw [w, if_neg (by omega)]; exact h.nx, by rw [w, if_neg (by omega)]; exact h.sl, by rw [w, if_neg (by omega)]; exact h.rd, by rw [w, if_neg (by omega)]; exact h.on, by rw [w, if_neg (by omega)]; exact h.st, fun k hk => ?_, fun j hj => ?_, by simpa using hl, hs⟩
  · simp only [List.length_set] at hk
    have e := h.ce k hk
    simp only [List.getD_eq_getElem?_getD, List.getElem?_set] at e ⊢
    rw [w]
    by_cases hak : a = k
    · subst hak; rw [if_pos rfl, if_pos rfl, if_pos ha]; rfl
    · rw [if_neg (by omega), if_neg hak]; exact e
  · rw [w, if_neg (by omega)]; exact h.sk j hj
theorem Shows.push (h : Shows C ⟨next, stack, rd, outn, st, cells⟩) (hl : stack.length < 59) (n : Int) : Shows (putC (putC C 1 (stack.length + 1)) (53 + stack.length) n) ⟨next, n :: stack, rd, outn, st, cells⟩ := by
  have hc := h.lc
  simp only at hc
  have w1 := wput h.ok (a := 1) (stack.length + 1) (by omega)
  have ok1 := putC_ok h.ok 1 ((stack.length : Int) + 1)
  have w2 := wput ok1 (a := 53 + stack.length) n (by omega)
  refine ⟨putC_ok ok1 _ _, ?_, ?_, ?_, ?_, ?_, fun k hk => ?_, fun j hj => ?_, hc, by simp only [List.length_cons]; omega⟩
  · rw [w2, if_neg (by omega), w1, if_neg (by omega)]; exact h.nx
  · rw [w2, if_neg (by omega), w1, if_pos rfl]; simp
  · rw [w2, if_neg (by omega), w1, if_neg (by omega)]; exact h.rd
  · rw [w2, if_neg (by omega), w1, if_neg (by omega)]; exact h.on
  · rw [w2, if_neg (by omega), w1, if_neg (by omega)]; exact h.st
  · simp only at hk
    rw [w2, if_neg (by omega), w1, if_neg (by omega)]; exact h.ce k hk
  · simp only [List.length_cons] at hj
    rw [w2]
    by_cases e : j = stack.length
    · subst e; rw [if_pos rfl, rev_at]
    · rw [if_neg (by omega), w1, if_neg (by omega), rev_lt n stack (by omega)]; exact h.sk j (by show j < stack.length; omega)
theorem Shows.pop {n : Int} {s : List Int} (h : Shows C ⟨next, n :: s, rd, outn, st, cells⟩) : Shows (putC C 1 s.length) ⟨next, s, rd, outn, st, cells⟩ := by
  have hc := h.lc
  have hs := h.ls
  simp only [List.length_cons] at hc hs
  have w := wput h.ok (a := 1) s.length (by omega)
  refine ⟨putC_ok h.ok _ _, by rw [w, if_neg (by omega)]; exact h.nx, by rw [w, if_pos rfl], by rw [w, if_neg (by omega)]; exact h.rd, by rw [w, if_neg (by omega)]; exact h.on, by rw [w, if_neg (by omega)]; exact h.st, fun k hk => ?_, fun j hj => ?_, hc, by show s.length ≤ 59; omega⟩
  · rw [w, if_neg (by omega)]; exact h.ce k hk
  · simp only at hj
    rw [w, if_neg (by omega), ← rev_lt n s hj]; exact h.sk j (by show j < (n :: s).length; rw [List.length_cons]; omega)
theorem Shows.top {n : Int} {s : List Int} (h : Shows C ⟨next, n :: s, rd, outn, st, cells⟩) : wordC C (53 + s.length) = n := by
  rw [h.sk s.length (by show _ < (n :: s).length; simp)]; exact rev_at n s
end
namespace Me
def pushM (M : Me) (n : Int) : Me := (M.put 1 (M.ld 1 + 1)).put (53 + M.ld 1) n
def popM (M : Me) : Me := M.put 1 (M.ld 1 - 1)
def topM (M : Me) : Int := M.popM.ld (52 + M.ld 1)
def doM (inp : List Int) (x : In) (M : Me) : Me :=
  if x.op = 1 then M.pushM x.n
  else if x.op = 2 then M.pushM (M.ld (5 + x.a))
  else if x.op = 3 then (if M.topM < 0 ∨ x.b ≤ M.topM then M.popM.put 4 13 else M.popM.pushM (M.popM.ld (5 + x.a + M.topM)))
  else if 4 ≤ x.op ∧ x.op ≤ 8 then M.popM.popM.pushM (binV x.op M.popM.topM M.topM)
  else if x.op = 9 then M.popM.put (5 + x.a) M.topM
  else if x.op = 10 then (if M.popM.topM < 0 ∨ x.b ≤ M.popM.topM then M.popM.popM.put 4 13 else M.popM.popM.put (5 + x.a + M.popM.topM) M.topM)
  else if x.op = 11 then M.popM.put 3 (M.popM.ld 3 + 1)
  else if x.op = 12 then (if (inp.length : Int) ≤ M.ld 2 then M.put 4 14 else (M.put 2 (M.ld 2 + 1)).put (5 + x.a) (inp.getD (M.ld 2).toNat 0))
  else if x.op = 13 then (if M.topM = 0 then M.popM.put 0 x.a else M.popM)
  else if x.op = 14 then M.put 0 x.a
  else if x.op = 15 then ⟨M.C, noB⟩
  else if x.op = 16 then M.put 4 1
  else M
def stepM (code : List In) (inp : List Int) (M : Me) : Me := match code[(M.ld 0).toNat]? with
  | none => M
  | some x => doM inp x (M.put 0 (M.ld 0 + 1))
end Me
section
variable {M : Me} {next rd outn : Nat} {stack cells : List Int} {st : Int}
theorem Shows.popM {n : Int} {s : List Int} (h : Shows M.C ⟨next, n :: s, rd, outn, st, cells⟩) : Shows M.popM.C ⟨next, s, rd, outn, st, cells⟩ := by
  have e : M.ld 1 - 1 = s.length := by rw [Me.ld, h.sl]; simp
  show Shows (putC M.C 1 (M.ld 1 - 1)) _
  rw [e]; exact h.pop
theorem Shows.topM {n : Int} {s : List Int} (h : Shows M.C ⟨next, n :: s, rd, outn, st, cells⟩) : M.topM = n := by
  have hs := h.ls
  simp only [List.length_cons] at hs
  have e : M.ld 1 = s.length + 1 := by rw [Me.ld, h.sl]; simp
  show wordC (putC M.C 1 (M.ld 1 - 1)) (52 + M.ld 1) = n
  rw [wput h.ok _ (by omega), if_neg (by omega), e, show (52 : Int) + (s.length + 1) = 53 + s.length by omega]
  exact h.top
theorem Shows.pushM (h : Shows M.C ⟨next, stack, rd, outn, st, cells⟩) (hl : stack.length < 59) (n : Int) : Shows (M.pushM n).C ⟨next, n :: stack, rd, outn, st, cells⟩ := by
  have e : M.ld 1 = stack.length := h.sl
  show Shows (putC (putC M.C 1 (M.ld 1 + 1)) (53 + M.ld 1) n) _
  rw [e]; exact h.push hl n
end
theorem Shows.step {code : List In} {inp : List Int} {b : Be} {x : In} {M : Me} (keep : Bool) (h : Shows M.C b.m) (hk : StepOk code inp b x) (hs : b.m.stack.length < 59) : Shows (M.stepM code inp).C (stepB code inp keep b).m := by
  obtain ⟨⟨next, stack, rd, outn, st, cells⟩, kept, out, wrong⟩ := b
  obtain ⟨hst, hx, hpop, ⟨hcell, hcell2⟩, hgo, hsl, hcl, hcd, hrd, hol, hon⟩ := hk
  simp only at hst hx hpop hcell hcell2 hsl hcl hcd hrd hol hon hs h
  subst hst
  have e0 : M.ld 0 = next := h.nx
  rw [stepB, hx, Me.stepM, e0, Int.toNat_natCast, hx]
  simp only [bump]
  have h1 : Shows (M.put 0 (((next : Nat) : Int) + 1)).C ⟨next + 1, stack, rd, outn, 0, cells⟩ := by
    have := h.put0 (next + 1)
    rw [Int.natCast_add] at this
    exact this
  clear h e0
  generalize M.put 0 (((next : Nat) : Int) + 1) = M at h1
  obtain ⟨op, a, bb, n⟩ := x
  simp only at hpop hcell hcell2 hgo
  clear hx
  by_cases o1 : op = 1
  · subst o1; exact h1.pushM hs n
  by_cases o2 : op = 2
  · subst o2
    obtain ⟨ha0, ha1⟩ := hcell (.inl rfl)
    obtain ⟨a, rfl⟩ : ∃ k : Nat, a = k := ⟨a.toNat, by omega⟩
    have e : M.ld (5 + (a : Int)) = cells.getD a 0 := h1.ce a (by show a < cells.length; omega)
    have := h1.pushM hs (cells.getD a 0)
    rw [← e] at this
    show Shows (M.pushM (M.ld (5 + (a : Int)))).C ⟨next + 1, cells.getD ((a : Int)).toNat 0 :: stack, rd, outn, 0, cells⟩
    rw [Int.toNat_natCast, ← e]; exact this
  by_cases o3 : op = 3
  · subst o3
    obtain ⟨k, s, rfl⟩ : ∃ n s, stack = n :: s := by
      cases stack with
      | nil => simp [popA] at hpop
      | cons n s => exact ⟨n, s, rfl⟩
    obtain ⟨hb0, hb1, hb2⟩ := hcell2 (by decide)
    have ht := h1.topM
    have hp := h1.popM
    by_cases hk : k < 0 ∨ bb ≤ k
    · have e1 : M.doM inp ⟨3, a, bb, n⟩ = M.popM.put 4 13 := by simp [Me.doM, ht, hk]
      have e2 : (doIn inp keep ⟨3, a, bb, n⟩ ⟨⟨next + 1, k :: s, rd, outn, 0, cells⟩, kept, out, wrong⟩) = ⟨⟨next + 1, s, rd, outn, 13, cells⟩, kept, out, wrong⟩ := by simp [doIn, hk]
      rw [e1, e2]; exact hp.put4 13
    · have e1 : M.doM inp ⟨3, a, bb, n⟩ = M.popM.pushM (M.popM.ld (5 + a + k)) := by simp [Me.doM, ht, hk]
      have e2 : (doIn inp keep ⟨3, a, bb, n⟩ ⟨⟨next + 1, k :: s, rd, outn, 0, cells⟩, kept, out, wrong⟩) = ⟨⟨next + 1, cells.getD (a + k).toNat 0 :: s, rd, outn, 0, cells⟩, kept, out, wrong⟩ := by simp [doIn, hk]
      rw [e1, e2]
      obtain ⟨j, hj⟩ : ∃ j : Nat, a + k = j := ⟨(a + k).toNat, by omega⟩
      have e : M.popM.ld (5 + (j : Int)) = cells.getD j 0 := hp.ce j (by show j < cells.length; omega)
      rw [show 5 + a + k = 5 + (j : Int) by omega, hj, Int.toNat_natCast, e]
      exact hp.pushM (by simp only [List.length_cons] at hs; omega) _
  by_cases o4 : 4 ≤ op ∧ op ≤ 8
  · have hp2 : popA op = 2 := by simp only [popA]; rw [if_neg o3, if_pos o4]
    obtain ⟨y, z, s, rfl⟩ : ∃ y z s, stack = y :: z :: s := by
      cases stack with
      | nil => simp [hp2] at hpop
      | cons y s => cases s with
        | nil => simp [hp2] at hpop
        | cons z s => exact ⟨y, z, s, rfl⟩
    have e1 : M.doM inp ⟨op, a, bb, n⟩ = M.popM.popM.pushM (binV op M.popM.topM M.topM) := by
      simp only [Me.doM]; rw [if_neg o1, if_neg o2, if_neg o3, if_pos o4]
    have e2 : (doIn inp keep ⟨op, a, bb, n⟩ ⟨⟨next + 1, y :: z :: s, rd, outn, 0, cells⟩, kept, out, wrong⟩) = ⟨⟨next + 1, binV op z y :: s, rd, outn, 0, cells⟩, kept, out, wrong⟩ := by
      simp only [doIn]; rw [if_neg o1, if_neg o2, if_neg o3, if_pos o4]
    rw [e1, e2, h1.topM, h1.popM.topM]
    exact h1.popM.popM.pushM (by simp only [List.length_cons] at hs; omega) _
  by_cases o9 : op = 9
  · subst o9
    obtain ⟨k, s, rfl⟩ : ∃ n s, stack = n :: s := by
      cases stack with
      | nil => simp [popA] at hpop
      | cons n s => exact ⟨n, s, rfl⟩
    obtain ⟨ha0, ha1⟩ := hcell (by decide)
    obtain ⟨a, rfl⟩ : ∃ k : Nat, a = k := ⟨a.toNat, by omega⟩
    have := h1.popM.putc (a := a) (by omega) k
    show Shows (M.popM.put (5 + (a : Int)) M.topM).C ⟨next + 1, s, rd, outn, 0, cells.set ((a : Int)).toNat k⟩
    rw [Int.toNat_natCast, h1.topM]; exact this
  by_cases o10 : op = 10
  · subst o10
    obtain ⟨y, z, s, rfl⟩ : ∃ y z s, stack = y :: z :: s := by
      cases stack with
      | nil => simp [popA] at hpop
      | cons y s => cases s with
        | nil => simp [popA] at hpop
        | cons z s => exact ⟨y, z, s, rfl⟩
    obtain ⟨hb0, hb1, hb2⟩ := hcell2 (by decide)
    have ht := h1.topM
    have ht2 := h1.popM.topM
    have hp := h1.popM.popM
    by_cases hk : z < 0 ∨ bb ≤ z
    · have e1 : M.doM inp ⟨10, a, bb, n⟩ = M.popM.popM.put 4 13 := by simp [Me.doM, ht2, hk]
      have e2 : (doIn inp keep ⟨10, a, bb, n⟩ ⟨⟨next + 1, y :: z :: s, rd, outn, 0, cells⟩, kept, out, wrong⟩) = ⟨⟨next + 1, s, rd, outn, 13, cells⟩, kept, out, wrong⟩ := by simp [doIn, hk]
      rw [e1, e2]; exact hp.put4 13
    · have e1 : M.doM inp ⟨10, a, bb, n⟩ = M.popM.popM.put (5 + a + z) y := by simp [Me.doM, ht, ht2, hk]
      have e2 : (doIn inp keep ⟨10, a, bb, n⟩ ⟨⟨next + 1, y :: z :: s, rd, outn, 0, cells⟩, kept, out, wrong⟩) = ⟨⟨next + 1, s, rd, outn, 0, cells.set (a + z).toNat y⟩, kept, out, wrong⟩ := by simp [doIn, hk]
      rw [e1, e2]
      obtain ⟨j, hj⟩ : ∃ j : Nat, a + z = j := ⟨(a + z).toNat, by omega⟩
      rw [show 5 + a + z = 5 + (j : Int) by omega, hj, Int.toNat_natCast]
      exact hp.putc (a := j) (by omega) y
  by_cases o11 : op = 11
  · subst o11
    obtain ⟨k, s, rfl⟩ : ∃ n s, stack = n :: s := by
      cases stack with
      | nil => simp [popA] at hpop
      | cons n s => exact ⟨n, s, rfl⟩
    have e : (doIn inp keep ⟨11, a, bb, n⟩ ⟨⟨next + 1, k :: s, rd, outn, 0, cells⟩, kept, out, wrong⟩).m = ⟨next + 1, s, rd, outn + 1, 0, cells⟩ := by
      by_cases hoe : outn = out.length <;> simp [doIn, hoe]
    rw [e]
    have e3 : M.popM.ld 3 = outn := h1.popM.on
    have := h1.popM.put3 (outn + 1)
    rw [Int.natCast_add] at this
    show Shows (M.popM.put 3 (M.popM.ld 3 + 1)).C _
    rw [e3]; exact this
  by_cases o12 : op = 12
  · subst o12
    obtain ⟨ha0, ha1⟩ := hcell (by decide)
    obtain ⟨a, rfl⟩ : ∃ k : Nat, a = k := ⟨a.toNat, by omega⟩
    have e2 : M.ld 2 = rd := h1.rd
    by_cases hr : inp.length ≤ rd
    · have e1 : M.doM inp ⟨12, a, bb, n⟩ = M.put 4 14 := by simp [Me.doM, e2, hr]
      have e3 : (doIn inp keep ⟨12, a, bb, n⟩ ⟨⟨next + 1, stack, rd, outn, 0, cells⟩, kept, out, wrong⟩) = ⟨⟨next + 1, stack, rd, outn, 14, cells⟩, kept, out, wrong⟩ := by simp [doIn, hr]
      rw [e1, e3]; exact h1.put4 14
    · have hr2 : ¬ ((inp.length : Int) ≤ rd) := by omega
      have e1 : M.doM inp ⟨12, a, bb, n⟩ = (M.put 2 (rd + 1)).put (5 + a) (inp.getD rd 0) := by simp [Me.doM, e2, hr]
      have e3 : (doIn inp keep ⟨12, a, bb, n⟩ ⟨⟨next + 1, stack, rd, outn, 0, cells⟩, kept, out, wrong⟩) = ⟨⟨next + 1, stack, rd + 1, outn, 0, cells.set a (inp.getD rd 0)⟩, kept, out, wrong⟩ := by simp [doIn, hr]
      rw [e1, e3]
      have := h1.put2 (rd + 1)
      rw [Int.natCast_add] at this
      exact this.putc (a := a) (by omega) _
  by_cases o13 : op = 13
  · subst o13
    obtain ⟨k, s, rfl⟩ : ∃ n s, stack = n :: s := by
      cases stack with
      | nil => simp [popA] at hpop
      | cons n s => exact ⟨n, s, rfl⟩
    obtain ⟨a, rfl⟩ : ∃ k : Nat, a = k := ⟨a.toNat, by have := hgo (by decide); omega⟩
    have ht := h1.topM
    by_cases hk : k = 0
    · have e1 : M.doM inp ⟨13, a, bb, n⟩ = M.popM.put 0 a := by simp [Me.doM, ht, hk]
      have e2 : (doIn inp keep ⟨13, a, bb, n⟩ ⟨⟨next + 1, k :: s, rd, outn, 0, cells⟩, kept, out, wrong⟩) = ⟨⟨a, s, rd, outn, 0, cells⟩, kept, out, wrong⟩ := by simp [doIn, hk]
      rw [e1, e2]; exact h1.popM.put0 a
    · have e1 : M.doM inp ⟨13, a, bb, n⟩ = M.popM := by simp [Me.doM, ht, hk]
      have e2 : (doIn inp keep ⟨13, a, bb, n⟩ ⟨⟨next + 1, k :: s, rd, outn, 0, cells⟩, kept, out, wrong⟩) = ⟨⟨next + 1, s, rd, outn, 0, cells⟩, kept, out, wrong⟩ := by simp [doIn, hk]
      rw [e1, e2]; exact h1.popM
  by_cases o14 : op = 14
  · subst o14
    obtain ⟨a, rfl⟩ : ∃ k : Nat, a = k := ⟨a.toNat, by have := hgo (by decide); omega⟩
    exact h1.put0 a
  by_cases o15 : op = 15
  · subst o15
    cases keep <;> exact h1
  by_cases o16 : op = 16
  · subst o16
    exact h1.put4 1
  have e1 : M.doM inp ⟨op, a, bb, n⟩ = M := by
    simp only [Me.doM]; rw [if_neg o1, if_neg o2, if_neg o3, if_neg o4, if_neg o9, if_neg o10, if_neg o11, if_neg o12, if_neg o13, if_neg o14, if_neg o15, if_neg o16]
  have e2 : (doIn inp keep ⟨op, a, bb, n⟩ ⟨⟨next + 1, stack, rd, outn, 0, cells⟩, kept, out, wrong⟩) = ⟨⟨next + 1, stack, rd, outn, 0, cells⟩, kept, out, wrong⟩ := by
    simp only [doIn]; rw [if_neg o1, if_neg o2, if_neg o3, if_neg o4, if_neg o9, if_neg o10, if_neg o11, if_neg o12, if_neg o13, if_neg o14, if_neg o15, if_neg o16]
  rw [e1, e2]; exact h1
end Go.Proofs.Ytmnmcjdgnpgchaa

namespace Go.Proofs.Ytmnmcjdgnpgchaa
open Go X
set_option maxHeartbeats 1000000
def codeP (wrong : Bool) : Int := if wrong then 15 else 0
def Prin (pb : Nat) (out : List Int) (wrong : Bool) : HP := fun m => ∃ x : Option Addr × Nat, True ∧ Sat [blk pb [.slice x.1 out.length x.2, i64 (codeP wrong)] 40, lst 2 1 (.slice x.1 out.length x.2) out.length (ints out)] m
theorem Prin.opn {pb : Nat} {out : List Int} {wrong : Bool} : ∀ m, Prin pb out wrong m → ∃ x : Option Addr × Nat, True ∧ Sat [blk pb [.slice x.1 out.length x.2, i64 (codeP wrong)] 40, lst 2 1 (.slice x.1 out.length x.2) out.length (ints out)] m := fun _ h => h
theorem Prin.mk {pb : Nat} {out : List Int} {wrong : Bool} {p : Option Addr} {c n : Nat} {k : Int} {vs : List Value} (hn : n = out.length) (hk : k = codeP wrong) (hv : vs = ints out) : ∀ m, Sat [blk pb [.slice p n c, i64 k] 40, lst 2 1 (.slice p n c) n vs] m → Prin pb out wrong m := fun _ h => ⟨(p, c), trivial, by subst hn; subst hk; subst hv; exact h⟩
def prS (out : List Int) (wrong : Bool) (a n : Int) : List Int × Bool :=
  if a = out.length then (out ++ [n], wrong) else if a < 0 ∨ (out.length : Int) < a ∨ out.getD a.toNat 0 ≠ n then (out, true) else (out, wrong)
theorem pput_a (σ : PH) (pb : Nat) (out : List Int) (wrong : Bool) (a n : Int) (hl : out.length ≤ 1000000) :
    CallsA Try.prog 22 #[ptr pb, i64 a, i64 n] σ [Prin pb out wrong] (RetA fun v σ' Γ' => v = .tuple #[] ∧ σ = σ' ∧ Γ' = [Prin pb (prS out wrong a n).1 (prS out wrong a n).2]) := by
  by_cases h1 : a = out.length
  · have e : prS out wrong a n = (out ++ [n], wrong) := by rw [prS, if_pos h1]
    rw [e]
    have hone : ones [i64 n] := ones_lit rfl
    refine enterA3 Try.func22 rfl rfl rfl ?_
    refine XA.block ?_
    refine zS ?_; refine zR ?_
    first | refine XA.opn (R := Prin pb out wrong) (by ((repeat (first | with_reducible exact Sel.head | apply Sel.tail)); (first | done | fail))) (Prin.opn) ?_ | refine XOA.opn (R := Prin pb out wrong) (by ((repeat (first | with_reducible exact Sel.head | apply Sel.tail)); (first | done | fail))) (Prin.opn) ?_ | refine DA.opn (R := Prin pb out wrong) (by ((repeat (first | with_reducible exact Sel.head | apply Sel.tail)); (first | done | fail))) (Prin.opn) ?_
    rintro ⟨p, c⟩ -
    first | refine XA.cl ?_ | refine XOA.cl ?_ | refine DA.cl ?_
    refine zO rfl Rd.mv ?_; refine zO rfl Rd.mv ?_; refine zO rfl (Rd.nilCheck rfl) ?_; refine zO rfl (Rd.fA rfl) ?_; refine zO rfl (Rd.ldC rfl (tyrow rfl) rfl) ?_; refine zO rfl (Rd.lenSlice (tyrow rfl) rfl rfl) ?_; refine zO rfl (Rd.eql rfl rfl) ?_; refine zO rfl Rd.asg ?_; refine zN ?_; refine zT ?_
    refine XA.condT rfl (decide_eq_true h1) ?_
    refine zR ?_; refine zO rfl Rd.mv ?_; refine zO rfl Rd.mv ?_; refine zO rfl (Rd.nilCheck rfl) ?_; refine zO rfl (Rd.fA rfl) ?_; refine zO rfl (Rd.ldC rfl (tyrow rfl) rfl) ?_; refine zO rfl Rd.mv ?_
    refine zw rfl (WrA.bs1 (tyrow rfl) rfl (tyrow rfl)) ?_
    rintro _ _ _ ⟨g20, rfl, rfl, rfl⟩
    refine zw rfl (WrA.ap1 (tyrow rfl) rfl (tyrow rfl) rfl rfl rfl) ?_
    rintro _ _ _ ⟨p21, c21, rfl, rfl, rfl⟩
    refine zO rfl (Rd.nilCheck rfl) ?_; refine zO rfl (Rd.fA rfl) ?_
    refine zw rfl (WrA.st (tyrow rfl) rfl) ?_
    rintro _ _ _ ⟨rfl, rfl, rfl⟩
    refine zN ?_
    refine DA.inb_normal ?_
    exact bodyA.normal (ResA.none rfl) (Ent.fold1 zE (Prin.mk (by simp) rfl (by simp [ints]))) ⟨rfl, rfl, rfl⟩
  by_cases h2 : a < 0
  · have e : prS out wrong a n = (out, true) := by rw [prS, if_neg h1, if_pos (.inl h2)]
    rw [e]
    refine enterA3 Try.func22 rfl rfl rfl ?_
    refine XA.block ?_
    refine zS ?_; refine zR ?_
    first | refine XA.opn (R := Prin pb out wrong) (by ((repeat (first | with_reducible exact Sel.head | apply Sel.tail)); (first | done | fail))) (Prin.opn) ?_ | refine XOA.opn (R := Prin pb out wrong) (by ((repeat (first | with_reducible exact Sel.head | apply Sel.tail)); (first | done | fail))) (Prin.opn) ?_ | refine DA.opn (R := Prin pb out wrong) (by ((repeat (first | with_reducible exact Sel.head | apply Sel.tail)); (first | done | fail))) (Prin.opn) ?_
    rintro ⟨p, c⟩ -
    first | refine XA.cl ?_ | refine XOA.cl ?_ | refine DA.cl ?_
    refine zO rfl Rd.mv ?_; refine zO rfl Rd.mv ?_; refine zO rfl (Rd.nilCheck rfl) ?_; refine zO rfl (Rd.fA rfl) ?_; refine zO rfl (Rd.ldC rfl (tyrow rfl) rfl) ?_; refine zO rfl (Rd.lenSlice (tyrow rfl) rfl rfl) ?_; refine zO rfl (Rd.eql rfl rfl) ?_; refine zO rfl Rd.asg ?_; refine zN ?_; refine zT ?_
    refine XA.condF rfl (decide_eq_false h1) ?_
    refine zS ?_; refine zR ?_; refine zO rfl Rd.mv ?_; refine zO rfl (Rd.lss rfl rfl) ?_; refine zO rfl Rd.mv ?_
    first | ((first | refine zW ?_ | refine zQ ?_); refine zO rfl Rd.mv ?_) | refine zU ?_ | refine zV ?_ | refine zZ ?_
    first | ((first | refine zW ?_ | refine zQ ?_); refine zO rfl Rd.mv ?_) | refine zU ?_ | refine zV ?_ | refine zZ ?_
    first | ((first | refine zW ?_ | refine zQ ?_); refine zO rfl (Rd.nilCheck rfl) ?_) | refine zU ?_ | refine zV ?_ | refine zZ ?_
    first | ((first | refine zW ?_ | refine zQ ?_); refine zO rfl (Rd.fA rfl) ?_) | refine zU ?_ | refine zV ?_ | refine zZ ?_
    first | ((first | refine zW ?_ | refine zQ ?_); refine zO rfl (Rd.ldC rfl (tyrow rfl) rfl) ?_) | refine zU ?_ | refine zV ?_ | refine zZ ?_
    first | ((first | refine zW ?_ | refine zQ ?_); refine zO rfl (Rd.lenSlice (tyrow rfl) rfl rfl) ?_) | refine zU ?_ | refine zV ?_ | refine zZ ?_
    first | ((first | refine zW ?_ | refine zQ ?_); refine zO rfl (Rd.gtr rfl rfl) ?_) | refine zU ?_ | refine zV ?_ | refine zZ ?_
    refine zO rfl (by first | exact Rd.pT rfl | exact Rd.pF rfl | exact Rd.pP rfl) ?_
    refine zO rfl Rd.mv ?_
    first | ((first | refine zW ?_ | refine zQ ?_); refine zO rfl Rd.mv ?_) | refine zU ?_ | refine zV ?_ | refine zZ ?_
    first | ((first | refine zW ?_ | refine zQ ?_); refine zO rfl (Rd.nilCheck rfl) ?_) | refine zU ?_ | refine zV ?_ | refine zZ ?_
    first | ((first | refine zW ?_ | refine zQ ?_); refine zO rfl (Rd.fA rfl) ?_) | refine zU ?_ | refine zV ?_ | refine zZ ?_
    first | ((first | refine zW ?_ | refine zQ ?_); refine zO rfl (Rd.ldC rfl (tyrow rfl) rfl) ?_) | refine zU ?_ | refine zV ?_ | refine zZ ?_
    first | ((first | refine zW ?_ | refine zQ ?_); refine zO rfl Rd.mv ?_) | refine zU ?_ | refine zV ?_ | refine zZ ?_
    first | ((first | refine zW ?_ | refine zQ ?_); refine zO rfl (Rd.ixS rfl rfl) ?_) | refine zU ?_ | refine zV ?_ | refine zZ ?_
    first | ((first | refine zW ?_ | refine zQ ?_); refine zO rfl (Rd.ldC rfl (tyrow rfl) rfl) ?_) | refine zU ?_ | refine zV ?_ | refine zZ ?_
    first | ((first | refine zW ?_ | refine zQ ?_); refine zO rfl Rd.mv ?_) | refine zU ?_ | refine zV ?_ | refine zZ ?_
    first | ((first | refine zW ?_ | refine zQ ?_); refine zO rfl (Rd.neq rfl rfl) ?_) | refine zU ?_ | refine zV ?_ | refine zZ ?_
    refine zO rfl (by first | exact Rd.pT rfl | exact Rd.pF rfl | exact Rd.pP rfl) ?_
    refine zO rfl Rd.asg ?_; refine zN ?_; refine zT ?_
    refine XA.condT rfl (by first | rfl | exact decide_eq_true h2) ?_
    refine zR ?_; refine zO rfl Rd.mv ?_; refine zO rfl (Rd.nilCheck rfl) ?_; refine zO rfl (Rd.fA rfl) ?_
    refine zw rfl (WrA.st (tyrow rfl) rfl) ?_
    rintro _ _ _ ⟨rfl, rfl, rfl⟩
    refine zN ?_
    refine DA.inb_normal ?_
    exact bodyA.normal (ResA.none rfl) (Ent.fold1 zE (Prin.mk rfl rfl rfl)) ⟨rfl, rfl, rfl⟩
  by_cases h3 : (out.length : Int) < a
  · have e : prS out wrong a n = (out, true) := by rw [prS, if_neg h1, if_pos (.inr (.inl h3))]
    rw [e]
    refine enterA3 Try.func22 rfl rfl rfl ?_
    refine XA.block ?_
    refine zS ?_; refine zR ?_
    first | refine XA.opn (R := Prin pb out wrong) (by ((repeat (first | with_reducible exact Sel.head | apply Sel.tail)); (first | done | fail))) (Prin.opn) ?_ | refine XOA.opn (R := Prin pb out wrong) (by ((repeat (first | with_reducible exact Sel.head | apply Sel.tail)); (first | done | fail))) (Prin.opn) ?_ | refine DA.opn (R := Prin pb out wrong) (by ((repeat (first | with_reducible exact Sel.head | apply Sel.tail)); (first | done | fail))) (Prin.opn) ?_
    rintro ⟨p, c⟩ -
    first | refine XA.cl ?_ | refine XOA.cl ?_ | refine DA.cl ?_
    refine zO rfl Rd.mv ?_; refine zO rfl Rd.mv ?_; refine zO rfl (Rd.nilCheck rfl) ?_; refine zO rfl (Rd.fA rfl) ?_; refine zO rfl (Rd.ldC rfl (tyrow rfl) rfl) ?_; refine zO rfl (Rd.lenSlice (tyrow rfl) rfl rfl) ?_; refine zO rfl (Rd.eql rfl rfl) ?_; refine zO rfl Rd.asg ?_; refine zN ?_; refine zT ?_
    refine XA.condF rfl (decide_eq_false h1) ?_
    refine zS ?_; refine zR ?_; refine zO rfl Rd.mv ?_; refine zO rfl (Rd.lss rfl rfl) ?_; refine zO rfl Rd.mv ?_
    first | ((first | refine zW ?_ | refine zQ ?_); refine zO rfl Rd.mv ?_) | refine zU ?_ | refine zV ?_ | refine zZ ?_
    first | ((first | refine zW ?_ | refine zQ ?_); refine zO rfl Rd.mv ?_) | refine zU ?_ | refine zV ?_ | refine zZ ?_
    first | ((first | refine zW ?_ | refine zQ ?_); refine zO rfl (Rd.nilCheck rfl) ?_) | refine zU ?_ | refine zV ?_ | refine zZ ?_
    first | ((first | refine zW ?_ | refine zQ ?_); refine zO rfl (Rd.fA rfl) ?_) | refine zU ?_ | refine zV ?_ | refine zZ ?_
    first | ((first | refine zW ?_ | refine zQ ?_); refine zO rfl (Rd.ldC rfl (tyrow rfl) rfl) ?_) | refine zU ?_ | refine zV ?_ | refine zZ ?_
    first | ((first | refine zW ?_ | refine zQ ?_); refine zO rfl (Rd.lenSlice (tyrow rfl) rfl rfl) ?_) | refine zU ?_ | refine zV ?_ | refine zZ ?_
    first | ((first | refine zW ?_ | refine zQ ?_); refine zO rfl (Rd.gtr rfl rfl) ?_) | refine zU ?_ | refine zV ?_ | refine zZ ?_
    refine zO rfl (by first | exact Rd.pT rfl | exact Rd.pF rfl | exact Rd.pP rfl) ?_
    refine zO rfl Rd.mv ?_
    first | ((first | refine zW ?_ | refine zQ ?_); refine zO rfl Rd.mv ?_) | refine zU ?_ | refine zV ?_ | refine zZ ?_
    first | ((first | refine zW ?_ | refine zQ ?_); refine zO rfl (Rd.nilCheck rfl) ?_) | refine zU ?_ | refine zV ?_ | refine zZ ?_
    first | ((first | refine zW ?_ | refine zQ ?_); refine zO rfl (Rd.fA rfl) ?_) | refine zU ?_ | refine zV ?_ | refine zZ ?_
    first | ((first | refine zW ?_ | refine zQ ?_); refine zO rfl (Rd.ldC rfl (tyrow rfl) rfl) ?_) | refine zU ?_ | refine zV ?_ | refine zZ ?_
    first | ((first | refine zW ?_ | refine zQ ?_); refine zO rfl Rd.mv ?_) | refine zU ?_ | refine zV ?_ | refine zZ ?_
    first | ((first | refine zW ?_ | refine zQ ?_); refine zO rfl (Rd.ixS rfl rfl) ?_) | refine zU ?_ | refine zV ?_ | refine zZ ?_
    first | ((first | refine zW ?_ | refine zQ ?_); refine zO rfl (Rd.ldC rfl (tyrow rfl) rfl) ?_) | refine zU ?_ | refine zV ?_ | refine zZ ?_
    first | ((first | refine zW ?_ | refine zQ ?_); refine zO rfl Rd.mv ?_) | refine zU ?_ | refine zV ?_ | refine zZ ?_
    first | ((first | refine zW ?_ | refine zQ ?_); refine zO rfl (Rd.neq rfl rfl) ?_) | refine zU ?_ | refine zV ?_ | refine zZ ?_
    refine zO rfl (by first | exact Rd.pT rfl | exact Rd.pF rfl | exact Rd.pP rfl) ?_
    refine zO rfl Rd.asg ?_; refine zN ?_; refine zT ?_
    refine XA.condT rfl (by first | rfl | exact decide_eq_true h3) ?_
    refine zR ?_; refine zO rfl Rd.mv ?_; refine zO rfl (Rd.nilCheck rfl) ?_; refine zO rfl (Rd.fA rfl) ?_
    refine zw rfl (WrA.st (tyrow rfl) rfl) ?_
    rintro _ _ _ ⟨rfl, rfl, rfl⟩
    refine zN ?_
    refine DA.inb_normal ?_
    exact bodyA.normal (ResA.none rfl) (Ent.fold1 zE (Prin.mk rfl rfl rfl)) ⟨rfl, rfl, rfl⟩
  obtain ⟨k, rfl⟩ : ∃ k : Nat, a = k := ⟨a.toNat, by omega⟩
  have hk : k < out.length := by omega
  obtain ⟨y, hy⟩ : ∃ y, y = out.getD k 0 := ⟨_, rfl⟩
  have hv : (ints out)[k]? = some (i64 y) := by rw [hy]; simp [ints, hk]
  by_cases h4 : y = n
  · have e : prS out wrong k n = (out, wrong) := by
      rw [prS, if_neg h1, if_neg]
      rw [Int.toNat_natCast, ← hy]
      rintro (h | h | h)
      · exact h2 h
      · exact h3 h
      · exact h h4
    rw [e]
    refine enterA3 Try.func22 rfl rfl rfl ?_
    refine XA.block ?_
    refine zS ?_; refine zR ?_
    first | refine XA.opn (R := Prin pb out wrong) (by ((repeat (first | with_reducible exact Sel.head | apply Sel.tail)); (first | done | fail))) (Prin.opn) ?_ | refine XOA.opn (R := Prin pb out wrong) (by ((repeat (first | with_reducible exact Sel.head | apply Sel.tail)); (first | done | fail))) (Prin.opn) ?_ | refine DA.opn (R := Prin pb out wrong) (by ((repeat (first | with_reducible exact Sel.head | apply Sel.tail)); (first | done | fail))) (Prin.opn) ?_
    rintro ⟨p, c⟩ -
    first | refine XA.cl ?_ | refine XOA.cl ?_ | refine DA.cl ?_
    first | refine XA.opn (R := lst 2 1 (.slice p out.length c) _ _) (by ((repeat (first | with_reducible exact Sel.head | apply Sel.tail)); (first | done | fail))) (lst_some (by omega)) ?_ | refine XOA.opn (R := lst 2 1 (.slice p out.length c) _ _) (by ((repeat (first | with_reducible exact Sel.head | apply Sel.tail)); (first | done | fail))) (lst_some (by omega)) ?_ | refine DA.opn (R := lst 2 1 (.slice p out.length c) _ _) (by ((repeat (first | with_reducible exact Sel.head | apply Sel.tail)); (first | done | fail))) (lst_some (by omega)) ?_
    rintro g70 rfl
    first | refine XA.cl ?_ | refine XOA.cl ?_ | refine DA.cl ?_
    refine zO rfl Rd.mv ?_; refine zO rfl Rd.mv ?_; refine zO rfl (Rd.nilCheck rfl) ?_; refine zO rfl (Rd.fA rfl) ?_; refine zO rfl (Rd.ldC rfl (tyrow rfl) rfl) ?_; refine zO rfl (Rd.lenSlice (tyrow rfl) rfl rfl) ?_; refine zO rfl (Rd.eql rfl rfl) ?_; refine zO rfl Rd.asg ?_; refine zN ?_; refine zT ?_
    refine XA.condF rfl (decide_eq_false h1) ?_
    refine zS ?_; refine zR ?_; refine zO rfl Rd.mv ?_; refine zO rfl (Rd.lss rfl rfl) ?_; refine zO rfl Rd.mv ?_
    first | ((first | refine zW ?_ | refine zQ ?_); refine zO rfl Rd.mv ?_) | refine zU ?_ | refine zV ?_ | refine zZ ?_
    first | ((first | refine zW ?_ | refine zQ ?_); refine zO rfl Rd.mv ?_) | refine zU ?_ | refine zV ?_ | refine zZ ?_
    first | ((first | refine zW ?_ | refine zQ ?_); refine zO rfl (Rd.nilCheck rfl) ?_) | refine zU ?_ | refine zV ?_ | refine zZ ?_
    first | ((first | refine zW ?_ | refine zQ ?_); refine zO rfl (Rd.fA rfl) ?_) | refine zU ?_ | refine zV ?_ | refine zZ ?_
    first | ((first | refine zW ?_ | refine zQ ?_); refine zO rfl (Rd.ldC rfl (tyrow rfl) rfl) ?_) | refine zU ?_ | refine zV ?_ | refine zZ ?_
    first | ((first | refine zW ?_ | refine zQ ?_); refine zO rfl (Rd.lenSlice (tyrow rfl) rfl rfl) ?_) | refine zU ?_ | refine zV ?_ | refine zZ ?_
    first | ((first | refine zW ?_ | refine zQ ?_); refine zO rfl (Rd.gtr rfl rfl) ?_) | refine zU ?_ | refine zV ?_ | refine zZ ?_
    refine zO rfl (by first | exact Rd.pT rfl | exact Rd.pF rfl | exact Rd.pP rfl) ?_
    refine zO rfl Rd.mv ?_
    first | ((first | refine zW ?_ | refine zQ ?_); refine zO rfl Rd.mv ?_) | refine zU ?_ | refine zV ?_ | refine zZ ?_
    first | ((first | refine zW ?_ | refine zQ ?_); refine zO rfl (Rd.nilCheck rfl) ?_) | refine zU ?_ | refine zV ?_ | refine zZ ?_
    first | ((first | refine zW ?_ | refine zQ ?_); refine zO rfl (Rd.fA rfl) ?_) | refine zU ?_ | refine zV ?_ | refine zZ ?_
    first | ((first | refine zW ?_ | refine zQ ?_); refine zO rfl (Rd.ldC rfl (tyrow rfl) rfl) ?_) | refine zU ?_ | refine zV ?_ | refine zZ ?_
    first | ((first | refine zW ?_ | refine zQ ?_); refine zO rfl Rd.mv ?_) | refine zU ?_ | refine zV ?_ | refine zZ ?_
    first | ((first | refine zW ?_ | refine zQ ?_); refine zO rfl (Rd.ixS rfl rfl) ?_) | refine zU ?_ | refine zV ?_ | refine zZ ?_
    first | ((first | refine zW ?_ | refine zQ ?_); refine zO rfl (Rd.ldC rfl (tyrow rfl) rfl) ?_) | refine zU ?_ | refine zV ?_ | refine zZ ?_
    first | ((first | refine zW ?_ | refine zQ ?_); refine zO rfl Rd.mv ?_) | refine zU ?_ | refine zV ?_ | refine zZ ?_
    first | ((first | refine zW ?_ | refine zQ ?_); refine zO rfl (Rd.neq rfl rfl) ?_) | refine zU ?_ | refine zV ?_ | refine zZ ?_
    refine zO rfl (by first | exact Rd.pT rfl | exact Rd.pF rfl | exact Rd.pP rfl) ?_
    refine zO rfl Rd.asg ?_; refine zN ?_; refine zT ?_
    refine XA.condF rfl (decide_eq_false (fun h => h h4)) ?_
    refine XA.skip ?_
    refine DA.inb_normal ?_
    exact bodyA.normal (ResA.none rfl) (Ent.fold1 zE (Prin.mk rfl rfl rfl)) ⟨rfl, rfl, rfl⟩
  have e : prS out wrong k n = (out, true) := by
    rw [prS, if_neg h1, if_pos (.inr (.inr (by rw [Int.toNat_natCast, ← hy]; exact h4)))]
  rw [e]
  refine enterA3 Try.func22 rfl rfl rfl ?_
  refine XA.block ?_
  refine zS ?_; refine zR ?_
  first | refine XA.opn (R := Prin pb out wrong) (by ((repeat (first | with_reducible exact Sel.head | apply Sel.tail)); (first | done | fail))) (Prin.opn) ?_ | refine XOA.opn (R := Prin pb out wrong) (by ((repeat (first | with_reducible exact Sel.head | apply Sel.tail)); (first | done | fail))) (Prin.opn) ?_ | refine DA.opn (R := Prin pb out wrong) (by ((repeat (first | with_reducible exact Sel.head | apply Sel.tail)); (first | done | fail))) (Prin.opn) ?_
  rintro ⟨p, c⟩ -
  first | refine XA.cl ?_ | refine XOA.cl ?_ | refine DA.cl ?_
  first | refine XA.opn (R := lst 2 1 (.slice p out.length c) _ _) (by ((repeat (first | with_reducible exact Sel.head | apply Sel.tail)); (first | done | fail))) (lst_some (by omega)) ?_ | refine XOA.opn (R := lst 2 1 (.slice p out.length c) _ _) (by ((repeat (first | with_reducible exact Sel.head | apply Sel.tail)); (first | done | fail))) (lst_some (by omega)) ?_ | refine DA.opn (R := lst 2 1 (.slice p out.length c) _ _) (by ((repeat (first | with_reducible exact Sel.head | apply Sel.tail)); (first | done | fail))) (lst_some (by omega)) ?_
  rintro g70 rfl
  first | refine XA.cl ?_ | refine XOA.cl ?_ | refine DA.cl ?_
  refine zO rfl Rd.mv ?_; refine zO rfl Rd.mv ?_; refine zO rfl (Rd.nilCheck rfl) ?_; refine zO rfl (Rd.fA rfl) ?_; refine zO rfl (Rd.ldC rfl (tyrow rfl) rfl) ?_; refine zO rfl (Rd.lenSlice (tyrow rfl) rfl rfl) ?_; refine zO rfl (Rd.eql rfl rfl) ?_; refine zO rfl Rd.asg ?_; refine zN ?_; refine zT ?_
  refine XA.condF rfl (decide_eq_false h1) ?_
  refine zS ?_; refine zR ?_; refine zO rfl Rd.mv ?_; refine zO rfl (Rd.lss rfl rfl) ?_; refine zO rfl Rd.mv ?_
  first | ((first | refine zW ?_ | refine zQ ?_); refine zO rfl Rd.mv ?_) | refine zU ?_ | refine zV ?_ | refine zZ ?_
  first | ((first | refine zW ?_ | refine zQ ?_); refine zO rfl Rd.mv ?_) | refine zU ?_ | refine zV ?_ | refine zZ ?_
  first | ((first | refine zW ?_ | refine zQ ?_); refine zO rfl (Rd.nilCheck rfl) ?_) | refine zU ?_ | refine zV ?_ | refine zZ ?_
  first | ((first | refine zW ?_ | refine zQ ?_); refine zO rfl (Rd.fA rfl) ?_) | refine zU ?_ | refine zV ?_ | refine zZ ?_
  first | ((first | refine zW ?_ | refine zQ ?_); refine zO rfl (Rd.ldC rfl (tyrow rfl) rfl) ?_) | refine zU ?_ | refine zV ?_ | refine zZ ?_
  first | ((first | refine zW ?_ | refine zQ ?_); refine zO rfl (Rd.lenSlice (tyrow rfl) rfl rfl) ?_) | refine zU ?_ | refine zV ?_ | refine zZ ?_
  first | ((first | refine zW ?_ | refine zQ ?_); refine zO rfl (Rd.gtr rfl rfl) ?_) | refine zU ?_ | refine zV ?_ | refine zZ ?_
  refine zO rfl (by first | exact Rd.pT rfl | exact Rd.pF rfl | exact Rd.pP rfl) ?_
  refine zO rfl Rd.mv ?_
  first | ((first | refine zW ?_ | refine zQ ?_); refine zO rfl Rd.mv ?_) | refine zU ?_ | refine zV ?_ | refine zZ ?_
  first | ((first | refine zW ?_ | refine zQ ?_); refine zO rfl (Rd.nilCheck rfl) ?_) | refine zU ?_ | refine zV ?_ | refine zZ ?_
  first | ((first | refine zW ?_ | refine zQ ?_); refine zO rfl (Rd.fA rfl) ?_) | refine zU ?_ | refine zV ?_ | refine zZ ?_
  first | ((first | refine zW ?_ | refine zQ ?_); refine zO rfl (Rd.ldC rfl (tyrow rfl) rfl) ?_) | refine zU ?_ | refine zV ?_ | refine zZ ?_
  first | ((first | refine zW ?_ | refine zQ ?_); refine zO rfl Rd.mv ?_) | refine zU ?_ | refine zV ?_ | refine zZ ?_
  first | ((first | refine zW ?_ | refine zQ ?_); refine zO rfl (Rd.ixS rfl rfl) ?_) | refine zU ?_ | refine zV ?_ | refine zZ ?_
  first | ((first | refine zW ?_ | refine zQ ?_); refine zO rfl (Rd.ldC rfl (tyrow rfl) rfl) ?_) | refine zU ?_ | refine zV ?_ | refine zZ ?_
  first | ((first | refine zW ?_ | refine zQ ?_); refine zO rfl Rd.mv ?_) | refine zU ?_ | refine zV ?_ | refine zZ ?_
  first | ((first | refine zW ?_ | refine zQ ?_); refine zO rfl (Rd.neq rfl rfl) ?_) | refine zU ?_ | refine zV ?_ | refine zZ ?_
  refine zO rfl (by first | exact Rd.pT rfl | exact Rd.pF rfl | exact Rd.pP rfl) ?_
  refine zO rfl Rd.asg ?_; refine zN ?_; refine zT ?_
  refine XA.condT rfl (decide_eq_true h4) ?_
  refine zR ?_; refine zO rfl Rd.mv ?_; refine zO rfl (Rd.nilCheck rfl) ?_; refine zO rfl (Rd.fA rfl) ?_
  refine zw rfl (WrA.st (tyrow rfl) rfl) ?_
  rintro _ _ _ ⟨rfl, rfl, rfl⟩
  refine zN ?_
  refine DA.inb_normal ?_
  exact bodyA.normal (ResA.none rfl) (Ent.fold1 zE (Prin.mk rfl rfl rfl)) ⟨rfl, rfl, rfl⟩
theorem cloneP_a (σ : PH) (v : Value) (xs : List Int) (hv : PInts σ v xs) (hl : xs.length ≤ 1000000) :
    CallsA Try.prog 46 #[v] σ [] (RetA fun v' σ' Γ' => ∃ p c, v' = .slice p xs.length c ∧ σ = σ' ∧ Γ' = [lst 2 1 (.slice p xs.length c) xs.length (ints xs)]) := by
  obtain ⟨q, cq, rfl, hle, hmx⟩ := hv.shape
  have hxl : (ints xs).length = xs.length * 1 := by simp [ints]
  have hone : ones (ints xs) := ones_ints _
  cases q with
  | none =>
    obtain rfl : xs = [] := by
      cases xs with
      | nil => rfl
      | cons x l => obtain ⟨g, o, e, -⟩ := hv.at (show (x :: l)[0]? = some x from rfl); cases e
    refine enterA1 Try.func46 rfl rfl rfl ?_
    refine zS ?_; refine zR ?_; refine zO rfl Rd.asg ?_; refine zN ?_; refine zT ?_; refine zS ?_; refine zS ?_; refine zR ?_; refine zO rfl Rd.mv ?_
    refine zO rfl (Rd.eqlNil (tyrow rfl) rfl rfl) ?_
    refine zN ?_; refine zT ?_
    refine XA.condT rfl rfl ?_
    refine zS ?_; refine zR ?_; refine zO rfl Rd.asg ?_; refine zN ?_; refine zT ?_
    refine XA.ret ?_
    refine DA.thn_ret ?_
    exact bodyA.ret (ResA.one rfl rfl) (Ent.selNil (e := 2) (size := 1) (Ent.nil _)) ⟨none, 0, rfl, rfl, rfl⟩
  | some a =>
    cases xs with
    | nil =>
      refine enterA1 Try.func46 rfl rfl rfl ?_
      refine zS ?_; refine zR ?_; refine zO rfl Rd.asg ?_; refine zN ?_; refine zT ?_; refine zS ?_; refine zS ?_; refine zR ?_; refine zO rfl Rd.mv ?_
      refine zO rfl (Rd.eqlNil (tyrow rfl) rfl rfl) ?_
      refine zN ?_; refine zT ?_
      refine XA.condF rfl rfl ?_
      refine XA.skip ?_
      refine zT ?_; refine zS ?_; refine zR ?_
      refine zw rfl (WrA.bs (fun _ _ => tyrow) rfl rfl rfl rfl rfl) ?_
      rintro _ _ _ ⟨g5, rfl, rfl, rfl⟩
      refine zO rfl Rd.mv ?_
      refine zw rfl (Rd.toW (Rd.appendNone (tyrow rfl) rfl (tyrow rfl) rfl rfl (Nat.le_refl _))) ?_
      rintro _ _ _ ⟨rfl, rfl, rfl⟩
      refine zO rfl Rd.asg ?_; refine zN ?_; refine zT ?_
      refine XA.ret ?_
      exact bodyA.ret (ResA.one rfl rfl) (Ent.selImp (R := blk g5 _ _) (by ((repeat (first | with_reducible exact Sel.head | apply Sel.tail)); (first | done | fail))) (fun m h => lst_empty h (by simp) (by simp [maxLen])) zE) ⟨_, _, rfl, rfl, rfl⟩
    | cons x l =>
      obtain ⟨p', c', e1, e2, e3, e4⟩ := hv
      simp only [Value.slice.injEq] at e1
      obtain ⟨rfl, -, rfl⟩ := e1
      obtain ⟨g, o, e, hr⟩ := e4 (by simp)
      cases e
      refine enterA1 Try.func46 rfl rfl rfl ?_
      refine zS ?_; refine zR ?_; refine zO rfl Rd.asg ?_; refine zN ?_; refine zT ?_; refine zS ?_; refine zS ?_; refine zR ?_; refine zO rfl Rd.mv ?_
      refine zO rfl (Rd.eqlNil (tyrow rfl) rfl rfl) ?_
      refine zN ?_; refine zT ?_
      refine XA.condF rfl rfl ?_
      refine XA.skip ?_
      refine zT ?_; refine zS ?_; refine zR ?_
      refine zw rfl (WrA.bs (fun _ _ => tyrow) rfl rfl rfl rfl rfl) ?_
      rintro _ _ _ ⟨g5, rfl, rfl, rfl⟩
      refine zO rfl Rd.mv ?_
      refine XOA.ent (Δ := [lst 2 1 (.slice (some ⟨g5, 0, none⟩) 0 0) 0 []]) (Ent.selImp (R := blk g5 _ _) (by ((repeat (first | with_reducible exact Sel.head | apply Sel.tail)); (first | done | fail))) (fun m h => lst_empty h (by simp) (by simp [maxLen])) zE) ?_
      refine zw rfl (WrA.append (tyrow rfl) rfl (tyrow rfl) rfl rfl (by ((repeat (first | with_reducible exact Sel.head | apply Sel.tail)); (first | done | fail))) rfl (At.per hr) hxl hone (by simp) (by simp only [maxLen]; omega) (by simp only; omega)) ?_
      rintro _ _ _ ⟨p, c', rfl, rfl, rfl⟩
      refine zO rfl Rd.asg ?_; refine zN ?_; refine zT ?_
      refine XA.ret ?_
      rw [Nat.zero_add]
      exact bodyA.ret (ResA.one rfl rfl) zE ⟨_, _, rfl, rfl, rfl⟩
theorem cloneL_a (σ : PH) (q : Option Addr) (n cq : Nat) (xs : List Int) (hn : xs.length = n) (hl : n ≤ 1000000) :
    CallsA Try.prog 46 #[.slice q n cq] σ [lst 2 1 (.slice q n cq) n (ints xs)] (RetA fun v' σ' Γ' => ∃ p c, v' = .slice p n c ∧ σ = σ' ∧ Γ' = [lst 2 1 (.slice q n cq) n (ints xs), lst 2 1 (.slice p n c) n (ints xs)]) := by
  subst hn
  have hxl : (ints xs).length = xs.length * 1 := by simp [ints]
  have hone : ones (ints xs) := ones_ints _
  by_cases h0 : xs = []
  · subst h0
    cases q with
    | none =>
      refine enterA1 Try.func46 rfl rfl rfl ?_
      refine zS ?_; refine zR ?_; refine zO rfl Rd.asg ?_; refine zN ?_; refine zT ?_; refine zS ?_; refine zS ?_; refine zR ?_; refine zO rfl Rd.mv ?_
      refine zO rfl (Rd.eqlNil (tyrow rfl) rfl rfl) ?_
      refine zN ?_; refine zT ?_
      refine XA.condT rfl rfl ?_
      refine zS ?_; refine zR ?_; refine zO rfl Rd.asg ?_; refine zN ?_; refine zT ?_
      refine XA.ret ?_
      refine DA.thn_ret ?_
      exact bodyA.ret (ResA.one rfl rfl) (Ent.sel .head (Ent.selNil (e := 2) (size := 1) (Ent.nil _))) ⟨none, 0, rfl, rfl, rfl⟩
    | some a =>
      refine enterA1 Try.func46 rfl rfl rfl ?_
      refine zS ?_; refine zR ?_; refine zO rfl Rd.asg ?_; refine zN ?_; refine zT ?_; refine zS ?_; refine zS ?_; refine zR ?_; refine zO rfl Rd.mv ?_
      refine zO rfl (Rd.eqlNil (tyrow rfl) rfl rfl) ?_
      refine zN ?_; refine zT ?_
      refine XA.condF rfl rfl ?_
      refine XA.skip ?_
      refine zT ?_; refine zS ?_; refine zR ?_
      refine zw rfl (WrA.bs (fun _ _ => tyrow) rfl rfl rfl rfl rfl) ?_
      rintro _ _ _ ⟨g5, rfl, rfl, rfl⟩
      refine zO rfl Rd.mv ?_
      refine XOA.ent (Δ := [lst 2 1 (.slice (some ⟨g5, 0, none⟩) 0 0) 0 [], lst 2 1 (.slice (some a) 0 cq) 0 (ints [])]) (Ent.selImp (R := blk g5 _ _) (by ((repeat (first | with_reducible exact Sel.head | apply Sel.tail)); (first | done | fail))) (fun m h => lst_empty h (by simp) (by simp [maxLen])) zE) ?_
      refine zw rfl (Rd.toW (Rd.appendNone (tyrow rfl) rfl (tyrow rfl) rfl rfl (Nat.le_refl _))) ?_
      rintro _ _ _ ⟨rfl, rfl, rfl⟩
      refine zO rfl Rd.asg ?_; refine zN ?_; refine zT ?_
      refine XA.ret ?_
      exact bodyA.ret (ResA.one rfl rfl) zE ⟨_, _, rfl, rfl, rfl⟩
  have hpos : 0 < xs.length := List.length_pos_iff.2 h0
  refine CallsA.opn .head (lst_some hpos) (enters Try.func46 rfl rfl) ?_
  rintro g rfl
  refine enterA1 Try.func46 rfl rfl rfl ?_
  refine zS ?_; refine zR ?_; refine zO rfl Rd.asg ?_; refine zN ?_; refine zT ?_; refine zS ?_; refine zS ?_; refine zR ?_; refine zO rfl Rd.mv ?_
  refine zO rfl (Rd.eqlNil (tyrow rfl) rfl rfl) ?_
  refine zN ?_; refine zT ?_
  refine XA.condF rfl rfl ?_
  refine XA.skip ?_
  refine zT ?_; refine zS ?_; refine zR ?_
  refine zw rfl (WrA.bs (fun _ _ => tyrow) rfl rfl rfl rfl rfl) ?_
  rintro _ _ _ ⟨g5, rfl, rfl, rfl⟩
  refine zO rfl Rd.mv ?_
  refine XOA.ent (Δ := [lst 2 1 (.slice (some ⟨g5, 0, none⟩) 0 0) 0 [], lst 2 1 (.slice (some ⟨g, 0, none⟩) xs.length cq) xs.length (ints xs)]) (Ent.selImp (R := blk g5 _ _) (by ((repeat (first | with_reducible exact Sel.head | apply Sel.tail)); (first | done | fail))) (fun m h => lst_empty h (by simp) (by simp [maxLen])) zE) ?_
  refine zw rfl (WrA.append (tyrow rfl) rfl (tyrow rfl) rfl rfl (by ((repeat (first | with_reducible exact Sel.head | apply Sel.tail)); (first | done | fail))) rfl (At.lst (by ((repeat (first | with_reducible exact Sel.head | apply Sel.tail)); (first | done | fail))) (by simp; exact List.take_of_length_le (by simp [ints]))) hxl hone hpos (by simp only [maxLen]; omega) (by simp only; omega)) ?_
  rintro _ _ _ ⟨p, c', rfl, rfl, rfl⟩
  refine zO rfl Rd.asg ?_; refine zN ?_; refine zT ?_
  refine XA.ret ?_
  rw [Nat.zero_add]
  exact bodyA.ret (ResA.one rfl rfl) zE ⟨_, _, rfl, rfl, rfl⟩
theorem plist_a (σ : PH) (pb : Nat) (out : List Int) (wrong : Bool) (hl : out.length ≤ 1000000) :
    CallsA Try.prog 24 #[ptr pb] σ [Prin pb out wrong] (RetA fun v σ' Γ' => ∃ p c, v = .slice p out.length c ∧ σ = σ' ∧ Γ' = [Prin pb out wrong, lst 2 1 (.slice p out.length c) out.length (ints out)]) := by
  refine enterA1 Try.func24 rfl rfl rfl ?_
  refine zS ?_; refine zR ?_; refine zO rfl Rd.asg ?_; refine zN ?_; refine zT ?_; refine zS ?_; refine zR ?_
  first | refine XA.opn (R := Prin pb out wrong) (by ((repeat (first | with_reducible exact Sel.head | apply Sel.tail)); (first | done | fail))) (Prin.opn) ?_ | refine XOA.opn (R := Prin pb out wrong) (by ((repeat (first | with_reducible exact Sel.head | apply Sel.tail)); (first | done | fail))) (Prin.opn) ?_ | refine DA.opn (R := Prin pb out wrong) (by ((repeat (first | with_reducible exact Sel.head | apply Sel.tail)); (first | done | fail))) (Prin.opn) ?_
  rintro ⟨q, cq⟩ -
  first | refine XA.cl ?_ | refine XOA.cl ?_ | refine DA.cl ?_
  refine zO rfl Rd.mv ?_; refine zO rfl (Rd.nilCheck rfl) ?_; refine zO rfl (Rd.fA rfl) ?_; refine zO rfl (Rd.ldC rfl (tyrow rfl) rfl) ?_
  refine zw rfl (WrA.cE (cloneL_a σ q out.length cq out rfl hl) rfl) ?_
  rintro _ _ _ ⟨_, ⟨p, c, rfl, rfl, rfl⟩, rfl⟩
  refine XOA.cl ?_
  refine zO rfl Rd.asg ?_; refine zN ?_; refine zT ?_
  refine XA.ret ?_
  exact bodyA.ret (ResA.one rfl rfl) (Ent.foldC (Θ := [_, _]) (by (repeat (first | exact Ent.all _ | (apply Ent.take; focus (first | ((repeat (first | with_reducible exact Sel.head | apply Sel.tail)); done) | ((repeat (first | exact Sel.head | apply Sel.tail)); done))) | apply Ent.takeNil | apply Ent.takeEmp)); (first | done | fail)) (Prin.mk rfl rfl rfl) zE) ⟨p, c, rfl, rfl, rfl⟩
end Go.Proofs.Ytmnmcjdgnpgchaa

namespace Go.Proofs.Ytmnmcjdgnpgchaa
open Go X
set_option maxHeartbeats 1000000
section
variable (σ : PH) (g mb sb db pb : Nat) (cv iv : Value) (left : Int) (torn : Bool) (d : DiskS) (s : StS) (M : Me)
theorem add_m (a n : Int) :
    CallsA Try.prog 48 #[ptr g, i64 a, i64 n] σ [blk g [ptr mb, cv, iv, ptr pb, i64 left, .bool torn] 64, Wld mb sb db d s M] (RetA fun v σ' Γ' => v = i64 (M.ld a) ∧ σ = σ' ∧ Γ' = [blk g [ptr mb, cv, iv, ptr pb, i64 left, .bool torn] 64, Wld mb sb db d s (M.put a (IntKind.i64.wrap (M.ld a + n)))]) := by
  refine enterA3 Try.func48 rfl rfl rfl ?_
  refine zS ?_; refine zR ?_; refine zO rfl Rd.asg ?_; refine zN ?_; refine zT ?_; refine zS ?_; refine zR ?_; refine zO rfl Rd.mv ?_; refine zO rfl (Rd.nilCheck rfl) ?_; refine zO rfl (Rd.fA rfl) ?_; refine zO rfl (Rd.ldC rfl (tyrow rfl) rfl) ?_; refine zO rfl Rd.mv ?_
  refine zw rfl (WrA.cE (load_w σ mb sb db d s M a) rfl) ?_
  rintro _ _ _ ⟨_, ⟨rfl, rfl, rfl⟩, rfl⟩
  refine XOA.cl ?_
  refine zO rfl Rd.asg ?_; refine zN ?_; refine zT ?_; refine zS ?_; refine zR ?_; refine zO rfl Rd.mv ?_; refine zO rfl (Rd.nilCheck rfl) ?_; refine zO rfl (Rd.fA rfl) ?_; refine zO rfl (Rd.ldC rfl (tyrow rfl) rfl) ?_; refine zO rfl Rd.mv ?_; refine zO rfl Rd.mv ?_; refine zO rfl Rd.mv ?_
  refine zO rfl (by first | exact Rd.adi rfl rfl | exact Rd.add rfl rfl) ?_
  refine zw rfl (WrA.cE (put_w σ mb sb db d s M a (IntKind.i64.wrap (M.ld a + n))) rfl) ?_
  rintro _ _ _ ⟨_, ⟨rfl, rfl, rfl⟩, rfl⟩
  refine XOA.cl ?_
  refine zN ?_; refine zT ?_; refine zS ?_; refine zR ?_; refine zO rfl Rd.mv ?_; refine zO rfl Rd.asg ?_; refine zN ?_; refine zT ?_
  refine XA.ret ?_
  exact bodyA.ret (ResA.one rfl rfl) zE ⟨rfl, rfl, rfl⟩
theorem stop_m (n : Int) :
    CallsA Try.prog 54 #[ptr g, i64 n] σ [blk g [ptr mb, cv, iv, ptr pb, i64 left, .bool torn] 64, Wld mb sb db d s M] (RetA fun v σ' Γ' => v = .tuple #[] ∧ σ = σ' ∧ Γ' = [blk g [ptr mb, cv, iv, ptr pb, i64 left, .bool torn] 64, Wld mb sb db d s (M.put 4 n)]) := by
  refine enterA2 Try.func54 rfl rfl rfl ?_
  refine zR ?_; refine zO rfl Rd.mv ?_; refine zO rfl (Rd.nilCheck rfl) ?_; refine zO rfl (Rd.fA rfl) ?_; refine zO rfl (Rd.ldC rfl (tyrow rfl) rfl) ?_; refine zO rfl Rd.mv ?_
  refine zw rfl (WrA.cE (put_w σ mb sb db d s M 4 n) rfl) ?_
  rintro _ _ _ ⟨_, ⟨rfl, rfl, rfl⟩, rfl⟩
  refine XOA.cl ?_
  refine zN ?_
  exact bodyA.normal (ResA.none rfl) zE ⟨rfl, rfl, rfl⟩
theorem flag_m (b : Bool) : CallsA Try.prog 75 #[.bool b] σ [] (RetA fun v σ' Γ' => v = i64 (if b then 1 else 0) ∧ σ = σ' ∧ Γ' = []) := by
  cases b with
  | true =>
    refine enterA1 Try.func75 rfl rfl rfl ?_
    refine zS ?_; refine zR ?_; refine zO rfl Rd.asg ?_; refine zN ?_; refine zT ?_; refine zS ?_; refine zS ?_; refine zR ?_; refine zO rfl Rd.mv ?_; refine zN ?_; refine zT ?_
    refine XA.condT rfl rfl ?_
    refine zS ?_; refine zR ?_; refine zO rfl Rd.asg ?_; refine zN ?_; refine zT ?_
    refine XA.ret ?_
    refine DA.thn_ret ?_
    exact bodyA.ret (ResA.one rfl rfl) zE ⟨rfl, rfl, rfl⟩
  | false =>
    refine enterA1 Try.func75 rfl rfl rfl ?_
    refine zS ?_; refine zR ?_; refine zO rfl Rd.asg ?_; refine zN ?_; refine zT ?_; refine zS ?_; refine zS ?_; refine zR ?_; refine zO rfl Rd.mv ?_; refine zN ?_; refine zT ?_
    refine XA.condF rfl rfl ?_
    refine XA.skip ?_
    refine zT ?_; refine zS ?_; refine zR ?_; refine zO rfl Rd.asg ?_; refine zN ?_; refine zT ?_
    refine XA.ret ?_
    exact bodyA.ret (ResA.one rfl rfl) zE ⟨rfl, rfl, rfl⟩
variable {next rd outn : Nat} {stack cells : List Int} {st : Int}
theorem push_m (h : Shows M.C ⟨next, stack, rd, outn, st, cells⟩) (hl : stack.length < 59) (n : Int) :
    CallsA Try.prog 49 #[ptr g, i64 n] σ [blk g [ptr mb, cv, iv, ptr pb, i64 left, .bool torn] 64, Wld mb sb db d s M] (RetA fun v σ' Γ' => v = .tuple #[] ∧ σ = σ' ∧ Γ' = [blk g [ptr mb, cv, iv, ptr pb, i64 left, .bool torn] 64, Wld mb sb db d s (M.pushM n)]) := by
  have e : M.ld 1 = stack.length := h.sl
  have hadd := add_m σ g mb sb db pb cv iv left torn d s M 1 1
  rw [X.wrap64_in (by omega) (by omega)] at hadd
  have hv2 : IntKind.i64.wrap (53 + M.ld 1) = 53 + M.ld 1 := X.wrap64_in (by omega) (by omega)
  refine enterA2 Try.func49 rfl rfl rfl ?_
  refine XA.draw (by kernel_rfl) _ _ [8] [(0, .pu), (1, .pu), (2, .pu), (3, .rd), (4, .pu), (7, .pu), (5, .wr), (6, .pu), (8, .wr)] (by kernel_rfl) (PH.sub.refl _) (Ent.sel (R := blk g _ _) (by ((repeat (first | with_reducible exact Sel.head | apply Sel.tail)); (first | done | fail))) (Ent.nil _)) ?_
  refine zu rfl rfl Rd.mv ?_
  refine zu rfl rfl (Rd.nilCheck rfl) ?_
  refine zu rfl rfl (Rd.fA rfl) ?_
  refine XPA.rd rfl rfl Gd.free (Rd.ldC rfl (tyrow rfl) rfl) ?_
  refine zu rfl rfl Rd.mv ?_
  refine zu rfl rfl Rd.mv ?_
  refine XPA.wr0 rfl rfl Gd.free (WrA.cE (hadd) rfl) ?_
  rintro _ _ _ ⟨_, ⟨rfl, rfl, rfl⟩, rfl⟩
  refine stays (XPA.cl ?_)
  refine zu rfl rfl (by first | exact Rd.adi rfl rfl | exact Rd.add rfl rfl) ?_
  refine XPA.wrZ0 rfl rfl Gd.free (by kernel_rfl) (WrA.cE (put_w σ mb sb db d s (M.put 1 (M.ld 1 + 1)) (53 + M.ld 1) n) rfl) ?_
  rintro _ _ _ ⟨_, ⟨rfl, rfl, rfl⟩, rfl⟩
  refine XPA.cl ?_
  refine XPA.nil ?_
  exact bodyA.normal (ResA.none rfl) zE ⟨rfl, rfl, rfl⟩
theorem pop_m {n : Int} {l : List Int} (h : Shows M.C ⟨next, n :: l, rd, outn, st, cells⟩) :
    CallsA Try.prog 51 #[ptr g] σ [blk g [ptr mb, cv, iv, ptr pb, i64 left, .bool torn] 64, Wld mb sb db d s M] (RetA fun v σ' Γ' => v = i64 n ∧ σ = σ' ∧ Γ' = [blk g [ptr mb, cv, iv, ptr pb, i64 left, .bool torn] 64, Wld mb sb db d s M.popM]) := by
  have e : M.ld 1 = l.length + 1 := by rw [Me.ld, h.sl]; simp
  have hl := h.ls
  simp only [List.length_cons] at hl
  have hadd := add_m σ g mb sb db pb cv iv left torn d s M 1 (-1)
  rw [X.wrap64_in (by omega) (by omega), show M.ld 1 + -1 = M.ld 1 - 1 by omega] at hadd
  have hv2 : IntKind.i64.wrap (53 + M.ld 1) = 53 + M.ld 1 := X.wrap64_in (by omega) (by omega)
  have hv3 : IntKind.i64.wrap (53 + M.ld 1 - 1) = 53 + M.ld 1 - 1 := X.wrap64_in (by omega) (by omega)
  have ht := h.topM
  refine enterA1 Try.func51 rfl rfl rfl ?_
  refine zS ?_; refine zR ?_; refine zO rfl Rd.asg ?_; refine zN ?_; refine zT ?_; refine zS ?_
  refine XA.draw (by kernel_rfl) _ _ [8] [(0, .pu), (1, .pu), (2, .pu), (3, .rd), (4, .pu), (5, .wr), (6, .pu), (7, .pu), (8, .wr), (9, .pu)] (by kernel_rfl) (PH.sub.refl _) (Ent.sel (R := blk g _ _) (by ((repeat (first | with_reducible exact Sel.head | apply Sel.tail)); (first | done | fail))) (Ent.nil _)) ?_
  refine zu rfl rfl Rd.mv ?_
  refine zu rfl rfl (Rd.nilCheck rfl) ?_
  refine zu rfl rfl (Rd.fA rfl) ?_
  refine XPA.rd rfl rfl Gd.free (Rd.ldC rfl (tyrow rfl) rfl) ?_
  refine zu rfl rfl Rd.mv ?_
  refine XPA.wr0 rfl rfl Gd.free (WrA.cE (hadd) rfl) ?_
  rintro _ _ _ ⟨_, ⟨rfl, rfl, rfl⟩, rfl⟩
  refine stays (XPA.cl ?_)
  refine zu rfl rfl (by first | exact Rd.adi rfl rfl | exact Rd.add rfl rfl) ?_
  refine zu rfl rfl (by first | exact Rd.sbi rfl rfl | exact Rd.sub rfl rfl) ?_
  rw [show 53 + M.ld 1 - 1 = 52 + M.ld 1 by omega]
  refine XPA.wrZ0 rfl rfl Gd.free (by kernel_rfl) (WrA.cE (load_w σ mb sb db d s M.popM (52 + M.ld 1)) rfl) ?_
  rintro _ _ _ ⟨_, ⟨rfl, rfl, rfl⟩, rfl⟩
  refine XPA.cl ?_
  refine zu rfl rfl Rd.asg ?_
  refine XPA.nil ?_
  refine zT ?_
  refine XA.ret ?_
  exact bodyA.ret (ResA.one rfl rfl) zE ⟨congrArg i64 ht, rfl, rfl⟩
end
end Go.Proofs.Ytmnmcjdgnpgchaa

namespace Go.Proofs.Ytmnmcjdgnpgchaa
open Go X
set_option maxHeartbeats 1000000
section
variable (σ : PH) (g mb sb db pb : Nat) (cv iv : Value) (left : Int) (torn : Bool) (d : DiskS) (s : StS) (M : Me)
variable {next rd outn : Nat} {stack cells : List Int} {st : Int}
theorem two_m {y z : Int} {l : List Int} (op : Int) (ho : 4 ≤ op ∧ op ≤ 8) (h : Shows M.C ⟨next, y :: z :: l, rd, outn, st, cells⟩) :
    CallsA Try.prog 50 #[ptr g, i64 op] σ [blk g [ptr mb, cv, iv, ptr pb, i64 left, .bool torn] 64, Wld mb sb db d s M] (RetA fun v σ' Γ' => v = .tuple #[] ∧ σ = σ' ∧ Γ' = [blk g [ptr mb, cv, iv, ptr pb, i64 left, .bool torn] 64, Wld mb sb db d s (M.popM.popM.pushM (binV op z y))]) := by
  have hl := h.ls
  simp only [List.length_cons] at hl
  have hp1 := pop_m σ g mb sb db pb cv iv left torn d s M h
  have hp2 := pop_m σ g mb sb db pb cv iv left torn d s M.popM h.popM
  have hpu := fun n => push_m σ g mb sb db pb cv iv left torn d s M.popM.popM h.popM.popM (by omega) n
  by_cases h4 : op = 4
  · subst h4
    rw [show binV 4 z y = wrap_ (z + y) from rfl]
    refine enterA2 Try.func50 rfl rfl rfl ?_
    refine zS ?_; refine zR ?_; refine zO rfl Rd.mv ?_
    refine zw rfl (WrA.cE (hp1) rfl) ?_
    rintro _ _ _ ⟨_, ⟨rfl, rfl, rfl⟩, rfl⟩
    refine XOA.cl ?_
    refine zO rfl Rd.asg ?_; refine zN ?_; refine zT ?_; refine zS ?_; refine zR ?_; refine zO rfl Rd.mv ?_
    refine zw rfl (WrA.cE (hp2) rfl) ?_
    rintro _ _ _ ⟨_, ⟨rfl, rfl, rfl⟩, rfl⟩
    refine XOA.cl ?_
    refine zO rfl Rd.asg ?_; refine zN ?_; refine zT ?_; refine zS ?_; refine zR ?_; refine zO rfl Rd.mv ?_; refine zO rfl Rd.mv ?_
    refine zO rfl (by first | exact Rd.adi rfl rfl | exact Rd.add rfl rfl) ?_
    refine zO rfl Rd.asg ?_; refine zN ?_; refine zT ?_; refine zS ?_; refine zS ?_; refine zR ?_; refine zO rfl Rd.mv ?_; refine zN ?_; refine zT ?_
    refine XA.block ?_
    refine zS ?_; refine zR ?_; refine zO rfl (Rd.eql rfl rfl) ?_; refine zO rfl Rd.asg ?_; refine zN ?_; refine zT ?_
    refine XA.condF rfl rfl ?_
    refine zS ?_; refine zR ?_; refine zO rfl (Rd.eql rfl rfl) ?_; refine zO rfl Rd.asg ?_; refine zN ?_; refine zT ?_
    refine XA.condF rfl rfl ?_
    refine zS ?_; refine zR ?_; refine zO rfl (Rd.eql rfl rfl) ?_; refine zO rfl Rd.asg ?_; refine zN ?_; refine zT ?_
    refine XA.condF rfl rfl ?_
    refine zS ?_; refine zR ?_; refine zO rfl (Rd.eql rfl rfl) ?_; refine zO rfl Rd.asg ?_; refine zN ?_; refine zT ?_
    refine XA.condF rfl rfl ?_
    refine XA.skip ?_
    refine DA.inb_normal ?_
    refine zT ?_; refine zR ?_; refine zO rfl Rd.mv ?_; refine zO rfl Rd.mv ?_
    refine zw rfl (WrA.cE (hpu _) rfl) ?_
    rintro _ _ _ ⟨_, ⟨rfl, rfl, rfl⟩, rfl⟩
    refine XOA.cl ?_
    refine zN ?_
    exact bodyA.normal (ResA.none rfl) zE ⟨rfl, rfl, rfl⟩
  by_cases h5 : op = 5
  · subst h5
    rw [show binV 5 z y = wrap_ (z - y) from rfl]
    refine enterA2 Try.func50 rfl rfl rfl ?_
    refine zS ?_; refine zR ?_; refine zO rfl Rd.mv ?_
    refine zw rfl (WrA.cE (hp1) rfl) ?_
    rintro _ _ _ ⟨_, ⟨rfl, rfl, rfl⟩, rfl⟩
    refine XOA.cl ?_
    refine zO rfl Rd.asg ?_; refine zN ?_; refine zT ?_; refine zS ?_; refine zR ?_; refine zO rfl Rd.mv ?_
    refine zw rfl (WrA.cE (hp2) rfl) ?_
    rintro _ _ _ ⟨_, ⟨rfl, rfl, rfl⟩, rfl⟩
    refine XOA.cl ?_
    refine zO rfl Rd.asg ?_; refine zN ?_; refine zT ?_; refine zS ?_; refine zR ?_; refine zO rfl Rd.mv ?_; refine zO rfl Rd.mv ?_
    refine zO rfl (by first | exact Rd.adi rfl rfl | exact Rd.add rfl rfl) ?_
    refine zO rfl Rd.asg ?_; refine zN ?_; refine zT ?_; refine zS ?_; refine zS ?_; refine zR ?_; refine zO rfl Rd.mv ?_; refine zN ?_; refine zT ?_
    refine XA.block ?_
    refine zS ?_; refine zR ?_; refine zO rfl (Rd.eql rfl rfl) ?_; refine zO rfl Rd.asg ?_; refine zN ?_; refine zT ?_
    refine XA.condT rfl rfl ?_
    refine zR ?_; refine zO rfl Rd.mv ?_; refine zO rfl Rd.mv ?_
    refine zO rfl (by first | exact Rd.sbi rfl rfl | exact Rd.sub rfl rfl) ?_
    refine zO rfl Rd.asg ?_; refine zN ?_
    refine DA.inb_normal ?_
    refine zT ?_; refine zR ?_; refine zO rfl Rd.mv ?_; refine zO rfl Rd.mv ?_
    refine zw rfl (WrA.cE (hpu _) rfl) ?_
    rintro _ _ _ ⟨_, ⟨rfl, rfl, rfl⟩, rfl⟩
    refine XOA.cl ?_
    refine zN ?_
    exact bodyA.normal (ResA.none rfl) zE ⟨rfl, rfl, rfl⟩
  by_cases h6 : op = 6
  · subst h6
    rw [show binV 6 z y = wrap_ (z * y) from rfl]
    refine enterA2 Try.func50 rfl rfl rfl ?_
    refine zS ?_; refine zR ?_; refine zO rfl Rd.mv ?_
    refine zw rfl (WrA.cE (hp1) rfl) ?_
    rintro _ _ _ ⟨_, ⟨rfl, rfl, rfl⟩, rfl⟩
    refine XOA.cl ?_
    refine zO rfl Rd.asg ?_; refine zN ?_; refine zT ?_; refine zS ?_; refine zR ?_; refine zO rfl Rd.mv ?_
    refine zw rfl (WrA.cE (hp2) rfl) ?_
    rintro _ _ _ ⟨_, ⟨rfl, rfl, rfl⟩, rfl⟩
    refine XOA.cl ?_
    refine zO rfl Rd.asg ?_; refine zN ?_; refine zT ?_; refine zS ?_; refine zR ?_; refine zO rfl Rd.mv ?_; refine zO rfl Rd.mv ?_
    refine zO rfl (by first | exact Rd.adi rfl rfl | exact Rd.add rfl rfl) ?_
    refine zO rfl Rd.asg ?_; refine zN ?_; refine zT ?_; refine zS ?_; refine zS ?_; refine zR ?_; refine zO rfl Rd.mv ?_; refine zN ?_; refine zT ?_
    refine XA.block ?_
    refine zS ?_; refine zR ?_; refine zO rfl (Rd.eql rfl rfl) ?_; refine zO rfl Rd.asg ?_; refine zN ?_; refine zT ?_
    refine XA.condF rfl rfl ?_
    refine zS ?_; refine zR ?_; refine zO rfl (Rd.eql rfl rfl) ?_; refine zO rfl Rd.asg ?_; refine zN ?_; refine zT ?_
    refine XA.condT rfl rfl ?_
    refine zR ?_; refine zO rfl Rd.mv ?_; refine zO rfl Rd.mv ?_
    refine zO rfl (by first | exact Rd.mli rfl rfl | exact Rd.mul rfl rfl) ?_
    refine zO rfl Rd.asg ?_; refine zN ?_
    refine DA.inb_normal ?_
    refine zT ?_; refine zR ?_; refine zO rfl Rd.mv ?_; refine zO rfl Rd.mv ?_
    refine zw rfl (WrA.cE (hpu _) rfl) ?_
    rintro _ _ _ ⟨_, ⟨rfl, rfl, rfl⟩, rfl⟩
    refine XOA.cl ?_
    refine zN ?_
    exact bodyA.normal (ResA.none rfl) zE ⟨rfl, rfl, rfl⟩
  by_cases h7 : op = 7
  · subst h7
    rw [show binV 7 z y = (if decide (z < y) = true then 1 else 0) from by simp [binV]]
    refine enterA2 Try.func50 rfl rfl rfl ?_
    refine zS ?_; refine zR ?_; refine zO rfl Rd.mv ?_
    refine zw rfl (WrA.cE (hp1) rfl) ?_
    rintro _ _ _ ⟨_, ⟨rfl, rfl, rfl⟩, rfl⟩
    refine XOA.cl ?_
    refine zO rfl Rd.asg ?_; refine zN ?_; refine zT ?_; refine zS ?_; refine zR ?_; refine zO rfl Rd.mv ?_
    refine zw rfl (WrA.cE (hp2) rfl) ?_
    rintro _ _ _ ⟨_, ⟨rfl, rfl, rfl⟩, rfl⟩
    refine XOA.cl ?_
    refine zO rfl Rd.asg ?_; refine zN ?_; refine zT ?_; refine zS ?_; refine zR ?_; refine zO rfl Rd.mv ?_; refine zO rfl Rd.mv ?_
    refine zO rfl (by first | exact Rd.adi rfl rfl | exact Rd.add rfl rfl) ?_
    refine zO rfl Rd.asg ?_; refine zN ?_; refine zT ?_; refine zS ?_; refine zS ?_; refine zR ?_; refine zO rfl Rd.mv ?_; refine zN ?_; refine zT ?_
    refine XA.block ?_
    refine zS ?_; refine zR ?_; refine zO rfl (Rd.eql rfl rfl) ?_; refine zO rfl Rd.asg ?_; refine zN ?_; refine zT ?_
    refine XA.condF rfl rfl ?_
    refine zS ?_; refine zR ?_; refine zO rfl (Rd.eql rfl rfl) ?_; refine zO rfl Rd.asg ?_; refine zN ?_; refine zT ?_
    refine XA.condF rfl rfl ?_
    refine zS ?_; refine zR ?_; refine zO rfl (Rd.eql rfl rfl) ?_; refine zO rfl Rd.asg ?_; refine zN ?_; refine zT ?_
    refine XA.condT rfl rfl ?_
    refine zR ?_; refine zO rfl Rd.mv ?_; refine zO rfl Rd.mv ?_; refine zO rfl (Rd.lss rfl rfl) ?_
    refine zw rfl (WrA.cE (flag_m σ _) rfl) ?_
    rintro _ _ _ ⟨_, ⟨rfl, rfl, rfl⟩, rfl⟩
    refine XOA.cl ?_
    refine zO rfl Rd.asg ?_; refine zN ?_
    refine DA.inb_normal ?_
    refine zT ?_; refine zR ?_; refine zO rfl Rd.mv ?_; refine zO rfl Rd.mv ?_
    refine zw rfl (WrA.cE (hpu _) rfl) ?_
    rintro _ _ _ ⟨_, ⟨rfl, rfl, rfl⟩, rfl⟩
    refine XOA.cl ?_
    refine zN ?_
    exact bodyA.normal (ResA.none rfl) zE ⟨rfl, rfl, rfl⟩
  by_cases h8 : op = 8
  · subst h8
    rw [show binV 8 z y = (if decide (z = y) = true then 1 else 0) from by simp [binV]]
    refine enterA2 Try.func50 rfl rfl rfl ?_
    refine zS ?_; refine zR ?_; refine zO rfl Rd.mv ?_
    refine zw rfl (WrA.cE (hp1) rfl) ?_
    rintro _ _ _ ⟨_, ⟨rfl, rfl, rfl⟩, rfl⟩
    refine XOA.cl ?_
    refine zO rfl Rd.asg ?_; refine zN ?_; refine zT ?_; refine zS ?_; refine zR ?_; refine zO rfl Rd.mv ?_
    refine zw rfl (WrA.cE (hp2) rfl) ?_
    rintro _ _ _ ⟨_, ⟨rfl, rfl, rfl⟩, rfl⟩
    refine XOA.cl ?_
    refine zO rfl Rd.asg ?_; refine zN ?_; refine zT ?_; refine zS ?_; refine zR ?_; refine zO rfl Rd.mv ?_; refine zO rfl Rd.mv ?_
    refine zO rfl (by first | exact Rd.adi rfl rfl | exact Rd.add rfl rfl) ?_
    refine zO rfl Rd.asg ?_; refine zN ?_; refine zT ?_; refine zS ?_; refine zS ?_; refine zR ?_; refine zO rfl Rd.mv ?_; refine zN ?_; refine zT ?_
    refine XA.block ?_
    refine zS ?_; refine zR ?_; refine zO rfl (Rd.eql rfl rfl) ?_; refine zO rfl Rd.asg ?_; refine zN ?_; refine zT ?_
    refine XA.condF rfl rfl ?_
    refine zS ?_; refine zR ?_; refine zO rfl (Rd.eql rfl rfl) ?_; refine zO rfl Rd.asg ?_; refine zN ?_; refine zT ?_
    refine XA.condF rfl rfl ?_
    refine zS ?_; refine zR ?_; refine zO rfl (Rd.eql rfl rfl) ?_; refine zO rfl Rd.asg ?_; refine zN ?_; refine zT ?_
    refine XA.condF rfl rfl ?_
    refine zS ?_; refine zR ?_; refine zO rfl (Rd.eql rfl rfl) ?_; refine zO rfl Rd.asg ?_; refine zN ?_; refine zT ?_
    refine XA.condT rfl rfl ?_
    refine zR ?_; refine zO rfl Rd.mv ?_; refine zO rfl Rd.mv ?_; refine zO rfl (Rd.eql rfl rfl) ?_
    refine zw rfl (WrA.cE (flag_m σ _) rfl) ?_
    rintro _ _ _ ⟨_, ⟨rfl, rfl, rfl⟩, rfl⟩
    refine XOA.cl ?_
    refine zO rfl Rd.asg ?_; refine zN ?_
    refine DA.inb_normal ?_
    refine zT ?_; refine zR ?_; refine zO rfl Rd.mv ?_; refine zO rfl Rd.mv ?_
    refine zw rfl (WrA.cE (hpu _) rfl) ?_
    rintro _ _ _ ⟨_, ⟨rfl, rfl, rfl⟩, rfl⟩
    refine XOA.cl ?_
    refine zN ?_
    exact bodyA.normal (ResA.none rfl) zE ⟨rfl, rfl, rfl⟩
  omega
theorem take_m (pi : Option Addr) (ci : Nat) (inp : List Int) (a : Int) (ha : 0 ≤ a ∧ a < 48) (hi : PInts σ (.slice pi inp.length ci) inp) (hil : inp.length ≤ 1000000) (h : Shows M.C ⟨next, stack, rd, outn, st, cells⟩) :
    CallsA Try.prog 79 #[ptr g, i64 a] σ [blk g [ptr mb, cv, .slice pi inp.length ci, ptr pb, i64 left, .bool torn] 64, Wld mb sb db d s M] (RetA fun v σ' Γ' => v = .tuple #[] ∧ σ = σ' ∧ Γ' = [blk g [ptr mb, cv, .slice pi inp.length ci, ptr pb, i64 left, .bool torn] 64, Wld mb sb db d s (if (inp.length : Int) ≤ M.ld 2 then M.put 4 14 else (M.put 2 (M.ld 2 + 1)).put (5 + a) (inp.getD (M.ld 2).toNat 0))]) := by
  have e : M.ld 2 = rd := h.rd
  have hld := load_w σ mb sb db d s M 2
  rw [e] at hld
  by_cases hr : inp.length ≤ rd
  · rw [if_pos (by omega)]
    have hr2 : (rd : Int) ≥ inp.length := by omega
    refine enterA2 Try.func79 rfl rfl rfl ?_
    refine zS ?_; refine zR ?_; refine zO rfl Rd.mv ?_; refine zO rfl (Rd.nilCheck rfl) ?_; refine zO rfl (Rd.fA rfl) ?_; refine zO rfl (Rd.ldC rfl (tyrow rfl) rfl) ?_
    refine zw rfl (WrA.cE (hld) rfl) ?_
    rintro _ _ _ ⟨_, ⟨rfl, rfl, rfl⟩, rfl⟩
    refine XOA.cl ?_
    refine zO rfl Rd.asg ?_; refine zN ?_; refine zT ?_; refine zS ?_; refine zS ?_; refine zR ?_; refine zO rfl Rd.mv ?_; refine zO rfl Rd.mv ?_; refine zO rfl (Rd.nilCheck rfl) ?_; refine zO rfl (Rd.fA rfl) ?_; refine zO rfl (Rd.ldC rfl (tyrow rfl) rfl) ?_; refine zO rfl (Rd.lenSlice (tyrow rfl) rfl rfl) ?_
    refine zO rfl (Rd.geq rfl rfl) ?_
    refine zN ?_; refine zT ?_
    refine XA.condT rfl (by first | rfl | exact decide_eq_true (by omega)) ?_
    refine zS ?_; refine zR ?_; refine zO rfl Rd.mv ?_
    refine zw rfl (WrA.cE (stop_m σ g mb sb db pb cv (.slice pi inp.length ci) left torn d s M 14) rfl) ?_
    rintro _ _ _ ⟨_, ⟨rfl, rfl, rfl⟩, rfl⟩
    refine XOA.cl ?_
    refine zN ?_; refine zT ?_
    refine XA.ret ?_
    refine DA.thn_ret ?_
    exact bodyA.ret (ResA.none rfl) zE ⟨rfl, rfl, rfl⟩
  · rw [if_neg (by omega)]
    have hri2 : rd < inp.length := by omega
    obtain ⟨y, hy⟩ : ∃ y, inp[rd]? = some y := ⟨_, List.getElem?_eq_getElem hri2⟩
    obtain ⟨gi, oi, rfl, hri3⟩ := hi.at hy
    rw [Nat.mul_one] at hri3
    have hy2 : inp.getD (M.ld 2).toNat 0 = y := by rw [e, Int.toNat_natCast, List.getD_eq_getElem?_getD, hy]; rfl
    rw [hy2, e]
    have hadd := add_m σ g mb sb db pb cv (.slice (some ⟨gi, oi, none⟩) inp.length ci) left torn d s M 2 1
    rw [X.wrap64_in (by omega) (by omega), e] at hadd
    refine enterA2 Try.func79 rfl rfl rfl ?_
    refine zS ?_; refine zR ?_; refine zO rfl Rd.mv ?_; refine zO rfl (Rd.nilCheck rfl) ?_; refine zO rfl (Rd.fA rfl) ?_; refine zO rfl (Rd.ldC rfl (tyrow rfl) rfl) ?_
    refine zw rfl (WrA.cE (hld) rfl) ?_
    rintro _ _ _ ⟨_, ⟨rfl, rfl, rfl⟩, rfl⟩
    refine XOA.cl ?_
    refine zO rfl Rd.asg ?_; refine zN ?_; refine zT ?_; refine zS ?_; refine zS ?_; refine zR ?_; refine zO rfl Rd.mv ?_; refine zO rfl Rd.mv ?_; refine zO rfl (Rd.nilCheck rfl) ?_; refine zO rfl (Rd.fA rfl) ?_; refine zO rfl (Rd.ldC rfl (tyrow rfl) rfl) ?_; refine zO rfl (Rd.lenSlice (tyrow rfl) rfl rfl) ?_
    refine zO rfl (Rd.geq rfl rfl) ?_
    refine zN ?_; refine zT ?_
    refine XA.condF rfl (by first | rfl | exact decide_eq_false (by omega)) ?_
    refine XA.skip ?_
    refine zT ?_; refine zS ?_; refine zR ?_; refine zO rfl Rd.mv ?_
    refine zw rfl (WrA.cE (hadd) rfl) ?_
    rintro _ _ _ ⟨_, ⟨rfl, rfl, rfl⟩, rfl⟩
    refine XOA.cl ?_
    refine zN ?_; refine zT ?_
    refine XA.draw (by kernel_rfl) _ _ [13] [(0, .pu), (1, .pu), (2, .pu), (3, .rd), (4, .pu), (5, .pu), (6, .pu), (7, .pu), (8, .pu), (9, .rd), (10, .pu), (11, .pu), (12, .rd), (13, .wr)] (by kernel_rfl) (PH.sub.refl _) (Ent.sel (R := blk g _ _) (by ((repeat (first | with_reducible exact Sel.head | apply Sel.tail)); (first | done | fail))) (Ent.nil _)) ?_
    refine zu rfl rfl Rd.mv ?_
    refine zu rfl rfl (Rd.nilCheck rfl) ?_
    refine zu rfl rfl (Rd.fA rfl) ?_
    refine XPA.rd rfl rfl Gd.free (Rd.ldC rfl (tyrow rfl) rfl) ?_
    refine zu rfl rfl Rd.mv ?_
    refine zu rfl rfl (by first | exact Rd.adi rfl rfl | exact Rd.add rfl rfl) ?_
    refine zu rfl rfl Rd.mv ?_
    refine zu rfl rfl (Rd.nilCheck rfl) ?_
    refine zu rfl rfl (Rd.fA rfl) ?_
    refine XPA.rd rfl rfl Gd.free (Rd.ldC rfl (tyrow rfl) rfl) ?_
    refine zu rfl rfl Rd.mv ?_
    refine zu rfl rfl (Rd.ixS rfl rfl) ?_
    refine XPA.rd rfl rfl Gd.free (Rd.ldC rfl (tyrow rfl) rfl) ?_
    refine XPA.wrZ0 rfl rfl Gd.free (by kernel_rfl) (WrA.cE (put_w σ mb sb db d s (M.put 2 ((rd : Int) + 1)) (5 + a) y) rfl) ?_
    rintro _ _ _ ⟨_, ⟨rfl, rfl, rfl⟩, rfl⟩
    refine XPA.cl ?_
    refine XPA.nil ?_
    exact bodyA.normal (ResA.none rfl) zE ⟨rfl, rfl, rfl⟩
theorem cell_m (op a b n k : Int) (hc : 0 ≤ a ∧ 1 ≤ b ∧ a + b ≤ 48) :
    CallsA Try.prog 78 #[ptr g, .agg #[i64 op, i64 a, i64 b, i64 n], i64 k] σ [blk g [ptr mb, cv, iv, ptr pb, i64 left, .bool torn] 64, Wld mb sb db d s M] (RetA fun v σ' Γ' => v = .tuple #[i64 (if k < 0 ∨ b ≤ k then 0 else 5 + a + k), .bool (decide ¬ (k < 0 ∨ b ≤ k))] ∧ σ = σ' ∧ Γ' = [blk g [ptr mb, cv, iv, ptr pb, i64 left, .bool torn] 64, Wld mb sb db d s (if k < 0 ∨ b ≤ k then M.put 4 13 else M)]) := by
  by_cases h0 : k < 0
  · have hk : k < 0 ∨ b ≤ k := .inl h0
    rw [if_pos hk, if_pos hk, decide_eq_false (fun q => q hk)]
    refine enterA3 Try.func78 rfl rfl rfl ?_
    refine zS ?_; refine zR ?_
    refine zw rfl WrA.bx ?_
    rintro _ _ _ ⟨g4, rfl, rfl, rfl⟩
    refine zO rfl Rd.asg ?_; refine zO rfl Rd.asg ?_; refine zN ?_; refine zT ?_; refine zS ?_; refine zS ?_; refine zR ?_; refine zO rfl Rd.mv ?_; refine zO rfl (Rd.lss rfl rfl) ?_; refine zO rfl Rd.mv ?_
    first | ((first | refine zW ?_ | refine zQ ?_); refine zO rfl Rd.mv ?_) | refine zU ?_ | refine zV ?_ | refine zZ ?_
    first | ((first | refine zW ?_ | refine zQ ?_); refine zO rfl (Rd.fA rfl) ?_) | refine zU ?_ | refine zV ?_ | refine zZ ?_
    first | ((first | refine zW ?_ | refine zQ ?_); refine zO rfl (Rd.ldC rfl (tyrow rfl) rfl) ?_) | refine zU ?_ | refine zV ?_ | refine zZ ?_
    first | ((first | refine zW ?_ | refine zQ ?_); refine zO rfl (Rd.geq rfl rfl) ?_) | refine zU ?_ | refine zV ?_ | refine zZ ?_
    refine zO rfl (by first | exact Rd.pT rfl | exact Rd.pF rfl | exact Rd.pP rfl) ?_
    refine zN ?_; refine zT ?_
    refine XA.condT rfl (by first | rfl | exact decide_eq_true (by omega)) ?_
    refine zS ?_; refine zR ?_; refine zO rfl Rd.mv ?_
    refine zw rfl (WrA.cE (stop_m σ g mb sb db pb cv iv left torn d s M 13) rfl) ?_
    rintro _ _ _ ⟨_, ⟨rfl, rfl, rfl⟩, rfl⟩
    refine XOA.cl ?_
    refine zN ?_; refine zT ?_; refine zS ?_; refine zR ?_; refine zO rfl Rd.asg ?_; refine zO rfl Rd.asg ?_; refine zN ?_; refine zT ?_
    refine XA.ret ?_
    refine DA.thn_ret ?_
    exact bodyA.ret (ResA.two rfl rfl rfl) zE ⟨rfl, rfl, rfl⟩
  by_cases h1 : b ≤ k
  · have hk : k < 0 ∨ b ≤ k := .inr h1
    rw [if_pos hk, if_pos hk, decide_eq_false (fun q => q hk)]
    refine enterA3 Try.func78 rfl rfl rfl ?_
    refine zS ?_; refine zR ?_
    refine zw rfl WrA.bx ?_
    rintro _ _ _ ⟨g4, rfl, rfl, rfl⟩
    refine zO rfl Rd.asg ?_; refine zO rfl Rd.asg ?_; refine zN ?_; refine zT ?_; refine zS ?_; refine zS ?_; refine zR ?_; refine zO rfl Rd.mv ?_; refine zO rfl (Rd.lss rfl rfl) ?_; refine zO rfl Rd.mv ?_
    first | ((first | refine zW ?_ | refine zQ ?_); refine zO rfl Rd.mv ?_) | refine zU ?_ | refine zV ?_ | refine zZ ?_
    first | ((first | refine zW ?_ | refine zQ ?_); refine zO rfl (Rd.fA rfl) ?_) | refine zU ?_ | refine zV ?_ | refine zZ ?_
    first | ((first | refine zW ?_ | refine zQ ?_); refine zO rfl (Rd.ldC rfl (tyrow rfl) rfl) ?_) | refine zU ?_ | refine zV ?_ | refine zZ ?_
    first | ((first | refine zW ?_ | refine zQ ?_); refine zO rfl (Rd.geq rfl rfl) ?_) | refine zU ?_ | refine zV ?_ | refine zZ ?_
    refine zO rfl (by first | exact Rd.pT rfl | exact Rd.pF rfl | exact Rd.pP rfl) ?_
    refine zN ?_; refine zT ?_
    refine XA.condT rfl (by first | rfl | exact decide_eq_true (by omega)) ?_
    refine zS ?_; refine zR ?_; refine zO rfl Rd.mv ?_
    refine zw rfl (WrA.cE (stop_m σ g mb sb db pb cv iv left torn d s M 13) rfl) ?_
    rintro _ _ _ ⟨_, ⟨rfl, rfl, rfl⟩, rfl⟩
    refine XOA.cl ?_
    refine zN ?_; refine zT ?_; refine zS ?_; refine zR ?_; refine zO rfl Rd.asg ?_; refine zO rfl Rd.asg ?_; refine zN ?_; refine zT ?_
    refine XA.ret ?_
    refine DA.thn_ret ?_
    exact bodyA.ret (ResA.two rfl rfl rfl) zE ⟨rfl, rfl, rfl⟩
  have hk : ¬ (k < 0 ∨ b ≤ k) := by omega
  rw [if_neg hk, if_neg hk, decide_eq_true hk]
  refine enterA3 Try.func78 rfl rfl rfl ?_
  refine zS ?_; refine zR ?_
  refine zw rfl WrA.bx ?_
  rintro _ _ _ ⟨g4, rfl, rfl, rfl⟩
  refine zO rfl Rd.asg ?_; refine zO rfl Rd.asg ?_; refine zN ?_; refine zT ?_; refine zS ?_; refine zS ?_; refine zR ?_; refine zO rfl Rd.mv ?_; refine zO rfl (Rd.lss rfl rfl) ?_; refine zO rfl Rd.mv ?_
  first | ((first | refine zW ?_ | refine zQ ?_); refine zO rfl Rd.mv ?_) | refine zU ?_ | refine zV ?_ | refine zZ ?_
  first | ((first | refine zW ?_ | refine zQ ?_); refine zO rfl (Rd.fA rfl) ?_) | refine zU ?_ | refine zV ?_ | refine zZ ?_
  first | ((first | refine zW ?_ | refine zQ ?_); refine zO rfl (Rd.ldC rfl (tyrow rfl) rfl) ?_) | refine zU ?_ | refine zV ?_ | refine zZ ?_
  first | ((first | refine zW ?_ | refine zQ ?_); refine zO rfl (Rd.geq rfl rfl) ?_) | refine zU ?_ | refine zV ?_ | refine zZ ?_
  refine zO rfl (by first | exact Rd.pT rfl | exact Rd.pF rfl | exact Rd.pP rfl) ?_
  refine zN ?_; refine zT ?_
  refine XA.condF rfl (by first | rfl | exact decide_eq_false (by omega)) ?_
  refine XA.skip ?_
  refine zT ?_; refine zS ?_; refine zR ?_; refine zO rfl (Rd.fA rfl) ?_; refine zO rfl (Rd.ldC rfl (tyrow rfl) rfl) ?_
  refine zO rfl (by first | exact Rd.adi rfl rfl | exact Rd.add rfl rfl) ?_
  refine zO rfl Rd.mv ?_
  refine zO rfl (by first | exact Rd.adi rfl rfl | exact Rd.add rfl rfl) ?_
  refine zO rfl Rd.asg ?_; refine zO rfl Rd.asg ?_; refine zN ?_; refine zT ?_
  refine XA.ret ?_
  exact bodyA.ret (ResA.two rfl rfl rfl) zE ⟨rfl, rfl, rfl⟩
theorem commit_m (hg : s.gen < 4611686018427387904) :
    CallsA Try.prog 53 #[ptr g] σ [blk g [ptr mb, cv, iv, ptr pb, i64 0, .bool torn] 64, Wld mb sb db d s M] (RetA fun v σ' Γ' => ∃ (d' : DiskS) (s' : StS), v = .tuple #[] ∧ s'.gen = s.gen + 1 ∧ pagesC d' s' = M.C ∧ Good d' s' ∧ σ.sub σ' ∧ Γ' = [blk g [ptr mb, cv, iv, ptr pb, i64 0, .bool false] 64, Wld mb sb db d' s' ⟨M.C, noB⟩]) := by
  refine enterA1 Try.func53 rfl rfl rfl ?_
  refine zS ?_; refine zR ?_; refine zO rfl Rd.asg ?_; refine zN ?_; refine zT ?_; refine zS ?_; refine zS ?_; refine zR ?_; refine zO rfl Rd.mv ?_; refine zO rfl (Rd.nilCheck rfl) ?_; refine zO rfl (Rd.fA rfl) ?_; refine zO rfl (Rd.ldC rfl (tyrow rfl) rfl) ?_
  refine zO rfl (Rd.gtr rfl rfl) ?_
  refine zN ?_; refine zT ?_
  refine XA.condF rfl rfl ?_
  refine XA.skip ?_
  refine zT ?_; refine zR ?_; refine zO rfl Rd.mv ?_; refine zO rfl Rd.mv ?_; refine zO rfl (Rd.nilCheck rfl) ?_; refine zO rfl (Rd.fA rfl) ?_; refine zO rfl (Rd.ldC rfl (tyrow rfl) rfl) ?_; refine zO rfl Rd.mv ?_
  refine zw rfl (WrA.cE (sync_w σ mb sb db d s M hg) rfl) ?_
  rintro _ σ1 _ ⟨_, ⟨d', s', rfl, h1, h2, h3, hs1, rfl⟩, rfl⟩
  refine XOA.cl ?_
  refine zO rfl (by first | exact Rd.notp rfl | exact Rd.not rfl) ?_
  refine zO rfl (Rd.nilCheck rfl) ?_; refine zO rfl (Rd.fA rfl) ?_
  refine zw rfl (WrA.st (tyrow rfl) rfl) ?_
  rintro _ _ _ ⟨rfl, rfl, rfl⟩
  refine zN ?_
  exact bodyA.normal (ResA.none rfl) zE ⟨d', s', rfl, h1, h2, h3, hs1, rfl⟩
end
end Go.Proofs.Ytmnmcjdgnpgchaa

namespace Go.Proofs.Ytmnmcjdgnpgchaa
open Go X
set_option maxHeartbeats 1000000
section
variable (σ : PH) (g mb sb db pb : Nat) (cv iv : Value) (left : Int) (torn : Bool) (d : DiskS) (s : StS) (M : Me)
variable {next rd outn : Nat} {stack cells : List Int} {st : Int}
theorem cells2_m (a b n : Int) (ha : 0 ≤ a ∧ a < 48) (h : Shows M.C ⟨next, stack, rd, outn, st, cells⟩) (hl : stack.length < 59) :
    CallsA Try.prog 55 #[ptr g, .agg #[i64 2, i64 a, i64 b, i64 n]] σ [blk g [ptr mb, cv, iv, ptr pb, i64 left, .bool torn] 64, Wld mb sb db d s M] (RetA fun v σ' Γ' => v = .tuple #[] ∧ σ = σ' ∧ Γ' = [blk g [ptr mb, cv, iv, ptr pb, i64 left, .bool torn] 64, Wld mb sb db d s (M.pushM (M.ld (5 + a)))]) := by
  refine enterA2 Try.func55 rfl rfl rfl ?_
  refine zS ?_; refine zR ?_
  refine zw rfl WrA.bx ?_
  rintro _ _ _ ⟨g3, rfl, rfl, rfl⟩
  refine zN ?_; refine zT ?_; refine zS ?_; refine zR ?_; refine zO rfl (Rd.fA rfl) ?_; refine zO rfl (Rd.ldC rfl (tyrow rfl) rfl) ?_; refine zN ?_; refine zT ?_
  refine XA.block ?_
  refine zS ?_; refine zR ?_; refine zO rfl (Rd.eql rfl rfl) ?_; refine zO rfl Rd.asg ?_; refine zN ?_; refine zT ?_
  refine XA.condT rfl rfl ?_
  refine XA.draw (by kernel_rfl) _ _ [8, 9] [(0, .pu), (1, .pu), (2, .pu), (3, .pu), (4, .rd), (5, .pu), (6, .rd), (7, .pu), (8, .wr), (9, .wr)] (by kernel_rfl) (PH.sub.refl _) (Ent.sel (R := blk g _ _) (by ((repeat (first | with_reducible exact Sel.head | apply Sel.tail)); (first | done | fail))) (Ent.sel (R := blk g3 _ _) (by ((repeat (first | with_reducible exact Sel.head | apply Sel.tail)); (first | done | fail))) (Ent.nil _))) ?_
  refine zu rfl rfl Rd.mv ?_
  refine zu rfl rfl Rd.mv ?_
  refine zu rfl rfl (Rd.nilCheck rfl) ?_
  refine zu rfl rfl (Rd.fA rfl) ?_
  refine XPA.rd rfl rfl Gd.free (Rd.ldC rfl (tyrow rfl) rfl) ?_
  refine zu rfl rfl (Rd.fA rfl) ?_
  refine XPA.rd rfl rfl Gd.free (Rd.ldC rfl (tyrow rfl) rfl) ?_
  refine zu rfl rfl (by first | exact Rd.adi rfl rfl | exact Rd.add rfl rfl) ?_
  refine XPA.wrZ0 rfl rfl Gd.free (by kernel_rfl) (WrA.cE (load_w σ mb sb db d s M (5 + a)) rfl) ?_
  rintro _ _ _ ⟨_, ⟨rfl, rfl, rfl⟩, rfl⟩
  refine XPA.cl ?_
  refine XPA.wrZ0 rfl rfl Gd.free (by kernel_rfl) (WrA.cE (push_m σ g mb sb db pb cv iv left torn d s M h hl (M.ld (5 + a))) rfl) ?_
  rintro _ _ _ ⟨_, ⟨rfl, rfl, rfl⟩, rfl⟩
  refine XPA.cl ?_
  refine XPA.nil ?_
  refine DA.inb_normal ?_
  exact bodyA.normal (ResA.none rfl) zE ⟨rfl, rfl, rfl⟩
theorem cells3_m (a b n k : Int) (l : List Int) (hc : 0 ≤ a ∧ 1 ≤ b ∧ a + b ≤ 48) (h : Shows M.C ⟨next, k :: l, rd, outn, st, cells⟩) :
    CallsA Try.prog 55 #[ptr g, .agg #[i64 3, i64 a, i64 b, i64 n]] σ [blk g [ptr mb, cv, iv, ptr pb, i64 left, .bool torn] 64, Wld mb sb db d s M] (RetA fun v σ' Γ' => v = .tuple #[] ∧ σ = σ' ∧ Γ' = [blk g [ptr mb, cv, iv, ptr pb, i64 left, .bool torn] 64, Wld mb sb db d s (if k < 0 ∨ b ≤ k then M.popM.put 4 13 else M.popM.pushM (M.popM.ld (5 + a + k)))]) := by
  have hs := h.ls
  simp only [List.length_cons] at hs
  have hce := cell_m σ g mb sb db pb cv iv left torn d s M.popM 3 a b n k hc
  by_cases hk : k < 0 ∨ b ≤ k
  · rw [if_pos hk]
    rw [if_pos hk, if_pos hk, decide_eq_false (fun q => q hk)] at hce
    refine enterA2 Try.func55 rfl rfl rfl ?_
    refine zS ?_; refine zR ?_
    refine zw rfl WrA.bx ?_
    rintro _ _ _ ⟨g3, rfl, rfl, rfl⟩
    refine zN ?_; refine zT ?_; refine zS ?_; refine zR ?_; refine zO rfl (Rd.fA rfl) ?_; refine zO rfl (Rd.ldC rfl (tyrow rfl) rfl) ?_; refine zN ?_; refine zT ?_
    refine XA.block ?_
    refine zS ?_; refine zR ?_; refine zO rfl (Rd.eql rfl rfl) ?_; refine zO rfl Rd.asg ?_; refine zN ?_; refine zT ?_
    refine XA.condF rfl rfl ?_
    refine zS ?_; refine zR ?_; refine zO rfl (Rd.eql rfl rfl) ?_; refine zO rfl Rd.asg ?_; refine zN ?_; refine zT ?_
    refine XA.condT rfl rfl ?_
    refine zS ?_
    refine XA.draw (by kernel_rfl) _ _ [4] [(0, .pu), (1, .rd), (2, .pu), (3, .wr), (4, .wr), (5, .pu), (6, .pu), (7, .pu), (8, .pu), (9, .pu)] (by kernel_rfl) (PH.sub.refl _) (Ent.sel (R := blk g3 _ _) (by ((repeat (first | with_reducible exact Sel.head | apply Sel.tail)); (first | done | fail))) (Ent.nil _)) ?_
    refine zu rfl rfl Rd.mv ?_
    refine XPA.rd rfl rfl Gd.free (Rd.ldA rfl) ?_
    refine zu rfl rfl Rd.mv ?_
    refine XPA.wr0 rfl rfl Gd.free (WrA.cE (pop_m σ g mb sb db pb cv iv left torn d s M h) rfl) ?_
    rintro _ _ _ ⟨_, ⟨rfl, rfl, rfl⟩, rfl⟩
    refine stays (XPA.cl ?_)
    refine XPA.wrZ0 rfl rfl Gd.free (by kernel_rfl) (WrA.cE (hce) rfl) ?_
    rintro _ _ _ ⟨_, ⟨rfl, rfl, rfl⟩, rfl⟩
    refine XPA.cl ?_
    refine zu rfl rfl Rd.mv ?_
    refine zu rfl rfl (Rd.extract rfl rfl) ?_
    refine zu rfl rfl (Rd.extract rfl rfl) ?_
    refine zu rfl rfl Rd.asg ?_
    refine zu rfl rfl Rd.asg ?_
    refine XPA.nil ?_
    refine zT ?_; refine zS ?_; refine zR ?_; refine zO rfl Rd.mv ?_; refine zN ?_; refine zT ?_
    refine XA.condF rfl rfl ?_
    refine XA.skip ?_
    refine DA.inb_normal ?_
    exact bodyA.normal (ResA.none rfl) zE ⟨rfl, rfl, rfl⟩
  · rw [if_neg hk]
    rw [if_neg hk, if_neg hk, decide_eq_true hk] at hce
    refine enterA2 Try.func55 rfl rfl rfl ?_
    refine zS ?_; refine zR ?_
    refine zw rfl WrA.bx ?_
    rintro _ _ _ ⟨g3, rfl, rfl, rfl⟩
    refine zN ?_; refine zT ?_; refine zS ?_; refine zR ?_; refine zO rfl (Rd.fA rfl) ?_; refine zO rfl (Rd.ldC rfl (tyrow rfl) rfl) ?_; refine zN ?_; refine zT ?_
    refine XA.block ?_
    refine zS ?_; refine zR ?_; refine zO rfl (Rd.eql rfl rfl) ?_; refine zO rfl Rd.asg ?_; refine zN ?_; refine zT ?_
    refine XA.condF rfl rfl ?_
    refine zS ?_; refine zR ?_; refine zO rfl (Rd.eql rfl rfl) ?_; refine zO rfl Rd.asg ?_; refine zN ?_; refine zT ?_
    refine XA.condT rfl rfl ?_
    refine zS ?_
    refine XA.draw (by kernel_rfl) _ _ [4] [(0, .pu), (1, .rd), (2, .pu), (3, .wr), (4, .wr), (5, .pu), (6, .pu), (7, .pu), (8, .pu), (9, .pu)] (by kernel_rfl) (PH.sub.refl _) (Ent.sel (R := blk g3 _ _) (by ((repeat (first | with_reducible exact Sel.head | apply Sel.tail)); (first | done | fail))) (Ent.nil _)) ?_
    refine zu rfl rfl Rd.mv ?_
    refine XPA.rd rfl rfl Gd.free (Rd.ldA rfl) ?_
    refine zu rfl rfl Rd.mv ?_
    refine XPA.wr0 rfl rfl Gd.free (WrA.cE (pop_m σ g mb sb db pb cv iv left torn d s M h) rfl) ?_
    rintro _ _ _ ⟨_, ⟨rfl, rfl, rfl⟩, rfl⟩
    refine stays (XPA.cl ?_)
    refine XPA.wrZ0 rfl rfl Gd.free (by kernel_rfl) (WrA.cE (hce) rfl) ?_
    rintro _ _ _ ⟨_, ⟨rfl, rfl, rfl⟩, rfl⟩
    refine XPA.cl ?_
    refine zu rfl rfl Rd.mv ?_
    refine zu rfl rfl (Rd.extract rfl rfl) ?_
    refine zu rfl rfl (Rd.extract rfl rfl) ?_
    refine zu rfl rfl Rd.asg ?_
    refine zu rfl rfl Rd.asg ?_
    refine XPA.nil ?_
    refine zT ?_; refine zS ?_; refine zR ?_; refine zO rfl Rd.mv ?_; refine zN ?_; refine zT ?_
    refine XA.condT rfl rfl ?_
    refine zR ?_; refine zO rfl Rd.mv ?_; refine zO rfl Rd.mv ?_; refine zO rfl (Rd.nilCheck rfl) ?_; refine zO rfl (Rd.fA rfl) ?_; refine zO rfl (Rd.ldC rfl (tyrow rfl) rfl) ?_; refine zO rfl Rd.mv ?_
    refine zw rfl (WrA.cE (load_w σ mb sb db d s M.popM (5 + a + k)) rfl) ?_
    rintro _ _ _ ⟨_, ⟨rfl, rfl, rfl⟩, rfl⟩
    refine XOA.cl ?_
    refine zw rfl (WrA.cE (push_m σ g mb sb db pb cv iv left torn d s M.popM h.popM (by omega) (M.popM.ld (5 + a + k))) rfl) ?_
    rintro _ _ _ ⟨_, ⟨rfl, rfl, rfl⟩, rfl⟩
    refine XOA.cl ?_
    refine zN ?_
    refine DA.inb_normal ?_
    exact bodyA.normal (ResA.none rfl) zE ⟨rfl, rfl, rfl⟩
theorem cells9_m (a b n k : Int) (l : List Int) (ha : 0 ≤ a ∧ a < 48) (h : Shows M.C ⟨next, k :: l, rd, outn, st, cells⟩) :
    CallsA Try.prog 55 #[ptr g, .agg #[i64 9, i64 a, i64 b, i64 n]] σ [blk g [ptr mb, cv, iv, ptr pb, i64 left, .bool torn] 64, Wld mb sb db d s M] (RetA fun v σ' Γ' => v = .tuple #[] ∧ σ = σ' ∧ Γ' = [blk g [ptr mb, cv, iv, ptr pb, i64 left, .bool torn] 64, Wld mb sb db d s (M.popM.put (5 + a) k)]) := by
  refine enterA2 Try.func55 rfl rfl rfl ?_
  refine zS ?_; refine zR ?_
  refine zw rfl WrA.bx ?_
  rintro _ _ _ ⟨g3, rfl, rfl, rfl⟩
  refine zN ?_; refine zT ?_; refine zS ?_; refine zR ?_; refine zO rfl (Rd.fA rfl) ?_; refine zO rfl (Rd.ldC rfl (tyrow rfl) rfl) ?_; refine zN ?_; refine zT ?_
  refine XA.block ?_
  refine zS ?_; refine zR ?_; refine zO rfl (Rd.eql rfl rfl) ?_; refine zO rfl Rd.asg ?_; refine zN ?_; refine zT ?_
  refine XA.condF rfl rfl ?_
  refine zS ?_; refine zR ?_; refine zO rfl (Rd.eql rfl rfl) ?_; refine zO rfl Rd.asg ?_; refine zN ?_; refine zT ?_
  refine XA.condF rfl rfl ?_
  refine zS ?_; refine zR ?_; refine zO rfl (Rd.eql rfl rfl) ?_; refine zO rfl Rd.asg ?_; refine zN ?_; refine zT ?_
  refine XA.condT rfl rfl ?_
  refine XA.draw (by kernel_rfl) _ _ [9] [(0, .pu), (1, .pu), (2, .pu), (3, .rd), (4, .pu), (5, .rd), (6, .pu), (7, .pu), (8, .wr), (9, .wr)] (by kernel_rfl) (PH.sub.refl _) (Ent.sel (R := blk g _ _) (by ((repeat (first | with_reducible exact Sel.head | apply Sel.tail)); (first | done | fail))) (Ent.sel (R := blk g3 _ _) (by ((repeat (first | with_reducible exact Sel.head | apply Sel.tail)); (first | done | fail))) (Ent.nil _))) ?_
  refine zu rfl rfl Rd.mv ?_
  refine zu rfl rfl (Rd.nilCheck rfl) ?_
  refine zu rfl rfl (Rd.fA rfl) ?_
  refine XPA.rd rfl rfl Gd.free (Rd.ldC rfl (tyrow rfl) rfl) ?_
  refine zu rfl rfl (Rd.fA rfl) ?_
  refine XPA.rd rfl rfl Gd.free (Rd.ldC rfl (tyrow rfl) rfl) ?_
  refine zu rfl rfl (by first | exact Rd.adi rfl rfl | exact Rd.add rfl rfl) ?_
  refine zu rfl rfl Rd.mv ?_
  refine XPA.wr0 rfl rfl Gd.free (WrA.cE (pop_m σ g mb sb db pb cv iv left torn d s M h) rfl) ?_
  rintro _ _ _ ⟨_, ⟨rfl, rfl, rfl⟩, rfl⟩
  refine stays (XPA.cl ?_)
  refine XPA.wrZ0 rfl rfl Gd.free (by kernel_rfl) (WrA.cE (put_w σ mb sb db d s M.popM (5 + a) k) rfl) ?_
  rintro _ _ _ ⟨_, ⟨rfl, rfl, rfl⟩, rfl⟩
  refine XPA.cl ?_
  refine XPA.nil ?_
  refine DA.inb_normal ?_
  exact bodyA.normal (ResA.none rfl) zE ⟨rfl, rfl, rfl⟩
theorem cells10_m (a b n m k : Int) (l : List Int) (hc : 0 ≤ a ∧ 1 ≤ b ∧ a + b ≤ 48) (h : Shows M.C ⟨next, m :: k :: l, rd, outn, st, cells⟩) :
    CallsA Try.prog 55 #[ptr g, .agg #[i64 10, i64 a, i64 b, i64 n]] σ [blk g [ptr mb, cv, iv, ptr pb, i64 left, .bool torn] 64, Wld mb sb db d s M] (RetA fun v σ' Γ' => v = .tuple #[] ∧ σ = σ' ∧ Γ' = [blk g [ptr mb, cv, iv, ptr pb, i64 left, .bool torn] 64, Wld mb sb db d s (if k < 0 ∨ b ≤ k then M.popM.popM.put 4 13 else M.popM.popM.put (5 + a + k) m)]) := by
  have hce := cell_m σ g mb sb db pb cv iv left torn d s M.popM.popM 10 a b n k hc
  by_cases hk : k < 0 ∨ b ≤ k
  · rw [if_pos hk]
    rw [if_pos hk, if_pos hk, decide_eq_false (fun q => q hk)] at hce
    refine enterA2 Try.func55 rfl rfl rfl ?_
    refine zS ?_; refine zR ?_
    refine zw rfl WrA.bx ?_
    rintro _ _ _ ⟨g3, rfl, rfl, rfl⟩
    refine zN ?_; refine zT ?_; refine zS ?_; refine zR ?_; refine zO rfl (Rd.fA rfl) ?_; refine zO rfl (Rd.ldC rfl (tyrow rfl) rfl) ?_; refine zN ?_; refine zT ?_
    refine XA.block ?_
    refine zS ?_; refine zR ?_; refine zO rfl (Rd.eql rfl rfl) ?_; refine zO rfl Rd.asg ?_; refine zN ?_; refine zT ?_
    refine XA.condF rfl rfl ?_
    refine zS ?_; refine zR ?_; refine zO rfl (Rd.eql rfl rfl) ?_; refine zO rfl Rd.asg ?_; refine zN ?_; refine zT ?_
    refine XA.condF rfl rfl ?_
    refine zS ?_; refine zR ?_; refine zO rfl (Rd.eql rfl rfl) ?_; refine zO rfl Rd.asg ?_; refine zN ?_; refine zT ?_
    refine XA.condF rfl rfl ?_
    refine zS ?_; refine zR ?_; refine zO rfl (Rd.eql rfl rfl) ?_; refine zO rfl Rd.asg ?_; refine zN ?_; refine zT ?_
    refine XA.condT rfl rfl ?_
    refine zS ?_; refine zR ?_; refine zO rfl Rd.mv ?_
    refine zw rfl (WrA.cE (pop_m σ g mb sb db pb cv iv left torn d s M h) rfl) ?_
    rintro _ _ _ ⟨_, ⟨rfl, rfl, rfl⟩, rfl⟩
    refine XOA.cl ?_
    refine zO rfl Rd.asg ?_; refine zN ?_; refine zT ?_; refine zS ?_
    refine XA.draw (by kernel_rfl) _ _ [4] [(0, .pu), (1, .rd), (2, .pu), (3, .wr), (4, .wr), (5, .pu), (6, .pu), (7, .pu), (8, .pu), (9, .pu)] (by kernel_rfl) (PH.sub.refl _) (Ent.sel (R := blk g3 _ _) (by ((repeat (first | with_reducible exact Sel.head | apply Sel.tail)); (first | done | fail))) (Ent.nil _)) ?_
    refine zu rfl rfl Rd.mv ?_
    refine XPA.rd rfl rfl Gd.free (Rd.ldA rfl) ?_
    refine zu rfl rfl Rd.mv ?_
    refine XPA.wr0 rfl rfl Gd.free (WrA.cE (pop_m σ g mb sb db pb cv iv left torn d s M.popM h.popM) rfl) ?_
    rintro _ _ _ ⟨_, ⟨rfl, rfl, rfl⟩, rfl⟩
    refine stays (XPA.cl ?_)
    refine XPA.wrZ0 rfl rfl Gd.free (by kernel_rfl) (WrA.cE (hce) rfl) ?_
    rintro _ _ _ ⟨_, ⟨rfl, rfl, rfl⟩, rfl⟩
    refine XPA.cl ?_
    refine zu rfl rfl Rd.mv ?_
    refine zu rfl rfl (Rd.extract rfl rfl) ?_
    refine zu rfl rfl (Rd.extract rfl rfl) ?_
    refine zu rfl rfl Rd.asg ?_
    refine zu rfl rfl Rd.asg ?_
    refine XPA.nil ?_
    refine zT ?_; refine zS ?_; refine zR ?_; refine zO rfl Rd.mv ?_; refine zN ?_; refine zT ?_
    refine XA.condF rfl rfl ?_
    refine XA.skip ?_
    refine DA.inb_normal ?_
    exact bodyA.normal (ResA.none rfl) zE ⟨rfl, rfl, rfl⟩
  · rw [if_neg hk]
    rw [if_neg hk, if_neg hk, decide_eq_true hk] at hce
    refine enterA2 Try.func55 rfl rfl rfl ?_
    refine zS ?_; refine zR ?_
    refine zw rfl WrA.bx ?_
    rintro _ _ _ ⟨g3, rfl, rfl, rfl⟩
    refine zN ?_; refine zT ?_; refine zS ?_; refine zR ?_; refine zO rfl (Rd.fA rfl) ?_; refine zO rfl (Rd.ldC rfl (tyrow rfl) rfl) ?_; refine zN ?_; refine zT ?_
    refine XA.block ?_
    refine zS ?_; refine zR ?_; refine zO rfl (Rd.eql rfl rfl) ?_; refine zO rfl Rd.asg ?_; refine zN ?_; refine zT ?_
    refine XA.condF rfl rfl ?_
    refine zS ?_; refine zR ?_; refine zO rfl (Rd.eql rfl rfl) ?_; refine zO rfl Rd.asg ?_; refine zN ?_; refine zT ?_
    refine XA.condF rfl rfl ?_
    refine zS ?_; refine zR ?_; refine zO rfl (Rd.eql rfl rfl) ?_; refine zO rfl Rd.asg ?_; refine zN ?_; refine zT ?_
    refine XA.condF rfl rfl ?_
    refine zS ?_; refine zR ?_; refine zO rfl (Rd.eql rfl rfl) ?_; refine zO rfl Rd.asg ?_; refine zN ?_; refine zT ?_
    refine XA.condT rfl rfl ?_
    refine zS ?_; refine zR ?_; refine zO rfl Rd.mv ?_
    refine zw rfl (WrA.cE (pop_m σ g mb sb db pb cv iv left torn d s M h) rfl) ?_
    rintro _ _ _ ⟨_, ⟨rfl, rfl, rfl⟩, rfl⟩
    refine XOA.cl ?_
    refine zO rfl Rd.asg ?_; refine zN ?_; refine zT ?_; refine zS ?_
    refine XA.draw (by kernel_rfl) _ _ [4] [(0, .pu), (1, .rd), (2, .pu), (3, .wr), (4, .wr), (5, .pu), (6, .pu), (7, .pu), (8, .pu), (9, .pu)] (by kernel_rfl) (PH.sub.refl _) (Ent.sel (R := blk g3 _ _) (by ((repeat (first | with_reducible exact Sel.head | apply Sel.tail)); (first | done | fail))) (Ent.nil _)) ?_
    refine zu rfl rfl Rd.mv ?_
    refine XPA.rd rfl rfl Gd.free (Rd.ldA rfl) ?_
    refine zu rfl rfl Rd.mv ?_
    refine XPA.wr0 rfl rfl Gd.free (WrA.cE (pop_m σ g mb sb db pb cv iv left torn d s M.popM h.popM) rfl) ?_
    rintro _ _ _ ⟨_, ⟨rfl, rfl, rfl⟩, rfl⟩
    refine stays (XPA.cl ?_)
    refine XPA.wrZ0 rfl rfl Gd.free (by kernel_rfl) (WrA.cE (hce) rfl) ?_
    rintro _ _ _ ⟨_, ⟨rfl, rfl, rfl⟩, rfl⟩
    refine XPA.cl ?_
    refine zu rfl rfl Rd.mv ?_
    refine zu rfl rfl (Rd.extract rfl rfl) ?_
    refine zu rfl rfl (Rd.extract rfl rfl) ?_
    refine zu rfl rfl Rd.asg ?_
    refine zu rfl rfl Rd.asg ?_
    refine XPA.nil ?_
    refine zT ?_; refine zS ?_; refine zR ?_; refine zO rfl Rd.mv ?_; refine zN ?_; refine zT ?_
    refine XA.condT rfl rfl ?_
    refine zR ?_; refine zO rfl Rd.mv ?_; refine zO rfl (Rd.nilCheck rfl) ?_; refine zO rfl (Rd.fA rfl) ?_; refine zO rfl (Rd.ldC rfl (tyrow rfl) rfl) ?_; refine zO rfl Rd.mv ?_; refine zO rfl Rd.mv ?_
    refine zw rfl (WrA.cE (put_w σ mb sb db d s M.popM.popM (5 + a + k) m) rfl) ?_
    rintro _ _ _ ⟨_, ⟨rfl, rfl, rfl⟩, rfl⟩
    refine XOA.cl ?_
    refine zN ?_
    refine DA.inb_normal ?_
    exact bodyA.normal (ResA.none rfl) zE ⟨rfl, rfl, rfl⟩
theorem cells12_m (pi : Option Addr) (ci : Nat) (inp : List Int) (a b n : Int) (ha : 0 ≤ a ∧ a < 48) (hi : PInts σ (.slice pi inp.length ci) inp) (hil : inp.length ≤ 1000000) (h : Shows M.C ⟨next, stack, rd, outn, st, cells⟩) :
    CallsA Try.prog 55 #[ptr g, .agg #[i64 12, i64 a, i64 b, i64 n]] σ [blk g [ptr mb, cv, .slice pi inp.length ci, ptr pb, i64 left, .bool torn] 64, Wld mb sb db d s M] (RetA fun v σ' Γ' => v = .tuple #[] ∧ σ = σ' ∧ Γ' = [blk g [ptr mb, cv, .slice pi inp.length ci, ptr pb, i64 left, .bool torn] 64, Wld mb sb db d s (if (inp.length : Int) ≤ M.ld 2 then M.put 4 14 else (M.put 2 (M.ld 2 + 1)).put (5 + a) (inp.getD (M.ld 2).toNat 0))]) := by
  refine enterA2 Try.func55 rfl rfl rfl ?_
  refine zS ?_; refine zR ?_
  refine zw rfl WrA.bx ?_
  rintro _ _ _ ⟨g3, rfl, rfl, rfl⟩
  refine zN ?_; refine zT ?_; refine zS ?_; refine zR ?_; refine zO rfl (Rd.fA rfl) ?_; refine zO rfl (Rd.ldC rfl (tyrow rfl) rfl) ?_; refine zN ?_; refine zT ?_
  refine XA.block ?_
  refine zS ?_; refine zR ?_; refine zO rfl (Rd.eql rfl rfl) ?_; refine zO rfl Rd.asg ?_; refine zN ?_; refine zT ?_
  refine XA.condF rfl rfl ?_
  refine zS ?_; refine zR ?_; refine zO rfl (Rd.eql rfl rfl) ?_; refine zO rfl Rd.asg ?_; refine zN ?_; refine zT ?_
  refine XA.condF rfl rfl ?_
  refine zS ?_; refine zR ?_; refine zO rfl (Rd.eql rfl rfl) ?_; refine zO rfl Rd.asg ?_; refine zN ?_; refine zT ?_
  refine XA.condF rfl rfl ?_
  refine zS ?_; refine zR ?_; refine zO rfl (Rd.eql rfl rfl) ?_; refine zO rfl Rd.asg ?_; refine zN ?_; refine zT ?_
  refine XA.condF rfl rfl ?_
  refine zS ?_; refine zR ?_; refine zO rfl (Rd.eql rfl rfl) ?_; refine zO rfl Rd.asg ?_; refine zN ?_; refine zT ?_
  refine XA.condT rfl rfl ?_
  refine zR ?_; refine zO rfl Rd.mv ?_; refine zO rfl (Rd.fA rfl) ?_; refine zO rfl (Rd.ldC rfl (tyrow rfl) rfl) ?_
  refine zw rfl (WrA.cE (take_m σ g mb sb db pb cv left torn d s M pi ci inp a ha hi hil h) rfl) ?_
  rintro _ _ _ ⟨_, ⟨rfl, rfl, rfl⟩, rfl⟩
  refine XOA.cl ?_
  refine zN ?_
  refine DA.inb_normal ?_
  exact bodyA.normal (ResA.none rfl) zE ⟨rfl, rfl, rfl⟩
theorem cellsN_m (op a b n : Int) (h2 : op ≠ 2) (h3 : op ≠ 3) (h9 : op ≠ 9) (h10 : op ≠ 10) (h12 : op ≠ 12) :
    CallsA Try.prog 55 #[ptr g, .agg #[i64 op, i64 a, i64 b, i64 n]] σ [blk g [ptr mb, cv, iv, ptr pb, i64 left, .bool torn] 64, Wld mb sb db d s M] (RetA fun v σ' Γ' => v = .tuple #[] ∧ σ = σ' ∧ Γ' = [blk g [ptr mb, cv, iv, ptr pb, i64 left, .bool torn] 64, Wld mb sb db d s M]) := by
  refine enterA2 Try.func55 rfl rfl rfl ?_
  refine zS ?_; refine zR ?_
  refine zw rfl WrA.bx ?_
  rintro _ _ _ ⟨g3, rfl, rfl, rfl⟩
  refine zN ?_; refine zT ?_; refine zS ?_; refine zR ?_; refine zO rfl (Rd.fA rfl) ?_; refine zO rfl (Rd.ldC rfl (tyrow rfl) rfl) ?_; refine zN ?_; refine zT ?_
  refine XA.block ?_
  refine zS ?_; refine zR ?_; refine zO rfl (Rd.eql rfl rfl) ?_; refine zO rfl Rd.asg ?_; refine zN ?_; refine zT ?_
  refine XA.condF rfl (decide_eq_false h2) ?_
  refine zS ?_; refine zR ?_; refine zO rfl (Rd.eql rfl rfl) ?_; refine zO rfl Rd.asg ?_; refine zN ?_; refine zT ?_
  refine XA.condF rfl (decide_eq_false h3) ?_
  refine zS ?_; refine zR ?_; refine zO rfl (Rd.eql rfl rfl) ?_; refine zO rfl Rd.asg ?_; refine zN ?_; refine zT ?_
  refine XA.condF rfl (decide_eq_false h9) ?_
  refine zS ?_; refine zR ?_; refine zO rfl (Rd.eql rfl rfl) ?_; refine zO rfl Rd.asg ?_; refine zN ?_; refine zT ?_
  refine XA.condF rfl (decide_eq_false h10) ?_
  refine zS ?_; refine zR ?_; refine zO rfl (Rd.eql rfl rfl) ?_; refine zO rfl Rd.asg ?_; refine zN ?_; refine zT ?_
  refine XA.condF rfl (decide_eq_false h12) ?_
  refine XA.skip ?_
  refine DA.inb_normal ?_
  exact bodyA.normal (ResA.none rfl) zE ⟨rfl, rfl, rfl⟩
end
end Go.Proofs.Ytmnmcjdgnpgchaa

namespace Go.Proofs.Ytmnmcjdgnpgchaa
open Go X
set_option maxHeartbeats 2000000
theorem stepdone_m (σ : PH) (g mb sb db pb : Nat) (cv iv : Value) (left : Int) (torn : Bool) (d : DiskS) (s : StS) (M : Me) (h4 : M.ld 4 ≠ 0) :
    CallsA Try.prog 18 #[ptr g] σ [blk g [ptr mb, cv, iv, ptr pb, i64 left, .bool torn] 64, Wld mb sb db d s M] (RetA fun v σ' Γ' => v = .bool false ∧ σ = σ' ∧ Γ' = [blk g [ptr mb, cv, iv, ptr pb, i64 left, .bool torn] 64, Wld mb sb db d s M]) := by
  refine enterA1 Try.func18 rfl rfl rfl ?_
  refine zS ?_; refine zR ?_; refine zO rfl Rd.asg ?_; refine zN ?_; refine zT ?_; refine zS ?_; refine zS ?_; refine zR ?_; refine zO rfl Rd.mv ?_; refine zO rfl (Rd.nilCheck rfl) ?_; refine zO rfl (Rd.fA rfl) ?_; refine zO rfl (Rd.ldC rfl (tyrow rfl) rfl) ?_
  refine zw rfl (WrA.cE (load_w σ mb sb db d s M 4) rfl) ?_
  rintro _ _ _ ⟨_, ⟨rfl, rfl, rfl⟩, rfl⟩
  refine XOA.cl ?_
  refine zO rfl (Rd.neq rfl rfl) ?_
  refine zN ?_; refine zT ?_
  refine XA.condT rfl (decide_eq_true h4) ?_
  refine zS ?_; refine zR ?_; refine zO rfl Rd.asg ?_; refine zN ?_; refine zT ?_
  refine XA.ret ?_
  refine DA.thn_ret ?_
  exact bodyA.ret (ResA.one rfl rfl) zE ⟨rfl, rfl, rfl⟩
theorem prS_do {out : List Int} {wrong : Bool} {outn : Nat} {n : Int} (h : outn ≤ out.length) : prS out wrong outn n = (if outn = out.length then (out ++ [n], wrong) else (out, wrong || decide (out.getD outn 0 ≠ n))) := by
  rw [prS]
  by_cases h1 : outn = out.length
  · rw [if_pos (by omega), if_pos h1]
  · rw [if_neg (by omega), if_neg h1, Int.toNat_natCast]
    by_cases h2 : out.getD outn 0 = n
    · rw [if_neg (by rintro (q | q | q); omega; omega; exact q h2), decide_eq_false (fun q => q h2), Bool.or_false]
    · rw [if_pos (.inr (.inr h2)), decide_eq_true h2, Bool.or_true]
section
variable (σ : PH) (g mb sb db pb : Nat) (pc pi : Option Addr) (cc ci : Nat) (code : List In) (inp : List Int) (left : Int) (torn : Bool) (d : DiskS) (s : StS) (M : Me) (b : Be) (x : In)
theorem step_m (hc : PSl 4 rIn σ (.slice pc code.length cc) code) (hi : PInts σ (.slice pi inp.length ci) inp) (hil : inp.length ≤ 1000000) (hS : Shows M.C b.m) (hk : StepOk code inp b x) (hs : b.m.stack.length < 59) (h15 : x.op ≠ 15) :
    CallsA Try.prog 18 #[ptr g] σ [blk g [ptr mb, .slice pc code.length cc, .slice pi inp.length ci, ptr pb, i64 left, .bool torn] 64, Wld mb sb db d s M, Prin pb b.out b.wrong] (RetA fun v σ' Γ' => v = .bool true ∧ σ = σ' ∧ Γ' = [blk g [ptr mb, .slice pc code.length cc, .slice pi inp.length ci, ptr pb, i64 left, .bool torn] 64, Wld mb sb db d s (M.stepM code inp), Prin pb (stepB code inp false b).out (stepB code inp false b).wrong]) := by
  obtain ⟨⟨next, stack, rd, outn, st, cells⟩, kept, out, wrong⟩ := b
  obtain ⟨hst, hx, hpop, ⟨hcell, hcell2⟩, hgo, hsl, hcl, hcd, hrd, hol, hon⟩ := hk
  have h48 := hS.lc
  simp only at hst hx hpop hcell hcell2 hsl hcl hcd hrd hol hon hs hS h48
  subst hst
  obtain ⟨xop, xa, xb, xn⟩ := x
  simp only at hpop hcell hcell2 hgo h15
  have hlt := (List.getElem?_eq_some_iff.1 hx).1
  obtain ⟨gc, oc', row, rfl, hrx, hrl, hrow⟩ := hc.at hx
  obtain rfl : row = [i64 xop, i64 xa, i64 xb, i64 xn] := hrx
  have hB : stepB code inp false ⟨⟨next, stack, rd, outn, 0, cells⟩, kept, out, wrong⟩ = doIn inp false ⟨xop, xa, xb, xn⟩ ⟨⟨next + 1, stack, rd, outn, 0, cells⟩, kept, out, wrong⟩ := by
    rw [stepB, hx]; rfl
  rw [hB]
  clear hB
  have e0 : M.ld 0 = next := hS.nx
  have hM : M.stepM code inp = (M.put 0 ((next : Int) + 1)).doM inp ⟨xop, xa, xb, xn⟩ := by rw [Me.stepM, e0, Int.toNat_natCast, hx]
  have hw : Shows (M.put 0 (((next : Nat) : Int) + 1)).C ⟨next + 1, stack, rd, outn, 0, cells⟩ := by
    have := hS.put0 (next + 1)
    rw [Int.natCast_add] at this
    exact this
  have hld := load_w σ mb sb db d s M 4
  rw [show M.ld 4 = 0 from hS.st] at hld
  have hadd := add_m σ g mb sb db pb (.slice (some ⟨gc, oc', none⟩) code.length cc) (.slice pi inp.length ci) left torn d s M 0 1
  rw [e0, X.wrap64_in (by omega) (by omega)] at hadd
  rw [hM]
  clear hM hS e0 hc
  generalize M.put 0 (((next : Nat) : Int) + 1) = M1 at hw hadd ⊢
  dsimp only
  refine enterA1 Try.func18 rfl rfl rfl ?_
  refine zS ?_; refine zR ?_; refine zO rfl Rd.asg ?_; refine zN ?_; refine zT ?_; refine zS ?_; refine zS ?_; refine zR ?_; refine zO rfl Rd.mv ?_; refine zO rfl (Rd.nilCheck rfl) ?_; refine zO rfl (Rd.fA rfl) ?_; refine zO rfl (Rd.ldC rfl (tyrow rfl) rfl) ?_
  refine zw rfl (WrA.cE (hld) rfl) ?_
  rintro _ _ _ ⟨_, ⟨rfl, rfl, rfl⟩, rfl⟩
  refine XOA.cl ?_
  refine zO rfl (Rd.neq rfl rfl) ?_
  refine zN ?_; refine zT ?_
  refine XA.condF rfl rfl ?_
  refine XA.skip ?_
  refine zT ?_; refine zS ?_
  refine XA.join [(3, 3), (11, 18)] (fun y : Nat => [(3, ptr y)]) (fun y σ' Γ' => σ = σ' ∧ Γ' = [blk y [i64 xop, i64 xa, i64 xb, i64 xn] 104, blk g [ptr mb, .slice (some ⟨gc, oc', none⟩) code.length cc, .slice pi inp.length ci, ptr pb, i64 left, .bool torn] 64, Wld mb sb db d s M1, Prin pb out wrong]) ?_ ?_
  · skip
    refine XA.drawQ (by kernel_rfl) _ _ [9] 10 #[false, false, false, false, false, false, false, false, false, false] rfl rfl (by kernel_rfl) (PH.sub.refl _) (Ent.sel (R := blk g _ _) (by ((repeat (first | with_reducible exact Sel.head | apply Sel.tail)); (first | done | fail))) (Ent.nil _)) ?_
    refine XQA.pu (i := 0) (listed' := #[true, false, false, false, false, false, false, false, false, false]) rfl rfl (by kernel_rfl) rfl Gd.free Rd.mv ?_
    refine XQA.pu (i := 1) (listed' := #[true, true, false, false, false, false, false, false, false, false]) rfl rfl (by kernel_rfl) rfl Gd.free (Rd.nilCheck rfl) ?_
    refine XQA.pu (i := 2) (listed' := #[true, true, true, false, false, false, false, false, false, false]) rfl rfl (by kernel_rfl) rfl Gd.free (Rd.fA rfl) ?_
    refine XQA.rd (i := 3) (listed' := #[true, true, true, true, false, false, false, false, false, false]) rfl rfl (by kernel_rfl) rfl Gd.free (Rd.ldC rfl (tyrow rfl) rfl) ?_
    refine XQA.pu (i := 4) (listed' := #[true, true, true, true, true, false, false, false, false, false]) rfl rfl (by kernel_rfl) rfl Gd.free Rd.mv ?_
    refine XQA.w2 (i := 5) (j := 8) (by kernel_rfl) ?_ ?_
    · refine XQA1.wr0 (listed' := #[true, true, true, true, true, true, false, false, false, false]) rfl rfl Gd.free (by kernel_rfl) rfl (WrA.cE hadd rfl) ?_
      rintro _ _ _ ⟨_, ⟨rfl, rfl, rfl⟩, rfl⟩
      refine ⟨⟨(by first | exact PH.sub.refl _ | assumption | (refine PH.sub.trans ?_ (by assumption); assumption)), zE⟩, XQA.re (by conv => lhs; dsimp only [List.cons_append, List.nil_append]) ?_⟩
      refine XQA.pu (i := 6) (listed' := #[true, true, true, true, true, true, true, false, false, false]) rfl rfl (by kernel_rfl) rfl Gd.free (Rd.ixS rfl rfl) ?_
      refine XQA.rd (i := 7) (listed' := #[true, true, true, true, true, true, true, true, false, false]) rfl rfl (by kernel_rfl) rfl Gd.free (Rd.ldA rfl) ?_
      refine qa 8 ?_
      refine XQA1.wr0 (listed' := #[true, true, true, true, true, true, true, true, true, false]) rfl rfl Gd.free (by kernel_rfl) rfl (WrA.alloc (tyrow rfl)) ?_
      rintro _ _ _ ⟨g3, rfl, rfl, rfl⟩
      refine ⟨⟨(by first | exact PH.sub.refl _ | assumption | (refine PH.sub.trans ?_ (by assumption); assumption)), zE⟩, XQA.re (by conv => lhs; dsimp only [List.cons_append, List.nil_append]) ?_⟩
      refine qa 9 ?_
      refine XQA1.wrZ0 (listed' := #[true, true, true, true, true, true, true, true, true, true]) rfl rfl Gd.free (by kernel_rfl) rfl (by kernel_rfl) (WrA.st (tyrow rfl) rfl) ?_
      rintro _ _ _ ⟨rfl, rfl, rfl⟩
      refine XQA.re (by conv => lhs; dsimp only [List.cons_append, List.nil_append]) ?_
      refine XQA.nil rfl ?_
      refine DA.thn_normal ⟨(by (repeat (first | exact Keep.refl _ _ | refine Keep.upd ?_ rfl | refine Keep.updO ?_ rfl | refine Keep.updN ?_)); (first | done | fail)), g3, _, (by (repeat (first | exact trivial | refine ⟨rfl, ?_⟩ | refine ⟨Eq.trans rfl (congrArg Value.bool hmat.symm), ?_⟩)); (first | done | fail)), ?_, rfl, rfl⟩; exact zE
    · refine XQA1.wr0 (listed' := #[true, true, true, true, true, false, false, false, true, false]) rfl rfl Gd.free (by kernel_rfl) rfl (WrA.alloc (tyrow rfl)) ?_
      rintro _ _ _ ⟨g3, rfl, rfl, rfl⟩
      refine ⟨⟨(by first | exact PH.sub.refl _ | assumption | (refine PH.sub.trans ?_ (by assumption); assumption)), zE⟩, XQA.re (by conv => lhs; dsimp only [List.cons_append, List.nil_append]) ?_⟩
      refine qa 5 ?_
      refine XQA1.wr0 (listed' := #[true, true, true, true, true, true, false, false, true, false]) rfl rfl Gd.free (by kernel_rfl) rfl (WrA.cE hadd rfl) ?_
      rintro _ _ _ ⟨_, ⟨rfl, rfl, rfl⟩, rfl⟩
      refine ⟨⟨(by first | exact PH.sub.refl _ | assumption | (refine PH.sub.trans ?_ (by assumption); assumption)), zE⟩, XQA.re (by conv => lhs; dsimp only [List.cons_append, List.nil_append]) ?_⟩
      refine XQA.pu (i := 6) (listed' := #[true, true, true, true, true, true, true, false, true, false]) rfl rfl (by kernel_rfl) rfl Gd.free (Rd.ixS rfl rfl) ?_
      refine XQA.rd (i := 7) (listed' := #[true, true, true, true, true, true, true, true, true, false]) rfl rfl (by kernel_rfl) rfl Gd.free (Rd.ldA rfl) ?_
      refine qa 9 ?_
      refine XQA1.wrZ0 (listed' := #[true, true, true, true, true, true, true, true, true, true]) rfl rfl Gd.free (by kernel_rfl) rfl (by kernel_rfl) (WrA.st (tyrow rfl) rfl) ?_
      rintro _ _ _ ⟨rfl, rfl, rfl⟩
      refine XQA.re (by conv => lhs; dsimp only [List.cons_append, List.nil_append]) ?_
      refine XQA.nil rfl ?_
      refine DA.thn_normal ⟨(by (repeat (first | exact Keep.refl _ _ | refine Keep.upd ?_ rfl | refine Keep.updO ?_ rfl | refine Keep.updN ?_)); (first | done | fail)), g3, _, (by (repeat (first | exact trivial | refine ⟨rfl, ?_⟩ | refine ⟨Eq.trans rfl (congrArg Value.bool hmat.symm), ?_⟩)); (first | done | fail)), ?_, rfl, rfl⟩; exact zE
  rintro g3 δ _ _ ⟨rfl, rfl⟩
  dsimp only [ovr, List.foldl]
  refine zT ?_; refine zS ?_; refine zS ?_; refine zR ?_; refine zO rfl (Rd.fA rfl) ?_; refine zO rfl (Rd.ldC rfl (tyrow rfl) rfl) ?_; refine zN ?_; refine zT ?_
  refine XA.block ?_
  refine zS ?_; refine zR ?_; refine zO rfl (Rd.eql rfl rfl) ?_; refine zO rfl Rd.asg ?_; refine zN ?_; refine zT ?_
  by_cases h1 : xop = 1
  · subst h1
    clear hx
    rw [show M1.doM inp ⟨1, xa, xb, xn⟩ = M1.pushM xn from rfl]
    rw [show doIn inp false ⟨1, xa, xb, xn⟩ ⟨⟨next + 1, stack, rd, outn, 0, cells⟩, kept, out, wrong⟩ = ⟨⟨next + 1, xn :: stack, rd, outn, 0, cells⟩, kept, out, wrong⟩ from rfl]
    refine XA.condT rfl rfl ?_
    refine zR ?_; refine zO rfl Rd.mv ?_; refine zO rfl (Rd.fA rfl) ?_; refine zO rfl (Rd.ldC rfl (tyrow rfl) rfl) ?_
    refine zw rfl (WrA.cE (push_m σ g mb sb db pb (.slice (some ⟨gc, oc', none⟩) code.length cc) (.slice pi inp.length ci) left torn d s M1 hw hs xn) rfl) ?_
    rintro _ _ _ ⟨_, ⟨rfl, rfl, rfl⟩, rfl⟩
    refine XOA.cl ?_
    refine zN ?_
    refine DA.inb_normal ?_
    refine zT ?_; refine zS ?_; refine zR ?_; refine zO rfl Rd.asg ?_; refine zN ?_; refine zT ?_
    refine XA.ret ?_
    exact bodyA.ret (ResA.one rfl rfl) zE ⟨rfl, rfl, rfl⟩
  by_cases h4 : xop = 4
  · subst h4
    clear hx
    obtain ⟨y, z, l, rfl⟩ : ∃ y z s, stack = y :: z :: s := by
      cases stack with
      | nil => simp [popA] at hpop
      | cons y s => cases s with
        | nil => simp [popA] at hpop
        | cons z s => exact ⟨y, z, s, rfl⟩
    rw [show M1.doM inp ⟨4, xa, xb, xn⟩ = M1.popM.popM.pushM (binV 4 M1.popM.topM M1.topM) from rfl, hw.topM, hw.popM.topM]
    rw [show doIn inp false ⟨4, xa, xb, xn⟩ ⟨⟨next + 1, y :: z :: l, rd, outn, 0, cells⟩, kept, out, wrong⟩ = ⟨⟨next + 1, binV 4 z y :: l, rd, outn, 0, cells⟩, kept, out, wrong⟩ from rfl]
    refine XA.condF rfl rfl ?_
    refine zS ?_; refine zS ?_; refine zR ?_; refine zO rfl (Rd.eql rfl rfl) ?_; refine zO rfl Rd.asg ?_; refine zN ?_; refine zT ?_
    refine XA.condT rfl rfl ?_
    refine XA.skip ?_
    refine zT ?_
    refine XA.condT rfl rfl ?_
    refine zR ?_; refine zO rfl Rd.mv ?_; refine zO rfl (Rd.fA rfl) ?_; refine zO rfl (Rd.ldC rfl (tyrow rfl) rfl) ?_
    refine zw rfl (WrA.cE (two_m σ g mb sb db pb (.slice (some ⟨gc, oc', none⟩) code.length cc) (.slice pi inp.length ci) left torn d s M1 4 (by decide) hw) rfl) ?_
    rintro _ _ _ ⟨_, ⟨rfl, rfl, rfl⟩, rfl⟩
    refine XOA.cl ?_
    refine zN ?_
    refine DA.inb_normal ?_
    refine zT ?_; refine zS ?_; refine zR ?_; refine zO rfl Rd.asg ?_; refine zN ?_; refine zT ?_
    refine XA.ret ?_
    exact bodyA.ret (ResA.one rfl rfl) zE ⟨rfl, rfl, rfl⟩
  by_cases h5 : xop = 5
  · subst h5
    clear hx
    obtain ⟨y, z, l, rfl⟩ : ∃ y z s, stack = y :: z :: s := by
      cases stack with
      | nil => simp [popA] at hpop
      | cons y s => cases s with
        | nil => simp [popA] at hpop
        | cons z s => exact ⟨y, z, s, rfl⟩
    rw [show M1.doM inp ⟨5, xa, xb, xn⟩ = M1.popM.popM.pushM (binV 5 M1.popM.topM M1.topM) from rfl, hw.topM, hw.popM.topM]
    rw [show doIn inp false ⟨5, xa, xb, xn⟩ ⟨⟨next + 1, y :: z :: l, rd, outn, 0, cells⟩, kept, out, wrong⟩ = ⟨⟨next + 1, binV 5 z y :: l, rd, outn, 0, cells⟩, kept, out, wrong⟩ from rfl]
    refine XA.condF rfl rfl ?_
    refine zS ?_; refine zS ?_; refine zR ?_; refine zO rfl (Rd.eql rfl rfl) ?_; refine zO rfl Rd.asg ?_; refine zN ?_; refine zT ?_
    refine XA.condF rfl rfl ?_
    refine zS ?_; refine zR ?_; refine zO rfl (Rd.eql rfl rfl) ?_; refine zO rfl Rd.asg ?_; refine zN ?_; refine zT ?_
    refine XA.condT rfl rfl ?_
    refine XA.skip ?_
    refine zT ?_
    refine XA.condT rfl rfl ?_
    refine zR ?_; refine zO rfl Rd.mv ?_; refine zO rfl (Rd.fA rfl) ?_; refine zO rfl (Rd.ldC rfl (tyrow rfl) rfl) ?_
    refine zw rfl (WrA.cE (two_m σ g mb sb db pb (.slice (some ⟨gc, oc', none⟩) code.length cc) (.slice pi inp.length ci) left torn d s M1 5 (by decide) hw) rfl) ?_
    rintro _ _ _ ⟨_, ⟨rfl, rfl, rfl⟩, rfl⟩
    refine XOA.cl ?_
    refine zN ?_
    refine DA.inb_normal ?_
    refine zT ?_; refine zS ?_; refine zR ?_; refine zO rfl Rd.asg ?_; refine zN ?_; refine zT ?_
    refine XA.ret ?_
    exact bodyA.ret (ResA.one rfl rfl) zE ⟨rfl, rfl, rfl⟩
  by_cases h6 : xop = 6
  · subst h6
    clear hx
    obtain ⟨y, z, l, rfl⟩ : ∃ y z s, stack = y :: z :: s := by
      cases stack with
      | nil => simp [popA] at hpop
      | cons y s => cases s with
        | nil => simp [popA] at hpop
        | cons z s => exact ⟨y, z, s, rfl⟩
    rw [show M1.doM inp ⟨6, xa, xb, xn⟩ = M1.popM.popM.pushM (binV 6 M1.popM.topM M1.topM) from rfl, hw.topM, hw.popM.topM]
    rw [show doIn inp false ⟨6, xa, xb, xn⟩ ⟨⟨next + 1, y :: z :: l, rd, outn, 0, cells⟩, kept, out, wrong⟩ = ⟨⟨next + 1, binV 6 z y :: l, rd, outn, 0, cells⟩, kept, out, wrong⟩ from rfl]
    refine XA.condF rfl rfl ?_
    refine zS ?_; refine zS ?_; refine zR ?_; refine zO rfl (Rd.eql rfl rfl) ?_; refine zO rfl Rd.asg ?_; refine zN ?_; refine zT ?_
    refine XA.condF rfl rfl ?_
    refine zS ?_; refine zR ?_; refine zO rfl (Rd.eql rfl rfl) ?_; refine zO rfl Rd.asg ?_; refine zN ?_; refine zT ?_
    refine XA.condF rfl rfl ?_
    refine zS ?_; refine zR ?_; refine zO rfl (Rd.eql rfl rfl) ?_; refine zO rfl Rd.asg ?_; refine zN ?_; refine zT ?_
    refine XA.condT rfl rfl ?_
    refine XA.skip ?_
    refine zT ?_
    refine XA.condT rfl rfl ?_
    refine zR ?_; refine zO rfl Rd.mv ?_; refine zO rfl (Rd.fA rfl) ?_; refine zO rfl (Rd.ldC rfl (tyrow rfl) rfl) ?_
    refine zw rfl (WrA.cE (two_m σ g mb sb db pb (.slice (some ⟨gc, oc', none⟩) code.length cc) (.slice pi inp.length ci) left torn d s M1 6 (by decide) hw) rfl) ?_
    rintro _ _ _ ⟨_, ⟨rfl, rfl, rfl⟩, rfl⟩
    refine XOA.cl ?_
    refine zN ?_
    refine DA.inb_normal ?_
    refine zT ?_; refine zS ?_; refine zR ?_; refine zO rfl Rd.asg ?_; refine zN ?_; refine zT ?_
    refine XA.ret ?_
    exact bodyA.ret (ResA.one rfl rfl) zE ⟨rfl, rfl, rfl⟩
  by_cases h7 : xop = 7
  · subst h7
    clear hx
    obtain ⟨y, z, l, rfl⟩ : ∃ y z s, stack = y :: z :: s := by
      cases stack with
      | nil => simp [popA] at hpop
      | cons y s => cases s with
        | nil => simp [popA] at hpop
        | cons z s => exact ⟨y, z, s, rfl⟩
    rw [show M1.doM inp ⟨7, xa, xb, xn⟩ = M1.popM.popM.pushM (binV 7 M1.popM.topM M1.topM) from rfl, hw.topM, hw.popM.topM]
    rw [show doIn inp false ⟨7, xa, xb, xn⟩ ⟨⟨next + 1, y :: z :: l, rd, outn, 0, cells⟩, kept, out, wrong⟩ = ⟨⟨next + 1, binV 7 z y :: l, rd, outn, 0, cells⟩, kept, out, wrong⟩ from rfl]
    refine XA.condF rfl rfl ?_
    refine zS ?_; refine zS ?_; refine zR ?_; refine zO rfl (Rd.eql rfl rfl) ?_; refine zO rfl Rd.asg ?_; refine zN ?_; refine zT ?_
    refine XA.condF rfl rfl ?_
    refine zS ?_; refine zR ?_; refine zO rfl (Rd.eql rfl rfl) ?_; refine zO rfl Rd.asg ?_; refine zN ?_; refine zT ?_
    refine XA.condF rfl rfl ?_
    refine zS ?_; refine zR ?_; refine zO rfl (Rd.eql rfl rfl) ?_; refine zO rfl Rd.asg ?_; refine zN ?_; refine zT ?_
    refine XA.condF rfl rfl ?_
    refine zS ?_; refine zR ?_; refine zO rfl (Rd.eql rfl rfl) ?_; refine zO rfl Rd.asg ?_; refine zN ?_; refine zT ?_
    refine XA.condT rfl rfl ?_
    refine XA.skip ?_
    refine zT ?_
    refine XA.condT rfl rfl ?_
    refine zR ?_; refine zO rfl Rd.mv ?_; refine zO rfl (Rd.fA rfl) ?_; refine zO rfl (Rd.ldC rfl (tyrow rfl) rfl) ?_
    refine zw rfl (WrA.cE (two_m σ g mb sb db pb (.slice (some ⟨gc, oc', none⟩) code.length cc) (.slice pi inp.length ci) left torn d s M1 7 (by decide) hw) rfl) ?_
    rintro _ _ _ ⟨_, ⟨rfl, rfl, rfl⟩, rfl⟩
    refine XOA.cl ?_
    refine zN ?_
    refine DA.inb_normal ?_
    refine zT ?_; refine zS ?_; refine zR ?_; refine zO rfl Rd.asg ?_; refine zN ?_; refine zT ?_
    refine XA.ret ?_
    exact bodyA.ret (ResA.one rfl rfl) zE ⟨rfl, rfl, rfl⟩
  by_cases h8 : xop = 8
  · subst h8
    clear hx
    obtain ⟨y, z, l, rfl⟩ : ∃ y z s, stack = y :: z :: s := by
      cases stack with
      | nil => simp [popA] at hpop
      | cons y s => cases s with
        | nil => simp [popA] at hpop
        | cons z s => exact ⟨y, z, s, rfl⟩
    rw [show M1.doM inp ⟨8, xa, xb, xn⟩ = M1.popM.popM.pushM (binV 8 M1.popM.topM M1.topM) from rfl, hw.topM, hw.popM.topM]
    rw [show doIn inp false ⟨8, xa, xb, xn⟩ ⟨⟨next + 1, y :: z :: l, rd, outn, 0, cells⟩, kept, out, wrong⟩ = ⟨⟨next + 1, binV 8 z y :: l, rd, outn, 0, cells⟩, kept, out, wrong⟩ from rfl]
    refine XA.condF rfl rfl ?_
    refine zS ?_; refine zS ?_; refine zR ?_; refine zO rfl (Rd.eql rfl rfl) ?_; refine zO rfl Rd.asg ?_; refine zN ?_; refine zT ?_
    refine XA.condF rfl rfl ?_
    refine zS ?_; refine zR ?_; refine zO rfl (Rd.eql rfl rfl) ?_; refine zO rfl Rd.asg ?_; refine zN ?_; refine zT ?_
    refine XA.condF rfl rfl ?_
    refine zS ?_; refine zR ?_; refine zO rfl (Rd.eql rfl rfl) ?_; refine zO rfl Rd.asg ?_; refine zN ?_; refine zT ?_
    refine XA.condF rfl rfl ?_
    refine zS ?_; refine zR ?_; refine zO rfl (Rd.eql rfl rfl) ?_; refine zO rfl Rd.asg ?_; refine zN ?_; refine zT ?_
    refine XA.condF rfl rfl ?_
    refine zR ?_; refine zO rfl (Rd.eql rfl rfl) ?_; refine zO rfl Rd.asg ?_; refine zN ?_; refine zT ?_
    refine XA.condT rfl rfl ?_
    refine zR ?_; refine zO rfl Rd.mv ?_; refine zO rfl (Rd.fA rfl) ?_; refine zO rfl (Rd.ldC rfl (tyrow rfl) rfl) ?_
    refine zw rfl (WrA.cE (two_m σ g mb sb db pb (.slice (some ⟨gc, oc', none⟩) code.length cc) (.slice pi inp.length ci) left torn d s M1 8 (by decide) hw) rfl) ?_
    rintro _ _ _ ⟨_, ⟨rfl, rfl, rfl⟩, rfl⟩
    refine XOA.cl ?_
    refine zN ?_
    refine DA.inb_normal ?_
    refine zT ?_; refine zS ?_; refine zR ?_; refine zO rfl Rd.asg ?_; refine zN ?_; refine zT ?_
    refine XA.ret ?_
    exact bodyA.ret (ResA.one rfl rfl) zE ⟨rfl, rfl, rfl⟩
  by_cases h11 : xop = 11
  · subst h11
    clear hx
    obtain ⟨n, l, rfl⟩ : ∃ n s, stack = n :: s := by
      cases stack with
      | nil => simp [popA] at hpop
      | cons n s => exact ⟨n, s, rfl⟩
    rw [show M1.doM inp ⟨11, xa, xb, xn⟩ = M1.popM.put 3 (M1.popM.ld 3 + 1) from rfl]
    have e3 : M1.popM.ld 3 = outn := hw.popM.on
    rw [e3]
    have hadd3 := add_m σ g mb sb db pb (.slice (some ⟨gc, oc', none⟩) code.length cc) (.slice pi inp.length ci) left torn d s M1.popM 3 1
    rw [e3, X.wrap64_in (by omega) (by omega)] at hadd3
    have hpr := prS_do (wrong := wrong) (n := n) hon
    obtain ⟨eo, ew⟩ : (doIn inp false ⟨11, xa, xb, xn⟩ ⟨⟨next + 1, n :: l, rd, outn, 0, cells⟩, kept, out, wrong⟩).out = (prS out wrong outn n).1 ∧ (doIn inp false ⟨11, xa, xb, xn⟩ ⟨⟨next + 1, n :: l, rd, outn, 0, cells⟩, kept, out, wrong⟩).wrong = (prS out wrong outn n).2 := by
      rw [hpr]
      by_cases hoe : outn = out.length <;> simp [doIn, hoe]
    rw [eo, ew]
    refine XA.condF rfl rfl ?_
    refine zS ?_; refine zS ?_; refine zR ?_; refine zO rfl (Rd.eql rfl rfl) ?_; refine zO rfl Rd.asg ?_; refine zN ?_; refine zT ?_
    refine XA.condF rfl rfl ?_
    refine zS ?_; refine zR ?_; refine zO rfl (Rd.eql rfl rfl) ?_; refine zO rfl Rd.asg ?_; refine zN ?_; refine zT ?_
    refine XA.condF rfl rfl ?_
    refine zS ?_; refine zR ?_; refine zO rfl (Rd.eql rfl rfl) ?_; refine zO rfl Rd.asg ?_; refine zN ?_; refine zT ?_
    refine XA.condF rfl rfl ?_
    refine zS ?_; refine zR ?_; refine zO rfl (Rd.eql rfl rfl) ?_; refine zO rfl Rd.asg ?_; refine zN ?_; refine zT ?_
    refine XA.condF rfl rfl ?_
    refine zR ?_; refine zO rfl (Rd.eql rfl rfl) ?_; refine zO rfl Rd.asg ?_; refine zN ?_; refine zT ?_
    refine XA.condF rfl rfl ?_
    refine zS ?_; refine zR ?_; refine zO rfl (Rd.eql rfl rfl) ?_; refine zO rfl Rd.asg ?_; refine zN ?_; refine zT ?_
    refine XA.condT rfl rfl ?_
    refine zS ?_; refine zR ?_; refine zO rfl Rd.mv ?_
    refine zw rfl (WrA.cE (pop_m σ g mb sb db pb (.slice (some ⟨gc, oc', none⟩) code.length cc) (.slice pi inp.length ci) left torn d s M1 hw) rfl) ?_
    rintro _ _ _ ⟨_, ⟨rfl, rfl, rfl⟩, rfl⟩
    refine XOA.cl ?_
    refine zO rfl Rd.asg ?_; refine zN ?_; refine zT ?_
    refine XA.draw (by kernel_rfl) _ _ [7] [(0, .pu), (1, .pu), (2, .pu), (3, .rd), (4, .pu), (6, .pu), (5, .wr), (7, .wr)] (by kernel_rfl) (PH.sub.refl _) (Ent.sel (R := blk g _ _) (by ((repeat (first | with_reducible exact Sel.head | apply Sel.tail)); (first | done | fail))) (Ent.nil _)) ?_
    refine zu rfl rfl Rd.mv ?_
    refine zu rfl rfl (Rd.nilCheck rfl) ?_
    refine zu rfl rfl (Rd.fA rfl) ?_
    refine XPA.rd rfl rfl Gd.free (Rd.ldC rfl (tyrow rfl) rfl) ?_
    refine zu rfl rfl Rd.mv ?_
    refine zu rfl rfl Rd.mv ?_
    refine XPA.wr0 rfl rfl Gd.free (WrA.cE (hadd3) rfl) ?_
    rintro _ _ _ ⟨_, ⟨rfl, rfl, rfl⟩, rfl⟩
    refine stays (XPA.cl ?_)
    refine XPA.wrZ0 rfl rfl Gd.free (by kernel_rfl) (WrA.cE (pput_a σ pb out wrong outn n hol) rfl) ?_
    rintro _ _ _ ⟨_, ⟨rfl, rfl, rfl⟩, rfl⟩
    refine XPA.cl ?_
    refine XPA.nil ?_
    refine DA.inb_normal ?_
    refine zT ?_; refine zS ?_; refine zR ?_; refine zO rfl Rd.asg ?_; refine zN ?_; refine zT ?_
    refine XA.ret ?_
    exact bodyA.ret (ResA.one rfl rfl) zE ⟨rfl, rfl, rfl⟩
  by_cases h13 : xop = 13
  · subst h13
    clear hx
    obtain ⟨n, l, rfl⟩ : ∃ n s, stack = n :: s := by
      cases stack with
      | nil => simp [popA] at hpop
      | cons n s => exact ⟨n, s, rfl⟩
    rw [show M1.doM inp ⟨13, xa, xb, xn⟩ = (if M1.topM = 0 then M1.popM.put 0 xa else M1.popM) from rfl, hw.topM]
    by_cases hn0 : n = 0
    · rw [if_pos hn0, show doIn inp false ⟨13, xa, xb, xn⟩ ⟨⟨next + 1, n :: l, rd, outn, 0, cells⟩, kept, out, wrong⟩ = ⟨⟨xa.toNat, l, rd, outn, 0, cells⟩, kept, out, wrong⟩ from by simp [doIn, hn0]]
      refine XA.condF rfl rfl ?_
      refine zS ?_; refine zS ?_; refine zR ?_; refine zO rfl (Rd.eql rfl rfl) ?_; refine zO rfl Rd.asg ?_; refine zN ?_; refine zT ?_
      refine XA.condF rfl rfl ?_
      refine zS ?_; refine zR ?_; refine zO rfl (Rd.eql rfl rfl) ?_; refine zO rfl Rd.asg ?_; refine zN ?_; refine zT ?_
      refine XA.condF rfl rfl ?_
      refine zS ?_; refine zR ?_; refine zO rfl (Rd.eql rfl rfl) ?_; refine zO rfl Rd.asg ?_; refine zN ?_; refine zT ?_
      refine XA.condF rfl rfl ?_
      refine zS ?_; refine zR ?_; refine zO rfl (Rd.eql rfl rfl) ?_; refine zO rfl Rd.asg ?_; refine zN ?_; refine zT ?_
      refine XA.condF rfl rfl ?_
      refine zR ?_; refine zO rfl (Rd.eql rfl rfl) ?_; refine zO rfl Rd.asg ?_; refine zN ?_; refine zT ?_
      refine XA.condF rfl rfl ?_
      refine zS ?_; refine zR ?_; refine zO rfl (Rd.eql rfl rfl) ?_; refine zO rfl Rd.asg ?_; refine zN ?_; refine zT ?_
      refine XA.condF rfl rfl ?_
      refine zS ?_; refine zR ?_; refine zO rfl (Rd.eql rfl rfl) ?_; refine zO rfl Rd.asg ?_; refine zN ?_; refine zT ?_
      refine XA.condT rfl rfl ?_
      refine zS ?_; refine zR ?_; refine zO rfl Rd.mv ?_
      refine zw rfl (WrA.cE (pop_m σ g mb sb db pb (.slice (some ⟨gc, oc', none⟩) code.length cc) (.slice pi inp.length ci) left torn d s M1 hw) rfl) ?_
      rintro _ _ _ ⟨_, ⟨rfl, rfl, rfl⟩, rfl⟩
      refine XOA.cl ?_
      refine zO rfl (Rd.eql rfl rfl) ?_; refine zN ?_; refine zT ?_
      refine XA.condT rfl (decide_eq_true hn0) ?_
      refine XA.draw (by kernel_rfl) _ _ [6] [(0, .pu), (1, .pu), (2, .pu), (3, .rd), (4, .pu), (5, .rd), (6, .wr)] (by kernel_rfl) (PH.sub.refl _) (Ent.sel (R := blk g _ _) (by ((repeat (first | with_reducible exact Sel.head | apply Sel.tail)); (first | done | fail))) (Ent.sel (R := blk g3 _ _) (by ((repeat (first | with_reducible exact Sel.head | apply Sel.tail)); (first | done | fail))) (Ent.nil _))) ?_
      refine zu rfl rfl Rd.mv ?_
      refine zu rfl rfl (Rd.nilCheck rfl) ?_
      refine zu rfl rfl (Rd.fA rfl) ?_
      refine XPA.rd rfl rfl Gd.free (Rd.ldC rfl (tyrow rfl) rfl) ?_
      refine zu rfl rfl (Rd.fA rfl) ?_
      refine XPA.rd rfl rfl Gd.free (Rd.ldC rfl (tyrow rfl) rfl) ?_
      refine XPA.wrZ0 rfl rfl Gd.free (by kernel_rfl) (WrA.cE (put_w σ mb sb db d s M1.popM 0 xa) rfl) ?_
      rintro _ _ _ ⟨_, ⟨rfl, rfl, rfl⟩, rfl⟩
      refine XPA.cl ?_
      refine XPA.nil ?_
      refine DA.inb_normal ?_
      refine zT ?_; refine zS ?_; refine zR ?_; refine zO rfl Rd.asg ?_; refine zN ?_; refine zT ?_
      refine XA.ret ?_
      exact bodyA.ret (ResA.one rfl rfl) zE ⟨rfl, rfl, rfl⟩
    rw [if_neg hn0, show doIn inp false ⟨13, xa, xb, xn⟩ ⟨⟨next + 1, n :: l, rd, outn, 0, cells⟩, kept, out, wrong⟩ = ⟨⟨next + 1, l, rd, outn, 0, cells⟩, kept, out, wrong⟩ from by simp [doIn, hn0]]
    refine XA.condF rfl rfl ?_
    refine zS ?_; refine zS ?_; refine zR ?_; refine zO rfl (Rd.eql rfl rfl) ?_; refine zO rfl Rd.asg ?_; refine zN ?_; refine zT ?_
    refine XA.condF rfl rfl ?_
    refine zS ?_; refine zR ?_; refine zO rfl (Rd.eql rfl rfl) ?_; refine zO rfl Rd.asg ?_; refine zN ?_; refine zT ?_
    refine XA.condF rfl rfl ?_
    refine zS ?_; refine zR ?_; refine zO rfl (Rd.eql rfl rfl) ?_; refine zO rfl Rd.asg ?_; refine zN ?_; refine zT ?_
    refine XA.condF rfl rfl ?_
    refine zS ?_; refine zR ?_; refine zO rfl (Rd.eql rfl rfl) ?_; refine zO rfl Rd.asg ?_; refine zN ?_; refine zT ?_
    refine XA.condF rfl rfl ?_
    refine zR ?_; refine zO rfl (Rd.eql rfl rfl) ?_; refine zO rfl Rd.asg ?_; refine zN ?_; refine zT ?_
    refine XA.condF rfl rfl ?_
    refine zS ?_; refine zR ?_; refine zO rfl (Rd.eql rfl rfl) ?_; refine zO rfl Rd.asg ?_; refine zN ?_; refine zT ?_
    refine XA.condF rfl rfl ?_
    refine zS ?_; refine zR ?_; refine zO rfl (Rd.eql rfl rfl) ?_; refine zO rfl Rd.asg ?_; refine zN ?_; refine zT ?_
    refine XA.condT rfl rfl ?_
    refine zS ?_; refine zR ?_; refine zO rfl Rd.mv ?_
    refine zw rfl (WrA.cE (pop_m σ g mb sb db pb (.slice (some ⟨gc, oc', none⟩) code.length cc) (.slice pi inp.length ci) left torn d s M1 hw) rfl) ?_
    rintro _ _ _ ⟨_, ⟨rfl, rfl, rfl⟩, rfl⟩
    refine XOA.cl ?_
    refine zO rfl (Rd.eql rfl rfl) ?_; refine zN ?_; refine zT ?_
    refine XA.condF rfl (decide_eq_false hn0) ?_
    refine XA.skip ?_
    refine DA.inb_normal ?_
    refine zT ?_; refine zS ?_; refine zR ?_; refine zO rfl Rd.asg ?_; refine zN ?_; refine zT ?_
    refine XA.ret ?_
    exact bodyA.ret (ResA.one rfl rfl) zE ⟨rfl, rfl, rfl⟩
  by_cases h14 : xop = 14
  · subst h14
    clear hx
    rw [show M1.doM inp ⟨14, xa, xb, xn⟩ = M1.put 0 xa from rfl]
    rw [show doIn inp false ⟨14, xa, xb, xn⟩ ⟨⟨next + 1, stack, rd, outn, 0, cells⟩, kept, out, wrong⟩ = ⟨⟨xa.toNat, stack, rd, outn, 0, cells⟩, kept, out, wrong⟩ from rfl]
    refine XA.condF rfl rfl ?_
    refine zS ?_; refine zS ?_; refine zR ?_; refine zO rfl (Rd.eql rfl rfl) ?_; refine zO rfl Rd.asg ?_; refine zN ?_; refine zT ?_
    refine XA.condF rfl rfl ?_
    refine zS ?_; refine zR ?_; refine zO rfl (Rd.eql rfl rfl) ?_; refine zO rfl Rd.asg ?_; refine zN ?_; refine zT ?_
    refine XA.condF rfl rfl ?_
    refine zS ?_; refine zR ?_; refine zO rfl (Rd.eql rfl rfl) ?_; refine zO rfl Rd.asg ?_; refine zN ?_; refine zT ?_
    refine XA.condF rfl rfl ?_
    refine zS ?_; refine zR ?_; refine zO rfl (Rd.eql rfl rfl) ?_; refine zO rfl Rd.asg ?_; refine zN ?_; refine zT ?_
    refine XA.condF rfl rfl ?_
    refine zR ?_; refine zO rfl (Rd.eql rfl rfl) ?_; refine zO rfl Rd.asg ?_; refine zN ?_; refine zT ?_
    refine XA.condF rfl rfl ?_
    refine zS ?_; refine zR ?_; refine zO rfl (Rd.eql rfl rfl) ?_; refine zO rfl Rd.asg ?_; refine zN ?_; refine zT ?_
    refine XA.condF rfl rfl ?_
    refine zS ?_; refine zR ?_; refine zO rfl (Rd.eql rfl rfl) ?_; refine zO rfl Rd.asg ?_; refine zN ?_; refine zT ?_
    refine XA.condF rfl rfl ?_
    refine zS ?_; refine zR ?_; refine zO rfl (Rd.eql rfl rfl) ?_; refine zO rfl Rd.asg ?_; refine zN ?_; refine zT ?_
    refine XA.condT rfl rfl ?_
    refine XA.draw (by kernel_rfl) _ _ [6] [(0, .pu), (1, .pu), (2, .pu), (3, .rd), (4, .pu), (5, .rd), (6, .wr)] (by kernel_rfl) (PH.sub.refl _) (Ent.sel (R := blk g _ _) (by ((repeat (first | with_reducible exact Sel.head | apply Sel.tail)); (first | done | fail))) (Ent.sel (R := blk g3 _ _) (by ((repeat (first | with_reducible exact Sel.head | apply Sel.tail)); (first | done | fail))) (Ent.nil _))) ?_
    refine zu rfl rfl Rd.mv ?_
    refine zu rfl rfl (Rd.nilCheck rfl) ?_
    refine zu rfl rfl (Rd.fA rfl) ?_
    refine XPA.rd rfl rfl Gd.free (Rd.ldC rfl (tyrow rfl) rfl) ?_
    refine zu rfl rfl (Rd.fA rfl) ?_
    refine XPA.rd rfl rfl Gd.free (Rd.ldC rfl (tyrow rfl) rfl) ?_
    refine XPA.wrZ0 rfl rfl Gd.free (by kernel_rfl) (WrA.cE (put_w σ mb sb db d s M1 0 xa) rfl) ?_
    rintro _ _ _ ⟨_, ⟨rfl, rfl, rfl⟩, rfl⟩
    refine XPA.cl ?_
    refine XPA.nil ?_
    refine DA.inb_normal ?_
    refine zT ?_; refine zS ?_; refine zR ?_; refine zO rfl Rd.asg ?_; refine zN ?_; refine zT ?_
    refine XA.ret ?_
    exact bodyA.ret (ResA.one rfl rfl) zE ⟨rfl, rfl, rfl⟩
  by_cases h16 : xop = 16
  · subst h16
    clear hx
    rw [show M1.doM inp ⟨16, xa, xb, xn⟩ = M1.put 4 1 from rfl]
    rw [show doIn inp false ⟨16, xa, xb, xn⟩ ⟨⟨next + 1, stack, rd, outn, 0, cells⟩, kept, out, wrong⟩ = ⟨⟨next + 1, stack, rd, outn, 1, cells⟩, kept, out, wrong⟩ from rfl]
    refine XA.condF rfl rfl ?_
    refine zS ?_; refine zS ?_; refine zR ?_; refine zO rfl (Rd.eql rfl rfl) ?_; refine zO rfl Rd.asg ?_; refine zN ?_; refine zT ?_
    refine XA.condF rfl rfl ?_
    refine zS ?_; refine zR ?_; refine zO rfl (Rd.eql rfl rfl) ?_; refine zO rfl Rd.asg ?_; refine zN ?_; refine zT ?_
    refine XA.condF rfl rfl ?_
    refine zS ?_; refine zR ?_; refine zO rfl (Rd.eql rfl rfl) ?_; refine zO rfl Rd.asg ?_; refine zN ?_; refine zT ?_
    refine XA.condF rfl rfl ?_
    refine zS ?_; refine zR ?_; refine zO rfl (Rd.eql rfl rfl) ?_; refine zO rfl Rd.asg ?_; refine zN ?_; refine zT ?_
    refine XA.condF rfl rfl ?_
    refine zR ?_; refine zO rfl (Rd.eql rfl rfl) ?_; refine zO rfl Rd.asg ?_; refine zN ?_; refine zT ?_
    refine XA.condF rfl rfl ?_
    refine zS ?_; refine zR ?_; refine zO rfl (Rd.eql rfl rfl) ?_; refine zO rfl Rd.asg ?_; refine zN ?_; refine zT ?_
    refine XA.condF rfl rfl ?_
    refine zS ?_; refine zR ?_; refine zO rfl (Rd.eql rfl rfl) ?_; refine zO rfl Rd.asg ?_; refine zN ?_; refine zT ?_
    refine XA.condF rfl rfl ?_
    refine zS ?_; refine zR ?_; refine zO rfl (Rd.eql rfl rfl) ?_; refine zO rfl Rd.asg ?_; refine zN ?_; refine zT ?_
    refine XA.condF rfl rfl ?_
    refine zS ?_; refine zR ?_; refine zO rfl (Rd.eql rfl rfl) ?_; refine zO rfl Rd.asg ?_; refine zN ?_; refine zT ?_
    refine XA.condF rfl rfl ?_
    refine zS ?_; refine zR ?_; refine zO rfl (Rd.eql rfl rfl) ?_; refine zO rfl Rd.asg ?_; refine zN ?_; refine zT ?_
    refine XA.condT rfl rfl ?_
    refine zR ?_; refine zO rfl Rd.mv ?_
    refine zw rfl (WrA.cE (stop_m σ g mb sb db pb (.slice (some ⟨gc, oc', none⟩) code.length cc) (.slice pi inp.length ci) left torn d s M1 1) rfl) ?_
    rintro _ _ _ ⟨_, ⟨rfl, rfl, rfl⟩, rfl⟩
    refine XOA.cl ?_
    refine zN ?_
    refine DA.inb_normal ?_
    refine zT ?_; refine zS ?_; refine zR ?_; refine zO rfl Rd.asg ?_; refine zN ?_; refine zT ?_
    refine XA.ret ?_
    exact bodyA.ret (ResA.one rfl rfl) zE ⟨rfl, rfl, rfl⟩
  by_cases h2 : xop = 2
  · subst h2
    clear hx
    obtain ⟨ha0, ha1⟩ := hcell (.inl rfl)
    rw [show M1.doM inp ⟨2, xa, xb, xn⟩ = M1.pushM (M1.ld (5 + xa)) from rfl]
    rw [show doIn inp false ⟨2, xa, xb, xn⟩ ⟨⟨next + 1, stack, rd, outn, 0, cells⟩, kept, out, wrong⟩ = ⟨⟨next + 1, cells.getD xa.toNat 0 :: stack, rd, outn, 0, cells⟩, kept, out, wrong⟩ from rfl]
    refine XA.condF rfl rfl ?_
    refine zS ?_; refine zS ?_; refine zR ?_; refine zO rfl (Rd.eql rfl rfl) ?_; refine zO rfl Rd.asg ?_; refine zN ?_; refine zT ?_
    refine XA.condF rfl rfl ?_
    refine zS ?_; refine zR ?_; refine zO rfl (Rd.eql rfl rfl) ?_; refine zO rfl Rd.asg ?_; refine zN ?_; refine zT ?_
    refine XA.condF rfl rfl ?_
    refine zS ?_; refine zR ?_; refine zO rfl (Rd.eql rfl rfl) ?_; refine zO rfl Rd.asg ?_; refine zN ?_; refine zT ?_
    refine XA.condF rfl rfl ?_
    refine zS ?_; refine zR ?_; refine zO rfl (Rd.eql rfl rfl) ?_; refine zO rfl Rd.asg ?_; refine zN ?_; refine zT ?_
    refine XA.condF rfl rfl ?_
    refine zR ?_; refine zO rfl (Rd.eql rfl rfl) ?_; refine zO rfl Rd.asg ?_; refine zN ?_; refine zT ?_
    refine XA.condF rfl rfl ?_
    refine zS ?_; refine zR ?_; refine zO rfl (Rd.eql rfl rfl) ?_; refine zO rfl Rd.asg ?_; refine zN ?_; refine zT ?_
    refine XA.condF rfl rfl ?_
    refine zS ?_; refine zR ?_; refine zO rfl (Rd.eql rfl rfl) ?_; refine zO rfl Rd.asg ?_; refine zN ?_; refine zT ?_
    refine XA.condF rfl rfl ?_
    refine zS ?_; refine zR ?_; refine zO rfl (Rd.eql rfl rfl) ?_; refine zO rfl Rd.asg ?_; refine zN ?_; refine zT ?_
    refine XA.condF rfl rfl ?_
    refine zS ?_; refine zR ?_; refine zO rfl (Rd.eql rfl rfl) ?_; refine zO rfl Rd.asg ?_; refine zN ?_; refine zT ?_
    refine XA.condF rfl rfl ?_
    refine zS ?_; refine zR ?_; refine zO rfl (Rd.eql rfl rfl) ?_; refine zO rfl Rd.asg ?_; refine zN ?_; refine zT ?_
    refine XA.condF rfl rfl ?_
    refine zR ?_; refine zO rfl Rd.mv ?_; refine zO rfl (Rd.ldA rfl) ?_
    refine zw rfl (WrA.cE (cells2_m σ g mb sb db pb (.slice (some ⟨gc, oc', none⟩) code.length cc) (.slice pi inp.length ci) left torn d s M1 xa xb xn ⟨ha0, by omega⟩ hw hs) rfl) ?_
    rintro _ _ _ ⟨_, ⟨rfl, rfl, rfl⟩, rfl⟩
    refine XOA.cl ?_
    refine zN ?_
    refine DA.inb_normal ?_
    refine zT ?_; refine zS ?_; refine zR ?_; refine zO rfl Rd.asg ?_; refine zN ?_; refine zT ?_
    refine XA.ret ?_
    exact bodyA.ret (ResA.one rfl rfl) zE ⟨rfl, rfl, rfl⟩
  by_cases h3 : xop = 3
  · subst h3
    clear hx
    obtain ⟨n, l, rfl⟩ : ∃ n s, stack = n :: s := by
      cases stack with
      | nil => simp [popA] at hpop
      | cons n s => exact ⟨n, s, rfl⟩
    obtain ⟨hb0, hb1, hb2⟩ := hcell2 (by decide)
    rw [show M1.doM inp ⟨3, xa, xb, xn⟩ = (if M1.topM < 0 ∨ xb ≤ M1.topM then M1.popM.put 4 13 else M1.popM.pushM (M1.popM.ld (5 + xa + M1.topM))) from rfl, hw.topM]
    obtain ⟨eo, ew⟩ : (doIn inp false ⟨3, xa, xb, xn⟩ ⟨⟨next + 1, n :: l, rd, outn, 0, cells⟩, kept, out, wrong⟩).out = out ∧ (doIn inp false ⟨3, xa, xb, xn⟩ ⟨⟨next + 1, n :: l, rd, outn, 0, cells⟩, kept, out, wrong⟩).wrong = wrong := by
      by_cases hoe : n < 0 ∨ xb ≤ n <;> simp [doIn, hoe]
    rw [eo, ew]
    refine XA.condF rfl rfl ?_
    refine zS ?_; refine zS ?_; refine zR ?_; refine zO rfl (Rd.eql rfl rfl) ?_; refine zO rfl Rd.asg ?_; refine zN ?_; refine zT ?_
    refine XA.condF rfl rfl ?_
    refine zS ?_; refine zR ?_; refine zO rfl (Rd.eql rfl rfl) ?_; refine zO rfl Rd.asg ?_; refine zN ?_; refine zT ?_
    refine XA.condF rfl rfl ?_
    refine zS ?_; refine zR ?_; refine zO rfl (Rd.eql rfl rfl) ?_; refine zO rfl Rd.asg ?_; refine zN ?_; refine zT ?_
    refine XA.condF rfl rfl ?_
    refine zS ?_; refine zR ?_; refine zO rfl (Rd.eql rfl rfl) ?_; refine zO rfl Rd.asg ?_; refine zN ?_; refine zT ?_
    refine XA.condF rfl rfl ?_
    refine zR ?_; refine zO rfl (Rd.eql rfl rfl) ?_; refine zO rfl Rd.asg ?_; refine zN ?_; refine zT ?_
    refine XA.condF rfl rfl ?_
    refine zS ?_; refine zR ?_; refine zO rfl (Rd.eql rfl rfl) ?_; refine zO rfl Rd.asg ?_; refine zN ?_; refine zT ?_
    refine XA.condF rfl rfl ?_
    refine zS ?_; refine zR ?_; refine zO rfl (Rd.eql rfl rfl) ?_; refine zO rfl Rd.asg ?_; refine zN ?_; refine zT ?_
    refine XA.condF rfl rfl ?_
    refine zS ?_; refine zR ?_; refine zO rfl (Rd.eql rfl rfl) ?_; refine zO rfl Rd.asg ?_; refine zN ?_; refine zT ?_
    refine XA.condF rfl rfl ?_
    refine zS ?_; refine zR ?_; refine zO rfl (Rd.eql rfl rfl) ?_; refine zO rfl Rd.asg ?_; refine zN ?_; refine zT ?_
    refine XA.condF rfl rfl ?_
    refine zS ?_; refine zR ?_; refine zO rfl (Rd.eql rfl rfl) ?_; refine zO rfl Rd.asg ?_; refine zN ?_; refine zT ?_
    refine XA.condF rfl rfl ?_
    refine zR ?_; refine zO rfl Rd.mv ?_; refine zO rfl (Rd.ldA rfl) ?_
    refine zw rfl (WrA.cE (cells3_m σ g mb sb db pb (.slice (some ⟨gc, oc', none⟩) code.length cc) (.slice pi inp.length ci) left torn d s M1 xa xb xn n l ⟨hb0, hb1, by omega⟩ hw) rfl) ?_
    rintro _ _ _ ⟨_, ⟨rfl, rfl, rfl⟩, rfl⟩
    refine XOA.cl ?_
    refine zN ?_
    refine DA.inb_normal ?_
    refine zT ?_; refine zS ?_; refine zR ?_; refine zO rfl Rd.asg ?_; refine zN ?_; refine zT ?_
    refine XA.ret ?_
    exact bodyA.ret (ResA.one rfl rfl) zE ⟨rfl, rfl, rfl⟩
  by_cases h9 : xop = 9
  · subst h9
    clear hx
    obtain ⟨n, l, rfl⟩ : ∃ n s, stack = n :: s := by
      cases stack with
      | nil => simp [popA] at hpop
      | cons n s => exact ⟨n, s, rfl⟩
    obtain ⟨ha0, ha1⟩ := hcell (by decide)
    rw [show M1.doM inp ⟨9, xa, xb, xn⟩ = M1.popM.put (5 + xa) M1.topM from rfl, hw.topM]
    rw [show doIn inp false ⟨9, xa, xb, xn⟩ ⟨⟨next + 1, n :: l, rd, outn, 0, cells⟩, kept, out, wrong⟩ = ⟨⟨next + 1, l, rd, outn, 0, cells.set xa.toNat n⟩, kept, out, wrong⟩ from rfl]
    refine XA.condF rfl rfl ?_
    refine zS ?_; refine zS ?_; refine zR ?_; refine zO rfl (Rd.eql rfl rfl) ?_; refine zO rfl Rd.asg ?_; refine zN ?_; refine zT ?_
    refine XA.condF rfl rfl ?_
    refine zS ?_; refine zR ?_; refine zO rfl (Rd.eql rfl rfl) ?_; refine zO rfl Rd.asg ?_; refine zN ?_; refine zT ?_
    refine XA.condF rfl rfl ?_
    refine zS ?_; refine zR ?_; refine zO rfl (Rd.eql rfl rfl) ?_; refine zO rfl Rd.asg ?_; refine zN ?_; refine zT ?_
    refine XA.condF rfl rfl ?_
    refine zS ?_; refine zR ?_; refine zO rfl (Rd.eql rfl rfl) ?_; refine zO rfl Rd.asg ?_; refine zN ?_; refine zT ?_
    refine XA.condF rfl rfl ?_
    refine zR ?_; refine zO rfl (Rd.eql rfl rfl) ?_; refine zO rfl Rd.asg ?_; refine zN ?_; refine zT ?_
    refine XA.condF rfl rfl ?_
    refine zS ?_; refine zR ?_; refine zO rfl (Rd.eql rfl rfl) ?_; refine zO rfl Rd.asg ?_; refine zN ?_; refine zT ?_
    refine XA.condF rfl rfl ?_
    refine zS ?_; refine zR ?_; refine zO rfl (Rd.eql rfl rfl) ?_; refine zO rfl Rd.asg ?_; refine zN ?_; refine zT ?_
    refine XA.condF rfl rfl ?_
    refine zS ?_; refine zR ?_; refine zO rfl (Rd.eql rfl rfl) ?_; refine zO rfl Rd.asg ?_; refine zN ?_; refine zT ?_
    refine XA.condF rfl rfl ?_
    refine zS ?_; refine zR ?_; refine zO rfl (Rd.eql rfl rfl) ?_; refine zO rfl Rd.asg ?_; refine zN ?_; refine zT ?_
    refine XA.condF rfl rfl ?_
    refine zS ?_; refine zR ?_; refine zO rfl (Rd.eql rfl rfl) ?_; refine zO rfl Rd.asg ?_; refine zN ?_; refine zT ?_
    refine XA.condF rfl rfl ?_
    refine zR ?_; refine zO rfl Rd.mv ?_; refine zO rfl (Rd.ldA rfl) ?_
    refine zw rfl (WrA.cE (cells9_m σ g mb sb db pb (.slice (some ⟨gc, oc', none⟩) code.length cc) (.slice pi inp.length ci) left torn d s M1 xa xb xn n l ⟨ha0, by omega⟩ hw) rfl) ?_
    rintro _ _ _ ⟨_, ⟨rfl, rfl, rfl⟩, rfl⟩
    refine XOA.cl ?_
    refine zN ?_
    refine DA.inb_normal ?_
    refine zT ?_; refine zS ?_; refine zR ?_; refine zO rfl Rd.asg ?_; refine zN ?_; refine zT ?_
    refine XA.ret ?_
    exact bodyA.ret (ResA.one rfl rfl) zE ⟨rfl, rfl, rfl⟩
  by_cases h10 : xop = 10
  · subst h10
    clear hx
    obtain ⟨y, z, l, rfl⟩ : ∃ y z s, stack = y :: z :: s := by
      cases stack with
      | nil => simp [popA] at hpop
      | cons y s => cases s with
        | nil => simp [popA] at hpop
        | cons z s => exact ⟨y, z, s, rfl⟩
    obtain ⟨hb0, hb1, hb2⟩ := hcell2 (by decide)
    rw [show M1.doM inp ⟨10, xa, xb, xn⟩ = (if M1.popM.topM < 0 ∨ xb ≤ M1.popM.topM then M1.popM.popM.put 4 13 else M1.popM.popM.put (5 + xa + M1.popM.topM) M1.topM) from rfl, hw.topM, hw.popM.topM]
    obtain ⟨eo, ew⟩ : (doIn inp false ⟨10, xa, xb, xn⟩ ⟨⟨next + 1, y :: z :: l, rd, outn, 0, cells⟩, kept, out, wrong⟩).out = out ∧ (doIn inp false ⟨10, xa, xb, xn⟩ ⟨⟨next + 1, y :: z :: l, rd, outn, 0, cells⟩, kept, out, wrong⟩).wrong = wrong := by
      by_cases hoe : z < 0 ∨ xb ≤ z <;> simp [doIn, hoe]
    rw [eo, ew]
    refine XA.condF rfl rfl ?_
    refine zS ?_; refine zS ?_; refine zR ?_; refine zO rfl (Rd.eql rfl rfl) ?_; refine zO rfl Rd.asg ?_; refine zN ?_; refine zT ?_
    refine XA.condF rfl rfl ?_
    refine zS ?_; refine zR ?_; refine zO rfl (Rd.eql rfl rfl) ?_; refine zO rfl Rd.asg ?_; refine zN ?_; refine zT ?_
    refine XA.condF rfl rfl ?_
    refine zS ?_; refine zR ?_; refine zO rfl (Rd.eql rfl rfl) ?_; refine zO rfl Rd.asg ?_; refine zN ?_; refine zT ?_
    refine XA.condF rfl rfl ?_
    refine zS ?_; refine zR ?_; refine zO rfl (Rd.eql rfl rfl) ?_; refine zO rfl Rd.asg ?_; refine zN ?_; refine zT ?_
    refine XA.condF rfl rfl ?_
    refine zR ?_; refine zO rfl (Rd.eql rfl rfl) ?_; refine zO rfl Rd.asg ?_; refine zN ?_; refine zT ?_
    refine XA.condF rfl rfl ?_
    refine zS ?_; refine zR ?_; refine zO rfl (Rd.eql rfl rfl) ?_; refine zO rfl Rd.asg ?_; refine zN ?_; refine zT ?_
    refine XA.condF rfl rfl ?_
    refine zS ?_; refine zR ?_; refine zO rfl (Rd.eql rfl rfl) ?_; refine zO rfl Rd.asg ?_; refine zN ?_; refine zT ?_
    refine XA.condF rfl rfl ?_
    refine zS ?_; refine zR ?_; refine zO rfl (Rd.eql rfl rfl) ?_; refine zO rfl Rd.asg ?_; refine zN ?_; refine zT ?_
    refine XA.condF rfl rfl ?_
    refine zS ?_; refine zR ?_; refine zO rfl (Rd.eql rfl rfl) ?_; refine zO rfl Rd.asg ?_; refine zN ?_; refine zT ?_
    refine XA.condF rfl rfl ?_
    refine zS ?_; refine zR ?_; refine zO rfl (Rd.eql rfl rfl) ?_; refine zO rfl Rd.asg ?_; refine zN ?_; refine zT ?_
    refine XA.condF rfl rfl ?_
    refine zR ?_; refine zO rfl Rd.mv ?_; refine zO rfl (Rd.ldA rfl) ?_
    refine zw rfl (WrA.cE (cells10_m σ g mb sb db pb (.slice (some ⟨gc, oc', none⟩) code.length cc) (.slice pi inp.length ci) left torn d s M1 xa xb xn y z l ⟨hb0, hb1, by omega⟩ hw) rfl) ?_
    rintro _ _ _ ⟨_, ⟨rfl, rfl, rfl⟩, rfl⟩
    refine XOA.cl ?_
    refine zN ?_
    refine DA.inb_normal ?_
    refine zT ?_; refine zS ?_; refine zR ?_; refine zO rfl Rd.asg ?_; refine zN ?_; refine zT ?_
    refine XA.ret ?_
    exact bodyA.ret (ResA.one rfl rfl) zE ⟨rfl, rfl, rfl⟩
  by_cases h12 : xop = 12
  · subst h12
    clear hx
    obtain ⟨ha0, ha1⟩ := hcell (by decide)
    rw [show M1.doM inp ⟨12, xa, xb, xn⟩ = (if (inp.length : Int) ≤ M1.ld 2 then M1.put 4 14 else (M1.put 2 (M1.ld 2 + 1)).put (5 + xa) (inp.getD (M1.ld 2).toNat 0)) from rfl]
    obtain ⟨eo, ew⟩ : (doIn inp false ⟨12, xa, xb, xn⟩ ⟨⟨next + 1, stack, rd, outn, 0, cells⟩, kept, out, wrong⟩).out = out ∧ (doIn inp false ⟨12, xa, xb, xn⟩ ⟨⟨next + 1, stack, rd, outn, 0, cells⟩, kept, out, wrong⟩).wrong = wrong := by
      by_cases hoe : inp.length ≤ rd <;> simp [doIn, hoe]
    rw [eo, ew]
    refine XA.condF rfl rfl ?_
    refine zS ?_; refine zS ?_; refine zR ?_; refine zO rfl (Rd.eql rfl rfl) ?_; refine zO rfl Rd.asg ?_; refine zN ?_; refine zT ?_
    refine XA.condF rfl rfl ?_
    refine zS ?_; refine zR ?_; refine zO rfl (Rd.eql rfl rfl) ?_; refine zO rfl Rd.asg ?_; refine zN ?_; refine zT ?_
    refine XA.condF rfl rfl ?_
    refine zS ?_; refine zR ?_; refine zO rfl (Rd.eql rfl rfl) ?_; refine zO rfl Rd.asg ?_; refine zN ?_; refine zT ?_
    refine XA.condF rfl rfl ?_
    refine zS ?_; refine zR ?_; refine zO rfl (Rd.eql rfl rfl) ?_; refine zO rfl Rd.asg ?_; refine zN ?_; refine zT ?_
    refine XA.condF rfl rfl ?_
    refine zR ?_; refine zO rfl (Rd.eql rfl rfl) ?_; refine zO rfl Rd.asg ?_; refine zN ?_; refine zT ?_
    refine XA.condF rfl rfl ?_
    refine zS ?_; refine zR ?_; refine zO rfl (Rd.eql rfl rfl) ?_; refine zO rfl Rd.asg ?_; refine zN ?_; refine zT ?_
    refine XA.condF rfl rfl ?_
    refine zS ?_; refine zR ?_; refine zO rfl (Rd.eql rfl rfl) ?_; refine zO rfl Rd.asg ?_; refine zN ?_; refine zT ?_
    refine XA.condF rfl rfl ?_
    refine zS ?_; refine zR ?_; refine zO rfl (Rd.eql rfl rfl) ?_; refine zO rfl Rd.asg ?_; refine zN ?_; refine zT ?_
    refine XA.condF rfl rfl ?_
    refine zS ?_; refine zR ?_; refine zO rfl (Rd.eql rfl rfl) ?_; refine zO rfl Rd.asg ?_; refine zN ?_; refine zT ?_
    refine XA.condF rfl rfl ?_
    refine zS ?_; refine zR ?_; refine zO rfl (Rd.eql rfl rfl) ?_; refine zO rfl Rd.asg ?_; refine zN ?_; refine zT ?_
    refine XA.condF rfl rfl ?_
    refine zR ?_; refine zO rfl Rd.mv ?_; refine zO rfl (Rd.ldA rfl) ?_
    refine zw rfl (WrA.cE (cells12_m σ g mb sb db pb (.slice (some ⟨gc, oc', none⟩) code.length cc) left torn d s M1 pi ci inp xa xb xn ⟨ha0, by omega⟩ hi hil hw) rfl) ?_
    rintro _ _ _ ⟨_, ⟨rfl, rfl, rfl⟩, rfl⟩
    refine XOA.cl ?_
    refine zN ?_
    refine DA.inb_normal ?_
    refine zT ?_; refine zS ?_; refine zR ?_; refine zO rfl Rd.asg ?_; refine zN ?_; refine zT ?_
    refine XA.ret ?_
    exact bodyA.ret (ResA.one rfl rfl) zE ⟨rfl, rfl, rfl⟩
  have h48n : ¬ (4 ≤ xop ∧ xop ≤ 8) := by omega
  rw [show M1.doM inp ⟨xop, xa, xb, xn⟩ = M1 from by
    simp only [Me.doM]
    rw [if_neg h1, if_neg h2, if_neg h3, if_neg h48n, if_neg h9, if_neg h10, if_neg h11, if_neg h12, if_neg h13, if_neg h14, if_neg h15, if_neg h16]]
  rw [show doIn inp false ⟨xop, xa, xb, xn⟩ ⟨⟨next + 1, stack, rd, outn, 0, cells⟩, kept, out, wrong⟩ = ⟨⟨next + 1, stack, rd, outn, 0, cells⟩, kept, out, wrong⟩ from by
    simp only [doIn]
    rw [if_neg h1, if_neg h2, if_neg h3, if_neg h48n, if_neg h9, if_neg h10, if_neg h11, if_neg h12, if_neg h13, if_neg h14, if_neg h15, if_neg h16]]
  clear hx
  refine XA.condF rfl (decide_eq_false h1) ?_
  refine zS ?_; refine zS ?_; refine zR ?_; refine zO rfl (Rd.eql rfl rfl) ?_; refine zO rfl Rd.asg ?_; refine zN ?_; refine zT ?_
  refine XA.condF rfl (decide_eq_false h4) ?_
  refine zS ?_; refine zR ?_; refine zO rfl (Rd.eql rfl rfl) ?_; refine zO rfl Rd.asg ?_; refine zN ?_; refine zT ?_
  refine XA.condF rfl (decide_eq_false h5) ?_
  refine zS ?_; refine zR ?_; refine zO rfl (Rd.eql rfl rfl) ?_; refine zO rfl Rd.asg ?_; refine zN ?_; refine zT ?_
  refine XA.condF rfl (decide_eq_false h6) ?_
  refine zS ?_; refine zR ?_; refine zO rfl (Rd.eql rfl rfl) ?_; refine zO rfl Rd.asg ?_; refine zN ?_; refine zT ?_
  refine XA.condF rfl (decide_eq_false h7) ?_
  refine zR ?_; refine zO rfl (Rd.eql rfl rfl) ?_; refine zO rfl Rd.asg ?_; refine zN ?_; refine zT ?_
  refine XA.condF rfl (decide_eq_false h8) ?_
  refine zS ?_; refine zR ?_; refine zO rfl (Rd.eql rfl rfl) ?_; refine zO rfl Rd.asg ?_; refine zN ?_; refine zT ?_
  refine XA.condF rfl (decide_eq_false h11) ?_
  refine zS ?_; refine zR ?_; refine zO rfl (Rd.eql rfl rfl) ?_; refine zO rfl Rd.asg ?_; refine zN ?_; refine zT ?_
  refine XA.condF rfl (decide_eq_false h13) ?_
  refine zS ?_; refine zR ?_; refine zO rfl (Rd.eql rfl rfl) ?_; refine zO rfl Rd.asg ?_; refine zN ?_; refine zT ?_
  refine XA.condF rfl (decide_eq_false h14) ?_
  refine zS ?_; refine zR ?_; refine zO rfl (Rd.eql rfl rfl) ?_; refine zO rfl Rd.asg ?_; refine zN ?_; refine zT ?_
  refine XA.condF rfl (decide_eq_false h15) ?_
  refine zS ?_; refine zR ?_; refine zO rfl (Rd.eql rfl rfl) ?_; refine zO rfl Rd.asg ?_; refine zN ?_; refine zT ?_
  refine XA.condF rfl (decide_eq_false h16) ?_
  refine zR ?_; refine zO rfl Rd.mv ?_; refine zO rfl (Rd.ldA rfl) ?_
  refine zw rfl (WrA.cE (cellsN_m σ g mb sb db pb (.slice (some ⟨gc, oc', none⟩) code.length cc) (.slice pi inp.length ci) left torn d s M1 xop xa xb xn h2 h3 h9 h10 h12) rfl) ?_
  rintro _ _ _ ⟨_, ⟨rfl, rfl, rfl⟩, rfl⟩
  refine XOA.cl ?_
  refine zN ?_
  refine DA.inb_normal ?_
  refine zT ?_; refine zS ?_; refine zR ?_; refine zO rfl Rd.asg ?_; refine zN ?_; refine zT ?_
  refine XA.ret ?_
  exact bodyA.ret (ResA.one rfl rfl) zE ⟨rfl, rfl, rfl⟩
theorem stepC_m (hc : PSl 4 rIn σ (.slice pc code.length cc) code) (hg : s.gen < 4611686018427387904) (hS : Shows M.C b.m) (hk : StepOk code inp b x) (h15 : x.op = 15) :
    CallsA Try.prog 18 #[ptr g] σ [blk g [ptr mb, .slice pc code.length cc, .slice pi inp.length ci, ptr pb, i64 0, .bool torn] 64, Wld mb sb db d s M] (RetA fun v σ' Γ' => ∃ (d' : DiskS) (s' : StS), v = .bool true ∧ s'.gen = s.gen + 1 ∧ pagesC d' s' = (M.stepM code inp).C ∧ Good d' s' ∧ σ.sub σ' ∧ Γ' = [blk g [ptr mb, .slice pc code.length cc, .slice pi inp.length ci, ptr pb, i64 0, .bool false] 64, Wld mb sb db d' s' (M.stepM code inp)]) := by
  obtain ⟨⟨next, stack, rd, outn, st, cells⟩, kept, out, wrong⟩ := b
  obtain ⟨hst, hx, -, -, -, -, -, hcd, -, -, -⟩ := hk
  simp only at hst hx hcd hS
  subst hst
  obtain ⟨xop, xa, xb, xn⟩ := x
  simp only at h15
  subst h15
  have hlt := (List.getElem?_eq_some_iff.1 hx).1
  obtain ⟨gc, oc', row, rfl, hrx, hrl, hrow⟩ := hc.at hx
  obtain rfl : row = [i64 15, i64 xa, i64 xb, i64 xn] := hrx
  have e0 : M.ld 0 = next := hS.nx
  have hM : M.stepM code inp = ⟨(M.put 0 ((next : Int) + 1)).C, noB⟩ := by rw [Me.stepM, e0, Int.toNat_natCast, hx]; rfl
  have hld := load_w σ mb sb db d s M 4
  rw [show M.ld 4 = 0 from hS.st] at hld
  have hadd := add_m σ g mb sb db pb (.slice (some ⟨gc, oc', none⟩) code.length cc) (.slice pi inp.length ci) 0 torn d s M 0 1
  rw [e0, X.wrap64_in (by omega) (by omega)] at hadd
  rw [hM]
  clear hM hS e0 hc hx
  generalize M.put 0 (((next : Nat) : Int) + 1) = M1 at hadd ⊢
  refine enterA1 Try.func18 rfl rfl rfl ?_
  refine zS ?_; refine zR ?_; refine zO rfl Rd.asg ?_; refine zN ?_; refine zT ?_; refine zS ?_; refine zS ?_; refine zR ?_; refine zO rfl Rd.mv ?_; refine zO rfl (Rd.nilCheck rfl) ?_; refine zO rfl (Rd.fA rfl) ?_; refine zO rfl (Rd.ldC rfl (tyrow rfl) rfl) ?_
  refine zw rfl (WrA.cE (hld) rfl) ?_
  rintro _ _ _ ⟨_, ⟨rfl, rfl, rfl⟩, rfl⟩
  refine XOA.cl ?_
  refine zO rfl (Rd.neq rfl rfl) ?_
  refine zN ?_; refine zT ?_
  refine XA.condF rfl rfl ?_
  refine XA.skip ?_
  refine zT ?_; refine zS ?_
  refine XA.join [(3, 3), (11, 18)] (fun y : Nat => [(3, ptr y)]) (fun y σ' Γ' => σ = σ' ∧ Γ' = [blk y [i64 15, i64 xa, i64 xb, i64 xn] 104, blk g [ptr mb, .slice (some ⟨gc, oc', none⟩) code.length cc, .slice pi inp.length ci, ptr pb, i64 0, .bool torn] 64, Wld mb sb db d s M1]) ?_ ?_
  · skip
    refine XA.drawQ (by kernel_rfl) _ _ [9] 10 #[false, false, false, false, false, false, false, false, false, false] rfl rfl (by kernel_rfl) (PH.sub.refl _) (Ent.sel (R := blk g _ _) (by ((repeat (first | with_reducible exact Sel.head | apply Sel.tail)); (first | done | fail))) (Ent.nil _)) ?_
    refine XQA.pu (i := 0) (listed' := #[true, false, false, false, false, false, false, false, false, false]) rfl rfl (by kernel_rfl) rfl Gd.free Rd.mv ?_
    refine XQA.pu (i := 1) (listed' := #[true, true, false, false, false, false, false, false, false, false]) rfl rfl (by kernel_rfl) rfl Gd.free (Rd.nilCheck rfl) ?_
    refine XQA.pu (i := 2) (listed' := #[true, true, true, false, false, false, false, false, false, false]) rfl rfl (by kernel_rfl) rfl Gd.free (Rd.fA rfl) ?_
    refine XQA.rd (i := 3) (listed' := #[true, true, true, true, false, false, false, false, false, false]) rfl rfl (by kernel_rfl) rfl Gd.free (Rd.ldC rfl (tyrow rfl) rfl) ?_
    refine XQA.pu (i := 4) (listed' := #[true, true, true, true, true, false, false, false, false, false]) rfl rfl (by kernel_rfl) rfl Gd.free Rd.mv ?_
    refine XQA.w2 (i := 5) (j := 8) (by kernel_rfl) ?_ ?_
    · refine XQA1.wr0 (listed' := #[true, true, true, true, true, true, false, false, false, false]) rfl rfl Gd.free (by kernel_rfl) rfl (WrA.cE hadd rfl) ?_
      rintro _ _ _ ⟨_, ⟨rfl, rfl, rfl⟩, rfl⟩
      refine ⟨⟨(by first | exact PH.sub.refl _ | assumption | (refine PH.sub.trans ?_ (by assumption); assumption)), zE⟩, XQA.re (by conv => lhs; dsimp only [List.cons_append, List.nil_append]) ?_⟩
      refine XQA.pu (i := 6) (listed' := #[true, true, true, true, true, true, true, false, false, false]) rfl rfl (by kernel_rfl) rfl Gd.free (Rd.ixS rfl rfl) ?_
      refine XQA.rd (i := 7) (listed' := #[true, true, true, true, true, true, true, true, false, false]) rfl rfl (by kernel_rfl) rfl Gd.free (Rd.ldA rfl) ?_
      refine qa 8 ?_
      refine XQA1.wr0 (listed' := #[true, true, true, true, true, true, true, true, true, false]) rfl rfl Gd.free (by kernel_rfl) rfl (WrA.alloc (tyrow rfl)) ?_
      rintro _ _ _ ⟨g3, rfl, rfl, rfl⟩
      refine ⟨⟨(by first | exact PH.sub.refl _ | assumption | (refine PH.sub.trans ?_ (by assumption); assumption)), zE⟩, XQA.re (by conv => lhs; dsimp only [List.cons_append, List.nil_append]) ?_⟩
      refine qa 9 ?_
      refine XQA1.wrZ0 (listed' := #[true, true, true, true, true, true, true, true, true, true]) rfl rfl Gd.free (by kernel_rfl) rfl (by kernel_rfl) (WrA.st (tyrow rfl) rfl) ?_
      rintro _ _ _ ⟨rfl, rfl, rfl⟩
      refine XQA.re (by conv => lhs; dsimp only [List.cons_append, List.nil_append]) ?_
      refine XQA.nil rfl ?_
      refine DA.thn_normal ⟨(by (repeat (first | exact Keep.refl _ _ | refine Keep.upd ?_ rfl | refine Keep.updO ?_ rfl | refine Keep.updN ?_)); (first | done | fail)), g3, _, (by (repeat (first | exact trivial | refine ⟨rfl, ?_⟩ | refine ⟨Eq.trans rfl (congrArg Value.bool hmat.symm), ?_⟩)); (first | done | fail)), ?_, rfl, rfl⟩; exact zE
    · refine XQA1.wr0 (listed' := #[true, true, true, true, true, false, false, false, true, false]) rfl rfl Gd.free (by kernel_rfl) rfl (WrA.alloc (tyrow rfl)) ?_
      rintro _ _ _ ⟨g3, rfl, rfl, rfl⟩
      refine ⟨⟨(by first | exact PH.sub.refl _ | assumption | (refine PH.sub.trans ?_ (by assumption); assumption)), zE⟩, XQA.re (by conv => lhs; dsimp only [List.cons_append, List.nil_append]) ?_⟩
      refine qa 5 ?_
      refine XQA1.wr0 (listed' := #[true, true, true, true, true, true, false, false, true, false]) rfl rfl Gd.free (by kernel_rfl) rfl (WrA.cE hadd rfl) ?_
      rintro _ _ _ ⟨_, ⟨rfl, rfl, rfl⟩, rfl⟩
      refine ⟨⟨(by first | exact PH.sub.refl _ | assumption | (refine PH.sub.trans ?_ (by assumption); assumption)), zE⟩, XQA.re (by conv => lhs; dsimp only [List.cons_append, List.nil_append]) ?_⟩
      refine XQA.pu (i := 6) (listed' := #[true, true, true, true, true, true, true, false, true, false]) rfl rfl (by kernel_rfl) rfl Gd.free (Rd.ixS rfl rfl) ?_
      refine XQA.rd (i := 7) (listed' := #[true, true, true, true, true, true, true, true, true, false]) rfl rfl (by kernel_rfl) rfl Gd.free (Rd.ldA rfl) ?_
      refine qa 9 ?_
      refine XQA1.wrZ0 (listed' := #[true, true, true, true, true, true, true, true, true, true]) rfl rfl Gd.free (by kernel_rfl) rfl (by kernel_rfl) (WrA.st (tyrow rfl) rfl) ?_
      rintro _ _ _ ⟨rfl, rfl, rfl⟩
      refine XQA.re (by conv => lhs; dsimp only [List.cons_append, List.nil_append]) ?_
      refine XQA.nil rfl ?_
      refine DA.thn_normal ⟨(by (repeat (first | exact Keep.refl _ _ | refine Keep.upd ?_ rfl | refine Keep.updO ?_ rfl | refine Keep.updN ?_)); (first | done | fail)), g3, _, (by (repeat (first | exact trivial | refine ⟨rfl, ?_⟩ | refine ⟨Eq.trans rfl (congrArg Value.bool hmat.symm), ?_⟩)); (first | done | fail)), ?_, rfl, rfl⟩; exact zE
  rintro g3 δ _ _ ⟨rfl, rfl⟩
  dsimp only [ovr, List.foldl]
  refine zT ?_; refine zS ?_; refine zS ?_; refine zR ?_; refine zO rfl (Rd.fA rfl) ?_; refine zO rfl (Rd.ldC rfl (tyrow rfl) rfl) ?_; refine zN ?_; refine zT ?_
  refine XA.block ?_
  refine zS ?_; refine zR ?_; refine zO rfl (Rd.eql rfl rfl) ?_; refine zO rfl Rd.asg ?_; refine zN ?_; refine zT ?_
  refine XA.condF rfl rfl ?_
  refine zS ?_; refine zS ?_; refine zR ?_; refine zO rfl (Rd.eql rfl rfl) ?_; refine zO rfl Rd.asg ?_; refine zN ?_; refine zT ?_
  refine XA.condF rfl rfl ?_
  refine zS ?_; refine zR ?_; refine zO rfl (Rd.eql rfl rfl) ?_; refine zO rfl Rd.asg ?_; refine zN ?_; refine zT ?_
  refine XA.condF rfl rfl ?_
  refine zS ?_; refine zR ?_; refine zO rfl (Rd.eql rfl rfl) ?_; refine zO rfl Rd.asg ?_; refine zN ?_; refine zT ?_
  refine XA.condF rfl rfl ?_
  refine zS ?_; refine zR ?_; refine zO rfl (Rd.eql rfl rfl) ?_; refine zO rfl Rd.asg ?_; refine zN ?_; refine zT ?_
  refine XA.condF rfl rfl ?_
  refine zR ?_; refine zO rfl (Rd.eql rfl rfl) ?_; refine zO rfl Rd.asg ?_; refine zN ?_; refine zT ?_
  refine XA.condF rfl rfl ?_
  refine zS ?_; refine zR ?_; refine zO rfl (Rd.eql rfl rfl) ?_; refine zO rfl Rd.asg ?_; refine zN ?_; refine zT ?_
  refine XA.condF rfl rfl ?_
  refine zS ?_; refine zR ?_; refine zO rfl (Rd.eql rfl rfl) ?_; refine zO rfl Rd.asg ?_; refine zN ?_; refine zT ?_
  refine XA.condF rfl rfl ?_
  refine zS ?_; refine zR ?_; refine zO rfl (Rd.eql rfl rfl) ?_; refine zO rfl Rd.asg ?_; refine zN ?_; refine zT ?_
  refine XA.condF rfl rfl ?_
  refine zS ?_; refine zR ?_; refine zO rfl (Rd.eql rfl rfl) ?_; refine zO rfl Rd.asg ?_; refine zN ?_; refine zT ?_
  refine XA.condT rfl rfl ?_
  refine zR ?_; refine zO rfl Rd.mv ?_
  refine zw rfl (WrA.cE (commit_m σ g mb sb db pb _ _ torn d s M1 hg) rfl) ?_
  rintro _ σ1 _ ⟨_, ⟨d', s', rfl, q1, q2, q3, q4, rfl⟩, rfl⟩
  refine XOA.cl ?_
  refine zN ?_
  refine DA.inb_normal ?_
  refine zT ?_; refine zS ?_; refine zR ?_; refine zO rfl Rd.asg ?_; refine zN ?_; refine zT ?_
  refine XA.ret ?_
  exact bodyA.ret (ResA.one rfl rfl) zE ⟨d', s', rfl, q1, q2, q3, q4, rfl⟩
end
end Go.Proofs.Ytmnmcjdgnpgchaa

namespace Go.Proofs.Ytmnmcjdgnpgchaa
open Go X
section
variable {C : List In} {inp : List Int}
end
end Go.Proofs.Ytmnmcjdgnpgchaa

namespace Go.Proofs.Ytmnmcjdgnpgchaa
open Go X
set_option maxHeartbeats 1000000
section
variable {C : List In} {inp : List Int}
end
def be0 (n : Nat) : Be := ⟨⟨0, [], 0, 0, 0, List.replicate n 0⟩, ⟨0, [], 0, 0, 0, List.replicate n 0⟩, [], false⟩
end Go.Proofs.Ytmnmcjdgnpgchaa

namespace Go.Proofs.Ytmnmcjdgnpgchaa
open Go X
set_option maxHeartbeats 1000000
def nowC (b : Be) : Int := if b.wrong then 15 else if b.m.st = 0 then 13 else if 1 < b.m.st then IntKind.i64.wrap (b.m.st - 2) else 0
theorem ResA.cell1 {P : Program} {ρ : Env} {σ : PH} {Γ : List HP} {fn : Func} {t1 : Tmp} {T1 : TypeId} {g1 o1 : Nat} {v1 : Value} (hf : fn.results = #[.cell t1 T1]) (h1 : ρ t1 = .pointer (some ⟨g1, o1, none⟩)) (l1 : ∀ h, Ho σ Γ h → Ld P h T1 g1 o1 v1) : ResA P fn ρ σ Γ v1 := ResA.cell hf h1 l1
end Go.Proofs.Ytmnmcjdgnpgchaa

