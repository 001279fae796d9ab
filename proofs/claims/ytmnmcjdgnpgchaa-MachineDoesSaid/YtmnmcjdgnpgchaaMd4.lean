/- Part 4 of 6 of what the claim needs: CdQ, CdR, Kp, Ks, Km, Ja, Je, Js, Jt, Ju, Jv, Mr, Jw, Ap, CdT, CdU, CdV, CdW, CdX, Kr, Kq, Na, Kz, Kf. -/
import Derived.Test.YtmnmcjdgnpgchaaMd2
import Derived.Test.YtmnmcjdgnpgchaaMd3
namespace Go.Proofs.Ytmnmcjdgnpgchaa
open Go X
set_option maxHeartbeats 1000000
theorem X.PSl.take {α : Type} {s n c k : Nat} {R : RT α} {σ : PH} {p : Option Addr} {xs : List α} (h : PSl s R σ (.slice p n c) xs) (hk : k ≤ n) : PSl s R σ (.slice p k c) (xs.take k) := by
  obtain ⟨p', c', rows, h1, h2, h3, h4, h5, h6, h7⟩ := h
  simp only [Value.slice.injEq] at h1
  obtain ⟨rfl, rfl, rfl⟩ := h1
  have hl : (xs.take k).length = k := by rw [List.length_take]; exact Nat.min_eq_left hk
  refine ⟨p, c, rows.take k, by rw [hl], by omega, h3, by rw [hl, List.length_take]; omega, fun r hr => h5 r (List.mem_of_mem_take hr), fun i row x a b => ?_, fun hp => ?_⟩
  · rw [List.getElem?_take] at a b
    split at a
    · rename_i hi
      rw [if_pos hi] at b
      exact h6 i row x a b
    · cases a
  · obtain ⟨g, o, e, hr⟩ := h7 (by omega)
    refine ⟨g, o, e, ?_⟩
    have := hr.sub (j := 0) (us := (rows.take k).flatten) (by
      have e : rows.flatten = (rows.take k).flatten ++ (rows.drop k).flatten := by rw [← List.flatten_append, List.take_append_drop]
      rw [List.drop_zero, e]
      exact List.take_left)
    simpa using this
theorem drop_get {α : Type} {l : List α} {k : Nat} {x : α} (h : l[k]? = some x) : l.drop k = x :: l.drop (k + 1) := by
  obtain ⟨h1, h2⟩ := List.getElem?_eq_some_iff.1 h
  rw [List.drop_eq_getElem_cons h1, h2]
theorem vars_a (σ : PH) (sl : Value) (l : List Va) (hl : PSl 2 rVa σ sl l) : CallsA Try.prog 70 #[sl] σ [] (RetA fun v σ' Γ' => v = i64 (checkVars l) ∧ σ = σ' ∧ Γ' = []) := by
  obtain ⟨pl, cl, rfl, hle, hmx⟩ := hl.shape
  have hlen : l.length ≤ maxLen := by omega
  simp only [maxLen] at hlen
  refine enterA1 Try.func70 rfl rfl rfl ?_
  refine zS ?_; refine zR ?_; refine zO rfl Rd.asg ?_; refine zN ?_; refine zT ?_; refine zS ?_; refine zS ?_; refine zR ?_; refine zO rfl Rd.mv ?_; refine zO rfl (Rd.lenSlice (tyrow rfl) rfl rfl) ?_
  refine zO rfl (Rd.gtr rfl rfl) ?_
  refine zN ?_; refine zT ?_
  refine XA.condp rfl (fun h8 => ?_) (fun h8 => ?_)
  · refine zS ?_
    refine zR ?_; refine zO rfl Rd.asg ?_; refine zN ?_; refine zT ?_
    refine XA.ret ?_
    refine DA.thn_ret ?_
    have hr : checkVars l = 3 := by rw [checkVars, if_pos (by omega)]
    exact bodyA.ret (ResA.one rfl rfl) zE ⟨by rw [hr], rfl, rfl⟩
  have hcv : checkVars l = varsGo [] 0 l := by rw [checkVars, if_neg (by omega)]
  rw [hcv]
  refine XA.skip ?_
  refine zT ?_; refine zS ?_; refine zR ?_; refine zO rfl Rd.asg ?_; refine zN ?_; refine zT ?_; refine zS ?_; refine zS ?_; refine zR ?_; refine zO rfl Rd.mv ?_; refine zO rfl (Rd.lenSlice (tyrow rfl) rfl rfl) ?_; refine zO rfl Rd.mv ?_; refine zN ?_; refine zT ?_
  refine XA.block ?_
  refine XA.gen [(0, _), (2, _), (3, _), (9, _), (10, _), (11, _)] ⟨(by with_reducible (conv => lhs; whnf)), (by with_reducible (conv => lhs; whnf)), (by with_reducible (conv => lhs; whnf)), (by with_reducible (conv => lhs; whnf)), (by with_reducible (conv => lhs; whnf)), (by with_reducible (conv => lhs; whnf)), trivial⟩ (fun δ => ?_)
  dsimp only [List.foldl]
  refine XA.loop [(2, 5), (11, 42)] (fun q : Nat × Int => [(11, i64 q.1), (3, i64 q.2)]) (fun q σ' Γ' => σ = σ' ∧ q.1 ≤ l.length ∧ (0 ≤ q.2 ∧ q.2 ≤ 48 ∧ varsGo (l.take q.1) q.2 (l.drop q.1) = varsGo [] 0 l) ∧ Γ' = []) (fun q => l.length - q.1) (0, 0) (by exact ⟨rfl, rfl, trivial⟩) (Δ0 := _) ?_ (⟨rfl, Nat.zero_le _, ⟨Int.le_refl _, (by decide), rfl⟩, rfl⟩) ?_
  · exact zE
  rintro ⟨k, n⟩ δ _ _ ⟨rfl, hk, ⟨hn0, hn1, hgo⟩, rfl⟩
  dsimp only [ovr, List.foldl]
  have hk : k ≤ l.length := hk
  have hn0 : 0 ≤ n := hn0
  have hn1 : n ≤ 48 := hn1
  have hgo : varsGo (l.take k) n (l.drop k) = varsGo [] 0 l := hgo
  refine zS ?_; refine zR ?_; refine zO rfl (Rd.lss rfl rfl) ?_; refine zN ?_; refine zT ?_; refine zS ?_
  refine XA.condp rfl (fun hlt => ?_) (fun hlt => ?_)
  · have hlt : k < l.length := by omega
    obtain ⟨x, hx⟩ : ∃ x, l[k]? = some x := ⟨_, List.getElem?_eq_getElem hlt⟩
    obtain ⟨gg, o, row, rfl, ⟨rfl, ⟨hz0, hz1⟩, hnm⟩, hrl, hrow⟩ := hl.at hx
    have hpre := hl.take (k := k) hk
    rw [drop_get hx, varsGo] at hgo
    refine XA.skip ?_
    refine zT ?_; refine zS ?_
    refine XA.block ?_
    refine zS ?_; refine zR ?_; refine zO rfl Rd.mv ?_
    refine zO rfl (Rd.ixS rfl rfl) ?_
    refine zO rfl (Rd.ldA rfl) ?_
    refine XOA.wr0 rfl (WrA.alloc (tyrow rfl)) ?_
    rintro _ _ _ ⟨g5, rfl, rfl, rfl⟩
    refine zO rfl Rd.asg ?_
    refine XOA.wr0 rfl (WrA.st (tyrow rfl) rfl) ?_
    rintro _ _ _ ⟨rfl, rfl, rfl⟩
    refine zN ?_; refine zT ?_; refine zS ?_
    refine XA.block ?_
    refine zS ?_; refine zR ?_; refine zO rfl (Rd.fA rfl) ?_; refine zO rfl (Rd.ldC rfl (tyrow rfl) rfl) ?_
    refine XOA.wr0 rfl (WrA.cE (name_a σ x.name hnm) rfl) ?_
    rintro _ _ _ ⟨_, ⟨rfl, rfl, rfl⟩, rfl⟩
    refine XOA.cl ?_
    cases hnk : nameOk x.name with
    | false =>
      rw [if_pos hnk] at hgo
      refine zO rfl (by first | exact Rd.notp rfl | exact Rd.not rfl) ?_
      refine zO rfl Rd.asg ?_; refine zN ?_; refine zT ?_
      refine XA.condT rfl rfl ?_
      refine zS ?_; refine zR ?_; refine zO rfl Rd.asg ?_; refine zN ?_; refine zT ?_
      refine XA.ret ?_
      refine DA.inb_ret ?_
      refine DA.thn_ret ?_
      refine DA.inb_ret ?_
      refine DA.thn_ret ?_
      refine DA.thn_ret ?_
      refine DA.inb_ret ?_
      refine DA.thn_ret ?_
      exact bodyA.ret (ResA.one rfl rfl) zE ⟨by rw [← hgo], rfl, rfl⟩
    | true =>
      rw [if_neg (by simp [hnk])] at hgo
      refine zO rfl (by first | exact Rd.notp rfl | exact Rd.not rfl) ?_
      refine zO rfl Rd.asg ?_; refine zN ?_; refine zT ?_
      refine XA.condF rfl rfl ?_
      refine zS ?_; refine zR ?_; refine zO rfl Rd.mv ?_; refine zO rfl Rd.mv ?_
      refine zO rfl (Rd.sliceToN (tyrow rfl) rfl (tyrow rfl) rfl rfl (by omega)) ?_
      refine zO rfl (Rd.makeFunc1 (by with_reducible (conv => lhs; whnf))) ?_
      refine XOA.wr0 rfl (WrA.cE (containsVar_a σ g5 x _ _ hpre) rfl) ?_
      rintro _ _ _ ⟨_, ⟨rfl, rfl, rfl⟩, rfl⟩
      refine XOA.cl ?_
      refine zO rfl Rd.asg ?_; refine zN ?_; refine zT ?_
      refine XA.condp rfl (fun htw => ?_) (fun htw => ?_)
      · rw [if_pos htw] at hgo
        refine zS ?_; refine zR ?_; refine zO rfl Rd.asg ?_; refine zN ?_; refine zT ?_
        refine XA.ret ?_
        refine DA.inb_ret ?_
        refine DA.thn_ret ?_
        refine DA.inb_ret ?_
        refine DA.thn_ret ?_
        refine DA.thn_ret ?_
        refine DA.inb_ret ?_
        refine DA.thn_ret ?_
        exact bodyA.ret (ResA.one rfl rfl) zE ⟨by rw [← hgo], rfl, rfl⟩
      rw [if_neg htw] at hgo
      by_cases hz : x.size < 1
      · rw [if_pos (.inl hz)] at hgo
        refine zS ?_; refine zR ?_; refine zO rfl (Rd.fA rfl) ?_; refine zO rfl (Rd.ldC rfl (tyrow rfl) rfl) ?_; refine zO rfl (Rd.lss rfl rfl) ?_; refine zO rfl Rd.mv ?_
        first | ((first | refine zW ?_ | refine zQ ?_); refine zO rfl (Rd.fA rfl) ?_) | refine zU ?_ | refine zV ?_ | refine zZ ?_
        first | ((first | refine zW ?_ | refine zQ ?_); refine zO rfl (Rd.ldC rfl (tyrow rfl) rfl) ?_) | refine zU ?_ | refine zV ?_ | refine zZ ?_
        first | ((first | refine zW ?_ | refine zQ ?_); refine zO rfl Rd.mv ?_) | refine zU ?_ | refine zV ?_ | refine zZ ?_
        first | ((first | refine zW ?_ | refine zQ ?_); refine zO rfl (by first | exact Rd.sbi rfl rfl | exact Rd.sub rfl rfl) ?_) | refine zU ?_ | refine zV ?_ | refine zZ ?_
        first | ((first | refine zW ?_ | refine zQ ?_); refine zO rfl (Rd.gtr rfl rfl) ?_) | refine zU ?_ | refine zV ?_ | refine zZ ?_
        refine zO rfl (by first | exact Rd.pT rfl | exact Rd.pF rfl | exact Rd.pP rfl) ?_
        refine zO rfl Rd.asg ?_; refine zN ?_; refine zT ?_
        refine XA.condT rfl rfl ?_
        refine zS ?_; refine zR ?_; refine zO rfl Rd.asg ?_; refine zN ?_; refine zT ?_
        refine XA.ret ?_
        refine DA.inb_ret ?_
        refine DA.thn_ret ?_
        refine DA.inb_ret ?_
        refine DA.thn_ret ?_
        refine DA.thn_ret ?_
        refine DA.inb_ret ?_
        refine DA.thn_ret ?_
        exact bodyA.ret (ResA.one rfl rfl) zE ⟨by rw [← hgo], rfl, rfl⟩
      · 
        refine zS ?_; refine zR ?_; refine zO rfl (Rd.fA rfl) ?_; refine zO rfl (Rd.ldC rfl (tyrow rfl) rfl) ?_; refine zO rfl (Rd.lss rfl rfl) ?_; refine zO rfl Rd.mv ?_
        first | ((first | refine zW ?_ | refine zQ ?_); refine zO rfl (Rd.fA rfl) ?_) | refine zU ?_ | refine zV ?_ | refine zZ ?_
        first | ((first | refine zW ?_ | refine zQ ?_); refine zO rfl (Rd.ldC rfl (tyrow rfl) rfl) ?_) | refine zU ?_ | refine zV ?_ | refine zZ ?_
        first | ((first | refine zW ?_ | refine zQ ?_); refine zO rfl Rd.mv ?_) | refine zU ?_ | refine zV ?_ | refine zZ ?_
        first | ((first | refine zW ?_ | refine zQ ?_); refine zO rfl (by first | exact Rd.sbi rfl rfl | exact Rd.sub rfl rfl) ?_) | refine zU ?_ | refine zV ?_ | refine zZ ?_
        first | ((first | refine zW ?_ | refine zQ ?_); refine zO rfl (Rd.gtr rfl rfl) ?_) | refine zU ?_ | refine zV ?_ | refine zZ ?_
        refine zO rfl (by first | exact Rd.pT rfl | exact Rd.pF rfl | exact Rd.pP rfl) ?_
        refine zO rfl Rd.asg ?_; refine zN ?_; refine zT ?_
        refine XA.condp rfl (fun hz2 => ?_) (fun hz2 => ?_)
        · rw [if_pos (.inr hz2)] at hgo
          refine zS ?_; refine zR ?_; refine zO rfl Rd.asg ?_; refine zN ?_; refine zT ?_
          refine XA.ret ?_
          refine DA.inb_ret ?_
          refine DA.thn_ret ?_
          refine DA.inb_ret ?_
          refine DA.thn_ret ?_
          refine DA.thn_ret ?_
          refine DA.inb_ret ?_
          refine DA.thn_ret ?_
          exact bodyA.ret (ResA.one rfl rfl) zE ⟨by rw [← hgo], rfl, rfl⟩
        rw [if_neg (by omega)] at hgo
        refine XA.skip ?_
        refine DA.inb_normal ?_
        refine zT ?_; refine zR ?_; refine zO rfl Rd.mv ?_; refine zO rfl (Rd.fA rfl) ?_; refine zO rfl (Rd.ldC rfl (tyrow rfl) rfl) ?_
        refine zO rfl (by first | exact Rd.adi rfl rfl | exact Rd.add rfl rfl) ?_
        refine zO rfl Rd.asg ?_; refine zN ?_
        refine DA.inb_normal ?_
        refine zT ?_; refine zR ?_
        refine zO rfl (by first | exact Rd.adi rfl rfl | exact Rd.add rfl rfl) ?_
        refine zO rfl Rd.mv ?_; refine zN ?_; refine zT ?_
        refine ⟨(Keep.upd (Keep.upd (Keep.upd (Keep.upd (Keep.upd (Keep.upd (Keep.upd (Keep.upd (Keep.upd (Keep.upd (Keep.upd (Keep.upd (Keep.upd (Keep.upd (Keep.upd (Keep.upd (Keep.upd (Keep.upd (Keep.upd (Keep.updO (Keep.upd (Keep.upd (Keep.upd (Keep.upd (Keep.upd (Keep.upd (Keep.updO (Keep.upd (Keep.upd (Keep.updN (Keep.upd (Keep.updO (Keep.upd (Keep.upd (Keep.upd (Keep.upd (Keep.upd (Keep.upd (Keep.hav (Keep.hav (Keep.refl _ _) rfl) rfl) rfl) rfl) rfl) rfl) rfl) rfl) rfl) rfl)) rfl) rfl) rfl) rfl) rfl) rfl) rfl) rfl) rfl) rfl) rfl) rfl) rfl) rfl) rfl) rfl) rfl) rfl) rfl) rfl) rfl) rfl) rfl) rfl) rfl) rfl) rfl) rfl) rfl), (k + 1, n + x.size), _, (by (repeat (first | exact trivial | refine ⟨rfl, ?_⟩ | refine ⟨Eq.trans rfl (congrArg Value.bool hmat.symm), ?_⟩)); (first | done | fail)), ?_, ⟨rfl, hlt, ⟨by simp only; omega, by simp only; omega, by rw [takeS hx]; exact hgo⟩, rfl⟩, (by simp only; omega)⟩
        · exact zE
  have hkn : k = l.length := by omega
  subst hkn
  rw [List.drop_length, varsGo] at hgo
  refine XA.exit ?_
  refine DA.thn_exit ?_
  refine DA.thn_exit ?_
  refine DA.inb_same ?_
  refine zT ?_; refine zS ?_; refine zR ?_; refine zO rfl Rd.asg ?_; refine zN ?_; refine zT ?_
  refine XA.ret ?_
  exact bodyA.ret (ResA.one rfl rfl) zE ⟨by rw [← hgo], rfl, rfl⟩
theorem check_a (σ : PH) (cs : List Value) (p : Pr) (hp : PrAt σ cs p) : CallsA Try.prog 41 #[.agg cs.toArray] σ [] (RetA fun v σ' Γ' => v = i64 (checkP p) ∧ σ = σ' ∧ Γ' = []) := by
  obtain ⟨vs, bs, rfl, hv, hb⟩ := hp
  obtain ⟨pv, cv, rfl, hvl, hvm⟩ := hv.shape
  refine enterA1 Try.func41 rfl rfl rfl ?_
  refine zS ?_; refine zR ?_
  refine XOA.wr0 rfl WrA.bx ?_
  rintro _ _ _ ⟨g1, rfl, rfl, rfl⟩
  refine zO rfl Rd.asg ?_; refine zN ?_; refine zT ?_; refine zS ?_; refine zS ?_; refine zR ?_; refine zO rfl (Rd.fA rfl) ?_; refine zO rfl (Rd.ldC rfl (tyrow rfl) rfl) ?_
  refine XOA.wr0 rfl (WrA.cE (vars_a σ _ _ hv) rfl) ?_
  rintro _ _ _ ⟨_, ⟨rfl, rfl, rfl⟩, rfl⟩
  refine XOA.cl ?_
  refine zO rfl Rd.asg ?_; refine zN ?_; refine zT ?_; refine zS ?_; refine zR ?_; refine zO rfl Rd.mv ?_
  refine zO rfl (Rd.neq rfl rfl) ?_
  refine zN ?_; refine zT ?_
  refine XA.condp rfl (fun hc => ?_) (fun hc => ?_)
  · refine zS ?_
    refine zR ?_; refine zO rfl Rd.mv ?_; refine zO rfl Rd.asg ?_; refine zN ?_; refine zT ?_
    refine XA.ret ?_
    refine DA.thn_ret ?_
    exact bodyA.ret (ResA.one rfl rfl) zE ⟨by rw [checkP, if_pos hc], rfl, rfl⟩
  refine XA.skip ?_
  refine zT ?_; refine zS ?_; refine zR ?_; refine zO rfl (Rd.fA rfl) ?_; refine zO rfl (Rd.ldC rfl (tyrow rfl) rfl) ?_
  refine zO rfl (Rd.bl (fun _ _ => tyrow) rfl rfl rfl) ?_
  refine XOA.wr0 rfl WrA.bx ?_
  rintro _ _ _ ⟨g14, rfl, rfl, rfl⟩
  refine zO rfl Rd.asg ?_; refine zN ?_; refine zT ?_; refine zS ?_; refine zR ?_; refine zO rfl Rd.mv ?_; refine zO rfl (Rd.fA rfl) ?_; refine zO rfl (Rd.ldC rfl (tyrow rfl) rfl) ?_
  refine XOA.ent (Ent.foldC (Θ := [_]) (by (repeat (first | exact Ent.all _ | (apply Ent.take; focus (first | ((repeat (first | with_reducible exact Sel.head | apply Sel.tail)); done) | ((repeat (first | exact Sel.head | apply Sel.tail)); done))) | apply Ent.takeNil | apply Ent.takeEmp)); (first | done | fail)) (Judge.mkO (l := 150)) (Ent.refl _)) ?_
  refine XOA.wr0 rfl (WrA.cE (list_a σ p.body (fun x _ => stmt_a σ x) bs g14 pv p.vars.length cv (.ok 150) 0 hb (fun l hl => by simp only [Except.ok.injEq] at hl; omega) (by decide) (by decide)) rfl) ?_
  rintro _ _ _ ⟨_, ⟨rfl, rfl, rfl⟩, rfl⟩
  refine XOA.cl ?_
  have hcp : checkP p = (stsE p.vars.length 0 p.body (.ok 150)).code := by rw [checkP, if_neg hc]
  rw [hcp]
  refine zN ?_; refine zT ?_; refine zS ?_; refine zR ?_; refine zO rfl Rd.mv ?_
  cases hst : stsE p.vars.length 0 p.body (.ok 150) with
  | ok a =>
    first | refine XA.opn (R := Judge g14 _ (.ok a)) (by ((repeat (first | with_reducible exact Sel.head | apply Sel.tail)); (first | done | fail))) (Judge.okO) ?_ | refine XOA.opn (R := Judge g14 _ (.ok a)) (by ((repeat (first | with_reducible exact Sel.head | apply Sel.tail)); (first | done | fail))) (Judge.okO) ?_ | refine DA.opn (R := Judge g14 _ (.ok a)) (by ((repeat (first | with_reducible exact Sel.head | apply Sel.tail)); (first | done | fail))) (Judge.okO) ?_
    rintro ⟨⟩ -
    first | refine XA.cl ?_ | refine XOA.cl ?_ | refine DA.cl ?_
    refine zO rfl (Rd.nilCheck rfl) ?_; refine zO rfl (Rd.fA rfl) ?_; refine zO rfl (Rd.ldC rfl (tyrow rfl) rfl) ?_; refine zO rfl Rd.asg ?_; refine zN ?_; refine zT ?_
    refine XA.ret ?_
    exact bodyA.ret (ResA.one rfl rfl) (Ent.nil _) ⟨rfl, rfl, rfl⟩
  | error c =>
    first | refine XA.opn (R := Judge g14 _ (.error c)) (by ((repeat (first | with_reducible exact Sel.head | apply Sel.tail)); (first | done | fail))) (Judge.errO) ?_ | refine XOA.opn (R := Judge g14 _ (.error c)) (by ((repeat (first | with_reducible exact Sel.head | apply Sel.tail)); (first | done | fail))) (Judge.errO) ?_ | refine DA.opn (R := Judge g14 _ (.error c)) (by ((repeat (first | with_reducible exact Sel.head | apply Sel.tail)); (first | done | fail))) (Judge.errO) ?_
    rintro l h0
    first | refine XA.cl ?_ | refine XOA.cl ?_ | refine DA.cl ?_
    refine zO rfl (Rd.nilCheck rfl) ?_; refine zO rfl (Rd.fA rfl) ?_; refine zO rfl (Rd.ldC rfl (tyrow rfl) rfl) ?_; refine zO rfl Rd.asg ?_; refine zN ?_; refine zT ?_
    refine XA.ret ?_
    exact bodyA.ret (ResA.one rfl rfl) (Ent.nil _) ⟨rfl, rfl, rfl⟩
theorem sizes_bound : ∀ (l : List Va), (∀ x ∈ l, 0 ≤ x.size ∧ x.size ≤ 1000) → 0 ≤ sizes l ∧ sizes l ≤ 1000 * l.length
  | [], _ => by simp [sizes]
  | x :: l, h => by
    have h1 := sizes_bound l (fun y hy => h y (by simp [hy]))
    have h2 := h x (by simp)
    rw [sizes_cons, List.length_cons]; omega
theorem cell_a (σ : PH) (cs : List Value) (p : Pr) (v : Int) (hp : PrAt σ cs p) (hz : ∀ x ∈ p.vars, 0 ≤ x.size ∧ x.size ≤ 1000) (hl : p.vars.length ≤ 1000) :
    CallsA Try.prog 82 #[.agg cs.toArray, i64 v] σ [] (RetA fun r σ' Γ' => r = i64 (cellOf p.vars v) ∧ σ = σ' ∧ Γ' = []) := by
  obtain ⟨vs, bs, rfl, hv, hb⟩ := hp
  obtain ⟨pv, cv, rfl, hvl, hvm⟩ := hv.shape
  obtain ⟨m, hm⟩ : ∃ m, m = min v.toNat p.vars.length := ⟨_, rfl⟩
  have hmin : (if (p.vars.length : Int) < (if (0 : Int) > v then 0 else v) then (p.vars.length : Int) else (if (0 : Int) > v then 0 else v)) = (m : Int) := by
    subst hm; split <;> split at * <;> omega
  have hcell : cellOf p.vars v = sizes (p.vars.take m) := by
    rw [cellOf, hm, ← List.take_eq_take_min]
  rw [hcell]
  have hml : m ≤ p.vars.length := by omega
  refine enterA2 Try.func82 rfl rfl rfl ?_
  refine zS ?_; refine zR ?_
  refine XOA.wr0 rfl WrA.bx ?_
  rintro _ _ _ ⟨g2, rfl, rfl, rfl⟩
  refine zO rfl Rd.asg ?_; refine zN ?_; refine zT ?_; refine zS ?_; refine zR ?_; refine zO rfl Rd.asg ?_; refine zN ?_; refine zT ?_; refine zS ?_; refine zS ?_; refine zR ?_; refine zO rfl Rd.mv ?_
  refine zO rfl (Rd.max2 rfl rfl) ?_
  refine zO rfl (Rd.fA rfl) ?_; refine zO rfl (Rd.ldC rfl (tyrow rfl) rfl) ?_; refine zO rfl (Rd.lenSlice (tyrow rfl) rfl rfl) ?_
  refine zO rfl (Rd.min2 rfl rfl) ?_
  refine zO rfl Rd.mv ?_; refine zN ?_; refine zT ?_
  refine XA.block ?_
  rw [hmin]
  refine XA.gen [(2, _), (4, _), (5, _), (12, _), (13, _)] ⟨(by with_reducible (conv => lhs; whnf)), (by with_reducible (conv => lhs; whnf)), (by with_reducible (conv => lhs; whnf)), (by with_reducible (conv => lhs; whnf)), (by with_reducible (conv => lhs; whnf)), trivial⟩ (fun δ => ?_)
  dsimp only [List.foldl]
  refine XA.loop [(5, 6), (13, 24)] (fun q : Nat × Int => [(13, i64 q.1), (5, i64 q.2)]) (fun q σ' Γ' => σ = σ' ∧ q.1 ≤ m ∧ q.2 = sizes (p.vars.take q.1) ∧ Γ' = [blk g2 [.slice pv p.vars.length cv, bs] 25]) (fun q => m - q.1) (0, 0) (by exact ⟨rfl, rfl, trivial⟩) (Δ0 := _) ?_ (⟨rfl, Nat.zero_le _, rfl, rfl⟩) ?_
  · exact zE
  rintro ⟨k, n⟩ δ _ _ ⟨rfl, hk, hn, rfl⟩
  dsimp only [ovr, List.foldl]
  have hk : k ≤ m := hk
  have hn : n = sizes (p.vars.take k) := hn
  have hsb := sizes_bound (p.vars.take k) (fun y hy => hz y (List.mem_of_mem_take hy))
  have hkl : (p.vars.take k).length = k := by rw [List.length_take]; omega
  refine zS ?_; refine zR ?_; refine zO rfl (Rd.lss rfl rfl) ?_; refine zN ?_; refine zT ?_; refine zS ?_
  refine XA.condp rfl (fun hlt => ?_) (fun hlt => ?_)
  · have hlt : k < m := by omega
    obtain ⟨x, hx⟩ : ∃ x, p.vars[k]? = some x := ⟨_, List.getElem?_eq_getElem (by omega)⟩
    obtain ⟨gg, o, row, rfl, ⟨rfl, ⟨hz0, hz1⟩, hnm⟩, hrl, hrow⟩ := hv.at hx
    have r1 : PRow σ gg (o + k * 2 + 1) [i64 x.size] := hrow.sub (j := 1) rfl
    have e1 := sizes_take p.vars k x hx
    have hxz := hz x (List.mem_of_getElem? hx)
    refine XA.skip ?_
    refine zT ?_; refine zS ?_
    refine XA.block ?_
    refine zS ?_; refine zR ?_; refine zO rfl Rd.mv ?_; refine zO rfl Rd.asg ?_; refine zN ?_; refine zT ?_; refine zR ?_; refine zO rfl Rd.mv ?_; refine zO rfl (Rd.fA rfl) ?_; refine zO rfl (Rd.ldC rfl (tyrow rfl) rfl) ?_; refine zO rfl Rd.mv ?_
    refine zO rfl (Rd.ixS rfl rfl) ?_
    refine zO rfl (Rd.fA rfl) ?_; refine zO rfl (Rd.ldC rfl (tyrow rfl) rfl) ?_
    refine zO rfl (by first | exact Rd.adi rfl rfl | exact Rd.add rfl rfl) ?_
    refine zO rfl Rd.asg ?_; refine zN ?_
    refine DA.inb_normal ?_
    refine zT ?_; refine zR ?_
    refine zO rfl (by first | exact Rd.adi rfl rfl | exact Rd.add rfl rfl) ?_
    refine zO rfl Rd.mv ?_; refine zN ?_; refine zT ?_
    refine ⟨(Keep.upd (Keep.upd (Keep.upd (Keep.upd (Keep.upd (Keep.upd (Keep.upd (Keep.upd (Keep.upd (Keep.upd (Keep.upd (Keep.upd (Keep.upd (Keep.upd (Keep.upd (Keep.upd (Keep.hav (Keep.hav (Keep.refl _ _) rfl) rfl) rfl) rfl) rfl) rfl) rfl) rfl) rfl) rfl) rfl) rfl) rfl) rfl) rfl) rfl) rfl) rfl), (k + 1, n + x.size), _, (by (repeat (first | exact trivial | refine ⟨rfl, ?_⟩ | refine ⟨Eq.trans rfl (congrArg Value.bool hmat.symm), ?_⟩)); (first | done | fail)), ?_, ⟨rfl, hlt, by simp only; omega, rfl⟩, (by simp only; omega)⟩
    · exact zE
  have hkm : k = m := by omega
  subst hkm
  refine XA.exit ?_
  refine DA.thn_exit ?_
  refine DA.thn_exit ?_
  refine DA.inb_same ?_
  refine zT ?_; refine zS ?_; refine zR ?_; refine zO rfl Rd.mv ?_; refine zO rfl Rd.asg ?_; refine zN ?_; refine zT ?_
  refine XA.ret ?_
  exact bodyA.ret (ResA.one rfl rfl) (Ent.nil _) ⟨by rw [← hn], rfl, rfl⟩
end Go.Proofs.Ytmnmcjdgnpgchaa

namespace Go.Proofs.Ytmnmcjdgnpgchaa
open Go X
set_option maxHeartbeats 1000000
end Go.Proofs.Ytmnmcjdgnpgchaa

namespace Go.Proofs.Ytmnmcjdgnpgchaa
open Go X
set_option maxHeartbeats 1000000
def insC (l : List In) : List Value := (l.map inC).flatten
theorem insC_snoc (l : List In) (x : In) : insC (l ++ [x]) = insC l ++ inC x := by simp [insC]
theorem insC_app (l m : List In) : insC (l ++ m) = insC l ++ insC m := by simp [insC]
theorem insC_len (l : List In) : (insC l).length = l.length * 4 := by
  induction l with
  | nil => rfl
  | cons x l ih => simp only [insC, List.map_cons, List.flatten_cons, List.length_append, List.length_cons] at ih ⊢; rw [ih]; simp only [inC, List.length_cons, List.length_nil]; omega
theorem put_i (σ : PH) (b : Nat) (vs bs : Value) (p : Option Addr) (c : Nat) (L : List In) (x : In) (hn : L.length ≤ 100000) :
    CallsA Try.prog 43 #[ptr b, .agg (inC x).toArray] σ [blk b [vs, bs, .slice p L.length c] 100, lst 104 4 (.slice p L.length c) L.length (insC L)]
      (RetA fun v σ' Γ' => ∃ p' c', v = i64 L.length ∧ σ = σ' ∧ Γ' = [blk b [vs, bs, .slice p' (L ++ [x]).length c'] 100, lst 104 4 (.slice p' (L ++ [x]).length c') (L ++ [x]).length (insC (L ++ [x]))]) := by
  simp only [insC_snoc, List.length_append, List.length_singleton]
  unfold inC
  refine enterA2 Try.func43 rfl rfl rfl ?_
  refine zS ?_; refine zR ?_
  refine XOA.wr0 rfl WrA.bx ?_
  rintro _ _ _ ⟨g3, rfl, rfl, rfl⟩
  refine zO rfl Rd.asg ?_; refine zN ?_; refine zT ?_; refine zS ?_
  refine XA.draw (by kernel_rfl) _ _ [7, 10] [(0, .pu), (1, .pu), (2, .pu), (3, .pu), (4, .rd), (5, .rd), (6, .wr), (7, .wr), (8, .pu), (9, .pu), (10, .wr)] (by kernel_rfl) (PH.sub.refl _) (Ent.sel (R := blk b _ _) (by ((repeat (first | with_reducible exact Sel.head | apply Sel.tail)); (first | done | fail))) (Ent.sel (R := blk g3 _ _) (by ((repeat (first | with_reducible exact Sel.head | apply Sel.tail)); (first | done | fail))) (Ent.nil _))) ?_
  refine XPA.pu rfl rfl Gd.free Rd.mv ?_
  refine XPA.pu rfl rfl Gd.free Rd.mv ?_
  refine XPA.pu rfl rfl Gd.free (Rd.nilCheck rfl) ?_
  refine XPA.pu rfl rfl Gd.free (Rd.fA rfl) ?_
  refine XPA.rd rfl rfl Gd.free (Rd.ldC rfl (tyrow rfl) rfl) ?_
  refine XPA.rd rfl rfl Gd.free (Rd.ldA rfl) ?_
  refine XPA.wr0 rfl rfl Gd.free (WrA.bs1 (tyrow rfl) rfl (tyrow rfl)) ?_
  rintro _ _ _ ⟨g11, rfl, rfl, rfl⟩
  refine stays ?_
  refine XPA.wrZ0 rfl rfl Gd.free (by kernel_rfl) (WrA.ap1 (tyrow rfl) rfl (tyrow rfl) rfl rfl rfl) ?_
  rintro _ _ _ ⟨p12, c12, rfl, rfl, rfl⟩
  refine XPA.pu rfl rfl Gd.free (Rd.nilCheck rfl) ?_
  refine XPA.pu rfl rfl Gd.free (Rd.fA rfl) ?_
  refine XPA.wrZ0 rfl rfl Gd.free (by kernel_rfl) (WrA.st (tyrow rfl) rfl) ?_
  rintro _ _ _ ⟨rfl, rfl, rfl⟩
  refine XPA.nil ?_
  refine zT ?_; refine zS ?_; refine zR ?_; refine zO rfl Rd.mv ?_; refine zO rfl (Rd.nilCheck rfl) ?_; refine zO rfl (Rd.fA rfl) ?_; refine zO rfl (Rd.ldC rfl (tyrow rfl) rfl) ?_; refine zO rfl (Rd.lenSlice (tyrow rfl) rfl rfl) ?_
  refine zO rfl (by first | exact Rd.sbi rfl rfl | exact Rd.sub rfl rfl) ?_
  refine zO rfl Rd.asg ?_; refine zN ?_; refine zT ?_
  refine XA.ret ?_
  refine bodyA.ret (ResA.one rfl rfl) zE ⟨_, _, by show i64 (((L.length + 1 : Nat) : Int) - 1) = i64 L.length; congr 1; omega, rfl, rfl⟩
theorem cell_i (σ : PH) (b : Nat) (vs bs sl : Value) (pr : Pr) (v : Int) (hp : PrAt σ [vs, bs] pr) (hz : ∀ x ∈ pr.vars, 0 ≤ x.size ∧ x.size ≤ 1000) (hl : pr.vars.length ≤ 1000) :
    CallsA Try.prog 91 #[ptr b, i64 v] σ [blk b [vs, bs, sl] 100] (RetA fun r σ' Γ' => r = i64 (cellOf pr.vars v) ∧ σ = σ' ∧ Γ' = [blk b [vs, bs, sl] 100]) := by
  refine enterA2 Try.func91 rfl rfl rfl ?_
  refine zS ?_; refine zR ?_; refine zO rfl Rd.asg ?_; refine zN ?_; refine zT ?_; refine zS ?_; refine zR ?_; refine zO rfl Rd.mv ?_; refine zO rfl (Rd.nilCheck rfl) ?_; refine zO rfl (Rd.fA rfl) ?_; refine zO rfl (Rd.ldA rfl) ?_; refine zO rfl Rd.mv ?_
  refine XOA.wr0 rfl (WrA.cE (cell_a σ [vs, bs] pr v hp hz hl) rfl) ?_
  rintro _ _ _ ⟨_, ⟨rfl, rfl, rfl⟩, rfl⟩
  refine XOA.cl ?_
  refine zO rfl Rd.asg ?_; refine zN ?_; refine zT ?_
  refine XA.ret ?_
  exact bodyA.ret (ResA.one rfl rfl) zE ⟨rfl, rfl, rfl⟩
theorem exsN_mem : ∀ {l : List Ex} {x : Ex}, x ∈ l → exN x ≤ exsN l
  | y :: l, x, h => by
    rw [exsN]
    rcases List.mem_cons.1 h with rfl | h
    · omega
    · have := exsN_mem h; omega
def ExprI (σ : PH) (pr : Pr) (x : Ex) : Prop := ∀ (cs : List Value) (b : Nat) (pv : Option Addr) (cv : Nat) (bs : Value) (p : Option Addr) (c : Nat) (L : List In),
  PrAt σ [.slice pv pr.vars.length cv, bs] pr → ExAt σ cs x → ExV pr.vars.length x → L.length + exN x ≤ 100000 →
  CallsA Try.prog 90 #[ptr b, .agg cs.toArray] σ [blk b [.slice pv pr.vars.length cv, bs, .slice p L.length c] 100, lst 104 4 (.slice p L.length c) L.length (insC L)]
    (RetA fun v σ' Γ' => ∃ p' c', v = .tuple #[] ∧ σ = σ' ∧ Γ' = [blk b [.slice pv pr.vars.length cv, bs, .slice p' (L ++ exCode pr.vars x).length c'] 100, lst 104 4 (.slice p' (L ++ exCode pr.vars x).length c') (L ++ exCode pr.vars x).length (insC (L ++ exCode pr.vars x))])
theorem expr_i (σ : PH) (pr : Pr) (hz : ∀ x ∈ pr.vars, 0 ≤ x.size ∧ x.size ≤ 1000) (hvl : pr.vars.length ≤ 1000) (x : Ex) : ExprI σ pr x := by
  refine Ex.ind (P := ExprI σ pr) ?_ x
  intro op v k l ih cs b pv cv bs p c L hp hx hV hN
  obtain ⟨pl, cl, rfl, ho, hv, hk, hl⟩ := hx.inv
  simp only [Ex.op, Ex.v, Ex.n, Ex.l] at ho hv hk hl ⊢
  clear hx
  rw [ExV] at hV
  obtain ⟨hop, hlp, hvr, -, hsV⟩ := hV
  rw [exN] at hN
  have hlen : l.length ≤ 100000 := by have := exsN_len l; omega
  refine enterA2 Try.func90 rfl rfl rfl ?_
  refine zS ?_; refine zR ?_
  refine XOA.wr0 rfl WrA.bx ?_
  rintro _ _ _ ⟨g3, rfl, rfl, rfl⟩
  refine zN ?_; refine zT ?_; refine zS ?_; refine zS ?_; refine zR ?_; refine zO rfl (Rd.fA rfl) ?_; refine zO rfl (Rd.ldC rfl (tyrow rfl) rfl) ?_; refine zO rfl (Rd.lenSlice (tyrow rfl) rfl rfl) ?_; refine zO rfl Rd.mv ?_; refine zN ?_; refine zT ?_
  refine XA.block ?_
  refine XA.gen [(0, _), (3, _), (8, _), (9, _), (10, _)] ⟨(by with_reducible (conv => lhs; whnf)), (by with_reducible (conv => lhs; whnf)), (by with_reducible (conv => lhs; whnf)), (by with_reducible (conv => lhs; whnf)), (by with_reducible (conv => lhs; whnf)), trivial⟩ (fun δ => ?_)
  dsimp only [List.foldl]
  refine XA.loop [(5, 5), (10, 17)] (fun i : Nat => [(10, i64 i)]) (fun i σ' Γ' => σ = σ' ∧ i ≤ l.length ∧ ∃ (p' : Option Addr) (c' : Nat) (M : List In), M = L ++ exsCode pr.vars (l.take i) ∧ Γ' = [blk b [.slice pv pr.vars.length cv, bs, .slice p' M.length c'] 100, lst 104 4 (.slice p' M.length c') M.length (insC M), blk g3 [i64 op, i64 v, i64 k, .slice pl l.length cl] 93]) (fun i => l.length - i) 0 (by exact ⟨rfl, trivial⟩) (Δ0 := _) ?_ (⟨rfl, Nat.zero_le _, p, c, L, by simp [exsCode], rfl⟩) ?_
  · exact zE
  rintro i δ _ _ ⟨rfl, hi, p', c', M, hM, rfl⟩
  dsimp only [ovr, List.foldl]
  have hMl : M.length + exsN (l.drop i) + 1 ≤ 100000 := by
    have h2 := exsN_app (l.take i) (l.drop i); rw [List.take_append_drop] at h2
    rw [hM, List.length_append, exsCode_len]; omega
  refine zS ?_; refine zR ?_; refine zO rfl (Rd.lss rfl rfl) ?_; refine zN ?_; refine zT ?_; refine zS ?_
  refine XA.condp rfl (fun hlt => ?_) (fun hlt => ?_)
  · have hlt : i < l.length := by omega
    obtain ⟨x', hx'⟩ : ∃ x', l[i]? = some x' := ⟨_, List.getElem?_eq_getElem hlt⟩
    obtain ⟨g, o, row, rfl, hrx, hrl, hrow⟩ := hl.at hx'
    have hmem := List.mem_of_getElem? hx'
    have hone := hrx.ones
    have hdx : l.drop i = x' :: l.drop (i + 1) := drop_get hx'
    have hNx : exN x' ≤ exsN (l.drop i) := exsN_mem (by rw [hdx]; simp)
    refine XA.skip ?_
    refine zT ?_; refine zS ?_
    refine XA.block ?_
    refine zS ?_; refine zR ?_
    refine zO rfl (Rd.ixS rfl rfl) ?_
    refine zO rfl (Rd.ldA rfl) ?_
    refine XOA.wr0 rfl (WrA.alloc (tyrow rfl)) ?_
    rintro _ _ _ ⟨g5, rfl, rfl, rfl⟩
    refine XOA.wr0 rfl (WrA.st (tyrow rfl) rfl) ?_
    rintro _ _ _ ⟨rfl, rfl, rfl⟩
    refine zN ?_; refine zT ?_; refine zR ?_; refine zO rfl Rd.mv ?_; refine zO rfl (Rd.ldA rfl) ?_
    refine XOA.wr0 rfl (WrA.cE (ih x' hmem row b pv cv bs p' c' M hp hrx (hsV.mem x' hmem) (by omega)) rfl) ?_
    rintro _ _ _ ⟨_, ⟨p2, c2, rfl, rfl, rfl⟩, rfl⟩
    refine XOA.cl ?_
    refine zN ?_
    refine DA.inb_normal ?_
    refine zT ?_; refine zR ?_
    refine zO rfl (by first | exact Rd.adi rfl rfl | exact Rd.add rfl rfl) ?_
    refine zO rfl Rd.mv ?_; refine zN ?_; refine zT ?_
    refine ⟨(Keep.upd (Keep.upd (Keep.updO (Keep.upd (Keep.upd (Keep.updN (Keep.updO (Keep.upd (Keep.upd (Keep.upd (Keep.upd (Keep.hav (Keep.hav (Keep.refl _ _) rfl) rfl) rfl) rfl) rfl) rfl) rfl)) rfl) rfl) rfl) rfl) rfl), i + 1, _, (by (repeat (first | exact trivial | refine ⟨rfl, ?_⟩ | refine ⟨Eq.trans rfl (congrArg Value.bool hmat.symm), ?_⟩)); (first | done | fail)), ?_, ⟨rfl, hlt, p2, c2, M ++ exCode pr.vars x', by rw [hM, exsCode_snoc _ hx', List.append_assoc], rfl⟩, (by omega)⟩
    · exact zE
  have hil : i = l.length := by omega
  subst hil
  rw [List.take_length] at hM
  refine XA.exit ?_
  refine DA.thn_exit ?_
  refine DA.thn_exit ?_
  refine DA.inb_same ?_
  refine zT ?_; refine zS ?_; refine zR ?_; refine zO rfl (Rd.fA rfl) ?_; refine zO rfl (Rd.ldC rfl (tyrow rfl) rfl) ?_; refine zO rfl (Rd.fA rfl) ?_; refine zO rfl (Rd.ldC rfl (tyrow rfl) rfl) ?_
  refine zO rfl (Rd.bl (fun _ _ => tyrow) rfl rfl rfl) ?_
  refine XOA.wr0 rfl (WrA.alloc (tyrow rfl)) ?_
  rintro _ _ _ ⟨g6, rfl, rfl, rfl⟩
  refine XOA.wr0 rfl (WrA.st (tyrow rfl) rfl) ?_
  rintro _ _ _ ⟨rfl, rfl, rfl⟩
  refine zN ?_; refine zT ?_; refine zS ?_; refine zS ?_; refine zR ?_; refine zO rfl (Rd.fA rfl) ?_; refine zO rfl (Rd.ldC rfl (tyrow rfl) rfl) ?_; refine zN ?_; refine zT ?_
  refine XA.block ?_
  refine zS ?_; refine zR ?_; refine zO rfl (Rd.eql rfl rfl) ?_; refine zO rfl Rd.asg ?_; refine zN ?_; refine zT ?_
  have hMl2 : M.length ≤ 99999 := by omega
  have hfin : L ++ exCode pr.vars (.mk op v k l) = M ++ [opIn pr.vars op v k] := by rw [hM, exCode, List.append_assoc]
  rw [hfin]
  by_cases h2 : op = 2
  · subst h2
    have hop2 : opIn pr.vars 2 v k = ⟨2, cellOf pr.vars v, 0, k⟩ := rfl
    rw [hop2]
    refine XA.condT rfl rfl ?_
    refine zR ?_; refine zO rfl Rd.mv ?_; refine zO rfl (Rd.fA rfl) ?_; refine zO rfl (Rd.ldC rfl (tyrow rfl) rfl) ?_
    refine XOA.wr0 rfl (WrA.cE (cell_i σ b _ _ _ pr v hp hz hvl) rfl) ?_
    rintro _ _ _ ⟨_, ⟨rfl, rfl, rfl⟩, rfl⟩
    refine XOA.cl ?_
    refine zO rfl (Rd.fA rfl) ?_
    refine XOA.wr0 rfl (WrA.st (tyrow rfl) rfl) ?_
    rintro _ _ _ ⟨rfl, rfl, rfl⟩
    refine zN ?_
    refine DA.inb_normal ?_
    refine zT ?_; refine zR ?_; refine zO rfl Rd.mv ?_; refine zO rfl (Rd.ldA rfl) ?_
    refine XOA.wr0 rfl (WrA.cE (put_i σ b _ _ _ _ M ⟨2, cellOf pr.vars v, 0, k⟩ (by omega)) rfl) ?_
    rintro _ _ _ ⟨_, ⟨p7, c7, rfl, rfl, rfl⟩, rfl⟩
    refine XOA.cl ?_
    refine zN ?_
    exact bodyA.normal (ResA.none rfl) zE ⟨p7, c7, rfl, rfl, rfl⟩
  · by_cases h3 : op = 3
    · subst h3
      obtain ⟨hv0, hv1⟩ := hvr (.inr rfl)
      obtain ⟨vx, hvx⟩ : ∃ vx, pr.vars[v.toNat]? = some vx := ⟨_, List.getElem?_eq_getElem (by omega)⟩
      have hop3 : opIn pr.vars 3 v k = ⟨3, cellOf pr.vars v, vx.size, k⟩ := by rw [opIn, sizeV, hvx]; rfl
      rw [hop3]
      have hp0 := hp
      obtain ⟨vs', bs', heq, hpv, hpb⟩ := hp
      simp only [List.cons.injEq, and_true] at heq
      obtain ⟨rfl, rfl⟩ := heq
      obtain ⟨gg, oo, rowv, rfl, ⟨rfl, ⟨hz0, hz1⟩, hnm⟩, hrl, hrow⟩ := hpv.at hvx
      have r1 : PRow σ gg (oo + v.toNat * 2 + 1) [i64 vx.size] := hrow.sub (j := 1) rfl
      refine XA.condF rfl (by decide) ?_
      refine zS ?_; refine zR ?_; refine zO rfl (Rd.eql rfl rfl) ?_; refine zO rfl Rd.asg ?_; refine zN ?_; refine zT ?_
      refine XA.condT rfl rfl ?_
      refine XA.draw (by kernel_rfl) _ _ [17] [(0, .pu), (1, .pu), (2, .rd), (4, .pu), (5, .pu), (6, .pu), (7, .pu), (8, .rd), (9, .pu), (10, .rd), (11, .pu), (12, .pu), (13, .rd), (3, .wr), (14, .pu), (15, .wr), (16, .pu), (17, .wr)] (by kernel_rfl) (PH.sub.refl _) (Ent.sel (R := blk b _ _) (by ((repeat (first | with_reducible exact Sel.head | apply Sel.tail)); (first | done | fail))) (Ent.sel (R := blk g3 _ _) (by ((repeat (first | with_reducible exact Sel.head | apply Sel.tail)); (first | done | fail))) (Ent.nil _))) ?_
      refine XPA.pu rfl rfl Gd.free Rd.mv ?_
      refine XPA.pu rfl rfl Gd.free (Rd.fA rfl) ?_
      refine XPA.rd rfl rfl Gd.free (Rd.ldC rfl (tyrow rfl) rfl) ?_
      refine XPA.pu rfl rfl Gd.free Rd.mv ?_
      refine XPA.pu rfl rfl Gd.free (Rd.nilCheck rfl) ?_
      refine XPA.pu rfl rfl Gd.free (Rd.fA rfl) ?_
      refine XPA.pu rfl rfl Gd.free (Rd.fA rfl) ?_
      refine XPA.rd rfl rfl Gd.free (Rd.ldC rfl (tyrow rfl) rfl) ?_
      refine XPA.pu rfl rfl Gd.free (Rd.fA rfl) ?_
      refine XPA.rd rfl rfl Gd.free (Rd.ldC rfl (tyrow rfl) rfl) ?_
      refine XPA.pu rfl rfl Gd.free (Rd.ixS rfl rfl) ?_
      refine XPA.pu rfl rfl Gd.free (Rd.fA rfl) ?_
      refine XPA.rd rfl rfl Gd.free (Rd.ldC rfl (tyrow rfl) rfl) ?_
      refine XPA.wr0 rfl rfl Gd.free (WrA.cE (cell_i σ b _ _ _ pr v hp0 hz hvl) rfl) ?_
      rintro _ _ _ ⟨_, ⟨rfl, rfl, rfl⟩, rfl⟩
      refine stays (XPA.cl ?_)
      refine XPA.pu rfl rfl Gd.free (Rd.fA rfl) ?_
      refine XPA.wr0 rfl rfl Gd.free (WrA.st (tyrow rfl) rfl) ?_
      rintro _ _ _ ⟨rfl, rfl, rfl⟩
      refine stays ?_
      refine XPA.pu rfl rfl Gd.free (Rd.fA rfl) ?_
      refine XPA.wrZ0 rfl rfl Gd.free (by kernel_rfl) (WrA.st (tyrow rfl) rfl) ?_
      rintro _ _ _ ⟨rfl, rfl, rfl⟩
      refine XPA.nil ?_
      refine DA.inb_normal ?_
      refine zT ?_; refine zR ?_; refine zO rfl Rd.mv ?_; refine zO rfl (Rd.ldA rfl) ?_
      refine XOA.wr0 rfl (WrA.cE (put_i σ b _ _ _ _ M ⟨3, cellOf pr.vars v, vx.size, k⟩ (by omega)) rfl) ?_
      rintro _ _ _ ⟨_, ⟨p7, c7, rfl, rfl, rfl⟩, rfl⟩
      refine XOA.cl ?_
      refine zN ?_
      exact bodyA.normal (ResA.none rfl) zE ⟨p7, c7, rfl, rfl, rfl⟩
    · have hop4 : opIn pr.vars op v k = ⟨op, 0, 0, k⟩ := by rw [opIn, if_neg (by omega), if_neg h3]
      rw [hop4]
      refine XA.condF rfl (decide_eq_false h2) ?_
      refine zS ?_; refine zR ?_; refine zO rfl (Rd.eql rfl rfl) ?_; refine zO rfl Rd.asg ?_; refine zN ?_; refine zT ?_
      refine XA.condF rfl (decide_eq_false h3) ?_
      refine XA.skip ?_
      refine DA.inb_normal ?_
      refine zT ?_; refine zR ?_; refine zO rfl Rd.mv ?_; refine zO rfl (Rd.ldA rfl) ?_
      refine XOA.wr0 rfl (WrA.cE (put_i σ b _ _ _ _ M ⟨op, 0, 0, k⟩ (by omega)) rfl) ?_
      rintro _ _ _ ⟨_, ⟨p7, c7, rfl, rfl, rfl⟩, rfl⟩
      refine XOA.cl ?_
      refine zN ?_
      exact bodyA.normal (ResA.none rfl) zE ⟨p7, c7, rfl, rfl, rfl⟩
end Go.Proofs.Ytmnmcjdgnpgchaa

namespace Go.Proofs.Ytmnmcjdgnpgchaa
open Go X
set_option maxHeartbeats 1000000
theorem lst_openW {e size n c : Nat} {p : Option Addr} {xs : List Value} (hn : 0 < n) : ∀ m, lst e size (.slice p n c) n xs m → ∃ x : Nat × List Value, (p = some ⟨x.1, 0, none⟩ ∧ n ≤ c ∧ c ≤ maxLen ∧ xs.length = n * size ∧ c * size ≤ (xs ++ x.2).length) ∧ Sat [blk x.1 (xs ++ x.2) e] m := by
  rintro m ⟨h1, ⟨h2, rfl⟩ | ⟨g, cap, h2, cur, h3, h4, h5, h6, h7⟩⟩
  · exact absurd hn (Nat.lt_irrefl _)
  · simp only [Value.slice.injEq] at h2
    obtain ⟨rfl, -, rfl⟩ := h2
    refine ⟨(g, cur.drop (n * size)), ⟨rfl, h4, h5, h1, ?_⟩, m, PH.none, ?_, trivial, PH.none_dis m, .refl m, PH.none_sub m⟩
    · rw [← h7, List.take_append_drop]; exact h6
    · rw [← h7, List.take_append_drop]; exact h3
theorem lst_close {e size n c g : Nat} {xs rest : List Value} (hl : xs.length = n * size) (hn : n ≤ c) (hm : c ≤ maxLen) (hc : c * size ≤ (xs ++ rest).length) : ∀ m, Sat [blk g (xs ++ rest) e] m → lst e size (.slice (some ⟨g, 0, none⟩) n c) n xs m := fun m h =>
  ⟨hl, .inr ⟨g, c, rfl, xs ++ rest, of_sat1 blk_mono h, hn, hm, hc, by rw [← hl]; simp⟩⟩
theorem insC_patch (A Z : List In) (x : In) (v : Int) (rest : List Value) : splice (insC (A ++ x :: Z) ++ rest) (A.length * 4 + 1) [i64 v] = insC (A ++ { x with a := v } :: Z) ++ rest := by
  have e1 : insC (A ++ x :: Z) ++ rest = (insC A ++ [i64 x.op]) ++ i64 x.a :: ([i64 x.b, i64 x.n] ++ insC Z ++ rest) := by simp [insC, inC]
  have e2 : insC (A ++ { x with a := v } :: Z) ++ rest = (insC A ++ [i64 x.op]) ++ i64 v :: ([i64 x.b, i64 x.n] ++ insC Z ++ rest) := by simp [insC, inC]
  have e3 : (insC A ++ [i64 x.op]).length = A.length * 4 + 1 := by rw [List.length_append, insC_len]; rfl
  rw [e1, e2, splice, ← e3, List.take_left, List.append_assoc]
  congr 1
  rw [List.length_singleton, List.drop_length_add_append]; rfl
theorem stCode_5 (vs : List Va) (v : Int) (e f : Ex) (body els : List St) (k : Nat) : stCode vs (.mk 5 v e f body els) k = exCode vs e ++ [⟨13, (k + (exCode vs e).length + 1 + (stsCode vs body (k + (exCode vs e).length + 1)).length + 1 : Nat), 0, 0⟩] ++ stsCode vs body (k + (exCode vs e).length + 1) ++ [⟨14, (k : Nat), 0, 0⟩] := by rw [stCode]; rfl
theorem stCode_6 (vs : List Va) (v : Int) (e f : Ex) (body els : List St) (k : Nat) : stCode vs (.mk 6 v e f body els) k = exCode vs e ++ [⟨13, (k + (exCode vs e).length + 1 + (stsCode vs body (k + (exCode vs e).length + 1)).length + 1 : Nat), 0, 0⟩] ++ stsCode vs body (k + (exCode vs e).length + 1) ++ [⟨14, (k + (exCode vs e).length + 1 + (stsCode vs body (k + (exCode vs e).length + 1)).length + 1 + (stsCode vs els (k + (exCode vs e).length + 1 + (stsCode vs body (k + (exCode vs e).length + 1)).length + 1)).length : Nat), 0, 0⟩] ++ stsCode vs els (k + (exCode vs e).length + 1 + (stsCode vs body (k + (exCode vs e).length + 1)).length + 1) := by rw [stCode]; rfl
def StmtI (σ : PH) (pr : Pr) (x : St) : Prop := ∀ (cs : List Value) (b : Nat) (pv : Option Addr) (cv : Nat) (bs : Value) (p : Option Addr) (c : Nat) (L : List In),
  PrAt σ [.slice pv pr.vars.length cv, bs] pr → StAt σ cs x → StV pr.vars.length x → L.length + stN x ≤ 100000 →
  CallsA Try.prog 72 #[ptr b, .agg cs.toArray] σ [blk b [.slice pv pr.vars.length cv, bs, .slice p (L).length c] 100, lst 104 4 (.slice p (L).length c) (L).length (insC (L))]
    (RetA fun v σ' Γ' => ∃ p' c', v = .tuple #[] ∧ σ = σ' ∧ Γ' = [blk b [.slice pv pr.vars.length cv, bs, .slice p' (L ++ stCode pr.vars x L.length).length c'] 100, lst 104 4 (.slice p' (L ++ stCode pr.vars x L.length).length c') (L ++ stCode pr.vars x L.length).length (insC (L ++ stCode pr.vars x L.length))])
theorem stsN_mem : ∀ {l : List St} {x : St}, x ∈ l → stN x ≤ stsN l
  | y :: l, x, h => by
    rw [stsN]
    rcases List.mem_cons.1 h with rfl | h
    · omega
    · have := stsN_mem h; omega
theorem list_i (σ : PH) (pr : Pr) (l : List St) (ih : ∀ x ∈ l, StmtI σ pr x) (sl : Value) (b : Nat) (pv : Option Addr) (cv : Nat) (bs : Value) (p : Option Addr) (c : Nat) (L : List In)
    (hp : PrAt σ [.slice pv pr.vars.length cv, bs] pr) (hl : PSl 12 StAt σ sl l) (hsV : StsV pr.vars.length l) (hN : L.length + stsN l ≤ 100000) :
    CallsA Try.prog 42 #[ptr b, sl] σ [blk b [.slice pv pr.vars.length cv, bs, .slice p (L).length c] 100, lst 104 4 (.slice p (L).length c) (L).length (insC (L))]
      (RetA fun v σ' Γ' => ∃ p' c', v = .tuple #[] ∧ σ = σ' ∧ Γ' = [blk b [.slice pv pr.vars.length cv, bs, .slice p' (L ++ stsCode pr.vars l L.length).length c'] 100, lst 104 4 (.slice p' (L ++ stsCode pr.vars l L.length).length c') (L ++ stsCode pr.vars l L.length).length (insC (L ++ stsCode pr.vars l L.length))]) := by
  obtain ⟨pl, cl, rfl, hle, hmx⟩ := hl.shape
  have hlen : l.length ≤ 100000 := by have := stsN_len l; omega
  refine enterA2 Try.func42 rfl rfl rfl ?_
  refine zS ?_; refine zR ?_; refine zO rfl Rd.mv ?_; refine zO rfl (Rd.lenSlice (tyrow rfl) rfl rfl) ?_; refine zO rfl Rd.mv ?_; refine zN ?_; refine zT ?_
  refine XA.block ?_
  refine XA.gen [(0, _), (6, _), (7, _), (8, _)] ⟨(by with_reducible (conv => lhs; whnf)), (by with_reducible (conv => lhs; whnf)), (by with_reducible (conv => lhs; whnf)), (by with_reducible (conv => lhs; whnf)), trivial⟩ (fun δ => ?_)
  dsimp only [List.foldl]
  refine XA.loop [(5, 5), (8, 15)] (fun i : Nat => [(8, i64 i)]) (fun i σ' Γ' => σ = σ' ∧ i ≤ l.length ∧ ∃ (p' : Option Addr) (c' : Nat) (M : List In), M = L ++ stsCode pr.vars (l.take i) L.length ∧ Γ' = [blk b [.slice pv pr.vars.length cv, bs, .slice p' (M).length c'] 100, lst 104 4 (.slice p' (M).length c') (M).length (insC (M))]) (fun i => l.length - i) 0 (by exact ⟨rfl, trivial⟩) (Δ0 := _) ?_ (⟨rfl, Nat.zero_le _, p, c, L, by simp [stsCode], rfl⟩) ?_
  · exact zE
  rintro i δ _ _ ⟨rfl, hi, p', c', M, hM, rfl⟩
  dsimp only [ovr, List.foldl]
  have hMl : M.length + stsN (l.drop i) ≤ 100000 := by
    have h2 := stsN_app (l.take i) (l.drop i); rw [List.take_append_drop] at h2
    have h3 := stsCode_len pr.vars (l.take i) L.length
    rw [hM, List.length_append]; omega
  refine zS ?_; refine zR ?_; refine zO rfl (Rd.lss rfl rfl) ?_; refine zN ?_; refine zT ?_; refine zS ?_
  refine XA.condp rfl (fun hlt => ?_) (fun hlt => ?_)
  · have hlt : i < l.length := by omega
    obtain ⟨x', hx'⟩ : ∃ x', l[i]? = some x' := ⟨_, List.getElem?_eq_getElem hlt⟩
    obtain ⟨g, o, row, rfl, hrx, hrl, hrow⟩ := hl.at hx'
    have hmem := List.mem_of_getElem? hx'
    have hone := hrx.ones
    have hdx : l.drop i = x' :: l.drop (i + 1) := drop_get hx'
    have hNx : stN x' ≤ stsN (l.drop i) := stsN_mem (by rw [hdx]; simp)
    refine XA.skip ?_
    refine zT ?_; refine zS ?_
    refine XA.block ?_
    refine zS ?_; refine zR ?_
    refine zO rfl (Rd.ixS rfl rfl) ?_
    refine zO rfl (Rd.ldA rfl) ?_
    refine XOA.wr0 rfl (WrA.alloc (tyrow rfl)) ?_
    rintro _ _ _ ⟨g5, rfl, rfl, rfl⟩
    refine XOA.wr0 rfl (WrA.st (tyrow rfl) rfl) ?_
    rintro _ _ _ ⟨rfl, rfl, rfl⟩
    refine zN ?_; refine zT ?_; refine zR ?_; refine zO rfl Rd.mv ?_; refine zO rfl (Rd.ldA rfl) ?_
    refine XOA.wr0 rfl (WrA.cE (ih x' hmem row b pv cv bs p' c' M hp hrx (hsV.mem x' hmem) (by omega)) rfl) ?_
    rintro _ _ _ ⟨_, ⟨p2, c2, rfl, rfl, rfl⟩, rfl⟩
    refine XOA.cl ?_
    refine zN ?_
    refine DA.inb_normal ?_
    refine zT ?_; refine zR ?_
    refine zO rfl (by first | exact Rd.adi rfl rfl | exact Rd.add rfl rfl) ?_
    refine zO rfl Rd.mv ?_; refine zN ?_; refine zT ?_
    refine ⟨(Keep.upd (Keep.upd (Keep.updO (Keep.upd (Keep.upd (Keep.updN (Keep.updO (Keep.upd (Keep.upd (Keep.upd (Keep.upd (Keep.hav (Keep.hav (Keep.refl _ _) rfl) rfl) rfl) rfl) rfl) rfl) rfl)) rfl) rfl) rfl) rfl) rfl), i + 1, _, (by (repeat (first | exact trivial | refine ⟨rfl, ?_⟩ | refine ⟨Eq.trans rfl (congrArg Value.bool hmat.symm), ?_⟩)); (first | done | fail)), ?_, ⟨rfl, hlt, p2, c2, M ++ stCode pr.vars x' M.length, by rw [hM, stsCode_snoc _ hx', List.append_assoc, List.length_append], rfl⟩, (by omega)⟩
    · exact zE
  have hil : i = l.length := by omega
  subst hil
  rw [List.take_length] at hM
  rw [← hM]
  refine XA.exit ?_
  refine DA.thn_exit ?_
  refine DA.thn_exit ?_
  refine DA.inb_same ?_
  exact bodyA.normal (ResA.none rfl) zE ⟨p', c', rfl, rfl, rfl⟩
theorem stmt_i (σ : PH) (pr : Pr) (hz : ∀ x ∈ pr.vars, 0 ≤ x.size ∧ x.size ≤ 1000) (hvl : pr.vars.length ≤ 1000) (x : St) : StmtI σ pr x := by
  refine St.ind (P := StmtI σ pr) ?_ x
  intro op v ex fx body els ih jh cs b pv cv bs p c L hp hx hV hN
  obtain ⟨pe, de, pf, df, pb, cb, pl, cl, rfl, -, -, hxe, hxf, hxb, hxl⟩ := hx.inv12
  simp only [St.op, St.v, St.e, St.f, St.body, St.els] at hxe hxf hxb hxl ⊢
  clear hx
  rw [StV] at hV
  obtain ⟨hop, hv, he, hf, -, -, hsb, hse⟩ := hV
  rw [stN] at hN
  have hlE := exCode_len pr.vars ex
  have hlF := exCode_len pr.vars fx
  have e1 := exN_pos ex
  have e2 := exN_pos fx
  have hops : op = 1 ∨ op = 2 ∨ op = 3 ∨ op = 4 ∨ op = 7 ∨ op = 5 ∨ op = 6 := by omega
  rcases hops with rfl | rfl | rfl | rfl | rfl | h56
  · have hc : stCode pr.vars (.mk 1 v ex fx body els) L.length = exCode pr.vars ex ++ [⟨9, cellOf pr.vars v, 0, 0⟩] := by rw [stCode]; rfl
    rw [hc, ← List.append_assoc]
    refine enterA2 Try.func72 rfl rfl rfl ?_
    refine zS ?_; refine zR ?_
    refine XOA.wr0 rfl WrA.bx ?_
    rintro _ _ _ ⟨g3, rfl, rfl, rfl⟩
    refine zN ?_; refine zT ?_; refine zS ?_; refine zR ?_; refine zO rfl Rd.mv ?_; refine zO rfl (Rd.nilCheck rfl) ?_; refine zO rfl (Rd.fA rfl) ?_; refine zO rfl (Rd.ldC rfl (tyrow rfl) rfl) ?_; refine zO rfl (Rd.lenSlice (tyrow rfl) rfl rfl) ?_; refine zO rfl Rd.asg ?_; refine zN ?_; refine zT ?_; refine zS ?_
    refine zS ?_; refine zR ?_; refine zO rfl (Rd.fA rfl) ?_; refine zO rfl (Rd.ldC rfl (tyrow rfl) rfl) ?_
    refine XOA.wr0 rfl (WrA.cE (chas_a σ 1) rfl) ?_
    rintro _ _ _ ⟨_, ⟨rfl, rfl, rfl⟩, rfl⟩
    refine XOA.cl ?_
    refine zO rfl Rd.mv ?_
    refine zO rfl (Rd.extract rfl rfl) ?_
    refine zO rfl (Rd.extract rfl rfl) ?_
    refine zO rfl (Rd.extract rfl rfl) ?_
    refine zO rfl (Rd.extract rfl rfl) ?_
    refine zO rfl (Rd.extract rfl rfl) ?_
    refine zO rfl Rd.asg ?_; refine zO rfl Rd.asg ?_; refine zO rfl Rd.asg ?_; refine zO rfl Rd.asg ?_; refine zO rfl Rd.asg ?_; refine zN ?_; refine zT ?_; refine zS ?_; refine zR ?_; refine zO rfl Rd.mv ?_; refine zN ?_; refine zT ?_
    refine XA.condT rfl rfl ?_
    refine zR ?_; refine zO rfl Rd.mv ?_; refine zO rfl (Rd.fA rfl) ?_; refine zO rfl (Rd.ldA rfl) ?_
    refine XOA.wr0 rfl (WrA.cE (expr_i σ pr hz hvl ex _ b pv cv bs p c (L) hp hxe (he rfl).1 (by first | omega | (simp only [List.length_append, List.length_singleton]; omega))) rfl) ?_
    rintro _ _ _ ⟨_, ⟨p2, c2, rfl, rfl, rfl⟩, rfl⟩
    refine XOA.cl ?_
    refine zN ?_; refine zT ?_; refine zS ?_; refine zR ?_; refine zO rfl (Rd.fA rfl) ?_; refine zO rfl (Rd.ldC rfl (tyrow rfl) rfl) ?_; refine zN ?_; refine zT ?_
    refine XA.block ?_
    refine zS ?_; refine zR ?_; refine zO rfl (Rd.eql rfl rfl) ?_; refine zO rfl Rd.asg ?_; refine zN ?_; refine zT ?_
    refine XA.condT rfl rfl ?_
    refine zR ?_; refine zO rfl Rd.mv ?_; refine zO rfl Rd.mv ?_; refine zO rfl (Rd.fA rfl) ?_; refine zO rfl (Rd.ldC rfl (tyrow rfl) rfl) ?_
    refine XOA.wr0 rfl (WrA.cE (cell_i σ b _ _ _ pr v hp hz hvl) rfl) ?_
    rintro _ _ _ ⟨_, ⟨rfl, rfl, rfl⟩, rfl⟩
    refine XOA.cl ?_
    refine zO rfl (Rd.bl (fun _ _ => tyrow) rfl rfl rfl) ?_
    refine XOA.wr0 rfl (WrA.cE (put_i σ b _ _ _ _ (L ++ exCode pr.vars ex) ⟨9, cellOf pr.vars v, 0, 0⟩ (by first | omega | (simp only [List.length_append, List.length_singleton]; omega))) rfl) ?_
    rintro _ _ _ ⟨_, ⟨p7, c7, rfl, rfl, rfl⟩, rfl⟩
    refine XOA.cl ?_
    refine zN ?_
    refine DA.inb_normal ?_
    exact bodyA.normal (ResA.none rfl) zE ⟨p7, c7, rfl, rfl, rfl⟩
  · obtain ⟨hv0, hv1⟩ := hv rfl
    obtain ⟨vx, hvx⟩ : ∃ vx, pr.vars[v.toNat]? = some vx := ⟨_, List.getElem?_eq_getElem (by omega)⟩
    have hc : stCode pr.vars (.mk 2 v ex fx body els) L.length = exCode pr.vars ex ++ exCode pr.vars fx ++ [⟨10, cellOf pr.vars v, vx.size, 0⟩] := by rw [stCode, sizeV, hvx]; rfl
    rw [hc, ← List.append_assoc, ← List.append_assoc]
    have hp0 := hp
    obtain ⟨vs', bs', heq, hpv, hpb⟩ := hp0
    simp only [List.cons.injEq, and_true] at heq
    obtain ⟨rfl, rfl⟩ := heq
    obtain ⟨gg, oo, rowv, rfl, ⟨rfl, ⟨hz0, hz1⟩, hnm⟩, hrl, hrow⟩ := hpv.at hvx
    have r1 : PRow σ gg (oo + v.toNat * 2 + 1) [i64 vx.size] := hrow.sub (j := 1) rfl
    refine enterA2 Try.func72 rfl rfl rfl ?_
    refine zS ?_; refine zR ?_
    refine XOA.wr0 rfl WrA.bx ?_
    rintro _ _ _ ⟨g3, rfl, rfl, rfl⟩
    refine zN ?_; refine zT ?_; refine zS ?_; refine zR ?_; refine zO rfl Rd.mv ?_; refine zO rfl (Rd.nilCheck rfl) ?_; refine zO rfl (Rd.fA rfl) ?_; refine zO rfl (Rd.ldC rfl (tyrow rfl) rfl) ?_; refine zO rfl (Rd.lenSlice (tyrow rfl) rfl rfl) ?_; refine zO rfl Rd.asg ?_; refine zN ?_; refine zT ?_; refine zS ?_
    refine zS ?_; refine zR ?_; refine zO rfl (Rd.fA rfl) ?_; refine zO rfl (Rd.ldC rfl (tyrow rfl) rfl) ?_
    refine XOA.wr0 rfl (WrA.cE (chas_a σ 2) rfl) ?_
    rintro _ _ _ ⟨_, ⟨rfl, rfl, rfl⟩, rfl⟩
    refine XOA.cl ?_
    refine zO rfl Rd.mv ?_
    refine zO rfl (Rd.extract rfl rfl) ?_
    refine zO rfl (Rd.extract rfl rfl) ?_
    refine zO rfl (Rd.extract rfl rfl) ?_
    refine zO rfl (Rd.extract rfl rfl) ?_
    refine zO rfl (Rd.extract rfl rfl) ?_
    refine zO rfl Rd.asg ?_; refine zO rfl Rd.asg ?_; refine zO rfl Rd.asg ?_; refine zO rfl Rd.asg ?_; refine zO rfl Rd.asg ?_; refine zN ?_; refine zT ?_; refine zS ?_; refine zR ?_; refine zO rfl Rd.mv ?_; refine zN ?_; refine zT ?_
    refine XA.condT rfl rfl ?_
    refine zR ?_; refine zO rfl Rd.mv ?_; refine zO rfl (Rd.fA rfl) ?_; refine zO rfl (Rd.ldA rfl) ?_
    refine XOA.wr0 rfl (WrA.cE (expr_i σ pr hz hvl ex _ b _ cv bs p c (L) hp hxe (he rfl).1 (by first | omega | (simp only [List.length_append, List.length_singleton]; omega))) rfl) ?_
    rintro _ _ _ ⟨_, ⟨p2, c2, rfl, rfl, rfl⟩, rfl⟩
    refine XOA.cl ?_
    refine zN ?_; refine zT ?_; refine zS ?_; refine zR ?_; refine zO rfl (Rd.fA rfl) ?_; refine zO rfl (Rd.ldC rfl (tyrow rfl) rfl) ?_; refine zN ?_; refine zT ?_
    refine XA.block ?_
    refine zS ?_; refine zR ?_; refine zO rfl (Rd.eql rfl rfl) ?_; refine zO rfl Rd.asg ?_; refine zN ?_; refine zT ?_
    refine XA.condF rfl rfl ?_
    refine zS ?_; refine zR ?_; refine zO rfl (Rd.eql rfl rfl) ?_; refine zO rfl Rd.asg ?_; refine zN ?_; refine zT ?_
    refine XA.condT rfl rfl ?_
    refine zS ?_; refine zR ?_; refine zO rfl Rd.mv ?_; refine zO rfl (Rd.fA rfl) ?_; refine zO rfl (Rd.ldA rfl) ?_
    refine XOA.wr0 rfl (WrA.cE (expr_i σ pr hz hvl fx _ b _ cv bs p2 c2 (L ++ exCode pr.vars ex) hp hxf (hf rfl).1 (by first | omega | (simp only [List.length_append, List.length_singleton]; omega))) rfl) ?_
    rintro _ _ _ ⟨_, ⟨p3, c3, rfl, rfl, rfl⟩, rfl⟩
    refine XOA.cl ?_
    refine zN ?_; refine zT ?_
    refine XA.draw (by kernel_rfl) _ _ [16] [(0, .pu), (1, .pu), (2, .pu), (3, .rd), (5, .pu), (6, .pu), (7, .pu), (8, .pu), (9, .rd), (10, .pu), (11, .rd), (12, .pu), (13, .pu), (14, .rd), (4, .wr), (15, .pu), (16, .wr)] (by kernel_rfl) (PH.sub.refl _) (Ent.sel (R := blk b _ _) (by ((repeat (first | with_reducible exact Sel.head | apply Sel.tail)); (first | done | fail))) (Ent.sel (R := blk g3 _ _) (by ((repeat (first | with_reducible exact Sel.head | apply Sel.tail)); (first | done | fail))) (Ent.nil _))) ?_
    refine XPA.pu rfl rfl Gd.free Rd.mv ?_
    refine XPA.pu rfl rfl Gd.free Rd.mv ?_
    refine XPA.pu rfl rfl Gd.free (Rd.fA rfl) ?_
    refine XPA.rd rfl rfl Gd.free (Rd.ldC rfl (tyrow rfl) rfl) ?_
    refine XPA.pu rfl rfl Gd.free Rd.mv ?_
    refine XPA.pu rfl rfl Gd.free (Rd.nilCheck rfl) ?_
    refine XPA.pu rfl rfl Gd.free (Rd.fA rfl) ?_
    refine XPA.pu rfl rfl Gd.free (Rd.fA rfl) ?_
    refine XPA.rd rfl rfl Gd.free (Rd.ldC rfl (tyrow rfl) rfl) ?_
    refine XPA.pu rfl rfl Gd.free (Rd.fA rfl) ?_
    refine XPA.rd rfl rfl Gd.free (Rd.ldC rfl (tyrow rfl) rfl) ?_
    refine XPA.pu rfl rfl Gd.free (Rd.ixS rfl rfl) ?_
    refine XPA.pu rfl rfl Gd.free (Rd.fA rfl) ?_
    refine XPA.rd rfl rfl Gd.free (Rd.ldC rfl (tyrow rfl) rfl) ?_
    refine XPA.wr0 rfl rfl Gd.free (WrA.cE (cell_i σ b _ _ _ pr v hp hz hvl) rfl) ?_
    rintro _ _ _ ⟨_, ⟨rfl, rfl, rfl⟩, rfl⟩
    refine stays (XPA.cl ?_)
    refine XPA.pu rfl rfl Gd.free (Rd.bl (fun _ _ => tyrow) rfl rfl rfl) ?_
    refine XPA.wrZ0 rfl rfl Gd.free (by kernel_rfl) (WrA.cE (put_i σ b _ _ _ _ (L ++ exCode pr.vars ex ++ exCode pr.vars fx) ⟨10, cellOf pr.vars v, vx.size, 0⟩ (by first | omega | (simp only [List.length_append, List.length_singleton]; omega))) rfl) ?_
    rintro _ _ _ ⟨_, ⟨p7, c7, rfl, rfl, rfl⟩, rfl⟩
    refine XPA.cl ?_
    refine XPA.nil ?_
    refine DA.inb_normal ?_
    exact bodyA.normal (ResA.none rfl) zE ⟨p7, c7, rfl, rfl, rfl⟩
  · have hc : stCode pr.vars (.mk 3 v ex fx body els) L.length = exCode pr.vars ex ++ [⟨11, 0, 0, 0⟩] := by rw [stCode]; rfl
    rw [hc, ← List.append_assoc]
    refine enterA2 Try.func72 rfl rfl rfl ?_
    refine zS ?_; refine zR ?_
    refine XOA.wr0 rfl WrA.bx ?_
    rintro _ _ _ ⟨g3, rfl, rfl, rfl⟩
    refine zN ?_; refine zT ?_; refine zS ?_; refine zR ?_; refine zO rfl Rd.mv ?_; refine zO rfl (Rd.nilCheck rfl) ?_; refine zO rfl (Rd.fA rfl) ?_; refine zO rfl (Rd.ldC rfl (tyrow rfl) rfl) ?_; refine zO rfl (Rd.lenSlice (tyrow rfl) rfl rfl) ?_; refine zO rfl Rd.asg ?_; refine zN ?_; refine zT ?_; refine zS ?_
    refine zS ?_; refine zR ?_; refine zO rfl (Rd.fA rfl) ?_; refine zO rfl (Rd.ldC rfl (tyrow rfl) rfl) ?_
    refine XOA.wr0 rfl (WrA.cE (chas_a σ 3) rfl) ?_
    rintro _ _ _ ⟨_, ⟨rfl, rfl, rfl⟩, rfl⟩
    refine XOA.cl ?_
    refine zO rfl Rd.mv ?_
    refine zO rfl (Rd.extract rfl rfl) ?_
    refine zO rfl (Rd.extract rfl rfl) ?_
    refine zO rfl (Rd.extract rfl rfl) ?_
    refine zO rfl (Rd.extract rfl rfl) ?_
    refine zO rfl (Rd.extract rfl rfl) ?_
    refine zO rfl Rd.asg ?_; refine zO rfl Rd.asg ?_; refine zO rfl Rd.asg ?_; refine zO rfl Rd.asg ?_; refine zO rfl Rd.asg ?_; refine zN ?_; refine zT ?_; refine zS ?_; refine zR ?_; refine zO rfl Rd.mv ?_; refine zN ?_; refine zT ?_
    refine XA.condT rfl rfl ?_
    refine zR ?_; refine zO rfl Rd.mv ?_; refine zO rfl (Rd.fA rfl) ?_; refine zO rfl (Rd.ldA rfl) ?_
    refine XOA.wr0 rfl (WrA.cE (expr_i σ pr hz hvl ex _ b pv cv bs p c (L) hp hxe (he rfl).1 (by first | omega | (simp only [List.length_append, List.length_singleton]; omega))) rfl) ?_
    rintro _ _ _ ⟨_, ⟨p2, c2, rfl, rfl, rfl⟩, rfl⟩
    refine XOA.cl ?_
    refine zN ?_; refine zT ?_; refine zS ?_; refine zR ?_; refine zO rfl (Rd.fA rfl) ?_; refine zO rfl (Rd.ldC rfl (tyrow rfl) rfl) ?_; refine zN ?_; refine zT ?_
    refine XA.block ?_
    refine zS ?_; refine zR ?_; refine zO rfl (Rd.eql rfl rfl) ?_; refine zO rfl Rd.asg ?_; refine zN ?_; refine zT ?_
    refine XA.condF rfl rfl ?_
    refine zS ?_; refine zR ?_; refine zO rfl (Rd.eql rfl rfl) ?_; refine zO rfl Rd.asg ?_; refine zN ?_; refine zT ?_
    refine XA.condF rfl rfl ?_
    refine zS ?_; refine zR ?_; refine zO rfl (Rd.eql rfl rfl) ?_; refine zO rfl Rd.asg ?_; refine zN ?_; refine zT ?_
    refine XA.condT rfl rfl ?_
    refine zR ?_; refine zO rfl Rd.mv ?_
    refine zO rfl (Rd.bl (fun _ _ => tyrow) rfl rfl rfl) ?_
    refine XOA.wr0 rfl (WrA.cE (put_i σ b _ _ _ _ (L ++ exCode pr.vars ex) ⟨11, 0, 0, 0⟩ (by first | omega | (simp only [List.length_append, List.length_singleton]; omega))) rfl) ?_
    rintro _ _ _ ⟨_, ⟨p7, c7, rfl, rfl, rfl⟩, rfl⟩
    refine XOA.cl ?_
    refine zN ?_
    refine DA.inb_normal ?_
    exact bodyA.normal (ResA.none rfl) zE ⟨p7, c7, rfl, rfl, rfl⟩
  · have hc : stCode pr.vars (.mk 4 v ex fx body els) L.length = [⟨12, cellOf pr.vars v, 0, 0⟩] := by rw [stCode]; rfl
    rw [hc]
    refine enterA2 Try.func72 rfl rfl rfl ?_
    refine zS ?_; refine zR ?_
    refine XOA.wr0 rfl WrA.bx ?_
    rintro _ _ _ ⟨g3, rfl, rfl, rfl⟩
    refine zN ?_; refine zT ?_; refine zS ?_; refine zR ?_; refine zO rfl Rd.mv ?_; refine zO rfl (Rd.nilCheck rfl) ?_; refine zO rfl (Rd.fA rfl) ?_; refine zO rfl (Rd.ldC rfl (tyrow rfl) rfl) ?_; refine zO rfl (Rd.lenSlice (tyrow rfl) rfl rfl) ?_; refine zO rfl Rd.asg ?_; refine zN ?_; refine zT ?_; refine zS ?_
    refine zS ?_; refine zR ?_; refine zO rfl (Rd.fA rfl) ?_; refine zO rfl (Rd.ldC rfl (tyrow rfl) rfl) ?_
    refine XOA.wr0 rfl (WrA.cE (chas_a σ 4) rfl) ?_
    rintro _ _ _ ⟨_, ⟨rfl, rfl, rfl⟩, rfl⟩
    refine XOA.cl ?_
    refine zO rfl Rd.mv ?_
    refine zO rfl (Rd.extract rfl rfl) ?_
    refine zO rfl (Rd.extract rfl rfl) ?_
    refine zO rfl (Rd.extract rfl rfl) ?_
    refine zO rfl (Rd.extract rfl rfl) ?_
    refine zO rfl (Rd.extract rfl rfl) ?_
    refine zO rfl Rd.asg ?_; refine zO rfl Rd.asg ?_; refine zO rfl Rd.asg ?_; refine zO rfl Rd.asg ?_; refine zO rfl Rd.asg ?_; refine zN ?_; refine zT ?_; refine zS ?_; refine zR ?_; refine zO rfl Rd.mv ?_; refine zN ?_; refine zT ?_
    refine XA.condF rfl rfl ?_
    refine XA.skip ?_
    refine zT ?_; refine zS ?_; refine zR ?_; refine zO rfl (Rd.fA rfl) ?_; refine zO rfl (Rd.ldC rfl (tyrow rfl) rfl) ?_; refine zN ?_; refine zT ?_
    refine XA.block ?_
    refine zS ?_; refine zR ?_; refine zO rfl (Rd.eql rfl rfl) ?_; refine zO rfl Rd.asg ?_; refine zN ?_; refine zT ?_
    refine XA.condF rfl rfl ?_
    refine zS ?_; refine zR ?_; refine zO rfl (Rd.eql rfl rfl) ?_; refine zO rfl Rd.asg ?_; refine zN ?_; refine zT ?_
    refine XA.condF rfl rfl ?_
    refine zS ?_; refine zR ?_; refine zO rfl (Rd.eql rfl rfl) ?_; refine zO rfl Rd.asg ?_; refine zN ?_; refine zT ?_
    refine XA.condF rfl rfl ?_
    refine zS ?_; refine zR ?_; refine zO rfl (Rd.eql rfl rfl) ?_; refine zO rfl Rd.asg ?_; refine zN ?_; refine zT ?_
    refine XA.condT rfl rfl ?_
    refine zR ?_; refine zO rfl Rd.mv ?_; refine zO rfl Rd.mv ?_; refine zO rfl (Rd.fA rfl) ?_; refine zO rfl (Rd.ldC rfl (tyrow rfl) rfl) ?_
    refine XOA.wr0 rfl (WrA.cE (cell_i σ b _ _ _ pr v hp hz hvl) rfl) ?_
    rintro _ _ _ ⟨_, ⟨rfl, rfl, rfl⟩, rfl⟩
    refine XOA.cl ?_
    refine zO rfl (Rd.bl (fun _ _ => tyrow) rfl rfl rfl) ?_
    refine XOA.wr0 rfl (WrA.cE (put_i σ b _ _ _ _ (L) ⟨12, cellOf pr.vars v, 0, 0⟩ (by first | omega | (simp only [List.length_append, List.length_singleton]; omega))) rfl) ?_
    rintro _ _ _ ⟨_, ⟨p7, c7, rfl, rfl, rfl⟩, rfl⟩
    refine XOA.cl ?_
    refine zN ?_
    refine DA.inb_normal ?_
    exact bodyA.normal (ResA.none rfl) zE ⟨p7, c7, rfl, rfl, rfl⟩
  · have hc : stCode pr.vars (.mk 7 v ex fx body els) L.length = [⟨15, 0, 0, 0⟩] := by rw [stCode]; rfl
    rw [hc]
    refine enterA2 Try.func72 rfl rfl rfl ?_
    refine zS ?_; refine zR ?_
    refine XOA.wr0 rfl WrA.bx ?_
    rintro _ _ _ ⟨g3, rfl, rfl, rfl⟩
    refine zN ?_; refine zT ?_; refine zS ?_; refine zR ?_; refine zO rfl Rd.mv ?_; refine zO rfl (Rd.nilCheck rfl) ?_; refine zO rfl (Rd.fA rfl) ?_; refine zO rfl (Rd.ldC rfl (tyrow rfl) rfl) ?_; refine zO rfl (Rd.lenSlice (tyrow rfl) rfl rfl) ?_; refine zO rfl Rd.asg ?_; refine zN ?_; refine zT ?_; refine zS ?_
    refine zS ?_; refine zR ?_; refine zO rfl (Rd.fA rfl) ?_; refine zO rfl (Rd.ldC rfl (tyrow rfl) rfl) ?_
    refine XOA.wr0 rfl (WrA.cE (chas_a σ 7) rfl) ?_
    rintro _ _ _ ⟨_, ⟨rfl, rfl, rfl⟩, rfl⟩
    refine XOA.cl ?_
    refine zO rfl Rd.mv ?_
    refine zO rfl (Rd.extract rfl rfl) ?_
    refine zO rfl (Rd.extract rfl rfl) ?_
    refine zO rfl (Rd.extract rfl rfl) ?_
    refine zO rfl (Rd.extract rfl rfl) ?_
    refine zO rfl (Rd.extract rfl rfl) ?_
    refine zO rfl Rd.asg ?_; refine zO rfl Rd.asg ?_; refine zO rfl Rd.asg ?_; refine zO rfl Rd.asg ?_; refine zO rfl Rd.asg ?_; refine zN ?_; refine zT ?_; refine zS ?_; refine zR ?_; refine zO rfl Rd.mv ?_; refine zN ?_; refine zT ?_
    refine XA.condF rfl rfl ?_
    refine XA.skip ?_
    refine zT ?_; refine zS ?_; refine zR ?_; refine zO rfl (Rd.fA rfl) ?_; refine zO rfl (Rd.ldC rfl (tyrow rfl) rfl) ?_; refine zN ?_; refine zT ?_
    refine XA.block ?_
    refine zS ?_; refine zR ?_; refine zO rfl (Rd.eql rfl rfl) ?_; refine zO rfl Rd.asg ?_; refine zN ?_; refine zT ?_
    refine XA.condF rfl rfl ?_
    refine zS ?_; refine zR ?_; refine zO rfl (Rd.eql rfl rfl) ?_; refine zO rfl Rd.asg ?_; refine zN ?_; refine zT ?_
    refine XA.condF rfl rfl ?_
    refine zS ?_; refine zR ?_; refine zO rfl (Rd.eql rfl rfl) ?_; refine zO rfl Rd.asg ?_; refine zN ?_; refine zT ?_
    refine XA.condF rfl rfl ?_
    refine zS ?_; refine zR ?_; refine zO rfl (Rd.eql rfl rfl) ?_; refine zO rfl Rd.asg ?_; refine zN ?_; refine zT ?_
    refine XA.condF rfl rfl ?_
    refine zS ?_; refine zS ?_; refine zR ?_; refine zO rfl (Rd.eql rfl rfl) ?_; refine zO rfl Rd.asg ?_; refine zN ?_; refine zT ?_
    refine XA.condF rfl rfl ?_
    refine zR ?_; refine zO rfl (Rd.eql rfl rfl) ?_; refine zO rfl Rd.asg ?_; refine zN ?_; refine zT ?_
    refine XA.condF rfl rfl ?_
    refine zS ?_; refine zR ?_; refine zO rfl (Rd.eql rfl rfl) ?_; refine zO rfl Rd.asg ?_; refine zN ?_; refine zT ?_
    refine XA.condT rfl rfl ?_
    refine zR ?_; refine zO rfl Rd.mv ?_
    refine zO rfl (Rd.bl (fun _ _ => tyrow) rfl rfl rfl) ?_
    refine XOA.wr0 rfl (WrA.cE (put_i σ b _ _ _ _ (L) ⟨15, 0, 0, 0⟩ (by first | omega | (simp only [List.length_append, List.length_singleton]; omega))) rfl) ?_
    rintro _ _ _ ⟨_, ⟨p7, c7, rfl, rfl, rfl⟩, rfl⟩
    refine XOA.cl ?_
    refine zN ?_
    refine DA.inb_normal ?_
    exact bodyA.normal (ResA.none rfl) zE ⟨p7, c7, rfl, rfl, rfl⟩
  · rcases h56 with rfl | rfl
    · obtain ⟨L1, hL1⟩ : ∃ L1, L1 = L ++ exCode pr.vars ex := ⟨_, rfl⟩
      have hL1l : L1.length = L.length + exN ex := by rw [hL1, List.length_append, hlE]
      obtain ⟨B, hB⟩ : ∃ B, B = stsCode pr.vars body (L1 ++ [(⟨13, 0, 0, 0⟩ : In)]).length := ⟨_, rfl⟩
      have hBl : B.length ≤ stsN body := by rw [hB]; exact stsCode_len _ _ _
      have hB2 : stsCode pr.vars body (L.length + (exCode pr.vars ex).length + 1) = B := by rw [hB]; congr 1; rw [List.length_append, hL1l, hlE]; rfl
      obtain ⟨O, hO⟩ : ∃ O, O = L1 ++ [(⟨13, 0, 0, 0⟩ : In)] ++ B := ⟨_, rfl⟩
      have hOl : O.length = L1.length + B.length + 1 := by rw [hO]; simp only [List.length_append, List.length_singleton]; omega
      obtain ⟨M, hM⟩ : ∃ M, M = O ++ [(⟨14, L.length, 0, 0⟩ : In)] := ⟨_, rfl⟩
      have hMl : M.length = L1.length + B.length + 2 := by rw [hM, hO]; simp only [List.length_append, List.length_singleton]; omega
      obtain ⟨M', hM'⟩ : ∃ M', M' = L1 ++ [(⟨13, M.length, 0, 0⟩ : In)] ++ B ++ [⟨14, L.length, 0, 0⟩] := ⟨_, rfl⟩
      have hMl' : M'.length = M.length := by rw [hMl, hM']; simp only [List.length_append, List.length_singleton]; omega
      have hspl0 : ∀ rest : List Value, splice (insC M ++ rest) (L1.length * 4 + 1) [i64 M.length] = insC M' ++ rest := fun rest => by
        have := insC_patch L1 (B ++ [⟨14, L.length, 0, 0⟩]) ⟨13, 0, 0, 0⟩ M.length rest
        rw [hM', hM, hO]; simp only [List.append_assoc, List.singleton_append, List.cons_append, List.nil_append] at this ⊢
        rw [hM, hO] at this; simpa only [List.append_assoc, List.singleton_append, List.cons_append, List.nil_append] using this
      have hc : L ++ stCode pr.vars (.mk 5 v ex fx body els) L.length = M' := by
        rw [stCode_5, hB2, hM', hMl, hL1l, hL1, hlE]
        simp only [List.append_assoc]
        rw [show L.length + exN ex + 1 + B.length + 1 = L.length + exN ex + B.length + 2 by omega]
      rw [hc]
      refine enterA2 Try.func72 rfl rfl rfl ?_
      refine zS ?_; refine zR ?_
      refine XOA.wr0 rfl WrA.bx ?_
      rintro _ _ _ ⟨g3, rfl, rfl, rfl⟩
      refine zN ?_; refine zT ?_; refine zS ?_; refine zR ?_; refine zO rfl Rd.mv ?_; refine zO rfl (Rd.nilCheck rfl) ?_; refine zO rfl (Rd.fA rfl) ?_; refine zO rfl (Rd.ldC rfl (tyrow rfl) rfl) ?_; refine zO rfl (Rd.lenSlice (tyrow rfl) rfl rfl) ?_; refine zO rfl Rd.asg ?_; refine zN ?_; refine zT ?_; refine zS ?_
      refine zS ?_; refine zR ?_; refine zO rfl (Rd.fA rfl) ?_; refine zO rfl (Rd.ldC rfl (tyrow rfl) rfl) ?_
      refine XOA.wr0 rfl (WrA.cE (chas_a σ 5) rfl) ?_
      rintro _ _ _ ⟨_, ⟨rfl, rfl, rfl⟩, rfl⟩
      refine XOA.cl ?_
      refine zO rfl Rd.mv ?_
      refine zO rfl (Rd.extract rfl rfl) ?_
      refine zO rfl (Rd.extract rfl rfl) ?_
      refine zO rfl (Rd.extract rfl rfl) ?_
      refine zO rfl (Rd.extract rfl rfl) ?_
      refine zO rfl (Rd.extract rfl rfl) ?_
      refine zO rfl Rd.asg ?_; refine zO rfl Rd.asg ?_; refine zO rfl Rd.asg ?_; refine zO rfl Rd.asg ?_; refine zO rfl Rd.asg ?_; refine zN ?_; refine zT ?_; refine zS ?_; refine zR ?_; refine zO rfl Rd.mv ?_; refine zN ?_; refine zT ?_
      refine XA.condT rfl rfl ?_
      refine zR ?_; refine zO rfl Rd.mv ?_; refine zO rfl (Rd.fA rfl) ?_; refine zO rfl (Rd.ldA rfl) ?_
      refine XOA.wr0 rfl (WrA.cE (expr_i σ pr hz hvl ex _ b pv cv bs p c (L) hp hxe (he rfl).1 (by first | omega | (simp only [List.length_append, List.length_singleton]; omega))) rfl) ?_
      rintro _ _ _ ⟨_, ⟨p2, c2, rfl, rfl, rfl⟩, rfl⟩
      refine XOA.cl ?_
      refine zN ?_; refine zT ?_; refine zS ?_; refine zR ?_; refine zO rfl (Rd.fA rfl) ?_; refine zO rfl (Rd.ldC rfl (tyrow rfl) rfl) ?_; refine zN ?_; refine zT ?_
      refine XA.block ?_
      refine zS ?_; refine zR ?_; refine zO rfl (Rd.eql rfl rfl) ?_; refine zO rfl Rd.asg ?_; refine zN ?_; refine zT ?_
      rw [← hL1]
      refine XA.condF rfl rfl ?_
      refine zS ?_; refine zR ?_; refine zO rfl (Rd.eql rfl rfl) ?_; refine zO rfl Rd.asg ?_; refine zN ?_; refine zT ?_
      refine XA.condF rfl rfl ?_
      refine zS ?_; refine zR ?_; refine zO rfl (Rd.eql rfl rfl) ?_; refine zO rfl Rd.asg ?_; refine zN ?_; refine zT ?_
      refine XA.condF rfl rfl ?_
      refine zS ?_; refine zR ?_; refine zO rfl (Rd.eql rfl rfl) ?_; refine zO rfl Rd.asg ?_; refine zN ?_; refine zT ?_
      refine XA.condF rfl rfl ?_
      refine zS ?_; refine zS ?_; refine zR ?_; refine zO rfl (Rd.eql rfl rfl) ?_; refine zO rfl Rd.asg ?_; refine zN ?_; refine zT ?_
      refine XA.condT rfl rfl ?_
      refine XA.skip ?_
      refine zT ?_
      refine XA.condT rfl rfl ?_
      refine zS ?_; refine zR ?_; refine zO rfl Rd.mv ?_
      refine zO rfl (Rd.bl (fun _ _ => tyrow) rfl rfl rfl) ?_
      refine XOA.wr0 rfl (WrA.cE (put_i σ b _ _ _ _ L1 ⟨13, 0, 0, 0⟩ (by omega)) rfl) ?_
      rintro _ _ _ ⟨_, ⟨p3, c3, rfl, rfl, rfl⟩, rfl⟩
      refine XOA.cl ?_
      refine zO rfl Rd.asg ?_; refine zN ?_; refine zT ?_; refine zS ?_; refine zR ?_; refine zO rfl Rd.mv ?_; refine zO rfl (Rd.fA rfl) ?_; refine zO rfl (Rd.ldC rfl (tyrow rfl) rfl) ?_
      refine XOA.wr0 rfl (WrA.cE (list_i σ pr body ih _ b pv cv bs p3 c3 (L1 ++ [⟨13, 0, 0, 0⟩]) hp hxb hsb (by first | omega | (simp only [List.length_append, List.length_singleton]; omega))) rfl) ?_
      rintro _ _ _ ⟨_, ⟨p4, c4, rfl, rfl, rfl⟩, rfl⟩
      refine XOA.cl ?_
      rw [← hB, ← hO]
      refine zN ?_; refine zT ?_; refine zS ?_; refine zR ?_; refine zO rfl Rd.mv ?_; refine zO rfl Rd.mv ?_
      refine zO rfl (Rd.bl (fun _ _ => tyrow) rfl rfl rfl) ?_
      refine XOA.wr0 rfl (WrA.cE (put_i σ b _ _ _ _ O ⟨14, L.length, 0, 0⟩ (by omega)) rfl) ?_
      rintro _ _ _ ⟨_, ⟨p5, c5, rfl, rfl, rfl⟩, rfl⟩
      refine XOA.cl ?_
      rw [← hM]
      first | refine XA.opn (R := lst 104 4 (.slice p5 M.length c5) _ _) (by ((repeat (first | with_reducible exact Sel.head | apply Sel.tail)); (first | done | fail))) (lst_openW (by omega)) ?_ | refine XOA.opn (R := lst 104 4 (.slice p5 M.length c5) _ _) (by ((repeat (first | with_reducible exact Sel.head | apply Sel.tail)); (first | done | fail))) (lst_openW (by omega)) ?_ | refine DA.opn (R := lst 104 4 (.slice p5 M.length c5) _ _) (by ((repeat (first | with_reducible exact Sel.head | apply Sel.tail)); (first | done | fail))) (lst_openW (by omega)) ?_
      rintro ⟨g5, rest5⟩ ⟨rfl, hc5, hm5, hx5, hr5⟩
      first | refine XA.cl ?_ | refine XOA.cl ?_ | refine DA.cl ?_
      have hspl := hspl0 rest5
      have hil := insC_len M
      have hil' : (insC M').length = M.length * 4 := by rw [insC_len, hMl']
      have hr5 : c5 * 4 ≤ (insC M ++ rest5).length := hr5
      have hfit : L1.length * 4 + 1 + ty3.size ≤ (insC M ++ rest5).length := by rw [List.length_append, hil]; show L1.length * 4 + 1 + 1 ≤ _; omega
      have hcl : c5 * 4 ≤ (insC M' ++ rest5).length := by rw [List.length_append] at hr5 ⊢; omega
      refine zO rfl Rd.asg ?_; refine zN ?_; refine zT ?_; refine zS ?_
      refine XA.draw (by kernel_rfl) _ _ [12] [(0, .pu), (1, .pu), (2, .pu), (3, .rd), (4, .pu), (5, .pu), (6, .pu), (7, .pu), (8, .rd), (9, .pu), (10, .pu), (11, .pu), (12, .wr)] (by kernel_rfl) (PH.sub.refl _) (Ent.sel (R := blk b _ _) (by ((repeat (first | with_reducible exact Sel.head | apply Sel.tail)); (first | done | fail))) (Ent.nil _)) ?_
      refine XPA.pu rfl rfl Gd.free Rd.mv ?_
      refine XPA.pu rfl rfl Gd.free (Rd.nilCheck rfl) ?_
      refine XPA.pu rfl rfl Gd.free (Rd.fA rfl) ?_
      refine XPA.rd rfl rfl Gd.free (Rd.ldC rfl (tyrow rfl) rfl) ?_
      refine XPA.pu rfl rfl Gd.free Rd.mv ?_
      refine XPA.pu rfl rfl Gd.free Rd.mv ?_
      refine XPA.pu rfl rfl Gd.free (Rd.nilCheck rfl) ?_
      refine XPA.pu rfl rfl Gd.free (Rd.fA rfl) ?_
      refine XPA.rd rfl rfl Gd.free (Rd.ldC rfl (tyrow rfl) rfl) ?_
      refine XPA.pu rfl rfl Gd.free (Rd.lenSlice (tyrow rfl) rfl rfl) ?_
      refine XPA.pu rfl rfl Gd.free (Rd.ixS rfl rfl) ?_
      refine XPA.pu rfl rfl Gd.free (Rd.fA rfl) ?_
      refine XPA.wrZ0 rfl rfl Gd.free (by kernel_rfl) (WrA.st (tyrow rfl) rfl) ?_
      rintro _ _ _ ⟨rfl, rfl, rfl⟩
      refine XPA.nil ?_
      refine zT ?_; refine zS ?_; refine zR ?_; refine zO rfl (Rd.fA rfl) ?_; refine zO rfl (Rd.ldC rfl (tyrow rfl) rfl) ?_; refine zO rfl (Rd.eql rfl rfl) ?_; refine zN ?_; refine zT ?_
      refine XA.condF rfl rfl ?_
      refine XA.skip ?_
      refine DA.inb_normal ?_
      refine DA.ent (Ent.foldC (Θ := [blk g5 (insC M' ++ rest5) 104]) (by (repeat (first | exact Ent.all _ | (apply Ent.take; focus (first | ((repeat (first | with_reducible exact Sel.head | apply Sel.tail)); done) | ((repeat (first | exact Sel.head | apply Sel.tail)); done))) | apply Ent.takeNil | apply Ent.takeEmp)); (first | done | fail)) (lst_close (n := M.length) (c := c5) (rest := rest5) hil' hc5 hm5 hcl) (Ent.refl _)) ?_
      rw [hMl']
      exact bodyA.normal (ResA.none rfl) zE ⟨some ⟨g5, 0, none⟩, c5, rfl, rfl, rfl⟩
    · obtain ⟨L1, hL1⟩ : ∃ L1, L1 = L ++ exCode pr.vars ex := ⟨_, rfl⟩
      have hL1l : L1.length = L.length + exN ex := by rw [hL1, List.length_append, hlE]
      obtain ⟨B, hB⟩ : ∃ B, B = stsCode pr.vars body (L1 ++ [(⟨13, 0, 0, 0⟩ : In)]).length := ⟨_, rfl⟩
      have hBl : B.length ≤ stsN body := by rw [hB]; exact stsCode_len _ _ _
      have hB2 : stsCode pr.vars body (L.length + (exCode pr.vars ex).length + 1) = B := by rw [hB]; congr 1; rw [List.length_append, hL1l, hlE]; rfl
      obtain ⟨O, hO⟩ : ∃ O, O = L1 ++ [(⟨13, 0, 0, 0⟩ : In)] ++ B := ⟨_, rfl⟩
      have hOl : O.length = L1.length + B.length + 1 := by rw [hO]; simp only [List.length_append, List.length_singleton]; omega
      obtain ⟨M, hM⟩ : ∃ M, M = O ++ [(⟨14, L.length, 0, 0⟩ : In)] := ⟨_, rfl⟩
      have hMl : M.length = L1.length + B.length + 2 := by rw [hM, hO]; simp only [List.length_append, List.length_singleton]; omega
      obtain ⟨M', hM'⟩ : ∃ M', M' = L1 ++ [(⟨13, M.length, 0, 0⟩ : In)] ++ B ++ [⟨14, L.length, 0, 0⟩] := ⟨_, rfl⟩
      have hMl' : M'.length = M.length := by rw [hMl, hM']; simp only [List.length_append, List.length_singleton]; omega
      have hspl0 : ∀ rest : List Value, splice (insC M ++ rest) (L1.length * 4 + 1) [i64 M.length] = insC M' ++ rest := fun rest => by
        have := insC_patch L1 (B ++ [⟨14, L.length, 0, 0⟩]) ⟨13, 0, 0, 0⟩ M.length rest
        rw [hM', hM, hO]; simp only [List.append_assoc, List.singleton_append, List.cons_append, List.nil_append] at this ⊢
        rw [hM, hO] at this; simpa only [List.append_assoc, List.singleton_append, List.cons_append, List.nil_append] using this
      obtain ⟨Eb, hEb⟩ : ∃ Eb, Eb = stsCode pr.vars els M.length := ⟨_, rfl⟩
      have hEl : Eb.length ≤ stsN els := by rw [hEb]; exact stsCode_len _ _ _
      obtain ⟨M2, hM2⟩ : ∃ M2, M2 = M' ++ Eb := ⟨_, rfl⟩
      have hM2l : M2.length = M.length + Eb.length := by rw [hM2, List.length_append, hMl']
      obtain ⟨M3, hM3⟩ : ∃ M3, M3 = L1 ++ [(⟨13, M.length, 0, 0⟩ : In)] ++ B ++ [⟨14, M2.length, 0, 0⟩] ++ Eb := ⟨_, rfl⟩
      have hM3l : M3.length = M2.length := by rw [hM2l, hMl, hM3]; simp only [List.length_append, List.length_singleton]; omega
      have hspl6 : ∀ rest : List Value, splice (insC M2 ++ rest) (O.length * 4 + 1) [i64 M2.length] = insC M3 ++ rest := fun rest => by
        have := insC_patch (L1 ++ [(⟨13, M.length, 0, 0⟩ : In)] ++ B) Eb ⟨14, L.length, 0, 0⟩ M2.length rest
        have e : (L1 ++ [(⟨13, M.length, 0, 0⟩ : In)] ++ B).length = O.length := by rw [hOl]; simp only [List.length_append, List.length_singleton]; omega
        rw [e] at this
        rw [hM3]
        have e2 : insC M2 = insC (L1 ++ [(⟨13, M.length, 0, 0⟩ : In)] ++ B ++ ⟨14, L.length, 0, 0⟩ :: Eb) := by rw [hM2, hM']; simp only [List.append_assoc, List.singleton_append, List.cons_append, List.nil_append]
        rw [e2, this]; simp only [List.append_assoc, List.singleton_append, List.cons_append, List.nil_append]
      have hc : L ++ stCode pr.vars (.mk 6 v ex fx body els) L.length = M3 := by
        have e1 : L.length + (exCode pr.vars ex).length + 1 + B.length + 1 = M.length := by rw [hMl, hL1l, hlE]; omega
        rw [stCode_6, hB2, e1, ← hEb, hM3, hL1, hM2l]
        simp only [List.append_assoc]
      rw [hc]
      have hls := fun p c => list_i σ pr els jh (.slice pl els.length cl) b pv cv bs p c M' hp hxl hse (by omega)
      rw [hMl', ← hEb, ← hM2] at hls
      refine enterA2 Try.func72 rfl rfl rfl ?_
      refine zS ?_; refine zR ?_
      refine XOA.wr0 rfl WrA.bx ?_
      rintro _ _ _ ⟨g3, rfl, rfl, rfl⟩
      refine zN ?_; refine zT ?_; refine zS ?_; refine zR ?_; refine zO rfl Rd.mv ?_; refine zO rfl (Rd.nilCheck rfl) ?_; refine zO rfl (Rd.fA rfl) ?_; refine zO rfl (Rd.ldC rfl (tyrow rfl) rfl) ?_; refine zO rfl (Rd.lenSlice (tyrow rfl) rfl rfl) ?_; refine zO rfl Rd.asg ?_; refine zN ?_; refine zT ?_; refine zS ?_
      refine zS ?_; refine zR ?_; refine zO rfl (Rd.fA rfl) ?_; refine zO rfl (Rd.ldC rfl (tyrow rfl) rfl) ?_
      refine XOA.wr0 rfl (WrA.cE (chas_a σ 6) rfl) ?_
      rintro _ _ _ ⟨_, ⟨rfl, rfl, rfl⟩, rfl⟩
      refine XOA.cl ?_
      refine zO rfl Rd.mv ?_
      refine zO rfl (Rd.extract rfl rfl) ?_
      refine zO rfl (Rd.extract rfl rfl) ?_
      refine zO rfl (Rd.extract rfl rfl) ?_
      refine zO rfl (Rd.extract rfl rfl) ?_
      refine zO rfl (Rd.extract rfl rfl) ?_
      refine zO rfl Rd.asg ?_; refine zO rfl Rd.asg ?_; refine zO rfl Rd.asg ?_; refine zO rfl Rd.asg ?_; refine zO rfl Rd.asg ?_; refine zN ?_; refine zT ?_; refine zS ?_; refine zR ?_; refine zO rfl Rd.mv ?_; refine zN ?_; refine zT ?_
      refine XA.condT rfl rfl ?_
      refine zR ?_; refine zO rfl Rd.mv ?_; refine zO rfl (Rd.fA rfl) ?_; refine zO rfl (Rd.ldA rfl) ?_
      refine XOA.wr0 rfl (WrA.cE (expr_i σ pr hz hvl ex _ b pv cv bs p c (L) hp hxe (he rfl).1 (by first | omega | (simp only [List.length_append, List.length_singleton]; omega))) rfl) ?_
      rintro _ _ _ ⟨_, ⟨p2, c2, rfl, rfl, rfl⟩, rfl⟩
      refine XOA.cl ?_
      refine zN ?_; refine zT ?_; refine zS ?_; refine zR ?_; refine zO rfl (Rd.fA rfl) ?_; refine zO rfl (Rd.ldC rfl (tyrow rfl) rfl) ?_; refine zN ?_; refine zT ?_
      refine XA.block ?_
      refine zS ?_; refine zR ?_; refine zO rfl (Rd.eql rfl rfl) ?_; refine zO rfl Rd.asg ?_; refine zN ?_; refine zT ?_
      rw [← hL1]
      refine XA.condF rfl rfl ?_
      refine zS ?_; refine zR ?_; refine zO rfl (Rd.eql rfl rfl) ?_; refine zO rfl Rd.asg ?_; refine zN ?_; refine zT ?_
      refine XA.condF rfl rfl ?_
      refine zS ?_; refine zR ?_; refine zO rfl (Rd.eql rfl rfl) ?_; refine zO rfl Rd.asg ?_; refine zN ?_; refine zT ?_
      refine XA.condF rfl rfl ?_
      refine zS ?_; refine zR ?_; refine zO rfl (Rd.eql rfl rfl) ?_; refine zO rfl Rd.asg ?_; refine zN ?_; refine zT ?_
      refine XA.condF rfl rfl ?_
      refine zS ?_; refine zS ?_; refine zR ?_; refine zO rfl (Rd.eql rfl rfl) ?_; refine zO rfl Rd.asg ?_; refine zN ?_; refine zT ?_
      refine XA.condF rfl rfl ?_
      refine zR ?_; refine zO rfl (Rd.eql rfl rfl) ?_; refine zO rfl Rd.asg ?_; refine zN ?_; refine zT ?_
      refine XA.condT rfl rfl ?_
      refine zS ?_; refine zR ?_; refine zO rfl Rd.mv ?_
      refine zO rfl (Rd.bl (fun _ _ => tyrow) rfl rfl rfl) ?_
      refine XOA.wr0 rfl (WrA.cE (put_i σ b _ _ _ _ L1 ⟨13, 0, 0, 0⟩ (by omega)) rfl) ?_
      rintro _ _ _ ⟨_, ⟨p3, c3, rfl, rfl, rfl⟩, rfl⟩
      refine XOA.cl ?_
      refine zO rfl Rd.asg ?_; refine zN ?_; refine zT ?_; refine zS ?_; refine zR ?_; refine zO rfl Rd.mv ?_; refine zO rfl (Rd.fA rfl) ?_; refine zO rfl (Rd.ldC rfl (tyrow rfl) rfl) ?_
      refine XOA.wr0 rfl (WrA.cE (list_i σ pr body ih _ b pv cv bs p3 c3 (L1 ++ [⟨13, 0, 0, 0⟩]) hp hxb hsb (by first | omega | (simp only [List.length_append, List.length_singleton]; omega))) rfl) ?_
      rintro _ _ _ ⟨_, ⟨p4, c4, rfl, rfl, rfl⟩, rfl⟩
      refine XOA.cl ?_
      rw [← hB, ← hO]
      refine zN ?_; refine zT ?_; refine zS ?_; refine zR ?_; refine zO rfl Rd.mv ?_; refine zO rfl Rd.mv ?_
      refine zO rfl (Rd.bl (fun _ _ => tyrow) rfl rfl rfl) ?_
      refine XOA.wr0 rfl (WrA.cE (put_i σ b _ _ _ _ O ⟨14, L.length, 0, 0⟩ (by omega)) rfl) ?_
      rintro _ _ _ ⟨_, ⟨p5, c5, rfl, rfl, rfl⟩, rfl⟩
      refine XOA.cl ?_
      rw [← hM]
      first | refine XA.opn (R := lst 104 4 (.slice p5 M.length c5) _ _) (by ((repeat (first | with_reducible exact Sel.head | apply Sel.tail)); (first | done | fail))) (lst_openW (by omega)) ?_ | refine XOA.opn (R := lst 104 4 (.slice p5 M.length c5) _ _) (by ((repeat (first | with_reducible exact Sel.head | apply Sel.tail)); (first | done | fail))) (lst_openW (by omega)) ?_ | refine DA.opn (R := lst 104 4 (.slice p5 M.length c5) _ _) (by ((repeat (first | with_reducible exact Sel.head | apply Sel.tail)); (first | done | fail))) (lst_openW (by omega)) ?_
      rintro ⟨g5, rest5⟩ ⟨rfl, hc5, hm5, hx5, hr5⟩
      first | refine XA.cl ?_ | refine XOA.cl ?_ | refine DA.cl ?_
      have hspl := hspl0 rest5
      have hil := insC_len M
      have hil' : (insC M').length = M.length * 4 := by rw [insC_len, hMl']
      have hr5 : c5 * 4 ≤ (insC M ++ rest5).length := hr5
      have hfit : L1.length * 4 + 1 + ty3.size ≤ (insC M ++ rest5).length := by rw [List.length_append, hil]; show L1.length * 4 + 1 + 1 ≤ _; omega
      have hcl : c5 * 4 ≤ (insC M' ++ rest5).length := by rw [List.length_append] at hr5 ⊢; omega
      refine zO rfl Rd.asg ?_; refine zN ?_; refine zT ?_; refine zS ?_
      refine XA.draw (by kernel_rfl) _ _ [12] [(0, .pu), (1, .pu), (2, .pu), (3, .rd), (4, .pu), (5, .pu), (6, .pu), (7, .pu), (8, .rd), (9, .pu), (10, .pu), (11, .pu), (12, .wr)] (by kernel_rfl) (PH.sub.refl _) (Ent.sel (R := blk b _ _) (by ((repeat (first | with_reducible exact Sel.head | apply Sel.tail)); (first | done | fail))) (Ent.nil _)) ?_
      refine XPA.pu rfl rfl Gd.free Rd.mv ?_
      refine XPA.pu rfl rfl Gd.free (Rd.nilCheck rfl) ?_
      refine XPA.pu rfl rfl Gd.free (Rd.fA rfl) ?_
      refine XPA.rd rfl rfl Gd.free (Rd.ldC rfl (tyrow rfl) rfl) ?_
      refine XPA.pu rfl rfl Gd.free Rd.mv ?_
      refine XPA.pu rfl rfl Gd.free Rd.mv ?_
      refine XPA.pu rfl rfl Gd.free (Rd.nilCheck rfl) ?_
      refine XPA.pu rfl rfl Gd.free (Rd.fA rfl) ?_
      refine XPA.rd rfl rfl Gd.free (Rd.ldC rfl (tyrow rfl) rfl) ?_
      refine XPA.pu rfl rfl Gd.free (Rd.lenSlice (tyrow rfl) rfl rfl) ?_
      refine XPA.pu rfl rfl Gd.free (Rd.ixS rfl rfl) ?_
      refine XPA.pu rfl rfl Gd.free (Rd.fA rfl) ?_
      refine XPA.wrZ0 rfl rfl Gd.free (by kernel_rfl) (WrA.st (tyrow rfl) rfl) ?_
      rintro _ _ _ ⟨rfl, rfl, rfl⟩
      refine XPA.nil ?_
      refine zT ?_; refine zS ?_; refine zR ?_; refine zO rfl (Rd.fA rfl) ?_; refine zO rfl (Rd.ldC rfl (tyrow rfl) rfl) ?_; refine zO rfl (Rd.eql rfl rfl) ?_; refine zN ?_; refine zT ?_
      refine XA.condT rfl rfl ?_
      refine zS ?_; refine zR ?_; refine zO rfl Rd.mv ?_; refine zO rfl (Rd.fA rfl) ?_; refine zO rfl (Rd.ldC rfl (tyrow rfl) rfl) ?_
      refine XOA.ent (Ent.foldC (Θ := [blk g5 (insC M' ++ rest5) 104]) (by (repeat (first | exact Ent.all _ | (apply Ent.take; focus (first | ((repeat (first | with_reducible exact Sel.head | apply Sel.tail)); done) | ((repeat (first | exact Sel.head | apply Sel.tail)); done))) | apply Ent.takeNil | apply Ent.takeEmp)); (first | done | fail)) (lst_close (n := M.length) (c := c5) (rest := rest5) hil' hc5 hm5 hcl) (Ent.refl _)) ?_
      clear hspl hfit
      refine XOA.wr0 rfl (WrA.cE (hls _ _) rfl) ?_
      rintro _ _ _ ⟨_, ⟨p6, c6, rfl, rfl, rfl⟩, rfl⟩
      refine XOA.cl ?_
      first | refine XA.opn (R := lst 104 4 (.slice p6 M2.length c6) _ _) (by ((repeat (first | with_reducible exact Sel.head | apply Sel.tail)); (first | done | fail))) (lst_openW (by omega)) ?_ | refine XOA.opn (R := lst 104 4 (.slice p6 M2.length c6) _ _) (by ((repeat (first | with_reducible exact Sel.head | apply Sel.tail)); (first | done | fail))) (lst_openW (by omega)) ?_ | refine DA.opn (R := lst 104 4 (.slice p6 M2.length c6) _ _) (by ((repeat (first | with_reducible exact Sel.head | apply Sel.tail)); (first | done | fail))) (lst_openW (by omega)) ?_
      rintro ⟨g6, rest6⟩ ⟨rfl, hc6, hm6, hx6, hr6⟩
      first | refine XA.cl ?_ | refine XOA.cl ?_ | refine DA.cl ?_
      have hspl := hspl6 rest6
      have hil2 := insC_len M2
      have hil3 : (insC M3).length = M2.length * 4 := by rw [insC_len, hM3l]
      have hr6 : c6 * 4 ≤ (insC M2 ++ rest6).length := hr6
      have hfit : O.length * 4 + 1 + ty3.size ≤ (insC M2 ++ rest6).length := by rw [List.length_append, hil2]; show O.length * 4 + 1 + 1 ≤ _; omega
      have hcl6 : c6 * 4 ≤ (insC M3 ++ rest6).length := by rw [List.length_append] at hr6 ⊢; omega
      refine zN ?_; refine zT ?_
      refine XA.draw (by kernel_rfl) _ _ [12] [(0, .pu), (1, .pu), (2, .pu), (3, .rd), (4, .pu), (5, .pu), (6, .pu), (7, .pu), (8, .rd), (9, .pu), (10, .pu), (11, .pu), (12, .wr)] (by kernel_rfl) (PH.sub.refl _) (Ent.sel (R := blk b _ _) (by ((repeat (first | with_reducible exact Sel.head | apply Sel.tail)); (first | done | fail))) (Ent.nil _)) ?_
      refine XPA.pu rfl rfl Gd.free Rd.mv ?_
      refine XPA.pu rfl rfl Gd.free (Rd.nilCheck rfl) ?_
      refine XPA.pu rfl rfl Gd.free (Rd.fA rfl) ?_
      refine XPA.rd rfl rfl Gd.free (Rd.ldC rfl (tyrow rfl) rfl) ?_
      refine XPA.pu rfl rfl Gd.free Rd.mv ?_
      refine XPA.pu rfl rfl Gd.free Rd.mv ?_
      refine XPA.pu rfl rfl Gd.free (Rd.nilCheck rfl) ?_
      refine XPA.pu rfl rfl Gd.free (Rd.fA rfl) ?_
      refine XPA.rd rfl rfl Gd.free (Rd.ldC rfl (tyrow rfl) rfl) ?_
      refine XPA.pu rfl rfl Gd.free (Rd.lenSlice (tyrow rfl) rfl rfl) ?_
      refine XPA.pu rfl rfl Gd.free (Rd.ixS rfl rfl) ?_
      refine XPA.pu rfl rfl Gd.free (Rd.fA rfl) ?_
      refine XPA.wrZ0 rfl rfl Gd.free (by kernel_rfl) (WrA.st (tyrow rfl) rfl) ?_
      rintro _ _ _ ⟨rfl, rfl, rfl⟩
      refine XPA.nil ?_
      refine DA.inb_normal ?_
      refine DA.ent (Ent.foldC (Θ := [blk g6 (insC M3 ++ rest6) 104]) (by (repeat (first | exact Ent.all _ | (apply Ent.take; focus (first | ((repeat (first | with_reducible exact Sel.head | apply Sel.tail)); done) | ((repeat (first | exact Sel.head | apply Sel.tail)); done))) | apply Ent.takeNil | apply Ent.takeEmp)); (first | done | fail)) (lst_close (n := M2.length) (c := c6) (rest := rest6) hil3 hc6 hm6 hcl6) (Ent.refl _)) ?_
      rw [hM3l]
      exact bodyA.normal (ResA.none rfl) zE ⟨some ⟨g6, 0, none⟩, c6, rfl, rfl, rfl⟩
      
end Go.Proofs.Ytmnmcjdgnpgchaa

namespace Go.Proofs.Ytmnmcjdgnpgchaa
open Go X
set_option maxHeartbeats 1000000
def rIn : RT In := fun _ cs i => cs = inC i
theorem size_le : ∀ {l : List Va}, (∀ x ∈ l, 1 ≤ x.size) → ∀ x ∈ l, x.size ≤ sizes l
  | y :: l, h, x, hx => by
    have h1 := h y (by simp)
    have h2 := sizes_nonneg (l := l) (fun z hz => h z (by simp [hz]))
    rw [sizes_cons]
    rcases List.mem_cons.1 hx with rfl | hx
    · omega
    · have := size_le (l := l) (fun z hz => h z (by simp [hz])) x hx; omega
theorem check_small {p : Pr} (h : checkP p = 0) : (∀ x ∈ p.vars, 0 ≤ x.size ∧ x.size ≤ 1000) ∧ p.vars.length ≤ 1000 := by
  obtain ⟨-, h1, h2, h3⟩ := check_valid h
  exact ⟨fun x hx => by have a := h2 x hx; have b := size_le h2 x hx; omega, by omega⟩
theorem rows_in (σ : PH) (l : List In) : Rows_ 4 rIn σ (l.map inC) l :=
  ⟨by simp, fun r hr => by obtain ⟨i, -, rfl⟩ := List.mem_map.1 hr; rfl, fun k r x hr hx => by rw [List.getElem?_map, hx] at hr; simpa [rIn] using hr.symm⟩
theorem codeOf_len (p : Pr) : (codeOf p).length ≤ stsN p.body + 1 := by rw [codeOf, List.length_append]; have := stsCode_len p.vars p.body 0; simp; omega
theorem make_a (σ : PH) (cs : List Value) (p : Pr) (hp : PrAt σ cs p) (hN : stsN p.body ≤ 10000) :
    CallsA Try.prog 13 #[.agg cs.toArray] σ [] (RetA fun v σ' Γ' => ∃ sl, v = .tuple #[sl, i64 (checkP p)] ∧ PSl 4 rIn σ' sl (if checkP p = 0 then codeOf p else []) ∧ σ.sub σ' ∧ Γ' = []) := by
  have hp0 := hp
  obtain ⟨vs, bs, rfl, hv, hb⟩ := hp
  obtain ⟨pv, cv, rfl, hvl, hvm⟩ := hv.shape
  refine enterA1 Try.func13 rfl rfl rfl ?_
  refine zS ?_; refine zR ?_
  refine XOA.wr0 rfl WrA.bx ?_
  rintro _ _ _ ⟨g1, rfl, rfl, rfl⟩
  refine zO rfl Rd.asg ?_; refine zO rfl Rd.asg ?_; refine zN ?_; refine zT ?_; refine zS ?_; refine zS ?_; refine zR ?_; refine zO rfl (Rd.ldA rfl) ?_
  refine XOA.wr0 rfl (WrA.cE (check_a σ _ p hp0) rfl) ?_
  rintro _ _ _ ⟨_, ⟨rfl, rfl, rfl⟩, rfl⟩
  refine XOA.cl ?_
  refine zO rfl Rd.asg ?_; refine zN ?_; refine zT ?_; refine zS ?_; refine zR ?_; refine zO rfl Rd.mv ?_
  refine zO rfl (Rd.neq rfl rfl) ?_
  refine zN ?_; refine zT ?_
  refine XA.condp rfl (fun hc => ?_) (fun hc => ?_)
  · refine zS ?_
    refine zR ?_; refine zO rfl Rd.mv ?_; refine zO rfl Rd.asg ?_; refine zO rfl Rd.asg ?_; refine zN ?_; refine zT ?_
    refine XA.ret ?_
    refine DA.thn_ret ?_
    rw [if_neg hc]
    exact bodyA.ret (ResA.two rfl rfl rfl) (Ent.nil _) ⟨_, rfl, PSl.nil _ _ _, .refl _, rfl⟩
  have hc : checkP p = 0 := by omega
  obtain ⟨hz, hl⟩ := check_small hc
  obtain ⟨hV, -, -, -⟩ := check_valid hc
  refine XA.skip ?_
  refine zT ?_; refine zS ?_; refine zR ?_; refine zO rfl (Rd.ldA rfl) ?_
  refine zO rfl (Rd.bl (fun _ _ => tyrow) rfl rfl rfl) ?_
  refine XOA.wr0 rfl WrA.bx ?_
  rintro _ _ _ ⟨g13, rfl, rfl, rfl⟩
  refine zO rfl Rd.asg ?_; refine zN ?_; refine zT ?_; refine zS ?_; refine zR ?_; refine zO rfl Rd.mv ?_; refine zO rfl (Rd.fA rfl) ?_; refine zO rfl (Rd.ldC rfl (tyrow rfl) rfl) ?_
  have hls := fun b => list_i σ p p.body (fun x _ => stmt_i σ p hz hl x) bs b pv cv bs none 0 [] hp0 hb hV (by simp only [List.length_nil]; omega)
  simp only [List.nil_append, List.length_nil, show insC [] = [] from rfl] at hls
  refine XOA.wr0 rfl (WrA.cE (hls _) rfl) ?_
  rintro _ _ _ ⟨_, ⟨p7, c7, rfl, rfl, rfl⟩, rfl⟩
  refine XOA.cl ?_
  have hln := stsCode_len p.vars p.body 0
  refine zN ?_; refine zT ?_; refine zS ?_; refine zR ?_; refine zO rfl Rd.mv ?_
  refine zO rfl (Rd.bl (fun _ _ => tyrow) rfl rfl rfl) ?_
  refine XOA.wr0 rfl (WrA.cE (put_i σ _ _ _ _ _ (stsCode p.vars p.body 0) ⟨16, 0, 0, 0⟩ (by omega)) rfl) ?_
  rintro _ _ _ ⟨_, ⟨p8, c8, rfl, rfl, rfl⟩, rfl⟩
  refine XOA.cl ?_
  refine zN ?_; refine zT ?_; refine zS ?_; refine zR ?_; refine zO rfl Rd.mv ?_; refine zO rfl (Rd.nilCheck rfl) ?_; refine zO rfl (Rd.fA rfl) ?_; refine zO rfl (Rd.ldC rfl (tyrow rfl) rfl) ?_; refine zO rfl Rd.asg ?_; refine zO rfl Rd.asg ?_; refine zN ?_; refine zT ?_
  refine XA.ret ?_
  refine DA.frz (R := lst 104 4 _ _ _) (by ((repeat (first | with_reducible exact Sel.head | apply Sel.tail)); (first | done | fail))) lst_frz lst_frz_mono ?_
  rintro σ3 ⟨⟩ hf hs3
  rw [if_pos hc, hc]
  exact bodyA.ret (ResA.two rfl rfl rfl) (Ent.nil _) ⟨_, rfl, (rows_in σ3 (codeOf p)).psl rfl hf, hs3, rfl⟩
end Go.Proofs.Ytmnmcjdgnpgchaa

namespace Go.Proofs.Ytmnmcjdgnpgchaa
open Go X
set_option maxHeartbeats 1000000
end Go.Proofs.Ytmnmcjdgnpgchaa

namespace Go.Proofs.Ytmnmcjdgnpgchaa
open Go X
set_option maxHeartbeats 1000000
end Go.Proofs.Ytmnmcjdgnpgchaa

namespace Go.Proofs.Ytmnmcjdgnpgchaa
open Go X
set_option maxHeartbeats 1000000
structure Less (s s' : RS) : Prop where
  cl : s'.cells.length = s.cells.length
  left : s'.left ≤ s.left
  out : s'.out.length + s'.left ≤ s.out.length + s.left
theorem Less.refl (s : RS) : Less s s := ⟨rfl, Nat.le_refl _, Nat.le_refl _⟩
theorem Less.trans {a b c : RS} (h : Less a b) (k : Less b c) : Less a c := ⟨k.cl.trans h.cl, Nat.le_trans k.left h.left, Nat.le_trans k.out h.out⟩
end Go.Proofs.Ytmnmcjdgnpgchaa

namespace Go.Proofs.Ytmnmcjdgnpgchaa
open Go X
set_option maxHeartbeats 1000000
end Go.Proofs.Ytmnmcjdgnpgchaa

namespace Go.Proofs.Ytmnmcjdgnpgchaa
open Go X
set_option maxHeartbeats 2000000
end Go.Proofs.Ytmnmcjdgnpgchaa

namespace Go.Proofs.Ytmnmcjdgnpgchaa
open Go X
end Go.Proofs.Ytmnmcjdgnpgchaa

namespace Go.Proofs.Ytmnmcjdgnpgchaa
open Go X
set_option maxHeartbeats 1000000
section
variable {P : Program} {ρ : Env} {h : Heap} {ty : TypeId} {σ : PH} {Γ : List HP}
theorem Wr.makeSlice {T e n m : Nat} {x y : Operand} {kx ky : IntKind} {r re : Ty} (hT : tyOf P T = some r) (hk : r.k = .slice e) (hE : tyOf P e = some re) (hx : ev ρ x = .int kx n) (hy : ev ρ y = .int ky n) (hn : h.size = m) (hz : re.zero.length = re.size) (hb : re.bytes * n ≤ 16777216) (hs : n ≤ 16777216) (h0 : n * re.size ≠ 0) :
    Wr P ρ h (.makeSlice T x y) ty (fun v' h' => v' = .slice (some ⟨m, 0, none⟩) n n ∧ h' = h.push (.cells ((List.range (n * re.size)).map fun k => re.zero.getD (k % re.size) undef).toArray e (0, 0))) X.noP := by
  subst hn
  refine Wr.run fun d pos af gd w hw => ?_
  obtain ⟨dd, i, z, e1, e2, -⟩ := tyOf_spec hT
  obtain ⟨dd', i', z', e1', e2', e3', e4', e5', e6', e7'⟩ := tyOf_spec hE
  rw [hk] at e2
  cases dd <;> simp [kindOf] at e2
  rw [e2] at e1
  clear e2
  have hzs : z'.cells.size = re.size := by rw [← Array.length_toList, e7', hz]
  have hzero : (Array.range (n * re.size)).map (fun k => z'.cells[k % z'.cells.size]!) = ((List.range (n * re.size)).map fun k => re.zero.getD (k % re.size) undef).toArray := by
    apply Array.ext'
    simp only [Array.toList_map, Array.toList_range, hzs]
    apply List.map_congr_left
    intro k hk
    have hlt : k % re.size < re.size := Nat.mod_lt _ (by
      rcases Nat.eq_zero_or_pos re.size with h0 | h0
      · rw [h0, Nat.mul_zero] at hk; simp at hk
      · exact h0)
    rw [← e7']
    have hlt' : k % re.size < z'.cells.size := by rw [hzs]; exact hlt
    simp [getElem!_pos, hlt', List.getD_eq_getElem?_getD]
  have hwn : IntKind.i64.wrap (n : Int) = n := X.wrap64_in (by omega) (by omega)
  have hroom : ¬ (n * re.bytes > roomBytes) := by rw [Nat.mul_comm]; simp only [roomBytes]; omega
  have hbi : ¬ ((re.bytes : Int) * n > 2 ^ 48) := by
    have : ((re.bytes * n : Nat) : Int) ≤ 16777216 := by omega
    rw [Int.natCast_mul] at this
    omega
  refine ⟨_, w.alloc (.cells ((List.range (n * re.size)).map fun k => re.zero.getD (k % re.size) undef).toArray e (0, 0)), ?_, ⟨rfl, rfl, rfl⟩, rfl, by rw [← hw]; rfl⟩
  simp only [execOp, Instr.makeSlice, Sem.run_bind, run_underlying e1, Result.andThen_ok, sizeOf, typeInfo, run_program, e3', e4', e5', Sem.run_pure, zeroValue, e6', hx, hy, asInt, asIntOf, Result.andThen_ok, hwn]
  rw [if_neg (by simp; omega)]
  simp only [askRoom, if_neg hroom, Int.toNat_natCast, Sem.run_bind, Sem.run_pure, Result.andThen_ok, sizeOf, typeInfo, run_program, e3', e4', zeroValue, e6', if_neg h0]
  rw [hzero]
  simp [newRow, hw]
theorem X.WrA.mkS {T e n : Nat} {x y : Operand} {kx ky : IntKind} {r re : Ty} {zs : List Value} (hT : tyOf P T = some r) (hk : r.k = .slice e) (hE : tyOf P e = some re) (hx : ev ρ x = .int kx n) (hy : ev ρ y = .int ky n) (hz : re.zero.length = re.size) (hb : re.bytes * n ≤ 16777216) (hs : n ≤ 16777216) (h0 : n * re.size ≠ 0)
    (hzs : ((List.range (n * re.size)).map fun k => re.zero.getD (k % re.size) undef) = zs) : WrA P ρ σ Γ (.makeSlice T x y) ty (fun v' σ' Γ' => ∃ g, v' = .slice (some ⟨g, 0, none⟩) n n ∧ σ = σ' ∧ Γ' = blk g zs e :: Γ) noPA :=
  Wr.toA (Q := fun h v h' => v = .slice (some ⟨h.size, 0, none⟩) n n ∧ h' = h.push (cellsOf zs e)) (fun _ _ => by subst hzs; exact Wr.makeSlice hT hk hE hx hy rfl hz hb hs h0) fun f h v h' hh ⟨e1, e2⟩ => ⟨σ, _, ⟨h.size, e1, rfl, rfl⟩, e2 ▸ hh.alloc _ _⟩
end
end Go.Proofs.Ytmnmcjdgnpgchaa

namespace Go.Proofs.Ytmnmcjdgnpgchaa
open Go X
set_option maxHeartbeats 1000000
section
variable {P : Program} {ρ : Env} {h : Heap} {ty : TypeId} {σ : PH} {Γ : List HP}
theorem Wr.makeNone {T e m : Nat} {x y : Operand} {kx ky : IntKind} {r re : Ty} (hT : tyOf P T = some r) (hk : r.k = .slice e) (hE : tyOf P e = some re) (hx : ev ρ x = .int kx 0) (hy : ev ρ y = .int ky 0) (hn : h.size = m) :
    Wr P ρ h (.makeSlice T x y) ty (fun v' h' => v' = .slice (some ⟨m, 0, none⟩) 0 0 ∧ h' = h.push (.cells ([] : List Value).toArray e (0, 0))) X.noP := by
  subst hn
  refine Wr.run fun d pos af gd w hw => ?_
  obtain ⟨dd, i, z, e1, e2, -⟩ := tyOf_spec hT
  obtain ⟨dd', i', z', e1', e2', e3', e4', e5', e6', e7'⟩ := tyOf_spec hE
  rw [hk] at e2
  cases dd <;> simp [kindOf] at e2
  rw [e2] at e1
  clear e2
  have hwn : IntKind.i64.wrap 0 = 0 := rfl
  have hroom : ¬ (0 * re.bytes > roomBytes) := by simp
  refine ⟨_, w.alloc (.cells ([] : List Value).toArray e (0, 0)), ?_, ⟨rfl, rfl, rfl⟩, rfl, by rw [← hw]; rfl⟩
  simp only [execOp, Instr.makeSlice, Sem.run_bind, run_underlying e1, Result.andThen_ok, sizeOf, typeInfo, run_program, e3', e4', e5', Sem.run_pure, zeroValue, e6', hx, hy, asInt, asIntOf, Result.andThen_ok, hwn]
  rw [if_neg (by simp)]
  simp [askRoom, newRow, hw, sizeOf, typeInfo, e3']
  congr 2
  apply Array.ext'
  simp
theorem X.WrA.mkA {T e n : Nat} {x y : Operand} {kx ky : IntKind} {r re : Ty} {zs : List Value} (hT : tyOf P T = some r) (hk : r.k = .slice e) (hE : tyOf P e = some re) (hx : ev ρ x = .int kx n) (hy : ev ρ y = .int ky n) (hz : re.zero.length = re.size) (hs1 : re.size = 1) (hb : re.bytes * n ≤ 16777216) (hs : n ≤ 16777216)
    (hzs : ((List.range (n * re.size)).map fun k => re.zero.getD (k % re.size) undef) = zs) : WrA P ρ σ Γ (.makeSlice T x y) ty (fun v' σ' Γ' => ∃ g, v' = .slice (some ⟨g, 0, none⟩) n n ∧ σ = σ' ∧ Γ' = blk g zs e :: Γ) noPA := by
  cases n with
  | zero =>
    have hz0 : zs = [] := by rw [← hzs]; simp
    subst hz0
    exact Wr.toA (Q := fun h v h' => v = .slice (some ⟨h.size, 0, none⟩) 0 0 ∧ h' = h.push (cellsOf ([] : List Value) e)) (fun _ _ => Wr.makeNone hT hk hE hx hy rfl) fun f h v h' hh ⟨e1, e2⟩ => ⟨σ, _, ⟨h.size, e1, rfl, rfl⟩, e2 ▸ hh.alloc _ _⟩
  | succ n => exact X.WrA.mkS hT hk hE hx hy hz hb hs (by rw [hs1]; omega) hzs
end
theorem zeros_ints (n : Nat) {z : List Value} (hz : z = [i64 0]) : ((List.range (n * 1)).map fun k => z.getD (k % 1) undef) = ints (List.replicate n 0) := by
  subst hz
  rw [ints, Nat.mul_one]
  induction n with
  | zero => rfl
  | succ n ih => rw [List.range_succ, List.map_append, ih, List.replicate_succ']; simp [Nat.mod_one]
section
variable (σ : PH) (g10 g5 g6 g7 gr gc nc : Nat) (v0 v1 vi : Value) (po : Option Addr) (no co fuel left : Nat) (hf : fuel ≤ 3000) (hs : left ≤ fuel) (r0 r1 : List Value) (hr0 : r0.length = 3) (hr1 : r1.length = 1)
include hf hs hr0 hr1
end
theorem CallsDA.conv {P : Program} {f : FuncId} {vs : Array Value} {u : FrameMode} {σ : PH} {Γ Γ0 Δ : List HP} {R R' : FrameMode → PH → List HP → Prop} (hc : CallsDA P f vs u σ Γ0 R) (he : Ent Γ (Γ0 ++ Δ))
    (k : ∀ u' σ' Γ' fr h, R u' σ' Γ' → Holds σ' (Γ' ++ Δ) fr h → ∃ σ2 Γ2, R' u' σ2 Γ2 ∧ Holds σ2 Γ2 fr h) : CallsDA P f vs u σ Γ R' := fun fr h hh w hw => by
  obtain ⟨f', a, b⟩ := (hh.ent he).aside
  refine (hc f' h a w hw).mono ?_
  rintro e u' w' ⟨h1, h2, σ', Γ', h3, h4⟩
  obtain ⟨σ2, Γ2, h5, h6⟩ := k u' σ' Γ' fr w'.heap h3 (b _ _ _ h4)
  exact ⟨h1, h2, σ2, Γ2, h5, h6⟩
end Go.Proofs.Ytmnmcjdgnpgchaa

namespace Go.Proofs.Ytmnmcjdgnpgchaa
open Go X
section
variable {P : Program} {ρ : Env} {σ : PH} {Γ : List HP}
/-- What stays for ever, perhaps nothing, behind a list of one's own. -/
theorem X.WrA.appP {T e : TypeId} {x y : Operand} {ty : TypeId} {r re : Ty} {n m c c' k : Nat} {p q : Option Addr} {xs news : List Value} {Γ' : List HP} (hT : tyOf P T = some r) (hk : r.k = .slice e) (hE : tyOf P e = some re) (hz : re.zero.length = re.size)
    (hs : ev ρ x = .slice p n c) (s : Sel Γ (lst e re.size (.slice p n c) n xs) Γ') (hy : ev ρ y = .slice q m c') (hf : m ≤ c' ∧ c' ≤ maxLen ∧ news.length = k ∧ (0 < m → ∃ g o, q = some ⟨g, o, none⟩ ∧ PRow σ g o news)) (hl : k = m * re.size) (h1 : ones news) (h63 : n + m ≤ maxLen) (hb : (n + m) * re.bytes ≤ 140737488355328) {n' : Nat} {zs : List Value} (hn' : n' = n + m) (hzs : zs = xs ++ news) :
    WrA P ρ σ Γ (.call { callee := .builtin .append, args := #[x, y], argTypes := #[T, T] }) ty (fun v' σ' Δ => ∃ p c, v' = .slice p n' c ∧ σ = σ' ∧ Δ = lst e re.size (.slice p n' c) n' zs :: Γ') noPA := by
  subst hn' hzs
  obtain ⟨hf1, hf2, hf3, hf4⟩ := hf
  by_cases hm : m = 0
  · subst hm
    have hn0 : news = [] := List.eq_nil_of_length_eq_zero (by rw [hf3, hl]; omega)
    subst hn0
    refine ⟨fun f h hh => ⟨fun d pos af gd a w next Q' he hw hn hp => ?_⟩⟩
    have hc := holds_fact hh s (q := n ≤ c) (fun m hm => (lst_cap m hm).1)
    refine ((Rd.toW (σ := σ) (Γ := Γ) (Rd.appendNone hT hk hE hs hy hc)).out f h hh).out d pos af gd a w next Q' he hw (fun v' w' sm q => ?_) (fun _ _ _ q => by obtain ⟨_, _, q, _⟩ := q; exact q.elim)
    obtain ⟨σ', Γ'', ⟨rfl, rfl, rfl⟩, hh'⟩ := q
    refine hn _ w' sm ⟨σ, _, ⟨p, c, rfl, rfl, rfl⟩, ?_⟩
    rw [Nat.add_zero, List.append_nil]
    exact hh'.ent (Ent.imp s (fun _ h => h) (Ent.refl _))
  · obtain ⟨g, o, rfl, hr⟩ := hf4 (by omega)
    exact WrA.append hT hk hE hz hs s hy (At.per hr) (by rw [hf3, hl]) h1 (by omega) h63 hb
end
end Go.Proofs.Ytmnmcjdgnpgchaa

namespace Go.Proofs.Ytmnmcjdgnpgchaa
open Go X
set_option maxHeartbeats 1000000
def needs (op : Int) : ByteArray := if op = 1 then ⟨#[101, 118]⟩ else if op = 2 then ⟨#[101, 102, 118]⟩ else if op = 3 then ⟨#[101]⟩ else if op = 4 then ⟨#[118]⟩ else if op = 5 then ⟨#[101, 98]⟩ else if op = 6 then ⟨#[101, 98, 111]⟩ else ⟨#[]⟩
theorem rneeds_a (σ : PH) (op : Int) : CallsA Try.prog 119 #[i64 op] σ [] (RetA fun v σ' Γ' => v = .string (needs op) ∧ σ = σ' ∧ Γ' = []) := by
  refine enterA1 Try.func119 rfl rfl rfl ?_
  refine zS ?_; refine zR ?_; refine zO rfl Rd.asg ?_; refine zN ?_; refine zT ?_; refine zS ?_; refine zS ?_; refine zR ?_; refine zO rfl Rd.mv ?_; refine zN ?_; refine zT ?_
  refine XA.block ?_
  refine zS ?_; refine zR ?_; refine zO rfl (Rd.eql rfl rfl) ?_; refine zO rfl Rd.asg ?_; refine zN ?_; refine zT ?_
  refine XA.condp rfl (fun h1 => ?_) (fun h1 => ?_)
  · subst h1
    refine zS ?_; refine zR ?_; refine zO rfl Rd.asg ?_; refine zN ?_; refine zT ?_
    refine XA.ret ?_
    refine DA.inb_ret ?_
    refine DA.thn_ret ?_
    exact bodyA.ret (ResA.one rfl rfl) (Ent.refl _) ⟨rfl, rfl, rfl⟩
  refine zS ?_; refine zR ?_; refine zO rfl (Rd.eql rfl rfl) ?_; refine zO rfl Rd.asg ?_; refine zN ?_; refine zT ?_
  refine XA.condp rfl (fun h2 => ?_) (fun h2 => ?_)
  · subst h2
    refine zS ?_; refine zR ?_; refine zO rfl Rd.asg ?_; refine zN ?_; refine zT ?_
    refine XA.ret ?_
    refine DA.inb_ret ?_
    refine DA.thn_ret ?_
    exact bodyA.ret (ResA.one rfl rfl) (Ent.refl _) ⟨rfl, rfl, rfl⟩
  refine zS ?_; refine zR ?_; refine zO rfl (Rd.eql rfl rfl) ?_; refine zO rfl Rd.asg ?_; refine zN ?_; refine zT ?_
  refine XA.condp rfl (fun h3 => ?_) (fun h3 => ?_)
  · subst h3
    refine zS ?_; refine zR ?_; refine zO rfl Rd.asg ?_; refine zN ?_; refine zT ?_
    refine XA.ret ?_
    refine DA.inb_ret ?_
    refine DA.thn_ret ?_
    exact bodyA.ret (ResA.one rfl rfl) (Ent.refl _) ⟨rfl, rfl, rfl⟩
  refine zS ?_; refine zR ?_; refine zO rfl (Rd.eql rfl rfl) ?_; refine zO rfl Rd.asg ?_; refine zN ?_; refine zT ?_
  refine XA.condp rfl (fun h4 => ?_) (fun h4 => ?_)
  · subst h4
    refine zS ?_; refine zR ?_; refine zO rfl Rd.asg ?_; refine zN ?_; refine zT ?_
    refine XA.ret ?_
    refine DA.inb_ret ?_
    refine DA.thn_ret ?_
    exact bodyA.ret (ResA.one rfl rfl) (Ent.refl _) ⟨rfl, rfl, rfl⟩
  refine zS ?_; refine zR ?_; refine zO rfl (Rd.eql rfl rfl) ?_; refine zO rfl Rd.asg ?_; refine zN ?_; refine zT ?_
  refine XA.condp rfl (fun h5 => ?_) (fun h5 => ?_)
  · subst h5
    refine zS ?_; refine zR ?_; refine zO rfl Rd.asg ?_; refine zN ?_; refine zT ?_
    refine XA.ret ?_
    refine DA.inb_ret ?_
    refine DA.thn_ret ?_
    exact bodyA.ret (ResA.one rfl rfl) (Ent.refl _) ⟨rfl, rfl, rfl⟩
  refine zS ?_; refine zR ?_; refine zO rfl (Rd.eql rfl rfl) ?_; refine zO rfl Rd.asg ?_; refine zN ?_; refine zT ?_
  refine XA.condp rfl (fun h6 => ?_) (fun h6 => ?_)
  · subst h6
    refine zS ?_; refine zR ?_; refine zO rfl Rd.asg ?_; refine zN ?_; refine zT ?_
    refine XA.ret ?_
    refine DA.inb_ret ?_
    refine DA.thn_ret ?_
    exact bodyA.ret (ResA.one rfl rfl) (Ent.refl _) ⟨rfl, rfl, rfl⟩
  have hn : needs op = ⟨#[]⟩ := by rw [needs, if_neg h1, if_neg h2, if_neg h3, if_neg h4, if_neg h5, if_neg h6]
  rw [hn]
  refine XA.skip ?_
  refine DA.inb_normal ?_
  refine zT ?_; refine zS ?_; refine zR ?_; refine zO rfl Rd.asg ?_; refine zN ?_; refine zT ?_
  refine XA.ret ?_
  exact bodyA.ret (ResA.one rfl rfl) (Ent.refl _) ⟨rfl, rfl, rfl⟩
def hasByte (s : ByteArray) (c : Nat) : Bool := decide (∃ i, i < s.size ∧ byteAt s i = c)
theorem rneeded_a (σ : PH) (op : Int) (c : Nat) : CallsA Try.prog 109 #[i64 op, .int .u8 c] σ [] (RetA fun v σ' Γ' => v = .bool (hasByte (needs op) c) ∧ σ = σ' ∧ Γ' = []) := by
  have hsz : (needs op).size ≤ 3 := by unfold needs; (repeat' split) <;> decide
  refine enterA2 Try.func109 rfl rfl rfl ?_
  refine zS ?_; refine zR ?_; refine zO rfl Rd.asg ?_; refine zN ?_; refine zT ?_; refine zS ?_; refine zR ?_; refine zO rfl Rd.mv ?_
  refine XOA.wr0 rfl (WrA.cE (rneeds_a σ op) rfl) ?_
  rintro _ _ _ ⟨_, ⟨rfl, rfl, rfl⟩, rfl⟩
  refine XOA.cl ?_
  obtain ⟨s, hs⟩ : ∃ s, s = needs op := ⟨_, rfl⟩
  rw [← hs] at hsz ⊢
  refine zO rfl Rd.asg ?_; refine zN ?_; refine zT ?_; refine zS ?_; refine zS ?_; refine zR ?_; refine zO rfl Rd.asg ?_; refine zN ?_; refine zT ?_
  refine XA.block ?_
  refine XA.gen [(1, _), (4, _), (5, _), (6, _)] ⟨(by with_reducible (conv => lhs; whnf)), (by with_reducible (conv => lhs; whnf)), (by with_reducible (conv => lhs; whnf)), (by with_reducible (conv => lhs; whnf)), trivial⟩ (fun δ => ?_)
  dsimp only [List.foldl]
  refine XA.loop [(4, 4), (6, 6), (9, 19)] (fun k : Nat => [(6, i64 k)]) (fun k σ' Γ' => σ = σ' ∧ k ≤ s.size ∧ (∀ i, i < k → byteAt s i ≠ c) ∧ Γ' = []) (fun k => s.size - k) 0 (by exact ⟨rfl, trivial⟩) (Δ0 := _) ?_ (⟨rfl, Nat.zero_le _, fun i h => absurd h (Nat.not_lt_zero _), rfl⟩) ?_
  · exact zE
  rintro k δ _ _ ⟨rfl, hk, hall, rfl⟩
  dsimp only [ovr, List.foldl]
  refine zS ?_; refine zS ?_; refine zR ?_; refine zO rfl Rd.mv ?_; refine zO rfl Rd.mv ?_
  refine zO rfl (Rd.lenString (tyrow rfl) rfl rfl) ?_
  refine zO rfl (Rd.lss rfl rfl) ?_; refine zN ?_; refine zT ?_
  refine XA.condp rfl (fun hlt => ?_) (fun hlt => ?_)
  · have hlt : k < s.size := by omega
    refine XA.skip ?_
    refine zT ?_; refine zS ?_
    refine XA.block ?_
    refine zS ?_; refine zR ?_; refine zO rfl Rd.mv ?_; refine zO rfl Rd.mv ?_
    refine zO rfl (Rd.indexStr (tyrow rfl) rfl rfl rfl (by first | omega | decide | (simp; omega))) ?_
    refine zO rfl Rd.mv ?_; refine zO rfl (Rd.eql rfl rfl) ?_; refine zN ?_; refine zT ?_
    refine XA.condp rfl (fun he => ?_) (fun he => ?_)
    · have hb : hasByte s c = true := decide_eq_true ⟨k, hlt, by omega⟩
      rw [hb]
      refine zS ?_; refine zR ?_; refine zO rfl Rd.asg ?_; refine zN ?_; refine zT ?_
      refine XA.ret ?_
      refine DA.inb_ret ?_
      refine DA.thn_ret ?_
      refine DA.thn_ret ?_
      refine DA.inb_ret ?_
      refine DA.thn_ret ?_
      exact bodyA.ret (ResA.one rfl rfl) (Ent.nil _) ⟨rfl, rfl, rfl⟩
    have hnew : ∀ i, i < k + 1 → byteAt s i ≠ c := fun i hi => by
      rcases Nat.lt_or_ge i k with h | h
      · exact hall i h
      · have : i = k := by omega
        subst this; omega
    refine XA.skip ?_
    refine DA.inb_normal ?_
    refine zT ?_; refine zR ?_; refine zO rfl Rd.mv ?_
    refine zO rfl (by first | exact Rd.adi rfl rfl | exact Rd.add rfl rfl) ?_
    refine zO rfl Rd.asg ?_; refine zN ?_; refine zT ?_
    refine ⟨(Keep.upd (Keep.upd (Keep.upd (Keep.upd (Keep.upd (Keep.upd (Keep.upd (Keep.upd (Keep.upd (Keep.upd (Keep.upd (Keep.upd (Keep.upd (Keep.hav (Keep.hav (Keep.hav (Keep.refl _ _) rfl) rfl) rfl) rfl) rfl) rfl) rfl) rfl) rfl) rfl) rfl) rfl) rfl) rfl) rfl) rfl), k + 1, _, (by (repeat (first | exact trivial | refine ⟨rfl, ?_⟩ | refine ⟨Eq.trans rfl (congrArg Value.bool hmat.symm), ?_⟩)); (first | done | fail)), ?_, ⟨rfl, hlt, hnew, rfl⟩, (by omega)⟩
    · exact zE
  have hb : hasByte s c = false := decide_eq_false (fun ⟨i, h1, h2⟩ => hall i (by omega) h2)
  rw [hb]
  refine XA.exit ?_
  refine DA.thn_exit ?_
  refine DA.thn_exit ?_
  refine DA.inb_same ?_
  refine zT ?_; refine zS ?_; refine zR ?_; refine zO rfl Rd.asg ?_; refine zN ?_; refine zT ?_
  refine XA.ret ?_
  exact bodyA.ret (ResA.one rfl rfl) (Ent.nil _) ⟨rfl, rfl, rfl⟩
theorem need_op (op : Int) : hasByte (needs op) 101 = needE op ∧ hasByte (needs op) 102 = needF op ∧ hasByte (needs op) 118 = needV op ∧ hasByte (needs op) 98 = needB op ∧ hasByte (needs op) 111 = needO op := by
  by_cases h1 : op = 1
  · subst h1; decide +kernel
  by_cases h2 : op = 2
  · subst h2; decide +kernel
  by_cases h3 : op = 3
  · subst h3; decide +kernel
  by_cases h4 : op = 4
  · subst h4; decide +kernel
  by_cases h5 : op = 5
  · subst h5; decide +kernel
  by_cases h6 : op = 6
  · subst h6; decide +kernel
  have hn : needs op = ⟨#[]⟩ := by rw [needs, if_neg h1, if_neg h2, if_neg h3, if_neg h4, if_neg h5, if_neg h6]
  rw [hn]
  have : ∀ c, hasByte ⟨#[]⟩ c = false := fun c => decide_eq_false (fun ⟨i, h, _⟩ => absurd h (Nat.not_lt_zero i))
  simp [this, needE, needF, needV, needB, needO, h1, h2, h3, h4, h5, h6]
end Go.Proofs.Ytmnmcjdgnpgchaa

namespace Go.Proofs.Ytmnmcjdgnpgchaa
open Go X
set_option maxHeartbeats 1000000
theorem CallsA.foldC {P : Program} {f : FuncId} {vs : Array Value} {σ : PH} {Γ Γ' : List HP} {R : HP} {α : Sort _} {φ : α → Prop} {Θ : α → List HP} {RR : Ending → PH → List HP → Prop} (he : Enters P f) (s : Sel Γ R Γ') (ho : ∀ m, R m → ∃ x, φ x ∧ Sat (Θ x) m) (k : ∀ x, φ x → CallsA P f vs σ (Θ x ++ Γ') RR) : CallsA P f vs σ Γ RR := CallsA.opn s ho he k
theorem Ent.one {R S : HP} (h : ∀ m, R m → S m) : Ent [R] [S] := fun m ⟨m1, m2, a, b, c, d, e⟩ => ⟨m1, m2, h _ a, b, c, d, e⟩
end Go.Proofs.Ytmnmcjdgnpgchaa

namespace Go.Proofs.Ytmnmcjdgnpgchaa
open Go X
set_option maxHeartbeats 1000000
end Go.Proofs.Ytmnmcjdgnpgchaa

namespace Go.Proofs.Ytmnmcjdgnpgchaa
open Go X
set_option maxHeartbeats 1000000
end Go.Proofs.Ytmnmcjdgnpgchaa

namespace Go.Proofs.Ytmnmcjdgnpgchaa
open Go X
set_option maxHeartbeats 1000000
theorem rcell_a (σ : PH) (cs : List Value) (p : Pr) (v : Int) (hp : PrAt σ cs p) (hz : ∀ x ∈ p.vars, 0 ≤ x.size ∧ x.size ≤ 1000) (hl : p.vars.length ≤ 1000) :
    CallsA Try.prog 19 #[.agg cs.toArray, i64 v] σ [] (RetA fun r σ' Γ' => r = i64 (cellOf p.vars v) ∧ σ = σ' ∧ Γ' = []) := by
  obtain ⟨vs, bs, rfl, hv, hb⟩ := hp
  obtain ⟨pv, cv, rfl, hvl, hvm⟩ := hv.shape
  obtain ⟨m, hm⟩ : ∃ m, m = min v.toNat p.vars.length := ⟨_, rfl⟩
  have hcell : cellOf p.vars v = sizes (p.vars.take m) := by rw [cellOf, hm, ← List.take_eq_take_min]
  rw [hcell]
  refine enterA2 Try.func19 rfl rfl rfl ?_
  refine zS ?_; refine zR ?_
  refine XOA.wr0 rfl WrA.bx ?_
  rintro _ _ _ ⟨g2, rfl, rfl, rfl⟩
  refine zO rfl Rd.asg ?_; refine zN ?_; refine zT ?_; refine zS ?_; refine zR ?_; refine zO rfl Rd.asg ?_; refine zN ?_; refine zT ?_; refine zS ?_; refine zS ?_; refine zR ?_; refine zO rfl Rd.asg ?_; refine zN ?_; refine zT ?_
  refine XA.block ?_
  refine XA.gen [(1, _), (2, _), (4, _), (5, _), (6, _)] ⟨(by with_reducible (conv => lhs; whnf)), (by with_reducible (conv => lhs; whnf)), (by with_reducible (conv => lhs; whnf)), (by with_reducible (conv => lhs; whnf)), (by with_reducible (conv => lhs; whnf)), trivial⟩ (fun δ => ?_)
  dsimp only [List.foldl]
  refine XA.loop [(5, 26)] (fun q : Nat × Int => [(6, i64 q.1), (5, i64 q.2)]) (fun q σ' Γ' => σ = σ' ∧ q.1 ≤ m ∧ q.2 = sizes (p.vars.take q.1) ∧ Γ' = [blk g2 [.slice pv p.vars.length cv, bs] 25]) (fun q => m - q.1) (0, 0) (by exact ⟨rfl, rfl, trivial⟩) (Δ0 := _) ?_ (⟨rfl, Nat.zero_le _, rfl, rfl⟩) ?_
  · exact zE
  rintro ⟨k, n⟩ δ _ _ ⟨rfl, hk, hn, rfl⟩
  dsimp only [ovr, List.foldl]
  have hk : k ≤ m := hk
  have hn : n = sizes (p.vars.take k) := hn
  have hsb := sizes_bound (p.vars.take k) (fun y hy => hz y (List.mem_of_mem_take hy))
  have hkl : (p.vars.take k).length = k := by rw [List.length_take]; omega
  by_cases h1 : (k : Int) < v
  · by_cases h2 : k < p.vars.length
    · obtain ⟨x, hx⟩ : ∃ x, p.vars[k]? = some x := ⟨_, List.getElem?_eq_getElem h2⟩
      obtain ⟨gg, o, row, rfl, ⟨rfl, ⟨hz0, hz1⟩, hnm⟩, hrl, hrow⟩ := hv.at hx
      have r1 : PRow σ gg (o + k * 2 + 1) [i64 x.size] := hrow.sub (j := 1) rfl
      have e1 := sizes_take p.vars k x hx
      have hxz := hz x (List.mem_of_getElem? hx)
      refine zS ?_; refine zS ?_; refine zR ?_; refine zO rfl Rd.mv ?_; refine zO rfl Rd.mv ?_; refine zO rfl (Rd.lss rfl rfl) ?_; refine zO rfl Rd.mv ?_
      first | ((first | refine zW ?_ | refine zQ ?_); refine zO rfl Rd.mv ?_) | refine zU ?_ | refine zV ?_ | refine zZ ?_
      first | ((first | refine zW ?_ | refine zQ ?_); refine zO rfl (Rd.fA rfl) ?_) | refine zU ?_ | refine zV ?_ | refine zZ ?_
      first | ((first | refine zW ?_ | refine zQ ?_); refine zO rfl (Rd.ldC rfl (tyrow rfl) rfl) ?_) | refine zU ?_ | refine zV ?_ | refine zZ ?_
      first | ((first | refine zW ?_ | refine zQ ?_); refine zO rfl (Rd.lenSlice (tyrow rfl) rfl rfl) ?_) | refine zU ?_ | refine zV ?_ | refine zZ ?_
      first | ((first | refine zW ?_ | refine zQ ?_); refine zO rfl (Rd.lss rfl rfl) ?_) | refine zU ?_ | refine zV ?_ | refine zZ ?_
      refine zO rfl (by first | exact Rd.pT rfl | exact Rd.pF rfl | exact Rd.pP rfl) ?_
      refine zN ?_; refine zT ?_
      refine XA.condT rfl (by first | rfl | exact (by first | exact (rfl : decide _ = true) | exact (rfl : decide _ = false) | (refine decide_eq_true ?_; assumption) | (refine decide_eq_false ?_; assumption) | (refine decide_eq_true ?_; omega) | (refine decide_eq_false ?_; omega))) ?_
      refine XA.skip ?_
      refine zT ?_; refine zS ?_
      refine XA.block ?_
      refine zR ?_; refine zO rfl Rd.mv ?_; refine zO rfl (Rd.fA rfl) ?_; refine zO rfl (Rd.ldC rfl (tyrow rfl) rfl) ?_; refine zO rfl Rd.mv ?_
      refine zO rfl (Rd.ixS rfl rfl) ?_
      refine zO rfl (Rd.fA rfl) ?_; refine zO rfl (Rd.ldC rfl (tyrow rfl) rfl) ?_
      refine zO rfl (by first | exact Rd.adi rfl rfl | exact Rd.add rfl rfl) ?_
      refine zO rfl Rd.asg ?_; refine zN ?_
      refine DA.inb_normal ?_
      refine zT ?_; refine zR ?_; refine zO rfl Rd.mv ?_
      refine zO rfl (by first | exact Rd.adi rfl rfl | exact Rd.add rfl rfl) ?_
      refine zO rfl Rd.asg ?_; refine zN ?_; refine zT ?_
      refine ⟨(Keep.upd (Keep.upd (Keep.upd (Keep.upd (Keep.upd (Keep.upd (Keep.upd (Keep.upd (Keep.upd (Keep.upd (Keep.upd (Keep.upd (Keep.upd (Keep.upd (Keep.upd (Keep.upd (Keep.upd (Keep.upd (Keep.upd (Keep.upd (Keep.upd (Keep.upd (Keep.upd (Keep.upd (Keep.hav (Keep.refl _ _) rfl) rfl) rfl) rfl) rfl) rfl) rfl) rfl) rfl) rfl) rfl) rfl) rfl) rfl) rfl) rfl) rfl) rfl) rfl) rfl) rfl) rfl) rfl) rfl) rfl), (k + 1, n + x.size), _, (by (repeat (first | exact trivial | refine ⟨rfl, ?_⟩ | refine ⟨Eq.trans rfl (congrArg Value.bool hmat.symm), ?_⟩)); (first | done | fail)), ?_, ⟨rfl, by simp only; omega, by simp only; omega, rfl⟩, (by simp only; omega)⟩
      · exact zE
    · have hkm : k = m := by omega
      subst hkm
      refine zS ?_; refine zS ?_; refine zR ?_; refine zO rfl Rd.mv ?_; refine zO rfl Rd.mv ?_; refine zO rfl (Rd.lss rfl rfl) ?_; refine zO rfl Rd.mv ?_
      first | ((first | refine zW ?_ | refine zQ ?_); refine zO rfl Rd.mv ?_) | refine zU ?_ | refine zV ?_ | refine zZ ?_
      first | ((first | refine zW ?_ | refine zQ ?_); refine zO rfl (Rd.fA rfl) ?_) | refine zU ?_ | refine zV ?_ | refine zZ ?_
      first | ((first | refine zW ?_ | refine zQ ?_); refine zO rfl (Rd.ldC rfl (tyrow rfl) rfl) ?_) | refine zU ?_ | refine zV ?_ | refine zZ ?_
      first | ((first | refine zW ?_ | refine zQ ?_); refine zO rfl (Rd.lenSlice (tyrow rfl) rfl rfl) ?_) | refine zU ?_ | refine zV ?_ | refine zZ ?_
      first | ((first | refine zW ?_ | refine zQ ?_); refine zO rfl (Rd.lss rfl rfl) ?_) | refine zU ?_ | refine zV ?_ | refine zZ ?_
      refine zO rfl (by first | exact Rd.pT rfl | exact Rd.pF rfl | exact Rd.pP rfl) ?_
      refine zN ?_; refine zT ?_
      refine XA.condF rfl (by first | rfl | exact (by first | exact (rfl : decide _ = true) | exact (rfl : decide _ = false) | (refine decide_eq_true ?_; assumption) | (refine decide_eq_false ?_; assumption) | (refine decide_eq_true ?_; omega) | (refine decide_eq_false ?_; omega))) ?_
      refine XA.exit ?_
      refine DA.thn_exit ?_
      refine DA.thn_exit ?_
      refine DA.inb_same ?_
      refine zT ?_; refine zS ?_; refine zR ?_; refine zO rfl Rd.mv ?_; refine zO rfl Rd.asg ?_; refine zN ?_; refine zT ?_
      refine XA.ret ?_
      exact bodyA.ret (ResA.one rfl rfl) (Ent.nil _) ⟨by rw [← hn], rfl, rfl⟩
  · have hkm : k = m := by omega
    subst hkm
    refine zS ?_; refine zS ?_; refine zR ?_; refine zO rfl Rd.mv ?_; refine zO rfl Rd.mv ?_; refine zO rfl (Rd.lss rfl rfl) ?_; refine zO rfl Rd.mv ?_
    first | ((first | refine zW ?_ | refine zQ ?_); refine zO rfl Rd.mv ?_) | refine zU ?_ | refine zV ?_ | refine zZ ?_
    first | ((first | refine zW ?_ | refine zQ ?_); refine zO rfl (Rd.fA rfl) ?_) | refine zU ?_ | refine zV ?_ | refine zZ ?_
    first | ((first | refine zW ?_ | refine zQ ?_); refine zO rfl (Rd.ldC rfl (tyrow rfl) rfl) ?_) | refine zU ?_ | refine zV ?_ | refine zZ ?_
    first | ((first | refine zW ?_ | refine zQ ?_); refine zO rfl (Rd.lenSlice (tyrow rfl) rfl rfl) ?_) | refine zU ?_ | refine zV ?_ | refine zZ ?_
    first | ((first | refine zW ?_ | refine zQ ?_); refine zO rfl (Rd.lss rfl rfl) ?_) | refine zU ?_ | refine zV ?_ | refine zZ ?_
    refine zO rfl (by first | exact Rd.pT rfl | exact Rd.pF rfl | exact Rd.pP rfl) ?_
    refine zN ?_; refine zT ?_
    refine XA.condF rfl (by first | rfl | exact (by first | exact (rfl : decide _ = true) | exact (rfl : decide _ = false) | (refine decide_eq_true ?_; assumption) | (refine decide_eq_false ?_; assumption) | (refine decide_eq_true ?_; omega) | (refine decide_eq_false ?_; omega))) ?_
    refine XA.exit ?_
    refine DA.thn_exit ?_
    refine DA.thn_exit ?_
    refine DA.inb_same ?_
    refine zT ?_; refine zS ?_; refine zR ?_; refine zO rfl Rd.mv ?_; refine zO rfl Rd.asg ?_; refine zN ?_; refine zT ?_
    refine XA.ret ?_
    exact bodyA.ret (ResA.one rfl rfl) (Ent.nil _) ⟨by rw [← hn], rfl, rfl⟩
end Go.Proofs.Ytmnmcjdgnpgchaa

namespace Go.Proofs.Ytmnmcjdgnpgchaa
open Go X
set_option maxHeartbeats 1000000
/-- A list that a call gives, given for ever. -/
theorem X.CallsA.lstOut {P : Program} {σ : PH} {Γ : List HP} {f : FuncId} {vs : Array Value} {e sz n : Nat} {xs : List Value} (hc : CallsA P f vs σ Γ (RetA fun v σ' Γ' => ∃ p c, v = .slice p n c ∧ σ.sub σ' ∧ Γ' = [lst e sz (.slice p n c) n xs])) :
    CallsA P f vs σ Γ (RetA fun v σ' Γ' => ∃ p c, v = .slice p n c ∧ σ.sub σ' ∧ (n ≤ c ∧ c ≤ maxLen ∧ xs.length = n * sz ∧ (0 < n → ∃ g o, p = some ⟨g, o, none⟩ ∧ PRow σ' g o xs)) ∧ Γ' = []) :=
  ⟨hc.1, fun fr h hh => (hc.2 fr h hh).mono fun e' h' ⟨σ', Γ', a, b⟩ => by
    cases e' with
    | returned v =>
      obtain ⟨p, c, rfl, hs, rfl⟩ := a
      obtain ⟨σ2, ⟨⟩, a, b, c⟩ := holds_freeze' b .head lst_frz lst_frz_mono
      exact ⟨σ2, _, ⟨p, _, rfl, hs.trans b, a, rfl⟩, c⟩
    | _ => exact a.elim⟩
theorem insC_ones (l : List In) : ones (insC l) := fun v hv => by
  simp only [insC, List.mem_flatten, List.mem_map] at hv
  obtain ⟨r, ⟨i, -, rfl⟩, h⟩ := hv
  exact (show ones (inC i) from ones_lit rfl) v h
def RExI (σ : PH) (pr : Pr) (x : Ex) : Prop := ∀ (cs : List Value) (pv : Option Addr) (cv : Nat) (bs : Value),
  PrAt σ [.slice pv pr.vars.length cv, bs] pr → ExAt σ cs x → ExV pr.vars.length x → exN x ≤ 100000 →
  CallsA Try.prog 110 #[.agg #[.slice pv pr.vars.length cv, bs], .agg cs.toArray] σ []
    (RetA fun v σ' Γ' => ∃ p c, v = .slice p (exCode pr.vars x).length c ∧ σ.sub σ' ∧ Γ' = [lst 130 4 (.slice p (exCode pr.vars x).length c) (exCode pr.vars x).length (insC (exCode pr.vars x))])
theorem rexpr_i (pr : Pr) (hz : ∀ x ∈ pr.vars, 0 ≤ x.size ∧ x.size ≤ 1000) (hvl : pr.vars.length ≤ 1000) (x : Ex) : ∀ σ, RExI σ pr x := by
  refine Ex.ind (P := fun x => ∀ σ, RExI σ pr x) ?_ x
  intro op v k l ih σ cs pv cv bs hp hx hV hN
  obtain ⟨pl, cl, rfl, ho, hv, hk, hl⟩ := hx.inv
  simp only [Ex.op, Ex.v, Ex.n, Ex.l] at ho hv hk hl ⊢
  clear hx
  rw [ExV] at hV
  obtain ⟨hop, hlp, hvr, -, hsV⟩ := hV
  rw [exN] at hN
  have hlen : l.length ≤ 100000 := by have := exsN_len l; omega
  refine enterA2 Try.func110 rfl rfl rfl ?_
  refine zS ?_; refine zR ?_
  refine XOA.wr0 rfl WrA.bx ?_
  rintro _ _ _ ⟨g2, rfl, rfl, rfl⟩
  refine XOA.wr0 rfl WrA.bx ?_
  rintro _ _ _ ⟨g3, rfl, rfl, rfl⟩
  refine zO rfl Rd.asg ?_; refine zN ?_; refine zT ?_; refine zS ?_; refine zR ?_; refine zO rfl Rd.asg ?_; refine zN ?_; refine zT ?_; refine zS ?_; refine zS ?_; refine zR ?_; refine zO rfl Rd.asg ?_; refine zN ?_; refine zT ?_
  refine XA.block ?_
  refine XA.gen [(2, _), (3, _), (4, _), (5, _), (6, _)] ⟨(by with_reducible (conv => lhs; whnf)), (by with_reducible (conv => lhs; whnf)), (by with_reducible (conv => lhs; whnf)), (by with_reducible (conv => lhs; whnf)), (by with_reducible (conv => lhs; whnf)), trivial⟩ (fun δ => ?_)
  dsimp only [List.foldl]
  refine XA.loop [(5, 6), (8, 23)] (fun q : Nat × (List In × (Option Addr × Nat)) => [(6, i64 q.1), (5, .slice q.2.2.1 q.2.1.length q.2.2.2)]) (fun q σ' Γ' => σ.sub σ' ∧ q.1 ≤ l.length ∧ q.2.1 = exsCode pr.vars (l.take q.1) ∧ Γ' = [lst 130 4 (.slice q.2.2.1 q.2.1.length q.2.2.2) q.2.1.length (insC q.2.1), blk g2 [.slice pv pr.vars.length cv, bs] 25, blk g3 [i64 op, i64 v, i64 k, .slice pl l.length cl] 93]) (fun q => l.length - q.1) (0, ([], (none, 0))) (by exact ⟨rfl, rfl, trivial⟩) (Δ0 := _) ?_ (⟨.refl _, Nat.zero_le _, by simp [exsCode], rfl⟩) ?_
  · exact zE
  rintro ⟨i, M, p', c'⟩ δ σ1 _ ⟨hs1, hi, hM, rfl⟩
  dsimp only [ovr, List.foldl]
  have hi : i ≤ l.length := hi
  have hM : M = exsCode pr.vars (l.take i) := hM
  have hMl : M.length + exsN (l.drop i) + 1 ≤ 100000 := by
    have h2 := exsN_app (l.take i) (l.drop i); rw [List.take_append_drop] at h2
    rw [hM, exsCode_len]; omega
  refine zS ?_; refine zS ?_; refine zR ?_; refine zO rfl Rd.mv ?_; refine zO rfl (Rd.fA rfl) ?_; refine zO rfl (Rd.ldC rfl (tyrow rfl) rfl) ?_; refine zO rfl (Rd.lenSlice (tyrow rfl) rfl rfl) ?_; refine zO rfl (Rd.lss rfl rfl) ?_; refine zN ?_; refine zT ?_
  refine XA.condp rfl (fun hlt => ?_) (fun hlt => ?_)
  · have hlt : i < l.length := by omega
    obtain ⟨x', hx'⟩ : ∃ x', l[i]? = some x' := ⟨_, List.getElem?_eq_getElem hlt⟩
    have hl1 := hl.mono hs1 (fun _ _ h => h.mono hs1)
    obtain ⟨g, o, row, rfl, hrx, hrl, hrow⟩ := hl1.at hx'
    have hmem := List.mem_of_getElem? hx'
    have hone := hrx.ones
    have hdx : l.drop i = x' :: l.drop (i + 1) := drop_get hx'
    have hNx : exN x' ≤ exsN (l.drop i) := exsN_mem (by rw [hdx]; simp)
    have hE := exCode_len pr.vars x'
    refine XA.skip ?_
    refine zT ?_; refine zS ?_
    refine XA.block ?_
    refine XA.draw (by kernel_rfl) _ _ [7, 8] [(0, .pu), (1, .rd), (2, .pu), (3, .rd), (4, .pu), (5, .pu), (6, .rd), (7, .wr), (8, .wr), (9, .pu)] (by kernel_rfl) (PH.sub.refl _) (Ent.sel (R := blk g2 _ _) (by ((repeat (first | with_reducible exact Sel.head | apply Sel.tail)); (first | done | fail))) (Ent.sel (R := blk g3 _ _) (by ((repeat (first | with_reducible exact Sel.head | apply Sel.tail)); (first | done | fail))) (Ent.nil _))) ?_
    refine XPA.pu rfl rfl Gd.free Rd.mv ?_
    refine XPA.rd rfl rfl Gd.free (Rd.ldA rfl) ?_
    refine XPA.pu rfl rfl Gd.free (Rd.fA rfl) ?_
    refine XPA.rd rfl rfl Gd.free (Rd.ldC rfl (tyrow rfl) rfl) ?_
    refine XPA.pu rfl rfl Gd.free Rd.mv ?_
    refine XPA.pu rfl rfl Gd.free (Rd.ixS rfl rfl) ?_
    refine XPA.rd rfl rfl Gd.free (Rd.ldA rfl) ?_
    refine XPA.wrZ0 rfl rfl Gd.free (by kernel_rfl) (WrA.cE ((ih x' hmem σ1 row pv cv bs (hp.mono hs1) hrx (hsV.mem x' hmem) (by omega)).lstOut) rfl) ?_
    rintro _ σ2 _ ⟨_, ⟨p2, c2, rfl, hs2, hf2, rfl⟩, rfl⟩
    refine XPA.cl ?_
    refine XPA.wrZ0 rfl rfl Gd.free (by kernel_rfl) (WrA.appP (tyrow rfl) rfl (tyrow rfl) rfl rfl (by ((repeat (first | with_reducible exact Sel.head | apply Sel.tail)); (first | done | fail))) rfl hf2 rfl (insC_ones _) (by simp only [maxLen]; omega) (by simp only []; omega) List.length_append (insC_app _ _)) ?_
    rintro _ _ _ ⟨p8, c8, rfl, rfl, rfl⟩
    refine XPA.pu rfl rfl Gd.free Rd.asg ?_
    refine XPA.nil ?_
    refine DA.inb_normal ?_
    refine zT ?_; refine zR ?_; refine zO rfl Rd.mv ?_
    refine zO rfl (by first | exact Rd.adi rfl rfl | exact Rd.add rfl rfl) ?_
    refine zO rfl Rd.asg ?_; refine zN ?_; refine zT ?_
    refine ⟨(Keep.upd (Keep.upd (Keep.upd (Keep.upd (Keep.updO (Keep.updO (Keep.upd (Keep.upd (Keep.upd (Keep.upd (Keep.upd (Keep.upd (Keep.upd (Keep.upd (Keep.upd (Keep.upd (Keep.upd (Keep.upd (Keep.upd (Keep.upd (Keep.hav (Keep.hav (Keep.refl _ _) rfl) rfl) rfl) rfl) rfl) rfl) rfl) rfl) rfl) rfl) rfl) rfl) rfl) rfl) rfl) rfl) rfl) rfl) rfl) rfl) rfl) rfl), (i + 1, (M ++ exCode pr.vars x', (p8, c8))), _, (by (repeat (first | exact trivial | refine ⟨rfl, ?_⟩ | refine ⟨Eq.trans rfl (congrArg Value.bool hmat.symm), ?_⟩)); (first | done | fail)), ?_, ⟨hs1.trans hs2, hlt, by simp only; rw [hM, exsCode_snoc _ hx'], rfl⟩, (by simp only; omega)⟩
    · exact zE
  have hil : i = l.length := by omega
  subst hil
  rw [List.take_length] at hM
  have hfin : exCode pr.vars (.mk op v k l) = M ++ [opIn pr.vars op v k] := by rw [hM, exCode]
  rw [hfin]
  simp only [List.length_append, List.length_singleton, insC_snoc]
  by_cases h2 : op = 2
  · subst h2
    have hop2 : opIn pr.vars 2 v k = ⟨2, cellOf pr.vars v, 0, k⟩ := rfl
    rw [hop2]
    refine XA.exit ?_
    refine DA.thn_exit ?_
    refine DA.thn_exit ?_
    refine DA.inb_same ?_
    refine zT ?_; refine zS ?_; refine zR ?_; refine zO rfl (Rd.fA rfl) ?_; refine zO rfl (Rd.ldC rfl (tyrow rfl) rfl) ?_; refine zO rfl (Rd.fA rfl) ?_; refine zO rfl (Rd.ldC rfl (tyrow rfl) rfl) ?_
    refine zO rfl (Rd.bl (fun _ _ => tyrow) rfl rfl rfl) ?_
    refine XOA.wr0 rfl (WrA.alloc (tyrow rfl)) ?_
    rintro _ _ _ ⟨g7, rfl, rfl, rfl⟩
    refine XOA.wr0 rfl (WrA.st (tyrow rfl) rfl) ?_
    rintro _ _ _ ⟨rfl, rfl, rfl⟩
    refine zN ?_; refine zT ?_; refine zS ?_; refine zS ?_; refine zR ?_; refine zO rfl (Rd.fA rfl) ?_; refine zO rfl (Rd.ldC rfl (tyrow rfl) rfl) ?_; refine zO rfl (Rd.eql rfl rfl) ?_; refine zO rfl Rd.mv ?_
    first | ((first | refine zW ?_ | refine zQ ?_); refine zO rfl (Rd.fA rfl) ?_) | refine zU ?_ | refine zV ?_ | refine zZ ?_
    first | ((first | refine zW ?_ | refine zQ ?_); refine zO rfl (Rd.ldC rfl (tyrow rfl) rfl) ?_) | refine zU ?_ | refine zV ?_ | refine zZ ?_
    first | ((first | refine zW ?_ | refine zQ ?_); refine zO rfl (Rd.eql rfl rfl) ?_) | refine zU ?_ | refine zV ?_ | refine zZ ?_
    refine zO rfl (by first | exact Rd.pT rfl | exact Rd.pF rfl | exact Rd.pP rfl) ?_
    refine zN ?_; refine zT ?_
    refine XA.condT rfl rfl ?_
    refine zR ?_; refine zO rfl (Rd.ldA rfl) ?_; refine zO rfl (Rd.fA rfl) ?_; refine zO rfl (Rd.ldC rfl (tyrow rfl) rfl) ?_
    refine XOA.wr0 rfl (WrA.cE (rcell_a σ1 _ pr v (hp.mono hs1) hz hvl) rfl) ?_
    rintro _ _ _ ⟨_, ⟨rfl, rfl, rfl⟩, rfl⟩
    refine XOA.cl ?_
    refine zO rfl (Rd.fA rfl) ?_
    refine XOA.wr0 rfl (WrA.st (tyrow rfl) rfl) ?_
    rintro _ _ _ ⟨rfl, rfl, rfl⟩
    refine zN ?_; refine zT ?_; refine zS ?_; refine zS ?_; refine zR ?_; refine zO rfl (Rd.fA rfl) ?_; refine zO rfl (Rd.ldC rfl (tyrow rfl) rfl) ?_; refine zO rfl (Rd.eql rfl rfl) ?_; refine zN ?_; refine zT ?_
    refine XA.condF rfl rfl ?_
    refine XA.skip ?_
    refine zT ?_; refine zS ?_; refine zR ?_; refine zO rfl Rd.mv ?_; refine zO rfl (Rd.ldA rfl) ?_
    refine XOA.wr0 rfl (WrA.bs1 (tyrow rfl) rfl (tyrow rfl)) ?_
    rintro _ _ _ ⟨g55, rfl, rfl, rfl⟩
    refine XOA.wr0 rfl (WrA.ap1 (tyrow rfl) rfl (tyrow rfl) rfl rfl rfl) ?_
    rintro _ _ _ ⟨p56, c56, rfl, rfl, rfl⟩
    refine zO rfl Rd.asg ?_; refine zN ?_; refine zT ?_
    refine XA.ret ?_
    exact bodyA.ret (ResA.one rfl rfl) zE ⟨_, _, rfl, hs1, rfl⟩
  · by_cases h3 : op = 3
    · subst h3
      obtain ⟨hv0, hv1⟩ := hvr (.inr rfl)
      obtain ⟨vx, hvx⟩ : ∃ vx, pr.vars[v.toNat]? = some vx := ⟨_, List.getElem?_eq_getElem (by omega)⟩
      have hop3 : opIn pr.vars 3 v k = ⟨3, cellOf pr.vars v, vx.size, k⟩ := by rw [opIn, sizeV, hvx]; rfl
      rw [hop3]
      have hp0 := hp.mono hs1
      obtain ⟨vs', bs', heq, hpv, hpb⟩ := hp.mono hs1
      simp only [List.cons.injEq, and_true] at heq
      obtain ⟨rfl, rfl⟩ := heq
      obtain ⟨gg, oo, rowv, rfl, ⟨rfl, ⟨hz0, hz1⟩, hnm⟩, hrl, hrow⟩ := hpv.at hvx
      have r1 : PRow σ1 gg (oo + v.toNat * 2 + 1) [i64 vx.size] := hrow.sub (j := 1) rfl
      refine XA.exit ?_
      refine DA.thn_exit ?_
      refine DA.thn_exit ?_
      refine DA.inb_same ?_
      refine zT ?_; refine zS ?_; refine zR ?_; refine zO rfl (Rd.fA rfl) ?_; refine zO rfl (Rd.ldC rfl (tyrow rfl) rfl) ?_; refine zO rfl (Rd.fA rfl) ?_; refine zO rfl (Rd.ldC rfl (tyrow rfl) rfl) ?_
      refine zO rfl (Rd.bl (fun _ _ => tyrow) rfl rfl rfl) ?_
      refine XOA.wr0 rfl (WrA.alloc (tyrow rfl)) ?_
      rintro _ _ _ ⟨g7, rfl, rfl, rfl⟩
      refine XOA.wr0 rfl (WrA.st (tyrow rfl) rfl) ?_
      rintro _ _ _ ⟨rfl, rfl, rfl⟩
      refine zN ?_; refine zT ?_; refine zS ?_; refine zS ?_; refine zR ?_; refine zO rfl (Rd.fA rfl) ?_; refine zO rfl (Rd.ldC rfl (tyrow rfl) rfl) ?_; refine zO rfl (Rd.eql rfl rfl) ?_; refine zO rfl Rd.mv ?_
      first | ((first | refine zW ?_ | refine zQ ?_); refine zO rfl (Rd.fA rfl) ?_) | refine zU ?_ | refine zV ?_ | refine zZ ?_
      first | ((first | refine zW ?_ | refine zQ ?_); refine zO rfl (Rd.ldC rfl (tyrow rfl) rfl) ?_) | refine zU ?_ | refine zV ?_ | refine zZ ?_
      first | ((first | refine zW ?_ | refine zQ ?_); refine zO rfl (Rd.eql rfl rfl) ?_) | refine zU ?_ | refine zV ?_ | refine zZ ?_
      refine zO rfl (by first | exact Rd.pT rfl | exact Rd.pF rfl | exact Rd.pP rfl) ?_
      refine zN ?_; refine zT ?_
      refine XA.condT rfl rfl ?_
      refine zR ?_; refine zO rfl (Rd.ldA rfl) ?_; refine zO rfl (Rd.fA rfl) ?_; refine zO rfl (Rd.ldC rfl (tyrow rfl) rfl) ?_
      refine XOA.wr0 rfl (WrA.cE (rcell_a σ1 _ pr v hp0 hz hvl) rfl) ?_
      rintro _ _ _ ⟨_, ⟨rfl, rfl, rfl⟩, rfl⟩
      refine XOA.cl ?_
      refine zO rfl (Rd.fA rfl) ?_
      refine XOA.wr0 rfl (WrA.st (tyrow rfl) rfl) ?_
      rintro _ _ _ ⟨rfl, rfl, rfl⟩
      refine zN ?_; refine zT ?_; refine zS ?_; refine zS ?_; refine zR ?_; refine zO rfl (Rd.fA rfl) ?_; refine zO rfl (Rd.ldC rfl (tyrow rfl) rfl) ?_; refine zO rfl (Rd.eql rfl rfl) ?_; refine zN ?_; refine zT ?_
      refine XA.condT rfl rfl ?_
      refine zR ?_; refine zO rfl (Rd.fA rfl) ?_; refine zO rfl (Rd.ldC rfl (tyrow rfl) rfl) ?_; refine zO rfl (Rd.fA rfl) ?_; refine zO rfl (Rd.ldC rfl (tyrow rfl) rfl) ?_
      refine zO rfl (Rd.ixS rfl rfl) ?_
      refine zO rfl (Rd.fA rfl) ?_; refine zO rfl (Rd.ldC rfl (tyrow rfl) rfl) ?_; refine zO rfl (Rd.fA rfl) ?_
      refine XOA.wr0 rfl (WrA.st (tyrow rfl) rfl) ?_
      rintro _ _ _ ⟨rfl, rfl, rfl⟩
      refine zN ?_; refine zT ?_; refine zS ?_; refine zR ?_; refine zO rfl Rd.mv ?_; refine zO rfl (Rd.ldA rfl) ?_
      refine XOA.wr0 rfl (WrA.bs1 (tyrow rfl) rfl (tyrow rfl)) ?_
      rintro _ _ _ ⟨g55, rfl, rfl, rfl⟩
      refine XOA.wr0 rfl (WrA.ap1 (tyrow rfl) rfl (tyrow rfl) rfl rfl rfl) ?_
      rintro _ _ _ ⟨p56, c56, rfl, rfl, rfl⟩
      refine zO rfl Rd.asg ?_; refine zN ?_; refine zT ?_
      refine XA.ret ?_
      exact bodyA.ret (ResA.one rfl rfl) zE ⟨_, _, rfl, hs1, rfl⟩
    · have hop4 : opIn pr.vars op v k = ⟨op, 0, 0, k⟩ := by rw [opIn, if_neg (by omega), if_neg h3]
      rw [hop4]
      refine XA.exit ?_
      refine DA.thn_exit ?_
      refine DA.thn_exit ?_
      refine DA.inb_same ?_
      refine zT ?_; refine zS ?_; refine zR ?_; refine zO rfl (Rd.fA rfl) ?_; refine zO rfl (Rd.ldC rfl (tyrow rfl) rfl) ?_; refine zO rfl (Rd.fA rfl) ?_; refine zO rfl (Rd.ldC rfl (tyrow rfl) rfl) ?_
      refine zO rfl (Rd.bl (fun _ _ => tyrow) rfl rfl rfl) ?_
      refine XOA.wr0 rfl (WrA.alloc (tyrow rfl)) ?_
      rintro _ _ _ ⟨g7, rfl, rfl, rfl⟩
      refine XOA.wr0 rfl (WrA.st (tyrow rfl) rfl) ?_
      rintro _ _ _ ⟨rfl, rfl, rfl⟩
      refine zN ?_; refine zT ?_; refine zS ?_; refine zS ?_; refine zR ?_; refine zO rfl (Rd.fA rfl) ?_; refine zO rfl (Rd.ldC rfl (tyrow rfl) rfl) ?_; refine zO rfl (Rd.eql rfl rfl) ?_; refine zO rfl Rd.mv ?_
      first | ((first | refine zW ?_ | refine zQ ?_); refine zO rfl (Rd.fA rfl) ?_) | refine zU ?_ | refine zV ?_ | refine zZ ?_
      first | ((first | refine zW ?_ | refine zQ ?_); refine zO rfl (Rd.ldC rfl (tyrow rfl) rfl) ?_) | refine zU ?_ | refine zV ?_ | refine zZ ?_
      first | ((first | refine zW ?_ | refine zQ ?_); refine zO rfl (Rd.eql rfl rfl) ?_) | refine zU ?_ | refine zV ?_ | refine zZ ?_
      refine zO rfl (by first | exact Rd.pT rfl | exact Rd.pF rfl | exact Rd.pP rfl) ?_
      refine zN ?_; refine zT ?_
      refine XA.condF rfl (decide_eq_false h3) ?_
      refine XA.skip ?_
      refine zT ?_; refine zS ?_; refine zS ?_; refine zR ?_; refine zO rfl (Rd.fA rfl) ?_; refine zO rfl (Rd.ldC rfl (tyrow rfl) rfl) ?_; refine zO rfl (Rd.eql rfl rfl) ?_; refine zN ?_; refine zT ?_
      refine XA.condF rfl (decide_eq_false h3) ?_
      refine XA.skip ?_
      refine zT ?_; refine zS ?_; refine zR ?_; refine zO rfl Rd.mv ?_; refine zO rfl (Rd.ldA rfl) ?_
      refine XOA.wr0 rfl (WrA.bs1 (tyrow rfl) rfl (tyrow rfl)) ?_
      rintro _ _ _ ⟨g55, rfl, rfl, rfl⟩
      refine XOA.wr0 rfl (WrA.ap1 (tyrow rfl) rfl (tyrow rfl) rfl rfl rfl) ?_
      rintro _ _ _ ⟨p56, c56, rfl, rfl, rfl⟩
      refine zO rfl Rd.asg ?_; refine zN ?_; refine zT ?_
      refine XA.ret ?_
      exact bodyA.ret (ResA.one rfl rfl) zE ⟨_, _, rfl, hs1, rfl⟩
end Go.Proofs.Ytmnmcjdgnpgchaa

namespace Go.Proofs.Ytmnmcjdgnpgchaa
open Go X
set_option maxHeartbeats 1000000
def RStI (pr : Pr) (x : St) : Prop := ∀ (σ : PH) (cs : List Value) (pv : Option Addr) (cv : Nat) (bs : Value) (k : Nat),
  PrAt σ [.slice pv pr.vars.length cv, bs] pr → StAt σ cs x → StV pr.vars.length x → k + stN x ≤ 100000 →
  CallsA Try.prog 94 #[.agg #[.slice pv pr.vars.length cv, bs], .agg cs.toArray, i64 k] σ []
    (RetA fun v σ' Γ' => ∃ p c, v = .slice p (stCode pr.vars x k).length c ∧ σ.sub σ' ∧ Γ' = [lst 130 4 (.slice p (stCode pr.vars x k).length c) (stCode pr.vars x k).length (insC (stCode pr.vars x k))])
theorem rlist_i (pr : Pr) (l : List St) (ih : ∀ x ∈ l, RStI pr x) (σ : PH) (sl : Value) (pv : Option Addr) (cv : Nat) (bs : Value) (k : Nat)
    (hp : PrAt σ [.slice pv pr.vars.length cv, bs] pr) (hl : PSl 12 StAt σ sl l) (hsV : StsV pr.vars.length l) (hN : k + stsN l ≤ 100000) :
    CallsA Try.prog 80 #[.agg #[.slice pv pr.vars.length cv, bs], sl, i64 k] σ []
      (RetA fun v σ' Γ' => ∃ p c, v = .slice p (stsCode pr.vars l k).length c ∧ σ.sub σ' ∧ Γ' = [lst 130 4 (.slice p (stsCode pr.vars l k).length c) (stsCode pr.vars l k).length (insC (stsCode pr.vars l k))]) := by
  obtain ⟨pl, cl, rfl, hle, hmx⟩ := hl.shape
  have hlen : l.length ≤ 100000 := by have := stsN_len l; omega
  refine enterA3 Try.func80 rfl rfl rfl ?_
  refine zS ?_; refine zR ?_
  refine XOA.wr0 rfl WrA.bx ?_
  rintro _ _ _ ⟨g3, rfl, rfl, rfl⟩
  refine zO rfl Rd.asg ?_; refine zN ?_; refine zT ?_; refine zS ?_; refine zR ?_; refine zO rfl Rd.asg ?_; refine zN ?_; refine zT ?_; refine zS ?_; refine zS ?_; refine zR ?_; refine zO rfl Rd.asg ?_; refine zN ?_; refine zT ?_
  refine XA.block ?_
  refine XA.gen [(1, _), (2, _), (3, _), (6, _), (7, _), (8, _)] ⟨(by with_reducible (conv => lhs; whnf)), (by with_reducible (conv => lhs; whnf)), (by with_reducible (conv => lhs; whnf)), (by with_reducible (conv => lhs; whnf)), (by with_reducible (conv => lhs; whnf)), (by with_reducible (conv => lhs; whnf)), trivial⟩ (fun δ => ?_)
  dsimp only [List.foldl]
  refine XA.loop [(7, 26)] (fun q : Nat × (List In × (Option Addr × Nat)) => [(8, i64 q.1), (7, .slice q.2.2.1 q.2.1.length q.2.2.2)]) (fun q σ' Γ' => σ.sub σ' ∧ q.1 ≤ l.length ∧ q.2.1 = stsCode pr.vars (l.take q.1) k ∧ Γ' = [lst 130 4 (.slice q.2.2.1 q.2.1.length q.2.2.2) q.2.1.length (insC q.2.1), blk g3 [.slice pv pr.vars.length cv, bs] 25]) (fun q => l.length - q.1) (0, ([], (none, 0))) (by exact ⟨rfl, rfl, trivial⟩) (Δ0 := _) ?_ (⟨.refl _, Nat.zero_le _, by simp [stsCode], rfl⟩) ?_
  · exact zE
  rintro ⟨i, M, p', c'⟩ δ σ1 _ ⟨hs1, hi, hM, rfl⟩
  dsimp only [ovr, List.foldl]
  have hi : i ≤ l.length := hi
  have hM : M = stsCode pr.vars (l.take i) k := hM
  have hMl : k + M.length + stsN (l.drop i) ≤ 100000 := by
    have h2 := stsN_app (l.take i) (l.drop i); rw [List.take_append_drop] at h2
    have h3 := stsCode_len pr.vars (l.take i) k
    rw [hM]; omega
  refine zS ?_; refine zS ?_; refine zR ?_; refine zO rfl Rd.mv ?_; refine zO rfl Rd.mv ?_; refine zO rfl (Rd.lenSlice (tyrow rfl) rfl rfl) ?_; refine zO rfl (Rd.lss rfl rfl) ?_; refine zN ?_; refine zT ?_
  refine XA.condp rfl (fun hlt => ?_) (fun hlt => ?_)
  · have hlt : i < l.length := by omega
    obtain ⟨x', hx'⟩ : ∃ x', l[i]? = some x' := ⟨_, List.getElem?_eq_getElem hlt⟩
    have hl1 := hl.mono hs1 (fun _ _ h => h.mono hs1)
    obtain ⟨g, o, row, rfl, hrx, hrl, hrow⟩ := hl1.at hx'
    have hmem := List.mem_of_getElem? hx'
    have hone := hrx.ones
    have hdx : l.drop i = x' :: l.drop (i + 1) := drop_get hx'
    have hNx : stN x' ≤ stsN (l.drop i) := stsN_mem (by rw [hdx]; simp)
    have hE := stCode_len pr.vars x' (k + M.length)
    have hih := (ih x' hmem σ1 row pv cv bs (k + M.length) (hp.mono hs1) hrx (hsV.mem x' hmem) (by omega)).lstOut
    rw [show (((k + M.length : Nat) : Int)) = (k : Int) + (M.length : Int) from by omega] at hih
    refine XA.skip ?_
    refine zT ?_; refine zS ?_
    refine XA.block ?_
    refine XA.draw (by kernel_rfl) _ _ [10, 11] [(0, .pu), (1, .rd), (2, .pu), (3, .pu), (4, .pu), (5, .rd), (6, .pu), (7, .pu), (8, .pu), (9, .pu), (10, .wr), (11, .wr), (12, .pu)] (by kernel_rfl) (PH.sub.refl _) (Ent.sel (R := blk g3 _ _) (by ((repeat (first | with_reducible exact Sel.head | apply Sel.tail)); (first | done | fail))) (Ent.nil _)) ?_
    refine XPA.pu rfl rfl Gd.free Rd.mv ?_
    refine XPA.rd rfl rfl Gd.free (Rd.ldA rfl) ?_
    refine XPA.pu rfl rfl Gd.free Rd.mv ?_
    refine XPA.pu rfl rfl Gd.free Rd.mv ?_
    refine XPA.pu rfl rfl Gd.free (Rd.ixS rfl rfl) ?_
    refine XPA.rd rfl rfl Gd.free (Rd.ldA rfl) ?_
    refine XPA.pu rfl rfl Gd.free Rd.mv ?_
    refine XPA.pu rfl rfl Gd.free Rd.mv ?_
    refine XPA.pu rfl rfl Gd.free (Rd.lenSlice (tyrow rfl) rfl rfl) ?_
    refine XPA.pu rfl rfl Gd.free (by first | exact Rd.adi rfl rfl | exact Rd.add rfl rfl) ?_
    refine XPA.wrZ0 rfl rfl Gd.free (by kernel_rfl) (WrA.cE (hih) rfl) ?_
    rintro _ σ2 _ ⟨_, ⟨p2, c2, rfl, hs2, hf2, rfl⟩, rfl⟩
    refine XPA.cl ?_
    refine XPA.wrZ0 rfl rfl Gd.free (by kernel_rfl) (WrA.appP (tyrow rfl) rfl (tyrow rfl) rfl rfl (by ((repeat (first | with_reducible exact Sel.head | apply Sel.tail)); (first | done | fail))) rfl hf2 rfl (insC_ones _) (by simp only [maxLen]; omega) (by simp only []; omega) List.length_append (insC_app _ _)) ?_
    rintro _ _ _ ⟨p8, c8, rfl, rfl, rfl⟩
    refine XPA.pu rfl rfl Gd.free Rd.asg ?_
    refine XPA.nil ?_
    refine DA.inb_normal ?_
    refine zT ?_; refine zR ?_; refine zO rfl Rd.mv ?_
    refine zO rfl (by first | exact Rd.adi rfl rfl | exact Rd.add rfl rfl) ?_
    refine zO rfl Rd.asg ?_; refine zN ?_; refine zT ?_
    refine ⟨(Keep.upd (Keep.upd (Keep.upd (Keep.upd (Keep.updO (Keep.updO (Keep.upd (Keep.upd (Keep.upd (Keep.upd (Keep.upd (Keep.upd (Keep.upd (Keep.upd (Keep.upd (Keep.upd (Keep.upd (Keep.upd (Keep.upd (Keep.upd (Keep.upd (Keep.upd (Keep.hav (Keep.refl _ _) rfl) rfl) rfl) rfl) rfl) rfl) rfl) rfl) rfl) rfl) rfl) rfl) rfl) rfl) rfl) rfl) rfl) rfl) rfl) rfl) rfl) rfl) rfl), (i + 1, (M ++ stCode pr.vars x' (k + M.length), (p8, c8))), _, (by (repeat (first | exact trivial | refine ⟨rfl, ?_⟩ | refine ⟨Eq.trans rfl (congrArg Value.bool hmat.symm), ?_⟩)); (first | done | fail)), ?_, ⟨hs1.trans hs2, hlt, by simp only; rw [stsCode_snoc _ hx', ← hM], rfl⟩, (by simp only; omega)⟩
    · exact zE
  have hil : i = l.length := by omega
  subst hil
  rw [List.take_length] at hM
  rw [← hM]
  refine XA.exit ?_
  refine DA.thn_exit ?_
  refine DA.thn_exit ?_
  refine DA.inb_same ?_
  refine zT ?_; refine zS ?_; refine zR ?_; refine zO rfl Rd.mv ?_; refine zO rfl Rd.asg ?_; refine zN ?_; refine zT ?_
  refine XA.ret ?_
  exact bodyA.ret (ResA.one rfl rfl) zE ⟨p', c', rfl, hs1, rfl⟩
theorem rstmt_i (pr : Pr) (hz : ∀ x ∈ pr.vars, 0 ≤ x.size ∧ x.size ≤ 1000) (hvl : pr.vars.length ≤ 1000) (x : St) : RStI pr x := by
  refine St.ind (P := RStI pr) ?_ x
  intro op v ex fx body els ih jh σ cs pv cv bs k hp hx hV hN
  obtain ⟨pe, de, pf, df, pb, cb, pl, cl, rfl, -, -, hxe, hxf, hxb, hxl⟩ := hx.inv12
  simp only [St.op, St.v, St.e, St.f, St.body, St.els] at hxe hxf hxb hxl ⊢
  clear hx
  rw [StV] at hV
  obtain ⟨hop, hv, he, hf, -, -, hsb, hse⟩ := hV
  rw [stN] at hN
  have hlE := exCode_len pr.vars ex
  have hlF := exCode_len pr.vars fx
  have e1 := exN_pos ex
  have e2 := exN_pos fx
  have hops : op = 1 ∨ op = 2 ∨ op = 3 ∨ op = 4 ∨ op = 7 ∨ op = 5 ∨ op = 6 := by omega
  rcases hops with rfl | rfl | rfl | rfl | rfl | h56
  · have hc : stCode pr.vars (.mk 1 v ex fx body els) k = exCode pr.vars ex ++ [⟨9, cellOf pr.vars v, 0, 0⟩] := by rw [stCode]; rfl
    rw [hc]
    simp only [List.length_append, List.length_singleton, insC_snoc, insC_app]
    refine enterA3 Try.func94 rfl rfl rfl ?_
    refine zS ?_; refine zR ?_
    refine XOA.wr0 rfl WrA.bx ?_
    rintro _ _ _ ⟨g3, rfl, rfl, rfl⟩
    refine XOA.wr0 rfl WrA.bx ?_
    rintro _ _ _ ⟨g4, rfl, rfl, rfl⟩
    refine zO rfl Rd.asg ?_; refine zN ?_; refine zT ?_; refine zS ?_; refine zR ?_; refine zO rfl Rd.asg ?_; refine zN ?_; refine zT ?_; refine zS ?_; refine zS ?_; refine zR ?_; refine zO rfl (Rd.fA rfl) ?_; refine zO rfl (Rd.ldC rfl (tyrow rfl) rfl) ?_
    refine XOA.wr0 rfl (WrA.cE (rneeded_a σ 1 101) rfl) ?_
    rintro _ _ _ ⟨_, ⟨rfl, rfl, rfl⟩, rfl⟩
    refine XOA.cl ?_
    rw [(need_op 1).1]
    refine zN ?_; refine zT ?_
    refine XA.condT rfl rfl ?_
    refine zR ?_; refine zO rfl (Rd.ldA rfl) ?_; refine zO rfl (Rd.fA rfl) ?_; refine zO rfl (Rd.ldA rfl) ?_
    refine XOA.wr0 rfl (WrA.cE ((rexpr_i pr hz hvl ex σ _ _ cv bs hp hxe (he rfl).1 (by omega))) rfl) ?_
    rintro _ σ1 _ ⟨_, ⟨p2, c2, rfl, hs1, rfl⟩, rfl⟩
    refine XOA.cl ?_
    refine zO rfl Rd.asg ?_; refine zN ?_; refine zT ?_; refine zS ?_; refine zR ?_; refine zO rfl (Rd.ldA rfl) ?_; refine zO rfl (Rd.fA rfl) ?_; refine zO rfl (Rd.ldC rfl (tyrow rfl) rfl) ?_
    refine XOA.wr0 rfl (WrA.cE (rcell_a σ1 _ pr v (hp.mono hs1) hz hvl) rfl) ?_
    rintro _ _ _ ⟨_, ⟨rfl, rfl, rfl⟩, rfl⟩
    refine XOA.cl ?_
    refine zO rfl Rd.asg ?_; refine zN ?_; refine zT ?_; refine zS ?_; refine zS ?_; refine zR ?_; refine zO rfl (Rd.fA rfl) ?_; refine zO rfl (Rd.ldC rfl (tyrow rfl) rfl) ?_; refine zN ?_; refine zT ?_
    refine XA.block ?_
    refine zS ?_; refine zR ?_; refine zO rfl (Rd.eql rfl rfl) ?_; refine zO rfl Rd.asg ?_; refine zN ?_; refine zT ?_
    refine XA.condT rfl rfl ?_
    refine zS ?_; refine zR ?_; refine zO rfl Rd.mv ?_; refine zO rfl Rd.mv ?_
    refine zO rfl (Rd.bl (fun _ _ => tyrow) rfl rfl rfl) ?_
    refine XOA.wr0 rfl (WrA.bs1 (tyrow rfl) rfl (tyrow rfl)) ?_
    rintro _ _ _ ⟨g30, rfl, rfl, rfl⟩
    refine XOA.wr0 rfl (WrA.ap1 (tyrow rfl) rfl (tyrow rfl) rfl rfl rfl) ?_
    rintro _ _ _ ⟨p31, c31, rfl, rfl, rfl⟩
    refine zO rfl Rd.asg ?_; refine zN ?_; refine zT ?_
    refine XA.ret ?_
    refine DA.inb_ret ?_
    refine DA.thn_ret ?_
    exact bodyA.ret (ResA.one rfl rfl) zE ⟨_, _, rfl, hs1, rfl⟩
  · obtain ⟨hv0, hv1⟩ := hv rfl
    obtain ⟨vx, hvx⟩ : ∃ vx, pr.vars[v.toNat]? = some vx := ⟨_, List.getElem?_eq_getElem (by omega)⟩
    have hc : stCode pr.vars (.mk 2 v ex fx body els) k = exCode pr.vars ex ++ exCode pr.vars fx ++ [⟨10, cellOf pr.vars v, vx.size, 0⟩] := by rw [stCode, sizeV, hvx]; rfl
    rw [hc]
    rw [List.length_append, List.length_singleton, insC_snoc]
    have hp0 := hp
    obtain ⟨vs', bs', heq, hpv, hpb⟩ := hp
    simp only [List.cons.injEq, and_true] at heq
    obtain ⟨rfl, rfl⟩ := heq
    obtain ⟨gg, oo, rowv, rfl, ⟨rfl, ⟨hz0, hz1⟩, hnm⟩, hrl, hrow⟩ := hpv.at hvx
    refine enterA3 Try.func94 rfl rfl rfl ?_
    refine zS ?_; refine zR ?_
    refine XOA.wr0 rfl WrA.bx ?_
    rintro _ _ _ ⟨g3, rfl, rfl, rfl⟩
    refine XOA.wr0 rfl WrA.bx ?_
    rintro _ _ _ ⟨g4, rfl, rfl, rfl⟩
    refine zO rfl Rd.asg ?_; refine zN ?_; refine zT ?_; refine zS ?_; refine zR ?_; refine zO rfl Rd.asg ?_; refine zN ?_; refine zT ?_; refine zS ?_; refine zS ?_; refine zR ?_; refine zO rfl (Rd.fA rfl) ?_; refine zO rfl (Rd.ldC rfl (tyrow rfl) rfl) ?_
    refine XOA.wr0 rfl (WrA.cE (rneeded_a σ 2 101) rfl) ?_
    rintro _ _ _ ⟨_, ⟨rfl, rfl, rfl⟩, rfl⟩
    refine XOA.cl ?_
    rw [(need_op 2).1]
    refine zN ?_; refine zT ?_
    refine XA.condT rfl rfl ?_
    refine zR ?_; refine zO rfl (Rd.ldA rfl) ?_; refine zO rfl (Rd.fA rfl) ?_; refine zO rfl (Rd.ldA rfl) ?_
    refine XOA.wr0 rfl (WrA.cE ((rexpr_i pr hz hvl ex σ _ _ cv bs hp0 hxe (he rfl).1 (by omega))) rfl) ?_
    rintro _ σ1 _ ⟨_, ⟨p2, c2, rfl, hs1, rfl⟩, rfl⟩
    refine XOA.cl ?_
    refine zO rfl Rd.asg ?_; refine zN ?_; refine zT ?_; refine zS ?_; refine zR ?_; refine zO rfl (Rd.ldA rfl) ?_; refine zO rfl (Rd.fA rfl) ?_; refine zO rfl (Rd.ldC rfl (tyrow rfl) rfl) ?_
    refine XOA.wr0 rfl (WrA.cE (rcell_a σ1 _ pr v (hp0.mono hs1) hz hvl) rfl) ?_
    rintro _ _ _ ⟨_, ⟨rfl, rfl, rfl⟩, rfl⟩
    refine XOA.cl ?_
    refine zO rfl Rd.asg ?_; refine zN ?_; refine zT ?_; refine zS ?_; refine zS ?_; refine zR ?_; refine zO rfl (Rd.fA rfl) ?_; refine zO rfl (Rd.ldC rfl (tyrow rfl) rfl) ?_; refine zN ?_; refine zT ?_
    refine XA.block ?_
    refine zS ?_; refine zR ?_; refine zO rfl (Rd.eql rfl rfl) ?_; refine zO rfl Rd.asg ?_; refine zN ?_; refine zT ?_
    refine XA.condF rfl rfl ?_
    refine zS ?_; refine zR ?_; refine zO rfl (Rd.eql rfl rfl) ?_; refine zO rfl Rd.asg ?_; refine zN ?_; refine zT ?_
    refine XA.condT rfl rfl ?_
    refine zS ?_; refine zR ?_; refine zO rfl Rd.mv ?_; refine zO rfl (Rd.ldA rfl) ?_; refine zO rfl (Rd.fA rfl) ?_; refine zO rfl (Rd.ldA rfl) ?_
    refine XOA.wr0 rfl (WrA.cE ((rexpr_i pr hz hvl fx σ1 _ _ cv bs (hp0.mono hs1) (hxf.mono hs1) (hf rfl).1 (by omega)).lstOut) rfl) ?_
    rintro _ σ2 _ ⟨_, ⟨p3, c3, rfl, hs2, hf2, rfl⟩, rfl⟩
    refine XOA.cl ?_
    have r1 : PRow σ2 gg (oo + v.toNat * 2 + 1) [i64 vx.size] := (hrow.sub (j := 1) rfl).mono (hs1.trans hs2)
    refine XOA.wr0 rfl (WrA.appP (tyrow rfl) rfl (tyrow rfl) rfl rfl (by ((repeat (first | with_reducible exact Sel.head | apply Sel.tail)); (first | done | fail))) rfl hf2 rfl (insC_ones _) (by simp only [maxLen]; omega) (by simp only []; omega) (@List.length_append _ (exCode pr.vars ex) (exCode pr.vars fx)) (insC_app _ _)) ?_
    rintro _ _ _ ⟨p8, c8, rfl, rfl, rfl⟩
    refine zO rfl Rd.asg ?_; refine zN ?_; refine zT ?_; refine zS ?_; refine zR ?_; refine zO rfl Rd.mv ?_; refine zO rfl Rd.mv ?_; refine zO rfl (Rd.fA rfl) ?_; refine zO rfl (Rd.ldC rfl (tyrow rfl) rfl) ?_; refine zO rfl (Rd.fA rfl) ?_; refine zO rfl (Rd.ldC rfl (tyrow rfl) rfl) ?_
    refine zO rfl (Rd.ixS rfl rfl) ?_
    refine zO rfl (Rd.fA rfl) ?_; refine zO rfl (Rd.ldC rfl (tyrow rfl) rfl) ?_
    refine zO rfl (Rd.bl (fun _ _ => tyrow) rfl rfl rfl) ?_
    refine XOA.wr0 rfl (WrA.bs1 (tyrow rfl) rfl (tyrow rfl)) ?_
    rintro _ _ _ ⟨g50, rfl, rfl, rfl⟩
    have hl2 : (exCode pr.vars ex ++ exCode pr.vars fx).length ≤ 200000 := by rw [List.length_append]; omega
    refine XOA.wr0 rfl (WrA.ap1 (tyrow rfl) rfl (tyrow rfl) rfl rfl rfl) ?_
    rintro _ _ _ ⟨p51, c51, rfl, rfl, rfl⟩
    refine zO rfl Rd.asg ?_; refine zN ?_; refine zT ?_
    refine XA.ret ?_
    refine DA.inb_ret ?_
    refine DA.thn_ret ?_
    exact bodyA.ret (ResA.one rfl rfl) zE ⟨_, _, rfl, hs1.trans hs2, rfl⟩
  · have hc : stCode pr.vars (.mk 3 v ex fx body els) k = exCode pr.vars ex ++ [⟨11, 0, 0, 0⟩] := by rw [stCode]; rfl
    rw [hc]
    simp only [List.length_append, List.length_singleton, insC_snoc, insC_app]
    refine enterA3 Try.func94 rfl rfl rfl ?_
    refine zS ?_; refine zR ?_
    refine XOA.wr0 rfl WrA.bx ?_
    rintro _ _ _ ⟨g3, rfl, rfl, rfl⟩
    refine XOA.wr0 rfl WrA.bx ?_
    rintro _ _ _ ⟨g4, rfl, rfl, rfl⟩
    refine zO rfl Rd.asg ?_; refine zN ?_; refine zT ?_; refine zS ?_; refine zR ?_; refine zO rfl Rd.asg ?_; refine zN ?_; refine zT ?_; refine zS ?_; refine zS ?_; refine zR ?_; refine zO rfl (Rd.fA rfl) ?_; refine zO rfl (Rd.ldC rfl (tyrow rfl) rfl) ?_
    refine XOA.wr0 rfl (WrA.cE (rneeded_a σ 3 101) rfl) ?_
    rintro _ _ _ ⟨_, ⟨rfl, rfl, rfl⟩, rfl⟩
    refine XOA.cl ?_
    rw [(need_op 3).1]
    refine zN ?_; refine zT ?_
    refine XA.condT rfl rfl ?_
    refine zR ?_; refine zO rfl (Rd.ldA rfl) ?_; refine zO rfl (Rd.fA rfl) ?_; refine zO rfl (Rd.ldA rfl) ?_
    refine XOA.wr0 rfl (WrA.cE ((rexpr_i pr hz hvl ex σ _ _ cv bs hp hxe (he rfl).1 (by omega))) rfl) ?_
    rintro _ σ1 _ ⟨_, ⟨p2, c2, rfl, hs1, rfl⟩, rfl⟩
    refine XOA.cl ?_
    refine zO rfl Rd.asg ?_; refine zN ?_; refine zT ?_; refine zS ?_; refine zR ?_; refine zO rfl (Rd.ldA rfl) ?_; refine zO rfl (Rd.fA rfl) ?_; refine zO rfl (Rd.ldC rfl (tyrow rfl) rfl) ?_
    refine XOA.wr0 rfl (WrA.cE (rcell_a σ1 _ pr v (hp.mono hs1) hz hvl) rfl) ?_
    rintro _ _ _ ⟨_, ⟨rfl, rfl, rfl⟩, rfl⟩
    refine XOA.cl ?_
    refine zO rfl Rd.asg ?_; refine zN ?_; refine zT ?_; refine zS ?_; refine zS ?_; refine zR ?_; refine zO rfl (Rd.fA rfl) ?_; refine zO rfl (Rd.ldC rfl (tyrow rfl) rfl) ?_; refine zN ?_; refine zT ?_
    refine XA.block ?_
    refine zS ?_; refine zR ?_; refine zO rfl (Rd.eql rfl rfl) ?_; refine zO rfl Rd.asg ?_; refine zN ?_; refine zT ?_
    refine XA.condF rfl rfl ?_
    refine zS ?_; refine zR ?_; refine zO rfl (Rd.eql rfl rfl) ?_; refine zO rfl Rd.asg ?_; refine zN ?_; refine zT ?_
    refine XA.condF rfl rfl ?_
    refine zS ?_; refine zR ?_; refine zO rfl (Rd.eql rfl rfl) ?_; refine zO rfl Rd.asg ?_; refine zN ?_; refine zT ?_
    refine XA.condT rfl rfl ?_
    refine zS ?_; refine zR ?_; refine zO rfl Rd.mv ?_
    refine zO rfl (Rd.bl (fun _ _ => tyrow) rfl rfl rfl) ?_
    refine XOA.wr0 rfl (WrA.bs1 (tyrow rfl) rfl (tyrow rfl)) ?_
    rintro _ _ _ ⟨g56, rfl, rfl, rfl⟩
    refine XOA.wr0 rfl (WrA.ap1 (tyrow rfl) rfl (tyrow rfl) rfl rfl rfl) ?_
    rintro _ _ _ ⟨p57, c57, rfl, rfl, rfl⟩
    refine zO rfl Rd.asg ?_; refine zN ?_; refine zT ?_
    refine XA.ret ?_
    refine DA.inb_ret ?_
    refine DA.thn_ret ?_
    exact bodyA.ret (ResA.one rfl rfl) zE ⟨_, _, rfl, hs1, rfl⟩
  · have hc : stCode pr.vars (.mk 4 v ex fx body els) k = [⟨12, cellOf pr.vars v, 0, 0⟩] := by rw [stCode]; rfl
    rw [hc]
    simp only [List.length_append, List.length_singleton, insC_snoc, insC_app]
    refine enterA3 Try.func94 rfl rfl rfl ?_
    refine zS ?_; refine zR ?_
    refine XOA.wr0 rfl WrA.bx ?_
    rintro _ _ _ ⟨g3, rfl, rfl, rfl⟩
    refine XOA.wr0 rfl WrA.bx ?_
    rintro _ _ _ ⟨g4, rfl, rfl, rfl⟩
    refine zO rfl Rd.asg ?_; refine zN ?_; refine zT ?_; refine zS ?_; refine zR ?_; refine zO rfl Rd.asg ?_; refine zN ?_; refine zT ?_; refine zS ?_; refine zS ?_; refine zR ?_; refine zO rfl (Rd.fA rfl) ?_; refine zO rfl (Rd.ldC rfl (tyrow rfl) rfl) ?_
    refine XOA.wr0 rfl (WrA.cE (rneeded_a σ 4 101) rfl) ?_
    rintro _ _ _ ⟨_, ⟨rfl, rfl, rfl⟩, rfl⟩
    refine XOA.cl ?_
    rw [(need_op 4).1]
    refine zN ?_; refine zT ?_
    refine XA.condF rfl rfl ?_
    refine XA.skip ?_
    refine zT ?_; refine zS ?_; refine zR ?_; refine zO rfl (Rd.ldA rfl) ?_; refine zO rfl (Rd.fA rfl) ?_; refine zO rfl (Rd.ldC rfl (tyrow rfl) rfl) ?_
    refine XOA.wr0 rfl (WrA.cE (rcell_a σ _ pr v hp hz hvl) rfl) ?_
    rintro _ _ _ ⟨_, ⟨rfl, rfl, rfl⟩, rfl⟩
    refine XOA.cl ?_
    refine zO rfl Rd.asg ?_; refine zN ?_; refine zT ?_; refine zS ?_; refine zS ?_; refine zR ?_; refine zO rfl (Rd.fA rfl) ?_; refine zO rfl (Rd.ldC rfl (tyrow rfl) rfl) ?_; refine zN ?_; refine zT ?_
    refine XA.block ?_
    refine zS ?_; refine zR ?_; refine zO rfl (Rd.eql rfl rfl) ?_; refine zO rfl Rd.asg ?_; refine zN ?_; refine zT ?_
    refine XA.condF rfl rfl ?_
    refine zS ?_; refine zR ?_; refine zO rfl (Rd.eql rfl rfl) ?_; refine zO rfl Rd.asg ?_; refine zN ?_; refine zT ?_
    refine XA.condF rfl rfl ?_
    refine zS ?_; refine zR ?_; refine zO rfl (Rd.eql rfl rfl) ?_; refine zO rfl Rd.asg ?_; refine zN ?_; refine zT ?_
    refine XA.condF rfl rfl ?_
    refine zS ?_; refine zR ?_; refine zO rfl (Rd.eql rfl rfl) ?_; refine zO rfl Rd.asg ?_; refine zN ?_; refine zT ?_
    refine XA.condT rfl rfl ?_
    refine zS ?_; refine zR ?_; refine zO rfl Rd.mv ?_; refine zO rfl Rd.mv ?_
    refine zO rfl (Rd.bl (fun _ _ => tyrow) rfl rfl rfl) ?_
    refine XOA.wr0 rfl (WrA.bs1 (tyrow rfl) rfl (tyrow rfl)) ?_
    rintro _ _ _ ⟨g63, rfl, rfl, rfl⟩
    refine XOA.ent (Ent.selNil (e := 130) (size := 4) (Ent.refl _)) ?_
    refine XOA.wr0 rfl (WrA.ap1 (tyrow rfl) rfl (tyrow rfl) rfl rfl rfl) ?_
    rintro _ _ _ ⟨p64, c64, rfl, rfl, rfl⟩
    refine zO rfl Rd.asg ?_; refine zN ?_; refine zT ?_
    refine XA.ret ?_
    refine DA.inb_ret ?_
    refine DA.thn_ret ?_
    exact bodyA.ret (ResA.one rfl rfl) zE ⟨_, _, rfl, .refl _, rfl⟩
  · have hc : stCode pr.vars (.mk 7 v ex fx body els) k = [⟨15, 0, 0, 0⟩] := by rw [stCode]; rfl
    rw [hc]
    simp only [List.length_append, List.length_singleton, insC_snoc, insC_app]
    refine enterA3 Try.func94 rfl rfl rfl ?_
    refine zS ?_; refine zR ?_
    refine XOA.wr0 rfl WrA.bx ?_
    rintro _ _ _ ⟨g3, rfl, rfl, rfl⟩
    refine XOA.wr0 rfl WrA.bx ?_
    rintro _ _ _ ⟨g4, rfl, rfl, rfl⟩
    refine zO rfl Rd.asg ?_; refine zN ?_; refine zT ?_; refine zS ?_; refine zR ?_; refine zO rfl Rd.asg ?_; refine zN ?_; refine zT ?_; refine zS ?_; refine zS ?_; refine zR ?_; refine zO rfl (Rd.fA rfl) ?_; refine zO rfl (Rd.ldC rfl (tyrow rfl) rfl) ?_
    refine XOA.wr0 rfl (WrA.cE (rneeded_a σ 7 101) rfl) ?_
    rintro _ _ _ ⟨_, ⟨rfl, rfl, rfl⟩, rfl⟩
    refine XOA.cl ?_
    rw [(need_op 7).1]
    refine zN ?_; refine zT ?_
    refine XA.condF rfl rfl ?_
    refine XA.skip ?_
    refine zT ?_; refine zS ?_; refine zR ?_; refine zO rfl (Rd.ldA rfl) ?_; refine zO rfl (Rd.fA rfl) ?_; refine zO rfl (Rd.ldC rfl (tyrow rfl) rfl) ?_
    refine XOA.wr0 rfl (WrA.cE (rcell_a σ _ pr v hp hz hvl) rfl) ?_
    rintro _ _ _ ⟨_, ⟨rfl, rfl, rfl⟩, rfl⟩
    refine XOA.cl ?_
    refine zO rfl Rd.asg ?_; refine zN ?_; refine zT ?_; refine zS ?_; refine zS ?_; refine zR ?_; refine zO rfl (Rd.fA rfl) ?_; refine zO rfl (Rd.ldC rfl (tyrow rfl) rfl) ?_; refine zN ?_; refine zT ?_
    refine XA.block ?_
    refine zS ?_; refine zR ?_; refine zO rfl (Rd.eql rfl rfl) ?_; refine zO rfl Rd.asg ?_; refine zN ?_; refine zT ?_
    refine XA.condF rfl rfl ?_
    refine zS ?_; refine zR ?_; refine zO rfl (Rd.eql rfl rfl) ?_; refine zO rfl Rd.asg ?_; refine zN ?_; refine zT ?_
    refine XA.condF rfl rfl ?_
    refine zS ?_; refine zR ?_; refine zO rfl (Rd.eql rfl rfl) ?_; refine zO rfl Rd.asg ?_; refine zN ?_; refine zT ?_
    refine XA.condF rfl rfl ?_
    refine zS ?_; refine zR ?_; refine zO rfl (Rd.eql rfl rfl) ?_; refine zO rfl Rd.asg ?_; refine zN ?_; refine zT ?_
    refine XA.condF rfl rfl ?_
    refine zS ?_; refine zR ?_; refine zO rfl (Rd.eql rfl rfl) ?_; refine zO rfl Rd.asg ?_; refine zN ?_; refine zT ?_
    refine XA.condT rfl rfl ?_
    refine zS ?_; refine zR ?_; refine zO rfl Rd.mv ?_
    refine zO rfl (Rd.bl (fun _ _ => tyrow) rfl rfl rfl) ?_
    refine XOA.wr0 rfl (WrA.bs1 (tyrow rfl) rfl (tyrow rfl)) ?_
    rintro _ _ _ ⟨g69, rfl, rfl, rfl⟩
    refine XOA.ent (Ent.selNil (e := 130) (size := 4) (Ent.refl _)) ?_
    refine XOA.wr0 rfl (WrA.ap1 (tyrow rfl) rfl (tyrow rfl) rfl rfl rfl) ?_
    rintro _ _ _ ⟨p70, c70, rfl, rfl, rfl⟩
    refine zO rfl Rd.asg ?_; refine zN ?_; refine zT ?_
    refine XA.ret ?_
    refine DA.inb_ret ?_
    refine DA.thn_ret ?_
    exact bodyA.ret (ResA.one rfl rfl) zE ⟨_, _, rfl, .refl _, rfl⟩
  · rcases h56 with rfl | rfl
    · obtain ⟨B, hB⟩ : ∃ B, B = stsCode pr.vars body (k + (exCode pr.vars ex).length + 1) := ⟨_, rfl⟩
      have hBl : B.length ≤ stsN body := by rw [hB]; exact stsCode_len _ _ _
      have hcast1 : ((k + (exCode pr.vars ex).length + 1 : Nat) : Int) = (k : Int) + ((exCode pr.vars ex).length : Int) + 1 := by omega
      have hcast2 : ((k + (exCode pr.vars ex).length + 1 + B.length + 1 : Nat) : Int) = (k : Int) + ((exCode pr.vars ex).length : Int) + 1 + (B.length : Int) + 1 := by omega
      have hlb := fun σ2 (hs : σ.sub σ2) => (rlist_i pr body ih σ2 (.slice pb body.length cb) pv cv bs (k + (exCode pr.vars ex).length + 1) (hp.mono hs) (hxb.mono hs (fun _ _ h => h.mono hs)) hsb (by omega)).lstOut
      rw [← hB, hcast1] at hlb
      rw [stCode_5, ← hB, hcast2]
      rw [List.length_append, List.length_append, List.length_append, List.length_singleton, List.length_singleton, insC_snoc, insC_app, insC_snoc]
      refine enterA3 Try.func94 rfl rfl rfl ?_
      refine zS ?_; refine zR ?_
      refine XOA.wr0 rfl WrA.bx ?_
      rintro _ _ _ ⟨g3, rfl, rfl, rfl⟩
      refine XOA.wr0 rfl WrA.bx ?_
      rintro _ _ _ ⟨g4, rfl, rfl, rfl⟩
      refine zO rfl Rd.asg ?_; refine zN ?_; refine zT ?_; refine zS ?_; refine zR ?_; refine zO rfl Rd.asg ?_; refine zN ?_; refine zT ?_; refine zS ?_; refine zS ?_; refine zR ?_; refine zO rfl (Rd.fA rfl) ?_; refine zO rfl (Rd.ldC rfl (tyrow rfl) rfl) ?_
      refine XOA.wr0 rfl (WrA.cE (rneeded_a σ 5 101) rfl) ?_
      rintro _ _ _ ⟨_, ⟨rfl, rfl, rfl⟩, rfl⟩
      refine XOA.cl ?_
      rw [(need_op 5).1]
      refine zN ?_; refine zT ?_
      refine XA.condT rfl rfl ?_
      refine zR ?_; refine zO rfl (Rd.ldA rfl) ?_; refine zO rfl (Rd.fA rfl) ?_; refine zO rfl (Rd.ldA rfl) ?_
      refine XOA.wr0 rfl (WrA.cE ((rexpr_i pr hz hvl ex σ _ _ cv bs hp hxe (he rfl).1 (by omega))) rfl) ?_
      rintro _ σ1 _ ⟨_, ⟨p2, c2, rfl, hs1, rfl⟩, rfl⟩
      refine XOA.cl ?_
      refine zO rfl Rd.asg ?_; refine zN ?_; refine zT ?_; refine zS ?_; refine zR ?_; refine zO rfl (Rd.ldA rfl) ?_; refine zO rfl (Rd.fA rfl) ?_; refine zO rfl (Rd.ldC rfl (tyrow rfl) rfl) ?_
      refine XOA.wr0 rfl (WrA.cE (rcell_a σ1 _ pr v (hp.mono hs1) hz hvl) rfl) ?_
      rintro _ _ _ ⟨_, ⟨rfl, rfl, rfl⟩, rfl⟩
      refine XOA.cl ?_
      refine zO rfl Rd.asg ?_; refine zN ?_; refine zT ?_; refine zS ?_; refine zS ?_; refine zR ?_; refine zO rfl (Rd.fA rfl) ?_; refine zO rfl (Rd.ldC rfl (tyrow rfl) rfl) ?_; refine zN ?_; refine zT ?_
      refine XA.block ?_
      refine zS ?_; refine zR ?_; refine zO rfl (Rd.eql rfl rfl) ?_; refine zO rfl Rd.asg ?_; refine zN ?_; refine zT ?_
      refine XA.condF rfl rfl ?_
      refine zS ?_; refine zR ?_; refine zO rfl (Rd.eql rfl rfl) ?_; refine zO rfl Rd.asg ?_; refine zN ?_; refine zT ?_
      refine XA.condF rfl rfl ?_
      refine zS ?_; refine zR ?_; refine zO rfl (Rd.eql rfl rfl) ?_; refine zO rfl Rd.asg ?_; refine zN ?_; refine zT ?_
      refine XA.condF rfl rfl ?_
      refine zS ?_; refine zR ?_; refine zO rfl (Rd.eql rfl rfl) ?_; refine zO rfl Rd.asg ?_; refine zN ?_; refine zT ?_
      refine XA.condF rfl rfl ?_
      refine zS ?_; refine zR ?_; refine zO rfl (Rd.eql rfl rfl) ?_; refine zO rfl Rd.asg ?_; refine zN ?_; refine zT ?_
      refine XA.condF rfl rfl ?_
      refine XA.skip ?_
      refine DA.inb_normal ?_
      refine zT ?_; refine zS ?_; refine zR ?_; refine zO rfl (Rd.ldA rfl) ?_; refine zO rfl (Rd.fA rfl) ?_; refine zO rfl (Rd.ldC rfl (tyrow rfl) rfl) ?_; refine zO rfl Rd.mv ?_; refine zO rfl Rd.mv ?_; refine zO rfl (Rd.lenSlice (tyrow rfl) rfl rfl) ?_
      refine zO rfl (by first | exact Rd.adi rfl rfl | exact Rd.add rfl rfl) ?_
      refine zO rfl (by first | exact Rd.adi rfl rfl | exact Rd.add rfl rfl) ?_

      refine XOA.wr0 rfl (WrA.cE (hlb σ1 hs1) rfl) ?_
      rintro _ σ2 _ ⟨_, ⟨p3, c3, rfl, hs2, hf2, rfl⟩, rfl⟩
      refine XOA.cl ?_
      refine zO rfl Rd.asg ?_; refine zN ?_; refine zT ?_; refine zS ?_; refine zR ?_; refine zO rfl Rd.mv ?_; refine zO rfl Rd.mv ?_; refine zO rfl (Rd.lenSlice (tyrow rfl) rfl rfl) ?_
      refine zO rfl (by first | exact Rd.adi rfl rfl | exact Rd.add rfl rfl) ?_
      refine zO rfl (by first | exact Rd.adi rfl rfl | exact Rd.add rfl rfl) ?_
      refine zO rfl Rd.mv ?_; refine zO rfl (Rd.lenSlice (tyrow rfl) rfl rfl) ?_
      refine zO rfl (by first | exact Rd.adi rfl rfl | exact Rd.add rfl rfl) ?_
      refine zO rfl (by first | exact Rd.adi rfl rfl | exact Rd.add rfl rfl) ?_
      refine zO rfl Rd.asg ?_; refine zN ?_; refine zT ?_; refine zS ?_; refine zR ?_; refine zO rfl Rd.mv ?_; refine zO rfl Rd.mv ?_
      refine zO rfl (Rd.bl (fun _ _ => tyrow) rfl rfl rfl) ?_
      refine XOA.wr0 rfl (WrA.bs1 (tyrow rfl) rfl (tyrow rfl)) ?_
      rintro _ _ _ ⟨g92, rfl, rfl, rfl⟩
      refine XOA.wr0 rfl (WrA.ap1 (tyrow rfl) rfl (tyrow rfl) rfl rfl rfl) ?_
      rintro _ _ _ ⟨p93, c93, rfl, rfl, rfl⟩
      refine zO rfl Rd.asg ?_; refine zN ?_; refine zT ?_; refine zS ?_; refine zR ?_; refine zO rfl Rd.mv ?_; refine zO rfl Rd.mv ?_
      refine XOA.wr0 rfl (WrA.appP (tyrow rfl) rfl (tyrow rfl) rfl rfl (by ((repeat (first | with_reducible exact Sel.head | apply Sel.tail)); (first | done | fail))) rfl hf2 rfl (insC_ones _) (by simp only [maxLen]; omega) (by simp only []; omega) rfl rfl) ?_
      rintro _ _ _ ⟨p8, c8, rfl, rfl, rfl⟩
      refine zO rfl Rd.asg ?_; refine zN ?_; refine zT ?_; refine zS ?_; refine zS ?_; refine zR ?_; refine zO rfl (Rd.fA rfl) ?_; refine zO rfl (Rd.ldC rfl (tyrow rfl) rfl) ?_; refine zO rfl (Rd.eql rfl rfl) ?_; refine zN ?_; refine zT ?_
      refine XA.condT rfl rfl ?_
      refine zS ?_; refine zR ?_; refine zO rfl Rd.mv ?_; refine zO rfl Rd.mv ?_
      refine zO rfl (Rd.bl (fun _ _ => tyrow) rfl rfl rfl) ?_
      refine XOA.wr0 rfl (WrA.bs1 (tyrow rfl) rfl (tyrow rfl)) ?_
      rintro _ _ _ ⟨g103, rfl, rfl, rfl⟩
      refine XOA.wr0 rfl (WrA.ap1 (tyrow rfl) rfl (tyrow rfl) rfl rfl rfl) ?_
      rintro _ _ _ ⟨p104, c104, rfl, rfl, rfl⟩
      refine zO rfl Rd.asg ?_; refine zN ?_; refine zT ?_
      refine XA.ret ?_
      refine DA.thn_ret ?_
      exact bodyA.ret (ResA.one rfl rfl) zE ⟨_, _, rfl, hs1.trans hs2, rfl⟩
    · obtain ⟨B, hB⟩ : ∃ B, B = stsCode pr.vars body (k + (exCode pr.vars ex).length + 1) := ⟨_, rfl⟩
      have hBl : B.length ≤ stsN body := by rw [hB]; exact stsCode_len _ _ _
      have hcast1 : ((k + (exCode pr.vars ex).length + 1 : Nat) : Int) = (k : Int) + ((exCode pr.vars ex).length : Int) + 1 := by omega
      have hcast2 : ((k + (exCode pr.vars ex).length + 1 + B.length + 1 : Nat) : Int) = (k : Int) + ((exCode pr.vars ex).length : Int) + 1 + (B.length : Int) + 1 := by omega
      have hlb := fun σ2 (hs : σ.sub σ2) => (rlist_i pr body ih σ2 (.slice pb body.length cb) pv cv bs (k + (exCode pr.vars ex).length + 1) (hp.mono hs) (hxb.mono hs (fun _ _ h => h.mono hs)) hsb (by omega)).lstOut
      rw [← hB, hcast1] at hlb
      obtain ⟨O, hO⟩ : ∃ O, O = stsCode pr.vars els (k + (exCode pr.vars ex).length + 1 + B.length + 1) := ⟨_, rfl⟩
      have hOl : O.length ≤ stsN els := by rw [hO]; exact stsCode_len _ _ _
      have hcast3 : ((k + (exCode pr.vars ex).length + 1 + B.length + 1 + O.length : Nat) : Int) = (k : Int) + ((exCode pr.vars ex).length : Int) + 1 + (B.length : Int) + 1 + (O.length : Int) := by omega
      have hlo := fun σ2 (hs : σ.sub σ2) => (rlist_i pr els jh σ2 (.slice pl els.length cl) pv cv bs (k + (exCode pr.vars ex).length + 1 + B.length + 1) (hp.mono hs) (hxl.mono hs (fun _ _ h => h.mono hs)) hse (by omega)).lstOut
      rw [← hO, hcast2] at hlo
      rw [stCode_6, ← hB, ← hO, hcast2, hcast3]
      rw [List.length_append, List.length_append, List.length_append, List.length_append, List.length_singleton, List.length_singleton, insC_app, insC_snoc, insC_app, insC_snoc]
      refine enterA3 Try.func94 rfl rfl rfl ?_
      refine zS ?_; refine zR ?_
      refine XOA.wr0 rfl WrA.bx ?_
      rintro _ _ _ ⟨g3, rfl, rfl, rfl⟩
      refine XOA.wr0 rfl WrA.bx ?_
      rintro _ _ _ ⟨g4, rfl, rfl, rfl⟩
      refine zO rfl Rd.asg ?_; refine zN ?_; refine zT ?_; refine zS ?_; refine zR ?_; refine zO rfl Rd.asg ?_; refine zN ?_; refine zT ?_; refine zS ?_; refine zS ?_; refine zR ?_; refine zO rfl (Rd.fA rfl) ?_; refine zO rfl (Rd.ldC rfl (tyrow rfl) rfl) ?_
      refine XOA.wr0 rfl (WrA.cE (rneeded_a σ 6 101) rfl) ?_
      rintro _ _ _ ⟨_, ⟨rfl, rfl, rfl⟩, rfl⟩
      refine XOA.cl ?_
      rw [(need_op 6).1]
      refine zN ?_; refine zT ?_
      refine XA.condT rfl rfl ?_
      refine zR ?_; refine zO rfl (Rd.ldA rfl) ?_; refine zO rfl (Rd.fA rfl) ?_; refine zO rfl (Rd.ldA rfl) ?_
      refine XOA.wr0 rfl (WrA.cE ((rexpr_i pr hz hvl ex σ _ _ cv bs hp hxe (he rfl).1 (by omega))) rfl) ?_
      rintro _ σ1 _ ⟨_, ⟨p2, c2, rfl, hs1, rfl⟩, rfl⟩
      refine XOA.cl ?_
      refine zO rfl Rd.asg ?_; refine zN ?_; refine zT ?_; refine zS ?_; refine zR ?_; refine zO rfl (Rd.ldA rfl) ?_; refine zO rfl (Rd.fA rfl) ?_; refine zO rfl (Rd.ldC rfl (tyrow rfl) rfl) ?_
      refine XOA.wr0 rfl (WrA.cE (rcell_a σ1 _ pr v (hp.mono hs1) hz hvl) rfl) ?_
      rintro _ _ _ ⟨_, ⟨rfl, rfl, rfl⟩, rfl⟩
      refine XOA.cl ?_
      refine zO rfl Rd.asg ?_; refine zN ?_; refine zT ?_; refine zS ?_; refine zS ?_; refine zR ?_; refine zO rfl (Rd.fA rfl) ?_; refine zO rfl (Rd.ldC rfl (tyrow rfl) rfl) ?_; refine zN ?_; refine zT ?_
      refine XA.block ?_
      refine zS ?_; refine zR ?_; refine zO rfl (Rd.eql rfl rfl) ?_; refine zO rfl Rd.asg ?_; refine zN ?_; refine zT ?_
      refine XA.condF rfl rfl ?_
      refine zS ?_; refine zR ?_; refine zO rfl (Rd.eql rfl rfl) ?_; refine zO rfl Rd.asg ?_; refine zN ?_; refine zT ?_
      refine XA.condF rfl rfl ?_
      refine zS ?_; refine zR ?_; refine zO rfl (Rd.eql rfl rfl) ?_; refine zO rfl Rd.asg ?_; refine zN ?_; refine zT ?_
      refine XA.condF rfl rfl ?_
      refine zS ?_; refine zR ?_; refine zO rfl (Rd.eql rfl rfl) ?_; refine zO rfl Rd.asg ?_; refine zN ?_; refine zT ?_
      refine XA.condF rfl rfl ?_
      refine zS ?_; refine zR ?_; refine zO rfl (Rd.eql rfl rfl) ?_; refine zO rfl Rd.asg ?_; refine zN ?_; refine zT ?_
      refine XA.condF rfl rfl ?_
      refine XA.skip ?_
      refine DA.inb_normal ?_
      refine zT ?_; refine zS ?_; refine zR ?_; refine zO rfl (Rd.ldA rfl) ?_; refine zO rfl (Rd.fA rfl) ?_; refine zO rfl (Rd.ldC rfl (tyrow rfl) rfl) ?_; refine zO rfl Rd.mv ?_; refine zO rfl Rd.mv ?_; refine zO rfl (Rd.lenSlice (tyrow rfl) rfl rfl) ?_
      refine zO rfl (by first | exact Rd.adi rfl rfl | exact Rd.add rfl rfl) ?_
      refine zO rfl (by first | exact Rd.adi rfl rfl | exact Rd.add rfl rfl) ?_

      refine XOA.wr0 rfl (WrA.cE (hlb σ1 hs1) rfl) ?_
      rintro _ σ2 _ ⟨_, ⟨p3, c3, rfl, hs2, hf2, rfl⟩, rfl⟩
      refine XOA.cl ?_
      refine zO rfl Rd.asg ?_; refine zN ?_; refine zT ?_; refine zS ?_; refine zR ?_; refine zO rfl Rd.mv ?_; refine zO rfl Rd.mv ?_; refine zO rfl (Rd.lenSlice (tyrow rfl) rfl rfl) ?_
      refine zO rfl (by first | exact Rd.adi rfl rfl | exact Rd.add rfl rfl) ?_
      refine zO rfl (by first | exact Rd.adi rfl rfl | exact Rd.add rfl rfl) ?_
      refine zO rfl Rd.mv ?_; refine zO rfl (Rd.lenSlice (tyrow rfl) rfl rfl) ?_
      refine zO rfl (by first | exact Rd.adi rfl rfl | exact Rd.add rfl rfl) ?_
      refine zO rfl (by first | exact Rd.adi rfl rfl | exact Rd.add rfl rfl) ?_
      refine zO rfl Rd.asg ?_; refine zN ?_; refine zT ?_; refine zS ?_; refine zR ?_; refine zO rfl Rd.mv ?_; refine zO rfl Rd.mv ?_
      refine zO rfl (Rd.bl (fun _ _ => tyrow) rfl rfl rfl) ?_
      refine XOA.wr0 rfl (WrA.bs1 (tyrow rfl) rfl (tyrow rfl)) ?_
      rintro _ _ _ ⟨g92, rfl, rfl, rfl⟩
      refine XOA.wr0 rfl (WrA.ap1 (tyrow rfl) rfl (tyrow rfl) rfl rfl rfl) ?_
      rintro _ _ _ ⟨p93, c93, rfl, rfl, rfl⟩
      refine zO rfl Rd.asg ?_; refine zN ?_; refine zT ?_; refine zS ?_; refine zR ?_; refine zO rfl Rd.mv ?_; refine zO rfl Rd.mv ?_
      refine XOA.wr0 rfl (WrA.appP (tyrow rfl) rfl (tyrow rfl) rfl rfl (by ((repeat (first | with_reducible exact Sel.head | apply Sel.tail)); (first | done | fail))) rfl hf2 rfl (insC_ones _) (by simp only [maxLen]; omega) (by simp only []; omega) rfl rfl) ?_
      rintro _ _ _ ⟨p8, c8, rfl, rfl, rfl⟩
      refine zO rfl Rd.asg ?_; refine zN ?_; refine zT ?_; refine zS ?_; refine zS ?_; refine zR ?_; refine zO rfl (Rd.fA rfl) ?_; refine zO rfl (Rd.ldC rfl (tyrow rfl) rfl) ?_; refine zO rfl (Rd.eql rfl rfl) ?_; refine zN ?_; refine zT ?_
      refine XA.condF rfl rfl ?_
      refine XA.skip ?_
      refine zT ?_; refine zS ?_; refine zR ?_; refine zO rfl (Rd.ldA rfl) ?_; refine zO rfl (Rd.fA rfl) ?_; refine zO rfl (Rd.ldC rfl (tyrow rfl) rfl) ?_; refine zO rfl Rd.mv ?_
      refine XOA.wr0 rfl (WrA.cE (hlo σ2 (hs1.trans hs2)) rfl) ?_
      rintro _ σ3 _ ⟨_, ⟨p4, c4, rfl, hs3, hf3, rfl⟩, rfl⟩
      refine XOA.cl ?_
      refine zO rfl Rd.asg ?_; refine zN ?_; refine zT ?_; refine zS ?_; refine zR ?_; refine zO rfl Rd.mv ?_; refine zO rfl Rd.mv ?_; refine zO rfl Rd.mv ?_; refine zO rfl (Rd.lenSlice (tyrow rfl) rfl rfl) ?_
      refine zO rfl (by first | exact Rd.adi rfl rfl | exact Rd.add rfl rfl) ?_
      refine zO rfl (Rd.bl (fun _ _ => tyrow) rfl rfl rfl) ?_
      refine XOA.wr0 rfl (WrA.bs1 (tyrow rfl) rfl (tyrow rfl)) ?_
      rintro _ _ _ ⟨g116, rfl, rfl, rfl⟩
      refine XOA.wr0 rfl (WrA.ap1 (tyrow rfl) rfl (tyrow rfl) rfl rfl rfl) ?_
      rintro _ _ _ ⟨p117, c117, rfl, rfl, rfl⟩
      refine zO rfl Rd.asg ?_; refine zN ?_; refine zT ?_; refine zS ?_; refine zR ?_; refine zO rfl Rd.mv ?_; refine zO rfl Rd.mv ?_
      refine XOA.wr0 rfl (WrA.appP (tyrow rfl) rfl (tyrow rfl) rfl rfl (by ((repeat (first | with_reducible exact Sel.head | apply Sel.tail)); (first | done | fail))) rfl hf3 rfl (insC_ones _) (by simp only [maxLen]; omega) (by simp only []; omega) rfl rfl) ?_
      rintro _ _ _ ⟨p9, c9, rfl, rfl, rfl⟩
      refine zO rfl Rd.asg ?_; refine zN ?_; refine zT ?_
      refine XA.ret ?_
      exact bodyA.ret (ResA.one rfl rfl) zE ⟨_, _, rfl, (hs1.trans hs2).trans hs3, rfl⟩
theorem rcode_a (σ : PH) (cs : List Value) (p : Pr) (hp : PrAt σ cs p) (hc : checkP p = 0) (hN : stsN p.body ≤ 10000) :
    CallsA Try.prog 56 #[.agg cs.toArray] σ [] (RetA fun v σ' Γ' => ∃ q c, v = .slice q (codeOf p).length c ∧ σ.sub σ' ∧ Γ' = [lst 130 4 (.slice q (codeOf p).length c) (codeOf p).length (insC (codeOf p))]) := by
  have hp0 := hp
  obtain ⟨vs, bs, rfl, hv, hb⟩ := hp
  obtain ⟨pv, cv, rfl, hvl, hvm⟩ := hv.shape
  obtain ⟨hz, hl⟩ := check_small hc
  obtain ⟨hV, -, -, -⟩ := check_valid hc
  have hln := stsCode_len p.vars p.body 0
  rw [codeOf, List.length_append, List.length_singleton, insC_snoc]
  refine enterA1 Try.func56 rfl rfl rfl ?_
  refine zS ?_; refine zR ?_
  refine XOA.wr0 rfl WrA.bx ?_
  rintro _ _ _ ⟨g1, rfl, rfl, rfl⟩
  refine zO rfl Rd.asg ?_; refine zN ?_; refine zT ?_; refine zS ?_; refine zR ?_; refine zO rfl (Rd.ldA rfl) ?_; refine zO rfl (Rd.fA rfl) ?_; refine zO rfl (Rd.ldC rfl (tyrow rfl) rfl) ?_
  refine XOA.wr0 rfl (WrA.cE (rlist_i p p.body (fun x _ => rstmt_i p hz hl x) σ bs pv cv bs 0 hp0 hb hV (by omega)) rfl) ?_
  rintro _ σ1 _ ⟨_, ⟨p2, c2, rfl, hs1, rfl⟩, rfl⟩
  refine XOA.cl ?_
  refine zO rfl Rd.asg ?_; refine zN ?_; refine zT ?_; refine zS ?_; refine zR ?_; refine zO rfl Rd.mv ?_
  refine zO rfl (Rd.bl (fun _ _ => tyrow) rfl rfl rfl) ?_
  refine XOA.wr0 rfl (WrA.bs1 (tyrow rfl) rfl (tyrow rfl)) ?_
  rintro _ _ _ ⟨g10, rfl, rfl, rfl⟩
  refine XOA.wr0 rfl (WrA.ap1 (tyrow rfl) rfl (tyrow rfl) rfl rfl rfl) ?_
  rintro _ _ _ ⟨p11, c11, rfl, rfl, rfl⟩
  refine zO rfl Rd.asg ?_; refine zN ?_; refine zT ?_
  refine XA.ret ?_
  exact bodyA.ret (ResA.one rfl rfl) zE ⟨_, _, rfl, hs1, rfl⟩
end Go.Proofs.Ytmnmcjdgnpgchaa

namespace Go.Proofs.Ytmnmcjdgnpgchaa
open Go X
set_option maxHeartbeats 1000000
section
variable {P : Program} {ρ : Env} {σ : PH} {Γ : List HP}
/-- A list of one's own, appended to nil. -/
theorem X.WrA.appL {T e : TypeId} {x y : Operand} {ty : TypeId} {r re : Ty} {m c' : Nat} {q : Option Addr} {news : List Value} {Γ' : List HP} (hT : tyOf P T = some r) (hk : r.k = .slice e) (hE : tyOf P e = some re) (hz : re.zero.length = re.size)
    (hs : ev ρ x = .slice none 0 0) (hy : ev ρ y = .slice q m c') (s : Sel Γ (lst e re.size (.slice q m c') m news) Γ') (h1 : ones news) (h63 : m ≤ maxLen) (hb : m * re.bytes ≤ 140737488355328) :
    WrA P ρ σ Γ (.call { callee := .builtin .append, args := #[x, y], argTypes := #[T, T] }) ty (fun v' σ' Δ => ∃ p c, v' = .slice p m c ∧ σ = σ' ∧ Δ = lst e re.size (.slice p m c) m news :: Γ) noPA := by
  refine ⟨fun f h hh => ?_⟩
  have hl := holds_fact hh s (q := news.length = m * re.size) (fun m hm => hm.1)
  by_cases hm : m = 0
  · subst hm
    have hn0 : news = [] := List.eq_nil_of_length_eq_zero (by rw [hl]; omega)
    subst hn0
    refine ⟨fun d pos af gd a w next Q' he hw hn hp => ?_⟩
    refine ((Rd.toW (σ := σ) (Γ := Γ) (Rd.appendNone hT hk hE hs hy (Nat.le_refl _))).out f h hh).out d pos af gd a w next Q' he hw (fun v' w' sm q => ?_) (fun _ _ _ q => by obtain ⟨_, _, q, _⟩ := q; exact q.elim)
    obtain ⟨σ', Γ'', ⟨rfl, rfl, rfl⟩, hh'⟩ := q
    exact hn _ w' sm ⟨σ, _, ⟨none, 0, rfl, rfl, rfl⟩, hh'.ent (Ent.selNil (Ent.refl _))⟩
  · obtain ⟨g, rfl⟩ := holds_fact hh s (q := ∃ g : Nat, q = some ⟨g, 0, none⟩) (fun m hm => by obtain ⟨g, e, -⟩ := lst_some (by omega) m hm; exact ⟨g, e⟩)
    exact (WrA.appendNew hT hk hE hz hs hy (At.lst s (by simp)) hl h1 (by omega) h63 hb).out f h hh
end
theorem lst_mono {e size n : Nat} {v : Value} {xs : List Value} : ∀ m m', lst e size v n xs m → m.sub m' → lst e size v n xs m' := by
  rintro m m' ⟨h1, h2⟩ s
  refine ⟨h1, h2.imp id ?_⟩
  rintro ⟨g, cap, e, cur, h3, r⟩
  exact ⟨g, cap, e, cur, blk_mono _ _ h3 s, r⟩
theorem lst_pop {e n c : Nat} {p : Option Addr} {xs : List Value} {x : Value} (hn : xs.length = n) : ∀ m, lst e 1 (.slice p (n + 1) c) (n + 1) (xs ++ [x]) m → lst e 1 (.slice p n c) n xs m := by
  rintro m ⟨h1, ⟨h2, h3⟩ | ⟨g, cap, h2, cur, h3, h4, h5, h6, h7⟩⟩
  · omega
  · simp only [Value.slice.injEq] at h2
    obtain ⟨rfl, -, rfl⟩ := h2
    refine ⟨by omega, .inr ⟨g, c, rfl, cur, h3, by omega, h5, h6, ?_⟩⟩
    rw [Nat.mul_one] at h7 ⊢
    have : (cur.take (n + 1)).take n = (xs ++ [x]).take n := by rw [h7]
    rw [List.take_take, Nat.min_eq_left (by omega), List.take_left' hn] at this
    exact this
theorem lst_someC {e size n c : Nat} {p : Option Addr} {xs : List Value} (hn : 0 < n) : ∀ m, lst e size (.slice p n c) n xs m → ∃ g : Nat, (p = some ⟨g, 0, none⟩ ∧ n ≤ c) ∧ Sat [lst e size (.slice (some ⟨g, 0, none⟩) n c) n xs] m := fun m h => by
  have hc := (lst_cap m h).1
  obtain ⟨g, e1, e2⟩ := lst_some hn m h
  exact ⟨g, ⟨e1, hc⟩, e2⟩
section
variable (σ : PH) (g : Nat) (v0 v1 v2 v4 v5 v6 v7 k0 k1 k2 k3 k4 k5 ov wr : Value)
theorem ints_rev (x : Int) (s : List Int) : ints (x :: s).reverse = ints s.reverse ++ [i64 x] := by simp [ints]
theorem pop_b (p : Option Addr) (c : Nat) (s : List Int) (x : Int) (hn : s.length ≤ 1000) :
    CallsA Try.prog 59 #[ptr g] σ [blk g [v0, v1, v2, .slice p (x :: s).length c, v4, v5, v6, v7, k0, k1, k2, k3, k4, k5, ov, wr] 129, lst 2 1 (.slice p (x :: s).length c) (x :: s).length (ints (x :: s).reverse)]
      (RetA fun v σ' Γ' => v = i64 x ∧ σ = σ' ∧ Γ' = [blk g [v0, v1, v2, .slice p s.length c, v4, v5, v6, v7, k0, k1, k2, k3, k4, k5, ov, wr] 129, lst 2 1 (.slice p s.length c) s.length (ints s.reverse)]) := by
  rw [ints_rev]
  have hl : (ints s.reverse).length = s.length := by simp [ints]
  have hx : (ints s.reverse ++ [i64 x])[s.length]? = some (i64 x) := by rw [List.getElem?_append_right (by omega)]; simp [hl]
  simp only [List.length_cons]
  refine enterA1 Try.func59 rfl rfl rfl ?_
  refine zS ?_; refine zR ?_; refine zO rfl Rd.asg ?_; refine zN ?_; refine zT ?_; refine zS ?_; refine zR ?_; refine zO rfl Rd.mv ?_; refine zO rfl (Rd.nilCheck rfl) ?_; refine zO rfl (Rd.fA rfl) ?_; refine zO rfl (Rd.fA rfl) ?_; refine zO rfl (Rd.ldC rfl (tyrow rfl) rfl) ?_; refine zO rfl (Rd.lenSlice (tyrow rfl) rfl rfl) ?_
  refine zO rfl (by first | exact Rd.sbi rfl rfl | exact Rd.sub rfl rfl) ?_
  rw [show (((s.length + 1 : Nat) : Int) - 1) = ((s.length : Nat) : Int) by omega]
  first | refine XA.opn (R := lst 2 1 (.slice p (s.length + 1) c) _ _) (by ((repeat (first | with_reducible exact Sel.head | apply Sel.tail)); (first | done | fail))) (lst_someC (by omega)) ?_ | refine XOA.opn (R := lst 2 1 (.slice p (s.length + 1) c) _ _) (by ((repeat (first | with_reducible exact Sel.head | apply Sel.tail)); (first | done | fail))) (lst_someC (by omega)) ?_ | refine DA.opn (R := lst 2 1 (.slice p (s.length + 1) c) _ _) (by ((repeat (first | with_reducible exact Sel.head | apply Sel.tail)); (first | done | fail))) (lst_someC (by omega)) ?_
  rintro g5 ⟨rfl, hc5⟩
  first | refine XA.cl ?_ | refine XOA.cl ?_ | refine DA.cl ?_
  refine zO rfl Rd.asg ?_; refine zN ?_; refine zT ?_; refine zS ?_; refine zR ?_; refine zO rfl Rd.mv ?_; refine zO rfl (Rd.nilCheck rfl) ?_; refine zO rfl (Rd.fA rfl) ?_; refine zO rfl (Rd.fA rfl) ?_; refine zO rfl (Rd.ldC rfl (tyrow rfl) rfl) ?_; refine zO rfl Rd.mv ?_
  refine zO rfl (Rd.ixS rfl rfl) ?_
  refine zO rfl (Rd.ldC rfl (tyrow rfl) rfl) ?_; refine zO rfl Rd.asg ?_; refine zN ?_; refine zT ?_; refine zS ?_; refine zR ?_; refine zO rfl Rd.mv ?_; refine zO rfl Rd.mv ?_; refine zO rfl (Rd.nilCheck rfl) ?_; refine zO rfl (Rd.fA rfl) ?_; refine zO rfl (Rd.fA rfl) ?_; refine zO rfl (Rd.ldC rfl (tyrow rfl) rfl) ?_
  refine zO rfl Rd.mv ?_
  refine zO rfl (Rd.sliceToN (tyrow rfl) rfl (tyrow rfl) rfl rfl (by omega)) ?_
  refine zO rfl (Rd.nilCheck rfl) ?_; refine zO rfl (Rd.fA rfl) ?_; refine zO rfl (Rd.fA rfl) ?_
  refine XOA.wr0 rfl (WrA.st (tyrow rfl) rfl) ?_
  rintro _ _ _ ⟨rfl, rfl, rfl⟩
  refine zN ?_; refine zT ?_; refine zS ?_; refine zR ?_; refine zO rfl Rd.mv ?_; refine zO rfl Rd.asg ?_; refine zN ?_; refine zT ?_
  refine XA.ret ?_
  refine DA.ent (Ent.foldC (Θ := [lst 2 1 (.slice (some ⟨g5, 0, none⟩) (s.length + 1) c) (s.length + 1) (ints s.reverse ++ [i64 x])]) (by (repeat (first | exact Ent.all _ | (apply Ent.take; focus (first | ((repeat (first | with_reducible exact Sel.head | apply Sel.tail)); done) | ((repeat (first | exact Sel.head | apply Sel.tail)); done))) | apply Ent.takeNil | apply Ent.takeEmp)); (first | done | fail)) (fun m h => lst_pop hl m (of_sat1 lst_mono h)) (Ent.refl _)) ?_
  exact bodyA.ret (ResA.one rfl rfl) zE ⟨rfl, rfl, rfl⟩
theorem push_b (p : Option Addr) (c : Nat) (s : List Int) (x : Int) (hn : s.length ≤ 1000) :
    CallsA Try.prog 58 #[ptr g, i64 x] σ [blk g [v0, v1, v2, .slice p s.length c, v4, v5, v6, v7, k0, k1, k2, k3, k4, k5, ov, wr] 129, lst 2 1 (.slice p s.length c) s.length (ints s.reverse)]
      (RetA fun v σ' Γ' => ∃ p' c', v = .tuple #[] ∧ σ = σ' ∧ Γ' = [blk g [v0, v1, v2, .slice p' (x :: s).length c', v4, v5, v6, v7, k0, k1, k2, k3, k4, k5, ov, wr] 129, lst 2 1 (.slice p' (x :: s).length c') (x :: s).length (ints (x :: s).reverse)]) := by
  rw [ints_rev]
  simp only [List.length_cons]
  refine enterA2 Try.func58 rfl rfl rfl ?_
  refine zR ?_; refine zO rfl Rd.mv ?_; refine zO rfl Rd.mv ?_; refine zO rfl (Rd.nilCheck rfl) ?_; refine zO rfl (Rd.fA rfl) ?_; refine zO rfl (Rd.fA rfl) ?_; refine zO rfl (Rd.ldC rfl (tyrow rfl) rfl) ?_; refine zO rfl Rd.mv ?_
  refine XOA.wr0 rfl (WrA.bs1 (tyrow rfl) rfl (tyrow rfl)) ?_
  rintro _ _ _ ⟨g11, rfl, rfl, rfl⟩
  refine XOA.wr0 rfl (WrA.ap1 (tyrow rfl) rfl (tyrow rfl) rfl rfl rfl) ?_
  rintro _ _ _ ⟨p12, c12, rfl, rfl, rfl⟩
  refine zO rfl (Rd.nilCheck rfl) ?_; refine zO rfl (Rd.fA rfl) ?_; refine zO rfl (Rd.fA rfl) ?_
  refine XOA.wr0 rfl (WrA.st (tyrow rfl) rfl) ?_
  rintro _ _ _ ⟨rfl, rfl, rfl⟩
  refine zN ?_
  exact bodyA.normal (ResA.none rfl) zE ⟨p12, c12, rfl, rfl, rfl⟩
end
theorem bit_b (σ : PH) (b : Bool) : CallsA Try.prog 60 #[.bool b] σ [] (RetA fun v σ' Γ' => v = i64 (if b then 1 else 0) ∧ σ = σ' ∧ Γ' = []) := by
  cases b with
  | true =>
    refine enterA1 Try.func60 rfl rfl rfl ?_
    refine zS ?_; refine zR ?_; refine zO rfl Rd.asg ?_; refine zN ?_; refine zT ?_; refine zS ?_; refine zS ?_; refine zR ?_; refine zO rfl Rd.mv ?_; refine zN ?_; refine zT ?_
    refine XA.condT rfl rfl ?_
    refine zS ?_; refine zR ?_; refine zO rfl Rd.asg ?_; refine zN ?_; refine zT ?_
    refine XA.ret ?_
    refine DA.thn_ret ?_
    exact bodyA.ret (ResA.one rfl rfl) (Ent.nil _) ⟨rfl, rfl, rfl⟩
  | false =>
    refine enterA1 Try.func60 rfl rfl rfl ?_
    refine zS ?_; refine zR ?_; refine zO rfl Rd.asg ?_; refine zN ?_; refine zT ?_; refine zS ?_; refine zS ?_; refine zR ?_; refine zO rfl Rd.mv ?_; refine zN ?_; refine zT ?_
    refine XA.condF rfl rfl ?_
    refine XA.skip ?_
    refine zT ?_; refine zS ?_; refine zR ?_; refine zO rfl Rd.asg ?_; refine zN ?_; refine zT ?_
    refine XA.ret ?_
    exact bodyA.ret (ResA.one rfl rfl) (Ent.nil _) ⟨rfl, rfl, rfl⟩
theorem copy_b (σ : PH) (k0 k2 k3 k4 : Int) (p1 p2 : Option Addr) (c1 c2 : Nat) (n1 n2 : Nat) (xs ys : List Int) (hx : n1 ≤ 1000) (hy : n2 ≤ 1000) :
    CallsA Try.prog 57 #[.agg #[i64 k0, .slice p1 n1 c1, i64 k2, i64 k3, i64 k4, .slice p2 n2 c2]] σ [lst 2 1 (.slice p1 n1 c1) n1 (ints xs), lst 2 1 (.slice p2 n2 c2) n2 (ints ys)]
      (RetA fun v σ' Γ' => ∃ p3 c3 p4 c4, v = .agg #[i64 k0, .slice p3 n1 c3, i64 k2, i64 k3, i64 k4, .slice p4 n2 c4] ∧ σ = σ' ∧ Γ' = [lst 2 1 (.slice p1 n1 c1) n1 (ints xs), lst 2 1 (.slice p2 n2 c2) n2 (ints ys), lst 2 1 (.slice p3 n1 c3) n1 (ints xs), lst 2 1 (.slice p4 n2 c4) n2 (ints ys)]) := by
  refine enterA1 Try.func57 rfl rfl rfl ?_
  refine zS ?_; refine zR ?_
  refine XOA.wr0 rfl WrA.bx ?_
  rintro _ _ _ ⟨g1, rfl, rfl, rfl⟩
  refine XOA.wr0 rfl (WrA.alloc (tyrow rfl)) ?_
  rintro _ _ _ ⟨g2, rfl, rfl, rfl⟩
  refine zN ?_; refine zT ?_; refine zS ?_; refine zR ?_; refine zO rfl Rd.asg ?_; refine zO rfl Rd.asg ?_; refine zN ?_; refine zT ?_; refine zS ?_
  refine XA.join [(1, 2), (5, 14)] (fun x : (Nat × Nat) × ((Option Addr × Nat) × (Option Addr × Nat)) => [(1, ptr x.1.1), (2, ptr x.1.2)]) (fun x σ' Γ' => σ = σ' ∧ Γ' = [blk x.1.1 [i64 k0, .slice x.2.1.1 n1 x.2.1.2, i64 k2, i64 k3, i64 k4, .slice x.2.2.1 n2 x.2.2.2] 124, blk x.1.2 ty124.zero 124, lst 2 1 (.slice p1 n1 c1) n1 (ints xs), lst 2 1 (.slice p2 n2 c2) n2 (ints ys), lst 2 1 (.slice x.2.1.1 n1 x.2.1.2) n1 (ints xs), lst 2 1 (.slice x.2.2.1 n2 x.2.2.2) n2 (ints ys)]) ?_ ?_
  · skip
    refine XA.drawQ (by kernel_rfl) _ _ [8, 9, 10, 11] 12 #[false, false, false, false, false, false, false, false, false, false, false, false] rfl rfl (by kernel_rfl) (PH.sub.refl _) (Ent.sel (R := blk g1 _ _) (by ((repeat (first | with_reducible exact Sel.head | apply Sel.tail)); (first | done | fail))) (Ent.nil _)) ?_
    refine XQA.pu (i := 0) (listed' := #[true, false, false, false, false, false, false, false, false, false, false, false]) rfl rfl (by kernel_rfl) rfl Gd.free Rd.mv ?_
    refine XQA.pu (i := 1) (listed' := #[true, true, false, false, false, false, false, false, false, false, false, false]) rfl rfl (by kernel_rfl) rfl Gd.free (Rd.fA rfl) ?_
    refine XQA.rd (i := 2) (listed' := #[true, true, true, false, false, false, false, false, false, false, false, false]) rfl rfl (by kernel_rfl) rfl Gd.free (Rd.ldC rfl (tyrow rfl) rfl) ?_
    refine XQA.pu (i := 4) (listed' := #[true, true, true, false, true, false, false, false, false, false, false, false]) rfl rfl (by kernel_rfl) rfl Gd.free Rd.mv ?_
    refine XQA.pu (i := 5) (listed' := #[true, true, true, false, true, true, false, false, false, false, false, false]) rfl rfl (by kernel_rfl) rfl Gd.free (Rd.fA rfl) ?_
    refine XQA.rd (i := 6) (listed' := #[true, true, true, false, true, true, true, false, false, false, false, false]) rfl rfl (by kernel_rfl) rfl Gd.free (Rd.ldC rfl (tyrow rfl) rfl) ?_
    refine XQA.w1 (i := 3) (by kernel_rfl) ?_
    refine XQA1.wr0 (listed' := #[true, true, true, true, true, true, true, false, false, false, false, false]) rfl rfl Gd.free (by kernel_rfl) rfl (X.WrA.appL (tyrow rfl) rfl (tyrow rfl) rfl rfl rfl (by ((repeat (first | with_reducible exact Sel.head | apply Sel.tail)); (first | done | fail))) (ones_ints _) (by simp only [maxLen]; omega) (by simp only []; omega)) ?_
    rintro _ _ _ ⟨p8, c8, rfl, rfl, rfl⟩
    refine ⟨⟨(by first | exact PH.sub.refl _ | assumption | (refine PH.sub.trans ?_ (by assumption); assumption)), zE⟩, XQA.re (by conv => lhs; dsimp only [List.cons_append, List.nil_append]) ?_⟩
    refine XQA.pu (i := 8) (listed' := #[true, true, true, true, true, true, true, false, true, false, false, false]) rfl rfl (by kernel_rfl) rfl Gd.free (Rd.fA rfl) ?_
    refine XQA.w1 (i := 7) (by kernel_rfl) ?_
    refine XQA1.wr0 (listed' := #[true, true, true, true, true, true, true, true, true, false, false, false]) rfl rfl Gd.free (by kernel_rfl) rfl (X.WrA.appL (tyrow rfl) rfl (tyrow rfl) rfl rfl rfl (by ((repeat (first | with_reducible exact Sel.head | apply Sel.tail)); (first | done | fail))) (ones_ints _) (by simp only [maxLen]; omega) (by simp only []; omega)) ?_
    rintro _ _ _ ⟨p12, c12, rfl, rfl, rfl⟩
    refine ⟨⟨(by first | exact PH.sub.refl _ | assumption | (refine PH.sub.trans ?_ (by assumption); assumption)), zE⟩, XQA.re (by conv => lhs; dsimp only [List.cons_append, List.nil_append]) ?_⟩
    refine XQA.w1 (i := 9) (by kernel_rfl) ?_
    refine XQA1.wrZ0 (listed' := #[true, true, true, true, true, true, true, true, true, true, false, false]) rfl rfl Gd.free (by kernel_rfl) rfl (by kernel_rfl) (WrA.st (tyrow rfl) rfl) ?_
    rintro _ _ _ ⟨rfl, rfl, rfl⟩
    refine XQA.re (by conv => lhs; dsimp only [List.cons_append, List.nil_append]) ?_
    refine XQA.pu (i := 10) (listed' := #[true, true, true, true, true, true, true, true, true, true, true, false]) rfl rfl (by kernel_rfl) rfl Gd.free (Rd.fA rfl) ?_
    refine XQA.w1 (i := 11) (by kernel_rfl) ?_
    refine XQA1.wrZ0 (listed' := #[true, true, true, true, true, true, true, true, true, true, true, true]) rfl rfl Gd.free (by kernel_rfl) rfl (by kernel_rfl) (WrA.st (tyrow rfl) rfl) ?_
    rintro _ _ _ ⟨rfl, rfl, rfl⟩
    refine XQA.re (by conv => lhs; dsimp only [List.cons_append, List.nil_append]) ?_
    refine XQA.nil rfl ?_
    refine DA.thn_normal ⟨(by (repeat (first | exact Keep.refl _ _ | refine Keep.upd ?_ rfl | refine Keep.updO ?_ rfl | refine Keep.updN ?_)); (first | done | fail)), ((g1, g2), ((p8, c8), (p12, c12))), _, (by (repeat (first | exact trivial | refine ⟨rfl, ?_⟩ | refine ⟨Eq.trans rfl (congrArg Value.bool hmat.symm), ?_⟩)); (first | done | fail)), ?_, rfl, rfl⟩; exact zE
  rintro ⟨⟨g1, g2⟩, ⟨p3, c3⟩, p4, c4⟩ δ _ _ ⟨rfl, rfl⟩
  dsimp only [ovr, List.foldl]
  refine zT ?_; refine zS ?_; refine zR ?_; refine zO rfl (Rd.ldA rfl) ?_
  refine XOA.wr0 rfl (WrA.st (tyrow rfl) rfl) ?_
  rintro _ _ _ ⟨rfl, rfl, rfl⟩
  refine zN ?_; refine zT ?_
  refine XA.ret ?_
  exact bodyA.ret (ResA.cell rfl rfl (Ld.atBlk (tyrow rfl) rfl (by ((repeat (first | with_reducible exact Sel.head | apply Sel.tail)); (first | done | fail))) rfl (by first | exact take0 (by first | rfl | assumption | (refine (ints_len _).trans ?_; assumption) | (simp [*]; (first | done | fail))) | assumption | exact take_app (by first | rfl | assumption | (refine (ints_len _).trans ?_; assumption) | (simp [*]; (first | done | fail))) | (conv => lhs; simp only [List.drop_succ_cons, List.drop_zero, List.take_succ_cons, List.take_zero])) (by first | rfl | assumption | (refine (ints_len _).trans ?_; assumption) | (simp [*]; (first | done | fail))))) zE ⟨p3, c3, p4, c4, rfl, rfl, rfl⟩
end Go.Proofs.Ytmnmcjdgnpgchaa

namespace Go.Proofs.Ytmnmcjdgnpgchaa
open Go X
set_option maxHeartbeats 1000000
end Go.Proofs.Ytmnmcjdgnpgchaa

namespace Go.Proofs.Ytmnmcjdgnpgchaa
open Go X
set_option maxHeartbeats 1000000
theorem code_fit {p : Pr} (h : checkP p = 0) {i : Nat} {x : In} (hx : (codeOf p)[i]? = some x) :
    popA x.op ≤ hts ((codeOf p).take i) ∧ hts ((codeOf p).take (i + 1)) ≤ 24 ∧ ((x.op = 13 ∨ x.op = 14) → hts ((codeOf p).take (i + 1)) = 0) ∧ (x.op = 16 ↔ i = (codeOf p).length - 1) ∧ cellOk (sizes p.vars) x := by
  obtain ⟨hF, hz, -⟩ := code_fits h
  generalize stsCode p.vars p.body 0 = L at hF hz
  have hc : codeOf p = stsCode p.vars p.body 0 ++ [⟨16, 0, 0, 0⟩] := rfl
  obtain ⟨hF, hz, -⟩ := code_fits h
  rw [hc] at hx ⊢
  generalize stsCode p.vars p.body 0 = L at *
  have hlen : (L ++ [(⟨16, 0, 0, 0⟩ : In)]).length - 1 = L.length := by simp
  rw [hlen]
  by_cases hi : i < L.length
  · rw [List.getElem?_append_left hi] at hx
    have := Fit.at hF hx
    rw [List.take_append_of_le_length (by omega), List.take_append_of_le_length (by omega)]
    simp only [Int.zero_add] at this
    exact ⟨this.1, this.2.1, this.2.2.1, ⟨fun e => absurd e this.2.2.2.2, fun e => absurd e (by omega)⟩, this.2.2.2.1⟩
  · have hil : i < (L ++ [(⟨16, 0, 0, 0⟩ : In)]).length := (List.getElem?_eq_some_iff.1 hx).1
    rw [List.length_append, List.length_singleton] at hil
    have hie : i = L.length := by omega
    subst hie
    rw [List.getElem?_append_right (Nat.le_refl _), Nat.sub_self] at hx
    simp only [List.getElem?_cons_zero, Option.some.injEq] at hx
    subst hx
    rw [List.take_left, List.take_of_length_le (by simp), hts_app, hz, hts_one]
    refine ⟨by simp [popA], by simp [dl, popA, popB], fun g => by simp at g, ⟨fun _ => rfl, fun _ => rfl⟩, ⟨fun g => by simp at g, fun g => by simp at g⟩⟩
theorem code_jump {p : Pr} (h : checkP p = 0) {x : In} (hx : x ∈ codeOf p) (ho : x.op = 13 ∨ x.op = 14) : ∃ j : Nat, x.a = j ∧ j < (codeOf p).length ∧ hts ((codeOf p).take j) = 0 := by
  have hc : codeOf p = stsCode p.vars p.body 0 ++ [⟨16, 0, 0, 0⟩] := rfl
  obtain ⟨-, -, hJ⟩ := code_fits h
  rw [hc] at hx ⊢
  rcases List.mem_append.1 hx with hx | hx
  · obtain ⟨j, e, hj, hz⟩ := hJ x hx ho
    exact ⟨j, by rw [e]; congr 1; omega, by rw [List.length_append, List.length_singleton]; omega, by rw [List.take_append_of_le_length hj, hz]⟩
  · rw [List.mem_singleton.1 hx] at ho; simp at ho
theorem splice_set (l : List Int) {i : Nat} (w : Int) (hi : i < l.length) : splice (ints l) i [i64 w] = ints (l.set i w) := by
  simp only [splice, ints, List.length_singleton, List.map_set]
  rw [List.set_eq_take_append_cons_drop, if_pos (by simpa using hi)]
  simp
end Go.Proofs.Ytmnmcjdgnpgchaa

