/- Part 3 of 5 of what the claim needs: CdQ, CdR, Kp, Ks, Km, Ja, Je, Js, Jt, Ju, Jv, Mr, Jw, Kz, Jl. -/
import Derived.Test.YtbbghdkndbpmmaaRk2
namespace Go.Proofs.Ytbbghdkndbpmmaa
open Go X
set_option maxHeartbeats 1000000
theorem X.PSl.take {α : Type} {s n c k : Nat} {R : RT α} {σ : PH} {p : Option Addr} {xs : List α} (h : PSl s R σ (.slice p n c) xs) (hk : k ≤ n) : PSl s R σ (.slice p k c) (xs.take k) := by
  obtain ⟨p', c', rows, h1, h2, h3, h4, h5, h6, h7⟩ := h
  simp only [Value.slice.injEq] at h1
  obtain ⟨rfl, rfl, rfl⟩ := h1
  have hl : (xs.take k).length = k := by rw [List.length_take]; exact Nat.min_eq_left hk
  refine ⟨p, c, rows.take k, by rw [hl], by omega, h3, by rw [hl, List.length_take]; omega, fun r hr => h5 r (List.mem_of_mem_take hr), fun i row x a b => ?_, fun hp => ?_⟩
  · rw [List.getElem?_take] at a b
    split at a
    · rename_i hi
      rw [if_pos hi] at b
      exact h6 i row x a b
    · cases a
  · obtain ⟨g, o, e, hr⟩ := h7 (by omega)
    refine ⟨g, o, e, ?_⟩
    have := hr.sub (j := 0) (us := (rows.take k).flatten) (by
      have e : rows.flatten = (rows.take k).flatten ++ (rows.drop k).flatten := by rw [← List.flatten_append, List.take_append_drop]
      rw [List.drop_zero, e]
      exact List.take_left)
    simpa using this
theorem drop_get {α : Type} {l : List α} {k : Nat} {x : α} (h : l[k]? = some x) : l.drop k = x :: l.drop (k + 1) := by
  obtain ⟨h1, h2⟩ := List.getElem?_eq_some_iff.1 h
  rw [List.drop_eq_getElem_cons h1, h2]
theorem vars_a (σ : PH) (sl : Value) (l : List Va) (hl : PSl 2 rVa σ sl l) : CallsA Try.prog 42 #[sl] σ [] (RetA fun v σ' Γ' => v = i64 (checkVars l) ∧ σ = σ' ∧ Γ' = []) := by
  obtain ⟨pl, cl, rfl, hle, hmx⟩ := hl.shape
  have hlen : l.length ≤ maxLen := by omega
  simp only [maxLen] at hlen
  refine enterA1 Try.func42 rfl rfl rfl ?_
  refine zS ?_; refine zR ?_; refine zO rfl Rd.asg ?_; refine zN ?_; refine zT ?_; refine zS ?_; refine zS ?_; refine zR ?_; refine zO rfl Rd.mv ?_; refine zO rfl (Rd.lenSlice (tyrow rfl) rfl rfl) ?_
  refine zO rfl (Rd.gtr rfl rfl) ?_
  refine zN ?_; refine zT ?_
  refine XA.condp rfl (fun h8 => ?_) (fun h8 => ?_)
  · refine zS ?_
    refine zR ?_; refine zO rfl Rd.asg ?_; refine zN ?_; refine zT ?_
    refine XA.ret ?_
    refine DA.thn_ret ?_
    have hr : checkVars l = 3 := by rw [checkVars, if_pos (by omega)]
    exact bodyA.ret (ResA.one rfl rfl) zE ⟨by rw [hr], rfl, rfl⟩
  have hcv : checkVars l = varsGo [] 0 l := by rw [checkVars, if_neg (by omega)]
  rw [hcv]
  refine XA.skip ?_
  refine zT ?_; refine zS ?_; refine zR ?_; refine zO rfl Rd.asg ?_; refine zN ?_; refine zT ?_; refine zS ?_; refine zS ?_; refine zR ?_; refine zO rfl Rd.mv ?_; refine zO rfl (Rd.lenSlice (tyrow rfl) rfl rfl) ?_; refine zO rfl Rd.mv ?_; refine zN ?_; refine zT ?_
  refine XA.block ?_
  refine XA.gen [(0, _), (2, _), (3, _), (9, _), (10, _), (11, _)] ⟨(by with_reducible (conv => lhs; whnf)), (by with_reducible (conv => lhs; whnf)), (by with_reducible (conv => lhs; whnf)), (by with_reducible (conv => lhs; whnf)), (by with_reducible (conv => lhs; whnf)), (by with_reducible (conv => lhs; whnf)), trivial⟩ (fun δ => ?_)
  dsimp only [List.foldl]
  refine XA.loop [(2, 5), (11, 42)] (fun q : Nat × Int => [(11, i64 q.1), (3, i64 q.2)]) (fun q σ' Γ' => σ = σ' ∧ q.1 ≤ l.length ∧ (0 ≤ q.2 ∧ q.2 ≤ 48 ∧ varsGo (l.take q.1) q.2 (l.drop q.1) = varsGo [] 0 l) ∧ Γ' = []) (fun q => l.length - q.1) (0, 0) (by exact ⟨rfl, rfl, trivial⟩) (Δ0 := _) ?_ (⟨rfl, Nat.zero_le _, ⟨Int.le_refl _, (by decide), rfl⟩, rfl⟩) ?_
  · exact zE
  rintro ⟨k, n⟩ δ _ _ ⟨rfl, hk, ⟨hn0, hn1, hgo⟩, rfl⟩
  dsimp only [ovr, List.foldl]
  have hk : k ≤ l.length := hk
  have hn0 : 0 ≤ n := hn0
  have hn1 : n ≤ 48 := hn1
  have hgo : varsGo (l.take k) n (l.drop k) = varsGo [] 0 l := hgo
  refine zS ?_; refine zR ?_; refine zO rfl (Rd.lss rfl rfl) ?_; refine zN ?_; refine zT ?_; refine zS ?_
  refine XA.condp rfl (fun hlt => ?_) (fun hlt => ?_)
  · have hlt : k < l.length := by omega
    obtain ⟨x, hx⟩ : ∃ x, l[k]? = some x := ⟨_, List.getElem?_eq_getElem hlt⟩
    obtain ⟨gg, o, row, rfl, ⟨rfl, ⟨hz0, hz1⟩, hnm⟩, hrl, hrow⟩ := hl.at hx
    have hpre := hl.take (k := k) hk
    rw [drop_get hx, varsGo] at hgo
    refine XA.skip ?_
    refine zT ?_; refine zS ?_
    refine XA.block ?_
    refine zS ?_; refine zR ?_; refine zO rfl Rd.mv ?_
    refine zO rfl (Rd.ixS rfl rfl) ?_
    refine zO rfl (Rd.ldA rfl) ?_
    refine XOA.wr0 rfl (WrA.alloc (tyrow rfl)) ?_
    rintro _ _ _ ⟨g5, rfl, rfl, rfl⟩
    refine zO rfl Rd.asg ?_
    refine XOA.wr0 rfl (WrA.st (tyrow rfl) rfl) ?_
    rintro _ _ _ ⟨rfl, rfl, rfl⟩
    refine zN ?_; refine zT ?_; refine zS ?_
    refine XA.block ?_
    refine zS ?_; refine zR ?_; refine zO rfl (Rd.fA rfl) ?_; refine zO rfl (Rd.ldC rfl (tyrow rfl) rfl) ?_
    refine XOA.wr0 rfl (WrA.cE (name_a σ x.name hnm) rfl) ?_
    rintro _ _ _ ⟨_, ⟨rfl, rfl, rfl⟩, rfl⟩
    refine XOA.cl ?_
    cases hnk : nameOk x.name with
    | false =>
      rw [if_pos hnk] at hgo
      refine zO rfl (by first | exact Rd.notp rfl | exact Rd.not rfl) ?_
      refine zO rfl Rd.asg ?_; refine zN ?_; refine zT ?_
      refine XA.condT rfl rfl ?_
      refine zS ?_; refine zR ?_; refine zO rfl Rd.asg ?_; refine zN ?_; refine zT ?_
      refine XA.ret ?_
      refine DA.inb_ret ?_
      refine DA.thn_ret ?_
      refine DA.inb_ret ?_
      refine DA.thn_ret ?_
      refine DA.thn_ret ?_
      refine DA.inb_ret ?_
      refine DA.thn_ret ?_
      exact bodyA.ret (ResA.one rfl rfl) zE ⟨by rw [← hgo], rfl, rfl⟩
    | true =>
      rw [if_neg (by simp [hnk])] at hgo
      refine zO rfl (by first | exact Rd.notp rfl | exact Rd.not rfl) ?_
      refine zO rfl Rd.asg ?_; refine zN ?_; refine zT ?_
      refine XA.condF rfl rfl ?_
      refine zS ?_; refine zR ?_; refine zO rfl Rd.mv ?_; refine zO rfl Rd.mv ?_
      refine zO rfl (Rd.sliceToN (tyrow rfl) rfl (tyrow rfl) rfl rfl (by omega)) ?_
      refine zO rfl (Rd.makeFunc1 (by with_reducible (conv => lhs; whnf))) ?_
      refine XOA.wr0 rfl (WrA.cE (containsVar_a σ g5 x _ _ hpre) rfl) ?_
      rintro _ _ _ ⟨_, ⟨rfl, rfl, rfl⟩, rfl⟩
      refine XOA.cl ?_
      refine zO rfl Rd.asg ?_; refine zN ?_; refine zT ?_
      refine XA.condp rfl (fun htw => ?_) (fun htw => ?_)
      · rw [if_pos htw] at hgo
        refine zS ?_; refine zR ?_; refine zO rfl Rd.asg ?_; refine zN ?_; refine zT ?_
        refine XA.ret ?_
        refine DA.inb_ret ?_
        refine DA.thn_ret ?_
        refine DA.inb_ret ?_
        refine DA.thn_ret ?_
        refine DA.thn_ret ?_
        refine DA.inb_ret ?_
        refine DA.thn_ret ?_
        exact bodyA.ret (ResA.one rfl rfl) zE ⟨by rw [← hgo], rfl, rfl⟩
      rw [if_neg htw] at hgo
      by_cases hz : x.size < 1
      · rw [if_pos (.inl hz)] at hgo
        refine zS ?_; refine zR ?_; refine zO rfl (Rd.fA rfl) ?_; refine zO rfl (Rd.ldC rfl (tyrow rfl) rfl) ?_; refine zO rfl (Rd.lss rfl rfl) ?_; refine zO rfl Rd.mv ?_
        first | ((first | refine zW ?_ | refine zQ ?_); refine zO rfl (Rd.fA rfl) ?_) | refine zU ?_ | refine zV ?_ | refine zZ ?_
        first | ((first | refine zW ?_ | refine zQ ?_); refine zO rfl (Rd.ldC rfl (tyrow rfl) rfl) ?_) | refine zU ?_ | refine zV ?_ | refine zZ ?_
        first | ((first | refine zW ?_ | refine zQ ?_); refine zO rfl Rd.mv ?_) | refine zU ?_ | refine zV ?_ | refine zZ ?_
        first | ((first | refine zW ?_ | refine zQ ?_); refine zO rfl (by first | exact Rd.sbi rfl rfl | exact Rd.sub rfl rfl) ?_) | refine zU ?_ | refine zV ?_ | refine zZ ?_
        first | ((first | refine zW ?_ | refine zQ ?_); refine zO rfl (Rd.gtr rfl rfl) ?_) | refine zU ?_ | refine zV ?_ | refine zZ ?_
        refine zO rfl (by first | exact Rd.pT rfl | exact Rd.pF rfl | exact Rd.pP rfl) ?_
        refine zO rfl Rd.asg ?_; refine zN ?_; refine zT ?_
        refine XA.condT rfl rfl ?_
        refine zS ?_; refine zR ?_; refine zO rfl Rd.asg ?_; refine zN ?_; refine zT ?_
        refine XA.ret ?_
        refine DA.inb_ret ?_
        refine DA.thn_ret ?_
        refine DA.inb_ret ?_
        refine DA.thn_ret ?_
        refine DA.thn_ret ?_
        refine DA.inb_ret ?_
        refine DA.thn_ret ?_
        exact bodyA.ret (ResA.one rfl rfl) zE ⟨by rw [← hgo], rfl, rfl⟩
      · 
        refine zS ?_; refine zR ?_; refine zO rfl (Rd.fA rfl) ?_; refine zO rfl (Rd.ldC rfl (tyrow rfl) rfl) ?_; refine zO rfl (Rd.lss rfl rfl) ?_; refine zO rfl Rd.mv ?_
        first | ((first | refine zW ?_ | refine zQ ?_); refine zO rfl (Rd.fA rfl) ?_) | refine zU ?_ | refine zV ?_ | refine zZ ?_
        first | ((first | refine zW ?_ | refine zQ ?_); refine zO rfl (Rd.ldC rfl (tyrow rfl) rfl) ?_) | refine zU ?_ | refine zV ?_ | refine zZ ?_
        first | ((first | refine zW ?_ | refine zQ ?_); refine zO rfl Rd.mv ?_) | refine zU ?_ | refine zV ?_ | refine zZ ?_
        first | ((first | refine zW ?_ | refine zQ ?_); refine zO rfl (by first | exact Rd.sbi rfl rfl | exact Rd.sub rfl rfl) ?_) | refine zU ?_ | refine zV ?_ | refine zZ ?_
        first | ((first | refine zW ?_ | refine zQ ?_); refine zO rfl (Rd.gtr rfl rfl) ?_) | refine zU ?_ | refine zV ?_ | refine zZ ?_
        refine zO rfl (by first | exact Rd.pT rfl | exact Rd.pF rfl | exact Rd.pP rfl) ?_
        refine zO rfl Rd.asg ?_; refine zN ?_; refine zT ?_
        refine XA.condp rfl (fun hz2 => ?_) (fun hz2 => ?_)
        · rw [if_pos (.inr hz2)] at hgo
          refine zS ?_; refine zR ?_; refine zO rfl Rd.asg ?_; refine zN ?_; refine zT ?_
          refine XA.ret ?_
          refine DA.inb_ret ?_
          refine DA.thn_ret ?_
          refine DA.inb_ret ?_
          refine DA.thn_ret ?_
          refine DA.thn_ret ?_
          refine DA.inb_ret ?_
          refine DA.thn_ret ?_
          exact bodyA.ret (ResA.one rfl rfl) zE ⟨by rw [← hgo], rfl, rfl⟩
        rw [if_neg (by omega)] at hgo
        refine XA.skip ?_
        refine DA.inb_normal ?_
        refine zT ?_; refine zR ?_; refine zO rfl Rd.mv ?_; refine zO rfl (Rd.fA rfl) ?_; refine zO rfl (Rd.ldC rfl (tyrow rfl) rfl) ?_
        refine zO rfl (by first | exact Rd.adi rfl rfl | exact Rd.add rfl rfl) ?_
        refine zO rfl Rd.asg ?_; refine zN ?_
        refine DA.inb_normal ?_
        refine zT ?_; refine zR ?_
        refine zO rfl (by first | exact Rd.adi rfl rfl | exact Rd.add rfl rfl) ?_
        refine zO rfl Rd.mv ?_; refine zN ?_; refine zT ?_
        refine ⟨(Keep.upd (Keep.upd (Keep.upd (Keep.upd (Keep.upd (Keep.upd (Keep.upd (Keep.upd (Keep.upd (Keep.upd (Keep.upd (Keep.upd (Keep.upd (Keep.upd (Keep.upd (Keep.upd (Keep.upd (Keep.upd (Keep.upd (Keep.updO (Keep.upd (Keep.upd (Keep.upd (Keep.upd (Keep.upd (Keep.upd (Keep.updO (Keep.upd (Keep.upd (Keep.updN (Keep.upd (Keep.updO (Keep.upd (Keep.upd (Keep.upd (Keep.upd (Keep.upd (Keep.upd (Keep.hav (Keep.hav (Keep.refl _ _) rfl) rfl) rfl) rfl) rfl) rfl) rfl) rfl) rfl) rfl)) rfl) rfl) rfl) rfl) rfl) rfl) rfl) rfl) rfl) rfl) rfl) rfl) rfl) rfl) rfl) rfl) rfl) rfl) rfl) rfl) rfl) rfl) rfl) rfl) rfl) rfl) rfl) rfl) rfl), (k + 1, n + x.size), _, (by (repeat (first | exact trivial | refine ⟨rfl, ?_⟩ | refine ⟨Eq.trans rfl (congrArg Value.bool hmat.symm), ?_⟩)); (first | done | fail)), ?_, ⟨rfl, hlt, ⟨by simp only; omega, by simp only; omega, by rw [takeS hx]; exact hgo⟩, rfl⟩, (by simp only; omega)⟩
        · exact zE
  have hkn : k = l.length := by omega
  subst hkn
  rw [List.drop_length, varsGo] at hgo
  refine XA.exit ?_
  refine DA.thn_exit ?_
  refine DA.thn_exit ?_
  refine DA.inb_same ?_
  refine zT ?_; refine zS ?_; refine zR ?_; refine zO rfl Rd.asg ?_; refine zN ?_; refine zT ?_
  refine XA.ret ?_
  exact bodyA.ret (ResA.one rfl rfl) zE ⟨by rw [← hgo], rfl, rfl⟩
theorem check_a (σ : PH) (cs : List Value) (p : Pr) (hp : PrAt σ cs p) : CallsA Try.prog 18 #[.agg cs.toArray] σ [] (RetA fun v σ' Γ' => v = i64 (checkP p) ∧ σ = σ' ∧ Γ' = []) := by
  obtain ⟨vs, bs, rfl, hv, hb⟩ := hp
  obtain ⟨pv, cv, rfl, hvl, hvm⟩ := hv.shape
  refine enterA1 Try.func18 rfl rfl rfl ?_
  refine zS ?_; refine zR ?_
  refine XOA.wr0 rfl WrA.bx ?_
  rintro _ _ _ ⟨g1, rfl, rfl, rfl⟩
  refine zO rfl Rd.asg ?_; refine zN ?_; refine zT ?_; refine zS ?_; refine zS ?_; refine zR ?_; refine zO rfl (Rd.fA rfl) ?_; refine zO rfl (Rd.ldC rfl (tyrow rfl) rfl) ?_
  refine XOA.wr0 rfl (WrA.cE (vars_a σ _ _ hv) rfl) ?_
  rintro _ _ _ ⟨_, ⟨rfl, rfl, rfl⟩, rfl⟩
  refine XOA.cl ?_
  refine zO rfl Rd.asg ?_; refine zN ?_; refine zT ?_; refine zS ?_; refine zR ?_; refine zO rfl Rd.mv ?_
  refine zO rfl (Rd.neq rfl rfl) ?_
  refine zN ?_; refine zT ?_
  refine XA.condp rfl (fun hc => ?_) (fun hc => ?_)
  · refine zS ?_
    refine zR ?_; refine zO rfl Rd.mv ?_; refine zO rfl Rd.asg ?_; refine zN ?_; refine zT ?_
    refine XA.ret ?_
    refine DA.thn_ret ?_
    exact bodyA.ret (ResA.one rfl rfl) zE ⟨by rw [checkP, if_pos hc], rfl, rfl⟩
  refine XA.skip ?_
  refine zT ?_; refine zS ?_; refine zR ?_; refine zO rfl (Rd.fA rfl) ?_; refine zO rfl (Rd.ldC rfl (tyrow rfl) rfl) ?_
  refine zO rfl (Rd.bl (fun _ _ => tyrow) rfl rfl rfl) ?_
  refine XOA.wr0 rfl WrA.bx ?_
  rintro _ _ _ ⟨g14, rfl, rfl, rfl⟩
  refine zO rfl Rd.asg ?_; refine zN ?_; refine zT ?_; refine zS ?_; refine zR ?_; refine zO rfl Rd.mv ?_; refine zO rfl (Rd.fA rfl) ?_; refine zO rfl (Rd.ldC rfl (tyrow rfl) rfl) ?_
  refine XOA.ent (Ent.foldC (Θ := [_]) (by (repeat (first | exact Ent.all _ | (apply Ent.take; focus (first | ((repeat (first | with_reducible exact Sel.head | apply Sel.tail)); done) | ((repeat (first | exact Sel.head | apply Sel.tail)); done))) | apply Ent.takeNil | apply Ent.takeEmp)); (first | done | fail)) (Judge.mkO (l := 150)) (Ent.refl _)) ?_
  refine XOA.wr0 rfl (WrA.cE (list_a σ p.body (fun x _ => stmt_a σ x) bs g14 pv p.vars.length cv (.ok 150) 0 hb (fun l hl => by simp only [Except.ok.injEq] at hl; omega) (by decide) (by decide)) rfl) ?_
  rintro _ _ _ ⟨_, ⟨rfl, rfl, rfl⟩, rfl⟩
  refine XOA.cl ?_
  have hcp : checkP p = (stsE p.vars.length 0 p.body (.ok 150)).code := by rw [checkP, if_neg hc]
  rw [hcp]
  refine zN ?_; refine zT ?_; refine zS ?_; refine zR ?_; refine zO rfl Rd.mv ?_
  cases hst : stsE p.vars.length 0 p.body (.ok 150) with
  | ok a =>
    first | refine XA.opn (R := Judge g14 _ (.ok a)) (by ((repeat (first | with_reducible exact Sel.head | apply Sel.tail)); (first | done | fail))) (Judge.okO) ?_ | refine XOA.opn (R := Judge g14 _ (.ok a)) (by ((repeat (first | with_reducible exact Sel.head | apply Sel.tail)); (first | done | fail))) (Judge.okO) ?_ | refine DA.opn (R := Judge g14 _ (.ok a)) (by ((repeat (first | with_reducible exact Sel.head | apply Sel.tail)); (first | done | fail))) (Judge.okO) ?_
    rintro ⟨⟩ -
    first | refine XA.cl ?_ | refine XOA.cl ?_ | refine DA.cl ?_
    refine zO rfl (Rd.nilCheck rfl) ?_; refine zO rfl (Rd.fA rfl) ?_; refine zO rfl (Rd.ldC rfl (tyrow rfl) rfl) ?_; refine zO rfl Rd.asg ?_; refine zN ?_; refine zT ?_
    refine XA.ret ?_
    exact bodyA.ret (ResA.one rfl rfl) (Ent.nil _) ⟨rfl, rfl, rfl⟩
  | error c =>
    first | refine XA.opn (R := Judge g14 _ (.error c)) (by ((repeat (first | with_reducible exact Sel.head | apply Sel.tail)); (first | done | fail))) (Judge.errO) ?_ | refine XOA.opn (R := Judge g14 _ (.error c)) (by ((repeat (first | with_reducible exact Sel.head | apply Sel.tail)); (first | done | fail))) (Judge.errO) ?_ | refine DA.opn (R := Judge g14 _ (.error c)) (by ((repeat (first | with_reducible exact Sel.head | apply Sel.tail)); (first | done | fail))) (Judge.errO) ?_
    rintro l h0
    first | refine XA.cl ?_ | refine XOA.cl ?_ | refine DA.cl ?_
    refine zO rfl (Rd.nilCheck rfl) ?_; refine zO rfl (Rd.fA rfl) ?_; refine zO rfl (Rd.ldC rfl (tyrow rfl) rfl) ?_; refine zO rfl Rd.asg ?_; refine zN ?_; refine zT ?_
    refine XA.ret ?_
    exact bodyA.ret (ResA.one rfl rfl) (Ent.nil _) ⟨rfl, rfl, rfl⟩
theorem sizes_bound : ∀ (l : List Va), (∀ x ∈ l, 0 ≤ x.size ∧ x.size ≤ 1000) → 0 ≤ sizes l ∧ sizes l ≤ 1000 * l.length
  | [], _ => by simp [sizes]
  | x :: l, h => by
    have h1 := sizes_bound l (fun y hy => h y (by simp [hy]))
    have h2 := h x (by simp)
    rw [sizes_cons, List.length_cons]; omega
theorem cell_a (σ : PH) (cs : List Value) (p : Pr) (v : Int) (hp : PrAt σ cs p) (hz : ∀ x ∈ p.vars, 0 ≤ x.size ∧ x.size ≤ 1000) (hl : p.vars.length ≤ 1000) :
    CallsA Try.prog 26 #[.agg cs.toArray, i64 v] σ [] (RetA fun r σ' Γ' => r = i64 (cellOf p.vars v) ∧ σ = σ' ∧ Γ' = []) := by
  obtain ⟨vs, bs, rfl, hv, hb⟩ := hp
  obtain ⟨pv, cv, rfl, hvl, hvm⟩ := hv.shape
  obtain ⟨m, hm⟩ : ∃ m, m = min v.toNat p.vars.length := ⟨_, rfl⟩
  have hmin : (if (p.vars.length : Int) < (if (0 : Int) > v then 0 else v) then (p.vars.length : Int) else (if (0 : Int) > v then 0 else v)) = (m : Int) := by
    subst hm; split <;> split at * <;> omega
  have hcell : cellOf p.vars v = sizes (p.vars.take m) := by
    rw [cellOf, hm, ← List.take_eq_take_min]
  rw [hcell]
  have hml : m ≤ p.vars.length := by omega
  refine enterA2 Try.func26 rfl rfl rfl ?_
  refine zS ?_; refine zR ?_
  refine XOA.wr0 rfl WrA.bx ?_
  rintro _ _ _ ⟨g2, rfl, rfl, rfl⟩
  refine zO rfl Rd.asg ?_; refine zN ?_; refine zT ?_; refine zS ?_; refine zR ?_; refine zO rfl Rd.asg ?_; refine zN ?_; refine zT ?_; refine zS ?_; refine zS ?_; refine zR ?_; refine zO rfl Rd.mv ?_
  refine zO rfl (Rd.max2 rfl rfl) ?_
  refine zO rfl (Rd.fA rfl) ?_; refine zO rfl (Rd.ldC rfl (tyrow rfl) rfl) ?_; refine zO rfl (Rd.lenSlice (tyrow rfl) rfl rfl) ?_
  refine zO rfl (Rd.min2 rfl rfl) ?_
  refine zO rfl Rd.mv ?_; refine zN ?_; refine zT ?_
  refine XA.block ?_
  rw [hmin]
  refine XA.gen [(2, _), (4, _), (5, _), (12, _), (13, _)] ⟨(by with_reducible (conv => lhs; whnf)), (by with_reducible (conv => lhs; whnf)), (by with_reducible (conv => lhs; whnf)), (by with_reducible (conv => lhs; whnf)), (by with_reducible (conv => lhs; whnf)), trivial⟩ (fun δ => ?_)
  dsimp only [List.foldl]
  refine XA.loop [(5, 6), (13, 24)] (fun q : Nat × Int => [(13, i64 q.1), (5, i64 q.2)]) (fun q σ' Γ' => σ = σ' ∧ q.1 ≤ m ∧ q.2 = sizes (p.vars.take q.1) ∧ Γ' = [blk g2 [.slice pv p.vars.length cv, bs] 25]) (fun q => m - q.1) (0, 0) (by exact ⟨rfl, rfl, trivial⟩) (Δ0 := _) ?_ (⟨rfl, Nat.zero_le _, rfl, rfl⟩) ?_
  · exact zE
  rintro ⟨k, n⟩ δ _ _ ⟨rfl, hk, hn, rfl⟩
  dsimp only [ovr, List.foldl]
  have hk : k ≤ m := hk
  have hn : n = sizes (p.vars.take k) := hn
  have hsb := sizes_bound (p.vars.take k) (fun y hy => hz y (List.mem_of_mem_take hy))
  have hkl : (p.vars.take k).length = k := by rw [List.length_take]; omega
  refine zS ?_; refine zR ?_; refine zO rfl (Rd.lss rfl rfl) ?_; refine zN ?_; refine zT ?_; refine zS ?_
  refine XA.condp rfl (fun hlt => ?_) (fun hlt => ?_)
  · have hlt : k < m := by omega
    obtain ⟨x, hx⟩ : ∃ x, p.vars[k]? = some x := ⟨_, List.getElem?_eq_getElem (by omega)⟩
    obtain ⟨gg, o, row, rfl, ⟨rfl, ⟨hz0, hz1⟩, hnm⟩, hrl, hrow⟩ := hv.at hx
    have r1 : PRow σ gg (o + k * 2 + 1) [i64 x.size] := hrow.sub (j := 1) rfl
    have e1 := sizes_take p.vars k x hx
    have hxz := hz x (List.mem_of_getElem? hx)
    refine XA.skip ?_
    refine zT ?_; refine zS ?_
    refine XA.block ?_
    refine zS ?_; refine zR ?_; refine zO rfl Rd.mv ?_; refine zO rfl Rd.asg ?_; refine zN ?_; refine zT ?_; refine zR ?_; refine zO rfl Rd.mv ?_; refine zO rfl (Rd.fA rfl) ?_; refine zO rfl (Rd.ldC rfl (tyrow rfl) rfl) ?_; refine zO rfl Rd.mv ?_
    refine zO rfl (Rd.ixS rfl rfl) ?_
    refine zO rfl (Rd.fA rfl) ?_; refine zO rfl (Rd.ldC rfl (tyrow rfl) rfl) ?_
    refine zO rfl (by first | exact Rd.adi rfl rfl | exact Rd.add rfl rfl) ?_
    refine zO rfl Rd.asg ?_; refine zN ?_
    refine DA.inb_normal ?_
    refine zT ?_; refine zR ?_
    refine zO rfl (by first | exact Rd.adi rfl rfl | exact Rd.add rfl rfl) ?_
    refine zO rfl Rd.mv ?_; refine zN ?_; refine zT ?_
    refine ⟨(Keep.upd (Keep.upd (Keep.upd (Keep.upd (Keep.upd (Keep.upd (Keep.upd (Keep.upd (Keep.upd (Keep.upd (Keep.upd (Keep.upd (Keep.upd (Keep.upd (Keep.upd (Keep.upd (Keep.hav (Keep.hav (Keep.refl _ _) rfl) rfl) rfl) rfl) rfl) rfl) rfl) rfl) rfl) rfl) rfl) rfl) rfl) rfl) rfl) rfl) rfl) rfl), (k + 1, n + x.size), _, (by (repeat (first | exact trivial | refine ⟨rfl, ?_⟩ | refine ⟨Eq.trans rfl (congrArg Value.bool hmat.symm), ?_⟩)); (first | done | fail)), ?_, ⟨rfl, hlt, by simp only; omega, rfl⟩, (by simp only; omega)⟩
    · exact zE
  have hkm : k = m := by omega
  subst hkm
  refine XA.exit ?_
  refine DA.thn_exit ?_
  refine DA.thn_exit ?_
  refine DA.inb_same ?_
  refine zT ?_; refine zS ?_; refine zR ?_; refine zO rfl Rd.mv ?_; refine zO rfl Rd.asg ?_; refine zN ?_; refine zT ?_
  refine XA.ret ?_
  exact bodyA.ret (ResA.one rfl rfl) (Ent.nil _) ⟨by rw [← hn], rfl, rfl⟩
theorem cells_a (σ : PH) (cs : List Value) (p : Pr) (hp : PrAt σ cs p) (hz : ∀ x ∈ p.vars, 0 ≤ x.size ∧ x.size ≤ 1000) (hl : p.vars.length ≤ 1000) :
    CallsA Try.prog 28 #[.agg cs.toArray] σ [] (RetA fun r σ' Γ' => r = i64 (sizes p.vars) ∧ σ = σ' ∧ Γ' = []) := by
  have hp0 := hp
  obtain ⟨vs, bs, rfl, hv, hb⟩ := hp
  obtain ⟨pv, cv, rfl, hvl, hvm⟩ := hv.shape
  refine enterA1 Try.func28 rfl rfl rfl ?_
  refine zS ?_; refine zR ?_
  refine XOA.wr0 rfl WrA.bx ?_
  rintro _ _ _ ⟨g1, rfl, rfl, rfl⟩
  refine zO rfl Rd.asg ?_; refine zN ?_; refine zT ?_; refine zS ?_; refine zR ?_; refine zO rfl (Rd.ldA rfl) ?_; refine zO rfl (Rd.fA rfl) ?_; refine zO rfl (Rd.ldC rfl (tyrow rfl) rfl) ?_; refine zO rfl (Rd.lenSlice (tyrow rfl) rfl rfl) ?_
  refine XOA.wr0 rfl (WrA.cE (cell_a σ _ p p.vars.length hp0 hz hl) rfl) ?_
  rintro _ _ _ ⟨_, ⟨rfl, rfl, rfl⟩, rfl⟩
  refine XOA.cl ?_
  refine zO rfl Rd.asg ?_; refine zN ?_; refine zT ?_
  refine XA.ret ?_
  exact bodyA.ret (ResA.one rfl rfl) (Ent.nil _) ⟨by rw [cellOf, Int.toNat_natCast, List.take_length], rfl, rfl⟩
end Go.Proofs.Ytbbghdkndbpmmaa

namespace Go.Proofs.Ytbbghdkndbpmmaa
open Go X
set_option maxHeartbeats 1000000
end Go.Proofs.Ytbbghdkndbpmmaa

namespace Go.Proofs.Ytbbghdkndbpmmaa
open Go X
set_option maxHeartbeats 1000000
def insC (l : List In) : List Value := (l.map inC).flatten
theorem insC_snoc (l : List In) (x : In) : insC (l ++ [x]) = insC l ++ inC x := by simp [insC]
theorem insC_app (l m : List In) : insC (l ++ m) = insC l ++ insC m := by simp [insC]
theorem exsN_mem : ∀ {l : List Ex} {x : Ex}, x ∈ l → exN x ≤ exsN l
  | y :: l, x, h => by
    rw [exsN]
    rcases List.mem_cons.1 h with rfl | h
    · omega
    · have := exsN_mem h; omega
end Go.Proofs.Ytbbghdkndbpmmaa

namespace Go.Proofs.Ytbbghdkndbpmmaa
open Go X
set_option maxHeartbeats 1000000
theorem lst_openW {e size n c : Nat} {p : Option Addr} {xs : List Value} (hn : 0 < n) : ∀ m, lst e size (.slice p n c) n xs m → ∃ x : Nat × List Value, (p = some ⟨x.1, 0, none⟩ ∧ n ≤ c ∧ c ≤ maxLen ∧ xs.length = n * size ∧ c * size ≤ (xs ++ x.2).length) ∧ Sat [blk x.1 (xs ++ x.2) e] m := by
  rintro m ⟨h1, ⟨h2, rfl⟩ | ⟨g, cap, h2, cur, h3, h4, h5, h6, h7⟩⟩
  · exact absurd hn (Nat.lt_irrefl _)
  · simp only [Value.slice.injEq] at h2
    obtain ⟨rfl, -, rfl⟩ := h2
    refine ⟨(g, cur.drop (n * size)), ⟨rfl, h4, h5, h1, ?_⟩, m, PH.none, ?_, trivial, PH.none_dis m, .refl m, PH.none_sub m⟩
    · rw [← h7, List.take_append_drop]; exact h6
    · rw [← h7, List.take_append_drop]; exact h3
theorem lst_close {e size n c g : Nat} {xs rest : List Value} (hl : xs.length = n * size) (hn : n ≤ c) (hm : c ≤ maxLen) (hc : c * size ≤ (xs ++ rest).length) : ∀ m, Sat [blk g (xs ++ rest) e] m → lst e size (.slice (some ⟨g, 0, none⟩) n c) n xs m := fun m h =>
  ⟨hl, .inr ⟨g, c, rfl, xs ++ rest, of_sat1 blk_mono h, hn, hm, hc, by rw [← hl]; simp⟩⟩
theorem stCode_5 (vs : List Va) (v : Int) (e f : Ex) (body els : List St) (k : Nat) : stCode vs (.mk 5 v e f body els) k = exCode vs e ++ [⟨13, (k + (exCode vs e).length + 1 + (stsCode vs body (k + (exCode vs e).length + 1)).length + 1 : Nat), 0, 0⟩] ++ stsCode vs body (k + (exCode vs e).length + 1) ++ [⟨14, (k : Nat), 0, 0⟩] := by rw [stCode]; rfl
theorem stCode_6 (vs : List Va) (v : Int) (e f : Ex) (body els : List St) (k : Nat) : stCode vs (.mk 6 v e f body els) k = exCode vs e ++ [⟨13, (k + (exCode vs e).length + 1 + (stsCode vs body (k + (exCode vs e).length + 1)).length + 1 : Nat), 0, 0⟩] ++ stsCode vs body (k + (exCode vs e).length + 1) ++ [⟨14, (k + (exCode vs e).length + 1 + (stsCode vs body (k + (exCode vs e).length + 1)).length + 1 + (stsCode vs els (k + (exCode vs e).length + 1 + (stsCode vs body (k + (exCode vs e).length + 1)).length + 1)).length : Nat), 0, 0⟩] ++ stsCode vs els (k + (exCode vs e).length + 1 + (stsCode vs body (k + (exCode vs e).length + 1)).length + 1) := by rw [stCode]; rfl
theorem stsN_mem : ∀ {l : List St} {x : St}, x ∈ l → stN x ≤ stsN l
  | y :: l, x, h => by
    rw [stsN]
    rcases List.mem_cons.1 h with rfl | h
    · omega
    · have := stsN_mem h; omega
end Go.Proofs.Ytbbghdkndbpmmaa

namespace Go.Proofs.Ytbbghdkndbpmmaa
open Go X
set_option maxHeartbeats 1000000
def rIn : RT In := fun _ cs i => cs = inC i
theorem size_le : ∀ {l : List Va}, (∀ x ∈ l, 1 ≤ x.size) → ∀ x ∈ l, x.size ≤ sizes l
  | y :: l, h, x, hx => by
    have h1 := h y (by simp)
    have h2 := sizes_nonneg (l := l) (fun z hz => h z (by simp [hz]))
    rw [sizes_cons]
    rcases List.mem_cons.1 hx with rfl | hx
    · omega
    · have := size_le (l := l) (fun z hz => h z (by simp [hz])) x hx; omega
theorem check_small {p : Pr} (h : checkP p = 0) : (∀ x ∈ p.vars, 0 ≤ x.size ∧ x.size ≤ 1000) ∧ p.vars.length ≤ 1000 := by
  obtain ⟨-, h1, h2, h3⟩ := check_valid h
  exact ⟨fun x hx => by have a := h2 x hx; have b := size_le h2 x hx; omega, by omega⟩
theorem rows_in (σ : PH) (l : List In) : Rows_ 4 rIn σ (l.map inC) l :=
  ⟨by simp, fun r hr => by obtain ⟨i, -, rfl⟩ := List.mem_map.1 hr; rfl, fun k r x hr hx => by rw [List.getElem?_map, hx] at hr; simpa [rIn] using hr.symm⟩
theorem codeOf_len (p : Pr) : (codeOf p).length ≤ stsN p.body + 1 := by rw [codeOf, List.length_append]; have := stsCode_len p.vars p.body 0; simp; omega
end Go.Proofs.Ytbbghdkndbpmmaa

namespace Go.Proofs.Ytbbghdkndbpmmaa
open Go X
set_option maxHeartbeats 1000000
def goneC (c : Int) : List PanicEntry := [{ v := .iface 98 (i64 c), recovered := false }]
theorem fail_t (σ : PH) (is : Bool) (c : Int) (h : is = true) : CallsA Try.prog 74 #[.bool is, i64 c] σ [] (PanA fun ch σ' Γ' => ch = goneC c ∧ σ = σ' ∧ Γ' = []) := by
  subst h
  refine enterA2 Try.func74 rfl rfl rfl ?_
  refine zS ?_; refine zR ?_; refine zO rfl Rd.mv ?_; refine zN ?_; refine zT ?_
  refine XA.condT rfl rfl ?_
  refine zR ?_; refine zO rfl Rd.mv ?_
  refine zO rfl (Rd.mkI (tyrow rfl) rfl rfl) ?_
  refine XOA.throw rfl rfl ?_
  repeat (first | refine DA.thn_panic ?_ | refine DA.inb_panic ?_)
  exact bodyA.panic zE ⟨rfl, rfl, rfl⟩
theorem fail_f (σ : PH) (is : Bool) (c : Int) (h : is = false) : CallsA Try.prog 74 #[.bool is, i64 c] σ [] (RetA fun v σ' Γ' => v = .tuple #[] ∧ σ = σ' ∧ Γ' = []) := by
  subst h
  refine enterA2 Try.func74 rfl rfl rfl ?_
  refine zS ?_; refine zR ?_; refine zO rfl Rd.mv ?_; refine zN ?_; refine zT ?_
  refine XA.condF rfl rfl ?_
  refine XA.skip ?_
  exact bodyA.normal (ResA.none rfl) (Ent.nil _) ⟨rfl, rfl, rfl⟩
theorem one_t (σ : PH) (b : Nat) (v0 v1 v2 v3 v4 : Value) :
    CallsA Try.prog 54 #[ptr b] σ [blk b [v0, v1, v2, v3, v4, i64 0] 97] (PanA fun ch σ' Γ' => ch = goneC 13 ∧ σ = σ' ∧ Γ' = [blk b [v0, v1, v2, v3, v4, i64 0] 97]) := by
  refine enterA1 Try.func54 rfl rfl rfl ?_
  refine zS ?_; refine zR ?_; refine zO rfl Rd.mv ?_; refine zO rfl (Rd.nilCheck rfl) ?_; refine zO rfl (Rd.fA rfl) ?_; refine zO rfl (Rd.ldC rfl (tyrow rfl) rfl) ?_; refine zO rfl (Rd.eql rfl rfl) ?_
  refine XOA.die rfl (fail_t σ _ 13 (decide_eq_true rfl)) rfl ?_
  rintro _ _ _ ⟨rfl, rfl, rfl⟩
  refine DA.cl ?_
  repeat (first | refine DA.thn_panic ?_ | refine DA.inb_panic ?_)
  exact bodyA.panic zE ⟨rfl, rfl, rfl⟩
theorem one_f (σ : PH) (b : Nat) (v0 v1 v2 v3 v4 : Value) (f : Nat) (h1 : f < 1000000) :
    CallsA Try.prog 54 #[ptr b] σ [blk b [v0, v1, v2, v3, v4, i64 ((f + 1 : Nat) : Int)] 97] (RetA fun v σ' Γ' => v = .tuple #[] ∧ σ = σ' ∧ Γ' = [blk b [v0, v1, v2, v3, v4, i64 f] 97]) := by
  have e : (f : Int) = ((f + 1 : Nat) : Int) - 1 := by omega
  rw [e]
  refine enterA1 Try.func54 rfl rfl rfl ?_
  refine zS ?_; refine zR ?_; refine zO rfl Rd.mv ?_; refine zO rfl (Rd.nilCheck rfl) ?_; refine zO rfl (Rd.fA rfl) ?_; refine zO rfl (Rd.ldC rfl (tyrow rfl) rfl) ?_; refine zO rfl (Rd.eql rfl rfl) ?_
  refine XOA.wr0 rfl (WrA.cE (fail_f σ _ 13 (decide_eq_false (by omega))) rfl) ?_
  rintro _ _ _ ⟨_, ⟨rfl, rfl, rfl⟩, rfl⟩
  refine XOA.cl ?_
  refine zN ?_; refine zT ?_; refine zR ?_; refine zO rfl Rd.mv ?_; refine zO rfl (Rd.nilCheck rfl) ?_; refine zO rfl (Rd.fA rfl) ?_; refine zO rfl (Rd.ldC rfl (tyrow rfl) rfl) ?_
  refine zO rfl (by first | exact Rd.sbi rfl rfl | exact Rd.sub rfl rfl) ?_
  refine zO rfl (Rd.nilCheck rfl) ?_; refine zO rfl (Rd.fA rfl) ?_
  refine XOA.wr0 rfl (WrA.st (tyrow rfl) rfl) ?_
  rintro _ _ _ ⟨rfl, rfl, rfl⟩
  refine zN ?_
  exact bodyA.normal (ResA.none rfl) zE ⟨rfl, rfl, rfl⟩
theorem flag_a (σ : PH) (b : Bool) : CallsA Try.prog 92 #[.bool b] σ [] (RetA fun v σ' Γ' => v = i64 (if b then 1 else 0) ∧ σ = σ' ∧ Γ' = []) := by
  cases b with
  | true =>
    refine enterA1 Try.func92 rfl rfl rfl ?_
    refine zS ?_; refine zR ?_; refine zO rfl Rd.asg ?_; refine zN ?_; refine zT ?_; refine zS ?_; refine zS ?_; refine zR ?_; refine zO rfl Rd.mv ?_; refine zN ?_; refine zT ?_
    refine XA.condT rfl rfl ?_
    refine zS ?_; refine zR ?_; refine zO rfl Rd.asg ?_; refine zN ?_; refine zT ?_
    refine XA.ret ?_
    refine DA.thn_ret ?_
    exact bodyA.ret (ResA.one rfl rfl) (Ent.nil _) ⟨rfl, rfl, rfl⟩
  | false =>
    refine enterA1 Try.func92 rfl rfl rfl ?_
    refine zS ?_; refine zR ?_; refine zO rfl Rd.asg ?_; refine zN ?_; refine zT ?_; refine zS ?_; refine zS ?_; refine zR ?_; refine zO rfl Rd.mv ?_; refine zN ?_; refine zT ?_
    refine XA.condF rfl rfl ?_
    refine XA.skip ?_
    refine zT ?_; refine zS ?_; refine zR ?_; refine zO rfl Rd.asg ?_; refine zN ?_; refine zT ?_
    refine XA.ret ?_
    exact bodyA.ret (ResA.one rfl rfl) (Ent.nil _) ⟨rfl, rfl, rfl⟩
theorem at_t (σ : PH) (b : Nat) (pr : Pr) (pv : Option Addr) (cv : Nat) (bs v2 v3 v4 v5 : Value) (v k : Int) (hp : PrAt σ [.slice pv pr.vars.length cv, bs] pr) (hz : ∀ x ∈ pr.vars, 0 ≤ x.size ∧ x.size ≤ 1000) (hvl : pr.vars.length ≤ 1000) (hv : 0 ≤ v ∧ v < pr.vars.length) (hk : k < 0 ∨ sizeV pr.vars v ≤ k) : CallsA Try.prog 90 #[ptr b, i64 v, i64 k] σ [blk b [.slice pv pr.vars.length cv, bs, v2, v3, v4, v5] 97] (PanA fun ch σ' Γ' => ch = goneC 11 ∧ σ = σ' ∧ Γ' = [blk b [.slice pv pr.vars.length cv, bs, v2, v3, v4, v5] 97]) := by
  obtain ⟨vx, hvx⟩ : ∃ vx, pr.vars[v.toNat]? = some vx := ⟨_, List.getElem?_eq_getElem (by omega)⟩
  rw [sizeV_get hvx] at hk
  obtain ⟨vs', bs', heq, hpv, hpb⟩ := hp
  simp only [List.cons.injEq, and_true] at heq
  obtain ⟨rfl, rfl⟩ := heq
  obtain ⟨gg, oo, rowv, rfl, ⟨rfl, ⟨hz0, hz1⟩, hnm⟩, hrl, hrow⟩ := hpv.at hvx
  have r1 : PRow σ gg (oo + v.toNat * 2 + 1) [i64 vx.size] := hrow.sub (j := 1) rfl
  obtain ⟨hv0, hv1⟩ := hv
  by_cases h0 : k < 0
  · refine enterA3 Try.func90 rfl rfl rfl ?_
    refine zS ?_; refine zR ?_; refine zO rfl Rd.asg ?_; refine zN ?_; refine zT ?_; refine zS ?_; refine zR ?_; refine zO rfl Rd.mv ?_; refine zO rfl (Rd.lss rfl rfl) ?_; refine zO rfl Rd.mv ?_
    first | ((first | refine zW ?_ | refine zQ ?_); refine zO rfl Rd.mv ?_) | refine zU ?_ | refine zV ?_ | refine zZ ?_
    first | ((first | refine zW ?_ | refine zQ ?_); refine zO rfl Rd.mv ?_) | refine zU ?_ | refine zV ?_ | refine zZ ?_
    first | ((first | refine zW ?_ | refine zQ ?_); refine zO rfl (Rd.nilCheck rfl) ?_) | refine zU ?_ | refine zV ?_ | refine zZ ?_
    first | ((first | refine zW ?_ | refine zQ ?_); refine zO rfl (Rd.fA rfl) ?_) | refine zU ?_ | refine zV ?_ | refine zZ ?_
    first | ((first | refine zW ?_ | refine zQ ?_); refine zO rfl (Rd.fA rfl) ?_) | refine zU ?_ | refine zV ?_ | refine zZ ?_
    first | ((first | refine zW ?_ | refine zQ ?_); refine zO rfl (Rd.ldC rfl (tyrow rfl) rfl) ?_) | refine zU ?_ | refine zV ?_ | refine zZ ?_
    first | ((first | refine zW ?_ | refine zQ ?_); refine zO rfl Rd.mv ?_) | refine zU ?_ | refine zV ?_ | refine zZ ?_
    first | ((first | refine zW ?_ | refine zQ ?_); refine zO rfl (Rd.ixS rfl rfl) ?_) | refine zU ?_ | refine zV ?_ | refine zZ ?_
    first | ((first | refine zW ?_ | refine zQ ?_); refine zO rfl (Rd.fA rfl) ?_) | refine zU ?_ | refine zV ?_ | refine zZ ?_
    first | ((first | refine zW ?_ | refine zQ ?_); refine zO rfl (Rd.ldC rfl (tyrow rfl) rfl) ?_) | refine zU ?_ | refine zV ?_ | refine zZ ?_
    first | ((first | refine zW ?_ | refine zQ ?_); refine zO rfl (Rd.geq rfl rfl) ?_) | refine zU ?_ | refine zV ?_ | refine zZ ?_
    refine zO rfl (by first | exact Rd.pT rfl | exact Rd.pF rfl | exact Rd.pP rfl) ?_
    refine XOA.die rfl (fail_t σ _ 11 rfl) rfl ?_
    rintro _ _ _ ⟨rfl, rfl, rfl⟩
    refine DA.cl ?_
    repeat (first | refine DA.thn_panic ?_ | refine DA.inb_panic ?_)
    exact bodyA.panic zE ⟨rfl, rfl, rfl⟩
  · refine enterA3 Try.func90 rfl rfl rfl ?_
    refine zS ?_; refine zR ?_; refine zO rfl Rd.asg ?_; refine zN ?_; refine zT ?_; refine zS ?_; refine zR ?_; refine zO rfl Rd.mv ?_; refine zO rfl (Rd.lss rfl rfl) ?_; refine zO rfl Rd.mv ?_
    first | ((first | refine zW ?_ | refine zQ ?_); refine zO rfl Rd.mv ?_) | refine zU ?_ | refine zV ?_ | refine zZ ?_
    first | ((first | refine zW ?_ | refine zQ ?_); refine zO rfl Rd.mv ?_) | refine zU ?_ | refine zV ?_ | refine zZ ?_
    first | ((first | refine zW ?_ | refine zQ ?_); refine zO rfl (Rd.nilCheck rfl) ?_) | refine zU ?_ | refine zV ?_ | refine zZ ?_
    first | ((first | refine zW ?_ | refine zQ ?_); refine zO rfl (Rd.fA rfl) ?_) | refine zU ?_ | refine zV ?_ | refine zZ ?_
    first | ((first | refine zW ?_ | refine zQ ?_); refine zO rfl (Rd.fA rfl) ?_) | refine zU ?_ | refine zV ?_ | refine zZ ?_
    first | ((first | refine zW ?_ | refine zQ ?_); refine zO rfl (Rd.ldC rfl (tyrow rfl) rfl) ?_) | refine zU ?_ | refine zV ?_ | refine zZ ?_
    first | ((first | refine zW ?_ | refine zQ ?_); refine zO rfl Rd.mv ?_) | refine zU ?_ | refine zV ?_ | refine zZ ?_
    first | ((first | refine zW ?_ | refine zQ ?_); refine zO rfl (Rd.ixS rfl rfl) ?_) | refine zU ?_ | refine zV ?_ | refine zZ ?_
    first | ((first | refine zW ?_ | refine zQ ?_); refine zO rfl (Rd.fA rfl) ?_) | refine zU ?_ | refine zV ?_ | refine zZ ?_
    first | ((first | refine zW ?_ | refine zQ ?_); refine zO rfl (Rd.ldC rfl (tyrow rfl) rfl) ?_) | refine zU ?_ | refine zV ?_ | refine zZ ?_
    first | ((first | refine zW ?_ | refine zQ ?_); refine zO rfl (Rd.geq rfl rfl) ?_) | refine zU ?_ | refine zV ?_ | refine zZ ?_
    refine zO rfl (by first | exact Rd.pT rfl | exact Rd.pF rfl | exact Rd.pP rfl) ?_
    refine XOA.die rfl (fail_t σ _ 11 (decide_eq_true (by omega))) rfl ?_
    rintro _ _ _ ⟨rfl, rfl, rfl⟩
    refine DA.cl ?_
    repeat (first | refine DA.thn_panic ?_ | refine DA.inb_panic ?_)
    exact bodyA.panic zE ⟨rfl, rfl, rfl⟩
theorem at_f (σ : PH) (b : Nat) (pr : Pr) (pv : Option Addr) (cv : Nat) (bs v2 v3 v4 v5 : Value) (v k : Int) (hp : PrAt σ [.slice pv pr.vars.length cv, bs] pr) (hz : ∀ x ∈ pr.vars, 0 ≤ x.size ∧ x.size ≤ 1000) (hvl : pr.vars.length ≤ 1000) (hv : 0 ≤ v ∧ v < pr.vars.length) (h0 : 0 ≤ k) (hk : k < sizeV pr.vars v) : CallsA Try.prog 90 #[ptr b, i64 v, i64 k] σ [blk b [.slice pv pr.vars.length cv, bs, v2, v3, v4, v5] 97] (RetA fun r σ' Γ' => r = i64 (cellOf pr.vars v + k) ∧ σ = σ' ∧ Γ' = [blk b [.slice pv pr.vars.length cv, bs, v2, v3, v4, v5] 97]) := by
  have hp0 := hp
  obtain ⟨vx, hvx⟩ : ∃ vx, pr.vars[v.toNat]? = some vx := ⟨_, List.getElem?_eq_getElem (by omega)⟩
  have hzx := hz vx (List.mem_of_getElem? hvx)
  rw [sizeV_get hvx] at hk
  obtain ⟨vs', bs', heq, hpv, hpb⟩ := hp
  simp only [List.cons.injEq, and_true] at heq
  obtain ⟨rfl, rfl⟩ := heq
  obtain ⟨gg, oo, rowv, rfl, ⟨rfl, ⟨hz0, hz1⟩, hnm⟩, hrl, hrow⟩ := hpv.at hvx
  have r1 : PRow σ gg (oo + v.toNat * 2 + 1) [i64 vx.size] := hrow.sub (j := 1) rfl
  have hcb := sizes_bound (pr.vars.take v.toNat) (fun y hy => hz y (List.mem_of_mem_take hy))
  have hcl : ((pr.vars.take v.toNat).length : Int) ≤ 1000 := by rw [List.length_take]; omega
  have hcell : cellOf pr.vars v = sizes (pr.vars.take v.toNat) := rfl
  obtain ⟨hv0, hv1⟩ := hv
  have hn0 : ¬ k < 0 := by omega
  refine enterA3 Try.func90 rfl rfl rfl ?_
  refine zS ?_; refine zR ?_; refine zO rfl Rd.asg ?_; refine zN ?_; refine zT ?_; refine zS ?_; refine zR ?_; refine zO rfl Rd.mv ?_; refine zO rfl (Rd.lss rfl rfl) ?_; refine zO rfl Rd.mv ?_
  first | ((first | refine zW ?_ | refine zQ ?_); refine zO rfl Rd.mv ?_) | refine zU ?_ | refine zV ?_ | refine zZ ?_
  first | ((first | refine zW ?_ | refine zQ ?_); refine zO rfl Rd.mv ?_) | refine zU ?_ | refine zV ?_ | refine zZ ?_
  first | ((first | refine zW ?_ | refine zQ ?_); refine zO rfl (Rd.nilCheck rfl) ?_) | refine zU ?_ | refine zV ?_ | refine zZ ?_
  first | ((first | refine zW ?_ | refine zQ ?_); refine zO rfl (Rd.fA rfl) ?_) | refine zU ?_ | refine zV ?_ | refine zZ ?_
  first | ((first | refine zW ?_ | refine zQ ?_); refine zO rfl (Rd.fA rfl) ?_) | refine zU ?_ | refine zV ?_ | refine zZ ?_
  first | ((first | refine zW ?_ | refine zQ ?_); refine zO rfl (Rd.ldC rfl (tyrow rfl) rfl) ?_) | refine zU ?_ | refine zV ?_ | refine zZ ?_
  first | ((first | refine zW ?_ | refine zQ ?_); refine zO rfl Rd.mv ?_) | refine zU ?_ | refine zV ?_ | refine zZ ?_
  first | ((first | refine zW ?_ | refine zQ ?_); refine zO rfl (Rd.ixS rfl rfl) ?_) | refine zU ?_ | refine zV ?_ | refine zZ ?_
  first | ((first | refine zW ?_ | refine zQ ?_); refine zO rfl (Rd.fA rfl) ?_) | refine zU ?_ | refine zV ?_ | refine zZ ?_
  first | ((first | refine zW ?_ | refine zQ ?_); refine zO rfl (Rd.ldC rfl (tyrow rfl) rfl) ?_) | refine zU ?_ | refine zV ?_ | refine zZ ?_
  first | ((first | refine zW ?_ | refine zQ ?_); refine zO rfl (Rd.geq rfl rfl) ?_) | refine zU ?_ | refine zV ?_ | refine zZ ?_
  refine zO rfl (by first | exact Rd.pT rfl | exact Rd.pF rfl | exact Rd.pP rfl) ?_
  refine XOA.wr0 rfl (WrA.cE (fail_f σ _ 11 (decide_eq_false (by omega))) rfl) ?_
  rintro _ _ _ ⟨_, ⟨rfl, rfl, rfl⟩, rfl⟩
  refine XOA.cl ?_
  refine zN ?_; refine zT ?_; refine zS ?_; refine zR ?_; refine zO rfl Rd.mv ?_; refine zO rfl (Rd.nilCheck rfl) ?_; refine zO rfl (Rd.fA rfl) ?_; refine zO rfl (Rd.ldA rfl) ?_; refine zO rfl Rd.mv ?_
  refine XOA.wr0 rfl (WrA.cE (cell_a σ _ pr v hp0 hz hvl) rfl) ?_
  rintro _ _ _ ⟨_, ⟨rfl, rfl, rfl⟩, rfl⟩
  refine XOA.cl ?_
  refine zO rfl Rd.mv ?_
  refine zO rfl (by first | exact Rd.adi rfl rfl | exact Rd.add rfl rfl) ?_
  refine zO rfl Rd.asg ?_; refine zN ?_; refine zT ?_
  refine XA.ret ?_
  exact bodyA.ret (ResA.one rfl rfl) zE ⟨rfl, rfl, rfl⟩
end Go.Proofs.Ytbbghdkndbpmmaa

namespace Go.Proofs.Ytbbghdkndbpmmaa
open Go X
set_option maxHeartbeats 1000000
def ExprR (σ : PH) (pr : Pr) (x : Ex) : Prop := ∀ (cs : List Value) (b : Nat) (pv : Option Addr) (cv : Nat) (bs : Value) (gc nc : Nat) (cells : List Int) (vi vo : Value) (f : Nat),
  PrAt σ [.slice pv pr.vars.length cv, bs] pr → ExAt σ cs x → ExV pr.vars.length x → cells.length = nc → (nc : Int) = sizes pr.vars → f < 1000000 →
  (∀ v f', exRun pr.vars cells x f = .ok (v, f') → CallsA Try.prog 89 #[ptr b, .agg cs.toArray] σ [blk b [.slice pv pr.vars.length cv, bs, .slice (some ⟨gc, 0, none⟩) nc nc, vi, vo, i64 f] 97, blk gc (ints cells) 2] (RetA fun r σ' Γ' => r = i64 v ∧ σ = σ' ∧ Γ' = [blk b [.slice pv pr.vars.length cv, bs, .slice (some ⟨gc, 0, none⟩) nc nc, vi, vo, i64 f'] 97, blk gc (ints cells) 2])) ∧
  (∀ c f', exRun pr.vars cells x f = .error (c, f') → CallsA Try.prog 89 #[ptr b, .agg cs.toArray] σ [blk b [.slice pv pr.vars.length cv, bs, .slice (some ⟨gc, 0, none⟩) nc nc, vi, vo, i64 f] 97, blk gc (ints cells) 2] (PanA fun ch σ' Γ' => ch = goneC c ∧ σ = σ' ∧ Γ' = [blk b [.slice pv pr.vars.length cv, bs, .slice (some ⟨gc, 0, none⟩) nc nc, vi, vo, i64 f'] 97, blk gc (ints cells) 2]))
theorem ints_at {l : List Int} {i : Nat} (h : i < l.length) : (ints l)[i]? = some (i64 (l.getD i 0)) := by
  simp [ints, List.getElem?_map, List.getElem?_eq_getElem h]
theorem list_0 {α : Type} {l : List α} (h : (l.length : Int) = 0) : l = [] := List.eq_nil_of_length_eq_zero (by omega)
theorem list_1 {α : Type} {l : List α} (h : (l.length : Int) = 1) : ∃ x, l = [x] := by
  match l, h with
  | [x], _ => exact ⟨x, rfl⟩
  | [], h => simp at h
  | _ :: _ :: _, h => simp at h; omega
theorem list_2 {α : Type} {l : List α} (h : (l.length : Int) = 2) : ∃ x y, l = [x, y] := by
  match l, h with
  | [x, y], _ => exact ⟨x, y, rfl⟩
  | [], h => simp at h
  | [_], h => simp at h
  | _ :: _ :: _ :: _, h => simp at h; omega
theorem expr_r (σ : PH) (pr : Pr) (h1 : ∀ x ∈ pr.vars, 1 ≤ x.size) (hz : ∀ x ∈ pr.vars, 0 ≤ x.size ∧ x.size ≤ 1000) (hvl : pr.vars.length ≤ 1000) (x : Ex) : ExprR σ pr x := by
  refine Ex.ind (P := ExprR σ pr) ?_ x
  intro op v k l ih cs b pv cv bs gc nc cells vi vo f hp hx hV hnc hsz hf
  obtain ⟨pl, cl, rfl, ho, hv, hk, hl⟩ := hx.inv
  simp only [Ex.op, Ex.v, Ex.n, Ex.l] at ho hv hk hl ⊢
  clear hx
  rw [ExV] at hV
  obtain ⟨hop, hlp, hvr, -, hsV⟩ := hV
  have hcl : cells.length = nc := hnc
  by_cases q1 : op = 1
  · subst q1
    obtain rfl : l = [] := list_0 hlp
    cases f with
    | zero =>
      have hr : exRun pr.vars cells (.mk 1 v k []) 0 = .error (13, 0) := rfl
      refine ⟨fun v' f' h => (by rw [hr] at h; cases h), fun c f' h => ?_⟩
      rw [hr] at h
      simp only [Except.error.injEq, Prod.mk.injEq] at h
      obtain ⟨rfl, rfl⟩ := h
      refine enterA2 Try.func89 rfl rfl rfl ?_
      refine zS ?_; refine zR ?_
      refine XOA.wr0 rfl WrA.bx ?_
      rintro _ _ _ ⟨g3, rfl, rfl, rfl⟩
      refine zO rfl Rd.asg ?_; refine zN ?_; refine zT ?_; refine zS ?_; refine zR ?_
      refine XOA.wr0 rfl (WrA.alloc (tyrow rfl)) ?_
      rintro _ _ _ ⟨g5, rfl, rfl, rfl⟩
      refine zN ?_; refine zT ?_; refine zS ?_; refine zS ?_; refine zR ?_; refine zO rfl (Rd.fA rfl) ?_; refine zO rfl (Rd.ldC rfl (tyrow rfl) rfl) ?_; refine zO rfl (Rd.lenSlice (tyrow rfl) rfl rfl) ?_; refine zO rfl Rd.mv ?_; refine zN ?_; refine zT ?_
      refine XA.block ?_
      refine XA.unroll 1 ?_
      refine XAR.succ ?_
      refine zS ?_; refine zR ?_; refine zO rfl (Rd.lss rfl rfl) ?_; refine zN ?_; refine zT ?_; refine zS ?_
      refine XA.condF rfl rfl ?_
      refine XA.exit ?_
      refine DA.thn_exit ?_
      refine DA.thn_exit ?_
      refine DA.inb_same ?_
      refine zT ?_; refine zS ?_; refine zR ?_; refine zO rfl Rd.mv ?_
      refine XOA.die rfl (one_t σ b _ _ _ _ _) rfl ?_
      rintro _ _ _ ⟨rfl, rfl, rfl⟩
      refine DA.cl ?_
      repeat (first | refine DA.thn_panic ?_ | refine DA.inb_panic ?_)
      exact bodyA.panic zE ⟨rfl, rfl, rfl⟩
    | succ f =>
      have hr : exRun pr.vars cells (.mk 1 v k []) (f + 1) = .ok (k, f) := rfl
      refine ⟨fun v' f' h => ?_, fun c f' h => (by rw [hr] at h; cases h)⟩
      rw [hr] at h
      simp only [Except.ok.injEq, Prod.mk.injEq] at h
      obtain ⟨rfl, rfl⟩ := h
      refine enterA2 Try.func89 rfl rfl rfl ?_
      refine zS ?_; refine zR ?_
      refine XOA.wr0 rfl WrA.bx ?_
      rintro _ _ _ ⟨g3, rfl, rfl, rfl⟩
      refine zO rfl Rd.asg ?_; refine zN ?_; refine zT ?_; refine zS ?_; refine zR ?_
      refine XOA.wr0 rfl (WrA.alloc (tyrow rfl)) ?_
      rintro _ _ _ ⟨g5, rfl, rfl, rfl⟩
      refine zN ?_; refine zT ?_; refine zS ?_; refine zS ?_; refine zR ?_; refine zO rfl (Rd.fA rfl) ?_; refine zO rfl (Rd.ldC rfl (tyrow rfl) rfl) ?_; refine zO rfl (Rd.lenSlice (tyrow rfl) rfl rfl) ?_; refine zO rfl Rd.mv ?_; refine zN ?_; refine zT ?_
      refine XA.block ?_
      refine XA.unroll 1 ?_
      refine XAR.succ ?_
      refine zS ?_; refine zR ?_; refine zO rfl (Rd.lss rfl rfl) ?_; refine zN ?_; refine zT ?_; refine zS ?_
      refine XA.condF rfl rfl ?_
      refine XA.exit ?_
      refine DA.thn_exit ?_
      refine DA.thn_exit ?_
      refine DA.inb_same ?_
      refine zT ?_; refine zS ?_; refine zR ?_; refine zO rfl Rd.mv ?_
      refine XOA.wr0 rfl (WrA.cE (one_f σ b _ _ _ _ _ f (by omega)) rfl) ?_
      rintro _ _ _ ⟨_, ⟨rfl, rfl, rfl⟩, rfl⟩
      refine XOA.cl ?_
      refine zN ?_; refine zT ?_; refine zS ?_; refine zS ?_; refine zR ?_; refine zO rfl (Rd.fA rfl) ?_; refine zO rfl (Rd.ldC rfl (tyrow rfl) rfl) ?_; refine zN ?_; refine zT ?_
      refine XA.block ?_
      refine zS ?_; refine zR ?_; refine zO rfl (Rd.eql rfl rfl) ?_; refine zO rfl Rd.asg ?_; refine zN ?_; refine zT ?_
      refine XA.condT rfl rfl ?_
      refine zS ?_; refine zR ?_; refine zO rfl (Rd.fA rfl) ?_; refine zO rfl (Rd.ldC rfl (tyrow rfl) rfl) ?_; refine zO rfl Rd.asg ?_; refine zN ?_; refine zT ?_
      refine XA.ret ?_
      refine DA.inb_ret ?_
      refine DA.thn_ret ?_
      exact bodyA.ret (ResA.one rfl rfl) zE ⟨rfl, rfl, rfl⟩
  by_cases q2 : op = 2
  · subst q2
    obtain rfl : l = [] := list_0 hlp
    have hv2 := hvr (.inl rfl)
    obtain ⟨vx, hvx, hsv, hc0, hc1, hc2⟩ := var_at h1 hv2
    have hat : (ints cells)[(cellOf pr.vars v + 0).toNat]? = some (i64 (cells.getD (cellOf pr.vars v).toNat 0)) := by rw [Int.add_zero]; exact ints_at (by omega)
    cases f with
    | zero =>
      have hr : exRun pr.vars cells (.mk 2 v k []) 0 = .error (13, 0) := rfl
      refine ⟨fun v' f' h => (by rw [hr] at h; cases h), fun c f' h => ?_⟩
      rw [hr] at h
      simp only [Except.error.injEq, Prod.mk.injEq] at h
      obtain ⟨rfl, rfl⟩ := h
      refine enterA2 Try.func89 rfl rfl rfl ?_
      refine zS ?_; refine zR ?_
      refine XOA.wr0 rfl WrA.bx ?_
      rintro _ _ _ ⟨g3, rfl, rfl, rfl⟩
      refine zO rfl Rd.asg ?_; refine zN ?_; refine zT ?_; refine zS ?_; refine zR ?_
      refine XOA.wr0 rfl (WrA.alloc (tyrow rfl)) ?_
      rintro _ _ _ ⟨g5, rfl, rfl, rfl⟩
      refine zN ?_; refine zT ?_; refine zS ?_; refine zS ?_; refine zR ?_; refine zO rfl (Rd.fA rfl) ?_; refine zO rfl (Rd.ldC rfl (tyrow rfl) rfl) ?_; refine zO rfl (Rd.lenSlice (tyrow rfl) rfl rfl) ?_; refine zO rfl Rd.mv ?_; refine zN ?_; refine zT ?_
      refine XA.block ?_
      refine XA.unroll 1 ?_
      refine XAR.succ ?_
      refine zS ?_; refine zR ?_; refine zO rfl (Rd.lss rfl rfl) ?_; refine zN ?_; refine zT ?_; refine zS ?_
      refine XA.condF rfl rfl ?_
      refine XA.exit ?_
      refine DA.thn_exit ?_
      refine DA.thn_exit ?_
      refine DA.inb_same ?_
      refine zT ?_; refine zS ?_; refine zR ?_; refine zO rfl Rd.mv ?_
      refine XOA.die rfl (one_t σ b _ _ _ _ _) rfl ?_
      rintro _ _ _ ⟨rfl, rfl, rfl⟩
      refine DA.cl ?_
      repeat (first | refine DA.thn_panic ?_ | refine DA.inb_panic ?_)
      exact bodyA.panic zE ⟨rfl, rfl, rfl⟩
    | succ f =>
      have hr : exRun pr.vars cells (.mk 2 v k []) (f + 1) = .ok (cells.getD (cellOf pr.vars v).toNat 0, f) := rfl
      refine ⟨fun v' f' h => ?_, fun c f' h => (by rw [hr] at h; cases h)⟩
      rw [hr] at h
      simp only [Except.ok.injEq, Prod.mk.injEq] at h
      obtain ⟨rfl, rfl⟩ := h
      refine enterA2 Try.func89 rfl rfl rfl ?_
      refine zS ?_; refine zR ?_
      refine XOA.wr0 rfl WrA.bx ?_
      rintro _ _ _ ⟨g3, rfl, rfl, rfl⟩
      refine zO rfl Rd.asg ?_; refine zN ?_; refine zT ?_; refine zS ?_; refine zR ?_
      refine XOA.wr0 rfl (WrA.alloc (tyrow rfl)) ?_
      rintro _ _ _ ⟨g5, rfl, rfl, rfl⟩
      refine zN ?_; refine zT ?_; refine zS ?_; refine zS ?_; refine zR ?_; refine zO rfl (Rd.fA rfl) ?_; refine zO rfl (Rd.ldC rfl (tyrow rfl) rfl) ?_; refine zO rfl (Rd.lenSlice (tyrow rfl) rfl rfl) ?_; refine zO rfl Rd.mv ?_; refine zN ?_; refine zT ?_
      refine XA.block ?_
      refine XA.unroll 1 ?_
      refine XAR.succ ?_
      refine zS ?_; refine zR ?_; refine zO rfl (Rd.lss rfl rfl) ?_; refine zN ?_; refine zT ?_; refine zS ?_
      refine XA.condF rfl rfl ?_
      refine XA.exit ?_
      refine DA.thn_exit ?_
      refine DA.thn_exit ?_
      refine DA.inb_same ?_
      refine zT ?_; refine zS ?_; refine zR ?_; refine zO rfl Rd.mv ?_
      refine XOA.wr0 rfl (WrA.cE (one_f σ b _ _ _ _ _ f (by omega)) rfl) ?_
      rintro _ _ _ ⟨_, ⟨rfl, rfl, rfl⟩, rfl⟩
      refine XOA.cl ?_
      refine zN ?_; refine zT ?_; refine zS ?_; refine zS ?_; refine zR ?_; refine zO rfl (Rd.fA rfl) ?_; refine zO rfl (Rd.ldC rfl (tyrow rfl) rfl) ?_; refine zN ?_; refine zT ?_
      refine XA.block ?_
      refine zS ?_; refine zR ?_; refine zO rfl (Rd.eql rfl rfl) ?_; refine zO rfl Rd.asg ?_; refine zN ?_; refine zT ?_
      refine XA.condF rfl rfl ?_
      refine zS ?_; refine zR ?_; refine zO rfl (Rd.eql rfl rfl) ?_; refine zO rfl Rd.asg ?_; refine zN ?_; refine zT ?_
      refine XA.condT rfl rfl ?_
      refine zS ?_
      refine XA.draw (by kernel_rfl) _ _ [] [(0, .pu), (1, .pu), (2, .pu), (3, .rd), (4, .pu), (5, .pu), (6, .rd), (7, .wr), (8, .pu), (9, .rd), (10, .pu)] (by kernel_rfl) (PH.sub.refl _) (Ent.sel (R := blk b _ _) (by ((repeat (first | with_reducible exact Sel.head | apply Sel.tail)); (first | done | fail))) (Ent.sel (R := blk g3 _ _) (by ((repeat (first | with_reducible exact Sel.head | apply Sel.tail)); (first | done | fail))) (Ent.sel (R := blk gc _ _) (by ((repeat (first | with_reducible exact Sel.head | apply Sel.tail)); (first | done | fail))) (Ent.nil _)))) ?_
      refine XPA.pu rfl rfl Gd.free Rd.mv ?_
      refine XPA.pu rfl rfl Gd.free (Rd.nilCheck rfl) ?_
      refine XPA.pu rfl rfl Gd.free (Rd.fA rfl) ?_
      refine XPA.rd rfl rfl Gd.free (Rd.ldC rfl (tyrow rfl) rfl) ?_
      refine XPA.pu rfl rfl Gd.free Rd.mv ?_
      refine XPA.pu rfl rfl Gd.free (Rd.fA rfl) ?_
      refine XPA.rd rfl rfl Gd.free (Rd.ldC rfl (tyrow rfl) rfl) ?_
      refine XPA.wr0 rfl rfl Gd.free (WrA.cE (at_f σ b pr _ cv bs _ _ _ _ v 0 hp hz hvl hv2 (by decide) (by omega)) rfl) ?_
      rintro _ _ _ ⟨_, ⟨rfl, rfl, rfl⟩, rfl⟩
      refine stays (XPA.cl ?_)
      refine XPA.pu rfl rfl Gd.free (Rd.ixS rfl rfl) ?_
      refine XPA.rd rfl rfl Gd.free (Rd.ldC rfl (tyrow rfl) rfl) ?_
      refine XPA.pu rfl rfl Gd.free Rd.asg ?_
      refine XPA.nil ?_
      refine zT ?_
      refine XA.ret ?_
      refine DA.inb_ret ?_
      refine DA.thn_ret ?_
      exact bodyA.ret (ResA.one rfl rfl) zE ⟨rfl, rfl, rfl⟩
  by_cases q3 : op = 3
  · subst q3
    obtain ⟨x, rfl⟩ := list_1 hlp
    simp only [List.length_cons, List.length_nil, Nat.zero_add] at hl ⊢
    have hv2 := hvr (.inr rfl)
    obtain ⟨vx, hvx, hsv, hc0, hc1, hc2⟩ := var_at h1 hv2
    have hxV := hsV.mem x (by simp)
    obtain ⟨g, o, row, rfl, hrx, hrl, hrow⟩ := hl.at (show ([x] : List Ex)[0]? = some x from rfl)
    have hone := hrx.ones
    have hrow0 : PRow σ g o row := by simpa using hrow
    obtain ⟨ihk, ihe⟩ := ih x (by simp) row b pv cv bs gc nc cells vi vo f hp hrx hxV hnc hsz hf
    have hx1 := (exEnd pr.vars cells x f)
    cases e1 : exRun pr.vars cells x f with
    | error e =>
      obtain ⟨c0, f0⟩ := e
      have hr : exRun pr.vars cells (.mk 3 v k [x]) f = .error (c0, f0) := by rw [exRun, exsRun, e1]
      refine ⟨fun v' f' h => (by rw [hr] at h; cases h), fun c f' h => ?_⟩
      rw [hr] at h
      simp only [Except.error.injEq, Prod.mk.injEq] at h
      obtain ⟨rfl, rfl⟩ := h
      refine enterA2 Try.func89 rfl rfl rfl ?_
      refine zS ?_; refine zR ?_
      refine XOA.wr0 rfl WrA.bx ?_
      rintro _ _ _ ⟨g3, rfl, rfl, rfl⟩
      refine zO rfl Rd.asg ?_; refine zN ?_; refine zT ?_; refine zS ?_; refine zR ?_
      refine XOA.wr0 rfl (WrA.alloc (tyrow rfl)) ?_
      rintro _ _ _ ⟨g5, rfl, rfl, rfl⟩
      refine zN ?_; refine zT ?_; refine zS ?_; refine zS ?_; refine zR ?_; refine zO rfl (Rd.fA rfl) ?_; refine zO rfl (Rd.ldC rfl (tyrow rfl) rfl) ?_; refine zO rfl (Rd.lenSlice (tyrow rfl) rfl rfl) ?_; refine zO rfl Rd.mv ?_; refine zN ?_; refine zT ?_
      refine XA.block ?_
      refine XA.unroll 2 ?_
      refine XAR.succ ?_
      refine zS ?_; refine zR ?_; refine zO rfl (Rd.lss rfl rfl) ?_; refine zN ?_; refine zT ?_; refine zS ?_
      refine XA.condT rfl rfl ?_
      refine XA.skip ?_
      refine zT ?_; refine zS ?_
      refine XA.block ?_
      refine zS ?_; refine zR ?_; refine zO rfl Rd.mv ?_
      refine zO rfl (Rd.ixS rfl rfl) ?_
      refine zO rfl (Rd.ldA rfl) ?_
      refine XOA.wr0 rfl (WrA.alloc (tyrow rfl)) ?_
      rintro _ _ _ ⟨g7, rfl, rfl, rfl⟩
      refine zO rfl Rd.asg ?_
      refine XOA.wr0 rfl (WrA.st (tyrow rfl) rfl) ?_
      rintro _ _ _ ⟨rfl, rfl, rfl⟩
      refine zN ?_; refine zT ?_; refine zR ?_; refine zO rfl Rd.mv ?_; refine zO rfl Rd.mv ?_; refine zO rfl (Rd.ldA rfl) ?_
      refine XOA.die rfl (ihe c0 f0 e1) rfl ?_
      rintro _ _ _ ⟨rfl, rfl, rfl⟩
      refine DA.cl ?_
      repeat (first | refine DA.thn_panic ?_ | refine DA.inb_panic ?_)
      exact bodyA.panic zE ⟨rfl, rfl, rfl⟩
    | ok a =>
      obtain ⟨a, f1⟩ := a
      have hf1 := hx1.ok _ e1
      simp only at hf1
      have hspl : splice ty132.zero 0 [i64 a] = [i64 a, i64 0] := rfl
      cases f1 with
      | zero =>
        have hr : exRun pr.vars cells (.mk 3 v k [x]) f = .error (13, 0) := by rw [exRun, exsRun, e1]; rfl
        refine ⟨fun v' f' h => (by rw [hr] at h; cases h), fun c f' h => ?_⟩
        rw [hr] at h
        simp only [Except.error.injEq, Prod.mk.injEq] at h
        obtain ⟨rfl, rfl⟩ := h
        refine enterA2 Try.func89 rfl rfl rfl ?_
        refine zS ?_; refine zR ?_
        refine XOA.wr0 rfl WrA.bx ?_
        rintro _ _ _ ⟨g3, rfl, rfl, rfl⟩
        refine zO rfl Rd.asg ?_; refine zN ?_; refine zT ?_; refine zS ?_; refine zR ?_
        refine XOA.wr0 rfl (WrA.alloc (tyrow rfl)) ?_
        rintro _ _ _ ⟨g5, rfl, rfl, rfl⟩
        refine zN ?_; refine zT ?_; refine zS ?_; refine zS ?_; refine zR ?_; refine zO rfl (Rd.fA rfl) ?_; refine zO rfl (Rd.ldC rfl (tyrow rfl) rfl) ?_; refine zO rfl (Rd.lenSlice (tyrow rfl) rfl rfl) ?_; refine zO rfl Rd.mv ?_; refine zN ?_; refine zT ?_
        refine XA.block ?_
        refine XA.unroll 2 ?_
        refine XAR.succ ?_
        refine zS ?_; refine zR ?_; refine zO rfl (Rd.lss rfl rfl) ?_; refine zN ?_; refine zT ?_; refine zS ?_
        refine XA.condT rfl rfl ?_
        refine XA.skip ?_
        refine zT ?_; refine zS ?_
        refine XA.block ?_
        refine zS ?_; refine zR ?_; refine zO rfl Rd.mv ?_
        refine zO rfl (Rd.ixS rfl rfl) ?_
        refine zO rfl (Rd.ldA rfl) ?_
        refine XOA.wr0 rfl (WrA.alloc (tyrow rfl)) ?_
        rintro _ _ _ ⟨g7, rfl, rfl, rfl⟩
        refine zO rfl Rd.asg ?_
        refine XOA.wr0 rfl (WrA.st (tyrow rfl) rfl) ?_
        rintro _ _ _ ⟨rfl, rfl, rfl⟩
        refine zN ?_; refine zT ?_; refine zR ?_; refine zO rfl Rd.mv ?_; refine zO rfl Rd.mv ?_; refine zO rfl (Rd.ldA rfl) ?_
        refine XOA.wr0 rfl (WrA.cE (ihk a 0 e1) rfl) ?_
        rintro _ _ _ ⟨_, ⟨rfl, rfl, rfl⟩, rfl⟩
        refine XOA.cl ?_
        refine zO rfl (Rd.ixA rfl rfl) ?_
        refine XOA.wr0 rfl (WrA.st (tyrow rfl) rfl) ?_
        rintro _ _ _ ⟨rfl, rfl, rfl⟩
        refine zN ?_
        refine DA.inb_normal ?_
        refine zT ?_; refine zR ?_
        refine zO rfl (by first | exact Rd.adi rfl rfl | exact Rd.add rfl rfl) ?_
        refine zO rfl Rd.mv ?_; refine zN ?_; refine zT ?_
        refine XAR.succ ?_
        refine zS ?_; refine zR ?_; refine zO rfl (Rd.lss rfl rfl) ?_; refine zN ?_; refine zT ?_; refine zS ?_
        refine XA.condF rfl rfl ?_
        refine XA.exit ?_
        refine DA.thn_exit ?_
        refine DA.thn_exit ?_
        refine DA.inb_same ?_
        refine zT ?_; refine zS ?_; refine zR ?_; refine zO rfl Rd.mv ?_
        refine XOA.die rfl (one_t σ b _ _ _ _ _) rfl ?_
        rintro _ _ _ ⟨rfl, rfl, rfl⟩
        refine DA.cl ?_
        repeat (first | refine DA.thn_panic ?_ | refine DA.inb_panic ?_)
        exact bodyA.panic zE ⟨rfl, rfl, rfl⟩
      | succ f1 =>
        by_cases hka : a < 0 ∨ sizeV pr.vars v ≤ a
        · have hr : exRun pr.vars cells (.mk 3 v k [x]) f = .error (11, f1) := by rw [exRun, exsRun, e1]; show opRun pr.vars cells 3 v k [a] f1 = _; rw [opRun, if_neg (by decide), if_neg (by decide), if_pos rfl]; exact if_pos hka
          refine ⟨fun v' f' h => (by rw [hr] at h; cases h), fun c f' h => ?_⟩
          rw [hr] at h
          simp only [Except.error.injEq, Prod.mk.injEq] at h
          obtain ⟨rfl, rfl⟩ := h
          refine enterA2 Try.func89 rfl rfl rfl ?_
          refine zS ?_; refine zR ?_
          refine XOA.wr0 rfl WrA.bx ?_
          rintro _ _ _ ⟨g3, rfl, rfl, rfl⟩
          refine zO rfl Rd.asg ?_; refine zN ?_; refine zT ?_; refine zS ?_; refine zR ?_
          refine XOA.wr0 rfl (WrA.alloc (tyrow rfl)) ?_
          rintro _ _ _ ⟨g5, rfl, rfl, rfl⟩
          refine zN ?_; refine zT ?_; refine zS ?_; refine zS ?_; refine zR ?_; refine zO rfl (Rd.fA rfl) ?_; refine zO rfl (Rd.ldC rfl (tyrow rfl) rfl) ?_; refine zO rfl (Rd.lenSlice (tyrow rfl) rfl rfl) ?_; refine zO rfl Rd.mv ?_; refine zN ?_; refine zT ?_
          refine XA.block ?_
          refine XA.unroll 2 ?_
          refine XAR.succ ?_
          refine zS ?_; refine zR ?_; refine zO rfl (Rd.lss rfl rfl) ?_; refine zN ?_; refine zT ?_; refine zS ?_
          refine XA.condT rfl rfl ?_
          refine XA.skip ?_
          refine zT ?_; refine zS ?_
          refine XA.block ?_
          refine zS ?_; refine zR ?_; refine zO rfl Rd.mv ?_
          refine zO rfl (Rd.ixS rfl rfl) ?_
          refine zO rfl (Rd.ldA rfl) ?_
          refine XOA.wr0 rfl (WrA.alloc (tyrow rfl)) ?_
          rintro _ _ _ ⟨g7, rfl, rfl, rfl⟩
          refine zO rfl Rd.asg ?_
          refine XOA.wr0 rfl (WrA.st (tyrow rfl) rfl) ?_
          rintro _ _ _ ⟨rfl, rfl, rfl⟩
          refine zN ?_; refine zT ?_; refine zR ?_; refine zO rfl Rd.mv ?_; refine zO rfl Rd.mv ?_; refine zO rfl (Rd.ldA rfl) ?_
          refine XOA.wr0 rfl (WrA.cE (ihk a (f1 + 1) e1) rfl) ?_
          rintro _ _ _ ⟨_, ⟨rfl, rfl, rfl⟩, rfl⟩
          refine XOA.cl ?_
          refine zO rfl (Rd.ixA rfl rfl) ?_
          refine XOA.wr0 rfl (WrA.st (tyrow rfl) rfl) ?_
          rintro _ _ _ ⟨rfl, rfl, rfl⟩
          refine zN ?_
          refine DA.inb_normal ?_
          refine zT ?_; refine zR ?_
          refine zO rfl (by first | exact Rd.adi rfl rfl | exact Rd.add rfl rfl) ?_
          refine zO rfl Rd.mv ?_; refine zN ?_; refine zT ?_
          refine XAR.succ ?_
          refine zS ?_; refine zR ?_; refine zO rfl (Rd.lss rfl rfl) ?_; refine zN ?_; refine zT ?_; refine zS ?_
          refine XA.condF rfl rfl ?_
          refine XA.exit ?_
          refine DA.thn_exit ?_
          refine DA.thn_exit ?_
          refine DA.inb_same ?_
          refine zT ?_; refine zS ?_; refine zR ?_; refine zO rfl Rd.mv ?_
          refine XOA.wr0 rfl (WrA.cE (one_f σ b _ _ _ _ _ f1 (by omega)) rfl) ?_
          rintro _ _ _ ⟨_, ⟨rfl, rfl, rfl⟩, rfl⟩
          refine XOA.cl ?_
          refine zN ?_; refine zT ?_; refine zS ?_; refine zS ?_; refine zR ?_; refine zO rfl (Rd.fA rfl) ?_; refine zO rfl (Rd.ldC rfl (tyrow rfl) rfl) ?_; refine zN ?_; refine zT ?_
          refine XA.block ?_
          refine zS ?_; refine zR ?_; refine zO rfl (Rd.eql rfl rfl) ?_; refine zO rfl Rd.asg ?_; refine zN ?_; refine zT ?_
          refine XA.condF rfl rfl ?_
          refine zS ?_; refine zR ?_; refine zO rfl (Rd.eql rfl rfl) ?_; refine zO rfl Rd.asg ?_; refine zN ?_; refine zT ?_
          refine XA.condF rfl rfl ?_
          refine zS ?_; refine zR ?_; refine zO rfl (Rd.eql rfl rfl) ?_; refine zO rfl Rd.asg ?_; refine zN ?_; refine zT ?_
          refine XA.condT rfl rfl ?_
          refine zS ?_
          refine XA.draw (by kernel_rfl) _ _ [] [(0, .pu), (1, .pu), (2, .pu), (3, .rd), (4, .pu), (5, .pu), (6, .rd), (7, .pu), (8, .rd), (9, .wr), (10, .pu), (11, .rd), (12, .pu)] (by kernel_rfl) (PH.sub.refl _) (Ent.sel (R := blk b _ _) (by ((repeat (first | with_reducible exact Sel.head | apply Sel.tail)); (first | done | fail))) (Ent.sel (R := blk g3 _ _) (by ((repeat (first | with_reducible exact Sel.head | apply Sel.tail)); (first | done | fail))) (Ent.sel (R := blk gc _ _) (by ((repeat (first | with_reducible exact Sel.head | apply Sel.tail)); (first | done | fail))) (Ent.sel (R := blk g5 _ _) (by ((repeat (first | with_reducible exact Sel.head | apply Sel.tail)); (first | done | fail))) (Ent.nil _))))) ?_
          refine XPA.pu rfl rfl Gd.free Rd.mv ?_
          refine XPA.pu rfl rfl Gd.free (Rd.nilCheck rfl) ?_
          refine XPA.pu rfl rfl Gd.free (Rd.fA rfl) ?_
          refine XPA.rd rfl rfl Gd.free (Rd.ldC rfl (tyrow rfl) rfl) ?_
          refine XPA.pu rfl rfl Gd.free Rd.mv ?_
          refine XPA.pu rfl rfl Gd.free (Rd.fA rfl) ?_
          refine XPA.rd rfl rfl Gd.free (Rd.ldC rfl (tyrow rfl) rfl) ?_
          refine XPA.pu rfl rfl Gd.free (Rd.ixA rfl rfl) ?_
          refine XPA.rd rfl rfl Gd.free (Rd.ldC rfl (tyrow rfl) rfl) ?_
          refine XPA.die rfl rfl Gd.free (at_t σ b pr _ cv bs _ _ _ _ v a hp hz hvl hv2 hka) rfl ?_
          rintro _ _ _ ⟨rfl, rfl, rfl⟩
          refine DA.cl ?_
          repeat (first | refine DA.thn_panic ?_ | refine DA.inb_panic ?_)
          exact bodyA.panic zE ⟨rfl, rfl, rfl⟩
        · have hk0 : 0 ≤ a := by omega
          have hk1 : a < sizeV pr.vars v := by omega
          have hat : (ints cells)[(cellOf pr.vars v + a).toNat]? = some (i64 (cells.getD (cellOf pr.vars v + a).toNat 0)) := ints_at (by omega)
          have hr : exRun pr.vars cells (.mk 3 v k [x]) f = .ok (cells.getD (cellOf pr.vars v + a).toNat 0, f1) := by rw [exRun, exsRun, e1]; show opRun pr.vars cells 3 v k [a] f1 = _; rw [opRun, if_neg (by decide), if_neg (by decide), if_pos rfl]; exact if_neg hka
          refine ⟨fun v' f' h => ?_, fun c f' h => (by rw [hr] at h; cases h)⟩
          rw [hr] at h
          simp only [Except.ok.injEq, Prod.mk.injEq] at h
          obtain ⟨rfl, rfl⟩ := h
          refine enterA2 Try.func89 rfl rfl rfl ?_
          refine zS ?_; refine zR ?_
          refine XOA.wr0 rfl WrA.bx ?_
          rintro _ _ _ ⟨g3, rfl, rfl, rfl⟩
          refine zO rfl Rd.asg ?_; refine zN ?_; refine zT ?_; refine zS ?_; refine zR ?_
          refine XOA.wr0 rfl (WrA.alloc (tyrow rfl)) ?_
          rintro _ _ _ ⟨g5, rfl, rfl, rfl⟩
          refine zN ?_; refine zT ?_; refine zS ?_; refine zS ?_; refine zR ?_; refine zO rfl (Rd.fA rfl) ?_; refine zO rfl (Rd.ldC rfl (tyrow rfl) rfl) ?_; refine zO rfl (Rd.lenSlice (tyrow rfl) rfl rfl) ?_; refine zO rfl Rd.mv ?_; refine zN ?_; refine zT ?_
          refine XA.block ?_
          refine XA.unroll 2 ?_
          refine XAR.succ ?_
          refine zS ?_; refine zR ?_; refine zO rfl (Rd.lss rfl rfl) ?_; refine zN ?_; refine zT ?_; refine zS ?_
          refine XA.condT rfl rfl ?_
          refine XA.skip ?_
          refine zT ?_; refine zS ?_
          refine XA.block ?_
          refine zS ?_; refine zR ?_; refine zO rfl Rd.mv ?_
          refine zO rfl (Rd.ixS rfl rfl) ?_
          refine zO rfl (Rd.ldA rfl) ?_
          refine XOA.wr0 rfl (WrA.alloc (tyrow rfl)) ?_
          rintro _ _ _ ⟨g7, rfl, rfl, rfl⟩
          refine zO rfl Rd.asg ?_
          refine XOA.wr0 rfl (WrA.st (tyrow rfl) rfl) ?_
          rintro _ _ _ ⟨rfl, rfl, rfl⟩
          refine zN ?_; refine zT ?_; refine zR ?_; refine zO rfl Rd.mv ?_; refine zO rfl Rd.mv ?_; refine zO rfl (Rd.ldA rfl) ?_
          refine XOA.wr0 rfl (WrA.cE (ihk a (f1 + 1) e1) rfl) ?_
          rintro _ _ _ ⟨_, ⟨rfl, rfl, rfl⟩, rfl⟩
          refine XOA.cl ?_
          refine zO rfl (Rd.ixA rfl rfl) ?_
          refine XOA.wr0 rfl (WrA.st (tyrow rfl) rfl) ?_
          rintro _ _ _ ⟨rfl, rfl, rfl⟩
          refine zN ?_
          refine DA.inb_normal ?_
          refine zT ?_; refine zR ?_
          refine zO rfl (by first | exact Rd.adi rfl rfl | exact Rd.add rfl rfl) ?_
          refine zO rfl Rd.mv ?_; refine zN ?_; refine zT ?_
          refine XAR.succ ?_
          refine zS ?_; refine zR ?_; refine zO rfl (Rd.lss rfl rfl) ?_; refine zN ?_; refine zT ?_; refine zS ?_
          refine XA.condF rfl rfl ?_
          refine XA.exit ?_
          refine DA.thn_exit ?_
          refine DA.thn_exit ?_
          refine DA.inb_same ?_
          refine zT ?_; refine zS ?_; refine zR ?_; refine zO rfl Rd.mv ?_
          refine XOA.wr0 rfl (WrA.cE (one_f σ b _ _ _ _ _ f1 (by omega)) rfl) ?_
          rintro _ _ _ ⟨_, ⟨rfl, rfl, rfl⟩, rfl⟩
          refine XOA.cl ?_
          refine zN ?_; refine zT ?_; refine zS ?_; refine zS ?_; refine zR ?_; refine zO rfl (Rd.fA rfl) ?_; refine zO rfl (Rd.ldC rfl (tyrow rfl) rfl) ?_; refine zN ?_; refine zT ?_
          refine XA.block ?_
          refine zS ?_; refine zR ?_; refine zO rfl (Rd.eql rfl rfl) ?_; refine zO rfl Rd.asg ?_; refine zN ?_; refine zT ?_
          refine XA.condF rfl rfl ?_
          refine zS ?_; refine zR ?_; refine zO rfl (Rd.eql rfl rfl) ?_; refine zO rfl Rd.asg ?_; refine zN ?_; refine zT ?_
          refine XA.condF rfl rfl ?_
          refine zS ?_; refine zR ?_; refine zO rfl (Rd.eql rfl rfl) ?_; refine zO rfl Rd.asg ?_; refine zN ?_; refine zT ?_
          refine XA.condT rfl rfl ?_
          refine zS ?_
          refine XA.draw (by kernel_rfl) _ _ [] [(0, .pu), (1, .pu), (2, .pu), (3, .rd), (4, .pu), (5, .pu), (6, .rd), (7, .pu), (8, .rd), (9, .wr), (10, .pu), (11, .rd), (12, .pu)] (by kernel_rfl) (PH.sub.refl _) (Ent.sel (R := blk b _ _) (by ((repeat (first | with_reducible exact Sel.head | apply Sel.tail)); (first | done | fail))) (Ent.sel (R := blk g3 _ _) (by ((repeat (first | with_reducible exact Sel.head | apply Sel.tail)); (first | done | fail))) (Ent.sel (R := blk gc _ _) (by ((repeat (first | with_reducible exact Sel.head | apply Sel.tail)); (first | done | fail))) (Ent.sel (R := blk g5 _ _) (by ((repeat (first | with_reducible exact Sel.head | apply Sel.tail)); (first | done | fail))) (Ent.nil _))))) ?_
          refine XPA.pu rfl rfl Gd.free Rd.mv ?_
          refine XPA.pu rfl rfl Gd.free (Rd.nilCheck rfl) ?_
          refine XPA.pu rfl rfl Gd.free (Rd.fA rfl) ?_
          refine XPA.rd rfl rfl Gd.free (Rd.ldC rfl (tyrow rfl) rfl) ?_
          refine XPA.pu rfl rfl Gd.free Rd.mv ?_
          refine XPA.pu rfl rfl Gd.free (Rd.fA rfl) ?_
          refine XPA.rd rfl rfl Gd.free (Rd.ldC rfl (tyrow rfl) rfl) ?_
          refine XPA.pu rfl rfl Gd.free (Rd.ixA rfl rfl) ?_
          refine XPA.rd rfl rfl Gd.free (Rd.ldC rfl (tyrow rfl) rfl) ?_
          refine XPA.wr0 rfl rfl Gd.free (WrA.cE (at_f σ b pr _ cv bs _ _ _ _ v a hp hz hvl hv2 hk0 hk1) rfl) ?_
          rintro _ _ _ ⟨_, ⟨rfl, rfl, rfl⟩, rfl⟩
          refine stays (XPA.cl ?_)
          refine XPA.pu rfl rfl Gd.free (Rd.ixS rfl rfl) ?_
          refine XPA.rd rfl rfl Gd.free (Rd.ldC rfl (tyrow rfl) rfl) ?_
          refine XPA.pu rfl rfl Gd.free Rd.asg ?_
          refine XPA.nil ?_
          refine zT ?_
          refine XA.ret ?_
          refine DA.inb_ret ?_
          refine DA.thn_ret ?_
          exact bodyA.ret (ResA.one rfl rfl) zE ⟨rfl, rfl, rfl⟩
  have h48 : 4 ≤ op ∧ op ≤ 8 := by omega
  have hpo : partsOf op = 2 := by rw [partsOf, if_neg (by omega), if_neg q3, if_pos h48]
  obtain ⟨x, y, rfl⟩ := list_2 (hlp.trans hpo)
  simp only [List.length_cons, List.length_nil, Nat.zero_add, Nat.reduceAdd] at hl ⊢
  have hxV := hsV.mem x (by simp)
  have hyV := hsV.mem y (by simp)
  obtain ⟨g, o, row, rfl, hrx, hrl, hrow⟩ := hl.at (show ([x, y] : List Ex)[0]? = some x from rfl)
  obtain ⟨g', o', row', hpe, hry, hrl', hrow'⟩ := hl.at (show ([x, y] : List Ex)[1]? = some y from rfl)
  simp only [Option.some.injEq, Addr.mk.injEq, and_true] at hpe
  obtain ⟨rfl, rfl⟩ := hpe
  have hone := hrx.ones
  have hone' := hry.ones
  have hrow0 : PRow σ g o row := by simpa using hrow
  have hrow1 : PRow σ g (o + 4) row' := by simpa using hrow'
  clear hrow hrow'
  obtain ⟨ihk, ihe⟩ := ih x (by simp) row b pv cv bs gc nc cells vi vo f hp hrx hxV hnc hsz hf
  have hx1 := (exEnd pr.vars cells x f)
  cases e1 : exRun pr.vars cells x f with
  | error e =>
    obtain ⟨c0, f0⟩ := e
    have hr : exRun pr.vars cells (.mk op v k [x, y]) f = .error (c0, f0) := by rw [exRun, exsRun, e1]
    refine ⟨fun v' f' h => (by rw [hr] at h; cases h), fun c f' h => ?_⟩
    rw [hr] at h
    simp only [Except.error.injEq, Prod.mk.injEq] at h
    obtain ⟨rfl, rfl⟩ := h
    refine enterA2 Try.func89 rfl rfl rfl ?_
    refine zS ?_; refine zR ?_
    refine XOA.wr0 rfl WrA.bx ?_
    rintro _ _ _ ⟨g3, rfl, rfl, rfl⟩
    refine zO rfl Rd.asg ?_; refine zN ?_; refine zT ?_; refine zS ?_; refine zR ?_
    refine XOA.wr0 rfl (WrA.alloc (tyrow rfl)) ?_
    rintro _ _ _ ⟨g5, rfl, rfl, rfl⟩
    refine zN ?_; refine zT ?_; refine zS ?_; refine zS ?_; refine zR ?_; refine zO rfl (Rd.fA rfl) ?_; refine zO rfl (Rd.ldC rfl (tyrow rfl) rfl) ?_; refine zO rfl (Rd.lenSlice (tyrow rfl) rfl rfl) ?_; refine zO rfl Rd.mv ?_; refine zN ?_; refine zT ?_
    refine XA.block ?_
    refine XA.unroll 3 ?_
    refine XAR.succ ?_
    refine zS ?_; refine zR ?_; refine zO rfl (Rd.lss rfl rfl) ?_; refine zN ?_; refine zT ?_; refine zS ?_
    refine XA.condT rfl rfl ?_
    refine XA.skip ?_
    refine zT ?_; refine zS ?_
    refine XA.block ?_
    refine zS ?_; refine zR ?_; refine zO rfl Rd.mv ?_
    refine zO rfl (Rd.ixS rfl rfl) ?_
    refine zO rfl (Rd.ldA rfl) ?_
    refine XOA.wr0 rfl (WrA.alloc (tyrow rfl)) ?_
    rintro _ _ _ ⟨g7, rfl, rfl, rfl⟩
    refine zO rfl Rd.asg ?_
    refine XOA.wr0 rfl (WrA.st (tyrow rfl) rfl) ?_
    rintro _ _ _ ⟨rfl, rfl, rfl⟩
    refine zN ?_; refine zT ?_; refine zR ?_; refine zO rfl Rd.mv ?_; refine zO rfl Rd.mv ?_; refine zO rfl (Rd.ldA rfl) ?_
    refine XOA.die rfl (ihe c0 f0 e1) rfl ?_
    rintro _ _ _ ⟨rfl, rfl, rfl⟩
    refine DA.cl ?_
    repeat (first | refine DA.thn_panic ?_ | refine DA.inb_panic ?_)
    exact bodyA.panic zE ⟨rfl, rfl, rfl⟩
  | ok a =>
    obtain ⟨a, f1⟩ := a
    have hf1 := hx1.ok _ e1
    simp only at hf1
    have hspl : splice ty132.zero 0 [i64 a] = [i64 a, i64 0] := rfl
    obtain ⟨jhk, jhe⟩ := ih y (by simp) row' b pv cv bs gc nc cells vi vo f1 hp hry hyV hnc hsz (by omega)
    have hy1 := (exEnd pr.vars cells y f1)
    cases e2 : exRun pr.vars cells y f1 with
    | error e =>
      obtain ⟨c0, f0⟩ := e
      have hr : exRun pr.vars cells (.mk op v k [x, y]) f = .error (c0, f0) := by rw [exRun, exsRun, e1]; simp only [exsRun, e2]
      refine ⟨fun v' f' h => (by rw [hr] at h; cases h), fun c f' h => ?_⟩
      rw [hr] at h
      simp only [Except.error.injEq, Prod.mk.injEq] at h
      obtain ⟨rfl, rfl⟩ := h
      refine enterA2 Try.func89 rfl rfl rfl ?_
      refine zS ?_; refine zR ?_
      refine XOA.wr0 rfl WrA.bx ?_
      rintro _ _ _ ⟨g3, rfl, rfl, rfl⟩
      refine zO rfl Rd.asg ?_; refine zN ?_; refine zT ?_; refine zS ?_; refine zR ?_
      refine XOA.wr0 rfl (WrA.alloc (tyrow rfl)) ?_
      rintro _ _ _ ⟨g5, rfl, rfl, rfl⟩
      refine zN ?_; refine zT ?_; refine zS ?_; refine zS ?_; refine zR ?_; refine zO rfl (Rd.fA rfl) ?_; refine zO rfl (Rd.ldC rfl (tyrow rfl) rfl) ?_; refine zO rfl (Rd.lenSlice (tyrow rfl) rfl rfl) ?_; refine zO rfl Rd.mv ?_; refine zN ?_; refine zT ?_
      refine XA.block ?_
      refine XA.unroll 3 ?_
      refine XAR.succ ?_
      refine zS ?_; refine zR ?_; refine zO rfl (Rd.lss rfl rfl) ?_; refine zN ?_; refine zT ?_; refine zS ?_
      refine XA.condT rfl rfl ?_
      refine XA.skip ?_
      refine zT ?_; refine zS ?_
      refine XA.block ?_
      refine zS ?_; refine zR ?_; refine zO rfl Rd.mv ?_
      refine zO rfl (Rd.ixS rfl rfl) ?_
      refine zO rfl (Rd.ldA rfl) ?_
      refine XOA.wr0 rfl (WrA.alloc (tyrow rfl)) ?_
      rintro _ _ _ ⟨g7, rfl, rfl, rfl⟩
      refine zO rfl Rd.asg ?_
      refine XOA.wr0 rfl (WrA.st (tyrow rfl) rfl) ?_
      rintro _ _ _ ⟨rfl, rfl, rfl⟩
      refine zN ?_; refine zT ?_; refine zR ?_; refine zO rfl Rd.mv ?_; refine zO rfl Rd.mv ?_; refine zO rfl (Rd.ldA rfl) ?_
      refine XOA.wr0 rfl (WrA.cE (ihk a f1 e1) rfl) ?_
      rintro _ _ _ ⟨_, ⟨rfl, rfl, rfl⟩, rfl⟩
      refine XOA.cl ?_
      refine zO rfl (Rd.ixA rfl rfl) ?_
      refine XOA.wr0 rfl (WrA.st (tyrow rfl) rfl) ?_
      rintro _ _ _ ⟨rfl, rfl, rfl⟩
      refine zN ?_
      refine DA.inb_normal ?_
      refine zT ?_; refine zR ?_
      refine zO rfl (by first | exact Rd.adi rfl rfl | exact Rd.add rfl rfl) ?_
      refine zO rfl Rd.mv ?_; refine zN ?_; refine zT ?_
      refine XAR.succ ?_
      refine zS ?_; refine zR ?_; refine zO rfl (Rd.lss rfl rfl) ?_; refine zN ?_; refine zT ?_; refine zS ?_
      refine XA.condT rfl rfl ?_
      refine XA.skip ?_
      refine zT ?_; refine zS ?_
      refine XA.block ?_
      refine zS ?_; refine zR ?_; refine zO rfl Rd.mv ?_
      refine zO rfl (Rd.ixS rfl rfl) ?_
      refine zO rfl (Rd.ldA rfl) ?_
      refine XOA.wr0 rfl (WrA.alloc (tyrow rfl)) ?_
      rintro _ _ _ ⟨g7, rfl, rfl, rfl⟩
      refine zO rfl Rd.asg ?_
      refine XOA.wr0 rfl (WrA.st (tyrow rfl) rfl) ?_
      rintro _ _ _ ⟨rfl, rfl, rfl⟩
      refine zN ?_; refine zT ?_; refine zR ?_; refine zO rfl Rd.mv ?_; refine zO rfl Rd.mv ?_; refine zO rfl (Rd.ldA rfl) ?_
      refine XOA.die rfl (jhe c0 f0 e2) rfl ?_
      rintro _ _ _ ⟨rfl, rfl, rfl⟩
      refine DA.cl ?_
      repeat (first | refine DA.thn_panic ?_ | refine DA.inb_panic ?_)
      exact bodyA.panic zE ⟨rfl, rfl, rfl⟩
    | ok c =>
      obtain ⟨c, f2⟩ := c
      have hf2 := hy1.ok _ e2
      simp only at hf2
      have hspl2 : splice [i64 a, i64 0] 1 [i64 c] = [i64 a, i64 c] := rfl
      cases f2 with
      | zero =>
        have hr : exRun pr.vars cells (.mk op v k [x, y]) f = .error (13, 0) := by rw [exRun, exsRun, e1]; simp only [exsRun, e2]; rfl
        refine ⟨fun v' f' h => (by rw [hr] at h; cases h), fun c f' h => ?_⟩
        rw [hr] at h
        simp only [Except.error.injEq, Prod.mk.injEq] at h
        obtain ⟨rfl, rfl⟩ := h
        refine enterA2 Try.func89 rfl rfl rfl ?_
        refine zS ?_; refine zR ?_
        refine XOA.wr0 rfl WrA.bx ?_
        rintro _ _ _ ⟨g3, rfl, rfl, rfl⟩
        refine zO rfl Rd.asg ?_; refine zN ?_; refine zT ?_; refine zS ?_; refine zR ?_
        refine XOA.wr0 rfl (WrA.alloc (tyrow rfl)) ?_
        rintro _ _ _ ⟨g5, rfl, rfl, rfl⟩
        refine zN ?_; refine zT ?_; refine zS ?_; refine zS ?_; refine zR ?_; refine zO rfl (Rd.fA rfl) ?_; refine zO rfl (Rd.ldC rfl (tyrow rfl) rfl) ?_; refine zO rfl (Rd.lenSlice (tyrow rfl) rfl rfl) ?_; refine zO rfl Rd.mv ?_; refine zN ?_; refine zT ?_
        refine XA.block ?_
        refine XA.unroll 3 ?_
        refine XAR.succ ?_
        refine zS ?_; refine zR ?_; refine zO rfl (Rd.lss rfl rfl) ?_; refine zN ?_; refine zT ?_; refine zS ?_
        refine XA.condT rfl rfl ?_
        refine XA.skip ?_
        refine zT ?_; refine zS ?_
        refine XA.block ?_
        refine zS ?_; refine zR ?_; refine zO rfl Rd.mv ?_
        refine zO rfl (Rd.ixS rfl rfl) ?_
        refine zO rfl (Rd.ldA rfl) ?_
        refine XOA.wr0 rfl (WrA.alloc (tyrow rfl)) ?_
        rintro _ _ _ ⟨g7, rfl, rfl, rfl⟩
        refine zO rfl Rd.asg ?_
        refine XOA.wr0 rfl (WrA.st (tyrow rfl) rfl) ?_
        rintro _ _ _ ⟨rfl, rfl, rfl⟩
        refine zN ?_; refine zT ?_; refine zR ?_; refine zO rfl Rd.mv ?_; refine zO rfl Rd.mv ?_; refine zO rfl (Rd.ldA rfl) ?_
        refine XOA.wr0 rfl (WrA.cE (ihk a f1 e1) rfl) ?_
        rintro _ _ _ ⟨_, ⟨rfl, rfl, rfl⟩, rfl⟩
        refine XOA.cl ?_
        refine zO rfl (Rd.ixA rfl rfl) ?_
        refine XOA.wr0 rfl (WrA.st (tyrow rfl) rfl) ?_
        rintro _ _ _ ⟨rfl, rfl, rfl⟩
        refine zN ?_
        refine DA.inb_normal ?_
        refine zT ?_; refine zR ?_
        refine zO rfl (by first | exact Rd.adi rfl rfl | exact Rd.add rfl rfl) ?_
        refine zO rfl Rd.mv ?_; refine zN ?_; refine zT ?_
        refine XAR.succ ?_
        refine zS ?_; refine zR ?_; refine zO rfl (Rd.lss rfl rfl) ?_; refine zN ?_; refine zT ?_; refine zS ?_
        refine XA.condT rfl rfl ?_
        refine XA.skip ?_
        refine zT ?_; refine zS ?_
        refine XA.block ?_
        refine zS ?_; refine zR ?_; refine zO rfl Rd.mv ?_
        refine zO rfl (Rd.ixS rfl rfl) ?_
        refine zO rfl (Rd.ldA rfl) ?_
        refine XOA.wr0 rfl (WrA.alloc (tyrow rfl)) ?_
        rintro _ _ _ ⟨g7, rfl, rfl, rfl⟩
        refine zO rfl Rd.asg ?_
        refine XOA.wr0 rfl (WrA.st (tyrow rfl) rfl) ?_
        rintro _ _ _ ⟨rfl, rfl, rfl⟩
        refine zN ?_; refine zT ?_; refine zR ?_; refine zO rfl Rd.mv ?_; refine zO rfl Rd.mv ?_; refine zO rfl (Rd.ldA rfl) ?_
        refine XOA.wr0 rfl (WrA.cE (jhk c 0 e2) rfl) ?_
        rintro _ _ _ ⟨_, ⟨rfl, rfl, rfl⟩, rfl⟩
        refine XOA.cl ?_
        refine zO rfl (Rd.ixA rfl rfl) ?_
        refine XOA.wr0 rfl (WrA.st (tyrow rfl) rfl) ?_
        rintro _ _ _ ⟨rfl, rfl, rfl⟩
        refine zN ?_
        refine DA.inb_normal ?_
        refine zT ?_; refine zR ?_
        refine zO rfl (by first | exact Rd.adi rfl rfl | exact Rd.add rfl rfl) ?_
        refine zO rfl Rd.mv ?_; refine zN ?_; refine zT ?_
        refine XAR.succ ?_
        refine zS ?_; refine zR ?_; refine zO rfl (Rd.lss rfl rfl) ?_; refine zN ?_; refine zT ?_; refine zS ?_
        refine XA.condF rfl rfl ?_
        refine XA.exit ?_
        refine DA.thn_exit ?_
        refine DA.thn_exit ?_
        refine DA.inb_same ?_
        refine zT ?_; refine zS ?_; refine zR ?_; refine zO rfl Rd.mv ?_
        refine XOA.die rfl (one_t σ b _ _ _ _ _) rfl ?_
        rintro _ _ _ ⟨rfl, rfl, rfl⟩
        refine DA.cl ?_
        repeat (first | refine DA.thn_panic ?_ | refine DA.inb_panic ?_)
        exact bodyA.panic zE ⟨rfl, rfl, rfl⟩
      | succ f2 =>
        have hr : exRun pr.vars cells (.mk op v k [x, y]) f = .ok (binV op a c, f2) := by
          rw [exRun, exsRun, e1]; simp only [exsRun, e2]; show opRun pr.vars cells op v k [a, c] f2 = _
          rw [opRun, if_neg q1, if_neg q2, if_neg q3]; rfl
        by_cases q4 : op = 4
        · subst q4
          refine ⟨fun v' f' h => ?_, fun c f' h => (by rw [hr] at h; cases h)⟩
          rw [hr] at h
          simp only [Except.ok.injEq, Prod.mk.injEq] at h
          obtain ⟨rfl, rfl⟩ := h
          refine enterA2 Try.func89 rfl rfl rfl ?_
          refine zS ?_; refine zR ?_
          refine XOA.wr0 rfl WrA.bx ?_
          rintro _ _ _ ⟨g3, rfl, rfl, rfl⟩
          refine zO rfl Rd.asg ?_; refine zN ?_; refine zT ?_; refine zS ?_; refine zR ?_
          refine XOA.wr0 rfl (WrA.alloc (tyrow rfl)) ?_
          rintro _ _ _ ⟨g5, rfl, rfl, rfl⟩
          refine zN ?_; refine zT ?_; refine zS ?_; refine zS ?_; refine zR ?_; refine zO rfl (Rd.fA rfl) ?_; refine zO rfl (Rd.ldC rfl (tyrow rfl) rfl) ?_; refine zO rfl (Rd.lenSlice (tyrow rfl) rfl rfl) ?_; refine zO rfl Rd.mv ?_; refine zN ?_; refine zT ?_
          refine XA.block ?_
          refine XA.unroll 3 ?_
          refine XAR.succ ?_
          refine zS ?_; refine zR ?_; refine zO rfl (Rd.lss rfl rfl) ?_; refine zN ?_; refine zT ?_; refine zS ?_
          refine XA.condT rfl rfl ?_
          refine XA.skip ?_
          refine zT ?_; refine zS ?_
          refine XA.block ?_
          refine zS ?_; refine zR ?_; refine zO rfl Rd.mv ?_
          refine zO rfl (Rd.ixS rfl rfl) ?_
          refine zO rfl (Rd.ldA rfl) ?_
          refine XOA.wr0 rfl (WrA.alloc (tyrow rfl)) ?_
          rintro _ _ _ ⟨g7, rfl, rfl, rfl⟩
          refine zO rfl Rd.asg ?_
          refine XOA.wr0 rfl (WrA.st (tyrow rfl) rfl) ?_
          rintro _ _ _ ⟨rfl, rfl, rfl⟩
          refine zN ?_; refine zT ?_; refine zR ?_; refine zO rfl Rd.mv ?_; refine zO rfl Rd.mv ?_; refine zO rfl (Rd.ldA rfl) ?_
          refine XOA.wr0 rfl (WrA.cE (ihk a f1 e1) rfl) ?_
          rintro _ _ _ ⟨_, ⟨rfl, rfl, rfl⟩, rfl⟩
          refine XOA.cl ?_
          refine zO rfl (Rd.ixA rfl rfl) ?_
          refine XOA.wr0 rfl (WrA.st (tyrow rfl) rfl) ?_
          rintro _ _ _ ⟨rfl, rfl, rfl⟩
          refine zN ?_
          refine DA.inb_normal ?_
          refine zT ?_; refine zR ?_
          refine zO rfl (by first | exact Rd.adi rfl rfl | exact Rd.add rfl rfl) ?_
          refine zO rfl Rd.mv ?_; refine zN ?_; refine zT ?_
          refine XAR.succ ?_
          refine zS ?_; refine zR ?_; refine zO rfl (Rd.lss rfl rfl) ?_; refine zN ?_; refine zT ?_; refine zS ?_
          refine XA.condT rfl rfl ?_
          refine XA.skip ?_
          refine zT ?_; refine zS ?_
          refine XA.block ?_
          refine zS ?_; refine zR ?_; refine zO rfl Rd.mv ?_
          refine zO rfl (Rd.ixS rfl rfl) ?_
          refine zO rfl (Rd.ldA rfl) ?_
          refine XOA.wr0 rfl (WrA.alloc (tyrow rfl)) ?_
          rintro _ _ _ ⟨g7, rfl, rfl, rfl⟩
          refine zO rfl Rd.asg ?_
          refine XOA.wr0 rfl (WrA.st (tyrow rfl) rfl) ?_
          rintro _ _ _ ⟨rfl, rfl, rfl⟩
          refine zN ?_; refine zT ?_; refine zR ?_; refine zO rfl Rd.mv ?_; refine zO rfl Rd.mv ?_; refine zO rfl (Rd.ldA rfl) ?_
          refine XOA.wr0 rfl (WrA.cE (jhk c (f2 + 1) e2) rfl) ?_
          rintro _ _ _ ⟨_, ⟨rfl, rfl, rfl⟩, rfl⟩
          refine XOA.cl ?_
          refine zO rfl (Rd.ixA rfl rfl) ?_
          refine XOA.wr0 rfl (WrA.st (tyrow rfl) rfl) ?_
          rintro _ _ _ ⟨rfl, rfl, rfl⟩
          refine zN ?_
          refine DA.inb_normal ?_
          refine zT ?_; refine zR ?_
          refine zO rfl (by first | exact Rd.adi rfl rfl | exact Rd.add rfl rfl) ?_
          refine zO rfl Rd.mv ?_; refine zN ?_; refine zT ?_
          refine XAR.succ ?_
          refine zS ?_; refine zR ?_; refine zO rfl (Rd.lss rfl rfl) ?_; refine zN ?_; refine zT ?_; refine zS ?_
          refine XA.condF rfl rfl ?_
          refine XA.exit ?_
          refine DA.thn_exit ?_
          refine DA.thn_exit ?_
          refine DA.inb_same ?_
          refine zT ?_; refine zS ?_; refine zR ?_; refine zO rfl Rd.mv ?_
          refine XOA.wr0 rfl (WrA.cE (one_f σ b _ _ _ _ _ f2 (by omega)) rfl) ?_
          rintro _ _ _ ⟨_, ⟨rfl, rfl, rfl⟩, rfl⟩
          refine XOA.cl ?_
          refine zN ?_; refine zT ?_; refine zS ?_; refine zS ?_; refine zR ?_; refine zO rfl (Rd.fA rfl) ?_; refine zO rfl (Rd.ldC rfl (tyrow rfl) rfl) ?_; refine zN ?_; refine zT ?_
          refine XA.block ?_
          refine zS ?_; refine zR ?_; refine zO rfl (Rd.eql rfl rfl) ?_; refine zO rfl Rd.asg ?_; refine zN ?_; refine zT ?_
          refine XA.condF rfl rfl ?_
          refine zS ?_; refine zR ?_; refine zO rfl (Rd.eql rfl rfl) ?_; refine zO rfl Rd.asg ?_; refine zN ?_; refine zT ?_
          refine XA.condF rfl rfl ?_
          refine zS ?_; refine zR ?_; refine zO rfl (Rd.eql rfl rfl) ?_; refine zO rfl Rd.asg ?_; refine zN ?_; refine zT ?_
          refine XA.condF rfl rfl ?_
          refine zS ?_; refine zR ?_; refine zO rfl (Rd.eql rfl rfl) ?_; refine zO rfl Rd.asg ?_; refine zN ?_; refine zT ?_
          refine XA.condT rfl rfl ?_
          refine zS ?_; refine zR ?_
          refine zO rfl (Rd.ixA rfl rfl) ?_
          refine zO rfl (Rd.ldC rfl (tyrow rfl) rfl) ?_
          refine zO rfl (Rd.ixA rfl rfl) ?_
          refine zO rfl (Rd.ldC rfl (tyrow rfl) rfl) ?_
          refine zO rfl (by first | exact Rd.adi rfl rfl | exact Rd.add rfl rfl) ?_
          refine zO rfl Rd.asg ?_; refine zN ?_; refine zT ?_
          refine XA.ret ?_
          refine DA.inb_ret ?_
          refine DA.thn_ret ?_
          exact bodyA.ret (ResA.one rfl rfl) zE ⟨rfl, rfl, rfl⟩
        by_cases q5 : op = 5
        · subst q5
          refine ⟨fun v' f' h => ?_, fun c f' h => (by rw [hr] at h; cases h)⟩
          rw [hr] at h
          simp only [Except.ok.injEq, Prod.mk.injEq] at h
          obtain ⟨rfl, rfl⟩ := h
          refine enterA2 Try.func89 rfl rfl rfl ?_
          refine zS ?_; refine zR ?_
          refine XOA.wr0 rfl WrA.bx ?_
          rintro _ _ _ ⟨g3, rfl, rfl, rfl⟩
          refine zO rfl Rd.asg ?_; refine zN ?_; refine zT ?_; refine zS ?_; refine zR ?_
          refine XOA.wr0 rfl (WrA.alloc (tyrow rfl)) ?_
          rintro _ _ _ ⟨g5, rfl, rfl, rfl⟩
          refine zN ?_; refine zT ?_; refine zS ?_; refine zS ?_; refine zR ?_; refine zO rfl (Rd.fA rfl) ?_; refine zO rfl (Rd.ldC rfl (tyrow rfl) rfl) ?_; refine zO rfl (Rd.lenSlice (tyrow rfl) rfl rfl) ?_; refine zO rfl Rd.mv ?_; refine zN ?_; refine zT ?_
          refine XA.block ?_
          refine XA.unroll 3 ?_
          refine XAR.succ ?_
          refine zS ?_; refine zR ?_; refine zO rfl (Rd.lss rfl rfl) ?_; refine zN ?_; refine zT ?_; refine zS ?_
          refine XA.condT rfl rfl ?_
          refine XA.skip ?_
          refine zT ?_; refine zS ?_
          refine XA.block ?_
          refine zS ?_; refine zR ?_; refine zO rfl Rd.mv ?_
          refine zO rfl (Rd.ixS rfl rfl) ?_
          refine zO rfl (Rd.ldA rfl) ?_
          refine XOA.wr0 rfl (WrA.alloc (tyrow rfl)) ?_
          rintro _ _ _ ⟨g7, rfl, rfl, rfl⟩
          refine zO rfl Rd.asg ?_
          refine XOA.wr0 rfl (WrA.st (tyrow rfl) rfl) ?_
          rintro _ _ _ ⟨rfl, rfl, rfl⟩
          refine zN ?_; refine zT ?_; refine zR ?_; refine zO rfl Rd.mv ?_; refine zO rfl Rd.mv ?_; refine zO rfl (Rd.ldA rfl) ?_
          refine XOA.wr0 rfl (WrA.cE (ihk a f1 e1) rfl) ?_
          rintro _ _ _ ⟨_, ⟨rfl, rfl, rfl⟩, rfl⟩
          refine XOA.cl ?_
          refine zO rfl (Rd.ixA rfl rfl) ?_
          refine XOA.wr0 rfl (WrA.st (tyrow rfl) rfl) ?_
          rintro _ _ _ ⟨rfl, rfl, rfl⟩
          refine zN ?_
          refine DA.inb_normal ?_
          refine zT ?_; refine zR ?_
          refine zO rfl (by first | exact Rd.adi rfl rfl | exact Rd.add rfl rfl) ?_
          refine zO rfl Rd.mv ?_; refine zN ?_; refine zT ?_
          refine XAR.succ ?_
          refine zS ?_; refine zR ?_; refine zO rfl (Rd.lss rfl rfl) ?_; refine zN ?_; refine zT ?_; refine zS ?_
          refine XA.condT rfl rfl ?_
          refine XA.skip ?_
          refine zT ?_; refine zS ?_
          refine XA.block ?_
          refine zS ?_; refine zR ?_; refine zO rfl Rd.mv ?_
          refine zO rfl (Rd.ixS rfl rfl) ?_
          refine zO rfl (Rd.ldA rfl) ?_
          refine XOA.wr0 rfl (WrA.alloc (tyrow rfl)) ?_
          rintro _ _ _ ⟨g7, rfl, rfl, rfl⟩
          refine zO rfl Rd.asg ?_
          refine XOA.wr0 rfl (WrA.st (tyrow rfl) rfl) ?_
          rintro _ _ _ ⟨rfl, rfl, rfl⟩
          refine zN ?_; refine zT ?_; refine zR ?_; refine zO rfl Rd.mv ?_; refine zO rfl Rd.mv ?_; refine zO rfl (Rd.ldA rfl) ?_
          refine XOA.wr0 rfl (WrA.cE (jhk c (f2 + 1) e2) rfl) ?_
          rintro _ _ _ ⟨_, ⟨rfl, rfl, rfl⟩, rfl⟩
          refine XOA.cl ?_
          refine zO rfl (Rd.ixA rfl rfl) ?_
          refine XOA.wr0 rfl (WrA.st (tyrow rfl) rfl) ?_
          rintro _ _ _ ⟨rfl, rfl, rfl⟩
          refine zN ?_
          refine DA.inb_normal ?_
          refine zT ?_; refine zR ?_
          refine zO rfl (by first | exact Rd.adi rfl rfl | exact Rd.add rfl rfl) ?_
          refine zO rfl Rd.mv ?_; refine zN ?_; refine zT ?_
          refine XAR.succ ?_
          refine zS ?_; refine zR ?_; refine zO rfl (Rd.lss rfl rfl) ?_; refine zN ?_; refine zT ?_; refine zS ?_
          refine XA.condF rfl rfl ?_
          refine XA.exit ?_
          refine DA.thn_exit ?_
          refine DA.thn_exit ?_
          refine DA.inb_same ?_
          refine zT ?_; refine zS ?_; refine zR ?_; refine zO rfl Rd.mv ?_
          refine XOA.wr0 rfl (WrA.cE (one_f σ b _ _ _ _ _ f2 (by omega)) rfl) ?_
          rintro _ _ _ ⟨_, ⟨rfl, rfl, rfl⟩, rfl⟩
          refine XOA.cl ?_
          refine zN ?_; refine zT ?_; refine zS ?_; refine zS ?_; refine zR ?_; refine zO rfl (Rd.fA rfl) ?_; refine zO rfl (Rd.ldC rfl (tyrow rfl) rfl) ?_; refine zN ?_; refine zT ?_
          refine XA.block ?_
          refine zS ?_; refine zR ?_; refine zO rfl (Rd.eql rfl rfl) ?_; refine zO rfl Rd.asg ?_; refine zN ?_; refine zT ?_
          refine XA.condF rfl rfl ?_
          refine zS ?_; refine zR ?_; refine zO rfl (Rd.eql rfl rfl) ?_; refine zO rfl Rd.asg ?_; refine zN ?_; refine zT ?_
          refine XA.condF rfl rfl ?_
          refine zS ?_; refine zR ?_; refine zO rfl (Rd.eql rfl rfl) ?_; refine zO rfl Rd.asg ?_; refine zN ?_; refine zT ?_
          refine XA.condF rfl rfl ?_
          refine zS ?_; refine zR ?_; refine zO rfl (Rd.eql rfl rfl) ?_; refine zO rfl Rd.asg ?_; refine zN ?_; refine zT ?_
          refine XA.condF rfl rfl ?_
          refine zS ?_; refine zR ?_; refine zO rfl (Rd.eql rfl rfl) ?_; refine zO rfl Rd.asg ?_; refine zN ?_; refine zT ?_
          refine XA.condT rfl rfl ?_
          refine zS ?_; refine zR ?_
          refine zO rfl (Rd.ixA rfl rfl) ?_
          refine zO rfl (Rd.ldC rfl (tyrow rfl) rfl) ?_
          refine zO rfl (Rd.ixA rfl rfl) ?_
          refine zO rfl (Rd.ldC rfl (tyrow rfl) rfl) ?_
          refine zO rfl (by first | exact Rd.sbi rfl rfl | exact Rd.sub rfl rfl) ?_
          refine zO rfl Rd.asg ?_; refine zN ?_; refine zT ?_
          refine XA.ret ?_
          refine DA.inb_ret ?_
          refine DA.thn_ret ?_
          exact bodyA.ret (ResA.one rfl rfl) zE ⟨rfl, rfl, rfl⟩
        by_cases q6 : op = 6
        · subst q6
          refine ⟨fun v' f' h => ?_, fun c f' h => (by rw [hr] at h; cases h)⟩
          rw [hr] at h
          simp only [Except.ok.injEq, Prod.mk.injEq] at h
          obtain ⟨rfl, rfl⟩ := h
          refine enterA2 Try.func89 rfl rfl rfl ?_
          refine zS ?_; refine zR ?_
          refine XOA.wr0 rfl WrA.bx ?_
          rintro _ _ _ ⟨g3, rfl, rfl, rfl⟩
          refine zO rfl Rd.asg ?_; refine zN ?_; refine zT ?_; refine zS ?_; refine zR ?_
          refine XOA.wr0 rfl (WrA.alloc (tyrow rfl)) ?_
          rintro _ _ _ ⟨g5, rfl, rfl, rfl⟩
          refine zN ?_; refine zT ?_; refine zS ?_; refine zS ?_; refine zR ?_; refine zO rfl (Rd.fA rfl) ?_; refine zO rfl (Rd.ldC rfl (tyrow rfl) rfl) ?_; refine zO rfl (Rd.lenSlice (tyrow rfl) rfl rfl) ?_; refine zO rfl Rd.mv ?_; refine zN ?_; refine zT ?_
          refine XA.block ?_
          refine XA.unroll 3 ?_
          refine XAR.succ ?_
          refine zS ?_; refine zR ?_; refine zO rfl (Rd.lss rfl rfl) ?_; refine zN ?_; refine zT ?_; refine zS ?_
          refine XA.condT rfl rfl ?_
          refine XA.skip ?_
          refine zT ?_; refine zS ?_
          refine XA.block ?_
          refine zS ?_; refine zR ?_; refine zO rfl Rd.mv ?_
          refine zO rfl (Rd.ixS rfl rfl) ?_
          refine zO rfl (Rd.ldA rfl) ?_
          refine XOA.wr0 rfl (WrA.alloc (tyrow rfl)) ?_
          rintro _ _ _ ⟨g7, rfl, rfl, rfl⟩
          refine zO rfl Rd.asg ?_
          refine XOA.wr0 rfl (WrA.st (tyrow rfl) rfl) ?_
          rintro _ _ _ ⟨rfl, rfl, rfl⟩
          refine zN ?_; refine zT ?_; refine zR ?_; refine zO rfl Rd.mv ?_; refine zO rfl Rd.mv ?_; refine zO rfl (Rd.ldA rfl) ?_
          refine XOA.wr0 rfl (WrA.cE (ihk a f1 e1) rfl) ?_
          rintro _ _ _ ⟨_, ⟨rfl, rfl, rfl⟩, rfl⟩
          refine XOA.cl ?_
          refine zO rfl (Rd.ixA rfl rfl) ?_
          refine XOA.wr0 rfl (WrA.st (tyrow rfl) rfl) ?_
          rintro _ _ _ ⟨rfl, rfl, rfl⟩
          refine zN ?_
          refine DA.inb_normal ?_
          refine zT ?_; refine zR ?_
          refine zO rfl (by first | exact Rd.adi rfl rfl | exact Rd.add rfl rfl) ?_
          refine zO rfl Rd.mv ?_; refine zN ?_; refine zT ?_
          refine XAR.succ ?_
          refine zS ?_; refine zR ?_; refine zO rfl (Rd.lss rfl rfl) ?_; refine zN ?_; refine zT ?_; refine zS ?_
          refine XA.condT rfl rfl ?_
          refine XA.skip ?_
          refine zT ?_; refine zS ?_
          refine XA.block ?_
          refine zS ?_; refine zR ?_; refine zO rfl Rd.mv ?_
          refine zO rfl (Rd.ixS rfl rfl) ?_
          refine zO rfl (Rd.ldA rfl) ?_
          refine XOA.wr0 rfl (WrA.alloc (tyrow rfl)) ?_
          rintro _ _ _ ⟨g7, rfl, rfl, rfl⟩
          refine zO rfl Rd.asg ?_
          refine XOA.wr0 rfl (WrA.st (tyrow rfl) rfl) ?_
          rintro _ _ _ ⟨rfl, rfl, rfl⟩
          refine zN ?_; refine zT ?_; refine zR ?_; refine zO rfl Rd.mv ?_; refine zO rfl Rd.mv ?_; refine zO rfl (Rd.ldA rfl) ?_
          refine XOA.wr0 rfl (WrA.cE (jhk c (f2 + 1) e2) rfl) ?_
          rintro _ _ _ ⟨_, ⟨rfl, rfl, rfl⟩, rfl⟩
          refine XOA.cl ?_
          refine zO rfl (Rd.ixA rfl rfl) ?_
          refine XOA.wr0 rfl (WrA.st (tyrow rfl) rfl) ?_
          rintro _ _ _ ⟨rfl, rfl, rfl⟩
          refine zN ?_
          refine DA.inb_normal ?_
          refine zT ?_; refine zR ?_
          refine zO rfl (by first | exact Rd.adi rfl rfl | exact Rd.add rfl rfl) ?_
          refine zO rfl Rd.mv ?_; refine zN ?_; refine zT ?_
          refine XAR.succ ?_
          refine zS ?_; refine zR ?_; refine zO rfl (Rd.lss rfl rfl) ?_; refine zN ?_; refine zT ?_; refine zS ?_
          refine XA.condF rfl rfl ?_
          refine XA.exit ?_
          refine DA.thn_exit ?_
          refine DA.thn_exit ?_
          refine DA.inb_same ?_
          refine zT ?_; refine zS ?_; refine zR ?_; refine zO rfl Rd.mv ?_
          refine XOA.wr0 rfl (WrA.cE (one_f σ b _ _ _ _ _ f2 (by omega)) rfl) ?_
          rintro _ _ _ ⟨_, ⟨rfl, rfl, rfl⟩, rfl⟩
          refine XOA.cl ?_
          refine zN ?_; refine zT ?_; refine zS ?_; refine zS ?_; refine zR ?_; refine zO rfl (Rd.fA rfl) ?_; refine zO rfl (Rd.ldC rfl (tyrow rfl) rfl) ?_; refine zN ?_; refine zT ?_
          refine XA.block ?_
          refine zS ?_; refine zR ?_; refine zO rfl (Rd.eql rfl rfl) ?_; refine zO rfl Rd.asg ?_; refine zN ?_; refine zT ?_
          refine XA.condF rfl rfl ?_
          refine zS ?_; refine zR ?_; refine zO rfl (Rd.eql rfl rfl) ?_; refine zO rfl Rd.asg ?_; refine zN ?_; refine zT ?_
          refine XA.condF rfl rfl ?_
          refine zS ?_; refine zR ?_; refine zO rfl (Rd.eql rfl rfl) ?_; refine zO rfl Rd.asg ?_; refine zN ?_; refine zT ?_
          refine XA.condF rfl rfl ?_
          refine zS ?_; refine zR ?_; refine zO rfl (Rd.eql rfl rfl) ?_; refine zO rfl Rd.asg ?_; refine zN ?_; refine zT ?_
          refine XA.condF rfl rfl ?_
          refine zS ?_; refine zR ?_; refine zO rfl (Rd.eql rfl rfl) ?_; refine zO rfl Rd.asg ?_; refine zN ?_; refine zT ?_
          refine XA.condF rfl rfl ?_
          refine zS ?_; refine zR ?_; refine zO rfl (Rd.eql rfl rfl) ?_; refine zO rfl Rd.asg ?_; refine zN ?_; refine zT ?_
          refine XA.condT rfl rfl ?_
          refine zS ?_; refine zR ?_
          refine zO rfl (Rd.ixA rfl rfl) ?_
          refine zO rfl (Rd.ldC rfl (tyrow rfl) rfl) ?_
          refine zO rfl (Rd.ixA rfl rfl) ?_
          refine zO rfl (Rd.ldC rfl (tyrow rfl) rfl) ?_
          refine zO rfl (by first | exact Rd.mli rfl rfl | exact Rd.mul rfl rfl) ?_
          refine zO rfl Rd.asg ?_; refine zN ?_; refine zT ?_
          refine XA.ret ?_
          refine DA.inb_ret ?_
          refine DA.thn_ret ?_
          exact bodyA.ret (ResA.one rfl rfl) zE ⟨rfl, rfl, rfl⟩
        by_cases q7 : op = 7
        · subst q7
          refine ⟨fun v' f' h => ?_, fun c f' h => (by rw [hr] at h; cases h)⟩
          rw [hr] at h
          simp only [Except.ok.injEq, Prod.mk.injEq] at h
          obtain ⟨rfl, rfl⟩ := h
          refine enterA2 Try.func89 rfl rfl rfl ?_
          refine zS ?_; refine zR ?_
          refine XOA.wr0 rfl WrA.bx ?_
          rintro _ _ _ ⟨g3, rfl, rfl, rfl⟩
          refine zO rfl Rd.asg ?_; refine zN ?_; refine zT ?_; refine zS ?_; refine zR ?_
          refine XOA.wr0 rfl (WrA.alloc (tyrow rfl)) ?_
          rintro _ _ _ ⟨g5, rfl, rfl, rfl⟩
          refine zN ?_; refine zT ?_; refine zS ?_; refine zS ?_; refine zR ?_; refine zO rfl (Rd.fA rfl) ?_; refine zO rfl (Rd.ldC rfl (tyrow rfl) rfl) ?_; refine zO rfl (Rd.lenSlice (tyrow rfl) rfl rfl) ?_; refine zO rfl Rd.mv ?_; refine zN ?_; refine zT ?_
          refine XA.block ?_
          refine XA.unroll 3 ?_
          refine XAR.succ ?_
          refine zS ?_; refine zR ?_; refine zO rfl (Rd.lss rfl rfl) ?_; refine zN ?_; refine zT ?_; refine zS ?_
          refine XA.condT rfl rfl ?_
          refine XA.skip ?_
          refine zT ?_; refine zS ?_
          refine XA.block ?_
          refine zS ?_; refine zR ?_; refine zO rfl Rd.mv ?_
          refine zO rfl (Rd.ixS rfl rfl) ?_
          refine zO rfl (Rd.ldA rfl) ?_
          refine XOA.wr0 rfl (WrA.alloc (tyrow rfl)) ?_
          rintro _ _ _ ⟨g7, rfl, rfl, rfl⟩
          refine zO rfl Rd.asg ?_
          refine XOA.wr0 rfl (WrA.st (tyrow rfl) rfl) ?_
          rintro _ _ _ ⟨rfl, rfl, rfl⟩
          refine zN ?_; refine zT ?_; refine zR ?_; refine zO rfl Rd.mv ?_; refine zO rfl Rd.mv ?_; refine zO rfl (Rd.ldA rfl) ?_
          refine XOA.wr0 rfl (WrA.cE (ihk a f1 e1) rfl) ?_
          rintro _ _ _ ⟨_, ⟨rfl, rfl, rfl⟩, rfl⟩
          refine XOA.cl ?_
          refine zO rfl (Rd.ixA rfl rfl) ?_
          refine XOA.wr0 rfl (WrA.st (tyrow rfl) rfl) ?_
          rintro _ _ _ ⟨rfl, rfl, rfl⟩
          refine zN ?_
          refine DA.inb_normal ?_
          refine zT ?_; refine zR ?_
          refine zO rfl (by first | exact Rd.adi rfl rfl | exact Rd.add rfl rfl) ?_
          refine zO rfl Rd.mv ?_; refine zN ?_; refine zT ?_
          refine XAR.succ ?_
          refine zS ?_; refine zR ?_; refine zO rfl (Rd.lss rfl rfl) ?_; refine zN ?_; refine zT ?_; refine zS ?_
          refine XA.condT rfl rfl ?_
          refine XA.skip ?_
          refine zT ?_; refine zS ?_
          refine XA.block ?_
          refine zS ?_; refine zR ?_; refine zO rfl Rd.mv ?_
          refine zO rfl (Rd.ixS rfl rfl) ?_
          refine zO rfl (Rd.ldA rfl) ?_
          refine XOA.wr0 rfl (WrA.alloc (tyrow rfl)) ?_
          rintro _ _ _ ⟨g7, rfl, rfl, rfl⟩
          refine zO rfl Rd.asg ?_
          refine XOA.wr0 rfl (WrA.st (tyrow rfl) rfl) ?_
          rintro _ _ _ ⟨rfl, rfl, rfl⟩
          refine zN ?_; refine zT ?_; refine zR ?_; refine zO rfl Rd.mv ?_; refine zO rfl Rd.mv ?_; refine zO rfl (Rd.ldA rfl) ?_
          refine XOA.wr0 rfl (WrA.cE (jhk c (f2 + 1) e2) rfl) ?_
          rintro _ _ _ ⟨_, ⟨rfl, rfl, rfl⟩, rfl⟩
          refine XOA.cl ?_
          refine zO rfl (Rd.ixA rfl rfl) ?_
          refine XOA.wr0 rfl (WrA.st (tyrow rfl) rfl) ?_
          rintro _ _ _ ⟨rfl, rfl, rfl⟩
          refine zN ?_
          refine DA.inb_normal ?_
          refine zT ?_; refine zR ?_
          refine zO rfl (by first | exact Rd.adi rfl rfl | exact Rd.add rfl rfl) ?_
          refine zO rfl Rd.mv ?_; refine zN ?_; refine zT ?_
          refine XAR.succ ?_
          refine zS ?_; refine zR ?_; refine zO rfl (Rd.lss rfl rfl) ?_; refine zN ?_; refine zT ?_; refine zS ?_
          refine XA.condF rfl rfl ?_
          refine XA.exit ?_
          refine DA.thn_exit ?_
          refine DA.thn_exit ?_
          refine DA.inb_same ?_
          refine zT ?_; refine zS ?_; refine zR ?_; refine zO rfl Rd.mv ?_
          refine XOA.wr0 rfl (WrA.cE (one_f σ b _ _ _ _ _ f2 (by omega)) rfl) ?_
          rintro _ _ _ ⟨_, ⟨rfl, rfl, rfl⟩, rfl⟩
          refine XOA.cl ?_
          refine zN ?_; refine zT ?_; refine zS ?_; refine zS ?_; refine zR ?_; refine zO rfl (Rd.fA rfl) ?_; refine zO rfl (Rd.ldC rfl (tyrow rfl) rfl) ?_; refine zN ?_; refine zT ?_
          refine XA.block ?_
          refine zS ?_; refine zR ?_; refine zO rfl (Rd.eql rfl rfl) ?_; refine zO rfl Rd.asg ?_; refine zN ?_; refine zT ?_
          refine XA.condF rfl rfl ?_
          refine zS ?_; refine zR ?_; refine zO rfl (Rd.eql rfl rfl) ?_; refine zO rfl Rd.asg ?_; refine zN ?_; refine zT ?_
          refine XA.condF rfl rfl ?_
          refine zS ?_; refine zR ?_; refine zO rfl (Rd.eql rfl rfl) ?_; refine zO rfl Rd.asg ?_; refine zN ?_; refine zT ?_
          refine XA.condF rfl rfl ?_
          refine zS ?_; refine zR ?_; refine zO rfl (Rd.eql rfl rfl) ?_; refine zO rfl Rd.asg ?_; refine zN ?_; refine zT ?_
          refine XA.condF rfl rfl ?_
          refine zS ?_; refine zR ?_; refine zO rfl (Rd.eql rfl rfl) ?_; refine zO rfl Rd.asg ?_; refine zN ?_; refine zT ?_
          refine XA.condF rfl rfl ?_
          refine zS ?_; refine zR ?_; refine zO rfl (Rd.eql rfl rfl) ?_; refine zO rfl Rd.asg ?_; refine zN ?_; refine zT ?_
          refine XA.condF rfl rfl ?_
          refine zS ?_; refine zR ?_; refine zO rfl (Rd.eql rfl rfl) ?_; refine zO rfl Rd.asg ?_; refine zN ?_; refine zT ?_
          refine XA.condT rfl rfl ?_
          refine zS ?_; refine zR ?_
          refine zO rfl (Rd.ixA rfl rfl) ?_
          refine zO rfl (Rd.ldC rfl (tyrow rfl) rfl) ?_
          refine zO rfl (Rd.ixA rfl rfl) ?_
          refine zO rfl (Rd.ldC rfl (tyrow rfl) rfl) ?_; refine zO rfl (Rd.lss rfl rfl) ?_
          refine XOA.wr0 rfl (WrA.cE (flag_a σ _) rfl) ?_
          rintro _ _ _ ⟨_, ⟨rfl, rfl, rfl⟩, rfl⟩
          refine XOA.cl ?_
          refine zO rfl Rd.asg ?_; refine zN ?_; refine zT ?_
          refine XA.ret ?_
          refine DA.inb_ret ?_
          refine DA.thn_ret ?_
          exact bodyA.ret (ResA.one rfl rfl) zE ⟨by simp [binV], rfl, rfl⟩
        by_cases q8 : op = 8
        · subst q8
          refine ⟨fun v' f' h => ?_, fun c f' h => (by rw [hr] at h; cases h)⟩
          rw [hr] at h
          simp only [Except.ok.injEq, Prod.mk.injEq] at h
          obtain ⟨rfl, rfl⟩ := h
          refine enterA2 Try.func89 rfl rfl rfl ?_
          refine zS ?_; refine zR ?_
          refine XOA.wr0 rfl WrA.bx ?_
          rintro _ _ _ ⟨g3, rfl, rfl, rfl⟩
          refine zO rfl Rd.asg ?_; refine zN ?_; refine zT ?_; refine zS ?_; refine zR ?_
          refine XOA.wr0 rfl (WrA.alloc (tyrow rfl)) ?_
          rintro _ _ _ ⟨g5, rfl, rfl, rfl⟩
          refine zN ?_; refine zT ?_; refine zS ?_; refine zS ?_; refine zR ?_; refine zO rfl (Rd.fA rfl) ?_; refine zO rfl (Rd.ldC rfl (tyrow rfl) rfl) ?_; refine zO rfl (Rd.lenSlice (tyrow rfl) rfl rfl) ?_; refine zO rfl Rd.mv ?_; refine zN ?_; refine zT ?_
          refine XA.block ?_
          refine XA.unroll 3 ?_
          refine XAR.succ ?_
          refine zS ?_; refine zR ?_; refine zO rfl (Rd.lss rfl rfl) ?_; refine zN ?_; refine zT ?_; refine zS ?_
          refine XA.condT rfl rfl ?_
          refine XA.skip ?_
          refine zT ?_; refine zS ?_
          refine XA.block ?_
          refine zS ?_; refine zR ?_; refine zO rfl Rd.mv ?_
          refine zO rfl (Rd.ixS rfl rfl) ?_
          refine zO rfl (Rd.ldA rfl) ?_
          refine XOA.wr0 rfl (WrA.alloc (tyrow rfl)) ?_
          rintro _ _ _ ⟨g7, rfl, rfl, rfl⟩
          refine zO rfl Rd.asg ?_
          refine XOA.wr0 rfl (WrA.st (tyrow rfl) rfl) ?_
          rintro _ _ _ ⟨rfl, rfl, rfl⟩
          refine zN ?_; refine zT ?_; refine zR ?_; refine zO rfl Rd.mv ?_; refine zO rfl Rd.mv ?_; refine zO rfl (Rd.ldA rfl) ?_
          refine XOA.wr0 rfl (WrA.cE (ihk a f1 e1) rfl) ?_
          rintro _ _ _ ⟨_, ⟨rfl, rfl, rfl⟩, rfl⟩
          refine XOA.cl ?_
          refine zO rfl (Rd.ixA rfl rfl) ?_
          refine XOA.wr0 rfl (WrA.st (tyrow rfl) rfl) ?_
          rintro _ _ _ ⟨rfl, rfl, rfl⟩
          refine zN ?_
          refine DA.inb_normal ?_
          refine zT ?_; refine zR ?_
          refine zO rfl (by first | exact Rd.adi rfl rfl | exact Rd.add rfl rfl) ?_
          refine zO rfl Rd.mv ?_; refine zN ?_; refine zT ?_
          refine XAR.succ ?_
          refine zS ?_; refine zR ?_; refine zO rfl (Rd.lss rfl rfl) ?_; refine zN ?_; refine zT ?_; refine zS ?_
          refine XA.condT rfl rfl ?_
          refine XA.skip ?_
          refine zT ?_; refine zS ?_
          refine XA.block ?_
          refine zS ?_; refine zR ?_; refine zO rfl Rd.mv ?_
          refine zO rfl (Rd.ixS rfl rfl) ?_
          refine zO rfl (Rd.ldA rfl) ?_
          refine XOA.wr0 rfl (WrA.alloc (tyrow rfl)) ?_
          rintro _ _ _ ⟨g7, rfl, rfl, rfl⟩
          refine zO rfl Rd.asg ?_
          refine XOA.wr0 rfl (WrA.st (tyrow rfl) rfl) ?_
          rintro _ _ _ ⟨rfl, rfl, rfl⟩
          refine zN ?_; refine zT ?_; refine zR ?_; refine zO rfl Rd.mv ?_; refine zO rfl Rd.mv ?_; refine zO rfl (Rd.ldA rfl) ?_
          refine XOA.wr0 rfl (WrA.cE (jhk c (f2 + 1) e2) rfl) ?_
          rintro _ _ _ ⟨_, ⟨rfl, rfl, rfl⟩, rfl⟩
          refine XOA.cl ?_
          refine zO rfl (Rd.ixA rfl rfl) ?_
          refine XOA.wr0 rfl (WrA.st (tyrow rfl) rfl) ?_
          rintro _ _ _ ⟨rfl, rfl, rfl⟩
          refine zN ?_
          refine DA.inb_normal ?_
          refine zT ?_; refine zR ?_
          refine zO rfl (by first | exact Rd.adi rfl rfl | exact Rd.add rfl rfl) ?_
          refine zO rfl Rd.mv ?_; refine zN ?_; refine zT ?_
          refine XAR.succ ?_
          refine zS ?_; refine zR ?_; refine zO rfl (Rd.lss rfl rfl) ?_; refine zN ?_; refine zT ?_; refine zS ?_
          refine XA.condF rfl rfl ?_
          refine XA.exit ?_
          refine DA.thn_exit ?_
          refine DA.thn_exit ?_
          refine DA.inb_same ?_
          refine zT ?_; refine zS ?_; refine zR ?_; refine zO rfl Rd.mv ?_
          refine XOA.wr0 rfl (WrA.cE (one_f σ b _ _ _ _ _ f2 (by omega)) rfl) ?_
          rintro _ _ _ ⟨_, ⟨rfl, rfl, rfl⟩, rfl⟩
          refine XOA.cl ?_
          refine zN ?_; refine zT ?_; refine zS ?_; refine zS ?_; refine zR ?_; refine zO rfl (Rd.fA rfl) ?_; refine zO rfl (Rd.ldC rfl (tyrow rfl) rfl) ?_; refine zN ?_; refine zT ?_
          refine XA.block ?_
          refine zS ?_; refine zR ?_; refine zO rfl (Rd.eql rfl rfl) ?_; refine zO rfl Rd.asg ?_; refine zN ?_; refine zT ?_
          refine XA.condF rfl rfl ?_
          refine zS ?_; refine zR ?_; refine zO rfl (Rd.eql rfl rfl) ?_; refine zO rfl Rd.asg ?_; refine zN ?_; refine zT ?_
          refine XA.condF rfl rfl ?_
          refine zS ?_; refine zR ?_; refine zO rfl (Rd.eql rfl rfl) ?_; refine zO rfl Rd.asg ?_; refine zN ?_; refine zT ?_
          refine XA.condF rfl rfl ?_
          refine zS ?_; refine zR ?_; refine zO rfl (Rd.eql rfl rfl) ?_; refine zO rfl Rd.asg ?_; refine zN ?_; refine zT ?_
          refine XA.condF rfl rfl ?_
          refine zS ?_; refine zR ?_; refine zO rfl (Rd.eql rfl rfl) ?_; refine zO rfl Rd.asg ?_; refine zN ?_; refine zT ?_
          refine XA.condF rfl rfl ?_
          refine zS ?_; refine zR ?_; refine zO rfl (Rd.eql rfl rfl) ?_; refine zO rfl Rd.asg ?_; refine zN ?_; refine zT ?_
          refine XA.condF rfl rfl ?_
          refine zS ?_; refine zR ?_; refine zO rfl (Rd.eql rfl rfl) ?_; refine zO rfl Rd.asg ?_; refine zN ?_; refine zT ?_
          refine XA.condF rfl rfl ?_
          refine XA.skip ?_
          refine DA.inb_normal ?_
          refine zT ?_; refine zS ?_; refine zR ?_
          refine zO rfl (Rd.ixA rfl rfl) ?_
          refine zO rfl (Rd.ldC rfl (tyrow rfl) rfl) ?_
          refine zO rfl (Rd.ixA rfl rfl) ?_
          refine zO rfl (Rd.ldC rfl (tyrow rfl) rfl) ?_; refine zO rfl (Rd.eql rfl rfl) ?_
          refine XOA.wr0 rfl (WrA.cE (flag_a σ _) rfl) ?_
          rintro _ _ _ ⟨_, ⟨rfl, rfl, rfl⟩, rfl⟩
          refine XOA.cl ?_
          refine zO rfl Rd.asg ?_; refine zN ?_; refine zT ?_
          refine XA.ret ?_
          exact bodyA.ret (ResA.one rfl rfl) zE ⟨by simp [binV], rfl, rfl⟩
        omega
end Go.Proofs.Ytbbghdkndbpmmaa

namespace Go.Proofs.Ytbbghdkndbpmmaa
open Go X
set_option maxHeartbeats 1000000
def isF (vs : List Va) (cells : List Int) (x : Ex) (f : Nat) : XR Bool := match exRun vs cells x f with
  | .error e => .error e
  | .ok (n, k) => match oneF k with
    | .error e => .error e
    | .ok k' => .ok (decide (n ≠ 0), k')
theorem oneF_s (k : Nat) : oneF (k + 1) = .ok k := by simp [oneF]
theorem isS_isF (vs : List Va) (x : Ex) (cells inp out : List Int) (f : Nat) : isS vs x ⟨cells, inp, out, f⟩ = match isF vs cells x f with
    | .error (c, k) => .error (c, ⟨cells, inp, out, k⟩)
    | .ok (b, k) => .ok (b, ⟨cells, inp, out, k⟩) := by
  rw [isS, exS, isF]
  simp only
  cases exRun vs cells x f with
  | error e => rfl
  | ok a =>
    obtain ⟨n, k⟩ := a
    cases k with
    | zero => rfl
    | succ k => simp [oneS, oneF]
theorem is_r (σ : PH) (pr : Pr) (h1 : ∀ x ∈ pr.vars, 1 ≤ x.size) (hz : ∀ x ∈ pr.vars, 0 ≤ x.size ∧ x.size ≤ 1000) (hvl : pr.vars.length ≤ 1000) (x : Ex) (cs : List Value) (b : Nat) (pv : Option Addr) (cv : Nat) (bs : Value) (gc nc : Nat) (cells : List Int) (vi vo : Value) (f : Nat)
    (hp : PrAt σ [.slice pv pr.vars.length cv, bs] pr) (hx : ExAt σ cs x) (hV : ExV pr.vars.length x) (hnc : cells.length = nc) (hsz : (nc : Int) = sizes pr.vars) (hf : f < 1000000) :
    (∀ v f', isF pr.vars cells x f = .ok (v, f') → CallsA Try.prog 91 #[ptr b, .agg cs.toArray] σ [blk b [.slice pv pr.vars.length cv, bs, .slice (some ⟨gc, 0, none⟩) nc nc, vi, vo, i64 f] 97, blk gc (ints cells) 2] (RetA fun r σ' Γ' => r = .bool v ∧ σ = σ' ∧ Γ' = [blk b [.slice pv pr.vars.length cv, bs, .slice (some ⟨gc, 0, none⟩) nc nc, vi, vo, i64 f'] 97, blk gc (ints cells) 2])) ∧
    (∀ c f', isF pr.vars cells x f = .error (c, f') → CallsA Try.prog 91 #[ptr b, .agg cs.toArray] σ [blk b [.slice pv pr.vars.length cv, bs, .slice (some ⟨gc, 0, none⟩) nc nc, vi, vo, i64 f] 97, blk gc (ints cells) 2] (PanA fun ch σ' Γ' => ch = goneC c ∧ σ = σ' ∧ Γ' = [blk b [.slice pv pr.vars.length cv, bs, .slice (some ⟨gc, 0, none⟩) nc nc, vi, vo, i64 f'] 97, blk gc (ints cells) 2])) := by
  obtain ⟨ihk, ihe⟩ := expr_r σ pr h1 hz hvl x cs b pv cv bs gc nc cells vi vo f hp hx hV hnc hsz hf
  have hone := hx.ones
  have hln := hx.len
  have hx1 := exEnd pr.vars cells x f
  rw [isF]
  cases e1 : exRun pr.vars cells x f with
  | error e =>
    obtain ⟨c0, f0⟩ := e
    refine ⟨fun v f' h => (by cases h), fun c f' h => ?_⟩
    cases h
    refine enterA2 Try.func91 rfl rfl rfl ?_
    refine zS ?_; refine zR ?_
    refine XOA.wr0 rfl WrA.bx ?_
    rintro _ _ _ ⟨g3, rfl, rfl, rfl⟩
    refine zO rfl Rd.asg ?_; refine zN ?_; refine zT ?_; refine zS ?_; refine zR ?_; refine zO rfl Rd.mv ?_; refine zO rfl (Rd.ldA rfl) ?_
    refine XOA.die rfl (ihe c0 f0 e1) rfl ?_
    rintro _ _ _ ⟨rfl, rfl, rfl⟩
    refine DA.cl ?_
    repeat (first | refine DA.thn_panic ?_ | refine DA.inb_panic ?_)
    exact bodyA.panic zE ⟨rfl, rfl, rfl⟩
  | ok a =>
    obtain ⟨n, k⟩ := a
    have hf1 := hx1.ok _ e1
    simp only at hf1
    cases k with
    | zero =>
      refine ⟨fun v f' h => (by cases h), fun c f' h => ?_⟩
      cases h
      refine enterA2 Try.func91 rfl rfl rfl ?_
      refine zS ?_; refine zR ?_
      refine XOA.wr0 rfl WrA.bx ?_
      rintro _ _ _ ⟨g3, rfl, rfl, rfl⟩
      refine zO rfl Rd.asg ?_; refine zN ?_; refine zT ?_; refine zS ?_; refine zR ?_; refine zO rfl Rd.mv ?_; refine zO rfl (Rd.ldA rfl) ?_
      refine XOA.wr0 rfl (WrA.cE (ihk n 0 e1) rfl) ?_
      rintro _ _ _ ⟨_, ⟨rfl, rfl, rfl⟩, rfl⟩
      refine XOA.cl ?_
      refine zO rfl Rd.asg ?_; refine zN ?_; refine zT ?_; refine zS ?_; refine zR ?_; refine zO rfl Rd.mv ?_
      refine XOA.die rfl (one_t σ b _ _ _ _ _) rfl ?_
      rintro _ _ _ ⟨rfl, rfl, rfl⟩
      refine DA.cl ?_
      repeat (first | refine DA.thn_panic ?_ | refine DA.inb_panic ?_)
      exact bodyA.panic zE ⟨rfl, rfl, rfl⟩
    | succ k =>
      simp only [oneF_s]
      refine ⟨fun v f' h => ?_, fun c f' h => (by cases h)⟩
      simp only [Except.ok.injEq, Prod.mk.injEq] at h
      obtain ⟨rfl, rfl⟩ := h
      refine enterA2 Try.func91 rfl rfl rfl ?_
      refine zS ?_; refine zR ?_
      refine XOA.wr0 rfl WrA.bx ?_
      rintro _ _ _ ⟨g3, rfl, rfl, rfl⟩
      refine zO rfl Rd.asg ?_; refine zN ?_; refine zT ?_; refine zS ?_; refine zR ?_; refine zO rfl Rd.mv ?_; refine zO rfl (Rd.ldA rfl) ?_
      refine XOA.wr0 rfl (WrA.cE (ihk n (k + 1) e1) rfl) ?_
      rintro _ _ _ ⟨_, ⟨rfl, rfl, rfl⟩, rfl⟩
      refine XOA.cl ?_
      refine zO rfl Rd.asg ?_; refine zN ?_; refine zT ?_; refine zS ?_; refine zR ?_; refine zO rfl Rd.mv ?_
      refine XOA.wr0 rfl (WrA.cE (one_f σ b _ _ _ _ _ k (by omega)) rfl) ?_
      rintro _ _ _ ⟨_, ⟨rfl, rfl, rfl⟩, rfl⟩
      refine XOA.cl ?_
      refine zN ?_; refine zT ?_; refine zS ?_; refine zR ?_; refine zO rfl Rd.mv ?_
      refine zO rfl (Rd.neq rfl rfl) ?_
      refine zO rfl Rd.asg ?_; refine zN ?_; refine zT ?_
      refine XA.ret ?_
      exact bodyA.ret (ResA.one rfl rfl) zE ⟨rfl, rfl, rfl⟩
theorem ints_cell (l : List Int) {i : Nat} (w : Int) (hi : i < l.length) : splice (ints l) i [i64 w] = ints (l.set i w) := by
  simp only [splice, ints, List.length_singleton, List.map_set]
  rw [List.set_eq_take_append_cons_drop, if_pos (by simpa using hi)]
  simp
/-- How statements' run ends. -/
def EndS (σ : PH) (mk : RS → Value → Option Addr → Nat → List HP) (r : RR) : Ending → PH → List HP → Prop := fun e σ' Γ' => match r, e with
  | .ok s', .returned v => v = .tuple #[] ∧ σ = σ' ∧ ∃ vi po co, PInts σ vi s'.inp ∧ Γ' = mk s' vi po co
  | .error (c, s'), .panicked ch => ch = goneC c ∧ σ = σ' ∧ ∃ vi po co, PInts σ vi s'.inp ∧ Γ' = mk s' vi po co
  | _, _ => False
theorem EndS.ok {P : Program} {f : FuncId} {vs : Array Value} {Γ : List HP} {σ : PH} {mk : RS → Value → Option Addr → Nat → List HP} {s' : RS} (h : CallsA P f vs σ Γ (EndS σ mk (.ok s'))) :
    CallsA P f vs σ Γ (RetA fun v σ' Γ' => v = .tuple #[] ∧ σ = σ' ∧ ∃ vi po co, PInts σ vi s'.inp ∧ Γ' = mk s' vi po co) := CallsA.mono h fun e _ _ he => by cases e <;> exact he
theorem EndS.err {P : Program} {f : FuncId} {vs : Array Value} {Γ : List HP} {σ : PH} {mk : RS → Value → Option Addr → Nat → List HP} {c : Int} {s' : RS} (h : CallsA P f vs σ Γ (EndS σ mk (.error (c, s')))) :
    CallsA P f vs σ Γ (PanA fun ch σ' Γ' => ch = goneC c ∧ σ = σ' ∧ ∃ vi po co, PInts σ vi s'.inp ∧ Γ' = mk s' vi po co) := CallsA.mono h fun e _ _ he => by cases e <;> exact he
@[reducible] def mkS (b : Nat) (pv : Option Addr) (nv cv : Nat) (bs : Value) (gc nc : Nat) : RS → Value → Option Addr → Nat → List HP := fun s vi po co => [blk b [.slice pv nv cv, bs, .slice (some ⟨gc, 0, none⟩) nc nc, vi, .slice po (s).out.length co, i64 (s).left] 97, blk gc (ints (s).cells) 2, lst 2 1 (.slice po (s).out.length co) (s).out.length (ints (s).out)]
/-- What stays true of a run. -/
structure Fine (vs : List Va) (nc : Nat) (s : RS) : Prop where
  cl : s.cells.length = nc
  sz : (nc : Int) = sizes vs
  left : s.left < 1000000
  out : s.out.length + s.left < 2000000
structure Less (s s' : RS) : Prop where
  cl : s'.cells.length = s.cells.length
  left : s'.left ≤ s.left
  out : s'.out.length + s'.left ≤ s.out.length + s.left
theorem Less.refl (s : RS) : Less s s := ⟨rfl, Nat.le_refl _, Nat.le_refl _⟩
theorem Less.trans {a b c : RS} (h : Less a b) (k : Less b c) : Less a c := ⟨k.cl.trans h.cl, Nat.le_trans k.left h.left, Nat.le_trans k.out h.out⟩
theorem Fine.less {vs : List Va} {nc : Nat} {s s' : RS} (h : Fine vs nc s) (k : Less s s') : Fine vs nc s' := ⟨k.cl.trans h.cl, h.sz, Nat.lt_of_le_of_lt k.left h.left, Nat.lt_of_le_of_lt k.out h.out⟩
def resS : RR → RS | .ok s => s | .error (_, s) => s
theorem exS_less (vs : List Va) (x : Ex) (s : RS) : (∀ v s', exS vs x s = .ok (v, s') → Less s s' ∧ s'.left ≤ s.left ∧ s' = { s with left := s'.left }) ∧ ∀ c s', exS vs x s = .error (c, s') → Less s s' := by
  have hx := exEnd vs s.cells x s.left
  rw [exS]
  cases e : exRun vs s.cells x s.left with
  | error q =>
    obtain ⟨c, k⟩ := q
    refine ⟨fun v s' h => (by cases h), fun c' s' h => ?_⟩
    cases h
    have := (hx.err _ _ e).1
    exact ⟨rfl, this, by show s.out.length + k ≤ _; omega⟩
  | ok q =>
    obtain ⟨n, k⟩ := q
    refine ⟨fun v s' h => ?_, fun c' s' h => (by cases h)⟩
    cases h
    have := hx.ok _ e
    exact ⟨⟨rfl, this, by show s.out.length + k ≤ _; simp only at this; omega⟩, this, rfl⟩
theorem oneS_less {s : RS} : (∀ s', oneS s = .ok s' → Less s s' ∧ s'.left + 1 = s.left ∧ s' = { s with left := s'.left }) ∧ ∀ c s', oneS s = .error (c, s') → s' = s ∧ c = 13 ∧ s.left = 0 := by
  rw [oneS]
  by_cases h : s.left = 0
  · rw [if_pos h]; exact ⟨fun s' h => (by cases h), fun c s' e => by cases e; exact ⟨rfl, rfl, h⟩⟩
  · rw [if_neg h]
    refine ⟨fun s' e => ?_, fun c s' e => (by cases e)⟩
    cases e
    exact ⟨⟨rfl, Nat.sub_le _ _, by show s.out.length + (s.left - 1) ≤ _; omega⟩, by show s.left - 1 + 1 = _; omega, rfl⟩
end Go.Proofs.Ytbbghdkndbpmmaa

namespace Go.Proofs.Ytbbghdkndbpmmaa
open Go X
set_option maxHeartbeats 1000000
theorem stG_5 (vs : List Va) (g : Nat) (v : Int) (e f : Ex) (body els : List St) (s : RS) : stG vs (g + 1) (.mk 5 v e f body els) s = match isS vs e s with
      | .error e => some (.error e)
      | .ok (false, s1) => some (.ok s1)
      | .ok (true, s1) => match listG (stG vs g) body s1 with
        | none => none
        | some (.error e) => some (.error e)
        | some (.ok s2) => match oneS s2 with
          | .error e => some (.error e)
          | .ok s3 => stG vs g (.mk 5 v e f body els) s3 := by rw [stG]; rfl
theorem stG_6 (vs : List Va) (g : Nat) (v : Int) (e f : Ex) (body els : List St) (s : RS) : stG vs (g + 1) (.mk 6 v e f body els) s = match isS vs e s with
      | .error e => some (.error e)
      | .ok (true, s1) => match listG (stG vs g) body s1 with
        | none => none
        | some (.error e) => some (.error e)
        | some (.ok s2) => some (oneS s2)
      | .ok (false, s1) => listG (stG vs g) els s1 := by rw [stG]; rfl
theorem isS_less (vs : List Va) (x : Ex) (s : RS) : (∀ v s', isS vs x s = .ok (v, s') → Less s s' ∧ s' = { s with left := s'.left }) ∧ ∀ c s', isS vs x s = .error (c, s') → Less s s' := by
  obtain ⟨h1, h2⟩ := exS_less vs x s
  rw [isS]
  cases e : exS vs x s with
  | error q => exact ⟨fun v s' h => (by cases h), fun c s' h => by cases h; exact h2 _ _ e⟩
  | ok q =>
    obtain ⟨n, s1⟩ := q
    obtain ⟨a1, a2, a3⟩ := h1 _ _ e
    obtain ⟨b1, b2⟩ := oneS_less (s := s1)
    simp only
    cases e2 : oneS s1 with
    | error q => obtain ⟨c0, s0⟩ := q; refine ⟨fun v s' h => (by cases h), fun c s' h => ?_⟩; cases h; obtain ⟨rfl, -, -⟩ := b2 _ _ e2; exact a1
    | ok s2 =>
      obtain ⟨c1, c2, c3⟩ := b1 _ e2
      refine ⟨fun v s' h => ?_, fun c s' h => (by cases h)⟩
      cases h
      exact ⟨a1.trans c1, by rw [a3] at c3; exact c3⟩
theorem listG_less {F : St → RS → Option RR} (hF : ∀ x s r, F x s = some r → Less s (resS r)) : ∀ (l : List St) (s : RS) (r : RR), listG F l s = some r → Less s (resS r)
  | [], s, r, h => by cases h; exact Less.refl s
  | x :: l, s, r, h => by
    rw [listG] at h
    cases e : F x s with
    | none => rw [e] at h; cases h
    | some q =>
      rw [e] at h
      have h1 := hF _ _ _ e
      cases q with
      | error q => cases h; exact h1
      | ok s1 => exact Less.trans h1 (listG_less hF l s1 r h)
theorem ofOne {s s1 : RS} (h : Less s s1) : Less s (resS (oneS s1)) := by
  obtain ⟨h1, h2⟩ := oneS_less (s := s1)
  cases e : oneS s1 with
  | error q => obtain ⟨c, s2⟩ := q; obtain ⟨rfl, -, -⟩ := h2 _ _ e; exact h
  | ok s2 => exact h.trans (h1 _ e).1
theorem stG_less (vs : List Va) : ∀ (g : Nat) (x : St) (s : RS) (r : RR), stG vs g x s = some r → Less s (resS r) := by
  intro g
  induction g with
  | zero => intro x s r h; cases h
  | succ g ih =>
    intro x s r h
    obtain ⟨op, v, e, f, body, els⟩ := x
    obtain ⟨x1, x2⟩ := exS_less vs e s
    by_cases q1 : op = 1
    · subst q1
      rw [stG, if_pos rfl] at h
      cases h
      rw [setS]
      cases e1 : exS vs e s with
      | error q => exact x2 _ _ e1
      | ok q =>
        have a1 := (x1 _ _ e1).1
        simp only
        obtain ⟨b1, b2⟩ := oneS_less (s := q.2)
        cases e2 : oneS q.2 with
        | error q => obtain ⟨c0, s0⟩ := q; obtain ⟨rfl, -, -⟩ := b2 _ _ e2; exact a1
        | ok s2 => have := a1.trans (b1 _ e2).1; exact ⟨by simp only [resS, List.length_set]; exact this.cl, this.left, this.out⟩
    by_cases q2 : op = 2
    · subst q2
      rw [stG, if_neg (by decide), if_pos rfl] at h
      cases h
      rw [putS]
      cases e1 : exS vs e s with
      | error q => exact x2 _ _ e1
      | ok q =>
        have a1 := (x1 _ _ e1).1
        simp only
        obtain ⟨y1, y2⟩ := exS_less vs f q.2
        cases e2 : exS vs f q.2 with
        | error q => exact a1.trans (y2 _ _ e2)
        | ok q' =>
          have a2 := a1.trans (y1 _ _ e2).1
          simp only
          obtain ⟨b1, b2⟩ := oneS_less (s := q'.2)
          cases e3 : oneS q'.2 with
          | error q => obtain ⟨c0, s0⟩ := q; obtain ⟨rfl, -, -⟩ := b2 _ _ e3; exact a2
          | ok s2 =>
            have := a2.trans (b1 _ e3).1
            simp only
            split
            · exact this
            · exact ⟨by simp only [resS, List.length_set]; exact this.cl, this.left, this.out⟩
    by_cases q3 : op = 3
    · subst q3
      rw [stG, if_neg (by decide), if_neg (by decide), if_pos rfl] at h
      cases h
      rw [printS]
      cases e1 : exS vs e s with
      | error q => exact x2 _ _ e1
      | ok q =>
        have a1 := (x1 _ _ e1).1
        simp only
        obtain ⟨b1, b2⟩ := oneS_less (s := q.2)
        cases e2 : oneS q.2 with
        | error q => obtain ⟨c0, s0⟩ := q; obtain ⟨rfl, -, -⟩ := b2 _ _ e2; exact a1
        | ok s2 =>
          obtain ⟨c1, c2, c3⟩ := b1 _ e2
          have := a1.trans c1
          have ho : s2.out = q.2.out := by rw [c3]
          have := a1.out
          refine ⟨this |> fun _ => (a1.trans c1).cl, (a1.trans c1).left, ?_⟩
          simp only [resS, List.length_append, List.length_singleton]
          rw [ho]; omega
    by_cases q4 : op = 4
    · subst q4
      rw [stG, if_neg (by decide), if_neg (by decide), if_neg (by decide), if_pos rfl] at h
      cases h
      rw [readS]
      obtain ⟨b1, b2⟩ := oneS_less (s := s)
      cases e2 : oneS s with
      | error q => obtain ⟨c0, s0⟩ := q; obtain ⟨rfl, -, -⟩ := b2 _ _ e2; exact Less.refl _
      | ok s2 =>
        have := (b1 _ e2).1
        simp only
        split
        · exact this
        · exact ⟨by simp only [resS, List.length_set]; exact this.cl, this.left, this.out⟩
    have hl := listG_less ih
    obtain ⟨i1, i2⟩ := isS_less vs e s
    by_cases q5 : op = 5
    · subst q5
      rw [stG_5] at h
      cases e1 : isS vs e s with
      | error q => rw [e1] at h; cases h; exact i2 _ _ e1
      | ok q =>
        obtain ⟨bb, s1⟩ := q
        have a1 := (i1 _ _ e1).1
        rw [e1] at h
        cases bb with
        | false => cases h; exact a1
        | true =>
          simp only at h
          cases e2 : listG (stG vs g) body s1 with
          | none => rw [e2] at h; cases h
          | some q =>
            rw [e2] at h
            have a2 := a1.trans (hl _ _ _ e2)
            cases q with
            | error q => cases h; exact a2
            | ok s2 =>
              simp only at h
              have a3 := ofOne a2
              cases e3 : oneS s2 with
              | error q => simp only [resS] at a3; rw [e3] at h a3; cases h; exact a3
              | ok s3 => simp only [resS] at a3; rw [e3] at h a3; exact a3.trans (ih _ _ _ h)
    by_cases q6 : op = 6
    · subst q6
      rw [stG_6] at h
      cases e1 : isS vs e s with
      | error q => rw [e1] at h; cases h; exact i2 _ _ e1
      | ok q =>
        obtain ⟨bb, s1⟩ := q
        have a1 := (i1 _ _ e1).1
        rw [e1] at h
        cases bb with
        | false => exact a1.trans (hl _ _ _ h)
        | true =>
          simp only at h
          cases e2 : listG (stG vs g) body s1 with
          | none => rw [e2] at h; cases h
          | some q =>
            rw [e2] at h
            have a2 := a1.trans (hl _ _ _ e2)
            cases q with
            | error q => cases h; exact a2
            | ok s2 => cases h; exact ofOne a2
    rw [stG, if_neg q1, if_neg q2, if_neg q3, if_neg q4, if_neg q5, if_neg q6] at h
    split at h
    · cases h; exact ofOne (Less.refl s)
    · cases h; exact Less.refl s
def StmtR (g : Nat) (σ : PH) (pr : Pr) (x : St) : Prop := ∀ (cs : List Value) (b : Nat) (pv : Option Addr) (cv : Nat) (bs : Value) (gc nc : Nat) (s : RS) (vi : Value) (po : Option Addr) (co : Nat) (r : RR),
  PrAt σ [.slice pv pr.vars.length cv, bs] pr → StAt σ cs x → StV pr.vars.length x → Fine pr.vars nc s → PInts σ vi s.inp → stG pr.vars g x s = some r →
  CallsA Try.prog 73 #[ptr b, .agg cs.toArray] σ [blk b [.slice pv pr.vars.length cv, bs, .slice (some ⟨gc, 0, none⟩) nc nc, vi, .slice po (s.out).length co, i64 s.left] 97, blk gc (ints (s.cells)) 2, lst 2 1 (.slice po (s.out).length co) (s.out).length (ints (s.out))] (EndS σ (fun s vi po co => [blk b [.slice pv pr.vars.length cv, bs, .slice (some ⟨gc, 0, none⟩) nc nc, vi, .slice po (s.out).length co, i64 s.left] 97, blk gc (ints (s.cells)) 2, lst 2 1 (.slice po (s.out).length co) (s.out).length (ints (s.out))]) r)
theorem list_r (g : Nat) (σ : PH) (pr : Pr) (l : List St) (ih : ∀ x ∈ l, StmtR g σ pr x) (sl : Value) (b : Nat) (pv : Option Addr) (cv : Nat) (bs : Value) (gc nc : Nat) (s : RS) (vi : Value) (po : Option Addr) (co : Nat) (r : RR)
    (hp : PrAt σ [.slice pv pr.vars.length cv, bs] pr) (hl : PSl 12 StAt σ sl l) (hsV : StsV pr.vars.length l) (hF : Fine pr.vars nc s) (hvi : PInts σ vi s.inp) (hr : listG (stG pr.vars g) l s = some r) :
    CallsA Try.prog 53 #[ptr b, sl] σ [blk b [.slice pv pr.vars.length cv, bs, .slice (some ⟨gc, 0, none⟩) nc nc, vi, .slice po (s.out).length co, i64 s.left] 97, blk gc (ints (s.cells)) 2, lst 2 1 (.slice po (s.out).length co) (s.out).length (ints (s.out))] (EndS σ (fun s vi po co => [blk b [.slice pv pr.vars.length cv, bs, .slice (some ⟨gc, 0, none⟩) nc nc, vi, .slice po (s.out).length co, i64 s.left] 97, blk gc (ints (s.cells)) 2, lst 2 1 (.slice po (s.out).length co) (s.out).length (ints (s.out))]) r) := by
  obtain ⟨pl, cl, rfl, hle, hmx⟩ := hl.shape
  simp only [maxLen] at hmx
  have hlen : l.length ≤ 9223372036854775807 := by omega
  refine enterA2 Try.func53 rfl rfl rfl ?_
  refine zS ?_; refine zR ?_; refine zO rfl Rd.mv ?_; refine zO rfl (Rd.lenSlice (tyrow rfl) rfl rfl) ?_; refine zO rfl Rd.mv ?_; refine zN ?_; refine zT ?_
  refine XA.block ?_
  refine XA.gen [(0, _), (6, _), (7, _), (8, _)] ⟨(by with_reducible (conv => lhs; whnf)), (by with_reducible (conv => lhs; whnf)), (by with_reducible (conv => lhs; whnf)), (by with_reducible (conv => lhs; whnf)), trivial⟩ (fun δ => ?_)
  dsimp only [List.foldl]
  refine XA.loop [(5, 5), (8, 15)] (fun i : Nat => [(8, i64 i)]) (fun i σ' Γ' => σ = σ' ∧ i ≤ l.length ∧ ∃ (s' : RS) (vi' : Value) (po' : Option Addr) (co' : Nat), listG (stG pr.vars g) (l.drop i) s' = some r ∧ Fine pr.vars nc s' ∧ PInts σ vi' s'.inp ∧ Γ' = [blk b [.slice pv pr.vars.length cv, bs, .slice (some ⟨gc, 0, none⟩) nc nc, vi', .slice po' (s'.out).length co', i64 s'.left] 97, blk gc (ints (s'.cells)) 2, lst 2 1 (.slice po' (s'.out).length co') (s'.out).length (ints (s'.out))]) (fun i => l.length - i) 0 (by exact ⟨rfl, trivial⟩) (Δ0 := _) ?_ (⟨rfl, Nat.zero_le _, s, vi, po, co, hr, hF, hvi, rfl⟩) ?_
  · exact zE
  rintro i δ _ _ ⟨rfl, hi, s', vi', po', co', hr', hF', hvi', rfl⟩
  dsimp only [ovr, List.foldl]
  refine zS ?_; refine zR ?_; refine zO rfl (Rd.lss rfl rfl) ?_; refine zN ?_; refine zT ?_; refine zS ?_
  refine XA.condp rfl (fun hlt => ?_) (fun hlt => ?_)
  · have hlt : i < l.length := by omega
    obtain ⟨x', hx'⟩ : ∃ x', l[i]? = some x' := ⟨_, List.getElem?_eq_getElem hlt⟩
    obtain ⟨gg, o, row, rfl, hrx, hrl, hrow⟩ := hl.at hx'
    have hmem := List.mem_of_getElem? hx'
    have hone := hrx.ones
    rw [drop_get hx', listG] at hr'
    cases e1 : stG pr.vars g x' s' with
    | none => rw [e1] at hr'; cases hr'
    | some q =>
      have hc := ih x' hmem row b pv cv bs gc nc s' vi' po' co' q hp hrx (hsV.mem x' hmem) hF' hvi' e1
      rw [e1] at hr'
      cases q with
      | error q =>
        obtain ⟨c0, s0⟩ := q
        cases hr'
        refine XA.skip ?_
        refine zT ?_; refine zS ?_
        refine XA.block ?_
        refine zS ?_; refine zR ?_
        refine zO rfl (Rd.ixS rfl rfl) ?_
        refine zO rfl (Rd.ldA rfl) ?_
        refine XOA.wr0 rfl (WrA.alloc (tyrow rfl)) ?_
        rintro _ _ _ ⟨g5, rfl, rfl, rfl⟩
        refine XOA.wr0 rfl (WrA.st (tyrow rfl) rfl) ?_
        rintro _ _ _ ⟨rfl, rfl, rfl⟩
        refine zN ?_; refine zT ?_; refine zR ?_; refine zO rfl Rd.mv ?_; refine zO rfl (Rd.ldA rfl) ?_
        refine XOA.die rfl (EndS.err hc) rfl ?_
        rintro _ _ _ ⟨rfl, rfl, vi2, po2, co2, hvi2, rfl⟩
        refine DA.cl ?_
        repeat (first | refine DA.thn_panic ?_ | refine DA.inb_panic ?_)
        exact bodyA.panic zE ⟨rfl, rfl, vi2, po2, co2, hvi2, rfl⟩
      | ok s1 =>
        have hF1 : Fine pr.vars nc s1 := hF'.less (stG_less _ _ _ _ _ e1)
        refine XA.skip ?_
        refine zT ?_; refine zS ?_
        refine XA.block ?_
        refine zS ?_; refine zR ?_
        refine zO rfl (Rd.ixS rfl rfl) ?_
        refine zO rfl (Rd.ldA rfl) ?_
        refine XOA.wr0 rfl (WrA.alloc (tyrow rfl)) ?_
        rintro _ _ _ ⟨g5, rfl, rfl, rfl⟩
        refine XOA.wr0 rfl (WrA.st (tyrow rfl) rfl) ?_
        rintro _ _ _ ⟨rfl, rfl, rfl⟩
        refine zN ?_; refine zT ?_; refine zR ?_; refine zO rfl Rd.mv ?_; refine zO rfl (Rd.ldA rfl) ?_
        refine XOA.wr0 rfl (WrA.cE (EndS.ok hc) rfl) ?_
        rintro _ _ _ ⟨_, ⟨rfl, rfl, vi2, po2, co2, hvi2, rfl⟩, rfl⟩
        refine XOA.cl ?_
        refine zN ?_
        refine DA.inb_normal ?_
        refine zT ?_; refine zR ?_
        refine zO rfl (by first | exact Rd.adi rfl rfl | exact Rd.add rfl rfl) ?_
        refine zO rfl Rd.mv ?_; refine zN ?_; refine zT ?_
        refine ⟨(Keep.upd (Keep.upd (Keep.updO (Keep.upd (Keep.upd (Keep.updN (Keep.updO (Keep.upd (Keep.upd (Keep.upd (Keep.upd (Keep.hav (Keep.hav (Keep.refl _ _) rfl) rfl) rfl) rfl) rfl) rfl) rfl)) rfl) rfl) rfl) rfl) rfl), i + 1, _, (by (repeat (first | exact trivial | refine ⟨rfl, ?_⟩ | refine ⟨Eq.trans rfl (congrArg Value.bool hmat.symm), ?_⟩)); (first | done | fail)), ?_, ⟨rfl, hlt, s1, vi2, po2, co2, hr', hF1, hvi2, rfl⟩, (by omega)⟩
        · exact zE
  have hil : i = l.length := by omega
  subst hil
  rw [List.drop_length] at hr'
  cases hr'
  refine XA.exit ?_
  refine DA.thn_exit ?_
  refine DA.thn_exit ?_
  refine DA.inb_same ?_
  exact bodyA.normal (ResA.none rfl) zE ⟨rfl, rfl, vi', po', co', hvi', rfl⟩
end Go.Proofs.Ytbbghdkndbpmmaa

namespace Go.Proofs.Ytbbghdkndbpmmaa
open Go X
set_option maxHeartbeats 2000000
theorem isF_left {vs : List Va} {cells : List Int} {x : Ex} {f : Nat} {b : Bool} {k : Nat} (h : isF vs cells x f = .ok (b, k)) : k ≤ f := by
  rw [isF] at h
  cases e : exRun vs cells x f with
  | error q => rw [e] at h; cases h
  | ok q =>
    obtain ⟨n, k0⟩ := q
    have := (exEnd vs cells x f).ok _ e
    rw [e] at h
    simp only at h this
    cases k0 with
    | zero => cases h
    | succ k0 => rw [oneF_s] at h; cases h; omega
theorem stmt_r (σ : PH) (pr : Pr) (h1 : ∀ x ∈ pr.vars, 1 ≤ x.size) (hz : ∀ x ∈ pr.vars, 0 ≤ x.size ∧ x.size ≤ 1000) (hvl : pr.vars.length ≤ 1000) : ∀ (g : Nat) (x : St), StmtR g σ pr x := by
  intro g
  induction g using Nat.strongRecOn with
  | _ g ih =>
  intro x
  obtain ⟨op, v, ex, fx, body, els⟩ := x
  intro cs b pv cv bs gc nc s vi po co r hp hx hV hF hvi hr
  obtain ⟨pe, de, pf, df, pb, cb, pl, cl, rfl, -, -, hxe, hxf, hxb, hxl⟩ := hx.inv12
  simp only [St.op, St.v, St.e, St.f, St.body, St.els] at hxe hxf hxb hxl ⊢
  clear hx
  rw [StV] at hV
  obtain ⟨hop, hv, he, hf, -, -, hsb, hse⟩ := hV
  cases g with
  | zero => cases hr
  | succ g =>
  obtain ⟨cells, inp, out, f⟩ := s
  obtain ⟨hcl, hsz, hleft, hout⟩ := hF
  simp only at hcl hsz hleft hout hvi ⊢
  by_cases q1 : op = 1
  · subst q1
    rw [stG, if_pos rfl] at hr
    have hv2 := hv rfl
    obtain ⟨vx, hvx, hsv, hc0, hc1, hc2⟩ := var_at h1 hv2
    have hE := expr_r σ pr h1 hz hvl ex _ b pv cv bs gc nc cells vi (.slice po out.length co) f hp hxe (he rfl).1 hcl hsz (by omega)
    have hx1 := exEnd pr.vars cells ex f
    cases e1 : exRun pr.vars cells ex f with
    | error q =>
      obtain ⟨c0, k⟩ := q
      rw [show setS pr.vars v ex ⟨cells, inp, out, f⟩ = .error (c0, ⟨cells, inp, out, k⟩) by simp [setS, exS, e1]] at hr
      cases hr
      refine enterA2 Try.func73 rfl rfl rfl ?_
      refine zS ?_; refine zR ?_
      refine XOA.wr0 rfl WrA.bx ?_
      rintro _ _ _ ⟨g3, rfl, rfl, rfl⟩
      refine zN ?_; refine zT ?_; refine zS ?_; refine zR ?_; refine zO rfl (Rd.fA rfl) ?_; refine zO rfl (Rd.ldC rfl (tyrow rfl) rfl) ?_; refine zN ?_; refine zT ?_
      refine XA.block ?_
      refine zS ?_; refine zR ?_; refine zO rfl (Rd.eql rfl rfl) ?_; refine zO rfl Rd.asg ?_; refine zN ?_; refine zT ?_
      refine XA.condT rfl rfl ?_
      refine zS ?_; refine zR ?_; refine zO rfl Rd.mv ?_; refine zO rfl (Rd.fA rfl) ?_; refine zO rfl (Rd.ldA rfl) ?_
      refine XOA.die rfl (hE.2 c0 k e1) rfl ?_
      rintro _ _ _ ⟨rfl, rfl, rfl⟩
      refine DA.cl ?_
      repeat (first | refine DA.thn_panic ?_ | refine DA.inb_panic ?_)
      exact bodyA.panic zE ⟨rfl, rfl, vi, po, co, hvi, rfl⟩
    | ok q =>
      obtain ⟨n, k⟩ := q
      have hk := hx1.ok _ e1
      simp only at hk
      cases k with
      | zero =>
        rw [show setS pr.vars v ex ⟨cells, inp, out, f⟩ = .error (13, ⟨cells, inp, out, 0⟩) by simp [setS, exS, e1, oneS]] at hr
        cases hr
        refine enterA2 Try.func73 rfl rfl rfl ?_
        refine zS ?_; refine zR ?_
        refine XOA.wr0 rfl WrA.bx ?_
        rintro _ _ _ ⟨g3, rfl, rfl, rfl⟩
        refine zN ?_; refine zT ?_; refine zS ?_; refine zR ?_; refine zO rfl (Rd.fA rfl) ?_; refine zO rfl (Rd.ldC rfl (tyrow rfl) rfl) ?_; refine zN ?_; refine zT ?_
        refine XA.block ?_
        refine zS ?_; refine zR ?_; refine zO rfl (Rd.eql rfl rfl) ?_; refine zO rfl Rd.asg ?_; refine zN ?_; refine zT ?_
        refine XA.condT rfl rfl ?_
        refine zS ?_; refine zR ?_; refine zO rfl Rd.mv ?_; refine zO rfl (Rd.fA rfl) ?_; refine zO rfl (Rd.ldA rfl) ?_
        refine XOA.wr0 rfl (WrA.cE (hE.1 n 0 e1) rfl) ?_
        rintro _ _ _ ⟨_, ⟨rfl, rfl, rfl⟩, rfl⟩
        refine XOA.cl ?_
        refine zO rfl Rd.asg ?_; refine zN ?_; refine zT ?_; refine zS ?_; refine zR ?_; refine zO rfl Rd.mv ?_
        refine XOA.die rfl (one_t σ b _ _ _ _ _) rfl ?_
        rintro _ _ _ ⟨rfl, rfl, rfl⟩
        refine DA.cl ?_
        repeat (first | refine DA.thn_panic ?_ | refine DA.inb_panic ?_)
        exact bodyA.panic zE ⟨rfl, rfl, vi, po, co, hvi, rfl⟩
      | succ k =>
        rw [show setS pr.vars v ex ⟨cells, inp, out, f⟩ = .ok ⟨cells.set (cellOf pr.vars v).toNat n, inp, out, k⟩ by simp [setS, exS, e1, oneS]] at hr
        cases hr
        have hfit : (cellOf pr.vars v + 0).toNat + ty2.size ≤ (ints cells).length := by rw [show (ints cells).length = nc by simp [ints, hcl]]; show _ + 1 ≤ _; omega
        have hspl : splice (ints cells) (cellOf pr.vars v + 0).toNat [i64 n] = ints (cells.set (cellOf pr.vars v).toNat n) := by rw [Int.add_zero]; exact ints_cell _ _ (by omega)
        refine enterA2 Try.func73 rfl rfl rfl ?_
        refine zS ?_; refine zR ?_
        refine XOA.wr0 rfl WrA.bx ?_
        rintro _ _ _ ⟨g3, rfl, rfl, rfl⟩
        refine zN ?_; refine zT ?_; refine zS ?_; refine zR ?_; refine zO rfl (Rd.fA rfl) ?_; refine zO rfl (Rd.ldC rfl (tyrow rfl) rfl) ?_; refine zN ?_; refine zT ?_
        refine XA.block ?_
        refine zS ?_; refine zR ?_; refine zO rfl (Rd.eql rfl rfl) ?_; refine zO rfl Rd.asg ?_; refine zN ?_; refine zT ?_
        refine XA.condT rfl rfl ?_
        refine zS ?_; refine zR ?_; refine zO rfl Rd.mv ?_; refine zO rfl (Rd.fA rfl) ?_; refine zO rfl (Rd.ldA rfl) ?_
        refine XOA.wr0 rfl (WrA.cE (hE.1 n (k + 1) e1) rfl) ?_
        rintro _ _ _ ⟨_, ⟨rfl, rfl, rfl⟩, rfl⟩
        refine XOA.cl ?_
        refine zO rfl Rd.asg ?_; refine zN ?_; refine zT ?_; refine zS ?_; refine zR ?_; refine zO rfl Rd.mv ?_
        refine XOA.wr0 rfl (WrA.cE (one_f σ b _ _ _ _ _ k (by omega)) rfl) ?_
        rintro _ _ _ ⟨_, ⟨rfl, rfl, rfl⟩, rfl⟩
        refine XOA.cl ?_
        refine zN ?_; refine zT ?_
        refine XA.draw (by kernel_rfl) _ _ [10] [(0, .pu), (1, .pu), (2, .pu), (3, .rd), (4, .pu), (5, .pu), (6, .rd), (8, .pu), (7, .wr), (9, .pu), (10, .wr)] (by kernel_rfl) (PH.sub.refl _) (Ent.sel (R := blk b _ _) (by ((repeat (first | with_reducible exact Sel.head | apply Sel.tail)); (first | done | fail))) (Ent.sel (R := blk g3 _ _) (by ((repeat (first | with_reducible exact Sel.head | apply Sel.tail)); (first | done | fail))) (Ent.nil _))) ?_
        refine XPA.pu rfl rfl Gd.free Rd.mv ?_
        refine XPA.pu rfl rfl Gd.free (Rd.nilCheck rfl) ?_
        refine XPA.pu rfl rfl Gd.free (Rd.fA rfl) ?_
        refine XPA.rd rfl rfl Gd.free (Rd.ldC rfl (tyrow rfl) rfl) ?_
        refine XPA.pu rfl rfl Gd.free Rd.mv ?_
        refine XPA.pu rfl rfl Gd.free (Rd.fA rfl) ?_
        refine XPA.rd rfl rfl Gd.free (Rd.ldC rfl (tyrow rfl) rfl) ?_
        refine XPA.pu rfl rfl Gd.free Rd.mv ?_
        refine XPA.wr0 rfl rfl Gd.free (WrA.cE (at_f σ b pr _ cv bs _ _ _ _ v 0 hp hz hvl hv2 (by decide) (by omega)) rfl) ?_
        rintro _ _ _ ⟨_, ⟨rfl, rfl, rfl⟩, rfl⟩
        refine stays (XPA.cl ?_)
        refine XPA.pu rfl rfl Gd.free (Rd.ixS rfl rfl) ?_
        refine XPA.wrZ0 rfl rfl Gd.free (by kernel_rfl) (WrA.st (tyrow rfl) rfl) ?_
        rintro _ _ _ ⟨rfl, rfl, rfl⟩
        refine XPA.nil ?_
        refine DA.inb_normal ?_
        exact bodyA.normal (ResA.none rfl) zE ⟨rfl, rfl, vi, po, co, hvi, rfl⟩
  by_cases q2 : op = 2
  · subst q2
    rw [stG, if_neg (by decide), if_pos rfl] at hr
    have hv2 := hv rfl
    obtain ⟨vx, hvx, hsv, hc0, hc1, hc2⟩ := var_at h1 hv2
    have hE := expr_r σ pr h1 hz hvl ex _ b pv cv bs gc nc cells vi (.slice po out.length co) f hp hxe (he rfl).1 hcl hsz (by omega)
    have hx1 := exEnd pr.vars cells ex f
    cases e1 : exRun pr.vars cells ex f with
    | error q =>
      obtain ⟨c0, k⟩ := q
      rw [show putS pr.vars v ex fx ⟨cells, inp, out, f⟩ = .error (c0, ⟨cells, inp, out, k⟩) by simp [putS, exS, e1]] at hr
      cases hr
      refine enterA2 Try.func73 rfl rfl rfl ?_
      refine zS ?_; refine zR ?_
      refine XOA.wr0 rfl WrA.bx ?_
      rintro _ _ _ ⟨g3, rfl, rfl, rfl⟩
      refine zN ?_; refine zT ?_; refine zS ?_; refine zR ?_; refine zO rfl (Rd.fA rfl) ?_; refine zO rfl (Rd.ldC rfl (tyrow rfl) rfl) ?_; refine zN ?_; refine zT ?_
      refine XA.block ?_
      refine zS ?_; refine zR ?_; refine zO rfl (Rd.eql rfl rfl) ?_; refine zO rfl Rd.asg ?_; refine zN ?_; refine zT ?_
      refine XA.condF rfl rfl ?_
      refine zS ?_; refine zR ?_; refine zO rfl (Rd.eql rfl rfl) ?_; refine zO rfl Rd.asg ?_; refine zN ?_; refine zT ?_
      refine XA.condT rfl rfl ?_
      refine zS ?_
      refine XA.draw (by kernel_rfl) _ _ [7] [(0, .pu), (1, .pu), (2, .rd), (4, .pu), (5, .pu), (6, .rd), (3, .wr), (7, .wr), (8, .pu), (9, .pu)] (by kernel_rfl) (PH.sub.refl _) (Ent.sel (R := blk g3 _ _) (by ((repeat (first | with_reducible exact Sel.head | apply Sel.tail)); (first | done | fail))) (Ent.nil _)) ?_
      refine XPA.pu rfl rfl Gd.free Rd.mv ?_
      refine XPA.pu rfl rfl Gd.free (Rd.fA rfl) ?_
      refine XPA.rd rfl rfl Gd.free (Rd.ldA rfl) ?_
      refine XPA.pu rfl rfl Gd.free Rd.mv ?_
      refine XPA.pu rfl rfl Gd.free (Rd.fA rfl) ?_
      refine XPA.rd rfl rfl Gd.free (Rd.ldA rfl) ?_
      refine XPA.die rfl rfl Gd.free (hE.2 c0 k e1) rfl ?_
      rintro _ _ _ ⟨rfl, rfl, rfl⟩
      refine DA.cl ?_
      repeat (first | refine DA.thn_panic ?_ | refine DA.inb_panic ?_)
      exact bodyA.panic zE ⟨rfl, rfl, vi, po, co, hvi, rfl⟩
    | ok q =>
      obtain ⟨a, k⟩ := q
      have hk := hx1.ok _ e1
      simp only at hk
      have hE2 := expr_r σ pr h1 hz hvl fx _ b pv cv bs gc nc cells vi (.slice po out.length co) k hp hxf (hf rfl).1 hcl hsz (by omega)
      have hx2 := exEnd pr.vars cells fx k
      cases e2 : exRun pr.vars cells fx k with
      | error q =>
        obtain ⟨c0, k2⟩ := q
        rw [show putS pr.vars v ex fx ⟨cells, inp, out, f⟩ = .error (c0, ⟨cells, inp, out, k2⟩) by simp [putS, exS, e1, e2]] at hr
        cases hr
        refine enterA2 Try.func73 rfl rfl rfl ?_
        refine zS ?_; refine zR ?_
        refine XOA.wr0 rfl WrA.bx ?_
        rintro _ _ _ ⟨g3, rfl, rfl, rfl⟩
        refine zN ?_; refine zT ?_; refine zS ?_; refine zR ?_; refine zO rfl (Rd.fA rfl) ?_; refine zO rfl (Rd.ldC rfl (tyrow rfl) rfl) ?_; refine zN ?_; refine zT ?_
        refine XA.block ?_
        refine zS ?_; refine zR ?_; refine zO rfl (Rd.eql rfl rfl) ?_; refine zO rfl Rd.asg ?_; refine zN ?_; refine zT ?_
        refine XA.condF rfl rfl ?_
        refine zS ?_; refine zR ?_; refine zO rfl (Rd.eql rfl rfl) ?_; refine zO rfl Rd.asg ?_; refine zN ?_; refine zT ?_
        refine XA.condT rfl rfl ?_
        refine zS ?_
        refine XA.draw (by kernel_rfl) _ _ [7] [(0, .pu), (1, .pu), (2, .rd), (4, .pu), (5, .pu), (6, .rd), (3, .wr), (7, .wr), (8, .pu), (9, .pu)] (by kernel_rfl) (PH.sub.refl _) (Ent.sel (R := blk g3 _ _) (by ((repeat (first | with_reducible exact Sel.head | apply Sel.tail)); (first | done | fail))) (Ent.nil _)) ?_
        refine XPA.pu rfl rfl Gd.free Rd.mv ?_
        refine XPA.pu rfl rfl Gd.free (Rd.fA rfl) ?_
        refine XPA.rd rfl rfl Gd.free (Rd.ldA rfl) ?_
        refine XPA.pu rfl rfl Gd.free Rd.mv ?_
        refine XPA.pu rfl rfl Gd.free (Rd.fA rfl) ?_
        refine XPA.rd rfl rfl Gd.free (Rd.ldA rfl) ?_
        refine XPA.wr0 rfl rfl Gd.free (WrA.cE (hE.1 a k e1) rfl) ?_
        rintro _ _ _ ⟨_, ⟨rfl, rfl, rfl⟩, rfl⟩
        refine stays (XPA.cl ?_)
        refine XPA.die rfl rfl Gd.free (hE2.2 c0 k2 e2) rfl ?_
        rintro _ _ _ ⟨rfl, rfl, rfl⟩
        refine DA.cl ?_
        repeat (first | refine DA.thn_panic ?_ | refine DA.inb_panic ?_)
        exact bodyA.panic zE ⟨rfl, rfl, vi, po, co, hvi, rfl⟩
      | ok q =>
        obtain ⟨n, k2⟩ := q
        have hk2 := hx2.ok _ e2
        simp only at hk2
        cases k2 with
        | zero =>
          rw [show putS pr.vars v ex fx ⟨cells, inp, out, f⟩ = .error (13, ⟨cells, inp, out, 0⟩) by simp [putS, exS, e1, e2, oneS]] at hr
          cases hr
          refine enterA2 Try.func73 rfl rfl rfl ?_
          refine zS ?_; refine zR ?_
          refine XOA.wr0 rfl WrA.bx ?_
          rintro _ _ _ ⟨g3, rfl, rfl, rfl⟩
          refine zN ?_; refine zT ?_; refine zS ?_; refine zR ?_; refine zO rfl (Rd.fA rfl) ?_; refine zO rfl (Rd.ldC rfl (tyrow rfl) rfl) ?_; refine zN ?_; refine zT ?_
          refine XA.block ?_
          refine zS ?_; refine zR ?_; refine zO rfl (Rd.eql rfl rfl) ?_; refine zO rfl Rd.asg ?_; refine zN ?_; refine zT ?_
          refine XA.condF rfl rfl ?_
          refine zS ?_; refine zR ?_; refine zO rfl (Rd.eql rfl rfl) ?_; refine zO rfl Rd.asg ?_; refine zN ?_; refine zT ?_
          refine XA.condT rfl rfl ?_
          refine zS ?_
          refine XA.draw (by kernel_rfl) _ _ [7] [(0, .pu), (1, .pu), (2, .rd), (4, .pu), (5, .pu), (6, .rd), (3, .wr), (7, .wr), (8, .pu), (9, .pu)] (by kernel_rfl) (PH.sub.refl _) (Ent.sel (R := blk g3 _ _) (by ((repeat (first | with_reducible exact Sel.head | apply Sel.tail)); (first | done | fail))) (Ent.nil _)) ?_
          refine XPA.pu rfl rfl Gd.free Rd.mv ?_
          refine XPA.pu rfl rfl Gd.free (Rd.fA rfl) ?_
          refine XPA.rd rfl rfl Gd.free (Rd.ldA rfl) ?_
          refine XPA.pu rfl rfl Gd.free Rd.mv ?_
          refine XPA.pu rfl rfl Gd.free (Rd.fA rfl) ?_
          refine XPA.rd rfl rfl Gd.free (Rd.ldA rfl) ?_
          refine XPA.wr0 rfl rfl Gd.free (WrA.cE (hE.1 a k e1) rfl) ?_
          rintro _ _ _ ⟨_, ⟨rfl, rfl, rfl⟩, rfl⟩
          refine stays (XPA.cl ?_)
          refine XPA.wrZ0 rfl rfl Gd.free (by kernel_rfl) (WrA.cE (hE2.1 n 0 e2) rfl) ?_
          rintro _ _ _ ⟨_, ⟨rfl, rfl, rfl⟩, rfl⟩
          refine XPA.cl ?_
          refine XPA.pu rfl rfl Gd.free Rd.asg ?_
          refine XPA.pu rfl rfl Gd.free Rd.asg ?_
          refine XPA.nil ?_
          refine zT ?_; refine zS ?_; refine zR ?_; refine zO rfl Rd.mv ?_
          refine XOA.die rfl (one_t σ b _ _ _ _ _) rfl ?_
          rintro _ _ _ ⟨rfl, rfl, rfl⟩
          refine DA.cl ?_
          repeat (first | refine DA.thn_panic ?_ | refine DA.inb_panic ?_)
          exact bodyA.panic zE ⟨rfl, rfl, vi, po, co, hvi, rfl⟩
        | succ k2 =>
          by_cases hka : a < 0 ∨ sizeV pr.vars v ≤ a
          · rw [show putS pr.vars v ex fx ⟨cells, inp, out, f⟩ = .error (11, ⟨cells, inp, out, k2⟩) by simp [putS, exS, e1, e2, oneS, hka]] at hr
            cases hr
            refine enterA2 Try.func73 rfl rfl rfl ?_
            refine zS ?_; refine zR ?_
            refine XOA.wr0 rfl WrA.bx ?_
            rintro _ _ _ ⟨g3, rfl, rfl, rfl⟩
            refine zN ?_; refine zT ?_; refine zS ?_; refine zR ?_; refine zO rfl (Rd.fA rfl) ?_; refine zO rfl (Rd.ldC rfl (tyrow rfl) rfl) ?_; refine zN ?_; refine zT ?_
            refine XA.block ?_
            refine zS ?_; refine zR ?_; refine zO rfl (Rd.eql rfl rfl) ?_; refine zO rfl Rd.asg ?_; refine zN ?_; refine zT ?_
            refine XA.condF rfl rfl ?_
            refine zS ?_; refine zR ?_; refine zO rfl (Rd.eql rfl rfl) ?_; refine zO rfl Rd.asg ?_; refine zN ?_; refine zT ?_
            refine XA.condT rfl rfl ?_
            refine zS ?_
            refine XA.draw (by kernel_rfl) _ _ [7] [(0, .pu), (1, .pu), (2, .rd), (4, .pu), (5, .pu), (6, .rd), (3, .wr), (7, .wr), (8, .pu), (9, .pu)] (by kernel_rfl) (PH.sub.refl _) (Ent.sel (R := blk g3 _ _) (by ((repeat (first | with_reducible exact Sel.head | apply Sel.tail)); (first | done | fail))) (Ent.nil _)) ?_
            refine XPA.pu rfl rfl Gd.free Rd.mv ?_
            refine XPA.pu rfl rfl Gd.free (Rd.fA rfl) ?_
            refine XPA.rd rfl rfl Gd.free (Rd.ldA rfl) ?_
            refine XPA.pu rfl rfl Gd.free Rd.mv ?_
            refine XPA.pu rfl rfl Gd.free (Rd.fA rfl) ?_
            refine XPA.rd rfl rfl Gd.free (Rd.ldA rfl) ?_
            refine XPA.wr0 rfl rfl Gd.free (WrA.cE (hE.1 a k e1) rfl) ?_
            rintro _ _ _ ⟨_, ⟨rfl, rfl, rfl⟩, rfl⟩
            refine stays (XPA.cl ?_)
            refine XPA.wrZ0 rfl rfl Gd.free (by kernel_rfl) (WrA.cE (hE2.1 n (k2 + 1) e2) rfl) ?_
            rintro _ _ _ ⟨_, ⟨rfl, rfl, rfl⟩, rfl⟩
            refine XPA.cl ?_
            refine XPA.pu rfl rfl Gd.free Rd.asg ?_
            refine XPA.pu rfl rfl Gd.free Rd.asg ?_
            refine XPA.nil ?_
            refine zT ?_; refine zS ?_; refine zR ?_; refine zO rfl Rd.mv ?_
            refine XOA.wr0 rfl (WrA.cE (one_f σ b _ _ _ _ _ k2 (by omega)) rfl) ?_
            rintro _ _ _ ⟨_, ⟨rfl, rfl, rfl⟩, rfl⟩
            refine XOA.cl ?_
            refine zN ?_; refine zT ?_
            refine XA.draw (by kernel_rfl) _ _ [11] [(0, .pu), (1, .pu), (2, .pu), (3, .rd), (4, .pu), (5, .pu), (6, .rd), (7, .pu), (9, .pu), (8, .wr), (10, .pu), (11, .wr)] (by kernel_rfl) (PH.sub.refl _) (Ent.sel (R := blk b _ _) (by ((repeat (first | with_reducible exact Sel.head | apply Sel.tail)); (first | done | fail))) (Ent.sel (R := blk g3 _ _) (by ((repeat (first | with_reducible exact Sel.head | apply Sel.tail)); (first | done | fail))) (Ent.nil _))) ?_
            refine XPA.pu rfl rfl Gd.free Rd.mv ?_
            refine XPA.pu rfl rfl Gd.free (Rd.nilCheck rfl) ?_
            refine XPA.pu rfl rfl Gd.free (Rd.fA rfl) ?_
            refine XPA.rd rfl rfl Gd.free (Rd.ldC rfl (tyrow rfl) rfl) ?_
            refine XPA.pu rfl rfl Gd.free Rd.mv ?_
            refine XPA.pu rfl rfl Gd.free (Rd.fA rfl) ?_
            refine XPA.rd rfl rfl Gd.free (Rd.ldC rfl (tyrow rfl) rfl) ?_
            refine XPA.pu rfl rfl Gd.free Rd.mv ?_
            refine XPA.pu rfl rfl Gd.free Rd.mv ?_
            refine XPA.die rfl rfl Gd.free (at_t σ b pr _ cv bs _ _ _ _ v a hp hz hvl hv2 hka) rfl ?_
            rintro _ _ _ ⟨rfl, rfl, rfl⟩
            refine DA.cl ?_
            repeat (first | refine DA.thn_panic ?_ | refine DA.inb_panic ?_)
            exact bodyA.panic zE ⟨rfl, rfl, vi, po, co, hvi, rfl⟩
          · have hk0 : 0 ≤ a := by omega
            have hk1 : a < sizeV pr.vars v := by omega
            rw [show putS pr.vars v ex fx ⟨cells, inp, out, f⟩ = .ok ⟨cells.set (cellOf pr.vars v + a).toNat n, inp, out, k2⟩ by simp [putS, exS, e1, e2, oneS, hka]] at hr
            cases hr
            have hfit : (cellOf pr.vars v + a).toNat + ty2.size ≤ (ints cells).length := by rw [show (ints cells).length = nc by simp [ints, hcl]]; show _ + 1 ≤ _; omega
            have hspl : splice (ints cells) (cellOf pr.vars v + a).toNat [i64 n] = ints (cells.set (cellOf pr.vars v + a).toNat n) := ints_cell _ _ (by omega)
            refine enterA2 Try.func73 rfl rfl rfl ?_
            refine zS ?_; refine zR ?_
            refine XOA.wr0 rfl WrA.bx ?_
            rintro _ _ _ ⟨g3, rfl, rfl, rfl⟩
            refine zN ?_; refine zT ?_; refine zS ?_; refine zR ?_; refine zO rfl (Rd.fA rfl) ?_; refine zO rfl (Rd.ldC rfl (tyrow rfl) rfl) ?_; refine zN ?_; refine zT ?_
            refine XA.block ?_
            refine zS ?_; refine zR ?_; refine zO rfl (Rd.eql rfl rfl) ?_; refine zO rfl Rd.asg ?_; refine zN ?_; refine zT ?_
            refine XA.condF rfl rfl ?_
            refine zS ?_; refine zR ?_; refine zO rfl (Rd.eql rfl rfl) ?_; refine zO rfl Rd.asg ?_; refine zN ?_; refine zT ?_
            refine XA.condT rfl rfl ?_
            refine zS ?_
            refine XA.draw (by kernel_rfl) _ _ [7] [(0, .pu), (1, .pu), (2, .rd), (4, .pu), (5, .pu), (6, .rd), (3, .wr), (7, .wr), (8, .pu), (9, .pu)] (by kernel_rfl) (PH.sub.refl _) (Ent.sel (R := blk g3 _ _) (by ((repeat (first | with_reducible exact Sel.head | apply Sel.tail)); (first | done | fail))) (Ent.nil _)) ?_
            refine XPA.pu rfl rfl Gd.free Rd.mv ?_
            refine XPA.pu rfl rfl Gd.free (Rd.fA rfl) ?_
            refine XPA.rd rfl rfl Gd.free (Rd.ldA rfl) ?_
            refine XPA.pu rfl rfl Gd.free Rd.mv ?_
            refine XPA.pu rfl rfl Gd.free (Rd.fA rfl) ?_
            refine XPA.rd rfl rfl Gd.free (Rd.ldA rfl) ?_
            refine XPA.wr0 rfl rfl Gd.free (WrA.cE (hE.1 a k e1) rfl) ?_
            rintro _ _ _ ⟨_, ⟨rfl, rfl, rfl⟩, rfl⟩
            refine stays (XPA.cl ?_)
            refine XPA.wrZ0 rfl rfl Gd.free (by kernel_rfl) (WrA.cE (hE2.1 n (k2 + 1) e2) rfl) ?_
            rintro _ _ _ ⟨_, ⟨rfl, rfl, rfl⟩, rfl⟩
            refine XPA.cl ?_
            refine XPA.pu rfl rfl Gd.free Rd.asg ?_
            refine XPA.pu rfl rfl Gd.free Rd.asg ?_
            refine XPA.nil ?_
            refine zT ?_; refine zS ?_; refine zR ?_; refine zO rfl Rd.mv ?_
            refine XOA.wr0 rfl (WrA.cE (one_f σ b _ _ _ _ _ k2 (by omega)) rfl) ?_
            rintro _ _ _ ⟨_, ⟨rfl, rfl, rfl⟩, rfl⟩
            refine XOA.cl ?_
            refine zN ?_; refine zT ?_
            refine XA.draw (by kernel_rfl) _ _ [11] [(0, .pu), (1, .pu), (2, .pu), (3, .rd), (4, .pu), (5, .pu), (6, .rd), (7, .pu), (9, .pu), (8, .wr), (10, .pu), (11, .wr)] (by kernel_rfl) (PH.sub.refl _) (Ent.sel (R := blk b _ _) (by ((repeat (first | with_reducible exact Sel.head | apply Sel.tail)); (first | done | fail))) (Ent.sel (R := blk g3 _ _) (by ((repeat (first | with_reducible exact Sel.head | apply Sel.tail)); (first | done | fail))) (Ent.nil _))) ?_
            refine XPA.pu rfl rfl Gd.free Rd.mv ?_
            refine XPA.pu rfl rfl Gd.free (Rd.nilCheck rfl) ?_
            refine XPA.pu rfl rfl Gd.free (Rd.fA rfl) ?_
            refine XPA.rd rfl rfl Gd.free (Rd.ldC rfl (tyrow rfl) rfl) ?_
            refine XPA.pu rfl rfl Gd.free Rd.mv ?_
            refine XPA.pu rfl rfl Gd.free (Rd.fA rfl) ?_
            refine XPA.rd rfl rfl Gd.free (Rd.ldC rfl (tyrow rfl) rfl) ?_
            refine XPA.pu rfl rfl Gd.free Rd.mv ?_
            refine XPA.pu rfl rfl Gd.free Rd.mv ?_
            refine XPA.wr0 rfl rfl Gd.free (WrA.cE (at_f σ b pr _ cv bs _ _ _ _ v a hp hz hvl hv2 hk0 hk1) rfl) ?_
            rintro _ _ _ ⟨_, ⟨rfl, rfl, rfl⟩, rfl⟩
            refine stays (XPA.cl ?_)
            refine XPA.pu rfl rfl Gd.free (Rd.ixS rfl rfl) ?_
            refine XPA.wrZ0 rfl rfl Gd.free (by kernel_rfl) (WrA.st (tyrow rfl) rfl) ?_
            rintro _ _ _ ⟨rfl, rfl, rfl⟩
            refine XPA.nil ?_
            refine DA.inb_normal ?_
            exact bodyA.normal (ResA.none rfl) zE ⟨rfl, rfl, vi, po, co, hvi, rfl⟩
  by_cases q3 : op = 3
  · subst q3
    rw [stG, if_neg (by decide), if_neg (by decide), if_pos rfl] at hr
    have hE := expr_r σ pr h1 hz hvl ex _ b pv cv bs gc nc cells vi (.slice po out.length co) f hp hxe (he rfl).1 hcl hsz (by omega)
    have hx1 := exEnd pr.vars cells ex f
    cases e1 : exRun pr.vars cells ex f with
    | error q =>
      obtain ⟨c0, k⟩ := q
      rw [show printS pr.vars ex ⟨cells, inp, out, f⟩ = .error (c0, ⟨cells, inp, out, k⟩) by simp [printS, exS, e1]] at hr
      cases hr
      refine enterA2 Try.func73 rfl rfl rfl ?_
      refine zS ?_; refine zR ?_
      refine XOA.wr0 rfl WrA.bx ?_
      rintro _ _ _ ⟨g3, rfl, rfl, rfl⟩
      refine zN ?_; refine zT ?_; refine zS ?_; refine zR ?_; refine zO rfl (Rd.fA rfl) ?_; refine zO rfl (Rd.ldC rfl (tyrow rfl) rfl) ?_; refine zN ?_; refine zT ?_
      refine XA.block ?_
      refine zS ?_; refine zR ?_; refine zO rfl (Rd.eql rfl rfl) ?_; refine zO rfl Rd.asg ?_; refine zN ?_; refine zT ?_
      refine XA.condF rfl rfl ?_
      refine zS ?_; refine zR ?_; refine zO rfl (Rd.eql rfl rfl) ?_; refine zO rfl Rd.asg ?_; refine zN ?_; refine zT ?_
      refine XA.condF rfl rfl ?_
      refine zS ?_; refine zR ?_; refine zO rfl (Rd.eql rfl rfl) ?_; refine zO rfl Rd.asg ?_; refine zN ?_; refine zT ?_
      refine XA.condT rfl rfl ?_
      refine zS ?_; refine zR ?_; refine zO rfl Rd.mv ?_; refine zO rfl (Rd.fA rfl) ?_; refine zO rfl (Rd.ldA rfl) ?_
      refine XOA.die rfl (hE.2 c0 k e1) rfl ?_
      rintro _ _ _ ⟨rfl, rfl, rfl⟩
      refine DA.cl ?_
      repeat (first | refine DA.thn_panic ?_ | refine DA.inb_panic ?_)
      exact bodyA.panic zE ⟨rfl, rfl, vi, po, co, hvi, rfl⟩
    | ok q =>
      obtain ⟨n, k⟩ := q
      have hk := hx1.ok _ e1
      simp only at hk
      cases k with
      | zero =>
        rw [show printS pr.vars ex ⟨cells, inp, out, f⟩ = .error (13, ⟨cells, inp, out, 0⟩) by simp [printS, exS, e1, oneS]] at hr
        cases hr
        refine enterA2 Try.func73 rfl rfl rfl ?_
        refine zS ?_; refine zR ?_
        refine XOA.wr0 rfl WrA.bx ?_
        rintro _ _ _ ⟨g3, rfl, rfl, rfl⟩
        refine zN ?_; refine zT ?_; refine zS ?_; refine zR ?_; refine zO rfl (Rd.fA rfl) ?_; refine zO rfl (Rd.ldC rfl (tyrow rfl) rfl) ?_; refine zN ?_; refine zT ?_
        refine XA.block ?_
        refine zS ?_; refine zR ?_; refine zO rfl (Rd.eql rfl rfl) ?_; refine zO rfl Rd.asg ?_; refine zN ?_; refine zT ?_
        refine XA.condF rfl rfl ?_
        refine zS ?_; refine zR ?_; refine zO rfl (Rd.eql rfl rfl) ?_; refine zO rfl Rd.asg ?_; refine zN ?_; refine zT ?_
        refine XA.condF rfl rfl ?_
        refine zS ?_; refine zR ?_; refine zO rfl (Rd.eql rfl rfl) ?_; refine zO rfl Rd.asg ?_; refine zN ?_; refine zT ?_
        refine XA.condT rfl rfl ?_
        refine zS ?_; refine zR ?_; refine zO rfl Rd.mv ?_; refine zO rfl (Rd.fA rfl) ?_; refine zO rfl (Rd.ldA rfl) ?_
        refine XOA.wr0 rfl (WrA.cE (hE.1 n 0 e1) rfl) ?_
        rintro _ _ _ ⟨_, ⟨rfl, rfl, rfl⟩, rfl⟩
        refine XOA.cl ?_
        refine zO rfl Rd.asg ?_; refine zN ?_; refine zT ?_; refine zS ?_; refine zR ?_; refine zO rfl Rd.mv ?_
        refine XOA.die rfl (one_t σ b _ _ _ _ _) rfl ?_
        rintro _ _ _ ⟨rfl, rfl, rfl⟩
        refine DA.cl ?_
        repeat (first | refine DA.thn_panic ?_ | refine DA.inb_panic ?_)
        exact bodyA.panic zE ⟨rfl, rfl, vi, po, co, hvi, rfl⟩
      | succ k =>
        rw [show printS pr.vars ex ⟨cells, inp, out, f⟩ = .ok ⟨cells, inp, out ++ [n], k⟩ by simp [printS, exS, e1, oneS]] at hr
        cases hr
        have ho2 : ints (out ++ [n]) = ints out ++ [i64 n] := by simp [ints]
        have hol : (out ++ [n]).length = out.length + 1 := by simp
        refine enterA2 Try.func73 rfl rfl rfl ?_
        refine zS ?_; refine zR ?_
        refine XOA.wr0 rfl WrA.bx ?_
        rintro _ _ _ ⟨g3, rfl, rfl, rfl⟩
        refine zN ?_; refine zT ?_; refine zS ?_; refine zR ?_; refine zO rfl (Rd.fA rfl) ?_; refine zO rfl (Rd.ldC rfl (tyrow rfl) rfl) ?_; refine zN ?_; refine zT ?_
        refine XA.block ?_
        refine zS ?_; refine zR ?_; refine zO rfl (Rd.eql rfl rfl) ?_; refine zO rfl Rd.asg ?_; refine zN ?_; refine zT ?_
        refine XA.condF rfl rfl ?_
        refine zS ?_; refine zR ?_; refine zO rfl (Rd.eql rfl rfl) ?_; refine zO rfl Rd.asg ?_; refine zN ?_; refine zT ?_
        refine XA.condF rfl rfl ?_
        refine zS ?_; refine zR ?_; refine zO rfl (Rd.eql rfl rfl) ?_; refine zO rfl Rd.asg ?_; refine zN ?_; refine zT ?_
        refine XA.condT rfl rfl ?_
        refine zS ?_; refine zR ?_; refine zO rfl Rd.mv ?_; refine zO rfl (Rd.fA rfl) ?_; refine zO rfl (Rd.ldA rfl) ?_
        refine XOA.wr0 rfl (WrA.cE (hE.1 n (k + 1) e1) rfl) ?_
        rintro _ _ _ ⟨_, ⟨rfl, rfl, rfl⟩, rfl⟩
        refine XOA.cl ?_
        refine zO rfl Rd.asg ?_; refine zN ?_; refine zT ?_; refine zS ?_; refine zR ?_; refine zO rfl Rd.mv ?_
        refine XOA.wr0 rfl (WrA.cE (one_f σ b _ _ _ _ _ k (by omega)) rfl) ?_
        rintro _ _ _ ⟨_, ⟨rfl, rfl, rfl⟩, rfl⟩
        refine XOA.cl ?_
        refine zN ?_; refine zT ?_; refine zR ?_; refine zO rfl Rd.mv ?_; refine zO rfl Rd.mv ?_; refine zO rfl (Rd.nilCheck rfl) ?_; refine zO rfl (Rd.fA rfl) ?_; refine zO rfl (Rd.ldC rfl (tyrow rfl) rfl) ?_; refine zO rfl Rd.mv ?_
        refine XOA.wr0 rfl (WrA.bs1 (tyrow rfl) rfl (tyrow rfl)) ?_
        rintro _ _ _ ⟨g65, rfl, rfl, rfl⟩
        refine XOA.wr0 rfl (WrA.ap1 (tyrow rfl) rfl (tyrow rfl) rfl rfl rfl) ?_
        rintro _ _ _ ⟨p66, c66, rfl, rfl, rfl⟩
        refine zO rfl (Rd.nilCheck rfl) ?_; refine zO rfl (Rd.fA rfl) ?_
        refine XOA.wr0 rfl (WrA.st (tyrow rfl) rfl) ?_
        rintro _ _ _ ⟨rfl, rfl, rfl⟩
        refine zN ?_
        refine DA.inb_normal ?_
        refine bodyA.normal (Γ' := [blk b [.slice pv pr.vars.length cv, bs, .slice (some ⟨gc, 0, none⟩) nc nc, vi, .slice p66 (out ++ [n]).length c66, i64 k] 97, blk gc (ints (cells)) 2, lst 2 1 (.slice p66 (out ++ [n]).length c66) (out ++ [n]).length (ints (out ++ [n]))]) (ResA.none rfl) ?_ ⟨rfl, rfl, vi, p66, c66, hvi, rfl⟩
        rw [ho2, hol]
        exact zE
  by_cases q4 : op = 4
  · subst q4
    rw [stG, if_neg (by decide), if_neg (by decide), if_neg (by decide), if_pos rfl] at hr
    have hv2 := hv rfl
    obtain ⟨vx, hvx, hsv, hc0, hc1, hc2⟩ := var_at h1 hv2
    cases f with
    | zero =>
      rw [show readS pr.vars v ⟨cells, inp, out, 0⟩ = .error (13, ⟨cells, inp, out, 0⟩) by simp [readS, oneS]] at hr
      cases hr
      refine enterA2 Try.func73 rfl rfl rfl ?_
      refine zS ?_; refine zR ?_
      refine XOA.wr0 rfl WrA.bx ?_
      rintro _ _ _ ⟨g3, rfl, rfl, rfl⟩
      refine zN ?_; refine zT ?_; refine zS ?_; refine zR ?_; refine zO rfl (Rd.fA rfl) ?_; refine zO rfl (Rd.ldC rfl (tyrow rfl) rfl) ?_; refine zN ?_; refine zT ?_
      refine XA.block ?_
      refine zS ?_; refine zR ?_; refine zO rfl (Rd.eql rfl rfl) ?_; refine zO rfl Rd.asg ?_; refine zN ?_; refine zT ?_
      refine XA.condF rfl rfl ?_
      refine zS ?_; refine zR ?_; refine zO rfl (Rd.eql rfl rfl) ?_; refine zO rfl Rd.asg ?_; refine zN ?_; refine zT ?_
      refine XA.condF rfl rfl ?_
      refine zS ?_; refine zR ?_; refine zO rfl (Rd.eql rfl rfl) ?_; refine zO rfl Rd.asg ?_; refine zN ?_; refine zT ?_
      refine XA.condF rfl rfl ?_
      refine zS ?_; refine zR ?_; refine zO rfl (Rd.eql rfl rfl) ?_; refine zO rfl Rd.asg ?_; refine zN ?_; refine zT ?_
      refine XA.condT rfl rfl ?_
      refine zS ?_; refine zR ?_; refine zO rfl Rd.mv ?_
      refine XOA.die rfl (one_t σ b _ _ _ _ _) rfl ?_
      rintro _ _ _ ⟨rfl, rfl, rfl⟩
      refine DA.cl ?_
      repeat (first | refine DA.thn_panic ?_ | refine DA.inb_panic ?_)
      exact bodyA.panic zE ⟨rfl, rfl, vi, po, co, hvi, rfl⟩
    | succ k =>
      obtain ⟨pi, ci, rfl, hil, him⟩ := hvi.shape
      simp only [maxLen] at him
      cases inp with
      | nil =>
        rw [show readS pr.vars v ⟨cells, [], out, k + 1⟩ = .error (12, ⟨cells, [], out, k⟩) by simp [readS, oneS]] at hr
        cases hr
        refine enterA2 Try.func73 rfl rfl rfl ?_
        refine zS ?_; refine zR ?_
        refine XOA.wr0 rfl WrA.bx ?_
        rintro _ _ _ ⟨g3, rfl, rfl, rfl⟩
        refine zN ?_; refine zT ?_; refine zS ?_; refine zR ?_; refine zO rfl (Rd.fA rfl) ?_; refine zO rfl (Rd.ldC rfl (tyrow rfl) rfl) ?_; refine zN ?_; refine zT ?_
        refine XA.block ?_
        refine zS ?_; refine zR ?_; refine zO rfl (Rd.eql rfl rfl) ?_; refine zO rfl Rd.asg ?_; refine zN ?_; refine zT ?_
        refine XA.condF rfl rfl ?_
        refine zS ?_; refine zR ?_; refine zO rfl (Rd.eql rfl rfl) ?_; refine zO rfl Rd.asg ?_; refine zN ?_; refine zT ?_
        refine XA.condF rfl rfl ?_
        refine zS ?_; refine zR ?_; refine zO rfl (Rd.eql rfl rfl) ?_; refine zO rfl Rd.asg ?_; refine zN ?_; refine zT ?_
        refine XA.condF rfl rfl ?_
        refine zS ?_; refine zR ?_; refine zO rfl (Rd.eql rfl rfl) ?_; refine zO rfl Rd.asg ?_; refine zN ?_; refine zT ?_
        refine XA.condT rfl rfl ?_
        refine zS ?_; refine zR ?_; refine zO rfl Rd.mv ?_
        refine XOA.wr0 rfl (WrA.cE (one_f σ b _ _ _ _ _ k (by omega)) rfl) ?_
        rintro _ _ _ ⟨_, ⟨rfl, rfl, rfl⟩, rfl⟩
        refine XOA.cl ?_
        refine zN ?_; refine zT ?_; refine zS ?_; refine zR ?_; refine zO rfl Rd.mv ?_; refine zO rfl (Rd.nilCheck rfl) ?_; refine zO rfl (Rd.fA rfl) ?_; refine zO rfl (Rd.ldC rfl (tyrow rfl) rfl) ?_; refine zO rfl (Rd.lenSlice (tyrow rfl) rfl rfl) ?_; refine zO rfl (Rd.eql rfl rfl) ?_
        refine XOA.die rfl (fail_t σ _ 12 (decide_eq_true rfl)) rfl ?_
        rintro _ _ _ ⟨rfl, rfl, rfl⟩
        refine DA.cl ?_
        repeat (first | refine DA.thn_panic ?_ | refine DA.inb_panic ?_)
        exact bodyA.panic zE ⟨rfl, rfl, _, po, co, hvi, rfl⟩
      | cons n rest =>
        rw [show readS pr.vars v ⟨cells, n :: rest, out, k + 1⟩ = .ok ⟨cells.set (cellOf pr.vars v).toNat n, rest, out, k⟩ by simp [readS, oneS]] at hr
        cases hr
        have hvi2 := hvi.tail
        obtain ⟨gi, oi, rfl, hri⟩ := hvi.at (show (n :: rest)[0]? = some n from rfl)
        have hri0 : PRow σ gi oi [i64 n] := by simpa using hri
        simp only [List.length_cons] at hil him hvi hvi2 ⊢
        have hfit : (cellOf pr.vars v + 0).toNat + ty2.size ≤ (ints cells).length := by rw [show (ints cells).length = nc by simp [ints, hcl]]; show _ + 1 ≤ _; omega
        have hspl : splice (ints cells) (cellOf pr.vars v + 0).toNat [i64 n] = ints (cells.set (cellOf pr.vars v).toNat n) := by rw [Int.add_zero]; exact ints_cell _ _ (by omega)
        refine enterA2 Try.func73 rfl rfl rfl ?_
        refine zS ?_; refine zR ?_
        refine XOA.wr0 rfl WrA.bx ?_
        rintro _ _ _ ⟨g3, rfl, rfl, rfl⟩
        refine zN ?_; refine zT ?_; refine zS ?_; refine zR ?_; refine zO rfl (Rd.fA rfl) ?_; refine zO rfl (Rd.ldC rfl (tyrow rfl) rfl) ?_; refine zN ?_; refine zT ?_
        refine XA.block ?_
        refine zS ?_; refine zR ?_; refine zO rfl (Rd.eql rfl rfl) ?_; refine zO rfl Rd.asg ?_; refine zN ?_; refine zT ?_
        refine XA.condF rfl rfl ?_
        refine zS ?_; refine zR ?_; refine zO rfl (Rd.eql rfl rfl) ?_; refine zO rfl Rd.asg ?_; refine zN ?_; refine zT ?_
        refine XA.condF rfl rfl ?_
        refine zS ?_; refine zR ?_; refine zO rfl (Rd.eql rfl rfl) ?_; refine zO rfl Rd.asg ?_; refine zN ?_; refine zT ?_
        refine XA.condF rfl rfl ?_
        refine zS ?_; refine zR ?_; refine zO rfl (Rd.eql rfl rfl) ?_; refine zO rfl Rd.asg ?_; refine zN ?_; refine zT ?_
        refine XA.condT rfl rfl ?_
        refine zS ?_; refine zR ?_; refine zO rfl Rd.mv ?_
        refine XOA.wr0 rfl (WrA.cE (one_f σ b _ _ _ _ _ k (by omega)) rfl) ?_
        rintro _ _ _ ⟨_, ⟨rfl, rfl, rfl⟩, rfl⟩
        refine XOA.cl ?_
        refine zN ?_; refine zT ?_; refine zS ?_; refine zR ?_; refine zO rfl Rd.mv ?_; refine zO rfl (Rd.nilCheck rfl) ?_; refine zO rfl (Rd.fA rfl) ?_; refine zO rfl (Rd.ldC rfl (tyrow rfl) rfl) ?_; refine zO rfl (Rd.lenSlice (tyrow rfl) rfl rfl) ?_; refine zO rfl (Rd.eql rfl rfl) ?_
        refine XOA.wr0 rfl (WrA.cE (fail_f σ _ 12 (decide_eq_false (by omega))) rfl) ?_
        rintro _ _ _ ⟨_, ⟨rfl, rfl, rfl⟩, rfl⟩
        refine XOA.cl ?_
        refine zN ?_; refine zT ?_; refine zS ?_
        refine XA.draw (by kernel_rfl) _ _ [15] [(0, .pu), (1, .pu), (2, .pu), (3, .rd), (4, .pu), (5, .pu), (6, .rd), (8, .pu), (9, .pu), (10, .pu), (11, .rd), (12, .pu), (13, .rd), (7, .wr), (14, .pu), (15, .wr)] (by kernel_rfl) (PH.sub.refl _) (Ent.sel (R := blk b _ _) (by ((repeat (first | with_reducible exact Sel.head | apply Sel.tail)); (first | done | fail))) (Ent.sel (R := blk g3 _ _) (by ((repeat (first | with_reducible exact Sel.head | apply Sel.tail)); (first | done | fail))) (Ent.nil _))) ?_
        refine XPA.pu rfl rfl Gd.free Rd.mv ?_
        refine XPA.pu rfl rfl Gd.free (Rd.nilCheck rfl) ?_
        refine XPA.pu rfl rfl Gd.free (Rd.fA rfl) ?_
        refine XPA.rd rfl rfl Gd.free (Rd.ldC rfl (tyrow rfl) rfl) ?_
        refine XPA.pu rfl rfl Gd.free Rd.mv ?_
        refine XPA.pu rfl rfl Gd.free (Rd.fA rfl) ?_
        refine XPA.rd rfl rfl Gd.free (Rd.ldC rfl (tyrow rfl) rfl) ?_
        refine XPA.pu rfl rfl Gd.free Rd.mv ?_
        refine XPA.pu rfl rfl Gd.free (Rd.nilCheck rfl) ?_
        refine XPA.pu rfl rfl Gd.free (Rd.fA rfl) ?_
        refine XPA.rd rfl rfl Gd.free (Rd.ldC rfl (tyrow rfl) rfl) ?_
        refine XPA.pu rfl rfl Gd.free (Rd.ixS rfl rfl) ?_
        refine XPA.rd rfl rfl Gd.free (Rd.ldC rfl (tyrow rfl) rfl) ?_
        refine XPA.wr0 rfl rfl Gd.free (WrA.cE (at_f σ b pr _ cv bs _ _ _ _ v 0 hp hz hvl hv2 (by decide) (by omega)) rfl) ?_
        rintro _ _ _ ⟨_, ⟨rfl, rfl, rfl⟩, rfl⟩
        refine stays (XPA.cl ?_)
        refine XPA.pu rfl rfl Gd.free (Rd.ixS rfl rfl) ?_
        refine XPA.wrZ0 rfl rfl Gd.free (by kernel_rfl) (WrA.st (tyrow rfl) rfl) ?_
        rintro _ _ _ ⟨rfl, rfl, rfl⟩
        refine XPA.nil ?_
        refine zT ?_; refine zR ?_; refine zO rfl Rd.mv ?_; refine zO rfl Rd.mv ?_; refine zO rfl (Rd.nilCheck rfl) ?_; refine zO rfl (Rd.fA rfl) ?_; refine zO rfl (Rd.ldC rfl (tyrow rfl) rfl) ?_
        refine zO rfl (Rd.sliceTail (tyrow rfl) rfl (tyrow rfl) rfl rfl rfl (by omega)) ?_
        refine zO rfl (Rd.nilCheck rfl) ?_; refine zO rfl (Rd.fA rfl) ?_
        refine XOA.wr0 rfl (WrA.st (tyrow rfl) rfl) ?_
        rintro _ _ _ ⟨rfl, rfl, rfl⟩
        refine zN ?_
        refine DA.inb_normal ?_
        exact bodyA.normal (ResA.none rfl) zE ⟨rfl, rfl, _, po, co, hvi2, rfl⟩
  by_cases q5 : op = 5
  · subst q5
    refine enterA2 Try.func73 rfl rfl rfl ?_
    refine zS ?_; refine zR ?_
    refine XOA.wr0 rfl WrA.bx ?_
    rintro _ _ _ ⟨g3, rfl, rfl, rfl⟩
    refine zN ?_; refine zT ?_; refine zS ?_; refine zR ?_; refine zO rfl (Rd.fA rfl) ?_; refine zO rfl (Rd.ldC rfl (tyrow rfl) rfl) ?_; refine zN ?_; refine zT ?_
    refine XA.block ?_
    refine zS ?_; refine zR ?_; refine zO rfl (Rd.eql rfl rfl) ?_; refine zO rfl Rd.asg ?_; refine zN ?_; refine zT ?_
    refine XA.condF rfl rfl ?_
    refine zS ?_; refine zR ?_; refine zO rfl (Rd.eql rfl rfl) ?_; refine zO rfl Rd.asg ?_; refine zN ?_; refine zT ?_
    refine XA.condF rfl rfl ?_
    refine zS ?_; refine zR ?_; refine zO rfl (Rd.eql rfl rfl) ?_; refine zO rfl Rd.asg ?_; refine zN ?_; refine zT ?_
    refine XA.condF rfl rfl ?_
    refine zS ?_; refine zR ?_; refine zO rfl (Rd.eql rfl rfl) ?_; refine zO rfl Rd.asg ?_; refine zN ?_; refine zT ?_
    refine XA.condF rfl rfl ?_
    refine zS ?_; refine zR ?_; refine zO rfl (Rd.eql rfl rfl) ?_; refine zO rfl Rd.asg ?_; refine zN ?_; refine zT ?_
    refine XA.condT rfl rfl ?_
    refine XA.block ?_
    refine XA.gen [(0, _), (3, _)] ⟨(by with_reducible (conv => lhs; whnf)), (by with_reducible (conv => lhs; whnf)), trivial⟩ (fun δ => ?_)
    dsimp only [List.foldl]
    refine XA.loop [(0, 0), (105, 114)] (fun _ : Nat => [(0, ptr b)]) (fun g' σ' Γ' => σ = σ' ∧ g' ≤ g + 1 ∧ ∃ (s' : RS) (vi' : Value) (po' : Option Addr) (co' : Nat), stG pr.vars g' (.mk 5 v ex fx body els) s' = some r ∧ Fine pr.vars nc s' ∧ PInts σ vi' s'.inp ∧ Γ' = [blk b [.slice pv pr.vars.length cv, bs, .slice (some ⟨gc, 0, none⟩) nc nc, vi', .slice po' (s'.out).length co', i64 s'.left] 97, blk gc (ints (s'.cells)) 2, lst 2 1 (.slice po' (s'.out).length co') (s'.out).length (ints (s'.out)), blk g3 [i64 5, i64 v, i64 ex.op, i64 ex.v, i64 ex.n, .slice pe ex.l.length de, i64 fx.op, i64 fx.v, i64 fx.n, .slice pf fx.l.length df, .slice pb body.length cb, .slice pl els.length cl] 46]) (fun g' => g') (g + 1) (by exact ⟨rfl, trivial⟩) (Δ0 := _) ?_ (⟨rfl, Nat.le_refl _, ⟨cells, inp, out, f⟩, vi, po, co, hr, ⟨hcl, hsz, hleft, hout⟩, hvi, rfl⟩) ?_
    · exact zE
    rintro g' δ _ _ ⟨rfl, hg', s', vi', po', co', hr', hF', hvi', rfl⟩
    dsimp only [ovr, List.foldl]
    obtain ⟨cells', inp', out', f'⟩ := s'
    obtain ⟨hcl', -, hleft', hout'⟩ := hF'
    simp only at hcl' hleft' hout' hvi' ⊢
    cases g' with
    | zero => cases hr'
    | succ g' =>
    rw [stG_5, isS_isF] at hr'
    have hI := is_r σ pr h1 hz hvl ex _ b pv cv bs gc nc cells' vi' (.slice po' out'.length co') f' hp hxe (he rfl).1 hcl' hsz (by omega)
    cases e1 : isF pr.vars cells' ex f' with
    | error q =>
      obtain ⟨c0, k⟩ := q
      rw [e1] at hr'
      cases hr'
      refine zS ?_; refine zS ?_; refine zR ?_; refine zO rfl Rd.mv ?_; refine zO rfl (Rd.fA rfl) ?_; refine zO rfl (Rd.ldA rfl) ?_
      refine XOA.die rfl (hI.2 c0 k e1) rfl ?_
      rintro _ _ _ ⟨rfl, rfl, rfl⟩
      refine DA.cl ?_
      repeat (first | refine DA.thn_panic ?_ | refine DA.inb_panic ?_)
      exact bodyA.panic zE ⟨rfl, rfl, vi', po', co', hvi', rfl⟩
    | ok q =>
      obtain ⟨bb, k⟩ := q
      have hk := isF_left e1
      rw [e1] at hr'
      simp only at hr'
      cases bb with
      | false =>
        cases hr'
        refine zS ?_; refine zS ?_; refine zR ?_; refine zO rfl Rd.mv ?_; refine zO rfl (Rd.fA rfl) ?_; refine zO rfl (Rd.ldA rfl) ?_
        refine XOA.wr0 rfl (WrA.cE (hI.1 false k e1) rfl) ?_
        rintro _ _ _ ⟨_, ⟨rfl, rfl, rfl⟩, rfl⟩
        refine XOA.cl ?_
        refine zN ?_; refine zT ?_
        refine XA.condF rfl rfl ?_
        refine XA.exit ?_
        refine DA.thn_exit ?_
        refine DA.thn_exit ?_
        refine DA.inb_same ?_
        refine DA.inb_normal ?_
        exact bodyA.normal (ResA.none rfl) zE ⟨rfl, rfl, vi', po', co', hvi', rfl⟩
      | true =>
        simp only at hr'
        have hF1 : Fine pr.vars nc ⟨cells', inp', out', k⟩ := ⟨hcl', hsz, by show k < _; omega, by show out'.length + k < _; omega⟩
        cases e2 : listG (stG pr.vars g') body ⟨cells', inp', out', k⟩ with
        | none => rw [e2] at hr'; cases hr'
        | some q =>
          have hL := list_r g' σ pr body (fun x _ => ih g' (by omega) x) _ b pv cv bs gc nc ⟨cells', inp', out', k⟩ vi' po' co' q hp hxb hsb hF1 hvi' e2
          have hle := listG_less (stG_less pr.vars g') _ _ _ e2
          rw [e2] at hr'
          simp only at hr' hL
          cases q with
          | error q =>
            obtain ⟨c0, s0⟩ := q
            cases hr'
            refine zS ?_; refine zS ?_; refine zR ?_; refine zO rfl Rd.mv ?_; refine zO rfl (Rd.fA rfl) ?_; refine zO rfl (Rd.ldA rfl) ?_
            refine XOA.wr0 rfl (WrA.cE (hI.1 true k e1) rfl) ?_
            rintro _ _ _ ⟨_, ⟨rfl, rfl, rfl⟩, rfl⟩
            refine XOA.cl ?_
            refine zN ?_; refine zT ?_
            refine XA.condT rfl rfl ?_
            refine XA.skip ?_
            refine zT ?_
            refine XA.block ?_
            refine zS ?_; refine zR ?_; refine zO rfl Rd.mv ?_; refine zO rfl (Rd.fA rfl) ?_; refine zO rfl (Rd.ldC rfl (tyrow rfl) rfl) ?_
            refine XOA.die rfl (EndS.err hL) rfl ?_
            rintro _ _ _ ⟨rfl, rfl, vi2, po2, co2, hvi2, rfl⟩
            refine DA.cl ?_
            repeat (first | refine DA.thn_panic ?_ | refine DA.inb_panic ?_)
            exact bodyA.panic zE ⟨rfl, rfl, vi2, po2, co2, hvi2, rfl⟩
          | ok s2 =>
            have hF2 := hF1.less hle
            obtain ⟨cells2, inp2, out2, f2⟩ := s2
            have hleft2 : f2 < 1000000 := hF2.left
            simp only at hr'
            cases f2 with
            | zero =>
              rw [show oneS ⟨cells2, inp2, out2, 0⟩ = .error (13, ⟨cells2, inp2, out2, 0⟩) from rfl] at hr'
              cases hr'
              refine zS ?_; refine zS ?_; refine zR ?_; refine zO rfl Rd.mv ?_; refine zO rfl (Rd.fA rfl) ?_; refine zO rfl (Rd.ldA rfl) ?_
              refine XOA.wr0 rfl (WrA.cE (hI.1 true k e1) rfl) ?_
              rintro _ _ _ ⟨_, ⟨rfl, rfl, rfl⟩, rfl⟩
              refine XOA.cl ?_
              refine zN ?_; refine zT ?_
              refine XA.condT rfl rfl ?_
              refine XA.skip ?_
              refine zT ?_
              refine XA.block ?_
              refine zS ?_; refine zR ?_; refine zO rfl Rd.mv ?_; refine zO rfl (Rd.fA rfl) ?_; refine zO rfl (Rd.ldC rfl (tyrow rfl) rfl) ?_
              refine XOA.wr0 rfl (WrA.cE (EndS.ok hL) rfl) ?_
              rintro _ _ _ ⟨_, ⟨rfl, rfl, vi2, po2, co2, hvi2, rfl⟩, rfl⟩
              refine XOA.cl ?_
              refine zN ?_; refine zT ?_; refine zR ?_; refine zO rfl Rd.mv ?_
              refine XOA.die rfl (one_t σ b _ _ _ _ _) rfl ?_
              rintro _ _ _ ⟨rfl, rfl, rfl⟩
              refine DA.cl ?_
              repeat (first | refine DA.thn_panic ?_ | refine DA.inb_panic ?_)
              exact bodyA.panic zE ⟨rfl, rfl, vi2, po2, co2, hvi2, rfl⟩
            | succ f2 =>
              rw [show oneS ⟨cells2, inp2, out2, f2 + 1⟩ = .ok ⟨cells2, inp2, out2, f2⟩ by simp [oneS]] at hr'
              simp only at hr'
              have hF3 : Fine pr.vars nc ⟨cells2, inp2, out2, f2⟩ := ⟨hF2.cl, hF2.sz, by show f2 < _; omega, by have : out2.length + (f2 + 1) < 2000000 := hF2.out; show out2.length + f2 < _; omega⟩
              refine zS ?_; refine zS ?_; refine zR ?_; refine zO rfl Rd.mv ?_; refine zO rfl (Rd.fA rfl) ?_; refine zO rfl (Rd.ldA rfl) ?_
              refine XOA.wr0 rfl (WrA.cE (hI.1 true k e1) rfl) ?_
              rintro _ _ _ ⟨_, ⟨rfl, rfl, rfl⟩, rfl⟩
              refine XOA.cl ?_
              refine zN ?_; refine zT ?_
              refine XA.condT rfl rfl ?_
              refine XA.skip ?_
              refine zT ?_
              refine XA.block ?_
              refine zS ?_; refine zR ?_; refine zO rfl Rd.mv ?_; refine zO rfl (Rd.fA rfl) ?_; refine zO rfl (Rd.ldC rfl (tyrow rfl) rfl) ?_
              refine XOA.wr0 rfl (WrA.cE (EndS.ok hL) rfl) ?_
              rintro _ _ _ ⟨_, ⟨rfl, rfl, vi2, po2, co2, hvi2, rfl⟩, rfl⟩
              refine XOA.cl ?_
              refine zN ?_; refine zT ?_; refine zR ?_; refine zO rfl Rd.mv ?_
              refine XOA.wr0 rfl (WrA.cE (one_f σ b _ _ _ _ _ f2 (by omega)) rfl) ?_
              rintro _ _ _ ⟨_, ⟨rfl, rfl, rfl⟩, rfl⟩
              refine XOA.cl ?_
              refine zN ?_
              refine DA.inb_normal ?_
              refine zT ?_
              refine ⟨(Keep.updO (Keep.upd (Keep.updO (Keep.upd (Keep.upd (Keep.upd (Keep.updO (Keep.upd (Keep.upd (Keep.upd (Keep.upd (Keep.hav (Keep.hav (Keep.refl _ _) rfl) rfl) rfl) rfl) rfl) rfl) rfl) rfl) rfl) rfl) rfl) rfl) rfl), g', _, (by (repeat (first | exact trivial | refine ⟨rfl, ?_⟩ | refine ⟨Eq.trans rfl (congrArg Value.bool hmat.symm), ?_⟩)); (first | done | fail)), ?_, ⟨rfl, by omega, ⟨cells2, inp2, out2, f2⟩, vi2, po2, co2, hr', hF3, hvi2, rfl⟩, (by omega)⟩
              · exact zE
  by_cases q6 : op = 6
  · subst q6
    rw [stG_6, isS_isF] at hr
    have hI := is_r σ pr h1 hz hvl ex _ b pv cv bs gc nc cells vi (.slice po out.length co) f hp hxe (he rfl).1 hcl hsz (by omega)
    cases e1 : isF pr.vars cells ex f with
    | error q =>
      obtain ⟨c0, k⟩ := q
      rw [e1] at hr
      cases hr
      refine enterA2 Try.func73 rfl rfl rfl ?_
      refine zS ?_; refine zR ?_
      refine XOA.wr0 rfl WrA.bx ?_
      rintro _ _ _ ⟨g3, rfl, rfl, rfl⟩
      refine zN ?_; refine zT ?_; refine zS ?_; refine zR ?_; refine zO rfl (Rd.fA rfl) ?_; refine zO rfl (Rd.ldC rfl (tyrow rfl) rfl) ?_; refine zN ?_; refine zT ?_
      refine XA.block ?_
      refine zS ?_; refine zR ?_; refine zO rfl (Rd.eql rfl rfl) ?_; refine zO rfl Rd.asg ?_; refine zN ?_; refine zT ?_
      refine XA.condF rfl rfl ?_
      refine zS ?_; refine zR ?_; refine zO rfl (Rd.eql rfl rfl) ?_; refine zO rfl Rd.asg ?_; refine zN ?_; refine zT ?_
      refine XA.condF rfl rfl ?_
      refine zS ?_; refine zR ?_; refine zO rfl (Rd.eql rfl rfl) ?_; refine zO rfl Rd.asg ?_; refine zN ?_; refine zT ?_
      refine XA.condF rfl rfl ?_
      refine zS ?_; refine zR ?_; refine zO rfl (Rd.eql rfl rfl) ?_; refine zO rfl Rd.asg ?_; refine zN ?_; refine zT ?_
      refine XA.condF rfl rfl ?_
      refine zS ?_; refine zR ?_; refine zO rfl (Rd.eql rfl rfl) ?_; refine zO rfl Rd.asg ?_; refine zN ?_; refine zT ?_
      refine XA.condF rfl rfl ?_
      refine zS ?_; refine zR ?_; refine zO rfl (Rd.eql rfl rfl) ?_; refine zO rfl Rd.asg ?_; refine zN ?_; refine zT ?_
      refine XA.condT rfl rfl ?_
      refine zS ?_; refine zS ?_; refine zR ?_; refine zO rfl Rd.mv ?_; refine zO rfl (Rd.fA rfl) ?_; refine zO rfl (Rd.ldA rfl) ?_
      refine XOA.die rfl (hI.2 c0 k e1) rfl ?_
      rintro _ _ _ ⟨rfl, rfl, rfl⟩
      refine DA.cl ?_
      repeat (first | refine DA.thn_panic ?_ | refine DA.inb_panic ?_)
      exact bodyA.panic zE ⟨rfl, rfl, vi, po, co, hvi, rfl⟩
    | ok q =>
      obtain ⟨bb, k⟩ := q
      have hk := isF_left e1
      rw [e1] at hr
      simp only at hr
      have hF1 : Fine pr.vars nc ⟨cells, inp, out, k⟩ := ⟨hcl, hsz, by show k < _; omega, by show out.length + k < _; omega⟩
      cases bb with
      | false =>
        simp only at hr
        have hL := list_r g σ pr els (fun x _ => ih g (by omega) x) _ b pv cv bs gc nc ⟨cells, inp, out, k⟩ vi po co r hp hxl hse hF1 hvi hr
        simp only at hL
        cases r with
        | error q =>
          obtain ⟨c0, s0⟩ := q
          refine enterA2 Try.func73 rfl rfl rfl ?_
          refine zS ?_; refine zR ?_
          refine XOA.wr0 rfl WrA.bx ?_
          rintro _ _ _ ⟨g3, rfl, rfl, rfl⟩
          refine zN ?_; refine zT ?_; refine zS ?_; refine zR ?_; refine zO rfl (Rd.fA rfl) ?_; refine zO rfl (Rd.ldC rfl (tyrow rfl) rfl) ?_; refine zN ?_; refine zT ?_
          refine XA.block ?_
          refine zS ?_; refine zR ?_; refine zO rfl (Rd.eql rfl rfl) ?_; refine zO rfl Rd.asg ?_; refine zN ?_; refine zT ?_
          refine XA.condF rfl rfl ?_
          refine zS ?_; refine zR ?_; refine zO rfl (Rd.eql rfl rfl) ?_; refine zO rfl Rd.asg ?_; refine zN ?_; refine zT ?_
          refine XA.condF rfl rfl ?_
          refine zS ?_; refine zR ?_; refine zO rfl (Rd.eql rfl rfl) ?_; refine zO rfl Rd.asg ?_; refine zN ?_; refine zT ?_
          refine XA.condF rfl rfl ?_
          refine zS ?_; refine zR ?_; refine zO rfl (Rd.eql rfl rfl) ?_; refine zO rfl Rd.asg ?_; refine zN ?_; refine zT ?_
          refine XA.condF rfl rfl ?_
          refine zS ?_; refine zR ?_; refine zO rfl (Rd.eql rfl rfl) ?_; refine zO rfl Rd.asg ?_; refine zN ?_; refine zT ?_
          refine XA.condF rfl rfl ?_
          refine zS ?_; refine zR ?_; refine zO rfl (Rd.eql rfl rfl) ?_; refine zO rfl Rd.asg ?_; refine zN ?_; refine zT ?_
          refine XA.condT rfl rfl ?_
          refine zS ?_; refine zS ?_; refine zR ?_; refine zO rfl Rd.mv ?_; refine zO rfl (Rd.fA rfl) ?_; refine zO rfl (Rd.ldA rfl) ?_
          refine XOA.wr0 rfl (WrA.cE (hI.1 false k e1) rfl) ?_
          rintro _ _ _ ⟨_, ⟨rfl, rfl, rfl⟩, rfl⟩
          refine XOA.cl ?_
          refine zN ?_; refine zT ?_
          refine XA.condF rfl rfl ?_
          refine XA.skip ?_
          refine zT ?_; refine zR ?_; refine zO rfl Rd.mv ?_; refine zO rfl (Rd.fA rfl) ?_; refine zO rfl (Rd.ldC rfl (tyrow rfl) rfl) ?_
          refine XOA.die rfl (EndS.err hL) rfl ?_
          rintro _ _ _ ⟨rfl, rfl, vi2, po2, co2, hvi2, rfl⟩
          refine DA.cl ?_
          repeat (first | refine DA.thn_panic ?_ | refine DA.inb_panic ?_)
          exact bodyA.panic zE ⟨rfl, rfl, vi2, po2, co2, hvi2, rfl⟩
        | ok s2 =>
          refine enterA2 Try.func73 rfl rfl rfl ?_
          refine zS ?_; refine zR ?_
          refine XOA.wr0 rfl WrA.bx ?_
          rintro _ _ _ ⟨g3, rfl, rfl, rfl⟩
          refine zN ?_; refine zT ?_; refine zS ?_; refine zR ?_; refine zO rfl (Rd.fA rfl) ?_; refine zO rfl (Rd.ldC rfl (tyrow rfl) rfl) ?_; refine zN ?_; refine zT ?_
          refine XA.block ?_
          refine zS ?_; refine zR ?_; refine zO rfl (Rd.eql rfl rfl) ?_; refine zO rfl Rd.asg ?_; refine zN ?_; refine zT ?_
          refine XA.condF rfl rfl ?_
          refine zS ?_; refine zR ?_; refine zO rfl (Rd.eql rfl rfl) ?_; refine zO rfl Rd.asg ?_; refine zN ?_; refine zT ?_
          refine XA.condF rfl rfl ?_
          refine zS ?_; refine zR ?_; refine zO rfl (Rd.eql rfl rfl) ?_; refine zO rfl Rd.asg ?_; refine zN ?_; refine zT ?_
          refine XA.condF rfl rfl ?_
          refine zS ?_; refine zR ?_; refine zO rfl (Rd.eql rfl rfl) ?_; refine zO rfl Rd.asg ?_; refine zN ?_; refine zT ?_
          refine XA.condF rfl rfl ?_
          refine zS ?_; refine zR ?_; refine zO rfl (Rd.eql rfl rfl) ?_; refine zO rfl Rd.asg ?_; refine zN ?_; refine zT ?_
          refine XA.condF rfl rfl ?_
          refine zS ?_; refine zR ?_; refine zO rfl (Rd.eql rfl rfl) ?_; refine zO rfl Rd.asg ?_; refine zN ?_; refine zT ?_
          refine XA.condT rfl rfl ?_
          refine zS ?_; refine zS ?_; refine zR ?_; refine zO rfl Rd.mv ?_; refine zO rfl (Rd.fA rfl) ?_; refine zO rfl (Rd.ldA rfl) ?_
          refine XOA.wr0 rfl (WrA.cE (hI.1 false k e1) rfl) ?_
          rintro _ _ _ ⟨_, ⟨rfl, rfl, rfl⟩, rfl⟩
          refine XOA.cl ?_
          refine zN ?_; refine zT ?_
          refine XA.condF rfl rfl ?_
          refine XA.skip ?_
          refine zT ?_; refine zR ?_; refine zO rfl Rd.mv ?_; refine zO rfl (Rd.fA rfl) ?_; refine zO rfl (Rd.ldC rfl (tyrow rfl) rfl) ?_
          refine XOA.wr0 rfl (WrA.cE (EndS.ok hL) rfl) ?_
          rintro _ _ _ ⟨_, ⟨rfl, rfl, vi2, po2, co2, hvi2, rfl⟩, rfl⟩
          refine XOA.cl ?_
          refine zN ?_
          refine DA.inb_normal ?_
          exact bodyA.normal (ResA.none rfl) zE ⟨rfl, rfl, vi2, po2, co2, hvi2, rfl⟩
      | true =>
        simp only at hr
        cases e2 : listG (stG pr.vars g) body ⟨cells, inp, out, k⟩ with
        | none => rw [e2] at hr; cases hr
        | some q =>
          have hL := list_r g σ pr body (fun x _ => ih g (by omega) x) _ b pv cv bs gc nc ⟨cells, inp, out, k⟩ vi po co q hp hxb hsb hF1 hvi e2
          have hle := listG_less (stG_less pr.vars g) _ _ _ e2
          rw [e2] at hr
          simp only at hr hL
          cases q with
          | error q =>
            obtain ⟨c0, s0⟩ := q
            cases hr
            refine enterA2 Try.func73 rfl rfl rfl ?_
            refine zS ?_; refine zR ?_
            refine XOA.wr0 rfl WrA.bx ?_
            rintro _ _ _ ⟨g3, rfl, rfl, rfl⟩
            refine zN ?_; refine zT ?_; refine zS ?_; refine zR ?_; refine zO rfl (Rd.fA rfl) ?_; refine zO rfl (Rd.ldC rfl (tyrow rfl) rfl) ?_; refine zN ?_; refine zT ?_
            refine XA.block ?_
            refine zS ?_; refine zR ?_; refine zO rfl (Rd.eql rfl rfl) ?_; refine zO rfl Rd.asg ?_; refine zN ?_; refine zT ?_
            refine XA.condF rfl rfl ?_
            refine zS ?_; refine zR ?_; refine zO rfl (Rd.eql rfl rfl) ?_; refine zO rfl Rd.asg ?_; refine zN ?_; refine zT ?_
            refine XA.condF rfl rfl ?_
            refine zS ?_; refine zR ?_; refine zO rfl (Rd.eql rfl rfl) ?_; refine zO rfl Rd.asg ?_; refine zN ?_; refine zT ?_
            refine XA.condF rfl rfl ?_
            refine zS ?_; refine zR ?_; refine zO rfl (Rd.eql rfl rfl) ?_; refine zO rfl Rd.asg ?_; refine zN ?_; refine zT ?_
            refine XA.condF rfl rfl ?_
            refine zS ?_; refine zR ?_; refine zO rfl (Rd.eql rfl rfl) ?_; refine zO rfl Rd.asg ?_; refine zN ?_; refine zT ?_
            refine XA.condF rfl rfl ?_
            refine zS ?_; refine zR ?_; refine zO rfl (Rd.eql rfl rfl) ?_; refine zO rfl Rd.asg ?_; refine zN ?_; refine zT ?_
            refine XA.condT rfl rfl ?_
            refine zS ?_; refine zS ?_; refine zR ?_; refine zO rfl Rd.mv ?_; refine zO rfl (Rd.fA rfl) ?_; refine zO rfl (Rd.ldA rfl) ?_
            refine XOA.wr0 rfl (WrA.cE (hI.1 true k e1) rfl) ?_
            rintro _ _ _ ⟨_, ⟨rfl, rfl, rfl⟩, rfl⟩
            refine XOA.cl ?_
            refine zN ?_; refine zT ?_
            refine XA.condT rfl rfl ?_
            refine zS ?_; refine zR ?_; refine zO rfl Rd.mv ?_; refine zO rfl (Rd.fA rfl) ?_; refine zO rfl (Rd.ldC rfl (tyrow rfl) rfl) ?_
            refine XOA.die rfl (EndS.err hL) rfl ?_
            rintro _ _ _ ⟨rfl, rfl, vi2, po2, co2, hvi2, rfl⟩
            refine DA.cl ?_
            repeat (first | refine DA.thn_panic ?_ | refine DA.inb_panic ?_)
            exact bodyA.panic zE ⟨rfl, rfl, vi2, po2, co2, hvi2, rfl⟩
          | ok s2 =>
            have hF2 := hF1.less hle
            obtain ⟨cells2, inp2, out2, f2⟩ := s2
            have hleft2 : f2 < 1000000 := hF2.left
            simp only at hr
            cases f2 with
            | zero =>
              rw [show oneS ⟨cells2, inp2, out2, 0⟩ = .error (13, ⟨cells2, inp2, out2, 0⟩) from rfl] at hr
              cases hr
              refine enterA2 Try.func73 rfl rfl rfl ?_
              refine zS ?_; refine zR ?_
              refine XOA.wr0 rfl WrA.bx ?_
              rintro _ _ _ ⟨g3, rfl, rfl, rfl⟩
              refine zN ?_; refine zT ?_; refine zS ?_; refine zR ?_; refine zO rfl (Rd.fA rfl) ?_; refine zO rfl (Rd.ldC rfl (tyrow rfl) rfl) ?_; refine zN ?_; refine zT ?_
              refine XA.block ?_
              refine zS ?_; refine zR ?_; refine zO rfl (Rd.eql rfl rfl) ?_; refine zO rfl Rd.asg ?_; refine zN ?_; refine zT ?_
              refine XA.condF rfl rfl ?_
              refine zS ?_; refine zR ?_; refine zO rfl (Rd.eql rfl rfl) ?_; refine zO rfl Rd.asg ?_; refine zN ?_; refine zT ?_
              refine XA.condF rfl rfl ?_
              refine zS ?_; refine zR ?_; refine zO rfl (Rd.eql rfl rfl) ?_; refine zO rfl Rd.asg ?_; refine zN ?_; refine zT ?_
              refine XA.condF rfl rfl ?_
              refine zS ?_; refine zR ?_; refine zO rfl (Rd.eql rfl rfl) ?_; refine zO rfl Rd.asg ?_; refine zN ?_; refine zT ?_
              refine XA.condF rfl rfl ?_
              refine zS ?_; refine zR ?_; refine zO rfl (Rd.eql rfl rfl) ?_; refine zO rfl Rd.asg ?_; refine zN ?_; refine zT ?_
              refine XA.condF rfl rfl ?_
              refine zS ?_; refine zR ?_; refine zO rfl (Rd.eql rfl rfl) ?_; refine zO rfl Rd.asg ?_; refine zN ?_; refine zT ?_
              refine XA.condT rfl rfl ?_
              refine zS ?_; refine zS ?_; refine zR ?_; refine zO rfl Rd.mv ?_; refine zO rfl (Rd.fA rfl) ?_; refine zO rfl (Rd.ldA rfl) ?_
              refine XOA.wr0 rfl (WrA.cE (hI.1 true k e1) rfl) ?_
              rintro _ _ _ ⟨_, ⟨rfl, rfl, rfl⟩, rfl⟩
              refine XOA.cl ?_
              refine zN ?_; refine zT ?_
              refine XA.condT rfl rfl ?_
              refine zS ?_; refine zR ?_; refine zO rfl Rd.mv ?_; refine zO rfl (Rd.fA rfl) ?_; refine zO rfl (Rd.ldC rfl (tyrow rfl) rfl) ?_
              refine XOA.wr0 rfl (WrA.cE (EndS.ok hL) rfl) ?_
              rintro _ _ _ ⟨_, ⟨rfl, rfl, vi2, po2, co2, hvi2, rfl⟩, rfl⟩
              refine XOA.cl ?_
              refine zN ?_; refine zT ?_; refine zS ?_; refine zR ?_; refine zO rfl Rd.mv ?_
              refine XOA.die rfl (one_t σ b _ _ _ _ _) rfl ?_
              rintro _ _ _ ⟨rfl, rfl, rfl⟩
              refine DA.cl ?_
              repeat (first | refine DA.thn_panic ?_ | refine DA.inb_panic ?_)
              exact bodyA.panic zE ⟨rfl, rfl, vi2, po2, co2, hvi2, rfl⟩
            | succ f2 =>
              rw [show oneS ⟨cells2, inp2, out2, f2 + 1⟩ = .ok ⟨cells2, inp2, out2, f2⟩ by simp [oneS]] at hr
              cases hr
              refine enterA2 Try.func73 rfl rfl rfl ?_
              refine zS ?_; refine zR ?_
              refine XOA.wr0 rfl WrA.bx ?_
              rintro _ _ _ ⟨g3, rfl, rfl, rfl⟩
              refine zN ?_; refine zT ?_; refine zS ?_; refine zR ?_; refine zO rfl (Rd.fA rfl) ?_; refine zO rfl (Rd.ldC rfl (tyrow rfl) rfl) ?_; refine zN ?_; refine zT ?_
              refine XA.block ?_
              refine zS ?_; refine zR ?_; refine zO rfl (Rd.eql rfl rfl) ?_; refine zO rfl Rd.asg ?_; refine zN ?_; refine zT ?_
              refine XA.condF rfl rfl ?_
              refine zS ?_; refine zR ?_; refine zO rfl (Rd.eql rfl rfl) ?_; refine zO rfl Rd.asg ?_; refine zN ?_; refine zT ?_
              refine XA.condF rfl rfl ?_
              refine zS ?_; refine zR ?_; refine zO rfl (Rd.eql rfl rfl) ?_; refine zO rfl Rd.asg ?_; refine zN ?_; refine zT ?_
              refine XA.condF rfl rfl ?_
              refine zS ?_; refine zR ?_; refine zO rfl (Rd.eql rfl rfl) ?_; refine zO rfl Rd.asg ?_; refine zN ?_; refine zT ?_
              refine XA.condF rfl rfl ?_
              refine zS ?_; refine zR ?_; refine zO rfl (Rd.eql rfl rfl) ?_; refine zO rfl Rd.asg ?_; refine zN ?_; refine zT ?_
              refine XA.condF rfl rfl ?_
              refine zS ?_; refine zR ?_; refine zO rfl (Rd.eql rfl rfl) ?_; refine zO rfl Rd.asg ?_; refine zN ?_; refine zT ?_
              refine XA.condT rfl rfl ?_
              refine zS ?_; refine zS ?_; refine zR ?_; refine zO rfl Rd.mv ?_; refine zO rfl (Rd.fA rfl) ?_; refine zO rfl (Rd.ldA rfl) ?_
              refine XOA.wr0 rfl (WrA.cE (hI.1 true k e1) rfl) ?_
              rintro _ _ _ ⟨_, ⟨rfl, rfl, rfl⟩, rfl⟩
              refine XOA.cl ?_
              refine zN ?_; refine zT ?_
              refine XA.condT rfl rfl ?_
              refine zS ?_; refine zR ?_; refine zO rfl Rd.mv ?_; refine zO rfl (Rd.fA rfl) ?_; refine zO rfl (Rd.ldC rfl (tyrow rfl) rfl) ?_
              refine XOA.wr0 rfl (WrA.cE (EndS.ok hL) rfl) ?_
              rintro _ _ _ ⟨_, ⟨rfl, rfl, vi2, po2, co2, hvi2, rfl⟩, rfl⟩
              refine XOA.cl ?_
              refine zN ?_; refine zT ?_; refine zS ?_; refine zR ?_; refine zO rfl Rd.mv ?_
              refine XOA.wr0 rfl (WrA.cE (one_f σ b _ _ _ _ _ f2 (by omega)) rfl) ?_
              rintro _ _ _ ⟨_, ⟨rfl, rfl, rfl⟩, rfl⟩
              refine XOA.cl ?_
              refine zN ?_; refine zT ?_
              refine XA.ret ?_
              refine DA.thn_ret ?_
              refine DA.inb_ret ?_
              exact bodyA.ret (ResA.none rfl) zE ⟨rfl, rfl, vi2, po2, co2, hvi2, rfl⟩
  obtain rfl : op = 7 := by omega
  rw [stG, if_neg (by decide), if_neg (by decide), if_neg (by decide), if_neg (by decide), if_neg (by decide), if_neg (by decide), if_pos rfl] at hr
  cases f with
  | zero =>
    rw [show oneS ⟨cells, inp, out, 0⟩ = .error (13, ⟨cells, inp, out, 0⟩) from rfl] at hr
    cases hr
    refine enterA2 Try.func73 rfl rfl rfl ?_
    refine zS ?_; refine zR ?_
    refine XOA.wr0 rfl WrA.bx ?_
    rintro _ _ _ ⟨g3, rfl, rfl, rfl⟩
    refine zN ?_; refine zT ?_; refine zS ?_; refine zR ?_; refine zO rfl (Rd.fA rfl) ?_; refine zO rfl (Rd.ldC rfl (tyrow rfl) rfl) ?_; refine zN ?_; refine zT ?_
    refine XA.block ?_
    refine zS ?_; refine zR ?_; refine zO rfl (Rd.eql rfl rfl) ?_; refine zO rfl Rd.asg ?_; refine zN ?_; refine zT ?_
    refine XA.condF rfl rfl ?_
    refine zS ?_; refine zR ?_; refine zO rfl (Rd.eql rfl rfl) ?_; refine zO rfl Rd.asg ?_; refine zN ?_; refine zT ?_
    refine XA.condF rfl rfl ?_
    refine zS ?_; refine zR ?_; refine zO rfl (Rd.eql rfl rfl) ?_; refine zO rfl Rd.asg ?_; refine zN ?_; refine zT ?_
    refine XA.condF rfl rfl ?_
    refine zS ?_; refine zR ?_; refine zO rfl (Rd.eql rfl rfl) ?_; refine zO rfl Rd.asg ?_; refine zN ?_; refine zT ?_
    refine XA.condF rfl rfl ?_
    refine zS ?_; refine zR ?_; refine zO rfl (Rd.eql rfl rfl) ?_; refine zO rfl Rd.asg ?_; refine zN ?_; refine zT ?_
    refine XA.condF rfl rfl ?_
    refine zS ?_; refine zR ?_; refine zO rfl (Rd.eql rfl rfl) ?_; refine zO rfl Rd.asg ?_; refine zN ?_; refine zT ?_
    refine XA.condF rfl rfl ?_
    refine zS ?_; refine zR ?_; refine zO rfl (Rd.eql rfl rfl) ?_; refine zO rfl Rd.asg ?_; refine zN ?_; refine zT ?_
    refine XA.condT rfl rfl ?_
    refine zR ?_; refine zO rfl Rd.mv ?_
    refine XOA.die rfl (one_t σ b _ _ _ _ _) rfl ?_
    rintro _ _ _ ⟨rfl, rfl, rfl⟩
    refine DA.cl ?_
    repeat (first | refine DA.thn_panic ?_ | refine DA.inb_panic ?_)
    exact bodyA.panic zE ⟨rfl, rfl, vi, po, co, hvi, rfl⟩
  | succ k =>
    rw [show oneS ⟨cells, inp, out, k + 1⟩ = .ok ⟨cells, inp, out, k⟩ by simp [oneS]] at hr
    cases hr
    refine enterA2 Try.func73 rfl rfl rfl ?_
    refine zS ?_; refine zR ?_
    refine XOA.wr0 rfl WrA.bx ?_
    rintro _ _ _ ⟨g3, rfl, rfl, rfl⟩
    refine zN ?_; refine zT ?_; refine zS ?_; refine zR ?_; refine zO rfl (Rd.fA rfl) ?_; refine zO rfl (Rd.ldC rfl (tyrow rfl) rfl) ?_; refine zN ?_; refine zT ?_
    refine XA.block ?_
    refine zS ?_; refine zR ?_; refine zO rfl (Rd.eql rfl rfl) ?_; refine zO rfl Rd.asg ?_; refine zN ?_; refine zT ?_
    refine XA.condF rfl rfl ?_
    refine zS ?_; refine zR ?_; refine zO rfl (Rd.eql rfl rfl) ?_; refine zO rfl Rd.asg ?_; refine zN ?_; refine zT ?_
    refine XA.condF rfl rfl ?_
    refine zS ?_; refine zR ?_; refine zO rfl (Rd.eql rfl rfl) ?_; refine zO rfl Rd.asg ?_; refine zN ?_; refine zT ?_
    refine XA.condF rfl rfl ?_
    refine zS ?_; refine zR ?_; refine zO rfl (Rd.eql rfl rfl) ?_; refine zO rfl Rd.asg ?_; refine zN ?_; refine zT ?_
    refine XA.condF rfl rfl ?_
    refine zS ?_; refine zR ?_; refine zO rfl (Rd.eql rfl rfl) ?_; refine zO rfl Rd.asg ?_; refine zN ?_; refine zT ?_
    refine XA.condF rfl rfl ?_
    refine zS ?_; refine zR ?_; refine zO rfl (Rd.eql rfl rfl) ?_; refine zO rfl Rd.asg ?_; refine zN ?_; refine zT ?_
    refine XA.condF rfl rfl ?_
    refine zS ?_; refine zR ?_; refine zO rfl (Rd.eql rfl rfl) ?_; refine zO rfl Rd.asg ?_; refine zN ?_; refine zT ?_
    refine XA.condT rfl rfl ?_
    refine zR ?_; refine zO rfl Rd.mv ?_
    refine XOA.wr0 rfl (WrA.cE (one_f σ b _ _ _ _ _ k (by omega)) rfl) ?_
    rintro _ _ _ ⟨_, ⟨rfl, rfl, rfl⟩, rfl⟩
    refine XOA.cl ?_
    refine zN ?_
    refine DA.inb_normal ?_
    exact bodyA.normal (ResA.none rfl) zE ⟨rfl, rfl, vi, po, co, hvi, rfl⟩
end Go.Proofs.Ytbbghdkndbpmmaa

namespace Go.Proofs.Ytbbghdkndbpmmaa
open Go X
theorem listG_mono {F F' : St → RS → Option RR} (h : ∀ x s r, F x s = some r → F' x s = some r) : ∀ (l : List St) (s : RS) (r : RR), listG F l s = some r → listG F' l s = some r
  | [], s, r, e => e
  | x :: l, s, r, e => by
    rw [listG] at e ⊢
    cases e1 : F x s with
    | none => rw [e1] at e; cases e
    | some q =>
      rw [e1] at e
      rw [h _ _ _ e1]
      cases q with
      | error q => exact e
      | ok s1 => exact listG_mono h l s1 r e
theorem stG_step (vs : List Va) : ∀ (g : Nat) (x : St) (s : RS) (r : RR), stG vs g x s = some r → stG vs (g + 1) x s = some r := by
  intro g
  induction g with
  | zero => intro x s r h; cases h
  | succ g ih =>
    intro x s r h
    obtain ⟨op, v, e, f, body, els⟩ := x
    by_cases q1 : op = 1
    · subst q1; rw [stG, if_pos rfl] at h ⊢; exact h
    by_cases q2 : op = 2
    · subst q2; rw [stG, if_neg (by decide), if_pos rfl] at h ⊢; exact h
    by_cases q3 : op = 3
    · subst q3; rw [stG, if_neg (by decide), if_neg (by decide), if_pos rfl] at h ⊢; exact h
    by_cases q4 : op = 4
    · subst q4; rw [stG, if_neg (by decide), if_neg (by decide), if_neg (by decide), if_pos rfl] at h ⊢; exact h
    have hl := listG_mono ih
    by_cases q5 : op = 5
    · subst q5
      rw [stG_5] at h ⊢
      cases e1 : isS vs e s with
      | error q => rw [e1] at h; exact h
      | ok q =>
        obtain ⟨bb, s1⟩ := q
        rw [e1] at h
        cases bb with
        | false => exact h
        | true =>
          simp only at h ⊢
          cases e2 : listG (stG vs g) body s1 with
          | none => rw [e2] at h; cases h
          | some q =>
            rw [e2] at h
            rw [hl _ _ _ e2]
            cases q with
            | error q => exact h
            | ok s2 =>
              simp only at h ⊢
              cases e3 : oneS s2 with
              | error q => rw [e3] at h; exact h
              | ok s3 => rw [e3] at h; exact ih _ _ _ h
    by_cases q6 : op = 6
    · subst q6
      rw [stG_6] at h ⊢
      cases e1 : isS vs e s with
      | error q => rw [e1] at h; exact h
      | ok q =>
        obtain ⟨bb, s1⟩ := q
        rw [e1] at h
        cases bb with
        | false => exact hl _ _ _ h
        | true =>
          simp only at h ⊢
          cases e2 : listG (stG vs g) body s1 with
          | none => rw [e2] at h; cases h
          | some q => rw [e2] at h; rw [hl _ _ _ e2]; exact h
    rw [stG, if_neg q1, if_neg q2, if_neg q3, if_neg q4, if_neg q5, if_neg q6] at h ⊢
    exact h
theorem stG_le (vs : List Va) {g g' : Nat} (hg : g ≤ g') {x : St} {s : RS} {r : RR} (h : stG vs g x s = some r) : stG vs g' x s = some r := by
  induction hg with
  | refl => exact h
  | step _ ih => exact stG_step vs _ _ _ _ ih
theorem isS_lt {vs : List Va} {x : Ex} {s : RS} {b : Bool} {s' : RS} (h : isS vs x s = .ok (b, s')) : s'.left < s.left := by
  rw [isS] at h
  obtain ⟨h1, -⟩ := exS_less vs x s
  cases e : exS vs x s with
  | error q => rw [e] at h; cases h
  | ok q =>
    obtain ⟨n, s1⟩ := q
    have a := (h1 _ _ e).2.1
    rw [e] at h
    simp only at h
    cases e2 : oneS s1 with
    | error q => rw [e2] at h; cases h
    | ok s2 =>
      rw [e2] at h
      cases h
      have := (oneS_less.1 _ e2).2.1
      omega
theorem listG_total {vs : List Va} {f : Nat} (hT : ∀ x s, s.left ≤ f → ∃ g r, stG vs g x s = some r) : ∀ (l : List St) (s : RS), s.left ≤ f → ∃ g r, listG (stG vs g) l s = some r
  | [], s, _ => ⟨0, _, rfl⟩
  | x :: l, s, hs => by
    obtain ⟨g, r, e⟩ := hT x s hs
    cases r with
    | error q => exact ⟨g, .error q, by rw [listG, e]⟩
    | ok s1 =>
      have hle := stG_less _ _ _ _ _ e
      obtain ⟨g2, r2, e2⟩ := listG_total hT l s1 (Nat.le_trans hle.left hs)
      refine ⟨max g g2, r2, ?_⟩
      rw [listG, stG_le vs (Nat.le_max_left g g2) e]
      exact listG_mono (fun x s r h => stG_le vs (Nat.le_max_right g g2) h) _ _ _ e2
theorem stG_total (vs : List Va) : ∀ (f : Nat) (x : St) (s : RS), s.left ≤ f → ∃ g r, stG vs g x s = some r := by
  intro f
  induction f using Nat.strongRecOn with
  | _ f ih =>
  intro x s hs
  have hL : ∀ (l : List St) (s1 : RS), s1.left < s.left → ∃ g r, listG (stG vs g) l s1 = some r := fun l s1 h1 => listG_total (fun x s2 h2 => ih s1.left (by omega) x s2 h2) l s1 (Nat.le_refl _)
  obtain ⟨op, v, e, ff, body, els⟩ := x
  by_cases q1 : op = 1
  · subst q1; exact ⟨1, _, by rw [stG, if_pos rfl]⟩
  by_cases q2 : op = 2
  · subst q2; exact ⟨1, _, by rw [stG, if_neg (by decide), if_pos rfl]⟩
  by_cases q3 : op = 3
  · subst q3; exact ⟨1, _, by rw [stG, if_neg (by decide), if_neg (by decide), if_pos rfl]⟩
  by_cases q4 : op = 4
  · subst q4; exact ⟨1, _, by rw [stG, if_neg (by decide), if_neg (by decide), if_neg (by decide), if_pos rfl]⟩
  by_cases q5 : op = 5
  · subst q5
    cases e1 : isS vs e s with
    | error q => exact ⟨1, _, by rw [stG_5, e1]⟩
    | ok q =>
      obtain ⟨bb, s1⟩ := q
      have h1 := isS_lt e1
      cases bb with
      | false => exact ⟨1, _, by rw [stG_5, e1]⟩
      | true =>
        obtain ⟨g2, r2, e2⟩ := hL body s1 h1
        cases r2 with
        | error q => exact ⟨g2 + 1, .error q, by rw [stG_5, e1]; simp only [e2]⟩
        | ok s2 =>
          have hle := listG_less (stG_less vs g2) _ _ _ e2
          cases e3 : oneS s2 with
          | error q => exact ⟨g2 + 1, .error q, by rw [stG_5, e1]; simp only [e2, e3]⟩
          | ok s3 =>
            have h3 := (oneS_less.1 _ e3).2.1
            have h2 : s2.left ≤ s1.left := hle.left
            obtain ⟨g4, r4, e4⟩ := ih s3.left (by omega) (.mk 5 v e ff body els) s3 (Nat.le_refl _)
            refine ⟨max g2 g4 + 1, r4, ?_⟩
            rw [stG_5, e1]
            simp only [listG_mono (fun x s r h => stG_le vs (Nat.le_max_left g2 g4) h) _ _ _ e2, e3]
            exact stG_le vs (Nat.le_max_right g2 g4) e4
  by_cases q6 : op = 6
  · subst q6
    cases e1 : isS vs e s with
    | error q => exact ⟨1, _, by rw [stG_6, e1]⟩
    | ok q =>
      obtain ⟨bb, s1⟩ := q
      have h1 := isS_lt e1
      cases bb with
      | false =>
        obtain ⟨g2, r2, e2⟩ := hL els s1 h1
        exact ⟨g2 + 1, r2, by rw [stG_6, e1]; exact e2⟩
      | true =>
        obtain ⟨g2, r2, e2⟩ := hL body s1 h1
        cases r2 with
        | error q => exact ⟨g2 + 1, .error q, by rw [stG_6, e1]; simp only [e2]⟩
        | ok s2 => exact ⟨g2 + 1, oneS s2, by rw [stG_6, e1]; simp only [e2]⟩
  exact ⟨1, if op = 7 then oneS s else .ok s, by rw [stG, if_neg q1, if_neg q2, if_neg q3, if_neg q4, if_neg q5, if_neg q6]; split <;> rfl⟩
/-- What a program's run comes to: a code, and what is left behind. -/
def finR : RR → RR
  | .ok s => oneS s
  | .error e => .error e
def endR : RR → Int × RS
  | .ok s => (0, s)
  | .error e => e
def start (p : Pr) (inp : List Int) (fuel : Nat) : RS := ⟨List.replicate (sizes p.vars).toNat 0, inp, [], fuel⟩
def RunIs (p : Pr) (inp : List Int) (fuel : Nat) (c : Int) (s : RS) : Prop := ∃ g r, listG (stG p.vars g) p.body (start p inp fuel) = some r ∧ endR (finR r) = (c, s)
theorem run_total (p : Pr) (inp : List Int) (fuel : Nat) : ∃ c s, RunIs p inp fuel c s := by
  obtain ⟨g, r, e⟩ := listG_total (stG_total p.vars (start p inp fuel).left) p.body (start p inp fuel) (Nat.le_refl _)
  exact ⟨_, _, g, r, e, rfl⟩
theorem run_once {p : Pr} {inp : List Int} {fuel : Nat} {c c' : Int} {s s' : RS} (h : RunIs p inp fuel c s) (k : RunIs p inp fuel c' s') : c = c' ∧ s = s' := by
  obtain ⟨g, r, e, f⟩ := h
  obtain ⟨g', r', e', f'⟩ := k
  have a := listG_mono (fun x s r h => stG_le p.vars (Nat.le_max_left g g') h) _ _ _ e
  have b := listG_mono (fun x s r h => stG_le p.vars (Nat.le_max_right g g') h) _ _ _ e'
  rw [a] at b
  cases b
  rw [f] at f'
  cases f'
  exact ⟨rfl, rfl⟩
end Go.Proofs.Ytbbghdkndbpmmaa

namespace Go.Proofs.Ytbbghdkndbpmmaa
open Go X
set_option maxHeartbeats 1000000
section
variable {P : Program} {ρ : Env} {h : Heap} {ty : TypeId} {σ : PH} {Γ : List HP}
theorem Wr.makeSlice {T e n m : Nat} {x y : Operand} {kx ky : IntKind} {r re : Ty} (hT : tyOf P T = some r) (hk : r.k = .slice e) (hE : tyOf P e = some re) (hx : ev ρ x = .int kx n) (hy : ev ρ y = .int ky n) (hn : h.size = m) (hz : re.zero.length = re.size) (hb : re.bytes * n ≤ 16777216) (hs : n ≤ 16777216) (h0 : n * re.size ≠ 0) :
    Wr P ρ h (.makeSlice T x y) ty (fun v' h' => v' = .slice (some ⟨m, 0, none⟩) n n ∧ h' = h.push (.cells ((List.range (n * re.size)).map fun k => re.zero.getD (k % re.size) undef).toArray e (0, 0))) X.noP := by
  subst hn
  refine Wr.run fun d pos af gd w hw => ?_
  obtain ⟨dd, i, z, e1, e2, -⟩ := tyOf_spec hT
  obtain ⟨dd', i', z', e1', e2', e3', e4', e5', e6', e7'⟩ := tyOf_spec hE
  rw [hk] at e2
  cases dd <;> simp [kindOf] at e2
  rw [e2] at e1
  clear e2
  have hzs : z'.cells.size = re.size := by rw [← Array.length_toList, e7', hz]
  have hzero : (Array.range (n * re.size)).map (fun k => z'.cells[k % z'.cells.size]!) = ((List.range (n * re.size)).map fun k => re.zero.getD (k % re.size) undef).toArray := by
    apply Array.ext'
    simp only [Array.toList_map, Array.toList_range, hzs]
    apply List.map_congr_left
    intro k hk
    have hlt : k % re.size < re.size := Nat.mod_lt _ (by
      rcases Nat.eq_zero_or_pos re.size with h0 | h0
      · rw [h0, Nat.mul_zero] at hk; simp at hk
      · exact h0)
    rw [← e7']
    have hlt' : k % re.size < z'.cells.size := by rw [hzs]; exact hlt
    simp [getElem!_pos, hlt', List.getD_eq_getElem?_getD]
  have hwn : IntKind.i64.wrap (n : Int) = n := X.wrap64_in (by omega) (by omega)
  have hroom : ¬ (n * re.bytes > roomBytes) := by rw [Nat.mul_comm]; simp only [roomBytes]; omega
  have hbi : ¬ ((re.bytes : Int) * n > 2 ^ 48) := by
    have : ((re.bytes * n : Nat) : Int) ≤ 16777216 := by omega
    rw [Int.natCast_mul] at this
    omega
  refine ⟨_, w.alloc (.cells ((List.range (n * re.size)).map fun k => re.zero.getD (k % re.size) undef).toArray e (0, 0)), ?_, ⟨rfl, rfl, rfl⟩, rfl, by rw [← hw]; rfl⟩
  simp only [execOp, Instr.makeSlice, Sem.run_bind, run_underlying e1, Result.andThen_ok, sizeOf, typeInfo, run_program, e3', e4', e5', Sem.run_pure, zeroValue, e6', hx, hy, asInt, asIntOf, Result.andThen_ok, hwn]
  rw [if_neg (by simp; omega)]
  simp only [askRoom, if_neg hroom, Int.toNat_natCast, Sem.run_bind, Sem.run_pure, Result.andThen_ok, sizeOf, typeInfo, run_program, e3', e4', zeroValue, e6', if_neg h0]
  rw [hzero]
  simp [newRow, hw]
theorem X.WrA.mkS {T e n : Nat} {x y : Operand} {kx ky : IntKind} {r re : Ty} {zs : List Value} (hT : tyOf P T = some r) (hk : r.k = .slice e) (hE : tyOf P e = some re) (hx : ev ρ x = .int kx n) (hy : ev ρ y = .int ky n) (hz : re.zero.length = re.size) (hb : re.bytes * n ≤ 16777216) (hs : n ≤ 16777216) (h0 : n * re.size ≠ 0)
    (hzs : ((List.range (n * re.size)).map fun k => re.zero.getD (k % re.size) undef) = zs) : WrA P ρ σ Γ (.makeSlice T x y) ty (fun v' σ' Γ' => ∃ g, v' = .slice (some ⟨g, 0, none⟩) n n ∧ σ = σ' ∧ Γ' = blk g zs e :: Γ) noPA :=
  Wr.toA (Q := fun h v h' => v = .slice (some ⟨h.size, 0, none⟩) n n ∧ h' = h.push (cellsOf zs e)) (fun _ _ => by subst hzs; exact Wr.makeSlice hT hk hE hx hy rfl hz hb hs h0) fun f h v h' hh ⟨e1, e2⟩ => ⟨σ, _, ⟨h.size, e1, rfl, rfl⟩, e2 ▸ hh.alloc _ _⟩
end
end Go.Proofs.Ytbbghdkndbpmmaa

namespace Go.Proofs.Ytbbghdkndbpmmaa
open Go X
set_option maxHeartbeats 1000000
section
variable {P : Program} {ρ : Env} {h : Heap} {ty : TypeId} {σ : PH} {Γ : List HP}
theorem Wr.makeNone {T e m : Nat} {x y : Operand} {kx ky : IntKind} {r re : Ty} (hT : tyOf P T = some r) (hk : r.k = .slice e) (hE : tyOf P e = some re) (hx : ev ρ x = .int kx 0) (hy : ev ρ y = .int ky 0) (hn : h.size = m) :
    Wr P ρ h (.makeSlice T x y) ty (fun v' h' => v' = .slice (some ⟨m, 0, none⟩) 0 0 ∧ h' = h.push (.cells ([] : List Value).toArray e (0, 0))) X.noP := by
  subst hn
  refine Wr.run fun d pos af gd w hw => ?_
  obtain ⟨dd, i, z, e1, e2, -⟩ := tyOf_spec hT
  obtain ⟨dd', i', z', e1', e2', e3', e4', e5', e6', e7'⟩ := tyOf_spec hE
  rw [hk] at e2
  cases dd <;> simp [kindOf] at e2
  rw [e2] at e1
  clear e2
  have hwn : IntKind.i64.wrap 0 = 0 := rfl
  have hroom : ¬ (0 * re.bytes > roomBytes) := by simp
  refine ⟨_, w.alloc (.cells ([] : List Value).toArray e (0, 0)), ?_, ⟨rfl, rfl, rfl⟩, rfl, by rw [← hw]; rfl⟩
  simp only [execOp, Instr.makeSlice, Sem.run_bind, run_underlying e1, Result.andThen_ok, sizeOf, typeInfo, run_program, e3', e4', e5', Sem.run_pure, zeroValue, e6', hx, hy, asInt, asIntOf, Result.andThen_ok, hwn]
  rw [if_neg (by simp)]
  simp [askRoom, newRow, hw, sizeOf, typeInfo, e3']
  congr 2
  apply Array.ext'
  simp
theorem X.WrA.mkA {T e n : Nat} {x y : Operand} {kx ky : IntKind} {r re : Ty} {zs : List Value} (hT : tyOf P T = some r) (hk : r.k = .slice e) (hE : tyOf P e = some re) (hx : ev ρ x = .int kx n) (hy : ev ρ y = .int ky n) (hz : re.zero.length = re.size) (hs1 : re.size = 1) (hb : re.bytes * n ≤ 16777216) (hs : n ≤ 16777216)
    (hzs : ((List.range (n * re.size)).map fun k => re.zero.getD (k % re.size) undef) = zs) : WrA P ρ σ Γ (.makeSlice T x y) ty (fun v' σ' Γ' => ∃ g, v' = .slice (some ⟨g, 0, none⟩) n n ∧ σ = σ' ∧ Γ' = blk g zs e :: Γ) noPA := by
  cases n with
  | zero =>
    have hz0 : zs = [] := by rw [← hzs]; simp
    subst hz0
    exact Wr.toA (Q := fun h v h' => v = .slice (some ⟨h.size, 0, none⟩) 0 0 ∧ h' = h.push (cellsOf ([] : List Value) e)) (fun _ _ => Wr.makeNone hT hk hE hx hy rfl) fun f h v h' hh ⟨e1, e2⟩ => ⟨σ, _, ⟨h.size, e1, rfl, rfl⟩, e2 ▸ hh.alloc _ _⟩
  | succ n => exact X.WrA.mkS hT hk hE hx hy hz hb hs (by rw [hs1]; omega) hzs
end
theorem zeros_ints (n : Nat) {z : List Value} (hz : z = [i64 0]) : ((List.range (n * 1)).map fun k => z.getD (k % 1) undef) = ints (List.replicate n 0) := by
  subst hz
  rw [ints, Nat.mul_one]
  induction n with
  | zero => rfl
  | succ n ih => rw [List.range_succ, List.map_append, ih, List.replicate_succ']; simp [Nat.mod_one]
/-- The closure that ends a run. -/
theorem gone_zero : (Try.prog.info? 98).bind (·.zero) = some (.int .i64 0) := by kernel_rfl
theorem any_if : ∃ ms, Try.prog.underlying 20 = some (.interface ms) := ⟨#[], by kernel_rfl⟩
section
variable (σ : PH) (g10 g5 g6 g7 gr gc nc : Nat) (v0 v1 vi : Value) (po : Option Addr) (no co fuel left : Nat) (hf : fuel ≤ 3000) (hs : left ≤ fuel) (r0 r1 : List Value) (hr0 : r0.length = 3) (hr1 : r1.length = 1)
include hf hs hr0 hr1
/-- The closure that ends a run: the run came to its end. -/
theorem recov_n :
    CallsDA Try.prog 52 #[ptr g10, ptr g5, ptr g6, ptr g7] .returning σ [blk g10 [ptr gr] 95, blk g5 [i64 fuel] 3, blk g6 r0 63, blk g7 r1 3, blk gr [v0, v1, .slice (some ⟨gc, 0, none⟩) nc nc, vi, .slice po no co, i64 left] 97]
      (fun u' σ' Γ' => settle u' = .returning ∧ σ = σ' ∧ Γ' = [blk g6 [i64 0, .slice po no co, .slice (some ⟨gc, 0, none⟩) nc nc] 63, blk g7 [i64 ((fuel : Int) - left)] 3]) := by
  obtain ⟨ms, hms⟩ := any_if
  refine CallsDA.recovers4 Try.func52 rfl rfl rfl rfl ?_
  dsimp only [recv]
  have hspl : splice r0 0 [i64 0, .slice po no co, .slice (some ⟨gc, 0, none⟩) nc nc] = [i64 0, .slice po no co, .slice (some ⟨gc, 0, none⟩) nc nc] := splice_all hr0
  have hspl2 : splice r1 0 [i64 ((fuel : Int) - left)] = [i64 ((fuel : Int) - left)] := splice_all hr1
  have hfit : 0 + ty63.size ≤ r0.length := by rw [hr0]; exact Nat.le_refl _
  have hfit2 : ∀ _ : Unit, 0 + ty3.size ≤ r1.length := fun _ => by rw [hr1]; exact Nat.le_refl _
  refine zS ?_; refine zR ?_; refine zO rfl Rd.mv ?_
  refine zO rfl (Rd.tassertNil (tyrow rfl) rfl gone_zero rfl) ?_
  refine zO rfl Rd.mv ?_
  refine zO rfl (Rd.extract rfl rfl) ?_
  refine zO rfl (Rd.extract rfl rfl) ?_
  refine zO rfl Rd.asg ?_; refine zO rfl Rd.asg ?_; refine zN ?_; refine zT ?_; refine zS ?_; refine zS ?_; refine zR ?_; refine zO rfl Rd.mv ?_
  refine zO rfl (Rd.neqIfF hms rfl) ?_
  refine zO rfl Rd.mv ?_
  first | ((first | refine zW ?_ | refine zQ ?_); refine zO rfl Rd.mv ?_) | refine zU ?_ | refine zV ?_ | refine zZ ?_
  first | ((first | refine zW ?_ | refine zQ ?_); refine zO rfl (by first | exact Rd.notp rfl | exact Rd.not rfl) ?_) | refine zU ?_ | refine zV ?_ | refine zZ ?_
  refine zO rfl (by first | exact Rd.pT rfl | exact Rd.pF rfl | exact Rd.pP rfl) ?_
  refine zN ?_; refine zT ?_
  refine XA.condF rfl rfl ?_
  refine XA.skip ?_
  refine zT ?_
  refine XA.draw (by kernel_rfl) _ _ [16, 17] [(0, .pu), (1, .rd), (2, .pu), (3, .pu), (4, .rd), (5, .rd), (6, .pu), (7, .pu), (8, .rd), (9, .pu), (10, .rd), (11, .rd), (12, .pu), (13, .pu), (14, .rd), (15, .pu), (16, .wr), (17, .wr)] (by kernel_rfl) (PH.sub.refl _) (Ent.sel (R := blk g10 _ _) (by ((repeat (first | with_reducible exact Sel.head | apply Sel.tail)); (first | done | fail))) (Ent.sel (R := blk g5 _ _) (by ((repeat (first | with_reducible exact Sel.head | apply Sel.tail)); (first | done | fail))) (Ent.sel (R := blk gr _ _) (by ((repeat (first | with_reducible exact Sel.head | apply Sel.tail)); (first | done | fail))) (Ent.nil _)))) ?_
  refine XPA.pu rfl rfl Gd.free Rd.mv ?_
  refine XPA.rd rfl rfl Gd.free (Rd.ldC rfl (tyrow rfl) rfl) ?_
  refine XPA.pu rfl rfl Gd.free (Rd.nilCheck rfl) ?_
  refine XPA.pu rfl rfl Gd.free (Rd.fA rfl) ?_
  refine XPA.rd rfl rfl Gd.free (Rd.ldC rfl (tyrow rfl) rfl) ?_
  refine XPA.rd rfl rfl Gd.free (Rd.ldC rfl (tyrow rfl) rfl) ?_
  refine XPA.pu rfl rfl Gd.free (Rd.nilCheck rfl) ?_
  refine XPA.pu rfl rfl Gd.free (Rd.fA rfl) ?_
  refine XPA.rd rfl rfl Gd.free (Rd.ldC rfl (tyrow rfl) rfl) ?_
  refine XPA.pu rfl rfl Gd.free (Rd.bl (fun _ _ => tyrow) rfl rfl rfl) ?_
  refine XPA.rd rfl rfl Gd.free (Rd.ldC rfl (tyrow rfl) rfl) ?_
  refine XPA.rd rfl rfl Gd.free (Rd.ldC rfl (tyrow rfl) rfl) ?_
  refine XPA.pu rfl rfl Gd.free (Rd.nilCheck rfl) ?_
  refine XPA.pu rfl rfl Gd.free (Rd.fA rfl) ?_
  refine XPA.rd rfl rfl Gd.free (Rd.ldC rfl (tyrow rfl) rfl) ?_
  refine XPA.pu rfl rfl Gd.free (by first | exact Rd.sbi rfl rfl | exact Rd.sub rfl rfl) ?_
  refine XPA.wrZ0 rfl rfl Gd.free (by kernel_rfl) (WrA.st (tyrow rfl) rfl) ?_
  rintro _ _ _ ⟨rfl, rfl, rfl⟩
  refine XPA.wrZ0 rfl rfl Gd.free (by kernel_rfl) (WrA.st (tyrow rfl) rfl) ?_
  rintro _ _ _ ⟨rfl, rfl, rfl⟩
  refine XPA.nil ?_
  exact bodyA.normal (ResA.none rfl) zE ⟨rfl, rfl, rfl⟩
/-- .. it gave up. -/
theorem recov_p (c : Int) :
    CallsDA Try.prog 52 #[ptr g10, ptr g5, ptr g6, ptr g7] (.panicking (goneC c)) σ [blk g10 [ptr gr] 95, blk g5 [i64 fuel] 3, blk g6 r0 63, blk g7 r1 3, blk gr [v0, v1, .slice (some ⟨gc, 0, none⟩) nc nc, vi, .slice po no co, i64 left] 97]
      (fun u' σ' Γ' => settle u' = .returning ∧ σ = σ' ∧ Γ' = [blk g6 [i64 c, .slice po no co, .slice (some ⟨gc, 0, none⟩) nc nc] 63, blk g7 [i64 ((fuel : Int) - left)] 3]) := by
  obtain ⟨ms, hms⟩ := any_if
  refine CallsDA.recovers4 Try.func52 rfl rfl rfl rfl ?_
  dsimp only [recv, goneC]
  have hspl : splice r0 0 [i64 c, .slice po no co, .slice (some ⟨gc, 0, none⟩) nc nc] = [i64 c, .slice po no co, .slice (some ⟨gc, 0, none⟩) nc nc] := splice_all hr0
  have hspl2 : splice r1 0 [i64 ((fuel : Int) - left)] = [i64 ((fuel : Int) - left)] := splice_all hr1
  have hfit : 0 + ty63.size ≤ r0.length := by rw [hr0]; exact Nat.le_refl _
  have hfit2 : ∀ _ : Unit, 0 + ty3.size ≤ r1.length := fun _ => by rw [hr1]; exact Nat.le_refl _
  refine zS ?_; refine zR ?_; refine zO rfl Rd.mv ?_
  refine zO rfl (Rd.tassert (tyrow rfl) rfl rfl) ?_
  refine zO rfl Rd.mv ?_
  refine zO rfl (Rd.extract rfl rfl) ?_
  refine zO rfl (Rd.extract rfl rfl) ?_
  refine zO rfl Rd.asg ?_; refine zO rfl Rd.asg ?_; refine zN ?_; refine zT ?_; refine zS ?_; refine zS ?_; refine zR ?_; refine zO rfl Rd.mv ?_
  refine zO rfl (Rd.neqIfT hms rfl) ?_
  refine zO rfl Rd.mv ?_
  first | ((first | refine zW ?_ | refine zQ ?_); refine zO rfl Rd.mv ?_) | refine zU ?_ | refine zV ?_ | refine zZ ?_
  first | ((first | refine zW ?_ | refine zQ ?_); refine zO rfl (by first | exact Rd.notp rfl | exact Rd.not rfl) ?_) | refine zU ?_ | refine zV ?_ | refine zZ ?_
  refine zO rfl (by first | exact Rd.pT rfl | exact Rd.pF rfl | exact Rd.pP rfl) ?_
  refine zN ?_; refine zT ?_
  refine XA.condF rfl rfl ?_
  refine XA.skip ?_
  refine zT ?_
  refine XA.draw (by kernel_rfl) _ _ [16, 17] [(0, .pu), (1, .rd), (2, .pu), (3, .pu), (4, .rd), (5, .rd), (6, .pu), (7, .pu), (8, .rd), (9, .pu), (10, .rd), (11, .rd), (12, .pu), (13, .pu), (14, .rd), (15, .pu), (16, .wr), (17, .wr)] (by kernel_rfl) (PH.sub.refl _) (Ent.sel (R := blk g10 _ _) (by ((repeat (first | with_reducible exact Sel.head | apply Sel.tail)); (first | done | fail))) (Ent.sel (R := blk g5 _ _) (by ((repeat (first | with_reducible exact Sel.head | apply Sel.tail)); (first | done | fail))) (Ent.sel (R := blk gr _ _) (by ((repeat (first | with_reducible exact Sel.head | apply Sel.tail)); (first | done | fail))) (Ent.nil _)))) ?_
  refine XPA.pu rfl rfl Gd.free Rd.mv ?_
  refine XPA.rd rfl rfl Gd.free (Rd.ldC rfl (tyrow rfl) rfl) ?_
  refine XPA.pu rfl rfl Gd.free (Rd.nilCheck rfl) ?_
  refine XPA.pu rfl rfl Gd.free (Rd.fA rfl) ?_
  refine XPA.rd rfl rfl Gd.free (Rd.ldC rfl (tyrow rfl) rfl) ?_
  refine XPA.rd rfl rfl Gd.free (Rd.ldC rfl (tyrow rfl) rfl) ?_
  refine XPA.pu rfl rfl Gd.free (Rd.nilCheck rfl) ?_
  refine XPA.pu rfl rfl Gd.free (Rd.fA rfl) ?_
  refine XPA.rd rfl rfl Gd.free (Rd.ldC rfl (tyrow rfl) rfl) ?_
  refine XPA.pu rfl rfl Gd.free (Rd.bl (fun _ _ => tyrow) rfl rfl rfl) ?_
  refine XPA.rd rfl rfl Gd.free (Rd.ldC rfl (tyrow rfl) rfl) ?_
  refine XPA.rd rfl rfl Gd.free (Rd.ldC rfl (tyrow rfl) rfl) ?_
  refine XPA.pu rfl rfl Gd.free (Rd.nilCheck rfl) ?_
  refine XPA.pu rfl rfl Gd.free (Rd.fA rfl) ?_
  refine XPA.rd rfl rfl Gd.free (Rd.ldC rfl (tyrow rfl) rfl) ?_
  refine XPA.pu rfl rfl Gd.free (by first | exact Rd.sbi rfl rfl | exact Rd.sub rfl rfl) ?_
  refine XPA.wrZ0 rfl rfl Gd.free (by kernel_rfl) (WrA.st (tyrow rfl) rfl) ?_
  rintro _ _ _ ⟨rfl, rfl, rfl⟩
  refine XPA.wrZ0 rfl rfl Gd.free (by kernel_rfl) (WrA.st (tyrow rfl) rfl) ?_
  rintro _ _ _ ⟨rfl, rfl, rfl⟩
  refine XPA.nil ?_
  exact bodyA.normal (ResA.none rfl) zE ⟨rfl, rfl, rfl⟩
end
theorem ResA.cct {P : Program} {ρ : Env} {σ : PH} {Γ : List HP} {fn : Func} {t1 t2 t3 : Tmp} {T1 T2 : TypeId} {g1 o1 g2 o2 : Nat} {v1 v2 v3 : Value} (hf : fn.results = #[.cell t1 T1, .cell t2 T2, .tmp t3]) (h1 : ρ t1 = .pointer (some ⟨g1, o1, none⟩)) (h2 : ρ t2 = .pointer (some ⟨g2, o2, none⟩)) (h3 : ρ t3 = v3)
    (l1 : ∀ h, Ho σ Γ h → Ld P h T1 g1 o1 v1) (l2 : ∀ h, Ho σ Γ h → Ld P h T2 g2 o2 v2) : ResA P fn ρ σ Γ (.tuple #[v1, v2, v3]) := fun h hh w a hw he => by
  have e1 := he.get t1; rw [h1] at e1; simp at e1
  have e2 := he.get t2; rw [h2] at e2; simp at e2
  have e3 := he.get t3; rw [h3] at e3; simp at e3
  simp [results, hf, e1, e2, e3, asAddr, l1 h hh w hw, l2 h hh w hw]
/-- What Run hands back. -/
def RunPost (σ : PH) (p : Pr) (inp : List Int) (fuel : Int) : Value → PH → List HP → Prop := fun v σ' Γ' => σ.sub σ' ∧ Γ' = [] ∧ if checkP p ≠ 0 then v = .tuple #[.agg #[i64 0, .slice none 0 0, .slice none 0 0], i64 0, i64 (checkP p)]
  else if 40 < inp.length ∨ fuel < 0 ∨ 3000 < fuel then v = .tuple #[.agg #[i64 0, .slice none 0 0, .slice none 0 0], i64 0, i64 1]
  else ∃ (c : Int) (s : RS) (vo vc : Value), RunIs p inp fuel.toNat c s ∧ v = .tuple #[.agg #[i64 c, vo, vc], i64 (fuel - s.left), i64 0] ∧ PInts σ' vo s.out ∧ PInts σ' vc s.cells ∧ s.left ≤ fuel.toNat
theorem CallsDA.conv {P : Program} {f : FuncId} {vs : Array Value} {u : FrameMode} {σ : PH} {Γ Γ0 Δ : List HP} {R R' : FrameMode → PH → List HP → Prop} (hc : CallsDA P f vs u σ Γ0 R) (he : Ent Γ (Γ0 ++ Δ))
    (k : ∀ u' σ' Γ' fr h, R u' σ' Γ' → Holds σ' (Γ' ++ Δ) fr h → ∃ σ2 Γ2, R' u' σ2 Γ2 ∧ Holds σ2 Γ2 fr h) : CallsDA P f vs u σ Γ R' := fun fr h hh w hw => by
  obtain ⟨f', a, b⟩ := (hh.ent he).aside
  refine (hc f' h a w hw).mono ?_
  rintro e u' w' ⟨h1, h2, σ', Γ', h3, h4⟩
  obtain ⟨σ2, Γ2, h5, h6⟩ := k u' σ' Γ' fr w'.heap h3 (b _ _ _ h4)
  exact ⟨h1, h2, σ2, Γ2, h5, h6⟩
theorem run_fin (σ σ0 : PH) (p : Pr) (inp : List Int) (fn : Func) (hfn : fn.results = #[.cell 6 63, .cell 7 3, .tmp 8]) (ρ : Env) (Γ : List HP) (g10 g5 g6 g7 gr gc nc : Nat) (v0 v1 vi : Value) (po : Option Addr) (co fuel left : Nat) (cells out rin : List Int) (c : Int) (u : FrameMode) (r0 r1 : List Value)
    (hs0 : σ0.sub σ) (h6 : ρ 6 = ptr g6) (h7 : ρ 7 = ptr g7) (h8 : ρ 8 = i64 0) (hc0 : checkP p = 0) (hi : inp.length ≤ 40) (hf : fuel ≤ 3000) (hl : left ≤ fuel) (hcl : cells.length = nc) (hnm : nc ≤ 48) (hrun : RunIs p inp fuel c ⟨cells, rin, out, left⟩)
    (hrec : CallsDA Try.prog 52 #[ptr g10, ptr g5, ptr g6, ptr g7] u σ [blk g10 [ptr gr] 95, blk g5 [i64 fuel] 3, blk g6 r0 63, blk g7 r1 3, blk gr [v0, v1, .slice (some ⟨gc, 0, none⟩) nc nc, vi, .slice po out.length co, i64 left] 97]
      (fun u' σ' Γ' => settle u' = .returning ∧ σ = σ' ∧ Γ' = [blk g6 [i64 c, .slice po out.length co, .slice (some ⟨gc, 0, none⟩) nc nc] 63, blk g7 [i64 ((fuel : Int) - left)] 3]))
    (hΓ : Ent Γ ([blk g10 [ptr gr] 95, blk g5 [i64 fuel] 3, blk g6 r0 63, blk g7 r1 3, blk gr [v0, v1, .slice (some ⟨gc, 0, none⟩) nc nc, vi, .slice po out.length co, i64 left] 97] ++ [blk gc (ints cells) 2, lst 2 1 (.slice po out.length co) out.length (ints out)])) :
    CallsDA Try.prog 52 #[ptr g10, ptr g5, ptr g6, ptr g7] u σ Γ (fun u' σ' Γ' => settle u' = .returning ∧ ∃ v, ResA Try.prog fn ρ σ' Γ' v ∧ ∃ Δ, Ent Γ' Δ ∧ RetA (RunPost σ0 p inp fuel) (.returned v) σ' Δ) := by
  refine CallsDA.conv hrec hΓ ?_
  rintro u' σ' Γ' fr h ⟨hu, rfl, rfl⟩ hh
  simp only [List.cons_append, List.nil_append] at hh
  obtain ⟨σ2, ⟨⟩, hz, hs2, hh2⟩ := holds_freeze' (R := blk gc (ints cells) 2) hh (by ((repeat (first | with_reducible exact Sel.head | apply Sel.tail)); (first | done | fail))) blk_frz blk_frz_mono
  obtain ⟨σ3, ⟨⟩, hy, hs3, hh3⟩ := holds_freeze' (R := lst 2 1 (.slice po out.length co) _ _) hh2 (by ((repeat (first | with_reducible exact Sel.head | apply Sel.tail)); (first | done | fail))) lst_frz lst_frz_mono
  refine ⟨σ3, _, ⟨hu, _, ResA.cct hfn h6 h7 h8 (Ld.atBlk (tyrow rfl) rfl (by ((repeat (first | with_reducible exact Sel.head | apply Sel.tail)); (first | done | fail))) rfl (by first | exact take0 (by first | rfl | assumption | (refine (ints_len _).trans ?_; assumption) | (simp [*]; (first | done | fail))) | assumption | exact take_app (by first | rfl | assumption | (refine (ints_len _).trans ?_; assumption) | (simp [*]; (first | done | fail))) | (conv => lhs; simp only [List.drop_succ_cons, List.drop_zero, List.take_succ_cons, List.take_zero])) (by first | rfl | assumption | (refine (ints_len _).trans ?_; assumption) | (simp [*]; (first | done | fail)))) (Ld.atC (tyrow rfl) rfl (by first | (exact AtC.blk (by ((repeat (first | with_reducible exact Sel.head | apply Sel.tail)); (first | done | fail))) (by first | rfl | assumption)) | (exact AtC.per (by first | assumption)) | (exact AtC.lst (by ((repeat (first | with_reducible exact Sel.head | apply Sel.tail)); (first | done | fail))) (by first | rfl | assumption)))), [], Ent.nil _, (hs0.trans hs2).trans hs3, rfl, ?_⟩, hh3⟩
  rw [if_neg (fun h => h hc0), if_neg (by omega)]
  refine ⟨c, ⟨cells, rin, out, left⟩, _, _, hrun, rfl, ⟨po, co, rfl, hy.1, hy.2.1, ?_⟩, ⟨some ⟨gc, 0, none⟩, nc, by simp [hcl], by simp [hcl], by simp only [maxLen]; omega, fun _ => ⟨gc, 0, rfl, hz.mono hs3⟩⟩, hl⟩
  intro h0
  exact hy.2.2.2 h0
theorem run_a (σ : PH) (cs : List Value) (p : Pr) (iv : Value) (inp : List Int) (fuel : Int) (hp : PrAt σ cs p) (hi : PInts σ iv inp) :
    CallsA Try.prog 34 #[.agg cs.toArray, iv, i64 fuel] σ [] (RetA (RunPost σ p inp fuel)) := by
  have hp0 := hp
  obtain ⟨vs, bs, rfl, hv, hb⟩ := hp
  obtain ⟨pv, cv, rfl, hvl, hvm⟩ := hv.shape
  obtain ⟨pi, ci, rfl, hil, him⟩ := hi.shape
  simp only [maxLen] at him
  have hspl : splice ty63.zero 0 [i64 0, .slice none 0 0, .slice none 0 0] = [i64 0, .slice none 0 0, .slice none 0 0] := rfl
  have hfit : 0 + ty63.size ≤ ty63.zero.length := Nat.le_refl _
  by_cases hc : checkP p ≠ 0
  · refine enterD3 Try.func34 rfl rfl rfl ?_
    refine XTA.seq ?_
    refine zR ?_
    refine XOA.wr0 rfl WrA.bx ?_
    rintro _ _ _ ⟨g3, rfl, rfl, rfl⟩
    refine XOA.wr0 rfl WrA.bx ?_
    rintro _ _ _ ⟨g5, rfl, rfl, rfl⟩
    refine XOA.wr0 rfl (WrA.alloc (tyrow rfl)) ?_
    rintro _ _ _ ⟨g6, rfl, rfl, rfl⟩
    refine XOA.wr0 rfl (WrA.alloc (tyrow rfl)) ?_
    rintro _ _ _ ⟨g7, rfl, rfl, rfl⟩
    refine zO rfl Rd.asg ?_; refine zN ?_; refine zT ?_
    refine XTA.seq ?_
    refine zS ?_; refine zR ?_; refine zO rfl (Rd.ldA rfl) ?_
    refine XOA.wr0 rfl (WrA.cE (check_a σ _ p hp0) rfl) ?_
    rintro _ _ _ ⟨_, ⟨rfl, rfl, rfl⟩, rfl⟩
    refine XOA.cl ?_
    refine zO rfl Rd.asg ?_; refine zN ?_; refine zT ?_; refine zS ?_; refine zR ?_; refine zO rfl Rd.mv ?_
    refine zO rfl (Rd.neq rfl rfl) ?_
    refine zN ?_; refine zT ?_
    refine XA.condT rfl (decide_eq_true hc) ?_
    refine zS ?_; refine zR ?_; refine zO rfl (Rd.ldA rfl) ?_; refine zO rfl Rd.mv ?_
    refine XOA.wr0 rfl (WrA.st (tyrow rfl) rfl) ?_
    rintro _ _ _ ⟨rfl, rfl, rfl⟩
    refine XOA.wr0 rfl (WrA.st (tyrow rfl) rfl) ?_
    rintro _ _ _ ⟨rfl, rfl, rfl⟩
    refine zO rfl Rd.asg ?_; refine zN ?_; refine zT ?_
    refine XA.ret ?_
    refine DA.thn_ret ?_
    exact bodyA.ret (ResA.cct rfl rfl rfl rfl (Ld.atBlk (tyrow rfl) rfl (by ((repeat (first | with_reducible exact Sel.head | apply Sel.tail)); (first | done | fail))) rfl (by first | exact take0 (by first | rfl | assumption | (refine (ints_len _).trans ?_; assumption) | (simp [*]; (first | done | fail))) | assumption | exact take_app (by first | rfl | assumption | (refine (ints_len _).trans ?_; assumption) | (simp [*]; (first | done | fail))) | (conv => lhs; simp only [List.drop_succ_cons, List.drop_zero, List.take_succ_cons, List.take_zero])) (by first | rfl | assumption | (refine (ints_len _).trans ?_; assumption) | (simp [*]; (first | done | fail)))) (Ld.atC (tyrow rfl) rfl (by first | (exact AtC.blk (by ((repeat (first | with_reducible exact Sel.head | apply Sel.tail)); (first | done | fail))) (by first | rfl | assumption)) | (exact AtC.per (by first | assumption)) | (exact AtC.lst (by ((repeat (first | with_reducible exact Sel.head | apply Sel.tail)); (first | done | fail))) (by first | rfl | assumption))))) (Ent.nil _) ⟨.refl _, rfl, by rw [if_pos hc]⟩
  · by_cases a1 : 40 < inp.length
    · refine enterD3 Try.func34 rfl rfl rfl ?_
      refine XTA.seq ?_
      refine zR ?_
      refine XOA.wr0 rfl WrA.bx ?_
      rintro _ _ _ ⟨g3, rfl, rfl, rfl⟩
      refine XOA.wr0 rfl WrA.bx ?_
      rintro _ _ _ ⟨g5, rfl, rfl, rfl⟩
      refine XOA.wr0 rfl (WrA.alloc (tyrow rfl)) ?_
      rintro _ _ _ ⟨g6, rfl, rfl, rfl⟩
      refine XOA.wr0 rfl (WrA.alloc (tyrow rfl)) ?_
      rintro _ _ _ ⟨g7, rfl, rfl, rfl⟩
      refine zO rfl Rd.asg ?_; refine zN ?_; refine zT ?_
      refine XTA.seq ?_
      refine zS ?_; refine zR ?_; refine zO rfl (Rd.ldA rfl) ?_
      refine XOA.wr0 rfl (WrA.cE (check_a σ _ p hp0) rfl) ?_
      rintro _ _ _ ⟨_, ⟨rfl, rfl, rfl⟩, rfl⟩
      refine XOA.cl ?_
      refine zO rfl Rd.asg ?_; refine zN ?_; refine zT ?_; refine zS ?_; refine zR ?_; refine zO rfl Rd.mv ?_
      refine zO rfl (Rd.neq rfl rfl) ?_
      refine zN ?_; refine zT ?_
      refine XA.condF rfl (decide_eq_false hc) ?_
      refine XA.skip ?_
      refine zT ?_
      refine XTA.seq ?_
      refine zS ?_; refine zR ?_; refine zO rfl Rd.mv ?_; refine zO rfl (Rd.lenSlice (tyrow rfl) rfl rfl) ?_
      refine zO rfl (Rd.gtr rfl rfl) ?_
      refine zO rfl Rd.mv ?_
      first | ((first | refine zW ?_ | refine zQ ?_); refine zO rfl (Rd.ldC rfl (tyrow rfl) rfl) ?_) | refine zU ?_ | refine zV ?_ | refine zZ ?_
      first | ((first | refine zW ?_ | refine zQ ?_); refine zO rfl (Rd.lss rfl rfl) ?_) | refine zU ?_ | refine zV ?_ | refine zZ ?_
      refine zO rfl (by first | exact Rd.pT rfl | exact Rd.pF rfl | exact Rd.pP rfl) ?_
      refine zO rfl Rd.mv ?_
      first | ((first | refine zW ?_ | refine zQ ?_); refine zO rfl (Rd.ldC rfl (tyrow rfl) rfl) ?_) | refine zU ?_ | refine zV ?_ | refine zZ ?_
      first | ((first | refine zW ?_ | refine zQ ?_); refine zO rfl (Rd.gtr rfl rfl) ?_) | refine zU ?_ | refine zV ?_ | refine zZ ?_
      refine zO rfl (by first | exact Rd.pT rfl | exact Rd.pF rfl | exact Rd.pP rfl) ?_
      refine zN ?_; refine zT ?_
      refine XA.condT rfl (by first | rfl | exact decide_eq_true (by omega)) ?_
      refine zS ?_; refine zR ?_; refine zO rfl (Rd.ldA rfl) ?_
      refine XOA.wr0 rfl (WrA.st (tyrow rfl) rfl) ?_
      rintro _ _ _ ⟨rfl, rfl, rfl⟩
      refine XOA.wr0 rfl (WrA.st (tyrow rfl) rfl) ?_
      rintro _ _ _ ⟨rfl, rfl, rfl⟩
      refine zO rfl Rd.asg ?_; refine zN ?_; refine zT ?_
      refine XA.ret ?_
      refine DA.thn_ret ?_
      exact bodyA.ret (ResA.cct rfl rfl rfl rfl (Ld.atBlk (tyrow rfl) rfl (by ((repeat (first | with_reducible exact Sel.head | apply Sel.tail)); (first | done | fail))) rfl (by first | exact take0 (by first | rfl | assumption | (refine (ints_len _).trans ?_; assumption) | (simp [*]; (first | done | fail))) | assumption | exact take_app (by first | rfl | assumption | (refine (ints_len _).trans ?_; assumption) | (simp [*]; (first | done | fail))) | (conv => lhs; simp only [List.drop_succ_cons, List.drop_zero, List.take_succ_cons, List.take_zero])) (by first | rfl | assumption | (refine (ints_len _).trans ?_; assumption) | (simp [*]; (first | done | fail)))) (Ld.atC (tyrow rfl) rfl (by first | (exact AtC.blk (by ((repeat (first | with_reducible exact Sel.head | apply Sel.tail)); (first | done | fail))) (by first | rfl | assumption)) | (exact AtC.per (by first | assumption)) | (exact AtC.lst (by ((repeat (first | with_reducible exact Sel.head | apply Sel.tail)); (first | done | fail))) (by first | rfl | assumption))))) (Ent.nil _) ⟨.refl _, rfl, by rw [if_neg hc, if_pos (by omega)]⟩
    by_cases a2 : fuel < 0
    · refine enterD3 Try.func34 rfl rfl rfl ?_
      refine XTA.seq ?_
      refine zR ?_
      refine XOA.wr0 rfl WrA.bx ?_
      rintro _ _ _ ⟨g3, rfl, rfl, rfl⟩
      refine XOA.wr0 rfl WrA.bx ?_
      rintro _ _ _ ⟨g5, rfl, rfl, rfl⟩
      refine XOA.wr0 rfl (WrA.alloc (tyrow rfl)) ?_
      rintro _ _ _ ⟨g6, rfl, rfl, rfl⟩
      refine XOA.wr0 rfl (WrA.alloc (tyrow rfl)) ?_
      rintro _ _ _ ⟨g7, rfl, rfl, rfl⟩
      refine zO rfl Rd.asg ?_; refine zN ?_; refine zT ?_
      refine XTA.seq ?_
      refine zS ?_; refine zR ?_; refine zO rfl (Rd.ldA rfl) ?_
      refine XOA.wr0 rfl (WrA.cE (check_a σ _ p hp0) rfl) ?_
      rintro _ _ _ ⟨_, ⟨rfl, rfl, rfl⟩, rfl⟩
      refine XOA.cl ?_
      refine zO rfl Rd.asg ?_; refine zN ?_; refine zT ?_; refine zS ?_; refine zR ?_; refine zO rfl Rd.mv ?_
      refine zO rfl (Rd.neq rfl rfl) ?_
      refine zN ?_; refine zT ?_
      refine XA.condF rfl (decide_eq_false hc) ?_
      refine XA.skip ?_
      refine zT ?_
      refine XTA.seq ?_
      refine zS ?_; refine zR ?_; refine zO rfl Rd.mv ?_; refine zO rfl (Rd.lenSlice (tyrow rfl) rfl rfl) ?_
      refine zO rfl (Rd.gtr rfl rfl) ?_
      refine zO rfl Rd.mv ?_
      first | ((first | refine zW ?_ | refine zQ ?_); refine zO rfl (Rd.ldC rfl (tyrow rfl) rfl) ?_) | refine zU ?_ | refine zV ?_ | refine zZ ?_
      first | ((first | refine zW ?_ | refine zQ ?_); refine zO rfl (Rd.lss rfl rfl) ?_) | refine zU ?_ | refine zV ?_ | refine zZ ?_
      refine zO rfl (by first | exact Rd.pT rfl | exact Rd.pF rfl | exact Rd.pP rfl) ?_
      refine zO rfl Rd.mv ?_
      first | ((first | refine zW ?_ | refine zQ ?_); refine zO rfl (Rd.ldC rfl (tyrow rfl) rfl) ?_) | refine zU ?_ | refine zV ?_ | refine zZ ?_
      first | ((first | refine zW ?_ | refine zQ ?_); refine zO rfl (Rd.gtr rfl rfl) ?_) | refine zU ?_ | refine zV ?_ | refine zZ ?_
      refine zO rfl (by first | exact Rd.pT rfl | exact Rd.pF rfl | exact Rd.pP rfl) ?_
      refine zN ?_; refine zT ?_
      refine XA.condT rfl (by first | rfl | exact decide_eq_true (by omega)) ?_
      refine zS ?_; refine zR ?_; refine zO rfl (Rd.ldA rfl) ?_
      refine XOA.wr0 rfl (WrA.st (tyrow rfl) rfl) ?_
      rintro _ _ _ ⟨rfl, rfl, rfl⟩
      refine XOA.wr0 rfl (WrA.st (tyrow rfl) rfl) ?_
      rintro _ _ _ ⟨rfl, rfl, rfl⟩
      refine zO rfl Rd.asg ?_; refine zN ?_; refine zT ?_
      refine XA.ret ?_
      refine DA.thn_ret ?_
      exact bodyA.ret (ResA.cct rfl rfl rfl rfl (Ld.atBlk (tyrow rfl) rfl (by ((repeat (first | with_reducible exact Sel.head | apply Sel.tail)); (first | done | fail))) rfl (by first | exact take0 (by first | rfl | assumption | (refine (ints_len _).trans ?_; assumption) | (simp [*]; (first | done | fail))) | assumption | exact take_app (by first | rfl | assumption | (refine (ints_len _).trans ?_; assumption) | (simp [*]; (first | done | fail))) | (conv => lhs; simp only [List.drop_succ_cons, List.drop_zero, List.take_succ_cons, List.take_zero])) (by first | rfl | assumption | (refine (ints_len _).trans ?_; assumption) | (simp [*]; (first | done | fail)))) (Ld.atC (tyrow rfl) rfl (by first | (exact AtC.blk (by ((repeat (first | with_reducible exact Sel.head | apply Sel.tail)); (first | done | fail))) (by first | rfl | assumption)) | (exact AtC.per (by first | assumption)) | (exact AtC.lst (by ((repeat (first | with_reducible exact Sel.head | apply Sel.tail)); (first | done | fail))) (by first | rfl | assumption))))) (Ent.nil _) ⟨.refl _, rfl, by rw [if_neg hc, if_pos (by omega)]⟩
    by_cases a3 : 3000 < fuel
    · refine enterD3 Try.func34 rfl rfl rfl ?_
      refine XTA.seq ?_
      refine zR ?_
      refine XOA.wr0 rfl WrA.bx ?_
      rintro _ _ _ ⟨g3, rfl, rfl, rfl⟩
      refine XOA.wr0 rfl WrA.bx ?_
      rintro _ _ _ ⟨g5, rfl, rfl, rfl⟩
      refine XOA.wr0 rfl (WrA.alloc (tyrow rfl)) ?_
      rintro _ _ _ ⟨g6, rfl, rfl, rfl⟩
      refine XOA.wr0 rfl (WrA.alloc (tyrow rfl)) ?_
      rintro _ _ _ ⟨g7, rfl, rfl, rfl⟩
      refine zO rfl Rd.asg ?_; refine zN ?_; refine zT ?_
      refine XTA.seq ?_
      refine zS ?_; refine zR ?_; refine zO rfl (Rd.ldA rfl) ?_
      refine XOA.wr0 rfl (WrA.cE (check_a σ _ p hp0) rfl) ?_
      rintro _ _ _ ⟨_, ⟨rfl, rfl, rfl⟩, rfl⟩
      refine XOA.cl ?_
      refine zO rfl Rd.asg ?_; refine zN ?_; refine zT ?_; refine zS ?_; refine zR ?_; refine zO rfl Rd.mv ?_
      refine zO rfl (Rd.neq rfl rfl) ?_
      refine zN ?_; refine zT ?_
      refine XA.condF rfl (decide_eq_false hc) ?_
      refine XA.skip ?_
      refine zT ?_
      refine XTA.seq ?_
      refine zS ?_; refine zR ?_; refine zO rfl Rd.mv ?_; refine zO rfl (Rd.lenSlice (tyrow rfl) rfl rfl) ?_
      refine zO rfl (Rd.gtr rfl rfl) ?_
      refine zO rfl Rd.mv ?_
      first | ((first | refine zW ?_ | refine zQ ?_); refine zO rfl (Rd.ldC rfl (tyrow rfl) rfl) ?_) | refine zU ?_ | refine zV ?_ | refine zZ ?_
      first | ((first | refine zW ?_ | refine zQ ?_); refine zO rfl (Rd.lss rfl rfl) ?_) | refine zU ?_ | refine zV ?_ | refine zZ ?_
      refine zO rfl (by first | exact Rd.pT rfl | exact Rd.pF rfl | exact Rd.pP rfl) ?_
      refine zO rfl Rd.mv ?_
      first | ((first | refine zW ?_ | refine zQ ?_); refine zO rfl (Rd.ldC rfl (tyrow rfl) rfl) ?_) | refine zU ?_ | refine zV ?_ | refine zZ ?_
      first | ((first | refine zW ?_ | refine zQ ?_); refine zO rfl (Rd.gtr rfl rfl) ?_) | refine zU ?_ | refine zV ?_ | refine zZ ?_
      refine zO rfl (by first | exact Rd.pT rfl | exact Rd.pF rfl | exact Rd.pP rfl) ?_
      refine zN ?_; refine zT ?_
      refine XA.condT rfl (by first | rfl | exact decide_eq_true (by omega)) ?_
      refine zS ?_; refine zR ?_; refine zO rfl (Rd.ldA rfl) ?_
      refine XOA.wr0 rfl (WrA.st (tyrow rfl) rfl) ?_
      rintro _ _ _ ⟨rfl, rfl, rfl⟩
      refine XOA.wr0 rfl (WrA.st (tyrow rfl) rfl) ?_
      rintro _ _ _ ⟨rfl, rfl, rfl⟩
      refine zO rfl Rd.asg ?_; refine zN ?_; refine zT ?_
      refine XA.ret ?_
      refine DA.thn_ret ?_
      exact bodyA.ret (ResA.cct rfl rfl rfl rfl (Ld.atBlk (tyrow rfl) rfl (by ((repeat (first | with_reducible exact Sel.head | apply Sel.tail)); (first | done | fail))) rfl (by first | exact take0 (by first | rfl | assumption | (refine (ints_len _).trans ?_; assumption) | (simp [*]; (first | done | fail))) | assumption | exact take_app (by first | rfl | assumption | (refine (ints_len _).trans ?_; assumption) | (simp [*]; (first | done | fail))) | (conv => lhs; simp only [List.drop_succ_cons, List.drop_zero, List.take_succ_cons, List.take_zero])) (by first | rfl | assumption | (refine (ints_len _).trans ?_; assumption) | (simp [*]; (first | done | fail)))) (Ld.atC (tyrow rfl) rfl (by first | (exact AtC.blk (by ((repeat (first | with_reducible exact Sel.head | apply Sel.tail)); (first | done | fail))) (by first | rfl | assumption)) | (exact AtC.per (by first | assumption)) | (exact AtC.lst (by ((repeat (first | with_reducible exact Sel.head | apply Sel.tail)); (first | done | fail))) (by first | rfl | assumption))))) (Ent.nil _) ⟨.refl _, rfl, by rw [if_neg hc, if_pos (by omega)]⟩
    have hc0 : checkP p = 0 := by omega
    obtain ⟨f, rfl⟩ : ∃ f : Nat, fuel = f := ⟨fuel.toNat, by omega⟩
    obtain ⟨hz, hvl2⟩ := check_small hc0
    obtain ⟨hV, -, h1, h48⟩ := check_valid hc0
    have hsz := sizes_nonneg h1
    obtain ⟨nc, hnc⟩ : ∃ nc : Nat, sizes p.vars = (nc : Int) := ⟨(sizes p.vars).toNat, by omega⟩
    have hcells := cells_a σ _ p hp0 hz hvl2
    rw [hnc] at hcells
    obtain ⟨c, s, hrun⟩ := run_total p inp f
    refine enterD3 Try.func34 rfl rfl rfl ?_
    refine XTA.seq ?_
    refine zR ?_
    refine XOA.wr0 rfl WrA.bx ?_
    rintro _ _ _ ⟨g3, rfl, rfl, rfl⟩
    refine XOA.wr0 rfl WrA.bx ?_
    rintro _ _ _ ⟨g5, rfl, rfl, rfl⟩
    refine XOA.wr0 rfl (WrA.alloc (tyrow rfl)) ?_
    rintro _ _ _ ⟨g6, rfl, rfl, rfl⟩
    refine XOA.wr0 rfl (WrA.alloc (tyrow rfl)) ?_
    rintro _ _ _ ⟨g7, rfl, rfl, rfl⟩
    refine zO rfl Rd.asg ?_; refine zN ?_; refine zT ?_
    refine XTA.seq ?_
    refine zS ?_; refine zR ?_; refine zO rfl (Rd.ldA rfl) ?_
    refine XOA.wr0 rfl (WrA.cE (check_a σ _ p hp0) rfl) ?_
    rintro _ _ _ ⟨_, ⟨rfl, rfl, rfl⟩, rfl⟩
    refine XOA.cl ?_
    refine zO rfl Rd.asg ?_; refine zN ?_; refine zT ?_; refine zS ?_; refine zR ?_; refine zO rfl Rd.mv ?_
    refine zO rfl (Rd.neq rfl rfl) ?_
    refine zN ?_; refine zT ?_
    refine XA.condF rfl (decide_eq_false hc) ?_
    refine XA.skip ?_
    refine zT ?_
    refine XTA.seq ?_
    refine zS ?_; refine zR ?_; refine zO rfl Rd.mv ?_; refine zO rfl (Rd.lenSlice (tyrow rfl) rfl rfl) ?_
    refine zO rfl (Rd.gtr rfl rfl) ?_
    refine zO rfl Rd.mv ?_
    first | ((first | refine zW ?_ | refine zQ ?_); refine zO rfl (Rd.ldC rfl (tyrow rfl) rfl) ?_) | refine zU ?_ | refine zV ?_ | refine zZ ?_
    first | ((first | refine zW ?_ | refine zQ ?_); refine zO rfl (Rd.lss rfl rfl) ?_) | refine zU ?_ | refine zV ?_ | refine zZ ?_
    refine zO rfl (by first | exact Rd.pT rfl | exact Rd.pF rfl | exact Rd.pP rfl) ?_
    refine zO rfl Rd.mv ?_
    first | ((first | refine zW ?_ | refine zQ ?_); refine zO rfl (Rd.ldC rfl (tyrow rfl) rfl) ?_) | refine zU ?_ | refine zV ?_ | refine zZ ?_
    first | ((first | refine zW ?_ | refine zQ ?_); refine zO rfl (Rd.gtr rfl rfl) ?_) | refine zU ?_ | refine zV ?_ | refine zZ ?_
    refine zO rfl (by first | exact Rd.pT rfl | exact Rd.pF rfl | exact Rd.pP rfl) ?_
    refine zN ?_; refine zT ?_
    refine XA.condF rfl (by first | rfl | exact decide_eq_false (by omega)) ?_
    refine XA.skip ?_
    refine zT ?_
    refine XTA.seq ?_
    refine XA.join [(10, 10), (29, 36)] (fun x : Nat × (Nat × Nat) => [(10, ptr x.1)]) (fun x σ' Γ' => σ = σ' ∧ Γ' = [blk x.1 [ptr x.2.1] 95, blk x.2.1 [.slice pv p.vars.length cv, bs, .slice (some ⟨x.2.2, 0, none⟩) nc nc, .slice pi inp.length ci, .slice none 0 0, i64 f] 97, blk x.2.2 (ints (List.replicate nc 0)) 2, blk g3 [.slice pv p.vars.length cv, bs] 25, blk g5 [i64 f] 3, blk g6 ty63.zero 63, blk g7 ty3.zero 3]) ?_ ?_
    · skip
      refine XA.drawQ (by kernel_rfl) _ _ [6, 9] 10 #[false, false, false, false, false, false, false, false, false, false] rfl rfl (by kernel_rfl) (PH.sub.refl _) (Ent.sel (R := blk g3 _ _) (by ((repeat (first | with_reducible exact Sel.head | apply Sel.tail)); (first | done | fail))) (Ent.sel (R := blk g5 _ _) (by ((repeat (first | with_reducible exact Sel.head | apply Sel.tail)); (first | done | fail))) (Ent.nil _))) ?_
      refine XQA.rd (i := 0) (listed' := #[true, false, false, false, false, false, false, false, false, false]) rfl rfl (by kernel_rfl) rfl Gd.free (Rd.ldA rfl) ?_
      refine XQA.rd (i := 1) (listed' := #[true, true, false, false, false, false, false, false, false, false]) rfl rfl (by kernel_rfl) rfl Gd.free (Rd.ldA rfl) ?_
      refine XQA.pu (i := 4) (listed' := #[true, true, false, false, true, false, false, false, false, false]) rfl rfl (by kernel_rfl) rfl Gd.free Rd.mv ?_
      refine XQA.rd (i := 5) (listed' := #[true, true, false, false, true, true, false, false, false, false]) rfl rfl (by kernel_rfl) rfl Gd.free (Rd.ldC rfl (tyrow rfl) rfl) ?_
      refine XQA.w2 (i := 2) (j := 8) (by kernel_rfl) ?_ ?_
      · refine XQA1.wr0 (listed' := #[true, true, true, false, true, true, false, false, false, false]) rfl rfl Gd.free (by kernel_rfl) rfl (WrA.cE hcells rfl) ?_
        rintro _ _ _ ⟨_, ⟨rfl, rfl, rfl⟩, rfl⟩
        refine ⟨⟨(by first | exact PH.sub.refl _ | assumption | (refine PH.sub.trans ?_ (by assumption); assumption)), zE⟩, XQA.re (by conv => lhs; dsimp only [List.cons_append, List.nil_append]) ?_⟩
        refine XQA.w2 (i := 3) (j := 8) (by kernel_rfl) ?_ ?_
        · refine XQA1.wr0 (listed' := #[true, true, true, true, true, true, false, false, false, false]) rfl rfl Gd.free (by kernel_rfl) rfl (X.WrA.mkA (n := nc) (zs := ints (List.replicate nc 0)) (tyrow rfl) rfl (tyrow rfl) rfl rfl rfl rfl (by show 8 * nc ≤ _; omega) (by omega) (zeros_ints nc rfl)) ?_
          rintro _ _ _ ⟨g32, rfl, rfl, rfl⟩
          refine ⟨⟨(by first | exact PH.sub.refl _ | assumption | (refine PH.sub.trans ?_ (by assumption); assumption)), zE⟩, XQA.re (by conv => lhs; dsimp only [List.cons_append, List.nil_append]) ?_⟩
          refine XQA.pu (i := 6) (listed' := #[true, true, true, true, true, true, true, false, false, false]) rfl rfl (by kernel_rfl) rfl Gd.free (Rd.bl (fun _ _ => tyrow) rfl rfl rfl) ?_
          refine XQA.w2 (i := 7) (j := 8) (by kernel_rfl) ?_ ?_
          · refine XQA1.wr0 (listed' := #[true, true, true, true, true, true, true, true, false, false]) rfl rfl Gd.free (by kernel_rfl) rfl WrA.bx ?_
            rintro _ _ _ ⟨g36, rfl, rfl, rfl⟩
            refine ⟨⟨(by first | exact PH.sub.refl _ | assumption | (refine PH.sub.trans ?_ (by assumption); assumption)), zE⟩, XQA.re (by conv => lhs; dsimp only [List.cons_append, List.nil_append]) ?_⟩
            refine XQA.w1 (i := 8) (by kernel_rfl) ?_
            refine XQA1.wr0 (listed' := #[true, true, true, true, true, true, true, true, true, false]) rfl rfl Gd.free (by kernel_rfl) rfl (WrA.alloc (tyrow rfl)) ?_
            rintro _ _ _ ⟨g10, rfl, rfl, rfl⟩
            refine ⟨⟨(by first | exact PH.sub.refl _ | assumption | (refine PH.sub.trans ?_ (by assumption); assumption)), zE⟩, XQA.re (by conv => lhs; dsimp only [List.cons_append, List.nil_append]) ?_⟩
            refine XQA.w1 (i := 9) (by kernel_rfl) ?_
            refine XQA1.wrZ0 (listed' := #[true, true, true, true, true, true, true, true, true, true]) rfl rfl Gd.free (by kernel_rfl) rfl (by kernel_rfl) (WrA.st (tyrow rfl) rfl) ?_
            rintro _ _ _ ⟨rfl, rfl, rfl⟩
            refine XQA.re (by conv => lhs; dsimp only [List.cons_append, List.nil_append]) ?_
            refine XQA.nil rfl ?_
            refine DA.thn_normal ⟨(by (repeat (first | exact Keep.refl _ _ | refine Keep.upd ?_ rfl | refine Keep.updO ?_ rfl | refine Keep.updN ?_)); (first | done | fail)), (g10, (g36, g32)), _, (by (repeat (first | exact trivial | refine ⟨rfl, ?_⟩ | refine ⟨Eq.trans rfl (congrArg Value.bool hmat.symm), ?_⟩)); (first | done | fail)), ?_, rfl, rfl⟩; exact zE
          · refine XQA1.wr0 (listed' := #[true, true, true, true, true, true, true, false, true, false]) rfl rfl Gd.free (by kernel_rfl) rfl (WrA.alloc (tyrow rfl)) ?_
            rintro _ _ _ ⟨g10, rfl, rfl, rfl⟩
            refine ⟨⟨(by first | exact PH.sub.refl _ | assumption | (refine PH.sub.trans ?_ (by assumption); assumption)), zE⟩, XQA.re (by conv => lhs; dsimp only [List.cons_append, List.nil_append]) ?_⟩
            refine XQA.w1 (i := 7) (by kernel_rfl) ?_
            refine XQA1.wr0 (listed' := #[true, true, true, true, true, true, true, true, true, false]) rfl rfl Gd.free (by kernel_rfl) rfl WrA.bx ?_
            rintro _ _ _ ⟨g36, rfl, rfl, rfl⟩
            refine ⟨⟨(by first | exact PH.sub.refl _ | assumption | (refine PH.sub.trans ?_ (by assumption); assumption)), zE⟩, XQA.re (by conv => lhs; dsimp only [List.cons_append, List.nil_append]) ?_⟩
            refine XQA.w1 (i := 9) (by kernel_rfl) ?_
            refine XQA1.wrZ0 (listed' := #[true, true, true, true, true, true, true, true, true, true]) rfl rfl Gd.free (by kernel_rfl) rfl (by kernel_rfl) (WrA.st (tyrow rfl) rfl) ?_
            rintro _ _ _ ⟨rfl, rfl, rfl⟩
            refine XQA.re (by conv => lhs; dsimp only [List.cons_append, List.nil_append]) ?_
            refine XQA.nil rfl ?_
            refine DA.thn_normal ⟨(by (repeat (first | exact Keep.refl _ _ | refine Keep.upd ?_ rfl | refine Keep.updO ?_ rfl | refine Keep.updN ?_)); (first | done | fail)), (g10, (g36, g32)), _, (by (repeat (first | exact trivial | refine ⟨rfl, ?_⟩ | refine ⟨Eq.trans rfl (congrArg Value.bool hmat.symm), ?_⟩)); (first | done | fail)), ?_, rfl, rfl⟩; exact zE
        · refine XQA1.wr0 (listed' := #[true, true, true, false, true, true, false, false, true, false]) rfl rfl Gd.free (by kernel_rfl) rfl (WrA.alloc (tyrow rfl)) ?_
          rintro _ _ _ ⟨g10, rfl, rfl, rfl⟩
          refine ⟨⟨(by first | exact PH.sub.refl _ | assumption | (refine PH.sub.trans ?_ (by assumption); assumption)), zE⟩, XQA.re (by conv => lhs; dsimp only [List.cons_append, List.nil_append]) ?_⟩
          refine XQA.w1 (i := 3) (by kernel_rfl) ?_
          refine XQA1.wr0 (listed' := #[true, true, true, true, true, true, false, false, true, false]) rfl rfl Gd.free (by kernel_rfl) rfl (X.WrA.mkA (n := nc) (zs := ints (List.replicate nc 0)) (tyrow rfl) rfl (tyrow rfl) rfl rfl rfl rfl (by show 8 * nc ≤ _; omega) (by omega) (zeros_ints nc rfl)) ?_
          rintro _ _ _ ⟨g32, rfl, rfl, rfl⟩
          refine ⟨⟨(by first | exact PH.sub.refl _ | assumption | (refine PH.sub.trans ?_ (by assumption); assumption)), zE⟩, XQA.re (by conv => lhs; dsimp only [List.cons_append, List.nil_append]) ?_⟩
          refine XQA.pu (i := 6) (listed' := #[true, true, true, true, true, true, true, false, true, false]) rfl rfl (by kernel_rfl) rfl Gd.free (Rd.bl (fun _ _ => tyrow) rfl rfl rfl) ?_
          refine XQA.w1 (i := 7) (by kernel_rfl) ?_
          refine XQA1.wr0 (listed' := #[true, true, true, true, true, true, true, true, true, false]) rfl rfl Gd.free (by kernel_rfl) rfl WrA.bx ?_
          rintro _ _ _ ⟨g36, rfl, rfl, rfl⟩
          refine ⟨⟨(by first | exact PH.sub.refl _ | assumption | (refine PH.sub.trans ?_ (by assumption); assumption)), zE⟩, XQA.re (by conv => lhs; dsimp only [List.cons_append, List.nil_append]) ?_⟩
          refine XQA.w1 (i := 9) (by kernel_rfl) ?_
          refine XQA1.wrZ0 (listed' := #[true, true, true, true, true, true, true, true, true, true]) rfl rfl Gd.free (by kernel_rfl) rfl (by kernel_rfl) (WrA.st (tyrow rfl) rfl) ?_
          rintro _ _ _ ⟨rfl, rfl, rfl⟩
          refine XQA.re (by conv => lhs; dsimp only [List.cons_append, List.nil_append]) ?_
          refine XQA.nil rfl ?_
          refine DA.thn_normal ⟨(by (repeat (first | exact Keep.refl _ _ | refine Keep.upd ?_ rfl | refine Keep.updO ?_ rfl | refine Keep.updN ?_)); (first | done | fail)), (g10, (g36, g32)), _, (by (repeat (first | exact trivial | refine ⟨rfl, ?_⟩ | refine ⟨Eq.trans rfl (congrArg Value.bool hmat.symm), ?_⟩)); (first | done | fail)), ?_, rfl, rfl⟩; exact zE
      · refine XQA1.wr0 (listed' := #[true, true, false, false, true, true, false, false, true, false]) rfl rfl Gd.free (by kernel_rfl) rfl (WrA.alloc (tyrow rfl)) ?_
        rintro _ _ _ ⟨g10, rfl, rfl, rfl⟩
        refine ⟨⟨(by first | exact PH.sub.refl _ | assumption | (refine PH.sub.trans ?_ (by assumption); assumption)), zE⟩, XQA.re (by conv => lhs; dsimp only [List.cons_append, List.nil_append]) ?_⟩
        refine XQA.w1 (i := 2) (by kernel_rfl) ?_
        refine XQA1.wr0 (listed' := #[true, true, true, false, true, true, false, false, true, false]) rfl rfl Gd.free (by kernel_rfl) rfl (WrA.cE hcells rfl) ?_
        rintro _ _ _ ⟨_, ⟨rfl, rfl, rfl⟩, rfl⟩
        refine ⟨⟨(by first | exact PH.sub.refl _ | assumption | (refine PH.sub.trans ?_ (by assumption); assumption)), zE⟩, XQA.re (by conv => lhs; dsimp only [List.cons_append, List.nil_append]) ?_⟩
        refine XQA.w1 (i := 3) (by kernel_rfl) ?_
        refine XQA1.wr0 (listed' := #[true, true, true, true, true, true, false, false, true, false]) rfl rfl Gd.free (by kernel_rfl) rfl (X.WrA.mkA (n := nc) (zs := ints (List.replicate nc 0)) (tyrow rfl) rfl (tyrow rfl) rfl rfl rfl rfl (by show 8 * nc ≤ _; omega) (by omega) (zeros_ints nc rfl)) ?_
        rintro _ _ _ ⟨g32, rfl, rfl, rfl⟩
        refine ⟨⟨(by first | exact PH.sub.refl _ | assumption | (refine PH.sub.trans ?_ (by assumption); assumption)), zE⟩, XQA.re (by conv => lhs; dsimp only [List.cons_append, List.nil_append]) ?_⟩
        refine XQA.pu (i := 6) (listed' := #[true, true, true, true, true, true, true, false, true, false]) rfl rfl (by kernel_rfl) rfl Gd.free (Rd.bl (fun _ _ => tyrow) rfl rfl rfl) ?_
        refine XQA.w1 (i := 7) (by kernel_rfl) ?_
        refine XQA1.wr0 (listed' := #[true, true, true, true, true, true, true, true, true, false]) rfl rfl Gd.free (by kernel_rfl) rfl WrA.bx ?_
        rintro _ _ _ ⟨g36, rfl, rfl, rfl⟩
        refine ⟨⟨(by first | exact PH.sub.refl _ | assumption | (refine PH.sub.trans ?_ (by assumption); assumption)), zE⟩, XQA.re (by conv => lhs; dsimp only [List.cons_append, List.nil_append]) ?_⟩
        refine XQA.w1 (i := 9) (by kernel_rfl) ?_
        refine XQA1.wrZ0 (listed' := #[true, true, true, true, true, true, true, true, true, true]) rfl rfl Gd.free (by kernel_rfl) rfl (by kernel_rfl) (WrA.st (tyrow rfl) rfl) ?_
        rintro _ _ _ ⟨rfl, rfl, rfl⟩
        refine XQA.re (by conv => lhs; dsimp only [List.cons_append, List.nil_append]) ?_
        refine XQA.nil rfl ?_
        refine DA.thn_normal ⟨(by (repeat (first | exact Keep.refl _ _ | refine Keep.upd ?_ rfl | refine Keep.updO ?_ rfl | refine Keep.updN ?_)); (first | done | fail)), (g10, (g36, g32)), _, (by (repeat (first | exact trivial | refine ⟨rfl, ?_⟩ | refine ⟨Eq.trans rfl (congrArg Value.bool hmat.symm), ?_⟩)); (first | done | fail)), ?_, rfl, rfl⟩; exact zE
    rintro ⟨g10, g36, g32⟩ δ _ _ ⟨rfl, rfl⟩
    dsimp only [ovr, List.foldl]
    refine zT ?_
    refine XTA.defer (caps := #[ptr g10, ptr g5, ptr g6, ptr g7]) (enters Try.func52 rfl rfl) rfl (by simp only [List.map_toArray, List.map_cons, List.map_nil]) ?_
    refine XFA.seq ?_
    refine XFA.region ?_
    refine XFOA.rd rfl (Rd.ldC rfl (tyrow rfl) rfl) ?_
    refine XFOA.rd rfl (Rd.fA rfl) ?_
    refine XFOA.rd rfl (Rd.ldC rfl (tyrow rfl) rfl) ?_
    obtain ⟨g, r, hl, he⟩ := hrun
    have hnc2 : (sizes p.vars).toNat = nc := by omega
    have hst : start p inp f = ⟨List.replicate nc 0, inp, [], f⟩ := by rw [start, hnc2]
    rw [hst] at hl
    have hF : Fine p.vars nc ⟨List.replicate nc 0, inp, [], f⟩ := ⟨by simp, hnc.symm, by show f < _; omega, by show 0 + f < _; omega⟩
    have hL := list_r g σ p p.body (fun x _ => stmt_r σ p h1 hz hvl2 g x) bs g36 pv cv bs g32 nc _ (.slice pi inp.length ci) none 0 r hp0 hb hV hF hi hl
    have hle := listG_less (stG_less p.vars g) _ _ _ hl
    simp only [List.length_nil, show ints [] = [] from rfl] at hL
    cases r with
    | error q =>
      obtain ⟨c0, s0⟩ := q
      obtain ⟨cells, rin, out, left⟩ := s0
      have hle1 : left ≤ f := hle.left
      have hcl1 : cells.length = nc := by have := hle.cl; simpa [resS] using this
      refine XFOA.die rfl (EndS.err hL) rfl (by (repeat (first | exact Ent.all _ | (apply Ent.take; focus (first | ((repeat (first | with_reducible exact Sel.head | apply Sel.tail)); done) | ((repeat (first | exact Sel.head | apply Sel.tail)); done))) | apply Ent.takeNil | apply Ent.takeEmp)); (first | done | fail)) ?_
      rintro _ _ _ ⟨rfl, rfl, vi2, po2, co2, hvi2, rfl⟩
      have hrun2 : RunIs p inp f c0 ⟨cells, rin, out, left⟩ := ⟨g, _, by rw [hst]; exact hl, rfl⟩
      exact run_fin σ σ p inp _ rfl _ _ g10 g5 g6 g7 g36 g32 nc _ _ vi2 po2 co2 f left cells out rin c0 _ _ _ (.refl _) rfl rfl rfl hc0 (by omega) (by omega) hle1 hcl1 (by omega) hrun2
        (recov_p σ g10 g5 g6 g7 g36 g32 nc _ _ vi2 po2 _ co2 f left (by omega) hle1 _ _ rfl rfl c0) zE
    | ok s1 =>
      obtain ⟨cells, rin, out, left⟩ := s1
      have hle1 : left ≤ f := hle.left
      have hcl1 : cells.length = nc := by have := hle.cl; simpa [resS] using this
      refine XFOA.call rfl (EndS.ok hL) rfl (by (repeat (first | exact Ent.all _ | (apply Ent.take; focus (first | ((repeat (first | with_reducible exact Sel.head | apply Sel.tail)); done) | ((repeat (first | exact Sel.head | apply Sel.tail)); done))) | apply Ent.takeNil | apply Ent.takeEmp)); (first | done | fail)) ?_
      rintro _ _ _ ⟨rfl, rfl, vi2, po2, co2, hvi2, rfl⟩
      simp only [List.cons_append, List.nil_append]
      refine XFOA.nil ?_
      show XFA _ _ _ _ _ _ _
      refine XFA.seq ?_
      refine XFA.region ?_
      refine XFOA.rd rfl (Rd.ldC rfl (tyrow rfl) rfl) ?_
      cases left with
      | zero =>
        have hrun2 : RunIs p inp f 13 ⟨cells, rin, out, 0⟩ := ⟨g, _, by rw [hst]; exact hl, rfl⟩
        refine XFOA.die rfl (one_t σ g36 _ _ _ _ _) rfl (by (repeat (first | exact Ent.all _ | (apply Ent.take; focus (first | ((repeat (first | with_reducible exact Sel.head | apply Sel.tail)); done) | ((repeat (first | exact Sel.head | apply Sel.tail)); done))) | apply Ent.takeNil | apply Ent.takeEmp)); (first | done | fail)) ?_
        rintro _ _ _ ⟨rfl, rfl, rfl⟩
        exact run_fin σ σ p inp _ rfl _ _ g10 g5 g6 g7 g36 g32 nc _ _ vi2 po2 co2 f 0 cells out rin 13 _ _ _ (.refl _) rfl rfl rfl hc0 (by omega) (by omega) hle1 hcl1 (by omega) hrun2
          (recov_p σ g10 g5 g6 g7 g36 g32 nc _ _ vi2 po2 _ co2 f 0 (by omega) hle1 _ _ rfl rfl 13) zE
      | succ left =>
        have hrun2 : RunIs p inp f 0 ⟨cells, rin, out, left⟩ := ⟨g, _, by rw [hst]; exact hl, by simp [finR, oneS, endR]⟩
        refine XFOA.call rfl (one_f σ g36 _ _ _ _ _ left (by omega)) rfl (by (repeat (first | exact Ent.all _ | (apply Ent.take; focus (first | ((repeat (first | with_reducible exact Sel.head | apply Sel.tail)); done) | ((repeat (first | exact Sel.head | apply Sel.tail)); done))) | apply Ent.takeNil | apply Ent.takeEmp)); (first | done | fail)) ?_
        rintro _ _ _ ⟨rfl, rfl, rfl⟩
        refine XFOA.nil ?_
        show XFA _ _ _ _ _ _ _
        refine XFA.ret ?_
        exact run_fin σ σ p inp _ rfl _ _ g10 g5 g6 g7 g36 g32 nc _ _ vi2 po2 co2 f left cells out rin 0 _ _ _ (.refl _) rfl rfl rfl hc0 (by omega) (by omega) (by omega) hcl1 (by omega) hrun2
          (recov_n σ g10 g5 g6 g7 g36 g32 nc _ _ vi2 po2 _ co2 f left (by omega) (by omega) _ _ rfl rfl) zE
end Go.Proofs.Ytbbghdkndbpmmaa

namespace Go.Proofs.Ytbbghdkndbpmmaa
open Go X
set_option maxHeartbeats 1000000
def progK : Pr := ⟨[], [.mk 3 0 (.mk 1 0 5 []) (.mk 0 0 0 []) [] []]⟩
theorem checkK : checkP progK = 0 := by decide +kernel
end Go.Proofs.Ytbbghdkndbpmmaa

namespace Go.Proofs.Ytbbghdkndbpmmaa
open Go X
set_option maxHeartbeats 1000000
theorem slongs_a (σ : PH) (v w : Value) (xs ys : List Int) (hv : PInts σ v xs) (hw : PInts σ w ys) : CallsA Try.prog 55 #[v, w] σ [] (RetA fun r σ' Γ' => r = .bool (decide (xs = ys)) ∧ σ = σ' ∧ Γ' = []) := by
  obtain ⟨p, c, rfl, hle, hmx⟩ := hv.shape
  obtain ⟨p', c', rfl, hle', hmx'⟩ := hw.shape
  have hlen : xs.length ≤ maxLen := by omega
  simp only [maxLen] at hlen
  refine enterA2 Try.func55 rfl rfl rfl ?_
  refine zS ?_; refine zR ?_; refine zO rfl Rd.asg ?_; refine zN ?_; refine zT ?_; refine zS ?_; refine zS ?_; refine zR ?_; refine zO rfl Rd.mv ?_; refine zO rfl (Rd.lenSlice (tyrow rfl) rfl rfl) ?_; refine zO rfl Rd.mv ?_; refine zO rfl (Rd.lenSlice (tyrow rfl) rfl rfl) ?_
  refine zO rfl (Rd.neq rfl rfl) ?_
  refine zN ?_; refine zT ?_
  refine XA.condp rfl (fun hne => ?_) (fun hne => ?_)
  · refine zS ?_
    refine zR ?_; refine zO rfl Rd.asg ?_; refine zN ?_; refine zT ?_
    refine XA.ret ?_
    refine DA.thn_ret ?_
    exact bodyA.ret (ResA.one rfl rfl) zE ⟨congrArg Value.bool (decide_eq_false (fun e => hne (by rw [e]))).symm, rfl, rfl⟩
  have hll : xs.length = ys.length := by omega
  refine XA.skip ?_
  refine zT ?_; refine zS ?_; refine zS ?_; refine zR ?_; refine zO rfl Rd.asg ?_; refine zN ?_; refine zT ?_
  refine XA.block ?_
  refine XA.gen [(0, _), (1, _), (4, _), (5, _)] ⟨(by with_reducible (conv => lhs; whnf)), (by with_reducible (conv => lhs; whnf)), (by with_reducible (conv => lhs; whnf)), (by with_reducible (conv => lhs; whnf)), trivial⟩ (fun δ => ?_)
  dsimp only [List.foldl]
  refine XA.loop [(4, 5), (11, 25)] (fun k : Nat => [(5, i64 k)]) (fun k σ' Γ' => σ = σ' ∧ k ≤ xs.length ∧ xs.take k = ys.take k ∧ Γ' = []) (fun k => xs.length - k) 0 (by exact ⟨rfl, trivial⟩) (Δ0 := _) ?_ (⟨rfl, Nat.zero_le _, rfl, rfl⟩) ?_
  · exact zE
  rintro k δ _ _ ⟨rfl, hk, hall, rfl⟩
  dsimp only [ovr, List.foldl]
  refine zS ?_; refine zS ?_; refine zR ?_; refine zO rfl Rd.mv ?_; refine zO rfl Rd.mv ?_; refine zO rfl (Rd.lenSlice (tyrow rfl) rfl rfl) ?_; refine zO rfl (Rd.lss rfl rfl) ?_; refine zN ?_; refine zT ?_
  refine XA.condp rfl (fun hlt => ?_) (fun hlt => ?_)
  · have hlt : k < xs.length := by omega
    obtain ⟨x, hx⟩ : ∃ x, xs[k]? = some x := ⟨_, List.getElem?_eq_getElem hlt⟩
    obtain ⟨y, hy⟩ : ∃ y, ys[k]? = some y := ⟨_, List.getElem?_eq_getElem (by omega)⟩
    obtain ⟨g, o, rfl, hr⟩ := hv.at hx
    obtain ⟨g', o', rfl, hr'⟩ := hw.at hy
    rw [Nat.mul_one] at hr hr'
    refine XA.skip ?_
    refine zT ?_; refine zS ?_
    refine XA.block ?_
    refine zS ?_
    refine XA.draw (by kernel_rfl) _ _ [] [(0, .pu), (1, .pu), (2, .pu), (3, .rd), (4, .pu), (5, .pu), (6, .pu), (7, .rd), (8, .pu)] (by kernel_rfl) (PH.sub.refl _) (Ent.nil _) ?_
    refine XPA.pu rfl rfl Gd.free Rd.mv ?_
    refine XPA.pu rfl rfl Gd.free Rd.mv ?_
    refine XPA.pu rfl rfl Gd.free (Rd.ixS rfl rfl) ?_
    refine XPA.rd rfl rfl Gd.free (Rd.ldC rfl (tyrow rfl) rfl) ?_
    refine XPA.pu rfl rfl Gd.free Rd.mv ?_
    refine XPA.pu rfl rfl Gd.free Rd.mv ?_
    refine XPA.pu rfl rfl Gd.free (Rd.ixS rfl rfl) ?_
    refine XPA.rd rfl rfl Gd.free (Rd.ldC rfl (tyrow rfl) rfl) ?_
    refine XPA.pu rfl rfl Gd.free (Rd.neq rfl rfl) ?_
    refine XPA.nil ?_
    refine zT ?_
    refine XA.condp rfl (fun he => ?_) (fun he => ?_)
    · refine zS ?_
      refine zR ?_; refine zO rfl Rd.asg ?_; refine zN ?_; refine zT ?_
      refine XA.ret ?_
      refine DA.inb_ret ?_
      refine DA.thn_ret ?_
      refine DA.thn_ret ?_
      refine DA.inb_ret ?_
      refine DA.thn_ret ?_
      exact bodyA.ret (ResA.one rfl rfl) zE ⟨congrArg Value.bool (decide_eq_false (fun e => by subst e; rw [hx] at hy; simp only [Option.some.injEq] at hy; exact he hy)).symm, rfl, rfl⟩
    have hxy : x = y := Classical.byContradiction he
    refine XA.skip ?_
    refine DA.inb_normal ?_
    refine zT ?_; refine zR ?_; refine zO rfl Rd.mv ?_
    refine zO rfl (by first | exact Rd.adi rfl rfl | exact Rd.add rfl rfl) ?_
    refine zO rfl Rd.asg ?_; refine zN ?_; refine zT ?_
    refine ⟨(Keep.upd (Keep.upd (Keep.upd (Keep.upd (Keep.upd (Keep.upd (Keep.upd (Keep.upd (Keep.upd (Keep.upd (Keep.upd (Keep.upd (Keep.upd (Keep.upd (Keep.upd (Keep.upd (Keep.upd (Keep.hav (Keep.hav (Keep.refl _ _) rfl) rfl) rfl) rfl) rfl) rfl) rfl) rfl) rfl) rfl) rfl) rfl) rfl) rfl) rfl) rfl) rfl) rfl) rfl), k + 1, _, (by (repeat (first | exact trivial | refine ⟨rfl, ?_⟩ | refine ⟨Eq.trans rfl (congrArg Value.bool hmat.symm), ?_⟩)); (first | done | fail)), ?_, ⟨rfl, hlt, by rw [takeS hx, takeS hy, hall, hxy], rfl⟩, (by omega)⟩
    · exact zE
  obtain rfl : k = xs.length := by omega
  refine XA.exit ?_
  refine DA.thn_exit ?_
  refine DA.thn_exit ?_
  refine DA.inb_same ?_
  refine zT ?_; refine zS ?_; refine zR ?_; refine zO rfl Rd.asg ?_; refine zN ?_; refine zT ?_
  refine XA.ret ?_
  exact bodyA.ret (ResA.one rfl rfl) zE ⟨congrArg Value.bool (decide_eq_true (by rw [List.take_length, hll, List.take_length] at hall; exact hall)).symm, rfl, rfl⟩
theorem X.PInts.take {σ : PH} {p : Option Addr} {n c k : Nat} {xs : List Int} (h : PInts σ (.slice p n c) xs) (hk : k ≤ n) : PInts σ (.slice p k c) (xs.take k) := by
  obtain ⟨p', c', h1, h2, h3, h4⟩ := h
  simp only [Value.slice.injEq] at h1
  obtain ⟨rfl, rfl, rfl⟩ := h1
  have hl : (xs.take k).length = k := by rw [List.length_take]; omega
  refine ⟨p, c, by rw [hl], by omega, h3, fun h0 => ?_⟩
  obtain ⟨g, o, e, r⟩ := h4 (by omega)
  refine ⟨g, o, e, ?_⟩
  have e2 : ints xs = ints (xs.take k) ++ ints (xs.drop k) := by rw [← List.take_append_drop k xs]; simp [ints]
  rw [e2] at r
  exact r.sub (j := 0) (by simp)
theorem sresult_a (σ : PH) (c : Int) (vo vc wo wc : Value) (out cells : List Int) (h1 : PInts σ vo out) (h2 : PInts σ vc cells) (h3 : PInts σ wo out) (h4 : PInts σ wc cells) :
    CallsA Try.prog 35 #[.agg #[i64 c, vo, vc], .agg #[i64 c, wo, wc]] σ [] (RetA fun r σ' Γ' => r = .bool true ∧ σ = σ' ∧ Γ' = []) := by
  obtain ⟨p1, c1, rfl, -, -⟩ := h1.shape
  obtain ⟨p2, c2, rfl, -, -⟩ := h2.shape
  obtain ⟨p3, c3, rfl, -, -⟩ := h3.shape
  obtain ⟨p4, c4, rfl, -, -⟩ := h4.shape
  refine enterA2 Try.func35 rfl rfl rfl ?_
  refine zS ?_; refine zR ?_
  refine XOA.wr0 rfl WrA.bx ?_
  rintro _ _ _ ⟨g2, rfl, rfl, rfl⟩
  refine XOA.wr0 rfl WrA.bx ?_
  rintro _ _ _ ⟨g3, rfl, rfl, rfl⟩
  refine zO rfl Rd.asg ?_; refine zN ?_; refine zT ?_; refine zS ?_; refine zR ?_; refine zO rfl (Rd.fA rfl) ?_; refine zO rfl (Rd.ldC rfl (tyrow rfl) rfl) ?_; refine zO rfl (Rd.fA rfl) ?_; refine zO rfl (Rd.ldC rfl (tyrow rfl) rfl) ?_; refine zO rfl (Rd.eql rfl rfl) ?_; refine zO rfl Rd.mv ?_
  first | ((first | refine zW ?_ | refine zQ ?_); refine zO rfl (Rd.fA rfl) ?_) | refine zU ?_ | refine zV ?_ | refine zZ ?_
  first | ((first | refine zW ?_ | refine zQ ?_); refine zO rfl (Rd.ldC rfl (tyrow rfl) rfl) ?_) | refine zU ?_ | refine zV ?_ | refine zZ ?_
  first | ((first | refine zW ?_ | refine zQ ?_); refine zO rfl (Rd.fA rfl) ?_) | refine zU ?_ | refine zV ?_ | refine zZ ?_
  first | ((first | refine zW ?_ | refine zQ ?_); refine zO rfl (Rd.ldC rfl (tyrow rfl) rfl) ?_) | refine zU ?_ | refine zV ?_ | refine zZ ?_
  first | refine XOA.wanted rfl rfl ?_ | refine XOA.wq rfl rfl ?_
  refine XOA.wr0 rfl (WrA.cE (slongs_a σ _ _ out out h1 h3) rfl) ?_
  rintro _ _ _ ⟨_, ⟨rfl, rfl, rfl⟩, rfl⟩
  refine XOA.cl ?_
  rw [show decide (out = out) = true from decide_eq_true rfl]
  refine zO rfl (by first | exact Rd.pT rfl | exact Rd.pF rfl | exact Rd.pP rfl) ?_
  refine zO rfl Rd.mv ?_
  first | ((first | refine zW ?_ | refine zQ ?_); refine zO rfl (Rd.fA rfl) ?_) | refine zU ?_ | refine zV ?_ | refine zZ ?_
  first | ((first | refine zW ?_ | refine zQ ?_); refine zO rfl (Rd.ldC rfl (tyrow rfl) rfl) ?_) | refine zU ?_ | refine zV ?_ | refine zZ ?_
  first | ((first | refine zW ?_ | refine zQ ?_); refine zO rfl (Rd.fA rfl) ?_) | refine zU ?_ | refine zV ?_ | refine zZ ?_
  first | ((first | refine zW ?_ | refine zQ ?_); refine zO rfl (Rd.ldC rfl (tyrow rfl) rfl) ?_) | refine zU ?_ | refine zV ?_ | refine zZ ?_
  first | refine XOA.wanted rfl rfl ?_ | refine XOA.wq rfl rfl ?_
  refine XOA.wr0 rfl (WrA.cE (slongs_a σ _ _ cells cells h2 h4) rfl) ?_
  rintro _ _ _ ⟨_, ⟨rfl, rfl, rfl⟩, rfl⟩
  refine XOA.cl ?_
  rw [show decide (cells = cells) = true from decide_eq_true rfl]
  refine zO rfl (by first | exact Rd.pT rfl | exact Rd.pF rfl | exact Rd.pP rfl) ?_
  refine zO rfl Rd.asg ?_; refine zN ?_; refine zT ?_
  refine XA.ret ?_
  refine bodyA.ret (ResA.one rfl rfl) (Ent.nil _) ⟨?_, rfl, rfl⟩
  first | rfl | (simp; done) | exact congrArg Value.bool (decide_eq_true rfl)
theorem rows_ints {σ : PH} : ∀ (rows : List (List Value)) (xs : List Int), Rows_ 1 (rInt .i64) σ rows xs → rows.flatten = ints xs
  | [], xs, h => by
    have := h.len
    rw [List.length_nil] at this
    rw [List.eq_nil_of_length_eq_zero this.symm]; rfl
  | r :: rows, xs, h => by
    have hl := h.len
    cases xs with
    | nil => simp at hl
    | cons x xs =>
      have h0 := h.row 0 r x rfl rfl
      have ih := rows_ints rows xs ⟨by simpa using hl, fun q hq => h.size q (by simp [hq]), fun k q y a b => h.row (k + 1) q y (by simpa using a) (by simpa using b)⟩
      rw [List.flatten_cons, ih, h0.1]; rfl
theorem pints_of {σ : PH} {v : Value} {xs : List Int} (h : PSl 1 (rInt .i64) σ v xs) : PInts σ v xs := by
  obtain ⟨p, c, rfl, h1, h2⟩ := h.shape
  obtain ⟨rows, h3, -, h4, h5, h6⟩ := psl_rows h
  refine ⟨p, c, rfl, h1, h5, fun h0 => ?_⟩
  obtain ⟨g, o, e, r⟩ := h6 h0
  rw [rows_ints rows xs h3] at r
  exact ⟨g, o, e, r⟩
theorem run_ok (σ : PH) (cs : List Value) (p : Pr) (iv : Value) (inp : List Int) (f : Nat) (hp : PrAt σ cs p) (hi : PInts σ iv inp) (hc : checkP p = 0) (hl : inp.length ≤ 40) (hf : f ≤ 3000) :
    CallsA Try.prog 34 #[.agg cs.toArray, iv, i64 f] σ [] (RetA fun v σ' Γ' => ∃ (c : Int) (s : RS) (po pc : Option Addr) (co cc : Nat), RunIs p inp f c s ∧ v = .tuple #[.agg #[i64 c, .slice po s.out.length co, .slice pc s.cells.length cc], i64 ((f : Int) - s.left), i64 0] ∧ PInts σ' (.slice po s.out.length co) s.out ∧ PInts σ' (.slice pc s.cells.length cc) s.cells ∧ s.left ≤ f ∧ σ.sub σ' ∧ Γ' = []) := by
  refine (run_a σ cs p iv inp f hp hi).ret ?_
  rintro v σ' Γ' ⟨h1, h2, h3⟩
  rw [if_neg (fun h => h hc), if_neg (by omega)] at h3
  obtain ⟨c, s, vo, vc, h4, h5, h6, h7, h8⟩ := h3
  obtain ⟨po, co, rfl, -, -⟩ := h6.shape
  obtain ⟨pc, cc, rfl, -, -⟩ := h7.shape
  rw [Int.toNat_natCast] at h4 h8
  exact ⟨c, s, po, pc, co, cc, h4, h5, h6, h7, h8, h1, h2⟩
theorem run_bad (σ : PH) (cs : List Value) (p : Pr) (iv : Value) (inp : List Int) (f : Int) (hp : PrAt σ cs p) (hi : PInts σ iv inp) (hc : checkP p ≠ 0) :
    CallsA Try.prog 34 #[.agg cs.toArray, iv, i64 f] σ [] (RetA fun v σ' Γ' => v = .tuple #[.agg #[i64 0, .slice none 0 0, .slice none 0 0], i64 0, i64 (checkP p)] ∧ σ.sub σ' ∧ Γ' = []) := by
  refine (run_a σ cs p iv inp f hp hi).ret ?_
  rintro v σ' Γ' ⟨h1, h2, h3⟩
  rw [if_pos hc] at h3
  exact ⟨h3, h1, h2⟩
theorem run_range (σ : PH) (cs : List Value) (p : Pr) (iv : Value) (inp : List Int) (f : Int) (hp : PrAt σ cs p) (hi : PInts σ iv inp) (hc : checkP p = 0) (hr : 40 < inp.length ∨ f < 0 ∨ 3000 < f) :
    CallsA Try.prog 34 #[.agg cs.toArray, iv, i64 f] σ [] (RetA fun v σ' Γ' => v = .tuple #[.agg #[i64 0, .slice none 0 0, .slice none 0 0], i64 0, i64 1] ∧ σ.sub σ' ∧ Γ' = []) := by
  refine (run_a σ cs p iv inp f hp hi).ret ?_
  rintro v σ' Γ' ⟨h1, h2, h3⟩
  rw [if_neg (fun h => h hc), if_pos hr] at h3
  exact ⟨h3, h1, h2⟩
def progN : Pr := ⟨[], []⟩
theorem runK : RunIs progK [] 9 0 ⟨[], [], [5], 6⟩ := ⟨1, .ok ⟨[], [], [5], 7⟩, rfl, rfl⟩
theorem runN : RunIs progN [] 0 13 ⟨[], [], [], 0⟩ := ⟨1, .ok ⟨[], [], [], 0⟩, rfl, rfl⟩
theorem ibegun_a (σ : PH) : CallsA Try.prog 33 #[] σ [] (RetA fun v σ' Γ' => v = .bool true ∧ σ.sub σ' ∧ Γ' = []) := by
  refine enterA0 Try.func33 rfl rfl rfl ?_
  refine zS ?_; refine zR ?_; refine zO rfl Rd.asg ?_; refine zN ?_; refine zT ?_; refine zS ?_; refine zR ?_
  refine zO rfl (Rd.bl (fun _ _ => tyrow) rfl rfl rfl) ?_
  refine zO rfl (Rd.bl (fun _ _ => tyrow) rfl rfl rfl) ?_
  refine XOA.wr0 rfl (WrA.bs1 (tyrow rfl) rfl (tyrow rfl)) ?_
  rintro _ _ _ ⟨g10, rfl, rfl, rfl⟩
  refine zO rfl (Rd.bl (fun _ _ => tyrow) rfl rfl rfl) ?_
  refine XOA.frz (R := blk g10 _ 46) (by ((repeat (first | with_reducible exact Sel.head | apply Sel.tail)); (first | done | fail))) blk_frz blk_frz_mono ?_
  rintro σ2 ⟨⟩ hr8 hs2
  have nilE : ∀ σ, PSl 4 ExAt σ (.slice none 0 0) [] := fun σ => PSl.nil 4 ExAt σ
  have nilS : ∀ σ, PSl 12 StAt σ (.slice none 0 0) [] := fun σ => PSl.nil 12 StAt σ
  have okz : ∀ n : Int, -1000 ≤ n → n ≤ 1000 → i64ok n := fun n h1 h2 => ⟨by omega, by omega⟩
  have hst : StAt σ2 [i64 3, i64 0, i64 1, i64 0, i64 5, .slice none 0 0, i64 0, i64 0, i64 0, .slice none 0 0, .slice none 0 0, .slice none 0 0] (.mk 3 0 (.mk 1 0 5 []) (.mk 0 0 0 []) [] []) :=
    StAt.of (okz _ (by decide) (by decide)) (okz _ (by decide) (by decide)) (ExAt.of (okz _ (by decide) (by decide)) (okz _ (by decide) (by decide)) (okz _ (by decide) (by decide)) (nilE σ2)) (ExAt.of (okz _ (by decide) (by decide)) (okz _ (by decide) (by decide)) (okz _ (by decide) (by decide)) (nilE σ2)) (nilS σ2) (nilS σ2)
  have hbs : PSl 12 StAt σ2 (.slice (some ⟨g10, 0, none⟩) 1 1) progK.body :=
    Rows_.psl ((Rows_.nil 12 StAt σ2).snoc rfl hst) rfl ⟨Nat.le_refl _, by simp [maxLen], rfl, fun _ => ⟨g10, 0, rfl, hr8⟩⟩
  have hp0 : PrAt σ2 [.slice none 0 0, .slice (some ⟨g10, 0, none⟩) 1 1] progK := ⟨_, _, rfl, PSl.nil _ _ _, hbs⟩
  refine XOA.wr0 rfl (WrA.cE (run_ok σ2 _ progK (.slice none 0 0) [] 9 hp0 (PInts.nil _) checkK (by decide) (by decide)) rfl) ?_
  rintro _ σ3 _ ⟨_, ⟨c, s, po, pc, co, cc, hrun, rfl, hvo, hvc, hle, hs3, rfl⟩, rfl⟩
  refine XOA.cl ?_
  obtain ⟨rfl, rfl⟩ := run_once hrun runK
  obtain ⟨go, oo, rfl, hro⟩ := hvo.at (show ([5] : List Int)[0]? = some 5 from rfl)
  have hro0 : PRow σ3 go oo [i64 5] := by simpa using hro
  have hpN : PrAt σ3 [.slice none 0 0, .slice none 0 0] progN := ⟨_, _, rfl, PSl.nil _ _ _, PSl.nil _ _ _⟩
  refine zO rfl Rd.mv ?_
  refine zO rfl (Rd.extract rfl rfl) ?_
  refine zO rfl (Rd.extract rfl rfl) ?_
  refine zO rfl (Rd.extract rfl rfl) ?_
  refine XOA.wr0 rfl (WrA.alloc (tyrow rfl)) ?_
  rintro _ _ _ ⟨g1, rfl, rfl, rfl⟩
  refine XOA.wr0 rfl (WrA.st (tyrow rfl) rfl) ?_
  rintro _ _ _ ⟨rfl, rfl, rfl⟩
  refine zO rfl Rd.asg ?_; refine zO rfl Rd.asg ?_; refine zN ?_; refine zT ?_; refine zS ?_; refine zR ?_
  refine zO rfl (Rd.bl (fun _ _ => tyrow) rfl rfl rfl) ?_
  refine XOA.wr0 rfl (WrA.cE (run_ok σ3 _ progN (.slice none 0 0) [] 0 hpN (PInts.nil _) (by decide +kernel) (by decide) (by decide)) rfl) ?_
  rintro _ σ4 _ ⟨_, ⟨c4, s4, po4, pc4, co4, cc4, hrun4, rfl, hvo4, hvc4, hle4, hs4, rfl⟩, rfl⟩
  refine XOA.cl ?_
  obtain ⟨rfl, rfl⟩ := run_once hrun4 runN
  have hro4 := hro0.mono hs4
  refine zO rfl Rd.mv ?_
  refine zO rfl (Rd.extract rfl rfl) ?_
  refine zO rfl (Rd.extract rfl rfl) ?_
  refine zO rfl (Rd.extract rfl rfl) ?_
  refine XOA.wr0 rfl (WrA.alloc (tyrow rfl)) ?_
  rintro _ _ _ ⟨g4, rfl, rfl, rfl⟩
  refine XOA.wr0 rfl (WrA.st (tyrow rfl) rfl) ?_
  rintro _ _ _ ⟨rfl, rfl, rfl⟩
  refine zO rfl Rd.asg ?_; refine zO rfl Rd.asg ?_; refine zN ?_; refine zT ?_; refine zS ?_; refine zR ?_; refine zO rfl Rd.mv ?_; refine zO rfl (Rd.eql rfl rfl) ?_; refine zO rfl Rd.mv ?_
  first | ((first | refine zW ?_ | refine zQ ?_); refine zO rfl Rd.mv ?_) | refine zU ?_ | refine zV ?_ | refine zZ ?_
  first | ((first | refine zW ?_ | refine zQ ?_); refine zO rfl (Rd.eql rfl rfl) ?_) | refine zU ?_ | refine zV ?_ | refine zZ ?_
  refine zO rfl (by first | exact Rd.pT rfl | exact Rd.pF rfl | exact Rd.pP rfl) ?_
  refine zO rfl Rd.mv ?_
  first | ((first | refine zW ?_ | refine zQ ?_); refine zO rfl (Rd.fA rfl) ?_) | refine zU ?_ | refine zV ?_ | refine zZ ?_
  first | ((first | refine zW ?_ | refine zQ ?_); refine zO rfl (Rd.ldC rfl (tyrow rfl) rfl) ?_) | refine zU ?_ | refine zV ?_ | refine zZ ?_
  first | ((first | refine zW ?_ | refine zQ ?_); refine zO rfl (Rd.eql rfl rfl) ?_) | refine zU ?_ | refine zV ?_ | refine zZ ?_
  refine zO rfl (by first | exact Rd.pT rfl | exact Rd.pF rfl | exact Rd.pP rfl) ?_
  refine zO rfl Rd.mv ?_
  first | ((first | refine zW ?_ | refine zQ ?_); refine zO rfl (Rd.fA rfl) ?_) | refine zU ?_ | refine zV ?_ | refine zZ ?_
  first | ((first | refine zW ?_ | refine zQ ?_); refine zO rfl (Rd.ldC rfl (tyrow rfl) rfl) ?_) | refine zU ?_ | refine zV ?_ | refine zZ ?_
  first | ((first | refine zW ?_ | refine zQ ?_); refine zO rfl (Rd.lenSlice (tyrow rfl) rfl rfl) ?_) | refine zU ?_ | refine zV ?_ | refine zZ ?_
  first | ((first | refine zW ?_ | refine zQ ?_); refine zO rfl (Rd.eql rfl rfl) ?_) | refine zU ?_ | refine zV ?_ | refine zZ ?_
  refine zO rfl (by first | exact Rd.pT rfl | exact Rd.pF rfl | exact Rd.pP rfl) ?_
  refine zO rfl Rd.mv ?_
  first | ((first | refine zW ?_ | refine zQ ?_); refine zO rfl (Rd.fA rfl) ?_) | refine zU ?_ | refine zV ?_ | refine zZ ?_
  first | ((first | refine zW ?_ | refine zQ ?_); refine zO rfl (Rd.ldC rfl (tyrow rfl) rfl) ?_) | refine zU ?_ | refine zV ?_ | refine zZ ?_
  first | ((first | refine zW ?_ | refine zQ ?_); refine zO rfl (Rd.ixS rfl rfl) ?_) | refine zU ?_ | refine zV ?_ | refine zZ ?_
  first | ((first | refine zW ?_ | refine zQ ?_); refine zO rfl (Rd.ldC rfl (tyrow rfl) rfl) ?_) | refine zU ?_ | refine zV ?_ | refine zZ ?_
  first | ((first | refine zW ?_ | refine zQ ?_); refine zO rfl (Rd.eql rfl rfl) ?_) | refine zU ?_ | refine zV ?_ | refine zZ ?_
  refine zO rfl (by first | exact Rd.pT rfl | exact Rd.pF rfl | exact Rd.pP rfl) ?_
  refine zO rfl Rd.mv ?_
  first | ((first | refine zW ?_ | refine zQ ?_); refine zO rfl Rd.mv ?_) | refine zU ?_ | refine zV ?_ | refine zZ ?_
  first | ((first | refine zW ?_ | refine zQ ?_); refine zO rfl (Rd.eql rfl rfl) ?_) | refine zU ?_ | refine zV ?_ | refine zZ ?_
  refine zO rfl (by first | exact Rd.pT rfl | exact Rd.pF rfl | exact Rd.pP rfl) ?_
  refine zO rfl Rd.mv ?_
  first | ((first | refine zW ?_ | refine zQ ?_); refine zO rfl Rd.mv ?_) | refine zU ?_ | refine zV ?_ | refine zZ ?_
  first | ((first | refine zW ?_ | refine zQ ?_); refine zO rfl (Rd.eql rfl rfl) ?_) | refine zU ?_ | refine zV ?_ | refine zZ ?_
  refine zO rfl (by first | exact Rd.pT rfl | exact Rd.pF rfl | exact Rd.pP rfl) ?_
  refine zO rfl Rd.mv ?_
  first | ((first | refine zW ?_ | refine zQ ?_); refine zO rfl (Rd.fA rfl) ?_) | refine zU ?_ | refine zV ?_ | refine zZ ?_
  first | ((first | refine zW ?_ | refine zQ ?_); refine zO rfl (Rd.ldC rfl (tyrow rfl) rfl) ?_) | refine zU ?_ | refine zV ?_ | refine zZ ?_
  first | ((first | refine zW ?_ | refine zQ ?_); refine zO rfl (Rd.eql rfl rfl) ?_) | refine zU ?_ | refine zV ?_ | refine zZ ?_
  refine zO rfl (by first | exact Rd.pT rfl | exact Rd.pF rfl | exact Rd.pP rfl) ?_
  refine zO rfl Rd.asg ?_; refine zN ?_; refine zT ?_
  refine XA.ret ?_
  exact bodyA.ret (ResA.one rfl rfl) (Ent.nil _) ⟨rfl, (hs2.trans hs3).trans hs4, rfl⟩
end Go.Proofs.Ytbbghdkndbpmmaa

