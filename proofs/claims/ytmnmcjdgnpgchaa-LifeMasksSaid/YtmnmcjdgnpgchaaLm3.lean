/- Part 3 of 6 of what the claim needs: Mn, Mo, Mp, Wa, Mq, Px, Pg, Str, CdS, CdL, In, Io, Ir, Cd, CdJ, CdK, CdM, CdN, CdO, CdP. -/
import Derived.Test.YtmnmcjdgnpgchaaLm1
import Derived.Test.YtmnmcjdgnpgchaaLm2
import Derived.Recover
import Derived.Laws.Strings
import Derived.Laws.StructEq
import Derived.Laws.Small
namespace Go.Proofs.Ytmnmcjdgnpgchaa
open Go X
set_option maxHeartbeats 2000000
def wordC (C : List (List Int)) (a : Int) : Int := if 0 ≤ a ∧ a < 112 then (C.getD (a.toNat / 8) DiskS.zeros).getD (a.toNat % 8) 0 else 0
def putC (C : List (List Int)) (a w : Int) : List (List Int) := if (0 ≤ a ∧ a < 112) ∧ wordC C a ≠ w then C.set (a.toNat / 8) ((C.getD (a.toNat / 8) DiskS.zeros).set (a.toNat % 8) w) else C
def putD (C : List (List Int)) (dt : List Bool) (a w : Int) : List Bool := if (0 ≤ a ∧ a < 112) ∧ wordC C a ≠ w then dt.set (a.toNat / 8) true else dt
theorem wordC_nat (C : List (List Int)) {n : Nat} (h : n < 112) : wordC C n = (C.getD (n / 8) DiskS.zeros).getD (n % 8) 0 := by
  rw [wordC, if_pos (by omega)]; rfl
theorem MOk.word {d : DiskS} {s : StS} {inn dt : List Bool} {pg C : List (List Int)} (h : MOk d s inn dt pg C) {n : Nat} (hn : n < 112) (hi : inn.getD (n / 8) false = true) : wordC C n = (pg.getD (n / 8) DiskS.zeros).getD (n % 8) 0 := by
  rw [wordC_nat C hn, h.val _ (by omega), if_pos hi]
theorem MOk.put {d : DiskS} {s : StS} {inn dt : List Bool} {pg C : List (List Int)} (h : MOk d s inn dt pg C) {p k : Nat} (hp : p < 14) (hi : inn.getD p false = true) (w : Int) :
    MOk d s inn (dt.set p true) (pg.set p ((pg.getD p DiskS.zeros).set k w)) (C.set p ((C.getD p DiskS.zeros).set k w)) := by
  have e : C.getD p DiskS.zeros = pg.getD p DiskS.zeros := by rw [h.val p hp, if_pos hi]
  refine ⟨h.li, by rw [List.length_set]; exact h.ld, pgs_set h.pp p (by rw [List.length_set]; exact pgs_row8 h.pp hp), pgs_set h.cc p (by rw [List.length_set]; exact pgs_row8 h.cc hp), fun q hq => ?_, fun q hq hdq => ?_, fun q hq hdq => ?_⟩
  · rw [set_getD_r (by rw [h.cc.1]; exact hq), set_getD_r (by rw [h.pp.1]; exact hq), h.val q hq]
    by_cases eq : q = p
    · subst eq; rw [if_pos rfl, if_pos rfl, if_pos hi, e]
    · rw [if_neg eq, if_neg eq]
  · rw [set_getD_b (by rw [h.ld]; exact hq)] at hdq
    by_cases eq : q = p
    · subst eq; exact hi
    · rw [if_neg eq] at hdq; exact h.dir q hq hdq
  · rw [set_getD_b (by rw [h.ld]; exact hq)] at hdq
    by_cases eq : q = p
    · rw [if_pos eq] at hdq; cases hdq
    · rw [if_neg eq] at hdq
      rw [set_getD_r (by rw [h.cc.1]; exact hq), if_neg eq]
      exact h.old q hq hdq
theorem load_a (σ : PH) (b sb db : Nat) (d : DiskS) (s : StS) (inn dt : List Bool) (pg C : List (List Int)) (a : Int) (hd : d.ok) (hlen : d.wait.length < 1000000) (h : MOk d s inn dt pg C) :
    CallsA Try.prog 47 #[ptr b, i64 a] σ [blk b (mcells sb inn dt pg) 87, Store sb db s, Disk db d] (RetA fun v σ' Γ' => v = i64 (wordC C a) ∧ σ = σ' ∧ ∃ inn' pg', MOk d s inn' dt pg' C ∧ Γ' = [blk b (mcells sb inn' dt pg') 87, Store sb db s, Disk db d]) := by
  by_cases ha : 0 ≤ a ∧ a < 112
  · obtain ⟨n, rfl⟩ := Int.eq_ofNat_of_zero_le ha.1
    have hn : n < 112 := by omega
    refine enterA2 Try.func47 rfl rfl rfl ?_
    refine zS ?_; refine zR ?_; refine zO rfl Rd.asg ?_; refine zN ?_; refine zT ?_; refine zS ?_; refine zR ?_; refine zO rfl Rd.mv ?_; refine zO rfl Rd.mv ?_
    refine zw rfl (WrA.cE (page_a σ b sb db d s inn dt pg C n hn hd hlen h) rfl) ?_
    rintro _ _ _ ⟨_, ⟨rfl, rfl, inn', pg', h', hi, rfl⟩, rfl⟩
    refine XOA.cl ?_
    refine zO rfl Rd.mv ?_
    refine zO rfl (Rd.extract rfl rfl) ?_
    refine zO rfl (Rd.extract rfl rfl) ?_
    refine zO rfl Rd.asg ?_; refine zO rfl Rd.asg ?_; refine zN ?_; refine zT ?_; refine zS ?_; refine zS ?_; refine zR ?_; refine zO rfl Rd.mv ?_
    refine zO rfl (by first | exact Rd.notp rfl | exact Rd.not rfl) ?_
    refine zN ?_; refine zT ?_
    have hw := mc_word (sb := sb) h'.li h'.ld h'.pp (p := n / 8) (k := n % 8) (by omega) (by omega)
    refine XA.condF rfl rfl ?_
    refine XA.skip ?_
    refine zT ?_; refine zS ?_; refine zR ?_; refine zO rfl Rd.mv ?_; refine zO rfl Rd.mv ?_; refine zO rfl Rd.mv ?_
    refine zO rfl (Rd.remi (c := ((n % 8 : Nat) : Int)) rfl rfl (by decide) (rem8 n)) ?_
    refine zO rfl (Rd.nilCheck rfl) ?_; refine zO rfl (Rd.fA rfl) ?_
    refine zO rfl (Rd.ixA rfl rfl) ?_
    refine zO rfl (Rd.ixA rfl rfl) ?_
    refine zO rfl (Rd.ldC rfl (tyrow rfl) rfl) ?_; refine zO rfl Rd.asg ?_; refine zN ?_; refine zT ?_
    refine XA.ret ?_
    exact bodyA.ret (ResA.one rfl rfl) zE ⟨congrArg i64 (h'.word hn hi).symm, rfl, _, _, h', rfl⟩
  · refine enterA2 Try.func47 rfl rfl rfl ?_
    refine zS ?_; refine zR ?_; refine zO rfl Rd.asg ?_; refine zN ?_; refine zT ?_; refine zS ?_; refine zR ?_; refine zO rfl Rd.mv ?_; refine zO rfl Rd.mv ?_
    refine zw rfl (WrA.cE (page_no σ b a ha) rfl) ?_
    rintro _ _ _ ⟨_, ⟨rfl, rfl, rfl⟩, rfl⟩
    refine XOA.cl ?_
    refine zO rfl Rd.mv ?_
    refine zO rfl (Rd.extract rfl rfl) ?_
    refine zO rfl (Rd.extract rfl rfl) ?_
    refine zO rfl Rd.asg ?_; refine zO rfl Rd.asg ?_; refine zN ?_; refine zT ?_; refine zS ?_; refine zS ?_; refine zR ?_; refine zO rfl Rd.mv ?_
    refine zO rfl (by first | exact Rd.notp rfl | exact Rd.not rfl) ?_
    refine zN ?_; refine zT ?_
    refine XA.condT rfl rfl ?_
    refine zS ?_; refine zR ?_; refine zO rfl Rd.asg ?_; refine zN ?_; refine zT ?_
    refine XA.ret ?_
    refine DA.thn_ret ?_
    exact bodyA.ret (ResA.one rfl rfl) zE ⟨by rw [wordC, if_neg ha], rfl, _, _, h, rfl⟩
theorem put_a (σ : PH) (b sb db : Nat) (d : DiskS) (s : StS) (inn dt : List Bool) (pg C : List (List Int)) (a w : Int) (hd : d.ok) (hlen : d.wait.length < 1000000) (h : MOk d s inn dt pg C) :
    CallsA Try.prog 52 #[ptr b, i64 a, i64 w] σ [blk b (mcells sb inn dt pg) 87, Store sb db s, Disk db d] (RetA fun v σ' Γ' => v = .bool (decide (0 ≤ a ∧ a < 112)) ∧ σ = σ' ∧ ∃ inn' pg', MOk d s inn' (putD C dt a w) pg' (putC C a w) ∧ Γ' = [blk b (mcells sb inn' (putD C dt a w) pg') 87, Store sb db s, Disk db d]) := by
  by_cases ha : 0 ≤ a ∧ a < 112
  · obtain ⟨n, rfl⟩ := Int.eq_ofNat_of_zero_le ha.1
    have hn : n < 112 := by omega
    rw [decide_eq_true ha]
    refine enterA3 Try.func52 rfl rfl rfl ?_
    refine zS ?_; refine zR ?_; refine zO rfl Rd.asg ?_; refine zN ?_; refine zT ?_; refine zS ?_; refine zR ?_; refine zO rfl Rd.mv ?_; refine zO rfl Rd.mv ?_
    refine zw rfl (WrA.cE (page_a σ b sb db d s inn dt pg C n hn hd hlen h) rfl) ?_
    rintro _ _ _ ⟨_, ⟨rfl, rfl, inn', pg', h', hi, rfl⟩, rfl⟩
    refine XOA.cl ?_
    refine zO rfl Rd.mv ?_
    refine zO rfl (Rd.extract rfl rfl) ?_
    refine zO rfl (Rd.extract rfl rfl) ?_
    refine zO rfl Rd.asg ?_; refine zO rfl Rd.asg ?_; refine zN ?_; refine zT ?_; refine zS ?_; refine zS ?_; refine zR ?_; refine zO rfl Rd.mv ?_; refine zO rfl Rd.mv ?_
    first | ((first | refine zW ?_ | refine zQ ?_); refine zO rfl Rd.mv ?_) | refine zU ?_ | refine zV ?_ | refine zZ ?_
    first | ((first | refine zW ?_ | refine zQ ?_); refine zO rfl Rd.mv ?_) | refine zU ?_ | refine zV ?_ | refine zZ ?_
    first | ((first | refine zW ?_ | refine zQ ?_); refine zO rfl Rd.mv ?_) | refine zU ?_ | refine zV ?_ | refine zZ ?_
    have hw := mc_word (sb := sb) h'.li h'.ld h'.pp (p := n / 8) (k := n % 8) (by omega) (by omega)
    have he := h'.word hn hi
    rw [← he] at hw
    first | refine XOA.wanted rfl rfl ?_ | refine XOA.wq rfl rfl ?_
    refine zO rfl (Rd.remi (c := ((n % 8 : Nat) : Int)) rfl rfl (by decide) (rem8 n)) ?_
    first | ((first | refine zW ?_ | refine zQ ?_); refine zO rfl (Rd.nilCheck rfl) ?_) | refine zU ?_ | refine zV ?_ | refine zZ ?_
    first | ((first | refine zW ?_ | refine zQ ?_); refine zO rfl (Rd.fA rfl) ?_) | refine zU ?_ | refine zV ?_ | refine zZ ?_
    first | ((first | refine zW ?_ | refine zQ ?_); refine zO rfl (Rd.ixA rfl rfl) ?_) | refine zU ?_ | refine zV ?_ | refine zZ ?_
    first | ((first | refine zW ?_ | refine zQ ?_); refine zO rfl (Rd.ixA rfl rfl) ?_) | refine zU ?_ | refine zV ?_ | refine zZ ?_
    first | ((first | refine zW ?_ | refine zQ ?_); refine zO rfl (Rd.ldC rfl (tyrow rfl) rfl) ?_) | refine zU ?_ | refine zV ?_ | refine zZ ?_
    first | ((first | refine zW ?_ | refine zQ ?_); refine zO rfl Rd.mv ?_) | refine zU ?_ | refine zV ?_ | refine zZ ?_
    first | ((first | refine zW ?_ | refine zQ ?_); refine zO rfl (Rd.neq rfl rfl) ?_) | refine zU ?_ | refine zV ?_ | refine zZ ?_
    refine zO rfl (by first | exact Rd.pT rfl | exact Rd.pF rfl | exact Rd.pP rfl) ?_
    refine zN ?_; refine zT ?_
    refine XA.condp rfl (fun hne => ?_) (fun hne => ?_)
    · have e1 : putC C n w = C.set (n / 8) ((C.getD (n / 8) DiskS.zeros).set (n % 8) w) := by rw [putC, if_pos ⟨ha, hne⟩]; rfl
      have e2 : putD C dt n w = dt.set (n / 8) true := by rw [putD, if_pos ⟨ha, hne⟩]; rfl
      have hP := h'.put (p := n / 8) (k := n % 8) (by omega) hi w
      have hspl := put_word (sb := sb) h'.li h'.ld h'.pp (p := n / 8) (k := n % 8) (by omega) (by omega) w
      have hspl2 := put_dt (sb := sb) (pg := pg'.set (n / 8) ((pg'.getD (n / 8) DiskS.zeros).set (n % 8) w)) h'.li h'.ld (p := n / 8) (by omega) true
      have hml := mc_len (sb := sb) h'.li h'.ld h'.pp
      have hfit : 29 + n / 8 * 8 + n % 8 + 1 ≤ (mcells sb inn' dt pg').length := by omega
      have hml2 := mc_len (sb := sb) h'.li h'.ld hP.pp
      have hfitB : 15 + n / 8 + ty4.size ≤ (mcells sb inn' dt (pg'.set (n / 8) ((pg'.getD (n / 8) DiskS.zeros).set (n % 8) w))).length := by rw [hml2]; show 15 + n / 8 + 1 ≤ 141; omega
      refine zS ?_; refine zR ?_; refine zO rfl Rd.mv ?_; refine zO rfl Rd.mv ?_; refine zO rfl Rd.mv ?_
      refine zO rfl (Rd.remi (c := ((n % 8 : Nat) : Int)) rfl rfl (by decide) (rem8 n)) ?_
      refine zO rfl Rd.mv ?_; refine zO rfl (Rd.nilCheck rfl) ?_; refine zO rfl (Rd.fA rfl) ?_
      refine zO rfl (Rd.ixA rfl rfl) ?_
      refine zO rfl (Rd.ixA rfl rfl) ?_
      refine zw rfl (WrA.st (tyrow rfl) rfl) ?_
      rintro _ _ _ ⟨rfl, rfl, rfl⟩
      refine zN ?_; refine zT ?_; refine zR ?_
      clear hfit
      have hfit := hfitB
      refine zO rfl Rd.mv ?_; refine zO rfl Rd.mv ?_; refine zO rfl (Rd.nilCheck rfl) ?_; refine zO rfl (Rd.fA rfl) ?_
      refine zO rfl (Rd.ixA rfl rfl) ?_
      refine zw rfl (WrA.st (tyrow rfl) rfl) ?_
      rintro _ _ _ ⟨rfl, rfl, rfl⟩
      refine zN ?_; refine zT ?_; refine zS ?_; refine zR ?_; refine zO rfl Rd.mv ?_; refine zO rfl Rd.asg ?_; refine zN ?_; refine zT ?_
      refine XA.ret ?_
      exact bodyA.ret (ResA.one rfl rfl) (by rw [e2]; exact zE) ⟨rfl, rfl, _, _, by rw [e1, e2]; exact hP, rfl⟩
    · have e1 : putC C n w = C := by rw [putC, if_neg (fun q => hne q.2)]
      have e2 : putD C dt n w = dt := by rw [putD, if_neg (fun q => hne q.2)]
      refine XA.skip ?_
      refine zT ?_; refine zS ?_; refine zR ?_; refine zO rfl Rd.mv ?_; refine zO rfl Rd.asg ?_; refine zN ?_; refine zT ?_
      refine XA.ret ?_
      exact bodyA.ret (ResA.one rfl rfl) (by rw [e2]; exact zE) ⟨rfl, rfl, _, _, by rw [e1, e2]; exact h', rfl⟩
  · have e1 : putC C a w = C := by rw [putC, if_neg (fun q => ha q.1)]
    have e2 : putD C dt a w = dt := by rw [putD, if_neg (fun q => ha q.1)]
    rw [decide_eq_false ha]
    refine enterA3 Try.func52 rfl rfl rfl ?_
    refine zS ?_; refine zR ?_; refine zO rfl Rd.asg ?_; refine zN ?_; refine zT ?_; refine zS ?_; refine zR ?_; refine zO rfl Rd.mv ?_; refine zO rfl Rd.mv ?_
    refine zw rfl (WrA.cE (page_no σ b a ha) rfl) ?_
    rintro _ _ _ ⟨_, ⟨rfl, rfl, rfl⟩, rfl⟩
    refine XOA.cl ?_
    refine zO rfl Rd.mv ?_
    refine zO rfl (Rd.extract rfl rfl) ?_
    refine zO rfl (Rd.extract rfl rfl) ?_
    refine zO rfl Rd.asg ?_; refine zO rfl Rd.asg ?_; refine zN ?_; refine zT ?_; refine zS ?_; refine zS ?_; refine zR ?_; refine zO rfl Rd.mv ?_; refine zO rfl Rd.mv ?_
    first | ((first | refine zW ?_ | refine zQ ?_); refine zO rfl Rd.mv ?_) | refine zU ?_ | refine zV ?_ | refine zZ ?_
    first | ((first | refine zW ?_ | refine zQ ?_); refine zO rfl Rd.mv ?_) | refine zU ?_ | refine zV ?_ | refine zZ ?_
    first | ((first | refine zW ?_ | refine zQ ?_); refine zO rfl Rd.mv ?_) | refine zU ?_ | refine zV ?_ | refine zZ ?_
    first | refine zU ?_ | refine zV ?_ | refine zZ ?_
    first | ((first | refine zW ?_ | refine zQ ?_); refine zO rfl (Rd.nilCheck rfl) ?_) | refine zU ?_ | refine zV ?_ | refine zZ ?_
    first | ((first | refine zW ?_ | refine zQ ?_); refine zO rfl (Rd.fA rfl) ?_) | refine zU ?_ | refine zV ?_ | refine zZ ?_
    first | ((first | refine zW ?_ | refine zQ ?_); refine zO rfl (Rd.ixA rfl rfl) ?_) | refine zU ?_ | refine zV ?_ | refine zZ ?_
    first | ((first | refine zW ?_ | refine zQ ?_); refine zO rfl (Rd.ixA rfl rfl) ?_) | refine zU ?_ | refine zV ?_ | refine zZ ?_
    first | ((first | refine zW ?_ | refine zQ ?_); refine zO rfl (Rd.ldC rfl (tyrow rfl) rfl) ?_) | refine zU ?_ | refine zV ?_ | refine zZ ?_
    first | ((first | refine zW ?_ | refine zQ ?_); refine zO rfl Rd.mv ?_) | refine zU ?_ | refine zV ?_ | refine zZ ?_
    first | ((first | refine zW ?_ | refine zQ ?_); refine zO rfl (Rd.neq rfl rfl) ?_) | refine zU ?_ | refine zV ?_ | refine zZ ?_
    refine zO rfl (by first | exact Rd.pT rfl | exact Rd.pF rfl | exact Rd.pP rfl) ?_
    refine zN ?_; refine zT ?_
    refine XA.condF rfl rfl ?_
    refine XA.skip ?_
    refine zT ?_; refine zS ?_; refine zR ?_; refine zO rfl Rd.mv ?_; refine zO rfl Rd.asg ?_; refine zN ?_; refine zT ?_
    refine XA.ret ?_
    exact bodyA.ret (ResA.one rfl rfl) (by rw [e2]; exact zE) ⟨rfl, rfl, _, _, by rw [e1, e2]; exact h, rfl⟩
def dirtyTo (C : List (List Int)) (dt : List Bool) : Nat → List PageS
  | 0 => []
  | k + 1 => if dt.getD k false = true then dirtyTo C dt k ++ [⟨(k : Int), C.getD k DiskS.zeros⟩] else dirtyTo C dt k
theorem dirtyTo_le (C : List (List Int)) (dt : List Bool) : ∀ k, (dirtyTo C dt k).length ≤ k
  | 0 => Nat.le_refl _
  | k + 1 => by
    have := dirtyTo_le C dt k
    rw [dirtyTo]; split
    · rw [List.length_append, List.length_singleton]; omega
    · omega
def dirtyL (C : List (List Int)) (dt : List Bool) : List PageS := dirtyTo C dt 14
theorem dirty_a (σ : PH) (b sb : Nat) (d : DiskS) (s : StS) (inn dt : List Bool) (pg C : List (List Int)) (h : MOk d s inn dt pg C) :
    CallsA Try.prog 76 #[ptr b] σ [blk b (mcells sb inn dt pg) 87] (RetA fun v σ' Γ' => ∃ (p : Option Addr) (c : Nat) (rows : List (List Value)), v = .slice p (dirtyL C dt).length c ∧ Rows_ 9 rPage σ rows (dirtyL C dt) ∧ σ = σ' ∧ Γ' = [blk b (mcells sb inn dt pg) 87, lst 164 9 (.slice p (dirtyL C dt).length c) (dirtyL C dt).length rows.flatten]) := by
  have hdts := mc_dts (sb := sb) (pg := pg) h.li h.ld
  have hbl : (bools dt).length = 14 := by rw [bools_len]; exact h.ld
  have hone : ones (bools dt) := ones_bools _
  refine enterA1 Try.func76 rfl rfl rfl ?_
  refine zS ?_; refine zR ?_; refine zO rfl Rd.asg ?_; refine zN ?_; refine zT ?_; refine zS ?_; refine zR ?_; refine zO rfl Rd.asg ?_; refine zN ?_; refine zT ?_; refine zS ?_; refine zS ?_; refine zR ?_; refine zO rfl Rd.mv ?_; refine zO rfl (Rd.nilCheck rfl) ?_; refine zO rfl (Rd.fA rfl) ?_; refine zO rfl (Rd.ldA rfl) ?_
  refine zO rfl Rd.mv ?_; refine zN ?_; refine zT ?_
  refine XA.block ?_
  refine XA.gen [(0, _), (2, _), (3, _), (9, _), (10, _)] ⟨(by with_reducible (conv => lhs; whnf)), (by with_reducible (conv => lhs; whnf)), (by with_reducible (conv => lhs; whnf)), (by with_reducible (conv => lhs; whnf)), (by with_reducible (conv => lhs; whnf)), trivial⟩ (fun δ => ?_)
  dsimp only [List.foldl]
  refine XA.loop [(3, 5), (10, 26)] (fun q : Nat × (Option Addr × (Nat × Nat)) => [(10, i64 q.1), (3, .slice q.2.1 q.2.2.1 q.2.2.2)]) (fun q σ' Γ' => σ = σ' ∧ q.1 ≤ 14 ∧ q.2.2.1 = (dirtyTo C dt q.1).length ∧ ∃ (rows : List (List Value)), Rows_ 9 rPage σ rows (dirtyTo C dt q.1) ∧ Γ' = [blk b (mcells sb inn dt pg) 87, lst 164 9 (.slice q.2.1 q.2.2.1 q.2.2.2) q.2.2.1 rows.flatten]) (fun q => 14 - q.1) (0, (none, (0, 0))) (by exact ⟨rfl, rfl, trivial⟩) (Δ0 := _) ?_ (⟨rfl, Nat.zero_le _, rfl, [], Rows_.nil _ _ _, rfl⟩) ?_
  · exact zE
  rintro ⟨k, p, n, c⟩ δ _ _ ⟨rfl, hk, hn, rows, hrows, rfl⟩
  dsimp only [ovr, List.foldl]
  have hk : k ≤ 14 := hk
  have hn : n = (dirtyTo C dt k).length := hn
  have hrows : Rows_ 9 rPage σ rows (dirtyTo C dt k) := hrows
  have hle := dirtyTo_le C dt k
  rw [← hn] at hle
  refine zS ?_; refine zR ?_; refine zO rfl (Rd.lss rfl rfl) ?_; refine zN ?_; refine zT ?_; refine zS ?_
  refine XA.condp rfl (fun hlt => ?_) (fun hlt => ?_)
  · have hlt : k < 14 := by omega
    have hbk : (bools dt).toArray[((k : Nat) : Int).toNat]? = some (.bool (dt.getD k false)) := by rw [Int.toNat_natCast, List.getElem?_toArray]; exact bools_get (by rw [h.ld]; exact hlt)
    cases hdk : dt.getD k false with
    | true =>
      rw [hdk] at hbk
      have e1 : dirtyTo C dt (k + 1) = dirtyTo C dt k ++ [⟨(k : Int), C.getD k DiskS.zeros⟩] := by rw [dirtyTo, if_pos hdk]
      have hrow := mc_row (sb := sb) h.li h.ld h.pp (p := k) hlt
      rw [show pg.getD k DiskS.zeros = C.getD k DiskS.zeros by rw [h.val k hlt, if_pos (h.dir k hlt hdk)]] at hrow
      have hW8 := pgs_row8 h.cc hlt
      obtain ⟨W, hW⟩ : ∃ W, W = C.getD k DiskS.zeros := ⟨_, rfl⟩
      rw [← hW] at hrow hW8 e1
      have honeW : ones (ints W) := ones_ints _
      have hxl : (i64 (k : Int) :: ints W).length = 9 := by simp [hW8]
      have hone2 : ones (i64 (k : Int) :: ints W) := ones_cons rfl (ones_ints _)
      have hrow2 : rPage σ (i64 (k : Int) :: ints W) ⟨k, W⟩ := ⟨rfl, hW8⟩
      have hnew : Rows_ 9 rPage σ (rows ++ [i64 (k : Int) :: ints W]) (dirtyTo C dt (k + 1)) := by rw [e1]; exact hrows.snoc hxl hrow2
      have hn1 : n + 1 = (dirtyTo C dt (k + 1)).length := by rw [e1, List.length_append, List.length_singleton, hn]
      refine XA.skip ?_
      refine zT ?_; refine zS ?_
      refine XA.block ?_
      refine zS ?_; refine zR ?_; refine zO rfl Rd.mv ?_
      refine zO rfl (Rd.ixG rfl rfl) ?_
      refine zO rfl Rd.asg ?_; refine zO rfl Rd.asg ?_; refine zN ?_; refine zT ?_; refine zS ?_; refine zR ?_; refine zO rfl Rd.mv ?_; refine zN ?_; refine zT ?_
      refine XA.condT rfl rfl ?_
      refine zR ?_; refine zO rfl Rd.mv ?_; refine zO rfl Rd.mv ?_; refine zO rfl Rd.mv ?_; refine zO rfl Rd.mv ?_; refine zO rfl (Rd.nilCheck rfl) ?_; refine zO rfl (Rd.fA rfl) ?_
      refine zO rfl (Rd.ixA rfl rfl) ?_
      refine zO rfl (Rd.ldA rfl) ?_
      refine zO rfl (Rd.bl (fun _ _ => tyrow) rfl rfl rfl) ?_
      refine zw rfl (WrA.bs1 (tyrow rfl) rfl (tyrow rfl)) ?_
      rintro _ _ _ ⟨g24, rfl, rfl, rfl⟩
      refine zw rfl (WrA.ap1 (tyrow rfl) rfl (tyrow rfl) rfl rfl rfl) ?_
      rintro _ _ _ ⟨p25, c25, rfl, rfl, rfl⟩
      refine zO rfl Rd.asg ?_; refine zN ?_
      refine DA.inb_normal ?_
      refine zT ?_; refine zR ?_
      refine zO rfl (by first | exact Rd.adi rfl rfl | exact Rd.add rfl rfl) ?_
      refine zO rfl Rd.mv ?_; refine zN ?_; refine zT ?_
      refine ⟨(Keep.upd (Keep.upd (Keep.upd (Keep.updO (Keep.updO (Keep.upd (Keep.upd (Keep.upd (Keep.upd (Keep.upd (Keep.upd (Keep.upd (Keep.upd (Keep.upd (Keep.upd (Keep.upd (Keep.upd (Keep.upd (Keep.upd (Keep.upd (Keep.upd (Keep.upd (Keep.hav (Keep.hav (Keep.refl _ _) rfl) rfl) rfl) rfl) rfl) rfl) rfl) rfl) rfl) rfl) rfl) rfl) rfl) rfl) rfl) rfl) rfl) rfl) rfl) rfl) rfl) rfl) rfl) rfl), (k + 1, (p25, (n + 1, c25))), _, (by (repeat (first | exact trivial | refine ⟨rfl, ?_⟩ | refine ⟨Eq.trans rfl (congrArg Value.bool hmat.symm), ?_⟩)); (first | done | fail)), ?_, ⟨rfl, hlt, hn1, _, hnew, rfl⟩, (by simp only; omega)⟩
      · rw [flatS]; exact zE
    | false =>
      rw [hdk] at hbk
      have e1 : dirtyTo C dt (k + 1) = dirtyTo C dt k := by rw [dirtyTo, if_neg (by rw [hdk]; exact fun q => by cases q)]
      refine XA.skip ?_
      refine zT ?_; refine zS ?_
      refine XA.block ?_
      refine zS ?_; refine zR ?_; refine zO rfl Rd.mv ?_
      refine zO rfl (Rd.ixG rfl rfl) ?_
      refine zO rfl Rd.asg ?_; refine zO rfl Rd.asg ?_; refine zN ?_; refine zT ?_; refine zS ?_; refine zR ?_; refine zO rfl Rd.mv ?_; refine zN ?_; refine zT ?_
      refine XA.condF rfl rfl ?_
      refine XA.skip ?_
      refine DA.inb_normal ?_
      refine zT ?_; refine zR ?_
      refine zO rfl (by first | exact Rd.adi rfl rfl | exact Rd.add rfl rfl) ?_
      refine zO rfl Rd.mv ?_; refine zN ?_; refine zT ?_
      refine ⟨(Keep.upd (Keep.upd (Keep.upd (Keep.upd (Keep.upd (Keep.upd (Keep.upd (Keep.upd (Keep.upd (Keep.upd (Keep.hav (Keep.hav (Keep.refl _ _) rfl) rfl) rfl) rfl) rfl) rfl) rfl) rfl) rfl) rfl) rfl) rfl), (k + 1, (p, (n, c))), _, (by (repeat (first | exact trivial | refine ⟨rfl, ?_⟩ | refine ⟨Eq.trans rfl (congrArg Value.bool hmat.symm), ?_⟩)); (first | done | fail)), ?_, ⟨rfl, hlt, by rw [e1]; exact hn, rows, by rw [e1]; exact hrows, rfl⟩, (by simp only; omega)⟩
      · exact zE
  obtain rfl : k = 14 := by omega
  subst hn
  refine XA.exit ?_
  refine DA.thn_exit ?_
  refine DA.thn_exit ?_
  refine DA.inb_same ?_
  refine zT ?_; refine zS ?_; refine zR ?_; refine zO rfl Rd.mv ?_; refine zO rfl Rd.asg ?_; refine zN ?_; refine zT ?_
  refine XA.ret ?_
  exact bodyA.ret (ResA.one rfl rfl) zE ⟨p, c, rows, rfl, hrows, rfl, rfl⟩
def noB : List Bool := List.replicate 14 false
def noP : List (List Int) := List.replicate 14 DiskS.zeros
set_option maxRecDepth 100000 in
theorem mnew_a (σ : PH) (sb : Nat) : CallsA Try.prog 14 #[ptr sb] σ [] (RetA fun v σ' Γ' => ∃ b, v = ptr b ∧ σ = σ' ∧ Γ' = [blk b (mcells sb noB noB noP) 87]) := by
  refine enterA1 Try.func14 rfl rfl rfl ?_
  refine zS ?_; refine zR ?_; refine zO rfl Rd.asg ?_; refine zN ?_; refine zT ?_; refine zS ?_; refine zR ?_; refine zO rfl Rd.mv ?_
  refine zO rfl (Rd.bl (fun _ _ => tyrow) rfl rfl rfl) ?_
  refine zw rfl WrA.bx ?_
  rintro _ _ _ ⟨g5, rfl, rfl, rfl⟩
  refine zO rfl Rd.asg ?_; refine zN ?_; refine zT ?_
  refine XA.ret ?_
  exact bodyA.ret (ResA.one rfl rfl) zE ⟨_, rfl, rfl, rfl⟩
end Go.Proofs.Ytmnmcjdgnpgchaa

namespace Go.Proofs.Ytmnmcjdgnpgchaa
open Go X
set_option maxHeartbeats 2000000
theorem commit_yesL (σ : PH) (b db : Nat) (s : StS) (d : DiskS) (p : Option Addr) (c : Nat) (rows : List (List Value)) (l : List PageS) (D : Int) (hr : Rows_ 9 rPage σ rows l) (hc : checkS l = 0) (hG : Good d s) (hg1 : s.gen < 4611686018427387904) (hD : okD D) :
    CallsA Try.prog 93 #[ptr b, .slice p l.length c, i64 D] σ [lst 164 9 (.slice p l.length c) l.length rows.flatten, Store b db s, Disk db d]
      (RetA fun v σ' Γ' => ∃ j : Nat, j ≤ l.length + 5 ∧ (j < l.length + 5 → D = (j : Int)) ∧ (j = l.length + 5 → ∀ i : Nat, i < l.length + 5 → D ≠ (i : Int)) ∧ v = .tuple #[.bool (decide (j = l.length + 5)), i64 0] ∧ σ.sub σ' ∧ Γ' = [Store b db (if j = l.length + 5 then nextS s l else s), Disk db (comD d s l j)]) := by
  refine X.CallsA.frz (enters Try.func93 rfl rfl) .head lst_frz lst_frz_mono ?_
  rintro σ' ⟨⟩ hf hs
  exact CallsA.ret (commit_yes σ' b db s d _ l D ((hr.mono (σ' := σ') (fun _ _ h => h)).psl rfl hf) hc hG.sok hG.gen hg1 hD hG.wlen) (fun v σ2 Γ2 ⟨j, a1, a2, a3, a4, a5, a6⟩ => ⟨j, a1, a2, a3, a4, hs.trans a5, a6⟩)
theorem checkGo_ok : ∀ (l seen : List PageS), (∀ x ∈ l, 0 ≤ x.n ∧ x.n < 14) → (l.map (·.n)).Nodup → (∀ x ∈ l, ∀ y ∈ seen, y.n ≠ x.n) → checkGo seen l = 0
  | [], _, _, _, _ => rfl
  | x :: l, seen, h1, h2, h3 => by
    rw [checkGo, if_neg (fun q => q (h1 x (by simp))), if_neg (fun ⟨y, hy, e⟩ => h3 x (by simp) y hy e)]
    rw [List.map_cons, List.nodup_cons] at h2
    refine checkGo_ok l (seen ++ [x]) (fun y hy => h1 y (List.mem_cons_of_mem _ hy)) h2.2 (fun y hy z hz => ?_)
    rcases List.mem_append.1 hz with hz | hz
    · exact h3 y (List.mem_cons_of_mem _ hy) z hz
    · rw [List.mem_singleton.1 hz]
      exact fun e => h2.1 (e ▸ List.mem_map_of_mem (f := (·.n)) hy)
theorem dirtyTo_mem {C : List (List Int)} {dt : List Bool} : ∀ {k : Nat} {x : PageS}, x ∈ dirtyTo C dt k → ∃ p : Nat, p < k ∧ x = ⟨(p : Int), C.getD p DiskS.zeros⟩
  | 0, x, h => by cases h
  | k + 1, x, h => by
    rw [dirtyTo] at h
    split at h
    · rcases List.mem_append.1 h with h | h
      · obtain ⟨p, a, b⟩ := dirtyTo_mem h; exact ⟨p, by omega, b⟩
      · exact ⟨k, by omega, List.mem_singleton.1 h⟩
    · obtain ⟨p, a, b⟩ := dirtyTo_mem h; exact ⟨p, by omega, b⟩
theorem dirtyTo_nodup (C : List (List Int)) (dt : List Bool) : ∀ k, ((dirtyTo C dt k).map (·.n)).Nodup
  | 0 => List.nodup_nil
  | k + 1 => by
    rw [dirtyTo]
    split
    · rw [List.map_append, List.nodup_append]
      refine ⟨dirtyTo_nodup C dt k, by simp, fun a ha b hb => ?_⟩
      obtain ⟨x, hx, rfl⟩ := List.mem_map.1 ha
      obtain ⟨p, hp, rfl⟩ := dirtyTo_mem hx
      simp only [List.map_cons, List.map_nil, List.mem_singleton] at hb
      subst hb
      intro e
      simp only at e
      omega
    · exact dirtyTo_nodup C dt k
theorem dirty_n {C : List (List Int)} {dt : List Bool} : ∀ x ∈ dirtyL C dt, 0 ≤ x.n ∧ x.n < 14 := fun x hx => by
  obtain ⟨p, hp, rfl⟩ := dirtyTo_mem hx
  simp only; omega
theorem dirty_check (C : List (List Int)) (dt : List Bool) : checkS (dirtyL C dt) = 0 := checkGo_ok _ _ dirty_n (dirtyTo_nodup C dt 14) (fun _ _ _ h => by cases h)
theorem dirty_w {C : List (List Int)} {dt : List Bool} (h : pgsOk C) : ∀ x ∈ dirtyL C dt, x.w.length = 8 := fun x hx => by
  obtain ⟨p, hp, rfl⟩ := dirtyTo_mem hx
  exact pgs_row8 h hp
theorem wTo_pre {W : List Int} {l : List PageS} {x : PageS} (p : Int) : ∀ k, k ≤ l.length → wTo W (l ++ [x]) k p = wTo W l k p
  | 0, _ => rfl
  | k + 1, h => by
    have e1 : (l ++ [x])[k]? = some l[k] := by rw [List.getElem?_append_left (by omega), List.getElem?_eq_getElem (by omega)]
    rw [wTo_succ e1, wTo_succ (List.getElem?_eq_getElem (by omega : k < l.length)), wTo_pre p k (by omega)]
theorem wTo_snoc {W : List Int} {l : List PageS} {x : PageS} (p : Int) : wTo W (l ++ [x]) (l ++ [x]).length p = if x.n = p then x.w else wTo W l l.length p := by
  rw [List.length_append, List.length_singleton, wTo_succ (x := x) (by simp), wTo_pre p _ (Nat.le_refl _)]
theorem wTo_dirty (W : List Int) (C : List (List Int)) (dt : List Bool) (p : Nat) : ∀ k, wTo W (dirtyTo C dt k) (dirtyTo C dt k).length p = if p < k ∧ dt.getD p false = true then C.getD p DiskS.zeros else W
  | 0 => by rw [if_neg (by omega)]; rfl
  | k + 1 => by
    have ih := wTo_dirty W C dt p k
    rw [dirtyTo]
    by_cases hk : dt.getD k false = true
    · rw [if_pos hk, wTo_snoc, ih]
      by_cases e : p = k
      · subst e; rw [if_pos rfl, if_pos ⟨by omega, hk⟩]
      · rw [if_neg (by simp only; omega)]
        by_cases h2 : p < k ∧ dt.getD p false = true
        · rw [if_pos h2, if_pos ⟨by omega, h2.2⟩]
        · rw [if_neg h2, if_neg (fun q => h2 ⟨by omega, q.2⟩)]
    · rw [if_neg hk, ih]
      by_cases h2 : p < k ∧ dt.getD p false = true
      · rw [if_pos h2, if_pos ⟨by omega, h2.2⟩]
      · rw [if_neg h2, if_neg (fun q => h2 ⟨by
          rcases Nat.lt_or_ge p k with z | z
          · exact z
          · have : p = k := by omega
            subst this; exact absurd q.2 hk, q.2⟩)]
theorem noB_get (p : Nat) : noB.getD p false = false := by
  rw [noB, List.getD_eq_getElem?_getD, List.getElem?_replicate]; split <;> rfl
theorem noP_ok : pgsOk noP := ⟨by simp [noP], fun w hw => by rw [List.eq_of_mem_replicate hw]; rfl⟩
theorem MOk.sync {d d' : DiskS} {s s' : StS} {inn dt : List Bool} {pg C : List (List Int)} (h : MOk d s inn dt pg C) (hp : ∀ p : Int, pageW d' s' p = wTo (pageW d s p) (dirtyL C dt) (dirtyL C dt).length p) : MOk d' s' inn noB pg C ∧ ∀ p : Nat, p < 14 → pageW d' s' p = C.getD p DiskS.zeros := by
  have key : ∀ p : Nat, p < 14 → pageW d' s' p = C.getD p DiskS.zeros := fun p hp14 => by
    rw [hp p]
    have := wTo_dirty (pageW d s p) C dt p 14
    refine this.trans ?_
    by_cases hd : dt.getD p false = true
    · rw [if_pos ⟨hp14, hd⟩]
    · rw [if_neg (fun q => hd q.2)]
      exact (h.old p hp14 (by revert hd; cases dt.getD p false <;> simp)).symm
  refine ⟨⟨h.li, rfl, h.pp, h.cc, fun p hp14 => ?_, fun p _ hq => ?_, fun p hp14 _ => (key p hp14).symm⟩, key⟩
  · split
    · rename_i hi; rw [h.val p hp14, if_pos hi]
    · exact (key p hp14).symm
  · rw [noB_get] at hq; cases hq
def pagesC (d : DiskS) (s : StS) : List (List Int) := (List.range 14).map fun p => pageW d s (p : Nat)
theorem pagesC_get (d : DiskS) (s : StS) {p : Nat} (hp : p < 14) : (pagesC d s).getD p DiskS.zeros = pageW d s p := by
  simp [pagesC, List.getD_eq_getElem?_getD, List.getElem?_range hp]
theorem pagesC_ok {d : DiskS} (hd : d.ok) (s : StS) : pgsOk (pagesC d s) := ⟨by simp [pagesC], fun w hw => by
  obtain ⟨p, -, rfl⟩ := List.mem_map.1 hw
  exact pageW_len hd s p⟩
theorem pgs_ext {P Q : List (List Int)} (hP : pgsOk P) (hQ : pgsOk Q) (h : ∀ p, p < 14 → P.getD p DiskS.zeros = Q.getD p DiskS.zeros) : P = Q := by
  refine List.ext_getElem (by rw [hP.1, hQ.1]) (fun i h1 h2 => ?_)
  have := h i (by rw [← hP.1]; exact h1)
  simpa [List.getD_eq_getElem?_getD, List.getElem?_eq_getElem h1, List.getElem?_eq_getElem h2] using this
theorem MOk.new {d : DiskS} (hd : d.ok) (s : StS) : MOk d s noB noB noP (pagesC d s) := by
  refine ⟨rfl, rfl, noP_ok, pagesC_ok hd s, fun p hp => ?_, fun p _ hq => ?_, fun p hp _ => pagesC_get d s hp⟩
  · rw [noB_get, if_neg (by simp), pagesC_get d s hp]
  · rw [noB_get] at hq; cases hq
theorem sync_a (σ : PH) (b sb db : Nat) (d : DiskS) (s : StS) (inn dt : List Bool) (pg C : List (List Int)) (D : Int) (hG : Good d s) (hg1 : s.gen < 4611686018427387904) (hD : okD D) (h : MOk d s inn dt pg C) :
    CallsA Try.prog 77 #[ptr b, i64 D] σ [blk b (mcells sb inn dt pg) 87, Store sb db s, Disk db d] (RetA fun v σ' Γ' => ∃ j : Nat, j ≤ (dirtyL C dt).length + 5 ∧ (j < (dirtyL C dt).length + 5 → D = (j : Int)) ∧ (j = (dirtyL C dt).length + 5 → ∀ i : Nat, i < (dirtyL C dt).length + 5 → D ≠ (i : Int)) ∧ v = .bool (decide (j = (dirtyL C dt).length + 5)) ∧ σ.sub σ' ∧ Γ' = [blk b (mcells sb inn (if j = (dirtyL C dt).length + 5 then noB else dt) pg) 87, Store sb db (if j = (dirtyL C dt).length + 5 then nextS s (dirtyL C dt) else s), Disk db (comD d s (dirtyL C dt) j)]) := by
  have hsb : (mcells sb inn dt pg)[0]? = some (ptr sb) := rfl
  refine enterA2 Try.func77 rfl rfl rfl ?_
  refine zS ?_; refine zR ?_; refine zO rfl Rd.asg ?_; refine zN ?_; refine zT ?_; refine zS ?_
  refine XA.draw (by kernel_rfl) _ _ [7] [(0, .pu), (1, .pu), (2, .pu), (3, .rd), (4, .pu), (6, .pu), (5, .wr), (7, .wr), (8, .pu), (9, .pu), (10, .pu), (11, .pu), (12, .pu)] (by kernel_rfl) (PH.sub.refl _) (Ent.sel (R := blk b _ _) (by ((repeat (first | with_reducible exact Sel.head | apply Sel.tail)); (first | done | fail))) (Ent.nil _)) ?_
  refine zu rfl rfl Rd.mv ?_
  refine zu rfl rfl (Rd.nilCheck rfl) ?_
  refine zu rfl rfl (Rd.fA rfl) ?_
  refine XPA.rd rfl rfl Gd.free (Rd.ldC rfl (tyrow rfl) rfl) ?_
  refine zu rfl rfl Rd.mv ?_
  refine zu rfl rfl Rd.mv ?_
  refine XPA.wr0 rfl rfl Gd.free (WrA.cE (dirty_a σ b sb d s inn dt pg C h) rfl) ?_
  rintro _ _ _ ⟨_, ⟨p, c, rows, rfl, hr, rfl, rfl⟩, rfl⟩
  refine stays (XPA.cl ?_)
  refine XPA.wrZ0 rfl rfl Gd.free (by kernel_rfl) (WrA.cE (commit_yesL σ sb db s d p c rows (dirtyL C dt) D hr (dirty_check C dt) hG hg1 hD) rfl) ?_
  rintro _ σ' _ ⟨_, ⟨j, hj1, hj2, hj3, rfl, hs, rfl⟩, rfl⟩
  refine XPA.cl ?_
  refine zu rfl rfl Rd.mv ?_
  refine zu rfl rfl (Rd.extract rfl rfl) ?_
  refine zu rfl rfl (Rd.extract rfl rfl) ?_
  refine zu rfl rfl Rd.asg ?_
  refine zu rfl rfl Rd.asg ?_
  refine XPA.nil ?_
  refine zT ?_; refine zS ?_; refine zS ?_; refine zR ?_; refine zO rfl Rd.mv ?_; refine zN ?_; refine zT ?_
  have hml := mc_len (sb := sb) h.li h.ld h.pp
  by_cases hj : j = (dirtyL C dt).length + 5
  · have hspl := put_dts (sb := sb) (pg := pg) (dt' := noB) h.li h.ld rfl
    have hfit : 15 + ty82.size ≤ (mcells sb inn dt pg).length := by rw [hml]; decide
    rw [if_pos hj]
    refine XA.condT rfl (decide_eq_true hj) ?_
    refine zR ?_; refine zO rfl Rd.mv ?_
    refine zO rfl (Rd.blA (fun _ _ => tyrow) rfl rfl rfl) ?_
    refine zO rfl (Rd.nilCheck rfl) ?_; refine zO rfl (Rd.fA rfl) ?_
    refine zw rfl (WrA.st (tyrow rfl) rfl) ?_
    rintro _ _ _ ⟨rfl, rfl, rfl⟩
    refine zN ?_; refine zT ?_; refine zS ?_; refine zR ?_; refine zO rfl Rd.mv ?_; refine zO rfl Rd.asg ?_; refine zN ?_; refine zT ?_
    refine XA.ret ?_
    exact bodyA.ret (ResA.one rfl rfl) (by rw [if_pos hj, if_pos hj]; exact zE) ⟨j, hj1, hj2, hj3, rfl, hs, rfl⟩
  · rw [if_neg hj]
    refine XA.condF rfl (decide_eq_false hj) ?_
    refine XA.skip ?_
    refine zT ?_; refine zS ?_; refine zR ?_; refine zO rfl Rd.mv ?_; refine zO rfl Rd.asg ?_; refine zN ?_; refine zT ?_
    refine XA.ret ?_
    exact bodyA.ret (ResA.one rfl rfl) (by rw [if_neg hj, if_neg hj]; exact zE) ⟨j, hj1, hj2, hj3, rfl, hs, rfl⟩
theorem clip_a (σ : PH) (p : Option Addr) (n c : Nat) (h : n ≤ c) : CallsA Try.prog 61 #[.slice p n c] σ [] (RetA fun v σ' Γ' => v = .slice p n n ∧ σ = σ' ∧ Γ' = []) := by
  refine enterA1 Try.func61 rfl rfl rfl ?_
  refine zS ?_; refine zR ?_; refine zO rfl Rd.asg ?_; refine zN ?_; refine zT ?_; refine zS ?_; refine zR ?_; refine zO rfl Rd.mv ?_; refine zO rfl Rd.mv ?_; refine zO rfl (Rd.lenSlice (tyrow rfl) rfl rfl) ?_; refine zO rfl Rd.mv ?_; refine zO rfl (Rd.lenSlice (tyrow rfl) rfl rfl) ?_
  refine zO rfl (Rd.sliceTo3N (tyrow rfl) rfl (tyrow rfl) rfl rfl rfl (Nat.le_refl _) h) ?_
  refine zO rfl Rd.asg ?_; refine zN ?_; refine zT ?_
  refine XA.ret ?_
  exact bodyA.ret (ResA.one rfl rfl) zE ⟨rfl, rfl, rfl⟩
theorem flat_get {P : List (List Int)} (h : pgsOk P) {n : Nat} (hn : n < 112) : P.flatten[n]? = some (wordC P n) := by
  have h1 := pgs_at h (n := n / 8) (by omega)
  have h2 : (((ints P.flatten).drop (n / 8 * 8)).take 8)[n % 8]? = some (i64 ((P.getD (n / 8) DiskS.zeros).getD (n % 8) 0)) := by
    rw [h1, ints_get (by rw [pgs_row8 h (by omega)]; omega)]
  rw [List.getElem?_take, if_pos (by omega), List.getElem?_drop, show n / 8 * 8 + n % 8 = n by omega, ← wordC_nat P hn] at h2
  simp only [ints, List.getElem?_map, Option.map_eq_some_iff] at h2
  obtain ⟨a, ha, e⟩ := h2
  rw [ha]
  simp only [Value.int.injEq, true_and] at e
  rw [e]
theorem flat_len {P : List (List Int)} (h : pgsOk P) : P.flatten.length = 112 := by
  have := pgs_len h
  rwa [ints_len] at this
theorem all_a (σ : PH) (b sb db : Nat) (d : DiskS) (s : StS) (inn dt : List Bool) (pg C : List (List Int)) (hd : d.ok) (hlen : d.wait.length < 1000000) (h : MOk d s inn dt pg C) :
    CallsA Try.prog 33 #[ptr b] σ [blk b (mcells sb inn dt pg) 87, Store sb db s, Disk db d] (RetA fun v σ' Γ' => PInts σ' v C.flatten ∧ σ.sub σ' ∧ ∃ inn' pg', MOk d s inn' dt pg' C ∧ Γ' = [blk b (mcells sb inn' dt pg') 87, Store sb db s, Disk db d]) := by
  have hfl := flat_len h.cc
  refine enterA1 Try.func33 rfl rfl rfl ?_
  refine zS ?_; refine zR ?_; refine zO rfl Rd.asg ?_; refine zN ?_; refine zT ?_; refine zS ?_; refine zR ?_; refine zO rfl Rd.asg ?_; refine zN ?_; refine zT ?_; refine zS ?_; refine zS ?_; refine zR ?_; refine zO rfl Rd.mv ?_; refine zN ?_; refine zT ?_
  refine XA.block ?_
  refine XA.gen [(0, _), (2, _), (3, _), (5, _)] ⟨(by with_reducible (conv => lhs; whnf)), (by with_reducible (conv => lhs; whnf)), (by with_reducible (conv => lhs; whnf)), (by with_reducible (conv => lhs; whnf)), trivial⟩ (fun δ => ?_)
  dsimp only [List.foldl]
  refine XA.loop [(3, 14)] (fun q : Nat × (Option Addr × Nat) => [(5, i64 q.1), (3, .slice q.2.1 q.1 q.2.2)]) (fun q σ' Γ' => σ = σ' ∧ q.1 ≤ 112 ∧ ∃ inn' pg', MOk d s inn' dt pg' C ∧ Γ' = [blk b (mcells sb inn' dt pg') 87, Store sb db s, Disk db d, lst 2 1 (.slice q.2.1 q.1 q.2.2) q.1 (ints (C.flatten.take q.1))]) (fun q => 112 - q.1) (0, (none, 0)) (by exact ⟨rfl, rfl, trivial⟩) (Δ0 := _) ?_ (⟨rfl, Nat.zero_le _, inn, pg, h, rfl⟩) ?_
  · exact zE
  rintro ⟨k, p, c⟩ δ _ _ ⟨rfl, hk, inn', pg', h', rfl⟩
  dsimp only [ovr, List.foldl]
  have hk : k ≤ 112 := hk
  refine zS ?_; refine zR ?_; refine zO rfl (Rd.lss rfl rfl) ?_; refine zN ?_; refine zT ?_; refine zS ?_
  refine XA.condp rfl (fun hlt => ?_) (fun hlt => ?_)
  · have hlt : k < 112 := by omega
    have hg := flat_get h.cc hlt
    have hlk : (ints (C.flatten.take k)).length = k * 1 := by rw [ints_len, List.length_take, hfl]; omega
    refine XA.skip ?_
    refine zT ?_; refine zS ?_
    refine XA.block ?_
    refine zS ?_; refine zR ?_; refine zO rfl Rd.mv ?_; refine zO rfl Rd.asg ?_; refine zN ?_; refine zT ?_; refine zR ?_; refine zO rfl Rd.mv ?_; refine zO rfl Rd.mv ?_; refine zO rfl Rd.mv ?_
    refine zw rfl (WrA.cE (load_a σ b sb db d s inn' dt pg' C k hd hlen h') rfl) ?_
    rintro _ _ _ ⟨_, ⟨rfl, rfl, inn2, pg2, h2, rfl⟩, rfl⟩
    refine XOA.cl ?_
    refine zw rfl (WrA.bs1 (tyrow rfl) rfl (tyrow rfl)) ?_
    rintro _ _ _ ⟨g12, rfl, rfl, rfl⟩
    refine zw rfl (WrA.ap1 (tyrow rfl) rfl (tyrow rfl) rfl rfl rfl) ?_
    rintro _ _ _ ⟨p13, c13, rfl, rfl, rfl⟩
    refine zO rfl Rd.asg ?_; refine zN ?_
    refine DA.inb_normal ?_
    refine zT ?_; refine zR ?_
    refine zO rfl (by first | exact Rd.adi rfl rfl | exact Rd.add rfl rfl) ?_
    refine zO rfl Rd.mv ?_; refine zN ?_; refine zT ?_
    refine ⟨(Keep.upd (Keep.upd (Keep.upd (Keep.updO (Keep.updO (Keep.updO (Keep.upd (Keep.upd (Keep.upd (Keep.upd (Keep.upd (Keep.upd (Keep.upd (Keep.upd (Keep.hav (Keep.refl _ _) rfl) rfl) rfl) rfl) rfl) rfl) rfl) rfl) rfl) rfl) rfl) rfl) rfl) rfl) rfl), (k + 1, (p13, c13)), _, (by (repeat (first | exact trivial | refine ⟨rfl, ?_⟩ | refine ⟨Eq.trans rfl (congrArg Value.bool hmat.symm), ?_⟩)); (first | done | fail)), ?_, ⟨rfl, hlt, inn2, pg2, h2, rfl⟩, (by simp only; omega)⟩
    · rw [takeS hg, show ints (C.flatten.take k ++ [wordC C k]) = ints (C.flatten.take k) ++ [i64 (wordC C k)] by simp [ints]]; exact zE
  obtain rfl : k = 112 := by omega
  rw [List.take_of_length_le (by omega)]
  refine XA.exit ?_
  refine DA.thn_exit ?_
  refine DA.thn_exit ?_
  refine DA.inb_same ?_
  refine zT ?_; refine zS ?_; refine zR ?_; refine zO rfl Rd.mv ?_
  refine XOA.frz (R := lst 2 1 _ _ _) (by ((repeat (first | with_reducible exact Sel.head | apply Sel.tail)); (first | done | fail))) lst_frz lst_frz_mono ?_
  rintro σ1 ⟨⟩ ⟨hf1, hf2, hf3, hf4⟩ hs1
  refine zw rfl (WrA.cE (clip_a σ1 p 112 c hf1) rfl) ?_
  rintro _ _ _ ⟨_, ⟨rfl, rfl, rfl⟩, rfl⟩
  refine XOA.cl ?_
  refine zO rfl Rd.asg ?_; refine zN ?_; refine zT ?_
  refine XA.ret ?_
  exact bodyA.ret (ResA.one rfl rfl) zE ⟨⟨p, 112, by rw [hfl], by omega, by decide, fun _ => hf4 (by decide)⟩, hs1, inn', pg', h', rfl⟩
end Go.Proofs.Ytmnmcjdgnpgchaa

namespace Go.Proofs.Ytmnmcjdgnpgchaa
open Go X
set_option maxHeartbeats 4000000
theorem pages0 : pagesC DiskS.new s0 = noP := pgs_ext (pagesC_ok Good.new.dok s0) noP_ok (fun p hp => by
  rw [pagesC_get _ _ hp, page0]
  rw [noP, List.getD_eq_getElem?_getD, List.getElem?_replicate, if_pos hp]; rfl)
theorem sync_all (σ : PH) (b sb db : Nat) (d : DiskS) (s : StS) (inn dt : List Bool) (pg C : List (List Int)) (hG : Good d s) (hg1 : s.gen < 4611686018427387904) (h : MOk d s inn dt pg C) :
    CallsA Try.prog 77 #[ptr b, i64 (-1)] σ [blk b (mcells sb inn dt pg) 87, Store sb db s, Disk db d] (RetA fun v σ' Γ' => ∃ (d' : DiskS) (s' : StS), v = .bool true ∧ Good d' s' ∧ s'.gen = s.gen + 1 ∧ MOk d' s' inn noB pg C ∧ (∀ p : Nat, p < 14 → pageW d' s' p = C.getD p DiskS.zeros) ∧ σ.sub σ' ∧ Γ' = [blk b (mcells sb inn noB pg) 87, Store sb db s', Disk db d']) := by
  refine (sync_a σ b sb db d s inn dt pg C (-1) hG hg1 ⟨by decide, by decide⟩ h).ret ?_
  rintro v σ' Γ' ⟨j, hj1, hj2, hj3, rfl, hs, rfl⟩
  obtain rfl : j = (dirtyL C dt).length + 5 := by
    rcases Nat.lt_or_ge j ((dirtyL C dt).length + 5) with h | h
    · have := hj2 h; omega
    · omega
  obtain ⟨h1, h2⟩ := commit_done hG (dirty_w (dt := dt) h.cc) (check_zero (dirty_check C dt)).2.2 dirty_n
  obtain ⟨h3, h4⟩ := h.sync (page_new dirty_n h2)
  exact ⟨_, _, congrArg Value.bool (decide_eq_true rfl), h1, rfl, h3, h4, hs, by rw [if_pos rfl, if_pos rfl]⟩
end Go.Proofs.Ytmnmcjdgnpgchaa

namespace Go.Proofs.Ytmnmcjdgnpgchaa
open Go X
set_option maxHeartbeats 1000000
theorem X.CallsA.ents {P : Program} {f : FuncId} {vs : Array Value} {σ : PH} {Γ : List HP} {R R' : Value → PH → List HP → Prop} (h : CallsA P f vs σ Γ (RetA R)) (hr : ∀ v σ' Γ', R v σ' Γ' → ∃ Δ, Ent Γ' Δ ∧ R' v σ' Δ) : CallsA P f vs σ Γ (RetA R') :=
  ⟨h.1, fun fr hp hh => (h.2 fr hp hh).mono fun e h' ⟨σ', Γ', a, b⟩ => by
    cases e with
    | returned v => obtain ⟨Δ, e1, e2⟩ := hr v σ' Γ' a; exact ⟨σ', Δ, e2, b.ent e1⟩
    | panicked c => exact a.elim
    | outgrown => exact a.elim⟩
structure Me where
  C : List (List Int)
  dt : List Bool
namespace Me
def ld (M : Me) (a : Int) : Int := wordC M.C a
def put (M : Me) (a w : Int) : Me := ⟨putC M.C a w, putD M.C M.dt a w⟩
end Me
def Wld (mb sb db : Nat) (d : DiskS) (s : StS) (M : Me) : HP := fun m => ∃ x : List Bool × List (List Int), (Good d s ∧ MOk d s x.1 M.dt x.2 M.C) ∧ Sat [blk mb (mcells sb x.1 M.dt x.2) 87, Store sb db s, Disk db d] m
theorem Wld.opn {mb sb db : Nat} {d : DiskS} {s : StS} {M : Me} : ∀ m, Wld mb sb db d s M m → ∃ x : List Bool × List (List Int), (Good d s ∧ MOk d s x.1 M.dt x.2 M.C) ∧ Sat [blk mb (mcells sb x.1 M.dt x.2) 87, Store sb db s, Disk db d] m := fun _ h => h
theorem Wld.mk {mb sb db : Nat} {d : DiskS} {s : StS} {C pg : List (List Int)} {inn dt : List Bool} (hG : Good d s) (hM : MOk d s inn dt pg C) : ∀ m, Sat [blk mb (mcells sb inn dt pg) 87, Store sb db s, Disk db d] m → Wld mb sb db d s ⟨C, dt⟩ m := fun _ h => ⟨(inn, pg), ⟨hG, hM⟩, h⟩
theorem load_w (σ : PH) (mb sb db : Nat) (d : DiskS) (s : StS) (M : Me) (a : Int) :
    CallsA Try.prog 47 #[ptr mb, i64 a] σ [Wld mb sb db d s M] (RetA fun v σ' Γ' => v = i64 (M.ld a) ∧ σ = σ' ∧ Γ' = [Wld mb sb db d s M]) := by
  refine CallsA.opn .head Wld.opn (enters Try.func47 rfl rfl) ?_
  rintro ⟨inn, pg⟩ ⟨hG, hM⟩
  refine (load_a σ mb sb db d s inn M.dt pg M.C a hG.dok hG.wlen' hM).ents ?_
  rintro v σ' _ ⟨rfl, rfl, inn', pg', hM', rfl⟩
  exact ⟨_, Ent.fold1 (Ent.refl _) (Wld.mk hG hM'), rfl, rfl, rfl⟩
theorem put_w (σ : PH) (mb sb db : Nat) (d : DiskS) (s : StS) (M : Me) (a w : Int) :
    CallsA Try.prog 52 #[ptr mb, i64 a, i64 w] σ [Wld mb sb db d s M] (RetA fun v σ' Γ' => v = .bool (decide (0 ≤ a ∧ a < 112)) ∧ σ = σ' ∧ Γ' = [Wld mb sb db d s (M.put a w)]) := by
  refine CallsA.opn .head Wld.opn (enters Try.func52 rfl rfl) ?_
  rintro ⟨inn, pg⟩ ⟨hG, hM⟩
  refine (put_a σ mb sb db d s inn M.dt pg M.C a w hG.dok hG.wlen' hM).ents ?_
  rintro v σ' _ ⟨rfl, rfl, inn', pg', hM', rfl⟩
  exact ⟨_, Ent.fold1 (Ent.refl _) (Wld.mk hG hM'), rfl, rfl, rfl⟩
theorem all_w (σ : PH) (mb sb db : Nat) (d : DiskS) (s : StS) (M : Me) :
    CallsA Try.prog 33 #[ptr mb] σ [Wld mb sb db d s M] (RetA fun v σ' Γ' => PInts σ' v M.C.flatten ∧ σ.sub σ' ∧ Γ' = [Wld mb sb db d s M]) := by
  refine CallsA.opn .head Wld.opn (enters Try.func33 rfl rfl) ?_
  rintro ⟨inn, pg⟩ ⟨hG, hM⟩
  refine (all_a σ mb sb db d s inn M.dt pg M.C hG.dok hG.wlen' hM).ents ?_
  rintro v σ' _ ⟨h1, h2, inn', pg', hM', rfl⟩
  exact ⟨_, Ent.fold1 (Ent.refl _) (Wld.mk hG hM'), h1, h2, rfl⟩
theorem pages_of {d : DiskS} {s : StS} {C : List (List Int)} (hG : Good d s) (hC : pgsOk C) (h : ∀ p : Nat, p < 14 → pageW d s p = C.getD p DiskS.zeros) : pagesC d s = C := pgs_ext (pagesC_ok hG.dok s) hC (fun p hp => by rw [pagesC_get d s hp, h p hp])
theorem sync_w (σ : PH) (mb sb db : Nat) (d : DiskS) (s : StS) (M : Me) (hg : s.gen < 4611686018427387904) :
    CallsA Try.prog 77 #[ptr mb, i64 (-1)] σ [Wld mb sb db d s M] (RetA fun v σ' Γ' => ∃ (d' : DiskS) (s' : StS), v = .bool true ∧ s'.gen = s.gen + 1 ∧ pagesC d' s' = M.C ∧ Good d' s' ∧ σ.sub σ' ∧ Γ' = [Wld mb sb db d' s' ⟨M.C, noB⟩]) := by
  refine CallsA.opn .head Wld.opn (enters Try.func77 rfl rfl) ?_
  rintro ⟨inn, pg⟩ ⟨hG, hM⟩
  refine (sync_all σ mb sb db d s inn M.dt pg M.C hG hg hM).ents ?_
  rintro v σ' _ ⟨d', s', rfl, hG', hg', hM', hp, hs, rfl⟩
  exact ⟨_, Ent.fold1 (Ent.refl _) (Wld.mk hG' hM'), d', s', rfl, hg', pages_of hG' hM.cc hp, hG', hs, rfl⟩
theorem new_w (σ : PH) (sb db : Nat) (d : DiskS) (s : StS) (hG : Good d s) :
    CallsA Try.prog 14 #[ptr sb] σ [Store sb db s, Disk db d] (RetA fun v σ' Γ' => ∃ mb, v = ptr mb ∧ σ = σ' ∧ Γ' = [Wld mb sb db d s ⟨pagesC d s, noB⟩]) := by
  refine (CallsA.ents (R := fun v σ' Γ' => ∃ b, v = ptr b ∧ σ = σ' ∧ Γ' = [blk b (mcells sb noB noB noP) 87, Store sb db s, Disk db d]) ?_ ?_)
  · refine ((mnew_a σ sb).frame [Store sb db s, Disk db d] (Ent.refl _)).mono ?_
    rintro e σ' _ ⟨Γ1, h, rfl⟩
    cases e with
    | returned v => obtain ⟨b, e1, e2, rfl⟩ := h; exact ⟨b, e1, e2, rfl⟩
    | panicked c => exact h.elim
    | outgrown => exact h.elim
  rintro v σ' _ ⟨b, rfl, rfl, rfl⟩
  exact ⟨_, Ent.fold1 (Ent.refl _) (Wld.mk hG (MOk.new hG.dok s)), b, rfl, rfl, rfl⟩
end Go.Proofs.Ytmnmcjdgnpgchaa

namespace Go.Proofs.Ytmnmcjdgnpgchaa
open Go X
set_option maxHeartbeats 4000000
theorem wordC_out {C : List (List Int)} {a : Int} (h : ¬ (0 ≤ a ∧ a < 112)) : wordC C a = 0 := by rw [wordC, if_neg h]
theorem wordC_put {C : List (List Int)} (h : pgsOk C) (a w : Int) {k : Nat} (hk : k < 112) : wordC (putC C a w) k = if (k : Int) = a then w else wordC C k := by
  unfold putC
  split
  · rename_i hc
    obtain ⟨n, rfl⟩ := Int.eq_ofNat_of_zero_le hc.1.1
    have hn : n < 112 := by omega
    rw [wordC_nat _ hk, wordC_nat _ hk, Int.toNat_natCast, set_getD_r (by rw [h.1]; omega)]
    by_cases e : k / 8 = n / 8
    · rw [if_pos e, set_getD (by rw [pgs_row8 h (by omega)]; omega)]
      by_cases e2 : k % 8 = n % 8
      · rw [if_pos e2, if_pos (by omega)]
      · rw [if_neg e2, if_neg (by omega), e]
    · rw [if_neg e, if_neg (by omega)]
  · rename_i hc
    split
    · rename_i e
      subst e
      exact Classical.byContradiction fun q => hc ⟨by omega, q⟩
    · rfl
end Go.Proofs.Ytmnmcjdgnpgchaa

namespace Go.Proofs.Ytmnmcjdgnpgchaa
namespace X
open Go
section
variable {P : Program} {N : Nat} {ρ : Env} {σ : PH} {Γ : List HP} {K : KA}
end
section
variable {P : Program}
def PostF (w0 : World) (ds : List Deferred) (N : Nat) (K : Kont) : Exit → Act → World → Prop := fun e a' w' => a'.defers = ds ∧ Same w0 w' ∧ ∃ ρ', EnvOf N a' ρ' ∧ K e ρ' w'.heap
structure XFO (P : Program) (N : Nat) (all : Array Oper) (l : List Oper) (ρ : Env) (h : Heap) (K : Kont) : Prop where
  out : ∀ (w0 : World) (a : Act) (w : World), Same w0 w → w.heap = h → EnvOf N a ρ → wpList P all (PostF w0 a.defers N K) l a w
section
variable {N : Nat} {ρ : Env} {h : Heap} {K : Kont}
theorem XFO.wr {all : Array Oper} {rest : List Oper} {op : Op} {d : Option Nat} {ty : TypeId} {pos : String} {af : Array Edge} {R : Value → Heap → Prop} {pk : List PanicEntry → Heap → Prop} (hd : dstOk N d = true)
    (hr : Wr P ρ h op ty R pk) (k : ∀ v h', R v h' → XFO P N all rest (updO ρ d v) h' K) (kp : ∀ c h', pk c h' → K (.panic c) ρ h') :
    XFO P N all (⟨d, op, ty, pos, af, none⟩ :: rest) ρ h K := by
  refine ⟨fun w0 a w hs hh he => ?_⟩
  refine wpList_plain rfl fun K' hK' => ?_
  refine hr.out d pos af none a w _ _ he.eval hh (fun v w' h2 h3 => hK' _ _ ?_) (fun c w' h2 h3 => ⟨rfl, hs.trans h2, ρ, he, kp c _ h3⟩)
  have := (k v _ h3).out w0 (a.put d v) w' (hs.trans h2) rfl (he.putO hd v)
  rwa [put_defers] at this
end
structure XFOA (P : Program) (N : Nat) (all : Array Oper) (l : List Oper) (ρ : Env) (σ : PH) (Γ : List HP) (K : KA) : Prop where
  out : ∀ f h, Holds σ Γ f h → XFO P N all l ρ h (KF f K)
section
variable {N : Nat} {ρ : Env} {σ : PH} {Γ : List HP} {K : KA} {all : Array Oper} {rest : List Oper} {d : Nat} {ty : TypeId} {pos : String} {af : Array Edge}
theorem XFOA.rd {op : Op} {v : Value} (hd : Nat.blt d N = true) (hr : Rd P ρ (Ho σ Γ) op ty v) (k : XFOA P N all rest (upd ρ d v) σ Γ K) : XFOA P N all (⟨some d, op, ty, pos, af, none⟩ :: rest) ρ σ Γ K :=
  ⟨fun f h hh => XFO.wr (d := some d) hd (Rd.wr ⟨fun d pos af g w hw => hr.out d pos af g w (hw ▸ hh.ho)⟩) (by rintro _ _ ⟨rfl, rfl⟩; exact k.out f _ hh) (fun _ _ h => h.elim)⟩
end
section
variable {fn : Func} {ρ : Env} {σ : PH} {Γ : List HP} {RR : Ending → PH → List HP → Prop}
end
end
end X
end Go.Proofs.Ytmnmcjdgnpgchaa

namespace Go.Proofs.Ytmnmcjdgnpgchaa
open Go X
inductive Ex where
  | mk (op v n : Int) (l : List Ex)
inductive St where
  | mk (op v : Int) (e f : Ex) (body els : List St)
structure Va where
  name : ByteArray
  size : Int
  deriving DecidableEq
structure Pr where
  vars : List Va
  body : List St
namespace Ex
def op : Ex → Int | .mk o _ _ _ => o
def v : Ex → Int | .mk _ v _ _ => v
def n : Ex → Int | .mk _ _ n _ => n
def l : Ex → List Ex | .mk _ _ _ l => l
theorem ind {P : Ex → Prop} (h : ∀ op v n l, (∀ x ∈ l, P x) → P (.mk op v n l)) : ∀ x, P x
  | .mk op v n l => h op v n l (fun x _ => ind h x)
end Ex
namespace St
def op : St → Int | .mk o _ _ _ _ _ => o
def v : St → Int | .mk _ v _ _ _ _ => v
def e : St → Ex | .mk _ _ e _ _ _ => e
def f : St → Ex | .mk _ _ _ f _ _ => f
def body : St → List St | .mk _ _ _ _ b _ => b
def els : St → List St | .mk _ _ _ _ _ l => l
theorem ind {P : St → Prop} (h : ∀ op v e f body els, (∀ x ∈ body, P x) → (∀ x ∈ els, P x) → P (.mk op v e f body els)) : ∀ x, P x
  | .mk op v e f body els => h op v e f body els (fun x _ => ind h x) (fun x _ => ind h x)
end St
def i64ok (n : Int) : Prop := -9223372036854775808 ≤ n ∧ n ≤ 9223372036854775807
inductive ExAt (σ : PH) : List Value → Ex → Prop
  | mk {op v n : Int} {l : List Ex} {p : Option Addr} {c : Nat} (rows : List (List Value)) (ho : i64ok op) (hv : i64ok v) (hn : i64ok n) (h1 : l.length ≤ c) (h2 : c ≤ maxLen) (h3 : rows.length = l.length) (h4 : ∀ row ∈ rows, row.length = 4)
      (h5 : ∀ (i : Nat) (row : List Value) (x : Ex), rows[i]? = some row → l[i]? = some x → ExAt σ row x) (h6 : 0 < l.length → ∃ g o, p = some ⟨g, o, none⟩ ∧ PRow σ g o rows.flatten) :
      ExAt σ [i64 op, i64 v, i64 n, .slice p l.length c] (.mk op v n l)
inductive StAt (σ : PH) : List Value → St → Prop
  | mk {op v : Int} {e f : Ex} {body els : List St} {ce cf : List Value} {p q : Option Addr} {c d : Nat} (rows qows : List (List Value)) (ho : i64ok op) (hv : i64ok v) (he : ExAt σ ce e) (hf : ExAt σ cf f)
      (h1 : body.length ≤ c) (h2 : c ≤ maxLen) (h3 : rows.length = body.length) (h4 : ∀ row ∈ rows, row.length = 12)
      (h5 : ∀ (i : Nat) (row : List Value) (x : St), rows[i]? = some row → body[i]? = some x → StAt σ row x) (h6 : 0 < body.length → ∃ g o, p = some ⟨g, o, none⟩ ∧ PRow σ g o rows.flatten)
      (g1 : els.length ≤ d) (g2 : d ≤ maxLen) (g3 : qows.length = els.length) (g4 : ∀ row ∈ qows, row.length = 12)
      (g5 : ∀ (i : Nat) (row : List Value) (x : St), qows[i]? = some row → els[i]? = some x → StAt σ row x) (g6 : 0 < els.length → ∃ g o, q = some ⟨g, o, none⟩ ∧ PRow σ g o qows.flatten) :
      StAt σ (i64 op :: i64 v :: (ce ++ cf ++ [.slice p body.length c, .slice q els.length d])) (.mk op v e f body els)
theorem ExAt.inv {σ : PH} {cs : List Value} {x : Ex} (h : ExAt σ cs x) : ∃ p c, cs = [i64 x.op, i64 x.v, i64 x.n, .slice p x.l.length c] ∧ i64ok x.op ∧ i64ok x.v ∧ i64ok x.n ∧ PSl 4 ExAt σ (.slice p x.l.length c) x.l := by
  cases h with
  | mk rows ho hv hn h1 h2 h3 h4 h5 h6 => exact ⟨_, _, rfl, ho, hv, hn, _, _, rows, rfl, h1, h2, h3, h4, h5, h6⟩
theorem ExAt.of {σ : PH} {op v n : Int} {l : List Ex} {sl : Value} (ho : i64ok op) (hv : i64ok v) (hn : i64ok n) (h : PSl 4 ExAt σ sl l) : ExAt σ [i64 op, i64 v, i64 n, sl] (.mk op v n l) := by
  obtain ⟨p, c, rows, rfl, h1, h2, h3, h4, h5, h6⟩ := h
  exact .mk rows ho hv hn h1 h2 h3 h4 h5 h6
theorem ExAt.len {σ : PH} {cs : List Value} {x : Ex} (h : ExAt σ cs x) : cs.length = 4 := by cases h; rfl
theorem StAt.inv {σ : PH} {cs : List Value} {x : St} (h : StAt σ cs x) : ∃ ce cf p c q d, cs = i64 x.op :: i64 x.v :: (ce ++ cf ++ [.slice p x.body.length c, .slice q x.els.length d]) ∧ i64ok x.op ∧ i64ok x.v ∧ ExAt σ ce x.e ∧ ExAt σ cf x.f ∧ PSl 12 StAt σ (.slice p x.body.length c) x.body ∧ PSl 12 StAt σ (.slice q x.els.length d) x.els := by
  cases h with
  | mk rows qows ho hv he hf h1 h2 h3 h4 h5 h6 g1 g2 g3 g4 g5 g6 => exact ⟨_, _, _, _, _, _, rfl, ho, hv, he, hf, ⟨_, _, rows, rfl, h1, h2, h3, h4, h5, h6⟩, ⟨_, _, qows, rfl, g1, g2, g3, g4, g5, g6⟩⟩
theorem StAt.of {σ : PH} {op v : Int} {e f : Ex} {ce cf : List Value} {body els : List St} {sb se : Value} (ho : i64ok op) (hv : i64ok v) (he : ExAt σ ce e) (hf : ExAt σ cf f) (hb : PSl 12 StAt σ sb body) (hl : PSl 12 StAt σ se els) :
    StAt σ (i64 op :: i64 v :: (ce ++ cf ++ [sb, se])) (.mk op v e f body els) := by
  obtain ⟨p, c, rows, rfl, h1, h2, h3, h4, h5, h6⟩ := hb
  obtain ⟨q, d, qows, rfl, g1, g2, g3, g4, g5, g6⟩ := hl
  exact .mk rows qows ho hv he hf h1 h2 h3 h4 h5 h6 g1 g2 g3 g4 g5 g6
theorem StAt.len {σ : PH} {cs : List Value} {x : St} (h : StAt σ cs x) : cs.length = 12 := by
  obtain ⟨ce, cf, p, c, q, d, rfl, -, -, he, hf, -⟩ := h.inv
  simp [he.len, hf.len]
theorem ExAt.ones {σ : PH} {cs : List Value} {x : Ex} (h : ExAt σ cs x) : X.ones cs := by
  obtain ⟨p, c, rfl, -⟩ := h.inv; exact ones_lit rfl
theorem StAt.inv12 {σ : PH} {cs : List Value} {x : St} (h : StAt σ cs x) : ∃ pe de pf df p c q d, cs = [i64 x.op, i64 x.v, i64 x.e.op, i64 x.e.v, i64 x.e.n, .slice pe x.e.l.length de, i64 x.f.op, i64 x.f.v, i64 x.f.n, .slice pf x.f.l.length df, .slice p x.body.length c, .slice q x.els.length d] ∧
    i64ok x.op ∧ i64ok x.v ∧ ExAt σ [i64 x.e.op, i64 x.e.v, i64 x.e.n, .slice pe x.e.l.length de] x.e ∧ ExAt σ [i64 x.f.op, i64 x.f.v, i64 x.f.n, .slice pf x.f.l.length df] x.f ∧ PSl 12 StAt σ (.slice p x.body.length c) x.body ∧ PSl 12 StAt σ (.slice q x.els.length d) x.els := by
  obtain ⟨ce, cf, p, c, q, d, rfl, h1, h2, h3, h4, h5, h6⟩ := h.inv
  obtain ⟨pe, de, rfl, -⟩ := h3.inv
  obtain ⟨pf, df, rfl, -⟩ := h4.inv
  exact ⟨pe, de, pf, df, p, c, q, d, rfl, h1, h2, h3, h4, h5, h6⟩
theorem StAt.ones {σ : PH} {cs : List Value} {x : St} (h : StAt σ cs x) : X.ones cs := by
  obtain ⟨pe, de, pf, df, p, c, q, d, rfl, -⟩ := h.inv12; exact ones_lit rfl
theorem ExAt.mono {σ σ' : PH} (s : σ.sub σ') {cs : List Value} {x : Ex} (h : ExAt σ cs x) : ExAt σ' cs x := by
  induction h with
  | mk rows ho hv hn h1 h2 h3 h4 h5 h6 ih => exact .mk rows ho hv hn h1 h2 h3 h4 ih (fun hp => by obtain ⟨g, o, e, r⟩ := h6 hp; exact ⟨g, o, e, r.mono s⟩)
theorem StAt.mono {σ σ' : PH} (s : σ.sub σ') {cs : List Value} {x : St} (h : StAt σ cs x) : StAt σ' cs x := by
  induction h with
  | mk rows qows ho hv he hf h1 h2 h3 h4 h5 h6 g1 g2 g3 g4 g5 g6 ih jh =>
    exact .mk rows qows ho hv (he.mono s) (hf.mono s) h1 h2 h3 h4 ih (fun hp => by obtain ⟨g, o, e, r⟩ := h6 hp; exact ⟨g, o, e, r.mono s⟩) g1 g2 g3 g4 jh (fun hp => by obtain ⟨g, o, e, r⟩ := g6 hp; exact ⟨g, o, e, r.mono s⟩)
namespace X
structure DecN {α : Type} (n : Nat) (P : Program) (t : TypeId) (R : RT α) : Prop where
  out : ∀ {H : Type} {enc : TypeId × Value → H} {w : World} {fuel : Nat} {cs : List Value} {x : DataW H × List MemPlace}, fuel ≤ n → DataW.trod enc P w 0 (fun _ => true) true fuel t cs = some x → ∃ y, R (ofHeap w.heap) cs y
variable {P : Program} {t e : TypeId} {α : Type}
theorem Dec.n {R : RT α} (h : Dec P t R) (n : Nat) : DecN n P t R := ⟨fun _ hx => h.out hx⟩
theorem DecN.less {R : RT α} {m n : Nat} (hm : m ≤ n) (h : DecN n P t R) : DecN m P t R := ⟨fun hf hx => h.out (Nat.le_trans hf hm) hx⟩
theorem DecN.zero {R : RT α} : DecN 0 P t R := ⟨fun hf hx => by obtain ⟨k, rfl⟩ := trod_pos hx; omega⟩
theorem DecN.slice {r re : Ty} {s n : Nat} {R : RT α} (hT : tyOf P t = some r) (hk : r.k = .slice e) (hE : tyOf P e = some re) (hs : re.size = s) (hs0 : 0 < s) (hd : DecN n P e R) : DecN n P t (rSl s R) := ⟨fun {H enc w fuel cs x} hfuel h => by
  obtain ⟨d, e1, e2, -⟩ := und_of hT
  obtain ⟨d', -, -, e3⟩ := und_of hE
  rw [hk] at e2
  cases d <;> simp [kindOf] at e2
  subst e2
  obtain ⟨rfl, -⟩ | ⟨a, len, cap, elems, rest, n', rfl, rfl, -, -, hle, hcap, hlen, hel, -, -⟩ := DataW.trod_slice e1 h
  · exact ⟨[], _, rfl, PSl.nil _ _ _⟩
  · rw [e3, hs] at hel
    have hrow : ∀ i, i < len → ∃ row, row.length = s ∧ (∀ j, j < s → w.cell? ((a.add (i * s)).add j) = row[j]?) ∧ ∃ y, R (ofHeap w.heap) row y := fun i hi => by
      have hy := hel i hi
      rw [List.getElem?_eq_getElem (by omega)] at hy
      simp only [Option.bind_eq_some_iff] at hy
      obtain ⟨row, h1, h2⟩ := hy
      obtain ⟨-, h3, h4⟩ := World.cells?_some h1
      exact ⟨row, h3, h4, hd.out (by omega) h2⟩
    exact rows_slice hs0 hle hcap hrow⟩
theorem trod_fieldsN {r : Ty} {fs : List (TypeId × Nat)} (hT : tyOf P t = some r) (hk : r.k = .struct fs) {H : Type} {enc : TypeId × Value → H} {w : World} {fuel : Nat} {cs : List Value} {x : DataW H × List MemPlace} (h : DataW.trod enc P w 0 (fun _ => true) true fuel t cs = some x) :
    ∃ n, fuel = n + 1 ∧ cs.length = r.size ∧ ∀ f ∈ fs, ∃ y, DataW.trod enc P w 0 (fun _ => true) true n f.1 ((cs.drop f.2).take (P.cellsOf f.1)) = some y := by
  obtain ⟨d, e1, e2, e3⟩ := und_of hT
  rw [hk] at e2
  cases d <;> simp [kindOf] at e2
  rename_i fields
  subst e2
  obtain ⟨n, rfl⟩ := trod_pos h
  unfold DataW.trod at h
  rw [e1] at h
  dsimp only at h
  split at h
  · rename_i hl
    refine ⟨n, rfl, by rw [hl, e3], fun f hf => ?_⟩
    simp only [Option.map_eq_some_iff] at h
    obtain ⟨xs, hxs, -⟩ := h
    simp only [List.mem_map] at hf
    obtain ⟨fd, hfd, rfl⟩ := hf
    obtain ⟨y, hy⟩ := mapM_mem hxs fd hfd
    exact ⟨y, hy⟩
  · cases h
theorem cellsOf_ty {r : Ty} (hT : tyOf P t = some r) : P.cellsOf t = r.size := by obtain ⟨d, -, -, e3⟩ := und_of hT; exact e3
theorem list2 {α : Type} : ∀ {l : List α}, l.length = 2 → ∃ a b, l = [a, b]
  | [a, b], _ => ⟨a, b, rfl⟩
theorem list4 {α : Type} : ∀ {l : List α}, l.length = 4 → ∃ a b c d, l = [a, b, c, d]
  | [a, b, c, d], _ => ⟨a, b, c, d, rfl⟩
theorem list12 {α : Type} {l : List α} (h : l.length = 12) : ∃ a b c d e f g i j k m n, l = [a, b, c, d, e, f, g, i, j, k, m, n] := by
  obtain ⟨a, b, c, d, h1⟩ := list4 (l := l.take 4) (by simp [h])
  obtain ⟨e, f, g, i, h2⟩ := list4 (l := (l.drop 4).take 4) (by simp [h])
  obtain ⟨j, k, m, n, h3⟩ := list4 (l := l.drop 8) (by simp [h])
  refine ⟨a, b, c, d, e, f, g, i, j, k, m, n, ?_⟩
  have e1 := List.take_append_drop 4 l
  have e2 := List.take_append_drop 4 (l.drop 4)
  rw [List.drop_drop, h3, h2] at e2
  rw [h1, ← e2] at e1
  exact e1.symm
end X
open X
theorem dec_ex : ∀ n, DecN n Try.prog 93 ExAt := by
  intro n
  induction n with
  | zero => exact DecN.zero
  | succ n ih =>
    refine ⟨fun {H enc w fuel cs x} hf h => ?_⟩
    obtain ⟨k, rfl, hl, hx⟩ := trod_fieldsN (tyrow rfl) rfl h
    have hk : k ≤ n := by omega
    obtain ⟨y0, h0⟩ := hx (3, 0) (by simp)
    obtain ⟨y1, h1⟩ := hx (3, 1) (by simp)
    obtain ⟨y2, h2⟩ := hx (2, 2) (by simp)
    obtain ⟨y3, h3⟩ := hx (91, 3) (by simp)
    obtain ⟨a0, p0, q0⟩ := (Dec.int (tyrow rfl) rfl).out h0
    obtain ⟨a1, p1, q1⟩ := (Dec.int (tyrow rfl) rfl).out h1
    obtain ⟨a2, p2, q2⟩ := (Dec.int (tyrow rfl) rfl).out h2
    obtain ⟨a3, v3, p3, q3⟩ := (DecN.slice (tyrow rfl) rfl (tyrow rfl) rfl (by decide) (ih.less hk)).out (Nat.le_refl _) h3
    rw [cellsOf_ty (tyrow rfl)] at p0 p1 p2 p3
    have hcs : cs.length = 4 := hl
    obtain ⟨c0, c1, c2, c3, rfl⟩ := list4 hcs
    next =>
      simp only [List.drop_zero, List.drop_succ_cons] at p0 p1 p2 p3
      have e0 : c0 = i64 a0 := by have := congrArg (·[0]?) p0; simpa using this
      have e1 : c1 = i64 a1 := by have := congrArg (·[0]?) p1; simpa using this
      have e2 : c2 = i64 a2 := by have := congrArg (·[0]?) p2; simpa using this
      have e3 : c3 = v3 := by have := congrArg (·[0]?) p3; simpa using this
      subst e0 e1 e2 e3
      exact ⟨_, ExAt.of q0 q1 q2 q3⟩
theorem dec_st : ∀ n, DecN n Try.prog 95 StAt := by
  intro n
  induction n with
  | zero => exact DecN.zero
  | succ n ih =>
    refine ⟨fun {H enc w fuel cs x} hf h => ?_⟩
    obtain ⟨k, rfl, hl, hx⟩ := trod_fieldsN (tyrow rfl) rfl h
    have hk : k ≤ n := by omega
    obtain ⟨y0, h0⟩ := hx (3, 0) (by simp)
    obtain ⟨y1, h1⟩ := hx (3, 1) (by simp)
    obtain ⟨y2, h2⟩ := hx (93, 2) (by simp)
    obtain ⟨y3, h3⟩ := hx (93, 6) (by simp)
    obtain ⟨y4, h4⟩ := hx (23, 10) (by simp)
    obtain ⟨y5, h5⟩ := hx (23, 11) (by simp)
    obtain ⟨a0, p0, q0⟩ := (Dec.int (tyrow rfl) rfl).out h0
    obtain ⟨a1, p1, q1⟩ := (Dec.int (tyrow rfl) rfl).out h1
    obtain ⟨a2, q2⟩ := (dec_ex k).out (Nat.le_refl _) h2
    obtain ⟨a3, q3⟩ := (dec_ex k).out (Nat.le_refl _) h3
    obtain ⟨a4, v4, p4, q4⟩ := (DecN.slice (tyrow rfl) rfl (tyrow rfl) rfl (by decide) (ih.less hk)).out (Nat.le_refl _) h4
    obtain ⟨a5, v5, p5, q5⟩ := (DecN.slice (tyrow rfl) rfl (tyrow rfl) rfl (by decide) (ih.less hk)).out (Nat.le_refl _) h5
    rw [cellsOf_ty (tyrow rfl)] at p0 p1 p4 p5 q2 q3
    have hcs : cs.length = 12 := hl
    obtain ⟨c0, c1, c2, c3, c4, c5, c6, c7, c8, c9, c10, c11, rfl⟩ := list12 hcs
    next =>
      simp only [List.drop_zero, List.drop_succ_cons] at p0 p1 p4 p5 q2 q3
      have e0 : c0 = i64 a0 := by have := congrArg (·[0]?) p0; simpa using this
      have e1 : c1 = i64 a1 := by have := congrArg (·[0]?) p1; simpa using this
      have e4 : c10 = v4 := by have := congrArg (·[0]?) p4; simpa using this
      have e5 : c11 = v5 := by have := congrArg (·[0]?) p5; simpa using this
      subst e0 e1 e4 e5
      exact ⟨_, StAt.of q0 q1 q2 q3 q4 q5⟩
def rVa : RT Va := fun _ cs v => cs = [.string v.name, i64 v.size] ∧ i64ok v.size ∧ v.name.size ≤ maxLen
theorem dec_va : Dec Try.prog 90 rVa := ⟨fun {H enc w fuel cs x} h => by
  obtain ⟨k, rfl, hl, hx⟩ := trod_fieldsN (tyrow rfl) rfl h
  obtain ⟨y0, h0⟩ := hx (9, 0) (by simp)
  obtain ⟨y1, h1⟩ := hx (3, 1) (by simp)
  obtain ⟨a0, p0, q0⟩ := (Dec.str (tyrow rfl) rfl).out h0
  obtain ⟨a1, p1, q1⟩ := (Dec.int (tyrow rfl) rfl).out h1
  rw [cellsOf_ty (tyrow rfl)] at p0 p1
  have hcs : cs.length = 2 := hl
  obtain ⟨c0, c1, rfl⟩ := list2 hcs
  next =>
    simp only [List.drop_zero, List.drop_succ_cons] at p0 p1
    have e0 : c0 = .string a0 := by have := congrArg (·[0]?) p0; simpa using this
    have e1 : c1 = i64 a1 := by have := congrArg (·[0]?) p1; simpa using this
    subst e0 e1
    exact ⟨⟨a0, a1⟩, rfl, q1, q0⟩⟩
def PrAt (σ : PH) (cs : List Value) (p : Pr) : Prop := ∃ vs bs, cs = [vs, bs] ∧ PSl 2 rVa σ vs p.vars ∧ PSl 12 StAt σ bs p.body
theorem dec_pr : Dec Try.prog 25 PrAt := ⟨fun {H enc w fuel cs x} h => by
  obtain ⟨k, rfl, hl, hx⟩ := trod_fieldsN (tyrow rfl) rfl h
  obtain ⟨y0, h0⟩ := hx (22, 0) (by simp)
  obtain ⟨y1, h1⟩ := hx (23, 1) (by simp)
  obtain ⟨a0, v0, p0, q0⟩ := (Dec.slice (tyrow rfl) rfl (tyrow rfl) rfl (by decide) dec_va).out h0
  obtain ⟨a1, v1, p1, q1⟩ := (DecN.slice (tyrow rfl) rfl (tyrow rfl) rfl (by decide) (dec_st k)).out (Nat.le_refl _) h1
  rw [cellsOf_ty (tyrow rfl)] at p0 p1
  have hcs : cs.length = 2 := hl
  obtain ⟨c0, c1, rfl⟩ := list2 hcs
  next =>
    simp only [List.drop_zero, List.drop_succ_cons] at p0 p1
    have e0 : c0 = v0 := by have := congrArg (·[0]?) p0; simpa using this
    have e1 : c1 = v1 := by have := congrArg (·[0]?) p1; simpa using this
    subst e0 e1
    exact ⟨⟨a0, a1⟩, _, _, rfl, q0, q1⟩⟩
theorem PrAt.mono {σ σ' : PH} (s : σ.sub σ') {cs : List Value} {p : Pr} (h : PrAt σ cs p) : PrAt σ' cs p := by
  obtain ⟨vs, bs, rfl, h1, h2⟩ := h
  exact ⟨vs, bs, rfl, h1.mono s (fun _ _ h => h), h2.mono s (fun _ _ h => h.mono s)⟩
end Go.Proofs.Ytmnmcjdgnpgchaa

namespace Go.Proofs.Ytmnmcjdgnpgchaa
namespace X
open Go
variable {P : Program} {ρ : Env} {S : Heap → Prop} {ty : TypeId}
def byteAt (s : ByteArray) (i : Nat) : Nat := if h : i < s.size then (s[i]'h).toNat else 0
theorem byteAt_lt (s : ByteArray) (i : Nat) : byteAt s i < 256 := by
  unfold byteAt; split
  · exact UInt8.toNat_lt _
  · decide
theorem Rd.indexStr {T : TypeId} {x y : Operand} {r : Ty} {s : ByteArray} {i : Nat} {kk : IntKind} (hT : tyOf P T = some r) (hk : r.k = .string) (hx : ev ρ x = .string s) (hy : ev ρ y = .int kk i) (hi : i < s.size) : Rd P ρ S (.index T x y) ty (.int .u8 (byteAt s i)) := by
  refine .pure fun d pos af gd w => ?_
  obtain ⟨dd, ii, z, e1, e2, -⟩ := tyOf_spec hT
  rw [hk] at e2
  cases dd <;> simp [kindOf] at e2
  have h := run_index_string (P := P) w T s kk i e1
  rw [dif_pos ⟨by omega, by omega⟩] at h
  simp only [execOp, hx, hy, Sem.run_bind, h, Result.andThen_ok, Sem.run_pure, byteAt, hi, dif_pos, Int.toNat_natCast]
theorem str_eq (a b : ByteArray) : (a.toList == b.toList) = decide (a = b) := by
  rw [ByteArray.toList_eq, ByteArray.toList_eq]
  obtain ⟨⟨x⟩⟩ := a
  obtain ⟨⟨y⟩⟩ := b
  by_cases h : x = y
  · subst h; simp
  · simp [h]
theorem Rd.eqls {T T' : TypeId} {x y : Operand} {a b : ByteArray} (hx : ev ρ x = .string a) (hy : ev ρ y = .string b) : Rd P ρ S (.binOp .eql T x y T') ty (.bool (decide (a = b))) := by
  refine .pure fun d pos af gd w => ?_
  simp only [execOp, eqGuard, hx, hy, binOp, Op.stringOp, Sem.run_bind, str_eq]
  simp
theorem Rd.neqs {T T' : TypeId} {x y : Operand} {a b : ByteArray} (hx : ev ρ x = .string a) (hy : ev ρ y = .string b) : Rd P ρ S (.binOp .neq T x y T') ty (.bool (decide (a ≠ b))) := by
  refine .pure fun d pos af gd w => ?_
  simp only [execOp, eqGuard, hx, hy, binOp, Op.stringOp, Sem.run_bind, str_eq]
  by_cases h : a = b <;> simp [h]
theorem Rd.max2 {x y : Operand} {a b : Int} {ats : Array TypeId} (hx : ev ρ x = i64 a) (hy : ev ρ y = i64 b) : Rd P ρ S (.call { callee := .builtin .max, args := #[x, y], argTypes := ats }) ty (i64 (if b > a then b else a)) := by
  refine .pure fun d pos af gd w => ?_
  simp [execOp, resolve, invoke, builtin, hx, hy, run_max_int2]
theorem Rd.min2 {x y : Operand} {a b : Int} {ats : Array TypeId} (hx : ev ρ x = i64 a) (hy : ev ρ y = i64 b) : Rd P ρ S (.call { callee := .builtin .min, args := #[x, y], argTypes := ats }) ty (i64 (if b < a then b else a)) := by
  refine .pure fun d pos af gd w => ?_
  simp [execOp, resolve, invoke, builtin, hx, hy, run_min_int2]
def vav (v : Va) : Value := .agg [.string v.name, i64 v.size].toArray
end X
end Go.Proofs.Ytmnmcjdgnpgchaa

namespace Go.Proofs.Ytmnmcjdgnpgchaa
open Go X
def partsOf (op : Int) : Int := if op = 1 ∨ op = 2 then 0 else if op = 3 then 1 else if 4 ≤ op ∧ op ≤ 8 then 2 else -1
def needE (op : Int) : Bool := decide (op = 1 ∨ op = 2 ∨ op = 3 ∨ op = 5 ∨ op = 6)
def needF (op : Int) : Bool := decide (op = 2)
def needV (op : Int) : Bool := decide (op = 1 ∨ op = 2 ∨ op = 4)
def needB (op : Int) : Bool := decide (op = 5 ∨ op = 6)
def needO (op : Int) : Bool := decide (op = 6)
abbrev JE := Except Int Int
def JE.fail (e : JE) (b : Bool) (c : Int) : JE := match e with | .ok l => if b then .error c else .ok l | .error d => .error d
def JE.one (e : JE) (deep : Int) : JE := match e with | .ok l => if 12 < deep then .error 4 else if l = 0 then .error 3 else .ok (l - 1) | .error d => .error d
def JE.named (e : JE) (nv v : Int) (is : Bool) : JE := (e.fail (is && decide (v < 0 ∨ nv ≤ v)) 1).fail (!is && decide (v ≠ 0)) 5
def exHead (nv deep op v n : Int) (k : Nat) (e : JE) : JE := (((e.one deep).fail (decide (partsOf op < 0)) 2).fail (decide ((k : Int) ≠ partsOf op ∨ (n ≠ 0 ∧ op ≠ 1))) 5).named nv v (decide (op = 2 ∨ op = 3))
mutual
def exE (nv : Int) : Int → Ex → JE → JE
  | deep, .mk op v n l, e => exsE nv (deep + 1) l (exHead nv deep op v n l.length e)
def exsE (nv : Int) : Int → List Ex → JE → JE
  | _, [], e => e
  | deep, x :: l, e => exsE nv deep l (exE nv deep x e)
end
def noneX (x : Ex) : Bool := decide (x.op = 0 ∧ x.v = 0 ∧ x.n = 0 ∧ x.l.length = 0)
def stForm (op : Int) (e f : Ex) (kb ke : Nat) : Bool := (!needE op && !noneX e) || (!needF op && !noneX f) || (!needB op && decide ((0 : Int) < (kb : Int))) || (!needO op && decide ((0 : Int) < (ke : Int)))
def stHead (nv deep op v : Int) (e f : Ex) (kb ke : Nat) (s : JE) : JE := (((s.one deep).fail (decide (op < 1 ∨ 7 < op)) 2).fail (stForm op e f kb ke) 5).named nv v (needV op)
def stEF (nv deep op : Int) (e f : Ex) (s : JE) : JE :=
  let s1 := if needE op then exE nv deep e s else s
  if needF op then exE nv deep f s1 else s1
mutual
def stE (nv : Int) : Int → St → JE → JE
  | deep, .mk op v e f body els, s => stsE nv (deep + 1) els (stsE nv (deep + 1) body (stEF nv (deep + 1) op e f (stHead nv deep op v e f body.length els.length s)))
def stsE (nv : Int) : Int → List St → JE → JE
  | _, [], s => s
  | deep, x :: l, s => stsE nv deep l (stE nv deep x s)
end
def nameOk (s : ByteArray) : Bool := decide ((∀ i, i < s.size → 97 ≤ byteAt s i ∧ byteAt s i ≤ 122) ∧ 1 ≤ s.size ∧ s.size ≤ 8)
def sizes (l : List Va) : Int := (l.map (·.size)).sum
def varsGo (seen : List Va) (n : Int) : List Va → Int
  | [] => 0
  | v :: l => if nameOk v.name = false then 8 else if ∃ w ∈ seen, w.name = v.name then 9 else if v.size < 1 ∨ 48 - n < v.size then 1 else varsGo (seen ++ [v]) (n + v.size) l
def JE.code : JE → Int | .ok _ => 0 | .error c => c
def checkVars (l : List Va) : Int := if 8 < l.length then 3 else varsGo [] 0 l
def checkP (p : Pr) : Int := if checkVars p.vars ≠ 0 then checkVars p.vars else (stsE p.vars.length 0 p.body (.ok 150)).code
def cellOf (l : List Va) (v : Int) : Int := sizes (l.take v.toNat)
mutual
def exN : Ex → Nat
  | .mk _ _ _ l => 1 + exsN l
def exsN : List Ex → Nat
  | [] => 0
  | x :: l => exN x + exsN l
end
mutual
def stN : St → Nat
  | .mk _ _ e f body els => 1 + exN e + exN f + stsN body + stsN els
def stsN : List St → Nat
  | [] => 0
  | x :: l => stN x + stsN l
end
theorem exN_pos (x : Ex) : 1 ≤ exN x := by cases x; simp [exN]
theorem stN_pos (x : St) : 3 ≤ stN x := by
  cases x with
  | mk op v e f b l => have := exN_pos e; have := exN_pos f; simp only [stN]; omega
theorem exsN_len : ∀ l : List Ex, l.length ≤ exsN l
  | [] => Nat.le_refl _
  | x :: l => by have := exsN_len l; have := exN_pos x; simp only [exsN, List.length_cons]; omega
theorem stsN_len : ∀ l : List St, l.length * 3 ≤ stsN l
  | [] => Nat.le_refl _
  | x :: l => by have := stsN_len l; have := stN_pos x; simp only [stsN, List.length_cons]; omega
theorem exsN_app : ∀ (l m : List Ex), exsN (l ++ m) = exsN l + exsN m
  | [], m => by simp [exsN]
  | x :: l, m => by have := exsN_app l m; simp only [List.cons_append, exsN, this]; omega
theorem stsN_app : ∀ (l m : List St), stsN (l ++ m) = stsN l + stsN m
  | [], m => by simp [stsN]
  | x :: l, m => by have := stsN_app l m; simp only [List.cons_append, stsN, this]; omega
@[simp] theorem fail_err (c : Int) (b : Bool) (d : Int) : JE.fail (.error c) b d = .error c := rfl
@[simp] theorem one_err (c d : Int) : JE.one (.error c) d = .error c := rfl
@[simp] theorem named_err (c nv v : Int) (is : Bool) : JE.named (.error c) nv v is = .error c := rfl
@[simp] theorem fail_false (e : JE) (d : Int) : JE.fail e false d = e := by cases e <;> rfl
@[simp] theorem exHead_err (nv deep op v n : Int) (k : Nat) (c : Int) : exHead nv deep op v n k (.error c) = .error c := rfl
@[simp] theorem stHead_err (nv deep op v : Int) (e f : Ex) (kb ke : Nat) (c : Int) : stHead nv deep op v e f kb ke (.error c) = .error c := rfl
theorem exsE_err' (nv c : Int) : ∀ (l : List Ex), (∀ x ∈ l, ∀ deep, exE nv deep x (.error c) = .error c) → ∀ deep, exsE nv deep l (.error c) = .error c
  | [], _, _ => rfl
  | x :: l, h, deep => by rw [exsE, h x (by simp)]; exact exsE_err' nv c l (fun y hy => h y (by simp [hy])) deep
@[simp] theorem exE_err (nv c : Int) (x : Ex) : ∀ deep, exE nv deep x (.error c) = .error c := by
  refine Ex.ind (P := fun x => ∀ deep, exE nv deep x (.error c) = .error c) ?_ x
  intro op v n l ih deep
  rw [exE, exHead_err]
  exact exsE_err' nv c l ih _
@[simp] theorem exsE_err (nv c : Int) (l : List Ex) (deep : Int) : exsE nv deep l (.error c) = .error c := exsE_err' nv c l (fun x _ => exE_err nv c x) deep
@[simp] theorem stEF_err (nv deep op : Int) (e f : Ex) (c : Int) : stEF nv deep op e f (.error c) = .error c := by simp [stEF]
theorem stsE_err' (nv c : Int) : ∀ (l : List St), (∀ x ∈ l, ∀ deep, stE nv deep x (.error c) = .error c) → ∀ deep, stsE nv deep l (.error c) = .error c
  | [], _, _ => rfl
  | x :: l, h, deep => by rw [stsE, h x (by simp)]; exact stsE_err' nv c l (fun y hy => h y (by simp [hy])) deep
@[simp] theorem stE_err (nv c : Int) (x : St) : ∀ deep, stE nv deep x (.error c) = .error c := by
  refine St.ind (P := fun x => ∀ deep, stE nv deep x (.error c) = .error c) ?_ x
  intro op v e f body els ih jh deep
  rw [stE, stHead_err, stEF_err, stsE_err' nv c body ih, stsE_err' nv c els jh]
@[simp] theorem stsE_err (nv c : Int) (l : List St) (deep : Int) : stsE nv deep l (.error c) = .error c := stsE_err' nv c l (fun x _ => stE_err nv c x) deep
theorem exsE_app (nv deep : Int) : ∀ (l m : List Ex) (s : JE), exsE nv deep (l ++ m) s = exsE nv deep m (exsE nv deep l s)
  | [], _, _ => rfl
  | x :: l, m, s => by rw [List.cons_append, exsE, exsE, exsE_app nv deep l m]
theorem stsE_app (nv deep : Int) : ∀ (l m : List St) (s : JE), stsE nv deep (l ++ m) s = stsE nv deep m (stsE nv deep l s)
  | [], _, _ => rfl
  | x :: l, m, s => by rw [List.cons_append, stsE, stsE, stsE_app nv deep l m]
theorem exsE_snoc (nv deep : Int) (l : List Ex) (k : Nat) (x : Ex) (s : JE) (h : l[k]? = some x) : exsE nv deep (l.take (k + 1)) s = exE nv deep x (exsE nv deep (l.take k) s) := by
  rw [List.take_add_one, h]; simp [exsE_app, exsE]
theorem stsE_snoc (nv deep : Int) (l : List St) (k : Nat) (x : St) (s : JE) (h : l[k]? = some x) : stsE nv deep (l.take (k + 1)) s = stE nv deep x (stsE nv deep (l.take k) s) := by
  rw [List.take_add_one, h]; simp [stsE_app, stsE]
theorem sizes_take (l : List Va) (k : Nat) (x : Va) (h : l[k]? = some x) : sizes (l.take (k + 1)) = sizes (l.take k) + x.size := by
  rw [List.take_add_one, h]; simp [sizes, List.sum_append]
end Go.Proofs.Ytmnmcjdgnpgchaa

namespace Go.Proofs.Ytmnmcjdgnpgchaa
open Go X
structure Down (F : Int → JE → JE) : Prop where
  err : ∀ d c, F d (.error c) = .error c
  ok : ∀ d a b, 0 ≤ a → F d (.ok a) = .ok b → 0 ≤ b ∧ b ≤ a ∧ ∀ d' a', d' ≤ d → a ≤ a' → F d' (.ok a') = .ok (a' - a + b)
  nz : ∀ d a c, F d (.ok a) = .error c → c ≠ 0
theorem Down.id : Down fun _ e => e := ⟨fun _ _ => rfl, fun d a b h e => by
  simp only [Except.ok.injEq] at e; subst e
  exact ⟨h, Int.le_refl _, fun d' a' _ _ => by simp⟩, fun _ _ _ e => by cases e⟩
theorem Down.comp {F G : Int → JE → JE} (hF : Down F) (hG : Down G) : Down fun d e => G d (F d e) := by
  refine ⟨fun d c => by rw [hF.err, hG.err], fun d a b h e => ?_, fun d a c e => ?_⟩
  · cases hf : F d (.ok a) with
    | error c => rw [hf, hG.err] at e; cases e
    | ok m =>
      rw [hf] at e
      obtain ⟨h1, h2, h3⟩ := hF.ok d a m h hf
      obtain ⟨g1, g2, g3⟩ := hG.ok d m b h1 e
      refine ⟨g1, by omega, fun d' a' hd ha => ?_⟩
      rw [h3 d' a' hd ha, g3 d' _ hd (by omega)]
      congr 1; omega
  · cases hf : F d (.ok a) with
    | error c' => rw [hf, hG.err] at e; simp only [Except.error.injEq] at e; subst e; exact hF.nz _ _ _ hf
    | ok m => rw [hf] at e; exact hG.nz _ _ _ e
theorem Down.shift {F : Int → JE → JE} (hF : Down F) : Down fun d e => F (d + 1) e :=
  ⟨fun d c => hF.err _ _, fun d a b h e => by
    obtain ⟨h1, h2, h3⟩ := hF.ok _ _ _ h e
    exact ⟨h1, h2, fun d' a' hd ha => h3 _ _ (by omega) ha⟩, fun d a c e => hF.nz _ _ _ e⟩
theorem Down.fail (b : Bool) {c : Int} (hc : c ≠ 0) : Down fun _ e => JE.fail e b c := by
  cases b with
  | false => simpa using Down.id
  | true => exact ⟨fun _ _ => rfl, fun d a b h e => by simp [JE.fail] at e, fun d a c' e => by simp [JE.fail] at e; subst e; exact hc⟩
theorem Down.one : Down fun d e => JE.one e d := by
  refine ⟨fun _ _ => rfl, fun d a b h e => ?_, fun d a c e => ?_⟩
  · simp only [JE.one] at e
    split at e
    · cases e
    · split at e
      · cases e
      · simp only [Except.ok.injEq] at e
        subst e
        refine ⟨by omega, by omega, fun d' a' hd ha => ?_⟩
        simp only [JE.one]
        rw [if_neg (by omega), if_neg (by omega)]
        congr 1; omega
  · simp only [JE.one] at e
    split at e
    · simp only [Except.error.injEq] at e; omega
    · split at e
      · simp only [Except.error.injEq] at e; omega
      · cases e
theorem Down.named (nv v : Int) (is : Bool) : Down fun _ e => JE.named e nv v is := (Down.fail _ (by decide)).comp (Down.fail _ (by decide))
theorem Down.exHead (nv op v n : Int) (k : Nat) : Down fun d e => exHead nv d op v n k e := ((Down.one.comp (Down.fail _ (by decide))).comp (Down.fail _ (by decide))).comp (Down.named _ _ _)
theorem Down.exsE' (nv : Int) : ∀ (l : List Ex), (∀ x ∈ l, Down fun d e => exE nv d x e) → Down fun d e => exsE nv d l e
  | [], _ => by simpa [Go.Proofs.Ytmnmcjdgnpgchaa.exsE] using Down.id
  | x :: l, h => by
    have := (h x (by simp)).comp (Down.exsE' nv l (fun y hy => h y (by simp [hy])))
    simpa [Go.Proofs.Ytmnmcjdgnpgchaa.exsE] using this
theorem Down.exE (nv : Int) (x : Ex) : Down fun d e => exE nv d x e := by
  refine Ex.ind (P := fun x => Down fun d e => Go.Proofs.Ytmnmcjdgnpgchaa.exE nv d x e) ?_ x
  intro op v n l ih
  have := (Down.exHead nv op v n l.length).comp (Down.exsE' nv l ih).shift
  simpa [Go.Proofs.Ytmnmcjdgnpgchaa.exE] using this
theorem Down.exsE (nv : Int) (l : List Ex) : Down fun d e => Go.Proofs.Ytmnmcjdgnpgchaa.exsE nv d l e := Down.exsE' nv l (fun x _ => Down.exE nv x)
theorem Down.stEF (nv op : Int) (e f : Ex) : Down fun d s => stEF nv d op e f s := by
  unfold Go.Proofs.Ytmnmcjdgnpgchaa.stEF
  by_cases h1 : needE op = true <;> by_cases h2 : needF op = true <;> simp only [h1, h2]
  · exact (Down.exE nv e).comp (Down.exE nv f)
  · exact Down.exE nv e
  · exact Down.exE nv f
  · exact Down.id
theorem Down.stHead (nv op v : Int) (e f : Ex) (kb ke : Nat) : Down fun d s => stHead nv d op v e f kb ke s := ((Down.one.comp (Down.fail _ (by decide))).comp (Down.fail _ (by decide))).comp (Down.named _ _ _)
theorem Down.stsE' (nv : Int) : ∀ (l : List St), (∀ x ∈ l, Down fun d e => stE nv d x e) → Down fun d e => stsE nv d l e
  | [], _ => by simpa [Go.Proofs.Ytmnmcjdgnpgchaa.stsE] using Down.id
  | x :: l, h => by
    have := (h x (by simp)).comp (Down.stsE' nv l (fun y hy => h y (by simp [hy])))
    simpa [Go.Proofs.Ytmnmcjdgnpgchaa.stsE] using this
theorem Down.stE (nv : Int) (x : St) : Down fun d e => stE nv d x e := by
  refine St.ind (P := fun x => Down fun d e => Go.Proofs.Ytmnmcjdgnpgchaa.stE nv d x e) ?_ x
  intro op v e f body els ih jh
  have := (((Down.stHead nv op v e f body.length els.length).comp (Down.stEF nv op e f).shift).comp (Down.stsE' nv body ih).shift).comp (Down.stsE' nv els jh).shift
  simpa [Go.Proofs.Ytmnmcjdgnpgchaa.stE] using this
theorem Down.stsE (nv : Int) (l : List St) : Down fun d e => stsE nv d l e := Down.stsE' nv l (fun x _ => Down.stE nv x)
theorem sts_mem {nv : Int} : ∀ {l : List St} {x : St} (_ : x ∈ l) {d a b : Int}, 0 ≤ a → Go.Proofs.Ytmnmcjdgnpgchaa.stsE nv d l (.ok a) = .ok b → ∃ a1 b1, 0 ≤ a1 ∧ a1 ≤ a ∧ Go.Proofs.Ytmnmcjdgnpgchaa.stE nv d x (.ok a1) = .ok b1
  | y :: l, x, hm, d, a, b, h0, e => by
    rw [Go.Proofs.Ytmnmcjdgnpgchaa.stsE] at e
    cases hx : Go.Proofs.Ytmnmcjdgnpgchaa.stE nv d y (.ok a) with
    | error c => rw [hx, stsE_err] at e; cases e
    | ok m =>
      rw [hx] at e
      obtain ⟨h1, h2, -⟩ := (Down.stE nv y).ok d a m h0 hx
      simp only [List.mem_cons] at hm
      rcases hm with rfl | hm
      · exact ⟨a, m, h0, Int.le_refl _, hx⟩
      · obtain ⟨a1, b1, k1, k2, k3⟩ := sts_mem hm h1 e
        exact ⟨a1, b1, k1, by omega, k3⟩
theorem code_zero {e : JE} (hn : ∀ c, e = .error c → c ≠ 0) (h : e.code = 0) : ∃ b, e = .ok b := by
  cases e with
  | ok b => exact ⟨b, rfl⟩
  | error c => exact absurd h (hn c rfl)
theorem check_ok {p : Pr} (h : checkP p = 0) : checkVars p.vars = 0 ∧ ∃ b, Go.Proofs.Ytmnmcjdgnpgchaa.stsE p.vars.length 0 p.body (.ok 150) = .ok b := by
  unfold checkP at h
  split at h
  · exact absurd h (by assumption)
  · rename_i hv
    exact ⟨by simpa using hv, code_zero (fun c hc => (Down.stsE _ p.body).nz _ _ _ hc) h⟩
theorem sizes_cons (x : Va) (l : List Va) : sizes (x :: l) = x.size + sizes l := by simp [sizes]
theorem sizes_app (l m : List Va) : sizes (l ++ m) = sizes l + sizes m := by simp [sizes, List.sum_append]
theorem vars_ok : ∀ (l seen : List Va) (n : Int), n ≤ 48 → varsGo seen n l = 0 → (∀ x ∈ l, 1 ≤ x.size) ∧ n + sizes l ≤ 48
  | [], _, n, hn, _ => by simp [sizes]; exact hn
  | x :: l, seen, n, hn, h => by
    rw [varsGo] at h
    split at h
    · cases h
    · split at h
      · cases h
      · split at h
        · cases h
        · obtain ⟨h1, h2⟩ := vars_ok l _ _ (by omega) h
          refine ⟨fun y hy => ?_, by rw [sizes_cons]; omega⟩
          simp only [List.mem_cons] at hy
          rcases hy with rfl | hy
          · omega
          · exact h1 y hy
theorem check_sizes {l : List Va} (h : checkVars l = 0) : l.length ≤ 8 ∧ (∀ x ∈ l, 1 ≤ x.size) ∧ sizes l ≤ 48 := by
  unfold checkVars at h
  split at h
  · cases h
  · obtain ⟨h1, h2⟩ := vars_ok l [] 0 (by decide) h
    exact ⟨by omega, h1, by omega⟩
theorem sizes_nonneg : ∀ {l : List Va}, (∀ x ∈ l, 1 ≤ x.size) → 0 ≤ sizes l
  | [], _ => Int.le_refl _
  | x :: l, h => by have := sizes_nonneg (l := l) (fun y hy => h y (by simp [hy])); have := h x (by simp); rw [sizes_cons]; omega
theorem cells_le {l : List Va} (h : ∀ x ∈ l, 1 ≤ x.size) (v : Nat) : 0 ≤ sizes (l.take v) ∧ sizes (l.take v) ≤ sizes l := by
  refine ⟨sizes_nonneg (fun y hy => h y (List.mem_of_mem_take hy)), ?_⟩
  have h1 : sizes l = sizes (l.take v) + sizes (l.drop v) := by rw [← sizes_app, List.take_append_drop]
  have := sizes_nonneg (l := l.drop v) (fun y hy => h y (List.mem_of_mem_drop hy))
  omega
end Go.Proofs.Ytmnmcjdgnpgchaa

namespace Go.Proofs.Ytmnmcjdgnpgchaa
open Go X
structure In where
  op : Int
  a : Int
  b : Int
  n : Int
deriving DecidableEq
def inC (i : In) : List Value := [i64 i.op, i64 i.a, i64 i.b, i64 i.n]
def sizeV (vs : List Va) (v : Int) : Int := (vs[v.toNat]?.map (·.size)).getD 0
def opIn (vs : List Va) (op v n : Int) : In := ⟨op, if op = 2 ∨ op = 3 then cellOf vs v else 0, if op = 3 then sizeV vs v else 0, n⟩
mutual
def exCode (vs : List Va) : Ex → List In
  | .mk op v n l => exsCode vs l ++ [opIn vs op v n]
def exsCode (vs : List Va) : List Ex → List In
  | [] => []
  | x :: l => exCode vs x ++ exsCode vs l
end
mutual
def stCode (vs : List Va) : St → Nat → List In
  | .mk op v e f body els, at_ =>
    let l := if needE op then exCode vs e else []
    if op = 1 then l ++ [⟨9, cellOf vs v, 0, 0⟩]
    else if op = 2 then l ++ exCode vs f ++ [⟨10, cellOf vs v, sizeV vs v, 0⟩]
    else if op = 3 then l ++ [⟨11, 0, 0, 0⟩]
    else if op = 4 then l ++ [⟨12, cellOf vs v, 0, 0⟩]
    else if op = 5 then
      let b := stsCode vs body (at_ + l.length + 1)
      l ++ [⟨13, (at_ + l.length + 1 + b.length + 1 : Nat), 0, 0⟩] ++ b ++ [⟨14, (at_ : Nat), 0, 0⟩]
    else if op = 6 then
      let b := stsCode vs body (at_ + l.length + 1)
      let o := stsCode vs els (at_ + l.length + 1 + b.length + 1)
      l ++ [⟨13, (at_ + l.length + 1 + b.length + 1 : Nat), 0, 0⟩] ++ b ++ [⟨14, (at_ + l.length + 1 + b.length + 1 + o.length : Nat), 0, 0⟩] ++ o
    else if op = 7 then [⟨15, 0, 0, 0⟩]
    else l
def stsCode (vs : List Va) : List St → Nat → List In
  | [], _ => []
  | x :: l, at_ => stCode vs x at_ ++ stsCode vs l (at_ + (stCode vs x at_).length)
end
def codeOf (p : Pr) : List In := stsCode p.vars p.body 0 ++ [⟨16, 0, 0, 0⟩]
theorem exsCode_app (vs : List Va) : ∀ (l m : List Ex), exsCode vs (l ++ m) = exsCode vs l ++ exsCode vs m
  | [], m => by simp [exsCode]
  | x :: l, m => by rw [List.cons_append, exsCode, exsCode, exsCode_app vs l m, List.append_assoc]
theorem exsCode_snoc (vs : List Va) {l : List Ex} {k : Nat} {x : Ex} (h : l[k]? = some x) : exsCode vs (l.take (k + 1)) = exsCode vs (l.take k) ++ exCode vs x := by
  rw [List.take_add_one, h]; simp [exsCode_app, exsCode]
theorem stsCode_app (vs : List Va) : ∀ (l m : List St) (k : Nat), stsCode vs (l ++ m) k = stsCode vs l k ++ stsCode vs m (k + (stsCode vs l k).length)
  | [], m, k => by simp [stsCode]
  | x :: l, m, k => by rw [List.cons_append, stsCode, stsCode, stsCode_app vs l m, List.append_assoc, List.length_append, Nat.add_assoc]
theorem stsCode_snoc (vs : List Va) {l : List St} {k : Nat} {x : St} (h : l[k]? = some x) (j : Nat) : stsCode vs (l.take (k + 1)) j = stsCode vs (l.take k) j ++ stCode vs x (j + (stsCode vs (l.take k) j).length) := by
  rw [List.take_add_one, h]; simp [stsCode_app, stsCode]
theorem exsCode_len' (vs : List Va) : ∀ (l : List Ex), (∀ x ∈ l, (exCode vs x).length = exN x) → (exsCode vs l).length = exsN l
  | [], _ => rfl
  | x :: l, h => by rw [exsCode, exsN, List.length_append, h x (by simp), exsCode_len' vs l (fun y hy => h y (by simp [hy]))]
theorem exCode_len (vs : List Va) (x : Ex) : (exCode vs x).length = exN x := by
  refine Ex.ind (P := fun x => (exCode vs x).length = exN x) ?_ x
  intro op v n l ih
  rw [exCode, exN, List.length_append, exsCode_len' vs l ih, List.length_singleton, Nat.add_comm]
theorem exsCode_len (vs : List Va) (l : List Ex) : (exsCode vs l).length = exsN l := exsCode_len' vs l (fun x _ => exCode_len vs x)
theorem stsCode_len' (vs : List Va) : ∀ (l : List St), (∀ x ∈ l, ∀ k, (stCode vs x k).length ≤ stN x) → ∀ k, (stsCode vs l k).length ≤ stsN l
  | [], _, _ => Nat.zero_le _
  | x :: l, h, k => by
    have h1 := h x (by simp) k
    have h2 := stsCode_len' vs l (fun y hy => h y (by simp [hy])) (k + (stCode vs x k).length)
    rw [stsCode, stsN, List.length_append]; omega
theorem stCode_len (vs : List Va) (x : St) : ∀ k, (stCode vs x k).length ≤ stN x := by
  refine St.ind (P := fun x => ∀ k, (stCode vs x k).length ≤ stN x) ?_ x
  intro op v e f body els ih jh k
  have hb := stsCode_len' vs body ih
  have he := stsCode_len' vs els jh
  have h1 := exN_pos e
  have h2 := exN_pos f
  have hl : (if needE op then exCode vs e else []).length ≤ exN e := by split <;> simp [exCode_len]
  rw [stCode, stN]
  have hb1 := hb (k + (if needE op then exCode vs e else []).length + 1)
  have he1 := he (k + (if needE op then exCode vs e else []).length + 1 + (stsCode vs body (k + (if needE op then exCode vs e else []).length + 1)).length + 1)
  by_cases g1 : op = 1
  · simp only [g1, if_true, List.length_append, List.length_singleton] at *; omega
  by_cases g2 : op = 2
  · simp only [g2, show ¬ (2 : Int) = 1 by decide, if_true, if_false, List.length_append, List.length_singleton, exCode_len] at *; omega
  by_cases g3 : op = 3
  · simp only [g3, show ¬ (3 : Int) = 1 by decide, show ¬ (3 : Int) = 2 by decide, if_true, if_false, List.length_append, List.length_singleton] at *; omega
  by_cases g4 : op = 4
  · simp only [g4, show ¬ (4 : Int) = 1 by decide, show ¬ (4 : Int) = 2 by decide, show ¬ (4 : Int) = 3 by decide, if_true, if_false, List.length_append, List.length_singleton] at *; omega
  simp only [g1, g2, g3, g4, if_false]
  generalize (if needE op then exCode vs e else []) = L at *
  by_cases g5 : op = 5
  · rw [if_pos g5]; simp only [List.length_append, List.length_singleton]; omega
  rw [if_neg g5]
  by_cases g6 : op = 6
  · rw [if_pos g6]; simp only [List.length_append, List.length_singleton]; omega
  rw [if_neg g6]
  by_cases g7 : op = 7
  · rw [if_pos g7]; simp only [List.length_singleton]; omega
  rw [if_neg g7]; omega
theorem stsCode_len (vs : List Va) (l : List St) (k : Nat) : (stsCode vs l k).length ≤ stsN l := stsCode_len' vs l (fun x _ => stCode_len vs x) k
mutual
def exH : Ex → Nat
  | .mk _ _ _ l => 1 + exsH l
def exsH : List Ex → Nat
  | [] => 0
  | x :: l => max (exH x) (exsH l)
end
mutual
def ExV (nv : Nat) : Ex → Prop
  | .mk op v n l => (1 ≤ op ∧ op ≤ 8) ∧ (l.length : Int) = partsOf op ∧ (op = 2 ∨ op = 3 → 0 ≤ v ∧ v < nv) ∧ (n ≠ 0 → op = 1) ∧ ExsV nv l
def ExsV (nv : Nat) : List Ex → Prop
  | [] => True
  | x :: l => ExV nv x ∧ ExsV nv l
end
mutual
def StV (nv : Nat) : St → Prop
  | .mk op v e f body els => (1 ≤ op ∧ op ≤ 7) ∧ (needV op = true → 0 ≤ v ∧ v < nv) ∧ (needE op = true → ExV nv e ∧ exH e ≤ 12) ∧ (needF op = true → ExV nv f ∧ exH f ≤ 12) ∧ (needB op = false → body = []) ∧ (needO op = false → els = []) ∧ StsV nv body ∧ StsV nv els
def StsV (nv : Nat) : List St → Prop
  | [] => True
  | x :: l => StV nv x ∧ StsV nv l
end
theorem ExsV.mem {nv : Nat} : ∀ {l : List Ex}, ExsV nv l → ∀ x ∈ l, ExV nv x
  | [], _, _, h => by simp at h
  | y :: l, h, x, hx => by
    rw [ExsV] at h
    rcases List.mem_cons.1 hx with rfl | hx
    · exact h.1
    · exact ExsV.mem h.2 x hx
theorem StsV.mem {nv : Nat} : ∀ {l : List St}, StsV nv l → ∀ x ∈ l, StV nv x
  | [], _, _, h => by simp at h
  | y :: l, h, x, hx => by
    rw [StsV] at h
    rcases List.mem_cons.1 hx with rfl | hx
    · exact h.1
    · exact StsV.mem h.2 x hx
theorem fail_ok {e : JE} {b : Bool} {c l : Int} (h : e.fail b c = .ok l) : e = .ok l ∧ b = false := by
  cases e with
  | error d => simp [JE.fail] at h
  | ok a => cases b <;> simp [JE.fail] at h ⊢; exact h
theorem one_ok' {e : JE} {d l : Int} (h : e.one d = .ok l) : d ≤ 12 ∧ ∃ a, e = .ok a := by
  cases e with
  | error c => simp [JE.one] at h
  | ok a =>
    simp only [JE.one] at h
    split at h
    · simp at h
    · exact ⟨by omega, a, rfl⟩
theorem exHead_ok {nv deep op v n a b : Int} {k : Nat} (h : exHead nv deep op v n k (.ok a) = .ok b) :
    deep ≤ 12 ∧ (1 ≤ op ∧ op ≤ 8) ∧ (k : Int) = partsOf op ∧ (op = 2 ∨ op = 3 → 0 ≤ v ∧ v < nv) ∧ (n ≠ 0 → op = 1) := by
  rw [exHead, JE.named] at h
  obtain ⟨h, h5⟩ := fail_ok h
  obtain ⟨h, h4⟩ := fail_ok h
  obtain ⟨h, h3⟩ := fail_ok h
  obtain ⟨h, h2⟩ := fail_ok h
  obtain ⟨h1, -⟩ := one_ok' h
  simp only [decide_eq_false_iff_not] at h2 h3
  refine ⟨h1, ?_, by omega, ?_, fun hn => by omega⟩
  · have : 0 ≤ partsOf op := by omega
    rw [partsOf] at this
    constructor <;> · repeat' split at this
                      all_goals omega
  · intro ho
    simp only [ho, decide_true, Bool.true_and, decide_eq_false_iff_not] at h4
    omega
theorem exsV_of {nv : Nat} : ∀ (l : List Ex), (∀ x ∈ l, ∀ deep a b : Int, exE nv deep x (.ok a) = .ok b → ExV nv x ∧ deep + exH x ≤ 13) → ∀ deep a b : Int, deep ≤ 13 → exsE nv deep l (.ok a) = .ok b → ExsV nv l ∧ deep + exsH l ≤ 13
  | [], _, deep, a, b, hd, _ => by rw [ExsV, exsH]; exact ⟨trivial, by omega⟩
  | x :: l, h, deep, a, b, hd, hx => by
    rw [exsE] at hx
    cases e : exE nv deep x (.ok a) with
    | error c => rw [e, exsE_err] at hx; cases hx
    | ok a1 =>
      rw [e] at hx
      obtain ⟨g1, g2⟩ := h x (by simp) deep a a1 e
      obtain ⟨g3, g4⟩ := exsV_of l (fun y hy => h y (by simp [hy])) deep a1 b hd hx
      rw [ExsV, exsH]
      exact ⟨⟨g1, g3⟩, by omega⟩
theorem exV_of {nv : Nat} (x : Ex) : ∀ deep a b : Int, exE nv deep x (.ok a) = .ok b → ExV nv x ∧ deep + exH x ≤ 13 := by
  refine Ex.ind (P := fun x => ∀ deep a b : Int, exE nv deep x (.ok a) = .ok b → ExV nv x ∧ deep + exH x ≤ 13) ?_ x
  intro op v n l ih deep a b h
  rw [exE] at h
  cases e : exHead nv deep op v n l.length (.ok a) with
  | error c => rw [e, exsE_err] at h; cases h
  | ok a1 =>
    rw [e] at h
    obtain ⟨g1, g2, g3, g4, g5⟩ := exHead_ok e
    obtain ⟨g6, g7⟩ := exsV_of l ih (deep + 1) a1 b (by omega) h
    rw [ExV, exH]
    exact ⟨⟨g2, g3, g4, g5, g6⟩, by omega⟩
theorem stHead_ok {nv deep op v a b : Int} {e f : Ex} {kb ke : Nat} (h : stHead nv deep op v e f kb ke (.ok a) = .ok b) :
    deep ≤ 12 ∧ (1 ≤ op ∧ op ≤ 7) ∧ (needV op = true → 0 ≤ v ∧ v < nv) ∧ (needB op = false → kb = 0) ∧ (needO op = false → ke = 0) := by
  rw [stHead, JE.named] at h
  obtain ⟨h, h5⟩ := fail_ok h
  obtain ⟨h, h4⟩ := fail_ok h
  obtain ⟨h, h3⟩ := fail_ok h
  obtain ⟨h, h2⟩ := fail_ok h
  obtain ⟨h1, -⟩ := one_ok' h
  simp only [decide_eq_false_iff_not] at h2
  simp only [stForm, Bool.or_eq_false_iff, Bool.and_eq_false_imp, Bool.not_eq_true', decide_eq_false_iff_not] at h3
  refine ⟨h1, by omega, ?_, ?_, ?_⟩
  · intro ho
    simp only [ho, Bool.true_and, decide_eq_false_iff_not] at h4
    omega
  · intro hb; have := h3.1.2 hb; omega
  · intro hb; have := h3.2 hb; omega
theorem stsV_of {nv : Nat} : ∀ (l : List St), (∀ x ∈ l, ∀ deep a b : Int, 0 ≤ deep → stE nv deep x (.ok a) = .ok b → StV nv x) → ∀ deep a b : Int, 0 ≤ deep → stsE nv deep l (.ok a) = .ok b → StsV nv l
  | [], _, deep, a, b, _, _ => by rw [StsV]; trivial
  | x :: l, h, deep, a, b, hd, hx => by
    rw [stsE] at hx
    cases e : stE nv deep x (.ok a) with
    | error c => rw [e, stsE_err] at hx; cases hx
    | ok a1 =>
      rw [e] at hx
      rw [StsV]
      exact ⟨h x (by simp) deep a a1 hd e, stsV_of l (fun y hy => h y (by simp [hy])) deep a1 b hd hx⟩
theorem stV_of {nv : Nat} (x : St) : ∀ deep a b : Int, 0 ≤ deep → stE nv deep x (.ok a) = .ok b → StV nv x := by
  refine St.ind (P := fun x => ∀ deep a b : Int, 0 ≤ deep → stE nv deep x (.ok a) = .ok b → StV nv x) ?_ x
  intro op v e f body els ih jh deep a b hd h
  rw [stE] at h
  cases e1 : stHead nv deep op v e f body.length els.length (.ok a) with
  | error c => rw [e1, stEF_err, stsE_err, stsE_err] at h; cases h
  | ok a1 =>
    rw [e1] at h
    cases e2 : stEF nv (deep + 1) op e f (.ok a1) with
    | error c => rw [e2, stsE_err, stsE_err] at h; cases h
    | ok a2 =>
      rw [e2] at h
      cases e3 : stsE nv (deep + 1) body (.ok a2) with
      | error c => rw [e3, stsE_err] at h; cases h
      | ok a3 =>
        rw [e3] at h
        obtain ⟨g1, g2, g3, g4, g5⟩ := stHead_ok e1
        have hb := stsV_of body ih (deep + 1) a2 a3 (by omega) e3
        have he := stsV_of els jh (deep + 1) a3 b (by omega) h
        rw [StV]
        rw [stEF] at e2
        refine ⟨g2, g3, ?_, ?_, fun hn => List.eq_nil_of_length_eq_zero (g4 hn), fun hn => List.eq_nil_of_length_eq_zero (g5 hn), hb, he⟩
        · intro hn
          rw [if_pos hn] at e2
          cases e4 : exE nv (deep + 1) e (.ok a1) with
          | error c => simp only [e4, exE_err, ite_self] at e2; cases e2
          | ok a4 => obtain ⟨k1, k2⟩ := exV_of e _ _ _ e4; exact ⟨k1, by omega⟩
        · intro hn
          simp only [hn, if_true] at e2
          cases e4 : (if needE op = true then exE nv (deep + 1) e (.ok a1) else .ok a1 : JE) with
          | error c => rw [e4, exE_err] at e2; cases e2
          | ok a4 => rw [e4] at e2; obtain ⟨k1, k2⟩ := exV_of f _ _ _ e2; exact ⟨k1, by omega⟩
theorem check_valid {p : Pr} (h : checkP p = 0) : StsV p.vars.length p.body ∧ p.vars.length ≤ 8 ∧ (∀ x ∈ p.vars, 1 ≤ x.size) ∧ sizes p.vars ≤ 48 := by
  obtain ⟨h1, b, h2⟩ := check_ok h
  exact ⟨stsV_of p.body (fun x _ => stV_of x) 0 150 b (Int.le_refl _) h2, check_sizes h1⟩
end Go.Proofs.Ytmnmcjdgnpgchaa

namespace Go.Proofs.Ytmnmcjdgnpgchaa
open Go X
def popA (op : Int) : Int := if op = 3 then 1 else if 4 ≤ op ∧ op ≤ 8 then 2 else if op = 9 ∨ op = 11 ∨ op = 13 then 1 else if op = 10 then 2 else 0
def popB (op : Int) : Int := if 1 ≤ op ∧ op ≤ 8 then 1 else 0
def dl (x : In) : Int := popB x.op - popA x.op
def hts (l : List In) : Int := (l.map dl).sum
theorem hts_nil : hts [] = 0 := rfl
theorem hts_cons (x : In) (l : List In) : hts (x :: l) = dl x + hts l := by simp [hts]
theorem hts_app (l m : List In) : hts (l ++ m) = hts l + hts m := by simp [hts, List.sum_append]
theorem hts_one (x : In) : hts [x] = dl x := by simp [hts]
def cellOk (cells : Int) (x : In) : Prop := ((x.op = 2 ∨ x.op = 9 ∨ x.op = 12) → 0 ≤ x.a ∧ x.a < cells) ∧ ((x.op = 3 ∨ x.op = 10) → 0 ≤ x.a ∧ 1 ≤ x.b ∧ x.a + x.b ≤ cells)
def Fit (cells : Int) : Int → List In → Prop
  | _, [] => True
  | n, x :: l => (popA x.op ≤ n ∧ n + dl x ≤ 24 ∧ ((x.op = 13 ∨ x.op = 14) → n + dl x = 0) ∧ cellOk cells x ∧ x.op ≠ 16) ∧ Fit cells (n + dl x) l
theorem Fit.app {cells : Int} : ∀ {l m : List In} {n : Int}, Fit cells n l → Fit cells (n + hts l) m → Fit cells n (l ++ m)
  | [], m, n, _, h => by rw [hts_nil, Int.add_zero] at h; exact h
  | x :: l, m, n, h, g => by
    rw [Fit] at h
    rw [hts_cons] at g
    rw [List.cons_append, Fit]
    exact ⟨h.1, Fit.app h.2 (by rw [Int.add_assoc]; exact g)⟩
theorem Fit.at {cells : Int} : ∀ {l : List In} {n : Int}, Fit cells n l → ∀ {i : Nat} {x : In}, l[i]? = some x → popA x.op ≤ n + hts (l.take i) ∧ n + hts (l.take (i + 1)) ≤ 24 ∧ ((x.op = 13 ∨ x.op = 14) → n + hts (l.take (i + 1)) = 0) ∧ cellOk cells x ∧ x.op ≠ 16
  | [], _, _, _, _, hx => by simp at hx
  | y :: l, n, h, 0, x, hx => by
    simp only [List.getElem?_cons_zero, Option.some.injEq] at hx
    subst hx
    rw [Fit] at h
    simp only [List.take_zero, hts_nil, Int.add_zero, List.take_succ_cons, hts_cons]
    exact h.1
  | y :: l, n, h, i + 1, x, hx => by
    simp only [List.getElem?_cons_succ] at hx
    rw [Fit] at h
    have := Fit.at h.2 hx
    simp only [List.take_succ_cons, hts_cons, ← Int.add_assoc]
    exact this
theorem sizeV_get {vs : List Va} {v : Int} {x : Va} (h : vs[v.toNat]? = some x) : sizeV vs v = x.size := by rw [sizeV, h]; rfl
theorem var_at {vs : List Va} (h1 : ∀ x ∈ vs, 1 ≤ x.size) {v : Int} (h : 0 ≤ v ∧ v < vs.length) : ∃ x, vs[v.toNat]? = some x ∧ sizeV vs v = x.size ∧ 0 ≤ cellOf vs v ∧ 1 ≤ sizeV vs v ∧ cellOf vs v + sizeV vs v ≤ sizes vs := by
  have hlt : v.toNat < vs.length := by omega
  have hx : vs[v.toNat]? = some vs[v.toNat] := List.getElem?_eq_getElem hlt
  have e := sizes_take vs v.toNat _ hx
  have a := (cells_le h1 (v.toNat)).1
  have b := (cells_le h1 (v.toNat + 1)).2
  have c := h1 _ (List.getElem_mem hlt)
  refine ⟨_, hx, sizeV_get hx, a, by rw [sizeV_get hx]; exact c, ?_⟩
  rw [sizeV_get hx, cellOf, ← e]; exact b
theorem opIn_ok {vs : List Va} (h1 : ∀ x ∈ vs, 1 ≤ x.size) {op v n : Int} (hop : 1 ≤ op ∧ op ≤ 8) (hv : op = 2 ∨ op = 3 → 0 ≤ v ∧ v < vs.length) : cellOk (sizes vs) (opIn vs op v n) := by
  refine ⟨fun h => ?_, fun h => ?_⟩
  · simp only [opIn] at h
    have h2 : op = 2 := by omega
    obtain ⟨x, -, -, c, d, e⟩ := var_at h1 (hv (.inl h2))
    simp only [opIn, h2, true_or, if_true]
    omega
  · simp only [opIn] at h
    have h2 : op = 3 := by omega
    obtain ⟨x, -, -, c, d, e⟩ := var_at h1 (hv (.inr h2))
    simp only [opIn, h2, or_true, if_true]
    exact ⟨c, d, e⟩
theorem popA_parts {op : Int} (h : 1 ≤ op ∧ op ≤ 8) : popA op = partsOf op := by
  rw [popA, partsOf]
  repeat' split
  all_goals omega
theorem popB_one {op : Int} (h : 1 ≤ op ∧ op ≤ 8) : popB op = 1 := if_pos h
theorem ex_op (vs : List Va) (op v n : Int) : (opIn vs op v n).op = op := rfl
theorem exs_fit {vs : List Va} (h1 : ∀ x ∈ vs, 1 ≤ x.size) : ∀ (l : List Ex), (∀ x ∈ l, ∀ n : Int, 0 ≤ n → n + exH x ≤ 24 → Fit (sizes vs) n (exCode vs x) ∧ hts (exCode vs x) = 1) → ∀ n : Int, 0 ≤ n → n + l.length + exsH l ≤ 25 → Fit (sizes vs) n (exsCode vs l) ∧ hts (exsCode vs l) = l.length
  | [], _, n, _, _ => ⟨trivial, rfl⟩
  | x :: l, h, n, h0, hn => by
    rw [exsH, List.length_cons] at hn
    obtain ⟨a, b⟩ := h x (by simp) n h0 (by omega)
    obtain ⟨c, d⟩ := exs_fit h1 l (fun y hy => h y (by simp [hy])) (n + 1) (by omega) (by omega)
    rw [exsCode]
    refine ⟨a.app (by rw [b]; exact c), ?_⟩
    rw [hts_app, b, d, List.length_cons]; omega
theorem ex_fit {vs : List Va} (h1 : ∀ x ∈ vs, 1 ≤ x.size) (x : Ex) : ExV vs.length x → ∀ n : Int, 0 ≤ n → n + exH x ≤ 24 → Fit (sizes vs) n (exCode vs x) ∧ hts (exCode vs x) = 1 := by
  refine Ex.ind (P := fun x => ExV vs.length x → ∀ n : Int, 0 ≤ n → n + exH x ≤ 24 → Fit (sizes vs) n (exCode vs x) ∧ hts (exCode vs x) = 1) ?_ x
  intro op v k l ih hx n h0 hn
  rw [ExV] at hx
  obtain ⟨hop, hl, hv, -, hs⟩ := hx
  rw [exH] at hn
  have hp : (l.length : Int) ≤ 2 := by rw [hl, partsOf]; repeat' split
                                       all_goals omega
  obtain ⟨a, b⟩ := exs_fit h1 l (fun y hy n h0 hn => ih y hy (hs.mem y hy) n h0 hn) n h0 (by omega)
  rw [exCode]
  have hd : dl (opIn vs op v k) = 1 - l.length := by rw [dl, ex_op, popB_one hop, popA_parts hop, hl]
  refine ⟨a.app ?_, ?_⟩
  · rw [b, Fit, ex_op, popA_parts hop, ← hl, hd]
    refine ⟨⟨by omega, by omega, fun h => by omega, opIn_ok h1 hop hv, by omega⟩, trivial⟩
  · rw [hts_app, b, hts_one, hd]; omega
def JIn (at_ : Nat) (L : List In) (x : In) : Prop := (x.op = 13 ∨ x.op = 14) → ∃ j : Nat, x.a = (at_ + j : Nat) ∧ j ≤ L.length ∧ hts (L.take j) = 0
theorem JIn.lift {at_ : Nat} {A L B : List In} {x : In} (h : JIn (at_ + A.length) L x) (hA : hts A = 0) : JIn at_ (A ++ L ++ B) x := fun ho => by
  obtain ⟨j, e, hj, hz⟩ := h ho
  refine ⟨A.length + j, by rw [e]; congr 1; omega, by simp only [List.length_append]; omega, ?_⟩
  rw [List.append_assoc, List.take_length_add_append, hts_app, hA, List.take_append_of_le_length hj, hz]; rfl
theorem JIn.none {at_ : Nat} {L : List In} {x : In} (h : x.op ≠ 13 ∧ x.op ≠ 14) : JIn at_ L x := fun ho => by omega
theorem exs_small {vs : List Va} : ∀ (l : List Ex), (∀ x ∈ l, ∀ y ∈ exCode vs x, 1 ≤ y.op ∧ y.op ≤ 8) → ∀ y ∈ exsCode vs l, 1 ≤ y.op ∧ y.op ≤ 8
  | [], _, y, hy => by simp [exsCode] at hy
  | x :: l, h, y, hy => by
    rw [exsCode, List.mem_append] at hy
    rcases hy with hy | hy
    · exact h x (by simp) y hy
    · exact exs_small l (fun z hz => h z (by simp [hz])) y hy
theorem ex_small {vs : List Va} {nv : Nat} (x : Ex) : ExV nv x → ∀ y ∈ exCode vs x, 1 ≤ y.op ∧ y.op ≤ 8 := by
  refine Ex.ind (P := fun x => ExV nv x → ∀ y ∈ exCode vs x, 1 ≤ y.op ∧ y.op ≤ 8) ?_ x
  intro op v k l ih hx y hy
  rw [ExV] at hx
  rw [exCode, List.mem_append, List.mem_singleton] at hy
  rcases hy with hy | rfl
  · exact exs_small l (fun z hz => ih z hz (hx.2.2.2.2.mem z hz)) y hy
  · exact hx.1
def Piece (cells : Int) (at_ : Nat) (L : List In) : Prop := Fit cells 0 L ∧ hts L = 0 ∧ ∀ x ∈ L, JIn at_ L x
theorem Piece.nil {cells : Int} {at_ : Nat} : Piece cells at_ [] := ⟨trivial, rfl, fun x h => by simp at h⟩
theorem Piece.app {cells : Int} {at_ : Nat} {L M : List In} (h : Piece cells at_ L) (g : Piece cells (at_ + L.length) M) : Piece cells at_ (L ++ M) := by
  refine ⟨h.1.app (by rw [h.2.1]; exact g.1), by rw [hts_app, h.2.1, g.2.1]; rfl, fun x hx => ?_⟩
  rcases List.mem_append.1 hx with hx | hx
  · have := JIn.lift (A := []) (B := M) (h.2.2 x hx) rfl
    simpa using this
  · have := JIn.lift (A := L) (B := []) (g.2.2 x hx) h.2.1
    simpa using this
theorem Piece.plain {cells : Int} {at_ : Nat} {L : List In} (h : Fit cells 0 L) (hz : hts L = 0) (hs : ∀ x ∈ L, x.op ≠ 13 ∧ x.op ≠ 14) : Piece cells at_ L := ⟨h, hz, fun x hx => JIn.none (hs x hx)⟩
theorem sts_piece {vs : List Va} {cells : Int} : ∀ (l : List St), (∀ x ∈ l, ∀ k, Piece cells k (stCode vs x k)) → ∀ k, Piece cells k (stsCode vs l k)
  | [], _, k => by rw [stsCode]; exact Piece.nil
  | x :: l, h, k => by rw [stsCode]; exact (h x (by simp) k).app (sts_piece l (fun y hy => h y (by simp [hy])) _)
theorem Fit.snoc {cells : Int} {L : List In} {x : In} {n m : Int} (h : Fit cells n L) (hm : n + hts L = m) (h1 : popA x.op ≤ m) (h2 : m + dl x ≤ 24) (h3 : (x.op = 13 ∨ x.op = 14) → m + dl x = 0) (h4 : cellOk cells x) (h5 : x.op ≠ 16) : Fit cells n (L ++ [x]) :=
  h.app (by rw [hm]; exact ⟨⟨h1, h2, h3, h4, h5⟩, trivial⟩)
theorem st_piece {vs : List Va} (h1 : ∀ x ∈ vs, 1 ≤ x.size) (x : St) : StV vs.length x → ∀ k, Piece (sizes vs) k (stCode vs x k) := by
  refine St.ind (P := fun x => StV vs.length x → ∀ k, Piece (sizes vs) k (stCode vs x k)) ?_ x
  intro op v e f body els ih jh hx k
  rw [StV] at hx
  obtain ⟨hop, hv, he, hf, hb, ho, hsb, hse⟩ := hx
  have hB := sts_piece (cells := sizes vs) body (fun y hy => ih y hy (hsb.mem y hy))
  have hE := sts_piece (cells := sizes vs) els (fun y hy => jh y hy (hse.mem y hy))
  have hex : ∀ {z : Ex} {n : Int}, ExV vs.length z ∧ exH z ≤ 12 → 0 ≤ n → n ≤ 12 → Fit (sizes vs) n (exCode vs z) ∧ hts (exCode vs z) = 1 := fun hz h0 hn => ex_fit h1 _ hz.1 _ h0 (by have := hz.2; omega)
  have hno : ∀ {z : Ex}, ExV vs.length z ∧ exH z ≤ 12 → ∀ y ∈ exCode vs z, y.op ≠ 13 ∧ y.op ≠ 14 := fun hz y hy => by have := ex_small _ hz.1 y hy; omega
  rw [stCode]
  have c0 : ∀ {o a b n : Int}, (o = 11 ∨ o = 13 ∨ o = 14 ∨ o = 15) → cellOk (sizes vs) ⟨o, a, b, n⟩ := fun h => ⟨fun g => by simp only at g; omega, fun g => by simp only at g; omega⟩
  by_cases g1 : op = 1
  · subst g1
    obtain ⟨a, b⟩ := hex (n := 0) (he rfl) (by decide) (by decide)
    obtain ⟨y, -, -, c, d, e'⟩ := var_at h1 (hv rfl)
    simp only [show needE 1 = true from rfl, if_true]
    refine Piece.plain (a.snoc (m := 1) (by rw [b]; rfl) (by simp [popA]) (by simp [dl, popA, popB]) (fun g => by simp at g) ⟨fun _ => ⟨c, by simp only; omega⟩, fun g => by simp at g⟩ (by simp)) (by rw [hts_app, b, hts_one]; rfl) fun y hy => ?_
    rcases List.mem_append.1 hy with hy | hy
    · exact hno (he rfl) y hy
    · rw [List.mem_singleton.1 hy]; constructor <;> simp
  by_cases g2 : op = 2
  · subst g2
    obtain ⟨a, b⟩ := hex (n := 0) (he rfl) (by decide) (by decide)
    obtain ⟨a', b'⟩ := hex (n := 1) (hf rfl) (by decide) (by decide)
    obtain ⟨y, -, -, c, d, e'⟩ := var_at h1 (hv rfl)
    simp only [show needE 2 = true from rfl, if_true, show ¬ (2 : Int) = 1 by decide, if_false]
    refine Piece.plain ((a.app (m := exCode vs f) (by rw [b]; exact a')).snoc (m := 2) (by rw [hts_app, b, b']; rfl) (by simp [popA]) (by simp [dl, popA, popB]) (fun g => by simp at g) ⟨fun g => by simp at g, fun _ => ⟨c, d, e'⟩⟩ (by simp)) (by rw [hts_app, hts_app, b, b', hts_one]; rfl) fun y hy => ?_
    rcases List.mem_append.1 hy with hy | hy
    · rcases List.mem_append.1 hy with hy | hy
      · exact hno (he rfl) y hy
      · exact hno (hf rfl) y hy
    · rw [List.mem_singleton.1 hy]; constructor <;> simp
  by_cases g3 : op = 3
  · subst g3
    obtain ⟨a, b⟩ := hex (n := 0) (he rfl) (by decide) (by decide)
    simp only [show needE 3 = true from rfl, if_true, show ¬ (3 : Int) = 1 by decide, show ¬ (3 : Int) = 2 by decide, if_false]
    refine Piece.plain (a.snoc (m := 1) (by rw [b]; rfl) (by simp [popA]) (by simp [dl, popA, popB]) (fun g => by simp at g) (c0 (by decide)) (by simp)) (by rw [hts_app, b, hts_one]; rfl) fun y hy => ?_
    rcases List.mem_append.1 hy with hy | hy
    · exact hno (he rfl) y hy
    · rw [List.mem_singleton.1 hy]; constructor <;> simp
  by_cases g4 : op = 4
  · subst g4
    obtain ⟨y, -, -, c, d, e'⟩ := var_at h1 (hv rfl)
    simp only [show needE 4 = false from rfl, if_true, show ¬ (4 : Int) = 1 by decide, show ¬ (4 : Int) = 2 by decide, show ¬ (4 : Int) = 3 by decide, if_false, Bool.false_eq_true]
    refine Piece.plain (Fit.snoc (L := []) (m := 0) trivial rfl (by simp [popA]) (by simp [dl, popA, popB]) (fun g => by simp at g) ⟨fun _ => ⟨c, by simp only; omega⟩, fun g => by simp at g⟩ (by simp)) rfl fun y hy => ?_
    rw [List.nil_append] at hy
    rw [List.mem_singleton.1 hy]; constructor <;> simp
  by_cases g7 : op = 7
  · subst g7
    simp only [show needE 7 = false from rfl, if_true, show ¬ (7 : Int) = 1 by decide, show ¬ (7 : Int) = 2 by decide, show ¬ (7 : Int) = 3 by decide, show ¬ (7 : Int) = 4 by decide, show ¬ (7 : Int) = 5 by decide, show ¬ (7 : Int) = 6 by decide, if_false, Bool.false_eq_true]
    refine Piece.plain (Fit.snoc (L := []) (m := 0) trivial rfl (by simp [popA]) (by simp [dl, popA, popB]) (fun g => by simp at g) (c0 (by decide)) (by simp)) rfl fun y hy => ?_
    rw [List.mem_singleton.1 hy]; constructor <;> simp
  simp only [g1, g2, g3, g4, g7, if_false]
  have h56 : op = 5 ∨ op = 6 := by omega
  have hne : needE op = true := by rcases h56 with rfl | rfl <;> rfl
  obtain ⟨a, b⟩ := hex (n := 0) (he hne) (by decide) (by decide)
  have hn0 := hno (he hne)
  rw [if_pos hne]
  -- the head: the condition, and the jump behind it
  have head : ∀ t : Int, Fit (sizes vs) 0 (exCode vs e ++ [⟨13, t, 0, 0⟩]) ∧ hts (exCode vs e ++ [⟨13, t, 0, 0⟩]) = 0 := fun t =>
    ⟨a.snoc (m := 1) (by rw [b]; rfl) (by simp [popA]) (by simp [dl, popA, popB]) (fun _ => by simp [dl, popA, popB]) (c0 (by decide)) (by simp), by rw [hts_app, b, hts_one]; rfl⟩
  have body_ := hB (k + (exCode vs e).length + 1)
  generalize hbe : stsCode vs body (k + (exCode vs e).length + 1) = Bc at body_ ⊢
  generalize hee : stsCode vs els (k + (exCode vs e).length + 1 + Bc.length + 1) = Ec
  have els_ := hE (k + (exCode vs e).length + 1 + Bc.length + 1)
  rw [hee] at els_
  clear hbe hee
  generalize exCode vs e = C at *
  by_cases g5 : op = 5
  · rw [if_pos g5]
    refine ⟨Fit.snoc (m := 0) ((head _).1.app (by rw [(head _).2]; exact body_.1)) (by rw [hts_app, (head _).2, body_.2.1]; rfl) (by simp [popA]) (by simp [dl, popA, popB]) (fun _ => by simp [dl, popA, popB]) (c0 (by decide)) (by simp), by rw [hts_app, hts_app, (head _).2, body_.2.1, hts_one]; rfl, ?_⟩
    intro y hy
    rcases List.mem_append.1 hy with hy | hy
    · rcases List.mem_append.1 hy with hy | hy
      · rcases List.mem_append.1 hy with hy | hy
        · exact JIn.none (hn0 y hy)
        · rw [List.mem_singleton.1 hy]
          refine fun _ => ⟨C.length + 1 + Bc.length + 1, by simp only; congr 1; omega, by simp only [List.length_append, List.length_singleton]; omega, ?_⟩
          rw [List.take_of_length_le (by simp only [List.length_append, List.length_singleton]; omega), hts_app, hts_app, (head _).2, body_.2.1, hts_one]; rfl
      · refine JIn.lift (by rw [List.length_append, List.length_singleton, ← Nat.add_assoc]; exact body_.2.2 y hy) (head _).2
    · rw [List.mem_singleton.1 hy]
      exact fun _ => ⟨0, rfl, Nat.zero_le _, rfl⟩
  rw [if_neg g5, if_pos (by omega)]
  have hmid : ∀ t u : Int, Fit (sizes vs) 0 (C ++ [⟨13, t, 0, 0⟩] ++ Bc ++ [⟨14, u, 0, 0⟩]) ∧ hts (C ++ [⟨13, t, 0, 0⟩] ++ Bc ++ [⟨14, u, 0, 0⟩]) = 0 := fun t u =>
    ⟨Fit.snoc (m := 0) ((head _).1.app (by rw [(head _).2]; exact body_.1)) (by rw [hts_app, (head _).2, body_.2.1]; rfl) (by simp [popA]) (by simp [dl, popA, popB]) (fun _ => by simp [dl, popA, popB]) (c0 (by decide)) (by simp), by rw [hts_app, hts_app, (head _).2, body_.2.1, hts_one]; rfl⟩
  refine ⟨(hmid _ _).1.app (by rw [(hmid _ _).2]; exact els_.1), by rw [hts_app, (hmid _ _).2, els_.2.1]; rfl, ?_⟩
  intro y hy
  rcases List.mem_append.1 hy with hy | hy
  · rcases List.mem_append.1 hy with hy | hy
    · rcases List.mem_append.1 hy with hy | hy
      · rcases List.mem_append.1 hy with hy | hy
        · exact JIn.none (hn0 y hy)
        · rw [List.mem_singleton.1 hy]
          refine fun _ => ⟨C.length + 1 + Bc.length + 1, by simp only; congr 1; omega, by simp only [List.length_append, List.length_singleton]; omega, ?_⟩
          rw [List.take_append_of_le_length (by simp only [List.length_append, List.length_singleton]; omega), List.take_of_length_le (by simp only [List.length_append, List.length_singleton]; omega), (hmid _ _).2]
      · rw [List.append_assoc]
        refine JIn.lift (by rw [List.length_append, List.length_singleton, ← Nat.add_assoc]; exact body_.2.2 y hy) (head _).2
    · rw [List.mem_singleton.1 hy]
      refine fun _ => ⟨C.length + 1 + Bc.length + 1 + Ec.length, by simp only; congr 1; omega, by simp only [List.length_append, List.length_singleton]; omega, ?_⟩
      rw [List.take_of_length_le (by simp only [List.length_append, List.length_singleton]; omega), hts_app, (hmid _ _).2, els_.2.1]; rfl
  · have := JIn.lift (B := []) (at_ := k) (A := C ++ [⟨13, (k + C.length + 1 + Bc.length + 1 : Nat), 0, 0⟩] ++ Bc ++ [⟨14, (k + C.length + 1 + Bc.length + 1 + Ec.length : Nat), 0, 0⟩]) (L := Ec) (x := y) (by rw [show k + (C ++ [⟨13, (k + C.length + 1 + Bc.length + 1 : Nat), 0, 0⟩] ++ Bc ++ [⟨14, (k + C.length + 1 + Bc.length + 1 + Ec.length : Nat), 0, 0⟩] : List In).length = k + C.length + 1 + Bc.length + 1 by simp only [List.length_append, List.length_singleton]; omega]; exact els_.2.2 y hy) (hmid _ _).2
    rwa [List.append_nil] at this
theorem code_fits {p : Pr} (h : checkP p = 0) : Piece (sizes p.vars) 0 (stsCode p.vars p.body 0) := by
  obtain ⟨a, -, c, -⟩ := check_valid h
  exact sts_piece _ (fun x hx => st_piece c x (a.mem x hx)) 0
end Go.Proofs.Ytmnmcjdgnpgchaa

namespace Go.Proofs.Ytmnmcjdgnpgchaa
open Go X
def wrap_ (n : Int) : Int := IntKind.i64.wrap n
def binV (op a b : Int) : Int := if op = 4 then wrap_ (a + b) else if op = 5 then wrap_ (a - b) else if op = 6 then wrap_ (a * b) else if op = 7 then (if a < b then 1 else 0) else if a = b then 1 else 0
structure RS where
  cells : List Int
  inp : List Int
  out : List Int
  left : Nat
abbrev RR := Except (Int × RS) RS
def oneS (s : RS) : RR := if s.left = 0 then .error (13, s) else .ok { s with left := s.left - 1 }
def readS (vs : List Va) (v : Int) (s : RS) : RR := match oneS s with
  | .error e => .error e
  | .ok s1 => match s1.inp with
    | [] => .error (12, s1)
    | x :: r => .ok { s1 with cells := s1.cells.set (cellOf vs v).toNat x, inp := r }
structure Mi where
  next : Nat
  stack : List Int
  rd : Nat
  outn : Nat
  st : Int
  cells : List Int
structure Be where
  m : Mi
  kept : Mi
  out : List Int
  wrong : Bool
def doIn (inp : List Int) (keep : Bool) (x : In) (b : Be) : Be :=
  let m := b.m
  if x.op = 1 then { b with m := { m with stack := x.n :: m.stack } }
  else if x.op = 2 then { b with m := { m with stack := m.cells.getD x.a.toNat 0 :: m.stack } }
  else if x.op = 3 then match m.stack with
    | [] => b
    | k :: s => if k < 0 ∨ x.b ≤ k then { b with m := { m with stack := s, st := 13 } } else { b with m := { m with stack := m.cells.getD (x.a + k).toNat 0 :: s } }
  else if 4 ≤ x.op ∧ x.op ≤ 8 then match m.stack with
    | y :: z :: s => { b with m := { m with stack := binV x.op z y :: s } }
    | _ => b
  else if x.op = 9 then match m.stack with
    | [] => b
    | n :: s => { b with m := { m with stack := s, cells := m.cells.set x.a.toNat n } }
  else if x.op = 10 then match m.stack with
    | n :: k :: s => if k < 0 ∨ x.b ≤ k then { b with m := { m with stack := s, st := 13 } } else { b with m := { m with stack := s, cells := m.cells.set (x.a + k).toNat n } }
    | _ => b
  else if x.op = 11 then match m.stack with
    | [] => b
    | n :: s =>
      if m.outn = b.out.length then { b with m := { m with stack := s, outn := m.outn + 1 }, out := b.out ++ [n] }
      else { b with m := { m with stack := s, outn := m.outn + 1 }, wrong := b.wrong || decide (b.out.getD m.outn 0 ≠ n) }
  else if x.op = 12 then (if inp.length ≤ m.rd then { b with m := { m with st := 14 } } else { b with m := { m with cells := m.cells.set x.a.toNat (inp.getD m.rd 0), rd := m.rd + 1 } })
  else if x.op = 13 then match m.stack with
    | [] => b
    | n :: s => if n = 0 then { b with m := { m with stack := s, next := x.a.toNat } } else { b with m := { m with stack := s } }
  else if x.op = 14 then { b with m := { m with next := x.a.toNat } }
  else if x.op = 15 then (if keep then { b with kept := m } else b)
  else if x.op = 16 then { b with m := { m with st := 1 } }
  else b
def bump (b : Be) : Be := { b with m := { b.m with next := b.m.next + 1 } }
def stepB (code : List In) (inp : List Int) (keep : Bool) (b : Be) : Be := match code[b.m.next]? with
  | none => b
  | some x => doIn inp keep x (bump b)
def runM (code : List In) (inp : List Int) : Nat → Be → Be × Nat
  | 0, b => (b, 0)
  | f + 1, b => if b.m.st ≠ 0 then (b, 0) else ((runM code inp f (stepB code inp false b)).1, (runM code inp f (stepB code inp false b)).2 + 1)
end Go.Proofs.Ytmnmcjdgnpgchaa

namespace Go.Proofs.Ytmnmcjdgnpgchaa
open Go X
set_option maxHeartbeats 1000000
theorem parts_a (σ : PH) (op : Int) : CallsA Try.prog 111 #[i64 op] σ [] (RetA fun v σ' Γ' => v = i64 (partsOf op) ∧ σ = σ' ∧ Γ' = []) := by
  by_cases h0 : op < 1
  · 
    refine enterA1 Try.func111 rfl rfl rfl ?_
    refine zS ?_; refine zR ?_; refine zO rfl Rd.asg ?_; refine zN ?_; refine zT ?_; refine zS ?_; refine zS ?_; refine zR ?_; refine zO rfl Rd.mv ?_; refine zO rfl (Rd.lss rfl rfl) ?_; refine zO rfl Rd.mv ?_
    first | ((first | refine zW ?_ | refine zQ ?_); refine zO rfl Rd.mv ?_) | refine zU ?_ | refine zV ?_ | refine zZ ?_
    first | ((first | refine zW ?_ | refine zQ ?_); refine zO rfl (Rd.gtr rfl rfl) ?_) | refine zU ?_ | refine zV ?_ | refine zZ ?_
    refine zO rfl (by first | exact Rd.pT rfl | exact Rd.pF rfl | exact Rd.pP rfl) ?_
    refine zN ?_; refine zT ?_
    refine XA.condT rfl rfl ?_
    refine zS ?_; refine zR ?_; refine zO rfl Rd.asg ?_; refine zN ?_; refine zT ?_
    refine XA.ret ?_
    refine DA.thn_ret ?_
    refine bodyA.ret (ResA.one rfl rfl) (Ent.refl _) ⟨?_, rfl, rfl⟩
    rw [partsOf, if_neg (by omega), if_neg (by omega), if_neg (by omega)]
  · 
    refine enterA1 Try.func111 rfl rfl rfl ?_
    refine zS ?_; refine zR ?_; refine zO rfl Rd.asg ?_; refine zN ?_; refine zT ?_; refine zS ?_; refine zS ?_; refine zR ?_; refine zO rfl Rd.mv ?_; refine zO rfl (Rd.lss rfl rfl) ?_; refine zO rfl Rd.mv ?_
    first | ((first | refine zW ?_ | refine zQ ?_); refine zO rfl Rd.mv ?_) | refine zU ?_ | refine zV ?_ | refine zZ ?_
    first | ((first | refine zW ?_ | refine zQ ?_); refine zO rfl (Rd.gtr rfl rfl) ?_) | refine zU ?_ | refine zV ?_ | refine zZ ?_
    refine zO rfl (by first | exact Rd.pT rfl | exact Rd.pF rfl | exact Rd.pP rfl) ?_
    refine zN ?_; refine zT ?_
    refine XA.condp rfl (fun h1 => ?_) (fun h1 => ?_)
    · refine zS ?_
      refine zR ?_; refine zO rfl Rd.asg ?_; refine zN ?_; refine zT ?_
      refine XA.ret ?_
      refine DA.thn_ret ?_
      refine bodyA.ret (ResA.one rfl rfl) (Ent.refl _) ⟨?_, rfl, rfl⟩
      rw [partsOf, if_neg (by omega), if_neg (by omega), if_neg (by omega)]
    have hop : op = 1 ∨ op = 2 ∨ op = 3 ∨ op = 4 ∨ op = 5 ∨ op = 6 ∨ op = 7 ∨ op = 8 := by omega
    have hel : (List.toArray [i64 0, i64 0, i64 0, i64 1, i64 2, i64 2, i64 2, i64 2, i64 2])[op.toNat]? = some (i64 (partsOf op)) := by
      rcases hop with rfl | rfl | rfl | rfl | rfl | rfl | rfl | rfl <;> rfl
    refine XA.skip ?_
    refine zT ?_; refine zS ?_; refine zR ?_
    refine zO rfl (Rd.buildA (cs := [i64 0, i64 0, i64 0, i64 1, i64 2, i64 2, i64 2, i64 2, i64 2]) (fun _ _ => tyrow) rfl rfl rfl rfl (by kernel_rfl)) ?_
    refine zO rfl Rd.mv ?_
    refine zO rfl (by apply Rd.indexAgg; exact tyrow rfl; rfl; exact tyrow rfl; rfl; rfl; rfl; rfl; exact (by omega); exact hel) ?_
    refine zO rfl Rd.asg ?_; refine zN ?_; refine zT ?_
    refine XA.ret ?_
    exact bodyA.ret (ResA.one rfl rfl) (Ent.refl _) ⟨rfl, rfl, rfl⟩
theorem name_a (σ : PH) (s : ByteArray) (hs : s.size ≤ maxLen) : CallsA Try.prog 85 #[.string s] σ [] (RetA fun v σ' Γ' => v = .bool (nameOk s) ∧ σ = σ' ∧ Γ' = []) := by
  simp only [maxLen] at hs
  refine enterA1 Try.func85 rfl rfl rfl ?_
  refine zS ?_; refine zR ?_; refine zO rfl Rd.asg ?_; refine zN ?_; refine zT ?_; refine zS ?_; refine zS ?_; refine zR ?_; refine zO rfl Rd.mv ?_
  refine zO rfl (Rd.lenString (tyrow rfl) rfl rfl) ?_
  refine zO rfl Rd.mv ?_; refine zN ?_; refine zT ?_
  refine XA.block ?_
  refine XA.gen [(0, _), (2, _), (5, _), (6, _)] ⟨(by with_reducible (conv => lhs; whnf)), (by with_reducible (conv => lhs; whnf)), (by with_reducible (conv => lhs; whnf)), (by with_reducible (conv => lhs; whnf)), trivial⟩ (fun δ => ?_)
  dsimp only [List.foldl]
  refine XA.loop [(2, 3), (6, 19)] (fun k : Nat => [(6, i64 k)]) (fun k σ' Γ' => σ = σ' ∧ k ≤ s.size ∧ (∀ i, i < k → 97 ≤ byteAt s i ∧ byteAt s i ≤ 122) ∧ Γ' = []) (fun k => s.size - k) 0 (by exact ⟨rfl, trivial⟩) (Δ0 := _) ?_ (⟨rfl, Nat.zero_le _, by intro i hi; omega, rfl⟩) ?_
  · exact zE
  rintro k δ _ _ ⟨rfl, hk, hall, rfl⟩
  dsimp only [ovr, List.foldl]
  refine zS ?_; refine zR ?_; refine zO rfl (Rd.lss rfl rfl) ?_; refine zN ?_; refine zT ?_; refine zS ?_
  refine XA.condp rfl (fun hlt => ?_) (fun hlt => ?_)
  · have hlt : k < s.size := by omega
    have hb := byteAt_lt s k
    by_cases h1 : byteAt s k < 97
    · 
      refine XA.skip ?_
      refine zT ?_; refine zS ?_
      refine XA.block ?_
      refine zS ?_; refine zR ?_; refine zO rfl Rd.mv ?_; refine zO rfl Rd.asg ?_; refine zN ?_; refine zT ?_; refine zS ?_; refine zR ?_; refine zO rfl Rd.mv ?_; refine zO rfl Rd.mv ?_
      refine zO rfl (Rd.indexStr (tyrow rfl) rfl rfl rfl (by first | omega | decide | (simp; omega))) ?_
      refine zO rfl (Rd.lss rfl rfl) ?_; refine zO rfl Rd.mv ?_
      first | ((first | refine zW ?_ | refine zQ ?_); refine zO rfl Rd.mv ?_) | refine zU ?_ | refine zV ?_ | refine zZ ?_
      first | ((first | refine zW ?_ | refine zQ ?_); refine zO rfl Rd.mv ?_) | refine zU ?_ | refine zV ?_ | refine zZ ?_
      first | ((first | refine zW ?_ | refine zQ ?_); refine zO rfl (Rd.indexStr (tyrow rfl) rfl rfl rfl (by first | omega | decide | (simp; omega))) ?_) | refine zU ?_ | refine zV ?_ | refine zZ ?_
      first | ((first | refine zW ?_ | refine zQ ?_); refine zO rfl (Rd.gtr rfl rfl) ?_) | refine zU ?_ | refine zV ?_ | refine zZ ?_
      refine zO rfl (by first | exact Rd.pT rfl | exact Rd.pF rfl | exact Rd.pP rfl) ?_
      refine zN ?_; refine zT ?_
      refine XA.condT rfl rfl ?_
      refine zS ?_; refine zR ?_; refine zO rfl Rd.asg ?_; refine zN ?_; refine zT ?_
      refine XA.ret ?_
      refine DA.inb_ret ?_
      refine DA.thn_ret ?_
      refine DA.thn_ret ?_
      refine DA.inb_ret ?_
      refine DA.thn_ret ?_
      refine bodyA.ret (ResA.one rfl rfl) (Ent.refl _) ⟨?_, rfl, rfl⟩
      have : nameOk s = false := decide_eq_false (fun h => by have := h.1 k hlt; omega)
      rw [this]
    · 
      refine XA.skip ?_
      refine zT ?_; refine zS ?_
      refine XA.block ?_
      refine zS ?_; refine zR ?_; refine zO rfl Rd.mv ?_; refine zO rfl Rd.asg ?_; refine zN ?_; refine zT ?_; refine zS ?_; refine zR ?_; refine zO rfl Rd.mv ?_; refine zO rfl Rd.mv ?_
      refine zO rfl (Rd.indexStr (tyrow rfl) rfl rfl rfl (by first | omega | decide | (simp; omega))) ?_
      refine zO rfl (Rd.lss rfl rfl) ?_; refine zO rfl Rd.mv ?_
      first | ((first | refine zW ?_ | refine zQ ?_); refine zO rfl Rd.mv ?_) | refine zU ?_ | refine zV ?_ | refine zZ ?_
      first | ((first | refine zW ?_ | refine zQ ?_); refine zO rfl Rd.mv ?_) | refine zU ?_ | refine zV ?_ | refine zZ ?_
      first | ((first | refine zW ?_ | refine zQ ?_); refine zO rfl (Rd.indexStr (tyrow rfl) rfl rfl rfl (by first | omega | decide | (simp; omega))) ?_) | refine zU ?_ | refine zV ?_ | refine zZ ?_
      first | ((first | refine zW ?_ | refine zQ ?_); refine zO rfl (Rd.gtr rfl rfl) ?_) | refine zU ?_ | refine zV ?_ | refine zZ ?_
      refine zO rfl (by first | exact Rd.pT rfl | exact Rd.pF rfl | exact Rd.pP rfl) ?_
      refine zN ?_; refine zT ?_
      refine XA.condp rfl (fun h2 => ?_) (fun h2 => ?_)
      · refine zS ?_
        refine zR ?_; refine zO rfl Rd.asg ?_; refine zN ?_; refine zT ?_
        refine XA.ret ?_
        refine DA.inb_ret ?_
        refine DA.thn_ret ?_
        refine DA.thn_ret ?_
        refine DA.inb_ret ?_
        refine DA.thn_ret ?_
        refine bodyA.ret (ResA.one rfl rfl) (Ent.refl _) ⟨?_, rfl, rfl⟩
        have : nameOk s = false := decide_eq_false (fun h => by have := h.1 k hlt; omega)
        rw [this]
      have hnew : ∀ i, i < k + 1 → 97 ≤ byteAt s i ∧ byteAt s i ≤ 122 := fun i hi => by
        rcases Nat.lt_or_ge i k with h | h
        · exact hall i h
        · have : i = k := by omega
          subst this; omega
      refine XA.skip ?_
      refine DA.inb_normal ?_
      refine zT ?_; refine zR ?_
      refine zO rfl (by first | exact Rd.adi rfl rfl | exact Rd.add rfl rfl) ?_
      refine zO rfl Rd.mv ?_; refine zN ?_; refine zT ?_
      refine ⟨(Keep.upd (Keep.upd (Keep.upd (Keep.upd (Keep.upd (Keep.upd (Keep.upd (Keep.upd (Keep.upd (Keep.upd (Keep.upd (Keep.upd (Keep.upd (Keep.upd (Keep.upd (Keep.upd (Keep.hav (Keep.hav (Keep.refl _ _) rfl) rfl) rfl) rfl) rfl) rfl) rfl) rfl) rfl) rfl) rfl) rfl) rfl) rfl) rfl) rfl) rfl) rfl), k + 1, _, (by (repeat (first | exact trivial | refine ⟨rfl, ?_⟩ | refine ⟨Eq.trans rfl (congrArg Value.bool hmat.symm), ?_⟩)); (first | done | fail)), ?_, ⟨rfl, hlt, hnew, rfl⟩, (by omega)⟩
      · exact zE
  have hkn : k = s.size := by omega
  subst hkn
  by_cases h0 : s.size = 0
  · have hz : s = ⟨#[]⟩ := ByteArray.ext (Array.eq_empty_of_size_eq_zero h0)
    subst hz
    refine XA.exit ?_
    refine DA.thn_exit ?_
    refine DA.thn_exit ?_
    refine DA.inb_same ?_
    refine zT ?_; refine zS ?_; refine zR ?_; refine zO rfl Rd.mv ?_
    refine zO rfl (Rd.neqs rfl rfl) ?_
    refine zO rfl Rd.mv ?_
    first | ((first | refine zW ?_ | refine zQ ?_); refine zO rfl Rd.mv ?_) | refine zU ?_ | refine zV ?_ | refine zZ ?_
    first | ((first | refine zW ?_ | refine zQ ?_); refine zO rfl (Rd.lenString (tyrow rfl) rfl rfl) ?_) | refine zU ?_ | refine zV ?_ | refine zZ ?_
    first | ((first | refine zW ?_ | refine zQ ?_); refine zO rfl (Rd.leq rfl rfl) ?_) | refine zU ?_ | refine zV ?_ | refine zZ ?_
    refine zO rfl (by first | exact Rd.pT rfl | exact Rd.pF rfl | exact Rd.pP rfl) ?_
    refine zO rfl Rd.asg ?_; refine zN ?_; refine zT ?_
    refine XA.ret ?_
    exact bodyA.ret (ResA.one rfl rfl) (Ent.refl _) ⟨rfl, rfl, rfl⟩
  · have hz : s ≠ ⟨#[]⟩ := fun e => h0 (by rw [e]; rfl)
    refine XA.exit ?_
    refine DA.thn_exit ?_
    refine DA.thn_exit ?_
    refine DA.inb_same ?_
    refine zT ?_; refine zS ?_; refine zR ?_; refine zO rfl Rd.mv ?_
    refine zO rfl (Rd.neqs rfl rfl) ?_
    refine zO rfl Rd.mv ?_
    first | ((first | refine zW ?_ | refine zQ ?_); refine zO rfl Rd.mv ?_) | refine zU ?_ | refine zV ?_ | refine zZ ?_
    first | ((first | refine zW ?_ | refine zQ ?_); refine zO rfl (Rd.lenString (tyrow rfl) rfl rfl) ?_) | refine zU ?_ | refine zV ?_ | refine zZ ?_
    first | ((first | refine zW ?_ | refine zQ ?_); refine zO rfl (Rd.leq rfl rfl) ?_) | refine zU ?_ | refine zV ?_ | refine zZ ?_
    refine zO rfl (by first | exact Rd.pT rfl | exact Rd.pF rfl | exact Rd.pP rfl) ?_
    refine zO rfl Rd.asg ?_; refine zN ?_; refine zT ?_
    refine XA.ret ?_
    refine bodyA.ret (ResA.one rfl rfl) (Ent.refl _) ⟨?_, rfl, rfl⟩
    have : nameOk s = decide ((s.size : Int) ≤ 8) := by
      unfold nameOk
      rw [decide_eq_decide]
      constructor
      · intro h; omega
      · intro h; exact ⟨hall, by omega, by omega⟩
    rw [this]
end Go.Proofs.Ytmnmcjdgnpgchaa

namespace Go.Proofs.Ytmnmcjdgnpgchaa
open Go X
set_option maxHeartbeats 1000000
def Judge (b : Nat) (vs : Value) (e : JE) : HP := fun m => ∃ l c, blk b [vs, i64 l, i64 c] 142 m ∧ match e with | .ok l' => l = l' ∧ c = 0 | .error d => c = d ∧ c ≠ 0
theorem sat1 {R : HP} {m : PH} (h : R m) : Sat [R] m := ⟨m, PH.none, h, trivial, PH.none_dis m, .refl m, PH.none_sub m⟩
theorem of_sat1 {R : HP} {m : PH} (mono : ∀ m m', R m → m.sub m' → R m') (h : Sat [R] m) : R m := by
  obtain ⟨m1, m2, a, -, -, b, -⟩ := h
  exact mono _ _ a b
theorem blk_mono {g : Nat} {l : List Value} {T : TypeId} : ∀ m m', blk g l T m → PH.sub m m' → blk g l T m' := fun _ _ h s => s _ _ h
theorem Judge.okO {b : Nat} {vs : Value} {l : Int} : ∀ m, Judge b vs (.ok l) m → ∃ _ : Unit, True ∧ Sat [blk b [vs, i64 l, i64 0] 142] m := by
  rintro m ⟨l', c, h, rfl, rfl⟩; exact ⟨(), trivial, sat1 h⟩
theorem Judge.errO {b : Nat} {vs : Value} {c : Int} : ∀ m, Judge b vs (.error c) m → ∃ l : Int, c ≠ 0 ∧ Sat [blk b [vs, i64 l, i64 c] 142] m := by
  rintro m ⟨l', c', h, rfl, h0⟩; exact ⟨l', h0, sat1 h⟩
theorem Judge.mkO {b : Nat} {vs : Value} {l : Int} : ∀ m, Sat [blk b [vs, i64 l, i64 0] 142] m → Judge b vs (.ok l) m := fun m h => ⟨l, 0, of_sat1 blk_mono h, rfl, rfl⟩
theorem Judge.mkE {b : Nat} {vs : Value} {l c : Int} (h0 : c ≠ 0) : ∀ m, Sat [blk b [vs, i64 l, i64 c] 142] m → Judge b vs (.error c) m := fun m h => ⟨l, c, of_sat1 blk_mono h, rfl, h0⟩
theorem fail_a (σ : PH) (b : Nat) (vs : Value) (e : JE) (is : Bool) (c : Int) (hc : c ≠ 0) :
    CallsA Try.prog 97 #[ptr b, .bool is, i64 c] σ [Judge b vs e] (RetA fun v σ' Γ' => v = .tuple #[] ∧ σ = σ' ∧ Γ' = [Judge b vs (e.fail is c)]) := by
  cases is with
  | false =>
    refine enterA3 Try.func97 rfl rfl rfl ?_
    refine zS ?_; refine zR ?_; refine zO rfl Rd.mv ?_; refine zO rfl Rd.mv ?_
    first | ((first | refine zW ?_ | refine zQ ?_); refine zO rfl Rd.mv ?_) | refine zU ?_ | refine zV ?_ | refine zZ ?_
    first | ((first | refine zW ?_ | refine zQ ?_); refine zO rfl (Rd.nilCheck rfl) ?_) | refine zU ?_ | refine zV ?_ | refine zZ ?_
    first | ((first | refine zW ?_ | refine zQ ?_); refine zO rfl (Rd.fA rfl) ?_) | refine zU ?_ | refine zV ?_ | refine zZ ?_
    first | ((first | refine zW ?_ | refine zQ ?_); refine zO rfl (Rd.ldC rfl (tyrow rfl) rfl) ?_) | refine zU ?_ | refine zV ?_ | refine zZ ?_
    first | ((first | refine zW ?_ | refine zQ ?_); refine zO rfl (Rd.eql rfl rfl) ?_) | refine zU ?_ | refine zV ?_ | refine zZ ?_
    refine zO rfl (by first | exact Rd.pT rfl | exact Rd.pF rfl | exact Rd.pP rfl) ?_
    refine zN ?_; refine zT ?_
    refine XA.condF rfl rfl ?_
    refine XA.skip ?_
    exact bodyA.normal (ResA.none rfl) (Ent.refl _) ⟨rfl, rfl, by rw [fail_false]⟩
  | true =>
    cases e with
    | ok l =>
      refine enterA3 Try.func97 rfl rfl rfl ?_
      refine zS ?_; refine zR ?_; refine zO rfl Rd.mv ?_; refine zO rfl Rd.mv ?_
      first | ((first | refine zW ?_ | refine zQ ?_); refine zO rfl Rd.mv ?_) | refine zU ?_ | refine zV ?_ | refine zZ ?_
      first | refine XA.opn (R := Judge b vs (.ok l)) (by ((repeat (first | with_reducible exact Sel.head | apply Sel.tail)); (first | done | fail))) (Judge.okO) ?_ | refine XOA.opn (R := Judge b vs (.ok l)) (by ((repeat (first | with_reducible exact Sel.head | apply Sel.tail)); (first | done | fail))) (Judge.okO) ?_ | refine DA.opn (R := Judge b vs (.ok l)) (by ((repeat (first | with_reducible exact Sel.head | apply Sel.tail)); (first | done | fail))) (Judge.okO) ?_
      rintro ⟨⟩ -
      first | refine XA.cl ?_ | refine XOA.cl ?_ | refine DA.cl ?_
      first | ((first | refine zW ?_ | refine zQ ?_); refine zO rfl (Rd.nilCheck rfl) ?_) | refine zU ?_ | refine zV ?_ | refine zZ ?_
      first | ((first | refine zW ?_ | refine zQ ?_); refine zO rfl (Rd.fA rfl) ?_) | refine zU ?_ | refine zV ?_ | refine zZ ?_
      first | ((first | refine zW ?_ | refine zQ ?_); refine zO rfl (Rd.ldC rfl (tyrow rfl) rfl) ?_) | refine zU ?_ | refine zV ?_ | refine zZ ?_
      first | ((first | refine zW ?_ | refine zQ ?_); refine zO rfl (Rd.eql rfl rfl) ?_) | refine zU ?_ | refine zV ?_ | refine zZ ?_
      refine zO rfl (by first | exact Rd.pT rfl | exact Rd.pF rfl | exact Rd.pP rfl) ?_
      refine zN ?_; refine zT ?_
      refine XA.condT rfl rfl ?_
      refine zR ?_; refine zO rfl Rd.mv ?_; refine zO rfl Rd.mv ?_; refine zO rfl (Rd.nilCheck rfl) ?_; refine zO rfl (Rd.fA rfl) ?_
      refine zw rfl (WrA.st (tyrow rfl) rfl) ?_
      rintro _ _ _ ⟨rfl, rfl, rfl⟩
      refine zN ?_
      exact bodyA.normal (ResA.none rfl) (Ent.fold1 zE (Judge.mkE hc)) ⟨rfl, rfl, rfl⟩
    | error d =>
      refine enterA3 Try.func97 rfl rfl rfl ?_
      refine zS ?_; refine zR ?_; refine zO rfl Rd.mv ?_; refine zO rfl Rd.mv ?_
      first | ((first | refine zW ?_ | refine zQ ?_); refine zO rfl Rd.mv ?_) | refine zU ?_ | refine zV ?_ | refine zZ ?_
      first | refine XA.opn (R := Judge b vs (.error d)) (by ((repeat (first | with_reducible exact Sel.head | apply Sel.tail)); (first | done | fail))) (Judge.errO) ?_ | refine XOA.opn (R := Judge b vs (.error d)) (by ((repeat (first | with_reducible exact Sel.head | apply Sel.tail)); (first | done | fail))) (Judge.errO) ?_ | refine DA.opn (R := Judge b vs (.error d)) (by ((repeat (first | with_reducible exact Sel.head | apply Sel.tail)); (first | done | fail))) (Judge.errO) ?_
      rintro l h0
      first | refine XA.cl ?_ | refine XOA.cl ?_ | refine DA.cl ?_
      first | ((first | refine zW ?_ | refine zQ ?_); refine zO rfl (Rd.nilCheck rfl) ?_) | refine zU ?_ | refine zV ?_ | refine zZ ?_
      first | ((first | refine zW ?_ | refine zQ ?_); refine zO rfl (Rd.fA rfl) ?_) | refine zU ?_ | refine zV ?_ | refine zZ ?_
      first | ((first | refine zW ?_ | refine zQ ?_); refine zO rfl (Rd.ldC rfl (tyrow rfl) rfl) ?_) | refine zU ?_ | refine zV ?_ | refine zZ ?_
      first | ((first | refine zW ?_ | refine zQ ?_); refine zO rfl (Rd.eql rfl rfl) ?_) | refine zU ?_ | refine zV ?_ | refine zZ ?_
      refine zO rfl (by first | exact Rd.pT rfl | exact Rd.pF rfl | exact Rd.pP rfl) ?_
      refine zN ?_; refine zT ?_
      refine XA.condF rfl (decide_eq_false h0) ?_
      refine XA.skip ?_
      exact bodyA.normal (ResA.none rfl) (Ent.fold1 zE (Judge.mkE h0)) ⟨rfl, rfl, rfl⟩
theorem fail_okT (l c : Int) : JE.fail (.ok l) true c = .error c := rfl
def JE.isOk : JE → Bool | .ok _ => true | .error _ => false
def JE.in_ (e : JE) : Prop := ∀ l, e = .ok l → 0 ≤ l ∧ l ≤ 150
theorem one_a (σ : PH) (b : Nat) (vs : Value) (e : JE) (deep : Int) (hl : e.in_) :
    CallsA Try.prog 96 #[ptr b, i64 deep] σ [Judge b vs e] (RetA fun v σ' Γ' => v = .bool (e.one deep).isOk ∧ σ = σ' ∧ Γ' = [Judge b vs (e.one deep)]) := by
  refine enterA2 Try.func96 rfl rfl rfl ?_
  refine zS ?_; refine zR ?_; refine zO rfl Rd.asg ?_; refine zN ?_; refine zT ?_; refine zS ?_; refine zR ?_; refine zO rfl Rd.mv ?_; refine zO rfl Rd.mv ?_
  refine zO rfl (Rd.gtr rfl rfl) ?_
  refine zw rfl (WrA.cE (fail_a σ b vs e (decide (12 < deep)) 4 (by decide)) rfl) ?_
  rintro _ _ _ ⟨_, ⟨rfl, rfl, rfl⟩, rfl⟩
  refine XOA.cl ?_
  cases e with
  | error c =>
    rw [fail_err]
    refine zN ?_; refine zT ?_; refine zS ?_; refine zR ?_; refine zO rfl Rd.mv ?_; refine zO rfl Rd.mv ?_
    first | refine XA.opn (R := Judge b vs (.error c)) (by ((repeat (first | with_reducible exact Sel.head | apply Sel.tail)); (first | done | fail))) (Judge.errO) ?_ | refine XOA.opn (R := Judge b vs (.error c)) (by ((repeat (first | with_reducible exact Sel.head | apply Sel.tail)); (first | done | fail))) (Judge.errO) ?_ | refine DA.opn (R := Judge b vs (.error c)) (by ((repeat (first | with_reducible exact Sel.head | apply Sel.tail)); (first | done | fail))) (Judge.errO) ?_
    rintro l h0
    first | refine XA.cl ?_ | refine XOA.cl ?_ | refine DA.cl ?_
    refine zO rfl (Rd.nilCheck rfl) ?_; refine zO rfl (Rd.fA rfl) ?_; refine zO rfl (Rd.ldC rfl (tyrow rfl) rfl) ?_; refine zO rfl (Rd.eql rfl rfl) ?_
    refine XOA.ent (Δ := [Judge b vs (.error c)]) (Ent.fold1 zE (Judge.mkE h0)) ?_
    refine zw rfl (WrA.cE (fail_a σ b vs (.error c) (decide (l = 0)) 3 (by decide)) rfl) ?_
    rintro _ _ _ ⟨_, ⟨rfl, rfl, rfl⟩, rfl⟩
    refine XOA.cl ?_
    rw [fail_err]
    refine zN ?_; refine zT ?_; refine zS ?_; refine zR ?_; refine zO rfl Rd.mv ?_
    first | refine XA.opn (R := Judge b vs (.error c)) (by ((repeat (first | with_reducible exact Sel.head | apply Sel.tail)); (first | done | fail))) (Judge.errO) ?_ | refine XOA.opn (R := Judge b vs (.error c)) (by ((repeat (first | with_reducible exact Sel.head | apply Sel.tail)); (first | done | fail))) (Judge.errO) ?_ | refine DA.opn (R := Judge b vs (.error c)) (by ((repeat (first | with_reducible exact Sel.head | apply Sel.tail)); (first | done | fail))) (Judge.errO) ?_
    rintro l2 h2
    first | refine XA.cl ?_ | refine XOA.cl ?_ | refine DA.cl ?_
    refine zO rfl (Rd.nilCheck rfl) ?_; refine zO rfl (Rd.fA rfl) ?_; refine zO rfl (Rd.ldC rfl (tyrow rfl) rfl) ?_
    refine zO rfl (by first | exact Rd.sbi rfl rfl | exact Rd.sub rfl rfl) ?_
    refine zO rfl (Rd.nilCheck rfl) ?_; refine zO rfl (Rd.fA rfl) ?_
    refine zw rfl (WrA.st (tyrow rfl) rfl) ?_
    rintro _ _ _ ⟨rfl, rfl, rfl⟩
    refine zN ?_; refine zT ?_; refine zS ?_; refine zR ?_; refine zO rfl Rd.mv ?_; refine zO rfl (Rd.nilCheck rfl) ?_; refine zO rfl (Rd.fA rfl) ?_; refine zO rfl (Rd.ldC rfl (tyrow rfl) rfl) ?_; refine zO rfl (Rd.eql rfl rfl) ?_; refine zO rfl Rd.asg ?_; refine zN ?_; refine zT ?_
    refine XA.ret ?_
    refine bodyA.ret (ResA.one rfl rfl) (Ent.fold1 zE (Judge.mkE h0)) ⟨?_, rfl, rfl⟩
    rw [decide_eq_false h0]; rfl
  | ok l =>
    obtain ⟨l0, l1⟩ := hl l rfl
    by_cases hd : 12 < deep
    · rw [decide_eq_true hd, fail_okT]
      refine zN ?_; refine zT ?_; refine zS ?_; refine zR ?_; refine zO rfl Rd.mv ?_; refine zO rfl Rd.mv ?_
      first | refine XA.opn (R := Judge b vs (.error 4)) (by ((repeat (first | with_reducible exact Sel.head | apply Sel.tail)); (first | done | fail))) (Judge.errO) ?_ | refine XOA.opn (R := Judge b vs (.error 4)) (by ((repeat (first | with_reducible exact Sel.head | apply Sel.tail)); (first | done | fail))) (Judge.errO) ?_ | refine DA.opn (R := Judge b vs (.error 4)) (by ((repeat (first | with_reducible exact Sel.head | apply Sel.tail)); (first | done | fail))) (Judge.errO) ?_
      rintro l2 -
      first | refine XA.cl ?_ | refine XOA.cl ?_ | refine DA.cl ?_
      refine zO rfl (Rd.nilCheck rfl) ?_; refine zO rfl (Rd.fA rfl) ?_; refine zO rfl (Rd.ldC rfl (tyrow rfl) rfl) ?_; refine zO rfl (Rd.eql rfl rfl) ?_
      refine XOA.ent (Δ := [Judge b vs (.error 4)]) (Ent.fold1 zE (Judge.mkE (by decide))) ?_
      refine zw rfl (WrA.cE (fail_a σ b vs (.error 4) (decide (l2 = 0)) 3 (by decide)) rfl) ?_
      rintro _ _ _ ⟨_, ⟨rfl, rfl, rfl⟩, rfl⟩
      refine XOA.cl ?_
      rw [fail_err]
      refine zN ?_; refine zT ?_; refine zS ?_; refine zR ?_; refine zO rfl Rd.mv ?_
      first | refine XA.opn (R := Judge b vs (.error 4)) (by ((repeat (first | with_reducible exact Sel.head | apply Sel.tail)); (first | done | fail))) (Judge.errO) ?_ | refine XOA.opn (R := Judge b vs (.error 4)) (by ((repeat (first | with_reducible exact Sel.head | apply Sel.tail)); (first | done | fail))) (Judge.errO) ?_ | refine DA.opn (R := Judge b vs (.error 4)) (by ((repeat (first | with_reducible exact Sel.head | apply Sel.tail)); (first | done | fail))) (Judge.errO) ?_
      rintro l3 -
      first | refine XA.cl ?_ | refine XOA.cl ?_ | refine DA.cl ?_
      refine zO rfl (Rd.nilCheck rfl) ?_; refine zO rfl (Rd.fA rfl) ?_; refine zO rfl (Rd.ldC rfl (tyrow rfl) rfl) ?_
      refine zO rfl (by first | exact Rd.sbi rfl rfl | exact Rd.sub rfl rfl) ?_
      refine zO rfl (Rd.nilCheck rfl) ?_; refine zO rfl (Rd.fA rfl) ?_
      refine zw rfl (WrA.st (tyrow rfl) rfl) ?_
      rintro _ _ _ ⟨rfl, rfl, rfl⟩
      refine zN ?_; refine zT ?_; refine zS ?_; refine zR ?_; refine zO rfl Rd.mv ?_; refine zO rfl (Rd.nilCheck rfl) ?_; refine zO rfl (Rd.fA rfl) ?_; refine zO rfl (Rd.ldC rfl (tyrow rfl) rfl) ?_; refine zO rfl (Rd.eql rfl rfl) ?_; refine zO rfl Rd.asg ?_; refine zN ?_; refine zT ?_
      refine XA.ret ?_
      refine bodyA.ret (ResA.one rfl rfl) (Ent.fold1 (Γ := _) (Θ := [blk b [vs, _, i64 4] 142]) zE (Judge.mkE (by decide))) ⟨?_, rfl, ?_⟩
      · simp [JE.one, hd, JE.isOk]
      · simp [JE.one, hd]
    · rw [decide_eq_false hd, fail_false]
      refine zN ?_; refine zT ?_; refine zS ?_; refine zR ?_; refine zO rfl Rd.mv ?_; refine zO rfl Rd.mv ?_
      first | refine XA.opn (R := Judge b vs (.ok l)) (by ((repeat (first | with_reducible exact Sel.head | apply Sel.tail)); (first | done | fail))) (Judge.okO) ?_ | refine XOA.opn (R := Judge b vs (.ok l)) (by ((repeat (first | with_reducible exact Sel.head | apply Sel.tail)); (first | done | fail))) (Judge.okO) ?_ | refine DA.opn (R := Judge b vs (.ok l)) (by ((repeat (first | with_reducible exact Sel.head | apply Sel.tail)); (first | done | fail))) (Judge.okO) ?_
      rintro ⟨⟩ -
      first | refine XA.cl ?_ | refine XOA.cl ?_ | refine DA.cl ?_
      refine zO rfl (Rd.nilCheck rfl) ?_; refine zO rfl (Rd.fA rfl) ?_; refine zO rfl (Rd.ldC rfl (tyrow rfl) rfl) ?_; refine zO rfl (Rd.eql rfl rfl) ?_
      refine XOA.ent (Δ := [Judge b vs (.ok l)]) (Ent.fold1 zE Judge.mkO) ?_
      refine zw rfl (WrA.cE (fail_a σ b vs (.ok l) (decide (l = 0)) 3 (by decide)) rfl) ?_
      rintro _ _ _ ⟨_, ⟨rfl, rfl, rfl⟩, rfl⟩
      refine XOA.cl ?_
      by_cases h0 : l = 0
      · rw [decide_eq_true h0, fail_okT]
        refine zN ?_; refine zT ?_; refine zS ?_; refine zR ?_; refine zO rfl Rd.mv ?_
        first | refine XA.opn (R := Judge b vs (.error 3)) (by ((repeat (first | with_reducible exact Sel.head | apply Sel.tail)); (first | done | fail))) (Judge.errO) ?_ | refine XOA.opn (R := Judge b vs (.error 3)) (by ((repeat (first | with_reducible exact Sel.head | apply Sel.tail)); (first | done | fail))) (Judge.errO) ?_ | refine DA.opn (R := Judge b vs (.error 3)) (by ((repeat (first | with_reducible exact Sel.head | apply Sel.tail)); (first | done | fail))) (Judge.errO) ?_
        rintro l3 -
        first | refine XA.cl ?_ | refine XOA.cl ?_ | refine DA.cl ?_
        refine zO rfl (Rd.nilCheck rfl) ?_; refine zO rfl (Rd.fA rfl) ?_; refine zO rfl (Rd.ldC rfl (tyrow rfl) rfl) ?_
        refine zO rfl (by first | exact Rd.sbi rfl rfl | exact Rd.sub rfl rfl) ?_
        refine zO rfl (Rd.nilCheck rfl) ?_; refine zO rfl (Rd.fA rfl) ?_
        refine zw rfl (WrA.st (tyrow rfl) rfl) ?_
        rintro _ _ _ ⟨rfl, rfl, rfl⟩
        refine zN ?_; refine zT ?_; refine zS ?_; refine zR ?_; refine zO rfl Rd.mv ?_; refine zO rfl (Rd.nilCheck rfl) ?_; refine zO rfl (Rd.fA rfl) ?_; refine zO rfl (Rd.ldC rfl (tyrow rfl) rfl) ?_; refine zO rfl (Rd.eql rfl rfl) ?_; refine zO rfl Rd.asg ?_; refine zN ?_; refine zT ?_
        refine XA.ret ?_
        refine bodyA.ret (ResA.one rfl rfl) (Ent.fold1 (Γ := _) (Θ := [blk b [vs, _, i64 3] 142]) zE (Judge.mkE (by decide))) ⟨?_, rfl, ?_⟩
        · simp [JE.one, hd, h0, JE.isOk]
        · simp [JE.one, hd, h0]
      · rw [decide_eq_false h0, fail_false]
        refine zN ?_; refine zT ?_; refine zS ?_; refine zR ?_; refine zO rfl Rd.mv ?_
        first | refine XA.opn (R := Judge b vs (.ok l)) (by ((repeat (first | with_reducible exact Sel.head | apply Sel.tail)); (first | done | fail))) (Judge.okO) ?_ | refine XOA.opn (R := Judge b vs (.ok l)) (by ((repeat (first | with_reducible exact Sel.head | apply Sel.tail)); (first | done | fail))) (Judge.okO) ?_ | refine DA.opn (R := Judge b vs (.ok l)) (by ((repeat (first | with_reducible exact Sel.head | apply Sel.tail)); (first | done | fail))) (Judge.okO) ?_
        rintro ⟨⟩ -
        first | refine XA.cl ?_ | refine XOA.cl ?_ | refine DA.cl ?_
        refine zO rfl (Rd.nilCheck rfl) ?_; refine zO rfl (Rd.fA rfl) ?_; refine zO rfl (Rd.ldC rfl (tyrow rfl) rfl) ?_
        refine zO rfl (by first | exact Rd.sbi rfl rfl | exact Rd.sub rfl rfl) ?_
        refine zO rfl (Rd.nilCheck rfl) ?_; refine zO rfl (Rd.fA rfl) ?_
        refine zw rfl (WrA.st (tyrow rfl) rfl) ?_
        rintro _ _ _ ⟨rfl, rfl, rfl⟩
        refine zN ?_; refine zT ?_; refine zS ?_; refine zR ?_; refine zO rfl Rd.mv ?_; refine zO rfl (Rd.nilCheck rfl) ?_; refine zO rfl (Rd.fA rfl) ?_; refine zO rfl (Rd.ldC rfl (tyrow rfl) rfl) ?_; refine zO rfl (Rd.eql rfl rfl) ?_; refine zO rfl Rd.asg ?_; refine zN ?_; refine zT ?_
        refine XA.ret ?_
        refine bodyA.ret (ResA.one rfl rfl) (Ent.fold1 (Θ := [blk b [vs, i64 (l - 1), i64 0] 142]) zE Judge.mkO) ⟨?_, rfl, ?_⟩
        · simp [JE.one, hd, h0, JE.isOk]
        · simp [JE.one, hd, h0]
end Go.Proofs.Ytmnmcjdgnpgchaa

namespace Go.Proofs.Ytmnmcjdgnpgchaa
open Go X
set_option maxHeartbeats 1000000
theorem Judge.any {b : Nat} {vs : Value} {e : JE} : ∀ m, Judge b vs e m → ∃ x : Int × Int, (∀ m', Sat [blk b [vs, i64 x.1, i64 x.2] 142] m' → Judge b vs e m') ∧ Sat [blk b [vs, i64 x.1, i64 x.2] 142] m := by
  rintro m ⟨l', c, h, h0⟩
  exact ⟨(l', c), fun m' h' => ⟨l', c, of_sat1 blk_mono h', h0⟩, sat1 h⟩
theorem Judge.anyD {b : Nat} {vs : Value} {e : JE} : ∀ m, Judge b vs e m → ∃ x : Int × Int, (decide (x.2 = 0) = e.isOk ∧ ∀ m', Sat [blk b [vs, i64 x.1, i64 x.2] 142] m' → Judge b vs e m') ∧ Sat [blk b [vs, i64 x.1, i64 x.2] 142] m := by
  rintro m ⟨l', c, h, h0⟩
  refine ⟨(l', c), ⟨?_, fun m' h' => ⟨l', c, of_sat1 blk_mono h', h0⟩⟩, sat1 h⟩
  cases e with
  | ok l => obtain ⟨-, rfl⟩ := h0; rfl
  | error d => obtain ⟨-, h0⟩ := h0; exact decide_eq_false h0
theorem named_a (σ : PH) (b : Nat) (p : Option Addr) (n c : Nat) (e : JE) (v : Int) (is : Bool) :
    CallsA Try.prog 99 #[ptr b, i64 v, .bool is] σ [Judge b (.slice p n c) e] (RetA fun r σ' Γ' => r = .tuple #[] ∧ σ = σ' ∧ Γ' = [Judge b (.slice p n c) (e.named n v is)]) := by
  cases is with
  | false =>
    refine enterA3 Try.func99 rfl rfl rfl ?_
    refine zS ?_; refine zR ?_; refine zO rfl Rd.mv ?_; refine zO rfl Rd.mv ?_; refine zO rfl Rd.mv ?_
    first | ((first | refine zW ?_ | refine zQ ?_); refine zO rfl Rd.mv ?_) | refine zU ?_ | refine zV ?_ | refine zZ ?_
    first | ((first | refine zW ?_ | refine zQ ?_); refine zO rfl (Rd.lss rfl rfl) ?_) | refine zU ?_ | refine zV ?_ | refine zZ ?_
    first | ((first | refine zW ?_ | refine zQ ?_); refine zO rfl Rd.mv ?_) | refine zU ?_ | refine zV ?_ | refine zZ ?_
    first | ((first | refine zW ?_ | refine zQ ?_); refine zO rfl Rd.mv ?_) | refine zU ?_ | refine zV ?_ | refine zZ ?_
    first | ((first | refine zW ?_ | refine zQ ?_); refine zO rfl Rd.mv ?_) | refine zU ?_ | refine zV ?_ | refine zZ ?_
    first | ((first | refine zW ?_ | refine zQ ?_); refine zO rfl (Rd.nilCheck rfl) ?_) | refine zU ?_ | refine zV ?_ | refine zZ ?_
    first | ((first | refine zW ?_ | refine zQ ?_); refine zO rfl (Rd.fA rfl) ?_) | refine zU ?_ | refine zV ?_ | refine zZ ?_
    first | ((first | refine zW ?_ | refine zQ ?_); refine zO rfl (Rd.ldC rfl (tyrow rfl) rfl) ?_) | refine zU ?_ | refine zV ?_ | refine zZ ?_
    first | ((first | refine zW ?_ | refine zQ ?_); refine zO rfl (Rd.lenSlice (tyrow rfl) rfl rfl) ?_) | refine zU ?_ | refine zV ?_ | refine zZ ?_
    first | ((first | refine zW ?_ | refine zQ ?_); refine zO rfl (Rd.geq rfl rfl) ?_) | refine zU ?_ | refine zV ?_ | refine zZ ?_
    first | ((first | refine zW ?_ | refine zQ ?_); refine zO rfl (by first | exact Rd.pT rfl | exact Rd.pF rfl | exact Rd.pP rfl) ?_) | refine zU ?_ | refine zV ?_ | refine zZ ?_
    refine zO rfl (by first | exact Rd.pT rfl | exact Rd.pF rfl | exact Rd.pP rfl) ?_
    refine zw rfl (WrA.cE (fail_a σ b _ e false 1 (by decide)) rfl) ?_
    rintro _ _ _ ⟨_, ⟨rfl, rfl, rfl⟩, rfl⟩
    refine XOA.cl ?_
    refine zN ?_; refine zT ?_; refine zR ?_; refine zO rfl Rd.mv ?_; refine zO rfl Rd.mv ?_
    refine zO rfl (by first | exact Rd.notp rfl | exact Rd.not rfl) ?_
    refine zO rfl Rd.mv ?_
    first | ((first | refine zW ?_ | refine zQ ?_); refine zO rfl Rd.mv ?_) | refine zU ?_ | refine zV ?_ | refine zZ ?_
    first | ((first | refine zW ?_ | refine zQ ?_); refine zO rfl (Rd.neq rfl rfl) ?_) | refine zU ?_ | refine zV ?_ | refine zZ ?_
    refine zO rfl (by first | exact Rd.pT rfl | exact Rd.pF rfl | exact Rd.pP rfl) ?_
    refine zw rfl (WrA.cE (fail_a σ b _ _ (decide (v ≠ 0)) 5 (by decide)) rfl) ?_
    rintro _ _ _ ⟨_, ⟨rfl, rfl, rfl⟩, rfl⟩
    refine XOA.cl ?_
    refine zN ?_
    exact bodyA.normal (ResA.none rfl) (Ent.refl _) ⟨rfl, rfl, rfl⟩
  | true =>
    by_cases h0 : v < 0
    · 
      refine enterA3 Try.func99 rfl rfl rfl ?_
      refine zS ?_; refine zR ?_; refine zO rfl Rd.mv ?_; refine zO rfl Rd.mv ?_; refine zO rfl Rd.mv ?_
      first | ((first | refine zW ?_ | refine zQ ?_); refine zO rfl Rd.mv ?_) | refine zU ?_ | refine zV ?_ | refine zZ ?_
      first | ((first | refine zW ?_ | refine zQ ?_); refine zO rfl (Rd.lss rfl rfl) ?_) | refine zU ?_ | refine zV ?_ | refine zZ ?_
      first | ((first | refine zW ?_ | refine zQ ?_); refine zO rfl Rd.mv ?_) | refine zU ?_ | refine zV ?_ | refine zZ ?_
      first | ((first | refine zW ?_ | refine zQ ?_); refine zO rfl Rd.mv ?_) | refine zU ?_ | refine zV ?_ | refine zZ ?_
      first | ((first | refine zW ?_ | refine zQ ?_); refine zO rfl Rd.mv ?_) | refine zU ?_ | refine zV ?_ | refine zZ ?_
      first | ((first | refine zW ?_ | refine zQ ?_); refine zO rfl (Rd.nilCheck rfl) ?_) | refine zU ?_ | refine zV ?_ | refine zZ ?_
      first | ((first | refine zW ?_ | refine zQ ?_); refine zO rfl (Rd.fA rfl) ?_) | refine zU ?_ | refine zV ?_ | refine zZ ?_
      first | ((first | refine zW ?_ | refine zQ ?_); refine zO rfl (Rd.ldC rfl (tyrow rfl) rfl) ?_) | refine zU ?_ | refine zV ?_ | refine zZ ?_
      first | ((first | refine zW ?_ | refine zQ ?_); refine zO rfl (Rd.lenSlice (tyrow rfl) rfl rfl) ?_) | refine zU ?_ | refine zV ?_ | refine zZ ?_
      first | ((first | refine zW ?_ | refine zQ ?_); refine zO rfl (Rd.geq rfl rfl) ?_) | refine zU ?_ | refine zV ?_ | refine zZ ?_
      first | ((first | refine zW ?_ | refine zQ ?_); refine zO rfl (by first | exact Rd.pT rfl | exact Rd.pF rfl | exact Rd.pP rfl) ?_) | refine zU ?_ | refine zV ?_ | refine zZ ?_
      refine zO rfl (by first | exact Rd.pT rfl | exact Rd.pF rfl | exact Rd.pP rfl) ?_
      refine zw rfl (WrA.cE (fail_a σ b _ e true 1 (by decide)) rfl) ?_
      rintro _ _ _ ⟨_, ⟨rfl, rfl, rfl⟩, rfl⟩
      refine XOA.cl ?_
      refine zN ?_; refine zT ?_; refine zR ?_; refine zO rfl Rd.mv ?_; refine zO rfl Rd.mv ?_
      refine zO rfl (by first | exact Rd.notp rfl | exact Rd.not rfl) ?_
      refine zO rfl Rd.mv ?_
      first | ((first | refine zW ?_ | refine zQ ?_); refine zO rfl Rd.mv ?_) | refine zU ?_ | refine zV ?_ | refine zZ ?_
      first | ((first | refine zW ?_ | refine zQ ?_); refine zO rfl (Rd.neq rfl rfl) ?_) | refine zU ?_ | refine zV ?_ | refine zZ ?_
      refine zO rfl (by first | exact Rd.pT rfl | exact Rd.pF rfl | exact Rd.pP rfl) ?_
      refine zw rfl (WrA.cE (fail_a σ b _ _ false 5 (by decide)) rfl) ?_
      rintro _ _ _ ⟨_, ⟨rfl, rfl, rfl⟩, rfl⟩
      refine XOA.cl ?_
      refine zN ?_
      refine bodyA.normal (ResA.none rfl) (Ent.refl _) ⟨rfl, rfl, ?_⟩
      have : decide (v < 0 ∨ (n : Int) ≤ v) = true := decide_eq_true (Or.inl h0)
      simp only [JE.named, this, Bool.true_and, Bool.not_true, Bool.false_and]
    · 
      refine enterA3 Try.func99 rfl rfl rfl ?_
      refine zS ?_; refine zR ?_; refine zO rfl Rd.mv ?_; refine zO rfl Rd.mv ?_; refine zO rfl Rd.mv ?_
      first | ((first | refine zW ?_ | refine zQ ?_); refine zO rfl Rd.mv ?_) | refine zU ?_ | refine zV ?_ | refine zZ ?_
      first | ((first | refine zW ?_ | refine zQ ?_); refine zO rfl (Rd.lss rfl rfl) ?_) | refine zU ?_ | refine zV ?_ | refine zZ ?_
      first | ((first | refine zW ?_ | refine zQ ?_); refine zO rfl Rd.mv ?_) | refine zU ?_ | refine zV ?_ | refine zZ ?_
      first | ((first | refine zW ?_ | refine zQ ?_); refine zO rfl Rd.mv ?_) | refine zU ?_ | refine zV ?_ | refine zZ ?_
      first | ((first | refine zW ?_ | refine zQ ?_); refine zO rfl Rd.mv ?_) | refine zU ?_ | refine zV ?_ | refine zZ ?_
      first | refine XA.opn (R := Judge b (.slice p n c) e) (by ((repeat (first | with_reducible exact Sel.head | apply Sel.tail)); (first | done | fail))) (Judge.any) ?_ | refine XOA.opn (R := Judge b (.slice p n c) e) (by ((repeat (first | with_reducible exact Sel.head | apply Sel.tail)); (first | done | fail))) (Judge.any) ?_ | refine DA.opn (R := Judge b (.slice p n c) e) (by ((repeat (first | with_reducible exact Sel.head | apply Sel.tail)); (first | done | fail))) (Judge.any) ?_
      rintro ⟨l, cc⟩ hf
      first | refine XA.cl ?_ | refine XOA.cl ?_ | refine DA.cl ?_
      first | ((first | refine zW ?_ | refine zQ ?_); refine zO rfl (Rd.nilCheck rfl) ?_) | refine zU ?_ | refine zV ?_ | refine zZ ?_
      first | ((first | refine zW ?_ | refine zQ ?_); refine zO rfl (Rd.fA rfl) ?_) | refine zU ?_ | refine zV ?_ | refine zZ ?_
      first | ((first | refine zW ?_ | refine zQ ?_); refine zO rfl (Rd.ldC rfl (tyrow rfl) rfl) ?_) | refine zU ?_ | refine zV ?_ | refine zZ ?_
      first | ((first | refine zW ?_ | refine zQ ?_); refine zO rfl (Rd.lenSlice (tyrow rfl) rfl rfl) ?_) | refine zU ?_ | refine zV ?_ | refine zZ ?_
      first | ((first | refine zW ?_ | refine zQ ?_); refine zO rfl (Rd.geq rfl rfl) ?_) | refine zU ?_ | refine zV ?_ | refine zZ ?_
      first | ((first | refine zW ?_ | refine zQ ?_); refine zO rfl (by first | exact Rd.pT rfl | exact Rd.pF rfl | exact Rd.pP rfl) ?_) | refine zU ?_ | refine zV ?_ | refine zZ ?_
      refine zO rfl (by first | exact Rd.pT rfl | exact Rd.pF rfl | exact Rd.pP rfl) ?_
      refine XOA.ent (Δ := [Judge b (.slice p n c) e]) (Ent.fold1 zE hf) ?_
      refine zw rfl (WrA.cE (fail_a σ b _ e (decide ((n : Int) ≤ v)) 1 (by decide)) rfl) ?_
      rintro _ _ _ ⟨_, ⟨rfl, rfl, rfl⟩, rfl⟩
      refine XOA.cl ?_
      refine zN ?_; refine zT ?_; refine zR ?_; refine zO rfl Rd.mv ?_; refine zO rfl Rd.mv ?_
      refine zO rfl (by first | exact Rd.notp rfl | exact Rd.not rfl) ?_
      refine zO rfl Rd.mv ?_
      first | ((first | refine zW ?_ | refine zQ ?_); refine zO rfl Rd.mv ?_) | refine zU ?_ | refine zV ?_ | refine zZ ?_
      first | ((first | refine zW ?_ | refine zQ ?_); refine zO rfl (Rd.neq rfl rfl) ?_) | refine zU ?_ | refine zV ?_ | refine zZ ?_
      refine zO rfl (by first | exact Rd.pT rfl | exact Rd.pF rfl | exact Rd.pP rfl) ?_
      refine zw rfl (WrA.cE (fail_a σ b _ _ false 5 (by decide)) rfl) ?_
      rintro _ _ _ ⟨_, ⟨rfl, rfl, rfl⟩, rfl⟩
      refine XOA.cl ?_
      refine zN ?_
      refine bodyA.normal (ResA.none rfl) (Ent.refl _) ⟨rfl, rfl, ?_⟩
      have : decide (v < 0 ∨ (n : Int) ≤ v) = decide ((n : Int) ≤ v) := by rw [decide_eq_decide]; omega
      simp only [JE.named, this, Bool.true_and, Bool.not_true, Bool.false_and]
theorem none_a (σ : PH) (cs : List Value) (x : Ex) (hx : ExAt σ cs x) : CallsA Try.prog 98 #[.agg cs.toArray] σ [] (RetA fun v σ' Γ' => v = .bool (noneX x) ∧ σ = σ' ∧ Γ' = []) := by
  obtain ⟨p, c, rfl, -, -, -, -⟩ := hx.inv
  by_cases h1 : x.op = 0
  · by_cases h2 : x.v = 0
    · by_cases h3 : x.n = 0
      · 
        refine enterA1 Try.func98 rfl rfl rfl ?_
        refine zS ?_; refine zR ?_
        refine zw rfl WrA.bx ?_
        rintro _ _ _ ⟨g1, rfl, rfl, rfl⟩
        refine zO rfl Rd.asg ?_; refine zN ?_; refine zT ?_; refine zS ?_; refine zR ?_; refine zO rfl (Rd.fA rfl) ?_; refine zO rfl (Rd.ldC rfl (tyrow rfl) rfl) ?_; refine zO rfl (Rd.eql rfl rfl) ?_; refine zO rfl Rd.mv ?_
        first | ((first | refine zW ?_ | refine zQ ?_); refine zO rfl (Rd.fA rfl) ?_) | refine zU ?_ | refine zV ?_ | refine zZ ?_
        first | ((first | refine zW ?_ | refine zQ ?_); refine zO rfl (Rd.ldC rfl (tyrow rfl) rfl) ?_) | refine zU ?_ | refine zV ?_ | refine zZ ?_
        first | ((first | refine zW ?_ | refine zQ ?_); refine zO rfl (Rd.eql rfl rfl) ?_) | refine zU ?_ | refine zV ?_ | refine zZ ?_
        refine zO rfl (by first | exact Rd.pT rfl | exact Rd.pF rfl | exact Rd.pP rfl) ?_
        refine zO rfl Rd.mv ?_
        first | ((first | refine zW ?_ | refine zQ ?_); refine zO rfl (Rd.fA rfl) ?_) | refine zU ?_ | refine zV ?_ | refine zZ ?_
        first | ((first | refine zW ?_ | refine zQ ?_); refine zO rfl (Rd.ldC rfl (tyrow rfl) rfl) ?_) | refine zU ?_ | refine zV ?_ | refine zZ ?_
        first | ((first | refine zW ?_ | refine zQ ?_); refine zO rfl (Rd.eql rfl rfl) ?_) | refine zU ?_ | refine zV ?_ | refine zZ ?_
        refine zO rfl (by first | exact Rd.pT rfl | exact Rd.pF rfl | exact Rd.pP rfl) ?_
        refine zO rfl Rd.mv ?_
        first | ((first | refine zW ?_ | refine zQ ?_); refine zO rfl (Rd.fA rfl) ?_) | refine zU ?_ | refine zV ?_ | refine zZ ?_
        first | ((first | refine zW ?_ | refine zQ ?_); refine zO rfl (Rd.ldC rfl (tyrow rfl) rfl) ?_) | refine zU ?_ | refine zV ?_ | refine zZ ?_
        first | ((first | refine zW ?_ | refine zQ ?_); refine zO rfl (Rd.lenSlice (tyrow rfl) rfl rfl) ?_) | refine zU ?_ | refine zV ?_ | refine zZ ?_
        first | ((first | refine zW ?_ | refine zQ ?_); refine zO rfl (Rd.eql rfl rfl) ?_) | refine zU ?_ | refine zV ?_ | refine zZ ?_
        refine zO rfl (by first | exact Rd.pT rfl | exact Rd.pF rfl | exact Rd.pP rfl) ?_
        refine zO rfl Rd.asg ?_; refine zN ?_; refine zT ?_
        refine XA.ret ?_
        refine bodyA.ret (ResA.one rfl rfl) (Ent.nil _) ⟨?_, rfl, rfl⟩
        simp [noneX, h1, h2, h3]
      · 
        refine enterA1 Try.func98 rfl rfl rfl ?_
        refine zS ?_; refine zR ?_
        refine zw rfl WrA.bx ?_
        rintro _ _ _ ⟨g1, rfl, rfl, rfl⟩
        refine zO rfl Rd.asg ?_; refine zN ?_; refine zT ?_; refine zS ?_; refine zR ?_; refine zO rfl (Rd.fA rfl) ?_; refine zO rfl (Rd.ldC rfl (tyrow rfl) rfl) ?_; refine zO rfl (Rd.eql rfl rfl) ?_; refine zO rfl Rd.mv ?_
        first | ((first | refine zW ?_ | refine zQ ?_); refine zO rfl (Rd.fA rfl) ?_) | refine zU ?_ | refine zV ?_ | refine zZ ?_
        first | ((first | refine zW ?_ | refine zQ ?_); refine zO rfl (Rd.ldC rfl (tyrow rfl) rfl) ?_) | refine zU ?_ | refine zV ?_ | refine zZ ?_
        first | ((first | refine zW ?_ | refine zQ ?_); refine zO rfl (Rd.eql rfl rfl) ?_) | refine zU ?_ | refine zV ?_ | refine zZ ?_
        refine zO rfl (by first | exact Rd.pT rfl | exact Rd.pF rfl | exact Rd.pP rfl) ?_
        refine zO rfl Rd.mv ?_
        first | ((first | refine zW ?_ | refine zQ ?_); refine zO rfl (Rd.fA rfl) ?_) | refine zU ?_ | refine zV ?_ | refine zZ ?_
        first | ((first | refine zW ?_ | refine zQ ?_); refine zO rfl (Rd.ldC rfl (tyrow rfl) rfl) ?_) | refine zU ?_ | refine zV ?_ | refine zZ ?_
        first | ((first | refine zW ?_ | refine zQ ?_); refine zO rfl (Rd.eql rfl rfl) ?_) | refine zU ?_ | refine zV ?_ | refine zZ ?_
        refine zO rfl (by first | exact Rd.pT rfl | exact Rd.pF rfl | exact Rd.pP rfl) ?_
        refine zO rfl Rd.mv ?_
        first | ((first | refine zW ?_ | refine zQ ?_); refine zO rfl (Rd.fA rfl) ?_) | refine zU ?_ | refine zV ?_ | refine zZ ?_
        first | ((first | refine zW ?_ | refine zQ ?_); refine zO rfl (Rd.ldC rfl (tyrow rfl) rfl) ?_) | refine zU ?_ | refine zV ?_ | refine zZ ?_
        first | ((first | refine zW ?_ | refine zQ ?_); refine zO rfl (Rd.lenSlice (tyrow rfl) rfl rfl) ?_) | refine zU ?_ | refine zV ?_ | refine zZ ?_
        first | ((first | refine zW ?_ | refine zQ ?_); refine zO rfl (Rd.eql rfl rfl) ?_) | refine zU ?_ | refine zV ?_ | refine zZ ?_
        refine zO rfl (by first | exact Rd.pT rfl | exact Rd.pF rfl | exact Rd.pP rfl) ?_
        refine zO rfl Rd.asg ?_; refine zN ?_; refine zT ?_
        refine XA.ret ?_
        exact bodyA.ret (ResA.one rfl rfl) (Ent.nil _) ⟨by simp [noneX, h3], rfl, rfl⟩
    · 
      refine enterA1 Try.func98 rfl rfl rfl ?_
      refine zS ?_; refine zR ?_
      refine zw rfl WrA.bx ?_
      rintro _ _ _ ⟨g1, rfl, rfl, rfl⟩
      refine zO rfl Rd.asg ?_; refine zN ?_; refine zT ?_; refine zS ?_; refine zR ?_; refine zO rfl (Rd.fA rfl) ?_; refine zO rfl (Rd.ldC rfl (tyrow rfl) rfl) ?_; refine zO rfl (Rd.eql rfl rfl) ?_; refine zO rfl Rd.mv ?_
      first | ((first | refine zW ?_ | refine zQ ?_); refine zO rfl (Rd.fA rfl) ?_) | refine zU ?_ | refine zV ?_ | refine zZ ?_
      first | ((first | refine zW ?_ | refine zQ ?_); refine zO rfl (Rd.ldC rfl (tyrow rfl) rfl) ?_) | refine zU ?_ | refine zV ?_ | refine zZ ?_
      first | ((first | refine zW ?_ | refine zQ ?_); refine zO rfl (Rd.eql rfl rfl) ?_) | refine zU ?_ | refine zV ?_ | refine zZ ?_
      refine zO rfl (by first | exact Rd.pT rfl | exact Rd.pF rfl | exact Rd.pP rfl) ?_
      refine zO rfl Rd.mv ?_
      first | ((first | refine zW ?_ | refine zQ ?_); refine zO rfl (Rd.fA rfl) ?_) | refine zU ?_ | refine zV ?_ | refine zZ ?_
      first | ((first | refine zW ?_ | refine zQ ?_); refine zO rfl (Rd.ldC rfl (tyrow rfl) rfl) ?_) | refine zU ?_ | refine zV ?_ | refine zZ ?_
      first | ((first | refine zW ?_ | refine zQ ?_); refine zO rfl (Rd.eql rfl rfl) ?_) | refine zU ?_ | refine zV ?_ | refine zZ ?_
      refine zO rfl (by first | exact Rd.pT rfl | exact Rd.pF rfl | exact Rd.pP rfl) ?_
      refine zO rfl Rd.mv ?_
      first | ((first | refine zW ?_ | refine zQ ?_); refine zO rfl (Rd.fA rfl) ?_) | refine zU ?_ | refine zV ?_ | refine zZ ?_
      first | ((first | refine zW ?_ | refine zQ ?_); refine zO rfl (Rd.ldC rfl (tyrow rfl) rfl) ?_) | refine zU ?_ | refine zV ?_ | refine zZ ?_
      first | ((first | refine zW ?_ | refine zQ ?_); refine zO rfl (Rd.lenSlice (tyrow rfl) rfl rfl) ?_) | refine zU ?_ | refine zV ?_ | refine zZ ?_
      first | ((first | refine zW ?_ | refine zQ ?_); refine zO rfl (Rd.eql rfl rfl) ?_) | refine zU ?_ | refine zV ?_ | refine zZ ?_
      refine zO rfl (by first | exact Rd.pT rfl | exact Rd.pF rfl | exact Rd.pP rfl) ?_
      refine zO rfl Rd.asg ?_; refine zN ?_; refine zT ?_
      refine XA.ret ?_
      exact bodyA.ret (ResA.one rfl rfl) (Ent.nil _) ⟨by simp [noneX, h2], rfl, rfl⟩
  · 
    refine enterA1 Try.func98 rfl rfl rfl ?_
    refine zS ?_; refine zR ?_
    refine zw rfl WrA.bx ?_
    rintro _ _ _ ⟨g1, rfl, rfl, rfl⟩
    refine zO rfl Rd.asg ?_; refine zN ?_; refine zT ?_; refine zS ?_; refine zR ?_; refine zO rfl (Rd.fA rfl) ?_; refine zO rfl (Rd.ldC rfl (tyrow rfl) rfl) ?_; refine zO rfl (Rd.eql rfl rfl) ?_; refine zO rfl Rd.mv ?_
    first | ((first | refine zW ?_ | refine zQ ?_); refine zO rfl (Rd.fA rfl) ?_) | refine zU ?_ | refine zV ?_ | refine zZ ?_
    first | ((first | refine zW ?_ | refine zQ ?_); refine zO rfl (Rd.ldC rfl (tyrow rfl) rfl) ?_) | refine zU ?_ | refine zV ?_ | refine zZ ?_
    first | ((first | refine zW ?_ | refine zQ ?_); refine zO rfl (Rd.eql rfl rfl) ?_) | refine zU ?_ | refine zV ?_ | refine zZ ?_
    refine zO rfl (by first | exact Rd.pT rfl | exact Rd.pF rfl | exact Rd.pP rfl) ?_
    refine zO rfl Rd.mv ?_
    first | ((first | refine zW ?_ | refine zQ ?_); refine zO rfl (Rd.fA rfl) ?_) | refine zU ?_ | refine zV ?_ | refine zZ ?_
    first | ((first | refine zW ?_ | refine zQ ?_); refine zO rfl (Rd.ldC rfl (tyrow rfl) rfl) ?_) | refine zU ?_ | refine zV ?_ | refine zZ ?_
    first | ((first | refine zW ?_ | refine zQ ?_); refine zO rfl (Rd.eql rfl rfl) ?_) | refine zU ?_ | refine zV ?_ | refine zZ ?_
    refine zO rfl (by first | exact Rd.pT rfl | exact Rd.pF rfl | exact Rd.pP rfl) ?_
    refine zO rfl Rd.mv ?_
    first | ((first | refine zW ?_ | refine zQ ?_); refine zO rfl (Rd.fA rfl) ?_) | refine zU ?_ | refine zV ?_ | refine zZ ?_
    first | ((first | refine zW ?_ | refine zQ ?_); refine zO rfl (Rd.ldC rfl (tyrow rfl) rfl) ?_) | refine zU ?_ | refine zV ?_ | refine zZ ?_
    first | ((first | refine zW ?_ | refine zQ ?_); refine zO rfl (Rd.lenSlice (tyrow rfl) rfl rfl) ?_) | refine zU ?_ | refine zV ?_ | refine zZ ?_
    first | ((first | refine zW ?_ | refine zQ ?_); refine zO rfl (Rd.eql rfl rfl) ?_) | refine zU ?_ | refine zV ?_ | refine zZ ?_
    refine zO rfl (by first | exact Rd.pT rfl | exact Rd.pF rfl | exact Rd.pP rfl) ?_
    refine zO rfl Rd.asg ?_; refine zN ?_; refine zT ?_
    refine XA.ret ?_
    exact bodyA.ret (ResA.one rfl rfl) (Ent.nil _) ⟨by simp [noneX, h1], rfl, rfl⟩
theorem chas_a (σ : PH) (op : Int) : CallsA Try.prog 89 #[i64 op] σ [] (RetA fun v σ' Γ' => v = .tuple #[.bool (needE op), .bool (needF op), .bool (needV op), .bool (needB op), .bool (needO op)] ∧ σ = σ' ∧ Γ' = []) := by
  refine enterA1 Try.func89 rfl rfl rfl ?_
  refine zS ?_; refine zR ?_; refine zO rfl Rd.asg ?_; refine zO rfl Rd.asg ?_; refine zO rfl Rd.asg ?_; refine zO rfl Rd.asg ?_; refine zO rfl Rd.asg ?_; refine zN ?_; refine zT ?_; refine zS ?_; refine zS ?_; refine zR ?_; refine zO rfl Rd.mv ?_; refine zN ?_; refine zT ?_
  refine XA.block ?_
  refine zS ?_; refine zR ?_; refine zO rfl (Rd.eql rfl rfl) ?_; refine zO rfl Rd.asg ?_; refine zN ?_; refine zT ?_
  refine XA.condp rfl (fun h1 => ?_) (fun h1 => ?_)
  · refine zS ?_
    refine zR ?_; refine zO rfl Rd.asg ?_; refine zO rfl Rd.asg ?_; refine zO rfl Rd.asg ?_; refine zO rfl Rd.asg ?_; refine zO rfl Rd.asg ?_; refine zN ?_; refine zT ?_
    refine XA.ret ?_
    refine DA.inb_ret ?_
    refine DA.thn_ret ?_
    subst h1
    exact bodyA.ret (ResA.five rfl rfl rfl rfl rfl rfl) (Ent.refl _) ⟨rfl, rfl, rfl⟩
  refine zS ?_; refine zR ?_; refine zO rfl (Rd.eql rfl rfl) ?_; refine zO rfl Rd.asg ?_; refine zN ?_; refine zT ?_
  refine XA.condp rfl (fun h2 => ?_) (fun h2 => ?_)
  · refine zS ?_
    refine zR ?_; refine zO rfl Rd.asg ?_; refine zO rfl Rd.asg ?_; refine zO rfl Rd.asg ?_; refine zO rfl Rd.asg ?_; refine zO rfl Rd.asg ?_; refine zN ?_; refine zT ?_
    refine XA.ret ?_
    refine DA.inb_ret ?_
    refine DA.thn_ret ?_
    subst h2
    exact bodyA.ret (ResA.five rfl rfl rfl rfl rfl rfl) (Ent.refl _) ⟨rfl, rfl, rfl⟩
  refine zS ?_; refine zR ?_; refine zO rfl (Rd.eql rfl rfl) ?_; refine zO rfl Rd.asg ?_; refine zN ?_; refine zT ?_
  refine XA.condp rfl (fun h3 => ?_) (fun h3 => ?_)
  · refine zS ?_
    refine zR ?_; refine zO rfl Rd.asg ?_; refine zO rfl Rd.asg ?_; refine zO rfl Rd.asg ?_; refine zO rfl Rd.asg ?_; refine zO rfl Rd.asg ?_; refine zN ?_; refine zT ?_
    refine XA.ret ?_
    refine DA.inb_ret ?_
    refine DA.thn_ret ?_
    subst h3
    exact bodyA.ret (ResA.five rfl rfl rfl rfl rfl rfl) (Ent.refl _) ⟨rfl, rfl, rfl⟩
  refine zS ?_; refine zR ?_; refine zO rfl (Rd.eql rfl rfl) ?_; refine zO rfl Rd.asg ?_; refine zN ?_; refine zT ?_
  refine XA.condp rfl (fun h4 => ?_) (fun h4 => ?_)
  · refine zS ?_
    refine zR ?_; refine zO rfl Rd.asg ?_; refine zO rfl Rd.asg ?_; refine zO rfl Rd.asg ?_; refine zO rfl Rd.asg ?_; refine zO rfl Rd.asg ?_; refine zN ?_; refine zT ?_
    refine XA.ret ?_
    refine DA.inb_ret ?_
    refine DA.thn_ret ?_
    subst h4
    exact bodyA.ret (ResA.five rfl rfl rfl rfl rfl rfl) (Ent.refl _) ⟨rfl, rfl, rfl⟩
  refine zS ?_; refine zR ?_; refine zO rfl (Rd.eql rfl rfl) ?_; refine zO rfl Rd.asg ?_; refine zN ?_; refine zT ?_
  refine XA.condp rfl (fun h5 => ?_) (fun h5 => ?_)
  · refine zS ?_
    refine zR ?_; refine zO rfl Rd.asg ?_; refine zO rfl Rd.asg ?_; refine zO rfl Rd.asg ?_; refine zO rfl Rd.asg ?_; refine zO rfl Rd.asg ?_; refine zN ?_; refine zT ?_
    refine XA.ret ?_
    refine DA.inb_ret ?_
    refine DA.thn_ret ?_
    subst h5
    exact bodyA.ret (ResA.five rfl rfl rfl rfl rfl rfl) (Ent.refl _) ⟨rfl, rfl, rfl⟩
  refine zS ?_; refine zR ?_; refine zO rfl (Rd.eql rfl rfl) ?_; refine zO rfl Rd.asg ?_; refine zN ?_; refine zT ?_
  refine XA.condp rfl (fun h6 => ?_) (fun h6 => ?_)
  · refine zS ?_
    refine zR ?_; refine zO rfl Rd.asg ?_; refine zO rfl Rd.asg ?_; refine zO rfl Rd.asg ?_; refine zO rfl Rd.asg ?_; refine zO rfl Rd.asg ?_; refine zN ?_; refine zT ?_
    refine XA.ret ?_
    refine DA.inb_ret ?_
    refine DA.thn_ret ?_
    subst h6
    exact bodyA.ret (ResA.five rfl rfl rfl rfl rfl rfl) (Ent.refl _) ⟨rfl, rfl, rfl⟩
  refine XA.skip ?_
  refine DA.inb_normal ?_
  refine zT ?_
  refine XA.ret ?_
  refine bodyA.ret (ResA.five rfl rfl rfl rfl rfl rfl) (Ent.refl _) ⟨?_, rfl, rfl⟩
  simp [needE, needF, needV, needB, needO, h1, h2, h3, h4, h5, h6]
theorem in_of {F : Int → JE → JE} (hF : Down F) {e : JE} (h : e.in_) (d : Int) : (F d e).in_ := by
  cases e with
  | error c => rw [hF.err]; intro l hl; cases hl
  | ok a =>
    intro l hl
    obtain ⟨h1, h2⟩ := h a rfl
    obtain ⟨h3, h4, -⟩ := hF.ok _ _ _ h1 hl
    omega
def ExprOK (σ : PH) (x : Ex) : Prop := ∀ (cs : List Value) (b : Nat) (p : Option Addr) (n c : Nat) (e : JE) (deep : Int), ExAt σ cs x → e.in_ → 0 ≤ deep → deep ≤ 1000 →
  CallsA Try.prog 100 #[ptr b, .agg cs.toArray, i64 deep] σ [Judge b (.slice p n c) e] (RetA fun r σ' Γ' => r = .tuple #[] ∧ σ = σ' ∧ Γ' = [Judge b (.slice p n c) (exE n deep x e)])
theorem isOk_false {e : JE} (h : e.isOk = false) : ∃ c, e = .error c := by
  cases e with
  | ok l => cases h
  | error c => exact ⟨c, rfl⟩
theorem one_ok {e : JE} {d : Int} (h : (e.one d).isOk = true) : d ≤ 12 := by
  cases e with
  | error c => cases h
  | ok l =>
    simp only [JE.one] at h
    split at h
    · cases h
    · omega
theorem expr_a (σ : PH) (x : Ex) : ExprOK σ x := by
  refine Ex.ind (P := ExprOK σ) ?_ x
  intro op v k l ih cs b p n c e deep hx hin hd0 hd1
  obtain ⟨pl, cl, rfl, -, -, -, hl⟩ := hx.inv
  simp only [Ex.op, Ex.v, Ex.n, Ex.l] at hl ⊢
  obtain ⟨-, -, -, hle, hmx⟩ := hl.shape
  have hlen : l.length ≤ maxLen := by
    obtain ⟨q, d, e1, h1, h2⟩ := hl.shape
    omega
  simp only [maxLen] at hlen
  refine enterA3 Try.func100 rfl rfl rfl ?_
  refine zS ?_; refine zR ?_
  refine zw rfl WrA.bx ?_
  rintro _ _ _ ⟨g4, rfl, rfl, rfl⟩
  refine zN ?_; refine zT ?_; refine zS ?_; refine zS ?_; refine zR ?_; refine zO rfl Rd.mv ?_; refine zO rfl Rd.mv ?_
  refine zw rfl (WrA.cE (one_a σ b (.slice p n c) e deep hin) rfl) ?_
  rintro _ _ _ ⟨_, ⟨rfl, rfl, rfl⟩, rfl⟩
  refine XOA.cl ?_
  cases hok : (e.one deep).isOk with
  | false =>
    obtain ⟨c', hc'⟩ := isOk_false hok
    have hp : exE n deep (.mk op v k l) e = .error c' := by rw [exE, exHead, hc', fail_err, fail_err, named_err, exsE_err]
    rw [hc', hp]
    refine zO rfl (by first | exact Rd.notp rfl | exact Rd.not rfl) ?_
    refine zN ?_; refine zT ?_
    refine XA.condT rfl rfl ?_
    refine XA.ret ?_
    refine DA.thn_ret ?_
    exact bodyA.ret (ResA.none rfl) zE ⟨rfl, rfl, rfl⟩
  | true =>
    have hd := one_ok hok
    refine zO rfl (by first | exact Rd.notp rfl | exact Rd.not rfl) ?_
    refine zN ?_; refine zT ?_
    refine XA.condF rfl rfl ?_
    refine XA.skip ?_
    refine zT ?_; refine zS ?_; refine zR ?_; refine zO rfl (Rd.fA rfl) ?_; refine zO rfl (Rd.ldC rfl (tyrow rfl) rfl) ?_
    refine zw rfl (WrA.cE (parts_a σ op) rfl) ?_
    rintro _ _ _ ⟨_, ⟨rfl, rfl, rfl⟩, rfl⟩
    refine XOA.cl ?_
    refine zO rfl Rd.asg ?_; refine zN ?_; refine zT ?_; refine zS ?_; refine zR ?_; refine zO rfl Rd.mv ?_; refine zO rfl Rd.mv ?_; refine zO rfl (Rd.lss rfl rfl) ?_
    refine zw rfl (WrA.cE (fail_a σ b _ _ (decide (partsOf op < 0)) 2 (by decide)) rfl) ?_
    rintro _ _ _ ⟨_, ⟨rfl, rfl, rfl⟩, rfl⟩
    refine XOA.cl ?_
    refine zN ?_; refine zT ?_; refine zS ?_; refine zR ?_; refine zO rfl Rd.mv ?_; refine zO rfl (Rd.fA rfl) ?_; refine zO rfl (Rd.ldC rfl (tyrow rfl) rfl) ?_; refine zO rfl (Rd.lenSlice (tyrow rfl) rfl rfl) ?_; refine zO rfl Rd.mv ?_
    refine XOA.join (List.take_append_drop 11 _).symm [(20, 20), (25, 35)] (fun _ : Unit => [(20, ptr b), (35, .bool (decide ((l.length : Int) ≠ partsOf op ∨ (k ≠ 0 ∧ op ≠ 1))))]) (fun _ σ' Γ' => σ = σ' ∧ Γ' = [Judge b (.slice p n c) ((e.one deep).fail (decide (partsOf op < 0)) 2), blk g4 [i64 op, i64 v, i64 k, .slice pl l.length cl] 93]) ?_ ?_
    · 
      by_cases h1 : (l.length : Int) = partsOf op
      · by_cases h2 : k = 0
        · have hb : decide ((l.length : Int) ≠ partsOf op ∨ (k ≠ 0 ∧ op ≠ 1)) = false := decide_eq_false (by omega)
          rw [hb]
          refine zO rfl (Rd.neq rfl rfl) ?_
          refine zO rfl Rd.mv ?_
          first | ((first | refine zW ?_ | refine zQ ?_); refine zO rfl (Rd.fA rfl) ?_) | refine zU ?_ | refine zV ?_ | refine zZ ?_
          first | ((first | refine zW ?_ | refine zQ ?_); refine zO rfl (Rd.ldC rfl (tyrow rfl) rfl) ?_) | refine zU ?_ | refine zV ?_ | refine zZ ?_
          first | ((first | refine zW ?_ | refine zQ ?_); refine zO rfl (Rd.neq rfl rfl) ?_) | refine zU ?_ | refine zV ?_ | refine zZ ?_
          first | ((first | refine zW ?_ | refine zQ ?_); refine zO rfl Rd.mv ?_) | refine zU ?_ | refine zV ?_ | refine zZ ?_
          first | ((first | refine zW ?_ | refine zQ ?_); refine zO rfl (Rd.fA rfl) ?_) | refine zU ?_ | refine zV ?_ | refine zZ ?_
          first | ((first | refine zW ?_ | refine zQ ?_); refine zO rfl (Rd.ldC rfl (tyrow rfl) rfl) ?_) | refine zU ?_ | refine zV ?_ | refine zZ ?_
          first | ((first | refine zW ?_ | refine zQ ?_); refine zO rfl (Rd.neq rfl rfl) ?_) | refine zU ?_ | refine zV ?_ | refine zZ ?_
          first | ((first | refine zW ?_ | refine zQ ?_); refine zO rfl (by first | exact Rd.pT rfl | exact Rd.pF rfl | exact Rd.pP rfl) ?_) | refine zU ?_ | refine zV ?_ | refine zZ ?_
          refine zO rfl (by first | exact Rd.pT rfl | exact Rd.pF rfl | exact Rd.pP rfl) ?_
          refine zN ?_; refine zT ?_
          refine ⟨(Keep.upd (Keep.upd (Keep.upd (Keep.upd (Keep.upd (Keep.upd (Keep.upd (Keep.upd (Keep.upd (Keep.upd (Keep.upd (Keep.refl _ _) rfl) rfl) rfl) rfl) rfl) rfl) rfl) rfl) rfl) rfl) rfl), (), _, (by (repeat (first | exact trivial | refine ⟨rfl, ?_⟩ | refine ⟨Eq.trans rfl (congrArg Value.bool hmat.symm), ?_⟩)); (first | done | fail)), ?_, ⟨rfl, rfl⟩⟩
          · exact zE
        · have hb : decide ((l.length : Int) ≠ partsOf op ∨ (k ≠ 0 ∧ op ≠ 1)) = decide (op ≠ 1) := by rw [decide_eq_decide]; omega
          rw [hb]
          refine zO rfl (Rd.neq rfl rfl) ?_
          refine zO rfl Rd.mv ?_
          first | ((first | refine zW ?_ | refine zQ ?_); refine zO rfl (Rd.fA rfl) ?_) | refine zU ?_ | refine zV ?_ | refine zZ ?_
          first | ((first | refine zW ?_ | refine zQ ?_); refine zO rfl (Rd.ldC rfl (tyrow rfl) rfl) ?_) | refine zU ?_ | refine zV ?_ | refine zZ ?_
          first | ((first | refine zW ?_ | refine zQ ?_); refine zO rfl (Rd.neq rfl rfl) ?_) | refine zU ?_ | refine zV ?_ | refine zZ ?_
          first | ((first | refine zW ?_ | refine zQ ?_); refine zO rfl Rd.mv ?_) | refine zU ?_ | refine zV ?_ | refine zZ ?_
          first | ((first | refine zW ?_ | refine zQ ?_); refine zO rfl (Rd.fA rfl) ?_) | refine zU ?_ | refine zV ?_ | refine zZ ?_
          first | ((first | refine zW ?_ | refine zQ ?_); refine zO rfl (Rd.ldC rfl (tyrow rfl) rfl) ?_) | refine zU ?_ | refine zV ?_ | refine zZ ?_
          first | ((first | refine zW ?_ | refine zQ ?_); refine zO rfl (Rd.neq rfl rfl) ?_) | refine zU ?_ | refine zV ?_ | refine zZ ?_
          first | ((first | refine zW ?_ | refine zQ ?_); refine zO rfl (by first | exact Rd.pT rfl | exact Rd.pF rfl | exact Rd.pP rfl) ?_) | refine zU ?_ | refine zV ?_ | refine zZ ?_
          refine zO rfl (by first | exact Rd.pT rfl | exact Rd.pF rfl | exact Rd.pP rfl) ?_
          refine zN ?_; refine zT ?_
          refine ⟨(Keep.upd (Keep.upd (Keep.upd (Keep.upd (Keep.upd (Keep.upd (Keep.upd (Keep.upd (Keep.upd (Keep.upd (Keep.upd (Keep.refl _ _) rfl) rfl) rfl) rfl) rfl) rfl) rfl) rfl) rfl) rfl) rfl), (), _, (by (repeat (first | exact trivial | refine ⟨rfl, ?_⟩ | refine ⟨Eq.trans rfl (congrArg Value.bool hmat.symm), ?_⟩)); (first | done | fail)), ?_, ⟨rfl, rfl⟩⟩
          · exact zE
      · have hb : decide ((l.length : Int) ≠ partsOf op ∨ (k ≠ 0 ∧ op ≠ 1)) = true := decide_eq_true (by omega)
        rw [hb]
        refine zO rfl (Rd.neq rfl rfl) ?_
        refine zO rfl Rd.mv ?_
        first | ((first | refine zW ?_ | refine zQ ?_); refine zO rfl (Rd.fA rfl) ?_) | refine zU ?_ | refine zV ?_ | refine zZ ?_
        first | ((first | refine zW ?_ | refine zQ ?_); refine zO rfl (Rd.ldC rfl (tyrow rfl) rfl) ?_) | refine zU ?_ | refine zV ?_ | refine zZ ?_
        first | ((first | refine zW ?_ | refine zQ ?_); refine zO rfl (Rd.neq rfl rfl) ?_) | refine zU ?_ | refine zV ?_ | refine zZ ?_
        first | ((first | refine zW ?_ | refine zQ ?_); refine zO rfl Rd.mv ?_) | refine zU ?_ | refine zV ?_ | refine zZ ?_
        first | ((first | refine zW ?_ | refine zQ ?_); refine zO rfl (Rd.fA rfl) ?_) | refine zU ?_ | refine zV ?_ | refine zZ ?_
        first | ((first | refine zW ?_ | refine zQ ?_); refine zO rfl (Rd.ldC rfl (tyrow rfl) rfl) ?_) | refine zU ?_ | refine zV ?_ | refine zZ ?_
        first | ((first | refine zW ?_ | refine zQ ?_); refine zO rfl (Rd.neq rfl rfl) ?_) | refine zU ?_ | refine zV ?_ | refine zZ ?_
        first | ((first | refine zW ?_ | refine zQ ?_); refine zO rfl (by first | exact Rd.pT rfl | exact Rd.pF rfl | exact Rd.pP rfl) ?_) | refine zU ?_ | refine zV ?_ | refine zZ ?_
        refine zO rfl (by first | exact Rd.pT rfl | exact Rd.pF rfl | exact Rd.pP rfl) ?_
        refine zN ?_; refine zT ?_
        refine ⟨(Keep.upd (Keep.upd (Keep.upd (Keep.upd (Keep.upd (Keep.upd (Keep.upd (Keep.upd (Keep.upd (Keep.upd (Keep.upd (Keep.refl _ _) rfl) rfl) rfl) rfl) rfl) rfl) rfl) rfl) rfl) rfl) rfl), (), _, (by (repeat (first | exact trivial | refine ⟨rfl, ?_⟩ | refine ⟨Eq.trans rfl (congrArg Value.bool hmat.symm), ?_⟩)); (first | done | fail)), ?_, ⟨rfl, rfl⟩⟩
        · exact zE
    rintro - δ1 _ _ ⟨rfl, rfl⟩
    dsimp only [ovr, List.foldl]
    refine zw rfl (WrA.cE (fail_a σ b _ _ (decide ((l.length : Int) ≠ partsOf op ∨ (k ≠ 0 ∧ op ≠ 1))) 5 (by decide)) rfl) ?_
    rintro _ _ _ ⟨_, ⟨rfl, rfl, rfl⟩, rfl⟩
    refine XOA.cl ?_
    refine zN ?_; refine zT ?_; refine zS ?_; refine zR ?_; refine zO rfl Rd.mv ?_; refine zO rfl (Rd.fA rfl) ?_; refine zO rfl (Rd.ldC rfl (tyrow rfl) rfl) ?_; refine zO rfl (Rd.fA rfl) ?_; refine zO rfl (Rd.ldC rfl (tyrow rfl) rfl) ?_; refine zO rfl (Rd.eql rfl rfl) ?_
    refine XOA.join (List.take_append_drop 5 _).symm [(37, 37), (39, 39), (43, 47)] (fun _ : Unit => [(37, ptr b), (39, i64 v), (47, .bool (decide (op = 2 ∨ op = 3)))]) (fun _ σ' Γ' => σ = σ' ∧ Γ' = [Judge b (.slice p n c) (((e.one deep).fail (decide (partsOf op < 0)) 2).fail (decide ((l.length : Int) ≠ partsOf op ∨ (k ≠ 0 ∧ op ≠ 1))) 5), blk g4 [i64 op, i64 v, i64 k, .slice pl l.length cl] 93]) ?_ ?_
    · 
      by_cases h1 : op = 2
      · have hb : decide (op = 2 ∨ op = 3) = true := decide_eq_true (by omega)
        rw [hb]
        refine zO rfl Rd.mv ?_
        first | ((first | refine zW ?_ | refine zQ ?_); refine zO rfl (Rd.fA rfl) ?_) | refine zU ?_ | refine zV ?_ | refine zZ ?_
        first | ((first | refine zW ?_ | refine zQ ?_); refine zO rfl (Rd.ldC rfl (tyrow rfl) rfl) ?_) | refine zU ?_ | refine zV ?_ | refine zZ ?_
        first | ((first | refine zW ?_ | refine zQ ?_); refine zO rfl (Rd.eql rfl rfl) ?_) | refine zU ?_ | refine zV ?_ | refine zZ ?_
        refine zO rfl (by first | exact Rd.pT rfl | exact Rd.pF rfl | exact Rd.pP rfl) ?_
        refine zN ?_; refine zT ?_
        refine ⟨(Keep.upd (Keep.upd (Keep.upd (Keep.upd (Keep.upd (Keep.refl _ _) rfl) rfl) rfl) rfl) rfl), (), _, (by (repeat (first | exact trivial | refine ⟨rfl, ?_⟩ | refine ⟨Eq.trans rfl (congrArg Value.bool hmat.symm), ?_⟩)); (first | done | fail)), ?_, ⟨rfl, rfl⟩⟩
        · exact zE
      · have hb : decide (op = 2 ∨ op = 3) = decide (op = 3) := by rw [decide_eq_decide]; omega
        rw [hb]
        refine zO rfl Rd.mv ?_
        first | ((first | refine zW ?_ | refine zQ ?_); refine zO rfl (Rd.fA rfl) ?_) | refine zU ?_ | refine zV ?_ | refine zZ ?_
        first | ((first | refine zW ?_ | refine zQ ?_); refine zO rfl (Rd.ldC rfl (tyrow rfl) rfl) ?_) | refine zU ?_ | refine zV ?_ | refine zZ ?_
        first | ((first | refine zW ?_ | refine zQ ?_); refine zO rfl (Rd.eql rfl rfl) ?_) | refine zU ?_ | refine zV ?_ | refine zZ ?_
        refine zO rfl (by first | exact Rd.pT rfl | exact Rd.pF rfl | exact Rd.pP rfl) ?_
        refine zN ?_; refine zT ?_
        refine ⟨(Keep.upd (Keep.upd (Keep.upd (Keep.upd (Keep.upd (Keep.refl _ _) rfl) rfl) rfl) rfl) rfl), (), _, (by (repeat (first | exact trivial | refine ⟨rfl, ?_⟩ | refine ⟨Eq.trans rfl (congrArg Value.bool hmat.symm), ?_⟩)); (first | done | fail)), ?_, ⟨rfl, rfl⟩⟩
        · exact zE
    rintro - δ2 _ _ ⟨rfl, rfl⟩
    dsimp only [ovr, List.foldl]
    refine zw rfl (WrA.cE (named_a σ b p n c _ v (decide (op = 2 ∨ op = 3))) rfl) ?_
    rintro _ _ _ ⟨_, ⟨rfl, rfl, rfl⟩, rfl⟩
    refine XOA.cl ?_
    refine zN ?_; refine zT ?_; refine zS ?_; refine zR ?_; refine zO rfl (Rd.fA rfl) ?_; refine zO rfl (Rd.ldC rfl (tyrow rfl) rfl) ?_; refine zO rfl (Rd.lenSlice (tyrow rfl) rfl rfl) ?_; refine zO rfl Rd.mv ?_; refine zN ?_; refine zT ?_
    refine XA.block ?_
    refine XA.gen [(0, _), (2, _), (50, _), (51, _), (52, _)] ⟨(by with_reducible (conv => lhs; whnf)), (by with_reducible (conv => lhs; whnf)), (by with_reducible (conv => lhs; whnf)), (by with_reducible (conv => lhs; whnf)), (by with_reducible (conv => lhs; whnf)), trivial⟩ (fun δ => ?_)
    dsimp only [List.foldl]
    refine XA.loop [(8, 8), (52, 66)] (fun q : Nat => [(52, i64 q)]) (fun q σ' Γ' => σ = σ' ∧ q ≤ l.length ∧ Γ' = [Judge b (.slice p n c) (exsE n (deep + 1) (l.take q) (exHead n deep op v k l.length e)), blk g4 [i64 op, i64 v, i64 k, .slice pl l.length cl] 93]) (fun q => l.length - q) 0 (by exact ⟨rfl, trivial⟩) (Δ0 := _) ?_ (⟨rfl, Nat.zero_le _, rfl⟩) ?_
    · rw [List.take_zero, exsE]; exact zE
    rintro q δ _ _ ⟨rfl, hq, rfl⟩
    dsimp only [ovr, List.foldl]
    refine zS ?_; refine zR ?_; refine zO rfl (Rd.lss rfl rfl) ?_; refine zN ?_; refine zT ?_; refine zS ?_
    refine XA.condp rfl (fun hlt => ?_) (fun hlt => ?_)
    · have hlt : q < l.length := by omega
      obtain ⟨x', hx'⟩ : ∃ x', l[q]? = some x' := ⟨_, List.getElem?_eq_getElem hlt⟩
      obtain ⟨g, o, row, rfl, hrx, hrl, hrow⟩ := hl.at hx'
      have hone := hrx.ones
      have e1 := exsE_snoc n (deep + 1) l q x' (exHead n deep op v k l.length e) hx'
      have hin2 : (exsE n (deep + 1) (l.take q) (exHead n deep op v k l.length e)).in_ := in_of (Down.exsE n (l.take q)) (in_of (Down.exHead n op v k l.length) hin deep) (deep + 1)
      refine XA.skip ?_
      refine zT ?_; refine zS ?_
      refine XA.block ?_
      refine zS ?_; refine zR ?_
      refine zO rfl (Rd.ixS rfl rfl) ?_
      refine zO rfl (Rd.ldA rfl) ?_
      refine zw rfl (WrA.alloc (tyrow rfl)) ?_
      rintro _ _ _ ⟨g8, rfl, rfl, rfl⟩
      refine zw rfl (WrA.st (tyrow rfl) rfl) ?_
      rintro _ _ _ ⟨rfl, rfl, rfl⟩
      refine zN ?_; refine zT ?_; refine zS ?_; refine zR ?_; refine zO rfl Rd.mv ?_
      cases hst : exsE n (deep + 1) (l.take q) (exHead n deep op v k l.length e) with
      | error c' =>
        rw [hst, exE_err] at e1
        first | refine XA.opn (R := Judge b (.slice p n c) (.error c')) (by ((repeat (first | with_reducible exact Sel.head | apply Sel.tail)); (first | done | fail))) (Judge.errO) ?_ | refine XOA.opn (R := Judge b (.slice p n c) (.error c')) (by ((repeat (first | with_reducible exact Sel.head | apply Sel.tail)); (first | done | fail))) (Judge.errO) ?_ | refine DA.opn (R := Judge b (.slice p n c) (.error c')) (by ((repeat (first | with_reducible exact Sel.head | apply Sel.tail)); (first | done | fail))) (Judge.errO) ?_
        rintro lf h0
        first | refine XA.cl ?_ | refine XOA.cl ?_ | refine DA.cl ?_
        refine zO rfl (Rd.nilCheck rfl) ?_; refine zO rfl (Rd.fA rfl) ?_; refine zO rfl (Rd.ldC rfl (tyrow rfl) rfl) ?_; refine zO rfl (Rd.eql rfl rfl) ?_; refine zN ?_; refine zT ?_
        refine XA.condF rfl (decide_eq_false h0) ?_
        refine XA.skip ?_
        refine DA.inb_normal ?_
        refine zT ?_; refine zR ?_
        refine zO rfl (by first | exact Rd.adi rfl rfl | exact Rd.add rfl rfl) ?_
        refine zO rfl Rd.mv ?_; refine zN ?_; refine zT ?_
        refine ⟨(Keep.upd (Keep.upd (Keep.upd (Keep.upd (Keep.upd (Keep.upd (Keep.upd (Keep.updN (Keep.updO (Keep.upd (Keep.upd (Keep.upd (Keep.upd (Keep.hav (Keep.hav (Keep.refl _ _) rfl) rfl) rfl) rfl) rfl) rfl) rfl)) rfl) rfl) rfl) rfl) rfl) rfl) rfl), q + 1, [Judge b (.slice p n c) (.error c'), _], (by (repeat (first | exact trivial | refine ⟨rfl, ?_⟩ | refine ⟨Eq.trans rfl (congrArg Value.bool hmat.symm), ?_⟩)); (first | done | fail)), ?_, ⟨rfl, hlt, by rw [e1]⟩, (by omega)⟩
        · exact Ent.foldC (Θ := [_]) (by (repeat (first | exact Ent.all _ | (apply Ent.take; focus (first | ((repeat (first | with_reducible exact Sel.head | apply Sel.tail)); done) | ((repeat (first | exact Sel.head | apply Sel.tail)); done))) | apply Ent.takeNil | apply Ent.takeEmp)); (first | done | fail)) (Judge.mkE h0) zE
      | ok a =>
        rw [hst] at e1 hin2
        first | refine XA.opn (R := Judge b (.slice p n c) (.ok a)) (by ((repeat (first | with_reducible exact Sel.head | apply Sel.tail)); (first | done | fail))) (Judge.okO) ?_ | refine XOA.opn (R := Judge b (.slice p n c) (.ok a)) (by ((repeat (first | with_reducible exact Sel.head | apply Sel.tail)); (first | done | fail))) (Judge.okO) ?_ | refine DA.opn (R := Judge b (.slice p n c) (.ok a)) (by ((repeat (first | with_reducible exact Sel.head | apply Sel.tail)); (first | done | fail))) (Judge.okO) ?_
        rintro ⟨⟩ -
        first | refine XA.cl ?_ | refine XOA.cl ?_ | refine DA.cl ?_
        refine zO rfl (Rd.nilCheck rfl) ?_; refine zO rfl (Rd.fA rfl) ?_; refine zO rfl (Rd.ldC rfl (tyrow rfl) rfl) ?_; refine zO rfl (Rd.eql rfl rfl) ?_; refine zN ?_; refine zT ?_
        refine XA.condT rfl rfl ?_
        refine zR ?_; refine zO rfl Rd.mv ?_; refine zO rfl (Rd.ldA rfl) ?_; refine zO rfl Rd.mv ?_
        refine zO rfl (by first | exact Rd.adi rfl rfl | exact Rd.add rfl rfl) ?_
        refine XOA.ent (Ent.foldC (Θ := [_]) (by (repeat (first | exact Ent.all _ | (apply Ent.take; focus (first | ((repeat (first | with_reducible exact Sel.head | apply Sel.tail)); done) | ((repeat (first | exact Sel.head | apply Sel.tail)); done))) | apply Ent.takeNil | apply Ent.takeEmp)); (first | done | fail)) (Judge.mkO (l := a)) (Ent.refl _)) ?_
        refine zw rfl (WrA.cE (ih x' (List.mem_of_getElem? hx') row b p n c (.ok a) (deep + 1) hrx hin2 (by omega) (by omega)) rfl) ?_
        rintro _ _ _ ⟨_, ⟨rfl, rfl, rfl⟩, rfl⟩
        refine XOA.cl ?_
        refine zN ?_
        refine DA.inb_normal ?_
        refine zT ?_; refine zR ?_
        refine zO rfl (by first | exact Rd.adi rfl rfl | exact Rd.add rfl rfl) ?_
        refine zO rfl Rd.mv ?_; refine zN ?_; refine zT ?_
        refine ⟨(Keep.upd (Keep.upd (Keep.updO (Keep.upd (Keep.upd (Keep.upd (Keep.upd (Keep.upd (Keep.upd (Keep.upd (Keep.upd (Keep.upd (Keep.updN (Keep.updO (Keep.upd (Keep.upd (Keep.upd (Keep.upd (Keep.hav (Keep.hav (Keep.refl _ _) rfl) rfl) rfl) rfl) rfl) rfl) rfl)) rfl) rfl) rfl) rfl) rfl) rfl) rfl) rfl) rfl) rfl) rfl) rfl), q + 1, _, (by (repeat (first | exact trivial | refine ⟨rfl, ?_⟩ | refine ⟨Eq.trans rfl (congrArg Value.bool hmat.symm), ?_⟩)); (first | done | fail)), ?_, ⟨rfl, hlt, by rw [e1]⟩, (by omega)⟩
        · exact zE
    have hqn : q = l.length := by omega
    subst hqn
    rw [List.take_length]
    refine XA.exit ?_
    refine DA.thn_exit ?_
    refine DA.thn_exit ?_
    refine DA.inb_same ?_
    exact bodyA.normal (ResA.none rfl) zE ⟨rfl, rfl, rfl⟩
end Go.Proofs.Ytmnmcjdgnpgchaa

namespace Go.Proofs.Ytmnmcjdgnpgchaa
open Go X
set_option maxHeartbeats 1000000
def StmtOK (σ : PH) (x : St) : Prop := ∀ (cs : List Value) (b : Nat) (p : Option Addr) (n c : Nat) (e : JE) (deep : Int), StAt σ cs x → e.in_ → 0 ≤ deep → deep ≤ 900 →
  CallsA Try.prog 88 #[ptr b, .agg cs.toArray, i64 deep] σ [Judge b (.slice p n c) e] (RetA fun r σ' Γ' => r = .tuple #[] ∧ σ = σ' ∧ Γ' = [Judge b (.slice p n c) (stE n deep x e)])
theorem list_a (σ : PH) (l : List St) (ih : ∀ x ∈ l, StmtOK σ x) (sl : Value) (b : Nat) (p : Option Addr) (n c : Nat) (e : JE) (deep : Int) (hl : PSl 12 StAt σ sl l) (hin : e.in_) (hd0 : 0 ≤ deep) (hd1 : deep ≤ 900) :
    CallsA Try.prog 71 #[ptr b, sl, i64 deep] σ [Judge b (.slice p n c) e] (RetA fun r σ' Γ' => r = .tuple #[] ∧ σ = σ' ∧ Γ' = [Judge b (.slice p n c) (stsE n deep l e)]) := by
  obtain ⟨pl, cl, rfl, hle, hmx⟩ := hl.shape
  have hlen : l.length ≤ maxLen := by omega
  simp only [maxLen] at hlen
  refine enterA3 Try.func71 rfl rfl rfl ?_
  refine zS ?_; refine zR ?_; refine zO rfl Rd.mv ?_; refine zO rfl (Rd.lenSlice (tyrow rfl) rfl rfl) ?_; refine zO rfl Rd.mv ?_; refine zN ?_; refine zT ?_
  refine XA.block ?_
  refine XA.gen [(0, _), (2, _), (8, _), (9, _), (10, _)] ⟨(by with_reducible (conv => lhs; whnf)), (by with_reducible (conv => lhs; whnf)), (by with_reducible (conv => lhs; whnf)), (by with_reducible (conv => lhs; whnf)), (by with_reducible (conv => lhs; whnf)), trivial⟩ (fun δ => ?_)
  dsimp only [List.foldl]
  refine XA.loop [(7, 7), (10, 23)] (fun q : Nat => [(10, i64 q)]) (fun q σ' Γ' => σ = σ' ∧ q ≤ l.length ∧ Γ' = [Judge b (.slice p n c) (stsE n deep (l.take q) e)]) (fun q => l.length - q) 0 (by exact ⟨rfl, trivial⟩) (Δ0 := _) ?_ (⟨rfl, Nat.zero_le _, rfl⟩) ?_
  · rw [List.take_zero, stsE]; exact zE
  rintro q δ _ _ ⟨rfl, hq, rfl⟩
  dsimp only [ovr, List.foldl]
  refine zS ?_; refine zR ?_; refine zO rfl (Rd.lss rfl rfl) ?_; refine zN ?_; refine zT ?_; refine zS ?_
  refine XA.condp rfl (fun hlt => ?_) (fun hlt => ?_)
  · have hlt : q < l.length := by omega
    obtain ⟨x', hx'⟩ : ∃ x', l[q]? = some x' := ⟨_, List.getElem?_eq_getElem hlt⟩
    obtain ⟨g, o, row, rfl, hrx, hrl, hrow⟩ := hl.at hx'
    have hone := hrx.ones
    have e1 := stsE_snoc n deep l q x' e hx'
    have hin2 : (stsE n deep (l.take q) e).in_ := in_of (Down.stsE n (l.take q)) hin deep
    refine XA.skip ?_
    refine zT ?_; refine zS ?_
    refine XA.block ?_
    refine zS ?_; refine zR ?_
    refine zO rfl (Rd.ixS rfl rfl) ?_
    refine zO rfl (Rd.ldA rfl) ?_
    refine zw rfl (WrA.alloc (tyrow rfl)) ?_
    rintro _ _ _ ⟨g7, rfl, rfl, rfl⟩
    refine zw rfl (WrA.st (tyrow rfl) rfl) ?_
    rintro _ _ _ ⟨rfl, rfl, rfl⟩
    refine zN ?_; refine zT ?_; refine zS ?_; refine zR ?_; refine zO rfl Rd.mv ?_
    cases hst : stsE n deep (l.take q) e with
    | error c' =>
      rw [hst, stE_err] at e1
      first | refine XA.opn (R := Judge b (.slice p n c) (.error c')) (by ((repeat (first | with_reducible exact Sel.head | apply Sel.tail)); (first | done | fail))) (Judge.errO) ?_ | refine XOA.opn (R := Judge b (.slice p n c) (.error c')) (by ((repeat (first | with_reducible exact Sel.head | apply Sel.tail)); (first | done | fail))) (Judge.errO) ?_ | refine DA.opn (R := Judge b (.slice p n c) (.error c')) (by ((repeat (first | with_reducible exact Sel.head | apply Sel.tail)); (first | done | fail))) (Judge.errO) ?_
      rintro lf h0
      first | refine XA.cl ?_ | refine XOA.cl ?_ | refine DA.cl ?_
      refine zO rfl (Rd.nilCheck rfl) ?_; refine zO rfl (Rd.fA rfl) ?_; refine zO rfl (Rd.ldC rfl (tyrow rfl) rfl) ?_; refine zO rfl (Rd.eql rfl rfl) ?_; refine zN ?_; refine zT ?_
      refine XA.condF rfl (decide_eq_false h0) ?_
      refine XA.skip ?_
      refine DA.inb_normal ?_
      refine zT ?_; refine zR ?_
      refine zO rfl (by first | exact Rd.adi rfl rfl | exact Rd.add rfl rfl) ?_
      refine zO rfl Rd.mv ?_; refine zN ?_; refine zT ?_
      refine ⟨(Keep.upd (Keep.upd (Keep.upd (Keep.upd (Keep.upd (Keep.upd (Keep.upd (Keep.updN (Keep.updO (Keep.upd (Keep.upd (Keep.upd (Keep.upd (Keep.hav (Keep.hav (Keep.refl _ _) rfl) rfl) rfl) rfl) rfl) rfl) rfl)) rfl) rfl) rfl) rfl) rfl) rfl) rfl), q + 1, [Judge b (.slice p n c) (.error c')], (by (repeat (first | exact trivial | refine ⟨rfl, ?_⟩ | refine ⟨Eq.trans rfl (congrArg Value.bool hmat.symm), ?_⟩)); (first | done | fail)), ?_, ⟨rfl, hlt, by rw [e1]⟩, (by omega)⟩
      · exact Ent.foldC (Θ := [_]) (by (repeat (first | exact Ent.all _ | (apply Ent.take; focus (first | ((repeat (first | with_reducible exact Sel.head | apply Sel.tail)); done) | ((repeat (first | exact Sel.head | apply Sel.tail)); done))) | apply Ent.takeNil | apply Ent.takeEmp)); (first | done | fail)) (Judge.mkE h0) zE
    | ok a =>
      rw [hst] at e1 hin2
      first | refine XA.opn (R := Judge b (.slice p n c) (.ok a)) (by ((repeat (first | with_reducible exact Sel.head | apply Sel.tail)); (first | done | fail))) (Judge.okO) ?_ | refine XOA.opn (R := Judge b (.slice p n c) (.ok a)) (by ((repeat (first | with_reducible exact Sel.head | apply Sel.tail)); (first | done | fail))) (Judge.okO) ?_ | refine DA.opn (R := Judge b (.slice p n c) (.ok a)) (by ((repeat (first | with_reducible exact Sel.head | apply Sel.tail)); (first | done | fail))) (Judge.okO) ?_
      rintro ⟨⟩ -
      first | refine XA.cl ?_ | refine XOA.cl ?_ | refine DA.cl ?_
      refine zO rfl (Rd.nilCheck rfl) ?_; refine zO rfl (Rd.fA rfl) ?_; refine zO rfl (Rd.ldC rfl (tyrow rfl) rfl) ?_; refine zO rfl (Rd.eql rfl rfl) ?_; refine zN ?_; refine zT ?_
      refine XA.condT rfl rfl ?_
      refine zR ?_; refine zO rfl Rd.mv ?_; refine zO rfl (Rd.ldA rfl) ?_; refine zO rfl Rd.mv ?_
      refine XOA.ent (Ent.foldC (Θ := [_]) (by (repeat (first | exact Ent.all _ | (apply Ent.take; focus (first | ((repeat (first | with_reducible exact Sel.head | apply Sel.tail)); done) | ((repeat (first | exact Sel.head | apply Sel.tail)); done))) | apply Ent.takeNil | apply Ent.takeEmp)); (first | done | fail)) (Judge.mkO (l := a)) (Ent.refl _)) ?_
      refine zw rfl (WrA.cE (ih x' (List.mem_of_getElem? hx') row b p n c (.ok a) deep hrx hin2 (by omega) (by omega)) rfl) ?_
      rintro _ _ _ ⟨_, ⟨rfl, rfl, rfl⟩, rfl⟩
      refine XOA.cl ?_
      refine zN ?_
      refine DA.inb_normal ?_
      refine zT ?_; refine zR ?_
      refine zO rfl (by first | exact Rd.adi rfl rfl | exact Rd.add rfl rfl) ?_
      refine zO rfl Rd.mv ?_; refine zN ?_; refine zT ?_
      refine ⟨(Keep.upd (Keep.upd (Keep.updO (Keep.upd (Keep.upd (Keep.upd (Keep.upd (Keep.upd (Keep.upd (Keep.upd (Keep.upd (Keep.updN (Keep.updO (Keep.upd (Keep.upd (Keep.upd (Keep.upd (Keep.hav (Keep.hav (Keep.refl _ _) rfl) rfl) rfl) rfl) rfl) rfl) rfl)) rfl) rfl) rfl) rfl) rfl) rfl) rfl) rfl) rfl) rfl) rfl), q + 1, _, (by (repeat (first | exact trivial | refine ⟨rfl, ?_⟩ | refine ⟨Eq.trans rfl (congrArg Value.bool hmat.symm), ?_⟩)); (first | done | fail)), ?_, ⟨rfl, hlt, by rw [e1]⟩, (by omega)⟩
      · exact zE
  have hqn : q = l.length := by omega
  subst hqn
  rw [List.take_length]
  refine XA.exit ?_
  refine DA.thn_exit ?_
  refine DA.thn_exit ?_
  refine DA.inb_same ?_
  exact bodyA.normal (ResA.none rfl) zE ⟨rfl, rfl, rfl⟩
theorem stmt_a (σ : PH) (x : St) : StmtOK σ x := by
  refine St.ind (P := StmtOK σ) ?_ x
  intro op v ex fx body els ih jh cs b p n c e deep hx hin hd0 hd1
  obtain ⟨pe, de, pf, df, pb, cb, pl, cl, rfl, -, -, hxe, hxf, hxb, hxl⟩ := hx.inv12
  simp only [St.op, St.v, St.e, St.f, St.body, St.els] at hxe hxf hxb hxl ⊢
  clear hx
  obtain ⟨cells, hcells⟩ : ∃ l, l = [i64 op, i64 v, i64 ex.op, i64 ex.v, i64 ex.n, .slice pe ex.l.length de, i64 fx.op, i64 fx.v, i64 fx.n, .slice pf fx.l.length df, .slice pb body.length cb, .slice pl els.length cl] := ⟨_, rfl⟩
  obtain ⟨ne, hne⟩ : ∃ q, q = noneX ex := ⟨_, rfl⟩
  obtain ⟨nf, hnf⟩ : ∃ q, q = noneX fx := ⟨_, rfl⟩
  obtain ⟨A1, hA1⟩ : ∃ A, A = (!needE op && !ne) := ⟨_, rfl⟩
  obtain ⟨A2, hA2⟩ : ∃ A, A = (!needF op && !nf) := ⟨_, rfl⟩
  obtain ⟨A3, hA3⟩ : ∃ A, A = (!needB op && decide ((0 : Int) < (body.length : Int))) := ⟨_, rfl⟩
  obtain ⟨A4, hA4⟩ : ∃ A, A = (!needO op && decide ((0 : Int) < (els.length : Int))) := ⟨_, rfl⟩
  have hform : stForm op ex fx body.length els.length = (((A1 || A2) || A3) || A4) := by rw [hA1, hA2, hA3, hA4, hne, hnf]; rfl
  refine enterA3 Try.func88 rfl rfl rfl ?_
  refine zS ?_; refine zR ?_
  refine zw rfl WrA.bx ?_
  rintro _ _ _ ⟨g4, rfl, rfl, rfl⟩
  refine zN ?_; refine zT ?_; refine zS ?_; refine zS ?_; refine zR ?_; refine zO rfl Rd.mv ?_; refine zO rfl Rd.mv ?_
  refine zw rfl (WrA.cE (one_a σ b (.slice p n c) e deep hin) rfl) ?_
  rintro _ _ _ ⟨_, ⟨rfl, rfl, rfl⟩, rfl⟩
  refine XOA.cl ?_
  cases hok : (e.one deep).isOk with
  | false =>
    obtain ⟨c', hc'⟩ := isOk_false hok
    have hp : stE n deep (.mk op v ex fx body els) e = .error c' := by rw [stE, stHead, hc', fail_err, fail_err, named_err, stEF_err, stsE_err, stsE_err]
    rw [hc', hp]
    refine zO rfl (by first | exact Rd.notp rfl | exact Rd.not rfl) ?_
    refine zN ?_; refine zT ?_
    refine XA.condT rfl rfl ?_
    refine XA.ret ?_
    refine DA.thn_ret ?_
    exact bodyA.ret (ResA.none rfl) zE ⟨rfl, rfl, rfl⟩
  | true =>
    have hd := one_ok hok
    refine zO rfl (by first | exact Rd.notp rfl | exact Rd.not rfl) ?_
    refine zN ?_; refine zT ?_
    refine XA.condF rfl rfl ?_
    refine XA.skip ?_
    refine zT ?_; refine zS ?_; refine zR ?_; refine zO rfl Rd.mv ?_; refine zO rfl (Rd.fA rfl) ?_; refine zO rfl (Rd.ldC rfl (tyrow rfl) rfl) ?_
    refine XOA.join (List.take_append_drop 6 _).symm [(15, 15), (18, 23)] (fun _ : Unit => [(15, ptr b), (23, .bool (decide (op < 1 ∨ 7 < op)))]) (fun _ σ' Γ' => σ = σ' ∧ Γ' = [Judge b (.slice p n c) (e.one deep), blk g4 cells 95]) ?_ ?_
    · 
      by_cases h1 : op < 1
      · have hb : decide (op < 1 ∨ 7 < op) = true := decide_eq_true (by omega)
        rw [hb]
        refine zO rfl (Rd.lss rfl rfl) ?_; refine zO rfl Rd.mv ?_
        first | ((first | refine zW ?_ | refine zQ ?_); refine zO rfl (Rd.fA rfl) ?_) | refine zU ?_ | refine zV ?_ | refine zZ ?_
        first | ((first | refine zW ?_ | refine zQ ?_); refine zO rfl (Rd.ldC rfl (tyrow rfl) rfl) ?_) | refine zU ?_ | refine zV ?_ | refine zZ ?_
        first | ((first | refine zW ?_ | refine zQ ?_); refine zO rfl (Rd.gtr rfl rfl) ?_) | refine zU ?_ | refine zV ?_ | refine zZ ?_
        refine zO rfl (by first | exact Rd.pT rfl | exact Rd.pF rfl | exact Rd.pP rfl) ?_
        refine zN ?_; refine zT ?_
        refine ⟨(Keep.upd (Keep.upd (Keep.upd (Keep.upd (Keep.upd (Keep.upd (Keep.refl _ _) rfl) rfl) rfl) rfl) rfl) rfl), (), _, (by (repeat (first | exact trivial | refine ⟨rfl, ?_⟩ | refine ⟨Eq.trans rfl (congrArg Value.bool hmat.symm), ?_⟩)); (first | done | fail)), ?_, ⟨rfl, rfl⟩⟩
        · rw [hcells]; exact zE
      · have hb : decide (op < 1 ∨ 7 < op) = decide (7 < op) := by rw [decide_eq_decide]; omega
        rw [hb]
        refine zO rfl (Rd.lss rfl rfl) ?_; refine zO rfl Rd.mv ?_
        first | ((first | refine zW ?_ | refine zQ ?_); refine zO rfl (Rd.fA rfl) ?_) | refine zU ?_ | refine zV ?_ | refine zZ ?_
        first | ((first | refine zW ?_ | refine zQ ?_); refine zO rfl (Rd.ldC rfl (tyrow rfl) rfl) ?_) | refine zU ?_ | refine zV ?_ | refine zZ ?_
        first | ((first | refine zW ?_ | refine zQ ?_); refine zO rfl (Rd.gtr rfl rfl) ?_) | refine zU ?_ | refine zV ?_ | refine zZ ?_
        refine zO rfl (by first | exact Rd.pT rfl | exact Rd.pF rfl | exact Rd.pP rfl) ?_
        refine zN ?_; refine zT ?_
        refine ⟨(Keep.upd (Keep.upd (Keep.upd (Keep.upd (Keep.upd (Keep.upd (Keep.refl _ _) rfl) rfl) rfl) rfl) rfl) rfl), (), _, (by (repeat (first | exact trivial | refine ⟨rfl, ?_⟩ | refine ⟨Eq.trans rfl (congrArg Value.bool hmat.symm), ?_⟩)); (first | done | fail)), ?_, ⟨rfl, rfl⟩⟩
        · rw [hcells]; exact zE
    rintro - δ1 _ _ ⟨rfl, rfl⟩
    dsimp only [ovr, List.foldl]
    rw [hcells]
    refine zw rfl (WrA.cE (fail_a σ b _ _ (decide (op < 1 ∨ 7 < op)) 2 (by decide)) rfl) ?_
    rintro _ _ _ ⟨_, ⟨rfl, rfl, rfl⟩, rfl⟩
    refine XOA.cl ?_
    refine zN ?_; refine zT ?_; refine zS ?_; refine zR ?_; refine zO rfl (Rd.fA rfl) ?_; refine zO rfl (Rd.ldC rfl (tyrow rfl) rfl) ?_
    refine zw rfl (WrA.cE (chas_a σ op) rfl) ?_
    rintro _ _ _ ⟨_, ⟨rfl, rfl, rfl⟩, rfl⟩
    refine XOA.cl ?_
    refine zO rfl Rd.mv ?_
    refine zO rfl (Rd.extract rfl rfl) ?_
    refine zO rfl (Rd.extract rfl rfl) ?_
    refine zO rfl (Rd.extract rfl rfl) ?_
    refine zO rfl (Rd.extract rfl rfl) ?_
    refine zO rfl (Rd.extract rfl rfl) ?_
    refine zO rfl Rd.asg ?_; refine zO rfl Rd.asg ?_; refine zO rfl Rd.asg ?_; refine zO rfl Rd.asg ?_; refine zO rfl Rd.asg ?_; refine zN ?_; refine zT ?_; refine zS ?_; refine zR ?_
    obtain ⟨E2, hE2⟩ : ∃ E, E = (e.one deep).fail (decide (op < 1 ∨ 7 < op)) 2 := ⟨_, rfl⟩
    rw [← hE2, ← hcells]
    refine XOA.join (List.take_append_drop 10 _).symm [(34, 43)] (fun _ : Unit => [(34, ptr b), (43, .bool A1)]) (fun _ σ' Γ' => σ = σ' ∧ Γ' = [Judge b (.slice p n c) E2, blk g4 cells 95]) ?_ ?_
    · rw [hcells]
      cases hn : needE op with
      | true =>
        have hb : A1 = false := by rw [hA1, hn]; rfl
        rw [hb]
        refine zO rfl Rd.mv ?_; refine zO rfl Rd.mv ?_
        refine zO rfl (by first | exact Rd.notp rfl | exact Rd.not rfl) ?_
        refine zO rfl Rd.mv ?_
        first | ((first | refine zW ?_ | refine zQ ?_); refine zO rfl (Rd.fA rfl) ?_) | refine zU ?_ | refine zV ?_ | refine zZ ?_
        first | ((first | refine zW ?_ | refine zQ ?_); refine zO rfl (Rd.ldA rfl) ?_) | refine zU ?_ | refine zV ?_ | refine zZ ?_
        first | refine zU ?_ | refine zV ?_ | refine zZ ?_
        first | ((first | refine zW ?_ | refine zQ ?_); refine zO rfl (by first | exact Rd.notp rfl | exact Rd.not rfl) ?_) | refine zU ?_ | refine zV ?_ | refine zZ ?_
        refine zO rfl (by first | exact Rd.pT rfl | exact Rd.pF rfl | exact Rd.pP rfl) ?_
        refine zO rfl Rd.mv ?_; refine zN ?_; refine zT ?_
        refine ⟨(Keep.upd (Keep.upd (Keep.upd (Keep.upd (Keep.upd (Keep.upd (Keep.upd (Keep.upd (Keep.upd (Keep.upd (Keep.refl _ _) rfl) rfl) rfl) rfl) rfl) rfl) rfl) rfl) rfl) rfl), (), _, (by (repeat (first | exact trivial | refine ⟨rfl, ?_⟩ | refine ⟨Eq.trans rfl (congrArg Value.bool hmat.symm), ?_⟩)); (first | done | fail)), ?_, ⟨rfl, rfl⟩⟩
        · exact zE
      | false =>
        have hb : A1 = !ne := by rw [hA1, hn]; rfl
        rw [hb]
        refine zO rfl Rd.mv ?_; refine zO rfl Rd.mv ?_
        refine zO rfl (by first | exact Rd.notp rfl | exact Rd.not rfl) ?_
        refine zO rfl Rd.mv ?_
        first | ((first | refine zW ?_ | refine zQ ?_); refine zO rfl (Rd.fA rfl) ?_) | refine zU ?_ | refine zV ?_ | refine zZ ?_
        first | ((first | refine zW ?_ | refine zQ ?_); refine zO rfl (Rd.ldA rfl) ?_) | refine zU ?_ | refine zV ?_ | refine zZ ?_
        first | refine XOA.wanted rfl rfl ?_ | refine XOA.wq rfl rfl ?_
        refine zw rfl (WrA.cE (none_a σ _ _ hxe) rfl) ?_
        rintro _ _ _ ⟨_, ⟨rfl, rfl, rfl⟩, rfl⟩
        refine XOA.cl ?_
        rw [← hne]
        first | ((first | refine zW ?_ | refine zQ ?_); refine zO rfl (by first | exact Rd.notp rfl | exact Rd.not rfl) ?_) | refine zU ?_ | refine zV ?_ | refine zZ ?_
        refine zO rfl (by first | exact Rd.pT rfl | exact Rd.pF rfl | exact Rd.pP rfl) ?_
        refine zO rfl Rd.mv ?_; refine zN ?_; refine zT ?_
        refine ⟨(Keep.upd (Keep.upd (Keep.upd (Keep.updO (Keep.upd (Keep.upd (Keep.upd (Keep.upd (Keep.upd (Keep.upd (Keep.refl _ _) rfl) rfl) rfl) rfl) rfl) rfl) rfl) rfl) rfl) rfl), (), _, (by (repeat (first | exact trivial | refine ⟨rfl, ?_⟩ | refine ⟨Eq.trans rfl (congrArg Value.bool hmat.symm), ?_⟩)); (first | done | fail)), ?_, ⟨rfl, rfl⟩⟩
        · exact zE
    rintro - δ2 _ _ ⟨rfl, rfl⟩
    dsimp only [ovr, List.foldl]
    rw [hcells]
    obtain ⟨B2, hB2⟩ : ∃ A, A = (A1 || A2) := ⟨_, rfl⟩
    rw [← hcells]
    refine XOA.join (List.take_append_drop 10 _).symm [(34, 34), (44, 53)] (fun _ : Unit => [(34, ptr b), (53, .bool B2)]) (fun _ σ' Γ' => σ = σ' ∧ Γ' = [Judge b (.slice p n c) E2, blk g4 cells 95]) ?_ ?_
    · rw [hcells]
      cases A1 with
      | true =>
        have hb : B2 = true := by rw [hB2]; rfl
        rw [hb]
        first | ((first | refine zW ?_ | refine zQ ?_); refine zO rfl Rd.mv ?_) | refine zU ?_ | refine zV ?_ | refine zZ ?_
        first | ((first | refine zW ?_ | refine zQ ?_); refine zO rfl (by first | exact Rd.notp rfl | exact Rd.not rfl) ?_) | refine zU ?_ | refine zV ?_ | refine zZ ?_
        first | ((first | refine zW ?_ | refine zQ ?_); refine zO rfl Rd.mv ?_) | refine zU ?_ | refine zV ?_ | refine zZ ?_
        first | ((first | refine zW ?_ | refine zQ ?_); refine zO rfl (Rd.fA rfl) ?_) | refine zU ?_ | refine zV ?_ | refine zZ ?_
        first | ((first | refine zW ?_ | refine zQ ?_); refine zO rfl (Rd.ldA rfl) ?_) | refine zU ?_ | refine zV ?_ | refine zZ ?_
        first | refine zU ?_ | refine zV ?_ | refine zZ ?_
        first | ((first | refine zW ?_ | refine zQ ?_); refine zO rfl (by first | exact Rd.notp rfl | exact Rd.not rfl) ?_) | refine zU ?_ | refine zV ?_ | refine zZ ?_
        first | ((first | refine zW ?_ | refine zQ ?_); refine zO rfl (by first | exact Rd.pT rfl | exact Rd.pF rfl | exact Rd.pP rfl) ?_) | refine zU ?_ | refine zV ?_ | refine zZ ?_
        refine zO rfl (by first | exact Rd.pT rfl | exact Rd.pF rfl | exact Rd.pP rfl) ?_
        refine zO rfl Rd.mv ?_; refine zN ?_; refine zT ?_
        refine ⟨(Keep.upd (Keep.upd (Keep.upd (Keep.upd (Keep.upd (Keep.upd (Keep.upd (Keep.upd (Keep.upd (Keep.upd (Keep.refl _ _) rfl) rfl) rfl) rfl) rfl) rfl) rfl) rfl) rfl) rfl), (), _, (by (repeat (first | exact trivial | refine ⟨rfl, ?_⟩ | refine ⟨Eq.trans rfl (congrArg Value.bool hmat.symm), ?_⟩)); (first | done | fail)), ?_, ⟨rfl, rfl⟩⟩
        · exact zE
      | false =>
        rw [Bool.false_or] at hB2
        cases hn : needF op with
        | true =>
          have hb : B2 = false := by rw [hB2, hA2, hn]; rfl
          rw [hb]
          first | ((first | refine zW ?_ | refine zQ ?_); refine zO rfl Rd.mv ?_) | refine zU ?_ | refine zV ?_ | refine zZ ?_
          first | ((first | refine zW ?_ | refine zQ ?_); refine zO rfl (by first | exact Rd.notp rfl | exact Rd.not rfl) ?_) | refine zU ?_ | refine zV ?_ | refine zZ ?_
          first | ((first | refine zW ?_ | refine zQ ?_); refine zO rfl Rd.mv ?_) | refine zU ?_ | refine zV ?_ | refine zZ ?_
          first | ((first | refine zW ?_ | refine zQ ?_); refine zO rfl (Rd.fA rfl) ?_) | refine zU ?_ | refine zV ?_ | refine zZ ?_
          first | ((first | refine zW ?_ | refine zQ ?_); refine zO rfl (Rd.ldA rfl) ?_) | refine zU ?_ | refine zV ?_ | refine zZ ?_
          first | refine zU ?_ | refine zV ?_ | refine zZ ?_
          first | ((first | refine zW ?_ | refine zQ ?_); refine zO rfl (by first | exact Rd.notp rfl | exact Rd.not rfl) ?_) | refine zU ?_ | refine zV ?_ | refine zZ ?_
          first | ((first | refine zW ?_ | refine zQ ?_); refine zO rfl (by first | exact Rd.pT rfl | exact Rd.pF rfl | exact Rd.pP rfl) ?_) | refine zU ?_ | refine zV ?_ | refine zZ ?_
          refine zO rfl (by first | exact Rd.pT rfl | exact Rd.pF rfl | exact Rd.pP rfl) ?_
          refine zO rfl Rd.mv ?_; refine zN ?_; refine zT ?_
          refine ⟨(Keep.upd (Keep.upd (Keep.upd (Keep.upd (Keep.upd (Keep.upd (Keep.upd (Keep.upd (Keep.upd (Keep.upd (Keep.refl _ _) rfl) rfl) rfl) rfl) rfl) rfl) rfl) rfl) rfl) rfl), (), _, (by (repeat (first | exact trivial | refine ⟨rfl, ?_⟩ | refine ⟨Eq.trans rfl (congrArg Value.bool hmat.symm), ?_⟩)); (first | done | fail)), ?_, ⟨rfl, rfl⟩⟩
          · exact zE
        | false =>
          have hb : B2 = !nf := by rw [hB2, hA2, hn]; rfl
          rw [hb]
          first | ((first | refine zW ?_ | refine zQ ?_); refine zO rfl Rd.mv ?_) | refine zU ?_ | refine zV ?_ | refine zZ ?_
          first | ((first | refine zW ?_ | refine zQ ?_); refine zO rfl (by first | exact Rd.notp rfl | exact Rd.not rfl) ?_) | refine zU ?_ | refine zV ?_ | refine zZ ?_
          first | ((first | refine zW ?_ | refine zQ ?_); refine zO rfl Rd.mv ?_) | refine zU ?_ | refine zV ?_ | refine zZ ?_
          first | ((first | refine zW ?_ | refine zQ ?_); refine zO rfl (Rd.fA rfl) ?_) | refine zU ?_ | refine zV ?_ | refine zZ ?_
          first | ((first | refine zW ?_ | refine zQ ?_); refine zO rfl (Rd.ldA rfl) ?_) | refine zU ?_ | refine zV ?_ | refine zZ ?_
          first | refine XOA.wanted rfl rfl ?_ | refine XOA.wq rfl rfl ?_
          refine zw rfl (WrA.cE (none_a σ _ _ hxf) rfl) ?_
          rintro _ _ _ ⟨_, ⟨rfl, rfl, rfl⟩, rfl⟩
          refine XOA.cl ?_
          rw [← hnf]
          first | ((first | refine zW ?_ | refine zQ ?_); refine zO rfl (by first | exact Rd.notp rfl | exact Rd.not rfl) ?_) | refine zU ?_ | refine zV ?_ | refine zZ ?_
          first | ((first | refine zW ?_ | refine zQ ?_); refine zO rfl (by first | exact Rd.pT rfl | exact Rd.pF rfl | exact Rd.pP rfl) ?_) | refine zU ?_ | refine zV ?_ | refine zZ ?_
          refine zO rfl (by first | exact Rd.pT rfl | exact Rd.pF rfl | exact Rd.pP rfl) ?_
          refine zO rfl Rd.mv ?_; refine zN ?_; refine zT ?_
          refine ⟨(Keep.upd (Keep.upd (Keep.upd (Keep.upd (Keep.updO (Keep.upd (Keep.upd (Keep.upd (Keep.upd (Keep.upd (Keep.refl _ _) rfl) rfl) rfl) rfl) rfl) rfl) rfl) rfl) rfl) rfl), (), _, (by (repeat (first | exact trivial | refine ⟨rfl, ?_⟩ | refine ⟨Eq.trans rfl (congrArg Value.bool hmat.symm), ?_⟩)); (first | done | fail)), ?_, ⟨rfl, rfl⟩⟩
          · exact zE
    rintro - δ3 _ _ ⟨rfl, rfl⟩
    dsimp only [ovr, List.foldl]
    obtain ⟨B3, hB3⟩ : ∃ A, A = (B2 || A3) := ⟨_, rfl⟩
    refine XOA.join (List.take_append_drop 10 _).symm [(34, 34), (54, 63)] (fun _ : Unit => [(34, ptr b), (63, .bool B3)]) (fun _ σ' Γ' => σ = σ' ∧ Γ' = [Judge b (.slice p n c) E2, blk g4 cells 95]) ?_ ?_
    · rw [hcells]
      cases hB : B2 with
      | true =>
        have hb : B3 = true := by rw [hB3, hB]; rfl
        rw [hb]
        first | ((first | refine zW ?_ | refine zQ ?_); refine zO rfl Rd.mv ?_) | refine zU ?_ | refine zV ?_ | refine zZ ?_
        first | ((first | refine zW ?_ | refine zQ ?_); refine zO rfl (by first | exact Rd.notp rfl | exact Rd.not rfl) ?_) | refine zU ?_ | refine zV ?_ | refine zZ ?_
        first | ((first | refine zW ?_ | refine zQ ?_); refine zO rfl Rd.mv ?_) | refine zU ?_ | refine zV ?_ | refine zZ ?_
        first | ((first | refine zW ?_ | refine zQ ?_); refine zO rfl (Rd.fA rfl) ?_) | refine zU ?_ | refine zV ?_ | refine zZ ?_
        first | ((first | refine zW ?_ | refine zQ ?_); refine zO rfl (Rd.ldC rfl (tyrow rfl) rfl) ?_) | refine zU ?_ | refine zV ?_ | refine zZ ?_
        first | ((first | refine zW ?_ | refine zQ ?_); refine zO rfl (Rd.lenSlice (tyrow rfl) rfl rfl) ?_) | refine zU ?_ | refine zV ?_ | refine zZ ?_
        first | ((first | refine zW ?_ | refine zQ ?_); refine zO rfl (Rd.gtr rfl rfl) ?_) | refine zU ?_ | refine zV ?_ | refine zZ ?_
        first | ((first | refine zW ?_ | refine zQ ?_); refine zO rfl (by first | exact Rd.pT rfl | exact Rd.pF rfl | exact Rd.pP rfl) ?_) | refine zU ?_ | refine zV ?_ | refine zZ ?_
        refine zO rfl (by first | exact Rd.pT rfl | exact Rd.pF rfl | exact Rd.pP rfl) ?_
        refine zO rfl Rd.mv ?_; refine zN ?_; refine zT ?_
        refine ⟨(Keep.upd (Keep.upd (Keep.upd (Keep.upd (Keep.upd (Keep.upd (Keep.upd (Keep.upd (Keep.upd (Keep.upd (Keep.refl _ _) rfl) rfl) rfl) rfl) rfl) rfl) rfl) rfl) rfl) rfl), (), _, (by (repeat (first | exact trivial | refine ⟨rfl, ?_⟩ | refine ⟨Eq.trans rfl (congrArg Value.bool hmat.symm), ?_⟩)); (first | done | fail)), ?_, ⟨rfl, rfl⟩⟩
        · exact zE
      | false =>
        rw [hB, Bool.false_or] at hB3
        cases hn : needB op with
        | true =>
          have hb : B3 = false := by rw [hB3, hA3, hn]; rfl
          rw [hb]
          first | ((first | refine zW ?_ | refine zQ ?_); refine zO rfl Rd.mv ?_) | refine zU ?_ | refine zV ?_ | refine zZ ?_
          first | ((first | refine zW ?_ | refine zQ ?_); refine zO rfl (by first | exact Rd.notp rfl | exact Rd.not rfl) ?_) | refine zU ?_ | refine zV ?_ | refine zZ ?_
          first | ((first | refine zW ?_ | refine zQ ?_); refine zO rfl Rd.mv ?_) | refine zU ?_ | refine zV ?_ | refine zZ ?_
          first | ((first | refine zW ?_ | refine zQ ?_); refine zO rfl (Rd.fA rfl) ?_) | refine zU ?_ | refine zV ?_ | refine zZ ?_
          first | ((first | refine zW ?_ | refine zQ ?_); refine zO rfl (Rd.ldC rfl (tyrow rfl) rfl) ?_) | refine zU ?_ | refine zV ?_ | refine zZ ?_
          first | ((first | refine zW ?_ | refine zQ ?_); refine zO rfl (Rd.lenSlice (tyrow rfl) rfl rfl) ?_) | refine zU ?_ | refine zV ?_ | refine zZ ?_
          first | ((first | refine zW ?_ | refine zQ ?_); refine zO rfl (Rd.gtr rfl rfl) ?_) | refine zU ?_ | refine zV ?_ | refine zZ ?_
          first | ((first | refine zW ?_ | refine zQ ?_); refine zO rfl (by first | exact Rd.pT rfl | exact Rd.pF rfl | exact Rd.pP rfl) ?_) | refine zU ?_ | refine zV ?_ | refine zZ ?_
          refine zO rfl (by first | exact Rd.pT rfl | exact Rd.pF rfl | exact Rd.pP rfl) ?_
          refine zO rfl Rd.mv ?_; refine zN ?_; refine zT ?_
          refine ⟨(Keep.upd (Keep.upd (Keep.upd (Keep.upd (Keep.upd (Keep.upd (Keep.upd (Keep.upd (Keep.upd (Keep.upd (Keep.refl _ _) rfl) rfl) rfl) rfl) rfl) rfl) rfl) rfl) rfl) rfl), (), _, (by (repeat (first | exact trivial | refine ⟨rfl, ?_⟩ | refine ⟨Eq.trans rfl (congrArg Value.bool hmat.symm), ?_⟩)); (first | done | fail)), ?_, ⟨rfl, rfl⟩⟩
          · exact zE
        | false =>
          have hb : B3 = decide ((0 : Int) < (body.length : Int)) := by rw [hB3, hA3, hn]; rfl
          rw [hb]
          first | ((first | refine zW ?_ | refine zQ ?_); refine zO rfl Rd.mv ?_) | refine zU ?_ | refine zV ?_ | refine zZ ?_
          first | ((first | refine zW ?_ | refine zQ ?_); refine zO rfl (by first | exact Rd.notp rfl | exact Rd.not rfl) ?_) | refine zU ?_ | refine zV ?_ | refine zZ ?_
          first | ((first | refine zW ?_ | refine zQ ?_); refine zO rfl Rd.mv ?_) | refine zU ?_ | refine zV ?_ | refine zZ ?_
          first | ((first | refine zW ?_ | refine zQ ?_); refine zO rfl (Rd.fA rfl) ?_) | refine zU ?_ | refine zV ?_ | refine zZ ?_
          first | ((first | refine zW ?_ | refine zQ ?_); refine zO rfl (Rd.ldC rfl (tyrow rfl) rfl) ?_) | refine zU ?_ | refine zV ?_ | refine zZ ?_
          first | ((first | refine zW ?_ | refine zQ ?_); refine zO rfl (Rd.lenSlice (tyrow rfl) rfl rfl) ?_) | refine zU ?_ | refine zV ?_ | refine zZ ?_
          first | ((first | refine zW ?_ | refine zQ ?_); refine zO rfl (Rd.gtr rfl rfl) ?_) | refine zU ?_ | refine zV ?_ | refine zZ ?_
          first | ((first | refine zW ?_ | refine zQ ?_); refine zO rfl (by first | exact Rd.pT rfl | exact Rd.pF rfl | exact Rd.pP rfl) ?_) | refine zU ?_ | refine zV ?_ | refine zZ ?_
          refine zO rfl (by first | exact Rd.pT rfl | exact Rd.pF rfl | exact Rd.pP rfl) ?_
          refine zO rfl Rd.mv ?_; refine zN ?_; refine zT ?_
          refine ⟨(Keep.upd (Keep.upd (Keep.upd (Keep.upd (Keep.upd (Keep.upd (Keep.upd (Keep.upd (Keep.upd (Keep.upd (Keep.refl _ _) rfl) rfl) rfl) rfl) rfl) rfl) rfl) rfl) rfl) rfl), (), _, (by (repeat (first | exact trivial | refine ⟨rfl, ?_⟩ | refine ⟨Eq.trans rfl (congrArg Value.bool hmat.symm), ?_⟩)); (first | done | fail)), ?_, ⟨rfl, rfl⟩⟩
          · exact zE
    rintro - δ4 _ _ ⟨rfl, rfl⟩
    dsimp only [ovr, List.foldl]
    obtain ⟨B4, hB4⟩ : ∃ A, A = (B3 || A4) := ⟨_, rfl⟩
    refine XOA.join (List.take_append_drop 9 _).symm [(34, 34), (64, 72)] (fun _ : Unit => [(34, ptr b), (72, .bool B4)]) (fun _ σ' Γ' => σ = σ' ∧ Γ' = [Judge b (.slice p n c) E2, blk g4 cells 95]) ?_ ?_
    · rw [hcells]
      cases hB : B3 with
      | true =>
        have hb : B4 = true := by rw [hB4, hB]; rfl
        rw [hb]
        first | ((first | refine zW ?_ | refine zQ ?_); refine zO rfl Rd.mv ?_) | refine zU ?_ | refine zV ?_ | refine zZ ?_
        first | ((first | refine zW ?_ | refine zQ ?_); refine zO rfl (by first | exact Rd.notp rfl | exact Rd.not rfl) ?_) | refine zU ?_ | refine zV ?_ | refine zZ ?_
        first | ((first | refine zW ?_ | refine zQ ?_); refine zO rfl Rd.mv ?_) | refine zU ?_ | refine zV ?_ | refine zZ ?_
        first | ((first | refine zW ?_ | refine zQ ?_); refine zO rfl (Rd.fA rfl) ?_) | refine zU ?_ | refine zV ?_ | refine zZ ?_
        first | ((first | refine zW ?_ | refine zQ ?_); refine zO rfl (Rd.ldC rfl (tyrow rfl) rfl) ?_) | refine zU ?_ | refine zV ?_ | refine zZ ?_
        first | ((first | refine zW ?_ | refine zQ ?_); refine zO rfl (Rd.lenSlice (tyrow rfl) rfl rfl) ?_) | refine zU ?_ | refine zV ?_ | refine zZ ?_
        first | ((first | refine zW ?_ | refine zQ ?_); refine zO rfl (Rd.gtr rfl rfl) ?_) | refine zU ?_ | refine zV ?_ | refine zZ ?_
        first | ((first | refine zW ?_ | refine zQ ?_); refine zO rfl (by first | exact Rd.pT rfl | exact Rd.pF rfl | exact Rd.pP rfl) ?_) | refine zU ?_ | refine zV ?_ | refine zZ ?_
        refine zO rfl (by first | exact Rd.pT rfl | exact Rd.pF rfl | exact Rd.pP rfl) ?_
        refine zN ?_; refine zT ?_
        refine ⟨(Keep.upd (Keep.upd (Keep.upd (Keep.upd (Keep.upd (Keep.upd (Keep.upd (Keep.upd (Keep.upd (Keep.refl _ _) rfl) rfl) rfl) rfl) rfl) rfl) rfl) rfl) rfl), (), _, (by (repeat (first | exact trivial | refine ⟨rfl, ?_⟩ | refine ⟨Eq.trans rfl (congrArg Value.bool hmat.symm), ?_⟩)); (first | done | fail)), ?_, ⟨rfl, rfl⟩⟩
        · exact zE
      | false =>
        rw [hB, Bool.false_or] at hB4
        cases hn : needO op with
        | true =>
          have hb : B4 = false := by rw [hB4, hA4, hn]; rfl
          rw [hb]
          first | ((first | refine zW ?_ | refine zQ ?_); refine zO rfl Rd.mv ?_) | refine zU ?_ | refine zV ?_ | refine zZ ?_
          first | ((first | refine zW ?_ | refine zQ ?_); refine zO rfl (by first | exact Rd.notp rfl | exact Rd.not rfl) ?_) | refine zU ?_ | refine zV ?_ | refine zZ ?_
          first | ((first | refine zW ?_ | refine zQ ?_); refine zO rfl Rd.mv ?_) | refine zU ?_ | refine zV ?_ | refine zZ ?_
          first | ((first | refine zW ?_ | refine zQ ?_); refine zO rfl (Rd.fA rfl) ?_) | refine zU ?_ | refine zV ?_ | refine zZ ?_
          first | ((first | refine zW ?_ | refine zQ ?_); refine zO rfl (Rd.ldC rfl (tyrow rfl) rfl) ?_) | refine zU ?_ | refine zV ?_ | refine zZ ?_
          first | ((first | refine zW ?_ | refine zQ ?_); refine zO rfl (Rd.lenSlice (tyrow rfl) rfl rfl) ?_) | refine zU ?_ | refine zV ?_ | refine zZ ?_
          first | ((first | refine zW ?_ | refine zQ ?_); refine zO rfl (Rd.gtr rfl rfl) ?_) | refine zU ?_ | refine zV ?_ | refine zZ ?_
          first | ((first | refine zW ?_ | refine zQ ?_); refine zO rfl (by first | exact Rd.pT rfl | exact Rd.pF rfl | exact Rd.pP rfl) ?_) | refine zU ?_ | refine zV ?_ | refine zZ ?_
          refine zO rfl (by first | exact Rd.pT rfl | exact Rd.pF rfl | exact Rd.pP rfl) ?_
          refine zN ?_; refine zT ?_
          refine ⟨(Keep.upd (Keep.upd (Keep.upd (Keep.upd (Keep.upd (Keep.upd (Keep.upd (Keep.upd (Keep.upd (Keep.refl _ _) rfl) rfl) rfl) rfl) rfl) rfl) rfl) rfl) rfl), (), _, (by (repeat (first | exact trivial | refine ⟨rfl, ?_⟩ | refine ⟨Eq.trans rfl (congrArg Value.bool hmat.symm), ?_⟩)); (first | done | fail)), ?_, ⟨rfl, rfl⟩⟩
          · exact zE
        | false =>
          have hb : B4 = decide ((0 : Int) < (els.length : Int)) := by rw [hB4, hA4, hn]; rfl
          rw [hb]
          first | ((first | refine zW ?_ | refine zQ ?_); refine zO rfl Rd.mv ?_) | refine zU ?_ | refine zV ?_ | refine zZ ?_
          first | ((first | refine zW ?_ | refine zQ ?_); refine zO rfl (by first | exact Rd.notp rfl | exact Rd.not rfl) ?_) | refine zU ?_ | refine zV ?_ | refine zZ ?_
          first | ((first | refine zW ?_ | refine zQ ?_); refine zO rfl Rd.mv ?_) | refine zU ?_ | refine zV ?_ | refine zZ ?_
          first | ((first | refine zW ?_ | refine zQ ?_); refine zO rfl (Rd.fA rfl) ?_) | refine zU ?_ | refine zV ?_ | refine zZ ?_
          first | ((first | refine zW ?_ | refine zQ ?_); refine zO rfl (Rd.ldC rfl (tyrow rfl) rfl) ?_) | refine zU ?_ | refine zV ?_ | refine zZ ?_
          first | ((first | refine zW ?_ | refine zQ ?_); refine zO rfl (Rd.lenSlice (tyrow rfl) rfl rfl) ?_) | refine zU ?_ | refine zV ?_ | refine zZ ?_
          first | ((first | refine zW ?_ | refine zQ ?_); refine zO rfl (Rd.gtr rfl rfl) ?_) | refine zU ?_ | refine zV ?_ | refine zZ ?_
          first | ((first | refine zW ?_ | refine zQ ?_); refine zO rfl (by first | exact Rd.pT rfl | exact Rd.pF rfl | exact Rd.pP rfl) ?_) | refine zU ?_ | refine zV ?_ | refine zZ ?_
          refine zO rfl (by first | exact Rd.pT rfl | exact Rd.pF rfl | exact Rd.pP rfl) ?_
          refine zN ?_; refine zT ?_
          refine ⟨(Keep.upd (Keep.upd (Keep.upd (Keep.upd (Keep.upd (Keep.upd (Keep.upd (Keep.upd (Keep.upd (Keep.refl _ _) rfl) rfl) rfl) rfl) rfl) rfl) rfl) rfl) rfl), (), _, (by (repeat (first | exact trivial | refine ⟨rfl, ?_⟩ | refine ⟨Eq.trans rfl (congrArg Value.bool hmat.symm), ?_⟩)); (first | done | fail)), ?_, ⟨rfl, rfl⟩⟩
          · exact zE
    rintro - δ5 _ _ ⟨rfl, rfl⟩
    dsimp only [ovr, List.foldl]
    rw [show B4 = stForm op ex fx body.length els.length by rw [hform, hB4, hB3, hB2], hcells]
    refine zw rfl (WrA.cE (fail_a σ b _ _ (stForm op ex fx body.length els.length) 5 (by decide)) rfl) ?_
    rintro _ _ _ ⟨_, ⟨rfl, rfl, rfl⟩, rfl⟩
    refine XOA.cl ?_
    refine zN ?_; refine zT ?_; refine zS ?_; refine zR ?_; refine zO rfl Rd.mv ?_; refine zO rfl (Rd.fA rfl) ?_; refine zO rfl (Rd.ldC rfl (tyrow rfl) rfl) ?_; refine zO rfl Rd.mv ?_
    refine zw rfl (WrA.cE (named_a σ b p n c _ v (needV op)) rfl) ?_
    rintro _ _ _ ⟨_, ⟨rfl, rfl, rfl⟩, rfl⟩
    refine XOA.cl ?_
    obtain ⟨H, hH⟩ : ∃ H, H = stHead n deep op v ex fx body.length els.length e := ⟨_, rfl⟩
    have hHi : H.in_ := by rw [hH]; exact in_of (Down.stHead n op v ex fx body.length els.length) hin deep
    rw [show JE.named (JE.fail E2 (stForm op ex fx body.length els.length) 5) n v (needV op) = H by rw [hH, stHead, hE2]]
    have hpost : stE n deep (.mk op v ex fx body els) e = stsE n (deep + 1) els (stsE n (deep + 1) body (stEF n (deep + 1) op ex fx H)) := by rw [stE, hH]
    rw [hpost]
    clear hpost hform hB4 hB3 hB2 hA1 hA2 hA3 hA4 hne hnf hH hE2
    rw [← hcells]
    obtain ⟨H1, hH1⟩ : ∃ H1, H1 = if needE op then exE n (deep + 1) ex H else H := ⟨_, rfl⟩
    have hH1i : H1.in_ := by
      rw [hH1]; split
      · exact in_of (Down.exE n ex) hHi (deep + 1)
      · exact hHi
    obtain ⟨H2, hH2⟩ : ∃ H2, H2 = stEF n (deep + 1) op ex fx H := ⟨_, rfl⟩
    have hH2i : H2.in_ := by rw [hH2]; exact in_of (Down.stEF n op ex fx) hHi (deep + 1)
    have hH1' := hH1
    have hH2' : H2 = if needF op then exE n (deep + 1) fx H1 else H1 := by rw [hH2, hH1]; rfl
    rw [← hH2]
    refine zN ?_; refine zT ?_; refine zS ?_; refine zS ?_; refine zR ?_
    refine XOA.join (List.take_append_drop 8 _).symm [(79, 86)] (fun _ : Unit => [(86, .bool (needE op && H.isOk))]) (fun _ σ' Γ' => σ = σ' ∧ Γ' = [Judge b (.slice p n c) H, blk g4 cells 95]) ?_ ?_
    · 
      cases hn : needE op with
      | false =>
        rw [Bool.false_and]
        refine zO rfl Rd.mv ?_; refine zO rfl Rd.mv ?_
        first | ((first | refine zW ?_ | refine zQ ?_); refine zO rfl Rd.mv ?_) | refine zU ?_ | refine zV ?_ | refine zZ ?_
        first | ((first | refine zW ?_ | refine zQ ?_); refine zO rfl (Rd.nilCheck rfl) ?_) | refine zU ?_ | refine zV ?_ | refine zZ ?_
        first | ((first | refine zW ?_ | refine zQ ?_); refine zO rfl (Rd.fA rfl) ?_) | refine zU ?_ | refine zV ?_ | refine zZ ?_
        first | ((first | refine zW ?_ | refine zQ ?_); refine zO rfl (Rd.ldC rfl (tyrow rfl) rfl) ?_) | refine zU ?_ | refine zV ?_ | refine zZ ?_
        first | ((first | refine zW ?_ | refine zQ ?_); refine zO rfl (Rd.eql rfl rfl) ?_) | refine zU ?_ | refine zV ?_ | refine zZ ?_
        refine zO rfl (by first | exact Rd.pT rfl | exact Rd.pF rfl | exact Rd.pP rfl) ?_
        refine zN ?_; refine zT ?_
        refine ⟨(Keep.upd (Keep.upd (Keep.upd (Keep.upd (Keep.upd (Keep.upd (Keep.upd (Keep.upd (Keep.refl _ _) rfl) rfl) rfl) rfl) rfl) rfl) rfl) rfl), (), _, (by (repeat (first | exact trivial | refine ⟨rfl, ?_⟩ | refine ⟨Eq.trans rfl (congrArg Value.bool hmat.symm), ?_⟩)); (first | done | fail)), ?_, ⟨rfl, rfl⟩⟩
        · exact zE
      | true =>
        rw [Bool.true_and]
        refine zO rfl Rd.mv ?_; refine zO rfl Rd.mv ?_
        first | ((first | refine zW ?_ | refine zQ ?_); refine zO rfl Rd.mv ?_) | refine zU ?_ | refine zV ?_ | refine zZ ?_
        first | refine XA.opn (R := Judge b (.slice p n c) H) (by ((repeat (first | with_reducible exact Sel.head | apply Sel.tail)); (first | done | fail))) (Judge.anyD) ?_ | refine XOA.opn (R := Judge b (.slice p n c) H) (by ((repeat (first | with_reducible exact Sel.head | apply Sel.tail)); (first | done | fail))) (Judge.anyD) ?_ | refine DA.opn (R := Judge b (.slice p n c) H) (by ((repeat (first | with_reducible exact Sel.head | apply Sel.tail)); (first | done | fail))) (Judge.anyD) ?_
        rintro ⟨l, cc⟩ ⟨hdec, hf⟩
        first | refine XA.cl ?_ | refine XOA.cl ?_ | refine DA.cl ?_
        rw [← hdec]
        first | ((first | refine zW ?_ | refine zQ ?_); refine zO rfl (Rd.nilCheck rfl) ?_) | refine zU ?_ | refine zV ?_ | refine zZ ?_
        first | ((first | refine zW ?_ | refine zQ ?_); refine zO rfl (Rd.fA rfl) ?_) | refine zU ?_ | refine zV ?_ | refine zZ ?_
        first | ((first | refine zW ?_ | refine zQ ?_); refine zO rfl (Rd.ldC rfl (tyrow rfl) rfl) ?_) | refine zU ?_ | refine zV ?_ | refine zZ ?_
        first | ((first | refine zW ?_ | refine zQ ?_); refine zO rfl (Rd.eql rfl rfl) ?_) | refine zU ?_ | refine zV ?_ | refine zZ ?_
        refine zO rfl (by first | exact Rd.pT rfl | exact Rd.pF rfl | exact Rd.pP rfl) ?_
        refine zN ?_; refine zT ?_
        refine ⟨(Keep.upd (Keep.upd (Keep.upd (Keep.upd (Keep.upd (Keep.upd (Keep.upd (Keep.upd (Keep.refl _ _) rfl) rfl) rfl) rfl) rfl) rfl) rfl) rfl), (), _, (by (repeat (first | exact trivial | refine ⟨rfl, ?_⟩ | refine ⟨Eq.trans rfl (congrArg Value.bool hmat.symm), ?_⟩)); (first | done | fail)), ?_, ⟨rfl, rfl⟩⟩
        · exact Ent.foldC (Θ := [_]) (by (repeat (first | exact Ent.all _ | (apply Ent.take; focus (first | ((repeat (first | with_reducible exact Sel.head | apply Sel.tail)); done) | ((repeat (first | exact Sel.head | apply Sel.tail)); done))) | apply Ent.takeNil | apply Ent.takeEmp)); (first | done | fail)) hf zE
    rintro - δ6 _ _ ⟨rfl, rfl⟩
    dsimp only [ovr, List.foldl]
    refine zN ?_; refine zT ?_
    refine XA.join [(87, 92)] (fun _ : Unit => []) (fun _ σ' Γ' => σ = σ' ∧ Γ' = [Judge b (.slice p n c) H1, blk g4 cells 95]) ?_ ?_
    · 
      refine XA.cond rfl (fun hq => ?_) (fun hq => ?_)
      · have hq1 : needE op = true ∧ H.isOk = true := by simpa using hq
        rw [hcells]
        refine zR ?_; refine zO rfl Rd.mv ?_; refine zO rfl (Rd.fA rfl) ?_; refine zO rfl (Rd.ldA rfl) ?_; refine zO rfl Rd.mv ?_
        refine zO rfl (by first | exact Rd.adi rfl rfl | exact Rd.add rfl rfl) ?_
        refine zw rfl (WrA.cE (expr_a σ ex _ b p n c H (deep + 1) hxe hHi (by omega) (by omega)) rfl) ?_
        rintro _ _ _ ⟨_, ⟨rfl, rfl, rfl⟩, rfl⟩
        refine XOA.cl ?_
        refine zN ?_; refine zT ?_
        rw [show H1 = exE n (deep + 1) ex H by rw [hH1', if_pos hq1.1]]
        refine ⟨(Keep.updO (Keep.upd (Keep.upd (Keep.upd (Keep.upd (Keep.upd (Keep.refl _ _) rfl) rfl) rfl) rfl) rfl) rfl), (), _, (by (repeat (first | exact trivial | refine ⟨rfl, ?_⟩ | refine ⟨Eq.trans rfl (congrArg Value.bool hmat.symm), ?_⟩)); (first | done | fail)), ?_, ⟨rfl, rfl⟩⟩
        · exact zE
      · have e1 : H1 = H := by
          rw [hH1']
          split
          · rename_i hn
            rw [hn, Bool.true_and] at hq
            obtain ⟨c', hc'⟩ := isOk_false hq
            rw [hc', exE_err]
          · rfl
        rw [e1]
        refine XA.skip ?_
        refine zT ?_
        refine ⟨(Keep.refl _ _), (), _, (by (repeat (first | exact trivial | refine ⟨rfl, ?_⟩ | refine ⟨Eq.trans rfl (congrArg Value.bool hmat.symm), ?_⟩)); (first | done | fail)), ?_, ⟨rfl, rfl⟩⟩
        · exact zE
    rintro - δ6' _ _ ⟨rfl, rfl⟩
    dsimp only [ovr, List.foldl]
    refine zT ?_; refine zS ?_; refine zS ?_; refine zR ?_
    refine XOA.join (List.take_append_drop 8 _).symm [(93, 100)] (fun _ : Unit => [(100, .bool (needF op && H1.isOk))]) (fun _ σ' Γ' => σ = σ' ∧ Γ' = [Judge b (.slice p n c) H1, blk g4 cells 95]) ?_ ?_
    · 
      cases hn : needF op with
      | false =>
        rw [Bool.false_and]
        refine zO rfl Rd.mv ?_; refine zO rfl Rd.mv ?_
        first | ((first | refine zW ?_ | refine zQ ?_); refine zO rfl Rd.mv ?_) | refine zU ?_ | refine zV ?_ | refine zZ ?_
        first | ((first | refine zW ?_ | refine zQ ?_); refine zO rfl (Rd.nilCheck rfl) ?_) | refine zU ?_ | refine zV ?_ | refine zZ ?_
        first | ((first | refine zW ?_ | refine zQ ?_); refine zO rfl (Rd.fA rfl) ?_) | refine zU ?_ | refine zV ?_ | refine zZ ?_
        first | ((first | refine zW ?_ | refine zQ ?_); refine zO rfl (Rd.ldC rfl (tyrow rfl) rfl) ?_) | refine zU ?_ | refine zV ?_ | refine zZ ?_
        first | ((first | refine zW ?_ | refine zQ ?_); refine zO rfl (Rd.eql rfl rfl) ?_) | refine zU ?_ | refine zV ?_ | refine zZ ?_
        refine zO rfl (by first | exact Rd.pT rfl | exact Rd.pF rfl | exact Rd.pP rfl) ?_
        refine zN ?_; refine zT ?_
        refine ⟨(Keep.upd (Keep.upd (Keep.upd (Keep.upd (Keep.upd (Keep.upd (Keep.upd (Keep.upd (Keep.refl _ _) rfl) rfl) rfl) rfl) rfl) rfl) rfl) rfl), (), _, (by (repeat (first | exact trivial | refine ⟨rfl, ?_⟩ | refine ⟨Eq.trans rfl (congrArg Value.bool hmat.symm), ?_⟩)); (first | done | fail)), ?_, ⟨rfl, rfl⟩⟩
        · exact zE
      | true =>
        rw [Bool.true_and]
        refine zO rfl Rd.mv ?_; refine zO rfl Rd.mv ?_
        first | ((first | refine zW ?_ | refine zQ ?_); refine zO rfl Rd.mv ?_) | refine zU ?_ | refine zV ?_ | refine zZ ?_
        first | refine XA.opn (R := Judge b (.slice p n c) H1) (by ((repeat (first | with_reducible exact Sel.head | apply Sel.tail)); (first | done | fail))) (Judge.anyD) ?_ | refine XOA.opn (R := Judge b (.slice p n c) H1) (by ((repeat (first | with_reducible exact Sel.head | apply Sel.tail)); (first | done | fail))) (Judge.anyD) ?_ | refine DA.opn (R := Judge b (.slice p n c) H1) (by ((repeat (first | with_reducible exact Sel.head | apply Sel.tail)); (first | done | fail))) (Judge.anyD) ?_
        rintro ⟨l, cc⟩ ⟨hdec, hf⟩
        first | refine XA.cl ?_ | refine XOA.cl ?_ | refine DA.cl ?_
        rw [← hdec]
        first | ((first | refine zW ?_ | refine zQ ?_); refine zO rfl (Rd.nilCheck rfl) ?_) | refine zU ?_ | refine zV ?_ | refine zZ ?_
        first | ((first | refine zW ?_ | refine zQ ?_); refine zO rfl (Rd.fA rfl) ?_) | refine zU ?_ | refine zV ?_ | refine zZ ?_
        first | ((first | refine zW ?_ | refine zQ ?_); refine zO rfl (Rd.ldC rfl (tyrow rfl) rfl) ?_) | refine zU ?_ | refine zV ?_ | refine zZ ?_
        first | ((first | refine zW ?_ | refine zQ ?_); refine zO rfl (Rd.eql rfl rfl) ?_) | refine zU ?_ | refine zV ?_ | refine zZ ?_
        refine zO rfl (by first | exact Rd.pT rfl | exact Rd.pF rfl | exact Rd.pP rfl) ?_
        refine zN ?_; refine zT ?_
        refine ⟨(Keep.upd (Keep.upd (Keep.upd (Keep.upd (Keep.upd (Keep.upd (Keep.upd (Keep.upd (Keep.refl _ _) rfl) rfl) rfl) rfl) rfl) rfl) rfl) rfl), (), _, (by (repeat (first | exact trivial | refine ⟨rfl, ?_⟩ | refine ⟨Eq.trans rfl (congrArg Value.bool hmat.symm), ?_⟩)); (first | done | fail)), ?_, ⟨rfl, rfl⟩⟩
        · exact Ent.foldC (Θ := [_]) (by (repeat (first | exact Ent.all _ | (apply Ent.take; focus (first | ((repeat (first | with_reducible exact Sel.head | apply Sel.tail)); done) | ((repeat (first | exact Sel.head | apply Sel.tail)); done))) | apply Ent.takeNil | apply Ent.takeEmp)); (first | done | fail)) hf zE
    rintro - δ7 _ _ ⟨rfl, rfl⟩
    dsimp only [ovr, List.foldl]
    refine zN ?_; refine zT ?_
    refine XA.join [(101, 106)] (fun _ : Unit => []) (fun _ σ' Γ' => σ = σ' ∧ Γ' = [Judge b (.slice p n c) H2, blk g4 cells 95]) ?_ ?_
    · 
      refine XA.cond rfl (fun hq => ?_) (fun hq => ?_)
      · have hq1 : needF op = true ∧ H1.isOk = true := by simpa using hq
        rw [hcells]
        refine zR ?_; refine zO rfl Rd.mv ?_; refine zO rfl (Rd.fA rfl) ?_; refine zO rfl (Rd.ldA rfl) ?_; refine zO rfl Rd.mv ?_
        refine zO rfl (by first | exact Rd.adi rfl rfl | exact Rd.add rfl rfl) ?_
        refine zw rfl (WrA.cE (expr_a σ fx _ b p n c H1 (deep + 1) hxf hH1i (by omega) (by omega)) rfl) ?_
        rintro _ _ _ ⟨_, ⟨rfl, rfl, rfl⟩, rfl⟩
        refine XOA.cl ?_
        refine zN ?_; refine zT ?_
        rw [show H2 = exE n (deep + 1) fx H1 by rw [hH2', if_pos hq1.1]]
        refine ⟨(Keep.updO (Keep.upd (Keep.upd (Keep.upd (Keep.upd (Keep.upd (Keep.refl _ _) rfl) rfl) rfl) rfl) rfl) rfl), (), _, (by (repeat (first | exact trivial | refine ⟨rfl, ?_⟩ | refine ⟨Eq.trans rfl (congrArg Value.bool hmat.symm), ?_⟩)); (first | done | fail)), ?_, ⟨rfl, rfl⟩⟩
        · exact zE
      · have e1 : H2 = H1 := by
          rw [hH2']
          split
          · rename_i hn
            rw [hn, Bool.true_and] at hq
            obtain ⟨c', hc'⟩ := isOk_false hq
            rw [hc', exE_err]
          · rfl
        rw [e1]
        refine XA.skip ?_
        refine zT ?_
        refine ⟨(Keep.refl _ _), (), _, (by (repeat (first | exact trivial | refine ⟨rfl, ?_⟩ | refine ⟨Eq.trans rfl (congrArg Value.bool hmat.symm), ?_⟩)); (first | done | fail)), ?_, ⟨rfl, rfl⟩⟩
        · exact zE
    rintro - δ7' _ _ ⟨rfl, rfl⟩
    dsimp only [ovr, List.foldl]
    refine zT ?_
    rw [hcells]
    refine zS ?_; refine zR ?_; refine zO rfl Rd.mv ?_; refine zO rfl (Rd.fA rfl) ?_; refine zO rfl (Rd.ldC rfl (tyrow rfl) rfl) ?_; refine zO rfl Rd.mv ?_
    refine zO rfl (by first | exact Rd.adi rfl rfl | exact Rd.add rfl rfl) ?_
    refine zw rfl (WrA.cE (list_a σ body ih _ b p n c H2 (deep + 1) hxb hH2i (by omega) (by omega)) rfl) ?_
    rintro _ _ _ ⟨_, ⟨rfl, rfl, rfl⟩, rfl⟩
    refine XOA.cl ?_
    refine zN ?_; refine zT ?_; refine zR ?_; refine zO rfl Rd.mv ?_; refine zO rfl (Rd.fA rfl) ?_; refine zO rfl (Rd.ldC rfl (tyrow rfl) rfl) ?_; refine zO rfl Rd.mv ?_
    refine zO rfl (by first | exact Rd.adi rfl rfl | exact Rd.add rfl rfl) ?_
    refine zw rfl (WrA.cE (list_a σ els jh _ b p n c _ (deep + 1) hxl (in_of (Down.stsE n body) hH2i (deep + 1)) (by omega) (by omega)) rfl) ?_
    rintro _ _ _ ⟨_, ⟨rfl, rfl, rfl⟩, rfl⟩
    refine XOA.cl ?_
    refine zN ?_
    exact bodyA.normal (ResA.none rfl) zE ⟨rfl, rfl, rfl⟩
end Go.Proofs.Ytmnmcjdgnpgchaa

namespace Go.Proofs.Ytmnmcjdgnpgchaa
open Go X
set_option maxHeartbeats 1000000
theorem exsN_snoc {l : List Ex} {k : Nat} {x : Ex} (h : l[k]? = some x) : exsN (l.take (k + 1)) = exsN (l.take k) + exN x := by
  rw [List.take_add_one, h]; simp [exsN_app, exsN]
theorem stsN_snoc {l : List St} {k : Nat} {x : St} (h : l[k]? = some x) : stsN (l.take (k + 1)) = stsN (l.take k) + stN x := by
  rw [List.take_add_one, h]; simp [stsN_app, stsN]
def ExPartsOK (σ : PH) (x : Ex) : Prop := ∀ (cs : List Value) (most : Int), ExAt σ cs x → -1000000 ≤ most → most ≤ 1000000 →
  CallsA Try.prog 69 #[.agg cs.toArray, i64 most] σ [] (RetA fun v σ' Γ' => ∃ r : Int, v = i64 r ∧ (1 ≤ r ∧ (r ≤ most + 1 ∨ r ≤ 1) ∧ (r ≤ most → r = exN x)) ∧ σ = σ' ∧ Γ' = [])
theorem exprParts_a (σ : PH) (x : Ex) : ExPartsOK σ x := by
  refine Ex.ind (P := ExPartsOK σ) ?_ x
  intro op v k l ih cs most hx hm0 hm1
  obtain ⟨pl, cl, rfl, -, -, -, hl⟩ := hx.inv
  simp only [Ex.op, Ex.v, Ex.n, Ex.l] at hl ⊢
  clear hx
  have hlen : l.length ≤ maxLen := by
    obtain ⟨q, d, e1, h1, h2⟩ := hl.shape
    omega
  simp only [maxLen] at hlen
  refine enterA2 Try.func69 rfl rfl rfl ?_
  refine zS ?_; refine zR ?_
  refine zw rfl WrA.bx ?_
  rintro _ _ _ ⟨g2, rfl, rfl, rfl⟩
  refine zO rfl Rd.asg ?_; refine zN ?_; refine zT ?_; refine zS ?_; refine zR ?_; refine zO rfl Rd.asg ?_; refine zN ?_; refine zT ?_; refine zS ?_; refine zS ?_; refine zR ?_; refine zO rfl Rd.asg ?_; refine zN ?_; refine zT ?_
  refine XA.block ?_
  refine XA.gen [(1, _), (2, _), (4, _), (5, _), (6, _)] ⟨(by with_reducible (conv => lhs; whnf)), (by with_reducible (conv => lhs; whnf)), (by with_reducible (conv => lhs; whnf)), (by with_reducible (conv => lhs; whnf)), (by with_reducible (conv => lhs; whnf)), trivial⟩ (fun δ => ?_)
  dsimp only [List.foldl]
  refine XA.loop [(5, 29)] (fun q : Nat × Int => [(6, i64 q.1), (5, i64 q.2)]) (fun q σ' Γ' => σ = σ' ∧ q.1 ≤ l.length ∧ (1 ≤ q.2 ∧ (q.2 ≤ most + 1 ∨ q.2 ≤ 1) ∧ (q.2 ≤ most → q.2 = 1 + exsN (l.take q.1))) ∧ Γ' = [blk g2 [i64 op, i64 v, i64 k, .slice pl l.length cl] 93]) (fun q => l.length - q.1) (0, 1) (by exact ⟨rfl, rfl, trivial⟩) (Δ0 := _) ?_ (⟨rfl, Nat.zero_le _, ⟨by simp only; omega, by simp only; omega, fun _ => by simp [exsN]⟩, rfl⟩) ?_
  · exact zE
  rintro ⟨i, n⟩ δ _ _ ⟨rfl, hi, ⟨hn0, hn1, hn2⟩, rfl⟩
  dsimp only [ovr, List.foldl]
  have hi : i ≤ l.length := hi
  have hn0 : 1 ≤ n := hn0
  have hn1 : n ≤ most + 1 ∨ n ≤ 1 := hn1
  have hn2 : n ≤ most → n = 1 + exsN (l.take i) := hn2
  by_cases h1 : i < l.length
  · by_cases h2 : n ≤ most
    · obtain ⟨x', hx'⟩ : ∃ x', l[i]? = some x' := ⟨_, List.getElem?_eq_getElem h1⟩
      obtain ⟨g, o, row, rfl, hrx, hrl, hrow⟩ := hl.at hx'
      have hone := hrx.ones
      have e1 := exsN_snoc hx'
      have h2n := hn2 h2
      refine zS ?_; refine zS ?_; refine zR ?_; refine zO rfl Rd.mv ?_; refine zO rfl (Rd.fA rfl) ?_; refine zO rfl (Rd.ldC rfl (tyrow rfl) rfl) ?_; refine zO rfl (Rd.lenSlice (tyrow rfl) rfl rfl) ?_; refine zO rfl (Rd.lss rfl rfl) ?_; refine zO rfl Rd.mv ?_
      first | ((first | refine zW ?_ | refine zQ ?_); refine zO rfl Rd.mv ?_) | refine zU ?_ | refine zV ?_ | refine zZ ?_
      first | ((first | refine zW ?_ | refine zQ ?_); refine zO rfl Rd.mv ?_) | refine zU ?_ | refine zV ?_ | refine zZ ?_
      first | ((first | refine zW ?_ | refine zQ ?_); refine zO rfl (Rd.leq rfl rfl) ?_) | refine zU ?_ | refine zV ?_ | refine zZ ?_
      refine zO rfl (by first | exact Rd.pT rfl | exact Rd.pF rfl | exact Rd.pP rfl) ?_
      refine zN ?_; refine zT ?_
      refine XA.condT rfl (by first | rfl | exact (by first | exact (rfl : decide _ = true) | exact (rfl : decide _ = false) | (refine decide_eq_true ?_; assumption) | (refine decide_eq_false ?_; assumption) | (refine decide_eq_true ?_; omega) | (refine decide_eq_false ?_; omega))) ?_
      refine XA.skip ?_
      refine zT ?_; refine zS ?_
      refine XA.block ?_
      refine zR ?_; refine zO rfl Rd.mv ?_; refine zO rfl (Rd.fA rfl) ?_; refine zO rfl (Rd.ldC rfl (tyrow rfl) rfl) ?_; refine zO rfl Rd.mv ?_
      refine zO rfl (Rd.ixS rfl rfl) ?_
      refine zO rfl (Rd.ldA rfl) ?_; refine zO rfl Rd.mv ?_; refine zO rfl Rd.mv ?_
      refine zO rfl (by first | exact Rd.sbi rfl rfl | exact Rd.sub rfl rfl) ?_
      refine zw rfl (WrA.cE (ih x' (List.mem_of_getElem? hx') row (most - n) hrx (by omega) (by omega)) rfl) ?_
      rintro _ _ _ ⟨_, ⟨r, rfl, ⟨hr0, hr1, hr2⟩, rfl, rfl⟩, rfl⟩
      refine XOA.cl ?_
      refine zO rfl (by first | exact Rd.adi rfl rfl | exact Rd.add rfl rfl) ?_
      refine zO rfl Rd.asg ?_; refine zN ?_
      refine DA.inb_normal ?_
      refine zT ?_; refine zR ?_; refine zO rfl Rd.mv ?_
      refine zO rfl (by first | exact Rd.adi rfl rfl | exact Rd.add rfl rfl) ?_
      refine zO rfl Rd.asg ?_; refine zN ?_; refine zT ?_
      refine ⟨(Keep.upd (Keep.upd (Keep.upd (Keep.upd (Keep.upd (Keep.updO (Keep.upd (Keep.upd (Keep.upd (Keep.upd (Keep.upd (Keep.upd (Keep.upd (Keep.upd (Keep.upd (Keep.upd (Keep.upd (Keep.upd (Keep.upd (Keep.upd (Keep.upd (Keep.upd (Keep.upd (Keep.upd (Keep.upd (Keep.upd (Keep.upd (Keep.hav (Keep.refl _ _) rfl) rfl) rfl) rfl) rfl) rfl) rfl) rfl) rfl) rfl) rfl) rfl) rfl) rfl) rfl) rfl) rfl) rfl) rfl) rfl) rfl) rfl) rfl) rfl) rfl) rfl) rfl) rfl), (i + 1, n + r), _, (by (repeat (first | exact trivial | refine ⟨rfl, ?_⟩ | refine ⟨Eq.trans rfl (congrArg Value.bool hmat.symm), ?_⟩)); (first | done | fail)), ?_, ⟨rfl, h1, ⟨by simp only; omega, by simp only; omega, fun h => by simp only at h ⊢; have := hr2 (by omega); rw [e1]; omega⟩, rfl⟩, (by simp only; omega)⟩
      · exact zE
    · 
      refine zS ?_; refine zS ?_; refine zR ?_; refine zO rfl Rd.mv ?_; refine zO rfl (Rd.fA rfl) ?_; refine zO rfl (Rd.ldC rfl (tyrow rfl) rfl) ?_; refine zO rfl (Rd.lenSlice (tyrow rfl) rfl rfl) ?_; refine zO rfl (Rd.lss rfl rfl) ?_; refine zO rfl Rd.mv ?_
      first | ((first | refine zW ?_ | refine zQ ?_); refine zO rfl Rd.mv ?_) | refine zU ?_ | refine zV ?_ | refine zZ ?_
      first | ((first | refine zW ?_ | refine zQ ?_); refine zO rfl Rd.mv ?_) | refine zU ?_ | refine zV ?_ | refine zZ ?_
      first | ((first | refine zW ?_ | refine zQ ?_); refine zO rfl (Rd.leq rfl rfl) ?_) | refine zU ?_ | refine zV ?_ | refine zZ ?_
      refine zO rfl (by first | exact Rd.pT rfl | exact Rd.pF rfl | exact Rd.pP rfl) ?_
      refine zN ?_; refine zT ?_
      refine XA.condF rfl (by first | rfl | exact (by first | exact (rfl : decide _ = true) | exact (rfl : decide _ = false) | (refine decide_eq_true ?_; assumption) | (refine decide_eq_false ?_; assumption) | (refine decide_eq_true ?_; omega) | (refine decide_eq_false ?_; omega))) ?_
      refine XA.exit ?_
      refine DA.thn_exit ?_
      refine DA.thn_exit ?_
      refine DA.inb_same ?_
      refine zT ?_; refine zS ?_; refine zR ?_; refine zO rfl Rd.mv ?_; refine zO rfl Rd.asg ?_; refine zN ?_; refine zT ?_
      refine XA.ret ?_
      refine bodyA.ret (ResA.one rfl rfl) (Ent.nil _) ⟨n, rfl, ⟨hn0, hn1, fun h => absurd h h2⟩, rfl, rfl⟩
  · 
    have hil : i = l.length := by omega
    subst hil
    rw [List.take_length] at hn2
    refine zS ?_; refine zS ?_; refine zR ?_; refine zO rfl Rd.mv ?_; refine zO rfl (Rd.fA rfl) ?_; refine zO rfl (Rd.ldC rfl (tyrow rfl) rfl) ?_; refine zO rfl (Rd.lenSlice (tyrow rfl) rfl rfl) ?_; refine zO rfl (Rd.lss rfl rfl) ?_; refine zO rfl Rd.mv ?_
    first | ((first | refine zW ?_ | refine zQ ?_); refine zO rfl Rd.mv ?_) | refine zU ?_ | refine zV ?_ | refine zZ ?_
    first | ((first | refine zW ?_ | refine zQ ?_); refine zO rfl Rd.mv ?_) | refine zU ?_ | refine zV ?_ | refine zZ ?_
    first | ((first | refine zW ?_ | refine zQ ?_); refine zO rfl (Rd.leq rfl rfl) ?_) | refine zU ?_ | refine zV ?_ | refine zZ ?_
    refine zO rfl (by first | exact Rd.pT rfl | exact Rd.pF rfl | exact Rd.pP rfl) ?_
    refine zN ?_; refine zT ?_
    refine XA.condF rfl (by first | rfl | exact (by first | exact (rfl : decide _ = true) | exact (rfl : decide _ = false) | (refine decide_eq_true ?_; assumption) | (refine decide_eq_false ?_; assumption) | (refine decide_eq_true ?_; omega) | (refine decide_eq_false ?_; omega))) ?_
    refine XA.exit ?_
    refine DA.thn_exit ?_
    refine DA.thn_exit ?_
    refine DA.inb_same ?_
    refine zT ?_; refine zS ?_; refine zR ?_; refine zO rfl Rd.mv ?_; refine zO rfl Rd.asg ?_; refine zN ?_; refine zT ?_
    refine XA.ret ?_
    refine bodyA.ret (ResA.one rfl rfl) (Ent.nil _) ⟨n, rfl, ⟨hn0, hn1, fun h => by rw [hn2 h, exN]; omega⟩, rfl, rfl⟩
def StPartsOK (σ : PH) (l : List St) : Prop := ∀ (sl : Value) (most : Int), PSl 12 StAt σ sl l → -1000000 ≤ most → most ≤ 1000000 →
  CallsA Try.prog 40 #[sl, i64 most] σ [] (RetA fun v σ' Γ' => ∃ r : Int, v = i64 r ∧ (0 ≤ r ∧ (r ≤ 2 * most + 3 ∨ r ≤ 0) ∧ (r ≤ most → r = stsN l)) ∧ σ = σ' ∧ Γ' = [])
theorem stmtParts_l (σ : PH) (l : List St) (ih : ∀ x ∈ l, StPartsOK σ x.body ∧ StPartsOK σ x.els) : StPartsOK σ l := by
  intro sl most hl hm0 hm1
  obtain ⟨pl, cl, rfl, hle, hmx⟩ := hl.shape
  have hlen : l.length ≤ maxLen := by omega
  simp only [maxLen] at hlen
  refine enterA2 Try.func40 rfl rfl rfl ?_
  refine zS ?_; refine zR ?_; refine zO rfl Rd.asg ?_; refine zN ?_; refine zT ?_; refine zS ?_; refine zR ?_; refine zO rfl Rd.asg ?_; refine zN ?_; refine zT ?_; refine zS ?_; refine zS ?_; refine zR ?_; refine zO rfl Rd.asg ?_; refine zN ?_; refine zT ?_
  refine XA.block ?_
  refine XA.gen [(0, _), (1, _), (4, _), (5, _), (6, _)] ⟨(by with_reducible (conv => lhs; whnf)), (by with_reducible (conv => lhs; whnf)), (by with_reducible (conv => lhs; whnf)), (by with_reducible (conv => lhs; whnf)), (by with_reducible (conv => lhs; whnf)), trivial⟩ (fun δ => ?_)
  dsimp only [List.foldl]
  refine XA.loop [(5, 67)] (fun q : Nat × Int => [(6, i64 q.1), (5, i64 q.2)]) (fun q σ' Γ' => σ = σ' ∧ q.1 ≤ l.length ∧ (0 ≤ q.2 ∧ (q.2 ≤ 2 * most + 3 ∨ q.2 ≤ 0) ∧ (q.2 ≤ most → q.2 = stsN (l.take q.1))) ∧ Γ' = []) (fun q => l.length - q.1) (0, 0) (by exact ⟨rfl, rfl, trivial⟩) (Δ0 := _) ?_ (⟨rfl, Nat.zero_le _, ⟨by simp only; omega, by simp only; omega, fun _ => by simp [stsN]⟩, rfl⟩) ?_
  · exact zE
  rintro ⟨i, n⟩ δ _ _ ⟨rfl, hi, ⟨hn0, hn1, hn2⟩, rfl⟩
  dsimp only [ovr, List.foldl]
  have hi : i ≤ l.length := hi
  have hn0 : 0 ≤ n := hn0
  have hn1 : n ≤ 2 * most + 3 ∨ n ≤ 0 := hn1
  have hn2 : n ≤ most → n = stsN (l.take i) := hn2
  by_cases h1 : i < l.length
  · by_cases h2 : n ≤ most
    · obtain ⟨x', hx'⟩ : ∃ x', l[i]? = some x' := ⟨_, List.getElem?_eq_getElem h1⟩
      obtain ⟨g, o, row, rfl, hrx, hrl, hrow⟩ := hl.at hx'
      have hone := hrx.ones
      have e1 := stsN_snoc hx'
      have h2n := hn2 h2
      obtain ⟨ihb, ihe⟩ := ih x' (List.mem_of_getElem? hx')
      obtain ⟨pe, de, pf, df, pb, cb, pe', ce, rfl, -, -, hxe, hxf, hxb, hxl⟩ := hrx.inv12
      have r2 : PRow σ g (o + i * 12 + 2) [i64 x'.e.op, i64 x'.e.v, i64 x'.e.n, .slice pe x'.e.l.length de] := hrow.sub (j := 2) rfl
      have r6 : PRow σ g (o + i * 12 + 6) [i64 x'.f.op, i64 x'.f.v, i64 x'.f.n, .slice pf x'.f.l.length df] := hrow.sub (j := 6) rfl
      have r10 : PRow σ g (o + i * 12 + 10) [.slice pb x'.body.length cb] := hrow.sub (j := 10) rfl
      have r11 : PRow σ g (o + i * 12 + 11) [.slice pe' x'.els.length ce] := hrow.sub (j := 11) rfl
      have e2 : stN x' = 1 + exN x'.e + exN x'.f + stsN x'.body + stsN x'.els := by cases x'; simp [stN, St.e, St.f, St.body, St.els]
      refine zS ?_; refine zS ?_; refine zR ?_; refine zO rfl Rd.mv ?_; refine zO rfl Rd.mv ?_; refine zO rfl (Rd.lenSlice (tyrow rfl) rfl rfl) ?_; refine zO rfl (Rd.lss rfl rfl) ?_; refine zO rfl Rd.mv ?_
      first | ((first | refine zW ?_ | refine zQ ?_); refine zO rfl Rd.mv ?_) | refine zU ?_ | refine zV ?_ | refine zZ ?_
      first | ((first | refine zW ?_ | refine zQ ?_); refine zO rfl Rd.mv ?_) | refine zU ?_ | refine zV ?_ | refine zZ ?_
      first | ((first | refine zW ?_ | refine zQ ?_); refine zO rfl (Rd.leq rfl rfl) ?_) | refine zU ?_ | refine zV ?_ | refine zZ ?_
      refine zO rfl (by first | exact Rd.pT rfl | exact Rd.pF rfl | exact Rd.pP rfl) ?_
      refine zN ?_; refine zT ?_
      refine XA.condT rfl (by first | rfl | exact (by first | exact (rfl : decide _ = true) | exact (rfl : decide _ = false) | (refine decide_eq_true ?_; assumption) | (refine decide_eq_false ?_; assumption) | (refine decide_eq_true ?_; omega) | (refine decide_eq_false ?_; omega))) ?_
      refine XA.skip ?_
      refine zT ?_; refine zS ?_
      refine XA.block ?_
      refine zS ?_
      refine XA.draw (by kernel_rfl) _ _ [19] [(0, .pu), (1, .pu), (2, .pu), (3, .pu), (4, .pu), (5, .rd), (6, .pu), (7, .pu), (8, .pu), (11, .pu), (12, .pu), (13, .pu), (14, .pu), (15, .rd), (16, .pu), (17, .pu), (18, .pu), (9, .wr), (10, .pu), (19, .wr), (20, .pu), (21, .pu), (22, .pu)] (by kernel_rfl) (PH.sub.refl _) (Ent.nil _) ?_
      refine zu rfl rfl Rd.mv ?_
      refine zu rfl rfl Rd.mv ?_
      refine zu rfl rfl Rd.mv ?_
      refine zu rfl rfl (Rd.ixS rfl rfl) ?_
      refine zu rfl rfl (Rd.fA rfl) ?_
      refine XPA.rd rfl rfl Gd.free (Rd.ldA rfl) ?_
      refine zu rfl rfl Rd.mv ?_
      refine zu rfl rfl Rd.mv ?_
      refine zu rfl rfl (by first | exact Rd.sbi rfl rfl | exact Rd.sub rfl rfl) ?_
      refine zu rfl rfl Rd.mv ?_
      refine zu rfl rfl Rd.mv ?_
      refine zu rfl rfl (Rd.ixS rfl rfl) ?_
      refine zu rfl rfl (Rd.fA rfl) ?_
      refine XPA.rd rfl rfl Gd.free (Rd.ldA rfl) ?_
      refine zu rfl rfl Rd.mv ?_
      refine zu rfl rfl Rd.mv ?_
      refine zu rfl rfl (by first | exact Rd.sbi rfl rfl | exact Rd.sub rfl rfl) ?_
      refine XPA.wr0 rfl rfl Gd.free (WrA.cE (exprParts_a σ x'.e _ (most - n) hxe (by omega) (by omega)) rfl) ?_
      rintro _ _ _ ⟨_, ⟨a, rfl, ⟨ha0, ha1, ha2⟩, rfl, rfl⟩, rfl⟩
      refine stays (XPA.cl ?_)
      refine zu rfl rfl (by first | exact Rd.adi rfl rfl | exact Rd.add rfl rfl) ?_
      refine XPA.wrZ0 rfl rfl Gd.free (by kernel_rfl) (WrA.cE (exprParts_a σ x'.f _ (most - n) hxf (by omega) (by omega)) rfl) ?_
      rintro _ _ _ ⟨_, ⟨b, rfl, ⟨hb0, hb1, hb2⟩, rfl, rfl⟩, rfl⟩
      refine XPA.cl ?_
      refine zu rfl rfl (by first | exact Rd.adi rfl rfl | exact Rd.add rfl rfl) ?_
      refine zu rfl rfl (by first | exact Rd.adi rfl rfl | exact Rd.add rfl rfl) ?_
      refine zu rfl rfl Rd.asg ?_
      refine XPA.nil ?_
      refine zT ?_; refine zS ?_; refine zS ?_; refine zR ?_; refine zO rfl Rd.mv ?_; refine zO rfl Rd.mv ?_
      refine zO rfl (Rd.leq rfl rfl) ?_
      refine zN ?_; refine zT ?_
      refine XA.join [(5, 5), (43, 53)] (fun q : Int => [(5, i64 q)]) (fun q σ' Γ' => σ = σ' ∧ (0 ≤ q ∧ (q ≤ 2 * most + 3 ∨ q ≤ 0) ∧ (q ≤ most → q = stsN (l.take i) + 1 + exN x'.e + exN x'.f + stsN x'.body)) ∧ Γ' = []) ?_ ?_
      · 
        refine XA.condp rfl (fun h3 => ?_) (fun h3 => ?_)
        · refine zR ?_
          refine zO rfl Rd.mv ?_; refine zO rfl Rd.mv ?_; refine zO rfl Rd.mv ?_
          refine zO rfl (Rd.ixS rfl rfl) ?_
          refine zO rfl (Rd.fA rfl) ?_; refine zO rfl (Rd.ldC rfl (tyrow rfl) rfl) ?_; refine zO rfl Rd.mv ?_; refine zO rfl Rd.mv ?_
          refine zO rfl (by first | exact Rd.sbi rfl rfl | exact Rd.sub rfl rfl) ?_
          refine zw rfl (WrA.cE (ihb _ (most - (n + (1 + a + b))) hxb (by omega) (by omega)) rfl) ?_
          rintro _ _ _ ⟨_, ⟨c, rfl, ⟨hc0, hc1, hc2⟩, rfl, rfl⟩, rfl⟩
          refine XOA.cl ?_
          refine zO rfl (by first | exact Rd.adi rfl rfl | exact Rd.add rfl rfl) ?_
          refine zO rfl Rd.asg ?_; refine zN ?_; refine zT ?_
          have k1 := ha2 (by omega)
          have k2 := hb2 (by omega)
          refine ⟨(Keep.upd (Keep.upd (Keep.updO (Keep.upd (Keep.upd (Keep.upd (Keep.upd (Keep.upd (Keep.upd (Keep.upd (Keep.upd (Keep.upd (Keep.refl _ _) rfl) rfl) rfl) rfl) rfl) rfl) rfl) rfl) rfl) rfl) rfl) rfl), n + (1 + a + b) + c, _, (by (repeat (first | exact trivial | refine ⟨rfl, ?_⟩ | refine ⟨Eq.trans rfl (congrArg Value.bool hmat.symm), ?_⟩)); (first | done | fail)), ?_, ⟨rfl, ⟨by omega, by omega, fun h => by have := hc2 (by omega); omega⟩, rfl⟩⟩
          · exact zE
        · refine XA.skip ?_
          refine zT ?_
          refine ⟨(Keep.refl _ _), n + (1 + a + b), _, (by (repeat (first | exact trivial | refine ⟨rfl, ?_⟩ | refine ⟨Eq.trans rfl (congrArg Value.bool hmat.symm), ?_⟩)); (first | done | fail)), ?_, ⟨rfl, ⟨by omega, by omega, fun h => absurd h h3⟩, rfl⟩⟩
          · exact zE
      rintro q δ2 _ _ ⟨rfl, ⟨hq0, hq1, hq2⟩, rfl⟩
      dsimp only [ovr, List.foldl]
      refine zT ?_; refine zS ?_; refine zR ?_; refine zO rfl Rd.mv ?_; refine zO rfl Rd.mv ?_
      refine zO rfl (Rd.leq rfl rfl) ?_
      refine zN ?_; refine zT ?_
      refine XA.join [(5, 5), (57, 67)] (fun q : Int => [(5, i64 q)]) (fun q σ' Γ' => σ = σ' ∧ (0 ≤ q ∧ (q ≤ 2 * most + 3 ∨ q ≤ 0) ∧ (q ≤ most → q = stsN (l.take i) + 1 + exN x'.e + exN x'.f + stsN x'.body + stsN x'.els)) ∧ Γ' = []) ?_ ?_
      · 
        refine XA.condp rfl (fun h3 => ?_) (fun h3 => ?_)
        · have hq3 := hq2 h3
          refine zR ?_; refine zO rfl Rd.mv ?_; refine zO rfl Rd.mv ?_; refine zO rfl Rd.mv ?_
          refine zO rfl (Rd.ixS rfl rfl) ?_
          refine zO rfl (Rd.fA rfl) ?_; refine zO rfl (Rd.ldC rfl (tyrow rfl) rfl) ?_; refine zO rfl Rd.mv ?_; refine zO rfl Rd.mv ?_
          refine zO rfl (by first | exact Rd.sbi rfl rfl | exact Rd.sub rfl rfl) ?_
          refine zw rfl (WrA.cE (ihe _ (most - q) hxl (by omega) (by omega)) rfl) ?_
          rintro _ _ _ ⟨_, ⟨c, rfl, ⟨hc0, hc1, hc2⟩, rfl, rfl⟩, rfl⟩
          refine XOA.cl ?_
          refine zO rfl (by first | exact Rd.adi rfl rfl | exact Rd.add rfl rfl) ?_
          refine zO rfl Rd.asg ?_; refine zN ?_; refine zT ?_
          refine ⟨(Keep.upd (Keep.upd (Keep.updO (Keep.upd (Keep.upd (Keep.upd (Keep.upd (Keep.upd (Keep.upd (Keep.upd (Keep.upd (Keep.upd (Keep.refl _ _) rfl) rfl) rfl) rfl) rfl) rfl) rfl) rfl) rfl) rfl) rfl) rfl), q + c, _, (by (repeat (first | exact trivial | refine ⟨rfl, ?_⟩ | refine ⟨Eq.trans rfl (congrArg Value.bool hmat.symm), ?_⟩)); (first | done | fail)), ?_, ⟨rfl, ⟨by omega, by omega, fun h => by have := hc2 (by omega); omega⟩, rfl⟩⟩
          · exact zE
        · refine XA.skip ?_
          refine zT ?_
          refine ⟨(Keep.refl _ _), q, _, (by (repeat (first | exact trivial | refine ⟨rfl, ?_⟩ | refine ⟨Eq.trans rfl (congrArg Value.bool hmat.symm), ?_⟩)); (first | done | fail)), ?_, ⟨rfl, ⟨by omega, by omega, fun h => absurd h h3⟩, rfl⟩⟩
          · exact zE
      rintro q2 δ3 _ _ ⟨rfl, ⟨hs0, hs1, hs2⟩, rfl⟩
      dsimp only [ovr, List.foldl]
      refine DA.inb_normal ?_
      refine zT ?_; refine zR ?_; refine zO rfl Rd.mv ?_
      refine zO rfl (by first | exact Rd.adi rfl rfl | exact Rd.add rfl rfl) ?_
      refine zO rfl Rd.asg ?_; refine zN ?_; refine zT ?_
      refine ⟨(Keep.upd (Keep.upd (Keep.upd (Keep.upd (Keep.hav (Keep.hav (Keep.upd (Keep.upd (Keep.upd (Keep.upd (Keep.hav (Keep.hav (Keep.upd (Keep.upd (Keep.upd (Keep.upd (Keep.upd (Keep.upd (Keep.updO (Keep.upd (Keep.updO (Keep.upd (Keep.upd (Keep.upd (Keep.upd (Keep.upd (Keep.upd (Keep.upd (Keep.upd (Keep.upd (Keep.upd (Keep.upd (Keep.upd (Keep.upd (Keep.upd (Keep.upd (Keep.upd (Keep.upd (Keep.upd (Keep.upd (Keep.upd (Keep.upd (Keep.upd (Keep.upd (Keep.upd (Keep.upd (Keep.upd (Keep.upd (Keep.upd (Keep.hav (Keep.refl _ _) rfl) rfl) rfl) rfl) rfl) rfl) rfl) rfl) rfl) rfl) rfl) rfl) rfl) rfl) rfl) rfl) rfl) rfl) rfl) rfl) rfl) rfl) rfl) rfl) rfl) rfl) rfl) rfl) rfl) rfl) rfl) rfl) rfl) rfl) rfl) rfl) rfl) rfl) rfl) rfl) rfl) rfl) rfl) rfl) rfl) rfl) rfl) rfl) rfl) rfl), (i + 1, q2), _, (by (repeat (first | exact trivial | refine ⟨rfl, ?_⟩ | refine ⟨Eq.trans rfl (congrArg Value.bool hmat.symm), ?_⟩)); (first | done | fail)), ?_, ⟨rfl, h1, ⟨hs0, hs1, fun h => by simp only at h ⊢; rw [e1]; have := hs2 h; omega⟩, rfl⟩, (by simp only; omega)⟩
      · exact zE
    · 
      refine zS ?_; refine zS ?_; refine zR ?_; refine zO rfl Rd.mv ?_; refine zO rfl Rd.mv ?_; refine zO rfl (Rd.lenSlice (tyrow rfl) rfl rfl) ?_; refine zO rfl (Rd.lss rfl rfl) ?_; refine zO rfl Rd.mv ?_
      first | ((first | refine zW ?_ | refine zQ ?_); refine zO rfl Rd.mv ?_) | refine zU ?_ | refine zV ?_ | refine zZ ?_
      first | ((first | refine zW ?_ | refine zQ ?_); refine zO rfl Rd.mv ?_) | refine zU ?_ | refine zV ?_ | refine zZ ?_
      first | ((first | refine zW ?_ | refine zQ ?_); refine zO rfl (Rd.leq rfl rfl) ?_) | refine zU ?_ | refine zV ?_ | refine zZ ?_
      refine zO rfl (by first | exact Rd.pT rfl | exact Rd.pF rfl | exact Rd.pP rfl) ?_
      refine zN ?_; refine zT ?_
      refine XA.condF rfl (by first | rfl | exact (by first | exact (rfl : decide _ = true) | exact (rfl : decide _ = false) | (refine decide_eq_true ?_; assumption) | (refine decide_eq_false ?_; assumption) | (refine decide_eq_true ?_; omega) | (refine decide_eq_false ?_; omega))) ?_
      refine XA.exit ?_
      refine DA.thn_exit ?_
      refine DA.thn_exit ?_
      refine DA.inb_same ?_
      refine zT ?_; refine zS ?_; refine zR ?_; refine zO rfl Rd.mv ?_; refine zO rfl Rd.asg ?_; refine zN ?_; refine zT ?_
      refine XA.ret ?_
      refine bodyA.ret (ResA.one rfl rfl) (Ent.nil _) ⟨n, rfl, ⟨hn0, hn1, fun h => absurd h h2⟩, rfl, rfl⟩
  · 
    have hil : i = l.length := by omega
    subst hil
    rw [List.take_length] at hn2
    refine zS ?_; refine zS ?_; refine zR ?_; refine zO rfl Rd.mv ?_; refine zO rfl Rd.mv ?_; refine zO rfl (Rd.lenSlice (tyrow rfl) rfl rfl) ?_; refine zO rfl (Rd.lss rfl rfl) ?_; refine zO rfl Rd.mv ?_
    first | ((first | refine zW ?_ | refine zQ ?_); refine zO rfl Rd.mv ?_) | refine zU ?_ | refine zV ?_ | refine zZ ?_
    first | ((first | refine zW ?_ | refine zQ ?_); refine zO rfl Rd.mv ?_) | refine zU ?_ | refine zV ?_ | refine zZ ?_
    first | ((first | refine zW ?_ | refine zQ ?_); refine zO rfl (Rd.leq rfl rfl) ?_) | refine zU ?_ | refine zV ?_ | refine zZ ?_
    refine zO rfl (by first | exact Rd.pT rfl | exact Rd.pF rfl | exact Rd.pP rfl) ?_
    refine zN ?_; refine zT ?_
    refine XA.condF rfl (by first | rfl | exact (by first | exact (rfl : decide _ = true) | exact (rfl : decide _ = false) | (refine decide_eq_true ?_; assumption) | (refine decide_eq_false ?_; assumption) | (refine decide_eq_true ?_; omega) | (refine decide_eq_false ?_; omega))) ?_
    refine XA.exit ?_
    refine DA.thn_exit ?_
    refine DA.thn_exit ?_
    refine DA.inb_same ?_
    refine zT ?_; refine zS ?_; refine zR ?_; refine zO rfl Rd.mv ?_; refine zO rfl Rd.asg ?_; refine zN ?_; refine zT ?_
    refine XA.ret ?_
    refine bodyA.ret (ResA.one rfl rfl) (Ent.nil _) ⟨n, rfl, ⟨hn0, hn1, fun h => hn2 h⟩, rfl, rfl⟩
theorem stParts_x (σ : PH) (x : St) : StPartsOK σ x.body ∧ StPartsOK σ x.els := by
  refine St.ind (P := fun x => StPartsOK σ x.body ∧ StPartsOK σ x.els) ?_ x
  intro op v e f body els ih jh
  exact ⟨stmtParts_l σ body ih, stmtParts_l σ els jh⟩
theorem stmtParts_a (σ : PH) (l : List St) : StPartsOK σ l := stmtParts_l σ l (fun x _ => stParts_x σ x)
def Small (p : Pr) : Prop := p.vars.length ≤ 30 ∧ (∀ x ∈ p.vars, x.name.size ≤ 100) ∧ stsN p.body ≤ 900
theorem great_a (σ : PH) (cs : List Value) (p : Pr) (hp : PrAt σ cs p) : CallsA Try.prog 12 #[.agg cs.toArray] σ [] (RetA fun v σ' Γ' => ∃ b : Bool, v = .bool b ∧ (b = false → Small p) ∧ σ = σ' ∧ Γ' = []) := by
  obtain ⟨vs, bs, rfl, hv, hb⟩ := hp
  obtain ⟨pv, cv, rfl, hvl, hvm⟩ := hv.shape
  have hlen : p.vars.length ≤ maxLen := by omega
  simp only [maxLen] at hlen
  refine enterA1 Try.func12 rfl rfl rfl ?_
  refine zS ?_; refine zR ?_
  refine zw rfl WrA.bx ?_
  rintro _ _ _ ⟨g1, rfl, rfl, rfl⟩
  refine zO rfl Rd.asg ?_; refine zN ?_; refine zT ?_; refine zS ?_; refine zS ?_; refine zR ?_; refine zO rfl Rd.asg ?_; refine zN ?_; refine zT ?_
  refine XA.block ?_
  refine XA.gen [(1, _), (2, _), (3, _)] ⟨(by with_reducible (conv => lhs; whnf)), (by with_reducible (conv => lhs; whnf)), (by with_reducible (conv => lhs; whnf)), trivial⟩ (fun δ => ?_)
  dsimp only [List.foldl]
  refine XA.loop [(2, 22)] (fun q : Nat => [(3, i64 q)]) (fun q σ' Γ' => σ = σ' ∧ q ≤ p.vars.length ∧ (∀ (j : Nat) x, j < q → p.vars[j]? = some x → x.name.size ≤ 100) ∧ Γ' = [blk g1 [.slice pv p.vars.length cv, bs] 25]) (fun q => p.vars.length - q) 0 (by exact ⟨rfl, trivial⟩) (Δ0 := _) ?_ (⟨rfl, Nat.zero_le _, fun j x h => absurd h (Nat.not_lt_zero _), rfl⟩) ?_
  · exact zE
  rintro i δ _ _ ⟨rfl, hi, hall, rfl⟩
  dsimp only [ovr, List.foldl]
  by_cases h1 : i < p.vars.length
  · by_cases h2 : i < 30
    · obtain ⟨x', hx'⟩ : ∃ x', p.vars[i]? = some x' := ⟨_, List.getElem?_eq_getElem h1⟩
      obtain ⟨g, o, row, rfl, ⟨rfl, hrx, hns⟩, hrl, hrow⟩ := hv.at hx'
      have r0 : PRow σ g (o + i * 2) [.string x'.name] := hrow.sub (j := 0) rfl
      refine zS ?_; refine zS ?_; refine zR ?_; refine zO rfl Rd.mv ?_; refine zO rfl (Rd.fA rfl) ?_; refine zO rfl (Rd.ldC rfl (tyrow rfl) rfl) ?_; refine zO rfl (Rd.lenSlice (tyrow rfl) rfl rfl) ?_; refine zO rfl (Rd.lss rfl rfl) ?_; refine zO rfl Rd.mv ?_
      first | ((first | refine zW ?_ | refine zQ ?_); refine zO rfl Rd.mv ?_) | refine zU ?_ | refine zV ?_ | refine zZ ?_
      first | ((first | refine zW ?_ | refine zQ ?_); refine zO rfl (Rd.lss rfl rfl) ?_) | refine zU ?_ | refine zV ?_ | refine zZ ?_
      refine zO rfl (by first | exact Rd.pT rfl | exact Rd.pF rfl | exact Rd.pP rfl) ?_
      refine zN ?_; refine zT ?_
      refine XA.condT rfl (by first | rfl | exact (by first | exact (rfl : decide _ = true) | exact (rfl : decide _ = false) | (refine decide_eq_true ?_; assumption) | (refine decide_eq_false ?_; assumption) | (refine decide_eq_true ?_; omega) | (refine decide_eq_false ?_; omega))) ?_
      refine XA.skip ?_
      refine zT ?_; refine zS ?_
      refine XA.block ?_
      refine zS ?_; refine zR ?_; refine zO rfl (Rd.fA rfl) ?_; refine zO rfl (Rd.ldC rfl (tyrow rfl) rfl) ?_; refine zO rfl Rd.mv ?_
      refine zO rfl (Rd.ixS rfl rfl) ?_
      refine zO rfl (Rd.fA rfl) ?_; refine zO rfl (Rd.ldC rfl (tyrow rfl) rfl) ?_
      refine zO rfl (Rd.lenString (tyrow rfl) rfl rfl) ?_
      refine zO rfl (Rd.gtr rfl rfl) ?_
      refine zN ?_; refine zT ?_
      refine XA.condp rfl (fun h3 => ?_) (fun h3 => ?_)
      · refine zS ?_
        refine zR ?_; refine zO rfl Rd.asg ?_; refine zN ?_; refine zT ?_
        refine XA.ret ?_
        refine DA.inb_ret ?_
        refine DA.thn_ret ?_
        refine DA.thn_ret ?_
        refine DA.inb_ret ?_
        refine DA.thn_ret ?_
        refine bodyA.ret (ResA.one rfl rfl) (Ent.nil _) ⟨true, rfl, fun h => (by cases h), rfl, rfl⟩
      have hnew : ∀ (j : Nat) x, j < i + 1 → p.vars[j]? = some x → x.name.size ≤ 100 := fun j x hj hx => by
        rcases Nat.lt_or_ge j i with h | h
        · exact hall j x h hx
        · have : j = i := by omega
          subst this
          rw [hx'] at hx; simp only [Option.some.injEq] at hx; subst hx
          omega
      refine XA.skip ?_
      refine DA.inb_normal ?_
      refine zT ?_; refine zR ?_; refine zO rfl Rd.mv ?_
      refine zO rfl (by first | exact Rd.adi rfl rfl | exact Rd.add rfl rfl) ?_
      refine zO rfl Rd.asg ?_; refine zN ?_; refine zT ?_
      refine ⟨(Keep.upd (Keep.upd (Keep.upd (Keep.upd (Keep.upd (Keep.upd (Keep.upd (Keep.upd (Keep.upd (Keep.upd (Keep.upd (Keep.upd (Keep.upd (Keep.upd (Keep.upd (Keep.upd (Keep.upd (Keep.upd (Keep.upd (Keep.upd (Keep.upd (Keep.hav (Keep.refl _ _) rfl) rfl) rfl) rfl) rfl) rfl) rfl) rfl) rfl) rfl) rfl) rfl) rfl) rfl) rfl) rfl) rfl) rfl) rfl) rfl) rfl) rfl), i + 1, _, (by (repeat (first | exact trivial | refine ⟨rfl, ?_⟩ | refine ⟨Eq.trans rfl (congrArg Value.bool hmat.symm), ?_⟩)); (first | done | fail)), ?_, ⟨rfl, h1, hnew, rfl⟩, (by omega)⟩
      · exact zE
    · 
      refine zS ?_; refine zS ?_; refine zR ?_; refine zO rfl Rd.mv ?_; refine zO rfl (Rd.fA rfl) ?_; refine zO rfl (Rd.ldC rfl (tyrow rfl) rfl) ?_; refine zO rfl (Rd.lenSlice (tyrow rfl) rfl rfl) ?_; refine zO rfl (Rd.lss rfl rfl) ?_; refine zO rfl Rd.mv ?_
      first | ((first | refine zW ?_ | refine zQ ?_); refine zO rfl Rd.mv ?_) | refine zU ?_ | refine zV ?_ | refine zZ ?_
      first | ((first | refine zW ?_ | refine zQ ?_); refine zO rfl (Rd.lss rfl rfl) ?_) | refine zU ?_ | refine zV ?_ | refine zZ ?_
      refine zO rfl (by first | exact Rd.pT rfl | exact Rd.pF rfl | exact Rd.pP rfl) ?_
      refine zN ?_; refine zT ?_
      refine XA.condF rfl (by first | rfl | exact (by first | exact (rfl : decide _ = true) | exact (rfl : decide _ = false) | (refine decide_eq_true ?_; assumption) | (refine decide_eq_false ?_; assumption) | (refine decide_eq_true ?_; omega) | (refine decide_eq_false ?_; omega))) ?_
      refine XA.exit ?_
      refine DA.thn_exit ?_
      refine DA.thn_exit ?_
      refine DA.inb_same ?_
      refine zT ?_; refine zS ?_; refine zR ?_; refine zO rfl (Rd.fA rfl) ?_; refine zO rfl (Rd.ldC rfl (tyrow rfl) rfl) ?_; refine zO rfl (Rd.lenSlice (tyrow rfl) rfl rfl) ?_
      by_cases hbig : 30 < p.vars.length
      · 
        refine zO rfl (Rd.gtr rfl rfl) ?_
        refine zO rfl Rd.mv ?_
        first | ((first | refine zW ?_ | refine zQ ?_); refine zO rfl (Rd.fA rfl) ?_) | refine zU ?_ | refine zV ?_ | refine zZ ?_
        first | ((first | refine zW ?_ | refine zQ ?_); refine zO rfl (Rd.ldC rfl (tyrow rfl) rfl) ?_) | refine zU ?_ | refine zV ?_ | refine zZ ?_
        first | refine zU ?_ | refine zV ?_ | refine zZ ?_
        first | ((first | refine zW ?_ | refine zQ ?_); refine zO rfl (Rd.gtr rfl rfl) ?_) | refine zU ?_ | refine zV ?_ | refine zZ ?_
        refine zO rfl (by first | exact Rd.pT rfl | exact Rd.pF rfl | exact Rd.pP rfl) ?_
        refine zO rfl Rd.asg ?_; refine zN ?_; refine zT ?_
        refine XA.ret ?_
        exact bodyA.ret (ResA.one rfl rfl) (Ent.nil _) ⟨true, rfl, fun h => (by cases h), rfl, rfl⟩
      · exfalso; omega
  · 
    refine zS ?_; refine zS ?_; refine zR ?_; refine zO rfl Rd.mv ?_; refine zO rfl (Rd.fA rfl) ?_; refine zO rfl (Rd.ldC rfl (tyrow rfl) rfl) ?_; refine zO rfl (Rd.lenSlice (tyrow rfl) rfl rfl) ?_; refine zO rfl (Rd.lss rfl rfl) ?_; refine zO rfl Rd.mv ?_
    first | ((first | refine zW ?_ | refine zQ ?_); refine zO rfl Rd.mv ?_) | refine zU ?_ | refine zV ?_ | refine zZ ?_
    first | ((first | refine zW ?_ | refine zQ ?_); refine zO rfl (Rd.lss rfl rfl) ?_) | refine zU ?_ | refine zV ?_ | refine zZ ?_
    refine zO rfl (by first | exact Rd.pT rfl | exact Rd.pF rfl | exact Rd.pP rfl) ?_
    refine zN ?_; refine zT ?_
    refine XA.condF rfl (by first | rfl | exact (by first | exact (rfl : decide _ = true) | exact (rfl : decide _ = false) | (refine decide_eq_true ?_; assumption) | (refine decide_eq_false ?_; assumption) | (refine decide_eq_true ?_; omega) | (refine decide_eq_false ?_; omega))) ?_
    refine XA.exit ?_
    refine DA.thn_exit ?_
    refine DA.thn_exit ?_
    refine DA.inb_same ?_
    refine zT ?_; refine zS ?_; refine zR ?_; refine zO rfl (Rd.fA rfl) ?_; refine zO rfl (Rd.ldC rfl (tyrow rfl) rfl) ?_; refine zO rfl (Rd.lenSlice (tyrow rfl) rfl rfl) ?_
    by_cases hbig : 30 < p.vars.length
    · 
      refine zO rfl (Rd.gtr rfl rfl) ?_
      refine zO rfl Rd.mv ?_
      first | ((first | refine zW ?_ | refine zQ ?_); refine zO rfl (Rd.fA rfl) ?_) | refine zU ?_ | refine zV ?_ | refine zZ ?_
      first | ((first | refine zW ?_ | refine zQ ?_); refine zO rfl (Rd.ldC rfl (tyrow rfl) rfl) ?_) | refine zU ?_ | refine zV ?_ | refine zZ ?_
      first | refine zU ?_ | refine zV ?_ | refine zZ ?_
      first | ((first | refine zW ?_ | refine zQ ?_); refine zO rfl (Rd.gtr rfl rfl) ?_) | refine zU ?_ | refine zV ?_ | refine zZ ?_
      refine zO rfl (by first | exact Rd.pT rfl | exact Rd.pF rfl | exact Rd.pP rfl) ?_
      refine zO rfl Rd.asg ?_; refine zN ?_; refine zT ?_
      refine XA.ret ?_
      exact bodyA.ret (ResA.one rfl rfl) (Ent.nil _) ⟨true, rfl, fun h => (by cases h), rfl, rfl⟩
    · 
      refine zO rfl (Rd.gtr rfl rfl) ?_
      refine zO rfl Rd.mv ?_
      first | ((first | refine zW ?_ | refine zQ ?_); refine zO rfl (Rd.fA rfl) ?_) | refine zU ?_ | refine zV ?_ | refine zZ ?_
      first | ((first | refine zW ?_ | refine zQ ?_); refine zO rfl (Rd.ldC rfl (tyrow rfl) rfl) ?_) | refine zU ?_ | refine zV ?_ | refine zZ ?_
      first | refine XOA.wanted rfl rfl ?_ | refine XOA.wq rfl rfl ?_
      refine zw rfl (WrA.cE (stmtParts_a σ p.body _ 900 hb (by decide) (by decide)) rfl) ?_
      rintro _ _ _ ⟨_, ⟨r, rfl, ⟨hr0, hr1, hr2⟩, rfl, rfl⟩, rfl⟩
      refine XOA.cl ?_
      first | ((first | refine zW ?_ | refine zQ ?_); refine zO rfl (Rd.gtr rfl rfl) ?_) | refine zU ?_ | refine zV ?_ | refine zZ ?_
      refine zO rfl (by first | exact Rd.pT rfl | exact Rd.pF rfl | exact Rd.pP rfl) ?_
      refine zO rfl Rd.asg ?_; refine zN ?_; refine zT ?_
      refine XA.ret ?_
      refine bodyA.ret (ResA.one rfl rfl) (Ent.nil _) ⟨decide (900 < r), rfl, fun h => ⟨by omega, fun x hx => ?_, ?_⟩, rfl, rfl⟩
      · obtain ⟨j, hj, e⟩ := List.mem_iff_getElem.1 hx
        exact hall j x (by omega) (by rw [List.getElem?_eq_getElem hj, e])
      · have := hr2 (by simpa using h); have : ¬ 900 < r := of_decide_eq_false h; omega
end Go.Proofs.Ytmnmcjdgnpgchaa

namespace Go.Proofs.Ytmnmcjdgnpgchaa
open Go X
set_option maxHeartbeats 1000000
end Go.Proofs.Ytmnmcjdgnpgchaa

namespace Go.Proofs.Ytmnmcjdgnpgchaa
open Go X
set_option maxHeartbeats 1000000
theorem psl_rows {α : Type} {s n c : Nat} {R : RT α} {σ : PH} {p : Option Addr} {xs : List α} (h : PSl s R σ (.slice p n c) xs) : ∃ rows, Rows_ s R σ rows xs ∧ n = xs.length ∧ xs.length ≤ c ∧ c ≤ maxLen ∧ (0 < xs.length → ∃ g o, p = some ⟨g, o, none⟩ ∧ PRow σ g o rows.flatten) := by
  obtain ⟨p', c', rows, h1, h2, h3, h4, h5, h6, h7⟩ := h
  simp only [Value.slice.injEq] at h1
  obtain ⟨rfl, rfl, rfl⟩ := h1
  exact ⟨rows, ⟨h4, h5, h6⟩, rfl, h2, h3, h7⟩
theorem X.Rows_.flat_len {α : Type} {s : Nat} {R : RT α} {σ : PH} {rows : List (List Value)} {xs : List α} (h : Rows_ s R σ rows xs) : rows.flatten.length = xs.length * s := by rw [flatten_len h.size, h.len]
theorem varEq_a (σ : PH) (g : Nat) (v w : Va) : CallsA Try.prog 87 #[vav w, ptr g] σ [blk g [.string v.name, i64 v.size] 90] (RetA fun r σ' Γ' => r = .bool (decide (w.name = v.name)) ∧ σ = σ' ∧ Γ' = [blk g [.string v.name, i64 v.size] 90]) := by
  unfold vav
  refine enterA2 Try.func87 rfl rfl rfl ?_
  refine zS ?_; refine zR ?_
  refine zw rfl WrA.bx ?_
  rintro _ _ _ ⟨g2, rfl, rfl, rfl⟩
  refine zO rfl Rd.asg ?_; refine zN ?_; refine zT ?_; refine zS ?_; refine zR ?_; refine zO rfl (Rd.fA rfl) ?_; refine zO rfl (Rd.ldC rfl (tyrow rfl) rfl) ?_; refine zO rfl (Rd.fA rfl) ?_; refine zO rfl (Rd.ldC rfl (tyrow rfl) rfl) ?_
  refine zO rfl (Rd.eqls rfl rfl) ?_
  refine zO rfl Rd.asg ?_; refine zN ?_; refine zT ?_
  refine XA.ret ?_
  exact bodyA.ret (ResA.one rfl rfl) zE ⟨rfl, rfl, rfl⟩
theorem indexVar_a (σ : PH) (g : Nat) (v : Va) (sl : Value) (l : List Va) (hl : PSl 2 rVa σ sl l) : CallsA Try.prog 95 #[sl, .func (.func 87) #[] #[ptr g]] σ [blk g [.string v.name, i64 v.size] 90] (RetA fun r σ' Γ' => ∃ k : Int, r = i64 k ∧ (0 ≤ k ↔ ∃ w ∈ l, w.name = v.name) ∧ σ = σ' ∧ Γ' = [blk g [.string v.name, i64 v.size] 90]) := by
  obtain ⟨pl, cl, rfl, hle, hmx⟩ := hl.shape
  have hlen : l.length ≤ maxLen := by omega
  simp only [maxLen] at hlen
  refine enterA2 Try.func95 rfl rfl rfl ?_
  refine zS ?_; refine zR ?_; refine zO rfl Rd.asg ?_; refine zN ?_; refine zT ?_; refine zS ?_; refine zS ?_; refine zR ?_; refine zO rfl Rd.mv ?_; refine zO rfl (Rd.lenSlice (tyrow rfl) rfl rfl) ?_; refine zO rfl Rd.mv ?_; refine zN ?_; refine zT ?_
  refine XA.block ?_
  refine XA.gen [(0, _), (1, _), (4, _), (7, _), (8, _)] ⟨(by with_reducible (conv => lhs; whnf)), (by with_reducible (conv => lhs; whnf)), (by with_reducible (conv => lhs; whnf)), (by with_reducible (conv => lhs; whnf)), (by with_reducible (conv => lhs; whnf)), trivial⟩ (fun δ => ?_)
  dsimp only [List.foldl]
  refine XA.loop [(4, 5), (8, 18)] (fun k : Nat => [(8, i64 k)]) (fun k σ' Γ' => σ = σ' ∧ k ≤ l.length ∧ (∀ (j : Nat) w, j < k → l[j]? = some w → w.name ≠ v.name) ∧ Γ' = [blk g [.string v.name, i64 v.size] 90]) (fun k => l.length - k) 0 (by exact ⟨rfl, trivial⟩) (Δ0 := _) ?_ (⟨rfl, Nat.zero_le _, fun j w h => absurd h (Nat.not_lt_zero _), rfl⟩) ?_
  · exact zE
  rintro k δ _ _ ⟨rfl, hk, hall, rfl⟩
  dsimp only [ovr, List.foldl]
  refine zS ?_; refine zR ?_; refine zO rfl (Rd.lss rfl rfl) ?_; refine zN ?_; refine zT ?_; refine zS ?_
  refine XA.condp rfl (fun hlt => ?_) (fun hlt => ?_)
  · have hlt : k < l.length := by omega
    obtain ⟨x', hx'⟩ : ∃ x', l[k]? = some x' := ⟨_, List.getElem?_eq_getElem hlt⟩
    obtain ⟨gg, o, row, rfl, ⟨rfl, -, -⟩, hrl, hrow⟩ := hl.at hx'
    refine XA.skip ?_
    refine zT ?_; refine zS ?_
    refine XA.block ?_
    refine zS ?_; refine zR ?_; refine zO rfl Rd.mv ?_; refine zO rfl Rd.asg ?_; refine zN ?_; refine zT ?_; refine zS ?_; refine zR ?_; refine zO rfl Rd.mv ?_; refine zO rfl Rd.mv ?_; refine zO rfl Rd.mv ?_
    refine zO rfl (Rd.ixS rfl rfl) ?_
    refine zO rfl (Rd.ldA rfl) ?_
    refine zw rfl (WrA.cV (first := []) (cap := [ptr g]) rfl (varEq_a σ g v x') rfl) ?_
    rintro _ _ _ ⟨_, ⟨rfl, rfl, rfl⟩, rfl⟩
    refine XOA.cl ?_
    refine zN ?_; refine zT ?_
    refine XA.condp rfl (fun hc => ?_) (fun hc => ?_)
    · refine zS ?_
      refine zR ?_; refine zO rfl Rd.mv ?_; refine zO rfl Rd.asg ?_; refine zN ?_; refine zT ?_
      refine XA.ret ?_
      refine DA.inb_ret ?_
      refine DA.thn_ret ?_
      refine DA.thn_ret ?_
      refine DA.inb_ret ?_
      refine DA.thn_ret ?_
      exact bodyA.ret (ResA.one rfl rfl) zE ⟨(k : Int), rfl, ⟨fun _ => ⟨x', List.mem_of_getElem? hx', hc⟩, fun _ => by omega⟩, rfl, rfl⟩
    · have hnew : ∀ (j : Nat) w, j < k + 1 → l[j]? = some w → w.name ≠ v.name := fun j w hj hw => by
        rcases Nat.lt_or_ge j k with h | h
        · exact hall j w h hw
        · have : j = k := by omega
          subst this
          rw [hx'] at hw; simp only [Option.some.injEq] at hw; subst hw; exact hc
      refine XA.skip ?_
      refine DA.inb_normal ?_
      refine zT ?_; refine zR ?_
      refine zO rfl (by first | exact Rd.adi rfl rfl | exact Rd.add rfl rfl) ?_
      refine zO rfl Rd.mv ?_; refine zN ?_; refine zT ?_
      refine ⟨(Keep.upd (Keep.upd (Keep.updO (Keep.upd (Keep.upd (Keep.upd (Keep.upd (Keep.upd (Keep.upd (Keep.upd (Keep.upd (Keep.upd (Keep.hav (Keep.hav (Keep.refl _ _) rfl) rfl) rfl) rfl) rfl) rfl) rfl) rfl) rfl) rfl) rfl) rfl) rfl) rfl), k + 1, _, (by (repeat (first | exact trivial | refine ⟨rfl, ?_⟩ | refine ⟨Eq.trans rfl (congrArg Value.bool hmat.symm), ?_⟩)); (first | done | fail)), ?_, ⟨rfl, hlt, hnew, rfl⟩, (by omega)⟩
      · exact zE
  have hkn : k = l.length := by omega
  subst hkn
  refine XA.exit ?_
  refine DA.thn_exit ?_
  refine DA.thn_exit ?_
  refine DA.inb_same ?_
  refine zT ?_; refine zS ?_; refine zR ?_; refine zO rfl Rd.asg ?_; refine zN ?_; refine zT ?_
  refine XA.ret ?_
  refine bodyA.ret (ResA.one rfl rfl) zE ⟨-1, rfl, ⟨fun h => absurd h (by decide), fun ⟨w, hw, e⟩ => ?_⟩, rfl, rfl⟩
  obtain ⟨j, hj, e2⟩ := List.mem_iff_getElem.1 hw
  exact absurd e (hall j w hj (by rw [List.getElem?_eq_getElem hj, e2]))
theorem containsVar_a (σ : PH) (g : Nat) (v : Va) (sl : Value) (l : List Va) (hl : PSl 2 rVa σ sl l) : CallsA Try.prog 86 #[sl, .func (.func 87) #[] #[ptr g]] σ [blk g [.string v.name, i64 v.size] 90] (RetA fun r σ' Γ' => r = .bool (decide (∃ w ∈ l, w.name = v.name)) ∧ σ = σ' ∧ Γ' = [blk g [.string v.name, i64 v.size] 90]) := by
  refine enterA2 Try.func86 rfl rfl rfl ?_
  refine zS ?_; refine zR ?_; refine zO rfl Rd.asg ?_; refine zN ?_; refine zT ?_; refine zS ?_; refine zR ?_; refine zO rfl Rd.mv ?_; refine zO rfl Rd.mv ?_
  refine zw rfl (WrA.cE (indexVar_a σ g v sl l hl) rfl) ?_
  rintro _ _ _ ⟨_, ⟨k, rfl, hk, rfl, rfl⟩, rfl⟩
  refine XOA.cl ?_
  refine zO rfl (Rd.geq rfl rfl) ?_
  refine zO rfl Rd.asg ?_; refine zN ?_; refine zT ?_
  refine XA.ret ?_
  exact bodyA.ret (ResA.one rfl rfl) zE ⟨congrArg Value.bool (decide_eq_decide.2 hk), rfl, rfl⟩
end Go.Proofs.Ytmnmcjdgnpgchaa

