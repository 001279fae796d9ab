/- Package memory: Load, Put, Dirty, New. -/
import Derived.Test.YtplobdiknobhoaaMm
namespace Go.Proofs.Ytplobdiknobhoaa
open Go X
set_option maxHeartbeats 2000000
def wordC (C : List (List Int)) (a : Int) : Int := if 0 ≤ a ∧ a < 112 then (C.getD (a.toNat / 8) DiskS.zeros).getD (a.toNat % 8) 0 else 0
def putC (C : List (List Int)) (a w : Int) : List (List Int) := if (0 ≤ a ∧ a < 112) ∧ wordC C a ≠ w then C.set (a.toNat / 8) ((C.getD (a.toNat / 8) DiskS.zeros).set (a.toNat % 8) w) else C
def putD (C : List (List Int)) (dt : List Bool) (a w : Int) : List Bool := if (0 ≤ a ∧ a < 112) ∧ wordC C a ≠ w then dt.set (a.toNat / 8) true else dt
theorem wordC_nat (C : List (List Int)) {n : Nat} (h : n < 112) : wordC C n = (C.getD (n / 8) DiskS.zeros).getD (n % 8) 0 := by
  rw [wordC, if_pos (by omega)]; rfl
theorem MOk.word {d : DiskS} {s : StS} {inn dt : List Bool} {pg C : List (List Int)} (h : MOk d s inn dt pg C) {n : Nat} (hn : n < 112) (hi : inn.getD (n / 8) false = true) : wordC C n = (pg.getD (n / 8) DiskS.zeros).getD (n % 8) 0 := by
  rw [wordC_nat C hn, h.val _ (by omega), if_pos hi]
theorem MOk.put {d : DiskS} {s : StS} {inn dt : List Bool} {pg C : List (List Int)} (h : MOk d s inn dt pg C) {p k : Nat} (hp : p < 14) (hi : inn.getD p false = true) (w : Int) :
    MOk d s inn (dt.set p true) (pg.set p ((pg.getD p DiskS.zeros).set k w)) (C.set p ((C.getD p DiskS.zeros).set k w)) := by
  have e : C.getD p DiskS.zeros = pg.getD p DiskS.zeros := by rw [h.val p hp, if_pos hi]
  refine ⟨h.li, by rw [List.length_set]; exact h.ld, pgs_set h.pp p (by rw [List.length_set]; exact pgs_row8 h.pp hp), pgs_set h.cc p (by rw [List.length_set]; exact pgs_row8 h.cc hp), fun q hq => ?_, fun q hq hdq => ?_, fun q hq hdq => ?_⟩
  · rw [set_getD_r (by rw [h.cc.1]; exact hq), set_getD_r (by rw [h.pp.1]; exact hq), h.val q hq]
    by_cases eq : q = p
    · subst eq; rw [if_pos rfl, if_pos rfl, if_pos hi, e]
    · rw [if_neg eq, if_neg eq]
  · rw [set_getD_b (by rw [h.ld]; exact hq)] at hdq
    by_cases eq : q = p
    · subst eq; exact hi
    · rw [if_neg eq] at hdq; exact h.dir q hq hdq
  · rw [set_getD_b (by rw [h.ld]; exact hq)] at hdq
    by_cases eq : q = p
    · rw [if_pos eq] at hdq; cases hdq
    · rw [if_neg eq] at hdq
      rw [set_getD_r (by rw [h.cc.1]; exact hq), if_neg eq]
      exact h.old q hq hdq
theorem load_a (σ : PH) (b sb db : Nat) (d : DiskS) (s : StS) (inn dt : List Bool) (pg C : List (List Int)) (a : Int) (hd : d.ok) (hlen : d.wait.length < 1000000) (h : MOk d s inn dt pg C) :
    CallsA Try.prog 45 #[ptr b, i64 a] σ [blk b (mcells sb inn dt pg) 88, Store sb db s, Disk db d] (RetA fun v σ' Γ' => v = i64 (wordC C a) ∧ σ = σ' ∧ ∃ inn' pg', MOk d s inn' dt pg' C ∧ Γ' = [blk b (mcells sb inn' dt pg') 88, Store sb db s, Disk db d]) := by
  by_cases ha : 0 ≤ a ∧ a < 112
  · obtain ⟨n, rfl⟩ := Int.eq_ofNat_of_zero_le ha.1
    have hn : n < 112 := by omega
    refine enterA2 Try.func45 rfl rfl rfl ?_
    refine XA.seq ?_
    refine XA.region ?_
    refine XOA.rd rfl Rd.asg ?_
    refine XOA.nil ?_
    refine DA.thn_normal ?_
    refine XA.seq ?_
    refine XA.region ?_
    refine XOA.rd rfl Rd.mv ?_
    refine XOA.rd rfl Rd.mv ?_
    refine XOA.wr0 rfl (WrA.cE (page_a σ b sb db d s inn dt pg C n hn hd hlen h) rfl) ?_
    rintro _ _ _ ⟨_, ⟨rfl, rfl, inn', pg', h', hi, rfl⟩, rfl⟩
    refine XOA.cl ?_
    refine XOA.rd rfl Rd.mv ?_
    refine XOA.rd rfl (Rd.extract rfl rfl) ?_
    refine XOA.rd rfl (Rd.extract rfl rfl) ?_
    refine XOA.rd rfl Rd.asg ?_
    refine XOA.rd rfl Rd.asg ?_
    refine XOA.nil ?_
    refine DA.thn_normal ?_
    refine XA.seq ?_
    refine XA.seq ?_
    refine XA.region ?_
    refine XOA.rd rfl Rd.mv ?_
    refine XOA.rd rfl (by first | exact Rd.notp rfl | exact Rd.not rfl) ?_
    refine XOA.nil ?_
    refine DA.thn_normal ?_
    have hw := mc_word (sb := sb) h'.li h'.ld h'.pp (p := n / 8) (k := n % 8) (by omega) (by omega)
    refine XA.condF rfl rfl ?_
    refine XA.skip ?_
    refine DA.thn_normal ?_
    refine XA.seq ?_
    refine XA.region ?_
    refine XOA.rd rfl Rd.mv ?_
    refine XOA.rd rfl Rd.mv ?_
    refine XOA.rd rfl Rd.mv ?_
    refine XOA.rd rfl (Rd.remi (c := ((n % 8 : Nat) : Int)) rfl rfl (by decide) (rem8 n)) ?_
    refine XOA.rd rfl (Rd.nilCheck rfl) ?_
    refine XOA.rd rfl (Rd.fA rfl) ?_
    refine XOA.rd rfl (Rd.ixA rfl rfl) ?_
    refine XOA.rd rfl (Rd.ixA rfl rfl) ?_
    refine XOA.rd rfl (Rd.ldC rfl (tyrow rfl) rfl) ?_
    refine XOA.rd rfl Rd.asg ?_
    refine XOA.nil ?_
    refine DA.thn_normal ?_
    refine XA.ret ?_
    exact bodyA.ret (ResA.one rfl rfl) (by (repeat (first | exact Ent.nil _ | (apply Ent.sel; focus (first | ((repeat (first | with_reducible exact Sel.head | apply Sel.tail)); done) | ((repeat (first | exact Sel.head | apply Sel.tail)); done))) | apply Ent.selNil | apply Ent.selEmp)); (first | done | fail)) ⟨congrArg i64 (h'.word hn hi).symm, rfl, _, _, h', rfl⟩
  · refine enterA2 Try.func45 rfl rfl rfl ?_
    refine XA.seq ?_
    refine XA.region ?_
    refine XOA.rd rfl Rd.asg ?_
    refine XOA.nil ?_
    refine DA.thn_normal ?_
    refine XA.seq ?_
    refine XA.region ?_
    refine XOA.rd rfl Rd.mv ?_
    refine XOA.rd rfl Rd.mv ?_
    refine XOA.wr0 rfl (WrA.cE (page_no σ b a ha) rfl) ?_
    rintro _ _ _ ⟨_, ⟨rfl, rfl, rfl⟩, rfl⟩
    refine XOA.cl ?_
    refine XOA.rd rfl Rd.mv ?_
    refine XOA.rd rfl (Rd.extract rfl rfl) ?_
    refine XOA.rd rfl (Rd.extract rfl rfl) ?_
    refine XOA.rd rfl Rd.asg ?_
    refine XOA.rd rfl Rd.asg ?_
    refine XOA.nil ?_
    refine DA.thn_normal ?_
    refine XA.seq ?_
    refine XA.seq ?_
    refine XA.region ?_
    refine XOA.rd rfl Rd.mv ?_
    refine XOA.rd rfl (by first | exact Rd.notp rfl | exact Rd.not rfl) ?_
    refine XOA.nil ?_
    refine DA.thn_normal ?_
    refine XA.condT rfl rfl ?_
    refine XA.seq ?_
    refine XA.region ?_
    refine XOA.rd rfl Rd.asg ?_
    refine XOA.nil ?_
    refine DA.thn_normal ?_
    refine XA.ret ?_
    refine DA.thn_ret ?_
    exact bodyA.ret (ResA.one rfl rfl) (by (repeat (first | exact Ent.nil _ | (apply Ent.sel; focus (first | ((repeat (first | with_reducible exact Sel.head | apply Sel.tail)); done) | ((repeat (first | exact Sel.head | apply Sel.tail)); done))) | apply Ent.selNil | apply Ent.selEmp)); (first | done | fail)) ⟨by rw [wordC, if_neg ha], rfl, _, _, h, rfl⟩
theorem put_a (σ : PH) (b sb db : Nat) (d : DiskS) (s : StS) (inn dt : List Bool) (pg C : List (List Int)) (a w : Int) (hd : d.ok) (hlen : d.wait.length < 1000000) (h : MOk d s inn dt pg C) :
    CallsA Try.prog 41 #[ptr b, i64 a, i64 w] σ [blk b (mcells sb inn dt pg) 88, Store sb db s, Disk db d] (RetA fun v σ' Γ' => v = .bool (decide (0 ≤ a ∧ a < 112)) ∧ σ = σ' ∧ ∃ inn' pg', MOk d s inn' (putD C dt a w) pg' (putC C a w) ∧ Γ' = [blk b (mcells sb inn' (putD C dt a w) pg') 88, Store sb db s, Disk db d]) := by
  by_cases ha : 0 ≤ a ∧ a < 112
  · obtain ⟨n, rfl⟩ := Int.eq_ofNat_of_zero_le ha.1
    have hn : n < 112 := by omega
    rw [decide_eq_true ha]
    refine enterA3 Try.func41 rfl rfl rfl ?_
    refine XA.seq ?_
    refine XA.region ?_
    refine XOA.rd rfl Rd.asg ?_
    refine XOA.nil ?_
    refine DA.thn_normal ?_
    refine XA.seq ?_
    refine XA.region ?_
    refine XOA.rd rfl Rd.mv ?_
    refine XOA.rd rfl Rd.mv ?_
    refine XOA.wr0 rfl (WrA.cE (page_a σ b sb db d s inn dt pg C n hn hd hlen h) rfl) ?_
    rintro _ _ _ ⟨_, ⟨rfl, rfl, inn', pg', h', hi, rfl⟩, rfl⟩
    refine XOA.cl ?_
    refine XOA.rd rfl Rd.mv ?_
    refine XOA.rd rfl (Rd.extract rfl rfl) ?_
    refine XOA.rd rfl (Rd.extract rfl rfl) ?_
    refine XOA.rd rfl Rd.asg ?_
    refine XOA.rd rfl Rd.asg ?_
    refine XOA.nil ?_
    refine DA.thn_normal ?_
    refine XA.seq ?_
    refine XA.seq ?_
    refine XA.region ?_
    refine XOA.rd rfl Rd.mv ?_
    refine XOA.rd rfl Rd.mv ?_
    first | ((first | refine XOA.wanted rfl rfl ?_ | refine XOA.wq rfl rfl ?_); refine XOA.rd rfl Rd.mv ?_) | refine XOA.unwanted rfl rfl rfl rfl ?_ | refine XOA.uq rfl rfl rfl ?_ | refine XOA.unwantedU rfl rfl rfl ?_
    first | ((first | refine XOA.wanted rfl rfl ?_ | refine XOA.wq rfl rfl ?_); refine XOA.rd rfl Rd.mv ?_) | refine XOA.unwanted rfl rfl rfl rfl ?_ | refine XOA.uq rfl rfl rfl ?_ | refine XOA.unwantedU rfl rfl rfl ?_
    first | ((first | refine XOA.wanted rfl rfl ?_ | refine XOA.wq rfl rfl ?_); refine XOA.rd rfl Rd.mv ?_) | refine XOA.unwanted rfl rfl rfl rfl ?_ | refine XOA.uq rfl rfl rfl ?_ | refine XOA.unwantedU rfl rfl rfl ?_
    have hw := mc_word (sb := sb) h'.li h'.ld h'.pp (p := n / 8) (k := n % 8) (by omega) (by omega)
    have he := h'.word hn hi
    rw [← he] at hw
    first | refine XOA.wanted rfl rfl ?_ | refine XOA.wq rfl rfl ?_
    refine XOA.rd rfl (Rd.remi (c := ((n % 8 : Nat) : Int)) rfl rfl (by decide) (rem8 n)) ?_
    first | ((first | refine XOA.wanted rfl rfl ?_ | refine XOA.wq rfl rfl ?_); refine XOA.rd rfl (Rd.nilCheck rfl) ?_) | refine XOA.unwanted rfl rfl rfl rfl ?_ | refine XOA.uq rfl rfl rfl ?_ | refine XOA.unwantedU rfl rfl rfl ?_
    first | ((first | refine XOA.wanted rfl rfl ?_ | refine XOA.wq rfl rfl ?_); refine XOA.rd rfl (Rd.fA rfl) ?_) | refine XOA.unwanted rfl rfl rfl rfl ?_ | refine XOA.uq rfl rfl rfl ?_ | refine XOA.unwantedU rfl rfl rfl ?_
    first | ((first | refine XOA.wanted rfl rfl ?_ | refine XOA.wq rfl rfl ?_); refine XOA.rd rfl (Rd.ixA rfl rfl) ?_) | refine XOA.unwanted rfl rfl rfl rfl ?_ | refine XOA.uq rfl rfl rfl ?_ | refine XOA.unwantedU rfl rfl rfl ?_
    first | ((first | refine XOA.wanted rfl rfl ?_ | refine XOA.wq rfl rfl ?_); refine XOA.rd rfl (Rd.ixA rfl rfl) ?_) | refine XOA.unwanted rfl rfl rfl rfl ?_ | refine XOA.uq rfl rfl rfl ?_ | refine XOA.unwantedU rfl rfl rfl ?_
    first | ((first | refine XOA.wanted rfl rfl ?_ | refine XOA.wq rfl rfl ?_); refine XOA.rd rfl (Rd.ldC rfl (tyrow rfl) rfl) ?_) | refine XOA.unwanted rfl rfl rfl rfl ?_ | refine XOA.uq rfl rfl rfl ?_ | refine XOA.unwantedU rfl rfl rfl ?_
    first | ((first | refine XOA.wanted rfl rfl ?_ | refine XOA.wq rfl rfl ?_); refine XOA.rd rfl Rd.mv ?_) | refine XOA.unwanted rfl rfl rfl rfl ?_ | refine XOA.uq rfl rfl rfl ?_ | refine XOA.unwantedU rfl rfl rfl ?_
    first | ((first | refine XOA.wanted rfl rfl ?_ | refine XOA.wq rfl rfl ?_); refine XOA.rd rfl (Rd.neq rfl rfl) ?_) | refine XOA.unwanted rfl rfl rfl rfl ?_ | refine XOA.uq rfl rfl rfl ?_ | refine XOA.unwantedU rfl rfl rfl ?_
    refine XOA.rd rfl (by first | exact Rd.pT rfl | exact Rd.pF rfl | exact Rd.pP rfl) ?_
    refine XOA.nil ?_
    refine DA.thn_normal ?_
    refine XA.condp rfl (fun hne => ?_) (fun hne => ?_)
    · have e1 : putC C n w = C.set (n / 8) ((C.getD (n / 8) DiskS.zeros).set (n % 8) w) := by rw [putC, if_pos ⟨ha, hne⟩]; rfl
      have e2 : putD C dt n w = dt.set (n / 8) true := by rw [putD, if_pos ⟨ha, hne⟩]; rfl
      have hP := h'.put (p := n / 8) (k := n % 8) (by omega) hi w
      have hspl := put_word (sb := sb) h'.li h'.ld h'.pp (p := n / 8) (k := n % 8) (by omega) (by omega) w
      have hspl2 := put_dt (sb := sb) (pg := pg'.set (n / 8) ((pg'.getD (n / 8) DiskS.zeros).set (n % 8) w)) h'.li h'.ld (p := n / 8) (by omega) true
      have hml := mc_len (sb := sb) h'.li h'.ld h'.pp
      have hfit : 29 + n / 8 * 8 + n % 8 + 1 ≤ (mcells sb inn' dt pg').length := by omega
      have hml2 := mc_len (sb := sb) h'.li h'.ld hP.pp
      have hfitB : 15 + n / 8 + ty4.size ≤ (mcells sb inn' dt (pg'.set (n / 8) ((pg'.getD (n / 8) DiskS.zeros).set (n % 8) w))).length := by rw [hml2]; show 15 + n / 8 + 1 ≤ 141; omega
      refine XA.seq ?_
      refine XA.region ?_
      refine XOA.rd rfl Rd.mv ?_
      refine XOA.rd rfl Rd.mv ?_
      refine XOA.rd rfl Rd.mv ?_
      refine XOA.rd rfl (Rd.remi (c := ((n % 8 : Nat) : Int)) rfl rfl (by decide) (rem8 n)) ?_
      refine XOA.rd rfl Rd.mv ?_
      refine XOA.rd rfl (Rd.nilCheck rfl) ?_
      refine XOA.rd rfl (Rd.fA rfl) ?_
      refine XOA.rd rfl (Rd.ixA rfl rfl) ?_
      refine XOA.rd rfl (Rd.ixA rfl rfl) ?_
      refine XOA.wr0 rfl (WrA.st (tyrow rfl) rfl) ?_
      rintro _ _ _ ⟨rfl, rfl, rfl⟩
      refine XOA.nil ?_
      refine DA.thn_normal ?_
      refine XA.region ?_
      clear hfit
      have hfit := hfitB
      refine XOA.rd rfl Rd.mv ?_
      refine XOA.rd rfl Rd.mv ?_
      refine XOA.rd rfl (Rd.nilCheck rfl) ?_
      refine XOA.rd rfl (Rd.fA rfl) ?_
      refine XOA.rd rfl (Rd.ixA rfl rfl) ?_
      refine XOA.wr0 rfl (WrA.st (tyrow rfl) rfl) ?_
      rintro _ _ _ ⟨rfl, rfl, rfl⟩
      refine XOA.nil ?_
      refine DA.thn_normal ?_
      refine XA.seq ?_
      refine XA.region ?_
      refine XOA.rd rfl Rd.mv ?_
      refine XOA.rd rfl Rd.asg ?_
      refine XOA.nil ?_
      refine DA.thn_normal ?_
      refine XA.ret ?_
      exact bodyA.ret (ResA.one rfl rfl) (by rw [e2]; exact (by (repeat (first | exact Ent.nil _ | (apply Ent.sel; focus (first | ((repeat (first | with_reducible exact Sel.head | apply Sel.tail)); done) | ((repeat (first | exact Sel.head | apply Sel.tail)); done))) | apply Ent.selNil | apply Ent.selEmp)); (first | done | fail))) ⟨rfl, rfl, _, _, by rw [e1, e2]; exact hP, rfl⟩
    · have e1 : putC C n w = C := by rw [putC, if_neg (fun q => hne q.2)]
      have e2 : putD C dt n w = dt := by rw [putD, if_neg (fun q => hne q.2)]
      refine XA.skip ?_
      refine DA.thn_normal ?_
      refine XA.seq ?_
      refine XA.region ?_
      refine XOA.rd rfl Rd.mv ?_
      refine XOA.rd rfl Rd.asg ?_
      refine XOA.nil ?_
      refine DA.thn_normal ?_
      refine XA.ret ?_
      exact bodyA.ret (ResA.one rfl rfl) (by rw [e2]; exact (by (repeat (first | exact Ent.nil _ | (apply Ent.sel; focus (first | ((repeat (first | with_reducible exact Sel.head | apply Sel.tail)); done) | ((repeat (first | exact Sel.head | apply Sel.tail)); done))) | apply Ent.selNil | apply Ent.selEmp)); (first | done | fail))) ⟨rfl, rfl, _, _, by rw [e1, e2]; exact h', rfl⟩
  · have e1 : putC C a w = C := by rw [putC, if_neg (fun q => ha q.1)]
    have e2 : putD C dt a w = dt := by rw [putD, if_neg (fun q => ha q.1)]
    rw [decide_eq_false ha]
    refine enterA3 Try.func41 rfl rfl rfl ?_
    refine XA.seq ?_
    refine XA.region ?_
    refine XOA.rd rfl Rd.asg ?_
    refine XOA.nil ?_
    refine DA.thn_normal ?_
    refine XA.seq ?_
    refine XA.region ?_
    refine XOA.rd rfl Rd.mv ?_
    refine XOA.rd rfl Rd.mv ?_
    refine XOA.wr0 rfl (WrA.cE (page_no σ b a ha) rfl) ?_
    rintro _ _ _ ⟨_, ⟨rfl, rfl, rfl⟩, rfl⟩
    refine XOA.cl ?_
    refine XOA.rd rfl Rd.mv ?_
    refine XOA.rd rfl (Rd.extract rfl rfl) ?_
    refine XOA.rd rfl (Rd.extract rfl rfl) ?_
    refine XOA.rd rfl Rd.asg ?_
    refine XOA.rd rfl Rd.asg ?_
    refine XOA.nil ?_
    refine DA.thn_normal ?_
    refine XA.seq ?_
    refine XA.seq ?_
    refine XA.region ?_
    refine XOA.rd rfl Rd.mv ?_
    refine XOA.rd rfl Rd.mv ?_
    first | ((first | refine XOA.wanted rfl rfl ?_ | refine XOA.wq rfl rfl ?_); refine XOA.rd rfl Rd.mv ?_) | refine XOA.unwanted rfl rfl rfl rfl ?_ | refine XOA.uq rfl rfl rfl ?_ | refine XOA.unwantedU rfl rfl rfl ?_
    first | ((first | refine XOA.wanted rfl rfl ?_ | refine XOA.wq rfl rfl ?_); refine XOA.rd rfl Rd.mv ?_) | refine XOA.unwanted rfl rfl rfl rfl ?_ | refine XOA.uq rfl rfl rfl ?_ | refine XOA.unwantedU rfl rfl rfl ?_
    first | ((first | refine XOA.wanted rfl rfl ?_ | refine XOA.wq rfl rfl ?_); refine XOA.rd rfl Rd.mv ?_) | refine XOA.unwanted rfl rfl rfl rfl ?_ | refine XOA.uq rfl rfl rfl ?_ | refine XOA.unwantedU rfl rfl rfl ?_
    first | refine XOA.unwanted rfl rfl rfl rfl ?_ | refine XOA.uq rfl rfl rfl ?_ | refine XOA.unwantedU rfl rfl rfl ?_
    first | ((first | refine XOA.wanted rfl rfl ?_ | refine XOA.wq rfl rfl ?_); refine XOA.rd rfl (Rd.nilCheck rfl) ?_) | refine XOA.unwanted rfl rfl rfl rfl ?_ | refine XOA.uq rfl rfl rfl ?_ | refine XOA.unwantedU rfl rfl rfl ?_
    first | ((first | refine XOA.wanted rfl rfl ?_ | refine XOA.wq rfl rfl ?_); refine XOA.rd rfl (Rd.fA rfl) ?_) | refine XOA.unwanted rfl rfl rfl rfl ?_ | refine XOA.uq rfl rfl rfl ?_ | refine XOA.unwantedU rfl rfl rfl ?_
    first | ((first | refine XOA.wanted rfl rfl ?_ | refine XOA.wq rfl rfl ?_); refine XOA.rd rfl (Rd.ixA rfl rfl) ?_) | refine XOA.unwanted rfl rfl rfl rfl ?_ | refine XOA.uq rfl rfl rfl ?_ | refine XOA.unwantedU rfl rfl rfl ?_
    first | ((first | refine XOA.wanted rfl rfl ?_ | refine XOA.wq rfl rfl ?_); refine XOA.rd rfl (Rd.ixA rfl rfl) ?_) | refine XOA.unwanted rfl rfl rfl rfl ?_ | refine XOA.uq rfl rfl rfl ?_ | refine XOA.unwantedU rfl rfl rfl ?_
    first | ((first | refine XOA.wanted rfl rfl ?_ | refine XOA.wq rfl rfl ?_); refine XOA.rd rfl (Rd.ldC rfl (tyrow rfl) rfl) ?_) | refine XOA.unwanted rfl rfl rfl rfl ?_ | refine XOA.uq rfl rfl rfl ?_ | refine XOA.unwantedU rfl rfl rfl ?_
    first | ((first | refine XOA.wanted rfl rfl ?_ | refine XOA.wq rfl rfl ?_); refine XOA.rd rfl Rd.mv ?_) | refine XOA.unwanted rfl rfl rfl rfl ?_ | refine XOA.uq rfl rfl rfl ?_ | refine XOA.unwantedU rfl rfl rfl ?_
    first | ((first | refine XOA.wanted rfl rfl ?_ | refine XOA.wq rfl rfl ?_); refine XOA.rd rfl (Rd.neq rfl rfl) ?_) | refine XOA.unwanted rfl rfl rfl rfl ?_ | refine XOA.uq rfl rfl rfl ?_ | refine XOA.unwantedU rfl rfl rfl ?_
    refine XOA.rd rfl (by first | exact Rd.pT rfl | exact Rd.pF rfl | exact Rd.pP rfl) ?_
    refine XOA.nil ?_
    refine DA.thn_normal ?_
    refine XA.condF rfl rfl ?_
    refine XA.skip ?_
    refine DA.thn_normal ?_
    refine XA.seq ?_
    refine XA.region ?_
    refine XOA.rd rfl Rd.mv ?_
    refine XOA.rd rfl Rd.asg ?_
    refine XOA.nil ?_
    refine DA.thn_normal ?_
    refine XA.ret ?_
    exact bodyA.ret (ResA.one rfl rfl) (by rw [e2]; exact (by (repeat (first | exact Ent.nil _ | (apply Ent.sel; focus (first | ((repeat (first | with_reducible exact Sel.head | apply Sel.tail)); done) | ((repeat (first | exact Sel.head | apply Sel.tail)); done))) | apply Ent.selNil | apply Ent.selEmp)); (first | done | fail))) ⟨rfl, rfl, _, _, by rw [e1, e2]; exact h, rfl⟩
/-- The pages that were changed, of the first k. -/
def dirtyTo (C : List (List Int)) (dt : List Bool) : Nat → List PageS
  | 0 => []
  | k + 1 => if dt.getD k false = true then dirtyTo C dt k ++ [⟨(k : Int), C.getD k DiskS.zeros⟩] else dirtyTo C dt k
theorem dirtyTo_le (C : List (List Int)) (dt : List Bool) : ∀ k, (dirtyTo C dt k).length ≤ k
  | 0 => Nat.le_refl _
  | k + 1 => by
    have := dirtyTo_le C dt k
    rw [dirtyTo]; split
    · rw [List.length_append, List.length_singleton]; omega
    · omega
def dirtyL (C : List (List Int)) (dt : List Bool) : List PageS := dirtyTo C dt 14
theorem dirty_a (σ : PH) (b sb : Nat) (d : DiskS) (s : StS) (inn dt : List Bool) (pg C : List (List Int)) (h : MOk d s inn dt pg C) :
    CallsA Try.prog 44 #[ptr b] σ [blk b (mcells sb inn dt pg) 88] (RetA fun v σ' Γ' => ∃ (p : Option Addr) (c : Nat) (rows : List (List Value)), v = .slice p (dirtyL C dt).length c ∧ Rows_ 9 rPage σ rows (dirtyL C dt) ∧ σ = σ' ∧ Γ' = [blk b (mcells sb inn dt pg) 88, lst 66 9 (.slice p (dirtyL C dt).length c) (dirtyL C dt).length rows.flatten]) := by
  have hdts := mc_dts (sb := sb) (pg := pg) h.li h.ld
  have hbl : (bools dt).length = 14 := by rw [bools_len]; exact h.ld
  have hone : ones (bools dt) := ones_bools _
  refine enterA1 Try.func44 rfl rfl rfl ?_
  refine XA.seq ?_
  refine XA.region ?_
  refine XOA.rd rfl Rd.asg ?_
  refine XOA.nil ?_
  refine DA.thn_normal ?_
  refine XA.seq ?_
  refine XA.region ?_
  refine XOA.rd rfl Rd.asg ?_
  refine XOA.nil ?_
  refine DA.thn_normal ?_
  refine XA.seq ?_
  refine XA.seq ?_
  refine XA.region ?_
  refine XOA.rd rfl Rd.mv ?_
  refine XOA.rd rfl (Rd.nilCheck rfl) ?_
  refine XOA.rd rfl (Rd.fA rfl) ?_
  refine XOA.rd rfl (Rd.ldA rfl) ?_
  refine XOA.rd rfl Rd.mv ?_
  refine XOA.nil ?_
  refine DA.thn_normal ?_
  refine XA.block ?_
  refine XA.gen [(0, _), (2, _), (3, _), (9, _), (10, _)] ⟨(by with_reducible (conv => lhs; whnf)), (by with_reducible (conv => lhs; whnf)), (by with_reducible (conv => lhs; whnf)), (by with_reducible (conv => lhs; whnf)), (by with_reducible (conv => lhs; whnf)), trivial⟩ (fun δ => ?_)
  dsimp only [List.foldl]
  refine XA.loop [(3, 5), (10, 26)] (fun q : Nat × (Option Addr × (Nat × Nat)) => [(10, i64 q.1), (3, .slice q.2.1 q.2.2.1 q.2.2.2)]) (fun q σ' Γ' => σ = σ' ∧ q.1 ≤ 14 ∧ q.2.2.1 = (dirtyTo C dt q.1).length ∧ ∃ (rows : List (List Value)), Rows_ 9 rPage σ rows (dirtyTo C dt q.1) ∧ Γ' = [blk b (mcells sb inn dt pg) 88, lst 66 9 (.slice q.2.1 q.2.2.1 q.2.2.2) q.2.2.1 rows.flatten]) (fun q => 14 - q.1) (0, (none, (0, 0))) (by exact ⟨rfl, rfl, trivial⟩) (Δ0 := _) ?_ (⟨rfl, Nat.zero_le _, rfl, [], Rows_.nil _ _ _, rfl⟩) ?_
  · exact (by (repeat (first | exact Ent.nil _ | (apply Ent.sel; focus (first | ((repeat (first | with_reducible exact Sel.head | apply Sel.tail)); done) | ((repeat (first | exact Sel.head | apply Sel.tail)); done))) | apply Ent.selNil | apply Ent.selEmp)); (first | done | fail))
  rintro ⟨k, p, n, c⟩ δ _ _ ⟨rfl, hk, hn, rows, hrows, rfl⟩
  dsimp only [ovr, List.foldl]
  have hk : k ≤ 14 := hk
  have hn : n = (dirtyTo C dt k).length := hn
  have hrows : Rows_ 9 rPage σ rows (dirtyTo C dt k) := hrows
  have hle := dirtyTo_le C dt k
  rw [← hn] at hle
  refine XA.seq ?_
  refine XA.region ?_
  refine XOA.rd rfl (Rd.lss rfl rfl) ?_
  refine XOA.nil ?_
  refine DA.thn_normal ?_
  refine XA.seq ?_
  refine XA.condp rfl (fun hlt => ?_) (fun hlt => ?_)
  · have hlt : k < 14 := by omega
    have hbk : (bools dt).toArray[((k : Nat) : Int).toNat]? = some (.bool (dt.getD k false)) := by rw [Int.toNat_natCast, List.getElem?_toArray]; exact bools_get (by rw [h.ld]; exact hlt)
    cases hdk : dt.getD k false with
    | true =>
      rw [hdk] at hbk
      have e1 : dirtyTo C dt (k + 1) = dirtyTo C dt k ++ [⟨(k : Int), C.getD k DiskS.zeros⟩] := by rw [dirtyTo, if_pos hdk]
      have hrow := mc_row (sb := sb) h.li h.ld h.pp (p := k) hlt
      rw [show pg.getD k DiskS.zeros = C.getD k DiskS.zeros by rw [h.val k hlt, if_pos (h.dir k hlt hdk)]] at hrow
      have hW8 := pgs_row8 h.cc hlt
      obtain ⟨W, hW⟩ : ∃ W, W = C.getD k DiskS.zeros := ⟨_, rfl⟩
      rw [← hW] at hrow hW8 e1
      have honeW : ones (ints W) := ones_ints _
      have hxl : (i64 (k : Int) :: ints W).length = 9 := by simp [hW8]
      have hone2 : ones (i64 (k : Int) :: ints W) := ones_cons rfl (ones_ints _)
      have hrow2 : rPage σ (i64 (k : Int) :: ints W) ⟨k, W⟩ := ⟨rfl, hW8⟩
      have hnew : Rows_ 9 rPage σ (rows ++ [i64 (k : Int) :: ints W]) (dirtyTo C dt (k + 1)) := by rw [e1]; exact hrows.snoc hxl hrow2
      have hn1 : n + 1 = (dirtyTo C dt (k + 1)).length := by rw [e1, List.length_append, List.length_singleton, hn]
      refine XA.skip ?_
      refine DA.thn_normal ?_
      refine XA.seq ?_
      refine XA.block ?_
      refine XA.seq ?_
      refine XA.region ?_
      refine XOA.rd rfl Rd.mv ?_
      refine XOA.rd rfl (Rd.ixG rfl rfl) ?_
      refine XOA.rd rfl Rd.asg ?_
      refine XOA.rd rfl Rd.asg ?_
      refine XOA.nil ?_
      refine DA.thn_normal ?_
      refine XA.seq ?_
      refine XA.region ?_
      refine XOA.rd rfl Rd.mv ?_
      refine XOA.nil ?_
      refine DA.thn_normal ?_
      refine XA.condT rfl rfl ?_
      refine XA.region ?_
      refine XOA.rd rfl Rd.mv ?_
      refine XOA.rd rfl Rd.mv ?_
      refine XOA.rd rfl Rd.mv ?_
      refine XOA.rd rfl Rd.mv ?_
      refine XOA.rd rfl (Rd.nilCheck rfl) ?_
      refine XOA.rd rfl (Rd.fA rfl) ?_
      refine XOA.rd rfl (Rd.ixA rfl rfl) ?_
      refine XOA.rd rfl (Rd.ldA rfl) ?_
      refine XOA.rd rfl (Rd.bl (fun _ _ => tyrow) rfl rfl rfl) ?_
      refine XOA.wr0 rfl (WrA.bs1 (tyrow rfl) rfl (tyrow rfl)) ?_
      rintro _ _ _ ⟨g24, rfl, rfl, rfl⟩
      refine XOA.wr0 rfl (WrA.ap1 (tyrow rfl) rfl (tyrow rfl) rfl rfl rfl) ?_
      rintro _ _ _ ⟨p25, c25, rfl, rfl, rfl⟩
      refine XOA.rd rfl Rd.asg ?_
      refine XOA.nil ?_
      refine DA.inb_normal ?_
      refine DA.thn_normal ?_
      refine XA.region ?_
      refine XOA.rd rfl (by first | exact Rd.adi rfl rfl | exact Rd.add rfl rfl) ?_
      refine XOA.rd rfl Rd.mv ?_
      refine XOA.nil ?_
      refine DA.thn_normal ?_
      refine ⟨(Keep.upd (Keep.upd (Keep.upd (Keep.updO (Keep.updO (Keep.upd (Keep.upd (Keep.upd (Keep.upd (Keep.upd (Keep.upd (Keep.upd (Keep.upd (Keep.upd (Keep.upd (Keep.upd (Keep.upd (Keep.upd (Keep.upd (Keep.upd (Keep.upd (Keep.upd (Keep.hav (Keep.hav (Keep.refl _ _) rfl) rfl) rfl) rfl) rfl) rfl) rfl) rfl) rfl) rfl) rfl) rfl) rfl) rfl) rfl) rfl) rfl) rfl) rfl) rfl) rfl) rfl) rfl) rfl), (k + 1, (p25, (n + 1, c25))), _, (by (repeat (first | exact trivial | refine ⟨rfl, ?_⟩ | refine ⟨Eq.trans rfl (congrArg Value.bool hmat.symm), ?_⟩)); (first | done | fail)), ?_, ⟨rfl, hlt, hn1, _, hnew, rfl⟩, (by simp only; omega)⟩
      · rw [flatS]; exact (by (repeat (first | exact Ent.nil _ | (apply Ent.sel; focus (first | ((repeat (first | with_reducible exact Sel.head | apply Sel.tail)); done) | ((repeat (first | exact Sel.head | apply Sel.tail)); done))) | apply Ent.selNil | apply Ent.selEmp)); (first | done | fail))
    | false =>
      rw [hdk] at hbk
      have e1 : dirtyTo C dt (k + 1) = dirtyTo C dt k := by rw [dirtyTo, if_neg (by rw [hdk]; exact fun q => by cases q)]
      refine XA.skip ?_
      refine DA.thn_normal ?_
      refine XA.seq ?_
      refine XA.block ?_
      refine XA.seq ?_
      refine XA.region ?_
      refine XOA.rd rfl Rd.mv ?_
      refine XOA.rd rfl (Rd.ixG rfl rfl) ?_
      refine XOA.rd rfl Rd.asg ?_
      refine XOA.rd rfl Rd.asg ?_
      refine XOA.nil ?_
      refine DA.thn_normal ?_
      refine XA.seq ?_
      refine XA.region ?_
      refine XOA.rd rfl Rd.mv ?_
      refine XOA.nil ?_
      refine DA.thn_normal ?_
      refine XA.condF rfl rfl ?_
      refine XA.skip ?_
      refine DA.inb_normal ?_
      refine DA.thn_normal ?_
      refine XA.region ?_
      refine XOA.rd rfl (by first | exact Rd.adi rfl rfl | exact Rd.add rfl rfl) ?_
      refine XOA.rd rfl Rd.mv ?_
      refine XOA.nil ?_
      refine DA.thn_normal ?_
      refine ⟨(Keep.upd (Keep.upd (Keep.upd (Keep.upd (Keep.upd (Keep.upd (Keep.upd (Keep.upd (Keep.upd (Keep.upd (Keep.hav (Keep.hav (Keep.refl _ _) rfl) rfl) rfl) rfl) rfl) rfl) rfl) rfl) rfl) rfl) rfl) rfl), (k + 1, (p, (n, c))), _, (by (repeat (first | exact trivial | refine ⟨rfl, ?_⟩ | refine ⟨Eq.trans rfl (congrArg Value.bool hmat.symm), ?_⟩)); (first | done | fail)), ?_, ⟨rfl, hlt, by rw [e1]; exact hn, rows, by rw [e1]; exact hrows, rfl⟩, (by simp only; omega)⟩
      · exact (by (repeat (first | exact Ent.nil _ | (apply Ent.sel; focus (first | ((repeat (first | with_reducible exact Sel.head | apply Sel.tail)); done) | ((repeat (first | exact Sel.head | apply Sel.tail)); done))) | apply Ent.selNil | apply Ent.selEmp)); (first | done | fail))
  obtain rfl : k = 14 := by omega
  subst hn
  refine XA.exit ?_
  refine DA.thn_exit ?_
  refine DA.thn_exit ?_
  refine DA.inb_same ?_
  refine DA.thn_normal ?_
  refine XA.seq ?_
  refine XA.region ?_
  refine XOA.rd rfl Rd.mv ?_
  refine XOA.rd rfl Rd.asg ?_
  refine XOA.nil ?_
  refine DA.thn_normal ?_
  refine XA.ret ?_
  exact bodyA.ret (ResA.one rfl rfl) (by (repeat (first | exact Ent.nil _ | (apply Ent.sel; focus (first | ((repeat (first | with_reducible exact Sel.head | apply Sel.tail)); done) | ((repeat (first | exact Sel.head | apply Sel.tail)); done))) | apply Ent.selNil | apply Ent.selEmp)); (first | done | fail)) ⟨p, c, rows, rfl, hrows, rfl, rfl⟩
def noB : List Bool := List.replicate 14 false
def noP : List (List Int) := List.replicate 14 DiskS.zeros
set_option maxRecDepth 100000 in
theorem mnew_a (σ : PH) (sb : Nat) : CallsA Try.prog 40 #[ptr sb] σ [] (RetA fun v σ' Γ' => ∃ b, v = ptr b ∧ σ = σ' ∧ Γ' = [blk b (mcells sb noB noB noP) 88]) := by
  refine enterA1 Try.func40 rfl rfl rfl ?_
  refine XA.seq ?_
  refine XA.region ?_
  refine XOA.rd rfl Rd.asg ?_
  refine XOA.nil ?_
  refine DA.thn_normal ?_
  refine XA.seq ?_
  refine XA.region ?_
  refine XOA.rd rfl Rd.mv ?_
  refine XOA.rd rfl (Rd.bl (fun _ _ => tyrow) rfl rfl rfl) ?_
  refine XOA.wr0 rfl WrA.bx ?_
  rintro _ _ _ ⟨g5, rfl, rfl, rfl⟩
  refine XOA.rd rfl Rd.asg ?_
  refine XOA.nil ?_
  refine DA.thn_normal ?_
  refine XA.ret ?_
  exact bodyA.ret (ResA.one rfl rfl) (by (repeat (first | exact Ent.nil _ | (apply Ent.sel; focus (first | ((repeat (first | with_reducible exact Sel.head | apply Sel.tail)); done) | ((repeat (first | exact Sel.head | apply Sel.tail)); done))) | apply Ent.selNil | apply Ent.selEmp)); (first | done | fail)) ⟨_, rfl, rfl, rfl⟩
end Go.Proofs.Ytplobdiknobhoaa
