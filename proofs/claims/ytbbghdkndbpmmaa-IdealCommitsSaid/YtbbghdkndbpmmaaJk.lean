/- The law IdealCommits: statements without their commits. -/
import Derived.Test.YtbbghdkndbpmmaaJl
import Derived.Test.YtbbghdkndbpmmaaJc
namespace Go.Proofs.Ytbbghdkndbpmmaa
open Go X
set_option maxHeartbeats 1000000
def CalmW (l : List St) : Prop := ∀ (σ : PH) (sl : Value), PSl 12 StAt σ sl l → stsN l ≤ 1000 →
  CallsA Try.prog 38 #[sl] σ [] (RetA fun v σ' Γ' => ∃ (p : Option Addr) (c : Nat) (rows : List (List Value)), v = .slice p (calmL l).length c ∧ Rows_ 12 StAt σ' rows (calmL l) ∧ σ.sub σ' ∧ Γ' = [lst 46 12 (.slice p (calmL l).length c) (calmL l).length rows.flatten])
/-- .. given for ever. -/
theorem CalmW.frozen {l : List St} (h : CalmW l) (σ : PH) (sl : Value) (hl : PSl 12 StAt σ sl l) (hN : stsN l ≤ 1000) :
    CallsA Try.prog 38 #[sl] σ [] (RetA fun v σ' Γ' => ∃ (p : Option Addr) (c : Nat), v = .slice p (calmL l).length c ∧ PSl 12 StAt σ' (.slice p (calmL l).length c) (calmL l) ∧ σ.sub σ' ∧ Γ' = []) :=
  have hc := h σ sl hl hN
  ⟨hc.1, fun fr h hh => (hc.2 fr h hh).mono fun e' h' ⟨σ', Γ', a, b⟩ => by
    cases e' with
    | returned v =>
      obtain ⟨p, c, rows, rfl, hr, hs, rfl⟩ := a
      obtain ⟨σ2, ⟨⟩, a, b, c⟩ := holds_freeze' b .head lst_frz lst_frz_mono
      exact ⟨σ2, _, ⟨p, _, rfl, (hr.mono (fun _ _ h => h.mono b)).psl rfl a, hs.trans b, rfl⟩, c⟩
    | _ => exact a.elim⟩
theorem calm_l (l : List St) (ih : ∀ x ∈ l, CalmW x.body ∧ CalmW x.els) : CalmW l := by
  intro σ sl hl hN
  obtain ⟨pl, cl, rfl, hle, hmx⟩ := hl.shape
  have hlen : l.length ≤ 1000 := by have := stsN_len l; omega
  refine enterA1 Try.func38 rfl rfl rfl ?_
  refine zS ?_; refine zR ?_; refine zO rfl Rd.asg ?_; refine zN ?_; refine zT ?_; refine zS ?_; refine zR ?_; refine zO rfl Rd.asg ?_; refine zN ?_; refine zT ?_; refine zS ?_; refine zS ?_; refine zR ?_; refine zO rfl Rd.asg ?_; refine zN ?_; refine zT ?_
  refine XA.block ?_
  refine XA.gen [(0, _), (2, _), (3, _), (4, _)] ⟨(by with_reducible (conv => lhs; whnf)), (by with_reducible (conv => lhs; whnf)), (by with_reducible (conv => lhs; whnf)), (by with_reducible (conv => lhs; whnf)), trivial⟩ (fun δ => ?_)
  dsimp only [List.foldl]
  refine XA.loop [(3, 33)] (fun q : Nat × (Nat × (Option Addr × Nat)) => [(4, i64 q.1), (3, .slice q.2.2.1 q.2.1 q.2.2.2)]) (fun q σ' Γ' => σ.sub σ' ∧ q.1 ≤ l.length ∧ q.2.1 = (calmL (l.take q.1)).length ∧ ∃ (rows : List (List Value)), Rows_ 12 StAt σ' rows (calmL (l.take q.1)) ∧ Γ' = [lst 46 12 (.slice q.2.2.1 q.2.1 q.2.2.2) q.2.1 rows.flatten]) (fun q => l.length - q.1) (0, (0, (none, 0))) (by exact ⟨rfl, rfl, trivial⟩) (Δ0 := _) ?_ (⟨.refl _, Nat.zero_le _, by simp [calmL], [], (by simpa [calmL] using Rows_.nil 12 StAt σ), rfl⟩) ?_
  · exact zE
  rintro ⟨i, n, p, c⟩ δ σ1 _ ⟨hs1, hi, hn, rows, hrows, rfl⟩
  dsimp only [ovr, List.foldl]
  have hi : i ≤ l.length := hi
  have hn : n = (calmL (l.take i)).length := hn
  have hrows : Rows_ 12 StAt σ1 rows (calmL (l.take i)) := hrows
  have hnl : n ≤ 1000 := by have := calmL_len (l.take i); rw [List.length_take] at this; omega
  refine zS ?_; refine zS ?_; refine zR ?_; refine zO rfl Rd.mv ?_; refine zO rfl Rd.mv ?_; refine zO rfl (Rd.lenSlice (tyrow rfl) rfl rfl) ?_; refine zO rfl (Rd.lss rfl rfl) ?_; refine zN ?_; refine zT ?_
  refine XA.condp rfl (fun hlt => ?_) (fun hlt => ?_)
  · have hlt : i < l.length := by omega
    obtain ⟨x', hx'⟩ : ∃ x', l[i]? = some x' := ⟨_, List.getElem?_eq_getElem hlt⟩
    obtain ⟨ihb, ihe⟩ := ih x' (List.mem_of_getElem? hx')
    have hl1 := hl.mono hs1 (fun _ _ h => h.mono hs1)
    obtain ⟨g, o, row, rfl, hrx, hrl, hrow⟩ := hl1.at hx'
    have hNx : stN x' ≤ 1000 := by have := stsN_snoc hx'; have h2 := stsN_app (l.take (i + 1)) (l.drop (i + 1)); rw [List.take_append_drop] at h2; omega
    have e2 : stN x' = 1 + exN x'.e + exN x'.f + stsN x'.body + stsN x'.els := by cases x'; simp [stN, St.e, St.f, St.body, St.els]
    obtain ⟨pe, de, pf, df, pb, cb, pe', ce, rfl, ho, hv, hxe, hxf, hxb, hxl⟩ := hrx.inv12
    have r0 : PRow σ1 g (o + i * 12) [i64 x'.op] := hrow.sub (j := 0) rfl
    have hrow2 := hrow
    clear hrow
    refine XA.skip ?_
    refine zT ?_; refine zS ?_
    refine XA.block ?_
    refine zS ?_; refine zR ?_; refine zO rfl Rd.mv ?_; refine zO rfl Rd.mv ?_
    refine zO rfl (Rd.ixS rfl rfl) ?_
    refine zO rfl (Rd.fA rfl) ?_; refine zO rfl (Rd.ldC rfl (tyrow rfl) rfl) ?_
    refine zO rfl (Rd.neq rfl rfl) ?_
    refine zN ?_; refine zT ?_
    refine XA.condp rfl (fun h7 => ?_) (fun h7 => ?_)
    · have hcs : calmL (l.take (i + 1)) = calmL (l.take i) ++ [calmS x'] := by rw [calmL_snoc hx', if_neg h7]
      refine zS ?_; refine zR ?_; refine zO rfl Rd.mv ?_; refine zO rfl Rd.mv ?_
      refine zO rfl (Rd.ixS rfl rfl) ?_
      refine zO rfl (Rd.ldA rfl) ?_
      refine XOA.wr0 rfl (WrA.alloc (tyrow rfl)) ?_
      rintro _ _ _ ⟨g5, rfl, rfl, rfl⟩
      refine XOA.wr0 rfl (WrA.st (tyrow rfl) rfl) ?_
      rintro _ _ _ ⟨rfl, rfl, rfl⟩
      refine zN ?_; refine zT ?_; refine zS ?_
      refine XA.draw (by kernel_rfl) _ _ [5, 7, 9] [(0, .pu), (1, .rd), (3, .pu), (4, .rd), (2, .wr), (6, .pu), (5, .wr), (7, .wr), (8, .pu), (9, .wr)] (by kernel_rfl) (PH.sub.refl _) (Ent.sel (R := blk g5 _ _) (by ((repeat (first | with_reducible exact Sel.head | apply Sel.tail)); (first | done | fail))) (Ent.nil _)) ?_
      refine XPA.pu rfl rfl Gd.free (Rd.fA rfl) ?_
      refine XPA.rd rfl rfl Gd.free (Rd.ldC rfl (tyrow rfl) rfl) ?_
      refine XPA.pu rfl rfl Gd.free (Rd.fA rfl) ?_
      refine XPA.rd rfl rfl Gd.free (Rd.ldC rfl (tyrow rfl) rfl) ?_
      refine XPA.wr0 rfl rfl Gd.free (WrA.cE (ihb.frozen σ1 _ hxb (by omega)) rfl) ?_
      rintro _ σ2 _ ⟨_, ⟨p2, c2, rfl, hb2, hs2, rfl⟩, rfl⟩
      refine stays (XPA.cl ?_)
      refine XPA.pu rfl rfl Gd.free (Rd.fA rfl) ?_
      refine XPA.wrZ0 rfl rfl Gd.free (by kernel_rfl) (WrA.cE (ihe.frozen σ2 _ (hxl.mono hs2 (fun _ _ h => h.mono hs2)) (by omega)) rfl) ?_
      rintro _ σ3 _ ⟨_, ⟨p3, c3, rfl, he3, hs3, rfl⟩, rfl⟩
      refine XPA.cl ?_
      have hs13 := hs2.trans hs3
      have hst : StAt σ3 [i64 x'.op, i64 x'.v, i64 x'.e.op, i64 x'.e.v, i64 x'.e.n, .slice pe x'.e.l.length de, i64 x'.f.op, i64 x'.f.v, i64 x'.f.n, .slice pf x'.f.l.length df, .slice p2 (calmL x'.body).length c2, .slice p3 (calmL x'.els).length c3] (calmS x') := by
        have := StAt.of ho hv (hxe.mono hs13) (hxf.mono hs13) (hb2.mono hs3 (fun _ _ h => h.mono hs3)) he3
        cases x'; rw [calmS]; exact this
      have hnew : Rows_ 12 StAt σ3 (rows ++ [[i64 x'.op, i64 x'.v, i64 x'.e.op, i64 x'.e.v, i64 x'.e.n, .slice pe x'.e.l.length de, i64 x'.f.op, i64 x'.f.v, i64 x'.f.n, .slice pf x'.f.l.length df, .slice p2 (calmL x'.body).length c2, .slice p3 (calmL x'.els).length c3]]) (calmL (l.take (i + 1))) := by
        rw [hcs]; exact (hrows.mono (fun _ _ h => h.mono hs13)).snoc rfl hst
      refine XPA.wrZ0 rfl rfl Gd.free (by kernel_rfl) (WrA.st (tyrow rfl) rfl) ?_
      rintro _ _ _ ⟨rfl, rfl, rfl⟩
      refine XPA.pu rfl rfl Gd.free (Rd.fA rfl) ?_
      refine XPA.wrZ0 rfl rfl Gd.free (by kernel_rfl) (WrA.st (tyrow rfl) rfl) ?_
      rintro _ _ _ ⟨rfl, rfl, rfl⟩
      refine XPA.nil ?_
      refine zT ?_; refine zR ?_; refine zO rfl Rd.mv ?_; refine zO rfl (Rd.ldA rfl) ?_
      refine XOA.wr0 rfl (WrA.bs1 (tyrow rfl) rfl (tyrow rfl)) ?_
      rintro _ _ _ ⟨g32, rfl, rfl, rfl⟩
      refine XOA.wr0 rfl (WrA.ap1 (tyrow rfl) rfl (tyrow rfl) rfl rfl rfl) ?_
      rintro _ _ _ ⟨p33, c33, rfl, rfl, rfl⟩
      refine zO rfl Rd.asg ?_; refine zN ?_
      refine DA.inb_normal ?_
      refine zT ?_; refine zR ?_; refine zO rfl Rd.mv ?_
      refine zO rfl (by first | exact Rd.adi rfl rfl | exact Rd.add rfl rfl) ?_
      refine zO rfl Rd.asg ?_; refine zN ?_; refine zT ?_
      refine ⟨(Keep.upd (Keep.upd (Keep.upd (Keep.upd (Keep.updO (Keep.updO (Keep.upd (Keep.upd (Keep.updN (Keep.upd (Keep.updN (Keep.updO (Keep.upd (Keep.updO (Keep.upd (Keep.upd (Keep.upd (Keep.upd (Keep.updN (Keep.updO (Keep.upd (Keep.upd (Keep.upd (Keep.upd (Keep.upd (Keep.upd (Keep.upd (Keep.upd (Keep.upd (Keep.upd (Keep.upd (Keep.upd (Keep.upd (Keep.upd (Keep.upd (Keep.upd (Keep.hav (Keep.refl _ _) rfl) rfl) rfl) rfl) rfl) rfl) rfl) rfl) rfl) rfl) rfl) rfl) rfl) rfl) rfl) rfl) rfl) rfl)) rfl) rfl) rfl) rfl) rfl) rfl) rfl)) rfl)) rfl) rfl) rfl) rfl) rfl) rfl) rfl) rfl), (i + 1, (n + 1, (p33, c33))), _, (by (repeat (first | exact trivial | refine ⟨rfl, ?_⟩ | refine ⟨Eq.trans rfl (congrArg Value.bool hmat.symm), ?_⟩)); (first | done | fail)), ?_, ⟨hs1.trans hs13, hlt, (by simp only; rw [hcs, List.length_append, ← hn]; rfl), _, hnew, rfl⟩, (by simp only; omega)⟩
      · rw [flatS]; exact zE
    have h7' : x'.op = 7 := Decidable.not_not.1 h7
    have hcs : calmL (l.take (i + 1)) = calmL (l.take i) := by rw [calmL_snoc hx', if_pos h7']
    refine XA.skip ?_
    refine DA.inb_normal ?_
    refine zT ?_; refine zR ?_; refine zO rfl Rd.mv ?_
    refine zO rfl (by first | exact Rd.adi rfl rfl | exact Rd.add rfl rfl) ?_
    refine zO rfl Rd.asg ?_; refine zN ?_; refine zT ?_
    refine ⟨(Keep.upd (Keep.upd (Keep.upd (Keep.upd (Keep.upd (Keep.upd (Keep.upd (Keep.upd (Keep.upd (Keep.upd (Keep.upd (Keep.upd (Keep.upd (Keep.upd (Keep.upd (Keep.hav (Keep.refl _ _) rfl) rfl) rfl) rfl) rfl) rfl) rfl) rfl) rfl) rfl) rfl) rfl) rfl) rfl) rfl) rfl), (i + 1, (n, (p, c))), _, (by (repeat (first | exact trivial | refine ⟨rfl, ?_⟩ | refine ⟨Eq.trans rfl (congrArg Value.bool hmat.symm), ?_⟩)); (first | done | fail)), ?_, ⟨hs1, hlt, (by simp only; rw [hcs]; exact hn), rows, (by simp only; rw [hcs]; exact hrows), rfl⟩, (by simp only; omega)⟩
    · exact zE
  have hil : i = l.length := by omega
  subst hil
  rw [List.take_length] at hrows hn
  have hr2 : Rows_ 12 StAt σ1 rows (calmL l) := hrows
  subst hn
  refine XA.exit ?_
  refine DA.thn_exit ?_
  refine DA.thn_exit ?_
  refine DA.inb_same ?_
  refine zT ?_; refine zS ?_; refine zR ?_; refine zO rfl Rd.mv ?_; refine zO rfl Rd.asg ?_; refine zN ?_; refine zT ?_
  refine XA.ret ?_
  exact bodyA.ret (ResA.one rfl rfl) zE ⟨p, c, rows, rfl, hr2, hs1, rfl⟩
theorem calm_x (x : St) : CalmW x.body ∧ CalmW x.els := by
  refine St.ind (P := fun x => CalmW x.body ∧ CalmW x.els) ?_ x
  intro op v e f body els ih jh
  exact ⟨calm_l body ih, calm_l els jh⟩
theorem calm_w (l : List St) : CalmW l := calm_l l (fun x _ => calm_x x)
theorem commits_law (σ : PH) (cs : List Value) (p : Pr) (iv : Value) (inp : List Int) (fuel : Int) (hp : PrAt σ cs p) (hi : PInts σ iv inp) :
    CallsA Try.prog 12 #[.agg cs.toArray, iv, i64 fuel] σ [] (RetA fun r σ' _ => r = .bool true ∧ σ.sub σ') := by
  have hp0 := hp
  obtain ⟨vs, bs, rfl, hv, hb⟩ := hp
  obtain ⟨pv, cv, rfl, -, -⟩ := hv.shape
  obtain ⟨pb, cb, rfl, -, -⟩ := hb.shape
  obtain ⟨pi, ci, rfl, hil, him⟩ := hi.shape
  simp only [maxLen] at him
  refine enterA3 Try.func12 rfl rfl rfl ?_
  refine zS ?_; refine zR ?_
  refine XOA.wr0 rfl WrA.bx ?_
  rintro _ _ _ ⟨g3, rfl, rfl, rfl⟩
  refine zO rfl Rd.asg ?_; refine zN ?_; refine zT ?_; refine zS ?_; refine zS ?_; refine zR ?_
  refine XOA.wr0 rfl (WrA.cE (ibegun_a σ) rfl) ?_
  rintro _ σ1 _ ⟨_, ⟨rfl, hs1, rfl⟩, rfl⟩
  refine XOA.cl ?_
  have hp1 := hp0.mono hs1
  have hi1 := hi.mono hs1
  refine zO rfl (by first | exact Rd.notp rfl | exact Rd.not rfl) ?_
  refine zN ?_; refine zT ?_
  refine XA.condF rfl rfl ?_
  refine XA.skip ?_
  refine zT ?_; refine zS ?_; refine zS ?_; refine zR ?_; refine zO rfl (Rd.ldA rfl) ?_
  refine XOA.wr0 rfl (WrA.cE (great_a σ1 _ p hp1) rfl) ?_
  rintro _ _ _ ⟨_, ⟨b, rfl, hsm, rfl, rfl⟩, rfl⟩
  refine XOA.cl ?_
  cases b with
  | true =>
    refine zO rfl Rd.mv ?_
    first | ((first | refine zW ?_ | refine zQ ?_); refine zO rfl Rd.mv ?_) | refine zU ?_ | refine zV ?_ | refine zZ ?_
    first | ((first | refine zW ?_ | refine zQ ?_); refine zO rfl (Rd.lenSlice (tyrow rfl) rfl rfl) ?_) | refine zU ?_ | refine zV ?_ | refine zZ ?_
    first | ((first | refine zW ?_ | refine zQ ?_); refine zO rfl (Rd.gtr rfl rfl) ?_) | refine zU ?_ | refine zV ?_ | refine zZ ?_
    refine zO rfl (by first | exact Rd.pT rfl | exact Rd.pF rfl | exact Rd.pP rfl) ?_
    refine zO rfl Rd.mv ?_
    first | ((first | refine zW ?_ | refine zQ ?_); refine zO rfl Rd.mv ?_) | refine zU ?_ | refine zV ?_ | refine zZ ?_
    first | ((first | refine zW ?_ | refine zQ ?_); refine zO rfl (Rd.lss rfl rfl) ?_) | refine zU ?_ | refine zV ?_ | refine zZ ?_
    refine zO rfl (by first | exact Rd.pT rfl | exact Rd.pF rfl | exact Rd.pP rfl) ?_
    refine zO rfl Rd.mv ?_
    first | ((first | refine zW ?_ | refine zQ ?_); refine zO rfl Rd.mv ?_) | refine zU ?_ | refine zV ?_ | refine zZ ?_
    first | ((first | refine zW ?_ | refine zQ ?_); refine zO rfl (Rd.gtr rfl rfl) ?_) | refine zU ?_ | refine zV ?_ | refine zZ ?_
    refine zO rfl (by first | exact Rd.pT rfl | exact Rd.pF rfl | exact Rd.pP rfl) ?_
    refine zN ?_; refine zT ?_
    refine XA.condT rfl rfl ?_
    refine zS ?_; refine zR ?_; refine zO rfl Rd.asg ?_; refine zN ?_; refine zT ?_
    refine XA.ret ?_
    refine DA.thn_ret ?_
    exact bodyA.ret (ResA.one rfl rfl) (Ent.nil _) ⟨rfl, hs1⟩
  | false =>
    have hsm := hsm rfl
    have h900 := hsm.2.2
    by_cases a1 : 40 < inp.length
    · skip
      refine zO rfl Rd.mv ?_
      first | ((first | refine zW ?_ | refine zQ ?_); refine zO rfl Rd.mv ?_) | refine zU ?_ | refine zV ?_ | refine zZ ?_
      first | ((first | refine zW ?_ | refine zQ ?_); refine zO rfl (Rd.lenSlice (tyrow rfl) rfl rfl) ?_) | refine zU ?_ | refine zV ?_ | refine zZ ?_
      first | ((first | refine zW ?_ | refine zQ ?_); refine zO rfl (Rd.gtr rfl rfl) ?_) | refine zU ?_ | refine zV ?_ | refine zZ ?_
      refine zO rfl (by first | exact Rd.pT rfl | exact Rd.pF rfl | exact Rd.pP rfl) ?_
      refine zO rfl Rd.mv ?_
      first | ((first | refine zW ?_ | refine zQ ?_); refine zO rfl Rd.mv ?_) | refine zU ?_ | refine zV ?_ | refine zZ ?_
      first | ((first | refine zW ?_ | refine zQ ?_); refine zO rfl (Rd.lss rfl rfl) ?_) | refine zU ?_ | refine zV ?_ | refine zZ ?_
      refine zO rfl (by first | exact Rd.pT rfl | exact Rd.pF rfl | exact Rd.pP rfl) ?_
      refine zO rfl Rd.mv ?_
      first | ((first | refine zW ?_ | refine zQ ?_); refine zO rfl Rd.mv ?_) | refine zU ?_ | refine zV ?_ | refine zZ ?_
      first | ((first | refine zW ?_ | refine zQ ?_); refine zO rfl (Rd.gtr rfl rfl) ?_) | refine zU ?_ | refine zV ?_ | refine zZ ?_
      refine zO rfl (by first | exact Rd.pT rfl | exact Rd.pF rfl | exact Rd.pP rfl) ?_
      refine zN ?_; refine zT ?_
      refine XA.condT rfl (by first | rfl | exact decide_eq_true (by omega)) ?_
      refine zS ?_; refine zR ?_; refine zO rfl Rd.asg ?_; refine zN ?_; refine zT ?_
      refine XA.ret ?_
      refine DA.thn_ret ?_
      exact bodyA.ret (ResA.one rfl rfl) (Ent.nil _) ⟨rfl, hs1⟩
    by_cases a2 : fuel < 0
    · skip
      refine zO rfl Rd.mv ?_
      first | ((first | refine zW ?_ | refine zQ ?_); refine zO rfl Rd.mv ?_) | refine zU ?_ | refine zV ?_ | refine zZ ?_
      first | ((first | refine zW ?_ | refine zQ ?_); refine zO rfl (Rd.lenSlice (tyrow rfl) rfl rfl) ?_) | refine zU ?_ | refine zV ?_ | refine zZ ?_
      first | ((first | refine zW ?_ | refine zQ ?_); refine zO rfl (Rd.gtr rfl rfl) ?_) | refine zU ?_ | refine zV ?_ | refine zZ ?_
      refine zO rfl (by first | exact Rd.pT rfl | exact Rd.pF rfl | exact Rd.pP rfl) ?_
      refine zO rfl Rd.mv ?_
      first | ((first | refine zW ?_ | refine zQ ?_); refine zO rfl Rd.mv ?_) | refine zU ?_ | refine zV ?_ | refine zZ ?_
      first | ((first | refine zW ?_ | refine zQ ?_); refine zO rfl (Rd.lss rfl rfl) ?_) | refine zU ?_ | refine zV ?_ | refine zZ ?_
      refine zO rfl (by first | exact Rd.pT rfl | exact Rd.pF rfl | exact Rd.pP rfl) ?_
      refine zO rfl Rd.mv ?_
      first | ((first | refine zW ?_ | refine zQ ?_); refine zO rfl Rd.mv ?_) | refine zU ?_ | refine zV ?_ | refine zZ ?_
      first | ((first | refine zW ?_ | refine zQ ?_); refine zO rfl (Rd.gtr rfl rfl) ?_) | refine zU ?_ | refine zV ?_ | refine zZ ?_
      refine zO rfl (by first | exact Rd.pT rfl | exact Rd.pF rfl | exact Rd.pP rfl) ?_
      refine zN ?_; refine zT ?_
      refine XA.condT rfl (by first | rfl | exact decide_eq_true (by omega)) ?_
      refine zS ?_; refine zR ?_; refine zO rfl Rd.asg ?_; refine zN ?_; refine zT ?_
      refine XA.ret ?_
      refine DA.thn_ret ?_
      exact bodyA.ret (ResA.one rfl rfl) (Ent.nil _) ⟨rfl, hs1⟩
    by_cases a3 : 3000 < fuel
    · skip
      refine zO rfl Rd.mv ?_
      first | ((first | refine zW ?_ | refine zQ ?_); refine zO rfl Rd.mv ?_) | refine zU ?_ | refine zV ?_ | refine zZ ?_
      first | ((first | refine zW ?_ | refine zQ ?_); refine zO rfl (Rd.lenSlice (tyrow rfl) rfl rfl) ?_) | refine zU ?_ | refine zV ?_ | refine zZ ?_
      first | ((first | refine zW ?_ | refine zQ ?_); refine zO rfl (Rd.gtr rfl rfl) ?_) | refine zU ?_ | refine zV ?_ | refine zZ ?_
      refine zO rfl (by first | exact Rd.pT rfl | exact Rd.pF rfl | exact Rd.pP rfl) ?_
      refine zO rfl Rd.mv ?_
      first | ((first | refine zW ?_ | refine zQ ?_); refine zO rfl Rd.mv ?_) | refine zU ?_ | refine zV ?_ | refine zZ ?_
      first | ((first | refine zW ?_ | refine zQ ?_); refine zO rfl (Rd.lss rfl rfl) ?_) | refine zU ?_ | refine zV ?_ | refine zZ ?_
      refine zO rfl (by first | exact Rd.pT rfl | exact Rd.pF rfl | exact Rd.pP rfl) ?_
      refine zO rfl Rd.mv ?_
      first | ((first | refine zW ?_ | refine zQ ?_); refine zO rfl Rd.mv ?_) | refine zU ?_ | refine zV ?_ | refine zZ ?_
      first | ((first | refine zW ?_ | refine zQ ?_); refine zO rfl (Rd.gtr rfl rfl) ?_) | refine zU ?_ | refine zV ?_ | refine zZ ?_
      refine zO rfl (by first | exact Rd.pT rfl | exact Rd.pF rfl | exact Rd.pP rfl) ?_
      refine zN ?_; refine zT ?_
      refine XA.condT rfl (by first | rfl | exact decide_eq_true (by omega)) ?_
      refine zS ?_; refine zR ?_; refine zO rfl Rd.asg ?_; refine zN ?_; refine zT ?_
      refine XA.ret ?_
      refine DA.thn_ret ?_
      exact bodyA.ret (ResA.one rfl rfl) (Ent.nil _) ⟨rfl, hs1⟩
    obtain ⟨f, rfl⟩ : ∃ f : Nat, fuel = f := ⟨fuel.toNat, by omega⟩
    refine zO rfl Rd.mv ?_
    first | ((first | refine zW ?_ | refine zQ ?_); refine zO rfl Rd.mv ?_) | refine zU ?_ | refine zV ?_ | refine zZ ?_
    first | ((first | refine zW ?_ | refine zQ ?_); refine zO rfl (Rd.lenSlice (tyrow rfl) rfl rfl) ?_) | refine zU ?_ | refine zV ?_ | refine zZ ?_
    first | ((first | refine zW ?_ | refine zQ ?_); refine zO rfl (Rd.gtr rfl rfl) ?_) | refine zU ?_ | refine zV ?_ | refine zZ ?_
    refine zO rfl (by first | exact Rd.pT rfl | exact Rd.pF rfl | exact Rd.pP rfl) ?_
    refine zO rfl Rd.mv ?_
    first | ((first | refine zW ?_ | refine zQ ?_); refine zO rfl Rd.mv ?_) | refine zU ?_ | refine zV ?_ | refine zZ ?_
    first | ((first | refine zW ?_ | refine zQ ?_); refine zO rfl (Rd.lss rfl rfl) ?_) | refine zU ?_ | refine zV ?_ | refine zZ ?_
    refine zO rfl (by first | exact Rd.pT rfl | exact Rd.pF rfl | exact Rd.pP rfl) ?_
    refine zO rfl Rd.mv ?_
    first | ((first | refine zW ?_ | refine zQ ?_); refine zO rfl Rd.mv ?_) | refine zU ?_ | refine zV ?_ | refine zZ ?_
    first | ((first | refine zW ?_ | refine zQ ?_); refine zO rfl (Rd.gtr rfl rfl) ?_) | refine zU ?_ | refine zV ?_ | refine zZ ?_
    refine zO rfl (by first | exact Rd.pT rfl | exact Rd.pF rfl | exact Rd.pP rfl) ?_
    refine zN ?_; refine zT ?_
    refine XA.condF rfl (by first | rfl | exact decide_eq_false (by omega)) ?_
    refine XA.skip ?_
    refine zT ?_; refine zS ?_; refine zR ?_; refine zO rfl (Rd.ldA rfl) ?_; refine zO rfl Rd.mv ?_; refine zO rfl Rd.mv ?_
    by_cases hc : checkP p = 0
    · skip
      refine XOA.wr0 rfl (WrA.cE (run_ok σ1 _ p _ inp f hp1 hi1 hc (by omega) (by omega)) rfl) ?_
      rintro _ σ2 _ ⟨_, ⟨c, s, po, pc, co, cc, hrun, rfl, hvo, hvc, hle, hs2, rfl⟩, rfl⟩
      refine XOA.cl ?_
      by_cases h13 : c = 13
      · subst h13
        refine zO rfl Rd.mv ?_
        refine zO rfl (Rd.extract rfl rfl) ?_
        refine zO rfl (Rd.extract rfl rfl) ?_
        refine zO rfl (Rd.extract rfl rfl) ?_
        refine XOA.wr0 rfl (WrA.alloc (tyrow rfl)) ?_
        rintro _ _ _ ⟨g7, rfl, rfl, rfl⟩
        refine XOA.wr0 rfl (WrA.st (tyrow rfl) rfl) ?_
        rintro _ _ _ ⟨rfl, rfl, rfl⟩
        refine zO rfl Rd.asg ?_; refine zO rfl Rd.asg ?_; refine zN ?_; refine zT ?_; refine zS ?_; refine zS ?_; refine zR ?_; refine zO rfl Rd.mv ?_
        refine zO rfl (Rd.neq rfl rfl) ?_
        refine zO rfl Rd.mv ?_
        first | ((first | refine zW ?_ | refine zQ ?_); refine zO rfl (Rd.fA rfl) ?_) | refine zU ?_ | refine zV ?_ | refine zZ ?_
        first | ((first | refine zW ?_ | refine zQ ?_); refine zO rfl (Rd.ldC rfl (tyrow rfl) rfl) ?_) | refine zU ?_ | refine zV ?_ | refine zZ ?_
        first | ((first | refine zW ?_ | refine zQ ?_); refine zO rfl (Rd.eql rfl rfl) ?_) | refine zU ?_ | refine zV ?_ | refine zZ ?_
        refine zO rfl (by first | exact Rd.pT rfl | exact Rd.pF rfl | exact Rd.pP rfl) ?_
        refine zN ?_; refine zT ?_
        refine XA.condT rfl (by first | rfl | exact decide_eq_true rfl) ?_
        refine zS ?_; refine zR ?_; refine zO rfl Rd.asg ?_; refine zN ?_; refine zT ?_
        refine XA.ret ?_
        refine DA.thn_ret ?_
        exact bodyA.ret (ResA.one rfl rfl) (Ent.nil _) ⟨rfl, hs1.trans hs2⟩
      · skip
        refine zO rfl Rd.mv ?_
        refine zO rfl (Rd.extract rfl rfl) ?_
        refine zO rfl (Rd.extract rfl rfl) ?_
        refine zO rfl (Rd.extract rfl rfl) ?_
        refine XOA.wr0 rfl (WrA.alloc (tyrow rfl)) ?_
        rintro _ _ _ ⟨g7, rfl, rfl, rfl⟩
        refine XOA.wr0 rfl (WrA.st (tyrow rfl) rfl) ?_
        rintro _ _ _ ⟨rfl, rfl, rfl⟩
        refine zO rfl Rd.asg ?_; refine zO rfl Rd.asg ?_; refine zN ?_; refine zT ?_; refine zS ?_; refine zS ?_; refine zR ?_; refine zO rfl Rd.mv ?_
        refine zO rfl (Rd.neq rfl rfl) ?_
        refine zO rfl Rd.mv ?_
        first | ((first | refine zW ?_ | refine zQ ?_); refine zO rfl (Rd.fA rfl) ?_) | refine zU ?_ | refine zV ?_ | refine zZ ?_
        first | ((first | refine zW ?_ | refine zQ ?_); refine zO rfl (Rd.ldC rfl (tyrow rfl) rfl) ?_) | refine zU ?_ | refine zV ?_ | refine zZ ?_
        first | ((first | refine zW ?_ | refine zQ ?_); refine zO rfl (Rd.eql rfl rfl) ?_) | refine zU ?_ | refine zV ?_ | refine zZ ?_
        refine zO rfl (by first | exact Rd.pT rfl | exact Rd.pF rfl | exact Rd.pP rfl) ?_
        refine zN ?_; refine zT ?_
        refine XA.condF rfl (decide_eq_false h13) ?_
        refine XA.skip ?_
        refine zT ?_; refine zS ?_
        have hp2 := hp1.mono hs2
        have hi2 := hi1.mono hs2
        have hs12 := hs1.trans hs2
        have hb2 := hb.mono hs12 (fun _ _ h => h.mono hs12)
        have hv2 := hv.mono hs12 (fun _ _ h => h)
        have hcalm := (calm_w p.body).frozen σ2 (.slice pb p.body.length cb) hb2 (by omega)
        have hcc := calm_check hc
        refine XA.join [(10, 12), (45, 57)] (fun x : Nat × ((Int × RS) × ((Option Addr × Nat) × (Option Addr × Nat))) => [(10, ptr x.1), (11, i64 ((f : Int) - x.2.1.2.left)), (12, i64 0)]) (fun x σ' Γ' => σ2.sub σ' ∧ RunIs ⟨p.vars, calmL p.body⟩ inp f x.2.1.1 x.2.1.2 ∧ PInts σ' (.slice x.2.2.1.1 x.2.1.2.out.length x.2.2.1.2) x.2.1.2.out ∧ PInts σ' (.slice x.2.2.2.1 x.2.1.2.cells.length x.2.2.2.2) x.2.1.2.cells ∧ x.2.1.2.left ≤ f ∧ Γ' = [blk x.1 [i64 x.2.1.1, .slice x.2.2.1.1 x.2.1.2.out.length x.2.2.1.2, .slice x.2.2.2.1 x.2.1.2.cells.length x.2.2.2.2] 63, blk g7 [i64 c, .slice po s.out.length co, .slice pc s.cells.length cc] 63]) ?_ ?_
        · skip
          refine XA.drawQ (by kernel_rfl) _ _ [5, 9, 10, 11, 12, 14, 15, 16] 17 #[false, false, false, false, false, false, false, false, false, false, false, false, false, false, false, false, false] rfl rfl (by kernel_rfl) (PH.sub.refl _) (Ent.sel (R := blk g3 _ _) (by ((repeat (first | with_reducible exact Sel.head | apply Sel.tail)); (first | done | fail))) (Ent.nil _)) ?_
          refine XQA.pu (i := 0) (listed' := #[true, false, false, false, false, false, false, false, false, false, false, false, false, false, false, false, false]) rfl rfl (by kernel_rfl) rfl Gd.free (Rd.fA rfl) ?_
          refine XQA.rd (i := 1) (listed' := #[true, true, false, false, false, false, false, false, false, false, false, false, false, false, false, false, false]) rfl rfl (by kernel_rfl) rfl Gd.free (Rd.ldC rfl (tyrow rfl) rfl) ?_
          refine XQA.pu (i := 2) (listed' := #[true, true, true, false, false, false, false, false, false, false, false, false, false, false, false, false, false]) rfl rfl (by kernel_rfl) rfl Gd.free (Rd.fA rfl) ?_
          refine XQA.rd (i := 3) (listed' := #[true, true, true, true, false, false, false, false, false, false, false, false, false, false, false, false, false]) rfl rfl (by kernel_rfl) rfl Gd.free (Rd.ldC rfl (tyrow rfl) rfl) ?_
          refine XQA.pu (i := 6) (listed' := #[true, true, true, true, false, false, true, false, false, false, false, false, false, false, false, false, false]) rfl rfl (by kernel_rfl) rfl Gd.free Rd.mv ?_
          refine XQA.pu (i := 7) (listed' := #[true, true, true, true, false, false, true, true, false, false, false, false, false, false, false, false, false]) rfl rfl (by kernel_rfl) rfl Gd.free Rd.mv ?_
          refine XQA.w2 (i := 4) (j := 13) (by kernel_rfl) ?_ ?_
          · refine XQA1.wr0 (listed' := #[true, true, true, true, true, false, true, true, false, false, false, false, false, false, false, false, false]) rfl rfl Gd.free (by kernel_rfl) rfl (WrA.cE hcalm rfl) ?_
            rintro _ σ3 _ ⟨_, ⟨pq, cq, rfl, hpq, hs3, rfl⟩, rfl⟩
            refine ⟨⟨(by first | exact PH.sub.refl _ | assumption | (refine PH.sub.trans ?_ (by assumption); assumption)), zE⟩, XQA.re (by conv => lhs; dsimp only [List.cons_append, List.nil_append]) ?_⟩
            refine XQA.pu (i := 5) (listed' := #[true, true, true, true, true, true, true, true, false, false, false, false, false, false, false, false, false]) rfl rfl (by kernel_rfl) rfl Gd.free (Rd.bl (fun _ _ => tyrow) rfl rfl rfl) ?_
            refine XQA.w2 (i := 8) (j := 13) (by kernel_rfl) ?_ ?_
            · refine XQA1.wr0 (listed' := #[true, true, true, true, true, true, true, true, true, false, false, false, false, false, false, false, false]) rfl rfl Gd.free (by kernel_rfl) rfl (WrA.cE (run_ok σ3 _ ⟨p.vars, calmL p.body⟩ _ inp f ⟨_, _, rfl, hv2.mono hs3 (fun _ _ h => h), hpq⟩ (hi2.mono hs3) hcc (by omega) (by omega)) rfl) ?_
              rintro _ σ4 _ ⟨_, ⟨c', s', po', pc', co', cc', hrun', rfl, hvo', hvc', hle', hs4, rfl⟩, rfl⟩
              refine ⟨⟨(by first | exact PH.sub.refl _ | assumption | (refine PH.sub.trans ?_ (by assumption); assumption)), zE⟩, XQA.re (by conv => lhs; dsimp only [List.cons_append, List.nil_append]) ?_⟩
              refine XQA.pu (i := 9) (listed' := #[true, true, true, true, true, true, true, true, true, true, false, false, false, false, false, false, false]) rfl rfl (by kernel_rfl) rfl Gd.free Rd.mv ?_
              refine XQA.pu (i := 10) (listed' := #[true, true, true, true, true, true, true, true, true, true, true, false, false, false, false, false, false]) rfl rfl (by kernel_rfl) rfl Gd.free (Rd.extract rfl rfl) ?_
              refine XQA.pu (i := 11) (listed' := #[true, true, true, true, true, true, true, true, true, true, true, true, false, false, false, false, false]) rfl rfl (by kernel_rfl) rfl Gd.free (Rd.extract rfl rfl) ?_
              refine XQA.pu (i := 12) (listed' := #[true, true, true, true, true, true, true, true, true, true, true, true, true, false, false, false, false]) rfl rfl (by kernel_rfl) rfl Gd.free (Rd.extract rfl rfl) ?_
              refine XQA.w1 (i := 13) (by kernel_rfl) ?_
              refine XQA1.wr0 (listed' := #[true, true, true, true, true, true, true, true, true, true, true, true, true, true, false, false, false]) rfl rfl Gd.free (by kernel_rfl) rfl (WrA.alloc (tyrow rfl)) ?_
              rintro _ _ _ ⟨g10, rfl, rfl, rfl⟩
              refine ⟨⟨(by first | exact PH.sub.refl _ | assumption | (refine PH.sub.trans ?_ (by assumption); assumption)), zE⟩, XQA.re (by conv => lhs; dsimp only [List.cons_append, List.nil_append]) ?_⟩
              refine XQA.w1 (i := 14) (by kernel_rfl) ?_
              refine XQA1.wrZ0 (listed' := #[true, true, true, true, true, true, true, true, true, true, true, true, true, true, true, false, false]) rfl rfl Gd.free (by kernel_rfl) rfl (by kernel_rfl) (WrA.st (tyrow rfl) rfl) ?_
              rintro _ _ _ ⟨rfl, rfl, rfl⟩
              refine XQA.re (by conv => lhs; dsimp only [List.cons_append, List.nil_append]) ?_
              refine XQA.pu (i := 15) (listed' := #[true, true, true, true, true, true, true, true, true, true, true, true, true, true, true, true, false]) rfl rfl (by kernel_rfl) rfl Gd.free Rd.asg ?_
              refine XQA.pu (i := 16) (listed' := #[true, true, true, true, true, true, true, true, true, true, true, true, true, true, true, true, true]) rfl rfl (by kernel_rfl) rfl Gd.free Rd.asg ?_
              refine XQA.nil rfl ?_
              refine DA.thn_normal ⟨(by (repeat (first | exact Keep.refl _ _ | refine Keep.upd ?_ rfl | refine Keep.updO ?_ rfl | refine Keep.updN ?_)); (first | done | fail)), (g10, ((c', s'), ((po', co'), (pc', cc')))), _, (by (repeat (first | exact trivial | refine ⟨rfl, ?_⟩ | refine ⟨Eq.trans rfl (congrArg Value.bool hmat.symm), ?_⟩)); (first | done | fail)), ?_, hs3.trans hs4, hrun', hvo', hvc', hle', rfl⟩; exact zE
            · refine XQA1.wr0 (listed' := #[true, true, true, true, true, true, true, true, false, false, false, false, false, true, false, false, false]) rfl rfl Gd.free (by kernel_rfl) rfl (WrA.alloc (tyrow rfl)) ?_
              rintro _ _ _ ⟨g10, rfl, rfl, rfl⟩
              refine ⟨⟨(by first | exact PH.sub.refl _ | assumption | (refine PH.sub.trans ?_ (by assumption); assumption)), zE⟩, XQA.re (by conv => lhs; dsimp only [List.cons_append, List.nil_append]) ?_⟩
              refine XQA.w1 (i := 8) (by kernel_rfl) ?_
              refine XQA1.wr0 (listed' := #[true, true, true, true, true, true, true, true, true, false, false, false, false, true, false, false, false]) rfl rfl Gd.free (by kernel_rfl) rfl (WrA.cE (run_ok σ3 _ ⟨p.vars, calmL p.body⟩ _ inp f ⟨_, _, rfl, hv2.mono hs3 (fun _ _ h => h), hpq⟩ (hi2.mono hs3) hcc (by omega) (by omega)) rfl) ?_
              rintro _ σ4 _ ⟨_, ⟨c', s', po', pc', co', cc', hrun', rfl, hvo', hvc', hle', hs4, rfl⟩, rfl⟩
              refine ⟨⟨(by first | exact PH.sub.refl _ | assumption | (refine PH.sub.trans ?_ (by assumption); assumption)), zE⟩, XQA.re (by conv => lhs; dsimp only [List.cons_append, List.nil_append]) ?_⟩
              refine XQA.pu (i := 9) (listed' := #[true, true, true, true, true, true, true, true, true, true, false, false, false, true, false, false, false]) rfl rfl (by kernel_rfl) rfl Gd.free Rd.mv ?_
              refine XQA.pu (i := 10) (listed' := #[true, true, true, true, true, true, true, true, true, true, true, false, false, true, false, false, false]) rfl rfl (by kernel_rfl) rfl Gd.free (Rd.extract rfl rfl) ?_
              refine XQA.pu (i := 11) (listed' := #[true, true, true, true, true, true, true, true, true, true, true, true, false, true, false, false, false]) rfl rfl (by kernel_rfl) rfl Gd.free (Rd.extract rfl rfl) ?_
              refine XQA.pu (i := 12) (listed' := #[true, true, true, true, true, true, true, true, true, true, true, true, true, true, false, false, false]) rfl rfl (by kernel_rfl) rfl Gd.free (Rd.extract rfl rfl) ?_
              refine XQA.w1 (i := 14) (by kernel_rfl) ?_
              refine XQA1.wrZ0 (listed' := #[true, true, true, true, true, true, true, true, true, true, true, true, true, true, true, false, false]) rfl rfl Gd.free (by kernel_rfl) rfl (by kernel_rfl) (WrA.st (tyrow rfl) rfl) ?_
              rintro _ _ _ ⟨rfl, rfl, rfl⟩
              refine XQA.re (by conv => lhs; dsimp only [List.cons_append, List.nil_append]) ?_
              refine XQA.pu (i := 15) (listed' := #[true, true, true, true, true, true, true, true, true, true, true, true, true, true, true, true, false]) rfl rfl (by kernel_rfl) rfl Gd.free Rd.asg ?_
              refine XQA.pu (i := 16) (listed' := #[true, true, true, true, true, true, true, true, true, true, true, true, true, true, true, true, true]) rfl rfl (by kernel_rfl) rfl Gd.free Rd.asg ?_
              refine XQA.nil rfl ?_
              refine DA.thn_normal ⟨(by (repeat (first | exact Keep.refl _ _ | refine Keep.upd ?_ rfl | refine Keep.updO ?_ rfl | refine Keep.updN ?_)); (first | done | fail)), (g10, ((c', s'), ((po', co'), (pc', cc')))), _, (by (repeat (first | exact trivial | refine ⟨rfl, ?_⟩ | refine ⟨Eq.trans rfl (congrArg Value.bool hmat.symm), ?_⟩)); (first | done | fail)), ?_, hs3.trans hs4, hrun', hvo', hvc', hle', rfl⟩; exact zE
          · refine XQA1.wr0 (listed' := #[true, true, true, true, false, false, true, true, false, false, false, false, false, true, false, false, false]) rfl rfl Gd.free (by kernel_rfl) rfl (WrA.alloc (tyrow rfl)) ?_
            rintro _ _ _ ⟨g10, rfl, rfl, rfl⟩
            refine ⟨⟨(by first | exact PH.sub.refl _ | assumption | (refine PH.sub.trans ?_ (by assumption); assumption)), zE⟩, XQA.re (by conv => lhs; dsimp only [List.cons_append, List.nil_append]) ?_⟩
            refine XQA.w1 (i := 4) (by kernel_rfl) ?_
            refine XQA1.wr0 (listed' := #[true, true, true, true, true, false, true, true, false, false, false, false, false, true, false, false, false]) rfl rfl Gd.free (by kernel_rfl) rfl (WrA.cE hcalm rfl) ?_
            rintro _ σ3 _ ⟨_, ⟨pq, cq, rfl, hpq, hs3, rfl⟩, rfl⟩
            refine ⟨⟨(by first | exact PH.sub.refl _ | assumption | (refine PH.sub.trans ?_ (by assumption); assumption)), zE⟩, XQA.re (by conv => lhs; dsimp only [List.cons_append, List.nil_append]) ?_⟩
            refine XQA.pu (i := 5) (listed' := #[true, true, true, true, true, true, true, true, false, false, false, false, false, true, false, false, false]) rfl rfl (by kernel_rfl) rfl Gd.free (Rd.bl (fun _ _ => tyrow) rfl rfl rfl) ?_
            refine XQA.w1 (i := 8) (by kernel_rfl) ?_
            refine XQA1.wr0 (listed' := #[true, true, true, true, true, true, true, true, true, false, false, false, false, true, false, false, false]) rfl rfl Gd.free (by kernel_rfl) rfl (WrA.cE (run_ok σ3 _ ⟨p.vars, calmL p.body⟩ _ inp f ⟨_, _, rfl, hv2.mono hs3 (fun _ _ h => h), hpq⟩ (hi2.mono hs3) hcc (by omega) (by omega)) rfl) ?_
            rintro _ σ4 _ ⟨_, ⟨c', s', po', pc', co', cc', hrun', rfl, hvo', hvc', hle', hs4, rfl⟩, rfl⟩
            refine ⟨⟨(by first | exact PH.sub.refl _ | assumption | (refine PH.sub.trans ?_ (by assumption); assumption)), zE⟩, XQA.re (by conv => lhs; dsimp only [List.cons_append, List.nil_append]) ?_⟩
            refine XQA.pu (i := 9) (listed' := #[true, true, true, true, true, true, true, true, true, true, false, false, false, true, false, false, false]) rfl rfl (by kernel_rfl) rfl Gd.free Rd.mv ?_
            refine XQA.pu (i := 10) (listed' := #[true, true, true, true, true, true, true, true, true, true, true, false, false, true, false, false, false]) rfl rfl (by kernel_rfl) rfl Gd.free (Rd.extract rfl rfl) ?_
            refine XQA.pu (i := 11) (listed' := #[true, true, true, true, true, true, true, true, true, true, true, true, false, true, false, false, false]) rfl rfl (by kernel_rfl) rfl Gd.free (Rd.extract rfl rfl) ?_
            refine XQA.pu (i := 12) (listed' := #[true, true, true, true, true, true, true, true, true, true, true, true, true, true, false, false, false]) rfl rfl (by kernel_rfl) rfl Gd.free (Rd.extract rfl rfl) ?_
            refine XQA.w1 (i := 14) (by kernel_rfl) ?_
            refine XQA1.wrZ0 (listed' := #[true, true, true, true, true, true, true, true, true, true, true, true, true, true, true, false, false]) rfl rfl Gd.free (by kernel_rfl) rfl (by kernel_rfl) (WrA.st (tyrow rfl) rfl) ?_
            rintro _ _ _ ⟨rfl, rfl, rfl⟩
            refine XQA.re (by conv => lhs; dsimp only [List.cons_append, List.nil_append]) ?_
            refine XQA.pu (i := 15) (listed' := #[true, true, true, true, true, true, true, true, true, true, true, true, true, true, true, true, false]) rfl rfl (by kernel_rfl) rfl Gd.free Rd.asg ?_
            refine XQA.pu (i := 16) (listed' := #[true, true, true, true, true, true, true, true, true, true, true, true, true, true, true, true, true]) rfl rfl (by kernel_rfl) rfl Gd.free Rd.asg ?_
            refine XQA.nil rfl ?_
            refine DA.thn_normal ⟨(by (repeat (first | exact Keep.refl _ _ | refine Keep.upd ?_ rfl | refine Keep.updO ?_ rfl | refine Keep.updN ?_)); (first | done | fail)), (g10, ((c', s'), ((po', co'), (pc', cc')))), _, (by (repeat (first | exact trivial | refine ⟨rfl, ?_⟩ | refine ⟨Eq.trans rfl (congrArg Value.bool hmat.symm), ?_⟩)); (first | done | fail)), ?_, hs3.trans hs4, hrun', hvo', hvc', hle', rfl⟩; exact zE
        rintro ⟨g10, ⟨c', s'⟩, ⟨po', co'⟩, pc', cc'⟩ δ σ4 _ ⟨hs4, hrun', hvo', hvc', hle', rfl⟩
        dsimp only [ovr, List.foldl]
        refine zT ?_
        simp only at hrun' hvo' hvc' hle' ⊢
        obtain ⟨rfl, ho, hcl, hlf⟩ := commits_plain hrun hrun' h13
        have hvo4 := hvo.mono hs4
        have hvc4 := hvc.mono hs4
        refine zS ?_; refine zR ?_; refine zO rfl Rd.mv ?_; refine zO rfl (Rd.eql rfl rfl) ?_; refine zO rfl Rd.mv ?_
        first | ((first | refine zW ?_ | refine zQ ?_); refine zO rfl Rd.mv ?_) | refine zU ?_ | refine zV ?_ | refine zZ ?_
        first | ((first | refine zW ?_ | refine zQ ?_); refine zO rfl Rd.mv ?_) | refine zU ?_ | refine zV ?_ | refine zZ ?_
        first | ((first | refine zW ?_ | refine zQ ?_); refine zO rfl (Rd.leq rfl rfl) ?_) | refine zU ?_ | refine zV ?_ | refine zZ ?_
        refine zO rfl (by first | exact Rd.pT rfl | exact Rd.pF rfl | exact Rd.pP rfl) ?_
        refine zO rfl Rd.mv ?_
        first | ((first | refine zW ?_ | refine zQ ?_); refine zO rfl (Rd.ldA rfl) ?_) | refine zU ?_ | refine zV ?_ | refine zZ ?_
        first | ((first | refine zW ?_ | refine zQ ?_); refine zO rfl (Rd.ldA rfl) ?_) | refine zU ?_ | refine zV ?_ | refine zZ ?_
        first | refine XOA.wanted rfl rfl ?_ | refine XOA.wq rfl rfl ?_
        refine XOA.wr0 rfl (WrA.cE (sresult_a σ4 _ _ _ _ _ s.out s.cells hvo4 hvc4 (by rw [← ho]; exact hvo') (by rw [← hcl]; exact hvc')) rfl) ?_
        rintro _ _ _ ⟨_, ⟨rfl, rfl, rfl⟩, rfl⟩
        refine XOA.cl ?_
        refine zO rfl (by first | exact Rd.pT rfl | exact Rd.pF rfl | exact Rd.pP rfl) ?_
        refine zO rfl Rd.asg ?_; refine zN ?_; refine zT ?_
        refine XA.ret ?_
        exact bodyA.ret (ResA.one rfl rfl) (Ent.nil _) ⟨rfl, hs12.trans hs4⟩
    · have n1 : checkP p ≠ 0 := hc
      refine XOA.wr0 rfl (WrA.cE (run_bad σ1 _ p _ inp f hp1 hi1 hc) rfl) ?_
      rintro _ σ2 _ ⟨_, ⟨rfl, hs2, rfl⟩, rfl⟩
      refine XOA.cl ?_
      refine zO rfl Rd.mv ?_
      refine zO rfl (Rd.extract rfl rfl) ?_
      refine zO rfl (Rd.extract rfl rfl) ?_
      refine zO rfl (Rd.extract rfl rfl) ?_
      refine XOA.wr0 rfl (WrA.alloc (tyrow rfl)) ?_
      rintro _ _ _ ⟨g7, rfl, rfl, rfl⟩
      refine XOA.wr0 rfl (WrA.st (tyrow rfl) rfl) ?_
      rintro _ _ _ ⟨rfl, rfl, rfl⟩
      refine zO rfl Rd.asg ?_; refine zO rfl Rd.asg ?_; refine zN ?_; refine zT ?_; refine zS ?_; refine zS ?_; refine zR ?_; refine zO rfl Rd.mv ?_
      refine zO rfl (Rd.neq rfl rfl) ?_
      refine zO rfl Rd.mv ?_
      first | ((first | refine zW ?_ | refine zQ ?_); refine zO rfl (Rd.fA rfl) ?_) | refine zU ?_ | refine zV ?_ | refine zZ ?_
      first | ((first | refine zW ?_ | refine zQ ?_); refine zO rfl (Rd.ldC rfl (tyrow rfl) rfl) ?_) | refine zU ?_ | refine zV ?_ | refine zZ ?_
      first | ((first | refine zW ?_ | refine zQ ?_); refine zO rfl (Rd.eql rfl rfl) ?_) | refine zU ?_ | refine zV ?_ | refine zZ ?_
      refine zO rfl (by first | exact Rd.pT rfl | exact Rd.pF rfl | exact Rd.pP rfl) ?_
      refine zN ?_; refine zT ?_
      refine XA.condT rfl (by first | rfl | exact decide_eq_true hc) ?_
      refine zS ?_; refine zR ?_; refine zO rfl Rd.asg ?_; refine zN ?_; refine zT ?_
      refine XA.ret ?_
      refine DA.thn_ret ?_
      exact bodyA.ret (ResA.one rfl rfl) (Ent.nil _) ⟨rfl, hs1.trans hs2⟩
end Go.Proofs.Ytbbghdkndbpmmaa
