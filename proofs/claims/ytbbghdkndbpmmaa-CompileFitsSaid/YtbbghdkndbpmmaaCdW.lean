/- The reference's judge of statements. -/
import Derived.Test.YtbbghdkndbpmmaaCdV
namespace Go.Proofs.Ytbbghdkndbpmmaa
open Go X
set_option maxHeartbeats 1000000
def RStmtsOK (σ : PH) (l : List St) : Prop := ∀ (sl : Value) (b : Nat) (p : Option Addr) (n c : Nat) (bs : Value) (e : JE) (deep : Int), PSl 12 StAt σ sl l → e.in_ → 0 ≤ deep → (deep ≤ 900 ∧ (e.isOk = true → deep ≤ 13)) →
  CallsA Try.prog 44 #[ptr b, sl, i64 deep] σ [Look b (.slice p n c) bs e] (RetA fun r σ' Γ' => r = .tuple #[] ∧ σ = σ' ∧ Γ' = [Look b (.slice p n c) bs (stsE n deep l e)])
theorem st_form (op : Int) (ex fx : Ex) (kb ke : Nat) (s : JE) : (s.fail ((!needE op && !noneX ex) || (!needF op && !noneX fx)) 5).fail ((!needB op && decide ((0 : Int) < (kb : Int))) || (!needO op && decide ((0 : Int) < (ke : Int)))) 5 = s.fail (stForm op ex fx kb ke) 5 := by
  rw [fail_or, stForm]
  congr 1
  simp only [Bool.or_assoc]
theorem rstmts_l (σ : PH) (l : List St) (ih : ∀ x ∈ l, RStmtsOK σ x.body ∧ RStmtsOK σ x.els) : RStmtsOK σ l := by
  intro sl b p n c bs e deep hl hin hd0 ⟨hd1, hd13⟩
  obtain ⟨pl, cl, rfl, hle, hmx⟩ := hl.shape
  have hlen : l.length ≤ maxLen := by omega
  simp only [maxLen] at hlen
  refine enterA3 Try.func44 rfl rfl rfl ?_
  refine zS ?_; refine zR ?_; refine zO rfl Rd.asg ?_; refine zN ?_; refine zT ?_
  refine XA.block ?_
  refine XA.gen [(0, _), (1, _), (2, _), (6, _)] ⟨(by with_reducible (conv => lhs; whnf)), (by with_reducible (conv => lhs; whnf)), (by with_reducible (conv => lhs; whnf)), (by with_reducible (conv => lhs; whnf)), trivial⟩ (fun δ => ?_)
  dsimp only [List.foldl]
  refine XA.loop [(6, 122)] (fun q : Nat => [(6, i64 q)]) (fun q σ' Γ' => σ = σ' ∧ q ≤ l.length ∧ Γ' = [Look b (.slice p n c) bs (stsE n deep (l.take q) e)]) (fun q => l.length - q) 0 (by exact ⟨rfl, trivial⟩) (Δ0 := _) ?_ (⟨rfl, Nat.zero_le _, rfl⟩) ?_
  · rw [List.take_zero, stsE]; exact zE
  rintro q δ _ _ ⟨rfl, hq, rfl⟩
  dsimp only [ovr, List.foldl]
  have hin2 : (stsE n deep (l.take q) e).in_ := in_of (Down.stsE n (l.take q)) hin deep
  by_cases hlt : q < l.length
  · obtain ⟨x, hx⟩ : ∃ x, l[q]? = some x := ⟨_, List.getElem?_eq_getElem hlt⟩
    obtain ⟨g, o, row, rfl, hrx, hrl, hrow⟩ := hl.at hx
    have hone := hrx.ones
    have e1 := stsE_snoc n deep l q x e hx
    obtain ⟨ihb, ihe⟩ := ih x (List.mem_of_getElem? hx)
    refine zS ?_; refine zS ?_; refine zR ?_; refine zO rfl Rd.mv ?_; refine zO rfl Rd.mv ?_; refine zO rfl (Rd.lenSlice (tyrow rfl) rfl rfl) ?_; refine zO rfl (Rd.lss rfl rfl) ?_; refine zO rfl Rd.mv ?_
    first | ((first | refine zW ?_ | refine zQ ?_); refine zO rfl Rd.mv ?_) | refine zU ?_ | refine zV ?_ | refine zZ ?_
    cases hst : stsE n deep (l.take q) e with
    | error c' =>
      have hfin : stsE n deep l e = .error c' := by
        have := stsE_app n deep (l.take q) (l.drop q) e
        rw [List.take_append_drop, hst, stsE_err] at this
        exact this
      rw [hfin]
      first | refine XA.opn (R := Look b (.slice p n c) bs (.error c')) (by ((repeat (first | with_reducible exact Sel.head | apply Sel.tail)); (first | done | fail))) (Look.errO) ?_ | refine XOA.opn (R := Look b (.slice p n c) bs (.error c')) (by ((repeat (first | with_reducible exact Sel.head | apply Sel.tail)); (first | done | fail))) (Look.errO) ?_ | refine DA.opn (R := Look b (.slice p n c) bs (.error c')) (by ((repeat (first | with_reducible exact Sel.head | apply Sel.tail)); (first | done | fail))) (Look.errO) ?_
      rintro lf h0
      first | refine XA.cl ?_ | refine XOA.cl ?_ | refine DA.cl ?_
      first | ((first | refine zW ?_ | refine zQ ?_); refine zO rfl (Rd.nilCheck rfl) ?_) | refine zU ?_ | refine zV ?_ | refine zZ ?_
      first | ((first | refine zW ?_ | refine zQ ?_); refine zO rfl (Rd.fA rfl) ?_) | refine zU ?_ | refine zV ?_ | refine zZ ?_
      first | ((first | refine zW ?_ | refine zQ ?_); refine zO rfl (Rd.ldC rfl (tyrow rfl) rfl) ?_) | refine zU ?_ | refine zV ?_ | refine zZ ?_
      first | ((first | refine zW ?_ | refine zQ ?_); refine zO rfl (Rd.eql rfl rfl) ?_) | refine zU ?_ | refine zV ?_ | refine zZ ?_
      refine zO rfl (by first | exact Rd.pT rfl | exact Rd.pF rfl | exact Rd.pP rfl) ?_
      refine zN ?_; refine zT ?_
      refine XA.condF rfl (decide_eq_false h0) ?_
      refine XA.exit ?_
      refine DA.thn_exit ?_
      refine DA.thn_exit ?_
      refine DA.inb_same ?_
      exact bodyA.normal (ResA.none rfl) (Ent.fold1 zE (Look.mkE h0)) ⟨rfl, rfl, rfl⟩
    | ok a =>
      have hdp : deep ≤ 13 := hd13 (by
        cases e with
        | ok _ => rfl
        | error c' => rw [stsE_err] at hst; cases hst)
      rw [hst] at e1 hin2
      obtain ⟨op, v, ex, fx, body, els⟩ := x
      obtain ⟨pe, de, pf, df, pb, cb, pl', cl', rfl, -, -, hxe, hxf, hxb, hxl⟩ := hrx.inv12
      simp only [St.op, St.v, St.e, St.f, St.body, St.els] at hxe hxf hxb hxl hrow hone hrl ihb ihe
      clear hrx
      obtain ⟨nE, nF, nV, nB, nO⟩ := need_op op
      obtain ⟨qE, hqE⟩ : ∃ q, q = needE op := ⟨_, rfl⟩
      obtain ⟨qF, hqF⟩ : ∃ q, q = needF op := ⟨_, rfl⟩
      obtain ⟨qV, hqV⟩ : ∃ q, q = needV op := ⟨_, rfl⟩
      obtain ⟨qB, hqB⟩ : ∃ q, q = needB op := ⟨_, rfl⟩
      obtain ⟨qO, hqO⟩ : ∃ q, q = needO op := ⟨_, rfl⟩
      rw [← hqE] at nE
      rw [← hqF] at nF
      rw [← hqV] at nV
      rw [← hqB] at nB
      rw [← hqO] at nO
      obtain ⟨cells, hcells⟩ : ∃ l, l = [i64 op, i64 v, i64 ex.op, i64 ex.v, i64 ex.n, .slice pe ex.l.length de, i64 fx.op, i64 fx.v, i64 fx.n, .slice pf fx.l.length df, .slice pb body.length cb, .slice pl' els.length cl'] := ⟨_, rfl⟩
      obtain ⟨ne, hne⟩ : ∃ q, q = noneX ex := ⟨_, rfl⟩
      obtain ⟨nf, hnf⟩ : ∃ q, q = noneX fx := ⟨_, rfl⟩
      obtain ⟨A1, hA1⟩ : ∃ A, A = (!qE && !ne) := ⟨_, rfl⟩
      obtain ⟨A2, hA2⟩ : ∃ A, A = (A1 || (!qF && !nf)) := ⟨_, rfl⟩
      obtain ⟨A3, hA3⟩ : ∃ A, A = (!qB && decide ((0 : Int) < (body.length : Int))) := ⟨_, rfl⟩
      obtain ⟨A4, hA4⟩ : ∃ A, A = (A3 || (!qO && decide ((0 : Int) < (els.length : Int)))) := ⟨_, rfl⟩
      have hform : ∀ s : JE, (s.fail A2 5).fail A4 5 = s.fail (stForm op ex fx body.length els.length) 5 := fun s => by rw [hA2, hA4, hA1, hA3, hne, hnf, hqE, hqF, hqB, hqO, st_form]
      first | refine XA.opn (R := Look b (.slice p n c) bs (.ok a)) (by ((repeat (first | with_reducible exact Sel.head | apply Sel.tail)); (first | done | fail))) (Look.okO) ?_ | refine XOA.opn (R := Look b (.slice p n c) bs (.ok a)) (by ((repeat (first | with_reducible exact Sel.head | apply Sel.tail)); (first | done | fail))) (Look.okO) ?_ | refine DA.opn (R := Look b (.slice p n c) bs (.ok a)) (by ((repeat (first | with_reducible exact Sel.head | apply Sel.tail)); (first | done | fail))) (Look.okO) ?_
      rintro ⟨⟩ -
      first | refine XA.cl ?_ | refine XOA.cl ?_ | refine DA.cl ?_
      first | ((first | refine zW ?_ | refine zQ ?_); refine zO rfl (Rd.nilCheck rfl) ?_) | refine zU ?_ | refine zV ?_ | refine zZ ?_
      first | ((first | refine zW ?_ | refine zQ ?_); refine zO rfl (Rd.fA rfl) ?_) | refine zU ?_ | refine zV ?_ | refine zZ ?_
      first | ((first | refine zW ?_ | refine zQ ?_); refine zO rfl (Rd.ldC rfl (tyrow rfl) rfl) ?_) | refine zU ?_ | refine zV ?_ | refine zZ ?_
      first | ((first | refine zW ?_ | refine zQ ?_); refine zO rfl (Rd.eql rfl rfl) ?_) | refine zU ?_ | refine zV ?_ | refine zZ ?_
      refine zO rfl (by first | exact Rd.pT rfl | exact Rd.pF rfl | exact Rd.pP rfl) ?_
      refine zN ?_; refine zT ?_
      refine XA.condT rfl rfl ?_
      refine XA.skip ?_
      refine zT ?_; refine zS ?_
      refine XA.block ?_
      refine zS ?_; refine zR ?_; refine zO rfl Rd.mv ?_; refine zO rfl Rd.mv ?_
      refine zO rfl (Rd.ixS rfl rfl) ?_
      refine zO rfl (Rd.ldA rfl) ?_
      refine XOA.wr0 rfl (WrA.alloc (tyrow rfl)) ?_
      rintro _ _ _ ⟨g7, rfl, rfl, rfl⟩
      refine XOA.wr0 rfl (WrA.st (tyrow rfl) rfl) ?_
      rintro _ _ _ ⟨rfl, rfl, rfl⟩
      refine zN ?_; refine zT ?_; refine zS ?_; refine zR ?_; refine zO rfl Rd.mv ?_; refine zO rfl Rd.mv ?_
      refine XOA.ent (Ent.foldC (Θ := [_]) (by (repeat (first | exact Ent.all _ | (apply Ent.take; focus (first | ((repeat (first | with_reducible exact Sel.head | apply Sel.tail)); done) | ((repeat (first | exact Sel.head | apply Sel.tail)); done))) | apply Ent.takeNil | apply Ent.takeEmp)); (first | done | fail)) (Look.mkO (l := a) rfl) (Ent.refl _)) ?_
      refine XOA.wr0 rfl (WrA.cE (head_a σ b (.slice p n c) bs (.ok a) deep hin2) rfl) ?_
      rintro _ _ _ ⟨_, ⟨rfl, rfl, rfl⟩, rfl⟩
      refine XOA.cl ?_
      refine zN ?_; refine zT ?_; refine zS ?_; refine zR ?_; refine zO rfl Rd.mv ?_; refine zO rfl (Rd.fA rfl) ?_; refine zO rfl (Rd.ldC rfl (tyrow rfl) rfl) ?_
      obtain ⟨E1, hE1⟩ : ∃ E1, E1 = JE.one (.ok a) deep := ⟨_, rfl⟩
      rw [← hE1, ← hcells]
      refine XOA.join (List.take_append_drop 6 _).symm [(28, 28), (31, 36)] (fun _ : Unit => [(28, ptr b), (36, .bool (decide (op < 1 ∨ 7 < op)))]) (fun _ σ' Γ' => σ = σ' ∧ Γ' = [Look b (.slice p n c) bs E1, blk g7 cells 46]) ?_ ?_
      · rw [hcells]
        by_cases h1 : op < 1
        · rw [show decide (op < 1 ∨ 7 < op) = true from decide_eq_true (.inl h1)]
          refine zO rfl (Rd.lss rfl rfl) ?_; refine zO rfl Rd.mv ?_
          first | ((first | refine zW ?_ | refine zQ ?_); refine zO rfl (Rd.fA rfl) ?_) | refine zU ?_ | refine zV ?_ | refine zZ ?_
          first | ((first | refine zW ?_ | refine zQ ?_); refine zO rfl (Rd.ldC rfl (tyrow rfl) rfl) ?_) | refine zU ?_ | refine zV ?_ | refine zZ ?_
          first | ((first | refine zW ?_ | refine zQ ?_); refine zO rfl (Rd.gtr rfl rfl) ?_) | refine zU ?_ | refine zV ?_ | refine zZ ?_
          refine zO rfl (by first | exact Rd.pT rfl | exact Rd.pF rfl | exact Rd.pP rfl) ?_
          refine zN ?_; refine zT ?_
          refine ⟨(Keep.upd (Keep.upd (Keep.upd (Keep.upd (Keep.upd (Keep.upd (Keep.refl _ _) rfl) rfl) rfl) rfl) rfl) rfl), (), _, (by (repeat (first | exact trivial | refine ⟨rfl, ?_⟩ | refine ⟨Eq.trans rfl (congrArg Value.bool hmat.symm), ?_⟩)); (first | done | fail)), ?_, ⟨rfl, rfl⟩⟩
          · exact zE
        · rw [show decide (op < 1 ∨ 7 < op) = decide (7 < op) from by rw [decide_eq_decide]; omega]
          refine zO rfl (Rd.lss rfl rfl) ?_; refine zO rfl Rd.mv ?_
          first | ((first | refine zW ?_ | refine zQ ?_); refine zO rfl (Rd.fA rfl) ?_) | refine zU ?_ | refine zV ?_ | refine zZ ?_
          first | ((first | refine zW ?_ | refine zQ ?_); refine zO rfl (Rd.ldC rfl (tyrow rfl) rfl) ?_) | refine zU ?_ | refine zV ?_ | refine zZ ?_
          first | ((first | refine zW ?_ | refine zQ ?_); refine zO rfl (Rd.gtr rfl rfl) ?_) | refine zU ?_ | refine zV ?_ | refine zZ ?_
          refine zO rfl (by first | exact Rd.pT rfl | exact Rd.pF rfl | exact Rd.pP rfl) ?_
          refine zN ?_; refine zT ?_
          refine ⟨(Keep.upd (Keep.upd (Keep.upd (Keep.upd (Keep.upd (Keep.upd (Keep.refl _ _) rfl) rfl) rfl) rfl) rfl) rfl), (), _, (by (repeat (first | exact trivial | refine ⟨rfl, ?_⟩ | refine ⟨Eq.trans rfl (congrArg Value.bool hmat.symm), ?_⟩)); (first | done | fail)), ?_, ⟨rfl, rfl⟩⟩
          · exact zE
      rintro - δ1 _ _ ⟨rfl, rfl⟩
      dsimp only [ovr, List.foldl]
      rw [hcells]
      refine XOA.wr0 rfl (WrA.cE (bad_a σ b _ bs E1 (decide (op < 1 ∨ 7 < op)) 2 (by decide)) rfl) ?_
      rintro _ _ _ ⟨_, ⟨rfl, rfl, rfl⟩, rfl⟩
      refine XOA.cl ?_
      refine zN ?_; refine zT ?_; refine zS ?_; refine zR ?_; refine zO rfl Rd.mv ?_; refine zO rfl (Rd.fA rfl) ?_; refine zO rfl (Rd.ldC rfl (tyrow rfl) rfl) ?_
      obtain ⟨E2, hE2⟩ : ∃ E2, E2 = JE.fail E1 (decide (op < 1 ∨ 7 < op)) 2 := ⟨_, rfl⟩
      rw [← hE2]
      refine XOA.wr0 rfl (WrA.cE (rneeded_a σ op 101) rfl) ?_
      rintro _ _ _ ⟨_, ⟨rfl, rfl, rfl⟩, rfl⟩
      refine XOA.cl ?_
      rw [nE, ← hcells]
      refine zO rfl (by first | exact Rd.notp rfl | exact Rd.not rfl) ?_
      refine XOA.join (List.take_append_drop 7 _).symm [(38, 38), (43, 49)] (fun _ : Unit => [(38, ptr b), (49, .bool A1)]) (fun _ σ' Γ' => σ = σ' ∧ Γ' = [Look b (.slice p n c) bs E2, blk g7 cells 46]) ?_ ?_
      · rw [hcells]
        cases hn : qE with
        | true =>
          rw [show A1 = false by rw [hA1, hn]; rfl]
          refine zO rfl Rd.mv ?_
          first | ((first | refine zW ?_ | refine zQ ?_); refine zO rfl (Rd.fA rfl) ?_) | refine zU ?_ | refine zV ?_ | refine zZ ?_
          first | ((first | refine zW ?_ | refine zQ ?_); refine zO rfl (Rd.ldA rfl) ?_) | refine zU ?_ | refine zV ?_ | refine zZ ?_
          first | refine zU ?_ | refine zV ?_ | refine zZ ?_
          first | ((first | refine zW ?_ | refine zQ ?_); refine zO rfl (by first | exact Rd.notp rfl | exact Rd.not rfl) ?_) | refine zU ?_ | refine zV ?_ | refine zZ ?_
          refine zO rfl (by first | exact Rd.pT rfl | exact Rd.pF rfl | exact Rd.pP rfl) ?_
          refine zO rfl Rd.mv ?_; refine zN ?_; refine zT ?_
          refine ⟨(Keep.upd (Keep.upd (Keep.upd (Keep.upd (Keep.upd (Keep.upd (Keep.upd (Keep.refl _ _) rfl) rfl) rfl) rfl) rfl) rfl) rfl), (), _, (by (repeat (first | exact trivial | refine ⟨rfl, ?_⟩ | refine ⟨Eq.trans rfl (congrArg Value.bool hmat.symm), ?_⟩)); (first | done | fail)), ?_, ⟨rfl, rfl⟩⟩
          · exact zE
        | false =>
          rw [show A1 = !ne by rw [hA1, hn]; rfl]
          refine zO rfl Rd.mv ?_
          first | ((first | refine zW ?_ | refine zQ ?_); refine zO rfl (Rd.fA rfl) ?_) | refine zU ?_ | refine zV ?_ | refine zZ ?_
          first | ((first | refine zW ?_ | refine zQ ?_); refine zO rfl (Rd.ldA rfl) ?_) | refine zU ?_ | refine zV ?_ | refine zZ ?_
          first | refine XOA.wanted rfl rfl ?_ | refine XOA.wq rfl rfl ?_
          refine XOA.wr0 rfl (WrA.cE (rzero_a σ _ _ hxe) rfl) ?_
          rintro _ _ _ ⟨_, ⟨rfl, rfl, rfl⟩, rfl⟩
          refine XOA.cl ?_
          rw [← hne]
          first | ((first | refine zW ?_ | refine zQ ?_); refine zO rfl (by first | exact Rd.notp rfl | exact Rd.not rfl) ?_) | refine zU ?_ | refine zV ?_ | refine zZ ?_
          refine zO rfl (by first | exact Rd.pT rfl | exact Rd.pF rfl | exact Rd.pP rfl) ?_
          refine zO rfl Rd.mv ?_; refine zN ?_; refine zT ?_
          refine ⟨(Keep.upd (Keep.upd (Keep.upd (Keep.updO (Keep.upd (Keep.upd (Keep.upd (Keep.refl _ _) rfl) rfl) rfl) rfl) rfl) rfl) rfl), (), _, (by (repeat (first | exact trivial | refine ⟨rfl, ?_⟩ | refine ⟨Eq.trans rfl (congrArg Value.bool hmat.symm), ?_⟩)); (first | done | fail)), ?_, ⟨rfl, rfl⟩⟩
          · exact zE
      rintro - δ2 _ _ ⟨rfl, rfl⟩
      dsimp only [ovr, List.foldl]
      refine XOA.join (List.take_append_drop 11 _).symm [(38, 38), (50, 60)] (fun _ : Unit => [(38, ptr b), (60, .bool A2)]) (fun _ σ' Γ' => σ = σ' ∧ Γ' = [Look b (.slice p n c) bs E2, blk g7 cells 46]) ?_ ?_
      · rw [hcells]
        cases hB : A1 with
        | true =>
          rw [show A2 = true by rw [hA2, hB]; rfl]
          first | ((first | refine zW ?_ | refine zQ ?_); refine zO rfl (Rd.fA rfl) ?_) | refine zU ?_ | refine zV ?_ | refine zZ ?_
          first | ((first | refine zW ?_ | refine zQ ?_); refine zO rfl (Rd.ldC rfl (tyrow rfl) rfl) ?_) | refine zU ?_ | refine zV ?_ | refine zZ ?_
          first | refine zU ?_ | refine zV ?_ | refine zZ ?_
          first | ((first | refine zW ?_ | refine zQ ?_); refine zO rfl (by first | exact Rd.notp rfl | exact Rd.not rfl) ?_) | refine zU ?_ | refine zV ?_ | refine zZ ?_
          first | ((first | refine zW ?_ | refine zQ ?_); refine zO rfl Rd.mv ?_) | refine zU ?_ | refine zV ?_ | refine zZ ?_
          first | ((first | refine zW ?_ | refine zQ ?_); refine zO rfl (Rd.fA rfl) ?_) | refine zU ?_ | refine zV ?_ | refine zZ ?_
          first | ((first | refine zW ?_ | refine zQ ?_); refine zO rfl (Rd.ldA rfl) ?_) | refine zU ?_ | refine zV ?_ | refine zZ ?_
          first | refine zU ?_ | refine zV ?_ | refine zZ ?_
          first | ((first | refine zW ?_ | refine zQ ?_); refine zO rfl (by first | exact Rd.notp rfl | exact Rd.not rfl) ?_) | refine zU ?_ | refine zV ?_ | refine zZ ?_
          first | ((first | refine zW ?_ | refine zQ ?_); refine zO rfl (by first | exact Rd.pT rfl | exact Rd.pF rfl | exact Rd.pP rfl) ?_) | refine zU ?_ | refine zV ?_ | refine zZ ?_
          refine zO rfl (by first | exact Rd.pT rfl | exact Rd.pF rfl | exact Rd.pP rfl) ?_
          refine zN ?_; refine zT ?_
          refine ⟨(Keep.upd (Keep.upd (Keep.upd (Keep.upd (Keep.upd (Keep.upd (Keep.upd (Keep.upd (Keep.upd (Keep.upd (Keep.upd (Keep.refl _ _) rfl) rfl) rfl) rfl) rfl) rfl) rfl) rfl) rfl) rfl) rfl), (), _, (by (repeat (first | exact trivial | refine ⟨rfl, ?_⟩ | refine ⟨Eq.trans rfl (congrArg Value.bool hmat.symm), ?_⟩)); (first | done | fail)), ?_, ⟨rfl, rfl⟩⟩
          · exact zE
        | false =>
          rw [hB, Bool.false_or] at hA2
          first | ((first | refine zW ?_ | refine zQ ?_); refine zO rfl (Rd.fA rfl) ?_) | refine zU ?_ | refine zV ?_ | refine zZ ?_
          first | ((first | refine zW ?_ | refine zQ ?_); refine zO rfl (Rd.ldC rfl (tyrow rfl) rfl) ?_) | refine zU ?_ | refine zV ?_ | refine zZ ?_
          first | refine XOA.wanted rfl rfl ?_ | refine XOA.wq rfl rfl ?_
          refine XOA.wr0 rfl (WrA.cE (rneeded_a σ op 102) rfl) ?_
          rintro _ _ _ ⟨_, ⟨rfl, rfl, rfl⟩, rfl⟩
          refine XOA.cl ?_
          rw [nF]
          cases hn : qF with
          | true =>
            rw [show A2 = false by rw [hA2, hn]; rfl]
            first | ((first | refine zW ?_ | refine zQ ?_); refine zO rfl (by first | exact Rd.notp rfl | exact Rd.not rfl) ?_) | refine zU ?_ | refine zV ?_ | refine zZ ?_
            first | ((first | refine zW ?_ | refine zQ ?_); refine zO rfl Rd.mv ?_) | refine zU ?_ | refine zV ?_ | refine zZ ?_
            first | ((first | refine zW ?_ | refine zQ ?_); refine zO rfl (Rd.fA rfl) ?_) | refine zU ?_ | refine zV ?_ | refine zZ ?_
            first | ((first | refine zW ?_ | refine zQ ?_); refine zO rfl (Rd.ldA rfl) ?_) | refine zU ?_ | refine zV ?_ | refine zZ ?_
            first | refine zU ?_ | refine zV ?_ | refine zZ ?_
            first | ((first | refine zW ?_ | refine zQ ?_); refine zO rfl (by first | exact Rd.notp rfl | exact Rd.not rfl) ?_) | refine zU ?_ | refine zV ?_ | refine zZ ?_
            first | ((first | refine zW ?_ | refine zQ ?_); refine zO rfl (by first | exact Rd.pT rfl | exact Rd.pF rfl | exact Rd.pP rfl) ?_) | refine zU ?_ | refine zV ?_ | refine zZ ?_
            refine zO rfl (by first | exact Rd.pT rfl | exact Rd.pF rfl | exact Rd.pP rfl) ?_
            refine zN ?_; refine zT ?_
            refine ⟨(Keep.upd (Keep.upd (Keep.upd (Keep.upd (Keep.upd (Keep.upd (Keep.upd (Keep.upd (Keep.updO (Keep.upd (Keep.upd (Keep.refl _ _) rfl) rfl) rfl) rfl) rfl) rfl) rfl) rfl) rfl) rfl) rfl), (), _, (by (repeat (first | exact trivial | refine ⟨rfl, ?_⟩ | refine ⟨Eq.trans rfl (congrArg Value.bool hmat.symm), ?_⟩)); (first | done | fail)), ?_, ⟨rfl, rfl⟩⟩
            · exact zE
          | false =>
            rw [show A2 = !nf by rw [hA2, hn]; rfl]
            first | ((first | refine zW ?_ | refine zQ ?_); refine zO rfl (by first | exact Rd.notp rfl | exact Rd.not rfl) ?_) | refine zU ?_ | refine zV ?_ | refine zZ ?_
            first | ((first | refine zW ?_ | refine zQ ?_); refine zO rfl Rd.mv ?_) | refine zU ?_ | refine zV ?_ | refine zZ ?_
            first | ((first | refine zW ?_ | refine zQ ?_); refine zO rfl (Rd.fA rfl) ?_) | refine zU ?_ | refine zV ?_ | refine zZ ?_
            first | ((first | refine zW ?_ | refine zQ ?_); refine zO rfl (Rd.ldA rfl) ?_) | refine zU ?_ | refine zV ?_ | refine zZ ?_
            first | refine XOA.wanted rfl rfl ?_ | refine XOA.wq rfl rfl ?_
            refine XOA.wr0 rfl (WrA.cE (rzero_a σ _ _ hxf) rfl) ?_
            rintro _ _ _ ⟨_, ⟨rfl, rfl, rfl⟩, rfl⟩
            refine XOA.cl ?_
            rw [← hnf]
            first | ((first | refine zW ?_ | refine zQ ?_); refine zO rfl (by first | exact Rd.notp rfl | exact Rd.not rfl) ?_) | refine zU ?_ | refine zV ?_ | refine zZ ?_
            first | ((first | refine zW ?_ | refine zQ ?_); refine zO rfl (by first | exact Rd.pT rfl | exact Rd.pF rfl | exact Rd.pP rfl) ?_) | refine zU ?_ | refine zV ?_ | refine zZ ?_
            refine zO rfl (by first | exact Rd.pT rfl | exact Rd.pF rfl | exact Rd.pP rfl) ?_
            refine zN ?_; refine zT ?_
            refine ⟨(Keep.upd (Keep.upd (Keep.upd (Keep.updO (Keep.upd (Keep.upd (Keep.upd (Keep.upd (Keep.updO (Keep.upd (Keep.upd (Keep.refl _ _) rfl) rfl) rfl) rfl) rfl) rfl) rfl) rfl) rfl) rfl) rfl), (), _, (by (repeat (first | exact trivial | refine ⟨rfl, ?_⟩ | refine ⟨Eq.trans rfl (congrArg Value.bool hmat.symm), ?_⟩)); (first | done | fail)), ?_, ⟨rfl, rfl⟩⟩
            · exact zE
      rintro - δ3 _ _ ⟨rfl, rfl⟩
      dsimp only [ovr, List.foldl]
      rw [hcells]
      refine XOA.wr0 rfl (WrA.cE (bad_a σ b _ bs E2 A2 5 (by decide)) rfl) ?_
      rintro _ _ _ ⟨_, ⟨rfl, rfl, rfl⟩, rfl⟩
      refine XOA.cl ?_
      refine zN ?_; refine zT ?_; refine zS ?_; refine zR ?_; refine zO rfl Rd.mv ?_; refine zO rfl (Rd.fA rfl) ?_; refine zO rfl (Rd.ldC rfl (tyrow rfl) rfl) ?_
      obtain ⟨E3, hE3⟩ : ∃ E3, E3 = JE.fail E2 A2 5 := ⟨_, rfl⟩
      rw [← hE3]
      refine XOA.wr0 rfl (WrA.cE (rneeded_a σ op 98) rfl) ?_
      rintro _ _ _ ⟨_, ⟨rfl, rfl, rfl⟩, rfl⟩
      refine XOA.cl ?_
      rw [nB, ← hcells]
      refine zO rfl (by first | exact Rd.notp rfl | exact Rd.not rfl) ?_
      refine XOA.join (List.take_append_drop 7 _).symm [(62, 62), (67, 73)] (fun _ : Unit => [(62, ptr b), (73, .bool A3)]) (fun _ σ' Γ' => σ = σ' ∧ Γ' = [Look b (.slice p n c) bs E3, blk g7 cells 46]) ?_ ?_
      · rw [hcells]
        cases hn : qB with
        | true =>
          rw [show A3 = false by rw [hA3, hn]; rfl]
          refine zO rfl Rd.mv ?_
          first | ((first | refine zW ?_ | refine zQ ?_); refine zO rfl (Rd.fA rfl) ?_) | refine zU ?_ | refine zV ?_ | refine zZ ?_
          first | ((first | refine zW ?_ | refine zQ ?_); refine zO rfl (Rd.ldC rfl (tyrow rfl) rfl) ?_) | refine zU ?_ | refine zV ?_ | refine zZ ?_
          first | ((first | refine zW ?_ | refine zQ ?_); refine zO rfl (Rd.lenSlice (tyrow rfl) rfl rfl) ?_) | refine zU ?_ | refine zV ?_ | refine zZ ?_
          first | ((first | refine zW ?_ | refine zQ ?_); refine zO rfl (Rd.gtr rfl rfl) ?_) | refine zU ?_ | refine zV ?_ | refine zZ ?_
          refine zO rfl (by first | exact Rd.pT rfl | exact Rd.pF rfl | exact Rd.pP rfl) ?_
          refine zO rfl Rd.mv ?_; refine zN ?_; refine zT ?_
          refine ⟨(Keep.upd (Keep.upd (Keep.upd (Keep.upd (Keep.upd (Keep.upd (Keep.upd (Keep.refl _ _) rfl) rfl) rfl) rfl) rfl) rfl) rfl), (), _, (by (repeat (first | exact trivial | refine ⟨rfl, ?_⟩ | refine ⟨Eq.trans rfl (congrArg Value.bool hmat.symm), ?_⟩)); (first | done | fail)), ?_, ⟨rfl, rfl⟩⟩
          · exact zE
        | false =>
          rw [show A3 = decide ((0 : Int) < (body.length : Int)) by rw [hA3, hn]; rfl]
          refine zO rfl Rd.mv ?_
          first | ((first | refine zW ?_ | refine zQ ?_); refine zO rfl (Rd.fA rfl) ?_) | refine zU ?_ | refine zV ?_ | refine zZ ?_
          first | ((first | refine zW ?_ | refine zQ ?_); refine zO rfl (Rd.ldC rfl (tyrow rfl) rfl) ?_) | refine zU ?_ | refine zV ?_ | refine zZ ?_
          first | ((first | refine zW ?_ | refine zQ ?_); refine zO rfl (Rd.lenSlice (tyrow rfl) rfl rfl) ?_) | refine zU ?_ | refine zV ?_ | refine zZ ?_
          first | ((first | refine zW ?_ | refine zQ ?_); refine zO rfl (Rd.gtr rfl rfl) ?_) | refine zU ?_ | refine zV ?_ | refine zZ ?_
          refine zO rfl (by first | exact Rd.pT rfl | exact Rd.pF rfl | exact Rd.pP rfl) ?_
          refine zO rfl Rd.mv ?_; refine zN ?_; refine zT ?_
          refine ⟨(Keep.upd (Keep.upd (Keep.upd (Keep.upd (Keep.upd (Keep.upd (Keep.upd (Keep.refl _ _) rfl) rfl) rfl) rfl) rfl) rfl) rfl), (), _, (by (repeat (first | exact trivial | refine ⟨rfl, ?_⟩ | refine ⟨Eq.trans rfl (congrArg Value.bool hmat.symm), ?_⟩)); (first | done | fail)), ?_, ⟨rfl, rfl⟩⟩
          · exact zE
      rintro - δ4 _ _ ⟨rfl, rfl⟩
      dsimp only [ovr, List.foldl]
      refine XOA.join (List.take_append_drop 11 _).symm [(62, 62), (74, 84)] (fun _ : Unit => [(62, ptr b), (84, .bool A4)]) (fun _ σ' Γ' => σ = σ' ∧ Γ' = [Look b (.slice p n c) bs E3, blk g7 cells 46]) ?_ ?_
      · rw [hcells]
        cases hB : A3 with
        | true =>
          rw [show A4 = true by rw [hA4, hB]; rfl]
          first | ((first | refine zW ?_ | refine zQ ?_); refine zO rfl (Rd.fA rfl) ?_) | refine zU ?_ | refine zV ?_ | refine zZ ?_
          first | ((first | refine zW ?_ | refine zQ ?_); refine zO rfl (Rd.ldC rfl (tyrow rfl) rfl) ?_) | refine zU ?_ | refine zV ?_ | refine zZ ?_
          first | refine zU ?_ | refine zV ?_ | refine zZ ?_
          first | ((first | refine zW ?_ | refine zQ ?_); refine zO rfl (by first | exact Rd.notp rfl | exact Rd.not rfl) ?_) | refine zU ?_ | refine zV ?_ | refine zZ ?_
          first | ((first | refine zW ?_ | refine zQ ?_); refine zO rfl Rd.mv ?_) | refine zU ?_ | refine zV ?_ | refine zZ ?_
          first | ((first | refine zW ?_ | refine zQ ?_); refine zO rfl (Rd.fA rfl) ?_) | refine zU ?_ | refine zV ?_ | refine zZ ?_
          first | ((first | refine zW ?_ | refine zQ ?_); refine zO rfl (Rd.ldC rfl (tyrow rfl) rfl) ?_) | refine zU ?_ | refine zV ?_ | refine zZ ?_
          first | ((first | refine zW ?_ | refine zQ ?_); refine zO rfl (Rd.lenSlice (tyrow rfl) rfl rfl) ?_) | refine zU ?_ | refine zV ?_ | refine zZ ?_
          first | ((first | refine zW ?_ | refine zQ ?_); refine zO rfl (Rd.gtr rfl rfl) ?_) | refine zU ?_ | refine zV ?_ | refine zZ ?_
          first | ((first | refine zW ?_ | refine zQ ?_); refine zO rfl (by first | exact Rd.pT rfl | exact Rd.pF rfl | exact Rd.pP rfl) ?_) | refine zU ?_ | refine zV ?_ | refine zZ ?_
          refine zO rfl (by first | exact Rd.pT rfl | exact Rd.pF rfl | exact Rd.pP rfl) ?_
          refine zN ?_; refine zT ?_
          refine ⟨(Keep.upd (Keep.upd (Keep.upd (Keep.upd (Keep.upd (Keep.upd (Keep.upd (Keep.upd (Keep.upd (Keep.upd (Keep.upd (Keep.refl _ _) rfl) rfl) rfl) rfl) rfl) rfl) rfl) rfl) rfl) rfl) rfl), (), _, (by (repeat (first | exact trivial | refine ⟨rfl, ?_⟩ | refine ⟨Eq.trans rfl (congrArg Value.bool hmat.symm), ?_⟩)); (first | done | fail)), ?_, ⟨rfl, rfl⟩⟩
          · exact zE
        | false =>
          rw [hB, Bool.false_or] at hA4
          first | ((first | refine zW ?_ | refine zQ ?_); refine zO rfl (Rd.fA rfl) ?_) | refine zU ?_ | refine zV ?_ | refine zZ ?_
          first | ((first | refine zW ?_ | refine zQ ?_); refine zO rfl (Rd.ldC rfl (tyrow rfl) rfl) ?_) | refine zU ?_ | refine zV ?_ | refine zZ ?_
          first | refine XOA.wanted rfl rfl ?_ | refine XOA.wq rfl rfl ?_
          refine XOA.wr0 rfl (WrA.cE (rneeded_a σ op 111) rfl) ?_
          rintro _ _ _ ⟨_, ⟨rfl, rfl, rfl⟩, rfl⟩
          refine XOA.cl ?_
          rw [nO]
          cases hn : qO with
          | true =>
            rw [show A4 = false by rw [hA4, hn]; rfl]
            first | ((first | refine zW ?_ | refine zQ ?_); refine zO rfl (by first | exact Rd.notp rfl | exact Rd.not rfl) ?_) | refine zU ?_ | refine zV ?_ | refine zZ ?_
            first | ((first | refine zW ?_ | refine zQ ?_); refine zO rfl Rd.mv ?_) | refine zU ?_ | refine zV ?_ | refine zZ ?_
            first | ((first | refine zW ?_ | refine zQ ?_); refine zO rfl (Rd.fA rfl) ?_) | refine zU ?_ | refine zV ?_ | refine zZ ?_
            first | ((first | refine zW ?_ | refine zQ ?_); refine zO rfl (Rd.ldC rfl (tyrow rfl) rfl) ?_) | refine zU ?_ | refine zV ?_ | refine zZ ?_
            first | ((first | refine zW ?_ | refine zQ ?_); refine zO rfl (Rd.lenSlice (tyrow rfl) rfl rfl) ?_) | refine zU ?_ | refine zV ?_ | refine zZ ?_
            first | ((first | refine zW ?_ | refine zQ ?_); refine zO rfl (Rd.gtr rfl rfl) ?_) | refine zU ?_ | refine zV ?_ | refine zZ ?_
            first | ((first | refine zW ?_ | refine zQ ?_); refine zO rfl (by first | exact Rd.pT rfl | exact Rd.pF rfl | exact Rd.pP rfl) ?_) | refine zU ?_ | refine zV ?_ | refine zZ ?_
            refine zO rfl (by first | exact Rd.pT rfl | exact Rd.pF rfl | exact Rd.pP rfl) ?_
            refine zN ?_; refine zT ?_
            refine ⟨(Keep.upd (Keep.upd (Keep.upd (Keep.upd (Keep.upd (Keep.upd (Keep.upd (Keep.upd (Keep.updO (Keep.upd (Keep.upd (Keep.refl _ _) rfl) rfl) rfl) rfl) rfl) rfl) rfl) rfl) rfl) rfl) rfl), (), _, (by (repeat (first | exact trivial | refine ⟨rfl, ?_⟩ | refine ⟨Eq.trans rfl (congrArg Value.bool hmat.symm), ?_⟩)); (first | done | fail)), ?_, ⟨rfl, rfl⟩⟩
            · exact zE
          | false =>
            rw [show A4 = decide ((0 : Int) < (els.length : Int)) by rw [hA4, hn]; rfl]
            first | ((first | refine zW ?_ | refine zQ ?_); refine zO rfl (by first | exact Rd.notp rfl | exact Rd.not rfl) ?_) | refine zU ?_ | refine zV ?_ | refine zZ ?_
            first | ((first | refine zW ?_ | refine zQ ?_); refine zO rfl Rd.mv ?_) | refine zU ?_ | refine zV ?_ | refine zZ ?_
            first | ((first | refine zW ?_ | refine zQ ?_); refine zO rfl (Rd.fA rfl) ?_) | refine zU ?_ | refine zV ?_ | refine zZ ?_
            first | ((first | refine zW ?_ | refine zQ ?_); refine zO rfl (Rd.ldC rfl (tyrow rfl) rfl) ?_) | refine zU ?_ | refine zV ?_ | refine zZ ?_
            first | ((first | refine zW ?_ | refine zQ ?_); refine zO rfl (Rd.lenSlice (tyrow rfl) rfl rfl) ?_) | refine zU ?_ | refine zV ?_ | refine zZ ?_
            first | ((first | refine zW ?_ | refine zQ ?_); refine zO rfl (Rd.gtr rfl rfl) ?_) | refine zU ?_ | refine zV ?_ | refine zZ ?_
            first | ((first | refine zW ?_ | refine zQ ?_); refine zO rfl (by first | exact Rd.pT rfl | exact Rd.pF rfl | exact Rd.pP rfl) ?_) | refine zU ?_ | refine zV ?_ | refine zZ ?_
            refine zO rfl (by first | exact Rd.pT rfl | exact Rd.pF rfl | exact Rd.pP rfl) ?_
            refine zN ?_; refine zT ?_
            refine ⟨(Keep.upd (Keep.upd (Keep.upd (Keep.upd (Keep.upd (Keep.upd (Keep.upd (Keep.upd (Keep.updO (Keep.upd (Keep.upd (Keep.refl _ _) rfl) rfl) rfl) rfl) rfl) rfl) rfl) rfl) rfl) rfl) rfl), (), _, (by (repeat (first | exact trivial | refine ⟨rfl, ?_⟩ | refine ⟨Eq.trans rfl (congrArg Value.bool hmat.symm), ?_⟩)); (first | done | fail)), ?_, ⟨rfl, rfl⟩⟩
            · exact zE
      rintro - δ5 _ _ ⟨rfl, rfl⟩
      dsimp only [ovr, List.foldl]
      rw [hcells]
      refine XOA.wr0 rfl (WrA.cE (bad_a σ b _ bs E3 A4 5 (by decide)) rfl) ?_
      rintro _ _ _ ⟨_, ⟨rfl, rfl, rfl⟩, rfl⟩
      refine XOA.cl ?_
      refine zN ?_; refine zT ?_; refine zS ?_
      rw [show JE.fail E3 A4 5 = JE.fail E2 (stForm op ex fx body.length els.length) 5 by rw [hE3, hform]]
      obtain ⟨H, hH⟩ : ∃ H, H = stHead n deep op v ex fx body.length els.length (.ok a) := ⟨_, rfl⟩
      have hHi : H.in_ := by rw [hH]; exact in_of (Down.stHead n op v ex fx body.length els.length) hin2 deep
      have hHn : JE.named (JE.fail E2 (stForm op ex fx body.length els.length) 5) n v qV = H := by rw [hH, stHead, hE2, hE1, hqV]
      obtain ⟨H1, hH1⟩ : ∃ H1, H1 = if qE = true then exE n (deep + 1) ex H else H := ⟨_, rfl⟩
      have hH1i : H1.in_ := by
        rw [hH1]; split
        · exact in_of (Down.exE n ex) hHi (deep + 1)
        · exact hHi
      obtain ⟨H2, hH2⟩ : ∃ H2, H2 = if qF = true then exE n (deep + 1) fx H1 else H1 := ⟨_, rfl⟩
      have hH2i : H2.in_ := by
        rw [hH2]; split
        · exact in_of (Down.exE n fx) hH1i (deep + 1)
        · exact hH1i
      have hend : stE n deep (.mk op v ex fx body els) (.ok a) = stsE n (deep + 1) els (stsE n (deep + 1) body H2) := by
        rw [stE, stEF, ← hqE, ← hqF, ← hH, ← hH1, ← hH2]
      have hdd : H2.isOk = true → deep ≤ 12 := fun h => by
        apply one_ok (e := .ok a)
        cases h1 : JE.one (.ok a) deep with
        | ok _ => rfl
        | error c' =>
          exfalso
          have e0 : H = .error c' := by rw [hH, stHead, h1, fail_err, fail_err, named_err]
          have e2 : H2 = .error c' := by rw [hH2, hH1, e0]; simp
          rw [e2] at h; cases h
      have hdd2 : (stsE n (deep + 1) body H2).isOk = true → deep ≤ 12 := fun h => hdd (by
        cases h2 : H2 with
        | ok _ => rfl
        | error c' => rw [h2, stsE_err] at h; cases h)
      clear hform hA1 hA2 hA3 hA4 hE1 hE3 hne hnf hH
      refine XA.draw (by kernel_rfl) _ _ [6] [(0, .pu), (1, .pu), (2, .rd), (3, .pu), (4, .rd), (5, .wr), (6, .wr)] (by kernel_rfl) (PH.sub.refl _) (Ent.sel (R := blk g7 _ _) (by ((repeat (first | with_reducible exact Sel.head | apply Sel.tail)); (first | done | fail))) (Ent.nil _)) ?_
      refine XPA.pu rfl rfl Gd.free Rd.mv ?_
      refine XPA.pu rfl rfl Gd.free (Rd.fA rfl) ?_
      refine XPA.rd rfl rfl Gd.free (Rd.ldC rfl (tyrow rfl) rfl) ?_
      refine XPA.pu rfl rfl Gd.free (Rd.fA rfl) ?_
      refine XPA.rd rfl rfl Gd.free (Rd.ldC rfl (tyrow rfl) rfl) ?_
      refine XPA.wr0 rfl rfl Gd.free (WrA.cE (rneeded_a σ op 118) rfl) ?_
      rintro _ _ _ ⟨_, ⟨rfl, rfl, rfl⟩, rfl⟩
      refine stays (XPA.cl ?_)
      rw [nV]
      refine XPA.wrZ0 rfl rfl Gd.free (by kernel_rfl) (WrA.cE (variable_a σ b p n c bs _ v qV) rfl) ?_
      rintro _ _ _ ⟨_, ⟨rfl, rfl, rfl⟩, rfl⟩
      refine XPA.cl ?_
      rw [hHn]
      refine XPA.nil ?_
      refine zT ?_; refine zS ?_; refine zS ?_; refine zR ?_; refine zO rfl (Rd.fA rfl) ?_; refine zO rfl (Rd.ldC rfl (tyrow rfl) rfl) ?_
      refine XOA.wr0 rfl (WrA.cE (rneeded_a σ op 101) rfl) ?_
      rintro _ _ _ ⟨_, ⟨rfl, rfl, rfl⟩, rfl⟩
      refine XOA.cl ?_
      rw [nE, ← hcells]
      refine zN ?_; refine zT ?_
      refine XA.join [(96, 101)] (fun _ : Unit => []) (fun _ σ' Γ' => σ = σ' ∧ Γ' = [Look b (.slice p n c) bs H1, blk g7 cells 46]) ?_ ?_
      · rw [hcells]
        refine XA.cond rfl (fun hq => ?_) (fun hq => ?_)
        · rw [show H1 = exE n (deep + 1) ex H by rw [hH1, if_pos hq]]
          refine zR ?_; refine zO rfl Rd.mv ?_; refine zO rfl (Rd.fA rfl) ?_; refine zO rfl (Rd.ldA rfl) ?_; refine zO rfl Rd.mv ?_
          refine zO rfl (by first | exact Rd.adi rfl rfl | exact Rd.add rfl rfl) ?_
          refine XOA.wr0 rfl (WrA.cE (rexpr_a σ ex _ b p n c bs H (deep + 1) hxe hHi (by omega) (by omega)) rfl) ?_
          rintro _ _ _ ⟨_, ⟨rfl, rfl, rfl⟩, rfl⟩
          refine XOA.cl ?_
          refine zN ?_; refine zT ?_
          refine ⟨(Keep.updO (Keep.upd (Keep.upd (Keep.upd (Keep.upd (Keep.upd (Keep.refl _ _) rfl) rfl) rfl) rfl) rfl) rfl), (), _, (by (repeat (first | exact trivial | refine ⟨rfl, ?_⟩ | refine ⟨Eq.trans rfl (congrArg Value.bool hmat.symm), ?_⟩)); (first | done | fail)), ?_, ⟨rfl, rfl⟩⟩
          · exact zE
        · rw [show H1 = H by rw [hH1, if_neg (by rw [hq]; decide)]]
          refine XA.skip ?_
          refine zT ?_
          refine ⟨(Keep.refl _ _), (), _, (by (repeat (first | exact trivial | refine ⟨rfl, ?_⟩ | refine ⟨Eq.trans rfl (congrArg Value.bool hmat.symm), ?_⟩)); (first | done | fail)), ?_, ⟨rfl, rfl⟩⟩
          · exact zE
      rintro - δ6 _ _ ⟨rfl, rfl⟩
      dsimp only [ovr, List.foldl]
      refine zT ?_
      rw [hcells]
      refine zS ?_; refine zS ?_; refine zR ?_; refine zO rfl (Rd.fA rfl) ?_; refine zO rfl (Rd.ldC rfl (tyrow rfl) rfl) ?_
      refine XOA.wr0 rfl (WrA.cE (rneeded_a σ op 102) rfl) ?_
      rintro _ _ _ ⟨_, ⟨rfl, rfl, rfl⟩, rfl⟩
      refine XOA.cl ?_
      rw [nF, ← hcells]
      refine zN ?_; refine zT ?_
      refine XA.join [(105, 110)] (fun _ : Unit => []) (fun _ σ' Γ' => σ = σ' ∧ Γ' = [Look b (.slice p n c) bs H2, blk g7 cells 46]) ?_ ?_
      · rw [hcells]
        refine XA.cond rfl (fun hq => ?_) (fun hq => ?_)
        · rw [show H2 = exE n (deep + 1) fx H1 by rw [hH2, if_pos hq]]
          refine zR ?_; refine zO rfl Rd.mv ?_; refine zO rfl (Rd.fA rfl) ?_; refine zO rfl (Rd.ldA rfl) ?_; refine zO rfl Rd.mv ?_
          refine zO rfl (by first | exact Rd.adi rfl rfl | exact Rd.add rfl rfl) ?_
          refine XOA.wr0 rfl (WrA.cE (rexpr_a σ fx _ b p n c bs H1 (deep + 1) hxf hH1i (by omega) (by omega)) rfl) ?_
          rintro _ _ _ ⟨_, ⟨rfl, rfl, rfl⟩, rfl⟩
          refine XOA.cl ?_
          refine zN ?_; refine zT ?_
          refine ⟨(Keep.updO (Keep.upd (Keep.upd (Keep.upd (Keep.upd (Keep.upd (Keep.refl _ _) rfl) rfl) rfl) rfl) rfl) rfl), (), _, (by (repeat (first | exact trivial | refine ⟨rfl, ?_⟩ | refine ⟨Eq.trans rfl (congrArg Value.bool hmat.symm), ?_⟩)); (first | done | fail)), ?_, ⟨rfl, rfl⟩⟩
          · exact zE
        · rw [show H2 = H1 by rw [hH2, if_neg (by rw [hq]; decide)]]
          refine XA.skip ?_
          refine zT ?_
          refine ⟨(Keep.refl _ _), (), _, (by (repeat (first | exact trivial | refine ⟨rfl, ?_⟩ | refine ⟨Eq.trans rfl (congrArg Value.bool hmat.symm), ?_⟩)); (first | done | fail)), ?_, ⟨rfl, rfl⟩⟩
          · exact zE
      rintro - δ7 _ _ ⟨rfl, rfl⟩
      dsimp only [ovr, List.foldl]
      refine zT ?_
      rw [hcells]
      refine zS ?_; refine zR ?_; refine zO rfl Rd.mv ?_; refine zO rfl (Rd.fA rfl) ?_; refine zO rfl (Rd.ldC rfl (tyrow rfl) rfl) ?_; refine zO rfl Rd.mv ?_
      refine zO rfl (by first | exact Rd.adi rfl rfl | exact Rd.add rfl rfl) ?_
      refine XOA.wr0 rfl (WrA.cE (ihb _ b p n c bs H2 (deep + 1) hxb hH2i (by omega) ⟨by omega, fun h => by have := hdd h; omega⟩) rfl) ?_
      rintro _ _ _ ⟨_, ⟨rfl, rfl, rfl⟩, rfl⟩
      refine XOA.cl ?_
      refine zN ?_; refine zT ?_; refine zR ?_; refine zO rfl Rd.mv ?_; refine zO rfl (Rd.fA rfl) ?_; refine zO rfl (Rd.ldC rfl (tyrow rfl) rfl) ?_; refine zO rfl Rd.mv ?_
      refine zO rfl (by first | exact Rd.adi rfl rfl | exact Rd.add rfl rfl) ?_
      refine XOA.wr0 rfl (WrA.cE (ihe _ b p n c bs _ (deep + 1) hxl (in_of (Down.stsE n body) hH2i (deep + 1)) (by omega) ⟨by omega, fun h => by have := hdd2 h; omega⟩) rfl) ?_
      rintro _ _ _ ⟨_, ⟨rfl, rfl, rfl⟩, rfl⟩
      refine XOA.cl ?_
      refine zN ?_
      refine DA.inb_normal ?_
      refine zT ?_; refine zR ?_; refine zO rfl Rd.mv ?_
      refine zO rfl (by first | exact Rd.adi rfl rfl | exact Rd.add rfl rfl) ?_
      refine zO rfl Rd.asg ?_; refine zN ?_; refine zT ?_
      refine ⟨(Keep.upd (Keep.upd (Keep.upd (Keep.updO (Keep.upd (Keep.upd (Keep.upd (Keep.upd (Keep.upd (Keep.updO (Keep.upd (Keep.upd (Keep.upd (Keep.upd (Keep.upd (Keep.hav (Keep.updO (Keep.upd (Keep.upd (Keep.hav (Keep.updO (Keep.upd (Keep.upd (Keep.updO (Keep.updO (Keep.upd (Keep.upd (Keep.upd (Keep.upd (Keep.upd (Keep.updO (Keep.upd (Keep.upd (Keep.hav (Keep.hav (Keep.upd (Keep.upd (Keep.hav (Keep.hav (Keep.upd (Keep.updO (Keep.upd (Keep.upd (Keep.upd (Keep.updO (Keep.upd (Keep.upd (Keep.hav (Keep.hav (Keep.upd (Keep.upd (Keep.hav (Keep.hav (Keep.upd (Keep.updO (Keep.upd (Keep.upd (Keep.upd (Keep.updO (Keep.upd (Keep.upd (Keep.hav (Keep.hav (Keep.upd (Keep.upd (Keep.upd (Keep.updO (Keep.upd (Keep.upd (Keep.updN (Keep.updO (Keep.upd (Keep.upd (Keep.upd (Keep.upd (Keep.upd (Keep.upd (Keep.upd (Keep.upd (Keep.upd (Keep.upd (Keep.upd (Keep.upd (Keep.upd (Keep.upd (Keep.upd (Keep.upd (Keep.hav (Keep.refl _ _) rfl) rfl) rfl) rfl) rfl) rfl) rfl) rfl) rfl) rfl) rfl) rfl) rfl) rfl) rfl) rfl) rfl) rfl)) rfl) rfl) rfl) rfl) rfl) rfl) rfl) rfl) rfl) rfl) rfl) rfl) rfl) rfl) rfl) rfl) rfl) rfl) rfl) rfl) rfl) rfl) rfl) rfl) rfl) rfl) rfl) rfl) rfl) rfl) rfl) rfl) rfl) rfl) rfl) rfl) rfl) rfl) rfl) rfl) rfl) rfl) rfl) rfl) rfl) rfl) rfl) rfl) rfl) rfl) rfl) rfl) rfl) rfl) rfl) rfl) rfl) rfl) rfl) rfl) rfl) rfl) rfl) rfl) rfl) rfl) rfl) rfl) rfl), q + 1, _, (by (repeat (first | exact trivial | refine ⟨rfl, ?_⟩ | refine ⟨Eq.trans rfl (congrArg Value.bool hmat.symm), ?_⟩)); (first | done | fail)), ?_, ⟨rfl, hlt, by rw [e1, hend]⟩, (by omega)⟩
      · exact zE
  · 
    have hqn : q = l.length := by omega
    subst hqn
    rw [List.take_length]
    refine zS ?_; refine zS ?_; refine zR ?_; refine zO rfl Rd.mv ?_; refine zO rfl Rd.mv ?_; refine zO rfl (Rd.lenSlice (tyrow rfl) rfl rfl) ?_; refine zO rfl (Rd.lss rfl rfl) ?_; refine zO rfl Rd.mv ?_
    first | ((first | refine zW ?_ | refine zQ ?_); refine zO rfl Rd.mv ?_) | refine zU ?_ | refine zV ?_ | refine zZ ?_
    first | ((first | refine zW ?_ | refine zQ ?_); refine zO rfl (Rd.nilCheck rfl) ?_) | refine zU ?_ | refine zV ?_ | refine zZ ?_
    first | ((first | refine zW ?_ | refine zQ ?_); refine zO rfl (Rd.fA rfl) ?_) | refine zU ?_ | refine zV ?_ | refine zZ ?_
    first | ((first | refine zW ?_ | refine zQ ?_); refine zO rfl (Rd.ldC rfl (tyrow rfl) rfl) ?_) | refine zU ?_ | refine zV ?_ | refine zZ ?_
    first | ((first | refine zW ?_ | refine zQ ?_); refine zO rfl (Rd.eql rfl rfl) ?_) | refine zU ?_ | refine zV ?_ | refine zZ ?_
    refine zO rfl (by first | exact Rd.pT rfl | exact Rd.pF rfl | exact Rd.pP rfl) ?_
    refine zN ?_; refine zT ?_
    refine XA.condF rfl (by first | rfl | exact (by first | exact (rfl : decide _ = true) | exact (rfl : decide _ = false) | (refine decide_eq_true ?_; assumption) | (refine decide_eq_false ?_; assumption) | (refine decide_eq_true ?_; omega) | (refine decide_eq_false ?_; omega))) ?_
    refine XA.exit ?_
    refine DA.thn_exit ?_
    refine DA.thn_exit ?_
    refine DA.inb_same ?_
    exact bodyA.normal (ResA.none rfl) zE ⟨rfl, rfl, rfl⟩
theorem rst_x (σ : PH) (x : St) : RStmtsOK σ x.body ∧ RStmtsOK σ x.els := by
  refine St.ind (P := fun x => RStmtsOK σ x.body ∧ RStmtsOK σ x.els) ?_ x
  intro op v e f body els ih jh
  exact ⟨rstmts_l σ body ih, rstmts_l σ els jh⟩
theorem rstmts_a (σ : PH) (l : List St) : RStmtsOK σ l := rstmts_l σ l (fun x _ => rst_x σ x)
end Go.Proofs.Ytbbghdkndbpmmaa
