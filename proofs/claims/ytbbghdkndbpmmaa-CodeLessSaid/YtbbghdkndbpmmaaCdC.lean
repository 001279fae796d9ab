/- The law CodeLess: what its function does. -/
import Derived.Test.YtbbghdkndbpmmaaCdB
namespace Go.Proofs.Ytbbghdkndbpmmaa
open Go X
set_option maxHeartbeats 1000000
theorem rows_get {α : Type} {s : Nat} {R : RT α} {σ : PH} {rows : List (List Value)} {xs : List α} (h : Rows_ s R σ rows xs) : xs.length = rows.length := h.len.symm
theorem less_law (σ : PH) (cs : List Value) (p : Pr) (kv : Value) (keep : List Bool) (k : Int) (hp : PrAt σ cs p) (hkv : PSl 1 rBool σ kv keep) (hk0 : -9223372036854775808 ≤ k) (hk1 : k ≤ 9223372036854775807) :
    CallsA Try.prog 5 #[.agg cs.toArray, kv, i64 k] σ [] (RetA fun r σ' _ => r = .bool true ∧ σ.sub σ') := by
  have hp0 := hp
  obtain ⟨vs, bs, rfl, hv, hb⟩ := hp
  obtain ⟨pv, cv, rfl, hvl, hvm⟩ := hv.shape
  obtain ⟨pb, cb, rfl, hbl, hbm⟩ := hb.shape
  obtain ⟨pk, ck, rfl, hkl, hkm⟩ := hkv.shape
  have hklen : keep.length ≤ maxLen := by omega
  simp only [maxLen] at hklen
  refine enterA3 Try.func5 rfl rfl rfl ?_
  refine XA.seq ?_
  refine XA.region ?_
  refine XOA.wr0 rfl WrA.bx ?_
  rintro _ _ _ ⟨g3, rfl, rfl, rfl⟩
  refine XOA.rd rfl Rd.asg ?_
  refine XOA.nil ?_
  refine DA.thn_normal ?_
  refine XA.seq ?_
  refine XA.seq ?_
  refine XA.region ?_
  refine XOA.wr0 rfl (WrA.cE (begun_a σ) rfl) ?_
  rintro _ σ1 _ ⟨_, ⟨rfl, hs1, rfl⟩, rfl⟩
  refine XOA.cl ?_
  have hp1 := hp0.mono hs1
  have hv1 := hv.mono hs1 (fun _ _ h => h)
  have hb1 := hb.mono hs1 (fun _ _ h => h.mono hs1)
  have hk1' := hkv.mono hs1 (fun _ _ h => h)
  refine XOA.rd rfl (by first | exact Rd.notp rfl | exact Rd.not rfl) ?_
  refine XOA.nil ?_
  refine DA.thn_normal ?_
  refine XA.condF rfl rfl ?_
  refine XA.skip ?_
  refine DA.thn_normal ?_
  refine XA.seq ?_
  refine XA.seq ?_
  refine XA.region ?_
  refine XOA.rd rfl (Rd.ldA rfl) ?_
  refine XOA.wr0 rfl (WrA.cE (great_a σ1 _ p hp1) rfl) ?_
  rintro _ _ _ ⟨_, ⟨b, rfl, hsm, rfl, rfl⟩, rfl⟩
  refine XOA.cl ?_
  cases b with
  | true =>
    refine XOA.rd rfl Rd.mv ?_
    first | ((first | refine XOA.wanted rfl rfl ?_ | refine XOA.wq rfl rfl ?_); refine XOA.rd rfl (Rd.ldA rfl) ?_) | refine XOA.unwanted rfl rfl rfl rfl ?_ | refine XOA.uq rfl rfl rfl ?_ | refine XOA.unwantedU rfl rfl rfl ?_
    first | refine XOA.unwanted rfl rfl rfl rfl ?_ | refine XOA.uq rfl rfl rfl ?_ | refine XOA.unwantedU rfl rfl rfl ?_
    first | ((first | refine XOA.wanted rfl rfl ?_ | refine XOA.wq rfl rfl ?_); refine XOA.rd rfl (Rd.neq rfl rfl) ?_) | refine XOA.unwanted rfl rfl rfl rfl ?_ | refine XOA.uq rfl rfl rfl ?_ | refine XOA.unwantedU rfl rfl rfl ?_
    refine XOA.rd rfl (by first | exact Rd.pT rfl | exact Rd.pF rfl | exact Rd.pP rfl) ?_
    refine XOA.nil ?_
    refine DA.thn_normal ?_
    refine XA.condT rfl rfl ?_
    refine XA.seq ?_
    refine XA.region ?_
    refine XOA.rd rfl Rd.asg ?_
    refine XOA.nil ?_
    refine DA.thn_normal ?_
    refine XA.ret ?_
    refine DA.thn_ret ?_
    exact bodyA.ret (ResA.one rfl rfl) (Ent.nil _) ⟨rfl, hs1⟩
  | false =>
    have hsm := hsm rfl
    have h30 := hsm.1
    have h900 := hsm.2.2
    have hlen := stsN_len p.body
    refine XOA.rd rfl Rd.mv ?_
    first | ((first | refine XOA.wanted rfl rfl ?_ | refine XOA.wq rfl rfl ?_); refine XOA.rd rfl (Rd.ldA rfl) ?_) | refine XOA.unwanted rfl rfl rfl rfl ?_ | refine XOA.uq rfl rfl rfl ?_ | refine XOA.unwantedU rfl rfl rfl ?_
    first | refine XOA.wanted rfl rfl ?_ | refine XOA.wq rfl rfl ?_
    refine XOA.wr0 rfl (WrA.cE (check_a σ1 _ p hp1) rfl) ?_
    rintro _ _ _ ⟨_, ⟨rfl, rfl, rfl⟩, rfl⟩
    refine XOA.cl ?_
    first | ((first | refine XOA.wanted rfl rfl ?_ | refine XOA.wq rfl rfl ?_); refine XOA.rd rfl (Rd.neq rfl rfl) ?_) | refine XOA.unwanted rfl rfl rfl rfl ?_ | refine XOA.uq rfl rfl rfl ?_ | refine XOA.unwantedU rfl rfl rfl ?_
    refine XOA.rd rfl (by first | exact Rd.pT rfl | exact Rd.pF rfl | exact Rd.pP rfl) ?_
    refine XOA.nil ?_
    refine DA.thn_normal ?_
    refine XA.condp rfl (fun hc => ?_) (fun hc => ?_)
    · refine XA.seq ?_
      refine XA.region ?_
      refine XOA.rd rfl Rd.asg ?_
      refine XOA.nil ?_
      refine DA.thn_normal ?_
      refine XA.ret ?_
      refine DA.thn_ret ?_
      exact bodyA.ret (ResA.one rfl rfl) (Ent.nil _) ⟨rfl, hs1⟩
    have hc : checkP ⟨p.vars, p.body⟩ = 0 := Decidable.not_not.1 hc
    refine XA.skip ?_
    refine DA.thn_normal ?_
    refine XA.seq ?_
    refine XA.region ?_
    refine XOA.rd rfl (Rd.fA rfl) ?_
    refine XOA.rd rfl (Rd.ldC rfl (tyrow rfl) rfl) ?_
    refine XOA.rd rfl (Rd.bl (fun _ _ => tyrow) rfl rfl rfl) ?_
    refine XOA.wr0 rfl (WrA.alloc (tyrow rfl)) ?_
    rintro _ _ _ ⟨g7, rfl, rfl, rfl⟩
    refine XOA.wr0 rfl (WrA.st (tyrow rfl) rfl) ?_
    rintro _ _ _ ⟨rfl, rfl, rfl⟩
    refine XOA.nil ?_
    refine DA.thn_normal ?_
    refine XA.seq ?_
    refine XA.seq ?_
    refine XA.region ?_
    refine XOA.rd rfl Rd.asg ?_
    refine XOA.nil ?_
    refine DA.thn_normal ?_
    refine XA.block ?_
    refine XA.gen [(1, _), (2, _), (3, _), (6, _), (7, _), (8, _)] ⟨(by with_reducible (conv => lhs; whnf)), (by with_reducible (conv => lhs; whnf)), (by with_reducible (conv => lhs; whnf)), (by with_reducible (conv => lhs; whnf)), (by with_reducible (conv => lhs; whnf)), (by with_reducible (conv => lhs; whnf)), trivial⟩ (fun δ => ?_)
    dsimp only [List.foldl]
    refine XA.loop [(8, 8), (22, 48)] (fun i : Nat => [(8, i64 i)]) (fun i σ' Γ' => σ1 = σ' ∧ i ≤ p.body.length ∧ ∃ (q : Option Addr) (c : Nat) (rows : List (List Value)) (L : List St), Rows_ 12 StAt σ1 rows L ∧ L.Sublist (p.body.take i) ∧ L.length ≤ i ∧ Γ' = [lst 46 12 (.slice q L.length c) L.length rows.flatten, blk g7 [.slice pv p.vars.length cv, .slice q L.length c] 25, blk g3 [.slice pv p.vars.length cv, .slice pb p.body.length cb] 25]) (fun i => p.body.length - i) 0 (by exact ⟨rfl, trivial⟩) (Δ0 := _) ?_ (⟨rfl, Nat.zero_le _, none, 0, [], [], Rows_.nil _ _ _, List.Sublist.refl _, Nat.le_refl _, rfl⟩) ?_
    · exact (by (repeat (first | exact Ent.nil _ | (apply Ent.sel; focus (first | ((repeat (first | with_reducible exact Sel.head | apply Sel.tail)); done) | ((repeat (first | exact Sel.head | apply Sel.tail)); done))) | apply Ent.selNil | apply Ent.selEmp)); (first | done | fail))
    rintro i δ _ _ ⟨rfl, hi, q, c, rows, L, hrows, hsub, hLi, rfl⟩
    dsimp only [ovr, List.foldl]
    refine XA.seq ?_
    refine XA.seq ?_
    refine XA.region ?_
    refine XOA.rd rfl Rd.mv ?_
    refine XOA.rd rfl (Rd.fA rfl) ?_
    refine XOA.rd rfl (Rd.ldC rfl (tyrow rfl) rfl) ?_
    refine XOA.rd rfl (Rd.lenSlice (tyrow rfl) rfl rfl) ?_
    refine XOA.rd rfl (Rd.lss rfl rfl) ?_
    refine XOA.nil ?_
    refine DA.thn_normal ?_
    refine XA.condp rfl (fun hlt => ?_) (fun hlt => ?_)
    · have hlt : i < p.body.length := by omega
      obtain ⟨x, hx⟩ : ∃ x, p.body[i]? = some x := ⟨_, List.getElem?_eq_getElem hlt⟩
      obtain ⟨g, o, row, rfl, hrx, hrl, hrow⟩ := hb1.at hx
      have hone := hrx.ones
      have htk := takeS hx
      refine XA.skip ?_
      refine DA.thn_normal ?_
      refine XA.seq ?_
      refine XA.block ?_
      refine XA.seq ?_
      refine XA.region ?_
      refine XOA.join (List.take_append_drop 10 _).symm [(29, 38)] (fun b : Bool => [(38, .bool b)]) (fun b σ' Γ' => σ1 = σ' ∧ Γ' = [lst 46 12 (.slice q L.length c) L.length rows.flatten, blk g7 [.slice pv p.vars.length cv, .slice q L.length c] 25, blk g3 [.slice pv p.vars.length cv, .slice (some ⟨g, o, none⟩) p.body.length cb] 25]) ?_ ?_
      · 
        by_cases hik : keep.length ≤ i
        · 
          refine XOA.rd rfl Rd.mv ?_
          refine XOA.rd rfl Rd.mv ?_
          refine XOA.rd rfl (Rd.lenSlice (tyrow rfl) rfl rfl) ?_
          refine XOA.rd rfl (Rd.geq rfl rfl) ?_
          refine XOA.rd rfl Rd.mv ?_
          first | ((first | refine XOA.wanted rfl rfl ?_ | refine XOA.wq rfl rfl ?_); refine XOA.rd rfl Rd.mv ?_) | refine XOA.unwanted rfl rfl rfl rfl ?_ | refine XOA.uq rfl rfl rfl ?_ | refine XOA.unwantedU rfl rfl rfl ?_
          first | ((first | refine XOA.wanted rfl rfl ?_ | refine XOA.wq rfl rfl ?_); refine XOA.rd rfl Rd.mv ?_) | refine XOA.unwanted rfl rfl rfl rfl ?_ | refine XOA.uq rfl rfl rfl ?_ | refine XOA.unwantedU rfl rfl rfl ?_
          first | ((first | refine XOA.wanted rfl rfl ?_ | refine XOA.wq rfl rfl ?_); refine XOA.rd rfl (Rd.ixS rfl rfl) ?_) | refine XOA.unwanted rfl rfl rfl rfl ?_ | refine XOA.uq rfl rfl rfl ?_ | refine XOA.unwantedU rfl rfl rfl ?_
          first | ((first | refine XOA.wanted rfl rfl ?_ | refine XOA.wq rfl rfl ?_); refine XOA.rd rfl (Rd.ldC rfl (tyrow rfl) rfl) ?_) | refine XOA.unwanted rfl rfl rfl rfl ?_ | refine XOA.uq rfl rfl rfl ?_ | refine XOA.unwantedU rfl rfl rfl ?_
          refine XOA.rd rfl (by first | exact Rd.pT rfl | exact Rd.pF rfl | exact Rd.pP rfl) ?_
          refine XOA.nil ?_
          refine DA.thn_normal ?_
          refine ⟨(Keep.upd (Keep.upd (Keep.upd (Keep.upd (Keep.upd (Keep.upd (Keep.upd (Keep.upd (Keep.upd (Keep.upd (Keep.refl _ _) rfl) rfl) rfl) rfl) rfl) rfl) rfl) rfl) rfl) rfl), true, _, (by (repeat (first | exact trivial | refine ⟨rfl, ?_⟩ | refine ⟨Eq.trans rfl (congrArg Value.bool hmat.symm), ?_⟩)); (first | done | fail)), ?_, ⟨rfl, rfl⟩⟩
          · exact (by (repeat (first | exact Ent.nil _ | (apply Ent.sel; focus (first | ((repeat (first | with_reducible exact Sel.head | apply Sel.tail)); done) | ((repeat (first | exact Sel.head | apply Sel.tail)); done))) | apply Ent.selNil | apply Ent.selEmp)); (first | done | fail))
        · obtain ⟨y, hy⟩ : ∃ y, keep[i]? = some y := ⟨_, List.getElem?_eq_getElem (by omega)⟩
          obtain ⟨gk, ok, rowk, rfl, rfl, -, hrowk⟩ := hk1'.at hy
          rw [Nat.mul_one] at hrowk
          refine XOA.rd rfl Rd.mv ?_
          refine XOA.rd rfl Rd.mv ?_
          refine XOA.rd rfl (Rd.lenSlice (tyrow rfl) rfl rfl) ?_
          refine XOA.rd rfl (Rd.geq rfl rfl) ?_
          refine XOA.rd rfl Rd.mv ?_
          first | ((first | refine XOA.wanted rfl rfl ?_ | refine XOA.wq rfl rfl ?_); refine XOA.rd rfl Rd.mv ?_) | refine XOA.unwanted rfl rfl rfl rfl ?_ | refine XOA.uq rfl rfl rfl ?_ | refine XOA.unwantedU rfl rfl rfl ?_
          first | ((first | refine XOA.wanted rfl rfl ?_ | refine XOA.wq rfl rfl ?_); refine XOA.rd rfl Rd.mv ?_) | refine XOA.unwanted rfl rfl rfl rfl ?_ | refine XOA.uq rfl rfl rfl ?_ | refine XOA.unwantedU rfl rfl rfl ?_
          first | ((first | refine XOA.wanted rfl rfl ?_ | refine XOA.wq rfl rfl ?_); refine XOA.rd rfl (Rd.ixS rfl rfl) ?_) | refine XOA.unwanted rfl rfl rfl rfl ?_ | refine XOA.uq rfl rfl rfl ?_ | refine XOA.unwantedU rfl rfl rfl ?_
          first | ((first | refine XOA.wanted rfl rfl ?_ | refine XOA.wq rfl rfl ?_); refine XOA.rd rfl (Rd.ldC rfl (tyrow rfl) rfl) ?_) | refine XOA.unwanted rfl rfl rfl rfl ?_ | refine XOA.uq rfl rfl rfl ?_ | refine XOA.unwantedU rfl rfl rfl ?_
          refine XOA.rd rfl (by first | exact Rd.pT rfl | exact Rd.pF rfl | exact Rd.pP rfl) ?_
          refine XOA.nil ?_
          refine DA.thn_normal ?_
          refine ⟨(Keep.upd (Keep.upd (Keep.upd (Keep.upd (Keep.upd (Keep.upd (Keep.upd (Keep.upd (Keep.upd (Keep.upd (Keep.refl _ _) rfl) rfl) rfl) rfl) rfl) rfl) rfl) rfl) rfl) rfl), y, _, (by (repeat (first | exact trivial | refine ⟨rfl, ?_⟩ | refine ⟨Eq.trans rfl (congrArg Value.bool hmat.symm), ?_⟩)); (first | done | fail)), ?_, ⟨rfl, rfl⟩⟩
          · exact (by (repeat (first | exact Ent.nil _ | (apply Ent.sel; focus (first | ((repeat (first | with_reducible exact Sel.head | apply Sel.tail)); done) | ((repeat (first | exact Sel.head | apply Sel.tail)); done))) | apply Ent.selNil | apply Ent.selEmp)); (first | done | fail))
      rintro b δ1 _ _ ⟨rfl, rfl⟩
      dsimp only [ovr, List.foldl]
      refine XOA.nil ?_
      refine DA.thn_normal ?_
      cases b with
      | true =>
        refine XA.condT rfl rfl ?_
        refine XA.draw (by kernel_rfl) _ _ [8, 10] [(0, .pu), (1, .rd), (2, .pu), (3, .rd), (4, .pu), (5, .pu), (6, .rd), (7, .wr), (8, .wr), (9, .pu), (10, .wr)] (by kernel_rfl) (PH.sub.refl _) (Ent.sel (R := blk g7 _ _) (by ((repeat (first | with_reducible exact Sel.head | apply Sel.tail)); (first | done | fail))) (Ent.sel (R := blk g3 _ _) (by ((repeat (first | with_reducible exact Sel.head | apply Sel.tail)); (first | done | fail))) (Ent.nil _))) ?_
        refine XPA.pu rfl rfl Gd.free (Rd.fA rfl) ?_
        refine XPA.rd rfl rfl Gd.free (Rd.ldC rfl (tyrow rfl) rfl) ?_
        refine XPA.pu rfl rfl Gd.free (Rd.fA rfl) ?_
        refine XPA.rd rfl rfl Gd.free (Rd.ldC rfl (tyrow rfl) rfl) ?_
        refine XPA.pu rfl rfl Gd.free Rd.mv ?_
        refine XPA.pu rfl rfl Gd.free (Rd.ixS rfl rfl) ?_
        refine XPA.rd rfl rfl Gd.free (Rd.ldA rfl) ?_
        refine XPA.wr0 rfl rfl Gd.free (WrA.bs1 (tyrow rfl) rfl (tyrow rfl)) ?_
        rintro _ _ _ ⟨g46, rfl, rfl, rfl⟩
        refine stays ?_
        refine XPA.wrZ0 rfl rfl Gd.free (by kernel_rfl) (WrA.ap1 (tyrow rfl) rfl (tyrow rfl) rfl rfl rfl) ?_
        rintro _ _ _ ⟨p47, c47, rfl, rfl, rfl⟩
        refine XPA.pu rfl rfl Gd.free (Rd.fA rfl) ?_
        refine XPA.wrZ0 rfl rfl Gd.free (by kernel_rfl) (WrA.st (tyrow rfl) rfl) ?_
        rintro _ _ _ ⟨rfl, rfl, rfl⟩
        refine XPA.nil ?_
        refine DA.inb_normal ?_
        refine DA.thn_normal ?_
        refine XA.region ?_
        refine XOA.rd rfl Rd.mv ?_
        refine XOA.rd rfl (by first | exact Rd.adi rfl rfl | exact Rd.add rfl rfl) ?_
        refine XOA.rd rfl Rd.asg ?_
        refine XOA.nil ?_
        refine DA.thn_normal ?_
        have hnew : Rows_ 12 StAt σ1 (rows ++ [row]) (L ++ [x]) := hrows.snoc hrl hrx
        have hsub2 : (L ++ [x]).Sublist (p.body.take (i + 1)) := by rw [htk]; exact hsub.append (List.Sublist.refl _)
        refine ⟨(Keep.upd (Keep.upd (Keep.upd (Keep.updN (Keep.upd (Keep.updO (Keep.updO (Keep.upd (Keep.upd (Keep.upd (Keep.upd (Keep.upd (Keep.upd (Keep.upd (Keep.upd (Keep.hav (Keep.upd (Keep.upd (Keep.upd (Keep.upd (Keep.upd (Keep.upd (Keep.hav (Keep.hav (Keep.refl _ _) rfl) rfl) rfl) rfl) rfl) rfl) rfl) rfl) rfl) rfl) rfl) rfl) rfl) rfl) rfl) rfl) rfl) rfl) rfl) rfl)) rfl) rfl) rfl), i + 1, _, (by (repeat (first | exact trivial | refine ⟨rfl, ?_⟩ | refine ⟨Eq.trans rfl (congrArg Value.bool hmat.symm), ?_⟩)); (first | done | fail)), ?_, ⟨rfl, hlt, p47, c47, rows ++ [row], L ++ [x], hnew, hsub2, by rw [List.length_append, List.length_singleton]; omega, rfl⟩, (by omega)⟩
        · rw [flatS, List.length_append, List.length_singleton]; exact (by (repeat (first | exact Ent.nil _ | (apply Ent.sel; focus (first | ((repeat (first | with_reducible exact Sel.head | apply Sel.tail)); done) | ((repeat (first | exact Sel.head | apply Sel.tail)); done))) | apply Ent.selNil | apply Ent.selEmp)); (first | done | fail))
      | false =>
        refine XA.condF rfl rfl ?_
        refine XA.skip ?_
        refine DA.inb_normal ?_
        refine DA.thn_normal ?_
        refine XA.region ?_
        refine XOA.rd rfl Rd.mv ?_
        refine XOA.rd rfl (by first | exact Rd.adi rfl rfl | exact Rd.add rfl rfl) ?_
        refine XOA.rd rfl Rd.asg ?_
        refine XOA.nil ?_
        refine DA.thn_normal ?_
        have hsub2 : L.Sublist (p.body.take (i + 1)) := by rw [htk]; exact hsub.trans (List.sublist_append_left _ _)
        refine ⟨(Keep.upd (Keep.upd (Keep.upd (Keep.upd (Keep.hav (Keep.upd (Keep.upd (Keep.upd (Keep.upd (Keep.upd (Keep.upd (Keep.hav (Keep.hav (Keep.refl _ _) rfl) rfl) rfl) rfl) rfl) rfl) rfl) rfl) rfl) rfl) rfl) rfl) rfl), i + 1, _, (by (repeat (first | exact trivial | refine ⟨rfl, ?_⟩ | refine ⟨Eq.trans rfl (congrArg Value.bool hmat.symm), ?_⟩)); (first | done | fail)), ?_, ⟨rfl, hlt, q, c, rows, L, hrows, hsub2, by omega, rfl⟩, (by omega)⟩
        · exact (by (repeat (first | exact Ent.nil _ | (apply Ent.sel; focus (first | ((repeat (first | with_reducible exact Sel.head | apply Sel.tail)); done) | ((repeat (first | exact Sel.head | apply Sel.tail)); done))) | apply Ent.selNil | apply Ent.selEmp)); (first | done | fail))
    have hil : i = p.body.length := by omega
    subst hil
    rw [List.take_length] at hsub
    refine XA.exit ?_
    refine DA.thn_exit ?_
    refine DA.thn_exit ?_
    refine DA.inb_same ?_
    refine DA.thn_normal ?_
    refine XA.seq ?_
    refine XA.seq ?_
    refine XA.region ?_
    refine XOA.rd rfl (Rd.ldA rfl) ?_
    refine XOA.frz (R := lst 46 12 _ _ _) (by ((repeat (first | with_reducible exact Sel.head | apply Sel.tail)); (first | done | fail))) lst_frz lst_frz_mono ?_
    rintro σ2 ⟨⟩ hf hs2
    have hL : PSl 12 StAt σ2 (.slice q L.length c) L := (hrows.mono (fun _ _ h => h.mono hs2)).psl rfl hf
    have hv2 := hv1.mono hs2 (fun _ _ h => h)
    have hb2 := hb1.mono hs2 (fun _ _ h => h.mono hs2)
    have hpl : PrAt σ2 [.slice pv p.vars.length cv, .slice q L.length c] ⟨p.vars, L⟩ := ⟨_, _, rfl, hv2, hL⟩
    refine XOA.wr0 rfl (WrA.cE (check_a σ2 _ ⟨p.vars, L⟩ hpl) rfl) ?_
    rintro _ _ _ ⟨_, ⟨rfl, rfl, rfl⟩, rfl⟩
    refine XOA.cl ?_
    rw [check_sub hsub hc]
    refine XOA.rd rfl (Rd.neq rfl rfl) ?_
    refine XOA.nil ?_
    refine DA.thn_normal ?_
    refine XA.condF rfl rfl ?_
    refine XA.skip ?_
    refine DA.thn_normal ?_
    refine XA.seq ?_
    refine XA.seq ?_
    refine XA.region ?_
    refine XOA.rd rfl (Rd.fA rfl) ?_
    refine XOA.rd rfl (Rd.ldC rfl (tyrow rfl) rfl) ?_
    refine XOA.rd rfl (Rd.lenSlice (tyrow rfl) rfl rfl) ?_
    refine XOA.rd rfl (Rd.eql rfl rfl) ?_
    refine XOA.nil ?_
    refine DA.thn_normal ?_
    refine XA.condp rfl (fun h0 => ?_) (fun h0 => ?_)
    · refine XA.seq ?_
      refine XA.region ?_
      refine XOA.rd rfl Rd.asg ?_
      refine XOA.nil ?_
      refine DA.thn_normal ?_
      refine XA.ret ?_
      refine DA.thn_ret ?_
      exact bodyA.ret (ResA.one rfl rfl) (Ent.nil _) ⟨rfl, hs1.trans hs2⟩
    obtain ⟨u, hu⟩ : ∃ u : Nat, IntKind.u64.wrap k = (u : Int) := Int.eq_ofNat_of_zero_le (by simp [IntKind.wrap, IntKind.bits, IntKind.signed]; omega)
    have hlt : u % p.body.length < p.body.length := Nat.mod_lt _ (by omega)
    obtain ⟨x, hx⟩ : ∃ x, p.body[u % p.body.length]? = some x := ⟨_, List.getElem?_eq_getElem hlt⟩
    obtain ⟨g, o, row, rfl, hrx, hrl, hrow⟩ := hb2.at hx
    obtain ⟨pe, de, pf, df, pb', cb', pl', cl', rfl, -, -, hxe, hxf, hxb, hxl⟩ := hrx.inv12
    obtain ⟨m, hm⟩ : ∃ m, m = u % p.body.length := ⟨_, rfl⟩
    rw [← hm] at hx hrow hlt
    have hpart := check_part (List.mem_of_getElem? hx) hc
    refine XA.skip ?_
    refine DA.thn_normal ?_
    refine XA.seq ?_
    refine XA.draw (by kernel_rfl) _ _ [13] [(0, .pu), (1, .rd), (2, .pu), (3, .pu), (4, .pu), (5, .rd), (6, .pu), (7, .pu), (8, .pu), (9, .pu), (10, .pu), (11, .rd), (12, .wr), (13, .wr)] (by kernel_rfl) (PH.sub.refl _) (Ent.sel (R := blk g3 _ _) (by ((repeat (first | with_reducible exact Sel.head | apply Sel.tail)); (first | done | fail))) (Ent.nil _)) ?_
    refine XPA.pu rfl rfl Gd.free (Rd.fA rfl) ?_
    refine XPA.rd rfl rfl Gd.free (Rd.ldC rfl (tyrow rfl) rfl) ?_
    refine XPA.pu rfl rfl Gd.free Rd.mv ?_
    refine XPA.pu rfl rfl Gd.free (Rd.convI (c := (u : Int)) (tyrow rfl) (tyrow rfl) rfl rfl hu) ?_
    refine XPA.pu rfl rfl Gd.free (Rd.fA rfl) ?_
    refine XPA.rd rfl rfl Gd.free (Rd.ldC rfl (tyrow rfl) rfl) ?_
    refine XPA.pu rfl rfl Gd.free (Rd.lenSlice (tyrow rfl) rfl rfl) ?_
    refine XPA.pu rfl rfl Gd.free (Rd.cvI (tyrow rfl) (tyrow rfl) rfl rfl) ?_
    refine XPA.pu rfl rfl Gd.free (Rd.remi (c := (m : Int)) rfl rfl (by omega) (by rw [Int.tmod_eq_emod_of_nonneg (by omega), hm]; rfl)) ?_
    refine XPA.pu rfl rfl Gd.free (Rd.cvI (tyrow rfl) (tyrow rfl) rfl rfl) ?_
    refine XPA.pu rfl rfl Gd.free (Rd.ixS rfl rfl) ?_
    refine XPA.rd rfl rfl Gd.free (Rd.ldA rfl) ?_
    refine XPA.wr0 rfl rfl Gd.free (WrA.alloc (tyrow rfl)) ?_
    rintro _ _ _ ⟨g9, rfl, rfl, rfl⟩
    refine stays ?_
    refine XPA.wrZ0 rfl rfl Gd.free (by kernel_rfl) (WrA.st (tyrow rfl) rfl) ?_
    rintro _ _ _ ⟨rfl, rfl, rfl⟩
    refine XPA.nil ?_
    refine DA.thn_normal ?_
    refine XA.seq ?_
    refine XA.region ?_
    refine XOA.rd rfl (Rd.fA rfl) ?_
    refine XOA.rd rfl (Rd.ldC rfl (tyrow rfl) rfl) ?_
    refine XOA.rd rfl (Rd.fA rfl) ?_
    refine XOA.rd rfl (Rd.ldC rfl (tyrow rfl) rfl) ?_
    refine XOA.rd rfl (Rd.bl (fun _ _ => tyrow) rfl rfl rfl) ?_
    have hpb : PrAt σ2 [.slice pv p.vars.length cv, .slice pb' x.body.length cb'] ⟨p.vars, x.body⟩ := ⟨_, _, rfl, hv2, hxb⟩
    have hpe : PrAt σ2 [.slice pv p.vars.length cv, .slice pl' x.els.length cl'] ⟨p.vars, x.els⟩ := ⟨_, _, rfl, hv2, hxl⟩
    refine XOA.wr0 rfl (WrA.cE (check_a σ2 _ ⟨p.vars, x.body⟩ hpb) rfl) ?_
    rintro _ _ _ ⟨_, ⟨rfl, rfl, rfl⟩, rfl⟩
    refine XOA.cl ?_
    rw [hpart.1]
    refine XOA.rd rfl (Rd.eql rfl rfl) ?_
    refine XOA.rd rfl Rd.mv ?_
    first | ((first | refine XOA.wanted rfl rfl ?_ | refine XOA.wq rfl rfl ?_); refine XOA.rd rfl (Rd.fA rfl) ?_) | refine XOA.unwanted rfl rfl rfl rfl ?_ | refine XOA.uq rfl rfl rfl ?_ | refine XOA.unwantedU rfl rfl rfl ?_
    first | ((first | refine XOA.wanted rfl rfl ?_ | refine XOA.wq rfl rfl ?_); refine XOA.rd rfl (Rd.ldC rfl (tyrow rfl) rfl) ?_) | refine XOA.unwanted rfl rfl rfl rfl ?_ | refine XOA.uq rfl rfl rfl ?_ | refine XOA.unwantedU rfl rfl rfl ?_
    first | ((first | refine XOA.wanted rfl rfl ?_ | refine XOA.wq rfl rfl ?_); refine XOA.rd rfl (Rd.fA rfl) ?_) | refine XOA.unwanted rfl rfl rfl rfl ?_ | refine XOA.uq rfl rfl rfl ?_ | refine XOA.unwantedU rfl rfl rfl ?_
    first | ((first | refine XOA.wanted rfl rfl ?_ | refine XOA.wq rfl rfl ?_); refine XOA.rd rfl (Rd.ldC rfl (tyrow rfl) rfl) ?_) | refine XOA.unwanted rfl rfl rfl rfl ?_ | refine XOA.uq rfl rfl rfl ?_ | refine XOA.unwantedU rfl rfl rfl ?_
    first | ((first | refine XOA.wanted rfl rfl ?_ | refine XOA.wq rfl rfl ?_); refine XOA.rd rfl (Rd.bl (fun _ _ => tyrow) rfl rfl rfl) ?_) | refine XOA.unwanted rfl rfl rfl rfl ?_ | refine XOA.uq rfl rfl rfl ?_ | refine XOA.unwantedU rfl rfl rfl ?_
    first | refine XOA.wanted rfl rfl ?_ | refine XOA.wq rfl rfl ?_
    refine XOA.wr0 rfl (WrA.cE (check_a σ2 _ ⟨p.vars, x.els⟩ hpe) rfl) ?_
    rintro _ _ _ ⟨_, ⟨rfl, rfl, rfl⟩, rfl⟩
    refine XOA.cl ?_
    rw [hpart.2]
    first | ((first | refine XOA.wanted rfl rfl ?_ | refine XOA.wq rfl rfl ?_); refine XOA.rd rfl (Rd.eql rfl rfl) ?_) | refine XOA.unwanted rfl rfl rfl rfl ?_ | refine XOA.uq rfl rfl rfl ?_ | refine XOA.unwantedU rfl rfl rfl ?_
    refine XOA.rd rfl (by first | exact Rd.pT rfl | exact Rd.pF rfl | exact Rd.pP rfl) ?_
    refine XOA.rd rfl Rd.asg ?_
    refine XOA.nil ?_
    refine DA.thn_normal ?_
    refine XA.ret ?_
    exact bodyA.ret (ResA.one rfl rfl) (Ent.nil _) ⟨rfl, hs1.trans hs2⟩
end Go.Proofs.Ytbbghdkndbpmmaa
