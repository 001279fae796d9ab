/- The law CompileGrows. -/
import Derived.Test.YtbbghdkndbpmmaaKb
namespace Go.Proofs.Ytbbghdkndbpmmaa
open Go X
set_option maxHeartbeats 1000000
section
variable {ρ : Env} {S : Heap → Prop} {ty : TypeId}
theorem X.run_equal_in {a b : In} (w : World) : (Op.equalIn 10000 55 (.agg (inC a).toArray) (.agg (inC b).toArray)).run Try.prog w = .ok (decide (a = b)) w := by
  have hT : tyOf Try.prog 2 = some _ := tyrow rfl
  have hI : tyOf Try.prog 3 = some _ := tyrow rfl
  obtain ⟨dd, ii, z, e1, e2, -⟩ := tyOf_spec hT
  obtain ⟨dd', ii', z', e1', e2', -⟩ := tyOf_spec hI
  cases dd <;> simp [kindOf, ty2] at e2
  cases dd' <;> simp [kindOf, ty3] at e2'
  have hu : Try.prog.underlying 55 = some (.struct (Try.prog.fieldsOf 55)) := by kernel_rfl
  have hf : (Try.prog.fieldsOf 55).toList.map (fun f => (f.name, f.type, f.offset)) = [("Op", 3, 0), ("A", 3, 1), ("B", 3, 2), ("N", 2, 3)] := by kernel_rfl
  obtain ⟨f1, f2, f3, f4, hf2⟩ := list4 (l := (Try.prog.fieldsOf 55).toList) (by simpa using congrArg List.length hf)
  rw [hf2] at hf
  simp only [List.map_cons, List.map_nil, List.cons.injEq, Prod.mk.injEq, and_true] at hf
  obtain ⟨⟨n1, t1, o1⟩, ⟨n2, t2, o2⟩, ⟨n3, t3, o3⟩, n4, t4, o4⟩ := hf
  rw [inC, inC, run_equalIn_agg w 9999 _ _ _ hu (by kernel_rfl), hf2]
  have ha : ∀ (w : World), (isAgg 2).run Try.prog w = .ok false w := fun w => by unfold isAgg; rw [Sem.run_bind, run_underlying e1 w]; rfl
  have hb : ∀ (w : World), (isAgg 3).run Try.prog w = .ok false w := fun w => by unfold isAgg; rw [Sem.run_bind, run_underlying e1' w]; rfl
  have q1 := run_equalIn_int (P := Try.prog) w 9998 2 .i64 _ a.n b.n e1
  have q2 := fun x y => run_equalIn_int (P := Try.prog) w 9998 3 .i64 _ x y e1'
  simp [Op.eqFields, part, ha, hb, q1, q2, n1, n2, n3, n4, t1, t2, t3, t4, o1, o2, o3, o4]
  obtain ⟨p1, p2, p3, p4⟩ := a
  obtain ⟨r1, r2, r3, r4⟩ := b
  by_cases h1 : p1 = r1
  · by_cases h2 : p2 = r2
    · by_cases h3 : p3 = r3
      · by_cases h4 : p4 = r4 <;> simp [h1, h2, h3, h4]
      · simp [h1, h2, h3]
    · simp [h1, h2]
  · simp [h1]
theorem X.Rd.neqIn {T' : TypeId} {x y : Operand} {a b : In} (hx : ev ρ x = .agg (inC a).toArray) (hy : ev ρ y = .agg (inC b).toArray) : Rd Try.prog ρ S (.binOp .neq 55 x y T') ty (.bool (decide (a ≠ b))) := by
  refine .pure fun d pos af gd w => ?_
  have h2 : (eqGuard .neq 55 x y (.agg (inC a).toArray) (.agg (inC b).toArray)).run Try.prog w = .ok () w := run_eqGuard_agg w _ _ _ _ _ _ (by kernel_rfl)
  have h3 : (binOp .neq 55 (.agg (inC a).toArray) (.agg (inC b).toArray)).run Try.prog w = .ok (.bool (decide (a ≠ b))) w := by
    rw [inC, inC, run_neq_struct]
    have := X.run_equal_in (a := a) (b := b) w
    rw [inC, inC] at this
    rw [this]
    by_cases h : a = b <;> simp [h]
  simp only [execOp, hx, hy, Sem.run_bind, h2, h3, Result.andThen_ok, Sem.run_pure]
end
theorem stsCode_take (vs : List Va) (l : List St) (n k : Nat) : ∃ m, stsCode vs l k = stsCode vs (l.take n) k ++ m := ⟨_, by
  have := stsCode_app vs (l.take n) (l.drop n) k
  rw [List.take_append_drop] at this
  exact this⟩
theorem stsN_take (l : List St) (n : Nat) : stsN (l.take n) ≤ stsN l := by
  have h := stsN_app (l.take n) (l.drop n)
  rw [List.take_append_drop] at h; omega
theorem grows_law (σ : PH) (cs : List Value) (p : Pr) (k : Int) (hp : PrAt σ cs p) (hk0 : -9223372036854775808 ≤ k) (hk1 : k ≤ 9223372036854775807) : CallsA Try.prog 8 #[.agg cs.toArray, i64 k] σ [] (RetA fun r σ' _ => r = .bool true ∧ σ.sub σ') := by
  have hp0 := hp
  obtain ⟨vs, bs, rfl, hv, hb⟩ := hp
  obtain ⟨pv, cv, rfl, hvl, hvm⟩ := hv.shape
  obtain ⟨pb0, cb0, rfl, hbl, hbm⟩ := hb.shape
  refine enterA2 Try.func8 rfl rfl rfl ?_
  refine XA.seq ?_
  refine XA.region ?_
  refine XOA.wr0 rfl WrA.bx ?_
  rintro _ _ _ ⟨g2, rfl, rfl, rfl⟩
  refine XOA.rd rfl Rd.asg ?_
  refine XOA.nil ?_
  refine DA.thn_normal ?_
  refine XA.seq ?_
  refine XA.seq ?_
  refine XA.region ?_
  refine XOA.wr0 rfl (WrA.cE (kbegun_a σ) rfl) ?_
  rintro _ σ1 _ ⟨_, ⟨rfl, hs1, rfl⟩, rfl⟩
  refine XOA.cl ?_
  have hp1 := hp0.mono hs1
  refine XOA.rd rfl (by first | exact Rd.notp rfl | exact Rd.not rfl) ?_
  refine XOA.nil ?_
  refine DA.thn_normal ?_
  refine XA.condF rfl rfl ?_
  refine XA.skip ?_
  refine DA.thn_normal ?_
  refine XA.seq ?_
  refine XA.seq ?_
  refine XA.region ?_
  refine XOA.rd rfl (Rd.ldA rfl) ?_
  refine XOA.wr0 rfl (WrA.cE (great_a σ1 _ p hp1) rfl) ?_
  rintro _ _ _ ⟨_, ⟨b, rfl, hsm, rfl, rfl⟩, rfl⟩
  refine XOA.cl ?_
  cases b with
  | true =>
    refine XOA.nil ?_
    refine DA.thn_normal ?_
    refine XA.condT rfl rfl ?_
    refine XA.seq ?_
    refine XA.region ?_
    refine XOA.rd rfl Rd.asg ?_
    refine XOA.nil ?_
    refine DA.thn_normal ?_
    refine XA.ret ?_
    refine DA.thn_ret ?_
    exact bodyA.ret (ResA.one rfl rfl) (Ent.nil _) ⟨rfl, hs1⟩
  | false =>
    have hsm := hsm rfl
    have h900 := hsm.2.2
    have hlen := stsN_len p.body
    refine XOA.nil ?_
    refine DA.thn_normal ?_
    refine XA.condF rfl rfl ?_
    refine XA.skip ?_
    refine DA.thn_normal ?_
    refine XA.seq ?_
    refine XA.region ?_
    refine XOA.rd rfl (Rd.ldA rfl) ?_
    refine XOA.wr0 rfl (WrA.cE (make_a σ1 _ p hp1 (by omega)) rfl) ?_
    rintro _ σ4 _ ⟨_, ⟨sl, rfl, hsl, hs4, rfl⟩, rfl⟩
    refine XOA.cl ?_
    have hp4 := hp1.mono hs4
    have hs14 := hs1.trans hs4
    by_cases hc : checkP p = 0
    · rw [if_pos hc] at hsl
      have kn0 : ¬ (checkP p ≠ 0) := fun h => h hc
      obtain ⟨q, cq, rfl, -, -⟩ := hsl.shape
      have hcl := codeOf_len p
      obtain ⟨u, hu⟩ : ∃ u : Nat, IntKind.u64.wrap k = (u : Int) := Int.eq_ofNat_of_zero_le (by simp [IntKind.wrap, IntKind.bits, IntKind.signed]; omega)
      obtain ⟨m, hm⟩ : ∃ m, m = u % (p.body.length + 1) := ⟨_, rfl⟩
      have hm1 : m ≤ p.body.length := by have := Nat.mod_lt u (show 0 < p.body.length + 1 by omega); omega
      refine XOA.rd rfl Rd.mv ?_
      refine XOA.rd rfl (Rd.extract rfl rfl) ?_
      refine XOA.rd rfl (Rd.extract rfl rfl) ?_
      refine XOA.rd rfl Rd.asg ?_
      refine XOA.rd rfl Rd.asg ?_
      refine XOA.nil ?_
      refine DA.thn_normal ?_
      refine XA.seq ?_
      refine XA.seq ?_
      refine XA.region ?_
      refine XOA.rd rfl Rd.mv ?_
      refine XOA.rd rfl (Rd.neq rfl rfl) ?_
      refine XOA.nil ?_
      refine DA.thn_normal ?_
      refine XA.condF rfl (decide_eq_false kn0) ?_
      refine XA.skip ?_
      refine DA.thn_normal ?_
      refine XA.seq ?_
      refine XA.region ?_
      refine XOA.rd rfl Rd.mv ?_
      refine XOA.rd rfl (Rd.cvI (tyrow rfl) (tyrow rfl) rfl rfl) ?_
      refine XOA.rd rfl (Rd.fA rfl) ?_
      refine XOA.rd rfl (Rd.ldC rfl (tyrow rfl) rfl) ?_
      refine XOA.rd rfl (Rd.lenSlice (tyrow rfl) rfl rfl) ?_
      refine XOA.rd rfl (by first | exact Rd.adi rfl rfl | exact Rd.add rfl rfl) ?_
      refine XOA.rd rfl (Rd.cvI (tyrow rfl) (tyrow rfl) rfl rfl) ?_
      rw [hu]
      refine XOA.rd rfl (Rd.remi (c := (m : Int)) rfl rfl (by omega) (by rw [Int.tmod_eq_emod_of_nonneg (by omega), hm]; rfl)) ?_
      refine XOA.rd rfl (Rd.cvI (tyrow rfl) (tyrow rfl) rfl rfl) ?_
      refine XOA.rd rfl Rd.asg ?_
      refine XOA.nil ?_
      refine DA.thn_normal ?_
      refine XA.seq ?_
      obtain ⟨b1, hb1⟩ : ∃ b1, b1 = p.body.take m := ⟨_, rfl⟩
      have hb4 := hb.mono hs14 (fun _ _ h => h.mono hs14)
      have hv4 := hv.mono hs14 (fun _ _ h => h)
      have hpm : PrAt σ4 [.slice pv p.vars.length cv, .slice pb0 m cb0] ⟨p.vars, b1⟩ := ⟨_, _, rfl, hv4, hb1 ▸ X.PSl.take hb4 hm1⟩
      have hcm : checkP ⟨p.vars, b1⟩ = 0 := hb1 ▸ check_sub (List.take_sublist m p.body) hc
      have hNm : stsN b1 ≤ 900 := by rw [hb1]; have := stsN_take p.body m; omega
      refine XA.draw (by kernel_rfl) _ _ [7] [(0, .pu), (1, .rd), (2, .pu), (3, .rd), (4, .pu), (5, .pu), (6, .pu), (7, .wr), (8, .pu), (9, .pu), (10, .pu), (11, .pu), (12, .pu)] (by kernel_rfl) (PH.sub.refl _) (Ent.sel (R := blk g2 _ _) (by ((repeat (first | with_reducible exact Sel.head | apply Sel.tail)); (first | done | fail))) (Ent.nil _)) ?_
      refine XPA.pu rfl rfl Gd.free (Rd.fA rfl) ?_
      refine XPA.rd rfl rfl Gd.free (Rd.ldC rfl (tyrow rfl) rfl) ?_
      refine XPA.pu rfl rfl Gd.free (Rd.fA rfl) ?_
      refine XPA.rd rfl rfl Gd.free (Rd.ldC rfl (tyrow rfl) rfl) ?_
      refine XPA.pu rfl rfl Gd.free Rd.mv ?_
      refine XPA.pu rfl rfl Gd.free (Rd.sliceToN (tyrow rfl) rfl (tyrow rfl) rfl rfl (by omega)) ?_
      refine XPA.pu rfl rfl Gd.free (Rd.bl (fun _ _ => tyrow) rfl rfl rfl) ?_
      refine XPA.wrZ0 rfl rfl Gd.free (by kernel_rfl) (WrA.cE (make_a σ4 _ ⟨p.vars, b1⟩ hpm (by show stsN b1 ≤ _; omega)) rfl) ?_
      rintro _ σ5 _ ⟨_, ⟨sl2, rfl, hsl2, hs5, rfl⟩, rfl⟩
      refine XPA.cl ?_
      rw [if_pos hcm] at hsl2
      rw [hcm]
      obtain ⟨q2, cq2, rfl, -, -⟩ := hsl2.shape
      have hsl5 := hsl.mono hs5 (fun _ _ h => h)
      have hs15 := hs14.trans hs5
      obtain ⟨C2, hC2⟩ : ∃ C, C = codeOf ⟨p.vars, b1⟩ := ⟨_, rfl⟩
      obtain ⟨C, hC⟩ : ∃ C, C = codeOf p := ⟨_, rfl⟩
      obtain ⟨rest, hrest⟩ := stsCode_take p.vars p.body m 0
      have hpre : C2 = stsCode p.vars b1 0 ++ [⟨16, 0, 0, 0⟩] ∧ C = stsCode p.vars b1 0 ++ (rest ++ [⟨16, 0, 0, 0⟩]) := ⟨hC2, by rw [hC, codeOf, hrest, hb1, List.append_assoc]⟩
      have hl2 : C2.length = (stsCode p.vars b1 0).length + 1 := by rw [hpre.1, List.length_append]; rfl
      have hl3 : C.length = (stsCode p.vars b1 0).length + (rest.length + 1) := by rw [hpre.2, List.length_append, List.length_append]; rfl
      rw [← hC2] at hsl2
      rw [← hC] at hsl5 hcl
      rw [← hC2, ← hC]
      generalize stsCode p.vars b1 0 = Q at hpre hl2 hl3
      refine XPA.pu rfl rfl Gd.free Rd.mv ?_
      refine XPA.pu rfl rfl Gd.free (Rd.extract rfl rfl) ?_
      refine XPA.pu rfl rfl Gd.free (Rd.extract rfl rfl) ?_
      refine XPA.pu rfl rfl Gd.free Rd.asg ?_
      refine XPA.pu rfl rfl Gd.free Rd.asg ?_
      refine XPA.nil ?_
      refine DA.thn_normal ?_
      refine XA.seq ?_
      refine XA.seq ?_
      refine XA.region ?_
      refine XOA.rd rfl Rd.mv ?_
      refine XOA.rd rfl (Rd.neq rfl rfl) ?_
      refine XOA.rd rfl Rd.mv ?_
      first | ((first | refine XOA.wanted rfl rfl ?_ | refine XOA.wq rfl rfl ?_); refine XOA.rd rfl Rd.mv ?_) | refine XOA.unwanted rfl rfl rfl rfl ?_ | refine XOA.uq rfl rfl rfl ?_ | refine XOA.unwantedU rfl rfl rfl ?_
      first | ((first | refine XOA.wanted rfl rfl ?_ | refine XOA.wq rfl rfl ?_); refine XOA.rd rfl (Rd.lenSlice (tyrow rfl) rfl rfl) ?_) | refine XOA.unwanted rfl rfl rfl rfl ?_ | refine XOA.uq rfl rfl rfl ?_ | refine XOA.unwantedU rfl rfl rfl ?_
      first | ((first | refine XOA.wanted rfl rfl ?_ | refine XOA.wq rfl rfl ?_); refine XOA.rd rfl (Rd.eql rfl rfl) ?_) | refine XOA.unwanted rfl rfl rfl rfl ?_ | refine XOA.uq rfl rfl rfl ?_ | refine XOA.unwantedU rfl rfl rfl ?_
      refine XOA.rd rfl (by first | exact Rd.pT rfl | exact Rd.pF rfl | exact Rd.pP rfl) ?_
      refine XOA.rd rfl Rd.mv ?_
      first | ((first | refine XOA.wanted rfl rfl ?_ | refine XOA.wq rfl rfl ?_); refine XOA.rd rfl Rd.mv ?_) | refine XOA.unwanted rfl rfl rfl rfl ?_ | refine XOA.uq rfl rfl rfl ?_ | refine XOA.unwantedU rfl rfl rfl ?_
      first | ((first | refine XOA.wanted rfl rfl ?_ | refine XOA.wq rfl rfl ?_); refine XOA.rd rfl (Rd.lenSlice (tyrow rfl) rfl rfl) ?_) | refine XOA.unwanted rfl rfl rfl rfl ?_ | refine XOA.uq rfl rfl rfl ?_ | refine XOA.unwantedU rfl rfl rfl ?_
      first | ((first | refine XOA.wanted rfl rfl ?_ | refine XOA.wq rfl rfl ?_); refine XOA.rd rfl Rd.mv ?_) | refine XOA.unwanted rfl rfl rfl rfl ?_ | refine XOA.uq rfl rfl rfl ?_ | refine XOA.unwantedU rfl rfl rfl ?_
      first | ((first | refine XOA.wanted rfl rfl ?_ | refine XOA.wq rfl rfl ?_); refine XOA.rd rfl (Rd.lenSlice (tyrow rfl) rfl rfl) ?_) | refine XOA.unwanted rfl rfl rfl rfl ?_ | refine XOA.uq rfl rfl rfl ?_ | refine XOA.unwantedU rfl rfl rfl ?_
      first | ((first | refine XOA.wanted rfl rfl ?_ | refine XOA.wq rfl rfl ?_); refine XOA.rd rfl (Rd.gtr rfl rfl) ?_) | refine XOA.unwanted rfl rfl rfl rfl ?_ | refine XOA.uq rfl rfl rfl ?_ | refine XOA.unwantedU rfl rfl rfl ?_
      refine XOA.rd rfl (by first | exact Rd.pT rfl | exact Rd.pF rfl | exact Rd.pP rfl) ?_
      refine XOA.nil ?_
      refine DA.thn_normal ?_
      refine XA.condF rfl (decide_eq_false (by omega)) ?_
      refine XA.skip ?_
      refine DA.thn_normal ?_
      refine XA.seq ?_
      refine XA.seq ?_
      refine XA.region ?_
      refine XOA.rd rfl Rd.asg ?_
      refine XOA.nil ?_
      refine DA.thn_normal ?_
      refine XA.block ?_
      refine XA.gen [(4, _), (5, _), (8, _), (10, _)] ⟨(by with_reducible (conv => lhs; whnf)), (by with_reducible (conv => lhs; whnf)), (by with_reducible (conv => lhs; whnf)), (by with_reducible (conv => lhs; whnf)), trivial⟩ (fun δ => ?_)
      dsimp only [List.foldl]
      refine XA.loop [(4, 4), (10, 10), (59, 74)] (fun i : Nat => [(10, i64 i)]) (fun i σ' Γ' => σ5 = σ' ∧ i ≤ Q.length ∧ Γ' = []) (fun i => Q.length - i) 0 (by exact ⟨rfl, trivial⟩) (Δ0 := _) ?_ (⟨rfl, Nat.zero_le _, rfl⟩) ?_
      · exact (by (repeat (first | exact Ent.nil _ | (apply Ent.sel; focus (first | ((repeat (first | with_reducible exact Sel.head | apply Sel.tail)); done) | ((repeat (first | exact Sel.head | apply Sel.tail)); done))) | apply Ent.selNil | apply Ent.selEmp)); (first | done | fail))
      rintro i δ _ _ ⟨rfl, hi, rfl⟩
      dsimp only [ovr, List.foldl]
      refine XA.seq ?_
      refine XA.seq ?_
      refine XA.region ?_
      refine XOA.rd rfl Rd.mv ?_
      refine XOA.rd rfl Rd.mv ?_
      refine XOA.rd rfl (Rd.lenSlice (tyrow rfl) rfl rfl) ?_
      refine XOA.rd rfl (by first | exact Rd.sbi rfl rfl | exact Rd.sub rfl rfl) ?_
      refine XOA.rd rfl (Rd.lss rfl rfl) ?_
      refine XOA.nil ?_
      refine DA.thn_normal ?_
      refine XA.condp rfl (fun hlt => ?_) (fun hlt => ?_)
      · have hlt : i < Q.length := by omega
        obtain ⟨x, hx⟩ : ∃ x, Q[i]? = some x := ⟨_, List.getElem?_eq_getElem hlt⟩
        have hx1 : C[i]? = some x := by rw [hpre.2, List.getElem?_append_left hlt, hx]
        have hx2 : C2[i]? = some x := by rw [hpre.1, List.getElem?_append_left hlt, hx]
        obtain ⟨g, o, row, rfl, hrx, hrl, hrow⟩ := hsl5.at hx1
        obtain ⟨g', o', row', rfl, hrx', hrl', hrow'⟩ := hsl2.at hx2
        obtain rfl : row = inC x := hrx
        obtain rfl : row' = inC x := hrx'
        have nx : ¬ (x ≠ x) := fun h => h rfl
        refine XA.skip ?_
        refine DA.thn_normal ?_
        refine XA.seq ?_
        refine XA.block ?_
        refine XA.seq ?_
        refine XA.draw (by kernel_rfl) _ _ [] [(0, .pu), (1, .pu), (2, .pu), (3, .rd), (4, .pu), (5, .pu), (6, .pu), (7, .rd), (8, .pu)] (by kernel_rfl) (PH.sub.refl _) (Ent.nil _) ?_
        refine XPA.pu rfl rfl Gd.free Rd.mv ?_
        refine XPA.pu rfl rfl Gd.free Rd.mv ?_
        refine XPA.pu rfl rfl Gd.free (Rd.ixS rfl rfl) ?_
        refine XPA.rd rfl rfl Gd.free (Rd.ldA rfl) ?_
        refine XPA.pu rfl rfl Gd.free Rd.mv ?_
        refine XPA.pu rfl rfl Gd.free Rd.mv ?_
        refine XPA.pu rfl rfl Gd.free (Rd.ixS rfl rfl) ?_
        refine XPA.rd rfl rfl Gd.free (Rd.ldA rfl) ?_
        refine XPA.pu rfl rfl Gd.free (X.Rd.neqIn (a := x) (b := x) rfl rfl) ?_
        refine XPA.nil ?_
        refine DA.thn_normal ?_
        refine XA.condF rfl (decide_eq_false nx) ?_
        refine XA.skip ?_
        refine DA.inb_normal ?_
        refine DA.thn_normal ?_
        refine XA.region ?_
        refine XOA.rd rfl Rd.mv ?_
        refine XOA.rd rfl (by first | exact Rd.adi rfl rfl | exact Rd.add rfl rfl) ?_
        refine XOA.rd rfl Rd.asg ?_
        refine XOA.nil ?_
        refine DA.thn_normal ?_
        refine ⟨(Keep.upd (Keep.upd (Keep.upd (Keep.upd (Keep.upd (Keep.upd (Keep.upd (Keep.upd (Keep.upd (Keep.upd (Keep.upd (Keep.upd (Keep.upd (Keep.upd (Keep.upd (Keep.upd (Keep.upd (Keep.upd (Keep.hav (Keep.hav (Keep.hav (Keep.refl _ _) rfl) rfl) rfl) rfl) rfl) rfl) rfl) rfl) rfl) rfl) rfl) rfl) rfl) rfl) rfl) rfl) rfl) rfl) rfl) rfl) rfl), i + 1, _, (by (repeat (first | exact trivial | refine ⟨rfl, ?_⟩ | refine ⟨Eq.trans rfl (congrArg Value.bool hmat.symm), ?_⟩)); (first | done | fail)), ?_, ⟨rfl, hlt, rfl⟩, (by omega)⟩
        · exact (by (repeat (first | exact Ent.nil _ | (apply Ent.sel; focus (first | ((repeat (first | with_reducible exact Sel.head | apply Sel.tail)); done) | ((repeat (first | exact Sel.head | apply Sel.tail)); done))) | apply Ent.selNil | apply Ent.selEmp)); (first | done | fail))
      refine XA.exit ?_
      refine DA.thn_exit ?_
      refine DA.thn_exit ?_
      refine DA.inb_same ?_
      refine DA.thn_normal ?_
      refine XA.seq ?_
      refine XA.region ?_
      refine XOA.rd rfl Rd.asg ?_
      refine XOA.nil ?_
      refine DA.thn_normal ?_
      refine XA.ret ?_
      exact bodyA.ret (ResA.one rfl rfl) (Ent.nil _) ⟨rfl, hs15⟩
    · rw [if_neg hc] at hsl
      obtain ⟨q, cq, rfl, -, -⟩ := hsl.shape
      refine XOA.rd rfl Rd.mv ?_
      refine XOA.rd rfl (Rd.extract rfl rfl) ?_
      refine XOA.rd rfl (Rd.extract rfl rfl) ?_
      refine XOA.rd rfl Rd.asg ?_
      refine XOA.rd rfl Rd.asg ?_
      refine XOA.nil ?_
      refine DA.thn_normal ?_
      refine XA.seq ?_
      refine XA.seq ?_
      refine XA.region ?_
      refine XOA.rd rfl Rd.mv ?_
      refine XOA.rd rfl (Rd.neq rfl rfl) ?_
      refine XOA.nil ?_
      refine DA.thn_normal ?_
      refine XA.condT rfl (decide_eq_true hc) ?_
      refine XA.seq ?_
      refine XA.region ?_
      refine XOA.rd rfl Rd.mv ?_
      refine XOA.rd rfl (Rd.lenSlice (tyrow rfl) rfl rfl) ?_
      refine XOA.rd rfl (Rd.eql rfl rfl) ?_
      refine XOA.rd rfl Rd.asg ?_
      refine XOA.nil ?_
      refine DA.thn_normal ?_
      refine XA.ret ?_
      refine DA.thn_ret ?_
      exact bodyA.ret (ResA.one rfl rfl) (Ent.nil _) ⟨rfl, hs14⟩
end Go.Proofs.Ytbbghdkndbpmmaa
