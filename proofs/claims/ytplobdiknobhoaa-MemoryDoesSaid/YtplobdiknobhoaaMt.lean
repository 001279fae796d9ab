/- The law MemoryDoes: what its function does. -/
import Derived.Test.YtplobdiknobhoaaMs
namespace Go.Proofs.Ytplobdiknobhoaa
open Go X
set_option maxHeartbeats 8000000
theorem mk5 {P : Program} {ρ : Env} {S : Heap → Prop} {ty : TypeId} {fn : Fn} {x1 x2 x3 x4 x5 : Operand} {v1 v2 v3 v4 v5 : Value} (h1 : ev ρ x1 = v1) (h2 : ev ρ x2 = v2) (h3 : ev ρ x3 = v3) (h4 : ev ρ x4 = v4) (h5 : ev ρ x5 = v5) : Rd P ρ S (.makeFunc fn #[] #[x1, x2, x3, x4, x5]) ty (.func fn (List.toArray []) (List.toArray [v1, v2, v3, v4, v5])) := .pure fun _ _ _ _ w => by simp [execOp, Instr.makeFunc, h1, h2, h3, h4, h5]
theorem int_cell {C : List (List Int)} (h : pgsOk C) {n : Nat} (hn : n < 112) : (ints C.flatten)[n]? = some (i64 (wordC C n)) := by
  rw [ints, List.getElem?_map, flat_get h hn]; rfl
theorem commit_wait {d : DiskS} {s : StS} {l : List PageS} (h : Good d s) (hl : l.length ≤ 14) (j : Nat) : (comD d s l j).wait.length < 1000000 := comD_wait h hl j
theorem mdoes_law (σ : PH) (sl : Value) (l : List MStp) (hl : PSl 5 rMStp σ sl l) : CallsA Try.prog 12 #[sl] σ [] (RetA fun r σ' _ => r = .bool true ∧ σ.sub σ') := by
  obtain ⟨pv, cv, rfl, hvl, hvm⟩ := hl.shape
  have hlen : l.length ≤ maxLen := by omega
  simp only [maxLen] at hlen
  have hG0 : Good DiskS.new s0 := Good.new
  refine enterA1 Try.func12 rfl rfl rfl ?_
  refine XA.seq ?_
  refine XA.region ?_
  refine XOA.rd rfl Rd.asg ?_
  refine XOA.nil ?_
  refine DA.thn_normal ?_
  refine XA.seq ?_
  refine XA.seq ?_
  refine XA.region ?_
  refine XOA.wr0 rfl (WrA.cE (mbegun_a σ) rfl) ?_
  rintro _ σ1 _ ⟨_, ⟨rfl, hs1, rfl⟩, rfl⟩
  refine XOA.cl ?_
  have hl1 := hl.mono hs1 (fun cs x h => h)
  refine XOA.rd rfl (by first | exact Rd.notp rfl | exact Rd.not rfl) ?_
  refine XOA.nil ?_
  refine DA.thn_normal ?_
  refine XA.condF rfl rfl ?_
  refine XA.skip ?_
  refine DA.thn_normal ?_
  refine XA.seq ?_
  refine XA.seq ?_
  refine XA.region ?_
  refine XOA.rd rfl Rd.mv ?_
  refine XOA.rd rfl (Rd.lenSlice (tyrow rfl) rfl rfl) ?_
  refine XOA.rd rfl (Rd.gtr rfl rfl) ?_
  refine XOA.nil ?_
  refine DA.thn_normal ?_
  refine XA.condp rfl (fun h150 => ?_) (fun h150 => ?_)
  · refine XA.seq ?_
    refine XA.region ?_
    refine XOA.rd rfl Rd.asg ?_
    refine XOA.nil ?_
    refine DA.thn_normal ?_
    refine XA.ret ?_
    refine DA.thn_ret ?_
    exact bodyA.ret (ResA.one rfl rfl) (Ent.nil _) ⟨rfl, hs1⟩
  refine XA.skip ?_
  refine DA.thn_normal ?_
  refine XA.seq ?_
  refine XA.region ?_
  refine XOA.wr0 rfl (WrA.cE (new_a σ1) rfl) ?_
  rintro _ _ _ ⟨_, ⟨db, rfl, rfl, rfl⟩, rfl⟩
  refine XOA.cl ?_
  refine XOA.rd rfl (Rd.bl (fun _ _ => tyrow) rfl rfl rfl) ?_
  refine XOA.wr0 rfl WrA.bx ?_
  rintro _ _ _ ⟨g27, rfl, rfl, rfl⟩
  refine XOA.wr0 rfl (WrA.alloc (tyrow rfl)) ?_
  rintro _ _ _ ⟨g3, rfl, rfl, rfl⟩
  refine XOA.wr0 rfl (WrA.alloc (tyrow rfl)) ?_
  rintro _ _ _ ⟨g4, rfl, rfl, rfl⟩
  refine XOA.wr0 rfl (WrA.st (tyrow rfl) rfl) ?_
  rintro _ _ _ ⟨rfl, rfl, rfl⟩
  refine XOA.wr0 rfl (WrA.st (tyrow rfl) rfl) ?_
  rintro _ _ _ ⟨rfl, rfl, rfl⟩
  refine XOA.nil ?_
  refine DA.thn_normal ?_
  refine XA.seq ?_
  refine XA.region ?_
  refine XOA.rd rfl (Rd.ldC rfl (tyrow rfl) rfl) ?_
  refine XOA.wr0 rfl (WrA.cE (open_a σ1 db DiskS.new hG0.dok hG0.wlen') rfl) ?_
  rintro _ _ _ ⟨_, ⟨b0, rfl, rfl, rfl⟩, rfl⟩
  refine XOA.cl ?_
  rw [hG0.open]
  refine XOA.wr0 rfl (WrA.cE (mnew_a σ1 b0) rfl) ?_
  rintro _ _ _ ⟨_, ⟨b1, rfl, rfl, rfl⟩, rfl⟩
  refine XOA.cl ?_
  refine XOA.wr0 rfl (WrA.alloc (tyrow rfl)) ?_
  rintro _ _ _ ⟨g5, rfl, rfl, rfl⟩
  refine XOA.wr0 rfl (WrA.st (tyrow rfl) rfl) ?_
  rintro _ _ _ ⟨rfl, rfl, rfl⟩
  refine XOA.nil ?_
  refine DA.thn_normal ?_
  refine XA.seq ?_
  refine XA.region ?_
  refine XOA.wr0 rfl (X.WrA.mkS (n := 112) (zs := ints noP.flatten) (tyrow rfl) rfl (tyrow rfl) rfl rfl rfl (by decide) (by decide) (by decide) (by kernel_rfl)) ?_
  rintro _ _ _ ⟨g31, rfl, rfl, rfl⟩
  refine XOA.wr0 rfl (WrA.alloc (tyrow rfl)) ?_
  rintro _ _ _ ⟨g6, rfl, rfl, rfl⟩
  refine XOA.wr0 rfl (WrA.st (tyrow rfl) rfl) ?_
  rintro _ _ _ ⟨rfl, rfl, rfl⟩
  refine XOA.nil ?_
  refine DA.thn_normal ?_
  refine XA.seq ?_
  refine XA.region ?_
  refine XOA.wr0 rfl (WrA.alloc (tyrow rfl)) ?_
  rintro _ _ _ ⟨g7, rfl, rfl, rfl⟩
  refine XOA.nil ?_
  refine DA.thn_normal ?_
  refine XA.seq ?_
  refine XA.region ?_
  refine XOA.rd rfl (mk5 rfl rfl rfl rfl rfl) ?_
  refine XOA.rd rfl Rd.asg ?_
  refine XOA.nil ?_
  refine DA.thn_normal ?_
  refine XA.seq ?_
  refine XA.seq ?_
  refine XA.region ?_
  refine XOA.rd rfl Rd.asg ?_
  refine XOA.nil ?_
  refine DA.thn_normal ?_
  refine XA.block ?_
  refine XA.ent (Ent.foldC (Θ := [blk g27 _ 50]) (by (repeat (first | exact Ent.all _ | (apply Ent.take; focus (first | ((repeat (first | with_reducible exact Sel.head | apply Sel.tail)); done) | ((repeat (first | exact Sel.head | apply Sel.tail)); done))) | apply Ent.takeNil | apply Ent.takeEmp)); (first | done | fail)) (Vault.mk v0_ok (by kernel_rfl)) (Ent.refl _)) ?_
  refine XA.gen [(0, _), (2, _), (3, _), (4, _), (5, _), (6, _), (7, _), (8, _), (9, _)] ⟨(by with_reducible (conv => lhs; whnf)), (by with_reducible (conv => lhs; whnf)), (by with_reducible (conv => lhs; whnf)), (by with_reducible (conv => lhs; whnf)), (by with_reducible (conv => lhs; whnf)), (by with_reducible (conv => lhs; whnf)), (by with_reducible (conv => lhs; whnf)), (by with_reducible (conv => lhs; whnf)), (by with_reducible (conv => lhs; whnf)), trivial⟩ (fun δ => ?_)
  dsimp only [List.foldl]
  refine XA.loop [(2, 2), (9, 19), (33, 191)] (fun k : Nat => [(9, i64 k)]) (fun k σ' Γ' => σ1.sub σ' ∧ k ≤ l.length ∧ ∃ (d : DiskS) (s : StS) (v : VS) (inn dt : List Bool) (pg C : List (List Int)) (b sb : Nat), Rel d s v ∧ s.gen ≤ k ∧ MOk d s inn dt pg C ∧ Γ' = [blk g3 [ptr db] 24, blk g4 [ptr g27] 47, blk g5 [ptr b] 72, blk g6 [.slice (some ⟨g31, 0, none⟩) 112 112] 77, blk g7 (bools dt) 84, blk g31 (ints C.flatten) 2, Vault g27 v, Disk db d, blk b (mcells sb inn dt pg) 88, Store sb db s]) (fun k => l.length - k) 0 (by exact ⟨rfl, trivial⟩) (Δ0 := _) ?_ (⟨.refl _, Nat.zero_le _, DiskS.new, s0, v0, noB, noB, noP, noP, b1, b0, rel0, Int.le_refl _, MOk.new0, rfl⟩) ?_
  · exact (by (repeat (first | exact Ent.nil _ | (apply Ent.sel; focus (first | ((repeat (first | with_reducible exact Sel.head | apply Sel.tail)); done) | ((repeat (first | exact Sel.head | apply Sel.tail)); done))) | apply Ent.selNil | apply Ent.selEmp)); (first | done | fail))
  rintro k δ σ2 _ ⟨hs2, hk, d, s, v, inn, dt, pg, C, b, sb, hrel, hgk, hM, rfl⟩
  dsimp only [ovr, List.foldl]
  have hk : k ≤ l.length := hk
  have hl2 := hl1.mono hs2 (fun cs x h => h)
  have hg0 := hrel.good.gen
  have hvg := hrel.gen
  have hfl := flat_len hM.cc
  refine XA.seq ?_
  refine XA.seq ?_
  refine XA.region ?_
  refine XOA.rd rfl Rd.mv ?_
  refine XOA.rd rfl Rd.mv ?_
  refine XOA.rd rfl (Rd.lenSlice (tyrow rfl) rfl rfl) ?_
  refine XOA.rd rfl (Rd.lss rfl rfl) ?_
  refine XOA.nil ?_
  refine DA.thn_normal ?_
  refine XA.condp rfl (fun hlt => ?_) (fun hlt => ?_)
  · have hlt : k < l.length := by omega
    obtain ⟨x, hx⟩ : ∃ x, l[k]? = some x := ⟨_, List.getElem?_eq_getElem hlt⟩
    obtain ⟨g, o, row, rfl, ⟨rfl, hxa, hxD, hxm0, hxm1⟩, hrl, hrow⟩ := hl2.at hx
    obtain ⟨xdo, xat, xD, xw, xm⟩ := x
    simp only at hxa hxD hxm0 hxm1 hrow hrl
    have hone : ones [i64 xdo, i64 xat, i64 xD, i64 xw, .int .u64 xm] := ones_lit rfl
    have hbl : (bools dt).length = 14 := by rw [bools_len]; exact hM.ld
    refine XA.skip ?_
    refine DA.thn_normal ?_
    refine XA.seq ?_
    refine XA.block ?_
    refine XA.seq ?_
    refine XA.region ?_
    refine XOA.rd rfl Rd.mv ?_
    refine XOA.rd rfl Rd.mv ?_
    refine XOA.rd rfl (Rd.ixS rfl rfl) ?_
    refine XOA.rd rfl (Rd.ldA rfl) ?_
    refine XOA.wr0 rfl (WrA.alloc (tyrow rfl)) ?_
    rintro _ _ _ ⟨g10, rfl, rfl, rfl⟩
    refine XOA.wr0 rfl (WrA.st (tyrow rfl) rfl) ?_
    rintro _ _ _ ⟨rfl, rfl, rfl⟩
    refine XOA.nil ?_
    refine DA.thn_normal ?_
    refine XA.seq ?_
    refine XA.seq ?_
    refine XA.region ?_
    refine XOA.rd rfl (Rd.fA rfl) ?_
    refine XOA.rd rfl (Rd.ldC rfl (tyrow rfl) rfl) ?_
    refine XOA.nil ?_
    refine DA.thn_normal ?_
    refine XA.join [(2, 2), (11, 19), (45, 182)] (fun _ : Unit => []) (fun _ σ' Γ' => σ2.sub σ' ∧ ∃ (d : DiskS) (s : StS) (v : VS) (inn dt : List Bool) (pg C : List (List Int)) (b sb : Nat), Rel d s v ∧ s.gen ≤ k + 1 ∧ MOk d s inn dt pg C ∧ Γ' = [blk g10 [i64 xdo, i64 xat, i64 xD, i64 xw, .int .u64 xm] 75, blk g3 [ptr db] 24, blk g4 [ptr g27] 47, blk g5 [ptr b] 72, blk g6 [.slice (some ⟨g31, 0, none⟩) 112 112] 77, blk g7 (bools dt) 84, blk g31 (ints C.flatten) 2, Vault g27 v, Disk db d, blk b (mcells sb inn dt pg) 88, Store sb db s]) ?_ ?_
    · 
      refine XA.block ?_
      refine XA.seq ?_
      refine XA.region ?_
      refine XOA.rd rfl (Rd.eql rfl rfl) ?_
      refine XOA.rd rfl Rd.asg ?_
      refine XOA.nil ?_
      refine DA.thn_normal ?_
      refine XA.condp rfl (fun k0 => ?_) (fun k0 => ?_)
      · 
        refine XA.seq ?_
        refine XA.region ?_
        refine XOA.join (List.take_append_drop 10 _).symm [(47, 56)] (fun _ : Unit => [(56, .bool (decide (0 ≤ xat ∧ xat < 112)))]) (fun _ σ' Γ' => σ2 = σ' ∧ Γ' = [blk g10 [i64 xdo, i64 xat, i64 xD, i64 xw, .int .u64 xm] 75, blk g3 [ptr db] 24, blk g4 [ptr g27] 47, blk g5 [ptr b] 72, blk g6 [.slice (some ⟨g31, 0, none⟩) 112 112] 77, blk g7 (bools dt) 84, blk g31 (ints C.flatten) 2, Vault g27 v, Disk db d, blk b (mcells sb inn dt pg) 88, Store sb db s]) ?_ ?_
        · 
          by_cases h0 : 0 ≤ xat
          · rw [show decide (0 ≤ xat ∧ xat < 112) = decide (xat < 112) from decide_eq_decide.2 (and_iff_right h0)]
            refine XOA.rd rfl (Rd.fA rfl) ?_
            refine XOA.rd rfl (Rd.ldC rfl (tyrow rfl) rfl) ?_
            refine XOA.rd rfl (Rd.geq rfl rfl) ?_
            refine XOA.rd rfl Rd.mv ?_
            first | ((first | refine XOA.wanted rfl rfl ?_ | refine XOA.wq rfl rfl ?_); refine XOA.rd rfl (Rd.fA rfl) ?_) | refine XOA.unwanted rfl rfl rfl rfl ?_ | refine XOA.uq rfl rfl rfl ?_ | refine XOA.unwantedU rfl rfl rfl ?_
            first | ((first | refine XOA.wanted rfl rfl ?_ | refine XOA.wq rfl rfl ?_); refine XOA.rd rfl (Rd.ldC rfl (tyrow rfl) rfl) ?_) | refine XOA.unwanted rfl rfl rfl rfl ?_ | refine XOA.uq rfl rfl rfl ?_ | refine XOA.unwantedU rfl rfl rfl ?_
            first | ((first | refine XOA.wanted rfl rfl ?_ | refine XOA.wq rfl rfl ?_); refine XOA.rd rfl (Rd.ldC rfl (tyrow rfl) rfl) ?_) | refine XOA.unwanted rfl rfl rfl rfl ?_ | refine XOA.uq rfl rfl rfl ?_ | refine XOA.unwantedU rfl rfl rfl ?_
            first | ((first | refine XOA.wanted rfl rfl ?_ | refine XOA.wq rfl rfl ?_); refine XOA.rd rfl (Rd.lenSlice (tyrow rfl) rfl rfl) ?_) | refine XOA.unwanted rfl rfl rfl rfl ?_ | refine XOA.uq rfl rfl rfl ?_ | refine XOA.unwantedU rfl rfl rfl ?_
            first | ((first | refine XOA.wanted rfl rfl ?_ | refine XOA.wq rfl rfl ?_); refine XOA.rd rfl (Rd.lss rfl rfl) ?_) | refine XOA.unwanted rfl rfl rfl rfl ?_ | refine XOA.uq rfl rfl rfl ?_ | refine XOA.unwantedU rfl rfl rfl ?_
            refine XOA.rd rfl (by first | exact Rd.pT rfl | exact Rd.pF rfl | exact Rd.pP rfl) ?_
            refine XOA.nil ?_
            refine DA.thn_normal ?_
            refine ⟨(Keep.upd (Keep.upd (Keep.upd (Keep.upd (Keep.upd (Keep.upd (Keep.upd (Keep.upd (Keep.upd (Keep.upd (Keep.refl _ _) rfl) rfl) rfl) rfl) rfl) rfl) rfl) rfl) rfl) rfl), (), _, (by (repeat (first | exact trivial | refine ⟨rfl, ?_⟩ | refine ⟨Eq.trans rfl (congrArg Value.bool hmat.symm), ?_⟩)); (first | done | fail)), ?_, ⟨rfl, rfl⟩⟩
            · exact (by (repeat (first | exact Ent.nil _ | (apply Ent.sel; focus (first | ((repeat (first | with_reducible exact Sel.head | apply Sel.tail)); done) | ((repeat (first | exact Sel.head | apply Sel.tail)); done))) | apply Ent.selNil | apply Ent.selEmp)); (first | done | fail))
          · rw [show decide (0 ≤ xat ∧ xat < 112) = false from decide_eq_false (fun q => h0 q.1)]
            refine XOA.rd rfl (Rd.fA rfl) ?_
            refine XOA.rd rfl (Rd.ldC rfl (tyrow rfl) rfl) ?_
            refine XOA.rd rfl (Rd.geq rfl rfl) ?_
            refine XOA.rd rfl Rd.mv ?_
            first | ((first | refine XOA.wanted rfl rfl ?_ | refine XOA.wq rfl rfl ?_); refine XOA.rd rfl (Rd.fA rfl) ?_) | refine XOA.unwanted rfl rfl rfl rfl ?_ | refine XOA.uq rfl rfl rfl ?_ | refine XOA.unwantedU rfl rfl rfl ?_
            first | ((first | refine XOA.wanted rfl rfl ?_ | refine XOA.wq rfl rfl ?_); refine XOA.rd rfl (Rd.ldC rfl (tyrow rfl) rfl) ?_) | refine XOA.unwanted rfl rfl rfl rfl ?_ | refine XOA.uq rfl rfl rfl ?_ | refine XOA.unwantedU rfl rfl rfl ?_
            first | ((first | refine XOA.wanted rfl rfl ?_ | refine XOA.wq rfl rfl ?_); refine XOA.rd rfl (Rd.ldC rfl (tyrow rfl) rfl) ?_) | refine XOA.unwanted rfl rfl rfl rfl ?_ | refine XOA.uq rfl rfl rfl ?_ | refine XOA.unwantedU rfl rfl rfl ?_
            first | ((first | refine XOA.wanted rfl rfl ?_ | refine XOA.wq rfl rfl ?_); refine XOA.rd rfl (Rd.lenSlice (tyrow rfl) rfl rfl) ?_) | refine XOA.unwanted rfl rfl rfl rfl ?_ | refine XOA.uq rfl rfl rfl ?_ | refine XOA.unwantedU rfl rfl rfl ?_
            first | ((first | refine XOA.wanted rfl rfl ?_ | refine XOA.wq rfl rfl ?_); refine XOA.rd rfl (Rd.lss rfl rfl) ?_) | refine XOA.unwanted rfl rfl rfl rfl ?_ | refine XOA.uq rfl rfl rfl ?_ | refine XOA.unwantedU rfl rfl rfl ?_
            refine XOA.rd rfl (by first | exact Rd.pT rfl | exact Rd.pF rfl | exact Rd.pP rfl) ?_
            refine XOA.nil ?_
            refine DA.thn_normal ?_
            refine ⟨(Keep.upd (Keep.upd (Keep.upd (Keep.upd (Keep.upd (Keep.upd (Keep.upd (Keep.upd (Keep.upd (Keep.upd (Keep.refl _ _) rfl) rfl) rfl) rfl) rfl) rfl) rfl) rfl) rfl) rfl), (), _, (by (repeat (first | exact trivial | refine ⟨rfl, ?_⟩ | refine ⟨Eq.trans rfl (congrArg Value.bool hmat.symm), ?_⟩)); (first | done | fail)), ?_, ⟨rfl, rfl⟩⟩
            · exact (by (repeat (first | exact Ent.nil _ | (apply Ent.sel; focus (first | ((repeat (first | with_reducible exact Sel.head | apply Sel.tail)); done) | ((repeat (first | exact Sel.head | apply Sel.tail)); done))) | apply Ent.selNil | apply Ent.selEmp)); (first | done | fail))
        rintro - δ1 _ _ ⟨rfl, rfl⟩
        dsimp only [ovr, List.foldl]
        refine XOA.rd rfl Rd.asg ?_
        refine XOA.nil ?_
        refine DA.thn_normal ?_
        refine XA.seq ?_
        refine XA.seq ?_
        refine XA.region ?_
        refine XOA.rd rfl (Rd.ldC rfl (tyrow rfl) rfl) ?_
        refine XOA.rd rfl (Rd.fA rfl) ?_
        refine XOA.rd rfl (Rd.ldC rfl (tyrow rfl) rfl) ?_
        refine XOA.rd rfl (Rd.fA rfl) ?_
        refine XOA.rd rfl (Rd.ldC rfl (tyrow rfl) rfl) ?_
        refine XOA.wr0 rfl (WrA.cE (put_a σ2 b sb db d s inn dt pg C xat xw hrel.good.dok hrel.good.wlen' hM) rfl) ?_
        rintro _ _ _ ⟨_, ⟨rfl, rfl, inn2, pg2, h2, rfl⟩, rfl⟩
        refine XOA.cl ?_
        have kb : ¬ (decide (0 ≤ xat ∧ xat < 112) ≠ decide (0 ≤ xat ∧ xat < 112)) := fun q => q rfl
        refine XOA.rd rfl Rd.mv ?_
        refine XOA.rd rfl (Rd.neqb (tyrow rfl) rfl rfl rfl) ?_
        refine XOA.nil ?_
        refine DA.thn_normal ?_
        refine XA.condF rfl (decide_eq_false kb) ?_
        refine XA.skip ?_
        refine DA.thn_normal ?_
        refine XA.seq ?_
        by_cases hin : 0 ≤ xat ∧ xat < 112
        · rw [decide_eq_true hin]
          obtain ⟨n, rfl⟩ : ∃ n : Nat, xat = n := Int.eq_ofNat_of_zero_le hin.1
          have hn : n < 112 := by omega
          have hcell : (ints C.flatten)[n]? = some (i64 (wordC C n)) := int_cell hM.cc hn
          refine XA.draw (by kernel_rfl) _ _ [] [(0, .pu), (1, .pu), (2, .rd), (3, .pu), (4, .rd), (5, .pu), (6, .rd), (7, .pu), (8, .rd), (9, .pu), (10, .pu)] (by kernel_rfl) (PH.sub.refl _) (Ent.sel (R := blk g10 _ _) (by ((repeat (first | with_reducible exact Sel.head | apply Sel.tail)); (first | done | fail))) (Ent.sel (R := blk g6 _ _) (by ((repeat (first | with_reducible exact Sel.head | apply Sel.tail)); (first | done | fail))) (Ent.sel (R := blk g31 _ _) (by ((repeat (first | with_reducible exact Sel.head | apply Sel.tail)); (first | done | fail))) (Ent.nil _)))) ?_
          refine XPA.pu rfl rfl Gd.free Rd.mv ?_
          refine XPA.pu rfl rfl Gd.free Rd.mv ?_
          first | refine XPA.rdG rfl rfl (Rd.ldC rfl (tyrow rfl) rfl) ?_ | refine XPA.offG rfl rfl ?_
          first | refine XPA.puG rfl rfl (Rd.fA rfl) ?_ | refine XPA.puOffG rfl rfl ?_
          first | refine XPA.rdG rfl rfl (Rd.ldC rfl (tyrow rfl) rfl) ?_ | refine XPA.offG rfl rfl ?_
          first | refine XPA.puG rfl rfl (Rd.ixS rfl rfl) ?_ | refine XPA.puOffG rfl rfl ?_
          first | refine XPA.rdG rfl rfl (Rd.ldC rfl (tyrow rfl) rfl) ?_ | refine XPA.offG rfl rfl ?_
          first | refine XPA.puG rfl rfl (Rd.fA rfl) ?_ | refine XPA.puOffG rfl rfl ?_
          first | refine XPA.rdG rfl rfl (Rd.ldC rfl (tyrow rfl) rfl) ?_ | refine XPA.offG rfl rfl ?_
          first | refine XPA.puG rfl rfl (Rd.neq rfl rfl) ?_ | refine XPA.puOffG rfl rfl ?_
          refine XPA.pu rfl rfl Gd.free (by first | exact Rd.pT rfl | exact Rd.pF rfl | exact Rd.pP rfl) ?_
          refine XPA.nil ?_
          refine DA.thn_normal ?_
          refine XA.condp rfl (fun hne => ?_) (fun hne => ?_)
          · have hC' := putC_flat hM.cc hn xw
            have hD' : putD C dt n xw = dt.set (n / 8) true := by rw [putD, if_pos ⟨hin, hne⟩]; rfl
            have hbd : bools (putD C dt n xw) = bools (dt.set (n / 8) true) := by rw [hD']
            have hspl := ints_put (l := C.flatten) (k := n) (by omega) xw
            have hfit : n + ty2.size ≤ (ints C.flatten).length := by rw [ints_len, hfl]; show n + 1 ≤ 112; omega
            have hspl2 := bools_put (l := dt) (k := n / 8) (by rw [hM.ld]; omega) true
            refine XA.seq ?_
            refine XA.region ?_
            refine XOA.rd rfl (Rd.ldC rfl (tyrow rfl) rfl) ?_
            refine XOA.rd rfl (Rd.fA rfl) ?_
            refine XOA.rd rfl (Rd.ldC rfl (tyrow rfl) rfl) ?_
            refine XOA.rd rfl (Rd.fA rfl) ?_
            refine XOA.rd rfl (Rd.ldC rfl (tyrow rfl) rfl) ?_
            refine XOA.rd rfl (Rd.ixS rfl rfl) ?_
            refine XOA.wr0 rfl (WrA.st (tyrow rfl) rfl) ?_
            rintro _ _ _ ⟨rfl, rfl, rfl⟩
            refine XOA.nil ?_
            refine DA.thn_normal ?_
            refine XA.region ?_
            clear hfit
            have hfit : n / 8 + ty4.size ≤ (bools dt).length := by rw [hbl]; show n / 8 + 1 ≤ 14; omega
            refine XOA.rd rfl (Rd.fA rfl) ?_
            refine XOA.rd rfl (Rd.ldC rfl (tyrow rfl) rfl) ?_
            refine XOA.rd rfl (Rd.quoi (c := ((n / 8 : Nat) : Int)) rfl rfl (by decide) (quo8 hn)) ?_
            refine XOA.rd rfl (Rd.ixA rfl rfl) ?_
            refine XOA.wr0 rfl (WrA.st (tyrow rfl) rfl) ?_
            rintro _ _ _ ⟨rfl, rfl, rfl⟩
            refine XOA.nil ?_
            refine DA.inb_normal ?_
            refine DA.thn_normal ?_
            refine ⟨(Keep.updN (Keep.upd (Keep.upd (Keep.upd (Keep.upd (Keep.updN (Keep.upd (Keep.upd (Keep.upd (Keep.upd (Keep.upd (Keep.upd (Keep.upd (Keep.upd (Keep.upd (Keep.upd (Keep.upd (Keep.upd (Keep.upd (Keep.upd (Keep.upd (Keep.upd (Keep.upd (Keep.upd (Keep.upd (Keep.updO (Keep.upd (Keep.upd (Keep.upd (Keep.upd (Keep.upd (Keep.upd (Keep.upd (Keep.hav (Keep.upd (Keep.upd (Keep.refl _ _) rfl) rfl) rfl) rfl) rfl) rfl) rfl) rfl) rfl) rfl) rfl) rfl) rfl) rfl) rfl) rfl) rfl) rfl) rfl) rfl) rfl) rfl) rfl) rfl) rfl) rfl) rfl) rfl) rfl) rfl)) rfl) rfl) rfl) rfl)), (), _, (by (repeat (first | exact trivial | refine ⟨rfl, ?_⟩ | refine ⟨Eq.trans rfl (congrArg Value.bool hmat.symm), ?_⟩)); (first | done | fail)), ?_, ⟨.refl _, d, s, v, inn2, putD C dt n xw, pg2, putC C n xw, b, sb, hrel, by omega, h2, rfl⟩⟩
            · rw [hC', hbd]; exact (by (repeat (first | exact Ent.nil _ | (apply Ent.sel; focus (first | ((repeat (first | with_reducible exact Sel.head | apply Sel.tail)); done) | ((repeat (first | exact Sel.head | apply Sel.tail)); done))) | apply Ent.selNil | apply Ent.selEmp)); (first | done | fail))
          · have e1 : putC C n xw = C := by rw [putC, if_neg (fun q => hne q.2)]
            have e2 : putD C dt n xw = dt := by rw [putD, if_neg (fun q => hne q.2)]
            rw [e1, e2] at h2
            rw [e2]
            refine XA.skip ?_
            refine DA.inb_normal ?_
            refine DA.thn_normal ?_
            refine ⟨(Keep.upd (Keep.upd (Keep.upd (Keep.upd (Keep.upd (Keep.upd (Keep.upd (Keep.upd (Keep.upd (Keep.upd (Keep.upd (Keep.upd (Keep.upd (Keep.updO (Keep.upd (Keep.upd (Keep.upd (Keep.upd (Keep.upd (Keep.upd (Keep.upd (Keep.hav (Keep.upd (Keep.upd (Keep.refl _ _) rfl) rfl) rfl) rfl) rfl) rfl) rfl) rfl) rfl) rfl) rfl) rfl) rfl) rfl) rfl) rfl) rfl) rfl) rfl) rfl) rfl) rfl) rfl) rfl), (), _, (by (repeat (first | exact trivial | refine ⟨rfl, ?_⟩ | refine ⟨Eq.trans rfl (congrArg Value.bool hmat.symm), ?_⟩)); (first | done | fail)), ?_, ⟨.refl _, d, s, v, inn2, dt, pg2, C, b, sb, hrel, by omega, h2, rfl⟩⟩
            · exact (by (repeat (first | exact Ent.nil _ | (apply Ent.sel; focus (first | ((repeat (first | with_reducible exact Sel.head | apply Sel.tail)); done) | ((repeat (first | exact Sel.head | apply Sel.tail)); done))) | apply Ent.selNil | apply Ent.selEmp)); (first | done | fail))
        · rw [decide_eq_false hin]
          have e1 : putC C xat xw = C := by rw [putC, if_neg (fun q => hin q.1)]
          have e2 : putD C dt xat xw = dt := by rw [putD, if_neg (fun q => hin q.1)]
          rw [e1, e2] at h2
          rw [e2]
          refine XA.draw (by kernel_rfl) _ _ [] [(0, .pu), (1, .pu), (2, .rd), (3, .pu), (4, .rd), (5, .pu), (6, .rd), (7, .pu), (8, .rd), (9, .pu), (10, .pu)] (by kernel_rfl) (PH.sub.refl _) (Ent.sel (R := blk g10 _ _) (by ((repeat (first | with_reducible exact Sel.head | apply Sel.tail)); (first | done | fail))) (Ent.sel (R := blk g6 _ _) (by ((repeat (first | with_reducible exact Sel.head | apply Sel.tail)); (first | done | fail))) (Ent.sel (R := blk g31 _ _) (by ((repeat (first | with_reducible exact Sel.head | apply Sel.tail)); (first | done | fail))) (Ent.nil _)))) ?_
          refine XPA.pu rfl rfl Gd.free Rd.mv ?_
          refine XPA.pu rfl rfl Gd.free Rd.mv ?_
          first | refine XPA.rdG rfl rfl (Rd.ldC rfl (tyrow rfl) rfl) ?_ | refine XPA.offG rfl rfl ?_
          first | refine XPA.puG rfl rfl (Rd.fA rfl) ?_ | refine XPA.puOffG rfl rfl ?_
          first | refine XPA.rdG rfl rfl (Rd.ldC rfl (tyrow rfl) rfl) ?_ | refine XPA.offG rfl rfl ?_
          first | refine XPA.puG rfl rfl (Rd.ixS rfl rfl) ?_ | refine XPA.puOffG rfl rfl ?_
          first | refine XPA.rdG rfl rfl (Rd.ldC rfl (tyrow rfl) rfl) ?_ | refine XPA.offG rfl rfl ?_
          first | refine XPA.puG rfl rfl (Rd.fA rfl) ?_ | refine XPA.puOffG rfl rfl ?_
          first | refine XPA.rdG rfl rfl (Rd.ldC rfl (tyrow rfl) rfl) ?_ | refine XPA.offG rfl rfl ?_
          first | refine XPA.puG rfl rfl (Rd.neq rfl rfl) ?_ | refine XPA.puOffG rfl rfl ?_
          refine XPA.pu rfl rfl Gd.free (by first | exact Rd.pT rfl | exact Rd.pF rfl | exact Rd.pP rfl) ?_
          refine XPA.nil ?_
          refine DA.thn_normal ?_
          refine XA.condF rfl rfl ?_
          refine XA.skip ?_
          refine DA.inb_normal ?_
          refine DA.thn_normal ?_
          refine ⟨(Keep.upd (Keep.upd (Keep.upd (Keep.upd (Keep.upd (Keep.upd (Keep.upd (Keep.upd (Keep.upd (Keep.upd (Keep.upd (Keep.upd (Keep.upd (Keep.updO (Keep.upd (Keep.upd (Keep.upd (Keep.upd (Keep.upd (Keep.upd (Keep.upd (Keep.hav (Keep.upd (Keep.upd (Keep.refl _ _) rfl) rfl) rfl) rfl) rfl) rfl) rfl) rfl) rfl) rfl) rfl) rfl) rfl) rfl) rfl) rfl) rfl) rfl) rfl) rfl) rfl) rfl) rfl) rfl), (), _, (by (repeat (first | exact trivial | refine ⟨rfl, ?_⟩ | refine ⟨Eq.trans rfl (congrArg Value.bool hmat.symm), ?_⟩)); (first | done | fail)), ?_, ⟨.refl _, d, s, v, inn2, dt, pg2, C, b, sb, hrel, by omega, h2, rfl⟩⟩
          · exact (by (repeat (first | exact Ent.nil _ | (apply Ent.sel; focus (first | ((repeat (first | with_reducible exact Sel.head | apply Sel.tail)); done) | ((repeat (first | exact Sel.head | apply Sel.tail)); done))) | apply Ent.selNil | apply Ent.selEmp)); (first | done | fail))
      refine XA.seq ?_
      refine XA.seq ?_
      refine XA.region ?_
      refine XOA.rd rfl (Rd.eql rfl rfl) ?_
      refine XOA.rd rfl Rd.asg ?_
      refine XOA.nil ?_
      refine DA.thn_normal ?_
      refine XA.join [(86, 86), (88, 88)] (fun _ : Unit => [(86, .bool (decide (xdo = 1 ∨ xdo = 2)))]) (fun _ σ' Γ' => σ2 = σ' ∧ Γ' = [blk g10 [i64 xdo, i64 xat, i64 xD, i64 xw, .int .u64 xm] 75, blk g3 [ptr db] 24, blk g4 [ptr g27] 47, blk g5 [ptr b] 72, blk g6 [.slice (some ⟨g31, 0, none⟩) 112 112] 77, blk g7 (bools dt) 84, blk g31 (ints C.flatten) 2, Vault g27 v, Disk db d, blk b (mcells sb inn dt pg) 88, Store sb db s]) ?_ ?_
      · 
        refine XA.condp rfl (fun k1 => ?_) (fun k1 => ?_)
        · rw [decide_eq_true (show xdo = 1 ∨ xdo = 2 from .inl k1), decide_eq_true k1]
          refine XA.skip ?_
          refine DA.thn_normal ?_
          refine ⟨(Keep.refl _ _), (), _, (by (repeat (first | exact trivial | refine ⟨rfl, ?_⟩ | refine ⟨Eq.trans rfl (congrArg Value.bool hmat.symm), ?_⟩)); (first | done | fail)), ?_, ⟨rfl, rfl⟩⟩
          · exact (by (repeat (first | exact Ent.nil _ | (apply Ent.sel; focus (first | ((repeat (first | with_reducible exact Sel.head | apply Sel.tail)); done) | ((repeat (first | exact Sel.head | apply Sel.tail)); done))) | apply Ent.selNil | apply Ent.selEmp)); (first | done | fail))
        rw [show decide (xdo = 1 ∨ xdo = 2) = decide (xdo = 2) from decide_eq_decide.2 (or_iff_right k1)]
        refine XA.region ?_
        refine XOA.rd rfl (Rd.eql rfl rfl) ?_
        refine XOA.rd rfl Rd.asg ?_
        refine XOA.nil ?_
        refine DA.thn_normal ?_
        refine ⟨(Keep.upd (Keep.upd (Keep.refl _ _) rfl) rfl), (), _, (by (repeat (first | exact trivial | refine ⟨rfl, ?_⟩ | refine ⟨Eq.trans rfl (congrArg Value.bool hmat.symm), ?_⟩)); (first | done | fail)), ?_, ⟨rfl, rfl⟩⟩
        · exact (by (repeat (first | exact Ent.nil _ | (apply Ent.sel; focus (first | ((repeat (first | with_reducible exact Sel.head | apply Sel.tail)); done) | ((repeat (first | exact Sel.head | apply Sel.tail)); done))) | apply Ent.selNil | apply Ent.selEmp)); (first | done | fail))
      rintro - δ1 _ _ ⟨rfl, rfl⟩
      dsimp only [ovr, List.foldl]
      refine DA.thn_normal ?_
      refine XA.condp rfl (fun k12 => ?_) (fun k12 => ?_)
      · 
        refine XA.seq ?_
        refine XA.region ?_
        refine XOA.rd rfl Rd.asg ?_
        refine XOA.nil ?_
        refine DA.thn_normal ?_
        refine XA.seq ?_
        refine XA.region ?_
        refine XOA.rd rfl (Rd.ldC rfl (tyrow rfl) rfl) ?_
        refine XOA.wr0 rfl (WrA.cE (dirty_a σ2 b sb d s inn dt pg C hM) rfl) ?_
        rintro _ _ _ ⟨_, ⟨p, c, rows, rfl, hrows, rfl, rfl⟩, rfl⟩
        refine XOA.cl ?_
        refine XOA.rd rfl Rd.asg ?_
        refine XOA.nil ?_
        refine DA.thn_normal ?_
        refine XA.seq ?_
        refine XA.seq ?_
        refine XA.region ?_
        refine XOA.rd rfl Rd.asg ?_
        refine XOA.nil ?_
        refine DA.thn_normal ?_
        refine XA.block ?_
        refine XA.loop [(12, 12), (14, 16), (91, 118)] (fun q : Nat × (Option Addr × (Nat × Nat)) => [(14, i64 q.1), (12, .slice q.2.1 q.2.2.1 q.2.2.2)]) (fun q σ' Γ' => σ2 = σ' ∧ q.1 ≤ 14 ∧ q.2.2.1 = (dirtyTo C dt q.1).length ∧ ∃ (rows2 : List (List Value)), Rows_ 9 rPage σ2 rows2 (dirtyTo C dt q.1) ∧ Γ' = [blk g10 [i64 xdo, i64 xat, i64 xD, i64 xw, .int .u64 xm] 75, lst 66 9 (.slice p (dirtyL C dt).length c) (dirtyL C dt).length rows.flatten, lst 85 9 (.slice q.2.1 q.2.2.1 q.2.2.2) q.2.2.1 rows2.flatten, blk g3 [ptr db] 24, blk g4 [ptr g27] 47, blk g5 [ptr b] 72, blk g6 [.slice (some ⟨g31, 0, none⟩) 112 112] 77, blk g7 (bools dt) 84, blk g31 (ints C.flatten) 2, Vault g27 v, Disk db d, blk b (mcells sb inn dt pg) 88, Store sb db s]) (fun q => 14 - q.1) (0, (none, (0, 0))) (by exact ⟨rfl, rfl, trivial⟩) (Δ0 := _) ?_ (⟨rfl, Nat.zero_le _, rfl, [], Rows_.nil _ _ _, rfl⟩) ?_
        · exact (by (repeat (first | exact Ent.nil _ | (apply Ent.sel; focus (first | ((repeat (first | with_reducible exact Sel.head | apply Sel.tail)); done) | ((repeat (first | exact Sel.head | apply Sel.tail)); done))) | apply Ent.selNil | apply Ent.selEmp)); (first | done | fail))
        rintro ⟨k2, p2, n2, c2⟩ δ2 _ _ ⟨rfl, hk2, hn2, rows2, hr2, rfl⟩
        dsimp only [ovr, List.foldl]
        have hk2 : k2 ≤ 14 := hk2
        have hn2 : n2 = (dirtyTo C dt k2).length := hn2
        have hr2 : Rows_ 9 rPage σ2 rows2 (dirtyTo C dt k2) := hr2
        have hle2 := dirtyTo_le C dt k2
        rw [← hn2] at hle2
        refine XA.seq ?_
        refine XA.seq ?_
        refine XA.region ?_
        refine XOA.rd rfl Rd.mv ?_
        refine XOA.rd rfl (Rd.lss rfl rfl) ?_
        refine XOA.nil ?_
        refine DA.thn_normal ?_
        refine XA.condp rfl (fun hlt2 => ?_) (fun hlt2 => ?_)
        · have hlt2 : k2 < 14 := by omega
          have hbk := bools_get (l := dt) (k := k2) (by rw [hM.ld]; exact hlt2)
          cases hdk : dt.getD k2 false with
          | true =>
            rw [hdk] at hbk
            have e1 : dirtyTo C dt (k2 + 1) = dirtyTo C dt k2 ++ [⟨(k2 : Int), C.getD k2 DiskS.zeros⟩] := by rw [dirtyTo, if_pos hdk]
            have hW8 := pgs_row8 hM.cc hlt2
            refine XA.skip ?_
            refine DA.thn_normal ?_
            refine XA.seq ?_
            refine XA.block ?_
            refine XA.seq ?_
            refine XA.seq ?_
            refine XA.region ?_
            refine XOA.rd rfl Rd.mv ?_
            refine XOA.rd rfl (Rd.ixA rfl rfl) ?_
            refine XOA.rd rfl (Rd.ldC rfl (tyrow rfl) rfl) ?_
            refine XOA.rd rfl (by first | exact Rd.notp rfl | exact Rd.not rfl) ?_
            refine XOA.nil ?_
            refine DA.thn_normal ?_
            refine XA.condF rfl rfl ?_
            refine XA.skip ?_
            refine DA.thn_normal ?_
            refine XA.seq ?_
            refine XA.region ?_
            refine XOA.rd rfl (Rd.blA (fun _ _ => tyrow) rfl rfl rfl) ?_
            refine XOA.wr0 rfl (WrA.alloc (tyrow rfl)) ?_
            rintro _ _ _ ⟨g15, rfl, rfl, rfl⟩
            refine XOA.wr0 rfl (WrA.st (tyrow rfl) rfl) ?_
            rintro _ _ _ ⟨rfl, rfl, rfl⟩
            refine XOA.nil ?_
            refine DA.thn_normal ?_
            refine XA.seq ?_
            refine XA.seq ?_
            refine XA.region ?_
            refine XOA.rd rfl Rd.asg ?_
            refine XOA.nil ?_
            refine DA.thn_normal ?_
            refine XA.block ?_
            refine XA.loop [(16, 16), (100, 112)] (fun j : Nat => [(16, i64 j)]) (fun j σ' Γ' => σ2 = σ' ∧ j ≤ 8 ∧ ∃ W : List Int, W.length = 8 ∧ (∀ i, i < j → W[i]? = (C.getD k2 DiskS.zeros)[i]?) ∧ Γ' = [blk g10 [i64 xdo, i64 xat, i64 xD, i64 xw, .int .u64 xm] 75, lst 66 9 (.slice p (dirtyL C dt).length c) (dirtyL C dt).length rows.flatten, lst 85 9 (.slice p2 n2 c2) n2 rows2.flatten, blk g15 (ints W) 32, blk g3 [ptr db] 24, blk g4 [ptr g27] 47, blk g5 [ptr b] 72, blk g6 [.slice (some ⟨g31, 0, none⟩) 112 112] 77, blk g7 (bools dt) 84, blk g31 (ints C.flatten) 2, Vault g27 v, Disk db d, blk b (mcells sb inn dt pg) 88, Store sb db s]) (fun j => 8 - j) 0 (by exact ⟨rfl, trivial⟩) (Δ0 := _) ?_ (⟨rfl, Nat.zero_le _, DiskS.zeros, rfl, fun i h => absurd h (Nat.not_lt_zero _), rfl⟩) ?_
            · exact (by (repeat (first | exact Ent.nil _ | (apply Ent.sel; focus (first | ((repeat (first | with_reducible exact Sel.head | apply Sel.tail)); done) | ((repeat (first | exact Sel.head | apply Sel.tail)); done))) | apply Ent.selNil | apply Ent.selEmp)); (first | done | fail))
            rintro j δ3 _ _ ⟨rfl, hj, W, hW, hWall, rfl⟩
            dsimp only [ovr, List.foldl]
            refine XA.seq ?_
            refine XA.seq ?_
            refine XA.region ?_
            refine XOA.rd rfl Rd.mv ?_
            refine XOA.rd rfl (Rd.lss rfl rfl) ?_
            refine XOA.nil ?_
            refine DA.thn_normal ?_
            refine XA.condp rfl (fun hj8 => ?_) (fun hj8 => ?_)
            · have hj8 : j < 8 := by omega
              have hn : k2 * 8 + j < 112 := by omega
              have hwv : wordC C ((k2 * 8 + j : Nat) : Int) = (C.getD k2 DiskS.zeros).getD j 0 := by rw [wordC_nat C hn, show (k2 * 8 + j) / 8 = k2 by omega, show (k2 * 8 + j) % 8 = j by omega]
              have hcell : (ints C.flatten)[k2 * 8 + j]? = some (i64 ((C.getD k2 DiskS.zeros).getD j 0)) := by rw [← hwv]; exact int_cell hM.cc hn
              have hspl := ints_put (l := W) (k := j) (by omega) ((C.getD k2 DiskS.zeros).getD j 0)
              have hfit : j + ty2.size ≤ (ints W).length := by rw [ints_len, hW]; show j + 1 ≤ 8; omega
              have hnew : ∀ i, i < j + 1 → (W.set j ((C.getD k2 DiskS.zeros).getD j 0))[i]? = (C.getD k2 DiskS.zeros)[i]? := fun i hi => by
                rw [List.getElem?_set]
                by_cases e : j = i
                · subst e; rw [if_pos rfl, if_pos (by omega), List.getD_eq_getElem?_getD, List.getElem?_eq_getElem (by omega)]; rfl
                · rw [if_neg e]; exact hWall i (by omega)
              obtain ⟨u, hu⟩ : ∃ u, u = (C.getD k2 DiskS.zeros).getD j 0 := ⟨_, rfl⟩
              rw [← hu] at hcell hspl hnew
              refine XA.skip ?_
              refine DA.thn_normal ?_
              refine XA.seq ?_
              refine XA.block ?_
              refine XA.region ?_
              refine XOA.rd rfl Rd.mv ?_
              refine XOA.rd rfl (Rd.ldC rfl (tyrow rfl) rfl) ?_
              refine XOA.rd rfl Rd.mv ?_
              refine XOA.rd rfl (Rd.muli (c := ((k2 * 8 : Nat) : Int)) rfl rfl (by omega) (by omega)) ?_
              refine XOA.rd rfl Rd.mv ?_
              refine XOA.rd rfl (Rd.addi (c := ((k2 * 8 + j : Nat) : Int)) rfl rfl (by omega) (by omega)) ?_
              refine XOA.rd rfl (Rd.ixS rfl rfl) ?_
              refine XOA.rd rfl (Rd.ldC rfl (tyrow rfl) rfl) ?_
              refine XOA.rd rfl (Rd.ixA rfl rfl) ?_
              refine XOA.wr0 rfl (WrA.st (tyrow rfl) rfl) ?_
              rintro _ _ _ ⟨rfl, rfl, rfl⟩
              refine XOA.nil ?_
              refine DA.inb_normal ?_
              refine DA.thn_normal ?_
              refine XA.region ?_
              refine XOA.rd rfl Rd.mv ?_
              refine XOA.rd rfl (by first | exact Rd.adi rfl rfl | exact Rd.add rfl rfl) ?_
              refine XOA.rd rfl Rd.asg ?_
              refine XOA.nil ?_
              refine DA.thn_normal ?_
              refine ⟨(Keep.upd (Keep.upd (Keep.upd (Keep.updN (Keep.upd (Keep.upd (Keep.upd (Keep.upd (Keep.upd (Keep.upd (Keep.upd (Keep.upd (Keep.upd (Keep.upd (Keep.upd (Keep.upd (Keep.hav (Keep.hav (Keep.refl _ _) rfl) rfl) rfl) rfl) rfl) rfl) rfl) rfl) rfl) rfl) rfl) rfl) rfl) rfl)) rfl) rfl) rfl), j + 1, _, (by (repeat (first | exact trivial | refine ⟨rfl, ?_⟩ | refine ⟨Eq.trans rfl (congrArg Value.bool hmat.symm), ?_⟩)); (first | done | fail)), ?_, ⟨rfl, hj8, W.set j u, by rw [List.length_set]; exact hW, hnew, rfl⟩, (by omega)⟩
              · exact (by (repeat (first | exact Ent.nil _ | (apply Ent.sel; focus (first | ((repeat (first | with_reducible exact Sel.head | apply Sel.tail)); done) | ((repeat (first | exact Sel.head | apply Sel.tail)); done))) | apply Ent.selNil | apply Ent.selEmp)); (first | done | fail))
            obtain rfl : j = 8 := by omega
            have hWe : W = C.getD k2 DiskS.zeros := List.ext_getElem? (fun i => by
              rcases Nat.lt_or_ge i 8 with h | h
              · exact hWall i h
              · rw [List.getElem?_eq_none (by omega), List.getElem?_eq_none (by omega)])
            rw [← hWe] at e1
            have honeW : ones (ints W) := ones_ints _
            have hxl : (i64 (k2 : Int) :: ints W).length = 9 := by simp [hW]
            have hone2 : ones (i64 (k2 : Int) :: ints W) := ones_cons rfl (ones_ints _)
            have hrow2 : rPage σ2 (i64 (k2 : Int) :: ints W) ⟨k2, W⟩ := ⟨rfl, hW⟩
            have hnew : Rows_ 9 rPage σ2 (rows2 ++ [i64 (k2 : Int) :: ints W]) (dirtyTo C dt (k2 + 1)) := by rw [e1]; exact hr2.snoc hxl hrow2
            have hn1 : n2 + 1 = (dirtyTo C dt (k2 + 1)).length := by rw [e1, List.length_append, List.length_singleton, hn2]
            refine XA.exit ?_
            refine DA.thn_exit ?_
            refine DA.thn_exit ?_
            refine DA.inb_same ?_
            refine DA.thn_normal ?_
            refine XA.region ?_
            refine XOA.rd rfl Rd.mv ?_
            refine XOA.rd rfl Rd.mv ?_
            refine XOA.rd rfl (Rd.ldA rfl) ?_
            refine XOA.rd rfl (Rd.bl (fun _ _ => tyrow) rfl rfl rfl) ?_
            refine XOA.wr0 rfl (WrA.bs1 (tyrow rfl) rfl (tyrow rfl)) ?_
            rintro _ _ _ ⟨g117, rfl, rfl, rfl⟩
            refine XOA.wr0 rfl (WrA.ap1 (tyrow rfl) rfl (tyrow rfl) rfl rfl rfl) ?_
            rintro _ _ _ ⟨p118, c118, rfl, rfl, rfl⟩
            refine XOA.rd rfl Rd.asg ?_
            refine XOA.nil ?_
            refine DA.inb_normal ?_
            refine DA.thn_normal ?_
            refine XA.region ?_
            refine XOA.rd rfl Rd.mv ?_
            refine XOA.rd rfl (by first | exact Rd.adi rfl rfl | exact Rd.add rfl rfl) ?_
            refine XOA.rd rfl Rd.asg ?_
            refine XOA.nil ?_
            refine DA.thn_normal ?_
            refine ⟨(Keep.upd (Keep.upd (Keep.upd (Keep.upd (Keep.updO (Keep.updO (Keep.upd (Keep.upd (Keep.upd (Keep.upd (Keep.upd (Keep.upd (Keep.upd (Keep.hav (Keep.hav (Keep.upd (Keep.updN (Keep.updO (Keep.upd (Keep.upd (Keep.upd (Keep.upd (Keep.upd (Keep.upd (Keep.upd (Keep.upd (Keep.upd (Keep.hav (Keep.hav (Keep.hav (Keep.refl _ _) rfl) rfl) rfl) rfl) rfl) rfl) rfl) rfl) rfl) rfl) rfl) rfl) rfl)) rfl) rfl) rfl) rfl) rfl) rfl) rfl) rfl) rfl) rfl) rfl) rfl) rfl) rfl) rfl) rfl), (k2 + 1, (p118, (n2 + 1, c118))), _, (by (repeat (first | exact trivial | refine ⟨rfl, ?_⟩ | refine ⟨Eq.trans rfl (congrArg Value.bool hmat.symm), ?_⟩)); (first | done | fail)), ?_, ⟨rfl, hlt2, hn1, _, hnew, rfl⟩, (by simp only; omega)⟩
            · rw [flatS]; exact (by (repeat (first | exact Ent.nil _ | (apply Ent.sel; focus (first | ((repeat (first | with_reducible exact Sel.head | apply Sel.tail)); done) | ((repeat (first | exact Sel.head | apply Sel.tail)); done))) | apply Ent.selNil | apply Ent.selEmp)); (first | done | fail))
          | false =>
            rw [hdk] at hbk
            have e1 : dirtyTo C dt (k2 + 1) = dirtyTo C dt k2 := by rw [dirtyTo, if_neg (by rw [hdk]; exact fun q => by cases q)]
            refine XA.skip ?_
            refine DA.thn_normal ?_
            refine XA.seq ?_
            refine XA.block ?_
            refine XA.seq ?_
            refine XA.seq ?_
            refine XA.region ?_
            refine XOA.rd rfl Rd.mv ?_
            refine XOA.rd rfl (Rd.ixA rfl rfl) ?_
            refine XOA.rd rfl (Rd.ldC rfl (tyrow rfl) rfl) ?_
            refine XOA.rd rfl (by first | exact Rd.notp rfl | exact Rd.not rfl) ?_
            refine XOA.nil ?_
            refine DA.thn_normal ?_
            refine XA.condT rfl rfl ?_
            refine XA.exit ?_
            refine DA.thn_exit ?_
            refine DA.inb_same ?_
            refine DA.thn_normal ?_
            refine XA.region ?_
            refine XOA.rd rfl Rd.mv ?_
            refine XOA.rd rfl (by first | exact Rd.adi rfl rfl | exact Rd.add rfl rfl) ?_
            refine XOA.rd rfl Rd.asg ?_
            refine XOA.nil ?_
            refine DA.thn_normal ?_
            refine ⟨(Keep.upd (Keep.upd (Keep.upd (Keep.upd (Keep.upd (Keep.upd (Keep.upd (Keep.upd (Keep.upd (Keep.upd (Keep.upd (Keep.hav (Keep.hav (Keep.hav (Keep.refl _ _) rfl) rfl) rfl) rfl) rfl) rfl) rfl) rfl) rfl) rfl) rfl) rfl) rfl) rfl), (k2 + 1, (p2, (n2, c2))), _, (by (repeat (first | exact trivial | refine ⟨rfl, ?_⟩ | refine ⟨Eq.trans rfl (congrArg Value.bool hmat.symm), ?_⟩)); (first | done | fail)), ?_, ⟨rfl, hlt2, by rw [e1]; exact hn2, rows2, by rw [e1]; exact hr2, rfl⟩, (by simp only; omega)⟩
            · exact (by (repeat (first | exact Ent.nil _ | (apply Ent.sel; focus (first | ((repeat (first | with_reducible exact Sel.head | apply Sel.tail)); done) | ((repeat (first | exact Sel.head | apply Sel.tail)); done))) | apply Ent.selNil | apply Ent.selEmp)); (first | done | fail))
        obtain rfl : k2 = 14 := by omega
        obtain ⟨L, hL⟩ : ∃ L, L = dirtyL C dt := ⟨_, rfl⟩
        have hLc : checkS L = 0 := by rw [hL]; exact dirty_check C dt
        have hLn : ∀ x ∈ L, 0 ≤ x.n ∧ x.n < 14 := by rw [hL]; exact dirty_n
        have hLw : ∀ x ∈ L, x.w.length = 8 := by rw [hL]; exact dirty_w hM.cc
        have hL14 := (check_zero hLc).2.2
        have hn2' : n2 = L.length := by rw [hL]; exact hn2
        have hr2' : Rows_ 9 rPage σ2 rows2 L := by rw [hL]; exact hr2
        clear hn2 hr2
        rw [← hL] at hrows ⊢
        subst hn2'
        have kL : ¬ ((L.length : Int) ≠ (L.length : Int)) := fun q => q rfl
        refine XA.exit ?_
        refine DA.thn_exit ?_
        refine DA.thn_exit ?_
        refine DA.inb_same ?_
        refine DA.thn_normal ?_
        refine XA.seq ?_
        refine XA.seq ?_
        refine XA.region ?_
        refine XOA.rd rfl Rd.mv ?_
        refine XOA.rd rfl (Rd.lenSlice (tyrow rfl) rfl rfl) ?_
        refine XOA.rd rfl Rd.mv ?_
        refine XOA.rd rfl (Rd.lenSlice (tyrow rfl) rfl rfl) ?_
        refine XOA.rd rfl (Rd.neq rfl rfl) ?_
        refine XOA.nil ?_
        refine DA.thn_normal ?_
        refine XA.condF rfl (decide_eq_false kL) ?_
        refine XA.skip ?_
        refine DA.thn_normal ?_
        refine XA.seq ?_
        refine XA.seq ?_
        refine XA.region ?_
        refine XOA.rd rfl Rd.asg ?_
        refine XOA.nil ?_
        refine DA.thn_normal ?_
        refine XA.block ?_
        refine XA.frz (R := lst 66 9 _ _ _) (by ((repeat (first | with_reducible exact Sel.head | apply Sel.tail)); (first | done | fail))) lst_frz lst_frz_mono ?_
        rintro σ3 ⟨⟩ hf3 hs3
        refine XA.frz (R := lst 85 9 _ _ _) (by ((repeat (first | with_reducible exact Sel.head | apply Sel.tail)); (first | done | fail))) lst_frz lst_frz_mono ?_
        rintro σ4 ⟨⟩ hf4 hs4
        have hpl := ((hrows.mono (σ' := σ3) (fun _ _ h => h)).psl rfl hf3).mono hs4 (fun _ _ h => h)
        have hpl2 := (hr2'.mono (σ' := σ4) (fun _ _ h => h)).psl rfl hf4
        have hs24 := hs3.trans hs4
        refine XA.loop [(2, 2), (17, 17), (124, 153)] (fun i : Nat => [(17, i64 i)]) (fun i σ' Γ' => σ4 = σ' ∧ i ≤ L.length ∧ Γ' = [blk g10 [i64 xdo, i64 xat, i64 xD, i64 xw, .int .u64 xm] 75, blk g3 [ptr db] 24, blk g4 [ptr g27] 47, blk g5 [ptr b] 72, blk g6 [.slice (some ⟨g31, 0, none⟩) 112 112] 77, blk g7 (bools dt) 84, blk g31 (ints C.flatten) 2, Vault g27 v, Disk db d, blk b (mcells sb inn dt pg) 88, Store sb db s]) (fun i => L.length - i) 0 (by exact ⟨rfl, trivial⟩) (Δ0 := _) ?_ (⟨rfl, Nat.zero_le _, rfl⟩) ?_
        · exact (by (repeat (first | exact Ent.nil _ | (apply Ent.sel; focus (first | ((repeat (first | with_reducible exact Sel.head | apply Sel.tail)); done) | ((repeat (first | exact Sel.head | apply Sel.tail)); done))) | apply Ent.selNil | apply Ent.selEmp)); (first | done | fail))
        rintro i δ3 _ _ ⟨rfl, hi, rfl⟩
        dsimp only [ovr, List.foldl]
        refine XA.seq ?_
        refine XA.seq ?_
        refine XA.region ?_
        refine XOA.rd rfl Rd.mv ?_
        refine XOA.rd rfl Rd.mv ?_
        refine XOA.rd rfl (Rd.lenSlice (tyrow rfl) rfl rfl) ?_
        refine XOA.rd rfl (Rd.lss rfl rfl) ?_
        refine XOA.nil ?_
        refine DA.thn_normal ?_
        refine XA.condp rfl (fun hil => ?_) (fun hil => ?_)
        · have hil : i < L.length := by omega
          obtain ⟨y, hy⟩ : ∃ y, L[i]? = some y := ⟨_, List.getElem?_eq_getElem hil⟩
          obtain ⟨g', o', row', rfl, ⟨rfl, hy8⟩, hrl', hrow'⟩ := hpl.at hy
          obtain ⟨g'', o'', row'', rfl, ⟨rfl, -⟩, hrl'', hrow''⟩ := hpl2.at hy
          have q0 : PRow σ4 g' (o' + i * 9) [i64 y.n] := hrow'.sub (j := 0) rfl
          have q1 : PRow σ4 g' (o' + i * 9 + 1) (ints y.w) := hrow'.sub (j := 1) (take_eq (us := ints y.w) rfl)
          have z0 : PRow σ4 g'' (o'' + i * 9) [i64 y.n] := hrow''.sub (j := 0) rfl
          have z1 : PRow σ4 g'' (o'' + i * 9 + 1) (ints y.w) := hrow''.sub (j := 1) (take_eq (us := ints y.w) rfl)
          have kn : ¬ (y.n ≠ y.n) := fun q => q rfl
          have kw : ¬ (y.w ≠ y.w) := fun q => q rfl
          refine XA.skip ?_
          refine DA.thn_normal ?_
          refine XA.seq ?_
          refine XA.block ?_
          refine XA.seq ?_
          refine XA.draw (by kernel_rfl) _ _ [] [(0, .pu), (1, .pu), (2, .pu), (3, .pu), (4, .rd), (5, .pu), (6, .pu), (7, .pu), (8, .pu), (9, .rd), (10, .pu), (11, .pu), (12, .pu), (13, .pu), (14, .pu), (15, .pu), (16, .rd), (17, .pu), (18, .pu), (19, .pu), (20, .pu), (21, .rd), (22, .pu), (23, .pu)] (by kernel_rfl) (PH.sub.refl _) (Ent.nil _) ?_
          refine XPA.pu rfl rfl Gd.free Rd.mv ?_
          refine XPA.pu rfl rfl Gd.free Rd.mv ?_
          refine XPA.pu rfl rfl Gd.free (Rd.ixS rfl rfl) ?_
          refine XPA.pu rfl rfl Gd.free (Rd.fA rfl) ?_
          refine XPA.rd rfl rfl Gd.free (Rd.ldC rfl (tyrow rfl) rfl) ?_
          refine XPA.pu rfl rfl Gd.free Rd.mv ?_
          refine XPA.pu rfl rfl Gd.free Rd.mv ?_
          refine XPA.pu rfl rfl Gd.free (Rd.ixS rfl rfl) ?_
          refine XPA.pu rfl rfl Gd.free (Rd.fA rfl) ?_
          refine XPA.rd rfl rfl Gd.free (Rd.ldC rfl (tyrow rfl) rfl) ?_
          refine XPA.pu rfl rfl Gd.free (Rd.neq rfl rfl) ?_
          refine XPA.pu rfl rfl Gd.free Rd.mv ?_
          first | refine XPA.puG rfl rfl Rd.mv ?_ | refine XPA.puOffG rfl rfl ?_
          first | refine XPA.puG rfl rfl Rd.mv ?_ | refine XPA.puOffG rfl rfl ?_
          first | refine XPA.puG rfl rfl (Rd.ixS rfl rfl) ?_ | refine XPA.puOffG rfl rfl ?_
          first | refine XPA.puG rfl rfl (Rd.fA rfl) ?_ | refine XPA.puOffG rfl rfl ?_
          first | refine XPA.rdG rfl rfl (Rd.ldA rfl) ?_ | refine XPA.offG rfl rfl ?_
          first | refine XPA.puG rfl rfl Rd.mv ?_ | refine XPA.puOffG rfl rfl ?_
          first | refine XPA.puG rfl rfl Rd.mv ?_ | refine XPA.puOffG rfl rfl ?_
          first | refine XPA.puG rfl rfl (Rd.ixS rfl rfl) ?_ | refine XPA.puOffG rfl rfl ?_
          first | refine XPA.puG rfl rfl (Rd.fA rfl) ?_ | refine XPA.puOffG rfl rfl ?_
          first | refine XPA.rdG rfl rfl (Rd.ldA rfl) ?_ | refine XPA.offG rfl rfl ?_
          first | refine XPA.puG rfl rfl (Rd.neqWords (tyrow rfl) rfl (tyrow rfl) rfl rfl (by kernel_rfl) rfl rfl (by first | assumption | rfl | (simp; (first | done | fail)) | (simp [*]; (first | done | fail))) (by first | assumption | rfl | (simp; (first | done | fail)) | (simp [*]; (first | done | fail)))) ?_ | refine XPA.puOffG rfl rfl ?_
          refine XPA.pu rfl rfl Gd.free (by first | exact Rd.pT rfl | exact Rd.pF rfl | exact Rd.pP rfl) ?_
          refine XPA.nil ?_
          refine DA.thn_normal ?_
          refine XA.condF rfl (decide_eq_false kw) ?_
          refine XA.skip ?_
          refine DA.inb_normal ?_
          refine DA.thn_normal ?_
          refine XA.region ?_
          refine XOA.rd rfl Rd.mv ?_
          refine XOA.rd rfl (by first | exact Rd.adi rfl rfl | exact Rd.add rfl rfl) ?_
          refine XOA.rd rfl Rd.asg ?_
          refine XOA.nil ?_
          refine DA.thn_normal ?_
          refine ⟨(Keep.upd (Keep.upd (Keep.upd (Keep.upd (Keep.upd (Keep.upd (Keep.upd (Keep.upd (Keep.upd (Keep.upd (Keep.upd (Keep.upd (Keep.upd (Keep.upd (Keep.upd (Keep.upd (Keep.upd (Keep.upd (Keep.upd (Keep.upd (Keep.upd (Keep.upd (Keep.upd (Keep.upd (Keep.upd (Keep.upd (Keep.upd (Keep.upd (Keep.upd (Keep.upd (Keep.upd (Keep.upd (Keep.hav (Keep.hav (Keep.hav (Keep.refl _ _) rfl) rfl) rfl) rfl) rfl) rfl) rfl) rfl) rfl) rfl) rfl) rfl) rfl) rfl) rfl) rfl) rfl) rfl) rfl) rfl) rfl) rfl) rfl) rfl) rfl) rfl) rfl) rfl) rfl) rfl) rfl) rfl) rfl) rfl) rfl), i + 1, _, (by (repeat (first | exact trivial | refine ⟨rfl, ?_⟩ | refine ⟨Eq.trans rfl (congrArg Value.bool hmat.symm), ?_⟩)); (first | done | fail)), ?_, ⟨rfl, hil, rfl⟩, (by omega)⟩
          · exact (by (repeat (first | exact Ent.nil _ | (apply Ent.sel; focus (first | ((repeat (first | with_reducible exact Sel.head | apply Sel.tail)); done) | ((repeat (first | exact Sel.head | apply Sel.tail)); done))) | apply Ent.selNil | apply Ent.selEmp)); (first | done | fail))
        refine XA.exit ?_
        refine DA.thn_exit ?_
        refine DA.thn_exit ?_
        refine DA.inb_same ?_
        refine DA.thn_normal ?_
        refine XA.seq ?_
        refine XA.seq ?_
        refine XA.region ?_
        refine XOA.rd rfl (Rd.fA rfl) ?_
        refine XOA.rd rfl (Rd.ldC rfl (tyrow rfl) rfl) ?_
        refine XOA.rd rfl (Rd.eql rfl rfl) ?_
        refine XOA.nil ?_
        refine DA.thn_normal ?_
        refine XA.condp rfl (fun k1 => ?_) (fun k1 => ?_)
        · 
          refine XA.seq ?_
          refine XA.region ?_
          refine XOA.rd rfl (Rd.ldC rfl (tyrow rfl) rfl) ?_
          refine XOA.rd rfl Rd.mv ?_
          refine XOA.rd rfl (Rd.fA rfl) ?_
          refine XOA.rd rfl (Rd.ldC rfl (tyrow rfl) rfl) ?_
          refine XOA.wr0 rfl (WrA.cE (vcommit_yes σ4 g27 v _ L xD hpl2 hLc (by omega) (by rw [hvg]; exact hg0) (by rw [hvg]; omega)) rfl) ?_
          rintro _ _ _ ⟨_, ⟨rfl, rfl, rfl⟩, rfl⟩
          refine XOA.cl ?_
          refine XOA.rd rfl Rd.mv ?_
          refine XOA.rd rfl (Rd.extract rfl rfl) ?_
          refine XOA.rd rfl (Rd.extract rfl rfl) ?_
          refine XOA.rd rfl Rd.asg ?_
          refine XOA.rd rfl Rd.asg ?_
          refine XOA.nil ?_
          refine DA.thn_normal ?_
          refine XA.seq ?_
          refine XA.seq ?_
          refine XA.region ?_
          refine XOA.rd rfl (Rd.ldC rfl (tyrow rfl) rfl) ?_
          refine XOA.rd rfl (Rd.fA rfl) ?_
          refine XOA.rd rfl (Rd.ldC rfl (tyrow rfl) rfl) ?_
          refine XOA.wr0 rfl (WrA.cE (sync_a σ4 b sb db d s inn dt pg C xD hrel.good (by omega) hxD hM) rfl) ?_
          rintro _ σ5 _ ⟨_, ⟨j, hj1, hj2, hj3, rfl, hs5, rfl⟩, rfl⟩
          refine XOA.cl ?_
          rw [← hL] at hj1 hj2 hj3 ⊢
          have hs25 := hs24.trans hs5
          have hjD : j = L.length + 5 ↔ (xD < 0 ∨ (L.length : Int) + 4 < xD) := by
            constructor
            · intro h
              rcases Int.lt_or_le xD 0 with h2 | h2
              · exact .inl h2
              · right
                have := hj3 h xD.toNat
                omega
            · intro h
              rcases Nat.lt_or_ge j (L.length + 5) with h2 | h2
              · have := hj2 h2; omega
              · omega
          by_cases hj : j = L.length + 5
          · have hDD := hjD.1 hj
            rw [decide_eq_true hDD, decide_eq_true hj, if_pos hj, if_pos hj, if_pos hDD]
            subst hj
            have hspl : splice (bools dt) 0 (bools noB) = bools noB := splice_all (by rw [hbl]; rfl)
            have hfit : 0 + ty84.size ≤ (bools dt).length := by rw [hbl]; decide
            have hrel' := hrel.done hLw hL14 hLn
            have hcd := page_new hLn (commit_done hrel.good hLw hL14 hLn).2
            rw [hL] at hcd
            have hM' := (hM.sync hcd).1
            rw [← hL] at hM'
            refine XOA.rd rfl Rd.mv ?_
            refine XOA.rd rfl (Rd.neqb (tyrow rfl) rfl rfl rfl) ?_
            refine XOA.nil ?_
            refine DA.thn_normal ?_
            refine XA.condF rfl rfl ?_
            refine XA.skip ?_
            refine DA.thn_normal ?_
            refine XA.seq ?_
            refine XA.region ?_
            refine XOA.rd rfl Rd.mv ?_
            refine XOA.nil ?_
            refine DA.thn_normal ?_
            refine XA.condT rfl rfl ?_
            refine XA.seq ?_
            refine XA.region ?_
            refine XOA.rd rfl (Rd.blA (fun _ _ => tyrow) rfl rfl rfl) ?_
            refine XOA.wr0 rfl (WrA.st (tyrow rfl) rfl) ?_
            rintro _ _ _ ⟨rfl, rfl, rfl⟩
            refine XOA.nil ?_
            refine DA.thn_normal ?_
            refine XA.exit ?_
            refine DA.thn_exit ?_
            refine DA.inb_other rfl ?_
            refine DA.thn_exit ?_
            refine DA.thn_exit ?_
            refine DA.inb_same ?_
            refine DA.thn_normal ?_
            refine XA.region ?_
            refine XOA.rd rfl Rd.mv ?_
            refine XOA.rd rfl (by first | exact Rd.adi rfl rfl | exact Rd.add rfl rfl) ?_
            refine XOA.rd rfl Rd.asg ?_
            refine XOA.nil ?_
            refine DA.thn_normal ?_
            refine ⟨(Keep.upd (Keep.upd (Keep.upd (Keep.updN (Keep.upd (Keep.upd (Keep.upd (Keep.upd (Keep.updO (Keep.upd (Keep.upd (Keep.upd (Keep.upd (Keep.upd (Keep.upd (Keep.upd (Keep.upd (Keep.updO (Keep.upd (Keep.upd (Keep.upd (Keep.upd (Keep.upd (Keep.upd (Keep.upd (Keep.upd (Keep.upd (Keep.upd (Keep.upd (Keep.upd (Keep.hav (Keep.hav (Keep.hav (Keep.upd (Keep.upd (Keep.upd (Keep.upd (Keep.upd (Keep.upd (Keep.upd (Keep.upd (Keep.upd (Keep.upd (Keep.hav (Keep.hav (Keep.hav (Keep.upd (Keep.upd (Keep.updO (Keep.upd (Keep.upd (Keep.upd (Keep.hav (Keep.hav (Keep.upd (Keep.upd (Keep.upd (Keep.upd (Keep.upd (Keep.upd (Keep.updN (Keep.updO (Keep.upd (Keep.upd (Keep.upd (Keep.upd (Keep.upd (Keep.upd (Keep.upd (Keep.upd (Keep.upd (Keep.hav (Keep.hav (Keep.hav (Keep.refl _ _) rfl) rfl) rfl) rfl) rfl) rfl) rfl) rfl) rfl) rfl) rfl) rfl) rfl)) rfl) rfl) rfl) rfl) rfl) rfl) rfl) rfl) rfl) rfl) rfl) rfl) rfl) rfl) rfl) rfl) rfl) rfl) rfl) rfl) rfl) rfl) rfl) rfl) rfl) rfl) rfl) rfl) rfl) rfl) rfl) rfl) rfl) rfl) rfl) rfl) rfl) rfl) rfl) rfl) rfl) rfl) rfl) rfl) rfl) rfl) rfl) rfl) rfl) rfl) rfl) rfl) rfl) rfl) rfl) rfl)) rfl) rfl) rfl), k + 1, _, (by (repeat (first | exact trivial | refine ⟨rfl, ?_⟩ | refine ⟨Eq.trans rfl (congrArg Value.bool hmat.symm), ?_⟩)); (first | done | fail)), ?_, ⟨hs2.trans hs25, hlt, comD d s L (L.length + 5), nextS s L, vdone v L, inn, noB, pg, C, b, sb, hrel', by simp only [nextS]; omega, hM', rfl⟩, (by omega)⟩
            · exact (by (repeat (first | exact Ent.nil _ | (apply Ent.sel; focus (first | ((repeat (first | with_reducible exact Sel.head | apply Sel.tail)); done) | ((repeat (first | exact Sel.head | apply Sel.tail)); done))) | apply Ent.selNil | apply Ent.selEmp)); (first | done | fail))
          · have hDD : ¬ (xD < 0 ∨ (L.length : Int) + 4 < xD) := fun q => hj (hjD.2 q)
            rw [decide_eq_false hDD, decide_eq_false hj, if_neg hj, if_neg hj, if_neg hDD]
            have hDj := hj2 (by omega)
            obtain ⟨s', hg', hrel'⟩ := hrel.part hLw hL14 hLn (j := j) (by omega) (bitOf xm)
            rw [← hDj] at hrel'
            refine XOA.rd rfl Rd.mv ?_
            refine XOA.rd rfl (Rd.neqb (tyrow rfl) rfl rfl rfl) ?_
            refine XOA.nil ?_
            refine DA.thn_normal ?_
            refine XA.condF rfl rfl ?_
            refine XA.skip ?_
            refine DA.thn_normal ?_
            refine XA.seq ?_
            refine XA.region ?_
            refine XOA.rd rfl Rd.mv ?_
            refine XOA.nil ?_
            refine DA.thn_normal ?_
            refine XA.condF rfl rfl ?_
            refine XA.skip ?_
            refine DA.thn_normal ?_
            refine XA.seq ?_
            refine XA.region ?_
            refine XOA.rd rfl (Rd.ldC rfl (tyrow rfl) rfl) ?_
            refine XOA.rd rfl (Rd.fA rfl) ?_
            refine XOA.rd rfl (Rd.ldC rfl (tyrow rfl) rfl) ?_
            refine XOA.wr0 rfl (WrA.cE (crash_a σ5 db _ xm (comD_wait hrel.good hL14 j) hxm0 hxm1) rfl) ?_
            rintro _ _ _ ⟨_, ⟨rfl, rfl, rfl⟩, rfl⟩
            refine XOA.cl ?_
            refine XOA.nil ?_
            refine DA.thn_normal ?_
            refine XA.seq ?_
            refine XA.region ?_
            refine XOA.rd rfl (Rd.ldC rfl (tyrow rfl) rfl) ?_
            refine XOA.rd rfl (Rd.fA rfl) ?_
            refine XOA.rd rfl (Rd.ldC rfl (tyrow rfl) rfl) ?_
            refine XOA.wr0 rfl (WrA.cE (vcrash_a σ5 g27 (vpart v L xD) xm hxm0 hxm1 (by show 0 ≤ v.gen; omega) (by show v.gen < _; omega)) rfl) ?_
            rintro _ _ _ ⟨_, ⟨rfl, rfl, rfl⟩, rfl⟩
            refine XOA.cl ?_
            refine XOA.nil ?_
            refine DA.thn_normal ?_
            refine XA.region ?_
            refine XOA.rd rfl Rd.mv ?_
            refine XOA.wr0 rfl (WrA.cV (first := []) (cap := [ptr g6, ptr g4, ptr g7, ptr g3, ptr g5]) rfl (wake_a σ5 g3 g4 g5 g6 g7 g31 g27 db b _ _ _ dt C.flatten hfl hM.ld hrel') rfl) ?_
            rintro _ _ _ ⟨_, ⟨rfl, rfl, b', sb', rfl⟩, rfl⟩
            refine XOA.cl ?_
            refine XOA.nil ?_
            refine DA.inb_normal ?_
            refine DA.thn_normal ?_
            refine ⟨(Keep.updO (Keep.upd (Keep.updO (Keep.upd (Keep.upd (Keep.upd (Keep.updO (Keep.upd (Keep.upd (Keep.upd (Keep.upd (Keep.upd (Keep.upd (Keep.updO (Keep.upd (Keep.upd (Keep.upd (Keep.upd (Keep.upd (Keep.upd (Keep.upd (Keep.upd (Keep.updO (Keep.upd (Keep.upd (Keep.upd (Keep.upd (Keep.upd (Keep.upd (Keep.upd (Keep.upd (Keep.upd (Keep.upd (Keep.upd (Keep.upd (Keep.hav (Keep.hav (Keep.hav (Keep.upd (Keep.upd (Keep.upd (Keep.upd (Keep.upd (Keep.upd (Keep.upd (Keep.upd (Keep.upd (Keep.upd (Keep.hav (Keep.hav (Keep.hav (Keep.upd (Keep.upd (Keep.updO (Keep.upd (Keep.upd (Keep.upd (Keep.hav (Keep.hav (Keep.upd (Keep.upd (Keep.upd (Keep.upd (Keep.refl _ _) rfl) rfl) rfl) rfl) rfl) rfl) rfl) rfl) rfl) rfl) rfl) rfl) rfl) rfl) rfl) rfl) rfl) rfl) rfl) rfl) rfl) rfl) rfl) rfl) rfl) rfl) rfl) rfl) rfl) rfl) rfl) rfl) rfl) rfl) rfl) rfl) rfl) rfl) rfl) rfl) rfl) rfl) rfl) rfl) rfl) rfl) rfl) rfl) rfl) rfl) rfl) rfl) rfl) rfl) rfl) rfl) rfl) rfl) rfl) rfl) rfl) rfl) rfl), (), _, (by (repeat (first | exact trivial | refine ⟨rfl, ?_⟩ | refine ⟨Eq.trans rfl (congrArg Value.bool hmat.symm), ?_⟩)); (first | done | fail)), ?_, ⟨hs25, _, s', _, noB, noB, noP, pagesC _ s', b', sb', hrel', by omega, MOk.new hrel'.good.dok s', rfl⟩⟩
            · exact (by (repeat (first | exact Ent.nil _ | (apply Ent.sel; focus (first | ((repeat (first | with_reducible exact Sel.head | apply Sel.tail)); done) | ((repeat (first | exact Sel.head | apply Sel.tail)); done))) | apply Ent.selNil | apply Ent.selEmp)); (first | done | fail))
        · 
          have hrel' := hrel.crash (bitOf xm)
          refine XA.skip ?_
          refine DA.thn_normal ?_
          refine XA.seq ?_
          refine XA.region ?_
          refine XOA.rd rfl (Rd.ldC rfl (tyrow rfl) rfl) ?_
          refine XOA.rd rfl (Rd.fA rfl) ?_
          refine XOA.rd rfl (Rd.ldC rfl (tyrow rfl) rfl) ?_
          refine XOA.wr0 rfl (WrA.cE (crash_a σ4 db d xm hrel.good.wlen' hxm0 hxm1) rfl) ?_
          rintro _ _ _ ⟨_, ⟨rfl, rfl, rfl⟩, rfl⟩
          refine XOA.cl ?_
          refine XOA.nil ?_
          refine DA.thn_normal ?_
          refine XA.seq ?_
          refine XA.region ?_
          refine XOA.rd rfl (Rd.ldC rfl (tyrow rfl) rfl) ?_
          refine XOA.rd rfl (Rd.fA rfl) ?_
          refine XOA.rd rfl (Rd.ldC rfl (tyrow rfl) rfl) ?_
          refine XOA.wr0 rfl (WrA.cE (vcrash_a σ4 g27 v xm hxm0 hxm1 (by omega) (by omega)) rfl) ?_
          rintro _ _ _ ⟨_, ⟨rfl, rfl, rfl⟩, rfl⟩
          refine XOA.cl ?_
          refine XOA.nil ?_
          refine DA.thn_normal ?_
          refine XA.region ?_
          refine XOA.rd rfl Rd.mv ?_
          refine XOA.wr0 rfl (WrA.cV (first := []) (cap := [ptr g6, ptr g4, ptr g7, ptr g3, ptr g5]) rfl (wake_a σ4 g3 g4 g5 g6 g7 g31 g27 db b _ _ _ dt C.flatten hfl hM.ld hrel') rfl) ?_
          rintro _ _ _ ⟨_, ⟨rfl, rfl, b', sb', rfl⟩, rfl⟩
          refine XOA.cl ?_
          refine XOA.nil ?_
          refine DA.inb_normal ?_
          refine DA.thn_normal ?_
          refine ⟨(Keep.updO (Keep.upd (Keep.updO (Keep.upd (Keep.upd (Keep.upd (Keep.updO (Keep.upd (Keep.upd (Keep.upd (Keep.upd (Keep.upd (Keep.upd (Keep.upd (Keep.upd (Keep.upd (Keep.upd (Keep.upd (Keep.hav (Keep.hav (Keep.hav (Keep.upd (Keep.upd (Keep.upd (Keep.upd (Keep.upd (Keep.upd (Keep.upd (Keep.upd (Keep.upd (Keep.upd (Keep.hav (Keep.hav (Keep.hav (Keep.upd (Keep.upd (Keep.updO (Keep.upd (Keep.upd (Keep.upd (Keep.hav (Keep.hav (Keep.upd (Keep.upd (Keep.upd (Keep.upd (Keep.refl _ _) rfl) rfl) rfl) rfl) rfl) rfl) rfl) rfl) rfl) rfl) rfl) rfl) rfl) rfl) rfl) rfl) rfl) rfl) rfl) rfl) rfl) rfl) rfl) rfl) rfl) rfl) rfl) rfl) rfl) rfl) rfl) rfl) rfl) rfl) rfl) rfl) rfl) rfl) rfl) rfl) rfl) rfl) rfl) rfl) rfl) rfl), (), _, (by (repeat (first | exact trivial | refine ⟨rfl, ?_⟩ | refine ⟨Eq.trans rfl (congrArg Value.bool hmat.symm), ?_⟩)); (first | done | fail)), ?_, ⟨hs24, _, s, _, noB, noB, noP, pagesC _ s, b', sb', hrel', by omega, MOk.new hrel'.good.dok s, rfl⟩⟩
          · exact (by (repeat (first | exact Ent.nil _ | (apply Ent.sel; focus (first | ((repeat (first | with_reducible exact Sel.head | apply Sel.tail)); done) | ((repeat (first | exact Sel.head | apply Sel.tail)); done))) | apply Ent.selNil | apply Ent.selEmp)); (first | done | fail))
      refine XA.skip ?_
      refine DA.inb_normal ?_
      refine DA.thn_normal ?_
      refine ⟨(Keep.upd (Keep.hav (Keep.hav (Keep.upd (Keep.upd (Keep.upd (Keep.upd (Keep.refl _ _) rfl) rfl) rfl) rfl) rfl) rfl) rfl), (), _, (by (repeat (first | exact trivial | refine ⟨rfl, ?_⟩ | refine ⟨Eq.trans rfl (congrArg Value.bool hmat.symm), ?_⟩)); (first | done | fail)), ?_, ⟨.refl _, d, s, v, inn, dt, pg, C, b, sb, hrel, by omega, hM, rfl⟩⟩
      · exact (by (repeat (first | exact Ent.nil _ | (apply Ent.sel; focus (first | ((repeat (first | with_reducible exact Sel.head | apply Sel.tail)); done) | ((repeat (first | exact Sel.head | apply Sel.tail)); done))) | apply Ent.selNil | apply Ent.selEmp)); (first | done | fail))
    clear hbl hfl hM hrel hgk hg0 hvg
    rintro - δ4 σ6 _ ⟨hs6, d6, s6, v6, inn6, dt6, pg6, C6, b6, sb6, hrel6, hg6, hM6, rfl⟩
    dsimp only [ovr, List.foldl]
    refine DA.thn_normal ?_
    refine XA.seq ?_
    refine XA.draw (by kernel_rfl) _ _ [7] [(0, .rd), (1, .pu), (2, .rd), (4, .rd), (5, .pu), (6, .rd), (3, .wr), (7, .wr), (8, .pu)] (by kernel_rfl) (PH.sub.refl _) (Ent.sel (R := blk g5 _ _) (by ((repeat (first | with_reducible exact Sel.head | apply Sel.tail)); (first | done | fail))) (Ent.sel (R := blk g10 _ _) (by ((repeat (first | with_reducible exact Sel.head | apply Sel.tail)); (first | done | fail))) (Ent.sel (R := blk g6 _ _) (by ((repeat (first | with_reducible exact Sel.head | apply Sel.tail)); (first | done | fail))) (Ent.nil _)))) ?_
    refine XPA.rd rfl rfl Gd.free (Rd.ldC rfl (tyrow rfl) rfl) ?_
    refine XPA.pu rfl rfl Gd.free (Rd.fA rfl) ?_
    refine XPA.rd rfl rfl Gd.free (Rd.ldC rfl (tyrow rfl) rfl) ?_
    refine XPA.rd rfl rfl Gd.free (Rd.ldC rfl (tyrow rfl) rfl) ?_
    refine XPA.pu rfl rfl Gd.free (Rd.fA rfl) ?_
    refine XPA.rd rfl rfl Gd.free (Rd.ldC rfl (tyrow rfl) rfl) ?_
    refine XPA.wr0 rfl rfl Gd.free (WrA.cE (load_a σ6 b6 sb6 db d6 s6 inn6 dt6 pg6 C6 xat hrel6.good.dok hrel6.good.wlen' hM6) rfl) ?_
    rintro _ _ _ ⟨_, ⟨rfl, rfl, inn7, pg7, hM7, rfl⟩, rfl⟩
    refine stays (XPA.cl ?_)
    refine XPA.wrZ0 rfl rfl Gd.free (by kernel_rfl) (WrA.cE (word_a σ6 g31 C6.flatten xat (flat_len hM6.cc)) rfl) ?_
    rintro _ _ _ ⟨_, ⟨rfl, rfl, rfl⟩, rfl⟩
    refine XPA.cl ?_
    rw [wordC_flat hM6.cc]
    have kw : ¬ (wordC C6 xat ≠ wordC C6 xat) := fun q => q rfl
    refine XPA.pu rfl rfl Gd.free (Rd.neq rfl rfl) ?_
    refine XPA.nil ?_
    refine DA.thn_normal ?_
    refine XA.condF rfl (decide_eq_false kw) ?_
    refine XA.skip ?_
    refine DA.inb_normal ?_
    refine DA.thn_normal ?_
    refine XA.region ?_
    refine XOA.rd rfl Rd.mv ?_
    refine XOA.rd rfl (by first | exact Rd.adi rfl rfl | exact Rd.add rfl rfl) ?_
    refine XOA.rd rfl Rd.asg ?_
    refine XOA.nil ?_
    refine DA.thn_normal ?_
    refine ⟨(Keep.upd (Keep.upd (Keep.upd (Keep.upd (Keep.updO (Keep.updO (Keep.upd (Keep.upd (Keep.upd (Keep.upd (Keep.upd (Keep.upd (Keep.hav (Keep.hav (Keep.hav (Keep.upd (Keep.upd (Keep.updN (Keep.updO (Keep.upd (Keep.upd (Keep.upd (Keep.upd (Keep.upd (Keep.upd (Keep.upd (Keep.upd (Keep.upd (Keep.hav (Keep.hav (Keep.hav (Keep.refl _ _) rfl) rfl) rfl) rfl) rfl) rfl) rfl) rfl) rfl) rfl) rfl) rfl) rfl)) rfl) rfl) rfl) rfl) rfl) rfl) rfl) rfl) rfl) rfl) rfl) rfl) rfl) rfl) rfl) rfl) rfl), k + 1, _, (by (repeat (first | exact trivial | refine ⟨rfl, ?_⟩ | refine ⟨Eq.trans rfl (congrArg Value.bool hmat.symm), ?_⟩)); (first | done | fail)), ?_, ⟨hs2.trans hs6, hlt, d6, s6, v6, inn7, dt6, pg7, C6, b6, sb6, hrel6, by omega, hM7, rfl⟩, (by omega)⟩
    · exact (by (repeat (first | exact Ent.nil _ | (apply Ent.sel; focus (first | ((repeat (first | with_reducible exact Sel.head | apply Sel.tail)); done) | ((repeat (first | exact Sel.head | apply Sel.tail)); done))) | apply Ent.selNil | apply Ent.selEmp)); (first | done | fail))
  refine XA.exit ?_
  refine DA.thn_exit ?_
  refine DA.thn_exit ?_
  refine DA.inb_same ?_
  refine DA.thn_normal ?_
  refine XA.seq ?_
  first | refine XA.opn (R := Vault g27 v) (by ((repeat (first | with_reducible exact Sel.head | apply Sel.tail)); (first | done | fail))) (Vault.opn) ?_ | refine XOA.opn (R := Vault g27 v) (by ((repeat (first | with_reducible exact Sel.head | apply Sel.tail)); (first | done | fail))) (Vault.opn) ?_ | refine DA.opn (R := Vault g27 v) (by ((repeat (first | with_reducible exact Sel.head | apply Sel.tail)); (first | done | fail))) (Vault.opn) ?_
  rintro ⟨⟩ hok
  first | refine XA.cl ?_ | refine XOA.cl ?_ | refine DA.cl ?_
  refine XA.frz (R := blk g31 _ _) (by ((repeat (first | with_reducible exact Sel.head | apply Sel.tail)); (first | done | fail))) blk_frz blk_frz_mono ?_
  rintro σ3 ⟨⟩ hnr hs3
  have hnow : PInts σ3 (.slice (some ⟨g31, 0, none⟩) 112 112) C.flatten := ⟨some ⟨g31, 0, none⟩, 112, by rw [hfl], by rw [hfl]; exact Nat.le_refl _, by decide, fun _ => ⟨g31, 0, rfl, hnr⟩⟩
  rw [hvg]
  refine XA.draw (by kernel_rfl) _ _ [] [(0, .rd), (2, .rd), (1, .wr), (3, .wr), (4, .pu), (5, .rd), (6, .pu), (7, .pu), (10, .rd), (11, .pu), (12, .pu), (13, .rd), (8, .wr), (9, .wr), (14, .pu), (15, .pu), (16, .pu)] (by kernel_rfl) (PH.sub.refl _) (Ent.sel (R := blk g5 _ _) (by ((repeat (first | with_reducible exact Sel.head | apply Sel.tail)); (first | done | fail))) (Ent.sel (R := blk g6 _ _) (by ((repeat (first | with_reducible exact Sel.head | apply Sel.tail)); (first | done | fail))) (Ent.sel (R := blk g4 _ _) (by ((repeat (first | with_reducible exact Sel.head | apply Sel.tail)); (first | done | fail))) (Ent.sel (R := blk g27 _ _) (by ((repeat (first | with_reducible exact Sel.head | apply Sel.tail)); (first | done | fail))) (Ent.nil _))))) ?_
  refine XPA.rd rfl rfl Gd.free (Rd.ldC rfl (tyrow rfl) rfl) ?_
  refine XPA.rd rfl rfl Gd.free (Rd.ldC rfl (tyrow rfl) rfl) ?_
  refine XPA.wr0 rfl rfl Gd.free (WrA.cE (all_a σ3 b sb db d s inn dt pg C hrel.good.dok hrel.good.wlen' hM) rfl) ?_
  rintro va σ5 _ ⟨_, ⟨hva, hs5, inn9, pg9, h9, rfl⟩, rfl⟩
  refine stays (XPA.cl ?_)
  obtain ⟨pa, ca, rfl, -, -⟩ := hva.shape
  refine XPA.wr0 rfl rfl Gd.free (WrA.cE (same_a σ5 _ _ C.flatten C.flatten hva (hnow.mono hs5)) rfl) ?_
  rintro _ _ _ ⟨_, ⟨rfl, rfl, rfl⟩, rfl⟩
  refine stays (XPA.cl ?_)
  rw [decide_eq_true (rfl : C.flatten = C.flatten)]
  have hsb : (mcells sb inn9 dt pg9)[0]? = some (ptr sb) := rfl
  refine XPA.pu rfl rfl Gd.free Rd.mv ?_
  first | refine XPA.rdG rfl rfl (Rd.ldC rfl (tyrow rfl) rfl) ?_ | refine XPA.offG rfl rfl ?_
  first | refine XPA.puG rfl rfl (Rd.nilCheck rfl) ?_ | refine XPA.puOffG rfl rfl ?_
  first | refine XPA.puG rfl rfl (Rd.fA rfl) ?_ | refine XPA.puOffG rfl rfl ?_
  first | refine XPA.rdG rfl rfl (Rd.ldC rfl (tyrow rfl) rfl) ?_ | refine XPA.offG rfl rfl ?_
  first | refine XPA.puG rfl rfl (Rd.nilCheck rfl) ?_ | refine XPA.puOffG rfl rfl ?_
  first | refine XPA.puG rfl rfl (Rd.fA rfl) ?_ | refine XPA.puOffG rfl rfl ?_
  first | refine XPA.rdG rfl rfl (Rd.ldC rfl (tyrow rfl) rfl) ?_ | refine XPA.offG rfl rfl ?_
  refine XPA.wr0 rfl rfl (by first | exact Gd.free | exact Gd.isB rfl rfl rfl | (apply Gd.isQ; rfl; rfl; exact (by first | exact (rfl : decide _ = true) | exact (rfl : decide _ = false) | (refine decide_eq_true ?_; assumption) | (refine decide_eq_false ?_; assumption) | (refine decide_eq_true ?_; omega) | (refine decide_eq_false ?_; omega)); rfl)) (Rd.toW (Rd.ldC rfl (tyrow rfl) rfl)) ?_
  rintro _ _ _ ⟨rfl, rfl, rfl⟩
  refine stays ?_
  refine XPA.wr0 rfl rfl (by first | exact Gd.free | exact Gd.isB rfl rfl rfl | (apply Gd.isQ; rfl; rfl; exact (by first | exact (rfl : decide _ = true) | exact (rfl : decide _ = false) | (refine decide_eq_true ?_; assumption) | (refine decide_eq_false ?_; assumption) | (refine decide_eq_true ?_; omega) | (refine decide_eq_false ?_; omega)); rfl)) (WrA.cE (gen_a σ5 sb db s) rfl) ?_
  rintro _ _ _ ⟨_, ⟨rfl, rfl, rfl⟩, rfl⟩
  refine stays (XPA.cl ?_)
  first | refine XPA.puG rfl rfl (Rd.eql rfl rfl) ?_ | refine XPA.puOffG rfl rfl ?_
  refine XPA.pu rfl rfl Gd.free (by first | exact Rd.pT rfl | exact Rd.pF rfl | exact Rd.pP rfl) ?_
  refine XPA.pu rfl rfl Gd.free Rd.asg ?_
  refine XPA.nil ?_
  refine DA.thn_normal ?_
  refine XA.ret ?_
  exact bodyA.ret (ResA.one rfl rfl) (Ent.nil _) ⟨congrArg Value.bool (decide_eq_true rfl), ((hs1.trans hs2).trans hs3).trans hs5⟩
end Go.Proofs.Ytplobdiknobhoaa
