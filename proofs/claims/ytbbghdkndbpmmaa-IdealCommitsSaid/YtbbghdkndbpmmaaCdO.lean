/- A program in memory of its own. -/
import Derived.Test.YtbbghdkndbpmmaaCdN
namespace Go.Proofs.Ytbbghdkndbpmmaa
open Go X
set_option maxHeartbeats 1000000
def OwnExOK (x : Ex) : Prop := ∀ (σ : PH) (cs : List Value), ExAt σ cs x → exN x ≤ 1000 →
  CallsA Try.prog 60 #[.agg cs.toArray] σ [] (RetA fun v σ' Γ' => ∃ cs' : List Value, v = .agg cs'.toArray ∧ ExAt σ' cs' x ∧ σ.sub σ' ∧ Γ' = [])
theorem ownExpr_a (x : Ex) : OwnExOK x := by
  refine Ex.ind (P := OwnExOK) ?_ x
  intro op v k l ih σ cs hx hN
  obtain ⟨pl, cl, rfl, ho, hv, hk, hl⟩ := hx.inv
  simp only [Ex.op, Ex.v, Ex.n, Ex.l] at ho hv hk hl ⊢
  clear hx
  have hlen : l.length ≤ 1000 := by have := exsN_len l; rw [exN] at hN; omega
  have hNl : exsN l ≤ 1000 := by rw [exN] at hN; omega
  refine enterA1 Try.func60 rfl rfl rfl ?_
  refine zS ?_; refine zR ?_
  refine XOA.wr0 rfl WrA.bx ?_
  rintro _ _ _ ⟨g1, rfl, rfl, rfl⟩
  refine XOA.wr0 rfl (WrA.alloc (tyrow rfl)) ?_
  rintro _ _ _ ⟨g2, rfl, rfl, rfl⟩
  refine zN ?_; refine zT ?_; refine zS ?_; refine zR ?_; refine zO rfl (Rd.fA rfl) ?_; refine zO rfl (Rd.ldC rfl (tyrow rfl) rfl) ?_; refine zO rfl (Rd.fA rfl) ?_; refine zO rfl (Rd.ldC rfl (tyrow rfl) rfl) ?_; refine zO rfl (Rd.fA rfl) ?_; refine zO rfl (Rd.ldC rfl (tyrow rfl) rfl) ?_
  refine zO rfl (Rd.bl (fun _ _ => tyrow) rfl rfl rfl) ?_
  refine XOA.wr0 rfl (WrA.alloc (tyrow rfl)) ?_
  rintro _ _ _ ⟨g3, rfl, rfl, rfl⟩
  refine XOA.wr0 rfl (WrA.st (tyrow rfl) rfl) ?_
  rintro _ _ _ ⟨rfl, rfl, rfl⟩
  refine zN ?_; refine zT ?_; refine zS ?_; refine zS ?_; refine zR ?_; refine zO rfl Rd.asg ?_; refine zN ?_; refine zT ?_
  refine XA.block ?_
  refine XA.gen [(1, _), (2, _), (3, _), (4, _)] ⟨(by with_reducible (conv => lhs; whnf)), (by with_reducible (conv => lhs; whnf)), (by with_reducible (conv => lhs; whnf)), (by with_reducible (conv => lhs; whnf)), trivial⟩ (fun δ => ?_)
  dsimp only [List.foldl]
  refine XA.loop [(4, 4), (12, 29)] (fun i : Nat => [(4, i64 i)]) (fun i σ' Γ' => σ.sub σ' ∧ i ≤ l.length ∧ ∃ (p : Option Addr) (c : Nat) (rows : List (List Value)), Rows_ 4 ExAt σ' rows (l.take i) ∧ Γ' = [lst 44 4 (.slice p i c) i rows.flatten, blk g3 [i64 op, i64 v, i64 k, .slice p i c] 44, blk g1 [i64 op, i64 v, i64 k, .slice pl l.length cl] 44, blk g2 ty44.zero 44]) (fun i => l.length - i) 0 (by exact ⟨rfl, trivial⟩) (Δ0 := _) ?_ (⟨.refl _, Nat.zero_le _, none, 0, [], Rows_.nil _ _ _, rfl⟩) ?_
  · exact zE
  rintro i δ σ1 _ ⟨hs1, hi, p, c, rows, hrows, rfl⟩
  dsimp only [ovr, List.foldl]
  refine zS ?_; refine zS ?_; refine zR ?_; refine zO rfl Rd.mv ?_; refine zO rfl (Rd.fA rfl) ?_; refine zO rfl (Rd.ldC rfl (tyrow rfl) rfl) ?_; refine zO rfl (Rd.lenSlice (tyrow rfl) rfl rfl) ?_; refine zO rfl (Rd.lss rfl rfl) ?_; refine zN ?_; refine zT ?_
  refine XA.condp rfl (fun hlt => ?_) (fun hlt => ?_)
  · have hlt : i < l.length := by omega
    obtain ⟨x', hx'⟩ : ∃ x', l[i]? = some x' := ⟨_, List.getElem?_eq_getElem hlt⟩
    have hl1 := hl.mono hs1 (fun _ _ h => h.mono hs1)
    obtain ⟨g, o, row, rfl, hrx, hrl, hrow⟩ := hl1.at hx'
    have hNx : exN x' ≤ 1000 := by have := exsN_snoc hx'; have h2 := exsN_app (l.take (i + 1)) (l.drop (i + 1)); rw [List.take_append_drop] at h2; omega
    refine XA.skip ?_
    refine zT ?_; refine zS ?_
    refine XA.block ?_
    refine XA.draw (by kernel_rfl) _ _ [9, 11] [(0, .pu), (1, .rd), (2, .pu), (3, .rd), (4, .pu), (5, .pu), (6, .rd), (7, .wr), (8, .wr), (9, .wr), (10, .pu), (11, .wr)] (by kernel_rfl) (PH.sub.refl _) (Ent.sel (R := blk g3 _ _) (by ((repeat (first | with_reducible exact Sel.head | apply Sel.tail)); (first | done | fail))) (Ent.sel (R := blk g1 _ _) (by ((repeat (first | with_reducible exact Sel.head | apply Sel.tail)); (first | done | fail))) (Ent.nil _))) ?_
    refine XPA.pu rfl rfl Gd.free (Rd.fA rfl) ?_
    refine XPA.rd rfl rfl Gd.free (Rd.ldC rfl (tyrow rfl) rfl) ?_
    refine XPA.pu rfl rfl Gd.free (Rd.fA rfl) ?_
    refine XPA.rd rfl rfl Gd.free (Rd.ldC rfl (tyrow rfl) rfl) ?_
    refine XPA.pu rfl rfl Gd.free Rd.mv ?_
    refine XPA.pu rfl rfl Gd.free (Rd.ixS rfl rfl) ?_
    refine XPA.rd rfl rfl Gd.free (Rd.ldA rfl) ?_
    refine XPA.wr0 rfl rfl Gd.free (WrA.cE (ih x' (List.mem_of_getElem? hx') σ1 row hrx hNx) rfl) ?_
    rintro _ σ2 _ ⟨_, ⟨cs2, rfl, hcs2, hs2, rfl⟩, rfl⟩
    refine stays (XPA.cl ?_)
    have hl2 := hcs2.len
    have hone2 := hcs2.ones
    refine XPA.wr0 rfl rfl Gd.free (WrA.bs1 (tyrow rfl) rfl (tyrow rfl)) ?_
    rintro _ _ _ ⟨g27, rfl, rfl, rfl⟩
    refine stays ?_
    refine XPA.wrZ0 rfl rfl Gd.free (by kernel_rfl) (WrA.ap1 (tyrow rfl) rfl (tyrow rfl) rfl rfl rfl) ?_
    rintro _ _ _ ⟨p28, c28, rfl, rfl, rfl⟩
    refine XPA.pu rfl rfl Gd.free (Rd.fA rfl) ?_
    refine XPA.wrZ0 rfl rfl Gd.free (by kernel_rfl) (WrA.st (tyrow rfl) rfl) ?_
    rintro _ _ _ ⟨rfl, rfl, rfl⟩
    refine XPA.nil ?_
    refine DA.inb_normal ?_
    refine zT ?_; refine zR ?_; refine zO rfl Rd.mv ?_
    refine zO rfl (by first | exact Rd.adi rfl rfl | exact Rd.add rfl rfl) ?_
    refine zO rfl Rd.asg ?_; refine zN ?_; refine zT ?_
    have hnew : Rows_ 4 ExAt σ2 (rows ++ [cs2]) (l.take (i + 1)) := by rw [takeS hx']; exact (hrows.mono (fun _ _ h => h.mono hs2)).snoc hl2 hcs2
    refine ⟨(Keep.upd (Keep.upd (Keep.upd (Keep.updN (Keep.upd (Keep.updO (Keep.updO (Keep.updO (Keep.upd (Keep.upd (Keep.upd (Keep.upd (Keep.upd (Keep.upd (Keep.upd (Keep.upd (Keep.upd (Keep.upd (Keep.upd (Keep.upd (Keep.upd (Keep.hav (Keep.hav (Keep.refl _ _) rfl) rfl) rfl) rfl) rfl) rfl) rfl) rfl) rfl) rfl) rfl) rfl) rfl) rfl) rfl) rfl) rfl) rfl) rfl)) rfl) rfl) rfl), i + 1, _, (by (repeat (first | exact trivial | refine ⟨rfl, ?_⟩ | refine ⟨Eq.trans rfl (congrArg Value.bool hmat.symm), ?_⟩)); (first | done | fail)), ?_, ⟨hs1.trans hs2, hlt, p28, c28, rows ++ [cs2], hnew, rfl⟩, (by omega)⟩
    · rw [flatS]; exact zE
  have hil : i = l.length := by omega
  subst hil
  rw [List.take_length] at hrows
  refine XA.exit ?_
  refine DA.thn_exit ?_
  refine DA.thn_exit ?_
  refine DA.inb_same ?_
  refine zT ?_; refine zS ?_; refine zR ?_; refine zO rfl (Rd.ldA rfl) ?_
  refine XOA.wr0 rfl (WrA.st (tyrow rfl) rfl) ?_
  rintro _ _ _ ⟨rfl, rfl, rfl⟩
  refine zN ?_; refine zT ?_
  refine XA.ret ?_
  refine DA.frz (R := lst 44 4 _ _ _) (by ((repeat (first | with_reducible exact Sel.head | apply Sel.tail)); (first | done | fail))) lst_frz lst_frz_mono ?_
  rintro σ3 ⟨⟩ hf hs3
  have hfin : ExAt σ3 [i64 op, i64 v, i64 k, .slice p l.length c] (.mk op v k l) := ExAt.of ho hv hk ((hrows.mono (fun _ _ h => h.mono hs3)).psl rfl hf)
  exact bodyA.ret (ResA.cell rfl rfl (Ld.atBlk (tyrow rfl) rfl (by ((repeat (first | with_reducible exact Sel.head | apply Sel.tail)); (first | done | fail))) rfl (by first | exact take0 (by first | rfl | assumption | (refine (ints_len _).trans ?_; assumption) | (simp [*]; (first | done | fail))) | assumption | exact take_app (by first | rfl | assumption | (refine (ints_len _).trans ?_; assumption) | (simp [*]; (first | done | fail))) | (conv => lhs; simp only [List.drop_succ_cons, List.drop_zero, List.take_succ_cons, List.take_zero])) (by first | rfl | assumption | (refine (ints_len _).trans ?_; assumption) | (simp [*]; (first | done | fail))))) (Ent.nil _) ⟨_, rfl, hfin, hs1.trans hs3, rfl⟩
def OwnListOK (l : List St) : Prop := ∀ (σ : PH) (sl : Value), PSl 12 StAt σ sl l → stsN l ≤ 1000 →
  CallsA Try.prog 40 #[sl] σ [] (RetA fun v σ' Γ' => ∃ (p : Option Addr) (c : Nat) (rows : List (List Value)), v = .slice p l.length c ∧ Rows_ 12 StAt σ' rows l ∧ σ.sub σ' ∧ Γ' = [lst 46 12 (.slice p l.length c) l.length rows.flatten])
theorem ownList_l (l : List St) (ih : ∀ x ∈ l, OwnListOK x.body ∧ OwnListOK x.els) : OwnListOK l := by
  intro σ sl hl hN
  obtain ⟨pl, cl, rfl, hle, hmx⟩ := hl.shape
  have hlen : l.length ≤ 1000 := by have := stsN_len l; omega
  refine enterA1 Try.func40 rfl rfl rfl ?_
  refine zS ?_; refine zR ?_; refine zO rfl Rd.asg ?_; refine zN ?_; refine zT ?_; refine zS ?_; refine zR ?_; refine zO rfl Rd.asg ?_; refine zN ?_; refine zT ?_; refine zS ?_; refine zS ?_; refine zR ?_; refine zO rfl Rd.asg ?_; refine zN ?_; refine zT ?_
  refine XA.block ?_
  refine XA.gen [(0, _), (2, _), (3, _), (4, _)] ⟨(by with_reducible (conv => lhs; whnf)), (by with_reducible (conv => lhs; whnf)), (by with_reducible (conv => lhs; whnf)), (by with_reducible (conv => lhs; whnf)), trivial⟩ (fun δ => ?_)
  dsimp only [List.foldl]
  refine XA.loop [(3, 48)] (fun q : Nat × (Option Addr × Nat) => [(4, i64 q.1), (3, .slice q.2.1 q.1 q.2.2)]) (fun q σ' Γ' => σ.sub σ' ∧ q.1 ≤ l.length ∧ ∃ (rows : List (List Value)), Rows_ 12 StAt σ' rows (l.take q.1) ∧ Γ' = [lst 46 12 (.slice q.2.1 q.1 q.2.2) q.1 rows.flatten]) (fun q => l.length - q.1) (0, (none, 0)) (by exact ⟨rfl, rfl, trivial⟩) (Δ0 := _) ?_ (⟨.refl _, Nat.zero_le _, [], Rows_.nil _ _ _, rfl⟩) ?_
  · exact zE
  rintro ⟨i, p, c⟩ δ σ1 _ ⟨hs1, hi, rows, hrows, rfl⟩
  dsimp only [ovr, List.foldl]
  have hi : i ≤ l.length := hi
  have hrows : Rows_ 12 StAt σ1 rows (l.take i) := hrows
  refine zS ?_; refine zS ?_; refine zR ?_; refine zO rfl Rd.mv ?_; refine zO rfl Rd.mv ?_; refine zO rfl (Rd.lenSlice (tyrow rfl) rfl rfl) ?_; refine zO rfl (Rd.lss rfl rfl) ?_; refine zN ?_; refine zT ?_
  refine XA.condp rfl (fun hlt => ?_) (fun hlt => ?_)
  · have hlt : i < l.length := by omega
    obtain ⟨x', hx'⟩ : ∃ x', l[i]? = some x' := ⟨_, List.getElem?_eq_getElem hlt⟩
    obtain ⟨ihb, ihe⟩ := ih x' (List.mem_of_getElem? hx')
    have hl1 := hl.mono hs1 (fun _ _ h => h.mono hs1)
    obtain ⟨g, o, row, rfl, hrx, hrl, hrow⟩ := hl1.at hx'
    have hNx : stN x' ≤ 1000 := by have := stsN_snoc hx'; have h2 := stsN_app (l.take (i + 1)) (l.drop (i + 1)); rw [List.take_append_drop] at h2; omega
    have e2 : stN x' = 1 + exN x'.e + exN x'.f + stsN x'.body + stsN x'.els := by cases x'; simp [stN, St.e, St.f, St.body, St.els]
    obtain ⟨pe, de, pf, df, pb, cb, pe', ce, rfl, ho, hv, hxe, hxf, hxb, hxl⟩ := hrx.inv12
    have r0 : PRow σ1 g (o + i * 12) [i64 x'.op] := hrow.sub (j := 0) rfl
    have r1 : PRow σ1 g (o + i * 12 + 1) [i64 x'.v] := hrow.sub (j := 1) rfl
    have r2 : PRow σ1 g (o + i * 12 + 2) [i64 x'.e.op, i64 x'.e.v, i64 x'.e.n, .slice pe x'.e.l.length de] := hrow.sub (j := 2) rfl
    have r6 : PRow σ1 g (o + i * 12 + 6) [i64 x'.f.op, i64 x'.f.v, i64 x'.f.n, .slice pf x'.f.l.length df] := hrow.sub (j := 6) rfl
    have r10 : PRow σ1 g (o + i * 12 + 10) [.slice pb x'.body.length cb] := hrow.sub (j := 10) rfl
    have r11 : PRow σ1 g (o + i * 12 + 11) [.slice pe' x'.els.length ce] := hrow.sub (j := 11) rfl
    refine XA.skip ?_
    refine zT ?_; refine zS ?_
    refine XA.block ?_
    refine XA.draw (by kernel_rfl) _ _ [36, 37] [(0, .pu), (1, .pu), (2, .pu), (3, .pu), (4, .pu), (5, .rd), (6, .pu), (7, .pu), (8, .pu), (9, .pu), (10, .rd), (11, .pu), (12, .pu), (13, .pu), (14, .pu), (15, .rd), (17, .pu), (18, .pu), (19, .pu), (20, .pu), (21, .rd), (23, .pu), (24, .pu), (25, .pu), (26, .pu), (27, .rd), (29, .pu), (30, .pu), (31, .pu), (32, .pu), (33, .rd), (16, .wr), (22, .wr), (28, .wr), (34, .wr), (35, .pu), (36, .wr), (37, .wr), (38, .pu)] (by kernel_rfl) (PH.sub.refl _) (Ent.nil _) ?_
    refine XPA.pu rfl rfl Gd.free Rd.mv ?_
    refine XPA.pu rfl rfl Gd.free Rd.mv ?_
    refine XPA.pu rfl rfl Gd.free Rd.mv ?_
    refine XPA.pu rfl rfl Gd.free (Rd.ixS rfl rfl) ?_
    refine XPA.pu rfl rfl Gd.free (Rd.fA rfl) ?_
    refine XPA.rd rfl rfl Gd.free (Rd.ldC rfl (tyrow rfl) rfl) ?_
    refine XPA.pu rfl rfl Gd.free Rd.mv ?_
    refine XPA.pu rfl rfl Gd.free Rd.mv ?_
    refine XPA.pu rfl rfl Gd.free (Rd.ixS rfl rfl) ?_
    refine XPA.pu rfl rfl Gd.free (Rd.fA rfl) ?_
    refine XPA.rd rfl rfl Gd.free (Rd.ldC rfl (tyrow rfl) rfl) ?_
    refine XPA.pu rfl rfl Gd.free Rd.mv ?_
    refine XPA.pu rfl rfl Gd.free Rd.mv ?_
    refine XPA.pu rfl rfl Gd.free (Rd.ixS rfl rfl) ?_
    refine XPA.pu rfl rfl Gd.free (Rd.fA rfl) ?_
    refine XPA.rd rfl rfl Gd.free (Rd.ldA rfl) ?_
    refine XPA.pu rfl rfl Gd.free Rd.mv ?_
    refine XPA.pu rfl rfl Gd.free Rd.mv ?_
    refine XPA.pu rfl rfl Gd.free (Rd.ixS rfl rfl) ?_
    refine XPA.pu rfl rfl Gd.free (Rd.fA rfl) ?_
    refine XPA.rd rfl rfl Gd.free (Rd.ldA rfl) ?_
    refine XPA.pu rfl rfl Gd.free Rd.mv ?_
    refine XPA.pu rfl rfl Gd.free Rd.mv ?_
    refine XPA.pu rfl rfl Gd.free (Rd.ixS rfl rfl) ?_
    refine XPA.pu rfl rfl Gd.free (Rd.fA rfl) ?_
    refine XPA.rd rfl rfl Gd.free (Rd.ldC rfl (tyrow rfl) rfl) ?_
    refine XPA.pu rfl rfl Gd.free Rd.mv ?_
    refine XPA.pu rfl rfl Gd.free Rd.mv ?_
    refine XPA.pu rfl rfl Gd.free (Rd.ixS rfl rfl) ?_
    refine XPA.pu rfl rfl Gd.free (Rd.fA rfl) ?_
    refine XPA.rd rfl rfl Gd.free (Rd.ldC rfl (tyrow rfl) rfl) ?_
    refine XPA.wr0 rfl rfl Gd.free (WrA.cE (ownExpr_a x'.e σ1 _ hxe (by omega)) rfl) ?_
    rintro _ σ2 _ ⟨_, ⟨cs2, rfl, hcs2, hs2, rfl⟩, rfl⟩
    refine stays (XPA.cl ?_)
    obtain ⟨p2, c2, rfl, -, -, -, -⟩ := hcs2.inv
    refine XPA.wr0 rfl rfl Gd.free (WrA.cE (ownExpr_a x'.f σ2 _ (hxf.mono hs2) (by omega)) rfl) ?_
    rintro _ σ3 _ ⟨_, ⟨cs3, rfl, hcs3, hs3, rfl⟩, rfl⟩
    refine stays (XPA.cl ?_)
    obtain ⟨p3, c3, rfl, -, -, -, -⟩ := hcs3.inv
    have hs13 := hs2.trans hs3
    refine XPA.wr0 rfl rfl Gd.free (WrA.cE (ihb σ3 _ (hxb.mono hs13 (fun _ _ h => h.mono hs13)) (by omega)) rfl) ?_
    rintro _ σ4 _ ⟨_, ⟨p4, c4, rows4, rfl, hrows4, hs4, rfl⟩, rfl⟩
    refine stays (XPA.cl ?_)
    have hs14 := hs13.trans hs4
    refine XPA.wr0 rfl rfl Gd.free (WrA.cE (ihe σ4 _ (hxl.mono hs14 (fun _ _ h => h.mono hs14)) (by omega)) rfl) ?_
    rintro _ σ5 _ ⟨_, ⟨p5, c5, rows5, rfl, hrows5, hs5, rfl⟩, rfl⟩
    refine stays (XPA.cl ?_)
    have hs15 := hs14.trans hs5
    refine XPA.pu rfl rfl Gd.free (Rd.bl (fun _ _ => tyrow) rfl rfl rfl) ?_
    refine XPA.wrZ0 rfl rfl Gd.free (by kernel_rfl) (WrA.bs1 (tyrow rfl) rfl (tyrow rfl)) ?_
    rintro _ _ _ ⟨g47, rfl, rfl, rfl⟩
    refine XPA.wrZ0 rfl rfl Gd.free (by kernel_rfl) (WrA.ap1 (tyrow rfl) rfl (tyrow rfl) rfl rfl rfl) ?_
    rintro _ _ _ ⟨p48, c48, rfl, rfl, rfl⟩
    refine XPA.pu rfl rfl Gd.free Rd.asg ?_
    refine XPA.nil ?_
    refine DA.inb_normal ?_
    refine zT ?_; refine zR ?_
    refine XOA.frz (R := lst 46 12 (.slice p4 x'.body.length c4) _ _) (by ((repeat (first | with_reducible exact Sel.head | apply Sel.tail)); (first | done | fail))) lst_frz lst_frz_mono ?_
    rintro σ6 ⟨⟩ hf6 hs6
    refine XOA.frz (R := lst 46 12 (.slice p5 x'.els.length c5) _ _) (by ((repeat (first | with_reducible exact Sel.head | apply Sel.tail)); (first | done | fail))) lst_frz lst_frz_mono ?_
    rintro σ7 ⟨⟩ hf7 hs7
    have hs57 := hs6.trans hs7
    have hs47 := hs5.trans hs57
    have hs37 := hs4.trans hs47
    have hs27 := hs3.trans hs37
    have hs17 := hs2.trans hs27
    have hst : StAt σ7 [i64 x'.op, i64 x'.v, i64 x'.e.op, i64 x'.e.v, i64 x'.e.n, .slice p2 x'.e.l.length c2, i64 x'.f.op, i64 x'.f.v, i64 x'.f.n, .slice p3 x'.f.l.length c3, .slice p4 x'.body.length c4, .slice p5 x'.els.length c5] x' := by
      have h4 := (hrows4.mono (fun _ _ h => h.mono hs47)).psl rfl (lst_frz_mono () _ _ hf6 hs7)
      have h5 := (hrows5.mono (fun _ _ h => h.mono hs57)).psl rfl hf7
      have := StAt.of ho hv (hcs2.mono hs27) (hcs3.mono hs37) h4 h5
      cases x'; exact this
    have hnew : Rows_ 12 StAt σ7 (rows ++ [[i64 x'.op, i64 x'.v, i64 x'.e.op, i64 x'.e.v, i64 x'.e.n, .slice p2 x'.e.l.length c2, i64 x'.f.op, i64 x'.f.v, i64 x'.f.n, .slice p3 x'.f.l.length c3, .slice p4 x'.body.length c4, .slice p5 x'.els.length c5]]) (l.take (i + 1)) := by
      rw [takeS hx']; exact (hrows.mono (fun _ _ h => h.mono hs17)).snoc rfl hst
    refine zO rfl Rd.mv ?_
    refine zO rfl (by first | exact Rd.adi rfl rfl | exact Rd.add rfl rfl) ?_
    refine zO rfl Rd.asg ?_; refine zN ?_; refine zT ?_
    refine ⟨(Keep.upd (Keep.upd (Keep.upd (Keep.upd (Keep.updO (Keep.updO (Keep.upd (Keep.updO (Keep.updO (Keep.updO (Keep.updO (Keep.upd (Keep.upd (Keep.upd (Keep.upd (Keep.upd (Keep.upd (Keep.upd (Keep.upd (Keep.upd (Keep.upd (Keep.upd (Keep.upd (Keep.upd (Keep.upd (Keep.upd (Keep.upd (Keep.upd (Keep.upd (Keep.upd (Keep.upd (Keep.upd (Keep.upd (Keep.upd (Keep.upd (Keep.upd (Keep.upd (Keep.upd (Keep.upd (Keep.upd (Keep.upd (Keep.upd (Keep.upd (Keep.upd (Keep.upd (Keep.upd (Keep.upd (Keep.upd (Keep.hav (Keep.refl _ _) rfl) rfl) rfl) rfl) rfl) rfl) rfl) rfl) rfl) rfl) rfl) rfl) rfl) rfl) rfl) rfl) rfl) rfl) rfl) rfl) rfl) rfl) rfl) rfl) rfl) rfl) rfl) rfl) rfl) rfl) rfl) rfl) rfl) rfl) rfl) rfl) rfl) rfl) rfl) rfl) rfl) rfl) rfl) rfl) rfl) rfl) rfl) rfl) rfl), (i + 1, (p48, c48)), _, (by (repeat (first | exact trivial | refine ⟨rfl, ?_⟩ | refine ⟨Eq.trans rfl (congrArg Value.bool hmat.symm), ?_⟩)); (first | done | fail)), ?_, ⟨hs1.trans hs17, hlt, _, hnew, rfl⟩, (by simp only; omega)⟩
    · rw [flatS]; exact zE
  have hil : i = l.length := by omega
  subst hil
  rw [List.take_length] at hrows
  refine XA.exit ?_
  refine DA.thn_exit ?_
  refine DA.thn_exit ?_
  refine DA.inb_same ?_
  refine zT ?_; refine zS ?_; refine zR ?_; refine zO rfl Rd.mv ?_; refine zO rfl Rd.asg ?_; refine zN ?_; refine zT ?_
  refine XA.ret ?_
  exact bodyA.ret (ResA.one rfl rfl) zE ⟨p, c, rows, rfl, hrows, hs1, rfl⟩
end Go.Proofs.Ytbbghdkndbpmmaa
