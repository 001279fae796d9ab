/- Part 5 of 6 of what the claim needs: Nd, Wg, Wh, Wi, Ne, Wj, Wk, Jl, Wm, Wq, Wr, Lb, Lc, Ld, Le, La, Lf, Lg, Lh, Li, Jp, Lm. -/
import Derived.Test.YtmnmcjdgnpgchaaGreatLu3
import Derived.Test.YtmnmcjdgnpgchaaGreatLu4
namespace Go.Proofs.YtmnmcjdgnpgchaaGreat
open Go X
set_option maxHeartbeats 1000000
theorem lst_own {e size n g : Nat} {xs : List Value} (hl : xs.length = n * size) (hm : n ≤ maxLen) : ∀ m, Sat [blk g xs e] m → lst e size (.slice (some ⟨g, 0, none⟩) n n) n xs m := fun m h => by
  have h2 := lst_close (e := e) (g := g) (c := n) (rest := []) hl (Nat.le_refl _) hm (by rw [List.append_nil]; omega) m
  rw [List.append_nil] at h2
  exact h2 h
theorem new_b (σ : PH) (cs : List Value) (p : Pr) (iv : Value) (inp : List Int) (hp : PrAt σ cs p) (hi : PInts σ iv inp) (hc : checkP p = 0) (hN : stsN p.body ≤ 10000) :
    CallsA Tryz.prog 12 #[.agg cs.toArray, iv] σ [] (RetA fun v σ' Γ' => ∃ g pc cc, v = ptr g ∧ σ.sub σ' ∧ PSl 4 rIn σ' (.slice pc (codeOf p).length cc) (codeOf p) ∧ BeG σ' g (.slice pc (codeOf p).length cc) iv (be0 (sizes p.vars).toNat) Γ') := by
  have hp0 := hp
  obtain ⟨vs, bs, rfl, hv, hb⟩ := hp
  obtain ⟨pv, cv, rfl, hvl, hvm⟩ := hv.shape
  obtain ⟨pi, ci, rfl, hil, him⟩ := hi.shape
  obtain ⟨hz, hvl'⟩ := check_small hc
  obtain ⟨-, -, hv1, h48⟩ := check_valid hc
  have hsn : (0 : Int) ≤ sizes p.vars := sizes_nonneg hv1
  obtain ⟨nc, hnc⟩ : ∃ nc : Nat, sizes p.vars = (nc : Int) := ⟨(sizes p.vars).toNat, by omega⟩
  have hcells := rcell_a σ _ p p.vars.length hp0 hz hvl'
  rw [show cellOf p.vars p.vars.length = sizes p.vars by rw [cellOf, Int.toNat_natCast, List.take_length], hnc] at hcells
  rw [show (sizes p.vars).toNat = nc by omega]
  refine enterA2 Tryz.func12 rfl rfl rfl ?_; refine zS (zR ?_); refine zw rfl WrA.bx ?_
  rintro _ _ _ ⟨g2, rfl, rfl, rfl⟩
  refine yS ?_; refine zN (zT (zS (zR (zO rfl (Rd.ldA rfl) ?_)))); refine yV ?_; refine yB ?_; refine zO rfl (Rd.lenSlice (tyrow rfl) rfl rfl) ?_; refine yC (hcells) ?_
  refine zw rfl (X.WrA.mkA (n := nc) (zs := ints (List.replicate nc 0)) (tyrow rfl) rfl (tyrow rfl) rfl rfl rfl rfl (by show 8 * nc ≤ _; omega) (by omega) (zeros_ints nc rfl)) ?_
  rintro _ _ _ ⟨g11, rfl, rfl, rfl⟩
  refine zO rfl (Rd.bl (fun _ _ => tyrow) rfl rfl rfl) ?_; refine zw rfl (WrA.alloc (tyrow rfl)) ?_
  rintro _ _ _ ⟨g5, rfl, rfl, rfl⟩
  refine zw rfl (WrA.st (tyrow rfl) rfl) ?_
  rintro _ _ _ ⟨rfl, rfl, rfl⟩
  refine zN (zT (zS ?_))
  refine XA.ent (Ent.foldC (Θ := [blk g11 (ints (List.replicate nc 0)) 2]) zD (lst_own (size := 1) (n := nc) (by simp [ints]) (by simp only [maxLen]; omega)) (Ent.refl _)) ?_
  refine XA.ent (Ent.selNil (e := 2) (size := 1) (Ent.refl _)) ?_
  refine XA.join [(4, 4), (13, 20)] (fun x : Nat × ((Option Addr × Nat) × ((Option Addr × Nat) × (Option Addr × Nat))) => [(4, ptr x.1)]) (fun x σ' Γ' => σ.sub σ' ∧ ((codeOf p).length ≤ x.2.1.2 ∧ x.2.1.2 ≤ maxLen ∧ (insC (codeOf p)).length = (codeOf p).length * 4 ∧ (0 < (codeOf p).length → ∃ g o, x.2.1.1 = some ⟨g, o, none⟩ ∧ PRow σ' g o (insC (codeOf p)))) ∧ Γ' = [blk x.1 [.slice x.2.1.1 (codeOf p).length x.2.1.2, .slice pi inp.length ci, i64 0, .slice none 0 0, i64 0, i64 0, i64 0, .slice (some ⟨g11, 0, none⟩) nc nc, i64 0, .slice x.2.2.1.1 0 x.2.2.1.2, i64 0, i64 0, i64 0, .slice x.2.2.2.1 nc x.2.2.2.2, .slice none 0 0, .bool false] 80, lst 2 1 (.slice none 0 0) 0 (ints []), lst 2 1 (.slice (some ⟨g11, 0, none⟩) nc nc) nc (ints (List.replicate nc 0)), lst 2 1 (.slice x.2.2.1.1 0 x.2.2.1.2) 0 (ints []), lst 2 1 (.slice x.2.2.2.1 nc x.2.2.2.2) nc (ints (List.replicate nc 0))]) ?_ ?_
  · skip
    refine XA.drawQ (by kernel_rfl) _ _ [] 9 #[false, false, false, false, false, false, false, false, false] rfl rfl (by kernel_rfl) (PH.sub.refl _) (Ent.sel (R := blk g2 _ _) zL (Ent.sel (R := blk g5 _ _) zL (Ent.nil _))) ?_
    refine qr 0 #[tT,fF,fF,fF,fF,fF,fF,fF,fF] rfl (Rd.ldA rfl) ?_; refine qp 2 #[tT,fF,tT,fF,fF,fF,fF,fF,fF] rfl Rd.mv ?_; refine qr 3 #[tT,fF,tT,tT,fF,fF,fF,fF,fF] rfl (Rd.ldA rfl) ?_; refine qr 4 #[tT,fF,tT,tT,tT,fF,fF,fF,fF] rfl (Rd.ldA rfl) ?_; refine qa 1 ?_
    refine qw #[tT,tT,tT,tT,tT,fF,fF,fF,fF] rfl (WrA.cE (rcode_a σ _ p hp0 hc hN).lstOut rfl) ?_
    rintro _ σ2 _ ⟨_, ⟨q, cq, rfl, hs2, hf2, rfl⟩, rfl⟩
    refine ⟨⟨zX, zE⟩, XQA.re zC ?_⟩
    refine qa 5 ?_
    refine qw #[tT,tT,tT,tT,tT,tT,fF,fF,fF] rfl (WrA.cE (copy_b _ 0 0 0 0 _ _ _ _ 0 nc [] (List.replicate nc 0) (by omega) (by omega)) rfl) ?_
    rintro _ _ _ ⟨_, ⟨p3, c3, p4, c4, rfl, rfl, rfl⟩, rfl⟩
    refine ⟨⟨zX, zE⟩, XQA.re zC ?_⟩
    refine qp 6 #[tT,tT,tT,tT,tT,tT,tT,fF,fF] rfl (Rd.bl (fun _ _ => tyrow) rfl rfl rfl) ?_; refine qa 7 ?_; refine qw #[tT,tT,tT,tT,tT,tT,tT,tT,fF] rfl WrA.bx ?_
    rintro _ _ _ ⟨g20, rfl, rfl, rfl⟩
    refine ⟨⟨zX, zE⟩, XQA.re zC ?_⟩
    refine qp 8 #[tT,tT,tT,tT,tT,tT,tT,tT,tT] rfl Rd.asg ?_; refine XQA.nil rfl ?_
    refine DA.thn_normal ⟨zK, (g20, ((q, cq), ((p3, c3), (p4, c4)))), _, zM, ?_, hs2, hf2, rfl⟩; exact zE
  rintro ⟨g20, ⟨q, cq⟩, ⟨p3, c3⟩, p4, c4⟩ δ σ2 _ ⟨hs2, hf2, rfl⟩
  dsimp only [ovr, List.foldl]
  refine zT ?_
  simp only at hf2
  refine XA.frz (R := lst 2 1 (.slice p3 0 c3) _ _) zL lst_frz lst_frz_mono ?_
  rintro σ3 ⟨⟩ hf3 hs3
  refine XA.frz (R := lst 2 1 (.slice p4 nc c4) _ _) zL lst_frz lst_frz_mono ?_
  rintro σ4 ⟨⟩ hf4 hs4
  have hs24 := hs3.trans hs4
  have hr : (List.replicate nc (0 : Int)).length = nc := List.length_replicate
  have hk : KeptAt σ4 (i64 (0 : Nat)) (.slice p3 ([] : List Int).length c3) (i64 (0 : Nat)) (i64 (0 : Nat)) (i64 0) (.slice p4 (List.replicate nc (0 : Int)).length c4) ⟨0, [], 0, 0, 0, List.replicate nc 0⟩ := ⟨p3, c3, p4, c4, rfl, rfl, rfl, rfl, rfl, rfl, pints_frz rfl (lst_frz_mono () _ _ hf3 hs4), pints_frz rfl (by rw [hr]; exact hf4)⟩
  have hB := BeG.of (σ := σ4) (g := g20) (cv := .slice q (codeOf p).length cq) (iv := .slice pi inp.length ci) (next := 0) (rd := 0) (outn := 0) (stack := []) (cells := List.replicate nc 0) (out := []) (st := 0) (wrong := false) (sp := none) (sc := 0) (pl := some ⟨g11, 0, none⟩) (cl := nc) (op := none) (oc := 0) hk
  rw [hr] at hB
  have hcd : PSl 4 rIn σ4 (.slice q (codeOf p).length cq) (codeOf p) := (rows_in σ4 (codeOf p)).psl rfl ⟨hf2.1, hf2.2.1, hf2.2.2.1, fun h => by obtain ⟨g, o, e, r⟩ := hf2.2.2.2 h; exact ⟨g, o, e, r.mono hs24⟩⟩
  refine XA.ret ?_
  exact bodyA.ret (ResA.one rfl rfl) zE ⟨g20, q, cq, rfl, hs2.trans hs24, hcd, hB⟩
def nowC (b : Be) : Int := if b.wrong then 15 else if b.m.st = 0 then 13 else if 1 < b.m.st then IntKind.i64.wrap (b.m.st - 2) else 0
theorem ResA.cell1 {P : Program} {ρ : Env} {σ : PH} {Γ : List HP} {fn : Func} {t1 : Tmp} {T1 : TypeId} {g1 o1 : Nat} {v1 : Value} (hf : fn.results = #[.cell t1 T1]) (h1 : ρ t1 = .pointer (some ⟨g1, o1, none⟩)) (l1 : ∀ h, Ho σ Γ h → Ld P h T1 g1 o1 v1) : ResA P fn ρ σ Γ v1 := ResA.cell hf h1 l1
theorem now_b (σ : PH) (g : Nat) (v0 v1 v2 v3 v4 v5 k0 k1 k2 k3 k4 k5 : Value) (st : Int) (pl op : Option Addr) (nl cl no oc : Nat) (wrong : Bool) :
    CallsA Tryz.prog 17 #[ptr g] σ [blk g [v0, v1, v2, v3, v4, v5, i64 st, .slice pl nl cl, k0, k1, k2, k3, k4, k5, .slice op no oc, .bool wrong] 80]
      (RetA fun v σ' Γ' => v = .agg #[i64 (if wrong then 15 else if st = 0 then 13 else if 1 < st then IntKind.i64.wrap (st - 2) else 0), .slice op no oc, .slice pl nl cl] ∧ σ = σ' ∧ Γ' = [blk g [v0, v1, v2, v3, v4, v5, i64 st, .slice pl nl cl, k0, k1, k2, k3, k4, k5, .slice op no oc, .bool wrong] 80]) := by
  cases wrong with
  | true =>
    by_cases h0 : st = 0
    · refine enterA1 Tryz.func17 rfl rfl rfl ?_
      refine zS (zR ?_); refine zw rfl (WrA.alloc (tyrow rfl)) ?_
      rintro _ _ _ ⟨g2, rfl, rfl, rfl⟩
      refine zN (zT (zS ?_))
      refine XA.draw (by kernel_rfl) _ _ [11] [(0, .pu), (1, .pu), (2, .pu), (3, .rd), (4, .pu), (5, .pu), (6, .pu), (7, .pu), (8, .rd), (9, .pu), (10, .wr), (11, .wr)] (by kernel_rfl) (PH.sub.refl _) (Ent.sel (R := blk g _ _) zL (Ent.nil _)) ?_
      refine zu rfl rfl Rd.mv ?_; refine zu rfl rfl (Rd.nilCheck rfl) ?_; refine zu rfl rfl (Rd.fA rfl) ?_; refine XPA.rd rfl rfl Gd.free (Rd.ldC rfl (tyrow rfl) rfl) ?_; refine zu rfl rfl Rd.mv ?_; refine zu rfl rfl (Rd.nilCheck rfl) ?_; refine zu rfl rfl (Rd.fA rfl) ?_; refine zu rfl rfl (Rd.fA rfl) ?_
      refine XPA.rd rfl rfl Gd.free (Rd.ldC rfl (tyrow rfl) rfl) ?_; refine zu rfl rfl (Rd.bl (fun _ _ => tyrow) rfl rfl rfl) ?_; refine XPA.wr0 rfl rfl Gd.free (WrA.alloc (tyrow rfl)) ?_
      rintro _ _ _ ⟨g3, rfl, rfl, rfl⟩
      refine stays ?_
      refine XPA.wrZ0 rfl rfl Gd.free (by kernel_rfl) (WrA.st (tyrow rfl) rfl) ?_
      rintro _ _ _ ⟨rfl, rfl, rfl⟩
      refine XPA.nil ?_; refine zT (zS (zS (zR (yA ?_)))); refine zO rfl (Rd.nilCheck rfl) ?_; refine yV ?_; refine yV ?_; refine yB ?_; refine yE ?_; refine zN (zT (XA.condT rfl (decide_eq_true h0) (zR (yV ?_)))); refine zw rfl (WrA.st (tyrow rfl) rfl) ?_
      rintro _ _ _ ⟨rfl, rfl, rfl⟩
      refine zN (zT (zS (zS (zR (yA ?_))))); refine zO rfl (Rd.nilCheck rfl) ?_; refine yV ?_; refine yB ?_; refine zN (zT (yT rfl rfl (zR (yV ?_)))); refine zw rfl (WrA.st (tyrow rfl) rfl) ?_
      rintro _ _ _ ⟨rfl, rfl, rfl⟩
      refine zN (zT (zS (zR (zO rfl (Rd.ldA rfl) ?_)))); refine zw rfl (WrA.st (tyrow rfl) rfl) ?_
      rintro _ _ _ ⟨rfl, rfl, rfl⟩
      refine zN (zT (XA.ret ?_))
      exact bodyA.ret (ResA.cell1 rfl rfl (Ld.atBlk (tyrow rfl) rfl zL rfl (by first | exact take0 (by first | rfl | assumption | (refine (ints_len _).trans ?_; assumption) | (simp [*]; (first | done | fail))) | assumption | exact take_app (by first | rfl | assumption | (refine (ints_len _).trans ?_; assumption) | (simp [*]; (first | done | fail))) | (conv => lhs; simp only [List.drop_succ_cons, List.drop_zero, List.take_succ_cons, List.take_zero])) (by first | rfl | assumption | (refine (ints_len _).trans ?_; assumption) | (simp [*]; (first | done | fail))))) zE ⟨rfl, rfl, rfl⟩
    · by_cases h1 : 1 < st
      · refine enterA1 Tryz.func17 rfl rfl rfl ?_
        refine zS (zR ?_); refine zw rfl (WrA.alloc (tyrow rfl)) ?_
        rintro _ _ _ ⟨g2, rfl, rfl, rfl⟩
        refine zN (zT (zS ?_))
        refine XA.draw (by kernel_rfl) _ _ [11] [(0, .pu), (1, .pu), (2, .pu), (3, .rd), (4, .pu), (5, .pu), (6, .pu), (7, .pu), (8, .rd), (9, .pu), (10, .wr), (11, .wr)] (by kernel_rfl) (PH.sub.refl _) (Ent.sel (R := blk g _ _) zL (Ent.nil _)) ?_
        refine zu rfl rfl Rd.mv ?_; refine zu rfl rfl (Rd.nilCheck rfl) ?_; refine zu rfl rfl (Rd.fA rfl) ?_; refine XPA.rd rfl rfl Gd.free (Rd.ldC rfl (tyrow rfl) rfl) ?_; refine zu rfl rfl Rd.mv ?_; refine zu rfl rfl (Rd.nilCheck rfl) ?_; refine zu rfl rfl (Rd.fA rfl) ?_; refine zu rfl rfl (Rd.fA rfl) ?_
        refine XPA.rd rfl rfl Gd.free (Rd.ldC rfl (tyrow rfl) rfl) ?_; refine zu rfl rfl (Rd.bl (fun _ _ => tyrow) rfl rfl rfl) ?_; refine XPA.wr0 rfl rfl Gd.free (WrA.alloc (tyrow rfl)) ?_
        rintro _ _ _ ⟨g3, rfl, rfl, rfl⟩
        refine stays ?_
        refine XPA.wrZ0 rfl rfl Gd.free (by kernel_rfl) (WrA.st (tyrow rfl) rfl) ?_
        rintro _ _ _ ⟨rfl, rfl, rfl⟩
        refine XPA.nil ?_; refine zT (zS (zS (zR (yA ?_)))); refine zO rfl (Rd.nilCheck rfl) ?_; refine yV ?_; refine yV ?_; refine yB ?_; refine yE ?_; refine zN (zT (XA.condF rfl (decide_eq_false h0) (zS (zR (yA ?_))))); refine zO rfl (Rd.nilCheck rfl) ?_; refine yV ?_; refine yV ?_; refine yB ?_
        refine zO rfl (Rd.gtr rfl rfl) ?_; refine zN (zT (XA.condT rfl (decide_eq_true h1) (zR (yA ?_)))); refine zO rfl (Rd.nilCheck rfl) ?_; refine yV ?_; refine yV ?_
        refine yB ?_; refine zO rfl (by first | exact Rd.sbi rfl rfl | exact Rd.sub rfl rfl) ?_; refine yV ?_
        refine zw rfl (WrA.st (tyrow rfl) rfl) ?_
        rintro _ _ _ ⟨rfl, rfl, rfl⟩
        refine zN (zT (zS (zS (zR (yA ?_))))); refine zO rfl (Rd.nilCheck rfl) ?_; refine yV ?_; refine yB ?_; refine zN (zT (yT rfl rfl (zR (yV ?_)))); refine zw rfl (WrA.st (tyrow rfl) rfl) ?_
        rintro _ _ _ ⟨rfl, rfl, rfl⟩
        refine zN (zT (zS (zR (zO rfl (Rd.ldA rfl) ?_)))); refine zw rfl (WrA.st (tyrow rfl) rfl) ?_
        rintro _ _ _ ⟨rfl, rfl, rfl⟩
        refine zN (zT (XA.ret ?_))
        exact bodyA.ret (ResA.cell1 rfl rfl (Ld.atBlk (tyrow rfl) rfl zL rfl (by first | exact take0 (by first | rfl | assumption | (refine (ints_len _).trans ?_; assumption) | (simp [*]; (first | done | fail))) | assumption | exact take_app (by first | rfl | assumption | (refine (ints_len _).trans ?_; assumption) | (simp [*]; (first | done | fail))) | (conv => lhs; simp only [List.drop_succ_cons, List.drop_zero, List.take_succ_cons, List.take_zero])) (by first | rfl | assumption | (refine (ints_len _).trans ?_; assumption) | (simp [*]; (first | done | fail))))) zE ⟨rfl, rfl, rfl⟩
      · refine enterA1 Tryz.func17 rfl rfl rfl ?_
        refine zS (zR ?_); refine zw rfl (WrA.alloc (tyrow rfl)) ?_
        rintro _ _ _ ⟨g2, rfl, rfl, rfl⟩
        refine zN (zT (zS ?_))
        refine XA.draw (by kernel_rfl) _ _ [11] [(0, .pu), (1, .pu), (2, .pu), (3, .rd), (4, .pu), (5, .pu), (6, .pu), (7, .pu), (8, .rd), (9, .pu), (10, .wr), (11, .wr)] (by kernel_rfl) (PH.sub.refl _) (Ent.sel (R := blk g _ _) zL (Ent.nil _)) ?_
        refine zu rfl rfl Rd.mv ?_; refine zu rfl rfl (Rd.nilCheck rfl) ?_; refine zu rfl rfl (Rd.fA rfl) ?_; refine XPA.rd rfl rfl Gd.free (Rd.ldC rfl (tyrow rfl) rfl) ?_; refine zu rfl rfl Rd.mv ?_; refine zu rfl rfl (Rd.nilCheck rfl) ?_; refine zu rfl rfl (Rd.fA rfl) ?_; refine zu rfl rfl (Rd.fA rfl) ?_
        refine XPA.rd rfl rfl Gd.free (Rd.ldC rfl (tyrow rfl) rfl) ?_; refine zu rfl rfl (Rd.bl (fun _ _ => tyrow) rfl rfl rfl) ?_; refine XPA.wr0 rfl rfl Gd.free (WrA.alloc (tyrow rfl)) ?_
        rintro _ _ _ ⟨g3, rfl, rfl, rfl⟩
        refine stays ?_
        refine XPA.wrZ0 rfl rfl Gd.free (by kernel_rfl) (WrA.st (tyrow rfl) rfl) ?_
        rintro _ _ _ ⟨rfl, rfl, rfl⟩
        refine XPA.nil ?_; refine zT (zS (zS (zR (yA ?_)))); refine zO rfl (Rd.nilCheck rfl) ?_; refine yV ?_; refine yV ?_; refine yB ?_; refine yE ?_; refine zN (zT (XA.condF rfl (decide_eq_false h0) (zS (zR (yA ?_))))); refine zO rfl (Rd.nilCheck rfl) ?_; refine yV ?_; refine yV ?_; refine yB ?_
        refine zO rfl (Rd.gtr rfl rfl) ?_; refine zN (zT (XA.condF rfl (decide_eq_false h1) (XA.skip (zT (zS (zS (zR (yA ?_)))))))); refine zO rfl (Rd.nilCheck rfl) ?_; refine yV ?_; refine yB ?_; refine zN (zT (yT rfl rfl (zR (yV ?_)))); refine zw rfl (WrA.st (tyrow rfl) rfl) ?_
        rintro _ _ _ ⟨rfl, rfl, rfl⟩
        refine zN (zT (zS (zR (zO rfl (Rd.ldA rfl) ?_)))); refine zw rfl (WrA.st (tyrow rfl) rfl) ?_
        rintro _ _ _ ⟨rfl, rfl, rfl⟩
        refine zN (zT (XA.ret ?_))
        exact bodyA.ret (ResA.cell1 rfl rfl (Ld.atBlk (tyrow rfl) rfl zL rfl (by first | exact take0 (by first | rfl | assumption | (refine (ints_len _).trans ?_; assumption) | (simp [*]; (first | done | fail))) | assumption | exact take_app (by first | rfl | assumption | (refine (ints_len _).trans ?_; assumption) | (simp [*]; (first | done | fail))) | (conv => lhs; simp only [List.drop_succ_cons, List.drop_zero, List.take_succ_cons, List.take_zero])) (by first | rfl | assumption | (refine (ints_len _).trans ?_; assumption) | (simp [*]; (first | done | fail))))) zE ⟨rfl, rfl, rfl⟩
  | false =>
    by_cases h0 : st = 0
    · refine enterA1 Tryz.func17 rfl rfl rfl ?_
      refine zS (zR ?_); refine zw rfl (WrA.alloc (tyrow rfl)) ?_
      rintro _ _ _ ⟨g2, rfl, rfl, rfl⟩
      refine zN (zT (zS ?_))
      refine XA.draw (by kernel_rfl) _ _ [11] [(0, .pu), (1, .pu), (2, .pu), (3, .rd), (4, .pu), (5, .pu), (6, .pu), (7, .pu), (8, .rd), (9, .pu), (10, .wr), (11, .wr)] (by kernel_rfl) (PH.sub.refl _) (Ent.sel (R := blk g _ _) zL (Ent.nil _)) ?_
      refine zu rfl rfl Rd.mv ?_; refine zu rfl rfl (Rd.nilCheck rfl) ?_; refine zu rfl rfl (Rd.fA rfl) ?_; refine XPA.rd rfl rfl Gd.free (Rd.ldC rfl (tyrow rfl) rfl) ?_; refine zu rfl rfl Rd.mv ?_; refine zu rfl rfl (Rd.nilCheck rfl) ?_; refine zu rfl rfl (Rd.fA rfl) ?_; refine zu rfl rfl (Rd.fA rfl) ?_
      refine XPA.rd rfl rfl Gd.free (Rd.ldC rfl (tyrow rfl) rfl) ?_; refine zu rfl rfl (Rd.bl (fun _ _ => tyrow) rfl rfl rfl) ?_; refine XPA.wr0 rfl rfl Gd.free (WrA.alloc (tyrow rfl)) ?_
      rintro _ _ _ ⟨g3, rfl, rfl, rfl⟩
      refine stays ?_
      refine XPA.wrZ0 rfl rfl Gd.free (by kernel_rfl) (WrA.st (tyrow rfl) rfl) ?_
      rintro _ _ _ ⟨rfl, rfl, rfl⟩
      refine XPA.nil ?_; refine zT (zS (zS (zR (yA ?_)))); refine zO rfl (Rd.nilCheck rfl) ?_; refine yV ?_; refine yV ?_; refine yB ?_; refine yE ?_; refine zN (zT (XA.condT rfl (decide_eq_true h0) (zR (yV ?_)))); refine zw rfl (WrA.st (tyrow rfl) rfl) ?_
      rintro _ _ _ ⟨rfl, rfl, rfl⟩
      refine zN (zT (zS (zS (zR (yA ?_))))); refine zO rfl (Rd.nilCheck rfl) ?_; refine yV ?_; refine yB ?_; refine zN (zT (yF rfl rfl (XA.skip (zT (zS (zR (zO rfl (Rd.ldA rfl) ?_))))))); refine zw rfl (WrA.st (tyrow rfl) rfl) ?_
      rintro _ _ _ ⟨rfl, rfl, rfl⟩
      refine zN (zT (XA.ret ?_))
      exact bodyA.ret (ResA.cell1 rfl rfl (Ld.atBlk (tyrow rfl) rfl zL rfl (by first | exact take0 (by first | rfl | assumption | (refine (ints_len _).trans ?_; assumption) | (simp [*]; (first | done | fail))) | assumption | exact take_app (by first | rfl | assumption | (refine (ints_len _).trans ?_; assumption) | (simp [*]; (first | done | fail))) | (conv => lhs; simp only [List.drop_succ_cons, List.drop_zero, List.take_succ_cons, List.take_zero])) (by first | rfl | assumption | (refine (ints_len _).trans ?_; assumption) | (simp [*]; (first | done | fail))))) zE ⟨by rw [if_neg (by decide), if_pos h0], rfl, rfl⟩
    · by_cases h1 : 1 < st
      · refine enterA1 Tryz.func17 rfl rfl rfl ?_
        refine zS (zR ?_); refine zw rfl (WrA.alloc (tyrow rfl)) ?_
        rintro _ _ _ ⟨g2, rfl, rfl, rfl⟩
        refine zN (zT (zS ?_))
        refine XA.draw (by kernel_rfl) _ _ [11] [(0, .pu), (1, .pu), (2, .pu), (3, .rd), (4, .pu), (5, .pu), (6, .pu), (7, .pu), (8, .rd), (9, .pu), (10, .wr), (11, .wr)] (by kernel_rfl) (PH.sub.refl _) (Ent.sel (R := blk g _ _) zL (Ent.nil _)) ?_
        refine zu rfl rfl Rd.mv ?_; refine zu rfl rfl (Rd.nilCheck rfl) ?_; refine zu rfl rfl (Rd.fA rfl) ?_; refine XPA.rd rfl rfl Gd.free (Rd.ldC rfl (tyrow rfl) rfl) ?_; refine zu rfl rfl Rd.mv ?_; refine zu rfl rfl (Rd.nilCheck rfl) ?_; refine zu rfl rfl (Rd.fA rfl) ?_; refine zu rfl rfl (Rd.fA rfl) ?_
        refine XPA.rd rfl rfl Gd.free (Rd.ldC rfl (tyrow rfl) rfl) ?_; refine zu rfl rfl (Rd.bl (fun _ _ => tyrow) rfl rfl rfl) ?_; refine XPA.wr0 rfl rfl Gd.free (WrA.alloc (tyrow rfl)) ?_
        rintro _ _ _ ⟨g3, rfl, rfl, rfl⟩
        refine stays ?_
        refine XPA.wrZ0 rfl rfl Gd.free (by kernel_rfl) (WrA.st (tyrow rfl) rfl) ?_
        rintro _ _ _ ⟨rfl, rfl, rfl⟩
        refine XPA.nil ?_; refine zT (zS (zS (zR (yA ?_)))); refine zO rfl (Rd.nilCheck rfl) ?_; refine yV ?_; refine yV ?_; refine yB ?_; refine yE ?_; refine zN (zT (XA.condF rfl (decide_eq_false h0) (zS (zR (yA ?_))))); refine zO rfl (Rd.nilCheck rfl) ?_; refine yV ?_; refine yV ?_; refine yB ?_
        refine zO rfl (Rd.gtr rfl rfl) ?_; refine zN (zT (XA.condT rfl (decide_eq_true h1) (zR (yA ?_)))); refine zO rfl (Rd.nilCheck rfl) ?_; refine yV ?_; refine yV ?_
        refine yB ?_; refine zO rfl (by first | exact Rd.sbi rfl rfl | exact Rd.sub rfl rfl) ?_; refine yV ?_
        refine zw rfl (WrA.st (tyrow rfl) rfl) ?_
        rintro _ _ _ ⟨rfl, rfl, rfl⟩
        refine zN (zT (zS (zS (zR (yA ?_))))); refine zO rfl (Rd.nilCheck rfl) ?_; refine yV ?_; refine yB ?_; refine zN (zT (yF rfl rfl (XA.skip (zT (zS (zR (zO rfl (Rd.ldA rfl) ?_))))))); refine zw rfl (WrA.st (tyrow rfl) rfl) ?_
        rintro _ _ _ ⟨rfl, rfl, rfl⟩
        refine zN (zT (XA.ret ?_))
        exact bodyA.ret (ResA.cell1 rfl rfl (Ld.atBlk (tyrow rfl) rfl zL rfl (by first | exact take0 (by first | rfl | assumption | (refine (ints_len _).trans ?_; assumption) | (simp [*]; (first | done | fail))) | assumption | exact take_app (by first | rfl | assumption | (refine (ints_len _).trans ?_; assumption) | (simp [*]; (first | done | fail))) | (conv => lhs; simp only [List.drop_succ_cons, List.drop_zero, List.take_succ_cons, List.take_zero])) (by first | rfl | assumption | (refine (ints_len _).trans ?_; assumption) | (simp [*]; (first | done | fail))))) zE ⟨by rw [if_neg (by decide), if_neg h0, if_pos h1], rfl, rfl⟩
      · refine enterA1 Tryz.func17 rfl rfl rfl ?_
        refine zS (zR ?_); refine zw rfl (WrA.alloc (tyrow rfl)) ?_
        rintro _ _ _ ⟨g2, rfl, rfl, rfl⟩
        refine zN (zT (zS ?_))
        refine XA.draw (by kernel_rfl) _ _ [11] [(0, .pu), (1, .pu), (2, .pu), (3, .rd), (4, .pu), (5, .pu), (6, .pu), (7, .pu), (8, .rd), (9, .pu), (10, .wr), (11, .wr)] (by kernel_rfl) (PH.sub.refl _) (Ent.sel (R := blk g _ _) zL (Ent.nil _)) ?_
        refine zu rfl rfl Rd.mv ?_; refine zu rfl rfl (Rd.nilCheck rfl) ?_; refine zu rfl rfl (Rd.fA rfl) ?_; refine XPA.rd rfl rfl Gd.free (Rd.ldC rfl (tyrow rfl) rfl) ?_; refine zu rfl rfl Rd.mv ?_; refine zu rfl rfl (Rd.nilCheck rfl) ?_; refine zu rfl rfl (Rd.fA rfl) ?_; refine zu rfl rfl (Rd.fA rfl) ?_
        refine XPA.rd rfl rfl Gd.free (Rd.ldC rfl (tyrow rfl) rfl) ?_; refine zu rfl rfl (Rd.bl (fun _ _ => tyrow) rfl rfl rfl) ?_; refine XPA.wr0 rfl rfl Gd.free (WrA.alloc (tyrow rfl)) ?_
        rintro _ _ _ ⟨g3, rfl, rfl, rfl⟩
        refine stays ?_
        refine XPA.wrZ0 rfl rfl Gd.free (by kernel_rfl) (WrA.st (tyrow rfl) rfl) ?_
        rintro _ _ _ ⟨rfl, rfl, rfl⟩
        refine XPA.nil ?_; refine zT (zS (zS (zR (yA ?_)))); refine zO rfl (Rd.nilCheck rfl) ?_; refine yV ?_; refine yV ?_; refine yB ?_; refine yE ?_; refine zN (zT (XA.condF rfl (decide_eq_false h0) (zS (zR (yA ?_))))); refine zO rfl (Rd.nilCheck rfl) ?_; refine yV ?_; refine yV ?_; refine yB ?_
        refine zO rfl (Rd.gtr rfl rfl) ?_; refine zN (zT (XA.condF rfl (decide_eq_false h1) (XA.skip (zT (zS (zS (zR (yA ?_)))))))); refine zO rfl (Rd.nilCheck rfl) ?_; refine yV ?_; refine yB ?_; refine zN (zT (yF rfl rfl (XA.skip (zT (zS (zR (zO rfl (Rd.ldA rfl) ?_)))))))
        refine zw rfl (WrA.st (tyrow rfl) rfl) ?_
        rintro _ _ _ ⟨rfl, rfl, rfl⟩
        refine zN (zT (XA.ret ?_))
        exact bodyA.ret (ResA.cell1 rfl rfl (Ld.atBlk (tyrow rfl) rfl zL rfl (by first | exact take0 (by first | rfl | assumption | (refine (ints_len _).trans ?_; assumption) | (simp [*]; (first | done | fail))) | assumption | exact take_app (by first | rfl | assumption | (refine (ints_len _).trans ?_; assumption) | (simp [*]; (first | done | fail))) | (conv => lhs; simp only [List.drop_succ_cons, List.drop_zero, List.take_succ_cons, List.take_zero])) (by first | rfl | assumption | (refine (ints_len _).trans ?_; assumption) | (simp [*]; (first | done | fail))))) zE ⟨by rw [if_neg (by decide), if_neg h0, if_neg h1], rfl, rfl⟩
end Go.Proofs.YtmnmcjdgnpgchaaGreat

namespace Go.Proofs.YtmnmcjdgnpgchaaGreat
open Go X
set_option maxHeartbeats 1000000
theorem newm_m (σ : PH) (mb pb : Nat) (pc : Option Addr) (nc cc : Nat) (iv : Value) (inp : List Int) (hi : PInts σ iv inp) (hil : inp.length ≤ 1000000) :
    CallsA Tryz.prog 49 #[ptr mb, .slice pc nc cc, iv, ptr pb] σ [] (RetA fun v σ' Γ' => ∃ g pi ci, v = ptr g ∧ σ.sub σ' ∧ PInts σ' (.slice pi inp.length ci) inp ∧ Γ' = [blk g [ptr mb, .slice pc nc cc, .slice pi inp.length ci, ptr pb, i64 0, .bool false] 129]) := by
  refine enterA4 Tryz.func49 rfl rfl rfl ?_; refine zS (zR (yS ?_)); refine zN (zT (zS (zR (yA ?_)))); refine yA ?_; refine yA ?_; refine zw rfl (WrA.cE (cloneP_a σ iv inp hi hil) rfl) ?_
  rintro _ _ _ ⟨_, ⟨p, c, rfl, rfl, rfl⟩, rfl⟩
  refine XOA.cl ?_; refine XOA.frz (R := lst 2 1 (.slice p inp.length c) _ _) zL lst_frz lst_frz_mono ?_
  rintro σ1 ⟨⟩ hf hs1
  refine yA ?_; refine zO rfl (Rd.bl (fun _ _ => tyrow) rfl rfl rfl) ?_; refine zw rfl WrA.bx ?_
  rintro _ _ _ ⟨g15, rfl, rfl, rfl⟩
  refine yS ?_; refine zN (zT (XA.ret ?_))
  exact bodyA.ret (ResA.one rfl rfl) zE ⟨_, p, c, rfl, hs1, pints_frz rfl hf, rfl⟩
section
variable (σ : PH) (g mb sb db pb : Nat) (pc : Option Addr) (cc : Nat) (code : List In) (iv : Value) (left : Int) (torn : Bool) (d : DiskS) (s : StS) (M : Me)
theorem commitsno_m (h4 : M.ld 4 ≠ 0) :
    CallsA Tryz.prog 60 #[ptr g] σ [blk g [ptr mb, .slice pc code.length cc, iv, ptr pb, i64 left, .bool torn] 129, Wld mb sb db d s M] (RetA fun v σ' Γ' => v = .bool false ∧ σ = σ' ∧ Γ' = [blk g [ptr mb, .slice pc code.length cc, iv, ptr pb, i64 left, .bool torn] 129, Wld mb sb db d s M]) := by
  refine enterA1 Tryz.func60 rfl rfl rfl ?_; refine zS (zR (yS ?_)); refine zN (zT (zS ?_))
  refine XA.draw (by kernel_rfl) _ _ [] [(0, .pu), (1, .pu), (2, .pu), (3, .rd), (4, .wr), (5, .pu), (6, .pu), (7, .pu), (8, .pu), (9, .pu), (10, .rd), (11, .pu), (12, .pu), (13, .pu), (14, .rd), (15, .wr), (16, .pu), (17, .pu), (18, .rd), (19, .pu), (20, .pu), (21, .pu)] (by kernel_rfl) (PH.sub.refl _) (Ent.sel (R := blk g _ _) zL (Ent.nil _)) ?_
  refine zu rfl rfl Rd.mv ?_; refine zu rfl rfl (Rd.nilCheck rfl) ?_; refine zu rfl rfl (Rd.fA rfl) ?_; refine XPA.rd rfl rfl Gd.free (Rd.ldC rfl (tyrow rfl) rfl) ?_; refine XPA.wr0 rfl rfl Gd.free (WrA.cE (load_w σ mb sb db d s M 4) rfl) ?_
  rintro _ _ _ ⟨_, ⟨rfl, rfl, rfl⟩, rfl⟩
  refine stays (XPA.cl ?_); refine zu rfl rfl (Rd.eql rfl rfl) ?_
  rw [show decide (M.ld 4 = 0) = false from decide_eq_false h4]
  refine zu rfl rfl Rd.mv ?_
  first | refine XPA.puG rfl rfl Rd.mv ?_ | refine XPA.puOffG rfl rfl ?_
  first | refine XPA.puG rfl rfl (Rd.nilCheck rfl) ?_ | refine XPA.puOffG rfl rfl ?_
  first | refine XPA.puG rfl rfl (Rd.fA rfl) ?_ | refine XPA.puOffG rfl rfl ?_
  first | refine XPA.rdG rfl rfl (Rd.ldC rfl (tyrow rfl) rfl) ?_ | refine XPA.offG rfl rfl ?_
  first | refine XPA.puG rfl rfl Rd.mv ?_ | refine XPA.puOffG rfl rfl ?_
  first | refine XPA.puG rfl rfl (Rd.nilCheck rfl) ?_ | refine XPA.puOffG rfl rfl ?_
  first | refine XPA.puG rfl rfl (Rd.fA rfl) ?_ | refine XPA.puOffG rfl rfl ?_
  first | refine XPA.rdG rfl rfl (Rd.ldC rfl (tyrow rfl) rfl) ?_ | refine XPA.offG rfl rfl ?_
  first | refine XPA.off rfl rfl (by first | exact Gd.isB rfl rfl rfl | exact Gd.un rfl rfl | (apply Gd.isQ; rfl; rfl; exact (by first | exact (rfl : decide _ = true) | exact (rfl : decide _ = false) | (refine decide_eq_true ?_; assumption) | (refine decide_eq_false ?_; assumption) | (refine decide_eq_true ?_; omega) | (refine decide_eq_false ?_; omega)); rfl)) ?_ | refine XPA.puOff rfl rfl (by first | exact Gd.isB rfl rfl rfl | exact Gd.un rfl rfl | (apply Gd.isQ; rfl; rfl; exact (by first | exact (rfl : decide _ = true) | exact (rfl : decide _ = false) | (refine decide_eq_true ?_; assumption) | (refine decide_eq_false ?_; assumption) | (refine decide_eq_true ?_; omega) | (refine decide_eq_false ?_; omega)); rfl)) ?_ | refine XPA.offW rfl rfl (by first | exact Gd.isB rfl rfl rfl | exact Gd.un rfl rfl | (apply Gd.isQ; rfl; rfl; exact (by first | exact (rfl : decide _ = true) | exact (rfl : decide _ = false) | (refine decide_eq_true ?_; assumption) | (refine decide_eq_false ?_; assumption) | (refine decide_eq_true ?_; omega) | (refine decide_eq_false ?_; omega)); rfl)) ?_
  first | refine XPA.puG rfl rfl (Rd.ixS rfl rfl) ?_ | refine XPA.puOffG rfl rfl ?_
  first | refine XPA.puG rfl rfl (Rd.fA rfl) ?_ | refine XPA.puOffG rfl rfl ?_
  first | refine XPA.rdG rfl rfl (Rd.ldC rfl (tyrow rfl) rfl) ?_ | refine XPA.offG rfl rfl ?_
  first | refine XPA.puG rfl rfl (Rd.eql rfl rfl) ?_ | refine XPA.puOffG rfl rfl ?_
  refine zu rfl rfl zP ?_; refine zu rfl rfl Rd.asg ?_; refine XPA.nil ?_; refine zT (XA.ret ?_)
  exact bodyA.ret (ResA.one rfl rfl) zE ⟨rfl, rfl, rfl⟩
theorem commits_m (b : Be) (inp : List Int) (x : In) (hc : PSl 4 rIn σ (.slice pc code.length cc) code) (hS : Shows M.C b.m) (hk : StepOk code inp b x) :
    CallsA Tryz.prog 60 #[ptr g] σ [blk g [ptr mb, .slice pc code.length cc, iv, ptr pb, i64 left, .bool torn] 129, Wld mb sb db d s M] (RetA fun v σ' Γ' => v = .bool (decide (x.op = 15)) ∧ σ = σ' ∧ Γ' = [blk g [ptr mb, .slice pc code.length cc, iv, ptr pb, i64 left, .bool torn] 129, Wld mb sb db d s M]) := by
  obtain ⟨⟨next, stack, rd, outn, st, cells⟩, kept, out, wrong⟩ := b
  obtain ⟨hst, hx, -, -, -, -, -, hcd, -, -, -⟩ := hk
  simp only at hst hx hcd hS
  subst hst
  obtain ⟨xop, xa, xb, xn⟩ := x
  have hlt := (List.getElem?_eq_some_iff.1 hx).1
  obtain ⟨gc, oc', row, rfl, hrx, hrl, hrow⟩ := hc.at hx
  obtain rfl : row = [i64 xop, i64 xa, i64 xb, i64 xn] := hrx
  have hrow0 : PRow σ gc (oc' + next * 4) [i64 xop] := hrow.sub (j := 0) rfl
  have hld := load_w σ mb sb db d s M 4
  rw [show M.ld 4 = 0 from hS.st] at hld
  have hld0 := load_w σ mb sb db d s M 0
  rw [show M.ld 0 = next from hS.nx] at hld0
  refine enterA1 Tryz.func60 rfl rfl rfl ?_; refine zS (zR (yS ?_)); refine zN (zT (zS ?_))
  refine XA.draw (by kernel_rfl) _ _ [] [(0, .pu), (1, .pu), (2, .pu), (3, .rd), (4, .wr), (5, .pu), (6, .pu), (7, .pu), (8, .pu), (9, .pu), (10, .rd), (11, .pu), (12, .pu), (13, .pu), (14, .rd), (15, .wr), (16, .pu), (17, .pu), (18, .rd), (19, .pu), (20, .pu), (21, .pu)] (by kernel_rfl) (PH.sub.refl _) (Ent.sel (R := blk g _ _) zL (Ent.nil _)) ?_
  refine zu rfl rfl Rd.mv ?_; refine zu rfl rfl (Rd.nilCheck rfl) ?_; refine zu rfl rfl (Rd.fA rfl) ?_; refine XPA.rd rfl rfl Gd.free (Rd.ldC rfl (tyrow rfl) rfl) ?_; refine XPA.wr0 rfl rfl Gd.free (WrA.cE (hld) rfl) ?_
  rintro _ _ _ ⟨_, ⟨rfl, rfl, rfl⟩, rfl⟩
  refine stays (XPA.cl ?_); refine zu rfl rfl (Rd.eql rfl rfl) ?_; refine zu rfl rfl Rd.mv ?_
  first | refine XPA.puG rfl rfl Rd.mv ?_ | refine XPA.puOffG rfl rfl ?_
  first | refine XPA.puG rfl rfl (Rd.nilCheck rfl) ?_ | refine XPA.puOffG rfl rfl ?_
  first | refine XPA.puG rfl rfl (Rd.fA rfl) ?_ | refine XPA.puOffG rfl rfl ?_
  first | refine XPA.rdG rfl rfl (Rd.ldC rfl (tyrow rfl) rfl) ?_ | refine XPA.offG rfl rfl ?_
  first | refine XPA.puG rfl rfl Rd.mv ?_ | refine XPA.puOffG rfl rfl ?_
  first | refine XPA.puG rfl rfl (Rd.nilCheck rfl) ?_ | refine XPA.puOffG rfl rfl ?_
  first | refine XPA.puG rfl rfl (Rd.fA rfl) ?_ | refine XPA.puOffG rfl rfl ?_
  first | refine XPA.rdG rfl rfl (Rd.ldC rfl (tyrow rfl) rfl) ?_ | refine XPA.offG rfl rfl ?_
  refine XPA.wr0 rfl rfl (by first | exact Gd.free | exact Gd.isB rfl rfl rfl | (apply Gd.isQ; rfl; rfl; exact (by first | exact (rfl : decide _ = true) | exact (rfl : decide _ = false) | (refine decide_eq_true ?_; assumption) | (refine decide_eq_false ?_; assumption) | (refine decide_eq_true ?_; omega) | (refine decide_eq_false ?_; omega)); rfl)) (WrA.cE (hld0) rfl) ?_
  rintro _ _ _ ⟨_, ⟨rfl, rfl, rfl⟩, rfl⟩
  refine stays (XPA.cl ?_)
  first | refine XPA.puG rfl rfl (Rd.ixS rfl rfl) ?_ | refine XPA.puOffG rfl rfl ?_
  first | refine XPA.puG rfl rfl (Rd.fA rfl) ?_ | refine XPA.puOffG rfl rfl ?_
  first | refine XPA.rdG rfl rfl (Rd.ldC rfl (tyrow rfl) rfl) ?_ | refine XPA.offG rfl rfl ?_
  first | refine XPA.puG rfl rfl (Rd.eql rfl rfl) ?_ | refine XPA.puOffG rfl rfl ?_
  refine zu rfl rfl zP ?_; refine zu rfl rfl Rd.asg ?_; refine XPA.nil ?_; refine zT (XA.ret ?_)
  exact bodyA.ret (ResA.one rfl rfl) zE ⟨rfl, rfl, rfl⟩
end
theorem bcommitsno_b (σ : PH) (g : Nat) (cv iv : Value) (b : Be) (Γ : List HP) (hB : BeG σ g cv iv b Γ) (hst : b.m.st ≠ 0) :
    CallsA Tryz.prog 37 #[ptr g] σ Γ (RetA fun v σ' Γ' => v = .bool false ∧ σ = σ' ∧ BeG σ' g cv iv b Γ') := by
  obtain ⟨⟨next, stack, rd, outn, st, cells⟩, kept, out, wrong⟩ := b
  obtain ⟨sp, sc, pl, cl, op, oc, k0, k1, k2, k3, k4, k5, hk, rfl⟩ := hB
  simp only at hst hk ⊢
  refine enterA1 Tryz.func37 rfl rfl rfl ?_; refine zS (zR (yS ?_)); refine zN (zT (zS ?_))
  refine XA.draw (by kernel_rfl) _ _ [] [(0, .pu), (1, .pu), (2, .pu), (3, .pu), (4, .rd), (5, .pu), (6, .pu), (7, .pu), (8, .pu), (9, .pu), (10, .rd), (11, .pu), (12, .pu), (13, .pu), (14, .pu), (15, .rd), (16, .pu), (17, .pu), (18, .rd), (19, .pu), (20, .pu), (21, .pu)] (by kernel_rfl) (PH.sub.refl _) (Ent.sel (R := blk g _ _) zL (Ent.nil _)) ?_
  refine zu rfl rfl Rd.mv ?_; refine zu rfl rfl (Rd.nilCheck rfl) ?_; refine zu rfl rfl (Rd.fA rfl) ?_; refine zu rfl rfl (Rd.fA rfl) ?_; refine XPA.rd rfl rfl Gd.free (Rd.ldC rfl (tyrow rfl) rfl) ?_; refine zu rfl rfl (Rd.eql rfl rfl) ?_
  rw [show decide (st = 0) = false from decide_eq_false hst]
  refine zu rfl rfl Rd.mv ?_
  first | refine XPA.puG rfl rfl Rd.mv ?_ | refine XPA.puOffG rfl rfl ?_
  first | refine XPA.puG rfl rfl (Rd.nilCheck rfl) ?_ | refine XPA.puOffG rfl rfl ?_
  first | refine XPA.puG rfl rfl (Rd.fA rfl) ?_ | refine XPA.puOffG rfl rfl ?_
  first | refine XPA.rdG rfl rfl (Rd.ldC rfl (tyrow rfl) rfl) ?_ | refine XPA.offG rfl rfl ?_
  first | refine XPA.puG rfl rfl Rd.mv ?_ | refine XPA.puOffG rfl rfl ?_
  first | refine XPA.puG rfl rfl (Rd.nilCheck rfl) ?_ | refine XPA.puOffG rfl rfl ?_
  first | refine XPA.puG rfl rfl (Rd.fA rfl) ?_ | refine XPA.puOffG rfl rfl ?_
  first | refine XPA.puG rfl rfl (Rd.fA rfl) ?_ | refine XPA.puOffG rfl rfl ?_
  first | refine XPA.rdG rfl rfl (Rd.ldC rfl (tyrow rfl) rfl) ?_ | refine XPA.offG rfl rfl ?_
  first | refine XPA.puG rfl rfl (Rd.ixS rfl rfl) ?_ | refine XPA.puOffG rfl rfl ?_
  first | refine XPA.puG rfl rfl (Rd.fA rfl) ?_ | refine XPA.puOffG rfl rfl ?_
  first | refine XPA.rdG rfl rfl (Rd.ldC rfl (tyrow rfl) rfl) ?_ | refine XPA.offG rfl rfl ?_
  first | refine XPA.puG rfl rfl (Rd.eql rfl rfl) ?_ | refine XPA.puOffG rfl rfl ?_
  refine zu rfl rfl zP ?_; refine zu rfl rfl Rd.asg ?_; refine XPA.nil ?_; refine zT (XA.ret ?_)
  exact bodyA.ret (ResA.one rfl rfl) zE ⟨rfl, rfl, BeG.of hk⟩
theorem bcommits_b (σ : PH) (g : Nat) (pc : Option Addr) (cc : Nat) (code : List In) (iv : Value) (inp : List Int) (b : Be) (x : In) (Γ : List HP) (hc : PSl 4 rIn σ (.slice pc code.length cc) code) (hB : BeG σ g (.slice pc code.length cc) iv b Γ) (hk : StepOk code inp b x) :
    CallsA Tryz.prog 37 #[ptr g] σ Γ (RetA fun v σ' Γ' => v = .bool (decide (x.op = 15)) ∧ σ = σ' ∧ BeG σ' g (.slice pc code.length cc) iv b Γ') := by
  obtain ⟨⟨next, stack, rd, outn, st, cells⟩, kept, out, wrong⟩ := b
  obtain ⟨sp, sc, pl, cl, op, oc, k0, k1, k2, k3, k4, k5, hkp, rfl⟩ := hB
  obtain ⟨hst, hx, -, -, -, -, -, hcd, -, -, -⟩ := hk
  simp only at hst hx hcd hkp
  subst hst
  obtain ⟨xop, xa, xb, xn⟩ := x
  have hlt := (List.getElem?_eq_some_iff.1 hx).1
  obtain ⟨gc, oc', row, rfl, hrx, hrl, hrow⟩ := hc.at hx
  obtain rfl : row = [i64 xop, i64 xa, i64 xb, i64 xn] := hrx
  have hrow0 : PRow σ gc (oc' + next * 4) [i64 xop] := hrow.sub (j := 0) rfl
  dsimp only
  refine enterA1 Tryz.func37 rfl rfl rfl ?_; refine zS (zR (yS ?_)); refine zN (zT (zS ?_))
  refine XA.draw (by kernel_rfl) _ _ [] [(0, .pu), (1, .pu), (2, .pu), (3, .pu), (4, .rd), (5, .pu), (6, .pu), (7, .pu), (8, .pu), (9, .pu), (10, .rd), (11, .pu), (12, .pu), (13, .pu), (14, .pu), (15, .rd), (16, .pu), (17, .pu), (18, .rd), (19, .pu), (20, .pu), (21, .pu)] (by kernel_rfl) (PH.sub.refl _) (Ent.sel (R := blk g _ _) zL (Ent.nil _)) ?_
  refine zu rfl rfl Rd.mv ?_; refine zu rfl rfl (Rd.nilCheck rfl) ?_; refine zu rfl rfl (Rd.fA rfl) ?_; refine zu rfl rfl (Rd.fA rfl) ?_; refine XPA.rd rfl rfl Gd.free (Rd.ldC rfl (tyrow rfl) rfl) ?_; refine zu rfl rfl (Rd.eql rfl rfl) ?_; refine zu rfl rfl Rd.mv ?_
  first | refine XPA.puG rfl rfl Rd.mv ?_ | refine XPA.puOffG rfl rfl ?_
  first | refine XPA.puG rfl rfl (Rd.nilCheck rfl) ?_ | refine XPA.puOffG rfl rfl ?_
  first | refine XPA.puG rfl rfl (Rd.fA rfl) ?_ | refine XPA.puOffG rfl rfl ?_
  first | refine XPA.rdG rfl rfl (Rd.ldC rfl (tyrow rfl) rfl) ?_ | refine XPA.offG rfl rfl ?_
  first | refine XPA.puG rfl rfl Rd.mv ?_ | refine XPA.puOffG rfl rfl ?_
  first | refine XPA.puG rfl rfl (Rd.nilCheck rfl) ?_ | refine XPA.puOffG rfl rfl ?_
  first | refine XPA.puG rfl rfl (Rd.fA rfl) ?_ | refine XPA.puOffG rfl rfl ?_
  first | refine XPA.puG rfl rfl (Rd.fA rfl) ?_ | refine XPA.puOffG rfl rfl ?_
  first | refine XPA.rdG rfl rfl (Rd.ldC rfl (tyrow rfl) rfl) ?_ | refine XPA.offG rfl rfl ?_
  first | refine XPA.puG rfl rfl (Rd.ixS rfl rfl) ?_ | refine XPA.puOffG rfl rfl ?_
  first | refine XPA.puG rfl rfl (Rd.fA rfl) ?_ | refine XPA.puOffG rfl rfl ?_
  first | refine XPA.rdG rfl rfl (Rd.ldC rfl (tyrow rfl) rfl) ?_ | refine XPA.offG rfl rfl ?_
  first | refine XPA.puG rfl rfl (Rd.eql rfl rfl) ?_ | refine XPA.puOffG rfl rfl ?_
  refine zu rfl rfl zP ?_; refine zu rfl rfl Rd.asg ?_; refine XPA.nil ?_; refine zT (XA.ret ?_)
  exact bodyA.ret (ResA.one rfl rfl) zE ⟨rfl, rfl, BeG.of hkp⟩
end Go.Proofs.YtmnmcjdgnpgchaaGreat

namespace Go.Proofs.YtmnmcjdgnpgchaaGreat
open Go X
set_option maxHeartbeats 2000000
def stC (st : Int) : Int := if st = 0 then 13 else if 1 < st then IntKind.i64.wrap (st - 2) else 0
theorem result_m (σ : PH) (g mb sb db pb : Nat) (cv iv : Value) (left : Int) (torn : Bool) (d : DiskS) (s : StS) (M : Me) (m : Mi) (out : List Int) (wrong : Bool) (n : Nat) (hS : Shows M.C m) (hn : n ≤ m.cells.length) (hl : out.length ≤ 1000000) :
    CallsA Tryz.prog 39 #[ptr g, i64 n] σ [blk g [ptr mb, cv, iv, ptr pb, i64 left, .bool torn] 129, Wld mb sb db d s M, Prin pb out wrong] (RetA fun v σ' Γ' => ∃ po co pc cc, v = .agg #[i64 (if wrong then 15 else stC m.st), .slice po out.length co, .slice pc n cc] ∧ PInts σ' (.slice po out.length co) out ∧ PInts σ' (.slice pc n cc) (m.cells.take n) ∧ σ.sub σ' ∧ Γ' = [blk g [ptr mb, cv, iv, ptr pb, i64 left, .bool torn] 129, Wld mb sb db d s M, Prin pb out wrong]) := by
  have h48 := hS.lc
  have e4 : M.ld 4 = m.st := hS.st
  have hld := load_w σ mb sb db d s M 4
  rw [e4] at hld
  obtain ⟨st, hst⟩ : ∃ st, st = m.st := ⟨_, rfl⟩
  rw [← hst] at hld ⊢
  refine enterA2 Tryz.func39 rfl rfl rfl ?_; refine zS (zR ?_); refine zw rfl (WrA.alloc (tyrow rfl)) ?_
  rintro _ _ _ ⟨g4, rfl, rfl, rfl⟩
  refine zN (zT (zS (zR (yA ?_)))); refine zO rfl (Rd.nilCheck rfl) ?_; refine yV ?_; refine yB ?_; refine zw rfl (WrA.cE (plist_a σ pb out wrong hl) rfl) ?_
  rintro _ _ _ ⟨_, ⟨po, co, rfl, rfl, rfl⟩, rfl⟩
  refine XOA.cl ?_; refine zO rfl (Rd.bl (fun _ _ => tyrow) rfl rfl rfl) ?_; refine zw rfl (WrA.alloc (tyrow rfl)) ?_
  rintro _ _ _ ⟨g5, rfl, rfl, rfl⟩
  refine zw rfl (WrA.st (tyrow rfl) rfl) ?_
  rintro _ _ _ ⟨rfl, rfl, rfl⟩
  refine zN (zT (zS (zS (zR (yA ?_))))); refine zO rfl (Rd.nilCheck rfl) ?_; refine yV ?_; refine yB ?_; refine yC (hld) ?_
  first | refine XA.opn (R := Prin pb out wrong) zL (Prin.opn) ?_ | refine XOA.opn (R := Prin pb out wrong) zL (Prin.opn) ?_ | refine DA.opn (R := Prin pb out wrong) zL (Prin.opn) ?_
  rintro ⟨q, cq⟩ -
  first | refine XA.cl ?_ | refine XOA.cl ?_ | refine DA.cl ?_
  refine yS ?_; refine zN (zT ?_)
  refine XA.join [(19, 28)] (fun _ : Unit => []) (fun _ σ' Γ' => σ = σ' ∧ Γ' = [blk g5 [i64 (stC st), .slice po out.length co, .slice none 0 0] 35, blk g4 [i64 0, .slice none 0 0, .slice none 0 0] 35, blk pb [.slice q out.length cq, i64 (codeP wrong)] 61, lst 2 1 (.slice q out.length cq) out.length (ints out), lst 2 1 (.slice po out.length co) out.length (ints out), blk g [ptr mb, cv, iv, ptr pb, i64 left, .bool torn] 129, Wld mb sb db d s M]) ?_ ?_
  · refine XA.block ?_
    refine zS (zR (yA ?_)); refine yE ?_; refine yS ?_; refine zN (zT ?_)
    by_cases h0 : st = 0
    · rw [stC, if_pos h0]
      refine XA.condT rfl (decide_eq_true h0) (zR (yV ?_)); refine zw rfl (WrA.st (tyrow rfl) rfl) ?_
      rintro _ _ _ ⟨rfl, rfl, rfl⟩
      refine zN (DA.inb_normal (zT ?_))
      refine ⟨(Keep.updN (Keep.upd (Keep.upd (Keep.upd (Keep.upd (Keep.refl _ _) rfl) rfl) rfl) rfl)), (), _, zM, ?_, ⟨rfl, rfl⟩⟩
      · exact zE
    by_cases h1 : 1 < st
    · rw [stC, if_neg h0, if_pos h1]
      refine XA.condF rfl (decide_eq_false h0) (zS (zR (yA ?_))); refine zO rfl (Rd.gtr rfl rfl) ?_; refine yS ?_; refine zN (zT (XA.condT rfl (decide_eq_true h1) (zR (yA ?_)))); refine zO rfl (by first | exact Rd.sbi rfl rfl | exact Rd.sub rfl rfl) ?_; refine yV ?_
      refine zw rfl (WrA.st (tyrow rfl) rfl) ?_
      rintro _ _ _ ⟨rfl, rfl, rfl⟩
      refine zN (DA.inb_normal (zT ?_))
      refine ⟨(Keep.updN (Keep.upd (Keep.upd (Keep.upd (Keep.upd (Keep.upd (Keep.upd (Keep.upd (Keep.upd (Keep.upd (Keep.refl _ _) rfl) rfl) rfl) rfl) rfl) rfl) rfl) rfl) rfl)), (), _, zM, ?_, ⟨rfl, rfl⟩⟩
      · exact zE
    rw [stC, if_neg h0, if_neg h1]
    refine XA.condF rfl (decide_eq_false h0) (zS (zR (yA ?_))); refine zO rfl (Rd.gtr rfl rfl) ?_; refine yS ?_; refine zN (zT (XA.condF rfl (decide_eq_false h1) (XA.skip (DA.inb_normal (zT ?_)))))
    refine ⟨(Keep.upd (Keep.upd (Keep.upd (Keep.upd (Keep.upd (Keep.upd (Keep.refl _ _) rfl) rfl) rfl) rfl) rfl) rfl), (), _, zM, ?_, ⟨rfl, rfl⟩⟩
    · exact zE
  rintro ⟨⟩ δ _ _ ⟨rfl, rfl⟩
  dsimp only [ovr, List.foldl]
  refine zT (zS (zS (zR (yA ?_)))); refine zO rfl (Rd.nilCheck rfl) ?_; refine yV ?_; refine yB ?_; refine zO rfl (Rd.nilCheck rfl) ?_; refine yV ?_; refine yB ?_; refine zO rfl (Rd.neq rfl rfl) ?_; refine zN (zT ?_)
  refine XA.join [(37, 44)] (fun _ : Unit => []) (fun _ σ' Γ' => σ = σ' ∧ Γ' = [blk g5 [i64 (if wrong then 15 else stC st), .slice po out.length co, .slice none 0 0] 35, blk g4 [i64 0, .slice none 0 0, .slice none 0 0] 35, blk pb [.slice q out.length cq, i64 (codeP wrong)] 61, lst 2 1 (.slice q out.length cq) out.length (ints out), lst 2 1 (.slice po out.length co) out.length (ints out), blk g [ptr mb, cv, iv, ptr pb, i64 left, .bool torn] 129, Wld mb sb db d s M]) ?_ ?_
  · skip
    cases wrong with
    | true =>
      refine yT rfl rfl (zR (yA ?_)); refine zO rfl (Rd.nilCheck rfl) ?_; refine yV ?_; refine yB ?_; refine zO rfl (Rd.nilCheck rfl) ?_; refine yV ?_; refine yB ?_; refine yV ?_; refine zw rfl (WrA.st (tyrow rfl) rfl) ?_
      rintro _ _ _ ⟨rfl, rfl, rfl⟩
      refine zN (zT ?_)
      refine ⟨(Keep.updN (Keep.upd (Keep.upd (Keep.upd (Keep.upd (Keep.upd (Keep.upd (Keep.upd (Keep.upd (Keep.refl _ _) rfl) rfl) rfl) rfl) rfl) rfl) rfl) rfl)), (), _, zM, ?_, ⟨rfl, rfl⟩⟩
      · exact zE
    | false =>
      refine yF rfl rfl (XA.skip (zT ?_))
      refine ⟨(Keep.refl _ _), (), _, zM, ?_, ⟨rfl, rfl⟩⟩
      · exact zE
  rintro ⟨⟩ δ2 _ _ ⟨rfl, rfl⟩
  dsimp only [ovr, List.foldl]
  refine zT ?_; refine XA.ent (Ent.selNil (e := 2) (size := 1) (Ent.refl _)) ?_; refine zS (zS (zR (yA ?_))); refine yA ?_; refine zN (zT (XA.block ?_))
  refine XA.gen [(0, _), (4, _), (5, _), (45, _), (46, _)] ⟨(by with_reducible (conv => lhs; whnf)), (by with_reducible (conv => lhs; whnf)), (by with_reducible (conv => lhs; whnf)), (by with_reducible (conv => lhs; whnf)), (by with_reducible (conv => lhs; whnf)), trivial⟩ (fun δ => ?_)
  dsimp only [List.foldl]
  refine XA.loop [(7, 7), (46, 61)] (fun x : Nat × (Option Addr × Nat) => [(46, i64 x.1)]) (fun x σ' Γ' => σ = σ' ∧ x.1 ≤ n ∧ Γ' = [blk g5 [i64 (if wrong then 15 else stC st), .slice po out.length co, .slice x.2.1 x.1 x.2.2] 35, lst 2 1 (.slice x.2.1 x.1 x.2.2) x.1 (ints (m.cells.take x.1)), blk g4 [i64 0, .slice none 0 0, .slice none 0 0] 35, blk pb [.slice q out.length cq, i64 (codeP wrong)] 61, lst 2 1 (.slice q out.length cq) out.length (ints out), lst 2 1 (.slice po out.length co) out.length (ints out), blk g [ptr mb, cv, iv, ptr pb, i64 left, .bool torn] 129, Wld mb sb db d s M]) (fun x => n - x.1) (0, (none, 0)) (by exact ⟨rfl, trivial⟩) (Δ0 := _) ?_ (⟨rfl, Nat.zero_le _, rfl⟩) ?_
  · exact zE
  rintro ⟨k, pc, cc⟩ δ3 _ _ ⟨rfl, hk, rfl⟩
  dsimp only [ovr, List.foldl]
  have hk : k ≤ n := hk
  refine zS (zR (zO rfl (Rd.lss rfl rfl) ?_)); refine zN (zT (zS ?_)); refine XA.condp rfl (fun hlt => ?_) (fun hlt => ?_)
  · have hlt : k < n := by omega
    have hck : M.ld (5 + (k : Int)) = m.cells.getD k 0 := hS.ce k (by omega)
    obtain ⟨y, hy⟩ : ∃ y, y = m.cells.getD k 0 := ⟨_, rfl⟩
    have hxk : m.cells[k]? = some y := by rw [hy, List.getD_eq_getElem?_getD, List.getElem?_eq_getElem (by omega)]; rfl
    have htk := takeS hxk
    have hlk : (ints (m.cells.take k)).length = k * 1 := by rw [ints_len, List.length_take]; omega
    have hldk := load_w σ mb sb db d s M (5 + (k : Int))
    rw [hck, ← hy] at hldk
    have hone : ones [i64 y] := ones_lit rfl
    refine XA.skip (zT (zS (XA.block (zS (zR (yA ?_)))))); refine yS ?_; refine zN (zT ?_)
    refine XA.draw (by kernel_rfl) _ _ [10, 12] [(0, .pu), (1, .rd), (2, .pu), (3, .pu), (4, .pu), (5, .rd), (6, .pu), (7, .pu), (8, .wr), (9, .wr), (10, .wr), (11, .pu), (12, .wr)] (by kernel_rfl) (PH.sub.refl _) (Ent.sel (R := blk g5 _ _) zL (Ent.sel (R := blk g _ _) zL (Ent.nil _))) ?_
    refine zu rfl rfl (Rd.fA rfl) ?_; refine XPA.rd rfl rfl Gd.free (Rd.ldC rfl (tyrow rfl) rfl) ?_; refine zu rfl rfl Rd.mv ?_; refine zu rfl rfl (Rd.nilCheck rfl) ?_; refine zu rfl rfl (Rd.fA rfl) ?_; refine XPA.rd rfl rfl Gd.free (Rd.ldC rfl (tyrow rfl) rfl) ?_; refine zu rfl rfl Rd.mv ?_
    refine zu rfl rfl zI ?_; refine XPA.wr0 rfl rfl Gd.free (WrA.cE (hldk) rfl) ?_
    rintro _ _ _ ⟨_, ⟨rfl, rfl, rfl⟩, rfl⟩
    refine stays (XPA.cl ?_); refine XPA.wr0 rfl rfl Gd.free (WrA.bs1 (tyrow rfl) rfl (tyrow rfl)) ?_
    rintro _ _ _ ⟨g58, rfl, rfl, rfl⟩
    refine stays ?_
    refine XPA.wrZ0 rfl rfl Gd.free (by kernel_rfl) (WrA.ap1 (tyrow rfl) rfl (tyrow rfl) rfl rfl rfl) ?_
    rintro _ _ _ ⟨p59, c59, rfl, rfl, rfl⟩
    refine zu rfl rfl (Rd.fA rfl) ?_
    refine XPA.wrZ0 rfl rfl Gd.free (by kernel_rfl) (WrA.st (tyrow rfl) rfl) ?_
    rintro _ _ _ ⟨rfl, rfl, rfl⟩
    refine XPA.nil ?_; refine DA.inb_normal (zT (zR (zO rfl zI ?_))); refine yA ?_; refine zN (zT ?_)
    refine ⟨(Keep.upd (Keep.upd (Keep.updN (Keep.upd (Keep.updO (Keep.updO (Keep.updO (Keep.upd (Keep.upd (Keep.upd (Keep.upd (Keep.upd (Keep.upd (Keep.upd (Keep.upd (Keep.upd (Keep.upd (Keep.upd (Keep.upd (Keep.hav (Keep.hav (Keep.refl _ _) rfl) rfl) rfl) rfl) rfl) rfl) rfl) rfl) rfl) rfl) rfl) rfl) rfl) rfl) rfl) rfl) rfl) rfl)) rfl) rfl), (k + 1, (p59, c59)), _, zM, ?_, ⟨rfl, hlt, rfl⟩, (by simp only; omega)⟩
    · rw [htk, show ints (m.cells.take k ++ [y]) = ints (m.cells.take k) ++ [i64 y] by simp [ints]]; exact zE
  obtain rfl : k = n := by omega
  refine XA.exit (DA.thn_exit (DA.thn_exit (DA.inb_same (zT (zS (zR (zO rfl (Rd.ldA rfl) ?_))))))); refine zw rfl (WrA.st (tyrow rfl) rfl) ?_
  rintro _ _ _ ⟨rfl, rfl, rfl⟩
  refine zN (zT (XA.ret ?_)); refine DA.frz (R := lst 2 1 (.slice po out.length co) _ _) zL lst_frz lst_frz_mono ?_
  rintro σ1 ⟨⟩ hf1 hs1
  refine DA.frz (R := lst 2 1 (.slice pc k cc) _ _) zL lst_frz lst_frz_mono ?_
  rintro σ2 ⟨⟩ hf2 hs2
  refine DA.ent (Ent.foldC (Θ := [blk pb [.slice q out.length cq, i64 (codeP wrong)] 61, lst 2 1 (.slice q out.length cq) out.length (ints out)]) zD (Prin.mk rfl rfl rfl) (Ent.refl _)) ?_
  exact bodyA.ret (ResA.cell1 rfl rfl (Ld.atBlk (tyrow rfl) rfl zL rfl (by first | exact take0 (by first | rfl | assumption | (refine (ints_len _).trans ?_; assumption) | (simp [*]; (first | done | fail))) | assumption | exact take_app (by first | rfl | assumption | (refine (ints_len _).trans ?_; assumption) | (simp [*]; (first | done | fail))) | (conv => lhs; simp only [List.drop_succ_cons, List.drop_zero, List.take_succ_cons, List.take_zero])) (by first | rfl | assumption | (refine (ints_len _).trans ?_; assumption) | (simp [*]; (first | done | fail))))) zE ⟨po, co, pc, cc, rfl, pints_frz rfl (lst_frz_mono () _ _ hf1 hs2), pints_frz (by rw [List.length_take]; omega) hf2, hs1.trans hs2, rfl⟩
end Go.Proofs.YtmnmcjdgnpgchaaGreat

namespace Go.Proofs.YtmnmcjdgnpgchaaGreat
open Go X
set_option maxHeartbeats 1000000
def nextB (code : List In) (inp : List Int) (keep : Bool) (b : Be) : Be := if b.m.st = 0 then stepB code inp keep b else b
def nextM (code : List In) (inp : List Int) (M : Me) : Me := if M.ld 4 = 0 then M.stepM code inp else M
theorem doIn_keep (inp : List Int) (x : In) (b : Be) (keep : Bool) : (doIn inp keep x b).m = (doIn inp false x b).m ∧ (doIn inp keep x b).out = (doIn inp false x b).out ∧ (doIn inp keep x b).wrong = (doIn inp false x b).wrong := by
  cases keep with
  | false => exact ⟨rfl, rfl, rfl⟩
  | true =>
    by_cases h : x.op = 15
    · obtain ⟨op, a1, a2, a3⟩ := x
      simp only at h
      subst h
      exact ⟨rfl, rfl, rfl⟩
    · have e : doIn inp true x b = doIn inp false x b := by simp only [doIn, if_neg h]
      rw [e]; exact ⟨rfl, rfl, rfl⟩
theorem stepB_keep (code : List In) (inp : List Int) (b : Be) (keep : Bool) : (stepB code inp keep b).m = (stepB code inp false b).m ∧ (stepB code inp keep b).out = (stepB code inp false b).out ∧ (stepB code inp keep b).wrong = (stepB code inp false b).wrong := by
  rw [stepB, stepB]
  cases code[b.m.next]? with
  | none => exact ⟨rfl, rfl, rfl⟩
  | some x => exact doIn_keep inp x (bump b) keep
theorem nextB_keep (code : List In) (inp : List Int) (b : Be) (keep : Bool) : (nextB code inp keep b).m = (nextB code inp false b).m ∧ (nextB code inp keep b).out = (nextB code inp false b).out ∧ (nextB code inp keep b).wrong = (nextB code inp false b).wrong := by
  rw [nextB, nextB]; split
  · exact stepB_keep code inp b keep
  · exact ⟨rfl, rfl, rfl⟩
structure MachOk (p : Pr) (inp : List Int) (M : Me) (b : Be) (k : Nat) : Prop where
  ch : checkP p = 0
  inv : MInv p inp b.out.length b.m
  sh : Shows M.C b.m
  inl : inp.length ≤ 1000000
  cl : (codeOf p).length ≤ 1000000
  ol : b.out.length ≤ k
theorem MachOk.st {p : Pr} {inp : List Int} {M : Me} {b : Be} {k : Nat} (h : MachOk p inp M b k) : M.ld 4 = b.m.st := h.sh.st
theorem MachOk.ok {p : Pr} {inp : List Int} {M : Me} {b : Be} {k : Nat} (h : MachOk p inp M b k) (hk : k ≤ 1000000) (h0 : b.m.st = 0) : ∃ x, StepOk (codeOf p) inp b x ∧ b.m.stack.length < 59 := by
  obtain ⟨x, hx⟩ := h.inv.ok h.ch h0 h.inl (by have := h.ol; omega) h.cl
  obtain ⟨h1, h2⟩ := h.inv.at_ h0
  have := hts_le h.ch h1
  exact ⟨x, hx, by omega⟩
theorem MachOk.next {p : Pr} {inp : List Int} {M : Me} {b : Be} {k : Nat} (h : MachOk p inp M b k) (hk : k ≤ 1000000) (keep : Bool) : MachOk p inp (nextM (codeOf p) inp M) (nextB (codeOf p) inp keep b) (k + 1) := by
  have e := h.st
  by_cases h0 : b.m.st = 0
  · obtain ⟨x, hx, hs⟩ := h.ok hk h0
    obtain ⟨q1, q2, q3, -⟩ := h.inv.step (keep := keep) h.ch hx
    rw [nextM, if_pos (by omega), nextB, if_pos h0]
    exact ⟨h.ch, q1, h.sh.step keep hx hs, h.inl, h.cl, by have := h.ol; omega⟩
  · rw [nextM, if_neg (by omega), nextB, if_neg h0]
    exact ⟨h.ch, h.inv, h.sh, h.inl, h.cl, by have := h.ol; omega⟩
theorem MachOk.cells {p : Pr} {inp : List Int} {M : Me} {b : Be} {k : Nat} (h : MachOk p inp M b k) : b.m.cells.length = (sizes p.vars).toNat := h.inv.cells
section
variable (σ : PH) (g mb sb db pb : Nat) (pc pi : Option Addr) (cc ci : Nat) (inp : List Int) (d : DiskS) (s : StS) (M : Me) (b : Be) (p : Pr) (k : Nat)
theorem any_m (hc : PSl 4 rIn σ (.slice pc (codeOf p).length cc) (codeOf p)) (hi : PInts σ (.slice pi inp.length ci) inp) (hg : s.gen < 4611686018427387904) (h : MachOk p inp M b k) (hk : k ≤ 1000000) :
    CallsA Tryz.prog 59 #[ptr g] σ [blk g [ptr mb, .slice pc (codeOf p).length cc, .slice pi inp.length ci, ptr pb, i64 0, .bool false] 129, Wld mb sb db d s M, Prin pb b.out b.wrong] (RetA fun v σ' Γ' => ∃ (d' : DiskS) (s' : StS), v = .bool (decide (b.m.st = 0)) ∧ s'.gen ≤ s.gen + 1 ∧ (d' = d ∧ s' = s ∨ Good d' s' ∧ pagesC d' s' = (nextM (codeOf p) inp M).C ∧ b.m.st = 0 ∧ ∃ x, (codeOf p)[b.m.next]? = some x ∧ x.op = 15) ∧ ((∀ x, (codeOf p)[b.m.next]? = some x → x.op ≠ 15) → d' = d ∧ s' = s) ∧ ((∀ x, (codeOf p)[b.m.next]? = some x → x.op = 15) → b.m.st = 0 → Good d' s' ∧ pagesC d' s' = (nextM (codeOf p) inp M).C) ∧ σ.sub σ' ∧ Γ' = [blk g [ptr mb, .slice pc (codeOf p).length cc, .slice pi inp.length ci, ptr pb, i64 0, .bool false] 129, Wld mb sb db d' s' (nextM (codeOf p) inp M), Prin pb (nextB (codeOf p) inp false b).out (nextB (codeOf p) inp false b).wrong]) := by
  have e := h.st
  by_cases h0 : b.m.st = 0
  · obtain ⟨x, hx, hs⟩ := h.ok hk h0
    rw [nextM, if_pos (by omega), nextB, if_pos h0]
    by_cases h15 : x.op = 15
    · have e1 : (stepB (codeOf p) inp false b).out = b.out ∧ (stepB (codeOf p) inp false b).wrong = b.wrong := by
        rw [stepB, hx.at_]
        obtain ⟨op, a1, a2, a3⟩ := x
        simp only at h15
        subst h15
        exact ⟨rfl, rfl⟩
      rw [e1.1, e1.2]
      refine CallsA.ret (R := fun v σ' Γ' => ∃ Γ1, (∃ (d' : DiskS) (s' : StS), v = .bool true ∧ s'.gen = s.gen + 1 ∧ pagesC d' s' = (M.stepM (codeOf p) inp).C ∧ Good d' s' ∧ σ.sub σ' ∧ Γ1 = [blk g [ptr mb, .slice pc (codeOf p).length cc, .slice pi inp.length ci, ptr pb, i64 0, .bool false] 129, Wld mb sb db d' s' (M.stepM (codeOf p) inp)]) ∧ Γ' = Γ1 ++ [Prin pb b.out b.wrong]) (((stepC_m σ g mb sb db pb pc pi cc ci (codeOf p) inp false d s M b x hc hg h.sh hx h15).frame [Prin pb b.out b.wrong] (Ent.refl _)).mono ?_) ?_
      · rintro e σ' _ ⟨Γ1, q, rfl⟩
        cases e with
        | returned v => exact ⟨Γ1, q, rfl⟩
        | panicked c => exact q.elim
        | outgrown => exact q.elim
      · rintro v σ' _ ⟨Γ1, ⟨d', s', rfl, q1, q2, q3, q4, rfl⟩, rfl⟩
        refine ⟨d', s', by rw [decide_eq_true h0], by omega, .inr ⟨q3, q2, h0, x, hx.at_, h15⟩, fun q => absurd h15 (q x hx.at_), fun _ _ => ⟨q3, q2⟩, q4, rfl⟩
    · refine (step_m σ g mb sb db pb pc pi cc ci (codeOf p) inp 0 false d s M b x hc hi h.inl h.sh hx hs h15).ret ?_
      rintro v σ' _ ⟨rfl, rfl, rfl⟩
      exact ⟨d, s, by rw [decide_eq_true h0], by omega, .inl ⟨rfl, rfl⟩, fun _ => ⟨rfl, rfl⟩, fun q => absurd (q x hx.at_) h15, .refl _, rfl⟩
  · rw [nextM, if_neg (by omega), nextB, if_neg h0]
    refine CallsA.ret (R := fun v σ' Γ' => ∃ Γ1, (v = .bool false ∧ σ = σ' ∧ Γ1 = [blk g [ptr mb, .slice pc (codeOf p).length cc, .slice pi inp.length ci, ptr pb, i64 0, .bool false] 129, Wld mb sb db d s M]) ∧ Γ' = Γ1 ++ [Prin pb b.out b.wrong]) (((stepdone_m σ g mb sb db pb (.slice pc (codeOf p).length cc) (.slice pi inp.length ci) 0 false d s M (by omega)).frame [Prin pb b.out b.wrong] (Ent.refl _)).mono ?_) ?_
    · rintro e σ' _ ⟨Γ1, q, rfl⟩
      cases e with
      | returned v => exact ⟨Γ1, q, rfl⟩
      | panicked c => exact q.elim
      | outgrown => exact q.elim
    · rintro v σ' _ ⟨Γ1, ⟨rfl, rfl, rfl⟩, rfl⟩
      exact ⟨d, s, by rw [decide_eq_false h0], by omega, .inl ⟨rfl, rfl⟩, fun _ => ⟨rfl, rfl⟩, fun _ q => absurd q h0, .refl _, rfl⟩
end
end Go.Proofs.YtmnmcjdgnpgchaaGreat

namespace Go.Proofs.YtmnmcjdgnpgchaaGreat
open Go X
set_option maxHeartbeats 1000000
theorem ResA.ct {P : Program} {ρ : Env} {σ : PH} {Γ : List HP} {fn : Func} {t1 t3 : Tmp} {T1 : TypeId} {g1 o1 : Nat} {v1 v3 : Value} (hf : fn.results = #[.cell t1 T1, .tmp t3]) (h1 : ρ t1 = .pointer (some ⟨g1, o1, none⟩)) (h3 : ρ t3 = v3)
    (l1 : ∀ h, Ho σ Γ h → Ld P h T1 g1 o1 v1) : ResA P fn ρ σ Γ (.tuple #[v1, v3]) := fun h hh w a hw he => by
  have e1 := he.get t1; rw [h1] at e1; simp at e1
  have e3 := he.get t3; rw [h3] at e3; simp at e3
  simp [results, hf, e1, e3, asAddr, l1 h hh w hw]
theorem be0_inv {p : Pr} (hc : checkP p = 0) (inp : List Int) : MInv p inp 0 (be0 (sizes p.vars).toNat).m := by
  have hl : 0 < (codeOf p).length := by
    have : codeOf p = stsCode p.vars p.body 0 ++ [⟨16, 0, 0, 0⟩] := rfl
    rw [this, List.length_append]; simp
  exact ⟨fun _ => ⟨hl, by simp [be0, hts_nil]⟩, by simp [be0], Nat.le_refl _, Nat.zero_le _⟩
end Go.Proofs.YtmnmcjdgnpgchaaGreat

namespace Go.Proofs.YtmnmcjdgnpgchaaGreat
open Go X
set_option maxHeartbeats 2000000
theorem wordC_noP (a : Int) : wordC noP a = 0 := by
  unfold wordC; split
  · rename_i h
    have h8 : a.toNat / 8 < 14 := by omega
    have e : noP.getD (a.toNat / 8) DiskS.zeros = DiskS.zeros := by
      rw [noP, List.getD_eq_getElem?_getD, List.getElem?_replicate]; split <;> rfl
    rw [e]
    have h9 : a.toNat % 8 < 8 := by omega
    generalize a.toNat % 8 = k at h9
    match k, h9 with
    | 0, _ => rfl
    | 1, _ => rfl
    | 2, _ => rfl
    | 3, _ => rfl
    | 4, _ => rfl
    | 5, _ => rfl
    | 6, _ => rfl
    | 7, _ => rfl
  · rfl
theorem shows0 {n : Nat} (h : n ≤ 48) : Shows noP (be0 n).m :=
  ⟨noP_ok, wordC_noP _, wordC_noP _, wordC_noP _, wordC_noP _, wordC_noP _, fun k hk => by rw [wordC_noP]; simp [be0, List.getD_eq_getElem?_getD, List.getElem?_replicate]; split <;> rfl, fun j hj => by simp [be0] at hj, by simpa [be0] using h, by simp [be0]⟩
def M0 : Me := ⟨noP, noB⟩
theorem mach0 {p : Pr} (hc : checkP p = 0) (inp : List Int) (hi : inp.length ≤ 1000000) (hl : (codeOf p).length ≤ 1000000) : MachOk p inp M0 (be0 (sizes p.vars).toNat) 0 := by
  obtain ⟨-, -, hv1, h48⟩ := check_valid hc
  exact ⟨hc, be0_inv hc inp, shows0 (by omega), hi, hl, Nat.le_refl _⟩
end Go.Proofs.YtmnmcjdgnpgchaaGreat

namespace Go.Proofs.YtmnmcjdgnpgchaaGreat
open Go X
set_option maxHeartbeats 2000000
theorem sameO_a (σ : PH) (v : Value) (xs ys : List Int) (q : Option Addr) (n c : Nat) (hv : PInts σ v xs) (hn : ys.length = n) (hl : n ≤ 1000000) :
    CallsA Tryz.prog 21 #[v, .slice q n c] σ [lst 2 1 (.slice q n c) n (ints ys)] (RetA fun r σ' Γ' => r = .bool (decide (xs = ys)) ∧ σ = σ' ∧ Γ' = [lst 2 1 (.slice q n c) n (ints ys)]) := by
  subst hn
  obtain ⟨p, c', rfl, hle, hmx⟩ := hv.shape
  have hlen : xs.length ≤ maxLen := by omega
  simp only [maxLen] at hlen
  by_cases hne : xs.length = ys.length
  · by_cases h0 : ys = []
    · subst h0
      have hx0 : xs.length = 0 := hne
      rw [show decide (xs = []) = true from decide_eq_true (List.eq_nil_of_length_eq_zero hx0)]
      rw [hx0]
      refine enterA2 Tryz.func21 rfl rfl rfl ?_; refine zS (zR (yS ?_)); refine zN (zT (zS (zS (zR (yA ?_))))); refine zO rfl (Rd.lenSlice (tyrow rfl) rfl rfl) ?_; refine yA ?_; refine zO rfl (Rd.lenSlice (tyrow rfl) rfl rfl) ?_; refine zO rfl (Rd.neq rfl rfl) ?_
      refine zN (zT (yF rfl rfl (XA.skip (zT (zS (zS (zR (yS ?_)))))))); refine zN (zT (XA.block ?_))
      refine XA.gen [(0, _), (1, _), (4, _), (5, _)] ⟨(by with_reducible (conv => lhs; whnf)), (by with_reducible (conv => lhs; whnf)), (by with_reducible (conv => lhs; whnf)), (by with_reducible (conv => lhs; whnf)), trivial⟩ (fun δ => ?_)
      dsimp only [List.foldl]
      refine XA.loop [(4, 5), (11, 25)] (fun k : Nat => [(5, i64 k)]) (fun k σ' Γ' => σ = σ' ∧ k = 0 ∧ Γ' = [lst 2 1 (.slice q 0 c) 0 (ints [])]) (fun k => 0) 0 (by exact ⟨rfl, trivial⟩) (Δ0 := _) ?_ (⟨rfl, rfl, rfl⟩) ?_
      · exact zE
      rintro k δ _ _ ⟨rfl, rfl, rfl⟩
      dsimp only [ovr, List.foldl]
      refine zS (zS (zR (yA ?_))); refine yA ?_; refine zO rfl (Rd.lenSlice (tyrow rfl) rfl rfl) ?_; refine zO rfl (Rd.lss rfl rfl) ?_; refine zN (zT (yF rfl rfl (XA.exit (DA.thn_exit (DA.thn_exit (DA.inb_same (zT (zS (zR (yS ?_)))))))))); refine zN (zT (XA.ret ?_))
      exact bodyA.ret (ResA.one rfl rfl) zE ⟨rfl, rfl, rfl⟩
    have hpos : 0 < ys.length := List.length_pos_iff.2 h0
    refine CallsA.opn .head (lst_some hpos) (enters Tryz.func21 rfl rfl) ?_
    rintro g rfl
    rw [← hne]
    refine enterA2 Tryz.func21 rfl rfl rfl ?_; refine zS (zR (yS ?_)); refine zN (zT (zS (zS (zR (yA ?_))))); refine zO rfl (Rd.lenSlice (tyrow rfl) rfl rfl) ?_; refine yA ?_; refine zO rfl (Rd.lenSlice (tyrow rfl) rfl rfl) ?_; refine zO rfl (Rd.neq rfl rfl) ?_; refine zN (zT ?_)
    refine XA.condF rfl (decide_eq_false (fun h => h rfl)) ?_; refine XA.skip (zT (zS (zS (zR (yS ?_))))); refine zN (zT (XA.block ?_))
    refine XA.gen [(0, _), (1, _), (4, _), (5, _)] ⟨(by with_reducible (conv => lhs; whnf)), (by with_reducible (conv => lhs; whnf)), (by with_reducible (conv => lhs; whnf)), (by with_reducible (conv => lhs; whnf)), trivial⟩ (fun δ => ?_)
    dsimp only [List.foldl]
    refine XA.loop [(4, 5), (11, 25)] (fun k : Nat => [(5, i64 k)]) (fun k σ' Γ' => σ = σ' ∧ k ≤ xs.length ∧ xs.take k = ys.take k ∧ Γ' = [lst 2 1 (.slice (some ⟨g, 0, none⟩) xs.length c) xs.length (ints ys)]) (fun k => xs.length - k) 0 (by exact ⟨rfl, trivial⟩) (Δ0 := _) ?_ (⟨rfl, Nat.zero_le _, rfl, rfl⟩) ?_
    · exact zE
    rintro k δ _ _ ⟨rfl, hk, hall, rfl⟩
    dsimp only [ovr, List.foldl]
    have hk : k ≤ xs.length := hk
    refine zS (zS (zR (yA ?_))); refine yA ?_; refine zO rfl (Rd.lenSlice (tyrow rfl) rfl rfl) ?_; refine zO rfl (Rd.lss rfl rfl) ?_; refine zN (zT ?_); refine XA.condp rfl (fun hlt => ?_) (fun hlt => ?_)
    · have hlt : k < xs.length := by omega
      obtain ⟨x, hx⟩ : ∃ x, xs[k]? = some x := ⟨_, List.getElem?_eq_getElem hlt⟩
      obtain ⟨y, hy⟩ : ∃ y, ys[k]? = some y := ⟨_, List.getElem?_eq_getElem (by omega)⟩
      obtain ⟨g1, o, rfl, hr⟩ := hv.at hx
      have hcell : (ints ys)[k]? = some (i64 y) := by simp [ints, hy]
      rw [Nat.mul_one] at hr
      refine XA.skip (zT (zS (XA.block (zS ?_))))
      refine XA.draw (by kernel_rfl) _ _ [] [(0, .pu), (1, .pu), (2, .pu), (3, .rd), (4, .pu), (5, .pu), (6, .pu), (7, .rd), (8, .pu)] (by kernel_rfl) (PH.sub.refl _) (Ent.sel (R := lst 2 1 (.slice (some ⟨g, 0, none⟩) xs.length c) _ _) zL (Ent.nil _)) ?_
      refine zu rfl rfl Rd.mv ?_; refine zu rfl rfl Rd.mv ?_; refine zu rfl rfl (Rd.ixS rfl rfl) ?_; refine XPA.rd rfl rfl Gd.free (Rd.ldC rfl (tyrow rfl) rfl) ?_; refine zu rfl rfl Rd.mv ?_; refine zu rfl rfl Rd.mv ?_; refine zu rfl rfl (Rd.ixS rfl rfl) ?_
      refine XPA.rd rfl rfl Gd.free (Rd.ldC rfl (tyrow rfl) rfl) ?_; refine zu rfl rfl (Rd.neq rfl rfl) ?_; refine XPA.nil ?_; refine zT ?_; refine XA.condp rfl (fun he => ?_) (fun he => ?_)
      · refine zS ?_
        refine zR (yS ?_); refine zN (zT (XA.ret (DA.inb_ret (DA.thn_ret (DA.thn_ret (DA.inb_ret (DA.thn_ret ?_)))))))
        exact bodyA.ret (ResA.one rfl rfl) zE ⟨congrArg Value.bool (decide_eq_false (fun e => by subst e; rw [hx] at hy; simp only [Option.some.injEq] at hy; exact he hy)).symm, rfl, rfl⟩
      have hxy : x = y := Classical.byContradiction he
      refine XA.skip (DA.inb_normal (zT (zR (yA ?_)))); refine zO rfl zI ?_; refine yS ?_; refine zN (zT ?_)
      refine ⟨(Keep.upd (Keep.upd (Keep.upd (Keep.upd (Keep.upd (Keep.upd (Keep.upd (Keep.upd (Keep.upd (Keep.upd (Keep.upd (Keep.upd (Keep.upd (Keep.upd (Keep.upd (Keep.upd (Keep.upd (Keep.hav (Keep.hav (Keep.refl _ _) rfl) rfl) rfl) rfl) rfl) rfl) rfl) rfl) rfl) rfl) rfl) rfl) rfl) rfl) rfl) rfl) rfl) rfl) rfl), k + 1, _, zM, ?_, ⟨rfl, hlt, by rw [takeS hx, takeS hy, hall, hxy], rfl⟩, (by omega)⟩
      · exact zE
    obtain rfl : k = xs.length := by omega
    refine XA.exit (DA.thn_exit (DA.thn_exit (DA.inb_same (zT (zS (zR (yS ?_))))))); refine zN (zT (XA.ret ?_))
    exact bodyA.ret (ResA.one rfl rfl) zE ⟨congrArg Value.bool (decide_eq_true (by rw [List.take_length, hne, List.take_length] at hall; exact hall)).symm, rfl, rfl⟩
  · rw [decide_eq_false (fun e => hne (by rw [e]))]
    refine enterA2 Tryz.func21 rfl rfl rfl ?_
    refine zS (zR (yS ?_)); refine zN (zT (zS (zS (zR (yA ?_))))); refine zO rfl (Rd.lenSlice (tyrow rfl) rfl rfl) ?_; refine yA ?_; refine zO rfl (Rd.lenSlice (tyrow rfl) rfl rfl) ?_; refine zO rfl (Rd.neq rfl rfl) ?_; refine zN (zT (XA.condT rfl (decide_eq_true (by omega)) ?_))
    refine zS (zR (yS ?_)); refine zN (zT (XA.ret (DA.thn_ret ?_)))
    exact bodyA.ret (ResA.one rfl rfl) zE ⟨rfl, rfl, rfl⟩
end Go.Proofs.YtmnmcjdgnpgchaaGreat

namespace Go.Proofs.YtmnmcjdgnpgchaaGreat
open Go X
set_option maxHeartbeats 1000000
theorem slongs_a (σ : PH) (v w : Value) (xs ys : List Int) (hv : PInts σ v xs) (hw : PInts σ w ys) : CallsA Tryz.prog 21 #[v, w] σ [] (RetA fun r σ' Γ' => r = .bool (decide (xs = ys)) ∧ σ = σ' ∧ Γ' = []) := by
  obtain ⟨p, c, rfl, hle, hmx⟩ := hv.shape
  obtain ⟨p', c', rfl, hle', hmx'⟩ := hw.shape
  have hlen : xs.length ≤ maxLen := by omega
  simp only [maxLen] at hlen
  refine enterA2 Tryz.func21 rfl rfl rfl ?_; refine zS (zR (yS ?_)); refine zN (zT (zS (zS (zR (yA ?_))))); refine zO rfl (Rd.lenSlice (tyrow rfl) rfl rfl) ?_; refine yA ?_; refine zO rfl (Rd.lenSlice (tyrow rfl) rfl rfl) ?_; refine zO rfl (Rd.neq rfl rfl) ?_; refine zN (zT ?_)
  refine XA.condp rfl (fun hne => ?_) (fun hne => ?_)
  · refine zS ?_
    refine zR (yS ?_); refine zN (zT (XA.ret (DA.thn_ret ?_)))
    exact bodyA.ret (ResA.one rfl rfl) zE ⟨congrArg Value.bool (decide_eq_false (fun e => hne (by rw [e]))).symm, rfl, rfl⟩
  have hll : xs.length = ys.length := by omega
  refine XA.skip (zT (zS (zS (zR (yS ?_))))); refine zN (zT (XA.block ?_))
  refine XA.gen [(0, _), (1, _), (4, _), (5, _)] ⟨(by with_reducible (conv => lhs; whnf)), (by with_reducible (conv => lhs; whnf)), (by with_reducible (conv => lhs; whnf)), (by with_reducible (conv => lhs; whnf)), trivial⟩ (fun δ => ?_)
  dsimp only [List.foldl]
  refine XA.loop [(4, 5), (11, 25)] (fun k : Nat => [(5, i64 k)]) (fun k σ' Γ' => σ = σ' ∧ k ≤ xs.length ∧ xs.take k = ys.take k ∧ Γ' = []) (fun k => xs.length - k) 0 (by exact ⟨rfl, trivial⟩) (Δ0 := _) ?_ (⟨rfl, Nat.zero_le _, rfl, rfl⟩) ?_
  · exact zE
  rintro k δ _ _ ⟨rfl, hk, hall, rfl⟩
  dsimp only [ovr, List.foldl]
  refine zS (zS (zR (yA ?_))); refine yA ?_; refine zO rfl (Rd.lenSlice (tyrow rfl) rfl rfl) ?_; refine zO rfl (Rd.lss rfl rfl) ?_; refine zN (zT ?_); refine XA.condp rfl (fun hlt => ?_) (fun hlt => ?_)
  · have hlt : k < xs.length := by omega
    obtain ⟨x, hx⟩ : ∃ x, xs[k]? = some x := ⟨_, List.getElem?_eq_getElem hlt⟩
    obtain ⟨y, hy⟩ : ∃ y, ys[k]? = some y := ⟨_, List.getElem?_eq_getElem (by omega)⟩
    obtain ⟨g, o, rfl, hr⟩ := hv.at hx
    obtain ⟨g', o', rfl, hr'⟩ := hw.at hy
    rw [Nat.mul_one] at hr hr'
    refine XA.skip (zT (zS (XA.block (zS ?_))))
    refine XA.draw (by kernel_rfl) _ _ [] [(0, .pu), (1, .pu), (2, .pu), (3, .rd), (4, .pu), (5, .pu), (6, .pu), (7, .rd), (8, .pu)] (by kernel_rfl) (PH.sub.refl _) (Ent.nil _) ?_
    refine zu rfl rfl Rd.mv ?_; refine zu rfl rfl Rd.mv ?_; refine zu rfl rfl (Rd.ixS rfl rfl) ?_; refine XPA.rd rfl rfl Gd.free (Rd.ldC rfl (tyrow rfl) rfl) ?_; refine zu rfl rfl Rd.mv ?_; refine zu rfl rfl Rd.mv ?_; refine zu rfl rfl (Rd.ixS rfl rfl) ?_
    refine XPA.rd rfl rfl Gd.free (Rd.ldC rfl (tyrow rfl) rfl) ?_; refine zu rfl rfl (Rd.neq rfl rfl) ?_; refine XPA.nil ?_; refine zT ?_; refine XA.condp rfl (fun he => ?_) (fun he => ?_)
    · refine zS ?_
      refine zR (yS ?_); refine zN (zT (XA.ret (DA.inb_ret (DA.thn_ret (DA.thn_ret (DA.inb_ret (DA.thn_ret ?_)))))))
      exact bodyA.ret (ResA.one rfl rfl) zE ⟨congrArg Value.bool (decide_eq_false (fun e => by subst e; rw [hx] at hy; simp only [Option.some.injEq] at hy; exact he hy)).symm, rfl, rfl⟩
    have hxy : x = y := Classical.byContradiction he
    refine XA.skip (DA.inb_normal (zT (zR (yA ?_)))); refine zO rfl zI ?_; refine yS ?_; refine zN (zT ?_)
    refine ⟨(Keep.upd (Keep.upd (Keep.upd (Keep.upd (Keep.upd (Keep.upd (Keep.upd (Keep.upd (Keep.upd (Keep.upd (Keep.upd (Keep.upd (Keep.upd (Keep.upd (Keep.upd (Keep.upd (Keep.upd (Keep.hav (Keep.hav (Keep.refl _ _) rfl) rfl) rfl) rfl) rfl) rfl) rfl) rfl) rfl) rfl) rfl) rfl) rfl) rfl) rfl) rfl) rfl) rfl) rfl), k + 1, _, zM, ?_, ⟨rfl, hlt, by rw [takeS hx, takeS hy, hall, hxy], rfl⟩, (by omega)⟩
    · exact zE
  obtain rfl : k = xs.length := by omega
  refine XA.exit (DA.thn_exit (DA.thn_exit (DA.inb_same (zT (zS (zR (yS ?_))))))); refine zN (zT (XA.ret ?_))
  exact bodyA.ret (ResA.one rfl rfl) zE ⟨congrArg Value.bool (decide_eq_true (by rw [List.take_length, hll, List.take_length] at hall; exact hall)).symm, rfl, rfl⟩
theorem sresult_a (σ : PH) (c : Int) (vo vc wo wc : Value) (out cells : List Int) (h1 : PInts σ vo out) (h2 : PInts σ vc cells) (h3 : PInts σ wo out) (h4 : PInts σ wc cells) :
    CallsA Tryz.prog 11 #[.agg #[i64 c, vo, vc], .agg #[i64 c, wo, wc]] σ [] (RetA fun r σ' Γ' => r = .bool true ∧ σ = σ' ∧ Γ' = []) := by
  obtain ⟨p1, c1, rfl, -, -⟩ := h1.shape
  obtain ⟨p2, c2, rfl, -, -⟩ := h2.shape
  obtain ⟨p3, c3, rfl, -, -⟩ := h3.shape
  obtain ⟨p4, c4, rfl, -, -⟩ := h4.shape
  refine enterA2 Tryz.func11 rfl rfl rfl ?_; refine zS (zR ?_); refine zw rfl WrA.bx ?_
  rintro _ _ _ ⟨g2, rfl, rfl, rfl⟩
  refine zw rfl WrA.bx ?_
  rintro _ _ _ ⟨g3, rfl, rfl, rfl⟩
  refine yS ?_; refine zN (zT (zS (zR (yV ?_)))); refine yB ?_; refine yV ?_; refine yB ?_; refine yE ?_; refine yA ?_
  first | refine gV ?_ | refine zH ?_
  first | refine gB ?_ | refine zH ?_
  first | refine gV ?_ | refine zH ?_
  first | refine gB ?_ | refine zH ?_
  first | refine XOA.wanted rfl rfl ?_ | refine XOA.wq rfl rfl ?_
  refine yC (slongs_a σ _ _ out out h1 h3) ?_
  rw [show decide (out = out) = true from decide_eq_true rfl]
  refine zO rfl zP ?_; refine yA ?_
  first | refine gV ?_ | refine zH ?_
  first | refine gB ?_ | refine zH ?_
  first | refine gV ?_ | refine zH ?_
  first | refine gB ?_ | refine zH ?_
  first | refine XOA.wanted rfl rfl ?_ | refine XOA.wq rfl rfl ?_
  refine yC (slongs_a σ _ _ cells cells h2 h4) ?_
  rw [show decide (cells = cells) = true from decide_eq_true rfl]
  refine zO rfl zP ?_; refine yS ?_; refine zN (zT (XA.ret ?_))
  refine bodyA.ret (ResA.one rfl rfl) (Ent.nil _) ⟨?_, rfl, rfl⟩
  first | rfl | (simp; done) | exact congrArg Value.bool (decide_eq_true rfl)
theorem rows_ints {σ : PH} : ∀ (rows : List (List Value)) (xs : List Int), Rows_ 1 (rInt .i64) σ rows xs → rows.flatten = ints xs
  | [], xs, h => by
    have := h.len
    rw [List.length_nil] at this
    rw [List.eq_nil_of_length_eq_zero this.symm]; rfl
  | r :: rows, xs, h => by
    have hl := h.len
    cases xs with
    | nil => simp at hl
    | cons x xs =>
      have h0 := h.row 0 r x rfl rfl
      have ih := rows_ints rows xs ⟨by simpa using hl, fun q hq => h.size q (by simp [hq]), fun k q y a b => h.row (k + 1) q y (by simpa using a) (by simpa using b)⟩
      rw [List.flatten_cons, ih, h0.1]; rfl
theorem pints_of {σ : PH} {v : Value} {xs : List Int} (h : PSl 1 (rInt .i64) σ v xs) : PInts σ v xs := by
  obtain ⟨p, c, rfl, h1, h2⟩ := h.shape
  obtain ⟨rows, h3, -, h4, h5, h6⟩ := psl_rows h
  refine ⟨p, c, rfl, h1, h5, fun h0 => ?_⟩
  obtain ⟨g, o, e, r⟩ := h6 h0
  rw [rows_ints rows xs h3] at r
  exact ⟨g, o, e, r⟩
end Go.Proofs.YtmnmcjdgnpgchaaGreat

namespace Go.Proofs.YtmnmcjdgnpgchaaGreat
open Go X
set_option maxHeartbeats 2000000
theorem sresultO_a (σ : PH) (c : Int) (vo vc : Value) (op pl : Option Addr) (oc cl : Nat) (out cells : List Int) (h1 : PInts σ vo out) (h2 : PInts σ vc cells) (l1 : out.length ≤ 1000000) (l2 : cells.length ≤ 1000000) :
    CallsA Tryz.prog 11 #[.agg #[i64 c, vo, vc], .agg #[i64 c, .slice op out.length oc, .slice pl cells.length cl]] σ [lst 2 1 (.slice op out.length oc) out.length (ints out), lst 2 1 (.slice pl cells.length cl) cells.length (ints cells)] (RetA fun r σ' Γ' => r = .bool true ∧ σ = σ' ∧ Γ' = [lst 2 1 (.slice op out.length oc) out.length (ints out), lst 2 1 (.slice pl cells.length cl) cells.length (ints cells)]) := by
  obtain ⟨p1, c1, rfl, -, -⟩ := h1.shape
  obtain ⟨p2, c2, rfl, -, -⟩ := h2.shape
  refine enterA2 Tryz.func11 rfl rfl rfl ?_; refine zS (zR ?_); refine zw rfl WrA.bx ?_
  rintro _ _ _ ⟨g2, rfl, rfl, rfl⟩
  refine zw rfl WrA.bx ?_
  rintro _ _ _ ⟨g3, rfl, rfl, rfl⟩
  refine yS ?_; refine zN (zT (zS (zR (yV ?_)))); refine yB ?_; refine yV ?_; refine yB ?_; refine yE ?_; refine yA ?_
  first | refine gV ?_ | refine zH ?_
  first | refine gB ?_ | refine zH ?_
  first | refine gV ?_ | refine zH ?_
  first | refine gB ?_ | refine zH ?_
  first | refine XOA.wanted rfl rfl ?_ | refine XOA.wq rfl rfl ?_
  refine yC (sameO_a σ _ out out op out.length oc h1 rfl l1) ?_
  rw [show decide (out = out) = true from decide_eq_true rfl]
  refine zO rfl zP ?_; refine yA ?_
  first | refine gV ?_ | refine zH ?_
  first | refine gB ?_ | refine zH ?_
  first | refine gV ?_ | refine zH ?_
  first | refine gB ?_ | refine zH ?_
  first | refine XOA.wanted rfl rfl ?_ | refine XOA.wq rfl rfl ?_
  refine yC (sameO_a σ _ cells cells pl cells.length cl h2 rfl l2) ?_
  rw [show decide (cells = cells) = true from decide_eq_true rfl]
  refine zO rfl zP ?_; refine yS ?_; refine zN (zT (XA.ret ?_))
  refine bodyA.ret (ResA.one rfl rfl) zE ⟨?_, rfl, rfl⟩
  first | rfl | (simp; done) | exact congrArg Value.bool (decide_eq_true rfl)
theorem tear_m (σ : PH) (g mb pb : Nat) (pc pi : Option Addr) (nc cc ni ci : Nat) (left : Int) (torn : Bool) (n : Int) :
    CallsA Tryz.prog 61 #[ptr g, i64 n] σ [blk g [ptr mb, .slice pc nc cc, .slice pi ni ci, ptr pb, i64 left, .bool torn] 129] (RetA fun v σ' Γ' => v = .tuple #[] ∧ σ = σ' ∧ Γ' = [blk g [ptr mb, .slice pc nc cc, .slice pi ni ci, ptr pb, i64 n, .bool torn] 129]) := by
  refine enterA2 Tryz.func61 rfl rfl rfl ?_; refine zR (yA ?_); refine yA ?_; refine zO rfl (Rd.nilCheck rfl) ?_; refine yV ?_; refine zw rfl (WrA.st (tyrow rfl) rfl) ?_
  rintro _ _ _ ⟨rfl, rfl, rfl⟩
  refine zN ?_
  exact bodyA.normal (ResA.none rfl) zE ⟨rfl, rfl, rfl⟩
def isC (code : List In) (m : Mi) : Bool := decide (m.st = 0) && (match code[m.next]? with | some x => decide (x.op = 15) | none => false)
theorem isC_no {code : List In} {m : Mi} (h : m.st ≠ 0) : isC code m = false := by rw [isC, decide_eq_false h]; rfl
theorem isC_at {code : List In} {m : Mi} {x : In} (h : m.st = 0) (hx : code[m.next]? = some x) : isC code m = decide (x.op = 15) := by rw [isC, decide_eq_true h, hx]; rfl
theorem commits_any (σ : PH) (g mb sb db pb : Nat) (pc : Option Addr) (cc : Nat) (iv : Value) (left : Int) (torn : Bool) (d : DiskS) (s : StS) (M : Me) (b : Be) (inp : List Int) (p : Pr) (k : Nat) (hc : PSl 4 rIn σ (.slice pc (codeOf p).length cc) (codeOf p)) (h : MachOk p inp M b k) (hk : k ≤ 1000000) :
    CallsA Tryz.prog 60 #[ptr g] σ [blk g [ptr mb, .slice pc (codeOf p).length cc, iv, ptr pb, i64 left, .bool torn] 129, Wld mb sb db d s M] (RetA fun v σ' Γ' => v = .bool (isC (codeOf p) b.m) ∧ σ = σ' ∧ Γ' = [blk g [ptr mb, .slice pc (codeOf p).length cc, iv, ptr pb, i64 left, .bool torn] 129, Wld mb sb db d s M]) := by
  by_cases h0 : b.m.st = 0
  · obtain ⟨x, hx, -⟩ := h.ok hk h0
    rw [isC_at h0 hx.at_]
    exact commits_m σ g mb sb db pb pc cc (codeOf p) iv left torn d s M b inp x hc h.sh hx
  · rw [isC_no h0]
    exact commitsno_m σ g mb sb db pb pc cc (codeOf p) iv left torn d s M (by rw [h.st]; exact h0)
theorem bcommits_any (σ : PH) (g : Nat) (pc : Option Addr) (cc : Nat) (iv : Value) (inp : List Int) (M : Me) (b : Be) (p : Pr) (k : Nat) (Γ : List HP) (hc : PSl 4 rIn σ (.slice pc (codeOf p).length cc) (codeOf p)) (hB : BeG σ g (.slice pc (codeOf p).length cc) iv b Γ) (h : MachOk p inp M b k) (hk : k ≤ 1000000) :
    CallsA Tryz.prog 37 #[ptr g] σ Γ (RetA fun v σ' Γ' => v = .bool (isC (codeOf p) b.m) ∧ σ = σ' ∧ BeG σ' g (.slice pc (codeOf p).length cc) iv b Γ') := by
  by_cases h0 : b.m.st = 0
  · obtain ⟨x, hx, -⟩ := h.ok hk h0
    rw [isC_at h0 hx.at_]
    exact bcommits_b σ g pc cc (codeOf p) iv inp b x Γ hc hB hx
  · rw [isC_no h0]
    exact bcommitsno_b σ g _ iv b Γ hB h0
theorem bany_b (σ : PH) (g : Nat) (pc : Option Addr) (cc : Nat) (iv : Value) (inp : List Int) (M : Me) (b : Be) (p : Pr) (k : Nat) (keep : Bool) (Γ : List HP) (hc : PSl 4 rIn σ (.slice pc (codeOf p).length cc) (codeOf p)) (hi : PInts σ iv inp) (hB : BeG σ g (.slice pc (codeOf p).length cc) iv b Γ) (h : MachOk p inp M b k) (hk : k ≤ 1000000) :
    CallsA Tryz.prog 38 #[ptr g, .bool keep] σ Γ (RetA fun v σ' Γ' => v = .bool (decide (b.m.st = 0)) ∧ σ.sub σ' ∧ BeG σ' g (.slice pc (codeOf p).length cc) iv (nextB (codeOf p) inp keep b) Γ') := by
  by_cases h0 : b.m.st = 0
  · obtain ⟨x, hx, -⟩ := h.ok hk h0
    rw [decide_eq_true h0, nextB, if_pos h0]
    exact step_b σ g pc cc (codeOf p) iv inp b x keep Γ hc hi hB hx
  · rw [decide_eq_false h0, nextB, if_neg h0]
    refine (step_done σ g _ iv b keep Γ hB h0).ret ?_
    rintro v σ' Γ' ⟨rfl, rfl, q⟩
    exact ⟨rfl, .refl _, q⟩
end Go.Proofs.YtmnmcjdgnpgchaaGreat

namespace Go.Proofs.YtmnmcjdgnpgchaaGreat
open Go X
set_option maxHeartbeats 2000000
def deedsJ (M : Me) (left : Int) : Nat := (max (((dirtyL M.C M.dt).length : Int) + 5 - left) 0).toNat
def Half (mb sb db : Nat) (d : DiskS) (s : StS) (M : Me) (j : Nat) : HP := fun m => ∃ x : List Bool × List (List Int), (Good d s ∧ MOk d s x.1 M.dt x.2 M.C) ∧ Sat [blk mb (mcells sb x.1 M.dt x.2) 141, Store sb db s, Disk db (comD d s (dirtyL M.C M.dt) j)] m
theorem Half.opn {mb sb db : Nat} {d : DiskS} {s : StS} {M : Me} {j : Nat} : ∀ m, Half mb sb db d s M j m → ∃ x : List Bool × List (List Int), (Good d s ∧ MOk d s x.1 M.dt x.2 M.C) ∧ Sat [blk mb (mcells sb x.1 M.dt x.2) 141, Store sb db s, Disk db (comD d s (dirtyL M.C M.dt) j)] m := fun _ h => h
theorem Half.mk {mb sb db : Nat} {d : DiskS} {s : StS} {C pg : List (List Int)} {inn dt : List Bool} {j : Nat} (hG : Good d s) (hM : MOk d s inn dt pg C) : ∀ m, Sat [blk mb (mcells sb inn dt pg) 141, Store sb db s, Disk db (comD d s (dirtyL C dt) j)] m → Half mb sb db d s ⟨C, dt⟩ j m := fun _ h => ⟨(inn, pg), ⟨hG, hM⟩, h⟩
theorem dirty_w2 (σ : PH) (mb sb db : Nat) (d : DiskS) (s : StS) (M : Me) :
    CallsA Tryz.prog 103 #[ptr mb] σ [Wld mb sb db d s M] (RetA fun v σ' Γ' => (∃ (p : Option Addr) (c : Nat), v = .slice p (dirtyL M.C M.dt).length c) ∧ σ = σ' ∧ Γ' = [Wld mb sb db d s M]) := by
  refine CallsA.opn .head Wld.opn (enters Tryz.func103 rfl rfl) ?_
  rintro ⟨inn, pg⟩ ⟨hG, hM⟩
  refine CallsA.ents (R := fun v σ' Γ' => ∃ Γ1, (∃ (p : Option Addr) (c : Nat) (rows : List (List Value)), v = .slice p (dirtyL M.C M.dt).length c ∧ σ = σ' ∧ Γ1 = [blk mb (mcells sb inn M.dt pg) 141, lst 175 9 (.slice p (dirtyL M.C M.dt).length c) (dirtyL M.C M.dt).length rows.flatten]) ∧ Γ' = Γ1 ++ [Store sb db s, Disk db d]) ?_ ?_
  · refine ((dirty_a σ mb sb d s inn M.dt pg M.C hM).frame [Store sb db s, Disk db d] (Ent.refl _)).mono ?_
    rintro e σ' _ ⟨Γ1, h, rfl⟩
    cases e with
    | returned v => obtain ⟨p, c, rows, e1, -, e2, e3⟩ := h; exact ⟨Γ1, ⟨p, c, rows, e1, e2, e3⟩, rfl⟩
    | panicked c => exact h.elim
    | outgrown => exact h.elim
  · rintro v σ' _ ⟨_, ⟨p, c, rows, rfl, rfl, rfl⟩, rfl⟩
    exact ⟨_, Ent.fold1 (Ent.sel .head (Ent.sel (.tail (.head)) (Ent.sel (.tail .head) (Ent.nil _)))) (Wld.mk hG hM), ⟨p, c, rfl⟩, rfl, rfl⟩
theorem syncT_w (σ : PH) (mb sb db : Nat) (d : DiskS) (s : StS) (M : Me) (left : Int) (hg : s.gen < 4611686018427387904) (hl : 0 < left) (hl2 : left < 9223372036854775808) :
    CallsA Tryz.prog 104 #[ptr mb, i64 (max (((dirtyL M.C M.dt).length : Int) + 5 - left) 0)] σ [Wld mb sb db d s M] (RetA fun v σ' Γ' => v = .bool false ∧ σ.sub σ' ∧ Γ' = [Half mb sb db d s M (deedsJ M left)]) := by
  refine CallsA.opn .head Wld.opn (enters Tryz.func104 rfl rfl) ?_
  rintro ⟨inn, pg⟩ ⟨hG, hM⟩
  have h14 : (dirtyL M.C M.dt).length ≤ 14 := dirtyTo_le M.C M.dt 14
  refine (sync_a σ mb sb db d s inn M.dt pg M.C _ hG hg ⟨by omega, by omega⟩ hM).ents ?_
  rintro v σ' _ ⟨j, hj1, hj2, hj3, rfl, hs, rfl⟩
  have hj : j = deedsJ M left := by
    unfold deedsJ
    rcases Nat.lt_or_ge j ((dirtyL M.C M.dt).length + 5) with h | h
    · have := hj2 h; omega
    · have := hj3 (by omega) (max (((dirtyL M.C M.dt).length : Int) + 5 - left) 0).toNat (by omega); omega
  have hjl : j ≠ (dirtyL M.C M.dt).length + 5 := by rw [hj]; unfold deedsJ; omega
  rw [if_neg hjl, if_neg hjl, ← hj, decide_eq_false hjl]
  exact ⟨_, Ent.fold1 (Ent.refl _) (Half.mk hG hM), rfl, hs, rfl⟩
section
variable (σ : PH) (g mb sb db pb : Nat) (cv iv : Value) (left : Int) (torn : Bool) (d : DiskS) (s : StS) (M : Me)
theorem commitT_m (pc pi : Option Addr) (nc cc ni ci : Nat) (hg : s.gen < 4611686018427387904) (hl : 0 < left) (hl2 : left < 9223372036854775808) :
    CallsA Tryz.prog 86 #[ptr g] σ [blk g [ptr mb, .slice pc nc cc, .slice pi ni ci, ptr pb, i64 left, .bool torn] 129, Wld mb sb db d s M] (RetA fun v σ' Γ' => v = .tuple #[] ∧ σ.sub σ' ∧ Γ' = [blk g [ptr mb, .slice pc nc cc, .slice pi ni ci, ptr pb, i64 left, .bool true] 129, Half mb sb db d s M (deedsJ M left)]) := by
  have h14 : (dirtyL M.C M.dt).length ≤ 14 := dirtyTo_le M.C M.dt 14
  have hsy := syncT_w σ mb sb db d s M left hg hl hl2
  have hdi := dirty_w2 σ mb sb db d s M
  obtain ⟨L, hL⟩ : ∃ L, L = (dirtyL M.C M.dt).length := ⟨_, rfl⟩
  rw [← hL] at h14 hsy hdi
  have hv1 : IntKind.i64.wrap ((L : Int) + 2) = L + 2 := X.wrap64_in (by omega) (by omega)
  have hv2 : IntKind.i64.wrap ((L : Int) + 2 + 3) = L + 5 := by rw [X.wrap64_in (by omega) (by omega)]; omega
  have hv3 : IntKind.i64.wrap ((L : Int) + 5 - left) = L + 5 - left := X.wrap64_in (by omega) (by omega)
  refine enterA1 Tryz.func86 rfl rfl rfl ?_; refine zS (zR (yS ?_)); refine zN (zT (zS (zS (zR (yA ?_))))); refine zO rfl (Rd.nilCheck rfl) ?_; refine yV ?_; refine yB ?_; refine zO rfl (Rd.gtr rfl rfl) ?_; refine zN (zT (XA.condT rfl (decide_eq_true hl) ?_))
  refine XA.draw (by kernel_rfl) _ _ [] [(0, .pu), (1, .pu), (2, .pu), (3, .rd), (8, .pu), (9, .pu), (10, .pu), (11, .rd), (4, .wr), (5, .pu), (6, .pu), (7, .pu), (12, .pu), (13, .pu), (14, .pu)] (by kernel_rfl) (PH.sub.refl _) (Ent.sel (R := blk g _ _) zL (Ent.nil _)) ?_
  refine zu rfl rfl Rd.mv ?_; refine zu rfl rfl (Rd.nilCheck rfl) ?_; refine zu rfl rfl (Rd.fA rfl) ?_; refine XPA.rd rfl rfl Gd.free (Rd.ldC rfl (tyrow rfl) rfl) ?_; refine zu rfl rfl Rd.mv ?_; refine zu rfl rfl (Rd.nilCheck rfl) ?_; refine zu rfl rfl (Rd.fA rfl) ?_
  refine XPA.rd rfl rfl Gd.free (Rd.ldC rfl (tyrow rfl) rfl) ?_; refine XPA.wr0 rfl rfl Gd.free (WrA.cE (hdi) rfl) ?_
  rintro _ _ _ ⟨_, ⟨⟨p, c, rfl⟩, rfl, rfl⟩, rfl⟩
  refine stays (XPA.cl ?_)
  refine zu rfl rfl (Rd.lenSlice (tyrow rfl) rfl rfl) ?_; refine zu rfl rfl zI ?_; refine zu rfl rfl zI ?_; refine zu rfl rfl (by first | exact Rd.sbi rfl rfl | exact Rd.sub rfl rfl) ?_; refine zu rfl rfl (Rd.max2 rfl rfl) ?_
  refine zu rfl rfl Rd.asg ?_; refine XPA.nil ?_; refine zT (zR (yA ?_)); refine yA ?_; refine zO rfl (Rd.nilCheck rfl) ?_; refine yV ?_; refine yB ?_; refine yA ?_
  rw [show (if 0 > (L : Int) + 2 + 3 - left then (0 : Int) else (L : Int) + 2 + 3 - left) = max ((L : Int) + 5 - left) 0 from by split <;> omega]
  refine zw rfl (WrA.cE (hsy) rfl) ?_
  rintro _ σ1 _ ⟨_, ⟨rfl, hs1, rfl⟩, rfl⟩
  refine XOA.cl ?_; refine zO rfl zJ ?_; refine zO rfl (Rd.nilCheck rfl) ?_; refine yV ?_; refine zw rfl (WrA.st (tyrow rfl) rfl) ?_
  rintro _ _ _ ⟨rfl, rfl, rfl⟩
  refine zN ?_
  exact bodyA.normal (ResA.none rfl) zE ⟨rfl, hs1, rfl⟩
end
end Go.Proofs.YtmnmcjdgnpgchaaGreat

namespace Go.Proofs.YtmnmcjdgnpgchaaGreat
open Go X
set_option maxHeartbeats 2000000
section
variable (σ : PH) (g mb sb db pb : Nat) (pc pi : Option Addr) (cc ci : Nat) (code : List In) (inp : List Int) (left : Int) (torn : Bool) (d : DiskS) (s : StS) (M : Me) (b : Be) (x : In)
theorem stepT_m (hc : PSl 4 rIn σ (.slice pc code.length cc) code) (hg : s.gen < 4611686018427387904) (hl : 0 < left) (hl2 : left < 9223372036854775808) (hS : Shows M.C b.m) (hk : StepOk code inp b x) (h15 : x.op = 15) :
    CallsA Tryz.prog 59 #[ptr g] σ [blk g [ptr mb, .slice pc code.length cc, .slice pi inp.length ci, ptr pb, i64 left, .bool torn] 129, Wld mb sb db d s M] (RetA fun v σ' Γ' => v = .bool true ∧ σ.sub σ' ∧ Γ' = [blk g [ptr mb, .slice pc code.length cc, .slice pi inp.length ci, ptr pb, i64 left, .bool true] 129, Half mb sb db d s (M.put 0 (M.ld 0 + 1)) (deedsJ (M.put 0 (M.ld 0 + 1)) left)]) := by
  obtain ⟨⟨next, stack, rd, outn, st, cells⟩, kept, out, wrong⟩ := b
  obtain ⟨hst, hx, -, -, -, -, -, hcd, -, -, -⟩ := hk
  simp only at hst hx hcd hS
  subst hst
  obtain ⟨xop, xa, xb, xn⟩ := x
  simp only at h15
  subst h15
  have hlt := (List.getElem?_eq_some_iff.1 hx).1
  obtain ⟨gc, oc', row, rfl, hrx, hrl, hrow⟩ := hc.at hx
  obtain rfl : row = [i64 15, i64 xa, i64 xb, i64 xn] := hrx
  have e0 : M.ld 0 = next := hS.nx
  have hld := load_w σ mb sb db d s M 4
  rw [show M.ld 4 = 0 from hS.st] at hld
  have hadd := add_m σ g mb sb db pb (.slice (some ⟨gc, oc', none⟩) code.length cc) (.slice pi inp.length ci) left torn d s M 0 1
  rw [e0, X.wrap64_in (by omega) (by omega)] at hadd
  rw [e0]
  clear hS e0 hc hx
  generalize M.put 0 (((next : Nat) : Int) + 1) = M1 at hadd ⊢
  refine enterA1 Tryz.func59 rfl rfl rfl ?_; refine zS (zR (yS ?_)); refine zN (zT (zS (zS (zR (yA ?_))))); refine zO rfl (Rd.nilCheck rfl) ?_; refine yV ?_; refine yB ?_; refine yC (hld) ?_; refine zO rfl (Rd.neq rfl rfl) ?_; refine zN (zT (yF rfl rfl (XA.skip (zT (zS ?_)))))
  refine XA.join [(3, 3), (11, 18)] (fun y : Nat => [(3, ptr y)]) (fun y σ' Γ' => σ = σ' ∧ Γ' = [blk y [i64 15, i64 xa, i64 xb, i64 xn] 103, blk g [ptr mb, .slice (some ⟨gc, oc', none⟩) code.length cc, .slice pi inp.length ci, ptr pb, i64 left, .bool torn] 129, Wld mb sb db d s M1]) ?_ ?_
  · skip
    refine XA.drawQ (by kernel_rfl) _ _ [9] 10 #[false, false, false, false, false, false, false, false, false, false] rfl rfl (by kernel_rfl) (PH.sub.refl _) (Ent.sel (R := blk g _ _) zL (Ent.nil _)) ?_
    refine qp 0 #[tT,fF,fF,fF,fF,fF,fF,fF,fF,fF] rfl Rd.mv ?_; refine qp 1 #[tT,tT,fF,fF,fF,fF,fF,fF,fF,fF] rfl (Rd.nilCheck rfl) ?_; refine qp 2 #[tT,tT,tT,fF,fF,fF,fF,fF,fF,fF] rfl (Rd.fA rfl) ?_; refine qr 3 #[tT,tT,tT,tT,fF,fF,fF,fF,fF,fF] rfl (Rd.ldC rfl (tyrow rfl) rfl) ?_
    refine qp 4 #[tT,tT,tT,tT,tT,fF,fF,fF,fF,fF] rfl Rd.mv ?_
    refine XQA.w2 (i := 5) (j := 8) (by kernel_rfl) ?_ ?_
    · refine qw #[tT,tT,tT,tT,tT,tT,fF,fF,fF,fF] rfl (WrA.cE hadd rfl) ?_
      rintro _ _ _ ⟨_, ⟨rfl, rfl, rfl⟩, rfl⟩
      refine ⟨⟨zX, zE⟩, XQA.re zC ?_⟩
      refine qp 6 #[tT,tT,tT,tT,tT,tT,tT,fF,fF,fF] rfl (Rd.ixS rfl rfl) ?_; refine qr 7 #[tT,tT,tT,tT,tT,tT,tT,tT,fF,fF] rfl (Rd.ldA rfl) ?_; refine qa 8 ?_; refine qw #[tT,tT,tT,tT,tT,tT,tT,tT,tT,fF] rfl (WrA.alloc (tyrow rfl)) ?_
      rintro _ _ _ ⟨g3, rfl, rfl, rfl⟩
      refine ⟨⟨zX, zE⟩, XQA.re zC ?_⟩
      refine qa 9 ?_
      refine XQA1.wrZ0 (listed' := #[tT,tT,tT,tT,tT,tT,tT,tT,tT,tT]) rfl rfl Gd.free (by kernel_rfl) rfl (by kernel_rfl) (WrA.st (tyrow rfl) rfl) ?_
      rintro _ _ _ ⟨rfl, rfl, rfl⟩
      refine XQA.re zC ?_; refine XQA.nil rfl ?_
      refine DA.thn_normal ⟨zK, g3, _, zM, ?_, rfl, rfl⟩; exact zE
    · refine qw #[tT,tT,tT,tT,tT,fF,fF,fF,tT,fF] rfl (WrA.alloc (tyrow rfl)) ?_
      rintro _ _ _ ⟨g3, rfl, rfl, rfl⟩
      refine ⟨⟨zX, zE⟩, XQA.re zC ?_⟩
      refine qa 5 ?_; refine qw #[tT,tT,tT,tT,tT,tT,fF,fF,tT,fF] rfl (WrA.cE hadd rfl) ?_
      rintro _ _ _ ⟨_, ⟨rfl, rfl, rfl⟩, rfl⟩
      refine ⟨⟨zX, zE⟩, XQA.re zC ?_⟩
      refine qp 6 #[tT,tT,tT,tT,tT,tT,tT,fF,tT,fF] rfl (Rd.ixS rfl rfl) ?_; refine qr 7 #[tT,tT,tT,tT,tT,tT,tT,tT,tT,fF] rfl (Rd.ldA rfl) ?_; refine qa 9 ?_
      refine XQA1.wrZ0 (listed' := #[tT,tT,tT,tT,tT,tT,tT,tT,tT,tT]) rfl rfl Gd.free (by kernel_rfl) rfl (by kernel_rfl) (WrA.st (tyrow rfl) rfl) ?_
      rintro _ _ _ ⟨rfl, rfl, rfl⟩
      refine XQA.re zC ?_; refine XQA.nil rfl ?_
      refine DA.thn_normal ⟨zK, g3, _, zM, ?_, rfl, rfl⟩; exact zE
  rintro g3 δ _ _ ⟨rfl, rfl⟩
  dsimp only [ovr, List.foldl]
  refine zT (zS (zS (zR (yV ?_)))); refine yB ?_; refine zN (zT (XA.block (zS (zR (yE ?_))))); refine yS ?_; refine zN (zT (yF rfl rfl (zS (zS (zR (yE ?_)))))); (iterate 3 (refine yS ?_; refine zN (zT (yF rfl rfl (zS (zR (yE ?_))))))); refine yS ?_; refine zN (zT (yF rfl rfl (zR (yE ?_))))
  (iterate 4 (refine yS ?_; refine zN (zT (yF rfl rfl (zS (zR (yE ?_))))))); refine yS ?_; refine zN (zT (yT rfl rfl (zR (yA ?_)))); refine zw rfl (WrA.cE (commitT_m σ g mb sb db pb left torn d s M1 _ _ _ _ _ _ hg hl hl2) rfl) ?_
  rintro _ σ1 _ ⟨_, ⟨rfl, hs1, rfl⟩, rfl⟩
  refine XOA.cl ?_; refine zN (DA.inb_normal (zT (zS (zR (yS ?_))))); refine zN (zT (XA.ret ?_))
  exact bodyA.ret (ResA.one rfl rfl) zE ⟨rfl, hs1, rfl⟩
end
end Go.Proofs.YtmnmcjdgnpgchaaGreat

namespace Go.Proofs.YtmnmcjdgnpgchaaGreat
open Go X
set_option maxHeartbeats 1000000
def wakeB (b : Be) : Be := { b with m := b.kept }
theorem iteQ2 {α : Type} {c : Prop} [Decidable c] {Q : α → Prop} {a b : α} (ha : Q a) (hb : Q b) : Q (if c then a else b) := by
  by_cases h : c
  · rw [if_pos h]; exact ha
  · rw [if_neg h]; exact hb
theorem doIn_kept (inp : List Int) (keep : Bool) (x : In) (b : Be) (h15 : x.op ≠ 15) : (doIn inp keep x b).kept = b.kept := by
  obtain ⟨⟨next, stack, rd, outn, st, cells⟩, kept, out, wrong⟩ := b
  have h : ∀ b' : Be, b'.kept = kept → (fun b' : Be => b'.kept = kept) b' := fun _ h => h
  generalize (fun b' : Be => b'.kept = kept) = Q at h
  show (fun b' : Be => b'.kept = kept) _
  simp only [doIn]
  refine iteQ2 (Q := fun b' : Be => b'.kept = kept) rfl ?_; refine iteQ2 (Q := fun b' : Be => b'.kept = kept) rfl ?_; refine iteQ2 (Q := fun b' : Be => b'.kept = kept) ?_ ?_
  · cases stack with
    | nil => rfl
    | cons k s => exact iteQ2 (Q := fun b' : Be => b'.kept = kept) rfl rfl
  refine iteQ2 (Q := fun b' : Be => b'.kept = kept) ?_ ?_
  · rcases stack with _ | ⟨y, _ | ⟨z, s⟩⟩ <;> rfl
  refine iteQ2 (Q := fun b' : Be => b'.kept = kept) ?_ ?_
  · cases stack <;> rfl
  refine iteQ2 (Q := fun b' : Be => b'.kept = kept) ?_ ?_
  · rcases stack with _ | ⟨y, _ | ⟨z, s⟩⟩
    · rfl
    · rfl
    · exact iteQ2 (Q := fun b' : Be => b'.kept = kept) rfl rfl
  refine iteQ2 (Q := fun b' : Be => b'.kept = kept) ?_ ?_
  · cases stack with
    | nil => rfl
    | cons k s => exact iteQ2 (Q := fun b' : Be => b'.kept = kept) rfl rfl
  refine iteQ2 (Q := fun b' : Be => b'.kept = kept) (iteQ2 (Q := fun b' : Be => b'.kept = kept) rfl rfl) ?_; refine iteQ2 (Q := fun b' : Be => b'.kept = kept) ?_ ?_
  · cases stack with
    | nil => rfl
    | cons k s => exact iteQ2 (Q := fun b' : Be => b'.kept = kept) rfl rfl
  refine iteQ2 (Q := fun b' : Be => b'.kept = kept) rfl ?_
  rw [if_neg h15]
  exact iteQ2 (Q := fun b' : Be => b'.kept = kept) rfl rfl
structure Li where
  b : Be
  M : Me
  Q : List (List Int)
structure LStp where
  kind : Int
  n : Int
  K : Int
  mask : Int
section
variable (code : List In) (inp : List Int)
def nextL (L : Li) : Li := ⟨nextB code inp true L.b, nextM code inp L.M, if isC code L.b.m = true then (nextM code inp L.M).C else L.Q⟩
def wakeL (L : Li) : Li := ⟨wakeB L.b, ⟨L.Q, noB⟩, L.Q⟩
def tearAt (K : Int) (bit : Bool) (L : Li) : Li := if K = 0 ∨ K = 1 ∧ bit = true then wakeL (nextL code inp L) else wakeL L
def runL : Nat → Li → Li × Nat
  | 0, L => (L, 0)
  | f + 1, L => if L.b.m.st = 0 then ((runL f (nextL code inp L)).1, (runL f (nextL code inp L)).2 + 1) else (L, 0)
def tearL (K : Int) (bit : Bool) : Nat → Li → Li × Nat
  | 0, L => (L, 0)
  | f + 1, L => if isC code L.b.m = true then (tearAt code inp K bit L, 1) else if L.b.m.st = 0 then ((tearL K bit f (nextL code inp L)).1, (tearL K bit f (nextL code inp L)).2 + 1) else (L, 0)
def stpFault (s : LStp) : Int := if s.kind < 1 ∨ 3 < s.kind then 2 else if (s.kind ≠ 2 ∧ (s.n < 0 ∨ 3000 < s.n)) ∨ (s.kind = 3 ∧ s.K < 0) then 1 else 0
def doL (s : LStp) (L : Li) : Li × Nat := if stpFault s ≠ 0 then (L, 0) else if s.kind = 1 then runL code inp s.n.toNat L else if s.kind = 3 then tearL code inp s.K (bitOf s.mask 0) s.n.toNat L else (wakeL L, 0)
end
structure LiOk (p : Pr) (inp : List Int) (L : Li) (k : Nat) : Prop where
  mach : MachOk p inp L.M L.b k
  kept : MachOk p inp ⟨L.Q, noB⟩ (wakeB L.b) k
theorem MachOk.le {p : Pr} {inp : List Int} {M : Me} {b : Be} {k l : Nat} (h : MachOk p inp M b k) (hl : k ≤ l) : MachOk p inp M b l := ⟨h.ch, h.inv, h.sh, h.inl, h.cl, by have := h.ol; omega⟩
theorem LiOk.le {p : Pr} {inp : List Int} {L : Li} {k l : Nat} (h : LiOk p inp L k) (hl : k ≤ l) : LiOk p inp L l := ⟨h.mach.le hl, h.kept.le hl⟩
theorem isC_true {code : List In} {m : Mi} (h : isC code m = true) : m.st = 0 ∧ ∃ x, code[m.next]? = some x ∧ x.op = 15 := by
  unfold isC at h
  rw [Bool.and_eq_true] at h
  refine ⟨of_decide_eq_true h.1, ?_⟩
  revert h
  cases code[m.next]? with
  | none => intro h; cases h.2
  | some x => intro h; exact ⟨x, rfl, of_decide_eq_true h.2⟩
theorem stepC_be {code : List In} {inp : List Int} {keep : Bool} {b : Be} {x : In} (hx : code[b.m.next]? = some x) (h : x.op = 15) : stepB code inp keep b = { bump b with kept := if keep then (bump b).m else b.kept } := by
  rw [stepB, hx]
  obtain ⟨op, a1, a2, a3⟩ := x
  simp only at h
  subst h
  cases keep <;> rfl
theorem LiOk.next {p : Pr} {inp : List Int} {L : Li} {k : Nat} (h : LiOk p inp L k) (hk : k ≤ 1000000) : LiOk p inp (nextL (codeOf p) inp L) (k + 1) := by
  have hm := h.mach.next hk true
  refine ⟨hm, ?_⟩
  by_cases hc : isC (codeOf p) L.b.m = true
  · obtain ⟨h0, x, hx, h15⟩ := isC_true hc
    have e : nextB (codeOf p) inp true L.b = { bump L.b with kept := (bump L.b).m } := by rw [nextB, if_pos h0, stepC_be hx h15]; rfl
    have e2 : (nextL (codeOf p) inp L).Q = (nextM (codeOf p) inp L.M).C := if_pos hc
    have e3 : (nextL (codeOf p) inp L).b = { bump L.b with kept := (bump L.b).m } := e
    rw [e2, e3]
    rw [e] at hm
    exact ⟨hm.ch, hm.inv, hm.sh, hm.inl, hm.cl, hm.ol⟩
  · have e2 : (nextL (codeOf p) inp L).Q = L.Q := if_neg hc
    rw [e2]
    have hkept : (nextB (codeOf p) inp true L.b).kept = L.b.kept := by
      by_cases h0 : L.b.m.st = 0
      · obtain ⟨x, hx, -⟩ := h.mach.ok hk h0
        have h15 : x.op ≠ 15 := fun q => hc (by rw [isC_at h0 hx.at_, decide_eq_true q])
        rw [nextB, if_pos h0, stepB, hx.at_]
        exact doIn_kept inp true x (bump L.b) h15
      · rw [nextB, if_neg h0]
    have hout : L.b.out.length ≤ (nextB (codeOf p) inp true L.b).out.length := by
      by_cases h0 : L.b.m.st = 0
      · obtain ⟨x, hx, -⟩ := h.mach.ok hk h0
        rw [nextB, if_pos h0]
        exact (h.mach.inv.step (keep := true) h.mach.ch hx).2.1
      · rw [nextB, if_neg h0]; exact Nat.le_refl _
    have hi := h.kept.inv
    have hs := h.kept.sh
    have hw : (wakeB (nextB (codeOf p) inp true L.b)).m = (wakeB L.b).m := hkept
    refine ⟨h.kept.ch, ⟨?_, ?_, ?_, ?_⟩, ?_, h.kept.inl, h.kept.cl, hm.ol⟩
    · intro h
      have hw2 : (wakeB (nextL (codeOf p) inp L).b).m = (wakeB L.b).m := hw
      rw [hw2] at h ⊢
      exact hi.at_ h
    · show (wakeB (nextB (codeOf p) inp true L.b)).m.cells.length = _
      rw [hw]; exact hi.cells
    · show (wakeB (nextB (codeOf p) inp true L.b)).m.outn ≤ (nextB (codeOf p) inp true L.b).out.length
      rw [hw]; exact Nat.le_trans hi.outn hout
    · show (wakeB (nextB (codeOf p) inp true L.b)).m.rd ≤ _
      rw [hw]; exact hi.rd
    · show Shows L.Q (wakeB (nextB (codeOf p) inp true L.b)).m
      rw [hw]; exact hs
theorem LiOk.wake {p : Pr} {inp : List Int} {L : Li} {k : Nat} (h : LiOk p inp L k) : LiOk p inp (wakeL L) k := ⟨h.kept, h.kept⟩
theorem LiOk.tear {p : Pr} {inp : List Int} {L : Li} {k : Nat} {K : Int} {bit : Bool} (h : LiOk p inp L k) (hk : k ≤ 1000000) : LiOk p inp (tearAt (codeOf p) inp K bit L) (k + 1) := by
  rw [tearAt]; split
  · exact (h.next hk).wake
  · exact h.wake.le (by omega)
theorem runL_ok {p : Pr} {inp : List Int} : ∀ (f : Nat) {L : Li} {k : Nat}, LiOk p inp L k → k + f ≤ 1000000 → LiOk p inp (runL (codeOf p) inp f L).1 (k + (runL (codeOf p) inp f L).2) ∧ (runL (codeOf p) inp f L).2 ≤ f
  | 0, L, k, h, hk => ⟨h, Nat.le_refl _⟩
  | f + 1, L, k, h, hk => by
    rw [runL]; split
    · obtain ⟨h1, h2⟩ := runL_ok f (h.next (by omega)) (by omega)
      exact ⟨by rw [show k + ((runL (codeOf p) inp f (nextL (codeOf p) inp L)).2 + 1) = k + 1 + (runL (codeOf p) inp f (nextL (codeOf p) inp L)).2 by omega]; exact h1, by simp only; omega⟩
    · exact ⟨h, Nat.zero_le _⟩
end Go.Proofs.YtmnmcjdgnpgchaaGreat

namespace Go.Proofs.YtmnmcjdgnpgchaaGreat
open Go X
set_option maxHeartbeats 2000000
theorem crash_w (σ : PH) (mb sb db : Nat) (d : DiskS) (s : StS) (M : Me) (m : Int) (hm0 : 0 ≤ m) (hm1 : m < 18446744073709551616) :
    CallsA Tryz.prog 35 #[ptr db, .int .u64 m] σ [Wld mb sb db d s M] (RetA fun v σ' Γ' => ∃ d' : DiskS, v = .tuple #[] ∧ σ = σ' ∧ Good d' s ∧ pagesC d' s = pagesC d s ∧ Γ' = [Disk db d']) := by
  refine CallsA.opn .head Wld.opn (enters Tryz.func35 rfl rfl) ?_
  rintro ⟨inn, pg⟩ ⟨hG, hM⟩
  obtain ⟨h1, h2⟩ := hG.settle (bitOf m)
  refine CallsA.ents (R := fun v σ' Γ' => ∃ Γ1, (v = .tuple #[] ∧ σ = σ' ∧ Γ1 = [Disk db (d.settle (bitOf m))]) ∧ Γ' = Γ1 ++ [blk mb (mcells sb inn M.dt pg) 141, Store sb db s]) ?_ ?_
  · refine ((crash_a σ db d m hG.wlen' hm0 hm1).frame [blk mb (mcells sb inn M.dt pg) 141, Store sb db s] (Ent.sel (.tail (.tail .head)) (Ent.sel .head (Ent.sel .head (Ent.nil _))))).mono ?_
    rintro e σ' _ ⟨Γ1, h, rfl⟩
    cases e with
    | returned v => exact ⟨Γ1, h, rfl⟩
    | panicked c => exact h.elim
    | outgrown => exact h.elim
  · rintro v σ' _ ⟨_, ⟨rfl, rfl, rfl⟩, rfl⟩
    exact ⟨_, Ent.sel .head (Ent.nil _), _, rfl, rfl, h1, pgs_ext (pagesC_ok h1.dok s) (pagesC_ok hG.dok s) (fun p hp => by rw [pagesC_get _ _ hp, pagesC_get _ _ hp, h2 p hp]), rfl⟩
theorem half_crash {d : DiskS} {s : StS} {inn dt : List Bool} {pg C : List (List Int)} (hG : Good d s) (hM : MOk d s inn dt pg C) (left : Int) (hl : 0 < left) (is : Nat → Bool) :
    ∃ s'' : StS, Good ((comD d s (dirtyL C dt) (deedsJ ⟨C, dt⟩ left)).settle is) s'' ∧ s''.gen ≤ s.gen + 1 ∧ pagesC ((comD d s (dirtyL C dt) (deedsJ ⟨C, dt⟩ left)).settle is) s'' = if left = 1 ∧ is 0 = true then C else pagesC d s := by
  have h14 : (dirtyL C dt).length ≤ 14 := dirtyTo_le C dt 14
  have hw := dirty_w (dt := dt) hM.cc
  have hn : ∀ x ∈ dirtyL C dt, 0 ≤ x.n ∧ x.n < 14 := dirty_n
  have same : ∀ {d' : DiskS}, Good d' s → (∀ p : Nat, p < 14 → pageW d' s p = pageW d s p) → pagesC d' s = pagesC d s := fun g h => pgs_ext (pagesC_ok g.dok s) (pagesC_ok hG.dok s) (fun p hp => by rw [pagesC_get _ _ hp, pagesC_get _ _ hp, h p hp])
  by_cases h1 : left = 1
  · have hj : deedsJ ⟨C, dt⟩ left = (dirtyL C dt).length + 4 := by unfold deedsJ; simp only; omega
    rw [hj]
    have hr := commit_root hG hw h14 hn is
    by_cases h0 : is 0 = true
    · rw [if_pos h0] at hr
      rw [if_pos ⟨h1, h0⟩]
      exact ⟨nextS s (dirtyL C dt), hr.1, Int.le_refl _, pages_of hr.1 hM.cc (hM.sync (page_new hn hr.2)).2⟩
    · rw [if_neg h0] at hr
      rw [if_neg (fun q => h0 q.2)]
      exact ⟨s, hr.1, by omega, same hr.1 hr.2⟩
  · have hj : deedsJ ⟨C, dt⟩ left ≤ (dirtyL C dt).length + 3 := by unfold deedsJ; simp only; omega
    have hp := commit_part hG hw h14 hj is
    rw [if_neg (fun q => h1 q.1)]
    exact ⟨s, hp.1, by omega, same hp.1 hp.2⟩
theorem crash_h (σ : PH) (mb sb db : Nat) (d : DiskS) (s : StS) (M : Me) (left : Int) (hl : 0 < left) (m : Int) (hm0 : 0 ≤ m) (hm1 : m < 18446744073709551616) :
    CallsA Tryz.prog 35 #[ptr db, .int .u64 m] σ [Half mb sb db d s M (deedsJ M left)] (RetA fun v σ' Γ' => ∃ (d' : DiskS) (s' : StS), v = .tuple #[] ∧ σ = σ' ∧ Good d' s' ∧ s'.gen ≤ s.gen + 1 ∧ pagesC d' s' = (if left = 1 ∧ bitOf m 0 = true then M.C else pagesC d s) ∧ Γ' = [Disk db d']) := by
  refine CallsA.opn .head Half.opn (enters Tryz.func35 rfl rfl) ?_
  rintro ⟨inn, pg⟩ ⟨hG, hM⟩
  obtain ⟨s', h1, h2, h3⟩ := half_crash hG hM left hl (bitOf m)
  refine CallsA.ents (R := fun v σ' Γ' => ∃ Γ1, (v = .tuple #[] ∧ σ = σ' ∧ Γ1 = [Disk db ((comD d s (dirtyL M.C M.dt) (deedsJ M left)).settle (bitOf m))]) ∧ Γ' = Γ1 ++ [blk mb (mcells sb inn M.dt pg) 141, Store sb db s]) ?_ ?_
  · refine ((crash_a σ db _ m (comD_wait hG (dirtyTo_le M.C M.dt 14) _) hm0 hm1).frame [blk mb (mcells sb inn M.dt pg) 141, Store sb db s] (Ent.sel (.tail (.tail .head)) (Ent.sel .head (Ent.sel .head (Ent.nil _))))).mono ?_
    rintro e σ' _ ⟨Γ1, h, rfl⟩
    cases e with
    | returned v => exact ⟨Γ1, h, rfl⟩
    | panicked c => exact h.elim
    | outgrown => exact h.elim
  · rintro v σ' _ ⟨_, ⟨rfl, rfl, rfl⟩, rfl⟩
    exact ⟨_, Ent.sel .head (Ent.nil _), _, s', rfl, rfl, h1, h2, h3, rfl⟩
theorem wake_l (σ : PH) (gx db pb : Nat) (a0 : Option Addr) (pc pj : Option Addr) (ncode cc cj nc : Nat) (inp : List Int) (d : DiskS) (s : StS) (hG : Good d s) (hj : PInts σ (.slice pj inp.length cj) inp) (hil : inp.length ≤ 1000000) :
    CallsA Tryz.prog 27 #[ptr gx] σ [blk gx [.pointer a0, ptr db, ptr pb, .slice pc ncode cc, .slice pj inp.length cj, i64 nc] 65, Disk db d] (RetA fun v σ' Γ' => ∃ (g mb sb : Nat) (pi : Option Addr) (ci : Nat), v = .tuple #[] ∧ σ.sub σ' ∧ PInts σ' (.slice pi inp.length ci) inp ∧ Γ' = [blk gx [ptr g, ptr db, ptr pb, .slice pc ncode cc, .slice pj inp.length cj, i64 nc] 65, blk g [ptr mb, .slice pc ncode cc, .slice pi inp.length ci, ptr pb, i64 0, .bool false] 129, Wld mb sb db d s ⟨pagesC d s, noB⟩]) := by
  refine enterA1 Tryz.func27 rfl rfl rfl ?_
  refine XA.draw (by kernel_rfl) _ _ [19, 22] [(0, .pu), (1, .pu), (2, .pu), (3, .pu), (4, .rd), (7, .pu), (8, .pu), (9, .pu), (10, .rd), (11, .pu), (12, .pu), (13, .pu), (14, .rd), (15, .pu), (16, .pu), (17, .pu), (18, .rd), (5, .wr), (6, .wr), (19, .wr), (20, .pu), (21, .pu), (22, .wr)] (by kernel_rfl) (PH.sub.refl _) (Ent.sel (R := blk gx _ _) zL (Ent.nil _)) ?_
  refine zu rfl rfl Rd.mv ?_; refine zu rfl rfl Rd.mv ?_; refine zu rfl rfl (Rd.nilCheck rfl) ?_; refine zu rfl rfl (Rd.fA rfl) ?_; refine XPA.rd rfl rfl Gd.free (Rd.ldC rfl (tyrow rfl) rfl) ?_; refine zu rfl rfl Rd.mv ?_; refine zu rfl rfl (Rd.nilCheck rfl) ?_; refine zu rfl rfl (Rd.fA rfl) ?_
  refine XPA.rd rfl rfl Gd.free (Rd.ldC rfl (tyrow rfl) rfl) ?_; refine zu rfl rfl Rd.mv ?_; refine zu rfl rfl (Rd.nilCheck rfl) ?_; refine zu rfl rfl (Rd.fA rfl) ?_; refine XPA.rd rfl rfl Gd.free (Rd.ldC rfl (tyrow rfl) rfl) ?_; refine zu rfl rfl Rd.mv ?_; refine zu rfl rfl (Rd.nilCheck rfl) ?_
  refine zu rfl rfl (Rd.fA rfl) ?_; refine XPA.rd rfl rfl Gd.free (Rd.ldC rfl (tyrow rfl) rfl) ?_; refine XPA.wr0 rfl rfl Gd.free (WrA.cE (open_a σ db d hG.dok hG.wlen') rfl) ?_
  rintro _ _ _ ⟨_, ⟨sb, rfl, rfl, rfl⟩, rfl⟩
  refine stays (XPA.cl ?_)
  rw [hG.open]
  refine XPA.wr0 rfl rfl Gd.free (WrA.cE (new_w σ sb db d s hG) rfl) ?_
  rintro _ _ _ ⟨_, ⟨mb, rfl, rfl, rfl⟩, rfl⟩
  refine stays (XPA.cl ?_)
  refine XPA.wrZ0 rfl rfl Gd.free (by kernel_rfl) (WrA.cE (newm_m σ mb pb pc ncode cc _ inp hj hil) rfl) ?_
  rintro _ σ1 _ ⟨_, ⟨g, pi, ci, rfl, hs1, hi1, rfl⟩, rfl⟩
  refine XPA.cl ?_; refine zu rfl rfl (Rd.nilCheck rfl) ?_; refine zu rfl rfl (Rd.fA rfl) ?_
  refine XPA.wrZ0 rfl rfl Gd.free (by kernel_rfl) (WrA.st (tyrow rfl) rfl) ?_
  rintro _ _ _ ⟨rfl, rfl, rfl⟩
  refine XPA.nil ?_
  exact bodyA.normal (ResA.none rfl) zE ⟨g, mb, sb, pi, ci, rfl, hs1, hi1, rfl⟩
end Go.Proofs.YtmnmcjdgnpgchaaGreat

namespace Go.Proofs.YtmnmcjdgnpgchaaGreat
open Go X
set_option maxHeartbeats 2000000
def LifeG (σ : PH) (gx db pb : Nat) (pc : Option Addr) (cc nc : Nat) (p : Pr) (inp : List Int) (L : Li) (gn : Int) (Γ : List HP) : Prop := ∃ (g mb sb : Nat) (d : DiskS) (s : StS) (pi : Option Addr) (ci : Nat) (pj : Option Addr) (cj : Nat), pagesC d s = L.Q ∧ s.gen = gn ∧ Good d s ∧ PInts σ (.slice pi inp.length ci) inp ∧ PInts σ (.slice pj inp.length cj) inp ∧
  Γ = [blk gx [ptr g, ptr db, ptr pb, .slice pc (codeOf p).length cc, .slice pj inp.length cj, i64 nc] 65, blk g [ptr mb, .slice pc (codeOf p).length cc, .slice pi inp.length ci, ptr pb, i64 0, .bool false] 129, Wld mb sb db d s L.M, Prin pb L.b.out L.b.wrong]
theorem LifeG.mono {σ σ' : PH} {gx db pb : Nat} {pc : Option Addr} {cc nc : Nat} {p : Pr} {inp : List Int} {L : Li} {gn : Int} {Γ : List HP} (h : LifeG σ gx db pb pc cc nc p inp L gn Γ) (hs : σ.sub σ') : LifeG σ' gx db pb pc cc nc p inp L gn Γ := by
  obtain ⟨g, mb, sb, d, s, pi, ci, pj, cj, h1, h2, h3, h4, h5, rfl⟩ := h
  exact ⟨g, mb, sb, d, s, pi, ci, pj, cj, h1, h2, h3, h4.mono hs, h5.mono hs, rfl⟩
section
variable (σ : PH) (gx db pb : Nat) (pc : Option Addr) (cc nc : Nat) (p : Pr) (inp : List Int) (L : Li) (gn : Int) (k : Nat)
theorem any_l (g mb sb : Nat) (pi : Option Addr) (ci : Nat) (d : DiskS) (s : StS) (hG : Good d s) (hc : PSl 4 rIn σ (.slice pc (codeOf p).length cc) (codeOf p)) (hi : PInts σ (.slice pi inp.length ci) inp) (hg : s.gen < 4611686018427387904) (h : LiOk p inp L k) (hk : k ≤ 1000000) (hQ : pagesC d s = L.Q) :
    CallsA Tryz.prog 59 #[ptr g] σ [blk g [ptr mb, .slice pc (codeOf p).length cc, .slice pi inp.length ci, ptr pb, i64 0, .bool false] 129, Wld mb sb db d s L.M, Prin pb L.b.out L.b.wrong] (RetA fun v σ' Γ' => ∃ (d' : DiskS) (s' : StS), v = .bool (decide (L.b.m.st = 0)) ∧ s'.gen ≤ s.gen + 1 ∧ (isC (codeOf p) L.b.m ≠ true → s'.gen = s.gen) ∧ Good d' s' ∧ pagesC d' s' = (nextL (codeOf p) inp L).Q ∧ σ.sub σ' ∧ Γ' = [blk g [ptr mb, .slice pc (codeOf p).length cc, .slice pi inp.length ci, ptr pb, i64 0, .bool false] 129, Wld mb sb db d' s' (nextL (codeOf p) inp L).M, Prin pb (nextL (codeOf p) inp L).b.out (nextL (codeOf p) inp L).b.wrong]) := by
  refine (any_m σ g mb sb db pb pc pi cc ci inp d s L.M L.b p k hc hi hg h.mach hk).ret ?_
  rintro v σ' Γ' ⟨d', s', rfl, h1, h2, h3, h4, h5, rfl⟩
  obtain ⟨-, e2, e3⟩ := nextB_keep (codeOf p) inp L.b true
  refine ⟨d', s', rfl, h1, fun hx => ?_, ?_, ?_, h5, by rw [← e2, ← e3]; rfl⟩
  · rcases h2 with ⟨rfl, rfl⟩ | ⟨-, -, h0, x, hx1, h15⟩
    · rfl
    · exact absurd (by rw [isC_at h0 hx1, decide_eq_true h15]) hx
  · rcases h2 with ⟨rfl, rfl⟩ | ⟨q, -⟩
    · exact hG
    · exact q
  · by_cases hx : isC (codeOf p) L.b.m = true
    · obtain ⟨h0, x, hx1, h15⟩ := isC_true hx
      have := (h4 (fun y hy => by rw [hx1] at hy; cases hy; exact h15) h0).2
      rw [this]
      exact (if_pos hx).symm
    · have e : (nextL (codeOf p) inp L).Q = L.Q := if_neg hx
      rw [e]
      rcases h2 with ⟨rfl, rfl⟩ | ⟨-, -, h0, x, hx1, h15⟩
      · exact hQ
      · exact absurd (by rw [isC_at h0 hx1, decide_eq_true h15]) hx
theorem run_l (n : Nat) (Γ : List HP) (hc : PSl 4 rIn σ (.slice pc (codeOf p).length cc) (codeOf p)) (hL : LifeG σ gx db pb pc cc nc p inp L gn Γ) (h : LiOk p inp L k) (hk : k + n ≤ 900000) (hgn : gn ≤ k) :
    CallsA Tryz.prog 33 #[ptr gx, i64 n] σ Γ (RetA fun v σ' Γ' => v = i64 ((runL (codeOf p) inp n L).2 : Nat) ∧ σ.sub σ' ∧ ∃ gn' : Int, gn' ≤ (k + (runL (codeOf p) inp n L).2 : Nat) ∧ LifeG σ' gx db pb pc cc nc p inp (runL (codeOf p) inp n L).1 gn' Γ') := by
  have hL0 := hL
  obtain ⟨g, mb, sb, d, s, pi, ci, pj, cj, hQ, hsg, hG, hi, hj, rfl⟩ := hL
  refine enterA2 Tryz.func33 rfl rfl rfl ?_; refine zS (zR (yS ?_)); refine zN (zT (zS (zS (zR (yA ?_))))); refine yA ?_; refine zN (zT (XA.block ?_))
  refine XA.gen [(0, _), (1, _), (4, _), (6, _), (7, _)] ⟨(by with_reducible (conv => lhs; whnf)), (by with_reducible (conv => lhs; whnf)), (by with_reducible (conv => lhs; whnf)), (by with_reducible (conv => lhs; whnf)), (by with_reducible (conv => lhs; whnf)), trivial⟩ (fun δ => ?_)
  dsimp only [List.foldl]
  refine XA.loop [(4, 5), (7, 17)] (fun x : Nat × Li => [(7, i64 x.1)]) (fun x σ' Γ' => σ.sub σ' ∧ x.1 ≤ n ∧ LiOk p inp x.2 (k + x.1) ∧ runL (codeOf p) inp n L = ((runL (codeOf p) inp (n - x.1) x.2).1, (runL (codeOf p) inp (n - x.1) x.2).2 + x.1) ∧ ∃ gn1 : Int, gn1 ≤ (k + x.1 : Nat) ∧ LifeG σ' gx db pb pc cc nc p inp x.2 gn1 Γ') (fun x => n - x.1) (0, L) (by exact ⟨rfl, trivial⟩) (Δ0 := _) ?_ (⟨.refl _, Nat.zero_le _, h, rfl, gn, hgn, hL0⟩) ?_
  · exact zE
  rintro ⟨i, L1⟩ δ σ1 _ ⟨hs1, hin, hok, hrun, gn1, hg1, hL1⟩
  dsimp only [ovr, List.foldl]
  have hin : i ≤ n := hin
  simp only at hok hrun hg1 hL1
  obtain ⟨g1, mb1, sb1, d1, s1, pi1, ci1, pj1, cj1, hQ1, hsg1, hG1, hi1, hj1, rfl⟩ := hL1
  have hany := any_l σ1 db pb pc cc p inp L1 (k + i) g1 mb1 sb1 pi1 ci1 d1 s1 hG1 (hc.mono hs1 (fun _ _ h => h)) hi1 (by omega) hok (by omega) hQ1
  refine zS (zR (zO rfl (Rd.lss rfl rfl) ?_)); refine zN (zT (zS ?_)); refine XA.condp rfl (fun hlt => ?_) (fun hlt => ?_)
  · refine XA.skip ?_
    refine zT (zS (XA.block (zS (zR (yA ?_))))); refine yS ?_; refine zN (zT (zS (zR (yA ?_)))); refine zO rfl (Rd.nilCheck rfl) ?_; refine yV ?_; refine yB ?_
    obtain ⟨f, hf⟩ : ∃ f, n - i = f + 1 := ⟨n - i - 1, by omega⟩
    by_cases h0 : L1.b.m.st = 0
    · rw [decide_eq_true h0] at hany
      rw [hf, runL, if_pos h0] at hrun
      refine zw rfl (WrA.cE (hany) rfl) ?_
      rintro _ σ2 _ ⟨_, ⟨d2, s2, rfl, hg2, hg20, hG2, hQ2, hs2, rfl⟩, rfl⟩
      refine XOA.cl ?_; refine zO rfl zJ ?_; refine zN (zT (yF rfl rfl (XA.skip (DA.inb_normal (zT (zR (zO rfl zI ?_))))))); refine yA ?_; refine zN (zT ?_)
      refine ⟨(Keep.upd (Keep.upd (Keep.upd (Keep.updO (Keep.upd (Keep.upd (Keep.upd (Keep.upd (Keep.upd (Keep.upd (Keep.upd (Keep.upd (Keep.hav (Keep.hav (Keep.refl _ _) rfl) rfl) rfl) rfl) rfl) rfl) rfl) rfl) rfl) rfl) rfl) rfl) rfl) rfl), (i + 1, nextL (codeOf p) inp L1), _, zM, ?_, ⟨hs1.trans hs2, by show i + 1 ≤ n; omega, hok.next (by omega), by rw [hrun, show n - (i + 1) = f by omega]; simp only [Prod.mk.injEq, true_and]; omega, s2.gen, by show s2.gen ≤ ((k + (i + 1) : Nat) : Int); omega, g1, mb1, sb1, d2, s2, pi1, ci1, pj1, cj1, hQ2, rfl, hG2, hi1.mono hs2, hj1.mono hs2, rfl⟩, (by simp only; omega)⟩
      · exact zE
    · rw [decide_eq_false h0] at hany
      rw [hf, runL, if_neg h0] at hrun
      have hn1 : nextL (codeOf p) inp L1 = L1 := by
        have hst : L1.M.ld 4 = L1.b.m.st := hok.mach.st
        have hic : ¬ isC (codeOf p) L1.b.m = true := fun q => h0 (isC_true q).1
        rw [nextL, if_neg hic, nextB, if_neg h0, nextM, if_neg (by rw [hst]; exact h0)]
      rw [hn1] at hany
      refine zw rfl (WrA.cE (hany) rfl) ?_
      rintro _ σ2 _ ⟨_, ⟨d2, s2, rfl, hg2, hg20, hG2, hQ2, hs2, rfl⟩, rfl⟩
      refine XOA.cl ?_; refine zO rfl zJ ?_; refine zN (zT (yT rfl rfl (zS (zR (yA ?_))))); refine yS ?_; refine zN (zT (XA.ret (DA.inb_ret (DA.thn_ret (DA.thn_ret (DA.inb_ret (DA.thn_ret ?_)))))))
      have hg3 := hg20 (fun q => h0 (isC_true q).1)
      rw [hrun]
      exact bodyA.ret (ResA.one rfl rfl) zE ⟨by simp, hs1.trans hs2, s2.gen, by simp only [Nat.zero_add]; omega, ⟨g1, mb1, sb1, d2, s2, pi1, ci1, pj1, cj1, hQ2, rfl, hG2, hi1.mono hs2, hj1.mono hs2, rfl⟩⟩
  refine XA.exit (DA.thn_exit (DA.thn_exit (DA.inb_same (zT (zS (zR (yA ?_))))))); refine yS ?_; refine zN (zT (XA.ret ?_))
  obtain rfl : i = n := by omega
  rw [Nat.sub_self, runL] at hrun
  rw [hrun]
  exact bodyA.ret (ResA.one rfl rfl) zE ⟨by simp, hs1, gn1, by simpa using hg1, ⟨g1, mb1, sb1, d1, s1, pi1, ci1, pj1, cj1, hQ1, hsg1, hG1, hi1, hj1, rfl⟩⟩
theorem tear_l (kd : Int) (n : Nat) (K m : Int) (Γ : List HP) (hK0 : 0 ≤ K) (hK1 : K < 9223372036854775808) (hm0 : 0 ≤ m) (hm1 : m < 18446744073709551616) (hc : PSl 4 rIn σ (.slice pc (codeOf p).length cc) (codeOf p)) (hL : LifeG σ gx db pb pc cc nc p inp L gn Γ) (h : LiOk p inp L k) (hk : k + n ≤ 900000) (hgn : gn ≤ k) :
    CallsA Tryz.prog 34 #[ptr gx, .agg #[i64 kd, i64 n, i64 K, .int .u64 m]] σ Γ (RetA fun v σ' Γ' => v = i64 ((tearL (codeOf p) inp K (bitOf m 0) n L).2 : Nat) ∧ σ.sub σ' ∧ ∃ gn' : Int, gn' ≤ (k + (tearL (codeOf p) inp K (bitOf m 0) n L).2 : Nat) ∧ LifeG σ' gx db pb pc cc nc p inp (tearL (codeOf p) inp K (bitOf m 0) n L).1 gn' Γ') := by
  have hL0 := hL
  obtain ⟨g, mb, sb, d, s, pi, ci, pj, cj, hQ, hsg, hG, hi, hj, rfl⟩ := hL
  refine enterA2 Tryz.func34 rfl rfl rfl ?_; refine zS (zR ?_); refine zw rfl WrA.bx ?_
  rintro _ _ _ ⟨g3, rfl, rfl, rfl⟩
  refine yS ?_; refine zN (zT (zS (zS (zR (yV ?_))))); refine yB ?_; refine yA ?_; refine zN (zT (XA.block ?_))
  refine XA.gen [(0, _), (3, _), (4, _), (7, _), (8, _)] ⟨(by with_reducible (conv => lhs; whnf)), (by with_reducible (conv => lhs; whnf)), (by with_reducible (conv => lhs; whnf)), (by with_reducible (conv => lhs; whnf)), (by with_reducible (conv => lhs; whnf)), trivial⟩ (fun δ => ?_)
  dsimp only [List.foldl]
  refine XA.loop [(4, 5), (8, 46)] (fun x : Nat × Li => [(8, i64 x.1)]) (fun x σ' Γ' => σ.sub σ' ∧ x.1 ≤ n ∧ LiOk p inp x.2 (k + x.1) ∧ tearL (codeOf p) inp K (bitOf m 0) n L = ((tearL (codeOf p) inp K (bitOf m 0) (n - x.1) x.2).1, (tearL (codeOf p) inp K (bitOf m 0) (n - x.1) x.2).2 + x.1) ∧ ∃ gn1 : Int, gn1 ≤ (k + x.1 : Nat) ∧ ∃ Γ1, LifeG σ' gx db pb pc cc nc p inp x.2 gn1 Γ1 ∧ Γ' = blk g3 [i64 kd, i64 n, i64 K, .int .u64 m] 45 :: Γ1) (fun x => n - x.1) (0, L) (by exact ⟨rfl, trivial⟩) (Δ0 := _) ?_ (⟨.refl _, Nat.zero_le _, h, rfl, gn, hgn, _, hL0, rfl⟩) ?_
  · exact zE
  rintro ⟨i, L1⟩ δ σ1 _ ⟨hs1, hin, hok, hrun, gn1, hg1, Γ1, hL1, rfl⟩
  dsimp only [ovr, List.foldl]
  have hin : i ≤ n := hin
  simp only at hok hrun hg1 hL1
  obtain ⟨g1, mb1, sb1, d1, s1, pi1, ci1, pj1, cj1, hQ1, hsg1, hG1, hi1, hj1, rfl⟩ := hL1
  have hc1 := hc.mono hs1 (fun _ _ h => h)
  have hany := any_l σ1 db pb pc cc p inp L1 (k + i) g1 mb1 sb1 pi1 ci1 d1 s1 hG1 hc1 hi1 (by omega) hok (by omega) hQ1
  have hcm := commits_any σ1 g1 mb1 sb1 db pb pc cc (.slice pi1 inp.length ci1) 0 false d1 s1 L1.M L1.b inp p (k + i) hc1 hok.mach (by omega)
  refine zS (zR (zO rfl (Rd.lss rfl rfl) ?_)); refine zN (zT (zS ?_)); refine XA.condp rfl (fun hlt => ?_) (fun hlt => ?_)
  · obtain ⟨f, hf⟩ : ∃ f, n - i = f + 1 := ⟨n - i - 1, by omega⟩
    refine XA.skip (zT (zS (XA.block (zS (zR (yA ?_)))))); refine yS ?_; refine zN (zT (zS (zS (zR (yA ?_))))); refine zO rfl (Rd.nilCheck rfl) ?_; refine yV ?_; refine yB ?_
    by_cases hcx : isC (codeOf p) L1.b.m = true
    · rw [hcx] at hcm
      rw [hf, tearL, if_pos hcx] at hrun
      obtain ⟨h0, x, hx1, h15⟩ := isC_true hcx
      obtain ⟨x', hx, -⟩ := hok.mach.ok (by omega) h0
      have hxe : x' = x := by have := hx.at_; rw [hx1] at this; exact (Option.some.inj this).symm
      subst hxe
      by_cases hKz : K = 0
      · have htear : tearAt (codeOf p) inp K (bitOf m 0) L1 = wakeL (nextL (codeOf p) inp L1) := by rw [tearAt, if_pos (.inl hKz)]
        rw [htear] at hrun
        rw [decide_eq_true h0] at hany
        subst hKz
        refine yC (hcm) ?_; refine zN (zT (yT rfl rfl (zS ?_)))
        refine XA.draw (by kernel_rfl) _ _ [6] [(0, .pu), (1, .pu), (2, .pu), (3, .rd), (4, .pu), (5, .rd), (6, .wr)] (by kernel_rfl) (PH.sub.refl _) (Ent.sel (R := blk gx _ _) zL (Ent.sel (R := blk g3 _ _) zL (Ent.nil _))) ?_
        refine zu rfl rfl Rd.mv ?_; refine zu rfl rfl (Rd.nilCheck rfl) ?_; refine zu rfl rfl (Rd.fA rfl) ?_; refine XPA.rd rfl rfl Gd.free (Rd.ldC rfl (tyrow rfl) rfl) ?_; refine zu rfl rfl (Rd.fA rfl) ?_; refine XPA.rd rfl rfl Gd.free (Rd.ldC rfl (tyrow rfl) rfl) ?_
        refine XPA.wrZ0 rfl rfl Gd.free (by kernel_rfl) (WrA.cE (tear_m σ1 g1 mb1 pb pc pi1 _ cc _ ci1 0 false 0) rfl) ?_
        rintro _ _ _ ⟨_, ⟨rfl, rfl, rfl⟩, rfl⟩
        refine XPA.cl ?_; refine XPA.nil ?_; refine zT (zS (zR (yA ?_))); refine zO rfl (Rd.nilCheck rfl) ?_; refine yV ?_; refine yB ?_; refine zw rfl (WrA.cE (hany) rfl) ?_
        rintro _ σ2 _ ⟨_, ⟨d2, s2, rfl, hg2, hg20, hG2, hQ2, hs2, rfl⟩, rfl⟩
        refine XOA.cl ?_; refine zN (zT (zS ?_))
        refine XA.draw (by kernel_rfl) _ _ [6] [(0, .pu), (1, .pu), (2, .pu), (3, .rd), (4, .pu), (5, .rd), (6, .wr)] (by kernel_rfl) (PH.sub.refl _) (Ent.sel (R := blk gx _ _) zL (Ent.sel (R := blk g3 _ _) zL (Ent.nil _))) ?_
        refine zu rfl rfl Rd.mv ?_; refine zu rfl rfl (Rd.nilCheck rfl) ?_; refine zu rfl rfl (Rd.fA rfl) ?_; refine XPA.rd rfl rfl Gd.free (Rd.ldC rfl (tyrow rfl) rfl) ?_; refine zu rfl rfl (Rd.fA rfl) ?_; refine XPA.rd rfl rfl Gd.free (Rd.ldC rfl (tyrow rfl) rfl) ?_
        refine XPA.wrZ0 rfl rfl Gd.free (by kernel_rfl) (WrA.cE (crash_w σ2 mb1 sb1 db d2 s2 (nextL (codeOf p) inp L1).M m hm0 hm1) rfl) ?_
        rintro _ _ _ ⟨_, ⟨d3, rfl, rfl, hG3, hQ3, rfl⟩, rfl⟩
        refine XPA.cl ?_; refine XPA.nil ?_; refine zT (zS (zR (yA ?_))); refine zw rfl (WrA.cE (wake_l σ2 gx db pb _ pc pj1 (codeOf p).length cc cj1 nc inp d3 s2 hG3 (hj1.mono hs2) hok.mach.inl) rfl) ?_
        rintro _ σ4 _ ⟨_, ⟨g4, mb4, sb4, pi4, ci4, rfl, hs4, hi4, rfl⟩, rfl⟩
        refine XOA.cl ?_; refine zN (zT (zS (zR (yA ?_)))); refine zO rfl zI ?_; refine yS ?_; refine zN (zT (XA.ret (DA.thn_ret (DA.inb_ret (DA.thn_ret (DA.thn_ret (DA.inb_ret (DA.thn_ret ?_))))))))
        rw [hQ3, hQ2, hrun]
        exact bodyA.ret (ResA.one rfl rfl) zE ⟨congrArg i64 (by simp only [Int.natCast_add]; omega), (hs1.trans hs2).trans hs4, s2.gen, by simp only; omega, ⟨g4, mb4, sb4, d3, s2, pi4, ci4, pj1, cj1, hQ3.trans hQ2, rfl, hG3, hi4, (hj1.mono hs2).mono hs4, rfl⟩⟩
      · have hKp : 0 < K := by omega
        have e0 : L1.M.ld 0 = L1.b.m.next := hok.mach.sh.nx
        have hMC : (nextM (codeOf p) inp L1.M).C = (L1.M.put 0 (L1.M.ld 0 + 1)).C := by
          rw [nextM, if_pos (by rw [hok.mach.st]; exact h0), Me.stepM, e0, Int.toNat_natCast, hx1]
          obtain ⟨op, a1, a2, a3⟩ := x'
          simp only at h15
          subst h15
          rfl
        have htear : tearAt (codeOf p) inp K (bitOf m 0) L1 = ⟨wakeB L1.b, ⟨if K = 1 ∧ bitOf m 0 = true then (L1.M.put 0 (L1.M.ld 0 + 1)).C else pagesC d1 s1, noB⟩, if K = 1 ∧ bitOf m 0 = true then (L1.M.put 0 (L1.M.ld 0 + 1)).C else pagesC d1 s1⟩ ∨ (K = 1 ∧ bitOf m 0 = true ∧ tearAt (codeOf p) inp K (bitOf m 0) L1 = wakeL (nextL (codeOf p) inp L1)) := by
          by_cases q : K = 1 ∧ bitOf m 0 = true
          · exact .inr ⟨q.1, q.2, by rw [tearAt, if_pos (.inr q)]⟩
          · left
            rw [tearAt, if_neg (by rintro (h | h); exact hKz h; exact q h), if_neg q, hQ1]; rfl
        have hwake : (tearAt (codeOf p) inp K (bitOf m 0) L1).M = ⟨if K = 1 ∧ bitOf m 0 = true then (L1.M.put 0 (L1.M.ld 0 + 1)).C else pagesC d1 s1, noB⟩ ∧ (tearAt (codeOf p) inp K (bitOf m 0) L1).Q = (if K = 1 ∧ bitOf m 0 = true then (L1.M.put 0 (L1.M.ld 0 + 1)).C else pagesC d1 s1) ∧ (tearAt (codeOf p) inp K (bitOf m 0) L1).b.out = L1.b.out ∧ (tearAt (codeOf p) inp K (bitOf m 0) L1).b.wrong = L1.b.wrong := by
          rcases htear with q | ⟨q1, q2, q3⟩
          · rw [q]; exact ⟨rfl, rfl, rfl, rfl⟩
          · rw [q3, if_pos ⟨q1, q2⟩]
            have eQ : (nextL (codeOf p) inp L1).Q = (L1.M.put 0 (L1.M.ld 0 + 1)).C := (if_pos hcx).trans hMC
            have eB : (nextL (codeOf p) inp L1).b = { bump L1.b with kept := (bump L1.b).m } := by
              show nextB (codeOf p) inp true L1.b = _
              rw [nextB, if_pos h0, stepC_be hx1 h15]; rfl
            refine ⟨?_, eQ, ?_, ?_⟩
            · show (⟨(nextL (codeOf p) inp L1).Q, noB⟩ : Me) = _
              rw [eQ]
            · show (wakeB (nextL (codeOf p) inp L1).b).out = _
              rw [eB]; rfl
            · show (wakeB (nextL (codeOf p) inp L1).b).wrong = _
              rw [eB]; rfl
        obtain ⟨LT, hLT⟩ : ∃ LT, LT = tearAt (codeOf p) inp K (bitOf m 0) L1 := ⟨_, rfl⟩
        rw [← hLT] at hwake hrun
        obtain ⟨w1, w2, w3, w4⟩ := hwake
        obtain ⟨QT, hQT⟩ : ∃ QT, QT = (if K = 1 ∧ bitOf m 0 = true then (L1.M.put 0 (L1.M.ld 0 + 1)).C else pagesC d1 s1) := ⟨_, rfl⟩
        rw [← hQT] at w1 w2
        have hcr := fun σ => crash_h σ mb1 sb1 db d1 s1 (L1.M.put 0 (L1.M.ld 0 + 1)) K hKp m hm0 hm1
        rw [← hQT] at hcr
        refine yC (hcm) ?_; refine zN (zT (yT rfl rfl (zS ?_)))
        refine XA.draw (by kernel_rfl) _ _ [6] [(0, .pu), (1, .pu), (2, .pu), (3, .rd), (4, .pu), (5, .rd), (6, .wr)] (by kernel_rfl) (PH.sub.refl _) (Ent.sel (R := blk gx _ _) zL (Ent.sel (R := blk g3 _ _) zL (Ent.nil _))) ?_
        refine zu rfl rfl Rd.mv ?_; refine zu rfl rfl (Rd.nilCheck rfl) ?_; refine zu rfl rfl (Rd.fA rfl) ?_; refine XPA.rd rfl rfl Gd.free (Rd.ldC rfl (tyrow rfl) rfl) ?_; refine zu rfl rfl (Rd.fA rfl) ?_; refine XPA.rd rfl rfl Gd.free (Rd.ldC rfl (tyrow rfl) rfl) ?_
        refine XPA.wrZ0 rfl rfl Gd.free (by kernel_rfl) (WrA.cE (tear_m σ1 g1 mb1 pb pc pi1 _ cc _ ci1 0 false K) rfl) ?_
        rintro _ _ _ ⟨_, ⟨rfl, rfl, rfl⟩, rfl⟩
        refine XPA.cl ?_; refine XPA.nil ?_; refine zT (zS (zR (yA ?_))); refine zO rfl (Rd.nilCheck rfl) ?_; refine yV ?_; refine yB ?_
        refine zw rfl (WrA.cE (stepT_m σ1 g1 mb1 sb1 db pb pc pi1 cc ci1 (codeOf p) inp K false d1 s1 L1.M L1.b x' hc1 (by omega) hKp hK1 hok.mach.sh hx h15) rfl) ?_
        rintro _ σ2 _ ⟨_, ⟨rfl, hs2, rfl⟩, rfl⟩
        refine XOA.cl ?_; refine zN (zT (zS ?_))
        refine XA.draw (by kernel_rfl) _ _ [6] [(0, .pu), (1, .pu), (2, .pu), (3, .rd), (4, .pu), (5, .rd), (6, .wr)] (by kernel_rfl) (PH.sub.refl _) (Ent.sel (R := blk gx _ _) zL (Ent.sel (R := blk g3 _ _) zL (Ent.nil _))) ?_
        refine zu rfl rfl Rd.mv ?_; refine zu rfl rfl (Rd.nilCheck rfl) ?_; refine zu rfl rfl (Rd.fA rfl) ?_; refine XPA.rd rfl rfl Gd.free (Rd.ldC rfl (tyrow rfl) rfl) ?_; refine zu rfl rfl (Rd.fA rfl) ?_; refine XPA.rd rfl rfl Gd.free (Rd.ldC rfl (tyrow rfl) rfl) ?_
        refine XPA.wrZ0 rfl rfl Gd.free (by kernel_rfl) (WrA.cE (hcr σ2) rfl) ?_
        rintro _ _ _ ⟨_, ⟨d3, s3, rfl, rfl, hG3, hg3, hQ3, rfl⟩, rfl⟩
        refine XPA.cl ?_; refine XPA.nil ?_; refine zT (zS (zR (yA ?_))); refine zw rfl (WrA.cE (wake_l σ2 gx db pb _ pc pj1 (codeOf p).length cc cj1 nc inp d3 s3 hG3 (hj1.mono hs2) hok.mach.inl) rfl) ?_
        rintro _ σ4 _ ⟨_, ⟨g4, mb4, sb4, pi4, ci4, rfl, hs4, hi4, rfl⟩, rfl⟩
        refine XOA.cl ?_; refine zN (zT (zS (zR (yA ?_)))); refine zO rfl zI ?_; refine yS ?_; refine zN (zT (XA.ret (DA.thn_ret (DA.inb_ret (DA.thn_ret (DA.thn_ret (DA.inb_ret (DA.thn_ret ?_))))))))
        rw [hQ3, hrun, ← w1, ← w3, ← w4]
        exact bodyA.ret (ResA.one rfl rfl) zE ⟨congrArg i64 (by simp only [Int.natCast_add]; omega), (hs1.trans hs2).trans hs4, s3.gen, by simp only; omega, ⟨g4, mb4, sb4, d3, s3, pi4, ci4, pj1, cj1, hQ3.trans w2.symm, rfl, hG3, hi4, (hj1.mono hs2).mono hs4, rfl⟩⟩
    · have hcx2 : isC (codeOf p) L1.b.m = false := by revert hcx; cases isC (codeOf p) L1.b.m <;> simp
      rw [hcx2] at hcm
      by_cases h0 : L1.b.m.st = 0
      · rw [decide_eq_true h0] at hany
        rw [hf, tearL, if_neg hcx, if_pos h0] at hrun
        refine yC (hcm) ?_; refine zN (zT (yF rfl rfl (XA.skip (zT (zS (zR (yA ?_))))))); refine zO rfl (Rd.nilCheck rfl) ?_; refine yV ?_; refine yB ?_; refine zw rfl (WrA.cE (hany) rfl) ?_
        rintro _ σ2 _ ⟨_, ⟨d2, s2, rfl, hg2, hg20, hG2, hQ2, hs2, rfl⟩, rfl⟩
        refine XOA.cl ?_; refine zO rfl zJ ?_; refine zN (zT (yF rfl rfl (XA.skip (DA.inb_normal (zT (zR (zO rfl zI ?_))))))); refine yA ?_; refine zN (zT ?_)
        refine ⟨(Keep.upd (Keep.upd (Keep.upd (Keep.updO (Keep.upd (Keep.upd (Keep.upd (Keep.upd (Keep.updO (Keep.upd (Keep.upd (Keep.upd (Keep.upd (Keep.upd (Keep.upd (Keep.upd (Keep.upd (Keep.hav (Keep.hav (Keep.refl _ _) rfl) rfl) rfl) rfl) rfl) rfl) rfl) rfl) rfl) rfl) rfl) rfl) rfl) rfl) rfl) rfl) rfl) rfl) rfl), (i + 1, nextL (codeOf p) inp L1), _, zM, ?_, ⟨hs1.trans hs2, by show i + 1 ≤ n; omega, hok.next (by omega), by rw [hrun, show n - (i + 1) = f by omega]; simp only [Prod.mk.injEq, true_and]; omega, s2.gen, by show s2.gen ≤ ((k + (i + 1) : Nat) : Int); omega, _, ⟨g1, mb1, sb1, d2, s2, pi1, ci1, pj1, cj1, hQ2, rfl, hG2, hi1.mono hs2, hj1.mono hs2, rfl⟩, rfl⟩, (by simp only; omega)⟩
        · exact zE
      · rw [decide_eq_false h0] at hany
        rw [hf, tearL, if_neg hcx, if_neg h0] at hrun
        have hn1 : nextL (codeOf p) inp L1 = L1 := by
          have hst : L1.M.ld 4 = L1.b.m.st := hok.mach.st
          rw [nextL, if_neg hcx, nextB, if_neg h0, nextM, if_neg (by rw [hst]; exact h0)]
        rw [hn1] at hany
        refine yC (hcm) ?_; refine zN (zT (yF rfl rfl (XA.skip (zT (zS (zR (yA ?_))))))); refine zO rfl (Rd.nilCheck rfl) ?_; refine yV ?_; refine yB ?_; refine zw rfl (WrA.cE (hany) rfl) ?_
        rintro _ σ2 _ ⟨_, ⟨d2, s2, rfl, hg2, hg20, hG2, hQ2, hs2, rfl⟩, rfl⟩
        refine XOA.cl ?_; refine zO rfl zJ ?_; refine zN (zT (yT rfl rfl (zS (zR (yA ?_))))); refine yS ?_; refine zN (zT (XA.ret (DA.inb_ret (DA.thn_ret (DA.thn_ret (DA.inb_ret (DA.thn_ret ?_)))))))
        have hg3 := hg20 hcx
        rw [hrun]
        exact bodyA.ret (ResA.one rfl rfl) zE ⟨by simp, hs1.trans hs2, s2.gen, by simp only [Nat.zero_add]; omega, ⟨g1, mb1, sb1, d2, s2, pi1, ci1, pj1, cj1, hQ2, rfl, hG2, hi1.mono hs2, hj1.mono hs2, rfl⟩⟩
  refine XA.exit (DA.thn_exit (DA.thn_exit (DA.inb_same (zT (zS (zR (yV ?_))))))); refine yB ?_; refine yS ?_; refine zN (zT (XA.ret ?_))
  obtain rfl : i = n := by omega
  rw [Nat.sub_self, tearL] at hrun
  rw [hrun]
  exact bodyA.ret (ResA.one rfl rfl) zE ⟨by simp, hs1, gn1, by simpa using hg1, ⟨g1, mb1, sb1, d1, s1, pi1, ci1, pj1, cj1, hQ1, hsg1, hG1, hi1, hj1, rfl⟩⟩
end
end Go.Proofs.YtmnmcjdgnpgchaaGreat

namespace Go.Proofs.YtmnmcjdgnpgchaaGreat
open Go X
set_option maxHeartbeats 2000000
theorem tearL_ok {p : Pr} {inp : List Int} {K : Int} {bit : Bool} : ∀ (f : Nat) {L : Li} {k : Nat}, LiOk p inp L k → k + f ≤ 1000000 → LiOk p inp (tearL (codeOf p) inp K bit f L).1 (k + (tearL (codeOf p) inp K bit f L).2) ∧ (tearL (codeOf p) inp K bit f L).2 ≤ f
  | 0, L, k, h, hk => ⟨h, Nat.le_refl _⟩
  | f + 1, L, k, h, hk => by
    rw [tearL]; split
    · exact ⟨h.tear (by omega), by simp only; omega⟩
    · split
      · obtain ⟨h1, h2⟩ := tearL_ok f (h.next (by omega)) (by omega)
        exact ⟨by rw [show k + ((tearL (codeOf p) inp K bit f (nextL (codeOf p) inp L)).2 + 1) = k + 1 + (tearL (codeOf p) inp K bit f (nextL (codeOf p) inp L)).2 by omega]; exact h1, by simp only; omega⟩
      · exact ⟨h, Nat.zero_le _⟩
theorem doL_ok {p : Pr} {inp : List Int} {L : Li} {k : Nat} (s : LStp) (h : LiOk p inp L k) (hk : k + 3000 ≤ 1000000) : LiOk p inp (doL (codeOf p) inp s L).1 (k + (doL (codeOf p) inp s L).2) ∧ (doL (codeOf p) inp s L).2 ≤ 3000 ∧ ((doL (codeOf p) inp s L).2 = 0 ∨ ((doL (codeOf p) inp s L).2 : Int) ≤ s.n) := by
  rw [doL]; split
  · exact ⟨h, by simp, .inl rfl⟩
  · rename_i hf
    have hf : stpFault s = 0 := Classical.byContradiction hf
    have hn : s.kind ≠ 2 → 0 ≤ s.n ∧ s.n ≤ 3000 := by
      intro hk2
      rw [stpFault] at hf
      split at hf
      · cases hf
      · split at hf
        · cases hf
        · rename_i q
          constructor
          · exact Classical.byContradiction fun z => q (.inl ⟨hk2, .inl (by omega)⟩)
          · exact Classical.byContradiction fun z => q (.inl ⟨hk2, .inr (by omega)⟩)
    split
    · rename_i h1
      have := hn (by omega)
      obtain ⟨q1, q2⟩ := runL_ok s.n.toNat h (by omega)
      exact ⟨q1, by omega, .inr (by omega)⟩
    · split
      · rename_i h3
        have := hn (by omega)
        obtain ⟨q1, q2⟩ := tearL_ok (K := s.K) (bit := bitOf s.mask 0) s.n.toNat h (by omega)
        exact ⟨q1, by omega, .inr (by omega)⟩
      · exact ⟨h.wake, by simp, .inl rfl⟩
section
variable (σ : PH) (gx db pb : Nat) (pc : Option Addr) (cc nc : Nat) (p : Pr) (inp : List Int) (L : Li) (gn : Int) (k : Nat)
theorem do_l (s : LStp) (Γ : List HP) (hK1 : s.K < 9223372036854775808) (hm0 : 0 ≤ s.mask) (hm1 : s.mask < 18446744073709551616) (hc : PSl 4 rIn σ (.slice pc (codeOf p).length cc) (codeOf p)) (hL : LifeG σ gx db pb pc cc nc p inp L gn Γ) (h : LiOk p inp L k) (hk : k + 3000 ≤ 900000) (hgn : gn ≤ k) :
    CallsA Tryz.prog 13 #[ptr gx, .agg #[i64 s.kind, i64 s.n, i64 s.K, .int .u64 s.mask]] σ Γ (RetA fun v σ' Γ' => v = .tuple #[i64 ((doL (codeOf p) inp s L).2 : Nat), i64 (stpFault s)] ∧ σ.sub σ' ∧ ∃ gn' : Int, gn' ≤ (k + (doL (codeOf p) inp s L).2 : Nat) ∧ (s.kind = 2 → gn' = gn) ∧ LifeG σ' gx db pb pc cc nc p inp (doL (codeOf p) inp s L).1 gn' Γ') := by
  obtain ⟨kd, n, K, m⟩ := s
  simp only at hK1 hm0 hm1 ⊢
  have hL0 := hL
  have hrun := fun n' hn' => run_l σ gx db pb pc cc nc p inp L gn k n' Γ hc hL h hn' hgn
  have htear := fun n' K' hK0 hK1 hn' => tear_l σ gx db pb pc cc nc p inp L gn k kd n' K' m Γ hK0 hK1 hm0 hm1 hc hL h hn' hgn
  obtain ⟨g, mb, sb, d, s, pi, ci, pj, cj, hQ, hsg, hG, hi, hj, rfl⟩ := hL
  by_cases b1 : kd < 1
  · have hf : stpFault ⟨kd, n, K, m⟩ = 2 := by rw [stpFault, if_pos (.inl b1)]
    have hd : doL (codeOf p) inp ⟨kd, n, K, m⟩ L = (L, 0) := by rw [doL, if_pos (by rw [hf]; decide)]
    rw [hf, hd]
    refine enterA2 Tryz.func13 rfl rfl rfl ?_; refine zS (zR ?_); refine zw rfl WrA.bx ?_
    rintro _ _ _ ⟨g3, rfl, rfl, rfl⟩
    refine yS ?_; refine yS ?_; refine zN (zT (zS (XA.block (zS (zR (yV ?_)))))); refine yB ?_; refine zO rfl (Rd.lss rfl rfl) ?_; refine yA ?_
    first | refine gV ?_ | refine zH ?_
    first | refine gB ?_ | refine zH ?_
    first | (refine zG ?_; refine zO rfl (Rd.gtr rfl rfl) ?_) | refine zH ?_
    refine zO rfl zP ?_; refine yS ?_; refine zN (zT (XA.condT rfl (by first | rfl | exact decide_eq_true b1) ?_)); refine zS (zR (yS ?_)); refine yS ?_; refine zN (zT (XA.ret (DA.inb_ret (DA.thn_ret ?_))))
    exact bodyA.ret (ResA.two rfl rfl rfl) zE ⟨rfl, .refl _, gn, by simpa using hgn, fun _ => rfl, hL0⟩
  by_cases b2 : 3 < kd
  · have hf : stpFault ⟨kd, n, K, m⟩ = 2 := by rw [stpFault, if_pos (.inr b2)]
    have hd : doL (codeOf p) inp ⟨kd, n, K, m⟩ L = (L, 0) := by rw [doL, if_pos (by rw [hf]; decide)]
    rw [hf, hd]
    refine enterA2 Tryz.func13 rfl rfl rfl ?_; refine zS (zR ?_); refine zw rfl WrA.bx ?_
    rintro _ _ _ ⟨g3, rfl, rfl, rfl⟩
    refine yS ?_; refine yS ?_; refine zN (zT (zS (XA.block (zS (zR (yV ?_)))))); refine yB ?_; refine zO rfl (Rd.lss rfl rfl) ?_; refine yA ?_
    first | refine gV ?_ | refine zH ?_
    first | refine gB ?_ | refine zH ?_
    first | (refine zG ?_; refine zO rfl (Rd.gtr rfl rfl) ?_) | refine zH ?_
    refine zO rfl zP ?_; refine yS ?_; refine zN (zT (XA.condT rfl (by first | rfl | exact decide_eq_true b2) ?_)); refine zS (zR (yS ?_)); refine yS ?_; refine zN (zT (XA.ret (DA.inb_ret (DA.thn_ret ?_))))
    exact bodyA.ret (ResA.two rfl rfl rfl) zE ⟨rfl, .refl _, gn, by simpa using hgn, fun _ => rfl, hL0⟩
  have hb : ¬ (kd < 1 ∨ 3 < kd) := by omega
  by_cases k2 : kd = 2
  · subst k2
    have hf : stpFault ⟨2, n, K, m⟩ = 0 := by rw [stpFault, if_neg hb, if_neg]; rintro (⟨q, -⟩ | ⟨q, -⟩); exact q rfl; cases q
    have hd : doL (codeOf p) inp ⟨2, n, K, m⟩ L = (wakeL L, 0) := by rw [doL, if_neg (by rw [hf]; decide), if_neg (show ¬ (2 : Int) = 1 by decide), if_neg (show ¬ (2 : Int) = 3 by decide)]
    rw [hf, hd]
    refine enterA2 Tryz.func13 rfl rfl rfl ?_; refine zS (zR ?_); refine zw rfl WrA.bx ?_
    rintro _ _ _ ⟨g3, rfl, rfl, rfl⟩
    refine yS ?_; refine yS ?_; refine zN (zT (zS (XA.block (zS (zR (yV ?_)))))); refine yB ?_; refine zO rfl (Rd.lss rfl rfl) ?_; refine yA ?_
    first | refine gV ?_ | refine zH ?_
    first | refine gB ?_ | refine zH ?_
    first | (refine zG ?_; refine zO rfl (Rd.gtr rfl rfl) ?_) | refine zH ?_
    refine zO rfl zP ?_; refine yS ?_; refine zN (zT (XA.condF rfl (by first | rfl | exact decide_eq_false (by omega)) ?_)); refine zS (zR (yV ?_)); refine yB ?_; refine zO rfl (Rd.neq rfl rfl) ?_; refine yA ?_
    first | refine gV ?_ | refine zH ?_
    first | refine gB ?_ | refine zH ?_
    first | (refine zG ?_; refine zO rfl (Rd.lss rfl rfl) ?_) | refine zH ?_
    first | refine gA ?_ | refine zH ?_
    first | refine gV ?_ | refine zH ?_
    first | refine gB ?_ | refine zH ?_
    first | (refine zG ?_; refine zO rfl (Rd.gtr rfl rfl) ?_) | refine zH ?_
    first | (refine zG ?_; refine zO rfl zP ?_) | refine zH ?_
    refine zO rfl zP ?_; refine yA ?_
    first | refine gV ?_ | refine zH ?_
    first | refine gB ?_ | refine zH ?_
    first | refine gE ?_ | refine zH ?_
    first | refine gA ?_ | refine zH ?_
    first | refine gV ?_ | refine zH ?_
    first | refine gB ?_ | refine zH ?_
    first | (refine zG ?_; refine zO rfl (Rd.lss rfl rfl) ?_) | refine zH ?_
    first | (refine zG ?_; refine zO rfl zP ?_) | refine zH ?_
    refine zO rfl zP ?_; refine yS ?_; refine zN (zT (XA.condF rfl (by first | rfl | exact decide_eq_false (by omega)) ?_)); refine XA.skip (DA.inb_normal (zT (zS (zS (zR (yV ?_)))))); refine yB ?_
    refine zN (zT (XA.block (zS (zR (yE ?_))))); refine yS ?_; refine zN (zT (yF rfl rfl (zS (zR (yE ?_))))); refine yS ?_; refine zN (zT (yF rfl rfl (XA.skip (DA.inb_normal (zT (zS ?_))))))
    refine XA.draw (by kernel_rfl) _ _ [6] [(0, .pu), (1, .pu), (2, .pu), (3, .rd), (4, .pu), (5, .rd), (6, .wr)] (by kernel_rfl) (PH.sub.refl _) (Ent.sel (R := blk gx _ _) zL (Ent.sel (R := blk g3 _ _) zL (Ent.nil _))) ?_
    refine zu rfl rfl Rd.mv ?_; refine zu rfl rfl (Rd.nilCheck rfl) ?_; refine zu rfl rfl (Rd.fA rfl) ?_; refine XPA.rd rfl rfl Gd.free (Rd.ldC rfl (tyrow rfl) rfl) ?_; refine zu rfl rfl (Rd.fA rfl) ?_; refine XPA.rd rfl rfl Gd.free (Rd.ldC rfl (tyrow rfl) rfl) ?_
    refine XPA.wrZ0 rfl rfl Gd.free (by kernel_rfl) (WrA.cE (crash_w σ mb sb db d s L.M m hm0 hm1) rfl) ?_
    rintro _ _ _ ⟨_, ⟨d3, rfl, rfl, hG3, hQ3, rfl⟩, rfl⟩
    refine XPA.cl ?_; refine XPA.nil ?_; refine zT (zS (zR (yA ?_))); refine zw rfl (WrA.cE (wake_l σ gx db pb _ pc pj (codeOf p).length cc cj nc inp d3 s hG3 hj h.mach.inl) rfl) ?_
    rintro _ σ4 _ ⟨_, ⟨g4, mb4, sb4, pi4, ci4, rfl, hs4, hi4, rfl⟩, rfl⟩
    refine XOA.cl ?_; refine zN (zT (zS (zR (yS ?_)))); refine yS ?_; refine zN (zT (XA.ret ?_))
    rw [hQ3, hQ]
    exact bodyA.ret (ResA.two rfl rfl rfl) zE ⟨rfl, hs4, s.gen, by simp only [Nat.add_zero]; omega, fun _ => hsg, ⟨g4, mb4, sb4, d3, s, pi4, ci4, pj, cj, hQ3.trans hQ, rfl, hG3, hi4, hj.mono hs4, rfl⟩⟩
  by_cases n0 : n < 0
  · have hf : stpFault ⟨kd, n, K, m⟩ = 1 := by rw [stpFault, if_neg hb, if_pos (.inl ⟨k2, .inl n0⟩)]
    have hd : doL (codeOf p) inp ⟨kd, n, K, m⟩ L = (L, 0) := by rw [doL, if_pos (by rw [hf]; decide)]
    rw [hf, hd]
    have hkd : kd = 1 ∨ kd = 3 := by omega
    rcases hkd with rfl | rfl
    · refine enterA2 Tryz.func13 rfl rfl rfl ?_
      refine zS (zR ?_); refine zw rfl WrA.bx ?_
      rintro _ _ _ ⟨g3, rfl, rfl, rfl⟩
      refine yS ?_; refine yS ?_; refine zN (zT (zS (XA.block (zS (zR (yV ?_)))))); refine yB ?_; refine zO rfl (Rd.lss rfl rfl) ?_; refine yA ?_
      first | refine gV ?_ | refine zH ?_
      first | refine gB ?_ | refine zH ?_
      first | (refine zG ?_; refine zO rfl (Rd.gtr rfl rfl) ?_) | refine zH ?_
      refine zO rfl zP ?_; refine yS ?_; refine zN (zT (XA.condF rfl (by first | rfl | exact decide_eq_false (by omega)) ?_)); refine zS (zR (yV ?_)); refine yB ?_; refine zO rfl (Rd.neq rfl rfl) ?_; refine yA ?_
      first | refine gV ?_ | refine zH ?_
      first | refine gB ?_ | refine zH ?_
      first | (refine zG ?_; refine zO rfl (Rd.lss rfl rfl) ?_) | refine zH ?_
      first | refine gA ?_ | refine zH ?_
      first | refine gV ?_ | refine zH ?_
      first | refine gB ?_ | refine zH ?_
      first | (refine zG ?_; refine zO rfl (Rd.gtr rfl rfl) ?_) | refine zH ?_
      first | (refine zG ?_; refine zO rfl zP ?_) | refine zH ?_
      refine zO rfl zP ?_; refine yA ?_
      first | refine gV ?_ | refine zH ?_
      first | refine gB ?_ | refine zH ?_
      first | refine gE ?_ | refine zH ?_
      first | refine gA ?_ | refine zH ?_
      first | refine gV ?_ | refine zH ?_
      first | refine gB ?_ | refine zH ?_
      first | (refine zG ?_; refine zO rfl (Rd.lss rfl rfl) ?_) | refine zH ?_
      first | (refine zG ?_; refine zO rfl zP ?_) | refine zH ?_
      refine zO rfl zP ?_; refine yS ?_; refine zN (zT (XA.condT rfl (by first | rfl | exact decide_eq_true n0) ?_)); refine zS (zR (yS ?_)); refine yS ?_; refine zN (zT (XA.ret (DA.inb_ret (DA.thn_ret ?_))))
      exact bodyA.ret (ResA.two rfl rfl rfl) zE ⟨rfl, .refl _, gn, by simpa using hgn, fun _ => rfl, hL0⟩
    · refine enterA2 Tryz.func13 rfl rfl rfl ?_
      refine zS (zR ?_); refine zw rfl WrA.bx ?_
      rintro _ _ _ ⟨g3, rfl, rfl, rfl⟩
      refine yS ?_; refine yS ?_; refine zN (zT (zS (XA.block (zS (zR (yV ?_)))))); refine yB ?_; refine zO rfl (Rd.lss rfl rfl) ?_; refine yA ?_
      first | refine gV ?_ | refine zH ?_
      first | refine gB ?_ | refine zH ?_
      first | (refine zG ?_; refine zO rfl (Rd.gtr rfl rfl) ?_) | refine zH ?_
      refine zO rfl zP ?_; refine yS ?_; refine zN (zT (XA.condF rfl (by first | rfl | exact decide_eq_false (by omega)) ?_)); refine zS (zR (yV ?_)); refine yB ?_; refine zO rfl (Rd.neq rfl rfl) ?_; refine yA ?_
      first | refine gV ?_ | refine zH ?_
      first | refine gB ?_ | refine zH ?_
      first | (refine zG ?_; refine zO rfl (Rd.lss rfl rfl) ?_) | refine zH ?_
      first | refine gA ?_ | refine zH ?_
      first | refine gV ?_ | refine zH ?_
      first | refine gB ?_ | refine zH ?_
      first | (refine zG ?_; refine zO rfl (Rd.gtr rfl rfl) ?_) | refine zH ?_
      first | (refine zG ?_; refine zO rfl zP ?_) | refine zH ?_
      refine zO rfl zP ?_; refine yA ?_
      first | refine gV ?_ | refine zH ?_
      first | refine gB ?_ | refine zH ?_
      first | refine gE ?_ | refine zH ?_
      first | refine gA ?_ | refine zH ?_
      first | refine gV ?_ | refine zH ?_
      first | refine gB ?_ | refine zH ?_
      first | (refine zG ?_; refine zO rfl (Rd.lss rfl rfl) ?_) | refine zH ?_
      first | (refine zG ?_; refine zO rfl zP ?_) | refine zH ?_
      refine zO rfl zP ?_; refine yS ?_; refine zN (zT (XA.condT rfl (by first | rfl | exact decide_eq_true n0) ?_)); refine zS (zR (yS ?_)); refine yS ?_; refine zN (zT (XA.ret (DA.inb_ret (DA.thn_ret ?_))))
      exact bodyA.ret (ResA.two rfl rfl rfl) zE ⟨rfl, .refl _, gn, by simpa using hgn, fun _ => rfl, hL0⟩
  by_cases n1 : 3000 < n
  · have hf : stpFault ⟨kd, n, K, m⟩ = 1 := by rw [stpFault, if_neg hb, if_pos (.inl ⟨k2, .inr n1⟩)]
    have hd : doL (codeOf p) inp ⟨kd, n, K, m⟩ L = (L, 0) := by rw [doL, if_pos (by rw [hf]; decide)]
    rw [hf, hd]
    have hkd : kd = 1 ∨ kd = 3 := by omega
    rcases hkd with rfl | rfl
    · refine enterA2 Tryz.func13 rfl rfl rfl ?_
      refine zS (zR ?_); refine zw rfl WrA.bx ?_
      rintro _ _ _ ⟨g3, rfl, rfl, rfl⟩
      refine yS ?_; refine yS ?_; refine zN (zT (zS (XA.block (zS (zR (yV ?_)))))); refine yB ?_; refine zO rfl (Rd.lss rfl rfl) ?_; refine yA ?_
      first | refine gV ?_ | refine zH ?_
      first | refine gB ?_ | refine zH ?_
      first | (refine zG ?_; refine zO rfl (Rd.gtr rfl rfl) ?_) | refine zH ?_
      refine zO rfl zP ?_; refine yS ?_; refine zN (zT (XA.condF rfl (by first | rfl | exact decide_eq_false (by omega)) ?_)); refine zS (zR (yV ?_)); refine yB ?_; refine zO rfl (Rd.neq rfl rfl) ?_; refine yA ?_
      first | refine gV ?_ | refine zH ?_
      first | refine gB ?_ | refine zH ?_
      first | (refine zG ?_; refine zO rfl (Rd.lss rfl rfl) ?_) | refine zH ?_
      first | refine gA ?_ | refine zH ?_
      first | refine gV ?_ | refine zH ?_
      first | refine gB ?_ | refine zH ?_
      first | (refine zG ?_; refine zO rfl (Rd.gtr rfl rfl) ?_) | refine zH ?_
      first | (refine zG ?_; refine zO rfl zP ?_) | refine zH ?_
      refine zO rfl zP ?_; refine yA ?_
      first | refine gV ?_ | refine zH ?_
      first | refine gB ?_ | refine zH ?_
      first | refine gE ?_ | refine zH ?_
      first | refine gA ?_ | refine zH ?_
      first | refine gV ?_ | refine zH ?_
      first | refine gB ?_ | refine zH ?_
      first | (refine zG ?_; refine zO rfl (Rd.lss rfl rfl) ?_) | refine zH ?_
      first | (refine zG ?_; refine zO rfl zP ?_) | refine zH ?_
      refine zO rfl zP ?_; refine yS ?_; refine zN (zT (XA.condT rfl (by first | rfl | exact decide_eq_true n1) ?_)); refine zS (zR (yS ?_)); refine yS ?_; refine zN (zT (XA.ret (DA.inb_ret (DA.thn_ret ?_))))
      exact bodyA.ret (ResA.two rfl rfl rfl) zE ⟨rfl, .refl _, gn, by simpa using hgn, fun _ => rfl, hL0⟩
    · refine enterA2 Tryz.func13 rfl rfl rfl ?_
      refine zS (zR ?_); refine zw rfl WrA.bx ?_
      rintro _ _ _ ⟨g3, rfl, rfl, rfl⟩
      refine yS ?_; refine yS ?_; refine zN (zT (zS (XA.block (zS (zR (yV ?_)))))); refine yB ?_; refine zO rfl (Rd.lss rfl rfl) ?_; refine yA ?_
      first | refine gV ?_ | refine zH ?_
      first | refine gB ?_ | refine zH ?_
      first | (refine zG ?_; refine zO rfl (Rd.gtr rfl rfl) ?_) | refine zH ?_
      refine zO rfl zP ?_; refine yS ?_; refine zN (zT (XA.condF rfl (by first | rfl | exact decide_eq_false (by omega)) ?_)); refine zS (zR (yV ?_)); refine yB ?_; refine zO rfl (Rd.neq rfl rfl) ?_; refine yA ?_
      first | refine gV ?_ | refine zH ?_
      first | refine gB ?_ | refine zH ?_
      first | (refine zG ?_; refine zO rfl (Rd.lss rfl rfl) ?_) | refine zH ?_
      first | refine gA ?_ | refine zH ?_
      first | refine gV ?_ | refine zH ?_
      first | refine gB ?_ | refine zH ?_
      first | (refine zG ?_; refine zO rfl (Rd.gtr rfl rfl) ?_) | refine zH ?_
      first | (refine zG ?_; refine zO rfl zP ?_) | refine zH ?_
      refine zO rfl zP ?_; refine yA ?_
      first | refine gV ?_ | refine zH ?_
      first | refine gB ?_ | refine zH ?_
      first | refine gE ?_ | refine zH ?_
      first | refine gA ?_ | refine zH ?_
      first | refine gV ?_ | refine zH ?_
      first | refine gB ?_ | refine zH ?_
      first | (refine zG ?_; refine zO rfl (Rd.lss rfl rfl) ?_) | refine zH ?_
      first | (refine zG ?_; refine zO rfl zP ?_) | refine zH ?_
      refine zO rfl zP ?_; refine yS ?_; refine zN (zT (XA.condT rfl (by first | rfl | exact decide_eq_true n1) ?_)); refine zS (zR (yS ?_)); refine yS ?_; refine zN (zT (XA.ret (DA.inb_ret (DA.thn_ret ?_))))
      exact bodyA.ret (ResA.two rfl rfl rfl) zE ⟨rfl, .refl _, gn, by simpa using hgn, fun _ => rfl, hL0⟩
  obtain ⟨n, rfl⟩ : ∃ j : Nat, n = j := ⟨n.toNat, by omega⟩
  by_cases k1 : kd = 1
  · subst k1
    have hf : stpFault ⟨1, n, K, m⟩ = 0 := by rw [stpFault, if_neg hb, if_neg]; rintro (⟨-, q⟩ | ⟨q, -⟩); · simp only at q; omega
                                              · cases q
    have hd : doL (codeOf p) inp ⟨1, n, K, m⟩ L = runL (codeOf p) inp n L := by rw [doL, if_neg (by rw [hf]; decide), if_pos rfl, Int.toNat_natCast]
    rw [hf, hd]
    refine enterA2 Tryz.func13 rfl rfl rfl ?_; refine zS (zR ?_); refine zw rfl WrA.bx ?_
    rintro _ _ _ ⟨g3, rfl, rfl, rfl⟩
    refine yS ?_; refine yS ?_; refine zN (zT (zS (XA.block (zS (zR (yV ?_)))))); refine yB ?_; refine zO rfl (Rd.lss rfl rfl) ?_; refine yA ?_
    first | refine gV ?_ | refine zH ?_
    first | refine gB ?_ | refine zH ?_
    first | (refine zG ?_; refine zO rfl (Rd.gtr rfl rfl) ?_) | refine zH ?_
    refine zO rfl zP ?_; refine yS ?_; refine zN (zT (XA.condF rfl (by first | rfl | exact decide_eq_false (by omega)) ?_)); refine zS (zR (yV ?_)); refine yB ?_; refine zO rfl (Rd.neq rfl rfl) ?_; refine yA ?_
    first | refine gV ?_ | refine zH ?_
    first | refine gB ?_ | refine zH ?_
    first | (refine zG ?_; refine zO rfl (Rd.lss rfl rfl) ?_) | refine zH ?_
    first | refine gA ?_ | refine zH ?_
    first | refine gV ?_ | refine zH ?_
    first | refine gB ?_ | refine zH ?_
    first | (refine zG ?_; refine zO rfl (Rd.gtr rfl rfl) ?_) | refine zH ?_
    first | (refine zG ?_; refine zO rfl zP ?_) | refine zH ?_
    refine zO rfl zP ?_; refine yA ?_
    first | refine gV ?_ | refine zH ?_
    first | refine gB ?_ | refine zH ?_
    first | refine gE ?_ | refine zH ?_
    first | refine gA ?_ | refine zH ?_
    first | refine gV ?_ | refine zH ?_
    first | refine gB ?_ | refine zH ?_
    first | (refine zG ?_; refine zO rfl (Rd.lss rfl rfl) ?_) | refine zH ?_
    first | (refine zG ?_; refine zO rfl zP ?_) | refine zH ?_
    refine zO rfl zP ?_; refine yS ?_; refine zN (zT (XA.condF rfl (by first | rfl | exact decide_eq_false (by omega)) ?_)); refine XA.skip (DA.inb_normal (zT (zS (zS (zR (yV ?_)))))); refine yB ?_
    refine zN (zT (XA.block (zS (zR (yE ?_))))); refine yS ?_; refine zN (zT (yT rfl rfl (zS (zR (yA ?_))))); refine yV ?_; refine yB ?_
    refine zw rfl (WrA.cE (hrun n (by omega)) rfl) ?_
    rintro _ σ2 _ ⟨Γ2, ⟨rfl, hs2, gn2, hg2, hL2⟩, rfl⟩
    refine XOA.cl ?_
    obtain ⟨g2, mb2, sb2, d2, s2, pi2, ci2, pj2, cj2, hQ2, hsg2, hG2, hi2, hj2, rfl⟩ := hL2
    refine yS ?_; refine yS ?_; refine zN (zT (XA.ret (DA.inb_ret (DA.thn_ret ?_))))
    exact bodyA.ret (ResA.two rfl rfl rfl) zE ⟨rfl, hs2, gn2, hg2, fun q => absurd q (by decide), ⟨g2, mb2, sb2, d2, s2, pi2, ci2, pj2, cj2, hQ2, hsg2, hG2, hi2, hj2, rfl⟩⟩
  obtain rfl : kd = 3 := by omega
  by_cases q0 : K < 0
  · have hf : stpFault ⟨3, n, K, m⟩ = 1 := by rw [stpFault, if_neg hb, if_pos (.inr ⟨rfl, q0⟩)]
    have hd : doL (codeOf p) inp ⟨3, n, K, m⟩ L = (L, 0) := by rw [doL, if_pos (by rw [hf]; decide)]
    rw [hf, hd]
    refine enterA2 Tryz.func13 rfl rfl rfl ?_; refine zS (zR ?_); refine zw rfl WrA.bx ?_
    rintro _ _ _ ⟨g3, rfl, rfl, rfl⟩
    refine yS ?_; refine yS ?_; refine zN (zT (zS (XA.block (zS (zR (yV ?_)))))); refine yB ?_; refine zO rfl (Rd.lss rfl rfl) ?_; refine yA ?_
    first | refine gV ?_ | refine zH ?_
    first | refine gB ?_ | refine zH ?_
    first | (refine zG ?_; refine zO rfl (Rd.gtr rfl rfl) ?_) | refine zH ?_
    refine zO rfl zP ?_; refine yS ?_; refine zN (zT (XA.condF rfl (by first | rfl | exact decide_eq_false (by omega)) ?_)); refine zS (zR (yV ?_)); refine yB ?_; refine zO rfl (Rd.neq rfl rfl) ?_; refine yA ?_
    first | refine gV ?_ | refine zH ?_
    first | refine gB ?_ | refine zH ?_
    first | (refine zG ?_; refine zO rfl (Rd.lss rfl rfl) ?_) | refine zH ?_
    first | refine gA ?_ | refine zH ?_
    first | refine gV ?_ | refine zH ?_
    first | refine gB ?_ | refine zH ?_
    first | (refine zG ?_; refine zO rfl (Rd.gtr rfl rfl) ?_) | refine zH ?_
    first | (refine zG ?_; refine zO rfl zP ?_) | refine zH ?_
    refine zO rfl zP ?_; refine yA ?_
    first | refine gV ?_ | refine zH ?_
    first | refine gB ?_ | refine zH ?_
    first | refine gE ?_ | refine zH ?_
    first | refine gA ?_ | refine zH ?_
    first | refine gV ?_ | refine zH ?_
    first | refine gB ?_ | refine zH ?_
    first | (refine zG ?_; refine zO rfl (Rd.lss rfl rfl) ?_) | refine zH ?_
    first | (refine zG ?_; refine zO rfl zP ?_) | refine zH ?_
    refine zO rfl zP ?_; refine yS ?_; refine zN (zT (XA.condT rfl (by first | rfl | exact decide_eq_true q0) ?_)); refine zS (zR (yS ?_)); refine yS ?_; refine zN (zT (XA.ret (DA.inb_ret (DA.thn_ret ?_))))
    exact bodyA.ret (ResA.two rfl rfl rfl) zE ⟨rfl, .refl _, gn, by simpa using hgn, fun _ => rfl, hL0⟩
  have hf : stpFault ⟨3, n, K, m⟩ = 0 := by
    rw [stpFault, if_neg hb, if_neg]
    rintro (⟨-, q⟩ | ⟨-, q⟩)
    · simp only at q; omega
    · exact q0 q
  have hd : doL (codeOf p) inp ⟨3, n, K, m⟩ L = tearL (codeOf p) inp K (bitOf m 0) n L := by rw [doL, if_neg (by rw [hf]; decide), if_neg (show ¬ (3 : Int) = 1 by decide), if_pos rfl, Int.toNat_natCast]
  rw [hf, hd]
  refine enterA2 Tryz.func13 rfl rfl rfl ?_; refine zS (zR ?_); refine zw rfl WrA.bx ?_
  rintro _ _ _ ⟨g3, rfl, rfl, rfl⟩
  refine yS ?_; refine yS ?_; refine zN (zT (zS (XA.block (zS (zR (yV ?_)))))); refine yB ?_; refine zO rfl (Rd.lss rfl rfl) ?_; refine yA ?_
  first | refine gV ?_ | refine zH ?_
  first | refine gB ?_ | refine zH ?_
  first | (refine zG ?_; refine zO rfl (Rd.gtr rfl rfl) ?_) | refine zH ?_
  refine zO rfl zP ?_; refine yS ?_; refine zN (zT (XA.condF rfl (by first | rfl | exact decide_eq_false (by omega)) ?_)); refine zS (zR (yV ?_)); refine yB ?_; refine zO rfl (Rd.neq rfl rfl) ?_; refine yA ?_
  first | refine gV ?_ | refine zH ?_
  first | refine gB ?_ | refine zH ?_
  first | (refine zG ?_; refine zO rfl (Rd.lss rfl rfl) ?_) | refine zH ?_
  first | refine gA ?_ | refine zH ?_
  first | refine gV ?_ | refine zH ?_
  first | refine gB ?_ | refine zH ?_
  first | (refine zG ?_; refine zO rfl (Rd.gtr rfl rfl) ?_) | refine zH ?_
  first | (refine zG ?_; refine zO rfl zP ?_) | refine zH ?_
  refine zO rfl zP ?_; refine yA ?_
  first | refine gV ?_ | refine zH ?_
  first | refine gB ?_ | refine zH ?_
  first | refine gE ?_ | refine zH ?_
  first | refine gA ?_ | refine zH ?_
  first | refine gV ?_ | refine zH ?_
  first | refine gB ?_ | refine zH ?_
  first | (refine zG ?_; refine zO rfl (Rd.lss rfl rfl) ?_) | refine zH ?_
  first | (refine zG ?_; refine zO rfl zP ?_) | refine zH ?_
  refine zO rfl zP ?_; refine yS ?_; refine zN (zT (XA.condF rfl (by first | rfl | exact decide_eq_false (by omega)) ?_)); refine XA.skip (DA.inb_normal (zT (zS (zS (zR (yV ?_)))))); refine yB ?_
  refine zN (zT (XA.block (zS (zR (yE ?_))))); refine yS ?_; refine zN (zT (yF rfl rfl (zS (zR (yE ?_))))); refine yS ?_; refine zN (zT (yT rfl rfl (zS (zR (yA ?_))))); refine zO rfl (Rd.ldA rfl) ?_
  refine zw rfl (WrA.cE (htear n K (by omega) hK1 (by omega)) rfl) ?_
  rintro _ σ2 _ ⟨Γ2, ⟨rfl, hs2, gn2, hg2, hL2⟩, rfl⟩
  refine XOA.cl ?_
  obtain ⟨g2, mb2, sb2, d2, s2, pi2, ci2, pj2, cj2, hQ2, hsg2, hG2, hi2, hj2, rfl⟩ := hL2
  refine yS ?_; refine yS ?_; refine zN (zT (XA.ret (DA.inb_ret (DA.thn_ret ?_))))
  exact bodyA.ret (ResA.two rfl rfl rfl) zE ⟨rfl, hs2, gn2, hg2, fun q => absurd q (by decide), ⟨g2, mb2, sb2, d2, s2, pi2, ci2, pj2, cj2, hQ2, hsg2, hG2, hi2, hj2, rfl⟩⟩
theorem nowl_l (Γ : List HP) (hL : LifeG σ gx db pb pc cc nc p inp L gn Γ) (h : LiOk p inp L k) (hk : k ≤ 1000000) (hn : nc = L.b.m.cells.length) :
    CallsA Tryz.prog 16 #[ptr gx] σ Γ (RetA fun v σ' Γ' => ∃ po co pv cv, v = .agg #[i64 (nowC L.b), .slice po L.b.out.length co, .slice pv nc cv] ∧ PInts σ' (.slice po L.b.out.length co) L.b.out ∧ PInts σ' (.slice pv nc cv) L.b.m.cells ∧ σ.sub σ' ∧ LifeG σ' gx db pb pc cc nc p inp L gn Γ') := by
  obtain ⟨g, mb, sb, d, s, pi, ci, pj, cj, hQ, hsg, hG, hi, hj, rfl⟩ := hL
  have hol := h.mach.ol
  refine enterA1 Tryz.func16 rfl rfl rfl ?_; refine zS (zR ?_); refine zw rfl (WrA.alloc (tyrow rfl)) ?_
  rintro _ _ _ ⟨g2, rfl, rfl, rfl⟩
  refine zN (zT (zS ?_))
  refine XA.draw (by kernel_rfl) _ _ [8, 9] [(0, .pu), (1, .pu), (2, .pu), (3, .rd), (4, .pu), (5, .pu), (6, .pu), (7, .rd), (8, .wr), (9, .wr)] (by kernel_rfl) (PH.sub.refl _) (Ent.sel (R := blk gx _ _) zL (Ent.nil _)) ?_
  refine zu rfl rfl Rd.mv ?_; refine zu rfl rfl (Rd.nilCheck rfl) ?_; refine zu rfl rfl (Rd.fA rfl) ?_; refine XPA.rd rfl rfl Gd.free (Rd.ldC rfl (tyrow rfl) rfl) ?_; refine zu rfl rfl Rd.mv ?_; refine zu rfl rfl (Rd.nilCheck rfl) ?_; refine zu rfl rfl (Rd.fA rfl) ?_
  refine XPA.rd rfl rfl Gd.free (Rd.ldC rfl (tyrow rfl) rfl) ?_
  refine XPA.wrZ0 rfl rfl Gd.free (by kernel_rfl) (WrA.cE (result_m σ g mb sb db pb (.slice pc (codeOf p).length cc) (.slice pi inp.length ci) 0 false d s L.M L.b.m L.b.out L.b.wrong nc h.mach.sh (by omega) (by omega)) rfl) ?_
  rintro _ σ2 _ ⟨_, ⟨po, co, pv, cv, rfl, hvo, hvc, hs2, rfl⟩, rfl⟩
  refine XPA.cl ?_
  rw [List.take_of_length_le (by omega)] at hvc
  refine XPA.wrZ0 rfl rfl Gd.free (by kernel_rfl) (WrA.st (tyrow rfl) rfl) ?_
  rintro _ _ _ ⟨rfl, rfl, rfl⟩
  refine XPA.nil ?_; refine zT (XA.ret ?_)
  exact bodyA.ret (ResA.cell1 rfl rfl (Ld.atBlk (tyrow rfl) rfl zL rfl (by first | exact take0 (by first | rfl | assumption | (refine (ints_len _).trans ?_; assumption) | (simp [*]; (first | done | fail))) | assumption | exact take_app (by first | rfl | assumption | (refine (ints_len _).trans ?_; assumption) | (simp [*]; (first | done | fail))) | (conv => lhs; simp only [List.drop_succ_cons, List.drop_zero, List.take_succ_cons, List.take_zero])) (by first | rfl | assumption | (refine (ints_len _).trans ?_; assumption) | (simp [*]; (first | done | fail))))) zE ⟨po, co, pv, cv, rfl, hvo, hvc, hs2, ⟨g, mb, sb, d, s, pi, ci, pj, cj, hQ, hsg, hG, hi.mono hs2, hj.mono hs2, rfl⟩⟩
end
end Go.Proofs.YtmnmcjdgnpgchaaGreat

namespace Go.Proofs.YtmnmcjdgnpgchaaGreat
open Go X
set_option maxHeartbeats 4000000
theorem X.XQA.w3 {P : Program} {N : Nat} {ρ : Env} {σ : PH} {Γ : List HP} {K : KA} {ops : Array Oper} {σ0 : PH} {Γ0 : List HP} {z : List Nat} {fuel i j q : Nat} {listed : Array Bool} (hr : (Region.ready .any ops listed == [i, j, q]) = true) (k1 : XQA1 P N ops σ0 Γ0 z fuel listed i ρ σ Γ K) (k2 : XQA1 P N ops σ0 Γ0 z fuel listed j ρ σ Γ K) (k3 : XQA1 P N ops σ0 Γ0 z fuel listed q ρ σ Γ K) : XQA P N ops σ0 Γ0 z (fuel + 1) listed ρ σ Γ K := by
  have hr' : Region.ready .any ops listed = [i, j, q] := by simpa using hr
  refine ⟨fun f h hh hs => ⟨fun w0 a w hs' hcl hsm hh' he hS => ⟨fun e => (by rw [hr'] at e; cases e), fun y hy => ?_⟩⟩⟩
  rw [hr'] at hy
  simp only [List.mem_cons, List.not_mem_nil, or_false] at hy
  rcases hy with rfl | rfl | rfl
  · exact (k1.out f h hh hs).out w0 a w hs' hcl hsm hh' he hS
  · exact (k2.out f h hh hs).out w0 a w hs' hcl hsm hh' he hS
  · exact (k3.out f h hh hs).out w0 a w hs' hcl hsm hh' he hS
abbrev tt : Bool := true
abbrev ff : Bool := false
abbrev l0 : Array Bool := #[tt,tt,tt,tt,tt,tt,tt,tt,tt,ff,ff,ff,ff,tt,tt,tt,ff,ff,ff,ff,ff]
abbrev l1 : Array Bool := #[tt,tt,tt,tt,tt,tt,tt,tt,tt,tt,ff,ff,ff,tt,tt,tt,ff,ff,ff,ff,ff]
abbrev l2 : Array Bool := #[tt,tt,tt,tt,tt,tt,tt,tt,tt,tt,tt,ff,ff,tt,tt,tt,ff,ff,ff,ff,ff]
abbrev l3 : Array Bool := #[tt,tt,tt,tt,tt,tt,tt,tt,tt,tt,tt,tt,ff,tt,tt,tt,ff,ff,ff,ff,ff]
abbrev l4 : Array Bool := #[tt,tt,tt,tt,tt,tt,tt,tt,tt,tt,tt,tt,tt,tt,tt,tt,ff,ff,ff,ff,ff]
abbrev l5 : Array Bool := #[tt,tt,tt,tt,tt,tt,tt,tt,tt,tt,tt,tt,tt,tt,tt,tt,tt,ff,ff,ff,ff]
abbrev l6 : Array Bool := #[tt,tt,tt,tt,tt,tt,tt,tt,tt,tt,tt,tt,tt,tt,tt,tt,tt,tt,ff,ff,ff]
abbrev l7 : Array Bool := #[tt,tt,tt,tt,tt,tt,tt,tt,tt,tt,tt,tt,tt,tt,tt,tt,tt,tt,tt,ff,ff]
abbrev l8 : Array Bool := #[tt,tt,tt,tt,tt,tt,tt,tt,tt,tt,tt,tt,tt,tt,tt,tt,tt,tt,tt,tt,ff]
abbrev l9 : Array Bool := #[tt,tt,tt,tt,tt,tt,tt,tt,tt,tt,tt,tt,tt,tt,tt,tt,tt,tt,tt,tt,tt]
abbrev l10 : Array Bool := #[tt,tt,tt,tt,tt,ff,ff,tt,tt,tt,ff,ff,ff,tt,tt,tt,ff,ff,ff,ff,ff]
abbrev l11 : Array Bool := #[tt,tt,tt,tt,tt,tt,ff,tt,tt,tt,ff,ff,ff,tt,tt,tt,ff,ff,ff,ff,ff]
abbrev l12 : Array Bool := #[tt,tt,tt,tt,tt,ff,ff,tt,tt,tt,tt,ff,ff,tt,tt,tt,ff,ff,ff,ff,ff]
abbrev l13 : Array Bool := #[tt,tt,tt,tt,tt,ff,ff,tt,tt,tt,tt,tt,ff,tt,tt,tt,ff,ff,ff,ff,ff]
abbrev l14 : Array Bool := #[tt,tt,tt,tt,tt,ff,ff,tt,tt,tt,tt,tt,tt,tt,tt,tt,ff,ff,ff,ff,ff]
abbrev l15 : Array Bool := #[tt,tt,tt,tt,tt,tt,ff,tt,tt,tt,tt,tt,tt,tt,tt,tt,ff,ff,ff,ff,ff]
abbrev l16 : Array Bool := #[tt,tt,tt,tt,tt,ff,ff,tt,tt,tt,tt,tt,tt,tt,tt,tt,tt,ff,ff,ff,ff]
abbrev l17 : Array Bool := #[tt,tt,tt,tt,tt,tt,ff,tt,tt,tt,tt,tt,tt,tt,tt,tt,tt,ff,ff,ff,ff]
abbrev l18 : Array Bool := #[tt,ff,tt,tt,tt,tt,tt,tt,tt,tt,tt,tt,tt,tt,tt,tt,ff,ff,ff,ff,ff]
abbrev l19 : Array Bool := #[tt,ff,tt,tt,tt,tt,tt,tt,tt,tt,tt,tt,tt,tt,tt,tt,tt,ff,ff,ff,ff]
abbrev l20 : Array Bool := #[tt,ff,tt,tt,tt,tt,tt,tt,tt,tt,tt,tt,tt,tt,tt,tt,tt,tt,ff,ff,ff]
abbrev l21 : Array Bool := #[tt,ff,tt,tt,tt,tt,tt,tt,tt,tt,tt,tt,tt,tt,tt,tt,tt,tt,tt,ff,ff]
theorem num_a (σ : PH) (n : Int) : CallsA Tryz.prog 44 #[i64 n] σ [] (RetA fun v σ' Γ' => v = .agg #[i64 1, i64 0, i64 n, .slice none 0 0] ∧ σ = σ' ∧ Γ' = []) := by
  refine enterA1 Tryz.func44 rfl rfl rfl ?_; refine zS (zR ?_); refine zw rfl (WrA.alloc (tyrow rfl)) ?_
  rintro _ _ _ ⟨g2, rfl, rfl, rfl⟩
  refine zN (zT (zS (zR (yA ?_)))); refine zO rfl (Rd.bl (fun _ _ => tyrow) rfl rfl rfl) ?_; refine zw rfl (WrA.st (tyrow rfl) rfl) ?_
  rintro _ _ _ ⟨rfl, rfl, rfl⟩
  refine zN (zT (XA.ret ?_))
  exact bodyA.ret (ResA.cell1 rfl rfl (Ld.atBlk (tyrow rfl) rfl zL rfl (by first | exact take0 (by first | rfl | assumption | (refine (ints_len _).trans ?_; assumption) | (simp [*]; (first | done | fail))) | assumption | exact take_app (by first | rfl | assumption | (refine (ints_len _).trans ?_; assumption) | (simp [*]; (first | done | fail))) | (conv => lhs; simp only [List.drop_succ_cons, List.drop_zero, List.take_succ_cons, List.take_zero])) (by first | rfl | assumption | (refine (ints_len _).trans ?_; assumption) | (simp [*]; (first | done | fail))))) (Ent.nil _) ⟨rfl, rfl, rfl⟩
def exA : Ex := .mk 2 0 0 []
def exZ : Ex := .mk 0 0 0 []
def progL : Pr := ⟨[⟨⟨#[97]⟩, 1⟩], [.mk 5 0 (.mk 7 0 0 [exA, .mk 1 0 3 []]) exZ [.mk 1 0 (.mk 4 0 0 [exA, .mk 1 0 1 []]) exZ [] [], .mk 3 0 exA exZ [] [], .mk 7 0 exZ exZ [] []] []]⟩
theorem counter_a (σ : PH) : CallsA Tryz.prog 20 #[] σ [] (RetA fun v σ' Γ' => ∃ cs, v = .agg cs.toArray ∧ PrAt σ' cs progL ∧ σ.sub σ' ∧ Γ' = []) := by
  refine enterA0 Tryz.func20 rfl rfl rfl ?_; refine zS (zR ?_); refine zw rfl (WrA.alloc (tyrow rfl)) ?_
  rintro _ _ _ ⟨g0, rfl, rfl, rfl⟩
  refine zN (zT (zS (zR (yS ?_)))); refine zN (zT (zS (zR ?_))); refine zO rfl (Rd.bl (fun _ _ => tyrow) rfl rfl rfl) ?_; refine zw rfl (WrA.alloc (tyrow rfl)) ?_
  rintro _ _ _ ⟨g2, rfl, rfl, rfl⟩
  refine zw rfl (WrA.st (tyrow rfl) rfl) ?_
  rintro _ _ _ ⟨rfl, rfl, rfl⟩
  refine zN (zT (zS ?_))
  refine XA.join [(4, 23)] (fun y : Nat × (Nat × (Nat × (Nat × Nat))) => []) (fun y σ' Γ' => σ = σ' ∧ Γ' = [blk y.1 [.string ⟨#[97]⟩, i64 1] 67, blk y.2.1 [i64 2, i64 0, i64 0, .slice none 0 0, i64 1, i64 0, i64 3, .slice none 0 0] 93, blk y.2.2.1 [i64 2, i64 0, i64 0, .slice none 0 0, i64 1, i64 0, i64 1, .slice none 0 0] 93, blk y.2.2.2.1 [i64 1, i64 0, i64 4, i64 0, i64 0, .slice (some ⟨y.2.2.1, 0, none⟩) 2 2, i64 0, i64 0, i64 0, .slice none 0 0, .slice none 0 0, .slice none 0 0, i64 3, i64 0, i64 2, i64 0, i64 0, .slice none 0 0, i64 0, i64 0, i64 0, .slice none 0 0, .slice none 0 0, .slice none 0 0, i64 7, i64 0, i64 0, i64 0, i64 0, .slice none 0 0, i64 0, i64 0, i64 0, .slice none 0 0, .slice none 0 0, .slice none 0 0] 96, blk y.2.2.2.2 [i64 5, i64 0, i64 7, i64 0, i64 0, .slice (some ⟨y.2.1, 0, none⟩) 2 2, i64 0, i64 0, i64 0, .slice none 0 0, .slice (some ⟨y.2.2.2.1, 0, none⟩) 3 3, .slice none 0 0] 96, blk g0 [.slice (some ⟨y.1, 0, none⟩) 1 1, .slice (some ⟨y.2.2.2.2, 0, none⟩) 1 1] 25]) ?_ ?_
  · skip
    refine XA.drawQ (by kernel_rfl) _ _ [17, 20] 21 #[false, false, false, false, false, false, false, false, false, false, false, false, false, false, false, false, false, false, false, false, false] rfl rfl (by kernel_rfl) (PH.sub.refl _) (Ent.sel (R := blk g2 _ _) zL (Ent.nil _)) ?_
    refine qp 0 #[tt,ff,ff,ff,ff,ff,ff,ff,ff,ff,ff,ff,ff,ff,ff,ff,ff,ff,ff,ff,ff] rfl (Rd.bl (fun _ _ => tyrow) rfl rfl rfl) ?_; refine qr 2 #[tt,ff,tt,ff,ff,ff,ff,ff,ff,ff,ff,ff,ff,ff,ff,ff,ff,ff,ff,ff,ff] rfl (Rd.ldA rfl) ?_
    refine qp 3 #[tt,ff,tt,tt,ff,ff,ff,ff,ff,ff,ff,ff,ff,ff,ff,ff,ff,ff,ff,ff,ff] rfl Rd.mv ?_; refine qr 7 #[tt,ff,tt,tt,ff,ff,ff,tt,ff,ff,ff,ff,ff,ff,ff,ff,ff,ff,ff,ff,ff] rfl (Rd.ldA rfl) ?_; refine qp 8 #[tt,ff,tt,tt,ff,ff,ff,tt,tt,ff,ff,ff,ff,ff,ff,ff,ff,ff,ff,ff,ff] rfl Rd.mv ?_
    refine qr 13 #[tt,ff,tt,tt,ff,ff,ff,tt,tt,ff,ff,ff,ff,tt,ff,ff,ff,ff,ff,ff,ff] rfl (Rd.ldA rfl) ?_; refine qp 14 #[tt,ff,tt,tt,ff,ff,ff,tt,tt,ff,ff,ff,ff,tt,tt,ff,ff,ff,ff,ff,ff] rfl (Rd.bl (fun _ _ => tyrow) rfl rfl rfl) ?_
    refine qp 15 #[tt,ff,tt,tt,ff,ff,ff,tt,tt,ff,ff,ff,ff,tt,tt,tt,ff,ff,ff,ff,ff] rfl (Rd.bl (fun _ _ => tyrow) rfl rfl rfl) ?_
    refine XQA.w2 (i := 1) (j := 4) (by kernel_rfl) ?_ ?_
    · refine qw #[tt,tt,tt,tt,ff,ff,ff,tt,tt,ff,ff,ff,ff,tt,tt,tt,ff,ff,ff,ff,ff] rfl (WrA.bs1 (tyrow rfl) rfl (tyrow rfl)) ?_
      rintro _ _ _ ⟨g5, rfl, rfl, rfl⟩
      refine ⟨⟨.refl _, zE⟩, ?_⟩
      refine qa 4 ?_; refine qw #[tt,tt,tt,tt,tt,ff,ff,tt,tt,ff,ff,ff,ff,tt,tt,tt,ff,ff,ff,ff,ff] rfl (WrA.cV (first := []) (cap := []) rfl (num_a σ 3) rfl) ?_
      rintro _ _ _ ⟨_, ⟨rfl, rfl, rfl⟩, rfl⟩
      refine ⟨⟨.refl _, zE⟩, XQA.re zC ?_⟩
      refine XQA.w2 (i := 5) (j := 9) (by kernel_rfl) ?_ ?_
      · refine qw #[tt,tt,tt,tt,tt,tt,ff,tt,tt,ff,ff,ff,ff,tt,tt,tt,ff,ff,ff,ff,ff] rfl (WrA.bs (fun _ _ => tyrow) rfl rfl rfl rfl rfl) ?_
        rintro _ _ _ ⟨g9, rfl, rfl, rfl⟩
        refine ⟨⟨.refl _, zE⟩, ?_⟩
        refine qp 6 l0 rfl (Rd.bl (fun _ _ => tyrow) rfl rfl rfl) ?_; refine qa 9 ?_; refine qw l1 rfl (WrA.cV (first := []) (cap := []) rfl (num_a σ 1) rfl) ?_
        rintro _ _ _ ⟨_, ⟨rfl, rfl, rfl⟩, rfl⟩
        refine ⟨⟨.refl _, zE⟩, XQA.re zC ?_⟩
        refine qa 10 ?_; refine qw l2 rfl (WrA.bs (fun _ _ => tyrow) rfl rfl rfl rfl rfl) ?_
        rintro _ _ _ ⟨g14, rfl, rfl, rfl⟩
        refine ⟨⟨.refl _, zE⟩, ?_⟩
        refine qp 11 l3 rfl (Rd.bl (fun _ _ => tyrow) rfl rfl rfl) ?_; refine qp 12 l4 rfl (Rd.bl (fun _ _ => tyrow) rfl rfl rfl) ?_; refine qa 16 ?_; refine qw l5 rfl (WrA.bs (fun _ _ => tyrow) rfl rfl rfl rfl rfl) ?_
        rintro _ _ _ ⟨g20, rfl, rfl, rfl⟩
        refine ⟨⟨.refl _, zE⟩, ?_⟩
        refine qp 17 l6 rfl (Rd.bl (fun _ _ => tyrow) rfl rfl rfl) ?_; refine qa 18 ?_; refine qw l7 rfl (WrA.bs1 (tyrow rfl) rfl (tyrow rfl)) ?_
        rintro _ _ _ ⟨g22, rfl, rfl, rfl⟩
        refine ⟨⟨.refl _, zE⟩, ?_⟩
        refine qp 19 l8 rfl (Rd.bl (fun _ _ => tyrow) rfl rfl rfl) ?_; refine qa 20 ?_
        refine XQA1.wrZ0 (listed' := l9) rfl rfl Gd.free (by kernel_rfl) rfl (by kernel_rfl) (WrA.st (tyrow rfl) rfl) ?_
        rintro _ _ _ ⟨rfl, rfl, rfl⟩
        refine XQA.re zC ?_; refine XQA.nil rfl ?_
        refine DA.thn_normal ⟨zK, (g5, (g9, (g14, (g20, g22)))), _, zM, ?_, rfl, rfl⟩; exact zE
      · refine qw l10 rfl (WrA.cV (first := []) (cap := []) rfl (num_a σ 1) rfl) ?_
        rintro _ _ _ ⟨_, ⟨rfl, rfl, rfl⟩, rfl⟩
        refine ⟨⟨.refl _, zE⟩, XQA.re zC ?_⟩
        refine XQA.w2 (i := 5) (j := 10) (by kernel_rfl) ?_ ?_
        · refine qw l11 rfl (WrA.bs (fun _ _ => tyrow) rfl rfl rfl rfl rfl) ?_
          rintro _ _ _ ⟨g9, rfl, rfl, rfl⟩
          refine ⟨⟨.refl _, zE⟩, ?_⟩
          refine qp 6 l1 rfl (Rd.bl (fun _ _ => tyrow) rfl rfl rfl) ?_; refine qa 10 ?_; refine qw l2 rfl (WrA.bs (fun _ _ => tyrow) rfl rfl rfl rfl rfl) ?_
          rintro _ _ _ ⟨g14, rfl, rfl, rfl⟩
          refine ⟨⟨.refl _, zE⟩, ?_⟩
          refine qp 11 l3 rfl (Rd.bl (fun _ _ => tyrow) rfl rfl rfl) ?_; refine qp 12 l4 rfl (Rd.bl (fun _ _ => tyrow) rfl rfl rfl) ?_; refine qa 16 ?_; refine qw l5 rfl (WrA.bs (fun _ _ => tyrow) rfl rfl rfl rfl rfl) ?_
          rintro _ _ _ ⟨g20, rfl, rfl, rfl⟩
          refine ⟨⟨.refl _, zE⟩, ?_⟩
          refine qp 17 l6 rfl (Rd.bl (fun _ _ => tyrow) rfl rfl rfl) ?_; refine qa 18 ?_; refine qw l7 rfl (WrA.bs1 (tyrow rfl) rfl (tyrow rfl)) ?_
          rintro _ _ _ ⟨g22, rfl, rfl, rfl⟩
          refine ⟨⟨.refl _, zE⟩, ?_⟩
          refine qp 19 l8 rfl (Rd.bl (fun _ _ => tyrow) rfl rfl rfl) ?_; refine qa 20 ?_
          refine XQA1.wrZ0 (listed' := l9) rfl rfl Gd.free (by kernel_rfl) rfl (by kernel_rfl) (WrA.st (tyrow rfl) rfl) ?_
          rintro _ _ _ ⟨rfl, rfl, rfl⟩
          refine XQA.re zC ?_; refine XQA.nil rfl ?_
          refine DA.thn_normal ⟨zK, (g5, (g9, (g14, (g20, g22)))), _, zM, ?_, rfl, rfl⟩; exact zE
        · refine qw l12 rfl (WrA.bs (fun _ _ => tyrow) rfl rfl rfl rfl rfl) ?_
          rintro _ _ _ ⟨g14, rfl, rfl, rfl⟩
          refine ⟨⟨.refl _, zE⟩, ?_⟩
          refine qp 11 l13 rfl (Rd.bl (fun _ _ => tyrow) rfl rfl rfl) ?_; refine qp 12 l14 rfl (Rd.bl (fun _ _ => tyrow) rfl rfl rfl) ?_
          refine XQA.w2 (i := 5) (j := 16) (by kernel_rfl) ?_ ?_
          · refine qw l15 rfl (WrA.bs (fun _ _ => tyrow) rfl rfl rfl rfl rfl) ?_
            rintro _ _ _ ⟨g9, rfl, rfl, rfl⟩
            refine ⟨⟨.refl _, zE⟩, ?_⟩
            refine qp 6 l4 rfl (Rd.bl (fun _ _ => tyrow) rfl rfl rfl) ?_; refine qa 16 ?_; refine qw l5 rfl (WrA.bs (fun _ _ => tyrow) rfl rfl rfl rfl rfl) ?_
            rintro _ _ _ ⟨g20, rfl, rfl, rfl⟩
            refine ⟨⟨.refl _, zE⟩, ?_⟩
            refine qp 17 l6 rfl (Rd.bl (fun _ _ => tyrow) rfl rfl rfl) ?_; refine qa 18 ?_; refine qw l7 rfl (WrA.bs1 (tyrow rfl) rfl (tyrow rfl)) ?_
            rintro _ _ _ ⟨g22, rfl, rfl, rfl⟩
            refine ⟨⟨.refl _, zE⟩, ?_⟩
            refine qp 19 l8 rfl (Rd.bl (fun _ _ => tyrow) rfl rfl rfl) ?_; refine qa 20 ?_
            refine XQA1.wrZ0 (listed' := l9) rfl rfl Gd.free (by kernel_rfl) rfl (by kernel_rfl) (WrA.st (tyrow rfl) rfl) ?_
            rintro _ _ _ ⟨rfl, rfl, rfl⟩
            refine XQA.re zC ?_; refine XQA.nil rfl ?_
            refine DA.thn_normal ⟨zK, (g5, (g9, (g14, (g20, g22)))), _, zM, ?_, rfl, rfl⟩; exact zE
          · refine qw l16 rfl (WrA.bs (fun _ _ => tyrow) rfl rfl rfl rfl rfl) ?_
            rintro _ _ _ ⟨g20, rfl, rfl, rfl⟩
            refine ⟨⟨.refl _, zE⟩, ?_⟩
            refine qa 5 ?_; refine qw l17 rfl (WrA.bs (fun _ _ => tyrow) rfl rfl rfl rfl rfl) ?_
            rintro _ _ _ ⟨g9, rfl, rfl, rfl⟩
            refine ⟨⟨.refl _, zE⟩, ?_⟩
            refine qp 6 l5 rfl (Rd.bl (fun _ _ => tyrow) rfl rfl rfl) ?_; refine qp 17 l6 rfl (Rd.bl (fun _ _ => tyrow) rfl rfl rfl) ?_; refine qa 18 ?_; refine qw l7 rfl (WrA.bs1 (tyrow rfl) rfl (tyrow rfl)) ?_
            rintro _ _ _ ⟨g22, rfl, rfl, rfl⟩
            refine ⟨⟨.refl _, zE⟩, ?_⟩
            refine qp 19 l8 rfl (Rd.bl (fun _ _ => tyrow) rfl rfl rfl) ?_; refine qa 20 ?_
            refine XQA1.wrZ0 (listed' := l9) rfl rfl Gd.free (by kernel_rfl) rfl (by kernel_rfl) (WrA.st (tyrow rfl) rfl) ?_
            rintro _ _ _ ⟨rfl, rfl, rfl⟩
            refine XQA.re zC ?_; refine XQA.nil rfl ?_
            refine DA.thn_normal ⟨zK, (g5, (g9, (g14, (g20, g22)))), _, zM, ?_, rfl, rfl⟩; exact zE
    · refine qw #[tt,ff,tt,tt,tt,ff,ff,tt,tt,ff,ff,ff,ff,tt,tt,tt,ff,ff,ff,ff,ff] rfl (WrA.cV (first := []) (cap := []) rfl (num_a σ 3) rfl) ?_
      rintro _ _ _ ⟨_, ⟨rfl, rfl, rfl⟩, rfl⟩
      refine ⟨⟨.refl _, zE⟩, XQA.re zC ?_⟩
      refine XQA.w3 (i := 1) (j := 5) (q := 9) (by kernel_rfl) ?_ ?_ ?_
      · refine qw #[tt,tt,tt,tt,tt,ff,ff,tt,tt,ff,ff,ff,ff,tt,tt,tt,ff,ff,ff,ff,ff] rfl (WrA.bs1 (tyrow rfl) rfl (tyrow rfl)) ?_
        rintro _ _ _ ⟨g5, rfl, rfl, rfl⟩
        refine ⟨⟨.refl _, zE⟩, ?_⟩
        refine XQA.w2 (i := 5) (j := 9) (by kernel_rfl) ?_ ?_
        · refine qw #[tt,tt,tt,tt,tt,tt,ff,tt,tt,ff,ff,ff,ff,tt,tt,tt,ff,ff,ff,ff,ff] rfl (WrA.bs (fun _ _ => tyrow) rfl rfl rfl rfl rfl) ?_
          rintro _ _ _ ⟨g9, rfl, rfl, rfl⟩
          refine ⟨⟨.refl _, zE⟩, ?_⟩
          refine qp 6 l0 rfl (Rd.bl (fun _ _ => tyrow) rfl rfl rfl) ?_; refine qa 9 ?_; refine qw l1 rfl (WrA.cV (first := []) (cap := []) rfl (num_a σ 1) rfl) ?_
          rintro _ _ _ ⟨_, ⟨rfl, rfl, rfl⟩, rfl⟩
          refine ⟨⟨.refl _, zE⟩, XQA.re zC ?_⟩
          refine qa 10 ?_; refine qw l2 rfl (WrA.bs (fun _ _ => tyrow) rfl rfl rfl rfl rfl) ?_
          rintro _ _ _ ⟨g14, rfl, rfl, rfl⟩
          refine ⟨⟨.refl _, zE⟩, ?_⟩
          refine qp 11 l3 rfl (Rd.bl (fun _ _ => tyrow) rfl rfl rfl) ?_; refine qp 12 l4 rfl (Rd.bl (fun _ _ => tyrow) rfl rfl rfl) ?_; refine qa 16 ?_; refine qw l5 rfl (WrA.bs (fun _ _ => tyrow) rfl rfl rfl rfl rfl) ?_
          rintro _ _ _ ⟨g20, rfl, rfl, rfl⟩
          refine ⟨⟨.refl _, zE⟩, ?_⟩
          refine qp 17 l6 rfl (Rd.bl (fun _ _ => tyrow) rfl rfl rfl) ?_; refine qa 18 ?_; refine qw l7 rfl (WrA.bs1 (tyrow rfl) rfl (tyrow rfl)) ?_
          rintro _ _ _ ⟨g22, rfl, rfl, rfl⟩
          refine ⟨⟨.refl _, zE⟩, ?_⟩
          refine qp 19 l8 rfl (Rd.bl (fun _ _ => tyrow) rfl rfl rfl) ?_; refine qa 20 ?_
          refine XQA1.wrZ0 (listed' := l9) rfl rfl Gd.free (by kernel_rfl) rfl (by kernel_rfl) (WrA.st (tyrow rfl) rfl) ?_
          rintro _ _ _ ⟨rfl, rfl, rfl⟩
          refine XQA.re zC ?_; refine XQA.nil rfl ?_
          refine DA.thn_normal ⟨zK, (g5, (g9, (g14, (g20, g22)))), _, zM, ?_, rfl, rfl⟩; exact zE
        · refine qw l10 rfl (WrA.cV (first := []) (cap := []) rfl (num_a σ 1) rfl) ?_
          rintro _ _ _ ⟨_, ⟨rfl, rfl, rfl⟩, rfl⟩
          refine ⟨⟨.refl _, zE⟩, XQA.re zC ?_⟩
          refine XQA.w2 (i := 5) (j := 10) (by kernel_rfl) ?_ ?_
          · refine qw l11 rfl (WrA.bs (fun _ _ => tyrow) rfl rfl rfl rfl rfl) ?_
            rintro _ _ _ ⟨g9, rfl, rfl, rfl⟩
            refine ⟨⟨.refl _, zE⟩, ?_⟩
            refine qp 6 l1 rfl (Rd.bl (fun _ _ => tyrow) rfl rfl rfl) ?_; refine qa 10 ?_; refine qw l2 rfl (WrA.bs (fun _ _ => tyrow) rfl rfl rfl rfl rfl) ?_
            rintro _ _ _ ⟨g14, rfl, rfl, rfl⟩
            refine ⟨⟨.refl _, zE⟩, ?_⟩
            refine qp 11 l3 rfl (Rd.bl (fun _ _ => tyrow) rfl rfl rfl) ?_; refine qp 12 l4 rfl (Rd.bl (fun _ _ => tyrow) rfl rfl rfl) ?_; refine qa 16 ?_; refine qw l5 rfl (WrA.bs (fun _ _ => tyrow) rfl rfl rfl rfl rfl) ?_
            rintro _ _ _ ⟨g20, rfl, rfl, rfl⟩
            refine ⟨⟨.refl _, zE⟩, ?_⟩
            refine qp 17 l6 rfl (Rd.bl (fun _ _ => tyrow) rfl rfl rfl) ?_; refine qa 18 ?_; refine qw l7 rfl (WrA.bs1 (tyrow rfl) rfl (tyrow rfl)) ?_
            rintro _ _ _ ⟨g22, rfl, rfl, rfl⟩
            refine ⟨⟨.refl _, zE⟩, ?_⟩
            refine qp 19 l8 rfl (Rd.bl (fun _ _ => tyrow) rfl rfl rfl) ?_; refine qa 20 ?_
            refine XQA1.wrZ0 (listed' := l9) rfl rfl Gd.free (by kernel_rfl) rfl (by kernel_rfl) (WrA.st (tyrow rfl) rfl) ?_
            rintro _ _ _ ⟨rfl, rfl, rfl⟩
            refine XQA.re zC ?_; refine XQA.nil rfl ?_
            refine DA.thn_normal ⟨zK, (g5, (g9, (g14, (g20, g22)))), _, zM, ?_, rfl, rfl⟩; exact zE
          · refine qw l12 rfl (WrA.bs (fun _ _ => tyrow) rfl rfl rfl rfl rfl) ?_
            rintro _ _ _ ⟨g14, rfl, rfl, rfl⟩
            refine ⟨⟨.refl _, zE⟩, ?_⟩
            refine qp 11 l13 rfl (Rd.bl (fun _ _ => tyrow) rfl rfl rfl) ?_; refine qp 12 l14 rfl (Rd.bl (fun _ _ => tyrow) rfl rfl rfl) ?_
            refine XQA.w2 (i := 5) (j := 16) (by kernel_rfl) ?_ ?_
            · refine qw l15 rfl (WrA.bs (fun _ _ => tyrow) rfl rfl rfl rfl rfl) ?_
              rintro _ _ _ ⟨g9, rfl, rfl, rfl⟩
              refine ⟨⟨.refl _, zE⟩, ?_⟩
              refine qp 6 l4 rfl (Rd.bl (fun _ _ => tyrow) rfl rfl rfl) ?_; refine qa 16 ?_; refine qw l5 rfl (WrA.bs (fun _ _ => tyrow) rfl rfl rfl rfl rfl) ?_
              rintro _ _ _ ⟨g20, rfl, rfl, rfl⟩
              refine ⟨⟨.refl _, zE⟩, ?_⟩
              refine qp 17 l6 rfl (Rd.bl (fun _ _ => tyrow) rfl rfl rfl) ?_; refine qa 18 ?_; refine qw l7 rfl (WrA.bs1 (tyrow rfl) rfl (tyrow rfl)) ?_
              rintro _ _ _ ⟨g22, rfl, rfl, rfl⟩
              refine ⟨⟨.refl _, zE⟩, ?_⟩
              refine qp 19 l8 rfl (Rd.bl (fun _ _ => tyrow) rfl rfl rfl) ?_; refine qa 20 ?_
              refine XQA1.wrZ0 (listed' := l9) rfl rfl Gd.free (by kernel_rfl) rfl (by kernel_rfl) (WrA.st (tyrow rfl) rfl) ?_
              rintro _ _ _ ⟨rfl, rfl, rfl⟩
              refine XQA.re zC ?_; refine XQA.nil rfl ?_
              refine DA.thn_normal ⟨zK, (g5, (g9, (g14, (g20, g22)))), _, zM, ?_, rfl, rfl⟩; exact zE
            · refine qw l16 rfl (WrA.bs (fun _ _ => tyrow) rfl rfl rfl rfl rfl) ?_
              rintro _ _ _ ⟨g20, rfl, rfl, rfl⟩
              refine ⟨⟨.refl _, zE⟩, ?_⟩
              refine qa 5 ?_; refine qw l17 rfl (WrA.bs (fun _ _ => tyrow) rfl rfl rfl rfl rfl) ?_
              rintro _ _ _ ⟨g9, rfl, rfl, rfl⟩
              refine ⟨⟨.refl _, zE⟩, ?_⟩
              refine qp 6 l5 rfl (Rd.bl (fun _ _ => tyrow) rfl rfl rfl) ?_; refine qp 17 l6 rfl (Rd.bl (fun _ _ => tyrow) rfl rfl rfl) ?_; refine qa 18 ?_; refine qw l7 rfl (WrA.bs1 (tyrow rfl) rfl (tyrow rfl)) ?_
              rintro _ _ _ ⟨g22, rfl, rfl, rfl⟩
              refine ⟨⟨.refl _, zE⟩, ?_⟩
              refine qp 19 l8 rfl (Rd.bl (fun _ _ => tyrow) rfl rfl rfl) ?_; refine qa 20 ?_
              refine XQA1.wrZ0 (listed' := l9) rfl rfl Gd.free (by kernel_rfl) rfl (by kernel_rfl) (WrA.st (tyrow rfl) rfl) ?_
              rintro _ _ _ ⟨rfl, rfl, rfl⟩
              refine XQA.re zC ?_; refine XQA.nil rfl ?_
              refine DA.thn_normal ⟨zK, (g5, (g9, (g14, (g20, g22)))), _, zM, ?_, rfl, rfl⟩; exact zE
      · refine qw #[tt,ff,tt,tt,tt,tt,ff,tt,tt,ff,ff,ff,ff,tt,tt,tt,ff,ff,ff,ff,ff] rfl (WrA.bs (fun _ _ => tyrow) rfl rfl rfl rfl rfl) ?_
        rintro _ _ _ ⟨g9, rfl, rfl, rfl⟩
        refine ⟨⟨.refl _, zE⟩, ?_⟩
        refine qp 6 #[tt,ff,tt,tt,tt,tt,tt,tt,tt,ff,ff,ff,ff,tt,tt,tt,ff,ff,ff,ff,ff] rfl (Rd.bl (fun _ _ => tyrow) rfl rfl rfl) ?_
        refine XQA.w2 (i := 1) (j := 9) (by kernel_rfl) ?_ ?_
        · refine qw l0 rfl (WrA.bs1 (tyrow rfl) rfl (tyrow rfl)) ?_
          rintro _ _ _ ⟨g5, rfl, rfl, rfl⟩
          refine ⟨⟨.refl _, zE⟩, ?_⟩
          refine qa 9 ?_; refine qw l1 rfl (WrA.cV (first := []) (cap := []) rfl (num_a σ 1) rfl) ?_
          rintro _ _ _ ⟨_, ⟨rfl, rfl, rfl⟩, rfl⟩
          refine ⟨⟨.refl _, zE⟩, XQA.re zC ?_⟩
          refine qa 10 ?_; refine qw l2 rfl (WrA.bs (fun _ _ => tyrow) rfl rfl rfl rfl rfl) ?_
          rintro _ _ _ ⟨g14, rfl, rfl, rfl⟩
          refine ⟨⟨.refl _, zE⟩, ?_⟩
          refine qp 11 l3 rfl (Rd.bl (fun _ _ => tyrow) rfl rfl rfl) ?_; refine qp 12 l4 rfl (Rd.bl (fun _ _ => tyrow) rfl rfl rfl) ?_; refine qa 16 ?_; refine qw l5 rfl (WrA.bs (fun _ _ => tyrow) rfl rfl rfl rfl rfl) ?_
          rintro _ _ _ ⟨g20, rfl, rfl, rfl⟩
          refine ⟨⟨.refl _, zE⟩, ?_⟩
          refine qp 17 l6 rfl (Rd.bl (fun _ _ => tyrow) rfl rfl rfl) ?_; refine qa 18 ?_; refine qw l7 rfl (WrA.bs1 (tyrow rfl) rfl (tyrow rfl)) ?_
          rintro _ _ _ ⟨g22, rfl, rfl, rfl⟩
          refine ⟨⟨.refl _, zE⟩, ?_⟩
          refine qp 19 l8 rfl (Rd.bl (fun _ _ => tyrow) rfl rfl rfl) ?_; refine qa 20 ?_
          refine XQA1.wrZ0 (listed' := l9) rfl rfl Gd.free (by kernel_rfl) rfl (by kernel_rfl) (WrA.st (tyrow rfl) rfl) ?_
          rintro _ _ _ ⟨rfl, rfl, rfl⟩
          refine XQA.re zC ?_; refine XQA.nil rfl ?_
          refine DA.thn_normal ⟨zK, (g5, (g9, (g14, (g20, g22)))), _, zM, ?_, rfl, rfl⟩; exact zE
        · refine qw #[tt,ff,tt,tt,tt,tt,tt,tt,tt,tt,ff,ff,ff,tt,tt,tt,ff,ff,ff,ff,ff] rfl (WrA.cV (first := []) (cap := []) rfl (num_a σ 1) rfl) ?_
          rintro _ _ _ ⟨_, ⟨rfl, rfl, rfl⟩, rfl⟩
          refine ⟨⟨.refl _, zE⟩, XQA.re zC ?_⟩
          refine XQA.w2 (i := 1) (j := 10) (by kernel_rfl) ?_ ?_
          · refine qw l1 rfl (WrA.bs1 (tyrow rfl) rfl (tyrow rfl)) ?_
            rintro _ _ _ ⟨g5, rfl, rfl, rfl⟩
            refine ⟨⟨.refl _, zE⟩, ?_⟩
            refine qa 10 ?_; refine qw l2 rfl (WrA.bs (fun _ _ => tyrow) rfl rfl rfl rfl rfl) ?_
            rintro _ _ _ ⟨g14, rfl, rfl, rfl⟩
            refine ⟨⟨.refl _, zE⟩, ?_⟩
            refine qp 11 l3 rfl (Rd.bl (fun _ _ => tyrow) rfl rfl rfl) ?_; refine qp 12 l4 rfl (Rd.bl (fun _ _ => tyrow) rfl rfl rfl) ?_; refine qa 16 ?_; refine qw l5 rfl (WrA.bs (fun _ _ => tyrow) rfl rfl rfl rfl rfl) ?_
            rintro _ _ _ ⟨g20, rfl, rfl, rfl⟩
            refine ⟨⟨.refl _, zE⟩, ?_⟩
            refine qp 17 l6 rfl (Rd.bl (fun _ _ => tyrow) rfl rfl rfl) ?_; refine qa 18 ?_; refine qw l7 rfl (WrA.bs1 (tyrow rfl) rfl (tyrow rfl)) ?_
            rintro _ _ _ ⟨g22, rfl, rfl, rfl⟩
            refine ⟨⟨.refl _, zE⟩, ?_⟩
            refine qp 19 l8 rfl (Rd.bl (fun _ _ => tyrow) rfl rfl rfl) ?_; refine qa 20 ?_
            refine XQA1.wrZ0 (listed' := l9) rfl rfl Gd.free (by kernel_rfl) rfl (by kernel_rfl) (WrA.st (tyrow rfl) rfl) ?_
            rintro _ _ _ ⟨rfl, rfl, rfl⟩
            refine XQA.re zC ?_; refine XQA.nil rfl ?_
            refine DA.thn_normal ⟨zK, (g5, (g9, (g14, (g20, g22)))), _, zM, ?_, rfl, rfl⟩; exact zE
          · refine qw #[tt,ff,tt,tt,tt,tt,tt,tt,tt,tt,tt,ff,ff,tt,tt,tt,ff,ff,ff,ff,ff] rfl (WrA.bs (fun _ _ => tyrow) rfl rfl rfl rfl rfl) ?_
            rintro _ _ _ ⟨g14, rfl, rfl, rfl⟩
            refine ⟨⟨.refl _, zE⟩, ?_⟩
            refine qp 11 #[tt,ff,tt,tt,tt,tt,tt,tt,tt,tt,tt,tt,ff,tt,tt,tt,ff,ff,ff,ff,ff] rfl (Rd.bl (fun _ _ => tyrow) rfl rfl rfl) ?_; refine qp 12 l18 rfl (Rd.bl (fun _ _ => tyrow) rfl rfl rfl) ?_
            refine XQA.w2 (i := 1) (j := 16) (by kernel_rfl) ?_ ?_
            · refine qw l4 rfl (WrA.bs1 (tyrow rfl) rfl (tyrow rfl)) ?_
              rintro _ _ _ ⟨g5, rfl, rfl, rfl⟩
              refine ⟨⟨.refl _, zE⟩, ?_⟩
              refine qa 16 ?_; refine qw l5 rfl (WrA.bs (fun _ _ => tyrow) rfl rfl rfl rfl rfl) ?_
              rintro _ _ _ ⟨g20, rfl, rfl, rfl⟩
              refine ⟨⟨.refl _, zE⟩, ?_⟩
              refine qp 17 l6 rfl (Rd.bl (fun _ _ => tyrow) rfl rfl rfl) ?_; refine qa 18 ?_; refine qw l7 rfl (WrA.bs1 (tyrow rfl) rfl (tyrow rfl)) ?_
              rintro _ _ _ ⟨g22, rfl, rfl, rfl⟩
              refine ⟨⟨.refl _, zE⟩, ?_⟩
              refine qp 19 l8 rfl (Rd.bl (fun _ _ => tyrow) rfl rfl rfl) ?_; refine qa 20 ?_
              refine XQA1.wrZ0 (listed' := l9) rfl rfl Gd.free (by kernel_rfl) rfl (by kernel_rfl) (WrA.st (tyrow rfl) rfl) ?_
              rintro _ _ _ ⟨rfl, rfl, rfl⟩
              refine XQA.re zC ?_; refine XQA.nil rfl ?_
              refine DA.thn_normal ⟨zK, (g5, (g9, (g14, (g20, g22)))), _, zM, ?_, rfl, rfl⟩; exact zE
            · refine qw l19 rfl (WrA.bs (fun _ _ => tyrow) rfl rfl rfl rfl rfl) ?_
              rintro _ _ _ ⟨g20, rfl, rfl, rfl⟩
              refine ⟨⟨.refl _, zE⟩, ?_⟩
              refine qp 17 l20 rfl (Rd.bl (fun _ _ => tyrow) rfl rfl rfl) ?_
              refine XQA.w2 (i := 1) (j := 18) (by kernel_rfl) ?_ ?_
              · refine qw l6 rfl (WrA.bs1 (tyrow rfl) rfl (tyrow rfl)) ?_
                rintro _ _ _ ⟨g5, rfl, rfl, rfl⟩
                refine ⟨⟨.refl _, zE⟩, ?_⟩
                refine qa 18 ?_; refine qw l7 rfl (WrA.bs1 (tyrow rfl) rfl (tyrow rfl)) ?_
                rintro _ _ _ ⟨g22, rfl, rfl, rfl⟩
                refine ⟨⟨.refl _, zE⟩, ?_⟩
                refine qp 19 l8 rfl (Rd.bl (fun _ _ => tyrow) rfl rfl rfl) ?_; refine qa 20 ?_
                refine XQA1.wrZ0 (listed' := l9) rfl rfl Gd.free (by kernel_rfl) rfl (by kernel_rfl) (WrA.st (tyrow rfl) rfl) ?_
                rintro _ _ _ ⟨rfl, rfl, rfl⟩
                refine XQA.re zC ?_; refine XQA.nil rfl ?_
                refine DA.thn_normal ⟨zK, (g5, (g9, (g14, (g20, g22)))), _, zM, ?_, rfl, rfl⟩; exact zE
              · refine qw l21 rfl (WrA.bs1 (tyrow rfl) rfl (tyrow rfl)) ?_
                rintro _ _ _ ⟨g22, rfl, rfl, rfl⟩
                refine ⟨⟨.refl _, zE⟩, ?_⟩
                refine qa 1 ?_; refine qw l7 rfl (WrA.bs1 (tyrow rfl) rfl (tyrow rfl)) ?_
                rintro _ _ _ ⟨g5, rfl, rfl, rfl⟩
                refine ⟨⟨.refl _, zE⟩, ?_⟩
                refine qp 19 l8 rfl (Rd.bl (fun _ _ => tyrow) rfl rfl rfl) ?_; refine qa 20 ?_
                refine XQA1.wrZ0 (listed' := l9) rfl rfl Gd.free (by kernel_rfl) rfl (by kernel_rfl) (WrA.st (tyrow rfl) rfl) ?_
                rintro _ _ _ ⟨rfl, rfl, rfl⟩
                refine XQA.re zC ?_; refine XQA.nil rfl ?_
                refine DA.thn_normal ⟨zK, (g5, (g9, (g14, (g20, g22)))), _, zM, ?_, rfl, rfl⟩; exact zE
      · refine qw #[tt,ff,tt,tt,tt,ff,ff,tt,tt,tt,ff,ff,ff,tt,tt,tt,ff,ff,ff,ff,ff] rfl (WrA.cV (first := []) (cap := []) rfl (num_a σ 1) rfl) ?_
        rintro _ _ _ ⟨_, ⟨rfl, rfl, rfl⟩, rfl⟩
        refine ⟨⟨.refl _, zE⟩, XQA.re zC ?_⟩
        refine XQA.w3 (i := 1) (j := 5) (q := 10) (by kernel_rfl) ?_ ?_ ?_
        · refine qw l10 rfl (WrA.bs1 (tyrow rfl) rfl (tyrow rfl)) ?_
          rintro _ _ _ ⟨g5, rfl, rfl, rfl⟩
          refine ⟨⟨.refl _, zE⟩, ?_⟩
          refine XQA.w2 (i := 5) (j := 10) (by kernel_rfl) ?_ ?_
          · refine qw l11 rfl (WrA.bs (fun _ _ => tyrow) rfl rfl rfl rfl rfl) ?_
            rintro _ _ _ ⟨g9, rfl, rfl, rfl⟩
            refine ⟨⟨.refl _, zE⟩, ?_⟩
            refine qp 6 l1 rfl (Rd.bl (fun _ _ => tyrow) rfl rfl rfl) ?_; refine qa 10 ?_; refine qw l2 rfl (WrA.bs (fun _ _ => tyrow) rfl rfl rfl rfl rfl) ?_
            rintro _ _ _ ⟨g14, rfl, rfl, rfl⟩
            refine ⟨⟨.refl _, zE⟩, ?_⟩
            refine qp 11 l3 rfl (Rd.bl (fun _ _ => tyrow) rfl rfl rfl) ?_; refine qp 12 l4 rfl (Rd.bl (fun _ _ => tyrow) rfl rfl rfl) ?_; refine qa 16 ?_; refine qw l5 rfl (WrA.bs (fun _ _ => tyrow) rfl rfl rfl rfl rfl) ?_
            rintro _ _ _ ⟨g20, rfl, rfl, rfl⟩
            refine ⟨⟨.refl _, zE⟩, ?_⟩
            refine qp 17 l6 rfl (Rd.bl (fun _ _ => tyrow) rfl rfl rfl) ?_; refine qa 18 ?_; refine qw l7 rfl (WrA.bs1 (tyrow rfl) rfl (tyrow rfl)) ?_
            rintro _ _ _ ⟨g22, rfl, rfl, rfl⟩
            refine ⟨⟨.refl _, zE⟩, ?_⟩
            refine qp 19 l8 rfl (Rd.bl (fun _ _ => tyrow) rfl rfl rfl) ?_; refine qa 20 ?_
            refine XQA1.wrZ0 (listed' := l9) rfl rfl Gd.free (by kernel_rfl) rfl (by kernel_rfl) (WrA.st (tyrow rfl) rfl) ?_
            rintro _ _ _ ⟨rfl, rfl, rfl⟩
            refine XQA.re zC ?_; refine XQA.nil rfl ?_
            refine DA.thn_normal ⟨zK, (g5, (g9, (g14, (g20, g22)))), _, zM, ?_, rfl, rfl⟩; exact zE
          · refine qw l12 rfl (WrA.bs (fun _ _ => tyrow) rfl rfl rfl rfl rfl) ?_
            rintro _ _ _ ⟨g14, rfl, rfl, rfl⟩
            refine ⟨⟨.refl _, zE⟩, ?_⟩
            refine qp 11 l13 rfl (Rd.bl (fun _ _ => tyrow) rfl rfl rfl) ?_; refine qp 12 l14 rfl (Rd.bl (fun _ _ => tyrow) rfl rfl rfl) ?_
            refine XQA.w2 (i := 5) (j := 16) (by kernel_rfl) ?_ ?_
            · refine qw l15 rfl (WrA.bs (fun _ _ => tyrow) rfl rfl rfl rfl rfl) ?_
              rintro _ _ _ ⟨g9, rfl, rfl, rfl⟩
              refine ⟨⟨.refl _, zE⟩, ?_⟩
              refine qp 6 l4 rfl (Rd.bl (fun _ _ => tyrow) rfl rfl rfl) ?_; refine qa 16 ?_; refine qw l5 rfl (WrA.bs (fun _ _ => tyrow) rfl rfl rfl rfl rfl) ?_
              rintro _ _ _ ⟨g20, rfl, rfl, rfl⟩
              refine ⟨⟨.refl _, zE⟩, ?_⟩
              refine qp 17 l6 rfl (Rd.bl (fun _ _ => tyrow) rfl rfl rfl) ?_; refine qa 18 ?_; refine qw l7 rfl (WrA.bs1 (tyrow rfl) rfl (tyrow rfl)) ?_
              rintro _ _ _ ⟨g22, rfl, rfl, rfl⟩
              refine ⟨⟨.refl _, zE⟩, ?_⟩
              refine qp 19 l8 rfl (Rd.bl (fun _ _ => tyrow) rfl rfl rfl) ?_; refine qa 20 ?_
              refine XQA1.wrZ0 (listed' := l9) rfl rfl Gd.free (by kernel_rfl) rfl (by kernel_rfl) (WrA.st (tyrow rfl) rfl) ?_
              rintro _ _ _ ⟨rfl, rfl, rfl⟩
              refine XQA.re zC ?_; refine XQA.nil rfl ?_
              refine DA.thn_normal ⟨zK, (g5, (g9, (g14, (g20, g22)))), _, zM, ?_, rfl, rfl⟩; exact zE
            · refine qw l16 rfl (WrA.bs (fun _ _ => tyrow) rfl rfl rfl rfl rfl) ?_
              rintro _ _ _ ⟨g20, rfl, rfl, rfl⟩
              refine ⟨⟨.refl _, zE⟩, ?_⟩
              refine qa 5 ?_; refine qw l17 rfl (WrA.bs (fun _ _ => tyrow) rfl rfl rfl rfl rfl) ?_
              rintro _ _ _ ⟨g9, rfl, rfl, rfl⟩
              refine ⟨⟨.refl _, zE⟩, ?_⟩
              refine qp 6 l5 rfl (Rd.bl (fun _ _ => tyrow) rfl rfl rfl) ?_; refine qp 17 l6 rfl (Rd.bl (fun _ _ => tyrow) rfl rfl rfl) ?_; refine qa 18 ?_; refine qw l7 rfl (WrA.bs1 (tyrow rfl) rfl (tyrow rfl)) ?_
              rintro _ _ _ ⟨g22, rfl, rfl, rfl⟩
              refine ⟨⟨.refl _, zE⟩, ?_⟩
              refine qp 19 l8 rfl (Rd.bl (fun _ _ => tyrow) rfl rfl rfl) ?_; refine qa 20 ?_
              refine XQA1.wrZ0 (listed' := l9) rfl rfl Gd.free (by kernel_rfl) rfl (by kernel_rfl) (WrA.st (tyrow rfl) rfl) ?_
              rintro _ _ _ ⟨rfl, rfl, rfl⟩
              refine XQA.re zC ?_; refine XQA.nil rfl ?_
              refine DA.thn_normal ⟨zK, (g5, (g9, (g14, (g20, g22)))), _, zM, ?_, rfl, rfl⟩; exact zE
        · refine qw #[tt,ff,tt,tt,tt,tt,ff,tt,tt,tt,ff,ff,ff,tt,tt,tt,ff,ff,ff,ff,ff] rfl (WrA.bs (fun _ _ => tyrow) rfl rfl rfl rfl rfl) ?_
          rintro _ _ _ ⟨g9, rfl, rfl, rfl⟩
          refine ⟨⟨.refl _, zE⟩, ?_⟩
          refine qp 6 #[tt,ff,tt,tt,tt,tt,tt,tt,tt,tt,ff,ff,ff,tt,tt,tt,ff,ff,ff,ff,ff] rfl (Rd.bl (fun _ _ => tyrow) rfl rfl rfl) ?_
          refine XQA.w2 (i := 1) (j := 10) (by kernel_rfl) ?_ ?_
          · refine qw l1 rfl (WrA.bs1 (tyrow rfl) rfl (tyrow rfl)) ?_
            rintro _ _ _ ⟨g5, rfl, rfl, rfl⟩
            refine ⟨⟨.refl _, zE⟩, ?_⟩
            refine qa 10 ?_; refine qw l2 rfl (WrA.bs (fun _ _ => tyrow) rfl rfl rfl rfl rfl) ?_
            rintro _ _ _ ⟨g14, rfl, rfl, rfl⟩
            refine ⟨⟨.refl _, zE⟩, ?_⟩
            refine qp 11 l3 rfl (Rd.bl (fun _ _ => tyrow) rfl rfl rfl) ?_; refine qp 12 l4 rfl (Rd.bl (fun _ _ => tyrow) rfl rfl rfl) ?_; refine qa 16 ?_; refine qw l5 rfl (WrA.bs (fun _ _ => tyrow) rfl rfl rfl rfl rfl) ?_
            rintro _ _ _ ⟨g20, rfl, rfl, rfl⟩
            refine ⟨⟨.refl _, zE⟩, ?_⟩
            refine qp 17 l6 rfl (Rd.bl (fun _ _ => tyrow) rfl rfl rfl) ?_; refine qa 18 ?_; refine qw l7 rfl (WrA.bs1 (tyrow rfl) rfl (tyrow rfl)) ?_
            rintro _ _ _ ⟨g22, rfl, rfl, rfl⟩
            refine ⟨⟨.refl _, zE⟩, ?_⟩
            refine qp 19 l8 rfl (Rd.bl (fun _ _ => tyrow) rfl rfl rfl) ?_; refine qa 20 ?_
            refine XQA1.wrZ0 (listed' := l9) rfl rfl Gd.free (by kernel_rfl) rfl (by kernel_rfl) (WrA.st (tyrow rfl) rfl) ?_
            rintro _ _ _ ⟨rfl, rfl, rfl⟩
            refine XQA.re zC ?_; refine XQA.nil rfl ?_
            refine DA.thn_normal ⟨zK, (g5, (g9, (g14, (g20, g22)))), _, zM, ?_, rfl, rfl⟩; exact zE
          · refine qw #[tt,ff,tt,tt,tt,tt,tt,tt,tt,tt,tt,ff,ff,tt,tt,tt,ff,ff,ff,ff,ff] rfl (WrA.bs (fun _ _ => tyrow) rfl rfl rfl rfl rfl) ?_
            rintro _ _ _ ⟨g14, rfl, rfl, rfl⟩
            refine ⟨⟨.refl _, zE⟩, ?_⟩
            refine qp 11 #[tt,ff,tt,tt,tt,tt,tt,tt,tt,tt,tt,tt,ff,tt,tt,tt,ff,ff,ff,ff,ff] rfl (Rd.bl (fun _ _ => tyrow) rfl rfl rfl) ?_; refine qp 12 l18 rfl (Rd.bl (fun _ _ => tyrow) rfl rfl rfl) ?_
            refine XQA.w2 (i := 1) (j := 16) (by kernel_rfl) ?_ ?_
            · refine qw l4 rfl (WrA.bs1 (tyrow rfl) rfl (tyrow rfl)) ?_
              rintro _ _ _ ⟨g5, rfl, rfl, rfl⟩
              refine ⟨⟨.refl _, zE⟩, ?_⟩
              refine qa 16 ?_; refine qw l5 rfl (WrA.bs (fun _ _ => tyrow) rfl rfl rfl rfl rfl) ?_
              rintro _ _ _ ⟨g20, rfl, rfl, rfl⟩
              refine ⟨⟨.refl _, zE⟩, ?_⟩
              refine qp 17 l6 rfl (Rd.bl (fun _ _ => tyrow) rfl rfl rfl) ?_; refine qa 18 ?_; refine qw l7 rfl (WrA.bs1 (tyrow rfl) rfl (tyrow rfl)) ?_
              rintro _ _ _ ⟨g22, rfl, rfl, rfl⟩
              refine ⟨⟨.refl _, zE⟩, ?_⟩
              refine qp 19 l8 rfl (Rd.bl (fun _ _ => tyrow) rfl rfl rfl) ?_; refine qa 20 ?_
              refine XQA1.wrZ0 (listed' := l9) rfl rfl Gd.free (by kernel_rfl) rfl (by kernel_rfl) (WrA.st (tyrow rfl) rfl) ?_
              rintro _ _ _ ⟨rfl, rfl, rfl⟩
              refine XQA.re zC ?_; refine XQA.nil rfl ?_
              refine DA.thn_normal ⟨zK, (g5, (g9, (g14, (g20, g22)))), _, zM, ?_, rfl, rfl⟩; exact zE
            · refine qw l19 rfl (WrA.bs (fun _ _ => tyrow) rfl rfl rfl rfl rfl) ?_
              rintro _ _ _ ⟨g20, rfl, rfl, rfl⟩
              refine ⟨⟨.refl _, zE⟩, ?_⟩
              refine qp 17 l20 rfl (Rd.bl (fun _ _ => tyrow) rfl rfl rfl) ?_
              refine XQA.w2 (i := 1) (j := 18) (by kernel_rfl) ?_ ?_
              · refine qw l6 rfl (WrA.bs1 (tyrow rfl) rfl (tyrow rfl)) ?_
                rintro _ _ _ ⟨g5, rfl, rfl, rfl⟩
                refine ⟨⟨.refl _, zE⟩, ?_⟩
                refine qa 18 ?_; refine qw l7 rfl (WrA.bs1 (tyrow rfl) rfl (tyrow rfl)) ?_
                rintro _ _ _ ⟨g22, rfl, rfl, rfl⟩
                refine ⟨⟨.refl _, zE⟩, ?_⟩
                refine qp 19 l8 rfl (Rd.bl (fun _ _ => tyrow) rfl rfl rfl) ?_; refine qa 20 ?_
                refine XQA1.wrZ0 (listed' := l9) rfl rfl Gd.free (by kernel_rfl) rfl (by kernel_rfl) (WrA.st (tyrow rfl) rfl) ?_
                rintro _ _ _ ⟨rfl, rfl, rfl⟩
                refine XQA.re zC ?_; refine XQA.nil rfl ?_
                refine DA.thn_normal ⟨zK, (g5, (g9, (g14, (g20, g22)))), _, zM, ?_, rfl, rfl⟩; exact zE
              · refine qw l21 rfl (WrA.bs1 (tyrow rfl) rfl (tyrow rfl)) ?_
                rintro _ _ _ ⟨g22, rfl, rfl, rfl⟩
                refine ⟨⟨.refl _, zE⟩, ?_⟩
                refine qa 1 ?_; refine qw l7 rfl (WrA.bs1 (tyrow rfl) rfl (tyrow rfl)) ?_
                rintro _ _ _ ⟨g5, rfl, rfl, rfl⟩
                refine ⟨⟨.refl _, zE⟩, ?_⟩
                refine qp 19 l8 rfl (Rd.bl (fun _ _ => tyrow) rfl rfl rfl) ?_; refine qa 20 ?_
                refine XQA1.wrZ0 (listed' := l9) rfl rfl Gd.free (by kernel_rfl) rfl (by kernel_rfl) (WrA.st (tyrow rfl) rfl) ?_
                rintro _ _ _ ⟨rfl, rfl, rfl⟩
                refine XQA.re zC ?_; refine XQA.nil rfl ?_
                refine DA.thn_normal ⟨zK, (g5, (g9, (g14, (g20, g22)))), _, zM, ?_, rfl, rfl⟩; exact zE
        · refine qw #[tt,ff,tt,tt,tt,ff,ff,tt,tt,tt,tt,ff,ff,tt,tt,tt,ff,ff,ff,ff,ff] rfl (WrA.bs (fun _ _ => tyrow) rfl rfl rfl rfl rfl) ?_
          rintro _ _ _ ⟨g14, rfl, rfl, rfl⟩
          refine ⟨⟨.refl _, zE⟩, ?_⟩
          refine qp 11 #[tt,ff,tt,tt,tt,ff,ff,tt,tt,tt,tt,tt,ff,tt,tt,tt,ff,ff,ff,ff,ff] rfl (Rd.bl (fun _ _ => tyrow) rfl rfl rfl) ?_; refine qp 12 #[tt,ff,tt,tt,tt,ff,ff,tt,tt,tt,tt,tt,tt,tt,tt,tt,ff,ff,ff,ff,ff] rfl (Rd.bl (fun _ _ => tyrow) rfl rfl rfl) ?_
          refine XQA.w3 (i := 1) (j := 5) (q := 16) (by kernel_rfl) ?_ ?_ ?_
          · refine qw l14 rfl (WrA.bs1 (tyrow rfl) rfl (tyrow rfl)) ?_
            rintro _ _ _ ⟨g5, rfl, rfl, rfl⟩
            refine ⟨⟨.refl _, zE⟩, ?_⟩
            refine XQA.w2 (i := 5) (j := 16) (by kernel_rfl) ?_ ?_
            · refine qw l15 rfl (WrA.bs (fun _ _ => tyrow) rfl rfl rfl rfl rfl) ?_
              rintro _ _ _ ⟨g9, rfl, rfl, rfl⟩
              refine ⟨⟨.refl _, zE⟩, ?_⟩
              refine qp 6 l4 rfl (Rd.bl (fun _ _ => tyrow) rfl rfl rfl) ?_; refine qa 16 ?_; refine qw l5 rfl (WrA.bs (fun _ _ => tyrow) rfl rfl rfl rfl rfl) ?_
              rintro _ _ _ ⟨g20, rfl, rfl, rfl⟩
              refine ⟨⟨.refl _, zE⟩, ?_⟩
              refine qp 17 l6 rfl (Rd.bl (fun _ _ => tyrow) rfl rfl rfl) ?_; refine qa 18 ?_; refine qw l7 rfl (WrA.bs1 (tyrow rfl) rfl (tyrow rfl)) ?_
              rintro _ _ _ ⟨g22, rfl, rfl, rfl⟩
              refine ⟨⟨.refl _, zE⟩, ?_⟩
              refine qp 19 l8 rfl (Rd.bl (fun _ _ => tyrow) rfl rfl rfl) ?_; refine qa 20 ?_
              refine XQA1.wrZ0 (listed' := l9) rfl rfl Gd.free (by kernel_rfl) rfl (by kernel_rfl) (WrA.st (tyrow rfl) rfl) ?_
              rintro _ _ _ ⟨rfl, rfl, rfl⟩
              refine XQA.re zC ?_; refine XQA.nil rfl ?_
              refine DA.thn_normal ⟨zK, (g5, (g9, (g14, (g20, g22)))), _, zM, ?_, rfl, rfl⟩; exact zE
            · refine qw l16 rfl (WrA.bs (fun _ _ => tyrow) rfl rfl rfl rfl rfl) ?_
              rintro _ _ _ ⟨g20, rfl, rfl, rfl⟩
              refine ⟨⟨.refl _, zE⟩, ?_⟩
              refine qa 5 ?_; refine qw l17 rfl (WrA.bs (fun _ _ => tyrow) rfl rfl rfl rfl rfl) ?_
              rintro _ _ _ ⟨g9, rfl, rfl, rfl⟩
              refine ⟨⟨.refl _, zE⟩, ?_⟩
              refine qp 6 l5 rfl (Rd.bl (fun _ _ => tyrow) rfl rfl rfl) ?_; refine qp 17 l6 rfl (Rd.bl (fun _ _ => tyrow) rfl rfl rfl) ?_; refine qa 18 ?_; refine qw l7 rfl (WrA.bs1 (tyrow rfl) rfl (tyrow rfl)) ?_
              rintro _ _ _ ⟨g22, rfl, rfl, rfl⟩
              refine ⟨⟨.refl _, zE⟩, ?_⟩
              refine qp 19 l8 rfl (Rd.bl (fun _ _ => tyrow) rfl rfl rfl) ?_; refine qa 20 ?_
              refine XQA1.wrZ0 (listed' := l9) rfl rfl Gd.free (by kernel_rfl) rfl (by kernel_rfl) (WrA.st (tyrow rfl) rfl) ?_
              rintro _ _ _ ⟨rfl, rfl, rfl⟩
              refine XQA.re zC ?_; refine XQA.nil rfl ?_
              refine DA.thn_normal ⟨zK, (g5, (g9, (g14, (g20, g22)))), _, zM, ?_, rfl, rfl⟩; exact zE
          · refine qw #[tt,ff,tt,tt,tt,tt,ff,tt,tt,tt,tt,tt,tt,tt,tt,tt,ff,ff,ff,ff,ff] rfl (WrA.bs (fun _ _ => tyrow) rfl rfl rfl rfl rfl) ?_
            rintro _ _ _ ⟨g9, rfl, rfl, rfl⟩
            refine ⟨⟨.refl _, zE⟩, ?_⟩
            refine qp 6 l18 rfl (Rd.bl (fun _ _ => tyrow) rfl rfl rfl) ?_
            refine XQA.w2 (i := 1) (j := 16) (by kernel_rfl) ?_ ?_
            · refine qw l4 rfl (WrA.bs1 (tyrow rfl) rfl (tyrow rfl)) ?_
              rintro _ _ _ ⟨g5, rfl, rfl, rfl⟩
              refine ⟨⟨.refl _, zE⟩, ?_⟩
              refine qa 16 ?_; refine qw l5 rfl (WrA.bs (fun _ _ => tyrow) rfl rfl rfl rfl rfl) ?_
              rintro _ _ _ ⟨g20, rfl, rfl, rfl⟩
              refine ⟨⟨.refl _, zE⟩, ?_⟩
              refine qp 17 l6 rfl (Rd.bl (fun _ _ => tyrow) rfl rfl rfl) ?_; refine qa 18 ?_; refine qw l7 rfl (WrA.bs1 (tyrow rfl) rfl (tyrow rfl)) ?_
              rintro _ _ _ ⟨g22, rfl, rfl, rfl⟩
              refine ⟨⟨.refl _, zE⟩, ?_⟩
              refine qp 19 l8 rfl (Rd.bl (fun _ _ => tyrow) rfl rfl rfl) ?_; refine qa 20 ?_
              refine XQA1.wrZ0 (listed' := l9) rfl rfl Gd.free (by kernel_rfl) rfl (by kernel_rfl) (WrA.st (tyrow rfl) rfl) ?_
              rintro _ _ _ ⟨rfl, rfl, rfl⟩
              refine XQA.re zC ?_; refine XQA.nil rfl ?_
              refine DA.thn_normal ⟨zK, (g5, (g9, (g14, (g20, g22)))), _, zM, ?_, rfl, rfl⟩; exact zE
            · refine qw l19 rfl (WrA.bs (fun _ _ => tyrow) rfl rfl rfl rfl rfl) ?_
              rintro _ _ _ ⟨g20, rfl, rfl, rfl⟩
              refine ⟨⟨.refl _, zE⟩, ?_⟩
              refine qp 17 l20 rfl (Rd.bl (fun _ _ => tyrow) rfl rfl rfl) ?_
              refine XQA.w2 (i := 1) (j := 18) (by kernel_rfl) ?_ ?_
              · refine qw l6 rfl (WrA.bs1 (tyrow rfl) rfl (tyrow rfl)) ?_
                rintro _ _ _ ⟨g5, rfl, rfl, rfl⟩
                refine ⟨⟨.refl _, zE⟩, ?_⟩
                refine qa 18 ?_; refine qw l7 rfl (WrA.bs1 (tyrow rfl) rfl (tyrow rfl)) ?_
                rintro _ _ _ ⟨g22, rfl, rfl, rfl⟩
                refine ⟨⟨.refl _, zE⟩, ?_⟩
                refine qp 19 l8 rfl (Rd.bl (fun _ _ => tyrow) rfl rfl rfl) ?_; refine qa 20 ?_
                refine XQA1.wrZ0 (listed' := l9) rfl rfl Gd.free (by kernel_rfl) rfl (by kernel_rfl) (WrA.st (tyrow rfl) rfl) ?_
                rintro _ _ _ ⟨rfl, rfl, rfl⟩
                refine XQA.re zC ?_; refine XQA.nil rfl ?_
                refine DA.thn_normal ⟨zK, (g5, (g9, (g14, (g20, g22)))), _, zM, ?_, rfl, rfl⟩; exact zE
              · refine qw l21 rfl (WrA.bs1 (tyrow rfl) rfl (tyrow rfl)) ?_
                rintro _ _ _ ⟨g22, rfl, rfl, rfl⟩
                refine ⟨⟨.refl _, zE⟩, ?_⟩
                refine qa 1 ?_; refine qw l7 rfl (WrA.bs1 (tyrow rfl) rfl (tyrow rfl)) ?_
                rintro _ _ _ ⟨g5, rfl, rfl, rfl⟩
                refine ⟨⟨.refl _, zE⟩, ?_⟩
                refine qp 19 l8 rfl (Rd.bl (fun _ _ => tyrow) rfl rfl rfl) ?_; refine qa 20 ?_
                refine XQA1.wrZ0 (listed' := l9) rfl rfl Gd.free (by kernel_rfl) rfl (by kernel_rfl) (WrA.st (tyrow rfl) rfl) ?_
                rintro _ _ _ ⟨rfl, rfl, rfl⟩
                refine XQA.re zC ?_; refine XQA.nil rfl ?_
                refine DA.thn_normal ⟨zK, (g5, (g9, (g14, (g20, g22)))), _, zM, ?_, rfl, rfl⟩; exact zE
          · refine qw #[tt,ff,tt,tt,tt,ff,ff,tt,tt,tt,tt,tt,tt,tt,tt,tt,tt,ff,ff,ff,ff] rfl (WrA.bs (fun _ _ => tyrow) rfl rfl rfl rfl rfl) ?_
            rintro _ _ _ ⟨g20, rfl, rfl, rfl⟩
            refine ⟨⟨.refl _, zE⟩, ?_⟩
            refine XQA.w2 (i := 1) (j := 5) (by kernel_rfl) ?_ ?_
            · refine qw l16 rfl (WrA.bs1 (tyrow rfl) rfl (tyrow rfl)) ?_
              rintro _ _ _ ⟨g5, rfl, rfl, rfl⟩
              refine ⟨⟨.refl _, zE⟩, ?_⟩
              refine qa 5 ?_; refine qw l17 rfl (WrA.bs (fun _ _ => tyrow) rfl rfl rfl rfl rfl) ?_
              rintro _ _ _ ⟨g9, rfl, rfl, rfl⟩
              refine ⟨⟨.refl _, zE⟩, ?_⟩
              refine qp 6 l5 rfl (Rd.bl (fun _ _ => tyrow) rfl rfl rfl) ?_; refine qp 17 l6 rfl (Rd.bl (fun _ _ => tyrow) rfl rfl rfl) ?_; refine qa 18 ?_; refine qw l7 rfl (WrA.bs1 (tyrow rfl) rfl (tyrow rfl)) ?_
              rintro _ _ _ ⟨g22, rfl, rfl, rfl⟩
              refine ⟨⟨.refl _, zE⟩, ?_⟩
              refine qp 19 l8 rfl (Rd.bl (fun _ _ => tyrow) rfl rfl rfl) ?_; refine qa 20 ?_
              refine XQA1.wrZ0 (listed' := l9) rfl rfl Gd.free (by kernel_rfl) rfl (by kernel_rfl) (WrA.st (tyrow rfl) rfl) ?_
              rintro _ _ _ ⟨rfl, rfl, rfl⟩
              refine XQA.re zC ?_; refine XQA.nil rfl ?_
              refine DA.thn_normal ⟨zK, (g5, (g9, (g14, (g20, g22)))), _, zM, ?_, rfl, rfl⟩; exact zE
            · refine qw #[tt,ff,tt,tt,tt,tt,ff,tt,tt,tt,tt,tt,tt,tt,tt,tt,tt,ff,ff,ff,ff] rfl (WrA.bs (fun _ _ => tyrow) rfl rfl rfl rfl rfl) ?_
              rintro _ _ _ ⟨g9, rfl, rfl, rfl⟩
              refine ⟨⟨.refl _, zE⟩, ?_⟩
              refine qp 6 l19 rfl (Rd.bl (fun _ _ => tyrow) rfl rfl rfl) ?_; refine qp 17 l20 rfl (Rd.bl (fun _ _ => tyrow) rfl rfl rfl) ?_
              refine XQA.w2 (i := 1) (j := 18) (by kernel_rfl) ?_ ?_
              · refine qw l6 rfl (WrA.bs1 (tyrow rfl) rfl (tyrow rfl)) ?_
                rintro _ _ _ ⟨g5, rfl, rfl, rfl⟩
                refine ⟨⟨.refl _, zE⟩, ?_⟩
                refine qa 18 ?_; refine qw l7 rfl (WrA.bs1 (tyrow rfl) rfl (tyrow rfl)) ?_
                rintro _ _ _ ⟨g22, rfl, rfl, rfl⟩
                refine ⟨⟨.refl _, zE⟩, ?_⟩
                refine qp 19 l8 rfl (Rd.bl (fun _ _ => tyrow) rfl rfl rfl) ?_; refine qa 20 ?_
                refine XQA1.wrZ0 (listed' := l9) rfl rfl Gd.free (by kernel_rfl) rfl (by kernel_rfl) (WrA.st (tyrow rfl) rfl) ?_
                rintro _ _ _ ⟨rfl, rfl, rfl⟩
                refine XQA.re zC ?_; refine XQA.nil rfl ?_
                refine DA.thn_normal ⟨zK, (g5, (g9, (g14, (g20, g22)))), _, zM, ?_, rfl, rfl⟩; exact zE
              · refine qw l21 rfl (WrA.bs1 (tyrow rfl) rfl (tyrow rfl)) ?_
                rintro _ _ _ ⟨g22, rfl, rfl, rfl⟩
                refine ⟨⟨.refl _, zE⟩, ?_⟩
                refine qa 1 ?_; refine qw l7 rfl (WrA.bs1 (tyrow rfl) rfl (tyrow rfl)) ?_
                rintro _ _ _ ⟨g5, rfl, rfl, rfl⟩
                refine ⟨⟨.refl _, zE⟩, ?_⟩
                refine qp 19 l8 rfl (Rd.bl (fun _ _ => tyrow) rfl rfl rfl) ?_; refine qa 20 ?_
                refine XQA1.wrZ0 (listed' := l9) rfl rfl Gd.free (by kernel_rfl) rfl (by kernel_rfl) (WrA.st (tyrow rfl) rfl) ?_
                rintro _ _ _ ⟨rfl, rfl, rfl⟩
                refine XQA.re zC ?_; refine XQA.nil rfl ?_
                refine DA.thn_normal ⟨zK, (g5, (g9, (g14, (g20, g22)))), _, zM, ?_, rfl, rfl⟩; exact zE
  rintro ⟨g5, g9, g14, g20, g22⟩ δ _ _ ⟨rfl, rfl⟩
  dsimp only [ovr, List.foldl]
  refine zT (XA.ret ?_); refine DA.frz (R := blk g5 _ 67) zL blk_frz blk_frz_mono ?_
  rintro σ1 ⟨⟩ r5 s1
  refine DA.frz (R := blk g9 _ 93) zL blk_frz blk_frz_mono ?_
  rintro σ2 ⟨⟩ r9 s2
  refine DA.frz (R := blk g14 _ 93) zL blk_frz blk_frz_mono ?_
  rintro σ3 ⟨⟩ r14 s3
  refine DA.frz (R := blk g20 _ 96) zL blk_frz blk_frz_mono ?_
  rintro σ4 ⟨⟩ r20 s4
  refine DA.frz (R := blk g22 _ 96) zL blk_frz blk_frz_mono ?_
  rintro σ5 ⟨⟩ r22 s5
  have r5 := r5.mono (((s2.trans s3).trans s4).trans s5)
  have r9 := r9.mono ((s3.trans s4).trans s5)
  have r14 := r14.mono (s4.trans s5)
  have r20 := r20.mono s5
  have nilE : ∀ σ, PSl 4 ExAt σ (.slice none 0 0) [] := fun σ => PSl.nil 4 ExAt σ
  have nilS : ∀ σ, PSl 12 StAt σ (.slice none 0 0) [] := fun σ => PSl.nil 12 StAt σ
  have okz : ∀ n : Int, -1000 ≤ n → n ≤ 1000 → i64ok n := fun n h1 h2 => ⟨by omega, by omega⟩
  have leaf : ∀ a n : Int, -1000 ≤ a → a ≤ 1000 → -1000 ≤ n → n ≤ 1000 → ExAt σ5 [i64 a, i64 0, i64 n, .slice none 0 0] (.mk a 0 n []) := fun a n h1 h2 h3 h4 => ExAt.of (okz _ h1 h2) (okz _ (by decide) (by decide)) (okz _ h3 h4) (nilE σ5)
  have hA : ExAt σ5 [i64 2, i64 0, i64 0, .slice none 0 0] exA := leaf 2 0 (by decide) (by decide) (by decide) (by decide)
  have hZ : ExAt σ5 [i64 0, i64 0, i64 0, .slice none 0 0] exZ := leaf 0 0 (by decide) (by decide) (by decide) (by decide)
  have h1 := leaf 1 1 (by decide) (by decide) (by decide) (by decide)
  have h3 := leaf 1 3 (by decide) (by decide) (by decide) (by decide)
  have hl14 : PSl 4 ExAt σ5 (.slice (some ⟨g14, 0, none⟩) 2 2) [exA, .mk 1 0 1 []] := Rows_.psl (((Rows_.nil 4 ExAt σ5).snoc rfl hA).snoc rfl h1) rfl ⟨Nat.le_refl _, by simp [maxLen], rfl, fun _ => ⟨g14, 0, rfl, r14⟩⟩
  have hl9 : PSl 4 ExAt σ5 (.slice (some ⟨g9, 0, none⟩) 2 2) [exA, .mk 1 0 3 []] := Rows_.psl (((Rows_.nil 4 ExAt σ5).snoc rfl hA).snoc rfl h3) rfl ⟨Nat.le_refl _, by simp [maxLen], rfl, fun _ => ⟨g9, 0, rfl, r9⟩⟩
  have hadd : ExAt σ5 [i64 4, i64 0, i64 0, .slice (some ⟨g14, 0, none⟩) 2 2] (.mk 4 0 0 [exA, .mk 1 0 1 []]) := ExAt.of (okz _ (by decide) (by decide)) (okz _ (by decide) (by decide)) (okz _ (by decide) (by decide)) hl14
  have hless : ExAt σ5 [i64 7, i64 0, i64 0, .slice (some ⟨g9, 0, none⟩) 2 2] (.mk 7 0 0 [exA, .mk 1 0 3 []]) := ExAt.of (okz _ (by decide) (by decide)) (okz _ (by decide) (by decide)) (okz _ (by decide) (by decide)) hl9
  have t1 : StAt σ5 [i64 1, i64 0, i64 4, i64 0, i64 0, .slice (some ⟨g14, 0, none⟩) 2 2, i64 0, i64 0, i64 0, .slice none 0 0, .slice none 0 0, .slice none 0 0] (.mk 1 0 (.mk 4 0 0 [exA, .mk 1 0 1 []]) exZ [] []) := StAt.of (okz _ (by decide) (by decide)) (okz _ (by decide) (by decide)) hadd hZ (nilS σ5) (nilS σ5)
  have t2 : StAt σ5 [i64 3, i64 0, i64 2, i64 0, i64 0, .slice none 0 0, i64 0, i64 0, i64 0, .slice none 0 0, .slice none 0 0, .slice none 0 0] (.mk 3 0 exA exZ [] []) := StAt.of (okz _ (by decide) (by decide)) (okz _ (by decide) (by decide)) hA hZ (nilS σ5) (nilS σ5)
  have t3 : StAt σ5 [i64 7, i64 0, i64 0, i64 0, i64 0, .slice none 0 0, i64 0, i64 0, i64 0, .slice none 0 0, .slice none 0 0, .slice none 0 0] (.mk 7 0 exZ exZ [] []) := StAt.of (okz _ (by decide) (by decide)) (okz _ (by decide) (by decide)) hZ hZ (nilS σ5) (nilS σ5)
  have hl20 : PSl 12 StAt σ5 (.slice (some ⟨g20, 0, none⟩) 3 3) [.mk 1 0 (.mk 4 0 0 [exA, .mk 1 0 1 []]) exZ [] [], .mk 3 0 exA exZ [] [], .mk 7 0 exZ exZ [] []] := Rows_.psl ((((Rows_.nil 12 StAt σ5).snoc rfl t1).snoc rfl t2).snoc rfl t3) rfl ⟨Nat.le_refl _, by simp [maxLen], rfl, fun _ => ⟨g20, 0, rfl, r20⟩⟩
  have t4 : StAt σ5 [i64 5, i64 0, i64 7, i64 0, i64 0, .slice (some ⟨g9, 0, none⟩) 2 2, i64 0, i64 0, i64 0, .slice none 0 0, .slice (some ⟨g20, 0, none⟩) 3 3, .slice none 0 0] (.mk 5 0 (.mk 7 0 0 [exA, .mk 1 0 3 []]) exZ [.mk 1 0 (.mk 4 0 0 [exA, .mk 1 0 1 []]) exZ [] [], .mk 3 0 exA exZ [] [], .mk 7 0 exZ exZ [] []] []) := StAt.of (okz _ (by decide) (by decide)) (okz _ (by decide) (by decide)) hless hZ hl20 (nilS σ5)
  have hbs : PSl 12 StAt σ5 (.slice (some ⟨g22, 0, none⟩) 1 1) progL.body := Rows_.psl ((Rows_.nil 12 StAt σ5).snoc rfl t4) rfl ⟨Nat.le_refl _, by simp [maxLen], rfl, fun _ => ⟨g22, 0, rfl, r22⟩⟩
  have hvs : PSl 2 rVa σ5 (.slice (some ⟨g5, 0, none⟩) 1 1) progL.vars := by
    refine Rows_.psl (rows := [[.string ⟨#[97]⟩, i64 1]]) ⟨rfl, by simp, fun i row x a b => ?_⟩ rfl ⟨Nat.le_refl _, by simp [maxLen], rfl, fun _ => ⟨g5, 0, rfl, r5⟩⟩
    match i with
    | 0 => simp [progL] at a b; subst a; subst b; exact ⟨rfl, okz _ (by decide) (by decide), by simp [maxLen, ByteArray.size]⟩
    | i + 1 => simp at a
  exact bodyA.ret (ResA.cell1 rfl rfl (Ld.atBlk (tyrow rfl) rfl zL rfl (by first | exact take0 (by first | rfl | assumption | (refine (ints_len _).trans ?_; assumption) | (simp [*]; (first | done | fail))) | assumption | exact take_app (by first | rfl | assumption | (refine (ints_len _).trans ?_; assumption) | (simp [*]; (first | done | fail))) | (conv => lhs; simp only [List.drop_succ_cons, List.drop_zero, List.take_succ_cons, List.take_zero])) (by first | rfl | assumption | (refine (ints_len _).trans ?_; assumption) | (simp [*]; (first | done | fail))))) (Ent.nil _) ⟨_, rfl, ⟨_, _, rfl, hvs, hbs⟩, (((s1.trans s2).trans s3).trans s4).trans s5, rfl⟩
end Go.Proofs.YtmnmcjdgnpgchaaGreat

namespace Go.Proofs.YtmnmcjdgnpgchaaGreat
open Go X
set_option maxHeartbeats 4000000
def L0 (n : Nat) : Li := ⟨be0 n, M0, noP⟩
theorem life0 {p : Pr} (hc : checkP p = 0) (inp : List Int) (hi : inp.length ≤ 1000000) (hl : (codeOf p).length ≤ 1000000) : LiOk p inp (L0 (sizes p.vars).toNat) 0 := ⟨mach0 hc inp hi hl, mach0 hc inp hi hl⟩
theorem newl_bad (σ : PH) (cs : List Value) (p : Pr) (iv : Value) (inp : List Int) (hp : PrAt σ cs p) (hi : PInts σ iv inp) (hN : stsN p.body ≤ 10000) (hc : checkP p ≠ 0) :
    CallsA Tryz.prog 8 #[.agg cs.toArray, iv] σ [] (RetA fun v σ' Γ' => v = .tuple #[.pointer none, i64 (checkP p)] ∧ σ.sub σ' ∧ Γ' = []) := by
  have hp0 := hp
  obtain ⟨vs, bs, rfl, hv, hb⟩ := hp
  obtain ⟨pv, cv, rfl, -, -⟩ := hv.shape
  obtain ⟨pb0, cb, rfl, -, -⟩ := hb.shape
  obtain ⟨pi0, ci0, rfl, hil, him⟩ := hi.shape
  refine enterA2 Tryz.func8 rfl rfl rfl ?_; refine zS (zR ?_); refine zw rfl WrA.bx ?_
  rintro _ _ _ ⟨g2, rfl, rfl, rfl⟩
  refine yS ?_; refine yS ?_; refine zN (zT (zS (zR (zO rfl (Rd.ldA rfl) ?_)))); refine zw rfl (WrA.cE (make_a σ _ p hp0 hN) rfl) ?_
  rintro _ σ2 _ ⟨_, ⟨sl, rfl, hsl, hs2, rfl⟩, rfl⟩
  refine XOA.cl ?_; refine yA ?_; refine zO rfl (Rd.extract rfl rfl) ?_; refine zO rfl (Rd.extract rfl rfl) ?_; refine yS ?_; refine yS ?_; refine zN (zT (zS (zS (zR (yA ?_))))); refine zO rfl (Rd.neq rfl rfl) ?_; refine zN (zT (XA.condT rfl (decide_eq_true hc) (zS (zR (yA ?_))))); refine yS ?_
  refine yS ?_; refine zN (zT (XA.ret (DA.thn_ret ?_)))
  exact bodyA.ret (ResA.two rfl rfl rfl) (Ent.nil _) ⟨rfl, hs2, rfl⟩
theorem newl_long (σ : PH) (cs : List Value) (p : Pr) (iv : Value) (inp : List Int) (hp : PrAt σ cs p) (hi : PInts σ iv inp) (hN : stsN p.body ≤ 10000) (hc : checkP p = 0) (h40 : 40 < inp.length) :
    CallsA Tryz.prog 8 #[.agg cs.toArray, iv] σ [] (RetA fun v σ' Γ' => v = .tuple #[.pointer none, i64 1] ∧ σ.sub σ' ∧ Γ' = []) := by
  have hp0 := hp
  obtain ⟨vs, bs, rfl, hv, hb⟩ := hp
  obtain ⟨pv, cv, rfl, -, -⟩ := hv.shape
  obtain ⟨pb0, cb, rfl, -, -⟩ := hb.shape
  obtain ⟨pi0, ci0, rfl, hil, him⟩ := hi.shape
  refine enterA2 Tryz.func8 rfl rfl rfl ?_; refine zS (zR ?_); refine zw rfl WrA.bx ?_
  rintro _ _ _ ⟨g2, rfl, rfl, rfl⟩
  refine yS ?_; refine yS ?_; refine zN (zT (zS (zR (zO rfl (Rd.ldA rfl) ?_)))); refine zw rfl (WrA.cE (make_a σ _ p hp0 hN) rfl) ?_
  rintro _ σ2 _ ⟨_, ⟨sl, rfl, hsl, hs2, rfl⟩, rfl⟩
  refine XOA.cl ?_
  rw [hc]
  refine yA ?_; refine zO rfl (Rd.extract rfl rfl) ?_; refine zO rfl (Rd.extract rfl rfl) ?_; refine yS ?_; refine yS ?_; refine zN (zT (zS (zS (zR (yA ?_))))); refine zO rfl (Rd.neq rfl rfl) ?_; refine zN (zT (yF rfl rfl (XA.skip (zT (zS (zS (zR (yA ?_))))))))
  refine zO rfl (Rd.lenSlice (tyrow rfl) rfl rfl) ?_; refine zO rfl (Rd.gtr rfl rfl) ?_; refine zN (zT (XA.condT rfl (by first | rfl | exact decide_eq_true (by omega)) ?_)); refine zS (zR (yS ?_)); refine yS ?_; refine zN (zT (XA.ret (DA.thn_ret ?_)))
  exact bodyA.ret (ResA.two rfl rfl rfl) (Ent.nil _) ⟨rfl, hs2, rfl⟩
theorem newl_ok (σ : PH) (cs : List Value) (p : Pr) (iv : Value) (inp : List Int) (hp : PrAt σ cs p) (hi : PInts σ iv inp) (hN : stsN p.body ≤ 10000) (hc : checkP p = 0) (h40 : inp.length ≤ 40) :
    CallsA Tryz.prog 8 #[.agg cs.toArray, iv] σ [] (RetA fun v σ' Γ' => ∃ gx db pb pc cc, v = .tuple #[ptr gx, i64 0] ∧ σ.sub σ' ∧ PSl 4 rIn σ' (.slice pc (codeOf p).length cc) (codeOf p) ∧ LifeG σ' gx db pb pc cc (sizes p.vars).toNat p inp (L0 (sizes p.vars).toNat) 0 Γ') := by
  have hp0 := hp
  obtain ⟨vs, bs, rfl, hv, hb⟩ := hp
  obtain ⟨pv, cv, rfl, -, -⟩ := hv.shape
  obtain ⟨pb0, cb, rfl, -, -⟩ := hb.shape
  obtain ⟨pi0, ci0, rfl, hil, him⟩ := hi.shape
  obtain ⟨hz, hvl'⟩ := check_small hc
  obtain ⟨-, -, hv1, h48⟩ := check_valid hc
  have hsn : (0 : Int) ≤ sizes p.vars := sizes_nonneg hv1
  obtain ⟨nc, hnc⟩ : ∃ nc : Nat, sizes p.vars = (nc : Int) := ⟨(sizes p.vars).toNat, by omega⟩
  have hn2 : (sizes p.vars).toNat = nc := by omega
  have hG0 : Good DiskS.new s0 := Good.new
  rw [hn2]
  refine enterA2 Tryz.func8 rfl rfl rfl ?_; refine zS (zR ?_); refine zw rfl WrA.bx ?_
  rintro _ _ _ ⟨g2, rfl, rfl, rfl⟩
  refine yS ?_; refine yS ?_; refine zN (zT (zS (zR (zO rfl (Rd.ldA rfl) ?_)))); refine zw rfl (WrA.cE (make_a σ _ p hp0 hN) rfl) ?_
  rintro _ σ2 _ ⟨_, ⟨sl, rfl, hsl, hs2, rfl⟩, rfl⟩
  refine XOA.cl ?_
  rw [if_pos hc] at hsl
  rw [hc]
  obtain ⟨q, cq, rfl, -, -⟩ := hsl.shape
  have hce := cells_a σ2 _ p (hp0.mono hs2) hz hvl'
  rw [hnc] at hce
  have hcl := cloneP_a σ2 (.slice pi0 inp.length ci0) inp (hi.mono hs2) (by omega)
  have hnd := new_a σ2
  refine yA ?_; refine zO rfl (Rd.extract rfl rfl) ?_; refine zO rfl (Rd.extract rfl rfl) ?_; refine yS ?_; refine yS ?_; refine zN (zT (zS (zS (zR (yA ?_))))); refine zO rfl (Rd.neq rfl rfl) ?_; refine zN (zT (yF rfl rfl (XA.skip (zT (zS (zS (zR (yA ?_))))))))
  refine zO rfl (Rd.lenSlice (tyrow rfl) rfl rfl) ?_; refine zO rfl (Rd.gtr rfl rfl) ?_; refine zN (zT (XA.condF rfl (by first | rfl | exact decide_eq_false (by omega)) ?_)); refine XA.skip (zT (zS ?_))
  refine XA.join [(8, 8), (20, 29)] (fun y : (Nat × (Nat × Nat)) × (Option Addr × Nat) => [(8, ptr y.1.1)]) (fun y σ' Γ' => σ2 = σ' ∧ Γ' = [blk y.1.1 [.pointer none, ptr y.1.2.1, ptr y.1.2.2, .slice q (codeOf p).length cq, .slice y.2.1 inp.length y.2.2, i64 nc] 65, Disk y.1.2.1 DiskS.new, blk y.1.2.2 [.slice none 0 0, i64 0] 61, lst 2 1 (.slice y.2.1 inp.length y.2.2) inp.length (ints inp)]) ?_ ?_
  · skip
    refine XA.drawQ (by kernel_rfl) _ _ [] 11 #[false, false, false, false, false, false, false, false, false, false, false] rfl rfl (by kernel_rfl) (PH.sub.refl _) (Ent.sel (R := blk g2 _ _) zL (Ent.nil _)) ?_
    refine qp 1 #[fF,tT,fF,fF,fF,fF,fF,fF,fF,fF,fF] rfl (Rd.bl (fun _ _ => tyrow) rfl rfl rfl) ?_; refine qp 3 #[fF,tT,fF,tT,fF,fF,fF,fF,fF,fF,fF] rfl Rd.mv ?_; refine qp 4 #[fF,tT,fF,tT,tT,fF,fF,fF,fF,fF,fF] rfl Rd.mv ?_; refine qr 6 #[fF,tT,fF,tT,tT,fF,tT,fF,fF,fF,fF] rfl (Rd.ldA rfl) ?_
    refine XQA.w2 (i := 0) (j := 2) (by kernel_rfl) ?_ ?_
    · refine qw #[tT,tT,fF,tT,tT,fF,tT,fF,fF,fF,fF] rfl (WrA.cE hnd rfl) ?_
      rintro _ _ _ ⟨_, ⟨db, rfl, rfl, rfl⟩, rfl⟩
      refine ⟨⟨zX, zE⟩, XQA.re zC ?_⟩
      refine XQA.w2 (i := 2) (j := 5) (by kernel_rfl) ?_ ?_
      · refine qw #[tT,tT,tT,tT,tT,fF,tT,fF,fF,fF,fF] rfl WrA.bx ?_
        rintro _ _ _ ⟨g22, rfl, rfl, rfl⟩
        refine ⟨⟨zX, zE⟩, XQA.re zC ?_⟩
        refine qa 5 ?_; refine qw #[tT,tT,tT,tT,tT,tT,tT,fF,fF,fF,fF] rfl (WrA.cE hcl rfl) ?_
        rintro _ _ _ ⟨_, ⟨pj, cj, rfl, rfl, rfl⟩, rfl⟩
        refine ⟨⟨zX, zE⟩, XQA.re zC ?_⟩
        refine qa 7 ?_; refine qw #[tT,tT,tT,tT,tT,tT,tT,tT,fF,fF,fF] rfl (WrA.cE hce rfl) ?_
        rintro _ _ _ ⟨_, ⟨rfl, rfl, rfl⟩, rfl⟩
        refine ⟨⟨zX, zE⟩, XQA.re zC ?_⟩
        refine qp 8 #[tT,tT,tT,tT,tT,tT,tT,tT,tT,fF,fF] rfl (Rd.bl (fun _ _ => tyrow) rfl rfl rfl) ?_; refine qa 9 ?_; refine qw #[tT,tT,tT,tT,tT,tT,tT,tT,tT,tT,fF] rfl WrA.bx ?_
        rintro _ _ _ ⟨g29, rfl, rfl, rfl⟩
        refine ⟨⟨zX, zE⟩, XQA.re zC ?_⟩
        refine qp 10 #[tT,tT,tT,tT,tT,tT,tT,tT,tT,tT,tT] rfl Rd.asg ?_; refine XQA.nil rfl ?_
        refine DA.thn_normal ⟨zK, ((g29, (db, g22)), (pj, cj)), _, zM, ?_, rfl, rfl⟩; exact zE
      · refine qw #[tT,tT,fF,tT,tT,tT,tT,fF,fF,fF,fF] rfl (WrA.cE hcl rfl) ?_
        rintro _ _ _ ⟨_, ⟨pj, cj, rfl, rfl, rfl⟩, rfl⟩
        refine ⟨⟨zX, zE⟩, XQA.re zC ?_⟩
        refine XQA.w2 (i := 2) (j := 7) (by kernel_rfl) ?_ ?_
        · refine qw #[tT,tT,tT,tT,tT,tT,tT,fF,fF,fF,fF] rfl WrA.bx ?_
          rintro _ _ _ ⟨g22, rfl, rfl, rfl⟩
          refine ⟨⟨zX, zE⟩, XQA.re zC ?_⟩
          refine qa 7 ?_; refine qw #[tT,tT,tT,tT,tT,tT,tT,tT,fF,fF,fF] rfl (WrA.cE hce rfl) ?_
          rintro _ _ _ ⟨_, ⟨rfl, rfl, rfl⟩, rfl⟩
          refine ⟨⟨zX, zE⟩, XQA.re zC ?_⟩
          refine qp 8 #[tT,tT,tT,tT,tT,tT,tT,tT,tT,fF,fF] rfl (Rd.bl (fun _ _ => tyrow) rfl rfl rfl) ?_; refine qa 9 ?_; refine qw #[tT,tT,tT,tT,tT,tT,tT,tT,tT,tT,fF] rfl WrA.bx ?_
          rintro _ _ _ ⟨g29, rfl, rfl, rfl⟩
          refine ⟨⟨zX, zE⟩, XQA.re zC ?_⟩
          refine qp 10 #[tT,tT,tT,tT,tT,tT,tT,tT,tT,tT,tT] rfl Rd.asg ?_; refine XQA.nil rfl ?_
          refine DA.thn_normal ⟨zK, ((g29, (db, g22)), (pj, cj)), _, zM, ?_, rfl, rfl⟩; exact zE
        · refine qw #[tT,tT,fF,tT,tT,tT,tT,tT,fF,fF,fF] rfl (WrA.cE hce rfl) ?_
          rintro _ _ _ ⟨_, ⟨rfl, rfl, rfl⟩, rfl⟩
          refine ⟨⟨zX, zE⟩, XQA.re zC ?_⟩
          refine qa 2 ?_; refine qw #[tT,tT,tT,tT,tT,tT,tT,tT,fF,fF,fF] rfl WrA.bx ?_
          rintro _ _ _ ⟨g22, rfl, rfl, rfl⟩
          refine ⟨⟨zX, zE⟩, XQA.re zC ?_⟩
          refine qp 8 #[tT,tT,tT,tT,tT,tT,tT,tT,tT,fF,fF] rfl (Rd.bl (fun _ _ => tyrow) rfl rfl rfl) ?_; refine qa 9 ?_; refine qw #[tT,tT,tT,tT,tT,tT,tT,tT,tT,tT,fF] rfl WrA.bx ?_
          rintro _ _ _ ⟨g29, rfl, rfl, rfl⟩
          refine ⟨⟨zX, zE⟩, XQA.re zC ?_⟩
          refine qp 10 #[tT,tT,tT,tT,tT,tT,tT,tT,tT,tT,tT] rfl Rd.asg ?_; refine XQA.nil rfl ?_
          refine DA.thn_normal ⟨zK, ((g29, (db, g22)), (pj, cj)), _, zM, ?_, rfl, rfl⟩; exact zE
    · refine qw #[fF,tT,tT,tT,tT,fF,tT,fF,fF,fF,fF] rfl WrA.bx ?_
      rintro _ _ _ ⟨g22, rfl, rfl, rfl⟩
      refine ⟨⟨zX, zE⟩, XQA.re zC ?_⟩
      refine qa 0 ?_; refine qw #[tT,tT,tT,tT,tT,fF,tT,fF,fF,fF,fF] rfl (WrA.cE hnd rfl) ?_
      rintro _ _ _ ⟨_, ⟨db, rfl, rfl, rfl⟩, rfl⟩
      refine ⟨⟨zX, zE⟩, XQA.re zC ?_⟩
      refine qa 5 ?_; refine qw #[tT,tT,tT,tT,tT,tT,tT,fF,fF,fF,fF] rfl (WrA.cE hcl rfl) ?_
      rintro _ _ _ ⟨_, ⟨pj, cj, rfl, rfl, rfl⟩, rfl⟩
      refine ⟨⟨zX, zE⟩, XQA.re zC ?_⟩
      refine qa 7 ?_; refine qw #[tT,tT,tT,tT,tT,tT,tT,tT,fF,fF,fF] rfl (WrA.cE hce rfl) ?_
      rintro _ _ _ ⟨_, ⟨rfl, rfl, rfl⟩, rfl⟩
      refine ⟨⟨zX, zE⟩, XQA.re zC ?_⟩
      refine qp 8 #[tT,tT,tT,tT,tT,tT,tT,tT,tT,fF,fF] rfl (Rd.bl (fun _ _ => tyrow) rfl rfl rfl) ?_; refine qa 9 ?_; refine qw #[tT,tT,tT,tT,tT,tT,tT,tT,tT,tT,fF] rfl WrA.bx ?_
      rintro _ _ _ ⟨g29, rfl, rfl, rfl⟩
      refine ⟨⟨zX, zE⟩, XQA.re zC ?_⟩
      refine qp 10 #[tT,tT,tT,tT,tT,tT,tT,tT,tT,tT,tT] rfl Rd.asg ?_; refine XQA.nil rfl ?_
      refine DA.thn_normal ⟨zK, ((g29, (db, g22)), (pj, cj)), _, zM, ?_, rfl, rfl⟩; exact zE
  rintro ⟨⟨g29, db, g22⟩, pj, cj⟩ δ _ _ ⟨rfl, rfl⟩
  dsimp only [ovr, List.foldl]
  refine zT (zS (zR (yA ?_))); refine XOA.ent (Ent.selNil (e := 2) (size := 1) (Ent.refl _)) ?_; refine XOA.ent (Ent.foldC (Θ := [blk g22 _ 61, lst 2 1 (.slice none 0 0) 0 []]) zD (Prin.mk (out := []) (wrong := false) rfl rfl rfl) (Ent.refl _)) ?_
  refine XOA.frz (R := lst 2 1 (.slice pj inp.length cj) _ _) zL lst_frz lst_frz_mono ?_
  rintro σ3 ⟨⟩ hf3 hs3
  have hj3 := pints_frz rfl hf3
  refine zw rfl (WrA.cE (wake_l σ3 g29 db g22 _ q pj (codeOf p).length cq cj nc inp DiskS.new s0 hG0 hj3 (by omega)) rfl) ?_
  rintro _ σ4 _ ⟨_, ⟨g4, mb4, sb4, pi4, ci4, rfl, hs4, hi4, rfl⟩, rfl⟩
  refine XOA.cl ?_
  rw [pages0]
  refine zN (zT (zS (zR (yA ?_)))); refine yS ?_; refine yS ?_; refine zN (zT (XA.ret ?_))
  exact bodyA.ret (ResA.two rfl rfl rfl) zE ⟨g29, db, g22, q, cq, rfl, (hs2.trans hs3).trans hs4, hsl.mono (hs3.trans hs4) (fun _ _ h => h), ⟨g4, mb4, sb4, DiskS.new, s0, pi4, ci4, pj, cj, pages0, rfl, hG0, hi4, hj3.mono hs4, rfl⟩⟩
def rLStp : RT LStp := fun _ cs x => cs = [i64 x.kind, i64 x.n, i64 x.K, .int .u64 x.mask] ∧ x.K < 9223372036854775808 ∧ 0 ≤ x.mask ∧ x.mask < 18446744073709551616
def lifeAll (code : List In) (inp : List Int) : List LStp → Li → Li × Int
  | [], L => (L, 0)
  | s :: r, L => if stpFault s ≠ 0 then (L, stpFault s) else lifeAll code inp r (doL code inp s L).1
end Go.Proofs.YtmnmcjdgnpgchaaGreat

namespace Go.Proofs.YtmnmcjdgnpgchaaGreat
open Go X
set_option maxHeartbeats 4000000
theorem lifeAll_app (code : List In) (inp : List Int) (m : List LStp) : ∀ (l : List LStp) (L : Li), lifeAll code inp (l ++ m) L = if (lifeAll code inp l L).2 ≠ 0 then lifeAll code inp l L else lifeAll code inp m (lifeAll code inp l L).1
  | [], L => by simp [lifeAll]
  | s :: r, L => by
    rw [List.cons_append, lifeAll, lifeAll]
    by_cases h : stpFault s ≠ 0
    · rw [if_pos h, if_pos h, if_pos h]
    · rw [if_neg h, if_neg h]; exact lifeAll_app code inp m r _
def saysC (L : Li) (f : Int) : Int := if f = 0 then nowC L.b else 0
def saysO (L : Li) (f : Int) : List Int := if f = 0 then L.b.out else []
def saysV (L : Li) (f : Int) : List Int := if f = 0 then L.b.m.cells else []
theorem runlife_a (σ : PH) (cs : List Value) (p : Pr) (iv : Value) (inp : List Int) (lv : Value) (l : List LStp) (fuel : Int) (hp : PrAt σ cs p) (hi : PInts σ iv inp) (hl : PSl 4 rLStp σ lv l) (hl100 : l.length ≤ 100) (hN : stsN p.body ≤ 10000) (hcl : (codeOf p).length ≤ 1000000) (hc : checkP p = 0) (h40 : inp.length ≤ 40) :
    CallsA Tryz.prog 10 #[.agg cs.toArray, iv, lv, i64 fuel] σ [] (RetA fun v σ' Γ' => ∃ (L : Li) (f : Int) (po : Option Addr) (co : Nat) (pv : Option Addr) (cv : Nat), lifeAll (codeOf p) inp (l ++ [⟨1, fuel, 0, 0⟩]) (L0 (sizes p.vars).toNat) = (L, f) ∧ v = .tuple #[.agg #[i64 (saysC L f), .slice po (saysO L f).length co, .slice pv (saysV L f).length cv], i64 f] ∧ PInts σ' (.slice po (saysO L f).length co) (saysO L f) ∧ PInts σ' (.slice pv (saysV L f).length cv) (saysV L f) ∧ σ.sub σ' ∧ Γ' = []) := by
  have hp0 := hp
  obtain ⟨vs, bs, rfl, hv, hb⟩ := hp
  obtain ⟨pv, cv, rfl, -, -⟩ := hv.shape
  obtain ⟨pb0, cb, rfl, -, -⟩ := hb.shape
  obtain ⟨pl, cl, rfl, hll, hlm⟩ := hl.shape
  have hnew := newl_ok σ _ p iv inp hp0 hi hN hc h40
  obtain ⟨pi0, ci0, rfl, hil, him⟩ := hi.shape
  have hL00 := life0 hc inp (by omega) hcl
  refine enterA4 Tryz.func10 rfl rfl rfl ?_; refine zS (zR ?_); refine zw rfl WrA.bx ?_
  rintro _ _ _ ⟨g4, rfl, rfl, rfl⟩
  refine zw rfl (WrA.alloc (tyrow rfl)) ?_
  rintro _ _ _ ⟨g8, rfl, rfl, rfl⟩
  refine yS ?_; refine zN (zT (zS (zS (zR (yA ?_))))); refine zO rfl (Rd.lenSlice (tyrow rfl) rfl rfl) ?_; refine zO rfl (Rd.gtr rfl rfl) ?_; refine zN (zT (XA.condF rfl (by first | rfl | exact decide_eq_false (by omega)) ?_)); refine XA.skip (zT (zS (zR (zO rfl (Rd.ldA rfl) ?_))))
  refine yA ?_; refine zw rfl (WrA.cE (hnew) rfl) ?_
  rintro _ σ1 _ ⟨Γ1, ⟨gx, db, pb, pc, cc, rfl, hs1, hcd, hL1⟩, rfl⟩
  refine XOA.cl ?_
  have hL1' := hL1
  obtain ⟨g, mb, sb, d, s, pi, ci, pj, cj, hQ, hsg, hG, hi1, hj1, rfl⟩ := hL1
  refine yA ?_; refine zO rfl (Rd.extract rfl rfl) ?_; refine zO rfl (Rd.extract rfl rfl) ?_; refine yS ?_; refine yS ?_; refine zN (zT (zS (zS (zR (yA ?_))))); refine zO rfl (Rd.neq rfl rfl) ?_; refine zN (zT (yF rfl rfl (XA.skip (zT (zS (zS (zR (yA ?_))))))))
  refine zO rfl (Rd.lenSlice (tyrow rfl) rfl rfl) ?_; refine yA ?_; refine zN (zT (XA.block ?_))
  refine XA.gen [(3, _), (8, _), (9, _), (10, _), (32, _), (33, _), (34, _)] ⟨(by with_reducible (conv => lhs; whnf)), (by with_reducible (conv => lhs; whnf)), (by with_reducible (conv => lhs; whnf)), (by with_reducible (conv => lhs; whnf)), (by with_reducible (conv => lhs; whnf)), (by with_reducible (conv => lhs; whnf)), (by with_reducible (conv => lhs; whnf)), trivial⟩ (fun δ => ?_)
  dsimp only [List.foldl]
  refine XA.loop [(9, 9), (13, 15), (34, 48)] (fun x : Nat × Li => [(34, i64 x.1)]) (fun x σ' Γ' => σ1.sub σ' ∧ x.1 ≤ l.length ∧ LiOk p inp x.2 (3000 * x.1) ∧ lifeAll (codeOf p) inp (l ++ [⟨1, fuel, 0, 0⟩]) (L0 (sizes p.vars).toNat) = lifeAll (codeOf p) inp (l.drop x.1 ++ [⟨1, fuel, 0, 0⟩]) x.2 ∧ ∃ gn : Int, gn ≤ (3000 * x.1 : Nat) ∧ ∃ Γ1, LifeG σ' gx db pb pc cc (sizes p.vars).toNat p inp x.2 gn Γ1 ∧ Γ' = blk g8 [i64 0, .slice none 0 0, .slice none 0 0] 35 :: Γ1) (fun x => l.length - x.1) (0, L0 (sizes p.vars).toNat) (by exact ⟨rfl, trivial⟩) (Δ0 := _) ?_ (⟨.refl _, Nat.zero_le _, hL00, rfl, 0, Int.le_refl _, _, hL1', rfl⟩) ?_
  · exact zE
  rintro ⟨i, L⟩ δ σ2 _ ⟨hs2, hin, hok, hall, gn, hgn, Γ2, hL2, rfl⟩
  dsimp only [ovr, List.foldl]
  have hin : i ≤ l.length := hin
  simp only at hok hall hgn hL2
  have hL2' := hL2
  obtain ⟨g2, mb2, sb2, d2, s2, pi2, ci2, pj2, cj2, hQ2, hsg2, hG2, hi2, hj2, rfl⟩ := hL2
  have hc2 := hcd.mono hs2 (fun _ _ h => h)
  refine zS (zR (zO rfl (Rd.lss rfl rfl) ?_)); refine zN (zT (zS ?_)); refine XA.condp rfl (fun hlt => ?_) (fun hlt => ?_)
  · have hlt : i < l.length := by omega
    obtain ⟨x, hx⟩ : ∃ x, l[i]? = some x := ⟨_, List.getElem?_eq_getElem hlt⟩
    obtain ⟨gr, orow, row, rfl, ⟨hrx, hxK, hx0, hx1⟩, hrl, hrow⟩ := (hl.mono (hs1.trans hs2) (fun cs x h => h)).at hx
    subst hrx
    have hdrop : l.drop i = x :: l.drop (i + 1) := by
      rw [List.drop_eq_getElem_cons hlt]; congr 1
      exact (List.getElem?_eq_some_iff.1 hx).2
    rw [hdrop, List.cons_append, lifeAll] at hall
    have hdo := do_l σ2 gx db pb pc cc (sizes p.vars).toNat p inp L gn (3000 * i) x _ hxK hx0 hx1 hc2 hL2' hok (by omega) hgn
    obtain ⟨hok2, hle2, -⟩ := doL_ok x hok (by omega)
    refine XA.skip (zT (zS (XA.block (zS (zR (zO rfl (Rd.ixS rfl rfl) ?_)))))); refine zO rfl (Rd.ldA rfl) ?_; refine zw rfl (WrA.alloc (tyrow rfl)) ?_
    rintro _ _ _ ⟨g13, rfl, rfl, rfl⟩
    refine zw rfl (WrA.st (tyrow rfl) rfl) ?_
    rintro _ _ _ ⟨rfl, rfl, rfl⟩
    refine zN (zT (zS (zR (yA ?_)))); refine zO rfl (Rd.ldA rfl) ?_; refine zw rfl (WrA.cE (hdo) rfl) ?_
    rintro _ σ3 _ ⟨Γ3, ⟨rfl, hs3, gn3, hg3, -, hL3⟩, rfl⟩
    refine XOA.cl ?_
    have hL3' := hL3
    obtain ⟨g3, mb3, sb3, d3, s3, pi3, ci3, pj3, cj3, hQ3, hsg3, hG3, hi3, hj3, rfl⟩ := hL3
    refine yA ?_; refine zO rfl (Rd.extract rfl rfl) ?_; refine zO rfl (Rd.extract rfl rfl) ?_; refine yS ?_; refine yS ?_; refine zN (zT (zS (zR (yA ?_)))); refine zO rfl (Rd.neq rfl rfl) ?_; refine zN (zT ?_)
    by_cases hf : stpFault x = 0
    · rw [if_neg (fun q => q hf)] at hall
      refine XA.condF rfl (by first | rfl | exact decide_eq_false (fun q => q hf)) ?_
      refine XA.skip (DA.inb_normal (zT (zR (zO rfl zI ?_)))); refine yA ?_; refine zN (zT ?_)
      refine ⟨(Keep.upd (Keep.upd (Keep.upd (Keep.upd (Keep.upd (Keep.upd (Keep.upd (Keep.upd (Keep.upd (Keep.updO (Keep.upd (Keep.upd (Keep.updN (Keep.updO (Keep.upd (Keep.upd (Keep.upd (Keep.upd (Keep.hav (Keep.hav (Keep.hav (Keep.refl _ _) rfl) rfl) rfl) rfl) rfl) rfl) rfl) rfl)) rfl) rfl) rfl) rfl) rfl) rfl) rfl) rfl) rfl) rfl) rfl) rfl), (i + 1, (doL (codeOf p) inp x L).1), _, zM, ?_, ⟨hs2.trans hs3, hlt, hok2.le (by show _ ≤ 3000 * (i + 1); omega), hall, gn3, by show gn3 ≤ ((3000 * (i + 1) : Nat) : Int); omega, _, hL3', rfl⟩, (by simp only; omega)⟩
      · exact zE
    · rw [if_pos hf] at hall
      refine XA.condT rfl (by first | rfl | exact decide_eq_true hf) ?_; refine zS (zR ?_)
      refine zO rfl (Rd.bl (fun _ _ => tyrow) rfl rfl rfl) ?_; refine yA ?_; refine zw rfl (WrA.st (tyrow rfl) rfl) ?_
      rintro _ _ _ ⟨rfl, rfl, rfl⟩
      refine yS ?_; refine zN (zT (XA.ret (DA.inb_ret (DA.thn_ret (DA.thn_ret (DA.inb_ret (DA.thn_ret ?_)))))))
      exact bodyA.ret (ResA.ct rfl rfl rfl (Ld.atBlk (tyrow rfl) rfl zL rfl (by first | exact take0 (by first | rfl | assumption | (refine (ints_len _).trans ?_; assumption) | (simp [*]; (first | done | fail))) | assumption | exact take_app (by first | rfl | assumption | (refine (ints_len _).trans ?_; assumption) | (simp [*]; (first | done | fail))) | (conv => lhs; simp only [List.drop_succ_cons, List.drop_zero, List.take_succ_cons, List.take_zero])) (by first | rfl | assumption | (refine (ints_len _).trans ?_; assumption) | (simp [*]; (first | done | fail))))) (Ent.nil _) ⟨_, _, none, 0, none, 0, hall, by rw [saysC, saysO, saysV, if_neg hf, if_neg hf, if_neg hf]; rfl, by rw [saysO, if_neg hf]; exact PInts.nil _, by rw [saysV, if_neg hf]; exact PInts.nil _, (hs1.trans hs2).trans hs3, rfl⟩
  obtain rfl : i = l.length := by omega
  rw [List.drop_length, List.nil_append] at hall
  have hdo := do_l σ2 gx db pb pc cc (sizes p.vars).toNat p inp L gn (3000 * l.length) ⟨1, fuel, 0, 0⟩ _ (show (0 : Int) < 9223372036854775808 by decide) (show (0 : Int) ≤ 0 by decide) (show (0 : Int) < 18446744073709551616 by decide) hc2 hL2' hok (by omega) hgn
  obtain ⟨hok2, hle2, -⟩ := doL_ok ⟨1, fuel, 0, 0⟩ hok (by omega)
  rw [lifeAll] at hall
  refine XA.exit (DA.thn_exit (DA.thn_exit (DA.inb_same (zT (zS (zS (zR (yA ?_)))))))); refine yA ?_; refine zO rfl (Rd.bl (fun _ _ => tyrow) rfl rfl rfl) ?_; refine zw rfl (WrA.cE (hdo) rfl) ?_
  rintro _ σ3 _ ⟨Γ3, ⟨rfl, hs3, gn3, hg3, -, hL3⟩, rfl⟩
  refine XOA.cl ?_
  have hL3' := hL3
  obtain ⟨g3, mb3, sb3, d3, s3, pi3, ci3, pj3, cj3, hQ3, hsg3, hG3, hi3, hj3, rfl⟩ := hL3
  dsimp only [List.append, List.cons_append, List.nil_append]
  refine yA ?_; refine zO rfl (Rd.extract rfl rfl) ?_; refine zO rfl (Rd.extract rfl rfl) ?_; refine yS ?_; refine yS ?_; refine zN (zT (zS (zR (yA ?_)))); refine zO rfl (Rd.neq rfl rfl) ?_; refine zN (zT ?_)
  by_cases hf : stpFault ⟨1, fuel, 0, 0⟩ = 0
  · rw [if_neg (fun q => q hf), lifeAll] at hall
    have hnow := nowl_l σ3 gx db pb pc cc (sizes p.vars).toNat p inp (doL (codeOf p) inp ⟨1, fuel, 0, 0⟩ L).1 gn3 _ _ hL3' hok2 (by omega) hok2.mach.cells.symm
    refine XA.condF rfl (by first | rfl | exact decide_eq_false (fun q => q hf)) ?_
    refine XA.skip (zT (zS (zR (yA ?_)))); refine zw rfl (WrA.cE (hnow) rfl) ?_
    rintro _ σ4 _ ⟨Γ4, ⟨po, co, pv2, cv2, rfl, hvo, hvc, hs4, hL4⟩, rfl⟩
    refine XOA.cl ?_
    obtain ⟨g4, mb4, sb4, d4, s4, pi4, ci4, pj4, cj4, -, -, -, -, -, rfl⟩ := hL4
    dsimp only [List.append, List.cons_append, List.nil_append]
    refine zw rfl (WrA.st (tyrow rfl) rfl) ?_
    rintro _ _ _ ⟨rfl, rfl, rfl⟩
    refine yS ?_; refine zN (zT (XA.ret ?_))
    rw [← hok2.mach.cells] at hvc
    exact bodyA.ret (ResA.ct rfl rfl rfl (Ld.atBlk (tyrow rfl) rfl zL rfl (by first | exact take0 (by first | rfl | assumption | (refine (ints_len _).trans ?_; assumption) | (simp [*]; (first | done | fail))) | assumption | exact take_app (by first | rfl | assumption | (refine (ints_len _).trans ?_; assumption) | (simp [*]; (first | done | fail))) | (conv => lhs; simp only [List.drop_succ_cons, List.drop_zero, List.take_succ_cons, List.take_zero])) (by first | rfl | assumption | (refine (ints_len _).trans ?_; assumption) | (simp [*]; (first | done | fail))))) (Ent.nil _) ⟨_, 0, po, co, pv2, cv2, hall, by rw [← hok2.mach.cells]; rfl, hvo, hvc, ((hs1.trans hs2).trans hs3).trans hs4, rfl⟩
  · rw [if_pos hf] at hall
    refine XA.condT rfl (by first | rfl | exact decide_eq_true hf) ?_; refine zS (zR ?_)
    refine zO rfl (Rd.bl (fun _ _ => tyrow) rfl rfl rfl) ?_; refine yA ?_; refine zw rfl (WrA.st (tyrow rfl) rfl) ?_
    rintro _ _ _ ⟨rfl, rfl, rfl⟩
    refine yS ?_; refine zN (zT (XA.ret (DA.thn_ret ?_)))
    exact bodyA.ret (ResA.ct rfl rfl rfl (Ld.atBlk (tyrow rfl) rfl zL rfl (by first | exact take0 (by first | rfl | assumption | (refine (ints_len _).trans ?_; assumption) | (simp [*]; (first | done | fail))) | assumption | exact take_app (by first | rfl | assumption | (refine (ints_len _).trans ?_; assumption) | (simp [*]; (first | done | fail))) | (conv => lhs; simp only [List.drop_succ_cons, List.drop_zero, List.take_succ_cons, List.take_zero])) (by first | rfl | assumption | (refine (ints_len _).trans ?_; assumption) | (simp [*]; (first | done | fail))))) (Ent.nil _) ⟨_, _, none, 0, none, 0, hall, by rw [saysC, saysO, saysV, if_neg hf, if_neg hf, if_neg hf]; rfl, by rw [saysO, if_neg hf]; exact PInts.nil _, by rw [saysV, if_neg hf]; exact PInts.nil _, (hs1.trans hs2).trans hs3, rfl⟩
end Go.Proofs.YtmnmcjdgnpgchaaGreat

namespace Go.Proofs.YtmnmcjdgnpgchaaGreat
open Go X
set_option maxHeartbeats 4000000
def stepsL : List LStp := [⟨3, 99, 2, 0⟩, ⟨1, 20, 0, 0⟩, ⟨2, 0, 0, 0⟩, ⟨3, 99, 1, 1⟩]
def codeLL : List In := [⟨2, 0, 0, 0⟩, ⟨1, 0, 0, 3⟩, ⟨7, 0, 0, 0⟩, ⟨13, 12, 0, 0⟩, ⟨2, 0, 0, 0⟩, ⟨1, 0, 0, 1⟩, ⟨4, 0, 0, 0⟩, ⟨9, 0, 0, 0⟩, ⟨2, 0, 0, 0⟩, ⟨11, 0, 0, 0⟩, ⟨15, 0, 0, 0⟩, ⟨14, 0, 0, 0⟩, ⟨16, 0, 0, 0⟩]
theorem checkL : checkP progL = 0 := by decide +kernel
theorem codeLe : codeOf progL = codeLL := by decide +kernel
theorem saysL : (lifeAll codeLL [] (stepsL ++ [⟨1, 99, 0, 0⟩]) (L0 1)).2 = 0 ∧ nowC (lifeAll codeLL [] (stepsL ++ [⟨1, 99, 0, 0⟩]) (L0 1)).1.b = 0 ∧ (lifeAll codeLL [] (stepsL ++ [⟨1, 99, 0, 0⟩]) (L0 1)).1.b.out = [1, 2, 3] ∧ (lifeAll codeLL [] (stepsL ++ [⟨1, 99, 0, 0⟩]) (L0 1)).1.b.m.cells = [3] := by
  refine ⟨?_, ?_, ?_, ?_⟩ <;> decide +kernel
set_option maxRecDepth 20000 in
theorem lifebegun_a (σ : PH) : CallsA Tryz.prog 6 #[] σ [] (RetA fun v σ' Γ' => v = .bool true ∧ σ.sub σ' ∧ Γ' = []) := by
  obtain ⟨q1, q2, q3, q4⟩ := saysL
  refine enterA0 Tryz.func6 rfl rfl rfl ?_; refine zS (zR (yS ?_)); refine zN (zT (zS (zR ?_))); refine zw rfl (WrA.cE (counter_a σ) rfl) ?_
  rintro _ σ1 _ ⟨_, ⟨cs, rfl, hp, hs1, rfl⟩, rfl⟩
  refine XOA.cl ?_
  have hp0 := hp
  obtain ⟨vs, bs, rfl, hv, hb⟩ := hp
  obtain ⟨pv, cv, rfl, -, -⟩ := hv.shape
  obtain ⟨pb0, cb, rfl, -, -⟩ := hb.shape
  (iterate 4 (refine zO rfl (Rd.bl (fun _ _ => tyrow) rfl rfl rfl) ?_)); refine zw rfl (WrA.bs (fun _ _ => tyrow) rfl rfl rfl rfl rfl) ?_
  rintro _ _ _ ⟨g9, rfl, rfl, rfl⟩
  refine XOA.frz (R := blk g9 _ 45) zL blk_frz blk_frz_mono ?_
  rintro σ2 ⟨⟩ hr9 hs2
  have hsl : PSl 4 rLStp σ2 (.slice (some ⟨g9, 0, none⟩) 4 4) stepsL := by
    have z : ∀ a b c d : Int, c < 9223372036854775808 → 0 ≤ d → d < 18446744073709551616 → rLStp σ2 [i64 a, i64 b, i64 c, .int .u64 d] ⟨a, b, c, d⟩ := fun a b c d h1 h2 h3 => ⟨rfl, h1, h2, h3⟩
    exact Rows_.psl (((((Rows_.nil 4 rLStp σ2).snoc rfl (z 3 99 2 0 (by decide) (by decide) (by decide))).snoc rfl (z 1 20 0 0 (by decide) (by decide) (by decide))).snoc rfl (z 2 0 0 0 (by decide) (by decide) (by decide))).snoc rfl (z 3 99 1 1 (by decide) (by decide) (by decide))) rfl ⟨Nat.le_refl _, by simp [maxLen], rfl, fun _ => ⟨g9, 0, rfl, hr9⟩⟩
  have hrun := runlife_a σ2 _ progL (.slice none 0 0) [] _ stepsL 99 (hp0.mono hs2) (PInts.nil _) hsl (by decide) (by decide +kernel) (by rw [codeLe]; decide) checkL (by decide)
  rw [codeLe, show (sizes progL.vars).toNat = 1 from rfl] at hrun
  refine zw rfl (WrA.cE (hrun) rfl) ?_
  rintro _ σ3 _ ⟨_, ⟨L, f, po, co, pv2, cv2, hall, rfl, hvo, hvc, hs3, rfl⟩, rfl⟩
  refine XOA.cl ?_
  rw [hall] at q1 q2 q3 q4
  dsimp only at q1 q2 q3 q4
  subst q1
  have eC : saysC L 0 = 0 := q2
  have eO : saysO L 0 = [1, 2, 3] := q3
  have eV : saysV L 0 = [3] := q4
  rw [eO] at hvo
  rw [eV] at hvc
  rw [eC, eO, eV]
  refine yA ?_; refine zO rfl (Rd.extract rfl rfl) ?_; refine zO rfl (Rd.extract rfl rfl) ?_; refine zw rfl (WrA.alloc (tyrow rfl)) ?_
  rintro _ _ _ ⟨g1, rfl, rfl, rfl⟩
  refine zw rfl (WrA.st (tyrow rfl) rfl) ?_
  rintro _ _ _ ⟨rfl, rfl, rfl⟩
  refine yS ?_; refine zN (zT (zS (zR (yA ?_)))); refine yE ?_; refine yA ?_
  first | refine gV ?_ | refine zH ?_
  first | refine gB ?_ | refine zH ?_
  first | refine gE ?_ | refine zH ?_
  refine zO rfl zP ?_; refine yA ?_
  first | refine gV ?_ | refine zH ?_
  first | refine gB ?_ | refine zH ?_
  first | refine XOA.wanted rfl rfl ?_ | refine XOA.wq rfl rfl ?_
  refine zw rfl (X.WrA.bs (fun _ _ => tyrow) rfl rfl rfl rfl rfl) ?_
  rintro _ _ _ ⟨g23, rfl, rfl, rfl⟩
  refine XOA.frz (R := blk g23 _ 2) zL blk_frz blk_frz_mono ?_
  rintro σ4 ⟨⟩ hr23 hs4
  have h123 : PInts σ4 (.slice (some ⟨g23, 0, none⟩) 3 3) [1, 2, 3] := ⟨_, _, rfl, Nat.le_refl _, by simp [maxLen], fun _ => ⟨g23, 0, rfl, hr23⟩⟩
  first | refine XOA.wanted rfl rfl ?_ | refine XOA.wq rfl rfl ?_
  refine yC (slongs_a σ4 _ _ _ _ (hvo.mono hs4) h123) ?_
  rw [show decide (([1, 2, 3] : List Int) = [1, 2, 3]) = true from rfl]
  refine zO rfl zP ?_; refine yA ?_
  first | refine gV ?_ | refine zH ?_
  first | refine gB ?_ | refine zH ?_
  first | refine XOA.wanted rfl rfl ?_ | refine XOA.wq rfl rfl ?_
  refine zw rfl (X.WrA.bs1 (tyrow rfl) rfl (tyrow rfl)) ?_
  rintro _ _ _ ⟨g29, rfl, rfl, rfl⟩
  refine XOA.frz (R := blk g29 _ 2) zL blk_frz blk_frz_mono ?_
  rintro σ5 ⟨⟩ hr29 hs5
  have h3 : PInts σ5 (.slice (some ⟨g29, 0, none⟩) 1 1) [3] := ⟨_, _, rfl, Nat.le_refl _, by simp [maxLen], fun _ => ⟨g29, 0, rfl, hr29⟩⟩
  first | refine XOA.wanted rfl rfl ?_ | refine XOA.wq rfl rfl ?_
  refine yC (slongs_a σ5 _ _ _ _ (hvc.mono (hs4.trans hs5)) h3) ?_
  rw [show decide (([3] : List Int) = [3]) = true from rfl]
  refine zO rfl zP ?_; refine yS ?_; refine zN (zT (XA.ret ?_))
  exact bodyA.ret (ResA.one rfl rfl) (Ent.nil _) ⟨rfl, (((hs1.trans hs2).trans hs3).trans hs4).trans hs5, rfl⟩
set_option maxRecDepth 20000 in
theorem greatlife_a (σ : PH) (cs : List Value) (p : Pr) (iv : Value) (inp : List Int) (lv : Value) (l : List LStp) (hp : PrAt σ cs p) (hi : PInts σ iv inp) (hl : PSl 4 rLStp σ lv l) :
    CallsA Tryz.prog 7 #[.agg cs.toArray, iv, lv] σ [] (RetA fun v σ' Γ' => ∃ b, v = .bool b ∧ (b = false → Small p ∧ inp.length ≤ 100 ∧ l.length ≤ 60) ∧ σ = σ' ∧ Γ' = []) := by
  have hp0 := hp
  obtain ⟨vs, bs, rfl, hv, hb⟩ := hp
  obtain ⟨pv, cv, rfl, -, -⟩ := hv.shape
  obtain ⟨pb0, cb, rfl, -, -⟩ := hb.shape
  obtain ⟨pl, cl, rfl, hll, hlm⟩ := hl.shape
  obtain ⟨pi0, ci0, rfl, hil, him⟩ := hi.shape
  simp only [maxLen] at hlm him
  refine enterA3 Tryz.func7 rfl rfl rfl ?_; refine zS (zR ?_); refine zw rfl WrA.bx ?_
  rintro _ _ _ ⟨g3, rfl, rfl, rfl⟩
  refine yS ?_; refine zN (zT (zS (zR (yS ?_)))); refine zN (zT (zS (zS (zR (yS ?_))))); refine zN (zT (XA.block ?_))
  refine XA.gen [(1, _), (2, _), (3, _), (6, _), (7, _), (8, _)] ⟨(by with_reducible (conv => lhs; whnf)), (by with_reducible (conv => lhs; whnf)), (by with_reducible (conv => lhs; whnf)), (by with_reducible (conv => lhs; whnf)), (by with_reducible (conv => lhs; whnf)), (by with_reducible (conv => lhs; whnf)), trivial⟩ (fun δ => ?_)
  dsimp only [List.foldl]
  refine XA.loop [(7, 39)] (fun x : Nat × Nat => [(8, i64 x.1), (7, i64 x.2)]) (fun x σ' Γ' => σ = σ' ∧ x.1 ≤ l.length ∧ x.1 ≤ 200 ∧ x.2 ≤ 3000 * x.1 ∧ Γ' = [blk g3 [.slice pv p.vars.length cv, .slice pb0 p.body.length cb] 25]) (fun x => l.length - x.1) (0, 0) (by exact ⟨rfl, rfl, trivial⟩) (Δ0 := _) ?_ (⟨rfl, Nat.zero_le _, by decide, Nat.zero_le _, rfl⟩) ?_
  · exact zE
  rintro ⟨i, a⟩ δ _ _ ⟨rfl, hin, hi2, hia, rfl⟩
  dsimp only [ovr, List.foldl]
  have hin : i ≤ l.length := hin
  have hi2 : i ≤ 200 := hi2
  have hia : a ≤ 3000 * i := hia
  by_cases hlt : i < l.length
  · by_cases h200 : i < 200
    · obtain ⟨x, hx⟩ : ∃ x, l[i]? = some x := ⟨_, List.getElem?_eq_getElem hlt⟩
      obtain ⟨gr, orow, row, rfl, ⟨hrx, -⟩, hrl, hrow⟩ := hl.at hx
      obtain ⟨kd, n, K, m⟩ := x
      simp only at hrx
      subst hrx
      have hrow1 : PRow σ gr (orow + i * 4 + 1) [i64 n] := hrow.sub (j := 1) rfl
      by_cases hn0 : 0 < n
      · by_cases hn1 : n ≤ 3000
        · obtain ⟨n', rfl⟩ : ∃ j : Nat, n = j := ⟨n.toNat, by omega⟩
          refine zS (zS (zR (yA ?_))); refine yA ?_; refine zO rfl (Rd.lenSlice (tyrow rfl) rfl rfl) ?_; refine zO rfl (Rd.lss rfl rfl) ?_; refine yA ?_
          first | refine gA ?_ | refine zH ?_
          first | (refine zG ?_; refine zO rfl (Rd.lss rfl rfl) ?_) | refine zH ?_
          refine zO rfl zP ?_; refine zN (zT (XA.condT rfl (by first | rfl | exact decide_eq_true (by omega)) ?_)); refine XA.skip (zT (zS (XA.block (zS (zR (yA ?_)))))); refine yA ?_; refine zO rfl (Rd.ixS rfl rfl) ?_; refine yV ?_; refine yB ?_
          refine zO rfl (Rd.gtr rfl rfl) ?_; refine yA ?_
          first | refine gA ?_ | refine zH ?_
          first | refine gA ?_ | refine zH ?_
          first | (refine zG ?_; refine zO rfl (Rd.ixS rfl rfl) ?_) | refine zH ?_
          first | refine gV ?_ | refine zH ?_
          first | refine gB ?_ | refine zH ?_
          first | (refine zG ?_; refine zO rfl (Rd.leq rfl rfl) ?_) | refine zH ?_
          refine zO rfl zP ?_; refine zN (zT (XA.condT rfl (by first | rfl | exact decide_eq_true (by omega)) ?_)); refine zR (yA ?_); refine yA ?_; refine yA ?_; refine zO rfl (Rd.ixS rfl rfl) ?_; refine yV ?_; refine yB ?_; refine zO rfl zI ?_
          refine yS ?_; refine zN (DA.inb_normal (zT (zR (yA ?_)))); refine zO rfl zI ?_; refine yS ?_; refine zN (zT ?_)
          rw [← Int.natCast_add]
          refine ⟨(Keep.upd (Keep.upd (Keep.upd (Keep.upd (Keep.upd (Keep.upd (Keep.upd (Keep.upd (Keep.upd (Keep.upd (Keep.upd (Keep.upd (Keep.upd (Keep.upd (Keep.upd (Keep.upd (Keep.upd (Keep.upd (Keep.upd (Keep.upd (Keep.upd (Keep.upd (Keep.upd (Keep.upd (Keep.upd (Keep.upd (Keep.upd (Keep.upd (Keep.upd (Keep.upd (Keep.upd (Keep.upd (Keep.upd (Keep.upd (Keep.upd (Keep.hav (Keep.refl _ _) rfl) rfl) rfl) rfl) rfl) rfl) rfl) rfl) rfl) rfl) rfl) rfl) rfl) rfl) rfl) rfl) rfl) rfl) rfl) rfl) rfl) rfl) rfl) rfl) rfl) rfl) rfl) rfl) rfl) rfl) rfl) rfl) rfl) rfl) rfl) rfl), (i + 1, a + n'), _, zM, ?_, ⟨rfl, hlt, by show i + 1 ≤ 200; omega, by show a + n' ≤ 3000 * (i + 1); omega, rfl⟩, (by simp only; omega)⟩
          · exact zE
        · skip
          refine zS (zS (zR (yA ?_))); refine yA ?_; refine zO rfl (Rd.lenSlice (tyrow rfl) rfl rfl) ?_; refine zO rfl (Rd.lss rfl rfl) ?_; refine yA ?_
          first | refine gA ?_ | refine zH ?_
          first | (refine zG ?_; refine zO rfl (Rd.lss rfl rfl) ?_) | refine zH ?_
          refine zO rfl zP ?_; refine zN (zT (XA.condT rfl (by first | rfl | exact decide_eq_true (by omega)) ?_)); refine XA.skip (zT (zS (XA.block (zS (zR (yA ?_)))))); refine yA ?_; refine zO rfl (Rd.ixS rfl rfl) ?_; refine yV ?_; refine yB ?_
          refine zO rfl (Rd.gtr rfl rfl) ?_; refine yA ?_
          first | refine gA ?_ | refine zH ?_
          first | refine gA ?_ | refine zH ?_
          first | (refine zG ?_; refine zO rfl (Rd.ixS rfl rfl) ?_) | refine zH ?_
          first | refine gV ?_ | refine zH ?_
          first | refine gB ?_ | refine zH ?_
          first | (refine zG ?_; refine zO rfl (Rd.leq rfl rfl) ?_) | refine zH ?_
          refine zO rfl zP ?_; refine zN (zT (XA.condF rfl (by first | rfl | exact decide_eq_false (by omega)) ?_)); refine XA.skip (DA.inb_normal (zT (zR (yA ?_)))); refine zO rfl zI ?_; refine yS ?_; refine zN (zT ?_)
          refine ⟨(Keep.upd (Keep.upd (Keep.upd (Keep.upd (Keep.upd (Keep.upd (Keep.upd (Keep.upd (Keep.upd (Keep.upd (Keep.upd (Keep.upd (Keep.upd (Keep.upd (Keep.upd (Keep.upd (Keep.upd (Keep.upd (Keep.upd (Keep.upd (Keep.upd (Keep.upd (Keep.upd (Keep.upd (Keep.upd (Keep.upd (Keep.upd (Keep.hav (Keep.refl _ _) rfl) rfl) rfl) rfl) rfl) rfl) rfl) rfl) rfl) rfl) rfl) rfl) rfl) rfl) rfl) rfl) rfl) rfl) rfl) rfl) rfl) rfl) rfl) rfl) rfl) rfl) rfl) rfl), (i + 1, a), _, zM, ?_, ⟨rfl, hlt, by show i + 1 ≤ 200; omega, by show a ≤ 3000 * (i + 1); omega, rfl⟩, (by simp only; omega)⟩
          · exact zE
      · skip
        refine zS (zS (zR (yA ?_))); refine yA ?_; refine zO rfl (Rd.lenSlice (tyrow rfl) rfl rfl) ?_; refine zO rfl (Rd.lss rfl rfl) ?_; refine yA ?_
        first | refine gA ?_ | refine zH ?_
        first | (refine zG ?_; refine zO rfl (Rd.lss rfl rfl) ?_) | refine zH ?_
        refine zO rfl zP ?_; refine zN (zT (XA.condT rfl (by first | rfl | exact decide_eq_true (by omega)) ?_)); refine XA.skip (zT (zS (XA.block (zS (zR (yA ?_)))))); refine yA ?_; refine zO rfl (Rd.ixS rfl rfl) ?_; refine yV ?_; refine yB ?_
        refine zO rfl (Rd.gtr rfl rfl) ?_; refine yA ?_
        first | refine gA ?_ | refine zH ?_
        first | refine gA ?_ | refine zH ?_
        first | (refine zG ?_; refine zO rfl (Rd.ixS rfl rfl) ?_) | refine zH ?_
        first | refine gV ?_ | refine zH ?_
        first | refine gB ?_ | refine zH ?_
        first | (refine zG ?_; refine zO rfl (Rd.leq rfl rfl) ?_) | refine zH ?_
        refine zO rfl zP ?_; refine zN (zT (XA.condF rfl (by first | rfl | exact decide_eq_false (by omega)) ?_)); refine XA.skip (DA.inb_normal (zT (zR (yA ?_)))); refine zO rfl zI ?_; refine yS ?_; refine zN (zT ?_)
        refine ⟨(Keep.upd (Keep.upd (Keep.upd (Keep.upd (Keep.upd (Keep.upd (Keep.upd (Keep.upd (Keep.upd (Keep.upd (Keep.upd (Keep.upd (Keep.upd (Keep.upd (Keep.upd (Keep.upd (Keep.upd (Keep.upd (Keep.upd (Keep.upd (Keep.upd (Keep.upd (Keep.upd (Keep.upd (Keep.upd (Keep.upd (Keep.upd (Keep.hav (Keep.refl _ _) rfl) rfl) rfl) rfl) rfl) rfl) rfl) rfl) rfl) rfl) rfl) rfl) rfl) rfl) rfl) rfl) rfl) rfl) rfl) rfl) rfl) rfl) rfl) rfl) rfl) rfl) rfl) rfl), (i + 1, a), _, zM, ?_, ⟨rfl, hlt, by show i + 1 ≤ 200; omega, by show a ≤ 3000 * (i + 1); omega, rfl⟩, (by simp only; omega)⟩
        · exact zE
    · skip
      refine zS (zS (zR (yA ?_))); refine yA ?_; refine zO rfl (Rd.lenSlice (tyrow rfl) rfl rfl) ?_; refine zO rfl (Rd.lss rfl rfl) ?_; refine yA ?_
      first | refine gA ?_ | refine zH ?_
      first | (refine zG ?_; refine zO rfl (Rd.lss rfl rfl) ?_) | refine zH ?_
      refine zO rfl zP ?_; refine zN (zT (XA.condF rfl (by first | rfl | exact decide_eq_false (by omega)) ?_)); refine XA.exit (DA.thn_exit (DA.thn_exit (DA.inb_same (zT (zS (zR (zO rfl (Rd.ldA rfl) ?_)))))))
      refine zw rfl (WrA.cE (great_a σ _ p hp0) rfl) ?_
      rintro _ _ _ ⟨_, ⟨b, rfl, hsm, rfl, rfl⟩, rfl⟩
      refine XOA.cl ?_
      cases b with
      | true =>
        refine yA ?_
        first | refine gA ?_ | refine zH ?_
        first | (refine zG ?_; refine zO rfl (Rd.lenSlice (tyrow rfl) rfl rfl) ?_) | refine zH ?_
        first | (refine zG ?_; refine zO rfl (Rd.gtr rfl rfl) ?_) | refine zH ?_
        refine zO rfl zP ?_; refine yA ?_
        first | refine gA ?_ | refine zH ?_
        first | (refine zG ?_; refine zO rfl (Rd.lenSlice (tyrow rfl) rfl rfl) ?_) | refine zH ?_
        first | (refine zG ?_; refine zO rfl (Rd.gtr rfl rfl) ?_) | refine zH ?_
        refine zO rfl zP ?_; refine yA ?_
        first | refine gA ?_ | refine zH ?_
        first | (refine zG ?_; refine zO rfl (Rd.gtr rfl rfl) ?_) | refine zH ?_
        refine zO rfl zP ?_; refine yS ?_; refine zN (zT (XA.ret ?_))
        exact bodyA.ret (ResA.one rfl rfl) (Ent.nil _) ⟨true, rfl, fun h => (by cases h), rfl, rfl⟩
      | false =>
        by_cases z0 : 100 < inp.length
        · skip
          refine yA ?_
          first | refine gA ?_ | refine zH ?_
          first | (refine zG ?_; refine zO rfl (Rd.lenSlice (tyrow rfl) rfl rfl) ?_) | refine zH ?_
          first | (refine zG ?_; refine zO rfl (Rd.gtr rfl rfl) ?_) | refine zH ?_
          refine zO rfl zP ?_; refine yA ?_
          first | refine gA ?_ | refine zH ?_
          first | (refine zG ?_; refine zO rfl (Rd.lenSlice (tyrow rfl) rfl rfl) ?_) | refine zH ?_
          first | (refine zG ?_; refine zO rfl (Rd.gtr rfl rfl) ?_) | refine zH ?_
          refine zO rfl zP ?_; refine yA ?_
          first | refine gA ?_ | refine zH ?_
          first | (refine zG ?_; refine zO rfl (Rd.gtr rfl rfl) ?_) | refine zH ?_
          refine zO rfl zP ?_; refine yS ?_; refine zN (zT (XA.ret ?_))
          exact bodyA.ret (ResA.one rfl rfl) (Ent.nil _) ⟨true, rfl, fun h => (by cases h), rfl, rfl⟩
        by_cases z1 : 60 < l.length
        · skip
          refine yA ?_
          first | refine gA ?_ | refine zH ?_
          first | (refine zG ?_; refine zO rfl (Rd.lenSlice (tyrow rfl) rfl rfl) ?_) | refine zH ?_
          first | (refine zG ?_; refine zO rfl (Rd.gtr rfl rfl) ?_) | refine zH ?_
          refine zO rfl zP ?_; refine yA ?_
          first | refine gA ?_ | refine zH ?_
          first | (refine zG ?_; refine zO rfl (Rd.lenSlice (tyrow rfl) rfl rfl) ?_) | refine zH ?_
          first | (refine zG ?_; refine zO rfl (Rd.gtr rfl rfl) ?_) | refine zH ?_
          refine zO rfl zP ?_; refine yA ?_
          first | refine gA ?_ | refine zH ?_
          first | (refine zG ?_; refine zO rfl (Rd.gtr rfl rfl) ?_) | refine zH ?_
          refine zO rfl zP ?_; refine yS ?_; refine zN (zT (XA.ret ?_))
          exact bodyA.ret (ResA.one rfl rfl) (Ent.nil _) ⟨true, rfl, fun h => (by cases h), rfl, rfl⟩
        refine yA ?_
        first | refine gA ?_ | refine zH ?_
        first | (refine zG ?_; refine zO rfl (Rd.lenSlice (tyrow rfl) rfl rfl) ?_) | refine zH ?_
        first | (refine zG ?_; refine zO rfl (Rd.gtr rfl rfl) ?_) | refine zH ?_
        refine zO rfl zP ?_; refine yA ?_
        first | refine gA ?_ | refine zH ?_
        first | (refine zG ?_; refine zO rfl (Rd.lenSlice (tyrow rfl) rfl rfl) ?_) | refine zH ?_
        first | (refine zG ?_; refine zO rfl (Rd.gtr rfl rfl) ?_) | refine zH ?_
        refine zO rfl zP ?_; refine yA ?_
        first | refine gA ?_ | refine zH ?_
        first | (refine zG ?_; refine zO rfl (Rd.gtr rfl rfl) ?_) | refine zH ?_
        refine zO rfl zP ?_; refine yS ?_; refine zN (zT (XA.ret ?_))
        exact bodyA.ret (ResA.one rfl rfl) (Ent.nil _) ⟨_, rfl, fun _ => ⟨hsm rfl, by omega, by omega⟩, rfl, rfl⟩
  · skip
    refine zS (zS (zR (yA ?_))); refine yA ?_; refine zO rfl (Rd.lenSlice (tyrow rfl) rfl rfl) ?_; refine zO rfl (Rd.lss rfl rfl) ?_; refine yA ?_
    first | refine gA ?_ | refine zH ?_
    first | (refine zG ?_; refine zO rfl (Rd.lss rfl rfl) ?_) | refine zH ?_
    refine zO rfl zP ?_; refine zN (zT (XA.condF rfl (by first | rfl | exact decide_eq_false (by omega)) ?_)); refine XA.exit (DA.thn_exit (DA.thn_exit (DA.inb_same (zT (zS (zR (zO rfl (Rd.ldA rfl) ?_)))))))
    refine zw rfl (WrA.cE (great_a σ _ p hp0) rfl) ?_
    rintro _ _ _ ⟨_, ⟨b, rfl, hsm, rfl, rfl⟩, rfl⟩
    refine XOA.cl ?_
    cases b with
    | true =>
      refine yA ?_
      first | refine gA ?_ | refine zH ?_
      first | (refine zG ?_; refine zO rfl (Rd.lenSlice (tyrow rfl) rfl rfl) ?_) | refine zH ?_
      first | (refine zG ?_; refine zO rfl (Rd.gtr rfl rfl) ?_) | refine zH ?_
      refine zO rfl zP ?_; refine yA ?_
      first | refine gA ?_ | refine zH ?_
      first | (refine zG ?_; refine zO rfl (Rd.lenSlice (tyrow rfl) rfl rfl) ?_) | refine zH ?_
      first | (refine zG ?_; refine zO rfl (Rd.gtr rfl rfl) ?_) | refine zH ?_
      refine zO rfl zP ?_; refine yA ?_
      first | refine gA ?_ | refine zH ?_
      first | (refine zG ?_; refine zO rfl (Rd.gtr rfl rfl) ?_) | refine zH ?_
      refine zO rfl zP ?_; refine yS ?_; refine zN (zT (XA.ret ?_))
      exact bodyA.ret (ResA.one rfl rfl) (Ent.nil _) ⟨true, rfl, fun h => (by cases h), rfl, rfl⟩
    | false =>
      by_cases z0 : 100 < inp.length
      · skip
        refine yA ?_
        first | refine gA ?_ | refine zH ?_
        first | (refine zG ?_; refine zO rfl (Rd.lenSlice (tyrow rfl) rfl rfl) ?_) | refine zH ?_
        first | (refine zG ?_; refine zO rfl (Rd.gtr rfl rfl) ?_) | refine zH ?_
        refine zO rfl zP ?_; refine yA ?_
        first | refine gA ?_ | refine zH ?_
        first | (refine zG ?_; refine zO rfl (Rd.lenSlice (tyrow rfl) rfl rfl) ?_) | refine zH ?_
        first | (refine zG ?_; refine zO rfl (Rd.gtr rfl rfl) ?_) | refine zH ?_
        refine zO rfl zP ?_; refine yA ?_
        first | refine gA ?_ | refine zH ?_
        first | (refine zG ?_; refine zO rfl (Rd.gtr rfl rfl) ?_) | refine zH ?_
        refine zO rfl zP ?_; refine yS ?_; refine zN (zT (XA.ret ?_))
        exact bodyA.ret (ResA.one rfl rfl) (Ent.nil _) ⟨true, rfl, fun h => (by cases h), rfl, rfl⟩
      by_cases z1 : 60 < l.length
      · skip
        refine yA ?_
        first | refine gA ?_ | refine zH ?_
        first | (refine zG ?_; refine zO rfl (Rd.lenSlice (tyrow rfl) rfl rfl) ?_) | refine zH ?_
        first | (refine zG ?_; refine zO rfl (Rd.gtr rfl rfl) ?_) | refine zH ?_
        refine zO rfl zP ?_; refine yA ?_
        first | refine gA ?_ | refine zH ?_
        first | (refine zG ?_; refine zO rfl (Rd.lenSlice (tyrow rfl) rfl rfl) ?_) | refine zH ?_
        first | (refine zG ?_; refine zO rfl (Rd.gtr rfl rfl) ?_) | refine zH ?_
        refine zO rfl zP ?_; refine yA ?_
        first | refine gA ?_ | refine zH ?_
        first | (refine zG ?_; refine zO rfl (Rd.gtr rfl rfl) ?_) | refine zH ?_
        refine zO rfl zP ?_; refine yS ?_; refine zN (zT (XA.ret ?_))
        exact bodyA.ret (ResA.one rfl rfl) (Ent.nil _) ⟨true, rfl, fun h => (by cases h), rfl, rfl⟩
      refine yA ?_
      first | refine gA ?_ | refine zH ?_
      first | (refine zG ?_; refine zO rfl (Rd.lenSlice (tyrow rfl) rfl rfl) ?_) | refine zH ?_
      first | (refine zG ?_; refine zO rfl (Rd.gtr rfl rfl) ?_) | refine zH ?_
      refine zO rfl zP ?_; refine yA ?_
      first | refine gA ?_ | refine zH ?_
      first | (refine zG ?_; refine zO rfl (Rd.lenSlice (tyrow rfl) rfl rfl) ?_) | refine zH ?_
      first | (refine zG ?_; refine zO rfl (Rd.gtr rfl rfl) ?_) | refine zH ?_
      refine zO rfl zP ?_; refine yA ?_
      first | refine gA ?_ | refine zH ?_
      first | (refine zG ?_; refine zO rfl (Rd.gtr rfl rfl) ?_) | refine zH ?_
      refine zO rfl zP ?_; refine yS ?_; refine zN (zT (XA.ret ?_))
      exact bodyA.ret (ResA.one rfl rfl) (Ent.nil _) ⟨_, rfl, fun _ => ⟨hsm rfl, by omega, by omega⟩, rfl, rfl⟩
end Go.Proofs.YtmnmcjdgnpgchaaGreat

namespace Go.Proofs.YtmnmcjdgnpgchaaGreat
open Go X
set_option maxHeartbeats 4000000
theorem nowe_l (σ : PH) (gx db pb : Nat) (pc : Option Addr) (cc nc : Nat) (p : Pr) (inp : List Int) (L : Li) (k : Nat) (g mb sb : Nat) (d : DiskS) (s : StS) (pi : Option Addr) (ci : Nat) (pj : Option Addr) (cj : Nat) (h : LiOk p inp L k) (hk : k ≤ 1000000) (hn : nc = L.b.m.cells.length) :
    CallsA Tryz.prog 16 #[ptr gx] σ [blk gx [ptr g, ptr db, ptr pb, .slice pc (codeOf p).length cc, .slice pj inp.length cj, i64 nc] 65, blk g [ptr mb, .slice pc (codeOf p).length cc, .slice pi inp.length ci, ptr pb, i64 0, .bool false] 129, Wld mb sb db d s L.M, Prin pb L.b.out L.b.wrong] (RetA fun v σ' Γ' => ∃ po co pv cv, v = .agg #[i64 (nowC L.b), .slice po L.b.out.length co, .slice pv nc cv] ∧ PInts σ' (.slice po L.b.out.length co) L.b.out ∧ PInts σ' (.slice pv nc cv) L.b.m.cells ∧ σ.sub σ' ∧ Γ' = [blk gx [ptr g, ptr db, ptr pb, .slice pc (codeOf p).length cc, .slice pj inp.length cj, i64 nc] 65, blk g [ptr mb, .slice pc (codeOf p).length cc, .slice pi inp.length ci, ptr pb, i64 0, .bool false] 129, Wld mb sb db d s L.M, Prin pb L.b.out L.b.wrong]) := by
  have hol := h.mach.ol
  refine enterA1 Tryz.func16 rfl rfl rfl ?_; refine zS (zR ?_); refine zw rfl (WrA.alloc (tyrow rfl)) ?_
  rintro _ _ _ ⟨g2, rfl, rfl, rfl⟩
  refine zN (zT (zS ?_))
  refine XA.draw (by kernel_rfl) _ _ [8, 9] [(0, .pu), (1, .pu), (2, .pu), (3, .rd), (4, .pu), (5, .pu), (6, .pu), (7, .rd), (8, .wr), (9, .wr)] (by kernel_rfl) (PH.sub.refl _) (Ent.sel (R := blk gx _ _) zL (Ent.nil _)) ?_
  refine zu rfl rfl Rd.mv ?_; refine zu rfl rfl (Rd.nilCheck rfl) ?_; refine zu rfl rfl (Rd.fA rfl) ?_; refine XPA.rd rfl rfl Gd.free (Rd.ldC rfl (tyrow rfl) rfl) ?_; refine zu rfl rfl Rd.mv ?_; refine zu rfl rfl (Rd.nilCheck rfl) ?_; refine zu rfl rfl (Rd.fA rfl) ?_
  refine XPA.rd rfl rfl Gd.free (Rd.ldC rfl (tyrow rfl) rfl) ?_
  refine XPA.wrZ0 rfl rfl Gd.free (by kernel_rfl) (WrA.cE (result_m σ g mb sb db pb (.slice pc (codeOf p).length cc) (.slice pi inp.length ci) 0 false d s L.M L.b.m L.b.out L.b.wrong nc h.mach.sh (by omega) (by omega)) rfl) ?_
  rintro _ σ2 _ ⟨_, ⟨po, co, pv, cv, rfl, hvo, hvc, hs2, rfl⟩, rfl⟩
  refine XPA.cl ?_
  rw [List.take_of_length_le (by omega)] at hvc
  refine XPA.wrZ0 rfl rfl Gd.free (by kernel_rfl) (WrA.st (tyrow rfl) rfl) ?_
  rintro _ _ _ ⟨rfl, rfl, rfl⟩
  refine XPA.nil ?_; refine zT (XA.ret ?_)
  exact bodyA.ret (ResA.cell1 rfl rfl (Ld.atBlk (tyrow rfl) rfl zL rfl (by first | exact take0 (by first | rfl | assumption | (refine (ints_len _).trans ?_; assumption) | (simp [*]; (first | done | fail))) | assumption | exact take_app (by first | rfl | assumption | (refine (ints_len _).trans ?_; assumption) | (simp [*]; (first | done | fail))) | (conv => lhs; simp only [List.drop_succ_cons, List.drop_zero, List.take_succ_cons, List.take_zero])) (by first | rfl | assumption | (refine (ints_len _).trans ?_; assumption) | (simp [*]; (first | done | fail))))) zE ⟨po, co, pv, cv, rfl, hvo, hvc, hs2, rfl⟩
end Go.Proofs.YtmnmcjdgnpgchaaGreat

namespace Go.Proofs.YtmnmcjdgnpgchaaGreat
open Go X
section
variable {C : List In} {inp : List Int}
theorem doIn_out (k : Bool) (x : In) (b : Be) : b.out <+: (doIn inp k x b).out := by
  obtain ⟨⟨nx, st, rd, on, sta, ce⟩, ke, ou, wr⟩ := b
  rw [doIn]
  by_cases q0 : x.op = 1
  · simp only [if_pos q0]
    first | exact List.prefix_rfl | (repeat' split) <;> first | exact List.prefix_rfl | exact List.prefix_append _ _
  by_cases q1 : x.op = 2
  · simp only [if_neg q0, if_pos q1]
    first | exact List.prefix_rfl | (repeat' split) <;> first | exact List.prefix_rfl | exact List.prefix_append _ _
  by_cases q2 : x.op = 3
  · simp only [if_neg q0, if_neg q1, if_pos q2]
    first | exact List.prefix_rfl | (repeat' split) <;> first | exact List.prefix_rfl | exact List.prefix_append _ _
  by_cases q3 : 4 ≤ x.op ∧ x.op ≤ 8
  · simp only [if_neg q0, if_neg q1, if_neg q2, if_pos q3]
    first | exact List.prefix_rfl | (repeat' split) <;> first | exact List.prefix_rfl | exact List.prefix_append _ _
  by_cases q4 : x.op = 9
  · simp only [if_neg q0, if_neg q1, if_neg q2, if_neg q3, if_pos q4]
    first | exact List.prefix_rfl | (repeat' split) <;> first | exact List.prefix_rfl | exact List.prefix_append _ _
  by_cases q5 : x.op = 10
  · simp only [if_neg q0, if_neg q1, if_neg q2, if_neg q3, if_neg q4, if_pos q5]
    first | exact List.prefix_rfl | (repeat' split) <;> first | exact List.prefix_rfl | exact List.prefix_append _ _
  by_cases q6 : x.op = 11
  · simp only [if_neg q0, if_neg q1, if_neg q2, if_neg q3, if_neg q4, if_neg q5, if_pos q6]
    first | exact List.prefix_rfl | (repeat' split) <;> first | exact List.prefix_rfl | exact List.prefix_append _ _
  by_cases q7 : x.op = 12
  · simp only [if_neg q0, if_neg q1, if_neg q2, if_neg q3, if_neg q4, if_neg q5, if_neg q6, if_pos q7]
    first | exact List.prefix_rfl | (repeat' split) <;> first | exact List.prefix_rfl | exact List.prefix_append _ _
  by_cases q8 : x.op = 13
  · simp only [if_neg q0, if_neg q1, if_neg q2, if_neg q3, if_neg q4, if_neg q5, if_neg q6, if_neg q7, if_pos q8]
    first | exact List.prefix_rfl | (repeat' split) <;> first | exact List.prefix_rfl | exact List.prefix_append _ _
  by_cases q9 : x.op = 14
  · simp only [if_neg q0, if_neg q1, if_neg q2, if_neg q3, if_neg q4, if_neg q5, if_neg q6, if_neg q7, if_neg q8, if_pos q9]
    first | exact List.prefix_rfl | (repeat' split) <;> first | exact List.prefix_rfl | exact List.prefix_append _ _
  by_cases q10 : x.op = 15
  · simp only [if_neg q0, if_neg q1, if_neg q2, if_neg q3, if_neg q4, if_neg q5, if_neg q6, if_neg q7, if_neg q8, if_neg q9, if_pos q10]
    first | exact List.prefix_rfl | (repeat' split) <;> first | exact List.prefix_rfl | exact List.prefix_append _ _
  by_cases q11 : x.op = 16
  · simp only [if_neg q0, if_neg q1, if_neg q2, if_neg q3, if_neg q4, if_neg q5, if_neg q6, if_neg q7, if_neg q8, if_neg q9, if_neg q10, if_pos q11]
    first | exact List.prefix_rfl | (repeat' split) <;> first | exact List.prefix_rfl | exact List.prefix_append _ _
  simp only [if_neg q0, if_neg q1, if_neg q2, if_neg q3, if_neg q4, if_neg q5, if_neg q6, if_neg q7, if_neg q8, if_neg q9, if_neg q10, if_neg q11]
  exact List.prefix_rfl
end
end Go.Proofs.YtmnmcjdgnpgchaaGreat

namespace Go.Proofs.YtmnmcjdgnpgchaaGreat
open Go X
set_option maxHeartbeats 1000000
theorem iteM {α β : Type} {c : Prop} [Decidable c] (f : α → β) {a b a' b' : α} (ha : f a = f a') (hb : f b = f b') : f (if c then a else b) = f (if c then a' else b') := by
  by_cases h : c
  · rw [if_pos h, if_pos h]; exact ha
  · rw [if_neg h, if_neg h]; exact hb
theorem doIn_m (inp : List Int) (k k' : Bool) (x : In) (m a a' : Mi) (o o' : List Int) (w w' : Bool) : (doIn inp k x ⟨m, a, o, w⟩).m = (doIn inp k' x ⟨m, a', o', w'⟩).m := by
  obtain ⟨next, stack, rd, outn, st, cells⟩ := m
  simp only [doIn]
  refine iteM Be.m rfl ?_; refine iteM Be.m rfl ?_; refine iteM Be.m ?_ ?_
  · cases stack with
    | nil => rfl
    | cons k s => exact iteM Be.m rfl rfl
  refine iteM Be.m ?_ ?_
  · rcases stack with _ | ⟨y, _ | ⟨z, s⟩⟩ <;> rfl
  refine iteM Be.m ?_ ?_
  · cases stack <;> rfl
  refine iteM Be.m ?_ ?_
  · rcases stack with _ | ⟨y, _ | ⟨z, s⟩⟩
    · rfl
    · rfl
    · exact iteM Be.m rfl rfl
  refine iteM Be.m ?_ ?_
  · cases stack with
    | nil => rfl
    | cons n s =>
      simp only
      split <;> split <;> rfl
  refine iteM Be.m (iteM Be.m rfl rfl) ?_; refine iteM Be.m ?_ ?_
  · cases stack with
    | nil => rfl
    | cons n s => exact iteM Be.m rfl rfl
  refine iteM Be.m rfl ?_; refine iteM Be.m ?_ ?_
  · cases k <;> cases k' <;> rfl
  exact iteM Be.m rfl rfl
theorem doIn_calm (inp : List Int) (k : Bool) (x : In) (m a : Mi) (o : List Int) (w : Bool) (h11 : x.op ≠ 11) : (doIn inp k x ⟨m, a, o, w⟩).out = o ∧ (doIn inp k x ⟨m, a, o, w⟩).wrong = w ∧ (doIn inp k x ⟨m, a, o, w⟩).m.outn = m.outn := by
  obtain ⟨next, stack, rd, outn, st, cells⟩ := m
  show (fun b' : Be => b'.out = o ∧ b'.wrong = w ∧ b'.m.outn = outn) _
  simp only [doIn]
  refine iteQ2 (Q := fun b' : Be => b'.out = o ∧ b'.wrong = w ∧ b'.m.outn = outn) ⟨rfl, rfl, rfl⟩ ?_; refine iteQ2 (Q := fun b' : Be => b'.out = o ∧ b'.wrong = w ∧ b'.m.outn = outn) ⟨rfl, rfl, rfl⟩ ?_; refine iteQ2 (Q := fun b' : Be => b'.out = o ∧ b'.wrong = w ∧ b'.m.outn = outn) ?_ ?_
  · cases stack with
    | nil => exact ⟨rfl, rfl, rfl⟩
    | cons k s => exact iteQ2 (Q := fun b' : Be => b'.out = o ∧ b'.wrong = w ∧ b'.m.outn = outn) ⟨rfl, rfl, rfl⟩ ⟨rfl, rfl, rfl⟩
  refine iteQ2 (Q := fun b' : Be => b'.out = o ∧ b'.wrong = w ∧ b'.m.outn = outn) ?_ ?_
  · rcases stack with _ | ⟨y, _ | ⟨z, s⟩⟩ <;> exact ⟨rfl, rfl, rfl⟩
  refine iteQ2 (Q := fun b' : Be => b'.out = o ∧ b'.wrong = w ∧ b'.m.outn = outn) ?_ ?_
  · cases stack <;> exact ⟨rfl, rfl, rfl⟩
  refine iteQ2 (Q := fun b' : Be => b'.out = o ∧ b'.wrong = w ∧ b'.m.outn = outn) ?_ ?_
  · rcases stack with _ | ⟨y, _ | ⟨z, s⟩⟩
    · exact ⟨rfl, rfl, rfl⟩
    · exact ⟨rfl, rfl, rfl⟩
    · exact iteQ2 (Q := fun b' : Be => b'.out = o ∧ b'.wrong = w ∧ b'.m.outn = outn) ⟨rfl, rfl, rfl⟩ ⟨rfl, rfl, rfl⟩
  rw [if_neg h11]
  refine iteQ2 (Q := fun b' : Be => b'.out = o ∧ b'.wrong = w ∧ b'.m.outn = outn) (iteQ2 (Q := fun b' : Be => b'.out = o ∧ b'.wrong = w ∧ b'.m.outn = outn) ⟨rfl, rfl, rfl⟩ ⟨rfl, rfl, rfl⟩) ?_; refine iteQ2 (Q := fun b' : Be => b'.out = o ∧ b'.wrong = w ∧ b'.m.outn = outn) ?_ ?_
  · cases stack with
    | nil => exact ⟨rfl, rfl, rfl⟩
    | cons k s => exact iteQ2 (Q := fun b' : Be => b'.out = o ∧ b'.wrong = w ∧ b'.m.outn = outn) ⟨rfl, rfl, rfl⟩ ⟨rfl, rfl, rfl⟩
  refine iteQ2 (Q := fun b' : Be => b'.out = o ∧ b'.wrong = w ∧ b'.m.outn = outn) ⟨rfl, rfl, rfl⟩ ?_; refine iteQ2 (Q := fun b' : Be => b'.out = o ∧ b'.wrong = w ∧ b'.m.outn = outn) ?_ ?_
  · cases k <;> exact ⟨rfl, rfl, rfl⟩
  exact iteQ2 (Q := fun b' : Be => b'.out = o ∧ b'.wrong = w ∧ b'.m.outn = outn) ⟨rfl, rfl, rfl⟩ ⟨rfl, rfl, rfl⟩
theorem doIn_print (inp : List Int) (k : Bool) (x : In) (b : Be) (h11 : x.op = 11) : doIn inp k x b = match b.m.stack with
    | [] => b
    | n :: s =>
      if b.m.outn = b.out.length then { b with m := { b.m with stack := s, outn := b.m.outn + 1 }, out := b.out ++ [n] }
      else { b with m := { b.m with stack := s, outn := b.m.outn + 1 }, wrong := b.wrong || decide (b.out.getD b.m.outn 0 ≠ n) } := by
  obtain ⟨op, a1, a2, a3⟩ := x
  simp only at h11
  subst h11
  rfl
def Calm (c : Be) : Prop := c.m.outn = c.out.length ∧ c.wrong = false
theorem doIn_follow (inp : List Int) (k : Bool) (x : In) {b c : Be} (hm : b.m = c.m) (hc : Calm c) (hw : b.wrong = false) :
    Calm (doIn inp false x c) ∧ (doIn inp k x b).m = (doIn inp false x c).m ∧ (doIn inp k x b).wrong = false ∨ ¬ (b.out = c.out ∨ (doIn inp false x c).out <+: b.out) := by
  obtain ⟨m, a, o, w⟩ := b
  obtain ⟨m', a', o', w'⟩ := c
  obtain ⟨h1, h2⟩ := hc
  simp only at hm h1 h2 hw
  subst hm h2 hw
  by_cases h11 : x.op = 11
  · have e1 := doIn_print inp k x ⟨m, a, o, false⟩ h11
    have e2 := doIn_print inp false x ⟨m, a', o', false⟩ h11
    rw [e1, e2]
    cases hs : m.stack with
    | nil => exact .inl ⟨⟨h1, rfl⟩, rfl, rfl⟩
    | cons n s =>
      simp only [hs, h1, if_true]
      by_cases ho : o = o'
      · left
        subst ho
        refine ⟨⟨by simp, rfl⟩, by simp, by simp⟩
      · by_cases hp : (o' ++ [n]) <+: o
        · left
          have hl := hp.length_le
          rw [List.length_append, List.length_singleton] at hl
          have hne : ¬ (o'.length = o.length) := by omega
          have hg : o.getD o'.length 0 = n := by
            obtain ⟨t, rfl⟩ := hp
            simp
          refine ⟨⟨by simp, rfl⟩, by rw [if_neg hne], by rw [if_neg hne, hg]; simp⟩
        · right
          rintro (q | q)
          · exact ho q
          · exact hp q
  · obtain ⟨p1, p2, p3⟩ := doIn_calm inp k x m a o false h11
    obtain ⟨q1, q2, q3⟩ := doIn_calm inp false x m a' o' false h11
    exact .inl ⟨⟨by rw [q3, q1, h1], q2⟩, doIn_m inp k false x m a a' o o' false false, p2⟩
theorem doIn_follow_out (inp : List Int) (k : Bool) (x : In) {b c : Be} (hm : b.m = c.m) (hc : Calm c) :
    (b.out = c.out → (doIn inp k x b).out = (doIn inp false x c).out) ∧ ((doIn inp false x c).out <+: b.out → (doIn inp k x b).out = b.out) := by
  obtain ⟨m, a, o, w⟩ := b
  obtain ⟨m', a', o', w'⟩ := c
  obtain ⟨h1, h2⟩ := hc
  simp only at hm h1 h2
  subst hm h2
  by_cases h11 : x.op = 11
  · have e1 := doIn_print inp k x ⟨m, a, o, w⟩ h11
    have e2 := doIn_print inp false x ⟨m, a', o', false⟩ h11
    rw [e1, e2]
    cases hs : m.stack with
    | nil => exact ⟨fun h => h, fun _ => rfl⟩
    | cons n s =>
      simp only [hs, h1, if_true]
      refine ⟨fun h => ?_, fun hp => ?_⟩
      · subst h; rw [if_pos rfl]
      · have hl := hp.length_le
        rw [List.length_append, List.length_singleton] at hl
        rw [if_neg (by omega)]
  · obtain ⟨p1, p2, p3⟩ := doIn_calm inp k x m a o w h11
    obtain ⟨q1, q2, q3⟩ := doIn_calm inp false x m a' o' false h11
    rw [p1, q1]
    exact ⟨fun h => h, fun _ => rfl⟩
section
variable {C : List In} {inp : List Int}
def tr (C : List In) (inp : List Int) (b : Be) : Nat → Be
  | 0 => b
  | n + 1 => nextB C inp false (tr C inp b n)
theorem tr_out (b : Be) : ∀ (n j : Nat), (tr C inp b n).out <+: (tr C inp b (n + j)).out
  | n, 0 => List.prefix_refl _
  | n, j + 1 => by
    refine (tr_out b n j).trans ?_
    show _ <+: (nextB C inp false (tr C inp b (n + j))).out
    rw [nextB]; split
    · rw [stepB]; split
      · exact List.prefix_refl _
      · exact doIn_out false _ (bump _)
    · exact List.prefix_refl _
theorem tr_pre (b : Be) {n k : Nat} (h : n ≤ k) : (tr C inp b n).out <+: (tr C inp b k).out := by
  obtain ⟨j, rfl⟩ := Nat.exists_eq_add_of_le h
  exact tr_out b n j
structure FarB (T : Nat → Be) (n q N : Nat) (b : Be) : Prop where
  m : b.m = (T n).m
  kept : b.kept = (T q).m
  out : b.out = (T N).out
  wrong : b.wrong = false
  nN : n ≤ N
  qN : q ≤ N
theorem nextB_follow {b c : Be} (k : Bool) (hm : b.m = c.m) (hc : Calm c) (hw : b.wrong = false) (ho : b.out = c.out ∨ (nextB C inp false c).out <+: b.out) :
    Calm (nextB C inp false c) ∧ (nextB C inp k b).m = (nextB C inp false c).m ∧ (nextB C inp k b).wrong = false ∧ (b.out = c.out → (nextB C inp k b).out = (nextB C inp false c).out) ∧ ((nextB C inp false c).out <+: b.out → (nextB C inp k b).out = b.out) := by
  by_cases h0 : c.m.st = 0
  · have h0' : b.m.st = 0 := by rw [hm]; exact h0
    have e1 : nextB C inp k b = stepB C inp k b := if_pos h0'
    have e2 : nextB C inp false c = stepB C inp false c := if_pos h0
    rw [e1]
    rw [e2] at ho ⊢
    have s1 : stepB C inp k b = match C[c.m.next]? with | none => b | some x => doIn inp k x (bump b) := by rw [stepB, hm]; rfl
    have s2 : stepB C inp false c = match C[c.m.next]? with | none => c | some x => doIn inp false x (bump c) := rfl
    rw [s1, s2]
    rw [s2] at ho
    cases hx : C[c.m.next]? with
    | none => exact ⟨hc, hm, hw, fun h => h, fun _ => rfl⟩
    | some x =>
      rw [hx] at ho
      simp only at ho ⊢
      have hm' : (bump b).m = (bump c).m := by simp only [bump, hm]
      have hc' : Calm (bump c) := hc
      obtain ⟨r1, r2⟩ := doIn_follow_out inp k x hm' hc'
      rcases doIn_follow inp k x hm' hc' (show (bump b).wrong = false from hw) with ⟨q1, q2, q3⟩ | q
      · exact ⟨q1, q2, q3, r1, r2⟩
      · exact absurd ho q
  · have h0' : ¬ (b.m.st = 0) := by rw [hm]; exact h0
    have e1 : nextB C inp k b = b := if_neg h0'
    have e2 : nextB C inp false c = c := if_neg h0
    rw [e1, e2]
    exact ⟨hc, hm, hw, fun h => h, fun _ => rfl⟩
theorem tr_calm {b : Be} (h : Calm b) : ∀ n, Calm (tr C inp b n)
  | 0 => h
  | n + 1 => (nextB_follow (C := C) (inp := inp) false rfl (tr_calm h n) (tr_calm h n).2 (.inl rfl)).1
theorem FarB.next {b0 b : Be} {n q N : Nat} (h0 : Calm b0) (h : FarB (tr C inp b0) n q N b) (hs : b.m.st = 0) : ∃ q', FarB (tr C inp b0) (n + 1) q' (max N (n + 1)) (nextB C inp true b) := by
  obtain ⟨hm, hk, ho, hw, hn, hq⟩ := h
  have hc := tr_calm (C := C) (inp := inp) h0 n
  have hcase : b.out = (tr C inp b0 n).out ∨ (nextB C inp false (tr C inp b0 n)).out <+: b.out := by
    by_cases e : n = N
    · left; rw [ho, e]
    · right; rw [ho]; exact tr_pre b0 (n := n + 1) (by omega)
  obtain ⟨-, g2, g3, g4, g5⟩ := nextB_follow (C := C) (inp := inp) true hm hc hw hcase
  have gout : (nextB C inp true b).out = (tr C inp b0 (max N (n + 1))).out := by
    by_cases e : n = N
    · subst e
      rw [g4 ho, Nat.max_eq_right (by omega)]; rfl
    · rw [g5 (by rw [ho]; exact tr_pre b0 (n := n + 1) (by omega)), ho, Nat.max_eq_left (by omega)]
  by_cases h15 : ∃ x, C[b.m.next]? = some x ∧ x.op = 15
  · obtain ⟨x, hx, hx15⟩ := h15
    refine ⟨n + 1, g2, ?_, gout, g3, by omega, by omega⟩
    have e : nextB C inp true b = { bump b with kept := (bump b).m } := by rw [nextB, if_pos hs, stepC_be hx hx15]; rfl
    rw [e] at g2
    rw [e]
    exact g2
  · refine ⟨q, g2, ?_, gout, g3, by omega, by omega⟩
    rw [nextB, if_pos hs, stepB]
    cases hx : C[b.m.next]? with
    | none => exact hk
    | some x => exact (doIn_kept inp true x (bump b) (fun e => h15 ⟨x, hx, e⟩)).trans hk
end
end Go.Proofs.YtmnmcjdgnpgchaaGreat

