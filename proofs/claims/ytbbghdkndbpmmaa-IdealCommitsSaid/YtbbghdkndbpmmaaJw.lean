/- Package ideal: Run. -/
import Derived.Test.YtbbghdkndbpmmaaJu
import Derived.Test.YtbbghdkndbpmmaaJv
import Derived.Test.YtbbghdkndbpmmaaMr
namespace Go.Proofs.Ytbbghdkndbpmmaa
open Go X
set_option maxHeartbeats 1000000
section
variable {P : Program} {ρ : Env} {h : Heap} {ty : TypeId} {σ : PH} {Γ : List HP}
theorem Wr.makeNone {T e m : Nat} {x y : Operand} {kx ky : IntKind} {r re : Ty} (hT : tyOf P T = some r) (hk : r.k = .slice e) (hE : tyOf P e = some re) (hx : ev ρ x = .int kx 0) (hy : ev ρ y = .int ky 0) (hn : h.size = m) :
    Wr P ρ h (.makeSlice T x y) ty (fun v' h' => v' = .slice (some ⟨m, 0, none⟩) 0 0 ∧ h' = h.push (.cells ([] : List Value).toArray e (0, 0))) X.noP := by
  subst hn
  refine Wr.run fun d pos af gd w hw => ?_
  obtain ⟨dd, i, z, e1, e2, -⟩ := tyOf_spec hT
  obtain ⟨dd', i', z', e1', e2', e3', e4', e5', e6', e7'⟩ := tyOf_spec hE
  rw [hk] at e2
  cases dd <;> simp [kindOf] at e2
  rw [e2] at e1
  clear e2
  have hwn : IntKind.i64.wrap 0 = 0 := rfl
  have hroom : ¬ (0 * re.bytes > roomBytes) := by simp
  refine ⟨_, w.alloc (.cells ([] : List Value).toArray e (0, 0)), ?_, ⟨rfl, rfl, rfl⟩, rfl, by rw [← hw]; rfl⟩
  simp only [execOp, Instr.makeSlice, Sem.run_bind, run_underlying e1, Result.andThen_ok, sizeOf, typeInfo, run_program, e3', e4', e5', Sem.run_pure, zeroValue, e6', hx, hy, asInt, asIntOf, Result.andThen_ok, hwn]
  rw [if_neg (by simp)]
  simp [askRoom, newRow, hw, sizeOf, typeInfo, e3']
  congr 2
  apply Array.ext'
  simp
theorem X.WrA.mkA {T e n : Nat} {x y : Operand} {kx ky : IntKind} {r re : Ty} {zs : List Value} (hT : tyOf P T = some r) (hk : r.k = .slice e) (hE : tyOf P e = some re) (hx : ev ρ x = .int kx n) (hy : ev ρ y = .int ky n) (hz : re.zero.length = re.size) (hs1 : re.size = 1) (hb : re.bytes * n ≤ 16777216) (hs : n ≤ 16777216)
    (hzs : ((List.range (n * re.size)).map fun k => re.zero.getD (k % re.size) undef) = zs) : WrA P ρ σ Γ (.makeSlice T x y) ty (fun v' σ' Γ' => ∃ g, v' = .slice (some ⟨g, 0, none⟩) n n ∧ σ = σ' ∧ Γ' = blk g zs e :: Γ) noPA := by
  cases n with
  | zero =>
    have hz0 : zs = [] := by rw [← hzs]; simp
    subst hz0
    exact Wr.toA (Q := fun h v h' => v = .slice (some ⟨h.size, 0, none⟩) 0 0 ∧ h' = h.push (cellsOf ([] : List Value) e)) (fun _ _ => Wr.makeNone hT hk hE hx hy rfl) fun f h v h' hh ⟨e1, e2⟩ => ⟨σ, _, ⟨h.size, e1, rfl, rfl⟩, e2 ▸ hh.alloc _ _⟩
  | succ n => exact X.WrA.mkS hT hk hE hx hy hz hb hs (by rw [hs1]; omega) hzs
end
theorem zeros_ints (n : Nat) {z : List Value} (hz : z = [i64 0]) : ((List.range (n * 1)).map fun k => z.getD (k % 1) undef) = ints (List.replicate n 0) := by
  subst hz
  rw [ints, Nat.mul_one]
  induction n with
  | zero => rfl
  | succ n ih => rw [List.range_succ, List.map_append, ih, List.replicate_succ']; simp [Nat.mod_one]
/-- The closure that ends a run. -/
theorem gone_zero : (Try.prog.info? 98).bind (·.zero) = some (.int .i64 0) := by kernel_rfl
theorem any_if : ∃ ms, Try.prog.underlying 20 = some (.interface ms) := ⟨#[], by kernel_rfl⟩
section
variable (σ : PH) (g10 g5 g6 g7 gr gc nc : Nat) (v0 v1 vi : Value) (po : Option Addr) (no co fuel left : Nat) (hf : fuel ≤ 3000) (hs : left ≤ fuel) (r0 r1 : List Value) (hr0 : r0.length = 3) (hr1 : r1.length = 1)
include hf hs hr0 hr1
/-- The closure that ends a run: the run came to its end. -/
theorem recov_n :
    CallsDA Try.prog 52 #[ptr g10, ptr g5, ptr g6, ptr g7] .returning σ [blk g10 [ptr gr] 95, blk g5 [i64 fuel] 3, blk g6 r0 63, blk g7 r1 3, blk gr [v0, v1, .slice (some ⟨gc, 0, none⟩) nc nc, vi, .slice po no co, i64 left] 97]
      (fun u' σ' Γ' => settle u' = .returning ∧ σ = σ' ∧ Γ' = [blk g6 [i64 0, .slice po no co, .slice (some ⟨gc, 0, none⟩) nc nc] 63, blk g7 [i64 ((fuel : Int) - left)] 3]) := by
  obtain ⟨ms, hms⟩ := any_if
  refine CallsDA.recovers4 Try.func52 rfl rfl rfl rfl ?_
  dsimp only [recv]
  have hspl : splice r0 0 [i64 0, .slice po no co, .slice (some ⟨gc, 0, none⟩) nc nc] = [i64 0, .slice po no co, .slice (some ⟨gc, 0, none⟩) nc nc] := splice_all hr0
  have hspl2 : splice r1 0 [i64 ((fuel : Int) - left)] = [i64 ((fuel : Int) - left)] := splice_all hr1
  have hfit : 0 + ty63.size ≤ r0.length := by rw [hr0]; exact Nat.le_refl _
  have hfit2 : ∀ _ : Unit, 0 + ty3.size ≤ r1.length := fun _ => by rw [hr1]; exact Nat.le_refl _
  refine zS ?_; refine zR ?_; refine zO rfl Rd.mv ?_
  refine zO rfl (Rd.tassertNil (tyrow rfl) rfl gone_zero rfl) ?_
  refine zO rfl Rd.mv ?_
  refine zO rfl (Rd.extract rfl rfl) ?_
  refine zO rfl (Rd.extract rfl rfl) ?_
  refine zO rfl Rd.asg ?_; refine zO rfl Rd.asg ?_; refine zN ?_; refine zT ?_; refine zS ?_; refine zS ?_; refine zR ?_; refine zO rfl Rd.mv ?_
  refine zO rfl (Rd.neqIfF hms rfl) ?_
  refine zO rfl Rd.mv ?_
  first | ((first | refine zW ?_ | refine zQ ?_); refine zO rfl Rd.mv ?_) | refine zU ?_ | refine zV ?_ | refine zZ ?_
  first | ((first | refine zW ?_ | refine zQ ?_); refine zO rfl (by first | exact Rd.notp rfl | exact Rd.not rfl) ?_) | refine zU ?_ | refine zV ?_ | refine zZ ?_
  refine zO rfl (by first | exact Rd.pT rfl | exact Rd.pF rfl | exact Rd.pP rfl) ?_
  refine zN ?_; refine zT ?_
  refine XA.condF rfl rfl ?_
  refine XA.skip ?_
  refine zT ?_
  refine XA.draw (by kernel_rfl) _ _ [16, 17] [(0, .pu), (1, .rd), (2, .pu), (3, .pu), (4, .rd), (5, .rd), (6, .pu), (7, .pu), (8, .rd), (9, .pu), (10, .rd), (11, .rd), (12, .pu), (13, .pu), (14, .rd), (15, .pu), (16, .wr), (17, .wr)] (by kernel_rfl) (PH.sub.refl _) (Ent.sel (R := blk g10 _ _) (by ((repeat (first | with_reducible exact Sel.head | apply Sel.tail)); (first | done | fail))) (Ent.sel (R := blk g5 _ _) (by ((repeat (first | with_reducible exact Sel.head | apply Sel.tail)); (first | done | fail))) (Ent.sel (R := blk gr _ _) (by ((repeat (first | with_reducible exact Sel.head | apply Sel.tail)); (first | done | fail))) (Ent.nil _)))) ?_
  refine XPA.pu rfl rfl Gd.free Rd.mv ?_
  refine XPA.rd rfl rfl Gd.free (Rd.ldC rfl (tyrow rfl) rfl) ?_
  refine XPA.pu rfl rfl Gd.free (Rd.nilCheck rfl) ?_
  refine XPA.pu rfl rfl Gd.free (Rd.fA rfl) ?_
  refine XPA.rd rfl rfl Gd.free (Rd.ldC rfl (tyrow rfl) rfl) ?_
  refine XPA.rd rfl rfl Gd.free (Rd.ldC rfl (tyrow rfl) rfl) ?_
  refine XPA.pu rfl rfl Gd.free (Rd.nilCheck rfl) ?_
  refine XPA.pu rfl rfl Gd.free (Rd.fA rfl) ?_
  refine XPA.rd rfl rfl Gd.free (Rd.ldC rfl (tyrow rfl) rfl) ?_
  refine XPA.pu rfl rfl Gd.free (Rd.bl (fun _ _ => tyrow) rfl rfl rfl) ?_
  refine XPA.rd rfl rfl Gd.free (Rd.ldC rfl (tyrow rfl) rfl) ?_
  refine XPA.rd rfl rfl Gd.free (Rd.ldC rfl (tyrow rfl) rfl) ?_
  refine XPA.pu rfl rfl Gd.free (Rd.nilCheck rfl) ?_
  refine XPA.pu rfl rfl Gd.free (Rd.fA rfl) ?_
  refine XPA.rd rfl rfl Gd.free (Rd.ldC rfl (tyrow rfl) rfl) ?_
  refine XPA.pu rfl rfl Gd.free (by first | exact Rd.sbi rfl rfl | exact Rd.sub rfl rfl) ?_
  refine XPA.wrZ0 rfl rfl Gd.free (by kernel_rfl) (WrA.st (tyrow rfl) rfl) ?_
  rintro _ _ _ ⟨rfl, rfl, rfl⟩
  refine XPA.wrZ0 rfl rfl Gd.free (by kernel_rfl) (WrA.st (tyrow rfl) rfl) ?_
  rintro _ _ _ ⟨rfl, rfl, rfl⟩
  refine XPA.nil ?_
  exact bodyA.normal (ResA.none rfl) zE ⟨rfl, rfl, rfl⟩
/-- .. it gave up. -/
theorem recov_p (c : Int) :
    CallsDA Try.prog 52 #[ptr g10, ptr g5, ptr g6, ptr g7] (.panicking (goneC c)) σ [blk g10 [ptr gr] 95, blk g5 [i64 fuel] 3, blk g6 r0 63, blk g7 r1 3, blk gr [v0, v1, .slice (some ⟨gc, 0, none⟩) nc nc, vi, .slice po no co, i64 left] 97]
      (fun u' σ' Γ' => settle u' = .returning ∧ σ = σ' ∧ Γ' = [blk g6 [i64 c, .slice po no co, .slice (some ⟨gc, 0, none⟩) nc nc] 63, blk g7 [i64 ((fuel : Int) - left)] 3]) := by
  obtain ⟨ms, hms⟩ := any_if
  refine CallsDA.recovers4 Try.func52 rfl rfl rfl rfl ?_
  dsimp only [recv, goneC]
  have hspl : splice r0 0 [i64 c, .slice po no co, .slice (some ⟨gc, 0, none⟩) nc nc] = [i64 c, .slice po no co, .slice (some ⟨gc, 0, none⟩) nc nc] := splice_all hr0
  have hspl2 : splice r1 0 [i64 ((fuel : Int) - left)] = [i64 ((fuel : Int) - left)] := splice_all hr1
  have hfit : 0 + ty63.size ≤ r0.length := by rw [hr0]; exact Nat.le_refl _
  have hfit2 : ∀ _ : Unit, 0 + ty3.size ≤ r1.length := fun _ => by rw [hr1]; exact Nat.le_refl _
  refine zS ?_; refine zR ?_; refine zO rfl Rd.mv ?_
  refine zO rfl (Rd.tassert (tyrow rfl) rfl rfl) ?_
  refine zO rfl Rd.mv ?_
  refine zO rfl (Rd.extract rfl rfl) ?_
  refine zO rfl (Rd.extract rfl rfl) ?_
  refine zO rfl Rd.asg ?_; refine zO rfl Rd.asg ?_; refine zN ?_; refine zT ?_; refine zS ?_; refine zS ?_; refine zR ?_; refine zO rfl Rd.mv ?_
  refine zO rfl (Rd.neqIfT hms rfl) ?_
  refine zO rfl Rd.mv ?_
  first | ((first | refine zW ?_ | refine zQ ?_); refine zO rfl Rd.mv ?_) | refine zU ?_ | refine zV ?_ | refine zZ ?_
  first | ((first | refine zW ?_ | refine zQ ?_); refine zO rfl (by first | exact Rd.notp rfl | exact Rd.not rfl) ?_) | refine zU ?_ | refine zV ?_ | refine zZ ?_
  refine zO rfl (by first | exact Rd.pT rfl | exact Rd.pF rfl | exact Rd.pP rfl) ?_
  refine zN ?_; refine zT ?_
  refine XA.condF rfl rfl ?_
  refine XA.skip ?_
  refine zT ?_
  refine XA.draw (by kernel_rfl) _ _ [16, 17] [(0, .pu), (1, .rd), (2, .pu), (3, .pu), (4, .rd), (5, .rd), (6, .pu), (7, .pu), (8, .rd), (9, .pu), (10, .rd), (11, .rd), (12, .pu), (13, .pu), (14, .rd), (15, .pu), (16, .wr), (17, .wr)] (by kernel_rfl) (PH.sub.refl _) (Ent.sel (R := blk g10 _ _) (by ((repeat (first | with_reducible exact Sel.head | apply Sel.tail)); (first | done | fail))) (Ent.sel (R := blk g5 _ _) (by ((repeat (first | with_reducible exact Sel.head | apply Sel.tail)); (first | done | fail))) (Ent.sel (R := blk gr _ _) (by ((repeat (first | with_reducible exact Sel.head | apply Sel.tail)); (first | done | fail))) (Ent.nil _)))) ?_
  refine XPA.pu rfl rfl Gd.free Rd.mv ?_
  refine XPA.rd rfl rfl Gd.free (Rd.ldC rfl (tyrow rfl) rfl) ?_
  refine XPA.pu rfl rfl Gd.free (Rd.nilCheck rfl) ?_
  refine XPA.pu rfl rfl Gd.free (Rd.fA rfl) ?_
  refine XPA.rd rfl rfl Gd.free (Rd.ldC rfl (tyrow rfl) rfl) ?_
  refine XPA.rd rfl rfl Gd.free (Rd.ldC rfl (tyrow rfl) rfl) ?_
  refine XPA.pu rfl rfl Gd.free (Rd.nilCheck rfl) ?_
  refine XPA.pu rfl rfl Gd.free (Rd.fA rfl) ?_
  refine XPA.rd rfl rfl Gd.free (Rd.ldC rfl (tyrow rfl) rfl) ?_
  refine XPA.pu rfl rfl Gd.free (Rd.bl (fun _ _ => tyrow) rfl rfl rfl) ?_
  refine XPA.rd rfl rfl Gd.free (Rd.ldC rfl (tyrow rfl) rfl) ?_
  refine XPA.rd rfl rfl Gd.free (Rd.ldC rfl (tyrow rfl) rfl) ?_
  refine XPA.pu rfl rfl Gd.free (Rd.nilCheck rfl) ?_
  refine XPA.pu rfl rfl Gd.free (Rd.fA rfl) ?_
  refine XPA.rd rfl rfl Gd.free (Rd.ldC rfl (tyrow rfl) rfl) ?_
  refine XPA.pu rfl rfl Gd.free (by first | exact Rd.sbi rfl rfl | exact Rd.sub rfl rfl) ?_
  refine XPA.wrZ0 rfl rfl Gd.free (by kernel_rfl) (WrA.st (tyrow rfl) rfl) ?_
  rintro _ _ _ ⟨rfl, rfl, rfl⟩
  refine XPA.wrZ0 rfl rfl Gd.free (by kernel_rfl) (WrA.st (tyrow rfl) rfl) ?_
  rintro _ _ _ ⟨rfl, rfl, rfl⟩
  refine XPA.nil ?_
  exact bodyA.normal (ResA.none rfl) zE ⟨rfl, rfl, rfl⟩
end
theorem ResA.cct {P : Program} {ρ : Env} {σ : PH} {Γ : List HP} {fn : Func} {t1 t2 t3 : Tmp} {T1 T2 : TypeId} {g1 o1 g2 o2 : Nat} {v1 v2 v3 : Value} (hf : fn.results = #[.cell t1 T1, .cell t2 T2, .tmp t3]) (h1 : ρ t1 = .pointer (some ⟨g1, o1, none⟩)) (h2 : ρ t2 = .pointer (some ⟨g2, o2, none⟩)) (h3 : ρ t3 = v3)
    (l1 : ∀ h, Ho σ Γ h → Ld P h T1 g1 o1 v1) (l2 : ∀ h, Ho σ Γ h → Ld P h T2 g2 o2 v2) : ResA P fn ρ σ Γ (.tuple #[v1, v2, v3]) := fun h hh w a hw he => by
  have e1 := he.get t1; rw [h1] at e1; simp at e1
  have e2 := he.get t2; rw [h2] at e2; simp at e2
  have e3 := he.get t3; rw [h3] at e3; simp at e3
  simp [results, hf, e1, e2, e3, asAddr, l1 h hh w hw, l2 h hh w hw]
/-- What Run hands back. -/
def RunPost (σ : PH) (p : Pr) (inp : List Int) (fuel : Int) : Value → PH → List HP → Prop := fun v σ' Γ' => σ.sub σ' ∧ Γ' = [] ∧ if checkP p ≠ 0 then v = .tuple #[.agg #[i64 0, .slice none 0 0, .slice none 0 0], i64 0, i64 (checkP p)]
  else if 40 < inp.length ∨ fuel < 0 ∨ 3000 < fuel then v = .tuple #[.agg #[i64 0, .slice none 0 0, .slice none 0 0], i64 0, i64 1]
  else ∃ (c : Int) (s : RS) (vo vc : Value), RunIs p inp fuel.toNat c s ∧ v = .tuple #[.agg #[i64 c, vo, vc], i64 (fuel - s.left), i64 0] ∧ PInts σ' vo s.out ∧ PInts σ' vc s.cells ∧ s.left ≤ fuel.toNat
theorem CallsDA.conv {P : Program} {f : FuncId} {vs : Array Value} {u : FrameMode} {σ : PH} {Γ Γ0 Δ : List HP} {R R' : FrameMode → PH → List HP → Prop} (hc : CallsDA P f vs u σ Γ0 R) (he : Ent Γ (Γ0 ++ Δ))
    (k : ∀ u' σ' Γ' fr h, R u' σ' Γ' → Holds σ' (Γ' ++ Δ) fr h → ∃ σ2 Γ2, R' u' σ2 Γ2 ∧ Holds σ2 Γ2 fr h) : CallsDA P f vs u σ Γ R' := fun fr h hh w hw => by
  obtain ⟨f', a, b⟩ := (hh.ent he).aside
  refine (hc f' h a w hw).mono ?_
  rintro e u' w' ⟨h1, h2, σ', Γ', h3, h4⟩
  obtain ⟨σ2, Γ2, h5, h6⟩ := k u' σ' Γ' fr w'.heap h3 (b _ _ _ h4)
  exact ⟨h1, h2, σ2, Γ2, h5, h6⟩
theorem run_fin (σ σ0 : PH) (p : Pr) (inp : List Int) (fn : Func) (hfn : fn.results = #[.cell 6 63, .cell 7 3, .tmp 8]) (ρ : Env) (Γ : List HP) (g10 g5 g6 g7 gr gc nc : Nat) (v0 v1 vi : Value) (po : Option Addr) (co fuel left : Nat) (cells out rin : List Int) (c : Int) (u : FrameMode) (r0 r1 : List Value)
    (hs0 : σ0.sub σ) (h6 : ρ 6 = ptr g6) (h7 : ρ 7 = ptr g7) (h8 : ρ 8 = i64 0) (hc0 : checkP p = 0) (hi : inp.length ≤ 40) (hf : fuel ≤ 3000) (hl : left ≤ fuel) (hcl : cells.length = nc) (hnm : nc ≤ 48) (hrun : RunIs p inp fuel c ⟨cells, rin, out, left⟩)
    (hrec : CallsDA Try.prog 52 #[ptr g10, ptr g5, ptr g6, ptr g7] u σ [blk g10 [ptr gr] 95, blk g5 [i64 fuel] 3, blk g6 r0 63, blk g7 r1 3, blk gr [v0, v1, .slice (some ⟨gc, 0, none⟩) nc nc, vi, .slice po out.length co, i64 left] 97]
      (fun u' σ' Γ' => settle u' = .returning ∧ σ = σ' ∧ Γ' = [blk g6 [i64 c, .slice po out.length co, .slice (some ⟨gc, 0, none⟩) nc nc] 63, blk g7 [i64 ((fuel : Int) - left)] 3]))
    (hΓ : Ent Γ ([blk g10 [ptr gr] 95, blk g5 [i64 fuel] 3, blk g6 r0 63, blk g7 r1 3, blk gr [v0, v1, .slice (some ⟨gc, 0, none⟩) nc nc, vi, .slice po out.length co, i64 left] 97] ++ [blk gc (ints cells) 2, lst 2 1 (.slice po out.length co) out.length (ints out)])) :
    CallsDA Try.prog 52 #[ptr g10, ptr g5, ptr g6, ptr g7] u σ Γ (fun u' σ' Γ' => settle u' = .returning ∧ ∃ v, ResA Try.prog fn ρ σ' Γ' v ∧ ∃ Δ, Ent Γ' Δ ∧ RetA (RunPost σ0 p inp fuel) (.returned v) σ' Δ) := by
  refine CallsDA.conv hrec hΓ ?_
  rintro u' σ' Γ' fr h ⟨hu, rfl, rfl⟩ hh
  simp only [List.cons_append, List.nil_append] at hh
  obtain ⟨σ2, ⟨⟩, hz, hs2, hh2⟩ := holds_freeze' (R := blk gc (ints cells) 2) hh (by ((repeat (first | with_reducible exact Sel.head | apply Sel.tail)); (first | done | fail))) blk_frz blk_frz_mono
  obtain ⟨σ3, ⟨⟩, hy, hs3, hh3⟩ := holds_freeze' (R := lst 2 1 (.slice po out.length co) _ _) hh2 (by ((repeat (first | with_reducible exact Sel.head | apply Sel.tail)); (first | done | fail))) lst_frz lst_frz_mono
  refine ⟨σ3, _, ⟨hu, _, ResA.cct hfn h6 h7 h8 (Ld.atBlk (tyrow rfl) rfl (by ((repeat (first | with_reducible exact Sel.head | apply Sel.tail)); (first | done | fail))) rfl (by first | exact take0 (by first | rfl | assumption | (refine (ints_len _).trans ?_; assumption) | (simp [*]; (first | done | fail))) | assumption | exact take_app (by first | rfl | assumption | (refine (ints_len _).trans ?_; assumption) | (simp [*]; (first | done | fail))) | (conv => lhs; simp only [List.drop_succ_cons, List.drop_zero, List.take_succ_cons, List.take_zero])) (by first | rfl | assumption | (refine (ints_len _).trans ?_; assumption) | (simp [*]; (first | done | fail)))) (Ld.atC (tyrow rfl) rfl (by first | (exact AtC.blk (by ((repeat (first | with_reducible exact Sel.head | apply Sel.tail)); (first | done | fail))) (by first | rfl | assumption)) | (exact AtC.per (by first | assumption)) | (exact AtC.lst (by ((repeat (first | with_reducible exact Sel.head | apply Sel.tail)); (first | done | fail))) (by first | rfl | assumption)))), [], Ent.nil _, (hs0.trans hs2).trans hs3, rfl, ?_⟩, hh3⟩
  rw [if_neg (fun h => h hc0), if_neg (by omega)]
  refine ⟨c, ⟨cells, rin, out, left⟩, _, _, hrun, rfl, ⟨po, co, rfl, hy.1, hy.2.1, ?_⟩, ⟨some ⟨gc, 0, none⟩, nc, by simp [hcl], by simp [hcl], by simp only [maxLen]; omega, fun _ => ⟨gc, 0, rfl, hz.mono hs3⟩⟩, hl⟩
  intro h0
  exact hy.2.2.2 h0
theorem run_a (σ : PH) (cs : List Value) (p : Pr) (iv : Value) (inp : List Int) (fuel : Int) (hp : PrAt σ cs p) (hi : PInts σ iv inp) :
    CallsA Try.prog 34 #[.agg cs.toArray, iv, i64 fuel] σ [] (RetA (RunPost σ p inp fuel)) := by
  have hp0 := hp
  obtain ⟨vs, bs, rfl, hv, hb⟩ := hp
  obtain ⟨pv, cv, rfl, hvl, hvm⟩ := hv.shape
  obtain ⟨pi, ci, rfl, hil, him⟩ := hi.shape
  simp only [maxLen] at him
  have hspl : splice ty63.zero 0 [i64 0, .slice none 0 0, .slice none 0 0] = [i64 0, .slice none 0 0, .slice none 0 0] := rfl
  have hfit : 0 + ty63.size ≤ ty63.zero.length := Nat.le_refl _
  by_cases hc : checkP p ≠ 0
  · refine enterD3 Try.func34 rfl rfl rfl ?_
    refine XTA.seq ?_
    refine zR ?_
    refine XOA.wr0 rfl WrA.bx ?_
    rintro _ _ _ ⟨g3, rfl, rfl, rfl⟩
    refine XOA.wr0 rfl WrA.bx ?_
    rintro _ _ _ ⟨g5, rfl, rfl, rfl⟩
    refine XOA.wr0 rfl (WrA.alloc (tyrow rfl)) ?_
    rintro _ _ _ ⟨g6, rfl, rfl, rfl⟩
    refine XOA.wr0 rfl (WrA.alloc (tyrow rfl)) ?_
    rintro _ _ _ ⟨g7, rfl, rfl, rfl⟩
    refine zO rfl Rd.asg ?_; refine zN ?_; refine zT ?_
    refine XTA.seq ?_
    refine zS ?_; refine zR ?_; refine zO rfl (Rd.ldA rfl) ?_
    refine XOA.wr0 rfl (WrA.cE (check_a σ _ p hp0) rfl) ?_
    rintro _ _ _ ⟨_, ⟨rfl, rfl, rfl⟩, rfl⟩
    refine XOA.cl ?_
    refine zO rfl Rd.asg ?_; refine zN ?_; refine zT ?_; refine zS ?_; refine zR ?_; refine zO rfl Rd.mv ?_
    refine zO rfl (Rd.neq rfl rfl) ?_
    refine zN ?_; refine zT ?_
    refine XA.condT rfl (decide_eq_true hc) ?_
    refine zS ?_; refine zR ?_; refine zO rfl (Rd.ldA rfl) ?_; refine zO rfl Rd.mv ?_
    refine XOA.wr0 rfl (WrA.st (tyrow rfl) rfl) ?_
    rintro _ _ _ ⟨rfl, rfl, rfl⟩
    refine XOA.wr0 rfl (WrA.st (tyrow rfl) rfl) ?_
    rintro _ _ _ ⟨rfl, rfl, rfl⟩
    refine zO rfl Rd.asg ?_; refine zN ?_; refine zT ?_
    refine XA.ret ?_
    refine DA.thn_ret ?_
    exact bodyA.ret (ResA.cct rfl rfl rfl rfl (Ld.atBlk (tyrow rfl) rfl (by ((repeat (first | with_reducible exact Sel.head | apply Sel.tail)); (first | done | fail))) rfl (by first | exact take0 (by first | rfl | assumption | (refine (ints_len _).trans ?_; assumption) | (simp [*]; (first | done | fail))) | assumption | exact take_app (by first | rfl | assumption | (refine (ints_len _).trans ?_; assumption) | (simp [*]; (first | done | fail))) | (conv => lhs; simp only [List.drop_succ_cons, List.drop_zero, List.take_succ_cons, List.take_zero])) (by first | rfl | assumption | (refine (ints_len _).trans ?_; assumption) | (simp [*]; (first | done | fail)))) (Ld.atC (tyrow rfl) rfl (by first | (exact AtC.blk (by ((repeat (first | with_reducible exact Sel.head | apply Sel.tail)); (first | done | fail))) (by first | rfl | assumption)) | (exact AtC.per (by first | assumption)) | (exact AtC.lst (by ((repeat (first | with_reducible exact Sel.head | apply Sel.tail)); (first | done | fail))) (by first | rfl | assumption))))) (Ent.nil _) ⟨.refl _, rfl, by rw [if_pos hc]⟩
  · by_cases a1 : 40 < inp.length
    · refine enterD3 Try.func34 rfl rfl rfl ?_
      refine XTA.seq ?_
      refine zR ?_
      refine XOA.wr0 rfl WrA.bx ?_
      rintro _ _ _ ⟨g3, rfl, rfl, rfl⟩
      refine XOA.wr0 rfl WrA.bx ?_
      rintro _ _ _ ⟨g5, rfl, rfl, rfl⟩
      refine XOA.wr0 rfl (WrA.alloc (tyrow rfl)) ?_
      rintro _ _ _ ⟨g6, rfl, rfl, rfl⟩
      refine XOA.wr0 rfl (WrA.alloc (tyrow rfl)) ?_
      rintro _ _ _ ⟨g7, rfl, rfl, rfl⟩
      refine zO rfl Rd.asg ?_; refine zN ?_; refine zT ?_
      refine XTA.seq ?_
      refine zS ?_; refine zR ?_; refine zO rfl (Rd.ldA rfl) ?_
      refine XOA.wr0 rfl (WrA.cE (check_a σ _ p hp0) rfl) ?_
      rintro _ _ _ ⟨_, ⟨rfl, rfl, rfl⟩, rfl⟩
      refine XOA.cl ?_
      refine zO rfl Rd.asg ?_; refine zN ?_; refine zT ?_; refine zS ?_; refine zR ?_; refine zO rfl Rd.mv ?_
      refine zO rfl (Rd.neq rfl rfl) ?_
      refine zN ?_; refine zT ?_
      refine XA.condF rfl (decide_eq_false hc) ?_
      refine XA.skip ?_
      refine zT ?_
      refine XTA.seq ?_
      refine zS ?_; refine zR ?_; refine zO rfl Rd.mv ?_; refine zO rfl (Rd.lenSlice (tyrow rfl) rfl rfl) ?_
      refine zO rfl (Rd.gtr rfl rfl) ?_
      refine zO rfl Rd.mv ?_
      first | ((first | refine zW ?_ | refine zQ ?_); refine zO rfl (Rd.ldC rfl (tyrow rfl) rfl) ?_) | refine zU ?_ | refine zV ?_ | refine zZ ?_
      first | ((first | refine zW ?_ | refine zQ ?_); refine zO rfl (Rd.lss rfl rfl) ?_) | refine zU ?_ | refine zV ?_ | refine zZ ?_
      refine zO rfl (by first | exact Rd.pT rfl | exact Rd.pF rfl | exact Rd.pP rfl) ?_
      refine zO rfl Rd.mv ?_
      first | ((first | refine zW ?_ | refine zQ ?_); refine zO rfl (Rd.ldC rfl (tyrow rfl) rfl) ?_) | refine zU ?_ | refine zV ?_ | refine zZ ?_
      first | ((first | refine zW ?_ | refine zQ ?_); refine zO rfl (Rd.gtr rfl rfl) ?_) | refine zU ?_ | refine zV ?_ | refine zZ ?_
      refine zO rfl (by first | exact Rd.pT rfl | exact Rd.pF rfl | exact Rd.pP rfl) ?_
      refine zN ?_; refine zT ?_
      refine XA.condT rfl (by first | rfl | exact decide_eq_true (by omega)) ?_
      refine zS ?_; refine zR ?_; refine zO rfl (Rd.ldA rfl) ?_
      refine XOA.wr0 rfl (WrA.st (tyrow rfl) rfl) ?_
      rintro _ _ _ ⟨rfl, rfl, rfl⟩
      refine XOA.wr0 rfl (WrA.st (tyrow rfl) rfl) ?_
      rintro _ _ _ ⟨rfl, rfl, rfl⟩
      refine zO rfl Rd.asg ?_; refine zN ?_; refine zT ?_
      refine XA.ret ?_
      refine DA.thn_ret ?_
      exact bodyA.ret (ResA.cct rfl rfl rfl rfl (Ld.atBlk (tyrow rfl) rfl (by ((repeat (first | with_reducible exact Sel.head | apply Sel.tail)); (first | done | fail))) rfl (by first | exact take0 (by first | rfl | assumption | (refine (ints_len _).trans ?_; assumption) | (simp [*]; (first | done | fail))) | assumption | exact take_app (by first | rfl | assumption | (refine (ints_len _).trans ?_; assumption) | (simp [*]; (first | done | fail))) | (conv => lhs; simp only [List.drop_succ_cons, List.drop_zero, List.take_succ_cons, List.take_zero])) (by first | rfl | assumption | (refine (ints_len _).trans ?_; assumption) | (simp [*]; (first | done | fail)))) (Ld.atC (tyrow rfl) rfl (by first | (exact AtC.blk (by ((repeat (first | with_reducible exact Sel.head | apply Sel.tail)); (first | done | fail))) (by first | rfl | assumption)) | (exact AtC.per (by first | assumption)) | (exact AtC.lst (by ((repeat (first | with_reducible exact Sel.head | apply Sel.tail)); (first | done | fail))) (by first | rfl | assumption))))) (Ent.nil _) ⟨.refl _, rfl, by rw [if_neg hc, if_pos (by omega)]⟩
    by_cases a2 : fuel < 0
    · refine enterD3 Try.func34 rfl rfl rfl ?_
      refine XTA.seq ?_
      refine zR ?_
      refine XOA.wr0 rfl WrA.bx ?_
      rintro _ _ _ ⟨g3, rfl, rfl, rfl⟩
      refine XOA.wr0 rfl WrA.bx ?_
      rintro _ _ _ ⟨g5, rfl, rfl, rfl⟩
      refine XOA.wr0 rfl (WrA.alloc (tyrow rfl)) ?_
      rintro _ _ _ ⟨g6, rfl, rfl, rfl⟩
      refine XOA.wr0 rfl (WrA.alloc (tyrow rfl)) ?_
      rintro _ _ _ ⟨g7, rfl, rfl, rfl⟩
      refine zO rfl Rd.asg ?_; refine zN ?_; refine zT ?_
      refine XTA.seq ?_
      refine zS ?_; refine zR ?_; refine zO rfl (Rd.ldA rfl) ?_
      refine XOA.wr0 rfl (WrA.cE (check_a σ _ p hp0) rfl) ?_
      rintro _ _ _ ⟨_, ⟨rfl, rfl, rfl⟩, rfl⟩
      refine XOA.cl ?_
      refine zO rfl Rd.asg ?_; refine zN ?_; refine zT ?_; refine zS ?_; refine zR ?_; refine zO rfl Rd.mv ?_
      refine zO rfl (Rd.neq rfl rfl) ?_
      refine zN ?_; refine zT ?_
      refine XA.condF rfl (decide_eq_false hc) ?_
      refine XA.skip ?_
      refine zT ?_
      refine XTA.seq ?_
      refine zS ?_; refine zR ?_; refine zO rfl Rd.mv ?_; refine zO rfl (Rd.lenSlice (tyrow rfl) rfl rfl) ?_
      refine zO rfl (Rd.gtr rfl rfl) ?_
      refine zO rfl Rd.mv ?_
      first | ((first | refine zW ?_ | refine zQ ?_); refine zO rfl (Rd.ldC rfl (tyrow rfl) rfl) ?_) | refine zU ?_ | refine zV ?_ | refine zZ ?_
      first | ((first | refine zW ?_ | refine zQ ?_); refine zO rfl (Rd.lss rfl rfl) ?_) | refine zU ?_ | refine zV ?_ | refine zZ ?_
      refine zO rfl (by first | exact Rd.pT rfl | exact Rd.pF rfl | exact Rd.pP rfl) ?_
      refine zO rfl Rd.mv ?_
      first | ((first | refine zW ?_ | refine zQ ?_); refine zO rfl (Rd.ldC rfl (tyrow rfl) rfl) ?_) | refine zU ?_ | refine zV ?_ | refine zZ ?_
      first | ((first | refine zW ?_ | refine zQ ?_); refine zO rfl (Rd.gtr rfl rfl) ?_) | refine zU ?_ | refine zV ?_ | refine zZ ?_
      refine zO rfl (by first | exact Rd.pT rfl | exact Rd.pF rfl | exact Rd.pP rfl) ?_
      refine zN ?_; refine zT ?_
      refine XA.condT rfl (by first | rfl | exact decide_eq_true (by omega)) ?_
      refine zS ?_; refine zR ?_; refine zO rfl (Rd.ldA rfl) ?_
      refine XOA.wr0 rfl (WrA.st (tyrow rfl) rfl) ?_
      rintro _ _ _ ⟨rfl, rfl, rfl⟩
      refine XOA.wr0 rfl (WrA.st (tyrow rfl) rfl) ?_
      rintro _ _ _ ⟨rfl, rfl, rfl⟩
      refine zO rfl Rd.asg ?_; refine zN ?_; refine zT ?_
      refine XA.ret ?_
      refine DA.thn_ret ?_
      exact bodyA.ret (ResA.cct rfl rfl rfl rfl (Ld.atBlk (tyrow rfl) rfl (by ((repeat (first | with_reducible exact Sel.head | apply Sel.tail)); (first | done | fail))) rfl (by first | exact take0 (by first | rfl | assumption | (refine (ints_len _).trans ?_; assumption) | (simp [*]; (first | done | fail))) | assumption | exact take_app (by first | rfl | assumption | (refine (ints_len _).trans ?_; assumption) | (simp [*]; (first | done | fail))) | (conv => lhs; simp only [List.drop_succ_cons, List.drop_zero, List.take_succ_cons, List.take_zero])) (by first | rfl | assumption | (refine (ints_len _).trans ?_; assumption) | (simp [*]; (first | done | fail)))) (Ld.atC (tyrow rfl) rfl (by first | (exact AtC.blk (by ((repeat (first | with_reducible exact Sel.head | apply Sel.tail)); (first | done | fail))) (by first | rfl | assumption)) | (exact AtC.per (by first | assumption)) | (exact AtC.lst (by ((repeat (first | with_reducible exact Sel.head | apply Sel.tail)); (first | done | fail))) (by first | rfl | assumption))))) (Ent.nil _) ⟨.refl _, rfl, by rw [if_neg hc, if_pos (by omega)]⟩
    by_cases a3 : 3000 < fuel
    · refine enterD3 Try.func34 rfl rfl rfl ?_
      refine XTA.seq ?_
      refine zR ?_
      refine XOA.wr0 rfl WrA.bx ?_
      rintro _ _ _ ⟨g3, rfl, rfl, rfl⟩
      refine XOA.wr0 rfl WrA.bx ?_
      rintro _ _ _ ⟨g5, rfl, rfl, rfl⟩
      refine XOA.wr0 rfl (WrA.alloc (tyrow rfl)) ?_
      rintro _ _ _ ⟨g6, rfl, rfl, rfl⟩
      refine XOA.wr0 rfl (WrA.alloc (tyrow rfl)) ?_
      rintro _ _ _ ⟨g7, rfl, rfl, rfl⟩
      refine zO rfl Rd.asg ?_; refine zN ?_; refine zT ?_
      refine XTA.seq ?_
      refine zS ?_; refine zR ?_; refine zO rfl (Rd.ldA rfl) ?_
      refine XOA.wr0 rfl (WrA.cE (check_a σ _ p hp0) rfl) ?_
      rintro _ _ _ ⟨_, ⟨rfl, rfl, rfl⟩, rfl⟩
      refine XOA.cl ?_
      refine zO rfl Rd.asg ?_; refine zN ?_; refine zT ?_; refine zS ?_; refine zR ?_; refine zO rfl Rd.mv ?_
      refine zO rfl (Rd.neq rfl rfl) ?_
      refine zN ?_; refine zT ?_
      refine XA.condF rfl (decide_eq_false hc) ?_
      refine XA.skip ?_
      refine zT ?_
      refine XTA.seq ?_
      refine zS ?_; refine zR ?_; refine zO rfl Rd.mv ?_; refine zO rfl (Rd.lenSlice (tyrow rfl) rfl rfl) ?_
      refine zO rfl (Rd.gtr rfl rfl) ?_
      refine zO rfl Rd.mv ?_
      first | ((first | refine zW ?_ | refine zQ ?_); refine zO rfl (Rd.ldC rfl (tyrow rfl) rfl) ?_) | refine zU ?_ | refine zV ?_ | refine zZ ?_
      first | ((first | refine zW ?_ | refine zQ ?_); refine zO rfl (Rd.lss rfl rfl) ?_) | refine zU ?_ | refine zV ?_ | refine zZ ?_
      refine zO rfl (by first | exact Rd.pT rfl | exact Rd.pF rfl | exact Rd.pP rfl) ?_
      refine zO rfl Rd.mv ?_
      first | ((first | refine zW ?_ | refine zQ ?_); refine zO rfl (Rd.ldC rfl (tyrow rfl) rfl) ?_) | refine zU ?_ | refine zV ?_ | refine zZ ?_
      first | ((first | refine zW ?_ | refine zQ ?_); refine zO rfl (Rd.gtr rfl rfl) ?_) | refine zU ?_ | refine zV ?_ | refine zZ ?_
      refine zO rfl (by first | exact Rd.pT rfl | exact Rd.pF rfl | exact Rd.pP rfl) ?_
      refine zN ?_; refine zT ?_
      refine XA.condT rfl (by first | rfl | exact decide_eq_true (by omega)) ?_
      refine zS ?_; refine zR ?_; refine zO rfl (Rd.ldA rfl) ?_
      refine XOA.wr0 rfl (WrA.st (tyrow rfl) rfl) ?_
      rintro _ _ _ ⟨rfl, rfl, rfl⟩
      refine XOA.wr0 rfl (WrA.st (tyrow rfl) rfl) ?_
      rintro _ _ _ ⟨rfl, rfl, rfl⟩
      refine zO rfl Rd.asg ?_; refine zN ?_; refine zT ?_
      refine XA.ret ?_
      refine DA.thn_ret ?_
      exact bodyA.ret (ResA.cct rfl rfl rfl rfl (Ld.atBlk (tyrow rfl) rfl (by ((repeat (first | with_reducible exact Sel.head | apply Sel.tail)); (first | done | fail))) rfl (by first | exact take0 (by first | rfl | assumption | (refine (ints_len _).trans ?_; assumption) | (simp [*]; (first | done | fail))) | assumption | exact take_app (by first | rfl | assumption | (refine (ints_len _).trans ?_; assumption) | (simp [*]; (first | done | fail))) | (conv => lhs; simp only [List.drop_succ_cons, List.drop_zero, List.take_succ_cons, List.take_zero])) (by first | rfl | assumption | (refine (ints_len _).trans ?_; assumption) | (simp [*]; (first | done | fail)))) (Ld.atC (tyrow rfl) rfl (by first | (exact AtC.blk (by ((repeat (first | with_reducible exact Sel.head | apply Sel.tail)); (first | done | fail))) (by first | rfl | assumption)) | (exact AtC.per (by first | assumption)) | (exact AtC.lst (by ((repeat (first | with_reducible exact Sel.head | apply Sel.tail)); (first | done | fail))) (by first | rfl | assumption))))) (Ent.nil _) ⟨.refl _, rfl, by rw [if_neg hc, if_pos (by omega)]⟩
    have hc0 : checkP p = 0 := by omega
    obtain ⟨f, rfl⟩ : ∃ f : Nat, fuel = f := ⟨fuel.toNat, by omega⟩
    obtain ⟨hz, hvl2⟩ := check_small hc0
    obtain ⟨hV, -, h1, h48⟩ := check_valid hc0
    have hsz := sizes_nonneg h1
    obtain ⟨nc, hnc⟩ : ∃ nc : Nat, sizes p.vars = (nc : Int) := ⟨(sizes p.vars).toNat, by omega⟩
    have hcells := cells_a σ _ p hp0 hz hvl2
    rw [hnc] at hcells
    obtain ⟨c, s, hrun⟩ := run_total p inp f
    refine enterD3 Try.func34 rfl rfl rfl ?_
    refine XTA.seq ?_
    refine zR ?_
    refine XOA.wr0 rfl WrA.bx ?_
    rintro _ _ _ ⟨g3, rfl, rfl, rfl⟩
    refine XOA.wr0 rfl WrA.bx ?_
    rintro _ _ _ ⟨g5, rfl, rfl, rfl⟩
    refine XOA.wr0 rfl (WrA.alloc (tyrow rfl)) ?_
    rintro _ _ _ ⟨g6, rfl, rfl, rfl⟩
    refine XOA.wr0 rfl (WrA.alloc (tyrow rfl)) ?_
    rintro _ _ _ ⟨g7, rfl, rfl, rfl⟩
    refine zO rfl Rd.asg ?_; refine zN ?_; refine zT ?_
    refine XTA.seq ?_
    refine zS ?_; refine zR ?_; refine zO rfl (Rd.ldA rfl) ?_
    refine XOA.wr0 rfl (WrA.cE (check_a σ _ p hp0) rfl) ?_
    rintro _ _ _ ⟨_, ⟨rfl, rfl, rfl⟩, rfl⟩
    refine XOA.cl ?_
    refine zO rfl Rd.asg ?_; refine zN ?_; refine zT ?_; refine zS ?_; refine zR ?_; refine zO rfl Rd.mv ?_
    refine zO rfl (Rd.neq rfl rfl) ?_
    refine zN ?_; refine zT ?_
    refine XA.condF rfl (decide_eq_false hc) ?_
    refine XA.skip ?_
    refine zT ?_
    refine XTA.seq ?_
    refine zS ?_; refine zR ?_; refine zO rfl Rd.mv ?_; refine zO rfl (Rd.lenSlice (tyrow rfl) rfl rfl) ?_
    refine zO rfl (Rd.gtr rfl rfl) ?_
    refine zO rfl Rd.mv ?_
    first | ((first | refine zW ?_ | refine zQ ?_); refine zO rfl (Rd.ldC rfl (tyrow rfl) rfl) ?_) | refine zU ?_ | refine zV ?_ | refine zZ ?_
    first | ((first | refine zW ?_ | refine zQ ?_); refine zO rfl (Rd.lss rfl rfl) ?_) | refine zU ?_ | refine zV ?_ | refine zZ ?_
    refine zO rfl (by first | exact Rd.pT rfl | exact Rd.pF rfl | exact Rd.pP rfl) ?_
    refine zO rfl Rd.mv ?_
    first | ((first | refine zW ?_ | refine zQ ?_); refine zO rfl (Rd.ldC rfl (tyrow rfl) rfl) ?_) | refine zU ?_ | refine zV ?_ | refine zZ ?_
    first | ((first | refine zW ?_ | refine zQ ?_); refine zO rfl (Rd.gtr rfl rfl) ?_) | refine zU ?_ | refine zV ?_ | refine zZ ?_
    refine zO rfl (by first | exact Rd.pT rfl | exact Rd.pF rfl | exact Rd.pP rfl) ?_
    refine zN ?_; refine zT ?_
    refine XA.condF rfl (by first | rfl | exact decide_eq_false (by omega)) ?_
    refine XA.skip ?_
    refine zT ?_
    refine XTA.seq ?_
    refine XA.join [(10, 10), (29, 36)] (fun x : Nat × (Nat × Nat) => [(10, ptr x.1)]) (fun x σ' Γ' => σ = σ' ∧ Γ' = [blk x.1 [ptr x.2.1] 95, blk x.2.1 [.slice pv p.vars.length cv, bs, .slice (some ⟨x.2.2, 0, none⟩) nc nc, .slice pi inp.length ci, .slice none 0 0, i64 f] 97, blk x.2.2 (ints (List.replicate nc 0)) 2, blk g3 [.slice pv p.vars.length cv, bs] 25, blk g5 [i64 f] 3, blk g6 ty63.zero 63, blk g7 ty3.zero 3]) ?_ ?_
    · skip
      refine XA.drawQ (by kernel_rfl) _ _ [6, 9] 10 #[false, false, false, false, false, false, false, false, false, false] rfl rfl (by kernel_rfl) (PH.sub.refl _) (Ent.sel (R := blk g3 _ _) (by ((repeat (first | with_reducible exact Sel.head | apply Sel.tail)); (first | done | fail))) (Ent.sel (R := blk g5 _ _) (by ((repeat (first | with_reducible exact Sel.head | apply Sel.tail)); (first | done | fail))) (Ent.nil _))) ?_
      refine XQA.rd (i := 0) (listed' := #[true, false, false, false, false, false, false, false, false, false]) rfl rfl (by kernel_rfl) rfl Gd.free (Rd.ldA rfl) ?_
      refine XQA.rd (i := 1) (listed' := #[true, true, false, false, false, false, false, false, false, false]) rfl rfl (by kernel_rfl) rfl Gd.free (Rd.ldA rfl) ?_
      refine XQA.pu (i := 4) (listed' := #[true, true, false, false, true, false, false, false, false, false]) rfl rfl (by kernel_rfl) rfl Gd.free Rd.mv ?_
      refine XQA.rd (i := 5) (listed' := #[true, true, false, false, true, true, false, false, false, false]) rfl rfl (by kernel_rfl) rfl Gd.free (Rd.ldC rfl (tyrow rfl) rfl) ?_
      refine XQA.w2 (i := 2) (j := 8) (by kernel_rfl) ?_ ?_
      · refine XQA1.wr0 (listed' := #[true, true, true, false, true, true, false, false, false, false]) rfl rfl Gd.free (by kernel_rfl) rfl (WrA.cE hcells rfl) ?_
        rintro _ _ _ ⟨_, ⟨rfl, rfl, rfl⟩, rfl⟩
        refine ⟨⟨(by first | exact PH.sub.refl _ | assumption | (refine PH.sub.trans ?_ (by assumption); assumption)), zE⟩, XQA.re (by conv => lhs; dsimp only [List.cons_append, List.nil_append]) ?_⟩
        refine XQA.w2 (i := 3) (j := 8) (by kernel_rfl) ?_ ?_
        · refine XQA1.wr0 (listed' := #[true, true, true, true, true, true, false, false, false, false]) rfl rfl Gd.free (by kernel_rfl) rfl (X.WrA.mkA (n := nc) (zs := ints (List.replicate nc 0)) (tyrow rfl) rfl (tyrow rfl) rfl rfl rfl rfl (by show 8 * nc ≤ _; omega) (by omega) (zeros_ints nc rfl)) ?_
          rintro _ _ _ ⟨g32, rfl, rfl, rfl⟩
          refine ⟨⟨(by first | exact PH.sub.refl _ | assumption | (refine PH.sub.trans ?_ (by assumption); assumption)), zE⟩, XQA.re (by conv => lhs; dsimp only [List.cons_append, List.nil_append]) ?_⟩
          refine XQA.pu (i := 6) (listed' := #[true, true, true, true, true, true, true, false, false, false]) rfl rfl (by kernel_rfl) rfl Gd.free (Rd.bl (fun _ _ => tyrow) rfl rfl rfl) ?_
          refine XQA.w2 (i := 7) (j := 8) (by kernel_rfl) ?_ ?_
          · refine XQA1.wr0 (listed' := #[true, true, true, true, true, true, true, true, false, false]) rfl rfl Gd.free (by kernel_rfl) rfl WrA.bx ?_
            rintro _ _ _ ⟨g36, rfl, rfl, rfl⟩
            refine ⟨⟨(by first | exact PH.sub.refl _ | assumption | (refine PH.sub.trans ?_ (by assumption); assumption)), zE⟩, XQA.re (by conv => lhs; dsimp only [List.cons_append, List.nil_append]) ?_⟩
            refine XQA.w1 (i := 8) (by kernel_rfl) ?_
            refine XQA1.wr0 (listed' := #[true, true, true, true, true, true, true, true, true, false]) rfl rfl Gd.free (by kernel_rfl) rfl (WrA.alloc (tyrow rfl)) ?_
            rintro _ _ _ ⟨g10, rfl, rfl, rfl⟩
            refine ⟨⟨(by first | exact PH.sub.refl _ | assumption | (refine PH.sub.trans ?_ (by assumption); assumption)), zE⟩, XQA.re (by conv => lhs; dsimp only [List.cons_append, List.nil_append]) ?_⟩
            refine XQA.w1 (i := 9) (by kernel_rfl) ?_
            refine XQA1.wrZ0 (listed' := #[true, true, true, true, true, true, true, true, true, true]) rfl rfl Gd.free (by kernel_rfl) rfl (by kernel_rfl) (WrA.st (tyrow rfl) rfl) ?_
            rintro _ _ _ ⟨rfl, rfl, rfl⟩
            refine XQA.re (by conv => lhs; dsimp only [List.cons_append, List.nil_append]) ?_
            refine XQA.nil rfl ?_
            refine DA.thn_normal ⟨(by (repeat (first | exact Keep.refl _ _ | refine Keep.upd ?_ rfl | refine Keep.updO ?_ rfl | refine Keep.updN ?_)); (first | done | fail)), (g10, (g36, g32)), _, (by (repeat (first | exact trivial | refine ⟨rfl, ?_⟩ | refine ⟨Eq.trans rfl (congrArg Value.bool hmat.symm), ?_⟩)); (first | done | fail)), ?_, rfl, rfl⟩; exact zE
          · refine XQA1.wr0 (listed' := #[true, true, true, true, true, true, true, false, true, false]) rfl rfl Gd.free (by kernel_rfl) rfl (WrA.alloc (tyrow rfl)) ?_
            rintro _ _ _ ⟨g10, rfl, rfl, rfl⟩
            refine ⟨⟨(by first | exact PH.sub.refl _ | assumption | (refine PH.sub.trans ?_ (by assumption); assumption)), zE⟩, XQA.re (by conv => lhs; dsimp only [List.cons_append, List.nil_append]) ?_⟩
            refine XQA.w1 (i := 7) (by kernel_rfl) ?_
            refine XQA1.wr0 (listed' := #[true, true, true, true, true, true, true, true, true, false]) rfl rfl Gd.free (by kernel_rfl) rfl WrA.bx ?_
            rintro _ _ _ ⟨g36, rfl, rfl, rfl⟩
            refine ⟨⟨(by first | exact PH.sub.refl _ | assumption | (refine PH.sub.trans ?_ (by assumption); assumption)), zE⟩, XQA.re (by conv => lhs; dsimp only [List.cons_append, List.nil_append]) ?_⟩
            refine XQA.w1 (i := 9) (by kernel_rfl) ?_
            refine XQA1.wrZ0 (listed' := #[true, true, true, true, true, true, true, true, true, true]) rfl rfl Gd.free (by kernel_rfl) rfl (by kernel_rfl) (WrA.st (tyrow rfl) rfl) ?_
            rintro _ _ _ ⟨rfl, rfl, rfl⟩
            refine XQA.re (by conv => lhs; dsimp only [List.cons_append, List.nil_append]) ?_
            refine XQA.nil rfl ?_
            refine DA.thn_normal ⟨(by (repeat (first | exact Keep.refl _ _ | refine Keep.upd ?_ rfl | refine Keep.updO ?_ rfl | refine Keep.updN ?_)); (first | done | fail)), (g10, (g36, g32)), _, (by (repeat (first | exact trivial | refine ⟨rfl, ?_⟩ | refine ⟨Eq.trans rfl (congrArg Value.bool hmat.symm), ?_⟩)); (first | done | fail)), ?_, rfl, rfl⟩; exact zE
        · refine XQA1.wr0 (listed' := #[true, true, true, false, true, true, false, false, true, false]) rfl rfl Gd.free (by kernel_rfl) rfl (WrA.alloc (tyrow rfl)) ?_
          rintro _ _ _ ⟨g10, rfl, rfl, rfl⟩
          refine ⟨⟨(by first | exact PH.sub.refl _ | assumption | (refine PH.sub.trans ?_ (by assumption); assumption)), zE⟩, XQA.re (by conv => lhs; dsimp only [List.cons_append, List.nil_append]) ?_⟩
          refine XQA.w1 (i := 3) (by kernel_rfl) ?_
          refine XQA1.wr0 (listed' := #[true, true, true, true, true, true, false, false, true, false]) rfl rfl Gd.free (by kernel_rfl) rfl (X.WrA.mkA (n := nc) (zs := ints (List.replicate nc 0)) (tyrow rfl) rfl (tyrow rfl) rfl rfl rfl rfl (by show 8 * nc ≤ _; omega) (by omega) (zeros_ints nc rfl)) ?_
          rintro _ _ _ ⟨g32, rfl, rfl, rfl⟩
          refine ⟨⟨(by first | exact PH.sub.refl _ | assumption | (refine PH.sub.trans ?_ (by assumption); assumption)), zE⟩, XQA.re (by conv => lhs; dsimp only [List.cons_append, List.nil_append]) ?_⟩
          refine XQA.pu (i := 6) (listed' := #[true, true, true, true, true, true, true, false, true, false]) rfl rfl (by kernel_rfl) rfl Gd.free (Rd.bl (fun _ _ => tyrow) rfl rfl rfl) ?_
          refine XQA.w1 (i := 7) (by kernel_rfl) ?_
          refine XQA1.wr0 (listed' := #[true, true, true, true, true, true, true, true, true, false]) rfl rfl Gd.free (by kernel_rfl) rfl WrA.bx ?_
          rintro _ _ _ ⟨g36, rfl, rfl, rfl⟩
          refine ⟨⟨(by first | exact PH.sub.refl _ | assumption | (refine PH.sub.trans ?_ (by assumption); assumption)), zE⟩, XQA.re (by conv => lhs; dsimp only [List.cons_append, List.nil_append]) ?_⟩
          refine XQA.w1 (i := 9) (by kernel_rfl) ?_
          refine XQA1.wrZ0 (listed' := #[true, true, true, true, true, true, true, true, true, true]) rfl rfl Gd.free (by kernel_rfl) rfl (by kernel_rfl) (WrA.st (tyrow rfl) rfl) ?_
          rintro _ _ _ ⟨rfl, rfl, rfl⟩
          refine XQA.re (by conv => lhs; dsimp only [List.cons_append, List.nil_append]) ?_
          refine XQA.nil rfl ?_
          refine DA.thn_normal ⟨(by (repeat (first | exact Keep.refl _ _ | refine Keep.upd ?_ rfl | refine Keep.updO ?_ rfl | refine Keep.updN ?_)); (first | done | fail)), (g10, (g36, g32)), _, (by (repeat (first | exact trivial | refine ⟨rfl, ?_⟩ | refine ⟨Eq.trans rfl (congrArg Value.bool hmat.symm), ?_⟩)); (first | done | fail)), ?_, rfl, rfl⟩; exact zE
      · refine XQA1.wr0 (listed' := #[true, true, false, false, true, true, false, false, true, false]) rfl rfl Gd.free (by kernel_rfl) rfl (WrA.alloc (tyrow rfl)) ?_
        rintro _ _ _ ⟨g10, rfl, rfl, rfl⟩
        refine ⟨⟨(by first | exact PH.sub.refl _ | assumption | (refine PH.sub.trans ?_ (by assumption); assumption)), zE⟩, XQA.re (by conv => lhs; dsimp only [List.cons_append, List.nil_append]) ?_⟩
        refine XQA.w1 (i := 2) (by kernel_rfl) ?_
        refine XQA1.wr0 (listed' := #[true, true, true, false, true, true, false, false, true, false]) rfl rfl Gd.free (by kernel_rfl) rfl (WrA.cE hcells rfl) ?_
        rintro _ _ _ ⟨_, ⟨rfl, rfl, rfl⟩, rfl⟩
        refine ⟨⟨(by first | exact PH.sub.refl _ | assumption | (refine PH.sub.trans ?_ (by assumption); assumption)), zE⟩, XQA.re (by conv => lhs; dsimp only [List.cons_append, List.nil_append]) ?_⟩
        refine XQA.w1 (i := 3) (by kernel_rfl) ?_
        refine XQA1.wr0 (listed' := #[true, true, true, true, true, true, false, false, true, false]) rfl rfl Gd.free (by kernel_rfl) rfl (X.WrA.mkA (n := nc) (zs := ints (List.replicate nc 0)) (tyrow rfl) rfl (tyrow rfl) rfl rfl rfl rfl (by show 8 * nc ≤ _; omega) (by omega) (zeros_ints nc rfl)) ?_
        rintro _ _ _ ⟨g32, rfl, rfl, rfl⟩
        refine ⟨⟨(by first | exact PH.sub.refl _ | assumption | (refine PH.sub.trans ?_ (by assumption); assumption)), zE⟩, XQA.re (by conv => lhs; dsimp only [List.cons_append, List.nil_append]) ?_⟩
        refine XQA.pu (i := 6) (listed' := #[true, true, true, true, true, true, true, false, true, false]) rfl rfl (by kernel_rfl) rfl Gd.free (Rd.bl (fun _ _ => tyrow) rfl rfl rfl) ?_
        refine XQA.w1 (i := 7) (by kernel_rfl) ?_
        refine XQA1.wr0 (listed' := #[true, true, true, true, true, true, true, true, true, false]) rfl rfl Gd.free (by kernel_rfl) rfl WrA.bx ?_
        rintro _ _ _ ⟨g36, rfl, rfl, rfl⟩
        refine ⟨⟨(by first | exact PH.sub.refl _ | assumption | (refine PH.sub.trans ?_ (by assumption); assumption)), zE⟩, XQA.re (by conv => lhs; dsimp only [List.cons_append, List.nil_append]) ?_⟩
        refine XQA.w1 (i := 9) (by kernel_rfl) ?_
        refine XQA1.wrZ0 (listed' := #[true, true, true, true, true, true, true, true, true, true]) rfl rfl Gd.free (by kernel_rfl) rfl (by kernel_rfl) (WrA.st (tyrow rfl) rfl) ?_
        rintro _ _ _ ⟨rfl, rfl, rfl⟩
        refine XQA.re (by conv => lhs; dsimp only [List.cons_append, List.nil_append]) ?_
        refine XQA.nil rfl ?_
        refine DA.thn_normal ⟨(by (repeat (first | exact Keep.refl _ _ | refine Keep.upd ?_ rfl | refine Keep.updO ?_ rfl | refine Keep.updN ?_)); (first | done | fail)), (g10, (g36, g32)), _, (by (repeat (first | exact trivial | refine ⟨rfl, ?_⟩ | refine ⟨Eq.trans rfl (congrArg Value.bool hmat.symm), ?_⟩)); (first | done | fail)), ?_, rfl, rfl⟩; exact zE
    rintro ⟨g10, g36, g32⟩ δ _ _ ⟨rfl, rfl⟩
    dsimp only [ovr, List.foldl]
    refine zT ?_
    refine XTA.defer (caps := #[ptr g10, ptr g5, ptr g6, ptr g7]) (enters Try.func52 rfl rfl) rfl (by simp only [List.map_toArray, List.map_cons, List.map_nil]) ?_
    refine XFA.seq ?_
    refine XFA.region ?_
    refine XFOA.rd rfl (Rd.ldC rfl (tyrow rfl) rfl) ?_
    refine XFOA.rd rfl (Rd.fA rfl) ?_
    refine XFOA.rd rfl (Rd.ldC rfl (tyrow rfl) rfl) ?_
    obtain ⟨g, r, hl, he⟩ := hrun
    have hnc2 : (sizes p.vars).toNat = nc := by omega
    have hst : start p inp f = ⟨List.replicate nc 0, inp, [], f⟩ := by rw [start, hnc2]
    rw [hst] at hl
    have hF : Fine p.vars nc ⟨List.replicate nc 0, inp, [], f⟩ := ⟨by simp, hnc.symm, by show f < _; omega, by show 0 + f < _; omega⟩
    have hL := list_r g σ p p.body (fun x _ => stmt_r σ p h1 hz hvl2 g x) bs g36 pv cv bs g32 nc _ (.slice pi inp.length ci) none 0 r hp0 hb hV hF hi hl
    have hle := listG_less (stG_less p.vars g) _ _ _ hl
    simp only [List.length_nil, show ints [] = [] from rfl] at hL
    cases r with
    | error q =>
      obtain ⟨c0, s0⟩ := q
      obtain ⟨cells, rin, out, left⟩ := s0
      have hle1 : left ≤ f := hle.left
      have hcl1 : cells.length = nc := by have := hle.cl; simpa [resS] using this
      refine XFOA.die rfl (EndS.err hL) rfl (by (repeat (first | exact Ent.all _ | (apply Ent.take; focus (first | ((repeat (first | with_reducible exact Sel.head | apply Sel.tail)); done) | ((repeat (first | exact Sel.head | apply Sel.tail)); done))) | apply Ent.takeNil | apply Ent.takeEmp)); (first | done | fail)) ?_
      rintro _ _ _ ⟨rfl, rfl, vi2, po2, co2, hvi2, rfl⟩
      have hrun2 : RunIs p inp f c0 ⟨cells, rin, out, left⟩ := ⟨g, _, by rw [hst]; exact hl, rfl⟩
      exact run_fin σ σ p inp _ rfl _ _ g10 g5 g6 g7 g36 g32 nc _ _ vi2 po2 co2 f left cells out rin c0 _ _ _ (.refl _) rfl rfl rfl hc0 (by omega) (by omega) hle1 hcl1 (by omega) hrun2
        (recov_p σ g10 g5 g6 g7 g36 g32 nc _ _ vi2 po2 _ co2 f left (by omega) hle1 _ _ rfl rfl c0) zE
    | ok s1 =>
      obtain ⟨cells, rin, out, left⟩ := s1
      have hle1 : left ≤ f := hle.left
      have hcl1 : cells.length = nc := by have := hle.cl; simpa [resS] using this
      refine XFOA.call rfl (EndS.ok hL) rfl (by (repeat (first | exact Ent.all _ | (apply Ent.take; focus (first | ((repeat (first | with_reducible exact Sel.head | apply Sel.tail)); done) | ((repeat (first | exact Sel.head | apply Sel.tail)); done))) | apply Ent.takeNil | apply Ent.takeEmp)); (first | done | fail)) ?_
      rintro _ _ _ ⟨rfl, rfl, vi2, po2, co2, hvi2, rfl⟩
      simp only [List.cons_append, List.nil_append]
      refine XFOA.nil ?_
      show XFA _ _ _ _ _ _ _
      refine XFA.seq ?_
      refine XFA.region ?_
      refine XFOA.rd rfl (Rd.ldC rfl (tyrow rfl) rfl) ?_
      cases left with
      | zero =>
        have hrun2 : RunIs p inp f 13 ⟨cells, rin, out, 0⟩ := ⟨g, _, by rw [hst]; exact hl, rfl⟩
        refine XFOA.die rfl (one_t σ g36 _ _ _ _ _) rfl (by (repeat (first | exact Ent.all _ | (apply Ent.take; focus (first | ((repeat (first | with_reducible exact Sel.head | apply Sel.tail)); done) | ((repeat (first | exact Sel.head | apply Sel.tail)); done))) | apply Ent.takeNil | apply Ent.takeEmp)); (first | done | fail)) ?_
        rintro _ _ _ ⟨rfl, rfl, rfl⟩
        exact run_fin σ σ p inp _ rfl _ _ g10 g5 g6 g7 g36 g32 nc _ _ vi2 po2 co2 f 0 cells out rin 13 _ _ _ (.refl _) rfl rfl rfl hc0 (by omega) (by omega) hle1 hcl1 (by omega) hrun2
          (recov_p σ g10 g5 g6 g7 g36 g32 nc _ _ vi2 po2 _ co2 f 0 (by omega) hle1 _ _ rfl rfl 13) zE
      | succ left =>
        have hrun2 : RunIs p inp f 0 ⟨cells, rin, out, left⟩ := ⟨g, _, by rw [hst]; exact hl, by simp [finR, oneS, endR]⟩
        refine XFOA.call rfl (one_f σ g36 _ _ _ _ _ left (by omega)) rfl (by (repeat (first | exact Ent.all _ | (apply Ent.take; focus (first | ((repeat (first | with_reducible exact Sel.head | apply Sel.tail)); done) | ((repeat (first | exact Sel.head | apply Sel.tail)); done))) | apply Ent.takeNil | apply Ent.takeEmp)); (first | done | fail)) ?_
        rintro _ _ _ ⟨rfl, rfl, rfl⟩
        refine XFOA.nil ?_
        show XFA _ _ _ _ _ _ _
        refine XFA.ret ?_
        exact run_fin σ σ p inp _ rfl _ _ g10 g5 g6 g7 g36 g32 nc _ _ vi2 po2 co2 f left cells out rin 0 _ _ _ (.refl _) rfl rfl rfl hc0 (by omega) (by omega) (by omega) hcl1 (by omega) hrun2
          (recov_n σ g10 g5 g6 g7 g36 g32 nc _ _ vi2 po2 _ co2 f left (by omega) (by omega) _ _ rfl rfl) zE
end Go.Proofs.Ytbbghdkndbpmmaa
