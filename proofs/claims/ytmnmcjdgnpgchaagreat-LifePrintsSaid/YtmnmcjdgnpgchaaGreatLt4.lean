/- Part 4 of 6 of what the claim needs: Je, Js, Jt, Ju, Jv, Mr, Jw, Ap, CdT, CdU, CdV, CdW, CdX, Kr, Kq, Na, Kz, Kf, Nb, Jx, Nc, Wb, Wp, Wc, Wd. -/
import Derived.Test.YtmnmcjdgnpgchaaGreatLt1
import Derived.Test.YtmnmcjdgnpgchaaGreatLt2
import Derived.Test.YtmnmcjdgnpgchaaGreatLt3
namespace Go.Proofs.YtmnmcjdgnpgchaaGreat
open Go X
set_option maxHeartbeats 1000000
def ExprR (σ : PH) (pr : Pr) (x : Ex) : Prop := ∀ (cs : List Value) (b : Nat) (pv : Option Addr) (cv : Nat) (bs : Value) (gc nc : Nat) (cells : List Int) (vi vo : Value) (f : Nat),
  PrAt σ [.slice pv pr.vars.length cv, bs] pr → ExAt σ cs x → ExV pr.vars.length x → cells.length = nc → (nc : Int) = sizes pr.vars → f < 1000000 →
  (∀ v f', exRun pr.vars cells x f = .ok (v, f') → CallsA Tryz.prog 94 #[ptr b, .agg cs.toArray] σ [blk b [.slice pv pr.vars.length cv, bs, .slice (some ⟨gc, 0, none⟩) nc nc, vi, vo, i64 f] 87, blk gc (ints cells) 2] (RetA fun r σ' Γ' => r = i64 v ∧ σ = σ' ∧ Γ' = [blk b [.slice pv pr.vars.length cv, bs, .slice (some ⟨gc, 0, none⟩) nc nc, vi, vo, i64 f'] 87, blk gc (ints cells) 2])) ∧
  (∀ c f', exRun pr.vars cells x f = .error (c, f') → CallsA Tryz.prog 94 #[ptr b, .agg cs.toArray] σ [blk b [.slice pv pr.vars.length cv, bs, .slice (some ⟨gc, 0, none⟩) nc nc, vi, vo, i64 f] 87, blk gc (ints cells) 2] (PanA fun ch σ' Γ' => ch = goneC c ∧ σ = σ' ∧ Γ' = [blk b [.slice pv pr.vars.length cv, bs, .slice (some ⟨gc, 0, none⟩) nc nc, vi, vo, i64 f'] 87, blk gc (ints cells) 2]))
theorem ints_at {l : List Int} {i : Nat} (h : i < l.length) : (ints l)[i]? = some (i64 (l.getD i 0)) := by
  simp [ints, List.getElem?_map, List.getElem?_eq_getElem h]
theorem list_0 {α : Type} {l : List α} (h : (l.length : Int) = 0) : l = [] := List.eq_nil_of_length_eq_zero (by omega)
theorem list_1 {α : Type} {l : List α} (h : (l.length : Int) = 1) : ∃ x, l = [x] := by
  match l, h with
  | [x], _ => exact ⟨x, rfl⟩
  | [], h => simp at h
  | _ :: _ :: _, h => simp at h; omega
theorem list_2 {α : Type} {l : List α} (h : (l.length : Int) = 2) : ∃ x y, l = [x, y] := by
  match l, h with
  | [x, y], _ => exact ⟨x, y, rfl⟩
  | [], h => simp at h
  | [_], h => simp at h
  | _ :: _ :: _ :: _, h => simp at h; omega
theorem expr_r (σ : PH) (pr : Pr) (h1 : ∀ x ∈ pr.vars, 1 ≤ x.size) (hz : ∀ x ∈ pr.vars, 0 ≤ x.size ∧ x.size ≤ 1000) (hvl : pr.vars.length ≤ 1000) (x : Ex) : ExprR σ pr x := by
  refine Ex.ind (P := ExprR σ pr) ?_ x
  intro op v k l ih cs b pv cv bs gc nc cells vi vo f hp hx hV hnc hsz hf
  obtain ⟨pl, cl, rfl, ho, hv, hk, hl⟩ := hx.inv
  simp only [Ex.op, Ex.v, Ex.n, Ex.l] at ho hv hk hl ⊢
  clear hx
  rw [ExV] at hV
  obtain ⟨hop, hlp, hvr, -, hsV⟩ := hV
  have hcl : cells.length = nc := hnc
  by_cases q1 : op = 1
  · subst q1
    obtain rfl : l = [] := list_0 hlp
    cases f with
    | zero =>
      have hr : exRun pr.vars cells (.mk 1 v k []) 0 = .error (13, 0) := rfl
      refine ⟨fun v' f' h => (by rw [hr] at h; cases h), fun c f' h => ?_⟩
      rw [hr] at h
      simp only [Except.error.injEq, Prod.mk.injEq] at h
      obtain ⟨rfl, rfl⟩ := h
      refine enterA2 Tryz.func94 rfl rfl rfl ?_
      refine zS (zR ?_)
      refine zw rfl WrA.bx ?_
      rintro _ _ _ ⟨g3, rfl, rfl, rfl⟩
      refine zO rfl Rd.asg ?_; refine zN (zT (zS (zR ?_)))
      refine zw rfl (WrA.alloc (tyrow rfl)) ?_
      rintro _ _ _ ⟨g5, rfl, rfl, rfl⟩
      refine zN (zT (zS (zS (zR (zV rfl rfl ?_))))); refine zB rfl rfl (tyrow rfl) rfl ?_; refine zO rfl (Rd.lenSlice (tyrow rfl) rfl rfl) ?_; refine zA rfl ?_; refine zN (zT (XA.block ?_))
      refine XA.unroll 1 ?_
      refine XAR.succ (zS (zR (zO rfl (Rd.lss rfl rfl) ?_))); refine zN (zT (zS (XA.condF rfl rfl (XA.exit (DA.thn_exit (DA.thn_exit (DA.inb_same (zT (zS (zR (zA rfl ?_)))))))))))
      refine XOA.die rfl (one_t σ b _ _ _ _ _) rfl ?_
      rintro _ _ _ ⟨rfl, rfl, rfl⟩
      refine DA.cl ?_
      repeat (first | refine DA.thn_panic ?_ | refine DA.inb_panic ?_)
      exact bodyA.panic zE ⟨rfl, rfl, rfl⟩
    | succ f =>
      have hr : exRun pr.vars cells (.mk 1 v k []) (f + 1) = .ok (k, f) := rfl
      refine ⟨fun v' f' h => ?_, fun c f' h => (by rw [hr] at h; cases h)⟩
      rw [hr] at h
      simp only [Except.ok.injEq, Prod.mk.injEq] at h
      obtain ⟨rfl, rfl⟩ := h
      refine enterA2 Tryz.func94 rfl rfl rfl ?_
      refine zS (zR ?_)
      refine zw rfl WrA.bx ?_
      rintro _ _ _ ⟨g3, rfl, rfl, rfl⟩
      refine zO rfl Rd.asg ?_; refine zN (zT (zS (zR ?_)))
      refine zw rfl (WrA.alloc (tyrow rfl)) ?_
      rintro _ _ _ ⟨g5, rfl, rfl, rfl⟩
      refine zN (zT (zS (zS (zR (zV rfl rfl ?_))))); refine zB rfl rfl (tyrow rfl) rfl ?_; refine zO rfl (Rd.lenSlice (tyrow rfl) rfl rfl) ?_; refine zA rfl ?_; refine zN (zT (XA.block ?_))
      refine XA.unroll 1 ?_
      refine XAR.succ (zS (zR (zO rfl (Rd.lss rfl rfl) ?_))); refine zN (zT (zS (XA.condF rfl rfl (XA.exit (DA.thn_exit (DA.thn_exit (DA.inb_same (zT (zS (zR (zA rfl ?_)))))))))))
      refine zw rfl (WrA.cE (one_f σ b _ _ _ _ _ f (by omega)) rfl) ?_
      rintro _ _ _ ⟨_, ⟨rfl, rfl, rfl⟩, rfl⟩
      refine XOA.cl ?_; refine zN (zT (zS (zS (zR (zV rfl rfl ?_))))); refine zB rfl rfl (tyrow rfl) rfl ?_; refine zN (zT (XA.block (zS (zR (zO rfl (Rd.eql rfl rfl) ?_))))); refine zO rfl Rd.asg ?_; refine zN (zT (XA.condT rfl rfl (zS (zR (zV rfl rfl ?_))))); refine zB rfl rfl (tyrow rfl) rfl ?_
      refine zO rfl Rd.asg ?_; refine zN (zT (XA.ret (DA.inb_ret (DA.thn_ret ?_))))
      exact bodyA.ret (ResA.one rfl rfl) zE ⟨rfl, rfl, rfl⟩
  by_cases q2 : op = 2
  · subst q2
    obtain rfl : l = [] := list_0 hlp
    have hv2 := hvr (.inl rfl)
    obtain ⟨vx, hvx, hsv, hc0, hc1, hc2⟩ := var_at h1 hv2
    have hat : (ints cells)[(cellOf pr.vars v + 0).toNat]? = some (i64 (cells.getD (cellOf pr.vars v).toNat 0)) := by rw [Int.add_zero]; exact ints_at (by omega)
    cases f with
    | zero =>
      have hr : exRun pr.vars cells (.mk 2 v k []) 0 = .error (13, 0) := rfl
      refine ⟨fun v' f' h => (by rw [hr] at h; cases h), fun c f' h => ?_⟩
      rw [hr] at h
      simp only [Except.error.injEq, Prod.mk.injEq] at h
      obtain ⟨rfl, rfl⟩ := h
      refine enterA2 Tryz.func94 rfl rfl rfl ?_
      refine zS (zR ?_)
      refine zw rfl WrA.bx ?_
      rintro _ _ _ ⟨g3, rfl, rfl, rfl⟩
      refine zO rfl Rd.asg ?_; refine zN (zT (zS (zR ?_)))
      refine zw rfl (WrA.alloc (tyrow rfl)) ?_
      rintro _ _ _ ⟨g5, rfl, rfl, rfl⟩
      refine zN (zT (zS (zS (zR (zV rfl rfl ?_))))); refine zB rfl rfl (tyrow rfl) rfl ?_; refine zO rfl (Rd.lenSlice (tyrow rfl) rfl rfl) ?_; refine zA rfl ?_; refine zN (zT (XA.block ?_))
      refine XA.unroll 1 ?_
      refine XAR.succ (zS (zR (zO rfl (Rd.lss rfl rfl) ?_))); refine zN (zT (zS (XA.condF rfl rfl (XA.exit (DA.thn_exit (DA.thn_exit (DA.inb_same (zT (zS (zR (zA rfl ?_)))))))))))
      refine XOA.die rfl (one_t σ b _ _ _ _ _) rfl ?_
      rintro _ _ _ ⟨rfl, rfl, rfl⟩
      refine DA.cl ?_
      repeat (first | refine DA.thn_panic ?_ | refine DA.inb_panic ?_)
      exact bodyA.panic zE ⟨rfl, rfl, rfl⟩
    | succ f =>
      have hr : exRun pr.vars cells (.mk 2 v k []) (f + 1) = .ok (cells.getD (cellOf pr.vars v).toNat 0, f) := rfl
      refine ⟨fun v' f' h => ?_, fun c f' h => (by rw [hr] at h; cases h)⟩
      rw [hr] at h
      simp only [Except.ok.injEq, Prod.mk.injEq] at h
      obtain ⟨rfl, rfl⟩ := h
      refine enterA2 Tryz.func94 rfl rfl rfl ?_
      refine zS (zR ?_)
      refine zw rfl WrA.bx ?_
      rintro _ _ _ ⟨g3, rfl, rfl, rfl⟩
      refine zO rfl Rd.asg ?_; refine zN (zT (zS (zR ?_)))
      refine zw rfl (WrA.alloc (tyrow rfl)) ?_
      rintro _ _ _ ⟨g5, rfl, rfl, rfl⟩
      refine zN (zT (zS (zS (zR (zV rfl rfl ?_))))); refine zB rfl rfl (tyrow rfl) rfl ?_; refine zO rfl (Rd.lenSlice (tyrow rfl) rfl rfl) ?_; refine zA rfl ?_; refine zN (zT (XA.block ?_))
      refine XA.unroll 1 ?_
      refine XAR.succ (zS (zR (zO rfl (Rd.lss rfl rfl) ?_))); refine zN (zT (zS (XA.condF rfl rfl (XA.exit (DA.thn_exit (DA.thn_exit (DA.inb_same (zT (zS (zR (zA rfl ?_)))))))))))
      refine zw rfl (WrA.cE (one_f σ b _ _ _ _ _ f (by omega)) rfl) ?_
      rintro _ _ _ ⟨_, ⟨rfl, rfl, rfl⟩, rfl⟩
      refine XOA.cl ?_; refine zN (zT (zS (zS (zR (zV rfl rfl ?_))))); refine zB rfl rfl (tyrow rfl) rfl ?_; refine zN (zT (XA.block (zS (zR (zO rfl (Rd.eql rfl rfl) ?_))))); refine zO rfl Rd.asg ?_; refine zN (zT (XA.condF rfl rfl (zS (zR (zO rfl (Rd.eql rfl rfl) ?_))))); refine zO rfl Rd.asg ?_
      refine zN (zT (XA.condT rfl rfl (zS ?_)))
      refine XA.draw (by kernel_rfl) _ _ [] [(0, .pu), (1, .pu), (2, .pu), (3, .rd), (4, .pu), (5, .pu), (6, .rd), (7, .wr), (8, .pu), (9, .rd), (10, .pu)] (by kernel_rfl) (PH.sub.refl _) (Ent.sel (R := blk b _ _) zL (Ent.sel (R := blk g3 _ _) zL (Ent.sel (R := blk gc _ _) zL (Ent.nil _)))) ?_
      refine zu rfl rfl Rd.mv ?_; refine zu rfl rfl (Rd.nilCheck rfl) ?_; refine zu rfl rfl (Rd.fA rfl) ?_; refine XPA.rd rfl rfl Gd.free (Rd.ldC rfl (tyrow rfl) rfl) ?_; refine zu rfl rfl Rd.mv ?_; refine zu rfl rfl (Rd.fA rfl) ?_
      refine XPA.rd rfl rfl Gd.free (Rd.ldC rfl (tyrow rfl) rfl) ?_
      refine XPA.wr0 rfl rfl Gd.free (WrA.cE (at_f σ b pr _ cv bs _ _ _ _ v 0 hp hz hvl hv2 (by decide) (by omega)) rfl) ?_
      rintro _ _ _ ⟨_, ⟨rfl, rfl, rfl⟩, rfl⟩
      refine stays (XPA.cl ?_)
      refine zu rfl rfl (Rd.ixS rfl rfl) ?_; refine XPA.rd rfl rfl Gd.free (Rd.ldC rfl (tyrow rfl) rfl) ?_; refine zu rfl rfl Rd.asg ?_; refine XPA.nil ?_; refine zT (XA.ret (DA.inb_ret (DA.thn_ret ?_)))
      exact bodyA.ret (ResA.one rfl rfl) zE ⟨rfl, rfl, rfl⟩
  by_cases q3 : op = 3
  · subst q3
    obtain ⟨x, rfl⟩ := list_1 hlp
    simp only [List.length_cons, List.length_nil, Nat.zero_add] at hl ⊢
    have hv2 := hvr (.inr rfl)
    obtain ⟨vx, hvx, hsv, hc0, hc1, hc2⟩ := var_at h1 hv2
    have hxV := hsV.mem x (by simp)
    obtain ⟨g, o, row, rfl, hrx, hrl, hrow⟩ := hl.at (show ([x] : List Ex)[0]? = some x from rfl)
    have hone := hrx.ones
    have hrow0 : PRow σ g o row := by simpa using hrow
    obtain ⟨ihk, ihe⟩ := ih x (by simp) row b pv cv bs gc nc cells vi vo f hp hrx hxV hnc hsz hf
    have hx1 := (exEnd pr.vars cells x f)
    cases e1 : exRun pr.vars cells x f with
    | error e =>
      obtain ⟨c0, f0⟩ := e
      have hr : exRun pr.vars cells (.mk 3 v k [x]) f = .error (c0, f0) := by rw [exRun, exsRun, e1]
      refine ⟨fun v' f' h => (by rw [hr] at h; cases h), fun c f' h => ?_⟩
      rw [hr] at h
      simp only [Except.error.injEq, Prod.mk.injEq] at h
      obtain ⟨rfl, rfl⟩ := h
      refine enterA2 Tryz.func94 rfl rfl rfl ?_
      refine zS (zR ?_)
      refine zw rfl WrA.bx ?_
      rintro _ _ _ ⟨g3, rfl, rfl, rfl⟩
      refine zO rfl Rd.asg ?_; refine zN (zT (zS (zR ?_)))
      refine zw rfl (WrA.alloc (tyrow rfl)) ?_
      rintro _ _ _ ⟨g5, rfl, rfl, rfl⟩
      refine zN (zT (zS (zS (zR (zV rfl rfl ?_))))); refine zB rfl rfl (tyrow rfl) rfl ?_; refine zO rfl (Rd.lenSlice (tyrow rfl) rfl rfl) ?_; refine zA rfl ?_; refine zN (zT (XA.block ?_))
      refine XA.unroll 2 ?_
      refine XAR.succ (zS (zR (zO rfl (Rd.lss rfl rfl) ?_))); refine zN (zT (zS (XA.condT rfl rfl (XA.skip (zT (zS (XA.block (zS (zR (zA rfl ?_)))))))))); refine zO rfl (Rd.ixS rfl rfl) ?_; refine zO rfl (Rd.ldA rfl) ?_
      refine zw rfl (WrA.alloc (tyrow rfl)) ?_
      rintro _ _ _ ⟨g7, rfl, rfl, rfl⟩
      refine zO rfl Rd.asg ?_
      refine zw rfl (WrA.st (tyrow rfl) rfl) ?_
      rintro _ _ _ ⟨rfl, rfl, rfl⟩
      refine zN (zT (zR (zA rfl ?_))); refine zA rfl ?_; refine zO rfl (Rd.ldA rfl) ?_
      refine XOA.die rfl (ihe c0 f0 e1) rfl ?_
      rintro _ _ _ ⟨rfl, rfl, rfl⟩
      refine DA.cl ?_
      repeat (first | refine DA.thn_panic ?_ | refine DA.inb_panic ?_)
      exact bodyA.panic zE ⟨rfl, rfl, rfl⟩
    | ok a =>
      obtain ⟨a, f1⟩ := a
      have hf1 := hx1.ok _ e1
      simp only at hf1
      have hspl : splice ty173.zero 0 [i64 a] = [i64 a, i64 0] := rfl
      cases f1 with
      | zero =>
        have hr : exRun pr.vars cells (.mk 3 v k [x]) f = .error (13, 0) := by rw [exRun, exsRun, e1]; rfl
        refine ⟨fun v' f' h => (by rw [hr] at h; cases h), fun c f' h => ?_⟩
        rw [hr] at h
        simp only [Except.error.injEq, Prod.mk.injEq] at h
        obtain ⟨rfl, rfl⟩ := h
        refine enterA2 Tryz.func94 rfl rfl rfl ?_
        refine zS (zR ?_)
        refine zw rfl WrA.bx ?_
        rintro _ _ _ ⟨g3, rfl, rfl, rfl⟩
        refine zO rfl Rd.asg ?_; refine zN (zT (zS (zR ?_)))
        refine zw rfl (WrA.alloc (tyrow rfl)) ?_
        rintro _ _ _ ⟨g5, rfl, rfl, rfl⟩
        refine zN (zT (zS (zS (zR (zV rfl rfl ?_))))); refine zB rfl rfl (tyrow rfl) rfl ?_; refine zO rfl (Rd.lenSlice (tyrow rfl) rfl rfl) ?_; refine zA rfl ?_; refine zN (zT (XA.block ?_))
        refine XA.unroll 2 ?_
        refine XAR.succ (zS (zR (zO rfl (Rd.lss rfl rfl) ?_))); refine zN (zT (zS (XA.condT rfl rfl (XA.skip (zT (zS (XA.block (zS (zR (zA rfl ?_)))))))))); refine zO rfl (Rd.ixS rfl rfl) ?_; refine zO rfl (Rd.ldA rfl) ?_
        refine zw rfl (WrA.alloc (tyrow rfl)) ?_
        rintro _ _ _ ⟨g7, rfl, rfl, rfl⟩
        refine zO rfl Rd.asg ?_
        refine zw rfl (WrA.st (tyrow rfl) rfl) ?_
        rintro _ _ _ ⟨rfl, rfl, rfl⟩
        refine zN (zT (zR (zA rfl ?_))); refine zA rfl ?_; refine zO rfl (Rd.ldA rfl) ?_
        refine zw rfl (WrA.cE (ihk a 0 e1) rfl) ?_
        rintro _ _ _ ⟨_, ⟨rfl, rfl, rfl⟩, rfl⟩
        refine XOA.cl ?_; refine zO rfl (Rd.ixA rfl rfl) ?_
        refine zw rfl (WrA.st (tyrow rfl) rfl) ?_
        rintro _ _ _ ⟨rfl, rfl, rfl⟩
        refine zN (DA.inb_normal (zT (zR (zO rfl zI ?_)))); refine zA rfl ?_; refine zN (zT (XAR.succ (zS (zR (zO rfl (Rd.lss rfl rfl) ?_))))); refine zN (zT (zS (XA.condF rfl rfl (XA.exit (DA.thn_exit (DA.thn_exit (DA.inb_same (zT (zS (zR (zA rfl ?_)))))))))))
        refine XOA.die rfl (one_t σ b _ _ _ _ _) rfl ?_
        rintro _ _ _ ⟨rfl, rfl, rfl⟩
        refine DA.cl ?_
        repeat (first | refine DA.thn_panic ?_ | refine DA.inb_panic ?_)
        exact bodyA.panic zE ⟨rfl, rfl, rfl⟩
      | succ f1 =>
        by_cases hka : a < 0 ∨ sizeV pr.vars v ≤ a
        · have hr : exRun pr.vars cells (.mk 3 v k [x]) f = .error (11, f1) := by rw [exRun, exsRun, e1]; show opRun pr.vars cells 3 v k [a] f1 = _; rw [opRun, if_neg (by decide), if_neg (by decide), if_pos rfl]; exact if_pos hka
          refine ⟨fun v' f' h => (by rw [hr] at h; cases h), fun c f' h => ?_⟩
          rw [hr] at h
          simp only [Except.error.injEq, Prod.mk.injEq] at h
          obtain ⟨rfl, rfl⟩ := h
          refine enterA2 Tryz.func94 rfl rfl rfl ?_
          refine zS (zR ?_)
          refine zw rfl WrA.bx ?_
          rintro _ _ _ ⟨g3, rfl, rfl, rfl⟩
          refine zO rfl Rd.asg ?_; refine zN (zT (zS (zR ?_)))
          refine zw rfl (WrA.alloc (tyrow rfl)) ?_
          rintro _ _ _ ⟨g5, rfl, rfl, rfl⟩
          refine zN (zT (zS (zS (zR (zV rfl rfl ?_))))); refine zB rfl rfl (tyrow rfl) rfl ?_; refine zO rfl (Rd.lenSlice (tyrow rfl) rfl rfl) ?_; refine zA rfl ?_; refine zN (zT (XA.block ?_))
          refine XA.unroll 2 ?_
          refine XAR.succ (zS (zR (zO rfl (Rd.lss rfl rfl) ?_))); refine zN (zT (zS (XA.condT rfl rfl (XA.skip (zT (zS (XA.block (zS (zR (zA rfl ?_)))))))))); refine zO rfl (Rd.ixS rfl rfl) ?_; refine zO rfl (Rd.ldA rfl) ?_
          refine zw rfl (WrA.alloc (tyrow rfl)) ?_
          rintro _ _ _ ⟨g7, rfl, rfl, rfl⟩
          refine zO rfl Rd.asg ?_
          refine zw rfl (WrA.st (tyrow rfl) rfl) ?_
          rintro _ _ _ ⟨rfl, rfl, rfl⟩
          refine zN (zT (zR (zA rfl ?_))); refine zA rfl ?_; refine zO rfl (Rd.ldA rfl) ?_
          refine zw rfl (WrA.cE (ihk a (f1 + 1) e1) rfl) ?_
          rintro _ _ _ ⟨_, ⟨rfl, rfl, rfl⟩, rfl⟩
          refine XOA.cl ?_; refine zO rfl (Rd.ixA rfl rfl) ?_
          refine zw rfl (WrA.st (tyrow rfl) rfl) ?_
          rintro _ _ _ ⟨rfl, rfl, rfl⟩
          refine zN (DA.inb_normal (zT (zR (zO rfl zI ?_)))); refine zA rfl ?_; refine zN (zT (XAR.succ (zS (zR (zO rfl (Rd.lss rfl rfl) ?_))))); refine zN (zT (zS (XA.condF rfl rfl (XA.exit (DA.thn_exit (DA.thn_exit (DA.inb_same (zT (zS (zR (zA rfl ?_)))))))))))
          refine zw rfl (WrA.cE (one_f σ b _ _ _ _ _ f1 (by omega)) rfl) ?_
          rintro _ _ _ ⟨_, ⟨rfl, rfl, rfl⟩, rfl⟩
          refine XOA.cl ?_; refine zN (zT (zS (zS (zR (zV rfl rfl ?_))))); refine zB rfl rfl (tyrow rfl) rfl ?_; refine zN (zT (XA.block (zS (zR (zO rfl (Rd.eql rfl rfl) ?_))))); refine zO rfl Rd.asg ?_; refine zN (zT (XA.condF rfl rfl (zS (zR (zO rfl (Rd.eql rfl rfl) ?_))))); refine zO rfl Rd.asg ?_
          refine zN (zT (XA.condF rfl rfl (zS (zR (zO rfl (Rd.eql rfl rfl) ?_))))); refine zO rfl Rd.asg ?_; refine zN (zT (XA.condT rfl rfl (zS ?_)))
          refine XA.draw (by kernel_rfl) _ _ [] [(0, .pu), (1, .pu), (2, .pu), (3, .rd), (4, .pu), (5, .pu), (6, .rd), (7, .pu), (8, .rd), (9, .wr), (10, .pu), (11, .rd), (12, .pu)] (by kernel_rfl) (PH.sub.refl _) (Ent.sel (R := blk b _ _) zL (Ent.sel (R := blk g3 _ _) zL (Ent.sel (R := blk gc _ _) zL (Ent.sel (R := blk g5 _ _) zL (Ent.nil _))))) ?_
          refine zu rfl rfl Rd.mv ?_; refine zu rfl rfl (Rd.nilCheck rfl) ?_; refine zu rfl rfl (Rd.fA rfl) ?_; refine XPA.rd rfl rfl Gd.free (Rd.ldC rfl (tyrow rfl) rfl) ?_; refine zu rfl rfl Rd.mv ?_; refine zu rfl rfl (Rd.fA rfl) ?_
          refine XPA.rd rfl rfl Gd.free (Rd.ldC rfl (tyrow rfl) rfl) ?_; refine zu rfl rfl (Rd.ixA rfl rfl) ?_; refine XPA.rd rfl rfl Gd.free (Rd.ldC rfl (tyrow rfl) rfl) ?_
          refine XPA.die rfl rfl Gd.free (at_t σ b pr _ cv bs _ _ _ _ v a hp hz hvl hv2 hka) rfl ?_
          rintro _ _ _ ⟨rfl, rfl, rfl⟩
          refine DA.cl ?_
          repeat (first | refine DA.thn_panic ?_ | refine DA.inb_panic ?_)
          exact bodyA.panic zE ⟨rfl, rfl, rfl⟩
        · have hk0 : 0 ≤ a := by omega
          have hk1 : a < sizeV pr.vars v := by omega
          have hat : (ints cells)[(cellOf pr.vars v + a).toNat]? = some (i64 (cells.getD (cellOf pr.vars v + a).toNat 0)) := ints_at (by omega)
          have hr : exRun pr.vars cells (.mk 3 v k [x]) f = .ok (cells.getD (cellOf pr.vars v + a).toNat 0, f1) := by rw [exRun, exsRun, e1]; show opRun pr.vars cells 3 v k [a] f1 = _; rw [opRun, if_neg (by decide), if_neg (by decide), if_pos rfl]; exact if_neg hka
          refine ⟨fun v' f' h => ?_, fun c f' h => (by rw [hr] at h; cases h)⟩
          rw [hr] at h
          simp only [Except.ok.injEq, Prod.mk.injEq] at h
          obtain ⟨rfl, rfl⟩ := h
          refine enterA2 Tryz.func94 rfl rfl rfl ?_
          refine zS (zR ?_)
          refine zw rfl WrA.bx ?_
          rintro _ _ _ ⟨g3, rfl, rfl, rfl⟩
          refine zO rfl Rd.asg ?_; refine zN (zT (zS (zR ?_)))
          refine zw rfl (WrA.alloc (tyrow rfl)) ?_
          rintro _ _ _ ⟨g5, rfl, rfl, rfl⟩
          refine zN (zT (zS (zS (zR (zV rfl rfl ?_))))); refine zB rfl rfl (tyrow rfl) rfl ?_; refine zO rfl (Rd.lenSlice (tyrow rfl) rfl rfl) ?_; refine zA rfl ?_; refine zN (zT (XA.block ?_))
          refine XA.unroll 2 ?_
          refine XAR.succ (zS (zR (zO rfl (Rd.lss rfl rfl) ?_))); refine zN (zT (zS (XA.condT rfl rfl (XA.skip (zT (zS (XA.block (zS (zR (zA rfl ?_)))))))))); refine zO rfl (Rd.ixS rfl rfl) ?_; refine zO rfl (Rd.ldA rfl) ?_
          refine zw rfl (WrA.alloc (tyrow rfl)) ?_
          rintro _ _ _ ⟨g7, rfl, rfl, rfl⟩
          refine zO rfl Rd.asg ?_
          refine zw rfl (WrA.st (tyrow rfl) rfl) ?_
          rintro _ _ _ ⟨rfl, rfl, rfl⟩
          refine zN (zT (zR (zA rfl ?_))); refine zA rfl ?_; refine zO rfl (Rd.ldA rfl) ?_
          refine zw rfl (WrA.cE (ihk a (f1 + 1) e1) rfl) ?_
          rintro _ _ _ ⟨_, ⟨rfl, rfl, rfl⟩, rfl⟩
          refine XOA.cl ?_; refine zO rfl (Rd.ixA rfl rfl) ?_
          refine zw rfl (WrA.st (tyrow rfl) rfl) ?_
          rintro _ _ _ ⟨rfl, rfl, rfl⟩
          refine zN (DA.inb_normal (zT (zR (zO rfl zI ?_)))); refine zA rfl ?_; refine zN (zT (XAR.succ (zS (zR (zO rfl (Rd.lss rfl rfl) ?_))))); refine zN (zT (zS (XA.condF rfl rfl (XA.exit (DA.thn_exit (DA.thn_exit (DA.inb_same (zT (zS (zR (zA rfl ?_)))))))))))
          refine zw rfl (WrA.cE (one_f σ b _ _ _ _ _ f1 (by omega)) rfl) ?_
          rintro _ _ _ ⟨_, ⟨rfl, rfl, rfl⟩, rfl⟩
          refine XOA.cl ?_; refine zN (zT (zS (zS (zR (zV rfl rfl ?_))))); refine zB rfl rfl (tyrow rfl) rfl ?_; refine zN (zT (XA.block (zS (zR (zO rfl (Rd.eql rfl rfl) ?_))))); refine zO rfl Rd.asg ?_; refine zN (zT (XA.condF rfl rfl (zS (zR (zO rfl (Rd.eql rfl rfl) ?_))))); refine zO rfl Rd.asg ?_
          refine zN (zT (XA.condF rfl rfl (zS (zR (zO rfl (Rd.eql rfl rfl) ?_))))); refine zO rfl Rd.asg ?_; refine zN (zT (XA.condT rfl rfl (zS ?_)))
          refine XA.draw (by kernel_rfl) _ _ [] [(0, .pu), (1, .pu), (2, .pu), (3, .rd), (4, .pu), (5, .pu), (6, .rd), (7, .pu), (8, .rd), (9, .wr), (10, .pu), (11, .rd), (12, .pu)] (by kernel_rfl) (PH.sub.refl _) (Ent.sel (R := blk b _ _) zL (Ent.sel (R := blk g3 _ _) zL (Ent.sel (R := blk gc _ _) zL (Ent.sel (R := blk g5 _ _) zL (Ent.nil _))))) ?_
          refine zu rfl rfl Rd.mv ?_; refine zu rfl rfl (Rd.nilCheck rfl) ?_; refine zu rfl rfl (Rd.fA rfl) ?_; refine XPA.rd rfl rfl Gd.free (Rd.ldC rfl (tyrow rfl) rfl) ?_; refine zu rfl rfl Rd.mv ?_; refine zu rfl rfl (Rd.fA rfl) ?_
          refine XPA.rd rfl rfl Gd.free (Rd.ldC rfl (tyrow rfl) rfl) ?_; refine zu rfl rfl (Rd.ixA rfl rfl) ?_; refine XPA.rd rfl rfl Gd.free (Rd.ldC rfl (tyrow rfl) rfl) ?_
          refine XPA.wr0 rfl rfl Gd.free (WrA.cE (at_f σ b pr _ cv bs _ _ _ _ v a hp hz hvl hv2 hk0 hk1) rfl) ?_
          rintro _ _ _ ⟨_, ⟨rfl, rfl, rfl⟩, rfl⟩
          refine stays (XPA.cl ?_)
          refine zu rfl rfl (Rd.ixS rfl rfl) ?_; refine XPA.rd rfl rfl Gd.free (Rd.ldC rfl (tyrow rfl) rfl) ?_; refine zu rfl rfl Rd.asg ?_; refine XPA.nil ?_; refine zT (XA.ret (DA.inb_ret (DA.thn_ret ?_)))
          exact bodyA.ret (ResA.one rfl rfl) zE ⟨rfl, rfl, rfl⟩
  have h48 : 4 ≤ op ∧ op ≤ 8 := by omega
  have hpo : partsOf op = 2 := by rw [partsOf, if_neg (by omega), if_neg q3, if_pos h48]
  obtain ⟨x, y, rfl⟩ := list_2 (hlp.trans hpo)
  simp only [List.length_cons, List.length_nil, Nat.zero_add, Nat.reduceAdd] at hl ⊢
  have hxV := hsV.mem x (by simp)
  have hyV := hsV.mem y (by simp)
  obtain ⟨g, o, row, rfl, hrx, hrl, hrow⟩ := hl.at (show ([x, y] : List Ex)[0]? = some x from rfl)
  obtain ⟨g', o', row', hpe, hry, hrl', hrow'⟩ := hl.at (show ([x, y] : List Ex)[1]? = some y from rfl)
  simp only [Option.some.injEq, Addr.mk.injEq, and_true] at hpe
  obtain ⟨rfl, rfl⟩ := hpe
  have hone := hrx.ones
  have hone' := hry.ones
  have hrow0 : PRow σ g o row := by simpa using hrow
  have hrow1 : PRow σ g (o + 4) row' := by simpa using hrow'
  clear hrow hrow'
  obtain ⟨ihk, ihe⟩ := ih x (by simp) row b pv cv bs gc nc cells vi vo f hp hrx hxV hnc hsz hf
  have hx1 := (exEnd pr.vars cells x f)
  cases e1 : exRun pr.vars cells x f with
  | error e =>
    obtain ⟨c0, f0⟩ := e
    have hr : exRun pr.vars cells (.mk op v k [x, y]) f = .error (c0, f0) := by rw [exRun, exsRun, e1]
    refine ⟨fun v' f' h => (by rw [hr] at h; cases h), fun c f' h => ?_⟩
    rw [hr] at h
    simp only [Except.error.injEq, Prod.mk.injEq] at h
    obtain ⟨rfl, rfl⟩ := h
    refine enterA2 Tryz.func94 rfl rfl rfl ?_
    refine zS (zR ?_)
    refine zw rfl WrA.bx ?_
    rintro _ _ _ ⟨g3, rfl, rfl, rfl⟩
    refine zO rfl Rd.asg ?_; refine zN (zT (zS (zR ?_)))
    refine zw rfl (WrA.alloc (tyrow rfl)) ?_
    rintro _ _ _ ⟨g5, rfl, rfl, rfl⟩
    refine zN (zT (zS (zS (zR (zV rfl rfl ?_))))); refine zB rfl rfl (tyrow rfl) rfl ?_; refine zO rfl (Rd.lenSlice (tyrow rfl) rfl rfl) ?_; refine zA rfl ?_; refine zN (zT (XA.block ?_))
    refine XA.unroll 3 ?_
    refine XAR.succ (zS (zR (zO rfl (Rd.lss rfl rfl) ?_))); refine zN (zT (zS (XA.condT rfl rfl (XA.skip (zT (zS (XA.block (zS (zR (zA rfl ?_)))))))))); refine zO rfl (Rd.ixS rfl rfl) ?_; refine zO rfl (Rd.ldA rfl) ?_
    refine zw rfl (WrA.alloc (tyrow rfl)) ?_
    rintro _ _ _ ⟨g7, rfl, rfl, rfl⟩
    refine zO rfl Rd.asg ?_
    refine zw rfl (WrA.st (tyrow rfl) rfl) ?_
    rintro _ _ _ ⟨rfl, rfl, rfl⟩
    refine zN (zT (zR (zA rfl ?_))); refine zA rfl ?_; refine zO rfl (Rd.ldA rfl) ?_
    refine XOA.die rfl (ihe c0 f0 e1) rfl ?_
    rintro _ _ _ ⟨rfl, rfl, rfl⟩
    refine DA.cl ?_
    repeat (first | refine DA.thn_panic ?_ | refine DA.inb_panic ?_)
    exact bodyA.panic zE ⟨rfl, rfl, rfl⟩
  | ok a =>
    obtain ⟨a, f1⟩ := a
    have hf1 := hx1.ok _ e1
    simp only at hf1
    have hspl : splice ty173.zero 0 [i64 a] = [i64 a, i64 0] := rfl
    obtain ⟨jhk, jhe⟩ := ih y (by simp) row' b pv cv bs gc nc cells vi vo f1 hp hry hyV hnc hsz (by omega)
    have hy1 := (exEnd pr.vars cells y f1)
    cases e2 : exRun pr.vars cells y f1 with
    | error e =>
      obtain ⟨c0, f0⟩ := e
      have hr : exRun pr.vars cells (.mk op v k [x, y]) f = .error (c0, f0) := by rw [exRun, exsRun, e1]; simp only [exsRun, e2]
      refine ⟨fun v' f' h => (by rw [hr] at h; cases h), fun c f' h => ?_⟩
      rw [hr] at h
      simp only [Except.error.injEq, Prod.mk.injEq] at h
      obtain ⟨rfl, rfl⟩ := h
      refine enterA2 Tryz.func94 rfl rfl rfl ?_
      refine zS (zR ?_)
      refine zw rfl WrA.bx ?_
      rintro _ _ _ ⟨g3, rfl, rfl, rfl⟩
      refine zO rfl Rd.asg ?_; refine zN (zT (zS (zR ?_)))
      refine zw rfl (WrA.alloc (tyrow rfl)) ?_
      rintro _ _ _ ⟨g5, rfl, rfl, rfl⟩
      refine zN (zT (zS (zS (zR (zV rfl rfl ?_))))); refine zB rfl rfl (tyrow rfl) rfl ?_; refine zO rfl (Rd.lenSlice (tyrow rfl) rfl rfl) ?_; refine zA rfl ?_; refine zN (zT (XA.block ?_))
      refine XA.unroll 3 ?_
      refine XAR.succ (zS (zR (zO rfl (Rd.lss rfl rfl) ?_))); refine zN (zT (zS (XA.condT rfl rfl (XA.skip (zT (zS (XA.block (zS (zR (zA rfl ?_)))))))))); refine zO rfl (Rd.ixS rfl rfl) ?_; refine zO rfl (Rd.ldA rfl) ?_
      refine zw rfl (WrA.alloc (tyrow rfl)) ?_
      rintro _ _ _ ⟨g7, rfl, rfl, rfl⟩
      refine zO rfl Rd.asg ?_
      refine zw rfl (WrA.st (tyrow rfl) rfl) ?_
      rintro _ _ _ ⟨rfl, rfl, rfl⟩
      refine zN (zT (zR (zA rfl ?_))); refine zA rfl ?_; refine zO rfl (Rd.ldA rfl) ?_
      refine zw rfl (WrA.cE (ihk a f1 e1) rfl) ?_
      rintro _ _ _ ⟨_, ⟨rfl, rfl, rfl⟩, rfl⟩
      refine XOA.cl ?_; refine zO rfl (Rd.ixA rfl rfl) ?_
      refine zw rfl (WrA.st (tyrow rfl) rfl) ?_
      rintro _ _ _ ⟨rfl, rfl, rfl⟩
      refine zN (DA.inb_normal (zT (zR (zO rfl zI ?_)))); refine zA rfl ?_; refine zN (zT (XAR.succ (zS (zR (zO rfl (Rd.lss rfl rfl) ?_))))); refine zN (zT (zS (XA.condT rfl rfl (XA.skip (zT (zS (XA.block (zS (zR (zA rfl ?_)))))))))); refine zO rfl (Rd.ixS rfl rfl) ?_; refine zO rfl (Rd.ldA rfl) ?_
      refine zw rfl (WrA.alloc (tyrow rfl)) ?_
      rintro _ _ _ ⟨g7, rfl, rfl, rfl⟩
      refine zO rfl Rd.asg ?_
      refine zw rfl (WrA.st (tyrow rfl) rfl) ?_
      rintro _ _ _ ⟨rfl, rfl, rfl⟩
      refine zN (zT (zR (zA rfl ?_))); refine zA rfl ?_; refine zO rfl (Rd.ldA rfl) ?_
      refine XOA.die rfl (jhe c0 f0 e2) rfl ?_
      rintro _ _ _ ⟨rfl, rfl, rfl⟩
      refine DA.cl ?_
      repeat (first | refine DA.thn_panic ?_ | refine DA.inb_panic ?_)
      exact bodyA.panic zE ⟨rfl, rfl, rfl⟩
    | ok c =>
      obtain ⟨c, f2⟩ := c
      have hf2 := hy1.ok _ e2
      simp only at hf2
      have hspl2 : splice [i64 a, i64 0] 1 [i64 c] = [i64 a, i64 c] := rfl
      cases f2 with
      | zero =>
        have hr : exRun pr.vars cells (.mk op v k [x, y]) f = .error (13, 0) := by rw [exRun, exsRun, e1]; simp only [exsRun, e2]; rfl
        refine ⟨fun v' f' h => (by rw [hr] at h; cases h), fun c f' h => ?_⟩
        rw [hr] at h
        simp only [Except.error.injEq, Prod.mk.injEq] at h
        obtain ⟨rfl, rfl⟩ := h
        refine enterA2 Tryz.func94 rfl rfl rfl ?_
        refine zS (zR ?_)
        refine zw rfl WrA.bx ?_
        rintro _ _ _ ⟨g3, rfl, rfl, rfl⟩
        refine zO rfl Rd.asg ?_; refine zN (zT (zS (zR ?_)))
        refine zw rfl (WrA.alloc (tyrow rfl)) ?_
        rintro _ _ _ ⟨g5, rfl, rfl, rfl⟩
        refine zN (zT (zS (zS (zR (zV rfl rfl ?_))))); refine zB rfl rfl (tyrow rfl) rfl ?_; refine zO rfl (Rd.lenSlice (tyrow rfl) rfl rfl) ?_; refine zA rfl ?_; refine zN (zT (XA.block ?_))
        refine XA.unroll 3 ?_
        refine XAR.succ (zS (zR (zO rfl (Rd.lss rfl rfl) ?_))); refine zN (zT (zS (XA.condT rfl rfl (XA.skip (zT (zS (XA.block (zS (zR (zA rfl ?_)))))))))); refine zO rfl (Rd.ixS rfl rfl) ?_; refine zO rfl (Rd.ldA rfl) ?_
        refine zw rfl (WrA.alloc (tyrow rfl)) ?_
        rintro _ _ _ ⟨g7, rfl, rfl, rfl⟩
        refine zO rfl Rd.asg ?_
        refine zw rfl (WrA.st (tyrow rfl) rfl) ?_
        rintro _ _ _ ⟨rfl, rfl, rfl⟩
        refine zN (zT (zR (zA rfl ?_))); refine zA rfl ?_; refine zO rfl (Rd.ldA rfl) ?_
        refine zw rfl (WrA.cE (ihk a f1 e1) rfl) ?_
        rintro _ _ _ ⟨_, ⟨rfl, rfl, rfl⟩, rfl⟩
        refine XOA.cl ?_; refine zO rfl (Rd.ixA rfl rfl) ?_
        refine zw rfl (WrA.st (tyrow rfl) rfl) ?_
        rintro _ _ _ ⟨rfl, rfl, rfl⟩
        refine zN (DA.inb_normal (zT (zR (zO rfl zI ?_)))); refine zA rfl ?_; refine zN (zT (XAR.succ (zS (zR (zO rfl (Rd.lss rfl rfl) ?_))))); refine zN (zT (zS (XA.condT rfl rfl (XA.skip (zT (zS (XA.block (zS (zR (zA rfl ?_)))))))))); refine zO rfl (Rd.ixS rfl rfl) ?_; refine zO rfl (Rd.ldA rfl) ?_
        refine zw rfl (WrA.alloc (tyrow rfl)) ?_
        rintro _ _ _ ⟨g7, rfl, rfl, rfl⟩
        refine zO rfl Rd.asg ?_
        refine zw rfl (WrA.st (tyrow rfl) rfl) ?_
        rintro _ _ _ ⟨rfl, rfl, rfl⟩
        refine zN (zT (zR (zA rfl ?_))); refine zA rfl ?_; refine zO rfl (Rd.ldA rfl) ?_
        refine zw rfl (WrA.cE (jhk c 0 e2) rfl) ?_
        rintro _ _ _ ⟨_, ⟨rfl, rfl, rfl⟩, rfl⟩
        refine XOA.cl ?_; refine zO rfl (Rd.ixA rfl rfl) ?_
        refine zw rfl (WrA.st (tyrow rfl) rfl) ?_
        rintro _ _ _ ⟨rfl, rfl, rfl⟩
        refine zN (DA.inb_normal (zT (zR (zO rfl zI ?_)))); refine zA rfl ?_; refine zN (zT (XAR.succ (zS (zR (zO rfl (Rd.lss rfl rfl) ?_))))); refine zN (zT (zS (XA.condF rfl rfl (XA.exit (DA.thn_exit (DA.thn_exit (DA.inb_same (zT (zS (zR (zA rfl ?_)))))))))))
        refine XOA.die rfl (one_t σ b _ _ _ _ _) rfl ?_
        rintro _ _ _ ⟨rfl, rfl, rfl⟩
        refine DA.cl ?_
        repeat (first | refine DA.thn_panic ?_ | refine DA.inb_panic ?_)
        exact bodyA.panic zE ⟨rfl, rfl, rfl⟩
      | succ f2 =>
        have hr : exRun pr.vars cells (.mk op v k [x, y]) f = .ok (binV op a c, f2) := by
          rw [exRun, exsRun, e1]; simp only [exsRun, e2]; show opRun pr.vars cells op v k [a, c] f2 = _
          rw [opRun, if_neg q1, if_neg q2, if_neg q3]; rfl
        by_cases q4 : op = 4
        · subst q4
          refine ⟨fun v' f' h => ?_, fun c f' h => (by rw [hr] at h; cases h)⟩
          rw [hr] at h
          simp only [Except.ok.injEq, Prod.mk.injEq] at h
          obtain ⟨rfl, rfl⟩ := h
          refine enterA2 Tryz.func94 rfl rfl rfl ?_
          refine zS (zR ?_)
          refine zw rfl WrA.bx ?_
          rintro _ _ _ ⟨g3, rfl, rfl, rfl⟩
          refine zO rfl Rd.asg ?_; refine zN (zT (zS (zR ?_)))
          refine zw rfl (WrA.alloc (tyrow rfl)) ?_
          rintro _ _ _ ⟨g5, rfl, rfl, rfl⟩
          refine zN (zT (zS (zS (zR (zV rfl rfl ?_))))); refine zB rfl rfl (tyrow rfl) rfl ?_; refine zO rfl (Rd.lenSlice (tyrow rfl) rfl rfl) ?_; refine zA rfl ?_; refine zN (zT (XA.block ?_))
          refine XA.unroll 3 ?_
          refine XAR.succ (zS (zR (zO rfl (Rd.lss rfl rfl) ?_))); refine zN (zT (zS (XA.condT rfl rfl (XA.skip (zT (zS (XA.block (zS (zR (zA rfl ?_)))))))))); refine zO rfl (Rd.ixS rfl rfl) ?_; refine zO rfl (Rd.ldA rfl) ?_
          refine zw rfl (WrA.alloc (tyrow rfl)) ?_
          rintro _ _ _ ⟨g7, rfl, rfl, rfl⟩
          refine zO rfl Rd.asg ?_
          refine zw rfl (WrA.st (tyrow rfl) rfl) ?_
          rintro _ _ _ ⟨rfl, rfl, rfl⟩
          refine zN (zT (zR (zA rfl ?_))); refine zA rfl ?_; refine zO rfl (Rd.ldA rfl) ?_
          refine zw rfl (WrA.cE (ihk a f1 e1) rfl) ?_
          rintro _ _ _ ⟨_, ⟨rfl, rfl, rfl⟩, rfl⟩
          refine XOA.cl ?_; refine zO rfl (Rd.ixA rfl rfl) ?_
          refine zw rfl (WrA.st (tyrow rfl) rfl) ?_
          rintro _ _ _ ⟨rfl, rfl, rfl⟩
          refine zN (DA.inb_normal (zT (zR (zO rfl zI ?_)))); refine zA rfl ?_; refine zN (zT (XAR.succ (zS (zR (zO rfl (Rd.lss rfl rfl) ?_))))); refine zN (zT (zS (XA.condT rfl rfl (XA.skip (zT (zS (XA.block (zS (zR (zA rfl ?_)))))))))); refine zO rfl (Rd.ixS rfl rfl) ?_; refine zO rfl (Rd.ldA rfl) ?_
          refine zw rfl (WrA.alloc (tyrow rfl)) ?_
          rintro _ _ _ ⟨g7, rfl, rfl, rfl⟩
          refine zO rfl Rd.asg ?_
          refine zw rfl (WrA.st (tyrow rfl) rfl) ?_
          rintro _ _ _ ⟨rfl, rfl, rfl⟩
          refine zN (zT (zR (zA rfl ?_))); refine zA rfl ?_; refine zO rfl (Rd.ldA rfl) ?_
          refine zw rfl (WrA.cE (jhk c (f2 + 1) e2) rfl) ?_
          rintro _ _ _ ⟨_, ⟨rfl, rfl, rfl⟩, rfl⟩
          refine XOA.cl ?_; refine zO rfl (Rd.ixA rfl rfl) ?_
          refine zw rfl (WrA.st (tyrow rfl) rfl) ?_
          rintro _ _ _ ⟨rfl, rfl, rfl⟩
          refine zN (DA.inb_normal (zT (zR (zO rfl zI ?_)))); refine zA rfl ?_; refine zN (zT (XAR.succ (zS (zR (zO rfl (Rd.lss rfl rfl) ?_))))); refine zN (zT (zS (XA.condF rfl rfl (XA.exit (DA.thn_exit (DA.thn_exit (DA.inb_same (zT (zS (zR (zA rfl ?_)))))))))))
          refine zw rfl (WrA.cE (one_f σ b _ _ _ _ _ f2 (by omega)) rfl) ?_
          rintro _ _ _ ⟨_, ⟨rfl, rfl, rfl⟩, rfl⟩
          refine XOA.cl ?_; refine zN (zT (zS (zS (zR (zV rfl rfl ?_))))); refine zB rfl rfl (tyrow rfl) rfl ?_; refine zN (zT (XA.block (zS (zR (zO rfl (Rd.eql rfl rfl) ?_))))); refine zO rfl Rd.asg ?_; refine zN (zT (XA.condF rfl rfl (zS (zR (zO rfl (Rd.eql rfl rfl) ?_))))); refine zO rfl Rd.asg ?_
          refine zN (zT (XA.condF rfl rfl (zS (zR (zO rfl (Rd.eql rfl rfl) ?_))))); refine zO rfl Rd.asg ?_; refine zN (zT (XA.condF rfl rfl (zS (zR (zO rfl (Rd.eql rfl rfl) ?_))))); refine zO rfl Rd.asg ?_; refine zN (zT (XA.condT rfl rfl (zS (zR (zO rfl (Rd.ixA rfl rfl) ?_)))))
          refine zB rfl rfl (tyrow rfl) rfl ?_; refine zO rfl (Rd.ixA rfl rfl) ?_; refine zB rfl rfl (tyrow rfl) rfl ?_; refine zO rfl zI ?_; refine zO rfl Rd.asg ?_; refine zN (zT (XA.ret (DA.inb_ret (DA.thn_ret ?_))))
          exact bodyA.ret (ResA.one rfl rfl) zE ⟨rfl, rfl, rfl⟩
        by_cases q5 : op = 5
        · subst q5
          refine ⟨fun v' f' h => ?_, fun c f' h => (by rw [hr] at h; cases h)⟩
          rw [hr] at h
          simp only [Except.ok.injEq, Prod.mk.injEq] at h
          obtain ⟨rfl, rfl⟩ := h
          refine enterA2 Tryz.func94 rfl rfl rfl ?_
          refine zS (zR ?_)
          refine zw rfl WrA.bx ?_
          rintro _ _ _ ⟨g3, rfl, rfl, rfl⟩
          refine zO rfl Rd.asg ?_; refine zN (zT (zS (zR ?_)))
          refine zw rfl (WrA.alloc (tyrow rfl)) ?_
          rintro _ _ _ ⟨g5, rfl, rfl, rfl⟩
          refine zN (zT (zS (zS (zR (zV rfl rfl ?_))))); refine zB rfl rfl (tyrow rfl) rfl ?_; refine zO rfl (Rd.lenSlice (tyrow rfl) rfl rfl) ?_; refine zA rfl ?_; refine zN (zT (XA.block ?_))
          refine XA.unroll 3 ?_
          refine XAR.succ (zS (zR (zO rfl (Rd.lss rfl rfl) ?_))); refine zN (zT (zS (XA.condT rfl rfl (XA.skip (zT (zS (XA.block (zS (zR (zA rfl ?_)))))))))); refine zO rfl (Rd.ixS rfl rfl) ?_; refine zO rfl (Rd.ldA rfl) ?_
          refine zw rfl (WrA.alloc (tyrow rfl)) ?_
          rintro _ _ _ ⟨g7, rfl, rfl, rfl⟩
          refine zO rfl Rd.asg ?_
          refine zw rfl (WrA.st (tyrow rfl) rfl) ?_
          rintro _ _ _ ⟨rfl, rfl, rfl⟩
          refine zN (zT (zR (zA rfl ?_))); refine zA rfl ?_; refine zO rfl (Rd.ldA rfl) ?_
          refine zw rfl (WrA.cE (ihk a f1 e1) rfl) ?_
          rintro _ _ _ ⟨_, ⟨rfl, rfl, rfl⟩, rfl⟩
          refine XOA.cl ?_; refine zO rfl (Rd.ixA rfl rfl) ?_
          refine zw rfl (WrA.st (tyrow rfl) rfl) ?_
          rintro _ _ _ ⟨rfl, rfl, rfl⟩
          refine zN (DA.inb_normal (zT (zR (zO rfl zI ?_)))); refine zA rfl ?_; refine zN (zT (XAR.succ (zS (zR (zO rfl (Rd.lss rfl rfl) ?_))))); refine zN (zT (zS (XA.condT rfl rfl (XA.skip (zT (zS (XA.block (zS (zR (zA rfl ?_)))))))))); refine zO rfl (Rd.ixS rfl rfl) ?_; refine zO rfl (Rd.ldA rfl) ?_
          refine zw rfl (WrA.alloc (tyrow rfl)) ?_
          rintro _ _ _ ⟨g7, rfl, rfl, rfl⟩
          refine zO rfl Rd.asg ?_
          refine zw rfl (WrA.st (tyrow rfl) rfl) ?_
          rintro _ _ _ ⟨rfl, rfl, rfl⟩
          refine zN (zT (zR (zA rfl ?_))); refine zA rfl ?_; refine zO rfl (Rd.ldA rfl) ?_
          refine zw rfl (WrA.cE (jhk c (f2 + 1) e2) rfl) ?_
          rintro _ _ _ ⟨_, ⟨rfl, rfl, rfl⟩, rfl⟩
          refine XOA.cl ?_; refine zO rfl (Rd.ixA rfl rfl) ?_
          refine zw rfl (WrA.st (tyrow rfl) rfl) ?_
          rintro _ _ _ ⟨rfl, rfl, rfl⟩
          refine zN (DA.inb_normal (zT (zR (zO rfl zI ?_)))); refine zA rfl ?_; refine zN (zT (XAR.succ (zS (zR (zO rfl (Rd.lss rfl rfl) ?_))))); refine zN (zT (zS (XA.condF rfl rfl (XA.exit (DA.thn_exit (DA.thn_exit (DA.inb_same (zT (zS (zR (zA rfl ?_)))))))))))
          refine zw rfl (WrA.cE (one_f σ b _ _ _ _ _ f2 (by omega)) rfl) ?_
          rintro _ _ _ ⟨_, ⟨rfl, rfl, rfl⟩, rfl⟩
          refine XOA.cl ?_; refine zN (zT (zS (zS (zR (zV rfl rfl ?_))))); refine zB rfl rfl (tyrow rfl) rfl ?_; refine zN (zT (XA.block (zS (zR (zO rfl (Rd.eql rfl rfl) ?_))))); refine zO rfl Rd.asg ?_; refine zN (zT (XA.condF rfl rfl (zS (zR (zO rfl (Rd.eql rfl rfl) ?_))))); refine zO rfl Rd.asg ?_
          refine zN (zT (XA.condF rfl rfl (zS (zR (zO rfl (Rd.eql rfl rfl) ?_))))); refine zO rfl Rd.asg ?_; refine zN (zT (XA.condF rfl rfl (zS (zR (zO rfl (Rd.eql rfl rfl) ?_))))); refine zO rfl Rd.asg ?_; refine zN (zT (XA.condF rfl rfl (zS (zR (zO rfl (Rd.eql rfl rfl) ?_))))); refine zO rfl Rd.asg ?_
          refine zN (zT (XA.condT rfl rfl (zS (zR (zO rfl (Rd.ixA rfl rfl) ?_))))); refine zB rfl rfl (tyrow rfl) rfl ?_; refine zO rfl (Rd.ixA rfl rfl) ?_; refine zB rfl rfl (tyrow rfl) rfl ?_; refine zO rfl (by first | exact Rd.sbi rfl rfl | exact Rd.sub rfl rfl) ?_; refine zO rfl Rd.asg ?_
          refine zN (zT (XA.ret (DA.inb_ret (DA.thn_ret ?_))))
          exact bodyA.ret (ResA.one rfl rfl) zE ⟨rfl, rfl, rfl⟩
        by_cases q6 : op = 6
        · subst q6
          refine ⟨fun v' f' h => ?_, fun c f' h => (by rw [hr] at h; cases h)⟩
          rw [hr] at h
          simp only [Except.ok.injEq, Prod.mk.injEq] at h
          obtain ⟨rfl, rfl⟩ := h
          refine enterA2 Tryz.func94 rfl rfl rfl ?_
          refine zS (zR ?_)
          refine zw rfl WrA.bx ?_
          rintro _ _ _ ⟨g3, rfl, rfl, rfl⟩
          refine zO rfl Rd.asg ?_; refine zN (zT (zS (zR ?_)))
          refine zw rfl (WrA.alloc (tyrow rfl)) ?_
          rintro _ _ _ ⟨g5, rfl, rfl, rfl⟩
          refine zN (zT (zS (zS (zR (zV rfl rfl ?_))))); refine zB rfl rfl (tyrow rfl) rfl ?_; refine zO rfl (Rd.lenSlice (tyrow rfl) rfl rfl) ?_; refine zA rfl ?_; refine zN (zT (XA.block ?_))
          refine XA.unroll 3 ?_
          refine XAR.succ (zS (zR (zO rfl (Rd.lss rfl rfl) ?_))); refine zN (zT (zS (XA.condT rfl rfl (XA.skip (zT (zS (XA.block (zS (zR (zA rfl ?_)))))))))); refine zO rfl (Rd.ixS rfl rfl) ?_; refine zO rfl (Rd.ldA rfl) ?_
          refine zw rfl (WrA.alloc (tyrow rfl)) ?_
          rintro _ _ _ ⟨g7, rfl, rfl, rfl⟩
          refine zO rfl Rd.asg ?_
          refine zw rfl (WrA.st (tyrow rfl) rfl) ?_
          rintro _ _ _ ⟨rfl, rfl, rfl⟩
          refine zN (zT (zR (zA rfl ?_))); refine zA rfl ?_; refine zO rfl (Rd.ldA rfl) ?_
          refine zw rfl (WrA.cE (ihk a f1 e1) rfl) ?_
          rintro _ _ _ ⟨_, ⟨rfl, rfl, rfl⟩, rfl⟩
          refine XOA.cl ?_; refine zO rfl (Rd.ixA rfl rfl) ?_
          refine zw rfl (WrA.st (tyrow rfl) rfl) ?_
          rintro _ _ _ ⟨rfl, rfl, rfl⟩
          refine zN (DA.inb_normal (zT (zR (zO rfl zI ?_)))); refine zA rfl ?_; refine zN (zT (XAR.succ (zS (zR (zO rfl (Rd.lss rfl rfl) ?_))))); refine zN (zT (zS (XA.condT rfl rfl (XA.skip (zT (zS (XA.block (zS (zR (zA rfl ?_)))))))))); refine zO rfl (Rd.ixS rfl rfl) ?_; refine zO rfl (Rd.ldA rfl) ?_
          refine zw rfl (WrA.alloc (tyrow rfl)) ?_
          rintro _ _ _ ⟨g7, rfl, rfl, rfl⟩
          refine zO rfl Rd.asg ?_
          refine zw rfl (WrA.st (tyrow rfl) rfl) ?_
          rintro _ _ _ ⟨rfl, rfl, rfl⟩
          refine zN (zT (zR (zA rfl ?_))); refine zA rfl ?_; refine zO rfl (Rd.ldA rfl) ?_
          refine zw rfl (WrA.cE (jhk c (f2 + 1) e2) rfl) ?_
          rintro _ _ _ ⟨_, ⟨rfl, rfl, rfl⟩, rfl⟩
          refine XOA.cl ?_; refine zO rfl (Rd.ixA rfl rfl) ?_
          refine zw rfl (WrA.st (tyrow rfl) rfl) ?_
          rintro _ _ _ ⟨rfl, rfl, rfl⟩
          refine zN (DA.inb_normal (zT (zR (zO rfl zI ?_)))); refine zA rfl ?_; refine zN (zT (XAR.succ (zS (zR (zO rfl (Rd.lss rfl rfl) ?_))))); refine zN (zT (zS (XA.condF rfl rfl (XA.exit (DA.thn_exit (DA.thn_exit (DA.inb_same (zT (zS (zR (zA rfl ?_)))))))))))
          refine zw rfl (WrA.cE (one_f σ b _ _ _ _ _ f2 (by omega)) rfl) ?_
          rintro _ _ _ ⟨_, ⟨rfl, rfl, rfl⟩, rfl⟩
          refine XOA.cl ?_; refine zN (zT (zS (zS (zR (zV rfl rfl ?_))))); refine zB rfl rfl (tyrow rfl) rfl ?_; refine zN (zT (XA.block (zS (zR (zO rfl (Rd.eql rfl rfl) ?_))))); refine zO rfl Rd.asg ?_; refine zN (zT (XA.condF rfl rfl (zS (zR (zO rfl (Rd.eql rfl rfl) ?_))))); refine zO rfl Rd.asg ?_
          refine zN (zT (XA.condF rfl rfl (zS (zR (zO rfl (Rd.eql rfl rfl) ?_))))); refine zO rfl Rd.asg ?_; refine zN (zT (XA.condF rfl rfl (zS (zR (zO rfl (Rd.eql rfl rfl) ?_))))); refine zO rfl Rd.asg ?_; refine zN (zT (XA.condF rfl rfl (zS (zR (zO rfl (Rd.eql rfl rfl) ?_))))); refine zO rfl Rd.asg ?_
          refine zN (zT (XA.condF rfl rfl (zS (zR (zO rfl (Rd.eql rfl rfl) ?_))))); refine zO rfl Rd.asg ?_; refine zN (zT (XA.condT rfl rfl (zS (zR (zO rfl (Rd.ixA rfl rfl) ?_))))); refine zB rfl rfl (tyrow rfl) rfl ?_; refine zO rfl (Rd.ixA rfl rfl) ?_; refine zB rfl rfl (tyrow rfl) rfl ?_
          refine zO rfl (by first | exact Rd.mli rfl rfl | exact Rd.mul rfl rfl) ?_; refine zO rfl Rd.asg ?_; refine zN (zT (XA.ret (DA.inb_ret (DA.thn_ret ?_))))
          exact bodyA.ret (ResA.one rfl rfl) zE ⟨rfl, rfl, rfl⟩
        by_cases q7 : op = 7
        · subst q7
          refine ⟨fun v' f' h => ?_, fun c f' h => (by rw [hr] at h; cases h)⟩
          rw [hr] at h
          simp only [Except.ok.injEq, Prod.mk.injEq] at h
          obtain ⟨rfl, rfl⟩ := h
          refine enterA2 Tryz.func94 rfl rfl rfl ?_
          refine zS (zR ?_)
          refine zw rfl WrA.bx ?_
          rintro _ _ _ ⟨g3, rfl, rfl, rfl⟩
          refine zO rfl Rd.asg ?_; refine zN (zT (zS (zR ?_)))
          refine zw rfl (WrA.alloc (tyrow rfl)) ?_
          rintro _ _ _ ⟨g5, rfl, rfl, rfl⟩
          refine zN (zT (zS (zS (zR (zV rfl rfl ?_))))); refine zB rfl rfl (tyrow rfl) rfl ?_; refine zO rfl (Rd.lenSlice (tyrow rfl) rfl rfl) ?_; refine zA rfl ?_; refine zN (zT (XA.block ?_))
          refine XA.unroll 3 ?_
          refine XAR.succ (zS (zR (zO rfl (Rd.lss rfl rfl) ?_))); refine zN (zT (zS (XA.condT rfl rfl (XA.skip (zT (zS (XA.block (zS (zR (zA rfl ?_)))))))))); refine zO rfl (Rd.ixS rfl rfl) ?_; refine zO rfl (Rd.ldA rfl) ?_
          refine zw rfl (WrA.alloc (tyrow rfl)) ?_
          rintro _ _ _ ⟨g7, rfl, rfl, rfl⟩
          refine zO rfl Rd.asg ?_
          refine zw rfl (WrA.st (tyrow rfl) rfl) ?_
          rintro _ _ _ ⟨rfl, rfl, rfl⟩
          refine zN (zT (zR (zA rfl ?_))); refine zA rfl ?_; refine zO rfl (Rd.ldA rfl) ?_
          refine zw rfl (WrA.cE (ihk a f1 e1) rfl) ?_
          rintro _ _ _ ⟨_, ⟨rfl, rfl, rfl⟩, rfl⟩
          refine XOA.cl ?_; refine zO rfl (Rd.ixA rfl rfl) ?_
          refine zw rfl (WrA.st (tyrow rfl) rfl) ?_
          rintro _ _ _ ⟨rfl, rfl, rfl⟩
          refine zN (DA.inb_normal (zT (zR (zO rfl zI ?_)))); refine zA rfl ?_; refine zN (zT (XAR.succ (zS (zR (zO rfl (Rd.lss rfl rfl) ?_))))); refine zN (zT (zS (XA.condT rfl rfl (XA.skip (zT (zS (XA.block (zS (zR (zA rfl ?_)))))))))); refine zO rfl (Rd.ixS rfl rfl) ?_; refine zO rfl (Rd.ldA rfl) ?_
          refine zw rfl (WrA.alloc (tyrow rfl)) ?_
          rintro _ _ _ ⟨g7, rfl, rfl, rfl⟩
          refine zO rfl Rd.asg ?_
          refine zw rfl (WrA.st (tyrow rfl) rfl) ?_
          rintro _ _ _ ⟨rfl, rfl, rfl⟩
          refine zN (zT (zR (zA rfl ?_))); refine zA rfl ?_; refine zO rfl (Rd.ldA rfl) ?_
          refine zw rfl (WrA.cE (jhk c (f2 + 1) e2) rfl) ?_
          rintro _ _ _ ⟨_, ⟨rfl, rfl, rfl⟩, rfl⟩
          refine XOA.cl ?_; refine zO rfl (Rd.ixA rfl rfl) ?_
          refine zw rfl (WrA.st (tyrow rfl) rfl) ?_
          rintro _ _ _ ⟨rfl, rfl, rfl⟩
          refine zN (DA.inb_normal (zT (zR (zO rfl zI ?_)))); refine zA rfl ?_; refine zN (zT (XAR.succ (zS (zR (zO rfl (Rd.lss rfl rfl) ?_))))); refine zN (zT (zS (XA.condF rfl rfl (XA.exit (DA.thn_exit (DA.thn_exit (DA.inb_same (zT (zS (zR (zA rfl ?_)))))))))))
          refine zw rfl (WrA.cE (one_f σ b _ _ _ _ _ f2 (by omega)) rfl) ?_
          rintro _ _ _ ⟨_, ⟨rfl, rfl, rfl⟩, rfl⟩
          refine XOA.cl ?_; refine zN (zT (zS (zS (zR (zV rfl rfl ?_))))); refine zB rfl rfl (tyrow rfl) rfl ?_; refine zN (zT (XA.block (zS (zR (zO rfl (Rd.eql rfl rfl) ?_))))); refine zO rfl Rd.asg ?_; refine zN (zT (XA.condF rfl rfl (zS (zR (zO rfl (Rd.eql rfl rfl) ?_))))); refine zO rfl Rd.asg ?_
          refine zN (zT (XA.condF rfl rfl (zS (zR (zO rfl (Rd.eql rfl rfl) ?_))))); refine zO rfl Rd.asg ?_; refine zN (zT (XA.condF rfl rfl (zS (zR (zO rfl (Rd.eql rfl rfl) ?_))))); refine zO rfl Rd.asg ?_; refine zN (zT (XA.condF rfl rfl (zS (zR (zO rfl (Rd.eql rfl rfl) ?_))))); refine zO rfl Rd.asg ?_
          refine zN (zT (XA.condF rfl rfl (zS (zR (zO rfl (Rd.eql rfl rfl) ?_))))); refine zO rfl Rd.asg ?_; refine zN (zT (XA.condF rfl rfl (zS (zR (zO rfl (Rd.eql rfl rfl) ?_))))); refine zO rfl Rd.asg ?_; refine zN (zT (XA.condT rfl rfl (zS (zR (zO rfl (Rd.ixA rfl rfl) ?_)))))
          refine zB rfl rfl (tyrow rfl) rfl ?_; refine zO rfl (Rd.ixA rfl rfl) ?_; refine zB rfl rfl (tyrow rfl) rfl ?_; refine zO rfl (Rd.lss rfl rfl) ?_
          refine zw rfl (WrA.cE (flag_a σ _) rfl) ?_
          rintro _ _ _ ⟨_, ⟨rfl, rfl, rfl⟩, rfl⟩
          refine XOA.cl ?_; refine zO rfl Rd.asg ?_; refine zN (zT (XA.ret (DA.inb_ret (DA.thn_ret ?_))))
          exact bodyA.ret (ResA.one rfl rfl) zE ⟨by simp [binV], rfl, rfl⟩
        by_cases q8 : op = 8
        · subst q8
          refine ⟨fun v' f' h => ?_, fun c f' h => (by rw [hr] at h; cases h)⟩
          rw [hr] at h
          simp only [Except.ok.injEq, Prod.mk.injEq] at h
          obtain ⟨rfl, rfl⟩ := h
          refine enterA2 Tryz.func94 rfl rfl rfl ?_
          refine zS (zR ?_)
          refine zw rfl WrA.bx ?_
          rintro _ _ _ ⟨g3, rfl, rfl, rfl⟩
          refine zO rfl Rd.asg ?_; refine zN (zT (zS (zR ?_)))
          refine zw rfl (WrA.alloc (tyrow rfl)) ?_
          rintro _ _ _ ⟨g5, rfl, rfl, rfl⟩
          refine zN (zT (zS (zS (zR (zV rfl rfl ?_))))); refine zB rfl rfl (tyrow rfl) rfl ?_; refine zO rfl (Rd.lenSlice (tyrow rfl) rfl rfl) ?_; refine zA rfl ?_; refine zN (zT (XA.block ?_))
          refine XA.unroll 3 ?_
          refine XAR.succ (zS (zR (zO rfl (Rd.lss rfl rfl) ?_))); refine zN (zT (zS (XA.condT rfl rfl (XA.skip (zT (zS (XA.block (zS (zR (zA rfl ?_)))))))))); refine zO rfl (Rd.ixS rfl rfl) ?_; refine zO rfl (Rd.ldA rfl) ?_
          refine zw rfl (WrA.alloc (tyrow rfl)) ?_
          rintro _ _ _ ⟨g7, rfl, rfl, rfl⟩
          refine zO rfl Rd.asg ?_
          refine zw rfl (WrA.st (tyrow rfl) rfl) ?_
          rintro _ _ _ ⟨rfl, rfl, rfl⟩
          refine zN (zT (zR (zA rfl ?_))); refine zA rfl ?_; refine zO rfl (Rd.ldA rfl) ?_
          refine zw rfl (WrA.cE (ihk a f1 e1) rfl) ?_
          rintro _ _ _ ⟨_, ⟨rfl, rfl, rfl⟩, rfl⟩
          refine XOA.cl ?_; refine zO rfl (Rd.ixA rfl rfl) ?_
          refine zw rfl (WrA.st (tyrow rfl) rfl) ?_
          rintro _ _ _ ⟨rfl, rfl, rfl⟩
          refine zN (DA.inb_normal (zT (zR (zO rfl zI ?_)))); refine zA rfl ?_; refine zN (zT (XAR.succ (zS (zR (zO rfl (Rd.lss rfl rfl) ?_))))); refine zN (zT (zS (XA.condT rfl rfl (XA.skip (zT (zS (XA.block (zS (zR (zA rfl ?_)))))))))); refine zO rfl (Rd.ixS rfl rfl) ?_; refine zO rfl (Rd.ldA rfl) ?_
          refine zw rfl (WrA.alloc (tyrow rfl)) ?_
          rintro _ _ _ ⟨g7, rfl, rfl, rfl⟩
          refine zO rfl Rd.asg ?_
          refine zw rfl (WrA.st (tyrow rfl) rfl) ?_
          rintro _ _ _ ⟨rfl, rfl, rfl⟩
          refine zN (zT (zR (zA rfl ?_))); refine zA rfl ?_; refine zO rfl (Rd.ldA rfl) ?_
          refine zw rfl (WrA.cE (jhk c (f2 + 1) e2) rfl) ?_
          rintro _ _ _ ⟨_, ⟨rfl, rfl, rfl⟩, rfl⟩
          refine XOA.cl ?_; refine zO rfl (Rd.ixA rfl rfl) ?_
          refine zw rfl (WrA.st (tyrow rfl) rfl) ?_
          rintro _ _ _ ⟨rfl, rfl, rfl⟩
          refine zN (DA.inb_normal (zT (zR (zO rfl zI ?_)))); refine zA rfl ?_; refine zN (zT (XAR.succ (zS (zR (zO rfl (Rd.lss rfl rfl) ?_))))); refine zN (zT (zS (XA.condF rfl rfl (XA.exit (DA.thn_exit (DA.thn_exit (DA.inb_same (zT (zS (zR (zA rfl ?_)))))))))))
          refine zw rfl (WrA.cE (one_f σ b _ _ _ _ _ f2 (by omega)) rfl) ?_
          rintro _ _ _ ⟨_, ⟨rfl, rfl, rfl⟩, rfl⟩
          refine XOA.cl ?_; refine zN (zT (zS (zS (zR (zV rfl rfl ?_))))); refine zB rfl rfl (tyrow rfl) rfl ?_; refine zN (zT (XA.block (zS (zR (zO rfl (Rd.eql rfl rfl) ?_))))); refine zO rfl Rd.asg ?_; refine zN (zT (XA.condF rfl rfl (zS (zR (zO rfl (Rd.eql rfl rfl) ?_))))); refine zO rfl Rd.asg ?_
          refine zN (zT (XA.condF rfl rfl (zS (zR (zO rfl (Rd.eql rfl rfl) ?_))))); refine zO rfl Rd.asg ?_; refine zN (zT (XA.condF rfl rfl (zS (zR (zO rfl (Rd.eql rfl rfl) ?_))))); refine zO rfl Rd.asg ?_; refine zN (zT (XA.condF rfl rfl (zS (zR (zO rfl (Rd.eql rfl rfl) ?_))))); refine zO rfl Rd.asg ?_
          refine zN (zT (XA.condF rfl rfl (zS (zR (zO rfl (Rd.eql rfl rfl) ?_))))); refine zO rfl Rd.asg ?_; refine zN (zT (XA.condF rfl rfl (zS (zR (zO rfl (Rd.eql rfl rfl) ?_))))); refine zO rfl Rd.asg ?_; refine zN (zT (XA.condF rfl rfl (XA.skip (DA.inb_normal (zT (zS (zR (zO rfl (Rd.ixA rfl rfl) ?_))))))))
          refine zB rfl rfl (tyrow rfl) rfl ?_; refine zO rfl (Rd.ixA rfl rfl) ?_; refine zB rfl rfl (tyrow rfl) rfl ?_; refine zO rfl (Rd.eql rfl rfl) ?_
          refine zw rfl (WrA.cE (flag_a σ _) rfl) ?_
          rintro _ _ _ ⟨_, ⟨rfl, rfl, rfl⟩, rfl⟩
          refine XOA.cl ?_; refine zO rfl Rd.asg ?_; refine zN (zT (XA.ret ?_))
          exact bodyA.ret (ResA.one rfl rfl) zE ⟨by simp [binV], rfl, rfl⟩
        omega
end Go.Proofs.YtmnmcjdgnpgchaaGreat

namespace Go.Proofs.YtmnmcjdgnpgchaaGreat
open Go X
set_option maxHeartbeats 1000000
def isF (vs : List Va) (cells : List Int) (x : Ex) (f : Nat) : XR Bool := match exRun vs cells x f with
  | .error e => .error e
  | .ok (n, k) => match oneF k with
    | .error e => .error e
    | .ok k' => .ok (decide (n ≠ 0), k')
theorem oneF_s (k : Nat) : oneF (k + 1) = .ok k := by simp [oneF]
theorem isS_isF (vs : List Va) (x : Ex) (cells inp out : List Int) (f : Nat) : isS vs x ⟨cells, inp, out, f⟩ = match isF vs cells x f with
    | .error (c, k) => .error (c, ⟨cells, inp, out, k⟩)
    | .ok (b, k) => .ok (b, ⟨cells, inp, out, k⟩) := by
  rw [isS, exS, isF]
  simp only
  cases exRun vs cells x f with
  | error e => rfl
  | ok a =>
    obtain ⟨n, k⟩ := a
    cases k with
    | zero => rfl
    | succ k => simp [oneS, oneF]
theorem is_r (σ : PH) (pr : Pr) (h1 : ∀ x ∈ pr.vars, 1 ≤ x.size) (hz : ∀ x ∈ pr.vars, 0 ≤ x.size ∧ x.size ≤ 1000) (hvl : pr.vars.length ≤ 1000) (x : Ex) (cs : List Value) (b : Nat) (pv : Option Addr) (cv : Nat) (bs : Value) (gc nc : Nat) (cells : List Int) (vi vo : Value) (f : Nat)
    (hp : PrAt σ [.slice pv pr.vars.length cv, bs] pr) (hx : ExAt σ cs x) (hV : ExV pr.vars.length x) (hnc : cells.length = nc) (hsz : (nc : Int) = sizes pr.vars) (hf : f < 1000000) :
    (∀ v f', isF pr.vars cells x f = .ok (v, f') → CallsA Tryz.prog 96 #[ptr b, .agg cs.toArray] σ [blk b [.slice pv pr.vars.length cv, bs, .slice (some ⟨gc, 0, none⟩) nc nc, vi, vo, i64 f] 87, blk gc (ints cells) 2] (RetA fun r σ' Γ' => r = .bool v ∧ σ = σ' ∧ Γ' = [blk b [.slice pv pr.vars.length cv, bs, .slice (some ⟨gc, 0, none⟩) nc nc, vi, vo, i64 f'] 87, blk gc (ints cells) 2])) ∧
    (∀ c f', isF pr.vars cells x f = .error (c, f') → CallsA Tryz.prog 96 #[ptr b, .agg cs.toArray] σ [blk b [.slice pv pr.vars.length cv, bs, .slice (some ⟨gc, 0, none⟩) nc nc, vi, vo, i64 f] 87, blk gc (ints cells) 2] (PanA fun ch σ' Γ' => ch = goneC c ∧ σ = σ' ∧ Γ' = [blk b [.slice pv pr.vars.length cv, bs, .slice (some ⟨gc, 0, none⟩) nc nc, vi, vo, i64 f'] 87, blk gc (ints cells) 2])) := by
  obtain ⟨ihk, ihe⟩ := expr_r σ pr h1 hz hvl x cs b pv cv bs gc nc cells vi vo f hp hx hV hnc hsz hf
  have hone := hx.ones
  have hln := hx.len
  have hx1 := exEnd pr.vars cells x f
  rw [isF]
  cases e1 : exRun pr.vars cells x f with
  | error e =>
    obtain ⟨c0, f0⟩ := e
    refine ⟨fun v f' h => (by cases h), fun c f' h => ?_⟩
    cases h
    refine enterA2 Tryz.func96 rfl rfl rfl ?_
    refine zS (zR ?_)
    refine zw rfl WrA.bx ?_
    rintro _ _ _ ⟨g3, rfl, rfl, rfl⟩
    refine zO rfl Rd.asg ?_; refine zN (zT (zS (zR (zA rfl ?_)))); refine zO rfl (Rd.ldA rfl) ?_
    refine XOA.die rfl (ihe c0 f0 e1) rfl ?_
    rintro _ _ _ ⟨rfl, rfl, rfl⟩
    refine DA.cl ?_
    repeat (first | refine DA.thn_panic ?_ | refine DA.inb_panic ?_)
    exact bodyA.panic zE ⟨rfl, rfl, rfl⟩
  | ok a =>
    obtain ⟨n, k⟩ := a
    have hf1 := hx1.ok _ e1
    simp only at hf1
    cases k with
    | zero =>
      refine ⟨fun v f' h => (by cases h), fun c f' h => ?_⟩
      cases h
      refine enterA2 Tryz.func96 rfl rfl rfl ?_
      refine zS (zR ?_)
      refine zw rfl WrA.bx ?_
      rintro _ _ _ ⟨g3, rfl, rfl, rfl⟩
      refine zO rfl Rd.asg ?_; refine zN (zT (zS (zR (zA rfl ?_)))); refine zO rfl (Rd.ldA rfl) ?_
      refine zw rfl (WrA.cE (ihk n 0 e1) rfl) ?_
      rintro _ _ _ ⟨_, ⟨rfl, rfl, rfl⟩, rfl⟩
      refine XOA.cl ?_; refine zO rfl Rd.asg ?_; refine zN (zT (zS (zR (zA rfl ?_))))
      refine XOA.die rfl (one_t σ b _ _ _ _ _) rfl ?_
      rintro _ _ _ ⟨rfl, rfl, rfl⟩
      refine DA.cl ?_
      repeat (first | refine DA.thn_panic ?_ | refine DA.inb_panic ?_)
      exact bodyA.panic zE ⟨rfl, rfl, rfl⟩
    | succ k =>
      simp only [oneF_s]
      refine ⟨fun v f' h => ?_, fun c f' h => (by cases h)⟩
      simp only [Except.ok.injEq, Prod.mk.injEq] at h
      obtain ⟨rfl, rfl⟩ := h
      refine enterA2 Tryz.func96 rfl rfl rfl ?_
      refine zS (zR ?_)
      refine zw rfl WrA.bx ?_
      rintro _ _ _ ⟨g3, rfl, rfl, rfl⟩
      refine zO rfl Rd.asg ?_; refine zN (zT (zS (zR (zA rfl ?_)))); refine zO rfl (Rd.ldA rfl) ?_
      refine zw rfl (WrA.cE (ihk n (k + 1) e1) rfl) ?_
      rintro _ _ _ ⟨_, ⟨rfl, rfl, rfl⟩, rfl⟩
      refine XOA.cl ?_; refine zO rfl Rd.asg ?_; refine zN (zT (zS (zR (zA rfl ?_))))
      refine zw rfl (WrA.cE (one_f σ b _ _ _ _ _ k (by omega)) rfl) ?_
      rintro _ _ _ ⟨_, ⟨rfl, rfl, rfl⟩, rfl⟩
      refine XOA.cl ?_; refine zN (zT (zS (zR (zA rfl ?_)))); refine zO rfl (Rd.neq rfl rfl) ?_; refine zO rfl Rd.asg ?_; refine zN (zT (XA.ret ?_))
      exact bodyA.ret (ResA.one rfl rfl) zE ⟨rfl, rfl, rfl⟩
theorem ints_cell (l : List Int) {i : Nat} (w : Int) (hi : i < l.length) : splice (ints l) i [i64 w] = ints (l.set i w) := by
  simp only [splice, ints, List.length_singleton, List.map_set]
  rw [List.set_eq_take_append_cons_drop, if_pos (by simpa using hi)]
  simp
def EndS (σ : PH) (mk : RS → Value → Option Addr → Nat → List HP) (r : RR) : Ending → PH → List HP → Prop := fun e σ' Γ' => match r, e with
  | .ok s', .returned v => v = .tuple #[] ∧ σ = σ' ∧ ∃ vi po co, PInts σ vi s'.inp ∧ Γ' = mk s' vi po co
  | .error (c, s'), .panicked ch => ch = goneC c ∧ σ = σ' ∧ ∃ vi po co, PInts σ vi s'.inp ∧ Γ' = mk s' vi po co
  | _, _ => False
theorem EndS.ok {P : Program} {f : FuncId} {vs : Array Value} {Γ : List HP} {σ : PH} {mk : RS → Value → Option Addr → Nat → List HP} {s' : RS} (h : CallsA P f vs σ Γ (EndS σ mk (.ok s'))) :
    CallsA P f vs σ Γ (RetA fun v σ' Γ' => v = .tuple #[] ∧ σ = σ' ∧ ∃ vi po co, PInts σ vi s'.inp ∧ Γ' = mk s' vi po co) := CallsA.mono h fun e _ _ he => by cases e <;> exact he
theorem EndS.err {P : Program} {f : FuncId} {vs : Array Value} {Γ : List HP} {σ : PH} {mk : RS → Value → Option Addr → Nat → List HP} {c : Int} {s' : RS} (h : CallsA P f vs σ Γ (EndS σ mk (.error (c, s')))) :
    CallsA P f vs σ Γ (PanA fun ch σ' Γ' => ch = goneC c ∧ σ = σ' ∧ ∃ vi po co, PInts σ vi s'.inp ∧ Γ' = mk s' vi po co) := CallsA.mono h fun e _ _ he => by cases e <;> exact he
@[reducible] def mkS (b : Nat) (pv : Option Addr) (nv cv : Nat) (bs : Value) (gc nc : Nat) : RS → Value → Option Addr → Nat → List HP := fun s vi po co => [blk b [.slice pv nv cv, bs, .slice (some ⟨gc, 0, none⟩) nc nc, vi, .slice po (s).out.length co, i64 (s).left] 87, blk gc (ints (s).cells) 2, lst 2 1 (.slice po (s).out.length co) (s).out.length (ints (s).out)]
structure Fine (vs : List Va) (nc : Nat) (s : RS) : Prop where
  cl : s.cells.length = nc
  sz : (nc : Int) = sizes vs
  left : s.left < 1000000
  out : s.out.length + s.left < 2000000
structure Less (s s' : RS) : Prop where
  cl : s'.cells.length = s.cells.length
  left : s'.left ≤ s.left
  out : s'.out.length + s'.left ≤ s.out.length + s.left
theorem Less.refl (s : RS) : Less s s := ⟨rfl, Nat.le_refl _, Nat.le_refl _⟩
theorem Less.trans {a b c : RS} (h : Less a b) (k : Less b c) : Less a c := ⟨k.cl.trans h.cl, Nat.le_trans k.left h.left, Nat.le_trans k.out h.out⟩
theorem Fine.less {vs : List Va} {nc : Nat} {s s' : RS} (h : Fine vs nc s) (k : Less s s') : Fine vs nc s' := ⟨k.cl.trans h.cl, h.sz, Nat.lt_of_le_of_lt k.left h.left, Nat.lt_of_le_of_lt k.out h.out⟩
def resS : RR → RS | .ok s => s | .error (_, s) => s
theorem exS_less (vs : List Va) (x : Ex) (s : RS) : (∀ v s', exS vs x s = .ok (v, s') → Less s s' ∧ s'.left ≤ s.left ∧ s' = { s with left := s'.left }) ∧ ∀ c s', exS vs x s = .error (c, s') → Less s s' := by
  have hx := exEnd vs s.cells x s.left
  rw [exS]
  cases e : exRun vs s.cells x s.left with
  | error q =>
    obtain ⟨c, k⟩ := q
    refine ⟨fun v s' h => (by cases h), fun c' s' h => ?_⟩
    cases h
    have := (hx.err _ _ e).1
    exact ⟨rfl, this, by show s.out.length + k ≤ _; omega⟩
  | ok q =>
    obtain ⟨n, k⟩ := q
    refine ⟨fun v s' h => ?_, fun c' s' h => (by cases h)⟩
    cases h
    have := hx.ok _ e
    exact ⟨⟨rfl, this, by show s.out.length + k ≤ _; simp only at this; omega⟩, this, rfl⟩
theorem oneS_less {s : RS} : (∀ s', oneS s = .ok s' → Less s s' ∧ s'.left + 1 = s.left ∧ s' = { s with left := s'.left }) ∧ ∀ c s', oneS s = .error (c, s') → s' = s ∧ c = 13 ∧ s.left = 0 := by
  rw [oneS]
  by_cases h : s.left = 0
  · rw [if_pos h]; exact ⟨fun s' h => (by cases h), fun c s' e => by cases e; exact ⟨rfl, rfl, h⟩⟩
  · rw [if_neg h]
    refine ⟨fun s' e => ?_, fun c s' e => (by cases e)⟩
    cases e
    exact ⟨⟨rfl, Nat.sub_le _ _, by show s.out.length + (s.left - 1) ≤ _; omega⟩, by show s.left - 1 + 1 = _; omega, rfl⟩
end Go.Proofs.YtmnmcjdgnpgchaaGreat

namespace Go.Proofs.YtmnmcjdgnpgchaaGreat
open Go X
set_option maxHeartbeats 1000000
theorem stG_5 (vs : List Va) (g : Nat) (v : Int) (e f : Ex) (body els : List St) (s : RS) : stG vs (g + 1) (.mk 5 v e f body els) s = match isS vs e s with
      | .error e => some (.error e)
      | .ok (false, s1) => some (.ok s1)
      | .ok (true, s1) => match listG (stG vs g) body s1 with
        | none => none
        | some (.error e) => some (.error e)
        | some (.ok s2) => match oneS s2 with
          | .error e => some (.error e)
          | .ok s3 => stG vs g (.mk 5 v e f body els) s3 := by rw [stG]; rfl
theorem stG_6 (vs : List Va) (g : Nat) (v : Int) (e f : Ex) (body els : List St) (s : RS) : stG vs (g + 1) (.mk 6 v e f body els) s = match isS vs e s with
      | .error e => some (.error e)
      | .ok (true, s1) => match listG (stG vs g) body s1 with
        | none => none
        | some (.error e) => some (.error e)
        | some (.ok s2) => some (oneS s2)
      | .ok (false, s1) => listG (stG vs g) els s1 := by rw [stG]; rfl
theorem isS_less (vs : List Va) (x : Ex) (s : RS) : (∀ v s', isS vs x s = .ok (v, s') → Less s s' ∧ s' = { s with left := s'.left }) ∧ ∀ c s', isS vs x s = .error (c, s') → Less s s' := by
  obtain ⟨h1, h2⟩ := exS_less vs x s
  rw [isS]
  cases e : exS vs x s with
  | error q => exact ⟨fun v s' h => (by cases h), fun c s' h => by cases h; exact h2 _ _ e⟩
  | ok q =>
    obtain ⟨n, s1⟩ := q
    obtain ⟨a1, a2, a3⟩ := h1 _ _ e
    obtain ⟨b1, b2⟩ := oneS_less (s := s1)
    simp only
    cases e2 : oneS s1 with
    | error q => obtain ⟨c0, s0⟩ := q; refine ⟨fun v s' h => (by cases h), fun c s' h => ?_⟩; cases h; obtain ⟨rfl, -, -⟩ := b2 _ _ e2; exact a1
    | ok s2 =>
      obtain ⟨c1, c2, c3⟩ := b1 _ e2
      refine ⟨fun v s' h => ?_, fun c s' h => (by cases h)⟩
      cases h
      exact ⟨a1.trans c1, by rw [a3] at c3; exact c3⟩
theorem listG_less {F : St → RS → Option RR} (hF : ∀ x s r, F x s = some r → Less s (resS r)) : ∀ (l : List St) (s : RS) (r : RR), listG F l s = some r → Less s (resS r)
  | [], s, r, h => by cases h; exact Less.refl s
  | x :: l, s, r, h => by
    rw [listG] at h
    cases e : F x s with
    | none => rw [e] at h; cases h
    | some q =>
      rw [e] at h
      have h1 := hF _ _ _ e
      cases q with
      | error q => cases h; exact h1
      | ok s1 => exact Less.trans h1 (listG_less hF l s1 r h)
theorem ofOne {s s1 : RS} (h : Less s s1) : Less s (resS (oneS s1)) := by
  obtain ⟨h1, h2⟩ := oneS_less (s := s1)
  cases e : oneS s1 with
  | error q => obtain ⟨c, s2⟩ := q; obtain ⟨rfl, -, -⟩ := h2 _ _ e; exact h
  | ok s2 => exact h.trans (h1 _ e).1
theorem stG_less (vs : List Va) : ∀ (g : Nat) (x : St) (s : RS) (r : RR), stG vs g x s = some r → Less s (resS r) := by
  intro g
  induction g with
  | zero => intro x s r h; cases h
  | succ g ih =>
    intro x s r h
    obtain ⟨op, v, e, f, body, els⟩ := x
    obtain ⟨x1, x2⟩ := exS_less vs e s
    by_cases q1 : op = 1
    · subst q1
      rw [stG, if_pos rfl] at h
      cases h
      rw [setS]
      cases e1 : exS vs e s with
      | error q => exact x2 _ _ e1
      | ok q =>
        have a1 := (x1 _ _ e1).1
        simp only
        obtain ⟨b1, b2⟩ := oneS_less (s := q.2)
        cases e2 : oneS q.2 with
        | error q => obtain ⟨c0, s0⟩ := q; obtain ⟨rfl, -, -⟩ := b2 _ _ e2; exact a1
        | ok s2 => have := a1.trans (b1 _ e2).1; exact ⟨by simp only [resS, List.length_set]; exact this.cl, this.left, this.out⟩
    by_cases q2 : op = 2
    · subst q2
      rw [stG, if_neg (by decide), if_pos rfl] at h
      cases h
      rw [putS]
      cases e1 : exS vs e s with
      | error q => exact x2 _ _ e1
      | ok q =>
        have a1 := (x1 _ _ e1).1
        simp only
        obtain ⟨y1, y2⟩ := exS_less vs f q.2
        cases e2 : exS vs f q.2 with
        | error q => exact a1.trans (y2 _ _ e2)
        | ok q' =>
          have a2 := a1.trans (y1 _ _ e2).1
          simp only
          obtain ⟨b1, b2⟩ := oneS_less (s := q'.2)
          cases e3 : oneS q'.2 with
          | error q => obtain ⟨c0, s0⟩ := q; obtain ⟨rfl, -, -⟩ := b2 _ _ e3; exact a2
          | ok s2 =>
            have := a2.trans (b1 _ e3).1
            simp only
            split
            · exact this
            · exact ⟨by simp only [resS, List.length_set]; exact this.cl, this.left, this.out⟩
    by_cases q3 : op = 3
    · subst q3
      rw [stG, if_neg (by decide), if_neg (by decide), if_pos rfl] at h
      cases h
      rw [printS]
      cases e1 : exS vs e s with
      | error q => exact x2 _ _ e1
      | ok q =>
        have a1 := (x1 _ _ e1).1
        simp only
        obtain ⟨b1, b2⟩ := oneS_less (s := q.2)
        cases e2 : oneS q.2 with
        | error q => obtain ⟨c0, s0⟩ := q; obtain ⟨rfl, -, -⟩ := b2 _ _ e2; exact a1
        | ok s2 =>
          obtain ⟨c1, c2, c3⟩ := b1 _ e2
          have := a1.trans c1
          have ho : s2.out = q.2.out := by rw [c3]
          have := a1.out
          refine ⟨this |> fun _ => (a1.trans c1).cl, (a1.trans c1).left, ?_⟩
          simp only [resS, List.length_append, List.length_singleton]
          rw [ho]; omega
    by_cases q4 : op = 4
    · subst q4
      rw [stG, if_neg (by decide), if_neg (by decide), if_neg (by decide), if_pos rfl] at h
      cases h
      rw [readS]
      obtain ⟨b1, b2⟩ := oneS_less (s := s)
      cases e2 : oneS s with
      | error q => obtain ⟨c0, s0⟩ := q; obtain ⟨rfl, -, -⟩ := b2 _ _ e2; exact Less.refl _
      | ok s2 =>
        have := (b1 _ e2).1
        simp only
        split
        · exact this
        · exact ⟨by simp only [resS, List.length_set]; exact this.cl, this.left, this.out⟩
    have hl := listG_less ih
    obtain ⟨i1, i2⟩ := isS_less vs e s
    by_cases q5 : op = 5
    · subst q5
      rw [stG_5] at h
      cases e1 : isS vs e s with
      | error q => rw [e1] at h; cases h; exact i2 _ _ e1
      | ok q =>
        obtain ⟨bb, s1⟩ := q
        have a1 := (i1 _ _ e1).1
        rw [e1] at h
        cases bb with
        | false => cases h; exact a1
        | true =>
          simp only at h
          cases e2 : listG (stG vs g) body s1 with
          | none => rw [e2] at h; cases h
          | some q =>
            rw [e2] at h
            have a2 := a1.trans (hl _ _ _ e2)
            cases q with
            | error q => cases h; exact a2
            | ok s2 =>
              simp only at h
              have a3 := ofOne a2
              cases e3 : oneS s2 with
              | error q => simp only [resS] at a3; rw [e3] at h a3; cases h; exact a3
              | ok s3 => simp only [resS] at a3; rw [e3] at h a3; exact a3.trans (ih _ _ _ h)
    by_cases q6 : op = 6
    · subst q6
      rw [stG_6] at h
      cases e1 : isS vs e s with
      | error q => rw [e1] at h; cases h; exact i2 _ _ e1
      | ok q =>
        obtain ⟨bb, s1⟩ := q
        have a1 := (i1 _ _ e1).1
        rw [e1] at h
        cases bb with
        | false => exact a1.trans (hl _ _ _ h)
        | true =>
          simp only at h
          cases e2 : listG (stG vs g) body s1 with
          | none => rw [e2] at h; cases h
          | some q =>
            rw [e2] at h
            have a2 := a1.trans (hl _ _ _ e2)
            cases q with
            | error q => cases h; exact a2
            | ok s2 => cases h; exact ofOne a2
    rw [stG, if_neg q1, if_neg q2, if_neg q3, if_neg q4, if_neg q5, if_neg q6] at h
    split at h
    · cases h; exact ofOne (Less.refl s)
    · cases h; exact Less.refl s
def StmtR (g : Nat) (σ : PH) (pr : Pr) (x : St) : Prop := ∀ (cs : List Value) (b : Nat) (pv : Option Addr) (cv : Nat) (bs : Value) (gc nc : Nat) (s : RS) (vi : Value) (po : Option Addr) (co : Nat) (r : RR),
  PrAt σ [.slice pv pr.vars.length cv, bs] pr → StAt σ cs x → StV pr.vars.length x → Fine pr.vars nc s → PInts σ vi s.inp → stG pr.vars g x s = some r →
  CallsA Tryz.prog 71 #[ptr b, .agg cs.toArray] σ [blk b [.slice pv pr.vars.length cv, bs, .slice (some ⟨gc, 0, none⟩) nc nc, vi, .slice po (s.out).length co, i64 s.left] 87, blk gc (ints (s.cells)) 2, lst 2 1 (.slice po (s.out).length co) (s.out).length (ints (s.out))] (EndS σ (fun s vi po co => [blk b [.slice pv pr.vars.length cv, bs, .slice (some ⟨gc, 0, none⟩) nc nc, vi, .slice po (s.out).length co, i64 s.left] 87, blk gc (ints (s.cells)) 2, lst 2 1 (.slice po (s.out).length co) (s.out).length (ints (s.out))]) r)
theorem list_r (g : Nat) (σ : PH) (pr : Pr) (l : List St) (ih : ∀ x ∈ l, StmtR g σ pr x) (sl : Value) (b : Nat) (pv : Option Addr) (cv : Nat) (bs : Value) (gc nc : Nat) (s : RS) (vi : Value) (po : Option Addr) (co : Nat) (r : RR)
    (hp : PrAt σ [.slice pv pr.vars.length cv, bs] pr) (hl : PSl 12 StAt σ sl l) (hsV : StsV pr.vars.length l) (hF : Fine pr.vars nc s) (hvi : PInts σ vi s.inp) (hr : listG (stG pr.vars g) l s = some r) :
    CallsA Tryz.prog 42 #[ptr b, sl] σ [blk b [.slice pv pr.vars.length cv, bs, .slice (some ⟨gc, 0, none⟩) nc nc, vi, .slice po (s.out).length co, i64 s.left] 87, blk gc (ints (s.cells)) 2, lst 2 1 (.slice po (s.out).length co) (s.out).length (ints (s.out))] (EndS σ (fun s vi po co => [blk b [.slice pv pr.vars.length cv, bs, .slice (some ⟨gc, 0, none⟩) nc nc, vi, .slice po (s.out).length co, i64 s.left] 87, blk gc (ints (s.cells)) 2, lst 2 1 (.slice po (s.out).length co) (s.out).length (ints (s.out))]) r) := by
  obtain ⟨pl, cl, rfl, hle, hmx⟩ := hl.shape
  simp only [maxLen] at hmx
  have hlen : l.length ≤ 9223372036854775807 := by omega
  refine enterA2 Tryz.func42 rfl rfl rfl ?_
  refine zS (zR (zA rfl ?_)); refine zO rfl (Rd.lenSlice (tyrow rfl) rfl rfl) ?_; refine zA rfl ?_; refine zN (zT (XA.block ?_))
  refine XA.gen [(0, _), (6, _), (7, _), (8, _)] ⟨(by with_reducible (conv => lhs; whnf)), (by with_reducible (conv => lhs; whnf)), (by with_reducible (conv => lhs; whnf)), (by with_reducible (conv => lhs; whnf)), trivial⟩ (fun δ => ?_)
  dsimp only [List.foldl]
  refine XA.loop [(5, 5), (8, 15)] (fun i : Nat => [(8, i64 i)]) (fun i σ' Γ' => σ = σ' ∧ i ≤ l.length ∧ ∃ (s' : RS) (vi' : Value) (po' : Option Addr) (co' : Nat), listG (stG pr.vars g) (l.drop i) s' = some r ∧ Fine pr.vars nc s' ∧ PInts σ vi' s'.inp ∧ Γ' = [blk b [.slice pv pr.vars.length cv, bs, .slice (some ⟨gc, 0, none⟩) nc nc, vi', .slice po' (s'.out).length co', i64 s'.left] 87, blk gc (ints (s'.cells)) 2, lst 2 1 (.slice po' (s'.out).length co') (s'.out).length (ints (s'.out))]) (fun i => l.length - i) 0 (by exact ⟨rfl, trivial⟩) (Δ0 := _) ?_ (⟨rfl, Nat.zero_le _, s, vi, po, co, hr, hF, hvi, rfl⟩) ?_
  · exact zE
  rintro i δ _ _ ⟨rfl, hi, s', vi', po', co', hr', hF', hvi', rfl⟩
  dsimp only [ovr, List.foldl]
  refine zS (zR (zO rfl (Rd.lss rfl rfl) ?_)); refine zN (zT (zS ?_))
  refine XA.condp rfl (fun hlt => ?_) (fun hlt => ?_)
  · have hlt : i < l.length := by omega
    obtain ⟨x', hx'⟩ : ∃ x', l[i]? = some x' := ⟨_, List.getElem?_eq_getElem hlt⟩
    obtain ⟨gg, o, row, rfl, hrx, hrl, hrow⟩ := hl.at hx'
    have hmem := List.mem_of_getElem? hx'
    have hone := hrx.ones
    rw [drop_get hx', listG] at hr'
    cases e1 : stG pr.vars g x' s' with
    | none => rw [e1] at hr'; cases hr'
    | some q =>
      have hc := ih x' hmem row b pv cv bs gc nc s' vi' po' co' q hp hrx (hsV.mem x' hmem) hF' hvi' e1
      rw [e1] at hr'
      cases q with
      | error q =>
        obtain ⟨c0, s0⟩ := q
        cases hr'
        refine XA.skip (zT (zS (XA.block (zS (zR (zO rfl (Rd.ixS rfl rfl) ?_)))))); refine zO rfl (Rd.ldA rfl) ?_
        refine zw rfl (WrA.alloc (tyrow rfl)) ?_
        rintro _ _ _ ⟨g5, rfl, rfl, rfl⟩
        refine zw rfl (WrA.st (tyrow rfl) rfl) ?_
        rintro _ _ _ ⟨rfl, rfl, rfl⟩
        refine zN (zT (zR (zA rfl ?_))); refine zO rfl (Rd.ldA rfl) ?_
        refine XOA.die rfl (EndS.err hc) rfl ?_
        rintro _ _ _ ⟨rfl, rfl, vi2, po2, co2, hvi2, rfl⟩
        refine DA.cl ?_
        repeat (first | refine DA.thn_panic ?_ | refine DA.inb_panic ?_)
        exact bodyA.panic zE ⟨rfl, rfl, vi2, po2, co2, hvi2, rfl⟩
      | ok s1 =>
        have hF1 : Fine pr.vars nc s1 := hF'.less (stG_less _ _ _ _ _ e1)
        refine XA.skip (zT (zS (XA.block (zS (zR (zO rfl (Rd.ixS rfl rfl) ?_)))))); refine zO rfl (Rd.ldA rfl) ?_
        refine zw rfl (WrA.alloc (tyrow rfl)) ?_
        rintro _ _ _ ⟨g5, rfl, rfl, rfl⟩
        refine zw rfl (WrA.st (tyrow rfl) rfl) ?_
        rintro _ _ _ ⟨rfl, rfl, rfl⟩
        refine zN (zT (zR (zA rfl ?_))); refine zO rfl (Rd.ldA rfl) ?_
        refine zw rfl (WrA.cE (EndS.ok hc) rfl) ?_
        rintro _ _ _ ⟨_, ⟨rfl, rfl, vi2, po2, co2, hvi2, rfl⟩, rfl⟩
        refine XOA.cl ?_; refine zN (DA.inb_normal (zT (zR (zO rfl zI ?_)))); refine zA rfl ?_; refine zN (zT ?_)
        refine ⟨(Keep.upd (Keep.upd (Keep.updO (Keep.upd (Keep.upd (Keep.updN (Keep.updO (Keep.upd (Keep.upd (Keep.upd (Keep.upd (Keep.hav (Keep.hav (Keep.refl _ _) rfl) rfl) rfl) rfl) rfl) rfl) rfl)) rfl) rfl) rfl) rfl) rfl), i + 1, _, zM, ?_, ⟨rfl, hlt, s1, vi2, po2, co2, hr', hF1, hvi2, rfl⟩, (by omega)⟩
        · exact zE
  have hil : i = l.length := by omega
  subst hil
  rw [List.drop_length] at hr'
  cases hr'
  refine XA.exit (DA.thn_exit (DA.thn_exit (DA.inb_same ?_)))
  exact bodyA.normal (ResA.none rfl) zE ⟨rfl, rfl, vi', po', co', hvi', rfl⟩
end Go.Proofs.YtmnmcjdgnpgchaaGreat

namespace Go.Proofs.YtmnmcjdgnpgchaaGreat
open Go X
set_option maxHeartbeats 2000000
theorem isF_left {vs : List Va} {cells : List Int} {x : Ex} {f : Nat} {b : Bool} {k : Nat} (h : isF vs cells x f = .ok (b, k)) : k ≤ f := by
  rw [isF] at h
  cases e : exRun vs cells x f with
  | error q => rw [e] at h; cases h
  | ok q =>
    obtain ⟨n, k0⟩ := q
    have := (exEnd vs cells x f).ok _ e
    rw [e] at h
    simp only at h this
    cases k0 with
    | zero => cases h
    | succ k0 => rw [oneF_s] at h; cases h; omega
theorem stmt_r (σ : PH) (pr : Pr) (h1 : ∀ x ∈ pr.vars, 1 ≤ x.size) (hz : ∀ x ∈ pr.vars, 0 ≤ x.size ∧ x.size ≤ 1000) (hvl : pr.vars.length ≤ 1000) : ∀ (g : Nat) (x : St), StmtR g σ pr x := by
  intro g
  induction g using Nat.strongRecOn with
  | _ g ih =>
  intro x
  obtain ⟨op, v, ex, fx, body, els⟩ := x
  intro cs b pv cv bs gc nc s vi po co r hp hx hV hF hvi hr
  obtain ⟨pe, de, pf, df, pb, cb, pl, cl, rfl, -, -, hxe, hxf, hxb, hxl⟩ := hx.inv12
  simp only [St.op, St.v, St.e, St.f, St.body, St.els] at hxe hxf hxb hxl ⊢
  clear hx
  rw [StV] at hV
  obtain ⟨hop, hv, he, hf, -, -, hsb, hse⟩ := hV
  cases g with
  | zero => cases hr
  | succ g =>
  obtain ⟨cells, inp, out, f⟩ := s
  obtain ⟨hcl, hsz, hleft, hout⟩ := hF
  simp only at hcl hsz hleft hout hvi ⊢
  by_cases q1 : op = 1
  · subst q1
    rw [stG, if_pos rfl] at hr
    have hv2 := hv rfl
    obtain ⟨vx, hvx, hsv, hc0, hc1, hc2⟩ := var_at h1 hv2
    have hE := expr_r σ pr h1 hz hvl ex _ b pv cv bs gc nc cells vi (.slice po out.length co) f hp hxe (he rfl).1 hcl hsz (by omega)
    have hx1 := exEnd pr.vars cells ex f
    cases e1 : exRun pr.vars cells ex f with
    | error q =>
      obtain ⟨c0, k⟩ := q
      rw [show setS pr.vars v ex ⟨cells, inp, out, f⟩ = .error (c0, ⟨cells, inp, out, k⟩) by simp [setS, exS, e1]] at hr
      cases hr
      refine enterA2 Tryz.func71 rfl rfl rfl ?_
      refine zS (zR ?_)
      refine zw rfl WrA.bx ?_
      rintro _ _ _ ⟨g3, rfl, rfl, rfl⟩
      refine zN (zT (zS (zR (zV rfl rfl ?_)))); refine zB rfl rfl (tyrow rfl) rfl ?_; refine zN (zT (XA.block (zS (zR (zO rfl (Rd.eql rfl rfl) ?_))))); refine zO rfl Rd.asg ?_; refine zN (zT (XA.condT rfl rfl (zS (zR (zA rfl ?_))))); refine zV rfl rfl ?_; refine zO rfl (Rd.ldA rfl) ?_
      refine XOA.die rfl (hE.2 c0 k e1) rfl ?_
      rintro _ _ _ ⟨rfl, rfl, rfl⟩
      refine DA.cl ?_
      repeat (first | refine DA.thn_panic ?_ | refine DA.inb_panic ?_)
      exact bodyA.panic zE ⟨rfl, rfl, vi, po, co, hvi, rfl⟩
    | ok q =>
      obtain ⟨n, k⟩ := q
      have hk := hx1.ok _ e1
      simp only at hk
      cases k with
      | zero =>
        rw [show setS pr.vars v ex ⟨cells, inp, out, f⟩ = .error (13, ⟨cells, inp, out, 0⟩) by simp [setS, exS, e1, oneS]] at hr
        cases hr
        refine enterA2 Tryz.func71 rfl rfl rfl ?_
        refine zS (zR ?_)
        refine zw rfl WrA.bx ?_
        rintro _ _ _ ⟨g3, rfl, rfl, rfl⟩
        refine zN (zT (zS (zR (zV rfl rfl ?_)))); refine zB rfl rfl (tyrow rfl) rfl ?_; refine zN (zT (XA.block (zS (zR (zO rfl (Rd.eql rfl rfl) ?_))))); refine zO rfl Rd.asg ?_; refine zN (zT (XA.condT rfl rfl (zS (zR (zA rfl ?_))))); refine zV rfl rfl ?_; refine zO rfl (Rd.ldA rfl) ?_
        refine zw rfl (WrA.cE (hE.1 n 0 e1) rfl) ?_
        rintro _ _ _ ⟨_, ⟨rfl, rfl, rfl⟩, rfl⟩
        refine XOA.cl ?_; refine zO rfl Rd.asg ?_; refine zN (zT (zS (zR (zA rfl ?_))))
        refine XOA.die rfl (one_t σ b _ _ _ _ _) rfl ?_
        rintro _ _ _ ⟨rfl, rfl, rfl⟩
        refine DA.cl ?_
        repeat (first | refine DA.thn_panic ?_ | refine DA.inb_panic ?_)
        exact bodyA.panic zE ⟨rfl, rfl, vi, po, co, hvi, rfl⟩
      | succ k =>
        rw [show setS pr.vars v ex ⟨cells, inp, out, f⟩ = .ok ⟨cells.set (cellOf pr.vars v).toNat n, inp, out, k⟩ by simp [setS, exS, e1, oneS]] at hr
        cases hr
        have hfit : (cellOf pr.vars v + 0).toNat + ty2.size ≤ (ints cells).length := by rw [show (ints cells).length = nc by simp [ints, hcl]]; show _ + 1 ≤ _; omega
        have hspl : splice (ints cells) (cellOf pr.vars v + 0).toNat [i64 n] = ints (cells.set (cellOf pr.vars v).toNat n) := by rw [Int.add_zero]; exact ints_cell _ _ (by omega)
        refine enterA2 Tryz.func71 rfl rfl rfl ?_
        refine zS (zR ?_)
        refine zw rfl WrA.bx ?_
        rintro _ _ _ ⟨g3, rfl, rfl, rfl⟩
        refine zN (zT (zS (zR (zV rfl rfl ?_)))); refine zB rfl rfl (tyrow rfl) rfl ?_; refine zN (zT (XA.block (zS (zR (zO rfl (Rd.eql rfl rfl) ?_))))); refine zO rfl Rd.asg ?_; refine zN (zT (XA.condT rfl rfl (zS (zR (zA rfl ?_))))); refine zV rfl rfl ?_; refine zO rfl (Rd.ldA rfl) ?_
        refine zw rfl (WrA.cE (hE.1 n (k + 1) e1) rfl) ?_
        rintro _ _ _ ⟨_, ⟨rfl, rfl, rfl⟩, rfl⟩
        refine XOA.cl ?_; refine zO rfl Rd.asg ?_; refine zN (zT (zS (zR (zA rfl ?_))))
        refine zw rfl (WrA.cE (one_f σ b _ _ _ _ _ k (by omega)) rfl) ?_
        rintro _ _ _ ⟨_, ⟨rfl, rfl, rfl⟩, rfl⟩
        refine XOA.cl ?_; refine zN (zT ?_)
        refine XA.draw (by kernel_rfl) _ _ [10] [(0, .pu), (1, .pu), (2, .pu), (3, .rd), (4, .pu), (5, .pu), (6, .rd), (8, .pu), (7, .wr), (9, .pu), (10, .wr)] (by kernel_rfl) (PH.sub.refl _) (Ent.sel (R := blk b _ _) zL (Ent.sel (R := blk g3 _ _) zL (Ent.nil _))) ?_
        refine zu rfl rfl Rd.mv ?_; refine zu rfl rfl (Rd.nilCheck rfl) ?_; refine zu rfl rfl (Rd.fA rfl) ?_; refine XPA.rd rfl rfl Gd.free (Rd.ldC rfl (tyrow rfl) rfl) ?_; refine zu rfl rfl Rd.mv ?_; refine zu rfl rfl (Rd.fA rfl) ?_
        refine XPA.rd rfl rfl Gd.free (Rd.ldC rfl (tyrow rfl) rfl) ?_; refine zu rfl rfl Rd.mv ?_
        refine XPA.wr0 rfl rfl Gd.free (WrA.cE (at_f σ b pr _ cv bs _ _ _ _ v 0 hp hz hvl hv2 (by decide) (by omega)) rfl) ?_
        rintro _ _ _ ⟨_, ⟨rfl, rfl, rfl⟩, rfl⟩
        refine stays (XPA.cl ?_)
        refine zu rfl rfl (Rd.ixS rfl rfl) ?_
        refine XPA.wrZ0 rfl rfl Gd.free (by kernel_rfl) (WrA.st (tyrow rfl) rfl) ?_
        rintro _ _ _ ⟨rfl, rfl, rfl⟩
        refine XPA.nil ?_; refine DA.inb_normal ?_
        exact bodyA.normal (ResA.none rfl) zE ⟨rfl, rfl, vi, po, co, hvi, rfl⟩
  by_cases q2 : op = 2
  · subst q2
    rw [stG, if_neg (by decide), if_pos rfl] at hr
    have hv2 := hv rfl
    obtain ⟨vx, hvx, hsv, hc0, hc1, hc2⟩ := var_at h1 hv2
    have hE := expr_r σ pr h1 hz hvl ex _ b pv cv bs gc nc cells vi (.slice po out.length co) f hp hxe (he rfl).1 hcl hsz (by omega)
    have hx1 := exEnd pr.vars cells ex f
    cases e1 : exRun pr.vars cells ex f with
    | error q =>
      obtain ⟨c0, k⟩ := q
      rw [show putS pr.vars v ex fx ⟨cells, inp, out, f⟩ = .error (c0, ⟨cells, inp, out, k⟩) by simp [putS, exS, e1]] at hr
      cases hr
      refine enterA2 Tryz.func71 rfl rfl rfl ?_
      refine zS (zR ?_)
      refine zw rfl WrA.bx ?_
      rintro _ _ _ ⟨g3, rfl, rfl, rfl⟩
      refine zN (zT (zS (zR (zV rfl rfl ?_)))); refine zB rfl rfl (tyrow rfl) rfl ?_; refine zN (zT (XA.block (zS (zR (zO rfl (Rd.eql rfl rfl) ?_))))); refine zO rfl Rd.asg ?_; refine zN (zT (XA.condF rfl rfl (zS (zR (zO rfl (Rd.eql rfl rfl) ?_))))); refine zO rfl Rd.asg ?_
      refine zN (zT (XA.condT rfl rfl (zS ?_)))
      refine XA.draw (by kernel_rfl) _ _ [7] [(0, .pu), (1, .pu), (2, .rd), (4, .pu), (5, .pu), (6, .rd), (3, .wr), (7, .wr), (8, .pu), (9, .pu)] (by kernel_rfl) (PH.sub.refl _) (Ent.sel (R := blk g3 _ _) zL (Ent.nil _)) ?_
      refine zu rfl rfl Rd.mv ?_; refine zu rfl rfl (Rd.fA rfl) ?_; refine XPA.rd rfl rfl Gd.free (Rd.ldA rfl) ?_; refine zu rfl rfl Rd.mv ?_; refine zu rfl rfl (Rd.fA rfl) ?_; refine XPA.rd rfl rfl Gd.free (Rd.ldA rfl) ?_
      refine XPA.die rfl rfl Gd.free (hE.2 c0 k e1) rfl ?_
      rintro _ _ _ ⟨rfl, rfl, rfl⟩
      refine DA.cl ?_
      repeat (first | refine DA.thn_panic ?_ | refine DA.inb_panic ?_)
      exact bodyA.panic zE ⟨rfl, rfl, vi, po, co, hvi, rfl⟩
    | ok q =>
      obtain ⟨a, k⟩ := q
      have hk := hx1.ok _ e1
      simp only at hk
      have hE2 := expr_r σ pr h1 hz hvl fx _ b pv cv bs gc nc cells vi (.slice po out.length co) k hp hxf (hf rfl).1 hcl hsz (by omega)
      have hx2 := exEnd pr.vars cells fx k
      cases e2 : exRun pr.vars cells fx k with
      | error q =>
        obtain ⟨c0, k2⟩ := q
        rw [show putS pr.vars v ex fx ⟨cells, inp, out, f⟩ = .error (c0, ⟨cells, inp, out, k2⟩) by simp [putS, exS, e1, e2]] at hr
        cases hr
        refine enterA2 Tryz.func71 rfl rfl rfl ?_
        refine zS (zR ?_)
        refine zw rfl WrA.bx ?_
        rintro _ _ _ ⟨g3, rfl, rfl, rfl⟩
        refine zN (zT (zS (zR (zV rfl rfl ?_)))); refine zB rfl rfl (tyrow rfl) rfl ?_; refine zN (zT (XA.block (zS (zR (zO rfl (Rd.eql rfl rfl) ?_))))); refine zO rfl Rd.asg ?_; refine zN (zT (XA.condF rfl rfl (zS (zR (zO rfl (Rd.eql rfl rfl) ?_))))); refine zO rfl Rd.asg ?_
        refine zN (zT (XA.condT rfl rfl (zS ?_)))
        refine XA.draw (by kernel_rfl) _ _ [7] [(0, .pu), (1, .pu), (2, .rd), (4, .pu), (5, .pu), (6, .rd), (3, .wr), (7, .wr), (8, .pu), (9, .pu)] (by kernel_rfl) (PH.sub.refl _) (Ent.sel (R := blk g3 _ _) zL (Ent.nil _)) ?_
        refine zu rfl rfl Rd.mv ?_; refine zu rfl rfl (Rd.fA rfl) ?_; refine XPA.rd rfl rfl Gd.free (Rd.ldA rfl) ?_; refine zu rfl rfl Rd.mv ?_; refine zu rfl rfl (Rd.fA rfl) ?_; refine XPA.rd rfl rfl Gd.free (Rd.ldA rfl) ?_
        refine XPA.wr0 rfl rfl Gd.free (WrA.cE (hE.1 a k e1) rfl) ?_
        rintro _ _ _ ⟨_, ⟨rfl, rfl, rfl⟩, rfl⟩
        refine stays (XPA.cl ?_)
        refine XPA.die rfl rfl Gd.free (hE2.2 c0 k2 e2) rfl ?_
        rintro _ _ _ ⟨rfl, rfl, rfl⟩
        refine DA.cl ?_
        repeat (first | refine DA.thn_panic ?_ | refine DA.inb_panic ?_)
        exact bodyA.panic zE ⟨rfl, rfl, vi, po, co, hvi, rfl⟩
      | ok q =>
        obtain ⟨n, k2⟩ := q
        have hk2 := hx2.ok _ e2
        simp only at hk2
        cases k2 with
        | zero =>
          rw [show putS pr.vars v ex fx ⟨cells, inp, out, f⟩ = .error (13, ⟨cells, inp, out, 0⟩) by simp [putS, exS, e1, e2, oneS]] at hr
          cases hr
          refine enterA2 Tryz.func71 rfl rfl rfl ?_
          refine zS (zR ?_)
          refine zw rfl WrA.bx ?_
          rintro _ _ _ ⟨g3, rfl, rfl, rfl⟩
          refine zN (zT (zS (zR (zV rfl rfl ?_)))); refine zB rfl rfl (tyrow rfl) rfl ?_; refine zN (zT (XA.block (zS (zR (zO rfl (Rd.eql rfl rfl) ?_))))); refine zO rfl Rd.asg ?_; refine zN (zT (XA.condF rfl rfl (zS (zR (zO rfl (Rd.eql rfl rfl) ?_))))); refine zO rfl Rd.asg ?_
          refine zN (zT (XA.condT rfl rfl (zS ?_)))
          refine XA.draw (by kernel_rfl) _ _ [7] [(0, .pu), (1, .pu), (2, .rd), (4, .pu), (5, .pu), (6, .rd), (3, .wr), (7, .wr), (8, .pu), (9, .pu)] (by kernel_rfl) (PH.sub.refl _) (Ent.sel (R := blk g3 _ _) zL (Ent.nil _)) ?_
          refine zu rfl rfl Rd.mv ?_; refine zu rfl rfl (Rd.fA rfl) ?_; refine XPA.rd rfl rfl Gd.free (Rd.ldA rfl) ?_; refine zu rfl rfl Rd.mv ?_; refine zu rfl rfl (Rd.fA rfl) ?_; refine XPA.rd rfl rfl Gd.free (Rd.ldA rfl) ?_
          refine XPA.wr0 rfl rfl Gd.free (WrA.cE (hE.1 a k e1) rfl) ?_
          rintro _ _ _ ⟨_, ⟨rfl, rfl, rfl⟩, rfl⟩
          refine stays (XPA.cl ?_)
          refine XPA.wrZ0 rfl rfl Gd.free (by kernel_rfl) (WrA.cE (hE2.1 n 0 e2) rfl) ?_
          rintro _ _ _ ⟨_, ⟨rfl, rfl, rfl⟩, rfl⟩
          refine XPA.cl ?_; refine zu rfl rfl Rd.asg ?_; refine zu rfl rfl Rd.asg ?_; refine XPA.nil ?_; refine zT (zS (zR (zA rfl ?_)))
          refine XOA.die rfl (one_t σ b _ _ _ _ _) rfl ?_
          rintro _ _ _ ⟨rfl, rfl, rfl⟩
          refine DA.cl ?_
          repeat (first | refine DA.thn_panic ?_ | refine DA.inb_panic ?_)
          exact bodyA.panic zE ⟨rfl, rfl, vi, po, co, hvi, rfl⟩
        | succ k2 =>
          by_cases hka : a < 0 ∨ sizeV pr.vars v ≤ a
          · rw [show putS pr.vars v ex fx ⟨cells, inp, out, f⟩ = .error (11, ⟨cells, inp, out, k2⟩) by simp [putS, exS, e1, e2, oneS, hka]] at hr
            cases hr
            refine enterA2 Tryz.func71 rfl rfl rfl ?_
            refine zS (zR ?_)
            refine zw rfl WrA.bx ?_
            rintro _ _ _ ⟨g3, rfl, rfl, rfl⟩
            refine zN (zT (zS (zR (zV rfl rfl ?_)))); refine zB rfl rfl (tyrow rfl) rfl ?_; refine zN (zT (XA.block (zS (zR (zO rfl (Rd.eql rfl rfl) ?_))))); refine zO rfl Rd.asg ?_; refine zN (zT (XA.condF rfl rfl (zS (zR (zO rfl (Rd.eql rfl rfl) ?_))))); refine zO rfl Rd.asg ?_
            refine zN (zT (XA.condT rfl rfl (zS ?_)))
            refine XA.draw (by kernel_rfl) _ _ [7] [(0, .pu), (1, .pu), (2, .rd), (4, .pu), (5, .pu), (6, .rd), (3, .wr), (7, .wr), (8, .pu), (9, .pu)] (by kernel_rfl) (PH.sub.refl _) (Ent.sel (R := blk g3 _ _) zL (Ent.nil _)) ?_
            refine zu rfl rfl Rd.mv ?_; refine zu rfl rfl (Rd.fA rfl) ?_; refine XPA.rd rfl rfl Gd.free (Rd.ldA rfl) ?_; refine zu rfl rfl Rd.mv ?_; refine zu rfl rfl (Rd.fA rfl) ?_; refine XPA.rd rfl rfl Gd.free (Rd.ldA rfl) ?_
            refine XPA.wr0 rfl rfl Gd.free (WrA.cE (hE.1 a k e1) rfl) ?_
            rintro _ _ _ ⟨_, ⟨rfl, rfl, rfl⟩, rfl⟩
            refine stays (XPA.cl ?_)
            refine XPA.wrZ0 rfl rfl Gd.free (by kernel_rfl) (WrA.cE (hE2.1 n (k2 + 1) e2) rfl) ?_
            rintro _ _ _ ⟨_, ⟨rfl, rfl, rfl⟩, rfl⟩
            refine XPA.cl ?_; refine zu rfl rfl Rd.asg ?_; refine zu rfl rfl Rd.asg ?_; refine XPA.nil ?_; refine zT (zS (zR (zA rfl ?_)))
            refine zw rfl (WrA.cE (one_f σ b _ _ _ _ _ k2 (by omega)) rfl) ?_
            rintro _ _ _ ⟨_, ⟨rfl, rfl, rfl⟩, rfl⟩
            refine XOA.cl ?_; refine zN (zT ?_)
            refine XA.draw (by kernel_rfl) _ _ [11] [(0, .pu), (1, .pu), (2, .pu), (3, .rd), (4, .pu), (5, .pu), (6, .rd), (7, .pu), (9, .pu), (8, .wr), (10, .pu), (11, .wr)] (by kernel_rfl) (PH.sub.refl _) (Ent.sel (R := blk b _ _) zL (Ent.sel (R := blk g3 _ _) zL (Ent.nil _))) ?_
            refine zu rfl rfl Rd.mv ?_; refine zu rfl rfl (Rd.nilCheck rfl) ?_; refine zu rfl rfl (Rd.fA rfl) ?_; refine XPA.rd rfl rfl Gd.free (Rd.ldC rfl (tyrow rfl) rfl) ?_; refine zu rfl rfl Rd.mv ?_; refine zu rfl rfl (Rd.fA rfl) ?_
            refine XPA.rd rfl rfl Gd.free (Rd.ldC rfl (tyrow rfl) rfl) ?_; refine zu rfl rfl Rd.mv ?_; refine zu rfl rfl Rd.mv ?_
            refine XPA.die rfl rfl Gd.free (at_t σ b pr _ cv bs _ _ _ _ v a hp hz hvl hv2 hka) rfl ?_
            rintro _ _ _ ⟨rfl, rfl, rfl⟩
            refine DA.cl ?_
            repeat (first | refine DA.thn_panic ?_ | refine DA.inb_panic ?_)
            exact bodyA.panic zE ⟨rfl, rfl, vi, po, co, hvi, rfl⟩
          · have hk0 : 0 ≤ a := by omega
            have hk1 : a < sizeV pr.vars v := by omega
            rw [show putS pr.vars v ex fx ⟨cells, inp, out, f⟩ = .ok ⟨cells.set (cellOf pr.vars v + a).toNat n, inp, out, k2⟩ by simp [putS, exS, e1, e2, oneS, hka]] at hr
            cases hr
            have hfit : (cellOf pr.vars v + a).toNat + ty2.size ≤ (ints cells).length := by rw [show (ints cells).length = nc by simp [ints, hcl]]; show _ + 1 ≤ _; omega
            have hspl : splice (ints cells) (cellOf pr.vars v + a).toNat [i64 n] = ints (cells.set (cellOf pr.vars v + a).toNat n) := ints_cell _ _ (by omega)
            refine enterA2 Tryz.func71 rfl rfl rfl ?_
            refine zS (zR ?_)
            refine zw rfl WrA.bx ?_
            rintro _ _ _ ⟨g3, rfl, rfl, rfl⟩
            refine zN (zT (zS (zR (zV rfl rfl ?_)))); refine zB rfl rfl (tyrow rfl) rfl ?_; refine zN (zT (XA.block (zS (zR (zO rfl (Rd.eql rfl rfl) ?_))))); refine zO rfl Rd.asg ?_; refine zN (zT (XA.condF rfl rfl (zS (zR (zO rfl (Rd.eql rfl rfl) ?_))))); refine zO rfl Rd.asg ?_
            refine zN (zT (XA.condT rfl rfl (zS ?_)))
            refine XA.draw (by kernel_rfl) _ _ [7] [(0, .pu), (1, .pu), (2, .rd), (4, .pu), (5, .pu), (6, .rd), (3, .wr), (7, .wr), (8, .pu), (9, .pu)] (by kernel_rfl) (PH.sub.refl _) (Ent.sel (R := blk g3 _ _) zL (Ent.nil _)) ?_
            refine zu rfl rfl Rd.mv ?_; refine zu rfl rfl (Rd.fA rfl) ?_; refine XPA.rd rfl rfl Gd.free (Rd.ldA rfl) ?_; refine zu rfl rfl Rd.mv ?_; refine zu rfl rfl (Rd.fA rfl) ?_; refine XPA.rd rfl rfl Gd.free (Rd.ldA rfl) ?_
            refine XPA.wr0 rfl rfl Gd.free (WrA.cE (hE.1 a k e1) rfl) ?_
            rintro _ _ _ ⟨_, ⟨rfl, rfl, rfl⟩, rfl⟩
            refine stays (XPA.cl ?_)
            refine XPA.wrZ0 rfl rfl Gd.free (by kernel_rfl) (WrA.cE (hE2.1 n (k2 + 1) e2) rfl) ?_
            rintro _ _ _ ⟨_, ⟨rfl, rfl, rfl⟩, rfl⟩
            refine XPA.cl ?_; refine zu rfl rfl Rd.asg ?_; refine zu rfl rfl Rd.asg ?_; refine XPA.nil ?_; refine zT (zS (zR (zA rfl ?_)))
            refine zw rfl (WrA.cE (one_f σ b _ _ _ _ _ k2 (by omega)) rfl) ?_
            rintro _ _ _ ⟨_, ⟨rfl, rfl, rfl⟩, rfl⟩
            refine XOA.cl ?_; refine zN (zT ?_)
            refine XA.draw (by kernel_rfl) _ _ [11] [(0, .pu), (1, .pu), (2, .pu), (3, .rd), (4, .pu), (5, .pu), (6, .rd), (7, .pu), (9, .pu), (8, .wr), (10, .pu), (11, .wr)] (by kernel_rfl) (PH.sub.refl _) (Ent.sel (R := blk b _ _) zL (Ent.sel (R := blk g3 _ _) zL (Ent.nil _))) ?_
            refine zu rfl rfl Rd.mv ?_; refine zu rfl rfl (Rd.nilCheck rfl) ?_; refine zu rfl rfl (Rd.fA rfl) ?_; refine XPA.rd rfl rfl Gd.free (Rd.ldC rfl (tyrow rfl) rfl) ?_; refine zu rfl rfl Rd.mv ?_; refine zu rfl rfl (Rd.fA rfl) ?_
            refine XPA.rd rfl rfl Gd.free (Rd.ldC rfl (tyrow rfl) rfl) ?_; refine zu rfl rfl Rd.mv ?_; refine zu rfl rfl Rd.mv ?_
            refine XPA.wr0 rfl rfl Gd.free (WrA.cE (at_f σ b pr _ cv bs _ _ _ _ v a hp hz hvl hv2 hk0 hk1) rfl) ?_
            rintro _ _ _ ⟨_, ⟨rfl, rfl, rfl⟩, rfl⟩
            refine stays (XPA.cl ?_)
            refine zu rfl rfl (Rd.ixS rfl rfl) ?_
            refine XPA.wrZ0 rfl rfl Gd.free (by kernel_rfl) (WrA.st (tyrow rfl) rfl) ?_
            rintro _ _ _ ⟨rfl, rfl, rfl⟩
            refine XPA.nil ?_; refine DA.inb_normal ?_
            exact bodyA.normal (ResA.none rfl) zE ⟨rfl, rfl, vi, po, co, hvi, rfl⟩
  by_cases q3 : op = 3
  · subst q3
    rw [stG, if_neg (by decide), if_neg (by decide), if_pos rfl] at hr
    have hE := expr_r σ pr h1 hz hvl ex _ b pv cv bs gc nc cells vi (.slice po out.length co) f hp hxe (he rfl).1 hcl hsz (by omega)
    have hx1 := exEnd pr.vars cells ex f
    cases e1 : exRun pr.vars cells ex f with
    | error q =>
      obtain ⟨c0, k⟩ := q
      rw [show printS pr.vars ex ⟨cells, inp, out, f⟩ = .error (c0, ⟨cells, inp, out, k⟩) by simp [printS, exS, e1]] at hr
      cases hr
      refine enterA2 Tryz.func71 rfl rfl rfl ?_
      refine zS (zR ?_)
      refine zw rfl WrA.bx ?_
      rintro _ _ _ ⟨g3, rfl, rfl, rfl⟩
      refine zN (zT (zS (zR (zV rfl rfl ?_)))); refine zB rfl rfl (tyrow rfl) rfl ?_; refine zN (zT (XA.block (zS (zR (zO rfl (Rd.eql rfl rfl) ?_))))); refine zO rfl Rd.asg ?_; refine zN (zT (XA.condF rfl rfl (zS (zR (zO rfl (Rd.eql rfl rfl) ?_))))); refine zO rfl Rd.asg ?_
      refine zN (zT (XA.condF rfl rfl (zS (zR (zO rfl (Rd.eql rfl rfl) ?_))))); refine zO rfl Rd.asg ?_; refine zN (zT (XA.condT rfl rfl (zS (zR (zA rfl ?_))))); refine zV rfl rfl ?_; refine zO rfl (Rd.ldA rfl) ?_
      refine XOA.die rfl (hE.2 c0 k e1) rfl ?_
      rintro _ _ _ ⟨rfl, rfl, rfl⟩
      refine DA.cl ?_
      repeat (first | refine DA.thn_panic ?_ | refine DA.inb_panic ?_)
      exact bodyA.panic zE ⟨rfl, rfl, vi, po, co, hvi, rfl⟩
    | ok q =>
      obtain ⟨n, k⟩ := q
      have hk := hx1.ok _ e1
      simp only at hk
      cases k with
      | zero =>
        rw [show printS pr.vars ex ⟨cells, inp, out, f⟩ = .error (13, ⟨cells, inp, out, 0⟩) by simp [printS, exS, e1, oneS]] at hr
        cases hr
        refine enterA2 Tryz.func71 rfl rfl rfl ?_
        refine zS (zR ?_)
        refine zw rfl WrA.bx ?_
        rintro _ _ _ ⟨g3, rfl, rfl, rfl⟩
        refine zN (zT (zS (zR (zV rfl rfl ?_)))); refine zB rfl rfl (tyrow rfl) rfl ?_; refine zN (zT (XA.block (zS (zR (zO rfl (Rd.eql rfl rfl) ?_))))); refine zO rfl Rd.asg ?_; refine zN (zT (XA.condF rfl rfl (zS (zR (zO rfl (Rd.eql rfl rfl) ?_))))); refine zO rfl Rd.asg ?_
        refine zN (zT (XA.condF rfl rfl (zS (zR (zO rfl (Rd.eql rfl rfl) ?_))))); refine zO rfl Rd.asg ?_; refine zN (zT (XA.condT rfl rfl (zS (zR (zA rfl ?_))))); refine zV rfl rfl ?_; refine zO rfl (Rd.ldA rfl) ?_
        refine zw rfl (WrA.cE (hE.1 n 0 e1) rfl) ?_
        rintro _ _ _ ⟨_, ⟨rfl, rfl, rfl⟩, rfl⟩
        refine XOA.cl ?_; refine zO rfl Rd.asg ?_; refine zN (zT (zS (zR (zA rfl ?_))))
        refine XOA.die rfl (one_t σ b _ _ _ _ _) rfl ?_
        rintro _ _ _ ⟨rfl, rfl, rfl⟩
        refine DA.cl ?_
        repeat (first | refine DA.thn_panic ?_ | refine DA.inb_panic ?_)
        exact bodyA.panic zE ⟨rfl, rfl, vi, po, co, hvi, rfl⟩
      | succ k =>
        rw [show printS pr.vars ex ⟨cells, inp, out, f⟩ = .ok ⟨cells, inp, out ++ [n], k⟩ by simp [printS, exS, e1, oneS]] at hr
        cases hr
        have ho2 : ints (out ++ [n]) = ints out ++ [i64 n] := by simp [ints]
        have hol : (out ++ [n]).length = out.length + 1 := by simp
        refine enterA2 Tryz.func71 rfl rfl rfl ?_
        refine zS (zR ?_)
        refine zw rfl WrA.bx ?_
        rintro _ _ _ ⟨g3, rfl, rfl, rfl⟩
        refine zN (zT (zS (zR (zV rfl rfl ?_)))); refine zB rfl rfl (tyrow rfl) rfl ?_; refine zN (zT (XA.block (zS (zR (zO rfl (Rd.eql rfl rfl) ?_))))); refine zO rfl Rd.asg ?_; refine zN (zT (XA.condF rfl rfl (zS (zR (zO rfl (Rd.eql rfl rfl) ?_))))); refine zO rfl Rd.asg ?_
        refine zN (zT (XA.condF rfl rfl (zS (zR (zO rfl (Rd.eql rfl rfl) ?_))))); refine zO rfl Rd.asg ?_; refine zN (zT (XA.condT rfl rfl (zS (zR (zA rfl ?_))))); refine zV rfl rfl ?_; refine zO rfl (Rd.ldA rfl) ?_
        refine zw rfl (WrA.cE (hE.1 n (k + 1) e1) rfl) ?_
        rintro _ _ _ ⟨_, ⟨rfl, rfl, rfl⟩, rfl⟩
        refine XOA.cl ?_; refine zO rfl Rd.asg ?_; refine zN (zT (zS (zR (zA rfl ?_))))
        refine zw rfl (WrA.cE (one_f σ b _ _ _ _ _ k (by omega)) rfl) ?_
        rintro _ _ _ ⟨_, ⟨rfl, rfl, rfl⟩, rfl⟩
        refine XOA.cl ?_; refine zN (zT (zR (zA rfl ?_))); refine zA rfl ?_; refine zO rfl (Rd.nilCheck rfl) ?_; refine zV rfl rfl ?_; refine zB rfl rfl (tyrow rfl) rfl ?_; refine zA rfl ?_
        refine zw rfl (WrA.bs1 (tyrow rfl) rfl (tyrow rfl)) ?_
        rintro _ _ _ ⟨g65, rfl, rfl, rfl⟩
        refine zw rfl (WrA.ap1 (tyrow rfl) rfl (tyrow rfl) rfl rfl rfl) ?_
        rintro _ _ _ ⟨p66, c66, rfl, rfl, rfl⟩
        refine zO rfl (Rd.nilCheck rfl) ?_; refine zV rfl rfl ?_
        refine zw rfl (WrA.st (tyrow rfl) rfl) ?_
        rintro _ _ _ ⟨rfl, rfl, rfl⟩
        refine zN (DA.inb_normal ?_)
        refine bodyA.normal (Γ' := [blk b [.slice pv pr.vars.length cv, bs, .slice (some ⟨gc, 0, none⟩) nc nc, vi, .slice p66 (out ++ [n]).length c66, i64 k] 87, blk gc (ints (cells)) 2, lst 2 1 (.slice p66 (out ++ [n]).length c66) (out ++ [n]).length (ints (out ++ [n]))]) (ResA.none rfl) ?_ ⟨rfl, rfl, vi, p66, c66, hvi, rfl⟩
        rw [ho2, hol]
        exact zE
  by_cases q4 : op = 4
  · subst q4
    rw [stG, if_neg (by decide), if_neg (by decide), if_neg (by decide), if_pos rfl] at hr
    have hv2 := hv rfl
    obtain ⟨vx, hvx, hsv, hc0, hc1, hc2⟩ := var_at h1 hv2
    cases f with
    | zero =>
      rw [show readS pr.vars v ⟨cells, inp, out, 0⟩ = .error (13, ⟨cells, inp, out, 0⟩) by simp [readS, oneS]] at hr
      cases hr
      refine enterA2 Tryz.func71 rfl rfl rfl ?_
      refine zS (zR ?_)
      refine zw rfl WrA.bx ?_
      rintro _ _ _ ⟨g3, rfl, rfl, rfl⟩
      refine zN (zT (zS (zR (zV rfl rfl ?_)))); refine zB rfl rfl (tyrow rfl) rfl ?_; refine zN (zT (XA.block (zS (zR (zO rfl (Rd.eql rfl rfl) ?_))))); refine zO rfl Rd.asg ?_; refine zN (zT (XA.condF rfl rfl (zS (zR (zO rfl (Rd.eql rfl rfl) ?_))))); refine zO rfl Rd.asg ?_
      refine zN (zT (XA.condF rfl rfl (zS (zR (zO rfl (Rd.eql rfl rfl) ?_))))); refine zO rfl Rd.asg ?_; refine zN (zT (XA.condF rfl rfl (zS (zR (zO rfl (Rd.eql rfl rfl) ?_))))); refine zO rfl Rd.asg ?_; refine zN (zT (XA.condT rfl rfl (zS (zR (zA rfl ?_)))))
      refine XOA.die rfl (one_t σ b _ _ _ _ _) rfl ?_
      rintro _ _ _ ⟨rfl, rfl, rfl⟩
      refine DA.cl ?_
      repeat (first | refine DA.thn_panic ?_ | refine DA.inb_panic ?_)
      exact bodyA.panic zE ⟨rfl, rfl, vi, po, co, hvi, rfl⟩
    | succ k =>
      obtain ⟨pi, ci, rfl, hil, him⟩ := hvi.shape
      simp only [maxLen] at him
      cases inp with
      | nil =>
        rw [show readS pr.vars v ⟨cells, [], out, k + 1⟩ = .error (12, ⟨cells, [], out, k⟩) by simp [readS, oneS]] at hr
        cases hr
        refine enterA2 Tryz.func71 rfl rfl rfl ?_
        refine zS (zR ?_)
        refine zw rfl WrA.bx ?_
        rintro _ _ _ ⟨g3, rfl, rfl, rfl⟩
        refine zN (zT (zS (zR (zV rfl rfl ?_)))); refine zB rfl rfl (tyrow rfl) rfl ?_; refine zN (zT (XA.block (zS (zR (zO rfl (Rd.eql rfl rfl) ?_))))); refine zO rfl Rd.asg ?_; refine zN (zT (XA.condF rfl rfl (zS (zR (zO rfl (Rd.eql rfl rfl) ?_))))); refine zO rfl Rd.asg ?_
        refine zN (zT (XA.condF rfl rfl (zS (zR (zO rfl (Rd.eql rfl rfl) ?_))))); refine zO rfl Rd.asg ?_; refine zN (zT (XA.condF rfl rfl (zS (zR (zO rfl (Rd.eql rfl rfl) ?_))))); refine zO rfl Rd.asg ?_; refine zN (zT (XA.condT rfl rfl (zS (zR (zA rfl ?_)))))
        refine zw rfl (WrA.cE (one_f σ b _ _ _ _ _ k (by omega)) rfl) ?_
        rintro _ _ _ ⟨_, ⟨rfl, rfl, rfl⟩, rfl⟩
        refine XOA.cl ?_; refine zN (zT (zS (zR (zA rfl ?_)))); refine zO rfl (Rd.nilCheck rfl) ?_; refine zV rfl rfl ?_; refine zB rfl rfl (tyrow rfl) rfl ?_; refine zO rfl (Rd.lenSlice (tyrow rfl) rfl rfl) ?_; refine zO rfl (Rd.eql rfl rfl) ?_
        refine XOA.die rfl (fail_t σ _ 12 (decide_eq_true rfl)) rfl ?_
        rintro _ _ _ ⟨rfl, rfl, rfl⟩
        refine DA.cl ?_
        repeat (first | refine DA.thn_panic ?_ | refine DA.inb_panic ?_)
        exact bodyA.panic zE ⟨rfl, rfl, _, po, co, hvi, rfl⟩
      | cons n rest =>
        rw [show readS pr.vars v ⟨cells, n :: rest, out, k + 1⟩ = .ok ⟨cells.set (cellOf pr.vars v).toNat n, rest, out, k⟩ by simp [readS, oneS]] at hr
        cases hr
        have hvi2 := hvi.tail
        obtain ⟨gi, oi, rfl, hri⟩ := hvi.at (show (n :: rest)[0]? = some n from rfl)
        have hri0 : PRow σ gi oi [i64 n] := by simpa using hri
        simp only [List.length_cons] at hil him hvi hvi2 ⊢
        have hfit : (cellOf pr.vars v + 0).toNat + ty2.size ≤ (ints cells).length := by rw [show (ints cells).length = nc by simp [ints, hcl]]; show _ + 1 ≤ _; omega
        have hspl : splice (ints cells) (cellOf pr.vars v + 0).toNat [i64 n] = ints (cells.set (cellOf pr.vars v).toNat n) := by rw [Int.add_zero]; exact ints_cell _ _ (by omega)
        refine enterA2 Tryz.func71 rfl rfl rfl ?_
        refine zS (zR ?_)
        refine zw rfl WrA.bx ?_
        rintro _ _ _ ⟨g3, rfl, rfl, rfl⟩
        refine zN (zT (zS (zR (zV rfl rfl ?_)))); refine zB rfl rfl (tyrow rfl) rfl ?_; refine zN (zT (XA.block (zS (zR (zO rfl (Rd.eql rfl rfl) ?_))))); refine zO rfl Rd.asg ?_; refine zN (zT (XA.condF rfl rfl (zS (zR (zO rfl (Rd.eql rfl rfl) ?_))))); refine zO rfl Rd.asg ?_
        refine zN (zT (XA.condF rfl rfl (zS (zR (zO rfl (Rd.eql rfl rfl) ?_))))); refine zO rfl Rd.asg ?_; refine zN (zT (XA.condF rfl rfl (zS (zR (zO rfl (Rd.eql rfl rfl) ?_))))); refine zO rfl Rd.asg ?_; refine zN (zT (XA.condT rfl rfl (zS (zR (zA rfl ?_)))))
        refine zw rfl (WrA.cE (one_f σ b _ _ _ _ _ k (by omega)) rfl) ?_
        rintro _ _ _ ⟨_, ⟨rfl, rfl, rfl⟩, rfl⟩
        refine XOA.cl ?_; refine zN (zT (zS (zR (zA rfl ?_)))); refine zO rfl (Rd.nilCheck rfl) ?_; refine zV rfl rfl ?_; refine zB rfl rfl (tyrow rfl) rfl ?_; refine zO rfl (Rd.lenSlice (tyrow rfl) rfl rfl) ?_; refine zO rfl (Rd.eql rfl rfl) ?_
        refine zw rfl (WrA.cE (fail_f σ _ 12 (decide_eq_false (by omega))) rfl) ?_
        rintro _ _ _ ⟨_, ⟨rfl, rfl, rfl⟩, rfl⟩
        refine XOA.cl ?_; refine zN (zT (zS ?_))
        refine XA.draw (by kernel_rfl) _ _ [15] [(0, .pu), (1, .pu), (2, .pu), (3, .rd), (4, .pu), (5, .pu), (6, .rd), (8, .pu), (9, .pu), (10, .pu), (11, .rd), (12, .pu), (13, .rd), (7, .wr), (14, .pu), (15, .wr)] (by kernel_rfl) (PH.sub.refl _) (Ent.sel (R := blk b _ _) zL (Ent.sel (R := blk g3 _ _) zL (Ent.nil _))) ?_
        refine zu rfl rfl Rd.mv ?_; refine zu rfl rfl (Rd.nilCheck rfl) ?_; refine zu rfl rfl (Rd.fA rfl) ?_; refine XPA.rd rfl rfl Gd.free (Rd.ldC rfl (tyrow rfl) rfl) ?_; refine zu rfl rfl Rd.mv ?_; refine zu rfl rfl (Rd.fA rfl) ?_
        refine XPA.rd rfl rfl Gd.free (Rd.ldC rfl (tyrow rfl) rfl) ?_; refine zu rfl rfl Rd.mv ?_; refine zu rfl rfl (Rd.nilCheck rfl) ?_; refine zu rfl rfl (Rd.fA rfl) ?_; refine XPA.rd rfl rfl Gd.free (Rd.ldC rfl (tyrow rfl) rfl) ?_
        refine zu rfl rfl (Rd.ixS rfl rfl) ?_; refine XPA.rd rfl rfl Gd.free (Rd.ldC rfl (tyrow rfl) rfl) ?_
        refine XPA.wr0 rfl rfl Gd.free (WrA.cE (at_f σ b pr _ cv bs _ _ _ _ v 0 hp hz hvl hv2 (by decide) (by omega)) rfl) ?_
        rintro _ _ _ ⟨_, ⟨rfl, rfl, rfl⟩, rfl⟩
        refine stays (XPA.cl ?_)
        refine zu rfl rfl (Rd.ixS rfl rfl) ?_
        refine XPA.wrZ0 rfl rfl Gd.free (by kernel_rfl) (WrA.st (tyrow rfl) rfl) ?_
        rintro _ _ _ ⟨rfl, rfl, rfl⟩
        refine XPA.nil ?_; refine zT (zR (zA rfl ?_)); refine zA rfl ?_; refine zO rfl (Rd.nilCheck rfl) ?_; refine zV rfl rfl ?_; refine zB rfl rfl (tyrow rfl) rfl ?_; refine zO rfl (Rd.sliceTail (tyrow rfl) rfl (tyrow rfl) rfl rfl rfl (by omega)) ?_; refine zO rfl (Rd.nilCheck rfl) ?_; refine zV rfl rfl ?_
        refine zw rfl (WrA.st (tyrow rfl) rfl) ?_
        rintro _ _ _ ⟨rfl, rfl, rfl⟩
        refine zN (DA.inb_normal ?_)
        exact bodyA.normal (ResA.none rfl) zE ⟨rfl, rfl, _, po, co, hvi2, rfl⟩
  by_cases q5 : op = 5
  · subst q5
    refine enterA2 Tryz.func71 rfl rfl rfl ?_
    refine zS (zR ?_)
    refine zw rfl WrA.bx ?_
    rintro _ _ _ ⟨g3, rfl, rfl, rfl⟩
    refine zN (zT (zS (zR (zV rfl rfl ?_)))); refine zB rfl rfl (tyrow rfl) rfl ?_; refine zN (zT (XA.block (zS (zR (zO rfl (Rd.eql rfl rfl) ?_))))); refine zO rfl Rd.asg ?_; refine zN (zT (XA.condF rfl rfl (zS (zR (zO rfl (Rd.eql rfl rfl) ?_))))); refine zO rfl Rd.asg ?_
    refine zN (zT (XA.condF rfl rfl (zS (zR (zO rfl (Rd.eql rfl rfl) ?_))))); refine zO rfl Rd.asg ?_; refine zN (zT (XA.condF rfl rfl (zS (zR (zO rfl (Rd.eql rfl rfl) ?_))))); refine zO rfl Rd.asg ?_; refine zN (zT (XA.condF rfl rfl (zS (zR (zO rfl (Rd.eql rfl rfl) ?_))))); refine zO rfl Rd.asg ?_
    refine zN (zT (XA.condT rfl rfl (XA.block ?_)))
    refine XA.gen [(0, _), (3, _)] ⟨(by with_reducible (conv => lhs; whnf)), (by with_reducible (conv => lhs; whnf)), trivial⟩ (fun δ => ?_)
    dsimp only [List.foldl]
    refine XA.loop [(0, 0), (105, 114)] (fun _ : Nat => [(0, ptr b)]) (fun g' σ' Γ' => σ = σ' ∧ g' ≤ g + 1 ∧ ∃ (s' : RS) (vi' : Value) (po' : Option Addr) (co' : Nat), stG pr.vars g' (.mk 5 v ex fx body els) s' = some r ∧ Fine pr.vars nc s' ∧ PInts σ vi' s'.inp ∧ Γ' = [blk b [.slice pv pr.vars.length cv, bs, .slice (some ⟨gc, 0, none⟩) nc nc, vi', .slice po' (s'.out).length co', i64 s'.left] 87, blk gc (ints (s'.cells)) 2, lst 2 1 (.slice po' (s'.out).length co') (s'.out).length (ints (s'.out)), blk g3 [i64 5, i64 v, i64 ex.op, i64 ex.v, i64 ex.n, .slice pe ex.l.length de, i64 fx.op, i64 fx.v, i64 fx.n, .slice pf fx.l.length df, .slice pb body.length cb, .slice pl els.length cl] 96]) (fun g' => g') (g + 1) (by exact ⟨rfl, trivial⟩) (Δ0 := _) ?_ (⟨rfl, Nat.le_refl _, ⟨cells, inp, out, f⟩, vi, po, co, hr, ⟨hcl, hsz, hleft, hout⟩, hvi, rfl⟩) ?_
    · exact zE
    rintro g' δ _ _ ⟨rfl, hg', s', vi', po', co', hr', hF', hvi', rfl⟩
    dsimp only [ovr, List.foldl]
    obtain ⟨cells', inp', out', f'⟩ := s'
    obtain ⟨hcl', -, hleft', hout'⟩ := hF'
    simp only at hcl' hleft' hout' hvi' ⊢
    cases g' with
    | zero => cases hr'
    | succ g' =>
    rw [stG_5, isS_isF] at hr'
    have hI := is_r σ pr h1 hz hvl ex _ b pv cv bs gc nc cells' vi' (.slice po' out'.length co') f' hp hxe (he rfl).1 hcl' hsz (by omega)
    cases e1 : isF pr.vars cells' ex f' with
    | error q =>
      obtain ⟨c0, k⟩ := q
      rw [e1] at hr'
      cases hr'
      refine zS (zS (zR (zA rfl ?_))); refine zV rfl rfl ?_; refine zO rfl (Rd.ldA rfl) ?_
      refine XOA.die rfl (hI.2 c0 k e1) rfl ?_
      rintro _ _ _ ⟨rfl, rfl, rfl⟩
      refine DA.cl ?_
      repeat (first | refine DA.thn_panic ?_ | refine DA.inb_panic ?_)
      exact bodyA.panic zE ⟨rfl, rfl, vi', po', co', hvi', rfl⟩
    | ok q =>
      obtain ⟨bb, k⟩ := q
      have hk := isF_left e1
      rw [e1] at hr'
      simp only at hr'
      cases bb with
      | false =>
        cases hr'
        refine zS (zS (zR (zA rfl ?_))); refine zV rfl rfl ?_; refine zO rfl (Rd.ldA rfl) ?_
        refine zw rfl (WrA.cE (hI.1 false k e1) rfl) ?_
        rintro _ _ _ ⟨_, ⟨rfl, rfl, rfl⟩, rfl⟩
        refine XOA.cl ?_; refine zN (zT (XA.condF rfl rfl (XA.exit (DA.thn_exit (DA.thn_exit (DA.inb_same (DA.inb_normal ?_)))))))
        exact bodyA.normal (ResA.none rfl) zE ⟨rfl, rfl, vi', po', co', hvi', rfl⟩
      | true =>
        simp only at hr'
        have hF1 : Fine pr.vars nc ⟨cells', inp', out', k⟩ := ⟨hcl', hsz, by show k < _; omega, by show out'.length + k < _; omega⟩
        cases e2 : listG (stG pr.vars g') body ⟨cells', inp', out', k⟩ with
        | none => rw [e2] at hr'; cases hr'
        | some q =>
          have hL := list_r g' σ pr body (fun x _ => ih g' (by omega) x) _ b pv cv bs gc nc ⟨cells', inp', out', k⟩ vi' po' co' q hp hxb hsb hF1 hvi' e2
          have hle := listG_less (stG_less pr.vars g') _ _ _ e2
          rw [e2] at hr'
          simp only at hr' hL
          cases q with
          | error q =>
            obtain ⟨c0, s0⟩ := q
            cases hr'
            refine zS (zS (zR (zA rfl ?_))); refine zV rfl rfl ?_; refine zO rfl (Rd.ldA rfl) ?_
            refine zw rfl (WrA.cE (hI.1 true k e1) rfl) ?_
            rintro _ _ _ ⟨_, ⟨rfl, rfl, rfl⟩, rfl⟩
            refine XOA.cl ?_; refine zN (zT (XA.condT rfl rfl (XA.skip (zT (XA.block (zS (zR (zA rfl ?_)))))))); refine zV rfl rfl ?_; refine zB rfl rfl (tyrow rfl) rfl ?_
            refine XOA.die rfl (EndS.err hL) rfl ?_
            rintro _ _ _ ⟨rfl, rfl, vi2, po2, co2, hvi2, rfl⟩
            refine DA.cl ?_
            repeat (first | refine DA.thn_panic ?_ | refine DA.inb_panic ?_)
            exact bodyA.panic zE ⟨rfl, rfl, vi2, po2, co2, hvi2, rfl⟩
          | ok s2 =>
            have hF2 := hF1.less hle
            obtain ⟨cells2, inp2, out2, f2⟩ := s2
            have hleft2 : f2 < 1000000 := hF2.left
            simp only at hr'
            cases f2 with
            | zero =>
              rw [show oneS ⟨cells2, inp2, out2, 0⟩ = .error (13, ⟨cells2, inp2, out2, 0⟩) from rfl] at hr'
              cases hr'
              refine zS (zS (zR (zA rfl ?_))); refine zV rfl rfl ?_; refine zO rfl (Rd.ldA rfl) ?_
              refine zw rfl (WrA.cE (hI.1 true k e1) rfl) ?_
              rintro _ _ _ ⟨_, ⟨rfl, rfl, rfl⟩, rfl⟩
              refine XOA.cl ?_; refine zN (zT (XA.condT rfl rfl (XA.skip (zT (XA.block (zS (zR (zA rfl ?_)))))))); refine zV rfl rfl ?_; refine zB rfl rfl (tyrow rfl) rfl ?_
              refine zw rfl (WrA.cE (EndS.ok hL) rfl) ?_
              rintro _ _ _ ⟨_, ⟨rfl, rfl, vi2, po2, co2, hvi2, rfl⟩, rfl⟩
              refine XOA.cl ?_; refine zN (zT (zR (zA rfl ?_)))
              refine XOA.die rfl (one_t σ b _ _ _ _ _) rfl ?_
              rintro _ _ _ ⟨rfl, rfl, rfl⟩
              refine DA.cl ?_
              repeat (first | refine DA.thn_panic ?_ | refine DA.inb_panic ?_)
              exact bodyA.panic zE ⟨rfl, rfl, vi2, po2, co2, hvi2, rfl⟩
            | succ f2 =>
              rw [show oneS ⟨cells2, inp2, out2, f2 + 1⟩ = .ok ⟨cells2, inp2, out2, f2⟩ by simp [oneS]] at hr'
              simp only at hr'
              have hF3 : Fine pr.vars nc ⟨cells2, inp2, out2, f2⟩ := ⟨hF2.cl, hF2.sz, by show f2 < _; omega, by have : out2.length + (f2 + 1) < 2000000 := hF2.out; show out2.length + f2 < _; omega⟩
              refine zS (zS (zR (zA rfl ?_))); refine zV rfl rfl ?_; refine zO rfl (Rd.ldA rfl) ?_
              refine zw rfl (WrA.cE (hI.1 true k e1) rfl) ?_
              rintro _ _ _ ⟨_, ⟨rfl, rfl, rfl⟩, rfl⟩
              refine XOA.cl ?_; refine zN (zT (XA.condT rfl rfl (XA.skip (zT (XA.block (zS (zR (zA rfl ?_)))))))); refine zV rfl rfl ?_; refine zB rfl rfl (tyrow rfl) rfl ?_
              refine zw rfl (WrA.cE (EndS.ok hL) rfl) ?_
              rintro _ _ _ ⟨_, ⟨rfl, rfl, vi2, po2, co2, hvi2, rfl⟩, rfl⟩
              refine XOA.cl ?_; refine zN (zT (zR (zA rfl ?_)))
              refine zw rfl (WrA.cE (one_f σ b _ _ _ _ _ f2 (by omega)) rfl) ?_
              rintro _ _ _ ⟨_, ⟨rfl, rfl, rfl⟩, rfl⟩
              refine XOA.cl ?_; refine zN (DA.inb_normal (zT ?_))
              refine ⟨(Keep.updO (Keep.upd (Keep.updO (Keep.upd (Keep.upd (Keep.upd (Keep.updO (Keep.upd (Keep.upd (Keep.upd (Keep.upd (Keep.hav (Keep.hav (Keep.refl _ _) rfl) rfl) rfl) rfl) rfl) rfl) rfl) rfl) rfl) rfl) rfl) rfl) rfl), g', _, zM, ?_, ⟨rfl, by omega, ⟨cells2, inp2, out2, f2⟩, vi2, po2, co2, hr', hF3, hvi2, rfl⟩, (by omega)⟩
              · exact zE
  by_cases q6 : op = 6
  · subst q6
    rw [stG_6, isS_isF] at hr
    have hI := is_r σ pr h1 hz hvl ex _ b pv cv bs gc nc cells vi (.slice po out.length co) f hp hxe (he rfl).1 hcl hsz (by omega)
    cases e1 : isF pr.vars cells ex f with
    | error q =>
      obtain ⟨c0, k⟩ := q
      rw [e1] at hr
      cases hr
      refine enterA2 Tryz.func71 rfl rfl rfl ?_
      refine zS (zR ?_)
      refine zw rfl WrA.bx ?_
      rintro _ _ _ ⟨g3, rfl, rfl, rfl⟩
      refine zN (zT (zS (zR (zV rfl rfl ?_)))); refine zB rfl rfl (tyrow rfl) rfl ?_; refine zN (zT (XA.block (zS (zR (zO rfl (Rd.eql rfl rfl) ?_))))); refine zO rfl Rd.asg ?_; refine zN (zT (XA.condF rfl rfl (zS (zR (zO rfl (Rd.eql rfl rfl) ?_))))); refine zO rfl Rd.asg ?_
      refine zN (zT (XA.condF rfl rfl (zS (zR (zO rfl (Rd.eql rfl rfl) ?_))))); refine zO rfl Rd.asg ?_; refine zN (zT (XA.condF rfl rfl (zS (zR (zO rfl (Rd.eql rfl rfl) ?_))))); refine zO rfl Rd.asg ?_; refine zN (zT (XA.condF rfl rfl (zS (zR (zO rfl (Rd.eql rfl rfl) ?_))))); refine zO rfl Rd.asg ?_
      refine zN (zT (XA.condF rfl rfl (zS (zR (zO rfl (Rd.eql rfl rfl) ?_))))); refine zO rfl Rd.asg ?_; refine zN (zT (XA.condT rfl rfl (zS (zS (zR (zA rfl ?_)))))); refine zV rfl rfl ?_; refine zO rfl (Rd.ldA rfl) ?_
      refine XOA.die rfl (hI.2 c0 k e1) rfl ?_
      rintro _ _ _ ⟨rfl, rfl, rfl⟩
      refine DA.cl ?_
      repeat (first | refine DA.thn_panic ?_ | refine DA.inb_panic ?_)
      exact bodyA.panic zE ⟨rfl, rfl, vi, po, co, hvi, rfl⟩
    | ok q =>
      obtain ⟨bb, k⟩ := q
      have hk := isF_left e1
      rw [e1] at hr
      simp only at hr
      have hF1 : Fine pr.vars nc ⟨cells, inp, out, k⟩ := ⟨hcl, hsz, by show k < _; omega, by show out.length + k < _; omega⟩
      cases bb with
      | false =>
        simp only at hr
        have hL := list_r g σ pr els (fun x _ => ih g (by omega) x) _ b pv cv bs gc nc ⟨cells, inp, out, k⟩ vi po co r hp hxl hse hF1 hvi hr
        simp only at hL
        cases r with
        | error q =>
          obtain ⟨c0, s0⟩ := q
          refine enterA2 Tryz.func71 rfl rfl rfl ?_
          refine zS (zR ?_)
          refine zw rfl WrA.bx ?_
          rintro _ _ _ ⟨g3, rfl, rfl, rfl⟩
          refine zN (zT (zS (zR (zV rfl rfl ?_)))); refine zB rfl rfl (tyrow rfl) rfl ?_; refine zN (zT (XA.block (zS (zR (zO rfl (Rd.eql rfl rfl) ?_))))); refine zO rfl Rd.asg ?_; refine zN (zT (XA.condF rfl rfl (zS (zR (zO rfl (Rd.eql rfl rfl) ?_))))); refine zO rfl Rd.asg ?_
          refine zN (zT (XA.condF rfl rfl (zS (zR (zO rfl (Rd.eql rfl rfl) ?_))))); refine zO rfl Rd.asg ?_; refine zN (zT (XA.condF rfl rfl (zS (zR (zO rfl (Rd.eql rfl rfl) ?_))))); refine zO rfl Rd.asg ?_; refine zN (zT (XA.condF rfl rfl (zS (zR (zO rfl (Rd.eql rfl rfl) ?_))))); refine zO rfl Rd.asg ?_
          refine zN (zT (XA.condF rfl rfl (zS (zR (zO rfl (Rd.eql rfl rfl) ?_))))); refine zO rfl Rd.asg ?_; refine zN (zT (XA.condT rfl rfl (zS (zS (zR (zA rfl ?_)))))); refine zV rfl rfl ?_; refine zO rfl (Rd.ldA rfl) ?_
          refine zw rfl (WrA.cE (hI.1 false k e1) rfl) ?_
          rintro _ _ _ ⟨_, ⟨rfl, rfl, rfl⟩, rfl⟩
          refine XOA.cl ?_; refine zN (zT (XA.condF rfl rfl (XA.skip (zT (zR (zA rfl ?_)))))); refine zV rfl rfl ?_; refine zB rfl rfl (tyrow rfl) rfl ?_
          refine XOA.die rfl (EndS.err hL) rfl ?_
          rintro _ _ _ ⟨rfl, rfl, vi2, po2, co2, hvi2, rfl⟩
          refine DA.cl ?_
          repeat (first | refine DA.thn_panic ?_ | refine DA.inb_panic ?_)
          exact bodyA.panic zE ⟨rfl, rfl, vi2, po2, co2, hvi2, rfl⟩
        | ok s2 =>
          refine enterA2 Tryz.func71 rfl rfl rfl ?_
          refine zS (zR ?_)
          refine zw rfl WrA.bx ?_
          rintro _ _ _ ⟨g3, rfl, rfl, rfl⟩
          refine zN (zT (zS (zR (zV rfl rfl ?_)))); refine zB rfl rfl (tyrow rfl) rfl ?_; refine zN (zT (XA.block (zS (zR (zO rfl (Rd.eql rfl rfl) ?_))))); refine zO rfl Rd.asg ?_; refine zN (zT (XA.condF rfl rfl (zS (zR (zO rfl (Rd.eql rfl rfl) ?_))))); refine zO rfl Rd.asg ?_
          refine zN (zT (XA.condF rfl rfl (zS (zR (zO rfl (Rd.eql rfl rfl) ?_))))); refine zO rfl Rd.asg ?_; refine zN (zT (XA.condF rfl rfl (zS (zR (zO rfl (Rd.eql rfl rfl) ?_))))); refine zO rfl Rd.asg ?_; refine zN (zT (XA.condF rfl rfl (zS (zR (zO rfl (Rd.eql rfl rfl) ?_))))); refine zO rfl Rd.asg ?_
          refine zN (zT (XA.condF rfl rfl (zS (zR (zO rfl (Rd.eql rfl rfl) ?_))))); refine zO rfl Rd.asg ?_; refine zN (zT (XA.condT rfl rfl (zS (zS (zR (zA rfl ?_)))))); refine zV rfl rfl ?_; refine zO rfl (Rd.ldA rfl) ?_
          refine zw rfl (WrA.cE (hI.1 false k e1) rfl) ?_
          rintro _ _ _ ⟨_, ⟨rfl, rfl, rfl⟩, rfl⟩
          refine XOA.cl ?_; refine zN (zT (XA.condF rfl rfl (XA.skip (zT (zR (zA rfl ?_)))))); refine zV rfl rfl ?_; refine zB rfl rfl (tyrow rfl) rfl ?_
          refine zw rfl (WrA.cE (EndS.ok hL) rfl) ?_
          rintro _ _ _ ⟨_, ⟨rfl, rfl, vi2, po2, co2, hvi2, rfl⟩, rfl⟩
          refine XOA.cl ?_; refine zN (DA.inb_normal ?_)
          exact bodyA.normal (ResA.none rfl) zE ⟨rfl, rfl, vi2, po2, co2, hvi2, rfl⟩
      | true =>
        simp only at hr
        cases e2 : listG (stG pr.vars g) body ⟨cells, inp, out, k⟩ with
        | none => rw [e2] at hr; cases hr
        | some q =>
          have hL := list_r g σ pr body (fun x _ => ih g (by omega) x) _ b pv cv bs gc nc ⟨cells, inp, out, k⟩ vi po co q hp hxb hsb hF1 hvi e2
          have hle := listG_less (stG_less pr.vars g) _ _ _ e2
          rw [e2] at hr
          simp only at hr hL
          cases q with
          | error q =>
            obtain ⟨c0, s0⟩ := q
            cases hr
            refine enterA2 Tryz.func71 rfl rfl rfl ?_
            refine zS (zR ?_)
            refine zw rfl WrA.bx ?_
            rintro _ _ _ ⟨g3, rfl, rfl, rfl⟩
            refine zN (zT (zS (zR (zV rfl rfl ?_)))); refine zB rfl rfl (tyrow rfl) rfl ?_; refine zN (zT (XA.block (zS (zR (zO rfl (Rd.eql rfl rfl) ?_))))); refine zO rfl Rd.asg ?_; refine zN (zT (XA.condF rfl rfl (zS (zR (zO rfl (Rd.eql rfl rfl) ?_))))); refine zO rfl Rd.asg ?_
            refine zN (zT (XA.condF rfl rfl (zS (zR (zO rfl (Rd.eql rfl rfl) ?_))))); refine zO rfl Rd.asg ?_; refine zN (zT (XA.condF rfl rfl (zS (zR (zO rfl (Rd.eql rfl rfl) ?_))))); refine zO rfl Rd.asg ?_; refine zN (zT (XA.condF rfl rfl (zS (zR (zO rfl (Rd.eql rfl rfl) ?_))))); refine zO rfl Rd.asg ?_
            refine zN (zT (XA.condF rfl rfl (zS (zR (zO rfl (Rd.eql rfl rfl) ?_))))); refine zO rfl Rd.asg ?_; refine zN (zT (XA.condT rfl rfl (zS (zS (zR (zA rfl ?_)))))); refine zV rfl rfl ?_; refine zO rfl (Rd.ldA rfl) ?_
            refine zw rfl (WrA.cE (hI.1 true k e1) rfl) ?_
            rintro _ _ _ ⟨_, ⟨rfl, rfl, rfl⟩, rfl⟩
            refine XOA.cl ?_; refine zN (zT (XA.condT rfl rfl (zS (zR (zA rfl ?_))))); refine zV rfl rfl ?_; refine zB rfl rfl (tyrow rfl) rfl ?_
            refine XOA.die rfl (EndS.err hL) rfl ?_
            rintro _ _ _ ⟨rfl, rfl, vi2, po2, co2, hvi2, rfl⟩
            refine DA.cl ?_
            repeat (first | refine DA.thn_panic ?_ | refine DA.inb_panic ?_)
            exact bodyA.panic zE ⟨rfl, rfl, vi2, po2, co2, hvi2, rfl⟩
          | ok s2 =>
            have hF2 := hF1.less hle
            obtain ⟨cells2, inp2, out2, f2⟩ := s2
            have hleft2 : f2 < 1000000 := hF2.left
            simp only at hr
            cases f2 with
            | zero =>
              rw [show oneS ⟨cells2, inp2, out2, 0⟩ = .error (13, ⟨cells2, inp2, out2, 0⟩) from rfl] at hr
              cases hr
              refine enterA2 Tryz.func71 rfl rfl rfl ?_
              refine zS (zR ?_)
              refine zw rfl WrA.bx ?_
              rintro _ _ _ ⟨g3, rfl, rfl, rfl⟩
              refine zN (zT (zS (zR (zV rfl rfl ?_)))); refine zB rfl rfl (tyrow rfl) rfl ?_; refine zN (zT (XA.block (zS (zR (zO rfl (Rd.eql rfl rfl) ?_))))); refine zO rfl Rd.asg ?_; refine zN (zT (XA.condF rfl rfl (zS (zR (zO rfl (Rd.eql rfl rfl) ?_))))); refine zO rfl Rd.asg ?_
              refine zN (zT (XA.condF rfl rfl (zS (zR (zO rfl (Rd.eql rfl rfl) ?_))))); refine zO rfl Rd.asg ?_; refine zN (zT (XA.condF rfl rfl (zS (zR (zO rfl (Rd.eql rfl rfl) ?_))))); refine zO rfl Rd.asg ?_; refine zN (zT (XA.condF rfl rfl (zS (zR (zO rfl (Rd.eql rfl rfl) ?_))))); refine zO rfl Rd.asg ?_
              refine zN (zT (XA.condF rfl rfl (zS (zR (zO rfl (Rd.eql rfl rfl) ?_))))); refine zO rfl Rd.asg ?_; refine zN (zT (XA.condT rfl rfl (zS (zS (zR (zA rfl ?_)))))); refine zV rfl rfl ?_; refine zO rfl (Rd.ldA rfl) ?_
              refine zw rfl (WrA.cE (hI.1 true k e1) rfl) ?_
              rintro _ _ _ ⟨_, ⟨rfl, rfl, rfl⟩, rfl⟩
              refine XOA.cl ?_; refine zN (zT (XA.condT rfl rfl (zS (zR (zA rfl ?_))))); refine zV rfl rfl ?_; refine zB rfl rfl (tyrow rfl) rfl ?_
              refine zw rfl (WrA.cE (EndS.ok hL) rfl) ?_
              rintro _ _ _ ⟨_, ⟨rfl, rfl, vi2, po2, co2, hvi2, rfl⟩, rfl⟩
              refine XOA.cl ?_; refine zN (zT (zS (zR (zA rfl ?_))))
              refine XOA.die rfl (one_t σ b _ _ _ _ _) rfl ?_
              rintro _ _ _ ⟨rfl, rfl, rfl⟩
              refine DA.cl ?_
              repeat (first | refine DA.thn_panic ?_ | refine DA.inb_panic ?_)
              exact bodyA.panic zE ⟨rfl, rfl, vi2, po2, co2, hvi2, rfl⟩
            | succ f2 =>
              rw [show oneS ⟨cells2, inp2, out2, f2 + 1⟩ = .ok ⟨cells2, inp2, out2, f2⟩ by simp [oneS]] at hr
              cases hr
              refine enterA2 Tryz.func71 rfl rfl rfl ?_
              refine zS (zR ?_)
              refine zw rfl WrA.bx ?_
              rintro _ _ _ ⟨g3, rfl, rfl, rfl⟩
              refine zN (zT (zS (zR (zV rfl rfl ?_)))); refine zB rfl rfl (tyrow rfl) rfl ?_; refine zN (zT (XA.block (zS (zR (zO rfl (Rd.eql rfl rfl) ?_))))); refine zO rfl Rd.asg ?_; refine zN (zT (XA.condF rfl rfl (zS (zR (zO rfl (Rd.eql rfl rfl) ?_))))); refine zO rfl Rd.asg ?_
              refine zN (zT (XA.condF rfl rfl (zS (zR (zO rfl (Rd.eql rfl rfl) ?_))))); refine zO rfl Rd.asg ?_; refine zN (zT (XA.condF rfl rfl (zS (zR (zO rfl (Rd.eql rfl rfl) ?_))))); refine zO rfl Rd.asg ?_; refine zN (zT (XA.condF rfl rfl (zS (zR (zO rfl (Rd.eql rfl rfl) ?_))))); refine zO rfl Rd.asg ?_
              refine zN (zT (XA.condF rfl rfl (zS (zR (zO rfl (Rd.eql rfl rfl) ?_))))); refine zO rfl Rd.asg ?_; refine zN (zT (XA.condT rfl rfl (zS (zS (zR (zA rfl ?_)))))); refine zV rfl rfl ?_; refine zO rfl (Rd.ldA rfl) ?_
              refine zw rfl (WrA.cE (hI.1 true k e1) rfl) ?_
              rintro _ _ _ ⟨_, ⟨rfl, rfl, rfl⟩, rfl⟩
              refine XOA.cl ?_; refine zN (zT (XA.condT rfl rfl (zS (zR (zA rfl ?_))))); refine zV rfl rfl ?_; refine zB rfl rfl (tyrow rfl) rfl ?_
              refine zw rfl (WrA.cE (EndS.ok hL) rfl) ?_
              rintro _ _ _ ⟨_, ⟨rfl, rfl, vi2, po2, co2, hvi2, rfl⟩, rfl⟩
              refine XOA.cl ?_; refine zN (zT (zS (zR (zA rfl ?_))))
              refine zw rfl (WrA.cE (one_f σ b _ _ _ _ _ f2 (by omega)) rfl) ?_
              rintro _ _ _ ⟨_, ⟨rfl, rfl, rfl⟩, rfl⟩
              refine XOA.cl ?_; refine zN (zT (XA.ret (DA.thn_ret (DA.inb_ret ?_))))
              exact bodyA.ret (ResA.none rfl) zE ⟨rfl, rfl, vi2, po2, co2, hvi2, rfl⟩
  obtain rfl : op = 7 := by omega
  rw [stG, if_neg (by decide), if_neg (by decide), if_neg (by decide), if_neg (by decide), if_neg (by decide), if_neg (by decide), if_pos rfl] at hr
  cases f with
  | zero =>
    rw [show oneS ⟨cells, inp, out, 0⟩ = .error (13, ⟨cells, inp, out, 0⟩) from rfl] at hr
    cases hr
    refine enterA2 Tryz.func71 rfl rfl rfl ?_
    refine zS (zR ?_)
    refine zw rfl WrA.bx ?_
    rintro _ _ _ ⟨g3, rfl, rfl, rfl⟩
    refine zN (zT (zS (zR (zV rfl rfl ?_)))); refine zB rfl rfl (tyrow rfl) rfl ?_; refine zN (zT (XA.block (zS (zR (zO rfl (Rd.eql rfl rfl) ?_))))); refine zO rfl Rd.asg ?_; refine zN (zT (XA.condF rfl rfl (zS (zR (zO rfl (Rd.eql rfl rfl) ?_))))); refine zO rfl Rd.asg ?_
    refine zN (zT (XA.condF rfl rfl (zS (zR (zO rfl (Rd.eql rfl rfl) ?_))))); refine zO rfl Rd.asg ?_; refine zN (zT (XA.condF rfl rfl (zS (zR (zO rfl (Rd.eql rfl rfl) ?_))))); refine zO rfl Rd.asg ?_; refine zN (zT (XA.condF rfl rfl (zS (zR (zO rfl (Rd.eql rfl rfl) ?_))))); refine zO rfl Rd.asg ?_
    refine zN (zT (XA.condF rfl rfl (zS (zR (zO rfl (Rd.eql rfl rfl) ?_))))); refine zO rfl Rd.asg ?_; refine zN (zT (XA.condF rfl rfl (zS (zR (zO rfl (Rd.eql rfl rfl) ?_))))); refine zO rfl Rd.asg ?_; refine zN (zT (XA.condT rfl rfl (zR (zA rfl ?_))))
    refine XOA.die rfl (one_t σ b _ _ _ _ _) rfl ?_
    rintro _ _ _ ⟨rfl, rfl, rfl⟩
    refine DA.cl ?_
    repeat (first | refine DA.thn_panic ?_ | refine DA.inb_panic ?_)
    exact bodyA.panic zE ⟨rfl, rfl, vi, po, co, hvi, rfl⟩
  | succ k =>
    rw [show oneS ⟨cells, inp, out, k + 1⟩ = .ok ⟨cells, inp, out, k⟩ by simp [oneS]] at hr
    cases hr
    refine enterA2 Tryz.func71 rfl rfl rfl ?_
    refine zS (zR ?_)
    refine zw rfl WrA.bx ?_
    rintro _ _ _ ⟨g3, rfl, rfl, rfl⟩
    refine zN (zT (zS (zR (zV rfl rfl ?_)))); refine zB rfl rfl (tyrow rfl) rfl ?_; refine zN (zT (XA.block (zS (zR (zO rfl (Rd.eql rfl rfl) ?_))))); refine zO rfl Rd.asg ?_; refine zN (zT (XA.condF rfl rfl (zS (zR (zO rfl (Rd.eql rfl rfl) ?_))))); refine zO rfl Rd.asg ?_
    refine zN (zT (XA.condF rfl rfl (zS (zR (zO rfl (Rd.eql rfl rfl) ?_))))); refine zO rfl Rd.asg ?_; refine zN (zT (XA.condF rfl rfl (zS (zR (zO rfl (Rd.eql rfl rfl) ?_))))); refine zO rfl Rd.asg ?_; refine zN (zT (XA.condF rfl rfl (zS (zR (zO rfl (Rd.eql rfl rfl) ?_))))); refine zO rfl Rd.asg ?_
    refine zN (zT (XA.condF rfl rfl (zS (zR (zO rfl (Rd.eql rfl rfl) ?_))))); refine zO rfl Rd.asg ?_; refine zN (zT (XA.condF rfl rfl (zS (zR (zO rfl (Rd.eql rfl rfl) ?_))))); refine zO rfl Rd.asg ?_; refine zN (zT (XA.condT rfl rfl (zR (zA rfl ?_))))
    refine zw rfl (WrA.cE (one_f σ b _ _ _ _ _ k (by omega)) rfl) ?_
    rintro _ _ _ ⟨_, ⟨rfl, rfl, rfl⟩, rfl⟩
    refine XOA.cl ?_; refine zN (DA.inb_normal ?_)
    exact bodyA.normal (ResA.none rfl) zE ⟨rfl, rfl, vi, po, co, hvi, rfl⟩
end Go.Proofs.YtmnmcjdgnpgchaaGreat

namespace Go.Proofs.YtmnmcjdgnpgchaaGreat
open Go X
theorem listG_mono {F F' : St → RS → Option RR} (h : ∀ x s r, F x s = some r → F' x s = some r) : ∀ (l : List St) (s : RS) (r : RR), listG F l s = some r → listG F' l s = some r
  | [], s, r, e => e
  | x :: l, s, r, e => by
    rw [listG] at e ⊢
    cases e1 : F x s with
    | none => rw [e1] at e; cases e
    | some q =>
      rw [e1] at e
      rw [h _ _ _ e1]
      cases q with
      | error q => exact e
      | ok s1 => exact listG_mono h l s1 r e
theorem stG_step (vs : List Va) : ∀ (g : Nat) (x : St) (s : RS) (r : RR), stG vs g x s = some r → stG vs (g + 1) x s = some r := by
  intro g
  induction g with
  | zero => intro x s r h; cases h
  | succ g ih =>
    intro x s r h
    obtain ⟨op, v, e, f, body, els⟩ := x
    by_cases q1 : op = 1
    · subst q1; rw [stG, if_pos rfl] at h ⊢; exact h
    by_cases q2 : op = 2
    · subst q2; rw [stG, if_neg (by decide), if_pos rfl] at h ⊢; exact h
    by_cases q3 : op = 3
    · subst q3; rw [stG, if_neg (by decide), if_neg (by decide), if_pos rfl] at h ⊢; exact h
    by_cases q4 : op = 4
    · subst q4; rw [stG, if_neg (by decide), if_neg (by decide), if_neg (by decide), if_pos rfl] at h ⊢; exact h
    have hl := listG_mono ih
    by_cases q5 : op = 5
    · subst q5
      rw [stG_5] at h ⊢
      cases e1 : isS vs e s with
      | error q => rw [e1] at h; exact h
      | ok q =>
        obtain ⟨bb, s1⟩ := q
        rw [e1] at h
        cases bb with
        | false => exact h
        | true =>
          simp only at h ⊢
          cases e2 : listG (stG vs g) body s1 with
          | none => rw [e2] at h; cases h
          | some q =>
            rw [e2] at h
            rw [hl _ _ _ e2]
            cases q with
            | error q => exact h
            | ok s2 =>
              simp only at h ⊢
              cases e3 : oneS s2 with
              | error q => rw [e3] at h; exact h
              | ok s3 => rw [e3] at h; exact ih _ _ _ h
    by_cases q6 : op = 6
    · subst q6
      rw [stG_6] at h ⊢
      cases e1 : isS vs e s with
      | error q => rw [e1] at h; exact h
      | ok q =>
        obtain ⟨bb, s1⟩ := q
        rw [e1] at h
        cases bb with
        | false => exact hl _ _ _ h
        | true =>
          simp only at h ⊢
          cases e2 : listG (stG vs g) body s1 with
          | none => rw [e2] at h; cases h
          | some q => rw [e2] at h; rw [hl _ _ _ e2]; exact h
    rw [stG, if_neg q1, if_neg q2, if_neg q3, if_neg q4, if_neg q5, if_neg q6] at h ⊢
    exact h
theorem stG_le (vs : List Va) {g g' : Nat} (hg : g ≤ g') {x : St} {s : RS} {r : RR} (h : stG vs g x s = some r) : stG vs g' x s = some r := by
  induction hg with
  | refl => exact h
  | step _ ih => exact stG_step vs _ _ _ _ ih
theorem isS_lt {vs : List Va} {x : Ex} {s : RS} {b : Bool} {s' : RS} (h : isS vs x s = .ok (b, s')) : s'.left < s.left := by
  rw [isS] at h
  obtain ⟨h1, -⟩ := exS_less vs x s
  cases e : exS vs x s with
  | error q => rw [e] at h; cases h
  | ok q =>
    obtain ⟨n, s1⟩ := q
    have a := (h1 _ _ e).2.1
    rw [e] at h
    simp only at h
    cases e2 : oneS s1 with
    | error q => rw [e2] at h; cases h
    | ok s2 =>
      rw [e2] at h
      cases h
      have := (oneS_less.1 _ e2).2.1
      omega
theorem listG_total {vs : List Va} {f : Nat} (hT : ∀ x s, s.left ≤ f → ∃ g r, stG vs g x s = some r) : ∀ (l : List St) (s : RS), s.left ≤ f → ∃ g r, listG (stG vs g) l s = some r
  | [], s, _ => ⟨0, _, rfl⟩
  | x :: l, s, hs => by
    obtain ⟨g, r, e⟩ := hT x s hs
    cases r with
    | error q => exact ⟨g, .error q, by rw [listG, e]⟩
    | ok s1 =>
      have hle := stG_less _ _ _ _ _ e
      obtain ⟨g2, r2, e2⟩ := listG_total hT l s1 (Nat.le_trans hle.left hs)
      refine ⟨max g g2, r2, ?_⟩
      rw [listG, stG_le vs (Nat.le_max_left g g2) e]
      exact listG_mono (fun x s r h => stG_le vs (Nat.le_max_right g g2) h) _ _ _ e2
theorem stG_total (vs : List Va) : ∀ (f : Nat) (x : St) (s : RS), s.left ≤ f → ∃ g r, stG vs g x s = some r := by
  intro f
  induction f using Nat.strongRecOn with
  | _ f ih =>
  intro x s hs
  have hL : ∀ (l : List St) (s1 : RS), s1.left < s.left → ∃ g r, listG (stG vs g) l s1 = some r := fun l s1 h1 => listG_total (fun x s2 h2 => ih s1.left (by omega) x s2 h2) l s1 (Nat.le_refl _)
  obtain ⟨op, v, e, ff, body, els⟩ := x
  by_cases q1 : op = 1
  · subst q1; exact ⟨1, _, by rw [stG, if_pos rfl]⟩
  by_cases q2 : op = 2
  · subst q2; exact ⟨1, _, by rw [stG, if_neg (by decide), if_pos rfl]⟩
  by_cases q3 : op = 3
  · subst q3; exact ⟨1, _, by rw [stG, if_neg (by decide), if_neg (by decide), if_pos rfl]⟩
  by_cases q4 : op = 4
  · subst q4; exact ⟨1, _, by rw [stG, if_neg (by decide), if_neg (by decide), if_neg (by decide), if_pos rfl]⟩
  by_cases q5 : op = 5
  · subst q5
    cases e1 : isS vs e s with
    | error q => exact ⟨1, _, by rw [stG_5, e1]⟩
    | ok q =>
      obtain ⟨bb, s1⟩ := q
      have h1 := isS_lt e1
      cases bb with
      | false => exact ⟨1, _, by rw [stG_5, e1]⟩
      | true =>
        obtain ⟨g2, r2, e2⟩ := hL body s1 h1
        cases r2 with
        | error q => exact ⟨g2 + 1, .error q, by rw [stG_5, e1]; simp only [e2]⟩
        | ok s2 =>
          have hle := listG_less (stG_less vs g2) _ _ _ e2
          cases e3 : oneS s2 with
          | error q => exact ⟨g2 + 1, .error q, by rw [stG_5, e1]; simp only [e2, e3]⟩
          | ok s3 =>
            have h3 := (oneS_less.1 _ e3).2.1
            have h2 : s2.left ≤ s1.left := hle.left
            obtain ⟨g4, r4, e4⟩ := ih s3.left (by omega) (.mk 5 v e ff body els) s3 (Nat.le_refl _)
            refine ⟨max g2 g4 + 1, r4, ?_⟩
            rw [stG_5, e1]
            simp only [listG_mono (fun x s r h => stG_le vs (Nat.le_max_left g2 g4) h) _ _ _ e2, e3]
            exact stG_le vs (Nat.le_max_right g2 g4) e4
  by_cases q6 : op = 6
  · subst q6
    cases e1 : isS vs e s with
    | error q => exact ⟨1, _, by rw [stG_6, e1]⟩
    | ok q =>
      obtain ⟨bb, s1⟩ := q
      have h1 := isS_lt e1
      cases bb with
      | false =>
        obtain ⟨g2, r2, e2⟩ := hL els s1 h1
        exact ⟨g2 + 1, r2, by rw [stG_6, e1]; exact e2⟩
      | true =>
        obtain ⟨g2, r2, e2⟩ := hL body s1 h1
        cases r2 with
        | error q => exact ⟨g2 + 1, .error q, by rw [stG_6, e1]; simp only [e2]⟩
        | ok s2 => exact ⟨g2 + 1, oneS s2, by rw [stG_6, e1]; simp only [e2]⟩
  exact ⟨1, if op = 7 then oneS s else .ok s, by rw [stG, if_neg q1, if_neg q2, if_neg q3, if_neg q4, if_neg q5, if_neg q6]; split <;> rfl⟩
def finR : RR → RR
  | .ok s => oneS s
  | .error e => .error e
def endR : RR → Int × RS
  | .ok s => (0, s)
  | .error e => e
def start (p : Pr) (inp : List Int) (fuel : Nat) : RS := ⟨List.replicate (sizes p.vars).toNat 0, inp, [], fuel⟩
def RunIs (p : Pr) (inp : List Int) (fuel : Nat) (c : Int) (s : RS) : Prop := ∃ g r, listG (stG p.vars g) p.body (start p inp fuel) = some r ∧ endR (finR r) = (c, s)
theorem run_total (p : Pr) (inp : List Int) (fuel : Nat) : ∃ c s, RunIs p inp fuel c s := by
  obtain ⟨g, r, e⟩ := listG_total (stG_total p.vars (start p inp fuel).left) p.body (start p inp fuel) (Nat.le_refl _)
  exact ⟨_, _, g, r, e, rfl⟩
end Go.Proofs.YtmnmcjdgnpgchaaGreat

namespace Go.Proofs.YtmnmcjdgnpgchaaGreat
open Go X
set_option maxHeartbeats 1000000
section
variable {P : Program} {ρ : Env} {h : Heap} {ty : TypeId} {σ : PH} {Γ : List HP}
theorem Wr.makeSlice {T e n m : Nat} {x y : Operand} {kx ky : IntKind} {r re : Ty} (hT : tyOf P T = some r) (hk : r.k = .slice e) (hE : tyOf P e = some re) (hx : ev ρ x = .int kx n) (hy : ev ρ y = .int ky n) (hn : h.size = m) (hz : re.zero.length = re.size) (hb : re.bytes * n ≤ 16777216) (hs : n ≤ 16777216) (h0 : n * re.size ≠ 0) :
    Wr P ρ h (.makeSlice T x y) ty (fun v' h' => v' = .slice (some ⟨m, 0, none⟩) n n ∧ h' = h.push (.cells ((List.range (n * re.size)).map fun k => re.zero.getD (k % re.size) undef).toArray e (0, 0))) X.noP := by
  subst hn
  refine Wr.run fun d pos af gd w hw => ?_
  obtain ⟨dd, i, z, e1, e2, -⟩ := tyOf_spec hT
  obtain ⟨dd', i', z', e1', e2', e3', e4', e5', e6', e7'⟩ := tyOf_spec hE
  rw [hk] at e2
  cases dd <;> simp [kindOf] at e2
  rw [e2] at e1
  clear e2
  have hzs : z'.cells.size = re.size := by rw [← Array.length_toList, e7', hz]
  have hzero : (Array.range (n * re.size)).map (fun k => z'.cells[k % z'.cells.size]!) = ((List.range (n * re.size)).map fun k => re.zero.getD (k % re.size) undef).toArray := by
    apply Array.ext'
    simp only [Array.toList_map, Array.toList_range, hzs]
    apply List.map_congr_left
    intro k hk
    have hlt : k % re.size < re.size := Nat.mod_lt _ (by
      rcases Nat.eq_zero_or_pos re.size with h0 | h0
      · rw [h0, Nat.mul_zero] at hk; simp at hk
      · exact h0)
    rw [← e7']
    have hlt' : k % re.size < z'.cells.size := by rw [hzs]; exact hlt
    simp [getElem!_pos, hlt', List.getD_eq_getElem?_getD]
  have hwn : IntKind.i64.wrap (n : Int) = n := X.wrap64_in (by omega) (by omega)
  have hroom : ¬ (n * re.bytes > roomBytes) := by rw [Nat.mul_comm]; simp only [roomBytes]; omega
  have hbi : ¬ ((re.bytes : Int) * n > 2 ^ 48) := by
    have : ((re.bytes * n : Nat) : Int) ≤ 16777216 := by omega
    rw [Int.natCast_mul] at this
    omega
  refine ⟨_, w.alloc (.cells ((List.range (n * re.size)).map fun k => re.zero.getD (k % re.size) undef).toArray e (0, 0)), ?_, ⟨rfl, rfl, rfl⟩, rfl, by rw [← hw]; rfl⟩
  simp only [execOp, Instr.makeSlice, Sem.run_bind, run_underlying e1, Result.andThen_ok, sizeOf, typeInfo, run_program, e3', e4', e5', Sem.run_pure, zeroValue, e6', hx, hy, asInt, asIntOf, Result.andThen_ok, hwn]
  rw [if_neg (by simp; omega)]
  simp only [askRoom, if_neg hroom, Int.toNat_natCast, Sem.run_bind, Sem.run_pure, Result.andThen_ok, sizeOf, typeInfo, run_program, e3', e4', zeroValue, e6', if_neg h0]
  rw [hzero]
  simp [newRow, hw]
theorem X.WrA.mkS {T e n : Nat} {x y : Operand} {kx ky : IntKind} {r re : Ty} {zs : List Value} (hT : tyOf P T = some r) (hk : r.k = .slice e) (hE : tyOf P e = some re) (hx : ev ρ x = .int kx n) (hy : ev ρ y = .int ky n) (hz : re.zero.length = re.size) (hb : re.bytes * n ≤ 16777216) (hs : n ≤ 16777216) (h0 : n * re.size ≠ 0)
    (hzs : ((List.range (n * re.size)).map fun k => re.zero.getD (k % re.size) undef) = zs) : WrA P ρ σ Γ (.makeSlice T x y) ty (fun v' σ' Γ' => ∃ g, v' = .slice (some ⟨g, 0, none⟩) n n ∧ σ = σ' ∧ Γ' = blk g zs e :: Γ) noPA :=
  Wr.toA (Q := fun h v h' => v = .slice (some ⟨h.size, 0, none⟩) n n ∧ h' = h.push (cellsOf zs e)) (fun _ _ => by subst hzs; exact Wr.makeSlice hT hk hE hx hy rfl hz hb hs h0) fun f h v h' hh ⟨e1, e2⟩ => ⟨σ, _, ⟨h.size, e1, rfl, rfl⟩, e2 ▸ hh.alloc _ _⟩
end
end Go.Proofs.YtmnmcjdgnpgchaaGreat

namespace Go.Proofs.YtmnmcjdgnpgchaaGreat
open Go X
set_option maxHeartbeats 1000000
section
variable {P : Program} {ρ : Env} {h : Heap} {ty : TypeId} {σ : PH} {Γ : List HP}
theorem Wr.makeNone {T e m : Nat} {x y : Operand} {kx ky : IntKind} {r re : Ty} (hT : tyOf P T = some r) (hk : r.k = .slice e) (hE : tyOf P e = some re) (hx : ev ρ x = .int kx 0) (hy : ev ρ y = .int ky 0) (hn : h.size = m) :
    Wr P ρ h (.makeSlice T x y) ty (fun v' h' => v' = .slice (some ⟨m, 0, none⟩) 0 0 ∧ h' = h.push (.cells ([] : List Value).toArray e (0, 0))) X.noP := by
  subst hn
  refine Wr.run fun d pos af gd w hw => ?_
  obtain ⟨dd, i, z, e1, e2, -⟩ := tyOf_spec hT
  obtain ⟨dd', i', z', e1', e2', e3', e4', e5', e6', e7'⟩ := tyOf_spec hE
  rw [hk] at e2
  cases dd <;> simp [kindOf] at e2
  rw [e2] at e1
  clear e2
  have hwn : IntKind.i64.wrap 0 = 0 := rfl
  have hroom : ¬ (0 * re.bytes > roomBytes) := by simp
  refine ⟨_, w.alloc (.cells ([] : List Value).toArray e (0, 0)), ?_, ⟨rfl, rfl, rfl⟩, rfl, by rw [← hw]; rfl⟩
  simp only [execOp, Instr.makeSlice, Sem.run_bind, run_underlying e1, Result.andThen_ok, sizeOf, typeInfo, run_program, e3', e4', e5', Sem.run_pure, zeroValue, e6', hx, hy, asInt, asIntOf, Result.andThen_ok, hwn]
  rw [if_neg (by simp)]
  simp [askRoom, newRow, hw, sizeOf, typeInfo, e3']
  congr 2
  apply Array.ext'
  simp
theorem X.WrA.mkA {T e n : Nat} {x y : Operand} {kx ky : IntKind} {r re : Ty} {zs : List Value} (hT : tyOf P T = some r) (hk : r.k = .slice e) (hE : tyOf P e = some re) (hx : ev ρ x = .int kx n) (hy : ev ρ y = .int ky n) (hz : re.zero.length = re.size) (hs1 : re.size = 1) (hb : re.bytes * n ≤ 16777216) (hs : n ≤ 16777216)
    (hzs : ((List.range (n * re.size)).map fun k => re.zero.getD (k % re.size) undef) = zs) : WrA P ρ σ Γ (.makeSlice T x y) ty (fun v' σ' Γ' => ∃ g, v' = .slice (some ⟨g, 0, none⟩) n n ∧ σ = σ' ∧ Γ' = blk g zs e :: Γ) noPA := by
  cases n with
  | zero =>
    have hz0 : zs = [] := by rw [← hzs]; simp
    subst hz0
    exact Wr.toA (Q := fun h v h' => v = .slice (some ⟨h.size, 0, none⟩) 0 0 ∧ h' = h.push (cellsOf ([] : List Value) e)) (fun _ _ => Wr.makeNone hT hk hE hx hy rfl) fun f h v h' hh ⟨e1, e2⟩ => ⟨σ, _, ⟨h.size, e1, rfl, rfl⟩, e2 ▸ hh.alloc _ _⟩
  | succ n => exact X.WrA.mkS hT hk hE hx hy hz hb hs (by rw [hs1]; omega) hzs
end
theorem zeros_ints (n : Nat) {z : List Value} (hz : z = [i64 0]) : ((List.range (n * 1)).map fun k => z.getD (k % 1) undef) = ints (List.replicate n 0) := by
  subst hz
  rw [ints, Nat.mul_one]
  induction n with
  | zero => rfl
  | succ n ih => rw [List.range_succ, List.map_append, ih, List.replicate_succ']; simp [Nat.mod_one]
theorem gone_zero : (Tryz.prog.info? 88).bind (·.zero) = some (.int .i64 0) := by kernel_rfl
theorem any_if : ∃ ms, Tryz.prog.underlying 20 = some (.interface ms) := ⟨#[], by kernel_rfl⟩
section
variable (σ : PH) (g10 g5 g6 g7 gr gc nc : Nat) (v0 v1 vi : Value) (po : Option Addr) (no co fuel left : Nat) (hf : fuel ≤ 3000) (hs : left ≤ fuel) (r0 r1 : List Value) (hr0 : r0.length = 3) (hr1 : r1.length = 1)
include hf hs hr0 hr1
theorem recov_n :
    CallsDA Tryz.prog 41 #[ptr g10, ptr g5, ptr g6, ptr g7] .returning σ [blk g10 [ptr gr] 85, blk g5 [i64 fuel] 3, blk g6 r0 35, blk g7 r1 3, blk gr [v0, v1, .slice (some ⟨gc, 0, none⟩) nc nc, vi, .slice po no co, i64 left] 87]
      (fun u' σ' Γ' => settle u' = .returning ∧ σ = σ' ∧ Γ' = [blk g6 [i64 0, .slice po no co, .slice (some ⟨gc, 0, none⟩) nc nc] 35, blk g7 [i64 ((fuel : Int) - left)] 3]) := by
  obtain ⟨ms, hms⟩ := any_if
  refine CallsDA.recovers4 Tryz.func41 rfl rfl rfl rfl ?_
  dsimp only [recv]
  have hspl : splice r0 0 [i64 0, .slice po no co, .slice (some ⟨gc, 0, none⟩) nc nc] = [i64 0, .slice po no co, .slice (some ⟨gc, 0, none⟩) nc nc] := splice_all hr0
  have hspl2 : splice r1 0 [i64 ((fuel : Int) - left)] = [i64 ((fuel : Int) - left)] := splice_all hr1
  have hfit : 0 + ty35.size ≤ r0.length := by rw [hr0]; exact Nat.le_refl _
  have hfit2 : ∀ _ : Unit, 0 + ty3.size ≤ r1.length := fun _ => by rw [hr1]; exact Nat.le_refl _
  refine zS (zR (zA rfl ?_)); refine zO rfl (Rd.tassertNil (tyrow rfl) rfl gone_zero rfl) ?_; refine zA rfl ?_; refine zO rfl (Rd.extract rfl rfl) ?_; refine zO rfl (Rd.extract rfl rfl) ?_; refine zO rfl Rd.asg ?_; refine zO rfl Rd.asg ?_; refine zN (zT (zS (zS (zR (zA rfl ?_)))))
  refine zO rfl (Rd.neqIfF hms rfl) ?_; refine zA rfl ?_
  first | (refine zG ?_; refine zA rfl ?_) | refine zH ?_
  first | (refine zG ?_; refine zO rfl zJ ?_) | refine zH ?_
  refine zO rfl zP ?_; refine zN (zT (XA.condF rfl rfl (XA.skip (zT ?_))))
  refine XA.draw (by kernel_rfl) _ _ [16, 17] [(0, .pu), (1, .rd), (2, .pu), (3, .pu), (4, .rd), (5, .rd), (6, .pu), (7, .pu), (8, .rd), (9, .pu), (10, .rd), (11, .rd), (12, .pu), (13, .pu), (14, .rd), (15, .pu), (16, .wr), (17, .wr)] (by kernel_rfl) (PH.sub.refl _) (Ent.sel (R := blk g10 _ _) zL (Ent.sel (R := blk g5 _ _) zL (Ent.sel (R := blk gr _ _) zL (Ent.nil _)))) ?_
  refine zu rfl rfl Rd.mv ?_; refine XPA.rd rfl rfl Gd.free (Rd.ldC rfl (tyrow rfl) rfl) ?_; refine zu rfl rfl (Rd.nilCheck rfl) ?_; refine zu rfl rfl (Rd.fA rfl) ?_; refine XPA.rd rfl rfl Gd.free (Rd.ldC rfl (tyrow rfl) rfl) ?_
  refine XPA.rd rfl rfl Gd.free (Rd.ldC rfl (tyrow rfl) rfl) ?_; refine zu rfl rfl (Rd.nilCheck rfl) ?_; refine zu rfl rfl (Rd.fA rfl) ?_; refine XPA.rd rfl rfl Gd.free (Rd.ldC rfl (tyrow rfl) rfl) ?_
  refine zu rfl rfl (Rd.bl (fun _ _ => tyrow) rfl rfl rfl) ?_
  refine XPA.rd rfl rfl Gd.free (Rd.ldC rfl (tyrow rfl) rfl) ?_; refine XPA.rd rfl rfl Gd.free (Rd.ldC rfl (tyrow rfl) rfl) ?_; refine zu rfl rfl (Rd.nilCheck rfl) ?_; refine zu rfl rfl (Rd.fA rfl) ?_; refine XPA.rd rfl rfl Gd.free (Rd.ldC rfl (tyrow rfl) rfl) ?_
  refine zu rfl rfl (by first | exact Rd.sbi rfl rfl | exact Rd.sub rfl rfl) ?_
  refine XPA.wrZ0 rfl rfl Gd.free (by kernel_rfl) (WrA.st (tyrow rfl) rfl) ?_
  rintro _ _ _ ⟨rfl, rfl, rfl⟩
  refine XPA.wrZ0 rfl rfl Gd.free (by kernel_rfl) (WrA.st (tyrow rfl) rfl) ?_
  rintro _ _ _ ⟨rfl, rfl, rfl⟩
  refine XPA.nil ?_
  exact bodyA.normal (ResA.none rfl) zE ⟨rfl, rfl, rfl⟩
theorem recov_p (c : Int) :
    CallsDA Tryz.prog 41 #[ptr g10, ptr g5, ptr g6, ptr g7] (.panicking (goneC c)) σ [blk g10 [ptr gr] 85, blk g5 [i64 fuel] 3, blk g6 r0 35, blk g7 r1 3, blk gr [v0, v1, .slice (some ⟨gc, 0, none⟩) nc nc, vi, .slice po no co, i64 left] 87]
      (fun u' σ' Γ' => settle u' = .returning ∧ σ = σ' ∧ Γ' = [blk g6 [i64 c, .slice po no co, .slice (some ⟨gc, 0, none⟩) nc nc] 35, blk g7 [i64 ((fuel : Int) - left)] 3]) := by
  obtain ⟨ms, hms⟩ := any_if
  refine CallsDA.recovers4 Tryz.func41 rfl rfl rfl rfl ?_
  dsimp only [recv, goneC]
  have hspl : splice r0 0 [i64 c, .slice po no co, .slice (some ⟨gc, 0, none⟩) nc nc] = [i64 c, .slice po no co, .slice (some ⟨gc, 0, none⟩) nc nc] := splice_all hr0
  have hspl2 : splice r1 0 [i64 ((fuel : Int) - left)] = [i64 ((fuel : Int) - left)] := splice_all hr1
  have hfit : 0 + ty35.size ≤ r0.length := by rw [hr0]; exact Nat.le_refl _
  have hfit2 : ∀ _ : Unit, 0 + ty3.size ≤ r1.length := fun _ => by rw [hr1]; exact Nat.le_refl _
  refine zS (zR (zA rfl ?_)); refine zO rfl (Rd.tassert (tyrow rfl) rfl rfl) ?_; refine zA rfl ?_; refine zO rfl (Rd.extract rfl rfl) ?_; refine zO rfl (Rd.extract rfl rfl) ?_; refine zO rfl Rd.asg ?_; refine zO rfl Rd.asg ?_; refine zN (zT (zS (zS (zR (zA rfl ?_)))))
  refine zO rfl (Rd.neqIfT hms rfl) ?_; refine zA rfl ?_
  first | (refine zG ?_; refine zA rfl ?_) | refine zH ?_
  first | (refine zG ?_; refine zO rfl zJ ?_) | refine zH ?_
  refine zO rfl zP ?_; refine zN (zT (XA.condF rfl rfl (XA.skip (zT ?_))))
  refine XA.draw (by kernel_rfl) _ _ [16, 17] [(0, .pu), (1, .rd), (2, .pu), (3, .pu), (4, .rd), (5, .rd), (6, .pu), (7, .pu), (8, .rd), (9, .pu), (10, .rd), (11, .rd), (12, .pu), (13, .pu), (14, .rd), (15, .pu), (16, .wr), (17, .wr)] (by kernel_rfl) (PH.sub.refl _) (Ent.sel (R := blk g10 _ _) zL (Ent.sel (R := blk g5 _ _) zL (Ent.sel (R := blk gr _ _) zL (Ent.nil _)))) ?_
  refine zu rfl rfl Rd.mv ?_; refine XPA.rd rfl rfl Gd.free (Rd.ldC rfl (tyrow rfl) rfl) ?_; refine zu rfl rfl (Rd.nilCheck rfl) ?_; refine zu rfl rfl (Rd.fA rfl) ?_; refine XPA.rd rfl rfl Gd.free (Rd.ldC rfl (tyrow rfl) rfl) ?_
  refine XPA.rd rfl rfl Gd.free (Rd.ldC rfl (tyrow rfl) rfl) ?_; refine zu rfl rfl (Rd.nilCheck rfl) ?_; refine zu rfl rfl (Rd.fA rfl) ?_; refine XPA.rd rfl rfl Gd.free (Rd.ldC rfl (tyrow rfl) rfl) ?_
  refine zu rfl rfl (Rd.bl (fun _ _ => tyrow) rfl rfl rfl) ?_
  refine XPA.rd rfl rfl Gd.free (Rd.ldC rfl (tyrow rfl) rfl) ?_; refine XPA.rd rfl rfl Gd.free (Rd.ldC rfl (tyrow rfl) rfl) ?_; refine zu rfl rfl (Rd.nilCheck rfl) ?_; refine zu rfl rfl (Rd.fA rfl) ?_; refine XPA.rd rfl rfl Gd.free (Rd.ldC rfl (tyrow rfl) rfl) ?_
  refine zu rfl rfl (by first | exact Rd.sbi rfl rfl | exact Rd.sub rfl rfl) ?_
  refine XPA.wrZ0 rfl rfl Gd.free (by kernel_rfl) (WrA.st (tyrow rfl) rfl) ?_
  rintro _ _ _ ⟨rfl, rfl, rfl⟩
  refine XPA.wrZ0 rfl rfl Gd.free (by kernel_rfl) (WrA.st (tyrow rfl) rfl) ?_
  rintro _ _ _ ⟨rfl, rfl, rfl⟩
  refine XPA.nil ?_
  exact bodyA.normal (ResA.none rfl) zE ⟨rfl, rfl, rfl⟩
end
theorem ResA.cct {P : Program} {ρ : Env} {σ : PH} {Γ : List HP} {fn : Func} {t1 t2 t3 : Tmp} {T1 T2 : TypeId} {g1 o1 g2 o2 : Nat} {v1 v2 v3 : Value} (hf : fn.results = #[.cell t1 T1, .cell t2 T2, .tmp t3]) (h1 : ρ t1 = .pointer (some ⟨g1, o1, none⟩)) (h2 : ρ t2 = .pointer (some ⟨g2, o2, none⟩)) (h3 : ρ t3 = v3)
    (l1 : ∀ h, Ho σ Γ h → Ld P h T1 g1 o1 v1) (l2 : ∀ h, Ho σ Γ h → Ld P h T2 g2 o2 v2) : ResA P fn ρ σ Γ (.tuple #[v1, v2, v3]) := fun h hh w a hw he => by
  have e1 := he.get t1; rw [h1] at e1; simp at e1
  have e2 := he.get t2; rw [h2] at e2; simp at e2
  have e3 := he.get t3; rw [h3] at e3; simp at e3
  simp [results, hf, e1, e2, e3, asAddr, l1 h hh w hw, l2 h hh w hw]
def RunPost (σ : PH) (p : Pr) (inp : List Int) (fuel : Int) : Value → PH → List HP → Prop := fun v σ' Γ' => σ.sub σ' ∧ Γ' = [] ∧ if checkP p ≠ 0 then v = .tuple #[.agg #[i64 0, .slice none 0 0, .slice none 0 0], i64 0, i64 (checkP p)]
  else if 40 < inp.length ∨ fuel < 0 ∨ 3000 < fuel then v = .tuple #[.agg #[i64 0, .slice none 0 0, .slice none 0 0], i64 0, i64 1]
  else ∃ (c : Int) (s : RS) (vo vc : Value), RunIs p inp fuel.toNat c s ∧ v = .tuple #[.agg #[i64 c, vo, vc], i64 (fuel - s.left), i64 0] ∧ PInts σ' vo s.out ∧ PInts σ' vc s.cells ∧ s.left ≤ fuel.toNat
theorem CallsDA.conv {P : Program} {f : FuncId} {vs : Array Value} {u : FrameMode} {σ : PH} {Γ Γ0 Δ : List HP} {R R' : FrameMode → PH → List HP → Prop} (hc : CallsDA P f vs u σ Γ0 R) (he : Ent Γ (Γ0 ++ Δ))
    (k : ∀ u' σ' Γ' fr h, R u' σ' Γ' → Holds σ' (Γ' ++ Δ) fr h → ∃ σ2 Γ2, R' u' σ2 Γ2 ∧ Holds σ2 Γ2 fr h) : CallsDA P f vs u σ Γ R' := fun fr h hh w hw => by
  obtain ⟨f', a, b⟩ := (hh.ent he).aside
  refine (hc f' h a w hw).mono ?_
  rintro e u' w' ⟨h1, h2, σ', Γ', h3, h4⟩
  obtain ⟨σ2, Γ2, h5, h6⟩ := k u' σ' Γ' fr w'.heap h3 (b _ _ _ h4)
  exact ⟨h1, h2, σ2, Γ2, h5, h6⟩
theorem run_fin (σ σ0 : PH) (p : Pr) (inp : List Int) (fn : Func) (hfn : fn.results = #[.cell 6 35, .cell 7 3, .tmp 8]) (ρ : Env) (Γ : List HP) (g10 g5 g6 g7 gr gc nc : Nat) (v0 v1 vi : Value) (po : Option Addr) (co fuel left : Nat) (cells out rin : List Int) (c : Int) (u : FrameMode) (r0 r1 : List Value)
    (hs0 : σ0.sub σ) (h6 : ρ 6 = ptr g6) (h7 : ρ 7 = ptr g7) (h8 : ρ 8 = i64 0) (hc0 : checkP p = 0) (hi : inp.length ≤ 40) (hf : fuel ≤ 3000) (hl : left ≤ fuel) (hcl : cells.length = nc) (hnm : nc ≤ 48) (hrun : RunIs p inp fuel c ⟨cells, rin, out, left⟩)
    (hrec : CallsDA Tryz.prog 41 #[ptr g10, ptr g5, ptr g6, ptr g7] u σ [blk g10 [ptr gr] 85, blk g5 [i64 fuel] 3, blk g6 r0 35, blk g7 r1 3, blk gr [v0, v1, .slice (some ⟨gc, 0, none⟩) nc nc, vi, .slice po out.length co, i64 left] 87]
      (fun u' σ' Γ' => settle u' = .returning ∧ σ = σ' ∧ Γ' = [blk g6 [i64 c, .slice po out.length co, .slice (some ⟨gc, 0, none⟩) nc nc] 35, blk g7 [i64 ((fuel : Int) - left)] 3]))
    (hΓ : Ent Γ ([blk g10 [ptr gr] 85, blk g5 [i64 fuel] 3, blk g6 r0 35, blk g7 r1 3, blk gr [v0, v1, .slice (some ⟨gc, 0, none⟩) nc nc, vi, .slice po out.length co, i64 left] 87] ++ [blk gc (ints cells) 2, lst 2 1 (.slice po out.length co) out.length (ints out)])) :
    CallsDA Tryz.prog 41 #[ptr g10, ptr g5, ptr g6, ptr g7] u σ Γ (fun u' σ' Γ' => settle u' = .returning ∧ ∃ v, ResA Tryz.prog fn ρ σ' Γ' v ∧ ∃ Δ, Ent Γ' Δ ∧ RetA (RunPost σ0 p inp fuel) (.returned v) σ' Δ) := by
  refine CallsDA.conv hrec hΓ ?_
  rintro u' σ' Γ' fr h ⟨hu, rfl, rfl⟩ hh
  simp only [List.cons_append, List.nil_append] at hh
  obtain ⟨σ2, ⟨⟩, hz, hs2, hh2⟩ := holds_freeze' (R := blk gc (ints cells) 2) hh zL blk_frz blk_frz_mono
  obtain ⟨σ3, ⟨⟩, hy, hs3, hh3⟩ := holds_freeze' (R := lst 2 1 (.slice po out.length co) _ _) hh2 zL lst_frz lst_frz_mono
  refine ⟨σ3, _, ⟨hu, _, ResA.cct hfn h6 h7 h8 (Ld.atBlk (tyrow rfl) rfl zL rfl (by first | exact take0 (by first | rfl | assumption | (refine (ints_len _).trans ?_; assumption) | (simp [*]; (first | done | fail))) | assumption | exact take_app (by first | rfl | assumption | (refine (ints_len _).trans ?_; assumption) | (simp [*]; (first | done | fail))) | (conv => lhs; simp only [List.drop_succ_cons, List.drop_zero, List.take_succ_cons, List.take_zero])) (by first | rfl | assumption | (refine (ints_len _).trans ?_; assumption) | (simp [*]; (first | done | fail)))) (Ld.atC (tyrow rfl) rfl (by first | (exact AtC.blk zL (by first | rfl | assumption)) | (exact AtC.per (by first | assumption)) | (exact AtC.lst zL (by first | rfl | assumption)))), [], Ent.nil _, (hs0.trans hs2).trans hs3, rfl, ?_⟩, hh3⟩
  rw [if_neg (fun h => h hc0), if_neg (by omega)]
  refine ⟨c, ⟨cells, rin, out, left⟩, _, _, hrun, rfl, ⟨po, co, rfl, hy.1, hy.2.1, ?_⟩, ⟨some ⟨gc, 0, none⟩, nc, by simp [hcl], by simp [hcl], by simp only [maxLen]; omega, fun _ => ⟨gc, 0, rfl, hz.mono hs3⟩⟩, hl⟩
  intro h0
  exact hy.2.2.2 h0
theorem run_a (σ : PH) (cs : List Value) (p : Pr) (iv : Value) (inp : List Int) (fuel : Int) (hp : PrAt σ cs p) (hi : PInts σ iv inp) :
    CallsA Tryz.prog 18 #[.agg cs.toArray, iv, i64 fuel] σ [] (RetA (RunPost σ p inp fuel)) := by
  have hp0 := hp
  obtain ⟨vs, bs, rfl, hv, hb⟩ := hp
  obtain ⟨pv, cv, rfl, hvl, hvm⟩ := hv.shape
  obtain ⟨pi, ci, rfl, hil, him⟩ := hi.shape
  simp only [maxLen] at him
  have hspl : splice ty35.zero 0 [i64 0, .slice none 0 0, .slice none 0 0] = [i64 0, .slice none 0 0, .slice none 0 0] := rfl
  have hfit : 0 + ty35.size ≤ ty35.zero.length := Nat.le_refl _
  by_cases hc : checkP p ≠ 0
  · refine enterD3 Tryz.func18 rfl rfl rfl ?_
    refine XTA.seq ?_
    refine zR ?_
    refine zw rfl WrA.bx ?_
    rintro _ _ _ ⟨g3, rfl, rfl, rfl⟩
    refine zw rfl WrA.bx ?_
    rintro _ _ _ ⟨g5, rfl, rfl, rfl⟩
    refine zw rfl (WrA.alloc (tyrow rfl)) ?_
    rintro _ _ _ ⟨g6, rfl, rfl, rfl⟩
    refine zw rfl (WrA.alloc (tyrow rfl)) ?_
    rintro _ _ _ ⟨g7, rfl, rfl, rfl⟩
    refine zO rfl Rd.asg ?_; refine zN (zT ?_)
    refine XTA.seq ?_
    refine zS (zR (zO rfl (Rd.ldA rfl) ?_))
    refine zw rfl (WrA.cE (check_a σ _ p hp0) rfl) ?_
    rintro _ _ _ ⟨_, ⟨rfl, rfl, rfl⟩, rfl⟩
    refine XOA.cl ?_; refine zO rfl Rd.asg ?_; refine zN (zT (zS (zR (zA rfl ?_)))); refine zO rfl (Rd.neq rfl rfl) ?_; refine zN (zT (XA.condT rfl (decide_eq_true hc) (zS (zR (zO rfl (Rd.ldA rfl) ?_))))); refine zA rfl ?_
    refine zw rfl (WrA.st (tyrow rfl) rfl) ?_
    rintro _ _ _ ⟨rfl, rfl, rfl⟩
    refine zw rfl (WrA.st (tyrow rfl) rfl) ?_
    rintro _ _ _ ⟨rfl, rfl, rfl⟩
    refine zO rfl Rd.asg ?_; refine zN (zT (XA.ret (DA.thn_ret ?_)))
    exact bodyA.ret (ResA.cct rfl rfl rfl rfl (Ld.atBlk (tyrow rfl) rfl zL rfl (by first | exact take0 (by first | rfl | assumption | (refine (ints_len _).trans ?_; assumption) | (simp [*]; (first | done | fail))) | assumption | exact take_app (by first | rfl | assumption | (refine (ints_len _).trans ?_; assumption) | (simp [*]; (first | done | fail))) | (conv => lhs; simp only [List.drop_succ_cons, List.drop_zero, List.take_succ_cons, List.take_zero])) (by first | rfl | assumption | (refine (ints_len _).trans ?_; assumption) | (simp [*]; (first | done | fail)))) (Ld.atC (tyrow rfl) rfl (by first | (exact AtC.blk zL (by first | rfl | assumption)) | (exact AtC.per (by first | assumption)) | (exact AtC.lst zL (by first | rfl | assumption))))) (Ent.nil _) ⟨.refl _, rfl, by rw [if_pos hc]⟩
  · by_cases a1 : 40 < inp.length
    · refine enterD3 Tryz.func18 rfl rfl rfl ?_
      refine XTA.seq ?_
      refine zR ?_
      refine zw rfl WrA.bx ?_
      rintro _ _ _ ⟨g3, rfl, rfl, rfl⟩
      refine zw rfl WrA.bx ?_
      rintro _ _ _ ⟨g5, rfl, rfl, rfl⟩
      refine zw rfl (WrA.alloc (tyrow rfl)) ?_
      rintro _ _ _ ⟨g6, rfl, rfl, rfl⟩
      refine zw rfl (WrA.alloc (tyrow rfl)) ?_
      rintro _ _ _ ⟨g7, rfl, rfl, rfl⟩
      refine zO rfl Rd.asg ?_; refine zN (zT ?_)
      refine XTA.seq ?_
      refine zS (zR (zO rfl (Rd.ldA rfl) ?_))
      refine zw rfl (WrA.cE (check_a σ _ p hp0) rfl) ?_
      rintro _ _ _ ⟨_, ⟨rfl, rfl, rfl⟩, rfl⟩
      refine XOA.cl ?_; refine zO rfl Rd.asg ?_; refine zN (zT (zS (zR (zA rfl ?_)))); refine zO rfl (Rd.neq rfl rfl) ?_; refine zN (zT (XA.condF rfl (decide_eq_false hc) (XA.skip (zT ?_))))
      refine XTA.seq ?_
      refine zS (zR (zA rfl ?_)); refine zO rfl (Rd.lenSlice (tyrow rfl) rfl rfl) ?_; refine zO rfl (Rd.gtr rfl rfl) ?_; refine zA rfl ?_
      first | (refine zG ?_; refine zB rfl rfl (tyrow rfl) rfl ?_) | refine zH ?_
      first | (refine zG ?_; refine zO rfl (Rd.lss rfl rfl) ?_) | refine zH ?_
      refine zO rfl zP ?_; refine zA rfl ?_
      first | (refine zG ?_; refine zB rfl rfl (tyrow rfl) rfl ?_) | refine zH ?_
      first | (refine zG ?_; refine zO rfl (Rd.gtr rfl rfl) ?_) | refine zH ?_
      refine zO rfl zP ?_; refine zN (zT (XA.condT rfl (by first | rfl | exact decide_eq_true (by omega)) ?_)); refine zS (zR (zO rfl (Rd.ldA rfl) ?_))
      refine zw rfl (WrA.st (tyrow rfl) rfl) ?_
      rintro _ _ _ ⟨rfl, rfl, rfl⟩
      refine zw rfl (WrA.st (tyrow rfl) rfl) ?_
      rintro _ _ _ ⟨rfl, rfl, rfl⟩
      refine zO rfl Rd.asg ?_; refine zN (zT (XA.ret (DA.thn_ret ?_)))
      exact bodyA.ret (ResA.cct rfl rfl rfl rfl (Ld.atBlk (tyrow rfl) rfl zL rfl (by first | exact take0 (by first | rfl | assumption | (refine (ints_len _).trans ?_; assumption) | (simp [*]; (first | done | fail))) | assumption | exact take_app (by first | rfl | assumption | (refine (ints_len _).trans ?_; assumption) | (simp [*]; (first | done | fail))) | (conv => lhs; simp only [List.drop_succ_cons, List.drop_zero, List.take_succ_cons, List.take_zero])) (by first | rfl | assumption | (refine (ints_len _).trans ?_; assumption) | (simp [*]; (first | done | fail)))) (Ld.atC (tyrow rfl) rfl (by first | (exact AtC.blk zL (by first | rfl | assumption)) | (exact AtC.per (by first | assumption)) | (exact AtC.lst zL (by first | rfl | assumption))))) (Ent.nil _) ⟨.refl _, rfl, by rw [if_neg hc, if_pos (by omega)]⟩
    by_cases a2 : fuel < 0
    · refine enterD3 Tryz.func18 rfl rfl rfl ?_
      refine XTA.seq ?_
      refine zR ?_
      refine zw rfl WrA.bx ?_
      rintro _ _ _ ⟨g3, rfl, rfl, rfl⟩
      refine zw rfl WrA.bx ?_
      rintro _ _ _ ⟨g5, rfl, rfl, rfl⟩
      refine zw rfl (WrA.alloc (tyrow rfl)) ?_
      rintro _ _ _ ⟨g6, rfl, rfl, rfl⟩
      refine zw rfl (WrA.alloc (tyrow rfl)) ?_
      rintro _ _ _ ⟨g7, rfl, rfl, rfl⟩
      refine zO rfl Rd.asg ?_; refine zN (zT ?_)
      refine XTA.seq ?_
      refine zS (zR (zO rfl (Rd.ldA rfl) ?_))
      refine zw rfl (WrA.cE (check_a σ _ p hp0) rfl) ?_
      rintro _ _ _ ⟨_, ⟨rfl, rfl, rfl⟩, rfl⟩
      refine XOA.cl ?_; refine zO rfl Rd.asg ?_; refine zN (zT (zS (zR (zA rfl ?_)))); refine zO rfl (Rd.neq rfl rfl) ?_; refine zN (zT (XA.condF rfl (decide_eq_false hc) (XA.skip (zT ?_))))
      refine XTA.seq ?_
      refine zS (zR (zA rfl ?_)); refine zO rfl (Rd.lenSlice (tyrow rfl) rfl rfl) ?_; refine zO rfl (Rd.gtr rfl rfl) ?_; refine zA rfl ?_
      first | (refine zG ?_; refine zB rfl rfl (tyrow rfl) rfl ?_) | refine zH ?_
      first | (refine zG ?_; refine zO rfl (Rd.lss rfl rfl) ?_) | refine zH ?_
      refine zO rfl zP ?_; refine zA rfl ?_
      first | (refine zG ?_; refine zB rfl rfl (tyrow rfl) rfl ?_) | refine zH ?_
      first | (refine zG ?_; refine zO rfl (Rd.gtr rfl rfl) ?_) | refine zH ?_
      refine zO rfl zP ?_; refine zN (zT (XA.condT rfl (by first | rfl | exact decide_eq_true (by omega)) ?_)); refine zS (zR (zO rfl (Rd.ldA rfl) ?_))
      refine zw rfl (WrA.st (tyrow rfl) rfl) ?_
      rintro _ _ _ ⟨rfl, rfl, rfl⟩
      refine zw rfl (WrA.st (tyrow rfl) rfl) ?_
      rintro _ _ _ ⟨rfl, rfl, rfl⟩
      refine zO rfl Rd.asg ?_; refine zN (zT (XA.ret (DA.thn_ret ?_)))
      exact bodyA.ret (ResA.cct rfl rfl rfl rfl (Ld.atBlk (tyrow rfl) rfl zL rfl (by first | exact take0 (by first | rfl | assumption | (refine (ints_len _).trans ?_; assumption) | (simp [*]; (first | done | fail))) | assumption | exact take_app (by first | rfl | assumption | (refine (ints_len _).trans ?_; assumption) | (simp [*]; (first | done | fail))) | (conv => lhs; simp only [List.drop_succ_cons, List.drop_zero, List.take_succ_cons, List.take_zero])) (by first | rfl | assumption | (refine (ints_len _).trans ?_; assumption) | (simp [*]; (first | done | fail)))) (Ld.atC (tyrow rfl) rfl (by first | (exact AtC.blk zL (by first | rfl | assumption)) | (exact AtC.per (by first | assumption)) | (exact AtC.lst zL (by first | rfl | assumption))))) (Ent.nil _) ⟨.refl _, rfl, by rw [if_neg hc, if_pos (by omega)]⟩
    by_cases a3 : 3000 < fuel
    · refine enterD3 Tryz.func18 rfl rfl rfl ?_
      refine XTA.seq ?_
      refine zR ?_
      refine zw rfl WrA.bx ?_
      rintro _ _ _ ⟨g3, rfl, rfl, rfl⟩
      refine zw rfl WrA.bx ?_
      rintro _ _ _ ⟨g5, rfl, rfl, rfl⟩
      refine zw rfl (WrA.alloc (tyrow rfl)) ?_
      rintro _ _ _ ⟨g6, rfl, rfl, rfl⟩
      refine zw rfl (WrA.alloc (tyrow rfl)) ?_
      rintro _ _ _ ⟨g7, rfl, rfl, rfl⟩
      refine zO rfl Rd.asg ?_; refine zN (zT ?_)
      refine XTA.seq ?_
      refine zS (zR (zO rfl (Rd.ldA rfl) ?_))
      refine zw rfl (WrA.cE (check_a σ _ p hp0) rfl) ?_
      rintro _ _ _ ⟨_, ⟨rfl, rfl, rfl⟩, rfl⟩
      refine XOA.cl ?_; refine zO rfl Rd.asg ?_; refine zN (zT (zS (zR (zA rfl ?_)))); refine zO rfl (Rd.neq rfl rfl) ?_; refine zN (zT (XA.condF rfl (decide_eq_false hc) (XA.skip (zT ?_))))
      refine XTA.seq ?_
      refine zS (zR (zA rfl ?_)); refine zO rfl (Rd.lenSlice (tyrow rfl) rfl rfl) ?_; refine zO rfl (Rd.gtr rfl rfl) ?_; refine zA rfl ?_
      first | (refine zG ?_; refine zB rfl rfl (tyrow rfl) rfl ?_) | refine zH ?_
      first | (refine zG ?_; refine zO rfl (Rd.lss rfl rfl) ?_) | refine zH ?_
      refine zO rfl zP ?_; refine zA rfl ?_
      first | (refine zG ?_; refine zB rfl rfl (tyrow rfl) rfl ?_) | refine zH ?_
      first | (refine zG ?_; refine zO rfl (Rd.gtr rfl rfl) ?_) | refine zH ?_
      refine zO rfl zP ?_; refine zN (zT (XA.condT rfl (by first | rfl | exact decide_eq_true (by omega)) ?_)); refine zS (zR (zO rfl (Rd.ldA rfl) ?_))
      refine zw rfl (WrA.st (tyrow rfl) rfl) ?_
      rintro _ _ _ ⟨rfl, rfl, rfl⟩
      refine zw rfl (WrA.st (tyrow rfl) rfl) ?_
      rintro _ _ _ ⟨rfl, rfl, rfl⟩
      refine zO rfl Rd.asg ?_; refine zN (zT (XA.ret (DA.thn_ret ?_)))
      exact bodyA.ret (ResA.cct rfl rfl rfl rfl (Ld.atBlk (tyrow rfl) rfl zL rfl (by first | exact take0 (by first | rfl | assumption | (refine (ints_len _).trans ?_; assumption) | (simp [*]; (first | done | fail))) | assumption | exact take_app (by first | rfl | assumption | (refine (ints_len _).trans ?_; assumption) | (simp [*]; (first | done | fail))) | (conv => lhs; simp only [List.drop_succ_cons, List.drop_zero, List.take_succ_cons, List.take_zero])) (by first | rfl | assumption | (refine (ints_len _).trans ?_; assumption) | (simp [*]; (first | done | fail)))) (Ld.atC (tyrow rfl) rfl (by first | (exact AtC.blk zL (by first | rfl | assumption)) | (exact AtC.per (by first | assumption)) | (exact AtC.lst zL (by first | rfl | assumption))))) (Ent.nil _) ⟨.refl _, rfl, by rw [if_neg hc, if_pos (by omega)]⟩
    have hc0 : checkP p = 0 := by omega
    obtain ⟨f, rfl⟩ : ∃ f : Nat, fuel = f := ⟨fuel.toNat, by omega⟩
    obtain ⟨hz, hvl2⟩ := check_small hc0
    obtain ⟨hV, -, h1, h48⟩ := check_valid hc0
    have hsz := sizes_nonneg h1
    obtain ⟨nc, hnc⟩ : ∃ nc : Nat, sizes p.vars = (nc : Int) := ⟨(sizes p.vars).toNat, by omega⟩
    have hcells := cells_a σ _ p hp0 hz hvl2
    rw [hnc] at hcells
    obtain ⟨c, s, hrun⟩ := run_total p inp f
    refine enterD3 Tryz.func18 rfl rfl rfl ?_
    refine XTA.seq ?_
    refine zR ?_
    refine zw rfl WrA.bx ?_
    rintro _ _ _ ⟨g3, rfl, rfl, rfl⟩
    refine zw rfl WrA.bx ?_
    rintro _ _ _ ⟨g5, rfl, rfl, rfl⟩
    refine zw rfl (WrA.alloc (tyrow rfl)) ?_
    rintro _ _ _ ⟨g6, rfl, rfl, rfl⟩
    refine zw rfl (WrA.alloc (tyrow rfl)) ?_
    rintro _ _ _ ⟨g7, rfl, rfl, rfl⟩
    refine zO rfl Rd.asg ?_; refine zN (zT ?_)
    refine XTA.seq ?_
    refine zS (zR (zO rfl (Rd.ldA rfl) ?_))
    refine zw rfl (WrA.cE (check_a σ _ p hp0) rfl) ?_
    rintro _ _ _ ⟨_, ⟨rfl, rfl, rfl⟩, rfl⟩
    refine XOA.cl ?_; refine zO rfl Rd.asg ?_; refine zN (zT (zS (zR (zA rfl ?_)))); refine zO rfl (Rd.neq rfl rfl) ?_; refine zN (zT (XA.condF rfl (decide_eq_false hc) (XA.skip (zT ?_))))
    refine XTA.seq ?_
    refine zS (zR (zA rfl ?_)); refine zO rfl (Rd.lenSlice (tyrow rfl) rfl rfl) ?_; refine zO rfl (Rd.gtr rfl rfl) ?_; refine zA rfl ?_
    first | (refine zG ?_; refine zB rfl rfl (tyrow rfl) rfl ?_) | refine zH ?_
    first | (refine zG ?_; refine zO rfl (Rd.lss rfl rfl) ?_) | refine zH ?_
    refine zO rfl zP ?_; refine zA rfl ?_
    first | (refine zG ?_; refine zB rfl rfl (tyrow rfl) rfl ?_) | refine zH ?_
    first | (refine zG ?_; refine zO rfl (Rd.gtr rfl rfl) ?_) | refine zH ?_
    refine zO rfl zP ?_; refine zN (zT (XA.condF rfl (by first | rfl | exact decide_eq_false (by omega)) ?_)); refine XA.skip (zT ?_)
    refine XTA.seq ?_
    refine XA.join [(10, 10), (29, 36)] (fun x : Nat × (Nat × Nat) => [(10, ptr x.1)]) (fun x σ' Γ' => σ = σ' ∧ Γ' = [blk x.1 [ptr x.2.1] 85, blk x.2.1 [.slice pv p.vars.length cv, bs, .slice (some ⟨x.2.2, 0, none⟩) nc nc, .slice pi inp.length ci, .slice none 0 0, i64 f] 87, blk x.2.2 (ints (List.replicate nc 0)) 2, blk g3 [.slice pv p.vars.length cv, bs] 25, blk g5 [i64 f] 3, blk g6 ty35.zero 35, blk g7 ty3.zero 3]) ?_ ?_
    · skip
      refine XA.drawQ (by kernel_rfl) _ _ [6, 9] 10 #[false, false, false, false, false, false, false, false, false, false] rfl rfl (by kernel_rfl) (PH.sub.refl _) (Ent.sel (R := blk g3 _ _) zL (Ent.sel (R := blk g5 _ _) zL (Ent.nil _))) ?_
      refine XQA.rd (i := 0) (listed' := #[true, false, false, false, false, false, false, false, false, false]) rfl rfl (by kernel_rfl) rfl Gd.free (Rd.ldA rfl) ?_
      refine XQA.rd (i := 1) (listed' := #[true, true, false, false, false, false, false, false, false, false]) rfl rfl (by kernel_rfl) rfl Gd.free (Rd.ldA rfl) ?_
      refine XQA.pu (i := 4) (listed' := #[true, true, false, false, true, false, false, false, false, false]) rfl rfl (by kernel_rfl) rfl Gd.free Rd.mv ?_
      refine XQA.rd (i := 5) (listed' := #[true, true, false, false, true, true, false, false, false, false]) rfl rfl (by kernel_rfl) rfl Gd.free (Rd.ldC rfl (tyrow rfl) rfl) ?_
      refine XQA.w2 (i := 2) (j := 8) (by kernel_rfl) ?_ ?_
      · refine XQA1.wr0 (listed' := #[true, true, true, false, true, true, false, false, false, false]) rfl rfl Gd.free (by kernel_rfl) rfl (WrA.cE hcells rfl) ?_
        rintro _ _ _ ⟨_, ⟨rfl, rfl, rfl⟩, rfl⟩
        refine ⟨⟨zX, zE⟩, XQA.re zC ?_⟩
        refine XQA.w2 (i := 3) (j := 8) (by kernel_rfl) ?_ ?_
        · refine XQA1.wr0 (listed' := #[true, true, true, true, true, true, false, false, false, false]) rfl rfl Gd.free (by kernel_rfl) rfl (X.WrA.mkA (n := nc) (zs := ints (List.replicate nc 0)) (tyrow rfl) rfl (tyrow rfl) rfl rfl rfl rfl (by show 8 * nc ≤ _; omega) (by omega) (zeros_ints nc rfl)) ?_
          rintro _ _ _ ⟨g32, rfl, rfl, rfl⟩
          refine ⟨⟨zX, zE⟩, XQA.re zC ?_⟩
          refine XQA.pu (i := 6) (listed' := #[true, true, true, true, true, true, true, false, false, false]) rfl rfl (by kernel_rfl) rfl Gd.free (Rd.bl (fun _ _ => tyrow) rfl rfl rfl) ?_
          refine XQA.w2 (i := 7) (j := 8) (by kernel_rfl) ?_ ?_
          · refine XQA1.wr0 (listed' := #[true, true, true, true, true, true, true, true, false, false]) rfl rfl Gd.free (by kernel_rfl) rfl WrA.bx ?_
            rintro _ _ _ ⟨g36, rfl, rfl, rfl⟩
            refine ⟨⟨zX, zE⟩, XQA.re zC ?_⟩
            refine qa 8 ?_
            refine XQA1.wr0 (listed' := #[true, true, true, true, true, true, true, true, true, false]) rfl rfl Gd.free (by kernel_rfl) rfl (WrA.alloc (tyrow rfl)) ?_
            rintro _ _ _ ⟨g10, rfl, rfl, rfl⟩
            refine ⟨⟨zX, zE⟩, XQA.re zC ?_⟩
            refine qa 9 ?_
            refine XQA1.wrZ0 (listed' := #[true, true, true, true, true, true, true, true, true, true]) rfl rfl Gd.free (by kernel_rfl) rfl (by kernel_rfl) (WrA.st (tyrow rfl) rfl) ?_
            rintro _ _ _ ⟨rfl, rfl, rfl⟩
            refine XQA.re zC ?_
            refine XQA.nil rfl ?_
            refine DA.thn_normal ⟨zK, (g10, (g36, g32)), _, zM, ?_, rfl, rfl⟩; exact zE
          · refine XQA1.wr0 (listed' := #[true, true, true, true, true, true, true, false, true, false]) rfl rfl Gd.free (by kernel_rfl) rfl (WrA.alloc (tyrow rfl)) ?_
            rintro _ _ _ ⟨g10, rfl, rfl, rfl⟩
            refine ⟨⟨zX, zE⟩, XQA.re zC ?_⟩
            refine qa 7 ?_
            refine XQA1.wr0 (listed' := #[true, true, true, true, true, true, true, true, true, false]) rfl rfl Gd.free (by kernel_rfl) rfl WrA.bx ?_
            rintro _ _ _ ⟨g36, rfl, rfl, rfl⟩
            refine ⟨⟨zX, zE⟩, XQA.re zC ?_⟩
            refine qa 9 ?_
            refine XQA1.wrZ0 (listed' := #[true, true, true, true, true, true, true, true, true, true]) rfl rfl Gd.free (by kernel_rfl) rfl (by kernel_rfl) (WrA.st (tyrow rfl) rfl) ?_
            rintro _ _ _ ⟨rfl, rfl, rfl⟩
            refine XQA.re zC ?_
            refine XQA.nil rfl ?_
            refine DA.thn_normal ⟨zK, (g10, (g36, g32)), _, zM, ?_, rfl, rfl⟩; exact zE
        · refine XQA1.wr0 (listed' := #[true, true, true, false, true, true, false, false, true, false]) rfl rfl Gd.free (by kernel_rfl) rfl (WrA.alloc (tyrow rfl)) ?_
          rintro _ _ _ ⟨g10, rfl, rfl, rfl⟩
          refine ⟨⟨zX, zE⟩, XQA.re zC ?_⟩
          refine qa 3 ?_
          refine XQA1.wr0 (listed' := #[true, true, true, true, true, true, false, false, true, false]) rfl rfl Gd.free (by kernel_rfl) rfl (X.WrA.mkA (n := nc) (zs := ints (List.replicate nc 0)) (tyrow rfl) rfl (tyrow rfl) rfl rfl rfl rfl (by show 8 * nc ≤ _; omega) (by omega) (zeros_ints nc rfl)) ?_
          rintro _ _ _ ⟨g32, rfl, rfl, rfl⟩
          refine ⟨⟨zX, zE⟩, XQA.re zC ?_⟩
          refine XQA.pu (i := 6) (listed' := #[true, true, true, true, true, true, true, false, true, false]) rfl rfl (by kernel_rfl) rfl Gd.free (Rd.bl (fun _ _ => tyrow) rfl rfl rfl) ?_
          refine qa 7 ?_
          refine XQA1.wr0 (listed' := #[true, true, true, true, true, true, true, true, true, false]) rfl rfl Gd.free (by kernel_rfl) rfl WrA.bx ?_
          rintro _ _ _ ⟨g36, rfl, rfl, rfl⟩
          refine ⟨⟨zX, zE⟩, XQA.re zC ?_⟩
          refine qa 9 ?_
          refine XQA1.wrZ0 (listed' := #[true, true, true, true, true, true, true, true, true, true]) rfl rfl Gd.free (by kernel_rfl) rfl (by kernel_rfl) (WrA.st (tyrow rfl) rfl) ?_
          rintro _ _ _ ⟨rfl, rfl, rfl⟩
          refine XQA.re zC ?_
          refine XQA.nil rfl ?_
          refine DA.thn_normal ⟨zK, (g10, (g36, g32)), _, zM, ?_, rfl, rfl⟩; exact zE
      · refine XQA1.wr0 (listed' := #[true, true, false, false, true, true, false, false, true, false]) rfl rfl Gd.free (by kernel_rfl) rfl (WrA.alloc (tyrow rfl)) ?_
        rintro _ _ _ ⟨g10, rfl, rfl, rfl⟩
        refine ⟨⟨zX, zE⟩, XQA.re zC ?_⟩
        refine qa 2 ?_
        refine XQA1.wr0 (listed' := #[true, true, true, false, true, true, false, false, true, false]) rfl rfl Gd.free (by kernel_rfl) rfl (WrA.cE hcells rfl) ?_
        rintro _ _ _ ⟨_, ⟨rfl, rfl, rfl⟩, rfl⟩
        refine ⟨⟨zX, zE⟩, XQA.re zC ?_⟩
        refine qa 3 ?_
        refine XQA1.wr0 (listed' := #[true, true, true, true, true, true, false, false, true, false]) rfl rfl Gd.free (by kernel_rfl) rfl (X.WrA.mkA (n := nc) (zs := ints (List.replicate nc 0)) (tyrow rfl) rfl (tyrow rfl) rfl rfl rfl rfl (by show 8 * nc ≤ _; omega) (by omega) (zeros_ints nc rfl)) ?_
        rintro _ _ _ ⟨g32, rfl, rfl, rfl⟩
        refine ⟨⟨zX, zE⟩, XQA.re zC ?_⟩
        refine XQA.pu (i := 6) (listed' := #[true, true, true, true, true, true, true, false, true, false]) rfl rfl (by kernel_rfl) rfl Gd.free (Rd.bl (fun _ _ => tyrow) rfl rfl rfl) ?_
        refine qa 7 ?_
        refine XQA1.wr0 (listed' := #[true, true, true, true, true, true, true, true, true, false]) rfl rfl Gd.free (by kernel_rfl) rfl WrA.bx ?_
        rintro _ _ _ ⟨g36, rfl, rfl, rfl⟩
        refine ⟨⟨zX, zE⟩, XQA.re zC ?_⟩
        refine qa 9 ?_
        refine XQA1.wrZ0 (listed' := #[true, true, true, true, true, true, true, true, true, true]) rfl rfl Gd.free (by kernel_rfl) rfl (by kernel_rfl) (WrA.st (tyrow rfl) rfl) ?_
        rintro _ _ _ ⟨rfl, rfl, rfl⟩
        refine XQA.re zC ?_
        refine XQA.nil rfl ?_
        refine DA.thn_normal ⟨zK, (g10, (g36, g32)), _, zM, ?_, rfl, rfl⟩; exact zE
    rintro ⟨g10, g36, g32⟩ δ _ _ ⟨rfl, rfl⟩
    dsimp only [ovr, List.foldl]
    refine zT ?_
    refine XTA.defer (caps := #[ptr g10, ptr g5, ptr g6, ptr g7]) (enters Tryz.func41 rfl rfl) rfl (by simp only [List.map_toArray, List.map_cons, List.map_nil]) ?_
    refine XFA.seq ?_
    refine XFA.region ?_
    refine XFOA.rd rfl (Rd.ldC rfl (tyrow rfl) rfl) ?_
    refine XFOA.rd rfl (Rd.fA rfl) ?_
    refine XFOA.rd rfl (Rd.ldC rfl (tyrow rfl) rfl) ?_
    obtain ⟨g, r, hl, he⟩ := hrun
    have hnc2 : (sizes p.vars).toNat = nc := by omega
    have hst : start p inp f = ⟨List.replicate nc 0, inp, [], f⟩ := by rw [start, hnc2]
    rw [hst] at hl
    have hF : Fine p.vars nc ⟨List.replicate nc 0, inp, [], f⟩ := ⟨by simp, hnc.symm, by show f < _; omega, by show 0 + f < _; omega⟩
    have hL := list_r g σ p p.body (fun x _ => stmt_r σ p h1 hz hvl2 g x) bs g36 pv cv bs g32 nc _ (.slice pi inp.length ci) none 0 r hp0 hb hV hF hi hl
    have hle := listG_less (stG_less p.vars g) _ _ _ hl
    simp only [List.length_nil, show ints [] = [] from rfl] at hL
    cases r with
    | error q =>
      obtain ⟨c0, s0⟩ := q
      obtain ⟨cells, rin, out, left⟩ := s0
      have hle1 : left ≤ f := hle.left
      have hcl1 : cells.length = nc := by have := hle.cl; simpa [resS] using this
      refine XFOA.die rfl (EndS.err hL) rfl zD ?_
      rintro _ _ _ ⟨rfl, rfl, vi2, po2, co2, hvi2, rfl⟩
      have hrun2 : RunIs p inp f c0 ⟨cells, rin, out, left⟩ := ⟨g, _, by rw [hst]; exact hl, rfl⟩
      exact run_fin σ σ p inp _ rfl _ _ g10 g5 g6 g7 g36 g32 nc _ _ vi2 po2 co2 f left cells out rin c0 _ _ _ (.refl _) rfl rfl rfl hc0 (by omega) (by omega) hle1 hcl1 (by omega) hrun2
        (recov_p σ g10 g5 g6 g7 g36 g32 nc _ _ vi2 po2 _ co2 f left (by omega) hle1 _ _ rfl rfl c0) zE
    | ok s1 =>
      obtain ⟨cells, rin, out, left⟩ := s1
      have hle1 : left ≤ f := hle.left
      have hcl1 : cells.length = nc := by have := hle.cl; simpa [resS] using this
      refine XFOA.call rfl (EndS.ok hL) rfl zD ?_
      rintro _ _ _ ⟨rfl, rfl, vi2, po2, co2, hvi2, rfl⟩
      simp only [List.cons_append, List.nil_append]
      refine XFOA.nil ?_
      show XFA _ _ _ _ _ _ _
      refine XFA.seq ?_
      refine XFA.region ?_
      refine XFOA.rd rfl (Rd.ldC rfl (tyrow rfl) rfl) ?_
      cases left with
      | zero =>
        have hrun2 : RunIs p inp f 13 ⟨cells, rin, out, 0⟩ := ⟨g, _, by rw [hst]; exact hl, rfl⟩
        refine XFOA.die rfl (one_t σ g36 _ _ _ _ _) rfl zD ?_
        rintro _ _ _ ⟨rfl, rfl, rfl⟩
        exact run_fin σ σ p inp _ rfl _ _ g10 g5 g6 g7 g36 g32 nc _ _ vi2 po2 co2 f 0 cells out rin 13 _ _ _ (.refl _) rfl rfl rfl hc0 (by omega) (by omega) hle1 hcl1 (by omega) hrun2
          (recov_p σ g10 g5 g6 g7 g36 g32 nc _ _ vi2 po2 _ co2 f 0 (by omega) hle1 _ _ rfl rfl 13) zE
      | succ left =>
        have hrun2 : RunIs p inp f 0 ⟨cells, rin, out, left⟩ := ⟨g, _, by rw [hst]; exact hl, by simp [finR, oneS, endR]⟩
        refine XFOA.call rfl (one_f σ g36 _ _ _ _ _ left (by omega)) rfl zD ?_
        rintro _ _ _ ⟨rfl, rfl, rfl⟩
        refine XFOA.nil ?_
        show XFA _ _ _ _ _ _ _
        refine XFA.ret ?_
        exact run_fin σ σ p inp _ rfl _ _ g10 g5 g6 g7 g36 g32 nc _ _ vi2 po2 co2 f left cells out rin 0 _ _ _ (.refl _) rfl rfl rfl hc0 (by omega) (by omega) (by omega) hcl1 (by omega) hrun2
          (recov_n σ g10 g5 g6 g7 g36 g32 nc _ _ vi2 po2 _ co2 f left (by omega) (by omega) _ _ rfl rfl) zE
end Go.Proofs.YtmnmcjdgnpgchaaGreat

namespace Go.Proofs.YtmnmcjdgnpgchaaGreat
open Go X
section
variable {P : Program} {ρ : Env} {σ : PH} {Γ : List HP}
end
end Go.Proofs.YtmnmcjdgnpgchaaGreat

namespace Go.Proofs.YtmnmcjdgnpgchaaGreat
open Go X
set_option maxHeartbeats 1000000
end Go.Proofs.YtmnmcjdgnpgchaaGreat

namespace Go.Proofs.YtmnmcjdgnpgchaaGreat
open Go X
set_option maxHeartbeats 1000000
theorem Ent.one {R S : HP} (h : ∀ m, R m → S m) : Ent [R] [S] := fun m ⟨m1, m2, a, b, c, d, e⟩ => ⟨m1, m2, h _ a, b, c, d, e⟩
end Go.Proofs.YtmnmcjdgnpgchaaGreat

namespace Go.Proofs.YtmnmcjdgnpgchaaGreat
open Go X
set_option maxHeartbeats 1000000
end Go.Proofs.YtmnmcjdgnpgchaaGreat

namespace Go.Proofs.YtmnmcjdgnpgchaaGreat
open Go X
set_option maxHeartbeats 1000000
end Go.Proofs.YtmnmcjdgnpgchaaGreat

namespace Go.Proofs.YtmnmcjdgnpgchaaGreat
open Go X
set_option maxHeartbeats 1000000
end Go.Proofs.YtmnmcjdgnpgchaaGreat

namespace Go.Proofs.YtmnmcjdgnpgchaaGreat
open Go X
set_option maxHeartbeats 1000000
end Go.Proofs.YtmnmcjdgnpgchaaGreat

namespace Go.Proofs.YtmnmcjdgnpgchaaGreat
open Go X
set_option maxHeartbeats 1000000
end Go.Proofs.YtmnmcjdgnpgchaaGreat

namespace Go.Proofs.YtmnmcjdgnpgchaaGreat
open Go X
set_option maxHeartbeats 1000000
section
variable {P : Program} {ρ : Env} {σ : PH} {Γ : List HP}
end
section
variable (σ : PH) (g : Nat) (v0 v1 v2 v4 v5 v6 v7 k0 k1 k2 k3 k4 k5 ov wr : Value)
end
end Go.Proofs.YtmnmcjdgnpgchaaGreat

namespace Go.Proofs.YtmnmcjdgnpgchaaGreat
open Go X
set_option maxHeartbeats 1000000
end Go.Proofs.YtmnmcjdgnpgchaaGreat

namespace Go.Proofs.YtmnmcjdgnpgchaaGreat
open Go X
set_option maxHeartbeats 1000000
theorem code_fit {p : Pr} (h : checkP p = 0) {i : Nat} {x : In} (hx : (codeOf p)[i]? = some x) :
    popA x.op ≤ hts ((codeOf p).take i) ∧ hts ((codeOf p).take (i + 1)) ≤ 24 ∧ ((x.op = 13 ∨ x.op = 14) → hts ((codeOf p).take (i + 1)) = 0) ∧ (x.op = 16 ↔ i = (codeOf p).length - 1) ∧ cellOk (sizes p.vars) x := by
  obtain ⟨hF, hz, -⟩ := code_fits h
  generalize stsCode p.vars p.body 0 = L at hF hz
  have hc : codeOf p = stsCode p.vars p.body 0 ++ [⟨16, 0, 0, 0⟩] := rfl
  obtain ⟨hF, hz, -⟩ := code_fits h
  rw [hc] at hx ⊢
  generalize stsCode p.vars p.body 0 = L at *
  have hlen : (L ++ [(⟨16, 0, 0, 0⟩ : In)]).length - 1 = L.length := by simp
  rw [hlen]
  by_cases hi : i < L.length
  · rw [List.getElem?_append_left hi] at hx
    have := Fit.at hF hx
    rw [List.take_append_of_le_length (by omega), List.take_append_of_le_length (by omega)]
    simp only [Int.zero_add] at this
    exact ⟨this.1, this.2.1, this.2.2.1, ⟨fun e => absurd e this.2.2.2.2, fun e => absurd e (by omega)⟩, this.2.2.2.1⟩
  · have hil : i < (L ++ [(⟨16, 0, 0, 0⟩ : In)]).length := (List.getElem?_eq_some_iff.1 hx).1
    rw [List.length_append, List.length_singleton] at hil
    have hie : i = L.length := by omega
    subst hie
    rw [List.getElem?_append_right (Nat.le_refl _), Nat.sub_self] at hx
    simp only [List.getElem?_cons_zero, Option.some.injEq] at hx
    subst hx
    rw [List.take_left, List.take_of_length_le (by simp), hts_app, hz, hts_one]
    refine ⟨by simp [popA], by simp [dl, popA, popB], fun g => by simp at g, ⟨fun _ => rfl, fun _ => rfl⟩, ⟨fun g => by simp at g, fun g => by simp at g⟩⟩
theorem code_jump {p : Pr} (h : checkP p = 0) {x : In} (hx : x ∈ codeOf p) (ho : x.op = 13 ∨ x.op = 14) : ∃ j : Nat, x.a = j ∧ j < (codeOf p).length ∧ hts ((codeOf p).take j) = 0 := by
  have hc : codeOf p = stsCode p.vars p.body 0 ++ [⟨16, 0, 0, 0⟩] := rfl
  obtain ⟨-, -, hJ⟩ := code_fits h
  rw [hc] at hx ⊢
  rcases List.mem_append.1 hx with hx | hx
  · obtain ⟨j, e, hj, hz⟩ := hJ x hx ho
    exact ⟨j, by rw [e]; congr 1; omega, by rw [List.length_append, List.length_singleton]; omega, by rw [List.take_append_of_le_length hj, hz]⟩
  · rw [List.mem_singleton.1 hx] at ho; simp at ho
end Go.Proofs.YtmnmcjdgnpgchaaGreat

namespace Go.Proofs.YtmnmcjdgnpgchaaGreat
open Go X
set_option maxHeartbeats 2000000
theorem pints_frz {σ : PH} {p : Option Addr} {n c : Nat} {xs : List Int} (hx : xs.length = n) (h : n ≤ c ∧ c ≤ maxLen ∧ (ints xs).length = n * 1 ∧ (0 < n → ∃ g o, p = some ⟨g, o, none⟩ ∧ PRow σ g o (ints xs))) : PInts σ (.slice p n c) xs := by
  subst hx
  exact ⟨p, c, rfl, h.1, h.2.1, h.2.2.2⟩
structure StepOk (code : List In) (inp : List Int) (b : Be) (x : In) : Prop where
  st : b.m.st = 0
  at_ : code[b.m.next]? = some x
  pop : popA x.op ≤ b.m.stack.length
  cell : cellOk b.m.cells.length x
  goto : (x.op = 13 ∨ x.op = 14) → 0 ≤ x.a
  stack : b.m.stack.length ≤ 900
  cells : b.m.cells.length ≤ 1000
  code : code.length ≤ 1000000
  rd : b.m.rd ≤ 1000000
  outs : b.out.length ≤ 1000000
  outn : b.m.outn ≤ b.out.length
end Go.Proofs.YtmnmcjdgnpgchaaGreat

namespace Go.Proofs.YtmnmcjdgnpgchaaGreat
open Go X
section
variable {C : List In} {inp : List Int}
def Goes (C : List In) (inp : List Int) (f : Nat) (b : Be) (f' : Nat) (b' : Be) : Prop := f' ≤ f ∧ runM C inp f b = ((runM C inp f' b').1, (runM C inp f' b').2 + (f - f'))
theorem Goes.refl (f : Nat) (b : Be) : Goes C inp f b f b := ⟨Nat.le_refl _, by simp⟩
theorem Goes.trans {f f1 f2 : Nat} {b b1 b2 : Be} (h : Goes C inp f b f1 b1) (k : Goes C inp f1 b1 f2 b2) : Goes C inp f b f2 b2 := by
  refine ⟨Nat.le_trans k.1 h.1, ?_⟩
  rw [h.2, k.2]
  have := h.1; have := k.1
  simp only [Prod.mk.injEq, true_and]; omega
theorem Goes.step {f : Nat} {b : Be} {x : In} (h0 : b.m.st = 0) (hx : C[b.m.next]? = some x) : Goes C inp (f + 1) b f (doIn inp false x (bump b)) := by
  refine ⟨Nat.le_succ _, ?_⟩
  rw [runM, if_neg (by rw [h0]; simp), stepB, hx]
  simp
def At_ (C : List In) (pc : Nat) (L : List In) : Prop := ∀ i x, L[i]? = some x → C[pc + i]? = some x
theorem At_.left {pc : Nat} {L M : List In} (h : At_ C pc (L ++ M)) : At_ C pc L := fun i x hx => h i x (by rw [List.getElem?_append_left (List.getElem?_eq_some_iff.1 hx).1]; exact hx)
theorem At_.right {pc : Nat} {L M : List In} (h : At_ C pc (L ++ M)) : At_ C (pc + L.length) M := fun i x hx => by
  rw [Nat.add_assoc]; exact h _ x (by rw [List.getElem?_append_right (Nat.le_add_right _ _), Nat.add_sub_cancel_left]; exact hx)
theorem At_.one {pc : Nat} {x : In} (h : At_ C pc [x]) : C[pc]? = some x := h 0 x rfl
def adv (b : Be) (n : Nat) (st : List Int) : Be := { b with m := { b.m with next := n, stack := st } }
def Fin (c : Int) (f : Nat) (b : Be) : Prop := (c = 13 ∧ f = 0 ∧ b.m.st = 0) ∨ ((c = 11 ∨ c = 12) ∧ b.m.st = c + 2)
def Stuck (b : Be) (c : Int) (f : Nat) (b' : Be) : Prop := b'.m.cells = b.m.cells ∧ b'.out = b.out ∧ b'.wrong = b.wrong ∧ Fin c f b'
def ExSim (C : List In) (inp : List Int) (vs : List Va) (x : Ex) : Prop := ∀ (pc : Nat) (b : Be) (f : Nat), At_ C pc (exCode vs x) → b.m.next = pc → b.m.st = 0 →
  (∀ v f', exRun vs b.m.cells x f = .ok (v, f') → Goes C inp f b f' (adv b (pc + (exCode vs x).length) (v :: b.m.stack))) ∧
  (∀ c f', exRun vs b.m.cells x f = .error (c, f') → ∃ b', Goes C inp f b f' b' ∧ Stuck b c f' b')
theorem exs_sim (vs : List Va) : ∀ (l : List Ex), (∀ x ∈ l, ExSim C inp vs x) → ∀ (pc : Nat) (b : Be) (f : Nat), At_ C pc (exsCode vs l) → b.m.next = pc → b.m.st = 0 →
  (∀ xs f', exsRun vs b.m.cells l f = .ok (xs, f') → Goes C inp f b f' (adv b (pc + (exsCode vs l).length) (xs.reverse ++ b.m.stack))) ∧
  (∀ c f', exsRun vs b.m.cells l f = .error (c, f') → ∃ b', Goes C inp f b f' b' ∧ Stuck b c f' b')
  | [], _, pc, b, f, _, hn, _ => by
    refine ⟨fun xs f' h => ?_, fun c f' h => (by cases h)⟩
    cases h
    have : adv b (pc + (exsCode vs []).length) ([].reverse ++ b.m.stack) = b := by subst hn; rfl
    rw [this]; exact Goes.refl _ _
  | x :: l, hx, pc, b, f, hC, hn, h0 => by
    rw [exsCode] at hC ⊢
    obtain ⟨h1, h2⟩ := hx x (by simp) pc b f hC.left hn h0
    rw [exsRun]
    cases e1 : exRun vs b.m.cells x f with
    | error q =>
      obtain ⟨c, k⟩ := q
      refine ⟨fun xs f' h => (by cases h), fun c' f' h => ?_⟩
      cases h
      exact h2 _ _ e1
    | ok q =>
      obtain ⟨v, f1⟩ := q
      have g1 := h1 _ _ e1
      obtain ⟨k1, k2⟩ := exs_sim vs l (fun y hy => hx y (by simp [hy])) (pc + (exCode vs x).length) (adv b (pc + (exCode vs x).length) (v :: b.m.stack)) f1 hC.right rfl h0
      change (∀ xs f', exsRun vs b.m.cells l f1 = _ → _) at k1
      change (∀ c f', exsRun vs b.m.cells l f1 = _ → _) at k2
      simp only
      cases e2 : exsRun vs b.m.cells l f1 with
      | error q =>
        obtain ⟨c, k⟩ := q
        refine ⟨fun xs f' h => (by cases h), fun c' f' h => ?_⟩
        cases h
        obtain ⟨b', g2, s2⟩ := k2 _ _ e2
        exact ⟨b', g1.trans g2, s2⟩
      | ok q =>
        obtain ⟨xs, f2⟩ := q
        refine ⟨fun ys f' h => ?_, fun c' f' h => (by cases h)⟩
        cases h
        have g2 := g1.trans (k1 _ _ e2)
        have e : adv (adv b (pc + (exCode vs x).length) (v :: b.m.stack)) (pc + (exCode vs x).length + (exsCode vs l).length) (xs.reverse ++ (v :: b.m.stack)) = adv b (pc + (exCode vs x ++ exsCode vs l).length) ((v :: xs).reverse ++ b.m.stack) := by
          simp only [adv, List.length_append, List.reverse_cons, List.append_assoc, List.cons_append, List.nil_append, Nat.add_assoc]
        rw [← e]; exact g2
theorem ex_sim (vs : List Va) (x : Ex) {nv : Nat} : ExV nv x → ExSim C inp vs x := by
  refine Ex.ind (P := fun x => ExV nv x → ExSim C inp vs x) ?_ x
  intro op v n l ih hV pc b f hC hn h0
  rw [ExV] at hV
  obtain ⟨hop, hlp, -, -, hsV⟩ := hV
  rw [exCode] at hC ⊢
  obtain ⟨h1, h2⟩ := exs_sim vs l (fun y hy => ih y hy (hsV.mem y hy)) pc b f hC.left hn h0
  have hx := (hC.right).one
  rw [exRun]
  cases e1 : exsRun vs b.m.cells l f with
  | error q =>
    obtain ⟨c, k⟩ := q
    refine ⟨fun xs f' h => (by cases h), fun c' f' h => ?_⟩
    cases h
    exact h2 _ _ e1
  | ok q =>
    obtain ⟨xs, f1⟩ := q
    have g1 := h1 _ _ e1
    have hlen := exsLen vs b.m.cells l f e1
    cases f1 with
    | zero =>
      refine ⟨fun v f' h => (by cases h), fun c' f' h => ?_⟩
      cases h
      exact ⟨_, g1, rfl, rfl, rfl, .inl ⟨rfl, rfl, h0⟩⟩
    | succ f1 =>
      have g2 := g1.trans (Goes.step (f := f1) (b := adv b (pc + (exsCode vs l).length) (xs.reverse ++ b.m.stack)) h0 hx)
      have hof : oneF (f1 + 1) = .ok f1 := by simp [oneF]
      simp only [hof]
      have hlen' : (pc + (exsCode vs l).length) + 1 = pc + (exsCode vs l ++ [opIn vs op v n]).length := by rw [List.length_append, List.length_singleton, Nat.add_assoc]
      have hpl : (xs.length : Int) = partsOf op := by rw [hlen]; exact hlp
      by_cases q1 : op = 1
      · subst q1
        obtain rfl : xs = [] := List.eq_nil_of_length_eq_zero (by have : partsOf 1 = 0 := rfl; omega)
        refine ⟨fun w f' h => ?_, fun c' f' h => (by cases h)⟩
        cases h
        rw [← hlen']; exact g2
      by_cases q2 : op = 2
      · subst q2
        obtain rfl : xs = [] := List.eq_nil_of_length_eq_zero (by have : partsOf 2 = 0 := rfl; omega)
        refine ⟨fun w f' h => ?_, fun c' f' h => (by cases h)⟩
        cases h
        rw [← hlen']; exact g2
      by_cases q3 : op = 3
      · subst q3
        obtain ⟨a, rfl⟩ : ∃ a, xs = [a] := by
          match xs, hpl with
          | [a], _ => exact ⟨a, rfl⟩
          | [], h => exact absurd h (by decide)
          | _ :: _ :: _, h => have : partsOf 3 = 1 := rfl; rw [this, List.length_cons, List.length_cons] at h; omega
        by_cases hk : a < 0 ∨ sizeV vs v ≤ a
        · have hr : opRun vs b.m.cells 3 v n [a] f1 = .error (11, f1) := if_pos hk
          rw [hr]
          refine ⟨fun w f' h => (by cases h), fun c' f' h => ?_⟩
          cases h
          have e : doIn inp false (opIn vs 3 v n) (bump (adv b (pc + (exsCode vs l).length) ([a].reverse ++ b.m.stack))) = { b with m := { b.m with next := pc + (exsCode vs l).length + 1, stack := b.m.stack, st := 13 } } := if_pos hk
          rw [e] at g2
          exact ⟨_, g2, rfl, rfl, rfl, .inr ⟨by decide, rfl⟩⟩
        · have hr : opRun vs b.m.cells 3 v n [a] f1 = .ok (b.m.cells.getD (cellOf vs v + a).toNat 0, f1) := if_neg hk
          rw [hr]
          refine ⟨fun w f' h => ?_, fun c' f' h => (by cases h)⟩
          cases h
          have e : doIn inp false (opIn vs 3 v n) (bump (adv b (pc + (exsCode vs l).length) ([a].reverse ++ b.m.stack))) = adv b (pc + (exsCode vs l).length + 1) (b.m.cells.getD (cellOf vs v + a).toNat 0 :: b.m.stack) := if_neg hk
          rw [e] at g2
          rw [← hlen']; exact g2
      have h48 : 4 ≤ op ∧ op ≤ 8 := by omega
      have hpo : partsOf op = 2 := by rw [partsOf, if_neg (by omega), if_neg q3, if_pos h48]
      obtain ⟨a, c, rfl⟩ : ∃ a c, xs = [a, c] := by
        match xs, hpl with
        | [a, c], _ => exact ⟨a, c, rfl⟩
        | [], h => rw [hpo] at h; simp at h
        | [_], h => rw [hpo] at h; simp at h
        | _ :: _ :: _ :: _, h => rw [hpo, List.length_cons, List.length_cons, List.length_cons] at h; omega
      have hr : opRun vs b.m.cells op v n [a, c] f1 = .ok (binV op a c, f1) := by rw [opRun, if_neg q1, if_neg q2, if_neg q3]; rfl
      rw [hr]
      refine ⟨fun w f' h => ?_, fun c' f' h => (by cases h)⟩
      cases h
      have hdo : ∀ (b1 : Be) (s : List Int), b1.m.stack = c :: a :: s → doIn inp false (opIn vs op v n) b1 = { b1 with m := { b1.m with stack := binV op a c :: s } } := fun b1 s hs => by
        rw [doIn]
        simp only [ex_op, if_neg q1, if_neg q2, if_neg q3, if_pos h48, hs]
      have e := hdo (bump (adv b (pc + (exsCode vs l).length) ([a, c].reverse ++ b.m.stack))) b.m.stack rfl
      rw [e] at g2
      rw [← hlen']; exact g2
end
end Go.Proofs.YtmnmcjdgnpgchaaGreat

namespace Go.Proofs.YtmnmcjdgnpgchaaGreat
open Go X
structure MInv (p : Pr) (inp : List Int) (o : Nat) (m : Mi) : Prop where
  at_ : m.st = 0 → m.next < (codeOf p).length ∧ (m.stack.length : Int) = hts ((codeOf p).take m.next)
  cells : m.cells.length = (sizes p.vars).toNat
  outn : m.outn ≤ o
  rd : m.rd ≤ inp.length
theorem hts_le {p : Pr} (hc : checkP p = 0) {i : Nat} (hi : i < (codeOf p).length) : hts ((codeOf p).take i) ≤ 24 := by
  cases i with
  | zero => rw [List.take_zero, hts_nil]; decide
  | succ j =>
    obtain ⟨x, hx⟩ : ∃ x, (codeOf p)[j]? = some x := ⟨_, List.getElem?_eq_getElem (by omega)⟩
    exact (code_fit hc hx).2.1
theorem MInv.ok {p : Pr} {inp : List Int} {b : Be} (hc : checkP p = 0) (h : MInv p inp b.out.length b.m) (h0 : b.m.st = 0) (hi : inp.length ≤ 1000000) (ho : b.out.length ≤ 1000000) (hl : (codeOf p).length ≤ 1000000) : ∃ x, StepOk (codeOf p) inp b x := by
  obtain ⟨h1, h2⟩ := h.at_ h0
  obtain ⟨x, hx⟩ : ∃ x, (codeOf p)[b.m.next]? = some x := ⟨_, List.getElem?_eq_getElem h1⟩
  obtain ⟨f1, f2, f3, f4, f5⟩ := code_fit hc hx
  obtain ⟨-, -, hv1, h48⟩ := check_valid hc
  have h24 := hts_le hc h1
  have hcl := h.cells
  have hrd := h.rd
  have hsn : (0 : Int) ≤ sizes p.vars := sizes_nonneg hv1
  refine ⟨x, h0, hx, by omega, ?_, fun ho => ?_, by omega, by omega, hl, by omega, ho, h.outn⟩
  · rw [show ((b.m.cells.length : Nat) : Int) = sizes p.vars by omega]; exact f5
  · obtain ⟨j, e, -⟩ := code_jump hc (List.mem_of_getElem? hx) ho
    omega
theorem MInv.step {p : Pr} {inp : List Int} {b : Be} {x : In} {keep : Bool} (hc : checkP p = 0) (h : MInv p inp b.out.length b.m) (hk : StepOk (codeOf p) inp b x) :
    MInv p inp (stepB (codeOf p) inp keep b).out.length (stepB (codeOf p) inp keep b).m ∧ b.out.length ≤ (stepB (codeOf p) inp keep b).out.length ∧ (stepB (codeOf p) inp keep b).out.length ≤ b.out.length + 1 ∧ ((stepB (codeOf p) inp keep b).kept = b.kept ∨ (stepB (codeOf p) inp keep b).kept = (stepB (codeOf p) inp keep b).m ∧ (stepB (codeOf p) inp keep b).m.st = 0) := by
  obtain ⟨⟨next, stack, rd, outn, st, cells⟩, kept, out, wrong⟩ := b
  obtain ⟨hst, hx, hpop, -, -, -, -, -, -, -, -⟩ := hk
  obtain ⟨hat, hcl, hon, hrd⟩ := h
  simp only at hst hx hpop hat hcl hon hrd
  subst hst
  obtain ⟨hlt, hn⟩ := hat rfl
  obtain ⟨f1, f2, f3, f4, -⟩ := code_fit hc hx
  have hd : hts ((codeOf p).take (next + 1)) = hts ((codeOf p).take next) + (popB x.op - popA x.op) := by rw [takeS hx, hts_app, hts_one]; rfl
  have hjmp := fun ho => code_jump hc (List.mem_of_getElem? hx) ho
  rw [stepB, hx]
  obtain ⟨op, a, bb, n⟩ := x
  simp only [bump] at hd f1 f3 f4 hjmp hpop ⊢
  have adv : op ≠ 16 → next + 1 < (codeOf p).length := fun h => by
    have : ¬ next = (codeOf p).length - 1 := fun e => h (f4.2 e)
    omega
  clear f2 hat hx f4
  by_cases h1 : op = 1
  · subst h1
    have adv := adv
    simp only [popA, popB] at hd hpop
    simp at hd hpop
    rw [show doIn inp keep ⟨1, a, bb, n⟩ ⟨⟨next + 1, stack, rd, outn, 0, cells⟩, kept, out, wrong⟩ = ⟨⟨next + 1, n :: stack, rd, outn, 0, cells⟩, kept, out, wrong⟩ from rfl]
    dsimp only
    exact ⟨⟨fun _ => ⟨adv (by decide), by first | omega | (simp only [List.length_cons, List.length_append, List.length_nil]; omega)⟩, hcl, by first | omega | (simp only [List.length_cons, List.length_append, List.length_nil]; omega), by first | omega | (simp only [List.length_cons, List.length_append, List.length_nil]; omega)⟩, by first | omega | (simp only [List.length_cons, List.length_append, List.length_nil]; omega), by first | omega | (simp only [List.length_cons, List.length_append, List.length_nil]; omega), .inl rfl⟩
  by_cases h2 : op = 2
  · subst h2
    have adv := adv
    simp only [popA, popB] at hd hpop
    simp at hd hpop
    rw [show doIn inp keep ⟨2, a, bb, n⟩ ⟨⟨next + 1, stack, rd, outn, 0, cells⟩, kept, out, wrong⟩ = ⟨⟨next + 1, cells.getD a.toNat 0 :: stack, rd, outn, 0, cells⟩, kept, out, wrong⟩ from rfl]
    dsimp only
    exact ⟨⟨fun _ => ⟨adv (by decide), by first | omega | (simp only [List.length_cons, List.length_append, List.length_nil]; omega)⟩, hcl, by first | omega | (simp only [List.length_cons, List.length_append, List.length_nil]; omega), by first | omega | (simp only [List.length_cons, List.length_append, List.length_nil]; omega)⟩, by first | omega | (simp only [List.length_cons, List.length_append, List.length_nil]; omega), by first | omega | (simp only [List.length_cons, List.length_append, List.length_nil]; omega), .inl rfl⟩
  by_cases h3 : op = 3
  · subst h3
    have adv := adv
    simp only [popA, popB] at hd hpop
    simp at hd hpop
    obtain ⟨k, s, rfl⟩ : ∃ n s, stack = n :: s := by
      cases stack with
      | nil => simp at hpop
      | cons n s => exact ⟨n, s, rfl⟩
    simp only [List.length_cons] at hn
    by_cases hk : k < 0 ∨ bb ≤ k
    · skip
      rw [show doIn inp keep ⟨3, a, bb, n⟩ ⟨⟨next + 1, k :: s, rd, outn, 0, cells⟩, kept, out, wrong⟩ = ⟨⟨next + 1, s, rd, outn, 13, cells⟩, kept, out, wrong⟩ from by simp [doIn, hk]]
      dsimp only
      exact ⟨⟨fun q => by simp at q, hcl, by first | omega | (simp only [List.length_cons, List.length_append, List.length_nil]; omega), by first | omega | (simp only [List.length_cons, List.length_append, List.length_nil]; omega)⟩, by first | omega | (simp only [List.length_cons, List.length_append, List.length_nil]; omega), by first | omega | (simp only [List.length_cons, List.length_append, List.length_nil]; omega), .inl rfl⟩
    · skip
      rw [show doIn inp keep ⟨3, a, bb, n⟩ ⟨⟨next + 1, k :: s, rd, outn, 0, cells⟩, kept, out, wrong⟩ = ⟨⟨next + 1, cells.getD (a + k).toNat 0 :: s, rd, outn, 0, cells⟩, kept, out, wrong⟩ from by simp [doIn, hk]]
      dsimp only
      exact ⟨⟨fun _ => ⟨adv (by decide), by first | omega | (simp only [List.length_cons, List.length_append, List.length_nil]; omega)⟩, hcl, by first | omega | (simp only [List.length_cons, List.length_append, List.length_nil]; omega), by first | omega | (simp only [List.length_cons, List.length_append, List.length_nil]; omega)⟩, by first | omega | (simp only [List.length_cons, List.length_append, List.length_nil]; omega), by first | omega | (simp only [List.length_cons, List.length_append, List.length_nil]; omega), .inl rfl⟩
  by_cases h4 : op = 4
  · subst h4
    have adv := adv
    simp only [popA, popB] at hd hpop
    simp at hd hpop
    obtain ⟨y, z, s, rfl⟩ : ∃ y z s, stack = y :: z :: s := by
      cases stack with
      | nil => simp at hpop
      | cons y s => cases s with
        | nil => simp at hpop
        | cons z s => exact ⟨y, z, s, rfl⟩
    simp only [List.length_cons] at hn
    rw [show doIn inp keep ⟨4, a, bb, n⟩ ⟨⟨next + 1, y :: z :: s, rd, outn, 0, cells⟩, kept, out, wrong⟩ = ⟨⟨next + 1, binV 4 z y :: s, rd, outn, 0, cells⟩, kept, out, wrong⟩ from rfl]
    dsimp only
    exact ⟨⟨fun _ => ⟨adv (by decide), by first | omega | (simp only [List.length_cons, List.length_append, List.length_nil]; omega)⟩, hcl, by first | omega | (simp only [List.length_cons, List.length_append, List.length_nil]; omega), by first | omega | (simp only [List.length_cons, List.length_append, List.length_nil]; omega)⟩, by first | omega | (simp only [List.length_cons, List.length_append, List.length_nil]; omega), by first | omega | (simp only [List.length_cons, List.length_append, List.length_nil]; omega), .inl rfl⟩
  by_cases h5 : op = 5
  · subst h5
    have adv := adv
    simp only [popA, popB] at hd hpop
    simp at hd hpop
    obtain ⟨y, z, s, rfl⟩ : ∃ y z s, stack = y :: z :: s := by
      cases stack with
      | nil => simp at hpop
      | cons y s => cases s with
        | nil => simp at hpop
        | cons z s => exact ⟨y, z, s, rfl⟩
    simp only [List.length_cons] at hn
    rw [show doIn inp keep ⟨5, a, bb, n⟩ ⟨⟨next + 1, y :: z :: s, rd, outn, 0, cells⟩, kept, out, wrong⟩ = ⟨⟨next + 1, binV 5 z y :: s, rd, outn, 0, cells⟩, kept, out, wrong⟩ from rfl]
    dsimp only
    exact ⟨⟨fun _ => ⟨adv (by decide), by first | omega | (simp only [List.length_cons, List.length_append, List.length_nil]; omega)⟩, hcl, by first | omega | (simp only [List.length_cons, List.length_append, List.length_nil]; omega), by first | omega | (simp only [List.length_cons, List.length_append, List.length_nil]; omega)⟩, by first | omega | (simp only [List.length_cons, List.length_append, List.length_nil]; omega), by first | omega | (simp only [List.length_cons, List.length_append, List.length_nil]; omega), .inl rfl⟩
  by_cases h6 : op = 6
  · subst h6
    have adv := adv
    simp only [popA, popB] at hd hpop
    simp at hd hpop
    obtain ⟨y, z, s, rfl⟩ : ∃ y z s, stack = y :: z :: s := by
      cases stack with
      | nil => simp at hpop
      | cons y s => cases s with
        | nil => simp at hpop
        | cons z s => exact ⟨y, z, s, rfl⟩
    simp only [List.length_cons] at hn
    rw [show doIn inp keep ⟨6, a, bb, n⟩ ⟨⟨next + 1, y :: z :: s, rd, outn, 0, cells⟩, kept, out, wrong⟩ = ⟨⟨next + 1, binV 6 z y :: s, rd, outn, 0, cells⟩, kept, out, wrong⟩ from rfl]
    dsimp only
    exact ⟨⟨fun _ => ⟨adv (by decide), by first | omega | (simp only [List.length_cons, List.length_append, List.length_nil]; omega)⟩, hcl, by first | omega | (simp only [List.length_cons, List.length_append, List.length_nil]; omega), by first | omega | (simp only [List.length_cons, List.length_append, List.length_nil]; omega)⟩, by first | omega | (simp only [List.length_cons, List.length_append, List.length_nil]; omega), by first | omega | (simp only [List.length_cons, List.length_append, List.length_nil]; omega), .inl rfl⟩
  by_cases h7 : op = 7
  · subst h7
    have adv := adv
    simp only [popA, popB] at hd hpop
    simp at hd hpop
    obtain ⟨y, z, s, rfl⟩ : ∃ y z s, stack = y :: z :: s := by
      cases stack with
      | nil => simp at hpop
      | cons y s => cases s with
        | nil => simp at hpop
        | cons z s => exact ⟨y, z, s, rfl⟩
    simp only [List.length_cons] at hn
    rw [show doIn inp keep ⟨7, a, bb, n⟩ ⟨⟨next + 1, y :: z :: s, rd, outn, 0, cells⟩, kept, out, wrong⟩ = ⟨⟨next + 1, binV 7 z y :: s, rd, outn, 0, cells⟩, kept, out, wrong⟩ from rfl]
    dsimp only
    exact ⟨⟨fun _ => ⟨adv (by decide), by first | omega | (simp only [List.length_cons, List.length_append, List.length_nil]; omega)⟩, hcl, by first | omega | (simp only [List.length_cons, List.length_append, List.length_nil]; omega), by first | omega | (simp only [List.length_cons, List.length_append, List.length_nil]; omega)⟩, by first | omega | (simp only [List.length_cons, List.length_append, List.length_nil]; omega), by first | omega | (simp only [List.length_cons, List.length_append, List.length_nil]; omega), .inl rfl⟩
  by_cases h8 : op = 8
  · subst h8
    have adv := adv
    simp only [popA, popB] at hd hpop
    simp at hd hpop
    obtain ⟨y, z, s, rfl⟩ : ∃ y z s, stack = y :: z :: s := by
      cases stack with
      | nil => simp at hpop
      | cons y s => cases s with
        | nil => simp at hpop
        | cons z s => exact ⟨y, z, s, rfl⟩
    simp only [List.length_cons] at hn
    rw [show doIn inp keep ⟨8, a, bb, n⟩ ⟨⟨next + 1, y :: z :: s, rd, outn, 0, cells⟩, kept, out, wrong⟩ = ⟨⟨next + 1, binV 8 z y :: s, rd, outn, 0, cells⟩, kept, out, wrong⟩ from rfl]
    dsimp only
    exact ⟨⟨fun _ => ⟨adv (by decide), by first | omega | (simp only [List.length_cons, List.length_append, List.length_nil]; omega)⟩, hcl, by first | omega | (simp only [List.length_cons, List.length_append, List.length_nil]; omega), by first | omega | (simp only [List.length_cons, List.length_append, List.length_nil]; omega)⟩, by first | omega | (simp only [List.length_cons, List.length_append, List.length_nil]; omega), by first | omega | (simp only [List.length_cons, List.length_append, List.length_nil]; omega), .inl rfl⟩
  by_cases h9 : op = 9
  · subst h9
    have adv := adv
    simp only [popA, popB] at hd hpop
    simp at hd hpop
    obtain ⟨k, s, rfl⟩ : ∃ n s, stack = n :: s := by
      cases stack with
      | nil => simp at hpop
      | cons n s => exact ⟨n, s, rfl⟩
    simp only [List.length_cons] at hn
    rw [show doIn inp keep ⟨9, a, bb, n⟩ ⟨⟨next + 1, k :: s, rd, outn, 0, cells⟩, kept, out, wrong⟩ = ⟨⟨next + 1, s, rd, outn, 0, cells.set a.toNat k⟩, kept, out, wrong⟩ from rfl]
    dsimp only
    exact ⟨⟨fun _ => ⟨adv (by decide), by first | omega | (simp only [List.length_cons, List.length_append, List.length_nil]; omega)⟩, by simpa using hcl, by first | omega | (simp only [List.length_cons, List.length_append, List.length_nil]; omega), by first | omega | (simp only [List.length_cons, List.length_append, List.length_nil]; omega)⟩, by first | omega | (simp only [List.length_cons, List.length_append, List.length_nil]; omega), by first | omega | (simp only [List.length_cons, List.length_append, List.length_nil]; omega), .inl rfl⟩
  by_cases h10 : op = 10
  · subst h10
    have adv := adv
    simp only [popA, popB] at hd hpop
    simp at hd hpop
    obtain ⟨y, k, s, rfl⟩ : ∃ y z s, stack = y :: z :: s := by
      cases stack with
      | nil => simp at hpop
      | cons y s => cases s with
        | nil => simp at hpop
        | cons z s => exact ⟨y, z, s, rfl⟩
    simp only [List.length_cons] at hn
    by_cases hk : k < 0 ∨ bb ≤ k
    · skip
      rw [show doIn inp keep ⟨10, a, bb, n⟩ ⟨⟨next + 1, y :: k :: s, rd, outn, 0, cells⟩, kept, out, wrong⟩ = ⟨⟨next + 1, s, rd, outn, 13, cells⟩, kept, out, wrong⟩ from by simp [doIn, hk]]
      dsimp only
      exact ⟨⟨fun q => by simp at q, hcl, by first | omega | (simp only [List.length_cons, List.length_append, List.length_nil]; omega), by first | omega | (simp only [List.length_cons, List.length_append, List.length_nil]; omega)⟩, by first | omega | (simp only [List.length_cons, List.length_append, List.length_nil]; omega), by first | omega | (simp only [List.length_cons, List.length_append, List.length_nil]; omega), .inl rfl⟩
    · skip
      rw [show doIn inp keep ⟨10, a, bb, n⟩ ⟨⟨next + 1, y :: k :: s, rd, outn, 0, cells⟩, kept, out, wrong⟩ = ⟨⟨next + 1, s, rd, outn, 0, cells.set (a + k).toNat y⟩, kept, out, wrong⟩ from by simp [doIn, hk]]
      dsimp only
      exact ⟨⟨fun _ => ⟨adv (by decide), by first | omega | (simp only [List.length_cons, List.length_append, List.length_nil]; omega)⟩, by simpa using hcl, by first | omega | (simp only [List.length_cons, List.length_append, List.length_nil]; omega), by first | omega | (simp only [List.length_cons, List.length_append, List.length_nil]; omega)⟩, by first | omega | (simp only [List.length_cons, List.length_append, List.length_nil]; omega), by first | omega | (simp only [List.length_cons, List.length_append, List.length_nil]; omega), .inl rfl⟩
  by_cases h11 : op = 11
  · subst h11
    have adv := adv
    simp only [popA, popB] at hd hpop
    simp at hd hpop
    obtain ⟨k, s, rfl⟩ : ∃ n s, stack = n :: s := by
      cases stack with
      | nil => simp at hpop
      | cons n s => exact ⟨n, s, rfl⟩
    simp only [List.length_cons] at hn
    by_cases hk : outn = out.length
    · skip
      rw [show doIn inp keep ⟨11, a, bb, n⟩ ⟨⟨next + 1, k :: s, rd, outn, 0, cells⟩, kept, out, wrong⟩ = ⟨⟨next + 1, s, rd, outn + 1, 0, cells⟩, kept, out ++ [k], wrong⟩ from by simp [doIn, hk]]
      dsimp only
      exact ⟨⟨fun _ => ⟨adv (by decide), by first | omega | (simp only [List.length_cons, List.length_append, List.length_nil]; omega)⟩, hcl, by first | omega | (simp only [List.length_cons, List.length_append, List.length_nil]; omega), by first | omega | (simp only [List.length_cons, List.length_append, List.length_nil]; omega)⟩, by first | omega | (simp only [List.length_cons, List.length_append, List.length_nil]; omega), by first | omega | (simp only [List.length_cons, List.length_append, List.length_nil]; omega), .inl rfl⟩
    · skip
      rw [show doIn inp keep ⟨11, a, bb, n⟩ ⟨⟨next + 1, k :: s, rd, outn, 0, cells⟩, kept, out, wrong⟩ = ⟨⟨next + 1, s, rd, outn + 1, 0, cells⟩, kept, out, (wrong || decide (out.getD outn 0 ≠ k))⟩ from by simp [doIn, hk]]
      dsimp only
      exact ⟨⟨fun _ => ⟨adv (by decide), by first | omega | (simp only [List.length_cons, List.length_append, List.length_nil]; omega)⟩, hcl, by first | omega | (simp only [List.length_cons, List.length_append, List.length_nil]; omega), by first | omega | (simp only [List.length_cons, List.length_append, List.length_nil]; omega)⟩, by first | omega | (simp only [List.length_cons, List.length_append, List.length_nil]; omega), by first | omega | (simp only [List.length_cons, List.length_append, List.length_nil]; omega), .inl rfl⟩
  by_cases h12 : op = 12
  · subst h12
    have adv := adv
    simp only [popA, popB] at hd hpop
    simp at hd hpop
    by_cases hk : inp.length ≤ rd
    · skip
      rw [show doIn inp keep ⟨12, a, bb, n⟩ ⟨⟨next + 1, stack, rd, outn, 0, cells⟩, kept, out, wrong⟩ = ⟨⟨next + 1, stack, rd, outn, 14, cells⟩, kept, out, wrong⟩ from by simp [doIn, hk]]
      dsimp only
      exact ⟨⟨fun q => by simp at q, hcl, by first | omega | (simp only [List.length_cons, List.length_append, List.length_nil]; omega), by first | omega | (simp only [List.length_cons, List.length_append, List.length_nil]; omega)⟩, by first | omega | (simp only [List.length_cons, List.length_append, List.length_nil]; omega), by first | omega | (simp only [List.length_cons, List.length_append, List.length_nil]; omega), .inl rfl⟩
    · skip
      rw [show doIn inp keep ⟨12, a, bb, n⟩ ⟨⟨next + 1, stack, rd, outn, 0, cells⟩, kept, out, wrong⟩ = ⟨⟨next + 1, stack, rd + 1, outn, 0, cells.set a.toNat (inp.getD rd 0)⟩, kept, out, wrong⟩ from by simp [doIn, hk]]
      dsimp only
      exact ⟨⟨fun _ => ⟨adv (by decide), by first | omega | (simp only [List.length_cons, List.length_append, List.length_nil]; omega)⟩, by simpa using hcl, by first | omega | (simp only [List.length_cons, List.length_append, List.length_nil]; omega), by first | omega | (simp only [List.length_cons, List.length_append, List.length_nil]; omega)⟩, by first | omega | (simp only [List.length_cons, List.length_append, List.length_nil]; omega), by first | omega | (simp only [List.length_cons, List.length_append, List.length_nil]; omega), .inl rfl⟩
  by_cases h13 : op = 13
  · subst h13
    have adv := adv
    simp only [popA, popB] at hd hpop
    simp at hd hpop
    obtain ⟨k, s, rfl⟩ : ∃ n s, stack = n :: s := by
      cases stack with
      | nil => simp at hpop
      | cons n s => exact ⟨n, s, rfl⟩
    simp only [List.length_cons] at hn
    obtain ⟨j, rfl, hj, hz⟩ := hjmp (by decide)
    have f3 := f3 (by decide)
    by_cases hk : k = 0
    · skip
      rw [show doIn inp keep ⟨13, (j : Int), bb, n⟩ ⟨⟨next + 1, k :: s, rd, outn, 0, cells⟩, kept, out, wrong⟩ = ⟨⟨j, s, rd, outn, 0, cells⟩, kept, out, wrong⟩ from by simp [doIn, hk]]
      dsimp only
      exact ⟨⟨fun _ => ⟨hj, by first | omega | (simp only [List.length_cons, List.length_append, List.length_nil]; omega)⟩, hcl, by first | omega | (simp only [List.length_cons, List.length_append, List.length_nil]; omega), by first | omega | (simp only [List.length_cons, List.length_append, List.length_nil]; omega)⟩, by first | omega | (simp only [List.length_cons, List.length_append, List.length_nil]; omega), by first | omega | (simp only [List.length_cons, List.length_append, List.length_nil]; omega), .inl rfl⟩
    · skip
      rw [show doIn inp keep ⟨13, (j : Int), bb, n⟩ ⟨⟨next + 1, k :: s, rd, outn, 0, cells⟩, kept, out, wrong⟩ = ⟨⟨next + 1, s, rd, outn, 0, cells⟩, kept, out, wrong⟩ from by simp [doIn, hk]]
      dsimp only
      exact ⟨⟨fun _ => ⟨adv (by decide), by first | omega | (simp only [List.length_cons, List.length_append, List.length_nil]; omega)⟩, hcl, by first | omega | (simp only [List.length_cons, List.length_append, List.length_nil]; omega), by first | omega | (simp only [List.length_cons, List.length_append, List.length_nil]; omega)⟩, by first | omega | (simp only [List.length_cons, List.length_append, List.length_nil]; omega), by first | omega | (simp only [List.length_cons, List.length_append, List.length_nil]; omega), .inl rfl⟩
  by_cases h14 : op = 14
  · subst h14
    have adv := adv
    simp only [popA, popB] at hd hpop
    simp at hd hpop
    obtain ⟨j, rfl, hj, hz⟩ := hjmp (by decide)
    have f3 := f3 (by decide)
    rw [show doIn inp keep ⟨14, (j : Int), bb, n⟩ ⟨⟨next + 1, stack, rd, outn, 0, cells⟩, kept, out, wrong⟩ = ⟨⟨j, stack, rd, outn, 0, cells⟩, kept, out, wrong⟩ from by simp [doIn]]
    dsimp only
    exact ⟨⟨fun _ => ⟨hj, by first | omega | (simp only [List.length_cons, List.length_append, List.length_nil]; omega)⟩, hcl, by first | omega | (simp only [List.length_cons, List.length_append, List.length_nil]; omega), by first | omega | (simp only [List.length_cons, List.length_append, List.length_nil]; omega)⟩, by first | omega | (simp only [List.length_cons, List.length_append, List.length_nil]; omega), by first | omega | (simp only [List.length_cons, List.length_append, List.length_nil]; omega), .inl rfl⟩
  by_cases h15 : op = 15
  · subst h15
    have adv := adv
    simp only [popA, popB] at hd hpop
    simp at hd hpop
    cases keep with
    | false =>
      rw [show doIn inp false ⟨15, a, bb, n⟩ ⟨⟨next + 1, stack, rd, outn, 0, cells⟩, kept, out, wrong⟩ = ⟨⟨next + 1, stack, rd, outn, 0, cells⟩, kept, out, wrong⟩ from rfl]
      dsimp only
      exact ⟨⟨fun _ => ⟨adv (by decide), by first | omega | (simp only [List.length_cons, List.length_append, List.length_nil]; omega)⟩, hcl, by first | omega | (simp only [List.length_cons, List.length_append, List.length_nil]; omega), by first | omega | (simp only [List.length_cons, List.length_append, List.length_nil]; omega)⟩, by first | omega | (simp only [List.length_cons, List.length_append, List.length_nil]; omega), by first | omega | (simp only [List.length_cons, List.length_append, List.length_nil]; omega), .inl rfl⟩
    | true =>
      rw [show doIn inp true ⟨15, a, bb, n⟩ ⟨⟨next + 1, stack, rd, outn, 0, cells⟩, kept, out, wrong⟩ = ⟨⟨next + 1, stack, rd, outn, 0, cells⟩, ⟨next + 1, stack, rd, outn, 0, cells⟩, out, wrong⟩ from rfl]
      dsimp only
      exact ⟨⟨fun _ => ⟨adv (by decide), by first | omega | (simp only [List.length_cons, List.length_append, List.length_nil]; omega)⟩, hcl, by first | omega | (simp only [List.length_cons, List.length_append, List.length_nil]; omega), by first | omega | (simp only [List.length_cons, List.length_append, List.length_nil]; omega)⟩, by first | omega | (simp only [List.length_cons, List.length_append, List.length_nil]; omega), by first | omega | (simp only [List.length_cons, List.length_append, List.length_nil]; omega), .inr ⟨rfl, rfl⟩⟩
  by_cases h16 : op = 16
  · subst h16
    have adv := adv
    simp only [popA, popB] at hd hpop
    simp at hd hpop
    rw [show doIn inp keep ⟨16, a, bb, n⟩ ⟨⟨next + 1, stack, rd, outn, 0, cells⟩, kept, out, wrong⟩ = ⟨⟨next + 1, stack, rd, outn, 1, cells⟩, kept, out, wrong⟩ from rfl]
    dsimp only
    exact ⟨⟨fun q => by simp at q, hcl, by first | omega | (simp only [List.length_cons, List.length_append, List.length_nil]; omega), by first | omega | (simp only [List.length_cons, List.length_append, List.length_nil]; omega)⟩, by first | omega | (simp only [List.length_cons, List.length_append, List.length_nil]; omega), by first | omega | (simp only [List.length_cons, List.length_append, List.length_nil]; omega), .inl rfl⟩
  have hA : popA op = 0 := by simp only [popA]; rw [if_neg h3, if_neg (show ¬ (4 ≤ op ∧ op ≤ 8) by omega), if_neg (show ¬ (op = 9 ∨ op = 11 ∨ op = 13) by omega), if_neg h10]
  have hB : popB op = 0 := by simp only [popB]; rw [if_neg (show ¬ (1 ≤ op ∧ op ≤ 8) by omega)]
  rw [hA, hB] at hd
  simp only [doIn]
  rw [if_neg h1, if_neg h2, if_neg h3, if_neg (show ¬ (4 ≤ op ∧ op ≤ 8) by omega), if_neg h9, if_neg h10, if_neg h11, if_neg h12, if_neg h13, if_neg h14, if_neg h15, if_neg h16]
  dsimp only
  exact ⟨⟨fun _ => ⟨adv h16, by show (stack.length : Int) = hts ((codeOf p).take (next + 1)); omega⟩, hcl, by omega, by omega⟩, by omega, by omega, .inl rfl⟩
end Go.Proofs.YtmnmcjdgnpgchaaGreat

namespace Go.Proofs.YtmnmcjdgnpgchaaGreat
open Go X
theorem putC_ok {C : List (List Int)} (h : pgsOk C) (a w : Int) : pgsOk (putC C a w) := by
  unfold putC; split
  · rename_i hc
    exact pgs_set h _ (by rw [List.length_set]; exact pgs_row8 h (by omega))
  · exact h
theorem wput {C : List (List Int)} (h : pgsOk C) {a : Int} (w : Int) (ha : 0 ≤ a ∧ a < 112) (b : Int) : wordC (putC C a w) b = if b = a then w else wordC C b := by
  by_cases hb : 0 ≤ b ∧ b < 112
  · obtain ⟨n, rfl⟩ := Int.eq_ofNat_of_zero_le hb.1
    exact wordC_put h a w (by omega)
  · rw [wordC_out hb, wordC_out hb, if_neg (by omega)]
structure Shows (C : List (List Int)) (m : Mi) : Prop where
  ok : pgsOk C
  nx : wordC C 0 = m.next
  sl : wordC C 1 = m.stack.length
  rd : wordC C 2 = m.rd
  on : wordC C 3 = m.outn
  st : wordC C 4 = m.st
  ce : ∀ k : Nat, k < m.cells.length → wordC C (5 + k) = m.cells.getD k 0
  sk : ∀ j : Nat, j < m.stack.length → wordC C (53 + j) = m.stack.reverse.getD j 0
  lc : m.cells.length ≤ 48
  ls : m.stack.length ≤ 59
theorem rev_lt (n : Int) (s : List Int) {j : Nat} (h : j < s.length) : (n :: s).reverse.getD j 0 = s.reverse.getD j 0 := by
  rw [List.reverse_cons, List.getD_eq_getElem?_getD, List.getD_eq_getElem?_getD, List.getElem?_append_left (by rw [List.length_reverse]; exact h)]
theorem rev_at (n : Int) (s : List Int) : (n :: s).reverse.getD s.length 0 = n := by
  rw [List.reverse_cons, List.getD_eq_getElem?_getD, List.getElem?_append_right (by simp)]; simp
section
variable {C : List (List Int)} {next rd outn : Nat} {stack cells : List Int} {st : Int}
theorem Shows.put0 (h : Shows C ⟨next, stack, rd, outn, st, cells⟩) (n : Nat) : Shows (putC C 0 n) ⟨n, stack, rd, outn, st, cells⟩ := by
  have w := wput h.ok (a := 0) n (by omega)
  refine ⟨putC_ok h.ok _ _, by rw [w, if_pos rfl], by rw [w, if_neg (by omega)]; exact h.sl, by rw [w, if_neg (by omega)]; exact h.rd, by rw [w, if_neg (by omega)]; exact h.on, by rw [w, if_neg (by omega)]; exact h.st, fun k hk => ?_, fun j hj => ?_, h.lc, h.ls⟩
  · rw [w, if_neg (by omega)]; exact h.ce k hk
  · rw [w, if_neg (by omega)]; exact h.sk j hj
theorem Shows.put2 (h : Shows C ⟨next, stack, rd, outn, st, cells⟩) (n : Nat) : Shows (putC C 2 n) ⟨next, stack, n, outn, st, cells⟩ := by
  have w := wput h.ok (a := 2) n (by omega)
  refine ⟨putC_ok h.ok _ _, by rw [w, if_neg (by omega)]; exact h.nx, by rw [w, if_neg (by omega)]; exact h.sl, by rw [w, if_pos rfl], by rw [w, if_neg (by omega)]; exact h.on, by rw [w, if_neg (by omega)]; exact h.st, fun k hk => ?_, fun j hj => ?_, h.lc, h.ls⟩
  · rw [w, if_neg (by omega)]; exact h.ce k hk
  · rw [w, if_neg (by omega)]; exact h.sk j hj
theorem Shows.put3 (h : Shows C ⟨next, stack, rd, outn, st, cells⟩) (n : Nat) : Shows (putC C 3 n) ⟨next, stack, rd, n, st, cells⟩ := by
  have w := wput h.ok (a := 3) n (by omega)
  refine ⟨putC_ok h.ok _ _, by rw [w, if_neg (by omega)]; exact h.nx, by rw [w, if_neg (by omega)]; exact h.sl, by rw [w, if_neg (by omega)]; exact h.rd, by rw [w, if_pos rfl], by rw [w, if_neg (by omega)]; exact h.st, fun k hk => ?_, fun j hj => ?_, h.lc, h.ls⟩
  · rw [w, if_neg (by omega)]; exact h.ce k hk
  · rw [w, if_neg (by omega)]; exact h.sk j hj
theorem Shows.put4 (h : Shows C ⟨next, stack, rd, outn, st, cells⟩) (n : Int) : Shows (putC C 4 n) ⟨next, stack, rd, outn, n, cells⟩ := by
  have w := wput h.ok (a := 4) n (by omega)
  refine ⟨putC_ok h.ok _ _, by rw [w, if_neg (by omega)]; exact h.nx, by rw [w, if_neg (by omega)]; exact h.sl, by rw [w, if_neg (by omega)]; exact h.rd, by rw [w, if_neg (by omega)]; exact h.on, by rw [w, if_pos rfl], fun k hk => ?_, fun j hj => ?_, h.lc, h.ls⟩
  · rw [w, if_neg (by omega)]; exact h.ce k hk
  · rw [w, if_neg (by omega)]; exact h.sk j hj
theorem Shows.putc (h : Shows C ⟨next, stack, rd, outn, st, cells⟩) {a : Nat} (ha : a < cells.length) (n : Int) : Shows (putC C (5 + a) n) ⟨next, stack, rd, outn, st, cells.set a n⟩ := by
  have hl := h.lc
  have hs := h.ls
  simp only at hl hs
  have w := wput h.ok (a := 5 + a) n (by omega)
  refine ⟨putC_ok h.ok _ _, by rw [w, if_neg (by omega)]; exact h.nx, by rw [w, if_neg (by omega)]; exact h.sl, by rw [w, if_neg (by omega)]; exact h.rd, by rw [w, if_neg (by omega)]; exact h.on, by rw [w, if_neg (by omega)]; exact h.st, fun k hk => ?_, fun j hj => ?_, by simpa using hl, hs⟩
  · simp only [List.length_set] at hk
    have e := h.ce k hk
    simp only [List.getD_eq_getElem?_getD, List.getElem?_set] at e ⊢
    rw [w]
    by_cases hak : a = k
    · subst hak; rw [if_pos rfl, if_pos rfl, if_pos ha]; rfl
    · rw [if_neg (by omega), if_neg hak]; exact e
  · rw [w, if_neg (by omega)]; exact h.sk j hj
theorem Shows.push (h : Shows C ⟨next, stack, rd, outn, st, cells⟩) (hl : stack.length < 59) (n : Int) : Shows (putC (putC C 1 (stack.length + 1)) (53 + stack.length) n) ⟨next, n :: stack, rd, outn, st, cells⟩ := by
  have hc := h.lc
  simp only at hc
  have w1 := wput h.ok (a := 1) (stack.length + 1) (by omega)
  have ok1 := putC_ok h.ok 1 ((stack.length : Int) + 1)
  have w2 := wput ok1 (a := 53 + stack.length) n (by omega)
  refine ⟨putC_ok ok1 _ _, ?_, ?_, ?_, ?_, ?_, fun k hk => ?_, fun j hj => ?_, hc, by simp only [List.length_cons]; omega⟩
  · rw [w2, if_neg (by omega), w1, if_neg (by omega)]; exact h.nx
  · rw [w2, if_neg (by omega), w1, if_pos rfl]; simp
  · rw [w2, if_neg (by omega), w1, if_neg (by omega)]; exact h.rd
  · rw [w2, if_neg (by omega), w1, if_neg (by omega)]; exact h.on
  · rw [w2, if_neg (by omega), w1, if_neg (by omega)]; exact h.st
  · simp only at hk
    rw [w2, if_neg (by omega), w1, if_neg (by omega)]; exact h.ce k hk
  · simp only [List.length_cons] at hj
    rw [w2]
    by_cases e : j = stack.length
    · subst e; rw [if_pos rfl, rev_at]
    · rw [if_neg (by omega), w1, if_neg (by omega), rev_lt n stack (by omega)]; exact h.sk j (by show j < stack.length; omega)
theorem Shows.pop {n : Int} {s : List Int} (h : Shows C ⟨next, n :: s, rd, outn, st, cells⟩) : Shows (putC C 1 s.length) ⟨next, s, rd, outn, st, cells⟩ := by
  have hc := h.lc
  have hs := h.ls
  simp only [List.length_cons] at hc hs
  have w := wput h.ok (a := 1) s.length (by omega)
  refine ⟨putC_ok h.ok _ _, by rw [w, if_neg (by omega)]; exact h.nx, by rw [w, if_pos rfl], by rw [w, if_neg (by omega)]; exact h.rd, by rw [w, if_neg (by omega)]; exact h.on, by rw [w, if_neg (by omega)]; exact h.st, fun k hk => ?_, fun j hj => ?_, hc, by show s.length ≤ 59; omega⟩
  · rw [w, if_neg (by omega)]; exact h.ce k hk
  · simp only at hj
    rw [w, if_neg (by omega), ← rev_lt n s hj]; exact h.sk j (by show j < (n :: s).length; rw [List.length_cons]; omega)
theorem Shows.top {n : Int} {s : List Int} (h : Shows C ⟨next, n :: s, rd, outn, st, cells⟩) : wordC C (53 + s.length) = n := by
  rw [h.sk s.length (by show _ < (n :: s).length; simp)]; exact rev_at n s
end
namespace Me
def pushM (M : Me) (n : Int) : Me := (M.put 1 (M.ld 1 + 1)).put (53 + M.ld 1) n
def popM (M : Me) : Me := M.put 1 (M.ld 1 - 1)
def topM (M : Me) : Int := M.popM.ld (52 + M.ld 1)
def doM (inp : List Int) (x : In) (M : Me) : Me :=
  if x.op = 1 then M.pushM x.n
  else if x.op = 2 then M.pushM (M.ld (5 + x.a))
  else if x.op = 3 then (if M.topM < 0 ∨ x.b ≤ M.topM then M.popM.put 4 13 else M.popM.pushM (M.popM.ld (5 + x.a + M.topM)))
  else if 4 ≤ x.op ∧ x.op ≤ 8 then M.popM.popM.pushM (binV x.op M.popM.topM M.topM)
  else if x.op = 9 then M.popM.put (5 + x.a) M.topM
  else if x.op = 10 then (if M.popM.topM < 0 ∨ x.b ≤ M.popM.topM then M.popM.popM.put 4 13 else M.popM.popM.put (5 + x.a + M.popM.topM) M.topM)
  else if x.op = 11 then M.popM.put 3 (M.popM.ld 3 + 1)
  else if x.op = 12 then (if (inp.length : Int) ≤ M.ld 2 then M.put 4 14 else (M.put 2 (M.ld 2 + 1)).put (5 + x.a) (inp.getD (M.ld 2).toNat 0))
  else if x.op = 13 then (if M.topM = 0 then M.popM.put 0 x.a else M.popM)
  else if x.op = 14 then M.put 0 x.a
  else if x.op = 15 then ⟨M.C, noB⟩
  else if x.op = 16 then M.put 4 1
  else M
def stepM (code : List In) (inp : List Int) (M : Me) : Me := match code[(M.ld 0).toNat]? with
  | none => M
  | some x => doM inp x (M.put 0 (M.ld 0 + 1))
end Me
section
variable {M : Me} {next rd outn : Nat} {stack cells : List Int} {st : Int}
theorem Shows.popM {n : Int} {s : List Int} (h : Shows M.C ⟨next, n :: s, rd, outn, st, cells⟩) : Shows M.popM.C ⟨next, s, rd, outn, st, cells⟩ := by
  have e : M.ld 1 - 1 = s.length := by rw [Me.ld, h.sl]; simp
  show Shows (putC M.C 1 (M.ld 1 - 1)) _
  rw [e]; exact h.pop
theorem Shows.topM {n : Int} {s : List Int} (h : Shows M.C ⟨next, n :: s, rd, outn, st, cells⟩) : M.topM = n := by
  have hs := h.ls
  simp only [List.length_cons] at hs
  have e : M.ld 1 = s.length + 1 := by rw [Me.ld, h.sl]; simp
  show wordC (putC M.C 1 (M.ld 1 - 1)) (52 + M.ld 1) = n
  rw [wput h.ok _ (by omega), if_neg (by omega), e, show (52 : Int) + (s.length + 1) = 53 + s.length by omega]
  exact h.top
theorem Shows.pushM (h : Shows M.C ⟨next, stack, rd, outn, st, cells⟩) (hl : stack.length < 59) (n : Int) : Shows (M.pushM n).C ⟨next, n :: stack, rd, outn, st, cells⟩ := by
  have e : M.ld 1 = stack.length := h.sl
  show Shows (putC (putC M.C 1 (M.ld 1 + 1)) (53 + M.ld 1) n) _
  rw [e]; exact h.push hl n
end
theorem Shows.step {code : List In} {inp : List Int} {b : Be} {x : In} {M : Me} (keep : Bool) (h : Shows M.C b.m) (hk : StepOk code inp b x) (hs : b.m.stack.length < 59) : Shows (M.stepM code inp).C (stepB code inp keep b).m := by
  obtain ⟨⟨next, stack, rd, outn, st, cells⟩, kept, out, wrong⟩ := b
  obtain ⟨hst, hx, hpop, ⟨hcell, hcell2⟩, hgo, hsl, hcl, hcd, hrd, hol, hon⟩ := hk
  simp only at hst hx hpop hcell hcell2 hsl hcl hcd hrd hol hon hs h
  subst hst
  have e0 : M.ld 0 = next := h.nx
  rw [stepB, hx, Me.stepM, e0, Int.toNat_natCast, hx]
  simp only [bump]
  have h1 : Shows (M.put 0 (((next : Nat) : Int) + 1)).C ⟨next + 1, stack, rd, outn, 0, cells⟩ := by
    have := h.put0 (next + 1)
    rw [Int.natCast_add] at this
    exact this
  clear h e0
  generalize M.put 0 (((next : Nat) : Int) + 1) = M at h1
  obtain ⟨op, a, bb, n⟩ := x
  simp only at hpop hcell hcell2 hgo
  clear hx
  by_cases o1 : op = 1
  · subst o1; exact h1.pushM hs n
  by_cases o2 : op = 2
  · subst o2
    obtain ⟨ha0, ha1⟩ := hcell (.inl rfl)
    obtain ⟨a, rfl⟩ : ∃ k : Nat, a = k := ⟨a.toNat, by omega⟩
    have e : M.ld (5 + (a : Int)) = cells.getD a 0 := h1.ce a (by show a < cells.length; omega)
    have := h1.pushM hs (cells.getD a 0)
    rw [← e] at this
    show Shows (M.pushM (M.ld (5 + (a : Int)))).C ⟨next + 1, cells.getD ((a : Int)).toNat 0 :: stack, rd, outn, 0, cells⟩
    rw [Int.toNat_natCast, ← e]; exact this
  by_cases o3 : op = 3
  · subst o3
    obtain ⟨k, s, rfl⟩ : ∃ n s, stack = n :: s := by
      cases stack with
      | nil => simp [popA] at hpop
      | cons n s => exact ⟨n, s, rfl⟩
    obtain ⟨hb0, hb1, hb2⟩ := hcell2 (by decide)
    have ht := h1.topM
    have hp := h1.popM
    by_cases hk : k < 0 ∨ bb ≤ k
    · have e1 : M.doM inp ⟨3, a, bb, n⟩ = M.popM.put 4 13 := by simp [Me.doM, ht, hk]
      have e2 : (doIn inp keep ⟨3, a, bb, n⟩ ⟨⟨next + 1, k :: s, rd, outn, 0, cells⟩, kept, out, wrong⟩) = ⟨⟨next + 1, s, rd, outn, 13, cells⟩, kept, out, wrong⟩ := by simp [doIn, hk]
      rw [e1, e2]; exact hp.put4 13
    · have e1 : M.doM inp ⟨3, a, bb, n⟩ = M.popM.pushM (M.popM.ld (5 + a + k)) := by simp [Me.doM, ht, hk]
      have e2 : (doIn inp keep ⟨3, a, bb, n⟩ ⟨⟨next + 1, k :: s, rd, outn, 0, cells⟩, kept, out, wrong⟩) = ⟨⟨next + 1, cells.getD (a + k).toNat 0 :: s, rd, outn, 0, cells⟩, kept, out, wrong⟩ := by simp [doIn, hk]
      rw [e1, e2]
      obtain ⟨j, hj⟩ : ∃ j : Nat, a + k = j := ⟨(a + k).toNat, by omega⟩
      have e : M.popM.ld (5 + (j : Int)) = cells.getD j 0 := hp.ce j (by show j < cells.length; omega)
      rw [show 5 + a + k = 5 + (j : Int) by omega, hj, Int.toNat_natCast, e]
      exact hp.pushM (by simp only [List.length_cons] at hs; omega) _
  by_cases o4 : 4 ≤ op ∧ op ≤ 8
  · have hp2 : popA op = 2 := by simp only [popA]; rw [if_neg o3, if_pos o4]
    obtain ⟨y, z, s, rfl⟩ : ∃ y z s, stack = y :: z :: s := by
      cases stack with
      | nil => simp [hp2] at hpop
      | cons y s => cases s with
        | nil => simp [hp2] at hpop
        | cons z s => exact ⟨y, z, s, rfl⟩
    have e1 : M.doM inp ⟨op, a, bb, n⟩ = M.popM.popM.pushM (binV op M.popM.topM M.topM) := by
      simp only [Me.doM]; rw [if_neg o1, if_neg o2, if_neg o3, if_pos o4]
    have e2 : (doIn inp keep ⟨op, a, bb, n⟩ ⟨⟨next + 1, y :: z :: s, rd, outn, 0, cells⟩, kept, out, wrong⟩) = ⟨⟨next + 1, binV op z y :: s, rd, outn, 0, cells⟩, kept, out, wrong⟩ := by
      simp only [doIn]; rw [if_neg o1, if_neg o2, if_neg o3, if_pos o4]
    rw [e1, e2, h1.topM, h1.popM.topM]
    exact h1.popM.popM.pushM (by simp only [List.length_cons] at hs; omega) _
  by_cases o9 : op = 9
  · subst o9
    obtain ⟨k, s, rfl⟩ : ∃ n s, stack = n :: s := by
      cases stack with
      | nil => simp [popA] at hpop
      | cons n s => exact ⟨n, s, rfl⟩
    obtain ⟨ha0, ha1⟩ := hcell (by decide)
    obtain ⟨a, rfl⟩ : ∃ k : Nat, a = k := ⟨a.toNat, by omega⟩
    have := h1.popM.putc (a := a) (by omega) k
    show Shows (M.popM.put (5 + (a : Int)) M.topM).C ⟨next + 1, s, rd, outn, 0, cells.set ((a : Int)).toNat k⟩
    rw [Int.toNat_natCast, h1.topM]; exact this
  by_cases o10 : op = 10
  · subst o10
    obtain ⟨y, z, s, rfl⟩ : ∃ y z s, stack = y :: z :: s := by
      cases stack with
      | nil => simp [popA] at hpop
      | cons y s => cases s with
        | nil => simp [popA] at hpop
        | cons z s => exact ⟨y, z, s, rfl⟩
    obtain ⟨hb0, hb1, hb2⟩ := hcell2 (by decide)
    have ht := h1.topM
    have ht2 := h1.popM.topM
    have hp := h1.popM.popM
    by_cases hk : z < 0 ∨ bb ≤ z
    · have e1 : M.doM inp ⟨10, a, bb, n⟩ = M.popM.popM.put 4 13 := by simp [Me.doM, ht2, hk]
      have e2 : (doIn inp keep ⟨10, a, bb, n⟩ ⟨⟨next + 1, y :: z :: s, rd, outn, 0, cells⟩, kept, out, wrong⟩) = ⟨⟨next + 1, s, rd, outn, 13, cells⟩, kept, out, wrong⟩ := by simp [doIn, hk]
      rw [e1, e2]; exact hp.put4 13
    · have e1 : M.doM inp ⟨10, a, bb, n⟩ = M.popM.popM.put (5 + a + z) y := by simp [Me.doM, ht, ht2, hk]
      have e2 : (doIn inp keep ⟨10, a, bb, n⟩ ⟨⟨next + 1, y :: z :: s, rd, outn, 0, cells⟩, kept, out, wrong⟩) = ⟨⟨next + 1, s, rd, outn, 0, cells.set (a + z).toNat y⟩, kept, out, wrong⟩ := by simp [doIn, hk]
      rw [e1, e2]
      obtain ⟨j, hj⟩ : ∃ j : Nat, a + z = j := ⟨(a + z).toNat, by omega⟩
      rw [show 5 + a + z = 5 + (j : Int) by omega, hj, Int.toNat_natCast]
      exact hp.putc (a := j) (by omega) y
  by_cases o11 : op = 11
  · subst o11
    obtain ⟨k, s, rfl⟩ : ∃ n s, stack = n :: s := by
      cases stack with
      | nil => simp [popA] at hpop
      | cons n s => exact ⟨n, s, rfl⟩
    have e : (doIn inp keep ⟨11, a, bb, n⟩ ⟨⟨next + 1, k :: s, rd, outn, 0, cells⟩, kept, out, wrong⟩).m = ⟨next + 1, s, rd, outn + 1, 0, cells⟩ := by
      by_cases hoe : outn = out.length <;> simp [doIn, hoe]
    rw [e]
    have e3 : M.popM.ld 3 = outn := h1.popM.on
    have := h1.popM.put3 (outn + 1)
    rw [Int.natCast_add] at this
    show Shows (M.popM.put 3 (M.popM.ld 3 + 1)).C _
    rw [e3]; exact this
  by_cases o12 : op = 12
  · subst o12
    obtain ⟨ha0, ha1⟩ := hcell (by decide)
    obtain ⟨a, rfl⟩ : ∃ k : Nat, a = k := ⟨a.toNat, by omega⟩
    have e2 : M.ld 2 = rd := h1.rd
    by_cases hr : inp.length ≤ rd
    · have e1 : M.doM inp ⟨12, a, bb, n⟩ = M.put 4 14 := by simp [Me.doM, e2, hr]
      have e3 : (doIn inp keep ⟨12, a, bb, n⟩ ⟨⟨next + 1, stack, rd, outn, 0, cells⟩, kept, out, wrong⟩) = ⟨⟨next + 1, stack, rd, outn, 14, cells⟩, kept, out, wrong⟩ := by simp [doIn, hr]
      rw [e1, e3]; exact h1.put4 14
    · have hr2 : ¬ ((inp.length : Int) ≤ rd) := by omega
      have e1 : M.doM inp ⟨12, a, bb, n⟩ = (M.put 2 (rd + 1)).put (5 + a) (inp.getD rd 0) := by simp [Me.doM, e2, hr]
      have e3 : (doIn inp keep ⟨12, a, bb, n⟩ ⟨⟨next + 1, stack, rd, outn, 0, cells⟩, kept, out, wrong⟩) = ⟨⟨next + 1, stack, rd + 1, outn, 0, cells.set a (inp.getD rd 0)⟩, kept, out, wrong⟩ := by simp [doIn, hr]
      rw [e1, e3]
      have := h1.put2 (rd + 1)
      rw [Int.natCast_add] at this
      exact this.putc (a := a) (by omega) _
  by_cases o13 : op = 13
  · subst o13
    obtain ⟨k, s, rfl⟩ : ∃ n s, stack = n :: s := by
      cases stack with
      | nil => simp [popA] at hpop
      | cons n s => exact ⟨n, s, rfl⟩
    obtain ⟨a, rfl⟩ : ∃ k : Nat, a = k := ⟨a.toNat, by have := hgo (by decide); omega⟩
    have ht := h1.topM
    by_cases hk : k = 0
    · have e1 : M.doM inp ⟨13, a, bb, n⟩ = M.popM.put 0 a := by simp [Me.doM, ht, hk]
      have e2 : (doIn inp keep ⟨13, a, bb, n⟩ ⟨⟨next + 1, k :: s, rd, outn, 0, cells⟩, kept, out, wrong⟩) = ⟨⟨a, s, rd, outn, 0, cells⟩, kept, out, wrong⟩ := by simp [doIn, hk]
      rw [e1, e2]; exact h1.popM.put0 a
    · have e1 : M.doM inp ⟨13, a, bb, n⟩ = M.popM := by simp [Me.doM, ht, hk]
      have e2 : (doIn inp keep ⟨13, a, bb, n⟩ ⟨⟨next + 1, k :: s, rd, outn, 0, cells⟩, kept, out, wrong⟩) = ⟨⟨next + 1, s, rd, outn, 0, cells⟩, kept, out, wrong⟩ := by simp [doIn, hk]
      rw [e1, e2]; exact h1.popM
  by_cases o14 : op = 14
  · subst o14
    obtain ⟨a, rfl⟩ : ∃ k : Nat, a = k := ⟨a.toNat, by have := hgo (by decide); omega⟩
    exact h1.put0 a
  by_cases o15 : op = 15
  · subst o15
    cases keep <;> exact h1
  by_cases o16 : op = 16
  · subst o16
    exact h1.put4 1
  have e1 : M.doM inp ⟨op, a, bb, n⟩ = M := by
    simp only [Me.doM]; rw [if_neg o1, if_neg o2, if_neg o3, if_neg o4, if_neg o9, if_neg o10, if_neg o11, if_neg o12, if_neg o13, if_neg o14, if_neg o15, if_neg o16]
  have e2 : (doIn inp keep ⟨op, a, bb, n⟩ ⟨⟨next + 1, stack, rd, outn, 0, cells⟩, kept, out, wrong⟩) = ⟨⟨next + 1, stack, rd, outn, 0, cells⟩, kept, out, wrong⟩ := by
    simp only [doIn]; rw [if_neg o1, if_neg o2, if_neg o3, if_neg o4, if_neg o9, if_neg o10, if_neg o11, if_neg o12, if_neg o13, if_neg o14, if_neg o15, if_neg o16]
  rw [e1, e2]; exact h1
end Go.Proofs.YtmnmcjdgnpgchaaGreat

namespace Go.Proofs.YtmnmcjdgnpgchaaGreat
open Go X
set_option maxHeartbeats 1000000
def codeP (wrong : Bool) : Int := if wrong then 15 else 0
def Prin (pb : Nat) (out : List Int) (wrong : Bool) : HP := fun m => ∃ x : Option Addr × Nat, True ∧ Sat [blk pb [.slice x.1 out.length x.2, i64 (codeP wrong)] 61, lst 2 1 (.slice x.1 out.length x.2) out.length (ints out)] m
theorem Prin.opn {pb : Nat} {out : List Int} {wrong : Bool} : ∀ m, Prin pb out wrong m → ∃ x : Option Addr × Nat, True ∧ Sat [blk pb [.slice x.1 out.length x.2, i64 (codeP wrong)] 61, lst 2 1 (.slice x.1 out.length x.2) out.length (ints out)] m := fun _ h => h
theorem Prin.mk {pb : Nat} {out : List Int} {wrong : Bool} {p : Option Addr} {c n : Nat} {k : Int} {vs : List Value} (hn : n = out.length) (hk : k = codeP wrong) (hv : vs = ints out) : ∀ m, Sat [blk pb [.slice p n c, i64 k] 61, lst 2 1 (.slice p n c) n vs] m → Prin pb out wrong m := fun _ h => ⟨(p, c), trivial, by subst hn; subst hk; subst hv; exact h⟩
def prS (out : List Int) (wrong : Bool) (a n : Int) : List Int × Bool :=
  if a = out.length then (out ++ [n], wrong) else if a < 0 ∨ (out.length : Int) < a ∨ out.getD a.toNat 0 ≠ n then (out, true) else (out, wrong)
theorem pput_a (σ : PH) (pb : Nat) (out : List Int) (wrong : Bool) (a n : Int) (hl : out.length ≤ 1000000) :
    CallsA Tryz.prog 84 #[ptr pb, i64 a, i64 n] σ [Prin pb out wrong] (RetA fun v σ' Γ' => v = .tuple #[] ∧ σ = σ' ∧ Γ' = [Prin pb (prS out wrong a n).1 (prS out wrong a n).2]) := by
  by_cases h1 : a = out.length
  · have e : prS out wrong a n = (out ++ [n], wrong) := by rw [prS, if_pos h1]
    rw [e]
    have hone : ones [i64 n] := ones_lit rfl
    refine enterA3 Tryz.func84 rfl rfl rfl ?_
    refine XA.block (zS (zR ?_))
    first | refine XA.opn (R := Prin pb out wrong) zL (Prin.opn) ?_ | refine XOA.opn (R := Prin pb out wrong) zL (Prin.opn) ?_ | refine DA.opn (R := Prin pb out wrong) zL (Prin.opn) ?_
    rintro ⟨p, c⟩ -
    first | refine XA.cl ?_ | refine XOA.cl ?_ | refine DA.cl ?_
    refine zA rfl ?_; refine zA rfl ?_; refine zO rfl (Rd.nilCheck rfl) ?_; refine zV rfl rfl ?_; refine zB rfl rfl (tyrow rfl) rfl ?_; refine zO rfl (Rd.lenSlice (tyrow rfl) rfl rfl) ?_; refine zO rfl (Rd.eql rfl rfl) ?_; refine zO rfl Rd.asg ?_
    refine zN (zT (XA.condT rfl (decide_eq_true h1) (zR (zA rfl ?_)))); refine zA rfl ?_; refine zO rfl (Rd.nilCheck rfl) ?_; refine zV rfl rfl ?_; refine zB rfl rfl (tyrow rfl) rfl ?_; refine zA rfl ?_
    refine zw rfl (WrA.bs1 (tyrow rfl) rfl (tyrow rfl)) ?_
    rintro _ _ _ ⟨g20, rfl, rfl, rfl⟩
    refine zw rfl (WrA.ap1 (tyrow rfl) rfl (tyrow rfl) rfl rfl rfl) ?_
    rintro _ _ _ ⟨p21, c21, rfl, rfl, rfl⟩
    refine zO rfl (Rd.nilCheck rfl) ?_; refine zV rfl rfl ?_
    refine zw rfl (WrA.st (tyrow rfl) rfl) ?_
    rintro _ _ _ ⟨rfl, rfl, rfl⟩
    refine zN (DA.inb_normal ?_)
    exact bodyA.normal (ResA.none rfl) (Ent.fold1 zE (Prin.mk (by simp) rfl (by simp [ints]))) ⟨rfl, rfl, rfl⟩
  by_cases h2 : a < 0
  · have e : prS out wrong a n = (out, true) := by rw [prS, if_neg h1, if_pos (.inl h2)]
    rw [e]
    refine enterA3 Tryz.func84 rfl rfl rfl ?_
    refine XA.block (zS (zR ?_))
    first | refine XA.opn (R := Prin pb out wrong) zL (Prin.opn) ?_ | refine XOA.opn (R := Prin pb out wrong) zL (Prin.opn) ?_ | refine DA.opn (R := Prin pb out wrong) zL (Prin.opn) ?_
    rintro ⟨p, c⟩ -
    first | refine XA.cl ?_ | refine XOA.cl ?_ | refine DA.cl ?_
    refine zA rfl ?_; refine zA rfl ?_; refine zO rfl (Rd.nilCheck rfl) ?_; refine zV rfl rfl ?_; refine zB rfl rfl (tyrow rfl) rfl ?_; refine zO rfl (Rd.lenSlice (tyrow rfl) rfl rfl) ?_; refine zO rfl (Rd.eql rfl rfl) ?_; refine zO rfl Rd.asg ?_
    refine zN (zT (XA.condF rfl (decide_eq_false h1) (zS (zR (zA rfl ?_))))); refine zO rfl (Rd.lss rfl rfl) ?_; refine zA rfl ?_
    first | (refine zG ?_; refine zA rfl ?_) | refine zH ?_
    first | (refine zG ?_; refine zA rfl ?_) | refine zH ?_
    first | (refine zG ?_; refine zO rfl (Rd.nilCheck rfl) ?_) | refine zH ?_
    first | (refine zG ?_; refine zV rfl rfl ?_) | refine zH ?_
    first | (refine zG ?_; refine zB rfl rfl (tyrow rfl) rfl ?_) | refine zH ?_
    first | (refine zG ?_; refine zO rfl (Rd.lenSlice (tyrow rfl) rfl rfl) ?_) | refine zH ?_
    first | (refine zG ?_; refine zO rfl (Rd.gtr rfl rfl) ?_) | refine zH ?_
    refine zO rfl zP ?_; refine zA rfl ?_
    first | (refine zG ?_; refine zA rfl ?_) | refine zH ?_
    first | (refine zG ?_; refine zO rfl (Rd.nilCheck rfl) ?_) | refine zH ?_
    first | (refine zG ?_; refine zV rfl rfl ?_) | refine zH ?_
    first | (refine zG ?_; refine zB rfl rfl (tyrow rfl) rfl ?_) | refine zH ?_
    first | (refine zG ?_; refine zA rfl ?_) | refine zH ?_
    first | (refine zG ?_; refine zO rfl (Rd.ixS rfl rfl) ?_) | refine zH ?_
    first | (refine zG ?_; refine zB rfl rfl (tyrow rfl) rfl ?_) | refine zH ?_
    first | (refine zG ?_; refine zA rfl ?_) | refine zH ?_
    first | (refine zG ?_; refine zO rfl (Rd.neq rfl rfl) ?_) | refine zH ?_
    refine zO rfl zP ?_; refine zO rfl Rd.asg ?_; refine zN (zT (XA.condT rfl (by first | rfl | exact decide_eq_true h2) ?_)); refine zR (zA rfl ?_); refine zO rfl (Rd.nilCheck rfl) ?_; refine zV rfl rfl ?_
    refine zw rfl (WrA.st (tyrow rfl) rfl) ?_
    rintro _ _ _ ⟨rfl, rfl, rfl⟩
    refine zN (DA.inb_normal ?_)
    exact bodyA.normal (ResA.none rfl) (Ent.fold1 zE (Prin.mk rfl rfl rfl)) ⟨rfl, rfl, rfl⟩
  by_cases h3 : (out.length : Int) < a
  · have e : prS out wrong a n = (out, true) := by rw [prS, if_neg h1, if_pos (.inr (.inl h3))]
    rw [e]
    refine enterA3 Tryz.func84 rfl rfl rfl ?_
    refine XA.block (zS (zR ?_))
    first | refine XA.opn (R := Prin pb out wrong) zL (Prin.opn) ?_ | refine XOA.opn (R := Prin pb out wrong) zL (Prin.opn) ?_ | refine DA.opn (R := Prin pb out wrong) zL (Prin.opn) ?_
    rintro ⟨p, c⟩ -
    first | refine XA.cl ?_ | refine XOA.cl ?_ | refine DA.cl ?_
    refine zA rfl ?_; refine zA rfl ?_; refine zO rfl (Rd.nilCheck rfl) ?_; refine zV rfl rfl ?_; refine zB rfl rfl (tyrow rfl) rfl ?_; refine zO rfl (Rd.lenSlice (tyrow rfl) rfl rfl) ?_; refine zO rfl (Rd.eql rfl rfl) ?_; refine zO rfl Rd.asg ?_
    refine zN (zT (XA.condF rfl (decide_eq_false h1) (zS (zR (zA rfl ?_))))); refine zO rfl (Rd.lss rfl rfl) ?_; refine zA rfl ?_
    first | (refine zG ?_; refine zA rfl ?_) | refine zH ?_
    first | (refine zG ?_; refine zA rfl ?_) | refine zH ?_
    first | (refine zG ?_; refine zO rfl (Rd.nilCheck rfl) ?_) | refine zH ?_
    first | (refine zG ?_; refine zV rfl rfl ?_) | refine zH ?_
    first | (refine zG ?_; refine zB rfl rfl (tyrow rfl) rfl ?_) | refine zH ?_
    first | (refine zG ?_; refine zO rfl (Rd.lenSlice (tyrow rfl) rfl rfl) ?_) | refine zH ?_
    first | (refine zG ?_; refine zO rfl (Rd.gtr rfl rfl) ?_) | refine zH ?_
    refine zO rfl zP ?_; refine zA rfl ?_
    first | (refine zG ?_; refine zA rfl ?_) | refine zH ?_
    first | (refine zG ?_; refine zO rfl (Rd.nilCheck rfl) ?_) | refine zH ?_
    first | (refine zG ?_; refine zV rfl rfl ?_) | refine zH ?_
    first | (refine zG ?_; refine zB rfl rfl (tyrow rfl) rfl ?_) | refine zH ?_
    first | (refine zG ?_; refine zA rfl ?_) | refine zH ?_
    first | (refine zG ?_; refine zO rfl (Rd.ixS rfl rfl) ?_) | refine zH ?_
    first | (refine zG ?_; refine zB rfl rfl (tyrow rfl) rfl ?_) | refine zH ?_
    first | (refine zG ?_; refine zA rfl ?_) | refine zH ?_
    first | (refine zG ?_; refine zO rfl (Rd.neq rfl rfl) ?_) | refine zH ?_
    refine zO rfl zP ?_; refine zO rfl Rd.asg ?_; refine zN (zT (XA.condT rfl (by first | rfl | exact decide_eq_true h3) ?_)); refine zR (zA rfl ?_); refine zO rfl (Rd.nilCheck rfl) ?_; refine zV rfl rfl ?_
    refine zw rfl (WrA.st (tyrow rfl) rfl) ?_
    rintro _ _ _ ⟨rfl, rfl, rfl⟩
    refine zN (DA.inb_normal ?_)
    exact bodyA.normal (ResA.none rfl) (Ent.fold1 zE (Prin.mk rfl rfl rfl)) ⟨rfl, rfl, rfl⟩
  obtain ⟨k, rfl⟩ : ∃ k : Nat, a = k := ⟨a.toNat, by omega⟩
  have hk : k < out.length := by omega
  obtain ⟨y, hy⟩ : ∃ y, y = out.getD k 0 := ⟨_, rfl⟩
  have hv : (ints out)[k]? = some (i64 y) := by rw [hy]; simp [ints, hk]
  by_cases h4 : y = n
  · have e : prS out wrong k n = (out, wrong) := by
      rw [prS, if_neg h1, if_neg]
      rw [Int.toNat_natCast, ← hy]
      rintro (h | h | h)
      · exact h2 h
      · exact h3 h
      · exact h h4
    rw [e]
    refine enterA3 Tryz.func84 rfl rfl rfl ?_
    refine XA.block (zS (zR ?_))
    first | refine XA.opn (R := Prin pb out wrong) zL (Prin.opn) ?_ | refine XOA.opn (R := Prin pb out wrong) zL (Prin.opn) ?_ | refine DA.opn (R := Prin pb out wrong) zL (Prin.opn) ?_
    rintro ⟨p, c⟩ -
    first | refine XA.cl ?_ | refine XOA.cl ?_ | refine DA.cl ?_
    first | refine XA.opn (R := lst 2 1 (.slice p out.length c) _ _) zL (lst_some (by omega)) ?_ | refine XOA.opn (R := lst 2 1 (.slice p out.length c) _ _) zL (lst_some (by omega)) ?_ | refine DA.opn (R := lst 2 1 (.slice p out.length c) _ _) zL (lst_some (by omega)) ?_
    rintro g70 rfl
    first | refine XA.cl ?_ | refine XOA.cl ?_ | refine DA.cl ?_
    refine zA rfl ?_; refine zA rfl ?_; refine zO rfl (Rd.nilCheck rfl) ?_; refine zV rfl rfl ?_; refine zB rfl rfl (tyrow rfl) rfl ?_; refine zO rfl (Rd.lenSlice (tyrow rfl) rfl rfl) ?_; refine zO rfl (Rd.eql rfl rfl) ?_; refine zO rfl Rd.asg ?_
    refine zN (zT (XA.condF rfl (decide_eq_false h1) (zS (zR (zA rfl ?_))))); refine zO rfl (Rd.lss rfl rfl) ?_; refine zA rfl ?_
    first | (refine zG ?_; refine zA rfl ?_) | refine zH ?_
    first | (refine zG ?_; refine zA rfl ?_) | refine zH ?_
    first | (refine zG ?_; refine zO rfl (Rd.nilCheck rfl) ?_) | refine zH ?_
    first | (refine zG ?_; refine zV rfl rfl ?_) | refine zH ?_
    first | (refine zG ?_; refine zB rfl rfl (tyrow rfl) rfl ?_) | refine zH ?_
    first | (refine zG ?_; refine zO rfl (Rd.lenSlice (tyrow rfl) rfl rfl) ?_) | refine zH ?_
    first | (refine zG ?_; refine zO rfl (Rd.gtr rfl rfl) ?_) | refine zH ?_
    refine zO rfl zP ?_; refine zA rfl ?_
    first | (refine zG ?_; refine zA rfl ?_) | refine zH ?_
    first | (refine zG ?_; refine zO rfl (Rd.nilCheck rfl) ?_) | refine zH ?_
    first | (refine zG ?_; refine zV rfl rfl ?_) | refine zH ?_
    first | (refine zG ?_; refine zB rfl rfl (tyrow rfl) rfl ?_) | refine zH ?_
    first | (refine zG ?_; refine zA rfl ?_) | refine zH ?_
    first | (refine zG ?_; refine zO rfl (Rd.ixS rfl rfl) ?_) | refine zH ?_
    first | (refine zG ?_; refine zB rfl rfl (tyrow rfl) rfl ?_) | refine zH ?_
    first | (refine zG ?_; refine zA rfl ?_) | refine zH ?_
    first | (refine zG ?_; refine zO rfl (Rd.neq rfl rfl) ?_) | refine zH ?_
    refine zO rfl zP ?_; refine zO rfl Rd.asg ?_; refine zN (zT ?_)
    refine XA.condF rfl (decide_eq_false (fun h => h h4)) ?_
    refine XA.skip (DA.inb_normal ?_)
    exact bodyA.normal (ResA.none rfl) (Ent.fold1 zE (Prin.mk rfl rfl rfl)) ⟨rfl, rfl, rfl⟩
  have e : prS out wrong k n = (out, true) := by
    rw [prS, if_neg h1, if_pos (.inr (.inr (by rw [Int.toNat_natCast, ← hy]; exact h4)))]
  rw [e]
  refine enterA3 Tryz.func84 rfl rfl rfl ?_
  refine XA.block (zS (zR ?_))
  first | refine XA.opn (R := Prin pb out wrong) zL (Prin.opn) ?_ | refine XOA.opn (R := Prin pb out wrong) zL (Prin.opn) ?_ | refine DA.opn (R := Prin pb out wrong) zL (Prin.opn) ?_
  rintro ⟨p, c⟩ -
  first | refine XA.cl ?_ | refine XOA.cl ?_ | refine DA.cl ?_
  first | refine XA.opn (R := lst 2 1 (.slice p out.length c) _ _) zL (lst_some (by omega)) ?_ | refine XOA.opn (R := lst 2 1 (.slice p out.length c) _ _) zL (lst_some (by omega)) ?_ | refine DA.opn (R := lst 2 1 (.slice p out.length c) _ _) zL (lst_some (by omega)) ?_
  rintro g70 rfl
  first | refine XA.cl ?_ | refine XOA.cl ?_ | refine DA.cl ?_
  refine zA rfl ?_; refine zA rfl ?_; refine zO rfl (Rd.nilCheck rfl) ?_; refine zV rfl rfl ?_; refine zB rfl rfl (tyrow rfl) rfl ?_; refine zO rfl (Rd.lenSlice (tyrow rfl) rfl rfl) ?_; refine zO rfl (Rd.eql rfl rfl) ?_; refine zO rfl Rd.asg ?_
  refine zN (zT (XA.condF rfl (decide_eq_false h1) (zS (zR (zA rfl ?_))))); refine zO rfl (Rd.lss rfl rfl) ?_; refine zA rfl ?_
  first | (refine zG ?_; refine zA rfl ?_) | refine zH ?_
  first | (refine zG ?_; refine zA rfl ?_) | refine zH ?_
  first | (refine zG ?_; refine zO rfl (Rd.nilCheck rfl) ?_) | refine zH ?_
  first | (refine zG ?_; refine zV rfl rfl ?_) | refine zH ?_
  first | (refine zG ?_; refine zB rfl rfl (tyrow rfl) rfl ?_) | refine zH ?_
  first | (refine zG ?_; refine zO rfl (Rd.lenSlice (tyrow rfl) rfl rfl) ?_) | refine zH ?_
  first | (refine zG ?_; refine zO rfl (Rd.gtr rfl rfl) ?_) | refine zH ?_
  refine zO rfl zP ?_; refine zA rfl ?_
  first | (refine zG ?_; refine zA rfl ?_) | refine zH ?_
  first | (refine zG ?_; refine zO rfl (Rd.nilCheck rfl) ?_) | refine zH ?_
  first | (refine zG ?_; refine zV rfl rfl ?_) | refine zH ?_
  first | (refine zG ?_; refine zB rfl rfl (tyrow rfl) rfl ?_) | refine zH ?_
  first | (refine zG ?_; refine zA rfl ?_) | refine zH ?_
  first | (refine zG ?_; refine zO rfl (Rd.ixS rfl rfl) ?_) | refine zH ?_
  first | (refine zG ?_; refine zB rfl rfl (tyrow rfl) rfl ?_) | refine zH ?_
  first | (refine zG ?_; refine zA rfl ?_) | refine zH ?_
  first | (refine zG ?_; refine zO rfl (Rd.neq rfl rfl) ?_) | refine zH ?_
  refine zO rfl zP ?_; refine zO rfl Rd.asg ?_; refine zN (zT (XA.condT rfl (decide_eq_true h4) (zR (zA rfl ?_)))); refine zO rfl (Rd.nilCheck rfl) ?_; refine zV rfl rfl ?_
  refine zw rfl (WrA.st (tyrow rfl) rfl) ?_
  rintro _ _ _ ⟨rfl, rfl, rfl⟩
  refine zN (DA.inb_normal ?_)
  exact bodyA.normal (ResA.none rfl) (Ent.fold1 zE (Prin.mk rfl rfl rfl)) ⟨rfl, rfl, rfl⟩
theorem cloneP_a (σ : PH) (v : Value) (xs : List Int) (hv : PInts σ v xs) (hl : xs.length ≤ 1000000) :
    CallsA Tryz.prog 25 #[v] σ [] (RetA fun v' σ' Γ' => ∃ p c, v' = .slice p xs.length c ∧ σ = σ' ∧ Γ' = [lst 2 1 (.slice p xs.length c) xs.length (ints xs)]) := by
  obtain ⟨q, cq, rfl, hle, hmx⟩ := hv.shape
  have hxl : (ints xs).length = xs.length * 1 := by simp [ints]
  have hone : ones (ints xs) := ones_ints _
  cases q with
  | none =>
    obtain rfl : xs = [] := by
      cases xs with
      | nil => rfl
      | cons x l => obtain ⟨g, o, e, -⟩ := hv.at (show (x :: l)[0]? = some x from rfl); cases e
    refine enterA1 Tryz.func25 rfl rfl rfl ?_
    refine zS (zR (zO rfl Rd.asg ?_)); refine zN (zT (zS (zS (zR (zA rfl ?_))))); refine zO rfl (Rd.eqlNil (tyrow rfl) rfl rfl) ?_; refine zN (zT (XA.condT rfl rfl (zS (zR (zO rfl Rd.asg ?_))))); refine zN (zT (XA.ret (DA.thn_ret ?_)))
    exact bodyA.ret (ResA.one rfl rfl) (Ent.selNil (e := 2) (size := 1) (Ent.nil _)) ⟨none, 0, rfl, rfl, rfl⟩
  | some a =>
    cases xs with
    | nil =>
      refine enterA1 Tryz.func25 rfl rfl rfl ?_
      refine zS (zR (zO rfl Rd.asg ?_)); refine zN (zT (zS (zS (zR (zA rfl ?_))))); refine zO rfl (Rd.eqlNil (tyrow rfl) rfl rfl) ?_; refine zN (zT (XA.condF rfl rfl (XA.skip (zT (zS (zR ?_))))))
      refine zw rfl (WrA.bs (fun _ _ => tyrow) rfl rfl rfl rfl rfl) ?_
      rintro _ _ _ ⟨g5, rfl, rfl, rfl⟩
      refine zA rfl ?_
      refine zw rfl (Rd.toW (Rd.appendNone (tyrow rfl) rfl (tyrow rfl) rfl rfl (Nat.le_refl _))) ?_
      rintro _ _ _ ⟨rfl, rfl, rfl⟩
      refine zO rfl Rd.asg ?_; refine zN (zT (XA.ret ?_))
      exact bodyA.ret (ResA.one rfl rfl) (Ent.selImp (R := blk g5 _ _) zL (fun m h => lst_empty h (by simp) (by simp [maxLen])) zE) ⟨_, _, rfl, rfl, rfl⟩
    | cons x l =>
      obtain ⟨p', c', e1, e2, e3, e4⟩ := hv
      simp only [Value.slice.injEq] at e1
      obtain ⟨rfl, -, rfl⟩ := e1
      obtain ⟨g, o, e, hr⟩ := e4 (by simp)
      cases e
      refine enterA1 Tryz.func25 rfl rfl rfl ?_
      refine zS (zR (zO rfl Rd.asg ?_)); refine zN (zT (zS (zS (zR (zA rfl ?_))))); refine zO rfl (Rd.eqlNil (tyrow rfl) rfl rfl) ?_; refine zN (zT (XA.condF rfl rfl (XA.skip (zT (zS (zR ?_))))))
      refine zw rfl (WrA.bs (fun _ _ => tyrow) rfl rfl rfl rfl rfl) ?_
      rintro _ _ _ ⟨g5, rfl, rfl, rfl⟩
      refine zA rfl ?_
      refine XOA.ent (Δ := [lst 2 1 (.slice (some ⟨g5, 0, none⟩) 0 0) 0 []]) (Ent.selImp (R := blk g5 _ _) zL (fun m h => lst_empty h (by simp) (by simp [maxLen])) zE) ?_
      refine zw rfl (WrA.append (tyrow rfl) rfl (tyrow rfl) rfl rfl zL rfl (At.per hr) hxl hone (by simp) (by simp only [maxLen]; omega) (by simp only; omega)) ?_
      rintro _ _ _ ⟨p, c', rfl, rfl, rfl⟩
      refine zO rfl Rd.asg ?_; refine zN (zT (XA.ret ?_))
      rw [Nat.zero_add]
      exact bodyA.ret (ResA.one rfl rfl) zE ⟨_, _, rfl, rfl, rfl⟩
theorem cloneL_a (σ : PH) (q : Option Addr) (n cq : Nat) (xs : List Int) (hn : xs.length = n) (hl : n ≤ 1000000) :
    CallsA Tryz.prog 25 #[.slice q n cq] σ [lst 2 1 (.slice q n cq) n (ints xs)] (RetA fun v' σ' Γ' => ∃ p c, v' = .slice p n c ∧ σ = σ' ∧ Γ' = [lst 2 1 (.slice q n cq) n (ints xs), lst 2 1 (.slice p n c) n (ints xs)]) := by
  subst hn
  have hxl : (ints xs).length = xs.length * 1 := by simp [ints]
  have hone : ones (ints xs) := ones_ints _
  by_cases h0 : xs = []
  · subst h0
    cases q with
    | none =>
      refine enterA1 Tryz.func25 rfl rfl rfl ?_
      refine zS (zR (zO rfl Rd.asg ?_)); refine zN (zT (zS (zS (zR (zA rfl ?_))))); refine zO rfl (Rd.eqlNil (tyrow rfl) rfl rfl) ?_; refine zN (zT (XA.condT rfl rfl (zS (zR (zO rfl Rd.asg ?_))))); refine zN (zT (XA.ret (DA.thn_ret ?_)))
      exact bodyA.ret (ResA.one rfl rfl) (Ent.sel .head (Ent.selNil (e := 2) (size := 1) (Ent.nil _))) ⟨none, 0, rfl, rfl, rfl⟩
    | some a =>
      refine enterA1 Tryz.func25 rfl rfl rfl ?_
      refine zS (zR (zO rfl Rd.asg ?_)); refine zN (zT (zS (zS (zR (zA rfl ?_))))); refine zO rfl (Rd.eqlNil (tyrow rfl) rfl rfl) ?_; refine zN (zT (XA.condF rfl rfl (XA.skip (zT (zS (zR ?_))))))
      refine zw rfl (WrA.bs (fun _ _ => tyrow) rfl rfl rfl rfl rfl) ?_
      rintro _ _ _ ⟨g5, rfl, rfl, rfl⟩
      refine zA rfl ?_
      refine XOA.ent (Δ := [lst 2 1 (.slice (some ⟨g5, 0, none⟩) 0 0) 0 [], lst 2 1 (.slice (some a) 0 cq) 0 (ints [])]) (Ent.selImp (R := blk g5 _ _) zL (fun m h => lst_empty h (by simp) (by simp [maxLen])) zE) ?_
      refine zw rfl (Rd.toW (Rd.appendNone (tyrow rfl) rfl (tyrow rfl) rfl rfl (Nat.le_refl _))) ?_
      rintro _ _ _ ⟨rfl, rfl, rfl⟩
      refine zO rfl Rd.asg ?_; refine zN (zT (XA.ret ?_))
      exact bodyA.ret (ResA.one rfl rfl) zE ⟨_, _, rfl, rfl, rfl⟩
  have hpos : 0 < xs.length := List.length_pos_iff.2 h0
  refine CallsA.opn .head (lst_some hpos) (enters Tryz.func25 rfl rfl) ?_
  rintro g rfl
  refine enterA1 Tryz.func25 rfl rfl rfl ?_
  refine zS (zR (zO rfl Rd.asg ?_)); refine zN (zT (zS (zS (zR (zA rfl ?_))))); refine zO rfl (Rd.eqlNil (tyrow rfl) rfl rfl) ?_; refine zN (zT (XA.condF rfl rfl (XA.skip (zT (zS (zR ?_))))))
  refine zw rfl (WrA.bs (fun _ _ => tyrow) rfl rfl rfl rfl rfl) ?_
  rintro _ _ _ ⟨g5, rfl, rfl, rfl⟩
  refine zA rfl ?_
  refine XOA.ent (Δ := [lst 2 1 (.slice (some ⟨g5, 0, none⟩) 0 0) 0 [], lst 2 1 (.slice (some ⟨g, 0, none⟩) xs.length cq) xs.length (ints xs)]) (Ent.selImp (R := blk g5 _ _) zL (fun m h => lst_empty h (by simp) (by simp [maxLen])) zE) ?_
  refine zw rfl (WrA.append (tyrow rfl) rfl (tyrow rfl) rfl rfl zL rfl (At.lst zL (by simp; exact List.take_of_length_le (by simp [ints]))) hxl hone hpos (by simp only [maxLen]; omega) (by simp only; omega)) ?_
  rintro _ _ _ ⟨p, c', rfl, rfl, rfl⟩
  refine zO rfl Rd.asg ?_; refine zN (zT (XA.ret ?_))
  rw [Nat.zero_add]
  exact bodyA.ret (ResA.one rfl rfl) zE ⟨_, _, rfl, rfl, rfl⟩
theorem plist_a (σ : PH) (pb : Nat) (out : List Int) (wrong : Bool) (hl : out.length ≤ 1000000) :
    CallsA Tryz.prog 67 #[ptr pb] σ [Prin pb out wrong] (RetA fun v σ' Γ' => ∃ p c, v = .slice p out.length c ∧ σ = σ' ∧ Γ' = [Prin pb out wrong, lst 2 1 (.slice p out.length c) out.length (ints out)]) := by
  refine enterA1 Tryz.func67 rfl rfl rfl ?_
  refine zS (zR (zO rfl Rd.asg ?_)); refine zN (zT (zS (zR ?_)))
  first | refine XA.opn (R := Prin pb out wrong) zL (Prin.opn) ?_ | refine XOA.opn (R := Prin pb out wrong) zL (Prin.opn) ?_ | refine DA.opn (R := Prin pb out wrong) zL (Prin.opn) ?_
  rintro ⟨q, cq⟩ -
  first | refine XA.cl ?_ | refine XOA.cl ?_ | refine DA.cl ?_
  refine zA rfl ?_; refine zO rfl (Rd.nilCheck rfl) ?_; refine zV rfl rfl ?_; refine zB rfl rfl (tyrow rfl) rfl ?_
  refine zw rfl (WrA.cE (cloneL_a σ q out.length cq out rfl hl) rfl) ?_
  rintro _ _ _ ⟨_, ⟨p, c, rfl, rfl, rfl⟩, rfl⟩
  refine XOA.cl ?_; refine zO rfl Rd.asg ?_; refine zN (zT (XA.ret ?_))
  exact bodyA.ret (ResA.one rfl rfl) (Ent.foldC (Θ := [_, _]) zD (Prin.mk rfl rfl rfl) zE) ⟨p, c, rfl, rfl, rfl⟩
end Go.Proofs.YtmnmcjdgnpgchaaGreat

namespace Go.Proofs.YtmnmcjdgnpgchaaGreat
open Go X
set_option maxHeartbeats 1000000
section
variable (σ : PH) (g mb sb db pb : Nat) (cv iv : Value) (left : Int) (torn : Bool) (d : DiskS) (s : StS) (M : Me)
theorem add_m (a n : Int) :
    CallsA Tryz.prog 80 #[ptr g, i64 a, i64 n] σ [blk g [ptr mb, cv, iv, ptr pb, i64 left, .bool torn] 129, Wld mb sb db d s M] (RetA fun v σ' Γ' => v = i64 (M.ld a) ∧ σ = σ' ∧ Γ' = [blk g [ptr mb, cv, iv, ptr pb, i64 left, .bool torn] 129, Wld mb sb db d s (M.put a (IntKind.i64.wrap (M.ld a + n)))]) := by
  refine enterA3 Tryz.func80 rfl rfl rfl ?_
  refine zS (zR (zO rfl Rd.asg ?_)); refine zN (zT (zS (zR (zA rfl ?_)))); refine zO rfl (Rd.nilCheck rfl) ?_; refine zV rfl rfl ?_; refine zB rfl rfl (tyrow rfl) rfl ?_; refine zA rfl ?_
  refine zw rfl (WrA.cE (load_w σ mb sb db d s M a) rfl) ?_
  rintro _ _ _ ⟨_, ⟨rfl, rfl, rfl⟩, rfl⟩
  refine XOA.cl ?_; refine zO rfl Rd.asg ?_; refine zN (zT (zS (zR (zA rfl ?_)))); refine zO rfl (Rd.nilCheck rfl) ?_; refine zV rfl rfl ?_; refine zB rfl rfl (tyrow rfl) rfl ?_; refine zA rfl ?_; refine zA rfl ?_; refine zA rfl ?_; refine zO rfl zI ?_
  refine zw rfl (WrA.cE (put_w σ mb sb db d s M a (IntKind.i64.wrap (M.ld a + n))) rfl) ?_
  rintro _ _ _ ⟨_, ⟨rfl, rfl, rfl⟩, rfl⟩
  refine XOA.cl ?_; refine zN (zT (zS (zR (zA rfl ?_)))); refine zO rfl Rd.asg ?_; refine zN (zT (XA.ret ?_))
  exact bodyA.ret (ResA.one rfl rfl) zE ⟨rfl, rfl, rfl⟩
theorem stop_m (n : Int) :
    CallsA Tryz.prog 87 #[ptr g, i64 n] σ [blk g [ptr mb, cv, iv, ptr pb, i64 left, .bool torn] 129, Wld mb sb db d s M] (RetA fun v σ' Γ' => v = .tuple #[] ∧ σ = σ' ∧ Γ' = [blk g [ptr mb, cv, iv, ptr pb, i64 left, .bool torn] 129, Wld mb sb db d s (M.put 4 n)]) := by
  refine enterA2 Tryz.func87 rfl rfl rfl ?_
  refine zR (zA rfl ?_); refine zO rfl (Rd.nilCheck rfl) ?_; refine zV rfl rfl ?_; refine zB rfl rfl (tyrow rfl) rfl ?_; refine zA rfl ?_
  refine zw rfl (WrA.cE (put_w σ mb sb db d s M 4 n) rfl) ?_
  rintro _ _ _ ⟨_, ⟨rfl, rfl, rfl⟩, rfl⟩
  refine XOA.cl ?_; refine zN ?_
  exact bodyA.normal (ResA.none rfl) zE ⟨rfl, rfl, rfl⟩
theorem flag_m (b : Bool) : CallsA Tryz.prog 102 #[.bool b] σ [] (RetA fun v σ' Γ' => v = i64 (if b then 1 else 0) ∧ σ = σ' ∧ Γ' = []) := by
  cases b with
  | true =>
    refine enterA1 Tryz.func102 rfl rfl rfl ?_
    refine zS (zR (zO rfl Rd.asg ?_)); refine zN (zT (zS (zS (zR (zA rfl ?_))))); refine zN (zT (XA.condT rfl rfl (zS (zR (zO rfl Rd.asg ?_))))); refine zN (zT (XA.ret (DA.thn_ret ?_)))
    exact bodyA.ret (ResA.one rfl rfl) zE ⟨rfl, rfl, rfl⟩
  | false =>
    refine enterA1 Tryz.func102 rfl rfl rfl ?_
    refine zS (zR (zO rfl Rd.asg ?_)); refine zN (zT (zS (zS (zR (zA rfl ?_))))); refine zN (zT (XA.condF rfl rfl (XA.skip (zT (zS (zR (zO rfl Rd.asg ?_))))))); refine zN (zT (XA.ret ?_))
    exact bodyA.ret (ResA.one rfl rfl) zE ⟨rfl, rfl, rfl⟩
variable {next rd outn : Nat} {stack cells : List Int} {st : Int}
theorem push_m (h : Shows M.C ⟨next, stack, rd, outn, st, cells⟩) (hl : stack.length < 59) (n : Int) :
    CallsA Tryz.prog 81 #[ptr g, i64 n] σ [blk g [ptr mb, cv, iv, ptr pb, i64 left, .bool torn] 129, Wld mb sb db d s M] (RetA fun v σ' Γ' => v = .tuple #[] ∧ σ = σ' ∧ Γ' = [blk g [ptr mb, cv, iv, ptr pb, i64 left, .bool torn] 129, Wld mb sb db d s (M.pushM n)]) := by
  have e : M.ld 1 = stack.length := h.sl
  have hadd := add_m σ g mb sb db pb cv iv left torn d s M 1 1
  rw [X.wrap64_in (by omega) (by omega)] at hadd
  have hv2 : IntKind.i64.wrap (53 + M.ld 1) = 53 + M.ld 1 := X.wrap64_in (by omega) (by omega)
  refine enterA2 Tryz.func81 rfl rfl rfl ?_
  refine XA.draw (by kernel_rfl) _ _ [8] [(0, .pu), (1, .pu), (2, .pu), (3, .rd), (4, .pu), (7, .pu), (5, .wr), (6, .pu), (8, .wr)] (by kernel_rfl) (PH.sub.refl _) (Ent.sel (R := blk g _ _) zL (Ent.nil _)) ?_
  refine zu rfl rfl Rd.mv ?_; refine zu rfl rfl (Rd.nilCheck rfl) ?_; refine zu rfl rfl (Rd.fA rfl) ?_; refine XPA.rd rfl rfl Gd.free (Rd.ldC rfl (tyrow rfl) rfl) ?_; refine zu rfl rfl Rd.mv ?_; refine zu rfl rfl Rd.mv ?_
  refine XPA.wr0 rfl rfl Gd.free (WrA.cE (hadd) rfl) ?_
  rintro _ _ _ ⟨_, ⟨rfl, rfl, rfl⟩, rfl⟩
  refine stays (XPA.cl ?_)
  refine zu rfl rfl zI ?_
  refine XPA.wrZ0 rfl rfl Gd.free (by kernel_rfl) (WrA.cE (put_w σ mb sb db d s (M.put 1 (M.ld 1 + 1)) (53 + M.ld 1) n) rfl) ?_
  rintro _ _ _ ⟨_, ⟨rfl, rfl, rfl⟩, rfl⟩
  refine XPA.cl ?_; refine XPA.nil ?_
  exact bodyA.normal (ResA.none rfl) zE ⟨rfl, rfl, rfl⟩
theorem pop_m {n : Int} {l : List Int} (h : Shows M.C ⟨next, n :: l, rd, outn, st, cells⟩) :
    CallsA Tryz.prog 83 #[ptr g] σ [blk g [ptr mb, cv, iv, ptr pb, i64 left, .bool torn] 129, Wld mb sb db d s M] (RetA fun v σ' Γ' => v = i64 n ∧ σ = σ' ∧ Γ' = [blk g [ptr mb, cv, iv, ptr pb, i64 left, .bool torn] 129, Wld mb sb db d s M.popM]) := by
  have e : M.ld 1 = l.length + 1 := by rw [Me.ld, h.sl]; simp
  have hl := h.ls
  simp only [List.length_cons] at hl
  have hadd := add_m σ g mb sb db pb cv iv left torn d s M 1 (-1)
  rw [X.wrap64_in (by omega) (by omega), show M.ld 1 + -1 = M.ld 1 - 1 by omega] at hadd
  have hv2 : IntKind.i64.wrap (53 + M.ld 1) = 53 + M.ld 1 := X.wrap64_in (by omega) (by omega)
  have hv3 : IntKind.i64.wrap (53 + M.ld 1 - 1) = 53 + M.ld 1 - 1 := X.wrap64_in (by omega) (by omega)
  have ht := h.topM
  refine enterA1 Tryz.func83 rfl rfl rfl ?_
  refine zS (zR (zO rfl Rd.asg ?_)); refine zN (zT (zS ?_))
  refine XA.draw (by kernel_rfl) _ _ [8] [(0, .pu), (1, .pu), (2, .pu), (3, .rd), (4, .pu), (5, .wr), (6, .pu), (7, .pu), (8, .wr), (9, .pu)] (by kernel_rfl) (PH.sub.refl _) (Ent.sel (R := blk g _ _) zL (Ent.nil _)) ?_
  refine zu rfl rfl Rd.mv ?_; refine zu rfl rfl (Rd.nilCheck rfl) ?_; refine zu rfl rfl (Rd.fA rfl) ?_; refine XPA.rd rfl rfl Gd.free (Rd.ldC rfl (tyrow rfl) rfl) ?_; refine zu rfl rfl Rd.mv ?_
  refine XPA.wr0 rfl rfl Gd.free (WrA.cE (hadd) rfl) ?_
  rintro _ _ _ ⟨_, ⟨rfl, rfl, rfl⟩, rfl⟩
  refine stays (XPA.cl ?_)
  refine zu rfl rfl zI ?_; refine zu rfl rfl (by first | exact Rd.sbi rfl rfl | exact Rd.sub rfl rfl) ?_
  rw [show 53 + M.ld 1 - 1 = 52 + M.ld 1 by omega]
  refine XPA.wrZ0 rfl rfl Gd.free (by kernel_rfl) (WrA.cE (load_w σ mb sb db d s M.popM (52 + M.ld 1)) rfl) ?_
  rintro _ _ _ ⟨_, ⟨rfl, rfl, rfl⟩, rfl⟩
  refine XPA.cl ?_; refine zu rfl rfl Rd.asg ?_; refine XPA.nil ?_; refine zT (XA.ret ?_)
  exact bodyA.ret (ResA.one rfl rfl) zE ⟨congrArg i64 ht, rfl, rfl⟩
end
end Go.Proofs.YtmnmcjdgnpgchaaGreat

namespace Go.Proofs.YtmnmcjdgnpgchaaGreat
open Go X
set_option maxHeartbeats 1000000
section
variable (σ : PH) (g mb sb db pb : Nat) (cv iv : Value) (left : Int) (torn : Bool) (d : DiskS) (s : StS) (M : Me)
variable {next rd outn : Nat} {stack cells : List Int} {st : Int}
theorem two_m {y z : Int} {l : List Int} (op : Int) (ho : 4 ≤ op ∧ op ≤ 8) (h : Shows M.C ⟨next, y :: z :: l, rd, outn, st, cells⟩) :
    CallsA Tryz.prog 82 #[ptr g, i64 op] σ [blk g [ptr mb, cv, iv, ptr pb, i64 left, .bool torn] 129, Wld mb sb db d s M] (RetA fun v σ' Γ' => v = .tuple #[] ∧ σ = σ' ∧ Γ' = [blk g [ptr mb, cv, iv, ptr pb, i64 left, .bool torn] 129, Wld mb sb db d s (M.popM.popM.pushM (binV op z y))]) := by
  have hl := h.ls
  simp only [List.length_cons] at hl
  have hp1 := pop_m σ g mb sb db pb cv iv left torn d s M h
  have hp2 := pop_m σ g mb sb db pb cv iv left torn d s M.popM h.popM
  have hpu := fun n => push_m σ g mb sb db pb cv iv left torn d s M.popM.popM h.popM.popM (by omega) n
  by_cases h4 : op = 4
  · subst h4
    rw [show binV 4 z y = wrap_ (z + y) from rfl]
    refine enterA2 Tryz.func82 rfl rfl rfl ?_
    refine zS (zR (zA rfl ?_))
    refine zw rfl (WrA.cE (hp1) rfl) ?_
    rintro _ _ _ ⟨_, ⟨rfl, rfl, rfl⟩, rfl⟩
    refine XOA.cl ?_; refine zO rfl Rd.asg ?_; refine zN (zT (zS (zR (zA rfl ?_))))
    refine zw rfl (WrA.cE (hp2) rfl) ?_
    rintro _ _ _ ⟨_, ⟨rfl, rfl, rfl⟩, rfl⟩
    refine XOA.cl ?_; refine zO rfl Rd.asg ?_; refine zN (zT (zS (zR (zA rfl ?_)))); refine zA rfl ?_; refine zO rfl zI ?_; refine zO rfl Rd.asg ?_; refine zN (zT (zS (zS (zR (zA rfl ?_))))); refine zN (zT (XA.block (zS (zR (zO rfl (Rd.eql rfl rfl) ?_))))); refine zO rfl Rd.asg ?_
    refine zN (zT (XA.condF rfl rfl (zS (zR (zO rfl (Rd.eql rfl rfl) ?_))))); refine zO rfl Rd.asg ?_; refine zN (zT (XA.condF rfl rfl (zS (zR (zO rfl (Rd.eql rfl rfl) ?_))))); refine zO rfl Rd.asg ?_; refine zN (zT (XA.condF rfl rfl (zS (zR (zO rfl (Rd.eql rfl rfl) ?_))))); refine zO rfl Rd.asg ?_
    refine zN (zT (XA.condF rfl rfl (XA.skip (DA.inb_normal (zT (zR (zA rfl ?_))))))); refine zA rfl ?_
    refine zw rfl (WrA.cE (hpu _) rfl) ?_
    rintro _ _ _ ⟨_, ⟨rfl, rfl, rfl⟩, rfl⟩
    refine XOA.cl ?_; refine zN ?_
    exact bodyA.normal (ResA.none rfl) zE ⟨rfl, rfl, rfl⟩
  by_cases h5 : op = 5
  · subst h5
    rw [show binV 5 z y = wrap_ (z - y) from rfl]
    refine enterA2 Tryz.func82 rfl rfl rfl ?_
    refine zS (zR (zA rfl ?_))
    refine zw rfl (WrA.cE (hp1) rfl) ?_
    rintro _ _ _ ⟨_, ⟨rfl, rfl, rfl⟩, rfl⟩
    refine XOA.cl ?_; refine zO rfl Rd.asg ?_; refine zN (zT (zS (zR (zA rfl ?_))))
    refine zw rfl (WrA.cE (hp2) rfl) ?_
    rintro _ _ _ ⟨_, ⟨rfl, rfl, rfl⟩, rfl⟩
    refine XOA.cl ?_; refine zO rfl Rd.asg ?_; refine zN (zT (zS (zR (zA rfl ?_)))); refine zA rfl ?_; refine zO rfl zI ?_; refine zO rfl Rd.asg ?_; refine zN (zT (zS (zS (zR (zA rfl ?_))))); refine zN (zT (XA.block (zS (zR (zO rfl (Rd.eql rfl rfl) ?_))))); refine zO rfl Rd.asg ?_
    refine zN (zT (XA.condT rfl rfl (zR (zA rfl ?_)))); refine zA rfl ?_; refine zO rfl (by first | exact Rd.sbi rfl rfl | exact Rd.sub rfl rfl) ?_; refine zO rfl Rd.asg ?_; refine zN (DA.inb_normal (zT (zR (zA rfl ?_)))); refine zA rfl ?_
    refine zw rfl (WrA.cE (hpu _) rfl) ?_
    rintro _ _ _ ⟨_, ⟨rfl, rfl, rfl⟩, rfl⟩
    refine XOA.cl ?_; refine zN ?_
    exact bodyA.normal (ResA.none rfl) zE ⟨rfl, rfl, rfl⟩
  by_cases h6 : op = 6
  · subst h6
    rw [show binV 6 z y = wrap_ (z * y) from rfl]
    refine enterA2 Tryz.func82 rfl rfl rfl ?_
    refine zS (zR (zA rfl ?_))
    refine zw rfl (WrA.cE (hp1) rfl) ?_
    rintro _ _ _ ⟨_, ⟨rfl, rfl, rfl⟩, rfl⟩
    refine XOA.cl ?_; refine zO rfl Rd.asg ?_; refine zN (zT (zS (zR (zA rfl ?_))))
    refine zw rfl (WrA.cE (hp2) rfl) ?_
    rintro _ _ _ ⟨_, ⟨rfl, rfl, rfl⟩, rfl⟩
    refine XOA.cl ?_; refine zO rfl Rd.asg ?_; refine zN (zT (zS (zR (zA rfl ?_)))); refine zA rfl ?_; refine zO rfl zI ?_; refine zO rfl Rd.asg ?_; refine zN (zT (zS (zS (zR (zA rfl ?_))))); refine zN (zT (XA.block (zS (zR (zO rfl (Rd.eql rfl rfl) ?_))))); refine zO rfl Rd.asg ?_
    refine zN (zT (XA.condF rfl rfl (zS (zR (zO rfl (Rd.eql rfl rfl) ?_))))); refine zO rfl Rd.asg ?_; refine zN (zT (XA.condT rfl rfl (zR (zA rfl ?_)))); refine zA rfl ?_; refine zO rfl (by first | exact Rd.mli rfl rfl | exact Rd.mul rfl rfl) ?_; refine zO rfl Rd.asg ?_
    refine zN (DA.inb_normal (zT (zR (zA rfl ?_)))); refine zA rfl ?_
    refine zw rfl (WrA.cE (hpu _) rfl) ?_
    rintro _ _ _ ⟨_, ⟨rfl, rfl, rfl⟩, rfl⟩
    refine XOA.cl ?_; refine zN ?_
    exact bodyA.normal (ResA.none rfl) zE ⟨rfl, rfl, rfl⟩
  by_cases h7 : op = 7
  · subst h7
    rw [show binV 7 z y = (if decide (z < y) = true then 1 else 0) from by simp [binV]]
    refine enterA2 Tryz.func82 rfl rfl rfl ?_
    refine zS (zR (zA rfl ?_))
    refine zw rfl (WrA.cE (hp1) rfl) ?_
    rintro _ _ _ ⟨_, ⟨rfl, rfl, rfl⟩, rfl⟩
    refine XOA.cl ?_; refine zO rfl Rd.asg ?_; refine zN (zT (zS (zR (zA rfl ?_))))
    refine zw rfl (WrA.cE (hp2) rfl) ?_
    rintro _ _ _ ⟨_, ⟨rfl, rfl, rfl⟩, rfl⟩
    refine XOA.cl ?_; refine zO rfl Rd.asg ?_; refine zN (zT (zS (zR (zA rfl ?_)))); refine zA rfl ?_; refine zO rfl zI ?_; refine zO rfl Rd.asg ?_; refine zN (zT (zS (zS (zR (zA rfl ?_))))); refine zN (zT (XA.block (zS (zR (zO rfl (Rd.eql rfl rfl) ?_))))); refine zO rfl Rd.asg ?_
    refine zN (zT (XA.condF rfl rfl (zS (zR (zO rfl (Rd.eql rfl rfl) ?_))))); refine zO rfl Rd.asg ?_; refine zN (zT (XA.condF rfl rfl (zS (zR (zO rfl (Rd.eql rfl rfl) ?_))))); refine zO rfl Rd.asg ?_; refine zN (zT (XA.condT rfl rfl (zR (zA rfl ?_)))); refine zA rfl ?_; refine zO rfl (Rd.lss rfl rfl) ?_
    refine zw rfl (WrA.cE (flag_m σ _) rfl) ?_
    rintro _ _ _ ⟨_, ⟨rfl, rfl, rfl⟩, rfl⟩
    refine XOA.cl ?_; refine zO rfl Rd.asg ?_; refine zN (DA.inb_normal (zT (zR (zA rfl ?_)))); refine zA rfl ?_
    refine zw rfl (WrA.cE (hpu _) rfl) ?_
    rintro _ _ _ ⟨_, ⟨rfl, rfl, rfl⟩, rfl⟩
    refine XOA.cl ?_; refine zN ?_
    exact bodyA.normal (ResA.none rfl) zE ⟨rfl, rfl, rfl⟩
  by_cases h8 : op = 8
  · subst h8
    rw [show binV 8 z y = (if decide (z = y) = true then 1 else 0) from by simp [binV]]
    refine enterA2 Tryz.func82 rfl rfl rfl ?_
    refine zS (zR (zA rfl ?_))
    refine zw rfl (WrA.cE (hp1) rfl) ?_
    rintro _ _ _ ⟨_, ⟨rfl, rfl, rfl⟩, rfl⟩
    refine XOA.cl ?_; refine zO rfl Rd.asg ?_; refine zN (zT (zS (zR (zA rfl ?_))))
    refine zw rfl (WrA.cE (hp2) rfl) ?_
    rintro _ _ _ ⟨_, ⟨rfl, rfl, rfl⟩, rfl⟩
    refine XOA.cl ?_; refine zO rfl Rd.asg ?_; refine zN (zT (zS (zR (zA rfl ?_)))); refine zA rfl ?_; refine zO rfl zI ?_; refine zO rfl Rd.asg ?_; refine zN (zT (zS (zS (zR (zA rfl ?_))))); refine zN (zT (XA.block (zS (zR (zO rfl (Rd.eql rfl rfl) ?_))))); refine zO rfl Rd.asg ?_
    refine zN (zT (XA.condF rfl rfl (zS (zR (zO rfl (Rd.eql rfl rfl) ?_))))); refine zO rfl Rd.asg ?_; refine zN (zT (XA.condF rfl rfl (zS (zR (zO rfl (Rd.eql rfl rfl) ?_))))); refine zO rfl Rd.asg ?_; refine zN (zT (XA.condF rfl rfl (zS (zR (zO rfl (Rd.eql rfl rfl) ?_))))); refine zO rfl Rd.asg ?_
    refine zN (zT (XA.condT rfl rfl (zR (zA rfl ?_)))); refine zA rfl ?_; refine zO rfl (Rd.eql rfl rfl) ?_
    refine zw rfl (WrA.cE (flag_m σ _) rfl) ?_
    rintro _ _ _ ⟨_, ⟨rfl, rfl, rfl⟩, rfl⟩
    refine XOA.cl ?_; refine zO rfl Rd.asg ?_; refine zN (DA.inb_normal (zT (zR (zA rfl ?_)))); refine zA rfl ?_
    refine zw rfl (WrA.cE (hpu _) rfl) ?_
    rintro _ _ _ ⟨_, ⟨rfl, rfl, rfl⟩, rfl⟩
    refine XOA.cl ?_; refine zN ?_
    exact bodyA.normal (ResA.none rfl) zE ⟨rfl, rfl, rfl⟩
  omega
theorem take_m (pi : Option Addr) (ci : Nat) (inp : List Int) (a : Int) (ha : 0 ≤ a ∧ a < 48) (hi : PInts σ (.slice pi inp.length ci) inp) (hil : inp.length ≤ 1000000) (h : Shows M.C ⟨next, stack, rd, outn, st, cells⟩) :
    CallsA Tryz.prog 106 #[ptr g, i64 a] σ [blk g [ptr mb, cv, .slice pi inp.length ci, ptr pb, i64 left, .bool torn] 129, Wld mb sb db d s M] (RetA fun v σ' Γ' => v = .tuple #[] ∧ σ = σ' ∧ Γ' = [blk g [ptr mb, cv, .slice pi inp.length ci, ptr pb, i64 left, .bool torn] 129, Wld mb sb db d s (if (inp.length : Int) ≤ M.ld 2 then M.put 4 14 else (M.put 2 (M.ld 2 + 1)).put (5 + a) (inp.getD (M.ld 2).toNat 0))]) := by
  have e : M.ld 2 = rd := h.rd
  have hld := load_w σ mb sb db d s M 2
  rw [e] at hld
  by_cases hr : inp.length ≤ rd
  · rw [if_pos (by omega)]
    have hr2 : (rd : Int) ≥ inp.length := by omega
    refine enterA2 Tryz.func106 rfl rfl rfl ?_
    refine zS (zR (zA rfl ?_)); refine zO rfl (Rd.nilCheck rfl) ?_; refine zV rfl rfl ?_; refine zB rfl rfl (tyrow rfl) rfl ?_
    refine zw rfl (WrA.cE (hld) rfl) ?_
    rintro _ _ _ ⟨_, ⟨rfl, rfl, rfl⟩, rfl⟩
    refine XOA.cl ?_; refine zO rfl Rd.asg ?_; refine zN (zT (zS (zS (zR (zA rfl ?_))))); refine zA rfl ?_; refine zO rfl (Rd.nilCheck rfl) ?_; refine zV rfl rfl ?_; refine zB rfl rfl (tyrow rfl) rfl ?_; refine zO rfl (Rd.lenSlice (tyrow rfl) rfl rfl) ?_; refine zO rfl (Rd.geq rfl rfl) ?_
    refine zN (zT (XA.condT rfl (by first | rfl | exact decide_eq_true (by omega)) ?_)); refine zS (zR (zA rfl ?_))
    refine zw rfl (WrA.cE (stop_m σ g mb sb db pb cv (.slice pi inp.length ci) left torn d s M 14) rfl) ?_
    rintro _ _ _ ⟨_, ⟨rfl, rfl, rfl⟩, rfl⟩
    refine XOA.cl ?_; refine zN (zT (XA.ret (DA.thn_ret ?_)))
    exact bodyA.ret (ResA.none rfl) zE ⟨rfl, rfl, rfl⟩
  · rw [if_neg (by omega)]
    have hri2 : rd < inp.length := by omega
    obtain ⟨y, hy⟩ : ∃ y, inp[rd]? = some y := ⟨_, List.getElem?_eq_getElem hri2⟩
    obtain ⟨gi, oi, rfl, hri3⟩ := hi.at hy
    rw [Nat.mul_one] at hri3
    have hy2 : inp.getD (M.ld 2).toNat 0 = y := by rw [e, Int.toNat_natCast, List.getD_eq_getElem?_getD, hy]; rfl
    rw [hy2, e]
    have hadd := add_m σ g mb sb db pb cv (.slice (some ⟨gi, oi, none⟩) inp.length ci) left torn d s M 2 1
    rw [X.wrap64_in (by omega) (by omega), e] at hadd
    refine enterA2 Tryz.func106 rfl rfl rfl ?_
    refine zS (zR (zA rfl ?_)); refine zO rfl (Rd.nilCheck rfl) ?_; refine zV rfl rfl ?_; refine zB rfl rfl (tyrow rfl) rfl ?_
    refine zw rfl (WrA.cE (hld) rfl) ?_
    rintro _ _ _ ⟨_, ⟨rfl, rfl, rfl⟩, rfl⟩
    refine XOA.cl ?_; refine zO rfl Rd.asg ?_; refine zN (zT (zS (zS (zR (zA rfl ?_))))); refine zA rfl ?_; refine zO rfl (Rd.nilCheck rfl) ?_; refine zV rfl rfl ?_; refine zB rfl rfl (tyrow rfl) rfl ?_; refine zO rfl (Rd.lenSlice (tyrow rfl) rfl rfl) ?_; refine zO rfl (Rd.geq rfl rfl) ?_
    refine zN (zT (XA.condF rfl (by first | rfl | exact decide_eq_false (by omega)) ?_)); refine XA.skip (zT (zS (zR (zA rfl ?_))))
    refine zw rfl (WrA.cE (hadd) rfl) ?_
    rintro _ _ _ ⟨_, ⟨rfl, rfl, rfl⟩, rfl⟩
    refine XOA.cl ?_; refine zN (zT ?_)
    refine XA.draw (by kernel_rfl) _ _ [13] [(0, .pu), (1, .pu), (2, .pu), (3, .rd), (4, .pu), (5, .pu), (6, .pu), (7, .pu), (8, .pu), (9, .rd), (10, .pu), (11, .pu), (12, .rd), (13, .wr)] (by kernel_rfl) (PH.sub.refl _) (Ent.sel (R := blk g _ _) zL (Ent.nil _)) ?_
    refine zu rfl rfl Rd.mv ?_; refine zu rfl rfl (Rd.nilCheck rfl) ?_; refine zu rfl rfl (Rd.fA rfl) ?_; refine XPA.rd rfl rfl Gd.free (Rd.ldC rfl (tyrow rfl) rfl) ?_; refine zu rfl rfl Rd.mv ?_; refine zu rfl rfl zI ?_
    refine zu rfl rfl Rd.mv ?_; refine zu rfl rfl (Rd.nilCheck rfl) ?_; refine zu rfl rfl (Rd.fA rfl) ?_; refine XPA.rd rfl rfl Gd.free (Rd.ldC rfl (tyrow rfl) rfl) ?_; refine zu rfl rfl Rd.mv ?_; refine zu rfl rfl (Rd.ixS rfl rfl) ?_
    refine XPA.rd rfl rfl Gd.free (Rd.ldC rfl (tyrow rfl) rfl) ?_
    refine XPA.wrZ0 rfl rfl Gd.free (by kernel_rfl) (WrA.cE (put_w σ mb sb db d s (M.put 2 ((rd : Int) + 1)) (5 + a) y) rfl) ?_
    rintro _ _ _ ⟨_, ⟨rfl, rfl, rfl⟩, rfl⟩
    refine XPA.cl ?_; refine XPA.nil ?_
    exact bodyA.normal (ResA.none rfl) zE ⟨rfl, rfl, rfl⟩
theorem cell_m (op a b n k : Int) (hc : 0 ≤ a ∧ 1 ≤ b ∧ a + b ≤ 48) :
    CallsA Tryz.prog 105 #[ptr g, .agg #[i64 op, i64 a, i64 b, i64 n], i64 k] σ [blk g [ptr mb, cv, iv, ptr pb, i64 left, .bool torn] 129, Wld mb sb db d s M] (RetA fun v σ' Γ' => v = .tuple #[i64 (if k < 0 ∨ b ≤ k then 0 else 5 + a + k), .bool (decide ¬ (k < 0 ∨ b ≤ k))] ∧ σ = σ' ∧ Γ' = [blk g [ptr mb, cv, iv, ptr pb, i64 left, .bool torn] 129, Wld mb sb db d s (if k < 0 ∨ b ≤ k then M.put 4 13 else M)]) := by
  by_cases h0 : k < 0
  · have hk : k < 0 ∨ b ≤ k := .inl h0
    rw [if_pos hk, if_pos hk, decide_eq_false (fun q => q hk)]
    refine enterA3 Tryz.func105 rfl rfl rfl ?_
    refine zS (zR ?_)
    refine zw rfl WrA.bx ?_
    rintro _ _ _ ⟨g4, rfl, rfl, rfl⟩
    refine zO rfl Rd.asg ?_; refine zO rfl Rd.asg ?_; refine zN (zT (zS (zS (zR (zA rfl ?_))))); refine zO rfl (Rd.lss rfl rfl) ?_; refine zA rfl ?_
    first | (refine zG ?_; refine zA rfl ?_) | refine zH ?_
    first | (refine zG ?_; refine zV rfl rfl ?_) | refine zH ?_
    first | (refine zG ?_; refine zB rfl rfl (tyrow rfl) rfl ?_) | refine zH ?_
    first | (refine zG ?_; refine zO rfl (Rd.geq rfl rfl) ?_) | refine zH ?_
    refine zO rfl zP ?_; refine zN (zT (XA.condT rfl (by first | rfl | exact decide_eq_true (by omega)) ?_)); refine zS (zR (zA rfl ?_))
    refine zw rfl (WrA.cE (stop_m σ g mb sb db pb cv iv left torn d s M 13) rfl) ?_
    rintro _ _ _ ⟨_, ⟨rfl, rfl, rfl⟩, rfl⟩
    refine XOA.cl ?_; refine zN (zT (zS (zR (zO rfl Rd.asg ?_)))); refine zO rfl Rd.asg ?_; refine zN (zT (XA.ret (DA.thn_ret ?_)))
    exact bodyA.ret (ResA.two rfl rfl rfl) zE ⟨rfl, rfl, rfl⟩
  by_cases h1 : b ≤ k
  · have hk : k < 0 ∨ b ≤ k := .inr h1
    rw [if_pos hk, if_pos hk, decide_eq_false (fun q => q hk)]
    refine enterA3 Tryz.func105 rfl rfl rfl ?_
    refine zS (zR ?_)
    refine zw rfl WrA.bx ?_
    rintro _ _ _ ⟨g4, rfl, rfl, rfl⟩
    refine zO rfl Rd.asg ?_; refine zO rfl Rd.asg ?_; refine zN (zT (zS (zS (zR (zA rfl ?_))))); refine zO rfl (Rd.lss rfl rfl) ?_; refine zA rfl ?_
    first | (refine zG ?_; refine zA rfl ?_) | refine zH ?_
    first | (refine zG ?_; refine zV rfl rfl ?_) | refine zH ?_
    first | (refine zG ?_; refine zB rfl rfl (tyrow rfl) rfl ?_) | refine zH ?_
    first | (refine zG ?_; refine zO rfl (Rd.geq rfl rfl) ?_) | refine zH ?_
    refine zO rfl zP ?_; refine zN (zT (XA.condT rfl (by first | rfl | exact decide_eq_true (by omega)) ?_)); refine zS (zR (zA rfl ?_))
    refine zw rfl (WrA.cE (stop_m σ g mb sb db pb cv iv left torn d s M 13) rfl) ?_
    rintro _ _ _ ⟨_, ⟨rfl, rfl, rfl⟩, rfl⟩
    refine XOA.cl ?_; refine zN (zT (zS (zR (zO rfl Rd.asg ?_)))); refine zO rfl Rd.asg ?_; refine zN (zT (XA.ret (DA.thn_ret ?_)))
    exact bodyA.ret (ResA.two rfl rfl rfl) zE ⟨rfl, rfl, rfl⟩
  have hk : ¬ (k < 0 ∨ b ≤ k) := by omega
  rw [if_neg hk, if_neg hk, decide_eq_true hk]
  refine enterA3 Tryz.func105 rfl rfl rfl ?_
  refine zS (zR ?_)
  refine zw rfl WrA.bx ?_
  rintro _ _ _ ⟨g4, rfl, rfl, rfl⟩
  refine zO rfl Rd.asg ?_; refine zO rfl Rd.asg ?_; refine zN (zT (zS (zS (zR (zA rfl ?_))))); refine zO rfl (Rd.lss rfl rfl) ?_; refine zA rfl ?_
  first | (refine zG ?_; refine zA rfl ?_) | refine zH ?_
  first | (refine zG ?_; refine zV rfl rfl ?_) | refine zH ?_
  first | (refine zG ?_; refine zB rfl rfl (tyrow rfl) rfl ?_) | refine zH ?_
  first | (refine zG ?_; refine zO rfl (Rd.geq rfl rfl) ?_) | refine zH ?_
  refine zO rfl zP ?_; refine zN (zT (XA.condF rfl (by first | rfl | exact decide_eq_false (by omega)) ?_)); refine XA.skip (zT (zS (zR (zV rfl rfl ?_)))); refine zB rfl rfl (tyrow rfl) rfl ?_; refine zO rfl zI ?_; refine zA rfl ?_; refine zO rfl zI ?_; refine zO rfl Rd.asg ?_; refine zO rfl Rd.asg ?_
  refine zN (zT (XA.ret ?_))
  exact bodyA.ret (ResA.two rfl rfl rfl) zE ⟨rfl, rfl, rfl⟩
theorem commit_m (hg : s.gen < 4611686018427387904) :
    CallsA Tryz.prog 86 #[ptr g] σ [blk g [ptr mb, cv, iv, ptr pb, i64 0, .bool torn] 129, Wld mb sb db d s M] (RetA fun v σ' Γ' => ∃ (d' : DiskS) (s' : StS), v = .tuple #[] ∧ s'.gen = s.gen + 1 ∧ pagesC d' s' = M.C ∧ Good d' s' ∧ σ.sub σ' ∧ Γ' = [blk g [ptr mb, cv, iv, ptr pb, i64 0, .bool false] 129, Wld mb sb db d' s' ⟨M.C, noB⟩]) := by
  refine enterA1 Tryz.func86 rfl rfl rfl ?_
  refine zS (zR (zO rfl Rd.asg ?_)); refine zN (zT (zS (zS (zR (zA rfl ?_))))); refine zO rfl (Rd.nilCheck rfl) ?_; refine zV rfl rfl ?_; refine zB rfl rfl (tyrow rfl) rfl ?_; refine zO rfl (Rd.gtr rfl rfl) ?_; refine zN (zT (XA.condF rfl rfl (XA.skip (zT (zR (zA rfl ?_)))))); refine zA rfl ?_
  refine zO rfl (Rd.nilCheck rfl) ?_; refine zV rfl rfl ?_; refine zB rfl rfl (tyrow rfl) rfl ?_; refine zA rfl ?_
  refine zw rfl (WrA.cE (sync_w σ mb sb db d s M hg) rfl) ?_
  rintro _ σ1 _ ⟨_, ⟨d', s', rfl, h1, h2, h3, hs1, rfl⟩, rfl⟩
  refine XOA.cl ?_; refine zO rfl zJ ?_; refine zO rfl (Rd.nilCheck rfl) ?_; refine zV rfl rfl ?_
  refine zw rfl (WrA.st (tyrow rfl) rfl) ?_
  rintro _ _ _ ⟨rfl, rfl, rfl⟩
  refine zN ?_
  exact bodyA.normal (ResA.none rfl) zE ⟨d', s', rfl, h1, h2, h3, hs1, rfl⟩
end
end Go.Proofs.YtmnmcjdgnpgchaaGreat

