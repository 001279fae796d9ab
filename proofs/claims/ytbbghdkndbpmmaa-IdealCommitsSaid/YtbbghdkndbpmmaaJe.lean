/- Package ideal: expressions. -/
import Derived.Test.YtbbghdkndbpmmaaJa
namespace Go.Proofs.Ytbbghdkndbpmmaa
open Go X
set_option maxHeartbeats 1000000
def ExprR (σ : PH) (pr : Pr) (x : Ex) : Prop := ∀ (cs : List Value) (b : Nat) (pv : Option Addr) (cv : Nat) (bs : Value) (gc nc : Nat) (cells : List Int) (vi vo : Value) (f : Nat),
  PrAt σ [.slice pv pr.vars.length cv, bs] pr → ExAt σ cs x → ExV pr.vars.length x → cells.length = nc → (nc : Int) = sizes pr.vars → f < 1000000 →
  (∀ v f', exRun pr.vars cells x f = .ok (v, f') → CallsA Try.prog 89 #[ptr b, .agg cs.toArray] σ [blk b [.slice pv pr.vars.length cv, bs, .slice (some ⟨gc, 0, none⟩) nc nc, vi, vo, i64 f] 97, blk gc (ints cells) 2] (RetA fun r σ' Γ' => r = i64 v ∧ σ = σ' ∧ Γ' = [blk b [.slice pv pr.vars.length cv, bs, .slice (some ⟨gc, 0, none⟩) nc nc, vi, vo, i64 f'] 97, blk gc (ints cells) 2])) ∧
  (∀ c f', exRun pr.vars cells x f = .error (c, f') → CallsA Try.prog 89 #[ptr b, .agg cs.toArray] σ [blk b [.slice pv pr.vars.length cv, bs, .slice (some ⟨gc, 0, none⟩) nc nc, vi, vo, i64 f] 97, blk gc (ints cells) 2] (PanA fun ch σ' Γ' => ch = goneC c ∧ σ = σ' ∧ Γ' = [blk b [.slice pv pr.vars.length cv, bs, .slice (some ⟨gc, 0, none⟩) nc nc, vi, vo, i64 f'] 97, blk gc (ints cells) 2]))
theorem ints_at {l : List Int} {i : Nat} (h : i < l.length) : (ints l)[i]? = some (i64 (l.getD i 0)) := by
  simp [ints, List.getElem?_map, List.getElem?_eq_getElem h]
theorem list_0 {α : Type} {l : List α} (h : (l.length : Int) = 0) : l = [] := List.eq_nil_of_length_eq_zero (by omega)
theorem list_1 {α : Type} {l : List α} (h : (l.length : Int) = 1) : ∃ x, l = [x] := by
  match l, h with
  | [x], _ => exact ⟨x, rfl⟩
  | [], h => simp at h
  | _ :: _ :: _, h => simp at h; omega
theorem list_2 {α : Type} {l : List α} (h : (l.length : Int) = 2) : ∃ x y, l = [x, y] := by
  match l, h with
  | [x, y], _ => exact ⟨x, y, rfl⟩
  | [], h => simp at h
  | [_], h => simp at h
  | _ :: _ :: _ :: _, h => simp at h; omega
theorem expr_r (σ : PH) (pr : Pr) (h1 : ∀ x ∈ pr.vars, 1 ≤ x.size) (hz : ∀ x ∈ pr.vars, 0 ≤ x.size ∧ x.size ≤ 1000) (hvl : pr.vars.length ≤ 1000) (x : Ex) : ExprR σ pr x := by
  refine Ex.ind (P := ExprR σ pr) ?_ x
  intro op v k l ih cs b pv cv bs gc nc cells vi vo f hp hx hV hnc hsz hf
  obtain ⟨pl, cl, rfl, ho, hv, hk, hl⟩ := hx.inv
  simp only [Ex.op, Ex.v, Ex.n, Ex.l] at ho hv hk hl ⊢
  clear hx
  rw [ExV] at hV
  obtain ⟨hop, hlp, hvr, -, hsV⟩ := hV
  have hcl : cells.length = nc := hnc
  by_cases q1 : op = 1
  · subst q1
    obtain rfl : l = [] := list_0 hlp
    cases f with
    | zero =>
      have hr : exRun pr.vars cells (.mk 1 v k []) 0 = .error (13, 0) := rfl
      refine ⟨fun v' f' h => (by rw [hr] at h; cases h), fun c f' h => ?_⟩
      rw [hr] at h
      simp only [Except.error.injEq, Prod.mk.injEq] at h
      obtain ⟨rfl, rfl⟩ := h
      refine enterA2 Try.func89 rfl rfl rfl ?_
      refine zS ?_; refine zR ?_
      refine XOA.wr0 rfl WrA.bx ?_
      rintro _ _ _ ⟨g3, rfl, rfl, rfl⟩
      refine zO rfl Rd.asg ?_; refine zN ?_; refine zT ?_; refine zS ?_; refine zR ?_
      refine XOA.wr0 rfl (WrA.alloc (tyrow rfl)) ?_
      rintro _ _ _ ⟨g5, rfl, rfl, rfl⟩
      refine zN ?_; refine zT ?_; refine zS ?_; refine zS ?_; refine zR ?_; refine zO rfl (Rd.fA rfl) ?_; refine zO rfl (Rd.ldC rfl (tyrow rfl) rfl) ?_; refine zO rfl (Rd.lenSlice (tyrow rfl) rfl rfl) ?_; refine zO rfl Rd.mv ?_; refine zN ?_; refine zT ?_
      refine XA.block ?_
      refine XA.unroll 1 ?_
      refine XAR.succ ?_
      refine zS ?_; refine zR ?_; refine zO rfl (Rd.lss rfl rfl) ?_; refine zN ?_; refine zT ?_; refine zS ?_
      refine XA.condF rfl rfl ?_
      refine XA.exit ?_
      refine DA.thn_exit ?_
      refine DA.thn_exit ?_
      refine DA.inb_same ?_
      refine zT ?_; refine zS ?_; refine zR ?_; refine zO rfl Rd.mv ?_
      refine XOA.die rfl (one_t σ b _ _ _ _ _) rfl ?_
      rintro _ _ _ ⟨rfl, rfl, rfl⟩
      refine DA.cl ?_
      repeat (first | refine DA.thn_panic ?_ | refine DA.inb_panic ?_)
      exact bodyA.panic zE ⟨rfl, rfl, rfl⟩
    | succ f =>
      have hr : exRun pr.vars cells (.mk 1 v k []) (f + 1) = .ok (k, f) := rfl
      refine ⟨fun v' f' h => ?_, fun c f' h => (by rw [hr] at h; cases h)⟩
      rw [hr] at h
      simp only [Except.ok.injEq, Prod.mk.injEq] at h
      obtain ⟨rfl, rfl⟩ := h
      refine enterA2 Try.func89 rfl rfl rfl ?_
      refine zS ?_; refine zR ?_
      refine XOA.wr0 rfl WrA.bx ?_
      rintro _ _ _ ⟨g3, rfl, rfl, rfl⟩
      refine zO rfl Rd.asg ?_; refine zN ?_; refine zT ?_; refine zS ?_; refine zR ?_
      refine XOA.wr0 rfl (WrA.alloc (tyrow rfl)) ?_
      rintro _ _ _ ⟨g5, rfl, rfl, rfl⟩
      refine zN ?_; refine zT ?_; refine zS ?_; refine zS ?_; refine zR ?_; refine zO rfl (Rd.fA rfl) ?_; refine zO rfl (Rd.ldC rfl (tyrow rfl) rfl) ?_; refine zO rfl (Rd.lenSlice (tyrow rfl) rfl rfl) ?_; refine zO rfl Rd.mv ?_; refine zN ?_; refine zT ?_
      refine XA.block ?_
      refine XA.unroll 1 ?_
      refine XAR.succ ?_
      refine zS ?_; refine zR ?_; refine zO rfl (Rd.lss rfl rfl) ?_; refine zN ?_; refine zT ?_; refine zS ?_
      refine XA.condF rfl rfl ?_
      refine XA.exit ?_
      refine DA.thn_exit ?_
      refine DA.thn_exit ?_
      refine DA.inb_same ?_
      refine zT ?_; refine zS ?_; refine zR ?_; refine zO rfl Rd.mv ?_
      refine XOA.wr0 rfl (WrA.cE (one_f σ b _ _ _ _ _ f (by omega)) rfl) ?_
      rintro _ _ _ ⟨_, ⟨rfl, rfl, rfl⟩, rfl⟩
      refine XOA.cl ?_
      refine zN ?_; refine zT ?_; refine zS ?_; refine zS ?_; refine zR ?_; refine zO rfl (Rd.fA rfl) ?_; refine zO rfl (Rd.ldC rfl (tyrow rfl) rfl) ?_; refine zN ?_; refine zT ?_
      refine XA.block ?_
      refine zS ?_; refine zR ?_; refine zO rfl (Rd.eql rfl rfl) ?_; refine zO rfl Rd.asg ?_; refine zN ?_; refine zT ?_
      refine XA.condT rfl rfl ?_
      refine zS ?_; refine zR ?_; refine zO rfl (Rd.fA rfl) ?_; refine zO rfl (Rd.ldC rfl (tyrow rfl) rfl) ?_; refine zO rfl Rd.asg ?_; refine zN ?_; refine zT ?_
      refine XA.ret ?_
      refine DA.inb_ret ?_
      refine DA.thn_ret ?_
      exact bodyA.ret (ResA.one rfl rfl) zE ⟨rfl, rfl, rfl⟩
  by_cases q2 : op = 2
  · subst q2
    obtain rfl : l = [] := list_0 hlp
    have hv2 := hvr (.inl rfl)
    obtain ⟨vx, hvx, hsv, hc0, hc1, hc2⟩ := var_at h1 hv2
    have hat : (ints cells)[(cellOf pr.vars v + 0).toNat]? = some (i64 (cells.getD (cellOf pr.vars v).toNat 0)) := by rw [Int.add_zero]; exact ints_at (by omega)
    cases f with
    | zero =>
      have hr : exRun pr.vars cells (.mk 2 v k []) 0 = .error (13, 0) := rfl
      refine ⟨fun v' f' h => (by rw [hr] at h; cases h), fun c f' h => ?_⟩
      rw [hr] at h
      simp only [Except.error.injEq, Prod.mk.injEq] at h
      obtain ⟨rfl, rfl⟩ := h
      refine enterA2 Try.func89 rfl rfl rfl ?_
      refine zS ?_; refine zR ?_
      refine XOA.wr0 rfl WrA.bx ?_
      rintro _ _ _ ⟨g3, rfl, rfl, rfl⟩
      refine zO rfl Rd.asg ?_; refine zN ?_; refine zT ?_; refine zS ?_; refine zR ?_
      refine XOA.wr0 rfl (WrA.alloc (tyrow rfl)) ?_
      rintro _ _ _ ⟨g5, rfl, rfl, rfl⟩
      refine zN ?_; refine zT ?_; refine zS ?_; refine zS ?_; refine zR ?_; refine zO rfl (Rd.fA rfl) ?_; refine zO rfl (Rd.ldC rfl (tyrow rfl) rfl) ?_; refine zO rfl (Rd.lenSlice (tyrow rfl) rfl rfl) ?_; refine zO rfl Rd.mv ?_; refine zN ?_; refine zT ?_
      refine XA.block ?_
      refine XA.unroll 1 ?_
      refine XAR.succ ?_
      refine zS ?_; refine zR ?_; refine zO rfl (Rd.lss rfl rfl) ?_; refine zN ?_; refine zT ?_; refine zS ?_
      refine XA.condF rfl rfl ?_
      refine XA.exit ?_
      refine DA.thn_exit ?_
      refine DA.thn_exit ?_
      refine DA.inb_same ?_
      refine zT ?_; refine zS ?_; refine zR ?_; refine zO rfl Rd.mv ?_
      refine XOA.die rfl (one_t σ b _ _ _ _ _) rfl ?_
      rintro _ _ _ ⟨rfl, rfl, rfl⟩
      refine DA.cl ?_
      repeat (first | refine DA.thn_panic ?_ | refine DA.inb_panic ?_)
      exact bodyA.panic zE ⟨rfl, rfl, rfl⟩
    | succ f =>
      have hr : exRun pr.vars cells (.mk 2 v k []) (f + 1) = .ok (cells.getD (cellOf pr.vars v).toNat 0, f) := rfl
      refine ⟨fun v' f' h => ?_, fun c f' h => (by rw [hr] at h; cases h)⟩
      rw [hr] at h
      simp only [Except.ok.injEq, Prod.mk.injEq] at h
      obtain ⟨rfl, rfl⟩ := h
      refine enterA2 Try.func89 rfl rfl rfl ?_
      refine zS ?_; refine zR ?_
      refine XOA.wr0 rfl WrA.bx ?_
      rintro _ _ _ ⟨g3, rfl, rfl, rfl⟩
      refine zO rfl Rd.asg ?_; refine zN ?_; refine zT ?_; refine zS ?_; refine zR ?_
      refine XOA.wr0 rfl (WrA.alloc (tyrow rfl)) ?_
      rintro _ _ _ ⟨g5, rfl, rfl, rfl⟩
      refine zN ?_; refine zT ?_; refine zS ?_; refine zS ?_; refine zR ?_; refine zO rfl (Rd.fA rfl) ?_; refine zO rfl (Rd.ldC rfl (tyrow rfl) rfl) ?_; refine zO rfl (Rd.lenSlice (tyrow rfl) rfl rfl) ?_; refine zO rfl Rd.mv ?_; refine zN ?_; refine zT ?_
      refine XA.block ?_
      refine XA.unroll 1 ?_
      refine XAR.succ ?_
      refine zS ?_; refine zR ?_; refine zO rfl (Rd.lss rfl rfl) ?_; refine zN ?_; refine zT ?_; refine zS ?_
      refine XA.condF rfl rfl ?_
      refine XA.exit ?_
      refine DA.thn_exit ?_
      refine DA.thn_exit ?_
      refine DA.inb_same ?_
      refine zT ?_; refine zS ?_; refine zR ?_; refine zO rfl Rd.mv ?_
      refine XOA.wr0 rfl (WrA.cE (one_f σ b _ _ _ _ _ f (by omega)) rfl) ?_
      rintro _ _ _ ⟨_, ⟨rfl, rfl, rfl⟩, rfl⟩
      refine XOA.cl ?_
      refine zN ?_; refine zT ?_; refine zS ?_; refine zS ?_; refine zR ?_; refine zO rfl (Rd.fA rfl) ?_; refine zO rfl (Rd.ldC rfl (tyrow rfl) rfl) ?_; refine zN ?_; refine zT ?_
      refine XA.block ?_
      refine zS ?_; refine zR ?_; refine zO rfl (Rd.eql rfl rfl) ?_; refine zO rfl Rd.asg ?_; refine zN ?_; refine zT ?_
      refine XA.condF rfl rfl ?_
      refine zS ?_; refine zR ?_; refine zO rfl (Rd.eql rfl rfl) ?_; refine zO rfl Rd.asg ?_; refine zN ?_; refine zT ?_
      refine XA.condT rfl rfl ?_
      refine zS ?_
      refine XA.draw (by kernel_rfl) _ _ [] [(0, .pu), (1, .pu), (2, .pu), (3, .rd), (4, .pu), (5, .pu), (6, .rd), (7, .wr), (8, .pu), (9, .rd), (10, .pu)] (by kernel_rfl) (PH.sub.refl _) (Ent.sel (R := blk b _ _) (by ((repeat (first | with_reducible exact Sel.head | apply Sel.tail)); (first | done | fail))) (Ent.sel (R := blk g3 _ _) (by ((repeat (first | with_reducible exact Sel.head | apply Sel.tail)); (first | done | fail))) (Ent.sel (R := blk gc _ _) (by ((repeat (first | with_reducible exact Sel.head | apply Sel.tail)); (first | done | fail))) (Ent.nil _)))) ?_
      refine XPA.pu rfl rfl Gd.free Rd.mv ?_
      refine XPA.pu rfl rfl Gd.free (Rd.nilCheck rfl) ?_
      refine XPA.pu rfl rfl Gd.free (Rd.fA rfl) ?_
      refine XPA.rd rfl rfl Gd.free (Rd.ldC rfl (tyrow rfl) rfl) ?_
      refine XPA.pu rfl rfl Gd.free Rd.mv ?_
      refine XPA.pu rfl rfl Gd.free (Rd.fA rfl) ?_
      refine XPA.rd rfl rfl Gd.free (Rd.ldC rfl (tyrow rfl) rfl) ?_
      refine XPA.wr0 rfl rfl Gd.free (WrA.cE (at_f σ b pr _ cv bs _ _ _ _ v 0 hp hz hvl hv2 (by decide) (by omega)) rfl) ?_
      rintro _ _ _ ⟨_, ⟨rfl, rfl, rfl⟩, rfl⟩
      refine stays (XPA.cl ?_)
      refine XPA.pu rfl rfl Gd.free (Rd.ixS rfl rfl) ?_
      refine XPA.rd rfl rfl Gd.free (Rd.ldC rfl (tyrow rfl) rfl) ?_
      refine XPA.pu rfl rfl Gd.free Rd.asg ?_
      refine XPA.nil ?_
      refine zT ?_
      refine XA.ret ?_
      refine DA.inb_ret ?_
      refine DA.thn_ret ?_
      exact bodyA.ret (ResA.one rfl rfl) zE ⟨rfl, rfl, rfl⟩
  by_cases q3 : op = 3
  · subst q3
    obtain ⟨x, rfl⟩ := list_1 hlp
    simp only [List.length_cons, List.length_nil, Nat.zero_add] at hl ⊢
    have hv2 := hvr (.inr rfl)
    obtain ⟨vx, hvx, hsv, hc0, hc1, hc2⟩ := var_at h1 hv2
    have hxV := hsV.mem x (by simp)
    obtain ⟨g, o, row, rfl, hrx, hrl, hrow⟩ := hl.at (show ([x] : List Ex)[0]? = some x from rfl)
    have hone := hrx.ones
    have hrow0 : PRow σ g o row := by simpa using hrow
    obtain ⟨ihk, ihe⟩ := ih x (by simp) row b pv cv bs gc nc cells vi vo f hp hrx hxV hnc hsz hf
    have hx1 := (exEnd pr.vars cells x f)
    cases e1 : exRun pr.vars cells x f with
    | error e =>
      obtain ⟨c0, f0⟩ := e
      have hr : exRun pr.vars cells (.mk 3 v k [x]) f = .error (c0, f0) := by rw [exRun, exsRun, e1]
      refine ⟨fun v' f' h => (by rw [hr] at h; cases h), fun c f' h => ?_⟩
      rw [hr] at h
      simp only [Except.error.injEq, Prod.mk.injEq] at h
      obtain ⟨rfl, rfl⟩ := h
      refine enterA2 Try.func89 rfl rfl rfl ?_
      refine zS ?_; refine zR ?_
      refine XOA.wr0 rfl WrA.bx ?_
      rintro _ _ _ ⟨g3, rfl, rfl, rfl⟩
      refine zO rfl Rd.asg ?_; refine zN ?_; refine zT ?_; refine zS ?_; refine zR ?_
      refine XOA.wr0 rfl (WrA.alloc (tyrow rfl)) ?_
      rintro _ _ _ ⟨g5, rfl, rfl, rfl⟩
      refine zN ?_; refine zT ?_; refine zS ?_; refine zS ?_; refine zR ?_; refine zO rfl (Rd.fA rfl) ?_; refine zO rfl (Rd.ldC rfl (tyrow rfl) rfl) ?_; refine zO rfl (Rd.lenSlice (tyrow rfl) rfl rfl) ?_; refine zO rfl Rd.mv ?_; refine zN ?_; refine zT ?_
      refine XA.block ?_
      refine XA.unroll 2 ?_
      refine XAR.succ ?_
      refine zS ?_; refine zR ?_; refine zO rfl (Rd.lss rfl rfl) ?_; refine zN ?_; refine zT ?_; refine zS ?_
      refine XA.condT rfl rfl ?_
      refine XA.skip ?_
      refine zT ?_; refine zS ?_
      refine XA.block ?_
      refine zS ?_; refine zR ?_; refine zO rfl Rd.mv ?_
      refine zO rfl (Rd.ixS rfl rfl) ?_
      refine zO rfl (Rd.ldA rfl) ?_
      refine XOA.wr0 rfl (WrA.alloc (tyrow rfl)) ?_
      rintro _ _ _ ⟨g7, rfl, rfl, rfl⟩
      refine zO rfl Rd.asg ?_
      refine XOA.wr0 rfl (WrA.st (tyrow rfl) rfl) ?_
      rintro _ _ _ ⟨rfl, rfl, rfl⟩
      refine zN ?_; refine zT ?_; refine zR ?_; refine zO rfl Rd.mv ?_; refine zO rfl Rd.mv ?_; refine zO rfl (Rd.ldA rfl) ?_
      refine XOA.die rfl (ihe c0 f0 e1) rfl ?_
      rintro _ _ _ ⟨rfl, rfl, rfl⟩
      refine DA.cl ?_
      repeat (first | refine DA.thn_panic ?_ | refine DA.inb_panic ?_)
      exact bodyA.panic zE ⟨rfl, rfl, rfl⟩
    | ok a =>
      obtain ⟨a, f1⟩ := a
      have hf1 := hx1.ok _ e1
      simp only at hf1
      have hspl : splice ty132.zero 0 [i64 a] = [i64 a, i64 0] := rfl
      cases f1 with
      | zero =>
        have hr : exRun pr.vars cells (.mk 3 v k [x]) f = .error (13, 0) := by rw [exRun, exsRun, e1]; rfl
        refine ⟨fun v' f' h => (by rw [hr] at h; cases h), fun c f' h => ?_⟩
        rw [hr] at h
        simp only [Except.error.injEq, Prod.mk.injEq] at h
        obtain ⟨rfl, rfl⟩ := h
        refine enterA2 Try.func89 rfl rfl rfl ?_
        refine zS ?_; refine zR ?_
        refine XOA.wr0 rfl WrA.bx ?_
        rintro _ _ _ ⟨g3, rfl, rfl, rfl⟩
        refine zO rfl Rd.asg ?_; refine zN ?_; refine zT ?_; refine zS ?_; refine zR ?_
        refine XOA.wr0 rfl (WrA.alloc (tyrow rfl)) ?_
        rintro _ _ _ ⟨g5, rfl, rfl, rfl⟩
        refine zN ?_; refine zT ?_; refine zS ?_; refine zS ?_; refine zR ?_; refine zO rfl (Rd.fA rfl) ?_; refine zO rfl (Rd.ldC rfl (tyrow rfl) rfl) ?_; refine zO rfl (Rd.lenSlice (tyrow rfl) rfl rfl) ?_; refine zO rfl Rd.mv ?_; refine zN ?_; refine zT ?_
        refine XA.block ?_
        refine XA.unroll 2 ?_
        refine XAR.succ ?_
        refine zS ?_; refine zR ?_; refine zO rfl (Rd.lss rfl rfl) ?_; refine zN ?_; refine zT ?_; refine zS ?_
        refine XA.condT rfl rfl ?_
        refine XA.skip ?_
        refine zT ?_; refine zS ?_
        refine XA.block ?_
        refine zS ?_; refine zR ?_; refine zO rfl Rd.mv ?_
        refine zO rfl (Rd.ixS rfl rfl) ?_
        refine zO rfl (Rd.ldA rfl) ?_
        refine XOA.wr0 rfl (WrA.alloc (tyrow rfl)) ?_
        rintro _ _ _ ⟨g7, rfl, rfl, rfl⟩
        refine zO rfl Rd.asg ?_
        refine XOA.wr0 rfl (WrA.st (tyrow rfl) rfl) ?_
        rintro _ _ _ ⟨rfl, rfl, rfl⟩
        refine zN ?_; refine zT ?_; refine zR ?_; refine zO rfl Rd.mv ?_; refine zO rfl Rd.mv ?_; refine zO rfl (Rd.ldA rfl) ?_
        refine XOA.wr0 rfl (WrA.cE (ihk a 0 e1) rfl) ?_
        rintro _ _ _ ⟨_, ⟨rfl, rfl, rfl⟩, rfl⟩
        refine XOA.cl ?_
        refine zO rfl (Rd.ixA rfl rfl) ?_
        refine XOA.wr0 rfl (WrA.st (tyrow rfl) rfl) ?_
        rintro _ _ _ ⟨rfl, rfl, rfl⟩
        refine zN ?_
        refine DA.inb_normal ?_
        refine zT ?_; refine zR ?_
        refine zO rfl (by first | exact Rd.adi rfl rfl | exact Rd.add rfl rfl) ?_
        refine zO rfl Rd.mv ?_; refine zN ?_; refine zT ?_
        refine XAR.succ ?_
        refine zS ?_; refine zR ?_; refine zO rfl (Rd.lss rfl rfl) ?_; refine zN ?_; refine zT ?_; refine zS ?_
        refine XA.condF rfl rfl ?_
        refine XA.exit ?_
        refine DA.thn_exit ?_
        refine DA.thn_exit ?_
        refine DA.inb_same ?_
        refine zT ?_; refine zS ?_; refine zR ?_; refine zO rfl Rd.mv ?_
        refine XOA.die rfl (one_t σ b _ _ _ _ _) rfl ?_
        rintro _ _ _ ⟨rfl, rfl, rfl⟩
        refine DA.cl ?_
        repeat (first | refine DA.thn_panic ?_ | refine DA.inb_panic ?_)
        exact bodyA.panic zE ⟨rfl, rfl, rfl⟩
      | succ f1 =>
        by_cases hka : a < 0 ∨ sizeV pr.vars v ≤ a
        · have hr : exRun pr.vars cells (.mk 3 v k [x]) f = .error (11, f1) := by rw [exRun, exsRun, e1]; show opRun pr.vars cells 3 v k [a] f1 = _; rw [opRun, if_neg (by decide), if_neg (by decide), if_pos rfl]; exact if_pos hka
          refine ⟨fun v' f' h => (by rw [hr] at h; cases h), fun c f' h => ?_⟩
          rw [hr] at h
          simp only [Except.error.injEq, Prod.mk.injEq] at h
          obtain ⟨rfl, rfl⟩ := h
          refine enterA2 Try.func89 rfl rfl rfl ?_
          refine zS ?_; refine zR ?_
          refine XOA.wr0 rfl WrA.bx ?_
          rintro _ _ _ ⟨g3, rfl, rfl, rfl⟩
          refine zO rfl Rd.asg ?_; refine zN ?_; refine zT ?_; refine zS ?_; refine zR ?_
          refine XOA.wr0 rfl (WrA.alloc (tyrow rfl)) ?_
          rintro _ _ _ ⟨g5, rfl, rfl, rfl⟩
          refine zN ?_; refine zT ?_; refine zS ?_; refine zS ?_; refine zR ?_; refine zO rfl (Rd.fA rfl) ?_; refine zO rfl (Rd.ldC rfl (tyrow rfl) rfl) ?_; refine zO rfl (Rd.lenSlice (tyrow rfl) rfl rfl) ?_; refine zO rfl Rd.mv ?_; refine zN ?_; refine zT ?_
          refine XA.block ?_
          refine XA.unroll 2 ?_
          refine XAR.succ ?_
          refine zS ?_; refine zR ?_; refine zO rfl (Rd.lss rfl rfl) ?_; refine zN ?_; refine zT ?_; refine zS ?_
          refine XA.condT rfl rfl ?_
          refine XA.skip ?_
          refine zT ?_; refine zS ?_
          refine XA.block ?_
          refine zS ?_; refine zR ?_; refine zO rfl Rd.mv ?_
          refine zO rfl (Rd.ixS rfl rfl) ?_
          refine zO rfl (Rd.ldA rfl) ?_
          refine XOA.wr0 rfl (WrA.alloc (tyrow rfl)) ?_
          rintro _ _ _ ⟨g7, rfl, rfl, rfl⟩
          refine zO rfl Rd.asg ?_
          refine XOA.wr0 rfl (WrA.st (tyrow rfl) rfl) ?_
          rintro _ _ _ ⟨rfl, rfl, rfl⟩
          refine zN ?_; refine zT ?_; refine zR ?_; refine zO rfl Rd.mv ?_; refine zO rfl Rd.mv ?_; refine zO rfl (Rd.ldA rfl) ?_
          refine XOA.wr0 rfl (WrA.cE (ihk a (f1 + 1) e1) rfl) ?_
          rintro _ _ _ ⟨_, ⟨rfl, rfl, rfl⟩, rfl⟩
          refine XOA.cl ?_
          refine zO rfl (Rd.ixA rfl rfl) ?_
          refine XOA.wr0 rfl (WrA.st (tyrow rfl) rfl) ?_
          rintro _ _ _ ⟨rfl, rfl, rfl⟩
          refine zN ?_
          refine DA.inb_normal ?_
          refine zT ?_; refine zR ?_
          refine zO rfl (by first | exact Rd.adi rfl rfl | exact Rd.add rfl rfl) ?_
          refine zO rfl Rd.mv ?_; refine zN ?_; refine zT ?_
          refine XAR.succ ?_
          refine zS ?_; refine zR ?_; refine zO rfl (Rd.lss rfl rfl) ?_; refine zN ?_; refine zT ?_; refine zS ?_
          refine XA.condF rfl rfl ?_
          refine XA.exit ?_
          refine DA.thn_exit ?_
          refine DA.thn_exit ?_
          refine DA.inb_same ?_
          refine zT ?_; refine zS ?_; refine zR ?_; refine zO rfl Rd.mv ?_
          refine XOA.wr0 rfl (WrA.cE (one_f σ b _ _ _ _ _ f1 (by omega)) rfl) ?_
          rintro _ _ _ ⟨_, ⟨rfl, rfl, rfl⟩, rfl⟩
          refine XOA.cl ?_
          refine zN ?_; refine zT ?_; refine zS ?_; refine zS ?_; refine zR ?_; refine zO rfl (Rd.fA rfl) ?_; refine zO rfl (Rd.ldC rfl (tyrow rfl) rfl) ?_; refine zN ?_; refine zT ?_
          refine XA.block ?_
          refine zS ?_; refine zR ?_; refine zO rfl (Rd.eql rfl rfl) ?_; refine zO rfl Rd.asg ?_; refine zN ?_; refine zT ?_
          refine XA.condF rfl rfl ?_
          refine zS ?_; refine zR ?_; refine zO rfl (Rd.eql rfl rfl) ?_; refine zO rfl Rd.asg ?_; refine zN ?_; refine zT ?_
          refine XA.condF rfl rfl ?_
          refine zS ?_; refine zR ?_; refine zO rfl (Rd.eql rfl rfl) ?_; refine zO rfl Rd.asg ?_; refine zN ?_; refine zT ?_
          refine XA.condT rfl rfl ?_
          refine zS ?_
          refine XA.draw (by kernel_rfl) _ _ [] [(0, .pu), (1, .pu), (2, .pu), (3, .rd), (4, .pu), (5, .pu), (6, .rd), (7, .pu), (8, .rd), (9, .wr), (10, .pu), (11, .rd), (12, .pu)] (by kernel_rfl) (PH.sub.refl _) (Ent.sel (R := blk b _ _) (by ((repeat (first | with_reducible exact Sel.head | apply Sel.tail)); (first | done | fail))) (Ent.sel (R := blk g3 _ _) (by ((repeat (first | with_reducible exact Sel.head | apply Sel.tail)); (first | done | fail))) (Ent.sel (R := blk gc _ _) (by ((repeat (first | with_reducible exact Sel.head | apply Sel.tail)); (first | done | fail))) (Ent.sel (R := blk g5 _ _) (by ((repeat (first | with_reducible exact Sel.head | apply Sel.tail)); (first | done | fail))) (Ent.nil _))))) ?_
          refine XPA.pu rfl rfl Gd.free Rd.mv ?_
          refine XPA.pu rfl rfl Gd.free (Rd.nilCheck rfl) ?_
          refine XPA.pu rfl rfl Gd.free (Rd.fA rfl) ?_
          refine XPA.rd rfl rfl Gd.free (Rd.ldC rfl (tyrow rfl) rfl) ?_
          refine XPA.pu rfl rfl Gd.free Rd.mv ?_
          refine XPA.pu rfl rfl Gd.free (Rd.fA rfl) ?_
          refine XPA.rd rfl rfl Gd.free (Rd.ldC rfl (tyrow rfl) rfl) ?_
          refine XPA.pu rfl rfl Gd.free (Rd.ixA rfl rfl) ?_
          refine XPA.rd rfl rfl Gd.free (Rd.ldC rfl (tyrow rfl) rfl) ?_
          refine XPA.die rfl rfl Gd.free (at_t σ b pr _ cv bs _ _ _ _ v a hp hz hvl hv2 hka) rfl ?_
          rintro _ _ _ ⟨rfl, rfl, rfl⟩
          refine DA.cl ?_
          repeat (first | refine DA.thn_panic ?_ | refine DA.inb_panic ?_)
          exact bodyA.panic zE ⟨rfl, rfl, rfl⟩
        · have hk0 : 0 ≤ a := by omega
          have hk1 : a < sizeV pr.vars v := by omega
          have hat : (ints cells)[(cellOf pr.vars v + a).toNat]? = some (i64 (cells.getD (cellOf pr.vars v + a).toNat 0)) := ints_at (by omega)
          have hr : exRun pr.vars cells (.mk 3 v k [x]) f = .ok (cells.getD (cellOf pr.vars v + a).toNat 0, f1) := by rw [exRun, exsRun, e1]; show opRun pr.vars cells 3 v k [a] f1 = _; rw [opRun, if_neg (by decide), if_neg (by decide), if_pos rfl]; exact if_neg hka
          refine ⟨fun v' f' h => ?_, fun c f' h => (by rw [hr] at h; cases h)⟩
          rw [hr] at h
          simp only [Except.ok.injEq, Prod.mk.injEq] at h
          obtain ⟨rfl, rfl⟩ := h
          refine enterA2 Try.func89 rfl rfl rfl ?_
          refine zS ?_; refine zR ?_
          refine XOA.wr0 rfl WrA.bx ?_
          rintro _ _ _ ⟨g3, rfl, rfl, rfl⟩
          refine zO rfl Rd.asg ?_; refine zN ?_; refine zT ?_; refine zS ?_; refine zR ?_
          refine XOA.wr0 rfl (WrA.alloc (tyrow rfl)) ?_
          rintro _ _ _ ⟨g5, rfl, rfl, rfl⟩
          refine zN ?_; refine zT ?_; refine zS ?_; refine zS ?_; refine zR ?_; refine zO rfl (Rd.fA rfl) ?_; refine zO rfl (Rd.ldC rfl (tyrow rfl) rfl) ?_; refine zO rfl (Rd.lenSlice (tyrow rfl) rfl rfl) ?_; refine zO rfl Rd.mv ?_; refine zN ?_; refine zT ?_
          refine XA.block ?_
          refine XA.unroll 2 ?_
          refine XAR.succ ?_
          refine zS ?_; refine zR ?_; refine zO rfl (Rd.lss rfl rfl) ?_; refine zN ?_; refine zT ?_; refine zS ?_
          refine XA.condT rfl rfl ?_
          refine XA.skip ?_
          refine zT ?_; refine zS ?_
          refine XA.block ?_
          refine zS ?_; refine zR ?_; refine zO rfl Rd.mv ?_
          refine zO rfl (Rd.ixS rfl rfl) ?_
          refine zO rfl (Rd.ldA rfl) ?_
          refine XOA.wr0 rfl (WrA.alloc (tyrow rfl)) ?_
          rintro _ _ _ ⟨g7, rfl, rfl, rfl⟩
          refine zO rfl Rd.asg ?_
          refine XOA.wr0 rfl (WrA.st (tyrow rfl) rfl) ?_
          rintro _ _ _ ⟨rfl, rfl, rfl⟩
          refine zN ?_; refine zT ?_; refine zR ?_; refine zO rfl Rd.mv ?_; refine zO rfl Rd.mv ?_; refine zO rfl (Rd.ldA rfl) ?_
          refine XOA.wr0 rfl (WrA.cE (ihk a (f1 + 1) e1) rfl) ?_
          rintro _ _ _ ⟨_, ⟨rfl, rfl, rfl⟩, rfl⟩
          refine XOA.cl ?_
          refine zO rfl (Rd.ixA rfl rfl) ?_
          refine XOA.wr0 rfl (WrA.st (tyrow rfl) rfl) ?_
          rintro _ _ _ ⟨rfl, rfl, rfl⟩
          refine zN ?_
          refine DA.inb_normal ?_
          refine zT ?_; refine zR ?_
          refine zO rfl (by first | exact Rd.adi rfl rfl | exact Rd.add rfl rfl) ?_
          refine zO rfl Rd.mv ?_; refine zN ?_; refine zT ?_
          refine XAR.succ ?_
          refine zS ?_; refine zR ?_; refine zO rfl (Rd.lss rfl rfl) ?_; refine zN ?_; refine zT ?_; refine zS ?_
          refine XA.condF rfl rfl ?_
          refine XA.exit ?_
          refine DA.thn_exit ?_
          refine DA.thn_exit ?_
          refine DA.inb_same ?_
          refine zT ?_; refine zS ?_; refine zR ?_; refine zO rfl Rd.mv ?_
          refine XOA.wr0 rfl (WrA.cE (one_f σ b _ _ _ _ _ f1 (by omega)) rfl) ?_
          rintro _ _ _ ⟨_, ⟨rfl, rfl, rfl⟩, rfl⟩
          refine XOA.cl ?_
          refine zN ?_; refine zT ?_; refine zS ?_; refine zS ?_; refine zR ?_; refine zO rfl (Rd.fA rfl) ?_; refine zO rfl (Rd.ldC rfl (tyrow rfl) rfl) ?_; refine zN ?_; refine zT ?_
          refine XA.block ?_
          refine zS ?_; refine zR ?_; refine zO rfl (Rd.eql rfl rfl) ?_; refine zO rfl Rd.asg ?_; refine zN ?_; refine zT ?_
          refine XA.condF rfl rfl ?_
          refine zS ?_; refine zR ?_; refine zO rfl (Rd.eql rfl rfl) ?_; refine zO rfl Rd.asg ?_; refine zN ?_; refine zT ?_
          refine XA.condF rfl rfl ?_
          refine zS ?_; refine zR ?_; refine zO rfl (Rd.eql rfl rfl) ?_; refine zO rfl Rd.asg ?_; refine zN ?_; refine zT ?_
          refine XA.condT rfl rfl ?_
          refine zS ?_
          refine XA.draw (by kernel_rfl) _ _ [] [(0, .pu), (1, .pu), (2, .pu), (3, .rd), (4, .pu), (5, .pu), (6, .rd), (7, .pu), (8, .rd), (9, .wr), (10, .pu), (11, .rd), (12, .pu)] (by kernel_rfl) (PH.sub.refl _) (Ent.sel (R := blk b _ _) (by ((repeat (first | with_reducible exact Sel.head | apply Sel.tail)); (first | done | fail))) (Ent.sel (R := blk g3 _ _) (by ((repeat (first | with_reducible exact Sel.head | apply Sel.tail)); (first | done | fail))) (Ent.sel (R := blk gc _ _) (by ((repeat (first | with_reducible exact Sel.head | apply Sel.tail)); (first | done | fail))) (Ent.sel (R := blk g5 _ _) (by ((repeat (first | with_reducible exact Sel.head | apply Sel.tail)); (first | done | fail))) (Ent.nil _))))) ?_
          refine XPA.pu rfl rfl Gd.free Rd.mv ?_
          refine XPA.pu rfl rfl Gd.free (Rd.nilCheck rfl) ?_
          refine XPA.pu rfl rfl Gd.free (Rd.fA rfl) ?_
          refine XPA.rd rfl rfl Gd.free (Rd.ldC rfl (tyrow rfl) rfl) ?_
          refine XPA.pu rfl rfl Gd.free Rd.mv ?_
          refine XPA.pu rfl rfl Gd.free (Rd.fA rfl) ?_
          refine XPA.rd rfl rfl Gd.free (Rd.ldC rfl (tyrow rfl) rfl) ?_
          refine XPA.pu rfl rfl Gd.free (Rd.ixA rfl rfl) ?_
          refine XPA.rd rfl rfl Gd.free (Rd.ldC rfl (tyrow rfl) rfl) ?_
          refine XPA.wr0 rfl rfl Gd.free (WrA.cE (at_f σ b pr _ cv bs _ _ _ _ v a hp hz hvl hv2 hk0 hk1) rfl) ?_
          rintro _ _ _ ⟨_, ⟨rfl, rfl, rfl⟩, rfl⟩
          refine stays (XPA.cl ?_)
          refine XPA.pu rfl rfl Gd.free (Rd.ixS rfl rfl) ?_
          refine XPA.rd rfl rfl Gd.free (Rd.ldC rfl (tyrow rfl) rfl) ?_
          refine XPA.pu rfl rfl Gd.free Rd.asg ?_
          refine XPA.nil ?_
          refine zT ?_
          refine XA.ret ?_
          refine DA.inb_ret ?_
          refine DA.thn_ret ?_
          exact bodyA.ret (ResA.one rfl rfl) zE ⟨rfl, rfl, rfl⟩
  have h48 : 4 ≤ op ∧ op ≤ 8 := by omega
  have hpo : partsOf op = 2 := by rw [partsOf, if_neg (by omega), if_neg q3, if_pos h48]
  obtain ⟨x, y, rfl⟩ := list_2 (hlp.trans hpo)
  simp only [List.length_cons, List.length_nil, Nat.zero_add, Nat.reduceAdd] at hl ⊢
  have hxV := hsV.mem x (by simp)
  have hyV := hsV.mem y (by simp)
  obtain ⟨g, o, row, rfl, hrx, hrl, hrow⟩ := hl.at (show ([x, y] : List Ex)[0]? = some x from rfl)
  obtain ⟨g', o', row', hpe, hry, hrl', hrow'⟩ := hl.at (show ([x, y] : List Ex)[1]? = some y from rfl)
  simp only [Option.some.injEq, Addr.mk.injEq, and_true] at hpe
  obtain ⟨rfl, rfl⟩ := hpe
  have hone := hrx.ones
  have hone' := hry.ones
  have hrow0 : PRow σ g o row := by simpa using hrow
  have hrow1 : PRow σ g (o + 4) row' := by simpa using hrow'
  clear hrow hrow'
  obtain ⟨ihk, ihe⟩ := ih x (by simp) row b pv cv bs gc nc cells vi vo f hp hrx hxV hnc hsz hf
  have hx1 := (exEnd pr.vars cells x f)
  cases e1 : exRun pr.vars cells x f with
  | error e =>
    obtain ⟨c0, f0⟩ := e
    have hr : exRun pr.vars cells (.mk op v k [x, y]) f = .error (c0, f0) := by rw [exRun, exsRun, e1]
    refine ⟨fun v' f' h => (by rw [hr] at h; cases h), fun c f' h => ?_⟩
    rw [hr] at h
    simp only [Except.error.injEq, Prod.mk.injEq] at h
    obtain ⟨rfl, rfl⟩ := h
    refine enterA2 Try.func89 rfl rfl rfl ?_
    refine zS ?_; refine zR ?_
    refine XOA.wr0 rfl WrA.bx ?_
    rintro _ _ _ ⟨g3, rfl, rfl, rfl⟩
    refine zO rfl Rd.asg ?_; refine zN ?_; refine zT ?_; refine zS ?_; refine zR ?_
    refine XOA.wr0 rfl (WrA.alloc (tyrow rfl)) ?_
    rintro _ _ _ ⟨g5, rfl, rfl, rfl⟩
    refine zN ?_; refine zT ?_; refine zS ?_; refine zS ?_; refine zR ?_; refine zO rfl (Rd.fA rfl) ?_; refine zO rfl (Rd.ldC rfl (tyrow rfl) rfl) ?_; refine zO rfl (Rd.lenSlice (tyrow rfl) rfl rfl) ?_; refine zO rfl Rd.mv ?_; refine zN ?_; refine zT ?_
    refine XA.block ?_
    refine XA.unroll 3 ?_
    refine XAR.succ ?_
    refine zS ?_; refine zR ?_; refine zO rfl (Rd.lss rfl rfl) ?_; refine zN ?_; refine zT ?_; refine zS ?_
    refine XA.condT rfl rfl ?_
    refine XA.skip ?_
    refine zT ?_; refine zS ?_
    refine XA.block ?_
    refine zS ?_; refine zR ?_; refine zO rfl Rd.mv ?_
    refine zO rfl (Rd.ixS rfl rfl) ?_
    refine zO rfl (Rd.ldA rfl) ?_
    refine XOA.wr0 rfl (WrA.alloc (tyrow rfl)) ?_
    rintro _ _ _ ⟨g7, rfl, rfl, rfl⟩
    refine zO rfl Rd.asg ?_
    refine XOA.wr0 rfl (WrA.st (tyrow rfl) rfl) ?_
    rintro _ _ _ ⟨rfl, rfl, rfl⟩
    refine zN ?_; refine zT ?_; refine zR ?_; refine zO rfl Rd.mv ?_; refine zO rfl Rd.mv ?_; refine zO rfl (Rd.ldA rfl) ?_
    refine XOA.die rfl (ihe c0 f0 e1) rfl ?_
    rintro _ _ _ ⟨rfl, rfl, rfl⟩
    refine DA.cl ?_
    repeat (first | refine DA.thn_panic ?_ | refine DA.inb_panic ?_)
    exact bodyA.panic zE ⟨rfl, rfl, rfl⟩
  | ok a =>
    obtain ⟨a, f1⟩ := a
    have hf1 := hx1.ok _ e1
    simp only at hf1
    have hspl : splice ty132.zero 0 [i64 a] = [i64 a, i64 0] := rfl
    obtain ⟨jhk, jhe⟩ := ih y (by simp) row' b pv cv bs gc nc cells vi vo f1 hp hry hyV hnc hsz (by omega)
    have hy1 := (exEnd pr.vars cells y f1)
    cases e2 : exRun pr.vars cells y f1 with
    | error e =>
      obtain ⟨c0, f0⟩ := e
      have hr : exRun pr.vars cells (.mk op v k [x, y]) f = .error (c0, f0) := by rw [exRun, exsRun, e1]; simp only [exsRun, e2]
      refine ⟨fun v' f' h => (by rw [hr] at h; cases h), fun c f' h => ?_⟩
      rw [hr] at h
      simp only [Except.error.injEq, Prod.mk.injEq] at h
      obtain ⟨rfl, rfl⟩ := h
      refine enterA2 Try.func89 rfl rfl rfl ?_
      refine zS ?_; refine zR ?_
      refine XOA.wr0 rfl WrA.bx ?_
      rintro _ _ _ ⟨g3, rfl, rfl, rfl⟩
      refine zO rfl Rd.asg ?_; refine zN ?_; refine zT ?_; refine zS ?_; refine zR ?_
      refine XOA.wr0 rfl (WrA.alloc (tyrow rfl)) ?_
      rintro _ _ _ ⟨g5, rfl, rfl, rfl⟩
      refine zN ?_; refine zT ?_; refine zS ?_; refine zS ?_; refine zR ?_; refine zO rfl (Rd.fA rfl) ?_; refine zO rfl (Rd.ldC rfl (tyrow rfl) rfl) ?_; refine zO rfl (Rd.lenSlice (tyrow rfl) rfl rfl) ?_; refine zO rfl Rd.mv ?_; refine zN ?_; refine zT ?_
      refine XA.block ?_
      refine XA.unroll 3 ?_
      refine XAR.succ ?_
      refine zS ?_; refine zR ?_; refine zO rfl (Rd.lss rfl rfl) ?_; refine zN ?_; refine zT ?_; refine zS ?_
      refine XA.condT rfl rfl ?_
      refine XA.skip ?_
      refine zT ?_; refine zS ?_
      refine XA.block ?_
      refine zS ?_; refine zR ?_; refine zO rfl Rd.mv ?_
      refine zO rfl (Rd.ixS rfl rfl) ?_
      refine zO rfl (Rd.ldA rfl) ?_
      refine XOA.wr0 rfl (WrA.alloc (tyrow rfl)) ?_
      rintro _ _ _ ⟨g7, rfl, rfl, rfl⟩
      refine zO rfl Rd.asg ?_
      refine XOA.wr0 rfl (WrA.st (tyrow rfl) rfl) ?_
      rintro _ _ _ ⟨rfl, rfl, rfl⟩
      refine zN ?_; refine zT ?_; refine zR ?_; refine zO rfl Rd.mv ?_; refine zO rfl Rd.mv ?_; refine zO rfl (Rd.ldA rfl) ?_
      refine XOA.wr0 rfl (WrA.cE (ihk a f1 e1) rfl) ?_
      rintro _ _ _ ⟨_, ⟨rfl, rfl, rfl⟩, rfl⟩
      refine XOA.cl ?_
      refine zO rfl (Rd.ixA rfl rfl) ?_
      refine XOA.wr0 rfl (WrA.st (tyrow rfl) rfl) ?_
      rintro _ _ _ ⟨rfl, rfl, rfl⟩
      refine zN ?_
      refine DA.inb_normal ?_
      refine zT ?_; refine zR ?_
      refine zO rfl (by first | exact Rd.adi rfl rfl | exact Rd.add rfl rfl) ?_
      refine zO rfl Rd.mv ?_; refine zN ?_; refine zT ?_
      refine XAR.succ ?_
      refine zS ?_; refine zR ?_; refine zO rfl (Rd.lss rfl rfl) ?_; refine zN ?_; refine zT ?_; refine zS ?_
      refine XA.condT rfl rfl ?_
      refine XA.skip ?_
      refine zT ?_; refine zS ?_
      refine XA.block ?_
      refine zS ?_; refine zR ?_; refine zO rfl Rd.mv ?_
      refine zO rfl (Rd.ixS rfl rfl) ?_
      refine zO rfl (Rd.ldA rfl) ?_
      refine XOA.wr0 rfl (WrA.alloc (tyrow rfl)) ?_
      rintro _ _ _ ⟨g7, rfl, rfl, rfl⟩
      refine zO rfl Rd.asg ?_
      refine XOA.wr0 rfl (WrA.st (tyrow rfl) rfl) ?_
      rintro _ _ _ ⟨rfl, rfl, rfl⟩
      refine zN ?_; refine zT ?_; refine zR ?_; refine zO rfl Rd.mv ?_; refine zO rfl Rd.mv ?_; refine zO rfl (Rd.ldA rfl) ?_
      refine XOA.die rfl (jhe c0 f0 e2) rfl ?_
      rintro _ _ _ ⟨rfl, rfl, rfl⟩
      refine DA.cl ?_
      repeat (first | refine DA.thn_panic ?_ | refine DA.inb_panic ?_)
      exact bodyA.panic zE ⟨rfl, rfl, rfl⟩
    | ok c =>
      obtain ⟨c, f2⟩ := c
      have hf2 := hy1.ok _ e2
      simp only at hf2
      have hspl2 : splice [i64 a, i64 0] 1 [i64 c] = [i64 a, i64 c] := rfl
      cases f2 with
      | zero =>
        have hr : exRun pr.vars cells (.mk op v k [x, y]) f = .error (13, 0) := by rw [exRun, exsRun, e1]; simp only [exsRun, e2]; rfl
        refine ⟨fun v' f' h => (by rw [hr] at h; cases h), fun c f' h => ?_⟩
        rw [hr] at h
        simp only [Except.error.injEq, Prod.mk.injEq] at h
        obtain ⟨rfl, rfl⟩ := h
        refine enterA2 Try.func89 rfl rfl rfl ?_
        refine zS ?_; refine zR ?_
        refine XOA.wr0 rfl WrA.bx ?_
        rintro _ _ _ ⟨g3, rfl, rfl, rfl⟩
        refine zO rfl Rd.asg ?_; refine zN ?_; refine zT ?_; refine zS ?_; refine zR ?_
        refine XOA.wr0 rfl (WrA.alloc (tyrow rfl)) ?_
        rintro _ _ _ ⟨g5, rfl, rfl, rfl⟩
        refine zN ?_; refine zT ?_; refine zS ?_; refine zS ?_; refine zR ?_; refine zO rfl (Rd.fA rfl) ?_; refine zO rfl (Rd.ldC rfl (tyrow rfl) rfl) ?_; refine zO rfl (Rd.lenSlice (tyrow rfl) rfl rfl) ?_; refine zO rfl Rd.mv ?_; refine zN ?_; refine zT ?_
        refine XA.block ?_
        refine XA.unroll 3 ?_
        refine XAR.succ ?_
        refine zS ?_; refine zR ?_; refine zO rfl (Rd.lss rfl rfl) ?_; refine zN ?_; refine zT ?_; refine zS ?_
        refine XA.condT rfl rfl ?_
        refine XA.skip ?_
        refine zT ?_; refine zS ?_
        refine XA.block ?_
        refine zS ?_; refine zR ?_; refine zO rfl Rd.mv ?_
        refine zO rfl (Rd.ixS rfl rfl) ?_
        refine zO rfl (Rd.ldA rfl) ?_
        refine XOA.wr0 rfl (WrA.alloc (tyrow rfl)) ?_
        rintro _ _ _ ⟨g7, rfl, rfl, rfl⟩
        refine zO rfl Rd.asg ?_
        refine XOA.wr0 rfl (WrA.st (tyrow rfl) rfl) ?_
        rintro _ _ _ ⟨rfl, rfl, rfl⟩
        refine zN ?_; refine zT ?_; refine zR ?_; refine zO rfl Rd.mv ?_; refine zO rfl Rd.mv ?_; refine zO rfl (Rd.ldA rfl) ?_
        refine XOA.wr0 rfl (WrA.cE (ihk a f1 e1) rfl) ?_
        rintro _ _ _ ⟨_, ⟨rfl, rfl, rfl⟩, rfl⟩
        refine XOA.cl ?_
        refine zO rfl (Rd.ixA rfl rfl) ?_
        refine XOA.wr0 rfl (WrA.st (tyrow rfl) rfl) ?_
        rintro _ _ _ ⟨rfl, rfl, rfl⟩
        refine zN ?_
        refine DA.inb_normal ?_
        refine zT ?_; refine zR ?_
        refine zO rfl (by first | exact Rd.adi rfl rfl | exact Rd.add rfl rfl) ?_
        refine zO rfl Rd.mv ?_; refine zN ?_; refine zT ?_
        refine XAR.succ ?_
        refine zS ?_; refine zR ?_; refine zO rfl (Rd.lss rfl rfl) ?_; refine zN ?_; refine zT ?_; refine zS ?_
        refine XA.condT rfl rfl ?_
        refine XA.skip ?_
        refine zT ?_; refine zS ?_
        refine XA.block ?_
        refine zS ?_; refine zR ?_; refine zO rfl Rd.mv ?_
        refine zO rfl (Rd.ixS rfl rfl) ?_
        refine zO rfl (Rd.ldA rfl) ?_
        refine XOA.wr0 rfl (WrA.alloc (tyrow rfl)) ?_
        rintro _ _ _ ⟨g7, rfl, rfl, rfl⟩
        refine zO rfl Rd.asg ?_
        refine XOA.wr0 rfl (WrA.st (tyrow rfl) rfl) ?_
        rintro _ _ _ ⟨rfl, rfl, rfl⟩
        refine zN ?_; refine zT ?_; refine zR ?_; refine zO rfl Rd.mv ?_; refine zO rfl Rd.mv ?_; refine zO rfl (Rd.ldA rfl) ?_
        refine XOA.wr0 rfl (WrA.cE (jhk c 0 e2) rfl) ?_
        rintro _ _ _ ⟨_, ⟨rfl, rfl, rfl⟩, rfl⟩
        refine XOA.cl ?_
        refine zO rfl (Rd.ixA rfl rfl) ?_
        refine XOA.wr0 rfl (WrA.st (tyrow rfl) rfl) ?_
        rintro _ _ _ ⟨rfl, rfl, rfl⟩
        refine zN ?_
        refine DA.inb_normal ?_
        refine zT ?_; refine zR ?_
        refine zO rfl (by first | exact Rd.adi rfl rfl | exact Rd.add rfl rfl) ?_
        refine zO rfl Rd.mv ?_; refine zN ?_; refine zT ?_
        refine XAR.succ ?_
        refine zS ?_; refine zR ?_; refine zO rfl (Rd.lss rfl rfl) ?_; refine zN ?_; refine zT ?_; refine zS ?_
        refine XA.condF rfl rfl ?_
        refine XA.exit ?_
        refine DA.thn_exit ?_
        refine DA.thn_exit ?_
        refine DA.inb_same ?_
        refine zT ?_; refine zS ?_; refine zR ?_; refine zO rfl Rd.mv ?_
        refine XOA.die rfl (one_t σ b _ _ _ _ _) rfl ?_
        rintro _ _ _ ⟨rfl, rfl, rfl⟩
        refine DA.cl ?_
        repeat (first | refine DA.thn_panic ?_ | refine DA.inb_panic ?_)
        exact bodyA.panic zE ⟨rfl, rfl, rfl⟩
      | succ f2 =>
        have hr : exRun pr.vars cells (.mk op v k [x, y]) f = .ok (binV op a c, f2) := by
          rw [exRun, exsRun, e1]; simp only [exsRun, e2]; show opRun pr.vars cells op v k [a, c] f2 = _
          rw [opRun, if_neg q1, if_neg q2, if_neg q3]; rfl
        by_cases q4 : op = 4
        · subst q4
          refine ⟨fun v' f' h => ?_, fun c f' h => (by rw [hr] at h; cases h)⟩
          rw [hr] at h
          simp only [Except.ok.injEq, Prod.mk.injEq] at h
          obtain ⟨rfl, rfl⟩ := h
          refine enterA2 Try.func89 rfl rfl rfl ?_
          refine zS ?_; refine zR ?_
          refine XOA.wr0 rfl WrA.bx ?_
          rintro _ _ _ ⟨g3, rfl, rfl, rfl⟩
          refine zO rfl Rd.asg ?_; refine zN ?_; refine zT ?_; refine zS ?_; refine zR ?_
          refine XOA.wr0 rfl (WrA.alloc (tyrow rfl)) ?_
          rintro _ _ _ ⟨g5, rfl, rfl, rfl⟩
          refine zN ?_; refine zT ?_; refine zS ?_; refine zS ?_; refine zR ?_; refine zO rfl (Rd.fA rfl) ?_; refine zO rfl (Rd.ldC rfl (tyrow rfl) rfl) ?_; refine zO rfl (Rd.lenSlice (tyrow rfl) rfl rfl) ?_; refine zO rfl Rd.mv ?_; refine zN ?_; refine zT ?_
          refine XA.block ?_
          refine XA.unroll 3 ?_
          refine XAR.succ ?_
          refine zS ?_; refine zR ?_; refine zO rfl (Rd.lss rfl rfl) ?_; refine zN ?_; refine zT ?_; refine zS ?_
          refine XA.condT rfl rfl ?_
          refine XA.skip ?_
          refine zT ?_; refine zS ?_
          refine XA.block ?_
          refine zS ?_; refine zR ?_; refine zO rfl Rd.mv ?_
          refine zO rfl (Rd.ixS rfl rfl) ?_
          refine zO rfl (Rd.ldA rfl) ?_
          refine XOA.wr0 rfl (WrA.alloc (tyrow rfl)) ?_
          rintro _ _ _ ⟨g7, rfl, rfl, rfl⟩
          refine zO rfl Rd.asg ?_
          refine XOA.wr0 rfl (WrA.st (tyrow rfl) rfl) ?_
          rintro _ _ _ ⟨rfl, rfl, rfl⟩
          refine zN ?_; refine zT ?_; refine zR ?_; refine zO rfl Rd.mv ?_; refine zO rfl Rd.mv ?_; refine zO rfl (Rd.ldA rfl) ?_
          refine XOA.wr0 rfl (WrA.cE (ihk a f1 e1) rfl) ?_
          rintro _ _ _ ⟨_, ⟨rfl, rfl, rfl⟩, rfl⟩
          refine XOA.cl ?_
          refine zO rfl (Rd.ixA rfl rfl) ?_
          refine XOA.wr0 rfl (WrA.st (tyrow rfl) rfl) ?_
          rintro _ _ _ ⟨rfl, rfl, rfl⟩
          refine zN ?_
          refine DA.inb_normal ?_
          refine zT ?_; refine zR ?_
          refine zO rfl (by first | exact Rd.adi rfl rfl | exact Rd.add rfl rfl) ?_
          refine zO rfl Rd.mv ?_; refine zN ?_; refine zT ?_
          refine XAR.succ ?_
          refine zS ?_; refine zR ?_; refine zO rfl (Rd.lss rfl rfl) ?_; refine zN ?_; refine zT ?_; refine zS ?_
          refine XA.condT rfl rfl ?_
          refine XA.skip ?_
          refine zT ?_; refine zS ?_
          refine XA.block ?_
          refine zS ?_; refine zR ?_; refine zO rfl Rd.mv ?_
          refine zO rfl (Rd.ixS rfl rfl) ?_
          refine zO rfl (Rd.ldA rfl) ?_
          refine XOA.wr0 rfl (WrA.alloc (tyrow rfl)) ?_
          rintro _ _ _ ⟨g7, rfl, rfl, rfl⟩
          refine zO rfl Rd.asg ?_
          refine XOA.wr0 rfl (WrA.st (tyrow rfl) rfl) ?_
          rintro _ _ _ ⟨rfl, rfl, rfl⟩
          refine zN ?_; refine zT ?_; refine zR ?_; refine zO rfl Rd.mv ?_; refine zO rfl Rd.mv ?_; refine zO rfl (Rd.ldA rfl) ?_
          refine XOA.wr0 rfl (WrA.cE (jhk c (f2 + 1) e2) rfl) ?_
          rintro _ _ _ ⟨_, ⟨rfl, rfl, rfl⟩, rfl⟩
          refine XOA.cl ?_
          refine zO rfl (Rd.ixA rfl rfl) ?_
          refine XOA.wr0 rfl (WrA.st (tyrow rfl) rfl) ?_
          rintro _ _ _ ⟨rfl, rfl, rfl⟩
          refine zN ?_
          refine DA.inb_normal ?_
          refine zT ?_; refine zR ?_
          refine zO rfl (by first | exact Rd.adi rfl rfl | exact Rd.add rfl rfl) ?_
          refine zO rfl Rd.mv ?_; refine zN ?_; refine zT ?_
          refine XAR.succ ?_
          refine zS ?_; refine zR ?_; refine zO rfl (Rd.lss rfl rfl) ?_; refine zN ?_; refine zT ?_; refine zS ?_
          refine XA.condF rfl rfl ?_
          refine XA.exit ?_
          refine DA.thn_exit ?_
          refine DA.thn_exit ?_
          refine DA.inb_same ?_
          refine zT ?_; refine zS ?_; refine zR ?_; refine zO rfl Rd.mv ?_
          refine XOA.wr0 rfl (WrA.cE (one_f σ b _ _ _ _ _ f2 (by omega)) rfl) ?_
          rintro _ _ _ ⟨_, ⟨rfl, rfl, rfl⟩, rfl⟩
          refine XOA.cl ?_
          refine zN ?_; refine zT ?_; refine zS ?_; refine zS ?_; refine zR ?_; refine zO rfl (Rd.fA rfl) ?_; refine zO rfl (Rd.ldC rfl (tyrow rfl) rfl) ?_; refine zN ?_; refine zT ?_
          refine XA.block ?_
          refine zS ?_; refine zR ?_; refine zO rfl (Rd.eql rfl rfl) ?_; refine zO rfl Rd.asg ?_; refine zN ?_; refine zT ?_
          refine XA.condF rfl rfl ?_
          refine zS ?_; refine zR ?_; refine zO rfl (Rd.eql rfl rfl) ?_; refine zO rfl Rd.asg ?_; refine zN ?_; refine zT ?_
          refine XA.condF rfl rfl ?_
          refine zS ?_; refine zR ?_; refine zO rfl (Rd.eql rfl rfl) ?_; refine zO rfl Rd.asg ?_; refine zN ?_; refine zT ?_
          refine XA.condF rfl rfl ?_
          refine zS ?_; refine zR ?_; refine zO rfl (Rd.eql rfl rfl) ?_; refine zO rfl Rd.asg ?_; refine zN ?_; refine zT ?_
          refine XA.condT rfl rfl ?_
          refine zS ?_; refine zR ?_
          refine zO rfl (Rd.ixA rfl rfl) ?_
          refine zO rfl (Rd.ldC rfl (tyrow rfl) rfl) ?_
          refine zO rfl (Rd.ixA rfl rfl) ?_
          refine zO rfl (Rd.ldC rfl (tyrow rfl) rfl) ?_
          refine zO rfl (by first | exact Rd.adi rfl rfl | exact Rd.add rfl rfl) ?_
          refine zO rfl Rd.asg ?_; refine zN ?_; refine zT ?_
          refine XA.ret ?_
          refine DA.inb_ret ?_
          refine DA.thn_ret ?_
          exact bodyA.ret (ResA.one rfl rfl) zE ⟨rfl, rfl, rfl⟩
        by_cases q5 : op = 5
        · subst q5
          refine ⟨fun v' f' h => ?_, fun c f' h => (by rw [hr] at h; cases h)⟩
          rw [hr] at h
          simp only [Except.ok.injEq, Prod.mk.injEq] at h
          obtain ⟨rfl, rfl⟩ := h
          refine enterA2 Try.func89 rfl rfl rfl ?_
          refine zS ?_; refine zR ?_
          refine XOA.wr0 rfl WrA.bx ?_
          rintro _ _ _ ⟨g3, rfl, rfl, rfl⟩
          refine zO rfl Rd.asg ?_; refine zN ?_; refine zT ?_; refine zS ?_; refine zR ?_
          refine XOA.wr0 rfl (WrA.alloc (tyrow rfl)) ?_
          rintro _ _ _ ⟨g5, rfl, rfl, rfl⟩
          refine zN ?_; refine zT ?_; refine zS ?_; refine zS ?_; refine zR ?_; refine zO rfl (Rd.fA rfl) ?_; refine zO rfl (Rd.ldC rfl (tyrow rfl) rfl) ?_; refine zO rfl (Rd.lenSlice (tyrow rfl) rfl rfl) ?_; refine zO rfl Rd.mv ?_; refine zN ?_; refine zT ?_
          refine XA.block ?_
          refine XA.unroll 3 ?_
          refine XAR.succ ?_
          refine zS ?_; refine zR ?_; refine zO rfl (Rd.lss rfl rfl) ?_; refine zN ?_; refine zT ?_; refine zS ?_
          refine XA.condT rfl rfl ?_
          refine XA.skip ?_
          refine zT ?_; refine zS ?_
          refine XA.block ?_
          refine zS ?_; refine zR ?_; refine zO rfl Rd.mv ?_
          refine zO rfl (Rd.ixS rfl rfl) ?_
          refine zO rfl (Rd.ldA rfl) ?_
          refine XOA.wr0 rfl (WrA.alloc (tyrow rfl)) ?_
          rintro _ _ _ ⟨g7, rfl, rfl, rfl⟩
          refine zO rfl Rd.asg ?_
          refine XOA.wr0 rfl (WrA.st (tyrow rfl) rfl) ?_
          rintro _ _ _ ⟨rfl, rfl, rfl⟩
          refine zN ?_; refine zT ?_; refine zR ?_; refine zO rfl Rd.mv ?_; refine zO rfl Rd.mv ?_; refine zO rfl (Rd.ldA rfl) ?_
          refine XOA.wr0 rfl (WrA.cE (ihk a f1 e1) rfl) ?_
          rintro _ _ _ ⟨_, ⟨rfl, rfl, rfl⟩, rfl⟩
          refine XOA.cl ?_
          refine zO rfl (Rd.ixA rfl rfl) ?_
          refine XOA.wr0 rfl (WrA.st (tyrow rfl) rfl) ?_
          rintro _ _ _ ⟨rfl, rfl, rfl⟩
          refine zN ?_
          refine DA.inb_normal ?_
          refine zT ?_; refine zR ?_
          refine zO rfl (by first | exact Rd.adi rfl rfl | exact Rd.add rfl rfl) ?_
          refine zO rfl Rd.mv ?_; refine zN ?_; refine zT ?_
          refine XAR.succ ?_
          refine zS ?_; refine zR ?_; refine zO rfl (Rd.lss rfl rfl) ?_; refine zN ?_; refine zT ?_; refine zS ?_
          refine XA.condT rfl rfl ?_
          refine XA.skip ?_
          refine zT ?_; refine zS ?_
          refine XA.block ?_
          refine zS ?_; refine zR ?_; refine zO rfl Rd.mv ?_
          refine zO rfl (Rd.ixS rfl rfl) ?_
          refine zO rfl (Rd.ldA rfl) ?_
          refine XOA.wr0 rfl (WrA.alloc (tyrow rfl)) ?_
          rintro _ _ _ ⟨g7, rfl, rfl, rfl⟩
          refine zO rfl Rd.asg ?_
          refine XOA.wr0 rfl (WrA.st (tyrow rfl) rfl) ?_
          rintro _ _ _ ⟨rfl, rfl, rfl⟩
          refine zN ?_; refine zT ?_; refine zR ?_; refine zO rfl Rd.mv ?_; refine zO rfl Rd.mv ?_; refine zO rfl (Rd.ldA rfl) ?_
          refine XOA.wr0 rfl (WrA.cE (jhk c (f2 + 1) e2) rfl) ?_
          rintro _ _ _ ⟨_, ⟨rfl, rfl, rfl⟩, rfl⟩
          refine XOA.cl ?_
          refine zO rfl (Rd.ixA rfl rfl) ?_
          refine XOA.wr0 rfl (WrA.st (tyrow rfl) rfl) ?_
          rintro _ _ _ ⟨rfl, rfl, rfl⟩
          refine zN ?_
          refine DA.inb_normal ?_
          refine zT ?_; refine zR ?_
          refine zO rfl (by first | exact Rd.adi rfl rfl | exact Rd.add rfl rfl) ?_
          refine zO rfl Rd.mv ?_; refine zN ?_; refine zT ?_
          refine XAR.succ ?_
          refine zS ?_; refine zR ?_; refine zO rfl (Rd.lss rfl rfl) ?_; refine zN ?_; refine zT ?_; refine zS ?_
          refine XA.condF rfl rfl ?_
          refine XA.exit ?_
          refine DA.thn_exit ?_
          refine DA.thn_exit ?_
          refine DA.inb_same ?_
          refine zT ?_; refine zS ?_; refine zR ?_; refine zO rfl Rd.mv ?_
          refine XOA.wr0 rfl (WrA.cE (one_f σ b _ _ _ _ _ f2 (by omega)) rfl) ?_
          rintro _ _ _ ⟨_, ⟨rfl, rfl, rfl⟩, rfl⟩
          refine XOA.cl ?_
          refine zN ?_; refine zT ?_; refine zS ?_; refine zS ?_; refine zR ?_; refine zO rfl (Rd.fA rfl) ?_; refine zO rfl (Rd.ldC rfl (tyrow rfl) rfl) ?_; refine zN ?_; refine zT ?_
          refine XA.block ?_
          refine zS ?_; refine zR ?_; refine zO rfl (Rd.eql rfl rfl) ?_; refine zO rfl Rd.asg ?_; refine zN ?_; refine zT ?_
          refine XA.condF rfl rfl ?_
          refine zS ?_; refine zR ?_; refine zO rfl (Rd.eql rfl rfl) ?_; refine zO rfl Rd.asg ?_; refine zN ?_; refine zT ?_
          refine XA.condF rfl rfl ?_
          refine zS ?_; refine zR ?_; refine zO rfl (Rd.eql rfl rfl) ?_; refine zO rfl Rd.asg ?_; refine zN ?_; refine zT ?_
          refine XA.condF rfl rfl ?_
          refine zS ?_; refine zR ?_; refine zO rfl (Rd.eql rfl rfl) ?_; refine zO rfl Rd.asg ?_; refine zN ?_; refine zT ?_
          refine XA.condF rfl rfl ?_
          refine zS ?_; refine zR ?_; refine zO rfl (Rd.eql rfl rfl) ?_; refine zO rfl Rd.asg ?_; refine zN ?_; refine zT ?_
          refine XA.condT rfl rfl ?_
          refine zS ?_; refine zR ?_
          refine zO rfl (Rd.ixA rfl rfl) ?_
          refine zO rfl (Rd.ldC rfl (tyrow rfl) rfl) ?_
          refine zO rfl (Rd.ixA rfl rfl) ?_
          refine zO rfl (Rd.ldC rfl (tyrow rfl) rfl) ?_
          refine zO rfl (by first | exact Rd.sbi rfl rfl | exact Rd.sub rfl rfl) ?_
          refine zO rfl Rd.asg ?_; refine zN ?_; refine zT ?_
          refine XA.ret ?_
          refine DA.inb_ret ?_
          refine DA.thn_ret ?_
          exact bodyA.ret (ResA.one rfl rfl) zE ⟨rfl, rfl, rfl⟩
        by_cases q6 : op = 6
        · subst q6
          refine ⟨fun v' f' h => ?_, fun c f' h => (by rw [hr] at h; cases h)⟩
          rw [hr] at h
          simp only [Except.ok.injEq, Prod.mk.injEq] at h
          obtain ⟨rfl, rfl⟩ := h
          refine enterA2 Try.func89 rfl rfl rfl ?_
          refine zS ?_; refine zR ?_
          refine XOA.wr0 rfl WrA.bx ?_
          rintro _ _ _ ⟨g3, rfl, rfl, rfl⟩
          refine zO rfl Rd.asg ?_; refine zN ?_; refine zT ?_; refine zS ?_; refine zR ?_
          refine XOA.wr0 rfl (WrA.alloc (tyrow rfl)) ?_
          rintro _ _ _ ⟨g5, rfl, rfl, rfl⟩
          refine zN ?_; refine zT ?_; refine zS ?_; refine zS ?_; refine zR ?_; refine zO rfl (Rd.fA rfl) ?_; refine zO rfl (Rd.ldC rfl (tyrow rfl) rfl) ?_; refine zO rfl (Rd.lenSlice (tyrow rfl) rfl rfl) ?_; refine zO rfl Rd.mv ?_; refine zN ?_; refine zT ?_
          refine XA.block ?_
          refine XA.unroll 3 ?_
          refine XAR.succ ?_
          refine zS ?_; refine zR ?_; refine zO rfl (Rd.lss rfl rfl) ?_; refine zN ?_; refine zT ?_; refine zS ?_
          refine XA.condT rfl rfl ?_
          refine XA.skip ?_
          refine zT ?_; refine zS ?_
          refine XA.block ?_
          refine zS ?_; refine zR ?_; refine zO rfl Rd.mv ?_
          refine zO rfl (Rd.ixS rfl rfl) ?_
          refine zO rfl (Rd.ldA rfl) ?_
          refine XOA.wr0 rfl (WrA.alloc (tyrow rfl)) ?_
          rintro _ _ _ ⟨g7, rfl, rfl, rfl⟩
          refine zO rfl Rd.asg ?_
          refine XOA.wr0 rfl (WrA.st (tyrow rfl) rfl) ?_
          rintro _ _ _ ⟨rfl, rfl, rfl⟩
          refine zN ?_; refine zT ?_; refine zR ?_; refine zO rfl Rd.mv ?_; refine zO rfl Rd.mv ?_; refine zO rfl (Rd.ldA rfl) ?_
          refine XOA.wr0 rfl (WrA.cE (ihk a f1 e1) rfl) ?_
          rintro _ _ _ ⟨_, ⟨rfl, rfl, rfl⟩, rfl⟩
          refine XOA.cl ?_
          refine zO rfl (Rd.ixA rfl rfl) ?_
          refine XOA.wr0 rfl (WrA.st (tyrow rfl) rfl) ?_
          rintro _ _ _ ⟨rfl, rfl, rfl⟩
          refine zN ?_
          refine DA.inb_normal ?_
          refine zT ?_; refine zR ?_
          refine zO rfl (by first | exact Rd.adi rfl rfl | exact Rd.add rfl rfl) ?_
          refine zO rfl Rd.mv ?_; refine zN ?_; refine zT ?_
          refine XAR.succ ?_
          refine zS ?_; refine zR ?_; refine zO rfl (Rd.lss rfl rfl) ?_; refine zN ?_; refine zT ?_; refine zS ?_
          refine XA.condT rfl rfl ?_
          refine XA.skip ?_
          refine zT ?_; refine zS ?_
          refine XA.block ?_
          refine zS ?_; refine zR ?_; refine zO rfl Rd.mv ?_
          refine zO rfl (Rd.ixS rfl rfl) ?_
          refine zO rfl (Rd.ldA rfl) ?_
          refine XOA.wr0 rfl (WrA.alloc (tyrow rfl)) ?_
          rintro _ _ _ ⟨g7, rfl, rfl, rfl⟩
          refine zO rfl Rd.asg ?_
          refine XOA.wr0 rfl (WrA.st (tyrow rfl) rfl) ?_
          rintro _ _ _ ⟨rfl, rfl, rfl⟩
          refine zN ?_; refine zT ?_; refine zR ?_; refine zO rfl Rd.mv ?_; refine zO rfl Rd.mv ?_; refine zO rfl (Rd.ldA rfl) ?_
          refine XOA.wr0 rfl (WrA.cE (jhk c (f2 + 1) e2) rfl) ?_
          rintro _ _ _ ⟨_, ⟨rfl, rfl, rfl⟩, rfl⟩
          refine XOA.cl ?_
          refine zO rfl (Rd.ixA rfl rfl) ?_
          refine XOA.wr0 rfl (WrA.st (tyrow rfl) rfl) ?_
          rintro _ _ _ ⟨rfl, rfl, rfl⟩
          refine zN ?_
          refine DA.inb_normal ?_
          refine zT ?_; refine zR ?_
          refine zO rfl (by first | exact Rd.adi rfl rfl | exact Rd.add rfl rfl) ?_
          refine zO rfl Rd.mv ?_; refine zN ?_; refine zT ?_
          refine XAR.succ ?_
          refine zS ?_; refine zR ?_; refine zO rfl (Rd.lss rfl rfl) ?_; refine zN ?_; refine zT ?_; refine zS ?_
          refine XA.condF rfl rfl ?_
          refine XA.exit ?_
          refine DA.thn_exit ?_
          refine DA.thn_exit ?_
          refine DA.inb_same ?_
          refine zT ?_; refine zS ?_; refine zR ?_; refine zO rfl Rd.mv ?_
          refine XOA.wr0 rfl (WrA.cE (one_f σ b _ _ _ _ _ f2 (by omega)) rfl) ?_
          rintro _ _ _ ⟨_, ⟨rfl, rfl, rfl⟩, rfl⟩
          refine XOA.cl ?_
          refine zN ?_; refine zT ?_; refine zS ?_; refine zS ?_; refine zR ?_; refine zO rfl (Rd.fA rfl) ?_; refine zO rfl (Rd.ldC rfl (tyrow rfl) rfl) ?_; refine zN ?_; refine zT ?_
          refine XA.block ?_
          refine zS ?_; refine zR ?_; refine zO rfl (Rd.eql rfl rfl) ?_; refine zO rfl Rd.asg ?_; refine zN ?_; refine zT ?_
          refine XA.condF rfl rfl ?_
          refine zS ?_; refine zR ?_; refine zO rfl (Rd.eql rfl rfl) ?_; refine zO rfl Rd.asg ?_; refine zN ?_; refine zT ?_
          refine XA.condF rfl rfl ?_
          refine zS ?_; refine zR ?_; refine zO rfl (Rd.eql rfl rfl) ?_; refine zO rfl Rd.asg ?_; refine zN ?_; refine zT ?_
          refine XA.condF rfl rfl ?_
          refine zS ?_; refine zR ?_; refine zO rfl (Rd.eql rfl rfl) ?_; refine zO rfl Rd.asg ?_; refine zN ?_; refine zT ?_
          refine XA.condF rfl rfl ?_
          refine zS ?_; refine zR ?_; refine zO rfl (Rd.eql rfl rfl) ?_; refine zO rfl Rd.asg ?_; refine zN ?_; refine zT ?_
          refine XA.condF rfl rfl ?_
          refine zS ?_; refine zR ?_; refine zO rfl (Rd.eql rfl rfl) ?_; refine zO rfl Rd.asg ?_; refine zN ?_; refine zT ?_
          refine XA.condT rfl rfl ?_
          refine zS ?_; refine zR ?_
          refine zO rfl (Rd.ixA rfl rfl) ?_
          refine zO rfl (Rd.ldC rfl (tyrow rfl) rfl) ?_
          refine zO rfl (Rd.ixA rfl rfl) ?_
          refine zO rfl (Rd.ldC rfl (tyrow rfl) rfl) ?_
          refine zO rfl (by first | exact Rd.mli rfl rfl | exact Rd.mul rfl rfl) ?_
          refine zO rfl Rd.asg ?_; refine zN ?_; refine zT ?_
          refine XA.ret ?_
          refine DA.inb_ret ?_
          refine DA.thn_ret ?_
          exact bodyA.ret (ResA.one rfl rfl) zE ⟨rfl, rfl, rfl⟩
        by_cases q7 : op = 7
        · subst q7
          refine ⟨fun v' f' h => ?_, fun c f' h => (by rw [hr] at h; cases h)⟩
          rw [hr] at h
          simp only [Except.ok.injEq, Prod.mk.injEq] at h
          obtain ⟨rfl, rfl⟩ := h
          refine enterA2 Try.func89 rfl rfl rfl ?_
          refine zS ?_; refine zR ?_
          refine XOA.wr0 rfl WrA.bx ?_
          rintro _ _ _ ⟨g3, rfl, rfl, rfl⟩
          refine zO rfl Rd.asg ?_; refine zN ?_; refine zT ?_; refine zS ?_; refine zR ?_
          refine XOA.wr0 rfl (WrA.alloc (tyrow rfl)) ?_
          rintro _ _ _ ⟨g5, rfl, rfl, rfl⟩
          refine zN ?_; refine zT ?_; refine zS ?_; refine zS ?_; refine zR ?_; refine zO rfl (Rd.fA rfl) ?_; refine zO rfl (Rd.ldC rfl (tyrow rfl) rfl) ?_; refine zO rfl (Rd.lenSlice (tyrow rfl) rfl rfl) ?_; refine zO rfl Rd.mv ?_; refine zN ?_; refine zT ?_
          refine XA.block ?_
          refine XA.unroll 3 ?_
          refine XAR.succ ?_
          refine zS ?_; refine zR ?_; refine zO rfl (Rd.lss rfl rfl) ?_; refine zN ?_; refine zT ?_; refine zS ?_
          refine XA.condT rfl rfl ?_
          refine XA.skip ?_
          refine zT ?_; refine zS ?_
          refine XA.block ?_
          refine zS ?_; refine zR ?_; refine zO rfl Rd.mv ?_
          refine zO rfl (Rd.ixS rfl rfl) ?_
          refine zO rfl (Rd.ldA rfl) ?_
          refine XOA.wr0 rfl (WrA.alloc (tyrow rfl)) ?_
          rintro _ _ _ ⟨g7, rfl, rfl, rfl⟩
          refine zO rfl Rd.asg ?_
          refine XOA.wr0 rfl (WrA.st (tyrow rfl) rfl) ?_
          rintro _ _ _ ⟨rfl, rfl, rfl⟩
          refine zN ?_; refine zT ?_; refine zR ?_; refine zO rfl Rd.mv ?_; refine zO rfl Rd.mv ?_; refine zO rfl (Rd.ldA rfl) ?_
          refine XOA.wr0 rfl (WrA.cE (ihk a f1 e1) rfl) ?_
          rintro _ _ _ ⟨_, ⟨rfl, rfl, rfl⟩, rfl⟩
          refine XOA.cl ?_
          refine zO rfl (Rd.ixA rfl rfl) ?_
          refine XOA.wr0 rfl (WrA.st (tyrow rfl) rfl) ?_
          rintro _ _ _ ⟨rfl, rfl, rfl⟩
          refine zN ?_
          refine DA.inb_normal ?_
          refine zT ?_; refine zR ?_
          refine zO rfl (by first | exact Rd.adi rfl rfl | exact Rd.add rfl rfl) ?_
          refine zO rfl Rd.mv ?_; refine zN ?_; refine zT ?_
          refine XAR.succ ?_
          refine zS ?_; refine zR ?_; refine zO rfl (Rd.lss rfl rfl) ?_; refine zN ?_; refine zT ?_; refine zS ?_
          refine XA.condT rfl rfl ?_
          refine XA.skip ?_
          refine zT ?_; refine zS ?_
          refine XA.block ?_
          refine zS ?_; refine zR ?_; refine zO rfl Rd.mv ?_
          refine zO rfl (Rd.ixS rfl rfl) ?_
          refine zO rfl (Rd.ldA rfl) ?_
          refine XOA.wr0 rfl (WrA.alloc (tyrow rfl)) ?_
          rintro _ _ _ ⟨g7, rfl, rfl, rfl⟩
          refine zO rfl Rd.asg ?_
          refine XOA.wr0 rfl (WrA.st (tyrow rfl) rfl) ?_
          rintro _ _ _ ⟨rfl, rfl, rfl⟩
          refine zN ?_; refine zT ?_; refine zR ?_; refine zO rfl Rd.mv ?_; refine zO rfl Rd.mv ?_; refine zO rfl (Rd.ldA rfl) ?_
          refine XOA.wr0 rfl (WrA.cE (jhk c (f2 + 1) e2) rfl) ?_
          rintro _ _ _ ⟨_, ⟨rfl, rfl, rfl⟩, rfl⟩
          refine XOA.cl ?_
          refine zO rfl (Rd.ixA rfl rfl) ?_
          refine XOA.wr0 rfl (WrA.st (tyrow rfl) rfl) ?_
          rintro _ _ _ ⟨rfl, rfl, rfl⟩
          refine zN ?_
          refine DA.inb_normal ?_
          refine zT ?_; refine zR ?_
          refine zO rfl (by first | exact Rd.adi rfl rfl | exact Rd.add rfl rfl) ?_
          refine zO rfl Rd.mv ?_; refine zN ?_; refine zT ?_
          refine XAR.succ ?_
          refine zS ?_; refine zR ?_; refine zO rfl (Rd.lss rfl rfl) ?_; refine zN ?_; refine zT ?_; refine zS ?_
          refine XA.condF rfl rfl ?_
          refine XA.exit ?_
          refine DA.thn_exit ?_
          refine DA.thn_exit ?_
          refine DA.inb_same ?_
          refine zT ?_; refine zS ?_; refine zR ?_; refine zO rfl Rd.mv ?_
          refine XOA.wr0 rfl (WrA.cE (one_f σ b _ _ _ _ _ f2 (by omega)) rfl) ?_
          rintro _ _ _ ⟨_, ⟨rfl, rfl, rfl⟩, rfl⟩
          refine XOA.cl ?_
          refine zN ?_; refine zT ?_; refine zS ?_; refine zS ?_; refine zR ?_; refine zO rfl (Rd.fA rfl) ?_; refine zO rfl (Rd.ldC rfl (tyrow rfl) rfl) ?_; refine zN ?_; refine zT ?_
          refine XA.block ?_
          refine zS ?_; refine zR ?_; refine zO rfl (Rd.eql rfl rfl) ?_; refine zO rfl Rd.asg ?_; refine zN ?_; refine zT ?_
          refine XA.condF rfl rfl ?_
          refine zS ?_; refine zR ?_; refine zO rfl (Rd.eql rfl rfl) ?_; refine zO rfl Rd.asg ?_; refine zN ?_; refine zT ?_
          refine XA.condF rfl rfl ?_
          refine zS ?_; refine zR ?_; refine zO rfl (Rd.eql rfl rfl) ?_; refine zO rfl Rd.asg ?_; refine zN ?_; refine zT ?_
          refine XA.condF rfl rfl ?_
          refine zS ?_; refine zR ?_; refine zO rfl (Rd.eql rfl rfl) ?_; refine zO rfl Rd.asg ?_; refine zN ?_; refine zT ?_
          refine XA.condF rfl rfl ?_
          refine zS ?_; refine zR ?_; refine zO rfl (Rd.eql rfl rfl) ?_; refine zO rfl Rd.asg ?_; refine zN ?_; refine zT ?_
          refine XA.condF rfl rfl ?_
          refine zS ?_; refine zR ?_; refine zO rfl (Rd.eql rfl rfl) ?_; refine zO rfl Rd.asg ?_; refine zN ?_; refine zT ?_
          refine XA.condF rfl rfl ?_
          refine zS ?_; refine zR ?_; refine zO rfl (Rd.eql rfl rfl) ?_; refine zO rfl Rd.asg ?_; refine zN ?_; refine zT ?_
          refine XA.condT rfl rfl ?_
          refine zS ?_; refine zR ?_
          refine zO rfl (Rd.ixA rfl rfl) ?_
          refine zO rfl (Rd.ldC rfl (tyrow rfl) rfl) ?_
          refine zO rfl (Rd.ixA rfl rfl) ?_
          refine zO rfl (Rd.ldC rfl (tyrow rfl) rfl) ?_; refine zO rfl (Rd.lss rfl rfl) ?_
          refine XOA.wr0 rfl (WrA.cE (flag_a σ _) rfl) ?_
          rintro _ _ _ ⟨_, ⟨rfl, rfl, rfl⟩, rfl⟩
          refine XOA.cl ?_
          refine zO rfl Rd.asg ?_; refine zN ?_; refine zT ?_
          refine XA.ret ?_
          refine DA.inb_ret ?_
          refine DA.thn_ret ?_
          exact bodyA.ret (ResA.one rfl rfl) zE ⟨by simp [binV], rfl, rfl⟩
        by_cases q8 : op = 8
        · subst q8
          refine ⟨fun v' f' h => ?_, fun c f' h => (by rw [hr] at h; cases h)⟩
          rw [hr] at h
          simp only [Except.ok.injEq, Prod.mk.injEq] at h
          obtain ⟨rfl, rfl⟩ := h
          refine enterA2 Try.func89 rfl rfl rfl ?_
          refine zS ?_; refine zR ?_
          refine XOA.wr0 rfl WrA.bx ?_
          rintro _ _ _ ⟨g3, rfl, rfl, rfl⟩
          refine zO rfl Rd.asg ?_; refine zN ?_; refine zT ?_; refine zS ?_; refine zR ?_
          refine XOA.wr0 rfl (WrA.alloc (tyrow rfl)) ?_
          rintro _ _ _ ⟨g5, rfl, rfl, rfl⟩
          refine zN ?_; refine zT ?_; refine zS ?_; refine zS ?_; refine zR ?_; refine zO rfl (Rd.fA rfl) ?_; refine zO rfl (Rd.ldC rfl (tyrow rfl) rfl) ?_; refine zO rfl (Rd.lenSlice (tyrow rfl) rfl rfl) ?_; refine zO rfl Rd.mv ?_; refine zN ?_; refine zT ?_
          refine XA.block ?_
          refine XA.unroll 3 ?_
          refine XAR.succ ?_
          refine zS ?_; refine zR ?_; refine zO rfl (Rd.lss rfl rfl) ?_; refine zN ?_; refine zT ?_; refine zS ?_
          refine XA.condT rfl rfl ?_
          refine XA.skip ?_
          refine zT ?_; refine zS ?_
          refine XA.block ?_
          refine zS ?_; refine zR ?_; refine zO rfl Rd.mv ?_
          refine zO rfl (Rd.ixS rfl rfl) ?_
          refine zO rfl (Rd.ldA rfl) ?_
          refine XOA.wr0 rfl (WrA.alloc (tyrow rfl)) ?_
          rintro _ _ _ ⟨g7, rfl, rfl, rfl⟩
          refine zO rfl Rd.asg ?_
          refine XOA.wr0 rfl (WrA.st (tyrow rfl) rfl) ?_
          rintro _ _ _ ⟨rfl, rfl, rfl⟩
          refine zN ?_; refine zT ?_; refine zR ?_; refine zO rfl Rd.mv ?_; refine zO rfl Rd.mv ?_; refine zO rfl (Rd.ldA rfl) ?_
          refine XOA.wr0 rfl (WrA.cE (ihk a f1 e1) rfl) ?_
          rintro _ _ _ ⟨_, ⟨rfl, rfl, rfl⟩, rfl⟩
          refine XOA.cl ?_
          refine zO rfl (Rd.ixA rfl rfl) ?_
          refine XOA.wr0 rfl (WrA.st (tyrow rfl) rfl) ?_
          rintro _ _ _ ⟨rfl, rfl, rfl⟩
          refine zN ?_
          refine DA.inb_normal ?_
          refine zT ?_; refine zR ?_
          refine zO rfl (by first | exact Rd.adi rfl rfl | exact Rd.add rfl rfl) ?_
          refine zO rfl Rd.mv ?_; refine zN ?_; refine zT ?_
          refine XAR.succ ?_
          refine zS ?_; refine zR ?_; refine zO rfl (Rd.lss rfl rfl) ?_; refine zN ?_; refine zT ?_; refine zS ?_
          refine XA.condT rfl rfl ?_
          refine XA.skip ?_
          refine zT ?_; refine zS ?_
          refine XA.block ?_
          refine zS ?_; refine zR ?_; refine zO rfl Rd.mv ?_
          refine zO rfl (Rd.ixS rfl rfl) ?_
          refine zO rfl (Rd.ldA rfl) ?_
          refine XOA.wr0 rfl (WrA.alloc (tyrow rfl)) ?_
          rintro _ _ _ ⟨g7, rfl, rfl, rfl⟩
          refine zO rfl Rd.asg ?_
          refine XOA.wr0 rfl (WrA.st (tyrow rfl) rfl) ?_
          rintro _ _ _ ⟨rfl, rfl, rfl⟩
          refine zN ?_; refine zT ?_; refine zR ?_; refine zO rfl Rd.mv ?_; refine zO rfl Rd.mv ?_; refine zO rfl (Rd.ldA rfl) ?_
          refine XOA.wr0 rfl (WrA.cE (jhk c (f2 + 1) e2) rfl) ?_
          rintro _ _ _ ⟨_, ⟨rfl, rfl, rfl⟩, rfl⟩
          refine XOA.cl ?_
          refine zO rfl (Rd.ixA rfl rfl) ?_
          refine XOA.wr0 rfl (WrA.st (tyrow rfl) rfl) ?_
          rintro _ _ _ ⟨rfl, rfl, rfl⟩
          refine zN ?_
          refine DA.inb_normal ?_
          refine zT ?_; refine zR ?_
          refine zO rfl (by first | exact Rd.adi rfl rfl | exact Rd.add rfl rfl) ?_
          refine zO rfl Rd.mv ?_; refine zN ?_; refine zT ?_
          refine XAR.succ ?_
          refine zS ?_; refine zR ?_; refine zO rfl (Rd.lss rfl rfl) ?_; refine zN ?_; refine zT ?_; refine zS ?_
          refine XA.condF rfl rfl ?_
          refine XA.exit ?_
          refine DA.thn_exit ?_
          refine DA.thn_exit ?_
          refine DA.inb_same ?_
          refine zT ?_; refine zS ?_; refine zR ?_; refine zO rfl Rd.mv ?_
          refine XOA.wr0 rfl (WrA.cE (one_f σ b _ _ _ _ _ f2 (by omega)) rfl) ?_
          rintro _ _ _ ⟨_, ⟨rfl, rfl, rfl⟩, rfl⟩
          refine XOA.cl ?_
          refine zN ?_; refine zT ?_; refine zS ?_; refine zS ?_; refine zR ?_; refine zO rfl (Rd.fA rfl) ?_; refine zO rfl (Rd.ldC rfl (tyrow rfl) rfl) ?_; refine zN ?_; refine zT ?_
          refine XA.block ?_
          refine zS ?_; refine zR ?_; refine zO rfl (Rd.eql rfl rfl) ?_; refine zO rfl Rd.asg ?_; refine zN ?_; refine zT ?_
          refine XA.condF rfl rfl ?_
          refine zS ?_; refine zR ?_; refine zO rfl (Rd.eql rfl rfl) ?_; refine zO rfl Rd.asg ?_; refine zN ?_; refine zT ?_
          refine XA.condF rfl rfl ?_
          refine zS ?_; refine zR ?_; refine zO rfl (Rd.eql rfl rfl) ?_; refine zO rfl Rd.asg ?_; refine zN ?_; refine zT ?_
          refine XA.condF rfl rfl ?_
          refine zS ?_; refine zR ?_; refine zO rfl (Rd.eql rfl rfl) ?_; refine zO rfl Rd.asg ?_; refine zN ?_; refine zT ?_
          refine XA.condF rfl rfl ?_
          refine zS ?_; refine zR ?_; refine zO rfl (Rd.eql rfl rfl) ?_; refine zO rfl Rd.asg ?_; refine zN ?_; refine zT ?_
          refine XA.condF rfl rfl ?_
          refine zS ?_; refine zR ?_; refine zO rfl (Rd.eql rfl rfl) ?_; refine zO rfl Rd.asg ?_; refine zN ?_; refine zT ?_
          refine XA.condF rfl rfl ?_
          refine zS ?_; refine zR ?_; refine zO rfl (Rd.eql rfl rfl) ?_; refine zO rfl Rd.asg ?_; refine zN ?_; refine zT ?_
          refine XA.condF rfl rfl ?_
          refine XA.skip ?_
          refine DA.inb_normal ?_
          refine zT ?_; refine zS ?_; refine zR ?_
          refine zO rfl (Rd.ixA rfl rfl) ?_
          refine zO rfl (Rd.ldC rfl (tyrow rfl) rfl) ?_
          refine zO rfl (Rd.ixA rfl rfl) ?_
          refine zO rfl (Rd.ldC rfl (tyrow rfl) rfl) ?_; refine zO rfl (Rd.eql rfl rfl) ?_
          refine XOA.wr0 rfl (WrA.cE (flag_a σ _) rfl) ?_
          rintro _ _ _ ⟨_, ⟨rfl, rfl, rfl⟩, rfl⟩
          refine XOA.cl ?_
          refine zO rfl Rd.asg ?_; refine zN ?_; refine zT ?_
          refine XA.ret ?_
          exact bodyA.ret (ResA.one rfl rfl) zE ⟨by simp [binV], rfl, rfl⟩
        omega
end Go.Proofs.Ytbbghdkndbpmmaa
