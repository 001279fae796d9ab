/- Package ideal: a statement. -/
import Derived.Test.YtbbghdkndbpmmaaJt
namespace Go.Proofs.Ytbbghdkndbpmmaa
open Go X
set_option maxHeartbeats 2000000
theorem isF_left {vs : List Va} {cells : List Int} {x : Ex} {f : Nat} {b : Bool} {k : Nat} (h : isF vs cells x f = .ok (b, k)) : k ≤ f := by
  rw [isF] at h
  cases e : exRun vs cells x f with
  | error q => rw [e] at h; cases h
  | ok q =>
    obtain ⟨n, k0⟩ := q
    have := (exEnd vs cells x f).ok _ e
    rw [e] at h
    simp only at h this
    cases k0 with
    | zero => cases h
    | succ k0 => rw [oneF_s] at h; cases h; omega
theorem stmt_r (σ : PH) (pr : Pr) (h1 : ∀ x ∈ pr.vars, 1 ≤ x.size) (hz : ∀ x ∈ pr.vars, 0 ≤ x.size ∧ x.size ≤ 1000) (hvl : pr.vars.length ≤ 1000) : ∀ (g : Nat) (x : St), StmtR g σ pr x := by
  intro g
  induction g using Nat.strongRecOn with
  | _ g ih =>
  intro x
  obtain ⟨op, v, ex, fx, body, els⟩ := x
  intro cs b pv cv bs gc nc s vi po co r hp hx hV hF hvi hr
  obtain ⟨pe, de, pf, df, pb, cb, pl, cl, rfl, -, -, hxe, hxf, hxb, hxl⟩ := hx.inv12
  simp only [St.op, St.v, St.e, St.f, St.body, St.els] at hxe hxf hxb hxl ⊢
  clear hx
  rw [StV] at hV
  obtain ⟨hop, hv, he, hf, -, -, hsb, hse⟩ := hV
  cases g with
  | zero => cases hr
  | succ g =>
  obtain ⟨cells, inp, out, f⟩ := s
  obtain ⟨hcl, hsz, hleft, hout⟩ := hF
  simp only at hcl hsz hleft hout hvi ⊢
  by_cases q1 : op = 1
  · subst q1
    rw [stG, if_pos rfl] at hr
    have hv2 := hv rfl
    obtain ⟨vx, hvx, hsv, hc0, hc1, hc2⟩ := var_at h1 hv2
    have hE := expr_r σ pr h1 hz hvl ex _ b pv cv bs gc nc cells vi (.slice po out.length co) f hp hxe (he rfl).1 hcl hsz (by omega)
    have hx1 := exEnd pr.vars cells ex f
    cases e1 : exRun pr.vars cells ex f with
    | error q =>
      obtain ⟨c0, k⟩ := q
      rw [show setS pr.vars v ex ⟨cells, inp, out, f⟩ = .error (c0, ⟨cells, inp, out, k⟩) by simp [setS, exS, e1]] at hr
      cases hr
      refine enterA2 Try.func73 rfl rfl rfl ?_
      refine zS ?_; refine zR ?_
      refine XOA.wr0 rfl WrA.bx ?_
      rintro _ _ _ ⟨g3, rfl, rfl, rfl⟩
      refine zN ?_; refine zT ?_; refine zS ?_; refine zR ?_; refine zO rfl (Rd.fA rfl) ?_; refine zO rfl (Rd.ldC rfl (tyrow rfl) rfl) ?_; refine zN ?_; refine zT ?_
      refine XA.block ?_
      refine zS ?_; refine zR ?_; refine zO rfl (Rd.eql rfl rfl) ?_; refine zO rfl Rd.asg ?_; refine zN ?_; refine zT ?_
      refine XA.condT rfl rfl ?_
      refine zS ?_; refine zR ?_; refine zO rfl Rd.mv ?_; refine zO rfl (Rd.fA rfl) ?_; refine zO rfl (Rd.ldA rfl) ?_
      refine XOA.die rfl (hE.2 c0 k e1) rfl ?_
      rintro _ _ _ ⟨rfl, rfl, rfl⟩
      refine DA.cl ?_
      repeat (first | refine DA.thn_panic ?_ | refine DA.inb_panic ?_)
      exact bodyA.panic zE ⟨rfl, rfl, vi, po, co, hvi, rfl⟩
    | ok q =>
      obtain ⟨n, k⟩ := q
      have hk := hx1.ok _ e1
      simp only at hk
      cases k with
      | zero =>
        rw [show setS pr.vars v ex ⟨cells, inp, out, f⟩ = .error (13, ⟨cells, inp, out, 0⟩) by simp [setS, exS, e1, oneS]] at hr
        cases hr
        refine enterA2 Try.func73 rfl rfl rfl ?_
        refine zS ?_; refine zR ?_
        refine XOA.wr0 rfl WrA.bx ?_
        rintro _ _ _ ⟨g3, rfl, rfl, rfl⟩
        refine zN ?_; refine zT ?_; refine zS ?_; refine zR ?_; refine zO rfl (Rd.fA rfl) ?_; refine zO rfl (Rd.ldC rfl (tyrow rfl) rfl) ?_; refine zN ?_; refine zT ?_
        refine XA.block ?_
        refine zS ?_; refine zR ?_; refine zO rfl (Rd.eql rfl rfl) ?_; refine zO rfl Rd.asg ?_; refine zN ?_; refine zT ?_
        refine XA.condT rfl rfl ?_
        refine zS ?_; refine zR ?_; refine zO rfl Rd.mv ?_; refine zO rfl (Rd.fA rfl) ?_; refine zO rfl (Rd.ldA rfl) ?_
        refine XOA.wr0 rfl (WrA.cE (hE.1 n 0 e1) rfl) ?_
        rintro _ _ _ ⟨_, ⟨rfl, rfl, rfl⟩, rfl⟩
        refine XOA.cl ?_
        refine zO rfl Rd.asg ?_; refine zN ?_; refine zT ?_; refine zS ?_; refine zR ?_; refine zO rfl Rd.mv ?_
        refine XOA.die rfl (one_t σ b _ _ _ _ _) rfl ?_
        rintro _ _ _ ⟨rfl, rfl, rfl⟩
        refine DA.cl ?_
        repeat (first | refine DA.thn_panic ?_ | refine DA.inb_panic ?_)
        exact bodyA.panic zE ⟨rfl, rfl, vi, po, co, hvi, rfl⟩
      | succ k =>
        rw [show setS pr.vars v ex ⟨cells, inp, out, f⟩ = .ok ⟨cells.set (cellOf pr.vars v).toNat n, inp, out, k⟩ by simp [setS, exS, e1, oneS]] at hr
        cases hr
        have hfit : (cellOf pr.vars v + 0).toNat + ty2.size ≤ (ints cells).length := by rw [show (ints cells).length = nc by simp [ints, hcl]]; show _ + 1 ≤ _; omega
        have hspl : splice (ints cells) (cellOf pr.vars v + 0).toNat [i64 n] = ints (cells.set (cellOf pr.vars v).toNat n) := by rw [Int.add_zero]; exact ints_cell _ _ (by omega)
        refine enterA2 Try.func73 rfl rfl rfl ?_
        refine zS ?_; refine zR ?_
        refine XOA.wr0 rfl WrA.bx ?_
        rintro _ _ _ ⟨g3, rfl, rfl, rfl⟩
        refine zN ?_; refine zT ?_; refine zS ?_; refine zR ?_; refine zO rfl (Rd.fA rfl) ?_; refine zO rfl (Rd.ldC rfl (tyrow rfl) rfl) ?_; refine zN ?_; refine zT ?_
        refine XA.block ?_
        refine zS ?_; refine zR ?_; refine zO rfl (Rd.eql rfl rfl) ?_; refine zO rfl Rd.asg ?_; refine zN ?_; refine zT ?_
        refine XA.condT rfl rfl ?_
        refine zS ?_; refine zR ?_; refine zO rfl Rd.mv ?_; refine zO rfl (Rd.fA rfl) ?_; refine zO rfl (Rd.ldA rfl) ?_
        refine XOA.wr0 rfl (WrA.cE (hE.1 n (k + 1) e1) rfl) ?_
        rintro _ _ _ ⟨_, ⟨rfl, rfl, rfl⟩, rfl⟩
        refine XOA.cl ?_
        refine zO rfl Rd.asg ?_; refine zN ?_; refine zT ?_; refine zS ?_; refine zR ?_; refine zO rfl Rd.mv ?_
        refine XOA.wr0 rfl (WrA.cE (one_f σ b _ _ _ _ _ k (by omega)) rfl) ?_
        rintro _ _ _ ⟨_, ⟨rfl, rfl, rfl⟩, rfl⟩
        refine XOA.cl ?_
        refine zN ?_; refine zT ?_
        refine XA.draw (by kernel_rfl) _ _ [10] [(0, .pu), (1, .pu), (2, .pu), (3, .rd), (4, .pu), (5, .pu), (6, .rd), (8, .pu), (7, .wr), (9, .pu), (10, .wr)] (by kernel_rfl) (PH.sub.refl _) (Ent.sel (R := blk b _ _) (by ((repeat (first | with_reducible exact Sel.head | apply Sel.tail)); (first | done | fail))) (Ent.sel (R := blk g3 _ _) (by ((repeat (first | with_reducible exact Sel.head | apply Sel.tail)); (first | done | fail))) (Ent.nil _))) ?_
        refine XPA.pu rfl rfl Gd.free Rd.mv ?_
        refine XPA.pu rfl rfl Gd.free (Rd.nilCheck rfl) ?_
        refine XPA.pu rfl rfl Gd.free (Rd.fA rfl) ?_
        refine XPA.rd rfl rfl Gd.free (Rd.ldC rfl (tyrow rfl) rfl) ?_
        refine XPA.pu rfl rfl Gd.free Rd.mv ?_
        refine XPA.pu rfl rfl Gd.free (Rd.fA rfl) ?_
        refine XPA.rd rfl rfl Gd.free (Rd.ldC rfl (tyrow rfl) rfl) ?_
        refine XPA.pu rfl rfl Gd.free Rd.mv ?_
        refine XPA.wr0 rfl rfl Gd.free (WrA.cE (at_f σ b pr _ cv bs _ _ _ _ v 0 hp hz hvl hv2 (by decide) (by omega)) rfl) ?_
        rintro _ _ _ ⟨_, ⟨rfl, rfl, rfl⟩, rfl⟩
        refine stays (XPA.cl ?_)
        refine XPA.pu rfl rfl Gd.free (Rd.ixS rfl rfl) ?_
        refine XPA.wrZ0 rfl rfl Gd.free (by kernel_rfl) (WrA.st (tyrow rfl) rfl) ?_
        rintro _ _ _ ⟨rfl, rfl, rfl⟩
        refine XPA.nil ?_
        refine DA.inb_normal ?_
        exact bodyA.normal (ResA.none rfl) zE ⟨rfl, rfl, vi, po, co, hvi, rfl⟩
  by_cases q2 : op = 2
  · subst q2
    rw [stG, if_neg (by decide), if_pos rfl] at hr
    have hv2 := hv rfl
    obtain ⟨vx, hvx, hsv, hc0, hc1, hc2⟩ := var_at h1 hv2
    have hE := expr_r σ pr h1 hz hvl ex _ b pv cv bs gc nc cells vi (.slice po out.length co) f hp hxe (he rfl).1 hcl hsz (by omega)
    have hx1 := exEnd pr.vars cells ex f
    cases e1 : exRun pr.vars cells ex f with
    | error q =>
      obtain ⟨c0, k⟩ := q
      rw [show putS pr.vars v ex fx ⟨cells, inp, out, f⟩ = .error (c0, ⟨cells, inp, out, k⟩) by simp [putS, exS, e1]] at hr
      cases hr
      refine enterA2 Try.func73 rfl rfl rfl ?_
      refine zS ?_; refine zR ?_
      refine XOA.wr0 rfl WrA.bx ?_
      rintro _ _ _ ⟨g3, rfl, rfl, rfl⟩
      refine zN ?_; refine zT ?_; refine zS ?_; refine zR ?_; refine zO rfl (Rd.fA rfl) ?_; refine zO rfl (Rd.ldC rfl (tyrow rfl) rfl) ?_; refine zN ?_; refine zT ?_
      refine XA.block ?_
      refine zS ?_; refine zR ?_; refine zO rfl (Rd.eql rfl rfl) ?_; refine zO rfl Rd.asg ?_; refine zN ?_; refine zT ?_
      refine XA.condF rfl rfl ?_
      refine zS ?_; refine zR ?_; refine zO rfl (Rd.eql rfl rfl) ?_; refine zO rfl Rd.asg ?_; refine zN ?_; refine zT ?_
      refine XA.condT rfl rfl ?_
      refine zS ?_
      refine XA.draw (by kernel_rfl) _ _ [7] [(0, .pu), (1, .pu), (2, .rd), (4, .pu), (5, .pu), (6, .rd), (3, .wr), (7, .wr), (8, .pu), (9, .pu)] (by kernel_rfl) (PH.sub.refl _) (Ent.sel (R := blk g3 _ _) (by ((repeat (first | with_reducible exact Sel.head | apply Sel.tail)); (first | done | fail))) (Ent.nil _)) ?_
      refine XPA.pu rfl rfl Gd.free Rd.mv ?_
      refine XPA.pu rfl rfl Gd.free (Rd.fA rfl) ?_
      refine XPA.rd rfl rfl Gd.free (Rd.ldA rfl) ?_
      refine XPA.pu rfl rfl Gd.free Rd.mv ?_
      refine XPA.pu rfl rfl Gd.free (Rd.fA rfl) ?_
      refine XPA.rd rfl rfl Gd.free (Rd.ldA rfl) ?_
      refine XPA.die rfl rfl Gd.free (hE.2 c0 k e1) rfl ?_
      rintro _ _ _ ⟨rfl, rfl, rfl⟩
      refine DA.cl ?_
      repeat (first | refine DA.thn_panic ?_ | refine DA.inb_panic ?_)
      exact bodyA.panic zE ⟨rfl, rfl, vi, po, co, hvi, rfl⟩
    | ok q =>
      obtain ⟨a, k⟩ := q
      have hk := hx1.ok _ e1
      simp only at hk
      have hE2 := expr_r σ pr h1 hz hvl fx _ b pv cv bs gc nc cells vi (.slice po out.length co) k hp hxf (hf rfl).1 hcl hsz (by omega)
      have hx2 := exEnd pr.vars cells fx k
      cases e2 : exRun pr.vars cells fx k with
      | error q =>
        obtain ⟨c0, k2⟩ := q
        rw [show putS pr.vars v ex fx ⟨cells, inp, out, f⟩ = .error (c0, ⟨cells, inp, out, k2⟩) by simp [putS, exS, e1, e2]] at hr
        cases hr
        refine enterA2 Try.func73 rfl rfl rfl ?_
        refine zS ?_; refine zR ?_
        refine XOA.wr0 rfl WrA.bx ?_
        rintro _ _ _ ⟨g3, rfl, rfl, rfl⟩
        refine zN ?_; refine zT ?_; refine zS ?_; refine zR ?_; refine zO rfl (Rd.fA rfl) ?_; refine zO rfl (Rd.ldC rfl (tyrow rfl) rfl) ?_; refine zN ?_; refine zT ?_
        refine XA.block ?_
        refine zS ?_; refine zR ?_; refine zO rfl (Rd.eql rfl rfl) ?_; refine zO rfl Rd.asg ?_; refine zN ?_; refine zT ?_
        refine XA.condF rfl rfl ?_
        refine zS ?_; refine zR ?_; refine zO rfl (Rd.eql rfl rfl) ?_; refine zO rfl Rd.asg ?_; refine zN ?_; refine zT ?_
        refine XA.condT rfl rfl ?_
        refine zS ?_
        refine XA.draw (by kernel_rfl) _ _ [7] [(0, .pu), (1, .pu), (2, .rd), (4, .pu), (5, .pu), (6, .rd), (3, .wr), (7, .wr), (8, .pu), (9, .pu)] (by kernel_rfl) (PH.sub.refl _) (Ent.sel (R := blk g3 _ _) (by ((repeat (first | with_reducible exact Sel.head | apply Sel.tail)); (first | done | fail))) (Ent.nil _)) ?_
        refine XPA.pu rfl rfl Gd.free Rd.mv ?_
        refine XPA.pu rfl rfl Gd.free (Rd.fA rfl) ?_
        refine XPA.rd rfl rfl Gd.free (Rd.ldA rfl) ?_
        refine XPA.pu rfl rfl Gd.free Rd.mv ?_
        refine XPA.pu rfl rfl Gd.free (Rd.fA rfl) ?_
        refine XPA.rd rfl rfl Gd.free (Rd.ldA rfl) ?_
        refine XPA.wr0 rfl rfl Gd.free (WrA.cE (hE.1 a k e1) rfl) ?_
        rintro _ _ _ ⟨_, ⟨rfl, rfl, rfl⟩, rfl⟩
        refine stays (XPA.cl ?_)
        refine XPA.die rfl rfl Gd.free (hE2.2 c0 k2 e2) rfl ?_
        rintro _ _ _ ⟨rfl, rfl, rfl⟩
        refine DA.cl ?_
        repeat (first | refine DA.thn_panic ?_ | refine DA.inb_panic ?_)
        exact bodyA.panic zE ⟨rfl, rfl, vi, po, co, hvi, rfl⟩
      | ok q =>
        obtain ⟨n, k2⟩ := q
        have hk2 := hx2.ok _ e2
        simp only at hk2
        cases k2 with
        | zero =>
          rw [show putS pr.vars v ex fx ⟨cells, inp, out, f⟩ = .error (13, ⟨cells, inp, out, 0⟩) by simp [putS, exS, e1, e2, oneS]] at hr
          cases hr
          refine enterA2 Try.func73 rfl rfl rfl ?_
          refine zS ?_; refine zR ?_
          refine XOA.wr0 rfl WrA.bx ?_
          rintro _ _ _ ⟨g3, rfl, rfl, rfl⟩
          refine zN ?_; refine zT ?_; refine zS ?_; refine zR ?_; refine zO rfl (Rd.fA rfl) ?_; refine zO rfl (Rd.ldC rfl (tyrow rfl) rfl) ?_; refine zN ?_; refine zT ?_
          refine XA.block ?_
          refine zS ?_; refine zR ?_; refine zO rfl (Rd.eql rfl rfl) ?_; refine zO rfl Rd.asg ?_; refine zN ?_; refine zT ?_
          refine XA.condF rfl rfl ?_
          refine zS ?_; refine zR ?_; refine zO rfl (Rd.eql rfl rfl) ?_; refine zO rfl Rd.asg ?_; refine zN ?_; refine zT ?_
          refine XA.condT rfl rfl ?_
          refine zS ?_
          refine XA.draw (by kernel_rfl) _ _ [7] [(0, .pu), (1, .pu), (2, .rd), (4, .pu), (5, .pu), (6, .rd), (3, .wr), (7, .wr), (8, .pu), (9, .pu)] (by kernel_rfl) (PH.sub.refl _) (Ent.sel (R := blk g3 _ _) (by ((repeat (first | with_reducible exact Sel.head | apply Sel.tail)); (first | done | fail))) (Ent.nil _)) ?_
          refine XPA.pu rfl rfl Gd.free Rd.mv ?_
          refine XPA.pu rfl rfl Gd.free (Rd.fA rfl) ?_
          refine XPA.rd rfl rfl Gd.free (Rd.ldA rfl) ?_
          refine XPA.pu rfl rfl Gd.free Rd.mv ?_
          refine XPA.pu rfl rfl Gd.free (Rd.fA rfl) ?_
          refine XPA.rd rfl rfl Gd.free (Rd.ldA rfl) ?_
          refine XPA.wr0 rfl rfl Gd.free (WrA.cE (hE.1 a k e1) rfl) ?_
          rintro _ _ _ ⟨_, ⟨rfl, rfl, rfl⟩, rfl⟩
          refine stays (XPA.cl ?_)
          refine XPA.wrZ0 rfl rfl Gd.free (by kernel_rfl) (WrA.cE (hE2.1 n 0 e2) rfl) ?_
          rintro _ _ _ ⟨_, ⟨rfl, rfl, rfl⟩, rfl⟩
          refine XPA.cl ?_
          refine XPA.pu rfl rfl Gd.free Rd.asg ?_
          refine XPA.pu rfl rfl Gd.free Rd.asg ?_
          refine XPA.nil ?_
          refine zT ?_; refine zS ?_; refine zR ?_; refine zO rfl Rd.mv ?_
          refine XOA.die rfl (one_t σ b _ _ _ _ _) rfl ?_
          rintro _ _ _ ⟨rfl, rfl, rfl⟩
          refine DA.cl ?_
          repeat (first | refine DA.thn_panic ?_ | refine DA.inb_panic ?_)
          exact bodyA.panic zE ⟨rfl, rfl, vi, po, co, hvi, rfl⟩
        | succ k2 =>
          by_cases hka : a < 0 ∨ sizeV pr.vars v ≤ a
          · rw [show putS pr.vars v ex fx ⟨cells, inp, out, f⟩ = .error (11, ⟨cells, inp, out, k2⟩) by simp [putS, exS, e1, e2, oneS, hka]] at hr
            cases hr
            refine enterA2 Try.func73 rfl rfl rfl ?_
            refine zS ?_; refine zR ?_
            refine XOA.wr0 rfl WrA.bx ?_
            rintro _ _ _ ⟨g3, rfl, rfl, rfl⟩
            refine zN ?_; refine zT ?_; refine zS ?_; refine zR ?_; refine zO rfl (Rd.fA rfl) ?_; refine zO rfl (Rd.ldC rfl (tyrow rfl) rfl) ?_; refine zN ?_; refine zT ?_
            refine XA.block ?_
            refine zS ?_; refine zR ?_; refine zO rfl (Rd.eql rfl rfl) ?_; refine zO rfl Rd.asg ?_; refine zN ?_; refine zT ?_
            refine XA.condF rfl rfl ?_
            refine zS ?_; refine zR ?_; refine zO rfl (Rd.eql rfl rfl) ?_; refine zO rfl Rd.asg ?_; refine zN ?_; refine zT ?_
            refine XA.condT rfl rfl ?_
            refine zS ?_
            refine XA.draw (by kernel_rfl) _ _ [7] [(0, .pu), (1, .pu), (2, .rd), (4, .pu), (5, .pu), (6, .rd), (3, .wr), (7, .wr), (8, .pu), (9, .pu)] (by kernel_rfl) (PH.sub.refl _) (Ent.sel (R := blk g3 _ _) (by ((repeat (first | with_reducible exact Sel.head | apply Sel.tail)); (first | done | fail))) (Ent.nil _)) ?_
            refine XPA.pu rfl rfl Gd.free Rd.mv ?_
            refine XPA.pu rfl rfl Gd.free (Rd.fA rfl) ?_
            refine XPA.rd rfl rfl Gd.free (Rd.ldA rfl) ?_
            refine XPA.pu rfl rfl Gd.free Rd.mv ?_
            refine XPA.pu rfl rfl Gd.free (Rd.fA rfl) ?_
            refine XPA.rd rfl rfl Gd.free (Rd.ldA rfl) ?_
            refine XPA.wr0 rfl rfl Gd.free (WrA.cE (hE.1 a k e1) rfl) ?_
            rintro _ _ _ ⟨_, ⟨rfl, rfl, rfl⟩, rfl⟩
            refine stays (XPA.cl ?_)
            refine XPA.wrZ0 rfl rfl Gd.free (by kernel_rfl) (WrA.cE (hE2.1 n (k2 + 1) e2) rfl) ?_
            rintro _ _ _ ⟨_, ⟨rfl, rfl, rfl⟩, rfl⟩
            refine XPA.cl ?_
            refine XPA.pu rfl rfl Gd.free Rd.asg ?_
            refine XPA.pu rfl rfl Gd.free Rd.asg ?_
            refine XPA.nil ?_
            refine zT ?_; refine zS ?_; refine zR ?_; refine zO rfl Rd.mv ?_
            refine XOA.wr0 rfl (WrA.cE (one_f σ b _ _ _ _ _ k2 (by omega)) rfl) ?_
            rintro _ _ _ ⟨_, ⟨rfl, rfl, rfl⟩, rfl⟩
            refine XOA.cl ?_
            refine zN ?_; refine zT ?_
            refine XA.draw (by kernel_rfl) _ _ [11] [(0, .pu), (1, .pu), (2, .pu), (3, .rd), (4, .pu), (5, .pu), (6, .rd), (7, .pu), (9, .pu), (8, .wr), (10, .pu), (11, .wr)] (by kernel_rfl) (PH.sub.refl _) (Ent.sel (R := blk b _ _) (by ((repeat (first | with_reducible exact Sel.head | apply Sel.tail)); (first | done | fail))) (Ent.sel (R := blk g3 _ _) (by ((repeat (first | with_reducible exact Sel.head | apply Sel.tail)); (first | done | fail))) (Ent.nil _))) ?_
            refine XPA.pu rfl rfl Gd.free Rd.mv ?_
            refine XPA.pu rfl rfl Gd.free (Rd.nilCheck rfl) ?_
            refine XPA.pu rfl rfl Gd.free (Rd.fA rfl) ?_
            refine XPA.rd rfl rfl Gd.free (Rd.ldC rfl (tyrow rfl) rfl) ?_
            refine XPA.pu rfl rfl Gd.free Rd.mv ?_
            refine XPA.pu rfl rfl Gd.free (Rd.fA rfl) ?_
            refine XPA.rd rfl rfl Gd.free (Rd.ldC rfl (tyrow rfl) rfl) ?_
            refine XPA.pu rfl rfl Gd.free Rd.mv ?_
            refine XPA.pu rfl rfl Gd.free Rd.mv ?_
            refine XPA.die rfl rfl Gd.free (at_t σ b pr _ cv bs _ _ _ _ v a hp hz hvl hv2 hka) rfl ?_
            rintro _ _ _ ⟨rfl, rfl, rfl⟩
            refine DA.cl ?_
            repeat (first | refine DA.thn_panic ?_ | refine DA.inb_panic ?_)
            exact bodyA.panic zE ⟨rfl, rfl, vi, po, co, hvi, rfl⟩
          · have hk0 : 0 ≤ a := by omega
            have hk1 : a < sizeV pr.vars v := by omega
            rw [show putS pr.vars v ex fx ⟨cells, inp, out, f⟩ = .ok ⟨cells.set (cellOf pr.vars v + a).toNat n, inp, out, k2⟩ by simp [putS, exS, e1, e2, oneS, hka]] at hr
            cases hr
            have hfit : (cellOf pr.vars v + a).toNat + ty2.size ≤ (ints cells).length := by rw [show (ints cells).length = nc by simp [ints, hcl]]; show _ + 1 ≤ _; omega
            have hspl : splice (ints cells) (cellOf pr.vars v + a).toNat [i64 n] = ints (cells.set (cellOf pr.vars v + a).toNat n) := ints_cell _ _ (by omega)
            refine enterA2 Try.func73 rfl rfl rfl ?_
            refine zS ?_; refine zR ?_
            refine XOA.wr0 rfl WrA.bx ?_
            rintro _ _ _ ⟨g3, rfl, rfl, rfl⟩
            refine zN ?_; refine zT ?_; refine zS ?_; refine zR ?_; refine zO rfl (Rd.fA rfl) ?_; refine zO rfl (Rd.ldC rfl (tyrow rfl) rfl) ?_; refine zN ?_; refine zT ?_
            refine XA.block ?_
            refine zS ?_; refine zR ?_; refine zO rfl (Rd.eql rfl rfl) ?_; refine zO rfl Rd.asg ?_; refine zN ?_; refine zT ?_
            refine XA.condF rfl rfl ?_
            refine zS ?_; refine zR ?_; refine zO rfl (Rd.eql rfl rfl) ?_; refine zO rfl Rd.asg ?_; refine zN ?_; refine zT ?_
            refine XA.condT rfl rfl ?_
            refine zS ?_
            refine XA.draw (by kernel_rfl) _ _ [7] [(0, .pu), (1, .pu), (2, .rd), (4, .pu), (5, .pu), (6, .rd), (3, .wr), (7, .wr), (8, .pu), (9, .pu)] (by kernel_rfl) (PH.sub.refl _) (Ent.sel (R := blk g3 _ _) (by ((repeat (first | with_reducible exact Sel.head | apply Sel.tail)); (first | done | fail))) (Ent.nil _)) ?_
            refine XPA.pu rfl rfl Gd.free Rd.mv ?_
            refine XPA.pu rfl rfl Gd.free (Rd.fA rfl) ?_
            refine XPA.rd rfl rfl Gd.free (Rd.ldA rfl) ?_
            refine XPA.pu rfl rfl Gd.free Rd.mv ?_
            refine XPA.pu rfl rfl Gd.free (Rd.fA rfl) ?_
            refine XPA.rd rfl rfl Gd.free (Rd.ldA rfl) ?_
            refine XPA.wr0 rfl rfl Gd.free (WrA.cE (hE.1 a k e1) rfl) ?_
            rintro _ _ _ ⟨_, ⟨rfl, rfl, rfl⟩, rfl⟩
            refine stays (XPA.cl ?_)
            refine XPA.wrZ0 rfl rfl Gd.free (by kernel_rfl) (WrA.cE (hE2.1 n (k2 + 1) e2) rfl) ?_
            rintro _ _ _ ⟨_, ⟨rfl, rfl, rfl⟩, rfl⟩
            refine XPA.cl ?_
            refine XPA.pu rfl rfl Gd.free Rd.asg ?_
            refine XPA.pu rfl rfl Gd.free Rd.asg ?_
            refine XPA.nil ?_
            refine zT ?_; refine zS ?_; refine zR ?_; refine zO rfl Rd.mv ?_
            refine XOA.wr0 rfl (WrA.cE (one_f σ b _ _ _ _ _ k2 (by omega)) rfl) ?_
            rintro _ _ _ ⟨_, ⟨rfl, rfl, rfl⟩, rfl⟩
            refine XOA.cl ?_
            refine zN ?_; refine zT ?_
            refine XA.draw (by kernel_rfl) _ _ [11] [(0, .pu), (1, .pu), (2, .pu), (3, .rd), (4, .pu), (5, .pu), (6, .rd), (7, .pu), (9, .pu), (8, .wr), (10, .pu), (11, .wr)] (by kernel_rfl) (PH.sub.refl _) (Ent.sel (R := blk b _ _) (by ((repeat (first | with_reducible exact Sel.head | apply Sel.tail)); (first | done | fail))) (Ent.sel (R := blk g3 _ _) (by ((repeat (first | with_reducible exact Sel.head | apply Sel.tail)); (first | done | fail))) (Ent.nil _))) ?_
            refine XPA.pu rfl rfl Gd.free Rd.mv ?_
            refine XPA.pu rfl rfl Gd.free (Rd.nilCheck rfl) ?_
            refine XPA.pu rfl rfl Gd.free (Rd.fA rfl) ?_
            refine XPA.rd rfl rfl Gd.free (Rd.ldC rfl (tyrow rfl) rfl) ?_
            refine XPA.pu rfl rfl Gd.free Rd.mv ?_
            refine XPA.pu rfl rfl Gd.free (Rd.fA rfl) ?_
            refine XPA.rd rfl rfl Gd.free (Rd.ldC rfl (tyrow rfl) rfl) ?_
            refine XPA.pu rfl rfl Gd.free Rd.mv ?_
            refine XPA.pu rfl rfl Gd.free Rd.mv ?_
            refine XPA.wr0 rfl rfl Gd.free (WrA.cE (at_f σ b pr _ cv bs _ _ _ _ v a hp hz hvl hv2 hk0 hk1) rfl) ?_
            rintro _ _ _ ⟨_, ⟨rfl, rfl, rfl⟩, rfl⟩
            refine stays (XPA.cl ?_)
            refine XPA.pu rfl rfl Gd.free (Rd.ixS rfl rfl) ?_
            refine XPA.wrZ0 rfl rfl Gd.free (by kernel_rfl) (WrA.st (tyrow rfl) rfl) ?_
            rintro _ _ _ ⟨rfl, rfl, rfl⟩
            refine XPA.nil ?_
            refine DA.inb_normal ?_
            exact bodyA.normal (ResA.none rfl) zE ⟨rfl, rfl, vi, po, co, hvi, rfl⟩
  by_cases q3 : op = 3
  · subst q3
    rw [stG, if_neg (by decide), if_neg (by decide), if_pos rfl] at hr
    have hE := expr_r σ pr h1 hz hvl ex _ b pv cv bs gc nc cells vi (.slice po out.length co) f hp hxe (he rfl).1 hcl hsz (by omega)
    have hx1 := exEnd pr.vars cells ex f
    cases e1 : exRun pr.vars cells ex f with
    | error q =>
      obtain ⟨c0, k⟩ := q
      rw [show printS pr.vars ex ⟨cells, inp, out, f⟩ = .error (c0, ⟨cells, inp, out, k⟩) by simp [printS, exS, e1]] at hr
      cases hr
      refine enterA2 Try.func73 rfl rfl rfl ?_
      refine zS ?_; refine zR ?_
      refine XOA.wr0 rfl WrA.bx ?_
      rintro _ _ _ ⟨g3, rfl, rfl, rfl⟩
      refine zN ?_; refine zT ?_; refine zS ?_; refine zR ?_; refine zO rfl (Rd.fA rfl) ?_; refine zO rfl (Rd.ldC rfl (tyrow rfl) rfl) ?_; refine zN ?_; refine zT ?_
      refine XA.block ?_
      refine zS ?_; refine zR ?_; refine zO rfl (Rd.eql rfl rfl) ?_; refine zO rfl Rd.asg ?_; refine zN ?_; refine zT ?_
      refine XA.condF rfl rfl ?_
      refine zS ?_; refine zR ?_; refine zO rfl (Rd.eql rfl rfl) ?_; refine zO rfl Rd.asg ?_; refine zN ?_; refine zT ?_
      refine XA.condF rfl rfl ?_
      refine zS ?_; refine zR ?_; refine zO rfl (Rd.eql rfl rfl) ?_; refine zO rfl Rd.asg ?_; refine zN ?_; refine zT ?_
      refine XA.condT rfl rfl ?_
      refine zS ?_; refine zR ?_; refine zO rfl Rd.mv ?_; refine zO rfl (Rd.fA rfl) ?_; refine zO rfl (Rd.ldA rfl) ?_
      refine XOA.die rfl (hE.2 c0 k e1) rfl ?_
      rintro _ _ _ ⟨rfl, rfl, rfl⟩
      refine DA.cl ?_
      repeat (first | refine DA.thn_panic ?_ | refine DA.inb_panic ?_)
      exact bodyA.panic zE ⟨rfl, rfl, vi, po, co, hvi, rfl⟩
    | ok q =>
      obtain ⟨n, k⟩ := q
      have hk := hx1.ok _ e1
      simp only at hk
      cases k with
      | zero =>
        rw [show printS pr.vars ex ⟨cells, inp, out, f⟩ = .error (13, ⟨cells, inp, out, 0⟩) by simp [printS, exS, e1, oneS]] at hr
        cases hr
        refine enterA2 Try.func73 rfl rfl rfl ?_
        refine zS ?_; refine zR ?_
        refine XOA.wr0 rfl WrA.bx ?_
        rintro _ _ _ ⟨g3, rfl, rfl, rfl⟩
        refine zN ?_; refine zT ?_; refine zS ?_; refine zR ?_; refine zO rfl (Rd.fA rfl) ?_; refine zO rfl (Rd.ldC rfl (tyrow rfl) rfl) ?_; refine zN ?_; refine zT ?_
        refine XA.block ?_
        refine zS ?_; refine zR ?_; refine zO rfl (Rd.eql rfl rfl) ?_; refine zO rfl Rd.asg ?_; refine zN ?_; refine zT ?_
        refine XA.condF rfl rfl ?_
        refine zS ?_; refine zR ?_; refine zO rfl (Rd.eql rfl rfl) ?_; refine zO rfl Rd.asg ?_; refine zN ?_; refine zT ?_
        refine XA.condF rfl rfl ?_
        refine zS ?_; refine zR ?_; refine zO rfl (Rd.eql rfl rfl) ?_; refine zO rfl Rd.asg ?_; refine zN ?_; refine zT ?_
        refine XA.condT rfl rfl ?_
        refine zS ?_; refine zR ?_; refine zO rfl Rd.mv ?_; refine zO rfl (Rd.fA rfl) ?_; refine zO rfl (Rd.ldA rfl) ?_
        refine XOA.wr0 rfl (WrA.cE (hE.1 n 0 e1) rfl) ?_
        rintro _ _ _ ⟨_, ⟨rfl, rfl, rfl⟩, rfl⟩
        refine XOA.cl ?_
        refine zO rfl Rd.asg ?_; refine zN ?_; refine zT ?_; refine zS ?_; refine zR ?_; refine zO rfl Rd.mv ?_
        refine XOA.die rfl (one_t σ b _ _ _ _ _) rfl ?_
        rintro _ _ _ ⟨rfl, rfl, rfl⟩
        refine DA.cl ?_
        repeat (first | refine DA.thn_panic ?_ | refine DA.inb_panic ?_)
        exact bodyA.panic zE ⟨rfl, rfl, vi, po, co, hvi, rfl⟩
      | succ k =>
        rw [show printS pr.vars ex ⟨cells, inp, out, f⟩ = .ok ⟨cells, inp, out ++ [n], k⟩ by simp [printS, exS, e1, oneS]] at hr
        cases hr
        have ho2 : ints (out ++ [n]) = ints out ++ [i64 n] := by simp [ints]
        have hol : (out ++ [n]).length = out.length + 1 := by simp
        refine enterA2 Try.func73 rfl rfl rfl ?_
        refine zS ?_; refine zR ?_
        refine XOA.wr0 rfl WrA.bx ?_
        rintro _ _ _ ⟨g3, rfl, rfl, rfl⟩
        refine zN ?_; refine zT ?_; refine zS ?_; refine zR ?_; refine zO rfl (Rd.fA rfl) ?_; refine zO rfl (Rd.ldC rfl (tyrow rfl) rfl) ?_; refine zN ?_; refine zT ?_
        refine XA.block ?_
        refine zS ?_; refine zR ?_; refine zO rfl (Rd.eql rfl rfl) ?_; refine zO rfl Rd.asg ?_; refine zN ?_; refine zT ?_
        refine XA.condF rfl rfl ?_
        refine zS ?_; refine zR ?_; refine zO rfl (Rd.eql rfl rfl) ?_; refine zO rfl Rd.asg ?_; refine zN ?_; refine zT ?_
        refine XA.condF rfl rfl ?_
        refine zS ?_; refine zR ?_; refine zO rfl (Rd.eql rfl rfl) ?_; refine zO rfl Rd.asg ?_; refine zN ?_; refine zT ?_
        refine XA.condT rfl rfl ?_
        refine zS ?_; refine zR ?_; refine zO rfl Rd.mv ?_; refine zO rfl (Rd.fA rfl) ?_; refine zO rfl (Rd.ldA rfl) ?_
        refine XOA.wr0 rfl (WrA.cE (hE.1 n (k + 1) e1) rfl) ?_
        rintro _ _ _ ⟨_, ⟨rfl, rfl, rfl⟩, rfl⟩
        refine XOA.cl ?_
        refine zO rfl Rd.asg ?_; refine zN ?_; refine zT ?_; refine zS ?_; refine zR ?_; refine zO rfl Rd.mv ?_
        refine XOA.wr0 rfl (WrA.cE (one_f σ b _ _ _ _ _ k (by omega)) rfl) ?_
        rintro _ _ _ ⟨_, ⟨rfl, rfl, rfl⟩, rfl⟩
        refine XOA.cl ?_
        refine zN ?_; refine zT ?_; refine zR ?_; refine zO rfl Rd.mv ?_; refine zO rfl Rd.mv ?_; refine zO rfl (Rd.nilCheck rfl) ?_; refine zO rfl (Rd.fA rfl) ?_; refine zO rfl (Rd.ldC rfl (tyrow rfl) rfl) ?_; refine zO rfl Rd.mv ?_
        refine XOA.wr0 rfl (WrA.bs1 (tyrow rfl) rfl (tyrow rfl)) ?_
        rintro _ _ _ ⟨g65, rfl, rfl, rfl⟩
        refine XOA.wr0 rfl (WrA.ap1 (tyrow rfl) rfl (tyrow rfl) rfl rfl rfl) ?_
        rintro _ _ _ ⟨p66, c66, rfl, rfl, rfl⟩
        refine zO rfl (Rd.nilCheck rfl) ?_; refine zO rfl (Rd.fA rfl) ?_
        refine XOA.wr0 rfl (WrA.st (tyrow rfl) rfl) ?_
        rintro _ _ _ ⟨rfl, rfl, rfl⟩
        refine zN ?_
        refine DA.inb_normal ?_
        refine bodyA.normal (Γ' := [blk b [.slice pv pr.vars.length cv, bs, .slice (some ⟨gc, 0, none⟩) nc nc, vi, .slice p66 (out ++ [n]).length c66, i64 k] 97, blk gc (ints (cells)) 2, lst 2 1 (.slice p66 (out ++ [n]).length c66) (out ++ [n]).length (ints (out ++ [n]))]) (ResA.none rfl) ?_ ⟨rfl, rfl, vi, p66, c66, hvi, rfl⟩
        rw [ho2, hol]
        exact zE
  by_cases q4 : op = 4
  · subst q4
    rw [stG, if_neg (by decide), if_neg (by decide), if_neg (by decide), if_pos rfl] at hr
    have hv2 := hv rfl
    obtain ⟨vx, hvx, hsv, hc0, hc1, hc2⟩ := var_at h1 hv2
    cases f with
    | zero =>
      rw [show readS pr.vars v ⟨cells, inp, out, 0⟩ = .error (13, ⟨cells, inp, out, 0⟩) by simp [readS, oneS]] at hr
      cases hr
      refine enterA2 Try.func73 rfl rfl rfl ?_
      refine zS ?_; refine zR ?_
      refine XOA.wr0 rfl WrA.bx ?_
      rintro _ _ _ ⟨g3, rfl, rfl, rfl⟩
      refine zN ?_; refine zT ?_; refine zS ?_; refine zR ?_; refine zO rfl (Rd.fA rfl) ?_; refine zO rfl (Rd.ldC rfl (tyrow rfl) rfl) ?_; refine zN ?_; refine zT ?_
      refine XA.block ?_
      refine zS ?_; refine zR ?_; refine zO rfl (Rd.eql rfl rfl) ?_; refine zO rfl Rd.asg ?_; refine zN ?_; refine zT ?_
      refine XA.condF rfl rfl ?_
      refine zS ?_; refine zR ?_; refine zO rfl (Rd.eql rfl rfl) ?_; refine zO rfl Rd.asg ?_; refine zN ?_; refine zT ?_
      refine XA.condF rfl rfl ?_
      refine zS ?_; refine zR ?_; refine zO rfl (Rd.eql rfl rfl) ?_; refine zO rfl Rd.asg ?_; refine zN ?_; refine zT ?_
      refine XA.condF rfl rfl ?_
      refine zS ?_; refine zR ?_; refine zO rfl (Rd.eql rfl rfl) ?_; refine zO rfl Rd.asg ?_; refine zN ?_; refine zT ?_
      refine XA.condT rfl rfl ?_
      refine zS ?_; refine zR ?_; refine zO rfl Rd.mv ?_
      refine XOA.die rfl (one_t σ b _ _ _ _ _) rfl ?_
      rintro _ _ _ ⟨rfl, rfl, rfl⟩
      refine DA.cl ?_
      repeat (first | refine DA.thn_panic ?_ | refine DA.inb_panic ?_)
      exact bodyA.panic zE ⟨rfl, rfl, vi, po, co, hvi, rfl⟩
    | succ k =>
      obtain ⟨pi, ci, rfl, hil, him⟩ := hvi.shape
      simp only [maxLen] at him
      cases inp with
      | nil =>
        rw [show readS pr.vars v ⟨cells, [], out, k + 1⟩ = .error (12, ⟨cells, [], out, k⟩) by simp [readS, oneS]] at hr
        cases hr
        refine enterA2 Try.func73 rfl rfl rfl ?_
        refine zS ?_; refine zR ?_
        refine XOA.wr0 rfl WrA.bx ?_
        rintro _ _ _ ⟨g3, rfl, rfl, rfl⟩
        refine zN ?_; refine zT ?_; refine zS ?_; refine zR ?_; refine zO rfl (Rd.fA rfl) ?_; refine zO rfl (Rd.ldC rfl (tyrow rfl) rfl) ?_; refine zN ?_; refine zT ?_
        refine XA.block ?_
        refine zS ?_; refine zR ?_; refine zO rfl (Rd.eql rfl rfl) ?_; refine zO rfl Rd.asg ?_; refine zN ?_; refine zT ?_
        refine XA.condF rfl rfl ?_
        refine zS ?_; refine zR ?_; refine zO rfl (Rd.eql rfl rfl) ?_; refine zO rfl Rd.asg ?_; refine zN ?_; refine zT ?_
        refine XA.condF rfl rfl ?_
        refine zS ?_; refine zR ?_; refine zO rfl (Rd.eql rfl rfl) ?_; refine zO rfl Rd.asg ?_; refine zN ?_; refine zT ?_
        refine XA.condF rfl rfl ?_
        refine zS ?_; refine zR ?_; refine zO rfl (Rd.eql rfl rfl) ?_; refine zO rfl Rd.asg ?_; refine zN ?_; refine zT ?_
        refine XA.condT rfl rfl ?_
        refine zS ?_; refine zR ?_; refine zO rfl Rd.mv ?_
        refine XOA.wr0 rfl (WrA.cE (one_f σ b _ _ _ _ _ k (by omega)) rfl) ?_
        rintro _ _ _ ⟨_, ⟨rfl, rfl, rfl⟩, rfl⟩
        refine XOA.cl ?_
        refine zN ?_; refine zT ?_; refine zS ?_; refine zR ?_; refine zO rfl Rd.mv ?_; refine zO rfl (Rd.nilCheck rfl) ?_; refine zO rfl (Rd.fA rfl) ?_; refine zO rfl (Rd.ldC rfl (tyrow rfl) rfl) ?_; refine zO rfl (Rd.lenSlice (tyrow rfl) rfl rfl) ?_; refine zO rfl (Rd.eql rfl rfl) ?_
        refine XOA.die rfl (fail_t σ _ 12 (decide_eq_true rfl)) rfl ?_
        rintro _ _ _ ⟨rfl, rfl, rfl⟩
        refine DA.cl ?_
        repeat (first | refine DA.thn_panic ?_ | refine DA.inb_panic ?_)
        exact bodyA.panic zE ⟨rfl, rfl, _, po, co, hvi, rfl⟩
      | cons n rest =>
        rw [show readS pr.vars v ⟨cells, n :: rest, out, k + 1⟩ = .ok ⟨cells.set (cellOf pr.vars v).toNat n, rest, out, k⟩ by simp [readS, oneS]] at hr
        cases hr
        have hvi2 := hvi.tail
        obtain ⟨gi, oi, rfl, hri⟩ := hvi.at (show (n :: rest)[0]? = some n from rfl)
        have hri0 : PRow σ gi oi [i64 n] := by simpa using hri
        simp only [List.length_cons] at hil him hvi hvi2 ⊢
        have hfit : (cellOf pr.vars v + 0).toNat + ty2.size ≤ (ints cells).length := by rw [show (ints cells).length = nc by simp [ints, hcl]]; show _ + 1 ≤ _; omega
        have hspl : splice (ints cells) (cellOf pr.vars v + 0).toNat [i64 n] = ints (cells.set (cellOf pr.vars v).toNat n) := by rw [Int.add_zero]; exact ints_cell _ _ (by omega)
        refine enterA2 Try.func73 rfl rfl rfl ?_
        refine zS ?_; refine zR ?_
        refine XOA.wr0 rfl WrA.bx ?_
        rintro _ _ _ ⟨g3, rfl, rfl, rfl⟩
        refine zN ?_; refine zT ?_; refine zS ?_; refine zR ?_; refine zO rfl (Rd.fA rfl) ?_; refine zO rfl (Rd.ldC rfl (tyrow rfl) rfl) ?_; refine zN ?_; refine zT ?_
        refine XA.block ?_
        refine zS ?_; refine zR ?_; refine zO rfl (Rd.eql rfl rfl) ?_; refine zO rfl Rd.asg ?_; refine zN ?_; refine zT ?_
        refine XA.condF rfl rfl ?_
        refine zS ?_; refine zR ?_; refine zO rfl (Rd.eql rfl rfl) ?_; refine zO rfl Rd.asg ?_; refine zN ?_; refine zT ?_
        refine XA.condF rfl rfl ?_
        refine zS ?_; refine zR ?_; refine zO rfl (Rd.eql rfl rfl) ?_; refine zO rfl Rd.asg ?_; refine zN ?_; refine zT ?_
        refine XA.condF rfl rfl ?_
        refine zS ?_; refine zR ?_; refine zO rfl (Rd.eql rfl rfl) ?_; refine zO rfl Rd.asg ?_; refine zN ?_; refine zT ?_
        refine XA.condT rfl rfl ?_
        refine zS ?_; refine zR ?_; refine zO rfl Rd.mv ?_
        refine XOA.wr0 rfl (WrA.cE (one_f σ b _ _ _ _ _ k (by omega)) rfl) ?_
        rintro _ _ _ ⟨_, ⟨rfl, rfl, rfl⟩, rfl⟩
        refine XOA.cl ?_
        refine zN ?_; refine zT ?_; refine zS ?_; refine zR ?_; refine zO rfl Rd.mv ?_; refine zO rfl (Rd.nilCheck rfl) ?_; refine zO rfl (Rd.fA rfl) ?_; refine zO rfl (Rd.ldC rfl (tyrow rfl) rfl) ?_; refine zO rfl (Rd.lenSlice (tyrow rfl) rfl rfl) ?_; refine zO rfl (Rd.eql rfl rfl) ?_
        refine XOA.wr0 rfl (WrA.cE (fail_f σ _ 12 (decide_eq_false (by omega))) rfl) ?_
        rintro _ _ _ ⟨_, ⟨rfl, rfl, rfl⟩, rfl⟩
        refine XOA.cl ?_
        refine zN ?_; refine zT ?_; refine zS ?_
        refine XA.draw (by kernel_rfl) _ _ [15] [(0, .pu), (1, .pu), (2, .pu), (3, .rd), (4, .pu), (5, .pu), (6, .rd), (8, .pu), (9, .pu), (10, .pu), (11, .rd), (12, .pu), (13, .rd), (7, .wr), (14, .pu), (15, .wr)] (by kernel_rfl) (PH.sub.refl _) (Ent.sel (R := blk b _ _) (by ((repeat (first | with_reducible exact Sel.head | apply Sel.tail)); (first | done | fail))) (Ent.sel (R := blk g3 _ _) (by ((repeat (first | with_reducible exact Sel.head | apply Sel.tail)); (first | done | fail))) (Ent.nil _))) ?_
        refine XPA.pu rfl rfl Gd.free Rd.mv ?_
        refine XPA.pu rfl rfl Gd.free (Rd.nilCheck rfl) ?_
        refine XPA.pu rfl rfl Gd.free (Rd.fA rfl) ?_
        refine XPA.rd rfl rfl Gd.free (Rd.ldC rfl (tyrow rfl) rfl) ?_
        refine XPA.pu rfl rfl Gd.free Rd.mv ?_
        refine XPA.pu rfl rfl Gd.free (Rd.fA rfl) ?_
        refine XPA.rd rfl rfl Gd.free (Rd.ldC rfl (tyrow rfl) rfl) ?_
        refine XPA.pu rfl rfl Gd.free Rd.mv ?_
        refine XPA.pu rfl rfl Gd.free (Rd.nilCheck rfl) ?_
        refine XPA.pu rfl rfl Gd.free (Rd.fA rfl) ?_
        refine XPA.rd rfl rfl Gd.free (Rd.ldC rfl (tyrow rfl) rfl) ?_
        refine XPA.pu rfl rfl Gd.free (Rd.ixS rfl rfl) ?_
        refine XPA.rd rfl rfl Gd.free (Rd.ldC rfl (tyrow rfl) rfl) ?_
        refine XPA.wr0 rfl rfl Gd.free (WrA.cE (at_f σ b pr _ cv bs _ _ _ _ v 0 hp hz hvl hv2 (by decide) (by omega)) rfl) ?_
        rintro _ _ _ ⟨_, ⟨rfl, rfl, rfl⟩, rfl⟩
        refine stays (XPA.cl ?_)
        refine XPA.pu rfl rfl Gd.free (Rd.ixS rfl rfl) ?_
        refine XPA.wrZ0 rfl rfl Gd.free (by kernel_rfl) (WrA.st (tyrow rfl) rfl) ?_
        rintro _ _ _ ⟨rfl, rfl, rfl⟩
        refine XPA.nil ?_
        refine zT ?_; refine zR ?_; refine zO rfl Rd.mv ?_; refine zO rfl Rd.mv ?_; refine zO rfl (Rd.nilCheck rfl) ?_; refine zO rfl (Rd.fA rfl) ?_; refine zO rfl (Rd.ldC rfl (tyrow rfl) rfl) ?_
        refine zO rfl (Rd.sliceTail (tyrow rfl) rfl (tyrow rfl) rfl rfl rfl (by omega)) ?_
        refine zO rfl (Rd.nilCheck rfl) ?_; refine zO rfl (Rd.fA rfl) ?_
        refine XOA.wr0 rfl (WrA.st (tyrow rfl) rfl) ?_
        rintro _ _ _ ⟨rfl, rfl, rfl⟩
        refine zN ?_
        refine DA.inb_normal ?_
        exact bodyA.normal (ResA.none rfl) zE ⟨rfl, rfl, _, po, co, hvi2, rfl⟩
  by_cases q5 : op = 5
  · subst q5
    refine enterA2 Try.func73 rfl rfl rfl ?_
    refine zS ?_; refine zR ?_
    refine XOA.wr0 rfl WrA.bx ?_
    rintro _ _ _ ⟨g3, rfl, rfl, rfl⟩
    refine zN ?_; refine zT ?_; refine zS ?_; refine zR ?_; refine zO rfl (Rd.fA rfl) ?_; refine zO rfl (Rd.ldC rfl (tyrow rfl) rfl) ?_; refine zN ?_; refine zT ?_
    refine XA.block ?_
    refine zS ?_; refine zR ?_; refine zO rfl (Rd.eql rfl rfl) ?_; refine zO rfl Rd.asg ?_; refine zN ?_; refine zT ?_
    refine XA.condF rfl rfl ?_
    refine zS ?_; refine zR ?_; refine zO rfl (Rd.eql rfl rfl) ?_; refine zO rfl Rd.asg ?_; refine zN ?_; refine zT ?_
    refine XA.condF rfl rfl ?_
    refine zS ?_; refine zR ?_; refine zO rfl (Rd.eql rfl rfl) ?_; refine zO rfl Rd.asg ?_; refine zN ?_; refine zT ?_
    refine XA.condF rfl rfl ?_
    refine zS ?_; refine zR ?_; refine zO rfl (Rd.eql rfl rfl) ?_; refine zO rfl Rd.asg ?_; refine zN ?_; refine zT ?_
    refine XA.condF rfl rfl ?_
    refine zS ?_; refine zR ?_; refine zO rfl (Rd.eql rfl rfl) ?_; refine zO rfl Rd.asg ?_; refine zN ?_; refine zT ?_
    refine XA.condT rfl rfl ?_
    refine XA.block ?_
    refine XA.gen [(0, _), (3, _)] ⟨(by with_reducible (conv => lhs; whnf)), (by with_reducible (conv => lhs; whnf)), trivial⟩ (fun δ => ?_)
    dsimp only [List.foldl]
    refine XA.loop [(0, 0), (105, 114)] (fun _ : Nat => [(0, ptr b)]) (fun g' σ' Γ' => σ = σ' ∧ g' ≤ g + 1 ∧ ∃ (s' : RS) (vi' : Value) (po' : Option Addr) (co' : Nat), stG pr.vars g' (.mk 5 v ex fx body els) s' = some r ∧ Fine pr.vars nc s' ∧ PInts σ vi' s'.inp ∧ Γ' = [blk b [.slice pv pr.vars.length cv, bs, .slice (some ⟨gc, 0, none⟩) nc nc, vi', .slice po' (s'.out).length co', i64 s'.left] 97, blk gc (ints (s'.cells)) 2, lst 2 1 (.slice po' (s'.out).length co') (s'.out).length (ints (s'.out)), blk g3 [i64 5, i64 v, i64 ex.op, i64 ex.v, i64 ex.n, .slice pe ex.l.length de, i64 fx.op, i64 fx.v, i64 fx.n, .slice pf fx.l.length df, .slice pb body.length cb, .slice pl els.length cl] 46]) (fun g' => g') (g + 1) (by exact ⟨rfl, trivial⟩) (Δ0 := _) ?_ (⟨rfl, Nat.le_refl _, ⟨cells, inp, out, f⟩, vi, po, co, hr, ⟨hcl, hsz, hleft, hout⟩, hvi, rfl⟩) ?_
    · exact zE
    rintro g' δ _ _ ⟨rfl, hg', s', vi', po', co', hr', hF', hvi', rfl⟩
    dsimp only [ovr, List.foldl]
    obtain ⟨cells', inp', out', f'⟩ := s'
    obtain ⟨hcl', -, hleft', hout'⟩ := hF'
    simp only at hcl' hleft' hout' hvi' ⊢
    cases g' with
    | zero => cases hr'
    | succ g' =>
    rw [stG_5, isS_isF] at hr'
    have hI := is_r σ pr h1 hz hvl ex _ b pv cv bs gc nc cells' vi' (.slice po' out'.length co') f' hp hxe (he rfl).1 hcl' hsz (by omega)
    cases e1 : isF pr.vars cells' ex f' with
    | error q =>
      obtain ⟨c0, k⟩ := q
      rw [e1] at hr'
      cases hr'
      refine zS ?_; refine zS ?_; refine zR ?_; refine zO rfl Rd.mv ?_; refine zO rfl (Rd.fA rfl) ?_; refine zO rfl (Rd.ldA rfl) ?_
      refine XOA.die rfl (hI.2 c0 k e1) rfl ?_
      rintro _ _ _ ⟨rfl, rfl, rfl⟩
      refine DA.cl ?_
      repeat (first | refine DA.thn_panic ?_ | refine DA.inb_panic ?_)
      exact bodyA.panic zE ⟨rfl, rfl, vi', po', co', hvi', rfl⟩
    | ok q =>
      obtain ⟨bb, k⟩ := q
      have hk := isF_left e1
      rw [e1] at hr'
      simp only at hr'
      cases bb with
      | false =>
        cases hr'
        refine zS ?_; refine zS ?_; refine zR ?_; refine zO rfl Rd.mv ?_; refine zO rfl (Rd.fA rfl) ?_; refine zO rfl (Rd.ldA rfl) ?_
        refine XOA.wr0 rfl (WrA.cE (hI.1 false k e1) rfl) ?_
        rintro _ _ _ ⟨_, ⟨rfl, rfl, rfl⟩, rfl⟩
        refine XOA.cl ?_
        refine zN ?_; refine zT ?_
        refine XA.condF rfl rfl ?_
        refine XA.exit ?_
        refine DA.thn_exit ?_
        refine DA.thn_exit ?_
        refine DA.inb_same ?_
        refine DA.inb_normal ?_
        exact bodyA.normal (ResA.none rfl) zE ⟨rfl, rfl, vi', po', co', hvi', rfl⟩
      | true =>
        simp only at hr'
        have hF1 : Fine pr.vars nc ⟨cells', inp', out', k⟩ := ⟨hcl', hsz, by show k < _; omega, by show out'.length + k < _; omega⟩
        cases e2 : listG (stG pr.vars g') body ⟨cells', inp', out', k⟩ with
        | none => rw [e2] at hr'; cases hr'
        | some q =>
          have hL := list_r g' σ pr body (fun x _ => ih g' (by omega) x) _ b pv cv bs gc nc ⟨cells', inp', out', k⟩ vi' po' co' q hp hxb hsb hF1 hvi' e2
          have hle := listG_less (stG_less pr.vars g') _ _ _ e2
          rw [e2] at hr'
          simp only at hr' hL
          cases q with
          | error q =>
            obtain ⟨c0, s0⟩ := q
            cases hr'
            refine zS ?_; refine zS ?_; refine zR ?_; refine zO rfl Rd.mv ?_; refine zO rfl (Rd.fA rfl) ?_; refine zO rfl (Rd.ldA rfl) ?_
            refine XOA.wr0 rfl (WrA.cE (hI.1 true k e1) rfl) ?_
            rintro _ _ _ ⟨_, ⟨rfl, rfl, rfl⟩, rfl⟩
            refine XOA.cl ?_
            refine zN ?_; refine zT ?_
            refine XA.condT rfl rfl ?_
            refine XA.skip ?_
            refine zT ?_
            refine XA.block ?_
            refine zS ?_; refine zR ?_; refine zO rfl Rd.mv ?_; refine zO rfl (Rd.fA rfl) ?_; refine zO rfl (Rd.ldC rfl (tyrow rfl) rfl) ?_
            refine XOA.die rfl (EndS.err hL) rfl ?_
            rintro _ _ _ ⟨rfl, rfl, vi2, po2, co2, hvi2, rfl⟩
            refine DA.cl ?_
            repeat (first | refine DA.thn_panic ?_ | refine DA.inb_panic ?_)
            exact bodyA.panic zE ⟨rfl, rfl, vi2, po2, co2, hvi2, rfl⟩
          | ok s2 =>
            have hF2 := hF1.less hle
            obtain ⟨cells2, inp2, out2, f2⟩ := s2
            have hleft2 : f2 < 1000000 := hF2.left
            simp only at hr'
            cases f2 with
            | zero =>
              rw [show oneS ⟨cells2, inp2, out2, 0⟩ = .error (13, ⟨cells2, inp2, out2, 0⟩) from rfl] at hr'
              cases hr'
              refine zS ?_; refine zS ?_; refine zR ?_; refine zO rfl Rd.mv ?_; refine zO rfl (Rd.fA rfl) ?_; refine zO rfl (Rd.ldA rfl) ?_
              refine XOA.wr0 rfl (WrA.cE (hI.1 true k e1) rfl) ?_
              rintro _ _ _ ⟨_, ⟨rfl, rfl, rfl⟩, rfl⟩
              refine XOA.cl ?_
              refine zN ?_; refine zT ?_
              refine XA.condT rfl rfl ?_
              refine XA.skip ?_
              refine zT ?_
              refine XA.block ?_
              refine zS ?_; refine zR ?_; refine zO rfl Rd.mv ?_; refine zO rfl (Rd.fA rfl) ?_; refine zO rfl (Rd.ldC rfl (tyrow rfl) rfl) ?_
              refine XOA.wr0 rfl (WrA.cE (EndS.ok hL) rfl) ?_
              rintro _ _ _ ⟨_, ⟨rfl, rfl, vi2, po2, co2, hvi2, rfl⟩, rfl⟩
              refine XOA.cl ?_
              refine zN ?_; refine zT ?_; refine zR ?_; refine zO rfl Rd.mv ?_
              refine XOA.die rfl (one_t σ b _ _ _ _ _) rfl ?_
              rintro _ _ _ ⟨rfl, rfl, rfl⟩
              refine DA.cl ?_
              repeat (first | refine DA.thn_panic ?_ | refine DA.inb_panic ?_)
              exact bodyA.panic zE ⟨rfl, rfl, vi2, po2, co2, hvi2, rfl⟩
            | succ f2 =>
              rw [show oneS ⟨cells2, inp2, out2, f2 + 1⟩ = .ok ⟨cells2, inp2, out2, f2⟩ by simp [oneS]] at hr'
              simp only at hr'
              have hF3 : Fine pr.vars nc ⟨cells2, inp2, out2, f2⟩ := ⟨hF2.cl, hF2.sz, by show f2 < _; omega, by have : out2.length + (f2 + 1) < 2000000 := hF2.out; show out2.length + f2 < _; omega⟩
              refine zS ?_; refine zS ?_; refine zR ?_; refine zO rfl Rd.mv ?_; refine zO rfl (Rd.fA rfl) ?_; refine zO rfl (Rd.ldA rfl) ?_
              refine XOA.wr0 rfl (WrA.cE (hI.1 true k e1) rfl) ?_
              rintro _ _ _ ⟨_, ⟨rfl, rfl, rfl⟩, rfl⟩
              refine XOA.cl ?_
              refine zN ?_; refine zT ?_
              refine XA.condT rfl rfl ?_
              refine XA.skip ?_
              refine zT ?_
              refine XA.block ?_
              refine zS ?_; refine zR ?_; refine zO rfl Rd.mv ?_; refine zO rfl (Rd.fA rfl) ?_; refine zO rfl (Rd.ldC rfl (tyrow rfl) rfl) ?_
              refine XOA.wr0 rfl (WrA.cE (EndS.ok hL) rfl) ?_
              rintro _ _ _ ⟨_, ⟨rfl, rfl, vi2, po2, co2, hvi2, rfl⟩, rfl⟩
              refine XOA.cl ?_
              refine zN ?_; refine zT ?_; refine zR ?_; refine zO rfl Rd.mv ?_
              refine XOA.wr0 rfl (WrA.cE (one_f σ b _ _ _ _ _ f2 (by omega)) rfl) ?_
              rintro _ _ _ ⟨_, ⟨rfl, rfl, rfl⟩, rfl⟩
              refine XOA.cl ?_
              refine zN ?_
              refine DA.inb_normal ?_
              refine zT ?_
              refine ⟨(Keep.updO (Keep.upd (Keep.updO (Keep.upd (Keep.upd (Keep.upd (Keep.updO (Keep.upd (Keep.upd (Keep.upd (Keep.upd (Keep.hav (Keep.hav (Keep.refl _ _) rfl) rfl) rfl) rfl) rfl) rfl) rfl) rfl) rfl) rfl) rfl) rfl) rfl), g', _, (by (repeat (first | exact trivial | refine ⟨rfl, ?_⟩ | refine ⟨Eq.trans rfl (congrArg Value.bool hmat.symm), ?_⟩)); (first | done | fail)), ?_, ⟨rfl, by omega, ⟨cells2, inp2, out2, f2⟩, vi2, po2, co2, hr', hF3, hvi2, rfl⟩, (by omega)⟩
              · exact zE
  by_cases q6 : op = 6
  · subst q6
    rw [stG_6, isS_isF] at hr
    have hI := is_r σ pr h1 hz hvl ex _ b pv cv bs gc nc cells vi (.slice po out.length co) f hp hxe (he rfl).1 hcl hsz (by omega)
    cases e1 : isF pr.vars cells ex f with
    | error q =>
      obtain ⟨c0, k⟩ := q
      rw [e1] at hr
      cases hr
      refine enterA2 Try.func73 rfl rfl rfl ?_
      refine zS ?_; refine zR ?_
      refine XOA.wr0 rfl WrA.bx ?_
      rintro _ _ _ ⟨g3, rfl, rfl, rfl⟩
      refine zN ?_; refine zT ?_; refine zS ?_; refine zR ?_; refine zO rfl (Rd.fA rfl) ?_; refine zO rfl (Rd.ldC rfl (tyrow rfl) rfl) ?_; refine zN ?_; refine zT ?_
      refine XA.block ?_
      refine zS ?_; refine zR ?_; refine zO rfl (Rd.eql rfl rfl) ?_; refine zO rfl Rd.asg ?_; refine zN ?_; refine zT ?_
      refine XA.condF rfl rfl ?_
      refine zS ?_; refine zR ?_; refine zO rfl (Rd.eql rfl rfl) ?_; refine zO rfl Rd.asg ?_; refine zN ?_; refine zT ?_
      refine XA.condF rfl rfl ?_
      refine zS ?_; refine zR ?_; refine zO rfl (Rd.eql rfl rfl) ?_; refine zO rfl Rd.asg ?_; refine zN ?_; refine zT ?_
      refine XA.condF rfl rfl ?_
      refine zS ?_; refine zR ?_; refine zO rfl (Rd.eql rfl rfl) ?_; refine zO rfl Rd.asg ?_; refine zN ?_; refine zT ?_
      refine XA.condF rfl rfl ?_
      refine zS ?_; refine zR ?_; refine zO rfl (Rd.eql rfl rfl) ?_; refine zO rfl Rd.asg ?_; refine zN ?_; refine zT ?_
      refine XA.condF rfl rfl ?_
      refine zS ?_; refine zR ?_; refine zO rfl (Rd.eql rfl rfl) ?_; refine zO rfl Rd.asg ?_; refine zN ?_; refine zT ?_
      refine XA.condT rfl rfl ?_
      refine zS ?_; refine zS ?_; refine zR ?_; refine zO rfl Rd.mv ?_; refine zO rfl (Rd.fA rfl) ?_; refine zO rfl (Rd.ldA rfl) ?_
      refine XOA.die rfl (hI.2 c0 k e1) rfl ?_
      rintro _ _ _ ⟨rfl, rfl, rfl⟩
      refine DA.cl ?_
      repeat (first | refine DA.thn_panic ?_ | refine DA.inb_panic ?_)
      exact bodyA.panic zE ⟨rfl, rfl, vi, po, co, hvi, rfl⟩
    | ok q =>
      obtain ⟨bb, k⟩ := q
      have hk := isF_left e1
      rw [e1] at hr
      simp only at hr
      have hF1 : Fine pr.vars nc ⟨cells, inp, out, k⟩ := ⟨hcl, hsz, by show k < _; omega, by show out.length + k < _; omega⟩
      cases bb with
      | false =>
        simp only at hr
        have hL := list_r g σ pr els (fun x _ => ih g (by omega) x) _ b pv cv bs gc nc ⟨cells, inp, out, k⟩ vi po co r hp hxl hse hF1 hvi hr
        simp only at hL
        cases r with
        | error q =>
          obtain ⟨c0, s0⟩ := q
          refine enterA2 Try.func73 rfl rfl rfl ?_
          refine zS ?_; refine zR ?_
          refine XOA.wr0 rfl WrA.bx ?_
          rintro _ _ _ ⟨g3, rfl, rfl, rfl⟩
          refine zN ?_; refine zT ?_; refine zS ?_; refine zR ?_; refine zO rfl (Rd.fA rfl) ?_; refine zO rfl (Rd.ldC rfl (tyrow rfl) rfl) ?_; refine zN ?_; refine zT ?_
          refine XA.block ?_
          refine zS ?_; refine zR ?_; refine zO rfl (Rd.eql rfl rfl) ?_; refine zO rfl Rd.asg ?_; refine zN ?_; refine zT ?_
          refine XA.condF rfl rfl ?_
          refine zS ?_; refine zR ?_; refine zO rfl (Rd.eql rfl rfl) ?_; refine zO rfl Rd.asg ?_; refine zN ?_; refine zT ?_
          refine XA.condF rfl rfl ?_
          refine zS ?_; refine zR ?_; refine zO rfl (Rd.eql rfl rfl) ?_; refine zO rfl Rd.asg ?_; refine zN ?_; refine zT ?_
          refine XA.condF rfl rfl ?_
          refine zS ?_; refine zR ?_; refine zO rfl (Rd.eql rfl rfl) ?_; refine zO rfl Rd.asg ?_; refine zN ?_; refine zT ?_
          refine XA.condF rfl rfl ?_
          refine zS ?_; refine zR ?_; refine zO rfl (Rd.eql rfl rfl) ?_; refine zO rfl Rd.asg ?_; refine zN ?_; refine zT ?_
          refine XA.condF rfl rfl ?_
          refine zS ?_; refine zR ?_; refine zO rfl (Rd.eql rfl rfl) ?_; refine zO rfl Rd.asg ?_; refine zN ?_; refine zT ?_
          refine XA.condT rfl rfl ?_
          refine zS ?_; refine zS ?_; refine zR ?_; refine zO rfl Rd.mv ?_; refine zO rfl (Rd.fA rfl) ?_; refine zO rfl (Rd.ldA rfl) ?_
          refine XOA.wr0 rfl (WrA.cE (hI.1 false k e1) rfl) ?_
          rintro _ _ _ ⟨_, ⟨rfl, rfl, rfl⟩, rfl⟩
          refine XOA.cl ?_
          refine zN ?_; refine zT ?_
          refine XA.condF rfl rfl ?_
          refine XA.skip ?_
          refine zT ?_; refine zR ?_; refine zO rfl Rd.mv ?_; refine zO rfl (Rd.fA rfl) ?_; refine zO rfl (Rd.ldC rfl (tyrow rfl) rfl) ?_
          refine XOA.die rfl (EndS.err hL) rfl ?_
          rintro _ _ _ ⟨rfl, rfl, vi2, po2, co2, hvi2, rfl⟩
          refine DA.cl ?_
          repeat (first | refine DA.thn_panic ?_ | refine DA.inb_panic ?_)
          exact bodyA.panic zE ⟨rfl, rfl, vi2, po2, co2, hvi2, rfl⟩
        | ok s2 =>
          refine enterA2 Try.func73 rfl rfl rfl ?_
          refine zS ?_; refine zR ?_
          refine XOA.wr0 rfl WrA.bx ?_
          rintro _ _ _ ⟨g3, rfl, rfl, rfl⟩
          refine zN ?_; refine zT ?_; refine zS ?_; refine zR ?_; refine zO rfl (Rd.fA rfl) ?_; refine zO rfl (Rd.ldC rfl (tyrow rfl) rfl) ?_; refine zN ?_; refine zT ?_
          refine XA.block ?_
          refine zS ?_; refine zR ?_; refine zO rfl (Rd.eql rfl rfl) ?_; refine zO rfl Rd.asg ?_; refine zN ?_; refine zT ?_
          refine XA.condF rfl rfl ?_
          refine zS ?_; refine zR ?_; refine zO rfl (Rd.eql rfl rfl) ?_; refine zO rfl Rd.asg ?_; refine zN ?_; refine zT ?_
          refine XA.condF rfl rfl ?_
          refine zS ?_; refine zR ?_; refine zO rfl (Rd.eql rfl rfl) ?_; refine zO rfl Rd.asg ?_; refine zN ?_; refine zT ?_
          refine XA.condF rfl rfl ?_
          refine zS ?_; refine zR ?_; refine zO rfl (Rd.eql rfl rfl) ?_; refine zO rfl Rd.asg ?_; refine zN ?_; refine zT ?_
          refine XA.condF rfl rfl ?_
          refine zS ?_; refine zR ?_; refine zO rfl (Rd.eql rfl rfl) ?_; refine zO rfl Rd.asg ?_; refine zN ?_; refine zT ?_
          refine XA.condF rfl rfl ?_
          refine zS ?_; refine zR ?_; refine zO rfl (Rd.eql rfl rfl) ?_; refine zO rfl Rd.asg ?_; refine zN ?_; refine zT ?_
          refine XA.condT rfl rfl ?_
          refine zS ?_; refine zS ?_; refine zR ?_; refine zO rfl Rd.mv ?_; refine zO rfl (Rd.fA rfl) ?_; refine zO rfl (Rd.ldA rfl) ?_
          refine XOA.wr0 rfl (WrA.cE (hI.1 false k e1) rfl) ?_
          rintro _ _ _ ⟨_, ⟨rfl, rfl, rfl⟩, rfl⟩
          refine XOA.cl ?_
          refine zN ?_; refine zT ?_
          refine XA.condF rfl rfl ?_
          refine XA.skip ?_
          refine zT ?_; refine zR ?_; refine zO rfl Rd.mv ?_; refine zO rfl (Rd.fA rfl) ?_; refine zO rfl (Rd.ldC rfl (tyrow rfl) rfl) ?_
          refine XOA.wr0 rfl (WrA.cE (EndS.ok hL) rfl) ?_
          rintro _ _ _ ⟨_, ⟨rfl, rfl, vi2, po2, co2, hvi2, rfl⟩, rfl⟩
          refine XOA.cl ?_
          refine zN ?_
          refine DA.inb_normal ?_
          exact bodyA.normal (ResA.none rfl) zE ⟨rfl, rfl, vi2, po2, co2, hvi2, rfl⟩
      | true =>
        simp only at hr
        cases e2 : listG (stG pr.vars g) body ⟨cells, inp, out, k⟩ with
        | none => rw [e2] at hr; cases hr
        | some q =>
          have hL := list_r g σ pr body (fun x _ => ih g (by omega) x) _ b pv cv bs gc nc ⟨cells, inp, out, k⟩ vi po co q hp hxb hsb hF1 hvi e2
          have hle := listG_less (stG_less pr.vars g) _ _ _ e2
          rw [e2] at hr
          simp only at hr hL
          cases q with
          | error q =>
            obtain ⟨c0, s0⟩ := q
            cases hr
            refine enterA2 Try.func73 rfl rfl rfl ?_
            refine zS ?_; refine zR ?_
            refine XOA.wr0 rfl WrA.bx ?_
            rintro _ _ _ ⟨g3, rfl, rfl, rfl⟩
            refine zN ?_; refine zT ?_; refine zS ?_; refine zR ?_; refine zO rfl (Rd.fA rfl) ?_; refine zO rfl (Rd.ldC rfl (tyrow rfl) rfl) ?_; refine zN ?_; refine zT ?_
            refine XA.block ?_
            refine zS ?_; refine zR ?_; refine zO rfl (Rd.eql rfl rfl) ?_; refine zO rfl Rd.asg ?_; refine zN ?_; refine zT ?_
            refine XA.condF rfl rfl ?_
            refine zS ?_; refine zR ?_; refine zO rfl (Rd.eql rfl rfl) ?_; refine zO rfl Rd.asg ?_; refine zN ?_; refine zT ?_
            refine XA.condF rfl rfl ?_
            refine zS ?_; refine zR ?_; refine zO rfl (Rd.eql rfl rfl) ?_; refine zO rfl Rd.asg ?_; refine zN ?_; refine zT ?_
            refine XA.condF rfl rfl ?_
            refine zS ?_; refine zR ?_; refine zO rfl (Rd.eql rfl rfl) ?_; refine zO rfl Rd.asg ?_; refine zN ?_; refine zT ?_
            refine XA.condF rfl rfl ?_
            refine zS ?_; refine zR ?_; refine zO rfl (Rd.eql rfl rfl) ?_; refine zO rfl Rd.asg ?_; refine zN ?_; refine zT ?_
            refine XA.condF rfl rfl ?_
            refine zS ?_; refine zR ?_; refine zO rfl (Rd.eql rfl rfl) ?_; refine zO rfl Rd.asg ?_; refine zN ?_; refine zT ?_
            refine XA.condT rfl rfl ?_
            refine zS ?_; refine zS ?_; refine zR ?_; refine zO rfl Rd.mv ?_; refine zO rfl (Rd.fA rfl) ?_; refine zO rfl (Rd.ldA rfl) ?_
            refine XOA.wr0 rfl (WrA.cE (hI.1 true k e1) rfl) ?_
            rintro _ _ _ ⟨_, ⟨rfl, rfl, rfl⟩, rfl⟩
            refine XOA.cl ?_
            refine zN ?_; refine zT ?_
            refine XA.condT rfl rfl ?_
            refine zS ?_; refine zR ?_; refine zO rfl Rd.mv ?_; refine zO rfl (Rd.fA rfl) ?_; refine zO rfl (Rd.ldC rfl (tyrow rfl) rfl) ?_
            refine XOA.die rfl (EndS.err hL) rfl ?_
            rintro _ _ _ ⟨rfl, rfl, vi2, po2, co2, hvi2, rfl⟩
            refine DA.cl ?_
            repeat (first | refine DA.thn_panic ?_ | refine DA.inb_panic ?_)
            exact bodyA.panic zE ⟨rfl, rfl, vi2, po2, co2, hvi2, rfl⟩
          | ok s2 =>
            have hF2 := hF1.less hle
            obtain ⟨cells2, inp2, out2, f2⟩ := s2
            have hleft2 : f2 < 1000000 := hF2.left
            simp only at hr
            cases f2 with
            | zero =>
              rw [show oneS ⟨cells2, inp2, out2, 0⟩ = .error (13, ⟨cells2, inp2, out2, 0⟩) from rfl] at hr
              cases hr
              refine enterA2 Try.func73 rfl rfl rfl ?_
              refine zS ?_; refine zR ?_
              refine XOA.wr0 rfl WrA.bx ?_
              rintro _ _ _ ⟨g3, rfl, rfl, rfl⟩
              refine zN ?_; refine zT ?_; refine zS ?_; refine zR ?_; refine zO rfl (Rd.fA rfl) ?_; refine zO rfl (Rd.ldC rfl (tyrow rfl) rfl) ?_; refine zN ?_; refine zT ?_
              refine XA.block ?_
              refine zS ?_; refine zR ?_; refine zO rfl (Rd.eql rfl rfl) ?_; refine zO rfl Rd.asg ?_; refine zN ?_; refine zT ?_
              refine XA.condF rfl rfl ?_
              refine zS ?_; refine zR ?_; refine zO rfl (Rd.eql rfl rfl) ?_; refine zO rfl Rd.asg ?_; refine zN ?_; refine zT ?_
              refine XA.condF rfl rfl ?_
              refine zS ?_; refine zR ?_; refine zO rfl (Rd.eql rfl rfl) ?_; refine zO rfl Rd.asg ?_; refine zN ?_; refine zT ?_
              refine XA.condF rfl rfl ?_
              refine zS ?_; refine zR ?_; refine zO rfl (Rd.eql rfl rfl) ?_; refine zO rfl Rd.asg ?_; refine zN ?_; refine zT ?_
              refine XA.condF rfl rfl ?_
              refine zS ?_; refine zR ?_; refine zO rfl (Rd.eql rfl rfl) ?_; refine zO rfl Rd.asg ?_; refine zN ?_; refine zT ?_
              refine XA.condF rfl rfl ?_
              refine zS ?_; refine zR ?_; refine zO rfl (Rd.eql rfl rfl) ?_; refine zO rfl Rd.asg ?_; refine zN ?_; refine zT ?_
              refine XA.condT rfl rfl ?_
              refine zS ?_; refine zS ?_; refine zR ?_; refine zO rfl Rd.mv ?_; refine zO rfl (Rd.fA rfl) ?_; refine zO rfl (Rd.ldA rfl) ?_
              refine XOA.wr0 rfl (WrA.cE (hI.1 true k e1) rfl) ?_
              rintro _ _ _ ⟨_, ⟨rfl, rfl, rfl⟩, rfl⟩
              refine XOA.cl ?_
              refine zN ?_; refine zT ?_
              refine XA.condT rfl rfl ?_
              refine zS ?_; refine zR ?_; refine zO rfl Rd.mv ?_; refine zO rfl (Rd.fA rfl) ?_; refine zO rfl (Rd.ldC rfl (tyrow rfl) rfl) ?_
              refine XOA.wr0 rfl (WrA.cE (EndS.ok hL) rfl) ?_
              rintro _ _ _ ⟨_, ⟨rfl, rfl, vi2, po2, co2, hvi2, rfl⟩, rfl⟩
              refine XOA.cl ?_
              refine zN ?_; refine zT ?_; refine zS ?_; refine zR ?_; refine zO rfl Rd.mv ?_
              refine XOA.die rfl (one_t σ b _ _ _ _ _) rfl ?_
              rintro _ _ _ ⟨rfl, rfl, rfl⟩
              refine DA.cl ?_
              repeat (first | refine DA.thn_panic ?_ | refine DA.inb_panic ?_)
              exact bodyA.panic zE ⟨rfl, rfl, vi2, po2, co2, hvi2, rfl⟩
            | succ f2 =>
              rw [show oneS ⟨cells2, inp2, out2, f2 + 1⟩ = .ok ⟨cells2, inp2, out2, f2⟩ by simp [oneS]] at hr
              cases hr
              refine enterA2 Try.func73 rfl rfl rfl ?_
              refine zS ?_; refine zR ?_
              refine XOA.wr0 rfl WrA.bx ?_
              rintro _ _ _ ⟨g3, rfl, rfl, rfl⟩
              refine zN ?_; refine zT ?_; refine zS ?_; refine zR ?_; refine zO rfl (Rd.fA rfl) ?_; refine zO rfl (Rd.ldC rfl (tyrow rfl) rfl) ?_; refine zN ?_; refine zT ?_
              refine XA.block ?_
              refine zS ?_; refine zR ?_; refine zO rfl (Rd.eql rfl rfl) ?_; refine zO rfl Rd.asg ?_; refine zN ?_; refine zT ?_
              refine XA.condF rfl rfl ?_
              refine zS ?_; refine zR ?_; refine zO rfl (Rd.eql rfl rfl) ?_; refine zO rfl Rd.asg ?_; refine zN ?_; refine zT ?_
              refine XA.condF rfl rfl ?_
              refine zS ?_; refine zR ?_; refine zO rfl (Rd.eql rfl rfl) ?_; refine zO rfl Rd.asg ?_; refine zN ?_; refine zT ?_
              refine XA.condF rfl rfl ?_
              refine zS ?_; refine zR ?_; refine zO rfl (Rd.eql rfl rfl) ?_; refine zO rfl Rd.asg ?_; refine zN ?_; refine zT ?_
              refine XA.condF rfl rfl ?_
              refine zS ?_; refine zR ?_; refine zO rfl (Rd.eql rfl rfl) ?_; refine zO rfl Rd.asg ?_; refine zN ?_; refine zT ?_
              refine XA.condF rfl rfl ?_
              refine zS ?_; refine zR ?_; refine zO rfl (Rd.eql rfl rfl) ?_; refine zO rfl Rd.asg ?_; refine zN ?_; refine zT ?_
              refine XA.condT rfl rfl ?_
              refine zS ?_; refine zS ?_; refine zR ?_; refine zO rfl Rd.mv ?_; refine zO rfl (Rd.fA rfl) ?_; refine zO rfl (Rd.ldA rfl) ?_
              refine XOA.wr0 rfl (WrA.cE (hI.1 true k e1) rfl) ?_
              rintro _ _ _ ⟨_, ⟨rfl, rfl, rfl⟩, rfl⟩
              refine XOA.cl ?_
              refine zN ?_; refine zT ?_
              refine XA.condT rfl rfl ?_
              refine zS ?_; refine zR ?_; refine zO rfl Rd.mv ?_; refine zO rfl (Rd.fA rfl) ?_; refine zO rfl (Rd.ldC rfl (tyrow rfl) rfl) ?_
              refine XOA.wr0 rfl (WrA.cE (EndS.ok hL) rfl) ?_
              rintro _ _ _ ⟨_, ⟨rfl, rfl, vi2, po2, co2, hvi2, rfl⟩, rfl⟩
              refine XOA.cl ?_
              refine zN ?_; refine zT ?_; refine zS ?_; refine zR ?_; refine zO rfl Rd.mv ?_
              refine XOA.wr0 rfl (WrA.cE (one_f σ b _ _ _ _ _ f2 (by omega)) rfl) ?_
              rintro _ _ _ ⟨_, ⟨rfl, rfl, rfl⟩, rfl⟩
              refine XOA.cl ?_
              refine zN ?_; refine zT ?_
              refine XA.ret ?_
              refine DA.thn_ret ?_
              refine DA.inb_ret ?_
              exact bodyA.ret (ResA.none rfl) zE ⟨rfl, rfl, vi2, po2, co2, hvi2, rfl⟩
  obtain rfl : op = 7 := by omega
  rw [stG, if_neg (by decide), if_neg (by decide), if_neg (by decide), if_neg (by decide), if_neg (by decide), if_neg (by decide), if_pos rfl] at hr
  cases f with
  | zero =>
    rw [show oneS ⟨cells, inp, out, 0⟩ = .error (13, ⟨cells, inp, out, 0⟩) from rfl] at hr
    cases hr
    refine enterA2 Try.func73 rfl rfl rfl ?_
    refine zS ?_; refine zR ?_
    refine XOA.wr0 rfl WrA.bx ?_
    rintro _ _ _ ⟨g3, rfl, rfl, rfl⟩
    refine zN ?_; refine zT ?_; refine zS ?_; refine zR ?_; refine zO rfl (Rd.fA rfl) ?_; refine zO rfl (Rd.ldC rfl (tyrow rfl) rfl) ?_; refine zN ?_; refine zT ?_
    refine XA.block ?_
    refine zS ?_; refine zR ?_; refine zO rfl (Rd.eql rfl rfl) ?_; refine zO rfl Rd.asg ?_; refine zN ?_; refine zT ?_
    refine XA.condF rfl rfl ?_
    refine zS ?_; refine zR ?_; refine zO rfl (Rd.eql rfl rfl) ?_; refine zO rfl Rd.asg ?_; refine zN ?_; refine zT ?_
    refine XA.condF rfl rfl ?_
    refine zS ?_; refine zR ?_; refine zO rfl (Rd.eql rfl rfl) ?_; refine zO rfl Rd.asg ?_; refine zN ?_; refine zT ?_
    refine XA.condF rfl rfl ?_
    refine zS ?_; refine zR ?_; refine zO rfl (Rd.eql rfl rfl) ?_; refine zO rfl Rd.asg ?_; refine zN ?_; refine zT ?_
    refine XA.condF rfl rfl ?_
    refine zS ?_; refine zR ?_; refine zO rfl (Rd.eql rfl rfl) ?_; refine zO rfl Rd.asg ?_; refine zN ?_; refine zT ?_
    refine XA.condF rfl rfl ?_
    refine zS ?_; refine zR ?_; refine zO rfl (Rd.eql rfl rfl) ?_; refine zO rfl Rd.asg ?_; refine zN ?_; refine zT ?_
    refine XA.condF rfl rfl ?_
    refine zS ?_; refine zR ?_; refine zO rfl (Rd.eql rfl rfl) ?_; refine zO rfl Rd.asg ?_; refine zN ?_; refine zT ?_
    refine XA.condT rfl rfl ?_
    refine zR ?_; refine zO rfl Rd.mv ?_
    refine XOA.die rfl (one_t σ b _ _ _ _ _) rfl ?_
    rintro _ _ _ ⟨rfl, rfl, rfl⟩
    refine DA.cl ?_
    repeat (first | refine DA.thn_panic ?_ | refine DA.inb_panic ?_)
    exact bodyA.panic zE ⟨rfl, rfl, vi, po, co, hvi, rfl⟩
  | succ k =>
    rw [show oneS ⟨cells, inp, out, k + 1⟩ = .ok ⟨cells, inp, out, k⟩ by simp [oneS]] at hr
    cases hr
    refine enterA2 Try.func73 rfl rfl rfl ?_
    refine zS ?_; refine zR ?_
    refine XOA.wr0 rfl WrA.bx ?_
    rintro _ _ _ ⟨g3, rfl, rfl, rfl⟩
    refine zN ?_; refine zT ?_; refine zS ?_; refine zR ?_; refine zO rfl (Rd.fA rfl) ?_; refine zO rfl (Rd.ldC rfl (tyrow rfl) rfl) ?_; refine zN ?_; refine zT ?_
    refine XA.block ?_
    refine zS ?_; refine zR ?_; refine zO rfl (Rd.eql rfl rfl) ?_; refine zO rfl Rd.asg ?_; refine zN ?_; refine zT ?_
    refine XA.condF rfl rfl ?_
    refine zS ?_; refine zR ?_; refine zO rfl (Rd.eql rfl rfl) ?_; refine zO rfl Rd.asg ?_; refine zN ?_; refine zT ?_
    refine XA.condF rfl rfl ?_
    refine zS ?_; refine zR ?_; refine zO rfl (Rd.eql rfl rfl) ?_; refine zO rfl Rd.asg ?_; refine zN ?_; refine zT ?_
    refine XA.condF rfl rfl ?_
    refine zS ?_; refine zR ?_; refine zO rfl (Rd.eql rfl rfl) ?_; refine zO rfl Rd.asg ?_; refine zN ?_; refine zT ?_
    refine XA.condF rfl rfl ?_
    refine zS ?_; refine zR ?_; refine zO rfl (Rd.eql rfl rfl) ?_; refine zO rfl Rd.asg ?_; refine zN ?_; refine zT ?_
    refine XA.condF rfl rfl ?_
    refine zS ?_; refine zR ?_; refine zO rfl (Rd.eql rfl rfl) ?_; refine zO rfl Rd.asg ?_; refine zN ?_; refine zT ?_
    refine XA.condF rfl rfl ?_
    refine zS ?_; refine zR ?_; refine zO rfl (Rd.eql rfl rfl) ?_; refine zO rfl Rd.asg ?_; refine zN ?_; refine zT ?_
    refine XA.condT rfl rfl ?_
    refine zR ?_; refine zO rfl Rd.mv ?_
    refine XOA.wr0 rfl (WrA.cE (one_f σ b _ _ _ _ _ k (by omega)) rfl) ?_
    rintro _ _ _ ⟨_, ⟨rfl, rfl, rfl⟩, rfl⟩
    refine XOA.cl ?_
    refine zN ?_
    refine DA.inb_normal ?_
    exact bodyA.normal (ResA.none rfl) zE ⟨rfl, rfl, vi, po, co, hvi, rfl⟩
end Go.Proofs.Ytbbghdkndbpmmaa
