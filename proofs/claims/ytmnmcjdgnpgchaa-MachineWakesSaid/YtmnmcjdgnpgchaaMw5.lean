/- The law MachineWakes holds: all that a machine knows stands in its memory: for every program, every input and all numbers. Condition: none. -/
import Derived.Test.YtmnmcjdgnpgchaaMw4
namespace Go.Proofs.Ytmnmcjdgnpgchaa
open Go X
set_option maxHeartbeats 2000000
theorem stepdone_m (σ : PH) (g mb sb db pb : Nat) (cv iv : Value) (left : Int) (torn : Bool) (d : DiskS) (s : StS) (M : Me) (h4 : M.ld 4 ≠ 0) :
    CallsA Try.prog 18 #[ptr g] σ [blk g [ptr mb, cv, iv, ptr pb, i64 left, .bool torn] 64, Wld mb sb db d s M] (RetA fun v σ' Γ' => v = .bool false ∧ σ = σ' ∧ Γ' = [blk g [ptr mb, cv, iv, ptr pb, i64 left, .bool torn] 64, Wld mb sb db d s M]) := by
  refine enterA1 Try.func18 rfl rfl rfl ?_
  refine zS ?_; refine zR ?_; refine zO rfl Rd.asg ?_; refine zN ?_; refine zT ?_; refine zS ?_; refine zS ?_; refine zR ?_; refine zO rfl Rd.mv ?_; refine zO rfl (Rd.nilCheck rfl) ?_; refine zO rfl (Rd.fA rfl) ?_; refine zO rfl (Rd.ldC rfl (tyrow rfl) rfl) ?_
  refine XOA.wr0 rfl (WrA.cE (load_w σ mb sb db d s M 4) rfl) ?_
  rintro _ _ _ ⟨_, ⟨rfl, rfl, rfl⟩, rfl⟩
  refine XOA.cl ?_
  refine zO rfl (Rd.neq rfl rfl) ?_
  refine zN ?_; refine zT ?_
  refine XA.condT rfl (decide_eq_true h4) ?_
  refine zS ?_; refine zR ?_; refine zO rfl Rd.asg ?_; refine zN ?_; refine zT ?_
  refine XA.ret ?_
  refine DA.thn_ret ?_
  exact bodyA.ret (ResA.one rfl rfl) zE ⟨rfl, rfl, rfl⟩
theorem prS_do {out : List Int} {wrong : Bool} {outn : Nat} {n : Int} (h : outn ≤ out.length) : prS out wrong outn n = (if outn = out.length then (out ++ [n], wrong) else (out, wrong || decide (out.getD outn 0 ≠ n))) := by
  rw [prS]
  by_cases h1 : outn = out.length
  · rw [if_pos (by omega), if_pos h1]
  · rw [if_neg (by omega), if_neg h1, Int.toNat_natCast]
    by_cases h2 : out.getD outn 0 = n
    · rw [if_neg (by rintro (q | q | q); omega; omega; exact q h2), decide_eq_false (fun q => q h2), Bool.or_false]
    · rw [if_pos (.inr (.inr h2)), decide_eq_true h2, Bool.or_true]
section
variable (σ : PH) (g mb sb db pb : Nat) (pc pi : Option Addr) (cc ci : Nat) (code : List In) (inp : List Int) (left : Int) (torn : Bool) (d : DiskS) (s : StS) (M : Me) (b : Be) (x : In)
/-- An instruction that is no commit. -/
theorem step_m (hc : PSl 4 rIn σ (.slice pc code.length cc) code) (hi : PInts σ (.slice pi inp.length ci) inp) (hil : inp.length ≤ 1000000) (hS : Shows M.C b.m) (hk : StepOk code inp b x) (hs : b.m.stack.length < 59) (h15 : x.op ≠ 15) :
    CallsA Try.prog 18 #[ptr g] σ [blk g [ptr mb, .slice pc code.length cc, .slice pi inp.length ci, ptr pb, i64 left, .bool torn] 64, Wld mb sb db d s M, Prin pb b.out b.wrong] (RetA fun v σ' Γ' => v = .bool true ∧ σ = σ' ∧ Γ' = [blk g [ptr mb, .slice pc code.length cc, .slice pi inp.length ci, ptr pb, i64 left, .bool torn] 64, Wld mb sb db d s (M.stepM code inp), Prin pb (stepB code inp false b).out (stepB code inp false b).wrong]) := by
  obtain ⟨⟨next, stack, rd, outn, st, cells⟩, kept, out, wrong⟩ := b
  obtain ⟨hst, hx, hpop, ⟨hcell, hcell2⟩, hgo, hsl, hcl, hcd, hrd, hol, hon⟩ := hk
  have h48 := hS.lc
  simp only at hst hx hpop hcell hcell2 hsl hcl hcd hrd hol hon hs hS h48
  subst hst
  obtain ⟨xop, xa, xb, xn⟩ := x
  simp only at hpop hcell hcell2 hgo h15
  have hlt := (List.getElem?_eq_some_iff.1 hx).1
  obtain ⟨gc, oc', row, rfl, hrx, hrl, hrow⟩ := hc.at hx
  obtain rfl : row = [i64 xop, i64 xa, i64 xb, i64 xn] := hrx
  have hB : stepB code inp false ⟨⟨next, stack, rd, outn, 0, cells⟩, kept, out, wrong⟩ = doIn inp false ⟨xop, xa, xb, xn⟩ ⟨⟨next + 1, stack, rd, outn, 0, cells⟩, kept, out, wrong⟩ := by
    rw [stepB, hx]; rfl
  rw [hB]
  clear hB
  have e0 : M.ld 0 = next := hS.nx
  have hM : M.stepM code inp = (M.put 0 ((next : Int) + 1)).doM inp ⟨xop, xa, xb, xn⟩ := by rw [Me.stepM, e0, Int.toNat_natCast, hx]
  have hw : Shows (M.put 0 (((next : Nat) : Int) + 1)).C ⟨next + 1, stack, rd, outn, 0, cells⟩ := by
    have := hS.put0 (next + 1)
    rw [Int.natCast_add] at this
    exact this
  have hld := load_w σ mb sb db d s M 4
  rw [show M.ld 4 = 0 from hS.st] at hld
  have hadd := add_m σ g mb sb db pb (.slice (some ⟨gc, oc', none⟩) code.length cc) (.slice pi inp.length ci) left torn d s M 0 1
  rw [e0, X.wrap64_in (by omega) (by omega)] at hadd
  rw [hM]
  clear hM hS e0 hc
  generalize M.put 0 (((next : Nat) : Int) + 1) = M1 at hw hadd ⊢
  dsimp only
  refine enterA1 Try.func18 rfl rfl rfl ?_
  refine zS ?_; refine zR ?_; refine zO rfl Rd.asg ?_; refine zN ?_; refine zT ?_; refine zS ?_; refine zS ?_; refine zR ?_; refine zO rfl Rd.mv ?_; refine zO rfl (Rd.nilCheck rfl) ?_; refine zO rfl (Rd.fA rfl) ?_; refine zO rfl (Rd.ldC rfl (tyrow rfl) rfl) ?_
  refine XOA.wr0 rfl (WrA.cE (hld) rfl) ?_
  rintro _ _ _ ⟨_, ⟨rfl, rfl, rfl⟩, rfl⟩
  refine XOA.cl ?_
  refine zO rfl (Rd.neq rfl rfl) ?_
  refine zN ?_; refine zT ?_
  refine XA.condF rfl rfl ?_
  refine XA.skip ?_
  refine zT ?_; refine zS ?_
  refine XA.join [(3, 3), (11, 18)] (fun y : Nat => [(3, ptr y)]) (fun y σ' Γ' => σ = σ' ∧ Γ' = [blk y [i64 xop, i64 xa, i64 xb, i64 xn] 104, blk g [ptr mb, .slice (some ⟨gc, oc', none⟩) code.length cc, .slice pi inp.length ci, ptr pb, i64 left, .bool torn] 64, Wld mb sb db d s M1, Prin pb out wrong]) ?_ ?_
  · skip
    refine XA.drawQ (by kernel_rfl) _ _ [9] 10 #[false, false, false, false, false, false, false, false, false, false] rfl rfl (by kernel_rfl) (PH.sub.refl _) (Ent.sel (R := blk g _ _) (by ((repeat (first | with_reducible exact Sel.head | apply Sel.tail)); (first | done | fail))) (Ent.nil _)) ?_
    refine XQA.pu (i := 0) (listed' := #[true, false, false, false, false, false, false, false, false, false]) rfl rfl (by kernel_rfl) rfl Gd.free Rd.mv ?_
    refine XQA.pu (i := 1) (listed' := #[true, true, false, false, false, false, false, false, false, false]) rfl rfl (by kernel_rfl) rfl Gd.free (Rd.nilCheck rfl) ?_
    refine XQA.pu (i := 2) (listed' := #[true, true, true, false, false, false, false, false, false, false]) rfl rfl (by kernel_rfl) rfl Gd.free (Rd.fA rfl) ?_
    refine XQA.rd (i := 3) (listed' := #[true, true, true, true, false, false, false, false, false, false]) rfl rfl (by kernel_rfl) rfl Gd.free (Rd.ldC rfl (tyrow rfl) rfl) ?_
    refine XQA.pu (i := 4) (listed' := #[true, true, true, true, true, false, false, false, false, false]) rfl rfl (by kernel_rfl) rfl Gd.free Rd.mv ?_
    refine XQA.w2 (i := 5) (j := 8) (by kernel_rfl) ?_ ?_
    · refine XQA1.wr0 (listed' := #[true, true, true, true, true, true, false, false, false, false]) rfl rfl Gd.free (by kernel_rfl) rfl (WrA.cE hadd rfl) ?_
      rintro _ _ _ ⟨_, ⟨rfl, rfl, rfl⟩, rfl⟩
      refine ⟨⟨(by first | exact PH.sub.refl _ | assumption | (refine PH.sub.trans ?_ (by assumption); assumption)), zE⟩, XQA.re (by conv => lhs; dsimp only [List.cons_append, List.nil_append]) ?_⟩
      refine XQA.pu (i := 6) (listed' := #[true, true, true, true, true, true, true, false, false, false]) rfl rfl (by kernel_rfl) rfl Gd.free (Rd.ixS rfl rfl) ?_
      refine XQA.rd (i := 7) (listed' := #[true, true, true, true, true, true, true, true, false, false]) rfl rfl (by kernel_rfl) rfl Gd.free (Rd.ldA rfl) ?_
      refine XQA.w1 (i := 8) (by kernel_rfl) ?_
      refine XQA1.wr0 (listed' := #[true, true, true, true, true, true, true, true, true, false]) rfl rfl Gd.free (by kernel_rfl) rfl (WrA.alloc (tyrow rfl)) ?_
      rintro _ _ _ ⟨g3, rfl, rfl, rfl⟩
      refine ⟨⟨(by first | exact PH.sub.refl _ | assumption | (refine PH.sub.trans ?_ (by assumption); assumption)), zE⟩, XQA.re (by conv => lhs; dsimp only [List.cons_append, List.nil_append]) ?_⟩
      refine XQA.w1 (i := 9) (by kernel_rfl) ?_
      refine XQA1.wrZ0 (listed' := #[true, true, true, true, true, true, true, true, true, true]) rfl rfl Gd.free (by kernel_rfl) rfl (by kernel_rfl) (WrA.st (tyrow rfl) rfl) ?_
      rintro _ _ _ ⟨rfl, rfl, rfl⟩
      refine XQA.re (by conv => lhs; dsimp only [List.cons_append, List.nil_append]) ?_
      refine XQA.nil rfl ?_
      refine DA.thn_normal ⟨(by (repeat (first | exact Keep.refl _ _ | refine Keep.upd ?_ rfl | refine Keep.updO ?_ rfl | refine Keep.updN ?_)); (first | done | fail)), g3, _, (by (repeat (first | exact trivial | refine ⟨rfl, ?_⟩ | refine ⟨Eq.trans rfl (congrArg Value.bool hmat.symm), ?_⟩)); (first | done | fail)), ?_, rfl, rfl⟩; exact zE
    · refine XQA1.wr0 (listed' := #[true, true, true, true, true, false, false, false, true, false]) rfl rfl Gd.free (by kernel_rfl) rfl (WrA.alloc (tyrow rfl)) ?_
      rintro _ _ _ ⟨g3, rfl, rfl, rfl⟩
      refine ⟨⟨(by first | exact PH.sub.refl _ | assumption | (refine PH.sub.trans ?_ (by assumption); assumption)), zE⟩, XQA.re (by conv => lhs; dsimp only [List.cons_append, List.nil_append]) ?_⟩
      refine XQA.w1 (i := 5) (by kernel_rfl) ?_
      refine XQA1.wr0 (listed' := #[true, true, true, true, true, true, false, false, true, false]) rfl rfl Gd.free (by kernel_rfl) rfl (WrA.cE hadd rfl) ?_
      rintro _ _ _ ⟨_, ⟨rfl, rfl, rfl⟩, rfl⟩
      refine ⟨⟨(by first | exact PH.sub.refl _ | assumption | (refine PH.sub.trans ?_ (by assumption); assumption)), zE⟩, XQA.re (by conv => lhs; dsimp only [List.cons_append, List.nil_append]) ?_⟩
      refine XQA.pu (i := 6) (listed' := #[true, true, true, true, true, true, true, false, true, false]) rfl rfl (by kernel_rfl) rfl Gd.free (Rd.ixS rfl rfl) ?_
      refine XQA.rd (i := 7) (listed' := #[true, true, true, true, true, true, true, true, true, false]) rfl rfl (by kernel_rfl) rfl Gd.free (Rd.ldA rfl) ?_
      refine XQA.w1 (i := 9) (by kernel_rfl) ?_
      refine XQA1.wrZ0 (listed' := #[true, true, true, true, true, true, true, true, true, true]) rfl rfl Gd.free (by kernel_rfl) rfl (by kernel_rfl) (WrA.st (tyrow rfl) rfl) ?_
      rintro _ _ _ ⟨rfl, rfl, rfl⟩
      refine XQA.re (by conv => lhs; dsimp only [List.cons_append, List.nil_append]) ?_
      refine XQA.nil rfl ?_
      refine DA.thn_normal ⟨(by (repeat (first | exact Keep.refl _ _ | refine Keep.upd ?_ rfl | refine Keep.updO ?_ rfl | refine Keep.updN ?_)); (first | done | fail)), g3, _, (by (repeat (first | exact trivial | refine ⟨rfl, ?_⟩ | refine ⟨Eq.trans rfl (congrArg Value.bool hmat.symm), ?_⟩)); (first | done | fail)), ?_, rfl, rfl⟩; exact zE
  rintro g3 δ _ _ ⟨rfl, rfl⟩
  dsimp only [ovr, List.foldl]
  refine zT ?_; refine zS ?_; refine zS ?_; refine zR ?_; refine zO rfl (Rd.fA rfl) ?_; refine zO rfl (Rd.ldC rfl (tyrow rfl) rfl) ?_; refine zN ?_; refine zT ?_
  refine XA.block ?_
  refine zS ?_; refine zR ?_; refine zO rfl (Rd.eql rfl rfl) ?_; refine zO rfl Rd.asg ?_; refine zN ?_; refine zT ?_
  by_cases h1 : xop = 1
  · subst h1
    clear hx
    rw [show M1.doM inp ⟨1, xa, xb, xn⟩ = M1.pushM xn from rfl]
    rw [show doIn inp false ⟨1, xa, xb, xn⟩ ⟨⟨next + 1, stack, rd, outn, 0, cells⟩, kept, out, wrong⟩ = ⟨⟨next + 1, xn :: stack, rd, outn, 0, cells⟩, kept, out, wrong⟩ from rfl]
    refine XA.condT rfl rfl ?_
    refine zR ?_; refine zO rfl Rd.mv ?_; refine zO rfl (Rd.fA rfl) ?_; refine zO rfl (Rd.ldC rfl (tyrow rfl) rfl) ?_
    refine XOA.wr0 rfl (WrA.cE (push_m σ g mb sb db pb (.slice (some ⟨gc, oc', none⟩) code.length cc) (.slice pi inp.length ci) left torn d s M1 hw hs xn) rfl) ?_
    rintro _ _ _ ⟨_, ⟨rfl, rfl, rfl⟩, rfl⟩
    refine XOA.cl ?_
    refine zN ?_
    refine DA.inb_normal ?_
    refine zT ?_; refine zS ?_; refine zR ?_; refine zO rfl Rd.asg ?_; refine zN ?_; refine zT ?_
    refine XA.ret ?_
    exact bodyA.ret (ResA.one rfl rfl) zE ⟨rfl, rfl, rfl⟩
  by_cases h4 : xop = 4
  · subst h4
    clear hx
    obtain ⟨y, z, l, rfl⟩ : ∃ y z s, stack = y :: z :: s := by
      cases stack with
      | nil => simp [popA] at hpop
      | cons y s => cases s with
        | nil => simp [popA] at hpop
        | cons z s => exact ⟨y, z, s, rfl⟩
    rw [show M1.doM inp ⟨4, xa, xb, xn⟩ = M1.popM.popM.pushM (binV 4 M1.popM.topM M1.topM) from rfl, hw.topM, hw.popM.topM]
    rw [show doIn inp false ⟨4, xa, xb, xn⟩ ⟨⟨next + 1, y :: z :: l, rd, outn, 0, cells⟩, kept, out, wrong⟩ = ⟨⟨next + 1, binV 4 z y :: l, rd, outn, 0, cells⟩, kept, out, wrong⟩ from rfl]
    refine XA.condF rfl rfl ?_
    refine zS ?_; refine zS ?_; refine zR ?_; refine zO rfl (Rd.eql rfl rfl) ?_; refine zO rfl Rd.asg ?_; refine zN ?_; refine zT ?_
    refine XA.condT rfl rfl ?_
    refine XA.skip ?_
    refine zT ?_
    refine XA.condT rfl rfl ?_
    refine zR ?_; refine zO rfl Rd.mv ?_; refine zO rfl (Rd.fA rfl) ?_; refine zO rfl (Rd.ldC rfl (tyrow rfl) rfl) ?_
    refine XOA.wr0 rfl (WrA.cE (two_m σ g mb sb db pb (.slice (some ⟨gc, oc', none⟩) code.length cc) (.slice pi inp.length ci) left torn d s M1 4 (by decide) hw) rfl) ?_
    rintro _ _ _ ⟨_, ⟨rfl, rfl, rfl⟩, rfl⟩
    refine XOA.cl ?_
    refine zN ?_
    refine DA.inb_normal ?_
    refine zT ?_; refine zS ?_; refine zR ?_; refine zO rfl Rd.asg ?_; refine zN ?_; refine zT ?_
    refine XA.ret ?_
    exact bodyA.ret (ResA.one rfl rfl) zE ⟨rfl, rfl, rfl⟩
  by_cases h5 : xop = 5
  · subst h5
    clear hx
    obtain ⟨y, z, l, rfl⟩ : ∃ y z s, stack = y :: z :: s := by
      cases stack with
      | nil => simp [popA] at hpop
      | cons y s => cases s with
        | nil => simp [popA] at hpop
        | cons z s => exact ⟨y, z, s, rfl⟩
    rw [show M1.doM inp ⟨5, xa, xb, xn⟩ = M1.popM.popM.pushM (binV 5 M1.popM.topM M1.topM) from rfl, hw.topM, hw.popM.topM]
    rw [show doIn inp false ⟨5, xa, xb, xn⟩ ⟨⟨next + 1, y :: z :: l, rd, outn, 0, cells⟩, kept, out, wrong⟩ = ⟨⟨next + 1, binV 5 z y :: l, rd, outn, 0, cells⟩, kept, out, wrong⟩ from rfl]
    refine XA.condF rfl rfl ?_
    refine zS ?_; refine zS ?_; refine zR ?_; refine zO rfl (Rd.eql rfl rfl) ?_; refine zO rfl Rd.asg ?_; refine zN ?_; refine zT ?_
    refine XA.condF rfl rfl ?_
    refine zS ?_; refine zR ?_; refine zO rfl (Rd.eql rfl rfl) ?_; refine zO rfl Rd.asg ?_; refine zN ?_; refine zT ?_
    refine XA.condT rfl rfl ?_
    refine XA.skip ?_
    refine zT ?_
    refine XA.condT rfl rfl ?_
    refine zR ?_; refine zO rfl Rd.mv ?_; refine zO rfl (Rd.fA rfl) ?_; refine zO rfl (Rd.ldC rfl (tyrow rfl) rfl) ?_
    refine XOA.wr0 rfl (WrA.cE (two_m σ g mb sb db pb (.slice (some ⟨gc, oc', none⟩) code.length cc) (.slice pi inp.length ci) left torn d s M1 5 (by decide) hw) rfl) ?_
    rintro _ _ _ ⟨_, ⟨rfl, rfl, rfl⟩, rfl⟩
    refine XOA.cl ?_
    refine zN ?_
    refine DA.inb_normal ?_
    refine zT ?_; refine zS ?_; refine zR ?_; refine zO rfl Rd.asg ?_; refine zN ?_; refine zT ?_
    refine XA.ret ?_
    exact bodyA.ret (ResA.one rfl rfl) zE ⟨rfl, rfl, rfl⟩
  by_cases h6 : xop = 6
  · subst h6
    clear hx
    obtain ⟨y, z, l, rfl⟩ : ∃ y z s, stack = y :: z :: s := by
      cases stack with
      | nil => simp [popA] at hpop
      | cons y s => cases s with
        | nil => simp [popA] at hpop
        | cons z s => exact ⟨y, z, s, rfl⟩
    rw [show M1.doM inp ⟨6, xa, xb, xn⟩ = M1.popM.popM.pushM (binV 6 M1.popM.topM M1.topM) from rfl, hw.topM, hw.popM.topM]
    rw [show doIn inp false ⟨6, xa, xb, xn⟩ ⟨⟨next + 1, y :: z :: l, rd, outn, 0, cells⟩, kept, out, wrong⟩ = ⟨⟨next + 1, binV 6 z y :: l, rd, outn, 0, cells⟩, kept, out, wrong⟩ from rfl]
    refine XA.condF rfl rfl ?_
    refine zS ?_; refine zS ?_; refine zR ?_; refine zO rfl (Rd.eql rfl rfl) ?_; refine zO rfl Rd.asg ?_; refine zN ?_; refine zT ?_
    refine XA.condF rfl rfl ?_
    refine zS ?_; refine zR ?_; refine zO rfl (Rd.eql rfl rfl) ?_; refine zO rfl Rd.asg ?_; refine zN ?_; refine zT ?_
    refine XA.condF rfl rfl ?_
    refine zS ?_; refine zR ?_; refine zO rfl (Rd.eql rfl rfl) ?_; refine zO rfl Rd.asg ?_; refine zN ?_; refine zT ?_
    refine XA.condT rfl rfl ?_
    refine XA.skip ?_
    refine zT ?_
    refine XA.condT rfl rfl ?_
    refine zR ?_; refine zO rfl Rd.mv ?_; refine zO rfl (Rd.fA rfl) ?_; refine zO rfl (Rd.ldC rfl (tyrow rfl) rfl) ?_
    refine XOA.wr0 rfl (WrA.cE (two_m σ g mb sb db pb (.slice (some ⟨gc, oc', none⟩) code.length cc) (.slice pi inp.length ci) left torn d s M1 6 (by decide) hw) rfl) ?_
    rintro _ _ _ ⟨_, ⟨rfl, rfl, rfl⟩, rfl⟩
    refine XOA.cl ?_
    refine zN ?_
    refine DA.inb_normal ?_
    refine zT ?_; refine zS ?_; refine zR ?_; refine zO rfl Rd.asg ?_; refine zN ?_; refine zT ?_
    refine XA.ret ?_
    exact bodyA.ret (ResA.one rfl rfl) zE ⟨rfl, rfl, rfl⟩
  by_cases h7 : xop = 7
  · subst h7
    clear hx
    obtain ⟨y, z, l, rfl⟩ : ∃ y z s, stack = y :: z :: s := by
      cases stack with
      | nil => simp [popA] at hpop
      | cons y s => cases s with
        | nil => simp [popA] at hpop
        | cons z s => exact ⟨y, z, s, rfl⟩
    rw [show M1.doM inp ⟨7, xa, xb, xn⟩ = M1.popM.popM.pushM (binV 7 M1.popM.topM M1.topM) from rfl, hw.topM, hw.popM.topM]
    rw [show doIn inp false ⟨7, xa, xb, xn⟩ ⟨⟨next + 1, y :: z :: l, rd, outn, 0, cells⟩, kept, out, wrong⟩ = ⟨⟨next + 1, binV 7 z y :: l, rd, outn, 0, cells⟩, kept, out, wrong⟩ from rfl]
    refine XA.condF rfl rfl ?_
    refine zS ?_; refine zS ?_; refine zR ?_; refine zO rfl (Rd.eql rfl rfl) ?_; refine zO rfl Rd.asg ?_; refine zN ?_; refine zT ?_
    refine XA.condF rfl rfl ?_
    refine zS ?_; refine zR ?_; refine zO rfl (Rd.eql rfl rfl) ?_; refine zO rfl Rd.asg ?_; refine zN ?_; refine zT ?_
    refine XA.condF rfl rfl ?_
    refine zS ?_; refine zR ?_; refine zO rfl (Rd.eql rfl rfl) ?_; refine zO rfl Rd.asg ?_; refine zN ?_; refine zT ?_
    refine XA.condF rfl rfl ?_
    refine zS ?_; refine zR ?_; refine zO rfl (Rd.eql rfl rfl) ?_; refine zO rfl Rd.asg ?_; refine zN ?_; refine zT ?_
    refine XA.condT rfl rfl ?_
    refine XA.skip ?_
    refine zT ?_
    refine XA.condT rfl rfl ?_
    refine zR ?_; refine zO rfl Rd.mv ?_; refine zO rfl (Rd.fA rfl) ?_; refine zO rfl (Rd.ldC rfl (tyrow rfl) rfl) ?_
    refine XOA.wr0 rfl (WrA.cE (two_m σ g mb sb db pb (.slice (some ⟨gc, oc', none⟩) code.length cc) (.slice pi inp.length ci) left torn d s M1 7 (by decide) hw) rfl) ?_
    rintro _ _ _ ⟨_, ⟨rfl, rfl, rfl⟩, rfl⟩
    refine XOA.cl ?_
    refine zN ?_
    refine DA.inb_normal ?_
    refine zT ?_; refine zS ?_; refine zR ?_; refine zO rfl Rd.asg ?_; refine zN ?_; refine zT ?_
    refine XA.ret ?_
    exact bodyA.ret (ResA.one rfl rfl) zE ⟨rfl, rfl, rfl⟩
  by_cases h8 : xop = 8
  · subst h8
    clear hx
    obtain ⟨y, z, l, rfl⟩ : ∃ y z s, stack = y :: z :: s := by
      cases stack with
      | nil => simp [popA] at hpop
      | cons y s => cases s with
        | nil => simp [popA] at hpop
        | cons z s => exact ⟨y, z, s, rfl⟩
    rw [show M1.doM inp ⟨8, xa, xb, xn⟩ = M1.popM.popM.pushM (binV 8 M1.popM.topM M1.topM) from rfl, hw.topM, hw.popM.topM]
    rw [show doIn inp false ⟨8, xa, xb, xn⟩ ⟨⟨next + 1, y :: z :: l, rd, outn, 0, cells⟩, kept, out, wrong⟩ = ⟨⟨next + 1, binV 8 z y :: l, rd, outn, 0, cells⟩, kept, out, wrong⟩ from rfl]
    refine XA.condF rfl rfl ?_
    refine zS ?_; refine zS ?_; refine zR ?_; refine zO rfl (Rd.eql rfl rfl) ?_; refine zO rfl Rd.asg ?_; refine zN ?_; refine zT ?_
    refine XA.condF rfl rfl ?_
    refine zS ?_; refine zR ?_; refine zO rfl (Rd.eql rfl rfl) ?_; refine zO rfl Rd.asg ?_; refine zN ?_; refine zT ?_
    refine XA.condF rfl rfl ?_
    refine zS ?_; refine zR ?_; refine zO rfl (Rd.eql rfl rfl) ?_; refine zO rfl Rd.asg ?_; refine zN ?_; refine zT ?_
    refine XA.condF rfl rfl ?_
    refine zS ?_; refine zR ?_; refine zO rfl (Rd.eql rfl rfl) ?_; refine zO rfl Rd.asg ?_; refine zN ?_; refine zT ?_
    refine XA.condF rfl rfl ?_
    refine zR ?_; refine zO rfl (Rd.eql rfl rfl) ?_; refine zO rfl Rd.asg ?_; refine zN ?_; refine zT ?_
    refine XA.condT rfl rfl ?_
    refine zR ?_; refine zO rfl Rd.mv ?_; refine zO rfl (Rd.fA rfl) ?_; refine zO rfl (Rd.ldC rfl (tyrow rfl) rfl) ?_
    refine XOA.wr0 rfl (WrA.cE (two_m σ g mb sb db pb (.slice (some ⟨gc, oc', none⟩) code.length cc) (.slice pi inp.length ci) left torn d s M1 8 (by decide) hw) rfl) ?_
    rintro _ _ _ ⟨_, ⟨rfl, rfl, rfl⟩, rfl⟩
    refine XOA.cl ?_
    refine zN ?_
    refine DA.inb_normal ?_
    refine zT ?_; refine zS ?_; refine zR ?_; refine zO rfl Rd.asg ?_; refine zN ?_; refine zT ?_
    refine XA.ret ?_
    exact bodyA.ret (ResA.one rfl rfl) zE ⟨rfl, rfl, rfl⟩
  by_cases h11 : xop = 11
  · subst h11
    clear hx
    obtain ⟨n, l, rfl⟩ : ∃ n s, stack = n :: s := by
      cases stack with
      | nil => simp [popA] at hpop
      | cons n s => exact ⟨n, s, rfl⟩
    rw [show M1.doM inp ⟨11, xa, xb, xn⟩ = M1.popM.put 3 (M1.popM.ld 3 + 1) from rfl]
    have e3 : M1.popM.ld 3 = outn := hw.popM.on
    rw [e3]
    have hadd3 := add_m σ g mb sb db pb (.slice (some ⟨gc, oc', none⟩) code.length cc) (.slice pi inp.length ci) left torn d s M1.popM 3 1
    rw [e3, X.wrap64_in (by omega) (by omega)] at hadd3
    have hpr := prS_do (wrong := wrong) (n := n) hon
    obtain ⟨eo, ew⟩ : (doIn inp false ⟨11, xa, xb, xn⟩ ⟨⟨next + 1, n :: l, rd, outn, 0, cells⟩, kept, out, wrong⟩).out = (prS out wrong outn n).1 ∧ (doIn inp false ⟨11, xa, xb, xn⟩ ⟨⟨next + 1, n :: l, rd, outn, 0, cells⟩, kept, out, wrong⟩).wrong = (prS out wrong outn n).2 := by
      rw [hpr]
      by_cases hoe : outn = out.length <;> simp [doIn, hoe]
    rw [eo, ew]
    refine XA.condF rfl rfl ?_
    refine zS ?_; refine zS ?_; refine zR ?_; refine zO rfl (Rd.eql rfl rfl) ?_; refine zO rfl Rd.asg ?_; refine zN ?_; refine zT ?_
    refine XA.condF rfl rfl ?_
    refine zS ?_; refine zR ?_; refine zO rfl (Rd.eql rfl rfl) ?_; refine zO rfl Rd.asg ?_; refine zN ?_; refine zT ?_
    refine XA.condF rfl rfl ?_
    refine zS ?_; refine zR ?_; refine zO rfl (Rd.eql rfl rfl) ?_; refine zO rfl Rd.asg ?_; refine zN ?_; refine zT ?_
    refine XA.condF rfl rfl ?_
    refine zS ?_; refine zR ?_; refine zO rfl (Rd.eql rfl rfl) ?_; refine zO rfl Rd.asg ?_; refine zN ?_; refine zT ?_
    refine XA.condF rfl rfl ?_
    refine zR ?_; refine zO rfl (Rd.eql rfl rfl) ?_; refine zO rfl Rd.asg ?_; refine zN ?_; refine zT ?_
    refine XA.condF rfl rfl ?_
    refine zS ?_; refine zR ?_; refine zO rfl (Rd.eql rfl rfl) ?_; refine zO rfl Rd.asg ?_; refine zN ?_; refine zT ?_
    refine XA.condT rfl rfl ?_
    refine zS ?_; refine zR ?_; refine zO rfl Rd.mv ?_
    refine XOA.wr0 rfl (WrA.cE (pop_m σ g mb sb db pb (.slice (some ⟨gc, oc', none⟩) code.length cc) (.slice pi inp.length ci) left torn d s M1 hw) rfl) ?_
    rintro _ _ _ ⟨_, ⟨rfl, rfl, rfl⟩, rfl⟩
    refine XOA.cl ?_
    refine zO rfl Rd.asg ?_; refine zN ?_; refine zT ?_
    refine XA.draw (by kernel_rfl) _ _ [7] [(0, .pu), (1, .pu), (2, .pu), (3, .rd), (4, .pu), (6, .pu), (5, .wr), (7, .wr)] (by kernel_rfl) (PH.sub.refl _) (Ent.sel (R := blk g _ _) (by ((repeat (first | with_reducible exact Sel.head | apply Sel.tail)); (first | done | fail))) (Ent.nil _)) ?_
    refine XPA.pu rfl rfl Gd.free Rd.mv ?_
    refine XPA.pu rfl rfl Gd.free (Rd.nilCheck rfl) ?_
    refine XPA.pu rfl rfl Gd.free (Rd.fA rfl) ?_
    refine XPA.rd rfl rfl Gd.free (Rd.ldC rfl (tyrow rfl) rfl) ?_
    refine XPA.pu rfl rfl Gd.free Rd.mv ?_
    refine XPA.pu rfl rfl Gd.free Rd.mv ?_
    refine XPA.wr0 rfl rfl Gd.free (WrA.cE (hadd3) rfl) ?_
    rintro _ _ _ ⟨_, ⟨rfl, rfl, rfl⟩, rfl⟩
    refine stays (XPA.cl ?_)
    refine XPA.wrZ0 rfl rfl Gd.free (by kernel_rfl) (WrA.cE (pput_a σ pb out wrong outn n hol) rfl) ?_
    rintro _ _ _ ⟨_, ⟨rfl, rfl, rfl⟩, rfl⟩
    refine XPA.cl ?_
    refine XPA.nil ?_
    refine DA.inb_normal ?_
    refine zT ?_; refine zS ?_; refine zR ?_; refine zO rfl Rd.asg ?_; refine zN ?_; refine zT ?_
    refine XA.ret ?_
    exact bodyA.ret (ResA.one rfl rfl) zE ⟨rfl, rfl, rfl⟩
  by_cases h13 : xop = 13
  · subst h13
    clear hx
    obtain ⟨n, l, rfl⟩ : ∃ n s, stack = n :: s := by
      cases stack with
      | nil => simp [popA] at hpop
      | cons n s => exact ⟨n, s, rfl⟩
    rw [show M1.doM inp ⟨13, xa, xb, xn⟩ = (if M1.topM = 0 then M1.popM.put 0 xa else M1.popM) from rfl, hw.topM]
    by_cases hn0 : n = 0
    · rw [if_pos hn0, show doIn inp false ⟨13, xa, xb, xn⟩ ⟨⟨next + 1, n :: l, rd, outn, 0, cells⟩, kept, out, wrong⟩ = ⟨⟨xa.toNat, l, rd, outn, 0, cells⟩, kept, out, wrong⟩ from by simp [doIn, hn0]]
      refine XA.condF rfl rfl ?_
      refine zS ?_; refine zS ?_; refine zR ?_; refine zO rfl (Rd.eql rfl rfl) ?_; refine zO rfl Rd.asg ?_; refine zN ?_; refine zT ?_
      refine XA.condF rfl rfl ?_
      refine zS ?_; refine zR ?_; refine zO rfl (Rd.eql rfl rfl) ?_; refine zO rfl Rd.asg ?_; refine zN ?_; refine zT ?_
      refine XA.condF rfl rfl ?_
      refine zS ?_; refine zR ?_; refine zO rfl (Rd.eql rfl rfl) ?_; refine zO rfl Rd.asg ?_; refine zN ?_; refine zT ?_
      refine XA.condF rfl rfl ?_
      refine zS ?_; refine zR ?_; refine zO rfl (Rd.eql rfl rfl) ?_; refine zO rfl Rd.asg ?_; refine zN ?_; refine zT ?_
      refine XA.condF rfl rfl ?_
      refine zR ?_; refine zO rfl (Rd.eql rfl rfl) ?_; refine zO rfl Rd.asg ?_; refine zN ?_; refine zT ?_
      refine XA.condF rfl rfl ?_
      refine zS ?_; refine zR ?_; refine zO rfl (Rd.eql rfl rfl) ?_; refine zO rfl Rd.asg ?_; refine zN ?_; refine zT ?_
      refine XA.condF rfl rfl ?_
      refine zS ?_; refine zR ?_; refine zO rfl (Rd.eql rfl rfl) ?_; refine zO rfl Rd.asg ?_; refine zN ?_; refine zT ?_
      refine XA.condT rfl rfl ?_
      refine zS ?_; refine zR ?_; refine zO rfl Rd.mv ?_
      refine XOA.wr0 rfl (WrA.cE (pop_m σ g mb sb db pb (.slice (some ⟨gc, oc', none⟩) code.length cc) (.slice pi inp.length ci) left torn d s M1 hw) rfl) ?_
      rintro _ _ _ ⟨_, ⟨rfl, rfl, rfl⟩, rfl⟩
      refine XOA.cl ?_
      refine zO rfl (Rd.eql rfl rfl) ?_; refine zN ?_; refine zT ?_
      refine XA.condT rfl (decide_eq_true hn0) ?_
      refine XA.draw (by kernel_rfl) _ _ [6] [(0, .pu), (1, .pu), (2, .pu), (3, .rd), (4, .pu), (5, .rd), (6, .wr)] (by kernel_rfl) (PH.sub.refl _) (Ent.sel (R := blk g _ _) (by ((repeat (first | with_reducible exact Sel.head | apply Sel.tail)); (first | done | fail))) (Ent.sel (R := blk g3 _ _) (by ((repeat (first | with_reducible exact Sel.head | apply Sel.tail)); (first | done | fail))) (Ent.nil _))) ?_
      refine XPA.pu rfl rfl Gd.free Rd.mv ?_
      refine XPA.pu rfl rfl Gd.free (Rd.nilCheck rfl) ?_
      refine XPA.pu rfl rfl Gd.free (Rd.fA rfl) ?_
      refine XPA.rd rfl rfl Gd.free (Rd.ldC rfl (tyrow rfl) rfl) ?_
      refine XPA.pu rfl rfl Gd.free (Rd.fA rfl) ?_
      refine XPA.rd rfl rfl Gd.free (Rd.ldC rfl (tyrow rfl) rfl) ?_
      refine XPA.wrZ0 rfl rfl Gd.free (by kernel_rfl) (WrA.cE (put_w σ mb sb db d s M1.popM 0 xa) rfl) ?_
      rintro _ _ _ ⟨_, ⟨rfl, rfl, rfl⟩, rfl⟩
      refine XPA.cl ?_
      refine XPA.nil ?_
      refine DA.inb_normal ?_
      refine zT ?_; refine zS ?_; refine zR ?_; refine zO rfl Rd.asg ?_; refine zN ?_; refine zT ?_
      refine XA.ret ?_
      exact bodyA.ret (ResA.one rfl rfl) zE ⟨rfl, rfl, rfl⟩
    rw [if_neg hn0, show doIn inp false ⟨13, xa, xb, xn⟩ ⟨⟨next + 1, n :: l, rd, outn, 0, cells⟩, kept, out, wrong⟩ = ⟨⟨next + 1, l, rd, outn, 0, cells⟩, kept, out, wrong⟩ from by simp [doIn, hn0]]
    refine XA.condF rfl rfl ?_
    refine zS ?_; refine zS ?_; refine zR ?_; refine zO rfl (Rd.eql rfl rfl) ?_; refine zO rfl Rd.asg ?_; refine zN ?_; refine zT ?_
    refine XA.condF rfl rfl ?_
    refine zS ?_; refine zR ?_; refine zO rfl (Rd.eql rfl rfl) ?_; refine zO rfl Rd.asg ?_; refine zN ?_; refine zT ?_
    refine XA.condF rfl rfl ?_
    refine zS ?_; refine zR ?_; refine zO rfl (Rd.eql rfl rfl) ?_; refine zO rfl Rd.asg ?_; refine zN ?_; refine zT ?_
    refine XA.condF rfl rfl ?_
    refine zS ?_; refine zR ?_; refine zO rfl (Rd.eql rfl rfl) ?_; refine zO rfl Rd.asg ?_; refine zN ?_; refine zT ?_
    refine XA.condF rfl rfl ?_
    refine zR ?_; refine zO rfl (Rd.eql rfl rfl) ?_; refine zO rfl Rd.asg ?_; refine zN ?_; refine zT ?_
    refine XA.condF rfl rfl ?_
    refine zS ?_; refine zR ?_; refine zO rfl (Rd.eql rfl rfl) ?_; refine zO rfl Rd.asg ?_; refine zN ?_; refine zT ?_
    refine XA.condF rfl rfl ?_
    refine zS ?_; refine zR ?_; refine zO rfl (Rd.eql rfl rfl) ?_; refine zO rfl Rd.asg ?_; refine zN ?_; refine zT ?_
    refine XA.condT rfl rfl ?_
    refine zS ?_; refine zR ?_; refine zO rfl Rd.mv ?_
    refine XOA.wr0 rfl (WrA.cE (pop_m σ g mb sb db pb (.slice (some ⟨gc, oc', none⟩) code.length cc) (.slice pi inp.length ci) left torn d s M1 hw) rfl) ?_
    rintro _ _ _ ⟨_, ⟨rfl, rfl, rfl⟩, rfl⟩
    refine XOA.cl ?_
    refine zO rfl (Rd.eql rfl rfl) ?_; refine zN ?_; refine zT ?_
    refine XA.condF rfl (decide_eq_false hn0) ?_
    refine XA.skip ?_
    refine DA.inb_normal ?_
    refine zT ?_; refine zS ?_; refine zR ?_; refine zO rfl Rd.asg ?_; refine zN ?_; refine zT ?_
    refine XA.ret ?_
    exact bodyA.ret (ResA.one rfl rfl) zE ⟨rfl, rfl, rfl⟩
  by_cases h14 : xop = 14
  · subst h14
    clear hx
    rw [show M1.doM inp ⟨14, xa, xb, xn⟩ = M1.put 0 xa from rfl]
    rw [show doIn inp false ⟨14, xa, xb, xn⟩ ⟨⟨next + 1, stack, rd, outn, 0, cells⟩, kept, out, wrong⟩ = ⟨⟨xa.toNat, stack, rd, outn, 0, cells⟩, kept, out, wrong⟩ from rfl]
    refine XA.condF rfl rfl ?_
    refine zS ?_; refine zS ?_; refine zR ?_; refine zO rfl (Rd.eql rfl rfl) ?_; refine zO rfl Rd.asg ?_; refine zN ?_; refine zT ?_
    refine XA.condF rfl rfl ?_
    refine zS ?_; refine zR ?_; refine zO rfl (Rd.eql rfl rfl) ?_; refine zO rfl Rd.asg ?_; refine zN ?_; refine zT ?_
    refine XA.condF rfl rfl ?_
    refine zS ?_; refine zR ?_; refine zO rfl (Rd.eql rfl rfl) ?_; refine zO rfl Rd.asg ?_; refine zN ?_; refine zT ?_
    refine XA.condF rfl rfl ?_
    refine zS ?_; refine zR ?_; refine zO rfl (Rd.eql rfl rfl) ?_; refine zO rfl Rd.asg ?_; refine zN ?_; refine zT ?_
    refine XA.condF rfl rfl ?_
    refine zR ?_; refine zO rfl (Rd.eql rfl rfl) ?_; refine zO rfl Rd.asg ?_; refine zN ?_; refine zT ?_
    refine XA.condF rfl rfl ?_
    refine zS ?_; refine zR ?_; refine zO rfl (Rd.eql rfl rfl) ?_; refine zO rfl Rd.asg ?_; refine zN ?_; refine zT ?_
    refine XA.condF rfl rfl ?_
    refine zS ?_; refine zR ?_; refine zO rfl (Rd.eql rfl rfl) ?_; refine zO rfl Rd.asg ?_; refine zN ?_; refine zT ?_
    refine XA.condF rfl rfl ?_
    refine zS ?_; refine zR ?_; refine zO rfl (Rd.eql rfl rfl) ?_; refine zO rfl Rd.asg ?_; refine zN ?_; refine zT ?_
    refine XA.condT rfl rfl ?_
    refine XA.draw (by kernel_rfl) _ _ [6] [(0, .pu), (1, .pu), (2, .pu), (3, .rd), (4, .pu), (5, .rd), (6, .wr)] (by kernel_rfl) (PH.sub.refl _) (Ent.sel (R := blk g _ _) (by ((repeat (first | with_reducible exact Sel.head | apply Sel.tail)); (first | done | fail))) (Ent.sel (R := blk g3 _ _) (by ((repeat (first | with_reducible exact Sel.head | apply Sel.tail)); (first | done | fail))) (Ent.nil _))) ?_
    refine XPA.pu rfl rfl Gd.free Rd.mv ?_
    refine XPA.pu rfl rfl Gd.free (Rd.nilCheck rfl) ?_
    refine XPA.pu rfl rfl Gd.free (Rd.fA rfl) ?_
    refine XPA.rd rfl rfl Gd.free (Rd.ldC rfl (tyrow rfl) rfl) ?_
    refine XPA.pu rfl rfl Gd.free (Rd.fA rfl) ?_
    refine XPA.rd rfl rfl Gd.free (Rd.ldC rfl (tyrow rfl) rfl) ?_
    refine XPA.wrZ0 rfl rfl Gd.free (by kernel_rfl) (WrA.cE (put_w σ mb sb db d s M1 0 xa) rfl) ?_
    rintro _ _ _ ⟨_, ⟨rfl, rfl, rfl⟩, rfl⟩
    refine XPA.cl ?_
    refine XPA.nil ?_
    refine DA.inb_normal ?_
    refine zT ?_; refine zS ?_; refine zR ?_; refine zO rfl Rd.asg ?_; refine zN ?_; refine zT ?_
    refine XA.ret ?_
    exact bodyA.ret (ResA.one rfl rfl) zE ⟨rfl, rfl, rfl⟩
  by_cases h16 : xop = 16
  · subst h16
    clear hx
    rw [show M1.doM inp ⟨16, xa, xb, xn⟩ = M1.put 4 1 from rfl]
    rw [show doIn inp false ⟨16, xa, xb, xn⟩ ⟨⟨next + 1, stack, rd, outn, 0, cells⟩, kept, out, wrong⟩ = ⟨⟨next + 1, stack, rd, outn, 1, cells⟩, kept, out, wrong⟩ from rfl]
    refine XA.condF rfl rfl ?_
    refine zS ?_; refine zS ?_; refine zR ?_; refine zO rfl (Rd.eql rfl rfl) ?_; refine zO rfl Rd.asg ?_; refine zN ?_; refine zT ?_
    refine XA.condF rfl rfl ?_
    refine zS ?_; refine zR ?_; refine zO rfl (Rd.eql rfl rfl) ?_; refine zO rfl Rd.asg ?_; refine zN ?_; refine zT ?_
    refine XA.condF rfl rfl ?_
    refine zS ?_; refine zR ?_; refine zO rfl (Rd.eql rfl rfl) ?_; refine zO rfl Rd.asg ?_; refine zN ?_; refine zT ?_
    refine XA.condF rfl rfl ?_
    refine zS ?_; refine zR ?_; refine zO rfl (Rd.eql rfl rfl) ?_; refine zO rfl Rd.asg ?_; refine zN ?_; refine zT ?_
    refine XA.condF rfl rfl ?_
    refine zR ?_; refine zO rfl (Rd.eql rfl rfl) ?_; refine zO rfl Rd.asg ?_; refine zN ?_; refine zT ?_
    refine XA.condF rfl rfl ?_
    refine zS ?_; refine zR ?_; refine zO rfl (Rd.eql rfl rfl) ?_; refine zO rfl Rd.asg ?_; refine zN ?_; refine zT ?_
    refine XA.condF rfl rfl ?_
    refine zS ?_; refine zR ?_; refine zO rfl (Rd.eql rfl rfl) ?_; refine zO rfl Rd.asg ?_; refine zN ?_; refine zT ?_
    refine XA.condF rfl rfl ?_
    refine zS ?_; refine zR ?_; refine zO rfl (Rd.eql rfl rfl) ?_; refine zO rfl Rd.asg ?_; refine zN ?_; refine zT ?_
    refine XA.condF rfl rfl ?_
    refine zS ?_; refine zR ?_; refine zO rfl (Rd.eql rfl rfl) ?_; refine zO rfl Rd.asg ?_; refine zN ?_; refine zT ?_
    refine XA.condF rfl rfl ?_
    refine zS ?_; refine zR ?_; refine zO rfl (Rd.eql rfl rfl) ?_; refine zO rfl Rd.asg ?_; refine zN ?_; refine zT ?_
    refine XA.condT rfl rfl ?_
    refine zR ?_; refine zO rfl Rd.mv ?_
    refine XOA.wr0 rfl (WrA.cE (stop_m σ g mb sb db pb (.slice (some ⟨gc, oc', none⟩) code.length cc) (.slice pi inp.length ci) left torn d s M1 1) rfl) ?_
    rintro _ _ _ ⟨_, ⟨rfl, rfl, rfl⟩, rfl⟩
    refine XOA.cl ?_
    refine zN ?_
    refine DA.inb_normal ?_
    refine zT ?_; refine zS ?_; refine zR ?_; refine zO rfl Rd.asg ?_; refine zN ?_; refine zT ?_
    refine XA.ret ?_
    exact bodyA.ret (ResA.one rfl rfl) zE ⟨rfl, rfl, rfl⟩
  by_cases h2 : xop = 2
  · subst h2
    clear hx
    obtain ⟨ha0, ha1⟩ := hcell (.inl rfl)
    rw [show M1.doM inp ⟨2, xa, xb, xn⟩ = M1.pushM (M1.ld (5 + xa)) from rfl]
    rw [show doIn inp false ⟨2, xa, xb, xn⟩ ⟨⟨next + 1, stack, rd, outn, 0, cells⟩, kept, out, wrong⟩ = ⟨⟨next + 1, cells.getD xa.toNat 0 :: stack, rd, outn, 0, cells⟩, kept, out, wrong⟩ from rfl]
    refine XA.condF rfl rfl ?_
    refine zS ?_; refine zS ?_; refine zR ?_; refine zO rfl (Rd.eql rfl rfl) ?_; refine zO rfl Rd.asg ?_; refine zN ?_; refine zT ?_
    refine XA.condF rfl rfl ?_
    refine zS ?_; refine zR ?_; refine zO rfl (Rd.eql rfl rfl) ?_; refine zO rfl Rd.asg ?_; refine zN ?_; refine zT ?_
    refine XA.condF rfl rfl ?_
    refine zS ?_; refine zR ?_; refine zO rfl (Rd.eql rfl rfl) ?_; refine zO rfl Rd.asg ?_; refine zN ?_; refine zT ?_
    refine XA.condF rfl rfl ?_
    refine zS ?_; refine zR ?_; refine zO rfl (Rd.eql rfl rfl) ?_; refine zO rfl Rd.asg ?_; refine zN ?_; refine zT ?_
    refine XA.condF rfl rfl ?_
    refine zR ?_; refine zO rfl (Rd.eql rfl rfl) ?_; refine zO rfl Rd.asg ?_; refine zN ?_; refine zT ?_
    refine XA.condF rfl rfl ?_
    refine zS ?_; refine zR ?_; refine zO rfl (Rd.eql rfl rfl) ?_; refine zO rfl Rd.asg ?_; refine zN ?_; refine zT ?_
    refine XA.condF rfl rfl ?_
    refine zS ?_; refine zR ?_; refine zO rfl (Rd.eql rfl rfl) ?_; refine zO rfl Rd.asg ?_; refine zN ?_; refine zT ?_
    refine XA.condF rfl rfl ?_
    refine zS ?_; refine zR ?_; refine zO rfl (Rd.eql rfl rfl) ?_; refine zO rfl Rd.asg ?_; refine zN ?_; refine zT ?_
    refine XA.condF rfl rfl ?_
    refine zS ?_; refine zR ?_; refine zO rfl (Rd.eql rfl rfl) ?_; refine zO rfl Rd.asg ?_; refine zN ?_; refine zT ?_
    refine XA.condF rfl rfl ?_
    refine zS ?_; refine zR ?_; refine zO rfl (Rd.eql rfl rfl) ?_; refine zO rfl Rd.asg ?_; refine zN ?_; refine zT ?_
    refine XA.condF rfl rfl ?_
    refine zR ?_; refine zO rfl Rd.mv ?_; refine zO rfl (Rd.ldA rfl) ?_
    refine XOA.wr0 rfl (WrA.cE (cells2_m σ g mb sb db pb (.slice (some ⟨gc, oc', none⟩) code.length cc) (.slice pi inp.length ci) left torn d s M1 xa xb xn ⟨ha0, by omega⟩ hw hs) rfl) ?_
    rintro _ _ _ ⟨_, ⟨rfl, rfl, rfl⟩, rfl⟩
    refine XOA.cl ?_
    refine zN ?_
    refine DA.inb_normal ?_
    refine zT ?_; refine zS ?_; refine zR ?_; refine zO rfl Rd.asg ?_; refine zN ?_; refine zT ?_
    refine XA.ret ?_
    exact bodyA.ret (ResA.one rfl rfl) zE ⟨rfl, rfl, rfl⟩
  by_cases h3 : xop = 3
  · subst h3
    clear hx
    obtain ⟨n, l, rfl⟩ : ∃ n s, stack = n :: s := by
      cases stack with
      | nil => simp [popA] at hpop
      | cons n s => exact ⟨n, s, rfl⟩
    obtain ⟨hb0, hb1, hb2⟩ := hcell2 (by decide)
    rw [show M1.doM inp ⟨3, xa, xb, xn⟩ = (if M1.topM < 0 ∨ xb ≤ M1.topM then M1.popM.put 4 13 else M1.popM.pushM (M1.popM.ld (5 + xa + M1.topM))) from rfl, hw.topM]
    obtain ⟨eo, ew⟩ : (doIn inp false ⟨3, xa, xb, xn⟩ ⟨⟨next + 1, n :: l, rd, outn, 0, cells⟩, kept, out, wrong⟩).out = out ∧ (doIn inp false ⟨3, xa, xb, xn⟩ ⟨⟨next + 1, n :: l, rd, outn, 0, cells⟩, kept, out, wrong⟩).wrong = wrong := by
      by_cases hoe : n < 0 ∨ xb ≤ n <;> simp [doIn, hoe]
    rw [eo, ew]
    refine XA.condF rfl rfl ?_
    refine zS ?_; refine zS ?_; refine zR ?_; refine zO rfl (Rd.eql rfl rfl) ?_; refine zO rfl Rd.asg ?_; refine zN ?_; refine zT ?_
    refine XA.condF rfl rfl ?_
    refine zS ?_; refine zR ?_; refine zO rfl (Rd.eql rfl rfl) ?_; refine zO rfl Rd.asg ?_; refine zN ?_; refine zT ?_
    refine XA.condF rfl rfl ?_
    refine zS ?_; refine zR ?_; refine zO rfl (Rd.eql rfl rfl) ?_; refine zO rfl Rd.asg ?_; refine zN ?_; refine zT ?_
    refine XA.condF rfl rfl ?_
    refine zS ?_; refine zR ?_; refine zO rfl (Rd.eql rfl rfl) ?_; refine zO rfl Rd.asg ?_; refine zN ?_; refine zT ?_
    refine XA.condF rfl rfl ?_
    refine zR ?_; refine zO rfl (Rd.eql rfl rfl) ?_; refine zO rfl Rd.asg ?_; refine zN ?_; refine zT ?_
    refine XA.condF rfl rfl ?_
    refine zS ?_; refine zR ?_; refine zO rfl (Rd.eql rfl rfl) ?_; refine zO rfl Rd.asg ?_; refine zN ?_; refine zT ?_
    refine XA.condF rfl rfl ?_
    refine zS ?_; refine zR ?_; refine zO rfl (Rd.eql rfl rfl) ?_; refine zO rfl Rd.asg ?_; refine zN ?_; refine zT ?_
    refine XA.condF rfl rfl ?_
    refine zS ?_; refine zR ?_; refine zO rfl (Rd.eql rfl rfl) ?_; refine zO rfl Rd.asg ?_; refine zN ?_; refine zT ?_
    refine XA.condF rfl rfl ?_
    refine zS ?_; refine zR ?_; refine zO rfl (Rd.eql rfl rfl) ?_; refine zO rfl Rd.asg ?_; refine zN ?_; refine zT ?_
    refine XA.condF rfl rfl ?_
    refine zS ?_; refine zR ?_; refine zO rfl (Rd.eql rfl rfl) ?_; refine zO rfl Rd.asg ?_; refine zN ?_; refine zT ?_
    refine XA.condF rfl rfl ?_
    refine zR ?_; refine zO rfl Rd.mv ?_; refine zO rfl (Rd.ldA rfl) ?_
    refine XOA.wr0 rfl (WrA.cE (cells3_m σ g mb sb db pb (.slice (some ⟨gc, oc', none⟩) code.length cc) (.slice pi inp.length ci) left torn d s M1 xa xb xn n l ⟨hb0, hb1, by omega⟩ hw) rfl) ?_
    rintro _ _ _ ⟨_, ⟨rfl, rfl, rfl⟩, rfl⟩
    refine XOA.cl ?_
    refine zN ?_
    refine DA.inb_normal ?_
    refine zT ?_; refine zS ?_; refine zR ?_; refine zO rfl Rd.asg ?_; refine zN ?_; refine zT ?_
    refine XA.ret ?_
    exact bodyA.ret (ResA.one rfl rfl) zE ⟨rfl, rfl, rfl⟩
  by_cases h9 : xop = 9
  · subst h9
    clear hx
    obtain ⟨n, l, rfl⟩ : ∃ n s, stack = n :: s := by
      cases stack with
      | nil => simp [popA] at hpop
      | cons n s => exact ⟨n, s, rfl⟩
    obtain ⟨ha0, ha1⟩ := hcell (by decide)
    rw [show M1.doM inp ⟨9, xa, xb, xn⟩ = M1.popM.put (5 + xa) M1.topM from rfl, hw.topM]
    rw [show doIn inp false ⟨9, xa, xb, xn⟩ ⟨⟨next + 1, n :: l, rd, outn, 0, cells⟩, kept, out, wrong⟩ = ⟨⟨next + 1, l, rd, outn, 0, cells.set xa.toNat n⟩, kept, out, wrong⟩ from rfl]
    refine XA.condF rfl rfl ?_
    refine zS ?_; refine zS ?_; refine zR ?_; refine zO rfl (Rd.eql rfl rfl) ?_; refine zO rfl Rd.asg ?_; refine zN ?_; refine zT ?_
    refine XA.condF rfl rfl ?_
    refine zS ?_; refine zR ?_; refine zO rfl (Rd.eql rfl rfl) ?_; refine zO rfl Rd.asg ?_; refine zN ?_; refine zT ?_
    refine XA.condF rfl rfl ?_
    refine zS ?_; refine zR ?_; refine zO rfl (Rd.eql rfl rfl) ?_; refine zO rfl Rd.asg ?_; refine zN ?_; refine zT ?_
    refine XA.condF rfl rfl ?_
    refine zS ?_; refine zR ?_; refine zO rfl (Rd.eql rfl rfl) ?_; refine zO rfl Rd.asg ?_; refine zN ?_; refine zT ?_
    refine XA.condF rfl rfl ?_
    refine zR ?_; refine zO rfl (Rd.eql rfl rfl) ?_; refine zO rfl Rd.asg ?_; refine zN ?_; refine zT ?_
    refine XA.condF rfl rfl ?_
    refine zS ?_; refine zR ?_; refine zO rfl (Rd.eql rfl rfl) ?_; refine zO rfl Rd.asg ?_; refine zN ?_; refine zT ?_
    refine XA.condF rfl rfl ?_
    refine zS ?_; refine zR ?_; refine zO rfl (Rd.eql rfl rfl) ?_; refine zO rfl Rd.asg ?_; refine zN ?_; refine zT ?_
    refine XA.condF rfl rfl ?_
    refine zS ?_; refine zR ?_; refine zO rfl (Rd.eql rfl rfl) ?_; refine zO rfl Rd.asg ?_; refine zN ?_; refine zT ?_
    refine XA.condF rfl rfl ?_
    refine zS ?_; refine zR ?_; refine zO rfl (Rd.eql rfl rfl) ?_; refine zO rfl Rd.asg ?_; refine zN ?_; refine zT ?_
    refine XA.condF rfl rfl ?_
    refine zS ?_; refine zR ?_; refine zO rfl (Rd.eql rfl rfl) ?_; refine zO rfl Rd.asg ?_; refine zN ?_; refine zT ?_
    refine XA.condF rfl rfl ?_
    refine zR ?_; refine zO rfl Rd.mv ?_; refine zO rfl (Rd.ldA rfl) ?_
    refine XOA.wr0 rfl (WrA.cE (cells9_m σ g mb sb db pb (.slice (some ⟨gc, oc', none⟩) code.length cc) (.slice pi inp.length ci) left torn d s M1 xa xb xn n l ⟨ha0, by omega⟩ hw) rfl) ?_
    rintro _ _ _ ⟨_, ⟨rfl, rfl, rfl⟩, rfl⟩
    refine XOA.cl ?_
    refine zN ?_
    refine DA.inb_normal ?_
    refine zT ?_; refine zS ?_; refine zR ?_; refine zO rfl Rd.asg ?_; refine zN ?_; refine zT ?_
    refine XA.ret ?_
    exact bodyA.ret (ResA.one rfl rfl) zE ⟨rfl, rfl, rfl⟩
  by_cases h10 : xop = 10
  · subst h10
    clear hx
    obtain ⟨y, z, l, rfl⟩ : ∃ y z s, stack = y :: z :: s := by
      cases stack with
      | nil => simp [popA] at hpop
      | cons y s => cases s with
        | nil => simp [popA] at hpop
        | cons z s => exact ⟨y, z, s, rfl⟩
    obtain ⟨hb0, hb1, hb2⟩ := hcell2 (by decide)
    rw [show M1.doM inp ⟨10, xa, xb, xn⟩ = (if M1.popM.topM < 0 ∨ xb ≤ M1.popM.topM then M1.popM.popM.put 4 13 else M1.popM.popM.put (5 + xa + M1.popM.topM) M1.topM) from rfl, hw.topM, hw.popM.topM]
    obtain ⟨eo, ew⟩ : (doIn inp false ⟨10, xa, xb, xn⟩ ⟨⟨next + 1, y :: z :: l, rd, outn, 0, cells⟩, kept, out, wrong⟩).out = out ∧ (doIn inp false ⟨10, xa, xb, xn⟩ ⟨⟨next + 1, y :: z :: l, rd, outn, 0, cells⟩, kept, out, wrong⟩).wrong = wrong := by
      by_cases hoe : z < 0 ∨ xb ≤ z <;> simp [doIn, hoe]
    rw [eo, ew]
    refine XA.condF rfl rfl ?_
    refine zS ?_; refine zS ?_; refine zR ?_; refine zO rfl (Rd.eql rfl rfl) ?_; refine zO rfl Rd.asg ?_; refine zN ?_; refine zT ?_
    refine XA.condF rfl rfl ?_
    refine zS ?_; refine zR ?_; refine zO rfl (Rd.eql rfl rfl) ?_; refine zO rfl Rd.asg ?_; refine zN ?_; refine zT ?_
    refine XA.condF rfl rfl ?_
    refine zS ?_; refine zR ?_; refine zO rfl (Rd.eql rfl rfl) ?_; refine zO rfl Rd.asg ?_; refine zN ?_; refine zT ?_
    refine XA.condF rfl rfl ?_
    refine zS ?_; refine zR ?_; refine zO rfl (Rd.eql rfl rfl) ?_; refine zO rfl Rd.asg ?_; refine zN ?_; refine zT ?_
    refine XA.condF rfl rfl ?_
    refine zR ?_; refine zO rfl (Rd.eql rfl rfl) ?_; refine zO rfl Rd.asg ?_; refine zN ?_; refine zT ?_
    refine XA.condF rfl rfl ?_
    refine zS ?_; refine zR ?_; refine zO rfl (Rd.eql rfl rfl) ?_; refine zO rfl Rd.asg ?_; refine zN ?_; refine zT ?_
    refine XA.condF rfl rfl ?_
    refine zS ?_; refine zR ?_; refine zO rfl (Rd.eql rfl rfl) ?_; refine zO rfl Rd.asg ?_; refine zN ?_; refine zT ?_
    refine XA.condF rfl rfl ?_
    refine zS ?_; refine zR ?_; refine zO rfl (Rd.eql rfl rfl) ?_; refine zO rfl Rd.asg ?_; refine zN ?_; refine zT ?_
    refine XA.condF rfl rfl ?_
    refine zS ?_; refine zR ?_; refine zO rfl (Rd.eql rfl rfl) ?_; refine zO rfl Rd.asg ?_; refine zN ?_; refine zT ?_
    refine XA.condF rfl rfl ?_
    refine zS ?_; refine zR ?_; refine zO rfl (Rd.eql rfl rfl) ?_; refine zO rfl Rd.asg ?_; refine zN ?_; refine zT ?_
    refine XA.condF rfl rfl ?_
    refine zR ?_; refine zO rfl Rd.mv ?_; refine zO rfl (Rd.ldA rfl) ?_
    refine XOA.wr0 rfl (WrA.cE (cells10_m σ g mb sb db pb (.slice (some ⟨gc, oc', none⟩) code.length cc) (.slice pi inp.length ci) left torn d s M1 xa xb xn y z l ⟨hb0, hb1, by omega⟩ hw) rfl) ?_
    rintro _ _ _ ⟨_, ⟨rfl, rfl, rfl⟩, rfl⟩
    refine XOA.cl ?_
    refine zN ?_
    refine DA.inb_normal ?_
    refine zT ?_; refine zS ?_; refine zR ?_; refine zO rfl Rd.asg ?_; refine zN ?_; refine zT ?_
    refine XA.ret ?_
    exact bodyA.ret (ResA.one rfl rfl) zE ⟨rfl, rfl, rfl⟩
  by_cases h12 : xop = 12
  · subst h12
    clear hx
    obtain ⟨ha0, ha1⟩ := hcell (by decide)
    rw [show M1.doM inp ⟨12, xa, xb, xn⟩ = (if (inp.length : Int) ≤ M1.ld 2 then M1.put 4 14 else (M1.put 2 (M1.ld 2 + 1)).put (5 + xa) (inp.getD (M1.ld 2).toNat 0)) from rfl]
    obtain ⟨eo, ew⟩ : (doIn inp false ⟨12, xa, xb, xn⟩ ⟨⟨next + 1, stack, rd, outn, 0, cells⟩, kept, out, wrong⟩).out = out ∧ (doIn inp false ⟨12, xa, xb, xn⟩ ⟨⟨next + 1, stack, rd, outn, 0, cells⟩, kept, out, wrong⟩).wrong = wrong := by
      by_cases hoe : inp.length ≤ rd <;> simp [doIn, hoe]
    rw [eo, ew]
    refine XA.condF rfl rfl ?_
    refine zS ?_; refine zS ?_; refine zR ?_; refine zO rfl (Rd.eql rfl rfl) ?_; refine zO rfl Rd.asg ?_; refine zN ?_; refine zT ?_
    refine XA.condF rfl rfl ?_
    refine zS ?_; refine zR ?_; refine zO rfl (Rd.eql rfl rfl) ?_; refine zO rfl Rd.asg ?_; refine zN ?_; refine zT ?_
    refine XA.condF rfl rfl ?_
    refine zS ?_; refine zR ?_; refine zO rfl (Rd.eql rfl rfl) ?_; refine zO rfl Rd.asg ?_; refine zN ?_; refine zT ?_
    refine XA.condF rfl rfl ?_
    refine zS ?_; refine zR ?_; refine zO rfl (Rd.eql rfl rfl) ?_; refine zO rfl Rd.asg ?_; refine zN ?_; refine zT ?_
    refine XA.condF rfl rfl ?_
    refine zR ?_; refine zO rfl (Rd.eql rfl rfl) ?_; refine zO rfl Rd.asg ?_; refine zN ?_; refine zT ?_
    refine XA.condF rfl rfl ?_
    refine zS ?_; refine zR ?_; refine zO rfl (Rd.eql rfl rfl) ?_; refine zO rfl Rd.asg ?_; refine zN ?_; refine zT ?_
    refine XA.condF rfl rfl ?_
    refine zS ?_; refine zR ?_; refine zO rfl (Rd.eql rfl rfl) ?_; refine zO rfl Rd.asg ?_; refine zN ?_; refine zT ?_
    refine XA.condF rfl rfl ?_
    refine zS ?_; refine zR ?_; refine zO rfl (Rd.eql rfl rfl) ?_; refine zO rfl Rd.asg ?_; refine zN ?_; refine zT ?_
    refine XA.condF rfl rfl ?_
    refine zS ?_; refine zR ?_; refine zO rfl (Rd.eql rfl rfl) ?_; refine zO rfl Rd.asg ?_; refine zN ?_; refine zT ?_
    refine XA.condF rfl rfl ?_
    refine zS ?_; refine zR ?_; refine zO rfl (Rd.eql rfl rfl) ?_; refine zO rfl Rd.asg ?_; refine zN ?_; refine zT ?_
    refine XA.condF rfl rfl ?_
    refine zR ?_; refine zO rfl Rd.mv ?_; refine zO rfl (Rd.ldA rfl) ?_
    refine XOA.wr0 rfl (WrA.cE (cells12_m σ g mb sb db pb (.slice (some ⟨gc, oc', none⟩) code.length cc) left torn d s M1 pi ci inp xa xb xn ⟨ha0, by omega⟩ hi hil hw) rfl) ?_
    rintro _ _ _ ⟨_, ⟨rfl, rfl, rfl⟩, rfl⟩
    refine XOA.cl ?_
    refine zN ?_
    refine DA.inb_normal ?_
    refine zT ?_; refine zS ?_; refine zR ?_; refine zO rfl Rd.asg ?_; refine zN ?_; refine zT ?_
    refine XA.ret ?_
    exact bodyA.ret (ResA.one rfl rfl) zE ⟨rfl, rfl, rfl⟩
  have h48n : ¬ (4 ≤ xop ∧ xop ≤ 8) := by omega
  rw [show M1.doM inp ⟨xop, xa, xb, xn⟩ = M1 from by
    simp only [Me.doM]
    rw [if_neg h1, if_neg h2, if_neg h3, if_neg h48n, if_neg h9, if_neg h10, if_neg h11, if_neg h12, if_neg h13, if_neg h14, if_neg h15, if_neg h16]]
  rw [show doIn inp false ⟨xop, xa, xb, xn⟩ ⟨⟨next + 1, stack, rd, outn, 0, cells⟩, kept, out, wrong⟩ = ⟨⟨next + 1, stack, rd, outn, 0, cells⟩, kept, out, wrong⟩ from by
    simp only [doIn]
    rw [if_neg h1, if_neg h2, if_neg h3, if_neg h48n, if_neg h9, if_neg h10, if_neg h11, if_neg h12, if_neg h13, if_neg h14, if_neg h15, if_neg h16]]
  clear hx
  refine XA.condF rfl (decide_eq_false h1) ?_
  refine zS ?_; refine zS ?_; refine zR ?_; refine zO rfl (Rd.eql rfl rfl) ?_; refine zO rfl Rd.asg ?_; refine zN ?_; refine zT ?_
  refine XA.condF rfl (decide_eq_false h4) ?_
  refine zS ?_; refine zR ?_; refine zO rfl (Rd.eql rfl rfl) ?_; refine zO rfl Rd.asg ?_; refine zN ?_; refine zT ?_
  refine XA.condF rfl (decide_eq_false h5) ?_
  refine zS ?_; refine zR ?_; refine zO rfl (Rd.eql rfl rfl) ?_; refine zO rfl Rd.asg ?_; refine zN ?_; refine zT ?_
  refine XA.condF rfl (decide_eq_false h6) ?_
  refine zS ?_; refine zR ?_; refine zO rfl (Rd.eql rfl rfl) ?_; refine zO rfl Rd.asg ?_; refine zN ?_; refine zT ?_
  refine XA.condF rfl (decide_eq_false h7) ?_
  refine zR ?_; refine zO rfl (Rd.eql rfl rfl) ?_; refine zO rfl Rd.asg ?_; refine zN ?_; refine zT ?_
  refine XA.condF rfl (decide_eq_false h8) ?_
  refine zS ?_; refine zR ?_; refine zO rfl (Rd.eql rfl rfl) ?_; refine zO rfl Rd.asg ?_; refine zN ?_; refine zT ?_
  refine XA.condF rfl (decide_eq_false h11) ?_
  refine zS ?_; refine zR ?_; refine zO rfl (Rd.eql rfl rfl) ?_; refine zO rfl Rd.asg ?_; refine zN ?_; refine zT ?_
  refine XA.condF rfl (decide_eq_false h13) ?_
  refine zS ?_; refine zR ?_; refine zO rfl (Rd.eql rfl rfl) ?_; refine zO rfl Rd.asg ?_; refine zN ?_; refine zT ?_
  refine XA.condF rfl (decide_eq_false h14) ?_
  refine zS ?_; refine zR ?_; refine zO rfl (Rd.eql rfl rfl) ?_; refine zO rfl Rd.asg ?_; refine zN ?_; refine zT ?_
  refine XA.condF rfl (decide_eq_false h15) ?_
  refine zS ?_; refine zR ?_; refine zO rfl (Rd.eql rfl rfl) ?_; refine zO rfl Rd.asg ?_; refine zN ?_; refine zT ?_
  refine XA.condF rfl (decide_eq_false h16) ?_
  refine zR ?_; refine zO rfl Rd.mv ?_; refine zO rfl (Rd.ldA rfl) ?_
  refine XOA.wr0 rfl (WrA.cE (cellsN_m σ g mb sb db pb (.slice (some ⟨gc, oc', none⟩) code.length cc) (.slice pi inp.length ci) left torn d s M1 xop xa xb xn h2 h3 h9 h10 h12) rfl) ?_
  rintro _ _ _ ⟨_, ⟨rfl, rfl, rfl⟩, rfl⟩
  refine XOA.cl ?_
  refine zN ?_
  refine DA.inb_normal ?_
  refine zT ?_; refine zS ?_; refine zR ?_; refine zO rfl Rd.asg ?_; refine zN ?_; refine zT ?_
  refine XA.ret ?_
  exact bodyA.ret (ResA.one rfl rfl) zE ⟨rfl, rfl, rfl⟩
/-- A commit, of all its deeds. -/
theorem stepC_m (hc : PSl 4 rIn σ (.slice pc code.length cc) code) (hg : s.gen < 4611686018427387904) (hS : Shows M.C b.m) (hk : StepOk code inp b x) (h15 : x.op = 15) :
    CallsA Try.prog 18 #[ptr g] σ [blk g [ptr mb, .slice pc code.length cc, .slice pi inp.length ci, ptr pb, i64 0, .bool torn] 64, Wld mb sb db d s M] (RetA fun v σ' Γ' => ∃ (d' : DiskS) (s' : StS), v = .bool true ∧ s'.gen = s.gen + 1 ∧ pagesC d' s' = (M.stepM code inp).C ∧ Good d' s' ∧ σ.sub σ' ∧ Γ' = [blk g [ptr mb, .slice pc code.length cc, .slice pi inp.length ci, ptr pb, i64 0, .bool false] 64, Wld mb sb db d' s' (M.stepM code inp)]) := by
  obtain ⟨⟨next, stack, rd, outn, st, cells⟩, kept, out, wrong⟩ := b
  obtain ⟨hst, hx, -, -, -, -, -, hcd, -, -, -⟩ := hk
  simp only at hst hx hcd hS
  subst hst
  obtain ⟨xop, xa, xb, xn⟩ := x
  simp only at h15
  subst h15
  have hlt := (List.getElem?_eq_some_iff.1 hx).1
  obtain ⟨gc, oc', row, rfl, hrx, hrl, hrow⟩ := hc.at hx
  obtain rfl : row = [i64 15, i64 xa, i64 xb, i64 xn] := hrx
  have e0 : M.ld 0 = next := hS.nx
  have hM : M.stepM code inp = ⟨(M.put 0 ((next : Int) + 1)).C, noB⟩ := by rw [Me.stepM, e0, Int.toNat_natCast, hx]; rfl
  have hld := load_w σ mb sb db d s M 4
  rw [show M.ld 4 = 0 from hS.st] at hld
  have hadd := add_m σ g mb sb db pb (.slice (some ⟨gc, oc', none⟩) code.length cc) (.slice pi inp.length ci) 0 torn d s M 0 1
  rw [e0, X.wrap64_in (by omega) (by omega)] at hadd
  rw [hM]
  clear hM hS e0 hc hx
  generalize M.put 0 (((next : Nat) : Int) + 1) = M1 at hadd ⊢
  refine enterA1 Try.func18 rfl rfl rfl ?_
  refine zS ?_; refine zR ?_; refine zO rfl Rd.asg ?_; refine zN ?_; refine zT ?_; refine zS ?_; refine zS ?_; refine zR ?_; refine zO rfl Rd.mv ?_; refine zO rfl (Rd.nilCheck rfl) ?_; refine zO rfl (Rd.fA rfl) ?_; refine zO rfl (Rd.ldC rfl (tyrow rfl) rfl) ?_
  refine XOA.wr0 rfl (WrA.cE (hld) rfl) ?_
  rintro _ _ _ ⟨_, ⟨rfl, rfl, rfl⟩, rfl⟩
  refine XOA.cl ?_
  refine zO rfl (Rd.neq rfl rfl) ?_
  refine zN ?_; refine zT ?_
  refine XA.condF rfl rfl ?_
  refine XA.skip ?_
  refine zT ?_; refine zS ?_
  refine XA.join [(3, 3), (11, 18)] (fun y : Nat => [(3, ptr y)]) (fun y σ' Γ' => σ = σ' ∧ Γ' = [blk y [i64 15, i64 xa, i64 xb, i64 xn] 104, blk g [ptr mb, .slice (some ⟨gc, oc', none⟩) code.length cc, .slice pi inp.length ci, ptr pb, i64 0, .bool torn] 64, Wld mb sb db d s M1]) ?_ ?_
  · skip
    refine XA.drawQ (by kernel_rfl) _ _ [9] 10 #[false, false, false, false, false, false, false, false, false, false] rfl rfl (by kernel_rfl) (PH.sub.refl _) (Ent.sel (R := blk g _ _) (by ((repeat (first | with_reducible exact Sel.head | apply Sel.tail)); (first | done | fail))) (Ent.nil _)) ?_
    refine XQA.pu (i := 0) (listed' := #[true, false, false, false, false, false, false, false, false, false]) rfl rfl (by kernel_rfl) rfl Gd.free Rd.mv ?_
    refine XQA.pu (i := 1) (listed' := #[true, true, false, false, false, false, false, false, false, false]) rfl rfl (by kernel_rfl) rfl Gd.free (Rd.nilCheck rfl) ?_
    refine XQA.pu (i := 2) (listed' := #[true, true, true, false, false, false, false, false, false, false]) rfl rfl (by kernel_rfl) rfl Gd.free (Rd.fA rfl) ?_
    refine XQA.rd (i := 3) (listed' := #[true, true, true, true, false, false, false, false, false, false]) rfl rfl (by kernel_rfl) rfl Gd.free (Rd.ldC rfl (tyrow rfl) rfl) ?_
    refine XQA.pu (i := 4) (listed' := #[true, true, true, true, true, false, false, false, false, false]) rfl rfl (by kernel_rfl) rfl Gd.free Rd.mv ?_
    refine XQA.w2 (i := 5) (j := 8) (by kernel_rfl) ?_ ?_
    · refine XQA1.wr0 (listed' := #[true, true, true, true, true, true, false, false, false, false]) rfl rfl Gd.free (by kernel_rfl) rfl (WrA.cE hadd rfl) ?_
      rintro _ _ _ ⟨_, ⟨rfl, rfl, rfl⟩, rfl⟩
      refine ⟨⟨(by first | exact PH.sub.refl _ | assumption | (refine PH.sub.trans ?_ (by assumption); assumption)), zE⟩, XQA.re (by conv => lhs; dsimp only [List.cons_append, List.nil_append]) ?_⟩
      refine XQA.pu (i := 6) (listed' := #[true, true, true, true, true, true, true, false, false, false]) rfl rfl (by kernel_rfl) rfl Gd.free (Rd.ixS rfl rfl) ?_
      refine XQA.rd (i := 7) (listed' := #[true, true, true, true, true, true, true, true, false, false]) rfl rfl (by kernel_rfl) rfl Gd.free (Rd.ldA rfl) ?_
      refine XQA.w1 (i := 8) (by kernel_rfl) ?_
      refine XQA1.wr0 (listed' := #[true, true, true, true, true, true, true, true, true, false]) rfl rfl Gd.free (by kernel_rfl) rfl (WrA.alloc (tyrow rfl)) ?_
      rintro _ _ _ ⟨g3, rfl, rfl, rfl⟩
      refine ⟨⟨(by first | exact PH.sub.refl _ | assumption | (refine PH.sub.trans ?_ (by assumption); assumption)), zE⟩, XQA.re (by conv => lhs; dsimp only [List.cons_append, List.nil_append]) ?_⟩
      refine XQA.w1 (i := 9) (by kernel_rfl) ?_
      refine XQA1.wrZ0 (listed' := #[true, true, true, true, true, true, true, true, true, true]) rfl rfl Gd.free (by kernel_rfl) rfl (by kernel_rfl) (WrA.st (tyrow rfl) rfl) ?_
      rintro _ _ _ ⟨rfl, rfl, rfl⟩
      refine XQA.re (by conv => lhs; dsimp only [List.cons_append, List.nil_append]) ?_
      refine XQA.nil rfl ?_
      refine DA.thn_normal ⟨(by (repeat (first | exact Keep.refl _ _ | refine Keep.upd ?_ rfl | refine Keep.updO ?_ rfl | refine Keep.updN ?_)); (first | done | fail)), g3, _, (by (repeat (first | exact trivial | refine ⟨rfl, ?_⟩ | refine ⟨Eq.trans rfl (congrArg Value.bool hmat.symm), ?_⟩)); (first | done | fail)), ?_, rfl, rfl⟩; exact zE
    · refine XQA1.wr0 (listed' := #[true, true, true, true, true, false, false, false, true, false]) rfl rfl Gd.free (by kernel_rfl) rfl (WrA.alloc (tyrow rfl)) ?_
      rintro _ _ _ ⟨g3, rfl, rfl, rfl⟩
      refine ⟨⟨(by first | exact PH.sub.refl _ | assumption | (refine PH.sub.trans ?_ (by assumption); assumption)), zE⟩, XQA.re (by conv => lhs; dsimp only [List.cons_append, List.nil_append]) ?_⟩
      refine XQA.w1 (i := 5) (by kernel_rfl) ?_
      refine XQA1.wr0 (listed' := #[true, true, true, true, true, true, false, false, true, false]) rfl rfl Gd.free (by kernel_rfl) rfl (WrA.cE hadd rfl) ?_
      rintro _ _ _ ⟨_, ⟨rfl, rfl, rfl⟩, rfl⟩
      refine ⟨⟨(by first | exact PH.sub.refl _ | assumption | (refine PH.sub.trans ?_ (by assumption); assumption)), zE⟩, XQA.re (by conv => lhs; dsimp only [List.cons_append, List.nil_append]) ?_⟩
      refine XQA.pu (i := 6) (listed' := #[true, true, true, true, true, true, true, false, true, false]) rfl rfl (by kernel_rfl) rfl Gd.free (Rd.ixS rfl rfl) ?_
      refine XQA.rd (i := 7) (listed' := #[true, true, true, true, true, true, true, true, true, false]) rfl rfl (by kernel_rfl) rfl Gd.free (Rd.ldA rfl) ?_
      refine XQA.w1 (i := 9) (by kernel_rfl) ?_
      refine XQA1.wrZ0 (listed' := #[true, true, true, true, true, true, true, true, true, true]) rfl rfl Gd.free (by kernel_rfl) rfl (by kernel_rfl) (WrA.st (tyrow rfl) rfl) ?_
      rintro _ _ _ ⟨rfl, rfl, rfl⟩
      refine XQA.re (by conv => lhs; dsimp only [List.cons_append, List.nil_append]) ?_
      refine XQA.nil rfl ?_
      refine DA.thn_normal ⟨(by (repeat (first | exact Keep.refl _ _ | refine Keep.upd ?_ rfl | refine Keep.updO ?_ rfl | refine Keep.updN ?_)); (first | done | fail)), g3, _, (by (repeat (first | exact trivial | refine ⟨rfl, ?_⟩ | refine ⟨Eq.trans rfl (congrArg Value.bool hmat.symm), ?_⟩)); (first | done | fail)), ?_, rfl, rfl⟩; exact zE
  rintro g3 δ _ _ ⟨rfl, rfl⟩
  dsimp only [ovr, List.foldl]
  refine zT ?_; refine zS ?_; refine zS ?_; refine zR ?_; refine zO rfl (Rd.fA rfl) ?_; refine zO rfl (Rd.ldC rfl (tyrow rfl) rfl) ?_; refine zN ?_; refine zT ?_
  refine XA.block ?_
  refine zS ?_; refine zR ?_; refine zO rfl (Rd.eql rfl rfl) ?_; refine zO rfl Rd.asg ?_; refine zN ?_; refine zT ?_
  refine XA.condF rfl rfl ?_
  refine zS ?_; refine zS ?_; refine zR ?_; refine zO rfl (Rd.eql rfl rfl) ?_; refine zO rfl Rd.asg ?_; refine zN ?_; refine zT ?_
  refine XA.condF rfl rfl ?_
  refine zS ?_; refine zR ?_; refine zO rfl (Rd.eql rfl rfl) ?_; refine zO rfl Rd.asg ?_; refine zN ?_; refine zT ?_
  refine XA.condF rfl rfl ?_
  refine zS ?_; refine zR ?_; refine zO rfl (Rd.eql rfl rfl) ?_; refine zO rfl Rd.asg ?_; refine zN ?_; refine zT ?_
  refine XA.condF rfl rfl ?_
  refine zS ?_; refine zR ?_; refine zO rfl (Rd.eql rfl rfl) ?_; refine zO rfl Rd.asg ?_; refine zN ?_; refine zT ?_
  refine XA.condF rfl rfl ?_
  refine zR ?_; refine zO rfl (Rd.eql rfl rfl) ?_; refine zO rfl Rd.asg ?_; refine zN ?_; refine zT ?_
  refine XA.condF rfl rfl ?_
  refine zS ?_; refine zR ?_; refine zO rfl (Rd.eql rfl rfl) ?_; refine zO rfl Rd.asg ?_; refine zN ?_; refine zT ?_
  refine XA.condF rfl rfl ?_
  refine zS ?_; refine zR ?_; refine zO rfl (Rd.eql rfl rfl) ?_; refine zO rfl Rd.asg ?_; refine zN ?_; refine zT ?_
  refine XA.condF rfl rfl ?_
  refine zS ?_; refine zR ?_; refine zO rfl (Rd.eql rfl rfl) ?_; refine zO rfl Rd.asg ?_; refine zN ?_; refine zT ?_
  refine XA.condF rfl rfl ?_
  refine zS ?_; refine zR ?_; refine zO rfl (Rd.eql rfl rfl) ?_; refine zO rfl Rd.asg ?_; refine zN ?_; refine zT ?_
  refine XA.condT rfl rfl ?_
  refine zR ?_; refine zO rfl Rd.mv ?_
  refine XOA.wr0 rfl (WrA.cE (commit_m σ g mb sb db pb _ _ torn d s M1 hg) rfl) ?_
  rintro _ σ1 _ ⟨_, ⟨d', s', rfl, q1, q2, q3, q4, rfl⟩, rfl⟩
  refine XOA.cl ?_
  refine zN ?_
  refine DA.inb_normal ?_
  refine zT ?_; refine zS ?_; refine zR ?_; refine zO rfl Rd.asg ?_; refine zN ?_; refine zT ?_
  refine XA.ret ?_
  exact bodyA.ret (ResA.one rfl rfl) zE ⟨d', s', rfl, q1, q2, q3, q4, rfl⟩
end
end Go.Proofs.Ytmnmcjdgnpgchaa

namespace Go.Proofs.Ytmnmcjdgnpgchaa
open Go X
section
variable {C : List In} {inp : List Int}
end
end Go.Proofs.Ytmnmcjdgnpgchaa

namespace Go.Proofs.Ytmnmcjdgnpgchaa
open Go X
set_option maxHeartbeats 1000000
section
variable {C : List In} {inp : List Int}
end
/-- The machine's start. -/
def be0 (n : Nat) : Be := ⟨⟨0, [], 0, 0, 0, List.replicate n 0⟩, ⟨0, [], 0, 0, 0, List.replicate n 0⟩, [], false⟩
end Go.Proofs.Ytmnmcjdgnpgchaa

namespace Go.Proofs.Ytmnmcjdgnpgchaa
open Go X
set_option maxHeartbeats 1000000
theorem ResA.cell1 {P : Program} {ρ : Env} {σ : PH} {Γ : List HP} {fn : Func} {t1 : Tmp} {T1 : TypeId} {g1 o1 : Nat} {v1 : Value} (hf : fn.results = #[.cell t1 T1]) (h1 : ρ t1 = .pointer (some ⟨g1, o1, none⟩)) (l1 : ∀ h, Ho σ Γ h → Ld P h T1 g1 o1 v1) : ResA P fn ρ σ Γ v1 := ResA.cell hf h1 l1
end Go.Proofs.Ytmnmcjdgnpgchaa

namespace Go.Proofs.Ytmnmcjdgnpgchaa
open Go X
set_option maxHeartbeats 1000000
theorem newm_m (σ : PH) (mb pb : Nat) (pc : Option Addr) (nc cc : Nat) (iv : Value) (inp : List Int) (hi : PInts σ iv inp) (hil : inp.length ≤ 1000000) :
    CallsA Try.prog 17 #[ptr mb, .slice pc nc cc, iv, ptr pb] σ [] (RetA fun v σ' Γ' => ∃ g pi ci, v = ptr g ∧ σ.sub σ' ∧ PInts σ' (.slice pi inp.length ci) inp ∧ Γ' = [blk g [ptr mb, .slice pc nc cc, .slice pi inp.length ci, ptr pb, i64 0, .bool false] 64]) := by
  refine enterA4 Try.func17 rfl rfl rfl ?_
  refine zS ?_; refine zR ?_; refine zO rfl Rd.asg ?_; refine zN ?_; refine zT ?_; refine zS ?_; refine zR ?_; refine zO rfl Rd.mv ?_; refine zO rfl Rd.mv ?_; refine zO rfl Rd.mv ?_
  refine XOA.wr0 rfl (WrA.cE (cloneP_a σ iv inp hi hil) rfl) ?_
  rintro _ _ _ ⟨_, ⟨p, c, rfl, rfl, rfl⟩, rfl⟩
  refine XOA.cl ?_
  refine XOA.frz (R := lst 2 1 (.slice p inp.length c) _ _) (by ((repeat (first | with_reducible exact Sel.head | apply Sel.tail)); (first | done | fail))) lst_frz lst_frz_mono ?_
  rintro σ1 ⟨⟩ hf hs1
  refine zO rfl Rd.mv ?_
  refine zO rfl (Rd.bl (fun _ _ => tyrow) rfl rfl rfl) ?_
  refine XOA.wr0 rfl WrA.bx ?_
  rintro _ _ _ ⟨g15, rfl, rfl, rfl⟩
  refine zO rfl Rd.asg ?_; refine zN ?_; refine zT ?_
  refine XA.ret ?_
  exact bodyA.ret (ResA.one rfl rfl) zE ⟨_, p, c, rfl, hs1, pints_frz rfl hf, rfl⟩
section
variable (σ : PH) (g mb sb db pb : Nat) (pc : Option Addr) (cc : Nat) (code : List In) (iv : Value) (left : Int) (torn : Bool) (d : DiskS) (s : StS) (M : Me)
end
end Go.Proofs.Ytmnmcjdgnpgchaa

namespace Go.Proofs.Ytmnmcjdgnpgchaa
open Go X
set_option maxHeartbeats 2000000
def stC (st : Int) : Int := if st = 0 then 13 else if 1 < st then IntKind.i64.wrap (st - 2) else 0
theorem result_m (σ : PH) (g mb sb db pb : Nat) (cv iv : Value) (left : Int) (torn : Bool) (d : DiskS) (s : StS) (M : Me) (m : Mi) (out : List Int) (wrong : Bool) (n : Nat) (hS : Shows M.C m) (hn : n ≤ m.cells.length) (hl : out.length ≤ 1000000) :
    CallsA Try.prog 21 #[ptr g, i64 n] σ [blk g [ptr mb, cv, iv, ptr pb, i64 left, .bool torn] 64, Wld mb sb db d s M, Prin pb out wrong] (RetA fun v σ' Γ' => ∃ po co pc cc, v = .agg #[i64 (if wrong then 15 else stC m.st), .slice po out.length co, .slice pc n cc] ∧ PInts σ' (.slice po out.length co) out ∧ PInts σ' (.slice pc n cc) (m.cells.take n) ∧ σ.sub σ' ∧ Γ' = [blk g [ptr mb, cv, iv, ptr pb, i64 left, .bool torn] 64, Wld mb sb db d s M, Prin pb out wrong]) := by
  have h48 := hS.lc
  have e4 : M.ld 4 = m.st := hS.st
  have hld := load_w σ mb sb db d s M 4
  rw [e4] at hld
  obtain ⟨st, hst⟩ : ∃ st, st = m.st := ⟨_, rfl⟩
  rw [← hst] at hld ⊢
  refine enterA2 Try.func21 rfl rfl rfl ?_
  refine zS ?_; refine zR ?_
  refine XOA.wr0 rfl (WrA.alloc (tyrow rfl)) ?_
  rintro _ _ _ ⟨g4, rfl, rfl, rfl⟩
  refine zN ?_; refine zT ?_; refine zS ?_; refine zR ?_; refine zO rfl Rd.mv ?_; refine zO rfl (Rd.nilCheck rfl) ?_; refine zO rfl (Rd.fA rfl) ?_; refine zO rfl (Rd.ldC rfl (tyrow rfl) rfl) ?_
  refine XOA.wr0 rfl (WrA.cE (plist_a σ pb out wrong hl) rfl) ?_
  rintro _ _ _ ⟨_, ⟨po, co, rfl, rfl, rfl⟩, rfl⟩
  refine XOA.cl ?_
  refine zO rfl (Rd.bl (fun _ _ => tyrow) rfl rfl rfl) ?_
  refine XOA.wr0 rfl (WrA.alloc (tyrow rfl)) ?_
  rintro _ _ _ ⟨g5, rfl, rfl, rfl⟩
  refine XOA.wr0 rfl (WrA.st (tyrow rfl) rfl) ?_
  rintro _ _ _ ⟨rfl, rfl, rfl⟩
  refine zN ?_; refine zT ?_; refine zS ?_; refine zS ?_; refine zR ?_; refine zO rfl Rd.mv ?_; refine zO rfl (Rd.nilCheck rfl) ?_; refine zO rfl (Rd.fA rfl) ?_; refine zO rfl (Rd.ldC rfl (tyrow rfl) rfl) ?_
  refine XOA.wr0 rfl (WrA.cE (hld) rfl) ?_
  rintro _ _ _ ⟨_, ⟨rfl, rfl, rfl⟩, rfl⟩
  refine XOA.cl ?_
  first | refine XA.opn (R := Prin pb out wrong) (by ((repeat (first | with_reducible exact Sel.head | apply Sel.tail)); (first | done | fail))) (Prin.opn) ?_ | refine XOA.opn (R := Prin pb out wrong) (by ((repeat (first | with_reducible exact Sel.head | apply Sel.tail)); (first | done | fail))) (Prin.opn) ?_ | refine DA.opn (R := Prin pb out wrong) (by ((repeat (first | with_reducible exact Sel.head | apply Sel.tail)); (first | done | fail))) (Prin.opn) ?_
  rintro ⟨q, cq⟩ -
  first | refine XA.cl ?_ | refine XOA.cl ?_ | refine DA.cl ?_
  refine zO rfl Rd.asg ?_; refine zN ?_; refine zT ?_
  refine XA.join [(19, 28)] (fun _ : Unit => []) (fun _ σ' Γ' => σ = σ' ∧ Γ' = [blk g5 [i64 (stC st), .slice po out.length co, .slice none 0 0] 46, blk g4 [i64 0, .slice none 0 0, .slice none 0 0] 46, blk pb [.slice q out.length cq, i64 (codeP wrong)] 40, lst 2 1 (.slice q out.length cq) out.length (ints out), lst 2 1 (.slice po out.length co) out.length (ints out), blk g [ptr mb, cv, iv, ptr pb, i64 left, .bool torn] 64, Wld mb sb db d s M]) ?_ ?_
  · refine XA.block ?_
    refine zS ?_; refine zR ?_; refine zO rfl Rd.mv ?_; refine zO rfl (Rd.eql rfl rfl) ?_; refine zO rfl Rd.asg ?_; refine zN ?_; refine zT ?_
    by_cases h0 : st = 0
    · rw [stC, if_pos h0]
      refine XA.condT rfl (decide_eq_true h0) ?_
      refine zR ?_; refine zO rfl (Rd.fA rfl) ?_
      refine XOA.wr0 rfl (WrA.st (tyrow rfl) rfl) ?_
      rintro _ _ _ ⟨rfl, rfl, rfl⟩
      refine zN ?_
      refine DA.inb_normal ?_
      refine zT ?_
      refine ⟨(Keep.updN (Keep.upd (Keep.upd (Keep.upd (Keep.upd (Keep.refl _ _) rfl) rfl) rfl) rfl)), (), _, (by (repeat (first | exact trivial | refine ⟨rfl, ?_⟩ | refine ⟨Eq.trans rfl (congrArg Value.bool hmat.symm), ?_⟩)); (first | done | fail)), ?_, ⟨rfl, rfl⟩⟩
      · exact zE
    by_cases h1 : 1 < st
    · rw [stC, if_neg h0, if_pos h1]
      refine XA.condF rfl (decide_eq_false h0) ?_
      refine zS ?_; refine zR ?_; refine zO rfl Rd.mv ?_
      refine zO rfl (Rd.gtr rfl rfl) ?_
      refine zO rfl Rd.asg ?_; refine zN ?_; refine zT ?_
      refine XA.condT rfl (decide_eq_true h1) ?_
      refine zR ?_; refine zO rfl Rd.mv ?_
      refine zO rfl (by first | exact Rd.sbi rfl rfl | exact Rd.sub rfl rfl) ?_
      refine zO rfl (Rd.fA rfl) ?_
      refine XOA.wr0 rfl (WrA.st (tyrow rfl) rfl) ?_
      rintro _ _ _ ⟨rfl, rfl, rfl⟩
      refine zN ?_
      refine DA.inb_normal ?_
      refine zT ?_
      refine ⟨(Keep.updN (Keep.upd (Keep.upd (Keep.upd (Keep.upd (Keep.upd (Keep.upd (Keep.upd (Keep.upd (Keep.upd (Keep.refl _ _) rfl) rfl) rfl) rfl) rfl) rfl) rfl) rfl) rfl)), (), _, (by (repeat (first | exact trivial | refine ⟨rfl, ?_⟩ | refine ⟨Eq.trans rfl (congrArg Value.bool hmat.symm), ?_⟩)); (first | done | fail)), ?_, ⟨rfl, rfl⟩⟩
      · exact zE
    rw [stC, if_neg h0, if_neg h1]
    refine XA.condF rfl (decide_eq_false h0) ?_
    refine zS ?_; refine zR ?_; refine zO rfl Rd.mv ?_
    refine zO rfl (Rd.gtr rfl rfl) ?_
    refine zO rfl Rd.asg ?_; refine zN ?_; refine zT ?_
    refine XA.condF rfl (decide_eq_false h1) ?_
    refine XA.skip ?_
    refine DA.inb_normal ?_
    refine zT ?_
    refine ⟨(Keep.upd (Keep.upd (Keep.upd (Keep.upd (Keep.upd (Keep.upd (Keep.refl _ _) rfl) rfl) rfl) rfl) rfl) rfl), (), _, (by (repeat (first | exact trivial | refine ⟨rfl, ?_⟩ | refine ⟨Eq.trans rfl (congrArg Value.bool hmat.symm), ?_⟩)); (first | done | fail)), ?_, ⟨rfl, rfl⟩⟩
    · exact zE
  rintro ⟨⟩ δ _ _ ⟨rfl, rfl⟩
  dsimp only [ovr, List.foldl]
  refine zT ?_; refine zS ?_; refine zS ?_; refine zR ?_; refine zO rfl Rd.mv ?_; refine zO rfl (Rd.nilCheck rfl) ?_; refine zO rfl (Rd.fA rfl) ?_; refine zO rfl (Rd.ldC rfl (tyrow rfl) rfl) ?_; refine zO rfl (Rd.nilCheck rfl) ?_; refine zO rfl (Rd.fA rfl) ?_; refine zO rfl (Rd.ldC rfl (tyrow rfl) rfl) ?_
  refine zO rfl (Rd.neq rfl rfl) ?_
  refine zN ?_; refine zT ?_
  refine XA.join [(37, 44)] (fun _ : Unit => []) (fun _ σ' Γ' => σ = σ' ∧ Γ' = [blk g5 [i64 (if wrong then 15 else stC st), .slice po out.length co, .slice none 0 0] 46, blk g4 [i64 0, .slice none 0 0, .slice none 0 0] 46, blk pb [.slice q out.length cq, i64 (codeP wrong)] 40, lst 2 1 (.slice q out.length cq) out.length (ints out), lst 2 1 (.slice po out.length co) out.length (ints out), blk g [ptr mb, cv, iv, ptr pb, i64 left, .bool torn] 64, Wld mb sb db d s M]) ?_ ?_
  · skip
    cases wrong with
    | true =>
      refine XA.condT rfl rfl ?_
      refine zR ?_; refine zO rfl Rd.mv ?_; refine zO rfl (Rd.nilCheck rfl) ?_; refine zO rfl (Rd.fA rfl) ?_; refine zO rfl (Rd.ldC rfl (tyrow rfl) rfl) ?_; refine zO rfl (Rd.nilCheck rfl) ?_; refine zO rfl (Rd.fA rfl) ?_; refine zO rfl (Rd.ldC rfl (tyrow rfl) rfl) ?_; refine zO rfl (Rd.fA rfl) ?_
      refine XOA.wr0 rfl (WrA.st (tyrow rfl) rfl) ?_
      rintro _ _ _ ⟨rfl, rfl, rfl⟩
      refine zN ?_; refine zT ?_
      refine ⟨(Keep.updN (Keep.upd (Keep.upd (Keep.upd (Keep.upd (Keep.upd (Keep.upd (Keep.upd (Keep.upd (Keep.refl _ _) rfl) rfl) rfl) rfl) rfl) rfl) rfl) rfl)), (), _, (by (repeat (first | exact trivial | refine ⟨rfl, ?_⟩ | refine ⟨Eq.trans rfl (congrArg Value.bool hmat.symm), ?_⟩)); (first | done | fail)), ?_, ⟨rfl, rfl⟩⟩
      · exact zE
    | false =>
      refine XA.condF rfl rfl ?_
      refine XA.skip ?_
      refine zT ?_
      refine ⟨(Keep.refl _ _), (), _, (by (repeat (first | exact trivial | refine ⟨rfl, ?_⟩ | refine ⟨Eq.trans rfl (congrArg Value.bool hmat.symm), ?_⟩)); (first | done | fail)), ?_, ⟨rfl, rfl⟩⟩
      · exact zE
  rintro ⟨⟩ δ2 _ _ ⟨rfl, rfl⟩
  dsimp only [ovr, List.foldl]
  refine zT ?_
  refine XA.ent (Ent.selNil (e := 2) (size := 1) (Ent.refl _)) ?_
  refine zS ?_; refine zS ?_; refine zR ?_; refine zO rfl Rd.mv ?_; refine zO rfl Rd.mv ?_; refine zN ?_; refine zT ?_
  refine XA.block ?_
  refine XA.gen [(0, _), (4, _), (5, _), (45, _), (46, _)] ⟨(by with_reducible (conv => lhs; whnf)), (by with_reducible (conv => lhs; whnf)), (by with_reducible (conv => lhs; whnf)), (by with_reducible (conv => lhs; whnf)), (by with_reducible (conv => lhs; whnf)), trivial⟩ (fun δ => ?_)
  dsimp only [List.foldl]
  refine XA.loop [(7, 7), (46, 61)] (fun x : Nat × (Option Addr × Nat) => [(46, i64 x.1)]) (fun x σ' Γ' => σ = σ' ∧ x.1 ≤ n ∧ Γ' = [blk g5 [i64 (if wrong then 15 else stC st), .slice po out.length co, .slice x.2.1 x.1 x.2.2] 46, lst 2 1 (.slice x.2.1 x.1 x.2.2) x.1 (ints (m.cells.take x.1)), blk g4 [i64 0, .slice none 0 0, .slice none 0 0] 46, blk pb [.slice q out.length cq, i64 (codeP wrong)] 40, lst 2 1 (.slice q out.length cq) out.length (ints out), lst 2 1 (.slice po out.length co) out.length (ints out), blk g [ptr mb, cv, iv, ptr pb, i64 left, .bool torn] 64, Wld mb sb db d s M]) (fun x => n - x.1) (0, (none, 0)) (by exact ⟨rfl, trivial⟩) (Δ0 := _) ?_ (⟨rfl, Nat.zero_le _, rfl⟩) ?_
  · exact zE
  rintro ⟨k, pc, cc⟩ δ3 _ _ ⟨rfl, hk, rfl⟩
  dsimp only [ovr, List.foldl]
  have hk : k ≤ n := hk
  refine zS ?_; refine zR ?_; refine zO rfl (Rd.lss rfl rfl) ?_; refine zN ?_; refine zT ?_; refine zS ?_
  refine XA.condp rfl (fun hlt => ?_) (fun hlt => ?_)
  · have hlt : k < n := by omega
    have hck : M.ld (5 + (k : Int)) = m.cells.getD k 0 := hS.ce k (by omega)
    obtain ⟨y, hy⟩ : ∃ y, y = m.cells.getD k 0 := ⟨_, rfl⟩
    have hxk : m.cells[k]? = some y := by rw [hy, List.getD_eq_getElem?_getD, List.getElem?_eq_getElem (by omega)]; rfl
    have htk := takeS hxk
    have hlk : (ints (m.cells.take k)).length = k * 1 := by rw [ints_len, List.length_take]; omega
    have hldk := load_w σ mb sb db d s M (5 + (k : Int))
    rw [hck, ← hy] at hldk
    have hone : ones [i64 y] := ones_lit rfl
    refine XA.skip ?_
    refine zT ?_; refine zS ?_
    refine XA.block ?_
    refine zS ?_; refine zR ?_; refine zO rfl Rd.mv ?_; refine zO rfl Rd.asg ?_; refine zN ?_; refine zT ?_
    refine XA.draw (by kernel_rfl) _ _ [10, 12] [(0, .pu), (1, .rd), (2, .pu), (3, .pu), (4, .pu), (5, .rd), (6, .pu), (7, .pu), (8, .wr), (9, .wr), (10, .wr), (11, .pu), (12, .wr)] (by kernel_rfl) (PH.sub.refl _) (Ent.sel (R := blk g5 _ _) (by ((repeat (first | with_reducible exact Sel.head | apply Sel.tail)); (first | done | fail))) (Ent.sel (R := blk g _ _) (by ((repeat (first | with_reducible exact Sel.head | apply Sel.tail)); (first | done | fail))) (Ent.nil _))) ?_
    refine XPA.pu rfl rfl Gd.free (Rd.fA rfl) ?_
    refine XPA.rd rfl rfl Gd.free (Rd.ldC rfl (tyrow rfl) rfl) ?_
    refine XPA.pu rfl rfl Gd.free Rd.mv ?_
    refine XPA.pu rfl rfl Gd.free (Rd.nilCheck rfl) ?_
    refine XPA.pu rfl rfl Gd.free (Rd.fA rfl) ?_
    refine XPA.rd rfl rfl Gd.free (Rd.ldC rfl (tyrow rfl) rfl) ?_
    refine XPA.pu rfl rfl Gd.free Rd.mv ?_
    refine XPA.pu rfl rfl Gd.free (by first | exact Rd.adi rfl rfl | exact Rd.add rfl rfl) ?_
    refine XPA.wr0 rfl rfl Gd.free (WrA.cE (hldk) rfl) ?_
    rintro _ _ _ ⟨_, ⟨rfl, rfl, rfl⟩, rfl⟩
    refine stays (XPA.cl ?_)
    refine XPA.wr0 rfl rfl Gd.free (WrA.bs1 (tyrow rfl) rfl (tyrow rfl)) ?_
    rintro _ _ _ ⟨g58, rfl, rfl, rfl⟩
    refine stays ?_
    refine XPA.wrZ0 rfl rfl Gd.free (by kernel_rfl) (WrA.ap1 (tyrow rfl) rfl (tyrow rfl) rfl rfl rfl) ?_
    rintro _ _ _ ⟨p59, c59, rfl, rfl, rfl⟩
    refine XPA.pu rfl rfl Gd.free (Rd.fA rfl) ?_
    refine XPA.wrZ0 rfl rfl Gd.free (by kernel_rfl) (WrA.st (tyrow rfl) rfl) ?_
    rintro _ _ _ ⟨rfl, rfl, rfl⟩
    refine XPA.nil ?_
    refine DA.inb_normal ?_
    refine zT ?_; refine zR ?_
    refine zO rfl (by first | exact Rd.adi rfl rfl | exact Rd.add rfl rfl) ?_
    refine zO rfl Rd.mv ?_; refine zN ?_; refine zT ?_
    refine ⟨(Keep.upd (Keep.upd (Keep.updN (Keep.upd (Keep.updO (Keep.updO (Keep.updO (Keep.upd (Keep.upd (Keep.upd (Keep.upd (Keep.upd (Keep.upd (Keep.upd (Keep.upd (Keep.upd (Keep.upd (Keep.upd (Keep.upd (Keep.hav (Keep.hav (Keep.refl _ _) rfl) rfl) rfl) rfl) rfl) rfl) rfl) rfl) rfl) rfl) rfl) rfl) rfl) rfl) rfl) rfl) rfl) rfl)) rfl) rfl), (k + 1, (p59, c59)), _, (by (repeat (first | exact trivial | refine ⟨rfl, ?_⟩ | refine ⟨Eq.trans rfl (congrArg Value.bool hmat.symm), ?_⟩)); (first | done | fail)), ?_, ⟨rfl, hlt, rfl⟩, (by simp only; omega)⟩
    · rw [htk, show ints (m.cells.take k ++ [y]) = ints (m.cells.take k) ++ [i64 y] by simp [ints]]; exact zE
  obtain rfl : k = n := by omega
  refine XA.exit ?_
  refine DA.thn_exit ?_
  refine DA.thn_exit ?_
  refine DA.inb_same ?_
  refine zT ?_; refine zS ?_; refine zR ?_; refine zO rfl (Rd.ldA rfl) ?_
  refine XOA.wr0 rfl (WrA.st (tyrow rfl) rfl) ?_
  rintro _ _ _ ⟨rfl, rfl, rfl⟩
  refine zN ?_; refine zT ?_
  refine XA.ret ?_
  refine DA.frz (R := lst 2 1 (.slice po out.length co) _ _) (by ((repeat (first | with_reducible exact Sel.head | apply Sel.tail)); (first | done | fail))) lst_frz lst_frz_mono ?_
  rintro σ1 ⟨⟩ hf1 hs1
  refine DA.frz (R := lst 2 1 (.slice pc k cc) _ _) (by ((repeat (first | with_reducible exact Sel.head | apply Sel.tail)); (first | done | fail))) lst_frz lst_frz_mono ?_
  rintro σ2 ⟨⟩ hf2 hs2
  refine DA.ent (Ent.foldC (Θ := [blk pb [.slice q out.length cq, i64 (codeP wrong)] 40, lst 2 1 (.slice q out.length cq) out.length (ints out)]) (by (repeat (first | exact Ent.all _ | (apply Ent.take; focus (first | ((repeat (first | with_reducible exact Sel.head | apply Sel.tail)); done) | ((repeat (first | exact Sel.head | apply Sel.tail)); done))) | apply Ent.takeNil | apply Ent.takeEmp)); (first | done | fail)) (Prin.mk rfl rfl rfl) (Ent.refl _)) ?_
  exact bodyA.ret (ResA.cell1 rfl rfl (Ld.atBlk (tyrow rfl) rfl (by ((repeat (first | with_reducible exact Sel.head | apply Sel.tail)); (first | done | fail))) rfl (by first | exact take0 (by first | rfl | assumption | (refine (ints_len _).trans ?_; assumption) | (simp [*]; (first | done | fail))) | assumption | exact take_app (by first | rfl | assumption | (refine (ints_len _).trans ?_; assumption) | (simp [*]; (first | done | fail))) | (conv => lhs; simp only [List.drop_succ_cons, List.drop_zero, List.take_succ_cons, List.take_zero])) (by first | rfl | assumption | (refine (ints_len _).trans ?_; assumption) | (simp [*]; (first | done | fail))))) zE ⟨po, co, pc, cc, rfl, pints_frz rfl (lst_frz_mono () _ _ hf1 hs2), pints_frz (by rw [List.length_take]; omega) hf2, hs1.trans hs2, rfl⟩
end Go.Proofs.Ytmnmcjdgnpgchaa

namespace Go.Proofs.Ytmnmcjdgnpgchaa
open Go X
set_option maxHeartbeats 1000000
def nextB (code : List In) (inp : List Int) (keep : Bool) (b : Be) : Be := if b.m.st = 0 then stepB code inp keep b else b
def nextM (code : List In) (inp : List Int) (M : Me) : Me := if M.ld 4 = 0 then M.stepM code inp else M
/-- What a machine and its program have to do with each other. -/
structure MachOk (p : Pr) (inp : List Int) (M : Me) (b : Be) (k : Nat) : Prop where
  ch : checkP p = 0
  inv : MInv p inp b.out.length b.m
  sh : Shows M.C b.m
  inl : inp.length ≤ 1000000
  cl : (codeOf p).length ≤ 1000000
  ol : b.out.length ≤ k
theorem MachOk.st {p : Pr} {inp : List Int} {M : Me} {b : Be} {k : Nat} (h : MachOk p inp M b k) : M.ld 4 = b.m.st := h.sh.st
theorem MachOk.ok {p : Pr} {inp : List Int} {M : Me} {b : Be} {k : Nat} (h : MachOk p inp M b k) (hk : k ≤ 1000000) (h0 : b.m.st = 0) : ∃ x, StepOk (codeOf p) inp b x ∧ b.m.stack.length < 59 := by
  obtain ⟨x, hx⟩ := h.inv.ok h.ch h0 h.inl (by have := h.ol; omega) h.cl
  obtain ⟨h1, h2⟩ := h.inv.at_ h0
  have := hts_le h.ch h1
  exact ⟨x, hx, by omega⟩
theorem MachOk.next {p : Pr} {inp : List Int} {M : Me} {b : Be} {k : Nat} (h : MachOk p inp M b k) (hk : k ≤ 1000000) (keep : Bool) : MachOk p inp (nextM (codeOf p) inp M) (nextB (codeOf p) inp keep b) (k + 1) := by
  have e := h.st
  by_cases h0 : b.m.st = 0
  · obtain ⟨x, hx, hs⟩ := h.ok hk h0
    obtain ⟨q1, q2, q3, -⟩ := h.inv.step (keep := keep) h.ch hx
    rw [nextM, if_pos (by omega), nextB, if_pos h0]
    exact ⟨h.ch, q1, h.sh.step keep hx hs, h.inl, h.cl, by have := h.ol; omega⟩
  · rw [nextM, if_neg (by omega), nextB, if_neg h0]
    exact ⟨h.ch, h.inv, h.sh, h.inl, h.cl, by have := h.ol; omega⟩
theorem MachOk.cells {p : Pr} {inp : List Int} {M : Me} {b : Be} {k : Nat} (h : MachOk p inp M b k) : b.m.cells.length = (sizes p.vars).toNat := h.inv.cells
section
variable (σ : PH) (g mb sb db pb : Nat) (pc pi : Option Addr) (cc ci : Nat) (inp : List Int) (d : DiskS) (s : StS) (M : Me) (b : Be) (p : Pr) (k : Nat)
/-- An instruction. -/
theorem any_m (hc : PSl 4 rIn σ (.slice pc (codeOf p).length cc) (codeOf p)) (hi : PInts σ (.slice pi inp.length ci) inp) (hg : s.gen < 4611686018427387904) (h : MachOk p inp M b k) (hk : k ≤ 1000000) :
    CallsA Try.prog 18 #[ptr g] σ [blk g [ptr mb, .slice pc (codeOf p).length cc, .slice pi inp.length ci, ptr pb, i64 0, .bool false] 64, Wld mb sb db d s M, Prin pb b.out b.wrong] (RetA fun v σ' Γ' => ∃ (d' : DiskS) (s' : StS), v = .bool (decide (b.m.st = 0)) ∧ s'.gen ≤ s.gen + 1 ∧ (d' = d ∧ s' = s ∨ Good d' s' ∧ pagesC d' s' = (nextM (codeOf p) inp M).C ∧ b.m.st = 0 ∧ ∃ x, (codeOf p)[b.m.next]? = some x ∧ x.op = 15) ∧ ((∀ x, (codeOf p)[b.m.next]? = some x → x.op ≠ 15) → d' = d ∧ s' = s) ∧ ((∀ x, (codeOf p)[b.m.next]? = some x → x.op = 15) → b.m.st = 0 → Good d' s' ∧ pagesC d' s' = (nextM (codeOf p) inp M).C) ∧ σ.sub σ' ∧ Γ' = [blk g [ptr mb, .slice pc (codeOf p).length cc, .slice pi inp.length ci, ptr pb, i64 0, .bool false] 64, Wld mb sb db d' s' (nextM (codeOf p) inp M), Prin pb (nextB (codeOf p) inp false b).out (nextB (codeOf p) inp false b).wrong]) := by
  have e := h.st
  by_cases h0 : b.m.st = 0
  · obtain ⟨x, hx, hs⟩ := h.ok hk h0
    rw [nextM, if_pos (by omega), nextB, if_pos h0]
    by_cases h15 : x.op = 15
    · have e1 : (stepB (codeOf p) inp false b).out = b.out ∧ (stepB (codeOf p) inp false b).wrong = b.wrong := by
        rw [stepB, hx.at_]
        obtain ⟨op, a1, a2, a3⟩ := x
        simp only at h15
        subst h15
        exact ⟨rfl, rfl⟩
      rw [e1.1, e1.2]
      refine CallsA.ret (R := fun v σ' Γ' => ∃ Γ1, (∃ (d' : DiskS) (s' : StS), v = .bool true ∧ s'.gen = s.gen + 1 ∧ pagesC d' s' = (M.stepM (codeOf p) inp).C ∧ Good d' s' ∧ σ.sub σ' ∧ Γ1 = [blk g [ptr mb, .slice pc (codeOf p).length cc, .slice pi inp.length ci, ptr pb, i64 0, .bool false] 64, Wld mb sb db d' s' (M.stepM (codeOf p) inp)]) ∧ Γ' = Γ1 ++ [Prin pb b.out b.wrong]) (((stepC_m σ g mb sb db pb pc pi cc ci (codeOf p) inp false d s M b x hc hg h.sh hx h15).frame [Prin pb b.out b.wrong] (Ent.refl _)).mono ?_) ?_
      · rintro e σ' _ ⟨Γ1, q, rfl⟩
        cases e with
        | returned v => exact ⟨Γ1, q, rfl⟩
        | panicked c => exact q.elim
        | outgrown => exact q.elim
      · rintro v σ' _ ⟨Γ1, ⟨d', s', rfl, q1, q2, q3, q4, rfl⟩, rfl⟩
        refine ⟨d', s', by rw [decide_eq_true h0], by omega, .inr ⟨q3, q2, h0, x, hx.at_, h15⟩, fun q => absurd h15 (q x hx.at_), fun _ _ => ⟨q3, q2⟩, q4, rfl⟩
    · refine (step_m σ g mb sb db pb pc pi cc ci (codeOf p) inp 0 false d s M b x hc hi h.inl h.sh hx hs h15).ret ?_
      rintro v σ' _ ⟨rfl, rfl, rfl⟩
      exact ⟨d, s, by rw [decide_eq_true h0], by omega, .inl ⟨rfl, rfl⟩, fun _ => ⟨rfl, rfl⟩, fun q => absurd (q x hx.at_) h15, .refl _, rfl⟩
  · rw [nextM, if_neg (by omega), nextB, if_neg h0]
    refine CallsA.ret (R := fun v σ' Γ' => ∃ Γ1, (v = .bool false ∧ σ = σ' ∧ Γ1 = [blk g [ptr mb, .slice pc (codeOf p).length cc, .slice pi inp.length ci, ptr pb, i64 0, .bool false] 64, Wld mb sb db d s M]) ∧ Γ' = Γ1 ++ [Prin pb b.out b.wrong]) (((stepdone_m σ g mb sb db pb (.slice pc (codeOf p).length cc) (.slice pi inp.length ci) 0 false d s M (by omega)).frame [Prin pb b.out b.wrong] (Ent.refl _)).mono ?_) ?_
    · rintro e σ' _ ⟨Γ1, q, rfl⟩
      cases e with
      | returned v => exact ⟨Γ1, q, rfl⟩
      | panicked c => exact q.elim
      | outgrown => exact q.elim
    · rintro v σ' _ ⟨Γ1, ⟨rfl, rfl, rfl⟩, rfl⟩
      exact ⟨d, s, by rw [decide_eq_false h0], by omega, .inl ⟨rfl, rfl⟩, fun _ => ⟨rfl, rfl⟩, fun _ q => absurd q h0, .refl _, rfl⟩
end
end Go.Proofs.Ytmnmcjdgnpgchaa

namespace Go.Proofs.Ytmnmcjdgnpgchaa
open Go X
set_option maxHeartbeats 1000000
theorem be0_inv {p : Pr} (hc : checkP p = 0) (inp : List Int) : MInv p inp 0 (be0 (sizes p.vars).toNat).m := by
  have hl : 0 < (codeOf p).length := by
    have : codeOf p = stsCode p.vars p.body 0 ++ [⟨16, 0, 0, 0⟩] := rfl
    rw [this, List.length_append]; simp
  exact ⟨fun _ => ⟨hl, by simp [be0, hts_nil]⟩, by simp [be0], Nat.le_refl _, Nat.zero_le _⟩
end Go.Proofs.Ytmnmcjdgnpgchaa

namespace Go.Proofs.Ytmnmcjdgnpgchaa
open Go X
set_option maxHeartbeats 2000000
theorem wordC_noP (a : Int) : wordC noP a = 0 := by
  unfold wordC; split
  · rename_i h
    have h8 : a.toNat / 8 < 14 := by omega
    have e : noP.getD (a.toNat / 8) DiskS.zeros = DiskS.zeros := by
      rw [noP, List.getD_eq_getElem?_getD, List.getElem?_replicate]; split <;> rfl
    rw [e]
    have h9 : a.toNat % 8 < 8 := by omega
    generalize a.toNat % 8 = k at h9
    match k, h9 with
    | 0, _ => rfl
    | 1, _ => rfl
    | 2, _ => rfl
    | 3, _ => rfl
    | 4, _ => rfl
    | 5, _ => rfl
    | 6, _ => rfl
    | 7, _ => rfl
  · rfl
theorem shows0 {n : Nat} (h : n ≤ 48) : Shows noP (be0 n).m :=
  ⟨noP_ok, wordC_noP _, wordC_noP _, wordC_noP _, wordC_noP _, wordC_noP _, fun k hk => by rw [wordC_noP]; simp [be0, List.getD_eq_getElem?_getD, List.getElem?_replicate]; split <;> rfl, fun j hj => by simp [be0] at hj, by simpa [be0] using h, by simp [be0]⟩
def M0 : Me := ⟨noP, noB⟩
theorem mach0 {p : Pr} (hc : checkP p = 0) (inp : List Int) (hi : inp.length ≤ 1000000) (hl : (codeOf p).length ≤ 1000000) : MachOk p inp M0 (be0 (sizes p.vars).toNat) 0 := by
  obtain ⟨-, -, hv1, h48⟩ := check_valid hc
  exact ⟨hc, be0_inv hc inp, shows0 (by omega), hi, hl, Nat.le_refl _⟩
def zEx : Ex := .mk 0 0 0 []
def progM : Pr := ⟨[⟨⟨#[97]⟩, 1⟩], [.mk 4 0 zEx zEx [] [], .mk 3 0 (.mk 2 0 0 []) zEx [] [], .mk 7 0 zEx zEx [] []]⟩
theorem checkM : checkP progM = 0 := by decide +kernel
theorem codeM : codeOf progM = [⟨12, 0, 0, 0⟩, ⟨2, 0, 0, 0⟩, ⟨11, 0, 0, 0⟩, ⟨15, 0, 0, 0⟩, ⟨16, 0, 0, 0⟩] := by decide +kernel
def begB : Nat → Be
  | 0 => be0 1
  | k + 1 => nextB (codeOf progM) [7] false (begB k)
def begB' : Nat → Be
  | 0 => be0 1
  | k + 1 => nextB [⟨12, 0, 0, 0⟩, ⟨2, 0, 0, 0⟩, ⟨11, 0, 0, 0⟩, ⟨15, 0, 0, 0⟩, ⟨16, 0, 0, 0⟩] [7] false (begB' k)
theorem begB_eq : ∀ k, begB k = begB' k
  | 0 => rfl
  | k + 1 => by rw [begB, begB', begB_eq k, codeM]
theorem begB_goes {k : Nat} (h : k < 5) : (begB k).m.st = 0 := by
  rw [begB_eq]
  match k, h with
  | 0, _ => rfl
  | 1, _ => rfl
  | 2, _ => rfl
  | 3, _ => rfl
  | 4, _ => rfl
theorem begB_ends : (begB 5).m.st = 1 := by rw [begB_eq]; rfl
theorem begB_6 : (begB 6).m.st = 1 ∧ (begB 6).m.cells = [7] ∧ (begB 6).out = [7] ∧ (begB 6).wrong = false := by
  rw [begB_eq]; exact ⟨rfl, rfl, rfl, rfl⟩
theorem machbegun_a (σ : PH) : CallsA Try.prog 11 #[] σ [] (RetA fun v σ' Γ' => v = .bool true ∧ σ.sub σ' ∧ Γ' = []) := by
  have hG0 : Good DiskS.new s0 := Good.new
  refine enterA0 Try.func11 rfl rfl rfl ?_
  refine zS ?_; refine zR ?_; refine zO rfl Rd.asg ?_; refine zN ?_; refine zT ?_; refine zS ?_; refine zR ?_
  refine zO rfl (Rd.bl (fun _ _ => tyrow) rfl rfl rfl) ?_
  refine XOA.wr0 rfl (WrA.bs1 (tyrow rfl) rfl (tyrow rfl)) ?_
  rintro _ _ _ ⟨g11, rfl, rfl, rfl⟩
  refine zO rfl (Rd.bl (fun _ _ => tyrow) rfl rfl rfl) ?_
  refine zO rfl (Rd.bl (fun _ _ => tyrow) rfl rfl rfl) ?_
  refine zO rfl (Rd.bl (fun _ _ => tyrow) rfl rfl rfl) ?_
  refine zO rfl (Rd.bl (fun _ _ => tyrow) rfl rfl rfl) ?_
  refine XOA.wr0 rfl (WrA.bs (fun _ _ => tyrow) rfl rfl rfl rfl rfl) ?_
  rintro _ _ _ ⟨g16, rfl, rfl, rfl⟩
  refine zO rfl (Rd.bl (fun _ _ => tyrow) rfl rfl rfl) ?_
  refine XOA.frz (R := blk g11 _ 90) (by ((repeat (first | with_reducible exact Sel.head | apply Sel.tail)); (first | done | fail))) blk_frz blk_frz_mono ?_
  rintro σ1 ⟨⟩ hr5 hs1
  refine XOA.frz (R := blk g16 _ 95) (by ((repeat (first | with_reducible exact Sel.head | apply Sel.tail)); (first | done | fail))) blk_frz blk_frz_mono ?_
  rintro σ2 ⟨⟩ hr8 hs2
  have hr5 := hr5.mono hs2
  have nilE : ∀ σ, PSl 4 ExAt σ (.slice none 0 0) [] := fun σ => PSl.nil 4 ExAt σ
  have nilS : ∀ σ, PSl 12 StAt σ (.slice none 0 0) [] := fun σ => PSl.nil 12 StAt σ
  have okz : ∀ n : Int, -1000 ≤ n → n ≤ 1000 → i64ok n := fun n h1 h2 => ⟨by omega, by omega⟩
  have hz : ExAt σ2 [i64 0, i64 0, i64 0, .slice none 0 0] zEx := ExAt.of (okz _ (by decide) (by decide)) (okz _ (by decide) (by decide)) (okz _ (by decide) (by decide)) (nilE σ2)
  have hst1 : StAt σ2 [i64 4, i64 0, i64 0, i64 0, i64 0, .slice none 0 0, i64 0, i64 0, i64 0, .slice none 0 0, .slice none 0 0, .slice none 0 0] (.mk 4 0 zEx zEx [] []) := StAt.of (okz _ (by decide) (by decide)) (okz _ (by decide) (by decide)) hz hz (nilS σ2) (nilS σ2)
  have hst2 : StAt σ2 [i64 3, i64 0, i64 2, i64 0, i64 0, .slice none 0 0, i64 0, i64 0, i64 0, .slice none 0 0, .slice none 0 0, .slice none 0 0] (.mk 3 0 (.mk 2 0 0 []) zEx [] []) := StAt.of (okz _ (by decide) (by decide)) (okz _ (by decide) (by decide)) (ExAt.of (okz _ (by decide) (by decide)) (okz _ (by decide) (by decide)) (okz _ (by decide) (by decide)) (nilE σ2)) hz (nilS σ2) (nilS σ2)
  have hst3 : StAt σ2 [i64 7, i64 0, i64 0, i64 0, i64 0, .slice none 0 0, i64 0, i64 0, i64 0, .slice none 0 0, .slice none 0 0, .slice none 0 0] (.mk 7 0 zEx zEx [] []) := StAt.of (okz _ (by decide) (by decide)) (okz _ (by decide) (by decide)) hz hz (nilS σ2) (nilS σ2)
  have hvs : PSl 2 rVa σ2 (.slice (some ⟨g11, 0, none⟩) 1 1) progM.vars := by
    refine Rows_.psl (rows := [[.string ⟨#[97]⟩, i64 1]]) ⟨rfl, by simp, fun i row x a b => ?_⟩ rfl ⟨Nat.le_refl _, by simp [maxLen], rfl, fun _ => ⟨g11, 0, rfl, hr5⟩⟩
    match i with
    | 0 => simp [progM] at a b; subst a; subst b; exact ⟨rfl, okz _ (by decide) (by decide), by simp [maxLen, ByteArray.size]⟩
    | i + 1 => simp at a
  have hbs : PSl 12 StAt σ2 (.slice (some ⟨g16, 0, none⟩) 3 3) progM.body :=
    Rows_.psl ((((Rows_.nil 12 StAt σ2).snoc rfl hst1).snoc rfl hst2).snoc rfl hst3) rfl ⟨Nat.le_refl _, by simp [maxLen], rfl, fun _ => ⟨g16, 0, rfl, hr8⟩⟩
  have hp0 : PrAt σ2 [.slice (some ⟨g11, 0, none⟩) 1 1, .slice (some ⟨g16, 0, none⟩) 3 3] progM := ⟨_, _, rfl, hvs, hbs⟩
  refine XOA.wr0 rfl (WrA.cE (make_a σ2 _ progM hp0 (by decide +kernel)) rfl) ?_
  rintro _ σ3 _ ⟨_, ⟨sl, rfl, hsl, hs3, rfl⟩, rfl⟩
  refine XOA.cl ?_
  rw [checkM, if_pos rfl] at hsl
  rw [checkM]
  obtain ⟨q, cq, rfl, -, -⟩ := hsl.shape
  have h5 : (codeOf progM).length = 5 := by rw [codeM]; rfl
  refine zO rfl Rd.mv ?_
  refine zO rfl (Rd.extract rfl rfl) ?_
  refine zO rfl (Rd.extract rfl rfl) ?_
  refine zO rfl Rd.asg ?_; refine zO rfl Rd.asg ?_; refine zN ?_; refine zT ?_; refine zS ?_; refine zR ?_
  refine XOA.wr0 rfl (WrA.cE (new_a σ3) rfl) ?_
  rintro _ _ _ ⟨_, ⟨db, rfl, rfl, rfl⟩, rfl⟩
  refine XOA.cl ?_
  refine XOA.wr0 rfl (WrA.cE (open_a σ3 db DiskS.new hG0.dok hG0.wlen') rfl) ?_
  rintro _ _ _ ⟨_, ⟨b0, rfl, rfl, rfl⟩, rfl⟩
  refine XOA.cl ?_
  rw [hG0.open]
  refine XOA.wr0 rfl (WrA.cE (new_w σ3 b0 db DiskS.new s0 hG0) rfl) ?_
  rintro _ _ _ ⟨_, ⟨mb, rfl, rfl, rfl⟩, rfl⟩
  refine XOA.cl ?_
  rw [pages0, h5]
  refine zO rfl Rd.asg ?_; refine zN ?_; refine zT ?_; refine zS ?_; refine zS ?_; refine zR ?_; refine zO rfl Rd.mv ?_
  refine zO rfl (Rd.eqPtrNil (tyrow rfl) rfl rfl) ?_
  refine zO rfl Rd.mv ?_
  first | ((first | refine zW ?_ | refine zQ ?_); refine zO rfl Rd.mv ?_) | refine zU ?_ | refine zV ?_ | refine zZ ?_
  first | ((first | refine zW ?_ | refine zQ ?_); refine zO rfl (Rd.lenSlice (tyrow rfl) rfl rfl) ?_) | refine zU ?_ | refine zV ?_ | refine zZ ?_
  first | ((first | refine zW ?_ | refine zQ ?_); refine zO rfl (Rd.neq rfl rfl) ?_) | refine zU ?_ | refine zV ?_ | refine zZ ?_
  refine zO rfl (by first | exact Rd.pT rfl | exact Rd.pF rfl | exact Rd.pP rfl) ?_
  refine zN ?_; refine zT ?_
  refine XA.condF rfl rfl ?_
  refine XA.skip ?_
  refine zT ?_; refine zS ?_; refine zR ?_
  refine zO rfl (Rd.bl (fun _ _ => tyrow) rfl rfl rfl) ?_
  refine XOA.wr0 rfl WrA.bx ?_
  rintro _ _ _ ⟨g32, rfl, rfl, rfl⟩
  refine zO rfl Rd.asg ?_; refine zN ?_; refine zT ?_; refine zS ?_; refine zR ?_; refine zO rfl Rd.mv ?_; refine zO rfl Rd.mv ?_
  refine XOA.wr0 rfl (WrA.bs1 (tyrow rfl) rfl (tyrow rfl)) ?_
  rintro _ _ _ ⟨g35, rfl, rfl, rfl⟩
  refine zO rfl Rd.mv ?_
  refine XOA.ent (Ent.selNil (e := 2) (size := 1) (Ent.refl _)) ?_
  refine XOA.ent (Ent.foldC (Θ := [blk g32 _ 40, lst 2 1 (.slice none 0 0) 0 []]) (by (repeat (first | exact Ent.all _ | (apply Ent.take; focus (first | ((repeat (first | with_reducible exact Sel.head | apply Sel.tail)); done) | ((repeat (first | exact Sel.head | apply Sel.tail)); done))) | apply Ent.takeNil | apply Ent.takeEmp)); (first | done | fail)) (Prin.mk (out := []) (wrong := false) rfl rfl rfl) (Ent.refl _)) ?_
  refine XOA.frz (R := blk g35 _ 2) (by ((repeat (first | with_reducible exact Sel.head | apply Sel.tail)); (first | done | fail))) blk_frz blk_frz_mono ?_
  rintro σ4 ⟨⟩ hr35 hs4
  have hin : PInts σ4 (.slice (some ⟨g35, 0, none⟩) 1 1) [7] := ⟨_, _, rfl, Nat.le_refl _, by simp [maxLen], fun _ => ⟨g35, 0, rfl, hr35⟩⟩
  refine XOA.wr0 rfl (WrA.cE (newm_m σ4 mb g32 q 5 cq _ [7] hin (by decide)) rfl) ?_
  rintro _ σ5 _ ⟨_, ⟨g, pi, ci, rfl, hs5, hi5, rfl⟩, rfl⟩
  refine XOA.cl ?_
  have hsl5 := hsl.mono (hs4.trans hs5) (fun _ _ h => h)
  refine zO rfl Rd.asg ?_; refine zN ?_; refine zT ?_; refine zS ?_; refine zS ?_; refine zR ?_; refine zO rfl Rd.mv ?_
  refine zO rfl (Rd.eqPtrNil (tyrow rfl) rfl rfl) ?_
  refine zN ?_; refine zT ?_
  refine XA.condF rfl rfl ?_
  refine XA.skip ?_
  refine zT ?_; refine zS ?_; refine zR ?_; refine zO rfl Rd.asg ?_; refine zN ?_; refine zT ?_; refine zS ?_; refine zS ?_; refine zR ?_; refine zO rfl Rd.asg ?_; refine zN ?_; refine zT ?_
  refine XA.block ?_
  refine XA.gen [(0, _), (4, _), (5, _), (6, _), (7, _)] ⟨(by with_reducible (conv => lhs; whnf)), (by with_reducible (conv => lhs; whnf)), (by with_reducible (conv => lhs; whnf)), (by with_reducible (conv => lhs; whnf)), (by with_reducible (conv => lhs; whnf)), trivial⟩ (fun δ => ?_)
  dsimp only [List.foldl]
  refine XA.loop [(6, 7), (40, 49)] (fun k : Nat => [(6, i64 k), (7, i64 k)]) (fun k σ' Γ' => σ5.sub σ' ∧ k ≤ 5 ∧ ∃ (d : DiskS) (s : StS) (M : Me), s.gen ≤ k ∧ MachOk progM [7] M (begB k) k ∧ Γ' = [blk g [ptr mb, .slice q 5 cq, .slice pi 1 ci, ptr g32, i64 0, .bool false] 64, Wld mb b0 db d s M, Prin g32 (begB k).out (begB k).wrong]) (fun k => 5 - k) 0 (by exact ⟨rfl, rfl, trivial⟩) (Δ0 := _) ?_ (⟨.refl _, Nat.zero_le _, DiskS.new, s0, M0, Int.le_refl _, mach0 checkM [7] (by decide) (by rw [h5]; decide), rfl⟩) ?_
  · exact zE
  rintro k δ σ6 _ ⟨hs6, hk, d, s, M, hg, hM, rfl⟩
  dsimp only [ovr, List.foldl]
  have hk : k ≤ 5 := hk
  have hany := any_m σ6 g mb b0 db g32 q pi cq ci [7] d s M (begB k) progM k (hsl5.mono hs6 (fun _ _ h => h)) (hi5.mono hs6) (by omega) hM (by omega)
  rw [h5] at hany
  by_cases hlt : k < 5
  · rw [decide_eq_true (begB_goes hlt)] at hany
    refine zS ?_; refine zS ?_; refine zR ?_; refine zO rfl Rd.mv ?_; refine zO rfl (Rd.lss rfl rfl) ?_; refine zO rfl Rd.mv ?_
    first | ((first | refine zW ?_ | refine zQ ?_); refine zO rfl Rd.mv ?_) | refine zU ?_ | refine zV ?_ | refine zZ ?_
    first | refine XOA.wanted rfl rfl ?_ | refine XOA.wq rfl rfl ?_
    refine XOA.wr0 rfl (WrA.cE (hany) rfl) ?_
    rintro _ σ7 _ ⟨_, ⟨d', s', rfl, hg', -, -, -, hs7, rfl⟩, rfl⟩
    refine XOA.cl ?_
    refine zO rfl (by first | exact Rd.pT rfl | exact Rd.pF rfl | exact Rd.pP rfl) ?_
    refine zN ?_; refine zT ?_
    refine XA.condT rfl (by first | rfl | exact decide_eq_true (by omega)) ?_
    refine XA.skip ?_
    refine zT ?_; refine zS ?_
    refine XA.block ?_
    refine zR ?_; refine zO rfl Rd.mv ?_
    refine zO rfl (by first | exact Rd.adi rfl rfl | exact Rd.add rfl rfl) ?_
    refine zO rfl Rd.asg ?_; refine zN ?_
    refine DA.inb_normal ?_
    refine zT ?_; refine zR ?_; refine zO rfl Rd.mv ?_
    refine zO rfl (by first | exact Rd.adi rfl rfl | exact Rd.add rfl rfl) ?_
    refine zO rfl Rd.asg ?_; refine zN ?_; refine zT ?_
    refine ⟨(Keep.upd (Keep.upd (Keep.upd (Keep.upd (Keep.upd (Keep.upd (Keep.upd (Keep.updO (Keep.upd (Keep.upd (Keep.upd (Keep.upd (Keep.upd (Keep.upd (Keep.hav (Keep.hav (Keep.refl _ _) rfl) rfl) rfl) rfl) rfl) rfl) rfl) rfl) rfl) rfl) rfl) rfl) rfl) rfl) rfl) rfl), k + 1, _, (by (repeat (first | exact trivial | refine ⟨rfl, ?_⟩ | refine ⟨Eq.trans rfl (congrArg Value.bool hmat.symm), ?_⟩)); (first | done | fail)), ?_, ⟨hs6.trans hs7, by omega, d', s', _, by omega, hM.next (by omega) false, rfl⟩, (by omega)⟩
    · exact zE
  obtain rfl : k = 5 := by omega
  rw [decide_eq_false (show ¬ (begB 5).m.st = 0 by rw [begB_ends]; decide)] at hany
  obtain ⟨e1, e2, e3, e4⟩ := begB_6
  have e3' : (nextB (codeOf progM) [7] false (begB 5)).out = [7] := e3
  have e4' : (nextB (codeOf progM) [7] false (begB 5)).wrong = false := e4
  have hM6 : Shows (nextM (codeOf progM) [7] M).C (begB 6).m := (hM.next (by omega) false).sh
  refine zS ?_; refine zS ?_; refine zR ?_; refine zO rfl Rd.mv ?_; refine zO rfl (Rd.lss rfl rfl) ?_; refine zO rfl Rd.mv ?_
  first | ((first | refine zW ?_ | refine zQ ?_); refine zO rfl Rd.mv ?_) | refine zU ?_ | refine zV ?_ | refine zZ ?_
  first | refine XOA.wanted rfl rfl ?_ | refine XOA.wq rfl rfl ?_
  refine XOA.wr0 rfl (WrA.cE (hany) rfl) ?_
  rintro _ σ7 _ ⟨_, ⟨d', s', rfl, hg', -, -, -, hs7, rfl⟩, rfl⟩
  refine XOA.cl ?_
  rw [e3', e4']
  refine zO rfl (by first | exact Rd.pT rfl | exact Rd.pF rfl | exact Rd.pP rfl) ?_
  refine zN ?_; refine zT ?_
  refine XA.condF rfl (by first | rfl | exact decide_eq_false (by omega)) ?_
  refine XA.exit ?_
  refine DA.thn_exit ?_
  refine DA.thn_exit ?_
  refine DA.inb_same ?_
  refine zT ?_; refine zS ?_; refine zR ?_; refine zO rfl Rd.mv ?_
  refine XOA.wr0 rfl (WrA.cE (result_m σ7 g mb b0 db g32 _ _ 0 false d' s' _ (begB 6).m [7] false 1 hM6 (by rw [e2]; decide) (by decide)) rfl) ?_
  rintro _ σ8 _ ⟨_, ⟨po, co, pc, cc, rfl, hvo, hvc, hs8, rfl⟩, rfl⟩
  refine XOA.cl ?_
  rw [e2] at hvc
  rw [e1]
  obtain ⟨go, oo, rfl, hro⟩ := hvo.at (show ([7] : List Int)[0]? = some 7 from rfl)
  have hro0 : PRow σ8 go oo [i64 7] := by simpa using hro
  have hvc : PInts σ8 (.slice pc 1 cc) [7] := hvc
  obtain ⟨gc, oc, rfl, hrc⟩ := hvc.at (show ([7] : List Int)[0]? = some 7 from rfl)
  have hrc0 : PRow σ8 gc oc [i64 7] := by simpa using hrc
  refine XOA.wr0 rfl (WrA.alloc (tyrow rfl)) ?_
  rintro _ _ _ ⟨g8, rfl, rfl, rfl⟩
  refine XOA.wr0 rfl (WrA.st (tyrow rfl) rfl) ?_
  rintro _ _ _ ⟨rfl, rfl, rfl⟩
  refine zN ?_; refine zT ?_; refine zS ?_; refine zR ?_; refine zO rfl Rd.mv ?_; refine zO rfl (Rd.eql rfl rfl) ?_; refine zO rfl Rd.mv ?_
  first | ((first | refine zW ?_ | refine zQ ?_); refine zO rfl (Rd.fA rfl) ?_) | refine zU ?_ | refine zV ?_ | refine zZ ?_
  first | ((first | refine zW ?_ | refine zQ ?_); refine zO rfl (Rd.ldC rfl (tyrow rfl) rfl) ?_) | refine zU ?_ | refine zV ?_ | refine zZ ?_
  first | ((first | refine zW ?_ | refine zQ ?_); refine zO rfl (Rd.eql rfl rfl) ?_) | refine zU ?_ | refine zV ?_ | refine zZ ?_
  refine zO rfl (by first | exact Rd.pT rfl | exact Rd.pF rfl | exact Rd.pP rfl) ?_
  refine zO rfl Rd.mv ?_
  first | ((first | refine zW ?_ | refine zQ ?_); refine zO rfl (Rd.fA rfl) ?_) | refine zU ?_ | refine zV ?_ | refine zZ ?_
  first | ((first | refine zW ?_ | refine zQ ?_); refine zO rfl (Rd.ldC rfl (tyrow rfl) rfl) ?_) | refine zU ?_ | refine zV ?_ | refine zZ ?_
  first | ((first | refine zW ?_ | refine zQ ?_); refine zO rfl (Rd.lenSlice (tyrow rfl) rfl rfl) ?_) | refine zU ?_ | refine zV ?_ | refine zZ ?_
  first | ((first | refine zW ?_ | refine zQ ?_); refine zO rfl (Rd.eql rfl rfl) ?_) | refine zU ?_ | refine zV ?_ | refine zZ ?_
  refine zO rfl (by first | exact Rd.pT rfl | exact Rd.pF rfl | exact Rd.pP rfl) ?_
  refine zO rfl Rd.mv ?_
  first | ((first | refine zW ?_ | refine zQ ?_); refine zO rfl (Rd.fA rfl) ?_) | refine zU ?_ | refine zV ?_ | refine zZ ?_
  first | ((first | refine zW ?_ | refine zQ ?_); refine zO rfl (Rd.ldC rfl (tyrow rfl) rfl) ?_) | refine zU ?_ | refine zV ?_ | refine zZ ?_
  first | ((first | refine zW ?_ | refine zQ ?_); refine zO rfl (Rd.ixS rfl rfl) ?_) | refine zU ?_ | refine zV ?_ | refine zZ ?_
  first | ((first | refine zW ?_ | refine zQ ?_); refine zO rfl (Rd.ldC rfl (tyrow rfl) rfl) ?_) | refine zU ?_ | refine zV ?_ | refine zZ ?_
  first | ((first | refine zW ?_ | refine zQ ?_); refine zO rfl (Rd.eql rfl rfl) ?_) | refine zU ?_ | refine zV ?_ | refine zZ ?_
  refine zO rfl (by first | exact Rd.pT rfl | exact Rd.pF rfl | exact Rd.pP rfl) ?_
  refine zO rfl Rd.mv ?_
  first | ((first | refine zW ?_ | refine zQ ?_); refine zO rfl (Rd.fA rfl) ?_) | refine zU ?_ | refine zV ?_ | refine zZ ?_
  first | ((first | refine zW ?_ | refine zQ ?_); refine zO rfl (Rd.ldC rfl (tyrow rfl) rfl) ?_) | refine zU ?_ | refine zV ?_ | refine zZ ?_
  first | ((first | refine zW ?_ | refine zQ ?_); refine zO rfl (Rd.lenSlice (tyrow rfl) rfl rfl) ?_) | refine zU ?_ | refine zV ?_ | refine zZ ?_
  first | ((first | refine zW ?_ | refine zQ ?_); refine zO rfl (Rd.eql rfl rfl) ?_) | refine zU ?_ | refine zV ?_ | refine zZ ?_
  refine zO rfl (by first | exact Rd.pT rfl | exact Rd.pF rfl | exact Rd.pP rfl) ?_
  refine zO rfl Rd.mv ?_
  first | ((first | refine zW ?_ | refine zQ ?_); refine zO rfl (Rd.fA rfl) ?_) | refine zU ?_ | refine zV ?_ | refine zZ ?_
  first | ((first | refine zW ?_ | refine zQ ?_); refine zO rfl (Rd.ldC rfl (tyrow rfl) rfl) ?_) | refine zU ?_ | refine zV ?_ | refine zZ ?_
  first | ((first | refine zW ?_ | refine zQ ?_); refine zO rfl (Rd.ixS rfl rfl) ?_) | refine zU ?_ | refine zV ?_ | refine zZ ?_
  first | ((first | refine zW ?_ | refine zQ ?_); refine zO rfl (Rd.ldC rfl (tyrow rfl) rfl) ?_) | refine zU ?_ | refine zV ?_ | refine zZ ?_
  first | ((first | refine zW ?_ | refine zQ ?_); refine zO rfl (Rd.eql rfl rfl) ?_) | refine zU ?_ | refine zV ?_ | refine zZ ?_
  refine zO rfl (by first | exact Rd.pT rfl | exact Rd.pF rfl | exact Rd.pP rfl) ?_
  refine zO rfl Rd.mv ?_
  first | ((first | refine zW ?_ | refine zQ ?_); refine zO rfl Rd.mv ?_) | refine zU ?_ | refine zV ?_ | refine zZ ?_
  first | refine XOA.wanted rfl rfl ?_ | refine XOA.wq rfl rfl ?_
  refine XOA.wr0 rfl (WrA.cE (plist_a σ8 g32 [7] false (by decide)) rfl) ?_
  rintro _ _ _ ⟨_, ⟨p2, c2, rfl, rfl, rfl⟩, rfl⟩
  refine XOA.cl ?_
  first | ((first | refine zW ?_ | refine zQ ?_); refine zO rfl (Rd.lenSlice (tyrow rfl) rfl rfl) ?_) | refine zU ?_ | refine zV ?_ | refine zZ ?_
  first | ((first | refine zW ?_ | refine zQ ?_); refine zO rfl (Rd.eql rfl rfl) ?_) | refine zU ?_ | refine zV ?_ | refine zZ ?_
  refine zO rfl (by first | exact Rd.pT rfl | exact Rd.pF rfl | exact Rd.pP rfl) ?_
  refine zO rfl Rd.mv ?_
  first | ((first | refine zW ?_ | refine zQ ?_); refine zO rfl Rd.mv ?_) | refine zU ?_ | refine zV ?_ | refine zZ ?_
  first | refine XOA.wanted rfl rfl ?_ | refine XOA.wq rfl rfl ?_
  refine XOA.wr0 rfl (WrA.cE (pcode_a σ8 g32 [7] false) rfl) ?_
  rintro _ _ _ ⟨_, ⟨rfl, rfl, rfl⟩, rfl⟩
  refine XOA.cl ?_
  first | ((first | refine zW ?_ | refine zQ ?_); refine zO rfl (Rd.eql rfl rfl) ?_) | refine zU ?_ | refine zV ?_ | refine zZ ?_
  refine zO rfl (by first | exact Rd.pT rfl | exact Rd.pF rfl | exact Rd.pP rfl) ?_
  refine zO rfl Rd.asg ?_; refine zN ?_; refine zT ?_
  refine XA.ret ?_
  exact bodyA.ret (ResA.one rfl rfl) (Ent.nil _) ⟨rfl, (((((hs1.trans hs2).trans hs3).trans hs4).trans hs5).trans (hs6.trans hs7)).trans hs8, rfl⟩
end Go.Proofs.Ytmnmcjdgnpgchaa

namespace Go.Proofs.Ytmnmcjdgnpgchaa
open Go X
set_option maxHeartbeats 2000000
end Go.Proofs.Ytmnmcjdgnpgchaa

namespace Go.Proofs.Ytmnmcjdgnpgchaa
open Go X
set_option maxHeartbeats 1000000
theorem slongs_a (σ : PH) (v w : Value) (xs ys : List Int) (hv : PInts σ v xs) (hw : PInts σ w ys) : CallsA Try.prog 23 #[v, w] σ [] (RetA fun r σ' Γ' => r = .bool (decide (xs = ys)) ∧ σ = σ' ∧ Γ' = []) := by
  obtain ⟨p, c, rfl, hle, hmx⟩ := hv.shape
  obtain ⟨p', c', rfl, hle', hmx'⟩ := hw.shape
  have hlen : xs.length ≤ maxLen := by omega
  simp only [maxLen] at hlen
  refine enterA2 Try.func23 rfl rfl rfl ?_
  refine zS ?_; refine zR ?_; refine zO rfl Rd.asg ?_; refine zN ?_; refine zT ?_; refine zS ?_; refine zS ?_; refine zR ?_; refine zO rfl Rd.mv ?_; refine zO rfl (Rd.lenSlice (tyrow rfl) rfl rfl) ?_; refine zO rfl Rd.mv ?_; refine zO rfl (Rd.lenSlice (tyrow rfl) rfl rfl) ?_
  refine zO rfl (Rd.neq rfl rfl) ?_
  refine zN ?_; refine zT ?_
  refine XA.condp rfl (fun hne => ?_) (fun hne => ?_)
  · refine zS ?_
    refine zR ?_; refine zO rfl Rd.asg ?_; refine zN ?_; refine zT ?_
    refine XA.ret ?_
    refine DA.thn_ret ?_
    exact bodyA.ret (ResA.one rfl rfl) zE ⟨congrArg Value.bool (decide_eq_false (fun e => hne (by rw [e]))).symm, rfl, rfl⟩
  have hll : xs.length = ys.length := by omega
  refine XA.skip ?_
  refine zT ?_; refine zS ?_; refine zS ?_; refine zR ?_; refine zO rfl Rd.asg ?_; refine zN ?_; refine zT ?_
  refine XA.block ?_
  refine XA.gen [(0, _), (1, _), (4, _), (5, _)] ⟨(by with_reducible (conv => lhs; whnf)), (by with_reducible (conv => lhs; whnf)), (by with_reducible (conv => lhs; whnf)), (by with_reducible (conv => lhs; whnf)), trivial⟩ (fun δ => ?_)
  dsimp only [List.foldl]
  refine XA.loop [(4, 5), (11, 25)] (fun k : Nat => [(5, i64 k)]) (fun k σ' Γ' => σ = σ' ∧ k ≤ xs.length ∧ xs.take k = ys.take k ∧ Γ' = []) (fun k => xs.length - k) 0 (by exact ⟨rfl, trivial⟩) (Δ0 := _) ?_ (⟨rfl, Nat.zero_le _, rfl, rfl⟩) ?_
  · exact zE
  rintro k δ _ _ ⟨rfl, hk, hall, rfl⟩
  dsimp only [ovr, List.foldl]
  refine zS ?_; refine zS ?_; refine zR ?_; refine zO rfl Rd.mv ?_; refine zO rfl Rd.mv ?_; refine zO rfl (Rd.lenSlice (tyrow rfl) rfl rfl) ?_; refine zO rfl (Rd.lss rfl rfl) ?_; refine zN ?_; refine zT ?_
  refine XA.condp rfl (fun hlt => ?_) (fun hlt => ?_)
  · have hlt : k < xs.length := by omega
    obtain ⟨x, hx⟩ : ∃ x, xs[k]? = some x := ⟨_, List.getElem?_eq_getElem hlt⟩
    obtain ⟨y, hy⟩ : ∃ y, ys[k]? = some y := ⟨_, List.getElem?_eq_getElem (by omega)⟩
    obtain ⟨g, o, rfl, hr⟩ := hv.at hx
    obtain ⟨g', o', rfl, hr'⟩ := hw.at hy
    rw [Nat.mul_one] at hr hr'
    refine XA.skip ?_
    refine zT ?_; refine zS ?_
    refine XA.block ?_
    refine zS ?_
    refine XA.draw (by kernel_rfl) _ _ [] [(0, .pu), (1, .pu), (2, .pu), (3, .rd), (4, .pu), (5, .pu), (6, .pu), (7, .rd), (8, .pu)] (by kernel_rfl) (PH.sub.refl _) (Ent.nil _) ?_
    refine XPA.pu rfl rfl Gd.free Rd.mv ?_
    refine XPA.pu rfl rfl Gd.free Rd.mv ?_
    refine XPA.pu rfl rfl Gd.free (Rd.ixS rfl rfl) ?_
    refine XPA.rd rfl rfl Gd.free (Rd.ldC rfl (tyrow rfl) rfl) ?_
    refine XPA.pu rfl rfl Gd.free Rd.mv ?_
    refine XPA.pu rfl rfl Gd.free Rd.mv ?_
    refine XPA.pu rfl rfl Gd.free (Rd.ixS rfl rfl) ?_
    refine XPA.rd rfl rfl Gd.free (Rd.ldC rfl (tyrow rfl) rfl) ?_
    refine XPA.pu rfl rfl Gd.free (Rd.neq rfl rfl) ?_
    refine XPA.nil ?_
    refine zT ?_
    refine XA.condp rfl (fun he => ?_) (fun he => ?_)
    · refine zS ?_
      refine zR ?_; refine zO rfl Rd.asg ?_; refine zN ?_; refine zT ?_
      refine XA.ret ?_
      refine DA.inb_ret ?_
      refine DA.thn_ret ?_
      refine DA.thn_ret ?_
      refine DA.inb_ret ?_
      refine DA.thn_ret ?_
      exact bodyA.ret (ResA.one rfl rfl) zE ⟨congrArg Value.bool (decide_eq_false (fun e => by subst e; rw [hx] at hy; simp only [Option.some.injEq] at hy; exact he hy)).symm, rfl, rfl⟩
    have hxy : x = y := Classical.byContradiction he
    refine XA.skip ?_
    refine DA.inb_normal ?_
    refine zT ?_; refine zR ?_; refine zO rfl Rd.mv ?_
    refine zO rfl (by first | exact Rd.adi rfl rfl | exact Rd.add rfl rfl) ?_
    refine zO rfl Rd.asg ?_; refine zN ?_; refine zT ?_
    refine ⟨(Keep.upd (Keep.upd (Keep.upd (Keep.upd (Keep.upd (Keep.upd (Keep.upd (Keep.upd (Keep.upd (Keep.upd (Keep.upd (Keep.upd (Keep.upd (Keep.upd (Keep.upd (Keep.upd (Keep.upd (Keep.hav (Keep.hav (Keep.refl _ _) rfl) rfl) rfl) rfl) rfl) rfl) rfl) rfl) rfl) rfl) rfl) rfl) rfl) rfl) rfl) rfl) rfl) rfl) rfl), k + 1, _, (by (repeat (first | exact trivial | refine ⟨rfl, ?_⟩ | refine ⟨Eq.trans rfl (congrArg Value.bool hmat.symm), ?_⟩)); (first | done | fail)), ?_, ⟨rfl, hlt, by rw [takeS hx, takeS hy, hall, hxy], rfl⟩, (by omega)⟩
    · exact zE
  obtain rfl : k = xs.length := by omega
  refine XA.exit ?_
  refine DA.thn_exit ?_
  refine DA.thn_exit ?_
  refine DA.inb_same ?_
  refine zT ?_; refine zS ?_; refine zR ?_; refine zO rfl Rd.asg ?_; refine zN ?_; refine zT ?_
  refine XA.ret ?_
  exact bodyA.ret (ResA.one rfl rfl) zE ⟨congrArg Value.bool (decide_eq_true (by rw [List.take_length, hll, List.take_length] at hall; exact hall)).symm, rfl, rfl⟩
theorem X.PInts.take {σ : PH} {p : Option Addr} {n c k : Nat} {xs : List Int} (h : PInts σ (.slice p n c) xs) (hk : k ≤ n) : PInts σ (.slice p k c) (xs.take k) := by
  obtain ⟨p', c', h1, h2, h3, h4⟩ := h
  simp only [Value.slice.injEq] at h1
  obtain ⟨rfl, rfl, rfl⟩ := h1
  have hl : (xs.take k).length = k := by rw [List.length_take]; omega
  refine ⟨p, c, by rw [hl], by omega, h3, fun h0 => ?_⟩
  obtain ⟨g, o, e, r⟩ := h4 (by omega)
  refine ⟨g, o, e, ?_⟩
  have e2 : ints xs = ints (xs.take k) ++ ints (xs.drop k) := by rw [← List.take_append_drop k xs]; simp [ints]
  rw [e2] at r
  exact r.sub (j := 0) (by simp)
theorem sresult_a (σ : PH) (c : Int) (vo vc wo wc : Value) (out cells : List Int) (h1 : PInts σ vo out) (h2 : PInts σ vc cells) (h3 : PInts σ wo out) (h4 : PInts σ wc cells) :
    CallsA Try.prog 20 #[.agg #[i64 c, vo, vc], .agg #[i64 c, wo, wc]] σ [] (RetA fun r σ' Γ' => r = .bool true ∧ σ = σ' ∧ Γ' = []) := by
  obtain ⟨p1, c1, rfl, -, -⟩ := h1.shape
  obtain ⟨p2, c2, rfl, -, -⟩ := h2.shape
  obtain ⟨p3, c3, rfl, -, -⟩ := h3.shape
  obtain ⟨p4, c4, rfl, -, -⟩ := h4.shape
  refine enterA2 Try.func20 rfl rfl rfl ?_
  refine zS ?_; refine zR ?_
  refine XOA.wr0 rfl WrA.bx ?_
  rintro _ _ _ ⟨g2, rfl, rfl, rfl⟩
  refine XOA.wr0 rfl WrA.bx ?_
  rintro _ _ _ ⟨g3, rfl, rfl, rfl⟩
  refine zO rfl Rd.asg ?_; refine zN ?_; refine zT ?_; refine zS ?_; refine zR ?_; refine zO rfl (Rd.fA rfl) ?_; refine zO rfl (Rd.ldC rfl (tyrow rfl) rfl) ?_; refine zO rfl (Rd.fA rfl) ?_; refine zO rfl (Rd.ldC rfl (tyrow rfl) rfl) ?_; refine zO rfl (Rd.eql rfl rfl) ?_; refine zO rfl Rd.mv ?_
  first | ((first | refine zW ?_ | refine zQ ?_); refine zO rfl (Rd.fA rfl) ?_) | refine zU ?_ | refine zV ?_ | refine zZ ?_
  first | ((first | refine zW ?_ | refine zQ ?_); refine zO rfl (Rd.ldC rfl (tyrow rfl) rfl) ?_) | refine zU ?_ | refine zV ?_ | refine zZ ?_
  first | ((first | refine zW ?_ | refine zQ ?_); refine zO rfl (Rd.fA rfl) ?_) | refine zU ?_ | refine zV ?_ | refine zZ ?_
  first | ((first | refine zW ?_ | refine zQ ?_); refine zO rfl (Rd.ldC rfl (tyrow rfl) rfl) ?_) | refine zU ?_ | refine zV ?_ | refine zZ ?_
  first | refine XOA.wanted rfl rfl ?_ | refine XOA.wq rfl rfl ?_
  refine XOA.wr0 rfl (WrA.cE (slongs_a σ _ _ out out h1 h3) rfl) ?_
  rintro _ _ _ ⟨_, ⟨rfl, rfl, rfl⟩, rfl⟩
  refine XOA.cl ?_
  rw [show decide (out = out) = true from decide_eq_true rfl]
  refine zO rfl (by first | exact Rd.pT rfl | exact Rd.pF rfl | exact Rd.pP rfl) ?_
  refine zO rfl Rd.mv ?_
  first | ((first | refine zW ?_ | refine zQ ?_); refine zO rfl (Rd.fA rfl) ?_) | refine zU ?_ | refine zV ?_ | refine zZ ?_
  first | ((first | refine zW ?_ | refine zQ ?_); refine zO rfl (Rd.ldC rfl (tyrow rfl) rfl) ?_) | refine zU ?_ | refine zV ?_ | refine zZ ?_
  first | ((first | refine zW ?_ | refine zQ ?_); refine zO rfl (Rd.fA rfl) ?_) | refine zU ?_ | refine zV ?_ | refine zZ ?_
  first | ((first | refine zW ?_ | refine zQ ?_); refine zO rfl (Rd.ldC rfl (tyrow rfl) rfl) ?_) | refine zU ?_ | refine zV ?_ | refine zZ ?_
  first | refine XOA.wanted rfl rfl ?_ | refine XOA.wq rfl rfl ?_
  refine XOA.wr0 rfl (WrA.cE (slongs_a σ _ _ cells cells h2 h4) rfl) ?_
  rintro _ _ _ ⟨_, ⟨rfl, rfl, rfl⟩, rfl⟩
  refine XOA.cl ?_
  rw [show decide (cells = cells) = true from decide_eq_true rfl]
  refine zO rfl (by first | exact Rd.pT rfl | exact Rd.pF rfl | exact Rd.pP rfl) ?_
  refine zO rfl Rd.asg ?_; refine zN ?_; refine zT ?_
  refine XA.ret ?_
  refine bodyA.ret (ResA.one rfl rfl) (Ent.nil _) ⟨?_, rfl, rfl⟩
  first | rfl | (simp; done) | exact congrArg Value.bool (decide_eq_true rfl)
theorem rows_ints {σ : PH} : ∀ (rows : List (List Value)) (xs : List Int), Rows_ 1 (rInt .i64) σ rows xs → rows.flatten = ints xs
  | [], xs, h => by
    have := h.len
    rw [List.length_nil] at this
    rw [List.eq_nil_of_length_eq_zero this.symm]; rfl
  | r :: rows, xs, h => by
    have hl := h.len
    cases xs with
    | nil => simp at hl
    | cons x xs =>
      have h0 := h.row 0 r x rfl rfl
      have ih := rows_ints rows xs ⟨by simpa using hl, fun q hq => h.size q (by simp [hq]), fun k q y a b => h.row (k + 1) q y (by simpa using a) (by simpa using b)⟩
      rw [List.flatten_cons, ih, h0.1]; rfl
theorem pints_of {σ : PH} {v : Value} {xs : List Int} (h : PSl 1 (rInt .i64) σ v xs) : PInts σ v xs := by
  obtain ⟨p, c, rfl, h1, h2⟩ := h.shape
  obtain ⟨rows, h3, -, h4, h5, h6⟩ := psl_rows h
  refine ⟨p, c, rfl, h1, h5, fun h0 => ?_⟩
  obtain ⟨g, o, e, r⟩ := h6 h0
  rw [rows_ints rows xs h3] at r
  exact ⟨g, o, e, r⟩
end Go.Proofs.Ytmnmcjdgnpgchaa

namespace Go.Proofs.Ytmnmcjdgnpgchaa
open Go X
set_option maxHeartbeats 2000000
end Go.Proofs.Ytmnmcjdgnpgchaa

namespace Go.Proofs.Ytmnmcjdgnpgchaa
open Go X
set_option maxHeartbeats 2000000
set_option maxRecDepth 20000 in
theorem mwakes_law (σ : PH) (cs : List Value) (p : Pr) (iv : Value) (inp : List Int) (n more : Int) (hp : PrAt σ cs p) (hi : PInts σ iv inp) :
    CallsA Try.prog 3 #[.agg cs.toArray, iv, i64 n, i64 more] σ [] (RetA fun r σ' _ => r = .bool true ∧ σ.sub σ') := by
  have hp0 := hp
  obtain ⟨vs, bs, rfl, hv, hb⟩ := hp
  obtain ⟨pv, cv, rfl, -, -⟩ := hv.shape
  obtain ⟨pb0, cb, rfl, -, -⟩ := hb.shape
  obtain ⟨pi0, ci0, rfl, hil, him⟩ := hi.shape
  simp only [maxLen] at him
  have hG0 : Good DiskS.new s0 := Good.new
  refine enterA4 Try.func3 rfl rfl rfl ?_
  refine zS ?_; refine zR ?_
  refine XOA.wr0 rfl WrA.bx ?_
  rintro _ _ _ ⟨g4, rfl, rfl, rfl⟩
  refine zO rfl Rd.asg ?_; refine zN ?_; refine zT ?_; refine zS ?_; refine zS ?_; refine zR ?_
  refine XOA.wr0 rfl (WrA.cE (machbegun_a σ) rfl) ?_
  rintro _ σ1 _ ⟨_, ⟨rfl, hs1, rfl⟩, rfl⟩
  refine XOA.cl ?_
  have hp1 := hp0.mono hs1
  have hi1 := hi.mono hs1
  refine zO rfl (by first | exact Rd.notp rfl | exact Rd.not rfl) ?_
  refine zN ?_; refine zT ?_
  refine XA.condF rfl rfl ?_
  refine XA.skip ?_
  refine zT ?_; refine zS ?_; refine zS ?_; refine zR ?_; refine zO rfl (Rd.ldA rfl) ?_
  refine XOA.wr0 rfl (WrA.cE (great_a σ1 _ p hp1) rfl) ?_
  rintro _ _ _ ⟨_, ⟨b, rfl, hsm, rfl, rfl⟩, rfl⟩
  refine XOA.cl ?_
  cases b with
  | true =>
    refine zO rfl Rd.mv ?_
    first | ((first | refine zW ?_ | refine zQ ?_); refine zO rfl Rd.mv ?_) | refine zU ?_ | refine zV ?_ | refine zZ ?_
    first | ((first | refine zW ?_ | refine zQ ?_); refine zO rfl (Rd.lenSlice (tyrow rfl) rfl rfl) ?_) | refine zU ?_ | refine zV ?_ | refine zZ ?_
    first | ((first | refine zW ?_ | refine zQ ?_); refine zO rfl (Rd.gtr rfl rfl) ?_) | refine zU ?_ | refine zV ?_ | refine zZ ?_
    refine zO rfl (by first | exact Rd.pT rfl | exact Rd.pF rfl | exact Rd.pP rfl) ?_
    refine zO rfl Rd.mv ?_
    first | ((first | refine zW ?_ | refine zQ ?_); refine zO rfl Rd.mv ?_) | refine zU ?_ | refine zV ?_ | refine zZ ?_
    first | ((first | refine zW ?_ | refine zQ ?_); refine zO rfl (Rd.gtr rfl rfl) ?_) | refine zU ?_ | refine zV ?_ | refine zZ ?_
    refine zO rfl (by first | exact Rd.pT rfl | exact Rd.pF rfl | exact Rd.pP rfl) ?_
    refine zO rfl Rd.mv ?_
    first | ((first | refine zW ?_ | refine zQ ?_); refine zO rfl Rd.mv ?_) | refine zU ?_ | refine zV ?_ | refine zZ ?_
    first | ((first | refine zW ?_ | refine zQ ?_); refine zO rfl (Rd.gtr rfl rfl) ?_) | refine zU ?_ | refine zV ?_ | refine zZ ?_
    refine zO rfl (by first | exact Rd.pT rfl | exact Rd.pF rfl | exact Rd.pP rfl) ?_
    refine zN ?_; refine zT ?_
    refine XA.condT rfl rfl ?_
    refine zS ?_; refine zR ?_; refine zO rfl Rd.asg ?_; refine zN ?_; refine zT ?_
    refine XA.ret ?_
    refine DA.thn_ret ?_
    exact bodyA.ret (ResA.one rfl rfl) (Ent.nil _) ⟨rfl, hs1⟩
  | false =>
    by_cases a0 : 100 < inp.length
    · skip
      refine zO rfl Rd.mv ?_
      first | ((first | refine zW ?_ | refine zQ ?_); refine zO rfl Rd.mv ?_) | refine zU ?_ | refine zV ?_ | refine zZ ?_
      first | ((first | refine zW ?_ | refine zQ ?_); refine zO rfl (Rd.lenSlice (tyrow rfl) rfl rfl) ?_) | refine zU ?_ | refine zV ?_ | refine zZ ?_
      first | ((first | refine zW ?_ | refine zQ ?_); refine zO rfl (Rd.gtr rfl rfl) ?_) | refine zU ?_ | refine zV ?_ | refine zZ ?_
      refine zO rfl (by first | exact Rd.pT rfl | exact Rd.pF rfl | exact Rd.pP rfl) ?_
      refine zO rfl Rd.mv ?_
      first | ((first | refine zW ?_ | refine zQ ?_); refine zO rfl Rd.mv ?_) | refine zU ?_ | refine zV ?_ | refine zZ ?_
      first | ((first | refine zW ?_ | refine zQ ?_); refine zO rfl (Rd.gtr rfl rfl) ?_) | refine zU ?_ | refine zV ?_ | refine zZ ?_
      refine zO rfl (by first | exact Rd.pT rfl | exact Rd.pF rfl | exact Rd.pP rfl) ?_
      refine zO rfl Rd.mv ?_
      first | ((first | refine zW ?_ | refine zQ ?_); refine zO rfl Rd.mv ?_) | refine zU ?_ | refine zV ?_ | refine zZ ?_
      first | ((first | refine zW ?_ | refine zQ ?_); refine zO rfl (Rd.gtr rfl rfl) ?_) | refine zU ?_ | refine zV ?_ | refine zZ ?_
      refine zO rfl (by first | exact Rd.pT rfl | exact Rd.pF rfl | exact Rd.pP rfl) ?_
      refine zN ?_; refine zT ?_
      refine XA.condT rfl (by first | rfl | exact decide_eq_true (by omega)) ?_
      refine zS ?_; refine zR ?_; refine zO rfl Rd.asg ?_; refine zN ?_; refine zT ?_
      refine XA.ret ?_
      refine DA.thn_ret ?_
      exact bodyA.ret (ResA.one rfl rfl) (Ent.nil _) ⟨rfl, hs1⟩
    by_cases a1 : 1500 < n
    · skip
      refine zO rfl Rd.mv ?_
      first | ((first | refine zW ?_ | refine zQ ?_); refine zO rfl Rd.mv ?_) | refine zU ?_ | refine zV ?_ | refine zZ ?_
      first | ((first | refine zW ?_ | refine zQ ?_); refine zO rfl (Rd.lenSlice (tyrow rfl) rfl rfl) ?_) | refine zU ?_ | refine zV ?_ | refine zZ ?_
      first | ((first | refine zW ?_ | refine zQ ?_); refine zO rfl (Rd.gtr rfl rfl) ?_) | refine zU ?_ | refine zV ?_ | refine zZ ?_
      refine zO rfl (by first | exact Rd.pT rfl | exact Rd.pF rfl | exact Rd.pP rfl) ?_
      refine zO rfl Rd.mv ?_
      first | ((first | refine zW ?_ | refine zQ ?_); refine zO rfl Rd.mv ?_) | refine zU ?_ | refine zV ?_ | refine zZ ?_
      first | ((first | refine zW ?_ | refine zQ ?_); refine zO rfl (Rd.gtr rfl rfl) ?_) | refine zU ?_ | refine zV ?_ | refine zZ ?_
      refine zO rfl (by first | exact Rd.pT rfl | exact Rd.pF rfl | exact Rd.pP rfl) ?_
      refine zO rfl Rd.mv ?_
      first | ((first | refine zW ?_ | refine zQ ?_); refine zO rfl Rd.mv ?_) | refine zU ?_ | refine zV ?_ | refine zZ ?_
      first | ((first | refine zW ?_ | refine zQ ?_); refine zO rfl (Rd.gtr rfl rfl) ?_) | refine zU ?_ | refine zV ?_ | refine zZ ?_
      refine zO rfl (by first | exact Rd.pT rfl | exact Rd.pF rfl | exact Rd.pP rfl) ?_
      refine zN ?_; refine zT ?_
      refine XA.condT rfl (by first | rfl | exact decide_eq_true (by omega)) ?_
      refine zS ?_; refine zR ?_; refine zO rfl Rd.asg ?_; refine zN ?_; refine zT ?_
      refine XA.ret ?_
      refine DA.thn_ret ?_
      exact bodyA.ret (ResA.one rfl rfl) (Ent.nil _) ⟨rfl, hs1⟩
    by_cases a2 : 1500 < more
    · skip
      refine zO rfl Rd.mv ?_
      first | ((first | refine zW ?_ | refine zQ ?_); refine zO rfl Rd.mv ?_) | refine zU ?_ | refine zV ?_ | refine zZ ?_
      first | ((first | refine zW ?_ | refine zQ ?_); refine zO rfl (Rd.lenSlice (tyrow rfl) rfl rfl) ?_) | refine zU ?_ | refine zV ?_ | refine zZ ?_
      first | ((first | refine zW ?_ | refine zQ ?_); refine zO rfl (Rd.gtr rfl rfl) ?_) | refine zU ?_ | refine zV ?_ | refine zZ ?_
      refine zO rfl (by first | exact Rd.pT rfl | exact Rd.pF rfl | exact Rd.pP rfl) ?_
      refine zO rfl Rd.mv ?_
      first | ((first | refine zW ?_ | refine zQ ?_); refine zO rfl Rd.mv ?_) | refine zU ?_ | refine zV ?_ | refine zZ ?_
      first | ((first | refine zW ?_ | refine zQ ?_); refine zO rfl (Rd.gtr rfl rfl) ?_) | refine zU ?_ | refine zV ?_ | refine zZ ?_
      refine zO rfl (by first | exact Rd.pT rfl | exact Rd.pF rfl | exact Rd.pP rfl) ?_
      refine zO rfl Rd.mv ?_
      first | ((first | refine zW ?_ | refine zQ ?_); refine zO rfl Rd.mv ?_) | refine zU ?_ | refine zV ?_ | refine zZ ?_
      first | ((first | refine zW ?_ | refine zQ ?_); refine zO rfl (Rd.gtr rfl rfl) ?_) | refine zU ?_ | refine zV ?_ | refine zZ ?_
      refine zO rfl (by first | exact Rd.pT rfl | exact Rd.pF rfl | exact Rd.pP rfl) ?_
      refine zN ?_; refine zT ?_
      refine XA.condT rfl (by first | rfl | exact decide_eq_true (by omega)) ?_
      refine zS ?_; refine zR ?_; refine zO rfl Rd.asg ?_; refine zN ?_; refine zT ?_
      refine XA.ret ?_
      refine DA.thn_ret ?_
      exact bodyA.ret (ResA.one rfl rfl) (Ent.nil _) ⟨rfl, hs1⟩
    have hsm := hsm rfl
    have h900 := hsm.2.2
    have hcdl := codeOf_len p
    refine zO rfl Rd.mv ?_
    first | ((first | refine zW ?_ | refine zQ ?_); refine zO rfl Rd.mv ?_) | refine zU ?_ | refine zV ?_ | refine zZ ?_
    first | ((first | refine zW ?_ | refine zQ ?_); refine zO rfl (Rd.lenSlice (tyrow rfl) rfl rfl) ?_) | refine zU ?_ | refine zV ?_ | refine zZ ?_
    first | ((first | refine zW ?_ | refine zQ ?_); refine zO rfl (Rd.gtr rfl rfl) ?_) | refine zU ?_ | refine zV ?_ | refine zZ ?_
    refine zO rfl (by first | exact Rd.pT rfl | exact Rd.pF rfl | exact Rd.pP rfl) ?_
    refine zO rfl Rd.mv ?_
    first | ((first | refine zW ?_ | refine zQ ?_); refine zO rfl Rd.mv ?_) | refine zU ?_ | refine zV ?_ | refine zZ ?_
    first | ((first | refine zW ?_ | refine zQ ?_); refine zO rfl (Rd.gtr rfl rfl) ?_) | refine zU ?_ | refine zV ?_ | refine zZ ?_
    refine zO rfl (by first | exact Rd.pT rfl | exact Rd.pF rfl | exact Rd.pP rfl) ?_
    refine zO rfl Rd.mv ?_
    first | ((first | refine zW ?_ | refine zQ ?_); refine zO rfl Rd.mv ?_) | refine zU ?_ | refine zV ?_ | refine zZ ?_
    first | ((first | refine zW ?_ | refine zQ ?_); refine zO rfl (Rd.gtr rfl rfl) ?_) | refine zU ?_ | refine zV ?_ | refine zZ ?_
    refine zO rfl (by first | exact Rd.pT rfl | exact Rd.pF rfl | exact Rd.pP rfl) ?_
    refine zN ?_; refine zT ?_
    refine XA.condF rfl (by first | rfl | exact decide_eq_false (by omega)) ?_
    refine XA.skip ?_
    refine zT ?_; refine zS ?_; refine zR ?_; refine zO rfl (Rd.ldA rfl) ?_
    refine XOA.wr0 rfl (WrA.cE (make_a σ1 _ p hp1 (by omega)) rfl) ?_
    rintro _ σ2 _ ⟨_, ⟨sl, rfl, hsl, hs2, rfl⟩, rfl⟩
    refine XOA.cl ?_
    by_cases hc : checkP p = 0
    · rw [if_pos hc] at hsl
      rw [hc]
      obtain ⟨q, cq, rfl, -, -⟩ := hsl.shape
      obtain ⟨hz, hvl'⟩ := check_small hc
      obtain ⟨-, -, hv1, h48⟩ := check_valid hc
      have hsn : (0 : Int) ≤ sizes p.vars := sizes_nonneg hv1
      have hm0 := mach0 hc inp (by omega) (by omega)
      obtain ⟨B0, hB0⟩ : ∃ B0, B0 = be0 (sizes p.vars).toNat := ⟨_, rfl⟩
      rw [← hB0] at hm0
      have hB0o : B0.out = [] ∧ B0.wrong = false := by rw [hB0]; exact ⟨rfl, rfl⟩
      obtain ⟨nc, hnc⟩ : ∃ nc : Nat, sizes p.vars = (nc : Int) := ⟨(sizes p.vars).toNat, by omega⟩
      refine zO rfl Rd.mv ?_
      refine zO rfl (Rd.extract rfl rfl) ?_
      refine zO rfl (Rd.extract rfl rfl) ?_
      refine zO rfl Rd.asg ?_; refine zO rfl Rd.asg ?_; refine zN ?_; refine zT ?_; refine zS ?_; refine zS ?_; refine zR ?_; refine zO rfl Rd.mv ?_
      refine zO rfl (Rd.neq rfl rfl) ?_
      refine zN ?_; refine zT ?_
      refine XA.condF rfl rfl ?_
      refine XA.skip ?_
      refine zT ?_; refine zS ?_; refine zR ?_
      refine XOA.wr0 rfl (WrA.cE (new_a σ2) rfl) ?_
      rintro _ _ _ ⟨_, ⟨db, rfl, rfl, rfl⟩, rfl⟩
      refine XOA.cl ?_
      refine XOA.wr0 rfl (WrA.cE (open_a σ2 db DiskS.new hG0.dok hG0.wlen') rfl) ?_
      rintro _ _ _ ⟨_, ⟨b0, rfl, rfl, rfl⟩, rfl⟩
      refine XOA.cl ?_
      rw [hG0.open]
      refine XOA.wr0 rfl (WrA.cE (new_w σ2 b0 db DiskS.new s0 hG0) rfl) ?_
      rintro _ _ _ ⟨_, ⟨mb, rfl, rfl, rfl⟩, rfl⟩
      refine XOA.cl ?_
      rw [pages0]
      refine zO rfl Rd.asg ?_; refine zN ?_; refine zT ?_; refine zS ?_; refine zR ?_
      refine zO rfl (Rd.bl (fun _ _ => tyrow) rfl rfl rfl) ?_
      refine XOA.wr0 rfl WrA.bx ?_
      rintro _ _ _ ⟨g47, rfl, rfl, rfl⟩
      refine zO rfl Rd.asg ?_; refine zN ?_; refine zT ?_; refine zS ?_; refine zR ?_; refine zO rfl Rd.mv ?_; refine zO rfl Rd.mv ?_; refine zO rfl Rd.mv ?_; refine zO rfl Rd.mv ?_
      refine XOA.ent (Ent.selNil (e := 2) (size := 1) (Ent.refl _)) ?_
      refine XOA.ent (Ent.foldC (Θ := [blk g47 _ 40, lst 2 1 (.slice none 0 0) 0 []]) (by (repeat (first | exact Ent.all _ | (apply Ent.take; focus (first | ((repeat (first | with_reducible exact Sel.head | apply Sel.tail)); done) | ((repeat (first | exact Sel.head | apply Sel.tail)); done))) | apply Ent.takeNil | apply Ent.takeEmp)); (first | done | fail)) (Prin.mk (out := B0.out) (wrong := B0.wrong) (by rw [hB0o.1]; rfl) (by rw [hB0o.2]; rfl) (by rw [hB0o.1]; rfl)) (Ent.refl _)) ?_
      refine XOA.wr0 rfl (WrA.cE (newm_m σ2 mb g47 q (codeOf p).length cq _ inp (hi1.mono hs2) (by omega)) rfl) ?_
      rintro _ σ3 _ ⟨_, ⟨g, pi, ci, rfl, hs3, hi3, rfl⟩, rfl⟩
      refine XOA.cl ?_
      refine zO rfl Rd.asg ?_; refine zN ?_; refine zT ?_; refine zS ?_; refine zR ?_
      refine XOA.wr0 rfl (WrA.cE (new_a σ3) rfl) ?_
      rintro _ _ _ ⟨_, ⟨db', rfl, rfl, rfl⟩, rfl⟩
      refine XOA.cl ?_
      refine XOA.wr0 rfl (WrA.cE (open_a σ3 db' DiskS.new hG0.dok hG0.wlen') rfl) ?_
      rintro _ _ _ ⟨_, ⟨b0', rfl, rfl, rfl⟩, rfl⟩
      refine XOA.cl ?_
      rw [hG0.open]
      refine XOA.wr0 rfl (WrA.cE (new_w σ3 b0' db' DiskS.new s0 hG0) rfl) ?_
      rintro _ _ _ ⟨_, ⟨mb', rfl, rfl, rfl⟩, rfl⟩
      refine XOA.cl ?_
      rw [pages0]
      refine zO rfl Rd.mv ?_; refine zO rfl Rd.mv ?_
      refine zO rfl (Rd.bl (fun _ _ => tyrow) rfl rfl rfl) ?_
      refine XOA.wr0 rfl WrA.bx ?_
      rintro _ _ _ ⟨g59, rfl, rfl, rfl⟩
      refine XOA.ent (Ent.selNil (e := 2) (size := 1) (Ent.refl _)) ?_
      refine XOA.ent (Ent.foldC (Θ := [blk g59 _ 40, lst 2 1 (.slice none 0 0) 0 []]) (by (repeat (first | exact Ent.all _ | (apply Ent.take; focus (first | ((repeat (first | with_reducible exact Sel.head | apply Sel.tail)); done) | ((repeat (first | exact Sel.head | apply Sel.tail)); done))) | apply Ent.takeNil | apply Ent.takeEmp)); (first | done | fail)) (Prin.mk (out := B0.out) (wrong := B0.wrong) (by rw [hB0o.1]; rfl) (by rw [hB0o.2]; rfl) (by rw [hB0o.1]; rfl)) (Ent.refl _)) ?_
      refine XOA.wr0 rfl (WrA.cE (newm_m σ3 mb' g59 q (codeOf p).length cq _ inp (hi1.mono (hs2.trans hs3)) (by omega)) rfl) ?_
      rintro _ σ4 _ ⟨_, ⟨g', pi', ci', rfl, hs4, hi4, rfl⟩, rfl⟩
      refine XOA.cl ?_
      have hsl4 := hsl.mono (hs3.trans hs4) (fun _ _ h => h)
      have hi3 := hi3.mono hs4
      have hi14 := hi1.mono ((hs2.trans hs3).trans hs4)
      have hp4 := hp1.mono ((hs2.trans hs3).trans hs4)
      refine zO rfl Rd.asg ?_; refine zN ?_; refine zT ?_; refine zS ?_; refine zS ?_; refine zR ?_; refine zO rfl Rd.asg ?_; refine zN ?_; refine zT ?_
      refine XA.block ?_
      refine XA.gen [(1, _), (2, _), (3, _), (4, _), (8, _), (9, _), (11, _), (12, _), (13, _), (14, _), (15, _)] ⟨(by with_reducible (conv => lhs; whnf)), (by with_reducible (conv => lhs; whnf)), (by with_reducible (conv => lhs; whnf)), (by with_reducible (conv => lhs; whnf)), (by with_reducible (conv => lhs; whnf)), (by with_reducible (conv => lhs; whnf)), (by with_reducible (conv => lhs; whnf)), (by with_reducible (conv => lhs; whnf)), (by with_reducible (conv => lhs; whnf)), (by with_reducible (conv => lhs; whnf)), (by with_reducible (conv => lhs; whnf)), trivial⟩ (fun δ => ?_)
      dsimp only [List.foldl]
      refine XA.loop [(15, 15), (61, 69)] (fun x : Nat × Be => [(15, i64 x.1)]) (fun x σ' Γ' => σ4.sub σ' ∧ x.1 ≤ 1500 ∧ ∃ (d : DiskS) (s : StS) (d' : DiskS) (s' : StS) (M : Me), s.gen ≤ x.1 ∧ s'.gen ≤ x.1 ∧ MachOk p inp M x.2 x.1 ∧ Γ' = [blk g4 [.slice pv p.vars.length cv, .slice pb0 p.body.length cb] 25, blk g [ptr mb, .slice q (codeOf p).length cq, .slice pi inp.length ci, ptr g47, i64 0, .bool false] 64, Wld mb b0 db d s M, Prin g47 x.2.out x.2.wrong, blk g' [ptr mb', .slice q (codeOf p).length cq, .slice pi' inp.length ci', ptr g59, i64 0, .bool false] 64, Wld mb' b0' db' d' s' M, Prin g59 x.2.out x.2.wrong]) (fun x => 1500 - x.1) (0, B0) (by exact ⟨rfl, trivial⟩) (Δ0 := _) ?_ (⟨.refl _, Nat.zero_le _, DiskS.new, s0, DiskS.new, s0, M0, Int.le_refl _, Int.le_refl _, hm0, rfl⟩) ?_
      · exact zE
      rintro ⟨k, b⟩ δ σ5 _ ⟨hs5, hk, d, s, d', s', M, hg, hg', hM, rfl⟩
      dsimp only [ovr, List.foldl]
      have hk : k ≤ 1500 := hk
      simp only at hg hg' hM
      have hany := fun σ (h : σ4.sub σ) => any_m σ g mb b0 db g47 q pi cq ci inp d s M b p k (hsl4.mono h (fun _ _ h => h)) (hi3.mono h) (by omega) hM (by omega)
      have hany' := fun σ (h : σ4.sub σ) => any_m σ g' mb' b0' db' g59 q pi' cq ci' inp d' s' M b p k (hsl4.mono h (fun _ _ h => h)) (hi4.mono h) (by omega) hM (by omega)
      have hM2 := hM.next (by omega) false
      refine zS ?_; refine zS ?_; refine zR ?_; refine zO rfl Rd.mv ?_; refine zO rfl Rd.mv ?_; refine zO rfl (Rd.lss rfl rfl) ?_; refine zN ?_; refine zT ?_
      refine XA.condp rfl (fun hlt => ?_) (fun hlt => ?_)
      · refine XA.skip ?_
        refine zT ?_; refine zS ?_
        refine XA.block ?_
        refine zS ?_; refine zR ?_; refine zO rfl Rd.mv ?_
        refine XOA.wr0 rfl (WrA.cE (hany σ5 hs5) rfl) ?_
        rintro _ σ6 _ ⟨_, ⟨d2, s2, rfl, hg2, -, -, -, hs6, rfl⟩, rfl⟩
        refine XOA.cl ?_
        refine zN ?_; refine zT ?_; refine zR ?_; refine zO rfl Rd.mv ?_
        refine XOA.wr0 rfl (WrA.cE (hany' σ6 (hs5.trans hs6)) rfl) ?_
        rintro _ σ7 _ ⟨_, ⟨d3, s3, rfl, hg3, -, -, -, hs7, rfl⟩, rfl⟩
        refine XOA.cl ?_
        refine zN ?_
        refine DA.inb_normal ?_
        refine zT ?_; refine zR ?_; refine zO rfl Rd.mv ?_
        refine zO rfl (by first | exact Rd.adi rfl rfl | exact Rd.add rfl rfl) ?_
        refine zO rfl Rd.asg ?_; refine zN ?_; refine zT ?_
        refine ⟨(Keep.upd (Keep.upd (Keep.upd (Keep.updO (Keep.upd (Keep.updO (Keep.upd (Keep.upd (Keep.upd (Keep.upd (Keep.upd (Keep.hav (Keep.hav (Keep.refl _ _) rfl) rfl) rfl) rfl) rfl) rfl) rfl) rfl) rfl) rfl) rfl) rfl) rfl), (k + 1, nextB (codeOf p) inp false b), _, (by (repeat (first | exact trivial | refine ⟨rfl, ?_⟩ | refine ⟨Eq.trans rfl (congrArg Value.bool hmat.symm), ?_⟩)); (first | done | fail)), ?_, ⟨(hs5.trans hs6).trans hs7, by show k + 1 ≤ 1500; omega, d2, s2, d3, s3, _, by show s2.gen ≤ ((k + 1 : Nat) : Int); omega, by show s3.gen ≤ ((k + 1 : Nat) : Int); omega, hM2, rfl⟩, (by simp only; omega)⟩
        · exact zE
      refine XA.exit ?_
      refine DA.thn_exit ?_
      refine DA.thn_exit ?_
      refine DA.inb_same ?_
      refine zT ?_; refine zS ?_; refine zR ?_; refine zO rfl Rd.mv ?_; refine zO rfl Rd.mv ?_; refine zO rfl Rd.mv ?_; refine zO rfl Rd.mv ?_
      refine XOA.wr0 rfl (WrA.cE (newm_m σ5 mb g47 q (codeOf p).length cq _ inp (hi14.mono hs5) (by omega)) rfl) ?_
      rintro _ σ6 _ ⟨_, ⟨gz, piz, ciz, rfl, hs6, hiz, rfl⟩, rfl⟩
      refine XOA.cl ?_
      refine zO rfl Rd.asg ?_; refine zN ?_; refine zT ?_; refine zS ?_; refine zS ?_; refine zR ?_; refine zO rfl Rd.asg ?_; refine zN ?_; refine zT ?_
      refine XA.block ?_
      have hk0 := hk
      refine XA.gen [(3, _), (4, _), (8, _), (14, _), (16, _), (17, _)] ⟨(by with_reducible (conv => lhs; whnf)), (by with_reducible (conv => lhs; whnf)), (by with_reducible (conv => lhs; whnf)), (by with_reducible (conv => lhs; whnf)), (by with_reducible (conv => lhs; whnf)), (by with_reducible (conv => lhs; whnf)), trivial⟩ (fun δ => ?_)
      dsimp only [List.foldl]
      refine XA.loop [(8, 8), (17, 17), (75, 84)] (fun x : Nat × Be => [(17, i64 x.1)]) (fun x σ' Γ' => σ6.sub σ' ∧ x.1 ≤ 1500 ∧ ∃ (d : DiskS) (s : StS) (d' : DiskS) (s' : StS) (M : Me), s.gen ≤ (x.1 + k : Nat) ∧ s'.gen ≤ (x.1 + k : Nat) ∧ MachOk p inp M x.2 (x.1 + k) ∧ Γ' = [blk g4 [.slice pv p.vars.length cv, .slice pb0 p.body.length cb] 25, blk gz [ptr mb, .slice q (codeOf p).length cq, .slice piz inp.length ciz, ptr g47, i64 0, .bool false] 64, Wld mb b0 db d s M, Prin g47 x.2.out x.2.wrong, blk g' [ptr mb', .slice q (codeOf p).length cq, .slice pi' inp.length ci', ptr g59, i64 0, .bool false] 64, Wld mb' b0' db' d' s' M, Prin g59 x.2.out x.2.wrong]) (fun x => 1500 - x.1) (0, b) (by exact ⟨rfl, trivial⟩) (Δ0 := _) ?_ (⟨.refl _, Nat.zero_le _, d, s, d', s', M, by simpa using hg, by simpa using hg', by simpa using hM, rfl⟩) ?_
      · exact zE
      rintro ⟨j, b1⟩ δ2 σ7 _ ⟨hs7, hj, e, t, e', t', K, hge, hge', hK, rfl⟩
      dsimp only [ovr, List.foldl]
      have hj : j ≤ 1500 := hj
      simp only at hge hge' hK
      have hany := fun σ (h : σ6.sub σ) => any_m σ gz mb b0 db g47 q piz cq ciz inp e t K b1 p (j + k) (hsl4.mono ((hs5.trans hs6).trans h) (fun _ _ h => h)) (hiz.mono h) (by omega) hK (by omega)
      have hany' := fun σ (h : σ6.sub σ) => any_m σ g' mb' b0' db' g59 q pi' cq ci' inp e' t' K b1 p (j + k) (hsl4.mono ((hs5.trans hs6).trans h) (fun _ _ h => h)) (hi4.mono ((hs5.trans hs6).trans h)) (by omega) hK (by omega)
      have hK2 := hK.next (by omega) false
      obtain ⟨tx, htx⟩ : ∃ tx, tx = decide (b1.m.st = 0) := ⟨_, rfl⟩
      rw [← htx] at hany hany'
      have kt : ¬ (tx ≠ tx) := fun h => h rfl
      refine zS ?_; refine zS ?_; refine zR ?_; refine zO rfl Rd.mv ?_; refine zO rfl Rd.mv ?_; refine zO rfl (Rd.lss rfl rfl) ?_; refine zN ?_; refine zT ?_
      refine XA.condp rfl (fun hlt2 => ?_) (fun hlt2 => ?_)
      · refine XA.skip ?_
        refine zT ?_; refine zS ?_
        refine XA.block ?_
        refine zS ?_; refine zR ?_; refine zO rfl Rd.mv ?_
        refine XOA.wr0 rfl (WrA.cE (hany σ7 hs7) rfl) ?_
        rintro _ σ8 _ ⟨_, ⟨d2, s2, rfl, hg2, -, -, -, hs8, rfl⟩, rfl⟩
        refine XOA.cl ?_
        refine zO rfl Rd.mv ?_
        refine XOA.wr0 rfl (WrA.cE (hany' σ8 (hs7.trans hs8)) rfl) ?_
        rintro _ σ9 _ ⟨_, ⟨d3, s3, rfl, hg3, -, -, -, hs9, rfl⟩, rfl⟩
        refine XOA.cl ?_
        refine zO rfl (Rd.neqb (tyrow rfl) rfl rfl rfl) ?_
        refine zN ?_; refine zT ?_
        refine XA.condF rfl (decide_eq_false kt) ?_
        refine XA.skip ?_
        refine DA.inb_normal ?_
        refine zT ?_; refine zR ?_; refine zO rfl Rd.mv ?_
        refine zO rfl (by first | exact Rd.adi rfl rfl | exact Rd.add rfl rfl) ?_
        refine zO rfl Rd.asg ?_; refine zN ?_; refine zT ?_
        refine ⟨(Keep.upd (Keep.upd (Keep.upd (Keep.upd (Keep.updO (Keep.upd (Keep.updO (Keep.upd (Keep.upd (Keep.upd (Keep.upd (Keep.upd (Keep.hav (Keep.hav (Keep.hav (Keep.refl _ _) rfl) rfl) rfl) rfl) rfl) rfl) rfl) rfl) rfl) rfl) rfl) rfl) rfl) rfl) rfl), (j + 1, nextB (codeOf p) inp false b1), _, (by (repeat (first | exact trivial | refine ⟨rfl, ?_⟩ | refine ⟨Eq.trans rfl (congrArg Value.bool hmat.symm), ?_⟩)); (first | done | fail)), ?_, ⟨(hs7.trans hs8).trans hs9, by show j + 1 ≤ 1500; omega, d2, s2, d3, s3, _, by show s2.gen ≤ ((j + 1 + k : Nat) : Int); omega, by show s3.gen ≤ ((j + 1 + k : Nat) : Int); omega, by have := hK2; rw [show j + k + 1 = j + 1 + k by omega] at this; exact this, rfl⟩, (by simp only; omega)⟩
        · exact zE
      refine XA.exit ?_
      refine DA.thn_exit ?_
      refine DA.thn_exit ?_
      refine DA.inb_same ?_
      refine zT ?_; refine zS ?_; refine zR ?_; refine zO rfl (Rd.ldA rfl) ?_; refine zO rfl (Rd.fA rfl) ?_; refine zO rfl (Rd.ldC rfl (tyrow rfl) rfl) ?_; refine zO rfl (Rd.lenSlice (tyrow rfl) rfl rfl) ?_
      have hcells := rcell_a σ7 _ p p.vars.length (hp4.mono ((hs5.trans hs6).trans hs7)) hz hvl'
      rw [show cellOf p.vars p.vars.length = sizes p.vars by rw [cellOf, Int.toNat_natCast, List.take_length], hnc] at hcells
      have hcl0 := hK.cells
      have hol0 := hK.ol
      refine XOA.wr0 rfl (WrA.cE (hcells) rfl) ?_
      rintro _ _ _ ⟨_, ⟨rfl, rfl, rfl⟩, rfl⟩
      refine XOA.cl ?_
      refine zO rfl Rd.asg ?_; refine zN ?_; refine zT ?_; refine zS ?_; refine zR ?_; refine zO rfl Rd.mv ?_; refine zO rfl Rd.mv ?_
      refine XOA.wr0 rfl (WrA.cE (result_m σ7 gz mb b0 db g47 (.slice q (codeOf p).length cq) (.slice piz inp.length ciz) 0 false e t K b1.m b1.out b1.wrong nc hK.sh (by omega) (by omega)) rfl) ?_
      rintro _ σ8 _ ⟨_, ⟨po, co, pcc, ccc, rfl, hvo, hvc, hs8, rfl⟩, rfl⟩
      refine XOA.cl ?_
      refine zO rfl Rd.mv ?_; refine zO rfl Rd.mv ?_
      refine XOA.wr0 rfl (WrA.cE (result_m σ8 g' mb' b0' db' g59 (.slice q (codeOf p).length cq) (.slice pi' inp.length ci') 0 false e' t' K b1.m b1.out b1.wrong nc hK.sh (by omega) (by omega)) rfl) ?_
      rintro _ σ9 _ ⟨_, ⟨po2, co2, pcc2, ccc2, rfl, hvo2, hvc2, hs9, rfl⟩, rfl⟩
      refine XOA.cl ?_
      refine XOA.wr0 rfl (WrA.cE (sresult_a σ9 _ _ _ _ _ b1.out (b1.m.cells.take nc) (hvo.mono hs9) (hvc.mono hs9) hvo2 hvc2) rfl) ?_
      rintro _ _ _ ⟨_, ⟨rfl, rfl, rfl⟩, rfl⟩
      refine XOA.cl ?_
      refine zO rfl Rd.asg ?_; refine zN ?_; refine zT ?_
      refine XA.ret ?_
      exact bodyA.ret (ResA.one rfl rfl) (Ent.nil _) ⟨rfl, (((((((hs1.trans hs2).trans hs3).trans hs4).trans hs5).trans hs6).trans hs7).trans hs8).trans hs9⟩
    · skip
      refine zO rfl Rd.mv ?_
      refine zO rfl (Rd.extract rfl rfl) ?_
      refine zO rfl (Rd.extract rfl rfl) ?_
      refine zO rfl Rd.asg ?_; refine zO rfl Rd.asg ?_; refine zN ?_; refine zT ?_; refine zS ?_; refine zS ?_; refine zR ?_; refine zO rfl Rd.mv ?_
      refine zO rfl (Rd.neq rfl rfl) ?_
      refine zN ?_; refine zT ?_
      refine XA.condT rfl (decide_eq_true hc) ?_
      refine zS ?_; refine zR ?_; refine zO rfl Rd.asg ?_; refine zN ?_; refine zT ?_
      refine XA.ret ?_
      refine DA.thn_ret ?_
      exact bodyA.ret (ResA.one rfl rfl) (Ent.nil _) ⟨rfl, hs1.trans hs2⟩
end Go.Proofs.Ytmnmcjdgnpgchaa

namespace Go.Proofs.Ytmnmcjdgnpgchaa
open Go X Go.ChangeShapes Go.WideShapes Go.ChangeAt Go.RowKit
set_option maxRecDepth 100000 in
theorem machineWakes_lifted (os : Os) (started : os.Started) (H : Type) (enc : TypeId × Value → H) :
    ReturnsInHanded {} Try.checked os 3 .any (Rows.machineWakesSpec.pre6 enc Try.prog Try.f3 Rows.machineWakesRow.domain false) (Rows.machineWakesSpec.post enc Try.prog Try.f3 false true false false) := by
  refine returnsInHanded_of_change (C := Try.checked) Try.own started (by kernel_rfl) Try.func3
    (ChangeSpec.witness6 (enc := enc) (C := Try.checked) false ⟨#[], #[.agg #[.slice none 0 0, .slice none 0 0], .slice none 0 0, .int .i64 0, .int .i64 0], []⟩ 8 (by kernel_rfl) (by kernel_rfl) (by kernel_rfl) (by kernel_rfl)) ?_
  intro W base args ds gs before hval0 hW hcnd _
  have hval : ∀ (j : Nat) t v, Try.f3.params[j]? = some t → args[j]? = some v → Value.okWide Try.prog W .any base t v := hval0
  have hW' := hW
  obtain ⟨p, q, hA0, hV, rfl, hfz, hnd⟩ := hW
  have hA : DataW.TrodAll enc Try.prog W 0 (fun _ => true) true [25, 26, 3, 3] args.toList ds p := hA0
  obtain ⟨v0, v1, v2, v3, d0, d1, d2, d3, p0, p1, p2, p3, rfl, rfl, rfl, h0, h1, h2, h3⟩ := trodAll_four hA
  have hb : Try.prog.underlying 4 = some .bool := by kernel_rfl
  refine post_true (fid := 3) (tb := 4) Try.laidOut (by kernel_rfl) rfl rfl hb ?_ hW' (callsX_true ?_)
  · obtain ⟨rfl, rfl⟩ := trodVars_none hV; rfl
  · obtain ⟨pr0, cs0, rfl, hp0⟩ := Dec.agg dec_pr (tyrow rfl) rfl (hval 0 _ v0 rfl rfl) h0
    obtain ⟨xs1, _, e1, hxs1⟩ := (Dec.slice (tyrow rfl) rfl (tyrow rfl) rfl (by decide) (Dec.int (tyrow rfl) rfl)).one (tyrow rfl) rfl (hval 1 _ v1 rfl rfl) h1 rSl_one
    simp only [List.cons.injEq, and_true] at e1
    subst e1
    obtain ⟨n2, e2, ln2, un2⟩ := (Dec.int (tyrow rfl) rfl).one (tyrow rfl) rfl (hval 2 _ v2 rfl rfl) h2 rInt_one
    simp only [List.cons.injEq, and_true] at e2
    subst e2
    obtain ⟨n3, e3, ln3, un3⟩ := (Dec.int (tyrow rfl) rfl).one (tyrow rfl) rfl (hval 3 _ v3 rfl rfl) h3 rInt_one
    simp only [List.cons.injEq, and_true] at e3
    subst e3
    exact mwakes_law _ cs0 pr0 _ xs1 n2 n3 hp0 (pints_of hxs1)
theorem machineWakes_holds : Rows.MachineWakesSaid :=
  OpenClaim.holds_of_wide 3 Try.f3 rfl rfl rfl rfl rfl rfl rfl ⟨rfl, rfl, rfl, rfl, rfl⟩ rfl rfl rfl rfl rfl (by kernel_rfl) Try.func3 (by kernel_rfl)
    (of_decide_eq_true (by kernel_rfl)) (by unfold Func.isWrapper; first | (rw [if_pos (by decide +kernel)]; kernel_rfl) | (rw [if_neg (by decide +kernel)]; exact ⟨rfl, rfl⟩))
    (fun os started H enc _ => machineWakes_lifted os started H enc)
end Go.Proofs.Ytmnmcjdgnpgchaa

