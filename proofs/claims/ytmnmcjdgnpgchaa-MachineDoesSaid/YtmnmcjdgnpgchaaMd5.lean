/- Part 5 of 6 of what the claim needs: Nb, Jx, Nc, Wb, Wp, Wc, Wd, We. -/
import Derived.Test.YtmnmcjdgnpgchaaMd3
import Derived.Test.YtmnmcjdgnpgchaaMd4
namespace Go.Proofs.Ytmnmcjdgnpgchaa
open Go X
set_option maxHeartbeats 2000000
theorem pints_frz {σ : PH} {p : Option Addr} {n c : Nat} {xs : List Int} (hx : xs.length = n) (h : n ≤ c ∧ c ≤ maxLen ∧ (ints xs).length = n * 1 ∧ (0 < n → ∃ g o, p = some ⟨g, o, none⟩ ∧ PRow σ g o (ints xs))) : PInts σ (.slice p n c) xs := by
  subst hx
  exact ⟨p, c, rfl, h.1, h.2.1, h.2.2.2⟩
/-- What was committed last, as it lies. -/
def KeptAt (σ : PH) (k0 k1 k2 k3 k4 k5 : Value) (m : Mi) : Prop := ∃ p c p' c', k0 = i64 m.next ∧ k1 = .slice p m.stack.length c ∧ k2 = i64 m.rd ∧ k3 = i64 m.outn ∧ k4 = i64 m.st ∧ k5 = .slice p' m.cells.length c' ∧ PInts σ (.slice p m.stack.length c) m.stack.reverse ∧ PInts σ (.slice p' m.cells.length c') m.cells
theorem KeptAt.mono {σ σ' : PH} {k0 k1 k2 k3 k4 k5 : Value} {m : Mi} (h : KeptAt σ k0 k1 k2 k3 k4 k5 m) (hs : σ.sub σ') : KeptAt σ' k0 k1 k2 k3 k4 k5 m := by
  obtain ⟨p, c, p', c', e0, e1, e2, e3, e4, e5, h1, h2⟩ := h
  exact ⟨p, c, p', c', e0, e1, e2, e3, e4, e5, h1.mono hs, h2.mono hs⟩
/-- A being. -/
def BeG (σ : PH) (g : Nat) (cv iv : Value) (b : Be) (Γ : List HP) : Prop := ∃ sp sc pl cl op oc k0 k1 k2 k3 k4 k5, KeptAt σ k0 k1 k2 k3 k4 k5 b.kept ∧ Γ = [blk g [cv, iv, i64 b.m.next, .slice sp b.m.stack.length sc, i64 b.m.rd, i64 b.m.outn, i64 b.m.st, .slice pl b.m.cells.length cl, k0, k1, k2, k3, k4, k5, .slice op b.out.length oc, .bool b.wrong] 129,
  lst 2 1 (.slice sp b.m.stack.length sc) b.m.stack.length (ints b.m.stack.reverse), lst 2 1 (.slice pl b.m.cells.length cl) b.m.cells.length (ints b.m.cells), lst 2 1 (.slice op b.out.length oc) b.out.length (ints b.out)]
theorem BeG.mono {σ σ' : PH} {g : Nat} {cv iv : Value} {b : Be} {Γ : List HP} (h : BeG σ g cv iv b Γ) (hs : σ.sub σ') : BeG σ' g cv iv b Γ := by
  obtain ⟨sp, sc, pl, cl, op, oc, k0, k1, k2, k3, k4, k5, hk, rfl⟩ := h
  exact ⟨sp, sc, pl, cl, op, oc, k0, k1, k2, k3, k4, k5, hk.mono hs, rfl⟩
theorem BeG.of {σ : PH} {g : Nat} {cv iv : Value} {next rd outn : Nat} {stack cells out : List Int} {st : Int} {kept : Mi} {wrong : Bool} {sp pl op : Option Addr} {sc cl oc : Nat} {k0 k1 k2 k3 k4 k5 : Value} (hk : KeptAt σ k0 k1 k2 k3 k4 k5 kept) :
    BeG σ g cv iv ⟨⟨next, stack, rd, outn, st, cells⟩, kept, out, wrong⟩ [blk g [cv, iv, i64 next, .slice sp stack.length sc, i64 rd, i64 outn, i64 st, .slice pl cells.length cl, k0, k1, k2, k3, k4, k5, .slice op out.length oc, .bool wrong] 129,
      lst 2 1 (.slice sp stack.length sc) stack.length (ints stack.reverse), lst 2 1 (.slice pl cells.length cl) cells.length (ints cells), lst 2 1 (.slice op out.length oc) out.length (ints out)] := ⟨sp, sc, pl, cl, op, oc, k0, k1, k2, k3, k4, k5, hk, rfl⟩
theorem step_done (σ : PH) (g : Nat) (cv iv : Value) (b : Be) (keep : Bool) (Γ : List HP) (hB : BeG σ g cv iv b Γ) (hst : b.m.st ≠ 0) :
    CallsA Try.prog 29 #[ptr g, .bool keep] σ Γ (RetA fun v σ' Γ' => v = .bool false ∧ σ = σ' ∧ BeG σ' g cv iv b Γ') := by
  obtain ⟨⟨next, stack, rd, outn, st, cells⟩, kept, out, wrong⟩ := b
  obtain ⟨sp, sc, pl, cl, op, oc, k0, k1, k2, k3, k4, k5, hk, rfl⟩ := hB
  simp only at hst hk ⊢
  refine enterA2 Try.func29 rfl rfl rfl ?_
  refine zS ?_; refine zR ?_; refine zO rfl Rd.asg ?_; refine zN ?_; refine zT ?_; refine zS ?_; refine zS ?_; refine zR ?_; refine zO rfl Rd.mv ?_; refine zO rfl (Rd.nilCheck rfl) ?_; refine zO rfl (Rd.fA rfl) ?_; refine zO rfl (Rd.fA rfl) ?_; refine zO rfl (Rd.ldC rfl (tyrow rfl) rfl) ?_
  refine zO rfl (Rd.neq rfl rfl) ?_
  refine zN ?_; refine zT ?_
  refine XA.condT rfl (decide_eq_true hst) ?_
  refine zS ?_; refine zR ?_; refine zO rfl Rd.asg ?_; refine zN ?_; refine zT ?_
  refine XA.ret ?_
  refine DA.thn_ret ?_
  exact bodyA.ret (ResA.one rfl rfl) zE ⟨rfl, rfl, BeG.of hk⟩
theorem cells_read {cells : List Int} {rest : List Value} {a : Nat} (h : a < cells.length) : (ints cells ++ rest)[a]? = some (i64 (cells.getD a 0)) := by
  rw [List.getElem?_append_left (by simpa [ints] using h)]
  simp [ints, h]
theorem cells_write {cells : List Int} {rest : List Value} {a : Nat} (n : Int) (h : a < cells.length) : splice (ints cells ++ rest) a [i64 n] = ints (cells.set a n) ++ rest := by
  have e := splice_set cells n h
  rw [← e]
  have hl : (ints cells).length = cells.length := by simp [ints]
  simp only [splice, List.length_singleton]
  rw [List.take_append_of_le_length (by omega), List.drop_append_of_le_length (by omega)]
  simp
/-- One instruction: what it wants. -/
structure StepOk (code : List In) (inp : List Int) (b : Be) (x : In) : Prop where
  st : b.m.st = 0
  at_ : code[b.m.next]? = some x
  pop : popA x.op ≤ b.m.stack.length
  cell : cellOk b.m.cells.length x
  goto : (x.op = 13 ∨ x.op = 14) → 0 ≤ x.a
  stack : b.m.stack.length ≤ 900
  cells : b.m.cells.length ≤ 1000
  code : code.length ≤ 1000000
  rd : b.m.rd ≤ 1000000
  outs : b.out.length ≤ 1000000
  outn : b.m.outn ≤ b.out.length
theorem step_b (σ : PH) (g : Nat) (pc : Option Addr) (cc : Nat) (code : List In) (iv : Value) (inp : List Int) (b : Be) (x : In) (keep : Bool) (Γ : List HP) (hc : PSl 4 rIn σ (.slice pc code.length cc) code) (hi : PInts σ iv inp) (hB : BeG σ g (.slice pc code.length cc) iv b Γ) (hk : StepOk code inp b x) :
    CallsA Try.prog 29 #[ptr g, .bool keep] σ Γ (RetA fun v σ' Γ' => v = .bool true ∧ σ.sub σ' ∧ BeG σ' g (.slice pc code.length cc) iv (stepB code inp keep b) Γ') := by
  obtain ⟨pi, ci, rfl, hil, him⟩ := hi.shape
  obtain ⟨⟨next, stack, rd, outn, st, cells⟩, kept, out, wrong⟩ := b
  obtain ⟨sp, sc, pl, cl, op, oc, k0, k1, k2, k3, k4, k5, hkp, rfl⟩ := hB
  obtain ⟨hst, hx, hpop, ⟨hcell, hcell2⟩, hgo, hsl, hcl, hcd, hrd, hol, hon⟩ := hk
  simp only at hst hx hpop hcell hcell2 hsl hcl hcd hrd hol hon hkp
  simp only [maxLen] at him
  subst hst
  obtain ⟨xop, xa, xb, xn⟩ := x
  simp only at hpop hcell hcell2 hgo
  have hlt := (List.getElem?_eq_some_iff.1 hx).1
  obtain ⟨gc, oc', row, rfl, hrx, hrl, hrow⟩ := hc.at hx
  obtain rfl : row = [i64 xop, i64 xa, i64 xb, i64 xn] := hrx
  have hS : stepB code inp keep ⟨⟨next, stack, rd, outn, 0, cells⟩, kept, out, wrong⟩ = doIn inp keep ⟨xop, xa, xb, xn⟩ ⟨⟨next + 1, stack, rd, outn, 0, cells⟩, kept, out, wrong⟩ := by
    rw [stepB, hx]; rfl
  rw [hS]
  clear hS
  dsimp only
  refine enterA2 Try.func29 rfl rfl rfl ?_
  refine zS ?_; refine zR ?_; refine zO rfl Rd.asg ?_; refine zN ?_; refine zT ?_; refine zS ?_; refine zS ?_; refine zR ?_; refine zO rfl Rd.mv ?_; refine zO rfl (Rd.nilCheck rfl) ?_; refine zO rfl (Rd.fA rfl) ?_; refine zO rfl (Rd.fA rfl) ?_; refine zO rfl (Rd.ldC rfl (tyrow rfl) rfl) ?_
  refine zO rfl (Rd.neq rfl rfl) ?_
  refine zN ?_; refine zT ?_
  refine XA.condF rfl rfl ?_
  refine XA.skip ?_
  refine zT ?_; refine zS ?_
  refine XA.draw (by kernel_rfl) _ _ [12] [(0, .pu), (1, .pu), (2, .pu), (3, .rd), (4, .pu), (5, .pu), (6, .pu), (7, .pu), (8, .rd), (9, .pu), (10, .rd), (11, .wr), (12, .wr)] (by kernel_rfl) (PH.sub.refl _) (Ent.sel (R := blk g _ _) (by ((repeat (first | with_reducible exact Sel.head | apply Sel.tail)); (first | done | fail))) (Ent.nil _)) ?_
  refine XPA.pu rfl rfl Gd.free Rd.mv ?_
  refine XPA.pu rfl rfl Gd.free (Rd.nilCheck rfl) ?_
  refine XPA.pu rfl rfl Gd.free (Rd.fA rfl) ?_
  refine XPA.rd rfl rfl Gd.free (Rd.ldC rfl (tyrow rfl) rfl) ?_
  refine XPA.pu rfl rfl Gd.free Rd.mv ?_
  refine XPA.pu rfl rfl Gd.free (Rd.nilCheck rfl) ?_
  refine XPA.pu rfl rfl Gd.free (Rd.fA rfl) ?_
  refine XPA.pu rfl rfl Gd.free (Rd.fA rfl) ?_
  refine XPA.rd rfl rfl Gd.free (Rd.ldC rfl (tyrow rfl) rfl) ?_
  refine XPA.pu rfl rfl Gd.free (Rd.ixS rfl rfl) ?_
  refine XPA.rd rfl rfl Gd.free (Rd.ldA rfl) ?_
  refine XPA.wr0 rfl rfl Gd.free (WrA.alloc (tyrow rfl)) ?_
  rintro _ _ _ ⟨g5, rfl, rfl, rfl⟩
  refine stays ?_
  refine XPA.wrZ0 rfl rfl Gd.free (by kernel_rfl) (WrA.st (tyrow rfl) rfl) ?_
  rintro _ _ _ ⟨rfl, rfl, rfl⟩
  refine XPA.nil ?_
  refine zT ?_; refine zS ?_; refine zR ?_; refine zO rfl Rd.mv ?_; refine zO rfl (Rd.nilCheck rfl) ?_; refine zO rfl (Rd.fA rfl) ?_; refine zO rfl (Rd.fA rfl) ?_; refine zO rfl (Rd.ldC rfl (tyrow rfl) rfl) ?_
  refine zO rfl (by first | exact Rd.adi rfl rfl | exact Rd.add rfl rfl) ?_
  refine zO rfl (Rd.nilCheck rfl) ?_; refine zO rfl (Rd.fA rfl) ?_; refine zO rfl (Rd.fA rfl) ?_
  refine XOA.wr0 rfl (WrA.st (tyrow rfl) rfl) ?_
  rintro _ _ _ ⟨rfl, rfl, rfl⟩
  refine zN ?_; refine zT ?_; refine zS ?_; refine zS ?_; refine zR ?_; refine zO rfl (Rd.fA rfl) ?_; refine zO rfl (Rd.ldC rfl (tyrow rfl) rfl) ?_; refine zN ?_; refine zT ?_
  refine XA.block ?_
  refine zS ?_; refine zR ?_; refine zO rfl (Rd.eql rfl rfl) ?_; refine zO rfl Rd.asg ?_; refine zN ?_; refine zT ?_
  by_cases h1 : xop = 1
  · subst h1
    clear hx
    have hsl1 : stack.length ≤ 1000 := by omega
    rw [show doIn inp keep ⟨1, xa, xb, xn⟩ ⟨⟨next + 1, stack, rd, outn, 0, cells⟩, kept, out, wrong⟩ = ⟨⟨next + 1, xn :: stack, rd, outn, 0, cells⟩, kept, out, wrong⟩ from rfl]
    refine XA.condT rfl rfl ?_
    refine zR ?_; refine zO rfl Rd.mv ?_; refine zO rfl (Rd.fA rfl) ?_; refine zO rfl (Rd.ldC rfl (tyrow rfl) rfl) ?_
    refine XOA.wr0 rfl (WrA.cE (push_b σ g _ _ _ _ _ _ _ _ _ _ _ _ _ _ _ _ _ (_) _ hsl1) rfl) ?_
    rintro _ _ _ ⟨_, ⟨p1, c1, rfl, rfl, rfl⟩, rfl⟩
    refine XOA.cl ?_
    refine zN ?_
    refine DA.inb_normal ?_
    refine zT ?_; refine zS ?_; refine zR ?_; refine zO rfl Rd.asg ?_; refine zN ?_; refine zT ?_
    refine XA.ret ?_
    exact bodyA.ret (ResA.one rfl rfl) zE ⟨rfl, .refl _, BeG.of hkp⟩
  by_cases h2 : xop = 2
  · subst h2
    clear hx
    have hsl1 : stack.length ≤ 1000 := by omega
    obtain ⟨ha0, ha1⟩ := hcell (.inl rfl)
    obtain ⟨a, rfl⟩ : ∃ a : Nat, xa = a := ⟨xa.toNat, by omega⟩
    have ha2 : a < cells.length := by omega
    rw [show doIn inp keep ⟨2, (a : Int), xb, xn⟩ ⟨⟨next + 1, stack, rd, outn, 0, cells⟩, kept, out, wrong⟩ = ⟨⟨next + 1, cells.getD a 0 :: stack, rd, outn, 0, cells⟩, kept, out, wrong⟩ from rfl]
    first | refine XA.opn (R := lst 2 1 (.slice pl cells.length cl) _ _) (by ((repeat (first | with_reducible exact Sel.head | apply Sel.tail)); (first | done | fail))) (lst_openW (by omega)) ?_ | refine XOA.opn (R := lst 2 1 (.slice pl cells.length cl) _ _) (by ((repeat (first | with_reducible exact Sel.head | apply Sel.tail)); (first | done | fail))) (lst_openW (by omega)) ?_ | refine DA.opn (R := lst 2 1 (.slice pl cells.length cl) _ _) (by ((repeat (first | with_reducible exact Sel.head | apply Sel.tail)); (first | done | fail))) (lst_openW (by omega)) ?_
    rintro ⟨g6, rest⟩ ⟨rfl, hcc, hcm, hcx, hcr⟩
    first | refine XA.cl ?_ | refine XOA.cl ?_ | refine DA.cl ?_
    have hv : (ints cells ++ rest)[a]? = some (i64 (cells.getD a 0)) := cells_read ha2
    refine XA.condF rfl rfl ?_
    refine zS ?_; refine zR ?_; refine zO rfl (Rd.eql rfl rfl) ?_; refine zO rfl Rd.asg ?_; refine zN ?_; refine zT ?_
    refine XA.condT rfl rfl ?_
    refine XA.draw (by kernel_rfl) _ _ [10] [(0, .pu), (1, .pu), (2, .pu), (3, .pu), (4, .pu), (5, .rd), (6, .pu), (7, .rd), (8, .pu), (9, .rd), (10, .wr)] (by kernel_rfl) (PH.sub.refl _) (Ent.sel (R := blk g _ _) (by ((repeat (first | with_reducible exact Sel.head | apply Sel.tail)); (first | done | fail))) (Ent.sel (R := blk g5 _ _) (by ((repeat (first | with_reducible exact Sel.head | apply Sel.tail)); (first | done | fail))) (Ent.sel (R := blk g6 _ _) (by ((repeat (first | with_reducible exact Sel.head | apply Sel.tail)); (first | done | fail))) (Ent.nil _)))) ?_
    refine XPA.pu rfl rfl Gd.free Rd.mv ?_
    refine XPA.pu rfl rfl Gd.free Rd.mv ?_
    refine XPA.pu rfl rfl Gd.free (Rd.nilCheck rfl) ?_
    refine XPA.pu rfl rfl Gd.free (Rd.fA rfl) ?_
    refine XPA.pu rfl rfl Gd.free (Rd.fA rfl) ?_
    refine XPA.rd rfl rfl Gd.free (Rd.ldC rfl (tyrow rfl) rfl) ?_
    refine XPA.pu rfl rfl Gd.free (Rd.fA rfl) ?_
    refine XPA.rd rfl rfl Gd.free (Rd.ldC rfl (tyrow rfl) rfl) ?_
    refine XPA.pu rfl rfl Gd.free (Rd.ixS rfl rfl) ?_
    refine XPA.rd rfl rfl Gd.free (Rd.ldC rfl (tyrow rfl) rfl) ?_
    refine XPA.wrZ0 rfl rfl Gd.free (by kernel_rfl) (WrA.cE (push_b σ g _ _ _ _ _ _ _ _ _ _ _ _ _ _ _ _ _ (_) _ hsl1) rfl) ?_
    rintro _ _ _ ⟨_, ⟨p1, c1, rfl, rfl, rfl⟩, rfl⟩
    refine XPA.cl ?_
    refine XPA.nil ?_
    refine DA.inb_normal ?_
    refine zT ?_; refine zS ?_; refine zR ?_; refine zO rfl Rd.asg ?_; refine zN ?_; refine zT ?_
    refine XA.ret ?_
    refine DA.ent (Ent.foldC (Θ := [blk g6 (ints (cells) ++ rest) 2]) (by (repeat (first | exact Ent.all _ | (apply Ent.take; focus (first | ((repeat (first | with_reducible exact Sel.head | apply Sel.tail)); done) | ((repeat (first | exact Sel.head | apply Sel.tail)); done))) | apply Ent.takeNil | apply Ent.takeEmp)); (first | done | fail)) (lst_close (size := 1) (n := cells.length) (c := cl) (rest := rest) (by simp [ints]) hcc hcm (by simpa [ints] using hcr)) (Ent.refl _)) ?_
    exact bodyA.ret (ResA.one rfl rfl) zE ⟨rfl, .refl _, BeG.of hkp⟩
  by_cases h3 : xop = 3
  · subst h3
    clear hx
    obtain ⟨k, s, rfl⟩ : ∃ n s, stack = n :: s := by
      cases stack with
      | nil => simp [popA] at hpop
      | cons n s => exact ⟨n, s, rfl⟩
    have hsl1 : s.length ≤ 1000 := by simp only [List.length_cons] at hsl; omega
    obtain ⟨hb0, hb1, hb2⟩ := hcell2 (by decide)
    obtain ⟨a, rfl⟩ : ∃ a : Nat, xa = a := ⟨xa.toNat, by omega⟩
    by_cases hk0 : k < 0
    · rw [show doIn inp keep ⟨3, (a : Int), xb, xn⟩ ⟨⟨next + 1, k :: s, rd, outn, 0, cells⟩, kept, out, wrong⟩ = ⟨⟨next + 1, s, rd, outn, 13, cells⟩, kept, out, wrong⟩ by simp [doIn, hk0]]
      refine XA.condF rfl rfl ?_
      refine zS ?_; refine zR ?_; refine zO rfl (Rd.eql rfl rfl) ?_; refine zO rfl Rd.asg ?_; refine zN ?_; refine zT ?_
      refine XA.condF rfl rfl ?_
      refine zS ?_; refine zR ?_; refine zO rfl (Rd.eql rfl rfl) ?_; refine zO rfl Rd.asg ?_; refine zN ?_; refine zT ?_
      refine XA.condT rfl rfl ?_
      refine zS ?_; refine zR ?_; refine zO rfl Rd.mv ?_
      refine XOA.wr0 rfl (WrA.cE (pop_b σ g _ _ _ _ _ _ _ _ _ _ _ _ _ _ _ _ _ (s) _ hsl1) rfl) ?_
      rintro _ _ _ ⟨_, ⟨rfl, rfl, rfl⟩, rfl⟩
      refine XOA.cl ?_
      refine zO rfl Rd.asg ?_; refine zN ?_; refine zT ?_; refine zS ?_; refine zR ?_; refine zO rfl Rd.mv ?_; refine zO rfl (Rd.lss rfl rfl) ?_; refine zO rfl Rd.mv ?_
      first | ((first | refine zW ?_ | refine zQ ?_); refine zO rfl Rd.mv ?_) | refine zU ?_ | refine zV ?_ | refine zZ ?_
      first | ((first | refine zW ?_ | refine zQ ?_); refine zO rfl (Rd.fA rfl) ?_) | refine zU ?_ | refine zV ?_ | refine zZ ?_
      first | ((first | refine zW ?_ | refine zQ ?_); refine zO rfl (Rd.ldC rfl (tyrow rfl) rfl) ?_) | refine zU ?_ | refine zV ?_ | refine zZ ?_
      first | ((first | refine zW ?_ | refine zQ ?_); refine zO rfl (Rd.geq rfl rfl) ?_) | refine zU ?_ | refine zV ?_ | refine zZ ?_
      refine zO rfl (by first | exact Rd.pT rfl | exact Rd.pF rfl | exact Rd.pP rfl) ?_
      refine zN ?_; refine zT ?_
      refine XA.condT rfl (by first | rfl | exact decide_eq_true (by omega)) ?_
      refine zR ?_; refine zO rfl Rd.mv ?_; refine zO rfl (Rd.nilCheck rfl) ?_; refine zO rfl (Rd.fA rfl) ?_; refine zO rfl (Rd.fA rfl) ?_
      refine XOA.wr0 rfl (WrA.st (tyrow rfl) rfl) ?_
      rintro _ _ _ ⟨rfl, rfl, rfl⟩
      refine zN ?_
      refine DA.inb_normal ?_
      refine zT ?_; refine zS ?_; refine zR ?_; refine zO rfl Rd.asg ?_; refine zN ?_; refine zT ?_
      refine XA.ret ?_
      exact bodyA.ret (ResA.one rfl rfl) zE ⟨rfl, .refl _, BeG.of hkp⟩
    by_cases hk2 : xb ≤ k
    · rw [show doIn inp keep ⟨3, (a : Int), xb, xn⟩ ⟨⟨next + 1, k :: s, rd, outn, 0, cells⟩, kept, out, wrong⟩ = ⟨⟨next + 1, s, rd, outn, 13, cells⟩, kept, out, wrong⟩ by simp [doIn, hk2]]
      refine XA.condF rfl rfl ?_
      refine zS ?_; refine zR ?_; refine zO rfl (Rd.eql rfl rfl) ?_; refine zO rfl Rd.asg ?_; refine zN ?_; refine zT ?_
      refine XA.condF rfl rfl ?_
      refine zS ?_; refine zR ?_; refine zO rfl (Rd.eql rfl rfl) ?_; refine zO rfl Rd.asg ?_; refine zN ?_; refine zT ?_
      refine XA.condT rfl rfl ?_
      refine zS ?_; refine zR ?_; refine zO rfl Rd.mv ?_
      refine XOA.wr0 rfl (WrA.cE (pop_b σ g _ _ _ _ _ _ _ _ _ _ _ _ _ _ _ _ _ (s) _ hsl1) rfl) ?_
      rintro _ _ _ ⟨_, ⟨rfl, rfl, rfl⟩, rfl⟩
      refine XOA.cl ?_
      refine zO rfl Rd.asg ?_; refine zN ?_; refine zT ?_; refine zS ?_; refine zR ?_; refine zO rfl Rd.mv ?_; refine zO rfl (Rd.lss rfl rfl) ?_; refine zO rfl Rd.mv ?_
      first | ((first | refine zW ?_ | refine zQ ?_); refine zO rfl Rd.mv ?_) | refine zU ?_ | refine zV ?_ | refine zZ ?_
      first | ((first | refine zW ?_ | refine zQ ?_); refine zO rfl (Rd.fA rfl) ?_) | refine zU ?_ | refine zV ?_ | refine zZ ?_
      first | ((first | refine zW ?_ | refine zQ ?_); refine zO rfl (Rd.ldC rfl (tyrow rfl) rfl) ?_) | refine zU ?_ | refine zV ?_ | refine zZ ?_
      first | ((first | refine zW ?_ | refine zQ ?_); refine zO rfl (Rd.geq rfl rfl) ?_) | refine zU ?_ | refine zV ?_ | refine zZ ?_
      refine zO rfl (by first | exact Rd.pT rfl | exact Rd.pF rfl | exact Rd.pP rfl) ?_
      refine zN ?_; refine zT ?_
      refine XA.condT rfl (by first | rfl | exact decide_eq_true (by omega)) ?_
      refine zR ?_; refine zO rfl Rd.mv ?_; refine zO rfl (Rd.nilCheck rfl) ?_; refine zO rfl (Rd.fA rfl) ?_; refine zO rfl (Rd.fA rfl) ?_
      refine XOA.wr0 rfl (WrA.st (tyrow rfl) rfl) ?_
      rintro _ _ _ ⟨rfl, rfl, rfl⟩
      refine zN ?_
      refine DA.inb_normal ?_
      refine zT ?_; refine zS ?_; refine zR ?_; refine zO rfl Rd.asg ?_; refine zN ?_; refine zT ?_
      refine XA.ret ?_
      exact bodyA.ret (ResA.one rfl rfl) zE ⟨rfl, .refl _, BeG.of hkp⟩
    obtain ⟨j, rfl⟩ : ∃ j : Nat, k = j := ⟨k.toNat, by omega⟩
    have ha2 : a + j < cells.length := by omega
    have hk1 : ¬ ((j : Int) < 0 ∨ xb ≤ (j : Int)) := by omega
    rw [show doIn inp keep ⟨3, (a : Int), xb, xn⟩ ⟨⟨next + 1, (j : Int) :: s, rd, outn, 0, cells⟩, kept, out, wrong⟩ = ⟨⟨next + 1, cells.getD (a + j) 0 :: s, rd, outn, 0, cells⟩, kept, out, wrong⟩ by simp [doIn, hk2, show ((a : Int) + (j : Int)).toNat = a + j by omega]]
    refine XA.condF rfl rfl ?_
    refine zS ?_; refine zR ?_; refine zO rfl (Rd.eql rfl rfl) ?_; refine zO rfl Rd.asg ?_; refine zN ?_; refine zT ?_
    refine XA.condF rfl rfl ?_
    refine zS ?_; refine zR ?_; refine zO rfl (Rd.eql rfl rfl) ?_; refine zO rfl Rd.asg ?_; refine zN ?_; refine zT ?_
    refine XA.condT rfl rfl ?_
    refine zS ?_; refine zR ?_; refine zO rfl Rd.mv ?_
    refine XOA.wr0 rfl (WrA.cE (pop_b σ g _ _ _ _ _ _ _ _ _ _ _ _ _ _ _ _ _ (s) _ hsl1) rfl) ?_
    rintro _ _ _ ⟨_, ⟨rfl, rfl, rfl⟩, rfl⟩
    refine XOA.cl ?_
    refine zO rfl Rd.asg ?_; refine zN ?_; refine zT ?_; refine zS ?_; refine zR ?_; refine zO rfl Rd.mv ?_; refine zO rfl (Rd.lss rfl rfl) ?_; refine zO rfl Rd.mv ?_
    first | ((first | refine zW ?_ | refine zQ ?_); refine zO rfl Rd.mv ?_) | refine zU ?_ | refine zV ?_ | refine zZ ?_
    first | ((first | refine zW ?_ | refine zQ ?_); refine zO rfl (Rd.fA rfl) ?_) | refine zU ?_ | refine zV ?_ | refine zZ ?_
    first | ((first | refine zW ?_ | refine zQ ?_); refine zO rfl (Rd.ldC rfl (tyrow rfl) rfl) ?_) | refine zU ?_ | refine zV ?_ | refine zZ ?_
    first | ((first | refine zW ?_ | refine zQ ?_); refine zO rfl (Rd.geq rfl rfl) ?_) | refine zU ?_ | refine zV ?_ | refine zZ ?_
    refine zO rfl (by first | exact Rd.pT rfl | exact Rd.pF rfl | exact Rd.pP rfl) ?_
    refine zN ?_; refine zT ?_
    first | refine XA.opn (R := lst 2 1 (.slice pl cells.length cl) _ _) (by ((repeat (first | with_reducible exact Sel.head | apply Sel.tail)); (first | done | fail))) (lst_openW (by omega)) ?_ | refine XOA.opn (R := lst 2 1 (.slice pl cells.length cl) _ _) (by ((repeat (first | with_reducible exact Sel.head | apply Sel.tail)); (first | done | fail))) (lst_openW (by omega)) ?_ | refine DA.opn (R := lst 2 1 (.slice pl cells.length cl) _ _) (by ((repeat (first | with_reducible exact Sel.head | apply Sel.tail)); (first | done | fail))) (lst_openW (by omega)) ?_
    rintro ⟨g6, rest⟩ ⟨rfl, hcc, hcm, hcx, hcr⟩
    first | refine XA.cl ?_ | refine XOA.cl ?_ | refine DA.cl ?_
    have hv : (ints cells ++ rest)[a + j]? = some (i64 (cells.getD (a + j) 0)) := cells_read ha2
    have hv2 : IntKind.i64.wrap ((a : Int) + (j : Int)) = ((a + j : Nat) : Int) := by rw [X.wrap64_in (by omega) (by omega)]; omega
    refine XA.condF rfl (by first | rfl | exact decide_eq_false (by omega)) ?_
    refine XA.draw (by kernel_rfl) _ _ [12] [(0, .pu), (1, .pu), (2, .pu), (3, .pu), (4, .pu), (5, .rd), (6, .pu), (7, .rd), (8, .pu), (9, .pu), (10, .pu), (11, .rd), (12, .wr)] (by kernel_rfl) (PH.sub.refl _) (Ent.sel (R := blk g _ _) (by ((repeat (first | with_reducible exact Sel.head | apply Sel.tail)); (first | done | fail))) (Ent.sel (R := blk g5 _ _) (by ((repeat (first | with_reducible exact Sel.head | apply Sel.tail)); (first | done | fail))) (Ent.sel (R := blk g6 _ _) (by ((repeat (first | with_reducible exact Sel.head | apply Sel.tail)); (first | done | fail))) (Ent.nil _)))) ?_
    refine XPA.pu rfl rfl Gd.free Rd.mv ?_
    refine XPA.pu rfl rfl Gd.free Rd.mv ?_
    refine XPA.pu rfl rfl Gd.free (Rd.nilCheck rfl) ?_
    refine XPA.pu rfl rfl Gd.free (Rd.fA rfl) ?_
    refine XPA.pu rfl rfl Gd.free (Rd.fA rfl) ?_
    refine XPA.rd rfl rfl Gd.free (Rd.ldC rfl (tyrow rfl) rfl) ?_
    refine XPA.pu rfl rfl Gd.free (Rd.fA rfl) ?_
    refine XPA.rd rfl rfl Gd.free (Rd.ldC rfl (tyrow rfl) rfl) ?_
    refine XPA.pu rfl rfl Gd.free Rd.mv ?_
    refine XPA.pu rfl rfl Gd.free (by first | exact Rd.adi rfl rfl | exact Rd.add rfl rfl) ?_
    refine XPA.pu rfl rfl Gd.free (Rd.ixS rfl rfl) ?_
    refine XPA.rd rfl rfl Gd.free (Rd.ldC rfl (tyrow rfl) rfl) ?_
    refine XPA.wrZ0 rfl rfl Gd.free (by kernel_rfl) (WrA.cE (push_b σ g _ _ _ _ _ _ _ _ _ _ _ _ _ _ _ _ _ (_) _ hsl1) rfl) ?_
    rintro _ _ _ ⟨_, ⟨p1, c1, rfl, rfl, rfl⟩, rfl⟩
    refine XPA.cl ?_
    refine XPA.nil ?_
    refine DA.inb_normal ?_
    refine zT ?_; refine zS ?_; refine zR ?_; refine zO rfl Rd.asg ?_; refine zN ?_; refine zT ?_
    refine XA.ret ?_
    refine DA.ent (Ent.foldC (Θ := [blk g6 (ints (cells) ++ rest) 2]) (by (repeat (first | exact Ent.all _ | (apply Ent.take; focus (first | ((repeat (first | with_reducible exact Sel.head | apply Sel.tail)); done) | ((repeat (first | exact Sel.head | apply Sel.tail)); done))) | apply Ent.takeNil | apply Ent.takeEmp)); (first | done | fail)) (lst_close (size := 1) (n := cells.length) (c := cl) (rest := rest) (by simp [ints]) hcc hcm (by simpa [ints] using hcr)) (Ent.refl _)) ?_
    exact bodyA.ret (ResA.one rfl rfl) zE ⟨rfl, .refl _, BeG.of hkp⟩
  by_cases h4 : xop = 4
  · subst h4
    clear hx
    obtain ⟨y, z, s, rfl⟩ : ∃ y z s, stack = y :: z :: s := by
      cases stack with
      | nil => simp [popA] at hpop
      | cons y s => cases s with
        | nil => simp [popA] at hpop
        | cons z s => exact ⟨y, z, s, rfl⟩
    have hsl1 : s.length ≤ 1000 := by simp only [List.length_cons] at hsl; omega
    have hsl2 : (z :: s).length ≤ 1000 := by simp only [List.length_cons] at hsl ⊢; omega
    rw [show doIn inp keep ⟨4, xa, xb, xn⟩ ⟨⟨next + 1, y :: z :: s, rd, outn, 0, cells⟩, kept, out, wrong⟩ = ⟨⟨next + 1, wrap_ (z + y) :: s, rd, outn, 0, cells⟩, kept, out, wrong⟩ from rfl]
    refine XA.condF rfl rfl ?_
    refine zS ?_; refine zR ?_; refine zO rfl (Rd.eql rfl rfl) ?_; refine zO rfl Rd.asg ?_; refine zN ?_; refine zT ?_
    refine XA.condF rfl rfl ?_
    refine zS ?_; refine zR ?_; refine zO rfl (Rd.eql rfl rfl) ?_; refine zO rfl Rd.asg ?_; refine zN ?_; refine zT ?_
    refine XA.condF rfl rfl ?_
    refine zS ?_; refine zS ?_; refine zR ?_; refine zO rfl (Rd.eql rfl rfl) ?_; refine zO rfl Rd.asg ?_; refine zN ?_; refine zT ?_
    refine XA.condT rfl rfl ?_
    refine XA.skip ?_
    refine zT ?_
    refine XA.condT rfl rfl ?_
    refine zS ?_; refine zR ?_; refine zO rfl Rd.mv ?_
    refine XOA.wr0 rfl (WrA.cE (pop_b σ g _ _ _ _ _ _ _ _ _ _ _ _ _ _ _ _ _ (z :: s) _ hsl2) rfl) ?_
    rintro _ _ _ ⟨_, ⟨rfl, rfl, rfl⟩, rfl⟩
    refine XOA.cl ?_
    refine zO rfl Rd.asg ?_; refine zN ?_; refine zT ?_; refine zS ?_; refine zR ?_; refine zO rfl Rd.mv ?_
    refine XOA.wr0 rfl (WrA.cE (pop_b σ g _ _ _ _ _ _ _ _ _ _ _ _ _ _ _ _ _ (s) _ hsl1) rfl) ?_
    rintro _ _ _ ⟨_, ⟨rfl, rfl, rfl⟩, rfl⟩
    refine XOA.cl ?_
    refine zO rfl Rd.asg ?_; refine zN ?_; refine zT ?_; refine zS ?_; refine zR ?_; refine zO rfl (Rd.fA rfl) ?_; refine zO rfl (Rd.ldC rfl (tyrow rfl) rfl) ?_; refine zN ?_; refine zT ?_
    refine XA.block ?_
    refine zS ?_; refine zR ?_; refine zO rfl (Rd.eql rfl rfl) ?_; refine zO rfl Rd.asg ?_; refine zN ?_; refine zT ?_
    refine XA.condT rfl rfl ?_
    refine zR ?_; refine zO rfl Rd.mv ?_; refine zO rfl Rd.mv ?_; refine zO rfl Rd.mv ?_
    refine zO rfl (by first | exact Rd.adi rfl rfl | exact Rd.add rfl rfl) ?_
    refine XOA.wr0 rfl (WrA.cE (push_b σ g _ _ _ _ _ _ _ _ _ _ _ _ _ _ _ _ _ (_) _ hsl1) rfl) ?_
    rintro _ _ _ ⟨_, ⟨p1, c1, rfl, rfl, rfl⟩, rfl⟩
    refine XOA.cl ?_
    refine zN ?_
    refine DA.inb_normal ?_
    refine DA.inb_normal ?_
    refine zT ?_; refine zS ?_; refine zR ?_; refine zO rfl Rd.asg ?_; refine zN ?_; refine zT ?_
    refine XA.ret ?_
    exact bodyA.ret (ResA.one rfl rfl) zE ⟨rfl, .refl _, BeG.of hkp⟩
  by_cases h5 : xop = 5
  · subst h5
    clear hx
    obtain ⟨y, z, s, rfl⟩ : ∃ y z s, stack = y :: z :: s := by
      cases stack with
      | nil => simp [popA] at hpop
      | cons y s => cases s with
        | nil => simp [popA] at hpop
        | cons z s => exact ⟨y, z, s, rfl⟩
    have hsl1 : s.length ≤ 1000 := by simp only [List.length_cons] at hsl; omega
    have hsl2 : (z :: s).length ≤ 1000 := by simp only [List.length_cons] at hsl ⊢; omega
    rw [show doIn inp keep ⟨5, xa, xb, xn⟩ ⟨⟨next + 1, y :: z :: s, rd, outn, 0, cells⟩, kept, out, wrong⟩ = ⟨⟨next + 1, wrap_ (z - y) :: s, rd, outn, 0, cells⟩, kept, out, wrong⟩ from rfl]
    refine XA.condF rfl rfl ?_
    refine zS ?_; refine zR ?_; refine zO rfl (Rd.eql rfl rfl) ?_; refine zO rfl Rd.asg ?_; refine zN ?_; refine zT ?_
    refine XA.condF rfl rfl ?_
    refine zS ?_; refine zR ?_; refine zO rfl (Rd.eql rfl rfl) ?_; refine zO rfl Rd.asg ?_; refine zN ?_; refine zT ?_
    refine XA.condF rfl rfl ?_
    refine zS ?_; refine zS ?_; refine zR ?_; refine zO rfl (Rd.eql rfl rfl) ?_; refine zO rfl Rd.asg ?_; refine zN ?_; refine zT ?_
    refine XA.condF rfl rfl ?_
    refine zS ?_; refine zR ?_; refine zO rfl (Rd.eql rfl rfl) ?_; refine zO rfl Rd.asg ?_; refine zN ?_; refine zT ?_
    refine XA.condT rfl rfl ?_
    refine XA.skip ?_
    refine zT ?_
    refine XA.condT rfl rfl ?_
    refine zS ?_; refine zR ?_; refine zO rfl Rd.mv ?_
    refine XOA.wr0 rfl (WrA.cE (pop_b σ g _ _ _ _ _ _ _ _ _ _ _ _ _ _ _ _ _ (z :: s) _ hsl2) rfl) ?_
    rintro _ _ _ ⟨_, ⟨rfl, rfl, rfl⟩, rfl⟩
    refine XOA.cl ?_
    refine zO rfl Rd.asg ?_; refine zN ?_; refine zT ?_; refine zS ?_; refine zR ?_; refine zO rfl Rd.mv ?_
    refine XOA.wr0 rfl (WrA.cE (pop_b σ g _ _ _ _ _ _ _ _ _ _ _ _ _ _ _ _ _ (s) _ hsl1) rfl) ?_
    rintro _ _ _ ⟨_, ⟨rfl, rfl, rfl⟩, rfl⟩
    refine XOA.cl ?_
    refine zO rfl Rd.asg ?_; refine zN ?_; refine zT ?_; refine zS ?_; refine zR ?_; refine zO rfl (Rd.fA rfl) ?_; refine zO rfl (Rd.ldC rfl (tyrow rfl) rfl) ?_; refine zN ?_; refine zT ?_
    refine XA.block ?_
    refine zS ?_; refine zR ?_; refine zO rfl (Rd.eql rfl rfl) ?_; refine zO rfl Rd.asg ?_; refine zN ?_; refine zT ?_
    refine XA.condF rfl rfl ?_
    refine zS ?_; refine zR ?_; refine zO rfl (Rd.eql rfl rfl) ?_; refine zO rfl Rd.asg ?_; refine zN ?_; refine zT ?_
    refine XA.condT rfl rfl ?_
    refine zR ?_; refine zO rfl Rd.mv ?_; refine zO rfl Rd.mv ?_; refine zO rfl Rd.mv ?_
    refine zO rfl (by first | exact Rd.sbi rfl rfl | exact Rd.sub rfl rfl) ?_
    refine XOA.wr0 rfl (WrA.cE (push_b σ g _ _ _ _ _ _ _ _ _ _ _ _ _ _ _ _ _ (_) _ hsl1) rfl) ?_
    rintro _ _ _ ⟨_, ⟨p1, c1, rfl, rfl, rfl⟩, rfl⟩
    refine XOA.cl ?_
    refine zN ?_
    refine DA.inb_normal ?_
    refine DA.inb_normal ?_
    refine zT ?_; refine zS ?_; refine zR ?_; refine zO rfl Rd.asg ?_; refine zN ?_; refine zT ?_
    refine XA.ret ?_
    exact bodyA.ret (ResA.one rfl rfl) zE ⟨rfl, .refl _, BeG.of hkp⟩
  by_cases h6 : xop = 6
  · subst h6
    clear hx
    obtain ⟨y, z, s, rfl⟩ : ∃ y z s, stack = y :: z :: s := by
      cases stack with
      | nil => simp [popA] at hpop
      | cons y s => cases s with
        | nil => simp [popA] at hpop
        | cons z s => exact ⟨y, z, s, rfl⟩
    have hsl1 : s.length ≤ 1000 := by simp only [List.length_cons] at hsl; omega
    have hsl2 : (z :: s).length ≤ 1000 := by simp only [List.length_cons] at hsl ⊢; omega
    rw [show doIn inp keep ⟨6, xa, xb, xn⟩ ⟨⟨next + 1, y :: z :: s, rd, outn, 0, cells⟩, kept, out, wrong⟩ = ⟨⟨next + 1, wrap_ (z * y) :: s, rd, outn, 0, cells⟩, kept, out, wrong⟩ from rfl]
    refine XA.condF rfl rfl ?_
    refine zS ?_; refine zR ?_; refine zO rfl (Rd.eql rfl rfl) ?_; refine zO rfl Rd.asg ?_; refine zN ?_; refine zT ?_
    refine XA.condF rfl rfl ?_
    refine zS ?_; refine zR ?_; refine zO rfl (Rd.eql rfl rfl) ?_; refine zO rfl Rd.asg ?_; refine zN ?_; refine zT ?_
    refine XA.condF rfl rfl ?_
    refine zS ?_; refine zS ?_; refine zR ?_; refine zO rfl (Rd.eql rfl rfl) ?_; refine zO rfl Rd.asg ?_; refine zN ?_; refine zT ?_
    refine XA.condF rfl rfl ?_
    refine zS ?_; refine zR ?_; refine zO rfl (Rd.eql rfl rfl) ?_; refine zO rfl Rd.asg ?_; refine zN ?_; refine zT ?_
    refine XA.condF rfl rfl ?_
    refine zS ?_; refine zR ?_; refine zO rfl (Rd.eql rfl rfl) ?_; refine zO rfl Rd.asg ?_; refine zN ?_; refine zT ?_
    refine XA.condT rfl rfl ?_
    refine XA.skip ?_
    refine zT ?_
    refine XA.condT rfl rfl ?_
    refine zS ?_; refine zR ?_; refine zO rfl Rd.mv ?_
    refine XOA.wr0 rfl (WrA.cE (pop_b σ g _ _ _ _ _ _ _ _ _ _ _ _ _ _ _ _ _ (z :: s) _ hsl2) rfl) ?_
    rintro _ _ _ ⟨_, ⟨rfl, rfl, rfl⟩, rfl⟩
    refine XOA.cl ?_
    refine zO rfl Rd.asg ?_; refine zN ?_; refine zT ?_; refine zS ?_; refine zR ?_; refine zO rfl Rd.mv ?_
    refine XOA.wr0 rfl (WrA.cE (pop_b σ g _ _ _ _ _ _ _ _ _ _ _ _ _ _ _ _ _ (s) _ hsl1) rfl) ?_
    rintro _ _ _ ⟨_, ⟨rfl, rfl, rfl⟩, rfl⟩
    refine XOA.cl ?_
    refine zO rfl Rd.asg ?_; refine zN ?_; refine zT ?_; refine zS ?_; refine zR ?_; refine zO rfl (Rd.fA rfl) ?_; refine zO rfl (Rd.ldC rfl (tyrow rfl) rfl) ?_; refine zN ?_; refine zT ?_
    refine XA.block ?_
    refine zS ?_; refine zR ?_; refine zO rfl (Rd.eql rfl rfl) ?_; refine zO rfl Rd.asg ?_; refine zN ?_; refine zT ?_
    refine XA.condF rfl rfl ?_
    refine zS ?_; refine zR ?_; refine zO rfl (Rd.eql rfl rfl) ?_; refine zO rfl Rd.asg ?_; refine zN ?_; refine zT ?_
    refine XA.condF rfl rfl ?_
    refine zS ?_; refine zR ?_; refine zO rfl (Rd.eql rfl rfl) ?_; refine zO rfl Rd.asg ?_; refine zN ?_; refine zT ?_
    refine XA.condT rfl rfl ?_
    refine zR ?_; refine zO rfl Rd.mv ?_; refine zO rfl Rd.mv ?_; refine zO rfl Rd.mv ?_
    refine zO rfl (by first | exact Rd.mli rfl rfl | exact Rd.mul rfl rfl) ?_
    refine XOA.wr0 rfl (WrA.cE (push_b σ g _ _ _ _ _ _ _ _ _ _ _ _ _ _ _ _ _ (_) _ hsl1) rfl) ?_
    rintro _ _ _ ⟨_, ⟨p1, c1, rfl, rfl, rfl⟩, rfl⟩
    refine XOA.cl ?_
    refine zN ?_
    refine DA.inb_normal ?_
    refine DA.inb_normal ?_
    refine zT ?_; refine zS ?_; refine zR ?_; refine zO rfl Rd.asg ?_; refine zN ?_; refine zT ?_
    refine XA.ret ?_
    exact bodyA.ret (ResA.one rfl rfl) zE ⟨rfl, .refl _, BeG.of hkp⟩
  by_cases h7 : xop = 7
  · subst h7
    clear hx
    obtain ⟨y, z, s, rfl⟩ : ∃ y z s, stack = y :: z :: s := by
      cases stack with
      | nil => simp [popA] at hpop
      | cons y s => cases s with
        | nil => simp [popA] at hpop
        | cons z s => exact ⟨y, z, s, rfl⟩
    have hsl1 : s.length ≤ 1000 := by simp only [List.length_cons] at hsl; omega
    have hsl2 : (z :: s).length ≤ 1000 := by simp only [List.length_cons] at hsl ⊢; omega
    rw [show doIn inp keep ⟨7, xa, xb, xn⟩ ⟨⟨next + 1, y :: z :: s, rd, outn, 0, cells⟩, kept, out, wrong⟩ = ⟨⟨next + 1, (if decide (z < y) = true then 1 else 0) :: s, rd, outn, 0, cells⟩, kept, out, wrong⟩ from by simp [doIn, binV]]
    refine XA.condF rfl rfl ?_
    refine zS ?_; refine zR ?_; refine zO rfl (Rd.eql rfl rfl) ?_; refine zO rfl Rd.asg ?_; refine zN ?_; refine zT ?_
    refine XA.condF rfl rfl ?_
    refine zS ?_; refine zR ?_; refine zO rfl (Rd.eql rfl rfl) ?_; refine zO rfl Rd.asg ?_; refine zN ?_; refine zT ?_
    refine XA.condF rfl rfl ?_
    refine zS ?_; refine zS ?_; refine zR ?_; refine zO rfl (Rd.eql rfl rfl) ?_; refine zO rfl Rd.asg ?_; refine zN ?_; refine zT ?_
    refine XA.condF rfl rfl ?_
    refine zS ?_; refine zR ?_; refine zO rfl (Rd.eql rfl rfl) ?_; refine zO rfl Rd.asg ?_; refine zN ?_; refine zT ?_
    refine XA.condF rfl rfl ?_
    refine zS ?_; refine zR ?_; refine zO rfl (Rd.eql rfl rfl) ?_; refine zO rfl Rd.asg ?_; refine zN ?_; refine zT ?_
    refine XA.condF rfl rfl ?_
    refine zS ?_; refine zR ?_; refine zO rfl (Rd.eql rfl rfl) ?_; refine zO rfl Rd.asg ?_; refine zN ?_; refine zT ?_
    refine XA.condT rfl rfl ?_
    refine XA.skip ?_
    refine zT ?_
    refine XA.condT rfl rfl ?_
    refine zS ?_; refine zR ?_; refine zO rfl Rd.mv ?_
    refine XOA.wr0 rfl (WrA.cE (pop_b σ g _ _ _ _ _ _ _ _ _ _ _ _ _ _ _ _ _ (z :: s) _ hsl2) rfl) ?_
    rintro _ _ _ ⟨_, ⟨rfl, rfl, rfl⟩, rfl⟩
    refine XOA.cl ?_
    refine zO rfl Rd.asg ?_; refine zN ?_; refine zT ?_; refine zS ?_; refine zR ?_; refine zO rfl Rd.mv ?_
    refine XOA.wr0 rfl (WrA.cE (pop_b σ g _ _ _ _ _ _ _ _ _ _ _ _ _ _ _ _ _ (s) _ hsl1) rfl) ?_
    rintro _ _ _ ⟨_, ⟨rfl, rfl, rfl⟩, rfl⟩
    refine XOA.cl ?_
    refine zO rfl Rd.asg ?_; refine zN ?_; refine zT ?_; refine zS ?_; refine zR ?_; refine zO rfl (Rd.fA rfl) ?_; refine zO rfl (Rd.ldC rfl (tyrow rfl) rfl) ?_; refine zN ?_; refine zT ?_
    refine XA.block ?_
    refine zS ?_; refine zR ?_; refine zO rfl (Rd.eql rfl rfl) ?_; refine zO rfl Rd.asg ?_; refine zN ?_; refine zT ?_
    refine XA.condF rfl rfl ?_
    refine zS ?_; refine zR ?_; refine zO rfl (Rd.eql rfl rfl) ?_; refine zO rfl Rd.asg ?_; refine zN ?_; refine zT ?_
    refine XA.condF rfl rfl ?_
    refine zS ?_; refine zR ?_; refine zO rfl (Rd.eql rfl rfl) ?_; refine zO rfl Rd.asg ?_; refine zN ?_; refine zT ?_
    refine XA.condF rfl rfl ?_
    refine zS ?_; refine zR ?_; refine zO rfl (Rd.eql rfl rfl) ?_; refine zO rfl Rd.asg ?_; refine zN ?_; refine zT ?_
    refine XA.condT rfl rfl ?_
    refine zR ?_; refine zO rfl Rd.mv ?_; refine zO rfl Rd.mv ?_; refine zO rfl Rd.mv ?_; refine zO rfl (Rd.lss rfl rfl) ?_
    refine XOA.wr0 rfl (WrA.cE (bit_b σ _) rfl) ?_
    rintro _ _ _ ⟨_, ⟨rfl, rfl, rfl⟩, rfl⟩
    refine XOA.cl ?_
    refine XOA.wr0 rfl (WrA.cE (push_b σ g _ _ _ _ _ _ _ _ _ _ _ _ _ _ _ _ _ (_) _ hsl1) rfl) ?_
    rintro _ _ _ ⟨_, ⟨p1, c1, rfl, rfl, rfl⟩, rfl⟩
    refine XOA.cl ?_
    refine zN ?_
    refine DA.inb_normal ?_
    refine DA.inb_normal ?_
    refine zT ?_; refine zS ?_; refine zR ?_; refine zO rfl Rd.asg ?_; refine zN ?_; refine zT ?_
    refine XA.ret ?_
    exact bodyA.ret (ResA.one rfl rfl) zE ⟨rfl, .refl _, BeG.of hkp⟩
  by_cases h8 : xop = 8
  · subst h8
    clear hx
    obtain ⟨y, z, s, rfl⟩ : ∃ y z s, stack = y :: z :: s := by
      cases stack with
      | nil => simp [popA] at hpop
      | cons y s => cases s with
        | nil => simp [popA] at hpop
        | cons z s => exact ⟨y, z, s, rfl⟩
    have hsl1 : s.length ≤ 1000 := by simp only [List.length_cons] at hsl; omega
    have hsl2 : (z :: s).length ≤ 1000 := by simp only [List.length_cons] at hsl ⊢; omega
    rw [show doIn inp keep ⟨8, xa, xb, xn⟩ ⟨⟨next + 1, y :: z :: s, rd, outn, 0, cells⟩, kept, out, wrong⟩ = ⟨⟨next + 1, (if decide (z = y) = true then 1 else 0) :: s, rd, outn, 0, cells⟩, kept, out, wrong⟩ from by simp [doIn, binV]]
    refine XA.condF rfl rfl ?_
    refine zS ?_; refine zR ?_; refine zO rfl (Rd.eql rfl rfl) ?_; refine zO rfl Rd.asg ?_; refine zN ?_; refine zT ?_
    refine XA.condF rfl rfl ?_
    refine zS ?_; refine zR ?_; refine zO rfl (Rd.eql rfl rfl) ?_; refine zO rfl Rd.asg ?_; refine zN ?_; refine zT ?_
    refine XA.condF rfl rfl ?_
    refine zS ?_; refine zS ?_; refine zR ?_; refine zO rfl (Rd.eql rfl rfl) ?_; refine zO rfl Rd.asg ?_; refine zN ?_; refine zT ?_
    refine XA.condF rfl rfl ?_
    refine zS ?_; refine zR ?_; refine zO rfl (Rd.eql rfl rfl) ?_; refine zO rfl Rd.asg ?_; refine zN ?_; refine zT ?_
    refine XA.condF rfl rfl ?_
    refine zS ?_; refine zR ?_; refine zO rfl (Rd.eql rfl rfl) ?_; refine zO rfl Rd.asg ?_; refine zN ?_; refine zT ?_
    refine XA.condF rfl rfl ?_
    refine zS ?_; refine zR ?_; refine zO rfl (Rd.eql rfl rfl) ?_; refine zO rfl Rd.asg ?_; refine zN ?_; refine zT ?_
    refine XA.condF rfl rfl ?_
    refine zR ?_; refine zO rfl (Rd.eql rfl rfl) ?_; refine zO rfl Rd.asg ?_; refine zN ?_; refine zT ?_
    refine XA.condT rfl rfl ?_
    refine zS ?_; refine zR ?_; refine zO rfl Rd.mv ?_
    refine XOA.wr0 rfl (WrA.cE (pop_b σ g _ _ _ _ _ _ _ _ _ _ _ _ _ _ _ _ _ (z :: s) _ hsl2) rfl) ?_
    rintro _ _ _ ⟨_, ⟨rfl, rfl, rfl⟩, rfl⟩
    refine XOA.cl ?_
    refine zO rfl Rd.asg ?_; refine zN ?_; refine zT ?_; refine zS ?_; refine zR ?_; refine zO rfl Rd.mv ?_
    refine XOA.wr0 rfl (WrA.cE (pop_b σ g _ _ _ _ _ _ _ _ _ _ _ _ _ _ _ _ _ (s) _ hsl1) rfl) ?_
    rintro _ _ _ ⟨_, ⟨rfl, rfl, rfl⟩, rfl⟩
    refine XOA.cl ?_
    refine zO rfl Rd.asg ?_; refine zN ?_; refine zT ?_; refine zS ?_; refine zR ?_; refine zO rfl (Rd.fA rfl) ?_; refine zO rfl (Rd.ldC rfl (tyrow rfl) rfl) ?_; refine zN ?_; refine zT ?_
    refine XA.block ?_
    refine zS ?_; refine zR ?_; refine zO rfl (Rd.eql rfl rfl) ?_; refine zO rfl Rd.asg ?_; refine zN ?_; refine zT ?_
    refine XA.condF rfl rfl ?_
    refine zS ?_; refine zR ?_; refine zO rfl (Rd.eql rfl rfl) ?_; refine zO rfl Rd.asg ?_; refine zN ?_; refine zT ?_
    refine XA.condF rfl rfl ?_
    refine zS ?_; refine zR ?_; refine zO rfl (Rd.eql rfl rfl) ?_; refine zO rfl Rd.asg ?_; refine zN ?_; refine zT ?_
    refine XA.condF rfl rfl ?_
    refine zS ?_; refine zR ?_; refine zO rfl (Rd.eql rfl rfl) ?_; refine zO rfl Rd.asg ?_; refine zN ?_; refine zT ?_
    refine XA.condF rfl rfl ?_
    refine zR ?_; refine zO rfl Rd.mv ?_; refine zO rfl Rd.mv ?_; refine zO rfl Rd.mv ?_; refine zO rfl (Rd.eql rfl rfl) ?_
    refine XOA.wr0 rfl (WrA.cE (bit_b σ _) rfl) ?_
    rintro _ _ _ ⟨_, ⟨rfl, rfl, rfl⟩, rfl⟩
    refine XOA.cl ?_
    refine XOA.wr0 rfl (WrA.cE (push_b σ g _ _ _ _ _ _ _ _ _ _ _ _ _ _ _ _ _ (_) _ hsl1) rfl) ?_
    rintro _ _ _ ⟨_, ⟨p1, c1, rfl, rfl, rfl⟩, rfl⟩
    refine XOA.cl ?_
    refine zN ?_
    refine DA.inb_normal ?_
    refine DA.inb_normal ?_
    refine zT ?_; refine zS ?_; refine zR ?_; refine zO rfl Rd.asg ?_; refine zN ?_; refine zT ?_
    refine XA.ret ?_
    exact bodyA.ret (ResA.one rfl rfl) zE ⟨rfl, .refl _, BeG.of hkp⟩
  by_cases h9 : xop = 9
  · subst h9
    clear hx
    obtain ⟨n, s, rfl⟩ : ∃ n s, stack = n :: s := by
      cases stack with
      | nil => simp [popA] at hpop
      | cons n s => exact ⟨n, s, rfl⟩
    have hsl1 : s.length ≤ 1000 := by simp only [List.length_cons] at hsl; omega
    obtain ⟨ha0, ha1⟩ := hcell (by decide)
    obtain ⟨a, rfl⟩ : ∃ a : Nat, xa = a := ⟨xa.toNat, by omega⟩
    have ha2 : a < cells.length := by omega
    rw [show doIn inp keep ⟨9, (a : Int), xb, xn⟩ ⟨⟨next + 1, n :: s, rd, outn, 0, cells⟩, kept, out, wrong⟩ = ⟨⟨next + 1, s, rd, outn, 0, cells.set a n⟩, kept, out, wrong⟩ from rfl]
    have hcn : (cells.set a n).length = cells.length := by simp
    first | refine XA.opn (R := lst 2 1 (.slice pl cells.length cl) _ _) (by ((repeat (first | with_reducible exact Sel.head | apply Sel.tail)); (first | done | fail))) (lst_openW (by omega)) ?_ | refine XOA.opn (R := lst 2 1 (.slice pl cells.length cl) _ _) (by ((repeat (first | with_reducible exact Sel.head | apply Sel.tail)); (first | done | fail))) (lst_openW (by omega)) ?_ | refine DA.opn (R := lst 2 1 (.slice pl cells.length cl) _ _) (by ((repeat (first | with_reducible exact Sel.head | apply Sel.tail)); (first | done | fail))) (lst_openW (by omega)) ?_
    rintro ⟨g6, rest⟩ ⟨rfl, hcc, hcm, hcx, hcr⟩
    first | refine XA.cl ?_ | refine XOA.cl ?_ | refine DA.cl ?_
    have hspl : splice (ints cells ++ rest) a [i64 n] = ints (cells.set a n) ++ rest := cells_write n ha2
    have hfit : a + ty2.size ≤ (ints cells ++ rest).length := by rw [List.length_append, show (ints cells).length = cells.length by simp [ints]]; show a + 1 ≤ _; omega
    refine XA.condF rfl rfl ?_
    refine zS ?_; refine zR ?_; refine zO rfl (Rd.eql rfl rfl) ?_; refine zO rfl Rd.asg ?_; refine zN ?_; refine zT ?_
    refine XA.condF rfl rfl ?_
    refine zS ?_; refine zR ?_; refine zO rfl (Rd.eql rfl rfl) ?_; refine zO rfl Rd.asg ?_; refine zN ?_; refine zT ?_
    refine XA.condF rfl rfl ?_
    refine zS ?_; refine zS ?_; refine zR ?_; refine zO rfl (Rd.eql rfl rfl) ?_; refine zO rfl Rd.asg ?_; refine zN ?_; refine zT ?_
    refine XA.condF rfl rfl ?_
    refine zS ?_; refine zR ?_; refine zO rfl (Rd.eql rfl rfl) ?_; refine zO rfl Rd.asg ?_; refine zN ?_; refine zT ?_
    refine XA.condF rfl rfl ?_
    refine zS ?_; refine zR ?_; refine zO rfl (Rd.eql rfl rfl) ?_; refine zO rfl Rd.asg ?_; refine zN ?_; refine zT ?_
    refine XA.condF rfl rfl ?_
    refine zS ?_; refine zR ?_; refine zO rfl (Rd.eql rfl rfl) ?_; refine zO rfl Rd.asg ?_; refine zN ?_; refine zT ?_
    refine XA.condF rfl rfl ?_
    refine zR ?_; refine zO rfl (Rd.eql rfl rfl) ?_; refine zO rfl Rd.asg ?_; refine zN ?_; refine zT ?_
    refine XA.condF rfl rfl ?_
    refine zS ?_; refine zR ?_; refine zO rfl (Rd.eql rfl rfl) ?_; refine zO rfl Rd.asg ?_; refine zN ?_; refine zT ?_
    refine XA.condT rfl rfl ?_
    refine XA.join [(137, 146)] (fun _ : Unit => []) (fun _ σ' Γ' => σ = σ' ∧ Γ' = [blk g [.slice (some ⟨gc, oc', none⟩) code.length cc, .slice pi inp.length ci, i64 ((next : Int) + 1), .slice sp s.length sc, i64 rd, i64 outn, i64 0, .slice (some ⟨g6, 0, none⟩) cells.length cl, k0, k1, k2, k3, k4, k5, .slice op out.length oc, .bool wrong] 129, lst 2 1 (.slice sp s.length sc) s.length (ints s.reverse), blk g6 (ints (cells.set a n) ++ rest) 2, lst 2 1 (.slice op out.length oc) out.length (ints out)]) ?_ ?_
    · skip
      refine XA.drawQ (by kernel_rfl) _ _ [9, 10] 11 #[false, false, false, false, false, false, false, false, false, false, false] rfl rfl (by kernel_rfl) (PH.sub.refl _) (Ent.sel (R := blk g5 _ _) (by ((repeat (first | with_reducible exact Sel.head | apply Sel.tail)); (first | done | fail))) (Ent.nil _)) ?_
      refine XQA.pu (i := 0) (listed' := #[true, false, false, false, false, false, false, false, false, false, false]) rfl rfl (by kernel_rfl) rfl Gd.free Rd.mv ?_
      refine XQA.pu (i := 1) (listed' := #[true, true, false, false, false, false, false, false, false, false, false]) rfl rfl (by kernel_rfl) rfl Gd.free (Rd.nilCheck rfl) ?_
      refine XQA.pu (i := 2) (listed' := #[true, true, true, false, false, false, false, false, false, false, false]) rfl rfl (by kernel_rfl) rfl Gd.free (Rd.fA rfl) ?_
      refine XQA.pu (i := 3) (listed' := #[true, true, true, true, false, false, false, false, false, false, false]) rfl rfl (by kernel_rfl) rfl Gd.free (Rd.fA rfl) ?_
      refine XQA.pu (i := 5) (listed' := #[true, true, true, true, false, true, false, false, false, false, false]) rfl rfl (by kernel_rfl) rfl Gd.free (Rd.fA rfl) ?_
      refine XQA.rd (i := 6) (listed' := #[true, true, true, true, false, true, true, false, false, false, false]) rfl rfl (by kernel_rfl) rfl Gd.free (Rd.ldC rfl (tyrow rfl) rfl) ?_
      refine XQA.pu (i := 7) (listed' := #[true, true, true, true, false, true, true, true, false, false, false]) rfl rfl (by kernel_rfl) rfl Gd.free Rd.mv ?_
      refine XQA.w2 (i := 4) (j := 8) (by kernel_rfl) ?_ ?_
      · refine XQA1.wr0 (listed' := #[true, true, true, true, true, true, true, true, false, false, false]) rfl rfl Gd.free (by kernel_rfl) rfl (Rd.toW (Rd.ldC rfl (tyrow rfl) rfl)) ?_
        rintro _ _ _ ⟨rfl, rfl, rfl⟩
        refine ⟨⟨(by first | exact PH.sub.refl _ | assumption | (refine PH.sub.trans ?_ (by assumption); assumption)), zE⟩, XQA.re (by conv => lhs; dsimp only [List.cons_append, List.nil_append]) ?_⟩
        refine XQA.w1 (i := 8) (by kernel_rfl) ?_
        refine XQA1.wr0 (listed' := #[true, true, true, true, true, true, true, true, true, false, false]) rfl rfl Gd.free (by kernel_rfl) rfl (WrA.cE (pop_b σ g _ _ _ _ _ _ _ _ _ _ _ _ _ _ _ _ _ s _ hsl1) rfl) ?_
        rintro _ _ _ ⟨_, ⟨rfl, rfl, rfl⟩, rfl⟩
        refine ⟨⟨(by first | exact PH.sub.refl _ | assumption | (refine PH.sub.trans ?_ (by assumption); assumption)), zE⟩, XQA.re (by conv => lhs; dsimp only [List.cons_append, List.nil_append]) ?_⟩
        refine XQA.pu (i := 9) (listed' := #[true, true, true, true, true, true, true, true, true, true, false]) rfl rfl (by kernel_rfl) rfl Gd.free (Rd.ixS rfl rfl) ?_
        refine XQA.w1 (i := 10) (by kernel_rfl) ?_
        refine XQA1.wrZ0 (listed' := #[true, true, true, true, true, true, true, true, true, true, true]) rfl rfl Gd.free (by kernel_rfl) rfl (by kernel_rfl) (WrA.st (tyrow rfl) rfl) ?_
        rintro _ _ _ ⟨rfl, rfl, rfl⟩
        refine XQA.re (by conv => lhs; dsimp only [List.cons_append, List.nil_append]) ?_
        refine XQA.nil rfl ?_
        refine DA.thn_normal ⟨(by (repeat (first | exact Keep.refl _ _ | refine Keep.upd ?_ rfl | refine Keep.updO ?_ rfl | refine Keep.updN ?_)); (first | done | fail)), (), _, (by (repeat (first | exact trivial | refine ⟨rfl, ?_⟩ | refine ⟨Eq.trans rfl (congrArg Value.bool hmat.symm), ?_⟩)); (first | done | fail)), ?_, rfl, rfl⟩; exact zE
      · refine XQA1.wr0 (listed' := #[true, true, true, true, false, true, true, true, true, false, false]) rfl rfl Gd.free (by kernel_rfl) rfl (WrA.cE (pop_b σ g _ _ _ _ _ _ _ _ _ _ _ _ _ _ _ _ _ s _ hsl1) rfl) ?_
        rintro _ _ _ ⟨_, ⟨rfl, rfl, rfl⟩, rfl⟩
        refine ⟨⟨(by first | exact PH.sub.refl _ | assumption | (refine PH.sub.trans ?_ (by assumption); assumption)), zE⟩, XQA.re (by conv => lhs; dsimp only [List.cons_append, List.nil_append]) ?_⟩
        refine XQA.w1 (i := 4) (by kernel_rfl) ?_
        refine XQA1.wr0 (listed' := #[true, true, true, true, true, true, true, true, true, false, false]) rfl rfl Gd.free (by kernel_rfl) rfl (Rd.toW (Rd.ldC rfl (tyrow rfl) rfl)) ?_
        rintro _ _ _ ⟨rfl, rfl, rfl⟩
        refine ⟨⟨(by first | exact PH.sub.refl _ | assumption | (refine PH.sub.trans ?_ (by assumption); assumption)), zE⟩, XQA.re (by conv => lhs; dsimp only [List.cons_append, List.nil_append]) ?_⟩
        refine XQA.pu (i := 9) (listed' := #[true, true, true, true, true, true, true, true, true, true, false]) rfl rfl (by kernel_rfl) rfl Gd.free (Rd.ixS rfl rfl) ?_
        refine XQA.w1 (i := 10) (by kernel_rfl) ?_
        refine XQA1.wrZ0 (listed' := #[true, true, true, true, true, true, true, true, true, true, true]) rfl rfl Gd.free (by kernel_rfl) rfl (by kernel_rfl) (WrA.st (tyrow rfl) rfl) ?_
        rintro _ _ _ ⟨rfl, rfl, rfl⟩
        refine XQA.re (by conv => lhs; dsimp only [List.cons_append, List.nil_append]) ?_
        refine XQA.nil rfl ?_
        refine DA.thn_normal ⟨(by (repeat (first | exact Keep.refl _ _ | refine Keep.upd ?_ rfl | refine Keep.updO ?_ rfl | refine Keep.updN ?_)); (first | done | fail)), (), _, (by (repeat (first | exact trivial | refine ⟨rfl, ?_⟩ | refine ⟨Eq.trans rfl (congrArg Value.bool hmat.symm), ?_⟩)); (first | done | fail)), ?_, rfl, rfl⟩; exact zE
    rintro ⟨⟩ δ _ _ ⟨rfl, rfl⟩
    dsimp only [ovr, List.foldl]
    refine DA.inb_normal ?_
    refine zT ?_; refine zS ?_; refine zR ?_; refine zO rfl Rd.asg ?_; refine zN ?_; refine zT ?_
    refine XA.ret ?_
    refine DA.ent (Ent.foldC (Θ := [blk g6 (ints (cells.set a n) ++ rest) 2]) (by (repeat (first | exact Ent.all _ | (apply Ent.take; focus (first | ((repeat (first | with_reducible exact Sel.head | apply Sel.tail)); done) | ((repeat (first | exact Sel.head | apply Sel.tail)); done))) | apply Ent.takeNil | apply Ent.takeEmp)); (first | done | fail)) (lst_close (size := 1) (n := cells.length) (c := cl) (rest := rest) (by simp [ints]) hcc hcm (by simpa [ints] using hcr)) (Ent.refl _)) ?_
    rw [← hcn]
    exact bodyA.ret (ResA.one rfl rfl) zE ⟨rfl, .refl _, BeG.of hkp⟩
  by_cases h10 : xop = 10
  · subst h10
    clear hx
    obtain ⟨n, k, s, rfl⟩ : ∃ y z s, stack = y :: z :: s := by
      cases stack with
      | nil => simp [popA] at hpop
      | cons y s => cases s with
        | nil => simp [popA] at hpop
        | cons z s => exact ⟨y, z, s, rfl⟩
    have hsl1 : s.length ≤ 1000 := by simp only [List.length_cons] at hsl; omega
    have hsl2 : (k :: s).length ≤ 1000 := by simp only [List.length_cons] at hsl ⊢; omega
    obtain ⟨hb0, hb1, hb2⟩ := hcell2 (by decide)
    obtain ⟨a, rfl⟩ : ∃ a : Nat, xa = a := ⟨xa.toNat, by omega⟩
    by_cases hk0 : k < 0
    · rw [show doIn inp keep ⟨10, (a : Int), xb, xn⟩ ⟨⟨next + 1, n :: k :: s, rd, outn, 0, cells⟩, kept, out, wrong⟩ = ⟨⟨next + 1, s, rd, outn, 13, cells⟩, kept, out, wrong⟩ from by simp [doIn, hk0]]
      refine XA.condF rfl rfl ?_
      refine zS ?_; refine zR ?_; refine zO rfl (Rd.eql rfl rfl) ?_; refine zO rfl Rd.asg ?_; refine zN ?_; refine zT ?_
      refine XA.condF rfl rfl ?_
      refine zS ?_; refine zR ?_; refine zO rfl (Rd.eql rfl rfl) ?_; refine zO rfl Rd.asg ?_; refine zN ?_; refine zT ?_
      refine XA.condF rfl rfl ?_
      refine zS ?_; refine zS ?_; refine zR ?_; refine zO rfl (Rd.eql rfl rfl) ?_; refine zO rfl Rd.asg ?_; refine zN ?_; refine zT ?_
      refine XA.condF rfl rfl ?_
      refine zS ?_; refine zR ?_; refine zO rfl (Rd.eql rfl rfl) ?_; refine zO rfl Rd.asg ?_; refine zN ?_; refine zT ?_
      refine XA.condF rfl rfl ?_
      refine zS ?_; refine zR ?_; refine zO rfl (Rd.eql rfl rfl) ?_; refine zO rfl Rd.asg ?_; refine zN ?_; refine zT ?_
      refine XA.condF rfl rfl ?_
      refine zS ?_; refine zR ?_; refine zO rfl (Rd.eql rfl rfl) ?_; refine zO rfl Rd.asg ?_; refine zN ?_; refine zT ?_
      refine XA.condF rfl rfl ?_
      refine zR ?_; refine zO rfl (Rd.eql rfl rfl) ?_; refine zO rfl Rd.asg ?_; refine zN ?_; refine zT ?_
      refine XA.condF rfl rfl ?_
      refine zS ?_; refine zR ?_; refine zO rfl (Rd.eql rfl rfl) ?_; refine zO rfl Rd.asg ?_; refine zN ?_; refine zT ?_
      refine XA.condF rfl rfl ?_
      refine zS ?_; refine zR ?_; refine zO rfl (Rd.eql rfl rfl) ?_; refine zO rfl Rd.asg ?_; refine zN ?_; refine zT ?_
      refine XA.condT rfl rfl ?_
      refine zS ?_; refine zR ?_; refine zO rfl Rd.mv ?_
      refine XOA.wr0 rfl (WrA.cE (pop_b σ g _ _ _ _ _ _ _ _ _ _ _ _ _ _ _ _ _ (k :: s) _ hsl2) rfl) ?_
      rintro _ _ _ ⟨_, ⟨rfl, rfl, rfl⟩, rfl⟩
      refine XOA.cl ?_
      refine zO rfl Rd.asg ?_; refine zN ?_; refine zT ?_; refine zS ?_; refine zR ?_; refine zO rfl Rd.mv ?_
      refine XOA.wr0 rfl (WrA.cE (pop_b σ g _ _ _ _ _ _ _ _ _ _ _ _ _ _ _ _ _ (s) _ hsl1) rfl) ?_
      rintro _ _ _ ⟨_, ⟨rfl, rfl, rfl⟩, rfl⟩
      refine XOA.cl ?_
      refine zO rfl Rd.asg ?_; refine zN ?_; refine zT ?_; refine zS ?_; refine zR ?_; refine zO rfl Rd.mv ?_; refine zO rfl (Rd.lss rfl rfl) ?_; refine zO rfl Rd.mv ?_
      first | ((first | refine zW ?_ | refine zQ ?_); refine zO rfl Rd.mv ?_) | refine zU ?_ | refine zV ?_ | refine zZ ?_
      first | ((first | refine zW ?_ | refine zQ ?_); refine zO rfl (Rd.fA rfl) ?_) | refine zU ?_ | refine zV ?_ | refine zZ ?_
      first | ((first | refine zW ?_ | refine zQ ?_); refine zO rfl (Rd.ldC rfl (tyrow rfl) rfl) ?_) | refine zU ?_ | refine zV ?_ | refine zZ ?_
      first | ((first | refine zW ?_ | refine zQ ?_); refine zO rfl (Rd.geq rfl rfl) ?_) | refine zU ?_ | refine zV ?_ | refine zZ ?_
      refine zO rfl (by first | exact Rd.pT rfl | exact Rd.pF rfl | exact Rd.pP rfl) ?_
      refine zN ?_; refine zT ?_
      refine XA.condT rfl (by first | rfl | exact decide_eq_true (by omega)) ?_
      refine zR ?_; refine zO rfl Rd.mv ?_; refine zO rfl (Rd.nilCheck rfl) ?_; refine zO rfl (Rd.fA rfl) ?_; refine zO rfl (Rd.fA rfl) ?_
      refine XOA.wr0 rfl (WrA.st (tyrow rfl) rfl) ?_
      rintro _ _ _ ⟨rfl, rfl, rfl⟩
      refine zN ?_
      refine DA.inb_normal ?_
      refine zT ?_; refine zS ?_; refine zR ?_; refine zO rfl Rd.asg ?_; refine zN ?_; refine zT ?_
      refine XA.ret ?_
      exact bodyA.ret (ResA.one rfl rfl) zE ⟨rfl, .refl _, BeG.of hkp⟩
    by_cases hk2 : xb ≤ k
    · rw [show doIn inp keep ⟨10, (a : Int), xb, xn⟩ ⟨⟨next + 1, n :: k :: s, rd, outn, 0, cells⟩, kept, out, wrong⟩ = ⟨⟨next + 1, s, rd, outn, 13, cells⟩, kept, out, wrong⟩ from by simp [doIn, hk2]]
      refine XA.condF rfl rfl ?_
      refine zS ?_; refine zR ?_; refine zO rfl (Rd.eql rfl rfl) ?_; refine zO rfl Rd.asg ?_; refine zN ?_; refine zT ?_
      refine XA.condF rfl rfl ?_
      refine zS ?_; refine zR ?_; refine zO rfl (Rd.eql rfl rfl) ?_; refine zO rfl Rd.asg ?_; refine zN ?_; refine zT ?_
      refine XA.condF rfl rfl ?_
      refine zS ?_; refine zS ?_; refine zR ?_; refine zO rfl (Rd.eql rfl rfl) ?_; refine zO rfl Rd.asg ?_; refine zN ?_; refine zT ?_
      refine XA.condF rfl rfl ?_
      refine zS ?_; refine zR ?_; refine zO rfl (Rd.eql rfl rfl) ?_; refine zO rfl Rd.asg ?_; refine zN ?_; refine zT ?_
      refine XA.condF rfl rfl ?_
      refine zS ?_; refine zR ?_; refine zO rfl (Rd.eql rfl rfl) ?_; refine zO rfl Rd.asg ?_; refine zN ?_; refine zT ?_
      refine XA.condF rfl rfl ?_
      refine zS ?_; refine zR ?_; refine zO rfl (Rd.eql rfl rfl) ?_; refine zO rfl Rd.asg ?_; refine zN ?_; refine zT ?_
      refine XA.condF rfl rfl ?_
      refine zR ?_; refine zO rfl (Rd.eql rfl rfl) ?_; refine zO rfl Rd.asg ?_; refine zN ?_; refine zT ?_
      refine XA.condF rfl rfl ?_
      refine zS ?_; refine zR ?_; refine zO rfl (Rd.eql rfl rfl) ?_; refine zO rfl Rd.asg ?_; refine zN ?_; refine zT ?_
      refine XA.condF rfl rfl ?_
      refine zS ?_; refine zR ?_; refine zO rfl (Rd.eql rfl rfl) ?_; refine zO rfl Rd.asg ?_; refine zN ?_; refine zT ?_
      refine XA.condT rfl rfl ?_
      refine zS ?_; refine zR ?_; refine zO rfl Rd.mv ?_
      refine XOA.wr0 rfl (WrA.cE (pop_b σ g _ _ _ _ _ _ _ _ _ _ _ _ _ _ _ _ _ (k :: s) _ hsl2) rfl) ?_
      rintro _ _ _ ⟨_, ⟨rfl, rfl, rfl⟩, rfl⟩
      refine XOA.cl ?_
      refine zO rfl Rd.asg ?_; refine zN ?_; refine zT ?_; refine zS ?_; refine zR ?_; refine zO rfl Rd.mv ?_
      refine XOA.wr0 rfl (WrA.cE (pop_b σ g _ _ _ _ _ _ _ _ _ _ _ _ _ _ _ _ _ (s) _ hsl1) rfl) ?_
      rintro _ _ _ ⟨_, ⟨rfl, rfl, rfl⟩, rfl⟩
      refine XOA.cl ?_
      refine zO rfl Rd.asg ?_; refine zN ?_; refine zT ?_; refine zS ?_; refine zR ?_; refine zO rfl Rd.mv ?_; refine zO rfl (Rd.lss rfl rfl) ?_; refine zO rfl Rd.mv ?_
      first | ((first | refine zW ?_ | refine zQ ?_); refine zO rfl Rd.mv ?_) | refine zU ?_ | refine zV ?_ | refine zZ ?_
      first | ((first | refine zW ?_ | refine zQ ?_); refine zO rfl (Rd.fA rfl) ?_) | refine zU ?_ | refine zV ?_ | refine zZ ?_
      first | ((first | refine zW ?_ | refine zQ ?_); refine zO rfl (Rd.ldC rfl (tyrow rfl) rfl) ?_) | refine zU ?_ | refine zV ?_ | refine zZ ?_
      first | ((first | refine zW ?_ | refine zQ ?_); refine zO rfl (Rd.geq rfl rfl) ?_) | refine zU ?_ | refine zV ?_ | refine zZ ?_
      refine zO rfl (by first | exact Rd.pT rfl | exact Rd.pF rfl | exact Rd.pP rfl) ?_
      refine zN ?_; refine zT ?_
      refine XA.condT rfl (by first | rfl | exact decide_eq_true (by omega)) ?_
      refine zR ?_; refine zO rfl Rd.mv ?_; refine zO rfl (Rd.nilCheck rfl) ?_; refine zO rfl (Rd.fA rfl) ?_; refine zO rfl (Rd.fA rfl) ?_
      refine XOA.wr0 rfl (WrA.st (tyrow rfl) rfl) ?_
      rintro _ _ _ ⟨rfl, rfl, rfl⟩
      refine zN ?_
      refine DA.inb_normal ?_
      refine zT ?_; refine zS ?_; refine zR ?_; refine zO rfl Rd.asg ?_; refine zN ?_; refine zT ?_
      refine XA.ret ?_
      exact bodyA.ret (ResA.one rfl rfl) zE ⟨rfl, .refl _, BeG.of hkp⟩
    obtain ⟨j, rfl⟩ : ∃ j : Nat, k = j := ⟨k.toNat, by omega⟩
    have ha2 : a + j < cells.length := by omega
    rw [show doIn inp keep ⟨10, (a : Int), xb, xn⟩ ⟨⟨next + 1, n :: (j : Int) :: s, rd, outn, 0, cells⟩, kept, out, wrong⟩ = ⟨⟨next + 1, s, rd, outn, 0, cells.set (a + j) n⟩, kept, out, wrong⟩ from by simp [doIn, hk2, show ((a : Int) + (j : Int)).toNat = a + j by omega]]
    have hcn : (cells.set (a + j) n).length = cells.length := by simp
    refine XA.condF rfl rfl ?_
    refine zS ?_; refine zR ?_; refine zO rfl (Rd.eql rfl rfl) ?_; refine zO rfl Rd.asg ?_; refine zN ?_; refine zT ?_
    refine XA.condF rfl rfl ?_
    refine zS ?_; refine zR ?_; refine zO rfl (Rd.eql rfl rfl) ?_; refine zO rfl Rd.asg ?_; refine zN ?_; refine zT ?_
    refine XA.condF rfl rfl ?_
    refine zS ?_; refine zS ?_; refine zR ?_; refine zO rfl (Rd.eql rfl rfl) ?_; refine zO rfl Rd.asg ?_; refine zN ?_; refine zT ?_
    refine XA.condF rfl rfl ?_
    refine zS ?_; refine zR ?_; refine zO rfl (Rd.eql rfl rfl) ?_; refine zO rfl Rd.asg ?_; refine zN ?_; refine zT ?_
    refine XA.condF rfl rfl ?_
    refine zS ?_; refine zR ?_; refine zO rfl (Rd.eql rfl rfl) ?_; refine zO rfl Rd.asg ?_; refine zN ?_; refine zT ?_
    refine XA.condF rfl rfl ?_
    refine zS ?_; refine zR ?_; refine zO rfl (Rd.eql rfl rfl) ?_; refine zO rfl Rd.asg ?_; refine zN ?_; refine zT ?_
    refine XA.condF rfl rfl ?_
    refine zR ?_; refine zO rfl (Rd.eql rfl rfl) ?_; refine zO rfl Rd.asg ?_; refine zN ?_; refine zT ?_
    refine XA.condF rfl rfl ?_
    refine zS ?_; refine zR ?_; refine zO rfl (Rd.eql rfl rfl) ?_; refine zO rfl Rd.asg ?_; refine zN ?_; refine zT ?_
    refine XA.condF rfl rfl ?_
    refine zS ?_; refine zR ?_; refine zO rfl (Rd.eql rfl rfl) ?_; refine zO rfl Rd.asg ?_; refine zN ?_; refine zT ?_
    refine XA.condT rfl rfl ?_
    refine zS ?_; refine zR ?_; refine zO rfl Rd.mv ?_
    refine XOA.wr0 rfl (WrA.cE (pop_b σ g _ _ _ _ _ _ _ _ _ _ _ _ _ _ _ _ _ ((j : Int) :: s) _ hsl2) rfl) ?_
    rintro _ _ _ ⟨_, ⟨rfl, rfl, rfl⟩, rfl⟩
    refine XOA.cl ?_
    refine zO rfl Rd.asg ?_; refine zN ?_; refine zT ?_; refine zS ?_; refine zR ?_; refine zO rfl Rd.mv ?_
    refine XOA.wr0 rfl (WrA.cE (pop_b σ g _ _ _ _ _ _ _ _ _ _ _ _ _ _ _ _ _ (s) _ hsl1) rfl) ?_
    rintro _ _ _ ⟨_, ⟨rfl, rfl, rfl⟩, rfl⟩
    refine XOA.cl ?_
    refine zO rfl Rd.asg ?_; refine zN ?_; refine zT ?_; refine zS ?_; refine zR ?_; refine zO rfl Rd.mv ?_; refine zO rfl (Rd.lss rfl rfl) ?_; refine zO rfl Rd.mv ?_
    first | ((first | refine zW ?_ | refine zQ ?_); refine zO rfl Rd.mv ?_) | refine zU ?_ | refine zV ?_ | refine zZ ?_
    first | ((first | refine zW ?_ | refine zQ ?_); refine zO rfl (Rd.fA rfl) ?_) | refine zU ?_ | refine zV ?_ | refine zZ ?_
    first | ((first | refine zW ?_ | refine zQ ?_); refine zO rfl (Rd.ldC rfl (tyrow rfl) rfl) ?_) | refine zU ?_ | refine zV ?_ | refine zZ ?_
    first | ((first | refine zW ?_ | refine zQ ?_); refine zO rfl (Rd.geq rfl rfl) ?_) | refine zU ?_ | refine zV ?_ | refine zZ ?_
    refine zO rfl (by first | exact Rd.pT rfl | exact Rd.pF rfl | exact Rd.pP rfl) ?_
    refine zN ?_; refine zT ?_
    first | refine XA.opn (R := lst 2 1 (.slice pl cells.length cl) _ _) (by ((repeat (first | with_reducible exact Sel.head | apply Sel.tail)); (first | done | fail))) (lst_openW (by omega)) ?_ | refine XOA.opn (R := lst 2 1 (.slice pl cells.length cl) _ _) (by ((repeat (first | with_reducible exact Sel.head | apply Sel.tail)); (first | done | fail))) (lst_openW (by omega)) ?_ | refine DA.opn (R := lst 2 1 (.slice pl cells.length cl) _ _) (by ((repeat (first | with_reducible exact Sel.head | apply Sel.tail)); (first | done | fail))) (lst_openW (by omega)) ?_
    rintro ⟨g6, rest⟩ ⟨rfl, hcc, hcm, hcx, hcr⟩
    first | refine XA.cl ?_ | refine XOA.cl ?_ | refine DA.cl ?_
    have hspl : splice (ints cells ++ rest) (a + j) [i64 n] = ints (cells.set (a + j) n) ++ rest := cells_write n ha2
    have hfit : a + j + ty2.size ≤ (ints cells ++ rest).length := by rw [List.length_append, show (ints cells).length = cells.length by simp [ints]]; show a + j + 1 ≤ _; omega
    have hv2 : IntKind.i64.wrap ((a : Int) + (j : Int)) = ((a + j : Nat) : Int) := by rw [X.wrap64_in (by omega) (by omega)]; omega
    refine XA.condF rfl (by first | rfl | exact decide_eq_false (by omega)) ?_
    refine XA.draw (by kernel_rfl) _ _ [11] [(0, .pu), (1, .pu), (2, .pu), (3, .pu), (4, .rd), (5, .pu), (6, .rd), (7, .pu), (8, .pu), (9, .pu), (10, .pu), (11, .wr)] (by kernel_rfl) (PH.sub.refl _) (Ent.sel (R := blk g _ _) (by ((repeat (first | with_reducible exact Sel.head | apply Sel.tail)); (first | done | fail))) (Ent.sel (R := blk g5 _ _) (by ((repeat (first | with_reducible exact Sel.head | apply Sel.tail)); (first | done | fail))) (Ent.nil _))) ?_
    refine XPA.pu rfl rfl Gd.free Rd.mv ?_
    refine XPA.pu rfl rfl Gd.free (Rd.nilCheck rfl) ?_
    refine XPA.pu rfl rfl Gd.free (Rd.fA rfl) ?_
    refine XPA.pu rfl rfl Gd.free (Rd.fA rfl) ?_
    refine XPA.rd rfl rfl Gd.free (Rd.ldC rfl (tyrow rfl) rfl) ?_
    refine XPA.pu rfl rfl Gd.free (Rd.fA rfl) ?_
    refine XPA.rd rfl rfl Gd.free (Rd.ldC rfl (tyrow rfl) rfl) ?_
    refine XPA.pu rfl rfl Gd.free Rd.mv ?_
    refine XPA.pu rfl rfl Gd.free (by first | exact Rd.adi rfl rfl | exact Rd.add rfl rfl) ?_
    refine XPA.pu rfl rfl Gd.free Rd.mv ?_
    refine XPA.pu rfl rfl Gd.free (Rd.ixS rfl rfl) ?_
    refine XPA.wrZ0 rfl rfl Gd.free (by kernel_rfl) (WrA.st (tyrow rfl) rfl) ?_
    rintro _ _ _ ⟨rfl, rfl, rfl⟩
    refine XPA.nil ?_
    refine DA.inb_normal ?_
    refine zT ?_; refine zS ?_; refine zR ?_; refine zO rfl Rd.asg ?_; refine zN ?_; refine zT ?_
    refine XA.ret ?_
    refine DA.ent (Ent.foldC (Θ := [blk g6 (ints (cells.set (a + j) n) ++ rest) 2]) (by (repeat (first | exact Ent.all _ | (apply Ent.take; focus (first | ((repeat (first | with_reducible exact Sel.head | apply Sel.tail)); done) | ((repeat (first | exact Sel.head | apply Sel.tail)); done))) | apply Ent.takeNil | apply Ent.takeEmp)); (first | done | fail)) (lst_close (size := 1) (n := cells.length) (c := cl) (rest := rest) (by simp [ints]) hcc hcm (by simpa [ints] using hcr)) (Ent.refl _)) ?_
    rw [← hcn]
    exact bodyA.ret (ResA.one rfl rfl) zE ⟨rfl, .refl _, BeG.of hkp⟩
  by_cases h11 : xop = 11
  · subst h11
    clear hx
    obtain ⟨n, s, rfl⟩ : ∃ n s, stack = n :: s := by
      cases stack with
      | nil => simp [popA] at hpop
      | cons n s => exact ⟨n, s, rfl⟩
    have hsl1 : s.length ≤ 1000 := by simp only [List.length_cons] at hsl; omega
    by_cases hoe : outn = out.length
    · rw [show doIn inp keep ⟨11, xa, xb, xn⟩ ⟨⟨next + 1, n :: s, rd, outn, 0, cells⟩, kept, out, wrong⟩ = ⟨⟨next + 1, s, rd, outn + 1, 0, cells⟩, kept, out ++ [n], wrong⟩ from by simp [doIn, hoe]]
      have hoe2 : ((outn : Nat) : Int) = ((out.length : Nat) : Int) := by omega
      have ho1 : ints (out ++ [n]) = ints out ++ [i64 n] := by simp [ints]
      have ho2 : (out ++ [n]).length = out.length + 1 := by simp
      refine XA.condF rfl rfl ?_
      refine zS ?_; refine zR ?_; refine zO rfl (Rd.eql rfl rfl) ?_; refine zO rfl Rd.asg ?_; refine zN ?_; refine zT ?_
      refine XA.condF rfl rfl ?_
      refine zS ?_; refine zR ?_; refine zO rfl (Rd.eql rfl rfl) ?_; refine zO rfl Rd.asg ?_; refine zN ?_; refine zT ?_
      refine XA.condF rfl rfl ?_
      refine zS ?_; refine zS ?_; refine zR ?_; refine zO rfl (Rd.eql rfl rfl) ?_; refine zO rfl Rd.asg ?_; refine zN ?_; refine zT ?_
      refine XA.condF rfl rfl ?_
      refine zS ?_; refine zR ?_; refine zO rfl (Rd.eql rfl rfl) ?_; refine zO rfl Rd.asg ?_; refine zN ?_; refine zT ?_
      refine XA.condF rfl rfl ?_
      refine zS ?_; refine zR ?_; refine zO rfl (Rd.eql rfl rfl) ?_; refine zO rfl Rd.asg ?_; refine zN ?_; refine zT ?_
      refine XA.condF rfl rfl ?_
      refine zS ?_; refine zR ?_; refine zO rfl (Rd.eql rfl rfl) ?_; refine zO rfl Rd.asg ?_; refine zN ?_; refine zT ?_
      refine XA.condF rfl rfl ?_
      refine zR ?_; refine zO rfl (Rd.eql rfl rfl) ?_; refine zO rfl Rd.asg ?_; refine zN ?_; refine zT ?_
      refine XA.condF rfl rfl ?_
      refine zS ?_; refine zR ?_; refine zO rfl (Rd.eql rfl rfl) ?_; refine zO rfl Rd.asg ?_; refine zN ?_; refine zT ?_
      refine XA.condF rfl rfl ?_
      refine zS ?_; refine zR ?_; refine zO rfl (Rd.eql rfl rfl) ?_; refine zO rfl Rd.asg ?_; refine zN ?_; refine zT ?_
      refine XA.condF rfl rfl ?_
      refine zS ?_; refine zR ?_; refine zO rfl (Rd.eql rfl rfl) ?_; refine zO rfl Rd.asg ?_; refine zN ?_; refine zT ?_
      refine XA.condT rfl rfl ?_
      refine zS ?_; refine zR ?_; refine zO rfl Rd.mv ?_
      refine XOA.wr0 rfl (WrA.cE (pop_b σ g _ _ _ _ _ _ _ _ _ _ _ _ _ _ _ _ _ (s) _ hsl1) rfl) ?_
      rintro _ _ _ ⟨_, ⟨rfl, rfl, rfl⟩, rfl⟩
      refine XOA.cl ?_
      refine zO rfl Rd.asg ?_; refine zN ?_; refine zT ?_; refine zS ?_; refine zS ?_
      refine XA.draw (by kernel_rfl) _ _ [] [(0, .pu), (1, .pu), (2, .pu), (3, .pu), (4, .rd), (5, .pu), (6, .pu), (7, .pu), (8, .rd), (9, .pu), (10, .pu)] (by kernel_rfl) (PH.sub.refl _) (Ent.sel (R := blk g _ _) (by ((repeat (first | with_reducible exact Sel.head | apply Sel.tail)); (first | done | fail))) (Ent.sel (R := lst 2 1 (.slice op out.length oc) _ _) (by ((repeat (first | with_reducible exact Sel.head | apply Sel.tail)); (first | done | fail))) (Ent.nil _))) ?_
      refine XPA.pu rfl rfl Gd.free Rd.mv ?_
      refine XPA.pu rfl rfl Gd.free (Rd.nilCheck rfl) ?_
      refine XPA.pu rfl rfl Gd.free (Rd.fA rfl) ?_
      refine XPA.pu rfl rfl Gd.free (Rd.fA rfl) ?_
      refine XPA.rd rfl rfl Gd.free (Rd.ldC rfl (tyrow rfl) rfl) ?_
      refine XPA.pu rfl rfl Gd.free Rd.mv ?_
      refine XPA.pu rfl rfl Gd.free (Rd.nilCheck rfl) ?_
      refine XPA.pu rfl rfl Gd.free (Rd.fA rfl) ?_
      refine XPA.rd rfl rfl Gd.free (Rd.ldC rfl (tyrow rfl) rfl) ?_
      refine XPA.pu rfl rfl Gd.free (Rd.lenSlice (tyrow rfl) rfl rfl) ?_
      refine XPA.pu rfl rfl Gd.free (Rd.eql rfl rfl) ?_
      refine XPA.nil ?_
      refine zT ?_
      refine XA.condT rfl (decide_eq_true hoe2) ?_
      refine zR ?_; refine zO rfl Rd.mv ?_; refine zO rfl Rd.mv ?_; refine zO rfl (Rd.nilCheck rfl) ?_; refine zO rfl (Rd.fA rfl) ?_; refine zO rfl (Rd.ldC rfl (tyrow rfl) rfl) ?_; refine zO rfl Rd.mv ?_
      refine XOA.wr0 rfl (WrA.bs1 (tyrow rfl) rfl (tyrow rfl)) ?_
      rintro _ _ _ ⟨g197, rfl, rfl, rfl⟩
      refine XOA.wr0 rfl (WrA.ap1 (tyrow rfl) rfl (tyrow rfl) rfl rfl rfl) ?_
      rintro _ _ _ ⟨p198, c198, rfl, rfl, rfl⟩
      refine zO rfl (Rd.nilCheck rfl) ?_; refine zO rfl (Rd.fA rfl) ?_
      refine XOA.wr0 rfl (WrA.st (tyrow rfl) rfl) ?_
      rintro _ _ _ ⟨rfl, rfl, rfl⟩
      refine zN ?_; refine zT ?_; refine zR ?_; refine zO rfl Rd.mv ?_; refine zO rfl (Rd.nilCheck rfl) ?_; refine zO rfl (Rd.fA rfl) ?_; refine zO rfl (Rd.fA rfl) ?_; refine zO rfl (Rd.ldC rfl (tyrow rfl) rfl) ?_
      refine zO rfl (by first | exact Rd.adi rfl rfl | exact Rd.add rfl rfl) ?_
      refine zO rfl (Rd.nilCheck rfl) ?_; refine zO rfl (Rd.fA rfl) ?_; refine zO rfl (Rd.fA rfl) ?_
      refine XOA.wr0 rfl (WrA.st (tyrow rfl) rfl) ?_
      rintro _ _ _ ⟨rfl, rfl, rfl⟩
      refine zN ?_
      refine DA.inb_normal ?_
      refine zT ?_; refine zS ?_; refine zR ?_; refine zO rfl Rd.asg ?_; refine zN ?_; refine zT ?_
      refine XA.ret ?_
      rw [show ints out ++ [Value.int .i64 n] = ints (out ++ [n]) from ho1.symm, ← ho2]
      exact bodyA.ret (ResA.one rfl rfl) zE ⟨rfl, .refl _, BeG.of hkp⟩
    have hol1 : outn < out.length := by omega
    have hoe2 : ¬ ((outn : Nat) : Int) = ((out.length : Nat) : Int) := by omega
    have hv : (ints out)[outn]? = some (i64 (out.getD outn 0)) := by simp [ints, hol1]
    obtain ⟨y, hy⟩ : ∃ y, y = out.getD outn 0 := ⟨_, rfl⟩
    have hy2 : out[outn]?.getD 0 = y := by rw [hy, List.getD_eq_getElem?_getD]
    rw [← hy] at hv
    by_cases hne : y = n
    · rw [show doIn inp keep ⟨11, xa, xb, xn⟩ ⟨⟨next + 1, n :: s, rd, outn, 0, cells⟩, kept, out, wrong⟩ = ⟨⟨next + 1, s, rd, outn + 1, 0, cells⟩, kept, out, wrong⟩ from by simp [doIn, hoe, hy2, hne]]
      refine XA.condF rfl rfl ?_
      refine zS ?_; refine zR ?_; refine zO rfl (Rd.eql rfl rfl) ?_; refine zO rfl Rd.asg ?_; refine zN ?_; refine zT ?_
      refine XA.condF rfl rfl ?_
      refine zS ?_; refine zR ?_; refine zO rfl (Rd.eql rfl rfl) ?_; refine zO rfl Rd.asg ?_; refine zN ?_; refine zT ?_
      refine XA.condF rfl rfl ?_
      refine zS ?_; refine zS ?_; refine zR ?_; refine zO rfl (Rd.eql rfl rfl) ?_; refine zO rfl Rd.asg ?_; refine zN ?_; refine zT ?_
      refine XA.condF rfl rfl ?_
      refine zS ?_; refine zR ?_; refine zO rfl (Rd.eql rfl rfl) ?_; refine zO rfl Rd.asg ?_; refine zN ?_; refine zT ?_
      refine XA.condF rfl rfl ?_
      refine zS ?_; refine zR ?_; refine zO rfl (Rd.eql rfl rfl) ?_; refine zO rfl Rd.asg ?_; refine zN ?_; refine zT ?_
      refine XA.condF rfl rfl ?_
      refine zS ?_; refine zR ?_; refine zO rfl (Rd.eql rfl rfl) ?_; refine zO rfl Rd.asg ?_; refine zN ?_; refine zT ?_
      refine XA.condF rfl rfl ?_
      refine zR ?_; refine zO rfl (Rd.eql rfl rfl) ?_; refine zO rfl Rd.asg ?_; refine zN ?_; refine zT ?_
      refine XA.condF rfl rfl ?_
      refine zS ?_; refine zR ?_; refine zO rfl (Rd.eql rfl rfl) ?_; refine zO rfl Rd.asg ?_; refine zN ?_; refine zT ?_
      refine XA.condF rfl rfl ?_
      refine zS ?_; refine zR ?_; refine zO rfl (Rd.eql rfl rfl) ?_; refine zO rfl Rd.asg ?_; refine zN ?_; refine zT ?_
      refine XA.condF rfl rfl ?_
      refine zS ?_; refine zR ?_; refine zO rfl (Rd.eql rfl rfl) ?_; refine zO rfl Rd.asg ?_; refine zN ?_; refine zT ?_
      refine XA.condT rfl rfl ?_
      refine zS ?_; refine zR ?_; refine zO rfl Rd.mv ?_
      refine XOA.wr0 rfl (WrA.cE (pop_b σ g _ _ _ _ _ _ _ _ _ _ _ _ _ _ _ _ _ (s) _ hsl1) rfl) ?_
      rintro _ _ _ ⟨_, ⟨rfl, rfl, rfl⟩, rfl⟩
      refine XOA.cl ?_
      refine zO rfl Rd.asg ?_; refine zN ?_; refine zT ?_; refine zS ?_; refine zS ?_
      refine XA.draw (by kernel_rfl) _ _ [] [(0, .pu), (1, .pu), (2, .pu), (3, .pu), (4, .rd), (5, .pu), (6, .pu), (7, .pu), (8, .rd), (9, .pu), (10, .pu)] (by kernel_rfl) (PH.sub.refl _) (Ent.sel (R := blk g _ _) (by ((repeat (first | with_reducible exact Sel.head | apply Sel.tail)); (first | done | fail))) (Ent.nil _)) ?_
      refine XPA.pu rfl rfl Gd.free Rd.mv ?_
      refine XPA.pu rfl rfl Gd.free (Rd.nilCheck rfl) ?_
      refine XPA.pu rfl rfl Gd.free (Rd.fA rfl) ?_
      refine XPA.pu rfl rfl Gd.free (Rd.fA rfl) ?_
      refine XPA.rd rfl rfl Gd.free (Rd.ldC rfl (tyrow rfl) rfl) ?_
      refine XPA.pu rfl rfl Gd.free Rd.mv ?_
      refine XPA.pu rfl rfl Gd.free (Rd.nilCheck rfl) ?_
      refine XPA.pu rfl rfl Gd.free (Rd.fA rfl) ?_
      refine XPA.rd rfl rfl Gd.free (Rd.ldC rfl (tyrow rfl) rfl) ?_
      refine XPA.pu rfl rfl Gd.free (Rd.lenSlice (tyrow rfl) rfl rfl) ?_
      refine XPA.pu rfl rfl Gd.free (Rd.eql rfl rfl) ?_
      refine XPA.nil ?_
      refine zT ?_
      refine XA.condF rfl (decide_eq_false hoe2) ?_
      refine zS ?_
      first | refine XA.opn (R := lst 2 1 (.slice op out.length oc) _ _) (by ((repeat (first | with_reducible exact Sel.head | apply Sel.tail)); (first | done | fail))) (lst_some (by omega)) ?_ | refine XOA.opn (R := lst 2 1 (.slice op out.length oc) _ _) (by ((repeat (first | with_reducible exact Sel.head | apply Sel.tail)); (first | done | fail))) (lst_some (by omega)) ?_ | refine DA.opn (R := lst 2 1 (.slice op out.length oc) _ _) (by ((repeat (first | with_reducible exact Sel.head | apply Sel.tail)); (first | done | fail))) (lst_some (by omega)) ?_
      rintro g7 rfl
      first | refine XA.cl ?_ | refine XOA.cl ?_ | refine DA.cl ?_
      refine XA.draw (by kernel_rfl) _ _ [] [(0, .pu), (1, .pu), (2, .pu), (3, .rd), (4, .pu), (5, .pu), (6, .pu), (7, .pu), (8, .rd), (9, .pu), (10, .rd), (11, .pu), (12, .pu)] (by kernel_rfl) (PH.sub.refl _) (Ent.sel (R := blk g _ _) (by ((repeat (first | with_reducible exact Sel.head | apply Sel.tail)); (first | done | fail))) (Ent.sel (R := lst 2 1 (.slice (some ⟨g7, 0, none⟩) out.length oc) _ _) (by ((repeat (first | with_reducible exact Sel.head | apply Sel.tail)); (first | done | fail))) (Ent.nil _))) ?_
      refine XPA.pu rfl rfl Gd.free Rd.mv ?_
      refine XPA.pu rfl rfl Gd.free (Rd.nilCheck rfl) ?_
      refine XPA.pu rfl rfl Gd.free (Rd.fA rfl) ?_
      refine XPA.rd rfl rfl Gd.free (Rd.ldC rfl (tyrow rfl) rfl) ?_
      refine XPA.pu rfl rfl Gd.free Rd.mv ?_
      refine XPA.pu rfl rfl Gd.free (Rd.nilCheck rfl) ?_
      refine XPA.pu rfl rfl Gd.free (Rd.fA rfl) ?_
      refine XPA.pu rfl rfl Gd.free (Rd.fA rfl) ?_
      refine XPA.rd rfl rfl Gd.free (Rd.ldC rfl (tyrow rfl) rfl) ?_
      refine XPA.pu rfl rfl Gd.free (Rd.ixS rfl rfl) ?_
      refine XPA.rd rfl rfl Gd.free (Rd.ldC rfl (tyrow rfl) rfl) ?_
      refine XPA.pu rfl rfl Gd.free Rd.mv ?_
      refine XPA.pu rfl rfl Gd.free (Rd.neq rfl rfl) ?_
      refine XPA.nil ?_
      refine zT ?_
      refine XA.condF rfl (decide_eq_false (fun h => h hne)) ?_
      refine XA.skip ?_
      refine zT ?_; refine zR ?_; refine zO rfl Rd.mv ?_; refine zO rfl (Rd.nilCheck rfl) ?_; refine zO rfl (Rd.fA rfl) ?_; refine zO rfl (Rd.fA rfl) ?_; refine zO rfl (Rd.ldC rfl (tyrow rfl) rfl) ?_
      refine zO rfl (by first | exact Rd.adi rfl rfl | exact Rd.add rfl rfl) ?_
      refine zO rfl (Rd.nilCheck rfl) ?_; refine zO rfl (Rd.fA rfl) ?_; refine zO rfl (Rd.fA rfl) ?_
      refine XOA.wr0 rfl (WrA.st (tyrow rfl) rfl) ?_
      rintro _ _ _ ⟨rfl, rfl, rfl⟩
      refine zN ?_
      refine DA.inb_normal ?_
      refine zT ?_; refine zS ?_; refine zR ?_; refine zO rfl Rd.asg ?_; refine zN ?_; refine zT ?_
      refine XA.ret ?_
      exact bodyA.ret (ResA.one rfl rfl) zE ⟨rfl, .refl _, BeG.of hkp⟩
    rw [show doIn inp keep ⟨11, xa, xb, xn⟩ ⟨⟨next + 1, n :: s, rd, outn, 0, cells⟩, kept, out, wrong⟩ = ⟨⟨next + 1, s, rd, outn + 1, 0, cells⟩, kept, out, true⟩ from by simp [doIn, hoe, hy2, hne]]
    refine XA.condF rfl rfl ?_
    refine zS ?_; refine zR ?_; refine zO rfl (Rd.eql rfl rfl) ?_; refine zO rfl Rd.asg ?_; refine zN ?_; refine zT ?_
    refine XA.condF rfl rfl ?_
    refine zS ?_; refine zR ?_; refine zO rfl (Rd.eql rfl rfl) ?_; refine zO rfl Rd.asg ?_; refine zN ?_; refine zT ?_
    refine XA.condF rfl rfl ?_
    refine zS ?_; refine zS ?_; refine zR ?_; refine zO rfl (Rd.eql rfl rfl) ?_; refine zO rfl Rd.asg ?_; refine zN ?_; refine zT ?_
    refine XA.condF rfl rfl ?_
    refine zS ?_; refine zR ?_; refine zO rfl (Rd.eql rfl rfl) ?_; refine zO rfl Rd.asg ?_; refine zN ?_; refine zT ?_
    refine XA.condF rfl rfl ?_
    refine zS ?_; refine zR ?_; refine zO rfl (Rd.eql rfl rfl) ?_; refine zO rfl Rd.asg ?_; refine zN ?_; refine zT ?_
    refine XA.condF rfl rfl ?_
    refine zS ?_; refine zR ?_; refine zO rfl (Rd.eql rfl rfl) ?_; refine zO rfl Rd.asg ?_; refine zN ?_; refine zT ?_
    refine XA.condF rfl rfl ?_
    refine zR ?_; refine zO rfl (Rd.eql rfl rfl) ?_; refine zO rfl Rd.asg ?_; refine zN ?_; refine zT ?_
    refine XA.condF rfl rfl ?_
    refine zS ?_; refine zR ?_; refine zO rfl (Rd.eql rfl rfl) ?_; refine zO rfl Rd.asg ?_; refine zN ?_; refine zT ?_
    refine XA.condF rfl rfl ?_
    refine zS ?_; refine zR ?_; refine zO rfl (Rd.eql rfl rfl) ?_; refine zO rfl Rd.asg ?_; refine zN ?_; refine zT ?_
    refine XA.condF rfl rfl ?_
    refine zS ?_; refine zR ?_; refine zO rfl (Rd.eql rfl rfl) ?_; refine zO rfl Rd.asg ?_; refine zN ?_; refine zT ?_
    refine XA.condT rfl rfl ?_
    refine zS ?_; refine zR ?_; refine zO rfl Rd.mv ?_
    refine XOA.wr0 rfl (WrA.cE (pop_b σ g _ _ _ _ _ _ _ _ _ _ _ _ _ _ _ _ _ (s) _ hsl1) rfl) ?_
    rintro _ _ _ ⟨_, ⟨rfl, rfl, rfl⟩, rfl⟩
    refine XOA.cl ?_
    refine zO rfl Rd.asg ?_; refine zN ?_; refine zT ?_; refine zS ?_; refine zS ?_
    refine XA.draw (by kernel_rfl) _ _ [] [(0, .pu), (1, .pu), (2, .pu), (3, .pu), (4, .rd), (5, .pu), (6, .pu), (7, .pu), (8, .rd), (9, .pu), (10, .pu)] (by kernel_rfl) (PH.sub.refl _) (Ent.sel (R := blk g _ _) (by ((repeat (first | with_reducible exact Sel.head | apply Sel.tail)); (first | done | fail))) (Ent.nil _)) ?_
    refine XPA.pu rfl rfl Gd.free Rd.mv ?_
    refine XPA.pu rfl rfl Gd.free (Rd.nilCheck rfl) ?_
    refine XPA.pu rfl rfl Gd.free (Rd.fA rfl) ?_
    refine XPA.pu rfl rfl Gd.free (Rd.fA rfl) ?_
    refine XPA.rd rfl rfl Gd.free (Rd.ldC rfl (tyrow rfl) rfl) ?_
    refine XPA.pu rfl rfl Gd.free Rd.mv ?_
    refine XPA.pu rfl rfl Gd.free (Rd.nilCheck rfl) ?_
    refine XPA.pu rfl rfl Gd.free (Rd.fA rfl) ?_
    refine XPA.rd rfl rfl Gd.free (Rd.ldC rfl (tyrow rfl) rfl) ?_
    refine XPA.pu rfl rfl Gd.free (Rd.lenSlice (tyrow rfl) rfl rfl) ?_
    refine XPA.pu rfl rfl Gd.free (Rd.eql rfl rfl) ?_
    refine XPA.nil ?_
    refine zT ?_
    refine XA.condF rfl (decide_eq_false hoe2) ?_
    refine zS ?_
    first | refine XA.opn (R := lst 2 1 (.slice op out.length oc) _ _) (by ((repeat (first | with_reducible exact Sel.head | apply Sel.tail)); (first | done | fail))) (lst_some (by omega)) ?_ | refine XOA.opn (R := lst 2 1 (.slice op out.length oc) _ _) (by ((repeat (first | with_reducible exact Sel.head | apply Sel.tail)); (first | done | fail))) (lst_some (by omega)) ?_ | refine DA.opn (R := lst 2 1 (.slice op out.length oc) _ _) (by ((repeat (first | with_reducible exact Sel.head | apply Sel.tail)); (first | done | fail))) (lst_some (by omega)) ?_
    rintro g7 rfl
    first | refine XA.cl ?_ | refine XOA.cl ?_ | refine DA.cl ?_
    refine XA.draw (by kernel_rfl) _ _ [] [(0, .pu), (1, .pu), (2, .pu), (3, .rd), (4, .pu), (5, .pu), (6, .pu), (7, .pu), (8, .rd), (9, .pu), (10, .rd), (11, .pu), (12, .pu)] (by kernel_rfl) (PH.sub.refl _) (Ent.sel (R := blk g _ _) (by ((repeat (first | with_reducible exact Sel.head | apply Sel.tail)); (first | done | fail))) (Ent.sel (R := lst 2 1 (.slice (some ⟨g7, 0, none⟩) out.length oc) _ _) (by ((repeat (first | with_reducible exact Sel.head | apply Sel.tail)); (first | done | fail))) (Ent.nil _))) ?_
    refine XPA.pu rfl rfl Gd.free Rd.mv ?_
    refine XPA.pu rfl rfl Gd.free (Rd.nilCheck rfl) ?_
    refine XPA.pu rfl rfl Gd.free (Rd.fA rfl) ?_
    refine XPA.rd rfl rfl Gd.free (Rd.ldC rfl (tyrow rfl) rfl) ?_
    refine XPA.pu rfl rfl Gd.free Rd.mv ?_
    refine XPA.pu rfl rfl Gd.free (Rd.nilCheck rfl) ?_
    refine XPA.pu rfl rfl Gd.free (Rd.fA rfl) ?_
    refine XPA.pu rfl rfl Gd.free (Rd.fA rfl) ?_
    refine XPA.rd rfl rfl Gd.free (Rd.ldC rfl (tyrow rfl) rfl) ?_
    refine XPA.pu rfl rfl Gd.free (Rd.ixS rfl rfl) ?_
    refine XPA.rd rfl rfl Gd.free (Rd.ldC rfl (tyrow rfl) rfl) ?_
    refine XPA.pu rfl rfl Gd.free Rd.mv ?_
    refine XPA.pu rfl rfl Gd.free (Rd.neq rfl rfl) ?_
    refine XPA.nil ?_
    refine zT ?_
    refine XA.condT rfl (decide_eq_true hne) ?_
    refine zR ?_; refine zO rfl Rd.mv ?_; refine zO rfl (Rd.nilCheck rfl) ?_; refine zO rfl (Rd.fA rfl) ?_
    refine XOA.wr0 rfl (WrA.st (tyrow rfl) rfl) ?_
    rintro _ _ _ ⟨rfl, rfl, rfl⟩
    refine zN ?_; refine zT ?_; refine zR ?_; refine zO rfl Rd.mv ?_; refine zO rfl (Rd.nilCheck rfl) ?_; refine zO rfl (Rd.fA rfl) ?_; refine zO rfl (Rd.fA rfl) ?_; refine zO rfl (Rd.ldC rfl (tyrow rfl) rfl) ?_
    refine zO rfl (by first | exact Rd.adi rfl rfl | exact Rd.add rfl rfl) ?_
    refine zO rfl (Rd.nilCheck rfl) ?_; refine zO rfl (Rd.fA rfl) ?_; refine zO rfl (Rd.fA rfl) ?_
    refine XOA.wr0 rfl (WrA.st (tyrow rfl) rfl) ?_
    rintro _ _ _ ⟨rfl, rfl, rfl⟩
    refine zN ?_
    refine DA.inb_normal ?_
    refine zT ?_; refine zS ?_; refine zR ?_; refine zO rfl Rd.asg ?_; refine zN ?_; refine zT ?_
    refine XA.ret ?_
    exact bodyA.ret (ResA.one rfl rfl) zE ⟨rfl, .refl _, BeG.of hkp⟩
  by_cases h12 : xop = 12
  · subst h12
    clear hx
    obtain ⟨ha0, ha1⟩ := hcell (by decide)
    obtain ⟨a, rfl⟩ : ∃ a : Nat, xa = a := ⟨xa.toNat, by omega⟩
    have ha2 : a < cells.length := by omega
    by_cases hri : inp.length ≤ rd
    · rw [show doIn inp keep ⟨12, (a : Int), xb, xn⟩ ⟨⟨next + 1, stack, rd, outn, 0, cells⟩, kept, out, wrong⟩ = ⟨⟨next + 1, stack, rd, outn, 14, cells⟩, kept, out, wrong⟩ from by simp [doIn, hri]]
      refine XA.condF rfl rfl ?_
      refine zS ?_; refine zR ?_; refine zO rfl (Rd.eql rfl rfl) ?_; refine zO rfl Rd.asg ?_; refine zN ?_; refine zT ?_
      refine XA.condF rfl rfl ?_
      refine zS ?_; refine zR ?_; refine zO rfl (Rd.eql rfl rfl) ?_; refine zO rfl Rd.asg ?_; refine zN ?_; refine zT ?_
      refine XA.condF rfl rfl ?_
      refine zS ?_; refine zS ?_; refine zR ?_; refine zO rfl (Rd.eql rfl rfl) ?_; refine zO rfl Rd.asg ?_; refine zN ?_; refine zT ?_
      refine XA.condF rfl rfl ?_
      refine zS ?_; refine zR ?_; refine zO rfl (Rd.eql rfl rfl) ?_; refine zO rfl Rd.asg ?_; refine zN ?_; refine zT ?_
      refine XA.condF rfl rfl ?_
      refine zS ?_; refine zR ?_; refine zO rfl (Rd.eql rfl rfl) ?_; refine zO rfl Rd.asg ?_; refine zN ?_; refine zT ?_
      refine XA.condF rfl rfl ?_
      refine zS ?_; refine zR ?_; refine zO rfl (Rd.eql rfl rfl) ?_; refine zO rfl Rd.asg ?_; refine zN ?_; refine zT ?_
      refine XA.condF rfl rfl ?_
      refine zR ?_; refine zO rfl (Rd.eql rfl rfl) ?_; refine zO rfl Rd.asg ?_; refine zN ?_; refine zT ?_
      refine XA.condF rfl rfl ?_
      refine zS ?_; refine zR ?_; refine zO rfl (Rd.eql rfl rfl) ?_; refine zO rfl Rd.asg ?_; refine zN ?_; refine zT ?_
      refine XA.condF rfl rfl ?_
      refine zS ?_; refine zR ?_; refine zO rfl (Rd.eql rfl rfl) ?_; refine zO rfl Rd.asg ?_; refine zN ?_; refine zT ?_
      refine XA.condF rfl rfl ?_
      refine zS ?_; refine zR ?_; refine zO rfl (Rd.eql rfl rfl) ?_; refine zO rfl Rd.asg ?_; refine zN ?_; refine zT ?_
      refine XA.condF rfl rfl ?_
      refine zS ?_; refine zR ?_; refine zO rfl (Rd.eql rfl rfl) ?_; refine zO rfl Rd.asg ?_; refine zN ?_; refine zT ?_
      refine XA.condT rfl rfl ?_
      refine zS ?_
      refine XA.draw (by kernel_rfl) _ _ [] [(0, .pu), (1, .pu), (2, .pu), (3, .pu), (4, .rd), (5, .pu), (6, .pu), (7, .pu), (8, .rd), (9, .pu), (10, .pu)] (by kernel_rfl) (PH.sub.refl _) (Ent.sel (R := blk g _ _) (by ((repeat (first | with_reducible exact Sel.head | apply Sel.tail)); (first | done | fail))) (Ent.nil _)) ?_
      refine XPA.pu rfl rfl Gd.free Rd.mv ?_
      refine XPA.pu rfl rfl Gd.free (Rd.nilCheck rfl) ?_
      refine XPA.pu rfl rfl Gd.free (Rd.fA rfl) ?_
      refine XPA.pu rfl rfl Gd.free (Rd.fA rfl) ?_
      refine XPA.rd rfl rfl Gd.free (Rd.ldC rfl (tyrow rfl) rfl) ?_
      refine XPA.pu rfl rfl Gd.free Rd.mv ?_
      refine XPA.pu rfl rfl Gd.free (Rd.nilCheck rfl) ?_
      refine XPA.pu rfl rfl Gd.free (Rd.fA rfl) ?_
      refine XPA.rd rfl rfl Gd.free (Rd.ldC rfl (tyrow rfl) rfl) ?_
      refine XPA.pu rfl rfl Gd.free (Rd.lenSlice (tyrow rfl) rfl rfl) ?_
      refine XPA.pu rfl rfl Gd.free (Rd.geq rfl rfl) ?_
      refine XPA.nil ?_
      refine zT ?_
      refine XA.condT rfl (by first | rfl | exact decide_eq_true (by omega)) ?_
      refine zR ?_; refine zO rfl Rd.mv ?_; refine zO rfl (Rd.nilCheck rfl) ?_; refine zO rfl (Rd.fA rfl) ?_; refine zO rfl (Rd.fA rfl) ?_
      refine XOA.wr0 rfl (WrA.st (tyrow rfl) rfl) ?_
      rintro _ _ _ ⟨rfl, rfl, rfl⟩
      refine zN ?_
      refine DA.inb_normal ?_
      refine zT ?_; refine zS ?_; refine zR ?_; refine zO rfl Rd.asg ?_; refine zN ?_; refine zT ?_
      refine XA.ret ?_
      exact bodyA.ret (ResA.one rfl rfl) zE ⟨rfl, .refl _, BeG.of hkp⟩
    have hri2 : rd < inp.length := by omega
    obtain ⟨y, hy⟩ : ∃ y, inp[rd]? = some y := ⟨_, List.getElem?_eq_getElem hri2⟩
    obtain ⟨gi, oi, rfl, hri3⟩ := hi.at hy
    rw [Nat.mul_one] at hri3
    have hy2 : inp[rd] = y := (List.getElem?_eq_some_iff.1 hy).2
    rw [show doIn inp keep ⟨12, (a : Int), xb, xn⟩ ⟨⟨next + 1, stack, rd, outn, 0, cells⟩, kept, out, wrong⟩ = ⟨⟨next + 1, stack, rd + 1, outn, 0, cells.set a y⟩, kept, out, wrong⟩ from by simp [doIn, hri, hy]]
    have hcn : (cells.set a y).length = cells.length := by simp
    first | refine XA.opn (R := lst 2 1 (.slice pl cells.length cl) _ _) (by ((repeat (first | with_reducible exact Sel.head | apply Sel.tail)); (first | done | fail))) (lst_openW (by omega)) ?_ | refine XOA.opn (R := lst 2 1 (.slice pl cells.length cl) _ _) (by ((repeat (first | with_reducible exact Sel.head | apply Sel.tail)); (first | done | fail))) (lst_openW (by omega)) ?_ | refine DA.opn (R := lst 2 1 (.slice pl cells.length cl) _ _) (by ((repeat (first | with_reducible exact Sel.head | apply Sel.tail)); (first | done | fail))) (lst_openW (by omega)) ?_
    rintro ⟨g6, rest⟩ ⟨rfl, hcc, hcm, hcx, hcr⟩
    first | refine XA.cl ?_ | refine XOA.cl ?_ | refine DA.cl ?_
    have hspl : splice (ints cells ++ rest) a [i64 y] = ints (cells.set a y) ++ rest := cells_write y ha2
    have hfit : a + ty2.size ≤ (ints cells ++ rest).length := by rw [List.length_append, show (ints cells).length = cells.length by simp [ints]]; show a + 1 ≤ _; omega
    refine XA.condF rfl rfl ?_
    refine zS ?_; refine zR ?_; refine zO rfl (Rd.eql rfl rfl) ?_; refine zO rfl Rd.asg ?_; refine zN ?_; refine zT ?_
    refine XA.condF rfl rfl ?_
    refine zS ?_; refine zR ?_; refine zO rfl (Rd.eql rfl rfl) ?_; refine zO rfl Rd.asg ?_; refine zN ?_; refine zT ?_
    refine XA.condF rfl rfl ?_
    refine zS ?_; refine zS ?_; refine zR ?_; refine zO rfl (Rd.eql rfl rfl) ?_; refine zO rfl Rd.asg ?_; refine zN ?_; refine zT ?_
    refine XA.condF rfl rfl ?_
    refine zS ?_; refine zR ?_; refine zO rfl (Rd.eql rfl rfl) ?_; refine zO rfl Rd.asg ?_; refine zN ?_; refine zT ?_
    refine XA.condF rfl rfl ?_
    refine zS ?_; refine zR ?_; refine zO rfl (Rd.eql rfl rfl) ?_; refine zO rfl Rd.asg ?_; refine zN ?_; refine zT ?_
    refine XA.condF rfl rfl ?_
    refine zS ?_; refine zR ?_; refine zO rfl (Rd.eql rfl rfl) ?_; refine zO rfl Rd.asg ?_; refine zN ?_; refine zT ?_
    refine XA.condF rfl rfl ?_
    refine zR ?_; refine zO rfl (Rd.eql rfl rfl) ?_; refine zO rfl Rd.asg ?_; refine zN ?_; refine zT ?_
    refine XA.condF rfl rfl ?_
    refine zS ?_; refine zR ?_; refine zO rfl (Rd.eql rfl rfl) ?_; refine zO rfl Rd.asg ?_; refine zN ?_; refine zT ?_
    refine XA.condF rfl rfl ?_
    refine zS ?_; refine zR ?_; refine zO rfl (Rd.eql rfl rfl) ?_; refine zO rfl Rd.asg ?_; refine zN ?_; refine zT ?_
    refine XA.condF rfl rfl ?_
    refine zS ?_; refine zR ?_; refine zO rfl (Rd.eql rfl rfl) ?_; refine zO rfl Rd.asg ?_; refine zN ?_; refine zT ?_
    refine XA.condF rfl rfl ?_
    refine zS ?_; refine zR ?_; refine zO rfl (Rd.eql rfl rfl) ?_; refine zO rfl Rd.asg ?_; refine zN ?_; refine zT ?_
    refine XA.condT rfl rfl ?_
    refine zS ?_
    refine XA.draw (by kernel_rfl) _ _ [] [(0, .pu), (1, .pu), (2, .pu), (3, .pu), (4, .rd), (5, .pu), (6, .pu), (7, .pu), (8, .rd), (9, .pu), (10, .pu)] (by kernel_rfl) (PH.sub.refl _) (Ent.sel (R := blk g _ _) (by ((repeat (first | with_reducible exact Sel.head | apply Sel.tail)); (first | done | fail))) (Ent.nil _)) ?_
    refine XPA.pu rfl rfl Gd.free Rd.mv ?_
    refine XPA.pu rfl rfl Gd.free (Rd.nilCheck rfl) ?_
    refine XPA.pu rfl rfl Gd.free (Rd.fA rfl) ?_
    refine XPA.pu rfl rfl Gd.free (Rd.fA rfl) ?_
    refine XPA.rd rfl rfl Gd.free (Rd.ldC rfl (tyrow rfl) rfl) ?_
    refine XPA.pu rfl rfl Gd.free Rd.mv ?_
    refine XPA.pu rfl rfl Gd.free (Rd.nilCheck rfl) ?_
    refine XPA.pu rfl rfl Gd.free (Rd.fA rfl) ?_
    refine XPA.rd rfl rfl Gd.free (Rd.ldC rfl (tyrow rfl) rfl) ?_
    refine XPA.pu rfl rfl Gd.free (Rd.lenSlice (tyrow rfl) rfl rfl) ?_
    refine XPA.pu rfl rfl Gd.free (Rd.geq rfl rfl) ?_
    refine XPA.nil ?_
    refine zT ?_
    refine XA.condF rfl (by first | rfl | exact decide_eq_false (by omega)) ?_
    refine zS ?_
    refine XA.draw (by kernel_rfl) _ _ [19] [(0, .pu), (1, .pu), (2, .pu), (3, .pu), (4, .rd), (5, .pu), (6, .rd), (7, .pu), (8, .pu), (9, .pu), (10, .rd), (11, .pu), (12, .pu), (13, .pu), (14, .pu), (15, .rd), (16, .pu), (17, .rd), (18, .pu), (19, .wr)] (by kernel_rfl) (PH.sub.refl _) (Ent.sel (R := blk g _ _) (by ((repeat (first | with_reducible exact Sel.head | apply Sel.tail)); (first | done | fail))) (Ent.sel (R := blk g5 _ _) (by ((repeat (first | with_reducible exact Sel.head | apply Sel.tail)); (first | done | fail))) (Ent.nil _))) ?_
    refine XPA.pu rfl rfl Gd.free Rd.mv ?_
    refine XPA.pu rfl rfl Gd.free (Rd.nilCheck rfl) ?_
    refine XPA.pu rfl rfl Gd.free (Rd.fA rfl) ?_
    refine XPA.pu rfl rfl Gd.free (Rd.fA rfl) ?_
    refine XPA.rd rfl rfl Gd.free (Rd.ldC rfl (tyrow rfl) rfl) ?_
    refine XPA.pu rfl rfl Gd.free (Rd.fA rfl) ?_
    refine XPA.rd rfl rfl Gd.free (Rd.ldC rfl (tyrow rfl) rfl) ?_
    refine XPA.pu rfl rfl Gd.free Rd.mv ?_
    refine XPA.pu rfl rfl Gd.free (Rd.nilCheck rfl) ?_
    refine XPA.pu rfl rfl Gd.free (Rd.fA rfl) ?_
    refine XPA.rd rfl rfl Gd.free (Rd.ldC rfl (tyrow rfl) rfl) ?_
    refine XPA.pu rfl rfl Gd.free Rd.mv ?_
    refine XPA.pu rfl rfl Gd.free (Rd.nilCheck rfl) ?_
    refine XPA.pu rfl rfl Gd.free (Rd.fA rfl) ?_
    refine XPA.pu rfl rfl Gd.free (Rd.fA rfl) ?_
    refine XPA.rd rfl rfl Gd.free (Rd.ldC rfl (tyrow rfl) rfl) ?_
    refine XPA.pu rfl rfl Gd.free (Rd.ixS rfl rfl) ?_
    refine XPA.rd rfl rfl Gd.free (Rd.ldC rfl (tyrow rfl) rfl) ?_
    refine XPA.pu rfl rfl Gd.free (Rd.ixS rfl rfl) ?_
    refine XPA.wrZ0 rfl rfl Gd.free (by kernel_rfl) (WrA.st (tyrow rfl) rfl) ?_
    rintro _ _ _ ⟨rfl, rfl, rfl⟩
    refine XPA.nil ?_
    refine zT ?_; refine zR ?_; refine zO rfl Rd.mv ?_; refine zO rfl (Rd.nilCheck rfl) ?_; refine zO rfl (Rd.fA rfl) ?_; refine zO rfl (Rd.fA rfl) ?_; refine zO rfl (Rd.ldC rfl (tyrow rfl) rfl) ?_
    refine zO rfl (by first | exact Rd.adi rfl rfl | exact Rd.add rfl rfl) ?_
    refine zO rfl (Rd.nilCheck rfl) ?_; refine zO rfl (Rd.fA rfl) ?_; refine zO rfl (Rd.fA rfl) ?_
    refine XOA.wr0 rfl (WrA.st (tyrow rfl) rfl) ?_
    rintro _ _ _ ⟨rfl, rfl, rfl⟩
    refine zN ?_
    refine DA.inb_normal ?_
    refine zT ?_; refine zS ?_; refine zR ?_; refine zO rfl Rd.asg ?_; refine zN ?_; refine zT ?_
    refine XA.ret ?_
    refine DA.ent (Ent.foldC (Θ := [blk g6 (ints (cells.set a y) ++ rest) 2]) (by (repeat (first | exact Ent.all _ | (apply Ent.take; focus (first | ((repeat (first | with_reducible exact Sel.head | apply Sel.tail)); done) | ((repeat (first | exact Sel.head | apply Sel.tail)); done))) | apply Ent.takeNil | apply Ent.takeEmp)); (first | done | fail)) (lst_close (size := 1) (n := cells.length) (c := cl) (rest := rest) (by simp [ints]) hcc hcm (by simpa [ints] using hcr)) (Ent.refl _)) ?_
    rw [← hcn]
    exact bodyA.ret (ResA.one rfl rfl) zE ⟨rfl, .refl _, BeG.of hkp⟩
  by_cases h13 : xop = 13
  · subst h13
    clear hx
    obtain ⟨n, s, rfl⟩ : ∃ n s, stack = n :: s := by
      cases stack with
      | nil => simp [popA] at hpop
      | cons n s => exact ⟨n, s, rfl⟩
    have hsl1 : s.length ≤ 1000 := by simp only [List.length_cons] at hsl; omega
    obtain ⟨a, rfl⟩ : ∃ a : Nat, xa = a := ⟨xa.toNat, by have := hgo (by decide); omega⟩
    by_cases hn0 : n = 0
    · rw [show doIn inp keep ⟨13, (a : Int), xb, xn⟩ ⟨⟨next + 1, n :: s, rd, outn, 0, cells⟩, kept, out, wrong⟩ = ⟨⟨a, s, rd, outn, 0, cells⟩, kept, out, wrong⟩ from by simp [doIn, hn0]]
      refine XA.condF rfl rfl ?_
      refine zS ?_; refine zR ?_; refine zO rfl (Rd.eql rfl rfl) ?_; refine zO rfl Rd.asg ?_; refine zN ?_; refine zT ?_
      refine XA.condF rfl rfl ?_
      refine zS ?_; refine zR ?_; refine zO rfl (Rd.eql rfl rfl) ?_; refine zO rfl Rd.asg ?_; refine zN ?_; refine zT ?_
      refine XA.condF rfl rfl ?_
      refine zS ?_; refine zS ?_; refine zR ?_; refine zO rfl (Rd.eql rfl rfl) ?_; refine zO rfl Rd.asg ?_; refine zN ?_; refine zT ?_
      refine XA.condF rfl rfl ?_
      refine zS ?_; refine zR ?_; refine zO rfl (Rd.eql rfl rfl) ?_; refine zO rfl Rd.asg ?_; refine zN ?_; refine zT ?_
      refine XA.condF rfl rfl ?_
      refine zS ?_; refine zR ?_; refine zO rfl (Rd.eql rfl rfl) ?_; refine zO rfl Rd.asg ?_; refine zN ?_; refine zT ?_
      refine XA.condF rfl rfl ?_
      refine zS ?_; refine zR ?_; refine zO rfl (Rd.eql rfl rfl) ?_; refine zO rfl Rd.asg ?_; refine zN ?_; refine zT ?_
      refine XA.condF rfl rfl ?_
      refine zR ?_; refine zO rfl (Rd.eql rfl rfl) ?_; refine zO rfl Rd.asg ?_; refine zN ?_; refine zT ?_
      refine XA.condF rfl rfl ?_
      refine zS ?_; refine zR ?_; refine zO rfl (Rd.eql rfl rfl) ?_; refine zO rfl Rd.asg ?_; refine zN ?_; refine zT ?_
      refine XA.condF rfl rfl ?_
      refine zS ?_; refine zR ?_; refine zO rfl (Rd.eql rfl rfl) ?_; refine zO rfl Rd.asg ?_; refine zN ?_; refine zT ?_
      refine XA.condF rfl rfl ?_
      refine zS ?_; refine zR ?_; refine zO rfl (Rd.eql rfl rfl) ?_; refine zO rfl Rd.asg ?_; refine zN ?_; refine zT ?_
      refine XA.condF rfl rfl ?_
      refine zS ?_; refine zR ?_; refine zO rfl (Rd.eql rfl rfl) ?_; refine zO rfl Rd.asg ?_; refine zN ?_; refine zT ?_
      refine XA.condF rfl rfl ?_
      refine zS ?_; refine zR ?_; refine zO rfl (Rd.eql rfl rfl) ?_; refine zO rfl Rd.asg ?_; refine zN ?_; refine zT ?_
      refine XA.condT rfl rfl ?_
      refine zS ?_; refine zR ?_; refine zO rfl Rd.mv ?_
      refine XOA.wr0 rfl (WrA.cE (pop_b σ g _ _ _ _ _ _ _ _ _ _ _ _ _ _ _ _ _ (s) _ hsl1) rfl) ?_
      rintro _ _ _ ⟨_, ⟨rfl, rfl, rfl⟩, rfl⟩
      refine XOA.cl ?_
      refine zO rfl (Rd.eql rfl rfl) ?_; refine zN ?_; refine zT ?_
      refine XA.condT rfl (decide_eq_true hn0) ?_
      refine zR ?_; refine zO rfl Rd.mv ?_; refine zO rfl (Rd.fA rfl) ?_; refine zO rfl (Rd.ldC rfl (tyrow rfl) rfl) ?_; refine zO rfl (Rd.nilCheck rfl) ?_; refine zO rfl (Rd.fA rfl) ?_; refine zO rfl (Rd.fA rfl) ?_
      refine XOA.wr0 rfl (WrA.st (tyrow rfl) rfl) ?_
      rintro _ _ _ ⟨rfl, rfl, rfl⟩
      refine zN ?_
      refine DA.inb_normal ?_
      refine zT ?_; refine zS ?_; refine zR ?_; refine zO rfl Rd.asg ?_; refine zN ?_; refine zT ?_
      refine XA.ret ?_
      exact bodyA.ret (ResA.one rfl rfl) zE ⟨rfl, .refl _, BeG.of hkp⟩
    rw [show doIn inp keep ⟨13, (a : Int), xb, xn⟩ ⟨⟨next + 1, n :: s, rd, outn, 0, cells⟩, kept, out, wrong⟩ = ⟨⟨next + 1, s, rd, outn, 0, cells⟩, kept, out, wrong⟩ from by simp [doIn, hn0]]
    refine XA.condF rfl rfl ?_
    refine zS ?_; refine zR ?_; refine zO rfl (Rd.eql rfl rfl) ?_; refine zO rfl Rd.asg ?_; refine zN ?_; refine zT ?_
    refine XA.condF rfl rfl ?_
    refine zS ?_; refine zR ?_; refine zO rfl (Rd.eql rfl rfl) ?_; refine zO rfl Rd.asg ?_; refine zN ?_; refine zT ?_
    refine XA.condF rfl rfl ?_
    refine zS ?_; refine zS ?_; refine zR ?_; refine zO rfl (Rd.eql rfl rfl) ?_; refine zO rfl Rd.asg ?_; refine zN ?_; refine zT ?_
    refine XA.condF rfl rfl ?_
    refine zS ?_; refine zR ?_; refine zO rfl (Rd.eql rfl rfl) ?_; refine zO rfl Rd.asg ?_; refine zN ?_; refine zT ?_
    refine XA.condF rfl rfl ?_
    refine zS ?_; refine zR ?_; refine zO rfl (Rd.eql rfl rfl) ?_; refine zO rfl Rd.asg ?_; refine zN ?_; refine zT ?_
    refine XA.condF rfl rfl ?_
    refine zS ?_; refine zR ?_; refine zO rfl (Rd.eql rfl rfl) ?_; refine zO rfl Rd.asg ?_; refine zN ?_; refine zT ?_
    refine XA.condF rfl rfl ?_
    refine zR ?_; refine zO rfl (Rd.eql rfl rfl) ?_; refine zO rfl Rd.asg ?_; refine zN ?_; refine zT ?_
    refine XA.condF rfl rfl ?_
    refine zS ?_; refine zR ?_; refine zO rfl (Rd.eql rfl rfl) ?_; refine zO rfl Rd.asg ?_; refine zN ?_; refine zT ?_
    refine XA.condF rfl rfl ?_
    refine zS ?_; refine zR ?_; refine zO rfl (Rd.eql rfl rfl) ?_; refine zO rfl Rd.asg ?_; refine zN ?_; refine zT ?_
    refine XA.condF rfl rfl ?_
    refine zS ?_; refine zR ?_; refine zO rfl (Rd.eql rfl rfl) ?_; refine zO rfl Rd.asg ?_; refine zN ?_; refine zT ?_
    refine XA.condF rfl rfl ?_
    refine zS ?_; refine zR ?_; refine zO rfl (Rd.eql rfl rfl) ?_; refine zO rfl Rd.asg ?_; refine zN ?_; refine zT ?_
    refine XA.condF rfl rfl ?_
    refine zS ?_; refine zR ?_; refine zO rfl (Rd.eql rfl rfl) ?_; refine zO rfl Rd.asg ?_; refine zN ?_; refine zT ?_
    refine XA.condT rfl rfl ?_
    refine zS ?_; refine zR ?_; refine zO rfl Rd.mv ?_
    refine XOA.wr0 rfl (WrA.cE (pop_b σ g _ _ _ _ _ _ _ _ _ _ _ _ _ _ _ _ _ (s) _ hsl1) rfl) ?_
    rintro _ _ _ ⟨_, ⟨rfl, rfl, rfl⟩, rfl⟩
    refine XOA.cl ?_
    refine zO rfl (Rd.eql rfl rfl) ?_; refine zN ?_; refine zT ?_
    refine XA.condF rfl (decide_eq_false hn0) ?_
    refine XA.skip ?_
    refine DA.inb_normal ?_
    refine zT ?_; refine zS ?_; refine zR ?_; refine zO rfl Rd.asg ?_; refine zN ?_; refine zT ?_
    refine XA.ret ?_
    exact bodyA.ret (ResA.one rfl rfl) zE ⟨rfl, .refl _, BeG.of hkp⟩
  by_cases h14 : xop = 14
  · subst h14
    clear hx
    obtain ⟨a, rfl⟩ : ∃ a : Nat, xa = a := ⟨xa.toNat, by have := hgo (by decide); omega⟩
    rw [show doIn inp keep ⟨14, (a : Int), xb, xn⟩ ⟨⟨next + 1, stack, rd, outn, 0, cells⟩, kept, out, wrong⟩ = ⟨⟨a, stack, rd, outn, 0, cells⟩, kept, out, wrong⟩ from by simp [doIn]]
    refine XA.condF rfl rfl ?_
    refine zS ?_; refine zR ?_; refine zO rfl (Rd.eql rfl rfl) ?_; refine zO rfl Rd.asg ?_; refine zN ?_; refine zT ?_
    refine XA.condF rfl rfl ?_
    refine zS ?_; refine zR ?_; refine zO rfl (Rd.eql rfl rfl) ?_; refine zO rfl Rd.asg ?_; refine zN ?_; refine zT ?_
    refine XA.condF rfl rfl ?_
    refine zS ?_; refine zS ?_; refine zR ?_; refine zO rfl (Rd.eql rfl rfl) ?_; refine zO rfl Rd.asg ?_; refine zN ?_; refine zT ?_
    refine XA.condF rfl rfl ?_
    refine zS ?_; refine zR ?_; refine zO rfl (Rd.eql rfl rfl) ?_; refine zO rfl Rd.asg ?_; refine zN ?_; refine zT ?_
    refine XA.condF rfl rfl ?_
    refine zS ?_; refine zR ?_; refine zO rfl (Rd.eql rfl rfl) ?_; refine zO rfl Rd.asg ?_; refine zN ?_; refine zT ?_
    refine XA.condF rfl rfl ?_
    refine zS ?_; refine zR ?_; refine zO rfl (Rd.eql rfl rfl) ?_; refine zO rfl Rd.asg ?_; refine zN ?_; refine zT ?_
    refine XA.condF rfl rfl ?_
    refine zR ?_; refine zO rfl (Rd.eql rfl rfl) ?_; refine zO rfl Rd.asg ?_; refine zN ?_; refine zT ?_
    refine XA.condF rfl rfl ?_
    refine zS ?_; refine zR ?_; refine zO rfl (Rd.eql rfl rfl) ?_; refine zO rfl Rd.asg ?_; refine zN ?_; refine zT ?_
    refine XA.condF rfl rfl ?_
    refine zS ?_; refine zR ?_; refine zO rfl (Rd.eql rfl rfl) ?_; refine zO rfl Rd.asg ?_; refine zN ?_; refine zT ?_
    refine XA.condF rfl rfl ?_
    refine zS ?_; refine zR ?_; refine zO rfl (Rd.eql rfl rfl) ?_; refine zO rfl Rd.asg ?_; refine zN ?_; refine zT ?_
    refine XA.condF rfl rfl ?_
    refine zS ?_; refine zR ?_; refine zO rfl (Rd.eql rfl rfl) ?_; refine zO rfl Rd.asg ?_; refine zN ?_; refine zT ?_
    refine XA.condF rfl rfl ?_
    refine zS ?_; refine zR ?_; refine zO rfl (Rd.eql rfl rfl) ?_; refine zO rfl Rd.asg ?_; refine zN ?_; refine zT ?_
    refine XA.condF rfl rfl ?_
    refine zS ?_; refine zR ?_; refine zO rfl (Rd.eql rfl rfl) ?_; refine zO rfl Rd.asg ?_; refine zN ?_; refine zT ?_
    refine XA.condT rfl rfl ?_
    refine zR ?_; refine zO rfl Rd.mv ?_; refine zO rfl (Rd.fA rfl) ?_; refine zO rfl (Rd.ldC rfl (tyrow rfl) rfl) ?_; refine zO rfl (Rd.nilCheck rfl) ?_; refine zO rfl (Rd.fA rfl) ?_; refine zO rfl (Rd.fA rfl) ?_
    refine XOA.wr0 rfl (WrA.st (tyrow rfl) rfl) ?_
    rintro _ _ _ ⟨rfl, rfl, rfl⟩
    refine zN ?_
    refine DA.inb_normal ?_
    refine zT ?_; refine zS ?_; refine zR ?_; refine zO rfl Rd.asg ?_; refine zN ?_; refine zT ?_
    refine XA.ret ?_
    exact bodyA.ret (ResA.one rfl rfl) zE ⟨rfl, .refl _, BeG.of hkp⟩
  by_cases h15 : xop = 15
  · subst h15
    clear hx
    cases keep with
    | false =>
      rw [show doIn inp false ⟨15, xa, xb, xn⟩ ⟨⟨next + 1, stack, rd, outn, 0, cells⟩, kept, out, wrong⟩ = ⟨⟨next + 1, stack, rd, outn, 0, cells⟩, kept, out, wrong⟩ from rfl]
      refine XA.condF rfl rfl ?_
      refine zS ?_; refine zR ?_; refine zO rfl (Rd.eql rfl rfl) ?_; refine zO rfl Rd.asg ?_; refine zN ?_; refine zT ?_
      refine XA.condF rfl rfl ?_
      refine zS ?_; refine zR ?_; refine zO rfl (Rd.eql rfl rfl) ?_; refine zO rfl Rd.asg ?_; refine zN ?_; refine zT ?_
      refine XA.condF rfl rfl ?_
      refine zS ?_; refine zS ?_; refine zR ?_; refine zO rfl (Rd.eql rfl rfl) ?_; refine zO rfl Rd.asg ?_; refine zN ?_; refine zT ?_
      refine XA.condF rfl rfl ?_
      refine zS ?_; refine zR ?_; refine zO rfl (Rd.eql rfl rfl) ?_; refine zO rfl Rd.asg ?_; refine zN ?_; refine zT ?_
      refine XA.condF rfl rfl ?_
      refine zS ?_; refine zR ?_; refine zO rfl (Rd.eql rfl rfl) ?_; refine zO rfl Rd.asg ?_; refine zN ?_; refine zT ?_
      refine XA.condF rfl rfl ?_
      refine zS ?_; refine zR ?_; refine zO rfl (Rd.eql rfl rfl) ?_; refine zO rfl Rd.asg ?_; refine zN ?_; refine zT ?_
      refine XA.condF rfl rfl ?_
      refine zR ?_; refine zO rfl (Rd.eql rfl rfl) ?_; refine zO rfl Rd.asg ?_; refine zN ?_; refine zT ?_
      refine XA.condF rfl rfl ?_
      refine zS ?_; refine zR ?_; refine zO rfl (Rd.eql rfl rfl) ?_; refine zO rfl Rd.asg ?_; refine zN ?_; refine zT ?_
      refine XA.condF rfl rfl ?_
      refine zS ?_; refine zR ?_; refine zO rfl (Rd.eql rfl rfl) ?_; refine zO rfl Rd.asg ?_; refine zN ?_; refine zT ?_
      refine XA.condF rfl rfl ?_
      refine zS ?_; refine zR ?_; refine zO rfl (Rd.eql rfl rfl) ?_; refine zO rfl Rd.asg ?_; refine zN ?_; refine zT ?_
      refine XA.condF rfl rfl ?_
      refine zS ?_; refine zR ?_; refine zO rfl (Rd.eql rfl rfl) ?_; refine zO rfl Rd.asg ?_; refine zN ?_; refine zT ?_
      refine XA.condF rfl rfl ?_
      refine zS ?_; refine zR ?_; refine zO rfl (Rd.eql rfl rfl) ?_; refine zO rfl Rd.asg ?_; refine zN ?_; refine zT ?_
      refine XA.condF rfl rfl ?_
      refine zS ?_; refine zR ?_; refine zO rfl (Rd.eql rfl rfl) ?_; refine zO rfl Rd.asg ?_; refine zN ?_; refine zT ?_
      refine XA.condF rfl rfl ?_
      refine zS ?_; refine zR ?_; refine zO rfl (Rd.eql rfl rfl) ?_; refine zO rfl Rd.asg ?_; refine zN ?_; refine zT ?_
      refine XA.condT rfl rfl ?_
      refine zS ?_; refine zR ?_; refine zO rfl Rd.mv ?_; refine zN ?_; refine zT ?_
      refine XA.condF rfl rfl ?_
      refine XA.skip ?_
      refine DA.inb_normal ?_
      refine zT ?_; refine zS ?_; refine zR ?_; refine zO rfl Rd.asg ?_; refine zN ?_; refine zT ?_
      refine XA.ret ?_
      exact bodyA.ret (ResA.one rfl rfl) zE ⟨rfl, .refl _, BeG.of hkp⟩
    | true =>
      rw [show doIn inp true ⟨15, xa, xb, xn⟩ ⟨⟨next + 1, stack, rd, outn, 0, cells⟩, kept, out, wrong⟩ = ⟨⟨next + 1, stack, rd, outn, 0, cells⟩, ⟨next + 1, stack, rd, outn, 0, cells⟩, out, wrong⟩ from rfl]
      refine XA.condF rfl rfl ?_
      refine zS ?_; refine zR ?_; refine zO rfl (Rd.eql rfl rfl) ?_; refine zO rfl Rd.asg ?_; refine zN ?_; refine zT ?_
      refine XA.condF rfl rfl ?_
      refine zS ?_; refine zR ?_; refine zO rfl (Rd.eql rfl rfl) ?_; refine zO rfl Rd.asg ?_; refine zN ?_; refine zT ?_
      refine XA.condF rfl rfl ?_
      refine zS ?_; refine zS ?_; refine zR ?_; refine zO rfl (Rd.eql rfl rfl) ?_; refine zO rfl Rd.asg ?_; refine zN ?_; refine zT ?_
      refine XA.condF rfl rfl ?_
      refine zS ?_; refine zR ?_; refine zO rfl (Rd.eql rfl rfl) ?_; refine zO rfl Rd.asg ?_; refine zN ?_; refine zT ?_
      refine XA.condF rfl rfl ?_
      refine zS ?_; refine zR ?_; refine zO rfl (Rd.eql rfl rfl) ?_; refine zO rfl Rd.asg ?_; refine zN ?_; refine zT ?_
      refine XA.condF rfl rfl ?_
      refine zS ?_; refine zR ?_; refine zO rfl (Rd.eql rfl rfl) ?_; refine zO rfl Rd.asg ?_; refine zN ?_; refine zT ?_
      refine XA.condF rfl rfl ?_
      refine zR ?_; refine zO rfl (Rd.eql rfl rfl) ?_; refine zO rfl Rd.asg ?_; refine zN ?_; refine zT ?_
      refine XA.condF rfl rfl ?_
      refine zS ?_; refine zR ?_; refine zO rfl (Rd.eql rfl rfl) ?_; refine zO rfl Rd.asg ?_; refine zN ?_; refine zT ?_
      refine XA.condF rfl rfl ?_
      refine zS ?_; refine zR ?_; refine zO rfl (Rd.eql rfl rfl) ?_; refine zO rfl Rd.asg ?_; refine zN ?_; refine zT ?_
      refine XA.condF rfl rfl ?_
      refine zS ?_; refine zR ?_; refine zO rfl (Rd.eql rfl rfl) ?_; refine zO rfl Rd.asg ?_; refine zN ?_; refine zT ?_
      refine XA.condF rfl rfl ?_
      refine zS ?_; refine zR ?_; refine zO rfl (Rd.eql rfl rfl) ?_; refine zO rfl Rd.asg ?_; refine zN ?_; refine zT ?_
      refine XA.condF rfl rfl ?_
      refine zS ?_; refine zR ?_; refine zO rfl (Rd.eql rfl rfl) ?_; refine zO rfl Rd.asg ?_; refine zN ?_; refine zT ?_
      refine XA.condF rfl rfl ?_
      refine zS ?_; refine zR ?_; refine zO rfl (Rd.eql rfl rfl) ?_; refine zO rfl Rd.asg ?_; refine zN ?_; refine zT ?_
      refine XA.condF rfl rfl ?_
      refine zS ?_; refine zR ?_; refine zO rfl (Rd.eql rfl rfl) ?_; refine zO rfl Rd.asg ?_; refine zN ?_; refine zT ?_
      refine XA.condT rfl rfl ?_
      refine zS ?_; refine zR ?_; refine zO rfl Rd.mv ?_; refine zN ?_; refine zT ?_
      refine XA.condT rfl rfl ?_
      refine zR ?_; refine zO rfl Rd.mv ?_; refine zO rfl Rd.mv ?_; refine zO rfl (Rd.nilCheck rfl) ?_; refine zO rfl (Rd.fA rfl) ?_; refine zO rfl (Rd.ldA rfl) ?_
      refine XOA.wr0 rfl (WrA.cE (copy_b σ _ _ _ _ _ _ _ _ stack.length cells.length stack.reverse cells (by omega) hcl) rfl) ?_
      rintro _ _ _ ⟨_, ⟨p3, c3, p4, c4, rfl, rfl, rfl⟩, rfl⟩
      refine XOA.cl ?_
      refine XOA.frz (R := lst 2 1 (.slice p3 stack.length c3) _ _) (by ((repeat (first | with_reducible exact Sel.head | apply Sel.tail)); (first | done | fail))) lst_frz lst_frz_mono ?_
      rintro σ2 ⟨⟩ hf2 hs2
      refine XOA.frz (R := lst 2 1 (.slice p4 cells.length c4) _ _) (by ((repeat (first | with_reducible exact Sel.head | apply Sel.tail)); (first | done | fail))) lst_frz lst_frz_mono ?_
      rintro σ3 ⟨⟩ hf3 hs3
      have hk2 : KeptAt σ3 (i64 ((next + 1 : Nat) : Int)) (.slice p3 stack.length c3) (i64 rd) (i64 outn) (i64 0) (.slice p4 cells.length c4) ⟨next + 1, stack, rd, outn, 0, cells⟩ := ⟨p3, c3, p4, c4, rfl, rfl, rfl, rfl, rfl, rfl, pints_frz (by simp) (lst_frz_mono () _ _ hf2 hs3), pints_frz rfl hf3⟩
      refine zO rfl (Rd.nilCheck rfl) ?_; refine zO rfl (Rd.fA rfl) ?_
      refine XOA.wr0 rfl (WrA.st (tyrow rfl) rfl) ?_
      rintro _ _ _ ⟨rfl, rfl, rfl⟩
      refine zN ?_
      refine DA.inb_normal ?_
      refine zT ?_; refine zS ?_; refine zR ?_; refine zO rfl Rd.asg ?_; refine zN ?_; refine zT ?_
      refine XA.ret ?_
      exact bodyA.ret (ResA.one rfl rfl) zE ⟨rfl, hs2.trans hs3, BeG.of hk2⟩
  by_cases h16 : xop = 16
  · subst h16
    clear hx
    rw [show doIn inp keep ⟨16, xa, xb, xn⟩ ⟨⟨next + 1, stack, rd, outn, 0, cells⟩, kept, out, wrong⟩ = ⟨⟨next + 1, stack, rd, outn, 1, cells⟩, kept, out, wrong⟩ from by simp [doIn]]
    refine XA.condF rfl rfl ?_
    refine zS ?_; refine zR ?_; refine zO rfl (Rd.eql rfl rfl) ?_; refine zO rfl Rd.asg ?_; refine zN ?_; refine zT ?_
    refine XA.condF rfl rfl ?_
    refine zS ?_; refine zR ?_; refine zO rfl (Rd.eql rfl rfl) ?_; refine zO rfl Rd.asg ?_; refine zN ?_; refine zT ?_
    refine XA.condF rfl rfl ?_
    refine zS ?_; refine zS ?_; refine zR ?_; refine zO rfl (Rd.eql rfl rfl) ?_; refine zO rfl Rd.asg ?_; refine zN ?_; refine zT ?_
    refine XA.condF rfl rfl ?_
    refine zS ?_; refine zR ?_; refine zO rfl (Rd.eql rfl rfl) ?_; refine zO rfl Rd.asg ?_; refine zN ?_; refine zT ?_
    refine XA.condF rfl rfl ?_
    refine zS ?_; refine zR ?_; refine zO rfl (Rd.eql rfl rfl) ?_; refine zO rfl Rd.asg ?_; refine zN ?_; refine zT ?_
    refine XA.condF rfl rfl ?_
    refine zS ?_; refine zR ?_; refine zO rfl (Rd.eql rfl rfl) ?_; refine zO rfl Rd.asg ?_; refine zN ?_; refine zT ?_
    refine XA.condF rfl rfl ?_
    refine zR ?_; refine zO rfl (Rd.eql rfl rfl) ?_; refine zO rfl Rd.asg ?_; refine zN ?_; refine zT ?_
    refine XA.condF rfl rfl ?_
    refine zS ?_; refine zR ?_; refine zO rfl (Rd.eql rfl rfl) ?_; refine zO rfl Rd.asg ?_; refine zN ?_; refine zT ?_
    refine XA.condF rfl rfl ?_
    refine zS ?_; refine zR ?_; refine zO rfl (Rd.eql rfl rfl) ?_; refine zO rfl Rd.asg ?_; refine zN ?_; refine zT ?_
    refine XA.condF rfl rfl ?_
    refine zS ?_; refine zR ?_; refine zO rfl (Rd.eql rfl rfl) ?_; refine zO rfl Rd.asg ?_; refine zN ?_; refine zT ?_
    refine XA.condF rfl rfl ?_
    refine zS ?_; refine zR ?_; refine zO rfl (Rd.eql rfl rfl) ?_; refine zO rfl Rd.asg ?_; refine zN ?_; refine zT ?_
    refine XA.condF rfl rfl ?_
    refine zS ?_; refine zR ?_; refine zO rfl (Rd.eql rfl rfl) ?_; refine zO rfl Rd.asg ?_; refine zN ?_; refine zT ?_
    refine XA.condF rfl rfl ?_
    refine zS ?_; refine zR ?_; refine zO rfl (Rd.eql rfl rfl) ?_; refine zO rfl Rd.asg ?_; refine zN ?_; refine zT ?_
    refine XA.condF rfl rfl ?_
    refine zS ?_; refine zR ?_; refine zO rfl (Rd.eql rfl rfl) ?_; refine zO rfl Rd.asg ?_; refine zN ?_; refine zT ?_
    refine XA.condF rfl rfl ?_
    refine zS ?_; refine zR ?_; refine zO rfl (Rd.eql rfl rfl) ?_; refine zO rfl Rd.asg ?_; refine zN ?_; refine zT ?_
    refine XA.condT rfl rfl ?_
    refine zR ?_; refine zO rfl Rd.mv ?_; refine zO rfl (Rd.nilCheck rfl) ?_; refine zO rfl (Rd.fA rfl) ?_; refine zO rfl (Rd.fA rfl) ?_
    refine XOA.wr0 rfl (WrA.st (tyrow rfl) rfl) ?_
    rintro _ _ _ ⟨rfl, rfl, rfl⟩
    refine zN ?_
    refine DA.inb_normal ?_
    refine zT ?_; refine zS ?_; refine zR ?_; refine zO rfl Rd.asg ?_; refine zN ?_; refine zT ?_
    refine XA.ret ?_
    exact bodyA.ret (ResA.one rfl rfl) zE ⟨rfl, .refl _, BeG.of hkp⟩
  rw [show doIn inp keep ⟨xop, xa, xb, xn⟩ ⟨⟨next + 1, stack, rd, outn, 0, cells⟩, kept, out, wrong⟩ = ⟨⟨next + 1, stack, rd, outn, 0, cells⟩, kept, out, wrong⟩ from by
    simp only [doIn]
    rw [if_neg h1, if_neg h2, if_neg h3, if_neg (by omega), if_neg h9, if_neg h10, if_neg h11, if_neg h12, if_neg h13, if_neg h14, if_neg h15, if_neg h16]]
  clear hx
  refine XA.condF rfl (decide_eq_false h1) ?_
  refine zS ?_; refine zR ?_; refine zO rfl (Rd.eql rfl rfl) ?_; refine zO rfl Rd.asg ?_; refine zN ?_; refine zT ?_
  refine XA.condF rfl (decide_eq_false h2) ?_
  refine zS ?_; refine zR ?_; refine zO rfl (Rd.eql rfl rfl) ?_; refine zO rfl Rd.asg ?_; refine zN ?_; refine zT ?_
  refine XA.condF rfl (decide_eq_false h3) ?_
  refine zS ?_; refine zS ?_; refine zR ?_; refine zO rfl (Rd.eql rfl rfl) ?_; refine zO rfl Rd.asg ?_; refine zN ?_; refine zT ?_
  refine XA.condF rfl (decide_eq_false h4) ?_
  refine zS ?_; refine zR ?_; refine zO rfl (Rd.eql rfl rfl) ?_; refine zO rfl Rd.asg ?_; refine zN ?_; refine zT ?_
  refine XA.condF rfl (decide_eq_false h5) ?_
  refine zS ?_; refine zR ?_; refine zO rfl (Rd.eql rfl rfl) ?_; refine zO rfl Rd.asg ?_; refine zN ?_; refine zT ?_
  refine XA.condF rfl (decide_eq_false h6) ?_
  refine zS ?_; refine zR ?_; refine zO rfl (Rd.eql rfl rfl) ?_; refine zO rfl Rd.asg ?_; refine zN ?_; refine zT ?_
  refine XA.condF rfl (decide_eq_false h7) ?_
  refine zR ?_; refine zO rfl (Rd.eql rfl rfl) ?_; refine zO rfl Rd.asg ?_; refine zN ?_; refine zT ?_
  refine XA.condF rfl (decide_eq_false h8) ?_
  refine zS ?_; refine zR ?_; refine zO rfl (Rd.eql rfl rfl) ?_; refine zO rfl Rd.asg ?_; refine zN ?_; refine zT ?_
  refine XA.condF rfl (decide_eq_false h9) ?_
  refine zS ?_; refine zR ?_; refine zO rfl (Rd.eql rfl rfl) ?_; refine zO rfl Rd.asg ?_; refine zN ?_; refine zT ?_
  refine XA.condF rfl (decide_eq_false h10) ?_
  refine zS ?_; refine zR ?_; refine zO rfl (Rd.eql rfl rfl) ?_; refine zO rfl Rd.asg ?_; refine zN ?_; refine zT ?_
  refine XA.condF rfl (decide_eq_false h11) ?_
  refine zS ?_; refine zR ?_; refine zO rfl (Rd.eql rfl rfl) ?_; refine zO rfl Rd.asg ?_; refine zN ?_; refine zT ?_
  refine XA.condF rfl (decide_eq_false h12) ?_
  refine zS ?_; refine zR ?_; refine zO rfl (Rd.eql rfl rfl) ?_; refine zO rfl Rd.asg ?_; refine zN ?_; refine zT ?_
  refine XA.condF rfl (decide_eq_false h13) ?_
  refine zS ?_; refine zR ?_; refine zO rfl (Rd.eql rfl rfl) ?_; refine zO rfl Rd.asg ?_; refine zN ?_; refine zT ?_
  refine XA.condF rfl (decide_eq_false h14) ?_
  refine zS ?_; refine zR ?_; refine zO rfl (Rd.eql rfl rfl) ?_; refine zO rfl Rd.asg ?_; refine zN ?_; refine zT ?_
  refine XA.condF rfl (decide_eq_false h15) ?_
  refine zS ?_; refine zR ?_; refine zO rfl (Rd.eql rfl rfl) ?_; refine zO rfl Rd.asg ?_; refine zN ?_; refine zT ?_
  refine XA.condF rfl (decide_eq_false h16) ?_
  refine XA.skip ?_
  refine DA.inb_normal ?_
  refine zT ?_; refine zS ?_; refine zR ?_; refine zO rfl Rd.asg ?_; refine zN ?_; refine zT ?_
  refine XA.ret ?_
  exact bodyA.ret (ResA.one rfl rfl) zE ⟨rfl, .refl _, BeG.of hkp⟩
end Go.Proofs.Ytmnmcjdgnpgchaa

namespace Go.Proofs.Ytmnmcjdgnpgchaa
open Go X
section
variable {C : List In} {inp : List Int}
/-- By some instructions it comes to another place. -/
def Goes (C : List In) (inp : List Int) (f : Nat) (b : Be) (f' : Nat) (b' : Be) : Prop := f' ≤ f ∧ runM C inp f b = ((runM C inp f' b').1, (runM C inp f' b').2 + (f - f'))
theorem Goes.refl (f : Nat) (b : Be) : Goes C inp f b f b := ⟨Nat.le_refl _, by simp⟩
theorem Goes.trans {f f1 f2 : Nat} {b b1 b2 : Be} (h : Goes C inp f b f1 b1) (k : Goes C inp f1 b1 f2 b2) : Goes C inp f b f2 b2 := by
  refine ⟨Nat.le_trans k.1 h.1, ?_⟩
  rw [h.2, k.2]
  have := h.1; have := k.1
  simp only [Prod.mk.injEq, true_and]; omega
theorem Goes.step {f : Nat} {b : Be} {x : In} (h0 : b.m.st = 0) (hx : C[b.m.next]? = some x) : Goes C inp (f + 1) b f (doIn inp false x (bump b)) := by
  refine ⟨Nat.le_succ _, ?_⟩
  rw [runM, if_neg (by rw [h0]; simp), stepB, hx]
  simp
def At_ (C : List In) (pc : Nat) (L : List In) : Prop := ∀ i x, L[i]? = some x → C[pc + i]? = some x
theorem At_.left {pc : Nat} {L M : List In} (h : At_ C pc (L ++ M)) : At_ C pc L := fun i x hx => h i x (by rw [List.getElem?_append_left (List.getElem?_eq_some_iff.1 hx).1]; exact hx)
theorem At_.right {pc : Nat} {L M : List In} (h : At_ C pc (L ++ M)) : At_ C (pc + L.length) M := fun i x hx => by
  rw [Nat.add_assoc]; exact h _ x (by rw [List.getElem?_append_right (Nat.le_add_right _ _), Nat.add_sub_cancel_left]; exact hx)
theorem At_.one {pc : Nat} {x : In} (h : At_ C pc [x]) : C[pc]? = some x := h 0 x rfl
def adv (b : Be) (n : Nat) (st : List Int) : Be := { b with m := { b.m with next := n, stack := st } }
end
end Go.Proofs.Ytmnmcjdgnpgchaa

namespace Go.Proofs.Ytmnmcjdgnpgchaa
open Go X
/-- Where a mind stands. -/
structure MInv (p : Pr) (inp : List Int) (o : Nat) (m : Mi) : Prop where
  at_ : m.st = 0 → m.next < (codeOf p).length ∧ (m.stack.length : Int) = hts ((codeOf p).take m.next)
  cells : m.cells.length = (sizes p.vars).toNat
  outn : m.outn ≤ o
  rd : m.rd ≤ inp.length
theorem hts_le {p : Pr} (hc : checkP p = 0) {i : Nat} (hi : i < (codeOf p).length) : hts ((codeOf p).take i) ≤ 24 := by
  cases i with
  | zero => rw [List.take_zero, hts_nil]; decide
  | succ j =>
    obtain ⟨x, hx⟩ : ∃ x, (codeOf p)[j]? = some x := ⟨_, List.getElem?_eq_getElem (by omega)⟩
    exact (code_fit hc hx).2.1
theorem MInv.ok {p : Pr} {inp : List Int} {b : Be} (hc : checkP p = 0) (h : MInv p inp b.out.length b.m) (h0 : b.m.st = 0) (hi : inp.length ≤ 1000000) (ho : b.out.length ≤ 1000000) (hl : (codeOf p).length ≤ 1000000) : ∃ x, StepOk (codeOf p) inp b x := by
  obtain ⟨h1, h2⟩ := h.at_ h0
  obtain ⟨x, hx⟩ : ∃ x, (codeOf p)[b.m.next]? = some x := ⟨_, List.getElem?_eq_getElem h1⟩
  obtain ⟨f1, f2, f3, f4, f5⟩ := code_fit hc hx
  obtain ⟨-, -, hv1, h48⟩ := check_valid hc
  have h24 := hts_le hc h1
  have hcl := h.cells
  have hrd := h.rd
  have hsn : (0 : Int) ≤ sizes p.vars := sizes_nonneg hv1
  refine ⟨x, h0, hx, by omega, ?_, fun ho => ?_, by omega, by omega, hl, by omega, ho, h.outn⟩
  · rw [show ((b.m.cells.length : Nat) : Int) = sizes p.vars by omega]; exact f5
  · obtain ⟨j, e, -⟩ := code_jump hc (List.mem_of_getElem? hx) ho
    omega
theorem MInv.step {p : Pr} {inp : List Int} {b : Be} {x : In} {keep : Bool} (hc : checkP p = 0) (h : MInv p inp b.out.length b.m) (hk : StepOk (codeOf p) inp b x) :
    MInv p inp (stepB (codeOf p) inp keep b).out.length (stepB (codeOf p) inp keep b).m ∧ b.out.length ≤ (stepB (codeOf p) inp keep b).out.length ∧ (stepB (codeOf p) inp keep b).out.length ≤ b.out.length + 1 ∧ ((stepB (codeOf p) inp keep b).kept = b.kept ∨ (stepB (codeOf p) inp keep b).kept = (stepB (codeOf p) inp keep b).m ∧ (stepB (codeOf p) inp keep b).m.st = 0) := by
  obtain ⟨⟨next, stack, rd, outn, st, cells⟩, kept, out, wrong⟩ := b
  obtain ⟨hst, hx, hpop, -, -, -, -, -, -, -, -⟩ := hk
  obtain ⟨hat, hcl, hon, hrd⟩ := h
  simp only at hst hx hpop hat hcl hon hrd
  subst hst
  obtain ⟨hlt, hn⟩ := hat rfl
  obtain ⟨f1, f2, f3, f4, -⟩ := code_fit hc hx
  have hd : hts ((codeOf p).take (next + 1)) = hts ((codeOf p).take next) + (popB x.op - popA x.op) := by rw [takeS hx, hts_app, hts_one]; rfl
  have hjmp := fun ho => code_jump hc (List.mem_of_getElem? hx) ho
  rw [stepB, hx]
  obtain ⟨op, a, bb, n⟩ := x
  simp only [bump] at hd f1 f3 f4 hjmp hpop ⊢
  have adv : op ≠ 16 → next + 1 < (codeOf p).length := fun h => by
    have : ¬ next = (codeOf p).length - 1 := fun e => h (f4.2 e)
    omega
  clear f2 hat hx f4
  by_cases h1 : op = 1
  · subst h1
    have adv := adv
    simp only [popA, popB] at hd hpop
    simp at hd hpop
    rw [show doIn inp keep ⟨1, a, bb, n⟩ ⟨⟨next + 1, stack, rd, outn, 0, cells⟩, kept, out, wrong⟩ = ⟨⟨next + 1, n :: stack, rd, outn, 0, cells⟩, kept, out, wrong⟩ from rfl]
    dsimp only
    exact ⟨⟨fun _ => ⟨adv (by decide), by first | omega | (simp only [List.length_cons, List.length_append, List.length_nil]; omega)⟩, hcl, by first | omega | (simp only [List.length_cons, List.length_append, List.length_nil]; omega), by first | omega | (simp only [List.length_cons, List.length_append, List.length_nil]; omega)⟩, by first | omega | (simp only [List.length_cons, List.length_append, List.length_nil]; omega), by first | omega | (simp only [List.length_cons, List.length_append, List.length_nil]; omega), .inl rfl⟩
  by_cases h2 : op = 2
  · subst h2
    have adv := adv
    simp only [popA, popB] at hd hpop
    simp at hd hpop
    rw [show doIn inp keep ⟨2, a, bb, n⟩ ⟨⟨next + 1, stack, rd, outn, 0, cells⟩, kept, out, wrong⟩ = ⟨⟨next + 1, cells.getD a.toNat 0 :: stack, rd, outn, 0, cells⟩, kept, out, wrong⟩ from rfl]
    dsimp only
    exact ⟨⟨fun _ => ⟨adv (by decide), by first | omega | (simp only [List.length_cons, List.length_append, List.length_nil]; omega)⟩, hcl, by first | omega | (simp only [List.length_cons, List.length_append, List.length_nil]; omega), by first | omega | (simp only [List.length_cons, List.length_append, List.length_nil]; omega)⟩, by first | omega | (simp only [List.length_cons, List.length_append, List.length_nil]; omega), by first | omega | (simp only [List.length_cons, List.length_append, List.length_nil]; omega), .inl rfl⟩
  by_cases h3 : op = 3
  · subst h3
    have adv := adv
    simp only [popA, popB] at hd hpop
    simp at hd hpop
    obtain ⟨k, s, rfl⟩ : ∃ n s, stack = n :: s := by
      cases stack with
      | nil => simp at hpop
      | cons n s => exact ⟨n, s, rfl⟩
    simp only [List.length_cons] at hn
    by_cases hk : k < 0 ∨ bb ≤ k
    · skip
      rw [show doIn inp keep ⟨3, a, bb, n⟩ ⟨⟨next + 1, k :: s, rd, outn, 0, cells⟩, kept, out, wrong⟩ = ⟨⟨next + 1, s, rd, outn, 13, cells⟩, kept, out, wrong⟩ from by simp [doIn, hk]]
      dsimp only
      exact ⟨⟨fun q => by simp at q, hcl, by first | omega | (simp only [List.length_cons, List.length_append, List.length_nil]; omega), by first | omega | (simp only [List.length_cons, List.length_append, List.length_nil]; omega)⟩, by first | omega | (simp only [List.length_cons, List.length_append, List.length_nil]; omega), by first | omega | (simp only [List.length_cons, List.length_append, List.length_nil]; omega), .inl rfl⟩
    · skip
      rw [show doIn inp keep ⟨3, a, bb, n⟩ ⟨⟨next + 1, k :: s, rd, outn, 0, cells⟩, kept, out, wrong⟩ = ⟨⟨next + 1, cells.getD (a + k).toNat 0 :: s, rd, outn, 0, cells⟩, kept, out, wrong⟩ from by simp [doIn, hk]]
      dsimp only
      exact ⟨⟨fun _ => ⟨adv (by decide), by first | omega | (simp only [List.length_cons, List.length_append, List.length_nil]; omega)⟩, hcl, by first | omega | (simp only [List.length_cons, List.length_append, List.length_nil]; omega), by first | omega | (simp only [List.length_cons, List.length_append, List.length_nil]; omega)⟩, by first | omega | (simp only [List.length_cons, List.length_append, List.length_nil]; omega), by first | omega | (simp only [List.length_cons, List.length_append, List.length_nil]; omega), .inl rfl⟩
  by_cases h4 : op = 4
  · subst h4
    have adv := adv
    simp only [popA, popB] at hd hpop
    simp at hd hpop
    obtain ⟨y, z, s, rfl⟩ : ∃ y z s, stack = y :: z :: s := by
      cases stack with
      | nil => simp at hpop
      | cons y s => cases s with
        | nil => simp at hpop
        | cons z s => exact ⟨y, z, s, rfl⟩
    simp only [List.length_cons] at hn
    rw [show doIn inp keep ⟨4, a, bb, n⟩ ⟨⟨next + 1, y :: z :: s, rd, outn, 0, cells⟩, kept, out, wrong⟩ = ⟨⟨next + 1, binV 4 z y :: s, rd, outn, 0, cells⟩, kept, out, wrong⟩ from rfl]
    dsimp only
    exact ⟨⟨fun _ => ⟨adv (by decide), by first | omega | (simp only [List.length_cons, List.length_append, List.length_nil]; omega)⟩, hcl, by first | omega | (simp only [List.length_cons, List.length_append, List.length_nil]; omega), by first | omega | (simp only [List.length_cons, List.length_append, List.length_nil]; omega)⟩, by first | omega | (simp only [List.length_cons, List.length_append, List.length_nil]; omega), by first | omega | (simp only [List.length_cons, List.length_append, List.length_nil]; omega), .inl rfl⟩
  by_cases h5 : op = 5
  · subst h5
    have adv := adv
    simp only [popA, popB] at hd hpop
    simp at hd hpop
    obtain ⟨y, z, s, rfl⟩ : ∃ y z s, stack = y :: z :: s := by
      cases stack with
      | nil => simp at hpop
      | cons y s => cases s with
        | nil => simp at hpop
        | cons z s => exact ⟨y, z, s, rfl⟩
    simp only [List.length_cons] at hn
    rw [show doIn inp keep ⟨5, a, bb, n⟩ ⟨⟨next + 1, y :: z :: s, rd, outn, 0, cells⟩, kept, out, wrong⟩ = ⟨⟨next + 1, binV 5 z y :: s, rd, outn, 0, cells⟩, kept, out, wrong⟩ from rfl]
    dsimp only
    exact ⟨⟨fun _ => ⟨adv (by decide), by first | omega | (simp only [List.length_cons, List.length_append, List.length_nil]; omega)⟩, hcl, by first | omega | (simp only [List.length_cons, List.length_append, List.length_nil]; omega), by first | omega | (simp only [List.length_cons, List.length_append, List.length_nil]; omega)⟩, by first | omega | (simp only [List.length_cons, List.length_append, List.length_nil]; omega), by first | omega | (simp only [List.length_cons, List.length_append, List.length_nil]; omega), .inl rfl⟩
  by_cases h6 : op = 6
  · subst h6
    have adv := adv
    simp only [popA, popB] at hd hpop
    simp at hd hpop
    obtain ⟨y, z, s, rfl⟩ : ∃ y z s, stack = y :: z :: s := by
      cases stack with
      | nil => simp at hpop
      | cons y s => cases s with
        | nil => simp at hpop
        | cons z s => exact ⟨y, z, s, rfl⟩
    simp only [List.length_cons] at hn
    rw [show doIn inp keep ⟨6, a, bb, n⟩ ⟨⟨next + 1, y :: z :: s, rd, outn, 0, cells⟩, kept, out, wrong⟩ = ⟨⟨next + 1, binV 6 z y :: s, rd, outn, 0, cells⟩, kept, out, wrong⟩ from rfl]
    dsimp only
    exact ⟨⟨fun _ => ⟨adv (by decide), by first | omega | (simp only [List.length_cons, List.length_append, List.length_nil]; omega)⟩, hcl, by first | omega | (simp only [List.length_cons, List.length_append, List.length_nil]; omega), by first | omega | (simp only [List.length_cons, List.length_append, List.length_nil]; omega)⟩, by first | omega | (simp only [List.length_cons, List.length_append, List.length_nil]; omega), by first | omega | (simp only [List.length_cons, List.length_append, List.length_nil]; omega), .inl rfl⟩
  by_cases h7 : op = 7
  · subst h7
    have adv := adv
    simp only [popA, popB] at hd hpop
    simp at hd hpop
    obtain ⟨y, z, s, rfl⟩ : ∃ y z s, stack = y :: z :: s := by
      cases stack with
      | nil => simp at hpop
      | cons y s => cases s with
        | nil => simp at hpop
        | cons z s => exact ⟨y, z, s, rfl⟩
    simp only [List.length_cons] at hn
    rw [show doIn inp keep ⟨7, a, bb, n⟩ ⟨⟨next + 1, y :: z :: s, rd, outn, 0, cells⟩, kept, out, wrong⟩ = ⟨⟨next + 1, binV 7 z y :: s, rd, outn, 0, cells⟩, kept, out, wrong⟩ from rfl]
    dsimp only
    exact ⟨⟨fun _ => ⟨adv (by decide), by first | omega | (simp only [List.length_cons, List.length_append, List.length_nil]; omega)⟩, hcl, by first | omega | (simp only [List.length_cons, List.length_append, List.length_nil]; omega), by first | omega | (simp only [List.length_cons, List.length_append, List.length_nil]; omega)⟩, by first | omega | (simp only [List.length_cons, List.length_append, List.length_nil]; omega), by first | omega | (simp only [List.length_cons, List.length_append, List.length_nil]; omega), .inl rfl⟩
  by_cases h8 : op = 8
  · subst h8
    have adv := adv
    simp only [popA, popB] at hd hpop
    simp at hd hpop
    obtain ⟨y, z, s, rfl⟩ : ∃ y z s, stack = y :: z :: s := by
      cases stack with
      | nil => simp at hpop
      | cons y s => cases s with
        | nil => simp at hpop
        | cons z s => exact ⟨y, z, s, rfl⟩
    simp only [List.length_cons] at hn
    rw [show doIn inp keep ⟨8, a, bb, n⟩ ⟨⟨next + 1, y :: z :: s, rd, outn, 0, cells⟩, kept, out, wrong⟩ = ⟨⟨next + 1, binV 8 z y :: s, rd, outn, 0, cells⟩, kept, out, wrong⟩ from rfl]
    dsimp only
    exact ⟨⟨fun _ => ⟨adv (by decide), by first | omega | (simp only [List.length_cons, List.length_append, List.length_nil]; omega)⟩, hcl, by first | omega | (simp only [List.length_cons, List.length_append, List.length_nil]; omega), by first | omega | (simp only [List.length_cons, List.length_append, List.length_nil]; omega)⟩, by first | omega | (simp only [List.length_cons, List.length_append, List.length_nil]; omega), by first | omega | (simp only [List.length_cons, List.length_append, List.length_nil]; omega), .inl rfl⟩
  by_cases h9 : op = 9
  · subst h9
    have adv := adv
    simp only [popA, popB] at hd hpop
    simp at hd hpop
    obtain ⟨k, s, rfl⟩ : ∃ n s, stack = n :: s := by
      cases stack with
      | nil => simp at hpop
      | cons n s => exact ⟨n, s, rfl⟩
    simp only [List.length_cons] at hn
    rw [show doIn inp keep ⟨9, a, bb, n⟩ ⟨⟨next + 1, k :: s, rd, outn, 0, cells⟩, kept, out, wrong⟩ = ⟨⟨next + 1, s, rd, outn, 0, cells.set a.toNat k⟩, kept, out, wrong⟩ from rfl]
    dsimp only
    exact ⟨⟨fun _ => ⟨adv (by decide), by first | omega | (simp only [List.length_cons, List.length_append, List.length_nil]; omega)⟩, by simpa using hcl, by first | omega | (simp only [List.length_cons, List.length_append, List.length_nil]; omega), by first | omega | (simp only [List.length_cons, List.length_append, List.length_nil]; omega)⟩, by first | omega | (simp only [List.length_cons, List.length_append, List.length_nil]; omega), by first | omega | (simp only [List.length_cons, List.length_append, List.length_nil]; omega), .inl rfl⟩
  by_cases h10 : op = 10
  · subst h10
    have adv := adv
    simp only [popA, popB] at hd hpop
    simp at hd hpop
    obtain ⟨y, k, s, rfl⟩ : ∃ y z s, stack = y :: z :: s := by
      cases stack with
      | nil => simp at hpop
      | cons y s => cases s with
        | nil => simp at hpop
        | cons z s => exact ⟨y, z, s, rfl⟩
    simp only [List.length_cons] at hn
    by_cases hk : k < 0 ∨ bb ≤ k
    · skip
      rw [show doIn inp keep ⟨10, a, bb, n⟩ ⟨⟨next + 1, y :: k :: s, rd, outn, 0, cells⟩, kept, out, wrong⟩ = ⟨⟨next + 1, s, rd, outn, 13, cells⟩, kept, out, wrong⟩ from by simp [doIn, hk]]
      dsimp only
      exact ⟨⟨fun q => by simp at q, hcl, by first | omega | (simp only [List.length_cons, List.length_append, List.length_nil]; omega), by first | omega | (simp only [List.length_cons, List.length_append, List.length_nil]; omega)⟩, by first | omega | (simp only [List.length_cons, List.length_append, List.length_nil]; omega), by first | omega | (simp only [List.length_cons, List.length_append, List.length_nil]; omega), .inl rfl⟩
    · skip
      rw [show doIn inp keep ⟨10, a, bb, n⟩ ⟨⟨next + 1, y :: k :: s, rd, outn, 0, cells⟩, kept, out, wrong⟩ = ⟨⟨next + 1, s, rd, outn, 0, cells.set (a + k).toNat y⟩, kept, out, wrong⟩ from by simp [doIn, hk]]
      dsimp only
      exact ⟨⟨fun _ => ⟨adv (by decide), by first | omega | (simp only [List.length_cons, List.length_append, List.length_nil]; omega)⟩, by simpa using hcl, by first | omega | (simp only [List.length_cons, List.length_append, List.length_nil]; omega), by first | omega | (simp only [List.length_cons, List.length_append, List.length_nil]; omega)⟩, by first | omega | (simp only [List.length_cons, List.length_append, List.length_nil]; omega), by first | omega | (simp only [List.length_cons, List.length_append, List.length_nil]; omega), .inl rfl⟩
  by_cases h11 : op = 11
  · subst h11
    have adv := adv
    simp only [popA, popB] at hd hpop
    simp at hd hpop
    obtain ⟨k, s, rfl⟩ : ∃ n s, stack = n :: s := by
      cases stack with
      | nil => simp at hpop
      | cons n s => exact ⟨n, s, rfl⟩
    simp only [List.length_cons] at hn
    by_cases hk : outn = out.length
    · skip
      rw [show doIn inp keep ⟨11, a, bb, n⟩ ⟨⟨next + 1, k :: s, rd, outn, 0, cells⟩, kept, out, wrong⟩ = ⟨⟨next + 1, s, rd, outn + 1, 0, cells⟩, kept, out ++ [k], wrong⟩ from by simp [doIn, hk]]
      dsimp only
      exact ⟨⟨fun _ => ⟨adv (by decide), by first | omega | (simp only [List.length_cons, List.length_append, List.length_nil]; omega)⟩, hcl, by first | omega | (simp only [List.length_cons, List.length_append, List.length_nil]; omega), by first | omega | (simp only [List.length_cons, List.length_append, List.length_nil]; omega)⟩, by first | omega | (simp only [List.length_cons, List.length_append, List.length_nil]; omega), by first | omega | (simp only [List.length_cons, List.length_append, List.length_nil]; omega), .inl rfl⟩
    · skip
      rw [show doIn inp keep ⟨11, a, bb, n⟩ ⟨⟨next + 1, k :: s, rd, outn, 0, cells⟩, kept, out, wrong⟩ = ⟨⟨next + 1, s, rd, outn + 1, 0, cells⟩, kept, out, (wrong || decide (out.getD outn 0 ≠ k))⟩ from by simp [doIn, hk]]
      dsimp only
      exact ⟨⟨fun _ => ⟨adv (by decide), by first | omega | (simp only [List.length_cons, List.length_append, List.length_nil]; omega)⟩, hcl, by first | omega | (simp only [List.length_cons, List.length_append, List.length_nil]; omega), by first | omega | (simp only [List.length_cons, List.length_append, List.length_nil]; omega)⟩, by first | omega | (simp only [List.length_cons, List.length_append, List.length_nil]; omega), by first | omega | (simp only [List.length_cons, List.length_append, List.length_nil]; omega), .inl rfl⟩
  by_cases h12 : op = 12
  · subst h12
    have adv := adv
    simp only [popA, popB] at hd hpop
    simp at hd hpop
    by_cases hk : inp.length ≤ rd
    · skip
      rw [show doIn inp keep ⟨12, a, bb, n⟩ ⟨⟨next + 1, stack, rd, outn, 0, cells⟩, kept, out, wrong⟩ = ⟨⟨next + 1, stack, rd, outn, 14, cells⟩, kept, out, wrong⟩ from by simp [doIn, hk]]
      dsimp only
      exact ⟨⟨fun q => by simp at q, hcl, by first | omega | (simp only [List.length_cons, List.length_append, List.length_nil]; omega), by first | omega | (simp only [List.length_cons, List.length_append, List.length_nil]; omega)⟩, by first | omega | (simp only [List.length_cons, List.length_append, List.length_nil]; omega), by first | omega | (simp only [List.length_cons, List.length_append, List.length_nil]; omega), .inl rfl⟩
    · skip
      rw [show doIn inp keep ⟨12, a, bb, n⟩ ⟨⟨next + 1, stack, rd, outn, 0, cells⟩, kept, out, wrong⟩ = ⟨⟨next + 1, stack, rd + 1, outn, 0, cells.set a.toNat (inp.getD rd 0)⟩, kept, out, wrong⟩ from by simp [doIn, hk]]
      dsimp only
      exact ⟨⟨fun _ => ⟨adv (by decide), by first | omega | (simp only [List.length_cons, List.length_append, List.length_nil]; omega)⟩, by simpa using hcl, by first | omega | (simp only [List.length_cons, List.length_append, List.length_nil]; omega), by first | omega | (simp only [List.length_cons, List.length_append, List.length_nil]; omega)⟩, by first | omega | (simp only [List.length_cons, List.length_append, List.length_nil]; omega), by first | omega | (simp only [List.length_cons, List.length_append, List.length_nil]; omega), .inl rfl⟩
  by_cases h13 : op = 13
  · subst h13
    have adv := adv
    simp only [popA, popB] at hd hpop
    simp at hd hpop
    obtain ⟨k, s, rfl⟩ : ∃ n s, stack = n :: s := by
      cases stack with
      | nil => simp at hpop
      | cons n s => exact ⟨n, s, rfl⟩
    simp only [List.length_cons] at hn
    obtain ⟨j, rfl, hj, hz⟩ := hjmp (by decide)
    have f3 := f3 (by decide)
    by_cases hk : k = 0
    · skip
      rw [show doIn inp keep ⟨13, (j : Int), bb, n⟩ ⟨⟨next + 1, k :: s, rd, outn, 0, cells⟩, kept, out, wrong⟩ = ⟨⟨j, s, rd, outn, 0, cells⟩, kept, out, wrong⟩ from by simp [doIn, hk]]
      dsimp only
      exact ⟨⟨fun _ => ⟨hj, by first | omega | (simp only [List.length_cons, List.length_append, List.length_nil]; omega)⟩, hcl, by first | omega | (simp only [List.length_cons, List.length_append, List.length_nil]; omega), by first | omega | (simp only [List.length_cons, List.length_append, List.length_nil]; omega)⟩, by first | omega | (simp only [List.length_cons, List.length_append, List.length_nil]; omega), by first | omega | (simp only [List.length_cons, List.length_append, List.length_nil]; omega), .inl rfl⟩
    · skip
      rw [show doIn inp keep ⟨13, (j : Int), bb, n⟩ ⟨⟨next + 1, k :: s, rd, outn, 0, cells⟩, kept, out, wrong⟩ = ⟨⟨next + 1, s, rd, outn, 0, cells⟩, kept, out, wrong⟩ from by simp [doIn, hk]]
      dsimp only
      exact ⟨⟨fun _ => ⟨adv (by decide), by first | omega | (simp only [List.length_cons, List.length_append, List.length_nil]; omega)⟩, hcl, by first | omega | (simp only [List.length_cons, List.length_append, List.length_nil]; omega), by first | omega | (simp only [List.length_cons, List.length_append, List.length_nil]; omega)⟩, by first | omega | (simp only [List.length_cons, List.length_append, List.length_nil]; omega), by first | omega | (simp only [List.length_cons, List.length_append, List.length_nil]; omega), .inl rfl⟩
  by_cases h14 : op = 14
  · subst h14
    have adv := adv
    simp only [popA, popB] at hd hpop
    simp at hd hpop
    obtain ⟨j, rfl, hj, hz⟩ := hjmp (by decide)
    have f3 := f3 (by decide)
    rw [show doIn inp keep ⟨14, (j : Int), bb, n⟩ ⟨⟨next + 1, stack, rd, outn, 0, cells⟩, kept, out, wrong⟩ = ⟨⟨j, stack, rd, outn, 0, cells⟩, kept, out, wrong⟩ from by simp [doIn]]
    dsimp only
    exact ⟨⟨fun _ => ⟨hj, by first | omega | (simp only [List.length_cons, List.length_append, List.length_nil]; omega)⟩, hcl, by first | omega | (simp only [List.length_cons, List.length_append, List.length_nil]; omega), by first | omega | (simp only [List.length_cons, List.length_append, List.length_nil]; omega)⟩, by first | omega | (simp only [List.length_cons, List.length_append, List.length_nil]; omega), by first | omega | (simp only [List.length_cons, List.length_append, List.length_nil]; omega), .inl rfl⟩
  by_cases h15 : op = 15
  · subst h15
    have adv := adv
    simp only [popA, popB] at hd hpop
    simp at hd hpop
    cases keep with
    | false =>
      rw [show doIn inp false ⟨15, a, bb, n⟩ ⟨⟨next + 1, stack, rd, outn, 0, cells⟩, kept, out, wrong⟩ = ⟨⟨next + 1, stack, rd, outn, 0, cells⟩, kept, out, wrong⟩ from rfl]
      dsimp only
      exact ⟨⟨fun _ => ⟨adv (by decide), by first | omega | (simp only [List.length_cons, List.length_append, List.length_nil]; omega)⟩, hcl, by first | omega | (simp only [List.length_cons, List.length_append, List.length_nil]; omega), by first | omega | (simp only [List.length_cons, List.length_append, List.length_nil]; omega)⟩, by first | omega | (simp only [List.length_cons, List.length_append, List.length_nil]; omega), by first | omega | (simp only [List.length_cons, List.length_append, List.length_nil]; omega), .inl rfl⟩
    | true =>
      rw [show doIn inp true ⟨15, a, bb, n⟩ ⟨⟨next + 1, stack, rd, outn, 0, cells⟩, kept, out, wrong⟩ = ⟨⟨next + 1, stack, rd, outn, 0, cells⟩, ⟨next + 1, stack, rd, outn, 0, cells⟩, out, wrong⟩ from rfl]
      dsimp only
      exact ⟨⟨fun _ => ⟨adv (by decide), by first | omega | (simp only [List.length_cons, List.length_append, List.length_nil]; omega)⟩, hcl, by first | omega | (simp only [List.length_cons, List.length_append, List.length_nil]; omega), by first | omega | (simp only [List.length_cons, List.length_append, List.length_nil]; omega)⟩, by first | omega | (simp only [List.length_cons, List.length_append, List.length_nil]; omega), by first | omega | (simp only [List.length_cons, List.length_append, List.length_nil]; omega), .inr ⟨rfl, rfl⟩⟩
  by_cases h16 : op = 16
  · subst h16
    have adv := adv
    simp only [popA, popB] at hd hpop
    simp at hd hpop
    rw [show doIn inp keep ⟨16, a, bb, n⟩ ⟨⟨next + 1, stack, rd, outn, 0, cells⟩, kept, out, wrong⟩ = ⟨⟨next + 1, stack, rd, outn, 1, cells⟩, kept, out, wrong⟩ from rfl]
    dsimp only
    exact ⟨⟨fun q => by simp at q, hcl, by first | omega | (simp only [List.length_cons, List.length_append, List.length_nil]; omega), by first | omega | (simp only [List.length_cons, List.length_append, List.length_nil]; omega)⟩, by first | omega | (simp only [List.length_cons, List.length_append, List.length_nil]; omega), by first | omega | (simp only [List.length_cons, List.length_append, List.length_nil]; omega), .inl rfl⟩
  have hA : popA op = 0 := by simp only [popA]; rw [if_neg h3, if_neg (show ¬ (4 ≤ op ∧ op ≤ 8) by omega), if_neg (show ¬ (op = 9 ∨ op = 11 ∨ op = 13) by omega), if_neg h10]
  have hB : popB op = 0 := by simp only [popB]; rw [if_neg (show ¬ (1 ≤ op ∧ op ≤ 8) by omega)]
  rw [hA, hB] at hd
  simp only [doIn]
  rw [if_neg h1, if_neg h2, if_neg h3, if_neg (show ¬ (4 ≤ op ∧ op ≤ 8) by omega), if_neg h9, if_neg h10, if_neg h11, if_neg h12, if_neg h13, if_neg h14, if_neg h15, if_neg h16]
  dsimp only
  exact ⟨⟨fun _ => ⟨adv h16, by show (stack.length : Int) = hts ((codeOf p).take (next + 1)); omega⟩, hcl, by omega, by omega⟩, by omega, by omega, .inl rfl⟩
end Go.Proofs.Ytmnmcjdgnpgchaa

namespace Go.Proofs.Ytmnmcjdgnpgchaa
open Go X
theorem putC_ok {C : List (List Int)} (h : pgsOk C) (a w : Int) : pgsOk (putC C a w) := by
  unfold putC; split
  · rename_i hc
    exact pgs_set h _ (by rw [List.length_set]; exact pgs_row8 h (by omega))
  · exact h
theorem wput {C : List (List Int)} (h : pgsOk C) {a : Int} (w : Int) (ha : 0 ≤ a ∧ a < 112) (b : Int) : wordC (putC C a w) b = if b = a then w else wordC C b := by
  by_cases hb : 0 ≤ b ∧ b < 112
  · obtain ⟨n, rfl⟩ := Int.eq_ofNat_of_zero_le hb.1
    exact wordC_put h a w (by omega)
  · rw [wordC_out hb, wordC_out hb, if_neg (by omega)]
/-- What the words of a machine say. -/
structure Shows (C : List (List Int)) (m : Mi) : Prop where
  ok : pgsOk C
  nx : wordC C 0 = m.next
  sl : wordC C 1 = m.stack.length
  rd : wordC C 2 = m.rd
  on : wordC C 3 = m.outn
  st : wordC C 4 = m.st
  ce : ∀ k : Nat, k < m.cells.length → wordC C (5 + k) = m.cells.getD k 0
  sk : ∀ j : Nat, j < m.stack.length → wordC C (53 + j) = m.stack.reverse.getD j 0
  lc : m.cells.length ≤ 48
  ls : m.stack.length ≤ 59
theorem rev_lt (n : Int) (s : List Int) {j : Nat} (h : j < s.length) : (n :: s).reverse.getD j 0 = s.reverse.getD j 0 := by
  rw [List.reverse_cons, List.getD_eq_getElem?_getD, List.getD_eq_getElem?_getD, List.getElem?_append_left (by rw [List.length_reverse]; exact h)]
theorem rev_at (n : Int) (s : List Int) : (n :: s).reverse.getD s.length 0 = n := by
  rw [List.reverse_cons, List.getD_eq_getElem?_getD, List.getElem?_append_right (by simp)]; simp
section
variable {C : List (List Int)} {next rd outn : Nat} {stack cells : List Int} {st : Int}
theorem Shows.put0 (h : Shows C ⟨next, stack, rd, outn, st, cells⟩) (n : Nat) : Shows (putC C 0 n) ⟨n, stack, rd, outn, st, cells⟩ := by
  have w := wput h.ok (a := 0) n (by omega)
  refine ⟨putC_ok h.ok _ _, by rw [w, if_pos rfl], by rw [w, if_neg (by omega)]; exact h.sl, by rw [w, if_neg (by omega)]; exact h.rd, by rw [w, if_neg (by omega)]; exact h.on, by rw [w, if_neg (by omega)]; exact h.st, fun k hk => ?_, fun j hj => ?_, h.lc, h.ls⟩
  · rw [w, if_neg (by omega)]; exact h.ce k hk
  · rw [w, if_neg (by omega)]; exact h.sk j hj
theorem Shows.put2 (h : Shows C ⟨next, stack, rd, outn, st, cells⟩) (n : Nat) : Shows (putC C 2 n) ⟨next, stack, n, outn, st, cells⟩ := by
  have w := wput h.ok (a := 2) n (by omega)
  refine ⟨putC_ok h.ok _ _, by rw [w, if_neg (by omega)]; exact h.nx, by rw [w, if_neg (by omega)]; exact h.sl, by rw [w, if_pos rfl], by rw [w, if_neg (by omega)]; exact h.on, by rw [w, if_neg (by omega)]; exact h.st, fun k hk => ?_, fun j hj => ?_, h.lc, h.ls⟩
  · rw [w, if_neg (by omega)]; exact h.ce k hk
  · rw [w, if_neg (by omega)]; exact h.sk j hj
theorem Shows.put3 (h : Shows C ⟨next, stack, rd, outn, st, cells⟩) (n : Nat) : Shows (putC C 3 n) ⟨next, stack, rd, n, st, cells⟩ := by
  have w := wput h.ok (a := 3) n (by omega)
  refine ⟨putC_ok h.ok _ _, by rw [w, if_neg (by omega)]; exact h.nx, by rw [w, if_neg (by omega)]; exact h.sl, by rw [w, if_neg (by omega)]; exact h.rd, by rw [w, if_pos rfl], by rw [w, if_neg (by omega)]; exact h.st, fun k hk => ?_, fun j hj => ?_, h.lc, h.ls⟩
  · rw [w, if_neg (by omega)]; exact h.ce k hk
  · rw [w, if_neg (by omega)]; exact h.sk j hj
theorem Shows.put4 (h : Shows C ⟨next, stack, rd, outn, st, cells⟩) (n : Int) : Shows (putC C 4 n) ⟨next, stack, rd, outn, n, cells⟩ := by
  have w := wput h.ok (a := 4) n (by omega)
  refine ⟨putC_ok h.ok _ _, by rw [w, if_neg (by omega)]; exact h.nx, by rw [w, if_neg (by omega)]; exact h.sl, by rw [w, if_neg (by omega)]; exact h.rd, by rw [w, if_neg (by omega)]; exact h.on, by rw [w, if_pos rfl], fun k hk => ?_, fun j hj => ?_, h.lc, h.ls⟩
  · rw [w, if_neg (by omega)]; exact h.ce k hk
  · rw [w, if_neg (by omega)]; exact h.sk j hj
theorem Shows.putc (h : Shows C ⟨next, stack, rd, outn, st, cells⟩) {a : Nat} (ha : a < cells.length) (n : Int) : Shows (putC C (5 + a) n) ⟨next, stack, rd, outn, st, cells.set a n⟩ := by
  have hl := h.lc
  have hs := h.ls
  simp only at hl hs
  have w := wput h.ok (a := 5 + a) n (by omega)
  refine ⟨putC_ok h.ok _ _, by rw [w, if_neg (by omega)]; exact h.nx, by rw [w, if_neg (by omega)]; exact h.sl, by rw [w, if_neg (by omega)]; exact h.rd, by rw [w, if_neg (by omega)]; exact h.on, by rw [w, if_neg (by omega)]; exact h.st, fun k hk => ?_, fun j hj => ?_, by simpa using hl, hs⟩
  · simp only [List.length_set] at hk
    have e := h.ce k hk
    simp only [List.getD_eq_getElem?_getD, List.getElem?_set] at e ⊢
    rw [w]
    by_cases hak : a = k
    · subst hak; rw [if_pos rfl, if_pos rfl, if_pos ha]; rfl
    · rw [if_neg (by omega), if_neg hak]; exact e
  · rw [w, if_neg (by omega)]; exact h.sk j hj
theorem Shows.push (h : Shows C ⟨next, stack, rd, outn, st, cells⟩) (hl : stack.length < 59) (n : Int) : Shows (putC (putC C 1 (stack.length + 1)) (53 + stack.length) n) ⟨next, n :: stack, rd, outn, st, cells⟩ := by
  have hc := h.lc
  simp only at hc
  have w1 := wput h.ok (a := 1) (stack.length + 1) (by omega)
  have ok1 := putC_ok h.ok 1 ((stack.length : Int) + 1)
  have w2 := wput ok1 (a := 53 + stack.length) n (by omega)
  refine ⟨putC_ok ok1 _ _, ?_, ?_, ?_, ?_, ?_, fun k hk => ?_, fun j hj => ?_, hc, by simp only [List.length_cons]; omega⟩
  · rw [w2, if_neg (by omega), w1, if_neg (by omega)]; exact h.nx
  · rw [w2, if_neg (by omega), w1, if_pos rfl]; simp
  · rw [w2, if_neg (by omega), w1, if_neg (by omega)]; exact h.rd
  · rw [w2, if_neg (by omega), w1, if_neg (by omega)]; exact h.on
  · rw [w2, if_neg (by omega), w1, if_neg (by omega)]; exact h.st
  · simp only at hk
    rw [w2, if_neg (by omega), w1, if_neg (by omega)]; exact h.ce k hk
  · simp only [List.length_cons] at hj
    rw [w2]
    by_cases e : j = stack.length
    · subst e; rw [if_pos rfl, rev_at]
    · rw [if_neg (by omega), w1, if_neg (by omega), rev_lt n stack (by omega)]; exact h.sk j (by show j < stack.length; omega)
theorem Shows.pop {n : Int} {s : List Int} (h : Shows C ⟨next, n :: s, rd, outn, st, cells⟩) : Shows (putC C 1 s.length) ⟨next, s, rd, outn, st, cells⟩ := by
  have hc := h.lc
  have hs := h.ls
  simp only [List.length_cons] at hc hs
  have w := wput h.ok (a := 1) s.length (by omega)
  refine ⟨putC_ok h.ok _ _, by rw [w, if_neg (by omega)]; exact h.nx, by rw [w, if_pos rfl], by rw [w, if_neg (by omega)]; exact h.rd, by rw [w, if_neg (by omega)]; exact h.on, by rw [w, if_neg (by omega)]; exact h.st, fun k hk => ?_, fun j hj => ?_, hc, by show s.length ≤ 59; omega⟩
  · rw [w, if_neg (by omega)]; exact h.ce k hk
  · simp only at hj
    rw [w, if_neg (by omega), ← rev_lt n s hj]; exact h.sk j (by show j < (n :: s).length; rw [List.length_cons]; omega)
theorem Shows.top {n : Int} {s : List Int} (h : Shows C ⟨next, n :: s, rd, outn, st, cells⟩) : wordC C (53 + s.length) = n := by
  rw [h.sk s.length (by show _ < (n :: s).length; simp)]; exact rev_at n s
end
namespace Me
def pushM (M : Me) (n : Int) : Me := (M.put 1 (M.ld 1 + 1)).put (53 + M.ld 1) n
def popM (M : Me) : Me := M.put 1 (M.ld 1 - 1)
def topM (M : Me) : Int := M.popM.ld (52 + M.ld 1)
def doM (inp : List Int) (x : In) (M : Me) : Me :=
  if x.op = 1 then M.pushM x.n
  else if x.op = 2 then M.pushM (M.ld (5 + x.a))
  else if x.op = 3 then (if M.topM < 0 ∨ x.b ≤ M.topM then M.popM.put 4 13 else M.popM.pushM (M.popM.ld (5 + x.a + M.topM)))
  else if 4 ≤ x.op ∧ x.op ≤ 8 then M.popM.popM.pushM (binV x.op M.popM.topM M.topM)
  else if x.op = 9 then M.popM.put (5 + x.a) M.topM
  else if x.op = 10 then (if M.popM.topM < 0 ∨ x.b ≤ M.popM.topM then M.popM.popM.put 4 13 else M.popM.popM.put (5 + x.a + M.popM.topM) M.topM)
  else if x.op = 11 then M.popM.put 3 (M.popM.ld 3 + 1)
  else if x.op = 12 then (if (inp.length : Int) ≤ M.ld 2 then M.put 4 14 else (M.put 2 (M.ld 2 + 1)).put (5 + x.a) (inp.getD (M.ld 2).toNat 0))
  else if x.op = 13 then (if M.topM = 0 then M.popM.put 0 x.a else M.popM)
  else if x.op = 14 then M.put 0 x.a
  else if x.op = 15 then ⟨M.C, noB⟩
  else if x.op = 16 then M.put 4 1
  else M
def stepM (code : List In) (inp : List Int) (M : Me) : Me := match code[(M.ld 0).toNat]? with
  | none => M
  | some x => doM inp x (M.put 0 (M.ld 0 + 1))
end Me
section
variable {M : Me} {next rd outn : Nat} {stack cells : List Int} {st : Int}
theorem Shows.popM {n : Int} {s : List Int} (h : Shows M.C ⟨next, n :: s, rd, outn, st, cells⟩) : Shows M.popM.C ⟨next, s, rd, outn, st, cells⟩ := by
  have e : M.ld 1 - 1 = s.length := by rw [Me.ld, h.sl]; simp
  show Shows (putC M.C 1 (M.ld 1 - 1)) _
  rw [e]; exact h.pop
theorem Shows.topM {n : Int} {s : List Int} (h : Shows M.C ⟨next, n :: s, rd, outn, st, cells⟩) : M.topM = n := by
  have hs := h.ls
  simp only [List.length_cons] at hs
  have e : M.ld 1 = s.length + 1 := by rw [Me.ld, h.sl]; simp
  show wordC (putC M.C 1 (M.ld 1 - 1)) (52 + M.ld 1) = n
  rw [wput h.ok _ (by omega), if_neg (by omega), e, show (52 : Int) + (s.length + 1) = 53 + s.length by omega]
  exact h.top
theorem Shows.pushM (h : Shows M.C ⟨next, stack, rd, outn, st, cells⟩) (hl : stack.length < 59) (n : Int) : Shows (M.pushM n).C ⟨next, n :: stack, rd, outn, st, cells⟩ := by
  have e : M.ld 1 = stack.length := h.sl
  show Shows (putC (putC M.C 1 (M.ld 1 + 1)) (53 + M.ld 1) n) _
  rw [e]; exact h.push hl n
end
/-- An instruction is done alike. -/
theorem Shows.step {code : List In} {inp : List Int} {b : Be} {x : In} {M : Me} (keep : Bool) (h : Shows M.C b.m) (hk : StepOk code inp b x) (hs : b.m.stack.length < 59) : Shows (M.stepM code inp).C (stepB code inp keep b).m := by
  obtain ⟨⟨next, stack, rd, outn, st, cells⟩, kept, out, wrong⟩ := b
  obtain ⟨hst, hx, hpop, ⟨hcell, hcell2⟩, hgo, hsl, hcl, hcd, hrd, hol, hon⟩ := hk
  simp only at hst hx hpop hcell hcell2 hsl hcl hcd hrd hol hon hs h
  subst hst
  have e0 : M.ld 0 = next := h.nx
  rw [stepB, hx, Me.stepM, e0, Int.toNat_natCast, hx]
  simp only [bump]
  have h1 : Shows (M.put 0 (((next : Nat) : Int) + 1)).C ⟨next + 1, stack, rd, outn, 0, cells⟩ := by
    have := h.put0 (next + 1)
    rw [Int.natCast_add] at this
    exact this
  clear h e0
  generalize M.put 0 (((next : Nat) : Int) + 1) = M at h1
  obtain ⟨op, a, bb, n⟩ := x
  simp only at hpop hcell hcell2 hgo
  clear hx
  by_cases o1 : op = 1
  · subst o1; exact h1.pushM hs n
  by_cases o2 : op = 2
  · subst o2
    obtain ⟨ha0, ha1⟩ := hcell (.inl rfl)
    obtain ⟨a, rfl⟩ : ∃ k : Nat, a = k := ⟨a.toNat, by omega⟩
    have e : M.ld (5 + (a : Int)) = cells.getD a 0 := h1.ce a (by show a < cells.length; omega)
    have := h1.pushM hs (cells.getD a 0)
    rw [← e] at this
    show Shows (M.pushM (M.ld (5 + (a : Int)))).C ⟨next + 1, cells.getD ((a : Int)).toNat 0 :: stack, rd, outn, 0, cells⟩
    rw [Int.toNat_natCast, ← e]; exact this
  by_cases o3 : op = 3
  · subst o3
    obtain ⟨k, s, rfl⟩ : ∃ n s, stack = n :: s := by
      cases stack with
      | nil => simp [popA] at hpop
      | cons n s => exact ⟨n, s, rfl⟩
    obtain ⟨hb0, hb1, hb2⟩ := hcell2 (by decide)
    have ht := h1.topM
    have hp := h1.popM
    by_cases hk : k < 0 ∨ bb ≤ k
    · have e1 : M.doM inp ⟨3, a, bb, n⟩ = M.popM.put 4 13 := by simp [Me.doM, ht, hk]
      have e2 : (doIn inp keep ⟨3, a, bb, n⟩ ⟨⟨next + 1, k :: s, rd, outn, 0, cells⟩, kept, out, wrong⟩) = ⟨⟨next + 1, s, rd, outn, 13, cells⟩, kept, out, wrong⟩ := by simp [doIn, hk]
      rw [e1, e2]; exact hp.put4 13
    · have e1 : M.doM inp ⟨3, a, bb, n⟩ = M.popM.pushM (M.popM.ld (5 + a + k)) := by simp [Me.doM, ht, hk]
      have e2 : (doIn inp keep ⟨3, a, bb, n⟩ ⟨⟨next + 1, k :: s, rd, outn, 0, cells⟩, kept, out, wrong⟩) = ⟨⟨next + 1, cells.getD (a + k).toNat 0 :: s, rd, outn, 0, cells⟩, kept, out, wrong⟩ := by simp [doIn, hk]
      rw [e1, e2]
      obtain ⟨j, hj⟩ : ∃ j : Nat, a + k = j := ⟨(a + k).toNat, by omega⟩
      have e : M.popM.ld (5 + (j : Int)) = cells.getD j 0 := hp.ce j (by show j < cells.length; omega)
      rw [show 5 + a + k = 5 + (j : Int) by omega, hj, Int.toNat_natCast, e]
      exact hp.pushM (by simp only [List.length_cons] at hs; omega) _
  by_cases o4 : 4 ≤ op ∧ op ≤ 8
  · have hp2 : popA op = 2 := by simp only [popA]; rw [if_neg o3, if_pos o4]
    obtain ⟨y, z, s, rfl⟩ : ∃ y z s, stack = y :: z :: s := by
      cases stack with
      | nil => simp [hp2] at hpop
      | cons y s => cases s with
        | nil => simp [hp2] at hpop
        | cons z s => exact ⟨y, z, s, rfl⟩
    have e1 : M.doM inp ⟨op, a, bb, n⟩ = M.popM.popM.pushM (binV op M.popM.topM M.topM) := by
      simp only [Me.doM]; rw [if_neg o1, if_neg o2, if_neg o3, if_pos o4]
    have e2 : (doIn inp keep ⟨op, a, bb, n⟩ ⟨⟨next + 1, y :: z :: s, rd, outn, 0, cells⟩, kept, out, wrong⟩) = ⟨⟨next + 1, binV op z y :: s, rd, outn, 0, cells⟩, kept, out, wrong⟩ := by
      simp only [doIn]; rw [if_neg o1, if_neg o2, if_neg o3, if_pos o4]
    rw [e1, e2, h1.topM, h1.popM.topM]
    exact h1.popM.popM.pushM (by simp only [List.length_cons] at hs; omega) _
  by_cases o9 : op = 9
  · subst o9
    obtain ⟨k, s, rfl⟩ : ∃ n s, stack = n :: s := by
      cases stack with
      | nil => simp [popA] at hpop
      | cons n s => exact ⟨n, s, rfl⟩
    obtain ⟨ha0, ha1⟩ := hcell (by decide)
    obtain ⟨a, rfl⟩ : ∃ k : Nat, a = k := ⟨a.toNat, by omega⟩
    have := h1.popM.putc (a := a) (by omega) k
    show Shows (M.popM.put (5 + (a : Int)) M.topM).C ⟨next + 1, s, rd, outn, 0, cells.set ((a : Int)).toNat k⟩
    rw [Int.toNat_natCast, h1.topM]; exact this
  by_cases o10 : op = 10
  · subst o10
    obtain ⟨y, z, s, rfl⟩ : ∃ y z s, stack = y :: z :: s := by
      cases stack with
      | nil => simp [popA] at hpop
      | cons y s => cases s with
        | nil => simp [popA] at hpop
        | cons z s => exact ⟨y, z, s, rfl⟩
    obtain ⟨hb0, hb1, hb2⟩ := hcell2 (by decide)
    have ht := h1.topM
    have ht2 := h1.popM.topM
    have hp := h1.popM.popM
    by_cases hk : z < 0 ∨ bb ≤ z
    · have e1 : M.doM inp ⟨10, a, bb, n⟩ = M.popM.popM.put 4 13 := by simp [Me.doM, ht2, hk]
      have e2 : (doIn inp keep ⟨10, a, bb, n⟩ ⟨⟨next + 1, y :: z :: s, rd, outn, 0, cells⟩, kept, out, wrong⟩) = ⟨⟨next + 1, s, rd, outn, 13, cells⟩, kept, out, wrong⟩ := by simp [doIn, hk]
      rw [e1, e2]; exact hp.put4 13
    · have e1 : M.doM inp ⟨10, a, bb, n⟩ = M.popM.popM.put (5 + a + z) y := by simp [Me.doM, ht, ht2, hk]
      have e2 : (doIn inp keep ⟨10, a, bb, n⟩ ⟨⟨next + 1, y :: z :: s, rd, outn, 0, cells⟩, kept, out, wrong⟩) = ⟨⟨next + 1, s, rd, outn, 0, cells.set (a + z).toNat y⟩, kept, out, wrong⟩ := by simp [doIn, hk]
      rw [e1, e2]
      obtain ⟨j, hj⟩ : ∃ j : Nat, a + z = j := ⟨(a + z).toNat, by omega⟩
      rw [show 5 + a + z = 5 + (j : Int) by omega, hj, Int.toNat_natCast]
      exact hp.putc (a := j) (by omega) y
  by_cases o11 : op = 11
  · subst o11
    obtain ⟨k, s, rfl⟩ : ∃ n s, stack = n :: s := by
      cases stack with
      | nil => simp [popA] at hpop
      | cons n s => exact ⟨n, s, rfl⟩
    have e : (doIn inp keep ⟨11, a, bb, n⟩ ⟨⟨next + 1, k :: s, rd, outn, 0, cells⟩, kept, out, wrong⟩).m = ⟨next + 1, s, rd, outn + 1, 0, cells⟩ := by
      by_cases hoe : outn = out.length <;> simp [doIn, hoe]
    rw [e]
    have e3 : M.popM.ld 3 = outn := h1.popM.on
    have := h1.popM.put3 (outn + 1)
    rw [Int.natCast_add] at this
    show Shows (M.popM.put 3 (M.popM.ld 3 + 1)).C _
    rw [e3]; exact this
  by_cases o12 : op = 12
  · subst o12
    obtain ⟨ha0, ha1⟩ := hcell (by decide)
    obtain ⟨a, rfl⟩ : ∃ k : Nat, a = k := ⟨a.toNat, by omega⟩
    have e2 : M.ld 2 = rd := h1.rd
    by_cases hr : inp.length ≤ rd
    · have e1 : M.doM inp ⟨12, a, bb, n⟩ = M.put 4 14 := by simp [Me.doM, e2, hr]
      have e3 : (doIn inp keep ⟨12, a, bb, n⟩ ⟨⟨next + 1, stack, rd, outn, 0, cells⟩, kept, out, wrong⟩) = ⟨⟨next + 1, stack, rd, outn, 14, cells⟩, kept, out, wrong⟩ := by simp [doIn, hr]
      rw [e1, e3]; exact h1.put4 14
    · have hr2 : ¬ ((inp.length : Int) ≤ rd) := by omega
      have e1 : M.doM inp ⟨12, a, bb, n⟩ = (M.put 2 (rd + 1)).put (5 + a) (inp.getD rd 0) := by simp [Me.doM, e2, hr]
      have e3 : (doIn inp keep ⟨12, a, bb, n⟩ ⟨⟨next + 1, stack, rd, outn, 0, cells⟩, kept, out, wrong⟩) = ⟨⟨next + 1, stack, rd + 1, outn, 0, cells.set a (inp.getD rd 0)⟩, kept, out, wrong⟩ := by simp [doIn, hr]
      rw [e1, e3]
      have := h1.put2 (rd + 1)
      rw [Int.natCast_add] at this
      exact this.putc (a := a) (by omega) _
  by_cases o13 : op = 13
  · subst o13
    obtain ⟨k, s, rfl⟩ : ∃ n s, stack = n :: s := by
      cases stack with
      | nil => simp [popA] at hpop
      | cons n s => exact ⟨n, s, rfl⟩
    obtain ⟨a, rfl⟩ : ∃ k : Nat, a = k := ⟨a.toNat, by have := hgo (by decide); omega⟩
    have ht := h1.topM
    by_cases hk : k = 0
    · have e1 : M.doM inp ⟨13, a, bb, n⟩ = M.popM.put 0 a := by simp [Me.doM, ht, hk]
      have e2 : (doIn inp keep ⟨13, a, bb, n⟩ ⟨⟨next + 1, k :: s, rd, outn, 0, cells⟩, kept, out, wrong⟩) = ⟨⟨a, s, rd, outn, 0, cells⟩, kept, out, wrong⟩ := by simp [doIn, hk]
      rw [e1, e2]; exact h1.popM.put0 a
    · have e1 : M.doM inp ⟨13, a, bb, n⟩ = M.popM := by simp [Me.doM, ht, hk]
      have e2 : (doIn inp keep ⟨13, a, bb, n⟩ ⟨⟨next + 1, k :: s, rd, outn, 0, cells⟩, kept, out, wrong⟩) = ⟨⟨next + 1, s, rd, outn, 0, cells⟩, kept, out, wrong⟩ := by simp [doIn, hk]
      rw [e1, e2]; exact h1.popM
  by_cases o14 : op = 14
  · subst o14
    obtain ⟨a, rfl⟩ : ∃ k : Nat, a = k := ⟨a.toNat, by have := hgo (by decide); omega⟩
    exact h1.put0 a
  by_cases o15 : op = 15
  · subst o15
    cases keep <;> exact h1
  by_cases o16 : op = 16
  · subst o16
    exact h1.put4 1
  have e1 : M.doM inp ⟨op, a, bb, n⟩ = M := by
    simp only [Me.doM]; rw [if_neg o1, if_neg o2, if_neg o3, if_neg o4, if_neg o9, if_neg o10, if_neg o11, if_neg o12, if_neg o13, if_neg o14, if_neg o15, if_neg o16]
  have e2 : (doIn inp keep ⟨op, a, bb, n⟩ ⟨⟨next + 1, stack, rd, outn, 0, cells⟩, kept, out, wrong⟩) = ⟨⟨next + 1, stack, rd, outn, 0, cells⟩, kept, out, wrong⟩ := by
    simp only [doIn]; rw [if_neg o1, if_neg o2, if_neg o3, if_neg o4, if_neg o9, if_neg o10, if_neg o11, if_neg o12, if_neg o13, if_neg o14, if_neg o15, if_neg o16]
  rw [e1, e2]; exact h1
end Go.Proofs.Ytmnmcjdgnpgchaa

namespace Go.Proofs.Ytmnmcjdgnpgchaa
open Go X
set_option maxHeartbeats 1000000
def codeP (wrong : Bool) : Int := if wrong then 15 else 0
/-- A printer. -/
def Prin (pb : Nat) (out : List Int) (wrong : Bool) : HP := fun m => ∃ x : Option Addr × Nat, True ∧ Sat [blk pb [.slice x.1 out.length x.2, i64 (codeP wrong)] 40, lst 2 1 (.slice x.1 out.length x.2) out.length (ints out)] m
theorem Prin.opn {pb : Nat} {out : List Int} {wrong : Bool} : ∀ m, Prin pb out wrong m → ∃ x : Option Addr × Nat, True ∧ Sat [blk pb [.slice x.1 out.length x.2, i64 (codeP wrong)] 40, lst 2 1 (.slice x.1 out.length x.2) out.length (ints out)] m := fun _ h => h
theorem Prin.mk {pb : Nat} {out : List Int} {wrong : Bool} {p : Option Addr} {c n : Nat} {k : Int} {vs : List Value} (hn : n = out.length) (hk : k = codeP wrong) (hv : vs = ints out) : ∀ m, Sat [blk pb [.slice p n c, i64 k] 40, lst 2 1 (.slice p n c) n vs] m → Prin pb out wrong m := fun _ h => ⟨(p, c), trivial, by subst hn; subst hk; subst hv; exact h⟩
/-- A number at a place. -/
def prS (out : List Int) (wrong : Bool) (a n : Int) : List Int × Bool :=
  if a = out.length then (out ++ [n], wrong) else if a < 0 ∨ (out.length : Int) < a ∨ out.getD a.toNat 0 ≠ n then (out, true) else (out, wrong)
theorem pput_a (σ : PH) (pb : Nat) (out : List Int) (wrong : Bool) (a n : Int) (hl : out.length ≤ 1000000) :
    CallsA Try.prog 22 #[ptr pb, i64 a, i64 n] σ [Prin pb out wrong] (RetA fun v σ' Γ' => v = .tuple #[] ∧ σ = σ' ∧ Γ' = [Prin pb (prS out wrong a n).1 (prS out wrong a n).2]) := by
  by_cases h1 : a = out.length
  · have e : prS out wrong a n = (out ++ [n], wrong) := by rw [prS, if_pos h1]
    rw [e]
    have hone : ones [i64 n] := ones_lit rfl
    refine enterA3 Try.func22 rfl rfl rfl ?_
    refine XA.block ?_
    refine zS ?_; refine zR ?_
    first | refine XA.opn (R := Prin pb out wrong) (by ((repeat (first | with_reducible exact Sel.head | apply Sel.tail)); (first | done | fail))) (Prin.opn) ?_ | refine XOA.opn (R := Prin pb out wrong) (by ((repeat (first | with_reducible exact Sel.head | apply Sel.tail)); (first | done | fail))) (Prin.opn) ?_ | refine DA.opn (R := Prin pb out wrong) (by ((repeat (first | with_reducible exact Sel.head | apply Sel.tail)); (first | done | fail))) (Prin.opn) ?_
    rintro ⟨p, c⟩ -
    first | refine XA.cl ?_ | refine XOA.cl ?_ | refine DA.cl ?_
    refine zO rfl Rd.mv ?_; refine zO rfl Rd.mv ?_; refine zO rfl (Rd.nilCheck rfl) ?_; refine zO rfl (Rd.fA rfl) ?_; refine zO rfl (Rd.ldC rfl (tyrow rfl) rfl) ?_; refine zO rfl (Rd.lenSlice (tyrow rfl) rfl rfl) ?_; refine zO rfl (Rd.eql rfl rfl) ?_; refine zO rfl Rd.asg ?_; refine zN ?_; refine zT ?_
    refine XA.condT rfl (decide_eq_true h1) ?_
    refine zR ?_; refine zO rfl Rd.mv ?_; refine zO rfl Rd.mv ?_; refine zO rfl (Rd.nilCheck rfl) ?_; refine zO rfl (Rd.fA rfl) ?_; refine zO rfl (Rd.ldC rfl (tyrow rfl) rfl) ?_; refine zO rfl Rd.mv ?_
    refine XOA.wr0 rfl (WrA.bs1 (tyrow rfl) rfl (tyrow rfl)) ?_
    rintro _ _ _ ⟨g20, rfl, rfl, rfl⟩
    refine XOA.wr0 rfl (WrA.ap1 (tyrow rfl) rfl (tyrow rfl) rfl rfl rfl) ?_
    rintro _ _ _ ⟨p21, c21, rfl, rfl, rfl⟩
    refine zO rfl (Rd.nilCheck rfl) ?_; refine zO rfl (Rd.fA rfl) ?_
    refine XOA.wr0 rfl (WrA.st (tyrow rfl) rfl) ?_
    rintro _ _ _ ⟨rfl, rfl, rfl⟩
    refine zN ?_
    refine DA.inb_normal ?_
    exact bodyA.normal (ResA.none rfl) (Ent.fold1 zE (Prin.mk (by simp) rfl (by simp [ints]))) ⟨rfl, rfl, rfl⟩
  by_cases h2 : a < 0
  · have e : prS out wrong a n = (out, true) := by rw [prS, if_neg h1, if_pos (.inl h2)]
    rw [e]
    refine enterA3 Try.func22 rfl rfl rfl ?_
    refine XA.block ?_
    refine zS ?_; refine zR ?_
    first | refine XA.opn (R := Prin pb out wrong) (by ((repeat (first | with_reducible exact Sel.head | apply Sel.tail)); (first | done | fail))) (Prin.opn) ?_ | refine XOA.opn (R := Prin pb out wrong) (by ((repeat (first | with_reducible exact Sel.head | apply Sel.tail)); (first | done | fail))) (Prin.opn) ?_ | refine DA.opn (R := Prin pb out wrong) (by ((repeat (first | with_reducible exact Sel.head | apply Sel.tail)); (first | done | fail))) (Prin.opn) ?_
    rintro ⟨p, c⟩ -
    first | refine XA.cl ?_ | refine XOA.cl ?_ | refine DA.cl ?_
    refine zO rfl Rd.mv ?_; refine zO rfl Rd.mv ?_; refine zO rfl (Rd.nilCheck rfl) ?_; refine zO rfl (Rd.fA rfl) ?_; refine zO rfl (Rd.ldC rfl (tyrow rfl) rfl) ?_; refine zO rfl (Rd.lenSlice (tyrow rfl) rfl rfl) ?_; refine zO rfl (Rd.eql rfl rfl) ?_; refine zO rfl Rd.asg ?_; refine zN ?_; refine zT ?_
    refine XA.condF rfl (decide_eq_false h1) ?_
    refine zS ?_; refine zR ?_; refine zO rfl Rd.mv ?_; refine zO rfl (Rd.lss rfl rfl) ?_; refine zO rfl Rd.mv ?_
    first | ((first | refine zW ?_ | refine zQ ?_); refine zO rfl Rd.mv ?_) | refine zU ?_ | refine zV ?_ | refine zZ ?_
    first | ((first | refine zW ?_ | refine zQ ?_); refine zO rfl Rd.mv ?_) | refine zU ?_ | refine zV ?_ | refine zZ ?_
    first | ((first | refine zW ?_ | refine zQ ?_); refine zO rfl (Rd.nilCheck rfl) ?_) | refine zU ?_ | refine zV ?_ | refine zZ ?_
    first | ((first | refine zW ?_ | refine zQ ?_); refine zO rfl (Rd.fA rfl) ?_) | refine zU ?_ | refine zV ?_ | refine zZ ?_
    first | ((first | refine zW ?_ | refine zQ ?_); refine zO rfl (Rd.ldC rfl (tyrow rfl) rfl) ?_) | refine zU ?_ | refine zV ?_ | refine zZ ?_
    first | ((first | refine zW ?_ | refine zQ ?_); refine zO rfl (Rd.lenSlice (tyrow rfl) rfl rfl) ?_) | refine zU ?_ | refine zV ?_ | refine zZ ?_
    first | ((first | refine zW ?_ | refine zQ ?_); refine zO rfl (Rd.gtr rfl rfl) ?_) | refine zU ?_ | refine zV ?_ | refine zZ ?_
    refine zO rfl (by first | exact Rd.pT rfl | exact Rd.pF rfl | exact Rd.pP rfl) ?_
    refine zO rfl Rd.mv ?_
    first | ((first | refine zW ?_ | refine zQ ?_); refine zO rfl Rd.mv ?_) | refine zU ?_ | refine zV ?_ | refine zZ ?_
    first | ((first | refine zW ?_ | refine zQ ?_); refine zO rfl (Rd.nilCheck rfl) ?_) | refine zU ?_ | refine zV ?_ | refine zZ ?_
    first | ((first | refine zW ?_ | refine zQ ?_); refine zO rfl (Rd.fA rfl) ?_) | refine zU ?_ | refine zV ?_ | refine zZ ?_
    first | ((first | refine zW ?_ | refine zQ ?_); refine zO rfl (Rd.ldC rfl (tyrow rfl) rfl) ?_) | refine zU ?_ | refine zV ?_ | refine zZ ?_
    first | ((first | refine zW ?_ | refine zQ ?_); refine zO rfl Rd.mv ?_) | refine zU ?_ | refine zV ?_ | refine zZ ?_
    first | ((first | refine zW ?_ | refine zQ ?_); refine zO rfl (Rd.ixS rfl rfl) ?_) | refine zU ?_ | refine zV ?_ | refine zZ ?_
    first | ((first | refine zW ?_ | refine zQ ?_); refine zO rfl (Rd.ldC rfl (tyrow rfl) rfl) ?_) | refine zU ?_ | refine zV ?_ | refine zZ ?_
    first | ((first | refine zW ?_ | refine zQ ?_); refine zO rfl Rd.mv ?_) | refine zU ?_ | refine zV ?_ | refine zZ ?_
    first | ((first | refine zW ?_ | refine zQ ?_); refine zO rfl (Rd.neq rfl rfl) ?_) | refine zU ?_ | refine zV ?_ | refine zZ ?_
    refine zO rfl (by first | exact Rd.pT rfl | exact Rd.pF rfl | exact Rd.pP rfl) ?_
    refine zO rfl Rd.asg ?_; refine zN ?_; refine zT ?_
    refine XA.condT rfl (by first | rfl | exact decide_eq_true h2) ?_
    refine zR ?_; refine zO rfl Rd.mv ?_; refine zO rfl (Rd.nilCheck rfl) ?_; refine zO rfl (Rd.fA rfl) ?_
    refine XOA.wr0 rfl (WrA.st (tyrow rfl) rfl) ?_
    rintro _ _ _ ⟨rfl, rfl, rfl⟩
    refine zN ?_
    refine DA.inb_normal ?_
    exact bodyA.normal (ResA.none rfl) (Ent.fold1 zE (Prin.mk rfl rfl rfl)) ⟨rfl, rfl, rfl⟩
  by_cases h3 : (out.length : Int) < a
  · have e : prS out wrong a n = (out, true) := by rw [prS, if_neg h1, if_pos (.inr (.inl h3))]
    rw [e]
    refine enterA3 Try.func22 rfl rfl rfl ?_
    refine XA.block ?_
    refine zS ?_; refine zR ?_
    first | refine XA.opn (R := Prin pb out wrong) (by ((repeat (first | with_reducible exact Sel.head | apply Sel.tail)); (first | done | fail))) (Prin.opn) ?_ | refine XOA.opn (R := Prin pb out wrong) (by ((repeat (first | with_reducible exact Sel.head | apply Sel.tail)); (first | done | fail))) (Prin.opn) ?_ | refine DA.opn (R := Prin pb out wrong) (by ((repeat (first | with_reducible exact Sel.head | apply Sel.tail)); (first | done | fail))) (Prin.opn) ?_
    rintro ⟨p, c⟩ -
    first | refine XA.cl ?_ | refine XOA.cl ?_ | refine DA.cl ?_
    refine zO rfl Rd.mv ?_; refine zO rfl Rd.mv ?_; refine zO rfl (Rd.nilCheck rfl) ?_; refine zO rfl (Rd.fA rfl) ?_; refine zO rfl (Rd.ldC rfl (tyrow rfl) rfl) ?_; refine zO rfl (Rd.lenSlice (tyrow rfl) rfl rfl) ?_; refine zO rfl (Rd.eql rfl rfl) ?_; refine zO rfl Rd.asg ?_; refine zN ?_; refine zT ?_
    refine XA.condF rfl (decide_eq_false h1) ?_
    refine zS ?_; refine zR ?_; refine zO rfl Rd.mv ?_; refine zO rfl (Rd.lss rfl rfl) ?_; refine zO rfl Rd.mv ?_
    first | ((first | refine zW ?_ | refine zQ ?_); refine zO rfl Rd.mv ?_) | refine zU ?_ | refine zV ?_ | refine zZ ?_
    first | ((first | refine zW ?_ | refine zQ ?_); refine zO rfl Rd.mv ?_) | refine zU ?_ | refine zV ?_ | refine zZ ?_
    first | ((first | refine zW ?_ | refine zQ ?_); refine zO rfl (Rd.nilCheck rfl) ?_) | refine zU ?_ | refine zV ?_ | refine zZ ?_
    first | ((first | refine zW ?_ | refine zQ ?_); refine zO rfl (Rd.fA rfl) ?_) | refine zU ?_ | refine zV ?_ | refine zZ ?_
    first | ((first | refine zW ?_ | refine zQ ?_); refine zO rfl (Rd.ldC rfl (tyrow rfl) rfl) ?_) | refine zU ?_ | refine zV ?_ | refine zZ ?_
    first | ((first | refine zW ?_ | refine zQ ?_); refine zO rfl (Rd.lenSlice (tyrow rfl) rfl rfl) ?_) | refine zU ?_ | refine zV ?_ | refine zZ ?_
    first | ((first | refine zW ?_ | refine zQ ?_); refine zO rfl (Rd.gtr rfl rfl) ?_) | refine zU ?_ | refine zV ?_ | refine zZ ?_
    refine zO rfl (by first | exact Rd.pT rfl | exact Rd.pF rfl | exact Rd.pP rfl) ?_
    refine zO rfl Rd.mv ?_
    first | ((first | refine zW ?_ | refine zQ ?_); refine zO rfl Rd.mv ?_) | refine zU ?_ | refine zV ?_ | refine zZ ?_
    first | ((first | refine zW ?_ | refine zQ ?_); refine zO rfl (Rd.nilCheck rfl) ?_) | refine zU ?_ | refine zV ?_ | refine zZ ?_
    first | ((first | refine zW ?_ | refine zQ ?_); refine zO rfl (Rd.fA rfl) ?_) | refine zU ?_ | refine zV ?_ | refine zZ ?_
    first | ((first | refine zW ?_ | refine zQ ?_); refine zO rfl (Rd.ldC rfl (tyrow rfl) rfl) ?_) | refine zU ?_ | refine zV ?_ | refine zZ ?_
    first | ((first | refine zW ?_ | refine zQ ?_); refine zO rfl Rd.mv ?_) | refine zU ?_ | refine zV ?_ | refine zZ ?_
    first | ((first | refine zW ?_ | refine zQ ?_); refine zO rfl (Rd.ixS rfl rfl) ?_) | refine zU ?_ | refine zV ?_ | refine zZ ?_
    first | ((first | refine zW ?_ | refine zQ ?_); refine zO rfl (Rd.ldC rfl (tyrow rfl) rfl) ?_) | refine zU ?_ | refine zV ?_ | refine zZ ?_
    first | ((first | refine zW ?_ | refine zQ ?_); refine zO rfl Rd.mv ?_) | refine zU ?_ | refine zV ?_ | refine zZ ?_
    first | ((first | refine zW ?_ | refine zQ ?_); refine zO rfl (Rd.neq rfl rfl) ?_) | refine zU ?_ | refine zV ?_ | refine zZ ?_
    refine zO rfl (by first | exact Rd.pT rfl | exact Rd.pF rfl | exact Rd.pP rfl) ?_
    refine zO rfl Rd.asg ?_; refine zN ?_; refine zT ?_
    refine XA.condT rfl (by first | rfl | exact decide_eq_true h3) ?_
    refine zR ?_; refine zO rfl Rd.mv ?_; refine zO rfl (Rd.nilCheck rfl) ?_; refine zO rfl (Rd.fA rfl) ?_
    refine XOA.wr0 rfl (WrA.st (tyrow rfl) rfl) ?_
    rintro _ _ _ ⟨rfl, rfl, rfl⟩
    refine zN ?_
    refine DA.inb_normal ?_
    exact bodyA.normal (ResA.none rfl) (Ent.fold1 zE (Prin.mk rfl rfl rfl)) ⟨rfl, rfl, rfl⟩
  obtain ⟨k, rfl⟩ : ∃ k : Nat, a = k := ⟨a.toNat, by omega⟩
  have hk : k < out.length := by omega
  obtain ⟨y, hy⟩ : ∃ y, y = out.getD k 0 := ⟨_, rfl⟩
  have hv : (ints out)[k]? = some (i64 y) := by rw [hy]; simp [ints, hk]
  by_cases h4 : y = n
  · have e : prS out wrong k n = (out, wrong) := by
      rw [prS, if_neg h1, if_neg]
      rw [Int.toNat_natCast, ← hy]
      rintro (h | h | h)
      · exact h2 h
      · exact h3 h
      · exact h h4
    rw [e]
    refine enterA3 Try.func22 rfl rfl rfl ?_
    refine XA.block ?_
    refine zS ?_; refine zR ?_
    first | refine XA.opn (R := Prin pb out wrong) (by ((repeat (first | with_reducible exact Sel.head | apply Sel.tail)); (first | done | fail))) (Prin.opn) ?_ | refine XOA.opn (R := Prin pb out wrong) (by ((repeat (first | with_reducible exact Sel.head | apply Sel.tail)); (first | done | fail))) (Prin.opn) ?_ | refine DA.opn (R := Prin pb out wrong) (by ((repeat (first | with_reducible exact Sel.head | apply Sel.tail)); (first | done | fail))) (Prin.opn) ?_
    rintro ⟨p, c⟩ -
    first | refine XA.cl ?_ | refine XOA.cl ?_ | refine DA.cl ?_
    first | refine XA.opn (R := lst 2 1 (.slice p out.length c) _ _) (by ((repeat (first | with_reducible exact Sel.head | apply Sel.tail)); (first | done | fail))) (lst_some (by omega)) ?_ | refine XOA.opn (R := lst 2 1 (.slice p out.length c) _ _) (by ((repeat (first | with_reducible exact Sel.head | apply Sel.tail)); (first | done | fail))) (lst_some (by omega)) ?_ | refine DA.opn (R := lst 2 1 (.slice p out.length c) _ _) (by ((repeat (first | with_reducible exact Sel.head | apply Sel.tail)); (first | done | fail))) (lst_some (by omega)) ?_
    rintro g70 rfl
    first | refine XA.cl ?_ | refine XOA.cl ?_ | refine DA.cl ?_
    refine zO rfl Rd.mv ?_; refine zO rfl Rd.mv ?_; refine zO rfl (Rd.nilCheck rfl) ?_; refine zO rfl (Rd.fA rfl) ?_; refine zO rfl (Rd.ldC rfl (tyrow rfl) rfl) ?_; refine zO rfl (Rd.lenSlice (tyrow rfl) rfl rfl) ?_; refine zO rfl (Rd.eql rfl rfl) ?_; refine zO rfl Rd.asg ?_; refine zN ?_; refine zT ?_
    refine XA.condF rfl (decide_eq_false h1) ?_
    refine zS ?_; refine zR ?_; refine zO rfl Rd.mv ?_; refine zO rfl (Rd.lss rfl rfl) ?_; refine zO rfl Rd.mv ?_
    first | ((first | refine zW ?_ | refine zQ ?_); refine zO rfl Rd.mv ?_) | refine zU ?_ | refine zV ?_ | refine zZ ?_
    first | ((first | refine zW ?_ | refine zQ ?_); refine zO rfl Rd.mv ?_) | refine zU ?_ | refine zV ?_ | refine zZ ?_
    first | ((first | refine zW ?_ | refine zQ ?_); refine zO rfl (Rd.nilCheck rfl) ?_) | refine zU ?_ | refine zV ?_ | refine zZ ?_
    first | ((first | refine zW ?_ | refine zQ ?_); refine zO rfl (Rd.fA rfl) ?_) | refine zU ?_ | refine zV ?_ | refine zZ ?_
    first | ((first | refine zW ?_ | refine zQ ?_); refine zO rfl (Rd.ldC rfl (tyrow rfl) rfl) ?_) | refine zU ?_ | refine zV ?_ | refine zZ ?_
    first | ((first | refine zW ?_ | refine zQ ?_); refine zO rfl (Rd.lenSlice (tyrow rfl) rfl rfl) ?_) | refine zU ?_ | refine zV ?_ | refine zZ ?_
    first | ((first | refine zW ?_ | refine zQ ?_); refine zO rfl (Rd.gtr rfl rfl) ?_) | refine zU ?_ | refine zV ?_ | refine zZ ?_
    refine zO rfl (by first | exact Rd.pT rfl | exact Rd.pF rfl | exact Rd.pP rfl) ?_
    refine zO rfl Rd.mv ?_
    first | ((first | refine zW ?_ | refine zQ ?_); refine zO rfl Rd.mv ?_) | refine zU ?_ | refine zV ?_ | refine zZ ?_
    first | ((first | refine zW ?_ | refine zQ ?_); refine zO rfl (Rd.nilCheck rfl) ?_) | refine zU ?_ | refine zV ?_ | refine zZ ?_
    first | ((first | refine zW ?_ | refine zQ ?_); refine zO rfl (Rd.fA rfl) ?_) | refine zU ?_ | refine zV ?_ | refine zZ ?_
    first | ((first | refine zW ?_ | refine zQ ?_); refine zO rfl (Rd.ldC rfl (tyrow rfl) rfl) ?_) | refine zU ?_ | refine zV ?_ | refine zZ ?_
    first | ((first | refine zW ?_ | refine zQ ?_); refine zO rfl Rd.mv ?_) | refine zU ?_ | refine zV ?_ | refine zZ ?_
    first | ((first | refine zW ?_ | refine zQ ?_); refine zO rfl (Rd.ixS rfl rfl) ?_) | refine zU ?_ | refine zV ?_ | refine zZ ?_
    first | ((first | refine zW ?_ | refine zQ ?_); refine zO rfl (Rd.ldC rfl (tyrow rfl) rfl) ?_) | refine zU ?_ | refine zV ?_ | refine zZ ?_
    first | ((first | refine zW ?_ | refine zQ ?_); refine zO rfl Rd.mv ?_) | refine zU ?_ | refine zV ?_ | refine zZ ?_
    first | ((first | refine zW ?_ | refine zQ ?_); refine zO rfl (Rd.neq rfl rfl) ?_) | refine zU ?_ | refine zV ?_ | refine zZ ?_
    refine zO rfl (by first | exact Rd.pT rfl | exact Rd.pF rfl | exact Rd.pP rfl) ?_
    refine zO rfl Rd.asg ?_; refine zN ?_; refine zT ?_
    refine XA.condF rfl (decide_eq_false (fun h => h h4)) ?_
    refine XA.skip ?_
    refine DA.inb_normal ?_
    exact bodyA.normal (ResA.none rfl) (Ent.fold1 zE (Prin.mk rfl rfl rfl)) ⟨rfl, rfl, rfl⟩
  have e : prS out wrong k n = (out, true) := by
    rw [prS, if_neg h1, if_pos (.inr (.inr (by rw [Int.toNat_natCast, ← hy]; exact h4)))]
  rw [e]
  refine enterA3 Try.func22 rfl rfl rfl ?_
  refine XA.block ?_
  refine zS ?_; refine zR ?_
  first | refine XA.opn (R := Prin pb out wrong) (by ((repeat (first | with_reducible exact Sel.head | apply Sel.tail)); (first | done | fail))) (Prin.opn) ?_ | refine XOA.opn (R := Prin pb out wrong) (by ((repeat (first | with_reducible exact Sel.head | apply Sel.tail)); (first | done | fail))) (Prin.opn) ?_ | refine DA.opn (R := Prin pb out wrong) (by ((repeat (first | with_reducible exact Sel.head | apply Sel.tail)); (first | done | fail))) (Prin.opn) ?_
  rintro ⟨p, c⟩ -
  first | refine XA.cl ?_ | refine XOA.cl ?_ | refine DA.cl ?_
  first | refine XA.opn (R := lst 2 1 (.slice p out.length c) _ _) (by ((repeat (first | with_reducible exact Sel.head | apply Sel.tail)); (first | done | fail))) (lst_some (by omega)) ?_ | refine XOA.opn (R := lst 2 1 (.slice p out.length c) _ _) (by ((repeat (first | with_reducible exact Sel.head | apply Sel.tail)); (first | done | fail))) (lst_some (by omega)) ?_ | refine DA.opn (R := lst 2 1 (.slice p out.length c) _ _) (by ((repeat (first | with_reducible exact Sel.head | apply Sel.tail)); (first | done | fail))) (lst_some (by omega)) ?_
  rintro g70 rfl
  first | refine XA.cl ?_ | refine XOA.cl ?_ | refine DA.cl ?_
  refine zO rfl Rd.mv ?_; refine zO rfl Rd.mv ?_; refine zO rfl (Rd.nilCheck rfl) ?_; refine zO rfl (Rd.fA rfl) ?_; refine zO rfl (Rd.ldC rfl (tyrow rfl) rfl) ?_; refine zO rfl (Rd.lenSlice (tyrow rfl) rfl rfl) ?_; refine zO rfl (Rd.eql rfl rfl) ?_; refine zO rfl Rd.asg ?_; refine zN ?_; refine zT ?_
  refine XA.condF rfl (decide_eq_false h1) ?_
  refine zS ?_; refine zR ?_; refine zO rfl Rd.mv ?_; refine zO rfl (Rd.lss rfl rfl) ?_; refine zO rfl Rd.mv ?_
  first | ((first | refine zW ?_ | refine zQ ?_); refine zO rfl Rd.mv ?_) | refine zU ?_ | refine zV ?_ | refine zZ ?_
  first | ((first | refine zW ?_ | refine zQ ?_); refine zO rfl Rd.mv ?_) | refine zU ?_ | refine zV ?_ | refine zZ ?_
  first | ((first | refine zW ?_ | refine zQ ?_); refine zO rfl (Rd.nilCheck rfl) ?_) | refine zU ?_ | refine zV ?_ | refine zZ ?_
  first | ((first | refine zW ?_ | refine zQ ?_); refine zO rfl (Rd.fA rfl) ?_) | refine zU ?_ | refine zV ?_ | refine zZ ?_
  first | ((first | refine zW ?_ | refine zQ ?_); refine zO rfl (Rd.ldC rfl (tyrow rfl) rfl) ?_) | refine zU ?_ | refine zV ?_ | refine zZ ?_
  first | ((first | refine zW ?_ | refine zQ ?_); refine zO rfl (Rd.lenSlice (tyrow rfl) rfl rfl) ?_) | refine zU ?_ | refine zV ?_ | refine zZ ?_
  first | ((first | refine zW ?_ | refine zQ ?_); refine zO rfl (Rd.gtr rfl rfl) ?_) | refine zU ?_ | refine zV ?_ | refine zZ ?_
  refine zO rfl (by first | exact Rd.pT rfl | exact Rd.pF rfl | exact Rd.pP rfl) ?_
  refine zO rfl Rd.mv ?_
  first | ((first | refine zW ?_ | refine zQ ?_); refine zO rfl Rd.mv ?_) | refine zU ?_ | refine zV ?_ | refine zZ ?_
  first | ((first | refine zW ?_ | refine zQ ?_); refine zO rfl (Rd.nilCheck rfl) ?_) | refine zU ?_ | refine zV ?_ | refine zZ ?_
  first | ((first | refine zW ?_ | refine zQ ?_); refine zO rfl (Rd.fA rfl) ?_) | refine zU ?_ | refine zV ?_ | refine zZ ?_
  first | ((first | refine zW ?_ | refine zQ ?_); refine zO rfl (Rd.ldC rfl (tyrow rfl) rfl) ?_) | refine zU ?_ | refine zV ?_ | refine zZ ?_
  first | ((first | refine zW ?_ | refine zQ ?_); refine zO rfl Rd.mv ?_) | refine zU ?_ | refine zV ?_ | refine zZ ?_
  first | ((first | refine zW ?_ | refine zQ ?_); refine zO rfl (Rd.ixS rfl rfl) ?_) | refine zU ?_ | refine zV ?_ | refine zZ ?_
  first | ((first | refine zW ?_ | refine zQ ?_); refine zO rfl (Rd.ldC rfl (tyrow rfl) rfl) ?_) | refine zU ?_ | refine zV ?_ | refine zZ ?_
  first | ((first | refine zW ?_ | refine zQ ?_); refine zO rfl Rd.mv ?_) | refine zU ?_ | refine zV ?_ | refine zZ ?_
  first | ((first | refine zW ?_ | refine zQ ?_); refine zO rfl (Rd.neq rfl rfl) ?_) | refine zU ?_ | refine zV ?_ | refine zZ ?_
  refine zO rfl (by first | exact Rd.pT rfl | exact Rd.pF rfl | exact Rd.pP rfl) ?_
  refine zO rfl Rd.asg ?_; refine zN ?_; refine zT ?_
  refine XA.condT rfl (decide_eq_true h4) ?_
  refine zR ?_; refine zO rfl Rd.mv ?_; refine zO rfl (Rd.nilCheck rfl) ?_; refine zO rfl (Rd.fA rfl) ?_
  refine XOA.wr0 rfl (WrA.st (tyrow rfl) rfl) ?_
  rintro _ _ _ ⟨rfl, rfl, rfl⟩
  refine zN ?_
  refine DA.inb_normal ?_
  exact bodyA.normal (ResA.none rfl) (Ent.fold1 zE (Prin.mk rfl rfl rfl)) ⟨rfl, rfl, rfl⟩
theorem pcode_a (σ : PH) (pb : Nat) (out : List Int) (wrong : Bool) :
    CallsA Try.prog 25 #[ptr pb] σ [Prin pb out wrong] (RetA fun v σ' Γ' => v = i64 (codeP wrong) ∧ σ = σ' ∧ Γ' = [Prin pb out wrong]) := by
  refine enterA1 Try.func25 rfl rfl rfl ?_
  refine zS ?_; refine zR ?_; refine zO rfl Rd.asg ?_; refine zN ?_; refine zT ?_; refine zS ?_; refine zR ?_
  first | refine XA.opn (R := Prin pb out wrong) (by ((repeat (first | with_reducible exact Sel.head | apply Sel.tail)); (first | done | fail))) (Prin.opn) ?_ | refine XOA.opn (R := Prin pb out wrong) (by ((repeat (first | with_reducible exact Sel.head | apply Sel.tail)); (first | done | fail))) (Prin.opn) ?_ | refine DA.opn (R := Prin pb out wrong) (by ((repeat (first | with_reducible exact Sel.head | apply Sel.tail)); (first | done | fail))) (Prin.opn) ?_
  rintro ⟨p, c⟩ -
  first | refine XA.cl ?_ | refine XOA.cl ?_ | refine DA.cl ?_
  refine zO rfl Rd.mv ?_; refine zO rfl (Rd.nilCheck rfl) ?_; refine zO rfl (Rd.fA rfl) ?_; refine zO rfl (Rd.ldC rfl (tyrow rfl) rfl) ?_; refine zO rfl Rd.asg ?_; refine zN ?_; refine zT ?_
  refine XA.ret ?_
  exact bodyA.ret (ResA.one rfl rfl) (Ent.fold1 zE (Prin.mk rfl rfl rfl)) ⟨rfl, rfl, rfl⟩
/-- A copy of numbers that stay. -/
theorem cloneP_a (σ : PH) (v : Value) (xs : List Int) (hv : PInts σ v xs) (hl : xs.length ≤ 1000000) :
    CallsA Try.prog 46 #[v] σ [] (RetA fun v' σ' Γ' => ∃ p c, v' = .slice p xs.length c ∧ σ = σ' ∧ Γ' = [lst 2 1 (.slice p xs.length c) xs.length (ints xs)]) := by
  obtain ⟨q, cq, rfl, hle, hmx⟩ := hv.shape
  have hxl : (ints xs).length = xs.length * 1 := by simp [ints]
  have hone : ones (ints xs) := ones_ints _
  cases q with
  | none =>
    obtain rfl : xs = [] := by
      cases xs with
      | nil => rfl
      | cons x l => obtain ⟨g, o, e, -⟩ := hv.at (show (x :: l)[0]? = some x from rfl); cases e
    refine enterA1 Try.func46 rfl rfl rfl ?_
    refine zS ?_; refine zR ?_; refine zO rfl Rd.asg ?_; refine zN ?_; refine zT ?_; refine zS ?_; refine zS ?_; refine zR ?_; refine zO rfl Rd.mv ?_
    refine zO rfl (Rd.eqlNil (tyrow rfl) rfl rfl) ?_
    refine zN ?_; refine zT ?_
    refine XA.condT rfl rfl ?_
    refine zS ?_; refine zR ?_; refine zO rfl Rd.asg ?_; refine zN ?_; refine zT ?_
    refine XA.ret ?_
    refine DA.thn_ret ?_
    exact bodyA.ret (ResA.one rfl rfl) (Ent.selNil (e := 2) (size := 1) (Ent.nil _)) ⟨none, 0, rfl, rfl, rfl⟩
  | some a =>
    cases xs with
    | nil =>
      refine enterA1 Try.func46 rfl rfl rfl ?_
      refine zS ?_; refine zR ?_; refine zO rfl Rd.asg ?_; refine zN ?_; refine zT ?_; refine zS ?_; refine zS ?_; refine zR ?_; refine zO rfl Rd.mv ?_
      refine zO rfl (Rd.eqlNil (tyrow rfl) rfl rfl) ?_
      refine zN ?_; refine zT ?_
      refine XA.condF rfl rfl ?_
      refine XA.skip ?_
      refine zT ?_; refine zS ?_; refine zR ?_
      refine XOA.wr0 rfl (WrA.bs (fun _ _ => tyrow) rfl rfl rfl rfl rfl) ?_
      rintro _ _ _ ⟨g5, rfl, rfl, rfl⟩
      refine zO rfl Rd.mv ?_
      refine XOA.wr0 rfl (Rd.toW (Rd.appendNone (tyrow rfl) rfl (tyrow rfl) rfl rfl (Nat.le_refl _))) ?_
      rintro _ _ _ ⟨rfl, rfl, rfl⟩
      refine zO rfl Rd.asg ?_; refine zN ?_; refine zT ?_
      refine XA.ret ?_
      exact bodyA.ret (ResA.one rfl rfl) (Ent.selImp (R := blk g5 _ _) (by ((repeat (first | with_reducible exact Sel.head | apply Sel.tail)); (first | done | fail))) (fun m h => lst_empty h (by simp) (by simp [maxLen])) zE) ⟨_, _, rfl, rfl, rfl⟩
    | cons x l =>
      obtain ⟨p', c', e1, e2, e3, e4⟩ := hv
      simp only [Value.slice.injEq] at e1
      obtain ⟨rfl, -, rfl⟩ := e1
      obtain ⟨g, o, e, hr⟩ := e4 (by simp)
      cases e
      refine enterA1 Try.func46 rfl rfl rfl ?_
      refine zS ?_; refine zR ?_; refine zO rfl Rd.asg ?_; refine zN ?_; refine zT ?_; refine zS ?_; refine zS ?_; refine zR ?_; refine zO rfl Rd.mv ?_
      refine zO rfl (Rd.eqlNil (tyrow rfl) rfl rfl) ?_
      refine zN ?_; refine zT ?_
      refine XA.condF rfl rfl ?_
      refine XA.skip ?_
      refine zT ?_; refine zS ?_; refine zR ?_
      refine XOA.wr0 rfl (WrA.bs (fun _ _ => tyrow) rfl rfl rfl rfl rfl) ?_
      rintro _ _ _ ⟨g5, rfl, rfl, rfl⟩
      refine zO rfl Rd.mv ?_
      refine XOA.ent (Δ := [lst 2 1 (.slice (some ⟨g5, 0, none⟩) 0 0) 0 []]) (Ent.selImp (R := blk g5 _ _) (by ((repeat (first | with_reducible exact Sel.head | apply Sel.tail)); (first | done | fail))) (fun m h => lst_empty h (by simp) (by simp [maxLen])) zE) ?_
      refine XOA.wr0 rfl (WrA.append (tyrow rfl) rfl (tyrow rfl) rfl rfl (by ((repeat (first | with_reducible exact Sel.head | apply Sel.tail)); (first | done | fail))) rfl (At.per hr) hxl hone (by simp) (by simp only [maxLen]; omega) (by simp only; omega)) ?_
      rintro _ _ _ ⟨p, c', rfl, rfl, rfl⟩
      refine zO rfl Rd.asg ?_; refine zN ?_; refine zT ?_
      refine XA.ret ?_
      rw [Nat.zero_add]
      exact bodyA.ret (ResA.one rfl rfl) zE ⟨_, _, rfl, rfl, rfl⟩
/-- A copy of numbers that are one's own. -/
theorem cloneL_a (σ : PH) (q : Option Addr) (n cq : Nat) (xs : List Int) (hn : xs.length = n) (hl : n ≤ 1000000) :
    CallsA Try.prog 46 #[.slice q n cq] σ [lst 2 1 (.slice q n cq) n (ints xs)] (RetA fun v' σ' Γ' => ∃ p c, v' = .slice p n c ∧ σ = σ' ∧ Γ' = [lst 2 1 (.slice q n cq) n (ints xs), lst 2 1 (.slice p n c) n (ints xs)]) := by
  subst hn
  have hxl : (ints xs).length = xs.length * 1 := by simp [ints]
  have hone : ones (ints xs) := ones_ints _
  by_cases h0 : xs = []
  · subst h0
    cases q with
    | none =>
      refine enterA1 Try.func46 rfl rfl rfl ?_
      refine zS ?_; refine zR ?_; refine zO rfl Rd.asg ?_; refine zN ?_; refine zT ?_; refine zS ?_; refine zS ?_; refine zR ?_; refine zO rfl Rd.mv ?_
      refine zO rfl (Rd.eqlNil (tyrow rfl) rfl rfl) ?_
      refine zN ?_; refine zT ?_
      refine XA.condT rfl rfl ?_
      refine zS ?_; refine zR ?_; refine zO rfl Rd.asg ?_; refine zN ?_; refine zT ?_
      refine XA.ret ?_
      refine DA.thn_ret ?_
      exact bodyA.ret (ResA.one rfl rfl) (Ent.sel .head (Ent.selNil (e := 2) (size := 1) (Ent.nil _))) ⟨none, 0, rfl, rfl, rfl⟩
    | some a =>
      refine enterA1 Try.func46 rfl rfl rfl ?_
      refine zS ?_; refine zR ?_; refine zO rfl Rd.asg ?_; refine zN ?_; refine zT ?_; refine zS ?_; refine zS ?_; refine zR ?_; refine zO rfl Rd.mv ?_
      refine zO rfl (Rd.eqlNil (tyrow rfl) rfl rfl) ?_
      refine zN ?_; refine zT ?_
      refine XA.condF rfl rfl ?_
      refine XA.skip ?_
      refine zT ?_; refine zS ?_; refine zR ?_
      refine XOA.wr0 rfl (WrA.bs (fun _ _ => tyrow) rfl rfl rfl rfl rfl) ?_
      rintro _ _ _ ⟨g5, rfl, rfl, rfl⟩
      refine zO rfl Rd.mv ?_
      refine XOA.ent (Δ := [lst 2 1 (.slice (some ⟨g5, 0, none⟩) 0 0) 0 [], lst 2 1 (.slice (some a) 0 cq) 0 (ints [])]) (Ent.selImp (R := blk g5 _ _) (by ((repeat (first | with_reducible exact Sel.head | apply Sel.tail)); (first | done | fail))) (fun m h => lst_empty h (by simp) (by simp [maxLen])) zE) ?_
      refine XOA.wr0 rfl (Rd.toW (Rd.appendNone (tyrow rfl) rfl (tyrow rfl) rfl rfl (Nat.le_refl _))) ?_
      rintro _ _ _ ⟨rfl, rfl, rfl⟩
      refine zO rfl Rd.asg ?_; refine zN ?_; refine zT ?_
      refine XA.ret ?_
      exact bodyA.ret (ResA.one rfl rfl) zE ⟨_, _, rfl, rfl, rfl⟩
  have hpos : 0 < xs.length := List.length_pos_iff.2 h0
  refine CallsA.opn .head (lst_some hpos) (enters Try.func46 rfl rfl) ?_
  rintro g rfl
  refine enterA1 Try.func46 rfl rfl rfl ?_
  refine zS ?_; refine zR ?_; refine zO rfl Rd.asg ?_; refine zN ?_; refine zT ?_; refine zS ?_; refine zS ?_; refine zR ?_; refine zO rfl Rd.mv ?_
  refine zO rfl (Rd.eqlNil (tyrow rfl) rfl rfl) ?_
  refine zN ?_; refine zT ?_
  refine XA.condF rfl rfl ?_
  refine XA.skip ?_
  refine zT ?_; refine zS ?_; refine zR ?_
  refine XOA.wr0 rfl (WrA.bs (fun _ _ => tyrow) rfl rfl rfl rfl rfl) ?_
  rintro _ _ _ ⟨g5, rfl, rfl, rfl⟩
  refine zO rfl Rd.mv ?_
  refine XOA.ent (Δ := [lst 2 1 (.slice (some ⟨g5, 0, none⟩) 0 0) 0 [], lst 2 1 (.slice (some ⟨g, 0, none⟩) xs.length cq) xs.length (ints xs)]) (Ent.selImp (R := blk g5 _ _) (by ((repeat (first | with_reducible exact Sel.head | apply Sel.tail)); (first | done | fail))) (fun m h => lst_empty h (by simp) (by simp [maxLen])) zE) ?_
  refine XOA.wr0 rfl (WrA.append (tyrow rfl) rfl (tyrow rfl) rfl rfl (by ((repeat (first | with_reducible exact Sel.head | apply Sel.tail)); (first | done | fail))) rfl (At.lst (by ((repeat (first | with_reducible exact Sel.head | apply Sel.tail)); (first | done | fail))) (by simp; exact List.take_of_length_le (by simp [ints]))) hxl hone hpos (by simp only [maxLen]; omega) (by simp only; omega)) ?_
  rintro _ _ _ ⟨p, c', rfl, rfl, rfl⟩
  refine zO rfl Rd.asg ?_; refine zN ?_; refine zT ?_
  refine XA.ret ?_
  rw [Nat.zero_add]
  exact bodyA.ret (ResA.one rfl rfl) zE ⟨_, _, rfl, rfl, rfl⟩
theorem plist_a (σ : PH) (pb : Nat) (out : List Int) (wrong : Bool) (hl : out.length ≤ 1000000) :
    CallsA Try.prog 24 #[ptr pb] σ [Prin pb out wrong] (RetA fun v σ' Γ' => ∃ p c, v = .slice p out.length c ∧ σ = σ' ∧ Γ' = [Prin pb out wrong, lst 2 1 (.slice p out.length c) out.length (ints out)]) := by
  refine enterA1 Try.func24 rfl rfl rfl ?_
  refine zS ?_; refine zR ?_; refine zO rfl Rd.asg ?_; refine zN ?_; refine zT ?_; refine zS ?_; refine zR ?_
  first | refine XA.opn (R := Prin pb out wrong) (by ((repeat (first | with_reducible exact Sel.head | apply Sel.tail)); (first | done | fail))) (Prin.opn) ?_ | refine XOA.opn (R := Prin pb out wrong) (by ((repeat (first | with_reducible exact Sel.head | apply Sel.tail)); (first | done | fail))) (Prin.opn) ?_ | refine DA.opn (R := Prin pb out wrong) (by ((repeat (first | with_reducible exact Sel.head | apply Sel.tail)); (first | done | fail))) (Prin.opn) ?_
  rintro ⟨q, cq⟩ -
  first | refine XA.cl ?_ | refine XOA.cl ?_ | refine DA.cl ?_
  refine zO rfl Rd.mv ?_; refine zO rfl (Rd.nilCheck rfl) ?_; refine zO rfl (Rd.fA rfl) ?_; refine zO rfl (Rd.ldC rfl (tyrow rfl) rfl) ?_
  refine XOA.wr0 rfl (WrA.cE (cloneL_a σ q out.length cq out rfl hl) rfl) ?_
  rintro _ _ _ ⟨_, ⟨p, c, rfl, rfl, rfl⟩, rfl⟩
  refine XOA.cl ?_
  refine zO rfl Rd.asg ?_; refine zN ?_; refine zT ?_
  refine XA.ret ?_
  exact bodyA.ret (ResA.one rfl rfl) (Ent.foldC (Θ := [_, _]) (by (repeat (first | exact Ent.all _ | (apply Ent.take; focus (first | ((repeat (first | with_reducible exact Sel.head | apply Sel.tail)); done) | ((repeat (first | exact Sel.head | apply Sel.tail)); done))) | apply Ent.takeNil | apply Ent.takeEmp)); (first | done | fail)) (Prin.mk rfl rfl rfl) zE) ⟨p, c, rfl, rfl, rfl⟩
end Go.Proofs.Ytmnmcjdgnpgchaa

namespace Go.Proofs.Ytmnmcjdgnpgchaa
open Go X
set_option maxHeartbeats 1000000
section
variable (σ : PH) (g mb sb db pb : Nat) (cv iv : Value) (left : Int) (torn : Bool) (d : DiskS) (s : StS) (M : Me)
theorem add_m (a n : Int) :
    CallsA Try.prog 48 #[ptr g, i64 a, i64 n] σ [blk g [ptr mb, cv, iv, ptr pb, i64 left, .bool torn] 64, Wld mb sb db d s M] (RetA fun v σ' Γ' => v = i64 (M.ld a) ∧ σ = σ' ∧ Γ' = [blk g [ptr mb, cv, iv, ptr pb, i64 left, .bool torn] 64, Wld mb sb db d s (M.put a (IntKind.i64.wrap (M.ld a + n)))]) := by
  refine enterA3 Try.func48 rfl rfl rfl ?_
  refine zS ?_; refine zR ?_; refine zO rfl Rd.asg ?_; refine zN ?_; refine zT ?_; refine zS ?_; refine zR ?_; refine zO rfl Rd.mv ?_; refine zO rfl (Rd.nilCheck rfl) ?_; refine zO rfl (Rd.fA rfl) ?_; refine zO rfl (Rd.ldC rfl (tyrow rfl) rfl) ?_; refine zO rfl Rd.mv ?_
  refine XOA.wr0 rfl (WrA.cE (load_w σ mb sb db d s M a) rfl) ?_
  rintro _ _ _ ⟨_, ⟨rfl, rfl, rfl⟩, rfl⟩
  refine XOA.cl ?_
  refine zO rfl Rd.asg ?_; refine zN ?_; refine zT ?_; refine zS ?_; refine zR ?_; refine zO rfl Rd.mv ?_; refine zO rfl (Rd.nilCheck rfl) ?_; refine zO rfl (Rd.fA rfl) ?_; refine zO rfl (Rd.ldC rfl (tyrow rfl) rfl) ?_; refine zO rfl Rd.mv ?_; refine zO rfl Rd.mv ?_; refine zO rfl Rd.mv ?_
  refine zO rfl (by first | exact Rd.adi rfl rfl | exact Rd.add rfl rfl) ?_
  refine XOA.wr0 rfl (WrA.cE (put_w σ mb sb db d s M a (IntKind.i64.wrap (M.ld a + n))) rfl) ?_
  rintro _ _ _ ⟨_, ⟨rfl, rfl, rfl⟩, rfl⟩
  refine XOA.cl ?_
  refine zN ?_; refine zT ?_; refine zS ?_; refine zR ?_; refine zO rfl Rd.mv ?_; refine zO rfl Rd.asg ?_; refine zN ?_; refine zT ?_
  refine XA.ret ?_
  exact bodyA.ret (ResA.one rfl rfl) zE ⟨rfl, rfl, rfl⟩
theorem stop_m (n : Int) :
    CallsA Try.prog 54 #[ptr g, i64 n] σ [blk g [ptr mb, cv, iv, ptr pb, i64 left, .bool torn] 64, Wld mb sb db d s M] (RetA fun v σ' Γ' => v = .tuple #[] ∧ σ = σ' ∧ Γ' = [blk g [ptr mb, cv, iv, ptr pb, i64 left, .bool torn] 64, Wld mb sb db d s (M.put 4 n)]) := by
  refine enterA2 Try.func54 rfl rfl rfl ?_
  refine zR ?_; refine zO rfl Rd.mv ?_; refine zO rfl (Rd.nilCheck rfl) ?_; refine zO rfl (Rd.fA rfl) ?_; refine zO rfl (Rd.ldC rfl (tyrow rfl) rfl) ?_; refine zO rfl Rd.mv ?_
  refine XOA.wr0 rfl (WrA.cE (put_w σ mb sb db d s M 4 n) rfl) ?_
  rintro _ _ _ ⟨_, ⟨rfl, rfl, rfl⟩, rfl⟩
  refine XOA.cl ?_
  refine zN ?_
  exact bodyA.normal (ResA.none rfl) zE ⟨rfl, rfl, rfl⟩
theorem flag_m (b : Bool) : CallsA Try.prog 75 #[.bool b] σ [] (RetA fun v σ' Γ' => v = i64 (if b then 1 else 0) ∧ σ = σ' ∧ Γ' = []) := by
  cases b with
  | true =>
    refine enterA1 Try.func75 rfl rfl rfl ?_
    refine zS ?_; refine zR ?_; refine zO rfl Rd.asg ?_; refine zN ?_; refine zT ?_; refine zS ?_; refine zS ?_; refine zR ?_; refine zO rfl Rd.mv ?_; refine zN ?_; refine zT ?_
    refine XA.condT rfl rfl ?_
    refine zS ?_; refine zR ?_; refine zO rfl Rd.asg ?_; refine zN ?_; refine zT ?_
    refine XA.ret ?_
    refine DA.thn_ret ?_
    exact bodyA.ret (ResA.one rfl rfl) zE ⟨rfl, rfl, rfl⟩
  | false =>
    refine enterA1 Try.func75 rfl rfl rfl ?_
    refine zS ?_; refine zR ?_; refine zO rfl Rd.asg ?_; refine zN ?_; refine zT ?_; refine zS ?_; refine zS ?_; refine zR ?_; refine zO rfl Rd.mv ?_; refine zN ?_; refine zT ?_
    refine XA.condF rfl rfl ?_
    refine XA.skip ?_
    refine zT ?_; refine zS ?_; refine zR ?_; refine zO rfl Rd.asg ?_; refine zN ?_; refine zT ?_
    refine XA.ret ?_
    exact bodyA.ret (ResA.one rfl rfl) zE ⟨rfl, rfl, rfl⟩
variable {next rd outn : Nat} {stack cells : List Int} {st : Int}
theorem push_m (h : Shows M.C ⟨next, stack, rd, outn, st, cells⟩) (hl : stack.length < 59) (n : Int) :
    CallsA Try.prog 49 #[ptr g, i64 n] σ [blk g [ptr mb, cv, iv, ptr pb, i64 left, .bool torn] 64, Wld mb sb db d s M] (RetA fun v σ' Γ' => v = .tuple #[] ∧ σ = σ' ∧ Γ' = [blk g [ptr mb, cv, iv, ptr pb, i64 left, .bool torn] 64, Wld mb sb db d s (M.pushM n)]) := by
  have e : M.ld 1 = stack.length := h.sl
  have hadd := add_m σ g mb sb db pb cv iv left torn d s M 1 1
  rw [X.wrap64_in (by omega) (by omega)] at hadd
  have hv2 : IntKind.i64.wrap (53 + M.ld 1) = 53 + M.ld 1 := X.wrap64_in (by omega) (by omega)
  refine enterA2 Try.func49 rfl rfl rfl ?_
  refine XA.draw (by kernel_rfl) _ _ [8] [(0, .pu), (1, .pu), (2, .pu), (3, .rd), (4, .pu), (7, .pu), (5, .wr), (6, .pu), (8, .wr)] (by kernel_rfl) (PH.sub.refl _) (Ent.sel (R := blk g _ _) (by ((repeat (first | with_reducible exact Sel.head | apply Sel.tail)); (first | done | fail))) (Ent.nil _)) ?_
  refine XPA.pu rfl rfl Gd.free Rd.mv ?_
  refine XPA.pu rfl rfl Gd.free (Rd.nilCheck rfl) ?_
  refine XPA.pu rfl rfl Gd.free (Rd.fA rfl) ?_
  refine XPA.rd rfl rfl Gd.free (Rd.ldC rfl (tyrow rfl) rfl) ?_
  refine XPA.pu rfl rfl Gd.free Rd.mv ?_
  refine XPA.pu rfl rfl Gd.free Rd.mv ?_
  refine XPA.wr0 rfl rfl Gd.free (WrA.cE (hadd) rfl) ?_
  rintro _ _ _ ⟨_, ⟨rfl, rfl, rfl⟩, rfl⟩
  refine stays (XPA.cl ?_)
  refine XPA.pu rfl rfl Gd.free (by first | exact Rd.adi rfl rfl | exact Rd.add rfl rfl) ?_
  refine XPA.wrZ0 rfl rfl Gd.free (by kernel_rfl) (WrA.cE (put_w σ mb sb db d s (M.put 1 (M.ld 1 + 1)) (53 + M.ld 1) n) rfl) ?_
  rintro _ _ _ ⟨_, ⟨rfl, rfl, rfl⟩, rfl⟩
  refine XPA.cl ?_
  refine XPA.nil ?_
  exact bodyA.normal (ResA.none rfl) zE ⟨rfl, rfl, rfl⟩
theorem pop_m {n : Int} {l : List Int} (h : Shows M.C ⟨next, n :: l, rd, outn, st, cells⟩) :
    CallsA Try.prog 51 #[ptr g] σ [blk g [ptr mb, cv, iv, ptr pb, i64 left, .bool torn] 64, Wld mb sb db d s M] (RetA fun v σ' Γ' => v = i64 n ∧ σ = σ' ∧ Γ' = [blk g [ptr mb, cv, iv, ptr pb, i64 left, .bool torn] 64, Wld mb sb db d s M.popM]) := by
  have e : M.ld 1 = l.length + 1 := by rw [Me.ld, h.sl]; simp
  have hl := h.ls
  simp only [List.length_cons] at hl
  have hadd := add_m σ g mb sb db pb cv iv left torn d s M 1 (-1)
  rw [X.wrap64_in (by omega) (by omega), show M.ld 1 + -1 = M.ld 1 - 1 by omega] at hadd
  have hv2 : IntKind.i64.wrap (53 + M.ld 1) = 53 + M.ld 1 := X.wrap64_in (by omega) (by omega)
  have hv3 : IntKind.i64.wrap (53 + M.ld 1 - 1) = 53 + M.ld 1 - 1 := X.wrap64_in (by omega) (by omega)
  have ht := h.topM
  refine enterA1 Try.func51 rfl rfl rfl ?_
  refine zS ?_; refine zR ?_; refine zO rfl Rd.asg ?_; refine zN ?_; refine zT ?_; refine zS ?_
  refine XA.draw (by kernel_rfl) _ _ [8] [(0, .pu), (1, .pu), (2, .pu), (3, .rd), (4, .pu), (5, .wr), (6, .pu), (7, .pu), (8, .wr), (9, .pu)] (by kernel_rfl) (PH.sub.refl _) (Ent.sel (R := blk g _ _) (by ((repeat (first | with_reducible exact Sel.head | apply Sel.tail)); (first | done | fail))) (Ent.nil _)) ?_
  refine XPA.pu rfl rfl Gd.free Rd.mv ?_
  refine XPA.pu rfl rfl Gd.free (Rd.nilCheck rfl) ?_
  refine XPA.pu rfl rfl Gd.free (Rd.fA rfl) ?_
  refine XPA.rd rfl rfl Gd.free (Rd.ldC rfl (tyrow rfl) rfl) ?_
  refine XPA.pu rfl rfl Gd.free Rd.mv ?_
  refine XPA.wr0 rfl rfl Gd.free (WrA.cE (hadd) rfl) ?_
  rintro _ _ _ ⟨_, ⟨rfl, rfl, rfl⟩, rfl⟩
  refine stays (XPA.cl ?_)
  refine XPA.pu rfl rfl Gd.free (by first | exact Rd.adi rfl rfl | exact Rd.add rfl rfl) ?_
  refine XPA.pu rfl rfl Gd.free (by first | exact Rd.sbi rfl rfl | exact Rd.sub rfl rfl) ?_
  rw [show 53 + M.ld 1 - 1 = 52 + M.ld 1 by omega]
  refine XPA.wrZ0 rfl rfl Gd.free (by kernel_rfl) (WrA.cE (load_w σ mb sb db d s M.popM (52 + M.ld 1)) rfl) ?_
  rintro _ _ _ ⟨_, ⟨rfl, rfl, rfl⟩, rfl⟩
  refine XPA.cl ?_
  refine XPA.pu rfl rfl Gd.free Rd.asg ?_
  refine XPA.nil ?_
  refine zT ?_
  refine XA.ret ?_
  exact bodyA.ret (ResA.one rfl rfl) zE ⟨congrArg i64 ht, rfl, rfl⟩
end
end Go.Proofs.Ytmnmcjdgnpgchaa

namespace Go.Proofs.Ytmnmcjdgnpgchaa
open Go X
set_option maxHeartbeats 1000000
section
variable (σ : PH) (g mb sb db pb : Nat) (cv iv : Value) (left : Int) (torn : Bool) (d : DiskS) (s : StS) (M : Me)
variable {next rd outn : Nat} {stack cells : List Int} {st : Int}
theorem two_m {y z : Int} {l : List Int} (op : Int) (ho : 4 ≤ op ∧ op ≤ 8) (h : Shows M.C ⟨next, y :: z :: l, rd, outn, st, cells⟩) :
    CallsA Try.prog 50 #[ptr g, i64 op] σ [blk g [ptr mb, cv, iv, ptr pb, i64 left, .bool torn] 64, Wld mb sb db d s M] (RetA fun v σ' Γ' => v = .tuple #[] ∧ σ = σ' ∧ Γ' = [blk g [ptr mb, cv, iv, ptr pb, i64 left, .bool torn] 64, Wld mb sb db d s (M.popM.popM.pushM (binV op z y))]) := by
  have hl := h.ls
  simp only [List.length_cons] at hl
  have hp1 := pop_m σ g mb sb db pb cv iv left torn d s M h
  have hp2 := pop_m σ g mb sb db pb cv iv left torn d s M.popM h.popM
  have hpu := fun n => push_m σ g mb sb db pb cv iv left torn d s M.popM.popM h.popM.popM (by omega) n
  by_cases h4 : op = 4
  · subst h4
    rw [show binV 4 z y = wrap_ (z + y) from rfl]
    refine enterA2 Try.func50 rfl rfl rfl ?_
    refine zS ?_; refine zR ?_; refine zO rfl Rd.mv ?_
    refine XOA.wr0 rfl (WrA.cE (hp1) rfl) ?_
    rintro _ _ _ ⟨_, ⟨rfl, rfl, rfl⟩, rfl⟩
    refine XOA.cl ?_
    refine zO rfl Rd.asg ?_; refine zN ?_; refine zT ?_; refine zS ?_; refine zR ?_; refine zO rfl Rd.mv ?_
    refine XOA.wr0 rfl (WrA.cE (hp2) rfl) ?_
    rintro _ _ _ ⟨_, ⟨rfl, rfl, rfl⟩, rfl⟩
    refine XOA.cl ?_
    refine zO rfl Rd.asg ?_; refine zN ?_; refine zT ?_; refine zS ?_; refine zR ?_; refine zO rfl Rd.mv ?_; refine zO rfl Rd.mv ?_
    refine zO rfl (by first | exact Rd.adi rfl rfl | exact Rd.add rfl rfl) ?_
    refine zO rfl Rd.asg ?_; refine zN ?_; refine zT ?_; refine zS ?_; refine zS ?_; refine zR ?_; refine zO rfl Rd.mv ?_; refine zN ?_; refine zT ?_
    refine XA.block ?_
    refine zS ?_; refine zR ?_; refine zO rfl (Rd.eql rfl rfl) ?_; refine zO rfl Rd.asg ?_; refine zN ?_; refine zT ?_
    refine XA.condF rfl rfl ?_
    refine zS ?_; refine zR ?_; refine zO rfl (Rd.eql rfl rfl) ?_; refine zO rfl Rd.asg ?_; refine zN ?_; refine zT ?_
    refine XA.condF rfl rfl ?_
    refine zS ?_; refine zR ?_; refine zO rfl (Rd.eql rfl rfl) ?_; refine zO rfl Rd.asg ?_; refine zN ?_; refine zT ?_
    refine XA.condF rfl rfl ?_
    refine zS ?_; refine zR ?_; refine zO rfl (Rd.eql rfl rfl) ?_; refine zO rfl Rd.asg ?_; refine zN ?_; refine zT ?_
    refine XA.condF rfl rfl ?_
    refine XA.skip ?_
    refine DA.inb_normal ?_
    refine zT ?_; refine zR ?_; refine zO rfl Rd.mv ?_; refine zO rfl Rd.mv ?_
    refine XOA.wr0 rfl (WrA.cE (hpu _) rfl) ?_
    rintro _ _ _ ⟨_, ⟨rfl, rfl, rfl⟩, rfl⟩
    refine XOA.cl ?_
    refine zN ?_
    exact bodyA.normal (ResA.none rfl) zE ⟨rfl, rfl, rfl⟩
  by_cases h5 : op = 5
  · subst h5
    rw [show binV 5 z y = wrap_ (z - y) from rfl]
    refine enterA2 Try.func50 rfl rfl rfl ?_
    refine zS ?_; refine zR ?_; refine zO rfl Rd.mv ?_
    refine XOA.wr0 rfl (WrA.cE (hp1) rfl) ?_
    rintro _ _ _ ⟨_, ⟨rfl, rfl, rfl⟩, rfl⟩
    refine XOA.cl ?_
    refine zO rfl Rd.asg ?_; refine zN ?_; refine zT ?_; refine zS ?_; refine zR ?_; refine zO rfl Rd.mv ?_
    refine XOA.wr0 rfl (WrA.cE (hp2) rfl) ?_
    rintro _ _ _ ⟨_, ⟨rfl, rfl, rfl⟩, rfl⟩
    refine XOA.cl ?_
    refine zO rfl Rd.asg ?_; refine zN ?_; refine zT ?_; refine zS ?_; refine zR ?_; refine zO rfl Rd.mv ?_; refine zO rfl Rd.mv ?_
    refine zO rfl (by first | exact Rd.adi rfl rfl | exact Rd.add rfl rfl) ?_
    refine zO rfl Rd.asg ?_; refine zN ?_; refine zT ?_; refine zS ?_; refine zS ?_; refine zR ?_; refine zO rfl Rd.mv ?_; refine zN ?_; refine zT ?_
    refine XA.block ?_
    refine zS ?_; refine zR ?_; refine zO rfl (Rd.eql rfl rfl) ?_; refine zO rfl Rd.asg ?_; refine zN ?_; refine zT ?_
    refine XA.condT rfl rfl ?_
    refine zR ?_; refine zO rfl Rd.mv ?_; refine zO rfl Rd.mv ?_
    refine zO rfl (by first | exact Rd.sbi rfl rfl | exact Rd.sub rfl rfl) ?_
    refine zO rfl Rd.asg ?_; refine zN ?_
    refine DA.inb_normal ?_
    refine zT ?_; refine zR ?_; refine zO rfl Rd.mv ?_; refine zO rfl Rd.mv ?_
    refine XOA.wr0 rfl (WrA.cE (hpu _) rfl) ?_
    rintro _ _ _ ⟨_, ⟨rfl, rfl, rfl⟩, rfl⟩
    refine XOA.cl ?_
    refine zN ?_
    exact bodyA.normal (ResA.none rfl) zE ⟨rfl, rfl, rfl⟩
  by_cases h6 : op = 6
  · subst h6
    rw [show binV 6 z y = wrap_ (z * y) from rfl]
    refine enterA2 Try.func50 rfl rfl rfl ?_
    refine zS ?_; refine zR ?_; refine zO rfl Rd.mv ?_
    refine XOA.wr0 rfl (WrA.cE (hp1) rfl) ?_
    rintro _ _ _ ⟨_, ⟨rfl, rfl, rfl⟩, rfl⟩
    refine XOA.cl ?_
    refine zO rfl Rd.asg ?_; refine zN ?_; refine zT ?_; refine zS ?_; refine zR ?_; refine zO rfl Rd.mv ?_
    refine XOA.wr0 rfl (WrA.cE (hp2) rfl) ?_
    rintro _ _ _ ⟨_, ⟨rfl, rfl, rfl⟩, rfl⟩
    refine XOA.cl ?_
    refine zO rfl Rd.asg ?_; refine zN ?_; refine zT ?_; refine zS ?_; refine zR ?_; refine zO rfl Rd.mv ?_; refine zO rfl Rd.mv ?_
    refine zO rfl (by first | exact Rd.adi rfl rfl | exact Rd.add rfl rfl) ?_
    refine zO rfl Rd.asg ?_; refine zN ?_; refine zT ?_; refine zS ?_; refine zS ?_; refine zR ?_; refine zO rfl Rd.mv ?_; refine zN ?_; refine zT ?_
    refine XA.block ?_
    refine zS ?_; refine zR ?_; refine zO rfl (Rd.eql rfl rfl) ?_; refine zO rfl Rd.asg ?_; refine zN ?_; refine zT ?_
    refine XA.condF rfl rfl ?_
    refine zS ?_; refine zR ?_; refine zO rfl (Rd.eql rfl rfl) ?_; refine zO rfl Rd.asg ?_; refine zN ?_; refine zT ?_
    refine XA.condT rfl rfl ?_
    refine zR ?_; refine zO rfl Rd.mv ?_; refine zO rfl Rd.mv ?_
    refine zO rfl (by first | exact Rd.mli rfl rfl | exact Rd.mul rfl rfl) ?_
    refine zO rfl Rd.asg ?_; refine zN ?_
    refine DA.inb_normal ?_
    refine zT ?_; refine zR ?_; refine zO rfl Rd.mv ?_; refine zO rfl Rd.mv ?_
    refine XOA.wr0 rfl (WrA.cE (hpu _) rfl) ?_
    rintro _ _ _ ⟨_, ⟨rfl, rfl, rfl⟩, rfl⟩
    refine XOA.cl ?_
    refine zN ?_
    exact bodyA.normal (ResA.none rfl) zE ⟨rfl, rfl, rfl⟩
  by_cases h7 : op = 7
  · subst h7
    rw [show binV 7 z y = (if decide (z < y) = true then 1 else 0) from by simp [binV]]
    refine enterA2 Try.func50 rfl rfl rfl ?_
    refine zS ?_; refine zR ?_; refine zO rfl Rd.mv ?_
    refine XOA.wr0 rfl (WrA.cE (hp1) rfl) ?_
    rintro _ _ _ ⟨_, ⟨rfl, rfl, rfl⟩, rfl⟩
    refine XOA.cl ?_
    refine zO rfl Rd.asg ?_; refine zN ?_; refine zT ?_; refine zS ?_; refine zR ?_; refine zO rfl Rd.mv ?_
    refine XOA.wr0 rfl (WrA.cE (hp2) rfl) ?_
    rintro _ _ _ ⟨_, ⟨rfl, rfl, rfl⟩, rfl⟩
    refine XOA.cl ?_
    refine zO rfl Rd.asg ?_; refine zN ?_; refine zT ?_; refine zS ?_; refine zR ?_; refine zO rfl Rd.mv ?_; refine zO rfl Rd.mv ?_
    refine zO rfl (by first | exact Rd.adi rfl rfl | exact Rd.add rfl rfl) ?_
    refine zO rfl Rd.asg ?_; refine zN ?_; refine zT ?_; refine zS ?_; refine zS ?_; refine zR ?_; refine zO rfl Rd.mv ?_; refine zN ?_; refine zT ?_
    refine XA.block ?_
    refine zS ?_; refine zR ?_; refine zO rfl (Rd.eql rfl rfl) ?_; refine zO rfl Rd.asg ?_; refine zN ?_; refine zT ?_
    refine XA.condF rfl rfl ?_
    refine zS ?_; refine zR ?_; refine zO rfl (Rd.eql rfl rfl) ?_; refine zO rfl Rd.asg ?_; refine zN ?_; refine zT ?_
    refine XA.condF rfl rfl ?_
    refine zS ?_; refine zR ?_; refine zO rfl (Rd.eql rfl rfl) ?_; refine zO rfl Rd.asg ?_; refine zN ?_; refine zT ?_
    refine XA.condT rfl rfl ?_
    refine zR ?_; refine zO rfl Rd.mv ?_; refine zO rfl Rd.mv ?_; refine zO rfl (Rd.lss rfl rfl) ?_
    refine XOA.wr0 rfl (WrA.cE (flag_m σ _) rfl) ?_
    rintro _ _ _ ⟨_, ⟨rfl, rfl, rfl⟩, rfl⟩
    refine XOA.cl ?_
    refine zO rfl Rd.asg ?_; refine zN ?_
    refine DA.inb_normal ?_
    refine zT ?_; refine zR ?_; refine zO rfl Rd.mv ?_; refine zO rfl Rd.mv ?_
    refine XOA.wr0 rfl (WrA.cE (hpu _) rfl) ?_
    rintro _ _ _ ⟨_, ⟨rfl, rfl, rfl⟩, rfl⟩
    refine XOA.cl ?_
    refine zN ?_
    exact bodyA.normal (ResA.none rfl) zE ⟨rfl, rfl, rfl⟩
  by_cases h8 : op = 8
  · subst h8
    rw [show binV 8 z y = (if decide (z = y) = true then 1 else 0) from by simp [binV]]
    refine enterA2 Try.func50 rfl rfl rfl ?_
    refine zS ?_; refine zR ?_; refine zO rfl Rd.mv ?_
    refine XOA.wr0 rfl (WrA.cE (hp1) rfl) ?_
    rintro _ _ _ ⟨_, ⟨rfl, rfl, rfl⟩, rfl⟩
    refine XOA.cl ?_
    refine zO rfl Rd.asg ?_; refine zN ?_; refine zT ?_; refine zS ?_; refine zR ?_; refine zO rfl Rd.mv ?_
    refine XOA.wr0 rfl (WrA.cE (hp2) rfl) ?_
    rintro _ _ _ ⟨_, ⟨rfl, rfl, rfl⟩, rfl⟩
    refine XOA.cl ?_
    refine zO rfl Rd.asg ?_; refine zN ?_; refine zT ?_; refine zS ?_; refine zR ?_; refine zO rfl Rd.mv ?_; refine zO rfl Rd.mv ?_
    refine zO rfl (by first | exact Rd.adi rfl rfl | exact Rd.add rfl rfl) ?_
    refine zO rfl Rd.asg ?_; refine zN ?_; refine zT ?_; refine zS ?_; refine zS ?_; refine zR ?_; refine zO rfl Rd.mv ?_; refine zN ?_; refine zT ?_
    refine XA.block ?_
    refine zS ?_; refine zR ?_; refine zO rfl (Rd.eql rfl rfl) ?_; refine zO rfl Rd.asg ?_; refine zN ?_; refine zT ?_
    refine XA.condF rfl rfl ?_
    refine zS ?_; refine zR ?_; refine zO rfl (Rd.eql rfl rfl) ?_; refine zO rfl Rd.asg ?_; refine zN ?_; refine zT ?_
    refine XA.condF rfl rfl ?_
    refine zS ?_; refine zR ?_; refine zO rfl (Rd.eql rfl rfl) ?_; refine zO rfl Rd.asg ?_; refine zN ?_; refine zT ?_
    refine XA.condF rfl rfl ?_
    refine zS ?_; refine zR ?_; refine zO rfl (Rd.eql rfl rfl) ?_; refine zO rfl Rd.asg ?_; refine zN ?_; refine zT ?_
    refine XA.condT rfl rfl ?_
    refine zR ?_; refine zO rfl Rd.mv ?_; refine zO rfl Rd.mv ?_; refine zO rfl (Rd.eql rfl rfl) ?_
    refine XOA.wr0 rfl (WrA.cE (flag_m σ _) rfl) ?_
    rintro _ _ _ ⟨_, ⟨rfl, rfl, rfl⟩, rfl⟩
    refine XOA.cl ?_
    refine zO rfl Rd.asg ?_; refine zN ?_
    refine DA.inb_normal ?_
    refine zT ?_; refine zR ?_; refine zO rfl Rd.mv ?_; refine zO rfl Rd.mv ?_
    refine XOA.wr0 rfl (WrA.cE (hpu _) rfl) ?_
    rintro _ _ _ ⟨_, ⟨rfl, rfl, rfl⟩, rfl⟩
    refine XOA.cl ?_
    refine zN ?_
    exact bodyA.normal (ResA.none rfl) zE ⟨rfl, rfl, rfl⟩
  omega
theorem take_m (pi : Option Addr) (ci : Nat) (inp : List Int) (a : Int) (ha : 0 ≤ a ∧ a < 48) (hi : PInts σ (.slice pi inp.length ci) inp) (hil : inp.length ≤ 1000000) (h : Shows M.C ⟨next, stack, rd, outn, st, cells⟩) :
    CallsA Try.prog 79 #[ptr g, i64 a] σ [blk g [ptr mb, cv, .slice pi inp.length ci, ptr pb, i64 left, .bool torn] 64, Wld mb sb db d s M] (RetA fun v σ' Γ' => v = .tuple #[] ∧ σ = σ' ∧ Γ' = [blk g [ptr mb, cv, .slice pi inp.length ci, ptr pb, i64 left, .bool torn] 64, Wld mb sb db d s (if (inp.length : Int) ≤ M.ld 2 then M.put 4 14 else (M.put 2 (M.ld 2 + 1)).put (5 + a) (inp.getD (M.ld 2).toNat 0))]) := by
  have e : M.ld 2 = rd := h.rd
  have hld := load_w σ mb sb db d s M 2
  rw [e] at hld
  by_cases hr : inp.length ≤ rd
  · rw [if_pos (by omega)]
    have hr2 : (rd : Int) ≥ inp.length := by omega
    refine enterA2 Try.func79 rfl rfl rfl ?_
    refine zS ?_; refine zR ?_; refine zO rfl Rd.mv ?_; refine zO rfl (Rd.nilCheck rfl) ?_; refine zO rfl (Rd.fA rfl) ?_; refine zO rfl (Rd.ldC rfl (tyrow rfl) rfl) ?_
    refine XOA.wr0 rfl (WrA.cE (hld) rfl) ?_
    rintro _ _ _ ⟨_, ⟨rfl, rfl, rfl⟩, rfl⟩
    refine XOA.cl ?_
    refine zO rfl Rd.asg ?_; refine zN ?_; refine zT ?_; refine zS ?_; refine zS ?_; refine zR ?_; refine zO rfl Rd.mv ?_; refine zO rfl Rd.mv ?_; refine zO rfl (Rd.nilCheck rfl) ?_; refine zO rfl (Rd.fA rfl) ?_; refine zO rfl (Rd.ldC rfl (tyrow rfl) rfl) ?_; refine zO rfl (Rd.lenSlice (tyrow rfl) rfl rfl) ?_
    refine zO rfl (Rd.geq rfl rfl) ?_
    refine zN ?_; refine zT ?_
    refine XA.condT rfl (by first | rfl | exact decide_eq_true (by omega)) ?_
    refine zS ?_; refine zR ?_; refine zO rfl Rd.mv ?_
    refine XOA.wr0 rfl (WrA.cE (stop_m σ g mb sb db pb cv (.slice pi inp.length ci) left torn d s M 14) rfl) ?_
    rintro _ _ _ ⟨_, ⟨rfl, rfl, rfl⟩, rfl⟩
    refine XOA.cl ?_
    refine zN ?_; refine zT ?_
    refine XA.ret ?_
    refine DA.thn_ret ?_
    exact bodyA.ret (ResA.none rfl) zE ⟨rfl, rfl, rfl⟩
  · rw [if_neg (by omega)]
    have hri2 : rd < inp.length := by omega
    obtain ⟨y, hy⟩ : ∃ y, inp[rd]? = some y := ⟨_, List.getElem?_eq_getElem hri2⟩
    obtain ⟨gi, oi, rfl, hri3⟩ := hi.at hy
    rw [Nat.mul_one] at hri3
    have hy2 : inp.getD (M.ld 2).toNat 0 = y := by rw [e, Int.toNat_natCast, List.getD_eq_getElem?_getD, hy]; rfl
    rw [hy2, e]
    have hadd := add_m σ g mb sb db pb cv (.slice (some ⟨gi, oi, none⟩) inp.length ci) left torn d s M 2 1
    rw [X.wrap64_in (by omega) (by omega), e] at hadd
    refine enterA2 Try.func79 rfl rfl rfl ?_
    refine zS ?_; refine zR ?_; refine zO rfl Rd.mv ?_; refine zO rfl (Rd.nilCheck rfl) ?_; refine zO rfl (Rd.fA rfl) ?_; refine zO rfl (Rd.ldC rfl (tyrow rfl) rfl) ?_
    refine XOA.wr0 rfl (WrA.cE (hld) rfl) ?_
    rintro _ _ _ ⟨_, ⟨rfl, rfl, rfl⟩, rfl⟩
    refine XOA.cl ?_
    refine zO rfl Rd.asg ?_; refine zN ?_; refine zT ?_; refine zS ?_; refine zS ?_; refine zR ?_; refine zO rfl Rd.mv ?_; refine zO rfl Rd.mv ?_; refine zO rfl (Rd.nilCheck rfl) ?_; refine zO rfl (Rd.fA rfl) ?_; refine zO rfl (Rd.ldC rfl (tyrow rfl) rfl) ?_; refine zO rfl (Rd.lenSlice (tyrow rfl) rfl rfl) ?_
    refine zO rfl (Rd.geq rfl rfl) ?_
    refine zN ?_; refine zT ?_
    refine XA.condF rfl (by first | rfl | exact decide_eq_false (by omega)) ?_
    refine XA.skip ?_
    refine zT ?_; refine zS ?_; refine zR ?_; refine zO rfl Rd.mv ?_
    refine XOA.wr0 rfl (WrA.cE (hadd) rfl) ?_
    rintro _ _ _ ⟨_, ⟨rfl, rfl, rfl⟩, rfl⟩
    refine XOA.cl ?_
    refine zN ?_; refine zT ?_
    refine XA.draw (by kernel_rfl) _ _ [13] [(0, .pu), (1, .pu), (2, .pu), (3, .rd), (4, .pu), (5, .pu), (6, .pu), (7, .pu), (8, .pu), (9, .rd), (10, .pu), (11, .pu), (12, .rd), (13, .wr)] (by kernel_rfl) (PH.sub.refl _) (Ent.sel (R := blk g _ _) (by ((repeat (first | with_reducible exact Sel.head | apply Sel.tail)); (first | done | fail))) (Ent.nil _)) ?_
    refine XPA.pu rfl rfl Gd.free Rd.mv ?_
    refine XPA.pu rfl rfl Gd.free (Rd.nilCheck rfl) ?_
    refine XPA.pu rfl rfl Gd.free (Rd.fA rfl) ?_
    refine XPA.rd rfl rfl Gd.free (Rd.ldC rfl (tyrow rfl) rfl) ?_
    refine XPA.pu rfl rfl Gd.free Rd.mv ?_
    refine XPA.pu rfl rfl Gd.free (by first | exact Rd.adi rfl rfl | exact Rd.add rfl rfl) ?_
    refine XPA.pu rfl rfl Gd.free Rd.mv ?_
    refine XPA.pu rfl rfl Gd.free (Rd.nilCheck rfl) ?_
    refine XPA.pu rfl rfl Gd.free (Rd.fA rfl) ?_
    refine XPA.rd rfl rfl Gd.free (Rd.ldC rfl (tyrow rfl) rfl) ?_
    refine XPA.pu rfl rfl Gd.free Rd.mv ?_
    refine XPA.pu rfl rfl Gd.free (Rd.ixS rfl rfl) ?_
    refine XPA.rd rfl rfl Gd.free (Rd.ldC rfl (tyrow rfl) rfl) ?_
    refine XPA.wrZ0 rfl rfl Gd.free (by kernel_rfl) (WrA.cE (put_w σ mb sb db d s (M.put 2 ((rd : Int) + 1)) (5 + a) y) rfl) ?_
    rintro _ _ _ ⟨_, ⟨rfl, rfl, rfl⟩, rfl⟩
    refine XPA.cl ?_
    refine XPA.nil ?_
    exact bodyA.normal (ResA.none rfl) zE ⟨rfl, rfl, rfl⟩
theorem cell_m (op a b n k : Int) (hc : 0 ≤ a ∧ 1 ≤ b ∧ a + b ≤ 48) :
    CallsA Try.prog 78 #[ptr g, .agg #[i64 op, i64 a, i64 b, i64 n], i64 k] σ [blk g [ptr mb, cv, iv, ptr pb, i64 left, .bool torn] 64, Wld mb sb db d s M] (RetA fun v σ' Γ' => v = .tuple #[i64 (if k < 0 ∨ b ≤ k then 0 else 5 + a + k), .bool (decide ¬ (k < 0 ∨ b ≤ k))] ∧ σ = σ' ∧ Γ' = [blk g [ptr mb, cv, iv, ptr pb, i64 left, .bool torn] 64, Wld mb sb db d s (if k < 0 ∨ b ≤ k then M.put 4 13 else M)]) := by
  by_cases h0 : k < 0
  · have hk : k < 0 ∨ b ≤ k := .inl h0
    rw [if_pos hk, if_pos hk, decide_eq_false (fun q => q hk)]
    refine enterA3 Try.func78 rfl rfl rfl ?_
    refine zS ?_; refine zR ?_
    refine XOA.wr0 rfl WrA.bx ?_
    rintro _ _ _ ⟨g4, rfl, rfl, rfl⟩
    refine zO rfl Rd.asg ?_; refine zO rfl Rd.asg ?_; refine zN ?_; refine zT ?_; refine zS ?_; refine zS ?_; refine zR ?_; refine zO rfl Rd.mv ?_; refine zO rfl (Rd.lss rfl rfl) ?_; refine zO rfl Rd.mv ?_
    first | ((first | refine zW ?_ | refine zQ ?_); refine zO rfl Rd.mv ?_) | refine zU ?_ | refine zV ?_ | refine zZ ?_
    first | ((first | refine zW ?_ | refine zQ ?_); refine zO rfl (Rd.fA rfl) ?_) | refine zU ?_ | refine zV ?_ | refine zZ ?_
    first | ((first | refine zW ?_ | refine zQ ?_); refine zO rfl (Rd.ldC rfl (tyrow rfl) rfl) ?_) | refine zU ?_ | refine zV ?_ | refine zZ ?_
    first | ((first | refine zW ?_ | refine zQ ?_); refine zO rfl (Rd.geq rfl rfl) ?_) | refine zU ?_ | refine zV ?_ | refine zZ ?_
    refine zO rfl (by first | exact Rd.pT rfl | exact Rd.pF rfl | exact Rd.pP rfl) ?_
    refine zN ?_; refine zT ?_
    refine XA.condT rfl (by first | rfl | exact decide_eq_true (by omega)) ?_
    refine zS ?_; refine zR ?_; refine zO rfl Rd.mv ?_
    refine XOA.wr0 rfl (WrA.cE (stop_m σ g mb sb db pb cv iv left torn d s M 13) rfl) ?_
    rintro _ _ _ ⟨_, ⟨rfl, rfl, rfl⟩, rfl⟩
    refine XOA.cl ?_
    refine zN ?_; refine zT ?_; refine zS ?_; refine zR ?_; refine zO rfl Rd.asg ?_; refine zO rfl Rd.asg ?_; refine zN ?_; refine zT ?_
    refine XA.ret ?_
    refine DA.thn_ret ?_
    exact bodyA.ret (ResA.two rfl rfl rfl) zE ⟨rfl, rfl, rfl⟩
  by_cases h1 : b ≤ k
  · have hk : k < 0 ∨ b ≤ k := .inr h1
    rw [if_pos hk, if_pos hk, decide_eq_false (fun q => q hk)]
    refine enterA3 Try.func78 rfl rfl rfl ?_
    refine zS ?_; refine zR ?_
    refine XOA.wr0 rfl WrA.bx ?_
    rintro _ _ _ ⟨g4, rfl, rfl, rfl⟩
    refine zO rfl Rd.asg ?_; refine zO rfl Rd.asg ?_; refine zN ?_; refine zT ?_; refine zS ?_; refine zS ?_; refine zR ?_; refine zO rfl Rd.mv ?_; refine zO rfl (Rd.lss rfl rfl) ?_; refine zO rfl Rd.mv ?_
    first | ((first | refine zW ?_ | refine zQ ?_); refine zO rfl Rd.mv ?_) | refine zU ?_ | refine zV ?_ | refine zZ ?_
    first | ((first | refine zW ?_ | refine zQ ?_); refine zO rfl (Rd.fA rfl) ?_) | refine zU ?_ | refine zV ?_ | refine zZ ?_
    first | ((first | refine zW ?_ | refine zQ ?_); refine zO rfl (Rd.ldC rfl (tyrow rfl) rfl) ?_) | refine zU ?_ | refine zV ?_ | refine zZ ?_
    first | ((first | refine zW ?_ | refine zQ ?_); refine zO rfl (Rd.geq rfl rfl) ?_) | refine zU ?_ | refine zV ?_ | refine zZ ?_
    refine zO rfl (by first | exact Rd.pT rfl | exact Rd.pF rfl | exact Rd.pP rfl) ?_
    refine zN ?_; refine zT ?_
    refine XA.condT rfl (by first | rfl | exact decide_eq_true (by omega)) ?_
    refine zS ?_; refine zR ?_; refine zO rfl Rd.mv ?_
    refine XOA.wr0 rfl (WrA.cE (stop_m σ g mb sb db pb cv iv left torn d s M 13) rfl) ?_
    rintro _ _ _ ⟨_, ⟨rfl, rfl, rfl⟩, rfl⟩
    refine XOA.cl ?_
    refine zN ?_; refine zT ?_; refine zS ?_; refine zR ?_; refine zO rfl Rd.asg ?_; refine zO rfl Rd.asg ?_; refine zN ?_; refine zT ?_
    refine XA.ret ?_
    refine DA.thn_ret ?_
    exact bodyA.ret (ResA.two rfl rfl rfl) zE ⟨rfl, rfl, rfl⟩
  have hk : ¬ (k < 0 ∨ b ≤ k) := by omega
  rw [if_neg hk, if_neg hk, decide_eq_true hk]
  refine enterA3 Try.func78 rfl rfl rfl ?_
  refine zS ?_; refine zR ?_
  refine XOA.wr0 rfl WrA.bx ?_
  rintro _ _ _ ⟨g4, rfl, rfl, rfl⟩
  refine zO rfl Rd.asg ?_; refine zO rfl Rd.asg ?_; refine zN ?_; refine zT ?_; refine zS ?_; refine zS ?_; refine zR ?_; refine zO rfl Rd.mv ?_; refine zO rfl (Rd.lss rfl rfl) ?_; refine zO rfl Rd.mv ?_
  first | ((first | refine zW ?_ | refine zQ ?_); refine zO rfl Rd.mv ?_) | refine zU ?_ | refine zV ?_ | refine zZ ?_
  first | ((first | refine zW ?_ | refine zQ ?_); refine zO rfl (Rd.fA rfl) ?_) | refine zU ?_ | refine zV ?_ | refine zZ ?_
  first | ((first | refine zW ?_ | refine zQ ?_); refine zO rfl (Rd.ldC rfl (tyrow rfl) rfl) ?_) | refine zU ?_ | refine zV ?_ | refine zZ ?_
  first | ((first | refine zW ?_ | refine zQ ?_); refine zO rfl (Rd.geq rfl rfl) ?_) | refine zU ?_ | refine zV ?_ | refine zZ ?_
  refine zO rfl (by first | exact Rd.pT rfl | exact Rd.pF rfl | exact Rd.pP rfl) ?_
  refine zN ?_; refine zT ?_
  refine XA.condF rfl (by first | rfl | exact decide_eq_false (by omega)) ?_
  refine XA.skip ?_
  refine zT ?_; refine zS ?_; refine zR ?_; refine zO rfl (Rd.fA rfl) ?_; refine zO rfl (Rd.ldC rfl (tyrow rfl) rfl) ?_
  refine zO rfl (by first | exact Rd.adi rfl rfl | exact Rd.add rfl rfl) ?_
  refine zO rfl Rd.mv ?_
  refine zO rfl (by first | exact Rd.adi rfl rfl | exact Rd.add rfl rfl) ?_
  refine zO rfl Rd.asg ?_; refine zO rfl Rd.asg ?_; refine zN ?_; refine zT ?_
  refine XA.ret ?_
  exact bodyA.ret (ResA.two rfl rfl rfl) zE ⟨rfl, rfl, rfl⟩
/-- A commit, of all its deeds. -/
theorem commit_m (hg : s.gen < 4611686018427387904) :
    CallsA Try.prog 53 #[ptr g] σ [blk g [ptr mb, cv, iv, ptr pb, i64 0, .bool torn] 64, Wld mb sb db d s M] (RetA fun v σ' Γ' => ∃ (d' : DiskS) (s' : StS), v = .tuple #[] ∧ s'.gen = s.gen + 1 ∧ pagesC d' s' = M.C ∧ Good d' s' ∧ σ.sub σ' ∧ Γ' = [blk g [ptr mb, cv, iv, ptr pb, i64 0, .bool false] 64, Wld mb sb db d' s' ⟨M.C, noB⟩]) := by
  refine enterA1 Try.func53 rfl rfl rfl ?_
  refine zS ?_; refine zR ?_; refine zO rfl Rd.asg ?_; refine zN ?_; refine zT ?_; refine zS ?_; refine zS ?_; refine zR ?_; refine zO rfl Rd.mv ?_; refine zO rfl (Rd.nilCheck rfl) ?_; refine zO rfl (Rd.fA rfl) ?_; refine zO rfl (Rd.ldC rfl (tyrow rfl) rfl) ?_
  refine zO rfl (Rd.gtr rfl rfl) ?_
  refine zN ?_; refine zT ?_
  refine XA.condF rfl rfl ?_
  refine XA.skip ?_
  refine zT ?_; refine zR ?_; refine zO rfl Rd.mv ?_; refine zO rfl Rd.mv ?_; refine zO rfl (Rd.nilCheck rfl) ?_; refine zO rfl (Rd.fA rfl) ?_; refine zO rfl (Rd.ldC rfl (tyrow rfl) rfl) ?_; refine zO rfl Rd.mv ?_
  refine XOA.wr0 rfl (WrA.cE (sync_w σ mb sb db d s M hg) rfl) ?_
  rintro _ σ1 _ ⟨_, ⟨d', s', rfl, h1, h2, h3, hs1, rfl⟩, rfl⟩
  refine XOA.cl ?_
  refine zO rfl (by first | exact Rd.notp rfl | exact Rd.not rfl) ?_
  refine zO rfl (Rd.nilCheck rfl) ?_; refine zO rfl (Rd.fA rfl) ?_
  refine XOA.wr0 rfl (WrA.st (tyrow rfl) rfl) ?_
  rintro _ _ _ ⟨rfl, rfl, rfl⟩
  refine zN ?_
  exact bodyA.normal (ResA.none rfl) zE ⟨d', s', rfl, h1, h2, h3, hs1, rfl⟩
end
end Go.Proofs.Ytmnmcjdgnpgchaa

namespace Go.Proofs.Ytmnmcjdgnpgchaa
open Go X
set_option maxHeartbeats 1000000
section
variable (σ : PH) (g mb sb db pb : Nat) (cv iv : Value) (left : Int) (torn : Bool) (d : DiskS) (s : StS) (M : Me)
variable {next rd outn : Nat} {stack cells : List Int} {st : Int}
theorem cells2_m (a b n : Int) (ha : 0 ≤ a ∧ a < 48) (h : Shows M.C ⟨next, stack, rd, outn, st, cells⟩) (hl : stack.length < 59) :
    CallsA Try.prog 55 #[ptr g, .agg #[i64 2, i64 a, i64 b, i64 n]] σ [blk g [ptr mb, cv, iv, ptr pb, i64 left, .bool torn] 64, Wld mb sb db d s M] (RetA fun v σ' Γ' => v = .tuple #[] ∧ σ = σ' ∧ Γ' = [blk g [ptr mb, cv, iv, ptr pb, i64 left, .bool torn] 64, Wld mb sb db d s (M.pushM (M.ld (5 + a)))]) := by
  refine enterA2 Try.func55 rfl rfl rfl ?_
  refine zS ?_; refine zR ?_
  refine XOA.wr0 rfl WrA.bx ?_
  rintro _ _ _ ⟨g3, rfl, rfl, rfl⟩
  refine zN ?_; refine zT ?_; refine zS ?_; refine zR ?_; refine zO rfl (Rd.fA rfl) ?_; refine zO rfl (Rd.ldC rfl (tyrow rfl) rfl) ?_; refine zN ?_; refine zT ?_
  refine XA.block ?_
  refine zS ?_; refine zR ?_; refine zO rfl (Rd.eql rfl rfl) ?_; refine zO rfl Rd.asg ?_; refine zN ?_; refine zT ?_
  refine XA.condT rfl rfl ?_
  refine XA.draw (by kernel_rfl) _ _ [8, 9] [(0, .pu), (1, .pu), (2, .pu), (3, .pu), (4, .rd), (5, .pu), (6, .rd), (7, .pu), (8, .wr), (9, .wr)] (by kernel_rfl) (PH.sub.refl _) (Ent.sel (R := blk g _ _) (by ((repeat (first | with_reducible exact Sel.head | apply Sel.tail)); (first | done | fail))) (Ent.sel (R := blk g3 _ _) (by ((repeat (first | with_reducible exact Sel.head | apply Sel.tail)); (first | done | fail))) (Ent.nil _))) ?_
  refine XPA.pu rfl rfl Gd.free Rd.mv ?_
  refine XPA.pu rfl rfl Gd.free Rd.mv ?_
  refine XPA.pu rfl rfl Gd.free (Rd.nilCheck rfl) ?_
  refine XPA.pu rfl rfl Gd.free (Rd.fA rfl) ?_
  refine XPA.rd rfl rfl Gd.free (Rd.ldC rfl (tyrow rfl) rfl) ?_
  refine XPA.pu rfl rfl Gd.free (Rd.fA rfl) ?_
  refine XPA.rd rfl rfl Gd.free (Rd.ldC rfl (tyrow rfl) rfl) ?_
  refine XPA.pu rfl rfl Gd.free (by first | exact Rd.adi rfl rfl | exact Rd.add rfl rfl) ?_
  refine XPA.wrZ0 rfl rfl Gd.free (by kernel_rfl) (WrA.cE (load_w σ mb sb db d s M (5 + a)) rfl) ?_
  rintro _ _ _ ⟨_, ⟨rfl, rfl, rfl⟩, rfl⟩
  refine XPA.cl ?_
  refine XPA.wrZ0 rfl rfl Gd.free (by kernel_rfl) (WrA.cE (push_m σ g mb sb db pb cv iv left torn d s M h hl (M.ld (5 + a))) rfl) ?_
  rintro _ _ _ ⟨_, ⟨rfl, rfl, rfl⟩, rfl⟩
  refine XPA.cl ?_
  refine XPA.nil ?_
  refine DA.inb_normal ?_
  exact bodyA.normal (ResA.none rfl) zE ⟨rfl, rfl, rfl⟩
theorem cells3_m (a b n k : Int) (l : List Int) (hc : 0 ≤ a ∧ 1 ≤ b ∧ a + b ≤ 48) (h : Shows M.C ⟨next, k :: l, rd, outn, st, cells⟩) :
    CallsA Try.prog 55 #[ptr g, .agg #[i64 3, i64 a, i64 b, i64 n]] σ [blk g [ptr mb, cv, iv, ptr pb, i64 left, .bool torn] 64, Wld mb sb db d s M] (RetA fun v σ' Γ' => v = .tuple #[] ∧ σ = σ' ∧ Γ' = [blk g [ptr mb, cv, iv, ptr pb, i64 left, .bool torn] 64, Wld mb sb db d s (if k < 0 ∨ b ≤ k then M.popM.put 4 13 else M.popM.pushM (M.popM.ld (5 + a + k)))]) := by
  have hs := h.ls
  simp only [List.length_cons] at hs
  have hce := cell_m σ g mb sb db pb cv iv left torn d s M.popM 3 a b n k hc
  by_cases hk : k < 0 ∨ b ≤ k
  · rw [if_pos hk]
    rw [if_pos hk, if_pos hk, decide_eq_false (fun q => q hk)] at hce
    refine enterA2 Try.func55 rfl rfl rfl ?_
    refine zS ?_; refine zR ?_
    refine XOA.wr0 rfl WrA.bx ?_
    rintro _ _ _ ⟨g3, rfl, rfl, rfl⟩
    refine zN ?_; refine zT ?_; refine zS ?_; refine zR ?_; refine zO rfl (Rd.fA rfl) ?_; refine zO rfl (Rd.ldC rfl (tyrow rfl) rfl) ?_; refine zN ?_; refine zT ?_
    refine XA.block ?_
    refine zS ?_; refine zR ?_; refine zO rfl (Rd.eql rfl rfl) ?_; refine zO rfl Rd.asg ?_; refine zN ?_; refine zT ?_
    refine XA.condF rfl rfl ?_
    refine zS ?_; refine zR ?_; refine zO rfl (Rd.eql rfl rfl) ?_; refine zO rfl Rd.asg ?_; refine zN ?_; refine zT ?_
    refine XA.condT rfl rfl ?_
    refine zS ?_
    refine XA.draw (by kernel_rfl) _ _ [4] [(0, .pu), (1, .rd), (2, .pu), (3, .wr), (4, .wr), (5, .pu), (6, .pu), (7, .pu), (8, .pu), (9, .pu)] (by kernel_rfl) (PH.sub.refl _) (Ent.sel (R := blk g3 _ _) (by ((repeat (first | with_reducible exact Sel.head | apply Sel.tail)); (first | done | fail))) (Ent.nil _)) ?_
    refine XPA.pu rfl rfl Gd.free Rd.mv ?_
    refine XPA.rd rfl rfl Gd.free (Rd.ldA rfl) ?_
    refine XPA.pu rfl rfl Gd.free Rd.mv ?_
    refine XPA.wr0 rfl rfl Gd.free (WrA.cE (pop_m σ g mb sb db pb cv iv left torn d s M h) rfl) ?_
    rintro _ _ _ ⟨_, ⟨rfl, rfl, rfl⟩, rfl⟩
    refine stays (XPA.cl ?_)
    refine XPA.wrZ0 rfl rfl Gd.free (by kernel_rfl) (WrA.cE (hce) rfl) ?_
    rintro _ _ _ ⟨_, ⟨rfl, rfl, rfl⟩, rfl⟩
    refine XPA.cl ?_
    refine XPA.pu rfl rfl Gd.free Rd.mv ?_
    refine XPA.pu rfl rfl Gd.free (Rd.extract rfl rfl) ?_
    refine XPA.pu rfl rfl Gd.free (Rd.extract rfl rfl) ?_
    refine XPA.pu rfl rfl Gd.free Rd.asg ?_
    refine XPA.pu rfl rfl Gd.free Rd.asg ?_
    refine XPA.nil ?_
    refine zT ?_; refine zS ?_; refine zR ?_; refine zO rfl Rd.mv ?_; refine zN ?_; refine zT ?_
    refine XA.condF rfl rfl ?_
    refine XA.skip ?_
    refine DA.inb_normal ?_
    exact bodyA.normal (ResA.none rfl) zE ⟨rfl, rfl, rfl⟩
  · rw [if_neg hk]
    rw [if_neg hk, if_neg hk, decide_eq_true hk] at hce
    refine enterA2 Try.func55 rfl rfl rfl ?_
    refine zS ?_; refine zR ?_
    refine XOA.wr0 rfl WrA.bx ?_
    rintro _ _ _ ⟨g3, rfl, rfl, rfl⟩
    refine zN ?_; refine zT ?_; refine zS ?_; refine zR ?_; refine zO rfl (Rd.fA rfl) ?_; refine zO rfl (Rd.ldC rfl (tyrow rfl) rfl) ?_; refine zN ?_; refine zT ?_
    refine XA.block ?_
    refine zS ?_; refine zR ?_; refine zO rfl (Rd.eql rfl rfl) ?_; refine zO rfl Rd.asg ?_; refine zN ?_; refine zT ?_
    refine XA.condF rfl rfl ?_
    refine zS ?_; refine zR ?_; refine zO rfl (Rd.eql rfl rfl) ?_; refine zO rfl Rd.asg ?_; refine zN ?_; refine zT ?_
    refine XA.condT rfl rfl ?_
    refine zS ?_
    refine XA.draw (by kernel_rfl) _ _ [4] [(0, .pu), (1, .rd), (2, .pu), (3, .wr), (4, .wr), (5, .pu), (6, .pu), (7, .pu), (8, .pu), (9, .pu)] (by kernel_rfl) (PH.sub.refl _) (Ent.sel (R := blk g3 _ _) (by ((repeat (first | with_reducible exact Sel.head | apply Sel.tail)); (first | done | fail))) (Ent.nil _)) ?_
    refine XPA.pu rfl rfl Gd.free Rd.mv ?_
    refine XPA.rd rfl rfl Gd.free (Rd.ldA rfl) ?_
    refine XPA.pu rfl rfl Gd.free Rd.mv ?_
    refine XPA.wr0 rfl rfl Gd.free (WrA.cE (pop_m σ g mb sb db pb cv iv left torn d s M h) rfl) ?_
    rintro _ _ _ ⟨_, ⟨rfl, rfl, rfl⟩, rfl⟩
    refine stays (XPA.cl ?_)
    refine XPA.wrZ0 rfl rfl Gd.free (by kernel_rfl) (WrA.cE (hce) rfl) ?_
    rintro _ _ _ ⟨_, ⟨rfl, rfl, rfl⟩, rfl⟩
    refine XPA.cl ?_
    refine XPA.pu rfl rfl Gd.free Rd.mv ?_
    refine XPA.pu rfl rfl Gd.free (Rd.extract rfl rfl) ?_
    refine XPA.pu rfl rfl Gd.free (Rd.extract rfl rfl) ?_
    refine XPA.pu rfl rfl Gd.free Rd.asg ?_
    refine XPA.pu rfl rfl Gd.free Rd.asg ?_
    refine XPA.nil ?_
    refine zT ?_; refine zS ?_; refine zR ?_; refine zO rfl Rd.mv ?_; refine zN ?_; refine zT ?_
    refine XA.condT rfl rfl ?_
    refine zR ?_; refine zO rfl Rd.mv ?_; refine zO rfl Rd.mv ?_; refine zO rfl (Rd.nilCheck rfl) ?_; refine zO rfl (Rd.fA rfl) ?_; refine zO rfl (Rd.ldC rfl (tyrow rfl) rfl) ?_; refine zO rfl Rd.mv ?_
    refine XOA.wr0 rfl (WrA.cE (load_w σ mb sb db d s M.popM (5 + a + k)) rfl) ?_
    rintro _ _ _ ⟨_, ⟨rfl, rfl, rfl⟩, rfl⟩
    refine XOA.cl ?_
    refine XOA.wr0 rfl (WrA.cE (push_m σ g mb sb db pb cv iv left torn d s M.popM h.popM (by omega) (M.popM.ld (5 + a + k))) rfl) ?_
    rintro _ _ _ ⟨_, ⟨rfl, rfl, rfl⟩, rfl⟩
    refine XOA.cl ?_
    refine zN ?_
    refine DA.inb_normal ?_
    exact bodyA.normal (ResA.none rfl) zE ⟨rfl, rfl, rfl⟩
theorem cells9_m (a b n k : Int) (l : List Int) (ha : 0 ≤ a ∧ a < 48) (h : Shows M.C ⟨next, k :: l, rd, outn, st, cells⟩) :
    CallsA Try.prog 55 #[ptr g, .agg #[i64 9, i64 a, i64 b, i64 n]] σ [blk g [ptr mb, cv, iv, ptr pb, i64 left, .bool torn] 64, Wld mb sb db d s M] (RetA fun v σ' Γ' => v = .tuple #[] ∧ σ = σ' ∧ Γ' = [blk g [ptr mb, cv, iv, ptr pb, i64 left, .bool torn] 64, Wld mb sb db d s (M.popM.put (5 + a) k)]) := by
  refine enterA2 Try.func55 rfl rfl rfl ?_
  refine zS ?_; refine zR ?_
  refine XOA.wr0 rfl WrA.bx ?_
  rintro _ _ _ ⟨g3, rfl, rfl, rfl⟩
  refine zN ?_; refine zT ?_; refine zS ?_; refine zR ?_; refine zO rfl (Rd.fA rfl) ?_; refine zO rfl (Rd.ldC rfl (tyrow rfl) rfl) ?_; refine zN ?_; refine zT ?_
  refine XA.block ?_
  refine zS ?_; refine zR ?_; refine zO rfl (Rd.eql rfl rfl) ?_; refine zO rfl Rd.asg ?_; refine zN ?_; refine zT ?_
  refine XA.condF rfl rfl ?_
  refine zS ?_; refine zR ?_; refine zO rfl (Rd.eql rfl rfl) ?_; refine zO rfl Rd.asg ?_; refine zN ?_; refine zT ?_
  refine XA.condF rfl rfl ?_
  refine zS ?_; refine zR ?_; refine zO rfl (Rd.eql rfl rfl) ?_; refine zO rfl Rd.asg ?_; refine zN ?_; refine zT ?_
  refine XA.condT rfl rfl ?_
  refine XA.draw (by kernel_rfl) _ _ [9] [(0, .pu), (1, .pu), (2, .pu), (3, .rd), (4, .pu), (5, .rd), (6, .pu), (7, .pu), (8, .wr), (9, .wr)] (by kernel_rfl) (PH.sub.refl _) (Ent.sel (R := blk g _ _) (by ((repeat (first | with_reducible exact Sel.head | apply Sel.tail)); (first | done | fail))) (Ent.sel (R := blk g3 _ _) (by ((repeat (first | with_reducible exact Sel.head | apply Sel.tail)); (first | done | fail))) (Ent.nil _))) ?_
  refine XPA.pu rfl rfl Gd.free Rd.mv ?_
  refine XPA.pu rfl rfl Gd.free (Rd.nilCheck rfl) ?_
  refine XPA.pu rfl rfl Gd.free (Rd.fA rfl) ?_
  refine XPA.rd rfl rfl Gd.free (Rd.ldC rfl (tyrow rfl) rfl) ?_
  refine XPA.pu rfl rfl Gd.free (Rd.fA rfl) ?_
  refine XPA.rd rfl rfl Gd.free (Rd.ldC rfl (tyrow rfl) rfl) ?_
  refine XPA.pu rfl rfl Gd.free (by first | exact Rd.adi rfl rfl | exact Rd.add rfl rfl) ?_
  refine XPA.pu rfl rfl Gd.free Rd.mv ?_
  refine XPA.wr0 rfl rfl Gd.free (WrA.cE (pop_m σ g mb sb db pb cv iv left torn d s M h) rfl) ?_
  rintro _ _ _ ⟨_, ⟨rfl, rfl, rfl⟩, rfl⟩
  refine stays (XPA.cl ?_)
  refine XPA.wrZ0 rfl rfl Gd.free (by kernel_rfl) (WrA.cE (put_w σ mb sb db d s M.popM (5 + a) k) rfl) ?_
  rintro _ _ _ ⟨_, ⟨rfl, rfl, rfl⟩, rfl⟩
  refine XPA.cl ?_
  refine XPA.nil ?_
  refine DA.inb_normal ?_
  exact bodyA.normal (ResA.none rfl) zE ⟨rfl, rfl, rfl⟩
theorem cells10_m (a b n m k : Int) (l : List Int) (hc : 0 ≤ a ∧ 1 ≤ b ∧ a + b ≤ 48) (h : Shows M.C ⟨next, m :: k :: l, rd, outn, st, cells⟩) :
    CallsA Try.prog 55 #[ptr g, .agg #[i64 10, i64 a, i64 b, i64 n]] σ [blk g [ptr mb, cv, iv, ptr pb, i64 left, .bool torn] 64, Wld mb sb db d s M] (RetA fun v σ' Γ' => v = .tuple #[] ∧ σ = σ' ∧ Γ' = [blk g [ptr mb, cv, iv, ptr pb, i64 left, .bool torn] 64, Wld mb sb db d s (if k < 0 ∨ b ≤ k then M.popM.popM.put 4 13 else M.popM.popM.put (5 + a + k) m)]) := by
  have hce := cell_m σ g mb sb db pb cv iv left torn d s M.popM.popM 10 a b n k hc
  by_cases hk : k < 0 ∨ b ≤ k
  · rw [if_pos hk]
    rw [if_pos hk, if_pos hk, decide_eq_false (fun q => q hk)] at hce
    refine enterA2 Try.func55 rfl rfl rfl ?_
    refine zS ?_; refine zR ?_
    refine XOA.wr0 rfl WrA.bx ?_
    rintro _ _ _ ⟨g3, rfl, rfl, rfl⟩
    refine zN ?_; refine zT ?_; refine zS ?_; refine zR ?_; refine zO rfl (Rd.fA rfl) ?_; refine zO rfl (Rd.ldC rfl (tyrow rfl) rfl) ?_; refine zN ?_; refine zT ?_
    refine XA.block ?_
    refine zS ?_; refine zR ?_; refine zO rfl (Rd.eql rfl rfl) ?_; refine zO rfl Rd.asg ?_; refine zN ?_; refine zT ?_
    refine XA.condF rfl rfl ?_
    refine zS ?_; refine zR ?_; refine zO rfl (Rd.eql rfl rfl) ?_; refine zO rfl Rd.asg ?_; refine zN ?_; refine zT ?_
    refine XA.condF rfl rfl ?_
    refine zS ?_; refine zR ?_; refine zO rfl (Rd.eql rfl rfl) ?_; refine zO rfl Rd.asg ?_; refine zN ?_; refine zT ?_
    refine XA.condF rfl rfl ?_
    refine zS ?_; refine zR ?_; refine zO rfl (Rd.eql rfl rfl) ?_; refine zO rfl Rd.asg ?_; refine zN ?_; refine zT ?_
    refine XA.condT rfl rfl ?_
    refine zS ?_; refine zR ?_; refine zO rfl Rd.mv ?_
    refine XOA.wr0 rfl (WrA.cE (pop_m σ g mb sb db pb cv iv left torn d s M h) rfl) ?_
    rintro _ _ _ ⟨_, ⟨rfl, rfl, rfl⟩, rfl⟩
    refine XOA.cl ?_
    refine zO rfl Rd.asg ?_; refine zN ?_; refine zT ?_; refine zS ?_
    refine XA.draw (by kernel_rfl) _ _ [4] [(0, .pu), (1, .rd), (2, .pu), (3, .wr), (4, .wr), (5, .pu), (6, .pu), (7, .pu), (8, .pu), (9, .pu)] (by kernel_rfl) (PH.sub.refl _) (Ent.sel (R := blk g3 _ _) (by ((repeat (first | with_reducible exact Sel.head | apply Sel.tail)); (first | done | fail))) (Ent.nil _)) ?_
    refine XPA.pu rfl rfl Gd.free Rd.mv ?_
    refine XPA.rd rfl rfl Gd.free (Rd.ldA rfl) ?_
    refine XPA.pu rfl rfl Gd.free Rd.mv ?_
    refine XPA.wr0 rfl rfl Gd.free (WrA.cE (pop_m σ g mb sb db pb cv iv left torn d s M.popM h.popM) rfl) ?_
    rintro _ _ _ ⟨_, ⟨rfl, rfl, rfl⟩, rfl⟩
    refine stays (XPA.cl ?_)
    refine XPA.wrZ0 rfl rfl Gd.free (by kernel_rfl) (WrA.cE (hce) rfl) ?_
    rintro _ _ _ ⟨_, ⟨rfl, rfl, rfl⟩, rfl⟩
    refine XPA.cl ?_
    refine XPA.pu rfl rfl Gd.free Rd.mv ?_
    refine XPA.pu rfl rfl Gd.free (Rd.extract rfl rfl) ?_
    refine XPA.pu rfl rfl Gd.free (Rd.extract rfl rfl) ?_
    refine XPA.pu rfl rfl Gd.free Rd.asg ?_
    refine XPA.pu rfl rfl Gd.free Rd.asg ?_
    refine XPA.nil ?_
    refine zT ?_; refine zS ?_; refine zR ?_; refine zO rfl Rd.mv ?_; refine zN ?_; refine zT ?_
    refine XA.condF rfl rfl ?_
    refine XA.skip ?_
    refine DA.inb_normal ?_
    exact bodyA.normal (ResA.none rfl) zE ⟨rfl, rfl, rfl⟩
  · rw [if_neg hk]
    rw [if_neg hk, if_neg hk, decide_eq_true hk] at hce
    refine enterA2 Try.func55 rfl rfl rfl ?_
    refine zS ?_; refine zR ?_
    refine XOA.wr0 rfl WrA.bx ?_
    rintro _ _ _ ⟨g3, rfl, rfl, rfl⟩
    refine zN ?_; refine zT ?_; refine zS ?_; refine zR ?_; refine zO rfl (Rd.fA rfl) ?_; refine zO rfl (Rd.ldC rfl (tyrow rfl) rfl) ?_; refine zN ?_; refine zT ?_
    refine XA.block ?_
    refine zS ?_; refine zR ?_; refine zO rfl (Rd.eql rfl rfl) ?_; refine zO rfl Rd.asg ?_; refine zN ?_; refine zT ?_
    refine XA.condF rfl rfl ?_
    refine zS ?_; refine zR ?_; refine zO rfl (Rd.eql rfl rfl) ?_; refine zO rfl Rd.asg ?_; refine zN ?_; refine zT ?_
    refine XA.condF rfl rfl ?_
    refine zS ?_; refine zR ?_; refine zO rfl (Rd.eql rfl rfl) ?_; refine zO rfl Rd.asg ?_; refine zN ?_; refine zT ?_
    refine XA.condF rfl rfl ?_
    refine zS ?_; refine zR ?_; refine zO rfl (Rd.eql rfl rfl) ?_; refine zO rfl Rd.asg ?_; refine zN ?_; refine zT ?_
    refine XA.condT rfl rfl ?_
    refine zS ?_; refine zR ?_; refine zO rfl Rd.mv ?_
    refine XOA.wr0 rfl (WrA.cE (pop_m σ g mb sb db pb cv iv left torn d s M h) rfl) ?_
    rintro _ _ _ ⟨_, ⟨rfl, rfl, rfl⟩, rfl⟩
    refine XOA.cl ?_
    refine zO rfl Rd.asg ?_; refine zN ?_; refine zT ?_; refine zS ?_
    refine XA.draw (by kernel_rfl) _ _ [4] [(0, .pu), (1, .rd), (2, .pu), (3, .wr), (4, .wr), (5, .pu), (6, .pu), (7, .pu), (8, .pu), (9, .pu)] (by kernel_rfl) (PH.sub.refl _) (Ent.sel (R := blk g3 _ _) (by ((repeat (first | with_reducible exact Sel.head | apply Sel.tail)); (first | done | fail))) (Ent.nil _)) ?_
    refine XPA.pu rfl rfl Gd.free Rd.mv ?_
    refine XPA.rd rfl rfl Gd.free (Rd.ldA rfl) ?_
    refine XPA.pu rfl rfl Gd.free Rd.mv ?_
    refine XPA.wr0 rfl rfl Gd.free (WrA.cE (pop_m σ g mb sb db pb cv iv left torn d s M.popM h.popM) rfl) ?_
    rintro _ _ _ ⟨_, ⟨rfl, rfl, rfl⟩, rfl⟩
    refine stays (XPA.cl ?_)
    refine XPA.wrZ0 rfl rfl Gd.free (by kernel_rfl) (WrA.cE (hce) rfl) ?_
    rintro _ _ _ ⟨_, ⟨rfl, rfl, rfl⟩, rfl⟩
    refine XPA.cl ?_
    refine XPA.pu rfl rfl Gd.free Rd.mv ?_
    refine XPA.pu rfl rfl Gd.free (Rd.extract rfl rfl) ?_
    refine XPA.pu rfl rfl Gd.free (Rd.extract rfl rfl) ?_
    refine XPA.pu rfl rfl Gd.free Rd.asg ?_
    refine XPA.pu rfl rfl Gd.free Rd.asg ?_
    refine XPA.nil ?_
    refine zT ?_; refine zS ?_; refine zR ?_; refine zO rfl Rd.mv ?_; refine zN ?_; refine zT ?_
    refine XA.condT rfl rfl ?_
    refine zR ?_; refine zO rfl Rd.mv ?_; refine zO rfl (Rd.nilCheck rfl) ?_; refine zO rfl (Rd.fA rfl) ?_; refine zO rfl (Rd.ldC rfl (tyrow rfl) rfl) ?_; refine zO rfl Rd.mv ?_; refine zO rfl Rd.mv ?_
    refine XOA.wr0 rfl (WrA.cE (put_w σ mb sb db d s M.popM.popM (5 + a + k) m) rfl) ?_
    rintro _ _ _ ⟨_, ⟨rfl, rfl, rfl⟩, rfl⟩
    refine XOA.cl ?_
    refine zN ?_
    refine DA.inb_normal ?_
    exact bodyA.normal (ResA.none rfl) zE ⟨rfl, rfl, rfl⟩
theorem cells12_m (pi : Option Addr) (ci : Nat) (inp : List Int) (a b n : Int) (ha : 0 ≤ a ∧ a < 48) (hi : PInts σ (.slice pi inp.length ci) inp) (hil : inp.length ≤ 1000000) (h : Shows M.C ⟨next, stack, rd, outn, st, cells⟩) :
    CallsA Try.prog 55 #[ptr g, .agg #[i64 12, i64 a, i64 b, i64 n]] σ [blk g [ptr mb, cv, .slice pi inp.length ci, ptr pb, i64 left, .bool torn] 64, Wld mb sb db d s M] (RetA fun v σ' Γ' => v = .tuple #[] ∧ σ = σ' ∧ Γ' = [blk g [ptr mb, cv, .slice pi inp.length ci, ptr pb, i64 left, .bool torn] 64, Wld mb sb db d s (if (inp.length : Int) ≤ M.ld 2 then M.put 4 14 else (M.put 2 (M.ld 2 + 1)).put (5 + a) (inp.getD (M.ld 2).toNat 0))]) := by
  refine enterA2 Try.func55 rfl rfl rfl ?_
  refine zS ?_; refine zR ?_
  refine XOA.wr0 rfl WrA.bx ?_
  rintro _ _ _ ⟨g3, rfl, rfl, rfl⟩
  refine zN ?_; refine zT ?_; refine zS ?_; refine zR ?_; refine zO rfl (Rd.fA rfl) ?_; refine zO rfl (Rd.ldC rfl (tyrow rfl) rfl) ?_; refine zN ?_; refine zT ?_
  refine XA.block ?_
  refine zS ?_; refine zR ?_; refine zO rfl (Rd.eql rfl rfl) ?_; refine zO rfl Rd.asg ?_; refine zN ?_; refine zT ?_
  refine XA.condF rfl rfl ?_
  refine zS ?_; refine zR ?_; refine zO rfl (Rd.eql rfl rfl) ?_; refine zO rfl Rd.asg ?_; refine zN ?_; refine zT ?_
  refine XA.condF rfl rfl ?_
  refine zS ?_; refine zR ?_; refine zO rfl (Rd.eql rfl rfl) ?_; refine zO rfl Rd.asg ?_; refine zN ?_; refine zT ?_
  refine XA.condF rfl rfl ?_
  refine zS ?_; refine zR ?_; refine zO rfl (Rd.eql rfl rfl) ?_; refine zO rfl Rd.asg ?_; refine zN ?_; refine zT ?_
  refine XA.condF rfl rfl ?_
  refine zS ?_; refine zR ?_; refine zO rfl (Rd.eql rfl rfl) ?_; refine zO rfl Rd.asg ?_; refine zN ?_; refine zT ?_
  refine XA.condT rfl rfl ?_
  refine zR ?_; refine zO rfl Rd.mv ?_; refine zO rfl (Rd.fA rfl) ?_; refine zO rfl (Rd.ldC rfl (tyrow rfl) rfl) ?_
  refine XOA.wr0 rfl (WrA.cE (take_m σ g mb sb db pb cv left torn d s M pi ci inp a ha hi hil h) rfl) ?_
  rintro _ _ _ ⟨_, ⟨rfl, rfl, rfl⟩, rfl⟩
  refine XOA.cl ?_
  refine zN ?_
  refine DA.inb_normal ?_
  exact bodyA.normal (ResA.none rfl) zE ⟨rfl, rfl, rfl⟩
theorem cellsN_m (op a b n : Int) (h2 : op ≠ 2) (h3 : op ≠ 3) (h9 : op ≠ 9) (h10 : op ≠ 10) (h12 : op ≠ 12) :
    CallsA Try.prog 55 #[ptr g, .agg #[i64 op, i64 a, i64 b, i64 n]] σ [blk g [ptr mb, cv, iv, ptr pb, i64 left, .bool torn] 64, Wld mb sb db d s M] (RetA fun v σ' Γ' => v = .tuple #[] ∧ σ = σ' ∧ Γ' = [blk g [ptr mb, cv, iv, ptr pb, i64 left, .bool torn] 64, Wld mb sb db d s M]) := by
  refine enterA2 Try.func55 rfl rfl rfl ?_
  refine zS ?_; refine zR ?_
  refine XOA.wr0 rfl WrA.bx ?_
  rintro _ _ _ ⟨g3, rfl, rfl, rfl⟩
  refine zN ?_; refine zT ?_; refine zS ?_; refine zR ?_; refine zO rfl (Rd.fA rfl) ?_; refine zO rfl (Rd.ldC rfl (tyrow rfl) rfl) ?_; refine zN ?_; refine zT ?_
  refine XA.block ?_
  refine zS ?_; refine zR ?_; refine zO rfl (Rd.eql rfl rfl) ?_; refine zO rfl Rd.asg ?_; refine zN ?_; refine zT ?_
  refine XA.condF rfl (decide_eq_false h2) ?_
  refine zS ?_; refine zR ?_; refine zO rfl (Rd.eql rfl rfl) ?_; refine zO rfl Rd.asg ?_; refine zN ?_; refine zT ?_
  refine XA.condF rfl (decide_eq_false h3) ?_
  refine zS ?_; refine zR ?_; refine zO rfl (Rd.eql rfl rfl) ?_; refine zO rfl Rd.asg ?_; refine zN ?_; refine zT ?_
  refine XA.condF rfl (decide_eq_false h9) ?_
  refine zS ?_; refine zR ?_; refine zO rfl (Rd.eql rfl rfl) ?_; refine zO rfl Rd.asg ?_; refine zN ?_; refine zT ?_
  refine XA.condF rfl (decide_eq_false h10) ?_
  refine zS ?_; refine zR ?_; refine zO rfl (Rd.eql rfl rfl) ?_; refine zO rfl Rd.asg ?_; refine zN ?_; refine zT ?_
  refine XA.condF rfl (decide_eq_false h12) ?_
  refine XA.skip ?_
  refine DA.inb_normal ?_
  exact bodyA.normal (ResA.none rfl) zE ⟨rfl, rfl, rfl⟩
end
end Go.Proofs.Ytmnmcjdgnpgchaa

