/- The law IdealRuns holds: what expressions say is what instructions do: for every program, every input and every number. Condition: none. -/
import Derived.Test.YtbbghdkndbpmmaaRk3
import Derived.Test.YtbbghdkndbpmmaaRk4
namespace Go.Proofs.Ytbbghdkndbpmmaa
open Go X
set_option maxHeartbeats 2000000
theorem pints_frz {σ : PH} {p : Option Addr} {n c : Nat} {xs : List Int} (hx : xs.length = n) (h : n ≤ c ∧ c ≤ maxLen ∧ (ints xs).length = n * 1 ∧ (0 < n → ∃ g o, p = some ⟨g, o, none⟩ ∧ PRow σ g o (ints xs))) : PInts σ (.slice p n c) xs := by
  subst hx
  exact ⟨p, c, rfl, h.1, h.2.1, h.2.2.2⟩
/-- What was committed last, as it lies. -/
def KeptAt (σ : PH) (k0 k1 k2 k3 k4 k5 : Value) (m : Mi) : Prop := ∃ p c p' c', k0 = i64 m.next ∧ k1 = .slice p m.stack.length c ∧ k2 = i64 m.rd ∧ k3 = i64 m.outn ∧ k4 = i64 m.st ∧ k5 = .slice p' m.cells.length c' ∧ PInts σ (.slice p m.stack.length c) m.stack.reverse ∧ PInts σ (.slice p' m.cells.length c') m.cells
theorem KeptAt.mono {σ σ' : PH} {k0 k1 k2 k3 k4 k5 : Value} {m : Mi} (h : KeptAt σ k0 k1 k2 k3 k4 k5 m) (hs : σ.sub σ') : KeptAt σ' k0 k1 k2 k3 k4 k5 m := by
  obtain ⟨p, c, p', c', e0, e1, e2, e3, e4, e5, h1, h2⟩ := h
  exact ⟨p, c, p', c', e0, e1, e2, e3, e4, e5, h1.mono hs, h2.mono hs⟩
/-- A being. -/
def BeG (σ : PH) (g : Nat) (cv iv : Value) (b : Be) (Γ : List HP) : Prop := ∃ sp sc pl cl op oc k0 k1 k2 k3 k4 k5, KeptAt σ k0 k1 k2 k3 k4 k5 b.kept ∧ Γ = [blk g [cv, iv, i64 b.m.next, .slice sp b.m.stack.length sc, i64 b.m.rd, i64 b.m.outn, i64 b.m.st, .slice pl b.m.cells.length cl, k0, k1, k2, k3, k4, k5, .slice op b.out.length oc, .bool b.wrong] 121,
  lst 2 1 (.slice sp b.m.stack.length sc) b.m.stack.length (ints b.m.stack.reverse), lst 2 1 (.slice pl b.m.cells.length cl) b.m.cells.length (ints b.m.cells), lst 2 1 (.slice op b.out.length oc) b.out.length (ints b.out)]
theorem BeG.of {σ : PH} {g : Nat} {cv iv : Value} {next rd outn : Nat} {stack cells out : List Int} {st : Int} {kept : Mi} {wrong : Bool} {sp pl op : Option Addr} {sc cl oc : Nat} {k0 k1 k2 k3 k4 k5 : Value} (hk : KeptAt σ k0 k1 k2 k3 k4 k5 kept) :
    BeG σ g cv iv ⟨⟨next, stack, rd, outn, st, cells⟩, kept, out, wrong⟩ [blk g [cv, iv, i64 next, .slice sp stack.length sc, i64 rd, i64 outn, i64 st, .slice pl cells.length cl, k0, k1, k2, k3, k4, k5, .slice op out.length oc, .bool wrong] 121,
      lst 2 1 (.slice sp stack.length sc) stack.length (ints stack.reverse), lst 2 1 (.slice pl cells.length cl) cells.length (ints cells), lst 2 1 (.slice op out.length oc) out.length (ints out)] := ⟨sp, sc, pl, cl, op, oc, k0, k1, k2, k3, k4, k5, hk, rfl⟩
theorem step_done (σ : PH) (g : Nat) (cv iv : Value) (b : Be) (keep : Bool) (Γ : List HP) (hB : BeG σ g cv iv b Γ) (hst : b.m.st ≠ 0) :
    CallsA Try.prog 57 #[ptr g, .bool keep] σ Γ (RetA fun v σ' Γ' => v = .bool false ∧ σ = σ' ∧ BeG σ' g cv iv b Γ') := by
  obtain ⟨⟨next, stack, rd, outn, st, cells⟩, kept, out, wrong⟩ := b
  obtain ⟨sp, sc, pl, cl, op, oc, k0, k1, k2, k3, k4, k5, hk, rfl⟩ := hB
  simp only at hst hk ⊢
  refine enterA2 Try.func57 rfl rfl rfl ?_
  refine zS ?_; refine zR ?_; refine zO rfl Rd.asg ?_; refine zN ?_; refine zT ?_; refine zS ?_; refine zS ?_; refine zR ?_; refine zO rfl Rd.mv ?_; refine zO rfl (Rd.nilCheck rfl) ?_; refine zO rfl (Rd.fA rfl) ?_; refine zO rfl (Rd.fA rfl) ?_; refine zO rfl (Rd.ldC rfl (tyrow rfl) rfl) ?_
  refine zO rfl (Rd.neq rfl rfl) ?_
  refine zN ?_; refine zT ?_
  refine XA.condT rfl (decide_eq_true hst) ?_
  refine zS ?_; refine zR ?_; refine zO rfl Rd.asg ?_; refine zN ?_; refine zT ?_
  refine XA.ret ?_
  refine DA.thn_ret ?_
  exact bodyA.ret (ResA.one rfl rfl) zE ⟨rfl, rfl, BeG.of hk⟩
theorem cells_read {cells : List Int} {rest : List Value} {a : Nat} (h : a < cells.length) : (ints cells ++ rest)[a]? = some (i64 (cells.getD a 0)) := by
  rw [List.getElem?_append_left (by simpa [ints] using h)]
  simp [ints, h]
theorem cells_write {cells : List Int} {rest : List Value} {a : Nat} (n : Int) (h : a < cells.length) : splice (ints cells ++ rest) a [i64 n] = ints (cells.set a n) ++ rest := by
  have e := splice_set cells n h
  rw [← e]
  have hl : (ints cells).length = cells.length := by simp [ints]
  simp only [splice, List.length_singleton]
  rw [List.take_append_of_le_length (by omega), List.drop_append_of_le_length (by omega)]
  simp
/-- One instruction: what it wants. -/
structure StepOk (code : List In) (inp : List Int) (b : Be) (x : In) : Prop where
  st : b.m.st = 0
  at_ : code[b.m.next]? = some x
  pop : popA x.op ≤ b.m.stack.length
  cell : cellOk b.m.cells.length x
  goto : (x.op = 13 ∨ x.op = 14) → 0 ≤ x.a
  stack : b.m.stack.length ≤ 900
  cells : b.m.cells.length ≤ 1000
  code : code.length ≤ 1000000
  rd : b.m.rd ≤ 1000000
  outs : b.out.length ≤ 1000000
  outn : b.m.outn ≤ b.out.length
theorem step_b (σ : PH) (g : Nat) (pc : Option Addr) (cc : Nat) (code : List In) (iv : Value) (inp : List Int) (b : Be) (x : In) (keep : Bool) (Γ : List HP) (hc : PSl 4 rIn σ (.slice pc code.length cc) code) (hi : PInts σ iv inp) (hB : BeG σ g (.slice pc code.length cc) iv b Γ) (hk : StepOk code inp b x) :
    CallsA Try.prog 57 #[ptr g, .bool keep] σ Γ (RetA fun v σ' Γ' => v = .bool true ∧ σ.sub σ' ∧ BeG σ' g (.slice pc code.length cc) iv (stepB code inp keep b) Γ') := by
  obtain ⟨pi, ci, rfl, hil, him⟩ := hi.shape
  obtain ⟨⟨next, stack, rd, outn, st, cells⟩, kept, out, wrong⟩ := b
  obtain ⟨sp, sc, pl, cl, op, oc, k0, k1, k2, k3, k4, k5, hkp, rfl⟩ := hB
  obtain ⟨hst, hx, hpop, ⟨hcell, hcell2⟩, hgo, hsl, hcl, hcd, hrd, hol, hon⟩ := hk
  simp only at hst hx hpop hcell hcell2 hsl hcl hcd hrd hol hon hkp
  simp only [maxLen] at him
  subst hst
  obtain ⟨xop, xa, xb, xn⟩ := x
  simp only at hpop hcell hcell2 hgo
  have hlt := (List.getElem?_eq_some_iff.1 hx).1
  obtain ⟨gc, oc', row, rfl, hrx, hrl, hrow⟩ := hc.at hx
  obtain rfl : row = [i64 xop, i64 xa, i64 xb, i64 xn] := hrx
  have hS : stepB code inp keep ⟨⟨next, stack, rd, outn, 0, cells⟩, kept, out, wrong⟩ = doIn inp keep ⟨xop, xa, xb, xn⟩ ⟨⟨next + 1, stack, rd, outn, 0, cells⟩, kept, out, wrong⟩ := by
    rw [stepB, hx]; rfl
  rw [hS]
  clear hS
  dsimp only
  refine enterA2 Try.func57 rfl rfl rfl ?_
  refine zS ?_; refine zR ?_; refine zO rfl Rd.asg ?_; refine zN ?_; refine zT ?_; refine zS ?_; refine zS ?_; refine zR ?_; refine zO rfl Rd.mv ?_; refine zO rfl (Rd.nilCheck rfl) ?_; refine zO rfl (Rd.fA rfl) ?_; refine zO rfl (Rd.fA rfl) ?_; refine zO rfl (Rd.ldC rfl (tyrow rfl) rfl) ?_
  refine zO rfl (Rd.neq rfl rfl) ?_
  refine zN ?_; refine zT ?_
  refine XA.condF rfl rfl ?_
  refine XA.skip ?_
  refine zT ?_; refine zS ?_
  refine XA.draw (by kernel_rfl) _ _ [12] [(0, .pu), (1, .pu), (2, .pu), (3, .rd), (4, .pu), (5, .pu), (6, .pu), (7, .pu), (8, .rd), (9, .pu), (10, .rd), (11, .wr), (12, .wr)] (by kernel_rfl) (PH.sub.refl _) (Ent.sel (R := blk g _ _) (by ((repeat (first | with_reducible exact Sel.head | apply Sel.tail)); (first | done | fail))) (Ent.nil _)) ?_
  refine XPA.pu rfl rfl Gd.free Rd.mv ?_
  refine XPA.pu rfl rfl Gd.free (Rd.nilCheck rfl) ?_
  refine XPA.pu rfl rfl Gd.free (Rd.fA rfl) ?_
  refine XPA.rd rfl rfl Gd.free (Rd.ldC rfl (tyrow rfl) rfl) ?_
  refine XPA.pu rfl rfl Gd.free Rd.mv ?_
  refine XPA.pu rfl rfl Gd.free (Rd.nilCheck rfl) ?_
  refine XPA.pu rfl rfl Gd.free (Rd.fA rfl) ?_
  refine XPA.pu rfl rfl Gd.free (Rd.fA rfl) ?_
  refine XPA.rd rfl rfl Gd.free (Rd.ldC rfl (tyrow rfl) rfl) ?_
  refine XPA.pu rfl rfl Gd.free (Rd.ixS rfl rfl) ?_
  refine XPA.rd rfl rfl Gd.free (Rd.ldA rfl) ?_
  refine XPA.wr0 rfl rfl Gd.free (WrA.alloc (tyrow rfl)) ?_
  rintro _ _ _ ⟨g5, rfl, rfl, rfl⟩
  refine stays ?_
  refine XPA.wrZ0 rfl rfl Gd.free (by kernel_rfl) (WrA.st (tyrow rfl) rfl) ?_
  rintro _ _ _ ⟨rfl, rfl, rfl⟩
  refine XPA.nil ?_
  refine zT ?_; refine zS ?_; refine zR ?_; refine zO rfl Rd.mv ?_; refine zO rfl (Rd.nilCheck rfl) ?_; refine zO rfl (Rd.fA rfl) ?_; refine zO rfl (Rd.fA rfl) ?_; refine zO rfl (Rd.ldC rfl (tyrow rfl) rfl) ?_
  refine zO rfl (by first | exact Rd.adi rfl rfl | exact Rd.add rfl rfl) ?_
  refine zO rfl (Rd.nilCheck rfl) ?_; refine zO rfl (Rd.fA rfl) ?_; refine zO rfl (Rd.fA rfl) ?_
  refine XOA.wr0 rfl (WrA.st (tyrow rfl) rfl) ?_
  rintro _ _ _ ⟨rfl, rfl, rfl⟩
  refine zN ?_; refine zT ?_; refine zS ?_; refine zS ?_; refine zR ?_; refine zO rfl (Rd.fA rfl) ?_; refine zO rfl (Rd.ldC rfl (tyrow rfl) rfl) ?_; refine zN ?_; refine zT ?_
  refine XA.block ?_
  refine zS ?_; refine zR ?_; refine zO rfl (Rd.eql rfl rfl) ?_; refine zO rfl Rd.asg ?_; refine zN ?_; refine zT ?_
  by_cases h1 : xop = 1
  · subst h1
    clear hx
    have hsl1 : stack.length ≤ 1000 := by omega
    rw [show doIn inp keep ⟨1, xa, xb, xn⟩ ⟨⟨next + 1, stack, rd, outn, 0, cells⟩, kept, out, wrong⟩ = ⟨⟨next + 1, xn :: stack, rd, outn, 0, cells⟩, kept, out, wrong⟩ from rfl]
    refine XA.condT rfl rfl ?_
    refine zR ?_; refine zO rfl Rd.mv ?_; refine zO rfl (Rd.fA rfl) ?_; refine zO rfl (Rd.ldC rfl (tyrow rfl) rfl) ?_
    refine XOA.wr0 rfl (WrA.cE (push_b σ g _ _ _ _ _ _ _ _ _ _ _ _ _ _ _ _ _ (_) _ hsl1) rfl) ?_
    rintro _ _ _ ⟨_, ⟨p1, c1, rfl, rfl, rfl⟩, rfl⟩
    refine XOA.cl ?_
    refine zN ?_
    refine DA.inb_normal ?_
    refine zT ?_; refine zS ?_; refine zR ?_; refine zO rfl Rd.asg ?_; refine zN ?_; refine zT ?_
    refine XA.ret ?_
    exact bodyA.ret (ResA.one rfl rfl) zE ⟨rfl, .refl _, BeG.of hkp⟩
  by_cases h2 : xop = 2
  · subst h2
    clear hx
    have hsl1 : stack.length ≤ 1000 := by omega
    obtain ⟨ha0, ha1⟩ := hcell (.inl rfl)
    obtain ⟨a, rfl⟩ : ∃ a : Nat, xa = a := ⟨xa.toNat, by omega⟩
    have ha2 : a < cells.length := by omega
    rw [show doIn inp keep ⟨2, (a : Int), xb, xn⟩ ⟨⟨next + 1, stack, rd, outn, 0, cells⟩, kept, out, wrong⟩ = ⟨⟨next + 1, cells.getD a 0 :: stack, rd, outn, 0, cells⟩, kept, out, wrong⟩ from rfl]
    first | refine XA.opn (R := lst 2 1 (.slice pl cells.length cl) _ _) (by ((repeat (first | with_reducible exact Sel.head | apply Sel.tail)); (first | done | fail))) (lst_openW (by omega)) ?_ | refine XOA.opn (R := lst 2 1 (.slice pl cells.length cl) _ _) (by ((repeat (first | with_reducible exact Sel.head | apply Sel.tail)); (first | done | fail))) (lst_openW (by omega)) ?_ | refine DA.opn (R := lst 2 1 (.slice pl cells.length cl) _ _) (by ((repeat (first | with_reducible exact Sel.head | apply Sel.tail)); (first | done | fail))) (lst_openW (by omega)) ?_
    rintro ⟨g6, rest⟩ ⟨rfl, hcc, hcm, hcx, hcr⟩
    first | refine XA.cl ?_ | refine XOA.cl ?_ | refine DA.cl ?_
    have hv : (ints cells ++ rest)[a]? = some (i64 (cells.getD a 0)) := cells_read ha2
    refine XA.condF rfl rfl ?_
    refine zS ?_; refine zR ?_; refine zO rfl (Rd.eql rfl rfl) ?_; refine zO rfl Rd.asg ?_; refine zN ?_; refine zT ?_
    refine XA.condT rfl rfl ?_
    refine XA.draw (by kernel_rfl) _ _ [10] [(0, .pu), (1, .pu), (2, .pu), (3, .pu), (4, .pu), (5, .rd), (6, .pu), (7, .rd), (8, .pu), (9, .rd), (10, .wr)] (by kernel_rfl) (PH.sub.refl _) (Ent.sel (R := blk g _ _) (by ((repeat (first | with_reducible exact Sel.head | apply Sel.tail)); (first | done | fail))) (Ent.sel (R := blk g5 _ _) (by ((repeat (first | with_reducible exact Sel.head | apply Sel.tail)); (first | done | fail))) (Ent.sel (R := blk g6 _ _) (by ((repeat (first | with_reducible exact Sel.head | apply Sel.tail)); (first | done | fail))) (Ent.nil _)))) ?_
    refine XPA.pu rfl rfl Gd.free Rd.mv ?_
    refine XPA.pu rfl rfl Gd.free Rd.mv ?_
    refine XPA.pu rfl rfl Gd.free (Rd.nilCheck rfl) ?_
    refine XPA.pu rfl rfl Gd.free (Rd.fA rfl) ?_
    refine XPA.pu rfl rfl Gd.free (Rd.fA rfl) ?_
    refine XPA.rd rfl rfl Gd.free (Rd.ldC rfl (tyrow rfl) rfl) ?_
    refine XPA.pu rfl rfl Gd.free (Rd.fA rfl) ?_
    refine XPA.rd rfl rfl Gd.free (Rd.ldC rfl (tyrow rfl) rfl) ?_
    refine XPA.pu rfl rfl Gd.free (Rd.ixS rfl rfl) ?_
    refine XPA.rd rfl rfl Gd.free (Rd.ldC rfl (tyrow rfl) rfl) ?_
    refine XPA.wrZ0 rfl rfl Gd.free (by kernel_rfl) (WrA.cE (push_b σ g _ _ _ _ _ _ _ _ _ _ _ _ _ _ _ _ _ (_) _ hsl1) rfl) ?_
    rintro _ _ _ ⟨_, ⟨p1, c1, rfl, rfl, rfl⟩, rfl⟩
    refine XPA.cl ?_
    refine XPA.nil ?_
    refine DA.inb_normal ?_
    refine zT ?_; refine zS ?_; refine zR ?_; refine zO rfl Rd.asg ?_; refine zN ?_; refine zT ?_
    refine XA.ret ?_
    refine DA.ent (Ent.foldC (Θ := [blk g6 (ints (cells) ++ rest) 2]) (by (repeat (first | exact Ent.all _ | (apply Ent.take; focus (first | ((repeat (first | with_reducible exact Sel.head | apply Sel.tail)); done) | ((repeat (first | exact Sel.head | apply Sel.tail)); done))) | apply Ent.takeNil | apply Ent.takeEmp)); (first | done | fail)) (lst_close (size := 1) (n := cells.length) (c := cl) (rest := rest) (by simp [ints]) hcc hcm (by simpa [ints] using hcr)) (Ent.refl _)) ?_
    exact bodyA.ret (ResA.one rfl rfl) zE ⟨rfl, .refl _, BeG.of hkp⟩
  by_cases h3 : xop = 3
  · subst h3
    clear hx
    obtain ⟨k, s, rfl⟩ : ∃ n s, stack = n :: s := by
      cases stack with
      | nil => simp [popA] at hpop
      | cons n s => exact ⟨n, s, rfl⟩
    have hsl1 : s.length ≤ 1000 := by simp only [List.length_cons] at hsl; omega
    obtain ⟨hb0, hb1, hb2⟩ := hcell2 (by decide)
    obtain ⟨a, rfl⟩ : ∃ a : Nat, xa = a := ⟨xa.toNat, by omega⟩
    by_cases hk0 : k < 0
    · rw [show doIn inp keep ⟨3, (a : Int), xb, xn⟩ ⟨⟨next + 1, k :: s, rd, outn, 0, cells⟩, kept, out, wrong⟩ = ⟨⟨next + 1, s, rd, outn, 13, cells⟩, kept, out, wrong⟩ by simp [doIn, hk0]]
      refine XA.condF rfl rfl ?_
      refine zS ?_; refine zR ?_; refine zO rfl (Rd.eql rfl rfl) ?_; refine zO rfl Rd.asg ?_; refine zN ?_; refine zT ?_
      refine XA.condF rfl rfl ?_
      refine zS ?_; refine zR ?_; refine zO rfl (Rd.eql rfl rfl) ?_; refine zO rfl Rd.asg ?_; refine zN ?_; refine zT ?_
      refine XA.condT rfl rfl ?_
      refine zS ?_; refine zR ?_; refine zO rfl Rd.mv ?_
      refine XOA.wr0 rfl (WrA.cE (pop_b σ g _ _ _ _ _ _ _ _ _ _ _ _ _ _ _ _ _ (s) _ hsl1) rfl) ?_
      rintro _ _ _ ⟨_, ⟨rfl, rfl, rfl⟩, rfl⟩
      refine XOA.cl ?_
      refine zO rfl Rd.asg ?_; refine zN ?_; refine zT ?_; refine zS ?_; refine zR ?_; refine zO rfl Rd.mv ?_; refine zO rfl (Rd.lss rfl rfl) ?_; refine zO rfl Rd.mv ?_
      first | ((first | refine zW ?_ | refine zQ ?_); refine zO rfl Rd.mv ?_) | refine zU ?_ | refine zV ?_ | refine zZ ?_
      first | ((first | refine zW ?_ | refine zQ ?_); refine zO rfl (Rd.fA rfl) ?_) | refine zU ?_ | refine zV ?_ | refine zZ ?_
      first | ((first | refine zW ?_ | refine zQ ?_); refine zO rfl (Rd.ldC rfl (tyrow rfl) rfl) ?_) | refine zU ?_ | refine zV ?_ | refine zZ ?_
      first | ((first | refine zW ?_ | refine zQ ?_); refine zO rfl (Rd.geq rfl rfl) ?_) | refine zU ?_ | refine zV ?_ | refine zZ ?_
      refine zO rfl (by first | exact Rd.pT rfl | exact Rd.pF rfl | exact Rd.pP rfl) ?_
      refine zN ?_; refine zT ?_
      refine XA.condT rfl (by first | rfl | exact decide_eq_true (by omega)) ?_
      refine zR ?_; refine zO rfl Rd.mv ?_; refine zO rfl (Rd.nilCheck rfl) ?_; refine zO rfl (Rd.fA rfl) ?_; refine zO rfl (Rd.fA rfl) ?_
      refine XOA.wr0 rfl (WrA.st (tyrow rfl) rfl) ?_
      rintro _ _ _ ⟨rfl, rfl, rfl⟩
      refine zN ?_
      refine DA.inb_normal ?_
      refine zT ?_; refine zS ?_; refine zR ?_; refine zO rfl Rd.asg ?_; refine zN ?_; refine zT ?_
      refine XA.ret ?_
      exact bodyA.ret (ResA.one rfl rfl) zE ⟨rfl, .refl _, BeG.of hkp⟩
    by_cases hk2 : xb ≤ k
    · rw [show doIn inp keep ⟨3, (a : Int), xb, xn⟩ ⟨⟨next + 1, k :: s, rd, outn, 0, cells⟩, kept, out, wrong⟩ = ⟨⟨next + 1, s, rd, outn, 13, cells⟩, kept, out, wrong⟩ by simp [doIn, hk2]]
      refine XA.condF rfl rfl ?_
      refine zS ?_; refine zR ?_; refine zO rfl (Rd.eql rfl rfl) ?_; refine zO rfl Rd.asg ?_; refine zN ?_; refine zT ?_
      refine XA.condF rfl rfl ?_
      refine zS ?_; refine zR ?_; refine zO rfl (Rd.eql rfl rfl) ?_; refine zO rfl Rd.asg ?_; refine zN ?_; refine zT ?_
      refine XA.condT rfl rfl ?_
      refine zS ?_; refine zR ?_; refine zO rfl Rd.mv ?_
      refine XOA.wr0 rfl (WrA.cE (pop_b σ g _ _ _ _ _ _ _ _ _ _ _ _ _ _ _ _ _ (s) _ hsl1) rfl) ?_
      rintro _ _ _ ⟨_, ⟨rfl, rfl, rfl⟩, rfl⟩
      refine XOA.cl ?_
      refine zO rfl Rd.asg ?_; refine zN ?_; refine zT ?_; refine zS ?_; refine zR ?_; refine zO rfl Rd.mv ?_; refine zO rfl (Rd.lss rfl rfl) ?_; refine zO rfl Rd.mv ?_
      first | ((first | refine zW ?_ | refine zQ ?_); refine zO rfl Rd.mv ?_) | refine zU ?_ | refine zV ?_ | refine zZ ?_
      first | ((first | refine zW ?_ | refine zQ ?_); refine zO rfl (Rd.fA rfl) ?_) | refine zU ?_ | refine zV ?_ | refine zZ ?_
      first | ((first | refine zW ?_ | refine zQ ?_); refine zO rfl (Rd.ldC rfl (tyrow rfl) rfl) ?_) | refine zU ?_ | refine zV ?_ | refine zZ ?_
      first | ((first | refine zW ?_ | refine zQ ?_); refine zO rfl (Rd.geq rfl rfl) ?_) | refine zU ?_ | refine zV ?_ | refine zZ ?_
      refine zO rfl (by first | exact Rd.pT rfl | exact Rd.pF rfl | exact Rd.pP rfl) ?_
      refine zN ?_; refine zT ?_
      refine XA.condT rfl (by first | rfl | exact decide_eq_true (by omega)) ?_
      refine zR ?_; refine zO rfl Rd.mv ?_; refine zO rfl (Rd.nilCheck rfl) ?_; refine zO rfl (Rd.fA rfl) ?_; refine zO rfl (Rd.fA rfl) ?_
      refine XOA.wr0 rfl (WrA.st (tyrow rfl) rfl) ?_
      rintro _ _ _ ⟨rfl, rfl, rfl⟩
      refine zN ?_
      refine DA.inb_normal ?_
      refine zT ?_; refine zS ?_; refine zR ?_; refine zO rfl Rd.asg ?_; refine zN ?_; refine zT ?_
      refine XA.ret ?_
      exact bodyA.ret (ResA.one rfl rfl) zE ⟨rfl, .refl _, BeG.of hkp⟩
    obtain ⟨j, rfl⟩ : ∃ j : Nat, k = j := ⟨k.toNat, by omega⟩
    have ha2 : a + j < cells.length := by omega
    have hk1 : ¬ ((j : Int) < 0 ∨ xb ≤ (j : Int)) := by omega
    rw [show doIn inp keep ⟨3, (a : Int), xb, xn⟩ ⟨⟨next + 1, (j : Int) :: s, rd, outn, 0, cells⟩, kept, out, wrong⟩ = ⟨⟨next + 1, cells.getD (a + j) 0 :: s, rd, outn, 0, cells⟩, kept, out, wrong⟩ by simp [doIn, hk2, show ((a : Int) + (j : Int)).toNat = a + j by omega]]
    refine XA.condF rfl rfl ?_
    refine zS ?_; refine zR ?_; refine zO rfl (Rd.eql rfl rfl) ?_; refine zO rfl Rd.asg ?_; refine zN ?_; refine zT ?_
    refine XA.condF rfl rfl ?_
    refine zS ?_; refine zR ?_; refine zO rfl (Rd.eql rfl rfl) ?_; refine zO rfl Rd.asg ?_; refine zN ?_; refine zT ?_
    refine XA.condT rfl rfl ?_
    refine zS ?_; refine zR ?_; refine zO rfl Rd.mv ?_
    refine XOA.wr0 rfl (WrA.cE (pop_b σ g _ _ _ _ _ _ _ _ _ _ _ _ _ _ _ _ _ (s) _ hsl1) rfl) ?_
    rintro _ _ _ ⟨_, ⟨rfl, rfl, rfl⟩, rfl⟩
    refine XOA.cl ?_
    refine zO rfl Rd.asg ?_; refine zN ?_; refine zT ?_; refine zS ?_; refine zR ?_; refine zO rfl Rd.mv ?_; refine zO rfl (Rd.lss rfl rfl) ?_; refine zO rfl Rd.mv ?_
    first | ((first | refine zW ?_ | refine zQ ?_); refine zO rfl Rd.mv ?_) | refine zU ?_ | refine zV ?_ | refine zZ ?_
    first | ((first | refine zW ?_ | refine zQ ?_); refine zO rfl (Rd.fA rfl) ?_) | refine zU ?_ | refine zV ?_ | refine zZ ?_
    first | ((first | refine zW ?_ | refine zQ ?_); refine zO rfl (Rd.ldC rfl (tyrow rfl) rfl) ?_) | refine zU ?_ | refine zV ?_ | refine zZ ?_
    first | ((first | refine zW ?_ | refine zQ ?_); refine zO rfl (Rd.geq rfl rfl) ?_) | refine zU ?_ | refine zV ?_ | refine zZ ?_
    refine zO rfl (by first | exact Rd.pT rfl | exact Rd.pF rfl | exact Rd.pP rfl) ?_
    refine zN ?_; refine zT ?_
    first | refine XA.opn (R := lst 2 1 (.slice pl cells.length cl) _ _) (by ((repeat (first | with_reducible exact Sel.head | apply Sel.tail)); (first | done | fail))) (lst_openW (by omega)) ?_ | refine XOA.opn (R := lst 2 1 (.slice pl cells.length cl) _ _) (by ((repeat (first | with_reducible exact Sel.head | apply Sel.tail)); (first | done | fail))) (lst_openW (by omega)) ?_ | refine DA.opn (R := lst 2 1 (.slice pl cells.length cl) _ _) (by ((repeat (first | with_reducible exact Sel.head | apply Sel.tail)); (first | done | fail))) (lst_openW (by omega)) ?_
    rintro ⟨g6, rest⟩ ⟨rfl, hcc, hcm, hcx, hcr⟩
    first | refine XA.cl ?_ | refine XOA.cl ?_ | refine DA.cl ?_
    have hv : (ints cells ++ rest)[a + j]? = some (i64 (cells.getD (a + j) 0)) := cells_read ha2
    have hv2 : IntKind.i64.wrap ((a : Int) + (j : Int)) = ((a + j : Nat) : Int) := by rw [X.wrap64_in (by omega) (by omega)]; omega
    refine XA.condF rfl (by first | rfl | exact decide_eq_false (by omega)) ?_
    refine XA.draw (by kernel_rfl) _ _ [12] [(0, .pu), (1, .pu), (2, .pu), (3, .pu), (4, .pu), (5, .rd), (6, .pu), (7, .rd), (8, .pu), (9, .pu), (10, .pu), (11, .rd), (12, .wr)] (by kernel_rfl) (PH.sub.refl _) (Ent.sel (R := blk g _ _) (by ((repeat (first | with_reducible exact Sel.head | apply Sel.tail)); (first | done | fail))) (Ent.sel (R := blk g5 _ _) (by ((repeat (first | with_reducible exact Sel.head | apply Sel.tail)); (first | done | fail))) (Ent.sel (R := blk g6 _ _) (by ((repeat (first | with_reducible exact Sel.head | apply Sel.tail)); (first | done | fail))) (Ent.nil _)))) ?_
    refine XPA.pu rfl rfl Gd.free Rd.mv ?_
    refine XPA.pu rfl rfl Gd.free Rd.mv ?_
    refine XPA.pu rfl rfl Gd.free (Rd.nilCheck rfl) ?_
    refine XPA.pu rfl rfl Gd.free (Rd.fA rfl) ?_
    refine XPA.pu rfl rfl Gd.free (Rd.fA rfl) ?_
    refine XPA.rd rfl rfl Gd.free (Rd.ldC rfl (tyrow rfl) rfl) ?_
    refine XPA.pu rfl rfl Gd.free (Rd.fA rfl) ?_
    refine XPA.rd rfl rfl Gd.free (Rd.ldC rfl (tyrow rfl) rfl) ?_
    refine XPA.pu rfl rfl Gd.free Rd.mv ?_
    refine XPA.pu rfl rfl Gd.free (by first | exact Rd.adi rfl rfl | exact Rd.add rfl rfl) ?_
    refine XPA.pu rfl rfl Gd.free (Rd.ixS rfl rfl) ?_
    refine XPA.rd rfl rfl Gd.free (Rd.ldC rfl (tyrow rfl) rfl) ?_
    refine XPA.wrZ0 rfl rfl Gd.free (by kernel_rfl) (WrA.cE (push_b σ g _ _ _ _ _ _ _ _ _ _ _ _ _ _ _ _ _ (_) _ hsl1) rfl) ?_
    rintro _ _ _ ⟨_, ⟨p1, c1, rfl, rfl, rfl⟩, rfl⟩
    refine XPA.cl ?_
    refine XPA.nil ?_
    refine DA.inb_normal ?_
    refine zT ?_; refine zS ?_; refine zR ?_; refine zO rfl Rd.asg ?_; refine zN ?_; refine zT ?_
    refine XA.ret ?_
    refine DA.ent (Ent.foldC (Θ := [blk g6 (ints (cells) ++ rest) 2]) (by (repeat (first | exact Ent.all _ | (apply Ent.take; focus (first | ((repeat (first | with_reducible exact Sel.head | apply Sel.tail)); done) | ((repeat (first | exact Sel.head | apply Sel.tail)); done))) | apply Ent.takeNil | apply Ent.takeEmp)); (first | done | fail)) (lst_close (size := 1) (n := cells.length) (c := cl) (rest := rest) (by simp [ints]) hcc hcm (by simpa [ints] using hcr)) (Ent.refl _)) ?_
    exact bodyA.ret (ResA.one rfl rfl) zE ⟨rfl, .refl _, BeG.of hkp⟩
  by_cases h4 : xop = 4
  · subst h4
    clear hx
    obtain ⟨y, z, s, rfl⟩ : ∃ y z s, stack = y :: z :: s := by
      cases stack with
      | nil => simp [popA] at hpop
      | cons y s => cases s with
        | nil => simp [popA] at hpop
        | cons z s => exact ⟨y, z, s, rfl⟩
    have hsl1 : s.length ≤ 1000 := by simp only [List.length_cons] at hsl; omega
    have hsl2 : (z :: s).length ≤ 1000 := by simp only [List.length_cons] at hsl ⊢; omega
    rw [show doIn inp keep ⟨4, xa, xb, xn⟩ ⟨⟨next + 1, y :: z :: s, rd, outn, 0, cells⟩, kept, out, wrong⟩ = ⟨⟨next + 1, wrap_ (z + y) :: s, rd, outn, 0, cells⟩, kept, out, wrong⟩ from rfl]
    refine XA.condF rfl rfl ?_
    refine zS ?_; refine zR ?_; refine zO rfl (Rd.eql rfl rfl) ?_; refine zO rfl Rd.asg ?_; refine zN ?_; refine zT ?_
    refine XA.condF rfl rfl ?_
    refine zS ?_; refine zR ?_; refine zO rfl (Rd.eql rfl rfl) ?_; refine zO rfl Rd.asg ?_; refine zN ?_; refine zT ?_
    refine XA.condF rfl rfl ?_
    refine zS ?_; refine zS ?_; refine zR ?_; refine zO rfl (Rd.eql rfl rfl) ?_; refine zO rfl Rd.asg ?_; refine zN ?_; refine zT ?_
    refine XA.condT rfl rfl ?_
    refine XA.skip ?_
    refine zT ?_
    refine XA.condT rfl rfl ?_
    refine zS ?_; refine zR ?_; refine zO rfl Rd.mv ?_
    refine XOA.wr0 rfl (WrA.cE (pop_b σ g _ _ _ _ _ _ _ _ _ _ _ _ _ _ _ _ _ (z :: s) _ hsl2) rfl) ?_
    rintro _ _ _ ⟨_, ⟨rfl, rfl, rfl⟩, rfl⟩
    refine XOA.cl ?_
    refine zO rfl Rd.asg ?_; refine zN ?_; refine zT ?_; refine zS ?_; refine zR ?_; refine zO rfl Rd.mv ?_
    refine XOA.wr0 rfl (WrA.cE (pop_b σ g _ _ _ _ _ _ _ _ _ _ _ _ _ _ _ _ _ (s) _ hsl1) rfl) ?_
    rintro _ _ _ ⟨_, ⟨rfl, rfl, rfl⟩, rfl⟩
    refine XOA.cl ?_
    refine zO rfl Rd.asg ?_; refine zN ?_; refine zT ?_; refine zS ?_; refine zR ?_; refine zO rfl (Rd.fA rfl) ?_; refine zO rfl (Rd.ldC rfl (tyrow rfl) rfl) ?_; refine zN ?_; refine zT ?_
    refine XA.block ?_
    refine zS ?_; refine zR ?_; refine zO rfl (Rd.eql rfl rfl) ?_; refine zO rfl Rd.asg ?_; refine zN ?_; refine zT ?_
    refine XA.condT rfl rfl ?_
    refine zR ?_; refine zO rfl Rd.mv ?_; refine zO rfl Rd.mv ?_; refine zO rfl Rd.mv ?_
    refine zO rfl (by first | exact Rd.adi rfl rfl | exact Rd.add rfl rfl) ?_
    refine XOA.wr0 rfl (WrA.cE (push_b σ g _ _ _ _ _ _ _ _ _ _ _ _ _ _ _ _ _ (_) _ hsl1) rfl) ?_
    rintro _ _ _ ⟨_, ⟨p1, c1, rfl, rfl, rfl⟩, rfl⟩
    refine XOA.cl ?_
    refine zN ?_
    refine DA.inb_normal ?_
    refine DA.inb_normal ?_
    refine zT ?_; refine zS ?_; refine zR ?_; refine zO rfl Rd.asg ?_; refine zN ?_; refine zT ?_
    refine XA.ret ?_
    exact bodyA.ret (ResA.one rfl rfl) zE ⟨rfl, .refl _, BeG.of hkp⟩
  by_cases h5 : xop = 5
  · subst h5
    clear hx
    obtain ⟨y, z, s, rfl⟩ : ∃ y z s, stack = y :: z :: s := by
      cases stack with
      | nil => simp [popA] at hpop
      | cons y s => cases s with
        | nil => simp [popA] at hpop
        | cons z s => exact ⟨y, z, s, rfl⟩
    have hsl1 : s.length ≤ 1000 := by simp only [List.length_cons] at hsl; omega
    have hsl2 : (z :: s).length ≤ 1000 := by simp only [List.length_cons] at hsl ⊢; omega
    rw [show doIn inp keep ⟨5, xa, xb, xn⟩ ⟨⟨next + 1, y :: z :: s, rd, outn, 0, cells⟩, kept, out, wrong⟩ = ⟨⟨next + 1, wrap_ (z - y) :: s, rd, outn, 0, cells⟩, kept, out, wrong⟩ from rfl]
    refine XA.condF rfl rfl ?_
    refine zS ?_; refine zR ?_; refine zO rfl (Rd.eql rfl rfl) ?_; refine zO rfl Rd.asg ?_; refine zN ?_; refine zT ?_
    refine XA.condF rfl rfl ?_
    refine zS ?_; refine zR ?_; refine zO rfl (Rd.eql rfl rfl) ?_; refine zO rfl Rd.asg ?_; refine zN ?_; refine zT ?_
    refine XA.condF rfl rfl ?_
    refine zS ?_; refine zS ?_; refine zR ?_; refine zO rfl (Rd.eql rfl rfl) ?_; refine zO rfl Rd.asg ?_; refine zN ?_; refine zT ?_
    refine XA.condF rfl rfl ?_
    refine zS ?_; refine zR ?_; refine zO rfl (Rd.eql rfl rfl) ?_; refine zO rfl Rd.asg ?_; refine zN ?_; refine zT ?_
    refine XA.condT rfl rfl ?_
    refine XA.skip ?_
    refine zT ?_
    refine XA.condT rfl rfl ?_
    refine zS ?_; refine zR ?_; refine zO rfl Rd.mv ?_
    refine XOA.wr0 rfl (WrA.cE (pop_b σ g _ _ _ _ _ _ _ _ _ _ _ _ _ _ _ _ _ (z :: s) _ hsl2) rfl) ?_
    rintro _ _ _ ⟨_, ⟨rfl, rfl, rfl⟩, rfl⟩
    refine XOA.cl ?_
    refine zO rfl Rd.asg ?_; refine zN ?_; refine zT ?_; refine zS ?_; refine zR ?_; refine zO rfl Rd.mv ?_
    refine XOA.wr0 rfl (WrA.cE (pop_b σ g _ _ _ _ _ _ _ _ _ _ _ _ _ _ _ _ _ (s) _ hsl1) rfl) ?_
    rintro _ _ _ ⟨_, ⟨rfl, rfl, rfl⟩, rfl⟩
    refine XOA.cl ?_
    refine zO rfl Rd.asg ?_; refine zN ?_; refine zT ?_; refine zS ?_; refine zR ?_; refine zO rfl (Rd.fA rfl) ?_; refine zO rfl (Rd.ldC rfl (tyrow rfl) rfl) ?_; refine zN ?_; refine zT ?_
    refine XA.block ?_
    refine zS ?_; refine zR ?_; refine zO rfl (Rd.eql rfl rfl) ?_; refine zO rfl Rd.asg ?_; refine zN ?_; refine zT ?_
    refine XA.condF rfl rfl ?_
    refine zS ?_; refine zR ?_; refine zO rfl (Rd.eql rfl rfl) ?_; refine zO rfl Rd.asg ?_; refine zN ?_; refine zT ?_
    refine XA.condT rfl rfl ?_
    refine zR ?_; refine zO rfl Rd.mv ?_; refine zO rfl Rd.mv ?_; refine zO rfl Rd.mv ?_
    refine zO rfl (by first | exact Rd.sbi rfl rfl | exact Rd.sub rfl rfl) ?_
    refine XOA.wr0 rfl (WrA.cE (push_b σ g _ _ _ _ _ _ _ _ _ _ _ _ _ _ _ _ _ (_) _ hsl1) rfl) ?_
    rintro _ _ _ ⟨_, ⟨p1, c1, rfl, rfl, rfl⟩, rfl⟩
    refine XOA.cl ?_
    refine zN ?_
    refine DA.inb_normal ?_
    refine DA.inb_normal ?_
    refine zT ?_; refine zS ?_; refine zR ?_; refine zO rfl Rd.asg ?_; refine zN ?_; refine zT ?_
    refine XA.ret ?_
    exact bodyA.ret (ResA.one rfl rfl) zE ⟨rfl, .refl _, BeG.of hkp⟩
  by_cases h6 : xop = 6
  · subst h6
    clear hx
    obtain ⟨y, z, s, rfl⟩ : ∃ y z s, stack = y :: z :: s := by
      cases stack with
      | nil => simp [popA] at hpop
      | cons y s => cases s with
        | nil => simp [popA] at hpop
        | cons z s => exact ⟨y, z, s, rfl⟩
    have hsl1 : s.length ≤ 1000 := by simp only [List.length_cons] at hsl; omega
    have hsl2 : (z :: s).length ≤ 1000 := by simp only [List.length_cons] at hsl ⊢; omega
    rw [show doIn inp keep ⟨6, xa, xb, xn⟩ ⟨⟨next + 1, y :: z :: s, rd, outn, 0, cells⟩, kept, out, wrong⟩ = ⟨⟨next + 1, wrap_ (z * y) :: s, rd, outn, 0, cells⟩, kept, out, wrong⟩ from rfl]
    refine XA.condF rfl rfl ?_
    refine zS ?_; refine zR ?_; refine zO rfl (Rd.eql rfl rfl) ?_; refine zO rfl Rd.asg ?_; refine zN ?_; refine zT ?_
    refine XA.condF rfl rfl ?_
    refine zS ?_; refine zR ?_; refine zO rfl (Rd.eql rfl rfl) ?_; refine zO rfl Rd.asg ?_; refine zN ?_; refine zT ?_
    refine XA.condF rfl rfl ?_
    refine zS ?_; refine zS ?_; refine zR ?_; refine zO rfl (Rd.eql rfl rfl) ?_; refine zO rfl Rd.asg ?_; refine zN ?_; refine zT ?_
    refine XA.condF rfl rfl ?_
    refine zS ?_; refine zR ?_; refine zO rfl (Rd.eql rfl rfl) ?_; refine zO rfl Rd.asg ?_; refine zN ?_; refine zT ?_
    refine XA.condF rfl rfl ?_
    refine zS ?_; refine zR ?_; refine zO rfl (Rd.eql rfl rfl) ?_; refine zO rfl Rd.asg ?_; refine zN ?_; refine zT ?_
    refine XA.condT rfl rfl ?_
    refine XA.skip ?_
    refine zT ?_
    refine XA.condT rfl rfl ?_
    refine zS ?_; refine zR ?_; refine zO rfl Rd.mv ?_
    refine XOA.wr0 rfl (WrA.cE (pop_b σ g _ _ _ _ _ _ _ _ _ _ _ _ _ _ _ _ _ (z :: s) _ hsl2) rfl) ?_
    rintro _ _ _ ⟨_, ⟨rfl, rfl, rfl⟩, rfl⟩
    refine XOA.cl ?_
    refine zO rfl Rd.asg ?_; refine zN ?_; refine zT ?_; refine zS ?_; refine zR ?_; refine zO rfl Rd.mv ?_
    refine XOA.wr0 rfl (WrA.cE (pop_b σ g _ _ _ _ _ _ _ _ _ _ _ _ _ _ _ _ _ (s) _ hsl1) rfl) ?_
    rintro _ _ _ ⟨_, ⟨rfl, rfl, rfl⟩, rfl⟩
    refine XOA.cl ?_
    refine zO rfl Rd.asg ?_; refine zN ?_; refine zT ?_; refine zS ?_; refine zR ?_; refine zO rfl (Rd.fA rfl) ?_; refine zO rfl (Rd.ldC rfl (tyrow rfl) rfl) ?_; refine zN ?_; refine zT ?_
    refine XA.block ?_
    refine zS ?_; refine zR ?_; refine zO rfl (Rd.eql rfl rfl) ?_; refine zO rfl Rd.asg ?_; refine zN ?_; refine zT ?_
    refine XA.condF rfl rfl ?_
    refine zS ?_; refine zR ?_; refine zO rfl (Rd.eql rfl rfl) ?_; refine zO rfl Rd.asg ?_; refine zN ?_; refine zT ?_
    refine XA.condF rfl rfl ?_
    refine zS ?_; refine zR ?_; refine zO rfl (Rd.eql rfl rfl) ?_; refine zO rfl Rd.asg ?_; refine zN ?_; refine zT ?_
    refine XA.condT rfl rfl ?_
    refine zR ?_; refine zO rfl Rd.mv ?_; refine zO rfl Rd.mv ?_; refine zO rfl Rd.mv ?_
    refine zO rfl (by first | exact Rd.mli rfl rfl | exact Rd.mul rfl rfl) ?_
    refine XOA.wr0 rfl (WrA.cE (push_b σ g _ _ _ _ _ _ _ _ _ _ _ _ _ _ _ _ _ (_) _ hsl1) rfl) ?_
    rintro _ _ _ ⟨_, ⟨p1, c1, rfl, rfl, rfl⟩, rfl⟩
    refine XOA.cl ?_
    refine zN ?_
    refine DA.inb_normal ?_
    refine DA.inb_normal ?_
    refine zT ?_; refine zS ?_; refine zR ?_; refine zO rfl Rd.asg ?_; refine zN ?_; refine zT ?_
    refine XA.ret ?_
    exact bodyA.ret (ResA.one rfl rfl) zE ⟨rfl, .refl _, BeG.of hkp⟩
  by_cases h7 : xop = 7
  · subst h7
    clear hx
    obtain ⟨y, z, s, rfl⟩ : ∃ y z s, stack = y :: z :: s := by
      cases stack with
      | nil => simp [popA] at hpop
      | cons y s => cases s with
        | nil => simp [popA] at hpop
        | cons z s => exact ⟨y, z, s, rfl⟩
    have hsl1 : s.length ≤ 1000 := by simp only [List.length_cons] at hsl; omega
    have hsl2 : (z :: s).length ≤ 1000 := by simp only [List.length_cons] at hsl ⊢; omega
    rw [show doIn inp keep ⟨7, xa, xb, xn⟩ ⟨⟨next + 1, y :: z :: s, rd, outn, 0, cells⟩, kept, out, wrong⟩ = ⟨⟨next + 1, (if decide (z < y) = true then 1 else 0) :: s, rd, outn, 0, cells⟩, kept, out, wrong⟩ from by simp [doIn, binV]]
    refine XA.condF rfl rfl ?_
    refine zS ?_; refine zR ?_; refine zO rfl (Rd.eql rfl rfl) ?_; refine zO rfl Rd.asg ?_; refine zN ?_; refine zT ?_
    refine XA.condF rfl rfl ?_
    refine zS ?_; refine zR ?_; refine zO rfl (Rd.eql rfl rfl) ?_; refine zO rfl Rd.asg ?_; refine zN ?_; refine zT ?_
    refine XA.condF rfl rfl ?_
    refine zS ?_; refine zS ?_; refine zR ?_; refine zO rfl (Rd.eql rfl rfl) ?_; refine zO rfl Rd.asg ?_; refine zN ?_; refine zT ?_
    refine XA.condF rfl rfl ?_
    refine zS ?_; refine zR ?_; refine zO rfl (Rd.eql rfl rfl) ?_; refine zO rfl Rd.asg ?_; refine zN ?_; refine zT ?_
    refine XA.condF rfl rfl ?_
    refine zS ?_; refine zR ?_; refine zO rfl (Rd.eql rfl rfl) ?_; refine zO rfl Rd.asg ?_; refine zN ?_; refine zT ?_
    refine XA.condF rfl rfl ?_
    refine zS ?_; refine zR ?_; refine zO rfl (Rd.eql rfl rfl) ?_; refine zO rfl Rd.asg ?_; refine zN ?_; refine zT ?_
    refine XA.condT rfl rfl ?_
    refine XA.skip ?_
    refine zT ?_
    refine XA.condT rfl rfl ?_
    refine zS ?_; refine zR ?_; refine zO rfl Rd.mv ?_
    refine XOA.wr0 rfl (WrA.cE (pop_b σ g _ _ _ _ _ _ _ _ _ _ _ _ _ _ _ _ _ (z :: s) _ hsl2) rfl) ?_
    rintro _ _ _ ⟨_, ⟨rfl, rfl, rfl⟩, rfl⟩
    refine XOA.cl ?_
    refine zO rfl Rd.asg ?_; refine zN ?_; refine zT ?_; refine zS ?_; refine zR ?_; refine zO rfl Rd.mv ?_
    refine XOA.wr0 rfl (WrA.cE (pop_b σ g _ _ _ _ _ _ _ _ _ _ _ _ _ _ _ _ _ (s) _ hsl1) rfl) ?_
    rintro _ _ _ ⟨_, ⟨rfl, rfl, rfl⟩, rfl⟩
    refine XOA.cl ?_
    refine zO rfl Rd.asg ?_; refine zN ?_; refine zT ?_; refine zS ?_; refine zR ?_; refine zO rfl (Rd.fA rfl) ?_; refine zO rfl (Rd.ldC rfl (tyrow rfl) rfl) ?_; refine zN ?_; refine zT ?_
    refine XA.block ?_
    refine zS ?_; refine zR ?_; refine zO rfl (Rd.eql rfl rfl) ?_; refine zO rfl Rd.asg ?_; refine zN ?_; refine zT ?_
    refine XA.condF rfl rfl ?_
    refine zS ?_; refine zR ?_; refine zO rfl (Rd.eql rfl rfl) ?_; refine zO rfl Rd.asg ?_; refine zN ?_; refine zT ?_
    refine XA.condF rfl rfl ?_
    refine zS ?_; refine zR ?_; refine zO rfl (Rd.eql rfl rfl) ?_; refine zO rfl Rd.asg ?_; refine zN ?_; refine zT ?_
    refine XA.condF rfl rfl ?_
    refine zS ?_; refine zR ?_; refine zO rfl (Rd.eql rfl rfl) ?_; refine zO rfl Rd.asg ?_; refine zN ?_; refine zT ?_
    refine XA.condT rfl rfl ?_
    refine zR ?_; refine zO rfl Rd.mv ?_; refine zO rfl Rd.mv ?_; refine zO rfl Rd.mv ?_; refine zO rfl (Rd.lss rfl rfl) ?_
    refine XOA.wr0 rfl (WrA.cE (bit_b σ _) rfl) ?_
    rintro _ _ _ ⟨_, ⟨rfl, rfl, rfl⟩, rfl⟩
    refine XOA.cl ?_
    refine XOA.wr0 rfl (WrA.cE (push_b σ g _ _ _ _ _ _ _ _ _ _ _ _ _ _ _ _ _ (_) _ hsl1) rfl) ?_
    rintro _ _ _ ⟨_, ⟨p1, c1, rfl, rfl, rfl⟩, rfl⟩
    refine XOA.cl ?_
    refine zN ?_
    refine DA.inb_normal ?_
    refine DA.inb_normal ?_
    refine zT ?_; refine zS ?_; refine zR ?_; refine zO rfl Rd.asg ?_; refine zN ?_; refine zT ?_
    refine XA.ret ?_
    exact bodyA.ret (ResA.one rfl rfl) zE ⟨rfl, .refl _, BeG.of hkp⟩
  by_cases h8 : xop = 8
  · subst h8
    clear hx
    obtain ⟨y, z, s, rfl⟩ : ∃ y z s, stack = y :: z :: s := by
      cases stack with
      | nil => simp [popA] at hpop
      | cons y s => cases s with
        | nil => simp [popA] at hpop
        | cons z s => exact ⟨y, z, s, rfl⟩
    have hsl1 : s.length ≤ 1000 := by simp only [List.length_cons] at hsl; omega
    have hsl2 : (z :: s).length ≤ 1000 := by simp only [List.length_cons] at hsl ⊢; omega
    rw [show doIn inp keep ⟨8, xa, xb, xn⟩ ⟨⟨next + 1, y :: z :: s, rd, outn, 0, cells⟩, kept, out, wrong⟩ = ⟨⟨next + 1, (if decide (z = y) = true then 1 else 0) :: s, rd, outn, 0, cells⟩, kept, out, wrong⟩ from by simp [doIn, binV]]
    refine XA.condF rfl rfl ?_
    refine zS ?_; refine zR ?_; refine zO rfl (Rd.eql rfl rfl) ?_; refine zO rfl Rd.asg ?_; refine zN ?_; refine zT ?_
    refine XA.condF rfl rfl ?_
    refine zS ?_; refine zR ?_; refine zO rfl (Rd.eql rfl rfl) ?_; refine zO rfl Rd.asg ?_; refine zN ?_; refine zT ?_
    refine XA.condF rfl rfl ?_
    refine zS ?_; refine zS ?_; refine zR ?_; refine zO rfl (Rd.eql rfl rfl) ?_; refine zO rfl Rd.asg ?_; refine zN ?_; refine zT ?_
    refine XA.condF rfl rfl ?_
    refine zS ?_; refine zR ?_; refine zO rfl (Rd.eql rfl rfl) ?_; refine zO rfl Rd.asg ?_; refine zN ?_; refine zT ?_
    refine XA.condF rfl rfl ?_
    refine zS ?_; refine zR ?_; refine zO rfl (Rd.eql rfl rfl) ?_; refine zO rfl Rd.asg ?_; refine zN ?_; refine zT ?_
    refine XA.condF rfl rfl ?_
    refine zS ?_; refine zR ?_; refine zO rfl (Rd.eql rfl rfl) ?_; refine zO rfl Rd.asg ?_; refine zN ?_; refine zT ?_
    refine XA.condF rfl rfl ?_
    refine zR ?_; refine zO rfl (Rd.eql rfl rfl) ?_; refine zO rfl Rd.asg ?_; refine zN ?_; refine zT ?_
    refine XA.condT rfl rfl ?_
    refine zS ?_; refine zR ?_; refine zO rfl Rd.mv ?_
    refine XOA.wr0 rfl (WrA.cE (pop_b σ g _ _ _ _ _ _ _ _ _ _ _ _ _ _ _ _ _ (z :: s) _ hsl2) rfl) ?_
    rintro _ _ _ ⟨_, ⟨rfl, rfl, rfl⟩, rfl⟩
    refine XOA.cl ?_
    refine zO rfl Rd.asg ?_; refine zN ?_; refine zT ?_; refine zS ?_; refine zR ?_; refine zO rfl Rd.mv ?_
    refine XOA.wr0 rfl (WrA.cE (pop_b σ g _ _ _ _ _ _ _ _ _ _ _ _ _ _ _ _ _ (s) _ hsl1) rfl) ?_
    rintro _ _ _ ⟨_, ⟨rfl, rfl, rfl⟩, rfl⟩
    refine XOA.cl ?_
    refine zO rfl Rd.asg ?_; refine zN ?_; refine zT ?_; refine zS ?_; refine zR ?_; refine zO rfl (Rd.fA rfl) ?_; refine zO rfl (Rd.ldC rfl (tyrow rfl) rfl) ?_; refine zN ?_; refine zT ?_
    refine XA.block ?_
    refine zS ?_; refine zR ?_; refine zO rfl (Rd.eql rfl rfl) ?_; refine zO rfl Rd.asg ?_; refine zN ?_; refine zT ?_
    refine XA.condF rfl rfl ?_
    refine zS ?_; refine zR ?_; refine zO rfl (Rd.eql rfl rfl) ?_; refine zO rfl Rd.asg ?_; refine zN ?_; refine zT ?_
    refine XA.condF rfl rfl ?_
    refine zS ?_; refine zR ?_; refine zO rfl (Rd.eql rfl rfl) ?_; refine zO rfl Rd.asg ?_; refine zN ?_; refine zT ?_
    refine XA.condF rfl rfl ?_
    refine zS ?_; refine zR ?_; refine zO rfl (Rd.eql rfl rfl) ?_; refine zO rfl Rd.asg ?_; refine zN ?_; refine zT ?_
    refine XA.condF rfl rfl ?_
    refine zR ?_; refine zO rfl Rd.mv ?_; refine zO rfl Rd.mv ?_; refine zO rfl Rd.mv ?_; refine zO rfl (Rd.eql rfl rfl) ?_
    refine XOA.wr0 rfl (WrA.cE (bit_b σ _) rfl) ?_
    rintro _ _ _ ⟨_, ⟨rfl, rfl, rfl⟩, rfl⟩
    refine XOA.cl ?_
    refine XOA.wr0 rfl (WrA.cE (push_b σ g _ _ _ _ _ _ _ _ _ _ _ _ _ _ _ _ _ (_) _ hsl1) rfl) ?_
    rintro _ _ _ ⟨_, ⟨p1, c1, rfl, rfl, rfl⟩, rfl⟩
    refine XOA.cl ?_
    refine zN ?_
    refine DA.inb_normal ?_
    refine DA.inb_normal ?_
    refine zT ?_; refine zS ?_; refine zR ?_; refine zO rfl Rd.asg ?_; refine zN ?_; refine zT ?_
    refine XA.ret ?_
    exact bodyA.ret (ResA.one rfl rfl) zE ⟨rfl, .refl _, BeG.of hkp⟩
  by_cases h9 : xop = 9
  · subst h9
    clear hx
    obtain ⟨n, s, rfl⟩ : ∃ n s, stack = n :: s := by
      cases stack with
      | nil => simp [popA] at hpop
      | cons n s => exact ⟨n, s, rfl⟩
    have hsl1 : s.length ≤ 1000 := by simp only [List.length_cons] at hsl; omega
    obtain ⟨ha0, ha1⟩ := hcell (by decide)
    obtain ⟨a, rfl⟩ : ∃ a : Nat, xa = a := ⟨xa.toNat, by omega⟩
    have ha2 : a < cells.length := by omega
    rw [show doIn inp keep ⟨9, (a : Int), xb, xn⟩ ⟨⟨next + 1, n :: s, rd, outn, 0, cells⟩, kept, out, wrong⟩ = ⟨⟨next + 1, s, rd, outn, 0, cells.set a n⟩, kept, out, wrong⟩ from rfl]
    have hcn : (cells.set a n).length = cells.length := by simp
    first | refine XA.opn (R := lst 2 1 (.slice pl cells.length cl) _ _) (by ((repeat (first | with_reducible exact Sel.head | apply Sel.tail)); (first | done | fail))) (lst_openW (by omega)) ?_ | refine XOA.opn (R := lst 2 1 (.slice pl cells.length cl) _ _) (by ((repeat (first | with_reducible exact Sel.head | apply Sel.tail)); (first | done | fail))) (lst_openW (by omega)) ?_ | refine DA.opn (R := lst 2 1 (.slice pl cells.length cl) _ _) (by ((repeat (first | with_reducible exact Sel.head | apply Sel.tail)); (first | done | fail))) (lst_openW (by omega)) ?_
    rintro ⟨g6, rest⟩ ⟨rfl, hcc, hcm, hcx, hcr⟩
    first | refine XA.cl ?_ | refine XOA.cl ?_ | refine DA.cl ?_
    have hspl : splice (ints cells ++ rest) a [i64 n] = ints (cells.set a n) ++ rest := cells_write n ha2
    have hfit : a + ty2.size ≤ (ints cells ++ rest).length := by rw [List.length_append, show (ints cells).length = cells.length by simp [ints]]; show a + 1 ≤ _; omega
    refine XA.condF rfl rfl ?_
    refine zS ?_; refine zR ?_; refine zO rfl (Rd.eql rfl rfl) ?_; refine zO rfl Rd.asg ?_; refine zN ?_; refine zT ?_
    refine XA.condF rfl rfl ?_
    refine zS ?_; refine zR ?_; refine zO rfl (Rd.eql rfl rfl) ?_; refine zO rfl Rd.asg ?_; refine zN ?_; refine zT ?_
    refine XA.condF rfl rfl ?_
    refine zS ?_; refine zS ?_; refine zR ?_; refine zO rfl (Rd.eql rfl rfl) ?_; refine zO rfl Rd.asg ?_; refine zN ?_; refine zT ?_
    refine XA.condF rfl rfl ?_
    refine zS ?_; refine zR ?_; refine zO rfl (Rd.eql rfl rfl) ?_; refine zO rfl Rd.asg ?_; refine zN ?_; refine zT ?_
    refine XA.condF rfl rfl ?_
    refine zS ?_; refine zR ?_; refine zO rfl (Rd.eql rfl rfl) ?_; refine zO rfl Rd.asg ?_; refine zN ?_; refine zT ?_
    refine XA.condF rfl rfl ?_
    refine zS ?_; refine zR ?_; refine zO rfl (Rd.eql rfl rfl) ?_; refine zO rfl Rd.asg ?_; refine zN ?_; refine zT ?_
    refine XA.condF rfl rfl ?_
    refine zR ?_; refine zO rfl (Rd.eql rfl rfl) ?_; refine zO rfl Rd.asg ?_; refine zN ?_; refine zT ?_
    refine XA.condF rfl rfl ?_
    refine zS ?_; refine zR ?_; refine zO rfl (Rd.eql rfl rfl) ?_; refine zO rfl Rd.asg ?_; refine zN ?_; refine zT ?_
    refine XA.condT rfl rfl ?_
    refine XA.join [(137, 146)] (fun _ : Unit => []) (fun _ σ' Γ' => σ = σ' ∧ Γ' = [blk g [.slice (some ⟨gc, oc', none⟩) code.length cc, .slice pi inp.length ci, i64 ((next : Int) + 1), .slice sp s.length sc, i64 rd, i64 outn, i64 0, .slice (some ⟨g6, 0, none⟩) cells.length cl, k0, k1, k2, k3, k4, k5, .slice op out.length oc, .bool wrong] 121, lst 2 1 (.slice sp s.length sc) s.length (ints s.reverse), blk g6 (ints (cells.set a n) ++ rest) 2, lst 2 1 (.slice op out.length oc) out.length (ints out)]) ?_ ?_
    · skip
      refine XA.drawQ (by kernel_rfl) _ _ [9, 10] 11 #[false, false, false, false, false, false, false, false, false, false, false] rfl rfl (by kernel_rfl) (PH.sub.refl _) (Ent.sel (R := blk g5 _ _) (by ((repeat (first | with_reducible exact Sel.head | apply Sel.tail)); (first | done | fail))) (Ent.nil _)) ?_
      refine XQA.pu (i := 0) (listed' := #[true, false, false, false, false, false, false, false, false, false, false]) rfl rfl (by kernel_rfl) rfl Gd.free Rd.mv ?_
      refine XQA.pu (i := 1) (listed' := #[true, true, false, false, false, false, false, false, false, false, false]) rfl rfl (by kernel_rfl) rfl Gd.free (Rd.nilCheck rfl) ?_
      refine XQA.pu (i := 2) (listed' := #[true, true, true, false, false, false, false, false, false, false, false]) rfl rfl (by kernel_rfl) rfl Gd.free (Rd.fA rfl) ?_
      refine XQA.pu (i := 3) (listed' := #[true, true, true, true, false, false, false, false, false, false, false]) rfl rfl (by kernel_rfl) rfl Gd.free (Rd.fA rfl) ?_
      refine XQA.pu (i := 5) (listed' := #[true, true, true, true, false, true, false, false, false, false, false]) rfl rfl (by kernel_rfl) rfl Gd.free (Rd.fA rfl) ?_
      refine XQA.rd (i := 6) (listed' := #[true, true, true, true, false, true, true, false, false, false, false]) rfl rfl (by kernel_rfl) rfl Gd.free (Rd.ldC rfl (tyrow rfl) rfl) ?_
      refine XQA.pu (i := 7) (listed' := #[true, true, true, true, false, true, true, true, false, false, false]) rfl rfl (by kernel_rfl) rfl Gd.free Rd.mv ?_
      refine XQA.w2 (i := 4) (j := 8) (by kernel_rfl) ?_ ?_
      · refine XQA1.wr0 (listed' := #[true, true, true, true, true, true, true, true, false, false, false]) rfl rfl Gd.free (by kernel_rfl) rfl (Rd.toW (Rd.ldC rfl (tyrow rfl) rfl)) ?_
        rintro _ _ _ ⟨rfl, rfl, rfl⟩
        refine ⟨⟨(by first | exact PH.sub.refl _ | assumption | (refine PH.sub.trans ?_ (by assumption); assumption)), zE⟩, XQA.re (by conv => lhs; dsimp only [List.cons_append, List.nil_append]) ?_⟩
        refine XQA.w1 (i := 8) (by kernel_rfl) ?_
        refine XQA1.wr0 (listed' := #[true, true, true, true, true, true, true, true, true, false, false]) rfl rfl Gd.free (by kernel_rfl) rfl (WrA.cE (pop_b σ g _ _ _ _ _ _ _ _ _ _ _ _ _ _ _ _ _ s _ hsl1) rfl) ?_
        rintro _ _ _ ⟨_, ⟨rfl, rfl, rfl⟩, rfl⟩
        refine ⟨⟨(by first | exact PH.sub.refl _ | assumption | (refine PH.sub.trans ?_ (by assumption); assumption)), zE⟩, XQA.re (by conv => lhs; dsimp only [List.cons_append, List.nil_append]) ?_⟩
        refine XQA.pu (i := 9) (listed' := #[true, true, true, true, true, true, true, true, true, true, false]) rfl rfl (by kernel_rfl) rfl Gd.free (Rd.ixS rfl rfl) ?_
        refine XQA.w1 (i := 10) (by kernel_rfl) ?_
        refine XQA1.wrZ0 (listed' := #[true, true, true, true, true, true, true, true, true, true, true]) rfl rfl Gd.free (by kernel_rfl) rfl (by kernel_rfl) (WrA.st (tyrow rfl) rfl) ?_
        rintro _ _ _ ⟨rfl, rfl, rfl⟩
        refine XQA.re (by conv => lhs; dsimp only [List.cons_append, List.nil_append]) ?_
        refine XQA.nil rfl ?_
        refine DA.thn_normal ⟨(by (repeat (first | exact Keep.refl _ _ | refine Keep.upd ?_ rfl | refine Keep.updO ?_ rfl | refine Keep.updN ?_)); (first | done | fail)), (), _, (by (repeat (first | exact trivial | refine ⟨rfl, ?_⟩ | refine ⟨Eq.trans rfl (congrArg Value.bool hmat.symm), ?_⟩)); (first | done | fail)), ?_, rfl, rfl⟩; exact zE
      · refine XQA1.wr0 (listed' := #[true, true, true, true, false, true, true, true, true, false, false]) rfl rfl Gd.free (by kernel_rfl) rfl (WrA.cE (pop_b σ g _ _ _ _ _ _ _ _ _ _ _ _ _ _ _ _ _ s _ hsl1) rfl) ?_
        rintro _ _ _ ⟨_, ⟨rfl, rfl, rfl⟩, rfl⟩
        refine ⟨⟨(by first | exact PH.sub.refl _ | assumption | (refine PH.sub.trans ?_ (by assumption); assumption)), zE⟩, XQA.re (by conv => lhs; dsimp only [List.cons_append, List.nil_append]) ?_⟩
        refine XQA.w1 (i := 4) (by kernel_rfl) ?_
        refine XQA1.wr0 (listed' := #[true, true, true, true, true, true, true, true, true, false, false]) rfl rfl Gd.free (by kernel_rfl) rfl (Rd.toW (Rd.ldC rfl (tyrow rfl) rfl)) ?_
        rintro _ _ _ ⟨rfl, rfl, rfl⟩
        refine ⟨⟨(by first | exact PH.sub.refl _ | assumption | (refine PH.sub.trans ?_ (by assumption); assumption)), zE⟩, XQA.re (by conv => lhs; dsimp only [List.cons_append, List.nil_append]) ?_⟩
        refine XQA.pu (i := 9) (listed' := #[true, true, true, true, true, true, true, true, true, true, false]) rfl rfl (by kernel_rfl) rfl Gd.free (Rd.ixS rfl rfl) ?_
        refine XQA.w1 (i := 10) (by kernel_rfl) ?_
        refine XQA1.wrZ0 (listed' := #[true, true, true, true, true, true, true, true, true, true, true]) rfl rfl Gd.free (by kernel_rfl) rfl (by kernel_rfl) (WrA.st (tyrow rfl) rfl) ?_
        rintro _ _ _ ⟨rfl, rfl, rfl⟩
        refine XQA.re (by conv => lhs; dsimp only [List.cons_append, List.nil_append]) ?_
        refine XQA.nil rfl ?_
        refine DA.thn_normal ⟨(by (repeat (first | exact Keep.refl _ _ | refine Keep.upd ?_ rfl | refine Keep.updO ?_ rfl | refine Keep.updN ?_)); (first | done | fail)), (), _, (by (repeat (first | exact trivial | refine ⟨rfl, ?_⟩ | refine ⟨Eq.trans rfl (congrArg Value.bool hmat.symm), ?_⟩)); (first | done | fail)), ?_, rfl, rfl⟩; exact zE
    rintro ⟨⟩ δ _ _ ⟨rfl, rfl⟩
    dsimp only [ovr, List.foldl]
    refine DA.inb_normal ?_
    refine zT ?_; refine zS ?_; refine zR ?_; refine zO rfl Rd.asg ?_; refine zN ?_; refine zT ?_
    refine XA.ret ?_
    refine DA.ent (Ent.foldC (Θ := [blk g6 (ints (cells.set a n) ++ rest) 2]) (by (repeat (first | exact Ent.all _ | (apply Ent.take; focus (first | ((repeat (first | with_reducible exact Sel.head | apply Sel.tail)); done) | ((repeat (first | exact Sel.head | apply Sel.tail)); done))) | apply Ent.takeNil | apply Ent.takeEmp)); (first | done | fail)) (lst_close (size := 1) (n := cells.length) (c := cl) (rest := rest) (by simp [ints]) hcc hcm (by simpa [ints] using hcr)) (Ent.refl _)) ?_
    rw [← hcn]
    exact bodyA.ret (ResA.one rfl rfl) zE ⟨rfl, .refl _, BeG.of hkp⟩
  by_cases h10 : xop = 10
  · subst h10
    clear hx
    obtain ⟨n, k, s, rfl⟩ : ∃ y z s, stack = y :: z :: s := by
      cases stack with
      | nil => simp [popA] at hpop
      | cons y s => cases s with
        | nil => simp [popA] at hpop
        | cons z s => exact ⟨y, z, s, rfl⟩
    have hsl1 : s.length ≤ 1000 := by simp only [List.length_cons] at hsl; omega
    have hsl2 : (k :: s).length ≤ 1000 := by simp only [List.length_cons] at hsl ⊢; omega
    obtain ⟨hb0, hb1, hb2⟩ := hcell2 (by decide)
    obtain ⟨a, rfl⟩ : ∃ a : Nat, xa = a := ⟨xa.toNat, by omega⟩
    by_cases hk0 : k < 0
    · rw [show doIn inp keep ⟨10, (a : Int), xb, xn⟩ ⟨⟨next + 1, n :: k :: s, rd, outn, 0, cells⟩, kept, out, wrong⟩ = ⟨⟨next + 1, s, rd, outn, 13, cells⟩, kept, out, wrong⟩ from by simp [doIn, hk0]]
      refine XA.condF rfl rfl ?_
      refine zS ?_; refine zR ?_; refine zO rfl (Rd.eql rfl rfl) ?_; refine zO rfl Rd.asg ?_; refine zN ?_; refine zT ?_
      refine XA.condF rfl rfl ?_
      refine zS ?_; refine zR ?_; refine zO rfl (Rd.eql rfl rfl) ?_; refine zO rfl Rd.asg ?_; refine zN ?_; refine zT ?_
      refine XA.condF rfl rfl ?_
      refine zS ?_; refine zS ?_; refine zR ?_; refine zO rfl (Rd.eql rfl rfl) ?_; refine zO rfl Rd.asg ?_; refine zN ?_; refine zT ?_
      refine XA.condF rfl rfl ?_
      refine zS ?_; refine zR ?_; refine zO rfl (Rd.eql rfl rfl) ?_; refine zO rfl Rd.asg ?_; refine zN ?_; refine zT ?_
      refine XA.condF rfl rfl ?_
      refine zS ?_; refine zR ?_; refine zO rfl (Rd.eql rfl rfl) ?_; refine zO rfl Rd.asg ?_; refine zN ?_; refine zT ?_
      refine XA.condF rfl rfl ?_
      refine zS ?_; refine zR ?_; refine zO rfl (Rd.eql rfl rfl) ?_; refine zO rfl Rd.asg ?_; refine zN ?_; refine zT ?_
      refine XA.condF rfl rfl ?_
      refine zR ?_; refine zO rfl (Rd.eql rfl rfl) ?_; refine zO rfl Rd.asg ?_; refine zN ?_; refine zT ?_
      refine XA.condF rfl rfl ?_
      refine zS ?_; refine zR ?_; refine zO rfl (Rd.eql rfl rfl) ?_; refine zO rfl Rd.asg ?_; refine zN ?_; refine zT ?_
      refine XA.condF rfl rfl ?_
      refine zS ?_; refine zR ?_; refine zO rfl (Rd.eql rfl rfl) ?_; refine zO rfl Rd.asg ?_; refine zN ?_; refine zT ?_
      refine XA.condT rfl rfl ?_
      refine zS ?_; refine zR ?_; refine zO rfl Rd.mv ?_
      refine XOA.wr0 rfl (WrA.cE (pop_b σ g _ _ _ _ _ _ _ _ _ _ _ _ _ _ _ _ _ (k :: s) _ hsl2) rfl) ?_
      rintro _ _ _ ⟨_, ⟨rfl, rfl, rfl⟩, rfl⟩
      refine XOA.cl ?_
      refine zO rfl Rd.asg ?_; refine zN ?_; refine zT ?_; refine zS ?_; refine zR ?_; refine zO rfl Rd.mv ?_
      refine XOA.wr0 rfl (WrA.cE (pop_b σ g _ _ _ _ _ _ _ _ _ _ _ _ _ _ _ _ _ (s) _ hsl1) rfl) ?_
      rintro _ _ _ ⟨_, ⟨rfl, rfl, rfl⟩, rfl⟩
      refine XOA.cl ?_
      refine zO rfl Rd.asg ?_; refine zN ?_; refine zT ?_; refine zS ?_; refine zR ?_; refine zO rfl Rd.mv ?_; refine zO rfl (Rd.lss rfl rfl) ?_; refine zO rfl Rd.mv ?_
      first | ((first | refine zW ?_ | refine zQ ?_); refine zO rfl Rd.mv ?_) | refine zU ?_ | refine zV ?_ | refine zZ ?_
      first | ((first | refine zW ?_ | refine zQ ?_); refine zO rfl (Rd.fA rfl) ?_) | refine zU ?_ | refine zV ?_ | refine zZ ?_
      first | ((first | refine zW ?_ | refine zQ ?_); refine zO rfl (Rd.ldC rfl (tyrow rfl) rfl) ?_) | refine zU ?_ | refine zV ?_ | refine zZ ?_
      first | ((first | refine zW ?_ | refine zQ ?_); refine zO rfl (Rd.geq rfl rfl) ?_) | refine zU ?_ | refine zV ?_ | refine zZ ?_
      refine zO rfl (by first | exact Rd.pT rfl | exact Rd.pF rfl | exact Rd.pP rfl) ?_
      refine zN ?_; refine zT ?_
      refine XA.condT rfl (by first | rfl | exact decide_eq_true (by omega)) ?_
      refine zR ?_; refine zO rfl Rd.mv ?_; refine zO rfl (Rd.nilCheck rfl) ?_; refine zO rfl (Rd.fA rfl) ?_; refine zO rfl (Rd.fA rfl) ?_
      refine XOA.wr0 rfl (WrA.st (tyrow rfl) rfl) ?_
      rintro _ _ _ ⟨rfl, rfl, rfl⟩
      refine zN ?_
      refine DA.inb_normal ?_
      refine zT ?_; refine zS ?_; refine zR ?_; refine zO rfl Rd.asg ?_; refine zN ?_; refine zT ?_
      refine XA.ret ?_
      exact bodyA.ret (ResA.one rfl rfl) zE ⟨rfl, .refl _, BeG.of hkp⟩
    by_cases hk2 : xb ≤ k
    · rw [show doIn inp keep ⟨10, (a : Int), xb, xn⟩ ⟨⟨next + 1, n :: k :: s, rd, outn, 0, cells⟩, kept, out, wrong⟩ = ⟨⟨next + 1, s, rd, outn, 13, cells⟩, kept, out, wrong⟩ from by simp [doIn, hk2]]
      refine XA.condF rfl rfl ?_
      refine zS ?_; refine zR ?_; refine zO rfl (Rd.eql rfl rfl) ?_; refine zO rfl Rd.asg ?_; refine zN ?_; refine zT ?_
      refine XA.condF rfl rfl ?_
      refine zS ?_; refine zR ?_; refine zO rfl (Rd.eql rfl rfl) ?_; refine zO rfl Rd.asg ?_; refine zN ?_; refine zT ?_
      refine XA.condF rfl rfl ?_
      refine zS ?_; refine zS ?_; refine zR ?_; refine zO rfl (Rd.eql rfl rfl) ?_; refine zO rfl Rd.asg ?_; refine zN ?_; refine zT ?_
      refine XA.condF rfl rfl ?_
      refine zS ?_; refine zR ?_; refine zO rfl (Rd.eql rfl rfl) ?_; refine zO rfl Rd.asg ?_; refine zN ?_; refine zT ?_
      refine XA.condF rfl rfl ?_
      refine zS ?_; refine zR ?_; refine zO rfl (Rd.eql rfl rfl) ?_; refine zO rfl Rd.asg ?_; refine zN ?_; refine zT ?_
      refine XA.condF rfl rfl ?_
      refine zS ?_; refine zR ?_; refine zO rfl (Rd.eql rfl rfl) ?_; refine zO rfl Rd.asg ?_; refine zN ?_; refine zT ?_
      refine XA.condF rfl rfl ?_
      refine zR ?_; refine zO rfl (Rd.eql rfl rfl) ?_; refine zO rfl Rd.asg ?_; refine zN ?_; refine zT ?_
      refine XA.condF rfl rfl ?_
      refine zS ?_; refine zR ?_; refine zO rfl (Rd.eql rfl rfl) ?_; refine zO rfl Rd.asg ?_; refine zN ?_; refine zT ?_
      refine XA.condF rfl rfl ?_
      refine zS ?_; refine zR ?_; refine zO rfl (Rd.eql rfl rfl) ?_; refine zO rfl Rd.asg ?_; refine zN ?_; refine zT ?_
      refine XA.condT rfl rfl ?_
      refine zS ?_; refine zR ?_; refine zO rfl Rd.mv ?_
      refine XOA.wr0 rfl (WrA.cE (pop_b σ g _ _ _ _ _ _ _ _ _ _ _ _ _ _ _ _ _ (k :: s) _ hsl2) rfl) ?_
      rintro _ _ _ ⟨_, ⟨rfl, rfl, rfl⟩, rfl⟩
      refine XOA.cl ?_
      refine zO rfl Rd.asg ?_; refine zN ?_; refine zT ?_; refine zS ?_; refine zR ?_; refine zO rfl Rd.mv ?_
      refine XOA.wr0 rfl (WrA.cE (pop_b σ g _ _ _ _ _ _ _ _ _ _ _ _ _ _ _ _ _ (s) _ hsl1) rfl) ?_
      rintro _ _ _ ⟨_, ⟨rfl, rfl, rfl⟩, rfl⟩
      refine XOA.cl ?_
      refine zO rfl Rd.asg ?_; refine zN ?_; refine zT ?_; refine zS ?_; refine zR ?_; refine zO rfl Rd.mv ?_; refine zO rfl (Rd.lss rfl rfl) ?_; refine zO rfl Rd.mv ?_
      first | ((first | refine zW ?_ | refine zQ ?_); refine zO rfl Rd.mv ?_) | refine zU ?_ | refine zV ?_ | refine zZ ?_
      first | ((first | refine zW ?_ | refine zQ ?_); refine zO rfl (Rd.fA rfl) ?_) | refine zU ?_ | refine zV ?_ | refine zZ ?_
      first | ((first | refine zW ?_ | refine zQ ?_); refine zO rfl (Rd.ldC rfl (tyrow rfl) rfl) ?_) | refine zU ?_ | refine zV ?_ | refine zZ ?_
      first | ((first | refine zW ?_ | refine zQ ?_); refine zO rfl (Rd.geq rfl rfl) ?_) | refine zU ?_ | refine zV ?_ | refine zZ ?_
      refine zO rfl (by first | exact Rd.pT rfl | exact Rd.pF rfl | exact Rd.pP rfl) ?_
      refine zN ?_; refine zT ?_
      refine XA.condT rfl (by first | rfl | exact decide_eq_true (by omega)) ?_
      refine zR ?_; refine zO rfl Rd.mv ?_; refine zO rfl (Rd.nilCheck rfl) ?_; refine zO rfl (Rd.fA rfl) ?_; refine zO rfl (Rd.fA rfl) ?_
      refine XOA.wr0 rfl (WrA.st (tyrow rfl) rfl) ?_
      rintro _ _ _ ⟨rfl, rfl, rfl⟩
      refine zN ?_
      refine DA.inb_normal ?_
      refine zT ?_; refine zS ?_; refine zR ?_; refine zO rfl Rd.asg ?_; refine zN ?_; refine zT ?_
      refine XA.ret ?_
      exact bodyA.ret (ResA.one rfl rfl) zE ⟨rfl, .refl _, BeG.of hkp⟩
    obtain ⟨j, rfl⟩ : ∃ j : Nat, k = j := ⟨k.toNat, by omega⟩
    have ha2 : a + j < cells.length := by omega
    rw [show doIn inp keep ⟨10, (a : Int), xb, xn⟩ ⟨⟨next + 1, n :: (j : Int) :: s, rd, outn, 0, cells⟩, kept, out, wrong⟩ = ⟨⟨next + 1, s, rd, outn, 0, cells.set (a + j) n⟩, kept, out, wrong⟩ from by simp [doIn, hk2, show ((a : Int) + (j : Int)).toNat = a + j by omega]]
    have hcn : (cells.set (a + j) n).length = cells.length := by simp
    refine XA.condF rfl rfl ?_
    refine zS ?_; refine zR ?_; refine zO rfl (Rd.eql rfl rfl) ?_; refine zO rfl Rd.asg ?_; refine zN ?_; refine zT ?_
    refine XA.condF rfl rfl ?_
    refine zS ?_; refine zR ?_; refine zO rfl (Rd.eql rfl rfl) ?_; refine zO rfl Rd.asg ?_; refine zN ?_; refine zT ?_
    refine XA.condF rfl rfl ?_
    refine zS ?_; refine zS ?_; refine zR ?_; refine zO rfl (Rd.eql rfl rfl) ?_; refine zO rfl Rd.asg ?_; refine zN ?_; refine zT ?_
    refine XA.condF rfl rfl ?_
    refine zS ?_; refine zR ?_; refine zO rfl (Rd.eql rfl rfl) ?_; refine zO rfl Rd.asg ?_; refine zN ?_; refine zT ?_
    refine XA.condF rfl rfl ?_
    refine zS ?_; refine zR ?_; refine zO rfl (Rd.eql rfl rfl) ?_; refine zO rfl Rd.asg ?_; refine zN ?_; refine zT ?_
    refine XA.condF rfl rfl ?_
    refine zS ?_; refine zR ?_; refine zO rfl (Rd.eql rfl rfl) ?_; refine zO rfl Rd.asg ?_; refine zN ?_; refine zT ?_
    refine XA.condF rfl rfl ?_
    refine zR ?_; refine zO rfl (Rd.eql rfl rfl) ?_; refine zO rfl Rd.asg ?_; refine zN ?_; refine zT ?_
    refine XA.condF rfl rfl ?_
    refine zS ?_; refine zR ?_; refine zO rfl (Rd.eql rfl rfl) ?_; refine zO rfl Rd.asg ?_; refine zN ?_; refine zT ?_
    refine XA.condF rfl rfl ?_
    refine zS ?_; refine zR ?_; refine zO rfl (Rd.eql rfl rfl) ?_; refine zO rfl Rd.asg ?_; refine zN ?_; refine zT ?_
    refine XA.condT rfl rfl ?_
    refine zS ?_; refine zR ?_; refine zO rfl Rd.mv ?_
    refine XOA.wr0 rfl (WrA.cE (pop_b σ g _ _ _ _ _ _ _ _ _ _ _ _ _ _ _ _ _ ((j : Int) :: s) _ hsl2) rfl) ?_
    rintro _ _ _ ⟨_, ⟨rfl, rfl, rfl⟩, rfl⟩
    refine XOA.cl ?_
    refine zO rfl Rd.asg ?_; refine zN ?_; refine zT ?_; refine zS ?_; refine zR ?_; refine zO rfl Rd.mv ?_
    refine XOA.wr0 rfl (WrA.cE (pop_b σ g _ _ _ _ _ _ _ _ _ _ _ _ _ _ _ _ _ (s) _ hsl1) rfl) ?_
    rintro _ _ _ ⟨_, ⟨rfl, rfl, rfl⟩, rfl⟩
    refine XOA.cl ?_
    refine zO rfl Rd.asg ?_; refine zN ?_; refine zT ?_; refine zS ?_; refine zR ?_; refine zO rfl Rd.mv ?_; refine zO rfl (Rd.lss rfl rfl) ?_; refine zO rfl Rd.mv ?_
    first | ((first | refine zW ?_ | refine zQ ?_); refine zO rfl Rd.mv ?_) | refine zU ?_ | refine zV ?_ | refine zZ ?_
    first | ((first | refine zW ?_ | refine zQ ?_); refine zO rfl (Rd.fA rfl) ?_) | refine zU ?_ | refine zV ?_ | refine zZ ?_
    first | ((first | refine zW ?_ | refine zQ ?_); refine zO rfl (Rd.ldC rfl (tyrow rfl) rfl) ?_) | refine zU ?_ | refine zV ?_ | refine zZ ?_
    first | ((first | refine zW ?_ | refine zQ ?_); refine zO rfl (Rd.geq rfl rfl) ?_) | refine zU ?_ | refine zV ?_ | refine zZ ?_
    refine zO rfl (by first | exact Rd.pT rfl | exact Rd.pF rfl | exact Rd.pP rfl) ?_
    refine zN ?_; refine zT ?_
    first | refine XA.opn (R := lst 2 1 (.slice pl cells.length cl) _ _) (by ((repeat (first | with_reducible exact Sel.head | apply Sel.tail)); (first | done | fail))) (lst_openW (by omega)) ?_ | refine XOA.opn (R := lst 2 1 (.slice pl cells.length cl) _ _) (by ((repeat (first | with_reducible exact Sel.head | apply Sel.tail)); (first | done | fail))) (lst_openW (by omega)) ?_ | refine DA.opn (R := lst 2 1 (.slice pl cells.length cl) _ _) (by ((repeat (first | with_reducible exact Sel.head | apply Sel.tail)); (first | done | fail))) (lst_openW (by omega)) ?_
    rintro ⟨g6, rest⟩ ⟨rfl, hcc, hcm, hcx, hcr⟩
    first | refine XA.cl ?_ | refine XOA.cl ?_ | refine DA.cl ?_
    have hspl : splice (ints cells ++ rest) (a + j) [i64 n] = ints (cells.set (a + j) n) ++ rest := cells_write n ha2
    have hfit : a + j + ty2.size ≤ (ints cells ++ rest).length := by rw [List.length_append, show (ints cells).length = cells.length by simp [ints]]; show a + j + 1 ≤ _; omega
    have hv2 : IntKind.i64.wrap ((a : Int) + (j : Int)) = ((a + j : Nat) : Int) := by rw [X.wrap64_in (by omega) (by omega)]; omega
    refine XA.condF rfl (by first | rfl | exact decide_eq_false (by omega)) ?_
    refine XA.draw (by kernel_rfl) _ _ [11] [(0, .pu), (1, .pu), (2, .pu), (3, .pu), (4, .rd), (5, .pu), (6, .rd), (7, .pu), (8, .pu), (9, .pu), (10, .pu), (11, .wr)] (by kernel_rfl) (PH.sub.refl _) (Ent.sel (R := blk g _ _) (by ((repeat (first | with_reducible exact Sel.head | apply Sel.tail)); (first | done | fail))) (Ent.sel (R := blk g5 _ _) (by ((repeat (first | with_reducible exact Sel.head | apply Sel.tail)); (first | done | fail))) (Ent.nil _))) ?_
    refine XPA.pu rfl rfl Gd.free Rd.mv ?_
    refine XPA.pu rfl rfl Gd.free (Rd.nilCheck rfl) ?_
    refine XPA.pu rfl rfl Gd.free (Rd.fA rfl) ?_
    refine XPA.pu rfl rfl Gd.free (Rd.fA rfl) ?_
    refine XPA.rd rfl rfl Gd.free (Rd.ldC rfl (tyrow rfl) rfl) ?_
    refine XPA.pu rfl rfl Gd.free (Rd.fA rfl) ?_
    refine XPA.rd rfl rfl Gd.free (Rd.ldC rfl (tyrow rfl) rfl) ?_
    refine XPA.pu rfl rfl Gd.free Rd.mv ?_
    refine XPA.pu rfl rfl Gd.free (by first | exact Rd.adi rfl rfl | exact Rd.add rfl rfl) ?_
    refine XPA.pu rfl rfl Gd.free Rd.mv ?_
    refine XPA.pu rfl rfl Gd.free (Rd.ixS rfl rfl) ?_
    refine XPA.wrZ0 rfl rfl Gd.free (by kernel_rfl) (WrA.st (tyrow rfl) rfl) ?_
    rintro _ _ _ ⟨rfl, rfl, rfl⟩
    refine XPA.nil ?_
    refine DA.inb_normal ?_
    refine zT ?_; refine zS ?_; refine zR ?_; refine zO rfl Rd.asg ?_; refine zN ?_; refine zT ?_
    refine XA.ret ?_
    refine DA.ent (Ent.foldC (Θ := [blk g6 (ints (cells.set (a + j) n) ++ rest) 2]) (by (repeat (first | exact Ent.all _ | (apply Ent.take; focus (first | ((repeat (first | with_reducible exact Sel.head | apply Sel.tail)); done) | ((repeat (first | exact Sel.head | apply Sel.tail)); done))) | apply Ent.takeNil | apply Ent.takeEmp)); (first | done | fail)) (lst_close (size := 1) (n := cells.length) (c := cl) (rest := rest) (by simp [ints]) hcc hcm (by simpa [ints] using hcr)) (Ent.refl _)) ?_
    rw [← hcn]
    exact bodyA.ret (ResA.one rfl rfl) zE ⟨rfl, .refl _, BeG.of hkp⟩
  by_cases h11 : xop = 11
  · subst h11
    clear hx
    obtain ⟨n, s, rfl⟩ : ∃ n s, stack = n :: s := by
      cases stack with
      | nil => simp [popA] at hpop
      | cons n s => exact ⟨n, s, rfl⟩
    have hsl1 : s.length ≤ 1000 := by simp only [List.length_cons] at hsl; omega
    by_cases hoe : outn = out.length
    · rw [show doIn inp keep ⟨11, xa, xb, xn⟩ ⟨⟨next + 1, n :: s, rd, outn, 0, cells⟩, kept, out, wrong⟩ = ⟨⟨next + 1, s, rd, outn + 1, 0, cells⟩, kept, out ++ [n], wrong⟩ from by simp [doIn, hoe]]
      have hoe2 : ((outn : Nat) : Int) = ((out.length : Nat) : Int) := by omega
      have ho1 : ints (out ++ [n]) = ints out ++ [i64 n] := by simp [ints]
      have ho2 : (out ++ [n]).length = out.length + 1 := by simp
      refine XA.condF rfl rfl ?_
      refine zS ?_; refine zR ?_; refine zO rfl (Rd.eql rfl rfl) ?_; refine zO rfl Rd.asg ?_; refine zN ?_; refine zT ?_
      refine XA.condF rfl rfl ?_
      refine zS ?_; refine zR ?_; refine zO rfl (Rd.eql rfl rfl) ?_; refine zO rfl Rd.asg ?_; refine zN ?_; refine zT ?_
      refine XA.condF rfl rfl ?_
      refine zS ?_; refine zS ?_; refine zR ?_; refine zO rfl (Rd.eql rfl rfl) ?_; refine zO rfl Rd.asg ?_; refine zN ?_; refine zT ?_
      refine XA.condF rfl rfl ?_
      refine zS ?_; refine zR ?_; refine zO rfl (Rd.eql rfl rfl) ?_; refine zO rfl Rd.asg ?_; refine zN ?_; refine zT ?_
      refine XA.condF rfl rfl ?_
      refine zS ?_; refine zR ?_; refine zO rfl (Rd.eql rfl rfl) ?_; refine zO rfl Rd.asg ?_; refine zN ?_; refine zT ?_
      refine XA.condF rfl rfl ?_
      refine zS ?_; refine zR ?_; refine zO rfl (Rd.eql rfl rfl) ?_; refine zO rfl Rd.asg ?_; refine zN ?_; refine zT ?_
      refine XA.condF rfl rfl ?_
      refine zR ?_; refine zO rfl (Rd.eql rfl rfl) ?_; refine zO rfl Rd.asg ?_; refine zN ?_; refine zT ?_
      refine XA.condF rfl rfl ?_
      refine zS ?_; refine zR ?_; refine zO rfl (Rd.eql rfl rfl) ?_; refine zO rfl Rd.asg ?_; refine zN ?_; refine zT ?_
      refine XA.condF rfl rfl ?_
      refine zS ?_; refine zR ?_; refine zO rfl (Rd.eql rfl rfl) ?_; refine zO rfl Rd.asg ?_; refine zN ?_; refine zT ?_
      refine XA.condF rfl rfl ?_
      refine zS ?_; refine zR ?_; refine zO rfl (Rd.eql rfl rfl) ?_; refine zO rfl Rd.asg ?_; refine zN ?_; refine zT ?_
      refine XA.condT rfl rfl ?_
      refine zS ?_; refine zR ?_; refine zO rfl Rd.mv ?_
      refine XOA.wr0 rfl (WrA.cE (pop_b σ g _ _ _ _ _ _ _ _ _ _ _ _ _ _ _ _ _ (s) _ hsl1) rfl) ?_
      rintro _ _ _ ⟨_, ⟨rfl, rfl, rfl⟩, rfl⟩
      refine XOA.cl ?_
      refine zO rfl Rd.asg ?_; refine zN ?_; refine zT ?_; refine zS ?_; refine zS ?_
      refine XA.draw (by kernel_rfl) _ _ [] [(0, .pu), (1, .pu), (2, .pu), (3, .pu), (4, .rd), (5, .pu), (6, .pu), (7, .pu), (8, .rd), (9, .pu), (10, .pu)] (by kernel_rfl) (PH.sub.refl _) (Ent.sel (R := blk g _ _) (by ((repeat (first | with_reducible exact Sel.head | apply Sel.tail)); (first | done | fail))) (Ent.sel (R := lst 2 1 (.slice op out.length oc) _ _) (by ((repeat (first | with_reducible exact Sel.head | apply Sel.tail)); (first | done | fail))) (Ent.nil _))) ?_
      refine XPA.pu rfl rfl Gd.free Rd.mv ?_
      refine XPA.pu rfl rfl Gd.free (Rd.nilCheck rfl) ?_
      refine XPA.pu rfl rfl Gd.free (Rd.fA rfl) ?_
      refine XPA.pu rfl rfl Gd.free (Rd.fA rfl) ?_
      refine XPA.rd rfl rfl Gd.free (Rd.ldC rfl (tyrow rfl) rfl) ?_
      refine XPA.pu rfl rfl Gd.free Rd.mv ?_
      refine XPA.pu rfl rfl Gd.free (Rd.nilCheck rfl) ?_
      refine XPA.pu rfl rfl Gd.free (Rd.fA rfl) ?_
      refine XPA.rd rfl rfl Gd.free (Rd.ldC rfl (tyrow rfl) rfl) ?_
      refine XPA.pu rfl rfl Gd.free (Rd.lenSlice (tyrow rfl) rfl rfl) ?_
      refine XPA.pu rfl rfl Gd.free (Rd.eql rfl rfl) ?_
      refine XPA.nil ?_
      refine zT ?_
      refine XA.condT rfl (decide_eq_true hoe2) ?_
      refine zR ?_; refine zO rfl Rd.mv ?_; refine zO rfl Rd.mv ?_; refine zO rfl (Rd.nilCheck rfl) ?_; refine zO rfl (Rd.fA rfl) ?_; refine zO rfl (Rd.ldC rfl (tyrow rfl) rfl) ?_; refine zO rfl Rd.mv ?_
      refine XOA.wr0 rfl (WrA.bs1 (tyrow rfl) rfl (tyrow rfl)) ?_
      rintro _ _ _ ⟨g197, rfl, rfl, rfl⟩
      refine XOA.wr0 rfl (WrA.ap1 (tyrow rfl) rfl (tyrow rfl) rfl rfl rfl) ?_
      rintro _ _ _ ⟨p198, c198, rfl, rfl, rfl⟩
      refine zO rfl (Rd.nilCheck rfl) ?_; refine zO rfl (Rd.fA rfl) ?_
      refine XOA.wr0 rfl (WrA.st (tyrow rfl) rfl) ?_
      rintro _ _ _ ⟨rfl, rfl, rfl⟩
      refine zN ?_; refine zT ?_; refine zR ?_; refine zO rfl Rd.mv ?_; refine zO rfl (Rd.nilCheck rfl) ?_; refine zO rfl (Rd.fA rfl) ?_; refine zO rfl (Rd.fA rfl) ?_; refine zO rfl (Rd.ldC rfl (tyrow rfl) rfl) ?_
      refine zO rfl (by first | exact Rd.adi rfl rfl | exact Rd.add rfl rfl) ?_
      refine zO rfl (Rd.nilCheck rfl) ?_; refine zO rfl (Rd.fA rfl) ?_; refine zO rfl (Rd.fA rfl) ?_
      refine XOA.wr0 rfl (WrA.st (tyrow rfl) rfl) ?_
      rintro _ _ _ ⟨rfl, rfl, rfl⟩
      refine zN ?_
      refine DA.inb_normal ?_
      refine zT ?_; refine zS ?_; refine zR ?_; refine zO rfl Rd.asg ?_; refine zN ?_; refine zT ?_
      refine XA.ret ?_
      rw [show ints out ++ [Value.int .i64 n] = ints (out ++ [n]) from ho1.symm, ← ho2]
      exact bodyA.ret (ResA.one rfl rfl) zE ⟨rfl, .refl _, BeG.of hkp⟩
    have hol1 : outn < out.length := by omega
    have hoe2 : ¬ ((outn : Nat) : Int) = ((out.length : Nat) : Int) := by omega
    have hv : (ints out)[outn]? = some (i64 (out.getD outn 0)) := by simp [ints, hol1]
    obtain ⟨y, hy⟩ : ∃ y, y = out.getD outn 0 := ⟨_, rfl⟩
    have hy2 : out[outn]?.getD 0 = y := by rw [hy, List.getD_eq_getElem?_getD]
    rw [← hy] at hv
    by_cases hne : y = n
    · rw [show doIn inp keep ⟨11, xa, xb, xn⟩ ⟨⟨next + 1, n :: s, rd, outn, 0, cells⟩, kept, out, wrong⟩ = ⟨⟨next + 1, s, rd, outn + 1, 0, cells⟩, kept, out, wrong⟩ from by simp [doIn, hoe, hy2, hne]]
      refine XA.condF rfl rfl ?_
      refine zS ?_; refine zR ?_; refine zO rfl (Rd.eql rfl rfl) ?_; refine zO rfl Rd.asg ?_; refine zN ?_; refine zT ?_
      refine XA.condF rfl rfl ?_
      refine zS ?_; refine zR ?_; refine zO rfl (Rd.eql rfl rfl) ?_; refine zO rfl Rd.asg ?_; refine zN ?_; refine zT ?_
      refine XA.condF rfl rfl ?_
      refine zS ?_; refine zS ?_; refine zR ?_; refine zO rfl (Rd.eql rfl rfl) ?_; refine zO rfl Rd.asg ?_; refine zN ?_; refine zT ?_
      refine XA.condF rfl rfl ?_
      refine zS ?_; refine zR ?_; refine zO rfl (Rd.eql rfl rfl) ?_; refine zO rfl Rd.asg ?_; refine zN ?_; refine zT ?_
      refine XA.condF rfl rfl ?_
      refine zS ?_; refine zR ?_; refine zO rfl (Rd.eql rfl rfl) ?_; refine zO rfl Rd.asg ?_; refine zN ?_; refine zT ?_
      refine XA.condF rfl rfl ?_
      refine zS ?_; refine zR ?_; refine zO rfl (Rd.eql rfl rfl) ?_; refine zO rfl Rd.asg ?_; refine zN ?_; refine zT ?_
      refine XA.condF rfl rfl ?_
      refine zR ?_; refine zO rfl (Rd.eql rfl rfl) ?_; refine zO rfl Rd.asg ?_; refine zN ?_; refine zT ?_
      refine XA.condF rfl rfl ?_
      refine zS ?_; refine zR ?_; refine zO rfl (Rd.eql rfl rfl) ?_; refine zO rfl Rd.asg ?_; refine zN ?_; refine zT ?_
      refine XA.condF rfl rfl ?_
      refine zS ?_; refine zR ?_; refine zO rfl (Rd.eql rfl rfl) ?_; refine zO rfl Rd.asg ?_; refine zN ?_; refine zT ?_
      refine XA.condF rfl rfl ?_
      refine zS ?_; refine zR ?_; refine zO rfl (Rd.eql rfl rfl) ?_; refine zO rfl Rd.asg ?_; refine zN ?_; refine zT ?_
      refine XA.condT rfl rfl ?_
      refine zS ?_; refine zR ?_; refine zO rfl Rd.mv ?_
      refine XOA.wr0 rfl (WrA.cE (pop_b σ g _ _ _ _ _ _ _ _ _ _ _ _ _ _ _ _ _ (s) _ hsl1) rfl) ?_
      rintro _ _ _ ⟨_, ⟨rfl, rfl, rfl⟩, rfl⟩
      refine XOA.cl ?_
      refine zO rfl Rd.asg ?_; refine zN ?_; refine zT ?_; refine zS ?_; refine zS ?_
      refine XA.draw (by kernel_rfl) _ _ [] [(0, .pu), (1, .pu), (2, .pu), (3, .pu), (4, .rd), (5, .pu), (6, .pu), (7, .pu), (8, .rd), (9, .pu), (10, .pu)] (by kernel_rfl) (PH.sub.refl _) (Ent.sel (R := blk g _ _) (by ((repeat (first | with_reducible exact Sel.head | apply Sel.tail)); (first | done | fail))) (Ent.nil _)) ?_
      refine XPA.pu rfl rfl Gd.free Rd.mv ?_
      refine XPA.pu rfl rfl Gd.free (Rd.nilCheck rfl) ?_
      refine XPA.pu rfl rfl Gd.free (Rd.fA rfl) ?_
      refine XPA.pu rfl rfl Gd.free (Rd.fA rfl) ?_
      refine XPA.rd rfl rfl Gd.free (Rd.ldC rfl (tyrow rfl) rfl) ?_
      refine XPA.pu rfl rfl Gd.free Rd.mv ?_
      refine XPA.pu rfl rfl Gd.free (Rd.nilCheck rfl) ?_
      refine XPA.pu rfl rfl Gd.free (Rd.fA rfl) ?_
      refine XPA.rd rfl rfl Gd.free (Rd.ldC rfl (tyrow rfl) rfl) ?_
      refine XPA.pu rfl rfl Gd.free (Rd.lenSlice (tyrow rfl) rfl rfl) ?_
      refine XPA.pu rfl rfl Gd.free (Rd.eql rfl rfl) ?_
      refine XPA.nil ?_
      refine zT ?_
      refine XA.condF rfl (decide_eq_false hoe2) ?_
      refine zS ?_
      first | refine XA.opn (R := lst 2 1 (.slice op out.length oc) _ _) (by ((repeat (first | with_reducible exact Sel.head | apply Sel.tail)); (first | done | fail))) (lst_some (by omega)) ?_ | refine XOA.opn (R := lst 2 1 (.slice op out.length oc) _ _) (by ((repeat (first | with_reducible exact Sel.head | apply Sel.tail)); (first | done | fail))) (lst_some (by omega)) ?_ | refine DA.opn (R := lst 2 1 (.slice op out.length oc) _ _) (by ((repeat (first | with_reducible exact Sel.head | apply Sel.tail)); (first | done | fail))) (lst_some (by omega)) ?_
      rintro g7 rfl
      first | refine XA.cl ?_ | refine XOA.cl ?_ | refine DA.cl ?_
      refine XA.draw (by kernel_rfl) _ _ [] [(0, .pu), (1, .pu), (2, .pu), (3, .rd), (4, .pu), (5, .pu), (6, .pu), (7, .pu), (8, .rd), (9, .pu), (10, .rd), (11, .pu), (12, .pu)] (by kernel_rfl) (PH.sub.refl _) (Ent.sel (R := blk g _ _) (by ((repeat (first | with_reducible exact Sel.head | apply Sel.tail)); (first | done | fail))) (Ent.sel (R := lst 2 1 (.slice (some ⟨g7, 0, none⟩) out.length oc) _ _) (by ((repeat (first | with_reducible exact Sel.head | apply Sel.tail)); (first | done | fail))) (Ent.nil _))) ?_
      refine XPA.pu rfl rfl Gd.free Rd.mv ?_
      refine XPA.pu rfl rfl Gd.free (Rd.nilCheck rfl) ?_
      refine XPA.pu rfl rfl Gd.free (Rd.fA rfl) ?_
      refine XPA.rd rfl rfl Gd.free (Rd.ldC rfl (tyrow rfl) rfl) ?_
      refine XPA.pu rfl rfl Gd.free Rd.mv ?_
      refine XPA.pu rfl rfl Gd.free (Rd.nilCheck rfl) ?_
      refine XPA.pu rfl rfl Gd.free (Rd.fA rfl) ?_
      refine XPA.pu rfl rfl Gd.free (Rd.fA rfl) ?_
      refine XPA.rd rfl rfl Gd.free (Rd.ldC rfl (tyrow rfl) rfl) ?_
      refine XPA.pu rfl rfl Gd.free (Rd.ixS rfl rfl) ?_
      refine XPA.rd rfl rfl Gd.free (Rd.ldC rfl (tyrow rfl) rfl) ?_
      refine XPA.pu rfl rfl Gd.free Rd.mv ?_
      refine XPA.pu rfl rfl Gd.free (Rd.neq rfl rfl) ?_
      refine XPA.nil ?_
      refine zT ?_
      refine XA.condF rfl (decide_eq_false (fun h => h hne)) ?_
      refine XA.skip ?_
      refine zT ?_; refine zR ?_; refine zO rfl Rd.mv ?_; refine zO rfl (Rd.nilCheck rfl) ?_; refine zO rfl (Rd.fA rfl) ?_; refine zO rfl (Rd.fA rfl) ?_; refine zO rfl (Rd.ldC rfl (tyrow rfl) rfl) ?_
      refine zO rfl (by first | exact Rd.adi rfl rfl | exact Rd.add rfl rfl) ?_
      refine zO rfl (Rd.nilCheck rfl) ?_; refine zO rfl (Rd.fA rfl) ?_; refine zO rfl (Rd.fA rfl) ?_
      refine XOA.wr0 rfl (WrA.st (tyrow rfl) rfl) ?_
      rintro _ _ _ ⟨rfl, rfl, rfl⟩
      refine zN ?_
      refine DA.inb_normal ?_
      refine zT ?_; refine zS ?_; refine zR ?_; refine zO rfl Rd.asg ?_; refine zN ?_; refine zT ?_
      refine XA.ret ?_
      exact bodyA.ret (ResA.one rfl rfl) zE ⟨rfl, .refl _, BeG.of hkp⟩
    rw [show doIn inp keep ⟨11, xa, xb, xn⟩ ⟨⟨next + 1, n :: s, rd, outn, 0, cells⟩, kept, out, wrong⟩ = ⟨⟨next + 1, s, rd, outn + 1, 0, cells⟩, kept, out, true⟩ from by simp [doIn, hoe, hy2, hne]]
    refine XA.condF rfl rfl ?_
    refine zS ?_; refine zR ?_; refine zO rfl (Rd.eql rfl rfl) ?_; refine zO rfl Rd.asg ?_; refine zN ?_; refine zT ?_
    refine XA.condF rfl rfl ?_
    refine zS ?_; refine zR ?_; refine zO rfl (Rd.eql rfl rfl) ?_; refine zO rfl Rd.asg ?_; refine zN ?_; refine zT ?_
    refine XA.condF rfl rfl ?_
    refine zS ?_; refine zS ?_; refine zR ?_; refine zO rfl (Rd.eql rfl rfl) ?_; refine zO rfl Rd.asg ?_; refine zN ?_; refine zT ?_
    refine XA.condF rfl rfl ?_
    refine zS ?_; refine zR ?_; refine zO rfl (Rd.eql rfl rfl) ?_; refine zO rfl Rd.asg ?_; refine zN ?_; refine zT ?_
    refine XA.condF rfl rfl ?_
    refine zS ?_; refine zR ?_; refine zO rfl (Rd.eql rfl rfl) ?_; refine zO rfl Rd.asg ?_; refine zN ?_; refine zT ?_
    refine XA.condF rfl rfl ?_
    refine zS ?_; refine zR ?_; refine zO rfl (Rd.eql rfl rfl) ?_; refine zO rfl Rd.asg ?_; refine zN ?_; refine zT ?_
    refine XA.condF rfl rfl ?_
    refine zR ?_; refine zO rfl (Rd.eql rfl rfl) ?_; refine zO rfl Rd.asg ?_; refine zN ?_; refine zT ?_
    refine XA.condF rfl rfl ?_
    refine zS ?_; refine zR ?_; refine zO rfl (Rd.eql rfl rfl) ?_; refine zO rfl Rd.asg ?_; refine zN ?_; refine zT ?_
    refine XA.condF rfl rfl ?_
    refine zS ?_; refine zR ?_; refine zO rfl (Rd.eql rfl rfl) ?_; refine zO rfl Rd.asg ?_; refine zN ?_; refine zT ?_
    refine XA.condF rfl rfl ?_
    refine zS ?_; refine zR ?_; refine zO rfl (Rd.eql rfl rfl) ?_; refine zO rfl Rd.asg ?_; refine zN ?_; refine zT ?_
    refine XA.condT rfl rfl ?_
    refine zS ?_; refine zR ?_; refine zO rfl Rd.mv ?_
    refine XOA.wr0 rfl (WrA.cE (pop_b σ g _ _ _ _ _ _ _ _ _ _ _ _ _ _ _ _ _ (s) _ hsl1) rfl) ?_
    rintro _ _ _ ⟨_, ⟨rfl, rfl, rfl⟩, rfl⟩
    refine XOA.cl ?_
    refine zO rfl Rd.asg ?_; refine zN ?_; refine zT ?_; refine zS ?_; refine zS ?_
    refine XA.draw (by kernel_rfl) _ _ [] [(0, .pu), (1, .pu), (2, .pu), (3, .pu), (4, .rd), (5, .pu), (6, .pu), (7, .pu), (8, .rd), (9, .pu), (10, .pu)] (by kernel_rfl) (PH.sub.refl _) (Ent.sel (R := blk g _ _) (by ((repeat (first | with_reducible exact Sel.head | apply Sel.tail)); (first | done | fail))) (Ent.nil _)) ?_
    refine XPA.pu rfl rfl Gd.free Rd.mv ?_
    refine XPA.pu rfl rfl Gd.free (Rd.nilCheck rfl) ?_
    refine XPA.pu rfl rfl Gd.free (Rd.fA rfl) ?_
    refine XPA.pu rfl rfl Gd.free (Rd.fA rfl) ?_
    refine XPA.rd rfl rfl Gd.free (Rd.ldC rfl (tyrow rfl) rfl) ?_
    refine XPA.pu rfl rfl Gd.free Rd.mv ?_
    refine XPA.pu rfl rfl Gd.free (Rd.nilCheck rfl) ?_
    refine XPA.pu rfl rfl Gd.free (Rd.fA rfl) ?_
    refine XPA.rd rfl rfl Gd.free (Rd.ldC rfl (tyrow rfl) rfl) ?_
    refine XPA.pu rfl rfl Gd.free (Rd.lenSlice (tyrow rfl) rfl rfl) ?_
    refine XPA.pu rfl rfl Gd.free (Rd.eql rfl rfl) ?_
    refine XPA.nil ?_
    refine zT ?_
    refine XA.condF rfl (decide_eq_false hoe2) ?_
    refine zS ?_
    first | refine XA.opn (R := lst 2 1 (.slice op out.length oc) _ _) (by ((repeat (first | with_reducible exact Sel.head | apply Sel.tail)); (first | done | fail))) (lst_some (by omega)) ?_ | refine XOA.opn (R := lst 2 1 (.slice op out.length oc) _ _) (by ((repeat (first | with_reducible exact Sel.head | apply Sel.tail)); (first | done | fail))) (lst_some (by omega)) ?_ | refine DA.opn (R := lst 2 1 (.slice op out.length oc) _ _) (by ((repeat (first | with_reducible exact Sel.head | apply Sel.tail)); (first | done | fail))) (lst_some (by omega)) ?_
    rintro g7 rfl
    first | refine XA.cl ?_ | refine XOA.cl ?_ | refine DA.cl ?_
    refine XA.draw (by kernel_rfl) _ _ [] [(0, .pu), (1, .pu), (2, .pu), (3, .rd), (4, .pu), (5, .pu), (6, .pu), (7, .pu), (8, .rd), (9, .pu), (10, .rd), (11, .pu), (12, .pu)] (by kernel_rfl) (PH.sub.refl _) (Ent.sel (R := blk g _ _) (by ((repeat (first | with_reducible exact Sel.head | apply Sel.tail)); (first | done | fail))) (Ent.sel (R := lst 2 1 (.slice (some ⟨g7, 0, none⟩) out.length oc) _ _) (by ((repeat (first | with_reducible exact Sel.head | apply Sel.tail)); (first | done | fail))) (Ent.nil _))) ?_
    refine XPA.pu rfl rfl Gd.free Rd.mv ?_
    refine XPA.pu rfl rfl Gd.free (Rd.nilCheck rfl) ?_
    refine XPA.pu rfl rfl Gd.free (Rd.fA rfl) ?_
    refine XPA.rd rfl rfl Gd.free (Rd.ldC rfl (tyrow rfl) rfl) ?_
    refine XPA.pu rfl rfl Gd.free Rd.mv ?_
    refine XPA.pu rfl rfl Gd.free (Rd.nilCheck rfl) ?_
    refine XPA.pu rfl rfl Gd.free (Rd.fA rfl) ?_
    refine XPA.pu rfl rfl Gd.free (Rd.fA rfl) ?_
    refine XPA.rd rfl rfl Gd.free (Rd.ldC rfl (tyrow rfl) rfl) ?_
    refine XPA.pu rfl rfl Gd.free (Rd.ixS rfl rfl) ?_
    refine XPA.rd rfl rfl Gd.free (Rd.ldC rfl (tyrow rfl) rfl) ?_
    refine XPA.pu rfl rfl Gd.free Rd.mv ?_
    refine XPA.pu rfl rfl Gd.free (Rd.neq rfl rfl) ?_
    refine XPA.nil ?_
    refine zT ?_
    refine XA.condT rfl (decide_eq_true hne) ?_
    refine zR ?_; refine zO rfl Rd.mv ?_; refine zO rfl (Rd.nilCheck rfl) ?_; refine zO rfl (Rd.fA rfl) ?_
    refine XOA.wr0 rfl (WrA.st (tyrow rfl) rfl) ?_
    rintro _ _ _ ⟨rfl, rfl, rfl⟩
    refine zN ?_; refine zT ?_; refine zR ?_; refine zO rfl Rd.mv ?_; refine zO rfl (Rd.nilCheck rfl) ?_; refine zO rfl (Rd.fA rfl) ?_; refine zO rfl (Rd.fA rfl) ?_; refine zO rfl (Rd.ldC rfl (tyrow rfl) rfl) ?_
    refine zO rfl (by first | exact Rd.adi rfl rfl | exact Rd.add rfl rfl) ?_
    refine zO rfl (Rd.nilCheck rfl) ?_; refine zO rfl (Rd.fA rfl) ?_; refine zO rfl (Rd.fA rfl) ?_
    refine XOA.wr0 rfl (WrA.st (tyrow rfl) rfl) ?_
    rintro _ _ _ ⟨rfl, rfl, rfl⟩
    refine zN ?_
    refine DA.inb_normal ?_
    refine zT ?_; refine zS ?_; refine zR ?_; refine zO rfl Rd.asg ?_; refine zN ?_; refine zT ?_
    refine XA.ret ?_
    exact bodyA.ret (ResA.one rfl rfl) zE ⟨rfl, .refl _, BeG.of hkp⟩
  by_cases h12 : xop = 12
  · subst h12
    clear hx
    obtain ⟨ha0, ha1⟩ := hcell (by decide)
    obtain ⟨a, rfl⟩ : ∃ a : Nat, xa = a := ⟨xa.toNat, by omega⟩
    have ha2 : a < cells.length := by omega
    by_cases hri : inp.length ≤ rd
    · rw [show doIn inp keep ⟨12, (a : Int), xb, xn⟩ ⟨⟨next + 1, stack, rd, outn, 0, cells⟩, kept, out, wrong⟩ = ⟨⟨next + 1, stack, rd, outn, 14, cells⟩, kept, out, wrong⟩ from by simp [doIn, hri]]
      refine XA.condF rfl rfl ?_
      refine zS ?_; refine zR ?_; refine zO rfl (Rd.eql rfl rfl) ?_; refine zO rfl Rd.asg ?_; refine zN ?_; refine zT ?_
      refine XA.condF rfl rfl ?_
      refine zS ?_; refine zR ?_; refine zO rfl (Rd.eql rfl rfl) ?_; refine zO rfl Rd.asg ?_; refine zN ?_; refine zT ?_
      refine XA.condF rfl rfl ?_
      refine zS ?_; refine zS ?_; refine zR ?_; refine zO rfl (Rd.eql rfl rfl) ?_; refine zO rfl Rd.asg ?_; refine zN ?_; refine zT ?_
      refine XA.condF rfl rfl ?_
      refine zS ?_; refine zR ?_; refine zO rfl (Rd.eql rfl rfl) ?_; refine zO rfl Rd.asg ?_; refine zN ?_; refine zT ?_
      refine XA.condF rfl rfl ?_
      refine zS ?_; refine zR ?_; refine zO rfl (Rd.eql rfl rfl) ?_; refine zO rfl Rd.asg ?_; refine zN ?_; refine zT ?_
      refine XA.condF rfl rfl ?_
      refine zS ?_; refine zR ?_; refine zO rfl (Rd.eql rfl rfl) ?_; refine zO rfl Rd.asg ?_; refine zN ?_; refine zT ?_
      refine XA.condF rfl rfl ?_
      refine zR ?_; refine zO rfl (Rd.eql rfl rfl) ?_; refine zO rfl Rd.asg ?_; refine zN ?_; refine zT ?_
      refine XA.condF rfl rfl ?_
      refine zS ?_; refine zR ?_; refine zO rfl (Rd.eql rfl rfl) ?_; refine zO rfl Rd.asg ?_; refine zN ?_; refine zT ?_
      refine XA.condF rfl rfl ?_
      refine zS ?_; refine zR ?_; refine zO rfl (Rd.eql rfl rfl) ?_; refine zO rfl Rd.asg ?_; refine zN ?_; refine zT ?_
      refine XA.condF rfl rfl ?_
      refine zS ?_; refine zR ?_; refine zO rfl (Rd.eql rfl rfl) ?_; refine zO rfl Rd.asg ?_; refine zN ?_; refine zT ?_
      refine XA.condF rfl rfl ?_
      refine zS ?_; refine zR ?_; refine zO rfl (Rd.eql rfl rfl) ?_; refine zO rfl Rd.asg ?_; refine zN ?_; refine zT ?_
      refine XA.condT rfl rfl ?_
      refine zS ?_
      refine XA.draw (by kernel_rfl) _ _ [] [(0, .pu), (1, .pu), (2, .pu), (3, .pu), (4, .rd), (5, .pu), (6, .pu), (7, .pu), (8, .rd), (9, .pu), (10, .pu)] (by kernel_rfl) (PH.sub.refl _) (Ent.sel (R := blk g _ _) (by ((repeat (first | with_reducible exact Sel.head | apply Sel.tail)); (first | done | fail))) (Ent.nil _)) ?_
      refine XPA.pu rfl rfl Gd.free Rd.mv ?_
      refine XPA.pu rfl rfl Gd.free (Rd.nilCheck rfl) ?_
      refine XPA.pu rfl rfl Gd.free (Rd.fA rfl) ?_
      refine XPA.pu rfl rfl Gd.free (Rd.fA rfl) ?_
      refine XPA.rd rfl rfl Gd.free (Rd.ldC rfl (tyrow rfl) rfl) ?_
      refine XPA.pu rfl rfl Gd.free Rd.mv ?_
      refine XPA.pu rfl rfl Gd.free (Rd.nilCheck rfl) ?_
      refine XPA.pu rfl rfl Gd.free (Rd.fA rfl) ?_
      refine XPA.rd rfl rfl Gd.free (Rd.ldC rfl (tyrow rfl) rfl) ?_
      refine XPA.pu rfl rfl Gd.free (Rd.lenSlice (tyrow rfl) rfl rfl) ?_
      refine XPA.pu rfl rfl Gd.free (Rd.geq rfl rfl) ?_
      refine XPA.nil ?_
      refine zT ?_
      refine XA.condT rfl (by first | rfl | exact decide_eq_true (by omega)) ?_
      refine zR ?_; refine zO rfl Rd.mv ?_; refine zO rfl (Rd.nilCheck rfl) ?_; refine zO rfl (Rd.fA rfl) ?_; refine zO rfl (Rd.fA rfl) ?_
      refine XOA.wr0 rfl (WrA.st (tyrow rfl) rfl) ?_
      rintro _ _ _ ⟨rfl, rfl, rfl⟩
      refine zN ?_
      refine DA.inb_normal ?_
      refine zT ?_; refine zS ?_; refine zR ?_; refine zO rfl Rd.asg ?_; refine zN ?_; refine zT ?_
      refine XA.ret ?_
      exact bodyA.ret (ResA.one rfl rfl) zE ⟨rfl, .refl _, BeG.of hkp⟩
    have hri2 : rd < inp.length := by omega
    obtain ⟨y, hy⟩ : ∃ y, inp[rd]? = some y := ⟨_, List.getElem?_eq_getElem hri2⟩
    obtain ⟨gi, oi, rfl, hri3⟩ := hi.at hy
    rw [Nat.mul_one] at hri3
    have hy2 : inp[rd] = y := (List.getElem?_eq_some_iff.1 hy).2
    rw [show doIn inp keep ⟨12, (a : Int), xb, xn⟩ ⟨⟨next + 1, stack, rd, outn, 0, cells⟩, kept, out, wrong⟩ = ⟨⟨next + 1, stack, rd + 1, outn, 0, cells.set a y⟩, kept, out, wrong⟩ from by simp [doIn, hri, hy]]
    have hcn : (cells.set a y).length = cells.length := by simp
    first | refine XA.opn (R := lst 2 1 (.slice pl cells.length cl) _ _) (by ((repeat (first | with_reducible exact Sel.head | apply Sel.tail)); (first | done | fail))) (lst_openW (by omega)) ?_ | refine XOA.opn (R := lst 2 1 (.slice pl cells.length cl) _ _) (by ((repeat (first | with_reducible exact Sel.head | apply Sel.tail)); (first | done | fail))) (lst_openW (by omega)) ?_ | refine DA.opn (R := lst 2 1 (.slice pl cells.length cl) _ _) (by ((repeat (first | with_reducible exact Sel.head | apply Sel.tail)); (first | done | fail))) (lst_openW (by omega)) ?_
    rintro ⟨g6, rest⟩ ⟨rfl, hcc, hcm, hcx, hcr⟩
    first | refine XA.cl ?_ | refine XOA.cl ?_ | refine DA.cl ?_
    have hspl : splice (ints cells ++ rest) a [i64 y] = ints (cells.set a y) ++ rest := cells_write y ha2
    have hfit : a + ty2.size ≤ (ints cells ++ rest).length := by rw [List.length_append, show (ints cells).length = cells.length by simp [ints]]; show a + 1 ≤ _; omega
    refine XA.condF rfl rfl ?_
    refine zS ?_; refine zR ?_; refine zO rfl (Rd.eql rfl rfl) ?_; refine zO rfl Rd.asg ?_; refine zN ?_; refine zT ?_
    refine XA.condF rfl rfl ?_
    refine zS ?_; refine zR ?_; refine zO rfl (Rd.eql rfl rfl) ?_; refine zO rfl Rd.asg ?_; refine zN ?_; refine zT ?_
    refine XA.condF rfl rfl ?_
    refine zS ?_; refine zS ?_; refine zR ?_; refine zO rfl (Rd.eql rfl rfl) ?_; refine zO rfl Rd.asg ?_; refine zN ?_; refine zT ?_
    refine XA.condF rfl rfl ?_
    refine zS ?_; refine zR ?_; refine zO rfl (Rd.eql rfl rfl) ?_; refine zO rfl Rd.asg ?_; refine zN ?_; refine zT ?_
    refine XA.condF rfl rfl ?_
    refine zS ?_; refine zR ?_; refine zO rfl (Rd.eql rfl rfl) ?_; refine zO rfl Rd.asg ?_; refine zN ?_; refine zT ?_
    refine XA.condF rfl rfl ?_
    refine zS ?_; refine zR ?_; refine zO rfl (Rd.eql rfl rfl) ?_; refine zO rfl Rd.asg ?_; refine zN ?_; refine zT ?_
    refine XA.condF rfl rfl ?_
    refine zR ?_; refine zO rfl (Rd.eql rfl rfl) ?_; refine zO rfl Rd.asg ?_; refine zN ?_; refine zT ?_
    refine XA.condF rfl rfl ?_
    refine zS ?_; refine zR ?_; refine zO rfl (Rd.eql rfl rfl) ?_; refine zO rfl Rd.asg ?_; refine zN ?_; refine zT ?_
    refine XA.condF rfl rfl ?_
    refine zS ?_; refine zR ?_; refine zO rfl (Rd.eql rfl rfl) ?_; refine zO rfl Rd.asg ?_; refine zN ?_; refine zT ?_
    refine XA.condF rfl rfl ?_
    refine zS ?_; refine zR ?_; refine zO rfl (Rd.eql rfl rfl) ?_; refine zO rfl Rd.asg ?_; refine zN ?_; refine zT ?_
    refine XA.condF rfl rfl ?_
    refine zS ?_; refine zR ?_; refine zO rfl (Rd.eql rfl rfl) ?_; refine zO rfl Rd.asg ?_; refine zN ?_; refine zT ?_
    refine XA.condT rfl rfl ?_
    refine zS ?_
    refine XA.draw (by kernel_rfl) _ _ [] [(0, .pu), (1, .pu), (2, .pu), (3, .pu), (4, .rd), (5, .pu), (6, .pu), (7, .pu), (8, .rd), (9, .pu), (10, .pu)] (by kernel_rfl) (PH.sub.refl _) (Ent.sel (R := blk g _ _) (by ((repeat (first | with_reducible exact Sel.head | apply Sel.tail)); (first | done | fail))) (Ent.nil _)) ?_
    refine XPA.pu rfl rfl Gd.free Rd.mv ?_
    refine XPA.pu rfl rfl Gd.free (Rd.nilCheck rfl) ?_
    refine XPA.pu rfl rfl Gd.free (Rd.fA rfl) ?_
    refine XPA.pu rfl rfl Gd.free (Rd.fA rfl) ?_
    refine XPA.rd rfl rfl Gd.free (Rd.ldC rfl (tyrow rfl) rfl) ?_
    refine XPA.pu rfl rfl Gd.free Rd.mv ?_
    refine XPA.pu rfl rfl Gd.free (Rd.nilCheck rfl) ?_
    refine XPA.pu rfl rfl Gd.free (Rd.fA rfl) ?_
    refine XPA.rd rfl rfl Gd.free (Rd.ldC rfl (tyrow rfl) rfl) ?_
    refine XPA.pu rfl rfl Gd.free (Rd.lenSlice (tyrow rfl) rfl rfl) ?_
    refine XPA.pu rfl rfl Gd.free (Rd.geq rfl rfl) ?_
    refine XPA.nil ?_
    refine zT ?_
    refine XA.condF rfl (by first | rfl | exact decide_eq_false (by omega)) ?_
    refine zS ?_
    refine XA.draw (by kernel_rfl) _ _ [19] [(0, .pu), (1, .pu), (2, .pu), (3, .pu), (4, .rd), (5, .pu), (6, .rd), (7, .pu), (8, .pu), (9, .pu), (10, .rd), (11, .pu), (12, .pu), (13, .pu), (14, .pu), (15, .rd), (16, .pu), (17, .rd), (18, .pu), (19, .wr)] (by kernel_rfl) (PH.sub.refl _) (Ent.sel (R := blk g _ _) (by ((repeat (first | with_reducible exact Sel.head | apply Sel.tail)); (first | done | fail))) (Ent.sel (R := blk g5 _ _) (by ((repeat (first | with_reducible exact Sel.head | apply Sel.tail)); (first | done | fail))) (Ent.nil _))) ?_
    refine XPA.pu rfl rfl Gd.free Rd.mv ?_
    refine XPA.pu rfl rfl Gd.free (Rd.nilCheck rfl) ?_
    refine XPA.pu rfl rfl Gd.free (Rd.fA rfl) ?_
    refine XPA.pu rfl rfl Gd.free (Rd.fA rfl) ?_
    refine XPA.rd rfl rfl Gd.free (Rd.ldC rfl (tyrow rfl) rfl) ?_
    refine XPA.pu rfl rfl Gd.free (Rd.fA rfl) ?_
    refine XPA.rd rfl rfl Gd.free (Rd.ldC rfl (tyrow rfl) rfl) ?_
    refine XPA.pu rfl rfl Gd.free Rd.mv ?_
    refine XPA.pu rfl rfl Gd.free (Rd.nilCheck rfl) ?_
    refine XPA.pu rfl rfl Gd.free (Rd.fA rfl) ?_
    refine XPA.rd rfl rfl Gd.free (Rd.ldC rfl (tyrow rfl) rfl) ?_
    refine XPA.pu rfl rfl Gd.free Rd.mv ?_
    refine XPA.pu rfl rfl Gd.free (Rd.nilCheck rfl) ?_
    refine XPA.pu rfl rfl Gd.free (Rd.fA rfl) ?_
    refine XPA.pu rfl rfl Gd.free (Rd.fA rfl) ?_
    refine XPA.rd rfl rfl Gd.free (Rd.ldC rfl (tyrow rfl) rfl) ?_
    refine XPA.pu rfl rfl Gd.free (Rd.ixS rfl rfl) ?_
    refine XPA.rd rfl rfl Gd.free (Rd.ldC rfl (tyrow rfl) rfl) ?_
    refine XPA.pu rfl rfl Gd.free (Rd.ixS rfl rfl) ?_
    refine XPA.wrZ0 rfl rfl Gd.free (by kernel_rfl) (WrA.st (tyrow rfl) rfl) ?_
    rintro _ _ _ ⟨rfl, rfl, rfl⟩
    refine XPA.nil ?_
    refine zT ?_; refine zR ?_; refine zO rfl Rd.mv ?_; refine zO rfl (Rd.nilCheck rfl) ?_; refine zO rfl (Rd.fA rfl) ?_; refine zO rfl (Rd.fA rfl) ?_; refine zO rfl (Rd.ldC rfl (tyrow rfl) rfl) ?_
    refine zO rfl (by first | exact Rd.adi rfl rfl | exact Rd.add rfl rfl) ?_
    refine zO rfl (Rd.nilCheck rfl) ?_; refine zO rfl (Rd.fA rfl) ?_; refine zO rfl (Rd.fA rfl) ?_
    refine XOA.wr0 rfl (WrA.st (tyrow rfl) rfl) ?_
    rintro _ _ _ ⟨rfl, rfl, rfl⟩
    refine zN ?_
    refine DA.inb_normal ?_
    refine zT ?_; refine zS ?_; refine zR ?_; refine zO rfl Rd.asg ?_; refine zN ?_; refine zT ?_
    refine XA.ret ?_
    refine DA.ent (Ent.foldC (Θ := [blk g6 (ints (cells.set a y) ++ rest) 2]) (by (repeat (first | exact Ent.all _ | (apply Ent.take; focus (first | ((repeat (first | with_reducible exact Sel.head | apply Sel.tail)); done) | ((repeat (first | exact Sel.head | apply Sel.tail)); done))) | apply Ent.takeNil | apply Ent.takeEmp)); (first | done | fail)) (lst_close (size := 1) (n := cells.length) (c := cl) (rest := rest) (by simp [ints]) hcc hcm (by simpa [ints] using hcr)) (Ent.refl _)) ?_
    rw [← hcn]
    exact bodyA.ret (ResA.one rfl rfl) zE ⟨rfl, .refl _, BeG.of hkp⟩
  by_cases h13 : xop = 13
  · subst h13
    clear hx
    obtain ⟨n, s, rfl⟩ : ∃ n s, stack = n :: s := by
      cases stack with
      | nil => simp [popA] at hpop
      | cons n s => exact ⟨n, s, rfl⟩
    have hsl1 : s.length ≤ 1000 := by simp only [List.length_cons] at hsl; omega
    obtain ⟨a, rfl⟩ : ∃ a : Nat, xa = a := ⟨xa.toNat, by have := hgo (by decide); omega⟩
    by_cases hn0 : n = 0
    · rw [show doIn inp keep ⟨13, (a : Int), xb, xn⟩ ⟨⟨next + 1, n :: s, rd, outn, 0, cells⟩, kept, out, wrong⟩ = ⟨⟨a, s, rd, outn, 0, cells⟩, kept, out, wrong⟩ from by simp [doIn, hn0]]
      refine XA.condF rfl rfl ?_
      refine zS ?_; refine zR ?_; refine zO rfl (Rd.eql rfl rfl) ?_; refine zO rfl Rd.asg ?_; refine zN ?_; refine zT ?_
      refine XA.condF rfl rfl ?_
      refine zS ?_; refine zR ?_; refine zO rfl (Rd.eql rfl rfl) ?_; refine zO rfl Rd.asg ?_; refine zN ?_; refine zT ?_
      refine XA.condF rfl rfl ?_
      refine zS ?_; refine zS ?_; refine zR ?_; refine zO rfl (Rd.eql rfl rfl) ?_; refine zO rfl Rd.asg ?_; refine zN ?_; refine zT ?_
      refine XA.condF rfl rfl ?_
      refine zS ?_; refine zR ?_; refine zO rfl (Rd.eql rfl rfl) ?_; refine zO rfl Rd.asg ?_; refine zN ?_; refine zT ?_
      refine XA.condF rfl rfl ?_
      refine zS ?_; refine zR ?_; refine zO rfl (Rd.eql rfl rfl) ?_; refine zO rfl Rd.asg ?_; refine zN ?_; refine zT ?_
      refine XA.condF rfl rfl ?_
      refine zS ?_; refine zR ?_; refine zO rfl (Rd.eql rfl rfl) ?_; refine zO rfl Rd.asg ?_; refine zN ?_; refine zT ?_
      refine XA.condF rfl rfl ?_
      refine zR ?_; refine zO rfl (Rd.eql rfl rfl) ?_; refine zO rfl Rd.asg ?_; refine zN ?_; refine zT ?_
      refine XA.condF rfl rfl ?_
      refine zS ?_; refine zR ?_; refine zO rfl (Rd.eql rfl rfl) ?_; refine zO rfl Rd.asg ?_; refine zN ?_; refine zT ?_
      refine XA.condF rfl rfl ?_
      refine zS ?_; refine zR ?_; refine zO rfl (Rd.eql rfl rfl) ?_; refine zO rfl Rd.asg ?_; refine zN ?_; refine zT ?_
      refine XA.condF rfl rfl ?_
      refine zS ?_; refine zR ?_; refine zO rfl (Rd.eql rfl rfl) ?_; refine zO rfl Rd.asg ?_; refine zN ?_; refine zT ?_
      refine XA.condF rfl rfl ?_
      refine zS ?_; refine zR ?_; refine zO rfl (Rd.eql rfl rfl) ?_; refine zO rfl Rd.asg ?_; refine zN ?_; refine zT ?_
      refine XA.condF rfl rfl ?_
      refine zS ?_; refine zR ?_; refine zO rfl (Rd.eql rfl rfl) ?_; refine zO rfl Rd.asg ?_; refine zN ?_; refine zT ?_
      refine XA.condT rfl rfl ?_
      refine zS ?_; refine zR ?_; refine zO rfl Rd.mv ?_
      refine XOA.wr0 rfl (WrA.cE (pop_b σ g _ _ _ _ _ _ _ _ _ _ _ _ _ _ _ _ _ (s) _ hsl1) rfl) ?_
      rintro _ _ _ ⟨_, ⟨rfl, rfl, rfl⟩, rfl⟩
      refine XOA.cl ?_
      refine zO rfl (Rd.eql rfl rfl) ?_; refine zN ?_; refine zT ?_
      refine XA.condT rfl (decide_eq_true hn0) ?_
      refine zR ?_; refine zO rfl Rd.mv ?_; refine zO rfl (Rd.fA rfl) ?_; refine zO rfl (Rd.ldC rfl (tyrow rfl) rfl) ?_; refine zO rfl (Rd.nilCheck rfl) ?_; refine zO rfl (Rd.fA rfl) ?_; refine zO rfl (Rd.fA rfl) ?_
      refine XOA.wr0 rfl (WrA.st (tyrow rfl) rfl) ?_
      rintro _ _ _ ⟨rfl, rfl, rfl⟩
      refine zN ?_
      refine DA.inb_normal ?_
      refine zT ?_; refine zS ?_; refine zR ?_; refine zO rfl Rd.asg ?_; refine zN ?_; refine zT ?_
      refine XA.ret ?_
      exact bodyA.ret (ResA.one rfl rfl) zE ⟨rfl, .refl _, BeG.of hkp⟩
    rw [show doIn inp keep ⟨13, (a : Int), xb, xn⟩ ⟨⟨next + 1, n :: s, rd, outn, 0, cells⟩, kept, out, wrong⟩ = ⟨⟨next + 1, s, rd, outn, 0, cells⟩, kept, out, wrong⟩ from by simp [doIn, hn0]]
    refine XA.condF rfl rfl ?_
    refine zS ?_; refine zR ?_; refine zO rfl (Rd.eql rfl rfl) ?_; refine zO rfl Rd.asg ?_; refine zN ?_; refine zT ?_
    refine XA.condF rfl rfl ?_
    refine zS ?_; refine zR ?_; refine zO rfl (Rd.eql rfl rfl) ?_; refine zO rfl Rd.asg ?_; refine zN ?_; refine zT ?_
    refine XA.condF rfl rfl ?_
    refine zS ?_; refine zS ?_; refine zR ?_; refine zO rfl (Rd.eql rfl rfl) ?_; refine zO rfl Rd.asg ?_; refine zN ?_; refine zT ?_
    refine XA.condF rfl rfl ?_
    refine zS ?_; refine zR ?_; refine zO rfl (Rd.eql rfl rfl) ?_; refine zO rfl Rd.asg ?_; refine zN ?_; refine zT ?_
    refine XA.condF rfl rfl ?_
    refine zS ?_; refine zR ?_; refine zO rfl (Rd.eql rfl rfl) ?_; refine zO rfl Rd.asg ?_; refine zN ?_; refine zT ?_
    refine XA.condF rfl rfl ?_
    refine zS ?_; refine zR ?_; refine zO rfl (Rd.eql rfl rfl) ?_; refine zO rfl Rd.asg ?_; refine zN ?_; refine zT ?_
    refine XA.condF rfl rfl ?_
    refine zR ?_; refine zO rfl (Rd.eql rfl rfl) ?_; refine zO rfl Rd.asg ?_; refine zN ?_; refine zT ?_
    refine XA.condF rfl rfl ?_
    refine zS ?_; refine zR ?_; refine zO rfl (Rd.eql rfl rfl) ?_; refine zO rfl Rd.asg ?_; refine zN ?_; refine zT ?_
    refine XA.condF rfl rfl ?_
    refine zS ?_; refine zR ?_; refine zO rfl (Rd.eql rfl rfl) ?_; refine zO rfl Rd.asg ?_; refine zN ?_; refine zT ?_
    refine XA.condF rfl rfl ?_
    refine zS ?_; refine zR ?_; refine zO rfl (Rd.eql rfl rfl) ?_; refine zO rfl Rd.asg ?_; refine zN ?_; refine zT ?_
    refine XA.condF rfl rfl ?_
    refine zS ?_; refine zR ?_; refine zO rfl (Rd.eql rfl rfl) ?_; refine zO rfl Rd.asg ?_; refine zN ?_; refine zT ?_
    refine XA.condF rfl rfl ?_
    refine zS ?_; refine zR ?_; refine zO rfl (Rd.eql rfl rfl) ?_; refine zO rfl Rd.asg ?_; refine zN ?_; refine zT ?_
    refine XA.condT rfl rfl ?_
    refine zS ?_; refine zR ?_; refine zO rfl Rd.mv ?_
    refine XOA.wr0 rfl (WrA.cE (pop_b σ g _ _ _ _ _ _ _ _ _ _ _ _ _ _ _ _ _ (s) _ hsl1) rfl) ?_
    rintro _ _ _ ⟨_, ⟨rfl, rfl, rfl⟩, rfl⟩
    refine XOA.cl ?_
    refine zO rfl (Rd.eql rfl rfl) ?_; refine zN ?_; refine zT ?_
    refine XA.condF rfl (decide_eq_false hn0) ?_
    refine XA.skip ?_
    refine DA.inb_normal ?_
    refine zT ?_; refine zS ?_; refine zR ?_; refine zO rfl Rd.asg ?_; refine zN ?_; refine zT ?_
    refine XA.ret ?_
    exact bodyA.ret (ResA.one rfl rfl) zE ⟨rfl, .refl _, BeG.of hkp⟩
  by_cases h14 : xop = 14
  · subst h14
    clear hx
    obtain ⟨a, rfl⟩ : ∃ a : Nat, xa = a := ⟨xa.toNat, by have := hgo (by decide); omega⟩
    rw [show doIn inp keep ⟨14, (a : Int), xb, xn⟩ ⟨⟨next + 1, stack, rd, outn, 0, cells⟩, kept, out, wrong⟩ = ⟨⟨a, stack, rd, outn, 0, cells⟩, kept, out, wrong⟩ from by simp [doIn]]
    refine XA.condF rfl rfl ?_
    refine zS ?_; refine zR ?_; refine zO rfl (Rd.eql rfl rfl) ?_; refine zO rfl Rd.asg ?_; refine zN ?_; refine zT ?_
    refine XA.condF rfl rfl ?_
    refine zS ?_; refine zR ?_; refine zO rfl (Rd.eql rfl rfl) ?_; refine zO rfl Rd.asg ?_; refine zN ?_; refine zT ?_
    refine XA.condF rfl rfl ?_
    refine zS ?_; refine zS ?_; refine zR ?_; refine zO rfl (Rd.eql rfl rfl) ?_; refine zO rfl Rd.asg ?_; refine zN ?_; refine zT ?_
    refine XA.condF rfl rfl ?_
    refine zS ?_; refine zR ?_; refine zO rfl (Rd.eql rfl rfl) ?_; refine zO rfl Rd.asg ?_; refine zN ?_; refine zT ?_
    refine XA.condF rfl rfl ?_
    refine zS ?_; refine zR ?_; refine zO rfl (Rd.eql rfl rfl) ?_; refine zO rfl Rd.asg ?_; refine zN ?_; refine zT ?_
    refine XA.condF rfl rfl ?_
    refine zS ?_; refine zR ?_; refine zO rfl (Rd.eql rfl rfl) ?_; refine zO rfl Rd.asg ?_; refine zN ?_; refine zT ?_
    refine XA.condF rfl rfl ?_
    refine zR ?_; refine zO rfl (Rd.eql rfl rfl) ?_; refine zO rfl Rd.asg ?_; refine zN ?_; refine zT ?_
    refine XA.condF rfl rfl ?_
    refine zS ?_; refine zR ?_; refine zO rfl (Rd.eql rfl rfl) ?_; refine zO rfl Rd.asg ?_; refine zN ?_; refine zT ?_
    refine XA.condF rfl rfl ?_
    refine zS ?_; refine zR ?_; refine zO rfl (Rd.eql rfl rfl) ?_; refine zO rfl Rd.asg ?_; refine zN ?_; refine zT ?_
    refine XA.condF rfl rfl ?_
    refine zS ?_; refine zR ?_; refine zO rfl (Rd.eql rfl rfl) ?_; refine zO rfl Rd.asg ?_; refine zN ?_; refine zT ?_
    refine XA.condF rfl rfl ?_
    refine zS ?_; refine zR ?_; refine zO rfl (Rd.eql rfl rfl) ?_; refine zO rfl Rd.asg ?_; refine zN ?_; refine zT ?_
    refine XA.condF rfl rfl ?_
    refine zS ?_; refine zR ?_; refine zO rfl (Rd.eql rfl rfl) ?_; refine zO rfl Rd.asg ?_; refine zN ?_; refine zT ?_
    refine XA.condF rfl rfl ?_
    refine zS ?_; refine zR ?_; refine zO rfl (Rd.eql rfl rfl) ?_; refine zO rfl Rd.asg ?_; refine zN ?_; refine zT ?_
    refine XA.condT rfl rfl ?_
    refine zR ?_; refine zO rfl Rd.mv ?_; refine zO rfl (Rd.fA rfl) ?_; refine zO rfl (Rd.ldC rfl (tyrow rfl) rfl) ?_; refine zO rfl (Rd.nilCheck rfl) ?_; refine zO rfl (Rd.fA rfl) ?_; refine zO rfl (Rd.fA rfl) ?_
    refine XOA.wr0 rfl (WrA.st (tyrow rfl) rfl) ?_
    rintro _ _ _ ⟨rfl, rfl, rfl⟩
    refine zN ?_
    refine DA.inb_normal ?_
    refine zT ?_; refine zS ?_; refine zR ?_; refine zO rfl Rd.asg ?_; refine zN ?_; refine zT ?_
    refine XA.ret ?_
    exact bodyA.ret (ResA.one rfl rfl) zE ⟨rfl, .refl _, BeG.of hkp⟩
  by_cases h15 : xop = 15
  · subst h15
    clear hx
    cases keep with
    | false =>
      rw [show doIn inp false ⟨15, xa, xb, xn⟩ ⟨⟨next + 1, stack, rd, outn, 0, cells⟩, kept, out, wrong⟩ = ⟨⟨next + 1, stack, rd, outn, 0, cells⟩, kept, out, wrong⟩ from rfl]
      refine XA.condF rfl rfl ?_
      refine zS ?_; refine zR ?_; refine zO rfl (Rd.eql rfl rfl) ?_; refine zO rfl Rd.asg ?_; refine zN ?_; refine zT ?_
      refine XA.condF rfl rfl ?_
      refine zS ?_; refine zR ?_; refine zO rfl (Rd.eql rfl rfl) ?_; refine zO rfl Rd.asg ?_; refine zN ?_; refine zT ?_
      refine XA.condF rfl rfl ?_
      refine zS ?_; refine zS ?_; refine zR ?_; refine zO rfl (Rd.eql rfl rfl) ?_; refine zO rfl Rd.asg ?_; refine zN ?_; refine zT ?_
      refine XA.condF rfl rfl ?_
      refine zS ?_; refine zR ?_; refine zO rfl (Rd.eql rfl rfl) ?_; refine zO rfl Rd.asg ?_; refine zN ?_; refine zT ?_
      refine XA.condF rfl rfl ?_
      refine zS ?_; refine zR ?_; refine zO rfl (Rd.eql rfl rfl) ?_; refine zO rfl Rd.asg ?_; refine zN ?_; refine zT ?_
      refine XA.condF rfl rfl ?_
      refine zS ?_; refine zR ?_; refine zO rfl (Rd.eql rfl rfl) ?_; refine zO rfl Rd.asg ?_; refine zN ?_; refine zT ?_
      refine XA.condF rfl rfl ?_
      refine zR ?_; refine zO rfl (Rd.eql rfl rfl) ?_; refine zO rfl Rd.asg ?_; refine zN ?_; refine zT ?_
      refine XA.condF rfl rfl ?_
      refine zS ?_; refine zR ?_; refine zO rfl (Rd.eql rfl rfl) ?_; refine zO rfl Rd.asg ?_; refine zN ?_; refine zT ?_
      refine XA.condF rfl rfl ?_
      refine zS ?_; refine zR ?_; refine zO rfl (Rd.eql rfl rfl) ?_; refine zO rfl Rd.asg ?_; refine zN ?_; refine zT ?_
      refine XA.condF rfl rfl ?_
      refine zS ?_; refine zR ?_; refine zO rfl (Rd.eql rfl rfl) ?_; refine zO rfl Rd.asg ?_; refine zN ?_; refine zT ?_
      refine XA.condF rfl rfl ?_
      refine zS ?_; refine zR ?_; refine zO rfl (Rd.eql rfl rfl) ?_; refine zO rfl Rd.asg ?_; refine zN ?_; refine zT ?_
      refine XA.condF rfl rfl ?_
      refine zS ?_; refine zR ?_; refine zO rfl (Rd.eql rfl rfl) ?_; refine zO rfl Rd.asg ?_; refine zN ?_; refine zT ?_
      refine XA.condF rfl rfl ?_
      refine zS ?_; refine zR ?_; refine zO rfl (Rd.eql rfl rfl) ?_; refine zO rfl Rd.asg ?_; refine zN ?_; refine zT ?_
      refine XA.condF rfl rfl ?_
      refine zS ?_; refine zR ?_; refine zO rfl (Rd.eql rfl rfl) ?_; refine zO rfl Rd.asg ?_; refine zN ?_; refine zT ?_
      refine XA.condT rfl rfl ?_
      refine zS ?_; refine zR ?_; refine zO rfl Rd.mv ?_; refine zN ?_; refine zT ?_
      refine XA.condF rfl rfl ?_
      refine XA.skip ?_
      refine DA.inb_normal ?_
      refine zT ?_; refine zS ?_; refine zR ?_; refine zO rfl Rd.asg ?_; refine zN ?_; refine zT ?_
      refine XA.ret ?_
      exact bodyA.ret (ResA.one rfl rfl) zE ⟨rfl, .refl _, BeG.of hkp⟩
    | true =>
      rw [show doIn inp true ⟨15, xa, xb, xn⟩ ⟨⟨next + 1, stack, rd, outn, 0, cells⟩, kept, out, wrong⟩ = ⟨⟨next + 1, stack, rd, outn, 0, cells⟩, ⟨next + 1, stack, rd, outn, 0, cells⟩, out, wrong⟩ from rfl]
      refine XA.condF rfl rfl ?_
      refine zS ?_; refine zR ?_; refine zO rfl (Rd.eql rfl rfl) ?_; refine zO rfl Rd.asg ?_; refine zN ?_; refine zT ?_
      refine XA.condF rfl rfl ?_
      refine zS ?_; refine zR ?_; refine zO rfl (Rd.eql rfl rfl) ?_; refine zO rfl Rd.asg ?_; refine zN ?_; refine zT ?_
      refine XA.condF rfl rfl ?_
      refine zS ?_; refine zS ?_; refine zR ?_; refine zO rfl (Rd.eql rfl rfl) ?_; refine zO rfl Rd.asg ?_; refine zN ?_; refine zT ?_
      refine XA.condF rfl rfl ?_
      refine zS ?_; refine zR ?_; refine zO rfl (Rd.eql rfl rfl) ?_; refine zO rfl Rd.asg ?_; refine zN ?_; refine zT ?_
      refine XA.condF rfl rfl ?_
      refine zS ?_; refine zR ?_; refine zO rfl (Rd.eql rfl rfl) ?_; refine zO rfl Rd.asg ?_; refine zN ?_; refine zT ?_
      refine XA.condF rfl rfl ?_
      refine zS ?_; refine zR ?_; refine zO rfl (Rd.eql rfl rfl) ?_; refine zO rfl Rd.asg ?_; refine zN ?_; refine zT ?_
      refine XA.condF rfl rfl ?_
      refine zR ?_; refine zO rfl (Rd.eql rfl rfl) ?_; refine zO rfl Rd.asg ?_; refine zN ?_; refine zT ?_
      refine XA.condF rfl rfl ?_
      refine zS ?_; refine zR ?_; refine zO rfl (Rd.eql rfl rfl) ?_; refine zO rfl Rd.asg ?_; refine zN ?_; refine zT ?_
      refine XA.condF rfl rfl ?_
      refine zS ?_; refine zR ?_; refine zO rfl (Rd.eql rfl rfl) ?_; refine zO rfl Rd.asg ?_; refine zN ?_; refine zT ?_
      refine XA.condF rfl rfl ?_
      refine zS ?_; refine zR ?_; refine zO rfl (Rd.eql rfl rfl) ?_; refine zO rfl Rd.asg ?_; refine zN ?_; refine zT ?_
      refine XA.condF rfl rfl ?_
      refine zS ?_; refine zR ?_; refine zO rfl (Rd.eql rfl rfl) ?_; refine zO rfl Rd.asg ?_; refine zN ?_; refine zT ?_
      refine XA.condF rfl rfl ?_
      refine zS ?_; refine zR ?_; refine zO rfl (Rd.eql rfl rfl) ?_; refine zO rfl Rd.asg ?_; refine zN ?_; refine zT ?_
      refine XA.condF rfl rfl ?_
      refine zS ?_; refine zR ?_; refine zO rfl (Rd.eql rfl rfl) ?_; refine zO rfl Rd.asg ?_; refine zN ?_; refine zT ?_
      refine XA.condF rfl rfl ?_
      refine zS ?_; refine zR ?_; refine zO rfl (Rd.eql rfl rfl) ?_; refine zO rfl Rd.asg ?_; refine zN ?_; refine zT ?_
      refine XA.condT rfl rfl ?_
      refine zS ?_; refine zR ?_; refine zO rfl Rd.mv ?_; refine zN ?_; refine zT ?_
      refine XA.condT rfl rfl ?_
      refine zR ?_; refine zO rfl Rd.mv ?_; refine zO rfl Rd.mv ?_; refine zO rfl (Rd.nilCheck rfl) ?_; refine zO rfl (Rd.fA rfl) ?_; refine zO rfl (Rd.ldA rfl) ?_
      refine XOA.wr0 rfl (WrA.cE (copy_b σ _ _ _ _ _ _ _ _ stack.length cells.length stack.reverse cells (by omega) hcl) rfl) ?_
      rintro _ _ _ ⟨_, ⟨p3, c3, p4, c4, rfl, rfl, rfl⟩, rfl⟩
      refine XOA.cl ?_
      refine XOA.frz (R := lst 2 1 (.slice p3 stack.length c3) _ _) (by ((repeat (first | with_reducible exact Sel.head | apply Sel.tail)); (first | done | fail))) lst_frz lst_frz_mono ?_
      rintro σ2 ⟨⟩ hf2 hs2
      refine XOA.frz (R := lst 2 1 (.slice p4 cells.length c4) _ _) (by ((repeat (first | with_reducible exact Sel.head | apply Sel.tail)); (first | done | fail))) lst_frz lst_frz_mono ?_
      rintro σ3 ⟨⟩ hf3 hs3
      have hk2 : KeptAt σ3 (i64 ((next + 1 : Nat) : Int)) (.slice p3 stack.length c3) (i64 rd) (i64 outn) (i64 0) (.slice p4 cells.length c4) ⟨next + 1, stack, rd, outn, 0, cells⟩ := ⟨p3, c3, p4, c4, rfl, rfl, rfl, rfl, rfl, rfl, pints_frz (by simp) (lst_frz_mono () _ _ hf2 hs3), pints_frz rfl hf3⟩
      refine zO rfl (Rd.nilCheck rfl) ?_; refine zO rfl (Rd.fA rfl) ?_
      refine XOA.wr0 rfl (WrA.st (tyrow rfl) rfl) ?_
      rintro _ _ _ ⟨rfl, rfl, rfl⟩
      refine zN ?_
      refine DA.inb_normal ?_
      refine zT ?_; refine zS ?_; refine zR ?_; refine zO rfl Rd.asg ?_; refine zN ?_; refine zT ?_
      refine XA.ret ?_
      exact bodyA.ret (ResA.one rfl rfl) zE ⟨rfl, hs2.trans hs3, BeG.of hk2⟩
  by_cases h16 : xop = 16
  · subst h16
    clear hx
    rw [show doIn inp keep ⟨16, xa, xb, xn⟩ ⟨⟨next + 1, stack, rd, outn, 0, cells⟩, kept, out, wrong⟩ = ⟨⟨next + 1, stack, rd, outn, 1, cells⟩, kept, out, wrong⟩ from by simp [doIn]]
    refine XA.condF rfl rfl ?_
    refine zS ?_; refine zR ?_; refine zO rfl (Rd.eql rfl rfl) ?_; refine zO rfl Rd.asg ?_; refine zN ?_; refine zT ?_
    refine XA.condF rfl rfl ?_
    refine zS ?_; refine zR ?_; refine zO rfl (Rd.eql rfl rfl) ?_; refine zO rfl Rd.asg ?_; refine zN ?_; refine zT ?_
    refine XA.condF rfl rfl ?_
    refine zS ?_; refine zS ?_; refine zR ?_; refine zO rfl (Rd.eql rfl rfl) ?_; refine zO rfl Rd.asg ?_; refine zN ?_; refine zT ?_
    refine XA.condF rfl rfl ?_
    refine zS ?_; refine zR ?_; refine zO rfl (Rd.eql rfl rfl) ?_; refine zO rfl Rd.asg ?_; refine zN ?_; refine zT ?_
    refine XA.condF rfl rfl ?_
    refine zS ?_; refine zR ?_; refine zO rfl (Rd.eql rfl rfl) ?_; refine zO rfl Rd.asg ?_; refine zN ?_; refine zT ?_
    refine XA.condF rfl rfl ?_
    refine zS ?_; refine zR ?_; refine zO rfl (Rd.eql rfl rfl) ?_; refine zO rfl Rd.asg ?_; refine zN ?_; refine zT ?_
    refine XA.condF rfl rfl ?_
    refine zR ?_; refine zO rfl (Rd.eql rfl rfl) ?_; refine zO rfl Rd.asg ?_; refine zN ?_; refine zT ?_
    refine XA.condF rfl rfl ?_
    refine zS ?_; refine zR ?_; refine zO rfl (Rd.eql rfl rfl) ?_; refine zO rfl Rd.asg ?_; refine zN ?_; refine zT ?_
    refine XA.condF rfl rfl ?_
    refine zS ?_; refine zR ?_; refine zO rfl (Rd.eql rfl rfl) ?_; refine zO rfl Rd.asg ?_; refine zN ?_; refine zT ?_
    refine XA.condF rfl rfl ?_
    refine zS ?_; refine zR ?_; refine zO rfl (Rd.eql rfl rfl) ?_; refine zO rfl Rd.asg ?_; refine zN ?_; refine zT ?_
    refine XA.condF rfl rfl ?_
    refine zS ?_; refine zR ?_; refine zO rfl (Rd.eql rfl rfl) ?_; refine zO rfl Rd.asg ?_; refine zN ?_; refine zT ?_
    refine XA.condF rfl rfl ?_
    refine zS ?_; refine zR ?_; refine zO rfl (Rd.eql rfl rfl) ?_; refine zO rfl Rd.asg ?_; refine zN ?_; refine zT ?_
    refine XA.condF rfl rfl ?_
    refine zS ?_; refine zR ?_; refine zO rfl (Rd.eql rfl rfl) ?_; refine zO rfl Rd.asg ?_; refine zN ?_; refine zT ?_
    refine XA.condF rfl rfl ?_
    refine zS ?_; refine zR ?_; refine zO rfl (Rd.eql rfl rfl) ?_; refine zO rfl Rd.asg ?_; refine zN ?_; refine zT ?_
    refine XA.condF rfl rfl ?_
    refine zS ?_; refine zR ?_; refine zO rfl (Rd.eql rfl rfl) ?_; refine zO rfl Rd.asg ?_; refine zN ?_; refine zT ?_
    refine XA.condT rfl rfl ?_
    refine zR ?_; refine zO rfl Rd.mv ?_; refine zO rfl (Rd.nilCheck rfl) ?_; refine zO rfl (Rd.fA rfl) ?_; refine zO rfl (Rd.fA rfl) ?_
    refine XOA.wr0 rfl (WrA.st (tyrow rfl) rfl) ?_
    rintro _ _ _ ⟨rfl, rfl, rfl⟩
    refine zN ?_
    refine DA.inb_normal ?_
    refine zT ?_; refine zS ?_; refine zR ?_; refine zO rfl Rd.asg ?_; refine zN ?_; refine zT ?_
    refine XA.ret ?_
    exact bodyA.ret (ResA.one rfl rfl) zE ⟨rfl, .refl _, BeG.of hkp⟩
  rw [show doIn inp keep ⟨xop, xa, xb, xn⟩ ⟨⟨next + 1, stack, rd, outn, 0, cells⟩, kept, out, wrong⟩ = ⟨⟨next + 1, stack, rd, outn, 0, cells⟩, kept, out, wrong⟩ from by
    simp only [doIn]
    rw [if_neg h1, if_neg h2, if_neg h3, if_neg (by omega), if_neg h9, if_neg h10, if_neg h11, if_neg h12, if_neg h13, if_neg h14, if_neg h15, if_neg h16]]
  clear hx
  refine XA.condF rfl (decide_eq_false h1) ?_
  refine zS ?_; refine zR ?_; refine zO rfl (Rd.eql rfl rfl) ?_; refine zO rfl Rd.asg ?_; refine zN ?_; refine zT ?_
  refine XA.condF rfl (decide_eq_false h2) ?_
  refine zS ?_; refine zR ?_; refine zO rfl (Rd.eql rfl rfl) ?_; refine zO rfl Rd.asg ?_; refine zN ?_; refine zT ?_
  refine XA.condF rfl (decide_eq_false h3) ?_
  refine zS ?_; refine zS ?_; refine zR ?_; refine zO rfl (Rd.eql rfl rfl) ?_; refine zO rfl Rd.asg ?_; refine zN ?_; refine zT ?_
  refine XA.condF rfl (decide_eq_false h4) ?_
  refine zS ?_; refine zR ?_; refine zO rfl (Rd.eql rfl rfl) ?_; refine zO rfl Rd.asg ?_; refine zN ?_; refine zT ?_
  refine XA.condF rfl (decide_eq_false h5) ?_
  refine zS ?_; refine zR ?_; refine zO rfl (Rd.eql rfl rfl) ?_; refine zO rfl Rd.asg ?_; refine zN ?_; refine zT ?_
  refine XA.condF rfl (decide_eq_false h6) ?_
  refine zS ?_; refine zR ?_; refine zO rfl (Rd.eql rfl rfl) ?_; refine zO rfl Rd.asg ?_; refine zN ?_; refine zT ?_
  refine XA.condF rfl (decide_eq_false h7) ?_
  refine zR ?_; refine zO rfl (Rd.eql rfl rfl) ?_; refine zO rfl Rd.asg ?_; refine zN ?_; refine zT ?_
  refine XA.condF rfl (decide_eq_false h8) ?_
  refine zS ?_; refine zR ?_; refine zO rfl (Rd.eql rfl rfl) ?_; refine zO rfl Rd.asg ?_; refine zN ?_; refine zT ?_
  refine XA.condF rfl (decide_eq_false h9) ?_
  refine zS ?_; refine zR ?_; refine zO rfl (Rd.eql rfl rfl) ?_; refine zO rfl Rd.asg ?_; refine zN ?_; refine zT ?_
  refine XA.condF rfl (decide_eq_false h10) ?_
  refine zS ?_; refine zR ?_; refine zO rfl (Rd.eql rfl rfl) ?_; refine zO rfl Rd.asg ?_; refine zN ?_; refine zT ?_
  refine XA.condF rfl (decide_eq_false h11) ?_
  refine zS ?_; refine zR ?_; refine zO rfl (Rd.eql rfl rfl) ?_; refine zO rfl Rd.asg ?_; refine zN ?_; refine zT ?_
  refine XA.condF rfl (decide_eq_false h12) ?_
  refine zS ?_; refine zR ?_; refine zO rfl (Rd.eql rfl rfl) ?_; refine zO rfl Rd.asg ?_; refine zN ?_; refine zT ?_
  refine XA.condF rfl (decide_eq_false h13) ?_
  refine zS ?_; refine zR ?_; refine zO rfl (Rd.eql rfl rfl) ?_; refine zO rfl Rd.asg ?_; refine zN ?_; refine zT ?_
  refine XA.condF rfl (decide_eq_false h14) ?_
  refine zS ?_; refine zR ?_; refine zO rfl (Rd.eql rfl rfl) ?_; refine zO rfl Rd.asg ?_; refine zN ?_; refine zT ?_
  refine XA.condF rfl (decide_eq_false h15) ?_
  refine zS ?_; refine zR ?_; refine zO rfl (Rd.eql rfl rfl) ?_; refine zO rfl Rd.asg ?_; refine zN ?_; refine zT ?_
  refine XA.condF rfl (decide_eq_false h16) ?_
  refine XA.skip ?_
  refine DA.inb_normal ?_
  refine zT ?_; refine zS ?_; refine zR ?_; refine zO rfl Rd.asg ?_; refine zN ?_; refine zT ?_
  refine XA.ret ?_
  exact bodyA.ret (ResA.one rfl rfl) zE ⟨rfl, .refl _, BeG.of hkp⟩
end Go.Proofs.Ytbbghdkndbpmmaa

namespace Go.Proofs.Ytbbghdkndbpmmaa
open Go X
section
variable {C : List In} {inp : List Int}
/-- By some instructions it comes to another place. -/
def Goes (C : List In) (inp : List Int) (f : Nat) (b : Be) (f' : Nat) (b' : Be) : Prop := f' ≤ f ∧ runM C inp f b = ((runM C inp f' b').1, (runM C inp f' b').2 + (f - f'))
theorem Goes.refl (f : Nat) (b : Be) : Goes C inp f b f b := ⟨Nat.le_refl _, by simp⟩
theorem Goes.trans {f f1 f2 : Nat} {b b1 b2 : Be} (h : Goes C inp f b f1 b1) (k : Goes C inp f1 b1 f2 b2) : Goes C inp f b f2 b2 := by
  refine ⟨Nat.le_trans k.1 h.1, ?_⟩
  rw [h.2, k.2]
  have := h.1; have := k.1
  simp only [Prod.mk.injEq, true_and]; omega
theorem Goes.step {f : Nat} {b : Be} {x : In} (h0 : b.m.st = 0) (hx : C[b.m.next]? = some x) : Goes C inp (f + 1) b f (doIn inp false x (bump b)) := by
  refine ⟨Nat.le_succ _, ?_⟩
  rw [runM, if_neg (by rw [h0]; simp), stepB, hx]
  simp
def At_ (C : List In) (pc : Nat) (L : List In) : Prop := ∀ i x, L[i]? = some x → C[pc + i]? = some x
theorem At_.left {pc : Nat} {L M : List In} (h : At_ C pc (L ++ M)) : At_ C pc L := fun i x hx => h i x (by rw [List.getElem?_append_left (List.getElem?_eq_some_iff.1 hx).1]; exact hx)
theorem At_.right {pc : Nat} {L M : List In} (h : At_ C pc (L ++ M)) : At_ C (pc + L.length) M := fun i x hx => by
  rw [Nat.add_assoc]; exact h _ x (by rw [List.getElem?_append_right (Nat.le_add_right _ _), Nat.add_sub_cancel_left]; exact hx)
theorem At_.one {pc : Nat} {x : In} (h : At_ C pc [x]) : C[pc]? = some x := h 0 x rfl
def adv (b : Be) (n : Nat) (st : List Int) : Be := { b with m := { b.m with next := n, stack := st } }
/-- How a failure looks on the machine. -/
def Fin (c : Int) (f : Nat) (b : Be) : Prop := (c = 13 ∧ f = 0 ∧ b.m.st = 0) ∨ ((c = 11 ∨ c = 12) ∧ b.m.st = c + 2)
/-- It failed, and nothing else is other than the numbers of the stack. -/
def Stuck (b : Be) (c : Int) (f : Nat) (b' : Be) : Prop := b'.m.cells = b.m.cells ∧ b'.out = b.out ∧ b'.wrong = b.wrong ∧ Fin c f b'
def ExSim (C : List In) (inp : List Int) (vs : List Va) (x : Ex) : Prop := ∀ (pc : Nat) (b : Be) (f : Nat), At_ C pc (exCode vs x) → b.m.next = pc → b.m.st = 0 →
  (∀ v f', exRun vs b.m.cells x f = .ok (v, f') → Goes C inp f b f' (adv b (pc + (exCode vs x).length) (v :: b.m.stack))) ∧
  (∀ c f', exRun vs b.m.cells x f = .error (c, f') → ∃ b', Goes C inp f b f' b' ∧ Stuck b c f' b')
theorem exs_sim (vs : List Va) : ∀ (l : List Ex), (∀ x ∈ l, ExSim C inp vs x) → ∀ (pc : Nat) (b : Be) (f : Nat), At_ C pc (exsCode vs l) → b.m.next = pc → b.m.st = 0 →
  (∀ xs f', exsRun vs b.m.cells l f = .ok (xs, f') → Goes C inp f b f' (adv b (pc + (exsCode vs l).length) (xs.reverse ++ b.m.stack))) ∧
  (∀ c f', exsRun vs b.m.cells l f = .error (c, f') → ∃ b', Goes C inp f b f' b' ∧ Stuck b c f' b')
  | [], _, pc, b, f, _, hn, _ => by
    refine ⟨fun xs f' h => ?_, fun c f' h => (by cases h)⟩
    cases h
    have : adv b (pc + (exsCode vs []).length) ([].reverse ++ b.m.stack) = b := by subst hn; rfl
    rw [this]; exact Goes.refl _ _
  | x :: l, hx, pc, b, f, hC, hn, h0 => by
    rw [exsCode] at hC ⊢
    obtain ⟨h1, h2⟩ := hx x (by simp) pc b f hC.left hn h0
    rw [exsRun]
    cases e1 : exRun vs b.m.cells x f with
    | error q =>
      obtain ⟨c, k⟩ := q
      refine ⟨fun xs f' h => (by cases h), fun c' f' h => ?_⟩
      cases h
      exact h2 _ _ e1
    | ok q =>
      obtain ⟨v, f1⟩ := q
      have g1 := h1 _ _ e1
      obtain ⟨k1, k2⟩ := exs_sim vs l (fun y hy => hx y (by simp [hy])) (pc + (exCode vs x).length) (adv b (pc + (exCode vs x).length) (v :: b.m.stack)) f1 hC.right rfl h0
      change (∀ xs f', exsRun vs b.m.cells l f1 = _ → _) at k1
      change (∀ c f', exsRun vs b.m.cells l f1 = _ → _) at k2
      simp only
      cases e2 : exsRun vs b.m.cells l f1 with
      | error q =>
        obtain ⟨c, k⟩ := q
        refine ⟨fun xs f' h => (by cases h), fun c' f' h => ?_⟩
        cases h
        obtain ⟨b', g2, s2⟩ := k2 _ _ e2
        exact ⟨b', g1.trans g2, s2⟩
      | ok q =>
        obtain ⟨xs, f2⟩ := q
        refine ⟨fun ys f' h => ?_, fun c' f' h => (by cases h)⟩
        cases h
        have g2 := g1.trans (k1 _ _ e2)
        have e : adv (adv b (pc + (exCode vs x).length) (v :: b.m.stack)) (pc + (exCode vs x).length + (exsCode vs l).length) (xs.reverse ++ (v :: b.m.stack)) = adv b (pc + (exCode vs x ++ exsCode vs l).length) ((v :: xs).reverse ++ b.m.stack) := by
          simp only [adv, List.length_append, List.reverse_cons, List.append_assoc, List.cons_append, List.nil_append, Nat.add_assoc]
        rw [← e]; exact g2
theorem ex_sim (vs : List Va) (x : Ex) {nv : Nat} : ExV nv x → ExSim C inp vs x := by
  refine Ex.ind (P := fun x => ExV nv x → ExSim C inp vs x) ?_ x
  intro op v n l ih hV pc b f hC hn h0
  rw [ExV] at hV
  obtain ⟨hop, hlp, -, -, hsV⟩ := hV
  rw [exCode] at hC ⊢
  obtain ⟨h1, h2⟩ := exs_sim vs l (fun y hy => ih y hy (hsV.mem y hy)) pc b f hC.left hn h0
  have hx := (hC.right).one
  rw [exRun]
  cases e1 : exsRun vs b.m.cells l f with
  | error q =>
    obtain ⟨c, k⟩ := q
    refine ⟨fun xs f' h => (by cases h), fun c' f' h => ?_⟩
    cases h
    exact h2 _ _ e1
  | ok q =>
    obtain ⟨xs, f1⟩ := q
    have g1 := h1 _ _ e1
    have hlen := exsLen vs b.m.cells l f e1
    cases f1 with
    | zero =>
      refine ⟨fun v f' h => (by cases h), fun c' f' h => ?_⟩
      cases h
      exact ⟨_, g1, rfl, rfl, rfl, .inl ⟨rfl, rfl, h0⟩⟩
    | succ f1 =>
      have g2 := g1.trans (Goes.step (f := f1) (b := adv b (pc + (exsCode vs l).length) (xs.reverse ++ b.m.stack)) h0 hx)
      have hof : oneF (f1 + 1) = .ok f1 := by simp [oneF]
      simp only [hof]
      have hlen' : (pc + (exsCode vs l).length) + 1 = pc + (exsCode vs l ++ [opIn vs op v n]).length := by rw [List.length_append, List.length_singleton, Nat.add_assoc]
      have hpl : (xs.length : Int) = partsOf op := by rw [hlen]; exact hlp
      by_cases q1 : op = 1
      · subst q1
        obtain rfl : xs = [] := List.eq_nil_of_length_eq_zero (by have : partsOf 1 = 0 := rfl; omega)
        refine ⟨fun w f' h => ?_, fun c' f' h => (by cases h)⟩
        cases h
        rw [← hlen']; exact g2
      by_cases q2 : op = 2
      · subst q2
        obtain rfl : xs = [] := List.eq_nil_of_length_eq_zero (by have : partsOf 2 = 0 := rfl; omega)
        refine ⟨fun w f' h => ?_, fun c' f' h => (by cases h)⟩
        cases h
        rw [← hlen']; exact g2
      by_cases q3 : op = 3
      · subst q3
        obtain ⟨a, rfl⟩ : ∃ a, xs = [a] := by
          match xs, hpl with
          | [a], _ => exact ⟨a, rfl⟩
          | [], h => exact absurd h (by decide)
          | _ :: _ :: _, h => have : partsOf 3 = 1 := rfl; rw [this, List.length_cons, List.length_cons] at h; omega
        by_cases hk : a < 0 ∨ sizeV vs v ≤ a
        · have hr : opRun vs b.m.cells 3 v n [a] f1 = .error (11, f1) := if_pos hk
          rw [hr]
          refine ⟨fun w f' h => (by cases h), fun c' f' h => ?_⟩
          cases h
          have e : doIn inp false (opIn vs 3 v n) (bump (adv b (pc + (exsCode vs l).length) ([a].reverse ++ b.m.stack))) = { b with m := { b.m with next := pc + (exsCode vs l).length + 1, stack := b.m.stack, st := 13 } } := if_pos hk
          rw [e] at g2
          exact ⟨_, g2, rfl, rfl, rfl, .inr ⟨by decide, rfl⟩⟩
        · have hr : opRun vs b.m.cells 3 v n [a] f1 = .ok (b.m.cells.getD (cellOf vs v + a).toNat 0, f1) := if_neg hk
          rw [hr]
          refine ⟨fun w f' h => ?_, fun c' f' h => (by cases h)⟩
          cases h
          have e : doIn inp false (opIn vs 3 v n) (bump (adv b (pc + (exsCode vs l).length) ([a].reverse ++ b.m.stack))) = adv b (pc + (exsCode vs l).length + 1) (b.m.cells.getD (cellOf vs v + a).toNat 0 :: b.m.stack) := if_neg hk
          rw [e] at g2
          rw [← hlen']; exact g2
      have h48 : 4 ≤ op ∧ op ≤ 8 := by omega
      have hpo : partsOf op = 2 := by rw [partsOf, if_neg (by omega), if_neg q3, if_pos h48]
      obtain ⟨a, c, rfl⟩ : ∃ a c, xs = [a, c] := by
        match xs, hpl with
        | [a, c], _ => exact ⟨a, c, rfl⟩
        | [], h => rw [hpo] at h; simp at h
        | [_], h => rw [hpo] at h; simp at h
        | _ :: _ :: _ :: _, h => rw [hpo, List.length_cons, List.length_cons, List.length_cons] at h; omega
      have hr : opRun vs b.m.cells op v n [a, c] f1 = .ok (binV op a c, f1) := by rw [opRun, if_neg q1, if_neg q2, if_neg q3]; rfl
      rw [hr]
      refine ⟨fun w f' h => ?_, fun c' f' h => (by cases h)⟩
      cases h
      have hdo : ∀ (b1 : Be) (s : List Int), b1.m.stack = c :: a :: s → doIn inp false (opIn vs op v n) b1 = { b1 with m := { b1.m with stack := binV op a c :: s } } := fun b1 s hs => by
        rw [doIn]
        simp only [ex_op, if_neg q1, if_neg q2, if_neg q3, if_pos h48, hs]
      have e := hdo (bump (adv b (pc + (exsCode vs l).length) ([a, c].reverse ++ b.m.stack))) b.m.stack rfl
      rw [e] at g2
      rw [← hlen']; exact g2
end
end Go.Proofs.Ytbbghdkndbpmmaa

namespace Go.Proofs.Ytbbghdkndbpmmaa
open Go X
/-- Where a mind stands. -/
structure MInv (p : Pr) (inp : List Int) (o : Nat) (m : Mi) : Prop where
  at_ : m.st = 0 → m.next < (codeOf p).length ∧ (m.stack.length : Int) = hts ((codeOf p).take m.next)
  cells : m.cells.length = (sizes p.vars).toNat
  outn : m.outn ≤ o
  rd : m.rd ≤ inp.length
theorem hts_le {p : Pr} (hc : checkP p = 0) {i : Nat} (hi : i < (codeOf p).length) : hts ((codeOf p).take i) ≤ 24 := by
  cases i with
  | zero => rw [List.take_zero, hts_nil]; decide
  | succ j =>
    obtain ⟨x, hx⟩ : ∃ x, (codeOf p)[j]? = some x := ⟨_, List.getElem?_eq_getElem (by omega)⟩
    exact (code_fit hc hx).2.1
theorem MInv.ok {p : Pr} {inp : List Int} {b : Be} (hc : checkP p = 0) (h : MInv p inp b.out.length b.m) (h0 : b.m.st = 0) (hi : inp.length ≤ 1000000) (ho : b.out.length ≤ 1000000) (hl : (codeOf p).length ≤ 1000000) : ∃ x, StepOk (codeOf p) inp b x := by
  obtain ⟨h1, h2⟩ := h.at_ h0
  obtain ⟨x, hx⟩ : ∃ x, (codeOf p)[b.m.next]? = some x := ⟨_, List.getElem?_eq_getElem h1⟩
  obtain ⟨f1, f2, f3, f4, f5⟩ := code_fit hc hx
  obtain ⟨-, -, hv1, h48⟩ := check_valid hc
  have h24 := hts_le hc h1
  have hcl := h.cells
  have hrd := h.rd
  have hsn : (0 : Int) ≤ sizes p.vars := sizes_nonneg hv1
  refine ⟨x, h0, hx, by omega, ?_, fun ho => ?_, by omega, by omega, hl, by omega, ho, h.outn⟩
  · rw [show ((b.m.cells.length : Nat) : Int) = sizes p.vars by omega]; exact f5
  · obtain ⟨j, e, -⟩ := code_jump hc (List.mem_of_getElem? hx) ho
    omega
theorem MInv.step {p : Pr} {inp : List Int} {b : Be} {x : In} {keep : Bool} (hc : checkP p = 0) (h : MInv p inp b.out.length b.m) (hk : StepOk (codeOf p) inp b x) :
    MInv p inp (stepB (codeOf p) inp keep b).out.length (stepB (codeOf p) inp keep b).m ∧ b.out.length ≤ (stepB (codeOf p) inp keep b).out.length ∧ (stepB (codeOf p) inp keep b).out.length ≤ b.out.length + 1 ∧ ((stepB (codeOf p) inp keep b).kept = b.kept ∨ (stepB (codeOf p) inp keep b).kept = (stepB (codeOf p) inp keep b).m ∧ (stepB (codeOf p) inp keep b).m.st = 0) := by
  obtain ⟨⟨next, stack, rd, outn, st, cells⟩, kept, out, wrong⟩ := b
  obtain ⟨hst, hx, hpop, -, -, -, -, -, -, -, -⟩ := hk
  obtain ⟨hat, hcl, hon, hrd⟩ := h
  simp only at hst hx hpop hat hcl hon hrd
  subst hst
  obtain ⟨hlt, hn⟩ := hat rfl
  obtain ⟨f1, f2, f3, f4, -⟩ := code_fit hc hx
  have hd : hts ((codeOf p).take (next + 1)) = hts ((codeOf p).take next) + (popB x.op - popA x.op) := by rw [takeS hx, hts_app, hts_one]; rfl
  have hjmp := fun ho => code_jump hc (List.mem_of_getElem? hx) ho
  rw [stepB, hx]
  obtain ⟨op, a, bb, n⟩ := x
  simp only [bump] at hd f1 f3 f4 hjmp hpop ⊢
  have adv : op ≠ 16 → next + 1 < (codeOf p).length := fun h => by
    have : ¬ next = (codeOf p).length - 1 := fun e => h (f4.2 e)
    omega
  clear f2 hat hx f4
  by_cases h1 : op = 1
  · subst h1
    have adv := adv
    simp only [popA, popB] at hd hpop
    simp at hd hpop
    rw [show doIn inp keep ⟨1, a, bb, n⟩ ⟨⟨next + 1, stack, rd, outn, 0, cells⟩, kept, out, wrong⟩ = ⟨⟨next + 1, n :: stack, rd, outn, 0, cells⟩, kept, out, wrong⟩ from rfl]
    dsimp only
    exact ⟨⟨fun _ => ⟨adv (by decide), by first | omega | (simp only [List.length_cons, List.length_append, List.length_nil]; omega)⟩, hcl, by first | omega | (simp only [List.length_cons, List.length_append, List.length_nil]; omega), by first | omega | (simp only [List.length_cons, List.length_append, List.length_nil]; omega)⟩, by first | omega | (simp only [List.length_cons, List.length_append, List.length_nil]; omega), by first | omega | (simp only [List.length_cons, List.length_append, List.length_nil]; omega), .inl rfl⟩
  by_cases h2 : op = 2
  · subst h2
    have adv := adv
    simp only [popA, popB] at hd hpop
    simp at hd hpop
    rw [show doIn inp keep ⟨2, a, bb, n⟩ ⟨⟨next + 1, stack, rd, outn, 0, cells⟩, kept, out, wrong⟩ = ⟨⟨next + 1, cells.getD a.toNat 0 :: stack, rd, outn, 0, cells⟩, kept, out, wrong⟩ from rfl]
    dsimp only
    exact ⟨⟨fun _ => ⟨adv (by decide), by first | omega | (simp only [List.length_cons, List.length_append, List.length_nil]; omega)⟩, hcl, by first | omega | (simp only [List.length_cons, List.length_append, List.length_nil]; omega), by first | omega | (simp only [List.length_cons, List.length_append, List.length_nil]; omega)⟩, by first | omega | (simp only [List.length_cons, List.length_append, List.length_nil]; omega), by first | omega | (simp only [List.length_cons, List.length_append, List.length_nil]; omega), .inl rfl⟩
  by_cases h3 : op = 3
  · subst h3
    have adv := adv
    simp only [popA, popB] at hd hpop
    simp at hd hpop
    obtain ⟨k, s, rfl⟩ : ∃ n s, stack = n :: s := by
      cases stack with
      | nil => simp at hpop
      | cons n s => exact ⟨n, s, rfl⟩
    simp only [List.length_cons] at hn
    by_cases hk : k < 0 ∨ bb ≤ k
    · skip
      rw [show doIn inp keep ⟨3, a, bb, n⟩ ⟨⟨next + 1, k :: s, rd, outn, 0, cells⟩, kept, out, wrong⟩ = ⟨⟨next + 1, s, rd, outn, 13, cells⟩, kept, out, wrong⟩ from by simp [doIn, hk]]
      dsimp only
      exact ⟨⟨fun q => by simp at q, hcl, by first | omega | (simp only [List.length_cons, List.length_append, List.length_nil]; omega), by first | omega | (simp only [List.length_cons, List.length_append, List.length_nil]; omega)⟩, by first | omega | (simp only [List.length_cons, List.length_append, List.length_nil]; omega), by first | omega | (simp only [List.length_cons, List.length_append, List.length_nil]; omega), .inl rfl⟩
    · skip
      rw [show doIn inp keep ⟨3, a, bb, n⟩ ⟨⟨next + 1, k :: s, rd, outn, 0, cells⟩, kept, out, wrong⟩ = ⟨⟨next + 1, cells.getD (a + k).toNat 0 :: s, rd, outn, 0, cells⟩, kept, out, wrong⟩ from by simp [doIn, hk]]
      dsimp only
      exact ⟨⟨fun _ => ⟨adv (by decide), by first | omega | (simp only [List.length_cons, List.length_append, List.length_nil]; omega)⟩, hcl, by first | omega | (simp only [List.length_cons, List.length_append, List.length_nil]; omega), by first | omega | (simp only [List.length_cons, List.length_append, List.length_nil]; omega)⟩, by first | omega | (simp only [List.length_cons, List.length_append, List.length_nil]; omega), by first | omega | (simp only [List.length_cons, List.length_append, List.length_nil]; omega), .inl rfl⟩
  by_cases h4 : op = 4
  · subst h4
    have adv := adv
    simp only [popA, popB] at hd hpop
    simp at hd hpop
    obtain ⟨y, z, s, rfl⟩ : ∃ y z s, stack = y :: z :: s := by
      cases stack with
      | nil => simp at hpop
      | cons y s => cases s with
        | nil => simp at hpop
        | cons z s => exact ⟨y, z, s, rfl⟩
    simp only [List.length_cons] at hn
    rw [show doIn inp keep ⟨4, a, bb, n⟩ ⟨⟨next + 1, y :: z :: s, rd, outn, 0, cells⟩, kept, out, wrong⟩ = ⟨⟨next + 1, binV 4 z y :: s, rd, outn, 0, cells⟩, kept, out, wrong⟩ from rfl]
    dsimp only
    exact ⟨⟨fun _ => ⟨adv (by decide), by first | omega | (simp only [List.length_cons, List.length_append, List.length_nil]; omega)⟩, hcl, by first | omega | (simp only [List.length_cons, List.length_append, List.length_nil]; omega), by first | omega | (simp only [List.length_cons, List.length_append, List.length_nil]; omega)⟩, by first | omega | (simp only [List.length_cons, List.length_append, List.length_nil]; omega), by first | omega | (simp only [List.length_cons, List.length_append, List.length_nil]; omega), .inl rfl⟩
  by_cases h5 : op = 5
  · subst h5
    have adv := adv
    simp only [popA, popB] at hd hpop
    simp at hd hpop
    obtain ⟨y, z, s, rfl⟩ : ∃ y z s, stack = y :: z :: s := by
      cases stack with
      | nil => simp at hpop
      | cons y s => cases s with
        | nil => simp at hpop
        | cons z s => exact ⟨y, z, s, rfl⟩
    simp only [List.length_cons] at hn
    rw [show doIn inp keep ⟨5, a, bb, n⟩ ⟨⟨next + 1, y :: z :: s, rd, outn, 0, cells⟩, kept, out, wrong⟩ = ⟨⟨next + 1, binV 5 z y :: s, rd, outn, 0, cells⟩, kept, out, wrong⟩ from rfl]
    dsimp only
    exact ⟨⟨fun _ => ⟨adv (by decide), by first | omega | (simp only [List.length_cons, List.length_append, List.length_nil]; omega)⟩, hcl, by first | omega | (simp only [List.length_cons, List.length_append, List.length_nil]; omega), by first | omega | (simp only [List.length_cons, List.length_append, List.length_nil]; omega)⟩, by first | omega | (simp only [List.length_cons, List.length_append, List.length_nil]; omega), by first | omega | (simp only [List.length_cons, List.length_append, List.length_nil]; omega), .inl rfl⟩
  by_cases h6 : op = 6
  · subst h6
    have adv := adv
    simp only [popA, popB] at hd hpop
    simp at hd hpop
    obtain ⟨y, z, s, rfl⟩ : ∃ y z s, stack = y :: z :: s := by
      cases stack with
      | nil => simp at hpop
      | cons y s => cases s with
        | nil => simp at hpop
        | cons z s => exact ⟨y, z, s, rfl⟩
    simp only [List.length_cons] at hn
    rw [show doIn inp keep ⟨6, a, bb, n⟩ ⟨⟨next + 1, y :: z :: s, rd, outn, 0, cells⟩, kept, out, wrong⟩ = ⟨⟨next + 1, binV 6 z y :: s, rd, outn, 0, cells⟩, kept, out, wrong⟩ from rfl]
    dsimp only
    exact ⟨⟨fun _ => ⟨adv (by decide), by first | omega | (simp only [List.length_cons, List.length_append, List.length_nil]; omega)⟩, hcl, by first | omega | (simp only [List.length_cons, List.length_append, List.length_nil]; omega), by first | omega | (simp only [List.length_cons, List.length_append, List.length_nil]; omega)⟩, by first | omega | (simp only [List.length_cons, List.length_append, List.length_nil]; omega), by first | omega | (simp only [List.length_cons, List.length_append, List.length_nil]; omega), .inl rfl⟩
  by_cases h7 : op = 7
  · subst h7
    have adv := adv
    simp only [popA, popB] at hd hpop
    simp at hd hpop
    obtain ⟨y, z, s, rfl⟩ : ∃ y z s, stack = y :: z :: s := by
      cases stack with
      | nil => simp at hpop
      | cons y s => cases s with
        | nil => simp at hpop
        | cons z s => exact ⟨y, z, s, rfl⟩
    simp only [List.length_cons] at hn
    rw [show doIn inp keep ⟨7, a, bb, n⟩ ⟨⟨next + 1, y :: z :: s, rd, outn, 0, cells⟩, kept, out, wrong⟩ = ⟨⟨next + 1, binV 7 z y :: s, rd, outn, 0, cells⟩, kept, out, wrong⟩ from rfl]
    dsimp only
    exact ⟨⟨fun _ => ⟨adv (by decide), by first | omega | (simp only [List.length_cons, List.length_append, List.length_nil]; omega)⟩, hcl, by first | omega | (simp only [List.length_cons, List.length_append, List.length_nil]; omega), by first | omega | (simp only [List.length_cons, List.length_append, List.length_nil]; omega)⟩, by first | omega | (simp only [List.length_cons, List.length_append, List.length_nil]; omega), by first | omega | (simp only [List.length_cons, List.length_append, List.length_nil]; omega), .inl rfl⟩
  by_cases h8 : op = 8
  · subst h8
    have adv := adv
    simp only [popA, popB] at hd hpop
    simp at hd hpop
    obtain ⟨y, z, s, rfl⟩ : ∃ y z s, stack = y :: z :: s := by
      cases stack with
      | nil => simp at hpop
      | cons y s => cases s with
        | nil => simp at hpop
        | cons z s => exact ⟨y, z, s, rfl⟩
    simp only [List.length_cons] at hn
    rw [show doIn inp keep ⟨8, a, bb, n⟩ ⟨⟨next + 1, y :: z :: s, rd, outn, 0, cells⟩, kept, out, wrong⟩ = ⟨⟨next + 1, binV 8 z y :: s, rd, outn, 0, cells⟩, kept, out, wrong⟩ from rfl]
    dsimp only
    exact ⟨⟨fun _ => ⟨adv (by decide), by first | omega | (simp only [List.length_cons, List.length_append, List.length_nil]; omega)⟩, hcl, by first | omega | (simp only [List.length_cons, List.length_append, List.length_nil]; omega), by first | omega | (simp only [List.length_cons, List.length_append, List.length_nil]; omega)⟩, by first | omega | (simp only [List.length_cons, List.length_append, List.length_nil]; omega), by first | omega | (simp only [List.length_cons, List.length_append, List.length_nil]; omega), .inl rfl⟩
  by_cases h9 : op = 9
  · subst h9
    have adv := adv
    simp only [popA, popB] at hd hpop
    simp at hd hpop
    obtain ⟨k, s, rfl⟩ : ∃ n s, stack = n :: s := by
      cases stack with
      | nil => simp at hpop
      | cons n s => exact ⟨n, s, rfl⟩
    simp only [List.length_cons] at hn
    rw [show doIn inp keep ⟨9, a, bb, n⟩ ⟨⟨next + 1, k :: s, rd, outn, 0, cells⟩, kept, out, wrong⟩ = ⟨⟨next + 1, s, rd, outn, 0, cells.set a.toNat k⟩, kept, out, wrong⟩ from rfl]
    dsimp only
    exact ⟨⟨fun _ => ⟨adv (by decide), by first | omega | (simp only [List.length_cons, List.length_append, List.length_nil]; omega)⟩, by simpa using hcl, by first | omega | (simp only [List.length_cons, List.length_append, List.length_nil]; omega), by first | omega | (simp only [List.length_cons, List.length_append, List.length_nil]; omega)⟩, by first | omega | (simp only [List.length_cons, List.length_append, List.length_nil]; omega), by first | omega | (simp only [List.length_cons, List.length_append, List.length_nil]; omega), .inl rfl⟩
  by_cases h10 : op = 10
  · subst h10
    have adv := adv
    simp only [popA, popB] at hd hpop
    simp at hd hpop
    obtain ⟨y, k, s, rfl⟩ : ∃ y z s, stack = y :: z :: s := by
      cases stack with
      | nil => simp at hpop
      | cons y s => cases s with
        | nil => simp at hpop
        | cons z s => exact ⟨y, z, s, rfl⟩
    simp only [List.length_cons] at hn
    by_cases hk : k < 0 ∨ bb ≤ k
    · skip
      rw [show doIn inp keep ⟨10, a, bb, n⟩ ⟨⟨next + 1, y :: k :: s, rd, outn, 0, cells⟩, kept, out, wrong⟩ = ⟨⟨next + 1, s, rd, outn, 13, cells⟩, kept, out, wrong⟩ from by simp [doIn, hk]]
      dsimp only
      exact ⟨⟨fun q => by simp at q, hcl, by first | omega | (simp only [List.length_cons, List.length_append, List.length_nil]; omega), by first | omega | (simp only [List.length_cons, List.length_append, List.length_nil]; omega)⟩, by first | omega | (simp only [List.length_cons, List.length_append, List.length_nil]; omega), by first | omega | (simp only [List.length_cons, List.length_append, List.length_nil]; omega), .inl rfl⟩
    · skip
      rw [show doIn inp keep ⟨10, a, bb, n⟩ ⟨⟨next + 1, y :: k :: s, rd, outn, 0, cells⟩, kept, out, wrong⟩ = ⟨⟨next + 1, s, rd, outn, 0, cells.set (a + k).toNat y⟩, kept, out, wrong⟩ from by simp [doIn, hk]]
      dsimp only
      exact ⟨⟨fun _ => ⟨adv (by decide), by first | omega | (simp only [List.length_cons, List.length_append, List.length_nil]; omega)⟩, by simpa using hcl, by first | omega | (simp only [List.length_cons, List.length_append, List.length_nil]; omega), by first | omega | (simp only [List.length_cons, List.length_append, List.length_nil]; omega)⟩, by first | omega | (simp only [List.length_cons, List.length_append, List.length_nil]; omega), by first | omega | (simp only [List.length_cons, List.length_append, List.length_nil]; omega), .inl rfl⟩
  by_cases h11 : op = 11
  · subst h11
    have adv := adv
    simp only [popA, popB] at hd hpop
    simp at hd hpop
    obtain ⟨k, s, rfl⟩ : ∃ n s, stack = n :: s := by
      cases stack with
      | nil => simp at hpop
      | cons n s => exact ⟨n, s, rfl⟩
    simp only [List.length_cons] at hn
    by_cases hk : outn = out.length
    · skip
      rw [show doIn inp keep ⟨11, a, bb, n⟩ ⟨⟨next + 1, k :: s, rd, outn, 0, cells⟩, kept, out, wrong⟩ = ⟨⟨next + 1, s, rd, outn + 1, 0, cells⟩, kept, out ++ [k], wrong⟩ from by simp [doIn, hk]]
      dsimp only
      exact ⟨⟨fun _ => ⟨adv (by decide), by first | omega | (simp only [List.length_cons, List.length_append, List.length_nil]; omega)⟩, hcl, by first | omega | (simp only [List.length_cons, List.length_append, List.length_nil]; omega), by first | omega | (simp only [List.length_cons, List.length_append, List.length_nil]; omega)⟩, by first | omega | (simp only [List.length_cons, List.length_append, List.length_nil]; omega), by first | omega | (simp only [List.length_cons, List.length_append, List.length_nil]; omega), .inl rfl⟩
    · skip
      rw [show doIn inp keep ⟨11, a, bb, n⟩ ⟨⟨next + 1, k :: s, rd, outn, 0, cells⟩, kept, out, wrong⟩ = ⟨⟨next + 1, s, rd, outn + 1, 0, cells⟩, kept, out, (wrong || decide (out.getD outn 0 ≠ k))⟩ from by simp [doIn, hk]]
      dsimp only
      exact ⟨⟨fun _ => ⟨adv (by decide), by first | omega | (simp only [List.length_cons, List.length_append, List.length_nil]; omega)⟩, hcl, by first | omega | (simp only [List.length_cons, List.length_append, List.length_nil]; omega), by first | omega | (simp only [List.length_cons, List.length_append, List.length_nil]; omega)⟩, by first | omega | (simp only [List.length_cons, List.length_append, List.length_nil]; omega), by first | omega | (simp only [List.length_cons, List.length_append, List.length_nil]; omega), .inl rfl⟩
  by_cases h12 : op = 12
  · subst h12
    have adv := adv
    simp only [popA, popB] at hd hpop
    simp at hd hpop
    by_cases hk : inp.length ≤ rd
    · skip
      rw [show doIn inp keep ⟨12, a, bb, n⟩ ⟨⟨next + 1, stack, rd, outn, 0, cells⟩, kept, out, wrong⟩ = ⟨⟨next + 1, stack, rd, outn, 14, cells⟩, kept, out, wrong⟩ from by simp [doIn, hk]]
      dsimp only
      exact ⟨⟨fun q => by simp at q, hcl, by first | omega | (simp only [List.length_cons, List.length_append, List.length_nil]; omega), by first | omega | (simp only [List.length_cons, List.length_append, List.length_nil]; omega)⟩, by first | omega | (simp only [List.length_cons, List.length_append, List.length_nil]; omega), by first | omega | (simp only [List.length_cons, List.length_append, List.length_nil]; omega), .inl rfl⟩
    · skip
      rw [show doIn inp keep ⟨12, a, bb, n⟩ ⟨⟨next + 1, stack, rd, outn, 0, cells⟩, kept, out, wrong⟩ = ⟨⟨next + 1, stack, rd + 1, outn, 0, cells.set a.toNat (inp.getD rd 0)⟩, kept, out, wrong⟩ from by simp [doIn, hk]]
      dsimp only
      exact ⟨⟨fun _ => ⟨adv (by decide), by first | omega | (simp only [List.length_cons, List.length_append, List.length_nil]; omega)⟩, by simpa using hcl, by first | omega | (simp only [List.length_cons, List.length_append, List.length_nil]; omega), by first | omega | (simp only [List.length_cons, List.length_append, List.length_nil]; omega)⟩, by first | omega | (simp only [List.length_cons, List.length_append, List.length_nil]; omega), by first | omega | (simp only [List.length_cons, List.length_append, List.length_nil]; omega), .inl rfl⟩
  by_cases h13 : op = 13
  · subst h13
    have adv := adv
    simp only [popA, popB] at hd hpop
    simp at hd hpop
    obtain ⟨k, s, rfl⟩ : ∃ n s, stack = n :: s := by
      cases stack with
      | nil => simp at hpop
      | cons n s => exact ⟨n, s, rfl⟩
    simp only [List.length_cons] at hn
    obtain ⟨j, rfl, hj, hz⟩ := hjmp (by decide)
    have f3 := f3 (by decide)
    by_cases hk : k = 0
    · skip
      rw [show doIn inp keep ⟨13, (j : Int), bb, n⟩ ⟨⟨next + 1, k :: s, rd, outn, 0, cells⟩, kept, out, wrong⟩ = ⟨⟨j, s, rd, outn, 0, cells⟩, kept, out, wrong⟩ from by simp [doIn, hk]]
      dsimp only
      exact ⟨⟨fun _ => ⟨hj, by first | omega | (simp only [List.length_cons, List.length_append, List.length_nil]; omega)⟩, hcl, by first | omega | (simp only [List.length_cons, List.length_append, List.length_nil]; omega), by first | omega | (simp only [List.length_cons, List.length_append, List.length_nil]; omega)⟩, by first | omega | (simp only [List.length_cons, List.length_append, List.length_nil]; omega), by first | omega | (simp only [List.length_cons, List.length_append, List.length_nil]; omega), .inl rfl⟩
    · skip
      rw [show doIn inp keep ⟨13, (j : Int), bb, n⟩ ⟨⟨next + 1, k :: s, rd, outn, 0, cells⟩, kept, out, wrong⟩ = ⟨⟨next + 1, s, rd, outn, 0, cells⟩, kept, out, wrong⟩ from by simp [doIn, hk]]
      dsimp only
      exact ⟨⟨fun _ => ⟨adv (by decide), by first | omega | (simp only [List.length_cons, List.length_append, List.length_nil]; omega)⟩, hcl, by first | omega | (simp only [List.length_cons, List.length_append, List.length_nil]; omega), by first | omega | (simp only [List.length_cons, List.length_append, List.length_nil]; omega)⟩, by first | omega | (simp only [List.length_cons, List.length_append, List.length_nil]; omega), by first | omega | (simp only [List.length_cons, List.length_append, List.length_nil]; omega), .inl rfl⟩
  by_cases h14 : op = 14
  · subst h14
    have adv := adv
    simp only [popA, popB] at hd hpop
    simp at hd hpop
    obtain ⟨j, rfl, hj, hz⟩ := hjmp (by decide)
    have f3 := f3 (by decide)
    rw [show doIn inp keep ⟨14, (j : Int), bb, n⟩ ⟨⟨next + 1, stack, rd, outn, 0, cells⟩, kept, out, wrong⟩ = ⟨⟨j, stack, rd, outn, 0, cells⟩, kept, out, wrong⟩ from by simp [doIn]]
    dsimp only
    exact ⟨⟨fun _ => ⟨hj, by first | omega | (simp only [List.length_cons, List.length_append, List.length_nil]; omega)⟩, hcl, by first | omega | (simp only [List.length_cons, List.length_append, List.length_nil]; omega), by first | omega | (simp only [List.length_cons, List.length_append, List.length_nil]; omega)⟩, by first | omega | (simp only [List.length_cons, List.length_append, List.length_nil]; omega), by first | omega | (simp only [List.length_cons, List.length_append, List.length_nil]; omega), .inl rfl⟩
  by_cases h15 : op = 15
  · subst h15
    have adv := adv
    simp only [popA, popB] at hd hpop
    simp at hd hpop
    cases keep with
    | false =>
      rw [show doIn inp false ⟨15, a, bb, n⟩ ⟨⟨next + 1, stack, rd, outn, 0, cells⟩, kept, out, wrong⟩ = ⟨⟨next + 1, stack, rd, outn, 0, cells⟩, kept, out, wrong⟩ from rfl]
      dsimp only
      exact ⟨⟨fun _ => ⟨adv (by decide), by first | omega | (simp only [List.length_cons, List.length_append, List.length_nil]; omega)⟩, hcl, by first | omega | (simp only [List.length_cons, List.length_append, List.length_nil]; omega), by first | omega | (simp only [List.length_cons, List.length_append, List.length_nil]; omega)⟩, by first | omega | (simp only [List.length_cons, List.length_append, List.length_nil]; omega), by first | omega | (simp only [List.length_cons, List.length_append, List.length_nil]; omega), .inl rfl⟩
    | true =>
      rw [show doIn inp true ⟨15, a, bb, n⟩ ⟨⟨next + 1, stack, rd, outn, 0, cells⟩, kept, out, wrong⟩ = ⟨⟨next + 1, stack, rd, outn, 0, cells⟩, ⟨next + 1, stack, rd, outn, 0, cells⟩, out, wrong⟩ from rfl]
      dsimp only
      exact ⟨⟨fun _ => ⟨adv (by decide), by first | omega | (simp only [List.length_cons, List.length_append, List.length_nil]; omega)⟩, hcl, by first | omega | (simp only [List.length_cons, List.length_append, List.length_nil]; omega), by first | omega | (simp only [List.length_cons, List.length_append, List.length_nil]; omega)⟩, by first | omega | (simp only [List.length_cons, List.length_append, List.length_nil]; omega), by first | omega | (simp only [List.length_cons, List.length_append, List.length_nil]; omega), .inr ⟨rfl, rfl⟩⟩
  by_cases h16 : op = 16
  · subst h16
    have adv := adv
    simp only [popA, popB] at hd hpop
    simp at hd hpop
    rw [show doIn inp keep ⟨16, a, bb, n⟩ ⟨⟨next + 1, stack, rd, outn, 0, cells⟩, kept, out, wrong⟩ = ⟨⟨next + 1, stack, rd, outn, 1, cells⟩, kept, out, wrong⟩ from rfl]
    dsimp only
    exact ⟨⟨fun q => by simp at q, hcl, by first | omega | (simp only [List.length_cons, List.length_append, List.length_nil]; omega), by first | omega | (simp only [List.length_cons, List.length_append, List.length_nil]; omega)⟩, by first | omega | (simp only [List.length_cons, List.length_append, List.length_nil]; omega), by first | omega | (simp only [List.length_cons, List.length_append, List.length_nil]; omega), .inl rfl⟩
  have hA : popA op = 0 := by simp only [popA]; rw [if_neg h3, if_neg (show ¬ (4 ≤ op ∧ op ≤ 8) by omega), if_neg (show ¬ (op = 9 ∨ op = 11 ∨ op = 13) by omega), if_neg h10]
  have hB : popB op = 0 := by simp only [popB]; rw [if_neg (show ¬ (1 ≤ op ∧ op ≤ 8) by omega)]
  rw [hA, hB] at hd
  simp only [doIn]
  rw [if_neg h1, if_neg h2, if_neg h3, if_neg (show ¬ (4 ≤ op ∧ op ≤ 8) by omega), if_neg h9, if_neg h10, if_neg h11, if_neg h12, if_neg h13, if_neg h14, if_neg h15, if_neg h16]
  dsimp only
  exact ⟨⟨fun _ => ⟨adv h16, by show (stack.length : Int) = hts ((codeOf p).take (next + 1)); omega⟩, hcl, by omega, by omega⟩, by omega, by omega, .inl rfl⟩
end Go.Proofs.Ytbbghdkndbpmmaa

namespace Go.Proofs.Ytbbghdkndbpmmaa
open Go X
section
variable {C : List In} {inp : List Int}
/-- The machine stands as the runner does. -/
structure Rel (inp : List Int) (pc : Nat) (s : RS) (b : Be) : Prop where
  next : b.m.next = pc
  stack : b.m.stack = []
  outn : b.m.outn = s.out.length
  st : b.m.st = 0
  cells : b.m.cells = s.cells
  out : b.out = s.out
  wrong : b.wrong = false
  inp : s.inp = inp.drop b.m.rd
def Done (c : Int) (s : RS) (b : Be) : Prop := b.m.cells = s.cells ∧ b.out = s.out ∧ b.wrong = false ∧ Fin c s.left b
theorem exS_sim {vs : List Va} {nv : Nat} {x : Ex} (hV : ExV nv x) {pc : Nat} {b : Be} {s : RS} (hC : At_ C pc (exCode vs x)) (hn : b.m.next = pc) (h0 : b.m.st = 0) (hc : b.m.cells = s.cells) (ho : b.out = s.out) (hw : b.wrong = false) :
    (∀ v s', exS vs x s = .ok (v, s') → Goes C inp s.left b s'.left (adv b (pc + (exCode vs x).length) (v :: b.m.stack)) ∧ s' = { s with left := s'.left }) ∧
    (∀ c s', exS vs x s = .error (c, s') → ∃ b', Goes C inp s.left b s'.left b' ∧ Done c s' b') := by
  obtain ⟨h1, h2⟩ := ex_sim (inp := inp) vs x hV pc b s.left hC hn h0
  rw [hc] at h1 h2
  rw [exS]
  cases e : exRun vs s.cells x s.left with
  | error q =>
    obtain ⟨c, k⟩ := q
    refine ⟨fun v s' h => (by cases h), fun c' s' h => ?_⟩
    cases h
    obtain ⟨b', g, a1, a2, a3, a4⟩ := h2 _ _ e
    exact ⟨b', g, a1.trans hc, a2.trans ho, a3.trans hw, a4⟩
  | ok q =>
    obtain ⟨v, k⟩ := q
    refine ⟨fun v' s' h => ?_, fun c' s' h => (by cases h)⟩
    cases h
    exact ⟨h1 _ _ e, rfl⟩
/-- One instruction of the statement's own, behind its expressions. -/
theorem one_sim {f : Nat} {b b1 : Be} {s1 : RS} {x : In} (g : Goes C inp f b s1.left b1) (h0 : b1.m.st = 0) (hx : C[b1.m.next]? = some x) (hc : b1.m.cells = s1.cells) (ho : b1.out = s1.out) (hw : b1.wrong = false) :
    (∀ s2, oneS s1 = .ok s2 → Goes C inp f b s2.left (doIn inp false x (bump b1)) ∧ s2 = { s1 with left := s2.left }) ∧
    (∀ c s2, oneS s1 = .error (c, s2) → ∃ b', Goes C inp f b s2.left b' ∧ Done c s2 b') := by
  obtain ⟨cells, i, o, left⟩ := s1
  cases left with
  | zero =>
    refine ⟨fun s2 h => (by cases h), fun c s2 h => ?_⟩
    cases h
    exact ⟨b1, g, hc, ho, hw, .inl ⟨rfl, rfl, h0⟩⟩
  | succ left =>
    refine ⟨fun s2 h => ?_, fun c s2 h => ?_⟩
    · have e : oneS ⟨cells, i, o, left + 1⟩ = .ok ⟨cells, i, o, left⟩ := by simp [oneS]
      rw [e] at h; cases h
      exact ⟨g.trans (Goes.step h0 hx), rfl⟩
    · have e : oneS ⟨cells, i, o, left + 1⟩ = .ok ⟨cells, i, o, left⟩ := by simp [oneS]
      rw [e] at h; cases h
theorem is_sim {vs : List Va} {nv : Nat} {x : Ex} (hV : ExV nv x) {pc t : Nat} {b : Be} {s : RS} (hC : At_ C pc (exCode vs x ++ [⟨13, (t : Nat), 0, 0⟩])) (hR : Rel inp pc s b) :
    (∀ v s', isS vs x s = .ok (v, s') → ∃ b', Goes C inp s.left b s'.left b' ∧ Rel inp (if v then pc + (exCode vs x).length + 1 else t) s' b') ∧
    (∀ c s', isS vs x s = .error (c, s') → ∃ b', Goes C inp s.left b s'.left b' ∧ Done c s' b') := by
  obtain ⟨h1, h2⟩ := exS_sim (inp := inp) hV hC.left hR.next hR.st hR.cells hR.out hR.wrong
  rw [isS]
  cases e : exS vs x s with
  | error q =>
    refine ⟨fun v s' h => (by cases h), fun c' s' h => ?_⟩
    cases h
    exact h2 _ _ e
  | ok q =>
    obtain ⟨n, s1⟩ := q
    obtain ⟨g1, e1⟩ := h1 _ _ e
    simp only
    obtain ⟨k1, k2⟩ := one_sim g1 hR.st hC.right.one (by rw [e1]; exact hR.cells) (by rw [e1]; exact hR.out) hR.wrong
    cases e2 : oneS s1 with
    | error q =>
      refine ⟨fun v s' h => (by cases h), fun c' s' h => ?_⟩
      cases h
      exact k2 _ _ e2
    | ok s2 =>
      obtain ⟨g2, e3⟩ := k1 _ e2
      refine ⟨fun v s' h => ?_, fun c' s' h => (by cases h)⟩
      cases h
      refine ⟨_, g2, ?_⟩
      have hs2 : s2 = { s with left := s2.left } := by rw [e1] at e3; exact e3
      have ho : s2.out = s.out := by rw [hs2]
      have hc : s2.cells = s.cells := by rw [hs2]
      have hi : s2.inp = s.inp := by rw [hs2]
      by_cases hn : n = 0
      · subst hn
        rw [if_neg (by decide)]
        have ed : doIn inp false ⟨13, (t : Nat), 0, 0⟩ (bump (adv b (pc + (exCode vs x).length) (0 :: b.m.stack))) = adv b t b.m.stack := rfl
        rw [ed]
        exact ⟨rfl, hR.stack, by rw [ho]; exact hR.outn, hR.st, by rw [hc]; exact hR.cells, by rw [ho]; exact hR.out, hR.wrong, by rw [hi]; exact hR.inp⟩
      · rw [if_pos (by simpa using hn)]
        have ed : doIn inp false ⟨13, (t : Nat), 0, 0⟩ (bump (adv b (pc + (exCode vs x).length) (n :: b.m.stack))) = adv b (pc + (exCode vs x).length + 1) b.m.stack := if_neg hn
        rw [ed]
        exact ⟨rfl, hR.stack, by rw [ho]; exact hR.outn, hR.st, by rw [hc]; exact hR.cells, by rw [ho]; exact hR.out, hR.wrong, by rw [hi]; exact hR.inp⟩
def StSim (C : List In) (inp : List Int) (vs : List Va) (F : St → RS → Option RR) (x : St) : Prop := ∀ (pc : Nat) (b : Be) (s : RS) (r : RR), F x s = some r → At_ C pc (stCode vs x pc) → Rel inp pc s b →
  (∀ s', r = .ok s' → ∃ b', Goes C inp s.left b s'.left b' ∧ Rel inp (pc + (stCode vs x pc).length) s' b') ∧ (∀ c s', r = .error (c, s') → ∃ b', Goes C inp s.left b s'.left b' ∧ Done c s' b')
theorem list_sim {vs : List Va} {F : St → RS → Option RR} : ∀ (l : List St), (∀ x ∈ l, StSim C inp vs F x) → ∀ (pc : Nat) (b : Be) (s : RS) (r : RR), listG F l s = some r → At_ C pc (stsCode vs l pc) → Rel inp pc s b →
  (∀ s', r = .ok s' → ∃ b', Goes C inp s.left b s'.left b' ∧ Rel inp (pc + (stsCode vs l pc).length) s' b') ∧ (∀ c s', r = .error (c, s') → ∃ b', Goes C inp s.left b s'.left b' ∧ Done c s' b')
  | [], _, pc, b, s, r, h, _, hR => by
    cases h
    exact ⟨fun s' e => by cases e; exact ⟨b, Goes.refl _ _, hR⟩, fun c s' e => (by cases e)⟩
  | x :: l, hx, pc, b, s, r, h, hC, hR => by
    rw [stsCode] at hC ⊢
    rw [listG] at h
    cases e : F x s with
    | none => rw [e] at h; cases h
    | some q =>
      obtain ⟨k1, k2⟩ := hx x (by simp) pc b s q e hC.left hR
      rw [e] at h
      cases q with
      | error q =>
        cases h
        refine ⟨fun s' e => (by cases e), fun c s' e => ?_⟩
        exact k2 c s' e
      | ok s1 =>
        obtain ⟨b1, g1, R1⟩ := k1 s1 rfl
        obtain ⟨j1, j2⟩ := list_sim l (fun y hy => hx y (by simp [hy])) (pc + (stCode vs x pc).length) b1 s1 r h hC.right R1
        refine ⟨fun s' e => ?_, fun c s' e => ?_⟩
        · obtain ⟨b', g, R⟩ := j1 s' e
          exact ⟨b', g1.trans g, by rw [List.length_append, ← Nat.add_assoc]; exact R⟩
        · obtain ⟨b', g, R⟩ := j2 c s' e
          exact ⟨b', g1.trans g, R⟩
end
end Go.Proofs.Ytbbghdkndbpmmaa

namespace Go.Proofs.Ytbbghdkndbpmmaa
open Go X
set_option maxHeartbeats 1000000
section
variable {C : List In} {inp : List Int}
theorem adv_rel {pc n : Nat} {b : Be} {s s1 : RS} (hR : Rel inp pc s b) (e : s1 = { s with left := s1.left }) : Rel inp n s1 (adv b n []) := by
  have ho : s1.out = s.out := by rw [e]
  have hc : s1.cells = s.cells := by rw [e]
  have hi : s1.inp = s.inp := by rw [e]
  exact ⟨rfl, rfl, by rw [ho]; exact hR.outn, hR.st, by rw [hc]; exact hR.cells, by rw [ho]; exact hR.out, hR.wrong, by rw [hi]; exact hR.inp⟩
theorem drop_cons {l : List Int} {n : Nat} {x : Int} {r : List Int} (h : x :: r = l.drop n) : n < l.length ∧ l.getD n 0 = x ∧ r = l.drop (n + 1) := by
  have hn : n < l.length := by
    rcases Nat.lt_or_ge n l.length with h1 | h1
    · exact h1
    · rw [List.drop_of_length_le h1] at h; cases h
  rw [List.drop_eq_getElem_cons hn] at h
  simp only [List.cons.injEq] at h
  exact ⟨hn, by rw [List.getD_eq_getElem?_getD, List.getElem?_eq_getElem hn]; exact h.1.symm, h.2⟩
theorem st_sim (vs : List Va) (nv : Nat) : ∀ (g : Nat) (x : St), StV nv x → StSim C inp vs (stG vs g) x := by
  intro g
  induction g with
  | zero => intro x _ pc b s r h; cases h
  | succ g ih =>
  intro x hV pc b s r hr hC hR
  obtain ⟨op, v, e, f, body, els⟩ := x
  have hV0 := hV
  rw [StV] at hV
  obtain ⟨hop, hv, he, hf, -, -, hsb, hse⟩ := hV
  have hops : op = 1 ∨ op = 2 ∨ op = 3 ∨ op = 4 ∨ op = 5 ∨ op = 6 ∨ op = 7 := by omega
  rcases hops with rfl | rfl | rfl | rfl | rfl | rfl | rfl
  · -- the first cell is set
    have hc : stCode vs (.mk 1 v e f body els) pc = exCode vs e ++ [⟨9, cellOf vs v, 0, 0⟩] := by rw [stCode]; rfl
    rw [hc] at hC ⊢
    rw [stG, if_pos rfl] at hr
    cases hr
    obtain ⟨h1, h2⟩ := exS_sim (inp := inp) (he rfl).1 hC.left hR.next hR.st hR.cells hR.out hR.wrong
    rw [setS]
    cases e1 : exS vs e s with
    | error q => exact ⟨fun s' h => (by cases h), fun c s' h => by cases h; exact h2 _ _ e1⟩
    | ok q =>
      obtain ⟨n, s1⟩ := q
      obtain ⟨g1, q1⟩ := h1 _ _ e1
      rw [hR.stack] at g1
      have R1 := adv_rel (n := pc + (exCode vs e).length) hR q1
      obtain ⟨k1, k2⟩ := one_sim (b1 := adv b (pc + (exCode vs e).length) [n]) g1 R1.st hC.right.one R1.cells R1.out R1.wrong
      simp only
      cases e2 : oneS s1 with
      | error q => exact ⟨fun s' h => (by cases h), fun c s' h => by cases h; exact k2 _ _ e2⟩
      | ok s2 =>
        obtain ⟨g2, q2⟩ := k1 _ e2
        refine ⟨fun s' h => ?_, fun c s' h => (by cases h)⟩
        cases h
        refine ⟨_, g2, ?_⟩
        have ed : doIn inp false ⟨9, cellOf vs v, 0, 0⟩ (bump (adv b (pc + (exCode vs e).length) [n])) = { b with m := { b.m with next := pc + (exCode vs e).length + 1, stack := [], cells := b.m.cells.set (cellOf vs v).toNat n } } := rfl
        rw [ed]
        have h3 : s2 = { s with left := s2.left } := by rw [q1] at q2; exact q2
        have ho : s2.out = s.out := by rw [h3]
        have hcc : s2.cells = s.cells := by rw [h3]
        have hi : s2.inp = s.inp := by rw [h3]
        exact ⟨by simp [Nat.add_assoc], rfl, by show b.m.outn = s2.out.length; rw [ho]; exact hR.outn, hR.st, by show b.m.cells.set _ n = s2.cells.set _ n; rw [hcc, hR.cells], by show b.out = s2.out; rw [ho]; exact hR.out, hR.wrong, by show s2.inp = _; rw [hi]; exact hR.inp⟩
  · -- a cell is set
    have hc : stCode vs (.mk 2 v e f body els) pc = exCode vs e ++ (exCode vs f ++ [⟨10, cellOf vs v, sizeV vs v, 0⟩]) := by rw [stCode, ← List.append_assoc]; rfl
    rw [hc] at hC ⊢
    rw [stG, if_neg (by decide), if_pos rfl] at hr
    cases hr
    obtain ⟨h1, h2⟩ := exS_sim (inp := inp) (he rfl).1 hC.left hR.next hR.st hR.cells hR.out hR.wrong
    rw [putS]
    cases e1 : exS vs e s with
    | error q => exact ⟨fun s' h => (by cases h), fun c s' h => by cases h; exact h2 _ _ e1⟩
    | ok q =>
      obtain ⟨k, s1⟩ := q
      obtain ⟨g1, q1⟩ := h1 _ _ e1
      rw [hR.stack] at g1
      have R1 := adv_rel (n := pc + (exCode vs e).length) hR q1
      have hC2 := hC.right
      obtain ⟨j1, j2⟩ := exS_sim (inp := inp) (b := adv b (pc + (exCode vs e).length) [k]) (s := s1) (hf rfl).1 hC2.left rfl R1.st R1.cells R1.out R1.wrong
      simp only
      cases e2 : exS vs f s1 with
      | error q => exact ⟨fun s' h => (by cases h), fun c s' h => by cases h; obtain ⟨b', g2, d⟩ := j2 _ _ e2; exact ⟨b', g1.trans g2, d⟩⟩
      | ok q =>
        obtain ⟨n, s2⟩ := q
        obtain ⟨g2, q2⟩ := j1 _ _ e2
        have q12 : s2 = { s with left := s2.left } := by rw [q1] at q2; exact q2
        have R2 := adv_rel (n := pc + (exCode vs e).length + (exCode vs f).length) hR q12
        have g12 := g1.trans g2
        obtain ⟨k1, k2⟩ := one_sim (b1 := adv b (pc + (exCode vs e).length + (exCode vs f).length) [n, k]) g12 R2.st hC2.right.one R2.cells R2.out R2.wrong
        simp only
        cases e3 : oneS s2 with
        | error q => exact ⟨fun s' h => (by cases h), fun c s' h => by cases h; exact k2 _ _ e3⟩
        | ok s3 =>
          obtain ⟨g3, q3⟩ := k1 _ e3
          have h3 : s3 = { s with left := s3.left } := by rw [q12] at q3; exact q3
          have ho : s3.out = s.out := by rw [h3]
          have hcc : s3.cells = s.cells := by rw [h3]
          have hi : s3.inp = s.inp := by rw [h3]
          simp only
          by_cases hk : k < 0 ∨ sizeV vs v ≤ k
          · rw [if_pos hk]
            refine ⟨fun s' h => (by cases h), fun c s' h => ?_⟩
            cases h
            have ed : doIn inp false ⟨10, cellOf vs v, sizeV vs v, 0⟩ (bump (adv b (pc + (exCode vs e).length + (exCode vs f).length) [n, k])) = { b with m := { b.m with next := pc + (exCode vs e).length + (exCode vs f).length + 1, stack := [], st := 13 } } := if_pos hk
            rw [ed] at g3
            exact ⟨_, g3, by show b.m.cells = s3.cells; rw [hcc]; exact hR.cells, by show b.out = s3.out; rw [ho]; exact hR.out, hR.wrong, .inr ⟨by decide, rfl⟩⟩
          · rw [if_neg hk]
            refine ⟨fun s' h => ?_, fun c s' h => (by cases h)⟩
            cases h
            have ed : doIn inp false ⟨10, cellOf vs v, sizeV vs v, 0⟩ (bump (adv b (pc + (exCode vs e).length + (exCode vs f).length) [n, k])) = { b with m := { b.m with next := pc + (exCode vs e).length + (exCode vs f).length + 1, stack := [], cells := b.m.cells.set (cellOf vs v + k).toNat n } } := if_neg hk
            rw [ed] at g3
            exact ⟨_, g3, by simp only [List.length_append, List.length_singleton]; omega, rfl, by show b.m.outn = s3.out.length; rw [ho]; exact hR.outn, hR.st, by show b.m.cells.set _ n = s3.cells.set _ n; rw [hcc, hR.cells], by show b.out = s3.out; rw [ho]; exact hR.out, hR.wrong, by show s3.inp = _; rw [hi]; exact hR.inp⟩
  · -- it is printed
    have hc : stCode vs (.mk 3 v e f body els) pc = exCode vs e ++ [⟨11, 0, 0, 0⟩] := by rw [stCode]; rfl
    rw [hc] at hC ⊢
    rw [stG, if_neg (by decide), if_neg (by decide), if_pos rfl] at hr
    cases hr
    obtain ⟨h1, h2⟩ := exS_sim (inp := inp) (he rfl).1 hC.left hR.next hR.st hR.cells hR.out hR.wrong
    rw [printS]
    cases e1 : exS vs e s with
    | error q => exact ⟨fun s' h => (by cases h), fun c s' h => by cases h; exact h2 _ _ e1⟩
    | ok q =>
      obtain ⟨n, s1⟩ := q
      obtain ⟨g1, q1⟩ := h1 _ _ e1
      rw [hR.stack] at g1
      have R1 := adv_rel (n := pc + (exCode vs e).length) hR q1
      obtain ⟨k1, k2⟩ := one_sim (b1 := adv b (pc + (exCode vs e).length) [n]) g1 R1.st hC.right.one R1.cells R1.out R1.wrong
      simp only
      cases e2 : oneS s1 with
      | error q => exact ⟨fun s' h => (by cases h), fun c s' h => by cases h; exact k2 _ _ e2⟩
      | ok s2 =>
        obtain ⟨g2, q2⟩ := k1 _ e2
        refine ⟨fun s' h => ?_, fun c s' h => (by cases h)⟩
        cases h
        refine ⟨_, g2, ?_⟩
        have h3 : s2 = { s with left := s2.left } := by rw [q1] at q2; exact q2
        have ho : s2.out = s.out := by rw [h3]
        have hcc : s2.cells = s.cells := by rw [h3]
        have hi : s2.inp = s.inp := by rw [h3]
        have hol : b.m.outn = b.out.length := by rw [hR.outn, hR.out]
        have ed : doIn inp false ⟨11, 0, 0, 0⟩ (bump (adv b (pc + (exCode vs e).length) [n])) = { b with m := { b.m with next := pc + (exCode vs e).length + 1, stack := [], outn := b.m.outn + 1 }, out := b.out ++ [n] } := if_pos hol
        rw [ed]
        exact ⟨by simp [Nat.add_assoc], rfl, by show b.m.outn + 1 = (s2.out ++ [n]).length; rw [ho, hR.outn]; simp, hR.st, by show b.m.cells = s2.cells; rw [hcc, hR.cells], by show b.out ++ [n] = s2.out ++ [n]; rw [ho, hR.out], hR.wrong, by show s2.inp = _; rw [hi]; exact hR.inp⟩
  · -- it is read
    have hc : stCode vs (.mk 4 v e f body els) pc = [⟨12, cellOf vs v, 0, 0⟩] := by rw [stCode]; rfl
    rw [hc] at hC ⊢
    rw [stG, if_neg (by decide), if_neg (by decide), if_neg (by decide), if_pos rfl] at hr
    cases hr
    obtain ⟨k1, k2⟩ := one_sim (Goes.refl (C := C) (inp := inp) s.left b) hR.st (by rw [hR.next]; exact hC.one) hR.cells hR.out hR.wrong
    rw [readS]
    cases e2 : oneS s with
    | error q => exact ⟨fun s' h => (by cases h), fun c s' h => by cases h; exact k2 _ _ e2⟩
    | ok s1 =>
      obtain ⟨g2, q2⟩ := k1 _ e2
      have ho : s1.out = s.out := by rw [q2]
      have hcc : s1.cells = s.cells := by rw [q2]
      have hi : s1.inp = s.inp := by rw [q2]
      simp only
      cases e3 : s1.inp with
      | nil =>
        refine ⟨fun s' h => (by cases h), fun c s' h => ?_⟩
        cases h
        have hle : inp.length ≤ b.m.rd := by
          have := hR.inp; rw [← hi, e3] at this
          exact List.drop_eq_nil_iff.1 this.symm
        have ed : doIn inp false ⟨12, cellOf vs v, 0, 0⟩ (bump b) = { b with m := { b.m with next := b.m.next + 1, st := 14 } } := if_pos hle
        rw [ed] at g2
        exact ⟨_, g2, by show b.m.cells = s1.cells; rw [hcc]; exact hR.cells, by show b.out = s1.out; rw [ho]; exact hR.out, hR.wrong, .inr ⟨by decide, rfl⟩⟩
      | cons n r =>
        refine ⟨fun s' h => ?_, fun c s' h => (by cases h)⟩
        cases h
        obtain ⟨d1, d2, d3⟩ := drop_cons (l := inp) (n := b.m.rd) (x := n) (r := r) (by rw [← hR.inp, ← hi, e3])
        have ed : doIn inp false ⟨12, cellOf vs v, 0, 0⟩ (bump b) = { b with m := { b.m with next := b.m.next + 1, cells := b.m.cells.set (cellOf vs v).toNat (inp.getD b.m.rd 0), rd := b.m.rd + 1 } } := if_neg (by show ¬ inp.length ≤ b.m.rd; omega)
        rw [ed] at g2
        exact ⟨_, g2, by show b.m.next + 1 = _; rw [hR.next]; rfl, hR.stack, by show b.m.outn = s1.out.length; rw [ho]; exact hR.outn, hR.st, by show b.m.cells.set _ (inp.getD b.m.rd 0) = s1.cells.set _ n; rw [hcc, hR.cells, d2], by show b.out = s1.out; rw [ho]; exact hR.out, hR.wrong, d3⟩
  · -- as long as
    have hC0 := hC
    rw [stCode_5] at hC ⊢
    rw [stG_5] at hr
    obtain ⟨B, hB⟩ : ∃ B, B = stsCode vs body (pc + (exCode vs e).length + 1) := ⟨_, rfl⟩
    rw [← hB] at hC ⊢
    obtain ⟨i1, i2⟩ := is_sim (inp := inp) (he rfl).1 hC.left.left hR
    cases e1 : isS vs e s with
    | error q =>
      rw [e1] at hr
      cases hr
      refine ⟨fun s' h => (by cases h), fun c s' h => ?_⟩
      cases h
      exact i2 _ _ e1
    | ok q =>
      obtain ⟨bb, s1⟩ := q
      obtain ⟨b1, g1, R1⟩ := i1 _ _ e1
      rw [e1] at hr
      cases bb with
      | false =>
        cases hr
        refine ⟨fun s' h => ?_, fun c s' h => (by cases h)⟩
        cases h
        refine ⟨b1, g1, ?_⟩
        have el : pc + (exCode vs e ++ [(⟨13, (pc + (exCode vs e).length + 1 + B.length + 1 : Nat), 0, 0⟩ : In)] ++ B ++ [(⟨14, (pc : Nat), 0, 0⟩ : In)]).length = pc + (exCode vs e).length + 1 + B.length + 1 := by simp only [List.length_append, List.length_singleton]; omega
        rw [el]; exact R1
      | true =>
        simp only at hr
        rw [if_pos rfl] at R1
        have hCB : At_ C (pc + (exCode vs e).length + 1) B := by
          have := hC.left.right
          rw [List.length_append, List.length_singleton, ← Nat.add_assoc] at this; exact this
        cases e2 : listG (stG vs g) body s1 with
        | none => rw [e2] at hr; cases hr
        | some q =>
          obtain ⟨l1, l2⟩ := list_sim body (fun y hy => ih y (hsb.mem y hy)) (pc + (exCode vs e).length + 1) b1 s1 q e2 (by rw [← hB]; exact hCB) R1
          rw [e2] at hr
          cases q with
          | error q =>
            cases hr
            refine ⟨fun s' h => (by cases h), fun c s' h => ?_⟩
            obtain ⟨b', g2, d⟩ := l2 c s' h
            exact ⟨b', g1.trans g2, d⟩
          | ok s2 =>
            obtain ⟨b2, g2, R2⟩ := l1 s2 rfl
            rw [← hB] at R2
            have g12 := g1.trans g2
            have hj : C[b2.m.next]? = some ⟨14, (pc : Nat), 0, 0⟩ := by
              rw [R2.next]
              have := hC.right.one
              simp only [List.length_append, List.length_singleton] at this
              rw [← this]; congr 1; omega
            obtain ⟨k1, k2⟩ := one_sim g12 R2.st hj R2.cells R2.out R2.wrong
            simp only at hr
            cases e3 : oneS s2 with
            | error q =>
              rw [e3] at hr; cases hr
              exact ⟨fun s' h => (by cases h), fun c s' h => by cases h; exact k2 _ _ e3⟩
            | ok s3 =>
              rw [e3] at hr
              obtain ⟨g3, q3⟩ := k1 _ e3
              have ed : doIn inp false ⟨14, (pc : Nat), 0, 0⟩ (bump b2) = adv b2 pc [] := by show adv b2 pc b2.m.stack = _; rw [R2.stack]
              rw [ed] at g3
              have R3 : Rel inp pc s3 (adv b2 pc []) := adv_rel R2 q3
              obtain ⟨m1, m2⟩ := ih (.mk 5 v e f body els) hV0 pc (adv b2 pc []) s3 r hr hC0 R3
              rw [stCode_5, ← hB] at m1
              refine ⟨fun s' h => ?_, fun c s' h => ?_⟩
              · obtain ⟨b', g4, R4⟩ := m1 s' h; exact ⟨b', g3.trans g4, R4⟩
              · obtain ⟨b', g4, d⟩ := m2 c s' h; exact ⟨b', g3.trans g4, d⟩
  · -- if
    rw [stCode_6] at hC ⊢
    rw [stG_6] at hr
    obtain ⟨B, hB⟩ : ∃ B, B = stsCode vs body (pc + (exCode vs e).length + 1) := ⟨_, rfl⟩
    rw [← hB] at hC ⊢
    obtain ⟨O, hO⟩ : ∃ O, O = stsCode vs els (pc + (exCode vs e).length + 1 + B.length + 1) := ⟨_, rfl⟩
    rw [← hO] at hC ⊢
    obtain ⟨i1, i2⟩ := is_sim (inp := inp) (he rfl).1 hC.left.left.left hR
    have el : pc + (exCode vs e ++ [(⟨13, (pc + (exCode vs e).length + 1 + B.length + 1 : Nat), 0, 0⟩ : In)] ++ B ++ [(⟨14, (pc + (exCode vs e).length + 1 + B.length + 1 + O.length : Nat), 0, 0⟩ : In)] ++ O).length = pc + (exCode vs e).length + 1 + B.length + 1 + O.length := by simp only [List.length_append, List.length_singleton]; omega
    rw [el]
    have hCO : At_ C (pc + (exCode vs e).length + 1 + B.length + 1) O := by
      have := hC.right
      simp only [List.length_append, List.length_singleton] at this
      rw [show pc + (exCode vs e).length + 1 + B.length + 1 = pc + ((exCode vs e).length + 1 + B.length + 1) by omega]; exact this
    cases e1 : isS vs e s with
    | error q =>
      rw [e1] at hr; cases hr
      exact ⟨fun s' h => (by cases h), fun c s' h => by cases h; exact i2 _ _ e1⟩
    | ok q =>
      obtain ⟨bb, s1⟩ := q
      obtain ⟨b1, g1, R1⟩ := i1 _ _ e1
      rw [e1] at hr
      cases bb with
      | false =>
        simp only at hr
        rw [if_neg (by decide)] at R1
        obtain ⟨l1, l2⟩ := list_sim els (fun y hy => ih y (hse.mem y hy)) (pc + (exCode vs e).length + 1 + B.length + 1) b1 s1 r hr (by rw [← hO]; exact hCO) R1
        rw [← hO] at l1
        refine ⟨fun s' h => ?_, fun c s' h => ?_⟩
        · obtain ⟨b', g4, R4⟩ := l1 s' h; exact ⟨b', g1.trans g4, R4⟩
        · obtain ⟨b', g4, d⟩ := l2 c s' h; exact ⟨b', g1.trans g4, d⟩
      | true =>
        simp only at hr
        rw [if_pos rfl] at R1
        have hCB : At_ C (pc + (exCode vs e).length + 1) B := by
          have := hC.left.left.right
          rw [List.length_append, List.length_singleton, ← Nat.add_assoc] at this; exact this
        cases e2 : listG (stG vs g) body s1 with
        | none => rw [e2] at hr; cases hr
        | some q =>
          obtain ⟨l1, l2⟩ := list_sim body (fun y hy => ih y (hsb.mem y hy)) (pc + (exCode vs e).length + 1) b1 s1 q e2 (by rw [← hB]; exact hCB) R1
          rw [e2] at hr
          cases q with
          | error q =>
            cases hr
            refine ⟨fun s' h => (by cases h), fun c s' h => ?_⟩
            obtain ⟨b', g2, d⟩ := l2 c s' h
            exact ⟨b', g1.trans g2, d⟩
          | ok s2 =>
            obtain ⟨b2, g2, R2⟩ := l1 s2 rfl
            rw [← hB] at R2
            have g12 := g1.trans g2
            have hj : C[b2.m.next]? = some ⟨14, (pc + (exCode vs e).length + 1 + B.length + 1 + O.length : Nat), 0, 0⟩ := by
              rw [R2.next]
              have := hC.left.right.one
              simp only [List.length_append, List.length_singleton] at this
              rw [← this]; congr 1; omega
            obtain ⟨k1, k2⟩ := one_sim g12 R2.st hj R2.cells R2.out R2.wrong
            cases hr
            cases e3 : oneS s2 with
            | error q => exact ⟨fun s' h => (by cases h), fun c s' h => by cases h; exact k2 _ _ e3⟩
            | ok s3 =>
              obtain ⟨g3, q3⟩ := k1 _ e3
              refine ⟨fun s' h => ?_, fun c s' h => (by cases h)⟩
              cases h
              have ed : doIn inp false ⟨14, (pc + (exCode vs e).length + 1 + B.length + 1 + O.length : Nat), 0, 0⟩ (bump b2) = adv b2 (pc + (exCode vs e).length + 1 + B.length + 1 + O.length) [] := by show adv b2 _ b2.m.stack = _; rw [R2.stack]; rfl
              rw [ed] at g3
              exact ⟨_, g3, adv_rel R2 q3⟩
  · -- a commit
    have hc : stCode vs (.mk 7 v e f body els) pc = [⟨15, 0, 0, 0⟩] := by rw [stCode]; rfl
    rw [hc] at hC ⊢
    rw [stG, if_neg (by decide), if_neg (by decide), if_neg (by decide), if_neg (by decide), if_neg (by decide), if_neg (by decide), if_pos rfl] at hr
    cases hr
    obtain ⟨k1, k2⟩ := one_sim (Goes.refl (C := C) (inp := inp) s.left b) hR.st (by rw [hR.next]; exact hC.one) hR.cells hR.out hR.wrong
    cases e2 : oneS s with
    | error q => exact ⟨fun s' h => (by cases h), fun c s' h => by cases h; exact k2 _ _ e2⟩
    | ok s1 =>
      obtain ⟨g2, q2⟩ := k1 _ e2
      refine ⟨fun s' h => ?_, fun c s' h => (by cases h)⟩
      cases h
      have ed : doIn inp false ⟨15, 0, 0, 0⟩ (bump b) = adv b (pc + 1) [] := by show adv b (b.m.next + 1) b.m.stack = _; rw [hR.next, hR.stack]
      rw [ed] at g2
      exact ⟨_, g2, adv_rel hR q2⟩
end
/-- The machine's start. -/
def be0 (n : Nat) : Be := ⟨⟨0, [], 0, 0, 0, List.replicate n 0⟩, ⟨0, [], 0, 0, 0, List.replicate n 0⟩, [], false⟩
/-- Run comes to what the document's machine comes to. -/
theorem run_sim {p : Pr} (hc : checkP p = 0) {inp : List Int} {fuel : Nat} {c : Int} {s : RS} (h : RunIs p inp fuel c s) :
    ∃ b, runM (codeOf p) inp fuel (be0 (sizes p.vars).toNat) = (b, fuel - s.left) ∧ s.left ≤ fuel ∧ b.m.cells = s.cells ∧ b.out = s.out ∧ b.wrong = false ∧ (c = 0 ∧ b.m.st = 1 ∨ c = 13 ∧ b.m.st = 0 ∨ ((c = 11 ∨ c = 12) ∧ b.m.st = c + 2)) := by
  obtain ⟨g, r, hl, he⟩ := h
  have hcode : codeOf p = stsCode p.vars p.body 0 ++ [⟨16, 0, 0, 0⟩] := rfl
  have hAt : At_ (codeOf p) 0 (stsCode p.vars p.body 0 ++ [⟨16, 0, 0, 0⟩]) := fun i x hx => by rw [Nat.zero_add]; exact hx
  obtain ⟨hV, -⟩ := check_valid hc
  have R0 : Rel inp 0 (start p inp fuel) (be0 (sizes p.vars).toNat) := ⟨rfl, rfl, rfl, rfl, rfl, rfl, rfl, rfl⟩
  obtain ⟨l1, l2⟩ := list_sim p.body (fun y hy => st_sim p.vars p.vars.length g y (hV.mem y hy)) 0 (be0 (sizes p.vars).toNat) (start p inp fuel) r hl hAt.left R0
  have hrun0 : ∀ (k : Nat) (b' : Be), (k = 0 ∨ b'.m.st ≠ 0) → runM (codeOf p) inp k b' = (b', 0) := fun k b' h => by
    cases k with
    | zero => rfl
    | succ k => rcases h with h | h
                · cases h
                · rw [runM, if_pos h]
  have fin : ∀ (c : Int) (s' : RS) (b' : Be), Goes (codeOf p) inp fuel (be0 (sizes p.vars).toNat) s'.left b' → Done c s' b' → 0 < c → ∃ b, runM (codeOf p) inp fuel (be0 (sizes p.vars).toNat) = (b, fuel - s'.left) ∧ s'.left ≤ fuel ∧ b.m.cells = s'.cells ∧ b.out = s'.out ∧ b.wrong = false ∧ (c = 0 ∧ b.m.st = 1 ∨ c = 13 ∧ b.m.st = 0 ∨ ((c = 11 ∨ c = 12) ∧ b.m.st = c + 2)) := by
    intro c s' b' hg hd hc0
    obtain ⟨d1, d2, d3, d4⟩ := hd
    refine ⟨b', ?_, hg.1, d1, d2, d3, ?_⟩
    · rw [hg.2, hrun0 s'.left b' (by
        rcases d4 with ⟨-, e, -⟩ | ⟨e, e2⟩
        · exact .inl e
        · exact .inr (by omega))]
      simp
    · rcases d4 with ⟨e, -, e2⟩ | ⟨e, e2⟩
      · exact .inr (.inl ⟨e, e2⟩)
      · exact .inr (.inr ⟨e, e2⟩)
  cases r with
  | error q =>
    obtain ⟨c0, s0⟩ := q
    obtain ⟨b', g1, d⟩ := l2 c0 s0 rfl
    cases he
    exact fin _ _ b' g1 d (by
      obtain ⟨-, -, -, d4⟩ := d
      rcases d4 with ⟨e, -, -⟩ | ⟨e, -⟩ <;> omega)
  | ok s1 =>
    obtain ⟨b1, g1, R1⟩ := l1 s1 rfl
    have hx := hAt.right.one
    rw [← R1.next] at hx
    obtain ⟨k1, k2⟩ := one_sim g1 R1.st hx R1.cells R1.out R1.wrong
    cases e : oneS s1 with
    | error q =>
      obtain ⟨c0, s0⟩ := q
      obtain ⟨b', g2, d⟩ := k2 _ _ e
      have he' : endR (finR (.ok s1)) = (c0, s0) := by rw [finR, e]; rfl
      rw [he'] at he
      cases he
      obtain ⟨-, h13, -⟩ := oneS_less.2 _ _ e
      exact fin _ _ b' g2 d (by omega)
    | ok s2 =>
      obtain ⟨g2, q2⟩ := k1 _ e
      have he' : endR (finR (.ok s1)) = (0, s2) := by rw [finR, e]; rfl
      rw [he'] at he
      have hc1 : s2.cells = s1.cells := by rw [q2]
      have ho1 : s2.out = s1.out := by rw [q2]
      cases he
      refine ⟨doIn inp false ⟨16, 0, 0, 0⟩ (bump b1), ?_, g2.1, by rw [hc1]; exact R1.cells, by rw [ho1]; exact R1.out, R1.wrong, .inl ⟨rfl, rfl⟩⟩
      have hg := g2.2
      rw [hrun0 _ _ (.inr (show (doIn inp false ⟨16, 0, 0, 0⟩ (bump b1)).m.st ≠ 0 from (by decide : (1 : Int) ≠ 0)))] at hg
      rw [show (start p inp fuel).left = fuel from rfl] at hg
      rw [hg, Nat.zero_add]
end Go.Proofs.Ytbbghdkndbpmmaa

namespace Go.Proofs.Ytbbghdkndbpmmaa
open Go X
set_option maxHeartbeats 1000000
theorem lst_own {e size n g : Nat} {xs : List Value} (hl : xs.length = n * size) (hm : n ≤ maxLen) : ∀ m, Sat [blk g xs e] m → lst e size (.slice (some ⟨g, 0, none⟩) n n) n xs m := fun m h => by
  have h2 := lst_close (e := e) (g := g) (c := n) (rest := []) hl (Nat.le_refl _) hm (by rw [List.append_nil]; omega) m
  rw [List.append_nil] at h2
  exact h2 h
theorem new_b (σ : PH) (cs : List Value) (p : Pr) (iv : Value) (inp : List Int) (hp : PrAt σ cs p) (hi : PInts σ iv inp) (hc : checkP p = 0) (hN : stsN p.body ≤ 10000) :
    CallsA Try.prog 56 #[.agg cs.toArray, iv] σ [] (RetA fun v σ' Γ' => ∃ g pc cc, v = ptr g ∧ σ.sub σ' ∧ PSl 4 rIn σ' (.slice pc (codeOf p).length cc) (codeOf p) ∧ BeG σ' g (.slice pc (codeOf p).length cc) iv (be0 (sizes p.vars).toNat) Γ') := by
  have hp0 := hp
  obtain ⟨vs, bs, rfl, hv, hb⟩ := hp
  obtain ⟨pv, cv, rfl, hvl, hvm⟩ := hv.shape
  obtain ⟨pi, ci, rfl, hil, him⟩ := hi.shape
  obtain ⟨hz, hvl'⟩ := check_small hc
  obtain ⟨-, -, hv1, h48⟩ := check_valid hc
  have hsn : (0 : Int) ≤ sizes p.vars := sizes_nonneg hv1
  obtain ⟨nc, hnc⟩ : ∃ nc : Nat, sizes p.vars = (nc : Int) := ⟨(sizes p.vars).toNat, by omega⟩
  have hcells := rcell_a σ _ p p.vars.length hp0 hz hvl'
  rw [show cellOf p.vars p.vars.length = sizes p.vars by rw [cellOf, Int.toNat_natCast, List.take_length], hnc] at hcells
  rw [show (sizes p.vars).toNat = nc by omega]
  refine enterA2 Try.func56 rfl rfl rfl ?_
  refine zS ?_; refine zR ?_
  refine XOA.wr0 rfl WrA.bx ?_
  rintro _ _ _ ⟨g2, rfl, rfl, rfl⟩
  refine zO rfl Rd.asg ?_; refine zN ?_; refine zT ?_; refine zS ?_; refine zR ?_; refine zO rfl (Rd.ldA rfl) ?_; refine zO rfl (Rd.fA rfl) ?_; refine zO rfl (Rd.ldC rfl (tyrow rfl) rfl) ?_; refine zO rfl (Rd.lenSlice (tyrow rfl) rfl rfl) ?_
  refine XOA.wr0 rfl (WrA.cE (hcells) rfl) ?_
  rintro _ _ _ ⟨_, ⟨rfl, rfl, rfl⟩, rfl⟩
  refine XOA.cl ?_
  refine XOA.wr0 rfl (X.WrA.mkA (n := nc) (zs := ints (List.replicate nc 0)) (tyrow rfl) rfl (tyrow rfl) rfl rfl rfl rfl (by show 8 * nc ≤ _; omega) (by omega) (zeros_ints nc rfl)) ?_
  rintro _ _ _ ⟨g11, rfl, rfl, rfl⟩
  refine zO rfl (Rd.bl (fun _ _ => tyrow) rfl rfl rfl) ?_
  refine XOA.wr0 rfl (WrA.alloc (tyrow rfl)) ?_
  rintro _ _ _ ⟨g5, rfl, rfl, rfl⟩
  refine XOA.wr0 rfl (WrA.st (tyrow rfl) rfl) ?_
  rintro _ _ _ ⟨rfl, rfl, rfl⟩
  refine zN ?_; refine zT ?_; refine zS ?_
  refine XA.ent (Ent.foldC (Θ := [blk g11 (ints (List.replicate nc 0)) 2]) (by (repeat (first | exact Ent.all _ | (apply Ent.take; focus (first | ((repeat (first | with_reducible exact Sel.head | apply Sel.tail)); done) | ((repeat (first | exact Sel.head | apply Sel.tail)); done))) | apply Ent.takeNil | apply Ent.takeEmp)); (first | done | fail)) (lst_own (size := 1) (n := nc) (by simp [ints]) (by simp only [maxLen]; omega)) (Ent.refl _)) ?_
  refine XA.ent (Ent.selNil (e := 2) (size := 1) (Ent.refl _)) ?_
  refine XA.join [(4, 4), (13, 20)] (fun x : Nat × ((Option Addr × Nat) × ((Option Addr × Nat) × (Option Addr × Nat))) => [(4, ptr x.1)]) (fun x σ' Γ' => σ.sub σ' ∧ ((codeOf p).length ≤ x.2.1.2 ∧ x.2.1.2 ≤ maxLen ∧ (insC (codeOf p)).length = (codeOf p).length * 4 ∧ (0 < (codeOf p).length → ∃ g o, x.2.1.1 = some ⟨g, o, none⟩ ∧ PRow σ' g o (insC (codeOf p)))) ∧ Γ' = [blk x.1 [.slice x.2.1.1 (codeOf p).length x.2.1.2, .slice pi inp.length ci, i64 0, .slice none 0 0, i64 0, i64 0, i64 0, .slice (some ⟨g11, 0, none⟩) nc nc, i64 0, .slice x.2.2.1.1 0 x.2.2.1.2, i64 0, i64 0, i64 0, .slice x.2.2.2.1 nc x.2.2.2.2, .slice none 0 0, .bool false] 121, lst 2 1 (.slice none 0 0) 0 (ints []), lst 2 1 (.slice (some ⟨g11, 0, none⟩) nc nc) nc (ints (List.replicate nc 0)), lst 2 1 (.slice x.2.2.1.1 0 x.2.2.1.2) 0 (ints []), lst 2 1 (.slice x.2.2.2.1 nc x.2.2.2.2) nc (ints (List.replicate nc 0))]) ?_ ?_
  · skip
    refine XA.drawQ (by kernel_rfl) _ _ [] 9 #[false, false, false, false, false, false, false, false, false] rfl rfl (by kernel_rfl) (PH.sub.refl _) (Ent.sel (R := blk g2 _ _) (by ((repeat (first | with_reducible exact Sel.head | apply Sel.tail)); (first | done | fail))) (Ent.sel (R := blk g5 _ _) (by ((repeat (first | with_reducible exact Sel.head | apply Sel.tail)); (first | done | fail))) (Ent.nil _))) ?_
    refine XQA.rd (i := 0) (listed' := #[true, false, false, false, false, false, false, false, false]) rfl rfl (by kernel_rfl) rfl Gd.free (Rd.ldA rfl) ?_
    refine XQA.pu (i := 2) (listed' := #[true, false, true, false, false, false, false, false, false]) rfl rfl (by kernel_rfl) rfl Gd.free Rd.mv ?_
    refine XQA.rd (i := 3) (listed' := #[true, false, true, true, false, false, false, false, false]) rfl rfl (by kernel_rfl) rfl Gd.free (Rd.ldA rfl) ?_
    refine XQA.rd (i := 4) (listed' := #[true, false, true, true, true, false, false, false, false]) rfl rfl (by kernel_rfl) rfl Gd.free (Rd.ldA rfl) ?_
    refine XQA.w1 (i := 1) (by kernel_rfl) ?_
    refine XQA1.wr0 (listed' := #[true, true, true, true, true, false, false, false, false]) rfl rfl Gd.free (by kernel_rfl) rfl (WrA.cE (rcode_a σ _ p hp0 hc hN).lstOut rfl) ?_
    rintro _ σ2 _ ⟨_, ⟨q, cq, rfl, hs2, hf2, rfl⟩, rfl⟩
    refine ⟨⟨(by first | exact PH.sub.refl _ | assumption | (refine PH.sub.trans ?_ (by assumption); assumption)), zE⟩, XQA.re (by conv => lhs; dsimp only [List.cons_append, List.nil_append]) ?_⟩
    refine XQA.w1 (i := 5) (by kernel_rfl) ?_
    refine XQA1.wr0 (listed' := #[true, true, true, true, true, true, false, false, false]) rfl rfl Gd.free (by kernel_rfl) rfl (WrA.cE (copy_b _ 0 0 0 0 _ _ _ _ 0 nc [] (List.replicate nc 0) (by omega) (by omega)) rfl) ?_
    rintro _ _ _ ⟨_, ⟨p3, c3, p4, c4, rfl, rfl, rfl⟩, rfl⟩
    refine ⟨⟨(by first | exact PH.sub.refl _ | assumption | (refine PH.sub.trans ?_ (by assumption); assumption)), zE⟩, XQA.re (by conv => lhs; dsimp only [List.cons_append, List.nil_append]) ?_⟩
    refine XQA.pu (i := 6) (listed' := #[true, true, true, true, true, true, true, false, false]) rfl rfl (by kernel_rfl) rfl Gd.free (Rd.bl (fun _ _ => tyrow) rfl rfl rfl) ?_
    refine XQA.w1 (i := 7) (by kernel_rfl) ?_
    refine XQA1.wr0 (listed' := #[true, true, true, true, true, true, true, true, false]) rfl rfl Gd.free (by kernel_rfl) rfl WrA.bx ?_
    rintro _ _ _ ⟨g20, rfl, rfl, rfl⟩
    refine ⟨⟨(by first | exact PH.sub.refl _ | assumption | (refine PH.sub.trans ?_ (by assumption); assumption)), zE⟩, XQA.re (by conv => lhs; dsimp only [List.cons_append, List.nil_append]) ?_⟩
    refine XQA.pu (i := 8) (listed' := #[true, true, true, true, true, true, true, true, true]) rfl rfl (by kernel_rfl) rfl Gd.free Rd.asg ?_
    refine XQA.nil rfl ?_
    refine DA.thn_normal ⟨(by (repeat (first | exact Keep.refl _ _ | refine Keep.upd ?_ rfl | refine Keep.updO ?_ rfl | refine Keep.updN ?_)); (first | done | fail)), (g20, ((q, cq), ((p3, c3), (p4, c4)))), _, (by (repeat (first | exact trivial | refine ⟨rfl, ?_⟩ | refine ⟨Eq.trans rfl (congrArg Value.bool hmat.symm), ?_⟩)); (first | done | fail)), ?_, hs2, hf2, rfl⟩; exact zE
  rintro ⟨g20, ⟨q, cq⟩, ⟨p3, c3⟩, p4, c4⟩ δ σ2 _ ⟨hs2, hf2, rfl⟩
  dsimp only [ovr, List.foldl]
  refine zT ?_
  simp only at hf2
  refine XA.frz (R := lst 2 1 (.slice p3 0 c3) _ _) (by ((repeat (first | with_reducible exact Sel.head | apply Sel.tail)); (first | done | fail))) lst_frz lst_frz_mono ?_
  rintro σ3 ⟨⟩ hf3 hs3
  refine XA.frz (R := lst 2 1 (.slice p4 nc c4) _ _) (by ((repeat (first | with_reducible exact Sel.head | apply Sel.tail)); (first | done | fail))) lst_frz lst_frz_mono ?_
  rintro σ4 ⟨⟩ hf4 hs4
  have hs24 := hs3.trans hs4
  have hr : (List.replicate nc (0 : Int)).length = nc := List.length_replicate
  have hk : KeptAt σ4 (i64 (0 : Nat)) (.slice p3 ([] : List Int).length c3) (i64 (0 : Nat)) (i64 (0 : Nat)) (i64 0) (.slice p4 (List.replicate nc (0 : Int)).length c4) ⟨0, [], 0, 0, 0, List.replicate nc 0⟩ := ⟨p3, c3, p4, c4, rfl, rfl, rfl, rfl, rfl, rfl, pints_frz rfl (lst_frz_mono () _ _ hf3 hs4), pints_frz rfl (by rw [hr]; exact hf4)⟩
  have hB := BeG.of (σ := σ4) (g := g20) (cv := .slice q (codeOf p).length cq) (iv := .slice pi inp.length ci) (next := 0) (rd := 0) (outn := 0) (stack := []) (cells := List.replicate nc 0) (out := []) (st := 0) (wrong := false) (sp := none) (sc := 0) (pl := some ⟨g11, 0, none⟩) (cl := nc) (op := none) (oc := 0) hk
  rw [hr] at hB
  have hcd : PSl 4 rIn σ4 (.slice q (codeOf p).length cq) (codeOf p) := (rows_in σ4 (codeOf p)).psl rfl ⟨hf2.1, hf2.2.1, hf2.2.2.1, fun h => by obtain ⟨g, o, e, r⟩ := hf2.2.2.2 h; exact ⟨g, o, e, r.mono hs24⟩⟩
  refine XA.ret ?_
  exact bodyA.ret (ResA.one rfl rfl) zE ⟨g20, q, cq, rfl, hs2.trans hs24, hcd, hB⟩
/-- What it came to. -/
def nowC (b : Be) : Int := if b.wrong then 15 else if b.m.st = 0 then 13 else if 1 < b.m.st then IntKind.i64.wrap (b.m.st - 2) else 0
theorem ResA.cell1 {P : Program} {ρ : Env} {σ : PH} {Γ : List HP} {fn : Func} {t1 : Tmp} {T1 : TypeId} {g1 o1 : Nat} {v1 : Value} (hf : fn.results = #[.cell t1 T1]) (h1 : ρ t1 = .pointer (some ⟨g1, o1, none⟩)) (l1 : ∀ h, Ho σ Γ h → Ld P h T1 g1 o1 v1) : ResA P fn ρ σ Γ v1 := ResA.cell hf h1 l1
theorem now_b (σ : PH) (g : Nat) (v0 v1 v2 v3 v4 v5 k0 k1 k2 k3 k4 k5 : Value) (st : Int) (pl op : Option Addr) (nl cl no oc : Nat) (wrong : Bool) :
    CallsA Try.prog 58 #[ptr g] σ [blk g [v0, v1, v2, v3, v4, v5, i64 st, .slice pl nl cl, k0, k1, k2, k3, k4, k5, .slice op no oc, .bool wrong] 121]
      (RetA fun v σ' Γ' => v = .agg #[i64 (if wrong then 15 else if st = 0 then 13 else if 1 < st then IntKind.i64.wrap (st - 2) else 0), .slice op no oc, .slice pl nl cl] ∧ σ = σ' ∧ Γ' = [blk g [v0, v1, v2, v3, v4, v5, i64 st, .slice pl nl cl, k0, k1, k2, k3, k4, k5, .slice op no oc, .bool wrong] 121]) := by
  cases wrong with
  | true =>
    by_cases h0 : st = 0
    · refine enterA1 Try.func58 rfl rfl rfl ?_
      refine zS ?_; refine zR ?_
      refine XOA.wr0 rfl (WrA.alloc (tyrow rfl)) ?_
      rintro _ _ _ ⟨g2, rfl, rfl, rfl⟩
      refine zN ?_; refine zT ?_; refine zS ?_
      refine XA.draw (by kernel_rfl) _ _ [11] [(0, .pu), (1, .pu), (2, .pu), (3, .rd), (4, .pu), (5, .pu), (6, .pu), (7, .pu), (8, .rd), (9, .pu), (10, .wr), (11, .wr)] (by kernel_rfl) (PH.sub.refl _) (Ent.sel (R := blk g _ _) (by ((repeat (first | with_reducible exact Sel.head | apply Sel.tail)); (first | done | fail))) (Ent.nil _)) ?_
      refine XPA.pu rfl rfl Gd.free Rd.mv ?_
      refine XPA.pu rfl rfl Gd.free (Rd.nilCheck rfl) ?_
      refine XPA.pu rfl rfl Gd.free (Rd.fA rfl) ?_
      refine XPA.rd rfl rfl Gd.free (Rd.ldC rfl (tyrow rfl) rfl) ?_
      refine XPA.pu rfl rfl Gd.free Rd.mv ?_
      refine XPA.pu rfl rfl Gd.free (Rd.nilCheck rfl) ?_
      refine XPA.pu rfl rfl Gd.free (Rd.fA rfl) ?_
      refine XPA.pu rfl rfl Gd.free (Rd.fA rfl) ?_
      refine XPA.rd rfl rfl Gd.free (Rd.ldC rfl (tyrow rfl) rfl) ?_
      refine XPA.pu rfl rfl Gd.free (Rd.bl (fun _ _ => tyrow) rfl rfl rfl) ?_
      refine XPA.wr0 rfl rfl Gd.free (WrA.alloc (tyrow rfl)) ?_
      rintro _ _ _ ⟨g3, rfl, rfl, rfl⟩
      refine stays ?_
      refine XPA.wrZ0 rfl rfl Gd.free (by kernel_rfl) (WrA.st (tyrow rfl) rfl) ?_
      rintro _ _ _ ⟨rfl, rfl, rfl⟩
      refine XPA.nil ?_
      refine zT ?_; refine zS ?_; refine zS ?_; refine zR ?_; refine zO rfl Rd.mv ?_; refine zO rfl (Rd.nilCheck rfl) ?_; refine zO rfl (Rd.fA rfl) ?_; refine zO rfl (Rd.fA rfl) ?_; refine zO rfl (Rd.ldC rfl (tyrow rfl) rfl) ?_; refine zO rfl (Rd.eql rfl rfl) ?_; refine zN ?_; refine zT ?_
      refine XA.condT rfl (decide_eq_true h0) ?_
      refine zR ?_; refine zO rfl (Rd.fA rfl) ?_
      refine XOA.wr0 rfl (WrA.st (tyrow rfl) rfl) ?_
      rintro _ _ _ ⟨rfl, rfl, rfl⟩
      refine zN ?_; refine zT ?_; refine zS ?_; refine zS ?_; refine zR ?_; refine zO rfl Rd.mv ?_; refine zO rfl (Rd.nilCheck rfl) ?_; refine zO rfl (Rd.fA rfl) ?_; refine zO rfl (Rd.ldC rfl (tyrow rfl) rfl) ?_; refine zN ?_; refine zT ?_
      refine XA.condT rfl rfl ?_
      refine zR ?_; refine zO rfl (Rd.fA rfl) ?_
      refine XOA.wr0 rfl (WrA.st (tyrow rfl) rfl) ?_
      rintro _ _ _ ⟨rfl, rfl, rfl⟩
      refine zN ?_; refine zT ?_; refine zS ?_; refine zR ?_; refine zO rfl (Rd.ldA rfl) ?_
      refine XOA.wr0 rfl (WrA.st (tyrow rfl) rfl) ?_
      rintro _ _ _ ⟨rfl, rfl, rfl⟩
      refine zN ?_; refine zT ?_
      refine XA.ret ?_
      exact bodyA.ret (ResA.cell1 rfl rfl (Ld.atBlk (tyrow rfl) rfl (by ((repeat (first | with_reducible exact Sel.head | apply Sel.tail)); (first | done | fail))) rfl (by first | exact take0 (by first | rfl | assumption | (refine (ints_len _).trans ?_; assumption) | (simp [*]; (first | done | fail))) | assumption | exact take_app (by first | rfl | assumption | (refine (ints_len _).trans ?_; assumption) | (simp [*]; (first | done | fail))) | (conv => lhs; simp only [List.drop_succ_cons, List.drop_zero, List.take_succ_cons, List.take_zero])) (by first | rfl | assumption | (refine (ints_len _).trans ?_; assumption) | (simp [*]; (first | done | fail))))) zE ⟨rfl, rfl, rfl⟩
    · by_cases h1 : 1 < st
      · refine enterA1 Try.func58 rfl rfl rfl ?_
        refine zS ?_; refine zR ?_
        refine XOA.wr0 rfl (WrA.alloc (tyrow rfl)) ?_
        rintro _ _ _ ⟨g2, rfl, rfl, rfl⟩
        refine zN ?_; refine zT ?_; refine zS ?_
        refine XA.draw (by kernel_rfl) _ _ [11] [(0, .pu), (1, .pu), (2, .pu), (3, .rd), (4, .pu), (5, .pu), (6, .pu), (7, .pu), (8, .rd), (9, .pu), (10, .wr), (11, .wr)] (by kernel_rfl) (PH.sub.refl _) (Ent.sel (R := blk g _ _) (by ((repeat (first | with_reducible exact Sel.head | apply Sel.tail)); (first | done | fail))) (Ent.nil _)) ?_
        refine XPA.pu rfl rfl Gd.free Rd.mv ?_
        refine XPA.pu rfl rfl Gd.free (Rd.nilCheck rfl) ?_
        refine XPA.pu rfl rfl Gd.free (Rd.fA rfl) ?_
        refine XPA.rd rfl rfl Gd.free (Rd.ldC rfl (tyrow rfl) rfl) ?_
        refine XPA.pu rfl rfl Gd.free Rd.mv ?_
        refine XPA.pu rfl rfl Gd.free (Rd.nilCheck rfl) ?_
        refine XPA.pu rfl rfl Gd.free (Rd.fA rfl) ?_
        refine XPA.pu rfl rfl Gd.free (Rd.fA rfl) ?_
        refine XPA.rd rfl rfl Gd.free (Rd.ldC rfl (tyrow rfl) rfl) ?_
        refine XPA.pu rfl rfl Gd.free (Rd.bl (fun _ _ => tyrow) rfl rfl rfl) ?_
        refine XPA.wr0 rfl rfl Gd.free (WrA.alloc (tyrow rfl)) ?_
        rintro _ _ _ ⟨g3, rfl, rfl, rfl⟩
        refine stays ?_
        refine XPA.wrZ0 rfl rfl Gd.free (by kernel_rfl) (WrA.st (tyrow rfl) rfl) ?_
        rintro _ _ _ ⟨rfl, rfl, rfl⟩
        refine XPA.nil ?_
        refine zT ?_; refine zS ?_; refine zS ?_; refine zR ?_; refine zO rfl Rd.mv ?_; refine zO rfl (Rd.nilCheck rfl) ?_; refine zO rfl (Rd.fA rfl) ?_; refine zO rfl (Rd.fA rfl) ?_; refine zO rfl (Rd.ldC rfl (tyrow rfl) rfl) ?_; refine zO rfl (Rd.eql rfl rfl) ?_; refine zN ?_; refine zT ?_
        refine XA.condF rfl (decide_eq_false h0) ?_
        refine zS ?_; refine zR ?_; refine zO rfl Rd.mv ?_; refine zO rfl (Rd.nilCheck rfl) ?_; refine zO rfl (Rd.fA rfl) ?_; refine zO rfl (Rd.fA rfl) ?_; refine zO rfl (Rd.ldC rfl (tyrow rfl) rfl) ?_
        refine zO rfl (Rd.gtr rfl rfl) ?_
        refine zN ?_; refine zT ?_
        refine XA.condT rfl (decide_eq_true h1) ?_
        refine zR ?_; refine zO rfl Rd.mv ?_; refine zO rfl (Rd.nilCheck rfl) ?_; refine zO rfl (Rd.fA rfl) ?_; refine zO rfl (Rd.fA rfl) ?_; refine zO rfl (Rd.ldC rfl (tyrow rfl) rfl) ?_
        refine zO rfl (by first | exact Rd.sbi rfl rfl | exact Rd.sub rfl rfl) ?_
        refine zO rfl (Rd.fA rfl) ?_
        refine XOA.wr0 rfl (WrA.st (tyrow rfl) rfl) ?_
        rintro _ _ _ ⟨rfl, rfl, rfl⟩
        refine zN ?_; refine zT ?_; refine zS ?_; refine zS ?_; refine zR ?_; refine zO rfl Rd.mv ?_; refine zO rfl (Rd.nilCheck rfl) ?_; refine zO rfl (Rd.fA rfl) ?_; refine zO rfl (Rd.ldC rfl (tyrow rfl) rfl) ?_; refine zN ?_; refine zT ?_
        refine XA.condT rfl rfl ?_
        refine zR ?_; refine zO rfl (Rd.fA rfl) ?_
        refine XOA.wr0 rfl (WrA.st (tyrow rfl) rfl) ?_
        rintro _ _ _ ⟨rfl, rfl, rfl⟩
        refine zN ?_; refine zT ?_; refine zS ?_; refine zR ?_; refine zO rfl (Rd.ldA rfl) ?_
        refine XOA.wr0 rfl (WrA.st (tyrow rfl) rfl) ?_
        rintro _ _ _ ⟨rfl, rfl, rfl⟩
        refine zN ?_; refine zT ?_
        refine XA.ret ?_
        exact bodyA.ret (ResA.cell1 rfl rfl (Ld.atBlk (tyrow rfl) rfl (by ((repeat (first | with_reducible exact Sel.head | apply Sel.tail)); (first | done | fail))) rfl (by first | exact take0 (by first | rfl | assumption | (refine (ints_len _).trans ?_; assumption) | (simp [*]; (first | done | fail))) | assumption | exact take_app (by first | rfl | assumption | (refine (ints_len _).trans ?_; assumption) | (simp [*]; (first | done | fail))) | (conv => lhs; simp only [List.drop_succ_cons, List.drop_zero, List.take_succ_cons, List.take_zero])) (by first | rfl | assumption | (refine (ints_len _).trans ?_; assumption) | (simp [*]; (first | done | fail))))) zE ⟨rfl, rfl, rfl⟩
      · refine enterA1 Try.func58 rfl rfl rfl ?_
        refine zS ?_; refine zR ?_
        refine XOA.wr0 rfl (WrA.alloc (tyrow rfl)) ?_
        rintro _ _ _ ⟨g2, rfl, rfl, rfl⟩
        refine zN ?_; refine zT ?_; refine zS ?_
        refine XA.draw (by kernel_rfl) _ _ [11] [(0, .pu), (1, .pu), (2, .pu), (3, .rd), (4, .pu), (5, .pu), (6, .pu), (7, .pu), (8, .rd), (9, .pu), (10, .wr), (11, .wr)] (by kernel_rfl) (PH.sub.refl _) (Ent.sel (R := blk g _ _) (by ((repeat (first | with_reducible exact Sel.head | apply Sel.tail)); (first | done | fail))) (Ent.nil _)) ?_
        refine XPA.pu rfl rfl Gd.free Rd.mv ?_
        refine XPA.pu rfl rfl Gd.free (Rd.nilCheck rfl) ?_
        refine XPA.pu rfl rfl Gd.free (Rd.fA rfl) ?_
        refine XPA.rd rfl rfl Gd.free (Rd.ldC rfl (tyrow rfl) rfl) ?_
        refine XPA.pu rfl rfl Gd.free Rd.mv ?_
        refine XPA.pu rfl rfl Gd.free (Rd.nilCheck rfl) ?_
        refine XPA.pu rfl rfl Gd.free (Rd.fA rfl) ?_
        refine XPA.pu rfl rfl Gd.free (Rd.fA rfl) ?_
        refine XPA.rd rfl rfl Gd.free (Rd.ldC rfl (tyrow rfl) rfl) ?_
        refine XPA.pu rfl rfl Gd.free (Rd.bl (fun _ _ => tyrow) rfl rfl rfl) ?_
        refine XPA.wr0 rfl rfl Gd.free (WrA.alloc (tyrow rfl)) ?_
        rintro _ _ _ ⟨g3, rfl, rfl, rfl⟩
        refine stays ?_
        refine XPA.wrZ0 rfl rfl Gd.free (by kernel_rfl) (WrA.st (tyrow rfl) rfl) ?_
        rintro _ _ _ ⟨rfl, rfl, rfl⟩
        refine XPA.nil ?_
        refine zT ?_; refine zS ?_; refine zS ?_; refine zR ?_; refine zO rfl Rd.mv ?_; refine zO rfl (Rd.nilCheck rfl) ?_; refine zO rfl (Rd.fA rfl) ?_; refine zO rfl (Rd.fA rfl) ?_; refine zO rfl (Rd.ldC rfl (tyrow rfl) rfl) ?_; refine zO rfl (Rd.eql rfl rfl) ?_; refine zN ?_; refine zT ?_
        refine XA.condF rfl (decide_eq_false h0) ?_
        refine zS ?_; refine zR ?_; refine zO rfl Rd.mv ?_; refine zO rfl (Rd.nilCheck rfl) ?_; refine zO rfl (Rd.fA rfl) ?_; refine zO rfl (Rd.fA rfl) ?_; refine zO rfl (Rd.ldC rfl (tyrow rfl) rfl) ?_
        refine zO rfl (Rd.gtr rfl rfl) ?_
        refine zN ?_; refine zT ?_
        refine XA.condF rfl (decide_eq_false h1) ?_
        refine XA.skip ?_
        refine zT ?_; refine zS ?_; refine zS ?_; refine zR ?_; refine zO rfl Rd.mv ?_; refine zO rfl (Rd.nilCheck rfl) ?_; refine zO rfl (Rd.fA rfl) ?_; refine zO rfl (Rd.ldC rfl (tyrow rfl) rfl) ?_; refine zN ?_; refine zT ?_
        refine XA.condT rfl rfl ?_
        refine zR ?_; refine zO rfl (Rd.fA rfl) ?_
        refine XOA.wr0 rfl (WrA.st (tyrow rfl) rfl) ?_
        rintro _ _ _ ⟨rfl, rfl, rfl⟩
        refine zN ?_; refine zT ?_; refine zS ?_; refine zR ?_; refine zO rfl (Rd.ldA rfl) ?_
        refine XOA.wr0 rfl (WrA.st (tyrow rfl) rfl) ?_
        rintro _ _ _ ⟨rfl, rfl, rfl⟩
        refine zN ?_; refine zT ?_
        refine XA.ret ?_
        exact bodyA.ret (ResA.cell1 rfl rfl (Ld.atBlk (tyrow rfl) rfl (by ((repeat (first | with_reducible exact Sel.head | apply Sel.tail)); (first | done | fail))) rfl (by first | exact take0 (by first | rfl | assumption | (refine (ints_len _).trans ?_; assumption) | (simp [*]; (first | done | fail))) | assumption | exact take_app (by first | rfl | assumption | (refine (ints_len _).trans ?_; assumption) | (simp [*]; (first | done | fail))) | (conv => lhs; simp only [List.drop_succ_cons, List.drop_zero, List.take_succ_cons, List.take_zero])) (by first | rfl | assumption | (refine (ints_len _).trans ?_; assumption) | (simp [*]; (first | done | fail))))) zE ⟨rfl, rfl, rfl⟩
  | false =>
    by_cases h0 : st = 0
    · refine enterA1 Try.func58 rfl rfl rfl ?_
      refine zS ?_; refine zR ?_
      refine XOA.wr0 rfl (WrA.alloc (tyrow rfl)) ?_
      rintro _ _ _ ⟨g2, rfl, rfl, rfl⟩
      refine zN ?_; refine zT ?_; refine zS ?_
      refine XA.draw (by kernel_rfl) _ _ [11] [(0, .pu), (1, .pu), (2, .pu), (3, .rd), (4, .pu), (5, .pu), (6, .pu), (7, .pu), (8, .rd), (9, .pu), (10, .wr), (11, .wr)] (by kernel_rfl) (PH.sub.refl _) (Ent.sel (R := blk g _ _) (by ((repeat (first | with_reducible exact Sel.head | apply Sel.tail)); (first | done | fail))) (Ent.nil _)) ?_
      refine XPA.pu rfl rfl Gd.free Rd.mv ?_
      refine XPA.pu rfl rfl Gd.free (Rd.nilCheck rfl) ?_
      refine XPA.pu rfl rfl Gd.free (Rd.fA rfl) ?_
      refine XPA.rd rfl rfl Gd.free (Rd.ldC rfl (tyrow rfl) rfl) ?_
      refine XPA.pu rfl rfl Gd.free Rd.mv ?_
      refine XPA.pu rfl rfl Gd.free (Rd.nilCheck rfl) ?_
      refine XPA.pu rfl rfl Gd.free (Rd.fA rfl) ?_
      refine XPA.pu rfl rfl Gd.free (Rd.fA rfl) ?_
      refine XPA.rd rfl rfl Gd.free (Rd.ldC rfl (tyrow rfl) rfl) ?_
      refine XPA.pu rfl rfl Gd.free (Rd.bl (fun _ _ => tyrow) rfl rfl rfl) ?_
      refine XPA.wr0 rfl rfl Gd.free (WrA.alloc (tyrow rfl)) ?_
      rintro _ _ _ ⟨g3, rfl, rfl, rfl⟩
      refine stays ?_
      refine XPA.wrZ0 rfl rfl Gd.free (by kernel_rfl) (WrA.st (tyrow rfl) rfl) ?_
      rintro _ _ _ ⟨rfl, rfl, rfl⟩
      refine XPA.nil ?_
      refine zT ?_; refine zS ?_; refine zS ?_; refine zR ?_; refine zO rfl Rd.mv ?_; refine zO rfl (Rd.nilCheck rfl) ?_; refine zO rfl (Rd.fA rfl) ?_; refine zO rfl (Rd.fA rfl) ?_; refine zO rfl (Rd.ldC rfl (tyrow rfl) rfl) ?_; refine zO rfl (Rd.eql rfl rfl) ?_; refine zN ?_; refine zT ?_
      refine XA.condT rfl (decide_eq_true h0) ?_
      refine zR ?_; refine zO rfl (Rd.fA rfl) ?_
      refine XOA.wr0 rfl (WrA.st (tyrow rfl) rfl) ?_
      rintro _ _ _ ⟨rfl, rfl, rfl⟩
      refine zN ?_; refine zT ?_; refine zS ?_; refine zS ?_; refine zR ?_; refine zO rfl Rd.mv ?_; refine zO rfl (Rd.nilCheck rfl) ?_; refine zO rfl (Rd.fA rfl) ?_; refine zO rfl (Rd.ldC rfl (tyrow rfl) rfl) ?_; refine zN ?_; refine zT ?_
      refine XA.condF rfl rfl ?_
      refine XA.skip ?_
      refine zT ?_; refine zS ?_; refine zR ?_; refine zO rfl (Rd.ldA rfl) ?_
      refine XOA.wr0 rfl (WrA.st (tyrow rfl) rfl) ?_
      rintro _ _ _ ⟨rfl, rfl, rfl⟩
      refine zN ?_; refine zT ?_
      refine XA.ret ?_
      exact bodyA.ret (ResA.cell1 rfl rfl (Ld.atBlk (tyrow rfl) rfl (by ((repeat (first | with_reducible exact Sel.head | apply Sel.tail)); (first | done | fail))) rfl (by first | exact take0 (by first | rfl | assumption | (refine (ints_len _).trans ?_; assumption) | (simp [*]; (first | done | fail))) | assumption | exact take_app (by first | rfl | assumption | (refine (ints_len _).trans ?_; assumption) | (simp [*]; (first | done | fail))) | (conv => lhs; simp only [List.drop_succ_cons, List.drop_zero, List.take_succ_cons, List.take_zero])) (by first | rfl | assumption | (refine (ints_len _).trans ?_; assumption) | (simp [*]; (first | done | fail))))) zE ⟨by rw [if_neg (by decide), if_pos h0], rfl, rfl⟩
    · by_cases h1 : 1 < st
      · refine enterA1 Try.func58 rfl rfl rfl ?_
        refine zS ?_; refine zR ?_
        refine XOA.wr0 rfl (WrA.alloc (tyrow rfl)) ?_
        rintro _ _ _ ⟨g2, rfl, rfl, rfl⟩
        refine zN ?_; refine zT ?_; refine zS ?_
        refine XA.draw (by kernel_rfl) _ _ [11] [(0, .pu), (1, .pu), (2, .pu), (3, .rd), (4, .pu), (5, .pu), (6, .pu), (7, .pu), (8, .rd), (9, .pu), (10, .wr), (11, .wr)] (by kernel_rfl) (PH.sub.refl _) (Ent.sel (R := blk g _ _) (by ((repeat (first | with_reducible exact Sel.head | apply Sel.tail)); (first | done | fail))) (Ent.nil _)) ?_
        refine XPA.pu rfl rfl Gd.free Rd.mv ?_
        refine XPA.pu rfl rfl Gd.free (Rd.nilCheck rfl) ?_
        refine XPA.pu rfl rfl Gd.free (Rd.fA rfl) ?_
        refine XPA.rd rfl rfl Gd.free (Rd.ldC rfl (tyrow rfl) rfl) ?_
        refine XPA.pu rfl rfl Gd.free Rd.mv ?_
        refine XPA.pu rfl rfl Gd.free (Rd.nilCheck rfl) ?_
        refine XPA.pu rfl rfl Gd.free (Rd.fA rfl) ?_
        refine XPA.pu rfl rfl Gd.free (Rd.fA rfl) ?_
        refine XPA.rd rfl rfl Gd.free (Rd.ldC rfl (tyrow rfl) rfl) ?_
        refine XPA.pu rfl rfl Gd.free (Rd.bl (fun _ _ => tyrow) rfl rfl rfl) ?_
        refine XPA.wr0 rfl rfl Gd.free (WrA.alloc (tyrow rfl)) ?_
        rintro _ _ _ ⟨g3, rfl, rfl, rfl⟩
        refine stays ?_
        refine XPA.wrZ0 rfl rfl Gd.free (by kernel_rfl) (WrA.st (tyrow rfl) rfl) ?_
        rintro _ _ _ ⟨rfl, rfl, rfl⟩
        refine XPA.nil ?_
        refine zT ?_; refine zS ?_; refine zS ?_; refine zR ?_; refine zO rfl Rd.mv ?_; refine zO rfl (Rd.nilCheck rfl) ?_; refine zO rfl (Rd.fA rfl) ?_; refine zO rfl (Rd.fA rfl) ?_; refine zO rfl (Rd.ldC rfl (tyrow rfl) rfl) ?_; refine zO rfl (Rd.eql rfl rfl) ?_; refine zN ?_; refine zT ?_
        refine XA.condF rfl (decide_eq_false h0) ?_
        refine zS ?_; refine zR ?_; refine zO rfl Rd.mv ?_; refine zO rfl (Rd.nilCheck rfl) ?_; refine zO rfl (Rd.fA rfl) ?_; refine zO rfl (Rd.fA rfl) ?_; refine zO rfl (Rd.ldC rfl (tyrow rfl) rfl) ?_
        refine zO rfl (Rd.gtr rfl rfl) ?_
        refine zN ?_; refine zT ?_
        refine XA.condT rfl (decide_eq_true h1) ?_
        refine zR ?_; refine zO rfl Rd.mv ?_; refine zO rfl (Rd.nilCheck rfl) ?_; refine zO rfl (Rd.fA rfl) ?_; refine zO rfl (Rd.fA rfl) ?_; refine zO rfl (Rd.ldC rfl (tyrow rfl) rfl) ?_
        refine zO rfl (by first | exact Rd.sbi rfl rfl | exact Rd.sub rfl rfl) ?_
        refine zO rfl (Rd.fA rfl) ?_
        refine XOA.wr0 rfl (WrA.st (tyrow rfl) rfl) ?_
        rintro _ _ _ ⟨rfl, rfl, rfl⟩
        refine zN ?_; refine zT ?_; refine zS ?_; refine zS ?_; refine zR ?_; refine zO rfl Rd.mv ?_; refine zO rfl (Rd.nilCheck rfl) ?_; refine zO rfl (Rd.fA rfl) ?_; refine zO rfl (Rd.ldC rfl (tyrow rfl) rfl) ?_; refine zN ?_; refine zT ?_
        refine XA.condF rfl rfl ?_
        refine XA.skip ?_
        refine zT ?_; refine zS ?_; refine zR ?_; refine zO rfl (Rd.ldA rfl) ?_
        refine XOA.wr0 rfl (WrA.st (tyrow rfl) rfl) ?_
        rintro _ _ _ ⟨rfl, rfl, rfl⟩
        refine zN ?_; refine zT ?_
        refine XA.ret ?_
        exact bodyA.ret (ResA.cell1 rfl rfl (Ld.atBlk (tyrow rfl) rfl (by ((repeat (first | with_reducible exact Sel.head | apply Sel.tail)); (first | done | fail))) rfl (by first | exact take0 (by first | rfl | assumption | (refine (ints_len _).trans ?_; assumption) | (simp [*]; (first | done | fail))) | assumption | exact take_app (by first | rfl | assumption | (refine (ints_len _).trans ?_; assumption) | (simp [*]; (first | done | fail))) | (conv => lhs; simp only [List.drop_succ_cons, List.drop_zero, List.take_succ_cons, List.take_zero])) (by first | rfl | assumption | (refine (ints_len _).trans ?_; assumption) | (simp [*]; (first | done | fail))))) zE ⟨by rw [if_neg (by decide), if_neg h0, if_pos h1], rfl, rfl⟩
      · refine enterA1 Try.func58 rfl rfl rfl ?_
        refine zS ?_; refine zR ?_
        refine XOA.wr0 rfl (WrA.alloc (tyrow rfl)) ?_
        rintro _ _ _ ⟨g2, rfl, rfl, rfl⟩
        refine zN ?_; refine zT ?_; refine zS ?_
        refine XA.draw (by kernel_rfl) _ _ [11] [(0, .pu), (1, .pu), (2, .pu), (3, .rd), (4, .pu), (5, .pu), (6, .pu), (7, .pu), (8, .rd), (9, .pu), (10, .wr), (11, .wr)] (by kernel_rfl) (PH.sub.refl _) (Ent.sel (R := blk g _ _) (by ((repeat (first | with_reducible exact Sel.head | apply Sel.tail)); (first | done | fail))) (Ent.nil _)) ?_
        refine XPA.pu rfl rfl Gd.free Rd.mv ?_
        refine XPA.pu rfl rfl Gd.free (Rd.nilCheck rfl) ?_
        refine XPA.pu rfl rfl Gd.free (Rd.fA rfl) ?_
        refine XPA.rd rfl rfl Gd.free (Rd.ldC rfl (tyrow rfl) rfl) ?_
        refine XPA.pu rfl rfl Gd.free Rd.mv ?_
        refine XPA.pu rfl rfl Gd.free (Rd.nilCheck rfl) ?_
        refine XPA.pu rfl rfl Gd.free (Rd.fA rfl) ?_
        refine XPA.pu rfl rfl Gd.free (Rd.fA rfl) ?_
        refine XPA.rd rfl rfl Gd.free (Rd.ldC rfl (tyrow rfl) rfl) ?_
        refine XPA.pu rfl rfl Gd.free (Rd.bl (fun _ _ => tyrow) rfl rfl rfl) ?_
        refine XPA.wr0 rfl rfl Gd.free (WrA.alloc (tyrow rfl)) ?_
        rintro _ _ _ ⟨g3, rfl, rfl, rfl⟩
        refine stays ?_
        refine XPA.wrZ0 rfl rfl Gd.free (by kernel_rfl) (WrA.st (tyrow rfl) rfl) ?_
        rintro _ _ _ ⟨rfl, rfl, rfl⟩
        refine XPA.nil ?_
        refine zT ?_; refine zS ?_; refine zS ?_; refine zR ?_; refine zO rfl Rd.mv ?_; refine zO rfl (Rd.nilCheck rfl) ?_; refine zO rfl (Rd.fA rfl) ?_; refine zO rfl (Rd.fA rfl) ?_; refine zO rfl (Rd.ldC rfl (tyrow rfl) rfl) ?_; refine zO rfl (Rd.eql rfl rfl) ?_; refine zN ?_; refine zT ?_
        refine XA.condF rfl (decide_eq_false h0) ?_
        refine zS ?_; refine zR ?_; refine zO rfl Rd.mv ?_; refine zO rfl (Rd.nilCheck rfl) ?_; refine zO rfl (Rd.fA rfl) ?_; refine zO rfl (Rd.fA rfl) ?_; refine zO rfl (Rd.ldC rfl (tyrow rfl) rfl) ?_
        refine zO rfl (Rd.gtr rfl rfl) ?_
        refine zN ?_; refine zT ?_
        refine XA.condF rfl (decide_eq_false h1) ?_
        refine XA.skip ?_
        refine zT ?_; refine zS ?_; refine zS ?_; refine zR ?_; refine zO rfl Rd.mv ?_; refine zO rfl (Rd.nilCheck rfl) ?_; refine zO rfl (Rd.fA rfl) ?_; refine zO rfl (Rd.ldC rfl (tyrow rfl) rfl) ?_; refine zN ?_; refine zT ?_
        refine XA.condF rfl rfl ?_
        refine XA.skip ?_
        refine zT ?_; refine zS ?_; refine zR ?_; refine zO rfl (Rd.ldA rfl) ?_
        refine XOA.wr0 rfl (WrA.st (tyrow rfl) rfl) ?_
        rintro _ _ _ ⟨rfl, rfl, rfl⟩
        refine zN ?_; refine zT ?_
        refine XA.ret ?_
        exact bodyA.ret (ResA.cell1 rfl rfl (Ld.atBlk (tyrow rfl) rfl (by ((repeat (first | with_reducible exact Sel.head | apply Sel.tail)); (first | done | fail))) rfl (by first | exact take0 (by first | rfl | assumption | (refine (ints_len _).trans ?_; assumption) | (simp [*]; (first | done | fail))) | assumption | exact take_app (by first | rfl | assumption | (refine (ints_len _).trans ?_; assumption) | (simp [*]; (first | done | fail))) | (conv => lhs; simp only [List.drop_succ_cons, List.drop_zero, List.take_succ_cons, List.take_zero])) (by first | rfl | assumption | (refine (ints_len _).trans ?_; assumption) | (simp [*]; (first | done | fail))))) zE ⟨by rw [if_neg (by decide), if_neg h0, if_neg h1], rfl, rfl⟩
end Go.Proofs.Ytbbghdkndbpmmaa

namespace Go.Proofs.Ytbbghdkndbpmmaa
open Go X
set_option maxHeartbeats 1000000
theorem ResA.ct {P : Program} {ρ : Env} {σ : PH} {Γ : List HP} {fn : Func} {t1 t3 : Tmp} {T1 : TypeId} {g1 o1 : Nat} {v1 v3 : Value} (hf : fn.results = #[.cell t1 T1, .tmp t3]) (h1 : ρ t1 = .pointer (some ⟨g1, o1, none⟩)) (h3 : ρ t3 = v3)
    (l1 : ∀ h, Ho σ Γ h → Ld P h T1 g1 o1 v1) : ResA P fn ρ σ Γ (.tuple #[v1, v3]) := fun h hh w a hw he => by
  have e1 := he.get t1; rw [h1] at e1; simp at e1
  have e3 := he.get t3; rw [h3] at e3; simp at e3
  simp [results, hf, e1, e3, asAddr, l1 h hh w hw]
theorem be0_inv {p : Pr} (hc : checkP p = 0) (inp : List Int) : MInv p inp 0 (be0 (sizes p.vars).toNat).m := by
  have hl : 0 < (codeOf p).length := by
    have : codeOf p = stsCode p.vars p.body 0 ++ [⟨16, 0, 0, 0⟩] := rfl
    rw [this, List.length_append]; simp
  exact ⟨fun _ => ⟨hl, by simp [be0, hts_nil]⟩, by simp [be0], Nat.le_refl _, Nat.zero_le _⟩
theorem ideal_b (σ : PH) (cs : List Value) (p : Pr) (iv : Value) (inp : List Int) (fuel : Nat) (hp : PrAt σ cs p) (hi : PInts σ iv inp) (hc : checkP p = 0) (hN : stsN p.body ≤ 10000) (hil : inp.length ≤ 1000000) (hf : fuel ≤ 1000000) (hcl : (codeOf p).length ≤ 1000000) :
    CallsA Try.prog 36 #[.agg cs.toArray, iv, i64 fuel] σ [] (RetA fun v σ' Γ' => ∃ b k po co pc cc, runM (codeOf p) inp fuel (be0 (sizes p.vars).toNat) = (b, k) ∧ v = .tuple #[.agg #[i64 (nowC b), .slice po b.out.length co, .slice pc b.m.cells.length cc], i64 (k : Nat)] ∧ PInts σ' (.slice po b.out.length co) b.out ∧ PInts σ' (.slice pc b.m.cells.length cc) b.m.cells ∧ σ.sub σ' ∧ Γ' = []) := by
  have hp0 := hp
  obtain ⟨vs, bs, rfl, hv, hb⟩ := hp
  obtain ⟨pv, cv, rfl, hvl, hvm⟩ := hv.shape
  obtain ⟨pi, ci, rfl, hil2, him⟩ := hi.shape
  obtain ⟨B0, hB0⟩ : ∃ B0, B0 = be0 (sizes p.vars).toNat := ⟨_, rfl⟩
  have hM0 : MInv p inp B0.out.length B0.m := by rw [hB0]; exact be0_inv hc inp
  have hl0 : B0.out.length ≤ 0 := by rw [hB0]; exact Nat.le_refl _
  have hnew := new_b σ _ p _ inp hp0 hi hc hN
  rw [← hB0] at hnew ⊢
  have hspl : splice ty63.zero 0 [i64 0, .slice none 0 0, .slice none 0 0] = [i64 0, .slice none 0 0, .slice none 0 0] := rfl
  refine enterA3 Try.func36 rfl rfl rfl ?_
  refine zS ?_; refine zR ?_
  refine XOA.wr0 rfl WrA.bx ?_
  rintro _ _ _ ⟨g3, rfl, rfl, rfl⟩
  refine XOA.wr0 rfl (WrA.alloc (tyrow rfl)) ?_
  rintro _ _ _ ⟨g6, rfl, rfl, rfl⟩
  refine zO rfl Rd.asg ?_; refine zN ?_; refine zT ?_; refine zS ?_; refine zR ?_; refine zO rfl (Rd.ldA rfl) ?_; refine zO rfl Rd.mv ?_
  refine XOA.wr0 rfl (WrA.cE (hnew) rfl) ?_
  rintro _ σ1 _ ⟨_, ⟨g, pc, cc, rfl, hs1, hcd, hB⟩, rfl⟩
  refine XOA.cl ?_
  obtain ⟨sp, sc, pl, cl, op, oc, k0, k1, k2, k3, k4, k5, hk, rfl⟩ := hB
  have hB : BeG σ1 g (.slice pc (codeOf p).length cc) (.slice pi inp.length ci) B0 _ := ⟨sp, sc, pl, cl, op, oc, k0, k1, k2, k3, k4, k5, hk, rfl⟩
  refine zO rfl Rd.asg ?_; refine zN ?_; refine zT ?_; refine zS ?_; refine zR ?_; refine zO rfl Rd.asg ?_; refine zN ?_; refine zT ?_; refine zS ?_
  refine XA.block ?_
  refine XA.gen [(2, _), (6, _), (7, _), (8, _), (9, _)] ⟨(by with_reducible (conv => lhs; whnf)), (by with_reducible (conv => lhs; whnf)), (by with_reducible (conv => lhs; whnf)), (by with_reducible (conv => lhs; whnf)), (by with_reducible (conv => lhs; whnf)), trivial⟩ (fun δ => ?_)
  dsimp only [List.foldl]
  refine XA.loop [(9, 9), (13, 21)] (fun x : Nat × Be => [(9, i64 x.1)]) (fun x σ' Γ' => σ1.sub σ' ∧ (∃ Γ1, BeG σ' g (.slice pc (codeOf p).length cc) (.slice pi inp.length ci) x.2 Γ1 ∧ Γ' = blk g6 [i64 0, .slice none 0 0, .slice none 0 0] 63 :: Γ1) ∧ x.1 ≤ fuel ∧ runM (codeOf p) inp fuel B0 = ((runM (codeOf p) inp (fuel - x.1) x.2).1, (runM (codeOf p) inp (fuel - x.1) x.2).2 + x.1) ∧ MInv p inp x.2.out.length x.2.m ∧ x.2.out.length ≤ x.1) (fun x => fuel - x.1) (0, B0) (by exact ⟨rfl, trivial⟩) (Δ0 := _) ?_ (⟨.refl _, ⟨_, hB, rfl⟩, Nat.zero_le _, by simp, hM0, hl0⟩) ?_
  · exact zE
  rintro ⟨k, b⟩ δ σ2 _ ⟨hs2, ⟨Γ1, hB2, rfl⟩, hkf, hrun, hM, hol⟩
  dsimp only [ovr, List.foldl]
  simp only at hB2 hkf hrun hM hol
  obtain ⟨sp2, sc2, pl2, cl2, op2, oc2, m0, m1, m2, m3, m4, m5, hk2, rfl⟩ := hB2
  by_cases hlt : k < fuel
  · obtain ⟨f, hfu⟩ : ∃ f, fuel - k = f + 1 := ⟨fuel - k - 1, by omega⟩
    have hB2 : BeG σ2 g (.slice pc (codeOf p).length cc) (.slice pi inp.length ci) b _ := ⟨sp2, sc2, pl2, cl2, op2, oc2, m0, m1, m2, m3, m4, m5, hk2, rfl⟩
    by_cases h0 : b.m.st = 0
    · obtain ⟨x, hok⟩ := hM.ok hc h0 hil (by omega) hcl
      obtain ⟨q1, q2, q3, -⟩ := hM.step (keep := false) hc hok
      rw [hfu, runM, if_neg (by omega)] at hrun
      refine zS ?_; refine zS ?_; refine zR ?_; refine zO rfl Rd.mv ?_; refine zO rfl Rd.mv ?_; refine zO rfl (Rd.lss rfl rfl) ?_; refine zO rfl Rd.mv ?_
      first | ((first | refine zW ?_ | refine zQ ?_); refine zO rfl Rd.mv ?_) | refine zU ?_ | refine zV ?_ | refine zZ ?_
      first | refine XOA.wanted rfl rfl ?_ | refine XOA.wq rfl rfl ?_
      refine XOA.wr0 rfl (WrA.cE (step_b σ2 g pc cc (codeOf p) _ inp b x false _ (hcd.mono hs2 (fun _ _ h => h)) (hi.mono (hs1.trans hs2)) hB2 hok) rfl) ?_
      rintro _ σ3 _ ⟨_, ⟨rfl, hs3, hB3⟩, rfl⟩
      refine XOA.cl ?_
      obtain ⟨sp3, sc3, pl3, cl3, op3, oc3, n0, n1, n2, n3, n4, n5, hk3, rfl⟩ := hB3
      have hB3 : BeG σ3 g (.slice pc (codeOf p).length cc) (.slice pi inp.length ci) (stepB (codeOf p) inp false b) _ := ⟨sp3, sc3, pl3, cl3, op3, oc3, n0, n1, n2, n3, n4, n5, hk3, rfl⟩
      refine zO rfl (by first | exact Rd.pT rfl | exact Rd.pF rfl | exact Rd.pP rfl) ?_
      refine zN ?_; refine zT ?_
      refine XA.condT rfl rfl ?_
      refine XA.skip ?_
      refine zT ?_
      refine XA.block ?_
      refine zR ?_; refine zO rfl Rd.mv ?_
      refine zO rfl (by first | exact Rd.adi rfl rfl | exact Rd.add rfl rfl) ?_
      refine zO rfl Rd.asg ?_; refine zN ?_
      refine DA.inb_normal ?_
      refine zT ?_
      refine ⟨(Keep.upd (Keep.upd (Keep.upd (Keep.upd (Keep.updO (Keep.upd (Keep.upd (Keep.upd (Keep.upd (Keep.upd (Keep.upd (Keep.hav (Keep.hav (Keep.refl _ _) rfl) rfl) rfl) rfl) rfl) rfl) rfl) rfl) rfl) rfl) rfl) rfl) rfl), (k + 1, stepB (codeOf p) inp false b), _, (by (repeat (first | exact trivial | refine ⟨rfl, ?_⟩ | refine ⟨Eq.trans rfl (congrArg Value.bool hmat.symm), ?_⟩)); (first | done | fail)), ?_, ⟨hs2.trans hs3, ⟨_, hB3, rfl⟩, by omega, by rw [hrun, show fuel - (k + 1) = f by omega]; simp only [Prod.mk.injEq, true_and]; omega, q1, by show (stepB (codeOf p) inp false b).out.length ≤ k + 1; omega⟩, (by simp only; omega)⟩
      · exact zE
    · rw [hfu, runM, if_pos h0] at hrun
      refine zS ?_; refine zS ?_; refine zR ?_; refine zO rfl Rd.mv ?_; refine zO rfl Rd.mv ?_; refine zO rfl (Rd.lss rfl rfl) ?_; refine zO rfl Rd.mv ?_
      first | ((first | refine zW ?_ | refine zQ ?_); refine zO rfl Rd.mv ?_) | refine zU ?_ | refine zV ?_ | refine zZ ?_
      first | refine XOA.wanted rfl rfl ?_ | refine XOA.wq rfl rfl ?_
      refine XOA.wr0 rfl (WrA.cE (step_done σ2 g _ _ b false _ hB2 h0) rfl) ?_
      rintro _ _ _ ⟨_, ⟨rfl, rfl, hB3⟩, rfl⟩
      refine XOA.cl ?_
      obtain ⟨sp3, sc3, pl3, cl3, op3, oc3, n0, n1, n2, n3, n4, n5, hk3, rfl⟩ := hB3
      refine zO rfl (by first | exact Rd.pT rfl | exact Rd.pF rfl | exact Rd.pP rfl) ?_
      refine zN ?_; refine zT ?_
      refine XA.condF rfl rfl ?_
      refine XA.exit ?_
      refine DA.thn_exit ?_
      refine DA.thn_exit ?_
      refine DA.inb_same ?_
      refine zT ?_; refine zS ?_; refine zR ?_; refine zO rfl Rd.mv ?_
      refine XOA.wr0 rfl (WrA.cE (now_b σ2 g _ _ _ _ _ _ _ _ _ _ _ _ b.m.st pl3 op3 _ _ _ _ b.wrong) rfl) ?_
      rintro _ _ _ ⟨_, ⟨rfl, rfl, rfl⟩, rfl⟩
      refine XOA.cl ?_
      dsimp only [List.append, List.cons_append, List.nil_append]
      refine XOA.frz (R := lst 2 1 (.slice op3 b.out.length _) _ _) (by ((repeat (first | with_reducible exact Sel.head | apply Sel.tail)); (first | done | fail))) lst_frz lst_frz_mono ?_
      rintro σ3 ⟨⟩ hf3 hs3
      refine XOA.frz (R := lst 2 1 (.slice pl3 b.m.cells.length _) _ _) (by ((repeat (first | with_reducible exact Sel.head | apply Sel.tail)); (first | done | fail))) lst_frz lst_frz_mono ?_
      rintro σ4 ⟨⟩ hf4 hs4
      refine zO rfl Rd.mv ?_
      refine XOA.wr0 rfl (WrA.st (tyrow rfl) rfl) ?_
      rintro _ _ _ ⟨rfl, rfl, rfl⟩
      refine zO rfl Rd.asg ?_; refine zN ?_; refine zT ?_
      refine XA.ret ?_
      exact bodyA.ret (ResA.ct rfl rfl rfl (Ld.atBlk (tyrow rfl) rfl (by ((repeat (first | with_reducible exact Sel.head | apply Sel.tail)); (first | done | fail))) rfl (by first | exact take0 (by first | rfl | assumption | (refine (ints_len _).trans ?_; assumption) | (simp [*]; (first | done | fail))) | assumption | exact take_app (by first | rfl | assumption | (refine (ints_len _).trans ?_; assumption) | (simp [*]; (first | done | fail))) | (conv => lhs; simp only [List.drop_succ_cons, List.drop_zero, List.take_succ_cons, List.take_zero])) (by first | rfl | assumption | (refine (ints_len _).trans ?_; assumption) | (simp [*]; (first | done | fail))))) (Ent.nil _) ⟨b, k, op3, _, pl3, _, by rw [hrun]; simp, rfl, pints_frz rfl (lst_frz_mono () _ _ hf3 hs4), pints_frz rfl hf4, ((hs1.trans hs2).trans hs3).trans hs4, rfl⟩
  · rw [show fuel - k = 0 by omega, runM] at hrun
    refine zS ?_; refine zS ?_; refine zR ?_; refine zO rfl Rd.mv ?_; refine zO rfl Rd.mv ?_; refine zO rfl (Rd.lss rfl rfl) ?_; refine zO rfl Rd.mv ?_
    first | ((first | refine zW ?_ | refine zQ ?_); refine zO rfl Rd.mv ?_) | refine zU ?_ | refine zV ?_ | refine zZ ?_
    first | refine zU ?_ | refine zV ?_ | refine zZ ?_
    refine zO rfl (by first | exact Rd.pT rfl | exact Rd.pF rfl | exact Rd.pP rfl) ?_
    refine zN ?_; refine zT ?_
    refine XA.condF rfl (by first | rfl | exact decide_eq_false (by omega)) ?_
    refine XA.exit ?_
    refine DA.thn_exit ?_
    refine DA.thn_exit ?_
    refine DA.inb_same ?_
    refine zT ?_; refine zS ?_; refine zR ?_; refine zO rfl Rd.mv ?_
    refine XOA.wr0 rfl (WrA.cE (now_b σ2 g _ _ _ _ _ _ _ _ _ _ _ _ b.m.st pl2 op2 _ _ _ _ b.wrong) rfl) ?_
    rintro _ _ _ ⟨_, ⟨rfl, rfl, rfl⟩, rfl⟩
    refine XOA.cl ?_
    refine XOA.frz (R := lst 2 1 (.slice op2 b.out.length _) _ _) (by ((repeat (first | with_reducible exact Sel.head | apply Sel.tail)); (first | done | fail))) lst_frz lst_frz_mono ?_
    rintro σ3 ⟨⟩ hf3 hs3
    refine XOA.frz (R := lst 2 1 (.slice pl2 b.m.cells.length _) _ _) (by ((repeat (first | with_reducible exact Sel.head | apply Sel.tail)); (first | done | fail))) lst_frz lst_frz_mono ?_
    rintro σ4 ⟨⟩ hf4 hs4
    refine zO rfl Rd.mv ?_
    refine XOA.wr0 rfl (WrA.st (tyrow rfl) rfl) ?_
    rintro _ _ _ ⟨rfl, rfl, rfl⟩
    refine zO rfl Rd.asg ?_; refine zN ?_; refine zT ?_
    refine XA.ret ?_
    exact bodyA.ret (ResA.ct rfl rfl rfl (Ld.atBlk (tyrow rfl) rfl (by ((repeat (first | with_reducible exact Sel.head | apply Sel.tail)); (first | done | fail))) rfl (by first | exact take0 (by first | rfl | assumption | (refine (ints_len _).trans ?_; assumption) | (simp [*]; (first | done | fail))) | assumption | exact take_app (by first | rfl | assumption | (refine (ints_len _).trans ?_; assumption) | (simp [*]; (first | done | fail))) | (conv => lhs; simp only [List.drop_succ_cons, List.drop_zero, List.take_succ_cons, List.take_zero])) (by first | rfl | assumption | (refine (ints_len _).trans ?_; assumption) | (simp [*]; (first | done | fail))))) (Ent.nil _) ⟨b, k, op2, _, pl2, _, by rw [hrun]; simp, rfl, pints_frz rfl (lst_frz_mono () _ _ hf3 hs4), pints_frz rfl hf4, ((hs1.trans hs2).trans hs3).trans hs4, rfl⟩
end Go.Proofs.Ytbbghdkndbpmmaa

namespace Go.Proofs.Ytbbghdkndbpmmaa
open Go X
set_option maxHeartbeats 1000000
theorem runs_law (σ : PH) (cs : List Value) (p : Pr) (iv : Value) (inp : List Int) (fuel : Int) (hp : PrAt σ cs p) (hi : PInts σ iv inp) :
    CallsA Try.prog 9 #[.agg cs.toArray, iv, i64 fuel] σ [] (RetA fun r σ' _ => r = .bool true ∧ σ.sub σ') := by
  have hp0 := hp
  obtain ⟨vs, bs, rfl, hv, hb⟩ := hp
  obtain ⟨pv, cv, rfl, -, -⟩ := hv.shape
  obtain ⟨pb, cb, rfl, -, -⟩ := hb.shape
  obtain ⟨pi, ci, rfl, hil, him⟩ := hi.shape
  simp only [maxLen] at him
  refine enterA3 Try.func9 rfl rfl rfl ?_
  refine zS ?_; refine zR ?_
  refine XOA.wr0 rfl WrA.bx ?_
  rintro _ _ _ ⟨g3, rfl, rfl, rfl⟩
  refine zO rfl Rd.asg ?_; refine zN ?_; refine zT ?_; refine zS ?_; refine zS ?_; refine zR ?_
  refine XOA.wr0 rfl (WrA.cE (ibegun_a σ) rfl) ?_
  rintro _ σ1 _ ⟨_, ⟨rfl, hs1, rfl⟩, rfl⟩
  refine XOA.cl ?_
  have hp1 := hp0.mono hs1
  have hi1 := hi.mono hs1
  refine zO rfl (by first | exact Rd.notp rfl | exact Rd.not rfl) ?_
  refine zN ?_; refine zT ?_
  refine XA.condF rfl rfl ?_
  refine XA.skip ?_
  refine zT ?_; refine zS ?_; refine zS ?_; refine zR ?_; refine zO rfl (Rd.ldA rfl) ?_
  refine XOA.wr0 rfl (WrA.cE (great_a σ1 _ p hp1) rfl) ?_
  rintro _ _ _ ⟨_, ⟨b, rfl, hsm, rfl, rfl⟩, rfl⟩
  refine XOA.cl ?_
  cases b with
  | true =>
    refine zO rfl Rd.mv ?_
    first | ((first | refine zW ?_ | refine zQ ?_); refine zO rfl Rd.mv ?_) | refine zU ?_ | refine zV ?_ | refine zZ ?_
    first | ((first | refine zW ?_ | refine zQ ?_); refine zO rfl (Rd.lenSlice (tyrow rfl) rfl rfl) ?_) | refine zU ?_ | refine zV ?_ | refine zZ ?_
    first | ((first | refine zW ?_ | refine zQ ?_); refine zO rfl (Rd.gtr rfl rfl) ?_) | refine zU ?_ | refine zV ?_ | refine zZ ?_
    refine zO rfl (by first | exact Rd.pT rfl | exact Rd.pF rfl | exact Rd.pP rfl) ?_
    refine zN ?_; refine zT ?_
    refine XA.condT rfl rfl ?_
    refine zS ?_; refine zR ?_; refine zO rfl Rd.asg ?_; refine zN ?_; refine zT ?_
    refine XA.ret ?_
    refine DA.thn_ret ?_
    exact bodyA.ret (ResA.one rfl rfl) (Ent.nil _) ⟨rfl, hs1⟩
  | false =>
    by_cases a0 : 100 < inp.length
    · skip
      refine zO rfl Rd.mv ?_
      first | ((first | refine zW ?_ | refine zQ ?_); refine zO rfl Rd.mv ?_) | refine zU ?_ | refine zV ?_ | refine zZ ?_
      first | ((first | refine zW ?_ | refine zQ ?_); refine zO rfl (Rd.lenSlice (tyrow rfl) rfl rfl) ?_) | refine zU ?_ | refine zV ?_ | refine zZ ?_
      first | ((first | refine zW ?_ | refine zQ ?_); refine zO rfl (Rd.gtr rfl rfl) ?_) | refine zU ?_ | refine zV ?_ | refine zZ ?_
      refine zO rfl (by first | exact Rd.pT rfl | exact Rd.pF rfl | exact Rd.pP rfl) ?_
      refine zN ?_; refine zT ?_
      refine XA.condT rfl (by first | rfl | exact decide_eq_true (by omega)) ?_
      refine zS ?_; refine zR ?_; refine zO rfl Rd.asg ?_; refine zN ?_; refine zT ?_
      refine XA.ret ?_
      refine DA.thn_ret ?_
      exact bodyA.ret (ResA.one rfl rfl) (Ent.nil _) ⟨rfl, hs1⟩
    have hsm := hsm rfl
    have h900 := hsm.2.2
    have hcdl := codeOf_len p
    have kne : ¬ (checkP p ≠ checkP p) := fun h => h rfl
    refine zO rfl Rd.mv ?_
    first | ((first | refine zW ?_ | refine zQ ?_); refine zO rfl Rd.mv ?_) | refine zU ?_ | refine zV ?_ | refine zZ ?_
    first | ((first | refine zW ?_ | refine zQ ?_); refine zO rfl (Rd.lenSlice (tyrow rfl) rfl rfl) ?_) | refine zU ?_ | refine zV ?_ | refine zZ ?_
    first | ((first | refine zW ?_ | refine zQ ?_); refine zO rfl (Rd.gtr rfl rfl) ?_) | refine zU ?_ | refine zV ?_ | refine zZ ?_
    refine zO rfl (by first | exact Rd.pT rfl | exact Rd.pF rfl | exact Rd.pP rfl) ?_
    refine zN ?_; refine zT ?_
    refine XA.condF rfl (by first | rfl | exact decide_eq_false (by omega)) ?_
    refine XA.skip ?_
    refine zT ?_; refine zS ?_; refine zR ?_; refine zO rfl (Rd.ldA rfl) ?_; refine zO rfl Rd.mv ?_; refine zO rfl Rd.mv ?_
    by_cases hc : checkP p = 0
    · have kn0 : ¬ (checkP p ≠ 0) := fun h => h hc
      have kn1 : ¬ ((0 : Int) ≠ checkP p) := fun h => h hc.symm
      by_cases a1 : 40 < inp.length
      · refine XOA.wr0 rfl (WrA.cE (run_range σ1 _ p _ inp fuel hp1 hi1 hc (by omega)) rfl) ?_
        rintro _ σ2 _ ⟨_, ⟨rfl, hs2, rfl⟩, rfl⟩
        refine XOA.cl ?_
        refine zO rfl Rd.mv ?_
        refine zO rfl (Rd.extract rfl rfl) ?_
        refine zO rfl (Rd.extract rfl rfl) ?_
        refine zO rfl (Rd.extract rfl rfl) ?_
        refine XOA.wr0 rfl (WrA.alloc (tyrow rfl)) ?_
        rintro _ _ _ ⟨g7, rfl, rfl, rfl⟩
        refine XOA.wr0 rfl (WrA.st (tyrow rfl) rfl) ?_
        rintro _ _ _ ⟨rfl, rfl, rfl⟩
        refine zO rfl Rd.asg ?_; refine zO rfl Rd.asg ?_; refine zN ?_; refine zT ?_; refine zS ?_; refine zR ?_; refine zO rfl (Rd.ldA rfl) ?_
        refine XOA.wr0 rfl (WrA.cE (fault_a σ2 _ p (hp1.mono hs2)) rfl) ?_
        rintro _ _ _ ⟨_, ⟨rfl, rfl, rfl⟩, rfl⟩
        refine XOA.cl ?_
        refine zO rfl Rd.asg ?_; refine zN ?_; refine zT ?_; refine zS ?_; refine zS ?_; refine zR ?_; refine zO rfl Rd.mv ?_; refine zO rfl (Rd.eql rfl rfl) ?_; refine zO rfl Rd.mv ?_
        first | ((first | refine zW ?_ | refine zQ ?_); refine zO rfl Rd.mv ?_) | refine zU ?_ | refine zV ?_ | refine zZ ?_
        first | ((first | refine zW ?_ | refine zQ ?_); refine zO rfl (Rd.lenSlice (tyrow rfl) rfl rfl) ?_) | refine zU ?_ | refine zV ?_ | refine zZ ?_
        first | ((first | refine zW ?_ | refine zQ ?_); refine zO rfl (Rd.gtr rfl rfl) ?_) | refine zU ?_ | refine zV ?_ | refine zZ ?_
        first | ((first | refine zW ?_ | refine zQ ?_); refine zO rfl Rd.mv ?_) | refine zU ?_ | refine zV ?_ | refine zZ ?_
        first | ((first | refine zW ?_ | refine zQ ?_); refine zO rfl Rd.mv ?_) | refine zU ?_ | refine zV ?_ | refine zZ ?_
        first | ((first | refine zW ?_ | refine zQ ?_); refine zO rfl (Rd.lss rfl rfl) ?_) | refine zU ?_ | refine zV ?_ | refine zZ ?_
        first | ((first | refine zW ?_ | refine zQ ?_); refine zO rfl (by first | exact Rd.pT rfl | exact Rd.pF rfl | exact Rd.pP rfl) ?_) | refine zU ?_ | refine zV ?_ | refine zZ ?_
        first | ((first | refine zW ?_ | refine zQ ?_); refine zO rfl Rd.mv ?_) | refine zU ?_ | refine zV ?_ | refine zZ ?_
        first | ((first | refine zW ?_ | refine zQ ?_); refine zO rfl Rd.mv ?_) | refine zU ?_ | refine zV ?_ | refine zZ ?_
        first | ((first | refine zW ?_ | refine zQ ?_); refine zO rfl (Rd.gtr rfl rfl) ?_) | refine zU ?_ | refine zV ?_ | refine zZ ?_
        first | ((first | refine zW ?_ | refine zQ ?_); refine zO rfl (by first | exact Rd.pT rfl | exact Rd.pF rfl | exact Rd.pP rfl) ?_) | refine zU ?_ | refine zV ?_ | refine zZ ?_
        refine zO rfl (by first | exact Rd.pT rfl | exact Rd.pF rfl | exact Rd.pP rfl) ?_
        refine zN ?_; refine zT ?_
        refine XA.condT rfl (by first | rfl | exact decide_eq_true (by omega)) ?_
        refine zR ?_; refine zO rfl Rd.asg ?_; refine zN ?_; refine zT ?_; refine zS ?_; refine zS ?_; refine zR ?_; refine zO rfl Rd.mv ?_; refine zO rfl Rd.mv ?_
        refine zO rfl (Rd.neq rfl rfl) ?_
        refine zN ?_; refine zT ?_
        refine XA.condF rfl rfl ?_
        refine XA.skip ?_
        refine zT ?_; refine zS ?_; refine zS ?_; refine zR ?_; refine zO rfl Rd.mv ?_
        refine zO rfl (Rd.neq rfl rfl) ?_
        refine zN ?_; refine zT ?_
        refine XA.condT rfl rfl ?_
        refine zS ?_; refine zR ?_; refine zO rfl Rd.mv ?_; refine zO rfl (Rd.eql rfl rfl) ?_; refine zO rfl Rd.mv ?_
        first | ((first | refine zW ?_ | refine zQ ?_); refine zO rfl (Rd.ldA rfl) ?_) | refine zU ?_ | refine zV ?_ | refine zZ ?_
        first | ((first | refine zW ?_ | refine zQ ?_); refine zO rfl (Rd.bl (fun _ _ => tyrow) rfl rfl rfl) ?_) | refine zU ?_ | refine zV ?_ | refine zZ ?_
        first | refine XOA.wanted rfl rfl ?_ | refine XOA.wq rfl rfl ?_
        refine XOA.wr0 rfl (WrA.cE (sresult_a σ2 0 _ _ _ _ [] [] (PInts.nil _) (PInts.nil _) (PInts.nil _) (PInts.nil _)) rfl) ?_
        rintro _ _ _ ⟨_, ⟨rfl, rfl, rfl⟩, rfl⟩
        refine XOA.cl ?_
        refine zO rfl (by first | exact Rd.pT rfl | exact Rd.pF rfl | exact Rd.pP rfl) ?_
        refine zO rfl Rd.asg ?_; refine zN ?_; refine zT ?_
        refine XA.ret ?_
        refine DA.thn_ret ?_
        exact bodyA.ret (ResA.one rfl rfl) (Ent.nil _) ⟨rfl, hs1.trans hs2⟩
      by_cases a2 : fuel < 0
      · skip
        refine XOA.wr0 rfl (WrA.cE (run_range σ1 _ p _ inp fuel hp1 hi1 hc (by omega)) rfl) ?_
        rintro _ σ2 _ ⟨_, ⟨rfl, hs2, rfl⟩, rfl⟩
        refine XOA.cl ?_
        refine zO rfl Rd.mv ?_
        refine zO rfl (Rd.extract rfl rfl) ?_
        refine zO rfl (Rd.extract rfl rfl) ?_
        refine zO rfl (Rd.extract rfl rfl) ?_
        refine XOA.wr0 rfl (WrA.alloc (tyrow rfl)) ?_
        rintro _ _ _ ⟨g7, rfl, rfl, rfl⟩
        refine XOA.wr0 rfl (WrA.st (tyrow rfl) rfl) ?_
        rintro _ _ _ ⟨rfl, rfl, rfl⟩
        refine zO rfl Rd.asg ?_; refine zO rfl Rd.asg ?_; refine zN ?_; refine zT ?_; refine zS ?_; refine zR ?_; refine zO rfl (Rd.ldA rfl) ?_
        refine XOA.wr0 rfl (WrA.cE (fault_a σ2 _ p (hp1.mono hs2)) rfl) ?_
        rintro _ _ _ ⟨_, ⟨rfl, rfl, rfl⟩, rfl⟩
        refine XOA.cl ?_
        refine zO rfl Rd.asg ?_; refine zN ?_; refine zT ?_; refine zS ?_; refine zS ?_; refine zR ?_; refine zO rfl Rd.mv ?_; refine zO rfl (Rd.eql rfl rfl) ?_; refine zO rfl Rd.mv ?_
        first | ((first | refine zW ?_ | refine zQ ?_); refine zO rfl Rd.mv ?_) | refine zU ?_ | refine zV ?_ | refine zZ ?_
        first | ((first | refine zW ?_ | refine zQ ?_); refine zO rfl (Rd.lenSlice (tyrow rfl) rfl rfl) ?_) | refine zU ?_ | refine zV ?_ | refine zZ ?_
        first | ((first | refine zW ?_ | refine zQ ?_); refine zO rfl (Rd.gtr rfl rfl) ?_) | refine zU ?_ | refine zV ?_ | refine zZ ?_
        first | ((first | refine zW ?_ | refine zQ ?_); refine zO rfl Rd.mv ?_) | refine zU ?_ | refine zV ?_ | refine zZ ?_
        first | ((first | refine zW ?_ | refine zQ ?_); refine zO rfl Rd.mv ?_) | refine zU ?_ | refine zV ?_ | refine zZ ?_
        first | ((first | refine zW ?_ | refine zQ ?_); refine zO rfl (Rd.lss rfl rfl) ?_) | refine zU ?_ | refine zV ?_ | refine zZ ?_
        first | ((first | refine zW ?_ | refine zQ ?_); refine zO rfl (by first | exact Rd.pT rfl | exact Rd.pF rfl | exact Rd.pP rfl) ?_) | refine zU ?_ | refine zV ?_ | refine zZ ?_
        first | ((first | refine zW ?_ | refine zQ ?_); refine zO rfl Rd.mv ?_) | refine zU ?_ | refine zV ?_ | refine zZ ?_
        first | ((first | refine zW ?_ | refine zQ ?_); refine zO rfl Rd.mv ?_) | refine zU ?_ | refine zV ?_ | refine zZ ?_
        first | ((first | refine zW ?_ | refine zQ ?_); refine zO rfl (Rd.gtr rfl rfl) ?_) | refine zU ?_ | refine zV ?_ | refine zZ ?_
        first | ((first | refine zW ?_ | refine zQ ?_); refine zO rfl (by first | exact Rd.pT rfl | exact Rd.pF rfl | exact Rd.pP rfl) ?_) | refine zU ?_ | refine zV ?_ | refine zZ ?_
        refine zO rfl (by first | exact Rd.pT rfl | exact Rd.pF rfl | exact Rd.pP rfl) ?_
        refine zN ?_; refine zT ?_
        refine XA.condT rfl (by first | rfl | exact decide_eq_true (by omega)) ?_
        refine zR ?_; refine zO rfl Rd.asg ?_; refine zN ?_; refine zT ?_; refine zS ?_; refine zS ?_; refine zR ?_; refine zO rfl Rd.mv ?_; refine zO rfl Rd.mv ?_
        refine zO rfl (Rd.neq rfl rfl) ?_
        refine zN ?_; refine zT ?_
        refine XA.condF rfl rfl ?_
        refine XA.skip ?_
        refine zT ?_; refine zS ?_; refine zS ?_; refine zR ?_; refine zO rfl Rd.mv ?_
        refine zO rfl (Rd.neq rfl rfl) ?_
        refine zN ?_; refine zT ?_
        refine XA.condT rfl rfl ?_
        refine zS ?_; refine zR ?_; refine zO rfl Rd.mv ?_; refine zO rfl (Rd.eql rfl rfl) ?_; refine zO rfl Rd.mv ?_
        first | ((first | refine zW ?_ | refine zQ ?_); refine zO rfl (Rd.ldA rfl) ?_) | refine zU ?_ | refine zV ?_ | refine zZ ?_
        first | ((first | refine zW ?_ | refine zQ ?_); refine zO rfl (Rd.bl (fun _ _ => tyrow) rfl rfl rfl) ?_) | refine zU ?_ | refine zV ?_ | refine zZ ?_
        first | refine XOA.wanted rfl rfl ?_ | refine XOA.wq rfl rfl ?_
        refine XOA.wr0 rfl (WrA.cE (sresult_a σ2 0 _ _ _ _ [] [] (PInts.nil _) (PInts.nil _) (PInts.nil _) (PInts.nil _)) rfl) ?_
        rintro _ _ _ ⟨_, ⟨rfl, rfl, rfl⟩, rfl⟩
        refine XOA.cl ?_
        refine zO rfl (by first | exact Rd.pT rfl | exact Rd.pF rfl | exact Rd.pP rfl) ?_
        refine zO rfl Rd.asg ?_; refine zN ?_; refine zT ?_
        refine XA.ret ?_
        refine DA.thn_ret ?_
        exact bodyA.ret (ResA.one rfl rfl) (Ent.nil _) ⟨rfl, hs1.trans hs2⟩
      by_cases a3 : 3000 < fuel
      · skip
        refine XOA.wr0 rfl (WrA.cE (run_range σ1 _ p _ inp fuel hp1 hi1 hc (by omega)) rfl) ?_
        rintro _ σ2 _ ⟨_, ⟨rfl, hs2, rfl⟩, rfl⟩
        refine XOA.cl ?_
        refine zO rfl Rd.mv ?_
        refine zO rfl (Rd.extract rfl rfl) ?_
        refine zO rfl (Rd.extract rfl rfl) ?_
        refine zO rfl (Rd.extract rfl rfl) ?_
        refine XOA.wr0 rfl (WrA.alloc (tyrow rfl)) ?_
        rintro _ _ _ ⟨g7, rfl, rfl, rfl⟩
        refine XOA.wr0 rfl (WrA.st (tyrow rfl) rfl) ?_
        rintro _ _ _ ⟨rfl, rfl, rfl⟩
        refine zO rfl Rd.asg ?_; refine zO rfl Rd.asg ?_; refine zN ?_; refine zT ?_; refine zS ?_; refine zR ?_; refine zO rfl (Rd.ldA rfl) ?_
        refine XOA.wr0 rfl (WrA.cE (fault_a σ2 _ p (hp1.mono hs2)) rfl) ?_
        rintro _ _ _ ⟨_, ⟨rfl, rfl, rfl⟩, rfl⟩
        refine XOA.cl ?_
        refine zO rfl Rd.asg ?_; refine zN ?_; refine zT ?_; refine zS ?_; refine zS ?_; refine zR ?_; refine zO rfl Rd.mv ?_; refine zO rfl (Rd.eql rfl rfl) ?_; refine zO rfl Rd.mv ?_
        first | ((first | refine zW ?_ | refine zQ ?_); refine zO rfl Rd.mv ?_) | refine zU ?_ | refine zV ?_ | refine zZ ?_
        first | ((first | refine zW ?_ | refine zQ ?_); refine zO rfl (Rd.lenSlice (tyrow rfl) rfl rfl) ?_) | refine zU ?_ | refine zV ?_ | refine zZ ?_
        first | ((first | refine zW ?_ | refine zQ ?_); refine zO rfl (Rd.gtr rfl rfl) ?_) | refine zU ?_ | refine zV ?_ | refine zZ ?_
        first | ((first | refine zW ?_ | refine zQ ?_); refine zO rfl Rd.mv ?_) | refine zU ?_ | refine zV ?_ | refine zZ ?_
        first | ((first | refine zW ?_ | refine zQ ?_); refine zO rfl Rd.mv ?_) | refine zU ?_ | refine zV ?_ | refine zZ ?_
        first | ((first | refine zW ?_ | refine zQ ?_); refine zO rfl (Rd.lss rfl rfl) ?_) | refine zU ?_ | refine zV ?_ | refine zZ ?_
        first | ((first | refine zW ?_ | refine zQ ?_); refine zO rfl (by first | exact Rd.pT rfl | exact Rd.pF rfl | exact Rd.pP rfl) ?_) | refine zU ?_ | refine zV ?_ | refine zZ ?_
        first | ((first | refine zW ?_ | refine zQ ?_); refine zO rfl Rd.mv ?_) | refine zU ?_ | refine zV ?_ | refine zZ ?_
        first | ((first | refine zW ?_ | refine zQ ?_); refine zO rfl Rd.mv ?_) | refine zU ?_ | refine zV ?_ | refine zZ ?_
        first | ((first | refine zW ?_ | refine zQ ?_); refine zO rfl (Rd.gtr rfl rfl) ?_) | refine zU ?_ | refine zV ?_ | refine zZ ?_
        first | ((first | refine zW ?_ | refine zQ ?_); refine zO rfl (by first | exact Rd.pT rfl | exact Rd.pF rfl | exact Rd.pP rfl) ?_) | refine zU ?_ | refine zV ?_ | refine zZ ?_
        refine zO rfl (by first | exact Rd.pT rfl | exact Rd.pF rfl | exact Rd.pP rfl) ?_
        refine zN ?_; refine zT ?_
        refine XA.condT rfl (by first | rfl | exact decide_eq_true (by omega)) ?_
        refine zR ?_; refine zO rfl Rd.asg ?_; refine zN ?_; refine zT ?_; refine zS ?_; refine zS ?_; refine zR ?_; refine zO rfl Rd.mv ?_; refine zO rfl Rd.mv ?_
        refine zO rfl (Rd.neq rfl rfl) ?_
        refine zN ?_; refine zT ?_
        refine XA.condF rfl rfl ?_
        refine XA.skip ?_
        refine zT ?_; refine zS ?_; refine zS ?_; refine zR ?_; refine zO rfl Rd.mv ?_
        refine zO rfl (Rd.neq rfl rfl) ?_
        refine zN ?_; refine zT ?_
        refine XA.condT rfl rfl ?_
        refine zS ?_; refine zR ?_; refine zO rfl Rd.mv ?_; refine zO rfl (Rd.eql rfl rfl) ?_; refine zO rfl Rd.mv ?_
        first | ((first | refine zW ?_ | refine zQ ?_); refine zO rfl (Rd.ldA rfl) ?_) | refine zU ?_ | refine zV ?_ | refine zZ ?_
        first | ((first | refine zW ?_ | refine zQ ?_); refine zO rfl (Rd.bl (fun _ _ => tyrow) rfl rfl rfl) ?_) | refine zU ?_ | refine zV ?_ | refine zZ ?_
        first | refine XOA.wanted rfl rfl ?_ | refine XOA.wq rfl rfl ?_
        refine XOA.wr0 rfl (WrA.cE (sresult_a σ2 0 _ _ _ _ [] [] (PInts.nil _) (PInts.nil _) (PInts.nil _) (PInts.nil _)) rfl) ?_
        rintro _ _ _ ⟨_, ⟨rfl, rfl, rfl⟩, rfl⟩
        refine XOA.cl ?_
        refine zO rfl (by first | exact Rd.pT rfl | exact Rd.pF rfl | exact Rd.pP rfl) ?_
        refine zO rfl Rd.asg ?_; refine zN ?_; refine zT ?_
        refine XA.ret ?_
        refine DA.thn_ret ?_
        exact bodyA.ret (ResA.one rfl rfl) (Ent.nil _) ⟨rfl, hs1.trans hs2⟩
      obtain ⟨f, rfl⟩ : ∃ f : Nat, fuel = f := ⟨fuel.toNat, by omega⟩
      refine XOA.wr0 rfl (WrA.cE (run_ok σ1 _ p _ inp f hp1 hi1 hc (by omega) (by omega)) rfl) ?_
      rintro _ σ2 _ ⟨_, ⟨c, s, po, pc, co, cc, hrun, rfl, hvo, hvc, hle, hs2, rfl⟩, rfl⟩
      refine XOA.cl ?_
      obtain ⟨b, hr1, -, hr2, hr3, hr4, hr5⟩ := run_sim hc hrun
      have hnow : nowC b = c := by
        rw [nowC, hr4, if_neg (by decide)]
        rcases hr5 with ⟨rfl, h⟩ | ⟨rfl, h⟩ | ⟨h0, h⟩
        · rw [h]; rfl
        · rw [h]; rfl
        · rw [if_neg (by omega), if_pos (by omega), X.wrap64_in (by omega) (by omega)]; omega
      refine zO rfl Rd.mv ?_
      refine zO rfl (Rd.extract rfl rfl) ?_
      refine zO rfl (Rd.extract rfl rfl) ?_
      refine zO rfl (Rd.extract rfl rfl) ?_
      refine XOA.wr0 rfl (WrA.alloc (tyrow rfl)) ?_
      rintro _ _ _ ⟨g7, rfl, rfl, rfl⟩
      refine XOA.wr0 rfl (WrA.st (tyrow rfl) rfl) ?_
      rintro _ _ _ ⟨rfl, rfl, rfl⟩
      refine zO rfl Rd.asg ?_; refine zO rfl Rd.asg ?_; refine zN ?_; refine zT ?_; refine zS ?_; refine zR ?_; refine zO rfl (Rd.ldA rfl) ?_
      refine XOA.wr0 rfl (WrA.cE (fault_a σ2 _ p (hp1.mono hs2)) rfl) ?_
      rintro _ _ _ ⟨_, ⟨rfl, rfl, rfl⟩, rfl⟩
      refine XOA.cl ?_
      refine zO rfl Rd.asg ?_; refine zN ?_; refine zT ?_; refine zS ?_; refine zS ?_; refine zR ?_; refine zO rfl Rd.mv ?_; refine zO rfl (Rd.eql rfl rfl) ?_; refine zO rfl Rd.mv ?_
      first | ((first | refine zW ?_ | refine zQ ?_); refine zO rfl Rd.mv ?_) | refine zU ?_ | refine zV ?_ | refine zZ ?_
      first | ((first | refine zW ?_ | refine zQ ?_); refine zO rfl (Rd.lenSlice (tyrow rfl) rfl rfl) ?_) | refine zU ?_ | refine zV ?_ | refine zZ ?_
      first | ((first | refine zW ?_ | refine zQ ?_); refine zO rfl (Rd.gtr rfl rfl) ?_) | refine zU ?_ | refine zV ?_ | refine zZ ?_
      first | ((first | refine zW ?_ | refine zQ ?_); refine zO rfl Rd.mv ?_) | refine zU ?_ | refine zV ?_ | refine zZ ?_
      first | ((first | refine zW ?_ | refine zQ ?_); refine zO rfl Rd.mv ?_) | refine zU ?_ | refine zV ?_ | refine zZ ?_
      first | ((first | refine zW ?_ | refine zQ ?_); refine zO rfl (Rd.lss rfl rfl) ?_) | refine zU ?_ | refine zV ?_ | refine zZ ?_
      first | ((first | refine zW ?_ | refine zQ ?_); refine zO rfl (by first | exact Rd.pT rfl | exact Rd.pF rfl | exact Rd.pP rfl) ?_) | refine zU ?_ | refine zV ?_ | refine zZ ?_
      first | ((first | refine zW ?_ | refine zQ ?_); refine zO rfl Rd.mv ?_) | refine zU ?_ | refine zV ?_ | refine zZ ?_
      first | ((first | refine zW ?_ | refine zQ ?_); refine zO rfl Rd.mv ?_) | refine zU ?_ | refine zV ?_ | refine zZ ?_
      first | ((first | refine zW ?_ | refine zQ ?_); refine zO rfl (Rd.gtr rfl rfl) ?_) | refine zU ?_ | refine zV ?_ | refine zZ ?_
      first | ((first | refine zW ?_ | refine zQ ?_); refine zO rfl (by first | exact Rd.pT rfl | exact Rd.pF rfl | exact Rd.pP rfl) ?_) | refine zU ?_ | refine zV ?_ | refine zZ ?_
      refine zO rfl (by first | exact Rd.pT rfl | exact Rd.pF rfl | exact Rd.pP rfl) ?_
      refine zN ?_; refine zT ?_
      refine XA.condF rfl (by first | rfl | exact decide_eq_false (by omega)) ?_
      refine XA.skip ?_
      refine zT ?_; refine zS ?_; refine zS ?_; refine zR ?_; refine zO rfl Rd.mv ?_; refine zO rfl Rd.mv ?_
      refine zO rfl (Rd.neq rfl rfl) ?_
      refine zN ?_; refine zT ?_
      refine XA.condF rfl (decide_eq_false kn1) ?_
      refine XA.skip ?_
      refine zT ?_; refine zS ?_; refine zS ?_; refine zR ?_; refine zO rfl Rd.mv ?_
      refine zO rfl (Rd.neq rfl rfl) ?_
      refine zN ?_; refine zT ?_
      refine XA.condF rfl (decide_eq_false kn0) ?_
      refine XA.skip ?_
      refine zT ?_; refine zS ?_; refine zR ?_; refine zO rfl (Rd.ldA rfl) ?_; refine zO rfl Rd.mv ?_; refine zO rfl Rd.mv ?_
      refine XOA.wr0 rfl (WrA.cE (ideal_b σ2 _ p _ inp f (hp1.mono hs2) (hi1.mono hs2) hc (by omega) (by omega) (by omega) (by omega)) rfl) ?_
      rintro _ σ3 _ ⟨_, ⟨b', k', po', co', pc', cc', hrb, rfl, ho', hc', hs3, rfl⟩, rfl⟩
      refine XOA.cl ?_
      rw [hr1] at hrb
      simp only [Prod.mk.injEq] at hrb
      obtain ⟨rfl, rfl⟩ := hrb
      rw [hnow]
      have hk : ((f : Int) - (s.left : Int)) = ((f - s.left : Nat) : Int) := by omega
      rw [hk]
      refine zO rfl Rd.mv ?_
      refine zO rfl (Rd.extract rfl rfl) ?_
      refine zO rfl (Rd.extract rfl rfl) ?_
      refine XOA.wr0 rfl (WrA.alloc (tyrow rfl)) ?_
      rintro _ _ _ ⟨g11, rfl, rfl, rfl⟩
      refine XOA.wr0 rfl (WrA.st (tyrow rfl) rfl) ?_
      rintro _ _ _ ⟨rfl, rfl, rfl⟩
      refine zO rfl Rd.asg ?_; refine zN ?_; refine zT ?_; refine zS ?_; refine zR ?_; refine zO rfl (Rd.ldA rfl) ?_; refine zO rfl (Rd.ldA rfl) ?_
      refine XOA.wr0 rfl (WrA.cE (sresult_a σ3 c _ _ _ _ s.out s.cells (hvo.mono hs3) (hvc.mono hs3) (by rw [← hr3]; exact ho') (by rw [← hr2]; exact hc')) rfl) ?_
      rintro _ _ _ ⟨_, ⟨rfl, rfl, rfl⟩, rfl⟩
      refine XOA.cl ?_
      refine zO rfl Rd.mv ?_
      first | ((first | refine zW ?_ | refine zQ ?_); refine zO rfl Rd.mv ?_) | refine zU ?_ | refine zV ?_ | refine zZ ?_
      first | ((first | refine zW ?_ | refine zQ ?_); refine zO rfl Rd.mv ?_) | refine zU ?_ | refine zV ?_ | refine zZ ?_
      first | ((first | refine zW ?_ | refine zQ ?_); refine zO rfl (Rd.eql rfl rfl) ?_) | refine zU ?_ | refine zV ?_ | refine zZ ?_
      refine zO rfl (by first | exact Rd.pT rfl | exact Rd.pF rfl | exact Rd.pP rfl) ?_
      refine zO rfl Rd.asg ?_; refine zN ?_; refine zT ?_
      refine XA.ret ?_
      exact bodyA.ret (ResA.one rfl rfl) (Ent.nil _) ⟨congrArg Value.bool (decide_eq_true rfl), (hs1.trans hs2).trans hs3⟩
    · have hcn : ¬ checkP p = 0 := hc
      refine XOA.wr0 rfl (WrA.cE (run_bad σ1 _ p _ inp fuel hp1 hi1 hc) rfl) ?_
      rintro _ σ2 _ ⟨_, ⟨rfl, hs2, rfl⟩, rfl⟩
      refine XOA.cl ?_
      refine zO rfl Rd.mv ?_
      refine zO rfl (Rd.extract rfl rfl) ?_
      refine zO rfl (Rd.extract rfl rfl) ?_
      refine zO rfl (Rd.extract rfl rfl) ?_
      refine XOA.wr0 rfl (WrA.alloc (tyrow rfl)) ?_
      rintro _ _ _ ⟨g7, rfl, rfl, rfl⟩
      refine XOA.wr0 rfl (WrA.st (tyrow rfl) rfl) ?_
      rintro _ _ _ ⟨rfl, rfl, rfl⟩
      refine zO rfl Rd.asg ?_; refine zO rfl Rd.asg ?_; refine zN ?_; refine zT ?_; refine zS ?_; refine zR ?_; refine zO rfl (Rd.ldA rfl) ?_
      refine XOA.wr0 rfl (WrA.cE (fault_a σ2 _ p (hp1.mono hs2)) rfl) ?_
      rintro _ _ _ ⟨_, ⟨rfl, rfl, rfl⟩, rfl⟩
      refine XOA.cl ?_
      refine zO rfl Rd.asg ?_; refine zN ?_; refine zT ?_; refine zS ?_; refine zS ?_; refine zR ?_; refine zO rfl Rd.mv ?_; refine zO rfl (Rd.eql rfl rfl) ?_; refine zO rfl Rd.mv ?_
      first | ((first | refine zW ?_ | refine zQ ?_); refine zO rfl Rd.mv ?_) | refine zU ?_ | refine zV ?_ | refine zZ ?_
      first | ((first | refine zW ?_ | refine zQ ?_); refine zO rfl (Rd.lenSlice (tyrow rfl) rfl rfl) ?_) | refine zU ?_ | refine zV ?_ | refine zZ ?_
      first | ((first | refine zW ?_ | refine zQ ?_); refine zO rfl (Rd.gtr rfl rfl) ?_) | refine zU ?_ | refine zV ?_ | refine zZ ?_
      first | ((first | refine zW ?_ | refine zQ ?_); refine zO rfl Rd.mv ?_) | refine zU ?_ | refine zV ?_ | refine zZ ?_
      first | ((first | refine zW ?_ | refine zQ ?_); refine zO rfl Rd.mv ?_) | refine zU ?_ | refine zV ?_ | refine zZ ?_
      first | ((first | refine zW ?_ | refine zQ ?_); refine zO rfl (Rd.lss rfl rfl) ?_) | refine zU ?_ | refine zV ?_ | refine zZ ?_
      first | ((first | refine zW ?_ | refine zQ ?_); refine zO rfl (by first | exact Rd.pT rfl | exact Rd.pF rfl | exact Rd.pP rfl) ?_) | refine zU ?_ | refine zV ?_ | refine zZ ?_
      first | ((first | refine zW ?_ | refine zQ ?_); refine zO rfl Rd.mv ?_) | refine zU ?_ | refine zV ?_ | refine zZ ?_
      first | ((first | refine zW ?_ | refine zQ ?_); refine zO rfl Rd.mv ?_) | refine zU ?_ | refine zV ?_ | refine zZ ?_
      first | ((first | refine zW ?_ | refine zQ ?_); refine zO rfl (Rd.gtr rfl rfl) ?_) | refine zU ?_ | refine zV ?_ | refine zZ ?_
      first | ((first | refine zW ?_ | refine zQ ?_); refine zO rfl (by first | exact Rd.pT rfl | exact Rd.pF rfl | exact Rd.pP rfl) ?_) | refine zU ?_ | refine zV ?_ | refine zZ ?_
      refine zO rfl (by first | exact Rd.pT rfl | exact Rd.pF rfl | exact Rd.pP rfl) ?_
      refine zN ?_; refine zT ?_
      refine XA.condF rfl (by first | rfl | exact decide_eq_false hcn) ?_
      refine XA.skip ?_
      refine zT ?_; refine zS ?_; refine zS ?_; refine zR ?_; refine zO rfl Rd.mv ?_; refine zO rfl Rd.mv ?_
      refine zO rfl (Rd.neq rfl rfl) ?_
      refine zN ?_; refine zT ?_
      refine XA.condF rfl (decide_eq_false kne) ?_
      refine XA.skip ?_
      refine zT ?_; refine zS ?_; refine zS ?_; refine zR ?_; refine zO rfl Rd.mv ?_
      refine zO rfl (Rd.neq rfl rfl) ?_
      refine zN ?_; refine zT ?_
      refine XA.condT rfl (decide_eq_true hc) ?_
      refine zS ?_; refine zR ?_; refine zO rfl Rd.mv ?_; refine zO rfl (Rd.eql rfl rfl) ?_; refine zO rfl Rd.mv ?_
      first | ((first | refine zW ?_ | refine zQ ?_); refine zO rfl (Rd.ldA rfl) ?_) | refine zU ?_ | refine zV ?_ | refine zZ ?_
      first | ((first | refine zW ?_ | refine zQ ?_); refine zO rfl (Rd.bl (fun _ _ => tyrow) rfl rfl rfl) ?_) | refine zU ?_ | refine zV ?_ | refine zZ ?_
      first | refine XOA.wanted rfl rfl ?_ | refine XOA.wq rfl rfl ?_
      refine XOA.wr0 rfl (WrA.cE (sresult_a σ2 0 _ _ _ _ [] [] (PInts.nil _) (PInts.nil _) (PInts.nil _) (PInts.nil _)) rfl) ?_
      rintro _ _ _ ⟨_, ⟨rfl, rfl, rfl⟩, rfl⟩
      refine XOA.cl ?_
      refine zO rfl (by first | exact Rd.pT rfl | exact Rd.pF rfl | exact Rd.pP rfl) ?_
      refine zO rfl Rd.asg ?_; refine zN ?_; refine zT ?_
      refine XA.ret ?_
      refine DA.thn_ret ?_
      exact bodyA.ret (ResA.one rfl rfl) (Ent.nil _) ⟨rfl, hs1.trans hs2⟩
end Go.Proofs.Ytbbghdkndbpmmaa

namespace Go.Proofs.Ytbbghdkndbpmmaa
open Go X Go.ChangeShapes Go.WideShapes Go.ChangeAt Go.RowKit
set_option maxRecDepth 100000 in
theorem idealRuns_lifted (os : Os) (started : os.Started) (H : Type) (enc : TypeId × Value → H) :
    ReturnsInHanded {} Try.checked os 9 .any (Rows.idealRunsSpec.pre6 enc Try.prog Try.f9 Rows.idealRunsRow.domain false) (Rows.idealRunsSpec.post enc Try.prog Try.f9 false true false false) := by
  refine returnsInHanded_of_change (C := Try.checked) Try.own started (by kernel_rfl) Try.func9
    (ChangeSpec.witness6 (enc := enc) (C := Try.checked) false ⟨#[], #[.agg #[.slice none 0 0, .slice none 0 0], .slice none 0 0, .int .i64 0], []⟩ 8 (by kernel_rfl) (by kernel_rfl) (by kernel_rfl) (by kernel_rfl)) ?_
  intro W base args ds gs before hval0 hW hcnd _
  have hval : ∀ (j : Nat) t v, Try.f9.params[j]? = some t → args[j]? = some v → Value.okWide Try.prog W .any base t v := hval0
  have hW' := hW
  obtain ⟨p, q, hA0, hV, rfl, hfz, hnd⟩ := hW
  have hA : DataW.TrodAll enc Try.prog W 0 (fun _ => true) true [25, 61, 3] args.toList ds p := hA0
  obtain ⟨v0, v1, v2, d0, d1, d2, p0, p1, p2, rfl, rfl, rfl, h0, h1, h2⟩ := trodAll_three hA
  have hb : Try.prog.underlying 4 = some .bool := by kernel_rfl
  refine post_true (fid := 9) (tb := 4) Try.laidOut (by kernel_rfl) rfl rfl hb ?_ hW' (callsX_true ?_)
  · obtain ⟨rfl, rfl⟩ := trodVars_none hV; rfl
  · obtain ⟨pr0, cs0, rfl, hp0⟩ := Dec.agg dec_pr (tyrow rfl) rfl (hval 0 _ v0 rfl rfl) h0
    obtain ⟨xs1, _, e1, hxs1⟩ := (Dec.slice (tyrow rfl) rfl (tyrow rfl) rfl (by decide) (Dec.int (tyrow rfl) rfl)).one (tyrow rfl) rfl (hval 1 _ v1 rfl rfl) h1 rSl_one
    simp only [List.cons.injEq, and_true] at e1
    subst e1
    obtain ⟨n2, e2, ln2, un2⟩ := (Dec.int (tyrow rfl) rfl).one (tyrow rfl) rfl (hval 2 _ v2 rfl rfl) h2 rInt_one
    simp only [List.cons.injEq, and_true] at e2
    subst e2
    exact runs_law _ cs0 pr0 _ xs1 n2 hp0 (pints_of hxs1)
theorem idealRuns_holds : Rows.IdealRunsSaid :=
  OpenClaim.holds_of_wide 9 Try.f9 rfl rfl rfl rfl rfl rfl rfl ⟨rfl, rfl, rfl, rfl, rfl⟩ rfl rfl rfl rfl rfl (by kernel_rfl) Try.func9 (by kernel_rfl)
    (of_decide_eq_true (by kernel_rfl)) (by unfold Func.isWrapper; first | (rw [if_pos (by decide +kernel)]; kernel_rfl) | (rw [if_neg (by decide +kernel)]; exact ⟨rfl, rfl⟩))
    (fun os started H enc _ => idealRuns_lifted os started H enc)
end Go.Proofs.Ytbbghdkndbpmmaa

