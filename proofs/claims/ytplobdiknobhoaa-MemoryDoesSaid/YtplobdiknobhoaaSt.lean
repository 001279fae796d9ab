/- Package store: what each function does to a store that is told as a state. -/
import Derived.Test.YtplobdiknobhoaaDk2
import Derived.Test.YtplobdiknobhoaaU
namespace Go.Proofs.Ytplobdiknobhoaa
open Go X
set_option maxHeartbeats 1000000
/-- A state: how many were committed, where the table stands, where each page stands. -/
structure StS where
  gen : Int
  t : List Int
  pg : List Int
namespace StS
def ok (s : StS) : Prop := s.t.length = 2 ∧ s.pg.length = 14
def cells (s : StS) : List Value := i64 s.gen :: (ints s.t ++ ints s.pg)
end StS
def zero14 : List Int := List.replicate 14 0
def rootS (d : DiskS) (r : Int) : StS := ⟨(d.read r).getD 0 0, [(d.read r).getD 1 0, (d.read r).getD 2 0], zero14⟩
/-- Page p, by a table. -/
def pageAt (d : DiskS) (t : List Int) (p : Nat) : Int := if 0 < t.getD (p / 8) 0 then (d.read (t.getD (p / 8) 0)).getD (p % 8) 0 else 0
def pagesTo (d : DiskS) (t : List Int) (j : Nat) : List Int := (List.range 14).map fun p => if p < j then pageAt d t p else 0
def lastRoot (d : DiskS) : StS := if (rootS d 0).gen < (rootS d 1).gen then rootS d 1 else rootS d 0
def openS (d : DiskS) : StS := { lastRoot d with pg := pagesTo d (lastRoot d).t 14 }
/-- A store. -/
def Store (b db : Nat) (s : StS) : HP := fun m => blk b (ptr db :: s.cells) 104 m ∧ s.ok
theorem sat1' {R : HP} {m : PH} (h : R m) : Sat [R] m := ⟨m, PH.none, h, trivial, PH.none_dis m, .refl m, PH.none_sub m⟩
theorem of_sat1' {g : Nat} {l : List Value} {T : TypeId} {m : PH} (h : Sat [blk g l T] m) : blk g l T m := by
  obtain ⟨m1, m2, a, -, -, b, -⟩ := h
  exact b _ _ a
theorem Store.opn {b db : Nat} {s : StS} : ∀ m, Store b db s m → ∃ _ : Unit, s.ok ∧ Sat [blk b (ptr db :: s.cells) 104] m := fun m h => ⟨(), h.2, sat1' h.1⟩
theorem Store.mk {b db : Nat} {s : StS} {cs : List Value} (hs : s.ok) (e : cs = ptr db :: s.cells) : ∀ m, Sat [blk b cs 104] m → Store b db s m := fun m h => ⟨by subst e; exact of_sat1' h, hs⟩
theorem rootS_ok (d : DiskS) (r : Int) : (rootS d r).ok := ⟨rfl, by simp [rootS, zero14]⟩
theorem lastRoot_ok (d : DiskS) : (lastRoot d).ok := by unfold lastRoot; split <;> exact rootS_ok _ _
theorem pagesTo_len (d : DiskS) (t : List Int) (j : Nat) : (pagesTo d t j).length = 14 := by simp [pagesTo]
theorem openS_ok (d : DiskS) : (openS d).ok := ⟨(lastRoot_ok d).1, pagesTo_len _ _ _⟩
theorem len8 {d : DiskS} (hd : d.ok) (a : Int) : (d.read a).length = 8 := by
  unfold DiskS.read; split
  · rename_i h
    refine len_last ?_ _ _ (fun p hp => (hd.2.2 p hp).2)
    rw [List.getD_eq_getElem?_getD, List.getElem?_eq_getElem (by rw [hd.1]; omega)]
    exact hd.2.1 _ (List.getElem_mem _)
  · rfl
theorem list8 {α : Type} {l : List α} (h : l.length = 8) : ∃ a b c d e f g i, l = [a, b, c, d, e, f, g, i] := by
  match l, h with
  | [a, b, c, d, e, f, g, i], _ => exact ⟨a, b, c, d, e, f, g, i, rfl⟩
theorem root_a (σ : PH) (b db : Nat) (s : StS) (d : DiskS) (r : Int) (hok : d.ok) (hlen : d.wait.length < 1000000) :
    CallsA Try.prog 55 #[ptr b, i64 r] σ [blk b (ptr db :: s.cells) 104, Disk db d] (RetA fun v σ' Γ' => v = .agg (rootS d r).cells.toArray ∧ σ = σ' ∧ Γ' = [blk b (ptr db :: s.cells) 104, Disk db d]) := by
  obtain ⟨w0, w1, w2, w3, w4, w5, w6, w7, hw⟩ := list8 (len8 hok r)
  have hr : rootS d r = ⟨w0, [w1, w2], zero14⟩ := by rw [rootS, hw]; rfl
  rw [hr]
  refine enterA2 Try.func55 rfl rfl rfl ?_
  refine XA.seq ?_
  refine XA.region ?_
  refine XOA.wr0 rfl (WrA.alloc (tyrow rfl)) ?_
  rintro _ _ _ ⟨g4, rfl, rfl, rfl⟩
  refine XOA.nil ?_
  refine DA.thn_normal ?_
  refine XA.seq ?_
  refine XA.region ?_
  refine XOA.rd rfl Rd.mv ?_
  refine XOA.rd rfl (Rd.nilCheck rfl) ?_
  refine XOA.rd rfl (Rd.fA rfl) ?_
  refine XOA.rd rfl (Rd.ldC rfl (tyrow rfl) rfl) ?_
  refine XOA.rd rfl Rd.mv ?_
  refine XOA.wr0 rfl (WrA.cE (read_a σ db d r hlen) rfl) ?_
  rintro _ _ _ ⟨_, ⟨rfl, rfl, rfl⟩, rfl⟩
  refine XOA.cl ?_
  rw [hw]
  refine XOA.wr0 rfl (WrA.alloc (tyrow rfl)) ?_
  rintro _ _ _ ⟨g5, rfl, rfl, rfl⟩
  refine XOA.wr0 rfl (WrA.st (tyrow rfl) rfl) ?_
  rintro _ _ _ ⟨rfl, rfl, rfl⟩
  refine XOA.nil ?_
  refine DA.thn_normal ?_
  refine XA.seq ?_
  refine XA.region ?_
  refine XOA.rd rfl (Rd.ixA rfl rfl) ?_
  refine XOA.rd rfl (Rd.ldC rfl (tyrow rfl) rfl) ?_
  refine XOA.rd rfl (Rd.bl (fun _ _ => tyrow) rfl rfl rfl) ?_
  refine XOA.wr0 rfl (WrA.alloc (tyrow rfl)) ?_
  rintro _ _ _ ⟨g6, rfl, rfl, rfl⟩
  refine XOA.wr0 rfl (WrA.st (tyrow rfl) rfl) ?_
  rintro _ _ _ ⟨rfl, rfl, rfl⟩
  refine XOA.nil ?_
  refine DA.thn_normal ?_
  refine XA.seq ?_
  refine XA.seq ?_
  refine XA.region ?_
  refine XOA.rd rfl Rd.mv ?_
  refine XOA.nil ?_
  refine DA.thn_normal ?_
  refine XA.block ?_
  refine XA.unroll 3 ?_
  refine XAR.succ ?_
  refine XA.seq ?_
  refine XA.region ?_
  refine XOA.rd rfl (Rd.lss rfl rfl) ?_
  refine XOA.nil ?_
  refine DA.thn_normal ?_
  refine XA.seq ?_
  refine XA.condT rfl rfl ?_
  refine XA.skip ?_
  refine DA.thn_normal ?_
  refine XA.seq ?_
  refine XA.block ?_
  refine XA.seq ?_
  refine XA.region ?_
  refine XOA.rd rfl Rd.mv ?_
  refine XOA.rd rfl Rd.asg ?_
  refine XOA.nil ?_
  refine DA.thn_normal ?_
  refine XA.region ?_
  refine XOA.rd rfl Rd.mv ?_
  refine XOA.rd rfl Rd.mv ?_
  refine XOA.rd rfl (by first | exact Rd.adi rfl rfl | exact Rd.add rfl rfl) ?_
  refine XOA.rd rfl (Rd.ixA rfl rfl) ?_
  refine XOA.rd rfl (Rd.ldC rfl (tyrow rfl) rfl) ?_
  refine XOA.rd rfl (Rd.fA rfl) ?_
  refine XOA.rd rfl (Rd.ixA rfl rfl) ?_
  refine XOA.wr0 rfl (WrA.st (tyrow rfl) rfl) ?_
  rintro _ _ _ ⟨rfl, rfl, rfl⟩
  refine XOA.nil ?_
  refine DA.inb_normal ?_
  refine DA.thn_normal ?_
  refine XA.region ?_
  refine XOA.rd rfl (by first | exact Rd.adi rfl rfl | exact Rd.add rfl rfl) ?_
  refine XOA.rd rfl Rd.mv ?_
  refine XOA.nil ?_
  refine DA.thn_normal ?_
  refine XAR.succ ?_
  refine XA.seq ?_
  refine XA.region ?_
  refine XOA.rd rfl (Rd.lss rfl rfl) ?_
  refine XOA.nil ?_
  refine DA.thn_normal ?_
  refine XA.seq ?_
  refine XA.condT rfl rfl ?_
  refine XA.skip ?_
  refine DA.thn_normal ?_
  refine XA.seq ?_
  refine XA.block ?_
  refine XA.seq ?_
  refine XA.region ?_
  refine XOA.rd rfl Rd.mv ?_
  refine XOA.rd rfl Rd.asg ?_
  refine XOA.nil ?_
  refine DA.thn_normal ?_
  refine XA.region ?_
  refine XOA.rd rfl Rd.mv ?_
  refine XOA.rd rfl Rd.mv ?_
  refine XOA.rd rfl (by first | exact Rd.adi rfl rfl | exact Rd.add rfl rfl) ?_
  refine XOA.rd rfl (Rd.ixA rfl rfl) ?_
  refine XOA.rd rfl (Rd.ldC rfl (tyrow rfl) rfl) ?_
  refine XOA.rd rfl (Rd.fA rfl) ?_
  refine XOA.rd rfl (Rd.ixA rfl rfl) ?_
  refine XOA.wr0 rfl (WrA.st (tyrow rfl) rfl) ?_
  rintro _ _ _ ⟨rfl, rfl, rfl⟩
  refine XOA.nil ?_
  refine DA.inb_normal ?_
  refine DA.thn_normal ?_
  refine XA.region ?_
  refine XOA.rd rfl (by first | exact Rd.adi rfl rfl | exact Rd.add rfl rfl) ?_
  refine XOA.rd rfl Rd.mv ?_
  refine XOA.nil ?_
  refine DA.thn_normal ?_
  refine XAR.succ ?_
  refine XA.seq ?_
  refine XA.region ?_
  refine XOA.rd rfl (Rd.lss rfl rfl) ?_
  refine XOA.nil ?_
  refine DA.thn_normal ?_
  refine XA.seq ?_
  refine XA.condF rfl rfl ?_
  refine XA.exit ?_
  refine DA.thn_exit ?_
  refine DA.thn_exit ?_
  refine DA.inb_same ?_
  refine DA.thn_normal ?_
  refine XA.seq ?_
  refine XA.region ?_
  refine XOA.rd rfl (Rd.ldA rfl) ?_
  refine XOA.wr0 rfl (WrA.st (tyrow rfl) rfl) ?_
  rintro _ _ _ ⟨rfl, rfl, rfl⟩
  refine XOA.nil ?_
  refine DA.thn_normal ?_
  refine XA.ret ?_
  exact bodyA.ret (ResA.cell rfl rfl (Ld.atBlk (tyrow rfl) rfl (by ((repeat (first | with_reducible exact Sel.head | apply Sel.tail)); (first | done | fail))) rfl (by first | exact take0 (by first | rfl | assumption | (refine (ints_len _).trans ?_; assumption) | (simp [*]; (first | done | fail))) | assumption | exact take_app (by first | rfl | assumption | (refine (ints_len _).trans ?_; assumption) | (simp [*]; (first | done | fail))) | (conv => lhs; simp only [List.drop_succ_cons, List.drop_zero, List.take_succ_cons, List.take_zero])) (by first | rfl | assumption | (refine (ints_len _).trans ?_; assumption) | (simp [*]; (first | done | fail))))) (by (repeat (first | exact Ent.nil _ | (apply Ent.sel; focus (first | ((repeat (first | with_reducible exact Sel.head | apply Sel.tail)); done) | ((repeat (first | exact Sel.head | apply Sel.tail)); done))) | apply Ent.selNil | apply Ent.selEmp)); (first | done | fail)) ⟨rfl, rfl, rfl⟩
theorem splice_one (l : List Value) (o : Nat) (v : Value) (h : o < l.length) : splice l o [v] = l.set o v := by
  unfold splice
  rw [List.set_eq_take_append_cons_drop, if_pos h]; simp
theorem ints_set (l : List Int) (j : Nat) (x : Int) : ints (l.set j x) = (ints l).set j (i64 x) := by simp [ints, List.map_set]
theorem put_page {db : Nat} {gen a0 a1 : Int} {pg : List Int} (h : pg.length = 14) {j : Nat} (hj : j < 14) (x : Int) : splice (ptr db :: i64 gen :: i64 a0 :: i64 a1 :: ints pg) (4 + j) [i64 x] = ptr db :: i64 gen :: i64 a0 :: i64 a1 :: ints (pg.set j x) := by
  rw [splice_one _ _ _ (by simp [h]; omega), Nat.add_comm, ints_set]
  rfl
theorem pagesTo_succ (d : DiskS) (t : List Int) {j : Nat} (hj : j < 14) : pagesTo d t (j + 1) = (pagesTo d t j).set j (pageAt d t j) := by
  apply List.ext_getElem (by simp [pagesTo])
  intro p h1 h2
  simp only [pagesTo, List.length_map, List.length_range] at h1
  simp only [pagesTo, List.getElem_map, List.getElem_range, List.getElem_set]
  by_cases e : j = p
  · subst e; simp
  · rw [if_neg e]
    by_cases h : p < j
    · rw [if_pos (by omega), if_pos h]
    · rw [if_neg (by omega), if_neg h]
theorem pagesTo_same (d : DiskS) (t : List Int) {j : Nat} (h : 14 ≤ j ∨ pageAt d t j = 0) : pagesTo d t (j + 1) = pagesTo d t j := by
  apply List.map_congr_left
  intro p hp
  have hp : p < 14 := by simpa using hp
  by_cases e : p = j
  · subst e
    rcases h with h | h
    · omega
    · rw [if_pos (by omega), h, if_neg (by omega)]
  · by_cases h : p < j
    · rw [if_pos (by omega), if_pos h]
    · rw [if_neg (by omega), if_neg h]
theorem pageAt_eq (d : DiskS) (t : List Int) {i k : Nat} (hk : k < 8) : pageAt d t (i * 8 + k) = if 0 < t.getD i 0 then (d.read (t.getD i 0)).getD k 0 else 0 := by
  rw [pageAt, show (i * 8 + k) / 8 = i by omega, show (i * 8 + k) % 8 = k by omega]
theorem pagesTo_zero (d : DiskS) (t : List Int) : pagesTo d t 0 = zero14 := by simp [pagesTo, zero14]; rfl
theorem ints_get {l : List Int} {k : Nat} (h : k < l.length) : (ints l)[k]? = some (i64 (l.getD k 0)) := by simp [h, List.getD_eq_getElem?_getD]
theorem open_a (σ : PH) (db : Nat) (d : DiskS) (hok : d.ok) (hlen : d.wait.length < 1000000) :
    CallsA Try.prog 29 #[ptr db] σ [Disk db d] (RetA fun v σ' Γ' => ∃ b, v = ptr b ∧ σ = σ' ∧ Γ' = [Store b db (openS d), Disk db d]) := by
  refine enterA1 Try.func29 rfl rfl rfl ?_
  refine XA.seq ?_
  refine XA.region ?_
  refine XOA.rd rfl Rd.asg ?_
  refine XOA.nil ?_
  refine DA.thn_normal ?_
  refine XA.seq ?_
  refine XA.region ?_
  refine XOA.rd rfl Rd.mv ?_
  refine XOA.rd rfl (Rd.bl (fun _ _ => tyrow) rfl rfl rfl) ?_
  refine XOA.wr0 rfl WrA.bx ?_
  rintro _ _ _ ⟨g13, rfl, rfl, rfl⟩
  refine XOA.rd rfl Rd.asg ?_
  refine XOA.nil ?_
  refine DA.thn_normal ?_
  refine XA.seq ?_
  refine XA.region ?_
  refine XOA.rd rfl Rd.mv ?_
  refine XOA.wr0 rfl (WrA.cE (root_a σ g13 db ⟨0, [0, 0], zero14⟩ d 0 hok hlen) rfl) ?_
  rintro _ _ _ ⟨_, ⟨rfl, rfl, rfl⟩, rfl⟩
  refine XOA.cl ?_
  refine XOA.rd rfl Rd.mv ?_
  refine XOA.wr0 rfl (WrA.cE (root_a σ g13 db ⟨0, [0, 0], zero14⟩ d 1 hok hlen) rfl) ?_
  rintro _ _ _ ⟨_, ⟨rfl, rfl, rfl⟩, rfl⟩
  refine XOA.cl ?_
  obtain ⟨g0, a0, a1, hr0⟩ : ∃ g a0 a1, rootS d 0 = ⟨g, [a0, a1], zero14⟩ := ⟨_, _, _, rfl⟩
  obtain ⟨g1, b0, b1, hr1⟩ : ∃ g a0 a1, rootS d 1 = ⟨g, [a0, a1], zero14⟩ := ⟨_, _, _, rfl⟩
  have hop : openS d = { lastRoot d with pg := pagesTo d (lastRoot d).t 14 } := rfl
  have hlr : lastRoot d = if g0 < g1 then ⟨g1, [b0, b1], zero14⟩ else ⟨g0, [a0, a1], zero14⟩ := by rw [lastRoot, hr0, hr1]
  rw [hop]
  obtain ⟨L, hL⟩ : ∃ L, L = lastRoot d := ⟨_, rfl⟩
  rw [← hL] at hlr ⊢
  rw [hr0, hr1]
  clear hop hr0 hr1
  refine XOA.wr0 rfl (WrA.alloc (tyrow rfl)) ?_
  rintro _ _ _ ⟨g4, rfl, rfl, rfl⟩
  refine XOA.wr0 rfl (WrA.alloc (tyrow rfl)) ?_
  rintro _ _ _ ⟨g5, rfl, rfl, rfl⟩
  refine XOA.wr0 rfl (WrA.st (tyrow rfl) rfl) ?_
  rintro _ _ _ ⟨rfl, rfl, rfl⟩
  refine XOA.wr0 rfl (WrA.st (tyrow rfl) rfl) ?_
  rintro _ _ _ ⟨rfl, rfl, rfl⟩
  refine XOA.nil ?_
  refine DA.thn_normal ?_
  refine XA.seq ?_
  refine XA.region ?_
  refine XOA.rd rfl Rd.mv ?_
  refine XOA.rd rfl (Rd.ldA rfl) ?_
  refine XOA.rd rfl (Rd.nilCheck rfl) ?_
  refine XOA.rd rfl (Rd.fA rfl) ?_
  refine XOA.wr0 rfl (WrA.st (tyrow rfl) rfl) ?_
  rintro _ _ _ ⟨rfl, rfl, rfl⟩
  refine XOA.nil ?_
  refine DA.thn_normal ?_
  refine XA.seq ?_
  refine XA.seq ?_
  refine XA.region ?_
  refine XOA.rd rfl (Rd.fA rfl) ?_
  refine XOA.rd rfl (Rd.ldC rfl (tyrow rfl) rfl) ?_
  refine XOA.rd rfl (Rd.fA rfl) ?_
  refine XOA.rd rfl (Rd.ldC rfl (tyrow rfl) rfl) ?_
  refine XOA.rd rfl (Rd.gtr rfl rfl) ?_
  refine XOA.nil ?_
  refine DA.thn_normal ?_
  refine XA.join [(27, 30)] (fun _ : Unit => []) (fun _ σ' Γ' => σ = σ' ∧ Γ' = [blk g13 (ptr db :: L.cells) 104, Disk db d]) ?_ ?_
  · 
    refine XA.condp rfl (fun hgt => ?_) (fun hgt => ?_)
    · rw [if_pos hgt] at hlr
      subst hlr
      refine XA.region ?_
      refine XOA.rd rfl Rd.mv ?_
      refine XOA.rd rfl (Rd.ldA rfl) ?_
      refine XOA.rd rfl (Rd.nilCheck rfl) ?_
      refine XOA.rd rfl (Rd.fA rfl) ?_
      refine XOA.wr0 rfl (WrA.st (tyrow rfl) rfl) ?_
      rintro _ _ _ ⟨rfl, rfl, rfl⟩
      refine XOA.nil ?_
      refine DA.thn_normal ?_
      refine ⟨(Keep.updN (Keep.upd (Keep.upd (Keep.upd (Keep.upd (Keep.refl _ _) rfl) rfl) rfl) rfl)), (), _, (by (repeat (first | exact trivial | refine ⟨rfl, ?_⟩ | refine ⟨Eq.trans rfl (congrArg Value.bool hmat.symm), ?_⟩)); (first | done | fail)), ?_, ⟨rfl, rfl⟩⟩
      · exact (by (repeat (first | exact Ent.nil _ | (apply Ent.sel; focus (first | ((repeat (first | with_reducible exact Sel.head | apply Sel.tail)); done) | ((repeat (first | exact Sel.head | apply Sel.tail)); done))) | apply Ent.selNil | apply Ent.selEmp)); (first | done | fail))
    · rw [if_neg hgt] at hlr
      subst hlr
      refine XA.skip ?_
      refine DA.thn_normal ?_
      refine ⟨(Keep.refl _ _), (), _, (by (repeat (first | exact trivial | refine ⟨rfl, ?_⟩ | refine ⟨Eq.trans rfl (congrArg Value.bool hmat.symm), ?_⟩)); (first | done | fail)), ?_, ⟨rfl, rfl⟩⟩
      · exact (by (repeat (first | exact Ent.nil _ | (apply Ent.sel; focus (first | ((repeat (first | with_reducible exact Sel.head | apply Sel.tail)); done) | ((repeat (first | exact Sel.head | apply Sel.tail)); done))) | apply Ent.selNil | apply Ent.selEmp)); (first | done | fail))
  rintro - δ0 _ _ ⟨rfl, rfl⟩
  dsimp only [ovr, List.foldl]
  refine DA.thn_normal ?_
  obtain ⟨gl, t0, t1, rfl⟩ : ∃ g t0 t1, L = ⟨g, [t0, t1], zero14⟩ := by
    rw [hlr]; split
    · exact ⟨_, _, _, rfl⟩
    · exact ⟨_, _, _, rfl⟩
  clear hlr hL
  refine XA.re (Δ := [blk g13 (ptr db :: i64 gl :: i64 t0 :: i64 t1 :: ints (pagesTo d [t0, t1] 0)) 104, Disk db d]) (by rw [pagesTo_zero]; rfl) ?_
  refine XA.seq ?_
  refine XA.seq ?_
  refine XA.region ?_
  refine XOA.rd rfl Rd.mv ?_
  refine XOA.rd rfl (Rd.nilCheck rfl) ?_
  refine XOA.rd rfl (Rd.fA rfl) ?_
  refine XOA.rd rfl (Rd.fA rfl) ?_
  refine XOA.rd rfl (Rd.ldA rfl) ?_
  refine XOA.rd rfl Rd.mv ?_
  refine XOA.nil ?_
  refine DA.thn_normal ?_
  refine XA.block ?_
  refine XA.gen [(0, _), (2, _), (3, _), (35, _), (36, _)] ⟨(by with_reducible (conv => lhs; whnf)), (by with_reducible (conv => lhs; whnf)), (by with_reducible (conv => lhs; whnf)), (by with_reducible (conv => lhs; whnf)), (by with_reducible (conv => lhs; whnf)), trivial⟩ (fun δ => ?_)
  dsimp only [List.foldl]
  refine XA.loop [(6, 10), (36, 66)] (fun i : Nat => [(36, i64 i)]) (fun i σ' Γ' => σ = σ' ∧ i ≤ 2 ∧ Γ' = [blk g13 (ptr db :: i64 gl :: i64 t0 :: i64 t1 :: ints (pagesTo d [t0, t1] (i * 8))) 104, Disk db d]) (fun i => 2 - i) 0 (by exact ⟨rfl, trivial⟩) (Δ0 := _) ?_ (⟨rfl, by decide, rfl⟩) ?_
  · exact (by (repeat (first | exact Ent.nil _ | (apply Ent.sel; focus (first | ((repeat (first | with_reducible exact Sel.head | apply Sel.tail)); done) | ((repeat (first | exact Sel.head | apply Sel.tail)); done))) | apply Ent.selNil | apply Ent.selEmp)); (first | done | fail))
  rintro i δ _ _ ⟨rfl, hi, rfl⟩
  dsimp only [ovr, List.foldl]
  refine XA.seq ?_
  refine XA.region ?_
  refine XOA.rd rfl (Rd.lss rfl rfl) ?_
  refine XOA.nil ?_
  refine DA.thn_normal ?_
  refine XA.seq ?_
  refine XA.condp rfl (fun hlt => ?_) (fun hlt => ?_)
  · have hlt : i < 2 := by omega
    have hel : (List.toArray [i64 t0, i64 t1])[Int.toNat (i : Int)]? = some (i64 (([t0, t1] : List Int).getD i 0)) := by
      rcases (show i = 0 ∨ i = 1 by omega) with rfl | rfl <;> rfl
    obtain ⟨ai, hai⟩ : ∃ ai, ai = ([t0, t1] : List Int).getD i 0 := ⟨_, rfl⟩
    rw [← hai] at hel
    have hpa := fun k (hk : k < 8) => pageAt_eq d [t0, t1] (i := i) hk
    rw [← hai] at hpa
    have hw8 := len8 hok ai
    refine XA.skip ?_
    refine DA.thn_normal ?_
    refine XA.seq ?_
    refine XA.block ?_
    refine XA.seq ?_
    refine XA.region ?_
    refine XOA.rd rfl Rd.mv ?_
    refine XOA.rd rfl (Rd.ixG rfl rfl) ?_
    refine XOA.rd rfl Rd.asg ?_
    refine XOA.rd rfl Rd.asg ?_
    refine XOA.nil ?_
    refine DA.thn_normal ?_
    refine XA.seq ?_
    refine XA.region ?_
    refine XOA.rd rfl Rd.mv ?_
    refine XOA.rd rfl Rd.mv ?_
    refine XOA.wr0 rfl (WrA.cE (read_a σ db d ai hlen) rfl) ?_
    rintro _ _ _ ⟨_, ⟨rfl, rfl, rfl⟩, rfl⟩
    refine XOA.cl ?_
    obtain ⟨w, hw⟩ : ∃ w, w = d.read ai := ⟨_, rfl⟩
    rw [← hw] at hw8 hpa ⊢
    clear hw hai
    refine XOA.wr0 rfl (WrA.alloc (tyrow rfl)) ?_
    rintro _ _ _ ⟨g8, rfl, rfl, rfl⟩
    refine XOA.wr0 rfl (WrA.st (tyrow rfl) rfl) ?_
    rintro _ _ _ ⟨rfl, rfl, rfl⟩
    refine XOA.nil ?_
    refine DA.thn_normal ?_
    refine XA.seq ?_
    refine XA.region ?_
    refine XOA.rd rfl Rd.mv ?_
    refine XOA.nil ?_
    refine DA.thn_normal ?_
    refine XA.block ?_
    refine XA.loop [(9, 10), (43, 65)] (fun k : Nat => [(43, i64 k)]) (fun k σ' Γ' => σ = σ' ∧ k ≤ 8 ∧ Γ' = [blk g8 (ints w) 32, blk g13 (ptr db :: i64 gl :: i64 t0 :: i64 t1 :: ints (pagesTo d [t0, t1] (i * 8 + k))) 104, Disk db d]) (fun k => 8 - k) 0 (by exact ⟨rfl, trivial⟩) (Δ0 := _) ?_ (⟨rfl, by decide, rfl⟩) ?_
    · exact (by (repeat (first | exact Ent.nil _ | (apply Ent.sel; focus (first | ((repeat (first | with_reducible exact Sel.head | apply Sel.tail)); done) | ((repeat (first | exact Sel.head | apply Sel.tail)); done))) | apply Ent.selNil | apply Ent.selEmp)); (first | done | fail))
    rintro k δ2 _ _ ⟨rfl, hk, rfl⟩
    dsimp only [ovr, List.foldl]
    refine XA.seq ?_
    refine XA.region ?_
    refine XOA.rd rfl (Rd.lss rfl rfl) ?_
    refine XOA.nil ?_
    refine DA.thn_normal ?_
    refine XA.seq ?_
    refine XA.condp rfl (fun hlt2 => ?_) (fun hlt2 => ?_)
    · have hlt2 : k < 8 := by omega
      have hpk := hpa k hlt2
      have hwk := ints_get (l := w) (k := k) (by omega)
      refine XA.skip ?_
      refine DA.thn_normal ?_
      refine XA.seq ?_
      refine XA.block ?_
      refine XA.seq ?_
      refine XA.region ?_
      refine XOA.rd rfl Rd.mv ?_
      refine XOA.rd rfl Rd.asg ?_
      refine XOA.nil ?_
      refine DA.thn_normal ?_
      refine XA.seq ?_
      refine XA.region ?_
      refine XOA.rd rfl Rd.mv ?_
      refine XOA.rd rfl (Rd.muli (c := ((i * 8 : Nat) : Int)) rfl rfl (by omega) (by omega)) ?_
      refine XOA.rd rfl Rd.mv ?_
      refine XOA.rd rfl (Rd.addi (c := ((i * 8 + k : Nat) : Int)) rfl rfl (by omega) (by omega)) ?_
      refine XOA.rd rfl Rd.asg ?_
      refine XOA.nil ?_
      refine DA.thn_normal ?_
      refine XA.seq ?_
      refine XA.region ?_
      by_cases hat : 0 < ai
      · by_cases hp : i * 8 + k < 14
        · rw [if_pos hat] at hpk
          have hspl := fun x => put_page (db := db) (gen := gl) (a0 := t0) (a1 := t1) (pagesTo_len d [t0, t1] (i * 8 + k)) hp x
          have hlenp := pagesTo_len d [t0, t1] (i * 8 + k)
          have e1 := pagesTo_succ d [t0, t1] hp
          rw [hpk] at e1
          refine XOA.rd rfl Rd.mv ?_
          refine XOA.rd rfl (Rd.gtr rfl rfl) ?_
          refine XOA.rd rfl Rd.mv ?_
          first | ((first | refine XOA.wanted rfl rfl ?_ | refine XOA.wq rfl rfl ?_); refine XOA.rd rfl Rd.mv ?_) | refine XOA.unwanted rfl rfl rfl rfl ?_ | refine XOA.uq rfl rfl rfl ?_ | refine XOA.unwantedU rfl rfl rfl ?_
          first | ((first | refine XOA.wanted rfl rfl ?_ | refine XOA.wq rfl rfl ?_); refine XOA.rd rfl (Rd.lss rfl rfl) ?_) | refine XOA.unwanted rfl rfl rfl rfl ?_ | refine XOA.uq rfl rfl rfl ?_ | refine XOA.unwantedU rfl rfl rfl ?_
          refine XOA.rd rfl (by first | exact Rd.pT rfl | exact Rd.pF rfl | exact Rd.pP rfl) ?_
          refine XOA.nil ?_
          refine DA.thn_normal ?_
          refine XA.condT rfl (by first | rfl | exact (by first | exact (rfl : decide _ = true) | exact (rfl : decide _ = false) | (refine decide_eq_true ?_; assumption) | (refine decide_eq_false ?_; assumption) | (refine decide_eq_true ?_; omega) | (refine decide_eq_false ?_; omega))) ?_
          refine XA.draw (by kernel_rfl) _ _ [9] [(0, .pu), (1, .pu), (2, .pu), (3, .pu), (4, .rd), (5, .pu), (6, .pu), (7, .pu), (8, .pu), (9, .wr)] (by kernel_rfl) (PH.sub.refl _) (Ent.sel (R := blk g8 _ _) (by ((repeat (first | with_reducible exact Sel.head | apply Sel.tail)); (first | done | fail))) (Ent.nil _)) ?_
          refine XPA.pu rfl rfl Gd.free Rd.mv ?_
          refine XPA.pu rfl rfl Gd.free Rd.mv ?_
          refine XPA.pu rfl rfl Gd.free Rd.mv ?_
          refine XPA.pu rfl rfl Gd.free (Rd.ixA rfl rfl) ?_
          refine XPA.rd rfl rfl Gd.free (Rd.ldC rfl (tyrow rfl) rfl) ?_
          refine XPA.pu rfl rfl Gd.free (Rd.nilCheck rfl) ?_
          refine XPA.pu rfl rfl Gd.free (Rd.fA rfl) ?_
          refine XPA.pu rfl rfl Gd.free (Rd.fA rfl) ?_
          refine XPA.pu rfl rfl Gd.free (Rd.ixA rfl rfl) ?_
          refine XPA.wrZ0 rfl rfl Gd.free (by kernel_rfl) (WrA.st (tyrow rfl) rfl) ?_
          rintro _ _ _ ⟨rfl, rfl, rfl⟩
          refine XPA.nil ?_
          refine DA.inb_normal ?_
          refine DA.thn_normal ?_
          refine XA.region ?_
          refine XOA.rd rfl (by first | exact Rd.adi rfl rfl | exact Rd.add rfl rfl) ?_
          refine XOA.rd rfl Rd.mv ?_
          refine XOA.nil ?_
          refine DA.thn_normal ?_
          refine ⟨(Keep.upd (Keep.upd (Keep.updN (Keep.upd (Keep.upd (Keep.upd (Keep.upd (Keep.upd (Keep.upd (Keep.upd (Keep.upd (Keep.upd (Keep.upd (Keep.upd (Keep.upd (Keep.upd (Keep.upd (Keep.upd (Keep.upd (Keep.upd (Keep.upd (Keep.upd (Keep.upd (Keep.upd (Keep.upd (Keep.upd (Keep.upd (Keep.hav (Keep.hav (Keep.refl _ _) rfl) rfl) rfl) rfl) rfl) rfl) rfl) rfl) rfl) rfl) rfl) rfl) rfl) rfl) rfl) rfl) rfl) rfl) rfl) rfl) rfl) rfl) rfl) rfl) rfl) rfl)) rfl) rfl), k + 1, _, (by (repeat (first | exact trivial | refine ⟨rfl, ?_⟩ | refine ⟨Eq.trans rfl (congrArg Value.bool hmat.symm), ?_⟩)); (first | done | fail)), ?_, ⟨rfl, hlt2, rfl⟩, (by omega)⟩
          · rw [show i * 8 + (k + 1) = i * 8 + k + 1 from rfl, e1]; exact (by (repeat (first | exact Ent.nil _ | (apply Ent.sel; focus (first | ((repeat (first | with_reducible exact Sel.head | apply Sel.tail)); done) | ((repeat (first | exact Sel.head | apply Sel.tail)); done))) | apply Ent.selNil | apply Ent.selEmp)); (first | done | fail))
        · have e1 := pagesTo_same d [t0, t1] (j := i * 8 + k) (.inl (by omega))
          refine XOA.rd rfl Rd.mv ?_
          refine XOA.rd rfl (Rd.gtr rfl rfl) ?_
          refine XOA.rd rfl Rd.mv ?_
          first | ((first | refine XOA.wanted rfl rfl ?_ | refine XOA.wq rfl rfl ?_); refine XOA.rd rfl Rd.mv ?_) | refine XOA.unwanted rfl rfl rfl rfl ?_ | refine XOA.uq rfl rfl rfl ?_ | refine XOA.unwantedU rfl rfl rfl ?_
          first | ((first | refine XOA.wanted rfl rfl ?_ | refine XOA.wq rfl rfl ?_); refine XOA.rd rfl (Rd.lss rfl rfl) ?_) | refine XOA.unwanted rfl rfl rfl rfl ?_ | refine XOA.uq rfl rfl rfl ?_ | refine XOA.unwantedU rfl rfl rfl ?_
          refine XOA.rd rfl (by first | exact Rd.pT rfl | exact Rd.pF rfl | exact Rd.pP rfl) ?_
          refine XOA.nil ?_
          refine DA.thn_normal ?_
          refine XA.condF rfl (by first | rfl | exact (by first | exact (rfl : decide _ = true) | exact (rfl : decide _ = false) | (refine decide_eq_true ?_; assumption) | (refine decide_eq_false ?_; assumption) | (refine decide_eq_true ?_; omega) | (refine decide_eq_false ?_; omega))) ?_
          refine XA.skip ?_
          refine DA.inb_normal ?_
          refine DA.thn_normal ?_
          refine XA.region ?_
          refine XOA.rd rfl (by first | exact Rd.adi rfl rfl | exact Rd.add rfl rfl) ?_
          refine XOA.rd rfl Rd.mv ?_
          refine XOA.nil ?_
          refine DA.thn_normal ?_
          refine ⟨(Keep.upd (Keep.upd (Keep.upd (Keep.upd (Keep.upd (Keep.upd (Keep.upd (Keep.upd (Keep.upd (Keep.upd (Keep.upd (Keep.upd (Keep.upd (Keep.upd (Keep.upd (Keep.upd (Keep.upd (Keep.hav (Keep.hav (Keep.refl _ _) rfl) rfl) rfl) rfl) rfl) rfl) rfl) rfl) rfl) rfl) rfl) rfl) rfl) rfl) rfl) rfl) rfl) rfl) rfl), k + 1, _, (by (repeat (first | exact trivial | refine ⟨rfl, ?_⟩ | refine ⟨Eq.trans rfl (congrArg Value.bool hmat.symm), ?_⟩)); (first | done | fail)), ?_, ⟨rfl, hlt2, rfl⟩, (by omega)⟩
          · rw [show i * 8 + (k + 1) = i * 8 + k + 1 from rfl, e1]; exact (by (repeat (first | exact Ent.nil _ | (apply Ent.sel; focus (first | ((repeat (first | with_reducible exact Sel.head | apply Sel.tail)); done) | ((repeat (first | exact Sel.head | apply Sel.tail)); done))) | apply Ent.selNil | apply Ent.selEmp)); (first | done | fail))
      · rw [if_neg hat] at hpk
        have e1 := pagesTo_same d [t0, t1] (j := i * 8 + k) (.inr hpk)
        refine XOA.rd rfl Rd.mv ?_
        refine XOA.rd rfl (Rd.gtr rfl rfl) ?_
        refine XOA.rd rfl Rd.mv ?_
        first | ((first | refine XOA.wanted rfl rfl ?_ | refine XOA.wq rfl rfl ?_); refine XOA.rd rfl Rd.mv ?_) | refine XOA.unwanted rfl rfl rfl rfl ?_ | refine XOA.uq rfl rfl rfl ?_ | refine XOA.unwantedU rfl rfl rfl ?_
        first | ((first | refine XOA.wanted rfl rfl ?_ | refine XOA.wq rfl rfl ?_); refine XOA.rd rfl (Rd.lss rfl rfl) ?_) | refine XOA.unwanted rfl rfl rfl rfl ?_ | refine XOA.uq rfl rfl rfl ?_ | refine XOA.unwantedU rfl rfl rfl ?_
        refine XOA.rd rfl (by first | exact Rd.pT rfl | exact Rd.pF rfl | exact Rd.pP rfl) ?_
        refine XOA.nil ?_
        refine DA.thn_normal ?_
        refine XA.condF rfl (by first | rfl | exact (by first | exact (rfl : decide _ = true) | exact (rfl : decide _ = false) | (refine decide_eq_true ?_; assumption) | (refine decide_eq_false ?_; assumption) | (refine decide_eq_true ?_; omega) | (refine decide_eq_false ?_; omega))) ?_
        refine XA.skip ?_
        refine DA.inb_normal ?_
        refine DA.thn_normal ?_
        refine XA.region ?_
        refine XOA.rd rfl (by first | exact Rd.adi rfl rfl | exact Rd.add rfl rfl) ?_
        refine XOA.rd rfl Rd.mv ?_
        refine XOA.nil ?_
        refine DA.thn_normal ?_
        refine ⟨(Keep.upd (Keep.upd (Keep.upd (Keep.upd (Keep.upd (Keep.upd (Keep.upd (Keep.upd (Keep.upd (Keep.upd (Keep.upd (Keep.upd (Keep.upd (Keep.upd (Keep.upd (Keep.upd (Keep.upd (Keep.hav (Keep.hav (Keep.refl _ _) rfl) rfl) rfl) rfl) rfl) rfl) rfl) rfl) rfl) rfl) rfl) rfl) rfl) rfl) rfl) rfl) rfl) rfl) rfl), k + 1, _, (by (repeat (first | exact trivial | refine ⟨rfl, ?_⟩ | refine ⟨Eq.trans rfl (congrArg Value.bool hmat.symm), ?_⟩)); (first | done | fail)), ?_, ⟨rfl, hlt2, rfl⟩, (by omega)⟩
        · rw [show i * 8 + (k + 1) = i * 8 + k + 1 from rfl, e1]; exact (by (repeat (first | exact Ent.nil _ | (apply Ent.sel; focus (first | ((repeat (first | with_reducible exact Sel.head | apply Sel.tail)); done) | ((repeat (first | exact Sel.head | apply Sel.tail)); done))) | apply Ent.selNil | apply Ent.selEmp)); (first | done | fail))
    have hk8 : k = 8 := by omega
    subst hk8
    refine XA.exit ?_
    refine DA.thn_exit ?_
    refine DA.thn_exit ?_
    refine DA.inb_same ?_
    refine DA.inb_normal ?_
    refine DA.thn_normal ?_
    refine XA.region ?_
    refine XOA.rd rfl (by first | exact Rd.adi rfl rfl | exact Rd.add rfl rfl) ?_
    refine XOA.rd rfl Rd.mv ?_
    refine XOA.nil ?_
    refine DA.thn_normal ?_
    refine ⟨(Keep.upd (Keep.upd (Keep.upd (Keep.upd (Keep.hav (Keep.hav (Keep.upd (Keep.updN (Keep.updO (Keep.updO (Keep.upd (Keep.upd (Keep.upd (Keep.upd (Keep.upd (Keep.upd (Keep.upd (Keep.upd (Keep.hav (Keep.hav (Keep.refl _ _) rfl) rfl) rfl) rfl) rfl) rfl) rfl) rfl) rfl) rfl) rfl) rfl)) rfl) rfl) rfl) rfl) rfl) rfl) rfl), i + 1, _, (by (repeat (first | exact trivial | refine ⟨rfl, ?_⟩ | refine ⟨Eq.trans rfl (congrArg Value.bool hmat.symm), ?_⟩)); (first | done | fail)), ?_, ⟨rfl, hlt, rfl⟩, (by omega)⟩
    · rw [show (i + 1) * 8 = i * 8 + 8 by omega]; exact (by (repeat (first | exact Ent.nil _ | (apply Ent.sel; focus (first | ((repeat (first | with_reducible exact Sel.head | apply Sel.tail)); done) | ((repeat (first | exact Sel.head | apply Sel.tail)); done))) | apply Ent.selNil | apply Ent.selEmp)); (first | done | fail))
  have hi2 : i = 2 := by omega
  subst hi2
  have e14 : pagesTo d [t0, t1] (2 * 8) = pagesTo d [t0, t1] 14 := by rw [show 2 * 8 = 14 + 1 + 1 from rfl, pagesTo_same _ _ (.inl (by decide)), pagesTo_same _ _ (.inl (by decide))]
  rw [e14]
  refine XA.exit ?_
  refine DA.thn_exit ?_
  refine DA.thn_exit ?_
  refine DA.inb_same ?_
  refine DA.thn_normal ?_
  refine XA.seq ?_
  refine XA.region ?_
  refine XOA.rd rfl Rd.mv ?_
  refine XOA.rd rfl Rd.asg ?_
  refine XOA.nil ?_
  refine DA.thn_normal ?_
  refine XA.ret ?_
  exact bodyA.ret (ResA.one rfl rfl) (Ent.foldC (Θ := [_]) (by (repeat (first | exact Ent.all _ | (apply Ent.take; focus (first | ((repeat (first | with_reducible exact Sel.head | apply Sel.tail)); done) | ((repeat (first | exact Sel.head | apply Sel.tail)); done))) | apply Ent.takeNil | apply Ent.takeEmp)); (first | done | fail)) (Store.mk (s := ⟨gl, [t0, t1], pagesTo d [t0, t1] 14⟩) ⟨rfl, pagesTo_len _ _ _⟩ rfl) (Ent.refl _)) ⟨g13, rfl, rfl, rfl⟩
end Go.Proofs.Ytplobdiknobhoaa
