/- Package disk: what each function does to a disk that is told as a state. -/
import Derived.Test.YtplobdiknobhoaaAu
namespace Go.Proofs.Ytplobdiknobhoaa
open Go X
set_option maxHeartbeats 1000000
/-- A disk: what each sector holds; the writes that wait. -/
structure DiskS where
  l : List (List Int)
  wait : List (Nat × List Int)
namespace DiskS
def ok (d : DiskS) : Prop := d.l.length = 34 ∧ (∀ w ∈ d.l, w.length = 8) ∧ ∀ p ∈ d.wait, p.1 < 34 ∧ p.2.length = 8
def cells (d : DiskS) : List Value := ints d.l.flatten
def wcells (d : DiskS) : List Value := d.wait.flatMap fun p => i64 p.1 :: ints p.2
def last (w : List Int) (at_ : Nat) (ps : List (Nat × List Int)) : List Int := ps.foldl (fun w p => if p.1 = at_ then p.2 else w) w
def zeros : List Int := List.replicate 8 0
def read (d : DiskS) (at_ : Int) : List Int := if 0 ≤ at_ ∧ at_ < 34 then last (d.l.getD at_.toNat zeros) at_.toNat d.wait else zeros
def write (d : DiskS) (at_ : Int) (w : List Int) : DiskS := if 0 ≤ at_ ∧ at_ < 34 then { d with wait := d.wait ++ [(at_.toNat, w)] } else d
def settle (d : DiskS) (is : Nat → Bool) : DiskS := { l := (d.wait.zipIdx.foldl (fun l p => if is p.2 then l.set p.1.1 p.1.2 else l) d.l), wait := [] }
def new : DiskS := { l := List.replicate 34 zeros, wait := [] }
theorem ok_new : new.ok := ⟨by simp [new], by simp [new, zeros], by simp [new]⟩
end DiskS
/-- The disk d stands in block b. -/
def Disk (b : Nat) (d : DiskS) : HP := fun m => ∃ sl, Sat [blk b (d.cells ++ [sl]) 92, lst 94 9 sl d.wait.length d.wcells] m ∧ d.ok
theorem Disk.mk {b : Nat} {d : DiskS} {sl : Value} {cs xs : List Value} {n : Nat} (hd : d.ok) (e1 : cs = d.cells) (e2 : n = d.wait.length) (e3 : xs = d.wcells) : ∀ m, Sat [blk b (cs ++ [sl]) 92, lst 94 9 sl n xs] m → Disk b d m := fun _ h => ⟨sl, by subst e1; subst e2; subst e3; exact h, hd⟩

theorem has_a (σ : PH) (a : Int) : CallsA Try.prog 24 #[.int .i64 a] σ [] (RetA fun v σ' Γ' => v = .bool (decide (0 ≤ a ∧ a < 34)) ∧ σ = σ' ∧ Γ' = []) := by
  by_cases h0 : 0 ≤ a
  · 
    refine enterA1 Try.func24 rfl rfl rfl ?_
    refine XA.seq ?_
    refine XA.region ?_
    refine XOA.rd rfl Rd.asg ?_
    refine XOA.nil ?_
    refine DA.thn_normal ?_
    refine XA.seq ?_
    refine XA.region ?_
    refine XOA.rd rfl Rd.mv ?_
    refine XOA.rd rfl (Rd.geq rfl rfl) ?_
    refine XOA.rd rfl Rd.mv ?_
    first | ((first | refine XOA.wanted rfl rfl ?_ | refine XOA.wq rfl rfl ?_); refine XOA.rd rfl Rd.mv ?_) | refine XOA.unwanted rfl rfl rfl rfl ?_ | refine XOA.uq rfl rfl rfl ?_ | refine XOA.unwantedU rfl rfl rfl ?_
    first | ((first | refine XOA.wanted rfl rfl ?_ | refine XOA.wq rfl rfl ?_); refine XOA.rd rfl (Rd.lss rfl rfl) ?_) | refine XOA.unwanted rfl rfl rfl rfl ?_ | refine XOA.uq rfl rfl rfl ?_ | refine XOA.unwantedU rfl rfl rfl ?_
    refine XOA.rd rfl (by first | exact Rd.pT rfl | exact Rd.pF rfl | exact Rd.pP rfl) ?_
    refine XOA.rd rfl Rd.asg ?_
    refine XOA.nil ?_
    refine DA.thn_normal ?_
    refine XA.ret ?_
    exact bodyA.ret (ResA.one rfl rfl) (Ent.refl _) ⟨by simp [h0], rfl, rfl⟩
  · 
    refine enterA1 Try.func24 rfl rfl rfl ?_
    refine XA.seq ?_
    refine XA.region ?_
    refine XOA.rd rfl Rd.asg ?_
    refine XOA.nil ?_
    refine DA.thn_normal ?_
    refine XA.seq ?_
    refine XA.region ?_
    refine XOA.rd rfl Rd.mv ?_
    refine XOA.rd rfl (Rd.geq rfl rfl) ?_
    refine XOA.rd rfl Rd.mv ?_
    first | ((first | refine XOA.wanted rfl rfl ?_ | refine XOA.wq rfl rfl ?_); refine XOA.rd rfl Rd.mv ?_) | refine XOA.unwanted rfl rfl rfl rfl ?_ | refine XOA.uq rfl rfl rfl ?_ | refine XOA.unwantedU rfl rfl rfl ?_
    first | ((first | refine XOA.wanted rfl rfl ?_ | refine XOA.wq rfl rfl ?_); refine XOA.rd rfl (Rd.lss rfl rfl) ?_) | refine XOA.unwanted rfl rfl rfl rfl ?_ | refine XOA.uq rfl rfl rfl ?_ | refine XOA.unwantedU rfl rfl rfl ?_
    refine XOA.rd rfl (by first | exact Rd.pT rfl | exact Rd.pF rfl | exact Rd.pP rfl) ?_
    refine XOA.rd rfl Rd.asg ?_
    refine XOA.nil ?_
    refine DA.thn_normal ?_
    refine XA.ret ?_
    exact bodyA.ret (ResA.one rfl rfl) (Ent.refl _) ⟨by simp [h0], rfl, rfl⟩
theorem Disk.opn {b : Nat} {d : DiskS} : ∀ m, Disk b d m → ∃ x : Option Addr × Nat, d.ok ∧ Sat [blk b (d.cells ++ [.slice x.1 d.wait.length x.2]) 92, lst 94 9 (.slice x.1 d.wait.length x.2) d.wait.length d.wcells] m := by
  rintro m ⟨sl, h, ok⟩
  obtain ⟨m1, m2, a, ⟨m3, m4, b, c⟩, e⟩ := h
  obtain ⟨x, ⟨rfl, -⟩, -⟩ := lst_shape _ b
  exact ⟨x, ok, m1, m2, a, ⟨m3, m4, b, c⟩, e⟩
theorem len_cells {d : DiskS} (hd : d.ok) : d.cells.length = 272 := by
  have : ∀ (l : List (List Int)), (∀ w ∈ l, w.length = 8) → l.flatten.length = l.length * 8 := by
    intro l
    induction l with
    | nil => intro _; rfl
    | cons a l ih => intro hl; simp [ih (fun w hw => hl w (by simp [hw])), hl a (by simp)]; omega
  rw [DiskS.cells, ints, List.length_map, this d.l hd.2.1, hd.1]
theorem write_pos {d : DiskS} {a : Int} {w : List Int} (hc : 0 ≤ a ∧ a < 34) : d.write a w = { d with wait := d.wait ++ [(a.toNat, w)] } := by rw [DiskS.write, if_pos hc]
theorem write_neg {d : DiskS} {a : Int} {w : List Int} (hc : ¬ (0 ≤ a ∧ a < 34)) : d.write a w = d := by rw [DiskS.write, if_neg hc]
theorem DiskS.ok.write {d : DiskS} (hd : d.ok) {a : Int} {w : List Int} (hw : w.length = 8) : (d.write a w).ok := by
  by_cases hc : 0 ≤ a ∧ a < 34
  · rw [write_pos hc]
    refine ⟨hd.1, hd.2.1, fun p hp => ?_⟩
    simp only [List.mem_append, List.mem_singleton] at hp
    rcases hp with hp | rfl
    · exact hd.2.2 p hp
    · exact ⟨by simp only; omega, hw⟩
  · rw [write_neg hc]; exact hd
theorem dlast {d : DiskS} (hd : d.ok) (sl : Value) : (d.cells ++ [sl])[272]? = some sl := by rw [List.getElem?_append_right (by rw [len_cells hd]; exact Nat.le_refl _)]; simp [len_cells hd]
theorem dput {d : DiskS} (hd : d.ok) (sl sl' : Value) : splice (d.cells ++ [sl]) 272 [sl'] = d.cells ++ [sl'] := by simp [splice, len_cells hd]
theorem write_a (σ : PH) (b : Nat) (d : DiskS) (a : Int) (w : List Int) (hw : w.length = 8) (hlen : d.wait.length < 1000000) :
    CallsA Try.prog 15 #[ptr b, i64 a, wv w] σ [Disk b d] (RetA fun v σ' Γ' => v = .bool (decide (0 ≤ a ∧ a < 34)) ∧ σ = σ' ∧ Γ' = [Disk b (d.write a w)]) := by
  refine enterA3 Try.func15 rfl rfl rfl ?_
  refine XA.seq ?_
  refine XA.region ?_
  refine XOA.wr0 rfl WrA.bx ?_
  rintro _ _ _ ⟨g5, rfl, rfl, rfl⟩
  refine XOA.rd rfl Rd.asg ?_
  refine XOA.nil ?_
  refine DA.thn_normal ?_
  refine XA.seq ?_
  refine XA.seq ?_
  refine XA.region ?_
  refine XOA.rd rfl Rd.mv ?_
  refine XOA.wr0 rfl (WrA.cE (has_a σ a) rfl) ?_
  rintro _ _ _ ⟨_, ⟨rfl, rfl, rfl⟩, rfl⟩
  refine XOA.cl ?_
  refine XOA.nil ?_
  refine DA.thn_normal ?_
  first | refine XA.opn (R := Disk b d) (by ((repeat (first | with_reducible exact Sel.head | apply Sel.tail)); (first | done | fail))) (Disk.opn) ?_ | refine XOA.opn (R := Disk b d) (by ((repeat (first | with_reducible exact Sel.head | apply Sel.tail)); (first | done | fail))) (Disk.opn) ?_ | refine DA.opn (R := Disk b d) (by ((repeat (first | with_reducible exact Sel.head | apply Sel.tail)); (first | done | fail))) (Disk.opn) ?_
  rintro ⟨pp, cc⟩ hok
  first | refine XA.cl ?_ | refine XOA.cl ?_ | refine DA.cl ?_
  have h1 := dlast hok (.slice pp d.wait.length cc)
  have hspl := dput hok (.slice pp d.wait.length cc)
  have hl := len_cells hok
  refine XA.condp rfl (fun hc => ?_) (fun hc => ?_)
  · skip
    refine XA.draw (by kernel_rfl) _ _ [9, 12] [(0, .pu), (1, .pu), (2, .pu), (3, .pu), (4, .rd), (5, .pu), (6, .rd), (7, .pu), (8, .wr), (9, .wr), (10, .pu), (11, .pu), (12, .wr)] (by kernel_rfl) (PH.sub.refl _) (Ent.sel (R := blk b _ _) (by ((repeat (first | with_reducible exact Sel.head | apply Sel.tail)); (first | done | fail))) (Ent.sel (R := blk g5 _ _) (by ((repeat (first | with_reducible exact Sel.head | apply Sel.tail)); (first | done | fail))) (Ent.nil _))) ?_
    refine XPA.pu rfl rfl Gd.free Rd.mv ?_
    refine XPA.pu rfl rfl Gd.free Rd.mv ?_
    refine XPA.pu rfl rfl Gd.free (Rd.nilCheck rfl) ?_
    refine XPA.pu rfl rfl Gd.free (Rd.fA rfl) ?_
    refine XPA.rd rfl rfl Gd.free (Rd.ldC rfl (tyrow rfl) rfl) ?_
    refine XPA.pu rfl rfl Gd.free Rd.mv ?_
    refine XPA.rd rfl rfl Gd.free (Rd.ldA rfl) ?_
    refine XPA.pu rfl rfl Gd.free (Rd.bl (fun _ _ => tyrow) rfl rfl rfl) ?_
    refine XPA.wr0 rfl rfl Gd.free (WrA.bs1 (tyrow rfl) rfl (tyrow rfl)) ?_
    rintro _ _ _ ⟨g17, rfl, rfl, rfl⟩
    refine stays ?_
    refine XPA.wrZ0 rfl rfl Gd.free (by kernel_rfl) (WrA.ap1 (tyrow rfl) rfl (tyrow rfl) rfl rfl rfl) ?_
    rintro _ _ _ ⟨p18, c18, rfl, rfl, rfl⟩
    refine XPA.pu rfl rfl Gd.free (Rd.nilCheck rfl) ?_
    refine XPA.pu rfl rfl Gd.free (Rd.fA rfl) ?_
    refine XPA.wrZ0 rfl rfl Gd.free (by kernel_rfl) (WrA.st (tyrow rfl) rfl) ?_
    rintro _ _ _ ⟨rfl, rfl, rfl⟩
    refine XPA.nil ?_
    refine DA.thn_normal ?_
    refine XA.seq ?_
    refine XA.region ?_
    refine XOA.rd rfl Rd.mv ?_
    refine XOA.wr0 rfl (WrA.cE (has_a σ a) rfl) ?_
    rintro _ _ _ ⟨_, ⟨rfl, rfl, rfl⟩, rfl⟩
    refine XOA.cl ?_
    refine XOA.rd rfl Rd.asg ?_
    refine XOA.nil ?_
    refine DA.thn_normal ?_
    refine XA.ret ?_
    refine bodyA.ret (ResA.one rfl rfl) (Ent.fold1 (by (repeat (first | exact Ent.nil _ | (apply Ent.sel; focus (first | ((repeat (first | with_reducible exact Sel.head | apply Sel.tail)); done) | ((repeat (first | exact Sel.head | apply Sel.tail)); done))) | apply Ent.selNil | apply Ent.selEmp)); (first | done | fail)) (Disk.mk (hok.write hw) ?_ ?_ ?_)) ⟨rfl, rfl, rfl⟩
    · rw [write_pos hc]; rfl
    · rw [write_pos hc]; simp
    · rw [write_pos hc]; simp only [DiskS.wcells, List.flatMap_append, List.flatMap_cons, List.flatMap_nil, List.append_nil, Int.toNat_of_nonneg hc.1]
  · refine XA.skip ?_
    refine DA.thn_normal ?_
    refine XA.seq ?_
    refine XA.region ?_
    refine XOA.rd rfl Rd.mv ?_
    refine XOA.wr0 rfl (WrA.cE (has_a σ a) rfl) ?_
    rintro _ _ _ ⟨_, ⟨rfl, rfl, rfl⟩, rfl⟩
    refine XOA.cl ?_
    refine XOA.rd rfl Rd.asg ?_
    refine XOA.nil ?_
    refine DA.thn_normal ?_
    refine XA.ret ?_
    exact bodyA.ret (ResA.one rfl rfl) (Ent.fold1 (by (repeat (first | exact Ent.nil _ | (apply Ent.sel; focus (first | ((repeat (first | with_reducible exact Sel.head | apply Sel.tail)); done) | ((repeat (first | exact Sel.head | apply Sel.tail)); done))) | apply Ent.selNil | apply Ent.selEmp)); (first | done | fail)) (Disk.mk hok rfl rfl rfl)) ⟨rfl, rfl, by rw [write_neg hc]⟩
theorem take_snoc {α : Type} {l : List α} {k : Nat} {x : α} (hk : l[k]? = some x) : l.take (k + 1) = l.take k ++ [x] := by
  rw [List.take_add_one, hk]; rfl
theorem last_snoc (w : List Int) (n : Nat) (ps : List (Nat × List Int)) (p : Nat × List Int) : DiskS.last w n (ps ++ [p]) = if p.1 = n then p.2 else DiskS.last w n ps := by simp [DiskS.last]
theorem wrow {d : DiskS} (hd : d.ok) {k : Nat} {p : Nat × List Int} (hk : d.wait[k]? = some p) : (d.wcells.drop (k * 9)).take (i64 p.1 :: ints p.2).length = i64 p.1 :: ints p.2 :=
  flat_row (fun p : Nat × List Int => i64 p.1 :: ints p.2) 9 d.wait (fun x hx => by simp [(hd.2.2 x hx).2]) k p hk
theorem srow {d : DiskS} (hd : d.ok) {k : Nat} {w : List Int} (hk : d.l[k]? = some w) (sl : Value) : ((d.cells ++ [sl]).drop (k * 8)).take 8 = ints w := by
  have h1 := flat_row (fun w => ints w) 8 d.l (fun x hx => by simp [hd.2.1 x hx]) k w hk
  have hlt : k < 34 := by rw [← hd.1]; exact (List.getElem?_eq_some_iff.1 hk).1
  have h2 : d.cells = d.l.flatMap (fun w => ints w) := by simp [DiskS.cells, ints, List.flatMap, List.map_flatten]
  have hcl := len_cells hd
  have hw : w.length = 8 := hd.2.1 w (List.mem_of_getElem? hk)
  rw [show (ints w).length = 8 from by simp [hw]] at h1
  rw [List.drop_append_of_le_length (by omega), List.take_append_of_le_length (by simp; omega), h2]
  exact h1
theorem len_last {w : List Int} (hw : w.length = 8) (n : Nat) : ∀ (ps : List (Nat × List Int)), (∀ p ∈ ps, p.2.length = 8) → (DiskS.last w n ps).length = 8 := by
  intro ps
  induction ps generalizing w with
  | nil => intro _; exact hw
  | cons p ps ih =>
    intro hp
    simp only [DiskS.last, List.foldl_cons]
    refine ih ?_ (fun q hq => hp q (by simp [hq]))
    split
    · exact hp p (by simp)
    · exact hw
theorem read_a (σ : PH) (b : Nat) (d : DiskS) (a : Int) (hlen : d.wait.length < 1000000) :
    CallsA Try.prog 22 #[ptr b, i64 a] σ [Disk b d] (RetA fun v σ' Γ' => v = wv (d.read a) ∧ σ = σ' ∧ Γ' = [Disk b d]) := by
  refine enterA2 Try.func22 rfl rfl rfl ?_
  refine XA.seq ?_
  refine XA.region ?_
  refine XOA.wr0 rfl (WrA.alloc (tyrow rfl)) ?_
  rintro _ _ _ ⟨g4, rfl, rfl, rfl⟩
  refine XOA.nil ?_
  refine DA.thn_normal ?_
  refine XA.seq ?_
  refine XA.seq ?_
  refine XA.region ?_
  refine XOA.rd rfl Rd.mv ?_
  refine XOA.wr0 rfl (WrA.cE (has_a σ a) rfl) ?_
  rintro _ _ _ ⟨_, ⟨rfl, rfl, rfl⟩, rfl⟩
  refine XOA.cl ?_
  refine XOA.rd rfl (by first | exact Rd.notp rfl | exact Rd.not rfl) ?_
  refine XOA.nil ?_
  refine DA.thn_normal ?_
  refine XA.condp rfl (fun hc => ?_) (fun hc => ?_)
  · refine XA.seq ?_
    refine XA.region ?_
    refine XOA.rd rfl (Rd.blA (fun _ _ => tyrow) rfl rfl rfl) ?_
    refine XOA.wr0 rfl (WrA.st (tyrow rfl) rfl) ?_
    rintro _ _ _ ⟨rfl, rfl, rfl⟩
    refine XOA.nil ?_
    refine DA.thn_normal ?_
    refine XA.ret ?_
    refine DA.thn_ret ?_
    refine bodyA.ret (ResA.cell rfl rfl (Ld.atBlk (tyrow rfl) rfl (by ((repeat (first | with_reducible exact Sel.head | apply Sel.tail)); (first | done | fail))) rfl (by first | exact take0 (by first | rfl | assumption | (refine (ints_len _).trans ?_; assumption) | (simp [*]; (first | done | fail))) | assumption | exact take_app (by first | rfl | assumption | (refine (ints_len _).trans ?_; assumption) | (simp [*]; (first | done | fail))) | (conv => lhs; simp only [List.drop_succ_cons, List.drop_zero, List.take_succ_cons, List.take_zero])) (by first | rfl | assumption | (refine (ints_len _).trans ?_; assumption) | (simp [*]; (first | done | fail))))) (by (repeat (first | exact Ent.nil _ | (apply Ent.sel; focus (first | ((repeat (first | with_reducible exact Sel.head | apply Sel.tail)); done) | ((repeat (first | exact Sel.head | apply Sel.tail)); done))) | apply Ent.selNil | apply Ent.selEmp)); (first | done | fail)) ⟨?_, rfl, rfl⟩
    rw [DiskS.read, if_neg hc]; rfl
  · have hc : 0 ≤ a ∧ a < 34 := Decidable.not_not.1 hc
    first | refine XA.opn (R := Disk b d) (by ((repeat (first | with_reducible exact Sel.head | apply Sel.tail)); (first | done | fail))) (Disk.opn) ?_ | refine XOA.opn (R := Disk b d) (by ((repeat (first | with_reducible exact Sel.head | apply Sel.tail)); (first | done | fail))) (Disk.opn) ?_ | refine DA.opn (R := Disk b d) (by ((repeat (first | with_reducible exact Sel.head | apply Sel.tail)); (first | done | fail))) (Disk.opn) ?_
    rintro ⟨pp, cc⟩ hok
    first | refine XA.cl ?_ | refine XOA.cl ?_ | refine DA.cl ?_
    obtain ⟨w0, hw0⟩ : ∃ w0, d.l[a.toNat]? = some w0 := ⟨_, List.getElem?_eq_getElem (by rw [hok.1]; omega)⟩
    have hw8 : w0.length = 8 := hok.2.1 w0 (List.mem_of_getElem? hw0)
    have hr0 := srow hok hw0 (.slice pp d.wait.length cc)
    have hcw := dlast hok (.slice pp d.wait.length cc)
    have hrd : d.read a = DiskS.last w0 a.toNat d.wait := by rw [DiskS.read, if_pos hc, List.getD_eq_getElem?_getD, hw0]; rfl
    refine XA.skip ?_
    refine DA.thn_normal ?_
    refine XA.seq ?_
    refine XA.region ?_
    refine XOA.rd rfl Rd.mv ?_
    refine XOA.rd rfl Rd.mv ?_
    refine XOA.rd rfl (Rd.nilCheck rfl) ?_
    refine XOA.rd rfl (Rd.fA rfl) ?_
    refine XOA.rd rfl (Rd.ixA rfl rfl) ?_
    refine XOA.rd rfl (Rd.ldA rfl) ?_
    refine XOA.wr0 rfl (WrA.alloc (tyrow rfl)) ?_
    rintro _ _ _ ⟨g5, rfl, rfl, rfl⟩
    refine XOA.wr0 rfl (WrA.st (tyrow rfl) rfl) ?_
    rintro _ _ _ ⟨rfl, rfl, rfl⟩
    refine XOA.nil ?_
    refine DA.thn_normal ?_
    refine XA.seq ?_
    refine XA.seq ?_
    refine XA.region ?_
    refine XOA.rd rfl Rd.mv ?_
    refine XOA.rd rfl (Rd.nilCheck rfl) ?_
    refine XOA.rd rfl (Rd.fA rfl) ?_
    refine XOA.rd rfl (Rd.ldC rfl (tyrow rfl) rfl) ?_
    refine XOA.rd rfl (Rd.lenSlice (tyrow rfl) rfl rfl) ?_
    refine XOA.rd rfl Rd.mv ?_
    refine XOA.nil ?_
    refine DA.thn_normal ?_
    refine XA.block ?_
    refine XA.gen [(1, _), (4, _), (5, _), (21, _), (22, _), (23, _)] ⟨(by with_reducible (conv => lhs; whnf)), (by with_reducible (conv => lhs; whnf)), (by with_reducible (conv => lhs; whnf)), (by with_reducible (conv => lhs; whnf)), (by with_reducible (conv => lhs; whnf)), (by with_reducible (conv => lhs; whnf)), trivial⟩ (fun δ => ?_)
    dsimp only [List.foldl]
    refine XA.loop [(7, 7), (23, 33)] (fun k : Nat => [(23, i64 k)]) (fun k σ' Γ' => σ = σ' ∧ k ≤ d.wait.length ∧ Γ' = [blk g5 (ints (DiskS.last w0 a.toNat (d.wait.take k))) 32, blk g4 ty32.zero 32, blk b (d.cells ++ [.slice pp d.wait.length cc]) 92, lst 94 9 (.slice pp d.wait.length cc) d.wait.length d.wcells]) (fun k => d.wait.length - k) 0 (by exact ⟨rfl, trivial⟩) (Δ0 := _) ?_ (⟨rfl, Nat.zero_le _, rfl⟩) ?_
    · exact (by (repeat (first | exact Ent.nil _ | (apply Ent.sel; focus (first | ((repeat (first | with_reducible exact Sel.head | apply Sel.tail)); done) | ((repeat (first | exact Sel.head | apply Sel.tail)); done))) | apply Ent.selNil | apply Ent.selEmp)); (first | done | fail))
    rintro k δ _ _ ⟨rfl, hk, rfl⟩
    dsimp only [ovr, List.foldl]
    have hl8 : (DiskS.last w0 a.toNat (d.wait.take k)).length = 8 := len_last hw8 _ _ (fun p hp => (hok.2.2 p (List.mem_of_mem_take hp)).2)
    refine XA.seq ?_
    refine XA.region ?_
    refine XOA.rd rfl (Rd.lss rfl rfl) ?_
    refine XOA.nil ?_
    refine DA.thn_normal ?_
    refine XA.seq ?_
    refine XA.condp rfl (fun hlt => ?_) (fun hlt => ?_)
    · have hlt : k < d.wait.length := by omega
      obtain ⟨p, hp⟩ : ∃ p, d.wait[k]? = some p := ⟨_, List.getElem?_eq_getElem hlt⟩
      have hp8 : p.2.length = 8 := (hok.2.2 p (List.mem_of_getElem? hp)).2
      have hrow : (d.wcells.drop (k * 9)).take 9 = i64 p.1 :: ints p.2 := by have := wrow hok hp; simpa [hp8] using this
      have hsn := take_snoc hp
      first | refine XA.opn (R := lst 94 9 (.slice pp d.wait.length cc) _ _) (by ((repeat (first | with_reducible exact Sel.head | apply Sel.tail)); (first | done | fail))) (lst_some (by omega)) ?_ | refine XOA.opn (R := lst 94 9 (.slice pp d.wait.length cc) _ _) (by ((repeat (first | with_reducible exact Sel.head | apply Sel.tail)); (first | done | fail))) (lst_some (by omega)) ?_ | refine DA.opn (R := lst 94 9 (.slice pp d.wait.length cc) _ _) (by ((repeat (first | with_reducible exact Sel.head | apply Sel.tail)); (first | done | fail))) (lst_some (by omega)) ?_
      rintro g rfl
      first | refine XA.cl ?_ | refine XOA.cl ?_ | refine DA.cl ?_
      refine XA.skip ?_
      refine DA.thn_normal ?_
      refine XA.seq ?_
      refine XA.block ?_
      refine XA.seq ?_
      refine XA.region ?_
      refine XOA.rd rfl (Rd.ixS rfl rfl) ?_
      refine XOA.rd rfl (Rd.ldA rfl) ?_
      refine XOA.wr0 rfl (WrA.alloc (tyrow rfl)) ?_
      rintro _ _ _ ⟨g7, rfl, rfl, rfl⟩
      refine XOA.wr0 rfl (WrA.st (tyrow rfl) rfl) ?_
      rintro _ _ _ ⟨rfl, rfl, rfl⟩
      refine XOA.nil ?_
      refine DA.thn_normal ?_
      refine XA.seq ?_
      refine XA.region ?_
      refine XOA.rd rfl (Rd.fA rfl) ?_
      refine XOA.rd rfl (Rd.ldC rfl (tyrow rfl) rfl) ?_
      refine XOA.rd rfl Rd.mv ?_
      refine XOA.rd rfl (Rd.eql rfl rfl) ?_
      refine XOA.nil ?_
      refine DA.thn_normal ?_
      refine XA.condp rfl (fun heq => ?_) (fun heq => ?_)
      · refine XA.region ?_
        refine XOA.rd rfl (Rd.fA rfl) ?_
        refine XOA.rd rfl (Rd.ldA rfl) ?_
        refine XOA.wr0 rfl (WrA.st (tyrow rfl) rfl) ?_
        rintro _ _ _ ⟨rfl, rfl, rfl⟩
        refine XOA.nil ?_
        refine DA.inb_normal ?_
        refine DA.thn_normal ?_
        refine XA.region ?_
        refine XOA.rd rfl (by first | exact Rd.adi rfl rfl | exact Rd.add rfl rfl) ?_
        refine XOA.rd rfl Rd.mv ?_
        refine XOA.nil ?_
        refine DA.thn_normal ?_
        have e : DiskS.last w0 a.toNat (d.wait.take (k + 1)) = p.2 := by rw [hsn, last_snoc, if_pos (by omega)]
        refine ⟨(Keep.upd (Keep.upd (Keep.updN (Keep.upd (Keep.upd (Keep.upd (Keep.upd (Keep.upd (Keep.upd (Keep.updN (Keep.updO (Keep.upd (Keep.upd (Keep.upd (Keep.upd (Keep.hav (Keep.hav (Keep.refl _ _) rfl) rfl) rfl) rfl) rfl) rfl) rfl)) rfl) rfl) rfl) rfl) rfl) rfl)) rfl) rfl), k + 1, _, (by (repeat (first | exact trivial | refine ⟨rfl, ?_⟩ | refine ⟨Eq.trans rfl (congrArg Value.bool hmat.symm), ?_⟩)); (first | done | fail)), ?_, ⟨rfl, hlt, rfl⟩, (by omega)⟩
        · rw [e]; exact (by (repeat (first | exact Ent.nil _ | (apply Ent.sel; focus (first | ((repeat (first | with_reducible exact Sel.head | apply Sel.tail)); done) | ((repeat (first | exact Sel.head | apply Sel.tail)); done))) | apply Ent.selNil | apply Ent.selEmp)); (first | done | fail))
      · refine XA.skip ?_
        refine DA.inb_normal ?_
        refine DA.thn_normal ?_
        refine XA.region ?_
        refine XOA.rd rfl (by first | exact Rd.adi rfl rfl | exact Rd.add rfl rfl) ?_
        refine XOA.rd rfl Rd.mv ?_
        refine XOA.nil ?_
        refine DA.thn_normal ?_
        have e : DiskS.last w0 a.toNat (d.wait.take (k + 1)) = DiskS.last w0 a.toNat (d.wait.take k) := by rw [hsn, last_snoc, if_neg (by omega)]
        refine ⟨(Keep.upd (Keep.upd (Keep.upd (Keep.upd (Keep.upd (Keep.upd (Keep.updN (Keep.updO (Keep.upd (Keep.upd (Keep.upd (Keep.upd (Keep.hav (Keep.hav (Keep.refl _ _) rfl) rfl) rfl) rfl) rfl) rfl) rfl)) rfl) rfl) rfl) rfl) rfl) rfl), k + 1, _, (by (repeat (first | exact trivial | refine ⟨rfl, ?_⟩ | refine ⟨Eq.trans rfl (congrArg Value.bool hmat.symm), ?_⟩)); (first | done | fail)), ?_, ⟨rfl, hlt, rfl⟩, (by omega)⟩
        · rw [e]; exact (by (repeat (first | exact Ent.nil _ | (apply Ent.sel; focus (first | ((repeat (first | with_reducible exact Sel.head | apply Sel.tail)); done) | ((repeat (first | exact Sel.head | apply Sel.tail)); done))) | apply Ent.selNil | apply Ent.selEmp)); (first | done | fail))
    · have hkn : k = d.wait.length := by omega
      subst hkn
      rw [List.take_length] at *
      refine XA.exit ?_
      refine DA.thn_exit ?_
      refine DA.thn_exit ?_
      refine DA.inb_same ?_
      refine DA.thn_normal ?_
      refine XA.seq ?_
      refine XA.region ?_
      refine XOA.rd rfl (Rd.ldA rfl) ?_
      refine XOA.wr0 rfl (WrA.st (tyrow rfl) rfl) ?_
      rintro _ _ _ ⟨rfl, rfl, rfl⟩
      refine XOA.nil ?_
      refine DA.thn_normal ?_
      refine XA.ret ?_
      exact bodyA.ret (ResA.cell rfl rfl (Ld.atBlk (tyrow rfl) rfl (by ((repeat (first | with_reducible exact Sel.head | apply Sel.tail)); (first | done | fail))) rfl (by first | exact take0 (by first | rfl | assumption | (refine (ints_len _).trans ?_; assumption) | (simp [*]; (first | done | fail))) | assumption | exact take_app (by first | rfl | assumption | (refine (ints_len _).trans ?_; assumption) | (simp [*]; (first | done | fail))) | (conv => lhs; simp only [List.drop_succ_cons, List.drop_zero, List.take_succ_cons, List.take_zero])) (by first | rfl | assumption | (refine (ints_len _).trans ?_; assumption) | (simp [*]; (first | done | fail))))) (Ent.fold1 (by (repeat (first | exact Ent.nil _ | (apply Ent.sel; focus (first | ((repeat (first | with_reducible exact Sel.head | apply Sel.tail)); done) | ((repeat (first | exact Sel.head | apply Sel.tail)); done))) | apply Ent.selNil | apply Ent.selEmp)); (first | done | fail)) (Disk.mk (sl := .slice pp d.wait.length cc) hok rfl rfl rfl)) ⟨by rw [hrd]; rfl, rfl, rfl⟩
theorem new_a (σ : PH) : CallsA Try.prog 14 #[] σ [] (RetA fun v σ' Γ' => ∃ b, v = ptr b ∧ σ = σ' ∧ Γ' = [Disk b DiskS.new]) := by
  refine enterA0 Try.func14 rfl rfl rfl ?_
  refine XA.seq ?_
  refine XA.region ?_
  refine XOA.rd rfl Rd.asg ?_
  refine XOA.nil ?_
  refine DA.thn_normal ?_
  refine XA.seq ?_
  refine XA.region ?_
  refine XOA.rd rfl (Rd.bl (fun _ _ => tyrow) rfl rfl rfl) ?_
  refine XOA.wr0 rfl WrA.bx ?_
  rintro _ _ _ ⟨g2, rfl, rfl, rfl⟩
  refine XOA.rd rfl Rd.asg ?_
  refine XOA.nil ?_
  refine DA.thn_normal ?_
  refine XA.ret ?_
  have hw : ty92.zero = DiskS.new.cells ++ [.slice none 0 0] := by simp only [DiskS.cells, DiskS.new, DiskS.zeros, ints, List.flatten_replicate_replicate, List.map_replicate]; rfl
  rw [show (Value.int IntKind.i64 0 :: (List.replicate 271 (Value.int IntKind.i64 0)).append (List.replicate 1 (Value.slice none 0 0))) = ty92.zero from rfl, hw]
  exact bodyA.ret (ResA.one rfl rfl) (Ent.fold1 (by (repeat (first | exact Ent.nil _ | (apply Ent.sel; focus (first | ((repeat (first | with_reducible exact Sel.head | apply Sel.tail)); done) | ((repeat (first | exact Sel.head | apply Sel.tail)); done))) | apply Ent.selNil | apply Ent.selEmp)); (first | done | fail)) (Disk.mk (sl := .slice none 0 0) (n := 0) (xs := []) DiskS.ok_new rfl rfl rfl)) ⟨_, rfl, rfl, rfl⟩
theorem wait_a (σ : PH) (b : Nat) (d : DiskS) : CallsA Try.prog 21 #[ptr b] σ [Disk b d] (RetA fun v σ' Γ' => v = i64 d.wait.length ∧ σ = σ' ∧ Γ' = [Disk b d]) := by
  refine enterA1 Try.func21 rfl rfl rfl ?_
  refine XA.seq ?_
  refine XA.region ?_
  refine XOA.rd rfl Rd.asg ?_
  refine XOA.nil ?_
  refine DA.thn_normal ?_
  refine XA.seq ?_
  refine XA.region ?_
  refine XOA.rd rfl Rd.mv ?_
  first | refine XA.opn (R := Disk b d) (by ((repeat (first | with_reducible exact Sel.head | apply Sel.tail)); (first | done | fail))) (Disk.opn) ?_ | refine XOA.opn (R := Disk b d) (by ((repeat (first | with_reducible exact Sel.head | apply Sel.tail)); (first | done | fail))) (Disk.opn) ?_ | refine DA.opn (R := Disk b d) (by ((repeat (first | with_reducible exact Sel.head | apply Sel.tail)); (first | done | fail))) (Disk.opn) ?_
  rintro ⟨pp, cc⟩ hok
  first | refine XA.cl ?_ | refine XOA.cl ?_ | refine DA.cl ?_
  have h1 := dlast hok (.slice pp d.wait.length cc)
  have hl := len_cells hok
  refine XOA.rd rfl (Rd.nilCheck rfl) ?_
  refine XOA.rd rfl (Rd.fA rfl) ?_
  refine XOA.rd rfl (Rd.ldC rfl (tyrow rfl) rfl) ?_
  refine XOA.rd rfl (Rd.lenSlice (tyrow rfl) rfl rfl) ?_
  refine XOA.rd rfl Rd.asg ?_
  refine XOA.nil ?_
  refine DA.thn_normal ?_
  refine XA.ret ?_
  exact bodyA.ret (ResA.one rfl rfl) (Ent.fold1 (by (repeat (first | exact Ent.nil _ | (apply Ent.sel; focus (first | ((repeat (first | with_reducible exact Sel.head | apply Sel.tail)); done) | ((repeat (first | exact Sel.head | apply Sel.tail)); done))) | apply Ent.selNil | apply Ent.selEmp)); (first | done | fail)) (Disk.mk hok rfl rfl rfl)) ⟨rfl, rfl, rfl⟩
end Go.Proofs.Ytplobdiknobhoaa
