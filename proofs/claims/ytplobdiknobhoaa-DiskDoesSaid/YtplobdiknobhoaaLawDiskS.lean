/- The law DiskSure: what its function does. -/
import Derived.Test.YtplobdiknobhoaaLawDiskA
namespace Go.Proofs.Ytplobdiknobhoaa
open Go X
set_option maxHeartbeats 1000000
/-- What is made sure of in a sector; what waits for it. -/
def DiskS.held (d : DiskS) (a : Int) : List Int := d.l.getD a.toNat DiskS.zeros
def DiskS.waits (d : DiskS) (a : Int) : List (List Int) := (d.wait.filter fun p => p.1 = a.toNat).map (·.2)
theorem waits_len (d : DiskS) (a : Int) : (d.waits a).length ≤ d.wait.length := by simp [DiskS.waits]; exact List.length_filter_le _ _
theorem held8 {d : DiskS} (hd : d.ok) (a : Int) : (d.held a).length = 8 := by
  unfold DiskS.held
  rw [List.getD_eq_getElem?_getD]
  cases h : d.l[a.toNat]? with
  | none => rfl
  | some w => exact hd.2.1 w (List.mem_of_getElem? h)
theorem waits8 {d : DiskS} (hd : d.ok) (a : Int) : ∀ w ∈ d.waits a, w.length = 8 := by
  intro w hw
  simp only [DiskS.waits, List.mem_map, List.mem_filter] at hw
  obtain ⟨p, ⟨hp, -⟩, rfl⟩ := hw
  exact (hd.2.2 p hp).2
theorem read_wait_nil {d : DiskS} {a : Int} (ha : 0 ≤ a ∧ a < 34) (h : d.wait = []) : d.read a = d.held a := by
  rw [DiskS.read, if_pos ha, h]; rfl
theorem last_mem (n : Nat) : ∀ (ps : List (Nat × List Int)) (w : List Int), DiskS.last w n ps = w ∨ DiskS.last w n ps ∈ (ps.filter fun p => p.1 = n).map (·.2) := by
  intro ps
  induction ps with
  | nil => intro w; exact .inl rfl
  | cons p ps ih =>
    intro w
    have e : DiskS.last w n (p :: ps) = DiskS.last (if p.1 = n then p.2 else w) n ps := rfl
    rw [e]
    by_cases h : p.1 = n
    · rw [if_pos h]
      rcases ih p.2 with ih | ih
      · exact .inr (by rw [ih]; simp [h])
      · exact .inr (by simp only [List.filter_cons, h, decide_true, if_true, List.map_cons, List.mem_cons]; exact .inr ih)
    · rw [if_neg h]
      rcases ih w with ih | ih
      · exact .inl ih
      · exact .inr (by simpa [List.filter_cons, h] using ih)
/-- What a sector holds when some of what waited was made sure of. -/
theorem part_get (d : DiskS) (is : Nat → Bool) (n k : Nat) (hn : k < d.l.length) : (d.part is n).getD k DiskS.zeros = DiskS.last (d.l.getD k DiskS.zeros) k ((((d.wait.zipIdx).take n).filter fun p => is p.2).map (·.1)) := by
  have gen : ∀ (ps : List ((Nat × List Int) × Nat)) (l : List (List Int)), k < l.length → (ps.foldl (fun l p => if is p.2 then l.set p.1.1 p.1.2 else l) l).getD k DiskS.zeros = DiskS.last (l.getD k DiskS.zeros) k ((ps.filter fun p => is p.2).map (·.1)) := by
    intro ps
    induction ps with
    | nil => intro l _; rfl
    | cons p ps ih =>
      intro l hl
      simp only [List.foldl_cons]
      by_cases hp : is p.2 = true
      · rw [if_pos hp, ih _ (by simpa using hl)]
        simp only [List.filter_cons, hp, if_true, List.map_cons]
        simp only [DiskS.last, List.foldl_cons]
        congr 1
        by_cases hk : p.1.1 = k
        · rw [if_pos hk, hk]; simp [List.getD_eq_getElem?_getD, hl]
        · rw [if_neg hk]; simp [List.getD_eq_getElem?_getD, List.getElem?_set_ne hk]
      · rw [if_neg hp, ih _ hl]
        simp [List.filter_cons, hp]
  exact gen _ d.l hn
theorem settle_held {d : DiskS} (hd : d.ok) (is : Nat → Bool) {a : Int} (ha : 0 ≤ a ∧ a < 34) : (d.settle is).held a = DiskS.last (d.held a) a.toNat (((d.wait.zipIdx).filter fun p => is p.2).map (·.1)) := by
  have hset : (d.wait.zipIdx).take d.wait.length = d.wait.zipIdx := List.take_of_length_le (by simp)
  have := part_get d is d.wait.length a.toNat (by rw [hd.1]; omega)
  rw [hset] at this
  rw [DiskS.held, show (d.settle is).l = d.part is d.wait.length by simp only [DiskS.settle, DiskS.part, hset]]
  exact this
/-- Each sector holds what it held, or what one of the writes that waited for it says. -/
theorem settle_mem {d : DiskS} (hd : d.ok) (is : Nat → Bool) {a : Int} (ha : 0 ≤ a ∧ a < 34) : (d.settle is).held a = d.held a ∨ (d.settle is).held a ∈ d.waits a := by
  rw [settle_held hd is ha]
  rcases last_mem a.toNat (((d.wait.zipIdx).filter fun p => is p.2).map (·.1)) (d.held a) with h | h
  · exact .inl h
  · refine .inr ?_
    simp only [List.mem_map, List.mem_filter, decide_eq_true_eq] at h
    obtain ⟨p, ⟨⟨q, ⟨hq, -⟩, rfl⟩, hk⟩, hw⟩ := h
    have hq' : q.1 ∈ d.wait := by
      obtain ⟨q1, q2⟩ := q
      have := (List.mem_zipIdx hq).2.2
      rw [this]; exact List.getElem_mem _
    simp only [DiskS.waits, List.mem_map, List.mem_filter, decide_eq_true_eq]
    exact ⟨q.1, ⟨hq', hk⟩, hw⟩
/-- If all stays, what was read. -/
theorem settle_all {d : DiskS} (hd : d.ok) (is : Nat → Bool) (hall : ∀ k, is k = true) {a : Int} (ha : 0 ≤ a ∧ a < 34) : (d.settle is).held a = d.read a := by
  rw [settle_held hd is ha, DiskS.read, if_pos ha]
  have : ((d.wait.zipIdx).filter fun p => is p.2).map (·.1) = d.wait := by
    rw [List.filter_eq_self.2 (fun p _ => hall p.2)]
    simp
  rw [this]; rfl
theorem bit_all (k : Nat) : bitOf 18446744073709551615 k = true := by
  unfold bitOf
  have hk : k % 64 < 64 := Nat.mod_lt _ (by decide)
  generalize k % 64 = q at hk
  simp only [decide_eq_true_eq]
  revert q; decide
theorem write_held (d : DiskS) (a b : Int) (w : List Int) : (d.write b w).held a = d.held a := by unfold DiskS.held DiskS.write; split <;> rfl
theorem write_waits {d : DiskS} {a b : Int} {w : List Int} (ha : 0 ≤ a ∧ a < 34) : (d.write b w).waits a = if (0 ≤ b ∧ b < 34) ∧ b = a then d.waits a ++ [w] else d.waits a := by
  unfold DiskS.waits DiskS.write
  by_cases hb : 0 ≤ b ∧ b < 34
  · rw [if_pos hb]
    simp only [List.filter_append, List.map_append]
    by_cases e : b = a
    · subst e; simp [hb]
    · have : ¬ b.toNat = a.toNat := by omega
      simp [e, this]
  · rw [if_neg hb, if_neg (by rintro ⟨h, -⟩; exact hb h)]
theorem settle_waits (d : DiskS) (p : Nat → Bool) (a : Int) : (d.settle p).waits a = [] := rfl
theorem sure_law (σ : PH) (v : Value) (ms : List Move) (m a : Int) (hms : PSl 11 rMove σ v ms) (hm0 : 0 ≤ m) (hm1 : m < 18446744073709551616) :
    CallsA Try.prog 4 #[v, .int .u64 m, i64 a] σ [] (RetA fun v σ' Γ' => v = .bool true ∧ σ.sub σ') := by
  obtain ⟨p, c, rfl, -, -⟩ := hms.shape
  by_cases h300 : (300 : Int) < ms.length
  · 
    refine enterA3 Try.func4 rfl rfl rfl ?_
    refine XA.seq ?_
    refine XA.region ?_
    refine XOA.rd rfl (Rd.assign (by with_reducible (conv => lhs; whnf))) ?_
    refine XOA.nil ?_
    refine DA.thn_normal ?_
    refine XA.seq ?_
    refine XA.seq ?_
    refine XA.region ?_
    refine XOA.wr0 rfl (WrA.callE (by (repeat (first | exact Ent.all _ | (apply Ent.take; focus (first | ((repeat (first | with_reducible exact Sel.head | apply Sel.tail)); done) | ((repeat (first | exact Sel.head | apply Sel.tail)); done))) | apply Ent.takeNil | apply Ent.takeEmp)); (first | done | fail)) (begun_a σ) rfl) ?_
    rintro _ _ _ ⟨_, ⟨rfl, rfl, rfl⟩, rfl⟩
    refine XOA.re (by conv => lhs; dsimp only [List.cons_append, List.nil_append]) ?_
    refine XOA.rd rfl (by first | exact Rd.notp rfl | exact Rd.not rfl) ?_
    refine XOA.nil ?_
    refine DA.thn_normal ?_
    refine XA.condF rfl rfl ?_
    refine XA.skip ?_
    refine DA.thn_normal ?_
    refine XA.seq ?_
    refine XA.seq ?_
    refine XA.region ?_
    refine XOA.rd rfl (Rd.move (by with_reducible (conv => lhs; whnf))) ?_
    refine XOA.rd rfl (Rd.lenSlice (tyrow rfl) rfl rfl) ?_
    refine XOA.rd rfl (Rd.gtr rfl rfl) ?_
    refine XOA.rd rfl (Rd.move (by with_reducible (conv => lhs; whnf))) ?_
    first | (refine XOA.wanted rfl rfl ?_; refine XOA.rd rfl (Rd.move (by with_reducible (conv => lhs; whnf))) ?_) | (refine XOA.wantedP rfl rfl (by first | exact (rfl : decide _ = true) | exact (rfl : decide _ = false) | (refine decide_eq_true ?_; assumption) | (refine decide_eq_false ?_; assumption) | (refine decide_eq_true ?_; omega) | (refine decide_eq_false ?_; omega)) ?_; refine XOA.rd rfl (Rd.move (by with_reducible (conv => lhs; whnf))) ?_) | refine XOA.unwanted rfl rfl rfl rfl ?_ | refine XOA.unwantedP rfl rfl rfl (by first | exact (rfl : decide _ = true) | exact (rfl : decide _ = false) | (refine decide_eq_true ?_; assumption) | (refine decide_eq_false ?_; assumption) | (refine decide_eq_true ?_; omega) | (refine decide_eq_false ?_; omega)) ?_ | refine XOA.unwantedU rfl rfl rfl ?_
    first | refine XOA.unwanted rfl rfl rfl rfl ?_ | refine XOA.unwantedP rfl rfl rfl (by first | exact (rfl : decide _ = true) | exact (rfl : decide _ = false) | (refine decide_eq_true ?_; assumption) | (refine decide_eq_false ?_; assumption) | (refine decide_eq_true ?_; omega) | (refine decide_eq_false ?_; omega)) ?_ | refine XOA.unwantedU rfl rfl rfl ?_
    first | (refine XOA.wanted rfl rfl ?_; refine XOA.rd rfl (by first | exact Rd.notp rfl | exact Rd.not rfl) ?_) | (refine XOA.wantedP rfl rfl (by first | exact (rfl : decide _ = true) | exact (rfl : decide _ = false) | (refine decide_eq_true ?_; assumption) | (refine decide_eq_false ?_; assumption) | (refine decide_eq_true ?_; omega) | (refine decide_eq_false ?_; omega)) ?_; refine XOA.rd rfl (by first | exact Rd.notp rfl | exact Rd.not rfl) ?_) | refine XOA.unwanted rfl rfl rfl rfl ?_ | refine XOA.unwantedP rfl rfl rfl (by first | exact (rfl : decide _ = true) | exact (rfl : decide _ = false) | (refine decide_eq_true ?_; assumption) | (refine decide_eq_false ?_; assumption) | (refine decide_eq_true ?_; omega) | (refine decide_eq_false ?_; omega)) ?_ | refine XOA.unwantedU rfl rfl rfl ?_
    refine XOA.rd rfl (by first | exact Rd.pickT rfl (by with_reducible (conv => lhs; whnf)) | exact Rd.pickF rfl (by with_reducible (conv => lhs; whnf)) | exact Rd.pickP rfl (by first | exact (rfl : decide _ = true) | exact (rfl : decide _ = false) | (refine decide_eq_true ?_; assumption) | (refine decide_eq_false ?_; assumption) | (refine decide_eq_true ?_; omega) | (refine decide_eq_false ?_; omega)) (by with_reducible (conv => lhs; whnf))) ?_
    refine XOA.nil ?_
    refine DA.thn_normal ?_
    refine XA.condT rfl (by first | rfl | exact (by first | exact (rfl : decide _ = true) | exact (rfl : decide _ = false) | (refine decide_eq_true ?_; assumption) | (refine decide_eq_false ?_; assumption) | (refine decide_eq_true ?_; omega) | (refine decide_eq_false ?_; omega))) ?_
    refine XA.seq ?_
    refine XA.region ?_
    refine XOA.rd rfl (Rd.assign (by with_reducible (conv => lhs; whnf))) ?_
    refine XOA.nil ?_
    refine DA.thn_normal ?_
    refine XA.ret ?_
    refine DA.thn_ret ?_
    exact bodyA.ret (ResA.one rfl rfl) (Ent.refl _) ⟨rfl, .refl _⟩
  by_cases ha : 0 ≤ a ∧ a < 34
  case neg =>
    refine enterA3 Try.func4 rfl rfl rfl ?_
    refine XA.seq ?_
    refine XA.region ?_
    refine XOA.rd rfl (Rd.assign (by with_reducible (conv => lhs; whnf))) ?_
    refine XOA.nil ?_
    refine DA.thn_normal ?_
    refine XA.seq ?_
    refine XA.seq ?_
    refine XA.region ?_
    refine XOA.wr0 rfl (WrA.callE (by (repeat (first | exact Ent.all _ | (apply Ent.take; focus (first | ((repeat (first | with_reducible exact Sel.head | apply Sel.tail)); done) | ((repeat (first | exact Sel.head | apply Sel.tail)); done))) | apply Ent.takeNil | apply Ent.takeEmp)); (first | done | fail)) (begun_a σ) rfl) ?_
    rintro _ _ _ ⟨_, ⟨rfl, rfl, rfl⟩, rfl⟩
    refine XOA.re (by conv => lhs; dsimp only [List.cons_append, List.nil_append]) ?_
    refine XOA.rd rfl (by first | exact Rd.notp rfl | exact Rd.not rfl) ?_
    refine XOA.nil ?_
    refine DA.thn_normal ?_
    refine XA.condF rfl rfl ?_
    refine XA.skip ?_
    refine DA.thn_normal ?_
    refine XA.seq ?_
    refine XA.seq ?_
    refine XA.region ?_
    refine XOA.rd rfl (Rd.move (by with_reducible (conv => lhs; whnf))) ?_
    refine XOA.rd rfl (Rd.lenSlice (tyrow rfl) rfl rfl) ?_
    refine XOA.rd rfl (Rd.gtr rfl rfl) ?_
    refine XOA.rd rfl (Rd.move (by with_reducible (conv => lhs; whnf))) ?_
    first | (refine XOA.wanted rfl rfl ?_; refine XOA.rd rfl (Rd.move (by with_reducible (conv => lhs; whnf))) ?_) | (refine XOA.wantedP rfl rfl (by first | exact (rfl : decide _ = true) | exact (rfl : decide _ = false) | (refine decide_eq_true ?_; assumption) | (refine decide_eq_false ?_; assumption) | (refine decide_eq_true ?_; omega) | (refine decide_eq_false ?_; omega)) ?_; refine XOA.rd rfl (Rd.move (by with_reducible (conv => lhs; whnf))) ?_) | refine XOA.unwanted rfl rfl rfl rfl ?_ | refine XOA.unwantedP rfl rfl rfl (by first | exact (rfl : decide _ = true) | exact (rfl : decide _ = false) | (refine decide_eq_true ?_; assumption) | (refine decide_eq_false ?_; assumption) | (refine decide_eq_true ?_; omega) | (refine decide_eq_false ?_; omega)) ?_ | refine XOA.unwantedU rfl rfl rfl ?_
    first | refine XOA.wanted rfl rfl ?_ | refine XOA.wantedP rfl rfl (by first | exact (rfl : decide _ = true) | exact (rfl : decide _ = false) | (refine decide_eq_true ?_; assumption) | (refine decide_eq_false ?_; assumption) | (refine decide_eq_true ?_; omega) | (refine decide_eq_false ?_; omega)) ?_
    refine XOA.wr0 rfl (WrA.callE (by (repeat (first | exact Ent.all _ | (apply Ent.take; focus (first | ((repeat (first | with_reducible exact Sel.head | apply Sel.tail)); done) | ((repeat (first | exact Sel.head | apply Sel.tail)); done))) | apply Ent.takeNil | apply Ent.takeEmp)); (first | done | fail)) (has_a σ a) rfl) ?_
    rintro _ _ _ ⟨_, ⟨rfl, rfl, rfl⟩, rfl⟩
    refine XOA.re (by conv => lhs; dsimp only [List.cons_append, List.nil_append]) ?_
    first | (refine XOA.wanted rfl rfl ?_; refine XOA.rd rfl (by first | exact Rd.notp rfl | exact Rd.not rfl) ?_) | (refine XOA.wantedP rfl rfl (by first | exact (rfl : decide _ = true) | exact (rfl : decide _ = false) | (refine decide_eq_true ?_; assumption) | (refine decide_eq_false ?_; assumption) | (refine decide_eq_true ?_; omega) | (refine decide_eq_false ?_; omega)) ?_; refine XOA.rd rfl (by first | exact Rd.notp rfl | exact Rd.not rfl) ?_) | refine XOA.unwanted rfl rfl rfl rfl ?_ | refine XOA.unwantedP rfl rfl rfl (by first | exact (rfl : decide _ = true) | exact (rfl : decide _ = false) | (refine decide_eq_true ?_; assumption) | (refine decide_eq_false ?_; assumption) | (refine decide_eq_true ?_; omega) | (refine decide_eq_false ?_; omega)) ?_ | refine XOA.unwantedU rfl rfl rfl ?_
    refine XOA.rd rfl (by first | exact Rd.pickT rfl (by with_reducible (conv => lhs; whnf)) | exact Rd.pickF rfl (by with_reducible (conv => lhs; whnf)) | exact Rd.pickP rfl (by first | exact (rfl : decide _ = true) | exact (rfl : decide _ = false) | (refine decide_eq_true ?_; assumption) | (refine decide_eq_false ?_; assumption) | (refine decide_eq_true ?_; omega) | (refine decide_eq_false ?_; omega)) (by with_reducible (conv => lhs; whnf))) ?_
    refine XOA.nil ?_
    refine DA.thn_normal ?_
    refine XA.condT rfl (by first | rfl | exact (by first | exact (rfl : decide _ = true) | exact (rfl : decide _ = false) | (refine decide_eq_true ?_; assumption) | (refine decide_eq_false ?_; assumption) | (refine decide_eq_true ?_; omega) | (refine decide_eq_false ?_; omega))) ?_
    refine XA.seq ?_
    refine XA.region ?_
    refine XOA.rd rfl (Rd.assign (by with_reducible (conv => lhs; whnf))) ?_
    refine XOA.nil ?_
    refine DA.thn_normal ?_
    refine XA.ret ?_
    refine DA.thn_ret ?_
    exact bodyA.ret (ResA.one rfl rfl) (Ent.refl _) ⟨rfl, .refl _⟩
  refine enterA3 Try.func4 rfl rfl rfl ?_
  refine XA.seq ?_
  refine XA.region ?_
  refine XOA.rd rfl (Rd.assign (by with_reducible (conv => lhs; whnf))) ?_
  refine XOA.nil ?_
  refine DA.thn_normal ?_
  refine XA.seq ?_
  refine XA.seq ?_
  refine XA.region ?_
  refine XOA.wr0 rfl (WrA.callE (by (repeat (first | exact Ent.all _ | (apply Ent.take; focus (first | ((repeat (first | with_reducible exact Sel.head | apply Sel.tail)); done) | ((repeat (first | exact Sel.head | apply Sel.tail)); done))) | apply Ent.takeNil | apply Ent.takeEmp)); (first | done | fail)) (begun_a σ) rfl) ?_
  rintro _ _ _ ⟨_, ⟨rfl, rfl, rfl⟩, rfl⟩
  refine XOA.re (by conv => lhs; dsimp only [List.cons_append, List.nil_append]) ?_
  refine XOA.rd rfl (by first | exact Rd.notp rfl | exact Rd.not rfl) ?_
  refine XOA.nil ?_
  refine DA.thn_normal ?_
  refine XA.condF rfl rfl ?_
  refine XA.skip ?_
  refine DA.thn_normal ?_
  refine XA.seq ?_
  refine XA.seq ?_
  refine XA.region ?_
  refine XOA.rd rfl (Rd.move (by with_reducible (conv => lhs; whnf))) ?_
  refine XOA.rd rfl (Rd.lenSlice (tyrow rfl) rfl rfl) ?_
  refine XOA.rd rfl (Rd.gtr rfl rfl) ?_
  refine XOA.rd rfl (Rd.move (by with_reducible (conv => lhs; whnf))) ?_
  first | (refine XOA.wanted rfl rfl ?_; refine XOA.rd rfl (Rd.move (by with_reducible (conv => lhs; whnf))) ?_) | (refine XOA.wantedP rfl rfl (by first | exact (rfl : decide _ = true) | exact (rfl : decide _ = false) | (refine decide_eq_true ?_; assumption) | (refine decide_eq_false ?_; assumption) | (refine decide_eq_true ?_; omega) | (refine decide_eq_false ?_; omega)) ?_; refine XOA.rd rfl (Rd.move (by with_reducible (conv => lhs; whnf))) ?_) | refine XOA.unwanted rfl rfl rfl rfl ?_ | refine XOA.unwantedP rfl rfl rfl (by first | exact (rfl : decide _ = true) | exact (rfl : decide _ = false) | (refine decide_eq_true ?_; assumption) | (refine decide_eq_false ?_; assumption) | (refine decide_eq_true ?_; omega) | (refine decide_eq_false ?_; omega)) ?_ | refine XOA.unwantedU rfl rfl rfl ?_
  first | refine XOA.wanted rfl rfl ?_ | refine XOA.wantedP rfl rfl (by first | exact (rfl : decide _ = true) | exact (rfl : decide _ = false) | (refine decide_eq_true ?_; assumption) | (refine decide_eq_false ?_; assumption) | (refine decide_eq_true ?_; omega) | (refine decide_eq_false ?_; omega)) ?_
  refine XOA.wr0 rfl (WrA.callE (by (repeat (first | exact Ent.all _ | (apply Ent.take; focus (first | ((repeat (first | with_reducible exact Sel.head | apply Sel.tail)); done) | ((repeat (first | exact Sel.head | apply Sel.tail)); done))) | apply Ent.takeNil | apply Ent.takeEmp)); (first | done | fail)) (has_a σ a) rfl) ?_
  rintro _ _ _ ⟨_, ⟨rfl, rfl, rfl⟩, rfl⟩
  refine XOA.re (by conv => lhs; dsimp only [List.cons_append, List.nil_append]) ?_
  first | (refine XOA.wanted rfl rfl ?_; refine XOA.rd rfl (by first | exact Rd.notp rfl | exact Rd.not rfl) ?_) | (refine XOA.wantedP rfl rfl (by first | exact (rfl : decide _ = true) | exact (rfl : decide _ = false) | (refine decide_eq_true ?_; assumption) | (refine decide_eq_false ?_; assumption) | (refine decide_eq_true ?_; omega) | (refine decide_eq_false ?_; omega)) ?_; refine XOA.rd rfl (by first | exact Rd.notp rfl | exact Rd.not rfl) ?_) | refine XOA.unwanted rfl rfl rfl rfl ?_ | refine XOA.unwantedP rfl rfl rfl (by first | exact (rfl : decide _ = true) | exact (rfl : decide _ = false) | (refine decide_eq_true ?_; assumption) | (refine decide_eq_false ?_; assumption) | (refine decide_eq_true ?_; omega) | (refine decide_eq_false ?_; omega)) ?_ | refine XOA.unwantedU rfl rfl rfl ?_
  refine XOA.rd rfl (by first | exact Rd.pickT rfl (by with_reducible (conv => lhs; whnf)) | exact Rd.pickF rfl (by with_reducible (conv => lhs; whnf)) | exact Rd.pickP rfl (by first | exact (rfl : decide _ = true) | exact (rfl : decide _ = false) | (refine decide_eq_true ?_; assumption) | (refine decide_eq_false ?_; assumption) | (refine decide_eq_true ?_; omega) | (refine decide_eq_false ?_; omega)) (by with_reducible (conv => lhs; whnf))) ?_
  refine XOA.nil ?_
  refine DA.thn_normal ?_
  have hnn : ¬ ¬ (0 ≤ a ∧ a < 34) := fun h => h ha
  refine XA.condF rfl (by first | rfl | exact (by first | exact (rfl : decide _ = true) | exact (rfl : decide _ = false) | (refine decide_eq_true ?_; assumption) | (refine decide_eq_false ?_; assumption) | (refine decide_eq_true ?_; omega) | (refine decide_eq_false ?_; omega))) ?_
  refine XA.skip ?_
  refine DA.thn_normal ?_
  refine XA.seq ?_
  refine XA.region ?_
  refine XOA.wr0 rfl (WrA.callE (by (repeat (first | exact Ent.all _ | (apply Ent.take; focus (first | ((repeat (first | with_reducible exact Sel.head | apply Sel.tail)); done) | ((repeat (first | exact Sel.head | apply Sel.tail)); done))) | apply Ent.takeNil | apply Ent.takeEmp)); (first | done | fail)) (new_a σ) rfl) ?_
  rintro _ _ _ ⟨_, ⟨b, rfl, rfl, rfl⟩, rfl⟩
  refine XOA.re (by conv => lhs; dsimp only [List.cons_append, List.nil_append]) ?_
  refine XOA.rd rfl (Rd.assign (by with_reducible (conv => lhs; whnf))) ?_
  refine XOA.nil ?_
  refine DA.thn_normal ?_
  refine XA.seq ?_
  refine XA.region ?_
  refine XOA.rd rfl (Rd.assign (by with_reducible (conv => lhs; whnf))) ?_
  refine XOA.nil ?_
  refine DA.thn_normal ?_
  refine XA.seq ?_
  refine XA.region ?_
  refine XOA.rd rfl (Rd.buildA (fun _ _ => tyrow) rfl rfl rfl rfl (by first | rfl | assumption | (conv => lhs; simp [bld, splice, Value.cells, *]))) ?_
  refine XOA.wr0 rfl (WrA.alloc (tyrow rfl)) ?_
  rintro _ _ _ ⟨g9, rfl, rfl, rfl⟩
  refine XOA.wr0 rfl (by apply WrA.store; exact tyrow rfl; rfl; (focus (first | (((repeat (first | with_reducible exact Sel.head | apply Sel.tail)); (first | done | fail))))); exact (by with_reducible (conv => lhs; whnf)); exact (by first | exact wv_cells _ | exact agg_cells _ | rfl); exact (by first | rfl | assumption | (simp [*]; (first | done | fail)) | (simp [*]; (first | done | fail))); exact (by first | exact Nat.le_refl _ | exact hfit | decide | (simp [*]; (first | done | fail)) | (simp; omega)); exact (by (repeat (first | assumption | exact ones_ints _ | exact ones_lit rfl | refine ones_cons rfl ?_ | refine ones_append ?_ ?_)); (first | done | fail)); exact (by first | ((with_reducible apply splice_all); (first | rfl | (simp [*]; (first | done | fail)))) | assumption | exact hspl _ | (conv => lhs; simp only [splice, List.take_zero, List.take_succ_cons, List.drop_zero, List.drop_succ_cons, List.length_cons, List.length_nil, List.nil_append, List.cons_append, List.append_nil, List.append_eq, Nat.reduceAdd, Nat.zero_add, Nat.add_zero]) | rfl)) ?_
  rintro _ _ _ ⟨rfl, rfl, rfl⟩
  refine XOA.nil ?_
  refine DA.thn_normal ?_
  refine XA.seq ?_
  refine XA.seq ?_
  refine XA.region ?_
  refine XOA.rd rfl (Rd.assign (by with_reducible (conv => lhs; whnf))) ?_
  refine XOA.nil ?_
  refine DA.thn_normal ?_
  refine XA.block ?_
  have hz : DiskS.new.held a = DiskS.zeros := by
    unfold DiskS.held DiskS.new
    rw [List.getD_eq_getElem?_getD, List.getElem?_replicate]; split <;> rfl
  refine XA.gen [(0, _), (1, _), (2, _), (6, _), (7, _), (8, _), (9, _), (10, _)] ⟨(by with_reducible (conv => lhs; whnf)), (by with_reducible (conv => lhs; whnf)), (by with_reducible (conv => lhs; whnf)), (by with_reducible (conv => lhs; whnf)), (by with_reducible (conv => lhs; whnf)), (by with_reducible (conv => lhs; whnf)), (by with_reducible (conv => lhs; whnf)), (by with_reducible (conv => lhs; whnf)), trivial⟩ (fun δ => ?_)
  dsimp only [List.foldl]
  refine XA.loop [(8, 8), (10, 11), (29, 75)] (fun x : Nat × Option Addr × Nat × Nat × DiskS => [(10, i64 x.1), (8, .slice x.2.1 x.2.2.2.1 x.2.2.1)]) (fun x σ' Γ' => σ = σ' ∧ x.1 ≤ ms.length ∧ x.2.2.2.2.ok ∧ x.2.2.2.2.wait.length ≤ x.1 ∧ (x.2.2.2.2.waits a).length = x.2.2.2.1 ∧ Γ' = [Disk b x.2.2.2.2, blk g9 (ints (x.2.2.2.2.held a)) 32, lst 32 8 (.slice x.2.1 x.2.2.2.1 x.2.2.1) x.2.2.2.1 ((x.2.2.2.2.waits a).flatMap fun w => ints w)]) (fun x => ms.length - x.1) (0, none, 0, 0, DiskS.new) (by exact ⟨rfl, rfl, trivial⟩) (Δ0 := _) ?_ (⟨rfl, Nat.zero_le _, DiskS.ok_new, Nat.le_refl _, rfl, rfl⟩) ?_
  · rw [hz]; exact (by (repeat (first | exact Ent.nil _ | (apply Ent.sel; focus (first | ((repeat (first | with_reducible exact Sel.head | apply Sel.tail)); done) | ((repeat (first | exact Sel.head | apply Sel.tail)); done))) | apply Ent.selNil | apply Ent.selEmp)); (first | done | fail))
  rintro ⟨k, pw, cw, nw, d⟩ δ _ _ ⟨rfl, hk, hok, hwl, hnw, rfl⟩
  dsimp only [ovr, List.foldl]
  have hnw : (d.waits a).length = nw := hnw
  have hk : k ≤ ms.length := hk
  have hok : d.ok := hok
  have hwl : d.wait.length ≤ k := hwl
  have hwl2 := waits_len d a
  have hh8 := held8 hok a
  refine XA.seq ?_
  refine XA.seq ?_
  refine XA.region ?_
  refine XOA.rd rfl (Rd.move (by with_reducible (conv => lhs; whnf))) ?_
  refine XOA.rd rfl (Rd.move (by with_reducible (conv => lhs; whnf))) ?_
  refine XOA.rd rfl (Rd.lenSlice (tyrow rfl) rfl rfl) ?_
  refine XOA.rd rfl (Rd.lss rfl rfl) ?_
  refine XOA.nil ?_
  refine DA.thn_normal ?_
  refine XA.condp rfl (fun hlt => ?_) (fun hlt => ?_)
  · have hlt : k < ms.length := by omega
    obtain ⟨q, hq⟩ : ∃ q, ms[k]? = some q := ⟨_, List.getElem?_eq_getElem hlt⟩
    obtain ⟨g, o, row, rfl, ⟨rfl, hq8, hqm⟩, -, hrow⟩ := hms.at hq
    have hql : q.cells.length = 11 := by simp [Move.cells, hq8]
    have hc2 : (q.cells.drop 2).take 8 = ints q.w := by simp [Move.cells, ← hq8]
    have hc3 : q.cells[10]? = some (.int .u64 q.mask) := by simp [Move.cells, hq8]
    refine XA.skip ?_
    refine DA.thn_normal ?_
    refine XA.seq ?_
    refine XA.block ?_
    refine XA.seq ?_
    refine XA.region ?_
    refine XOA.rd rfl (Rd.move (by with_reducible (conv => lhs; whnf))) ?_
    refine XOA.rd rfl (Rd.move (by with_reducible (conv => lhs; whnf))) ?_
    refine XOA.rd rfl (by apply Rd.indexSlice; exact tyrow rfl; rfl; exact tyrow rfl; rfl; rfl; exact (by first | omega | decide | (simp; omega)); exact (by with_reducible (conv => lhs; whnf)); exact (by first | (conv => lhs; simp only [Nat.reduceAdd, Nat.zero_add, Nat.add_zero, Nat.reduceMul, Nat.mul_one, Int.toNat_natCast, Int.reduceToNat, Nat.zero_mul]) | rfl)) ?_
    refine XOA.rd rfl (Rd.load rfl (by first | (exact Ld.atBlk (tyrow rfl) rfl (by ((repeat (first | with_reducible exact Sel.head | apply Sel.tail)); (first | done | fail))) rfl (by first | exact take0 (by first | rfl | assumption | (simp [*]; (first | done | fail)) | (simp [*]; (first | done | fail))) | assumption | exact take_app (by first | rfl | assumption | (simp [*]; (first | done | fail)) | (simp [*]; (first | done | fail))) | (conv => lhs; simp only [List.drop_succ_cons, List.drop_zero, List.take_succ_cons, List.take_zero])) (by first | rfl | assumption | (simp [*]; (first | done | fail)) | (simp [*]; (first | done | fail)))) | (exact Ld.at (tyrow rfl) rfl (At.per (by assumption)) (by first | rfl | assumption | (simp [*]; (first | done | fail)) | (simp [*]; (first | done | fail)))) | (exact Ld.atLst (tyrow rfl) rfl (by ((repeat (first | with_reducible exact Sel.head | apply Sel.tail)); (first | done | fail))) rfl (by first | exact take0 (by first | rfl | assumption | (simp [*]; (first | done | fail)) | (simp [*]; (first | done | fail))) | assumption | exact take_app (by first | rfl | assumption | (simp [*]; (first | done | fail)) | (simp [*]; (first | done | fail))) | (conv => lhs; simp only [List.drop_succ_cons, List.drop_zero, List.take_succ_cons, List.take_zero])) (by first | rfl | assumption | (simp [*]; (first | done | fail)) | (simp [*]; (first | done | fail)))))) ?_
    refine XOA.wr0 rfl (WrA.alloc (tyrow rfl)) ?_
    rintro _ _ _ ⟨g11, rfl, rfl, rfl⟩
    refine XOA.wr0 rfl (by apply WrA.store; exact tyrow rfl; rfl; (focus (first | (((repeat (first | with_reducible exact Sel.head | apply Sel.tail)); (first | done | fail))))); exact (by with_reducible (conv => lhs; whnf)); exact (by first | exact wv_cells _ | exact agg_cells _ | rfl); exact (by first | rfl | assumption | (simp [*]; (first | done | fail)) | (simp [*]; (first | done | fail))); exact (by first | exact Nat.le_refl _ | exact hfit | decide | (simp [*]; (first | done | fail)) | (simp; omega)); exact (by (repeat (first | assumption | exact ones_ints _ | exact ones_lit rfl | refine ones_cons rfl ?_ | refine ones_append ?_ ?_)); (first | done | fail)); exact (by first | ((with_reducible apply splice_all); (first | rfl | (simp [*]; (first | done | fail)))) | assumption | exact hspl _ | (conv => lhs; simp only [splice, List.take_zero, List.take_succ_cons, List.drop_zero, List.drop_succ_cons, List.length_cons, List.length_nil, List.nil_append, List.cons_append, List.append_nil, List.append_eq, Nat.reduceAdd, Nat.zero_add, Nat.add_zero]) | rfl)) ?_
    rintro _ _ _ ⟨rfl, rfl, rfl⟩
    refine XOA.nil ?_
    refine DA.thn_normal ?_
    refine XA.seq ?_
    refine XA.region ?_
    refine XOA.rd rfl (Rd.fieldAddr (tyrow rfl) rfl rfl (tyrow rfl) rfl rfl (by first | (conv => lhs; simp only [Nat.reduceAdd, Nat.zero_add, Nat.add_zero, Nat.reduceMul, Nat.mul_one, Int.toNat_natCast, Int.reduceToNat, Nat.zero_mul]) | rfl)) ?_
    refine XOA.rd rfl (Rd.load rfl (Ld.atC (tyrow rfl) rfl (by first | (exact AtC.blk (by ((repeat (first | with_reducible exact Sel.head | apply Sel.tail)); (first | done | fail))) (by first | rfl | assumption)) | (exact AtC.per (by first | assumption)) | (exact AtC.lst (by ((repeat (first | with_reducible exact Sel.head | apply Sel.tail)); (first | done | fail))) (by first | rfl | assumption))))) ?_
    refine XOA.nil ?_
    refine DA.thn_normal ?_
    refine XA.block ?_
    refine XA.seq ?_
    refine XA.region ?_
    refine XOA.rd rfl (Rd.eql rfl rfl) ?_
    refine XOA.rd rfl (Rd.assign (by with_reducible (conv => lhs; whnf))) ?_
    refine XOA.nil ?_
    refine DA.thn_normal ?_
    refine XA.condp rfl (fun k0 => ?_) (fun k0 => ?_)
    · by_cases hb : 0 ≤ q.at_ ∧ q.at_ < 34
      · refine XA.seq ?_
        refine XA.region ?_
        refine XOA.rd rfl (Rd.move (by with_reducible (conv => lhs; whnf))) ?_
        refine XOA.rd rfl (Rd.fieldAddr (tyrow rfl) rfl rfl (tyrow rfl) rfl rfl (by first | (conv => lhs; simp only [Nat.reduceAdd, Nat.zero_add, Nat.add_zero, Nat.reduceMul, Nat.mul_one, Int.toNat_natCast, Int.reduceToNat, Nat.zero_mul]) | rfl)) ?_
        refine XOA.rd rfl (Rd.load rfl (Ld.atC (tyrow rfl) rfl (by first | (exact AtC.blk (by ((repeat (first | with_reducible exact Sel.head | apply Sel.tail)); (first | done | fail))) (by first | rfl | assumption)) | (exact AtC.per (by first | assumption)) | (exact AtC.lst (by ((repeat (first | with_reducible exact Sel.head | apply Sel.tail)); (first | done | fail))) (by first | rfl | assumption))))) ?_
        refine XOA.rd rfl (Rd.fieldAddr (tyrow rfl) rfl rfl (tyrow rfl) rfl rfl (by first | (conv => lhs; simp only [Nat.reduceAdd, Nat.zero_add, Nat.add_zero, Nat.reduceMul, Nat.mul_one, Int.toNat_natCast, Int.reduceToNat, Nat.zero_mul]) | rfl)) ?_
        refine XOA.rd rfl (Rd.load rfl (by first | (exact Ld.atBlk (tyrow rfl) rfl (by ((repeat (first | with_reducible exact Sel.head | apply Sel.tail)); (first | done | fail))) rfl (by first | exact take0 (by first | rfl | assumption | (simp [*]; (first | done | fail)) | (simp [*]; (first | done | fail))) | assumption | exact take_app (by first | rfl | assumption | (simp [*]; (first | done | fail)) | (simp [*]; (first | done | fail))) | (conv => lhs; simp only [List.drop_succ_cons, List.drop_zero, List.take_succ_cons, List.take_zero])) (by first | rfl | assumption | (simp [*]; (first | done | fail)) | (simp [*]; (first | done | fail)))) | (exact Ld.at (tyrow rfl) rfl (At.per (by assumption)) (by first | rfl | assumption | (simp [*]; (first | done | fail)) | (simp [*]; (first | done | fail)))) | (exact Ld.atLst (tyrow rfl) rfl (by ((repeat (first | with_reducible exact Sel.head | apply Sel.tail)); (first | done | fail))) rfl (by first | exact take0 (by first | rfl | assumption | (simp [*]; (first | done | fail)) | (simp [*]; (first | done | fail))) | assumption | exact take_app (by first | rfl | assumption | (simp [*]; (first | done | fail)) | (simp [*]; (first | done | fail))) | (conv => lhs; simp only [List.drop_succ_cons, List.drop_zero, List.take_succ_cons, List.take_zero])) (by first | rfl | assumption | (simp [*]; (first | done | fail)) | (simp [*]; (first | done | fail)))))) ?_
        refine XOA.wr0 rfl (WrA.callE (by (repeat (first | exact Ent.all _ | (apply Ent.take; focus (first | ((repeat (first | with_reducible exact Sel.head | apply Sel.tail)); done) | ((repeat (first | exact Sel.head | apply Sel.tail)); done))) | apply Ent.takeNil | apply Ent.takeEmp)); (first | done | fail)) (write_a σ b d q.at_ q.w hq8 (by omega)) rfl) ?_
        rintro _ _ _ ⟨_, ⟨rfl, rfl, rfl⟩, rfl⟩
        refine XOA.re (by conv => lhs; dsimp only [List.cons_append, List.nil_append]) ?_
        refine XOA.rd rfl (Rd.move (by with_reducible (conv => lhs; whnf))) ?_
        first | (refine XOA.wanted rfl rfl ?_; refine XOA.rd rfl (Rd.fieldAddr (tyrow rfl) rfl rfl (tyrow rfl) rfl rfl (by first | (conv => lhs; simp only [Nat.reduceAdd, Nat.zero_add, Nat.add_zero, Nat.reduceMul, Nat.mul_one, Int.toNat_natCast, Int.reduceToNat, Nat.zero_mul]) | rfl)) ?_) | (refine XOA.wantedP rfl rfl (by first | exact (rfl : decide _ = true) | exact (rfl : decide _ = false) | (refine decide_eq_true ?_; assumption) | (refine decide_eq_false ?_; assumption) | (refine decide_eq_true ?_; omega) | (refine decide_eq_false ?_; omega)) ?_; refine XOA.rd rfl (Rd.fieldAddr (tyrow rfl) rfl rfl (tyrow rfl) rfl rfl (by first | (conv => lhs; simp only [Nat.reduceAdd, Nat.zero_add, Nat.add_zero, Nat.reduceMul, Nat.mul_one, Int.toNat_natCast, Int.reduceToNat, Nat.zero_mul]) | rfl)) ?_) | refine XOA.unwanted rfl rfl rfl rfl ?_ | refine XOA.unwantedP rfl rfl rfl (by first | exact (rfl : decide _ = true) | exact (rfl : decide _ = false) | (refine decide_eq_true ?_; assumption) | (refine decide_eq_false ?_; assumption) | (refine decide_eq_true ?_; omega) | (refine decide_eq_false ?_; omega)) ?_ | refine XOA.unwantedU rfl rfl rfl ?_
        first | (refine XOA.wanted rfl rfl ?_; refine XOA.rd rfl (Rd.load rfl (Ld.atC (tyrow rfl) rfl (by first | (exact AtC.blk (by ((repeat (first | with_reducible exact Sel.head | apply Sel.tail)); (first | done | fail))) (by first | rfl | assumption)) | (exact AtC.per (by first | assumption)) | (exact AtC.lst (by ((repeat (first | with_reducible exact Sel.head | apply Sel.tail)); (first | done | fail))) (by first | rfl | assumption))))) ?_) | (refine XOA.wantedP rfl rfl (by first | exact (rfl : decide _ = true) | exact (rfl : decide _ = false) | (refine decide_eq_true ?_; assumption) | (refine decide_eq_false ?_; assumption) | (refine decide_eq_true ?_; omega) | (refine decide_eq_false ?_; omega)) ?_; refine XOA.rd rfl (Rd.load rfl (Ld.atC (tyrow rfl) rfl (by first | (exact AtC.blk (by ((repeat (first | with_reducible exact Sel.head | apply Sel.tail)); (first | done | fail))) (by first | rfl | assumption)) | (exact AtC.per (by first | assumption)) | (exact AtC.lst (by ((repeat (first | with_reducible exact Sel.head | apply Sel.tail)); (first | done | fail))) (by first | rfl | assumption))))) ?_) | refine XOA.unwanted rfl rfl rfl rfl ?_ | refine XOA.unwantedP rfl rfl rfl (by first | exact (rfl : decide _ = true) | exact (rfl : decide _ = false) | (refine decide_eq_true ?_; assumption) | (refine decide_eq_false ?_; assumption) | (refine decide_eq_true ?_; omega) | (refine decide_eq_false ?_; omega)) ?_ | refine XOA.unwantedU rfl rfl rfl ?_
        first | (refine XOA.wanted rfl rfl ?_; refine XOA.rd rfl (Rd.move (by with_reducible (conv => lhs; whnf))) ?_) | (refine XOA.wantedP rfl rfl (by first | exact (rfl : decide _ = true) | exact (rfl : decide _ = false) | (refine decide_eq_true ?_; assumption) | (refine decide_eq_false ?_; assumption) | (refine decide_eq_true ?_; omega) | (refine decide_eq_false ?_; omega)) ?_; refine XOA.rd rfl (Rd.move (by with_reducible (conv => lhs; whnf))) ?_) | refine XOA.unwanted rfl rfl rfl rfl ?_ | refine XOA.unwantedP rfl rfl rfl (by first | exact (rfl : decide _ = true) | exact (rfl : decide _ = false) | (refine decide_eq_true ?_; assumption) | (refine decide_eq_false ?_; assumption) | (refine decide_eq_true ?_; omega) | (refine decide_eq_false ?_; omega)) ?_ | refine XOA.unwantedU rfl rfl rfl ?_
        first | (refine XOA.wanted rfl rfl ?_; refine XOA.rd rfl (Rd.eql rfl rfl) ?_) | (refine XOA.wantedP rfl rfl (by first | exact (rfl : decide _ = true) | exact (rfl : decide _ = false) | (refine decide_eq_true ?_; assumption) | (refine decide_eq_false ?_; assumption) | (refine decide_eq_true ?_; omega) | (refine decide_eq_false ?_; omega)) ?_; refine XOA.rd rfl (Rd.eql rfl rfl) ?_) | refine XOA.unwanted rfl rfl rfl rfl ?_ | refine XOA.unwantedP rfl rfl rfl (by first | exact (rfl : decide _ = true) | exact (rfl : decide _ = false) | (refine decide_eq_true ?_; assumption) | (refine decide_eq_false ?_; assumption) | (refine decide_eq_true ?_; omega) | (refine decide_eq_false ?_; omega)) ?_ | refine XOA.unwantedU rfl rfl rfl ?_
        refine XOA.rd rfl (by first | exact Rd.pickT rfl (by with_reducible (conv => lhs; whnf)) | exact Rd.pickF rfl (by with_reducible (conv => lhs; whnf)) | exact Rd.pickP rfl (by first | exact (rfl : decide _ = true) | exact (rfl : decide _ = false) | (refine decide_eq_true ?_; assumption) | (refine decide_eq_false ?_; assumption) | (refine decide_eq_true ?_; omega) | (refine decide_eq_false ?_; omega)) (by with_reducible (conv => lhs; whnf))) ?_
        refine XOA.nil ?_
        refine DA.thn_normal ?_
        refine XA.condp rfl (fun he => ?_) (fun he => ?_)
        · refine XA.region ?_
          refine XOA.rd rfl (Rd.move (by with_reducible (conv => lhs; whnf))) ?_
          refine XOA.rd rfl (Rd.fieldAddr (tyrow rfl) rfl rfl (tyrow rfl) rfl rfl (by first | (conv => lhs; simp only [Nat.reduceAdd, Nat.zero_add, Nat.add_zero, Nat.reduceMul, Nat.mul_one, Int.toNat_natCast, Int.reduceToNat, Nat.zero_mul]) | rfl)) ?_
          refine XOA.rd rfl (Rd.load rfl (by first | (exact Ld.atBlk (tyrow rfl) rfl (by ((repeat (first | with_reducible exact Sel.head | apply Sel.tail)); (first | done | fail))) rfl (by first | exact take0 (by first | rfl | assumption | (simp [*]; (first | done | fail)) | (simp [*]; (first | done | fail))) | assumption | exact take_app (by first | rfl | assumption | (simp [*]; (first | done | fail)) | (simp [*]; (first | done | fail))) | (conv => lhs; simp only [List.drop_succ_cons, List.drop_zero, List.take_succ_cons, List.take_zero])) (by first | rfl | assumption | (simp [*]; (first | done | fail)) | (simp [*]; (first | done | fail)))) | (exact Ld.at (tyrow rfl) rfl (At.per (by assumption)) (by first | rfl | assumption | (simp [*]; (first | done | fail)) | (simp [*]; (first | done | fail)))) | (exact Ld.atLst (tyrow rfl) rfl (by ((repeat (first | with_reducible exact Sel.head | apply Sel.tail)); (first | done | fail))) rfl (by first | exact take0 (by first | rfl | assumption | (simp [*]; (first | done | fail)) | (simp [*]; (first | done | fail))) | assumption | exact take_app (by first | rfl | assumption | (simp [*]; (first | done | fail)) | (simp [*]; (first | done | fail))) | (conv => lhs; simp only [List.drop_succ_cons, List.drop_zero, List.take_succ_cons, List.take_zero])) (by first | rfl | assumption | (simp [*]; (first | done | fail)) | (simp [*]; (first | done | fail)))))) ?_
          refine XOA.wr0 rfl (WrA.slice1 (tyrow rfl) rfl (tyrow rfl) (by with_reducible (conv => lhs; whnf)) (by first | exact wv_cells _ | exact agg_cells _ | rfl) (by first | rfl | assumption | (simp [*]; (first | done | fail)) | (simp [*]; (first | done | fail))) rfl (by decide) rfl) ?_
          rintro _ _ _ ⟨g58, rfl, rfl, rfl⟩
          refine XOA.wr0 rfl (WrA.append1 (tyrow rfl) rfl (tyrow rfl) rfl rfl rfl (by ((repeat (first | with_reducible exact Sel.head | apply Sel.tail)); (first | done | fail))) (by ((repeat (first | with_reducible exact Sel.head | apply Sel.tail)); (first | done | fail))) (by first | rfl | assumption | (simp [*]; (first | done | fail)) | (simp [*]; (first | done | fail))) (by (repeat (first | assumption | exact ones_ints _ | exact ones_lit rfl | refine ones_cons rfl ?_ | refine ones_append ?_ ?_)); (first | done | fail)) (by simp only [maxLen]; omega) (by first | omega | (simp only []; omega))) ?_
          rintro _ _ _ ⟨p59, c59, rfl, rfl, rfl⟩
          refine XOA.rd rfl (Rd.assign (by with_reducible (conv => lhs; whnf))) ?_
          refine XOA.nil ?_
          refine DA.inb_normal ?_
          refine DA.inb_normal ?_
          refine DA.thn_normal ?_
          refine XA.region ?_
          refine XOA.rd rfl (Rd.move (by with_reducible (conv => lhs; whnf))) ?_
          refine XOA.rd rfl (by first | exact Rd.addi rfl rfl rfl (by omega) | exact Rd.add rfl rfl) ?_
          refine XOA.rd rfl (Rd.assign (by with_reducible (conv => lhs; whnf))) ?_
          refine XOA.nil ?_
          refine DA.thn_normal ?_
          have e1 : (d.write q.at_ q.w).waits a = d.waits a ++ [q.w] := by rw [write_waits ha, if_pos ⟨hb, he⟩]
          have hmt := hok.write (a := q.at_) hq8
          refine ⟨(Keep.upd (Keep.upd (Keep.upd (Keep.upd (Keep.updO (Keep.updO (Keep.upd (Keep.upd (Keep.upd (Keep.upd (Keep.upd (Keep.upd (Keep.upd (Keep.upd (Keep.upd (Keep.updO (Keep.upd (Keep.upd (Keep.upd (Keep.upd (Keep.upd (Keep.upd (Keep.upd (Keep.upd (Keep.upd (Keep.updN (Keep.updO (Keep.upd (Keep.upd (Keep.upd (Keep.upd (Keep.upd (Keep.upd (Keep.upd (Keep.upd (Keep.upd (Keep.upd (Keep.hav (Keep.hav (Keep.hav (Keep.refl _ _) rfl) rfl) rfl) rfl) rfl) rfl) rfl) rfl) rfl) rfl) rfl) rfl) rfl) rfl)) rfl) rfl) rfl) rfl) rfl) rfl) rfl) rfl) rfl) rfl) rfl) rfl) rfl) rfl) rfl) rfl) rfl) rfl) rfl) rfl) rfl) rfl) rfl) rfl) rfl), (k + 1, p59, c59, nw + 1, d.write q.at_ q.w), _, (by (repeat (first | exact trivial | refine ⟨rfl, ?_⟩ | refine ⟨Eq.trans rfl (congrArg Value.bool hmat.symm), ?_⟩)); (first | done | fail)), ?_, ⟨rfl, hlt, hmt, Nat.le_trans (write_len _ _ _) (by simp only; omega), by rw [e1]; simp [hnw], rfl⟩, (by simp only; omega)⟩
          · rw [e1, write_held]; simp only [List.flatMap_append, List.flatMap_cons, List.flatMap_nil, List.append_nil]; exact (by (repeat (first | exact Ent.nil _ | (apply Ent.sel; focus (first | ((repeat (first | with_reducible exact Sel.head | apply Sel.tail)); done) | ((repeat (first | exact Sel.head | apply Sel.tail)); done))) | apply Ent.selNil | apply Ent.selEmp)); (first | done | fail))
        · refine XA.skip ?_
          refine DA.inb_normal ?_
          refine DA.inb_normal ?_
          refine DA.thn_normal ?_
          refine XA.region ?_
          refine XOA.rd rfl (Rd.move (by with_reducible (conv => lhs; whnf))) ?_
          refine XOA.rd rfl (by first | exact Rd.addi rfl rfl rfl (by omega) | exact Rd.add rfl rfl) ?_
          refine XOA.rd rfl (Rd.assign (by with_reducible (conv => lhs; whnf))) ?_
          refine XOA.nil ?_
          refine DA.thn_normal ?_
          have e1 : (d.write q.at_ q.w).waits a = d.waits a := by rw [write_waits ha, if_neg (fun h => he h.2)]
          have hmt := hok.write (a := q.at_) hq8
          refine ⟨(Keep.upd (Keep.upd (Keep.upd (Keep.upd (Keep.upd (Keep.upd (Keep.upd (Keep.upd (Keep.upd (Keep.updO (Keep.upd (Keep.upd (Keep.upd (Keep.upd (Keep.upd (Keep.upd (Keep.upd (Keep.upd (Keep.upd (Keep.updN (Keep.updO (Keep.upd (Keep.upd (Keep.upd (Keep.upd (Keep.upd (Keep.upd (Keep.upd (Keep.upd (Keep.upd (Keep.upd (Keep.hav (Keep.hav (Keep.hav (Keep.refl _ _) rfl) rfl) rfl) rfl) rfl) rfl) rfl) rfl) rfl) rfl) rfl) rfl) rfl) rfl)) rfl) rfl) rfl) rfl) rfl) rfl) rfl) rfl) rfl) rfl) rfl) rfl) rfl) rfl) rfl) rfl) rfl) rfl) rfl), (k + 1, pw, cw, nw, d.write q.at_ q.w), _, (by (repeat (first | exact trivial | refine ⟨rfl, ?_⟩ | refine ⟨Eq.trans rfl (congrArg Value.bool hmat.symm), ?_⟩)); (first | done | fail)), ?_, ⟨rfl, hlt, hmt, Nat.le_trans (write_len _ _ _) (by simp only; omega), by rw [e1]; exact hnw, rfl⟩, (by simp only; omega)⟩
          · rw [e1, write_held]; exact (by (repeat (first | exact Ent.nil _ | (apply Ent.sel; focus (first | ((repeat (first | with_reducible exact Sel.head | apply Sel.tail)); done) | ((repeat (first | exact Sel.head | apply Sel.tail)); done))) | apply Ent.selNil | apply Ent.selEmp)); (first | done | fail))
      · refine XA.seq ?_
        refine XA.region ?_
        refine XOA.rd rfl (Rd.move (by with_reducible (conv => lhs; whnf))) ?_
        refine XOA.rd rfl (Rd.fieldAddr (tyrow rfl) rfl rfl (tyrow rfl) rfl rfl (by first | (conv => lhs; simp only [Nat.reduceAdd, Nat.zero_add, Nat.add_zero, Nat.reduceMul, Nat.mul_one, Int.toNat_natCast, Int.reduceToNat, Nat.zero_mul]) | rfl)) ?_
        refine XOA.rd rfl (Rd.load rfl (Ld.atC (tyrow rfl) rfl (by first | (exact AtC.blk (by ((repeat (first | with_reducible exact Sel.head | apply Sel.tail)); (first | done | fail))) (by first | rfl | assumption)) | (exact AtC.per (by first | assumption)) | (exact AtC.lst (by ((repeat (first | with_reducible exact Sel.head | apply Sel.tail)); (first | done | fail))) (by first | rfl | assumption))))) ?_
        refine XOA.rd rfl (Rd.fieldAddr (tyrow rfl) rfl rfl (tyrow rfl) rfl rfl (by first | (conv => lhs; simp only [Nat.reduceAdd, Nat.zero_add, Nat.add_zero, Nat.reduceMul, Nat.mul_one, Int.toNat_natCast, Int.reduceToNat, Nat.zero_mul]) | rfl)) ?_
        refine XOA.rd rfl (Rd.load rfl (by first | (exact Ld.atBlk (tyrow rfl) rfl (by ((repeat (first | with_reducible exact Sel.head | apply Sel.tail)); (first | done | fail))) rfl (by first | exact take0 (by first | rfl | assumption | (simp [*]; (first | done | fail)) | (simp [*]; (first | done | fail))) | assumption | exact take_app (by first | rfl | assumption | (simp [*]; (first | done | fail)) | (simp [*]; (first | done | fail))) | (conv => lhs; simp only [List.drop_succ_cons, List.drop_zero, List.take_succ_cons, List.take_zero])) (by first | rfl | assumption | (simp [*]; (first | done | fail)) | (simp [*]; (first | done | fail)))) | (exact Ld.at (tyrow rfl) rfl (At.per (by assumption)) (by first | rfl | assumption | (simp [*]; (first | done | fail)) | (simp [*]; (first | done | fail)))) | (exact Ld.atLst (tyrow rfl) rfl (by ((repeat (first | with_reducible exact Sel.head | apply Sel.tail)); (first | done | fail))) rfl (by first | exact take0 (by first | rfl | assumption | (simp [*]; (first | done | fail)) | (simp [*]; (first | done | fail))) | assumption | exact take_app (by first | rfl | assumption | (simp [*]; (first | done | fail)) | (simp [*]; (first | done | fail))) | (conv => lhs; simp only [List.drop_succ_cons, List.drop_zero, List.take_succ_cons, List.take_zero])) (by first | rfl | assumption | (simp [*]; (first | done | fail)) | (simp [*]; (first | done | fail)))))) ?_
        refine XOA.wr0 rfl (WrA.callE (by (repeat (first | exact Ent.all _ | (apply Ent.take; focus (first | ((repeat (first | with_reducible exact Sel.head | apply Sel.tail)); done) | ((repeat (first | exact Sel.head | apply Sel.tail)); done))) | apply Ent.takeNil | apply Ent.takeEmp)); (first | done | fail)) (write_a σ b d q.at_ q.w hq8 (by omega)) rfl) ?_
        rintro _ _ _ ⟨_, ⟨rfl, rfl, rfl⟩, rfl⟩
        refine XOA.re (by conv => lhs; dsimp only [List.cons_append, List.nil_append]) ?_
        refine XOA.rd rfl (Rd.move (by with_reducible (conv => lhs; whnf))) ?_
        first | (refine XOA.wanted rfl rfl ?_; refine XOA.rd rfl (Rd.fieldAddr (tyrow rfl) rfl rfl (tyrow rfl) rfl rfl (by first | (conv => lhs; simp only [Nat.reduceAdd, Nat.zero_add, Nat.add_zero, Nat.reduceMul, Nat.mul_one, Int.toNat_natCast, Int.reduceToNat, Nat.zero_mul]) | rfl)) ?_) | (refine XOA.wantedP rfl rfl (by first | exact (rfl : decide _ = true) | exact (rfl : decide _ = false) | (refine decide_eq_true ?_; assumption) | (refine decide_eq_false ?_; assumption) | (refine decide_eq_true ?_; omega) | (refine decide_eq_false ?_; omega)) ?_; refine XOA.rd rfl (Rd.fieldAddr (tyrow rfl) rfl rfl (tyrow rfl) rfl rfl (by first | (conv => lhs; simp only [Nat.reduceAdd, Nat.zero_add, Nat.add_zero, Nat.reduceMul, Nat.mul_one, Int.toNat_natCast, Int.reduceToNat, Nat.zero_mul]) | rfl)) ?_) | refine XOA.unwanted rfl rfl rfl rfl ?_ | refine XOA.unwantedP rfl rfl rfl (by first | exact (rfl : decide _ = true) | exact (rfl : decide _ = false) | (refine decide_eq_true ?_; assumption) | (refine decide_eq_false ?_; assumption) | (refine decide_eq_true ?_; omega) | (refine decide_eq_false ?_; omega)) ?_ | refine XOA.unwantedU rfl rfl rfl ?_
        first | (refine XOA.wanted rfl rfl ?_; refine XOA.rd rfl (Rd.load rfl (Ld.atC (tyrow rfl) rfl (by first | (exact AtC.blk (by ((repeat (first | with_reducible exact Sel.head | apply Sel.tail)); (first | done | fail))) (by first | rfl | assumption)) | (exact AtC.per (by first | assumption)) | (exact AtC.lst (by ((repeat (first | with_reducible exact Sel.head | apply Sel.tail)); (first | done | fail))) (by first | rfl | assumption))))) ?_) | (refine XOA.wantedP rfl rfl (by first | exact (rfl : decide _ = true) | exact (rfl : decide _ = false) | (refine decide_eq_true ?_; assumption) | (refine decide_eq_false ?_; assumption) | (refine decide_eq_true ?_; omega) | (refine decide_eq_false ?_; omega)) ?_; refine XOA.rd rfl (Rd.load rfl (Ld.atC (tyrow rfl) rfl (by first | (exact AtC.blk (by ((repeat (first | with_reducible exact Sel.head | apply Sel.tail)); (first | done | fail))) (by first | rfl | assumption)) | (exact AtC.per (by first | assumption)) | (exact AtC.lst (by ((repeat (first | with_reducible exact Sel.head | apply Sel.tail)); (first | done | fail))) (by first | rfl | assumption))))) ?_) | refine XOA.unwanted rfl rfl rfl rfl ?_ | refine XOA.unwantedP rfl rfl rfl (by first | exact (rfl : decide _ = true) | exact (rfl : decide _ = false) | (refine decide_eq_true ?_; assumption) | (refine decide_eq_false ?_; assumption) | (refine decide_eq_true ?_; omega) | (refine decide_eq_false ?_; omega)) ?_ | refine XOA.unwantedU rfl rfl rfl ?_
        first | (refine XOA.wanted rfl rfl ?_; refine XOA.rd rfl (Rd.move (by with_reducible (conv => lhs; whnf))) ?_) | (refine XOA.wantedP rfl rfl (by first | exact (rfl : decide _ = true) | exact (rfl : decide _ = false) | (refine decide_eq_true ?_; assumption) | (refine decide_eq_false ?_; assumption) | (refine decide_eq_true ?_; omega) | (refine decide_eq_false ?_; omega)) ?_; refine XOA.rd rfl (Rd.move (by with_reducible (conv => lhs; whnf))) ?_) | refine XOA.unwanted rfl rfl rfl rfl ?_ | refine XOA.unwantedP rfl rfl rfl (by first | exact (rfl : decide _ = true) | exact (rfl : decide _ = false) | (refine decide_eq_true ?_; assumption) | (refine decide_eq_false ?_; assumption) | (refine decide_eq_true ?_; omega) | (refine decide_eq_false ?_; omega)) ?_ | refine XOA.unwantedU rfl rfl rfl ?_
        first | (refine XOA.wanted rfl rfl ?_; refine XOA.rd rfl (Rd.eql rfl rfl) ?_) | (refine XOA.wantedP rfl rfl (by first | exact (rfl : decide _ = true) | exact (rfl : decide _ = false) | (refine decide_eq_true ?_; assumption) | (refine decide_eq_false ?_; assumption) | (refine decide_eq_true ?_; omega) | (refine decide_eq_false ?_; omega)) ?_; refine XOA.rd rfl (Rd.eql rfl rfl) ?_) | refine XOA.unwanted rfl rfl rfl rfl ?_ | refine XOA.unwantedP rfl rfl rfl (by first | exact (rfl : decide _ = true) | exact (rfl : decide _ = false) | (refine decide_eq_true ?_; assumption) | (refine decide_eq_false ?_; assumption) | (refine decide_eq_true ?_; omega) | (refine decide_eq_false ?_; omega)) ?_ | refine XOA.unwantedU rfl rfl rfl ?_
        refine XOA.rd rfl (by first | exact Rd.pickT rfl (by with_reducible (conv => lhs; whnf)) | exact Rd.pickF rfl (by with_reducible (conv => lhs; whnf)) | exact Rd.pickP rfl (by first | exact (rfl : decide _ = true) | exact (rfl : decide _ = false) | (refine decide_eq_true ?_; assumption) | (refine decide_eq_false ?_; assumption) | (refine decide_eq_true ?_; omega) | (refine decide_eq_false ?_; omega)) (by with_reducible (conv => lhs; whnf))) ?_
        refine XOA.nil ?_
        refine DA.thn_normal ?_
        refine XA.condF rfl (by first | rfl | exact (by first | exact (rfl : decide _ = true) | exact (rfl : decide _ = false) | (refine decide_eq_true ?_; assumption) | (refine decide_eq_false ?_; assumption) | (refine decide_eq_true ?_; omega) | (refine decide_eq_false ?_; omega))) ?_
        refine XA.skip ?_
        refine DA.inb_normal ?_
        refine DA.inb_normal ?_
        refine DA.thn_normal ?_
        refine XA.region ?_
        refine XOA.rd rfl (Rd.move (by with_reducible (conv => lhs; whnf))) ?_
        refine XOA.rd rfl (by first | exact Rd.addi rfl rfl rfl (by omega) | exact Rd.add rfl rfl) ?_
        refine XOA.rd rfl (Rd.assign (by with_reducible (conv => lhs; whnf))) ?_
        refine XOA.nil ?_
        refine DA.thn_normal ?_
        have e1 : (d.write q.at_ q.w).waits a = d.waits a := by rw [write_waits ha, if_neg (fun h => hb h.1)]
        have hmt := hok.write (a := q.at_) hq8
        refine ⟨(Keep.upd (Keep.upd (Keep.upd (Keep.upd (Keep.upd (Keep.upd (Keep.upd (Keep.upd (Keep.upd (Keep.updO (Keep.upd (Keep.upd (Keep.upd (Keep.upd (Keep.upd (Keep.upd (Keep.upd (Keep.upd (Keep.upd (Keep.updN (Keep.updO (Keep.upd (Keep.upd (Keep.upd (Keep.upd (Keep.upd (Keep.upd (Keep.upd (Keep.upd (Keep.upd (Keep.upd (Keep.hav (Keep.hav (Keep.hav (Keep.refl _ _) rfl) rfl) rfl) rfl) rfl) rfl) rfl) rfl) rfl) rfl) rfl) rfl) rfl) rfl)) rfl) rfl) rfl) rfl) rfl) rfl) rfl) rfl) rfl) rfl) rfl) rfl) rfl) rfl) rfl) rfl) rfl) rfl) rfl), (k + 1, pw, cw, nw, d.write q.at_ q.w), _, (by (repeat (first | exact trivial | refine ⟨rfl, ?_⟩ | refine ⟨Eq.trans rfl (congrArg Value.bool hmat.symm), ?_⟩)); (first | done | fail)), ?_, ⟨rfl, hlt, hmt, Nat.le_trans (write_len _ _ _) (by simp only; omega), by rw [e1]; exact hnw, rfl⟩, (by simp only; omega)⟩
        · rw [e1, write_held]; exact (by (repeat (first | exact Ent.nil _ | (apply Ent.sel; focus (first | ((repeat (first | with_reducible exact Sel.head | apply Sel.tail)); done) | ((repeat (first | exact Sel.head | apply Sel.tail)); done))) | apply Ent.selNil | apply Ent.selEmp)); (first | done | fail))
    refine XA.seq ?_
    refine XA.region ?_
    refine XOA.rd rfl (Rd.eql rfl rfl) ?_
    refine XOA.rd rfl (Rd.assign (by with_reducible (conv => lhs; whnf))) ?_
    refine XOA.nil ?_
    refine DA.thn_normal ?_
    refine XA.condp rfl (fun k1 => ?_) (fun k1 => ?_)
    · refine XA.seq ?_
      refine XA.region ?_
      refine XOA.rd rfl (Rd.move (by with_reducible (conv => lhs; whnf))) ?_
      refine XOA.wr0 rfl (WrA.callE (by (repeat (first | exact Ent.all _ | (apply Ent.take; focus (first | ((repeat (first | with_reducible exact Sel.head | apply Sel.tail)); done) | ((repeat (first | exact Sel.head | apply Sel.tail)); done))) | apply Ent.takeNil | apply Ent.takeEmp)); (first | done | fail)) (flush_a σ b d (by omega)) rfl) ?_
      rintro _ _ _ ⟨_, ⟨rfl, rfl, rfl⟩, rfl⟩
      refine XOA.re (by conv => lhs; dsimp only [List.cons_append, List.nil_append]) ?_
      refine XOA.nil ?_
      refine DA.thn_normal ?_
      refine XA.region ?_
      refine XOA.rd rfl (Rd.move (by with_reducible (conv => lhs; whnf))) ?_
      refine XOA.rd rfl (Rd.move (by with_reducible (conv => lhs; whnf))) ?_
      have hmt := settled_ok hok (fun _ => true)
      have hr := read_wait_nil (d := d.settle fun _ => true) ha rfl
      have hr8 := held8 hmt a
      refine XOA.wr0 rfl (WrA.callE (by (repeat (first | exact Ent.all _ | (apply Ent.take; focus (first | ((repeat (first | with_reducible exact Sel.head | apply Sel.tail)); done) | ((repeat (first | exact Sel.head | apply Sel.tail)); done))) | apply Ent.takeNil | apply Ent.takeEmp)); (first | done | fail)) (read_a σ b (d.settle fun _ => true) a (by simp [DiskS.settle])) rfl) ?_
      rintro _ _ _ ⟨_, ⟨rfl, rfl, rfl⟩, rfl⟩
      refine XOA.re (by conv => lhs; dsimp only [List.cons_append, List.nil_append]) ?_
      rw [hr]
      refine XOA.wr0 rfl (by apply WrA.store; exact tyrow rfl; rfl; (focus (first | (((repeat (first | with_reducible exact Sel.head | apply Sel.tail)); (first | done | fail))))); exact (by with_reducible (conv => lhs; whnf)); exact (by first | exact wv_cells _ | exact agg_cells _ | rfl); exact (by first | rfl | assumption | (simp [*]; (first | done | fail)) | (simp [*]; (first | done | fail))); exact (by first | exact Nat.le_refl _ | exact hfit | decide | (simp [*]; (first | done | fail)) | (simp; omega)); exact (by (repeat (first | assumption | exact ones_ints _ | exact ones_lit rfl | refine ones_cons rfl ?_ | refine ones_append ?_ ?_)); (first | done | fail)); exact (by first | ((with_reducible apply splice_all); (first | rfl | (simp [*]; (first | done | fail)))) | assumption | exact hspl _ | (conv => lhs; simp only [splice, List.take_zero, List.take_succ_cons, List.drop_zero, List.drop_succ_cons, List.length_cons, List.length_nil, List.nil_append, List.cons_append, List.append_nil, List.append_eq, Nat.reduceAdd, Nat.zero_add, Nat.add_zero]) | rfl)) ?_
      rintro _ _ _ ⟨rfl, rfl, rfl⟩
      refine XOA.rd rfl (Rd.assign (by with_reducible (conv => lhs; whnf))) ?_
      refine XOA.nil ?_
      refine DA.inb_normal ?_
      refine DA.inb_normal ?_
      refine DA.thn_normal ?_
      refine XA.region ?_
      refine XOA.rd rfl (Rd.move (by with_reducible (conv => lhs; whnf))) ?_
      refine XOA.rd rfl (by first | exact Rd.addi rfl rfl rfl (by omega) | exact Rd.add rfl rfl) ?_
      refine XOA.rd rfl (Rd.assign (by with_reducible (conv => lhs; whnf))) ?_
      refine XOA.nil ?_
      refine DA.thn_normal ?_
      refine ⟨(Keep.upd (Keep.upd (Keep.upd (Keep.upd (Keep.updN (Keep.updO (Keep.upd (Keep.upd (Keep.updO (Keep.upd (Keep.upd (Keep.upd (Keep.upd (Keep.upd (Keep.upd (Keep.upd (Keep.updN (Keep.updO (Keep.upd (Keep.upd (Keep.upd (Keep.upd (Keep.upd (Keep.upd (Keep.upd (Keep.upd (Keep.upd (Keep.upd (Keep.hav (Keep.hav (Keep.hav (Keep.refl _ _) rfl) rfl) rfl) rfl) rfl) rfl) rfl) rfl) rfl) rfl) rfl) rfl) rfl) rfl)) rfl) rfl) rfl) rfl) rfl) rfl) rfl) rfl) rfl) rfl) rfl)) rfl) rfl) rfl) rfl), (k + 1, none, 0, 0, d.settle fun _ => true), _, (by (repeat (first | exact trivial | refine ⟨rfl, ?_⟩ | refine ⟨Eq.trans rfl (congrArg Value.bool hmat.symm), ?_⟩)); (first | done | fail)), ?_, ⟨rfl, hlt, hmt, Nat.zero_le _, rfl, rfl⟩, (by simp only; omega)⟩
      · rw [settle_waits]; exact (by (repeat (first | exact Ent.nil _ | (apply Ent.sel; focus (first | ((repeat (first | with_reducible exact Sel.head | apply Sel.tail)); done) | ((repeat (first | exact Sel.head | apply Sel.tail)); done))) | apply Ent.selNil | apply Ent.selEmp)); (first | done | fail))
    refine XA.seq ?_
    refine XA.region ?_
    refine XOA.rd rfl (Rd.eql rfl rfl) ?_
    refine XOA.rd rfl (Rd.assign (by with_reducible (conv => lhs; whnf))) ?_
    refine XOA.nil ?_
    refine DA.thn_normal ?_
    refine XA.condp rfl (fun k2 => ?_) (fun k2 => ?_)
    · refine XA.seq ?_
      refine XA.region ?_
      refine XOA.rd rfl (Rd.move (by with_reducible (conv => lhs; whnf))) ?_
      refine XOA.rd rfl (Rd.fieldAddr (tyrow rfl) rfl rfl (tyrow rfl) rfl rfl (by first | (conv => lhs; simp only [Nat.reduceAdd, Nat.zero_add, Nat.add_zero, Nat.reduceMul, Nat.mul_one, Int.toNat_natCast, Int.reduceToNat, Nat.zero_mul]) | rfl)) ?_
      refine XOA.rd rfl (Rd.load rfl (Ld.atC (tyrow rfl) rfl (by first | (exact AtC.blk (by ((repeat (first | with_reducible exact Sel.head | apply Sel.tail)); (first | done | fail))) (by first | rfl | assumption)) | (exact AtC.per (by first | assumption)) | (exact AtC.lst (by ((repeat (first | with_reducible exact Sel.head | apply Sel.tail)); (first | done | fail))) (by first | rfl | assumption))))) ?_
      refine XOA.wr0 rfl (WrA.callE (by (repeat (first | exact Ent.all _ | (apply Ent.take; focus (first | ((repeat (first | with_reducible exact Sel.head | apply Sel.tail)); done) | ((repeat (first | exact Sel.head | apply Sel.tail)); done))) | apply Ent.takeNil | apply Ent.takeEmp)); (first | done | fail)) (crash_a σ b d q.mask (by omega) hqm.1 hqm.2) rfl) ?_
      rintro _ _ _ ⟨_, ⟨rfl, rfl, rfl⟩, rfl⟩
      refine XOA.re (by conv => lhs; dsimp only [List.cons_append, List.nil_append]) ?_
      refine XOA.nil ?_
      refine DA.thn_normal ?_
      refine XA.region ?_
      refine XOA.rd rfl (Rd.move (by with_reducible (conv => lhs; whnf))) ?_
      refine XOA.rd rfl (Rd.move (by with_reducible (conv => lhs; whnf))) ?_
      have hmt := settled_ok hok (bitOf q.mask)
      have hr := read_wait_nil (d := d.settle (bitOf q.mask)) ha rfl
      have hr8 := held8 hmt a
      refine XOA.wr0 rfl (WrA.callE (by (repeat (first | exact Ent.all _ | (apply Ent.take; focus (first | ((repeat (first | with_reducible exact Sel.head | apply Sel.tail)); done) | ((repeat (first | exact Sel.head | apply Sel.tail)); done))) | apply Ent.takeNil | apply Ent.takeEmp)); (first | done | fail)) (read_a σ b (d.settle (bitOf q.mask)) a (by simp [DiskS.settle])) rfl) ?_
      rintro _ _ _ ⟨_, ⟨rfl, rfl, rfl⟩, rfl⟩
      refine XOA.re (by conv => lhs; dsimp only [List.cons_append, List.nil_append]) ?_
      rw [hr]
      refine XOA.wr0 rfl (by apply WrA.store; exact tyrow rfl; rfl; (focus (first | (((repeat (first | with_reducible exact Sel.head | apply Sel.tail)); (first | done | fail))))); exact (by with_reducible (conv => lhs; whnf)); exact (by first | exact wv_cells _ | exact agg_cells _ | rfl); exact (by first | rfl | assumption | (simp [*]; (first | done | fail)) | (simp [*]; (first | done | fail))); exact (by first | exact Nat.le_refl _ | exact hfit | decide | (simp [*]; (first | done | fail)) | (simp; omega)); exact (by (repeat (first | assumption | exact ones_ints _ | exact ones_lit rfl | refine ones_cons rfl ?_ | refine ones_append ?_ ?_)); (first | done | fail)); exact (by first | ((with_reducible apply splice_all); (first | rfl | (simp [*]; (first | done | fail)))) | assumption | exact hspl _ | (conv => lhs; simp only [splice, List.take_zero, List.take_succ_cons, List.drop_zero, List.drop_succ_cons, List.length_cons, List.length_nil, List.nil_append, List.cons_append, List.append_nil, List.append_eq, Nat.reduceAdd, Nat.zero_add, Nat.add_zero]) | rfl)) ?_
      rintro _ _ _ ⟨rfl, rfl, rfl⟩
      refine XOA.rd rfl (Rd.assign (by with_reducible (conv => lhs; whnf))) ?_
      refine XOA.nil ?_
      refine DA.inb_normal ?_
      refine DA.inb_normal ?_
      refine DA.thn_normal ?_
      refine XA.region ?_
      refine XOA.rd rfl (Rd.move (by with_reducible (conv => lhs; whnf))) ?_
      refine XOA.rd rfl (by first | exact Rd.addi rfl rfl rfl (by omega) | exact Rd.add rfl rfl) ?_
      refine XOA.rd rfl (Rd.assign (by with_reducible (conv => lhs; whnf))) ?_
      refine XOA.nil ?_
      refine DA.thn_normal ?_
      refine ⟨(Keep.upd (Keep.upd (Keep.upd (Keep.upd (Keep.updN (Keep.updO (Keep.upd (Keep.upd (Keep.updO (Keep.upd (Keep.upd (Keep.upd (Keep.upd (Keep.upd (Keep.upd (Keep.upd (Keep.upd (Keep.upd (Keep.upd (Keep.upd (Keep.updN (Keep.updO (Keep.upd (Keep.upd (Keep.upd (Keep.upd (Keep.upd (Keep.upd (Keep.upd (Keep.upd (Keep.upd (Keep.upd (Keep.hav (Keep.hav (Keep.hav (Keep.refl _ _) rfl) rfl) rfl) rfl) rfl) rfl) rfl) rfl) rfl) rfl) rfl) rfl) rfl) rfl)) rfl) rfl) rfl) rfl) rfl) rfl) rfl) rfl) rfl) rfl) rfl) rfl) rfl) rfl) rfl)) rfl) rfl) rfl) rfl), (k + 1, none, 0, 0, d.settle (bitOf q.mask)), _, (by (repeat (first | exact trivial | refine ⟨rfl, ?_⟩ | refine ⟨Eq.trans rfl (congrArg Value.bool hmat.symm), ?_⟩)); (first | done | fail)), ?_, ⟨rfl, hlt, hmt, Nat.zero_le _, rfl, rfl⟩, (by simp only; omega)⟩
      · rw [settle_waits]; exact (by (repeat (first | exact Ent.nil _ | (apply Ent.sel; focus (first | ((repeat (first | with_reducible exact Sel.head | apply Sel.tail)); done) | ((repeat (first | exact Sel.head | apply Sel.tail)); done))) | apply Ent.selNil | apply Ent.selEmp)); (first | done | fail))
    refine XA.skip ?_
    refine DA.inb_normal ?_
    refine DA.inb_normal ?_
    refine DA.thn_normal ?_
    refine XA.region ?_
    refine XOA.rd rfl (Rd.move (by with_reducible (conv => lhs; whnf))) ?_
    refine XOA.rd rfl (by first | exact Rd.addi rfl rfl rfl (by omega) | exact Rd.add rfl rfl) ?_
    refine XOA.rd rfl (Rd.assign (by with_reducible (conv => lhs; whnf))) ?_
    refine XOA.nil ?_
    refine DA.thn_normal ?_
    refine ⟨(Keep.upd (Keep.upd (Keep.upd (Keep.upd (Keep.upd (Keep.upd (Keep.upd (Keep.upd (Keep.upd (Keep.upd (Keep.upd (Keep.updN (Keep.updO (Keep.upd (Keep.upd (Keep.upd (Keep.upd (Keep.upd (Keep.upd (Keep.upd (Keep.upd (Keep.upd (Keep.upd (Keep.hav (Keep.hav (Keep.hav (Keep.refl _ _) rfl) rfl) rfl) rfl) rfl) rfl) rfl) rfl) rfl) rfl) rfl) rfl) rfl) rfl)) rfl) rfl) rfl) rfl) rfl) rfl) rfl) rfl) rfl) rfl) rfl), (k + 1, pw, cw, nw, d), _, (by (repeat (first | exact trivial | refine ⟨rfl, ?_⟩ | refine ⟨Eq.trans rfl (congrArg Value.bool hmat.symm), ?_⟩)); (first | done | fail)), ?_, ⟨rfl, hlt, hok, by simp only; omega, hnw, rfl⟩, (by simp only; omega)⟩
    · exact (by (repeat (first | exact Ent.nil _ | (apply Ent.sel; focus (first | ((repeat (first | with_reducible exact Sel.head | apply Sel.tail)); done) | ((repeat (first | exact Sel.head | apply Sel.tail)); done))) | apply Ent.selNil | apply Ent.selEmp)); (first | done | fail))
  have hmt := settled_ok hok (bitOf m)
  have hr := read_wait_nil (d := d.settle (bitOf m)) ha rfl
  have hr8 := held8 hmt a
  have hw8 : (d.read a).length = 8 := by
    rw [DiskS.read, if_pos ha]
    exact len_last (held8 hok a) _ _ (fun p hp => (hok.2.2 p hp).2)
  refine XA.exit ?_
  refine DA.thn_exit ?_
  refine DA.thn_exit ?_
  refine DA.inb_same ?_
  refine DA.thn_normal ?_
  refine XA.seq ?_
  refine XA.region ?_
  refine XOA.rd rfl (Rd.move (by with_reducible (conv => lhs; whnf))) ?_
  refine XOA.rd rfl (Rd.move (by with_reducible (conv => lhs; whnf))) ?_
  refine XOA.wr0 rfl (WrA.callE (by (repeat (first | exact Ent.all _ | (apply Ent.take; focus (first | ((repeat (first | with_reducible exact Sel.head | apply Sel.tail)); done) | ((repeat (first | exact Sel.head | apply Sel.tail)); done))) | apply Ent.takeNil | apply Ent.takeEmp)); (first | done | fail)) (read_a σ b d a (by omega)) rfl) ?_
  rintro _ _ _ ⟨_, ⟨rfl, rfl, rfl⟩, rfl⟩
  refine XOA.re (by conv => lhs; dsimp only [List.cons_append, List.nil_append]) ?_
  refine XOA.wr0 rfl (WrA.alloc (tyrow rfl)) ?_
  rintro _ _ _ ⟨g12, rfl, rfl, rfl⟩
  refine XOA.wr0 rfl (by apply WrA.store; exact tyrow rfl; rfl; (focus (first | (((repeat (first | with_reducible exact Sel.head | apply Sel.tail)); (first | done | fail))))); exact (by with_reducible (conv => lhs; whnf)); exact (by first | exact wv_cells _ | exact agg_cells _ | rfl); exact (by first | rfl | assumption | (simp [*]; (first | done | fail)) | (simp [*]; (first | done | fail))); exact (by first | exact Nat.le_refl _ | exact hfit | decide | (simp [*]; (first | done | fail)) | (simp; omega)); exact (by (repeat (first | assumption | exact ones_ints _ | exact ones_lit rfl | refine ones_cons rfl ?_ | refine ones_append ?_ ?_)); (first | done | fail)); exact (by first | ((with_reducible apply splice_all); (first | rfl | (simp [*]; (first | done | fail)))) | assumption | exact hspl _ | (conv => lhs; simp only [splice, List.take_zero, List.take_succ_cons, List.drop_zero, List.drop_succ_cons, List.length_cons, List.length_nil, List.nil_append, List.cons_append, List.append_nil, List.append_eq, Nat.reduceAdd, Nat.zero_add, Nat.add_zero]) | rfl)) ?_
  rintro _ _ _ ⟨rfl, rfl, rfl⟩
  refine XOA.nil ?_
  refine DA.thn_normal ?_
  refine XA.seq ?_
  refine XA.region ?_
  refine XOA.rd rfl (Rd.move (by with_reducible (conv => lhs; whnf))) ?_
  refine XOA.rd rfl (Rd.move (by with_reducible (conv => lhs; whnf))) ?_
  refine XOA.wr0 rfl (WrA.callE (by (repeat (first | exact Ent.all _ | (apply Ent.take; focus (first | ((repeat (first | with_reducible exact Sel.head | apply Sel.tail)); done) | ((repeat (first | exact Sel.head | apply Sel.tail)); done))) | apply Ent.takeNil | apply Ent.takeEmp)); (first | done | fail)) (crash_a σ b d m (by omega) hm0 hm1) rfl) ?_
  rintro _ _ _ ⟨_, ⟨rfl, rfl, rfl⟩, rfl⟩
  refine XOA.re (by conv => lhs; dsimp only [List.cons_append, List.nil_append]) ?_
  refine XOA.nil ?_
  refine DA.thn_normal ?_
  refine XA.seq ?_
  refine XA.region ?_
  refine XOA.rd rfl (Rd.move (by with_reducible (conv => lhs; whnf))) ?_
  refine XOA.rd rfl (Rd.move (by with_reducible (conv => lhs; whnf))) ?_
  refine XOA.wr0 rfl (WrA.callE (by (repeat (first | exact Ent.all _ | (apply Ent.take; focus (first | ((repeat (first | with_reducible exact Sel.head | apply Sel.tail)); done) | ((repeat (first | exact Sel.head | apply Sel.tail)); done))) | apply Ent.takeNil | apply Ent.takeEmp)); (first | done | fail)) (read_a σ b (d.settle (bitOf m)) a (by simp [DiskS.settle])) rfl) ?_
  rintro _ _ _ ⟨_, ⟨rfl, rfl, rfl⟩, rfl⟩
  refine XOA.re (by conv => lhs; dsimp only [List.cons_append, List.nil_append]) ?_
  rw [hr]
  refine XOA.wr0 rfl (WrA.alloc (tyrow rfl)) ?_
  rintro _ _ _ ⟨g13, rfl, rfl, rfl⟩
  refine XOA.wr0 rfl (by apply WrA.store; exact tyrow rfl; rfl; (focus (first | (((repeat (first | with_reducible exact Sel.head | apply Sel.tail)); (first | done | fail))))); exact (by with_reducible (conv => lhs; whnf)); exact (by first | exact wv_cells _ | exact agg_cells _ | rfl); exact (by first | rfl | assumption | (simp [*]; (first | done | fail)) | (simp [*]; (first | done | fail))); exact (by first | exact Nat.le_refl _ | exact hfit | decide | (simp [*]; (first | done | fail)) | (simp; omega)); exact (by (repeat (first | assumption | exact ones_ints _ | exact ones_lit rfl | refine ones_cons rfl ?_ | refine ones_append ?_ ?_)); (first | done | fail)); exact (by first | ((with_reducible apply splice_all); (first | rfl | (simp [*]; (first | done | fail)))) | assumption | exact hspl _ | (conv => lhs; simp only [splice, List.take_zero, List.take_succ_cons, List.drop_zero, List.drop_succ_cons, List.length_cons, List.length_nil, List.nil_append, List.cons_append, List.append_nil, List.append_eq, Nat.reduceAdd, Nat.zero_add, Nat.add_zero]) | rfl)) ?_
  rintro _ _ _ ⟨rfl, rfl, rfl⟩
  refine XOA.nil ?_
  refine DA.thn_normal ?_
  refine XA.seq ?_
  refine XA.region ?_
  refine XOA.rd rfl (Rd.load rfl (by first | (exact Ld.atBlk (tyrow rfl) rfl (by ((repeat (first | with_reducible exact Sel.head | apply Sel.tail)); (first | done | fail))) rfl (by first | exact take0 (by first | rfl | assumption | (simp [*]; (first | done | fail)) | (simp [*]; (first | done | fail))) | assumption | exact take_app (by first | rfl | assumption | (simp [*]; (first | done | fail)) | (simp [*]; (first | done | fail))) | (conv => lhs; simp only [List.drop_succ_cons, List.drop_zero, List.take_succ_cons, List.take_zero])) (by first | rfl | assumption | (simp [*]; (first | done | fail)) | (simp [*]; (first | done | fail)))) | (exact Ld.at (tyrow rfl) rfl (At.per (by assumption)) (by first | rfl | assumption | (simp [*]; (first | done | fail)) | (simp [*]; (first | done | fail)))) | (exact Ld.atLst (tyrow rfl) rfl (by ((repeat (first | with_reducible exact Sel.head | apply Sel.tail)); (first | done | fail))) rfl (by first | exact take0 (by first | rfl | assumption | (simp [*]; (first | done | fail)) | (simp [*]; (first | done | fail))) | assumption | exact take_app (by first | rfl | assumption | (simp [*]; (first | done | fail)) | (simp [*]; (first | done | fail))) | (conv => lhs; simp only [List.drop_succ_cons, List.drop_zero, List.take_succ_cons, List.take_zero])) (by first | rfl | assumption | (simp [*]; (first | done | fail)) | (simp [*]; (first | done | fail)))))) ?_
  refine XOA.rd rfl (Rd.load rfl (by first | (exact Ld.atBlk (tyrow rfl) rfl (by ((repeat (first | with_reducible exact Sel.head | apply Sel.tail)); (first | done | fail))) rfl (by first | exact take0 (by first | rfl | assumption | (simp [*]; (first | done | fail)) | (simp [*]; (first | done | fail))) | assumption | exact take_app (by first | rfl | assumption | (simp [*]; (first | done | fail)) | (simp [*]; (first | done | fail))) | (conv => lhs; simp only [List.drop_succ_cons, List.drop_zero, List.take_succ_cons, List.take_zero])) (by first | rfl | assumption | (simp [*]; (first | done | fail)) | (simp [*]; (first | done | fail)))) | (exact Ld.at (tyrow rfl) rfl (At.per (by assumption)) (by first | rfl | assumption | (simp [*]; (first | done | fail)) | (simp [*]; (first | done | fail)))) | (exact Ld.atLst (tyrow rfl) rfl (by ((repeat (first | with_reducible exact Sel.head | apply Sel.tail)); (first | done | fail))) rfl (by first | exact take0 (by first | rfl | assumption | (simp [*]; (first | done | fail)) | (simp [*]; (first | done | fail))) | assumption | exact take_app (by first | rfl | assumption | (simp [*]; (first | done | fail)) | (simp [*]; (first | done | fail))) | (conv => lhs; simp only [List.drop_succ_cons, List.drop_zero, List.take_succ_cons, List.take_zero])) (by first | rfl | assumption | (simp [*]; (first | done | fail)) | (simp [*]; (first | done | fail)))))) ?_
  refine XOA.rd rfl (Rd.eqlWords (tyrow rfl) rfl (tyrow rfl) rfl rfl (by kernel_rfl) rfl rfl (by first | assumption | rfl | (simp; (first | done | fail)) | (simp [*]; (first | done | fail))) (by first | assumption | rfl | (simp; (first | done | fail)) | (simp [*]; (first | done | fail)))) ?_
  refine XOA.rd rfl (Rd.assign (by with_reducible (conv => lhs; whnf))) ?_
  refine XOA.nil ?_
  refine DA.thn_normal ?_
  refine XA.seq ?_
  refine XA.seq ?_
  refine XA.region ?_
  refine XOA.rd rfl (Rd.assign (by with_reducible (conv => lhs; whnf))) ?_
  refine XOA.nil ?_
  refine DA.thn_normal ?_
  refine XA.block ?_
  obtain ⟨dd, hdd⟩ : ∃ dd, dd = d.settle (bitOf m) := ⟨_, rfl⟩
  have hmem := settle_mem hok (bitOf m) ha
  have hall : m = 18446744073709551615 → (d.settle (bitOf m)).held a = d.read a := fun e => settle_all hok _ (fun k => by rw [e]; exact bit_all k) ha
  rw [← hdd] at hmt hr hr8 hmem hall
  have hwt : dd.wait.length = 0 := by rw [hdd]; rfl
  rw [← hdd]
  have hx : dd.l[a.toNat]? = some (dd.held a) := by
    unfold DiskS.held; rw [List.getD_eq_getElem?_getD, List.getElem?_eq_getElem (by rw [hmt.1]; omega)]; rfl
  have hrow := crow hmt hx
  clear hdd
  generalize dd.held a = w at *
  obtain ⟨okk, hokk⟩ : ∃ f : Nat → Bool, f = fun k => ((d.waits a).take k).foldl (fun b x => b || decide (w = x)) (decide (w = d.held a)) := ⟨_, rfl⟩
  have hok0 : Value.bool (decide (w = d.held a)) = .bool (okk 0) := by rw [hokk]; rfl
  have hsucc : ∀ k x, (d.waits a)[k]? = some x → okk (k + 1) = (okk k || decide (w = x)) := fun k x hx => by
    rw [hokk]; simp only [take_snoc hx, List.foldl_append, List.foldl_cons, List.foldl_nil]
  have hend : okk nw = true := by
    have key : ∀ (l : List (List Int)) (b : Bool), (b = true ∨ w ∈ l) → l.foldl (fun b x => b || decide (w = x)) b = true := by
      intro l
      induction l with
      | nil => intro b h; simpa using h
      | cons x l ih => intro b h; refine ih _ ?_; simp only [List.mem_cons] at h; rcases h with h | h | h <;> simp_all
    rw [hokk]; simp only
    rw [List.take_of_length_le (by omega)]
    exact key _ _ (hmem.imp (by simp) id)
  clear hokk
  rw [hok0]
  refine XA.gen [(1, _), (2, _), (6, _), (7, _), (8, _), (12, _), (13, _), (14, _), (15, _)] ⟨(by with_reducible (conv => lhs; whnf)), (by with_reducible (conv => lhs; whnf)), (by with_reducible (conv => lhs; whnf)), (by with_reducible (conv => lhs; whnf)), (by with_reducible (conv => lhs; whnf)), (by with_reducible (conv => lhs; whnf)), (by with_reducible (conv => lhs; whnf)), (by with_reducible (conv => lhs; whnf)), (by with_reducible (conv => lhs; whnf)), trivial⟩ (fun δ => ?_)
  dsimp only [List.foldl]
  refine XA.loop [(14, 15), (88, 102)] (fun k : Nat => [(14, .bool (okk k)), (15, i64 k)]) (fun k σ' Γ' => σ = σ' ∧ k ≤ nw ∧ Γ' = [blk g13 (ints w) 32, blk g12 (ints (d.read a)) 32, lst 32 8 (.slice pw nw cw) nw ((d.waits a).flatMap fun w => ints w), Disk b dd]) (fun k => nw - k) 0 (by exact ⟨rfl, rfl, trivial⟩) (Δ0 := _) ?_ (⟨rfl, Nat.zero_le _, rfl⟩) ?_
  · exact (by (repeat (first | exact Ent.nil _ | (apply Ent.sel; focus (first | ((repeat (first | with_reducible exact Sel.head | apply Sel.tail)); done) | ((repeat (first | exact Sel.head | apply Sel.tail)); done))) | apply Ent.selNil | apply Ent.selEmp)); (first | done | fail))
  rintro k δ _ _ ⟨rfl, hk2, rfl⟩
  dsimp only [ovr, List.foldl]
  refine XA.seq ?_
  refine XA.seq ?_
  refine XA.region ?_
  refine XOA.rd rfl (Rd.move (by with_reducible (conv => lhs; whnf))) ?_
  refine XOA.rd rfl (Rd.move (by with_reducible (conv => lhs; whnf))) ?_
  refine XOA.rd rfl (Rd.lenSlice (tyrow rfl) rfl rfl) ?_
  refine XOA.rd rfl (Rd.lss rfl rfl) ?_
  refine XOA.nil ?_
  refine DA.thn_normal ?_
  refine XA.condp rfl (fun hlt2 => ?_) (fun hlt2 => ?_)
  · have hlt2 : k < nw := by omega
    obtain ⟨x, hx⟩ : ∃ x, (d.waits a)[k]? = some x := ⟨_, List.getElem?_eq_getElem (by omega)⟩
    have hx8 : x.length = 8 := waits8 hok a x (List.mem_of_getElem? hx)
    have hsx := hsucc k x hx
    have hrx : (((d.waits a).flatMap fun w => ints w).drop (k * 8)).take 8 = ints x := by
      have := flat_row (fun w : List Int => ints w) 8 (d.waits a) (fun y hy => by simp [waits8 hok a y hy]) k x hx
      simpa [hx8] using this
    first | refine XA.opn (R := lst 32 8 (.slice pw nw cw) _ _) (by ((repeat (first | with_reducible exact Sel.head | apply Sel.tail)); (first | done | fail))) (lst_some (by omega)) ?_ | refine XOA.opn (R := lst 32 8 (.slice pw nw cw) _ _) (by ((repeat (first | with_reducible exact Sel.head | apply Sel.tail)); (first | done | fail))) (lst_some (by omega)) ?_ | refine DA.opn (R := lst 32 8 (.slice pw nw cw) _ _) (by ((repeat (first | with_reducible exact Sel.head | apply Sel.tail)); (first | done | fail))) (lst_some (by omega)) ?_
    rintro gw rfl
    first | refine XA.re (by conv => lhs; dsimp only [List.cons_append, List.nil_append]) ?_ | refine XOA.re (by conv => lhs; dsimp only [List.cons_append, List.nil_append]) ?_ | refine DA.re (by conv => lhs; dsimp only [List.cons_append, List.nil_append]) ?_
    cases hb : okk k with
    | true =>
      rw [hb] at hsx
      have hmat := hsx
      simp only [Bool.true_or, Bool.false_or] at hmat
      refine XA.skip ?_
      refine DA.thn_normal ?_
      refine XA.seq ?_
      refine XA.block ?_
      refine XA.draw (by kernel_rfl) _ _ [] [(0, .pu), (1, .pu), (2, .rd), (3, .pu), (4, .pu), (5, .pu), (6, .rd), (7, .pu), (8, .pu), (9, .pu)] (by kernel_rfl) (PH.sub.refl _) (Ent.sel (R := blk g13 _ _) (by ((repeat (first | with_reducible exact Sel.head | apply Sel.tail)); (first | done | fail))) (Ent.sel (R := lst 32 8 (.slice (some ⟨gw, 0, none⟩) nw cw) _ _) (by ((repeat (first | with_reducible exact Sel.head | apply Sel.tail)); (first | done | fail))) (Ent.nil _))) ?_
      refine XPA.pu rfl rfl Gd.free (Rd.move (by with_reducible (conv => lhs; whnf))) ?_
      refine XPA.pu rfl rfl Gd.free (Rd.move (by with_reducible (conv => lhs; whnf))) ?_
      first | refine XPA.rd rfl rfl (by first | exact Gd.free | exact Gd.isB rfl rfl rfl | (apply Gd.isQ; rfl; rfl; exact (by first | exact (rfl : decide _ = true) | exact (rfl : decide _ = false) | (refine decide_eq_true ?_; assumption) | (refine decide_eq_false ?_; assumption) | (refine decide_eq_true ?_; omega) | (refine decide_eq_false ?_; omega)); rfl)) (Rd.load rfl (by first | (exact Ld.atBlk (tyrow rfl) rfl (by ((repeat (first | with_reducible exact Sel.head | apply Sel.tail)); (first | done | fail))) rfl (by first | exact take0 (by first | rfl | assumption | (simp [*]; (first | done | fail)) | (simp [*]; (first | done | fail))) | assumption | exact take_app (by first | rfl | assumption | (simp [*]; (first | done | fail)) | (simp [*]; (first | done | fail))) | (conv => lhs; simp only [List.drop_succ_cons, List.drop_zero, List.take_succ_cons, List.take_zero])) (by first | rfl | assumption | (simp [*]; (first | done | fail)) | (simp [*]; (first | done | fail)))) | (exact Ld.at (tyrow rfl) rfl (At.per (by assumption)) (by first | rfl | assumption | (simp [*]; (first | done | fail)) | (simp [*]; (first | done | fail)))) | (exact Ld.atLst (tyrow rfl) rfl (by ((repeat (first | with_reducible exact Sel.head | apply Sel.tail)); (first | done | fail))) rfl (by first | exact take0 (by first | rfl | assumption | (simp [*]; (first | done | fail)) | (simp [*]; (first | done | fail))) | assumption | exact take_app (by first | rfl | assumption | (simp [*]; (first | done | fail)) | (simp [*]; (first | done | fail))) | (conv => lhs; simp only [List.drop_succ_cons, List.drop_zero, List.take_succ_cons, List.take_zero])) (by first | rfl | assumption | (simp [*]; (first | done | fail)) | (simp [*]; (first | done | fail)))))) ?_ | refine XPA.off rfl rfl (by first | exact Gd.isB rfl rfl rfl | exact Gd.un rfl rfl | (apply Gd.isQ; rfl; rfl; exact (by first | exact (rfl : decide _ = true) | exact (rfl : decide _ = false) | (refine decide_eq_true ?_; assumption) | (refine decide_eq_false ?_; assumption) | (refine decide_eq_true ?_; omega) | (refine decide_eq_false ?_; omega)); rfl)) ?_
      first | refine XPA.pu rfl rfl (by first | exact Gd.free | exact Gd.isB rfl rfl rfl | (apply Gd.isQ; rfl; rfl; exact (by first | exact (rfl : decide _ = true) | exact (rfl : decide _ = false) | (refine decide_eq_true ?_; assumption) | (refine decide_eq_false ?_; assumption) | (refine decide_eq_true ?_; omega) | (refine decide_eq_false ?_; omega)); rfl)) (Rd.move (by with_reducible (conv => lhs; whnf))) ?_ | refine XPA.puOff rfl rfl (by first | exact Gd.isB rfl rfl rfl | exact Gd.un rfl rfl | (apply Gd.isQ; rfl; rfl; exact (by first | exact (rfl : decide _ = true) | exact (rfl : decide _ = false) | (refine decide_eq_true ?_; assumption) | (refine decide_eq_false ?_; assumption) | (refine decide_eq_true ?_; omega) | (refine decide_eq_false ?_; omega)); rfl)) ?_
      first | refine XPA.pu rfl rfl (by first | exact Gd.free | exact Gd.isB rfl rfl rfl | (apply Gd.isQ; rfl; rfl; exact (by first | exact (rfl : decide _ = true) | exact (rfl : decide _ = false) | (refine decide_eq_true ?_; assumption) | (refine decide_eq_false ?_; assumption) | (refine decide_eq_true ?_; omega) | (refine decide_eq_false ?_; omega)); rfl)) (Rd.move (by with_reducible (conv => lhs; whnf))) ?_ | refine XPA.puOff rfl rfl (by first | exact Gd.isB rfl rfl rfl | exact Gd.un rfl rfl | (apply Gd.isQ; rfl; rfl; exact (by first | exact (rfl : decide _ = true) | exact (rfl : decide _ = false) | (refine decide_eq_true ?_; assumption) | (refine decide_eq_false ?_; assumption) | (refine decide_eq_true ?_; omega) | (refine decide_eq_false ?_; omega)); rfl)) ?_
      first | refine XPA.pu rfl rfl (by first | exact Gd.free | exact Gd.isB rfl rfl rfl | (apply Gd.isQ; rfl; rfl; exact (by first | exact (rfl : decide _ = true) | exact (rfl : decide _ = false) | (refine decide_eq_true ?_; assumption) | (refine decide_eq_false ?_; assumption) | (refine decide_eq_true ?_; omega) | (refine decide_eq_false ?_; omega)); rfl)) (by apply Rd.indexSlice; exact tyrow rfl; rfl; exact tyrow rfl; rfl; rfl; exact (by first | omega | decide | (simp; omega)); exact (by with_reducible (conv => lhs; whnf)); exact (by first | (conv => lhs; simp only [Nat.reduceAdd, Nat.zero_add, Nat.add_zero, Nat.reduceMul, Nat.mul_one, Int.toNat_natCast, Int.reduceToNat, Nat.zero_mul]) | rfl)) ?_ | refine XPA.puOff rfl rfl (by first | exact Gd.isB rfl rfl rfl | exact Gd.un rfl rfl | (apply Gd.isQ; rfl; rfl; exact (by first | exact (rfl : decide _ = true) | exact (rfl : decide _ = false) | (refine decide_eq_true ?_; assumption) | (refine decide_eq_false ?_; assumption) | (refine decide_eq_true ?_; omega) | (refine decide_eq_false ?_; omega)); rfl)) ?_
      first | refine XPA.rd rfl rfl (by first | exact Gd.free | exact Gd.isB rfl rfl rfl | (apply Gd.isQ; rfl; rfl; exact (by first | exact (rfl : decide _ = true) | exact (rfl : decide _ = false) | (refine decide_eq_true ?_; assumption) | (refine decide_eq_false ?_; assumption) | (refine decide_eq_true ?_; omega) | (refine decide_eq_false ?_; omega)); rfl)) (Rd.load rfl (by first | (exact Ld.atBlk (tyrow rfl) rfl (by ((repeat (first | with_reducible exact Sel.head | apply Sel.tail)); (first | done | fail))) rfl (by first | exact take0 (by first | rfl | assumption | (simp [*]; (first | done | fail)) | (simp [*]; (first | done | fail))) | assumption | exact take_app (by first | rfl | assumption | (simp [*]; (first | done | fail)) | (simp [*]; (first | done | fail))) | (conv => lhs; simp only [List.drop_succ_cons, List.drop_zero, List.take_succ_cons, List.take_zero])) (by first | rfl | assumption | (simp [*]; (first | done | fail)) | (simp [*]; (first | done | fail)))) | (exact Ld.at (tyrow rfl) rfl (At.per (by assumption)) (by first | rfl | assumption | (simp [*]; (first | done | fail)) | (simp [*]; (first | done | fail)))) | (exact Ld.atLst (tyrow rfl) rfl (by ((repeat (first | with_reducible exact Sel.head | apply Sel.tail)); (first | done | fail))) rfl (by first | exact take0 (by first | rfl | assumption | (simp [*]; (first | done | fail)) | (simp [*]; (first | done | fail))) | assumption | exact take_app (by first | rfl | assumption | (simp [*]; (first | done | fail)) | (simp [*]; (first | done | fail))) | (conv => lhs; simp only [List.drop_succ_cons, List.drop_zero, List.take_succ_cons, List.take_zero])) (by first | rfl | assumption | (simp [*]; (first | done | fail)) | (simp [*]; (first | done | fail)))))) ?_ | refine XPA.off rfl rfl (by first | exact Gd.isB rfl rfl rfl | exact Gd.un rfl rfl | (apply Gd.isQ; rfl; rfl; exact (by first | exact (rfl : decide _ = true) | exact (rfl : decide _ = false) | (refine decide_eq_true ?_; assumption) | (refine decide_eq_false ?_; assumption) | (refine decide_eq_true ?_; omega) | (refine decide_eq_false ?_; omega)); rfl)) ?_
      first | refine XPA.pu rfl rfl (by first | exact Gd.free | exact Gd.isB rfl rfl rfl | (apply Gd.isQ; rfl; rfl; exact (by first | exact (rfl : decide _ = true) | exact (rfl : decide _ = false) | (refine decide_eq_true ?_; assumption) | (refine decide_eq_false ?_; assumption) | (refine decide_eq_true ?_; omega) | (refine decide_eq_false ?_; omega)); rfl)) (Rd.eqlWords (tyrow rfl) rfl (tyrow rfl) rfl rfl (by kernel_rfl) rfl rfl (by first | assumption | rfl | (simp; (first | done | fail)) | (simp [*]; (first | done | fail))) (by first | assumption | rfl | (simp; (first | done | fail)) | (simp [*]; (first | done | fail)))) ?_ | refine XPA.puOff rfl rfl (by first | exact Gd.isB rfl rfl rfl | exact Gd.un rfl rfl | (apply Gd.isQ; rfl; rfl; exact (by first | exact (rfl : decide _ = true) | exact (rfl : decide _ = false) | (refine decide_eq_true ?_; assumption) | (refine decide_eq_false ?_; assumption) | (refine decide_eq_true ?_; omega) | (refine decide_eq_false ?_; omega)); rfl)) ?_
      refine XPA.pu rfl rfl Gd.free (by first | exact Rd.pickT rfl (by with_reducible (conv => lhs; whnf)) | exact Rd.pickF rfl (by with_reducible (conv => lhs; whnf)) | exact Rd.pickP rfl (by first | exact (rfl : decide _ = true) | exact (rfl : decide _ = false) | (refine decide_eq_true ?_; assumption) | (refine decide_eq_false ?_; assumption) | (refine decide_eq_true ?_; omega) | (refine decide_eq_false ?_; omega)) (by with_reducible (conv => lhs; whnf))) ?_
      refine XPA.pu rfl rfl Gd.free (Rd.assign (by with_reducible (conv => lhs; whnf))) ?_
      refine XPA.nil ?_
      refine DA.inb_normal ?_
      refine DA.thn_normal ?_
      refine XA.region ?_
      refine XOA.rd rfl (Rd.move (by with_reducible (conv => lhs; whnf))) ?_
      refine XOA.rd rfl (by first | exact Rd.addi rfl rfl rfl (by omega) | exact Rd.add rfl rfl) ?_
      refine XOA.rd rfl (Rd.assign (by with_reducible (conv => lhs; whnf))) ?_
      refine XOA.nil ?_
      refine DA.thn_normal ?_
      refine ⟨(Keep.upd (Keep.upd (Keep.upd (Keep.upd (Keep.upd (Keep.upd (Keep.upd (Keep.upd (Keep.upd (Keep.upd (Keep.upd (Keep.upd (Keep.upd (Keep.upd (Keep.upd (Keep.upd (Keep.upd (Keep.upd (Keep.upd (Keep.hav (Keep.hav (Keep.refl _ _) rfl) rfl) rfl) rfl) rfl) rfl) rfl) rfl) rfl) rfl) rfl) rfl) rfl) rfl) rfl) rfl) rfl) rfl) rfl) rfl) rfl), k + 1, _, (by (repeat (first | exact trivial | refine ⟨rfl, ?_⟩ | refine ⟨Eq.trans rfl (congrArg Value.bool hmat.symm), ?_⟩)); (first | done | fail)), ?_, ⟨rfl, hlt2, rfl⟩, (by omega)⟩
      · exact (by (repeat (first | exact Ent.nil _ | (apply Ent.sel; focus (first | ((repeat (first | with_reducible exact Sel.head | apply Sel.tail)); done) | ((repeat (first | exact Sel.head | apply Sel.tail)); done))) | apply Ent.selNil | apply Ent.selEmp)); (first | done | fail))
    | false =>
      rw [hb] at hsx
      have hmat := hsx
      simp only [Bool.true_or, Bool.false_or] at hmat
      refine XA.skip ?_
      refine DA.thn_normal ?_
      refine XA.seq ?_
      refine XA.block ?_
      refine XA.draw (by kernel_rfl) _ _ [] [(0, .pu), (1, .pu), (2, .rd), (3, .pu), (4, .pu), (5, .pu), (6, .rd), (7, .pu), (8, .pu), (9, .pu)] (by kernel_rfl) (PH.sub.refl _) (Ent.sel (R := blk g13 _ _) (by ((repeat (first | with_reducible exact Sel.head | apply Sel.tail)); (first | done | fail))) (Ent.sel (R := lst 32 8 (.slice (some ⟨gw, 0, none⟩) nw cw) _ _) (by ((repeat (first | with_reducible exact Sel.head | apply Sel.tail)); (first | done | fail))) (Ent.nil _))) ?_
      refine XPA.pu rfl rfl Gd.free (Rd.move (by with_reducible (conv => lhs; whnf))) ?_
      refine XPA.pu rfl rfl Gd.free (Rd.move (by with_reducible (conv => lhs; whnf))) ?_
      first | refine XPA.rd rfl rfl (by first | exact Gd.free | exact Gd.isB rfl rfl rfl | (apply Gd.isQ; rfl; rfl; exact (by first | exact (rfl : decide _ = true) | exact (rfl : decide _ = false) | (refine decide_eq_true ?_; assumption) | (refine decide_eq_false ?_; assumption) | (refine decide_eq_true ?_; omega) | (refine decide_eq_false ?_; omega)); rfl)) (Rd.load rfl (by first | (exact Ld.atBlk (tyrow rfl) rfl (by ((repeat (first | with_reducible exact Sel.head | apply Sel.tail)); (first | done | fail))) rfl (by first | exact take0 (by first | rfl | assumption | (simp [*]; (first | done | fail)) | (simp [*]; (first | done | fail))) | assumption | exact take_app (by first | rfl | assumption | (simp [*]; (first | done | fail)) | (simp [*]; (first | done | fail))) | (conv => lhs; simp only [List.drop_succ_cons, List.drop_zero, List.take_succ_cons, List.take_zero])) (by first | rfl | assumption | (simp [*]; (first | done | fail)) | (simp [*]; (first | done | fail)))) | (exact Ld.at (tyrow rfl) rfl (At.per (by assumption)) (by first | rfl | assumption | (simp [*]; (first | done | fail)) | (simp [*]; (first | done | fail)))) | (exact Ld.atLst (tyrow rfl) rfl (by ((repeat (first | with_reducible exact Sel.head | apply Sel.tail)); (first | done | fail))) rfl (by first | exact take0 (by first | rfl | assumption | (simp [*]; (first | done | fail)) | (simp [*]; (first | done | fail))) | assumption | exact take_app (by first | rfl | assumption | (simp [*]; (first | done | fail)) | (simp [*]; (first | done | fail))) | (conv => lhs; simp only [List.drop_succ_cons, List.drop_zero, List.take_succ_cons, List.take_zero])) (by first | rfl | assumption | (simp [*]; (first | done | fail)) | (simp [*]; (first | done | fail)))))) ?_ | refine XPA.off rfl rfl (by first | exact Gd.isB rfl rfl rfl | exact Gd.un rfl rfl | (apply Gd.isQ; rfl; rfl; exact (by first | exact (rfl : decide _ = true) | exact (rfl : decide _ = false) | (refine decide_eq_true ?_; assumption) | (refine decide_eq_false ?_; assumption) | (refine decide_eq_true ?_; omega) | (refine decide_eq_false ?_; omega)); rfl)) ?_
      first | refine XPA.pu rfl rfl (by first | exact Gd.free | exact Gd.isB rfl rfl rfl | (apply Gd.isQ; rfl; rfl; exact (by first | exact (rfl : decide _ = true) | exact (rfl : decide _ = false) | (refine decide_eq_true ?_; assumption) | (refine decide_eq_false ?_; assumption) | (refine decide_eq_true ?_; omega) | (refine decide_eq_false ?_; omega)); rfl)) (Rd.move (by with_reducible (conv => lhs; whnf))) ?_ | refine XPA.puOff rfl rfl (by first | exact Gd.isB rfl rfl rfl | exact Gd.un rfl rfl | (apply Gd.isQ; rfl; rfl; exact (by first | exact (rfl : decide _ = true) | exact (rfl : decide _ = false) | (refine decide_eq_true ?_; assumption) | (refine decide_eq_false ?_; assumption) | (refine decide_eq_true ?_; omega) | (refine decide_eq_false ?_; omega)); rfl)) ?_
      first | refine XPA.pu rfl rfl (by first | exact Gd.free | exact Gd.isB rfl rfl rfl | (apply Gd.isQ; rfl; rfl; exact (by first | exact (rfl : decide _ = true) | exact (rfl : decide _ = false) | (refine decide_eq_true ?_; assumption) | (refine decide_eq_false ?_; assumption) | (refine decide_eq_true ?_; omega) | (refine decide_eq_false ?_; omega)); rfl)) (Rd.move (by with_reducible (conv => lhs; whnf))) ?_ | refine XPA.puOff rfl rfl (by first | exact Gd.isB rfl rfl rfl | exact Gd.un rfl rfl | (apply Gd.isQ; rfl; rfl; exact (by first | exact (rfl : decide _ = true) | exact (rfl : decide _ = false) | (refine decide_eq_true ?_; assumption) | (refine decide_eq_false ?_; assumption) | (refine decide_eq_true ?_; omega) | (refine decide_eq_false ?_; omega)); rfl)) ?_
      first | refine XPA.pu rfl rfl (by first | exact Gd.free | exact Gd.isB rfl rfl rfl | (apply Gd.isQ; rfl; rfl; exact (by first | exact (rfl : decide _ = true) | exact (rfl : decide _ = false) | (refine decide_eq_true ?_; assumption) | (refine decide_eq_false ?_; assumption) | (refine decide_eq_true ?_; omega) | (refine decide_eq_false ?_; omega)); rfl)) (by apply Rd.indexSlice; exact tyrow rfl; rfl; exact tyrow rfl; rfl; rfl; exact (by first | omega | decide | (simp; omega)); exact (by with_reducible (conv => lhs; whnf)); exact (by first | (conv => lhs; simp only [Nat.reduceAdd, Nat.zero_add, Nat.add_zero, Nat.reduceMul, Nat.mul_one, Int.toNat_natCast, Int.reduceToNat, Nat.zero_mul]) | rfl)) ?_ | refine XPA.puOff rfl rfl (by first | exact Gd.isB rfl rfl rfl | exact Gd.un rfl rfl | (apply Gd.isQ; rfl; rfl; exact (by first | exact (rfl : decide _ = true) | exact (rfl : decide _ = false) | (refine decide_eq_true ?_; assumption) | (refine decide_eq_false ?_; assumption) | (refine decide_eq_true ?_; omega) | (refine decide_eq_false ?_; omega)); rfl)) ?_
      first | refine XPA.rd rfl rfl (by first | exact Gd.free | exact Gd.isB rfl rfl rfl | (apply Gd.isQ; rfl; rfl; exact (by first | exact (rfl : decide _ = true) | exact (rfl : decide _ = false) | (refine decide_eq_true ?_; assumption) | (refine decide_eq_false ?_; assumption) | (refine decide_eq_true ?_; omega) | (refine decide_eq_false ?_; omega)); rfl)) (Rd.load rfl (by first | (exact Ld.atBlk (tyrow rfl) rfl (by ((repeat (first | with_reducible exact Sel.head | apply Sel.tail)); (first | done | fail))) rfl (by first | exact take0 (by first | rfl | assumption | (simp [*]; (first | done | fail)) | (simp [*]; (first | done | fail))) | assumption | exact take_app (by first | rfl | assumption | (simp [*]; (first | done | fail)) | (simp [*]; (first | done | fail))) | (conv => lhs; simp only [List.drop_succ_cons, List.drop_zero, List.take_succ_cons, List.take_zero])) (by first | rfl | assumption | (simp [*]; (first | done | fail)) | (simp [*]; (first | done | fail)))) | (exact Ld.at (tyrow rfl) rfl (At.per (by assumption)) (by first | rfl | assumption | (simp [*]; (first | done | fail)) | (simp [*]; (first | done | fail)))) | (exact Ld.atLst (tyrow rfl) rfl (by ((repeat (first | with_reducible exact Sel.head | apply Sel.tail)); (first | done | fail))) rfl (by first | exact take0 (by first | rfl | assumption | (simp [*]; (first | done | fail)) | (simp [*]; (first | done | fail))) | assumption | exact take_app (by first | rfl | assumption | (simp [*]; (first | done | fail)) | (simp [*]; (first | done | fail))) | (conv => lhs; simp only [List.drop_succ_cons, List.drop_zero, List.take_succ_cons, List.take_zero])) (by first | rfl | assumption | (simp [*]; (first | done | fail)) | (simp [*]; (first | done | fail)))))) ?_ | refine XPA.off rfl rfl (by first | exact Gd.isB rfl rfl rfl | exact Gd.un rfl rfl | (apply Gd.isQ; rfl; rfl; exact (by first | exact (rfl : decide _ = true) | exact (rfl : decide _ = false) | (refine decide_eq_true ?_; assumption) | (refine decide_eq_false ?_; assumption) | (refine decide_eq_true ?_; omega) | (refine decide_eq_false ?_; omega)); rfl)) ?_
      first | refine XPA.pu rfl rfl (by first | exact Gd.free | exact Gd.isB rfl rfl rfl | (apply Gd.isQ; rfl; rfl; exact (by first | exact (rfl : decide _ = true) | exact (rfl : decide _ = false) | (refine decide_eq_true ?_; assumption) | (refine decide_eq_false ?_; assumption) | (refine decide_eq_true ?_; omega) | (refine decide_eq_false ?_; omega)); rfl)) (Rd.eqlWords (tyrow rfl) rfl (tyrow rfl) rfl rfl (by kernel_rfl) rfl rfl (by first | assumption | rfl | (simp; (first | done | fail)) | (simp [*]; (first | done | fail))) (by first | assumption | rfl | (simp; (first | done | fail)) | (simp [*]; (first | done | fail)))) ?_ | refine XPA.puOff rfl rfl (by first | exact Gd.isB rfl rfl rfl | exact Gd.un rfl rfl | (apply Gd.isQ; rfl; rfl; exact (by first | exact (rfl : decide _ = true) | exact (rfl : decide _ = false) | (refine decide_eq_true ?_; assumption) | (refine decide_eq_false ?_; assumption) | (refine decide_eq_true ?_; omega) | (refine decide_eq_false ?_; omega)); rfl)) ?_
      refine XPA.pu rfl rfl Gd.free (by first | exact Rd.pickT rfl (by with_reducible (conv => lhs; whnf)) | exact Rd.pickF rfl (by with_reducible (conv => lhs; whnf)) | exact Rd.pickP rfl (by first | exact (rfl : decide _ = true) | exact (rfl : decide _ = false) | (refine decide_eq_true ?_; assumption) | (refine decide_eq_false ?_; assumption) | (refine decide_eq_true ?_; omega) | (refine decide_eq_false ?_; omega)) (by with_reducible (conv => lhs; whnf))) ?_
      refine XPA.pu rfl rfl Gd.free (Rd.assign (by with_reducible (conv => lhs; whnf))) ?_
      refine XPA.nil ?_
      refine DA.inb_normal ?_
      refine DA.thn_normal ?_
      refine XA.region ?_
      refine XOA.rd rfl (Rd.move (by with_reducible (conv => lhs; whnf))) ?_
      refine XOA.rd rfl (by first | exact Rd.addi rfl rfl rfl (by omega) | exact Rd.add rfl rfl) ?_
      refine XOA.rd rfl (Rd.assign (by with_reducible (conv => lhs; whnf))) ?_
      refine XOA.nil ?_
      refine DA.thn_normal ?_
      refine ⟨(Keep.upd (Keep.upd (Keep.upd (Keep.upd (Keep.upd (Keep.upd (Keep.upd (Keep.upd (Keep.upd (Keep.upd (Keep.upd (Keep.upd (Keep.upd (Keep.upd (Keep.upd (Keep.upd (Keep.upd (Keep.upd (Keep.upd (Keep.hav (Keep.hav (Keep.refl _ _) rfl) rfl) rfl) rfl) rfl) rfl) rfl) rfl) rfl) rfl) rfl) rfl) rfl) rfl) rfl) rfl) rfl) rfl) rfl) rfl) rfl), k + 1, _, (by (repeat (first | exact trivial | refine ⟨rfl, ?_⟩ | refine ⟨Eq.trans rfl (congrArg Value.bool hmat.symm), ?_⟩)); (first | done | fail)), ?_, ⟨rfl, hlt2, rfl⟩, (by omega)⟩
      · exact (by (repeat (first | exact Ent.nil _ | (apply Ent.sel; focus (first | ((repeat (first | with_reducible exact Sel.head | apply Sel.tail)); done) | ((repeat (first | exact Sel.head | apply Sel.tail)); done))) | apply Ent.selNil | apply Ent.selEmp)); (first | done | fail))
  have hkn : k = nw := by omega
  subst hkn
  rw [hend]
  refine XA.exit ?_
  refine DA.thn_exit ?_
  refine DA.thn_exit ?_
  refine DA.inb_same ?_
  refine DA.thn_normal ?_
  refine XA.seq ?_
  refine XA.region ?_
  refine XOA.rd rfl (Rd.move (by with_reducible (conv => lhs; whnf))) ?_
  refine XOA.wr0 rfl (WrA.callE (by (repeat (first | exact Ent.all _ | (apply Ent.take; focus (first | ((repeat (first | with_reducible exact Sel.head | apply Sel.tail)); done) | ((repeat (first | exact Sel.head | apply Sel.tail)); done))) | apply Ent.takeNil | apply Ent.takeEmp)); (first | done | fail)) (sure_a σ b dd) rfl) ?_
  rintro _ _ _ ⟨_, ⟨gs, cs, rfl, rfl, rfl⟩, rfl⟩
  refine XOA.re (by conv => lhs; dsimp only [List.cons_append, List.nil_append]) ?_
  refine XOA.rd rfl (Rd.assign (by with_reducible (conv => lhs; whnf))) ?_
  refine XOA.nil ?_
  refine DA.thn_normal ?_
  refine XA.seq ?_
  have hww : w = w := rfl
  by_cases hmm : m = 18446744073709551615
  · have hall := hall hmm
    have hnm : ¬ (m ≠ 18446744073709551615) := fun h => h hmm
    refine XA.draw (by kernel_rfl) _ _ [] [(0, .pu), (1, .pu), (2, .pu), (3, .pu), (4, .pu), (5, .rd), (6, .rd), (7, .pu), (8, .pu), (9, .pu), (10, .pu), (11, .pu), (12, .pu), (13, .pu), (14, .pu), (15, .pu), (16, .pu), (17, .pu), (18, .pu), (19, .rd), (20, .rd), (21, .pu), (22, .pu), (23, .pu), (24, .pu), (25, .wr), (26, .pu), (27, .pu), (28, .pu)] (by kernel_rfl) (PH.sub.refl _) (Ent.sel (R := blk g13 _ _) (by ((repeat (first | with_reducible exact Sel.head | apply Sel.tail)); (first | done | fail))) (Ent.sel (R := blk g12 _ _) (by ((repeat (first | with_reducible exact Sel.head | apply Sel.tail)); (first | done | fail))) (Ent.sel (R := lst 32 8 (.slice (some ⟨gs, 0, none⟩) 34 cs) _ _) (by ((repeat (first | with_reducible exact Sel.head | apply Sel.tail)); (first | done | fail))) (Ent.nil _)))) ?_
    refine XPA.pu rfl rfl Gd.free (Rd.move (by with_reducible (conv => lhs; whnf))) ?_
    refine XPA.pu rfl rfl Gd.free (Rd.move (by with_reducible (conv => lhs; whnf))) ?_
    first | refine XPA.pu rfl rfl (by first | exact Gd.free | exact Gd.isB rfl rfl rfl | (apply Gd.isQ; rfl; rfl; exact (by first | exact (rfl : decide _ = true) | exact (rfl : decide _ = false) | (refine decide_eq_true ?_; assumption) | (refine decide_eq_false ?_; assumption) | (refine decide_eq_true ?_; omega) | (refine decide_eq_false ?_; omega)); rfl)) (Rd.move (by with_reducible (conv => lhs; whnf))) ?_ | refine XPA.puOff rfl rfl (by first | exact Gd.isB rfl rfl rfl | exact Gd.un rfl rfl | (apply Gd.isQ; rfl; rfl; exact (by first | exact (rfl : decide _ = true) | exact (rfl : decide _ = false) | (refine decide_eq_true ?_; assumption) | (refine decide_eq_false ?_; assumption) | (refine decide_eq_true ?_; omega) | (refine decide_eq_false ?_; omega)); rfl)) ?_
    first | refine XPA.pu rfl rfl (by first | exact Gd.free | exact Gd.isB rfl rfl rfl | (apply Gd.isQ; rfl; rfl; exact (by first | exact (rfl : decide _ = true) | exact (rfl : decide _ = false) | (refine decide_eq_true ?_; assumption) | (refine decide_eq_false ?_; assumption) | (refine decide_eq_true ?_; omega) | (refine decide_eq_false ?_; omega)); rfl)) (Rd.neq rfl rfl) ?_ | refine XPA.puOff rfl rfl (by first | exact Gd.isB rfl rfl rfl | exact Gd.un rfl rfl | (apply Gd.isQ; rfl; rfl; exact (by first | exact (rfl : decide _ = true) | exact (rfl : decide _ = false) | (refine decide_eq_true ?_; assumption) | (refine decide_eq_false ?_; assumption) | (refine decide_eq_true ?_; omega) | (refine decide_eq_false ?_; omega)); rfl)) ?_
    first | refine XPA.pu rfl rfl (by first | exact Gd.free | exact Gd.isB rfl rfl rfl | (apply Gd.isQ; rfl; rfl; exact (by first | exact (rfl : decide _ = true) | exact (rfl : decide _ = false) | (refine decide_eq_true ?_; assumption) | (refine decide_eq_false ?_; assumption) | (refine decide_eq_true ?_; omega) | (refine decide_eq_false ?_; omega)); rfl)) (Rd.move (by with_reducible (conv => lhs; whnf))) ?_ | refine XPA.puOff rfl rfl (by first | exact Gd.isB rfl rfl rfl | exact Gd.un rfl rfl | (apply Gd.isQ; rfl; rfl; exact (by first | exact (rfl : decide _ = true) | exact (rfl : decide _ = false) | (refine decide_eq_true ?_; assumption) | (refine decide_eq_false ?_; assumption) | (refine decide_eq_true ?_; omega) | (refine decide_eq_false ?_; omega)); rfl)) ?_
    first | refine XPA.rd rfl rfl (by first | exact Gd.free | exact Gd.isB rfl rfl rfl | (apply Gd.isQ; rfl; rfl; exact (by first | exact (rfl : decide _ = true) | exact (rfl : decide _ = false) | (refine decide_eq_true ?_; assumption) | (refine decide_eq_false ?_; assumption) | (refine decide_eq_true ?_; omega) | (refine decide_eq_false ?_; omega)); rfl)) (Rd.load rfl (by first | (exact Ld.atBlk (tyrow rfl) rfl (by ((repeat (first | with_reducible exact Sel.head | apply Sel.tail)); (first | done | fail))) rfl (by first | exact take0 (by first | rfl | assumption | (simp [*]; (first | done | fail)) | (simp [*]; (first | done | fail))) | assumption | exact take_app (by first | rfl | assumption | (simp [*]; (first | done | fail)) | (simp [*]; (first | done | fail))) | (conv => lhs; simp only [List.drop_succ_cons, List.drop_zero, List.take_succ_cons, List.take_zero])) (by first | rfl | assumption | (simp [*]; (first | done | fail)) | (simp [*]; (first | done | fail)))) | (exact Ld.at (tyrow rfl) rfl (At.per (by assumption)) (by first | rfl | assumption | (simp [*]; (first | done | fail)) | (simp [*]; (first | done | fail)))) | (exact Ld.atLst (tyrow rfl) rfl (by ((repeat (first | with_reducible exact Sel.head | apply Sel.tail)); (first | done | fail))) rfl (by first | exact take0 (by first | rfl | assumption | (simp [*]; (first | done | fail)) | (simp [*]; (first | done | fail))) | assumption | exact take_app (by first | rfl | assumption | (simp [*]; (first | done | fail)) | (simp [*]; (first | done | fail))) | (conv => lhs; simp only [List.drop_succ_cons, List.drop_zero, List.take_succ_cons, List.take_zero])) (by first | rfl | assumption | (simp [*]; (first | done | fail)) | (simp [*]; (first | done | fail)))))) ?_ | refine XPA.off rfl rfl (by first | exact Gd.isB rfl rfl rfl | exact Gd.un rfl rfl | (apply Gd.isQ; rfl; rfl; exact (by first | exact (rfl : decide _ = true) | exact (rfl : decide _ = false) | (refine decide_eq_true ?_; assumption) | (refine decide_eq_false ?_; assumption) | (refine decide_eq_true ?_; omega) | (refine decide_eq_false ?_; omega)); rfl)) ?_
    first | refine XPA.rd rfl rfl (by first | exact Gd.free | exact Gd.isB rfl rfl rfl | (apply Gd.isQ; rfl; rfl; exact (by first | exact (rfl : decide _ = true) | exact (rfl : decide _ = false) | (refine decide_eq_true ?_; assumption) | (refine decide_eq_false ?_; assumption) | (refine decide_eq_true ?_; omega) | (refine decide_eq_false ?_; omega)); rfl)) (Rd.load rfl (by first | (exact Ld.atBlk (tyrow rfl) rfl (by ((repeat (first | with_reducible exact Sel.head | apply Sel.tail)); (first | done | fail))) rfl (by first | exact take0 (by first | rfl | assumption | (simp [*]; (first | done | fail)) | (simp [*]; (first | done | fail))) | assumption | exact take_app (by first | rfl | assumption | (simp [*]; (first | done | fail)) | (simp [*]; (first | done | fail))) | (conv => lhs; simp only [List.drop_succ_cons, List.drop_zero, List.take_succ_cons, List.take_zero])) (by first | rfl | assumption | (simp [*]; (first | done | fail)) | (simp [*]; (first | done | fail)))) | (exact Ld.at (tyrow rfl) rfl (At.per (by assumption)) (by first | rfl | assumption | (simp [*]; (first | done | fail)) | (simp [*]; (first | done | fail)))) | (exact Ld.atLst (tyrow rfl) rfl (by ((repeat (first | with_reducible exact Sel.head | apply Sel.tail)); (first | done | fail))) rfl (by first | exact take0 (by first | rfl | assumption | (simp [*]; (first | done | fail)) | (simp [*]; (first | done | fail))) | assumption | exact take_app (by first | rfl | assumption | (simp [*]; (first | done | fail)) | (simp [*]; (first | done | fail))) | (conv => lhs; simp only [List.drop_succ_cons, List.drop_zero, List.take_succ_cons, List.take_zero])) (by first | rfl | assumption | (simp [*]; (first | done | fail)) | (simp [*]; (first | done | fail)))))) ?_ | refine XPA.off rfl rfl (by first | exact Gd.isB rfl rfl rfl | exact Gd.un rfl rfl | (apply Gd.isQ; rfl; rfl; exact (by first | exact (rfl : decide _ = true) | exact (rfl : decide _ = false) | (refine decide_eq_true ?_; assumption) | (refine decide_eq_false ?_; assumption) | (refine decide_eq_true ?_; omega) | (refine decide_eq_false ?_; omega)); rfl)) ?_
    first | refine XPA.pu rfl rfl (by first | exact Gd.free | exact Gd.isB rfl rfl rfl | (apply Gd.isQ; rfl; rfl; exact (by first | exact (rfl : decide _ = true) | exact (rfl : decide _ = false) | (refine decide_eq_true ?_; assumption) | (refine decide_eq_false ?_; assumption) | (refine decide_eq_true ?_; omega) | (refine decide_eq_false ?_; omega)); rfl)) (Rd.eqlWords (tyrow rfl) rfl (tyrow rfl) rfl rfl (by kernel_rfl) rfl rfl (by first | assumption | rfl | (simp; (first | done | fail)) | (simp [*]; (first | done | fail))) (by first | assumption | rfl | (simp; (first | done | fail)) | (simp [*]; (first | done | fail)))) ?_ | refine XPA.puOff rfl rfl (by first | exact Gd.isB rfl rfl rfl | exact Gd.un rfl rfl | (apply Gd.isQ; rfl; rfl; exact (by first | exact (rfl : decide _ = true) | exact (rfl : decide _ = false) | (refine decide_eq_true ?_; assumption) | (refine decide_eq_false ?_; assumption) | (refine decide_eq_true ?_; omega) | (refine decide_eq_false ?_; omega)); rfl)) ?_
    first | refine XPA.pu rfl rfl (by first | exact Gd.free | exact Gd.isB rfl rfl rfl | (apply Gd.isQ; rfl; rfl; exact (by first | exact (rfl : decide _ = true) | exact (rfl : decide _ = false) | (refine decide_eq_true ?_; assumption) | (refine decide_eq_false ?_; assumption) | (refine decide_eq_true ?_; omega) | (refine decide_eq_false ?_; omega)); rfl)) (by first | exact Rd.pickT rfl (by with_reducible (conv => lhs; whnf)) | exact Rd.pickF rfl (by with_reducible (conv => lhs; whnf)) | exact Rd.pickP rfl (by first | exact (rfl : decide _ = true) | exact (rfl : decide _ = false) | (refine decide_eq_true ?_; assumption) | (refine decide_eq_false ?_; assumption) | (refine decide_eq_true ?_; omega) | (refine decide_eq_false ?_; omega)) (by with_reducible (conv => lhs; whnf))) ?_ | refine XPA.puOff rfl rfl (by first | exact Gd.isB rfl rfl rfl | exact Gd.un rfl rfl | (apply Gd.isQ; rfl; rfl; exact (by first | exact (rfl : decide _ = true) | exact (rfl : decide _ = false) | (refine decide_eq_true ?_; assumption) | (refine decide_eq_false ?_; assumption) | (refine decide_eq_true ?_; omega) | (refine decide_eq_false ?_; omega)); rfl)) ?_
    refine XPA.pu rfl rfl Gd.free (by first | exact Rd.pickT rfl (by with_reducible (conv => lhs; whnf)) | exact Rd.pickF rfl (by with_reducible (conv => lhs; whnf)) | exact Rd.pickP rfl (by first | exact (rfl : decide _ = true) | exact (rfl : decide _ = false) | (refine decide_eq_true ?_; assumption) | (refine decide_eq_false ?_; assumption) | (refine decide_eq_true ?_; omega) | (refine decide_eq_false ?_; omega)) (by with_reducible (conv => lhs; whnf))) ?_
    refine XPA.pu rfl rfl Gd.free (Rd.move (by with_reducible (conv => lhs; whnf))) ?_
    first | refine XPA.pu rfl rfl (by first | exact Gd.free | exact Gd.isB rfl rfl rfl | (apply Gd.isQ; rfl; rfl; exact (by first | exact (rfl : decide _ = true) | exact (rfl : decide _ = false) | (refine decide_eq_true ?_; assumption) | (refine decide_eq_false ?_; assumption) | (refine decide_eq_true ?_; omega) | (refine decide_eq_false ?_; omega)); rfl)) (Rd.move (by with_reducible (conv => lhs; whnf))) ?_ | refine XPA.puOff rfl rfl (by first | exact Gd.isB rfl rfl rfl | exact Gd.un rfl rfl | (apply Gd.isQ; rfl; rfl; exact (by first | exact (rfl : decide _ = true) | exact (rfl : decide _ = false) | (refine decide_eq_true ?_; assumption) | (refine decide_eq_false ?_; assumption) | (refine decide_eq_true ?_; omega) | (refine decide_eq_false ?_; omega)); rfl)) ?_
    first | refine XPA.pu rfl rfl (by first | exact Gd.free | exact Gd.isB rfl rfl rfl | (apply Gd.isQ; rfl; rfl; exact (by first | exact (rfl : decide _ = true) | exact (rfl : decide _ = false) | (refine decide_eq_true ?_; assumption) | (refine decide_eq_false ?_; assumption) | (refine decide_eq_true ?_; omega) | (refine decide_eq_false ?_; omega)); rfl)) (Rd.lenSlice (tyrow rfl) rfl rfl) ?_ | refine XPA.puOff rfl rfl (by first | exact Gd.isB rfl rfl rfl | exact Gd.un rfl rfl | (apply Gd.isQ; rfl; rfl; exact (by first | exact (rfl : decide _ = true) | exact (rfl : decide _ = false) | (refine decide_eq_true ?_; assumption) | (refine decide_eq_false ?_; assumption) | (refine decide_eq_true ?_; omega) | (refine decide_eq_false ?_; omega)); rfl)) ?_
    first | refine XPA.pu rfl rfl (by first | exact Gd.free | exact Gd.isB rfl rfl rfl | (apply Gd.isQ; rfl; rfl; exact (by first | exact (rfl : decide _ = true) | exact (rfl : decide _ = false) | (refine decide_eq_true ?_; assumption) | (refine decide_eq_false ?_; assumption) | (refine decide_eq_true ?_; omega) | (refine decide_eq_false ?_; omega)); rfl)) (Rd.eql rfl rfl) ?_ | refine XPA.puOff rfl rfl (by first | exact Gd.isB rfl rfl rfl | exact Gd.un rfl rfl | (apply Gd.isQ; rfl; rfl; exact (by first | exact (rfl : decide _ = true) | exact (rfl : decide _ = false) | (refine decide_eq_true ?_; assumption) | (refine decide_eq_false ?_; assumption) | (refine decide_eq_true ?_; omega) | (refine decide_eq_false ?_; omega)); rfl)) ?_
    refine XPA.pu rfl rfl Gd.free (by first | exact Rd.pickT rfl (by with_reducible (conv => lhs; whnf)) | exact Rd.pickF rfl (by with_reducible (conv => lhs; whnf)) | exact Rd.pickP rfl (by first | exact (rfl : decide _ = true) | exact (rfl : decide _ = false) | (refine decide_eq_true ?_; assumption) | (refine decide_eq_false ?_; assumption) | (refine decide_eq_true ?_; omega) | (refine decide_eq_false ?_; omega)) (by with_reducible (conv => lhs; whnf))) ?_
    refine XPA.pu rfl rfl Gd.free (Rd.move (by with_reducible (conv => lhs; whnf))) ?_
    first | refine XPA.pu rfl rfl (by first | exact Gd.free | exact Gd.isB rfl rfl rfl | (apply Gd.isQ; rfl; rfl; exact (by first | exact (rfl : decide _ = true) | exact (rfl : decide _ = false) | (refine decide_eq_true ?_; assumption) | (refine decide_eq_false ?_; assumption) | (refine decide_eq_true ?_; omega) | (refine decide_eq_false ?_; omega)); rfl)) (Rd.move (by with_reducible (conv => lhs; whnf))) ?_ | refine XPA.puOff rfl rfl (by first | exact Gd.isB rfl rfl rfl | exact Gd.un rfl rfl | (apply Gd.isQ; rfl; rfl; exact (by first | exact (rfl : decide _ = true) | exact (rfl : decide _ = false) | (refine decide_eq_true ?_; assumption) | (refine decide_eq_false ?_; assumption) | (refine decide_eq_true ?_; omega) | (refine decide_eq_false ?_; omega)); rfl)) ?_
    first | refine XPA.pu rfl rfl (by first | exact Gd.free | exact Gd.isB rfl rfl rfl | (apply Gd.isQ; rfl; rfl; exact (by first | exact (rfl : decide _ = true) | exact (rfl : decide _ = false) | (refine decide_eq_true ?_; assumption) | (refine decide_eq_false ?_; assumption) | (refine decide_eq_true ?_; omega) | (refine decide_eq_false ?_; omega)); rfl)) (Rd.move (by with_reducible (conv => lhs; whnf))) ?_ | refine XPA.puOff rfl rfl (by first | exact Gd.isB rfl rfl rfl | exact Gd.un rfl rfl | (apply Gd.isQ; rfl; rfl; exact (by first | exact (rfl : decide _ = true) | exact (rfl : decide _ = false) | (refine decide_eq_true ?_; assumption) | (refine decide_eq_false ?_; assumption) | (refine decide_eq_true ?_; omega) | (refine decide_eq_false ?_; omega)); rfl)) ?_
    first | refine XPA.pu rfl rfl (by first | exact Gd.free | exact Gd.isB rfl rfl rfl | (apply Gd.isQ; rfl; rfl; exact (by first | exact (rfl : decide _ = true) | exact (rfl : decide _ = false) | (refine decide_eq_true ?_; assumption) | (refine decide_eq_false ?_; assumption) | (refine decide_eq_true ?_; omega) | (refine decide_eq_false ?_; omega)); rfl)) (by apply Rd.indexSlice; exact tyrow rfl; rfl; exact tyrow rfl; rfl; rfl; exact (by first | omega | decide | (simp; omega)); exact (by with_reducible (conv => lhs; whnf)); exact (by first | (conv => lhs; simp only [Nat.reduceAdd, Nat.zero_add, Nat.add_zero, Nat.reduceMul, Nat.mul_one, Int.toNat_natCast, Int.reduceToNat, Nat.zero_mul]) | rfl)) ?_ | refine XPA.puOff rfl rfl (by first | exact Gd.isB rfl rfl rfl | exact Gd.un rfl rfl | (apply Gd.isQ; rfl; rfl; exact (by first | exact (rfl : decide _ = true) | exact (rfl : decide _ = false) | (refine decide_eq_true ?_; assumption) | (refine decide_eq_false ?_; assumption) | (refine decide_eq_true ?_; omega) | (refine decide_eq_false ?_; omega)); rfl)) ?_
    first | refine XPA.rd rfl rfl (by first | exact Gd.free | exact Gd.isB rfl rfl rfl | (apply Gd.isQ; rfl; rfl; exact (by first | exact (rfl : decide _ = true) | exact (rfl : decide _ = false) | (refine decide_eq_true ?_; assumption) | (refine decide_eq_false ?_; assumption) | (refine decide_eq_true ?_; omega) | (refine decide_eq_false ?_; omega)); rfl)) (Rd.load rfl (by first | (exact Ld.atBlk (tyrow rfl) rfl (by ((repeat (first | with_reducible exact Sel.head | apply Sel.tail)); (first | done | fail))) rfl (by first | exact take0 (by first | rfl | assumption | (simp [*]; (first | done | fail)) | (simp [*]; (first | done | fail))) | assumption | exact take_app (by first | rfl | assumption | (simp [*]; (first | done | fail)) | (simp [*]; (first | done | fail))) | (conv => lhs; simp only [List.drop_succ_cons, List.drop_zero, List.take_succ_cons, List.take_zero])) (by first | rfl | assumption | (simp [*]; (first | done | fail)) | (simp [*]; (first | done | fail)))) | (exact Ld.at (tyrow rfl) rfl (At.per (by assumption)) (by first | rfl | assumption | (simp [*]; (first | done | fail)) | (simp [*]; (first | done | fail)))) | (exact Ld.atLst (tyrow rfl) rfl (by ((repeat (first | with_reducible exact Sel.head | apply Sel.tail)); (first | done | fail))) rfl (by first | exact take0 (by first | rfl | assumption | (simp [*]; (first | done | fail)) | (simp [*]; (first | done | fail))) | assumption | exact take_app (by first | rfl | assumption | (simp [*]; (first | done | fail)) | (simp [*]; (first | done | fail))) | (conv => lhs; simp only [List.drop_succ_cons, List.drop_zero, List.take_succ_cons, List.take_zero])) (by first | rfl | assumption | (simp [*]; (first | done | fail)) | (simp [*]; (first | done | fail)))))) ?_ | refine XPA.off rfl rfl (by first | exact Gd.isB rfl rfl rfl | exact Gd.un rfl rfl | (apply Gd.isQ; rfl; rfl; exact (by first | exact (rfl : decide _ = true) | exact (rfl : decide _ = false) | (refine decide_eq_true ?_; assumption) | (refine decide_eq_false ?_; assumption) | (refine decide_eq_true ?_; omega) | (refine decide_eq_false ?_; omega)); rfl)) ?_
    first | refine XPA.rd rfl rfl (by first | exact Gd.free | exact Gd.isB rfl rfl rfl | (apply Gd.isQ; rfl; rfl; exact (by first | exact (rfl : decide _ = true) | exact (rfl : decide _ = false) | (refine decide_eq_true ?_; assumption) | (refine decide_eq_false ?_; assumption) | (refine decide_eq_true ?_; omega) | (refine decide_eq_false ?_; omega)); rfl)) (Rd.load rfl (by first | (exact Ld.atBlk (tyrow rfl) rfl (by ((repeat (first | with_reducible exact Sel.head | apply Sel.tail)); (first | done | fail))) rfl (by first | exact take0 (by first | rfl | assumption | (simp [*]; (first | done | fail)) | (simp [*]; (first | done | fail))) | assumption | exact take_app (by first | rfl | assumption | (simp [*]; (first | done | fail)) | (simp [*]; (first | done | fail))) | (conv => lhs; simp only [List.drop_succ_cons, List.drop_zero, List.take_succ_cons, List.take_zero])) (by first | rfl | assumption | (simp [*]; (first | done | fail)) | (simp [*]; (first | done | fail)))) | (exact Ld.at (tyrow rfl) rfl (At.per (by assumption)) (by first | rfl | assumption | (simp [*]; (first | done | fail)) | (simp [*]; (first | done | fail)))) | (exact Ld.atLst (tyrow rfl) rfl (by ((repeat (first | with_reducible exact Sel.head | apply Sel.tail)); (first | done | fail))) rfl (by first | exact take0 (by first | rfl | assumption | (simp [*]; (first | done | fail)) | (simp [*]; (first | done | fail))) | assumption | exact take_app (by first | rfl | assumption | (simp [*]; (first | done | fail)) | (simp [*]; (first | done | fail))) | (conv => lhs; simp only [List.drop_succ_cons, List.drop_zero, List.take_succ_cons, List.take_zero])) (by first | rfl | assumption | (simp [*]; (first | done | fail)) | (simp [*]; (first | done | fail)))))) ?_ | refine XPA.off rfl rfl (by first | exact Gd.isB rfl rfl rfl | exact Gd.un rfl rfl | (apply Gd.isQ; rfl; rfl; exact (by first | exact (rfl : decide _ = true) | exact (rfl : decide _ = false) | (refine decide_eq_true ?_; assumption) | (refine decide_eq_false ?_; assumption) | (refine decide_eq_true ?_; omega) | (refine decide_eq_false ?_; omega)); rfl)) ?_
    first | refine XPA.pu rfl rfl (by first | exact Gd.free | exact Gd.isB rfl rfl rfl | (apply Gd.isQ; rfl; rfl; exact (by first | exact (rfl : decide _ = true) | exact (rfl : decide _ = false) | (refine decide_eq_true ?_; assumption) | (refine decide_eq_false ?_; assumption) | (refine decide_eq_true ?_; omega) | (refine decide_eq_false ?_; omega)); rfl)) (Rd.eqlWords (tyrow rfl) rfl (tyrow rfl) rfl rfl (by kernel_rfl) rfl rfl (by first | assumption | rfl | (simp; (first | done | fail)) | (simp [*]; (first | done | fail))) (by first | assumption | rfl | (simp; (first | done | fail)) | (simp [*]; (first | done | fail)))) ?_ | refine XPA.puOff rfl rfl (by first | exact Gd.isB rfl rfl rfl | exact Gd.un rfl rfl | (apply Gd.isQ; rfl; rfl; exact (by first | exact (rfl : decide _ = true) | exact (rfl : decide _ = false) | (refine decide_eq_true ?_; assumption) | (refine decide_eq_false ?_; assumption) | (refine decide_eq_true ?_; omega) | (refine decide_eq_false ?_; omega)); rfl)) ?_
    refine XPA.pu rfl rfl Gd.free (by first | exact Rd.pickT rfl (by with_reducible (conv => lhs; whnf)) | exact Rd.pickF rfl (by with_reducible (conv => lhs; whnf)) | exact Rd.pickP rfl (by first | exact (rfl : decide _ = true) | exact (rfl : decide _ = false) | (refine decide_eq_true ?_; assumption) | (refine decide_eq_false ?_; assumption) | (refine decide_eq_true ?_; omega) | (refine decide_eq_false ?_; omega)) (by with_reducible (conv => lhs; whnf))) ?_
    refine XPA.pu rfl rfl Gd.free (Rd.move (by with_reducible (conv => lhs; whnf))) ?_
    first | refine XPA.pu rfl rfl (by first | exact Gd.free | exact Gd.isB rfl rfl rfl | (apply Gd.isQ; rfl; rfl; exact (by first | exact (rfl : decide _ = true) | exact (rfl : decide _ = false) | (refine decide_eq_true ?_; assumption) | (refine decide_eq_false ?_; assumption) | (refine decide_eq_true ?_; omega) | (refine decide_eq_false ?_; omega)); rfl)) (Rd.move (by with_reducible (conv => lhs; whnf))) ?_ | refine XPA.puOff rfl rfl (by first | exact Gd.isB rfl rfl rfl | exact Gd.un rfl rfl | (apply Gd.isQ; rfl; rfl; exact (by first | exact (rfl : decide _ = true) | exact (rfl : decide _ = false) | (refine decide_eq_true ?_; assumption) | (refine decide_eq_false ?_; assumption) | (refine decide_eq_true ?_; omega) | (refine decide_eq_false ?_; omega)); rfl)) ?_
    refine XPA.wr0 rfl rfl (by first | exact Gd.free | exact Gd.isB rfl rfl rfl | (apply Gd.isQ; rfl; rfl; exact (by first | exact (rfl : decide _ = true) | exact (rfl : decide _ = false) | (refine decide_eq_true ?_; assumption) | (refine decide_eq_false ?_; assumption) | (refine decide_eq_true ?_; omega) | (refine decide_eq_false ?_; omega)); rfl)) (WrA.callE (by (repeat (first | exact Ent.all _ | (apply Ent.take; focus (first | ((repeat (first | with_reducible exact Sel.head | apply Sel.tail)); done) | ((repeat (first | exact Sel.head | apply Sel.tail)); done))) | apply Ent.takeNil | apply Ent.takeEmp)); (first | done | fail)) (wait_a σ b dd) rfl) ?_
    rintro _ _ _ ⟨_, ⟨rfl, rfl, rfl⟩, rfl⟩
    refine ⟨⟨(by first | exact PH.sub.refl _ | assumption), (by (repeat (first | exact Ent.nil _ | (apply Ent.sel; focus (first | ((repeat (first | with_reducible exact Sel.head | apply Sel.tail)); done) | ((repeat (first | exact Sel.head | apply Sel.tail)); done))) | apply Ent.selNil | apply Ent.selEmp)); (first | done | fail))⟩, XPA.re (by conv => lhs; dsimp only [List.cons_append, List.nil_append]) ?_⟩
    first | refine XPA.pu rfl rfl (by first | exact Gd.free | exact Gd.isB rfl rfl rfl | (apply Gd.isQ; rfl; rfl; exact (by first | exact (rfl : decide _ = true) | exact (rfl : decide _ = false) | (refine decide_eq_true ?_; assumption) | (refine decide_eq_false ?_; assumption) | (refine decide_eq_true ?_; omega) | (refine decide_eq_false ?_; omega)); rfl)) (Rd.eql rfl rfl) ?_ | refine XPA.puOff rfl rfl (by first | exact Gd.isB rfl rfl rfl | exact Gd.un rfl rfl | (apply Gd.isQ; rfl; rfl; exact (by first | exact (rfl : decide _ = true) | exact (rfl : decide _ = false) | (refine decide_eq_true ?_; assumption) | (refine decide_eq_false ?_; assumption) | (refine decide_eq_true ?_; omega) | (refine decide_eq_false ?_; omega)); rfl)) ?_
    refine XPA.pu rfl rfl Gd.free (by first | exact Rd.pickT rfl (by with_reducible (conv => lhs; whnf)) | exact Rd.pickF rfl (by with_reducible (conv => lhs; whnf)) | exact Rd.pickP rfl (by first | exact (rfl : decide _ = true) | exact (rfl : decide _ = false) | (refine decide_eq_true ?_; assumption) | (refine decide_eq_false ?_; assumption) | (refine decide_eq_true ?_; omega) | (refine decide_eq_false ?_; omega)) (by with_reducible (conv => lhs; whnf))) ?_
    refine XPA.pu rfl rfl Gd.free (Rd.assign (by with_reducible (conv => lhs; whnf))) ?_
    refine XPA.nil ?_
    refine DA.thn_normal ?_
    refine XA.ret ?_
    exact bodyA.ret (ResA.one rfl rfl) (Ent.nil _) ⟨by rw [hwt]; rfl, .refl _⟩
  · 
    refine XA.draw (by kernel_rfl) _ _ [] [(0, .pu), (1, .pu), (2, .pu), (3, .pu), (4, .pu), (5, .rd), (6, .rd), (7, .pu), (8, .pu), (9, .pu), (10, .pu), (11, .pu), (12, .pu), (13, .pu), (14, .pu), (15, .pu), (16, .pu), (17, .pu), (18, .pu), (19, .rd), (20, .rd), (21, .pu), (22, .pu), (23, .pu), (24, .pu), (25, .wr), (26, .pu), (27, .pu), (28, .pu)] (by kernel_rfl) (PH.sub.refl _) (Ent.sel (R := blk g13 _ _) (by ((repeat (first | with_reducible exact Sel.head | apply Sel.tail)); (first | done | fail))) (Ent.sel (R := blk g12 _ _) (by ((repeat (first | with_reducible exact Sel.head | apply Sel.tail)); (first | done | fail))) (Ent.sel (R := lst 32 8 (.slice (some ⟨gs, 0, none⟩) 34 cs) _ _) (by ((repeat (first | with_reducible exact Sel.head | apply Sel.tail)); (first | done | fail))) (Ent.nil _)))) ?_
    refine XPA.pu rfl rfl Gd.free (Rd.move (by with_reducible (conv => lhs; whnf))) ?_
    refine XPA.pu rfl rfl Gd.free (Rd.move (by with_reducible (conv => lhs; whnf))) ?_
    first | refine XPA.pu rfl rfl (by first | exact Gd.free | exact Gd.isB rfl rfl rfl | (apply Gd.isQ; rfl; rfl; exact (by first | exact (rfl : decide _ = true) | exact (rfl : decide _ = false) | (refine decide_eq_true ?_; assumption) | (refine decide_eq_false ?_; assumption) | (refine decide_eq_true ?_; omega) | (refine decide_eq_false ?_; omega)); rfl)) (Rd.move (by with_reducible (conv => lhs; whnf))) ?_ | refine XPA.puOff rfl rfl (by first | exact Gd.isB rfl rfl rfl | exact Gd.un rfl rfl | (apply Gd.isQ; rfl; rfl; exact (by first | exact (rfl : decide _ = true) | exact (rfl : decide _ = false) | (refine decide_eq_true ?_; assumption) | (refine decide_eq_false ?_; assumption) | (refine decide_eq_true ?_; omega) | (refine decide_eq_false ?_; omega)); rfl)) ?_
    first | refine XPA.pu rfl rfl (by first | exact Gd.free | exact Gd.isB rfl rfl rfl | (apply Gd.isQ; rfl; rfl; exact (by first | exact (rfl : decide _ = true) | exact (rfl : decide _ = false) | (refine decide_eq_true ?_; assumption) | (refine decide_eq_false ?_; assumption) | (refine decide_eq_true ?_; omega) | (refine decide_eq_false ?_; omega)); rfl)) (Rd.neq rfl rfl) ?_ | refine XPA.puOff rfl rfl (by first | exact Gd.isB rfl rfl rfl | exact Gd.un rfl rfl | (apply Gd.isQ; rfl; rfl; exact (by first | exact (rfl : decide _ = true) | exact (rfl : decide _ = false) | (refine decide_eq_true ?_; assumption) | (refine decide_eq_false ?_; assumption) | (refine decide_eq_true ?_; omega) | (refine decide_eq_false ?_; omega)); rfl)) ?_
    first | refine XPA.pu rfl rfl (by first | exact Gd.free | exact Gd.isB rfl rfl rfl | (apply Gd.isQ; rfl; rfl; exact (by first | exact (rfl : decide _ = true) | exact (rfl : decide _ = false) | (refine decide_eq_true ?_; assumption) | (refine decide_eq_false ?_; assumption) | (refine decide_eq_true ?_; omega) | (refine decide_eq_false ?_; omega)); rfl)) (Rd.move (by with_reducible (conv => lhs; whnf))) ?_ | refine XPA.puOff rfl rfl (by first | exact Gd.isB rfl rfl rfl | exact Gd.un rfl rfl | (apply Gd.isQ; rfl; rfl; exact (by first | exact (rfl : decide _ = true) | exact (rfl : decide _ = false) | (refine decide_eq_true ?_; assumption) | (refine decide_eq_false ?_; assumption) | (refine decide_eq_true ?_; omega) | (refine decide_eq_false ?_; omega)); rfl)) ?_
    first | refine XPA.rd rfl rfl (by first | exact Gd.free | exact Gd.isB rfl rfl rfl | (apply Gd.isQ; rfl; rfl; exact (by first | exact (rfl : decide _ = true) | exact (rfl : decide _ = false) | (refine decide_eq_true ?_; assumption) | (refine decide_eq_false ?_; assumption) | (refine decide_eq_true ?_; omega) | (refine decide_eq_false ?_; omega)); rfl)) (Rd.load rfl (by first | (exact Ld.atBlk (tyrow rfl) rfl (by ((repeat (first | with_reducible exact Sel.head | apply Sel.tail)); (first | done | fail))) rfl (by first | exact take0 (by first | rfl | assumption | (simp [*]; (first | done | fail)) | (simp [*]; (first | done | fail))) | assumption | exact take_app (by first | rfl | assumption | (simp [*]; (first | done | fail)) | (simp [*]; (first | done | fail))) | (conv => lhs; simp only [List.drop_succ_cons, List.drop_zero, List.take_succ_cons, List.take_zero])) (by first | rfl | assumption | (simp [*]; (first | done | fail)) | (simp [*]; (first | done | fail)))) | (exact Ld.at (tyrow rfl) rfl (At.per (by assumption)) (by first | rfl | assumption | (simp [*]; (first | done | fail)) | (simp [*]; (first | done | fail)))) | (exact Ld.atLst (tyrow rfl) rfl (by ((repeat (first | with_reducible exact Sel.head | apply Sel.tail)); (first | done | fail))) rfl (by first | exact take0 (by first | rfl | assumption | (simp [*]; (first | done | fail)) | (simp [*]; (first | done | fail))) | assumption | exact take_app (by first | rfl | assumption | (simp [*]; (first | done | fail)) | (simp [*]; (first | done | fail))) | (conv => lhs; simp only [List.drop_succ_cons, List.drop_zero, List.take_succ_cons, List.take_zero])) (by first | rfl | assumption | (simp [*]; (first | done | fail)) | (simp [*]; (first | done | fail)))))) ?_ | refine XPA.off rfl rfl (by first | exact Gd.isB rfl rfl rfl | exact Gd.un rfl rfl | (apply Gd.isQ; rfl; rfl; exact (by first | exact (rfl : decide _ = true) | exact (rfl : decide _ = false) | (refine decide_eq_true ?_; assumption) | (refine decide_eq_false ?_; assumption) | (refine decide_eq_true ?_; omega) | (refine decide_eq_false ?_; omega)); rfl)) ?_
    first | refine XPA.rd rfl rfl (by first | exact Gd.free | exact Gd.isB rfl rfl rfl | (apply Gd.isQ; rfl; rfl; exact (by first | exact (rfl : decide _ = true) | exact (rfl : decide _ = false) | (refine decide_eq_true ?_; assumption) | (refine decide_eq_false ?_; assumption) | (refine decide_eq_true ?_; omega) | (refine decide_eq_false ?_; omega)); rfl)) (Rd.load rfl (by first | (exact Ld.atBlk (tyrow rfl) rfl (by ((repeat (first | with_reducible exact Sel.head | apply Sel.tail)); (first | done | fail))) rfl (by first | exact take0 (by first | rfl | assumption | (simp [*]; (first | done | fail)) | (simp [*]; (first | done | fail))) | assumption | exact take_app (by first | rfl | assumption | (simp [*]; (first | done | fail)) | (simp [*]; (first | done | fail))) | (conv => lhs; simp only [List.drop_succ_cons, List.drop_zero, List.take_succ_cons, List.take_zero])) (by first | rfl | assumption | (simp [*]; (first | done | fail)) | (simp [*]; (first | done | fail)))) | (exact Ld.at (tyrow rfl) rfl (At.per (by assumption)) (by first | rfl | assumption | (simp [*]; (first | done | fail)) | (simp [*]; (first | done | fail)))) | (exact Ld.atLst (tyrow rfl) rfl (by ((repeat (first | with_reducible exact Sel.head | apply Sel.tail)); (first | done | fail))) rfl (by first | exact take0 (by first | rfl | assumption | (simp [*]; (first | done | fail)) | (simp [*]; (first | done | fail))) | assumption | exact take_app (by first | rfl | assumption | (simp [*]; (first | done | fail)) | (simp [*]; (first | done | fail))) | (conv => lhs; simp only [List.drop_succ_cons, List.drop_zero, List.take_succ_cons, List.take_zero])) (by first | rfl | assumption | (simp [*]; (first | done | fail)) | (simp [*]; (first | done | fail)))))) ?_ | refine XPA.off rfl rfl (by first | exact Gd.isB rfl rfl rfl | exact Gd.un rfl rfl | (apply Gd.isQ; rfl; rfl; exact (by first | exact (rfl : decide _ = true) | exact (rfl : decide _ = false) | (refine decide_eq_true ?_; assumption) | (refine decide_eq_false ?_; assumption) | (refine decide_eq_true ?_; omega) | (refine decide_eq_false ?_; omega)); rfl)) ?_
    first | refine XPA.pu rfl rfl (by first | exact Gd.free | exact Gd.isB rfl rfl rfl | (apply Gd.isQ; rfl; rfl; exact (by first | exact (rfl : decide _ = true) | exact (rfl : decide _ = false) | (refine decide_eq_true ?_; assumption) | (refine decide_eq_false ?_; assumption) | (refine decide_eq_true ?_; omega) | (refine decide_eq_false ?_; omega)); rfl)) (Rd.eqlWords (tyrow rfl) rfl (tyrow rfl) rfl rfl (by kernel_rfl) rfl rfl (by first | assumption | rfl | (simp; (first | done | fail)) | (simp [*]; (first | done | fail))) (by first | assumption | rfl | (simp; (first | done | fail)) | (simp [*]; (first | done | fail)))) ?_ | refine XPA.puOff rfl rfl (by first | exact Gd.isB rfl rfl rfl | exact Gd.un rfl rfl | (apply Gd.isQ; rfl; rfl; exact (by first | exact (rfl : decide _ = true) | exact (rfl : decide _ = false) | (refine decide_eq_true ?_; assumption) | (refine decide_eq_false ?_; assumption) | (refine decide_eq_true ?_; omega) | (refine decide_eq_false ?_; omega)); rfl)) ?_
    first | refine XPA.pu rfl rfl (by first | exact Gd.free | exact Gd.isB rfl rfl rfl | (apply Gd.isQ; rfl; rfl; exact (by first | exact (rfl : decide _ = true) | exact (rfl : decide _ = false) | (refine decide_eq_true ?_; assumption) | (refine decide_eq_false ?_; assumption) | (refine decide_eq_true ?_; omega) | (refine decide_eq_false ?_; omega)); rfl)) (by first | exact Rd.pickT rfl (by with_reducible (conv => lhs; whnf)) | exact Rd.pickF rfl (by with_reducible (conv => lhs; whnf)) | exact Rd.pickP rfl (by first | exact (rfl : decide _ = true) | exact (rfl : decide _ = false) | (refine decide_eq_true ?_; assumption) | (refine decide_eq_false ?_; assumption) | (refine decide_eq_true ?_; omega) | (refine decide_eq_false ?_; omega)) (by with_reducible (conv => lhs; whnf))) ?_ | refine XPA.puOff rfl rfl (by first | exact Gd.isB rfl rfl rfl | exact Gd.un rfl rfl | (apply Gd.isQ; rfl; rfl; exact (by first | exact (rfl : decide _ = true) | exact (rfl : decide _ = false) | (refine decide_eq_true ?_; assumption) | (refine decide_eq_false ?_; assumption) | (refine decide_eq_true ?_; omega) | (refine decide_eq_false ?_; omega)); rfl)) ?_
    refine XPA.pu rfl rfl Gd.free (by first | exact Rd.pickT rfl (by with_reducible (conv => lhs; whnf)) | exact Rd.pickF rfl (by with_reducible (conv => lhs; whnf)) | exact Rd.pickP rfl (by first | exact (rfl : decide _ = true) | exact (rfl : decide _ = false) | (refine decide_eq_true ?_; assumption) | (refine decide_eq_false ?_; assumption) | (refine decide_eq_true ?_; omega) | (refine decide_eq_false ?_; omega)) (by with_reducible (conv => lhs; whnf))) ?_
    refine XPA.pu rfl rfl Gd.free (Rd.move (by with_reducible (conv => lhs; whnf))) ?_
    first | refine XPA.pu rfl rfl (by first | exact Gd.free | exact Gd.isB rfl rfl rfl | (apply Gd.isQ; rfl; rfl; exact (by first | exact (rfl : decide _ = true) | exact (rfl : decide _ = false) | (refine decide_eq_true ?_; assumption) | (refine decide_eq_false ?_; assumption) | (refine decide_eq_true ?_; omega) | (refine decide_eq_false ?_; omega)); rfl)) (Rd.move (by with_reducible (conv => lhs; whnf))) ?_ | refine XPA.puOff rfl rfl (by first | exact Gd.isB rfl rfl rfl | exact Gd.un rfl rfl | (apply Gd.isQ; rfl; rfl; exact (by first | exact (rfl : decide _ = true) | exact (rfl : decide _ = false) | (refine decide_eq_true ?_; assumption) | (refine decide_eq_false ?_; assumption) | (refine decide_eq_true ?_; omega) | (refine decide_eq_false ?_; omega)); rfl)) ?_
    first | refine XPA.pu rfl rfl (by first | exact Gd.free | exact Gd.isB rfl rfl rfl | (apply Gd.isQ; rfl; rfl; exact (by first | exact (rfl : decide _ = true) | exact (rfl : decide _ = false) | (refine decide_eq_true ?_; assumption) | (refine decide_eq_false ?_; assumption) | (refine decide_eq_true ?_; omega) | (refine decide_eq_false ?_; omega)); rfl)) (Rd.lenSlice (tyrow rfl) rfl rfl) ?_ | refine XPA.puOff rfl rfl (by first | exact Gd.isB rfl rfl rfl | exact Gd.un rfl rfl | (apply Gd.isQ; rfl; rfl; exact (by first | exact (rfl : decide _ = true) | exact (rfl : decide _ = false) | (refine decide_eq_true ?_; assumption) | (refine decide_eq_false ?_; assumption) | (refine decide_eq_true ?_; omega) | (refine decide_eq_false ?_; omega)); rfl)) ?_
    first | refine XPA.pu rfl rfl (by first | exact Gd.free | exact Gd.isB rfl rfl rfl | (apply Gd.isQ; rfl; rfl; exact (by first | exact (rfl : decide _ = true) | exact (rfl : decide _ = false) | (refine decide_eq_true ?_; assumption) | (refine decide_eq_false ?_; assumption) | (refine decide_eq_true ?_; omega) | (refine decide_eq_false ?_; omega)); rfl)) (Rd.eql rfl rfl) ?_ | refine XPA.puOff rfl rfl (by first | exact Gd.isB rfl rfl rfl | exact Gd.un rfl rfl | (apply Gd.isQ; rfl; rfl; exact (by first | exact (rfl : decide _ = true) | exact (rfl : decide _ = false) | (refine decide_eq_true ?_; assumption) | (refine decide_eq_false ?_; assumption) | (refine decide_eq_true ?_; omega) | (refine decide_eq_false ?_; omega)); rfl)) ?_
    refine XPA.pu rfl rfl Gd.free (by first | exact Rd.pickT rfl (by with_reducible (conv => lhs; whnf)) | exact Rd.pickF rfl (by with_reducible (conv => lhs; whnf)) | exact Rd.pickP rfl (by first | exact (rfl : decide _ = true) | exact (rfl : decide _ = false) | (refine decide_eq_true ?_; assumption) | (refine decide_eq_false ?_; assumption) | (refine decide_eq_true ?_; omega) | (refine decide_eq_false ?_; omega)) (by with_reducible (conv => lhs; whnf))) ?_
    refine XPA.pu rfl rfl Gd.free (Rd.move (by with_reducible (conv => lhs; whnf))) ?_
    first | refine XPA.pu rfl rfl (by first | exact Gd.free | exact Gd.isB rfl rfl rfl | (apply Gd.isQ; rfl; rfl; exact (by first | exact (rfl : decide _ = true) | exact (rfl : decide _ = false) | (refine decide_eq_true ?_; assumption) | (refine decide_eq_false ?_; assumption) | (refine decide_eq_true ?_; omega) | (refine decide_eq_false ?_; omega)); rfl)) (Rd.move (by with_reducible (conv => lhs; whnf))) ?_ | refine XPA.puOff rfl rfl (by first | exact Gd.isB rfl rfl rfl | exact Gd.un rfl rfl | (apply Gd.isQ; rfl; rfl; exact (by first | exact (rfl : decide _ = true) | exact (rfl : decide _ = false) | (refine decide_eq_true ?_; assumption) | (refine decide_eq_false ?_; assumption) | (refine decide_eq_true ?_; omega) | (refine decide_eq_false ?_; omega)); rfl)) ?_
    first | refine XPA.pu rfl rfl (by first | exact Gd.free | exact Gd.isB rfl rfl rfl | (apply Gd.isQ; rfl; rfl; exact (by first | exact (rfl : decide _ = true) | exact (rfl : decide _ = false) | (refine decide_eq_true ?_; assumption) | (refine decide_eq_false ?_; assumption) | (refine decide_eq_true ?_; omega) | (refine decide_eq_false ?_; omega)); rfl)) (Rd.move (by with_reducible (conv => lhs; whnf))) ?_ | refine XPA.puOff rfl rfl (by first | exact Gd.isB rfl rfl rfl | exact Gd.un rfl rfl | (apply Gd.isQ; rfl; rfl; exact (by first | exact (rfl : decide _ = true) | exact (rfl : decide _ = false) | (refine decide_eq_true ?_; assumption) | (refine decide_eq_false ?_; assumption) | (refine decide_eq_true ?_; omega) | (refine decide_eq_false ?_; omega)); rfl)) ?_
    first | refine XPA.pu rfl rfl (by first | exact Gd.free | exact Gd.isB rfl rfl rfl | (apply Gd.isQ; rfl; rfl; exact (by first | exact (rfl : decide _ = true) | exact (rfl : decide _ = false) | (refine decide_eq_true ?_; assumption) | (refine decide_eq_false ?_; assumption) | (refine decide_eq_true ?_; omega) | (refine decide_eq_false ?_; omega)); rfl)) (by apply Rd.indexSlice; exact tyrow rfl; rfl; exact tyrow rfl; rfl; rfl; exact (by first | omega | decide | (simp; omega)); exact (by with_reducible (conv => lhs; whnf)); exact (by first | (conv => lhs; simp only [Nat.reduceAdd, Nat.zero_add, Nat.add_zero, Nat.reduceMul, Nat.mul_one, Int.toNat_natCast, Int.reduceToNat, Nat.zero_mul]) | rfl)) ?_ | refine XPA.puOff rfl rfl (by first | exact Gd.isB rfl rfl rfl | exact Gd.un rfl rfl | (apply Gd.isQ; rfl; rfl; exact (by first | exact (rfl : decide _ = true) | exact (rfl : decide _ = false) | (refine decide_eq_true ?_; assumption) | (refine decide_eq_false ?_; assumption) | (refine decide_eq_true ?_; omega) | (refine decide_eq_false ?_; omega)); rfl)) ?_
    first | refine XPA.rd rfl rfl (by first | exact Gd.free | exact Gd.isB rfl rfl rfl | (apply Gd.isQ; rfl; rfl; exact (by first | exact (rfl : decide _ = true) | exact (rfl : decide _ = false) | (refine decide_eq_true ?_; assumption) | (refine decide_eq_false ?_; assumption) | (refine decide_eq_true ?_; omega) | (refine decide_eq_false ?_; omega)); rfl)) (Rd.load rfl (by first | (exact Ld.atBlk (tyrow rfl) rfl (by ((repeat (first | with_reducible exact Sel.head | apply Sel.tail)); (first | done | fail))) rfl (by first | exact take0 (by first | rfl | assumption | (simp [*]; (first | done | fail)) | (simp [*]; (first | done | fail))) | assumption | exact take_app (by first | rfl | assumption | (simp [*]; (first | done | fail)) | (simp [*]; (first | done | fail))) | (conv => lhs; simp only [List.drop_succ_cons, List.drop_zero, List.take_succ_cons, List.take_zero])) (by first | rfl | assumption | (simp [*]; (first | done | fail)) | (simp [*]; (first | done | fail)))) | (exact Ld.at (tyrow rfl) rfl (At.per (by assumption)) (by first | rfl | assumption | (simp [*]; (first | done | fail)) | (simp [*]; (first | done | fail)))) | (exact Ld.atLst (tyrow rfl) rfl (by ((repeat (first | with_reducible exact Sel.head | apply Sel.tail)); (first | done | fail))) rfl (by first | exact take0 (by first | rfl | assumption | (simp [*]; (first | done | fail)) | (simp [*]; (first | done | fail))) | assumption | exact take_app (by first | rfl | assumption | (simp [*]; (first | done | fail)) | (simp [*]; (first | done | fail))) | (conv => lhs; simp only [List.drop_succ_cons, List.drop_zero, List.take_succ_cons, List.take_zero])) (by first | rfl | assumption | (simp [*]; (first | done | fail)) | (simp [*]; (first | done | fail)))))) ?_ | refine XPA.off rfl rfl (by first | exact Gd.isB rfl rfl rfl | exact Gd.un rfl rfl | (apply Gd.isQ; rfl; rfl; exact (by first | exact (rfl : decide _ = true) | exact (rfl : decide _ = false) | (refine decide_eq_true ?_; assumption) | (refine decide_eq_false ?_; assumption) | (refine decide_eq_true ?_; omega) | (refine decide_eq_false ?_; omega)); rfl)) ?_
    first | refine XPA.rd rfl rfl (by first | exact Gd.free | exact Gd.isB rfl rfl rfl | (apply Gd.isQ; rfl; rfl; exact (by first | exact (rfl : decide _ = true) | exact (rfl : decide _ = false) | (refine decide_eq_true ?_; assumption) | (refine decide_eq_false ?_; assumption) | (refine decide_eq_true ?_; omega) | (refine decide_eq_false ?_; omega)); rfl)) (Rd.load rfl (by first | (exact Ld.atBlk (tyrow rfl) rfl (by ((repeat (first | with_reducible exact Sel.head | apply Sel.tail)); (first | done | fail))) rfl (by first | exact take0 (by first | rfl | assumption | (simp [*]; (first | done | fail)) | (simp [*]; (first | done | fail))) | assumption | exact take_app (by first | rfl | assumption | (simp [*]; (first | done | fail)) | (simp [*]; (first | done | fail))) | (conv => lhs; simp only [List.drop_succ_cons, List.drop_zero, List.take_succ_cons, List.take_zero])) (by first | rfl | assumption | (simp [*]; (first | done | fail)) | (simp [*]; (first | done | fail)))) | (exact Ld.at (tyrow rfl) rfl (At.per (by assumption)) (by first | rfl | assumption | (simp [*]; (first | done | fail)) | (simp [*]; (first | done | fail)))) | (exact Ld.atLst (tyrow rfl) rfl (by ((repeat (first | with_reducible exact Sel.head | apply Sel.tail)); (first | done | fail))) rfl (by first | exact take0 (by first | rfl | assumption | (simp [*]; (first | done | fail)) | (simp [*]; (first | done | fail))) | assumption | exact take_app (by first | rfl | assumption | (simp [*]; (first | done | fail)) | (simp [*]; (first | done | fail))) | (conv => lhs; simp only [List.drop_succ_cons, List.drop_zero, List.take_succ_cons, List.take_zero])) (by first | rfl | assumption | (simp [*]; (first | done | fail)) | (simp [*]; (first | done | fail)))))) ?_ | refine XPA.off rfl rfl (by first | exact Gd.isB rfl rfl rfl | exact Gd.un rfl rfl | (apply Gd.isQ; rfl; rfl; exact (by first | exact (rfl : decide _ = true) | exact (rfl : decide _ = false) | (refine decide_eq_true ?_; assumption) | (refine decide_eq_false ?_; assumption) | (refine decide_eq_true ?_; omega) | (refine decide_eq_false ?_; omega)); rfl)) ?_
    first | refine XPA.pu rfl rfl (by first | exact Gd.free | exact Gd.isB rfl rfl rfl | (apply Gd.isQ; rfl; rfl; exact (by first | exact (rfl : decide _ = true) | exact (rfl : decide _ = false) | (refine decide_eq_true ?_; assumption) | (refine decide_eq_false ?_; assumption) | (refine decide_eq_true ?_; omega) | (refine decide_eq_false ?_; omega)); rfl)) (Rd.eqlWords (tyrow rfl) rfl (tyrow rfl) rfl rfl (by kernel_rfl) rfl rfl (by first | assumption | rfl | (simp; (first | done | fail)) | (simp [*]; (first | done | fail))) (by first | assumption | rfl | (simp; (first | done | fail)) | (simp [*]; (first | done | fail)))) ?_ | refine XPA.puOff rfl rfl (by first | exact Gd.isB rfl rfl rfl | exact Gd.un rfl rfl | (apply Gd.isQ; rfl; rfl; exact (by first | exact (rfl : decide _ = true) | exact (rfl : decide _ = false) | (refine decide_eq_true ?_; assumption) | (refine decide_eq_false ?_; assumption) | (refine decide_eq_true ?_; omega) | (refine decide_eq_false ?_; omega)); rfl)) ?_
    refine XPA.pu rfl rfl Gd.free (by first | exact Rd.pickT rfl (by with_reducible (conv => lhs; whnf)) | exact Rd.pickF rfl (by with_reducible (conv => lhs; whnf)) | exact Rd.pickP rfl (by first | exact (rfl : decide _ = true) | exact (rfl : decide _ = false) | (refine decide_eq_true ?_; assumption) | (refine decide_eq_false ?_; assumption) | (refine decide_eq_true ?_; omega) | (refine decide_eq_false ?_; omega)) (by with_reducible (conv => lhs; whnf))) ?_
    refine XPA.pu rfl rfl Gd.free (Rd.move (by with_reducible (conv => lhs; whnf))) ?_
    first | refine XPA.pu rfl rfl (by first | exact Gd.free | exact Gd.isB rfl rfl rfl | (apply Gd.isQ; rfl; rfl; exact (by first | exact (rfl : decide _ = true) | exact (rfl : decide _ = false) | (refine decide_eq_true ?_; assumption) | (refine decide_eq_false ?_; assumption) | (refine decide_eq_true ?_; omega) | (refine decide_eq_false ?_; omega)); rfl)) (Rd.move (by with_reducible (conv => lhs; whnf))) ?_ | refine XPA.puOff rfl rfl (by first | exact Gd.isB rfl rfl rfl | exact Gd.un rfl rfl | (apply Gd.isQ; rfl; rfl; exact (by first | exact (rfl : decide _ = true) | exact (rfl : decide _ = false) | (refine decide_eq_true ?_; assumption) | (refine decide_eq_false ?_; assumption) | (refine decide_eq_true ?_; omega) | (refine decide_eq_false ?_; omega)); rfl)) ?_
    refine XPA.wr0 rfl rfl (by first | exact Gd.free | exact Gd.isB rfl rfl rfl | (apply Gd.isQ; rfl; rfl; exact (by first | exact (rfl : decide _ = true) | exact (rfl : decide _ = false) | (refine decide_eq_true ?_; assumption) | (refine decide_eq_false ?_; assumption) | (refine decide_eq_true ?_; omega) | (refine decide_eq_false ?_; omega)); rfl)) (WrA.callE (by (repeat (first | exact Ent.all _ | (apply Ent.take; focus (first | ((repeat (first | with_reducible exact Sel.head | apply Sel.tail)); done) | ((repeat (first | exact Sel.head | apply Sel.tail)); done))) | apply Ent.takeNil | apply Ent.takeEmp)); (first | done | fail)) (wait_a σ b dd) rfl) ?_
    rintro _ _ _ ⟨_, ⟨rfl, rfl, rfl⟩, rfl⟩
    refine ⟨⟨(by first | exact PH.sub.refl _ | assumption), (by (repeat (first | exact Ent.nil _ | (apply Ent.sel; focus (first | ((repeat (first | with_reducible exact Sel.head | apply Sel.tail)); done) | ((repeat (first | exact Sel.head | apply Sel.tail)); done))) | apply Ent.selNil | apply Ent.selEmp)); (first | done | fail))⟩, XPA.re (by conv => lhs; dsimp only [List.cons_append, List.nil_append]) ?_⟩
    first | refine XPA.pu rfl rfl (by first | exact Gd.free | exact Gd.isB rfl rfl rfl | (apply Gd.isQ; rfl; rfl; exact (by first | exact (rfl : decide _ = true) | exact (rfl : decide _ = false) | (refine decide_eq_true ?_; assumption) | (refine decide_eq_false ?_; assumption) | (refine decide_eq_true ?_; omega) | (refine decide_eq_false ?_; omega)); rfl)) (Rd.eql rfl rfl) ?_ | refine XPA.puOff rfl rfl (by first | exact Gd.isB rfl rfl rfl | exact Gd.un rfl rfl | (apply Gd.isQ; rfl; rfl; exact (by first | exact (rfl : decide _ = true) | exact (rfl : decide _ = false) | (refine decide_eq_true ?_; assumption) | (refine decide_eq_false ?_; assumption) | (refine decide_eq_true ?_; omega) | (refine decide_eq_false ?_; omega)); rfl)) ?_
    refine XPA.pu rfl rfl Gd.free (by first | exact Rd.pickT rfl (by with_reducible (conv => lhs; whnf)) | exact Rd.pickF rfl (by with_reducible (conv => lhs; whnf)) | exact Rd.pickP rfl (by first | exact (rfl : decide _ = true) | exact (rfl : decide _ = false) | (refine decide_eq_true ?_; assumption) | (refine decide_eq_false ?_; assumption) | (refine decide_eq_true ?_; omega) | (refine decide_eq_false ?_; omega)) (by with_reducible (conv => lhs; whnf))) ?_
    refine XPA.pu rfl rfl Gd.free (Rd.assign (by with_reducible (conv => lhs; whnf))) ?_
    refine XPA.nil ?_
    refine DA.thn_normal ?_
    refine XA.ret ?_
    exact bodyA.ret (ResA.one rfl rfl) (Ent.nil _) ⟨by rw [hwt]; rfl, .refl _⟩
end Go.Proofs.Ytplobdiknobhoaa
