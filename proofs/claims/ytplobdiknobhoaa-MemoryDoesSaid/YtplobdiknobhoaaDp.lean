/- A disk, told plainly: what is held, what waits. -/
import Derived.Test.YtplobdiknobhoaaDk2
namespace Go.Proofs.Ytplobdiknobhoaa
open Go X
set_option maxHeartbeats 1000000
theorem settled_ok {d : DiskS} (hd : d.ok) (p : Nat → Bool) : (d.settle p).ok := by
  have hset : (d.wait.zipIdx).take d.wait.length = d.wait.zipIdx := List.take_of_length_le (by simp)
  have hfin : (d.settle p).l = d.part p d.wait.length := by simp only [DiskS.settle, DiskS.part, hset]
  have hpo := part_ok hd p d.wait.length
  exact ⟨by rw [hfin]; exact hpo.1, by rw [hfin]; exact hpo.2, by simp [DiskS.settle]⟩
/-- What is made sure of in a sector; what waits for it. -/
def DiskS.held (d : DiskS) (a : Int) : List Int := d.l.getD a.toNat DiskS.zeros
def DiskS.waits (d : DiskS) (a : Int) : List (List Int) := (d.wait.filter fun p => p.1 = a.toNat).map (·.2)
theorem waits_len (d : DiskS) (a : Int) : (d.waits a).length ≤ d.wait.length := by simp [DiskS.waits]; exact List.length_filter_le _ _
theorem held8 {d : DiskS} (hd : d.ok) (a : Int) : (d.held a).length = 8 := by
  unfold DiskS.held
  rw [List.getD_eq_getElem?_getD]
  cases h : d.l[a.toNat]? with
  | none => rfl
  | some w => exact hd.2.1 w (List.mem_of_getElem? h)
theorem waits8 {d : DiskS} (hd : d.ok) (a : Int) : ∀ w ∈ d.waits a, w.length = 8 := by
  intro w hw
  simp only [DiskS.waits, List.mem_map, List.mem_filter] at hw
  obtain ⟨p, ⟨hp, -⟩, rfl⟩ := hw
  exact (hd.2.2 p hp).2
theorem read_wait_nil {d : DiskS} {a : Int} (ha : 0 ≤ a ∧ a < 34) (h : d.wait = []) : d.read a = d.held a := by
  rw [DiskS.read, if_pos ha, h]; rfl
theorem last_mem (n : Nat) : ∀ (ps : List (Nat × List Int)) (w : List Int), DiskS.last w n ps = w ∨ DiskS.last w n ps ∈ (ps.filter fun p => p.1 = n).map (·.2) := by
  intro ps
  induction ps with
  | nil => intro w; exact .inl rfl
  | cons p ps ih =>
    intro w
    have e : DiskS.last w n (p :: ps) = DiskS.last (if p.1 = n then p.2 else w) n ps := rfl
    rw [e]
    by_cases h : p.1 = n
    · rw [if_pos h]
      rcases ih p.2 with ih | ih
      · exact .inr (by rw [ih]; simp [h])
      · exact .inr (by simp only [List.filter_cons, h, decide_true, if_true, List.map_cons, List.mem_cons]; exact .inr ih)
    · rw [if_neg h]
      rcases ih w with ih | ih
      · exact .inl ih
      · exact .inr (by simpa [List.filter_cons, h] using ih)
/-- What a sector holds when some of what waited was made sure of. -/
theorem part_get (d : DiskS) (is : Nat → Bool) (n k : Nat) (hn : k < d.l.length) : (d.part is n).getD k DiskS.zeros = DiskS.last (d.l.getD k DiskS.zeros) k ((((d.wait.zipIdx).take n).filter fun p => is p.2).map (·.1)) := by
  have gen : ∀ (ps : List ((Nat × List Int) × Nat)) (l : List (List Int)), k < l.length → (ps.foldl (fun l p => if is p.2 then l.set p.1.1 p.1.2 else l) l).getD k DiskS.zeros = DiskS.last (l.getD k DiskS.zeros) k ((ps.filter fun p => is p.2).map (·.1)) := by
    intro ps
    induction ps with
    | nil => intro l _; rfl
    | cons p ps ih =>
      intro l hl
      simp only [List.foldl_cons]
      by_cases hp : is p.2 = true
      · rw [if_pos hp, ih _ (by simpa using hl)]
        simp only [List.filter_cons, hp, if_true, List.map_cons]
        simp only [DiskS.last, List.foldl_cons]
        congr 1
        by_cases hk : p.1.1 = k
        · rw [if_pos hk, hk]; simp [List.getD_eq_getElem?_getD, hl]
        · rw [if_neg hk]; simp [List.getD_eq_getElem?_getD, List.getElem?_set_ne hk]
      · rw [if_neg hp, ih _ hl]
        simp [List.filter_cons, hp]
  exact gen _ d.l hn
theorem settle_held {d : DiskS} (hd : d.ok) (is : Nat → Bool) {a : Int} (ha : 0 ≤ a ∧ a < 34) : (d.settle is).held a = DiskS.last (d.held a) a.toNat (((d.wait.zipIdx).filter fun p => is p.2).map (·.1)) := by
  have hset : (d.wait.zipIdx).take d.wait.length = d.wait.zipIdx := List.take_of_length_le (by simp)
  have := part_get d is d.wait.length a.toNat (by rw [hd.1]; omega)
  rw [hset] at this
  rw [DiskS.held, show (d.settle is).l = d.part is d.wait.length by simp only [DiskS.settle, DiskS.part, hset]]
  exact this
/-- Each sector holds what it held, or what one of the writes that waited for it says. -/
theorem settle_mem {d : DiskS} (hd : d.ok) (is : Nat → Bool) {a : Int} (ha : 0 ≤ a ∧ a < 34) : (d.settle is).held a = d.held a ∨ (d.settle is).held a ∈ d.waits a := by
  rw [settle_held hd is ha]
  rcases last_mem a.toNat (((d.wait.zipIdx).filter fun p => is p.2).map (·.1)) (d.held a) with h | h
  · exact .inl h
  · refine .inr ?_
    simp only [List.mem_map, List.mem_filter, decide_eq_true_eq] at h
    obtain ⟨p, ⟨⟨q, ⟨hq, -⟩, rfl⟩, hk⟩, hw⟩ := h
    have hq' : q.1 ∈ d.wait := by
      obtain ⟨q1, q2⟩ := q
      have := (List.mem_zipIdx hq).2.2
      rw [this]; exact List.getElem_mem _
    simp only [DiskS.waits, List.mem_map, List.mem_filter, decide_eq_true_eq]
    exact ⟨q.1, ⟨hq', hk⟩, hw⟩
/-- If all stays, what was read. -/
theorem settle_all {d : DiskS} (hd : d.ok) (is : Nat → Bool) (hall : ∀ k, is k = true) {a : Int} (ha : 0 ≤ a ∧ a < 34) : (d.settle is).held a = d.read a := by
  rw [settle_held hd is ha, DiskS.read, if_pos ha]
  have : ((d.wait.zipIdx).filter fun p => is p.2).map (·.1) = d.wait := by
    rw [List.filter_eq_self.2 (fun p _ => hall p.2)]
    simp
  rw [this]; rfl
theorem bit_all (k : Nat) : bitOf 18446744073709551615 k = true := by
  unfold bitOf
  have hk : k % 64 < 64 := Nat.mod_lt _ (by decide)
  generalize k % 64 = q at hk
  simp only [decide_eq_true_eq]
  revert q; decide
theorem write_held (d : DiskS) (a b : Int) (w : List Int) : (d.write b w).held a = d.held a := by unfold DiskS.held DiskS.write; split <;> rfl
theorem write_waits {d : DiskS} {a b : Int} {w : List Int} (ha : 0 ≤ a ∧ a < 34) : (d.write b w).waits a = if (0 ≤ b ∧ b < 34) ∧ b = a then d.waits a ++ [w] else d.waits a := by
  unfold DiskS.waits DiskS.write
  by_cases hb : 0 ≤ b ∧ b < 34
  · rw [if_pos hb]
    simp only [List.filter_append, List.map_append]
    by_cases e : b = a
    · subst e; simp [hb]
    · have : ¬ b.toNat = a.toNat := by omega
      simp [e, this]
  · rw [if_neg hb, if_neg (by rintro ⟨h, -⟩; exact hb h)]
theorem settle_waits (d : DiskS) (p : Nat → Bool) (a : Int) : (d.settle p).waits a = [] := rfl
end Go.Proofs.Ytplobdiknobhoaa
