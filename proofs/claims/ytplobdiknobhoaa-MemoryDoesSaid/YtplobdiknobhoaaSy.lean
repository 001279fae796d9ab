/- Package store: Commit. -/
import Derived.Test.YtplobdiknobhoaaSx
namespace Go.Proofs.Ytplobdiknobhoaa
open Go X
set_option maxHeartbeats 2000000
/-! free sectors -/
def freeTo (u : List Int) (k : Nat) : List Int := ((List.range k).map fun i => ((i + 2 : Nat) : Int)).filter fun a => decide (a ∉ u)
def freeS (s : StS) : List Int := freeTo (s.t ++ s.pg) 32
theorem freeTo_succ (u : List Int) (k : Nat) : freeTo u (k + 1) = freeTo u k ++ (if ((k + 2 : Nat) : Int) ∈ u then [] else [((k + 2 : Nat) : Int)]) := by
  unfold freeTo
  rw [List.range_succ, List.map_append, List.filter_append]
  congr 1
  by_cases h : ((k + 2 : Nat) : Int) ∈ u
  · simp only [List.map_cons, List.map_nil, List.filter_cons]; rw [if_neg (by simpa using h), if_pos h]; rfl
  · simp only [List.map_cons, List.map_nil, List.filter_cons]; rw [if_pos (by simpa using h), if_neg h]; rfl
theorem nodup_le {α : Type} [DecidableEq α] : ∀ {l m : List α}, l.Nodup → (∀ x ∈ l, x ∈ m) → l.length ≤ m.length
  | [], _, _, _ => Nat.zero_le _
  | a :: l, m, hn, h => by
    obtain ⟨h1, h2⟩ := List.nodup_cons.1 hn
    have ha := h a (by simp)
    have := nodup_le (l := l) (m := m.erase a) h2 (fun x hx => (List.mem_erase_of_ne (fun e => h1 (by subst e; exact hx))).2 (h x (by simp [hx])))
    rw [List.length_erase_of_mem ha] at this
    have : 0 < m.length := List.length_pos_of_mem ha
    simp only [List.length_cons]; omega
theorem filter_two {α : Type} (p : α → Bool) : ∀ l : List α, (l.filter p).length + (l.filter fun a => !p a).length = l.length
  | [] => rfl
  | a :: l => by
    have := filter_two p l
    by_cases h : p a = true
    · simp [List.filter_cons, h]; omega
    · have h : p a = false := by simpa using h
      simp [List.filter_cons, h]; omega
theorem secs_nodup (k : Nat) : ((List.range k).map fun i => ((i + 2 : Nat) : Int)).Nodup := by
  refine List.Pairwise.map _ (fun a b h => ?_) List.nodup_range
  omega
theorem freeTo_nodup (u : List Int) (k : Nat) : (freeTo u k).Nodup := (secs_nodup k).filter _
theorem freeTo_mem {u : List Int} {k : Nat} {a : Int} (h : a ∈ freeTo u k) : 2 ≤ a ∧ a < k + 2 ∧ a ∉ u := by
  simp only [freeTo, List.mem_filter, List.mem_map, List.mem_range, decide_eq_true_eq] at h
  obtain ⟨⟨i, h1, rfl⟩, h2⟩ := h
  exact ⟨by omega, by omega, h2⟩
theorem freeTo_len (u : List Int) (k : Nat) : k ≤ (freeTo u k).length + u.length := by
  have h1 := filter_two (fun a => decide (a ∉ u)) ((List.range k).map fun i => ((i + 2 : Nat) : Int))
  have h2 : (((List.range k).map fun i => ((i + 2 : Nat) : Int)).filter fun a => !decide (a ∉ u)).length ≤ u.length := by
    refine nodup_le ((secs_nodup k).filter _) (fun x hx => ?_)
    simp only [List.mem_filter] at hx
    simpa using hx.2
  simp only [List.length_map, List.length_range] at h1
  show k ≤ (List.filter _ _).length + u.length
  omega
theorem freeTo_le (u : List Int) (k : Nat) : (freeTo u k).length ≤ k := by
  unfold freeTo
  exact Nat.le_trans (List.length_filter_le _ _) (by simp)
/-! pages that may be committed together -/
theorem checkGo_zero : ∀ (l seen : List PageS), checkGo seen l = 0 → (∀ x ∈ l, 0 ≤ x.n ∧ x.n < 14) ∧ (l.map (·.n)).Nodup ∧ ∀ x ∈ l, ∀ y ∈ seen, y.n ≠ x.n
  | [], _, _ => ⟨by simp, by simp, by simp⟩
  | p :: l, seen, h => by
    rw [checkGo] at h
    split at h
    · cases h
    · rename_i h1
      split at h
      · cases h
      · rename_i h2
        obtain ⟨h3, h4, h5⟩ := checkGo_zero l _ h
        have h1 := Decidable.not_not.1 h1
        refine ⟨fun x hx => ?_, ?_, fun x hx y hy e => ?_⟩
        · simp only [List.mem_cons] at hx
          rcases hx with rfl | hx
          · exact h1
          · exact h3 x hx
        · rw [List.map_cons, List.nodup_cons]
          refine ⟨fun hm => ?_, h4⟩
          obtain ⟨x, hx, e⟩ := List.mem_map.1 hm
          exact h5 x hx p (by simp) e.symm
        · simp only [List.mem_cons] at hx
          rcases hx with rfl | hx
          · exact h2 ⟨y, hy, e⟩
          · exact h5 x hx y (by simp [hy]) e
theorem check_zero {l : List PageS} (h : checkS l = 0) : (∀ x ∈ l, 0 ≤ x.n ∧ x.n < 14) ∧ (l.map (·.n)).Nodup ∧ l.length ≤ 14 := by
  obtain ⟨h1, h2, -⟩ := checkGo_zero l [] h
  refine ⟨h1, h2, ?_⟩
  have := nodup_le (m := (List.range 14).map fun i => ((i : Nat) : Int)) h2 (fun x hx => by
    obtain ⟨y, hy, rfl⟩ := List.mem_map.1 hx
    have := h1 y hy
    exact List.mem_map.2 ⟨y.n.toNat, List.mem_range.2 (by omega), by omega⟩)
  simpa using this
/-! a commit's deeds -/
def nextS (s : StS) (l : List PageS) : StS := ⟨s.gen + 1, [(freeS s).getD l.length 0, (freeS s).getD (l.length + 1) 0], pgTo s.pg l (freeS s) l.length⟩
def comT (d : DiskS) (s : StS) (l : List PageS) (k : Nat) : DiskS := dTo (dTo d l (freeS s) l.length) (tabL (nextS s l).pg) ((freeS s).drop l.length) k
def comD (d : DiskS) (s : StS) (l : List PageS) (j : Nat) : DiskS :=
  if j ≤ l.length then dTo d l (freeS s) j
  else if j ≤ l.length + 2 then comT d s l (j - l.length)
  else if j = l.length + 3 then (comT d s l 2).settle fun _ => true
  else if j = l.length + 4 then ((comT d s l 2).settle fun _ => true).write ((s.gen + 1) % 2) (rootW (s.gen + 1) ((nextS s l).t.getD 0 0) ((nextS s l).t.getD 1 0))
  else (((comT d s l 2).settle fun _ => true).write ((s.gen + 1) % 2) (rootW (s.gen + 1) ((nextS s l).t.getD 0 0) ((nextS s l).t.getD 1 0))).settle fun _ => true
end Go.Proofs.Ytplobdiknobhoaa
