/- A store, told plainly: what was committed last is not touched; all or nothing. -/
import Derived.Test.YtplobdiknobhoaaSz
import Derived.Test.YtplobdiknobhoaaDp
namespace Go.Proofs.Ytplobdiknobhoaa
open Go X
set_option maxHeartbeats 1000000
theorem last_eq (w : List Int) (n : Nat) : ∀ (ps : List (Nat × List Int)), DiskS.last w n ps = (((ps.filter fun p => p.1 = n).map (·.2)).getLast?).getD w := by
  intro ps
  induction ps generalizing w with
  | nil => rfl
  | cons p ps ih =>
    show DiskS.last (if p.1 = n then p.2 else w) n ps = _
    rw [ih]
    by_cases h : p.1 = n
    · rw [if_pos h, List.filter_cons, if_pos (by simpa using h), List.map_cons, List.getLast?_cons]; rfl
    · rw [if_neg h, List.filter_cons, if_neg (by simpa using h)]
theorem read_eq {d : DiskS} {a : Int} (ha : 0 ≤ a ∧ a < 34) : d.read a = ((d.waits a).getLast?).getD (d.held a) := by
  rw [DiskS.read, if_pos ha, last_eq]; rfl
theorem settle_keep {d : DiskS} (hd : d.ok) (is : Nat → Bool) {a : Int} (ha : 0 ≤ a ∧ a < 34) (hw : d.waits a = []) : (d.settle is).held a = d.held a := by
  rcases settle_mem hd is ha with h | h
  · exact h
  · rw [hw] at h; cases h
theorem waits_nil {d : DiskS} (h : d.wait = []) (a : Int) : d.waits a = [] := by simp [DiskS.waits, h]
theorem read_wait_nil' {d : DiskS} {a : Int} (ha : 0 ≤ a ∧ a < 34) (h : d.waits a = []) : d.read a = d.held a := by rw [read_eq ha, h]; rfl
theorem dTo_held (d : DiskS) (l : List PageS) (F : List Int) (a : Int) : ∀ k, (dTo d l F k).held a = d.held a
  | 0 => rfl
  | k + 1 => by rw [dTo, write_held, dTo_held d l F a k]
theorem dTo_ok {d : DiskS} {l : List PageS} {F : List Int} (hd : d.ok) (hl : ∀ x ∈ l, x.w.length = 8) : ∀ k, k ≤ l.length → (dTo d l F k).ok
  | 0, _ => hd
  | k + 1, hk => by
    rw [dTo]
    refine (dTo_ok hd hl k (by omega)).write ?_
    rw [List.getD_eq_getElem?_getD, List.getElem?_eq_getElem (by omega)]
    exact hl _ (List.getElem_mem _)
theorem dTo_waits {d : DiskS} {l : List PageS} {F : List Int} {a : Int} (ha : 0 ≤ a ∧ a < 34) : ∀ k, (∀ j, j < k → F.getD j 0 ≠ a) → (dTo d l F k).waits a = d.waits a
  | 0, _ => rfl
  | k + 1, h => by
    rw [dTo, write_waits ha, if_neg (fun e => h k (by omega) e.2), dTo_waits ha k (fun j hj => h j (by omega))]
theorem dTo_waits1 {d : DiskS} {l : List PageS} {F : List Int} {a : Int} (ha : 0 ≤ a ∧ a < 34) {i : Nat} (hi : F.getD i 0 = a) : ∀ k, i < k → (∀ j, j < k → j ≠ i → F.getD j 0 ≠ a) → (dTo d l F k).waits a = d.waits a ++ [(l.getD i ⟨0, []⟩).w]
  | k + 1, hk, h => by
    rw [dTo, write_waits ha]
    by_cases e : k = i
    · subst e
      rw [if_pos ⟨by rw [hi]; exact ha, hi⟩, dTo_waits ha k (fun j hj => h j (by omega) (by omega))]
    · rw [if_neg (fun q => h k (by omega) e q.2), dTo_waits1 ha hi k (by omega) (fun j hj hne => h j (by omega) hne)]
/-- The disk under a store, between commits. -/
structure Good (d : DiskS) (s : StS) : Prop where
  dok : d.ok
  wait : d.wait = []
  sok : s.ok
  gen : 0 ≤ s.gen
  pgr : ∀ p, p < 14 → s.pg.getD p 0 = 0 ∨ (2 ≤ s.pg.getD p 0 ∧ s.pg.getD p 0 < 34)
  root : (s.gen = 0 ∧ s.t = [0, 0] ∧ s.pg = zero14 ∧ d.held 0 = DiskS.zeros ∧ (d.held 1).getD 0 0 = 0) ∨
    (0 < s.gen ∧ ∃ t0 t1, s.t = [t0, t1] ∧ d.held (s.gen % 2) = rootW s.gen t0 t1 ∧ (d.held ((s.gen + 1) % 2)).getD 0 0 < s.gen ∧ (2 ≤ t0 ∧ t0 < 34 ∧ d.held t0 = tw s.pg 0) ∧ (2 ≤ t1 ∧ t1 < 34 ∧ d.held t1 = tw s.pg 1))
theorem Good.new : Good DiskS.new ⟨0, [0, 0], zero14⟩ := by
  refine ⟨DiskS.ok_new, rfl, ⟨rfl, by simp [zero14]⟩, Int.le_refl _, fun p hp => .inl ?_, .inl ⟨rfl, rfl, rfl, rfl, rfl⟩⟩
  simp only [zero14, List.getD_eq_getElem?_getD, List.getElem?_replicate]; split <;> rfl
theorem tw_get {pg : List Int} {i k : Nat} (hk : k < 8) (h : i * 8 + k < 14) : (tw pg i).getD k 0 = pg.getD (i * 8 + k) 0 := by
  rw [tw, twTo, List.getD_eq_getElem?_getD, List.getElem?_map, List.getElem?_range hk]
  simp only [Option.map_some, Option.getD_some]
  rw [if_pos ⟨hk, h⟩]
/-- What is opened is what was committed. -/
theorem Good.open {d : DiskS} {s : StS} (h : Good d s) : openS d = s := by
  obtain ⟨g, t, pg⟩ := s
  have hr : ∀ a : Int, 0 ≤ a ∧ a < 34 → d.read a = d.held a := fun a ha => read_wait_nil ha h.wait
  have r0 : rootS d 0 = ⟨(d.held 0).getD 0 0, [(d.held 0).getD 1 0, (d.held 0).getD 2 0], zero14⟩ := by rw [rootS, hr 0 ⟨by decide, by decide⟩]
  have r1 : rootS d 1 = ⟨(d.held 1).getD 0 0, [(d.held 1).getD 1 0, (d.held 1).getD 2 0], zero14⟩ := by rw [rootS, hr 1 ⟨by decide, by decide⟩]
  rcases h.root with ⟨hg, ht, hp, h0, h1⟩ | ⟨hg, t0, t1, ht, hroot, hoth, ⟨ta0, tb0, tc0⟩, ⟨ta1, tb1, tc1⟩⟩
  · simp only at hg ht hp
    subst hg ht hp
    have hl : lastRoot d = ⟨0, [0, 0], zero14⟩ := by
      rw [lastRoot, r0, r1, h0, h1]; rfl
    have hpg : pagesTo d [0, 0] 14 = zero14 := by
      unfold pagesTo zero14
      apply List.ext_getElem (by simp)
      intro p q1 q2
      simp only [List.length_map, List.length_range] at q1
      simp only [List.getElem_map, List.getElem_range, List.getElem_replicate]
      rw [if_pos q1, pageAt]
      have : ([0, 0] : List Int).getD (p / 8) 0 = 0 := by
        rcases (show p / 8 = 0 ∨ p / 8 = 1 by omega) with e | e <;> rw [e] <;> rfl
      rw [this]; rfl
    show ({ lastRoot d with pg := pagesTo d (lastRoot d).t 14 } : StS) = _
    rw [hl, hpg]
  · simp only at hg ht hroot hoth tc0 tc1
    subst ht
    have hl : lastRoot d = ⟨g, [t0, t1], zero14⟩ := by
      rw [lastRoot, r0, r1]
      rcases (show g % 2 = 0 ∨ g % 2 = 1 by omega) with e | e
      · have e' : (g + 1) % 2 = 1 := by omega
        rw [e] at hroot
        rw [e'] at hoth
        rw [hroot, if_neg (by simp only [rootW, List.getD_cons_zero]; omega)]; rfl
      · have e' : (g + 1) % 2 = 0 := by omega
        rw [e] at hroot
        rw [e'] at hoth
        rw [hroot, if_pos (by simp only [rootW, List.getD_cons_zero]; omega)]; rfl
    have hpl : pg.length = 14 := h.sok.2
    have hpg : pagesTo d [t0, t1] 14 = pg := by
      apply List.ext_getElem (by rw [pagesTo_len, hpl])
      intro p q1 q2
      rw [pagesTo_len] at q1
      simp only [pagesTo, List.getElem_map, List.getElem_range]
      rw [if_pos q1, pageAt]
      have hpp : pg[p] = pg.getD p 0 := by simp [List.getD_eq_getElem?_getD, q2]
      have hdiv : p / 8 * 8 + p % 8 = p := by omega
      rcases (show p / 8 = 0 ∨ p / 8 = 1 by omega) with e | e
      · rw [e]
        show (if 0 < t0 then (d.read t0).getD (p % 8) 0 else 0) = _
        rw [if_pos (by omega), hr t0 ⟨by omega, tb0⟩, tc0, tw_get (by omega) (by omega), hpp]
        congr 1; omega
      · rw [e]
        show (if 0 < t1 then (d.read t1).getD (p % 8) 0 else 0) = _
        rw [if_pos (by omega), hr t1 ⟨by omega, tb1⟩, tc1, tw_get (by omega) (by omega), hpp]
        congr 1; omega
    show ({ lastRoot d with pg := pagesTo d (lastRoot d).t 14 } : StS) = _
    rw [hl, hpg]
/-- What a page is, by what is held. -/
theorem Good.page {d : DiskS} {s : StS} (h : Good d s) {p : Nat} (hp : p < 14) : pageW d s p = if s.pg.getD p 0 = 0 then DiskS.zeros else d.held (s.pg.getD p 0) := by
  rw [pageW]
  by_cases h0 : s.pg.getD p 0 = 0
  · rw [if_pos h0, if_neg]; rintro ⟨-, -, h⟩; exact h (by simpa using h0)
  · rw [if_neg h0, if_pos ⟨by omega, by omega, by simpa using h0⟩]
    rcases h.pgr p hp with h1 | h1
    · exact absurd h1 h0
    · rw [Int.toNat_natCast, read_wait_nil ⟨by omega, h1.2⟩ h.wait]
/-- Nothing that leads to a store was touched. -/
theorem Good.same {d d' : DiskS} {s : StS} (h : Good d s) (hd : d'.ok) (hw : d'.wait = []) (hk : ∀ a : Int, (a = 0 ∨ a = 1 ∨ a ∈ s.t ∨ a ∈ s.pg) → 0 ≤ a ∧ a < 34 → d'.held a = d.held a) : Good d' s ∧ ∀ p : Nat, p < 14 → pageW d' s p = pageW d s p := by
  have hpl : s.pg.length = 14 := h.sok.2
  have hg : Good d' s := by
    refine ⟨hd, hw, h.sok, h.gen, h.pgr, ?_⟩
    have k0 := hk 0 (.inl rfl) ⟨by decide, by decide⟩
    have k1 := hk 1 (.inr (.inl rfl)) ⟨by decide, by decide⟩
    rcases h.root with ⟨hg, ht, hp, h0, h1⟩ | ⟨hg, t0, t1, ht, hroot, hoth, ⟨ta0, tb0, tc0⟩, ⟨ta1, tb1, tc1⟩⟩
    · exact .inl ⟨hg, ht, hp, by rw [k0, h0], by rw [k1, h1]⟩
    · refine .inr ⟨hg, t0, t1, ht, ?_, ?_, ⟨ta0, tb0, ?_⟩, ⟨ta1, tb1, ?_⟩⟩
      · rcases (show s.gen % 2 = 0 ∨ s.gen % 2 = 1 by omega) with e | e <;> rw [e] at hroot ⊢
        · rw [k0]; exact hroot
        · rw [k1]; exact hroot
      · rcases (show (s.gen + 1) % 2 = 0 ∨ (s.gen + 1) % 2 = 1 by omega) with e | e <;> rw [e] at hoth ⊢
        · rw [k0]; exact hoth
        · rw [k1]; exact hoth
      · rw [hk t0 (.inr (.inr (.inl (by rw [ht]; simp)))) ⟨by omega, tb0⟩]; exact tc0
      · rw [hk t1 (.inr (.inr (.inl (by rw [ht]; simp)))) ⟨by omega, tb1⟩]; exact tc1
  refine ⟨hg, fun p hp => ?_⟩
  rw [hg.page hp, h.page hp]
  by_cases h0 : s.pg.getD p 0 = 0
  · rw [if_pos h0, if_pos h0]
  · rw [if_neg h0, if_neg h0]
    rcases h.pgr p hp with h1 | h1
    · exact absurd h1 h0
    · refine hk _ (.inr (.inr (.inr ?_))) ⟨by omega, h1.2⟩
      rw [List.getD_eq_getElem?_getD, List.getElem?_eq_getElem (by omega)]
      exact List.getElem_mem _
end Go.Proofs.Ytplobdiknobhoaa
