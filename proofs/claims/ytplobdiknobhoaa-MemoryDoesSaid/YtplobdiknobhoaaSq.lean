/- A store, told plainly: what a commit comes to. -/
import Derived.Test.YtplobdiknobhoaaSp
namespace Go.Proofs.Ytplobdiknobhoaa
open Go X
set_option maxHeartbeats 1000000
/-- Pages, of which the first k of a list are other ones. -/
def newTo (f : Nat → List Int) (l : List PageS) : Nat → Nat → List Int
  | 0 => f
  | k + 1 => fun p => if p = (l.getD k ⟨0, []⟩).n.toNat then (l.getD k ⟨0, []⟩).w else newTo f l k p
theorem getD_ne {F : List Int} (h : F.Nodup) {i j : Nat} (hi : i < F.length) (hj : j < F.length) (hne : i ≠ j) : F.getD i 0 ≠ F.getD j 0 := by
  have key : ∀ i j, i < j → j < F.length → F.getD i 0 ≠ F.getD j 0 := fun i j hij hj => by
    have := List.pairwise_iff_getElem.1 h i j (by omega) hj hij
    simpa [List.getD_eq_getElem?_getD, show i < F.length by omega, hj] using this
  rcases Nat.lt_or_gt_of_ne hne with h1 | h1
  · exact key i j h1 hj
  · exact (key j i h1 hi).symm
def pick0 (H : Int → List Int) (a : Int) : List Int := if a = 0 then DiskS.zeros else H a
theorem pick0_z {H : Int → List Int} {a : Int} (h : a = 0) : pick0 H a = DiskS.zeros := if_pos h
theorem pick0_n {H : Int → List Int} {a : Int} (h : a ≠ 0) : pick0 H a = H a := if_neg h
theorem set_getD {l : List Int} {n p : Nat} {a : Int} (hp : p < l.length) : (l.set n a).getD p 0 = if p = n then a else l.getD p 0 := by
  rw [List.getD_eq_getElem?_getD, List.getElem?_set]
  by_cases e : n = p
  · rw [if_pos e, if_pos (by omega), if_pos e.symm]; rfl
  · rw [if_neg e, if_neg (fun h => e h.symm), List.getD_eq_getElem?_getD]
theorem drop_getD (F : List Int) (n i : Nat) : (F.drop n).getD i 0 = F.getD (n + i) 0 := by simp [List.getD_eq_getElem?_getD, List.getElem?_drop]
/-- What a commit needs of free sectors. -/
structure FreeOK (s : StS) (l : List PageS) : Prop where
  len : l.length + 2 ≤ (freeS s).length
  rng : ∀ j, j < (freeS s).length → 2 ≤ (freeS s).getD j 0 ∧ (freeS s).getD j 0 < 34 ∧ (freeS s).getD j 0 ∉ s.t ++ s.pg
  ne : ∀ i j, i < (freeS s).length → j < (freeS s).length → i ≠ j → (freeS s).getD i 0 ≠ (freeS s).getD j 0
theorem free_ok {s : StS} {l : List PageS} (hs : s.ok) (hl : l.length ≤ 14) : FreeOK s l := by
  refine ⟨?_, fun j hj => ?_, fun i j hi hj hne => getD_ne (freeTo_nodup _ _) hi hj hne⟩
  · have := freeTo_len (s.t ++ s.pg) 32
    rw [List.length_append, hs.1, hs.2] at this
    show l.length + 2 ≤ (freeTo (s.t ++ s.pg) 32).length
    omega
  · have hm : (freeS s).getD j 0 ∈ freeTo (s.t ++ s.pg) 32 := by
      rw [List.getD_eq_getElem?_getD, List.getElem?_eq_getElem hj]; exact List.getElem_mem _
    obtain ⟨h1, h2, h3⟩ := freeTo_mem hm
    exact ⟨h1, by omega, h3⟩
theorem tabL_len (pg : List Int) : ∀ x ∈ tabL pg, x.w.length = 8 := by
  intro x hx
  simp only [tabL, List.mem_cons, List.not_mem_nil, or_false] at hx
  rcases hx with rfl | rfl <;> exact twTo_len _ _ _
section
variable {d : DiskS} {s : StS} {l : List PageS}
theorem comT_ok (h : Good d s) (hw : ∀ x ∈ l, x.w.length = 8) {q : Nat} (hq : q ≤ 2) : (comT d s l q).ok := dTo_ok (dTo_ok h.dok hw _ (Nat.le_refl _)) (tabL_len _) q (by simpa [tabL] using hq)
theorem comT_held (d : DiskS) (s : StS) (l : List PageS) (q : Nat) (a : Int) : (comT d s l q).held a = d.held a := by rw [comT, dTo_held, dTo_held]
/-- To what is not free nothing is written. -/
theorem comT_waits (h : Good d s) {q : Nat} {a : Int} (ha : 0 ≤ a ∧ a < 34) (hn : ∀ j, j < l.length + q → (freeS s).getD j 0 ≠ a) : (comT d s l q).waits a = [] := by
  rw [comT, dTo_waits ha q (fun j hj => by rw [drop_getD]; exact hn _ (by omega)), dTo_waits ha _ (fun j hj => hn j (by omega)), waits_nil h.wait]
theorem used_free (f : FreeOK s l) {a : Int} (ha : a = 0 ∨ a = 1 ∨ a ∈ s.t ∨ a ∈ s.pg) {j : Nat} (hj : j < (freeS s).length) : (freeS s).getD j 0 ≠ a := by
  obtain ⟨h1, h2, h3⟩ := f.rng j hj
  rintro rfl
  rcases ha with h | h | h | h
  · omega
  · omega
  · exact h3 (List.mem_append.2 (.inl h))
  · exact h3 (List.mem_append.2 (.inr h))
theorem comT_page (h : Good d s) (f : FreeOK s l) {i : Nat} (hi : i < l.length) : (comT d s l 2).waits ((freeS s).getD i 0) = [(l.getD i ⟨0, []⟩).w] := by
  have hr := f.rng i (by have := f.len; omega)
  have hlen := f.len
  rw [comT, dTo_waits ⟨by omega, hr.2.1⟩ 2 (fun j hj => by rw [drop_getD]; exact f.ne _ _ (by omega) (by omega) (by omega)), dTo_waits1 ⟨by omega, hr.2.1⟩ rfl _ hi (fun j hj hne => f.ne _ _ (by omega) (by omega) hne), waits_nil h.wait]
  rfl
theorem comT_table (h : Good d s) (f : FreeOK s l) {i : Nat} (hi : i < 2) : (comT d s l 2).waits ((freeS s).getD (l.length + i) 0) = [tw (nextS s l).pg i] := by
  have hlen := f.len
  have hr := f.rng (l.length + i) (by omega)
  rw [comT, dTo_waits1 (i := i) ⟨by omega, hr.2.1⟩ (drop_getD _ _ _) 2 hi (fun j hj hne => by rw [drop_getD]; exact f.ne _ _ (by omega) (by omega) (by omega)), dTo_waits ⟨by omega, hr.2.1⟩ _ (fun j hj => f.ne _ _ (by omega) (by omega) (by omega)), waits_nil h.wait]
  rcases (show i = 0 ∨ i = 1 by omega) with rfl | rfl <;> rfl
/-- Pages and table written, and made sure of. -/
theorem sure_old (h : Good d s) (hw : ∀ x ∈ l, x.w.length = 8) (f : FreeOK s l) {a : Int} (ha : 0 ≤ a ∧ a < 34) (hu : a = 0 ∨ a = 1 ∨ a ∈ s.t ∨ a ∈ s.pg) : ((comT d s l 2).settle fun _ => true).held a = d.held a := by
  rw [settle_keep (comT_ok h hw (Nat.le_refl _)) _ ha (comT_waits h ha (fun j hj => used_free f hu (by have := f.len; omega))), comT_held]
theorem sure_new (h : Good d s) (hw : ∀ x ∈ l, x.w.length = 8) {a : Int} (ha : 0 ≤ a ∧ a < 34) {w : List Int} (hq : (comT d s l 2).waits a = [w]) : ((comT d s l 2).settle fun _ => true).held a = w := by
  rw [settle_all (comT_ok h hw (Nat.le_refl _)) _ (fun _ => rfl) ha, read_eq ha, hq]; rfl
theorem settle_wait (d : DiskS) (is : Nat → Bool) : (d.settle is).wait = [] := rfl
/-- With no root written nothing was committed. -/
theorem commit_part (h : Good d s) (hw : ∀ x ∈ l, x.w.length = 8) (hl : l.length ≤ 14) {j : Nat} (hj : j ≤ l.length + 3) (is : Nat → Bool) : Good ((comD d s l j).settle is) s ∧ ∀ p : Nat, p < 14 → pageW ((comD d s l j).settle is) s p = pageW d s p := by
  have f := free_ok (l := l) h.sok hl
  have hlen := f.len
  by_cases h1 : j ≤ l.length
  · have e : comD d s l j = dTo d l (freeS s) j := by rw [comD, if_pos h1]
    rw [e]
    have hok := dTo_ok (F := freeS s) h.dok hw j h1
    refine h.same (settled_ok hok _) (settle_wait _ _) (fun a hu ha => ?_)
    rw [settle_keep hok _ ha (by rw [dTo_waits ha j (fun i hi => used_free f hu (by omega)), waits_nil h.wait]), dTo_held]
  by_cases h2 : j ≤ l.length + 2
  · have e : comD d s l j = comT d s l (j - l.length) := by rw [comD, if_neg h1, if_pos h2]
    rw [e]
    have hok := comT_ok h hw (q := j - l.length) (by omega)
    refine h.same (settled_ok hok _) (settle_wait _ _) (fun a hu ha => ?_)
    rw [settle_keep hok _ ha (comT_waits h ha (fun i hi => used_free f hu (by omega))), comT_held]
  · have e : comD d s l j = (comT d s l 2).settle fun _ => true := by rw [comD, if_neg h1, if_neg h2, if_pos (by omega)]
    rw [e]
    have hok := settled_ok (comT_ok h hw (Nat.le_refl 2)) (fun _ => true)
    refine h.same (settled_ok hok _) (settle_wait _ _) (fun a hu ha => ?_)
    rw [settle_keep hok _ ha (waits_nil (settle_wait _ _) a), sure_old h hw f ha hu]
theorem settle_one {d : DiskS} (hd : d.ok) (hw : d.wait = []) {r : Int} (hr : 0 ≤ r ∧ r < 34) {W : List Int} (hW : W.length = 8) (is : Nat → Bool) {a : Int} (ha : 0 ≤ a ∧ a < 34) : ((d.write r W).settle is).held a = if a = r ∧ is 0 = true then W else d.held a := by
  rw [settle_held (hd.write hW) is ha, write_held]
  have : (d.write r W).wait = [(r.toNat, W)] := by rw [write_pos hr]; simp [hw]
  rw [this]
  by_cases h0 : is 0 = true
  · simp only [List.zipIdx_cons, List.zipIdx_nil, List.filter_cons, h0, if_true, List.filter_nil, List.map_cons, List.map_nil, DiskS.last, List.foldl_cons, List.foldl_nil]
    by_cases e : a = r
    · subst e; simp
    · rw [if_neg (by omega), if_neg (fun h => e h.1)]
  · have h0 : is 0 = false := by simpa using h0
    simp [DiskS.last, h0]
theorem pgTo_rng (h : Good d s) (f : FreeOK s l) : ∀ k, k ≤ l.length → ∀ p, p < 14 → (pgTo s.pg l (freeS s) k).getD p 0 = 0 ∨ (2 ≤ (pgTo s.pg l (freeS s) k).getD p 0 ∧ (pgTo s.pg l (freeS s) k).getD p 0 < 34)
  | 0, _, p, hp => h.pgr p hp
  | k + 1, hk, p, hp => by
    have hlen := f.len
    have ih := pgTo_rng h f k (by omega) p hp
    have hr := f.rng k (by omega)
    rw [pgTo, List.getD_eq_getElem?_getD, List.getElem?_set]
    split
    · split
      · right; exact ⟨hr.1, hr.2.1⟩
      · left; rfl
    · rw [← List.getD_eq_getElem?_getD]; exact ih
/-- A root is written, and stays: what was to be is. -/
theorem commit_new (h : Good d s) (hw : ∀ x ∈ l, x.w.length = 8) (hl : l.length ≤ 14) (hn : ∀ x ∈ l, 0 ≤ x.n ∧ x.n < 14) {d' : DiskS} (hd' : d'.ok) (hw' : d'.wait = [])
    (hh : ∀ a : Int, 0 ≤ a ∧ a < 34 → d'.held a = if a = (s.gen + 1) % 2 then rootW (s.gen + 1) ((nextS s l).t.getD 0 0) ((nextS s l).t.getD 1 0) else ((comT d s l 2).settle fun _ => true).held a) :
    Good d' (nextS s l) ∧ ∀ p : Nat, p < 14 → pageW d' (nextS s l) p = newTo (fun p => pageW d s p) l l.length p := by
  have f := free_ok (l := l) h.sok hl
  have hlen := f.len
  have hg := h.gen
  have hpl : (nextS s l).pg.length = 14 := pgTo_len _ _ h.sok.2 _
  have q0 := f.rng l.length (by omega)
  have q1 := f.rng (l.length + 1) (by omega)
  have hG : Good d' (nextS s l) := by
    refine ⟨hd', hw', ⟨rfl, hpl⟩, by simp only [nextS]; omega, fun p hp => pgTo_rng h f l.length (Nat.le_refl _) p hp, .inr ⟨by simp only [nextS]; omega, _, _, rfl, ?_, ?_, ⟨q0.1, q0.2.1, ?_⟩, ⟨q1.1, q1.2.1, ?_⟩⟩⟩
    · show d'.held ((s.gen + 1) % 2) = _
      rw [hh _ ⟨by omega, by omega⟩, if_pos rfl]; rfl
    · show (d'.held ((s.gen + 1 + 1) % 2)).getD 0 0 < s.gen + 1
      have e : (s.gen + 1 + 1) % 2 = s.gen % 2 := by omega
      rw [e, hh _ ⟨by omega, by omega⟩, if_neg (by omega)]
      rcases (show s.gen % 2 = 0 ∨ s.gen % 2 = 1 by omega) with e2 | e2
      · rw [e2, sure_old h hw f ⟨by decide, by decide⟩ (.inl rfl)]
        rcases h.root with ⟨g0, -, -, h0, -⟩ | ⟨g0, t0, t1, -, hr, -⟩
        · rw [h0, g0]; decide
        · rw [e2] at hr; rw [hr]; simp only [rootW, List.getD_cons_zero]; omega
      · rw [e2, sure_old h hw f ⟨by decide, by decide⟩ (.inr (.inl rfl))]
        rcases h.root with ⟨g0, -, -, -, h1⟩ | ⟨g0, t0, t1, -, hr, -⟩
        · omega
        · rw [e2] at hr; rw [hr]; simp only [rootW, List.getD_cons_zero]; omega
    · rw [hh _ ⟨by omega, q0.2.1⟩, if_neg (by omega)]
      exact sure_new h hw ⟨by omega, q0.2.1⟩ (comT_table h f (i := 0) (by decide))
    · rw [hh _ ⟨by omega, q1.2.1⟩, if_neg (by omega)]
      exact sure_new h hw ⟨by omega, q1.2.1⟩ (comT_table h f (i := 1) (by decide))
  refine ⟨hG, fun p hp => ?_⟩
  obtain ⟨H, hH⟩ : ∃ H : Int → List Int, H = ((comT d s l 2).settle fun _ => true).held := ⟨_, rfl⟩
  have key : ∀ k, k ≤ l.length → ∀ p, p < 14 → pick0 H ((pgTo s.pg l (freeS s) k).getD p 0) = newTo (fun p => pageW d s p) l k p := by
    intro k
    induction k with
    | zero =>
      intro _ p hp
      show pick0 H (s.pg.getD p 0) = pageW d s p
      rw [h.page hp]
      rcases h.pgr p hp with h1 | h1
      · rw [pick0_z h1, if_pos h1]
      · rw [pick0_n (by omega), if_neg (by omega), hH]
        refine sure_old h hw f ⟨by omega, h1.2⟩ (.inr (.inr (.inr ?_)))
        have := h.sok.2
        rw [List.getD_eq_getElem?_getD, List.getElem?_eq_getElem (by omega)]
        exact List.getElem_mem _
    | succ k ih =>
      intro hk p hp
      have hx : l[k]? = some (l.getD k ⟨0, []⟩) := by rw [List.getD_eq_getElem?_getD, List.getElem?_eq_getElem (by omega)]; rfl
      have hxn := hn _ (List.mem_of_getElem? hx)
      have hpk := pgTo_len (pg := s.pg) l (freeS s) h.sok.2 k
      have hr := f.rng k (by omega)
      have e1 : (pgTo s.pg l (freeS s) (k + 1)).getD p 0 = if p = (l.getD k ⟨0, []⟩).n.toNat then (freeS s).getD k 0 else (pgTo s.pg l (freeS s) k).getD p 0 := by rw [pgTo]; exact set_getD (by omega)
      have e2 : newTo (fun p => pageW d s p) l (k + 1) p = if p = (l.getD k ⟨0, []⟩).n.toNat then (l.getD k ⟨0, []⟩).w else newTo (fun p => pageW d s p) l k p := rfl
      rw [e1, e2]
      by_cases e : p = (l.getD k ⟨0, []⟩).n.toNat
      · rw [if_pos e, if_pos e, pick0_n (by omega), hH]
        exact sure_new h hw ⟨by omega, hr.2.1⟩ (comT_page h f (by omega))
      · rw [if_neg e, if_neg e]
        exact ih (by omega) p hp
  rw [hG.page hp, ← key l.length (Nat.le_refl _) p hp]
  have hpe : (nextS s l).pg = pgTo s.pg l (freeS s) l.length := rfl
  rw [hpe]
  rcases pgTo_rng h f l.length (Nat.le_refl _) p hp with h1 | h1
  · rw [pick0_z h1, if_pos h1]
  · rw [pick0_n (by omega), if_neg (by omega), hh _ ⟨by omega, h1.2⟩, if_neg (by omega), hH]
theorem next_t_len (s : StS) (l : List PageS) : (rootW (s.gen + 1) ((nextS s l).t.getD 0 0) ((nextS s l).t.getD 1 0)).length = 8 := rfl
/-- The root is written; it stays, or not. -/
theorem commit_root (h : Good d s) (hw : ∀ x ∈ l, x.w.length = 8) (hl : l.length ≤ 14) (hn : ∀ x ∈ l, 0 ≤ x.n ∧ x.n < 14) (is : Nat → Bool) :
    if is 0 = true then Good ((comD d s l (l.length + 4)).settle is) (nextS s l) ∧ ∀ p : Nat, p < 14 → pageW ((comD d s l (l.length + 4)).settle is) (nextS s l) p = newTo (fun p => pageW d s p) l l.length p
    else Good ((comD d s l (l.length + 4)).settle is) s ∧ ∀ p : Nat, p < 14 → pageW ((comD d s l (l.length + 4)).settle is) s p = pageW d s p := by
  have f := free_ok (l := l) h.sok hl
  have hg := h.gen
  have e : comD d s l (l.length + 4) = ((comT d s l 2).settle fun _ => true).write ((s.gen + 1) % 2) (rootW (s.gen + 1) ((nextS s l).t.getD 0 0) ((nextS s l).t.getD 1 0)) := by
    rw [comD, if_neg (by omega), if_neg (by omega), if_neg (by omega), if_pos rfl]
  rw [e]
  have hok := settled_ok (comT_ok h hw (Nat.le_refl 2)) (fun _ => true)
  have hone := fun a ha => settle_one hok (settle_wait _ _) (r := (s.gen + 1) % 2) ⟨by omega, by omega⟩ (next_t_len s l) is (a := a) ha
  split
  · rename_i h0
    refine commit_new h hw hl hn (settled_ok (hok.write (next_t_len s l)) _) (settle_wait _ _) (fun a ha => ?_)
    rw [hone a ha]
    simp only [h0, and_true]
  · rename_i h0
    refine h.same (settled_ok (hok.write (next_t_len s l)) _) (settle_wait _ _) (fun a hu ha => ?_)
    rw [hone a ha, if_neg (fun q => h0 q.2), sure_old h hw f ha hu]
/-- All deeds were done. -/
theorem commit_done (h : Good d s) (hw : ∀ x ∈ l, x.w.length = 8) (hl : l.length ≤ 14) (hn : ∀ x ∈ l, 0 ≤ x.n ∧ x.n < 14) :
    Good (comD d s l (l.length + 5)) (nextS s l) ∧ ∀ p : Nat, p < 14 → pageW (comD d s l (l.length + 5)) (nextS s l) p = newTo (fun p => pageW d s p) l l.length p := by
  have hg := h.gen
  have e : comD d s l (l.length + 5) = (((comT d s l 2).settle fun _ => true).write ((s.gen + 1) % 2) (rootW (s.gen + 1) ((nextS s l).t.getD 0 0) ((nextS s l).t.getD 1 0))).settle fun _ => true := by
    rw [comD, if_neg (by omega), if_neg (by omega), if_neg (by omega), if_neg (by omega)]
  rw [e]
  have hok := settled_ok (comT_ok h hw (Nat.le_refl 2)) (fun _ => true)
  refine commit_new h hw hl hn (settled_ok (hok.write (next_t_len s l)) _) (settle_wait _ _) (fun a ha => ?_)
  rw [settle_one hok (settle_wait _ _) ⟨by omega, by omega⟩ (next_t_len s l) _ ha]
  simp
/-- A crash between commits changes nothing. -/
theorem Good.settle (h : Good d s) (is : Nat → Bool) : Good (d.settle is) s ∧ ∀ p : Nat, p < 14 → pageW (d.settle is) s p = pageW d s p :=
  h.same (settled_ok h.dok _) rfl (fun a _ ha => settle_keep h.dok _ ha (waits_nil h.wait a))
end
end Go.Proofs.Ytplobdiknobhoaa
