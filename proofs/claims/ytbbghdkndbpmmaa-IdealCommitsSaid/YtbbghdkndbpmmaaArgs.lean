/- What is read of an argument. -/
import Derived.Test.YtbbghdkndbpmmaaLift
import Derived.Test.YtbbghdkndbpmmaaAx
import Derived.ChangeArms
namespace Go.Proofs.Ytbbghdkndbpmmaa
open Go X
namespace X
/-- How a thing of a kind stands in cells, and what of memory tells of it. -/
abbrev RT (α : Type) := PH → List Value → α → Prop
/-- What is read at a type is a thing of a kind. -/
structure Dec {α : Type} (P : Program) (t : TypeId) (R : RT α) : Prop where
  out : ∀ {H : Type} {enc : TypeId × Value → H} {w : World} {fuel : Nat} {cs : List Value} {x : DataW H × List MemPlace}, DataW.trod enc P w 0 (fun _ => true) true fuel t cs = some x → ∃ y, R (ofHeap w.heap) cs y
variable {P : Program} {t e : TypeId}
theorem trod_pos {H : Type} {enc : TypeId × Value → H} {w : World} {base : Nat} {spare : Nat → Bool} {held : Bool} {fuel : Nat} {cs : List Value} {x : DataW H × List MemPlace} (h : DataW.trod enc P w base spare held fuel t cs = some x) : ∃ k, fuel = k + 1 := by
  cases fuel with
  | zero => simp [DataW.trod] at h
  | succ k => exact ⟨k, rfl⟩
def rInt (k : IntKind) : RT Int := fun _ cs n => cs = [.int k n] ∧ k.min ≤ n ∧ n ≤ k.max
def rBool : RT Bool := fun _ cs b => cs = [.bool b]
def rStr : RT ByteArray := fun _ cs s => cs = [.string s] ∧ s.size ≤ maxLen
theorem und_of {r : Ty} (hT : tyOf P t = some r) : ∃ d, P.underlying t = some d ∧ kindOf d = r.k ∧ P.cellsOf t = r.size := by
  obtain ⟨d, i, z, e1, e2, e3, e4, -⟩ := tyOf_spec hT
  exact ⟨d, e1, e2, by simp [Program.cellsOf, e3, e4]⟩
theorem Dec.int {r : Ty} {k : IntKind} (hT : tyOf P t = some r) (hk : r.k = .int k) : Dec P t (rInt k) := ⟨fun {H enc w fuel cs x} h => by
  obtain ⟨d, e1, e2, -⟩ := und_of hT
  rw [hk] at e2
  cases d <;> simp [kindOf] at e2
  subst e2
  obtain ⟨n, rfl⟩ := trod_pos h
  unfold DataW.trod at h
  rw [e1] at h
  dsimp only at h
  split at h <;> simp_all
  rename_i k' n' heq
  obtain ⟨⟨rfl, hw⟩, -⟩ := h
  obtain ⟨rfl, rfl⟩ := heq
  simp [Lit.wf] at hw
  exact ⟨n', rfl, hw.1, hw.2⟩⟩
theorem Dec.bool {r : Ty} (hT : tyOf P t = some r) (hk : r.k = .bool) : Dec P t rBool := ⟨fun {H enc w fuel cs x} h => by
  obtain ⟨d, e1, e2, -⟩ := und_of hT
  rw [hk] at e2
  cases d <;> simp [kindOf] at e2
  obtain ⟨n, rfl⟩ := trod_pos h
  unfold DataW.trod at h
  rw [e1] at h
  dsimp only at h
  split at h
  all_goals first | exact ⟨_, rfl⟩ | (simp_all; done)⟩
theorem Dec.str {r : Ty} (hT : tyOf P t = some r) (hk : r.k = .string) : Dec P t rStr := ⟨fun {H enc w fuel cs x} h => by
  obtain ⟨d, e1, e2, -⟩ := und_of hT
  rw [hk] at e2
  cases d <;> simp [kindOf] at e2
  obtain ⟨n, rfl⟩ := trod_pos h
  unfold DataW.trod at h
  rw [e1] at h
  dsimp only at h
  split at h
  all_goals first | (split at h; exact ⟨_, rfl, by assumption⟩; cases h; done) | (simp_all; done)⟩
theorem mapM_mem {α β : Type} {f : α → Option β} : ∀ {l : List α} {r : List β}, l.mapM f = some r → ∀ x ∈ l, ∃ y, f x = some y := by
  intro l
  induction l with
  | nil => intro r _ x hx; cases hx
  | cons a l' ih =>
    intro r h x hx
    rw [List.mapM_cons] at h
    cases ha : f a with
    | none => simp [ha] at h
    | some y =>
      cases has : l'.mapM f with
      | none => simp [ha, has] at h
      | some ys =>
        simp only [List.mem_cons] at hx
        rcases hx with rfl | hx
        · exact ⟨y, ha⟩
        · exact ih has x hx
/-- The parts of a struct. -/
theorem trod_fields {r : Ty} {fs : List (TypeId × Nat)} (hT : tyOf P t = some r) (hk : r.k = .struct fs) {H : Type} {enc : TypeId × Value → H} {w : World} {fuel : Nat} {cs : List Value} {x : DataW H × List MemPlace} (h : DataW.trod enc P w 0 (fun _ => true) true fuel t cs = some x) :
    cs.length = r.size ∧ ∀ f ∈ fs, ∃ fuel' y, DataW.trod enc P w 0 (fun _ => true) true fuel' f.1 ((cs.drop f.2).take (P.cellsOf f.1)) = some y := by
  obtain ⟨d, e1, e2, e3⟩ := und_of hT
  rw [hk] at e2
  cases d <;> simp [kindOf] at e2
  rename_i fields
  subst e2
  obtain ⟨n, rfl⟩ := trod_pos h
  unfold DataW.trod at h
  rw [e1] at h
  dsimp only at h
  split at h
  · rename_i hl
    refine ⟨by rw [hl, e3], fun f hf => ?_⟩
    simp only [Option.map_eq_some_iff] at h
    obtain ⟨xs, hxs, -⟩ := h
    simp only [List.mem_map] at hf
    obtain ⟨fd, hfd, rfl⟩ := hf
    obtain ⟨y, hy⟩ := mapM_mem hxs fd hfd
    exact ⟨n, y, hy⟩
  · cases h
theorem trod_elems {r : Ty} {n : Nat} (hT : tyOf P t = some r) (hk : r.k = .array n e) {H : Type} {enc : TypeId × Value → H} {w : World} {fuel : Nat} {cs : List Value} {x : DataW H × List MemPlace} (h : DataW.trod enc P w 0 (fun _ => true) true fuel t cs = some x) :
    cs.length = r.size ∧ ∀ i, i < n → ∃ fuel' y, DataW.trod enc P w 0 (fun _ => true) true fuel' e ((cs.drop (i * P.cellsOf e)).take (P.cellsOf e)) = some y := by
  obtain ⟨d, e1, e2, e3⟩ := und_of hT
  rw [hk] at e2
  cases d <;> simp [kindOf] at e2
  obtain ⟨rfl, rfl⟩ := e2
  obtain ⟨q, rfl⟩ := trod_pos h
  unfold DataW.trod at h
  rw [e1] at h
  dsimp only at h
  split at h
  · rename_i hl
    refine ⟨by rw [hl, e3], fun i hi => ?_⟩
    simp only [Option.map_eq_some_iff] at h
    obtain ⟨xs, hxs, -⟩ := h
    obtain ⟨y, hy⟩ := mapM_mem hxs i (by simpa using hi)
    exact ⟨q, y, hy⟩
  · cases h
theorem row_of_cells {w : World} {g o : Nat} {vs : List Value} (hne : 0 < vs.length) (hc : ∀ k, k < vs.length → w.cell? ⟨g, o + k, none⟩ = vs[k]?) : Row w.heap g o vs := by
  have h0 := hc 0 hne
  have key : ∃ c T fr, w.heap[g]? = some (.cells c T fr) := by
    unfold World.cell? at h0
    split at h0
    · exact ⟨_, _, _, by assumption⟩
    · rw [List.getElem?_eq_getElem hne] at h0; cases h0
  obtain ⟨c, T, fr, hg⟩ := key
  refine ⟨c, T, fr, hg, ?_⟩
  have hk : ∀ k, k < vs.length → c.toList[o + k]? = vs[k]? := fun k hk => by
    have := hc k hk
    simp [World.cell?, hg] at this
    simpa using this
  apply List.ext_getElem?
  intro k
  rcases Nat.lt_or_ge k vs.length with hl | hl
  · rw [List.getElem?_take, if_pos hl, List.getElem?_drop, hk k hl]
  · rw [List.getElem?_eq_none hl, List.getElem?_eq_none (by simp; omega)]
theorem flatten_get {α : Type} {s : Nat} : ∀ {rows : List (List α)}, (∀ r ∈ rows, r.length = s) → ∀ i j, i < rows.length → j < s → rows.flatten[i * s + j]? = (rows[i]?).bind (·[j]?)
  | [], _, i, _, hi, _ => by simp at hi
  | r :: rows, hr, 0, j, _, hj => by
    have := hr r (by simp)
    simp [List.getElem?_append_left (show j < r.length by omega)]
  | r :: rows, hr, i + 1, j, hi, hj => by
    have h1 := hr r (by simp)
    have h2 := flatten_get (rows := rows) (fun r' hr' => hr r' (List.mem_cons_of_mem _ hr')) i j (by simpa using hi) hj
    simp only [List.flatten_cons]
    rw [List.getElem?_append_right (by rw [h1, Nat.succ_mul]; omega), h1, show (i + 1) * s + j - s = i * s + j by rw [Nat.succ_mul]; omega, h2]
    simp
theorem flatten_len {α : Type} {s : Nat} : ∀ {rows : List (List α)}, (∀ r ∈ rows, r.length = s) → rows.flatten.length = rows.length * s
  | [], _ => by simp
  | r :: rows, hr => by
    have h := flatten_len (rows := rows) (fun r' hr' => hr r' (List.mem_cons_of_mem _ hr'))
    rw [List.flatten_cons, List.length_append, h, hr r (by simp), List.length_cons, Nat.succ_mul]; omega
/-- A list: of each element a row of s cells. -/
def PSl {α : Type} (s : Nat) (R : RT α) (σ : PH) (v : Value) (xs : List α) : Prop :=
  ∃ (p : Option Addr) (c : Nat) (rows : List (List Value)), v = .slice p xs.length c ∧ xs.length ≤ c ∧ c ≤ maxLen ∧ rows.length = xs.length ∧ (∀ row ∈ rows, row.length = s) ∧ (∀ (i : Nat) (row : List Value) (x : α), rows[i]? = some row → xs[i]? = some x → R σ row x) ∧ (0 < xs.length → ∃ g o, p = some ⟨g, o, none⟩ ∧ PRow σ g o rows.flatten)
theorem PSl.shape {α : Type} {s : Nat} {R : RT α} {σ : PH} {v : Value} {xs : List α} (h : PSl s R σ v xs) : ∃ p c, v = .slice p xs.length c ∧ xs.length ≤ c ∧ c ≤ maxLen := by
  obtain ⟨p, c, rows, h1, h2, h3, -⟩ := h; exact ⟨p, c, h1, h2, h3⟩
/-- Element k. -/
theorem PSl.at {α : Type} {s n c : Nat} {R : RT α} {σ : PH} {p : Option Addr} {xs : List α} (h : PSl s R σ (.slice p n c) xs) {k : Nat} {x : α} (hk : xs[k]? = some x) : ∃ g o row, p = some ⟨g, o, none⟩ ∧ R σ row x ∧ row.length = s ∧ PRow σ g (o + k * s) row := by
  obtain ⟨p', c', rows, h1, h2, h3, h4, h5, h6, h7⟩ := h
  simp only [Value.slice.injEq] at h1
  obtain ⟨rfl, rfl, rfl⟩ := h1
  have hlt := (List.getElem?_eq_some_iff.1 hk).1
  obtain ⟨g, o, rfl, hr⟩ := h7 (by omega)
  have hrk : rows[k]? = some rows[k] := List.getElem?_eq_getElem (by omega)
  have hl := h5 _ (List.mem_of_getElem? hrk)
  refine ⟨g, o, rows[k], rfl, h6 k _ x hrk hk, hl, hr.sub (j := k * s) ?_⟩
  have key : ∀ (rows : List (List Value)), (∀ row ∈ rows, row.length = s) → ∀ (k : Nat) (row : List Value), rows[k]? = some row → (rows.flatten.drop (k * s)).take row.length = row := by
    intro rows hr k row hk
    have := flat_row (fun r : List Value => r) s rows hr k row hk
    simpa [List.flatMap] using this
  exact key rows h5 k _ hrk
def rSl {α : Type} (s : Nat) (R : RT α) : RT (List α) := fun σ cs xs => ∃ v, cs = [v] ∧ PSl s R σ v xs
theorem rows_slice {α : Type} {s len cap : Nat} {R : RT α} {w : World} {a : Addr} (hs0 : 0 < s) (hle : len ≤ cap) (hcap : cap ≤ maxLen) (hrow : ∀ i, i < len → ∃ row, row.length = s ∧ (∀ j, j < s → w.cell? ((a.add (i * s)).add j) = row[j]?) ∧ ∃ y, R (ofHeap w.heap) row y) :
    ∃ y, rSl s R (ofHeap w.heap) [.slice (some a) len cap] y := by
  obtain ⟨rows, ys, hr1, hy1, hr2⟩ : ∃ (rows : List (List Value)) (ys : List α), rows.length = len ∧ ys.length = len ∧ ∀ i, i < len → ∃ row y, rows[i]? = some row ∧ ys[i]? = some y ∧ row.length = s ∧ (∀ j, j < s → w.cell? ((a.add (i * s)).add j) = row[j]?) ∧ R (ofHeap w.heap) row y := by
    induction len with
    | zero => exact ⟨[], [], rfl, rfl, fun i hi => absurd hi (Nat.not_lt_zero _)⟩
    | succ n ih =>
      obtain ⟨rows, ys, h1, h2, h3⟩ := ih (by omega) (fun i hi => hrow i (by omega))
      obtain ⟨row, r1, r2, y, r3⟩ := hrow n (by omega)
      refine ⟨rows ++ [row], ys ++ [y], by simp [h1], by simp [h2], fun i hi => ?_⟩
      rcases Nat.lt_or_ge i n with hl | hl
      · obtain ⟨row', y', q1, q2, q3⟩ := h3 i hl
        exact ⟨row', y', by rw [List.getElem?_append_left (by omega)]; exact q1, by rw [List.getElem?_append_left (by omega)]; exact q2, q3⟩
      · have : i = n := by omega
        subst this
        exact ⟨row, y, by rw [List.getElem?_append_right (by omega), h1]; simp, by rw [List.getElem?_append_right (by omega), h2]; simp, r1, r2, r3⟩
  have hall : ∀ row ∈ rows, row.length = s := fun row hm => by
    obtain ⟨i, hi, rfl⟩ := List.mem_iff_getElem.1 hm
    obtain ⟨row', y, q1, -, q3, -⟩ := hr2 i (by omega)
    rw [List.getElem?_eq_getElem hi] at q1
    simp only [Option.some.injEq] at q1
    rw [q1]; exact q3
  refine ⟨ys, _, rfl, some a, cap, rows, by rw [hy1], by omega, hcap, by omega, hall, fun i row y q1 q2 => ?_, fun hpos => ?_⟩
  · obtain ⟨row', y', p1, p2, -, -, p5⟩ := hr2 i (by rw [← hr1]; exact (List.getElem?_eq_some_iff.1 q1).1)
    rw [q1] at p1; rw [q2] at p2
    simp only [Option.some.injEq] at p1 p2
    subst p1; subst p2; exact p5
  · rw [hy1] at hpos
    have hsp : a.spot = none := by
      obtain ⟨row, y, q1, -, q3, q4, -⟩ := hr2 0 hpos
      have := q4 0 hs0
      rw [Nat.zero_mul] at this
      simp only [Addr.add, if_true] at this
      rw [List.getElem?_eq_getElem (by omega)] at this
      unfold World.cell? at this
      split at this
      · cases hq : a.spot with
        | none => rfl
        | some z => rw [hq] at this; simp at this
      · cases this
    obtain ⟨g, o, sp⟩ := a
    simp only at hsp
    subst hsp
    refine ⟨g, o, rfl, PRow.of (row_of_cells (by rw [flatten_len hall, hr1]; exact Nat.mul_pos hpos hs0) fun k hk => ?_)⟩
    rw [flatten_len hall, hr1] at hk
    have hi : k / s < len := Nat.div_lt_of_lt_mul (by rw [Nat.mul_comm]; exact hk)
    have hj : k % s < s := Nat.mod_lt _ hs0
    obtain ⟨row, y, q1, -, q3, q4, -⟩ := hr2 (k / s) hi
    have h1 := q4 (k % s) hj
    rw [addr_add, addr_add] at h1
    have hdm : k / s * s + k % s = k := by rw [Nat.mul_comm]; exact Nat.div_add_mod k s
    rw [show o + k / s * s + k % s = o + k by omega] at h1
    rw [h1]
    have := flatten_get hall (k / s) (k % s) (by omega) hj
    rw [hdm] at this
    rw [this, q1]; rfl
theorem Dec.slice {α : Type} {r re : Ty} {s : Nat} {R : RT α} (hT : tyOf P t = some r) (hk : r.k = .slice e) (hE : tyOf P e = some re) (hs : re.size = s) (hs0 : 0 < s) (hd : Dec P e R) : Dec P t (rSl s R) := ⟨fun {H enc w fuel cs x} h => by
  obtain ⟨d, e1, e2, -⟩ := und_of hT
  obtain ⟨d', -, -, e3⟩ := und_of hE
  rw [hk] at e2
  cases d <;> simp [kindOf] at e2
  subst e2
  obtain ⟨rfl, -⟩ | ⟨a, len, cap, elems, rest, n, rfl, rfl, -, -, hle, hcap, hlen, hel, -, -⟩ := DataW.trod_slice e1 h
  · exact ⟨[], _, rfl, none, 0, [], rfl, Nat.le_refl _, by simp [maxLen], rfl, by simp, by simp, by simp⟩
  · rw [e3, hs] at hel
    have hrow : ∀ i, i < len → ∃ row, row.length = s ∧ (∀ j, j < s → w.cell? ((a.add (i * s)).add j) = row[j]?) ∧ ∃ y, R (ofHeap w.heap) row y := fun i hi => by
      have hy := hel i hi
      rw [List.getElem?_eq_getElem (by omega)] at hy
      simp only [Option.bind_eq_some_iff] at hy
      obtain ⟨row, h1, h2⟩ := hy
      obtain ⟨-, h3, h4⟩ := World.cells?_some h1
      exact ⟨row, h3, h4, hd.out h2⟩
    exact rows_slice hs0 hle hcap hrow⟩
theorem PSl.mono {α : Type} {s : Nat} {R : RT α} {σ σ' : PH} {v : Value} {xs : List α} (hs : σ.sub σ') (hR : ∀ cs x, R σ cs x → R σ' cs x) (h : PSl s R σ v xs) : PSl s R σ' v xs := by
  obtain ⟨p, c, rows, h1, h2, h3, h4, h5, h6, h7⟩ := h
  exact ⟨p, c, rows, h1, h2, h3, h4, h5, fun i row x a b => hR _ _ (h6 i row x a b), fun hp => by obtain ⟨g, o, e, r⟩ := h7 hp; exact ⟨g, o, e, r.mono hs⟩⟩
theorem PSl.nil {α : Type} (s : Nat) (R : RT α) (σ : PH) : PSl s R σ (.slice none 0 0) [] := ⟨none, 0, [], rfl, Nat.le_refl _, by simp [maxLen], rfl, by simp, by simp, by simp⟩
/-- From what a law's function does to the statement. -/
theorem callsX_true {fid : FuncId} {args : Array Value} {h : Heap} (hc : CallsA P fid args (ofHeap h) [] (RetA fun v σ' _ => v = .bool true ∧ (ofHeap h).sub σ')) : CallsX P fid args h (Ret fun v h' => v = .bool true ∧ Ext h h') := by
  have hh : Holds (ofHeap h) [] PH.none h := ⟨PH.none, trivial, PH.none_le h, ofHeap_le h, PH.none_le h, (PH.none_dis _).symm, PH.none_dis _, PH.none_dis _⟩
  refine CallsX.mono (hc.2 PH.none h hh) ?_
  rintro e h' ⟨σ', Γ', hr, hh'⟩
  cases e with
  | returned v =>
    obtain ⟨rfl, hs⟩ := hr
    have hle := hs.le hh'.per
    refine ⟨rfl, ?_, fun k hk => ?_⟩
    · rcases Nat.lt_or_ge h'.size h.size with hl | hl
      · have := hle.lt (k := h'.size) (o := h[h'.size]) (by simp [ofHeap, hl])
        omega
      · exact hl
    · rw [Array.getElem?_eq_getElem hk]
      exact hle k _ (by simp [ofHeap, hk])
  | panicked c => exact hr
  | outgrown => exact hr
end X
end Go.Proofs.Ytbbghdkndbpmmaa
