/- Steps of a store's life; the reference's Vault. -/
import Derived.Test.YtplobdiknobhoaaSb
namespace Go.Proofs.Ytplobdiknobhoaa
open Go X
set_option maxHeartbeats 1000000
theorem lst4 {α : Type} : ∀ {l : List α}, l.length = 4 → ∃ a b c d, l = [a, b, c, d]
  | [a, b, c, d], _ => ⟨a, b, c, d, rfl⟩
/-- A step. -/
structure Stp where
  do_ : Int
  deeds : Int
  pages : List PageS
  mask : Int
def rStp : RT Stp := fun σ cs x => ∃ sl, cs = [i64 x.do_, i64 x.deeds, sl, .int .u64 x.mask] ∧ okD x.deeds ∧ PSl 9 rPage σ sl x.pages ∧ 0 ≤ x.mask ∧ x.mask < 18446744073709551616
theorem cellsOf_ty' {P : Program} {t : TypeId} {r : Ty} (hT : tyOf P t = some r) : P.cellsOf t = r.size := by obtain ⟨d, -, -, e3⟩ := und_of hT; exact e3
theorem dec_page : Dec Try.prog 66 rPage := ⟨fun {H enc w fuel cs x} h => by
  obtain ⟨hl, hx⟩ := trod_fields (tyrow rfl) rfl h
  obtain ⟨f0, y0, h0⟩ := hx (3, 0) (by simp)
  obtain ⟨f1, y1, h1⟩ := hx (32, 1) (by simp)
  obtain ⟨n, p0, -⟩ := (Dec.int (tyrow rfl) rfl).out h0
  obtain ⟨w, p1, w8, -⟩ := (Dec.words (tyrow rfl) rfl rfl (tyrow rfl) rfl rfl).out h1
  rw [cellsOf_ty' (tyrow rfl)] at p0 p1
  have hcs : cs.length = 9 := hl
  refine ⟨⟨n, w⟩, ?_, w8⟩
  have e : cs = cs.take 1 ++ (cs.drop 1).take 8 := by
    have h1 := List.take_append_drop 1 cs
    rw [show (cs.drop 1).take 8 = cs.drop 1 from List.take_of_length_le (by rw [List.length_drop, hcs]; decide)]
    exact h1.symm
  rw [e]
  have p0 : cs.take 1 = [i64 n] := by simpa using p0
  have p1 : (cs.drop 1).take 8 = ints w := p1
  rw [p0, p1]; rfl⟩
theorem dec_stp : Dec Try.prog 55 rStp := ⟨fun {H enc w fuel cs x} h => by
  obtain ⟨hl, hx⟩ := trod_fields (tyrow rfl) rfl h
  obtain ⟨f0, y0, h0⟩ := hx (3, 0) (by simp)
  obtain ⟨f1, y1, h1⟩ := hx (3, 1) (by simp)
  obtain ⟨f2, y2, h2⟩ := hx (53, 2) (by simp)
  obtain ⟨f3, y3, h3⟩ := hx (33, 3) (by simp)
  obtain ⟨a0, p0, -⟩ := (Dec.int (tyrow rfl) rfl).out h0
  obtain ⟨a1, p1, q1⟩ := (Dec.int (tyrow rfl) rfl).out h1
  obtain ⟨a2, v2, p2, q2⟩ := (Dec.slice (tyrow rfl) rfl (tyrow rfl) rfl (by decide) dec_page).out h2
  obtain ⟨a3, p3, q3⟩ := (Dec.int (tyrow rfl) rfl).out h3
  rw [cellsOf_ty' (tyrow rfl)] at p0 p1 p2 p3
  have hcs : cs.length = 4 := hl
  obtain ⟨c0, c1, c2, c3, rfl⟩ := lst4 hcs
  simp only [List.drop_zero, List.drop_succ_cons] at p0 p1 p2 p3
  have e0 : c0 = i64 a0 := by have := congrArg (·[0]?) p0; simpa using this
  have e1 : c1 = i64 a1 := by have := congrArg (·[0]?) p1; simpa using this
  have e2 : c2 = v2 := by have := congrArg (·[0]?) p2; simpa using this
  have e3 : c3 = .int .u64 a3 := by have := congrArg (·[0]?) p3; simpa using this
  subst e0 e1 e2 e3
  exact ⟨⟨a0, a1, a2, a3⟩, _, rfl, q1, q2, by have := q3.1; simpa [IntKind.min, IntKind.signed] using this, by have := q3.2; simp [IntKind.max, IntKind.signed, IntKind.bits] at this; simp only; omega⟩⟩
/-- Steps that are not too many. -/
def FewS (l : List Stp) : Prop := l.length ≤ 60 ∧ ∀ x ∈ l, x.pages.length ≤ 30
theorem great_a (σ : PH) (sl : Value) (l : List Stp) (hl : PSl 4 rStp σ sl l) : CallsA Try.prog 28 #[sl] σ [] (RetA fun v σ' Γ' => ∃ b : Bool, v = .bool b ∧ (b = false → FewS l) ∧ σ = σ' ∧ Γ' = []) := by
  obtain ⟨pv, cv, rfl, hvl, hvm⟩ := hl.shape
  have hlen : l.length ≤ maxLen := by omega
  simp only [maxLen] at hlen
  refine enterA1 Try.func28 rfl rfl rfl ?_
  refine XA.seq ?_
  refine XA.region ?_
  refine XOA.rd rfl Rd.asg ?_
  refine XOA.nil ?_
  refine DA.thn_normal ?_
  refine XA.seq ?_
  refine XA.seq ?_
  refine XA.region ?_
  refine XOA.rd rfl Rd.asg ?_
  refine XOA.nil ?_
  refine DA.thn_normal ?_
  refine XA.block ?_
  refine XA.gen [(0, _), (2, _), (3, _)] ⟨(by with_reducible (conv => lhs; whnf)), (by with_reducible (conv => lhs; whnf)), (by with_reducible (conv => lhs; whnf)), trivial⟩ (fun δ => ?_)
  dsimp only [List.foldl]
  refine XA.loop [(2, 20)] (fun q : Nat => [(3, i64 q)]) (fun q σ' Γ' => σ = σ' ∧ q ≤ l.length ∧ (∀ (j : Nat) x, j < q → l[j]? = some x → x.pages.length ≤ 30) ∧ Γ' = []) (fun q => l.length - q) 0 (by exact ⟨rfl, trivial⟩) (Δ0 := _) ?_ (⟨rfl, Nat.zero_le _, fun j x h => absurd h (Nat.not_lt_zero _), rfl⟩) ?_
  · exact (by (repeat (first | exact Ent.nil _ | (apply Ent.sel; focus (first | ((repeat (first | with_reducible exact Sel.head | apply Sel.tail)); done) | ((repeat (first | exact Sel.head | apply Sel.tail)); done))) | apply Ent.selNil | apply Ent.selEmp)); (first | done | fail))
  rintro i δ _ _ ⟨rfl, hi, hall, rfl⟩
  dsimp only [ovr, List.foldl]
  have hfin : (l.length : Int) ≤ 60 → (i = l.length ∨ 100 ≤ i) → FewS l := fun h1 h2 => ⟨by omega, fun x hx => by
    obtain ⟨j, hj, e⟩ := List.mem_iff_getElem.1 hx
    exact hall j x (by omega) (by rw [List.getElem?_eq_getElem hj, e])⟩
  by_cases h1 : i < l.length
  · by_cases h2 : i < 100
    · obtain ⟨x', hx'⟩ : ∃ x', l[i]? = some x' := ⟨_, List.getElem?_eq_getElem h1⟩
      obtain ⟨g, o, row, rfl, ⟨sp, rfl, -, hpp, -, -⟩, hrl, hrow⟩ := hl.at hx'
      obtain ⟨ps, cs, rfl, -, -⟩ := hpp.shape
      have r2 : PRow σ g (o + i * 4 + 2) [.slice ps x'.pages.length cs] := hrow.sub (j := 2) rfl
      refine XA.seq ?_
      refine XA.seq ?_
      refine XA.region ?_
      refine XOA.rd rfl Rd.mv ?_
      refine XOA.rd rfl Rd.mv ?_
      refine XOA.rd rfl (Rd.lenSlice (tyrow rfl) rfl rfl) ?_
      refine XOA.rd rfl (Rd.lss rfl rfl) ?_
      refine XOA.rd rfl Rd.mv ?_
      first | ((first | refine XOA.wanted rfl rfl ?_ | refine XOA.wq rfl rfl ?_); refine XOA.rd rfl Rd.mv ?_) | refine XOA.unwanted rfl rfl rfl rfl ?_ | refine XOA.uq rfl rfl rfl ?_ | refine XOA.unwantedU rfl rfl rfl ?_
      first | ((first | refine XOA.wanted rfl rfl ?_ | refine XOA.wq rfl rfl ?_); refine XOA.rd rfl (Rd.lss rfl rfl) ?_) | refine XOA.unwanted rfl rfl rfl rfl ?_ | refine XOA.uq rfl rfl rfl ?_ | refine XOA.unwantedU rfl rfl rfl ?_
      refine XOA.rd rfl (by first | exact Rd.pT rfl | exact Rd.pF rfl | exact Rd.pP rfl) ?_
      refine XOA.nil ?_
      refine DA.thn_normal ?_
      refine XA.condT rfl (by first | rfl | exact (by first | exact (rfl : decide _ = true) | exact (rfl : decide _ = false) | (refine decide_eq_true ?_; assumption) | (refine decide_eq_false ?_; assumption) | (refine decide_eq_true ?_; omega) | (refine decide_eq_false ?_; omega))) ?_
      refine XA.skip ?_
      refine DA.thn_normal ?_
      refine XA.seq ?_
      refine XA.block ?_
      refine XA.seq ?_
      refine XA.region ?_
      refine XOA.rd rfl Rd.mv ?_
      refine XOA.rd rfl Rd.mv ?_
      refine XOA.rd rfl (Rd.ixS rfl rfl) ?_
      refine XOA.rd rfl (Rd.fA rfl) ?_
      refine XOA.rd rfl (Rd.ldC rfl (tyrow rfl) rfl) ?_
      refine XOA.rd rfl (Rd.lenSlice (tyrow rfl) rfl rfl) ?_
      refine XOA.rd rfl (Rd.gtr rfl rfl) ?_
      refine XOA.nil ?_
      refine DA.thn_normal ?_
      refine XA.condp rfl (fun h3 => ?_) (fun h3 => ?_)
      · refine XA.seq ?_
        refine XA.region ?_
        refine XOA.rd rfl Rd.asg ?_
        refine XOA.nil ?_
        refine DA.thn_normal ?_
        refine XA.ret ?_
        refine DA.inb_ret ?_
        refine DA.thn_ret ?_
        refine DA.thn_ret ?_
        refine DA.inb_ret ?_
        refine DA.thn_ret ?_
        exact bodyA.ret (ResA.one rfl rfl) (Ent.nil _) ⟨true, rfl, fun h => (by cases h), rfl, rfl⟩
      have hnew : ∀ (j : Nat) x, j < i + 1 → l[j]? = some x → x.pages.length ≤ 30 := fun j x hj hx => by
        rcases Nat.lt_or_ge j i with h | h
        · exact hall j x h hx
        · have : j = i := by omega
          subst this
          rw [hx'] at hx; simp only [Option.some.injEq] at hx; subst hx
          omega
      refine XA.skip ?_
      refine DA.inb_normal ?_
      refine DA.thn_normal ?_
      refine XA.region ?_
      refine XOA.rd rfl Rd.mv ?_
      refine XOA.rd rfl (by first | exact Rd.adi rfl rfl | exact Rd.add rfl rfl) ?_
      refine XOA.rd rfl Rd.asg ?_
      refine XOA.nil ?_
      refine DA.thn_normal ?_
      refine ⟨(Keep.upd (Keep.upd (Keep.upd (Keep.upd (Keep.upd (Keep.upd (Keep.upd (Keep.upd (Keep.upd (Keep.upd (Keep.upd (Keep.upd (Keep.upd (Keep.upd (Keep.upd (Keep.upd (Keep.upd (Keep.upd (Keep.upd (Keep.hav (Keep.refl _ _) rfl) rfl) rfl) rfl) rfl) rfl) rfl) rfl) rfl) rfl) rfl) rfl) rfl) rfl) rfl) rfl) rfl) rfl) rfl) rfl), i + 1, _, (by (repeat (first | exact trivial | refine ⟨rfl, ?_⟩ | refine ⟨Eq.trans rfl (congrArg Value.bool hmat.symm), ?_⟩)); (first | done | fail)), ?_, ⟨rfl, h1, hnew, rfl⟩, (by omega)⟩
      · exact (by (repeat (first | exact Ent.nil _ | (apply Ent.sel; focus (first | ((repeat (first | with_reducible exact Sel.head | apply Sel.tail)); done) | ((repeat (first | exact Sel.head | apply Sel.tail)); done))) | apply Ent.selNil | apply Ent.selEmp)); (first | done | fail))
    · 
      refine XA.seq ?_
      refine XA.seq ?_
      refine XA.region ?_
      refine XOA.rd rfl Rd.mv ?_
      refine XOA.rd rfl Rd.mv ?_
      refine XOA.rd rfl (Rd.lenSlice (tyrow rfl) rfl rfl) ?_
      refine XOA.rd rfl (Rd.lss rfl rfl) ?_
      refine XOA.rd rfl Rd.mv ?_
      first | ((first | refine XOA.wanted rfl rfl ?_ | refine XOA.wq rfl rfl ?_); refine XOA.rd rfl Rd.mv ?_) | refine XOA.unwanted rfl rfl rfl rfl ?_ | refine XOA.uq rfl rfl rfl ?_ | refine XOA.unwantedU rfl rfl rfl ?_
      first | ((first | refine XOA.wanted rfl rfl ?_ | refine XOA.wq rfl rfl ?_); refine XOA.rd rfl (Rd.lss rfl rfl) ?_) | refine XOA.unwanted rfl rfl rfl rfl ?_ | refine XOA.uq rfl rfl rfl ?_ | refine XOA.unwantedU rfl rfl rfl ?_
      refine XOA.rd rfl (by first | exact Rd.pT rfl | exact Rd.pF rfl | exact Rd.pP rfl) ?_
      refine XOA.nil ?_
      refine DA.thn_normal ?_
      refine XA.condF rfl (by first | rfl | exact (by first | exact (rfl : decide _ = true) | exact (rfl : decide _ = false) | (refine decide_eq_true ?_; assumption) | (refine decide_eq_false ?_; assumption) | (refine decide_eq_true ?_; omega) | (refine decide_eq_false ?_; omega))) ?_
      refine XA.exit ?_
      refine DA.thn_exit ?_
      refine DA.thn_exit ?_
      refine DA.inb_same ?_
      refine DA.thn_normal ?_
      refine XA.seq ?_
      refine XA.region ?_
      refine XOA.rd rfl Rd.mv ?_
      refine XOA.rd rfl (Rd.lenSlice (tyrow rfl) rfl rfl) ?_
      refine XOA.rd rfl (Rd.gtr rfl rfl) ?_
      refine XOA.rd rfl Rd.asg ?_
      refine XOA.nil ?_
      refine DA.thn_normal ?_
      refine XA.ret ?_
      exact bodyA.ret (ResA.one rfl rfl) (Ent.nil _) ⟨decide (60 < (l.length : Int)), rfl, fun h => hfin (by have := of_decide_eq_false h; omega) (.inr (by omega)), rfl, rfl⟩
  · 
    refine XA.seq ?_
    refine XA.seq ?_
    refine XA.region ?_
    refine XOA.rd rfl Rd.mv ?_
    refine XOA.rd rfl Rd.mv ?_
    refine XOA.rd rfl (Rd.lenSlice (tyrow rfl) rfl rfl) ?_
    refine XOA.rd rfl (Rd.lss rfl rfl) ?_
    refine XOA.rd rfl Rd.mv ?_
    first | ((first | refine XOA.wanted rfl rfl ?_ | refine XOA.wq rfl rfl ?_); refine XOA.rd rfl Rd.mv ?_) | refine XOA.unwanted rfl rfl rfl rfl ?_ | refine XOA.uq rfl rfl rfl ?_ | refine XOA.unwantedU rfl rfl rfl ?_
    first | ((first | refine XOA.wanted rfl rfl ?_ | refine XOA.wq rfl rfl ?_); refine XOA.rd rfl (Rd.lss rfl rfl) ?_) | refine XOA.unwanted rfl rfl rfl rfl ?_ | refine XOA.uq rfl rfl rfl ?_ | refine XOA.unwantedU rfl rfl rfl ?_
    refine XOA.rd rfl (by first | exact Rd.pT rfl | exact Rd.pF rfl | exact Rd.pP rfl) ?_
    refine XOA.nil ?_
    refine DA.thn_normal ?_
    refine XA.condF rfl (by first | rfl | exact (by first | exact (rfl : decide _ = true) | exact (rfl : decide _ = false) | (refine decide_eq_true ?_; assumption) | (refine decide_eq_false ?_; assumption) | (refine decide_eq_true ?_; omega) | (refine decide_eq_false ?_; omega))) ?_
    refine XA.exit ?_
    refine DA.thn_exit ?_
    refine DA.thn_exit ?_
    refine DA.inb_same ?_
    refine DA.thn_normal ?_
    refine XA.seq ?_
    refine XA.region ?_
    refine XOA.rd rfl Rd.mv ?_
    refine XOA.rd rfl (Rd.lenSlice (tyrow rfl) rfl rfl) ?_
    refine XOA.rd rfl (Rd.gtr rfl rfl) ?_
    refine XOA.rd rfl Rd.asg ?_
    refine XOA.nil ?_
    refine DA.thn_normal ?_
    refine XA.ret ?_
    exact bodyA.ret (ResA.one rfl rfl) (Ent.nil _) ⟨decide (60 < (l.length : Int)), rfl, fun h => hfin (by have := of_decide_eq_false h; omega) (.inl (by omega)), rfl, rfl⟩
theorem pagesOf_a (σ : PH) (sl : Value) (l : List PageS) (hl : PSl 9 rPage σ sl l) (h30 : l.length ≤ 30) : CallsA Try.prog 32 #[sl] σ [] (RetA fun v σ' Γ' => ∃ (p : Option Addr) (c : Nat) (rows : List (List Value)), v = .slice p l.length c ∧ Rows_ 9 rPage σ rows l ∧ σ = σ' ∧ Γ' = [lst 85 9 (.slice p l.length c) l.length rows.flatten]) := by
  obtain ⟨pl, cl, rfl, hle, hmx⟩ := hl.shape
  refine enterA1 Try.func32 rfl rfl rfl ?_
  refine XA.seq ?_
  refine XA.region ?_
  refine XOA.rd rfl Rd.asg ?_
  refine XOA.nil ?_
  refine DA.thn_normal ?_
  refine XA.seq ?_
  refine XA.region ?_
  refine XOA.rd rfl Rd.asg ?_
  refine XOA.nil ?_
  refine DA.thn_normal ?_
  refine XA.seq ?_
  refine XA.seq ?_
  refine XA.region ?_
  refine XOA.rd rfl Rd.asg ?_
  refine XOA.nil ?_
  refine DA.thn_normal ?_
  refine XA.block ?_
  refine XA.gen [(0, _), (2, _), (3, _), (4, _)] ⟨(by with_reducible (conv => lhs; whnf)), (by with_reducible (conv => lhs; whnf)), (by with_reducible (conv => lhs; whnf)), (by with_reducible (conv => lhs; whnf)), trivial⟩ (fun δ => ?_)
  dsimp only [List.foldl]
  refine XA.loop [(3, 24)] (fun q : Nat × (Option Addr × Nat) => [(4, i64 q.1), (3, .slice q.2.1 q.1 q.2.2)]) (fun q σ' Γ' => σ = σ' ∧ q.1 ≤ l.length ∧ ∃ (rows : List (List Value)), Rows_ 9 rPage σ rows (l.take q.1) ∧ Γ' = [lst 85 9 (.slice q.2.1 q.1 q.2.2) q.1 rows.flatten]) (fun q => l.length - q.1) (0, (none, 0)) (by exact ⟨rfl, rfl, trivial⟩) (Δ0 := _) ?_ (⟨rfl, Nat.zero_le _, [], Rows_.nil _ _ _, rfl⟩) ?_
  · exact (by (repeat (first | exact Ent.nil _ | (apply Ent.sel; focus (first | ((repeat (first | with_reducible exact Sel.head | apply Sel.tail)); done) | ((repeat (first | exact Sel.head | apply Sel.tail)); done))) | apply Ent.selNil | apply Ent.selEmp)); (first | done | fail))
  rintro ⟨i, p, c⟩ δ _ _ ⟨rfl, hi, rows, hrows, rfl⟩
  dsimp only [ovr, List.foldl]
  have hi : i ≤ l.length := hi
  have hrows : Rows_ 9 rPage σ rows (l.take i) := hrows
  refine XA.seq ?_
  refine XA.seq ?_
  refine XA.region ?_
  refine XOA.rd rfl Rd.mv ?_
  refine XOA.rd rfl Rd.mv ?_
  refine XOA.rd rfl (Rd.lenSlice (tyrow rfl) rfl rfl) ?_
  refine XOA.rd rfl (Rd.lss rfl rfl) ?_
  refine XOA.nil ?_
  refine DA.thn_normal ?_
  refine XA.condp rfl (fun hlt => ?_) (fun hlt => ?_)
  · have hlt : i < l.length := by omega
    obtain ⟨x, hx⟩ : ∃ x, l[i]? = some x := ⟨_, List.getElem?_eq_getElem hlt⟩
    obtain ⟨g, o, row, rfl, hrx, hrl, hrow⟩ := hl.at hx
    obtain ⟨rfl, hx8⟩ := hrx
    have r0 : PRow σ g (o + i * 9) [i64 x.n] := hrow.sub (j := 0) rfl
    have r1 : PRow σ g (o + i * 9 + 1) (ints x.w) := hrow.sub (j := 1) (take_eq (us := ints x.w) rfl)
    have hxl : (i64 x.n :: ints x.w).length = 9 := by simp [hx8]
    have hone : ones (i64 x.n :: ints x.w) := ones_cons rfl (ones_ints _)
    have hrow2 : rPage σ (i64 x.n :: ints x.w) x := ⟨rfl, hx8⟩
    refine XA.skip ?_
    refine DA.thn_normal ?_
    refine XA.seq ?_
    refine XA.block ?_
    refine XA.draw (by kernel_rfl) _ _ [12, 13] [(0, .pu), (1, .pu), (2, .pu), (3, .pu), (4, .pu), (5, .rd), (6, .pu), (7, .pu), (8, .pu), (9, .pu), (10, .rd), (11, .pu), (12, .wr), (13, .wr), (14, .pu)] (by kernel_rfl) (PH.sub.refl _) (Ent.nil _) ?_
    refine XPA.pu rfl rfl Gd.free Rd.mv ?_
    refine XPA.pu rfl rfl Gd.free Rd.mv ?_
    refine XPA.pu rfl rfl Gd.free Rd.mv ?_
    refine XPA.pu rfl rfl Gd.free (Rd.ixS rfl rfl) ?_
    refine XPA.pu rfl rfl Gd.free (Rd.fA rfl) ?_
    refine XPA.rd rfl rfl Gd.free (Rd.ldC rfl (tyrow rfl) rfl) ?_
    refine XPA.pu rfl rfl Gd.free Rd.mv ?_
    refine XPA.pu rfl rfl Gd.free Rd.mv ?_
    refine XPA.pu rfl rfl Gd.free (Rd.ixS rfl rfl) ?_
    refine XPA.pu rfl rfl Gd.free (Rd.fA rfl) ?_
    refine XPA.rd rfl rfl Gd.free (Rd.ldA rfl) ?_
    refine XPA.pu rfl rfl Gd.free (Rd.bl (fun _ _ => tyrow) rfl rfl rfl) ?_
    refine XPA.wrZ0 rfl rfl Gd.free (by kernel_rfl) (WrA.bs1 (tyrow rfl) rfl (tyrow rfl)) ?_
    rintro _ _ _ ⟨g23, rfl, rfl, rfl⟩
    refine XPA.wrZ0 rfl rfl Gd.free (by kernel_rfl) (WrA.ap1 (tyrow rfl) rfl (tyrow rfl) rfl rfl rfl) ?_
    rintro _ _ _ ⟨p24, c24, rfl, rfl, rfl⟩
    refine XPA.pu rfl rfl Gd.free Rd.asg ?_
    refine XPA.nil ?_
    refine DA.inb_normal ?_
    refine DA.thn_normal ?_
    refine XA.region ?_
    refine XOA.rd rfl Rd.mv ?_
    refine XOA.rd rfl (by first | exact Rd.adi rfl rfl | exact Rd.add rfl rfl) ?_
    refine XOA.rd rfl Rd.asg ?_
    refine XOA.nil ?_
    refine DA.thn_normal ?_
    have hnew : Rows_ 9 rPage σ (rows ++ [i64 x.n :: ints x.w]) (l.take (i + 1)) := by rw [takeS hx]; exact hrows.snoc hxl hrow2
    refine ⟨(Keep.upd (Keep.upd (Keep.upd (Keep.upd (Keep.updO (Keep.updO (Keep.upd (Keep.upd (Keep.upd (Keep.upd (Keep.upd (Keep.upd (Keep.upd (Keep.upd (Keep.upd (Keep.upd (Keep.upd (Keep.upd (Keep.upd (Keep.upd (Keep.upd (Keep.upd (Keep.upd (Keep.upd (Keep.hav (Keep.refl _ _) rfl) rfl) rfl) rfl) rfl) rfl) rfl) rfl) rfl) rfl) rfl) rfl) rfl) rfl) rfl) rfl) rfl) rfl) rfl) rfl) rfl) rfl) rfl) rfl) rfl), (i + 1, (p24, c24)), _, (by (repeat (first | exact trivial | refine ⟨rfl, ?_⟩ | refine ⟨Eq.trans rfl (congrArg Value.bool hmat.symm), ?_⟩)); (first | done | fail)), ?_, ⟨rfl, hlt, _, hnew, rfl⟩, (by simp only; omega)⟩
    · rw [flatS]; exact (by (repeat (first | exact Ent.nil _ | (apply Ent.sel; focus (first | ((repeat (first | with_reducible exact Sel.head | apply Sel.tail)); done) | ((repeat (first | exact Sel.head | apply Sel.tail)); done))) | apply Ent.selNil | apply Ent.selEmp)); (first | done | fail))
  have hil : i = l.length := by omega
  subst hil
  rw [List.take_length] at hrows
  refine XA.exit ?_
  refine DA.thn_exit ?_
  refine DA.thn_exit ?_
  refine DA.inb_same ?_
  refine DA.thn_normal ?_
  refine XA.seq ?_
  refine XA.region ?_
  refine XOA.rd rfl Rd.mv ?_
  refine XOA.rd rfl Rd.asg ?_
  refine XOA.nil ?_
  refine DA.thn_normal ?_
  refine XA.ret ?_
  exact bodyA.ret (ResA.one rfl rfl) (by (repeat (first | exact Ent.nil _ | (apply Ent.sel; focus (first | ((repeat (first | with_reducible exact Sel.head | apply Sel.tail)); done) | ((repeat (first | exact Sel.head | apply Sel.tail)); done))) | apply Ent.selNil | apply Ent.selEmp)); (first | done | fail)) ⟨p, c, rows, rfl, hrows, rfl, rfl⟩
theorem rfault_a (σ : PH) (sl : Value) (l : List PageS) (hl : PSl 9 rPage σ sl l) : CallsA Try.prog 31 #[sl] σ [] (RetA fun v σ' Γ' => v = i64 (checkS l) ∧ σ = σ' ∧ Γ' = []) := by
  obtain ⟨pl, cl, rfl, hle, hmx⟩ := hl.shape
  have hlen : l.length ≤ maxLen := by omega
  simp only [maxLen] at hlen
  refine enterA1 Try.func31 rfl rfl rfl ?_
  refine XA.seq ?_
  refine XA.region ?_
  refine XOA.rd rfl Rd.asg ?_
  refine XOA.nil ?_
  refine DA.thn_normal ?_
  refine XA.seq ?_
  refine XA.seq ?_
  refine XA.region ?_
  refine XOA.rd rfl Rd.asg ?_
  refine XOA.nil ?_
  refine DA.thn_normal ?_
  refine XA.block ?_
  refine XA.gen [(0, _), (2, _), (3, _)] ⟨(by with_reducible (conv => lhs; whnf)), (by with_reducible (conv => lhs; whnf)), (by with_reducible (conv => lhs; whnf)), trivial⟩ (fun δ => ?_)
  dsimp only [List.foldl]
  refine XA.loop [(2, 40)] (fun k : Nat => [(3, i64 k)]) (fun k σ' Γ' => σ = σ' ∧ k ≤ l.length ∧ checkGo (l.take k) (l.drop k) = checkS l ∧ Γ' = []) (fun k => l.length - k) 0 (by exact ⟨rfl, trivial⟩) (Δ0 := _) ?_ (⟨rfl, Nat.zero_le _, rfl, rfl⟩) ?_
  · exact (by (repeat (first | exact Ent.nil _ | (apply Ent.sel; focus (first | ((repeat (first | with_reducible exact Sel.head | apply Sel.tail)); done) | ((repeat (first | exact Sel.head | apply Sel.tail)); done))) | apply Ent.selNil | apply Ent.selEmp)); (first | done | fail))
  rintro k δ _ _ ⟨rfl, hk, hgo, rfl⟩
  dsimp only [ovr, List.foldl]
  refine XA.seq ?_
  refine XA.seq ?_
  refine XA.region ?_
  refine XOA.rd rfl Rd.mv ?_
  refine XOA.rd rfl Rd.mv ?_
  refine XOA.rd rfl (Rd.lenSlice (tyrow rfl) rfl rfl) ?_
  refine XOA.rd rfl (Rd.lss rfl rfl) ?_
  refine XOA.nil ?_
  refine DA.thn_normal ?_
  refine XA.condp rfl (fun hlt => ?_) (fun hlt => ?_)
  · have hlt : k < l.length := by omega
    obtain ⟨x, hx⟩ : ∃ x, l[k]? = some x := ⟨_, List.getElem?_eq_getElem hlt⟩
    obtain ⟨g, o, row, rfl, ⟨rfl, hx8⟩, hrl, hrow⟩ := hl.at hx
    have r0 : PRow σ g (o + k * 9) [i64 x.n] := hrow.sub (j := 0) rfl
    rw [dropS hx, checkGo] at hgo
    by_cases h0 : x.n < 0
    · rw [if_pos (by omega)] at hgo
      refine XA.skip ?_
      refine DA.thn_normal ?_
      refine XA.seq ?_
      refine XA.block ?_
      refine XA.seq ?_
      refine XA.seq ?_
      refine XA.region ?_
      refine XOA.rd rfl Rd.mv ?_
      refine XOA.rd rfl Rd.mv ?_
      refine XOA.rd rfl (Rd.ixS rfl rfl) ?_
      refine XOA.rd rfl (Rd.fA rfl) ?_
      refine XOA.rd rfl (Rd.ldC rfl (tyrow rfl) rfl) ?_
      refine XOA.rd rfl (Rd.lss rfl rfl) ?_
      refine XOA.rd rfl Rd.mv ?_
      first | ((first | refine XOA.wanted rfl rfl ?_ | refine XOA.wq rfl rfl ?_); refine XOA.rd rfl Rd.mv ?_) | refine XOA.unwanted rfl rfl rfl rfl ?_ | refine XOA.uq rfl rfl rfl ?_ | refine XOA.unwantedU rfl rfl rfl ?_
      first | ((first | refine XOA.wanted rfl rfl ?_ | refine XOA.wq rfl rfl ?_); refine XOA.rd rfl Rd.mv ?_) | refine XOA.unwanted rfl rfl rfl rfl ?_ | refine XOA.uq rfl rfl rfl ?_ | refine XOA.unwantedU rfl rfl rfl ?_
      first | ((first | refine XOA.wanted rfl rfl ?_ | refine XOA.wq rfl rfl ?_); refine XOA.rd rfl (Rd.ixS rfl rfl) ?_) | refine XOA.unwanted rfl rfl rfl rfl ?_ | refine XOA.uq rfl rfl rfl ?_ | refine XOA.unwantedU rfl rfl rfl ?_
      first | ((first | refine XOA.wanted rfl rfl ?_ | refine XOA.wq rfl rfl ?_); refine XOA.rd rfl (Rd.fA rfl) ?_) | refine XOA.unwanted rfl rfl rfl rfl ?_ | refine XOA.uq rfl rfl rfl ?_ | refine XOA.unwantedU rfl rfl rfl ?_
      first | ((first | refine XOA.wanted rfl rfl ?_ | refine XOA.wq rfl rfl ?_); refine XOA.rd rfl (Rd.ldC rfl (tyrow rfl) rfl) ?_) | refine XOA.unwanted rfl rfl rfl rfl ?_ | refine XOA.uq rfl rfl rfl ?_ | refine XOA.unwantedU rfl rfl rfl ?_
      first | ((first | refine XOA.wanted rfl rfl ?_ | refine XOA.wq rfl rfl ?_); refine XOA.rd rfl (Rd.geq rfl rfl) ?_) | refine XOA.unwanted rfl rfl rfl rfl ?_ | refine XOA.uq rfl rfl rfl ?_ | refine XOA.unwantedU rfl rfl rfl ?_
      refine XOA.rd rfl (by first | exact Rd.pT rfl | exact Rd.pF rfl | exact Rd.pP rfl) ?_
      refine XOA.nil ?_
      refine DA.thn_normal ?_
      refine XA.condT rfl rfl ?_
      refine XA.seq ?_
      refine XA.region ?_
      refine XOA.rd rfl Rd.asg ?_
      refine XOA.nil ?_
      refine DA.thn_normal ?_
      refine XA.ret ?_
      refine DA.thn_ret ?_
      refine DA.inb_ret ?_
      refine DA.thn_ret ?_
      refine DA.thn_ret ?_
      refine DA.inb_ret ?_
      refine DA.thn_ret ?_
      exact bodyA.ret (ResA.one rfl rfl) (Ent.nil _) ⟨by rw [← hgo], rfl, rfl⟩
    refine XA.skip ?_
    refine DA.thn_normal ?_
    refine XA.seq ?_
    refine XA.block ?_
    refine XA.seq ?_
    refine XA.seq ?_
    refine XA.region ?_
    refine XOA.rd rfl Rd.mv ?_
    refine XOA.rd rfl Rd.mv ?_
    refine XOA.rd rfl (Rd.ixS rfl rfl) ?_
    refine XOA.rd rfl (Rd.fA rfl) ?_
    refine XOA.rd rfl (Rd.ldC rfl (tyrow rfl) rfl) ?_
    refine XOA.rd rfl (Rd.lss rfl rfl) ?_
    refine XOA.rd rfl Rd.mv ?_
    first | ((first | refine XOA.wanted rfl rfl ?_ | refine XOA.wq rfl rfl ?_); refine XOA.rd rfl Rd.mv ?_) | refine XOA.unwanted rfl rfl rfl rfl ?_ | refine XOA.uq rfl rfl rfl ?_ | refine XOA.unwantedU rfl rfl rfl ?_
    first | ((first | refine XOA.wanted rfl rfl ?_ | refine XOA.wq rfl rfl ?_); refine XOA.rd rfl Rd.mv ?_) | refine XOA.unwanted rfl rfl rfl rfl ?_ | refine XOA.uq rfl rfl rfl ?_ | refine XOA.unwantedU rfl rfl rfl ?_
    first | ((first | refine XOA.wanted rfl rfl ?_ | refine XOA.wq rfl rfl ?_); refine XOA.rd rfl (Rd.ixS rfl rfl) ?_) | refine XOA.unwanted rfl rfl rfl rfl ?_ | refine XOA.uq rfl rfl rfl ?_ | refine XOA.unwantedU rfl rfl rfl ?_
    first | ((first | refine XOA.wanted rfl rfl ?_ | refine XOA.wq rfl rfl ?_); refine XOA.rd rfl (Rd.fA rfl) ?_) | refine XOA.unwanted rfl rfl rfl rfl ?_ | refine XOA.uq rfl rfl rfl ?_ | refine XOA.unwantedU rfl rfl rfl ?_
    first | ((first | refine XOA.wanted rfl rfl ?_ | refine XOA.wq rfl rfl ?_); refine XOA.rd rfl (Rd.ldC rfl (tyrow rfl) rfl) ?_) | refine XOA.unwanted rfl rfl rfl rfl ?_ | refine XOA.uq rfl rfl rfl ?_ | refine XOA.unwantedU rfl rfl rfl ?_
    first | ((first | refine XOA.wanted rfl rfl ?_ | refine XOA.wq rfl rfl ?_); refine XOA.rd rfl (Rd.geq rfl rfl) ?_) | refine XOA.unwanted rfl rfl rfl rfl ?_ | refine XOA.uq rfl rfl rfl ?_ | refine XOA.unwantedU rfl rfl rfl ?_
    refine XOA.rd rfl (by first | exact Rd.pT rfl | exact Rd.pF rfl | exact Rd.pP rfl) ?_
    refine XOA.nil ?_
    refine DA.thn_normal ?_
    refine XA.condp rfl (fun h14 => ?_) (fun h14 => ?_)
    · rw [if_pos (by omega)] at hgo
      refine XA.seq ?_
      refine XA.region ?_
      refine XOA.rd rfl Rd.asg ?_
      refine XOA.nil ?_
      refine DA.thn_normal ?_
      refine XA.ret ?_
      refine DA.thn_ret ?_
      refine DA.inb_ret ?_
      refine DA.thn_ret ?_
      refine DA.thn_ret ?_
      refine DA.inb_ret ?_
      refine DA.thn_ret ?_
      exact bodyA.ret (ResA.one rfl rfl) (Ent.nil _) ⟨by rw [← hgo], rfl, rfl⟩
    rw [if_neg (fun h => h ⟨by omega, by omega⟩)] at hgo
    refine XA.skip ?_
    refine DA.thn_normal ?_
    refine XA.seq ?_
    refine XA.region ?_
    refine XOA.rd rfl Rd.asg ?_
    refine XOA.nil ?_
    refine DA.thn_normal ?_
    refine XA.block ?_
    refine XA.loop [(2, 2), (4, 4), (25, 40)] (fun j : Nat => [(4, i64 j)]) (fun j σ' Γ' => σ = σ' ∧ j ≤ k ∧ (∀ (i : Nat) w, i < j → l[i]? = some w → w.n ≠ x.n) ∧ Γ' = []) (fun j => k - j) 0 (by exact ⟨rfl, trivial⟩) (Δ0 := _) ?_ (⟨rfl, Nat.zero_le _, fun i w h => absurd h (Nat.not_lt_zero _), rfl⟩) ?_
    · exact (by (repeat (first | exact Ent.nil _ | (apply Ent.sel; focus (first | ((repeat (first | with_reducible exact Sel.head | apply Sel.tail)); done) | ((repeat (first | exact Sel.head | apply Sel.tail)); done))) | apply Ent.selNil | apply Ent.selEmp)); (first | done | fail))
    rintro j δ2 _ _ ⟨rfl, hj, hall, rfl⟩
    dsimp only [ovr, List.foldl]
    refine XA.seq ?_
    refine XA.seq ?_
    refine XA.region ?_
    refine XOA.rd rfl Rd.mv ?_
    refine XOA.rd rfl Rd.mv ?_
    refine XOA.rd rfl (Rd.lss rfl rfl) ?_
    refine XOA.nil ?_
    refine DA.thn_normal ?_
    refine XA.condp rfl (fun hjk => ?_) (fun hjk => ?_)
    · have hjk : j < k := by omega
      obtain ⟨y, hy⟩ : ∃ y, l[j]? = some y := ⟨_, List.getElem?_eq_getElem (by omega)⟩
      obtain ⟨gg', o', row', hgo', ⟨rfl, -⟩, hrl', hrow'⟩ := hl.at hy
      simp only [Option.some.injEq, Addr.mk.injEq, and_true] at hgo'
      obtain ⟨rfl, rfl⟩ := hgo'
      have s0 : PRow σ g (o + j * 9) [i64 y.n] := hrow'.sub (j := 0) rfl
      refine XA.skip ?_
      refine DA.thn_normal ?_
      refine XA.seq ?_
      refine XA.block ?_
      refine XA.seq ?_
      refine XA.draw (by kernel_rfl) _ _ [] [(0, .pu), (1, .pu), (2, .pu), (3, .pu), (4, .rd), (5, .pu), (6, .pu), (7, .pu), (8, .pu), (9, .rd), (10, .pu)] (by kernel_rfl) (PH.sub.refl _) (Ent.nil _) ?_
      refine XPA.pu rfl rfl Gd.free Rd.mv ?_
      refine XPA.pu rfl rfl Gd.free Rd.mv ?_
      refine XPA.pu rfl rfl Gd.free (Rd.ixS rfl rfl) ?_
      refine XPA.pu rfl rfl Gd.free (Rd.fA rfl) ?_
      refine XPA.rd rfl rfl Gd.free (Rd.ldC rfl (tyrow rfl) rfl) ?_
      refine XPA.pu rfl rfl Gd.free Rd.mv ?_
      refine XPA.pu rfl rfl Gd.free Rd.mv ?_
      refine XPA.pu rfl rfl Gd.free (Rd.ixS rfl rfl) ?_
      refine XPA.pu rfl rfl Gd.free (Rd.fA rfl) ?_
      refine XPA.rd rfl rfl Gd.free (Rd.ldC rfl (tyrow rfl) rfl) ?_
      refine XPA.pu rfl rfl Gd.free (Rd.eql rfl rfl) ?_
      refine XPA.nil ?_
      refine DA.thn_normal ?_
      refine XA.condp rfl (fun he => ?_) (fun he => ?_)
      · rw [if_pos ⟨y, List.mem_iff_getElem?.2 ⟨j, by rw [List.getElem?_take, if_pos hjk]; exact hy⟩, he⟩] at hgo
        refine XA.seq ?_
        refine XA.region ?_
        refine XOA.rd rfl Rd.asg ?_
        refine XOA.nil ?_
        refine DA.thn_normal ?_
        refine XA.ret ?_
        refine DA.inb_ret ?_
        refine DA.thn_ret ?_
        refine DA.thn_ret ?_
        refine DA.inb_ret ?_
        refine DA.inb_ret ?_
        refine DA.thn_ret ?_
        refine DA.thn_ret ?_
        refine DA.inb_ret ?_
        refine DA.thn_ret ?_
        exact bodyA.ret (ResA.one rfl rfl) (Ent.nil _) ⟨by rw [← hgo], rfl, rfl⟩
      have hnew : ∀ (i : Nat) w, i < j + 1 → l[i]? = some w → w.n ≠ x.n := fun i w hi hw => by
        rcases Nat.lt_or_ge i j with h | h
        · exact hall i w h hw
        · have : i = j := by omega
          subst this
          rw [hy] at hw; simp only [Option.some.injEq] at hw; subst hw; exact he
      refine XA.skip ?_
      refine DA.inb_normal ?_
      refine DA.thn_normal ?_
      refine XA.region ?_
      refine XOA.rd rfl Rd.mv ?_
      refine XOA.rd rfl (by first | exact Rd.adi rfl rfl | exact Rd.add rfl rfl) ?_
      refine XOA.rd rfl Rd.asg ?_
      refine XOA.nil ?_
      refine DA.thn_normal ?_
      refine ⟨(Keep.upd (Keep.upd (Keep.upd (Keep.upd (Keep.upd (Keep.upd (Keep.upd (Keep.upd (Keep.upd (Keep.upd (Keep.upd (Keep.upd (Keep.upd (Keep.upd (Keep.upd (Keep.upd (Keep.upd (Keep.upd (Keep.hav (Keep.hav (Keep.hav (Keep.refl _ _) rfl) rfl) rfl) rfl) rfl) rfl) rfl) rfl) rfl) rfl) rfl) rfl) rfl) rfl) rfl) rfl) rfl) rfl) rfl) rfl) rfl), j + 1, _, (by (repeat (first | exact trivial | refine ⟨rfl, ?_⟩ | refine ⟨Eq.trans rfl (congrArg Value.bool hmat.symm), ?_⟩)); (first | done | fail)), ?_, ⟨rfl, hjk, hnew, rfl⟩, (by omega)⟩
      · exact (by (repeat (first | exact Ent.nil _ | (apply Ent.sel; focus (first | ((repeat (first | with_reducible exact Sel.head | apply Sel.tail)); done) | ((repeat (first | exact Sel.head | apply Sel.tail)); done))) | apply Ent.selNil | apply Ent.selEmp)); (first | done | fail))
    have hjk2 : j = k := by omega
    subst hjk2
    rw [if_neg (fun ⟨w, hw, e⟩ => by
      obtain ⟨i, hi⟩ := List.mem_iff_getElem?.1 hw
      rw [List.getElem?_take] at hi
      split at hi
      · exact hall i w (by assumption) hi e
      · cases hi)] at hgo
    refine XA.exit ?_
    refine DA.thn_exit ?_
    refine DA.thn_exit ?_
    refine DA.inb_same ?_
    refine DA.inb_normal ?_
    refine DA.thn_normal ?_
    refine XA.region ?_
    refine XOA.rd rfl Rd.mv ?_
    refine XOA.rd rfl (by first | exact Rd.adi rfl rfl | exact Rd.add rfl rfl) ?_
    refine XOA.rd rfl Rd.asg ?_
    refine XOA.nil ?_
    refine DA.thn_normal ?_
    refine ⟨(Keep.upd (Keep.upd (Keep.upd (Keep.upd (Keep.upd (Keep.upd (Keep.upd (Keep.hav (Keep.hav (Keep.hav (Keep.upd (Keep.upd (Keep.upd (Keep.upd (Keep.upd (Keep.upd (Keep.upd (Keep.upd (Keep.upd (Keep.upd (Keep.upd (Keep.upd (Keep.upd (Keep.upd (Keep.upd (Keep.upd (Keep.upd (Keep.upd (Keep.upd (Keep.upd (Keep.hav (Keep.refl _ _) rfl) rfl) rfl) rfl) rfl) rfl) rfl) rfl) rfl) rfl) rfl) rfl) rfl) rfl) rfl) rfl) rfl) rfl) rfl) rfl) rfl) rfl) rfl) rfl) rfl) rfl) rfl) rfl) rfl) rfl) rfl), j + 1, _, (by (repeat (first | exact trivial | refine ⟨rfl, ?_⟩ | refine ⟨Eq.trans rfl (congrArg Value.bool hmat.symm), ?_⟩)); (first | done | fail)), ?_, ⟨rfl, hlt, by rw [takeS hx]; exact hgo, rfl⟩, (by omega)⟩
    · exact (by (repeat (first | exact Ent.nil _ | (apply Ent.sel; focus (first | ((repeat (first | with_reducible exact Sel.head | apply Sel.tail)); done) | ((repeat (first | exact Sel.head | apply Sel.tail)); done))) | apply Ent.selNil | apply Ent.selEmp)); (first | done | fail))
  have hkn : k = l.length := by omega
  subst hkn
  rw [List.drop_length, checkGo] at hgo
  refine XA.exit ?_
  refine DA.thn_exit ?_
  refine DA.thn_exit ?_
  refine DA.inb_same ?_
  refine DA.thn_normal ?_
  refine XA.seq ?_
  refine XA.region ?_
  refine XOA.rd rfl Rd.asg ?_
  refine XOA.nil ?_
  refine DA.thn_normal ?_
  refine XA.ret ?_
  exact bodyA.ret (ResA.one rfl rfl) (Ent.nil _) ⟨by rw [← hgo], rfl, rfl⟩
end Go.Proofs.Ytplobdiknobhoaa
