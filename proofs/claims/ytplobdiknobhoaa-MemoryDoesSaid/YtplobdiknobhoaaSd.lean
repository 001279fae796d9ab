/- The law StoreDoes: what its function does. -/
import Derived.Test.YtplobdiknobhoaaVu
namespace Go.Proofs.Ytplobdiknobhoaa
open Go X
set_option maxHeartbeats 2000000
theorem X.CallsA.frz {P : Program} {f : FuncId} {vs : Array Value} {σ : PH} {Γ Γ' : List HP} {R : HP} {α : Sort _} {φ : α → PH → Prop} {RR : Ending → PH → List HP → Prop} (he : Enters P f) (s : Sel Γ R Γ') (ho : ∀ m, R m → ∃ x, φ x m) (mono : ∀ x m m', φ x m → m.sub m' → φ x m') (k : ∀ σ' x, φ x σ' → σ.sub σ' → CallsA P f vs σ' Γ' RR) : CallsA P f vs σ Γ RR :=
  ⟨he, fun fr h hh => by obtain ⟨σ', x, a, b, c⟩ := holds_freeze' hh s ho mono; exact (k σ' x a b).2 fr h c⟩
theorem newTo_congr {f g : Nat → List Int} (h : ∀ p, p < 14 → f p = g p) (l : List PageS) : ∀ k p, p < 14 → newTo f l k p = newTo g l k p
  | 0, p, hp => h p hp
  | k + 1, p, hp => by
    have ih := newTo_congr h l k p hp
    show (if _ then _ else _) = (if _ then _ else _)
    rw [ih]
theorem newPg_get {P : List (List Int)} {l : List PageS} (h : pgsOk P) (hw : ∀ x ∈ l, x.w.length = 8) : ∀ k, k ≤ l.length → ∀ p, p < 14 → (newPg P l k).getD p DiskS.zeros = newTo (fun p => P.getD p DiskS.zeros) l k p
  | 0, _, p, _ => rfl
  | k + 1, hk, p, hp => by
    have ih := newPg_get h hw k (by omega) p hp
    have hl := (newPg_ok h hw k (by omega)).1
    have e : newTo (fun p => P.getD p DiskS.zeros) l (k + 1) p = if p = (l.getD k ⟨0, []⟩).n.toNat then (l.getD k ⟨0, []⟩).w else newTo (fun p => P.getD p DiskS.zeros) l k p := rfl
    rw [e, newPg, List.getD_eq_getElem?_getD, List.getElem?_set]
    by_cases q : (l.getD k ⟨0, []⟩).n.toNat = p
    · rw [if_pos q, if_pos (by omega), if_pos q.symm]; rfl
    · rw [if_neg q, if_neg (fun z => q z.symm), ← ih, List.getD_eq_getElem?_getD]
section
variable {d : DiskS} {s : StS} {v : VS} {l : List PageS}
theorem Rel.pages (h : Rel d s v) (hw : ∀ x ∈ l, x.w.length = 8) {p : Nat} (hp : p < 14) : (newPg v.pages l l.length).getD p DiskS.zeros = newTo (fun p => pageW d s p) l l.length p := by
  rw [newPg_get h.ok.1 hw l.length (Nat.le_refl _) p hp, newTo_congr h.page l l.length p hp]
theorem Rel.done (h : Rel d s v) (hw : ∀ x ∈ l, x.w.length = 8) (hl : l.length ≤ 14) (hn : ∀ x ∈ l, 0 ≤ x.n ∧ x.n < 14) : Rel (comD d s l (l.length + 5)) (nextS s l) (vdone v l) := by
  obtain ⟨h1, h2⟩ := commit_done h.good hw hl hn
  exact ⟨h1, ⟨newPg_ok h.ok.1 hw _ (Nat.le_refl _), h.ok.2⟩, by show v.gen + 1 = s.gen + 1; rw [h.gen], h.waits, fun p hp => by rw [h2 p hp]; exact h.pages hw hp⟩
theorem Rel.part (h : Rel d s v) (hw : ∀ x ∈ l, x.w.length = 8) (hl : l.length ≤ 14) (hn : ∀ x ∈ l, 0 ≤ x.n ∧ x.n < 14) {j : Nat} (hj : j ≤ l.length + 4) (is : Nat → Bool) :
    ∃ s', s'.gen ≤ s.gen + 1 ∧ Rel ((comD d s l j).settle is) s' (vcrash (vpart v l j) (is 0)) := by
  have hN := newPg_ok h.ok.1 hw _ (Nat.le_refl l.length)
  by_cases h4 : j = l.length + 4
  · subst h4
    have hr := commit_root h.good hw hl hn is
    have hvw : (vpart v l ((l.length + 4 : Nat) : Int)).waits = true := decide_eq_true (by omega)
    by_cases h0 : is 0 = true
    · rw [if_pos h0] at hr
      obtain ⟨h1, h2⟩ := hr
      refine ⟨nextS s l, Int.le_refl _, ?_⟩
      rw [vcrash, if_pos ⟨hvw, h0⟩]
      exact ⟨h1, ⟨hN, hN⟩, by show v.gen + 1 = s.gen + 1; rw [h.gen], rfl, fun p hp => by rw [h2 p hp]; exact h.pages hw hp⟩
    · rw [if_neg h0] at hr
      obtain ⟨h1, h2⟩ := hr
      refine ⟨s, by omega, ?_⟩
      rw [vcrash, if_neg (fun q => h0 q.2)]
      exact ⟨h1, ⟨h.ok.1, hN⟩, h.gen, rfl, fun p hp => by rw [h2 p hp]; exact h.page p hp⟩
  · obtain ⟨h1, h2⟩ := commit_part h.good hw hl (j := j) (by omega) is
    have hvw : (vpart v l (j : Int)).waits = false := decide_eq_false (by omega)
    refine ⟨s, by omega, ?_⟩
    rw [vcrash, if_neg (fun q => by rw [hvw] at q; exact absurd q.1 (by decide))]
    exact ⟨h1, ⟨h.ok.1, hN⟩, h.gen, rfl, fun p hp => by rw [h2 p hp]; exact h.page p hp⟩
theorem Rel.crash (h : Rel d s v) (is : Nat → Bool) : Rel (d.settle is) s (vcrash v (is 0)) := by
  obtain ⟨h1, h2⟩ := h.good.settle is
  rw [vcrash, if_neg (fun q => by rw [h.waits] at q; exact absurd q.1 (by decide))]
  exact ⟨h1, h.ok, h.gen, rfl, fun p hp => by rw [h2 p hp]; exact h.page p hp⟩
end
theorem rfault_l (σ : PH) (p : Option Addr) (c : Nat) (rows : List (List Value)) (l : List PageS) (hr : Rows_ 9 rPage σ rows l) :
    CallsA Try.prog 31 #[.slice p l.length c] σ [lst 85 9 (.slice p l.length c) l.length rows.flatten] (RetA fun v σ' Γ' => v = i64 (checkS l) ∧ σ.sub σ' ∧ Γ' = []) := by
  refine X.CallsA.frz (enters Try.func31 rfl rfl) .head lst_frz lst_frz_mono ?_
  rintro σ' ⟨⟩ hf hs
  exact CallsA.ret (rfault_a σ' _ l ((hr.mono (σ' := σ') (fun _ _ h => h)).psl rfl hf)) (fun v σ2 Γ2 ⟨a, b, c⟩ => ⟨a, b ▸ hs, c⟩)
theorem vcommit_noL (σ : PH) (b : Nat) (p : Option Addr) (c : Nat) (rows : List (List Value)) (l : List PageS) (D : Int) (hr : Rows_ 9 rPage σ rows l) (hc : checkS l ≠ 0) :
    CallsA Try.prog 34 #[ptr b, .slice p l.length c, i64 D] σ [lst 85 9 (.slice p l.length c) l.length rows.flatten] (RetA fun v σ' Γ' => v = .tuple #[.bool false, i64 (checkS l)] ∧ σ.sub σ' ∧ Γ' = []) := by
  refine X.CallsA.frz (enters Try.func34 rfl rfl) .head lst_frz lst_frz_mono ?_
  rintro σ' ⟨⟩ hf hs
  exact CallsA.ret (vcommit_no σ' b _ l D ((hr.mono (σ' := σ') (fun _ _ h => h)).psl rfl hf) hc) (fun v σ2 Γ2 ⟨a, b, c⟩ => ⟨a, b ▸ hs, c⟩)
theorem vcommit_yesL (σ : PH) (b : Nat) (v : VS) (p : Option Addr) (c : Nat) (rows : List (List Value)) (l : List PageS) (D : Int) (hr : Rows_ 9 rPage σ rows l) (hc : checkS l = 0) (h30 : l.length ≤ 30) (hg0 : 0 ≤ v.gen) (hg1 : v.gen < 4611686018427387904) :
    CallsA Try.prog 34 #[ptr b, .slice p l.length c, i64 D] σ [lst 85 9 (.slice p l.length c) l.length rows.flatten, Vault b v] (RetA fun r σ' Γ' => r = .tuple #[.bool (decide (D < 0 ∨ (l.length : Int) + 4 < D)), i64 0] ∧ σ.sub σ' ∧ Γ' = [Vault b (if D < 0 ∨ (l.length : Int) + 4 < D then vdone v l else vpart v l D)]) := by
  refine X.CallsA.frz (enters Try.func34 rfl rfl) .head lst_frz lst_frz_mono ?_
  rintro σ' ⟨⟩ hf hs
  exact CallsA.ret (vcommit_yes σ' b v _ l D ((hr.mono (σ' := σ') (fun _ _ h => h)).psl rfl hf) hc h30 hg0 hg1) (fun v σ2 Γ2 ⟨a, b, c⟩ => ⟨a, b ▸ hs, c⟩)
def v0 : VS := ⟨0, List.replicate 14 DiskS.zeros, false, List.replicate 14 DiskS.zeros⟩
theorem v0_ok : v0.ok := by
  have : pgsOk (List.replicate 14 DiskS.zeros) := ⟨by simp, fun w hw => by rw [List.eq_of_mem_replicate hw]; rfl⟩
  exact ⟨this, this⟩
theorem rel0 : Rel DiskS.new s0 v0 := by
  refine ⟨Good.new, v0_ok, rfl, rfl, fun p hp => ?_⟩
  have h1 : pageW DiskS.new s0 p = DiskS.zeros := by
    rw [(show Good DiskS.new s0 from Good.new).page hp, if_pos]
    simp only [s0, zero14, List.getD_eq_getElem?_getD, List.getElem?_replicate]; split <;> rfl
  rw [h1]
  simp only [v0, List.getD_eq_getElem?_getD, List.getElem?_replicate]; split <;> rfl
theorem sdoes_law (σ : PH) (sl : Value) (l : List Stp) (hl : PSl 4 rStp σ sl l) : CallsA Try.prog 6 #[sl] σ [] (RetA fun r σ' _ => r = .bool true ∧ σ.sub σ') := by
  obtain ⟨pv, cv, rfl, hvl, hvm⟩ := hl.shape
  refine enterA1 Try.func6 rfl rfl rfl ?_
  refine XA.seq ?_
  refine XA.region ?_
  refine XOA.rd rfl Rd.asg ?_
  refine XOA.nil ?_
  refine DA.thn_normal ?_
  refine XA.seq ?_
  refine XA.seq ?_
  refine XA.region ?_
  refine XOA.wr0 rfl (WrA.cE (sbegun_a σ) rfl) ?_
  rintro _ σ1 _ ⟨_, ⟨rfl, hs1, rfl⟩, rfl⟩
  refine XOA.cl ?_
  have hl1 := hl.mono hs1 (fun cs x ⟨s, e, a, b, c⟩ => ⟨s, e, a, b.mono hs1 (fun _ _ h => h), c⟩)
  refine XOA.rd rfl (by first | exact Rd.notp rfl | exact Rd.not rfl) ?_
  refine XOA.nil ?_
  refine DA.thn_normal ?_
  refine XA.condF rfl rfl ?_
  refine XA.skip ?_
  refine DA.thn_normal ?_
  refine XA.seq ?_
  refine XA.seq ?_
  refine XA.region ?_
  refine XOA.rd rfl Rd.mv ?_
  refine XOA.wr0 rfl (WrA.cE (great_a σ1 _ l hl1) rfl) ?_
  rintro _ _ _ ⟨_, ⟨b, rfl, hfew, rfl, rfl⟩, rfl⟩
  refine XOA.cl ?_
  cases b with
  | true =>
    refine XOA.nil ?_
    refine DA.thn_normal ?_
    refine XA.condT rfl rfl ?_
    refine XA.seq ?_
    refine XA.region ?_
    refine XOA.rd rfl Rd.asg ?_
    refine XOA.nil ?_
    refine DA.thn_normal ?_
    refine XA.ret ?_
    refine DA.thn_ret ?_
    exact bodyA.ret (ResA.one rfl rfl) (Ent.nil _) ⟨rfl, hs1⟩
  | false =>
    obtain ⟨h60, h30⟩ := hfew rfl
    refine XOA.nil ?_
    refine DA.thn_normal ?_
    refine XA.condF rfl rfl ?_
    refine XA.skip ?_
    refine DA.thn_normal ?_
    refine XA.seq ?_
    refine XA.region ?_
    refine XOA.wr0 rfl (WrA.cE (new_a σ1) rfl) ?_
    rintro _ _ _ ⟨_, ⟨db, rfl, rfl, rfl⟩, rfl⟩
    refine XOA.cl ?_
    refine XOA.rd rfl (Rd.bl (fun _ _ => tyrow) rfl rfl rfl) ?_
    refine XOA.wr0 rfl WrA.bx ?_
    rintro _ _ _ ⟨g18, rfl, rfl, rfl⟩
    refine XOA.rd rfl Rd.asg ?_
    refine XOA.rd rfl Rd.asg ?_
    refine XOA.nil ?_
    refine DA.thn_normal ?_
    refine XA.seq ?_
    refine XA.region ?_
    refine XOA.rd rfl Rd.mv ?_
    refine XOA.wr0 rfl (WrA.cE (open_a σ1 db DiskS.new Good.new.dok Good.new.wlen') rfl) ?_
    rintro _ _ _ ⟨_, ⟨b0, rfl, rfl, rfl⟩, rfl⟩
    refine XOA.cl ?_
    rw [show openS DiskS.new = s0 from Good.new.open]
    refine XOA.rd rfl Rd.asg ?_
    refine XOA.nil ?_
    refine DA.thn_normal ?_
    refine XA.seq ?_
    refine XA.seq ?_
    refine XA.region ?_
    refine XOA.rd rfl Rd.asg ?_
    refine XOA.nil ?_
    refine DA.thn_normal ?_
    refine XA.block ?_
    refine XA.gen [(0, _), (2, _), (3, _), (4, _), (5, _), (6, _)] ⟨(by with_reducible (conv => lhs; whnf)), (by with_reducible (conv => lhs; whnf)), (by with_reducible (conv => lhs; whnf)), (by with_reducible (conv => lhs; whnf)), (by with_reducible (conv => lhs; whnf)), (by with_reducible (conv => lhs; whnf)), trivial⟩ (fun δ => ?_)
    dsimp only [List.foldl]
    refine XA.loop [(2, 2), (5, 11), (21, 105)] (fun q : Nat × Nat => [(6, i64 q.1), (5, ptr q.2)]) (fun q σ' Γ' => σ1.sub σ' ∧ q.1 ≤ l.length ∧ ∃ (d : DiskS) (s : StS) (v : VS), Rel d s v ∧ s.gen ≤ q.1 ∧ Γ' = [Store q.2 db s, Disk db d, Vault g18 v]) (fun q => l.length - q.1) (0, b0) (by exact ⟨rfl, rfl, trivial⟩) (Δ0 := _) ?_ (⟨.refl _, Nat.zero_le _, DiskS.new, s0, v0, rel0, Int.le_refl _, rfl⟩) ?_
    · exact Ent.sel (by first | ((repeat (first | with_reducible exact Sel.head | apply Sel.tail)); done) | ((repeat (first | exact Sel.head | apply Sel.tail)); done)) (Ent.sel (by first | ((repeat (first | with_reducible exact Sel.head | apply Sel.tail)); done) | ((repeat (first | exact Sel.head | apply Sel.tail)); done)) (Ent.fold1 (Θ := [blk g18 _ 50]) (by (repeat (first | exact Ent.nil _ | (apply Ent.sel; focus (first | ((repeat (first | with_reducible exact Sel.head | apply Sel.tail)); done) | ((repeat (first | exact Sel.head | apply Sel.tail)); done))) | apply Ent.selNil | apply Ent.selEmp)); (first | done | fail)) (Vault.mk v0_ok (by kernel_rfl))))
    rintro ⟨k, b⟩ δ σ2 _ ⟨hs2, hk, d, s, v, hrel, hgk, rfl⟩
    dsimp only [ovr, List.foldl]
    have hk : k ≤ l.length := hk
    have hgk : s.gen ≤ (k : Int) := hgk
    have hl2 := hl1.mono hs2 (fun cs x ⟨s, e, a, b, c⟩ => ⟨s, e, a, b.mono hs2 (fun _ _ h => h), c⟩)
    have hg0 := hrel.good.gen
    have hvg := hrel.gen
    refine XA.seq ?_
    refine XA.seq ?_
    refine XA.region ?_
    refine XOA.rd rfl Rd.mv ?_
    refine XOA.rd rfl Rd.mv ?_
    refine XOA.rd rfl (Rd.lenSlice (tyrow rfl) rfl rfl) ?_
    refine XOA.rd rfl (Rd.lss rfl rfl) ?_
    refine XOA.nil ?_
    refine DA.thn_normal ?_
    refine XA.condp rfl (fun hlt => ?_) (fun hlt => ?_)
    · have hlt : k < l.length := by omega
      obtain ⟨x, hx⟩ : ∃ x, l[k]? = some x := ⟨_, List.getElem?_eq_getElem hlt⟩
      have hx30 := h30 x (List.mem_of_getElem? hx)
      obtain ⟨g, o, row, rfl, ⟨sp, rfl, hxD, hxp, hxm0, hxm1⟩, hrl, hrow⟩ := hl2.at hx
      obtain ⟨xdo, xD, xp, xm⟩ := x
      simp only at hxD hxp hxm0 hxm1 hx30 hrow hrl
      have hone : ones [i64 xdo, i64 xD, sp, .int .u64 xm] := by
        obtain ⟨p1, c1, rfl, -, -⟩ := hxp.shape
        exact ones_lit rfl
      have hw8 := psl_w8 hxp
      refine XA.skip ?_
      refine DA.thn_normal ?_
      refine XA.seq ?_
      refine XA.block ?_
      refine XA.seq ?_
      refine XA.region ?_
      refine XOA.rd rfl Rd.mv ?_
      refine XOA.rd rfl Rd.mv ?_
      refine XOA.rd rfl (Rd.ixS rfl rfl) ?_
      refine XOA.rd rfl (Rd.ldA rfl) ?_
      refine XOA.wr0 rfl (WrA.alloc (tyrow rfl)) ?_
      rintro _ _ _ ⟨g7, rfl, rfl, rfl⟩
      refine XOA.wr0 rfl (WrA.st (tyrow rfl) rfl) ?_
      rintro _ _ _ ⟨rfl, rfl, rfl⟩
      refine XOA.nil ?_
      refine DA.thn_normal ?_
      refine XA.seq ?_
      refine XA.seq ?_
      refine XA.region ?_
      refine XOA.rd rfl (Rd.fA rfl) ?_
      refine XOA.rd rfl (Rd.ldC rfl (tyrow rfl) rfl) ?_
      refine XOA.nil ?_
      refine DA.thn_normal ?_
      refine XA.join [(2, 2), (5, 5), (8, 11), (33, 101)] (fun y : Nat => [(5, ptr y)]) (fun y σ' Γ' => σ2.sub σ' ∧ ∃ (d : DiskS) (s : StS) (v : VS), Rel d s v ∧ s.gen ≤ k + 1 ∧ Γ' = [Store y db s, Disk db d, Vault g18 v]) ?_ ?_
      · 
        refine XA.block ?_
        refine XA.seq ?_
        refine XA.region ?_
        refine XOA.rd rfl (Rd.eql rfl rfl) ?_
        refine XOA.rd rfl Rd.asg ?_
        refine XOA.nil ?_
        refine DA.thn_normal ?_
        refine XA.condp rfl (fun k0 => ?_) (fun k0 => ?_)
        · refine XA.seq ?_
          refine XA.seq ?_
          have kC : ¬ (checkS xp ≠ checkS xp) := fun h => h rfl
          refine XA.draw (by kernel_rfl) _ _ [5, 6] [(0, .pu), (1, .rd), (3, .pu), (4, .rd), (2, .wr), (5, .wr), (6, .wr), (7, .pu)] (by kernel_rfl) (PH.sub.refl _) (Ent.sel (R := blk g7 _ _) (by ((repeat (first | with_reducible exact Sel.head | apply Sel.tail)); (first | done | fail))) (Ent.nil _)) ?_
          refine XPA.pu rfl rfl Gd.free (Rd.fA rfl) ?_
          refine XPA.rd rfl rfl Gd.free (Rd.ldC rfl (tyrow rfl) rfl) ?_
          refine XPA.pu rfl rfl Gd.free (Rd.fA rfl) ?_
          refine XPA.rd rfl rfl Gd.free (Rd.ldC rfl (tyrow rfl) rfl) ?_
          refine XPA.wr0 rfl rfl Gd.free (WrA.cE (scheck_a σ2 sp xp hxp) rfl) ?_
          rintro _ _ _ ⟨_, ⟨rfl, rfl, rfl⟩, rfl⟩
          refine stays (XPA.cl ?_)
          refine XPA.wrZ0 rfl rfl Gd.free (by kernel_rfl) (WrA.cE (pagesOf_a σ2 sp xp hxp hx30) rfl) ?_
          rintro _ _ _ ⟨_, ⟨p1, c1, rows1, rfl, hr1, rfl, rfl⟩, rfl⟩
          refine XPA.cl ?_
          refine XPA.wrZ0 rfl rfl Gd.free (by kernel_rfl) (WrA.cE (rfault_l σ2 p1 c1 rows1 xp hr1) rfl) ?_
          rintro _ σ3 _ ⟨_, ⟨rfl, hs3, rfl⟩, rfl⟩
          refine XPA.cl ?_
          refine XPA.pu rfl rfl Gd.free (Rd.neq rfl rfl) ?_
          refine XPA.nil ?_
          refine DA.thn_normal ?_
          refine XA.condF rfl (by first | rfl | exact (by first | exact (rfl : decide _ = true) | exact (rfl : decide _ = false) | (refine decide_eq_true ?_; assumption) | (refine decide_eq_false ?_; assumption) | (refine decide_eq_true ?_; omega) | (refine decide_eq_false ?_; omega))) ?_
          refine XA.skip ?_
          refine DA.thn_normal ?_
          refine XA.seq ?_
          refine XA.region ?_
          refine XOA.rd rfl Rd.mv ?_
          refine XOA.rd rfl (Rd.fA rfl) ?_
          refine XOA.rd rfl (Rd.ldC rfl (tyrow rfl) rfl) ?_
          refine XOA.rd rfl (Rd.fA rfl) ?_
          refine XOA.rd rfl (Rd.ldC rfl (tyrow rfl) rfl) ?_
          have hxp3 := hxp.mono hs3 (fun _ _ h => h)
          by_cases hc : checkS xp = 0
          · obtain ⟨hn, -, hl14⟩ := check_zero hc
            refine XOA.wr0 rfl (WrA.cE (commit_yes σ3 b db s d sp xp xD hxp3 hc hrel.good.sok hg0 (by omega) hxD hrel.good.wlen) rfl) ?_
            rintro _ σ4 _ ⟨_, ⟨j, hj1, hj2, hj3, rfl, hs4, rfl⟩, rfl⟩
            refine XOA.cl ?_
            have hxp4 := hxp3.mono hs4 (fun _ _ h => h)
            refine XOA.rd rfl Rd.mv ?_
            refine XOA.rd rfl (Rd.extract rfl rfl) ?_
            refine XOA.rd rfl (Rd.extract rfl rfl) ?_
            refine XOA.rd rfl Rd.asg ?_
            refine XOA.rd rfl Rd.asg ?_
            refine XOA.nil ?_
            refine DA.thn_normal ?_
            refine XA.seq ?_
            refine XA.draw (by kernel_rfl) _ _ [6] [(0, .pu), (1, .pu), (2, .rd), (4, .pu), (5, .rd), (3, .wr), (6, .wr), (7, .pu), (8, .pu), (9, .pu), (10, .pu), (11, .pu)] (by kernel_rfl) (PH.sub.refl _) (Ent.sel (R := blk g7 _ _) (by ((repeat (first | with_reducible exact Sel.head | apply Sel.tail)); (first | done | fail))) (Ent.nil _)) ?_
            refine XPA.pu rfl rfl Gd.free Rd.mv ?_
            refine XPA.pu rfl rfl Gd.free (Rd.fA rfl) ?_
            refine XPA.rd rfl rfl Gd.free (Rd.ldC rfl (tyrow rfl) rfl) ?_
            refine XPA.pu rfl rfl Gd.free (Rd.fA rfl) ?_
            refine XPA.rd rfl rfl Gd.free (Rd.ldC rfl (tyrow rfl) rfl) ?_
            refine XPA.wr0 rfl rfl Gd.free (WrA.cE (pagesOf_a σ4 sp xp hxp4 hx30) rfl) ?_
            rintro _ _ _ ⟨_, ⟨p2, c2, rows2, rfl, hr2, rfl, rfl⟩, rfl⟩
            refine stays (XPA.cl ?_)
            refine XPA.wrZ0 rfl rfl Gd.free (by kernel_rfl) (WrA.cE (vcommit_yesL σ4 g18 v p2 c2 rows2 xp xD hr2 hc hx30 (by rw [hvg]; exact hg0) (by rw [hvg]; omega)) rfl) ?_
            rintro _ σ5 _ ⟨_, ⟨rfl, hs5, rfl⟩, rfl⟩
            refine XPA.cl ?_
            have hs25 := (hs3.trans hs4).trans hs5
            by_cases hj : j = xp.length + 5
            · subst hj
              have hDD : xD < 0 ∨ (xp.length : Int) + 4 < xD := by
                rcases Int.lt_or_le xD 0 with h | h
                · exact .inl h
                · right
                  have := hj3 rfl xD.toNat
                  omega
              rw [decide_eq_true hDD, decide_eq_true rfl, if_pos rfl, if_pos hDD]
              refine XPA.pu rfl rfl Gd.free Rd.mv ?_
              refine XPA.pu rfl rfl Gd.free (Rd.extract rfl rfl) ?_
              refine XPA.pu rfl rfl Gd.free (Rd.extract rfl rfl) ?_
              refine XPA.pu rfl rfl Gd.free Rd.asg ?_
              refine XPA.pu rfl rfl Gd.free Rd.asg ?_
              refine XPA.nil ?_
              refine DA.thn_normal ?_
              refine XA.seq ?_
              refine XA.seq ?_
              refine XA.region ?_
              refine XOA.rd rfl Rd.mv ?_
              refine XOA.rd rfl Rd.mv ?_
              refine XOA.rd rfl (Rd.neqb (tyrow rfl) rfl rfl rfl) ?_
              refine XOA.rd rfl Rd.mv ?_
              first | ((first | refine XOA.wanted rfl rfl ?_ | refine XOA.wq rfl rfl ?_); refine XOA.rd rfl Rd.mv ?_) | refine XOA.unwanted rfl rfl rfl rfl ?_ | refine XOA.uq rfl rfl rfl ?_ | refine XOA.unwantedU rfl rfl rfl ?_
              first | ((first | refine XOA.wanted rfl rfl ?_ | refine XOA.wq rfl rfl ?_); refine XOA.rd rfl Rd.mv ?_) | refine XOA.unwanted rfl rfl rfl rfl ?_ | refine XOA.uq rfl rfl rfl ?_ | refine XOA.unwantedU rfl rfl rfl ?_
              first | ((first | refine XOA.wanted rfl rfl ?_ | refine XOA.wq rfl rfl ?_); refine XOA.rd rfl (Rd.neq rfl rfl) ?_) | refine XOA.unwanted rfl rfl rfl rfl ?_ | refine XOA.uq rfl rfl rfl ?_ | refine XOA.unwantedU rfl rfl rfl ?_
              refine XOA.rd rfl (by first | exact Rd.pT rfl | exact Rd.pF rfl | exact Rd.pP rfl) ?_
              refine XOA.nil ?_
              refine DA.thn_normal ?_
              refine XA.condF rfl rfl ?_
              refine XA.skip ?_
              refine DA.thn_normal ?_
              refine XA.seq ?_
              refine XA.region ?_
              refine XOA.rd rfl Rd.mv ?_
              refine XOA.rd rfl (Rd.eql rfl rfl) ?_
              refine XOA.rd rfl Rd.mv ?_
              first | ((first | refine XOA.wanted rfl rfl ?_ | refine XOA.wq rfl rfl ?_); refine XOA.rd rfl Rd.mv ?_) | refine XOA.unwanted rfl rfl rfl rfl ?_ | refine XOA.uq rfl rfl rfl ?_ | refine XOA.unwantedU rfl rfl rfl ?_
              first | ((first | refine XOA.wanted rfl rfl ?_ | refine XOA.wq rfl rfl ?_); refine XOA.rd rfl (by first | exact Rd.notp rfl | exact Rd.not rfl) ?_) | refine XOA.unwanted rfl rfl rfl rfl ?_ | refine XOA.uq rfl rfl rfl ?_ | refine XOA.unwantedU rfl rfl rfl ?_
              refine XOA.rd rfl (by first | exact Rd.pT rfl | exact Rd.pF rfl | exact Rd.pP rfl) ?_
              refine XOA.nil ?_
              refine DA.thn_normal ?_
              refine XA.condF rfl rfl ?_
              refine XA.skip ?_
              refine DA.inb_normal ?_
              refine DA.thn_normal ?_
              refine ⟨(Keep.upd (Keep.upd (Keep.upd (Keep.upd (Keep.upd (Keep.upd (Keep.upd (Keep.upd (Keep.upd (Keep.upd (Keep.upd (Keep.upd (Keep.upd (Keep.upd (Keep.upd (Keep.upd (Keep.upd (Keep.upd (Keep.upd (Keep.updO (Keep.updO (Keep.upd (Keep.upd (Keep.upd (Keep.upd (Keep.upd (Keep.upd (Keep.upd (Keep.upd (Keep.upd (Keep.upd (Keep.updO (Keep.upd (Keep.upd (Keep.upd (Keep.upd (Keep.upd (Keep.upd (Keep.updO (Keep.updO (Keep.updO (Keep.upd (Keep.upd (Keep.upd (Keep.upd (Keep.upd (Keep.upd (Keep.refl _ _) rfl) rfl) rfl) rfl) rfl) rfl) rfl) rfl) rfl) rfl) rfl) rfl) rfl) rfl) rfl) rfl) rfl) rfl) rfl) rfl) rfl) rfl) rfl) rfl) rfl) rfl) rfl) rfl) rfl) rfl) rfl) rfl) rfl) rfl) rfl) rfl) rfl) rfl) rfl) rfl) rfl) rfl) rfl) rfl) rfl) rfl) rfl), b, _, (by (repeat (first | exact trivial | refine ⟨rfl, ?_⟩ | refine ⟨Eq.trans rfl (congrArg Value.bool hmat.symm), ?_⟩)); (first | done | fail)), ?_, ⟨hs25, _, _, _, hrel.done hw8 hl14 hn, by simp only [nextS]; omega, rfl⟩⟩
              · exact (by (repeat (first | exact Ent.nil _ | (apply Ent.sel; focus (first | ((repeat (first | with_reducible exact Sel.head | apply Sel.tail)); done) | ((repeat (first | exact Sel.head | apply Sel.tail)); done))) | apply Ent.selNil | apply Ent.selEmp)); (first | done | fail))
            · have hDj := hj2 (by omega)
              have hDD : ¬ (xD < 0 ∨ (xp.length : Int) + 4 < xD) := by omega
              obtain ⟨s', hg', hrel'⟩ := hrel.part hw8 hl14 hn (j := j) (by omega) (bitOf xm)
              rw [decide_eq_false hDD, decide_eq_false hj, if_neg hj, if_neg hDD]
              rw [← hDj] at hrel'
              refine XPA.pu rfl rfl Gd.free Rd.mv ?_
              refine XPA.pu rfl rfl Gd.free (Rd.extract rfl rfl) ?_
              refine XPA.pu rfl rfl Gd.free (Rd.extract rfl rfl) ?_
              refine XPA.pu rfl rfl Gd.free Rd.asg ?_
              refine XPA.pu rfl rfl Gd.free Rd.asg ?_
              refine XPA.nil ?_
              refine DA.thn_normal ?_
              refine XA.seq ?_
              refine XA.seq ?_
              refine XA.region ?_
              refine XOA.rd rfl Rd.mv ?_
              refine XOA.rd rfl Rd.mv ?_
              refine XOA.rd rfl (Rd.neqb (tyrow rfl) rfl rfl rfl) ?_
              refine XOA.rd rfl Rd.mv ?_
              first | ((first | refine XOA.wanted rfl rfl ?_ | refine XOA.wq rfl rfl ?_); refine XOA.rd rfl Rd.mv ?_) | refine XOA.unwanted rfl rfl rfl rfl ?_ | refine XOA.uq rfl rfl rfl ?_ | refine XOA.unwantedU rfl rfl rfl ?_
              first | ((first | refine XOA.wanted rfl rfl ?_ | refine XOA.wq rfl rfl ?_); refine XOA.rd rfl Rd.mv ?_) | refine XOA.unwanted rfl rfl rfl rfl ?_ | refine XOA.uq rfl rfl rfl ?_ | refine XOA.unwantedU rfl rfl rfl ?_
              first | ((first | refine XOA.wanted rfl rfl ?_ | refine XOA.wq rfl rfl ?_); refine XOA.rd rfl (Rd.neq rfl rfl) ?_) | refine XOA.unwanted rfl rfl rfl rfl ?_ | refine XOA.uq rfl rfl rfl ?_ | refine XOA.unwantedU rfl rfl rfl ?_
              refine XOA.rd rfl (by first | exact Rd.pT rfl | exact Rd.pF rfl | exact Rd.pP rfl) ?_
              refine XOA.nil ?_
              refine DA.thn_normal ?_
              refine XA.condF rfl rfl ?_
              refine XA.skip ?_
              refine DA.thn_normal ?_
              refine XA.seq ?_
              refine XA.region ?_
              refine XOA.rd rfl Rd.mv ?_
              refine XOA.rd rfl (Rd.eql rfl rfl) ?_
              refine XOA.rd rfl Rd.mv ?_
              first | ((first | refine XOA.wanted rfl rfl ?_ | refine XOA.wq rfl rfl ?_); refine XOA.rd rfl Rd.mv ?_) | refine XOA.unwanted rfl rfl rfl rfl ?_ | refine XOA.uq rfl rfl rfl ?_ | refine XOA.unwantedU rfl rfl rfl ?_
              first | ((first | refine XOA.wanted rfl rfl ?_ | refine XOA.wq rfl rfl ?_); refine XOA.rd rfl (by first | exact Rd.notp rfl | exact Rd.not rfl) ?_) | refine XOA.unwanted rfl rfl rfl rfl ?_ | refine XOA.uq rfl rfl rfl ?_ | refine XOA.unwantedU rfl rfl rfl ?_
              refine XOA.rd rfl (by first | exact Rd.pT rfl | exact Rd.pF rfl | exact Rd.pP rfl) ?_
              refine XOA.nil ?_
              refine DA.thn_normal ?_
              refine XA.condT rfl rfl ?_
              refine XA.seq ?_
              refine XA.region ?_
              refine XOA.rd rfl Rd.mv ?_
              refine XOA.rd rfl (Rd.fA rfl) ?_
              refine XOA.rd rfl (Rd.ldC rfl (tyrow rfl) rfl) ?_
              refine XOA.wr0 rfl (WrA.cE (crash_a σ5 db _ xm (comD_wait hrel.good hl14 j) hxm0 hxm1) rfl) ?_
              rintro _ _ _ ⟨_, ⟨rfl, rfl, rfl⟩, rfl⟩
              refine XOA.cl ?_
              refine XOA.nil ?_
              refine DA.thn_normal ?_
              refine XA.seq ?_
              refine XA.region ?_
              refine XOA.rd rfl Rd.mv ?_
              refine XOA.rd rfl (Rd.fA rfl) ?_
              refine XOA.rd rfl (Rd.ldC rfl (tyrow rfl) rfl) ?_
              refine XOA.wr0 rfl (WrA.cE (vcrash_a σ5 g18 (vpart v xp xD) xm hxm0 hxm1 (by show 0 ≤ v.gen; omega) (by show v.gen < _; omega)) rfl) ?_
              rintro _ _ _ ⟨_, ⟨rfl, rfl, rfl⟩, rfl⟩
              refine XOA.cl ?_
              refine XOA.nil ?_
              refine DA.thn_normal ?_
              refine XA.region ?_
              refine XOA.rd rfl Rd.mv ?_
              refine XOA.wr0 rfl (WrA.cE (open_a σ5 db _ hrel'.good.dok hrel'.good.wlen') rfl) ?_
              rintro _ _ _ ⟨_, ⟨b2, rfl, rfl, rfl⟩, rfl⟩
              refine XOA.cl ?_
              rw [hrel'.good.open]
              refine XOA.rd rfl Rd.asg ?_
              refine XOA.nil ?_
              refine DA.inb_normal ?_
              refine DA.thn_normal ?_
              refine ⟨(Keep.upd (Keep.updO (Keep.upd (Keep.updO (Keep.upd (Keep.upd (Keep.upd (Keep.updO (Keep.upd (Keep.upd (Keep.upd (Keep.upd (Keep.upd (Keep.upd (Keep.upd (Keep.upd (Keep.upd (Keep.upd (Keep.upd (Keep.upd (Keep.upd (Keep.upd (Keep.upd (Keep.upd (Keep.upd (Keep.upd (Keep.upd (Keep.upd (Keep.upd (Keep.upd (Keep.updO (Keep.updO (Keep.upd (Keep.upd (Keep.upd (Keep.upd (Keep.upd (Keep.upd (Keep.upd (Keep.upd (Keep.upd (Keep.upd (Keep.updO (Keep.upd (Keep.upd (Keep.upd (Keep.upd (Keep.upd (Keep.upd (Keep.updO (Keep.updO (Keep.updO (Keep.upd (Keep.upd (Keep.upd (Keep.upd (Keep.upd (Keep.upd (Keep.refl _ _) rfl) rfl) rfl) rfl) rfl) rfl) rfl) rfl) rfl) rfl) rfl) rfl) rfl) rfl) rfl) rfl) rfl) rfl) rfl) rfl) rfl) rfl) rfl) rfl) rfl) rfl) rfl) rfl) rfl) rfl) rfl) rfl) rfl) rfl) rfl) rfl) rfl) rfl) rfl) rfl) rfl) rfl) rfl) rfl) rfl) rfl) rfl) rfl) rfl) rfl) rfl) rfl) rfl) rfl) rfl) rfl) rfl) rfl), b2, _, (by (repeat (first | exact trivial | refine ⟨rfl, ?_⟩ | refine ⟨Eq.trans rfl (congrArg Value.bool hmat.symm), ?_⟩)); (first | done | fail)), ?_, ⟨hs25, _, _, _, hrel', by omega, rfl⟩⟩
              · exact (by (repeat (first | exact Ent.nil _ | (apply Ent.sel; focus (first | ((repeat (first | with_reducible exact Sel.head | apply Sel.tail)); done) | ((repeat (first | exact Sel.head | apply Sel.tail)); done))) | apply Ent.selNil | apply Ent.selEmp)); (first | done | fail))
          · have kB : ¬ (checkS xp = 0) := hc
            refine XOA.wr0 rfl (WrA.cE (commit_no σ3 b sp xp xD hxp3 hc) rfl) ?_
            rintro _ _ _ ⟨_, ⟨rfl, rfl, rfl⟩, rfl⟩
            refine XOA.cl ?_
            refine XOA.rd rfl Rd.mv ?_
            refine XOA.rd rfl (Rd.extract rfl rfl) ?_
            refine XOA.rd rfl (Rd.extract rfl rfl) ?_
            refine XOA.rd rfl Rd.asg ?_
            refine XOA.rd rfl Rd.asg ?_
            refine XOA.nil ?_
            refine DA.thn_normal ?_
            refine XA.seq ?_
            refine XA.draw (by kernel_rfl) _ _ [6] [(0, .pu), (1, .pu), (2, .rd), (4, .pu), (5, .rd), (3, .wr), (6, .wr), (7, .pu), (8, .pu), (9, .pu), (10, .pu), (11, .pu)] (by kernel_rfl) (PH.sub.refl _) (Ent.sel (R := blk g7 _ _) (by ((repeat (first | with_reducible exact Sel.head | apply Sel.tail)); (first | done | fail))) (Ent.nil _)) ?_
            refine XPA.pu rfl rfl Gd.free Rd.mv ?_
            refine XPA.pu rfl rfl Gd.free (Rd.fA rfl) ?_
            refine XPA.rd rfl rfl Gd.free (Rd.ldC rfl (tyrow rfl) rfl) ?_
            refine XPA.pu rfl rfl Gd.free (Rd.fA rfl) ?_
            refine XPA.rd rfl rfl Gd.free (Rd.ldC rfl (tyrow rfl) rfl) ?_
            refine XPA.wr0 rfl rfl Gd.free (WrA.cE (pagesOf_a σ3 sp xp hxp3 hx30) rfl) ?_
            rintro _ _ _ ⟨_, ⟨p2, c2, rows2, rfl, hr2, rfl, rfl⟩, rfl⟩
            refine stays (XPA.cl ?_)
            refine XPA.wrZ0 rfl rfl Gd.free (by kernel_rfl) (WrA.cE (vcommit_noL σ3 g18 p2 c2 rows2 xp xD hr2 hc) rfl) ?_
            rintro _ σ5 _ ⟨_, ⟨rfl, hs5, rfl⟩, rfl⟩
            refine XPA.cl ?_
            refine XPA.pu rfl rfl Gd.free Rd.mv ?_
            refine XPA.pu rfl rfl Gd.free (Rd.extract rfl rfl) ?_
            refine XPA.pu rfl rfl Gd.free (Rd.extract rfl rfl) ?_
            refine XPA.pu rfl rfl Gd.free Rd.asg ?_
            refine XPA.pu rfl rfl Gd.free Rd.asg ?_
            refine XPA.nil ?_
            refine DA.thn_normal ?_
            refine XA.seq ?_
            refine XA.seq ?_
            refine XA.region ?_
            refine XOA.rd rfl Rd.mv ?_
            refine XOA.rd rfl Rd.mv ?_
            refine XOA.rd rfl (Rd.neqb (tyrow rfl) rfl rfl rfl) ?_
            refine XOA.rd rfl Rd.mv ?_
            first | ((first | refine XOA.wanted rfl rfl ?_ | refine XOA.wq rfl rfl ?_); refine XOA.rd rfl Rd.mv ?_) | refine XOA.unwanted rfl rfl rfl rfl ?_ | refine XOA.uq rfl rfl rfl ?_ | refine XOA.unwantedU rfl rfl rfl ?_
            first | ((first | refine XOA.wanted rfl rfl ?_ | refine XOA.wq rfl rfl ?_); refine XOA.rd rfl Rd.mv ?_) | refine XOA.unwanted rfl rfl rfl rfl ?_ | refine XOA.uq rfl rfl rfl ?_ | refine XOA.unwantedU rfl rfl rfl ?_
            first | ((first | refine XOA.wanted rfl rfl ?_ | refine XOA.wq rfl rfl ?_); refine XOA.rd rfl (Rd.neq rfl rfl) ?_) | refine XOA.unwanted rfl rfl rfl rfl ?_ | refine XOA.uq rfl rfl rfl ?_ | refine XOA.unwantedU rfl rfl rfl ?_
            refine XOA.rd rfl (by first | exact Rd.pT rfl | exact Rd.pF rfl | exact Rd.pP rfl) ?_
            refine XOA.nil ?_
            refine DA.thn_normal ?_
            refine XA.condF rfl (by first | rfl | exact (by first | exact (rfl : decide _ = true) | exact (rfl : decide _ = false) | (refine decide_eq_true ?_; assumption) | (refine decide_eq_false ?_; assumption) | (refine decide_eq_true ?_; omega) | (refine decide_eq_false ?_; omega))) ?_
            refine XA.skip ?_
            refine DA.thn_normal ?_
            refine XA.seq ?_
            refine XA.region ?_
            refine XOA.rd rfl Rd.mv ?_
            refine XOA.rd rfl (Rd.eql rfl rfl) ?_
            refine XOA.rd rfl Rd.mv ?_
            first | ((first | refine XOA.wanted rfl rfl ?_ | refine XOA.wq rfl rfl ?_); refine XOA.rd rfl Rd.mv ?_) | refine XOA.unwanted rfl rfl rfl rfl ?_ | refine XOA.uq rfl rfl rfl ?_ | refine XOA.unwantedU rfl rfl rfl ?_
            first | ((first | refine XOA.wanted rfl rfl ?_ | refine XOA.wq rfl rfl ?_); refine XOA.rd rfl (by first | exact Rd.notp rfl | exact Rd.not rfl) ?_) | refine XOA.unwanted rfl rfl rfl rfl ?_ | refine XOA.uq rfl rfl rfl ?_ | refine XOA.unwantedU rfl rfl rfl ?_
            refine XOA.rd rfl (by first | exact Rd.pT rfl | exact Rd.pF rfl | exact Rd.pP rfl) ?_
            refine XOA.nil ?_
            refine DA.thn_normal ?_
            refine XA.condF rfl (by first | rfl | exact (by first | exact (rfl : decide _ = true) | exact (rfl : decide _ = false) | (refine decide_eq_true ?_; assumption) | (refine decide_eq_false ?_; assumption) | (refine decide_eq_true ?_; omega) | (refine decide_eq_false ?_; omega))) ?_
            refine XA.skip ?_
            refine DA.inb_normal ?_
            refine DA.thn_normal ?_
            refine ⟨(Keep.upd (Keep.upd (Keep.upd (Keep.upd (Keep.upd (Keep.upd (Keep.upd (Keep.upd (Keep.upd (Keep.upd (Keep.upd (Keep.upd (Keep.upd (Keep.upd (Keep.upd (Keep.upd (Keep.upd (Keep.upd (Keep.upd (Keep.updO (Keep.updO (Keep.upd (Keep.upd (Keep.upd (Keep.upd (Keep.upd (Keep.upd (Keep.upd (Keep.upd (Keep.upd (Keep.upd (Keep.updO (Keep.upd (Keep.upd (Keep.upd (Keep.upd (Keep.upd (Keep.upd (Keep.updO (Keep.updO (Keep.updO (Keep.upd (Keep.upd (Keep.upd (Keep.upd (Keep.upd (Keep.upd (Keep.refl _ _) rfl) rfl) rfl) rfl) rfl) rfl) rfl) rfl) rfl) rfl) rfl) rfl) rfl) rfl) rfl) rfl) rfl) rfl) rfl) rfl) rfl) rfl) rfl) rfl) rfl) rfl) rfl) rfl) rfl) rfl) rfl) rfl) rfl) rfl) rfl) rfl) rfl) rfl) rfl) rfl) rfl) rfl) rfl) rfl) rfl) rfl) rfl), b, _, (by (repeat (first | exact trivial | refine ⟨rfl, ?_⟩ | refine ⟨Eq.trans rfl (congrArg Value.bool hmat.symm), ?_⟩)); (first | done | fail)), ?_, ⟨hs3.trans hs5, _, _, _, hrel, by omega, rfl⟩⟩
            · exact (by (repeat (first | exact Ent.nil _ | (apply Ent.sel; focus (first | ((repeat (first | with_reducible exact Sel.head | apply Sel.tail)); done) | ((repeat (first | exact Sel.head | apply Sel.tail)); done))) | apply Ent.selNil | apply Ent.selEmp)); (first | done | fail))
        refine XA.seq ?_
        refine XA.region ?_
        refine XOA.rd rfl (Rd.eql rfl rfl) ?_
        refine XOA.rd rfl Rd.asg ?_
        refine XOA.nil ?_
        refine DA.thn_normal ?_
        refine XA.condp rfl (fun k1 => ?_) (fun k1 => ?_)
        · have hrel' := hrel.crash (bitOf xm)
          refine XA.seq ?_
          refine XA.region ?_
          refine XOA.rd rfl Rd.mv ?_
          refine XOA.rd rfl (Rd.fA rfl) ?_
          refine XOA.rd rfl (Rd.ldC rfl (tyrow rfl) rfl) ?_
          refine XOA.wr0 rfl (WrA.cE (crash_a σ2 db d xm hrel.good.wlen' hxm0 hxm1) rfl) ?_
          rintro _ _ _ ⟨_, ⟨rfl, rfl, rfl⟩, rfl⟩
          refine XOA.cl ?_
          refine XOA.nil ?_
          refine DA.thn_normal ?_
          refine XA.seq ?_
          refine XA.region ?_
          refine XOA.rd rfl Rd.mv ?_
          refine XOA.rd rfl (Rd.fA rfl) ?_
          refine XOA.rd rfl (Rd.ldC rfl (tyrow rfl) rfl) ?_
          refine XOA.wr0 rfl (WrA.cE (vcrash_a σ2 g18 v xm hxm0 hxm1 (by omega) (by omega)) rfl) ?_
          rintro _ _ _ ⟨_, ⟨rfl, rfl, rfl⟩, rfl⟩
          refine XOA.cl ?_
          refine XOA.nil ?_
          refine DA.thn_normal ?_
          refine XA.region ?_
          refine XOA.rd rfl Rd.mv ?_
          refine XOA.wr0 rfl (WrA.cE (open_a σ2 db _ hrel'.good.dok hrel'.good.wlen') rfl) ?_
          rintro _ _ _ ⟨_, ⟨b2, rfl, rfl, rfl⟩, rfl⟩
          refine XOA.cl ?_
          rw [hrel'.good.open]
          refine XOA.rd rfl Rd.asg ?_
          refine XOA.nil ?_
          refine DA.inb_normal ?_
          refine DA.thn_normal ?_
          refine ⟨(Keep.upd (Keep.updO (Keep.upd (Keep.updO (Keep.upd (Keep.upd (Keep.upd (Keep.updO (Keep.upd (Keep.upd (Keep.upd (Keep.upd (Keep.upd (Keep.upd (Keep.upd (Keep.refl _ _) rfl) rfl) rfl) rfl) rfl) rfl) rfl) rfl) rfl) rfl) rfl) rfl) rfl) rfl) rfl), b2, _, (by (repeat (first | exact trivial | refine ⟨rfl, ?_⟩ | refine ⟨Eq.trans rfl (congrArg Value.bool hmat.symm), ?_⟩)); (first | done | fail)), ?_, ⟨.refl _, _, _, _, hrel', by omega, rfl⟩⟩
          · exact (by (repeat (first | exact Ent.nil _ | (apply Ent.sel; focus (first | ((repeat (first | with_reducible exact Sel.head | apply Sel.tail)); done) | ((repeat (first | exact Sel.head | apply Sel.tail)); done))) | apply Ent.selNil | apply Ent.selEmp)); (first | done | fail))
        refine XA.seq ?_
        refine XA.region ?_
        refine XOA.rd rfl (Rd.eql rfl rfl) ?_
        refine XOA.rd rfl Rd.asg ?_
        refine XOA.nil ?_
        refine DA.thn_normal ?_
        refine XA.condp rfl (fun k2 => ?_) (fun k2 => ?_)
        · refine XA.region ?_
          refine XOA.rd rfl Rd.mv ?_
          refine XOA.wr0 rfl (WrA.cE (open_a σ2 db d hrel.good.dok hrel.good.wlen') rfl) ?_
          rintro _ _ _ ⟨_, ⟨b2, rfl, rfl, rfl⟩, rfl⟩
          refine XOA.cl ?_
          rw [hrel.good.open]
          refine XOA.rd rfl Rd.asg ?_
          refine XOA.nil ?_
          refine DA.inb_normal ?_
          refine DA.thn_normal ?_
          refine ⟨(Keep.upd (Keep.updO (Keep.upd (Keep.upd (Keep.upd (Keep.upd (Keep.upd (Keep.upd (Keep.upd (Keep.refl _ _) rfl) rfl) rfl) rfl) rfl) rfl) rfl) rfl) rfl), b2, _, (by (repeat (first | exact trivial | refine ⟨rfl, ?_⟩ | refine ⟨Eq.trans rfl (congrArg Value.bool hmat.symm), ?_⟩)); (first | done | fail)), ?_, ⟨.refl _, _, _, _, hrel, by omega, rfl⟩⟩
          · exact (by (repeat (first | exact Ent.nil _ | (apply Ent.sel; focus (first | ((repeat (first | with_reducible exact Sel.head | apply Sel.tail)); done) | ((repeat (first | exact Sel.head | apply Sel.tail)); done))) | apply Ent.selNil | apply Ent.selEmp)); (first | done | fail))
        refine XA.skip ?_
        refine DA.inb_normal ?_
        refine DA.thn_normal ?_
        refine ⟨(Keep.upd (Keep.upd (Keep.upd (Keep.upd (Keep.upd (Keep.upd (Keep.refl _ _) rfl) rfl) rfl) rfl) rfl) rfl), b, _, (by (repeat (first | exact trivial | refine ⟨rfl, ?_⟩ | refine ⟨Eq.trans rfl (congrArg Value.bool hmat.symm), ?_⟩)); (first | done | fail)), ?_, ⟨.refl _, _, _, _, hrel, by omega, rfl⟩⟩
        · exact (by (repeat (first | exact Ent.nil _ | (apply Ent.sel; focus (first | ((repeat (first | with_reducible exact Sel.head | apply Sel.tail)); done) | ((repeat (first | exact Sel.head | apply Sel.tail)); done))) | apply Ent.selNil | apply Ent.selEmp)); (first | done | fail))
      rintro y δ2 σ6 _ ⟨hs6, d6, s6, v6, hrel6, hg6, rfl⟩
      dsimp only [ovr, List.foldl]
      refine DA.thn_normal ?_
      refine XA.seq ?_
      refine XA.region ?_
      refine XOA.rd rfl Rd.mv ?_
      refine XOA.rd rfl Rd.mv ?_
      refine XOA.wr0 rfl (WrA.cE (sameStore_a σ6 y db g18 s6 d6 v6 hrel6) rfl) ?_
      rintro _ _ _ ⟨_, ⟨rfl, rfl, rfl⟩, rfl⟩
      refine XOA.cl ?_
      refine XOA.rd rfl (by first | exact Rd.notp rfl | exact Rd.not rfl) ?_
      refine XOA.nil ?_
      refine DA.thn_normal ?_
      refine XA.condF rfl rfl ?_
      refine XA.skip ?_
      refine DA.inb_normal ?_
      refine DA.thn_normal ?_
      refine XA.region ?_
      refine XOA.rd rfl Rd.mv ?_
      refine XOA.rd rfl (by first | exact Rd.adi rfl rfl | exact Rd.add rfl rfl) ?_
      refine XOA.rd rfl Rd.asg ?_
      refine XOA.nil ?_
      refine DA.thn_normal ?_
      refine ⟨(Keep.upd (Keep.upd (Keep.upd (Keep.upd (Keep.updO (Keep.upd (Keep.upd (Keep.upd (Keep.hav (Keep.hav (Keep.hav (Keep.hav (Keep.upd (Keep.upd (Keep.updN (Keep.updO (Keep.upd (Keep.upd (Keep.upd (Keep.upd (Keep.upd (Keep.upd (Keep.upd (Keep.upd (Keep.upd (Keep.upd (Keep.hav (Keep.hav (Keep.hav (Keep.refl _ _) rfl) rfl) rfl) rfl) rfl) rfl) rfl) rfl) rfl) rfl) rfl) rfl) rfl) rfl)) rfl) rfl) rfl) rfl) rfl) rfl) rfl) rfl) rfl) rfl) rfl) rfl) rfl) rfl), (k + 1, y), _, (by (repeat (first | exact trivial | refine ⟨rfl, ?_⟩ | refine ⟨Eq.trans rfl (congrArg Value.bool hmat.symm), ?_⟩)); (first | done | fail)), ?_, ⟨hs2.trans hs6, hlt, d6, s6, v6, hrel6, by simp only; omega, rfl⟩, (by simp only; omega)⟩
      · exact (by (repeat (first | exact Ent.nil _ | (apply Ent.sel; focus (first | ((repeat (first | with_reducible exact Sel.head | apply Sel.tail)); done) | ((repeat (first | exact Sel.head | apply Sel.tail)); done))) | apply Ent.selNil | apply Ent.selEmp)); (first | done | fail))
    refine XA.exit ?_
    refine DA.thn_exit ?_
    refine DA.thn_exit ?_
    refine DA.inb_same ?_
    refine DA.thn_normal ?_
    refine XA.seq ?_
    refine XA.region ?_
    refine XOA.rd rfl Rd.asg ?_
    refine XOA.nil ?_
    refine DA.thn_normal ?_
    refine XA.ret ?_
    exact bodyA.ret (ResA.one rfl rfl) (Ent.nil _) ⟨rfl, hs1.trans hs2⟩
end Go.Proofs.Ytplobdiknobhoaa
