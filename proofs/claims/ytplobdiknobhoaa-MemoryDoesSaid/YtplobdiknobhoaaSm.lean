/- The law StoreMore: what its function does. -/
import Derived.Test.YtplobdiknobhoaaSl
namespace Go.Proofs.Ytplobdiknobhoaa
open Go X
set_option maxHeartbeats 2000000
theorem one_stp {σ : PH} {g : Nat} {a b m : Int} {sp : Value} {l : List PageS} (hb : okD b) (hm0 : 0 ≤ m) (hm1 : m < 18446744073709551616) (hp : PSl 9 rPage σ sp l) (h : PRow σ g 0 [i64 a, i64 b, sp, .int .u64 m]) : PSl 4 rStp σ (.slice (some ⟨g, 0, none⟩) 1 1) [⟨a, b, l, m⟩] :=
  Rows_.psl ((Rows_.nil 4 rStp σ).snoc (row := [i64 a, i64 b, sp, .int .u64 m]) rfl ⟨sp, rfl, hb, hp, hm0, hm1⟩) rfl ⟨Nat.le_refl _, by simp [maxLen], rfl, fun _ => ⟨g, 0, rfl, by simpa using h⟩⟩
/-- However a commit is left off: behind a crash there is what was, or all of what was to be. -/
theorem commit_any {d : DiskS} {s : StS} {l : List PageS} (h : Good d s) (hw : ∀ x ∈ l, x.w.length = 8) (hl : l.length ≤ 14) (hn : ∀ x ∈ l, 0 ≤ x.n ∧ x.n < 14) {j : Nat} (hj : j ≤ l.length + 5) (is : Nat → Bool) :
    ∃ s' : StS, Good ((comD d s l j).settle is) s' ∧ ((s'.gen = s.gen ∧ ∀ p : Int, pageW ((comD d s l j).settle is) s' p = pageW d s p) ∨ (s'.gen = s.gen + 1 ∧ ∀ p : Int, pageW ((comD d s l j).settle is) s' p = wTo (pageW d s p) l l.length p)) := by
  by_cases h5 : j = l.length + 5
  · subst h5
    obtain ⟨h1, h2⟩ := commit_done h hw hl hn
    obtain ⟨h3, h4⟩ := h1.settle is
    exact ⟨nextS s l, h3, .inr ⟨rfl, fun p => by rw [page_all h4 p]; exact page_new hn h2 p⟩⟩
  by_cases h6 : j = l.length + 4
  · subst h6
    have hr := commit_root h hw hl hn is
    by_cases h0 : is 0 = true
    · rw [if_pos h0] at hr
      exact ⟨nextS s l, hr.1, .inr ⟨rfl, page_new hn hr.2⟩⟩
    · rw [if_neg h0] at hr
      exact ⟨s, hr.1, .inl ⟨rfl, page_all hr.2⟩⟩
  · obtain ⟨h1, h2⟩ := commit_part h hw hl (j := j) (by omega) is
    exact ⟨s, h1, .inl ⟨rfl, page_all h2⟩⟩
/-- Without its root nothing was done. -/
theorem commit_none {d : DiskS} {s : StS} {l : List PageS} (h : Good d s) (hw : ∀ x ∈ l, x.w.length = 8) (hl : l.length ≤ 14) (hn : ∀ x ∈ l, 0 ≤ x.n ∧ x.n < 14) {j : Nat} (hj : j < l.length + 5) : Good ((comD d s l j).settle (bitOf 0)) s := by
  by_cases h6 : j = l.length + 4
  · subst h6
    have hr := commit_root h hw hl hn (bitOf 0)
    rw [if_neg (by decide)] at hr
    exact hr.1
  · exact (commit_part h hw hl (j := j) (by omega) _).1
/-- The first pages, as a store tells them. -/
def toldTo (d : DiskS) (s : StS) (k : Nat) (P : List (List Int)) : Prop := pgsOk P ∧ ∀ q : Nat, q < k → P.getD q DiskS.zeros = pageW d s q
theorem toldTo_new (d : DiskS) (s : StS) : toldTo d s 0 (List.replicate 14 DiskS.zeros) := ⟨⟨by simp, fun w hw => by rw [List.eq_of_mem_replicate hw]; rfl⟩, fun q h => absurd h (Nat.not_lt_zero _)⟩
theorem toldTo_succ {d : DiskS} {s : StS} {k : Nat} {P : List (List Int)} (h : toldTo d s k P) (hd : d.ok) (hk : k < 14) : toldTo d s (k + 1) (P.set k (pageW d s k)) := by
  refine ⟨pgs_set h.1 k (pageW_len hd s k), fun q hq => ?_⟩
  rw [List.getD_eq_getElem?_getD, List.getElem?_set]
  by_cases e : k = q
  · subst e
    rw [if_pos rfl, if_pos (by rw [h.1.1]; exact hk)]; rfl
  · rw [if_neg e, ← List.getD_eq_getElem?_getD]
    exact h.2 q (by omega)
theorem pgs_at {P : List (List Int)} (h : pgsOk P) {n : Nat} (hn : n < 14) : ((ints P.flatten).drop (n * 8)).take 8 = ints (P.getD n DiskS.zeros) := by
  have := pgs_row h hn (.int .i64 0) []
  rw [Nat.add_comm 1, List.drop_succ_cons, List.append_nil] at this
  exact this
theorem pgs_row8 {P : List (List Int)} (h : pgsOk P) {n : Nat} (hn : n < 14) : (P.getD n DiskS.zeros).length = 8 := by
  rw [List.getD_eq_getElem?_getD, List.getElem?_eq_getElem (by rw [h.1]; exact hn)]
  exact h.2 _ (List.getElem_mem _)
theorem smore_law (σ : PH) (sl psl : Value) (l : List Stp) (ps : List PageS) (D : Int) (hl : PSl 4 rStp σ sl l) (hps : PSl 9 rPage σ psl ps) (hD : okD D) : CallsA Try.prog 9 #[sl, psl, i64 D] σ [] (RetA fun r σ' _ => r = .bool true ∧ σ.sub σ') := by
  obtain ⟨pv, cv, rfl, hvl, hvm⟩ := hl.shape
  obtain ⟨pp, pc, rfl, hpl, hpm⟩ := hps.shape
  refine enterA3 Try.func9 rfl rfl rfl ?_
  refine XA.seq ?_
  refine XA.region ?_
  refine XOA.rd rfl Rd.asg ?_
  refine XOA.nil ?_
  refine DA.thn_normal ?_
  refine XA.seq ?_
  refine XA.seq ?_
  refine XA.region ?_
  refine XOA.wr0 rfl (WrA.cE (sbegun_a σ) rfl) ?_
  rintro _ σ1 _ ⟨_, ⟨rfl, hs1, rfl⟩, rfl⟩
  refine XOA.cl ?_
  have hl1 := hl.mono hs1 (fun cs x ⟨s, e, a, b, c⟩ => ⟨s, e, a, b.mono hs1 (fun _ _ h => h), c⟩)
  have hps1 := hps.mono hs1 (fun _ _ h => h)
  refine XOA.rd rfl (by first | exact Rd.notp rfl | exact Rd.not rfl) ?_
  refine XOA.nil ?_
  refine DA.thn_normal ?_
  refine XA.condF rfl rfl ?_
  refine XA.skip ?_
  refine DA.thn_normal ?_
  refine XA.seq ?_
  refine XA.seq ?_
  refine XA.region ?_
  refine XOA.rd rfl Rd.mv ?_
  refine XOA.wr0 rfl (WrA.cE (great_a σ1 _ l hl1) rfl) ?_
  rintro _ _ _ ⟨_, ⟨b, rfl, hfew, rfl, rfl⟩, rfl⟩
  refine XOA.cl ?_
  cases b with
  | true =>
    refine XOA.rd rfl Rd.mv ?_
    first | ((first | refine XOA.wanted rfl rfl ?_ | refine XOA.wq rfl rfl ?_); refine XOA.rd rfl Rd.mv ?_) | refine XOA.unwanted rfl rfl rfl rfl ?_ | refine XOA.uq rfl rfl rfl ?_ | refine XOA.unwantedU rfl rfl rfl ?_
    first | ((first | refine XOA.wanted rfl rfl ?_ | refine XOA.wq rfl rfl ?_); refine XOA.rd rfl (Rd.bl (fun _ _ => tyrow) rfl rfl rfl) ?_) | refine XOA.unwanted rfl rfl rfl rfl ?_ | refine XOA.uq rfl rfl rfl ?_ | refine XOA.unwantedU rfl rfl rfl ?_
    first | refine XOA.unwanted rfl rfl rfl rfl ?_ | refine XOA.uq rfl rfl rfl ?_ | refine XOA.unwantedU rfl rfl rfl ?_
    first | refine XOA.unwanted rfl rfl rfl rfl ?_ | refine XOA.uq rfl rfl rfl ?_ | refine XOA.unwantedU rfl rfl rfl ?_
    refine XOA.rd rfl (by first | exact Rd.pT rfl | exact Rd.pF rfl | exact Rd.pP rfl) ?_
    refine XOA.rd rfl Rd.mv ?_
    first | ((first | refine XOA.wanted rfl rfl ?_ | refine XOA.wq rfl rfl ?_); refine XOA.rd rfl Rd.mv ?_) | refine XOA.unwanted rfl rfl rfl rfl ?_ | refine XOA.uq rfl rfl rfl ?_ | refine XOA.unwantedU rfl rfl rfl ?_
    first | refine XOA.unwanted rfl rfl rfl rfl ?_ | refine XOA.uq rfl rfl rfl ?_ | refine XOA.unwantedU rfl rfl rfl ?_
    first | ((first | refine XOA.wanted rfl rfl ?_ | refine XOA.wq rfl rfl ?_); refine XOA.rd rfl (Rd.neq rfl rfl) ?_) | refine XOA.unwanted rfl rfl rfl rfl ?_ | refine XOA.uq rfl rfl rfl ?_ | refine XOA.unwantedU rfl rfl rfl ?_
    refine XOA.rd rfl (by first | exact Rd.pT rfl | exact Rd.pF rfl | exact Rd.pP rfl) ?_
    refine XOA.nil ?_
    refine DA.thn_normal ?_
    refine XA.condT rfl rfl ?_
    refine XA.seq ?_
    refine XA.region ?_
    refine XOA.rd rfl Rd.asg ?_
    refine XOA.nil ?_
    refine DA.thn_normal ?_
    refine XA.ret ?_
    refine DA.thn_ret ?_
    exact bodyA.ret (ResA.one rfl rfl) (Ent.nil _) ⟨rfl, hs1⟩
  | false =>
    obtain ⟨h60, h30⟩ := hfew rfl
    refine XOA.rd rfl Rd.mv ?_
    first | ((first | refine XOA.wanted rfl rfl ?_ | refine XOA.wq rfl rfl ?_); refine XOA.rd rfl Rd.mv ?_) | refine XOA.unwanted rfl rfl rfl rfl ?_ | refine XOA.uq rfl rfl rfl ?_ | refine XOA.unwantedU rfl rfl rfl ?_
    first | ((first | refine XOA.wanted rfl rfl ?_ | refine XOA.wq rfl rfl ?_); refine XOA.rd rfl (Rd.bl (fun _ _ => tyrow) rfl rfl rfl) ?_) | refine XOA.unwanted rfl rfl rfl rfl ?_ | refine XOA.uq rfl rfl rfl ?_ | refine XOA.unwantedU rfl rfl rfl ?_
    refine XOA.wanted rfl rfl ?_
    refine XOA.wr0 rfl (WrA.bs1 (tyrow rfl) rfl (tyrow rfl)) ?_
    rintro _ _ _ ⟨g25, rfl, rfl, rfl⟩
    refine XOA.frz (R := blk g25 _ 55) (by ((repeat (first | with_reducible exact Sel.head | apply Sel.tail)); (first | done | fail))) blk_frz blk_frz_mono ?_
    rintro σ2 ⟨⟩ hr2 hs2
    have hl2 := hl1.mono hs2 (fun cs x ⟨s, e, a, b, c⟩ => ⟨s, e, a, b.mono hs2 (fun _ _ h => h), c⟩)
    have hps2 := hps1.mono hs2 (fun _ _ h => h)
    have hs02 := hs1.trans hs2
    clear hl1 hps1 hs2
    first | refine XOA.wanted rfl rfl ?_ | refine XOA.wq rfl rfl ?_
    refine XOA.wr0 rfl (WrA.cE (great_a σ2 _ [⟨0, 0, ps, 0⟩] (one_stp ⟨by decide, by decide⟩ (by decide) (by decide) hps2 hr2)) rfl) ?_
    rintro _ _ _ ⟨_, ⟨b2, rfl, hfew2, rfl, rfl⟩, rfl⟩
    refine XOA.cl ?_
    cases b2 with
    | true =>
      refine XOA.rd rfl (by first | exact Rd.pT rfl | exact Rd.pF rfl | exact Rd.pP rfl) ?_
      refine XOA.rd rfl Rd.mv ?_
      first | ((first | refine XOA.wanted rfl rfl ?_ | refine XOA.wq rfl rfl ?_); refine XOA.rd rfl Rd.mv ?_) | refine XOA.unwanted rfl rfl rfl rfl ?_ | refine XOA.uq rfl rfl rfl ?_ | refine XOA.unwantedU rfl rfl rfl ?_
      first | refine XOA.unwanted rfl rfl rfl rfl ?_ | refine XOA.uq rfl rfl rfl ?_ | refine XOA.unwantedU rfl rfl rfl ?_
      first | ((first | refine XOA.wanted rfl rfl ?_ | refine XOA.wq rfl rfl ?_); refine XOA.rd rfl (Rd.neq rfl rfl) ?_) | refine XOA.unwanted rfl rfl rfl rfl ?_ | refine XOA.uq rfl rfl rfl ?_ | refine XOA.unwantedU rfl rfl rfl ?_
      refine XOA.rd rfl (by first | exact Rd.pT rfl | exact Rd.pF rfl | exact Rd.pP rfl) ?_
      refine XOA.nil ?_
      refine DA.thn_normal ?_
      refine XA.condT rfl rfl ?_
      refine XA.seq ?_
      refine XA.region ?_
      refine XOA.rd rfl Rd.asg ?_
      refine XOA.nil ?_
      refine DA.thn_normal ?_
      refine XA.ret ?_
      refine DA.thn_ret ?_
      exact bodyA.ret (ResA.one rfl rfl) (Ent.nil _) ⟨rfl, hs02⟩
    | false =>
      have hp30 : ps.length ≤ 30 := (hfew2 rfl).2 _ (List.mem_singleton.2 rfl)
      clear hfew2
      refine XOA.rd rfl (by first | exact Rd.pT rfl | exact Rd.pF rfl | exact Rd.pP rfl) ?_
      refine XOA.rd rfl Rd.mv ?_
      first | ((first | refine XOA.wanted rfl rfl ?_ | refine XOA.wq rfl rfl ?_); refine XOA.rd rfl Rd.mv ?_) | refine XOA.unwanted rfl rfl rfl rfl ?_ | refine XOA.uq rfl rfl rfl ?_ | refine XOA.unwantedU rfl rfl rfl ?_
      first | refine XOA.wanted rfl rfl ?_ | refine XOA.wq rfl rfl ?_
      refine XOA.wr0 rfl (WrA.cE (scheck_a σ2 _ ps hps2) rfl) ?_
      rintro _ _ _ ⟨_, ⟨rfl, rfl, rfl⟩, rfl⟩
      refine XOA.cl ?_
      by_cases hc : checkS ps = 0
      · rw [hc]
        obtain ⟨hn, -, hl14⟩ := check_zero hc
        have hw8 := psl_w8 hps2
        first | ((first | refine XOA.wanted rfl rfl ?_ | refine XOA.wq rfl rfl ?_); refine XOA.rd rfl (Rd.neq rfl rfl) ?_) | refine XOA.unwanted rfl rfl rfl rfl ?_ | refine XOA.uq rfl rfl rfl ?_ | refine XOA.unwantedU rfl rfl rfl ?_
        refine XOA.rd rfl (by first | exact Rd.pT rfl | exact Rd.pF rfl | exact Rd.pP rfl) ?_
        refine XOA.nil ?_
        refine DA.thn_normal ?_
        refine XA.condF rfl rfl ?_
        refine XA.skip ?_
        refine DA.thn_normal ?_
        refine XA.seq ?_
        refine XA.region ?_
        refine XOA.wr0 rfl (WrA.cE (new_a σ2) rfl) ?_
        rintro _ _ _ ⟨_, ⟨db, rfl, rfl, rfl⟩, rfl⟩
        refine XOA.cl ?_
        refine XOA.rd rfl Rd.asg ?_
        refine XOA.nil ?_
        refine DA.thn_normal ?_
        refine XA.seq ?_
        refine XA.region ?_
        refine XOA.rd rfl Rd.mv ?_
        refine XOA.wr0 rfl (WrA.cE (open_a σ2 db DiskS.new Good.new.dok Good.new.wlen') rfl) ?_
        rintro _ _ _ ⟨_, ⟨b0, rfl, rfl, rfl⟩, rfl⟩
        refine XOA.cl ?_
        rw [show openS DiskS.new = s0 from Good.new.open]
        refine XOA.rd rfl Rd.asg ?_
        refine XOA.nil ?_
        refine DA.thn_normal ?_
        refine XA.seq ?_
        refine XA.seq ?_
        refine XA.region ?_
        refine XOA.rd rfl Rd.asg ?_
        refine XOA.nil ?_
        refine DA.thn_normal ?_
        refine XA.block ?_
        refine XA.gen [(0, _), (1, _), (2, _), (6, _), (7, _), (8, _), (9, _)] ⟨(by with_reducible (conv => lhs; whnf)), (by with_reducible (conv => lhs; whnf)), (by with_reducible (conv => lhs; whnf)), (by with_reducible (conv => lhs; whnf)), (by with_reducible (conv => lhs; whnf)), (by with_reducible (conv => lhs; whnf)), (by with_reducible (conv => lhs; whnf)), trivial⟩ (fun δ => ?_)
        dsimp only [List.foldl]
        refine XA.loop [(9, 9), (36, 55)] (fun k : Nat => [(9, i64 k)]) (fun k σ' Γ' => σ2.sub σ' ∧ k ≤ l.length ∧ ∃ (d : DiskS) (s : StS), Good d s ∧ s.gen ≤ k ∧ Γ' = [Store b0 db s, Disk db d]) (fun k => l.length - k) 0 (by exact ⟨rfl, trivial⟩) (Δ0 := _) ?_ (⟨.refl _, Nat.zero_le _, DiskS.new, s0, Good.new, Int.le_refl _, rfl⟩) ?_
        · exact (by (repeat (first | exact Ent.nil _ | (apply Ent.sel; focus (first | ((repeat (first | with_reducible exact Sel.head | apply Sel.tail)); done) | ((repeat (first | exact Sel.head | apply Sel.tail)); done))) | apply Ent.selNil | apply Ent.selEmp)); (first | done | fail))
        rintro k δ σ3 _ ⟨hs3, hk, d, s, hG, hgk, rfl⟩
        dsimp only [ovr, List.foldl]
        have hl3 := hl2.mono hs3 (fun cs x ⟨s, e, a, b, c⟩ => ⟨s, e, a, b.mono hs3 (fun _ _ h => h), c⟩)
        refine XA.seq ?_
        refine XA.seq ?_
        refine XA.region ?_
        refine XOA.rd rfl Rd.mv ?_
        refine XOA.rd rfl Rd.mv ?_
        refine XOA.rd rfl (Rd.lenSlice (tyrow rfl) rfl rfl) ?_
        refine XOA.rd rfl (Rd.lss rfl rfl) ?_
        refine XOA.nil ?_
        refine DA.thn_normal ?_
        refine XA.condp rfl (fun hlt => ?_) (fun hlt => ?_)
        · have hlt : k < l.length := by omega
          obtain ⟨x, hx⟩ : ∃ x, l[k]? = some x := ⟨_, List.getElem?_eq_getElem hlt⟩
          have hx30 := h30 x (List.mem_of_getElem? hx)
          obtain ⟨g, o, row, rfl, ⟨sp, rfl, hxD, hxp, hxm0, hxm1⟩, hrl, hrow⟩ := hl3.at hx
          obtain ⟨xdo, xD, xp, xm⟩ := x
          simp only at hxD hxp hxm0 hxm1 hx30 hrow hrl
          have r2 : PRow σ3 g (o + k * 4 + 2) [sp] := hrow.sub (j := 2) rfl
          refine XA.skip ?_
          refine DA.thn_normal ?_
          refine XA.seq ?_
          refine XA.block ?_
          refine XA.seq ?_
          refine XA.region ?_
          refine XOA.rd rfl Rd.mv ?_
          refine XOA.rd rfl Rd.mv ?_
          refine XOA.rd rfl (Rd.ixS rfl rfl) ?_
          refine XOA.rd rfl (Rd.fA rfl) ?_
          refine XOA.rd rfl (Rd.ldC rfl (tyrow rfl) rfl) ?_
          refine XOA.wr0 rfl (WrA.cE (scheck_a σ3 sp xp hxp) rfl) ?_
          rintro _ _ _ ⟨_, ⟨rfl, rfl, rfl⟩, rfl⟩
          refine XOA.cl ?_
          refine XOA.rd rfl (Rd.eql rfl rfl) ?_
          refine XOA.nil ?_
          refine DA.thn_normal ?_
          refine XA.condp rfl (fun hxc => ?_) (fun hxc => ?_)
          · refine XA.region ?_
            refine XOA.rd rfl Rd.mv ?_
            refine XOA.rd rfl Rd.mv ?_
            refine XOA.rd rfl Rd.mv ?_
            refine XOA.rd rfl (Rd.ixS rfl rfl) ?_
            refine XOA.rd rfl (Rd.fA rfl) ?_
            refine XOA.rd rfl (Rd.ldC rfl (tyrow rfl) rfl) ?_
            refine XOA.wr0 rfl (WrA.cE (commit_all σ3 b0 db s d sp xp hxp hG (by omega)) rfl) ?_
            rintro _ σ4 _ ⟨_, ⟨d', s', rfl, hG', hg', hp', hs4, rfl⟩, rfl⟩
            refine XOA.cl ?_
            rw [if_pos hxc] at hg'
            refine XOA.nil ?_
            refine DA.inb_normal ?_
            refine DA.thn_normal ?_
            refine XA.region ?_
            refine XOA.rd rfl Rd.mv ?_
            refine XOA.rd rfl (by first | exact Rd.adi rfl rfl | exact Rd.add rfl rfl) ?_
            refine XOA.rd rfl Rd.asg ?_
            refine XOA.nil ?_
            refine DA.thn_normal ?_
            refine ⟨(Keep.upd (Keep.upd (Keep.upd (Keep.updO (Keep.upd (Keep.upd (Keep.upd (Keep.upd (Keep.upd (Keep.upd (Keep.upd (Keep.updO (Keep.upd (Keep.upd (Keep.upd (Keep.upd (Keep.upd (Keep.upd (Keep.upd (Keep.upd (Keep.upd (Keep.upd (Keep.hav (Keep.hav (Keep.refl _ _) rfl) rfl) rfl) rfl) rfl) rfl) rfl) rfl) rfl) rfl) rfl) rfl) rfl) rfl) rfl) rfl) rfl) rfl) rfl) rfl) rfl) rfl) rfl) rfl), k + 1, _, (by (repeat (first | exact trivial | refine ⟨rfl, ?_⟩ | refine ⟨Eq.trans rfl (congrArg Value.bool hmat.symm), ?_⟩)); (first | done | fail)), ?_, ⟨hs3.trans hs4, hlt, d', s', hG', by rw [hg']; omega, rfl⟩, (by omega)⟩
            · exact (by (repeat (first | exact Ent.nil _ | (apply Ent.sel; focus (first | ((repeat (first | with_reducible exact Sel.head | apply Sel.tail)); done) | ((repeat (first | exact Sel.head | apply Sel.tail)); done))) | apply Ent.selNil | apply Ent.selEmp)); (first | done | fail))
          refine XA.skip ?_
          refine DA.inb_normal ?_
          refine DA.thn_normal ?_
          refine XA.region ?_
          refine XOA.rd rfl Rd.mv ?_
          refine XOA.rd rfl (by first | exact Rd.adi rfl rfl | exact Rd.add rfl rfl) ?_
          refine XOA.rd rfl Rd.asg ?_
          refine XOA.nil ?_
          refine DA.thn_normal ?_
          refine ⟨(Keep.upd (Keep.upd (Keep.upd (Keep.upd (Keep.updO (Keep.upd (Keep.upd (Keep.upd (Keep.upd (Keep.upd (Keep.upd (Keep.upd (Keep.upd (Keep.upd (Keep.upd (Keep.hav (Keep.hav (Keep.refl _ _) rfl) rfl) rfl) rfl) rfl) rfl) rfl) rfl) rfl) rfl) rfl) rfl) rfl) rfl) rfl) rfl) rfl), k + 1, _, (by (repeat (first | exact trivial | refine ⟨rfl, ?_⟩ | refine ⟨Eq.trans rfl (congrArg Value.bool hmat.symm), ?_⟩)); (first | done | fail)), ?_, ⟨hs3, hlt, d, s, hG, by omega, rfl⟩, (by omega)⟩
          · exact (by (repeat (first | exact Ent.nil _ | (apply Ent.sel; focus (first | ((repeat (first | with_reducible exact Sel.head | apply Sel.tail)); done) | ((repeat (first | exact Sel.head | apply Sel.tail)); done))) | apply Ent.selNil | apply Ent.selEmp)); (first | done | fail))
        obtain rfl : k = l.length := by omega
        have hps3 := hps2.mono hs3 (fun _ _ h => h)
        have hs03 := hs02.trans hs3
        clear hl2
        refine XA.exit ?_
        refine DA.thn_exit ?_
        refine DA.thn_exit ?_
        refine DA.inb_same ?_
        refine DA.thn_normal ?_
        refine XA.seq ?_
        refine XA.region ?_
        refine XOA.wr0 rfl (WrA.alloc (tyrow rfl)) ?_
        rintro _ _ _ ⟨g10, rfl, rfl, rfl⟩
        refine XOA.nil ?_
        refine DA.thn_normal ?_
        refine XA.seq ?_
        refine XA.seq ?_
        refine XA.region ?_
        refine XOA.rd rfl Rd.asg ?_
        refine XOA.nil ?_
        refine DA.thn_normal ?_
        refine XA.block ?_
        refine XA.gen [(1, _), (2, _), (6, _), (7, _), (8, _), (10, _), (11, _)] ⟨(by with_reducible (conv => lhs; whnf)), (by with_reducible (conv => lhs; whnf)), (by with_reducible (conv => lhs; whnf)), (by with_reducible (conv => lhs; whnf)), (by with_reducible (conv => lhs; whnf)), (by with_reducible (conv => lhs; whnf)), (by with_reducible (conv => lhs; whnf)), trivial⟩ (fun δ => ?_)
        dsimp only [List.foldl]
        refine XA.loop [(11, 11), (56, 64)] (fun q : Nat => [(11, i64 q)]) (fun q σ' Γ' => σ3 = σ' ∧ q ≤ 14 ∧ ∃ P : List (List Int), toldTo d s q P ∧ Γ' = [Store b0 db s, Disk db d, blk g10 (ints P.flatten) 48]) (fun q => 14 - q) 0 (by exact ⟨rfl, trivial⟩) (Δ0 := _) ?_ (⟨rfl, Nat.zero_le _, _, toldTo_new d s, rfl⟩) ?_
        · exact (by (repeat (first | exact Ent.nil _ | (apply Ent.sel; focus (first | ((repeat (first | with_reducible exact Sel.head | apply Sel.tail)); done) | ((repeat (first | exact Sel.head | apply Sel.tail)); done))) | apply Ent.selNil | apply Ent.selEmp)); (first | done | fail))
        rintro q δ2 _ _ ⟨rfl, hq, P, hP, rfl⟩
        dsimp only [ovr, List.foldl]
        have hPl := pgs_len hP.1
        refine XA.seq ?_
        refine XA.seq ?_
        refine XA.region ?_
        refine XOA.rd rfl Rd.mv ?_
        refine XOA.rd rfl (Rd.lss rfl rfl) ?_
        refine XOA.nil ?_
        refine DA.thn_normal ?_
        refine XA.condp rfl (fun hq14 => ?_) (fun hq14 => ?_)
        · have hq14 : q < 14 := by omega
          have hw8q := pageW_len hG.dok s q
          obtain ⟨W, hW⟩ : ∃ W, W = pageW d s q := ⟨_, rfl⟩
          have hspl := pgs_put hP.1 (n := q) hq14 (w := pageW d s q) hw8q
          have hfit : q * 8 + ty32.size ≤ (ints P.flatten).length := by rw [hPl]; show q * 8 + 8 ≤ 112; omega
          have hP1 := toldTo_succ hP hG.dok hq14
          refine XA.skip ?_
          refine DA.thn_normal ?_
          refine XA.seq ?_
          refine XA.block ?_
          refine XA.region ?_
          refine XOA.rd rfl Rd.mv ?_
          refine XOA.rd rfl Rd.mv ?_
          refine XOA.rd rfl Rd.mv ?_
          refine XOA.wr0 rfl (WrA.cE (sread_a σ3 b0 db s d q hG.dok hG.wlen') rfl) ?_
          rintro _ _ _ ⟨_, ⟨rfl, rfl, rfl⟩, rfl⟩
          refine XOA.cl ?_
          rw [← hW] at hspl hP1 hw8q ⊢
          refine XOA.rd rfl (Rd.ixA rfl rfl) ?_
          refine XOA.wr0 rfl (WrA.st (tyrow rfl) rfl) ?_
          rintro _ _ _ ⟨rfl, rfl, rfl⟩
          refine XOA.nil ?_
          refine DA.inb_normal ?_
          refine DA.thn_normal ?_
          refine XA.region ?_
          refine XOA.rd rfl Rd.mv ?_
          refine XOA.rd rfl (by first | exact Rd.adi rfl rfl | exact Rd.add rfl rfl) ?_
          refine XOA.rd rfl Rd.asg ?_
          refine XOA.nil ?_
          refine DA.thn_normal ?_
          refine ⟨(Keep.upd (Keep.upd (Keep.upd (Keep.updN (Keep.upd (Keep.updO (Keep.upd (Keep.upd (Keep.upd (Keep.upd (Keep.upd (Keep.upd (Keep.hav (Keep.hav (Keep.refl _ _) rfl) rfl) rfl) rfl) rfl) rfl) rfl) rfl) rfl) rfl)) rfl) rfl) rfl), q + 1, _, (by (repeat (first | exact trivial | refine ⟨rfl, ?_⟩ | refine ⟨Eq.trans rfl (congrArg Value.bool hmat.symm), ?_⟩)); (first | done | fail)), ?_, ⟨rfl, hq14, _, hP1, rfl⟩, (by omega)⟩
          · exact (by (repeat (first | exact Ent.nil _ | (apply Ent.sel; focus (first | ((repeat (first | with_reducible exact Sel.head | apply Sel.tail)); done) | ((repeat (first | exact Sel.head | apply Sel.tail)); done))) | apply Ent.selNil | apply Ent.selEmp)); (first | done | fail))
        obtain rfl : q = 14 := by omega
        refine XA.exit ?_
        refine DA.thn_exit ?_
        refine DA.thn_exit ?_
        refine DA.inb_same ?_
        refine DA.thn_normal ?_
        refine XA.seq ?_
        refine XA.region ?_
        refine XOA.rd rfl Rd.mv ?_
        refine XOA.wr0 rfl (WrA.cE (gen_a σ3 b0 db s) rfl) ?_
        rintro _ _ _ ⟨_, ⟨rfl, rfl, rfl⟩, rfl⟩
        refine XOA.cl ?_
        refine XOA.rd rfl Rd.asg ?_
        refine XOA.nil ?_
        refine DA.thn_normal ?_
        refine XA.seq ?_
        refine XA.region ?_
        refine XOA.rd rfl Rd.mv ?_
        refine XOA.rd rfl Rd.mv ?_
        refine XOA.rd rfl Rd.mv ?_
        refine XOA.wr0 rfl (WrA.cE (commit_yes σ3 b0 db s d _ ps D hps3 hc hG.sok hG.gen (by omega) hD hG.wlen) rfl) ?_
        rintro _ σ4 _ ⟨_, ⟨j, hj1, hj2, hj3, rfl, hs4, rfl⟩, rfl⟩
        refine XOA.cl ?_
        have hg0 := hG.gen
        have hjD : j = ps.length + 5 ↔ (D < 0 ∨ (ps.length : Int) + 5 ≤ D) := by
          constructor
          · intro h
            rcases Int.lt_or_le D 0 with h2 | h2
            · exact .inl h2
            · right
              have := hj3 h D.toNat
              omega
          · intro h
            rcases Nat.lt_or_ge j (ps.length + 5) with h2 | h2
            · have := hj2 h2; omega
            · omega
        refine XOA.rd rfl Rd.mv ?_
        refine XOA.rd rfl (Rd.extract rfl rfl) ?_
        refine XOA.rd rfl (Rd.extract rfl rfl) ?_
        refine XOA.rd rfl Rd.asg ?_
        refine XOA.rd rfl Rd.asg ?_
        refine XOA.nil ?_
        refine DA.thn_normal ?_
        refine XA.seq ?_
        refine XA.seq ?_
        refine XA.region ?_
        refine XOA.rd rfl Rd.mv ?_
        refine XOA.rd rfl (Rd.neq rfl rfl) ?_
        refine XOA.rd rfl Rd.mv ?_
        first | ((first | refine XOA.wanted rfl rfl ?_ | refine XOA.wq rfl rfl ?_); refine XOA.rd rfl Rd.mv ?_) | refine XOA.unwanted rfl rfl rfl rfl ?_ | refine XOA.uq rfl rfl rfl ?_ | refine XOA.unwantedU rfl rfl rfl ?_
        first | ((first | refine XOA.wanted rfl rfl ?_ | refine XOA.wq rfl rfl ?_); refine XOA.rd rfl Rd.mv ?_) | refine XOA.unwanted rfl rfl rfl rfl ?_ | refine XOA.uq rfl rfl rfl ?_ | refine XOA.unwantedU rfl rfl rfl ?_
        first | ((first | refine XOA.wanted rfl rfl ?_ | refine XOA.wq rfl rfl ?_); refine XOA.rd rfl (Rd.lss rfl rfl) ?_) | refine XOA.unwanted rfl rfl rfl rfl ?_ | refine XOA.uq rfl rfl rfl ?_ | refine XOA.unwantedU rfl rfl rfl ?_
        first | ((first | refine XOA.wanted rfl rfl ?_ | refine XOA.wq rfl rfl ?_); refine XOA.rd rfl Rd.mv ?_) | refine XOA.unwanted rfl rfl rfl rfl ?_ | refine XOA.uq rfl rfl rfl ?_ | refine XOA.unwantedU rfl rfl rfl ?_
        refine XOA.join (List.take_append_drop 7 _).symm [(81, 87)] (fun _ : Unit => [(87, .bool (decide (j = ps.length + 5)))]) (fun _ σ' Γ' => σ4 = σ' ∧ Γ' = [Store b0 db (if j = ps.length + 5 then nextS s ps else s), Disk db (comD d s ps j), blk g10 (ints P.flatten) 48]) ?_ ?_
        · 
          by_cases hD0 : D < 0
          · rw [decide_eq_true (hjD.2 (.inl hD0))]
            first | ((first | refine XOA.wanted rfl rfl ?_ | refine XOA.wq rfl rfl ?_); refine XOA.rd rfl Rd.mv ?_) | refine XOA.unwanted rfl rfl rfl rfl ?_ | refine XOA.uq rfl rfl rfl ?_ | refine XOA.unwantedU rfl rfl rfl ?_
            first | ((first | refine XOA.wanted rfl rfl ?_ | refine XOA.wq rfl rfl ?_); refine XOA.rd rfl Rd.mv ?_) | refine XOA.unwanted rfl rfl rfl rfl ?_ | refine XOA.uq rfl rfl rfl ?_ | refine XOA.unwantedU rfl rfl rfl ?_
            first | ((first | refine XOA.wanted rfl rfl ?_ | refine XOA.wq rfl rfl ?_); refine XOA.rd rfl (Rd.lenSlice (tyrow rfl) rfl rfl) ?_) | refine XOA.unwanted rfl rfl rfl rfl ?_ | refine XOA.uq rfl rfl rfl ?_ | refine XOA.unwantedU rfl rfl rfl ?_
            first | ((first | refine XOA.wanted rfl rfl ?_ | refine XOA.wq rfl rfl ?_); refine XOA.rd rfl (by first | exact Rd.adi rfl rfl | exact Rd.add rfl rfl) ?_) | refine XOA.unwanted rfl rfl rfl rfl ?_ | refine XOA.uq rfl rfl rfl ?_ | refine XOA.unwantedU rfl rfl rfl ?_
            first | ((first | refine XOA.wanted rfl rfl ?_ | refine XOA.wq rfl rfl ?_); refine XOA.rd rfl (by first | exact Rd.adi rfl rfl | exact Rd.add rfl rfl) ?_) | refine XOA.unwanted rfl rfl rfl rfl ?_ | refine XOA.uq rfl rfl rfl ?_ | refine XOA.unwantedU rfl rfl rfl ?_
            first | ((first | refine XOA.wanted rfl rfl ?_ | refine XOA.wq rfl rfl ?_); refine XOA.rd rfl (Rd.geq rfl rfl) ?_) | refine XOA.unwanted rfl rfl rfl rfl ?_ | refine XOA.uq rfl rfl rfl ?_ | refine XOA.unwantedU rfl rfl rfl ?_
            first | ((first | refine XOA.wanted rfl rfl ?_ | refine XOA.wq rfl rfl ?_); refine XOA.rd rfl (by first | exact Rd.pT rfl | exact Rd.pF rfl | exact Rd.pP rfl) ?_) | refine XOA.unwanted rfl rfl rfl rfl ?_ | refine XOA.uq rfl rfl rfl ?_ | refine XOA.unwantedU rfl rfl rfl ?_
            refine XOA.nil ?_
            refine DA.thn_normal ?_
            refine ⟨(Keep.upd (Keep.upd (Keep.upd (Keep.upd (Keep.upd (Keep.upd (Keep.upd (Keep.refl _ _) rfl) rfl) rfl) rfl) rfl) rfl) rfl), (), _, (by (repeat (first | exact trivial | refine ⟨rfl, ?_⟩ | refine ⟨Eq.trans rfl (congrArg Value.bool hmat.symm), ?_⟩)); (first | done | fail)), ?_, ⟨rfl, rfl⟩⟩
            · exact (by (repeat (first | exact Ent.nil _ | (apply Ent.sel; focus (first | ((repeat (first | with_reducible exact Sel.head | apply Sel.tail)); done) | ((repeat (first | exact Sel.head | apply Sel.tail)); done))) | apply Ent.selNil | apply Ent.selEmp)); (first | done | fail))
          · rw [show decide (j = ps.length + 5) = decide ((ps.length : Int) + 2 + 3 ≤ D) from decide_eq_decide.2 (by rw [hjD]; omega)]
            first | ((first | refine XOA.wanted rfl rfl ?_ | refine XOA.wq rfl rfl ?_); refine XOA.rd rfl Rd.mv ?_) | refine XOA.unwanted rfl rfl rfl rfl ?_ | refine XOA.uq rfl rfl rfl ?_ | refine XOA.unwantedU rfl rfl rfl ?_
            first | ((first | refine XOA.wanted rfl rfl ?_ | refine XOA.wq rfl rfl ?_); refine XOA.rd rfl Rd.mv ?_) | refine XOA.unwanted rfl rfl rfl rfl ?_ | refine XOA.uq rfl rfl rfl ?_ | refine XOA.unwantedU rfl rfl rfl ?_
            first | ((first | refine XOA.wanted rfl rfl ?_ | refine XOA.wq rfl rfl ?_); refine XOA.rd rfl (Rd.lenSlice (tyrow rfl) rfl rfl) ?_) | refine XOA.unwanted rfl rfl rfl rfl ?_ | refine XOA.uq rfl rfl rfl ?_ | refine XOA.unwantedU rfl rfl rfl ?_
            first | ((first | refine XOA.wanted rfl rfl ?_ | refine XOA.wq rfl rfl ?_); refine XOA.rd rfl (by first | exact Rd.adi rfl rfl | exact Rd.add rfl rfl) ?_) | refine XOA.unwanted rfl rfl rfl rfl ?_ | refine XOA.uq rfl rfl rfl ?_ | refine XOA.unwantedU rfl rfl rfl ?_
            first | ((first | refine XOA.wanted rfl rfl ?_ | refine XOA.wq rfl rfl ?_); refine XOA.rd rfl (by first | exact Rd.adi rfl rfl | exact Rd.add rfl rfl) ?_) | refine XOA.unwanted rfl rfl rfl rfl ?_ | refine XOA.uq rfl rfl rfl ?_ | refine XOA.unwantedU rfl rfl rfl ?_
            first | ((first | refine XOA.wanted rfl rfl ?_ | refine XOA.wq rfl rfl ?_); refine XOA.rd rfl (Rd.geq rfl rfl) ?_) | refine XOA.unwanted rfl rfl rfl rfl ?_ | refine XOA.uq rfl rfl rfl ?_ | refine XOA.unwantedU rfl rfl rfl ?_
            first | ((first | refine XOA.wanted rfl rfl ?_ | refine XOA.wq rfl rfl ?_); refine XOA.rd rfl (by first | exact Rd.pT rfl | exact Rd.pF rfl | exact Rd.pP rfl) ?_) | refine XOA.unwanted rfl rfl rfl rfl ?_ | refine XOA.uq rfl rfl rfl ?_ | refine XOA.unwantedU rfl rfl rfl ?_
            refine XOA.nil ?_
            refine DA.thn_normal ?_
            refine ⟨(Keep.upd (Keep.upd (Keep.upd (Keep.upd (Keep.upd (Keep.upd (Keep.upd (Keep.refl _ _) rfl) rfl) rfl) rfl) rfl) rfl) rfl), (), _, (by (repeat (first | exact trivial | refine ⟨rfl, ?_⟩ | refine ⟨Eq.trans rfl (congrArg Value.bool hmat.symm), ?_⟩)); (first | done | fail)), ?_, ⟨rfl, rfl⟩⟩
            · exact (by (repeat (first | exact Ent.nil _ | (apply Ent.sel; focus (first | ((repeat (first | with_reducible exact Sel.head | apply Sel.tail)); done) | ((repeat (first | exact Sel.head | apply Sel.tail)); done))) | apply Ent.selNil | apply Ent.selEmp)); (first | done | fail))
        rintro - δ3 _ _ ⟨rfl, rfl⟩
        dsimp only [ovr, List.foldl]
        by_cases hj : j = ps.length + 5
        · rw [decide_eq_true hj, if_pos hj]
          subst hj
          obtain ⟨hG', hp'⟩ := commit_done hG hw8 hl14 hn
          have hp'' := page_new hn hp'
          first | ((first | refine XOA.wanted rfl rfl ?_ | refine XOA.wq rfl rfl ?_); refine XOA.rd rfl (Rd.neqb (tyrow rfl) rfl rfl rfl) ?_) | refine XOA.unwanted rfl rfl rfl rfl ?_ | refine XOA.uq rfl rfl rfl ?_ | refine XOA.unwantedU rfl rfl rfl ?_
          refine XOA.rd rfl (by first | exact Rd.pT rfl | exact Rd.pF rfl | exact Rd.pP rfl) ?_
          refine XOA.rd rfl Rd.mv ?_
          first | ((first | refine XOA.wanted rfl rfl ?_ | refine XOA.wq rfl rfl ?_); refine XOA.rd rfl Rd.mv ?_) | refine XOA.unwanted rfl rfl rfl rfl ?_ | refine XOA.uq rfl rfl rfl ?_ | refine XOA.unwantedU rfl rfl rfl ?_
          first | ((first | refine XOA.wanted rfl rfl ?_ | refine XOA.wq rfl rfl ?_); refine XOA.rd rfl Rd.mv ?_) | refine XOA.unwanted rfl rfl rfl rfl ?_ | refine XOA.uq rfl rfl rfl ?_ | refine XOA.unwantedU rfl rfl rfl ?_
          first | ((first | refine XOA.wanted rfl rfl ?_ | refine XOA.wq rfl rfl ?_); refine XOA.rd rfl Rd.mv ?_) | refine XOA.unwanted rfl rfl rfl rfl ?_ | refine XOA.uq rfl rfl rfl ?_ | refine XOA.unwantedU rfl rfl rfl ?_
          first | refine XOA.wanted rfl rfl ?_ | refine XOA.wq rfl rfl ?_
          refine XOA.wr0 rfl (WrA.cE (gen_a σ4 b0 db (nextS s ps)) rfl) ?_
          rintro _ _ _ ⟨_, ⟨rfl, rfl, rfl⟩, rfl⟩
          refine XOA.cl ?_
          rw [show (nextS s ps).gen = s.gen + 1 from rfl]
          have kE : ¬ (s.gen + 1 ≠ s.gen + 1) := fun h => h rfl
          first | ((first | refine XOA.wanted rfl rfl ?_ | refine XOA.wq rfl rfl ?_); refine XOA.rd rfl Rd.mv ?_) | refine XOA.unwanted rfl rfl rfl rfl ?_ | refine XOA.uq rfl rfl rfl ?_ | refine XOA.unwantedU rfl rfl rfl ?_
          first | ((first | refine XOA.wanted rfl rfl ?_ | refine XOA.wq rfl rfl ?_); refine XOA.rd rfl (by first | exact Rd.adi rfl rfl | exact Rd.add rfl rfl) ?_) | refine XOA.unwanted rfl rfl rfl rfl ?_ | refine XOA.uq rfl rfl rfl ?_ | refine XOA.unwantedU rfl rfl rfl ?_
          first | ((first | refine XOA.wanted rfl rfl ?_ | refine XOA.wq rfl rfl ?_); refine XOA.rd rfl (Rd.neq rfl rfl) ?_) | refine XOA.unwanted rfl rfl rfl rfl ?_ | refine XOA.uq rfl rfl rfl ?_ | refine XOA.unwantedU rfl rfl rfl ?_
          first | ((first | refine XOA.wanted rfl rfl ?_ | refine XOA.wq rfl rfl ?_); refine XOA.rd rfl (by first | exact Rd.pT rfl | exact Rd.pF rfl | exact Rd.pP rfl) ?_) | refine XOA.unwanted rfl rfl rfl rfl ?_ | refine XOA.uq rfl rfl rfl ?_ | refine XOA.unwantedU rfl rfl rfl ?_
          refine XOA.rd rfl (by first | exact Rd.pT rfl | exact Rd.pF rfl | exact Rd.pP rfl) ?_
          refine XOA.nil ?_
          refine DA.thn_normal ?_
          refine XA.condF rfl (decide_eq_false kE) ?_
          refine XA.skip ?_
          refine DA.thn_normal ?_
          refine XA.seq ?_
          refine XA.seq ?_
          refine XA.region ?_
          refine XOA.rd rfl Rd.mv ?_
          refine XOA.rd rfl (by first | exact Rd.notp rfl | exact Rd.not rfl) ?_
          refine XOA.nil ?_
          refine DA.thn_normal ?_
          refine XA.condF rfl rfl ?_
          refine XA.skip ?_
          refine DA.thn_normal ?_
          refine XA.seq ?_
          refine XA.seq ?_
          refine XA.region ?_
          refine XOA.rd rfl Rd.asg ?_
          refine XOA.nil ?_
          refine DA.thn_normal ?_
          refine XA.block ?_
          obtain ⟨s', hs'⟩ : ∃ s', s' = nextS s ps := ⟨_, rfl⟩
          obtain ⟨d', hd'⟩ : ∃ d', d' = comD d s ps (ps.length + 5) := ⟨_, rfl⟩
          rw [← hs', ← hd'] at hG' hp'' ⊢
          have hps4 := hps3.mono hs4 (fun _ _ h => h)
          refine XA.gen [(1, _), (6, _), (8, _), (10, _), (15, _)] ⟨(by with_reducible (conv => lhs; whnf)), (by with_reducible (conv => lhs; whnf)), (by with_reducible (conv => lhs; whnf)), (by with_reducible (conv => lhs; whnf)), (by with_reducible (conv => lhs; whnf)), trivial⟩ (fun δ => ?_)
          dsimp only [List.foldl]
          refine XA.loop [(6, 6), (15, 17), (109, 138)] (fun q : Nat => [(15, i64 q)]) (fun q σ' Γ' => σ4 = σ' ∧ q ≤ 14 ∧ Γ' = [Store b0 db s', Disk db d', blk g10 (ints P.flatten) 48]) (fun q => 14 - q) 0 (by exact ⟨rfl, trivial⟩) (Δ0 := _) ?_ (⟨rfl, Nat.zero_le _, rfl⟩) ?_
          · exact (by (repeat (first | exact Ent.nil _ | (apply Ent.sel; focus (first | ((repeat (first | with_reducible exact Sel.head | apply Sel.tail)); done) | ((repeat (first | exact Sel.head | apply Sel.tail)); done))) | apply Ent.selNil | apply Ent.selEmp)); (first | done | fail))
          rintro q δ4 _ _ ⟨rfl, hq, rfl⟩
          dsimp only [ovr, List.foldl]
          refine XA.seq ?_
          refine XA.seq ?_
          refine XA.region ?_
          refine XOA.rd rfl Rd.mv ?_
          refine XOA.rd rfl (Rd.lss rfl rfl) ?_
          refine XOA.nil ?_
          refine DA.thn_normal ?_
          refine XA.condp rfl (fun hq14 => ?_) (fun hq14 => ?_)
          · have hq14 : q < 14 := by omega
            obtain ⟨W, hW⟩ : ∃ W, W = P.getD q DiskS.zeros := ⟨_, rfl⟩
            have hat := pgs_at hP.1 hq14
            have hW8 := pgs_row8 hP.1 hq14
            have hWp := hP.2 q hq14
            rw [← hW] at hat hW8 hWp
            have hone : ones (ints W) := ones_ints _
            have hspl2 : splice ty32.zero 0 (ints W) = ints W := splice_all (by rw [ints_len, hW8]; decide)
            refine XA.skip ?_
            refine DA.thn_normal ?_
            refine XA.seq ?_
            refine XA.block ?_
            refine XA.seq ?_
            refine XA.region ?_
            refine XOA.rd rfl Rd.mv ?_
            refine XOA.rd rfl (Rd.ixA rfl rfl) ?_
            refine XOA.rd rfl (Rd.ldA rfl) ?_
            refine XOA.wr0 rfl (WrA.alloc (tyrow rfl)) ?_
            rintro _ _ _ ⟨g16, rfl, rfl, rfl⟩
            refine XOA.wr0 rfl (WrA.st (tyrow rfl) rfl) ?_
            rintro _ _ _ ⟨rfl, rfl, rfl⟩
            refine XOA.nil ?_
            refine DA.thn_normal ?_
            refine XA.seq ?_
            refine XA.seq ?_
            refine XA.region ?_
            refine XOA.rd rfl Rd.asg ?_
            refine XOA.nil ?_
            refine DA.thn_normal ?_
            refine XA.block ?_
            clear hspl2
            refine XA.loop [(17, 17), (116, 133)] (fun j : Nat => [(17, i64 j)]) (fun j σ' Γ' => σ4 = σ' ∧ j ≤ ps.length ∧ Γ' = [Store b0 db s', Disk db d', blk g10 (ints P.flatten) 48, blk g16 (ints (wTo W ps j q)) 32]) (fun j => ps.length - j) 0 (by exact ⟨rfl, trivial⟩) (Δ0 := _) ?_ (⟨rfl, Nat.zero_le _, rfl⟩) ?_
            · exact (by (repeat (first | exact Ent.nil _ | (apply Ent.sel; focus (first | ((repeat (first | with_reducible exact Sel.head | apply Sel.tail)); done) | ((repeat (first | exact Sel.head | apply Sel.tail)); done))) | apply Ent.selNil | apply Ent.selEmp)); (first | done | fail))
            rintro j δ5 _ _ ⟨rfl, hj, rfl⟩
            dsimp only [ovr, List.foldl]
            refine XA.seq ?_
            refine XA.seq ?_
            refine XA.region ?_
            refine XOA.rd rfl Rd.mv ?_
            refine XOA.rd rfl Rd.mv ?_
            refine XOA.rd rfl (Rd.lenSlice (tyrow rfl) rfl rfl) ?_
            refine XOA.rd rfl (Rd.lss rfl rfl) ?_
            refine XOA.nil ?_
            refine DA.thn_normal ?_
            refine XA.condp rfl (fun hjl => ?_) (fun hjl => ?_)
            · have hjl : j < ps.length := by omega
              obtain ⟨y, hy⟩ : ∃ y, ps[j]? = some y := ⟨_, List.getElem?_eq_getElem hjl⟩
              obtain ⟨g', o', row', rfl, ⟨rfl, hy8⟩, hrl', hrow'⟩ := hps4.at hy
              have q0 : PRow σ4 g' (o' + j * 9) [i64 y.n] := hrow'.sub (j := 0) rfl
              have q1 : PRow σ4 g' (o' + j * 9 + 1) (ints y.w) := hrow'.sub (j := 1) (take_eq (us := ints y.w) rfl)
              have e1 := wTo_succ (W := W) hy (q : Int)
              have hsw : ones (ints y.w) := ones_ints _
              obtain ⟨V, hV⟩ : ∃ V, V = wTo W ps j q := ⟨_, rfl⟩
              have hV8 : V.length = 8 := by rw [hV]; exact wTo_len hW8 hw8 q j hj
              have hspl : splice (ints V) 0 (ints y.w) = ints y.w := splice_all (by simp [hV8, hy8])
              rw [← hV]
              refine XA.skip ?_
              refine DA.thn_normal ?_
              refine XA.seq ?_
              refine XA.block ?_
              refine XA.seq ?_
              refine XA.region ?_
              refine XOA.rd rfl Rd.mv ?_
              refine XOA.rd rfl Rd.mv ?_
              refine XOA.rd rfl (Rd.ixS rfl rfl) ?_
              refine XOA.rd rfl (Rd.fA rfl) ?_
              refine XOA.rd rfl (Rd.ldC rfl (tyrow rfl) rfl) ?_
              refine XOA.rd rfl Rd.mv ?_
              refine XOA.rd rfl (Rd.eql rfl rfl) ?_
              refine XOA.nil ?_
              refine DA.thn_normal ?_
              refine XA.condp rfl (fun he => ?_) (fun he => ?_)
              · rw [if_pos he] at e1
                refine XA.region ?_
                refine XOA.rd rfl Rd.mv ?_
                refine XOA.rd rfl Rd.mv ?_
                refine XOA.rd rfl (Rd.ixS rfl rfl) ?_
                refine XOA.rd rfl (Rd.fA rfl) ?_
                refine XOA.rd rfl (Rd.ldA rfl) ?_
                refine XOA.wr0 rfl (WrA.st (tyrow rfl) rfl) ?_
                rintro _ _ _ ⟨rfl, rfl, rfl⟩
                refine XOA.nil ?_
                refine DA.inb_normal ?_
                refine DA.thn_normal ?_
                refine XA.region ?_
                refine XOA.rd rfl Rd.mv ?_
                refine XOA.rd rfl (by first | exact Rd.adi rfl rfl | exact Rd.add rfl rfl) ?_
                refine XOA.rd rfl Rd.asg ?_
                refine XOA.nil ?_
                refine DA.thn_normal ?_
                refine ⟨(Keep.upd (Keep.upd (Keep.upd (Keep.updN (Keep.upd (Keep.upd (Keep.upd (Keep.upd (Keep.upd (Keep.upd (Keep.upd (Keep.upd (Keep.upd (Keep.upd (Keep.upd (Keep.upd (Keep.upd (Keep.upd (Keep.upd (Keep.upd (Keep.upd (Keep.hav (Keep.hav (Keep.refl _ _) rfl) rfl) rfl) rfl) rfl) rfl) rfl) rfl) rfl) rfl) rfl) rfl) rfl) rfl) rfl) rfl) rfl) rfl) rfl)) rfl) rfl) rfl), j + 1, _, (by (repeat (first | exact trivial | refine ⟨rfl, ?_⟩ | refine ⟨Eq.trans rfl (congrArg Value.bool hmat.symm), ?_⟩)); (first | done | fail)), ?_, ⟨rfl, hjl, rfl⟩, (by omega)⟩
                · rw [e1]; exact (by (repeat (first | exact Ent.nil _ | (apply Ent.sel; focus (first | ((repeat (first | with_reducible exact Sel.head | apply Sel.tail)); done) | ((repeat (first | exact Sel.head | apply Sel.tail)); done))) | apply Ent.selNil | apply Ent.selEmp)); (first | done | fail))
              rw [if_neg he] at e1
              refine XA.skip ?_
              refine DA.inb_normal ?_
              refine DA.thn_normal ?_
              refine XA.region ?_
              refine XOA.rd rfl Rd.mv ?_
              refine XOA.rd rfl (by first | exact Rd.adi rfl rfl | exact Rd.add rfl rfl) ?_
              refine XOA.rd rfl Rd.asg ?_
              refine XOA.nil ?_
              refine DA.thn_normal ?_
              refine ⟨(Keep.upd (Keep.upd (Keep.upd (Keep.upd (Keep.upd (Keep.upd (Keep.upd (Keep.upd (Keep.upd (Keep.upd (Keep.upd (Keep.upd (Keep.upd (Keep.upd (Keep.upd (Keep.hav (Keep.hav (Keep.refl _ _) rfl) rfl) rfl) rfl) rfl) rfl) rfl) rfl) rfl) rfl) rfl) rfl) rfl) rfl) rfl) rfl) rfl), j + 1, _, (by (repeat (first | exact trivial | refine ⟨rfl, ?_⟩ | refine ⟨Eq.trans rfl (congrArg Value.bool hmat.symm), ?_⟩)); (first | done | fail)), ?_, ⟨rfl, hjl, rfl⟩, (by omega)⟩
              · rw [e1, ← hV]; exact (by (repeat (first | exact Ent.nil _ | (apply Ent.sel; focus (first | ((repeat (first | with_reducible exact Sel.head | apply Sel.tail)); done) | ((repeat (first | exact Sel.head | apply Sel.tail)); done))) | apply Ent.selNil | apply Ent.selEmp)); (first | done | fail))
            obtain rfl : j = ps.length := by omega
            obtain ⟨V, hV⟩ : ∃ V, V = wTo W ps ps.length q := ⟨_, rfl⟩
            have hV8 : V.length = 8 := by rw [hV]; exact wTo_len hW8 hw8 q _ (Nat.le_refl _)
            rw [← hV]
            refine XA.exit ?_
            refine DA.thn_exit ?_
            refine DA.thn_exit ?_
            refine DA.inb_same ?_
            refine DA.thn_normal ?_
            refine XA.seq ?_
            refine XA.draw (by kernel_rfl) _ _ [] [(0, .pu), (1, .pu), (3, .rd), (2, .wr), (4, .pu)] (by kernel_rfl) (PH.sub.refl _) (Ent.sel (R := blk g16 _ _) (by ((repeat (first | with_reducible exact Sel.head | apply Sel.tail)); (first | done | fail))) (Ent.nil _)) ?_
            refine XPA.pu rfl rfl Gd.free Rd.mv ?_
            refine XPA.pu rfl rfl Gd.free Rd.mv ?_
            refine XPA.rd rfl rfl Gd.free (Rd.ldA rfl) ?_
            refine XPA.wr0 rfl rfl Gd.free (WrA.cE (sread_a σ4 b0 db s' d' q hG'.dok hG'.wlen') rfl) ?_
            rintro _ _ _ ⟨_, ⟨rfl, rfl, rfl⟩, rfl⟩
            refine stays (XPA.cl ?_)
            rw [hp'' q, ← hWp, ← hV]
            have kV : ¬ (V ≠ V) := fun h => h rfl
            refine XPA.pu rfl rfl Gd.free (Rd.neqWords (tyrow rfl) rfl (tyrow rfl) rfl rfl (by kernel_rfl) rfl rfl (by first | assumption | rfl | (simp; (first | done | fail)) | (simp [*]; (first | done | fail))) (by first | assumption | rfl | (simp; (first | done | fail)) | (simp [*]; (first | done | fail)))) ?_
            refine XPA.nil ?_
            refine DA.thn_normal ?_
            refine XA.condF rfl (decide_eq_false kV) ?_
            refine XA.skip ?_
            refine DA.inb_normal ?_
            refine DA.thn_normal ?_
            refine XA.region ?_
            refine XOA.rd rfl Rd.mv ?_
            refine XOA.rd rfl (by first | exact Rd.adi rfl rfl | exact Rd.add rfl rfl) ?_
            refine XOA.rd rfl Rd.asg ?_
            refine XOA.nil ?_
            refine DA.thn_normal ?_
            refine ⟨(Keep.upd (Keep.upd (Keep.upd (Keep.upd (Keep.updO (Keep.upd (Keep.upd (Keep.upd (Keep.upd (Keep.upd (Keep.upd (Keep.upd (Keep.upd (Keep.hav (Keep.hav (Keep.upd (Keep.updN (Keep.updO (Keep.upd (Keep.upd (Keep.upd (Keep.upd (Keep.upd (Keep.upd (Keep.hav (Keep.hav (Keep.hav (Keep.refl _ _) rfl) rfl) rfl) rfl) rfl) rfl) rfl) rfl) rfl) rfl)) rfl) rfl) rfl) rfl) rfl) rfl) rfl) rfl) rfl) rfl) rfl) rfl) rfl) rfl) rfl) rfl), q + 1, _, (by (repeat (first | exact trivial | refine ⟨rfl, ?_⟩ | refine ⟨Eq.trans rfl (congrArg Value.bool hmat.symm), ?_⟩)); (first | done | fail)), ?_, ⟨rfl, hq14, rfl⟩, (by omega)⟩
            · exact (by (repeat (first | exact Ent.nil _ | (apply Ent.sel; focus (first | ((repeat (first | with_reducible exact Sel.head | apply Sel.tail)); done) | ((repeat (first | exact Sel.head | apply Sel.tail)); done))) | apply Ent.selNil | apply Ent.selEmp)); (first | done | fail))
          refine XA.exit ?_
          refine DA.thn_exit ?_
          refine DA.thn_exit ?_
          refine DA.inb_same ?_
          refine DA.thn_normal ?_
          refine XA.seq ?_
          refine XA.region ?_
          refine XOA.rd rfl Rd.asg ?_
          refine XOA.nil ?_
          refine DA.thn_normal ?_
          refine XA.ret ?_
          exact bodyA.ret (ResA.one rfl rfl) (Ent.nil _) ⟨rfl, hs03.trans hs4⟩
        · rw [decide_eq_false hj, if_neg hj]
          have hG' := commit_none hG hw8 hl14 hn (j := j) (by omega)
          have hcw := comD_wait hG hl14 j
          first | ((first | refine XOA.wanted rfl rfl ?_ | refine XOA.wq rfl rfl ?_); refine XOA.rd rfl (Rd.neqb (tyrow rfl) rfl rfl rfl) ?_) | refine XOA.unwanted rfl rfl rfl rfl ?_ | refine XOA.uq rfl rfl rfl ?_ | refine XOA.unwantedU rfl rfl rfl ?_
          refine XOA.rd rfl (by first | exact Rd.pT rfl | exact Rd.pF rfl | exact Rd.pP rfl) ?_
          refine XOA.rd rfl Rd.mv ?_
          first | ((first | refine XOA.wanted rfl rfl ?_ | refine XOA.wq rfl rfl ?_); refine XOA.rd rfl Rd.mv ?_) | refine XOA.unwanted rfl rfl rfl rfl ?_ | refine XOA.uq rfl rfl rfl ?_ | refine XOA.unwantedU rfl rfl rfl ?_
          first | ((first | refine XOA.wanted rfl rfl ?_ | refine XOA.wq rfl rfl ?_); refine XOA.rd rfl Rd.mv ?_) | refine XOA.unwanted rfl rfl rfl rfl ?_ | refine XOA.uq rfl rfl rfl ?_ | refine XOA.unwantedU rfl rfl rfl ?_
          first | ((first | refine XOA.wanted rfl rfl ?_ | refine XOA.wq rfl rfl ?_); refine XOA.rd rfl Rd.mv ?_) | refine XOA.unwanted rfl rfl rfl rfl ?_ | refine XOA.uq rfl rfl rfl ?_ | refine XOA.unwantedU rfl rfl rfl ?_
          first | refine XOA.unwanted rfl rfl rfl rfl ?_ | refine XOA.uq rfl rfl rfl ?_ | refine XOA.unwantedU rfl rfl rfl ?_
          first | ((first | refine XOA.wanted rfl rfl ?_ | refine XOA.wq rfl rfl ?_); refine XOA.rd rfl Rd.mv ?_) | refine XOA.unwanted rfl rfl rfl rfl ?_ | refine XOA.uq rfl rfl rfl ?_ | refine XOA.unwantedU rfl rfl rfl ?_
          first | ((first | refine XOA.wanted rfl rfl ?_ | refine XOA.wq rfl rfl ?_); refine XOA.rd rfl (by first | exact Rd.adi rfl rfl | exact Rd.add rfl rfl) ?_) | refine XOA.unwanted rfl rfl rfl rfl ?_ | refine XOA.uq rfl rfl rfl ?_ | refine XOA.unwantedU rfl rfl rfl ?_
          first | ((first | refine XOA.wanted rfl rfl ?_ | refine XOA.wq rfl rfl ?_); refine XOA.rd rfl (Rd.neq rfl rfl) ?_) | refine XOA.unwanted rfl rfl rfl rfl ?_ | refine XOA.uq rfl rfl rfl ?_ | refine XOA.unwantedU rfl rfl rfl ?_
          first | ((first | refine XOA.wanted rfl rfl ?_ | refine XOA.wq rfl rfl ?_); refine XOA.rd rfl (by first | exact Rd.pT rfl | exact Rd.pF rfl | exact Rd.pP rfl) ?_) | refine XOA.unwanted rfl rfl rfl rfl ?_ | refine XOA.uq rfl rfl rfl ?_ | refine XOA.unwantedU rfl rfl rfl ?_
          refine XOA.rd rfl (by first | exact Rd.pT rfl | exact Rd.pF rfl | exact Rd.pP rfl) ?_
          refine XOA.nil ?_
          refine DA.thn_normal ?_
          refine XA.condF rfl rfl ?_
          refine XA.skip ?_
          refine DA.thn_normal ?_
          refine XA.seq ?_
          refine XA.seq ?_
          refine XA.region ?_
          refine XOA.rd rfl Rd.mv ?_
          refine XOA.rd rfl (by first | exact Rd.notp rfl | exact Rd.not rfl) ?_
          refine XOA.nil ?_
          refine DA.thn_normal ?_
          refine XA.condT rfl rfl ?_
          refine XA.seq ?_
          refine XA.region ?_
          refine XOA.rd rfl Rd.mv ?_
          refine XOA.wr0 rfl (WrA.cE (crash_a σ4 db _ 0 hcw (by decide) (by decide)) rfl) ?_
          rintro _ _ _ ⟨_, ⟨rfl, rfl, rfl⟩, rfl⟩
          refine XOA.cl ?_
          refine XOA.nil ?_
          refine DA.thn_normal ?_
          refine XA.seq ?_
          refine XA.region ?_
          refine XOA.rd rfl Rd.mv ?_
          refine XOA.wr0 rfl (WrA.cE (open_a σ4 db _ hG'.dok hG'.wlen') rfl) ?_
          rintro _ _ _ ⟨_, ⟨b3, rfl, rfl, rfl⟩, rfl⟩
          refine XOA.cl ?_
          rw [hG'.open]
          refine XOA.wr0 rfl (WrA.cE (gen_a σ4 b3 db s) rfl) ?_
          rintro _ _ _ ⟨_, ⟨rfl, rfl, rfl⟩, rfl⟩
          refine XOA.cl ?_
          refine XOA.rd rfl Rd.mv ?_
          refine XOA.rd rfl (Rd.eql rfl rfl) ?_
          refine XOA.rd rfl Rd.asg ?_
          refine XOA.nil ?_
          refine DA.thn_normal ?_
          refine XA.ret ?_
          refine DA.thn_ret ?_
          exact bodyA.ret (ResA.one rfl rfl) (Ent.nil _) ⟨congrArg Value.bool (decide_eq_true rfl), hs03.trans hs4⟩
      · 
        first | ((first | refine XOA.wanted rfl rfl ?_ | refine XOA.wq rfl rfl ?_); refine XOA.rd rfl (Rd.neq rfl rfl) ?_) | refine XOA.unwanted rfl rfl rfl rfl ?_ | refine XOA.uq rfl rfl rfl ?_ | refine XOA.unwantedU rfl rfl rfl ?_
        refine XOA.rd rfl (by first | exact Rd.pT rfl | exact Rd.pF rfl | exact Rd.pP rfl) ?_
        refine XOA.nil ?_
        refine DA.thn_normal ?_
        refine XA.condT rfl (decide_eq_true hc) ?_
        refine XA.seq ?_
        refine XA.region ?_
        refine XOA.rd rfl Rd.asg ?_
        refine XOA.nil ?_
        refine DA.thn_normal ?_
        refine XA.ret ?_
        refine DA.thn_ret ?_
        exact bodyA.ret (ResA.one rfl rfl) (Ent.nil _) ⟨rfl, hs02⟩
end Go.Proofs.Ytplobdiknobhoaa
