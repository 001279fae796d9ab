/- The law StoreLast: what its function does. -/
import Derived.Test.YtplobdiknobhoaaSd
namespace Go.Proofs.Ytplobdiknobhoaa
open Go X
set_option maxHeartbeats 2000000
/-- A page's words, behind the first k of a list. -/
def wTo (W : List Int) (l : List PageS) : Nat → Int → List Int
  | 0, _ => W
  | k + 1, p => if (l.getD k ⟨0, []⟩).n = p then (l.getD k ⟨0, []⟩).w else wTo W l k p
theorem wTo_succ {W : List Int} {l : List PageS} {k : Nat} {x : PageS} (h : l[k]? = some x) (p : Int) : wTo W l (k + 1) p = if x.n = p then x.w else wTo W l k p := by
  have e : l.getD k ⟨0, []⟩ = x := by rw [List.getD_eq_getElem?_getD, h]; rfl
  rw [wTo, e]
theorem wTo_len {W : List Int} {l : List PageS} (hW : W.length = 8) (hw : ∀ x ∈ l, x.w.length = 8) (p : Int) : ∀ k, k ≤ l.length → (wTo W l k p).length = 8
  | 0, _ => hW
  | k + 1, h => by
    rw [wTo_succ (List.getElem?_eq_getElem (by omega : k < l.length)) p]
    split
    · exact hw _ (List.getElem_mem _)
    · exact wTo_len hW hw p k (by omega)
theorem wTo_new {f : Nat → List Int} {l : List PageS} (hn : ∀ x ∈ l, 0 ≤ x.n ∧ x.n < 14) (p : Nat) : ∀ k, k ≤ l.length → wTo (f p) l k p = newTo f l k p
  | 0, _ => rfl
  | k + 1, h => by
    have ih := wTo_new (f := f) hn p k (by omega)
    have hx := hn (l.getD k ⟨0, []⟩) (by rw [List.getD_eq_getElem?_getD, List.getElem?_eq_getElem (by omega : k < l.length)]; exact List.getElem_mem _)
    show (if _ then _ else _) = (if _ then _ else _)
    rw [ih]
    by_cases q : (l.getD k ⟨0, []⟩).n = p
    · rw [if_pos q, if_pos (by omega)]
    · rw [if_neg q, if_neg (by omega)]
theorem wTo_out {W : List Int} {l : List PageS} (hn : ∀ x ∈ l, 0 ≤ x.n ∧ x.n < 14) {p : Int} (hp : ¬ (0 ≤ p ∧ p < 14)) : ∀ k, k ≤ l.length → wTo W l k p = W
  | 0, _ => rfl
  | k + 1, h => by
    have hx := hn (l.getD k ⟨0, []⟩) (by rw [List.getD_eq_getElem?_getD, List.getElem?_eq_getElem (by omega : k < l.length)]; exact List.getElem_mem _)
    rw [wTo, if_neg (by rintro rfl; exact hp hx), wTo_out hn hp k (by omega)]
theorem pageW_out {d : DiskS} {s : StS} {p : Int} (hp : ¬ (0 ≤ p ∧ p < 14)) : pageW d s p = DiskS.zeros := by rw [pageW, if_neg (fun q => hp ⟨q.1, q.2.1⟩)]
theorem pageW_len {d : DiskS} (hd : d.ok) (s : StS) (p : Int) : (pageW d s p).length = 8 := by
  unfold pageW; split
  · exact len8 hd _
  · rfl
theorem page_all {d d' : DiskS} {s s' : StS} (h : ∀ p : Nat, p < 14 → pageW d' s' p = pageW d s p) (p : Int) : pageW d' s' p = pageW d s p := by
  by_cases hp : 0 ≤ p ∧ p < 14
  · obtain ⟨n, rfl⟩ := Int.eq_ofNat_of_zero_le hp.1
    exact h n (by omega)
  · rw [pageW_out hp, pageW_out hp]
theorem page_new {d d' : DiskS} {s s' : StS} {l : List PageS} (hn : ∀ x ∈ l, 0 ≤ x.n ∧ x.n < 14) (h : ∀ p : Nat, p < 14 → pageW d' s' p = newTo (fun p => pageW d s p) l l.length p) (p : Int) : pageW d' s' p = wTo (pageW d s p) l l.length p := by
  by_cases hp : 0 ≤ p ∧ p < 14
  · obtain ⟨n, rfl⟩ := Int.eq_ofNat_of_zero_le hp.1
    rw [h n (by omega)]
    exact (wTo_new (f := fun p => pageW d s p) hn n l.length (Nat.le_refl _)).symm
  · rw [pageW_out hp, pageW_out hp, wTo_out hn hp _ (Nat.le_refl _)]
theorem page0 (p : Int) : pageW DiskS.new s0 p = DiskS.zeros := by
  by_cases hp : 0 ≤ p ∧ p < 14
  · obtain ⟨n, rfl⟩ := Int.eq_ofNat_of_zero_le hp.1
    rw [(show Good DiskS.new s0 from Good.new).page (by omega), if_pos]
    simp only [s0, zero14, List.getD_eq_getElem?_getD, List.getElem?_replicate]; split <;> rfl
  · exact pageW_out hp
/-- A commit of all deeds. -/
theorem commit_all (σ : PH) (b db : Nat) (s : StS) (d : DiskS) (sl : Value) (l : List PageS) (hl : PSl 9 rPage σ sl l) (hG : Good d s) (hg1 : s.gen < 4611686018427387904) :
    CallsA Try.prog 33 #[ptr b, sl, i64 (-1)] σ [Store b db s, Disk db d]
      (RetA fun v σ' Γ' => ∃ (d' : DiskS) (s' : StS), v = .tuple #[.bool (decide (checkS l = 0)), i64 (checkS l)] ∧ Good d' s' ∧ s'.gen = (if checkS l = 0 then s.gen + 1 else s.gen) ∧ (∀ p : Int, pageW d' s' p = if checkS l = 0 then wTo (pageW d s p) l l.length p else pageW d s p) ∧ σ.sub σ' ∧ Γ' = [Store b db s', Disk db d']) := by
  by_cases hc : checkS l = 0
  · obtain ⟨hn, -, hl14⟩ := check_zero hc
    refine (commit_yes σ b db s d sl l (-1) hl hc hG.sok hG.gen hg1 ⟨by decide, by decide⟩ hG.wlen).ret ?_
    rintro v σ' Γ' ⟨j, hj1, hj2, hj3, rfl, hs, rfl⟩
    obtain rfl : j = l.length + 5 := by
      rcases Nat.lt_or_ge j (l.length + 5) with h | h
      · have := hj2 h; omega
      · omega
    obtain ⟨h1, h2⟩ := commit_done hG (psl_w8 hl) hl14 hn
    refine ⟨comD d s l (l.length + 5), nextS s l, by rw [decide_eq_true rfl, decide_eq_true hc, hc], h1, by rw [if_pos hc]; rfl, fun p => ?_, hs, by rw [if_pos rfl]⟩
    rw [if_pos hc]
    exact page_new hn h2 p
  · refine CallsA.mono ((commit_no σ b sl l (-1) hl hc).frame [Store b db s, Disk db d] (Ent.refl _)) ?_
    rintro e σ' Γ' ⟨Γ1, h, e1⟩
    cases e <;> first | exact h | skip
    obtain ⟨rfl, rfl, rfl⟩ := h
    subst e1
    exact ⟨d, s, by rw [decide_eq_false hc], hG, by rw [if_neg hc], fun p => by rw [if_neg hc], .refl _, rfl⟩
theorem slast_law (σ : PH) (sl : Value) (l : List Stp) (page : Int) (hl : PSl 4 rStp σ sl l) : CallsA Try.prog 8 #[sl, i64 page] σ [] (RetA fun r σ' _ => r = .bool true ∧ σ.sub σ') := by
  obtain ⟨pv, cv, rfl, hvl, hvm⟩ := hl.shape
  refine enterA2 Try.func8 rfl rfl rfl ?_
  refine XA.seq ?_
  refine XA.region ?_
  refine XOA.rd rfl Rd.asg ?_
  refine XOA.nil ?_
  refine DA.thn_normal ?_
  refine XA.seq ?_
  refine XA.seq ?_
  refine XA.region ?_
  refine XOA.wr0 rfl (WrA.cE (sbegun_a σ) rfl) ?_
  rintro _ σ1 _ ⟨_, ⟨rfl, hs1, rfl⟩, rfl⟩
  refine XOA.cl ?_
  have hl1 := hl.mono hs1 (fun cs x ⟨s, e, a, b, c⟩ => ⟨s, e, a, b.mono hs1 (fun _ _ h => h), c⟩)
  refine XOA.rd rfl (by first | exact Rd.notp rfl | exact Rd.not rfl) ?_
  refine XOA.nil ?_
  refine DA.thn_normal ?_
  refine XA.condF rfl rfl ?_
  refine XA.skip ?_
  refine DA.thn_normal ?_
  refine XA.seq ?_
  refine XA.seq ?_
  refine XA.region ?_
  refine XOA.rd rfl Rd.mv ?_
  refine XOA.wr0 rfl (WrA.cE (great_a σ1 _ l hl1) rfl) ?_
  rintro _ _ _ ⟨_, ⟨b, rfl, hfew, rfl, rfl⟩, rfl⟩
  refine XOA.cl ?_
  cases b with
  | true =>
    refine XOA.nil ?_
    refine DA.thn_normal ?_
    refine XA.condT rfl rfl ?_
    refine XA.seq ?_
    refine XA.region ?_
    refine XOA.rd rfl Rd.asg ?_
    refine XOA.nil ?_
    refine DA.thn_normal ?_
    refine XA.ret ?_
    refine DA.thn_ret ?_
    exact bodyA.ret (ResA.one rfl rfl) (Ent.nil _) ⟨rfl, hs1⟩
  | false =>
    obtain ⟨h60, h30⟩ := hfew rfl
    refine XOA.nil ?_
    refine DA.thn_normal ?_
    refine XA.condF rfl rfl ?_
    refine XA.skip ?_
    refine DA.thn_normal ?_
    refine XA.seq ?_
    refine XA.region ?_
    refine XOA.wr0 rfl (WrA.cE (new_a σ1) rfl) ?_
    rintro _ _ _ ⟨_, ⟨db, rfl, rfl, rfl⟩, rfl⟩
    refine XOA.cl ?_
    refine XOA.rd rfl Rd.asg ?_
    refine XOA.nil ?_
    refine DA.thn_normal ?_
    refine XA.seq ?_
    refine XA.region ?_
    refine XOA.rd rfl Rd.mv ?_
    refine XOA.wr0 rfl (WrA.cE (open_a σ1 db DiskS.new Good.new.dok Good.new.wlen') rfl) ?_
    rintro _ _ _ ⟨_, ⟨b0, rfl, rfl, rfl⟩, rfl⟩
    refine XOA.cl ?_
    rw [show openS DiskS.new = s0 from Good.new.open]
    refine XOA.rd rfl Rd.asg ?_
    refine XOA.nil ?_
    refine DA.thn_normal ?_
    refine XA.seq ?_
    refine XA.region ?_
    refine XOA.rd rfl (Rd.blA (fun _ _ => tyrow) rfl rfl rfl) ?_
    refine XOA.wr0 rfl (WrA.alloc (tyrow rfl)) ?_
    rintro _ _ _ ⟨g7, rfl, rfl, rfl⟩
    refine XOA.wr0 rfl (WrA.st (tyrow rfl) rfl) ?_
    rintro _ _ _ ⟨rfl, rfl, rfl⟩
    refine XOA.rd rfl Rd.asg ?_
    refine XOA.nil ?_
    refine DA.thn_normal ?_
    refine XA.seq ?_
    refine XA.seq ?_
    refine XA.region ?_
    refine XOA.rd rfl Rd.asg ?_
    refine XOA.nil ?_
    refine DA.thn_normal ?_
    refine XA.block ?_
    refine XA.gen [(0, _), (1, _), (4, _), (5, _), (6, _), (7, _), (8, _), (9, _)] ⟨(by with_reducible (conv => lhs; whnf)), (by with_reducible (conv => lhs; whnf)), (by with_reducible (conv => lhs; whnf)), (by with_reducible (conv => lhs; whnf)), (by with_reducible (conv => lhs; whnf)), (by with_reducible (conv => lhs; whnf)), (by with_reducible (conv => lhs; whnf)), (by with_reducible (conv => lhs; whnf)), trivial⟩ (fun δ => ?_)
    dsimp only [List.foldl]
    refine XA.loop [(4, 4), (8, 12), (22, 75)] (fun q : Nat × Nat => [(9, i64 q.1), (8, i64 q.2)]) (fun q σ' Γ' => σ1.sub σ' ∧ q.1 ≤ l.length ∧ ∃ (d : DiskS) (s : StS), Good d s ∧ s.gen = q.2 ∧ q.2 ≤ q.1 ∧ Γ' = [Store b0 db s, Disk db d, blk g7 (ints (pageW d s page)) 32]) (fun q => l.length - q.1) (0, 0) (by exact ⟨rfl, rfl, trivial⟩) (Δ0 := _) ?_ (⟨.refl _, Nat.zero_le _, DiskS.new, s0, Good.new, rfl, Nat.le_refl _, rfl⟩) ?_
    · rw [page0]; exact (by (repeat (first | exact Ent.nil _ | (apply Ent.sel; focus (first | ((repeat (first | with_reducible exact Sel.head | apply Sel.tail)); done) | ((repeat (first | exact Sel.head | apply Sel.tail)); done))) | apply Ent.selNil | apply Ent.selEmp)); (first | done | fail))
    rintro ⟨k, n⟩ δ σ2 _ ⟨hs2, hk, d, s, hG, hgn, hnk, rfl⟩
    dsimp only [ovr, List.foldl]
    have hk : k ≤ l.length := hk
    have hnk : n ≤ k := hnk
    have hgn : s.gen = (n : Int) := hgn
    have hl2 := hl1.mono hs2 (fun cs x ⟨s, e, a, b, c⟩ => ⟨s, e, a, b.mono hs2 (fun _ _ h => h), c⟩)
    obtain ⟨W, hW⟩ : ∃ W, W = pageW d s page := ⟨_, rfl⟩
    have hW8 : W.length = 8 := by rw [hW]; exact pageW_len hG.dok s page
    rw [← hW]
    refine XA.seq ?_
    refine XA.seq ?_
    refine XA.region ?_
    refine XOA.rd rfl Rd.mv ?_
    refine XOA.rd rfl Rd.mv ?_
    refine XOA.rd rfl (Rd.lenSlice (tyrow rfl) rfl rfl) ?_
    refine XOA.rd rfl (Rd.lss rfl rfl) ?_
    refine XOA.nil ?_
    refine DA.thn_normal ?_
    refine XA.condp rfl (fun hlt => ?_) (fun hlt => ?_)
    · have hlt : k < l.length := by omega
      obtain ⟨x, hx⟩ : ∃ x, l[k]? = some x := ⟨_, List.getElem?_eq_getElem hlt⟩
      have hx30 := h30 x (List.mem_of_getElem? hx)
      obtain ⟨g, o, row, rfl, ⟨sp, rfl, hxD, hxp, hxm0, hxm1⟩, hrl, hrow⟩ := hl2.at hx
      obtain ⟨xdo, xD, xp, xm⟩ := x
      simp only at hxD hxp hxm0 hxm1 hx30 hrow hrl
      have r2 : PRow σ2 g (o + k * 4 + 2) [sp] := hrow.sub (j := 2) rfl
      have hw8 := psl_w8 hxp
      refine XA.skip ?_
      refine DA.thn_normal ?_
      refine XA.seq ?_
      refine XA.block ?_
      refine XA.seq ?_
      refine XA.region ?_
      refine XOA.rd rfl Rd.mv ?_
      refine XOA.rd rfl Rd.mv ?_
      refine XOA.rd rfl Rd.mv ?_
      refine XOA.rd rfl (Rd.ixS rfl rfl) ?_
      refine XOA.rd rfl (Rd.fA rfl) ?_
      refine XOA.rd rfl (Rd.ldC rfl (tyrow rfl) rfl) ?_
      refine XOA.wr0 rfl (WrA.cE (commit_all σ2 b0 db s d sp xp hxp hG (by omega)) rfl) ?_
      rintro _ σ3 _ ⟨_, ⟨d', s', rfl, hG', hg', hp', hs3, rfl⟩, rfl⟩
      refine XOA.cl ?_
      have hpp := hp' page
      rw [← hW] at hpp
      have r3 : PRow σ3 g (o + k * 4 + 2) [sp] := r2.mono hs3
      have hxp3 := hxp.mono hs3 (fun _ _ h => h)
      by_cases hc : checkS xp = 0
      · rw [if_pos hc] at hg' hpp
        rw [decide_eq_true hc, hc]
        refine XOA.rd rfl Rd.mv ?_
        refine XOA.rd rfl (Rd.extract rfl rfl) ?_
        refine XOA.rd rfl (Rd.extract rfl rfl) ?_
        refine XOA.rd rfl Rd.asg ?_
        refine XOA.rd rfl Rd.asg ?_
        refine XOA.nil ?_
        refine DA.thn_normal ?_
        refine XA.seq ?_
        refine XA.seq ?_
        refine XA.region ?_
        refine XOA.rd rfl Rd.mv ?_
        refine XOA.rd rfl Rd.mv ?_
        refine XOA.rd rfl (Rd.eql rfl rfl) ?_
        refine XOA.rd rfl (Rd.neqb (tyrow rfl) rfl rfl rfl) ?_
        refine XOA.nil ?_
        refine DA.thn_normal ?_
        refine XA.condF rfl rfl ?_
        refine XA.skip ?_
        refine DA.thn_normal ?_
        refine XA.seq ?_
        refine XA.seq ?_
        refine XA.region ?_
        refine XOA.rd rfl Rd.mv ?_
        refine XOA.rd rfl (by first | exact Rd.notp rfl | exact Rd.not rfl) ?_
        refine XOA.nil ?_
        refine DA.thn_normal ?_
        refine XA.condF rfl rfl ?_
        refine XA.skip ?_
        refine DA.thn_normal ?_
        refine XA.seq ?_
        refine XA.region ?_
        refine XOA.rd rfl Rd.mv ?_
        refine XOA.rd rfl (by first | exact Rd.adi rfl rfl | exact Rd.add rfl rfl) ?_
        refine XOA.rd rfl Rd.asg ?_
        refine XOA.nil ?_
        refine DA.thn_normal ?_
        refine XA.seq ?_
        refine XA.region ?_
        refine XOA.rd rfl Rd.asg ?_
        refine XOA.nil ?_
        refine DA.thn_normal ?_
        refine XA.block ?_
        refine XA.loop [(12, 12), (46, 75)] (fun j : Nat => [(12, i64 j)]) (fun j σ' Γ' => σ3 = σ' ∧ j ≤ xp.length ∧ Γ' = [Store b0 db s', Disk db d', blk g7 (ints (wTo W xp j page)) 32]) (fun j => xp.length - j) 0 (by exact ⟨rfl, trivial⟩) (Δ0 := _) ?_ (⟨rfl, Nat.zero_le _, rfl⟩) ?_
        · exact (by (repeat (first | exact Ent.nil _ | (apply Ent.sel; focus (first | ((repeat (first | with_reducible exact Sel.head | apply Sel.tail)); done) | ((repeat (first | exact Sel.head | apply Sel.tail)); done))) | apply Ent.selNil | apply Ent.selEmp)); (first | done | fail))
        rintro j δ2 _ _ ⟨rfl, hj, rfl⟩
        dsimp only [ovr, List.foldl]
        obtain ⟨pp, pc, rfl, hpl, hpm⟩ := hxp3.shape
        refine XA.seq ?_
        refine XA.seq ?_
        refine XA.region ?_
        refine XOA.rd rfl Rd.mv ?_
        refine XOA.rd rfl Rd.mv ?_
        refine XOA.rd rfl Rd.mv ?_
        refine XOA.rd rfl (Rd.ixS rfl rfl) ?_
        refine XOA.rd rfl (Rd.fA rfl) ?_
        refine XOA.rd rfl (Rd.ldC rfl (tyrow rfl) rfl) ?_
        refine XOA.rd rfl (Rd.lenSlice (tyrow rfl) rfl rfl) ?_
        refine XOA.rd rfl (Rd.lss rfl rfl) ?_
        refine XOA.nil ?_
        refine DA.thn_normal ?_
        refine XA.condp rfl (fun hjl => ?_) (fun hjl => ?_)
        · have hjl : j < xp.length := by omega
          obtain ⟨y, hy⟩ : ∃ y, xp[j]? = some y := ⟨_, List.getElem?_eq_getElem hjl⟩
          obtain ⟨g', o', row', rfl, ⟨rfl, hy8⟩, hrl', hrow'⟩ := hxp3.at hy
          have q0 : PRow σ3 g' (o' + j * 9) [i64 y.n] := hrow'.sub (j := 0) rfl
          have q1 : PRow σ3 g' (o' + j * 9 + 1) (ints y.w) := hrow'.sub (j := 1) (take_eq (us := ints y.w) rfl)
          have e1 := wTo_succ (W := W) hy page
          have hsw : ones (ints y.w) := ones_ints _
          obtain ⟨V, hV⟩ : ∃ V, V = wTo W xp j page := ⟨_, rfl⟩
          have hV8 : V.length = 8 := by rw [hV]; exact wTo_len hW8 hw8 page j hj
          have hspl : splice (ints V) 0 (ints y.w) = ints y.w := splice_all (by simp [hV8, hy8])
          rw [← hV]
          refine XA.skip ?_
          refine DA.thn_normal ?_
          refine XA.seq ?_
          refine XA.block ?_
          refine XA.seq ?_
          refine XA.region ?_
          refine XOA.rd rfl Rd.mv ?_
          refine XOA.rd rfl Rd.mv ?_
          refine XOA.rd rfl (Rd.ixS rfl rfl) ?_
          refine XOA.rd rfl (Rd.fA rfl) ?_
          refine XOA.rd rfl (Rd.ldC rfl (tyrow rfl) rfl) ?_
          refine XOA.rd rfl Rd.mv ?_
          refine XOA.rd rfl (Rd.ixS rfl rfl) ?_
          refine XOA.rd rfl (Rd.fA rfl) ?_
          refine XOA.rd rfl (Rd.ldC rfl (tyrow rfl) rfl) ?_
          refine XOA.rd rfl Rd.mv ?_
          refine XOA.rd rfl (Rd.eql rfl rfl) ?_
          refine XOA.nil ?_
          refine DA.thn_normal ?_
          refine XA.condp rfl (fun he => ?_) (fun he => ?_)
          · rw [if_pos he] at e1
            refine XA.region ?_
            refine XOA.rd rfl Rd.mv ?_
            refine XOA.rd rfl Rd.mv ?_
            refine XOA.rd rfl (Rd.ixS rfl rfl) ?_
            refine XOA.rd rfl (Rd.fA rfl) ?_
            refine XOA.rd rfl (Rd.ldC rfl (tyrow rfl) rfl) ?_
            refine XOA.rd rfl Rd.mv ?_
            refine XOA.rd rfl (Rd.ixS rfl rfl) ?_
            refine XOA.rd rfl (Rd.fA rfl) ?_
            refine XOA.rd rfl (Rd.ldA rfl) ?_
            refine XOA.wr0 rfl (WrA.st (tyrow rfl) rfl) ?_
            rintro _ _ _ ⟨rfl, rfl, rfl⟩
            refine XOA.nil ?_
            refine DA.inb_normal ?_
            refine DA.thn_normal ?_
            refine XA.region ?_
            refine XOA.rd rfl Rd.mv ?_
            refine XOA.rd rfl (by first | exact Rd.adi rfl rfl | exact Rd.add rfl rfl) ?_
            refine XOA.rd rfl Rd.asg ?_
            refine XOA.nil ?_
            refine DA.thn_normal ?_
            refine ⟨(Keep.upd (Keep.upd (Keep.upd (Keep.updN (Keep.upd (Keep.upd (Keep.upd (Keep.upd (Keep.upd (Keep.upd (Keep.upd (Keep.upd (Keep.upd (Keep.upd (Keep.upd (Keep.upd (Keep.upd (Keep.upd (Keep.upd (Keep.upd (Keep.upd (Keep.upd (Keep.upd (Keep.upd (Keep.upd (Keep.upd (Keep.upd (Keep.upd (Keep.upd (Keep.upd (Keep.upd (Keep.upd (Keep.upd (Keep.hav (Keep.hav (Keep.refl _ _) rfl) rfl) rfl) rfl) rfl) rfl) rfl) rfl) rfl) rfl) rfl) rfl) rfl) rfl) rfl) rfl) rfl) rfl) rfl) rfl) rfl) rfl) rfl) rfl) rfl) rfl) rfl) rfl) rfl) rfl) rfl)) rfl) rfl) rfl), j + 1, _, (by (repeat (first | exact trivial | refine ⟨rfl, ?_⟩ | refine ⟨Eq.trans rfl (congrArg Value.bool hmat.symm), ?_⟩)); (first | done | fail)), ?_, ⟨rfl, hjl, rfl⟩, (by omega)⟩
            · rw [e1]; exact (by (repeat (first | exact Ent.nil _ | (apply Ent.sel; focus (first | ((repeat (first | with_reducible exact Sel.head | apply Sel.tail)); done) | ((repeat (first | exact Sel.head | apply Sel.tail)); done))) | apply Ent.selNil | apply Ent.selEmp)); (first | done | fail))
          rw [if_neg he] at e1
          refine XA.skip ?_
          refine DA.inb_normal ?_
          refine DA.thn_normal ?_
          refine XA.region ?_
          refine XOA.rd rfl Rd.mv ?_
          refine XOA.rd rfl (by first | exact Rd.adi rfl rfl | exact Rd.add rfl rfl) ?_
          refine XOA.rd rfl Rd.asg ?_
          refine XOA.nil ?_
          refine DA.thn_normal ?_
          refine ⟨(Keep.upd (Keep.upd (Keep.upd (Keep.upd (Keep.upd (Keep.upd (Keep.upd (Keep.upd (Keep.upd (Keep.upd (Keep.upd (Keep.upd (Keep.upd (Keep.upd (Keep.upd (Keep.upd (Keep.upd (Keep.upd (Keep.upd (Keep.upd (Keep.upd (Keep.upd (Keep.upd (Keep.hav (Keep.hav (Keep.refl _ _) rfl) rfl) rfl) rfl) rfl) rfl) rfl) rfl) rfl) rfl) rfl) rfl) rfl) rfl) rfl) rfl) rfl) rfl) rfl) rfl) rfl) rfl) rfl) rfl) rfl), j + 1, _, (by (repeat (first | exact trivial | refine ⟨rfl, ?_⟩ | refine ⟨Eq.trans rfl (congrArg Value.bool hmat.symm), ?_⟩)); (first | done | fail)), ?_, ⟨rfl, hjl, rfl⟩, (by omega)⟩
          · rw [e1, ← hV]; exact (by (repeat (first | exact Ent.nil _ | (apply Ent.sel; focus (first | ((repeat (first | with_reducible exact Sel.head | apply Sel.tail)); done) | ((repeat (first | exact Sel.head | apply Sel.tail)); done))) | apply Ent.selNil | apply Ent.selEmp)); (first | done | fail))
        obtain rfl : j = xp.length := by omega
        rw [← hpp]
        refine XA.exit ?_
        refine DA.thn_exit ?_
        refine DA.thn_exit ?_
        refine DA.inb_same ?_
        refine DA.inb_normal ?_
        refine DA.thn_normal ?_
        refine XA.region ?_
        refine XOA.rd rfl Rd.mv ?_
        refine XOA.rd rfl (by first | exact Rd.adi rfl rfl | exact Rd.add rfl rfl) ?_
        refine XOA.rd rfl Rd.asg ?_
        refine XOA.nil ?_
        refine DA.thn_normal ?_
        refine ⟨(Keep.upd (Keep.upd (Keep.upd (Keep.upd (Keep.upd (Keep.upd (Keep.upd (Keep.upd (Keep.upd (Keep.upd (Keep.upd (Keep.upd (Keep.hav (Keep.hav (Keep.upd (Keep.upd (Keep.upd (Keep.upd (Keep.upd (Keep.upd (Keep.upd (Keep.upd (Keep.upd (Keep.upd (Keep.upd (Keep.upd (Keep.upd (Keep.upd (Keep.upd (Keep.updO (Keep.upd (Keep.upd (Keep.upd (Keep.upd (Keep.upd (Keep.upd (Keep.upd (Keep.upd (Keep.upd (Keep.upd (Keep.upd (Keep.upd (Keep.hav (Keep.hav (Keep.hav (Keep.refl _ _) rfl) rfl) rfl) rfl) rfl) rfl) rfl) rfl) rfl) rfl) rfl) rfl) rfl) rfl) rfl) rfl) rfl) rfl) rfl) rfl) rfl) rfl) rfl) rfl) rfl) rfl) rfl) rfl) rfl) rfl) rfl) rfl) rfl) rfl) rfl) rfl) rfl) rfl) rfl) rfl) rfl) rfl) rfl) rfl) rfl), (k + 1, n + 1), _, (by (repeat (first | exact trivial | refine ⟨rfl, ?_⟩ | refine ⟨Eq.trans rfl (congrArg Value.bool hmat.symm), ?_⟩)); (first | done | fail)), ?_, ⟨hs2.trans hs3, hlt, d', s', hG', by rw [hg', hgn]; rfl, by simp only; omega, rfl⟩, (by simp only; omega)⟩
        · exact (by (repeat (first | exact Ent.nil _ | (apply Ent.sel; focus (first | ((repeat (first | with_reducible exact Sel.head | apply Sel.tail)); done) | ((repeat (first | exact Sel.head | apply Sel.tail)); done))) | apply Ent.selNil | apply Ent.selEmp)); (first | done | fail))
      · rw [if_neg hc] at hg' hpp
        rw [decide_eq_false hc]
        refine XOA.rd rfl Rd.mv ?_
        refine XOA.rd rfl (Rd.extract rfl rfl) ?_
        refine XOA.rd rfl (Rd.extract rfl rfl) ?_
        refine XOA.rd rfl Rd.asg ?_
        refine XOA.rd rfl Rd.asg ?_
        refine XOA.nil ?_
        refine DA.thn_normal ?_
        refine XA.seq ?_
        refine XA.seq ?_
        refine XA.region ?_
        refine XOA.rd rfl Rd.mv ?_
        refine XOA.rd rfl Rd.mv ?_
        refine XOA.rd rfl (Rd.eql rfl rfl) ?_
        refine XOA.rd rfl (Rd.neqb (tyrow rfl) rfl rfl rfl) ?_
        refine XOA.nil ?_
        refine DA.thn_normal ?_
        refine XA.condF rfl (by rw [decide_eq_false hc]; rfl) ?_
        refine XA.skip ?_
        refine DA.thn_normal ?_
        refine XA.seq ?_
        refine XA.seq ?_
        refine XA.region ?_
        refine XOA.rd rfl Rd.mv ?_
        refine XOA.rd rfl (by first | exact Rd.notp rfl | exact Rd.not rfl) ?_
        refine XOA.nil ?_
        refine DA.thn_normal ?_
        refine XA.condT rfl rfl ?_
        refine XA.exit ?_
        refine DA.thn_exit ?_
        refine DA.inb_same ?_
        refine DA.thn_normal ?_
        refine XA.region ?_
        refine XOA.rd rfl Rd.mv ?_
        refine XOA.rd rfl (by first | exact Rd.adi rfl rfl | exact Rd.add rfl rfl) ?_
        refine XOA.rd rfl Rd.asg ?_
        refine XOA.nil ?_
        refine DA.thn_normal ?_
        rw [← hpp]
        refine ⟨(Keep.upd (Keep.upd (Keep.upd (Keep.upd (Keep.upd (Keep.upd (Keep.upd (Keep.upd (Keep.upd (Keep.upd (Keep.upd (Keep.upd (Keep.upd (Keep.upd (Keep.updO (Keep.upd (Keep.upd (Keep.upd (Keep.upd (Keep.upd (Keep.upd (Keep.upd (Keep.upd (Keep.upd (Keep.upd (Keep.upd (Keep.upd (Keep.hav (Keep.hav (Keep.hav (Keep.refl _ _) rfl) rfl) rfl) rfl) rfl) rfl) rfl) rfl) rfl) rfl) rfl) rfl) rfl) rfl) rfl) rfl) rfl) rfl) rfl) rfl) rfl) rfl) rfl) rfl) rfl) rfl) rfl) rfl) rfl) rfl), (k + 1, n), _, (by (repeat (first | exact trivial | refine ⟨rfl, ?_⟩ | refine ⟨Eq.trans rfl (congrArg Value.bool hmat.symm), ?_⟩)); (first | done | fail)), ?_, ⟨hs2.trans hs3, hlt, d', s', hG', by rw [hg', hgn], by simp only; omega, rfl⟩, (by simp only; omega)⟩
        · exact (by (repeat (first | exact Ent.nil _ | (apply Ent.sel; focus (first | ((repeat (first | with_reducible exact Sel.head | apply Sel.tail)); done) | ((repeat (first | exact Sel.head | apply Sel.tail)); done))) | apply Ent.selNil | apply Ent.selEmp)); (first | done | fail))
    obtain rfl : k = l.length := by omega
    refine XA.exit ?_
    refine DA.thn_exit ?_
    refine DA.thn_exit ?_
    refine DA.inb_same ?_
    refine DA.thn_normal ?_
    refine XA.seq ?_
    refine XA.region ?_
    refine XOA.rd rfl Rd.mv ?_
    refine XOA.wr0 rfl (WrA.cE (crash_a σ2 db d 0 hG.wlen' (by decide) (by decide)) rfl) ?_
    rintro _ _ _ ⟨_, ⟨rfl, rfl, rfl⟩, rfl⟩
    refine XOA.cl ?_
    refine XOA.nil ?_
    refine DA.thn_normal ?_
    refine XA.seq ?_
    refine XA.region ?_
    refine XOA.rd rfl Rd.mv ?_
    obtain ⟨hG2, hp2⟩ := hG.settle (bitOf 0)
    have hpg := page_all hp2 page
    refine XOA.wr0 rfl (WrA.cE (open_a σ2 db _ hG2.dok hG2.wlen') rfl) ?_
    rintro _ _ _ ⟨_, ⟨b2, rfl, rfl, rfl⟩, rfl⟩
    refine XOA.cl ?_
    rw [hG2.open]
    refine XOA.rd rfl Rd.asg ?_
    refine XOA.nil ?_
    refine DA.thn_normal ?_
    refine XA.seq ?_
    have hWW : W = W := rfl
    have hnn : s.gen = (n : Int) := hgn
    refine XA.draw (by kernel_rfl) _ _ [] [(0, .pu), (1, .pu), (3, .rd), (2, .wr), (4, .pu), (5, .pu), (6, .pu), (7, .pu), (9, .rd), (8, .wr), (10, .pu), (11, .pu), (12, .pu), (13, .pu), (15, .pu), (14, .wr), (16, .pu), (17, .pu), (18, .pu), (19, .pu), (21, .pu), (20, .wr), (22, .pu), (23, .pu), (24, .pu)] (by kernel_rfl) (PH.sub.refl _) (Ent.sel (R := blk g7 _ _) (by ((repeat (first | with_reducible exact Sel.head | apply Sel.tail)); (first | done | fail))) (Ent.nil _)) ?_
    refine XPA.pu rfl rfl Gd.free Rd.mv ?_
    refine XPA.pu rfl rfl Gd.free Rd.mv ?_
    refine XPA.rd rfl rfl Gd.free (Rd.ldA rfl) ?_
    refine XPA.wr0 rfl rfl Gd.free (WrA.cE (sread_a σ2 b0 db s _ page hG2.dok hG2.wlen') rfl) ?_
    rintro _ _ _ ⟨_, ⟨rfl, rfl, rfl⟩, rfl⟩
    refine stays (XPA.cl ?_)
    rw [hpg, ← hW]
    refine XPA.pu rfl rfl Gd.free (Rd.eqlWords (tyrow rfl) rfl (tyrow rfl) rfl rfl (by kernel_rfl) rfl rfl (by first | assumption | rfl | (simp; (first | done | fail)) | (simp [*]; (first | done | fail))) (by first | assumption | rfl | (simp; (first | done | fail)) | (simp [*]; (first | done | fail)))) ?_
    refine XPA.pu rfl rfl Gd.free Rd.mv ?_
    first | refine XPA.puG rfl rfl Rd.mv ?_ | refine XPA.puOffG rfl rfl ?_
    first | refine XPA.puG rfl rfl Rd.mv ?_ | refine XPA.puOffG rfl rfl ?_
    first | refine XPA.rdG rfl rfl (Rd.ldA rfl) ?_ | refine XPA.offG rfl rfl ?_
    refine XPA.wr0 rfl rfl (by first | exact Gd.free | exact Gd.isB rfl rfl rfl | (apply Gd.isQ; rfl; rfl; exact (by first | exact (rfl : decide _ = true) | exact (rfl : decide _ = false) | (refine decide_eq_true ?_; assumption) | (refine decide_eq_false ?_; assumption) | (refine decide_eq_true ?_; omega) | (refine decide_eq_false ?_; omega)); rfl)) (WrA.cE (sread_a σ2 b2 db s _ page hG2.dok hG2.wlen') rfl) ?_
    rintro _ _ _ ⟨_, ⟨rfl, rfl, rfl⟩, rfl⟩
    refine stays (XPA.cl ?_)
    rw [hpg, ← hW]
    first | refine XPA.puG rfl rfl (Rd.eqlWords (tyrow rfl) rfl (tyrow rfl) rfl rfl (by kernel_rfl) rfl rfl (by first | assumption | rfl | (simp; (first | done | fail)) | (simp [*]; (first | done | fail))) (by first | assumption | rfl | (simp; (first | done | fail)) | (simp [*]; (first | done | fail)))) ?_ | refine XPA.puOffG rfl rfl ?_
    refine XPA.pu rfl rfl Gd.free (by first | exact Rd.pT rfl | exact Rd.pF rfl | exact Rd.pP rfl) ?_
    refine XPA.pu rfl rfl Gd.free Rd.mv ?_
    first | refine XPA.puG rfl rfl Rd.mv ?_ | refine XPA.puOffG rfl rfl ?_
    first | refine XPA.puG rfl rfl Rd.mv ?_ | refine XPA.puOffG rfl rfl ?_
    refine XPA.wr0 rfl rfl (by first | exact Gd.free | exact Gd.isB rfl rfl rfl | (apply Gd.isQ; rfl; rfl; exact (by first | exact (rfl : decide _ = true) | exact (rfl : decide _ = false) | (refine decide_eq_true ?_; assumption) | (refine decide_eq_false ?_; assumption) | (refine decide_eq_true ?_; omega) | (refine decide_eq_false ?_; omega)); rfl)) (WrA.cE (gen_a σ2 b0 db s) rfl) ?_
    rintro _ _ _ ⟨_, ⟨rfl, rfl, rfl⟩, rfl⟩
    refine stays (XPA.cl ?_)
    rw [hgn]
    first | refine XPA.puG rfl rfl (Rd.eql rfl rfl) ?_ | refine XPA.puOffG rfl rfl ?_
    refine XPA.pu rfl rfl Gd.free (by first | exact Rd.pT rfl | exact Rd.pF rfl | exact Rd.pP rfl) ?_
    refine XPA.pu rfl rfl Gd.free Rd.mv ?_
    first | refine XPA.puG rfl rfl Rd.mv ?_ | refine XPA.puOffG rfl rfl ?_
    first | refine XPA.puG rfl rfl Rd.mv ?_ | refine XPA.puOffG rfl rfl ?_
    refine XPA.wr0 rfl rfl (by first | exact Gd.free | exact Gd.isB rfl rfl rfl | (apply Gd.isQ; rfl; rfl; exact (by first | exact (rfl : decide _ = true) | exact (rfl : decide _ = false) | (refine decide_eq_true ?_; assumption) | (refine decide_eq_false ?_; assumption) | (refine decide_eq_true ?_; omega) | (refine decide_eq_false ?_; omega)); rfl)) (WrA.cE (gen_a σ2 b2 db s) rfl) ?_
    rintro _ _ _ ⟨_, ⟨rfl, rfl, rfl⟩, rfl⟩
    refine stays (XPA.cl ?_)
    rw [hgn]
    first | refine XPA.puG rfl rfl (Rd.eql rfl rfl) ?_ | refine XPA.puOffG rfl rfl ?_
    refine XPA.pu rfl rfl Gd.free (by first | exact Rd.pT rfl | exact Rd.pF rfl | exact Rd.pP rfl) ?_
    refine XPA.pu rfl rfl Gd.free Rd.asg ?_
    refine XPA.nil ?_
    refine DA.thn_normal ?_
    refine XA.ret ?_
    exact bodyA.ret (ResA.one rfl rfl) (Ent.nil _) ⟨congrArg Value.bool (decide_eq_true rfl), hs1.trans hs2⟩
end Go.Proofs.Ytplobdiknobhoaa
