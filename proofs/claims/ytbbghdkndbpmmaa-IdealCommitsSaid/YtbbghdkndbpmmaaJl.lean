/- The laws of package ideal: what is used to tell them. -/
import Derived.Test.YtbbghdkndbpmmaaJw
import Derived.Test.YtbbghdkndbpmmaaKz
namespace Go.Proofs.Ytbbghdkndbpmmaa
open Go X
set_option maxHeartbeats 1000000
theorem slongs_a (σ : PH) (v w : Value) (xs ys : List Int) (hv : PInts σ v xs) (hw : PInts σ w ys) : CallsA Try.prog 55 #[v, w] σ [] (RetA fun r σ' Γ' => r = .bool (decide (xs = ys)) ∧ σ = σ' ∧ Γ' = []) := by
  obtain ⟨p, c, rfl, hle, hmx⟩ := hv.shape
  obtain ⟨p', c', rfl, hle', hmx'⟩ := hw.shape
  have hlen : xs.length ≤ maxLen := by omega
  simp only [maxLen] at hlen
  refine enterA2 Try.func55 rfl rfl rfl ?_
  refine zS ?_; refine zR ?_; refine zO rfl Rd.asg ?_; refine zN ?_; refine zT ?_; refine zS ?_; refine zS ?_; refine zR ?_; refine zO rfl Rd.mv ?_; refine zO rfl (Rd.lenSlice (tyrow rfl) rfl rfl) ?_; refine zO rfl Rd.mv ?_; refine zO rfl (Rd.lenSlice (tyrow rfl) rfl rfl) ?_
  refine zO rfl (Rd.neq rfl rfl) ?_
  refine zN ?_; refine zT ?_
  refine XA.condp rfl (fun hne => ?_) (fun hne => ?_)
  · refine zS ?_
    refine zR ?_; refine zO rfl Rd.asg ?_; refine zN ?_; refine zT ?_
    refine XA.ret ?_
    refine DA.thn_ret ?_
    exact bodyA.ret (ResA.one rfl rfl) zE ⟨congrArg Value.bool (decide_eq_false (fun e => hne (by rw [e]))).symm, rfl, rfl⟩
  have hll : xs.length = ys.length := by omega
  refine XA.skip ?_
  refine zT ?_; refine zS ?_; refine zS ?_; refine zR ?_; refine zO rfl Rd.asg ?_; refine zN ?_; refine zT ?_
  refine XA.block ?_
  refine XA.gen [(0, _), (1, _), (4, _), (5, _)] ⟨(by with_reducible (conv => lhs; whnf)), (by with_reducible (conv => lhs; whnf)), (by with_reducible (conv => lhs; whnf)), (by with_reducible (conv => lhs; whnf)), trivial⟩ (fun δ => ?_)
  dsimp only [List.foldl]
  refine XA.loop [(4, 5), (11, 25)] (fun k : Nat => [(5, i64 k)]) (fun k σ' Γ' => σ = σ' ∧ k ≤ xs.length ∧ xs.take k = ys.take k ∧ Γ' = []) (fun k => xs.length - k) 0 (by exact ⟨rfl, trivial⟩) (Δ0 := _) ?_ (⟨rfl, Nat.zero_le _, rfl, rfl⟩) ?_
  · exact zE
  rintro k δ _ _ ⟨rfl, hk, hall, rfl⟩
  dsimp only [ovr, List.foldl]
  refine zS ?_; refine zS ?_; refine zR ?_; refine zO rfl Rd.mv ?_; refine zO rfl Rd.mv ?_; refine zO rfl (Rd.lenSlice (tyrow rfl) rfl rfl) ?_; refine zO rfl (Rd.lss rfl rfl) ?_; refine zN ?_; refine zT ?_
  refine XA.condp rfl (fun hlt => ?_) (fun hlt => ?_)
  · have hlt : k < xs.length := by omega
    obtain ⟨x, hx⟩ : ∃ x, xs[k]? = some x := ⟨_, List.getElem?_eq_getElem hlt⟩
    obtain ⟨y, hy⟩ : ∃ y, ys[k]? = some y := ⟨_, List.getElem?_eq_getElem (by omega)⟩
    obtain ⟨g, o, rfl, hr⟩ := hv.at hx
    obtain ⟨g', o', rfl, hr'⟩ := hw.at hy
    rw [Nat.mul_one] at hr hr'
    refine XA.skip ?_
    refine zT ?_; refine zS ?_
    refine XA.block ?_
    refine zS ?_
    refine XA.draw (by kernel_rfl) _ _ [] [(0, .pu), (1, .pu), (2, .pu), (3, .rd), (4, .pu), (5, .pu), (6, .pu), (7, .rd), (8, .pu)] (by kernel_rfl) (PH.sub.refl _) (Ent.nil _) ?_
    refine XPA.pu rfl rfl Gd.free Rd.mv ?_
    refine XPA.pu rfl rfl Gd.free Rd.mv ?_
    refine XPA.pu rfl rfl Gd.free (Rd.ixS rfl rfl) ?_
    refine XPA.rd rfl rfl Gd.free (Rd.ldC rfl (tyrow rfl) rfl) ?_
    refine XPA.pu rfl rfl Gd.free Rd.mv ?_
    refine XPA.pu rfl rfl Gd.free Rd.mv ?_
    refine XPA.pu rfl rfl Gd.free (Rd.ixS rfl rfl) ?_
    refine XPA.rd rfl rfl Gd.free (Rd.ldC rfl (tyrow rfl) rfl) ?_
    refine XPA.pu rfl rfl Gd.free (Rd.neq rfl rfl) ?_
    refine XPA.nil ?_
    refine zT ?_
    refine XA.condp rfl (fun he => ?_) (fun he => ?_)
    · refine zS ?_
      refine zR ?_; refine zO rfl Rd.asg ?_; refine zN ?_; refine zT ?_
      refine XA.ret ?_
      refine DA.inb_ret ?_
      refine DA.thn_ret ?_
      refine DA.thn_ret ?_
      refine DA.inb_ret ?_
      refine DA.thn_ret ?_
      exact bodyA.ret (ResA.one rfl rfl) zE ⟨congrArg Value.bool (decide_eq_false (fun e => by subst e; rw [hx] at hy; simp only [Option.some.injEq] at hy; exact he hy)).symm, rfl, rfl⟩
    have hxy : x = y := Classical.byContradiction he
    refine XA.skip ?_
    refine DA.inb_normal ?_
    refine zT ?_; refine zR ?_; refine zO rfl Rd.mv ?_
    refine zO rfl (by first | exact Rd.adi rfl rfl | exact Rd.add rfl rfl) ?_
    refine zO rfl Rd.asg ?_; refine zN ?_; refine zT ?_
    refine ⟨(Keep.upd (Keep.upd (Keep.upd (Keep.upd (Keep.upd (Keep.upd (Keep.upd (Keep.upd (Keep.upd (Keep.upd (Keep.upd (Keep.upd (Keep.upd (Keep.upd (Keep.upd (Keep.upd (Keep.upd (Keep.hav (Keep.hav (Keep.refl _ _) rfl) rfl) rfl) rfl) rfl) rfl) rfl) rfl) rfl) rfl) rfl) rfl) rfl) rfl) rfl) rfl) rfl) rfl) rfl), k + 1, _, (by (repeat (first | exact trivial | refine ⟨rfl, ?_⟩ | refine ⟨Eq.trans rfl (congrArg Value.bool hmat.symm), ?_⟩)); (first | done | fail)), ?_, ⟨rfl, hlt, by rw [takeS hx, takeS hy, hall, hxy], rfl⟩, (by omega)⟩
    · exact zE
  obtain rfl : k = xs.length := by omega
  refine XA.exit ?_
  refine DA.thn_exit ?_
  refine DA.thn_exit ?_
  refine DA.inb_same ?_
  refine zT ?_; refine zS ?_; refine zR ?_; refine zO rfl Rd.asg ?_; refine zN ?_; refine zT ?_
  refine XA.ret ?_
  exact bodyA.ret (ResA.one rfl rfl) zE ⟨congrArg Value.bool (decide_eq_true (by rw [List.take_length, hll, List.take_length] at hall; exact hall)).symm, rfl, rfl⟩
theorem X.PInts.take {σ : PH} {p : Option Addr} {n c k : Nat} {xs : List Int} (h : PInts σ (.slice p n c) xs) (hk : k ≤ n) : PInts σ (.slice p k c) (xs.take k) := by
  obtain ⟨p', c', h1, h2, h3, h4⟩ := h
  simp only [Value.slice.injEq] at h1
  obtain ⟨rfl, rfl, rfl⟩ := h1
  have hl : (xs.take k).length = k := by rw [List.length_take]; omega
  refine ⟨p, c, by rw [hl], by omega, h3, fun h0 => ?_⟩
  obtain ⟨g, o, e, r⟩ := h4 (by omega)
  refine ⟨g, o, e, ?_⟩
  have e2 : ints xs = ints (xs.take k) ++ ints (xs.drop k) := by rw [← List.take_append_drop k xs]; simp [ints]
  rw [e2] at r
  exact r.sub (j := 0) (by simp)
theorem begins_a (σ : PH) (v w : Value) (xs ys : List Int) (hv : PInts σ v xs) (hw : PInts σ w ys) (hpre : xs <+: ys) : CallsA Try.prog 37 #[v, w] σ [] (RetA fun r σ' Γ' => r = .bool true ∧ σ = σ' ∧ Γ' = []) := by
  obtain ⟨p, c, rfl, hle, hmx⟩ := hv.shape
  obtain ⟨p', c', rfl, hle', hmx'⟩ := hw.shape
  have hlen := hpre.length_le
  have htk : ys.take xs.length = xs := (List.prefix_iff_eq_take.1 hpre).symm
  have hw2 := hw.take hlen
  rw [htk] at hw2
  refine enterA2 Try.func37 rfl rfl rfl ?_
  refine zS ?_; refine zR ?_; refine zO rfl Rd.asg ?_; refine zN ?_; refine zT ?_; refine zS ?_; refine zR ?_; refine zO rfl Rd.mv ?_; refine zO rfl (Rd.lenSlice (tyrow rfl) rfl rfl) ?_; refine zO rfl Rd.mv ?_; refine zO rfl (Rd.lenSlice (tyrow rfl) rfl rfl) ?_
  refine zO rfl (Rd.leq rfl rfl) ?_
  refine zO rfl Rd.mv ?_
  first | ((first | refine zW ?_ | refine zQ ?_); refine zO rfl Rd.mv ?_) | refine zU ?_ | refine zV ?_ | refine zZ ?_
  first | ((first | refine zW ?_ | refine zQ ?_); refine zO rfl Rd.mv ?_) | refine zU ?_ | refine zV ?_ | refine zZ ?_
  first | ((first | refine zW ?_ | refine zQ ?_); refine zO rfl Rd.mv ?_) | refine zU ?_ | refine zV ?_ | refine zZ ?_
  first | ((first | refine zW ?_ | refine zQ ?_); refine zO rfl (Rd.lenSlice (tyrow rfl) rfl rfl) ?_) | refine zU ?_ | refine zV ?_ | refine zZ ?_
  first | refine XOA.wanted rfl rfl ?_ | refine XOA.wq rfl rfl ?_
  refine zO rfl (Rd.sliceToN (tyrow rfl) rfl (tyrow rfl) rfl rfl (by omega)) ?_
  first | refine XOA.wanted rfl rfl ?_ | refine XOA.wq rfl rfl ?_
  refine XOA.wr0 rfl (WrA.cE (slongs_a σ _ _ xs xs hv hw2) rfl) ?_
  rintro _ _ _ ⟨_, ⟨rfl, rfl, rfl⟩, rfl⟩
  refine XOA.cl ?_
  rw [show decide (xs = xs) = true from decide_eq_true rfl]
  refine zO rfl (by first | exact Rd.pT rfl | exact Rd.pF rfl | exact Rd.pP rfl) ?_
  refine zO rfl Rd.asg ?_; refine zN ?_; refine zT ?_
  refine XA.ret ?_
  exact bodyA.ret (ResA.one rfl rfl) (Ent.nil _) ⟨rfl, rfl, rfl⟩
theorem sresult_a (σ : PH) (c : Int) (vo vc wo wc : Value) (out cells : List Int) (h1 : PInts σ vo out) (h2 : PInts σ vc cells) (h3 : PInts σ wo out) (h4 : PInts σ wc cells) :
    CallsA Try.prog 35 #[.agg #[i64 c, vo, vc], .agg #[i64 c, wo, wc]] σ [] (RetA fun r σ' Γ' => r = .bool true ∧ σ = σ' ∧ Γ' = []) := by
  obtain ⟨p1, c1, rfl, -, -⟩ := h1.shape
  obtain ⟨p2, c2, rfl, -, -⟩ := h2.shape
  obtain ⟨p3, c3, rfl, -, -⟩ := h3.shape
  obtain ⟨p4, c4, rfl, -, -⟩ := h4.shape
  refine enterA2 Try.func35 rfl rfl rfl ?_
  refine zS ?_; refine zR ?_
  refine XOA.wr0 rfl WrA.bx ?_
  rintro _ _ _ ⟨g2, rfl, rfl, rfl⟩
  refine XOA.wr0 rfl WrA.bx ?_
  rintro _ _ _ ⟨g3, rfl, rfl, rfl⟩
  refine zO rfl Rd.asg ?_; refine zN ?_; refine zT ?_; refine zS ?_; refine zR ?_; refine zO rfl (Rd.fA rfl) ?_; refine zO rfl (Rd.ldC rfl (tyrow rfl) rfl) ?_; refine zO rfl (Rd.fA rfl) ?_; refine zO rfl (Rd.ldC rfl (tyrow rfl) rfl) ?_; refine zO rfl (Rd.eql rfl rfl) ?_; refine zO rfl Rd.mv ?_
  first | ((first | refine zW ?_ | refine zQ ?_); refine zO rfl (Rd.fA rfl) ?_) | refine zU ?_ | refine zV ?_ | refine zZ ?_
  first | ((first | refine zW ?_ | refine zQ ?_); refine zO rfl (Rd.ldC rfl (tyrow rfl) rfl) ?_) | refine zU ?_ | refine zV ?_ | refine zZ ?_
  first | ((first | refine zW ?_ | refine zQ ?_); refine zO rfl (Rd.fA rfl) ?_) | refine zU ?_ | refine zV ?_ | refine zZ ?_
  first | ((first | refine zW ?_ | refine zQ ?_); refine zO rfl (Rd.ldC rfl (tyrow rfl) rfl) ?_) | refine zU ?_ | refine zV ?_ | refine zZ ?_
  first | refine XOA.wanted rfl rfl ?_ | refine XOA.wq rfl rfl ?_
  refine XOA.wr0 rfl (WrA.cE (slongs_a σ _ _ out out h1 h3) rfl) ?_
  rintro _ _ _ ⟨_, ⟨rfl, rfl, rfl⟩, rfl⟩
  refine XOA.cl ?_
  rw [show decide (out = out) = true from decide_eq_true rfl]
  refine zO rfl (by first | exact Rd.pT rfl | exact Rd.pF rfl | exact Rd.pP rfl) ?_
  refine zO rfl Rd.mv ?_
  first | ((first | refine zW ?_ | refine zQ ?_); refine zO rfl (Rd.fA rfl) ?_) | refine zU ?_ | refine zV ?_ | refine zZ ?_
  first | ((first | refine zW ?_ | refine zQ ?_); refine zO rfl (Rd.ldC rfl (tyrow rfl) rfl) ?_) | refine zU ?_ | refine zV ?_ | refine zZ ?_
  first | ((first | refine zW ?_ | refine zQ ?_); refine zO rfl (Rd.fA rfl) ?_) | refine zU ?_ | refine zV ?_ | refine zZ ?_
  first | ((first | refine zW ?_ | refine zQ ?_); refine zO rfl (Rd.ldC rfl (tyrow rfl) rfl) ?_) | refine zU ?_ | refine zV ?_ | refine zZ ?_
  first | refine XOA.wanted rfl rfl ?_ | refine XOA.wq rfl rfl ?_
  refine XOA.wr0 rfl (WrA.cE (slongs_a σ _ _ cells cells h2 h4) rfl) ?_
  rintro _ _ _ ⟨_, ⟨rfl, rfl, rfl⟩, rfl⟩
  refine XOA.cl ?_
  rw [show decide (cells = cells) = true from decide_eq_true rfl]
  refine zO rfl (by first | exact Rd.pT rfl | exact Rd.pF rfl | exact Rd.pP rfl) ?_
  refine zO rfl Rd.asg ?_; refine zN ?_; refine zT ?_
  refine XA.ret ?_
  refine bodyA.ret (ResA.one rfl rfl) (Ent.nil _) ⟨?_, rfl, rfl⟩
  first | rfl | (simp; done) | exact congrArg Value.bool (decide_eq_true rfl)
theorem rows_ints {σ : PH} : ∀ (rows : List (List Value)) (xs : List Int), Rows_ 1 (rInt .i64) σ rows xs → rows.flatten = ints xs
  | [], xs, h => by
    have := h.len
    rw [List.length_nil] at this
    rw [List.eq_nil_of_length_eq_zero this.symm]; rfl
  | r :: rows, xs, h => by
    have hl := h.len
    cases xs with
    | nil => simp at hl
    | cons x xs =>
      have h0 := h.row 0 r x rfl rfl
      have ih := rows_ints rows xs ⟨by simpa using hl, fun q hq => h.size q (by simp [hq]), fun k q y a b => h.row (k + 1) q y (by simpa using a) (by simpa using b)⟩
      rw [List.flatten_cons, ih, h0.1]; rfl
theorem pints_of {σ : PH} {v : Value} {xs : List Int} (h : PSl 1 (rInt .i64) σ v xs) : PInts σ v xs := by
  obtain ⟨p, c, rfl, h1, h2⟩ := h.shape
  obtain ⟨rows, h3, -, h4, h5, h6⟩ := psl_rows h
  refine ⟨p, c, rfl, h1, h5, fun h0 => ?_⟩
  obtain ⟨g, o, e, r⟩ := h6 h0
  rw [rows_ints rows xs h3] at r
  exact ⟨g, o, e, r⟩
theorem run_ok (σ : PH) (cs : List Value) (p : Pr) (iv : Value) (inp : List Int) (f : Nat) (hp : PrAt σ cs p) (hi : PInts σ iv inp) (hc : checkP p = 0) (hl : inp.length ≤ 40) (hf : f ≤ 3000) :
    CallsA Try.prog 34 #[.agg cs.toArray, iv, i64 f] σ [] (RetA fun v σ' Γ' => ∃ (c : Int) (s : RS) (po pc : Option Addr) (co cc : Nat), RunIs p inp f c s ∧ v = .tuple #[.agg #[i64 c, .slice po s.out.length co, .slice pc s.cells.length cc], i64 ((f : Int) - s.left), i64 0] ∧ PInts σ' (.slice po s.out.length co) s.out ∧ PInts σ' (.slice pc s.cells.length cc) s.cells ∧ s.left ≤ f ∧ σ.sub σ' ∧ Γ' = []) := by
  refine (run_a σ cs p iv inp f hp hi).ret ?_
  rintro v σ' Γ' ⟨h1, h2, h3⟩
  rw [if_neg (fun h => h hc), if_neg (by omega)] at h3
  obtain ⟨c, s, vo, vc, h4, h5, h6, h7, h8⟩ := h3
  obtain ⟨po, co, rfl, -, -⟩ := h6.shape
  obtain ⟨pc, cc, rfl, -, -⟩ := h7.shape
  rw [Int.toNat_natCast] at h4 h8
  exact ⟨c, s, po, pc, co, cc, h4, h5, h6, h7, h8, h1, h2⟩
theorem run_bad (σ : PH) (cs : List Value) (p : Pr) (iv : Value) (inp : List Int) (f : Int) (hp : PrAt σ cs p) (hi : PInts σ iv inp) (hc : checkP p ≠ 0) :
    CallsA Try.prog 34 #[.agg cs.toArray, iv, i64 f] σ [] (RetA fun v σ' Γ' => v = .tuple #[.agg #[i64 0, .slice none 0 0, .slice none 0 0], i64 0, i64 (checkP p)] ∧ σ.sub σ' ∧ Γ' = []) := by
  refine (run_a σ cs p iv inp f hp hi).ret ?_
  rintro v σ' Γ' ⟨h1, h2, h3⟩
  rw [if_pos hc] at h3
  exact ⟨h3, h1, h2⟩
theorem run_range (σ : PH) (cs : List Value) (p : Pr) (iv : Value) (inp : List Int) (f : Int) (hp : PrAt σ cs p) (hi : PInts σ iv inp) (hc : checkP p = 0) (hr : 40 < inp.length ∨ f < 0 ∨ 3000 < f) :
    CallsA Try.prog 34 #[.agg cs.toArray, iv, i64 f] σ [] (RetA fun v σ' Γ' => v = .tuple #[.agg #[i64 0, .slice none 0 0, .slice none 0 0], i64 0, i64 1] ∧ σ.sub σ' ∧ Γ' = []) := by
  refine (run_a σ cs p iv inp f hp hi).ret ?_
  rintro v σ' Γ' ⟨h1, h2, h3⟩
  rw [if_neg (fun h => h hc), if_pos hr] at h3
  exact ⟨h3, h1, h2⟩
def progN : Pr := ⟨[], []⟩
theorem runK : RunIs progK [] 9 0 ⟨[], [], [5], 6⟩ := ⟨1, .ok ⟨[], [], [5], 7⟩, rfl, rfl⟩
theorem runN : RunIs progN [] 0 13 ⟨[], [], [], 0⟩ := ⟨1, .ok ⟨[], [], [], 0⟩, rfl, rfl⟩
theorem ibegun_a (σ : PH) : CallsA Try.prog 33 #[] σ [] (RetA fun v σ' Γ' => v = .bool true ∧ σ.sub σ' ∧ Γ' = []) := by
  refine enterA0 Try.func33 rfl rfl rfl ?_
  refine zS ?_; refine zR ?_; refine zO rfl Rd.asg ?_; refine zN ?_; refine zT ?_; refine zS ?_; refine zR ?_
  refine zO rfl (Rd.bl (fun _ _ => tyrow) rfl rfl rfl) ?_
  refine zO rfl (Rd.bl (fun _ _ => tyrow) rfl rfl rfl) ?_
  refine XOA.wr0 rfl (WrA.bs1 (tyrow rfl) rfl (tyrow rfl)) ?_
  rintro _ _ _ ⟨g10, rfl, rfl, rfl⟩
  refine zO rfl (Rd.bl (fun _ _ => tyrow) rfl rfl rfl) ?_
  refine XOA.frz (R := blk g10 _ 46) (by ((repeat (first | with_reducible exact Sel.head | apply Sel.tail)); (first | done | fail))) blk_frz blk_frz_mono ?_
  rintro σ2 ⟨⟩ hr8 hs2
  have nilE : ∀ σ, PSl 4 ExAt σ (.slice none 0 0) [] := fun σ => PSl.nil 4 ExAt σ
  have nilS : ∀ σ, PSl 12 StAt σ (.slice none 0 0) [] := fun σ => PSl.nil 12 StAt σ
  have okz : ∀ n : Int, -1000 ≤ n → n ≤ 1000 → i64ok n := fun n h1 h2 => ⟨by omega, by omega⟩
  have hst : StAt σ2 [i64 3, i64 0, i64 1, i64 0, i64 5, .slice none 0 0, i64 0, i64 0, i64 0, .slice none 0 0, .slice none 0 0, .slice none 0 0] (.mk 3 0 (.mk 1 0 5 []) (.mk 0 0 0 []) [] []) :=
    StAt.of (okz _ (by decide) (by decide)) (okz _ (by decide) (by decide)) (ExAt.of (okz _ (by decide) (by decide)) (okz _ (by decide) (by decide)) (okz _ (by decide) (by decide)) (nilE σ2)) (ExAt.of (okz _ (by decide) (by decide)) (okz _ (by decide) (by decide)) (okz _ (by decide) (by decide)) (nilE σ2)) (nilS σ2) (nilS σ2)
  have hbs : PSl 12 StAt σ2 (.slice (some ⟨g10, 0, none⟩) 1 1) progK.body :=
    Rows_.psl ((Rows_.nil 12 StAt σ2).snoc rfl hst) rfl ⟨Nat.le_refl _, by simp [maxLen], rfl, fun _ => ⟨g10, 0, rfl, hr8⟩⟩
  have hp0 : PrAt σ2 [.slice none 0 0, .slice (some ⟨g10, 0, none⟩) 1 1] progK := ⟨_, _, rfl, PSl.nil _ _ _, hbs⟩
  refine XOA.wr0 rfl (WrA.cE (run_ok σ2 _ progK (.slice none 0 0) [] 9 hp0 (PInts.nil _) checkK (by decide) (by decide)) rfl) ?_
  rintro _ σ3 _ ⟨_, ⟨c, s, po, pc, co, cc, hrun, rfl, hvo, hvc, hle, hs3, rfl⟩, rfl⟩
  refine XOA.cl ?_
  obtain ⟨rfl, rfl⟩ := run_once hrun runK
  obtain ⟨go, oo, rfl, hro⟩ := hvo.at (show ([5] : List Int)[0]? = some 5 from rfl)
  have hro0 : PRow σ3 go oo [i64 5] := by simpa using hro
  have hpN : PrAt σ3 [.slice none 0 0, .slice none 0 0] progN := ⟨_, _, rfl, PSl.nil _ _ _, PSl.nil _ _ _⟩
  refine zO rfl Rd.mv ?_
  refine zO rfl (Rd.extract rfl rfl) ?_
  refine zO rfl (Rd.extract rfl rfl) ?_
  refine zO rfl (Rd.extract rfl rfl) ?_
  refine XOA.wr0 rfl (WrA.alloc (tyrow rfl)) ?_
  rintro _ _ _ ⟨g1, rfl, rfl, rfl⟩
  refine XOA.wr0 rfl (WrA.st (tyrow rfl) rfl) ?_
  rintro _ _ _ ⟨rfl, rfl, rfl⟩
  refine zO rfl Rd.asg ?_; refine zO rfl Rd.asg ?_; refine zN ?_; refine zT ?_; refine zS ?_; refine zR ?_
  refine zO rfl (Rd.bl (fun _ _ => tyrow) rfl rfl rfl) ?_
  refine XOA.wr0 rfl (WrA.cE (run_ok σ3 _ progN (.slice none 0 0) [] 0 hpN (PInts.nil _) (by decide +kernel) (by decide) (by decide)) rfl) ?_
  rintro _ σ4 _ ⟨_, ⟨c4, s4, po4, pc4, co4, cc4, hrun4, rfl, hvo4, hvc4, hle4, hs4, rfl⟩, rfl⟩
  refine XOA.cl ?_
  obtain ⟨rfl, rfl⟩ := run_once hrun4 runN
  have hro4 := hro0.mono hs4
  refine zO rfl Rd.mv ?_
  refine zO rfl (Rd.extract rfl rfl) ?_
  refine zO rfl (Rd.extract rfl rfl) ?_
  refine zO rfl (Rd.extract rfl rfl) ?_
  refine XOA.wr0 rfl (WrA.alloc (tyrow rfl)) ?_
  rintro _ _ _ ⟨g4, rfl, rfl, rfl⟩
  refine XOA.wr0 rfl (WrA.st (tyrow rfl) rfl) ?_
  rintro _ _ _ ⟨rfl, rfl, rfl⟩
  refine zO rfl Rd.asg ?_; refine zO rfl Rd.asg ?_; refine zN ?_; refine zT ?_; refine zS ?_; refine zR ?_; refine zO rfl Rd.mv ?_; refine zO rfl (Rd.eql rfl rfl) ?_; refine zO rfl Rd.mv ?_
  first | ((first | refine zW ?_ | refine zQ ?_); refine zO rfl Rd.mv ?_) | refine zU ?_ | refine zV ?_ | refine zZ ?_
  first | ((first | refine zW ?_ | refine zQ ?_); refine zO rfl (Rd.eql rfl rfl) ?_) | refine zU ?_ | refine zV ?_ | refine zZ ?_
  refine zO rfl (by first | exact Rd.pT rfl | exact Rd.pF rfl | exact Rd.pP rfl) ?_
  refine zO rfl Rd.mv ?_
  first | ((first | refine zW ?_ | refine zQ ?_); refine zO rfl (Rd.fA rfl) ?_) | refine zU ?_ | refine zV ?_ | refine zZ ?_
  first | ((first | refine zW ?_ | refine zQ ?_); refine zO rfl (Rd.ldC rfl (tyrow rfl) rfl) ?_) | refine zU ?_ | refine zV ?_ | refine zZ ?_
  first | ((first | refine zW ?_ | refine zQ ?_); refine zO rfl (Rd.eql rfl rfl) ?_) | refine zU ?_ | refine zV ?_ | refine zZ ?_
  refine zO rfl (by first | exact Rd.pT rfl | exact Rd.pF rfl | exact Rd.pP rfl) ?_
  refine zO rfl Rd.mv ?_
  first | ((first | refine zW ?_ | refine zQ ?_); refine zO rfl (Rd.fA rfl) ?_) | refine zU ?_ | refine zV ?_ | refine zZ ?_
  first | ((first | refine zW ?_ | refine zQ ?_); refine zO rfl (Rd.ldC rfl (tyrow rfl) rfl) ?_) | refine zU ?_ | refine zV ?_ | refine zZ ?_
  first | ((first | refine zW ?_ | refine zQ ?_); refine zO rfl (Rd.lenSlice (tyrow rfl) rfl rfl) ?_) | refine zU ?_ | refine zV ?_ | refine zZ ?_
  first | ((first | refine zW ?_ | refine zQ ?_); refine zO rfl (Rd.eql rfl rfl) ?_) | refine zU ?_ | refine zV ?_ | refine zZ ?_
  refine zO rfl (by first | exact Rd.pT rfl | exact Rd.pF rfl | exact Rd.pP rfl) ?_
  refine zO rfl Rd.mv ?_
  first | ((first | refine zW ?_ | refine zQ ?_); refine zO rfl (Rd.fA rfl) ?_) | refine zU ?_ | refine zV ?_ | refine zZ ?_
  first | ((first | refine zW ?_ | refine zQ ?_); refine zO rfl (Rd.ldC rfl (tyrow rfl) rfl) ?_) | refine zU ?_ | refine zV ?_ | refine zZ ?_
  first | ((first | refine zW ?_ | refine zQ ?_); refine zO rfl (Rd.ixS rfl rfl) ?_) | refine zU ?_ | refine zV ?_ | refine zZ ?_
  first | ((first | refine zW ?_ | refine zQ ?_); refine zO rfl (Rd.ldC rfl (tyrow rfl) rfl) ?_) | refine zU ?_ | refine zV ?_ | refine zZ ?_
  first | ((first | refine zW ?_ | refine zQ ?_); refine zO rfl (Rd.eql rfl rfl) ?_) | refine zU ?_ | refine zV ?_ | refine zZ ?_
  refine zO rfl (by first | exact Rd.pT rfl | exact Rd.pF rfl | exact Rd.pP rfl) ?_
  refine zO rfl Rd.mv ?_
  first | ((first | refine zW ?_ | refine zQ ?_); refine zO rfl Rd.mv ?_) | refine zU ?_ | refine zV ?_ | refine zZ ?_
  first | ((first | refine zW ?_ | refine zQ ?_); refine zO rfl (Rd.eql rfl rfl) ?_) | refine zU ?_ | refine zV ?_ | refine zZ ?_
  refine zO rfl (by first | exact Rd.pT rfl | exact Rd.pF rfl | exact Rd.pP rfl) ?_
  refine zO rfl Rd.mv ?_
  first | ((first | refine zW ?_ | refine zQ ?_); refine zO rfl Rd.mv ?_) | refine zU ?_ | refine zV ?_ | refine zZ ?_
  first | ((first | refine zW ?_ | refine zQ ?_); refine zO rfl (Rd.eql rfl rfl) ?_) | refine zU ?_ | refine zV ?_ | refine zZ ?_
  refine zO rfl (by first | exact Rd.pT rfl | exact Rd.pF rfl | exact Rd.pP rfl) ?_
  refine zO rfl Rd.mv ?_
  first | ((first | refine zW ?_ | refine zQ ?_); refine zO rfl (Rd.fA rfl) ?_) | refine zU ?_ | refine zV ?_ | refine zZ ?_
  first | ((first | refine zW ?_ | refine zQ ?_); refine zO rfl (Rd.ldC rfl (tyrow rfl) rfl) ?_) | refine zU ?_ | refine zV ?_ | refine zZ ?_
  first | ((first | refine zW ?_ | refine zQ ?_); refine zO rfl (Rd.eql rfl rfl) ?_) | refine zU ?_ | refine zV ?_ | refine zZ ?_
  refine zO rfl (by first | exact Rd.pT rfl | exact Rd.pF rfl | exact Rd.pP rfl) ?_
  refine zO rfl Rd.asg ?_; refine zN ?_; refine zT ?_
  refine XA.ret ?_
  exact bodyA.ret (ResA.one rfl rfl) (Ent.nil _) ⟨rfl, (hs2.trans hs3).trans hs4, rfl⟩
end Go.Proofs.Ytbbghdkndbpmmaa
