/- The law MemoryDoes: its helpers. -/
import Derived.Test.YtplobdiknobhoaaMq
import Derived.Test.YtplobdiknobhoaaMr
namespace Go.Proofs.Ytplobdiknobhoaa
open Go X
set_option maxHeartbeats 4000000
theorem putC_flat {C : List (List Int)} (h : pgsOk C) {n : Nat} (hn : n < 112) (w : Int) : (putC C n w).flatten = C.flatten.set n w := by
  have hp : pgsOk (putC C n w) := by
    unfold putC; split
    · exact pgs_set h _ (by rw [List.length_set]; exact pgs_row8 h (by rw [Int.toNat_natCast]; omega))
    · exact h
  refine List.ext_getElem? (fun k => ?_)
  rw [List.getElem?_set]
  rcases Nat.lt_or_ge k 112 with hk | hk
  · rw [flat_get hp hk, wordC_put h n w hk]
    by_cases e : n = k
    · subst e; rw [if_pos rfl, if_pos rfl, if_pos (by rw [flat_len h]; exact hn)]
    · rw [if_neg (by omega), if_neg e, flat_get h hk]
  · rw [List.getElem?_eq_none (by rw [flat_len hp]; exact hk), if_neg (by omega), List.getElem?_eq_none (by rw [flat_len h]; exact hk)]
theorem word_a (σ : PH) (g : Nat) (X : List Int) (a : Int) (hX : X.length = 112) :
    CallsA Try.prog 48 #[.slice (some ⟨g, 0, none⟩) 112 112, i64 a] σ [blk g (ints X) 2] (RetA fun v σ' Γ' => v = i64 (if 0 ≤ a ∧ a < 112 then X.getD a.toNat 0 else 0) ∧ σ = σ' ∧ Γ' = [blk g (ints X) 2]) := by
  by_cases h0 : 0 ≤ a
  · obtain ⟨n, rfl⟩ := Int.eq_ofNat_of_zero_le h0
    by_cases h1 : n < 112
    · have hc := ints_get (l := X) (k := n) (by omega)
      rw [if_pos (by omega)]
      refine enterA2 Try.func48 rfl rfl rfl ?_
      refine XA.seq ?_
      refine XA.region ?_
      refine XOA.rd rfl Rd.asg ?_
      refine XOA.nil ?_
      refine DA.thn_normal ?_
      refine XA.seq ?_
      refine XA.seq ?_
      refine XA.region ?_
      refine XOA.rd rfl Rd.mv ?_
      refine XOA.rd rfl (Rd.lss rfl rfl) ?_
      refine XOA.rd rfl Rd.mv ?_
      first | ((first | refine XOA.wanted rfl rfl ?_ | refine XOA.wq rfl rfl ?_); refine XOA.rd rfl Rd.mv ?_) | refine XOA.unwanted rfl rfl rfl rfl ?_ | refine XOA.uq rfl rfl rfl ?_ | refine XOA.unwantedU rfl rfl rfl ?_
      first | ((first | refine XOA.wanted rfl rfl ?_ | refine XOA.wq rfl rfl ?_); refine XOA.rd rfl Rd.mv ?_) | refine XOA.unwanted rfl rfl rfl rfl ?_ | refine XOA.uq rfl rfl rfl ?_ | refine XOA.unwantedU rfl rfl rfl ?_
      first | ((first | refine XOA.wanted rfl rfl ?_ | refine XOA.wq rfl rfl ?_); refine XOA.rd rfl (Rd.lenSlice (tyrow rfl) rfl rfl) ?_) | refine XOA.unwanted rfl rfl rfl rfl ?_ | refine XOA.uq rfl rfl rfl ?_ | refine XOA.unwantedU rfl rfl rfl ?_
      first | ((first | refine XOA.wanted rfl rfl ?_ | refine XOA.wq rfl rfl ?_); refine XOA.rd rfl (Rd.geq rfl rfl) ?_) | refine XOA.unwanted rfl rfl rfl rfl ?_ | refine XOA.uq rfl rfl rfl ?_ | refine XOA.unwantedU rfl rfl rfl ?_
      refine XOA.rd rfl (by first | exact Rd.pT rfl | exact Rd.pF rfl | exact Rd.pP rfl) ?_
      refine XOA.nil ?_
      refine DA.thn_normal ?_
      refine XA.condF rfl (by first | rfl | exact (by first | exact (rfl : decide _ = true) | exact (rfl : decide _ = false) | (refine decide_eq_true ?_; assumption) | (refine decide_eq_false ?_; assumption) | (refine decide_eq_true ?_; omega) | (refine decide_eq_false ?_; omega))) ?_
      refine XA.skip ?_
      refine DA.thn_normal ?_
      refine XA.seq ?_
      refine XA.region ?_
      refine XOA.rd rfl Rd.mv ?_
      refine XOA.rd rfl Rd.mv ?_
      refine XOA.rd rfl (Rd.ixS rfl rfl) ?_
      refine XOA.rd rfl (Rd.ldC rfl (tyrow rfl) rfl) ?_
      refine XOA.rd rfl Rd.asg ?_
      refine XOA.nil ?_
      refine DA.thn_normal ?_
      refine XA.ret ?_
      exact bodyA.ret (ResA.one rfl rfl) (by (repeat (first | exact Ent.nil _ | (apply Ent.sel; focus (first | ((repeat (first | with_reducible exact Sel.head | apply Sel.tail)); done) | ((repeat (first | exact Sel.head | apply Sel.tail)); done))) | apply Ent.selNil | apply Ent.selEmp)); (first | done | fail)) ⟨rfl, rfl, rfl⟩
    · rw [if_neg (by omega)]
      refine enterA2 Try.func48 rfl rfl rfl ?_
      refine XA.seq ?_
      refine XA.region ?_
      refine XOA.rd rfl Rd.asg ?_
      refine XOA.nil ?_
      refine DA.thn_normal ?_
      refine XA.seq ?_
      refine XA.seq ?_
      refine XA.region ?_
      refine XOA.rd rfl Rd.mv ?_
      refine XOA.rd rfl (Rd.lss rfl rfl) ?_
      refine XOA.rd rfl Rd.mv ?_
      first | ((first | refine XOA.wanted rfl rfl ?_ | refine XOA.wq rfl rfl ?_); refine XOA.rd rfl Rd.mv ?_) | refine XOA.unwanted rfl rfl rfl rfl ?_ | refine XOA.uq rfl rfl rfl ?_ | refine XOA.unwantedU rfl rfl rfl ?_
      first | ((first | refine XOA.wanted rfl rfl ?_ | refine XOA.wq rfl rfl ?_); refine XOA.rd rfl Rd.mv ?_) | refine XOA.unwanted rfl rfl rfl rfl ?_ | refine XOA.uq rfl rfl rfl ?_ | refine XOA.unwantedU rfl rfl rfl ?_
      first | ((first | refine XOA.wanted rfl rfl ?_ | refine XOA.wq rfl rfl ?_); refine XOA.rd rfl (Rd.lenSlice (tyrow rfl) rfl rfl) ?_) | refine XOA.unwanted rfl rfl rfl rfl ?_ | refine XOA.uq rfl rfl rfl ?_ | refine XOA.unwantedU rfl rfl rfl ?_
      first | ((first | refine XOA.wanted rfl rfl ?_ | refine XOA.wq rfl rfl ?_); refine XOA.rd rfl (Rd.geq rfl rfl) ?_) | refine XOA.unwanted rfl rfl rfl rfl ?_ | refine XOA.uq rfl rfl rfl ?_ | refine XOA.unwantedU rfl rfl rfl ?_
      refine XOA.rd rfl (by first | exact Rd.pT rfl | exact Rd.pF rfl | exact Rd.pP rfl) ?_
      refine XOA.nil ?_
      refine DA.thn_normal ?_
      refine XA.condT rfl (by first | rfl | exact (by first | exact (rfl : decide _ = true) | exact (rfl : decide _ = false) | (refine decide_eq_true ?_; assumption) | (refine decide_eq_false ?_; assumption) | (refine decide_eq_true ?_; omega) | (refine decide_eq_false ?_; omega))) ?_
      refine XA.seq ?_
      refine XA.region ?_
      refine XOA.rd rfl Rd.asg ?_
      refine XOA.nil ?_
      refine DA.thn_normal ?_
      refine XA.ret ?_
      refine DA.thn_ret ?_
      exact bodyA.ret (ResA.one rfl rfl) (by (repeat (first | exact Ent.nil _ | (apply Ent.sel; focus (first | ((repeat (first | with_reducible exact Sel.head | apply Sel.tail)); done) | ((repeat (first | exact Sel.head | apply Sel.tail)); done))) | apply Ent.selNil | apply Ent.selEmp)); (first | done | fail)) ⟨rfl, rfl, rfl⟩
  · rw [if_neg (fun q => h0 q.1)]
    refine enterA2 Try.func48 rfl rfl rfl ?_
    refine XA.seq ?_
    refine XA.region ?_
    refine XOA.rd rfl Rd.asg ?_
    refine XOA.nil ?_
    refine DA.thn_normal ?_
    refine XA.seq ?_
    refine XA.seq ?_
    refine XA.region ?_
    refine XOA.rd rfl Rd.mv ?_
    refine XOA.rd rfl (Rd.lss rfl rfl) ?_
    refine XOA.rd rfl Rd.mv ?_
    first | ((first | refine XOA.wanted rfl rfl ?_ | refine XOA.wq rfl rfl ?_); refine XOA.rd rfl Rd.mv ?_) | refine XOA.unwanted rfl rfl rfl rfl ?_ | refine XOA.uq rfl rfl rfl ?_ | refine XOA.unwantedU rfl rfl rfl ?_
    first | ((first | refine XOA.wanted rfl rfl ?_ | refine XOA.wq rfl rfl ?_); refine XOA.rd rfl Rd.mv ?_) | refine XOA.unwanted rfl rfl rfl rfl ?_ | refine XOA.uq rfl rfl rfl ?_ | refine XOA.unwantedU rfl rfl rfl ?_
    first | ((first | refine XOA.wanted rfl rfl ?_ | refine XOA.wq rfl rfl ?_); refine XOA.rd rfl (Rd.lenSlice (tyrow rfl) rfl rfl) ?_) | refine XOA.unwanted rfl rfl rfl rfl ?_ | refine XOA.uq rfl rfl rfl ?_ | refine XOA.unwantedU rfl rfl rfl ?_
    first | ((first | refine XOA.wanted rfl rfl ?_ | refine XOA.wq rfl rfl ?_); refine XOA.rd rfl (Rd.geq rfl rfl) ?_) | refine XOA.unwanted rfl rfl rfl rfl ?_ | refine XOA.uq rfl rfl rfl ?_ | refine XOA.unwantedU rfl rfl rfl ?_
    refine XOA.rd rfl (by first | exact Rd.pT rfl | exact Rd.pF rfl | exact Rd.pP rfl) ?_
    refine XOA.nil ?_
    refine DA.thn_normal ?_
    refine XA.condT rfl (by first | rfl | exact (by first | exact (rfl : decide _ = true) | exact (rfl : decide _ = false) | (refine decide_eq_true ?_; assumption) | (refine decide_eq_false ?_; assumption) | (refine decide_eq_true ?_; omega) | (refine decide_eq_false ?_; omega))) ?_
    refine XA.seq ?_
    refine XA.region ?_
    refine XOA.rd rfl Rd.asg ?_
    refine XOA.nil ?_
    refine DA.thn_normal ?_
    refine XA.ret ?_
    refine DA.thn_ret ?_
    exact bodyA.ret (ResA.one rfl rfl) (by (repeat (first | exact Ent.nil _ | (apply Ent.sel; focus (first | ((repeat (first | with_reducible exact Sel.head | apply Sel.tail)); done) | ((repeat (first | exact Sel.head | apply Sel.tail)); done))) | apply Ent.selNil | apply Ent.selEmp)); (first | done | fail)) ⟨rfl, rfl, rfl⟩
theorem wordC_flat {C : List (List Int)} (h : pgsOk C) (a : Int) : (if 0 ≤ a ∧ a < 112 then C.flatten.getD a.toNat 0 else 0) = wordC C a := by
  by_cases ha : 0 ≤ a ∧ a < 112
  · obtain ⟨n, rfl⟩ := Int.eq_ofNat_of_zero_le ha.1
    rw [if_pos ha, List.getD_eq_getElem?_getD, Int.toNat_natCast, flat_get h (by omega)]; rfl
  · rw [if_neg ha, wordC_out ha]
theorem vword {v : VS} (h : v.ok) {n : Nat} (hn : n < 112) : (i64 v.gen :: (ints v.pages.flatten ++ (.bool v.waits :: ints v.next.flatten)))[1 + n / 8 * 8 + n % 8]? = some (i64 (wordC v.pages n)) := by
  have h1 := pgs_row h.1 (n := n / 8) (by omega) (i64 v.gen) (.bool v.waits :: ints v.next.flatten)
  have h2 : (((i64 v.gen :: (ints v.pages.flatten ++ (.bool v.waits :: ints v.next.flatten))).drop (1 + n / 8 * 8)).take 8)[n % 8]? = some (i64 ((v.pages.getD (n / 8) DiskS.zeros).getD (n % 8) 0)) := by
    rw [h1, ints_get (by rw [pgs_row8 h.1 (by omega)]; omega)]
  rw [List.getElem?_take, if_pos (by omega), List.getElem?_drop, ← wordC_nat _ hn] at h2
  exact h2
theorem Rel.pagesC {d : DiskS} {s : StS} {v : VS} (h : Rel d s v) : v.pages = pagesC d s := pgs_ext h.ok.1 (pagesC_ok h.good.dok s) (fun p hp => by rw [pagesC_get _ _ hp, h.page p hp])
theorem wake_a (σ : PH) (g3 g4 g5 g6 g7 gn gv db b0 : Nat) (d : DiskS) (s : StS) (v : VS) (dt : List Bool) (X : List Int) (hX : X.length = 112) (hdt : dt.length = 14) (hrel : Rel d s v) :
    CallsA Try.prog 47 #[ptr g6, ptr g4, ptr g7, ptr g3, ptr g5] σ [blk g6 [.slice (some ⟨gn, 0, none⟩) 112 112] 77, blk gn (ints X) 2, blk g4 [ptr gv] 47, Vault gv v, blk g7 (bools dt) 84, blk g3 [ptr db] 24, Disk db d, blk g5 [ptr b0] 72]
      (RetA fun r σ' Γ' => r = .tuple #[] ∧ σ = σ' ∧ ∃ b sb, Γ' = [blk g6 [.slice (some ⟨gn, 0, none⟩) 112 112] 77, blk gn (ints (pagesC d s).flatten) 2, blk g4 [ptr gv] 47, Vault gv v, blk g7 (bools noB) 84, blk g3 [ptr db] 24, Disk db d, blk g5 [ptr b] 72, blk b (mcells sb noB noB noP) 88, Store sb db s]) := by
  have hfl := flat_len (pagesC_ok hrel.good.dok s)
  have hbl : (bools dt).length = 14 := by rw [bools_len]; exact hdt
  refine enterA5 Try.func47 rfl rfl rfl ?_
  refine XA.seq ?_
  refine XA.seq ?_
  refine XA.region ?_
  first | refine XA.opn (R := Vault gv v) (by ((repeat (first | with_reducible exact Sel.head | apply Sel.tail)); (first | done | fail))) (Vault.opn) ?_ | refine XOA.opn (R := Vault gv v) (by ((repeat (first | with_reducible exact Sel.head | apply Sel.tail)); (first | done | fail))) (Vault.opn) ?_ | refine DA.opn (R := Vault gv v) (by ((repeat (first | with_reducible exact Sel.head | apply Sel.tail)); (first | done | fail))) (Vault.opn) ?_
  rintro ⟨⟩ hok
  first | refine XA.cl ?_ | refine XOA.cl ?_ | refine DA.cl ?_
  refine XOA.rd rfl Rd.asg ?_
  refine XOA.nil ?_
  refine DA.thn_normal ?_
  refine XA.block ?_
  refine XA.gen [(0, _), (1, _), (2, _), (3, _), (4, _), (5, _)] ⟨(by with_reducible (conv => lhs; whnf)), (by with_reducible (conv => lhs; whnf)), (by with_reducible (conv => lhs; whnf)), (by with_reducible (conv => lhs; whnf)), (by with_reducible (conv => lhs; whnf)), (by with_reducible (conv => lhs; whnf)), trivial⟩ (fun δ => ?_)
  dsimp only [List.foldl]
  refine XA.loop [(5, 24)] (fun k : Nat => [(5, i64 k)]) (fun k σ' Γ' => σ = σ' ∧ k ≤ 112 ∧ ∃ Y : List Int, Y.length = 112 ∧ (∀ i, i < k → Y[i]? = (pagesC d s).flatten[i]?) ∧ Γ' = [blk g6 [.slice (some ⟨gn, 0, none⟩) 112 112] 77, blk gn (ints Y) 2, blk g4 [ptr gv] 47, blk gv (i64 v.gen :: (ints v.pages.flatten ++ (.bool v.waits :: ints v.next.flatten))) 50, blk g7 (bools dt) 84, blk g3 [ptr db] 24, Disk db d, blk g5 [ptr b0] 72]) (fun k => 112 - k) 0 (by exact ⟨rfl, trivial⟩) (Δ0 := _) ?_ (⟨rfl, Nat.zero_le _, X, hX, fun i h => absurd h (Nat.not_lt_zero _), rfl⟩) ?_
  · exact (by (repeat (first | exact Ent.nil _ | (apply Ent.sel; focus (first | ((repeat (first | with_reducible exact Sel.head | apply Sel.tail)); done) | ((repeat (first | exact Sel.head | apply Sel.tail)); done))) | apply Ent.selNil | apply Ent.selEmp)); (first | done | fail))
  rintro k δ _ _ ⟨rfl, hk, Y, hY, hall, rfl⟩
  dsimp only [ovr, List.foldl]
  refine XA.seq ?_
  refine XA.seq ?_
  refine XA.region ?_
  refine XOA.rd rfl Rd.mv ?_
  refine XOA.rd rfl (Rd.ldC rfl (tyrow rfl) rfl) ?_
  refine XOA.rd rfl (Rd.lenSlice (tyrow rfl) rfl rfl) ?_
  refine XOA.rd rfl (Rd.lss rfl rfl) ?_
  refine XOA.nil ?_
  refine DA.thn_normal ?_
  refine XA.condp rfl (fun hlt => ?_) (fun hlt => ?_)
  · have hlt : k < 112 := by omega
    have hvw := vword hok hlt
    rw [hrel.pagesC] at hvw
    have hspl := ints_put (l := Y) (k := k) (by omega) (wordC (pagesC d s) k)
    have hfit : k + ty2.size ≤ (ints Y).length := by rw [ints_len, hY]; show k + 1 ≤ 112; omega
    have hq := quo8 hlt
    have hr8 := rem8 k
    have hnew : ∀ i, i < k + 1 → (Y.set k (wordC (pagesC d s) k))[i]? = (pagesC d s).flatten[i]? := fun i hi => by
      rw [List.getElem?_set]
      by_cases e : k = i
      · subst e; rw [if_pos rfl, if_pos (by omega), flat_get (pagesC_ok hrel.good.dok s) hlt]
      · rw [if_neg e]; exact hall i (by omega)
    rw [← hrel.pagesC] at hspl hnew hvw
    refine XA.skip ?_
    refine DA.thn_normal ?_
    refine XA.seq ?_
    refine XA.block ?_
    refine XA.draw (by kernel_rfl) _ _ [13] [(0, .rd), (1, .pu), (2, .rd), (3, .pu), (4, .pu), (5, .pu), (6, .pu), (7, .pu), (8, .pu), (9, .pu), (10, .pu), (11, .rd), (12, .pu), (13, .wr)] (by kernel_rfl) (PH.sub.refl _) (Ent.sel (R := blk g6 _ _) (by ((repeat (first | with_reducible exact Sel.head | apply Sel.tail)); (first | done | fail))) (Ent.sel (R := blk g4 _ _) (by ((repeat (first | with_reducible exact Sel.head | apply Sel.tail)); (first | done | fail))) (Ent.sel (R := blk gv _ _) (by ((repeat (first | with_reducible exact Sel.head | apply Sel.tail)); (first | done | fail))) (Ent.nil _)))) ?_
    refine XPA.rd rfl rfl Gd.free (Rd.ldC rfl (tyrow rfl) rfl) ?_
    refine XPA.pu rfl rfl Gd.free Rd.mv ?_
    refine XPA.rd rfl rfl Gd.free (Rd.ldC rfl (tyrow rfl) rfl) ?_
    refine XPA.pu rfl rfl Gd.free Rd.mv ?_
    refine XPA.pu rfl rfl Gd.free (Rd.quoi (c := ((k / 8 : Nat) : Int)) rfl rfl (by decide) hq) ?_
    refine XPA.pu rfl rfl Gd.free Rd.mv ?_
    refine XPA.pu rfl rfl Gd.free (Rd.remi (c := ((k % 8 : Nat) : Int)) rfl rfl (by decide) hr8) ?_
    refine XPA.pu rfl rfl Gd.free (Rd.nilCheck rfl) ?_
    refine XPA.pu rfl rfl Gd.free (Rd.fA rfl) ?_
    refine XPA.pu rfl rfl Gd.free (Rd.ixA rfl rfl) ?_
    refine XPA.pu rfl rfl Gd.free (Rd.ixA rfl rfl) ?_
    refine XPA.rd rfl rfl Gd.free (Rd.ldC rfl (tyrow rfl) rfl) ?_
    refine XPA.pu rfl rfl Gd.free (Rd.ixS rfl rfl) ?_
    refine XPA.wrZ0 rfl rfl Gd.free (by kernel_rfl) (WrA.st (tyrow rfl) rfl) ?_
    rintro _ _ _ ⟨rfl, rfl, rfl⟩
    refine XPA.nil ?_
    refine DA.inb_normal ?_
    refine DA.thn_normal ?_
    refine XA.region ?_
    refine XOA.rd rfl Rd.mv ?_
    refine XOA.rd rfl (by first | exact Rd.adi rfl rfl | exact Rd.add rfl rfl) ?_
    refine XOA.rd rfl Rd.asg ?_
    refine XOA.nil ?_
    refine DA.thn_normal ?_
    refine ⟨(Keep.upd (Keep.upd (Keep.upd (Keep.updN (Keep.upd (Keep.upd (Keep.upd (Keep.upd (Keep.upd (Keep.upd (Keep.upd (Keep.upd (Keep.upd (Keep.upd (Keep.upd (Keep.upd (Keep.upd (Keep.upd (Keep.upd (Keep.upd (Keep.upd (Keep.upd (Keep.hav (Keep.refl _ _) rfl) rfl) rfl) rfl) rfl) rfl) rfl) rfl) rfl) rfl) rfl) rfl) rfl) rfl) rfl) rfl) rfl) rfl) rfl)) rfl) rfl) rfl), k + 1, _, (by (repeat (first | exact trivial | refine ⟨rfl, ?_⟩ | refine ⟨Eq.trans rfl (congrArg Value.bool hmat.symm), ?_⟩)); (first | done | fail)), ?_, ⟨rfl, hlt, Y.set k (wordC v.pages k), by rw [List.length_set]; exact hY, by rw [← hrel.pagesC]; exact hnew, rfl⟩, (by omega)⟩
    · exact (by (repeat (first | exact Ent.nil _ | (apply Ent.sel; focus (first | ((repeat (first | with_reducible exact Sel.head | apply Sel.tail)); done) | ((repeat (first | exact Sel.head | apply Sel.tail)); done))) | apply Ent.selNil | apply Ent.selEmp)); (first | done | fail))
  obtain rfl : k = 112 := by omega
  have hYe : Y = (pagesC d s).flatten := List.ext_getElem? (fun i => by
    rcases Nat.lt_or_ge i 112 with h | h
    · exact hall i h
    · rw [List.getElem?_eq_none (by omega), List.getElem?_eq_none (by omega)])
  subst hYe
  have hspl : splice (bools dt) 0 (bools noB) = bools noB := splice_all (by rw [hbl]; rfl)
  have hfit : 0 + ty84.size ≤ (bools dt).length := by rw [hbl]; decide
  refine XA.exit ?_
  refine DA.thn_exit ?_
  refine DA.thn_exit ?_
  refine DA.inb_same ?_
  refine DA.thn_normal ?_
  refine XA.seq ?_
  refine XA.region ?_
  refine XOA.rd rfl (Rd.blA (fun _ _ => tyrow) rfl rfl rfl) ?_
  refine XOA.wr0 rfl (WrA.st (tyrow rfl) rfl) ?_
  rintro _ _ _ ⟨rfl, rfl, rfl⟩
  refine XOA.nil ?_
  refine DA.thn_normal ?_
  refine XA.region ?_
  refine XOA.rd rfl (Rd.ldC rfl (tyrow rfl) rfl) ?_
  refine XOA.wr0 rfl (WrA.cE (open_a σ db d hrel.good.dok hrel.good.wlen') rfl) ?_
  rintro _ _ _ ⟨_, ⟨sb, rfl, rfl, rfl⟩, rfl⟩
  refine XOA.cl ?_
  rw [hrel.good.open]
  refine XOA.wr0 rfl (WrA.cE (mnew_a σ sb) rfl) ?_
  rintro _ _ _ ⟨_, ⟨b, rfl, rfl, rfl⟩, rfl⟩
  refine XOA.cl ?_
  refine XOA.wr0 rfl (WrA.st (tyrow rfl) rfl) ?_
  rintro _ _ _ ⟨rfl, rfl, rfl⟩
  refine XOA.nil ?_
  refine DA.ent (Ent.foldC (Θ := [blk gv _ 50]) (by (repeat (first | exact Ent.all _ | (apply Ent.take; focus (first | ((repeat (first | with_reducible exact Sel.head | apply Sel.tail)); done) | ((repeat (first | exact Sel.head | apply Sel.tail)); done))) | apply Ent.takeNil | apply Ent.takeEmp)); (first | done | fail)) (Vault.mk hok rfl) (Ent.refl _)) ?_
  exact bodyA.normal (ResA.none rfl) (by (repeat (first | exact Ent.nil _ | (apply Ent.sel; focus (first | ((repeat (first | with_reducible exact Sel.head | apply Sel.tail)); done) | ((repeat (first | exact Sel.head | apply Sel.tail)); done))) | apply Ent.selNil | apply Ent.selEmp)); (first | done | fail)) ⟨rfl, rfl, b, sb, rfl⟩
end Go.Proofs.Ytplobdiknobhoaa
