/- Package store: Commit walked. -/
import Derived.Test.YtplobdiknobhoaaSy
namespace Go.Proofs.Ytplobdiknobhoaa
open Go X
set_option maxHeartbeats 2000000
theorem commit_no (σ : PH) (b : Nat) (sl : Value) (l : List PageS) (D : Int) (hl : PSl 9 rPage σ sl l) (hc : checkS l ≠ 0) :
    CallsA Try.prog 33 #[ptr b, sl, i64 D] σ [] (RetA fun v σ' Γ' => v = .tuple #[.bool false, i64 (checkS l)] ∧ σ = σ' ∧ Γ' = []) := by
  refine enterA3 Try.func33 rfl rfl rfl ?_
  refine XA.seq ?_
  refine XA.region ?_
  refine XOA.rd rfl Rd.asg ?_
  refine XOA.rd rfl Rd.asg ?_
  refine XOA.nil ?_
  refine DA.thn_normal ?_
  refine XA.seq ?_
  refine XA.seq ?_
  refine XA.region ?_
  refine XOA.rd rfl Rd.mv ?_
  refine XOA.wr0 rfl (WrA.cE (scheck_a σ sl l hl) rfl) ?_
  rintro _ _ _ ⟨_, ⟨rfl, rfl, rfl⟩, rfl⟩
  refine XOA.cl ?_
  refine XOA.rd rfl Rd.asg ?_
  refine XOA.nil ?_
  refine DA.thn_normal ?_
  refine XA.seq ?_
  refine XA.region ?_
  refine XOA.rd rfl Rd.mv ?_
  refine XOA.rd rfl (Rd.neq rfl rfl) ?_
  refine XOA.nil ?_
  refine DA.thn_normal ?_
  refine XA.condT rfl (decide_eq_true hc) ?_
  refine XA.seq ?_
  refine XA.region ?_
  refine XOA.rd rfl Rd.mv ?_
  refine XOA.rd rfl Rd.asg ?_
  refine XOA.rd rfl Rd.asg ?_
  refine XOA.nil ?_
  refine DA.thn_normal ?_
  refine XA.ret ?_
  refine DA.thn_ret ?_
  exact bodyA.ret (ResA.two rfl rfl rfl) (by (repeat (first | exact Ent.nil _ | (apply Ent.sel; focus (first | ((repeat (first | with_reducible exact Sel.head | apply Sel.tail)); done) | ((repeat (first | exact Sel.head | apply Sel.tail)); done))) | apply Ent.selNil | apply Ent.selEmp)); (first | done | fail)) ⟨rfl, rfl, rfl⟩
theorem getD_some {l : List Int} {k : Nat} (h : k < l.length) : l[k]? = some (l.getD k 0) := by simp [List.getD_eq_getElem?_getD, h]
theorem commit_yes (σ : PH) (b db : Nat) (s : StS) (d : DiskS) (sl : Value) (l : List PageS) (D : Int) (hl : PSl 9 rPage σ sl l) (hc : checkS l = 0) (hs : s.ok) (hg0 : 0 ≤ s.gen) (hg1 : s.gen < 4611686018427387904) (hD : okD D) (hlen : d.wait.length < 900) :
    CallsA Try.prog 33 #[ptr b, sl, i64 D] σ [Store b db s, Disk db d]
      (RetA fun v σ' Γ' => ∃ j : Nat, j ≤ l.length + 5 ∧ (j < l.length + 5 → D = (j : Int)) ∧ (j = l.length + 5 → ∀ i : Nat, i < l.length + 5 → D ≠ (i : Int)) ∧ v = .tuple #[.bool (decide (j = l.length + 5)), i64 0] ∧ σ.sub σ' ∧ Γ' = [Store b db (if j = l.length + 5 then nextS s l else s), Disk db (comD d s l j)]) := by
  obtain ⟨hn, hnd, hl14⟩ := check_zero hc
  obtain ⟨t0, t1, ht⟩ := st_cells hs
  obtain ⟨g, t, pg⟩ := s
  simp only at ht hg0 hg1
  subst ht
  have hpg : pg.length = 14 := hs.2
  have hvl : (i64 g :: i64 t0 :: i64 t1 :: ints pg).length = 17 := by simp [hpg]
  have htk : ((ptr db :: i64 g :: i64 t0 :: i64 t1 :: ints pg).drop 1).take 17 = i64 g :: i64 t0 :: i64 t1 :: ints pg := take_eq hvl
  have hone : ones (i64 g :: i64 t0 :: i64 t1 :: ints pg) := ones_cons rfl (ones_cons rfl (ones_cons rfl (ones_ints _)))
  obtain ⟨u, hu⟩ : ∃ u, u = t0 :: t1 :: pg := ⟨_, rfl⟩
  have hfree : freeS ⟨g, [t0, t1], pg⟩ = freeTo u 32 := by subst hu; rfl
  have hfl : 16 ≤ (freeTo u 32).length := by have := freeTo_len u 32; rw [hu] at this ⊢; simp only [List.length_cons, hpg] at this; omega
  have hul : u.length = 16 := by subst hu; simp [hpg]
  refine enterA3 Try.func33 rfl rfl rfl ?_
  refine XA.seq ?_
  refine XA.region ?_
  refine XOA.rd rfl Rd.asg ?_
  refine XOA.rd rfl Rd.asg ?_
  refine XOA.nil ?_
  refine DA.thn_normal ?_
  refine XA.seq ?_
  refine XA.seq ?_
  refine XA.region ?_
  refine XOA.rd rfl Rd.mv ?_
  refine XOA.wr0 rfl (WrA.cE (scheck_a σ sl l hl) rfl) ?_
  rintro _ _ _ ⟨_, ⟨rfl, rfl, rfl⟩, rfl⟩
  refine XOA.cl ?_
  rw [hc]
  refine XOA.rd rfl Rd.asg ?_
  refine XOA.nil ?_
  refine DA.thn_normal ?_
  refine XA.seq ?_
  refine XA.region ?_
  refine XOA.rd rfl Rd.mv ?_
  refine XOA.rd rfl (Rd.neq rfl rfl) ?_
  refine XOA.nil ?_
  refine DA.thn_normal ?_
  refine XA.condF rfl rfl ?_
  refine XA.skip ?_
  refine DA.thn_normal ?_
  refine XA.seq ?_
  refine XA.region ?_
  refine XOA.rd rfl Rd.mv ?_
  refine XOA.rd rfl Rd.mv ?_
  refine XOA.rd rfl Rd.mv ?_
  first | refine XA.opn (R := Store b db _) (by ((repeat (first | with_reducible exact Sel.head | apply Sel.tail)); (first | done | fail))) (Store.opn) ?_ | refine XOA.opn (R := Store b db _) (by ((repeat (first | with_reducible exact Sel.head | apply Sel.tail)); (first | done | fail))) (Store.opn) ?_ | refine DA.opn (R := Store b db _) (by ((repeat (first | with_reducible exact Sel.head | apply Sel.tail)); (first | done | fail))) (Store.opn) ?_
  rintro ⟨⟩ -
  first | refine XA.cl ?_ | refine XOA.cl ?_ | refine DA.cl ?_
  refine XOA.re (Δ := [blk b (ptr db :: i64 g :: i64 t0 :: i64 t1 :: ints pg) 104, Disk db d]) rfl ?_
  refine XOA.rd rfl (Rd.nilCheck rfl) ?_
  refine XOA.rd rfl (Rd.fA rfl) ?_
  refine XOA.rd rfl (Rd.ldA rfl) ?_
  refine XOA.rd rfl (Rd.bl (fun _ _ => tyrow) rfl rfl rfl) ?_
  refine XOA.wr0 rfl WrA.bx ?_
  rintro _ _ _ ⟨g24, rfl, rfl, rfl⟩
  refine XOA.rd rfl Rd.asg ?_
  refine XOA.nil ?_
  refine DA.thn_normal ?_
  refine XA.seq ?_
  refine XA.region ?_
  refine XOA.rd rfl Rd.mv ?_
  refine XOA.rd rfl (Rd.nilCheck rfl) ?_
  refine XOA.rd rfl (Rd.fA rfl) ?_
  refine XOA.rd rfl (Rd.fA rfl) ?_
  refine XOA.rd rfl (Rd.ldC rfl (tyrow rfl) rfl) ?_
  refine XOA.rd rfl (by first | exact Rd.adi rfl rfl | exact Rd.add rfl rfl) ?_
  refine XOA.rd rfl (Rd.nilCheck rfl) ?_
  refine XOA.rd rfl (Rd.fA rfl) ?_
  refine XOA.rd rfl (Rd.fA rfl) ?_
  refine XOA.wr0 rfl (WrA.st (tyrow rfl) rfl) ?_
  rintro _ _ _ ⟨rfl, rfl, rfl⟩
  refine XOA.nil ?_
  refine DA.thn_normal ?_
  refine XA.seq ?_
  refine XA.region ?_
  refine XOA.rd rfl Rd.mv ?_
  refine XOA.rd rfl (Rd.nilCheck rfl) ?_
  refine XOA.rd rfl (Rd.fA rfl) ?_
  refine XOA.wr0 rfl (WrA.cE (used_a σ b db g t0 t1 pg hpg) rfl) ?_
  rintro _ _ _ ⟨_, ⟨pu, cu, rfl, rfl, rfl⟩, rfl⟩
  refine XOA.cl ?_
  rw [← hu]
  refine XOA.frz (R := lst 3 1 (.slice pu 16 cu) 16 (ints u)) (φ := fun (_ : Unit) m => PInts m (.slice pu 16 cu) u) (by ((repeat (first | with_reducible exact Sel.head | apply Sel.tail)); (first | done | fail))) (fun m h => ⟨(), lst_pints h⟩) (fun _ _ _ h s => h.mono s) ?_
  rintro σ1 ⟨⟩ hpu hs1
  refine XOA.rd rfl Rd.asg ?_
  refine XOA.nil ?_
  refine DA.thn_normal ?_
  refine XA.seq ?_
  refine XA.seq ?_
  refine XA.region ?_
  refine XOA.rd rfl Rd.asg ?_
  refine XOA.nil ?_
  refine DA.thn_normal ?_
  refine XA.block ?_
  refine XA.gen [(0, _), (1, _), (6, _), (7, _), (9, _), (10, _), (11, _)] ⟨(by with_reducible (conv => lhs; whnf)), (by with_reducible (conv => lhs; whnf)), (by with_reducible (conv => lhs; whnf)), (by with_reducible (conv => lhs; whnf)), (by with_reducible (conv => lhs; whnf)), (by with_reducible (conv => lhs; whnf)), (by with_reducible (conv => lhs; whnf)), trivial⟩ (fun δ => ?_)
  dsimp only [List.foldl]
  refine XA.loop [(11, 11), (38, 55)] (fun k : Nat => [(11, i64 ((k + 2 : Nat) : Int))]) (fun k σ' Γ' => σ1 = σ' ∧ k ≤ 32 ∧ ∃ (p : Option Addr) (c : Nat), Γ' = [lst 3 1 (.slice p (freeTo u k).length c) (freeTo u k).length (ints (freeTo u k)), blk g24 (comC b D (g + 1) t0 t1 pg (.slice p (freeTo u k).length c)) 110, blk b (ptr db :: i64 g :: i64 t0 :: i64 t1 :: ints pg) 104, Disk db d]) (fun k => 32 - k) 0 (by exact ⟨rfl, trivial⟩) (Δ0 := _) ?_ (⟨rfl, by decide, none, 0, rfl⟩) ?_
  · exact (Ent.selNil (e := 3) (size := 1) (by (repeat (first | exact Ent.nil _ | (apply Ent.sel; focus (first | ((repeat (first | with_reducible exact Sel.head | apply Sel.tail)); done) | ((repeat (first | exact Sel.head | apply Sel.tail)); done))) | apply Ent.selNil | apply Ent.selEmp)); (first | done | fail)))
  rintro k δ _ _ ⟨rfl, hk, p, cc, rfl⟩
  dsimp only [ovr, List.foldl]
  have hfk := freeTo_le u k
  refine XA.seq ?_
  refine XA.seq ?_
  refine XA.region ?_
  refine XOA.rd rfl Rd.mv ?_
  refine XOA.rd rfl (Rd.lss rfl rfl) ?_
  refine XOA.nil ?_
  refine DA.thn_normal ?_
  refine XA.condp rfl (fun hlt => ?_) (fun hlt => ?_)
  · have hlt : k < 32 := by omega
    refine XA.skip ?_
    refine DA.thn_normal ?_
    refine XA.seq ?_
    refine XA.block ?_
    refine XA.seq ?_
    refine XA.region ?_
    refine XOA.rd rfl Rd.mv ?_
    refine XOA.rd rfl Rd.mv ?_
    refine XOA.wr0 rfl (WrA.cE (contains_a σ1 _ u ((k + 2 : Nat) : Int) hpu) rfl) ?_
    rintro _ _ _ ⟨_, ⟨rfl, rfl, rfl⟩, rfl⟩
    refine XOA.cl ?_
    refine XOA.rd rfl (by first | exact Rd.notp rfl | exact Rd.not rfl) ?_
    refine XOA.nil ?_
    refine DA.thn_normal ?_
    refine XA.condp rfl (fun hin => ?_) (fun hin => ?_)
    · have e1 : freeTo u (k + 1) = freeTo u k ++ [((k + 2 : Nat) : Int)] := by rw [freeTo_succ, if_neg hin]
      have hlast := com_last (sb := b) (left := D) (gen := g + 1) (t0 := t0) (t1 := t1) (fr := .slice p (freeTo u k).length cc) hpg
      have hspl := fun fr' => com_put19 (sb := b) (left := D) (gen := g + 1) (t0 := t0) (t1 := t1) (fr := .slice p (freeTo u k).length cc) hpg fr'
      have hfit : 19 + ty27.size ≤ (comC b D (g + 1) t0 t1 pg (.slice p (freeTo u k).length cc)).length := by rw [com_len hpg]; decide
      obtain ⟨fk, hfkk⟩ : ∃ fk, fk = freeTo u k := ⟨_, rfl⟩
      rw [← hfkk] at e1 hlast hspl hfit hfk ⊢
      refine XA.region ?_
      refine XOA.rd rfl Rd.mv ?_
      refine XOA.rd rfl Rd.mv ?_
      refine XOA.rd rfl (Rd.nilCheck rfl) ?_
      refine XOA.rd rfl (Rd.fA rfl) ?_
      refine XOA.rd rfl (Rd.ldC rfl (tyrow rfl) rfl) ?_
      refine XOA.rd rfl Rd.mv ?_
      refine XOA.wr0 rfl (WrA.bs1 (tyrow rfl) rfl (tyrow rfl)) ?_
      rintro _ _ _ ⟨g52, rfl, rfl, rfl⟩
      refine XOA.wr0 rfl (WrA.ap1 (tyrow rfl) rfl (tyrow rfl) rfl rfl rfl) ?_
      rintro _ _ _ ⟨p53, c53, rfl, rfl, rfl⟩
      refine XOA.rd rfl (Rd.nilCheck rfl) ?_
      refine XOA.rd rfl (Rd.fA rfl) ?_
      refine XOA.wr0 rfl (WrA.st (tyrow rfl) rfl) ?_
      rintro _ _ _ ⟨rfl, rfl, rfl⟩
      refine XOA.nil ?_
      refine DA.inb_normal ?_
      refine DA.thn_normal ?_
      refine XA.region ?_
      refine XOA.rd rfl Rd.mv ?_
      refine XOA.rd rfl (by first | exact Rd.adi rfl rfl | exact Rd.add rfl rfl) ?_
      refine XOA.rd rfl Rd.asg ?_
      refine XOA.nil ?_
      refine DA.thn_normal ?_
      refine ⟨(Keep.upd (Keep.upd (Keep.upd (Keep.updN (Keep.upd (Keep.upd (Keep.updO (Keep.updO (Keep.upd (Keep.upd (Keep.upd (Keep.upd (Keep.upd (Keep.upd (Keep.upd (Keep.updO (Keep.upd (Keep.upd (Keep.upd (Keep.upd (Keep.upd (Keep.hav (Keep.hav (Keep.refl _ _) rfl) rfl) rfl) rfl) rfl) rfl) rfl) rfl) rfl) rfl) rfl) rfl) rfl) rfl) rfl) rfl) rfl) rfl) rfl)) rfl) rfl) rfl), k + 1, _, (by (repeat (first | exact trivial | refine ⟨rfl, ?_⟩ | refine ⟨Eq.trans rfl (congrArg Value.bool hmat.symm), ?_⟩)); (first | done | fail)), ?_, ⟨rfl, hlt, p53, c53, by rw [e1, List.length_append, List.length_singleton]⟩, (by omega)⟩
      · rw [show ints (fk ++ [((k + 2 : Nat) : Int)]) = ints fk ++ [i64 ((k + 2 : Nat) : Int)] from by simp]; exact (by (repeat (first | exact Ent.nil _ | (apply Ent.sel; focus (first | ((repeat (first | with_reducible exact Sel.head | apply Sel.tail)); done) | ((repeat (first | exact Sel.head | apply Sel.tail)); done))) | apply Ent.selNil | apply Ent.selEmp)); (first | done | fail))
    · have hin : ((k + 2 : Nat) : Int) ∈ u := Decidable.not_not.1 hin
      have e1 : freeTo u (k + 1) = freeTo u k := by rw [freeTo_succ, if_pos hin, List.append_nil]
      refine XA.skip ?_
      refine DA.inb_normal ?_
      refine DA.thn_normal ?_
      refine XA.region ?_
      refine XOA.rd rfl Rd.mv ?_
      refine XOA.rd rfl (by first | exact Rd.adi rfl rfl | exact Rd.add rfl rfl) ?_
      refine XOA.rd rfl Rd.asg ?_
      refine XOA.nil ?_
      refine DA.thn_normal ?_
      refine ⟨(Keep.upd (Keep.upd (Keep.upd (Keep.upd (Keep.updO (Keep.upd (Keep.upd (Keep.upd (Keep.upd (Keep.upd (Keep.hav (Keep.hav (Keep.refl _ _) rfl) rfl) rfl) rfl) rfl) rfl) rfl) rfl) rfl) rfl) rfl) rfl), k + 1, _, (by (repeat (first | exact trivial | refine ⟨rfl, ?_⟩ | refine ⟨Eq.trans rfl (congrArg Value.bool hmat.symm), ?_⟩)); (first | done | fail)), ?_, ⟨rfl, hlt, p, cc, by rw [e1]⟩, (by omega)⟩
      · exact (by (repeat (first | exact Ent.nil _ | (apply Ent.sel; focus (first | ((repeat (first | with_reducible exact Sel.head | apply Sel.tail)); done) | ((repeat (first | exact Sel.head | apply Sel.tail)); done))) | apply Ent.selNil | apply Ent.selEmp)); (first | done | fail))
  have hk32 : k = 32 := by omega
  subst hk32
  obtain ⟨F, hF⟩ : ∃ F, F = freeTo u 32 := ⟨_, rfl⟩
  rw [← hF] at hfree hfl hfk ⊢
  refine XA.exit ?_
  refine DA.thn_exit ?_
  refine DA.thn_exit ?_
  refine DA.inb_same ?_
  refine DA.thn_normal ?_
  refine XA.seq ?_
  refine XA.seq ?_
  refine XA.region ?_
  refine XOA.rd rfl Rd.mv ?_
  refine XOA.rd rfl Rd.mv ?_
  refine XOA.frz (R := lst 3 1 (.slice p F.length cc) F.length (ints F)) (φ := fun (_ : Unit) m => PInts m (.slice p F.length cc) F) (by ((repeat (first | with_reducible exact Sel.head | apply Sel.tail)); (first | done | fail))) (fun m h => ⟨(), lst_pints h⟩) (fun _ _ _ h s => h.mono s) ?_
  rintro σ2 ⟨⟩ hfr hs2
  have hs12 := hs1.trans hs2
  have hl2 := hl.mono hs12 (fun _ _ h => h)
  refine XOA.re (Δ := [blk g24 (comC b (leftOf D 0) (g + 1) t0 t1 pg (.slice p F.length cc)) 110, blk b (ptr db :: i64 g :: i64 t0 :: i64 t1 :: ints pg) 104, Disk db d]) (by rw [left_start hD]) ?_
  obtain ⟨S, hS⟩ : ∃ S : StS, S = ⟨g, [t0, t1], pg⟩ := ⟨_, rfl⟩
  have hSc : ptr db :: i64 g :: i64 t0 :: i64 t1 :: ints pg = ptr db :: S.cells := by rw [hS]; rfl
  have hSok : S.ok := by rw [hS]; exact hs
  rw [← hS] at hfree ⊢
  rw [hSc]
  refine XOA.wr0 rfl (WrA.cE (pages_a σ2 g24 b db D (g + 1) t0 t1 pg _ S d sl l F hD hpg hfr hl2 hn (by omega) (by omega) (by omega)) rfl) ?_
  rintro _ _ _ ⟨_, ⟨k, fr2, hk2, rfl, hkD, hnotP, hfr2, rfl, rfl⟩, rfl⟩
  refine XOA.cl ?_
  by_cases hkl : k = l.length
  · subst hkl
    rw [decide_eq_true rfl]
    obtain ⟨a0, ha0⟩ : ∃ a, F[l.length]? = some a := ⟨_, List.getElem?_eq_getElem (by omega)⟩
    obtain ⟨a1, ha1⟩ : ∃ a, F[l.length + 1]? = some a := ⟨_, List.getElem?_eq_getElem (by omega)⟩
    have hg0' : F.getD l.length 0 = a0 := by rw [List.getD_eq_getElem?_getD, ha0]; rfl
    have hg1' : F.getD (l.length + 1) 0 = a1 := by rw [List.getD_eq_getElem?_getD, ha1]; rfl
    have hdr : F.drop l.length = a0 :: a1 :: F.drop (l.length + 2) := by rw [dropS ha0, dropS ha1]
    obtain ⟨P, hP⟩ : ∃ P, P = pgTo pg l F l.length := ⟨_, rfl⟩
    have hPl : P.length = 14 := by rw [hP]; exact pgTo_len l F hpg _
    have hnx : nextS S l = ⟨g + 1, [a0, a1], P⟩ := by rw [nextS, hfree, hg0', hg1', hP, hS]
    have hw1 := dTo_wait d l F l.length
    have hcT : ∀ q, comT d S l q = dTo (dTo d l F l.length) (tabL P) (a0 :: a1 :: F.drop (l.length + 2)) q := fun q => by rw [comT, hfree, hnx, hdr]
    have hgS : S.gen = g := by rw [hS]
    rw [hdr] at hfr2
    rw [← hP]
    refine XOA.rd rfl (by first | exact Rd.notp rfl | exact Rd.not rfl) ?_
    refine XOA.rd rfl Rd.mv ?_
    first | ((first | refine XOA.wanted rfl rfl ?_ | refine XOA.wq rfl rfl ?_); refine XOA.rd rfl Rd.mv ?_) | refine XOA.unwanted rfl rfl rfl rfl ?_ | refine XOA.uq rfl rfl rfl ?_ | refine XOA.unwantedU rfl rfl rfl ?_
    first | refine XOA.wanted rfl rfl ?_ | refine XOA.wq rfl rfl ?_
    refine XOA.wr0 rfl (WrA.cE (table_a σ2 g24 b db D l.length (g + 1) t0 t1 P fr2 S (dTo d l F l.length) a0 a1 (F.drop (l.length + 2)) hD (by omega) hPl hfr2 (by omega)) rfl) ?_
    rintro _ _ _ ⟨_, ⟨k2, fr3, hk3, rfl, hkD2, hnotT, hfr3, rfl, rfl⟩, rfl⟩
    refine XOA.cl ?_
    rw [← hcT]
    by_cases hk22 : k2 = 2
    · subst hk22
      rw [decide_eq_true rfl, show T0 t0 a0 2 = a0 from rfl, show T1 t1 a1 2 = a1 from rfl]
      have hw2 : (comT d S l 2).wait.length < 1000000 := by
        rw [hcT]; have := dTo_wait (dTo d l F l.length) (tabL P) (a0 :: a1 :: F.drop (l.length + 2)) 2; omega
      have hw3 : ((comT d S l 2).settle fun _ => true).wait.length < 1000000 := by simp [DiskS.settle]
      have hc2 : comD d S l (l.length + 2) = comT d S l 2 := by rw [comD, if_neg (by omega), if_pos (by omega), show l.length + 2 - l.length = 2 by omega]
      have hc3 : comD d S l (l.length + 3) = (comT d S l 2).settle fun _ => true := by rw [comD, if_neg (by omega), if_neg (by omega), if_pos rfl]
      have hc4 : comD d S l (l.length + 4) = ((comT d S l 2).settle fun _ => true).write ((g + 1) % 2) (rootW (g + 1) a0 a1) := by
        rw [comD, if_neg (by omega), if_neg (by omega), if_neg (by omega), if_pos rfl, hnx, hgS]; rfl
      have hc5 : comD d S l (l.length + 5) = (((comT d S l 2).settle fun _ => true).write ((g + 1) % 2) (rootW (g + 1) a0 a1)).settle fun _ => true := by
        rw [comD, if_neg (by omega), if_neg (by omega), if_neg (by omega), if_neg (by omega), hnx, hgS]; rfl
      have hw4 : (((comT d S l 2).settle fun _ => true).write ((g + 1) % 2) (rootW (g + 1) a0 a1)).wait.length < 1000000 := by
        have := write_wait ((comT d S l 2).settle fun _ => true) ((g + 1) % 2) (rootW (g + 1) a0 a1)
        have h0 : ((comT d S l 2).settle fun _ => true).wait.length = 0 := by simp [DiskS.settle]
        omega
      first | ((first | refine XOA.wanted rfl rfl ?_ | refine XOA.wq rfl rfl ?_); refine XOA.rd rfl (by first | exact Rd.notp rfl | exact Rd.not rfl) ?_) | refine XOA.unwanted rfl rfl rfl rfl ?_ | refine XOA.uq rfl rfl rfl ?_ | refine XOA.unwantedU rfl rfl rfl ?_
      refine XOA.rd rfl (by first | exact Rd.pT rfl | exact Rd.pF rfl | exact Rd.pP rfl) ?_
      refine XOA.rd rfl Rd.mv ?_
      first | ((first | refine XOA.wanted rfl rfl ?_ | refine XOA.wq rfl rfl ?_); refine XOA.rd rfl Rd.mv ?_) | refine XOA.unwanted rfl rfl rfl rfl ?_ | refine XOA.uq rfl rfl rfl ?_ | refine XOA.unwantedU rfl rfl rfl ?_
      by_cases hD2 : D = ((l.length + 2 : Nat) : Int)
      · have hD2' := hD2
        subst hD2
        first | refine XOA.wanted rfl rfl ?_ | refine XOA.wq rfl rfl ?_
        refine XOA.wr0 rfl (WrA.cE (cflush_no σ2 g24 b (l.length + 2) (g + 1) a0 a1 P fr3 (by omega)) rfl) ?_
        rintro _ _ _ ⟨_, ⟨rfl, rfl, rfl⟩, rfl⟩
        refine XOA.cl ?_
        first | ((first | refine XOA.wanted rfl rfl ?_ | refine XOA.wq rfl rfl ?_); refine XOA.rd rfl (by first | exact Rd.notp rfl | exact Rd.not rfl) ?_) | refine XOA.unwanted rfl rfl rfl rfl ?_ | refine XOA.uq rfl rfl rfl ?_ | refine XOA.unwantedU rfl rfl rfl ?_
        refine XOA.rd rfl (by first | exact Rd.pT rfl | exact Rd.pF rfl | exact Rd.pP rfl) ?_
        refine XOA.rd rfl Rd.mv ?_
        first | ((first | refine XOA.wanted rfl rfl ?_ | refine XOA.wq rfl rfl ?_); refine XOA.rd rfl Rd.mv ?_) | refine XOA.unwanted rfl rfl rfl rfl ?_ | refine XOA.uq rfl rfl rfl ?_ | refine XOA.unwantedU rfl rfl rfl ?_
        first | refine XOA.unwanted rfl rfl rfl rfl ?_ | refine XOA.uq rfl rfl rfl ?_ | refine XOA.unwantedU rfl rfl rfl ?_
        first | ((first | refine XOA.wanted rfl rfl ?_ | refine XOA.wq rfl rfl ?_); refine XOA.rd rfl (by first | exact Rd.notp rfl | exact Rd.not rfl) ?_) | refine XOA.unwanted rfl rfl rfl rfl ?_ | refine XOA.uq rfl rfl rfl ?_ | refine XOA.unwantedU rfl rfl rfl ?_
        refine XOA.rd rfl (by first | exact Rd.pT rfl | exact Rd.pF rfl | exact Rd.pP rfl) ?_
        refine XOA.rd rfl Rd.mv ?_
        first | ((first | refine XOA.wanted rfl rfl ?_ | refine XOA.wq rfl rfl ?_); refine XOA.rd rfl Rd.mv ?_) | refine XOA.unwanted rfl rfl rfl rfl ?_ | refine XOA.uq rfl rfl rfl ?_ | refine XOA.unwantedU rfl rfl rfl ?_
        first | refine XOA.unwanted rfl rfl rfl rfl ?_ | refine XOA.uq rfl rfl rfl ?_ | refine XOA.unwantedU rfl rfl rfl ?_
        first | ((first | refine XOA.wanted rfl rfl ?_ | refine XOA.wq rfl rfl ?_); refine XOA.rd rfl (by first | exact Rd.notp rfl | exact Rd.not rfl) ?_) | refine XOA.unwanted rfl rfl rfl rfl ?_ | refine XOA.uq rfl rfl rfl ?_ | refine XOA.unwantedU rfl rfl rfl ?_
        refine XOA.rd rfl (by first | exact Rd.pT rfl | exact Rd.pF rfl | exact Rd.pP rfl) ?_
        refine XOA.nil ?_
        refine DA.thn_normal ?_
        refine XA.condT rfl rfl ?_
        refine XA.seq ?_
        refine XA.region ?_
        refine XOA.rd rfl Rd.asg ?_
        refine XOA.rd rfl Rd.asg ?_
        refine XOA.nil ?_
        refine DA.thn_normal ?_
        refine XA.ret ?_
        refine DA.thn_ret ?_
        refine bodyA.ret (ResA.two rfl rfl rfl) (Γ' := [Store b db S, Disk db (comT d S l 2)]) (Ent.foldC (Θ := [_]) (by (repeat (first | exact Ent.all _ | (apply Ent.take; focus (first | ((repeat (first | with_reducible exact Sel.head | apply Sel.tail)); done) | ((repeat (first | exact Sel.head | apply Sel.tail)); done))) | apply Ent.takeNil | apply Ent.takeEmp)); (first | done | fail)) (Store.mk (s := S) hSok rfl) (by (repeat (first | exact Ent.nil _ | (apply Ent.sel; focus (first | ((repeat (first | with_reducible exact Sel.head | apply Sel.tail)); done) | ((repeat (first | exact Sel.head | apply Sel.tail)); done))) | apply Ent.selNil | apply Ent.selEmp)); (first | done | fail))) ⟨l.length + 2, by omega, fun _ => rfl, fun h => absurd h (by omega), ?_, hs12, ?_⟩
        · exact congrArg (fun x => Value.tuple #[.bool x, i64 0]) (decide_eq_false (by omega)).symm
        · rw [if_neg (by omega), hc2]
      first | refine XOA.wanted rfl rfl ?_ | refine XOA.wq rfl rfl ?_
      refine XOA.wr0 rfl (WrA.cE (cflush_yes σ2 g24 b db D (l.length + 2) (g + 1) a0 a1 P fr3 S (comT d S l 2) hD (by omega) hD2 hw2) rfl) ?_
      rintro _ _ _ ⟨_, ⟨rfl, rfl, rfl⟩, rfl⟩
      refine XOA.cl ?_
      first | ((first | refine XOA.wanted rfl rfl ?_ | refine XOA.wq rfl rfl ?_); refine XOA.rd rfl (by first | exact Rd.notp rfl | exact Rd.not rfl) ?_) | refine XOA.unwanted rfl rfl rfl rfl ?_ | refine XOA.uq rfl rfl rfl ?_ | refine XOA.unwantedU rfl rfl rfl ?_
      refine XOA.rd rfl (by first | exact Rd.pT rfl | exact Rd.pF rfl | exact Rd.pP rfl) ?_
      refine XOA.rd rfl Rd.mv ?_
      first | ((first | refine XOA.wanted rfl rfl ?_ | refine XOA.wq rfl rfl ?_); refine XOA.rd rfl Rd.mv ?_) | refine XOA.unwanted rfl rfl rfl rfl ?_ | refine XOA.uq rfl rfl rfl ?_ | refine XOA.unwantedU rfl rfl rfl ?_
      by_cases hD3 : D = ((l.length + 3 : Nat) : Int)
      · subst hD3
        first | refine XOA.wanted rfl rfl ?_ | refine XOA.wq rfl rfl ?_
        refine XOA.wr0 rfl (WrA.cE (croot_no σ2 g24 b (l.length + 3) (g + 1) a0 a1 P fr3 (by omega)) rfl) ?_
        rintro _ _ _ ⟨_, ⟨rfl, rfl, rfl⟩, rfl⟩
        refine XOA.cl ?_
        first | ((first | refine XOA.wanted rfl rfl ?_ | refine XOA.wq rfl rfl ?_); refine XOA.rd rfl (by first | exact Rd.notp rfl | exact Rd.not rfl) ?_) | refine XOA.unwanted rfl rfl rfl rfl ?_ | refine XOA.uq rfl rfl rfl ?_ | refine XOA.unwantedU rfl rfl rfl ?_
        refine XOA.rd rfl (by first | exact Rd.pT rfl | exact Rd.pF rfl | exact Rd.pP rfl) ?_
        refine XOA.rd rfl Rd.mv ?_
        first | ((first | refine XOA.wanted rfl rfl ?_ | refine XOA.wq rfl rfl ?_); refine XOA.rd rfl Rd.mv ?_) | refine XOA.unwanted rfl rfl rfl rfl ?_ | refine XOA.uq rfl rfl rfl ?_ | refine XOA.unwantedU rfl rfl rfl ?_
        first | refine XOA.unwanted rfl rfl rfl rfl ?_ | refine XOA.uq rfl rfl rfl ?_ | refine XOA.unwantedU rfl rfl rfl ?_
        first | ((first | refine XOA.wanted rfl rfl ?_ | refine XOA.wq rfl rfl ?_); refine XOA.rd rfl (by first | exact Rd.notp rfl | exact Rd.not rfl) ?_) | refine XOA.unwanted rfl rfl rfl rfl ?_ | refine XOA.uq rfl rfl rfl ?_ | refine XOA.unwantedU rfl rfl rfl ?_
        refine XOA.rd rfl (by first | exact Rd.pT rfl | exact Rd.pF rfl | exact Rd.pP rfl) ?_
        refine XOA.nil ?_
        refine DA.thn_normal ?_
        refine XA.condT rfl rfl ?_
        refine XA.seq ?_
        refine XA.region ?_
        refine XOA.rd rfl Rd.asg ?_
        refine XOA.rd rfl Rd.asg ?_
        refine XOA.nil ?_
        refine DA.thn_normal ?_
        refine XA.ret ?_
        refine DA.thn_ret ?_
        refine bodyA.ret (ResA.two rfl rfl rfl) (Γ' := [Store b db S, Disk db ((comT d S l 2).settle fun _ => true)]) (Ent.foldC (Θ := [_]) (by (repeat (first | exact Ent.all _ | (apply Ent.take; focus (first | ((repeat (first | with_reducible exact Sel.head | apply Sel.tail)); done) | ((repeat (first | exact Sel.head | apply Sel.tail)); done))) | apply Ent.takeNil | apply Ent.takeEmp)); (first | done | fail)) (Store.mk (s := S) hSok rfl) (by (repeat (first | exact Ent.nil _ | (apply Ent.sel; focus (first | ((repeat (first | with_reducible exact Sel.head | apply Sel.tail)); done) | ((repeat (first | exact Sel.head | apply Sel.tail)); done))) | apply Ent.selNil | apply Ent.selEmp)); (first | done | fail))) ⟨l.length + 3, by omega, fun _ => rfl, fun h => absurd h (by omega), ?_, hs12, ?_⟩
        · exact congrArg (fun x => Value.tuple #[.bool x, i64 0]) (decide_eq_false (by omega)).symm
        · rw [if_neg (by omega), hc3]
      first | refine XOA.wanted rfl rfl ?_ | refine XOA.wq rfl rfl ?_
      refine XOA.wr0 rfl (WrA.cE (croot_yes σ2 g24 b db D (l.length + 3) (g + 1) a0 a1 P fr3 S _ hD (by omega) hD3 (by omega) hw3) rfl) ?_
      rintro _ _ _ ⟨_, ⟨rfl, rfl, rfl⟩, rfl⟩
      refine XOA.cl ?_
      first | ((first | refine XOA.wanted rfl rfl ?_ | refine XOA.wq rfl rfl ?_); refine XOA.rd rfl (by first | exact Rd.notp rfl | exact Rd.not rfl) ?_) | refine XOA.unwanted rfl rfl rfl rfl ?_ | refine XOA.uq rfl rfl rfl ?_ | refine XOA.unwantedU rfl rfl rfl ?_
      refine XOA.rd rfl (by first | exact Rd.pT rfl | exact Rd.pF rfl | exact Rd.pP rfl) ?_
      refine XOA.rd rfl Rd.mv ?_
      first | ((first | refine XOA.wanted rfl rfl ?_ | refine XOA.wq rfl rfl ?_); refine XOA.rd rfl Rd.mv ?_) | refine XOA.unwanted rfl rfl rfl rfl ?_ | refine XOA.uq rfl rfl rfl ?_ | refine XOA.unwantedU rfl rfl rfl ?_
      by_cases hD4 : D = ((l.length + 4 : Nat) : Int)
      · subst hD4
        first | refine XOA.wanted rfl rfl ?_ | refine XOA.wq rfl rfl ?_
        refine XOA.wr0 rfl (WrA.cE (cflush_no σ2 g24 b (l.length + 4) (g + 1) a0 a1 P fr3 (by omega)) rfl) ?_
        rintro _ _ _ ⟨_, ⟨rfl, rfl, rfl⟩, rfl⟩
        refine XOA.cl ?_
        first | ((first | refine XOA.wanted rfl rfl ?_ | refine XOA.wq rfl rfl ?_); refine XOA.rd rfl (by first | exact Rd.notp rfl | exact Rd.not rfl) ?_) | refine XOA.unwanted rfl rfl rfl rfl ?_ | refine XOA.uq rfl rfl rfl ?_ | refine XOA.unwantedU rfl rfl rfl ?_
        refine XOA.rd rfl (by first | exact Rd.pT rfl | exact Rd.pF rfl | exact Rd.pP rfl) ?_
        refine XOA.nil ?_
        refine DA.thn_normal ?_
        refine XA.condT rfl rfl ?_
        refine XA.seq ?_
        refine XA.region ?_
        refine XOA.rd rfl Rd.asg ?_
        refine XOA.rd rfl Rd.asg ?_
        refine XOA.nil ?_
        refine DA.thn_normal ?_
        refine XA.ret ?_
        refine DA.thn_ret ?_
        refine bodyA.ret (ResA.two rfl rfl rfl) (Γ' := [Store b db S, Disk db (((comT d S l 2).settle fun _ => true).write ((g + 1) % 2) (rootW (g + 1) a0 a1))]) (Ent.foldC (Θ := [_]) (by (repeat (first | exact Ent.all _ | (apply Ent.take; focus (first | ((repeat (first | with_reducible exact Sel.head | apply Sel.tail)); done) | ((repeat (first | exact Sel.head | apply Sel.tail)); done))) | apply Ent.takeNil | apply Ent.takeEmp)); (first | done | fail)) (Store.mk (s := S) hSok rfl) (by (repeat (first | exact Ent.nil _ | (apply Ent.sel; focus (first | ((repeat (first | with_reducible exact Sel.head | apply Sel.tail)); done) | ((repeat (first | exact Sel.head | apply Sel.tail)); done))) | apply Ent.selNil | apply Ent.selEmp)); (first | done | fail))) ⟨l.length + 4, by omega, fun _ => rfl, fun h => absurd h (by omega), ?_, hs12, ?_⟩
        · exact congrArg (fun x => Value.tuple #[.bool x, i64 0]) (decide_eq_false (by omega)).symm
        · rw [if_neg (by omega), hc4]
      first | refine XOA.wanted rfl rfl ?_ | refine XOA.wq rfl rfl ?_
      refine XOA.wr0 rfl (WrA.cE (cflush_yes σ2 g24 b db D (l.length + 4) (g + 1) a0 a1 P fr3 S _ hD (by omega) hD4 hw4) rfl) ?_
      rintro _ _ _ ⟨_, ⟨rfl, rfl, rfl⟩, rfl⟩
      refine XOA.cl ?_
      have hvl2 : (i64 (g + 1) :: i64 a0 :: i64 a1 :: ints P).length = 17 := by simp [hPl]
      have htk2 : ((comC b (leftOf D (l.length + 4 + 1)) (g + 1) a0 a1 P fr3).drop 2).take 17 = i64 (g + 1) :: i64 a0 :: i64 a1 :: ints P := by
        show ((i64 (g + 1) :: i64 a0 :: i64 a1 :: ints P) ++ [fr3]).take 17 = _
        exact take_app hvl2
      have hone2 : ones (i64 (g + 1) :: i64 a0 :: i64 a1 :: ints P) := ones_cons rfl (ones_cons rfl (ones_cons rfl (ones_ints _)))
      have hScl : S.cells.length = 17 := by rw [hS]; simpa [StS.cells] using hpg
      have hspl2 : splice (ptr db :: S.cells) 1 (i64 (g + 1) :: i64 a0 :: i64 a1 :: ints P) = ptr db :: i64 (g + 1) :: i64 a0 :: i64 a1 :: ints P := by
        unfold splice
        rw [hvl2, List.take_succ_cons, List.take_zero, List.drop_succ_cons, List.drop_of_length_le (by rw [hScl]; decide)]
        simp
      have hfit : 1 + ty102.size ≤ (ptr db :: S.cells).length := by rw [List.length_cons, hScl]; decide
      have hall : ∀ i : Nat, i < l.length + 5 → D ≠ (i : Int) := fun i hi => by
        rcases Nat.lt_or_ge i l.length with h | h
        · exact hnotP i h
        · rcases (show i = l.length + 0 ∨ i = l.length + 1 ∨ i = l.length + 2 ∨ i = l.length + 3 ∨ i = l.length + 4 by omega) with e | e | e | e | e <;> rw [e]
          · exact hnotT 0 (by decide)
          · exact hnotT 1 (by decide)
          · exact hD2
          · exact hD3
          · exact hD4
      first | ((first | refine XOA.wanted rfl rfl ?_ | refine XOA.wq rfl rfl ?_); refine XOA.rd rfl (by first | exact Rd.notp rfl | exact Rd.not rfl) ?_) | refine XOA.unwanted rfl rfl rfl rfl ?_ | refine XOA.uq rfl rfl rfl ?_ | refine XOA.unwantedU rfl rfl rfl ?_
      refine XOA.rd rfl (by first | exact Rd.pT rfl | exact Rd.pF rfl | exact Rd.pP rfl) ?_
      refine XOA.nil ?_
      refine DA.thn_normal ?_
      refine XA.condF rfl rfl ?_
      refine XA.skip ?_
      refine DA.thn_normal ?_
      refine XA.seq ?_
      refine XA.region ?_
      refine XOA.rd rfl Rd.mv ?_
      refine XOA.rd rfl Rd.mv ?_
      refine XOA.rd rfl (Rd.nilCheck rfl) ?_
      refine XOA.rd rfl (Rd.fA rfl) ?_
      refine XOA.rd rfl (Rd.ldA rfl) ?_
      refine XOA.rd rfl (Rd.nilCheck rfl) ?_
      refine XOA.rd rfl (Rd.fA rfl) ?_
      refine XOA.wr0 rfl (WrA.st (tyrow rfl) rfl) ?_
      rintro _ _ _ ⟨rfl, rfl, rfl⟩
      refine XOA.nil ?_
      refine DA.thn_normal ?_
      refine XA.seq ?_
      refine XA.region ?_
      refine XOA.rd rfl Rd.asg ?_
      refine XOA.rd rfl Rd.asg ?_
      refine XOA.nil ?_
      refine DA.thn_normal ?_
      refine XA.ret ?_
      refine bodyA.ret (ResA.two rfl rfl rfl) (Γ' := [Store b db ⟨g + 1, [a0, a1], P⟩, Disk db _]) (Ent.foldC (Θ := [_]) (by (repeat (first | exact Ent.all _ | (apply Ent.take; focus (first | ((repeat (first | with_reducible exact Sel.head | apply Sel.tail)); done) | ((repeat (first | exact Sel.head | apply Sel.tail)); done))) | apply Ent.takeNil | apply Ent.takeEmp)); (first | done | fail)) (Store.mk (s := ⟨g + 1, [a0, a1], P⟩) ⟨rfl, hPl⟩ rfl) (by (repeat (first | exact Ent.nil _ | (apply Ent.sel; focus (first | ((repeat (first | with_reducible exact Sel.head | apply Sel.tail)); done) | ((repeat (first | exact Sel.head | apply Sel.tail)); done))) | apply Ent.selNil | apply Ent.selEmp)); (first | done | fail))) ⟨l.length + 5, Nat.le_refl _, fun h => absurd h (Nat.lt_irrefl _), fun _ => hall, ?_, hs12, ?_⟩
      · exact congrArg (fun x => Value.tuple #[.bool x, i64 0]) (decide_eq_true rfl).symm
      · rw [if_pos rfl, hc5, hnx]
    · have hD2 := hkD2 (by omega)
      rw [decide_eq_false hk22]
      first | ((first | refine XOA.wanted rfl rfl ?_ | refine XOA.wq rfl rfl ?_); refine XOA.rd rfl (by first | exact Rd.notp rfl | exact Rd.not rfl) ?_) | refine XOA.unwanted rfl rfl rfl rfl ?_ | refine XOA.uq rfl rfl rfl ?_ | refine XOA.unwantedU rfl rfl rfl ?_
      refine XOA.rd rfl (by first | exact Rd.pT rfl | exact Rd.pF rfl | exact Rd.pP rfl) ?_
      refine XOA.rd rfl Rd.mv ?_
      first | ((first | refine XOA.wanted rfl rfl ?_ | refine XOA.wq rfl rfl ?_); refine XOA.rd rfl Rd.mv ?_) | refine XOA.unwanted rfl rfl rfl rfl ?_ | refine XOA.uq rfl rfl rfl ?_ | refine XOA.unwantedU rfl rfl rfl ?_
      first | refine XOA.unwanted rfl rfl rfl rfl ?_ | refine XOA.uq rfl rfl rfl ?_ | refine XOA.unwantedU rfl rfl rfl ?_
      first | ((first | refine XOA.wanted rfl rfl ?_ | refine XOA.wq rfl rfl ?_); refine XOA.rd rfl (by first | exact Rd.notp rfl | exact Rd.not rfl) ?_) | refine XOA.unwanted rfl rfl rfl rfl ?_ | refine XOA.uq rfl rfl rfl ?_ | refine XOA.unwantedU rfl rfl rfl ?_
      refine XOA.rd rfl (by first | exact Rd.pT rfl | exact Rd.pF rfl | exact Rd.pP rfl) ?_
      refine XOA.rd rfl Rd.mv ?_
      first | ((first | refine XOA.wanted rfl rfl ?_ | refine XOA.wq rfl rfl ?_); refine XOA.rd rfl Rd.mv ?_) | refine XOA.unwanted rfl rfl rfl rfl ?_ | refine XOA.uq rfl rfl rfl ?_ | refine XOA.unwantedU rfl rfl rfl ?_
      first | refine XOA.unwanted rfl rfl rfl rfl ?_ | refine XOA.uq rfl rfl rfl ?_ | refine XOA.unwantedU rfl rfl rfl ?_
      first | ((first | refine XOA.wanted rfl rfl ?_ | refine XOA.wq rfl rfl ?_); refine XOA.rd rfl (by first | exact Rd.notp rfl | exact Rd.not rfl) ?_) | refine XOA.unwanted rfl rfl rfl rfl ?_ | refine XOA.uq rfl rfl rfl ?_ | refine XOA.unwantedU rfl rfl rfl ?_
      refine XOA.rd rfl (by first | exact Rd.pT rfl | exact Rd.pF rfl | exact Rd.pP rfl) ?_
      refine XOA.rd rfl Rd.mv ?_
      first | ((first | refine XOA.wanted rfl rfl ?_ | refine XOA.wq rfl rfl ?_); refine XOA.rd rfl Rd.mv ?_) | refine XOA.unwanted rfl rfl rfl rfl ?_ | refine XOA.uq rfl rfl rfl ?_ | refine XOA.unwantedU rfl rfl rfl ?_
      first | refine XOA.unwanted rfl rfl rfl rfl ?_ | refine XOA.uq rfl rfl rfl ?_ | refine XOA.unwantedU rfl rfl rfl ?_
      first | ((first | refine XOA.wanted rfl rfl ?_ | refine XOA.wq rfl rfl ?_); refine XOA.rd rfl (by first | exact Rd.notp rfl | exact Rd.not rfl) ?_) | refine XOA.unwanted rfl rfl rfl rfl ?_ | refine XOA.uq rfl rfl rfl ?_ | refine XOA.unwantedU rfl rfl rfl ?_
      refine XOA.rd rfl (by first | exact Rd.pT rfl | exact Rd.pF rfl | exact Rd.pP rfl) ?_
      refine XOA.nil ?_
      refine DA.thn_normal ?_
      refine XA.condT rfl rfl ?_
      refine XA.seq ?_
      refine XA.region ?_
      refine XOA.rd rfl Rd.asg ?_
      refine XOA.rd rfl Rd.asg ?_
      refine XOA.nil ?_
      refine DA.thn_normal ?_
      refine XA.ret ?_
      refine DA.thn_ret ?_
      have hcd : comD d S l (l.length + k2) = comT d S l k2 := by
        rcases (show k2 = 0 ∨ k2 = 1 by omega) with rfl | rfl
        · rw [comD, if_pos (by omega), comT, hfree]; rfl
        · rw [comD, if_neg (by omega), if_pos (by omega), show l.length + 1 - l.length = 1 by omega]
      refine bodyA.ret (ResA.two rfl rfl rfl) (Γ' := [Store b db S, Disk db (comT d S l k2)]) (Ent.foldC (Θ := [_]) (by (repeat (first | exact Ent.all _ | (apply Ent.take; focus (first | ((repeat (first | with_reducible exact Sel.head | apply Sel.tail)); done) | ((repeat (first | exact Sel.head | apply Sel.tail)); done))) | apply Ent.takeNil | apply Ent.takeEmp)); (first | done | fail)) (Store.mk (s := S) hSok rfl) (by (repeat (first | exact Ent.nil _ | (apply Ent.sel; focus (first | ((repeat (first | with_reducible exact Sel.head | apply Sel.tail)); done) | ((repeat (first | exact Sel.head | apply Sel.tail)); done))) | apply Ent.selNil | apply Ent.selEmp)); (first | done | fail))) ⟨l.length + k2, by omega, fun _ => hD2, fun h => absurd h (by omega), ?_, hs12, ?_⟩
      · exact congrArg (fun x => Value.tuple #[.bool x, i64 0]) (decide_eq_false (by omega)).symm
      · rw [if_neg (by omega), hcd]
  · have hDk := hkD (by omega)
    rw [decide_eq_false hkl]
    refine XOA.rd rfl (by first | exact Rd.notp rfl | exact Rd.not rfl) ?_
    refine XOA.rd rfl Rd.mv ?_
    first | ((first | refine XOA.wanted rfl rfl ?_ | refine XOA.wq rfl rfl ?_); refine XOA.rd rfl Rd.mv ?_) | refine XOA.unwanted rfl rfl rfl rfl ?_ | refine XOA.uq rfl rfl rfl ?_ | refine XOA.unwantedU rfl rfl rfl ?_
    first | refine XOA.unwanted rfl rfl rfl rfl ?_ | refine XOA.uq rfl rfl rfl ?_ | refine XOA.unwantedU rfl rfl rfl ?_
    first | ((first | refine XOA.wanted rfl rfl ?_ | refine XOA.wq rfl rfl ?_); refine XOA.rd rfl (by first | exact Rd.notp rfl | exact Rd.not rfl) ?_) | refine XOA.unwanted rfl rfl rfl rfl ?_ | refine XOA.uq rfl rfl rfl ?_ | refine XOA.unwantedU rfl rfl rfl ?_
    refine XOA.rd rfl (by first | exact Rd.pT rfl | exact Rd.pF rfl | exact Rd.pP rfl) ?_
    refine XOA.rd rfl Rd.mv ?_
    first | ((first | refine XOA.wanted rfl rfl ?_ | refine XOA.wq rfl rfl ?_); refine XOA.rd rfl Rd.mv ?_) | refine XOA.unwanted rfl rfl rfl rfl ?_ | refine XOA.uq rfl rfl rfl ?_ | refine XOA.unwantedU rfl rfl rfl ?_
    first | refine XOA.unwanted rfl rfl rfl rfl ?_ | refine XOA.uq rfl rfl rfl ?_ | refine XOA.unwantedU rfl rfl rfl ?_
    first | ((first | refine XOA.wanted rfl rfl ?_ | refine XOA.wq rfl rfl ?_); refine XOA.rd rfl (by first | exact Rd.notp rfl | exact Rd.not rfl) ?_) | refine XOA.unwanted rfl rfl rfl rfl ?_ | refine XOA.uq rfl rfl rfl ?_ | refine XOA.unwantedU rfl rfl rfl ?_
    refine XOA.rd rfl (by first | exact Rd.pT rfl | exact Rd.pF rfl | exact Rd.pP rfl) ?_
    refine XOA.rd rfl Rd.mv ?_
    first | ((first | refine XOA.wanted rfl rfl ?_ | refine XOA.wq rfl rfl ?_); refine XOA.rd rfl Rd.mv ?_) | refine XOA.unwanted rfl rfl rfl rfl ?_ | refine XOA.uq rfl rfl rfl ?_ | refine XOA.unwantedU rfl rfl rfl ?_
    first | refine XOA.unwanted rfl rfl rfl rfl ?_ | refine XOA.uq rfl rfl rfl ?_ | refine XOA.unwantedU rfl rfl rfl ?_
    first | ((first | refine XOA.wanted rfl rfl ?_ | refine XOA.wq rfl rfl ?_); refine XOA.rd rfl (by first | exact Rd.notp rfl | exact Rd.not rfl) ?_) | refine XOA.unwanted rfl rfl rfl rfl ?_ | refine XOA.uq rfl rfl rfl ?_ | refine XOA.unwantedU rfl rfl rfl ?_
    refine XOA.rd rfl (by first | exact Rd.pT rfl | exact Rd.pF rfl | exact Rd.pP rfl) ?_
    refine XOA.rd rfl Rd.mv ?_
    first | ((first | refine XOA.wanted rfl rfl ?_ | refine XOA.wq rfl rfl ?_); refine XOA.rd rfl Rd.mv ?_) | refine XOA.unwanted rfl rfl rfl rfl ?_ | refine XOA.uq rfl rfl rfl ?_ | refine XOA.unwantedU rfl rfl rfl ?_
    first | refine XOA.unwanted rfl rfl rfl rfl ?_ | refine XOA.uq rfl rfl rfl ?_ | refine XOA.unwantedU rfl rfl rfl ?_
    first | ((first | refine XOA.wanted rfl rfl ?_ | refine XOA.wq rfl rfl ?_); refine XOA.rd rfl (by first | exact Rd.notp rfl | exact Rd.not rfl) ?_) | refine XOA.unwanted rfl rfl rfl rfl ?_ | refine XOA.uq rfl rfl rfl ?_ | refine XOA.unwantedU rfl rfl rfl ?_
    refine XOA.rd rfl (by first | exact Rd.pT rfl | exact Rd.pF rfl | exact Rd.pP rfl) ?_
    refine XOA.nil ?_
    refine DA.thn_normal ?_
    refine XA.condT rfl rfl ?_
    refine XA.seq ?_
    refine XA.region ?_
    refine XOA.rd rfl Rd.asg ?_
    refine XOA.rd rfl Rd.asg ?_
    refine XOA.nil ?_
    refine DA.thn_normal ?_
    refine XA.ret ?_
    refine DA.thn_ret ?_
    have hcd : comD d S l k = dTo d l F k := by rw [comD, if_pos hk2, hfree]
    refine bodyA.ret (ResA.two rfl rfl rfl) (Γ' := [Store b db S, Disk db (dTo d l F k)]) (Ent.foldC (Θ := [_]) (by (repeat (first | exact Ent.all _ | (apply Ent.take; focus (first | ((repeat (first | with_reducible exact Sel.head | apply Sel.tail)); done) | ((repeat (first | exact Sel.head | apply Sel.tail)); done))) | apply Ent.takeNil | apply Ent.takeEmp)); (first | done | fail)) (Store.mk (s := S) hSok rfl) (by (repeat (first | exact Ent.nil _ | (apply Ent.sel; focus (first | ((repeat (first | with_reducible exact Sel.head | apply Sel.tail)); done) | ((repeat (first | exact Sel.head | apply Sel.tail)); done))) | apply Ent.selNil | apply Ent.selEmp)); (first | done | fail))) ⟨k, by omega, fun _ => hDk, fun h => absurd h (by omega), ?_, hs12, ?_⟩
    · exact congrArg (fun x => Value.tuple #[.bool x, i64 0]) (decide_eq_false (by omega)).symm
    · rw [if_neg (by omega), hcd]
end Go.Proofs.Ytplobdiknobhoaa
