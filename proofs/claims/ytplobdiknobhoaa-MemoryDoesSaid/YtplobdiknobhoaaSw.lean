/- Package store: the table and the root are written; sectors that are used; Check. -/
import Derived.Test.YtplobdiknobhoaaSv
namespace Go.Proofs.Ytplobdiknobhoaa
open Go X
set_option maxHeartbeats 1000000
def twTo (pg : List Int) (i k : Nat) : List Int := (List.range 8).map fun q => if q < k ∧ i * 8 + q < 14 then pg.getD (i * 8 + q) 0 else 0
def tw (pg : List Int) (i : Nat) : List Int := twTo pg i 8
theorem twTo_len (pg : List Int) (i k : Nat) : (twTo pg i k).length = 8 := by simp [twTo]
theorem twTo_zero (pg : List Int) (i : Nat) : twTo pg i 0 = [0, 0, 0, 0, 0, 0, 0, 0] := by simp [twTo]; rfl
theorem twTo_succ (pg : List Int) (i : Nat) {k : Nat} (hk : k < 8) (h : i * 8 + k < 14) : twTo pg i (k + 1) = (twTo pg i k).set k (pg.getD (i * 8 + k) 0) := by
  apply List.ext_getElem (by simp [twTo])
  intro p h1 h2
  simp only [twTo, List.getElem_map, List.getElem_range, List.getElem_set]
  by_cases e : k = p
  · subst e; rw [if_pos ⟨by omega, h⟩, if_pos rfl]
  · rw [if_neg e]
    by_cases hp : p < k ∧ i * 8 + p < 14
    · rw [if_pos ⟨by omega, hp.2⟩, if_pos hp]
    · rw [if_neg (fun h => hp ⟨by omega, h.2⟩), if_neg hp]
theorem twTo_same (pg : List Int) (i : Nat) {k : Nat} (h : ¬ i * 8 + k < 14) : twTo pg i (k + 1) = twTo pg i k := by
  apply List.map_congr_left
  intro p _
  by_cases hp : p < k ∧ i * 8 + p < 14
  · rw [if_pos hp, if_pos ⟨by omega, hp.2⟩]
  · rw [if_neg hp, if_neg (fun h2 => hp ⟨by omega, h2.2⟩)]
theorem ints_put {l : List Int} {k : Nat} (hk : k < l.length) (x : Int) : splice (ints l) k [i64 x] = ints (l.set k x) := by
  rw [splice_one _ _ _ (by simpa using hk), ints_set]
def T0 (t0 a0 : Int) (i : Nat) : Int := if 0 < i then a0 else t0
def T1 (t1 a1 : Int) (i : Nat) : Int := if 1 < i then a1 else t1
def tabL (pg : List Int) : List PageS := [⟨0, tw pg 0⟩, ⟨0, tw pg 1⟩]
theorem com_puti {sb : Nat} {left gen t0 t1 a0 a1 : Int} {pg : List Int} {fr : Value} {i : Nat} (hi : i < 2) : splice (comC sb left gen (T0 t0 a0 i) (T1 t1 a1 i) pg fr) (3 + i) [i64 (([a0, a1] : List Int).getD i 0)] = comC sb left gen (T0 t0 a0 (i + 1)) (T1 t1 a1 (i + 1)) pg fr := by
  rcases (show i = 0 ∨ i = 1 by omega) with rfl | rfl <;> rfl
theorem table_a (σ : PH) (c sb db : Nat) (D : Int) (j : Nat) (gen t0 t1 : Int) (pg : List Int) (fr : Value) (s : StS) (d : DiskS) (a0 a1 : Int) (free : List Int) (hD : okD D) (hj : j < 900) (hpg : pg.length = 14) (hf : PInts σ fr (a0 :: a1 :: free)) (hlen : d.wait.length < 1000) :
    CallsA Try.prog 61 #[ptr c] σ [blk c (comC sb (leftOf D j) gen t0 t1 pg fr) 110, blk sb (ptr db :: s.cells) 104, Disk db d]
      (RetA fun v σ' Γ' => ∃ (k : Nat) (fr' : Value), k ≤ 2 ∧ v = .bool (decide (k = 2)) ∧ (k < 2 → D = (j + k : Nat)) ∧ (∀ i : Nat, i < k → D ≠ ((j + i : Nat) : Int)) ∧ PInts σ fr' ((a0 :: a1 :: free).drop k) ∧ σ = σ' ∧ Γ' = [blk c (comC sb (leftOf D (j + k)) gen (T0 t0 a0 k) (T1 t1 a1 k) pg fr') 110, blk sb (ptr db :: s.cells) 104, Disk db (dTo d (tabL pg) (a0 :: a1 :: free) k)]) := by
  refine enterA1 Try.func61 rfl rfl rfl ?_
  refine XA.seq ?_
  refine XA.region ?_
  refine XOA.rd rfl Rd.asg ?_
  refine XOA.nil ?_
  refine DA.thn_normal ?_
  refine XA.seq ?_
  refine XA.seq ?_
  refine XA.region ?_
  refine XOA.rd rfl Rd.mv ?_
  refine XOA.nil ?_
  refine DA.thn_normal ?_
  refine XA.block ?_
  refine XA.gen [(0, _), (2, _), (9, _)] ⟨(by with_reducible (conv => lhs; whnf)), (by with_reducible (conv => lhs; whnf)), (by with_reducible (conv => lhs; whnf)), trivial⟩ (fun δ => ?_)
  dsimp only [List.foldl]
  refine XA.loop [(2, 46)] (fun i : Nat => [(9, i64 i)]) (fun i σ' Γ' => σ = σ' ∧ i ≤ 2 ∧ (∀ q : Nat, q < i → D ≠ ((j + q : Nat) : Int)) ∧ ∃ fr', PInts σ fr' ((a0 :: a1 :: free).drop i) ∧ Γ' = [blk c (comC sb (leftOf D (j + i)) gen (T0 t0 a0 i) (T1 t1 a1 i) pg fr') 110, blk sb (ptr db :: s.cells) 104, Disk db (dTo d (tabL pg) (a0 :: a1 :: free) i)]) (fun i => 2 - i) 0 (by exact ⟨rfl, trivial⟩) (Δ0 := _) ?_ (⟨rfl, by decide, fun i h => absurd h (Nat.not_lt_zero _), fr, hf, rfl⟩) ?_
  · exact (by (repeat (first | exact Ent.nil _ | (apply Ent.sel; focus (first | ((repeat (first | with_reducible exact Sel.head | apply Sel.tail)); done) | ((repeat (first | exact Sel.head | apply Sel.tail)); done))) | apply Ent.selNil | apply Ent.selEmp)); (first | done | fail))
  rintro i δ _ _ ⟨rfl, hi, hnot, fr', hfr, rfl⟩
  dsimp only [ovr, List.foldl]
  refine XA.seq ?_
  refine XA.region ?_
  refine XOA.rd rfl (Rd.lss rfl rfl) ?_
  refine XOA.nil ?_
  refine DA.thn_normal ?_
  refine XA.seq ?_
  refine XA.condp rfl (fun hlt => ?_) (fun hlt => ?_)
  · have hlt : i < 2 := by omega
    obtain ⟨a, hai⟩ : ∃ a, a = ([a0, a1] : List Int).getD i 0 := ⟨_, rfl⟩
    have ha : (a0 :: a1 :: free)[i]? = some a := by subst hai; rcases (show i = 0 ∨ i = 1 by omega) with rfl | rfl <;> rfl
    have e2 : dTo d (tabL pg) (a0 :: a1 :: free) (i + 1) = (dTo d (tabL pg) (a0 :: a1 :: free) i).write a (tw pg i) := by
      subst hai; rcases (show i = 0 ∨ i = 1 by omega) with rfl | rfl <;> rfl
    have hw := dTo_wait d (tabL pg) (a0 :: a1 :: free) i
    refine XA.skip ?_
    refine DA.thn_normal ?_
    refine XA.seq ?_
    refine XA.block ?_
    refine XA.seq ?_
    refine XA.region ?_
    refine XOA.rd rfl Rd.mv ?_
    refine XOA.rd rfl Rd.asg ?_
    refine XOA.nil ?_
    refine DA.thn_normal ?_
    refine XA.seq ?_
    refine XA.region ?_
    refine XOA.wr0 rfl (WrA.alloc (tyrow rfl)) ?_
    rintro _ _ _ ⟨g4, rfl, rfl, rfl⟩
    refine XOA.nil ?_
    refine DA.thn_normal ?_
    refine XA.seq ?_
    refine XA.seq ?_
    refine XA.region ?_
    refine XOA.rd rfl Rd.mv ?_
    refine XOA.nil ?_
    refine DA.thn_normal ?_
    refine XA.block ?_
    refine XA.loop [(5, 6), (12, 30)] (fun k : Nat => [(12, i64 k)]) (fun k σ' Γ' => σ = σ' ∧ k ≤ 8 ∧ Γ' = [blk g4 (ints (twTo pg i k)) 32, blk c (comC sb (leftOf D (j + i)) gen (T0 t0 a0 i) (T1 t1 a1 i) pg fr') 110, blk sb (ptr db :: s.cells) 104, Disk db (dTo d (tabL pg) (a0 :: a1 :: free) i)]) (fun k => 8 - k) 0 (by exact ⟨rfl, trivial⟩) (Δ0 := _) ?_ (⟨rfl, by decide, rfl⟩) ?_
    · rw [twTo_zero]; exact (by (repeat (first | exact Ent.nil _ | (apply Ent.sel; focus (first | ((repeat (first | with_reducible exact Sel.head | apply Sel.tail)); done) | ((repeat (first | exact Sel.head | apply Sel.tail)); done))) | apply Ent.selNil | apply Ent.selEmp)); (first | done | fail))
    rintro k δ2 _ _ ⟨rfl, hk, rfl⟩
    dsimp only [ovr, List.foldl]
    refine XA.seq ?_
    refine XA.region ?_
    refine XOA.rd rfl (Rd.lss rfl rfl) ?_
    refine XOA.nil ?_
    refine DA.thn_normal ?_
    refine XA.seq ?_
    refine XA.condp rfl (fun hlt2 => ?_) (fun hlt2 => ?_)
    · have hlt2 : k < 8 := by omega
      have hl8 := twTo_len pg i k
      refine XA.skip ?_
      refine DA.thn_normal ?_
      refine XA.seq ?_
      refine XA.block ?_
      refine XA.seq ?_
      refine XA.region ?_
      refine XOA.rd rfl Rd.mv ?_
      refine XOA.rd rfl Rd.asg ?_
      refine XOA.nil ?_
      refine DA.thn_normal ?_
      refine XA.seq ?_
      refine XA.region ?_
      refine XOA.rd rfl Rd.mv ?_
      refine XOA.rd rfl (Rd.muli (c := ((i * 8 : Nat) : Int)) rfl rfl (by omega) (by omega)) ?_
      refine XOA.rd rfl Rd.mv ?_
      refine XOA.rd rfl (Rd.addi (c := ((i * 8 + k : Nat) : Int)) rfl rfl (by omega) (by omega)) ?_
      refine XOA.rd rfl Rd.asg ?_
      refine XOA.nil ?_
      refine DA.thn_normal ?_
      refine XA.seq ?_
      refine XA.region ?_
      refine XOA.rd rfl Rd.mv ?_
      refine XOA.rd rfl (Rd.lss rfl rfl) ?_
      refine XOA.nil ?_
      refine DA.thn_normal ?_
      refine XA.condp rfl (fun hp => ?_) (fun hp => ?_)
      · have hp : i * 8 + k < 14 := by omega
        have hcp := com_page (sb := sb) (left := leftOf D (j + i)) (gen := gen) (t0 := T0 t0 a0 i) (t1 := T1 t1 a1 i) (fr := fr') (pg := pg) (k := i * 8 + k) (by omega)
        have hspl := fun x => ints_put (l := twTo pg i k) (k := k) (by omega) x
        have hfit : k + ty2.size ≤ (ints (twTo pg i k)).length := by rw [ints_len, hl8]; show k + 1 ≤ 8; omega
        refine XA.region ?_
        refine XOA.rd rfl Rd.mv ?_
        refine XOA.rd rfl Rd.mv ?_
        refine XOA.rd rfl Rd.mv ?_
        refine XOA.rd rfl (Rd.nilCheck rfl) ?_
        refine XOA.rd rfl (Rd.fA rfl) ?_
        refine XOA.rd rfl (Rd.fA rfl) ?_
        refine XOA.rd rfl (Rd.ixA rfl rfl) ?_
        refine XOA.rd rfl (Rd.ldC rfl (tyrow rfl) rfl) ?_
        refine XOA.rd rfl (Rd.ixA rfl rfl) ?_
        refine XOA.wr0 rfl (WrA.st (tyrow rfl) rfl) ?_
        rintro _ _ _ ⟨rfl, rfl, rfl⟩
        refine XOA.nil ?_
        refine DA.inb_normal ?_
        refine DA.thn_normal ?_
        refine XA.region ?_
        refine XOA.rd rfl (by first | exact Rd.adi rfl rfl | exact Rd.add rfl rfl) ?_
        refine XOA.rd rfl Rd.mv ?_
        refine XOA.nil ?_
        refine DA.thn_normal ?_
        refine ⟨(Keep.upd (Keep.upd (Keep.updN (Keep.upd (Keep.upd (Keep.upd (Keep.upd (Keep.upd (Keep.upd (Keep.upd (Keep.upd (Keep.upd (Keep.upd (Keep.upd (Keep.upd (Keep.upd (Keep.upd (Keep.upd (Keep.upd (Keep.upd (Keep.upd (Keep.upd (Keep.upd (Keep.hav (Keep.hav (Keep.refl _ _) rfl) rfl) rfl) rfl) rfl) rfl) rfl) rfl) rfl) rfl) rfl) rfl) rfl) rfl) rfl) rfl) rfl) rfl) rfl) rfl) rfl) rfl)) rfl) rfl), k + 1, _, (by (repeat (first | exact trivial | refine ⟨rfl, ?_⟩ | refine ⟨Eq.trans rfl (congrArg Value.bool hmat.symm), ?_⟩)); (first | done | fail)), ?_, ⟨rfl, hlt2, rfl⟩, (by omega)⟩
        · rw [twTo_succ pg i hlt2 hp]; exact (by (repeat (first | exact Ent.nil _ | (apply Ent.sel; focus (first | ((repeat (first | with_reducible exact Sel.head | apply Sel.tail)); done) | ((repeat (first | exact Sel.head | apply Sel.tail)); done))) | apply Ent.selNil | apply Ent.selEmp)); (first | done | fail))
      · have hp : ¬ i * 8 + k < 14 := by omega
        refine XA.skip ?_
        refine DA.inb_normal ?_
        refine DA.thn_normal ?_
        refine XA.region ?_
        refine XOA.rd rfl (by first | exact Rd.adi rfl rfl | exact Rd.add rfl rfl) ?_
        refine XOA.rd rfl Rd.mv ?_
        refine XOA.nil ?_
        refine DA.thn_normal ?_
        refine ⟨(Keep.upd (Keep.upd (Keep.upd (Keep.upd (Keep.upd (Keep.upd (Keep.upd (Keep.upd (Keep.upd (Keep.upd (Keep.upd (Keep.upd (Keep.upd (Keep.hav (Keep.hav (Keep.refl _ _) rfl) rfl) rfl) rfl) rfl) rfl) rfl) rfl) rfl) rfl) rfl) rfl) rfl) rfl) rfl), k + 1, _, (by (repeat (first | exact trivial | refine ⟨rfl, ?_⟩ | refine ⟨Eq.trans rfl (congrArg Value.bool hmat.symm), ?_⟩)); (first | done | fail)), ?_, ⟨rfl, hlt2, rfl⟩, (by omega)⟩
        · rw [twTo_same pg i hp]; exact (by (repeat (first | exact Ent.nil _ | (apply Ent.sel; focus (first | ((repeat (first | with_reducible exact Sel.head | apply Sel.tail)); done) | ((repeat (first | exact Sel.head | apply Sel.tail)); done))) | apply Ent.selNil | apply Ent.selEmp)); (first | done | fail))
    have hk8 : k = 8 := by omega
    subst hk8
    have hw8 : (tw pg i).length = 8 := twTo_len pg i 8
    rw [dropS ha] at hfr
    rw [show twTo pg i 8 = tw pg i from rfl]
    refine XA.exit ?_
    refine DA.thn_exit ?_
    refine DA.thn_exit ?_
    refine DA.inb_same ?_
    refine DA.thn_normal ?_
    refine XA.seq ?_
    refine XA.region ?_
    refine XOA.rd rfl Rd.mv ?_
    refine XOA.rd rfl (Rd.ldA rfl) ?_
    by_cases hDk : D = ((j + i : Nat) : Int)
    · subst hDk
      refine XOA.wr0 rfl (WrA.cE (put_no σ c sb (j + i) gen _ _ pg fr' a ((a0 :: a1 :: free).drop (i + 1)) (tw pg i) (by omega) hpg hw8 hfr) rfl) ?_
      rintro _ _ _ ⟨_, ⟨rfl, rfl, rfl⟩, rfl⟩
      refine XOA.cl ?_
      refine XOA.rd rfl Rd.mv ?_
      refine XOA.rd rfl (Rd.extract rfl rfl) ?_
      refine XOA.rd rfl (Rd.extract rfl rfl) ?_
      refine XOA.rd rfl Rd.asg ?_
      refine XOA.rd rfl Rd.asg ?_
      refine XOA.nil ?_
      refine DA.thn_normal ?_
      refine XA.seq ?_
      refine XA.seq ?_
      refine XA.region ?_
      refine XOA.rd rfl Rd.mv ?_
      refine XOA.rd rfl (by first | exact Rd.notp rfl | exact Rd.not rfl) ?_
      refine XOA.nil ?_
      refine DA.thn_normal ?_
      refine XA.condT rfl rfl ?_
      refine XA.seq ?_
      refine XA.region ?_
      refine XOA.rd rfl Rd.asg ?_
      refine XOA.nil ?_
      refine DA.thn_normal ?_
      refine XA.ret ?_
      refine DA.thn_ret ?_
      refine DA.inb_ret ?_
      refine DA.thn_ret ?_
      refine DA.thn_ret ?_
      refine DA.inb_ret ?_
      refine DA.thn_ret ?_
      rw [← dropS ha] at hfr
      exact bodyA.ret (ResA.one rfl rfl) (by (repeat (first | exact Ent.nil _ | (apply Ent.sel; focus (first | ((repeat (first | with_reducible exact Sel.head | apply Sel.tail)); done) | ((repeat (first | exact Sel.head | apply Sel.tail)); done))) | apply Ent.selNil | apply Ent.selEmp)); (first | done | fail)) ⟨i, fr', hi, congrArg Value.bool (decide_eq_false (by omega)).symm, fun _ => rfl, hnot, hfr, rfl, rfl⟩
    · 
      refine XOA.wr0 rfl (WrA.cE (put_yes σ c sb db D (j + i) gen _ _ pg fr' a ((a0 :: a1 :: free).drop (i + 1)) (tw pg i) s (dTo d (tabL pg) (a0 :: a1 :: free) i) hD (by omega) hDk hpg hw8 hfr (by omega)) rfl) ?_
      rintro _ _ _ ⟨_, ⟨fr2, hfr2, rfl, rfl, rfl⟩, rfl⟩
      refine XOA.cl ?_
      have hspl := com_puti (sb := sb) (left := leftOf D (j + i + 1)) (gen := gen) (t0 := t0) (t1 := t1) (a0 := a0) (a1 := a1) (pg := pg) (fr := fr2) hlt
      rw [← hai] at hspl
      have hfit : 3 + i + ty3.size ≤ (comC sb (leftOf D (j + i + 1)) gen (T0 t0 a0 i) (T1 t1 a1 i) pg fr2).length := by rw [com_len hpg]; show 3 + i + 1 ≤ 20; omega
      clear hai
      refine XOA.rd rfl Rd.mv ?_
      refine XOA.rd rfl (Rd.extract rfl rfl) ?_
      refine XOA.rd rfl (Rd.extract rfl rfl) ?_
      refine XOA.rd rfl Rd.asg ?_
      refine XOA.rd rfl Rd.asg ?_
      refine XOA.nil ?_
      refine DA.thn_normal ?_
      refine XA.seq ?_
      refine XA.seq ?_
      refine XA.region ?_
      refine XOA.rd rfl Rd.mv ?_
      refine XOA.rd rfl (by first | exact Rd.notp rfl | exact Rd.not rfl) ?_
      refine XOA.nil ?_
      refine DA.thn_normal ?_
      refine XA.condF rfl rfl ?_
      refine XA.skip ?_
      refine DA.thn_normal ?_
      refine XA.region ?_
      refine XOA.rd rfl Rd.mv ?_
      refine XOA.rd rfl Rd.mv ?_
      refine XOA.rd rfl Rd.mv ?_
      refine XOA.rd rfl (Rd.nilCheck rfl) ?_
      refine XOA.rd rfl (Rd.fA rfl) ?_
      refine XOA.rd rfl (Rd.fA rfl) ?_
      refine XOA.rd rfl (Rd.ixA rfl rfl) ?_
      refine XOA.wr0 rfl (WrA.st (tyrow rfl) rfl) ?_
      rintro _ _ _ ⟨rfl, rfl, rfl⟩
      refine XOA.nil ?_
      refine DA.inb_normal ?_
      refine DA.thn_normal ?_
      refine XA.region ?_
      refine XOA.rd rfl (by first | exact Rd.adi rfl rfl | exact Rd.add rfl rfl) ?_
      refine XOA.rd rfl Rd.mv ?_
      refine XOA.nil ?_
      refine DA.thn_normal ?_
      have hnew : ∀ q : Nat, q < i + 1 → D ≠ ((j + q : Nat) : Int) := fun q hq => by
        rcases Nat.lt_or_ge q i with h | h
        · exact hnot q h
        · have : q = i := by omega
          subst this; exact hDk
      refine ⟨(Keep.upd (Keep.upd (Keep.updN (Keep.upd (Keep.upd (Keep.upd (Keep.upd (Keep.upd (Keep.upd (Keep.upd (Keep.upd (Keep.upd (Keep.upd (Keep.upd (Keep.upd (Keep.upd (Keep.upd (Keep.updO (Keep.upd (Keep.upd (Keep.upd (Keep.upd (Keep.hav (Keep.hav (Keep.upd (Keep.updO (Keep.upd (Keep.upd (Keep.upd (Keep.upd (Keep.hav (Keep.refl _ _) rfl) rfl) rfl) rfl) rfl) rfl) rfl) rfl) rfl) rfl) rfl) rfl) rfl) rfl) rfl) rfl) rfl) rfl) rfl) rfl) rfl) rfl) rfl) rfl) rfl) rfl) rfl) rfl)) rfl) rfl), i + 1, _, (by (repeat (first | exact trivial | refine ⟨rfl, ?_⟩ | refine ⟨Eq.trans rfl (congrArg Value.bool hmat.symm), ?_⟩)); (first | done | fail)), ?_, ⟨rfl, hlt, hnew, fr2, hfr2, rfl⟩, (by omega)⟩
      · rw [e2]; exact (by (repeat (first | exact Ent.nil _ | (apply Ent.sel; focus (first | ((repeat (first | with_reducible exact Sel.head | apply Sel.tail)); done) | ((repeat (first | exact Sel.head | apply Sel.tail)); done))) | apply Ent.selNil | apply Ent.selEmp)); (first | done | fail))
  have hi2 : i = 2 := by omega
  subst hi2
  refine XA.exit ?_
  refine DA.thn_exit ?_
  refine DA.thn_exit ?_
  refine DA.inb_same ?_
  refine DA.thn_normal ?_
  refine XA.seq ?_
  refine XA.region ?_
  refine XOA.rd rfl Rd.asg ?_
  refine XOA.nil ?_
  refine DA.thn_normal ?_
  refine XA.ret ?_
  exact bodyA.ret (ResA.one rfl rfl) (by (repeat (first | exact Ent.nil _ | (apply Ent.sel; focus (first | ((repeat (first | with_reducible exact Sel.head | apply Sel.tail)); done) | ((repeat (first | exact Sel.head | apply Sel.tail)); done))) | apply Ent.selNil | apply Ent.selEmp)); (first | done | fail)) ⟨2, fr', Nat.le_refl _, congrArg Value.bool (decide_eq_true rfl).symm, fun h => absurd h (Nat.lt_irrefl _), hnot, hfr, rfl, rfl⟩
end Go.Proofs.Ytplobdiknobhoaa
