/- Package store: pages, the table and the root are written. -/
import Derived.Test.YtplobdiknobhoaaSu
import Derived.Test.YtplobdiknobhoaaLaw
namespace Go.Proofs.Ytplobdiknobhoaa
open Go X
set_option maxHeartbeats 1000000
/-- A page that is handed in. -/
structure PageS where
  n : Int
  w : List Int
def PageS.cells (x : PageS) : List Value := i64 x.n :: ints x.w
def rPage : RT PageS := fun _ cs x => cs = x.cells ∧ x.w.length = 8
def pgTo (pg : List Int) (l : List PageS) (free : List Int) : Nat → List Int
  | 0 => pg
  | k + 1 => (pgTo pg l free k).set (l.getD k ⟨0, []⟩).n.toNat (free.getD k 0)
def dTo (d : DiskS) (l : List PageS) (free : List Int) : Nat → DiskS
  | 0 => d
  | k + 1 => (dTo d l free k).write (free.getD k 0) (l.getD k ⟨0, []⟩).w
theorem pgTo_len {pg : List Int} (l : List PageS) (free : List Int) (h : pg.length = 14) : ∀ k, (pgTo pg l free k).length = 14
  | 0 => h
  | k + 1 => by rw [pgTo, List.length_set]; exact pgTo_len l free h k
theorem write_wait (d : DiskS) (a : Int) (w : List Int) : (d.write a w).wait.length ≤ d.wait.length + 1 := by
  unfold DiskS.write; split <;> simp
theorem dTo_wait (d : DiskS) (l : List PageS) (free : List Int) : ∀ k, (dTo d l free k).wait.length ≤ d.wait.length + k
  | 0 => Nat.le_refl _
  | k + 1 => by have := write_wait (dTo d l free k) (free.getD k 0) (l.getD k ⟨0, []⟩).w; have := dTo_wait d l free k; rw [dTo]; omega
/-- Flush, if a deed is left. -/
theorem cflush_no (σ : PH) (c sb : Nat) (j : Nat) (gen t0 t1 : Int) (pg : List Int) (fr : Value) (hj : j < 1000) :
    CallsA Try.prog 62 #[ptr c] σ [blk c (comC sb (leftOf j j) gen t0 t1 pg fr) 110] (RetA fun v σ' Γ' => v = .bool false ∧ σ = σ' ∧ Γ' = [blk c (comC sb (leftOf j j) gen t0 t1 pg fr) 110]) := by
  refine enterA1 Try.func62 rfl rfl rfl ?_
  refine XA.seq ?_
  refine XA.region ?_
  refine XOA.rd rfl Rd.asg ?_
  refine XOA.nil ?_
  refine DA.thn_normal ?_
  refine XA.seq ?_
  refine XA.seq ?_
  refine XA.region ?_
  refine XOA.rd rfl Rd.mv ?_
  refine XOA.wr0 rfl (WrA.cE (may_no σ c sb j gen t0 t1 pg _ hj) rfl) ?_
  rintro _ _ _ ⟨_, ⟨rfl, rfl, rfl⟩, rfl⟩
  refine XOA.cl ?_
  refine XOA.rd rfl (by first | exact Rd.notp rfl | exact Rd.not rfl) ?_
  refine XOA.nil ?_
  refine DA.thn_normal ?_
  refine XA.condT rfl rfl ?_
  refine XA.seq ?_
  refine XA.region ?_
  refine XOA.rd rfl Rd.asg ?_
  refine XOA.nil ?_
  refine DA.thn_normal ?_
  refine XA.ret ?_
  refine DA.thn_ret ?_
  exact bodyA.ret (ResA.one rfl rfl) (by (repeat (first | exact Ent.nil _ | (apply Ent.sel; focus (first | ((repeat (first | with_reducible exact Sel.head | apply Sel.tail)); done) | ((repeat (first | exact Sel.head | apply Sel.tail)); done))) | apply Ent.selNil | apply Ent.selEmp)); (first | done | fail)) ⟨rfl, rfl, rfl⟩
theorem cflush_yes (σ : PH) (c sb db : Nat) (D : Int) (j : Nat) (gen t0 t1 : Int) (pg : List Int) (fr : Value) (s : StS) (d : DiskS) (hD : okD D) (hj : j < 1000) (hne : D ≠ (j : Int)) (hlen : d.wait.length < 1000000) :
    CallsA Try.prog 62 #[ptr c] σ [blk c (comC sb (leftOf D j) gen t0 t1 pg fr) 110, blk sb (ptr db :: s.cells) 104, Disk db d] (RetA fun v σ' Γ' => v = .bool true ∧ σ = σ' ∧ Γ' = [blk c (comC sb (leftOf D (j + 1)) gen t0 t1 pg fr) 110, blk sb (ptr db :: s.cells) 104, Disk db (d.settle fun _ => true)]) := by
  refine enterA1 Try.func62 rfl rfl rfl ?_
  refine XA.seq ?_
  refine XA.region ?_
  refine XOA.rd rfl Rd.asg ?_
  refine XOA.nil ?_
  refine DA.thn_normal ?_
  refine XA.seq ?_
  refine XA.seq ?_
  refine XA.region ?_
  refine XOA.rd rfl Rd.mv ?_
  refine XOA.wr0 rfl (WrA.cE (may_yes σ c sb D j gen t0 t1 pg _ hD hj hne) rfl) ?_
  rintro _ _ _ ⟨_, ⟨rfl, rfl, rfl⟩, rfl⟩
  refine XOA.cl ?_
  refine XOA.rd rfl (by first | exact Rd.notp rfl | exact Rd.not rfl) ?_
  refine XOA.nil ?_
  refine DA.thn_normal ?_
  refine XA.condF rfl rfl ?_
  refine XA.skip ?_
  refine DA.thn_normal ?_
  refine XA.seq ?_
  refine XA.region ?_
  refine XOA.rd rfl Rd.mv ?_
  refine XOA.rd rfl (Rd.nilCheck rfl) ?_
  refine XOA.rd rfl (Rd.fA rfl) ?_
  refine XOA.rd rfl (Rd.ldC rfl (tyrow rfl) rfl) ?_
  refine XOA.rd rfl (Rd.nilCheck rfl) ?_
  refine XOA.rd rfl (Rd.fA rfl) ?_
  refine XOA.rd rfl (Rd.ldC rfl (tyrow rfl) rfl) ?_
  refine XOA.wr0 rfl (WrA.cE (flush_a σ db d hlen) rfl) ?_
  rintro _ _ _ ⟨_, ⟨rfl, rfl, rfl⟩, rfl⟩
  refine XOA.cl ?_
  refine XOA.nil ?_
  refine DA.thn_normal ?_
  refine XA.seq ?_
  refine XA.region ?_
  refine XOA.rd rfl Rd.asg ?_
  refine XOA.nil ?_
  refine DA.thn_normal ?_
  refine XA.ret ?_
  exact bodyA.ret (ResA.one rfl rfl) (by (repeat (first | exact Ent.nil _ | (apply Ent.sel; focus (first | ((repeat (first | with_reducible exact Sel.head | apply Sel.tail)); done) | ((repeat (first | exact Sel.head | apply Sel.tail)); done))) | apply Ent.selNil | apply Ent.selEmp)); (first | done | fail)) ⟨rfl, rfl, rfl⟩
theorem pages_a (σ : PH) (c sb db : Nat) (D : Int) (gen t0 t1 : Int) (pg : List Int) (fr : Value) (s : StS) (d : DiskS) (sl : Value) (l : List PageS) (free : List Int) (hD : okD D) (hpg : pg.length = 14) (hf : PInts σ fr free) (hl : PSl 9 rPage σ sl l) (hn : ∀ x ∈ l, 0 ≤ x.n ∧ x.n < 14) (hlf : l.length ≤ free.length) (hl1 : l.length ≤ 100) (hlen : d.wait.length < 1000) :
    CallsA Try.prog 60 #[ptr c, sl] σ [blk c (comC sb (leftOf D 0) gen t0 t1 pg fr) 110, blk sb (ptr db :: s.cells) 104, Disk db d]
      (RetA fun v σ' Γ' => ∃ (k : Nat) (fr' : Value), k ≤ l.length ∧ v = .bool (decide (k = l.length)) ∧ (k < l.length → D = k) ∧ (∀ i : Nat, i < k → D ≠ (i : Int)) ∧ PInts σ fr' (free.drop k) ∧ σ = σ' ∧ Γ' = [blk c (comC sb (leftOf D k) gen t0 t1 (pgTo pg l free k) fr') 110, blk sb (ptr db :: s.cells) 104, Disk db (dTo d l free k)]) := by
  obtain ⟨pl, cl, rfl, hle, hmx⟩ := hl.shape
  refine enterA2 Try.func60 rfl rfl rfl ?_
  refine XA.seq ?_
  refine XA.region ?_
  refine XOA.rd rfl Rd.asg ?_
  refine XOA.nil ?_
  refine DA.thn_normal ?_
  refine XA.seq ?_
  refine XA.seq ?_
  refine XA.region ?_
  refine XOA.rd rfl Rd.mv ?_
  refine XOA.rd rfl (Rd.lenSlice (tyrow rfl) rfl rfl) ?_
  refine XOA.rd rfl Rd.mv ?_
  refine XOA.nil ?_
  refine DA.thn_normal ?_
  refine XA.block ?_
  refine XA.gen [(0, _), (4, _), (9, _), (10, _), (11, _)] ⟨(by with_reducible (conv => lhs; whnf)), (by with_reducible (conv => lhs; whnf)), (by with_reducible (conv => lhs; whnf)), (by with_reducible (conv => lhs; whnf)), (by with_reducible (conv => lhs; whnf)), trivial⟩ (fun δ => ?_)
  dsimp only [List.foldl]
  refine XA.loop [(4, 4), (6, 8), (11, 32)] (fun k : Nat => [(11, i64 k)]) (fun k σ' Γ' => σ = σ' ∧ k ≤ l.length ∧ (∀ i : Nat, i < k → D ≠ (i : Int)) ∧ ∃ fr', PInts σ fr' (free.drop k) ∧ Γ' = [blk c (comC sb (leftOf D k) gen t0 t1 (pgTo pg l free k) fr') 110, blk sb (ptr db :: s.cells) 104, Disk db (dTo d l free k)]) (fun k => l.length - k) 0 (by exact ⟨rfl, trivial⟩) (Δ0 := _) ?_ (⟨rfl, Nat.zero_le _, fun i h => absurd h (Nat.not_lt_zero _), fr, hf, rfl⟩) ?_
  · exact (by (repeat (first | exact Ent.nil _ | (apply Ent.sel; focus (first | ((repeat (first | with_reducible exact Sel.head | apply Sel.tail)); done) | ((repeat (first | exact Sel.head | apply Sel.tail)); done))) | apply Ent.selNil | apply Ent.selEmp)); (first | done | fail))
  rintro k δ _ _ ⟨rfl, hk, hnot, fr', hfr, rfl⟩
  dsimp only [ovr, List.foldl]
  refine XA.seq ?_
  refine XA.region ?_
  refine XOA.rd rfl (Rd.lss rfl rfl) ?_
  refine XOA.nil ?_
  refine DA.thn_normal ?_
  refine XA.seq ?_
  refine XA.condp rfl (fun hlt => ?_) (fun hlt => ?_)
  · have hlt : k < l.length := by omega
    obtain ⟨x, hx⟩ : ∃ x, l[k]? = some x := ⟨_, List.getElem?_eq_getElem hlt⟩
    obtain ⟨a, ha⟩ : ∃ a, free[k]? = some a := ⟨_, List.getElem?_eq_getElem (by omega)⟩
    obtain ⟨g, o, row, rfl, ⟨rfl, hx8⟩, hrl, hrow⟩ := hl.at hx
    have hxn := hn x (List.mem_of_getElem? hx)
    have hlx : l.getD k ⟨0, []⟩ = x := by rw [List.getD_eq_getElem?_getD, hx]; rfl
    have hfa : free.getD k 0 = a := by rw [List.getD_eq_getElem?_getD, ha]; rfl
    have hw := dTo_wait d l free k
    have hpk := pgTo_len l free hpg k
    rw [dropS ha] at hfr
    have e1 : pgTo pg l free (k + 1) = (pgTo pg l free k).set x.n.toNat a := by rw [pgTo, hlx, hfa]
    have e2 : dTo d l free (k + 1) = (dTo d l free k).write a x.w := by rw [dTo, hlx, hfa]
    obtain ⟨xn, xw⟩ := x
    simp only at hx8 hxn e1 e2
    obtain ⟨n, rfl⟩ : ∃ n : Nat, xn = n := Int.eq_ofNat_of_zero_le hxn.1
    rw [Int.toNat_natCast] at e1
    have hn14 : n < 14 := by omega
    unfold PageS.cells at hrow hrl
    simp only at hrow hrl
    have hone : ones (i64 (n : Int) :: ints xw) := ones_cons rfl (ones_ints _)
    have htk : ((i64 (n : Int) :: ints xw).drop 1).take 8 = ints xw := take_eq (us := ints xw) (by simpa using hx8)
    have hc0 : (i64 (n : Int) :: ints xw)[0]? = some (i64 (n : Int)) := rfl
    refine XA.skip ?_
    refine DA.thn_normal ?_
    refine XA.seq ?_
    refine XA.block ?_
    refine XA.seq ?_
    refine XA.region ?_
    refine XOA.rd rfl (Rd.ixS rfl rfl) ?_
    refine XOA.rd rfl (Rd.ldA rfl) ?_
    refine XOA.wr0 rfl (WrA.alloc (tyrow rfl)) ?_
    rintro _ _ _ ⟨g6, rfl, rfl, rfl⟩
    refine XOA.wr0 rfl (WrA.st (tyrow rfl) rfl) ?_
    rintro _ _ _ ⟨rfl, rfl, rfl⟩
    refine XOA.nil ?_
    refine DA.thn_normal ?_
    refine XA.seq ?_
    refine XA.region ?_
    refine XOA.rd rfl Rd.mv ?_
    refine XOA.rd rfl (Rd.fA rfl) ?_
    refine XOA.rd rfl (Rd.ldA rfl) ?_
    by_cases hDk : D = (k : Int)
    · subst hDk
      refine XOA.wr0 rfl (WrA.cE (put_no σ c sb k gen t0 t1 (pgTo pg l free k) fr' a (free.drop (k + 1)) xw (by omega) hpk hx8 hfr) rfl) ?_
      rintro _ _ _ ⟨_, ⟨rfl, rfl, rfl⟩, rfl⟩
      refine XOA.cl ?_
      refine XOA.rd rfl Rd.mv ?_
      refine XOA.rd rfl (Rd.extract rfl rfl) ?_
      refine XOA.rd rfl (Rd.extract rfl rfl) ?_
      refine XOA.rd rfl Rd.asg ?_
      refine XOA.rd rfl Rd.asg ?_
      refine XOA.nil ?_
      refine DA.thn_normal ?_
      refine XA.seq ?_
      refine XA.seq ?_
      refine XA.region ?_
      refine XOA.rd rfl Rd.mv ?_
      refine XOA.rd rfl (by first | exact Rd.notp rfl | exact Rd.not rfl) ?_
      refine XOA.nil ?_
      refine DA.thn_normal ?_
      refine XA.condT rfl rfl ?_
      refine XA.seq ?_
      refine XA.region ?_
      refine XOA.rd rfl Rd.asg ?_
      refine XOA.nil ?_
      refine DA.thn_normal ?_
      refine XA.ret ?_
      refine DA.thn_ret ?_
      refine DA.inb_ret ?_
      refine DA.thn_ret ?_
      refine DA.thn_ret ?_
      refine DA.inb_ret ?_
      refine DA.thn_ret ?_
      rw [← dropS ha] at hfr
      exact bodyA.ret (ResA.one rfl rfl) (by (repeat (first | exact Ent.nil _ | (apply Ent.sel; focus (first | ((repeat (first | with_reducible exact Sel.head | apply Sel.tail)); done) | ((repeat (first | exact Sel.head | apply Sel.tail)); done))) | apply Ent.selNil | apply Ent.selEmp)); (first | done | fail)) ⟨k, fr', hk, congrArg Value.bool (decide_eq_false (by omega)).symm, fun _ => rfl, hnot, hfr, rfl, rfl⟩
    · 
      refine XOA.wr0 rfl (WrA.cE (put_yes σ c sb db D k gen t0 t1 (pgTo pg l free k) fr' a (free.drop (k + 1)) xw s (dTo d l free k) hD (by omega) hDk hpk hx8 hfr (by omega)) rfl) ?_
      rintro _ _ _ ⟨_, ⟨fr2, hfr2, rfl, rfl, rfl⟩, rfl⟩
      refine XOA.cl ?_
      have hspl := fun y => com_putp (sb := sb) (left := leftOf D (k + 1)) (gen := gen) (t0 := t0) (t1 := t1) (pg := pgTo pg l free k) (fr := fr2) hpk hn14 y
      have hfit : 5 + n + ty3.size ≤ (comC sb (leftOf D (k + 1)) gen t0 t1 (pgTo pg l free k) fr2).length := by rw [com_len hpk]; show 5 + n + 1 ≤ 20; omega
      refine XOA.rd rfl Rd.mv ?_
      refine XOA.rd rfl (Rd.extract rfl rfl) ?_
      refine XOA.rd rfl (Rd.extract rfl rfl) ?_
      refine XOA.rd rfl Rd.asg ?_
      refine XOA.rd rfl Rd.asg ?_
      refine XOA.nil ?_
      refine DA.thn_normal ?_
      refine XA.seq ?_
      refine XA.seq ?_
      refine XA.region ?_
      refine XOA.rd rfl Rd.mv ?_
      refine XOA.rd rfl (by first | exact Rd.notp rfl | exact Rd.not rfl) ?_
      refine XOA.nil ?_
      refine DA.thn_normal ?_
      refine XA.condF rfl rfl ?_
      refine XA.skip ?_
      refine DA.thn_normal ?_
      refine XA.draw (by kernel_rfl) _ _ [8] [(0, .pu), (1, .pu), (2, .rd), (3, .pu), (4, .pu), (5, .pu), (6, .pu), (7, .pu), (8, .wr)] (by kernel_rfl) (PH.sub.refl _) (Ent.sel (R := blk g6 _ _) (by ((repeat (first | with_reducible exact Sel.head | apply Sel.tail)); (first | done | fail))) (Ent.nil _)) ?_
      refine XPA.pu rfl rfl Gd.free Rd.mv ?_
      refine XPA.pu rfl rfl Gd.free (Rd.fA rfl) ?_
      refine XPA.rd rfl rfl Gd.free (Rd.ldC rfl (tyrow rfl) rfl) ?_
      refine XPA.pu rfl rfl Gd.free Rd.mv ?_
      refine XPA.pu rfl rfl Gd.free (Rd.nilCheck rfl) ?_
      refine XPA.pu rfl rfl Gd.free (Rd.fA rfl) ?_
      refine XPA.pu rfl rfl Gd.free (Rd.fA rfl) ?_
      refine XPA.pu rfl rfl Gd.free (Rd.ixA rfl rfl) ?_
      refine XPA.wrZ0 rfl rfl Gd.free (by kernel_rfl) (WrA.st (tyrow rfl) rfl) ?_
      rintro _ _ _ ⟨rfl, rfl, rfl⟩
      refine XPA.nil ?_
      refine DA.inb_normal ?_
      refine DA.thn_normal ?_
      refine XA.region ?_
      refine XOA.rd rfl (by first | exact Rd.adi rfl rfl | exact Rd.add rfl rfl) ?_
      refine XOA.rd rfl Rd.mv ?_
      refine XOA.nil ?_
      refine DA.thn_normal ?_
      have hnew : ∀ i : Nat, i < k + 1 → D ≠ (i : Int) := fun i hi => by
        rcases Nat.lt_or_ge i k with h | h
        · exact hnot i h
        · have : i = k := by omega
          subst this; exact hDk
      refine ⟨(Keep.upd (Keep.upd (Keep.updN (Keep.upd (Keep.upd (Keep.upd (Keep.upd (Keep.upd (Keep.upd (Keep.upd (Keep.upd (Keep.upd (Keep.upd (Keep.upd (Keep.upd (Keep.upd (Keep.upd (Keep.upd (Keep.updO (Keep.upd (Keep.upd (Keep.upd (Keep.updN (Keep.updO (Keep.upd (Keep.upd (Keep.upd (Keep.upd (Keep.hav (Keep.hav (Keep.hav (Keep.refl _ _) rfl) rfl) rfl) rfl) rfl) rfl) rfl) rfl)) rfl) rfl) rfl) rfl) rfl) rfl) rfl) rfl) rfl) rfl) rfl) rfl) rfl) rfl) rfl) rfl) rfl) rfl) rfl)) rfl) rfl), k + 1, _, (by (repeat (first | exact trivial | refine ⟨rfl, ?_⟩ | refine ⟨Eq.trans rfl (congrArg Value.bool hmat.symm), ?_⟩)); (first | done | fail)), ?_, ⟨rfl, hlt, hnew, fr2, hfr2, rfl⟩, (by omega)⟩
      · rw [e1, e2]; exact (by (repeat (first | exact Ent.nil _ | (apply Ent.sel; focus (first | ((repeat (first | with_reducible exact Sel.head | apply Sel.tail)); done) | ((repeat (first | exact Sel.head | apply Sel.tail)); done))) | apply Ent.selNil | apply Ent.selEmp)); (first | done | fail))
  have hkn : k = l.length := by omega
  subst hkn
  refine XA.exit ?_
  refine DA.thn_exit ?_
  refine DA.thn_exit ?_
  refine DA.inb_same ?_
  refine DA.thn_normal ?_
  refine XA.seq ?_
  refine XA.region ?_
  refine XOA.rd rfl Rd.asg ?_
  refine XOA.nil ?_
  refine DA.thn_normal ?_
  refine XA.ret ?_
  exact bodyA.ret (ResA.one rfl rfl) (by (repeat (first | exact Ent.nil _ | (apply Ent.sel; focus (first | ((repeat (first | with_reducible exact Sel.head | apply Sel.tail)); done) | ((repeat (first | exact Sel.head | apply Sel.tail)); done))) | apply Ent.selNil | apply Ent.selEmp)); (first | done | fail)) ⟨l.length, fr', Nat.le_refl _, congrArg Value.bool (decide_eq_true rfl).symm, fun h => absurd h (Nat.lt_irrefl _), hnot, hfr, rfl, rfl⟩
end Go.Proofs.Ytplobdiknobhoaa
