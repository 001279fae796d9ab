/- Package disk: settle, Flush, Crash, Sure. -/
import Derived.Test.YtplobdiknobhoaaDk
namespace Go.Proofs.Ytplobdiknobhoaa
open Go X
set_option maxHeartbeats 1000000
/-- Bit k of a mask (64 go round). -/
def bitOf (m : Int) (k : Nat) : Bool := decide (m.toNat / 2 ^ (k % 64) % 2 = 1)
theorem and1 (x : Int) (h0 : 0 ≤ x) (h1 : x < 18446744073709551616) : IntKind.u64.wrap ((BitVec.ofInt 64 x &&& BitVec.ofInt 64 1).toNat : Int) = x % 2 := by
  obtain ⟨n, rfl⟩ := Int.eq_ofNat_of_zero_le h0
  have hn : n < 18446744073709551616 := by omega
  have e : (BitVec.ofInt 64 (n : Int) &&& BitVec.ofInt 64 1).toNat = n % 2 := by
    have : (BitVec.ofInt 64 (1 : Int)) = 1#64 := by decide
    rw [this, BitVec.toNat_and]
    simp [Nat.and_one_is_mod]
  rw [e]
  show IntKind.u64.wrap _ = _
  have := Nat.mod_lt n (show 0 < 2 by omega)
  have hw : ∀ q : Int, 0 ≤ q → q < 18446744073709551616 → IntKind.u64.wrap q = q := fun q a b => by simp [IntKind.wrap, IntKind.bits, IntKind.signed]; omega
  rw [hw _ (by omega) (by omega)]
  omega
theorem splice_flat {l : List (List Int)} (hl : ∀ w ∈ l, w.length = 8) {n : Nat} (hn : n < l.length) {w : List Int} (hw : w.length = 8) (sl : Value) : splice (ints l.flatten ++ [sl]) (n * 8) (ints w) = ints (l.set n w).flatten ++ [sl] := by
  have key : ∀ (l : List (List Int)), (∀ w ∈ l, w.length = 8) → ∀ n, n < l.length → (l.flatten).take (n * 8) ++ w ++ (l.flatten).drop (n * 8 + 8) = (l.set n w).flatten := by
    intro l
    induction l with
    | nil => intro _ n hn; simp at hn
    | cons a l ih =>
      intro hl n hn
      have ha : a.length = 8 := hl a (by simp)
      cases n with
      | zero => simp [← ha]
      | succ n =>
        have := ih (fun x hx => hl x (by simp [hx])) n (by simpa using hn)
        simp only [List.flatten_cons, List.set_cons_succ]
        rw [← this, Nat.succ_mul, Nat.add_comm (n * 8) 8, ← ha, List.take_length_add_append, Nat.add_assoc, List.drop_length_add_append]
        simp [Nat.add_comm]
  have hlen : l.flatten.length = l.length * 8 := by
    have := flat_len (fun w : List Int => ints w) 8 l (fun x hx => by simp [hl x hx])
    simpa [List.flatMap, ← List.map_flatten, ints] using this
  have hle : n * 8 + 8 ≤ l.flatten.length := by rw [hlen]; omega
  unfold splice
  rw [List.take_append_of_le_length (by rw [ints, List.length_map]; omega), List.drop_append_of_le_length (by rw [ints, ints, List.length_map, List.length_map]; omega), ← key l hl n hn]
  simp [ints, List.map_take, List.map_drop, hw]
/-- The sectors when the first n that wait were gone through. -/
def DiskS.part (d : DiskS) (is : Nat → Bool) (n : Nat) : List (List Int) := ((d.wait.zipIdx).take n).foldl (fun l p => if is p.2 then l.set p.1.1 p.1.2 else l) d.l
theorem part_ok {d : DiskS} (hd : d.ok) (is : Nat → Bool) (n : Nat) : (d.part is n).length = 34 ∧ ∀ w ∈ d.part is n, w.length = 8 := by
  have gen : ∀ (ps : List ((Nat × List Int) × Nat)) (l : List (List Int)), (∀ p ∈ ps, p.1.2.length = 8) → l.length = 34 → (∀ w ∈ l, w.length = 8) → (ps.foldl (fun l p => if is p.2 then l.set p.1.1 p.1.2 else l) l).length = 34 ∧ ∀ w ∈ ps.foldl (fun l p => if is p.2 then l.set p.1.1 p.1.2 else l) l, w.length = 8 := by
    intro ps
    induction ps with
    | nil => intro l _ h1 h2; exact ⟨h1, h2⟩
    | cons p ps ih =>
      intro l hp h1 h2
      simp only [List.foldl_cons]
      refine ih _ (fun q hq => hp q (by simp [hq])) ?_ ?_
      · split <;> simp [h1]
      · intro w hw
        split at hw
        · rcases List.mem_or_eq_of_mem_set hw with hw | rfl
          · exact h2 w hw
          · exact hp p (by simp)
        · exact h2 w hw
  refine gen _ _ (fun p hp => ?_) hd.1 hd.2.1
  have := List.mem_of_mem_take hp
  obtain ⟨q, k⟩ := p
  have hq := (List.mem_zipIdx this).2.2
  exact (hd.2.2 _ (by rw [hq]; exact List.getElem_mem _)).2
theorem part_succ (d : DiskS) (is : Nat → Bool) {n : Nat} {p : Nat × List Int} (hp : d.wait[n]? = some p) : d.part is (n + 1) = if is n then (d.part is n).set p.1 p.2 else d.part is n := by
  have : (d.wait.zipIdx)[n]? = some (p, n) := by simp [List.getElem?_zipIdx, hp]
  rw [DiskS.part, take_snoc this, List.foldl_append]
  rfl
theorem flush1_a (σ : PH) (k : Int) : CallsA Try.prog 50 #[i64 k] σ [emp] (RetA fun v σ' Γ' => v = .bool true ∧ σ = σ' ∧ Γ' = [emp]) := by
  refine enterA1 Try.func50 rfl rfl rfl ?_
  refine XA.seq ?_
  refine XA.region ?_
  refine XOA.rd rfl Rd.asg ?_
  refine XOA.nil ?_
  refine DA.thn_normal ?_
  refine XA.seq ?_
  refine XA.region ?_
  refine XOA.rd rfl Rd.asg ?_
  refine XOA.nil ?_
  refine DA.thn_normal ?_
  refine XA.ret ?_
  exact bodyA.ret (ResA.one rfl rfl) (Ent.refl _) ⟨rfl, rfl, rfl⟩
theorem crash1_a (σ : PH) (k : Nat) (m : Int) (g : Nat) (hm0 : 0 ≤ m) (hm1 : m < 18446744073709551616) : CallsA Try.prog 51 #[i64 k, ptr g] σ [blk g [.int .u64 m] 33] (RetA fun v σ' Γ' => v = .bool (bitOf m k) ∧ σ = σ' ∧ Γ' = [blk g [.int .u64 m] 33]) := by
  refine enterA2 Try.func51 rfl rfl rfl ?_
  refine XA.seq ?_
  refine XA.region ?_
  refine XOA.rd rfl Rd.asg ?_
  refine XOA.nil ?_
  refine DA.thn_normal ?_
  refine XA.seq ?_
  refine XA.region ?_
  refine XOA.rd rfl (Rd.ldC rfl (tyrow rfl) rfl) ?_
  refine XOA.rd rfl Rd.mv ?_
  refine XOA.rd rfl (Rd.remi (c := ((k % 64 : Nat) : Int)) rfl rfl (by decide) (by rw [Int.tmod_eq_emod_of_nonneg (by omega)]; omega)) ?_
  have hsh : (m.fdiv (2 ^ (min (Int.toNat ((k % 64 : Nat) : Int)) IntKind.u64.bits))) = ((m.toNat / 2 ^ (k % 64) : Nat) : Int) := by
    have hk : min (Int.toNat ((k % 64 : Nat) : Int)) IntKind.u64.bits = k % 64 := by simp [IntKind.bits]; omega
    rw [hk]
    obtain ⟨n, rfl⟩ := Int.eq_ofNat_of_zero_le hm0
    rw [Int.fdiv_eq_ediv_of_nonneg _ (by exact Int.le_of_lt (Int.pow_pos (by decide)))]
    simp
  have hand : IntKind.u64.wrap ((BitVec.ofInt 64 ((m.toNat / 2 ^ (k % 64) : Nat) : Int) &&& BitVec.ofInt 64 1).toNat : Int) = ((m.toNat / 2 ^ (k % 64) % 2 : Nat) : Int) := by
    have hle : m.toNat / 2 ^ (k % 64) ≤ m.toNat := Nat.div_le_self _ _
    have := and1 ((m.toNat / 2 ^ (k % 64) : Nat) : Int) (Int.natCast_nonneg _) (by omega)
    rw [this]
    generalize m.toNat / 2 ^ (k % 64) = q
    omega
  refine XOA.rd rfl (Rd.shri (c := ((m.toNat / 2 ^ (k % 64) : Nat) : Int)) rfl rfl (by omega) hsh) ?_
  refine XOA.rd rfl (Rd.andi (c := ((m.toNat / 2 ^ (k % 64) % 2 : Nat) : Int)) rfl rfl hand) ?_
  refine XOA.rd rfl (Rd.eql rfl rfl) ?_
  refine XOA.rd rfl Rd.asg ?_
  refine XOA.nil ?_
  refine DA.thn_normal ?_
  refine XA.ret ?_
  refine bodyA.ret (ResA.one rfl rfl) (by (repeat (first | exact Ent.nil _ | (apply Ent.sel; focus (first | ((repeat (first | with_reducible exact Sel.head | apply Sel.tail)); done) | ((repeat (first | exact Sel.head | apply Sel.tail)); done))) | apply Ent.selNil | apply Ent.selEmp)); (first | done | fail)) ⟨?_, rfl, rfl⟩
  unfold bitOf
  generalize m.toNat / 2 ^ (k % 64) = q
  exact congrArg Value.bool (decide_eq_decide.2 (by omega))
/-- A closure that says of each number what p says. -/
def Says (f : FuncId) (cap : List Value) (p : Nat → Bool) (C : HP) : Prop := ∀ (σ : PH) (k : Nat), CallsA Try.prog f (i64 k :: cap).toArray σ [C] (RetA fun v σ' Γ' => v = .bool (p k) ∧ σ = σ' ∧ Γ' = [C])
theorem settle_a (σ : PH) (b : Nat) (d : DiskS) (f : FuncId) (cap : List Value) (p : Nat → Bool) (C : HP) (hlen : d.wait.length < 1000000) (hs : Says f cap p C) :
    CallsA Try.prog 49 #[ptr b, .func (.func f) (List.toArray []) cap.toArray] σ [Disk b d, C] (RetA fun v σ' Γ' => v = .tuple #[] ∧ σ = σ' ∧ Γ' = [Disk b (d.settle p), C]) := by
  refine enterA2 Try.func49 rfl rfl rfl ?_
  refine XA.seq ?_
  refine XA.seq ?_
  refine XA.region ?_
  refine XOA.rd rfl Rd.mv ?_
  first | refine XA.opn (R := Disk b d) (by ((repeat (first | with_reducible exact Sel.head | apply Sel.tail)); (first | done | fail))) (Disk.opn) ?_ | refine XOA.opn (R := Disk b d) (by ((repeat (first | with_reducible exact Sel.head | apply Sel.tail)); (first | done | fail))) (Disk.opn) ?_ | refine DA.opn (R := Disk b d) (by ((repeat (first | with_reducible exact Sel.head | apply Sel.tail)); (first | done | fail))) (Disk.opn) ?_
  rintro ⟨pp, cc⟩ hok
  first | refine XA.cl ?_ | refine XOA.cl ?_ | refine DA.cl ?_
  have h1 := dlast hok (.slice pp d.wait.length cc)
  have hcl := len_cells hok
  refine XOA.rd rfl (Rd.nilCheck rfl) ?_
  refine XOA.rd rfl (Rd.fA rfl) ?_
  refine XOA.rd rfl (Rd.ldC rfl (tyrow rfl) rfl) ?_
  refine XOA.rd rfl (Rd.lenSlice (tyrow rfl) rfl rfl) ?_
  refine XOA.rd rfl Rd.mv ?_
  refine XOA.nil ?_
  refine DA.thn_normal ?_
  refine XA.block ?_
  refine XA.gen [(0, _), (1, _), (9, _), (10, _), (11, _)] ⟨(by with_reducible (conv => lhs; whnf)), (by with_reducible (conv => lhs; whnf)), (by with_reducible (conv => lhs; whnf)), (by with_reducible (conv => lhs; whnf)), (by with_reducible (conv => lhs; whnf)), trivial⟩ (fun δ => ?_)
  dsimp only [List.foldl]
  refine XA.loop [(4, 5), (11, 27)] (fun k : Nat => [(11, i64 k)]) (fun k σ' Γ' => σ = σ' ∧ k ≤ d.wait.length ∧ Γ' = [blk b (ints (d.part p k).flatten ++ [.slice pp d.wait.length cc]) 92, lst 94 9 (.slice pp d.wait.length cc) d.wait.length d.wcells, C]) (fun k => d.wait.length - k) 0 (by exact ⟨rfl, trivial⟩) (Δ0 := _) ?_ (⟨rfl, Nat.zero_le _, rfl⟩) ?_
  · exact (by (repeat (first | exact Ent.nil _ | (apply Ent.sel; focus (first | ((repeat (first | with_reducible exact Sel.head | apply Sel.tail)); done) | ((repeat (first | exact Sel.head | apply Sel.tail)); done))) | apply Ent.selNil | apply Ent.selEmp)); (first | done | fail))
  rintro k δ _ _ ⟨rfl, hk, rfl⟩
  dsimp only [ovr, List.foldl]
  have hpo := part_ok hok p k
  refine XA.seq ?_
  refine XA.region ?_
  refine XOA.rd rfl (Rd.lss rfl rfl) ?_
  refine XOA.nil ?_
  refine DA.thn_normal ?_
  refine XA.seq ?_
  refine XA.condp rfl (fun hlt => ?_) (fun hlt => ?_)
  · have hlt : k < d.wait.length := by omega
    obtain ⟨q, hq⟩ : ∃ q, d.wait[k]? = some q := ⟨_, List.getElem?_eq_getElem hlt⟩
    have hq8 : q.2.length = 8 := (hok.2.2 q (List.mem_of_getElem? hq)).2
    have hqa : q.1 < 34 := (hok.2.2 q (List.mem_of_getElem? hq)).1
    have hrow : (d.wcells.drop (k * 9)).take 9 = i64 q.1 :: ints q.2 := by have := wrow hok hq; simpa [hq8] using this
    first | refine XA.opn (R := lst 94 9 (.slice pp d.wait.length cc) _ _) (by ((repeat (first | with_reducible exact Sel.head | apply Sel.tail)); (first | done | fail))) (lst_some (by omega)) ?_ | refine XOA.opn (R := lst 94 9 (.slice pp d.wait.length cc) _ _) (by ((repeat (first | with_reducible exact Sel.head | apply Sel.tail)); (first | done | fail))) (lst_some (by omega)) ?_ | refine DA.opn (R := lst 94 9 (.slice pp d.wait.length cc) _ _) (by ((repeat (first | with_reducible exact Sel.head | apply Sel.tail)); (first | done | fail))) (lst_some (by omega)) ?_
    rintro g rfl
    first | refine XA.cl ?_ | refine XOA.cl ?_ | refine DA.cl ?_
    refine XA.skip ?_
    refine DA.thn_normal ?_
    refine XA.seq ?_
    refine XA.block ?_
    refine XA.seq ?_
    refine XA.region ?_
    refine XOA.rd rfl Rd.mv ?_
    refine XOA.rd rfl (Rd.ixS rfl rfl) ?_
    refine XOA.rd rfl (Rd.ldA rfl) ?_
    refine XOA.wr0 rfl (WrA.alloc (tyrow rfl)) ?_
    rintro _ _ _ ⟨g5, rfl, rfl, rfl⟩
    refine XOA.rd rfl Rd.asg ?_
    refine XOA.wr0 rfl (WrA.st (tyrow rfl) rfl) ?_
    rintro _ _ _ ⟨rfl, rfl, rfl⟩
    refine XOA.nil ?_
    refine DA.thn_normal ?_
    refine XA.seq ?_
    refine XA.region ?_
    refine XOA.rd rfl Rd.mv ?_
    refine XOA.rd rfl Rd.mv ?_
    refine XOA.wr0 rfl (WrA.cV (first := []) (cap := cap) rfl (hs σ k) rfl) ?_
    rintro _ _ _ ⟨_, ⟨rfl, rfl, rfl⟩, rfl⟩
    refine XOA.cl ?_
    refine XOA.nil ?_
    refine DA.thn_normal ?_
    have hspl := splice_flat hpo.2 (n := q.1) (by omega) hq8 (.slice (some ⟨g, 0, none⟩) d.wait.length cc)
    have hfit : q.1 * 8 + 8 ≤ (ints (d.part p k).flatten ++ [Value.slice (some ⟨g, 0, none⟩) d.wait.length cc]).length := by
      have := flat_len (fun w : List Int => ints w) 8 (d.part p k) (fun x hx => by simp [hpo.2 x hx])
      have e : ((d.part p k).flatMap fun w => ints w).length = (ints (d.part p k).flatten).length := by simp [List.flatMap, ints, List.map_flatten]
      rw [List.length_append, ← e, this, hpo.1]; simp; omega
    have hps := part_succ d p hq
    refine XA.cond rfl (fun hpk => ?_) (fun hpk => ?_)
    · skip
      refine XA.draw (by kernel_rfl) _ _ [8] [(0, .pu), (1, .pu), (2, .rd), (3, .pu), (4, .rd), (5, .pu), (6, .pu), (7, .pu), (8, .wr)] (by kernel_rfl) (PH.sub.refl _) (Ent.sel (R := blk g5 _ _) (by ((repeat (first | with_reducible exact Sel.head | apply Sel.tail)); (first | done | fail))) (Ent.nil _)) ?_
      refine XPA.pu rfl rfl Gd.free Rd.mv ?_
      refine XPA.pu rfl rfl Gd.free (Rd.fA rfl) ?_
      refine XPA.rd rfl rfl Gd.free (Rd.ldC rfl (tyrow rfl) rfl) ?_
      refine XPA.pu rfl rfl Gd.free (Rd.fA rfl) ?_
      refine XPA.rd rfl rfl Gd.free (Rd.ldA rfl) ?_
      refine XPA.pu rfl rfl Gd.free (Rd.nilCheck rfl) ?_
      refine XPA.pu rfl rfl Gd.free (Rd.fA rfl) ?_
      refine XPA.pu rfl rfl Gd.free (Rd.ixA rfl rfl) ?_
      refine XPA.wrZ0 rfl rfl Gd.free (by kernel_rfl) (WrA.st (tyrow rfl) rfl) ?_
      rintro _ _ _ ⟨rfl, rfl, rfl⟩
      refine XPA.nil ?_
      refine DA.inb_normal ?_
      refine DA.thn_normal ?_
      refine XA.region ?_
      refine XOA.rd rfl (by first | exact Rd.adi rfl rfl | exact Rd.add rfl rfl) ?_
      refine XOA.rd rfl Rd.mv ?_
      refine XOA.nil ?_
      refine DA.thn_normal ?_
      rw [if_pos hpk] at hps
      refine ⟨(Keep.upd (Keep.upd (Keep.updN (Keep.upd (Keep.upd (Keep.upd (Keep.upd (Keep.upd (Keep.upd (Keep.upd (Keep.upd (Keep.updO (Keep.upd (Keep.upd (Keep.updN (Keep.upd (Keep.updO (Keep.upd (Keep.upd (Keep.upd (Keep.upd (Keep.upd (Keep.hav (Keep.hav (Keep.refl _ _) rfl) rfl) rfl) rfl) rfl) rfl) rfl) rfl) rfl)) rfl) rfl) rfl) rfl) rfl) rfl) rfl) rfl) rfl) rfl) rfl)) rfl) rfl), k + 1, _, (by (repeat (first | exact trivial | refine ⟨rfl, ?_⟩ | refine ⟨Eq.trans rfl (congrArg Value.bool hmat.symm), ?_⟩)); (first | done | fail)), ?_, ⟨rfl, hlt, rfl⟩, (by omega)⟩
      · rw [hps]; exact (by (repeat (first | exact Ent.nil _ | (apply Ent.sel; focus (first | ((repeat (first | with_reducible exact Sel.head | apply Sel.tail)); done) | ((repeat (first | exact Sel.head | apply Sel.tail)); done))) | apply Ent.selNil | apply Ent.selEmp)); (first | done | fail))
    · refine XA.skip ?_
      refine DA.inb_normal ?_
      refine DA.thn_normal ?_
      refine XA.region ?_
      refine XOA.rd rfl (by first | exact Rd.adi rfl rfl | exact Rd.add rfl rfl) ?_
      refine XOA.rd rfl Rd.mv ?_
      refine XOA.nil ?_
      refine DA.thn_normal ?_
      rw [if_neg (by rw [hpk]; decide)] at hps
      refine ⟨(Keep.upd (Keep.upd (Keep.updO (Keep.upd (Keep.upd (Keep.updN (Keep.upd (Keep.updO (Keep.upd (Keep.upd (Keep.upd (Keep.upd (Keep.upd (Keep.hav (Keep.hav (Keep.refl _ _) rfl) rfl) rfl) rfl) rfl) rfl) rfl) rfl) rfl)) rfl) rfl) rfl) rfl) rfl), k + 1, _, (by (repeat (first | exact trivial | refine ⟨rfl, ?_⟩ | refine ⟨Eq.trans rfl (congrArg Value.bool hmat.symm), ?_⟩)); (first | done | fail)), ?_, ⟨rfl, hlt, rfl⟩, (by omega)⟩
      · rw [hps]; exact (by (repeat (first | exact Ent.nil _ | (apply Ent.sel; focus (first | ((repeat (first | with_reducible exact Sel.head | apply Sel.tail)); done) | ((repeat (first | exact Sel.head | apply Sel.tail)); done))) | apply Ent.selNil | apply Ent.selEmp)); (first | done | fail))
  · have hkn : k = d.wait.length := by omega
    subst hkn
    have hpl : (ints (d.part p d.wait.length).flatten).length = 272 := by
      have hfl := flat_len (fun w : List Int => ints w) 8 (d.part p d.wait.length) (fun x hx => by simp [hpo.2 x hx])
      have e : ((d.part p d.wait.length).flatMap fun w => ints w).length = (ints (d.part p d.wait.length).flatten).length := by simp [List.flatMap, ints, List.map_flatten]
      rw [← e, hfl, hpo.1]
    have hfit : 272 + 1 ≤ (ints (d.part p d.wait.length).flatten ++ [Value.slice pp d.wait.length cc]).length := by rw [List.length_append, hpl]; exact Nat.le_refl _
    have hspl : ∀ v, splice (ints (d.part p d.wait.length).flatten ++ [Value.slice pp d.wait.length cc]) 272 [v] = ints (d.part p d.wait.length).flatten ++ [v] := fun v => splice_last hpl
    have hset : (d.wait.zipIdx).take d.wait.length = d.wait.zipIdx := List.take_of_length_le (by simp)
    have hfin : (d.settle p).l = d.part p d.wait.length := by simp only [DiskS.settle, DiskS.part, hset]
    have hok' : (d.settle p).ok := ⟨by rw [hfin]; exact hpo.1, by rw [hfin]; exact hpo.2, by simp [DiskS.settle]⟩
    refine XA.exit ?_
    refine DA.thn_exit ?_
    refine DA.thn_exit ?_
    refine DA.inb_same ?_
    refine DA.thn_normal ?_
    refine XA.region ?_
    refine XOA.rd rfl Rd.mv ?_
    refine XOA.rd rfl (Rd.nilCheck rfl) ?_
    refine XOA.rd rfl (Rd.fA rfl) ?_
    refine XOA.wr0 rfl (WrA.st (tyrow rfl) rfl) ?_
    rintro _ _ _ ⟨rfl, rfl, rfl⟩
    refine XOA.nil ?_
    refine bodyA.normal (ResA.none rfl) (Ent.foldC (Θ := [_, _]) (by (repeat (first | exact Ent.all _ | (apply Ent.take; focus (first | ((repeat (first | with_reducible exact Sel.head | apply Sel.tail)); done) | ((repeat (first | exact Sel.head | apply Sel.tail)); done))) | apply Ent.takeNil | apply Ent.takeEmp)); (first | done | fail)) (Disk.mk (sl := .slice none 0 0) (n := 0) (xs := []) hok' ?_ rfl rfl) (by (repeat (first | exact Ent.nil _ | (apply Ent.sel; focus (first | ((repeat (first | with_reducible exact Sel.head | apply Sel.tail)); done) | ((repeat (first | exact Sel.head | apply Sel.tail)); done))) | apply Ent.selNil | apply Ent.selEmp)); (first | done | fail))) ⟨rfl, rfl, rfl⟩
    rw [DiskS.cells, hfin]
/-- What Flush and Crash do. -/
theorem flush_a (σ : PH) (b : Nat) (d : DiskS) (hlen : d.wait.length < 1000000) : CallsA Try.prog 17 #[ptr b] σ [Disk b d] (RetA fun v σ' Γ' => v = .tuple #[] ∧ σ = σ' ∧ Γ' = [Disk b (d.settle fun _ => true)]) := by
  refine enterA1 Try.func17 rfl rfl rfl ?_
  refine XA.region ?_
  refine XOA.rd rfl Rd.mv ?_
  refine XOA.wr0 rfl (WrA.cE (settle_a σ b d 50 [] (fun _ => true) emp hlen (fun σ k => flush1_a σ k)) rfl) ?_
  rintro _ _ _ ⟨_, ⟨rfl, rfl, rfl⟩, rfl⟩
  refine XOA.cl ?_
  refine XOA.nil ?_
  exact bodyA.normal (ResA.none rfl) (by (repeat (first | exact Ent.nil _ | (apply Ent.sel; focus (first | ((repeat (first | with_reducible exact Sel.head | apply Sel.tail)); done) | ((repeat (first | exact Sel.head | apply Sel.tail)); done))) | apply Ent.selNil | apply Ent.selEmp)); (first | done | fail)) ⟨rfl, rfl, rfl⟩
theorem crash_a (σ : PH) (b : Nat) (d : DiskS) (m : Int) (hlen : d.wait.length < 1000000) (hm0 : 0 ≤ m) (hm1 : m < 18446744073709551616) : CallsA Try.prog 19 #[ptr b, .int .u64 m] σ [Disk b d] (RetA fun v σ' Γ' => v = .tuple #[] ∧ σ = σ' ∧ Γ' = [Disk b (d.settle (bitOf m))]) := by
  refine enterA2 Try.func19 rfl rfl rfl ?_
  refine XA.seq ?_
  refine XA.region ?_
  refine XOA.wr0 rfl WrA.bx ?_
  rintro _ _ _ ⟨g3, rfl, rfl, rfl⟩
  refine XOA.nil ?_
  refine DA.thn_normal ?_
  refine XA.region ?_
  refine XOA.rd rfl Rd.mv ?_
  refine XOA.rd rfl (Rd.makeFunc1 (by with_reducible (conv => lhs; whnf))) ?_
  refine XOA.wr0 rfl (WrA.cE (settle_a σ b d 51 [ptr g3] (bitOf m) (blk g3 [.int .u64 m] 33) hlen (fun σ k => crash1_a σ k m g3 hm0 hm1)) rfl) ?_
  rintro _ _ _ ⟨_, ⟨rfl, rfl, rfl⟩, rfl⟩
  refine XOA.cl ?_
  refine XOA.nil ?_
  exact bodyA.normal (ResA.none rfl) (by (repeat (first | exact Ent.nil _ | (apply Ent.sel; focus (first | ((repeat (first | with_reducible exact Sel.head | apply Sel.tail)); done) | ((repeat (first | exact Sel.head | apply Sel.tail)); done))) | apply Ent.selNil | apply Ent.selEmp)); (first | done | fail)) ⟨rfl, rfl, rfl⟩
theorem clone_a (σ : PH) (g o n c : Nat) (xs : List Value) (C : HP) (hn : 0 < n) (hn2 : n < 1000000) (hr : ∀ Γ Γ', Sel Γ C Γ' → At (Ho σ Γ) g o xs) (hl : xs.length = n * 8) (h1 : ones xs) :
    CallsA Try.prog 53 #[.slice (some ⟨g, o, none⟩) n c] σ [C] (RetA fun v σ' Γ' => ∃ g' c', v = .slice (some ⟨g', 0, none⟩) n c' ∧ σ = σ' ∧ Γ' = [lst 32 8 (.slice (some ⟨g', 0, none⟩) n c') n xs, C]) := by
  refine enterA1 Try.func53 rfl rfl rfl ?_
  refine XA.seq ?_
  refine XA.region ?_
  refine XOA.rd rfl Rd.asg ?_
  refine XOA.nil ?_
  refine DA.thn_normal ?_
  refine XA.seq ?_
  refine XA.seq ?_
  refine XA.region ?_
  refine XOA.rd rfl Rd.mv ?_
  refine XOA.rd rfl (Rd.eqlNil (tyrow rfl) rfl rfl) ?_
  refine XOA.nil ?_
  refine DA.thn_normal ?_
  refine XA.condF rfl rfl ?_
  refine XA.skip ?_
  refine DA.thn_normal ?_
  refine XA.seq ?_
  refine XA.region ?_
  refine XOA.wr0 rfl (WrA.bs (fun _ _ => tyrow) rfl rfl rfl rfl rfl) ?_
  rintro _ _ _ ⟨g5, rfl, rfl, rfl⟩
  refine XOA.rd rfl Rd.mv ?_
  refine XOA.ent (Δ := [lst 32 8 (.slice (some ⟨g5, 0, none⟩) 0 0) 0 [], C]) (Ent.selImp (R := blk g5 _ _) (by ((repeat (first | with_reducible exact Sel.head | apply Sel.tail)); (first | done | fail))) (fun m h => lst_empty h (by simp) (by simp [maxLen])) (by (repeat (first | exact Ent.nil _ | (apply Ent.sel; focus (first | ((repeat (first | with_reducible exact Sel.head | apply Sel.tail)); done) | ((repeat (first | exact Sel.head | apply Sel.tail)); done))) | apply Ent.selNil | apply Ent.selEmp)); (first | done | fail))) ?_
  refine XOA.wr0 rfl (WrA.append (tyrow rfl) rfl (tyrow rfl) rfl rfl (by ((repeat (first | with_reducible exact Sel.head | apply Sel.tail)); (first | done | fail))) rfl (hr _ _ (by ((repeat (first | with_reducible exact Sel.head | apply Sel.tail)); (first | done | fail)))) hl h1 hn (by simp only [maxLen]; omega) (by simp only; omega)) ?_
  rintro _ _ _ ⟨p, c', rfl, rfl, rfl⟩
  refine XOA.rd rfl Rd.asg ?_
  refine XOA.nil ?_
  refine DA.thn_normal ?_
  refine XA.ret ?_
  refine DA.opn (R := lst _ _ _ _ _) (by ((repeat (first | with_reducible exact Sel.head | apply Sel.tail)); (first | done | fail))) (lst_some (by omega)) ?_
  rintro g' rfl
  rw [Nat.zero_add]
  exact bodyA.ret (ResA.one rfl rfl) (by (repeat (first | exact Ent.nil _ | (apply Ent.sel; focus (first | ((repeat (first | with_reducible exact Sel.head | apply Sel.tail)); done) | ((repeat (first | exact Sel.head | apply Sel.tail)); done))) | apply Ent.selNil | apply Ent.selEmp)); (first | done | fail)) ⟨g', c', rfl, rfl, rfl⟩
theorem sure_a (σ : PH) (b : Nat) (d : DiskS) : CallsA Try.prog 25 #[ptr b] σ [Disk b d] (RetA fun v σ' Γ' => ∃ g' c', v = .slice (some ⟨g', 0, none⟩) 34 c' ∧ σ = σ' ∧ Γ' = [lst 32 8 (.slice (some ⟨g', 0, none⟩) 34 c') 34 d.cells, Disk b d]) := by
  refine enterA1 Try.func25 rfl rfl rfl ?_
  refine XA.seq ?_
  refine XA.region ?_
  refine XOA.rd rfl Rd.asg ?_
  refine XOA.nil ?_
  refine DA.thn_normal ?_
  refine XA.seq ?_
  refine XA.region ?_
  refine XOA.rd rfl Rd.mv ?_
  first | refine XA.opn (R := Disk b d) (by ((repeat (first | with_reducible exact Sel.head | apply Sel.tail)); (first | done | fail))) (Disk.opn) ?_ | refine XOA.opn (R := Disk b d) (by ((repeat (first | with_reducible exact Sel.head | apply Sel.tail)); (first | done | fail))) (Disk.opn) ?_ | refine DA.opn (R := Disk b d) (by ((repeat (first | with_reducible exact Sel.head | apply Sel.tail)); (first | done | fail))) (Disk.opn) ?_
  rintro ⟨pp, cc⟩ hok
  first | refine XA.cl ?_ | refine XOA.cl ?_ | refine DA.cl ?_
  have hcl := len_cells hok
  refine XOA.rd rfl (Rd.nilCheck rfl) ?_
  refine XOA.rd rfl (Rd.fA rfl) ?_
  refine XOA.rd rfl (by apply Rd.sliceArr; exact tyrow rfl; rfl; exact tyrow rfl; rfl) ?_
  refine XOA.wr0 rfl (WrA.cE (clone_a σ b 0 34 34 d.cells (blk b (d.cells ++ [.slice pp d.wait.length cc]) 92) (by omega) (by omega) (fun _ _ s => At.blk s (by rw [List.drop_zero, List.take_left])) (by omega) (ones_ints _)) rfl) ?_
  rintro _ _ _ ⟨_, ⟨g', c', rfl, rfl, rfl⟩, rfl⟩
  refine XOA.cl ?_
  refine XOA.rd rfl Rd.asg ?_
  refine XOA.nil ?_
  refine DA.thn_normal ?_
  refine XA.ret ?_
  exact bodyA.ret (ResA.one rfl rfl) (Ent.sel (by ((repeat (first | with_reducible exact Sel.head | apply Sel.tail)); (first | done | fail))) (Ent.fold1 (by (repeat (first | exact Ent.nil _ | (apply Ent.sel; focus (first | ((repeat (first | with_reducible exact Sel.head | apply Sel.tail)); done) | ((repeat (first | exact Sel.head | apply Sel.tail)); done))) | apply Ent.selNil | apply Ent.selEmp)); (first | done | fail)) (Disk.mk hok rfl rfl rfl))) ⟨g', c', rfl, rfl, rfl⟩
end Go.Proofs.Ytplobdiknobhoaa
