/- Package store: the root; sectors that are used; Check. -/
import Derived.Test.YtplobdiknobhoaaSw
namespace Go.Proofs.Ytplobdiknobhoaa
open Go X
set_option maxHeartbeats 1000000
def rootW (g t0 t1 : Int) : List Int := [g, t0, t1, 0, 0, 0, 0, 0]
theorem croot_no (σ : PH) (c sb : Nat) (j : Nat) (gen t0 t1 : Int) (pg : List Int) (fr : Value) (hj : j < 1000) :
    CallsA Try.prog 63 #[ptr c] σ [blk c (comC sb (leftOf j j) gen t0 t1 pg fr) 110] (RetA fun v σ' Γ' => v = .bool false ∧ σ = σ' ∧ Γ' = [blk c (comC sb (leftOf j j) gen t0 t1 pg fr) 110]) := by
  refine enterA1 Try.func63 rfl rfl rfl ?_
  refine XA.seq ?_
  refine XA.region ?_
  refine XOA.rd rfl Rd.asg ?_
  refine XOA.nil ?_
  refine DA.thn_normal ?_
  refine XA.seq ?_
  refine XA.seq ?_
  refine XA.region ?_
  refine XOA.rd rfl Rd.mv ?_
  refine XOA.wr0 rfl (WrA.cE (may_no σ c sb j gen t0 t1 pg _ hj) rfl) ?_
  rintro _ _ _ ⟨_, ⟨rfl, rfl, rfl⟩, rfl⟩
  refine XOA.cl ?_
  refine XOA.rd rfl (by first | exact Rd.notp rfl | exact Rd.not rfl) ?_
  refine XOA.nil ?_
  refine DA.thn_normal ?_
  refine XA.condT rfl rfl ?_
  refine XA.seq ?_
  refine XA.region ?_
  refine XOA.rd rfl Rd.asg ?_
  refine XOA.nil ?_
  refine DA.thn_normal ?_
  refine XA.ret ?_
  refine DA.thn_ret ?_
  exact bodyA.ret (ResA.one rfl rfl) (by (repeat (first | exact Ent.nil _ | (apply Ent.sel; focus (first | ((repeat (first | with_reducible exact Sel.head | apply Sel.tail)); done) | ((repeat (first | exact Sel.head | apply Sel.tail)); done))) | apply Ent.selNil | apply Ent.selEmp)); (first | done | fail)) ⟨rfl, rfl, rfl⟩
theorem croot_yes (σ : PH) (c sb db : Nat) (D : Int) (j : Nat) (gen t0 t1 : Int) (pg : List Int) (fr : Value) (s : StS) (d : DiskS) (hD : okD D) (hj : j < 1000) (hne : D ≠ (j : Int)) (hg : 0 ≤ gen) (hlen : d.wait.length < 1000000) :
    CallsA Try.prog 63 #[ptr c] σ [blk c (comC sb (leftOf D j) gen t0 t1 pg fr) 110, blk sb (ptr db :: s.cells) 104, Disk db d] (RetA fun v σ' Γ' => v = .bool true ∧ σ = σ' ∧ Γ' = [blk c (comC sb (leftOf D (j + 1)) gen t0 t1 pg fr) 110, blk sb (ptr db :: s.cells) 104, Disk db (d.write (gen % 2) (rootW gen t0 t1))]) := by
  refine enterA1 Try.func63 rfl rfl rfl ?_
  refine XA.seq ?_
  refine XA.region ?_
  refine XOA.rd rfl Rd.asg ?_
  refine XOA.nil ?_
  refine DA.thn_normal ?_
  refine XA.seq ?_
  refine XA.seq ?_
  refine XA.region ?_
  refine XOA.rd rfl Rd.mv ?_
  refine XOA.wr0 rfl (WrA.cE (may_yes σ c sb D j gen t0 t1 pg _ hD hj hne) rfl) ?_
  rintro _ _ _ ⟨_, ⟨rfl, rfl, rfl⟩, rfl⟩
  refine XOA.cl ?_
  refine XOA.rd rfl (by first | exact Rd.notp rfl | exact Rd.not rfl) ?_
  refine XOA.nil ?_
  refine DA.thn_normal ?_
  refine XA.condF rfl rfl ?_
  refine XA.skip ?_
  refine DA.thn_normal ?_
  refine XA.seq ?_
  refine XA.region ?_
  refine XOA.rd rfl Rd.mv ?_
  refine XOA.rd rfl (Rd.nilCheck rfl) ?_
  refine XOA.rd rfl (Rd.fA rfl) ?_
  refine XOA.rd rfl (Rd.fA rfl) ?_
  refine XOA.rd rfl (Rd.ldC rfl (tyrow rfl) rfl) ?_
  refine XOA.rd rfl (Rd.blA (fun _ _ => tyrow) rfl rfl rfl) ?_
  refine XOA.wr0 rfl (WrA.alloc (tyrow rfl)) ?_
  rintro _ _ _ ⟨g3, rfl, rfl, rfl⟩
  refine XOA.wr0 rfl (WrA.st (tyrow rfl) rfl) ?_
  rintro _ _ _ ⟨rfl, rfl, rfl⟩
  refine XOA.nil ?_
  refine DA.thn_normal ?_
  refine XA.seq ?_
  refine XA.seq ?_
  refine XA.region ?_
  refine XOA.rd rfl Rd.mv ?_
  refine XOA.rd rfl (Rd.nilCheck rfl) ?_
  refine XOA.rd rfl (Rd.fA rfl) ?_
  refine XOA.rd rfl (Rd.fA rfl) ?_
  refine XOA.rd rfl (Rd.ldA rfl) ?_
  refine XOA.rd rfl Rd.mv ?_
  refine XOA.nil ?_
  refine DA.thn_normal ?_
  refine XA.block ?_
  refine XA.unroll 3 ?_
  refine XAR.succ ?_
  refine XA.seq ?_
  refine XA.region ?_
  refine XOA.rd rfl (Rd.lss rfl rfl) ?_
  refine XOA.nil ?_
  refine DA.thn_normal ?_
  refine XA.seq ?_
  refine XA.condT rfl rfl ?_
  refine XA.skip ?_
  refine DA.thn_normal ?_
  refine XA.seq ?_
  refine XA.block ?_
  refine XA.seq ?_
  refine XA.region ?_
  refine XOA.rd rfl Rd.mv ?_
  refine XOA.rd rfl (Rd.ixG rfl rfl) ?_
  refine XOA.rd rfl Rd.asg ?_
  refine XOA.rd rfl Rd.asg ?_
  refine XOA.nil ?_
  refine DA.thn_normal ?_
  refine XA.region ?_
  refine XOA.rd rfl Rd.mv ?_
  refine XOA.rd rfl (by first | exact Rd.adi rfl rfl | exact Rd.add rfl rfl) ?_
  refine XOA.rd rfl Rd.mv ?_
  refine XOA.rd rfl (Rd.ixA rfl rfl) ?_
  refine XOA.wr0 rfl (WrA.st (tyrow rfl) rfl) ?_
  rintro _ _ _ ⟨rfl, rfl, rfl⟩
  refine XOA.nil ?_
  refine DA.inb_normal ?_
  refine DA.thn_normal ?_
  refine XA.region ?_
  refine XOA.rd rfl (by first | exact Rd.adi rfl rfl | exact Rd.add rfl rfl) ?_
  refine XOA.rd rfl Rd.mv ?_
  refine XOA.nil ?_
  refine DA.thn_normal ?_
  refine XAR.succ ?_
  refine XA.seq ?_
  refine XA.region ?_
  refine XOA.rd rfl (Rd.lss rfl rfl) ?_
  refine XOA.nil ?_
  refine DA.thn_normal ?_
  refine XA.seq ?_
  refine XA.condT rfl rfl ?_
  refine XA.skip ?_
  refine DA.thn_normal ?_
  refine XA.seq ?_
  refine XA.block ?_
  refine XA.seq ?_
  refine XA.region ?_
  refine XOA.rd rfl Rd.mv ?_
  refine XOA.rd rfl (Rd.ixG rfl rfl) ?_
  refine XOA.rd rfl Rd.asg ?_
  refine XOA.rd rfl Rd.asg ?_
  refine XOA.nil ?_
  refine DA.thn_normal ?_
  refine XA.region ?_
  refine XOA.rd rfl Rd.mv ?_
  refine XOA.rd rfl (by first | exact Rd.adi rfl rfl | exact Rd.add rfl rfl) ?_
  refine XOA.rd rfl Rd.mv ?_
  refine XOA.rd rfl (Rd.ixA rfl rfl) ?_
  refine XOA.wr0 rfl (WrA.st (tyrow rfl) rfl) ?_
  rintro _ _ _ ⟨rfl, rfl, rfl⟩
  refine XOA.nil ?_
  refine DA.inb_normal ?_
  refine DA.thn_normal ?_
  refine XA.region ?_
  refine XOA.rd rfl (by first | exact Rd.adi rfl rfl | exact Rd.add rfl rfl) ?_
  refine XOA.rd rfl Rd.mv ?_
  refine XOA.nil ?_
  refine DA.thn_normal ?_
  refine XAR.succ ?_
  refine XA.seq ?_
  refine XA.region ?_
  refine XOA.rd rfl (Rd.lss rfl rfl) ?_
  refine XOA.nil ?_
  refine DA.thn_normal ?_
  refine XA.seq ?_
  refine XA.condF rfl rfl ?_
  refine XA.exit ?_
  refine DA.thn_exit ?_
  refine DA.thn_exit ?_
  refine DA.inb_same ?_
  refine DA.thn_normal ?_
  refine XA.seq ?_
  refine XA.draw (by kernel_rfl) _ _ [14] [(0, .pu), (1, .pu), (2, .pu), (3, .rd), (4, .pu), (5, .pu), (6, .rd), (7, .pu), (8, .pu), (9, .pu), (10, .pu), (11, .rd), (12, .pu), (13, .rd), (14, .wr)] (by kernel_rfl) (PH.sub.refl _) (Ent.sel (R := blk c _ _) (by ((repeat (first | with_reducible exact Sel.head | apply Sel.tail)); (first | done | fail))) (Ent.sel (R := blk sb _ _) (by ((repeat (first | with_reducible exact Sel.head | apply Sel.tail)); (first | done | fail))) (Ent.sel (R := blk g3 _ _) (by ((repeat (first | with_reducible exact Sel.head | apply Sel.tail)); (first | done | fail))) (Ent.nil _)))) ?_
  refine XPA.pu rfl rfl Gd.free Rd.mv ?_
  refine XPA.pu rfl rfl Gd.free (Rd.nilCheck rfl) ?_
  refine XPA.pu rfl rfl Gd.free (Rd.fA rfl) ?_
  refine XPA.rd rfl rfl Gd.free (Rd.ldC rfl (tyrow rfl) rfl) ?_
  refine XPA.pu rfl rfl Gd.free (Rd.nilCheck rfl) ?_
  refine XPA.pu rfl rfl Gd.free (Rd.fA rfl) ?_
  refine XPA.rd rfl rfl Gd.free (Rd.ldC rfl (tyrow rfl) rfl) ?_
  refine XPA.pu rfl rfl Gd.free Rd.mv ?_
  refine XPA.pu rfl rfl Gd.free (Rd.nilCheck rfl) ?_
  refine XPA.pu rfl rfl Gd.free (Rd.fA rfl) ?_
  refine XPA.pu rfl rfl Gd.free (Rd.fA rfl) ?_
  refine XPA.rd rfl rfl Gd.free (Rd.ldC rfl (tyrow rfl) rfl) ?_
  refine XPA.pu rfl rfl Gd.free (Rd.remi (c := gen % 2) rfl rfl (by decide) (by rw [Int.tmod_eq_emod_of_nonneg hg])) ?_
  refine XPA.rd rfl rfl Gd.free (Rd.ldA rfl) ?_
  refine XPA.wrZ0 rfl rfl Gd.free (by kernel_rfl) (WrA.cE (write_a σ db d (gen % 2) (rootW gen t0 t1) rfl hlen) rfl) ?_
  rintro _ _ _ ⟨_, ⟨rfl, rfl, rfl⟩, rfl⟩
  refine XPA.cl ?_
  refine XPA.nil ?_
  refine DA.thn_normal ?_
  refine XA.seq ?_
  refine XA.region ?_
  refine XOA.rd rfl Rd.asg ?_
  refine XOA.nil ?_
  refine DA.thn_normal ?_
  refine XA.ret ?_
  exact bodyA.ret (ResA.one rfl rfl) (by (repeat (first | exact Ent.nil _ | (apply Ent.sel; focus (first | ((repeat (first | with_reducible exact Sel.head | apply Sel.tail)); done) | ((repeat (first | exact Sel.head | apply Sel.tail)); done))) | apply Ent.selNil | apply Ent.selEmp)); (first | done | fail)) ⟨rfl, rfl, rfl⟩
theorem used_a (σ : PH) (sb db : Nat) (g t0 t1 : Int) (pg : List Int) (hpg : pg.length = 14) :
    CallsA Try.prog 58 #[.pointer (some ⟨sb, 1, none⟩)] σ [blk sb (ptr db :: i64 g :: i64 t0 :: i64 t1 :: ints pg) 104] (RetA fun v σ' Γ' => ∃ p c, v = .slice p 16 c ∧ σ = σ' ∧ Γ' = [lst 3 1 (.slice p 16 c) 16 (ints (t0 :: t1 :: pg)), blk sb (ptr db :: i64 g :: i64 t0 :: i64 t1 :: ints pg) 104]) := by
  have hx : ∀ Γ Γ' (j : Nat) u, Sel Γ (blk sb (ptr db :: i64 g :: i64 t0 :: i64 t1 :: ints pg) 104) Γ' → [i64 t0, i64 t1][j]? = some u → ∃ g0 o0, some (⟨sb, 2, none⟩ : Addr) = some ⟨g0, o0, none⟩ ∧ AtC (Ho σ Γ) g0 (o0 + j) u := fun Γ Γ' j u s hu => by
    refine ⟨sb, 2, rfl, AtC.blk s ?_⟩
    match j, hu with
    | 0, hu => exact hu
    | 1, hu => exact hu
  have h14 : (ints pg).length = 14 * 1 := by simpa using hpg
  have hrow : ∀ Γ Γ', Sel Γ (blk sb (ptr db :: i64 g :: i64 t0 :: i64 t1 :: ints pg) 104) Γ' → At (Ho σ Γ) sb 4 (ints pg) := fun Γ Γ' s => At.blk s (take_eq rfl)
  refine enterA1 Try.func58 rfl rfl rfl ?_
  refine XA.seq ?_
  refine XA.region ?_
  refine XOA.rd rfl Rd.asg ?_
  refine XOA.nil ?_
  refine DA.thn_normal ?_
  refine XA.seq ?_
  refine XA.draw (by kernel_rfl) _ _ [8] [(0, .pu), (1, .pu), (2, .pu), (3, .pu), (4, .pu), (5, .pu), (6, .pu), (7, .pu), (8, .wr), (9, .pu)] (by kernel_rfl) (PH.sub.refl _) (Ent.sel (R := blk sb _ _) (by ((repeat (first | with_reducible exact Sel.head | apply Sel.tail)); (first | done | fail))) (Ent.nil _)) ?_
  refine XPA.pu rfl rfl Gd.free Rd.mv ?_
  refine XPA.pu rfl rfl Gd.free (Rd.nilCheck rfl) ?_
  refine XPA.pu rfl rfl Gd.free (Rd.fA rfl) ?_
  refine XPA.pu rfl rfl Gd.free (by apply Rd.sliceArr; exact tyrow rfl; rfl; exact tyrow rfl; rfl) ?_
  refine XPA.pu rfl rfl Gd.free Rd.mv ?_
  refine XPA.pu rfl rfl Gd.free (Rd.nilCheck rfl) ?_
  refine XPA.pu rfl rfl Gd.free (Rd.fA rfl) ?_
  refine XPA.pu rfl rfl Gd.free (by apply Rd.sliceArr; exact tyrow rfl; rfl; exact tyrow rfl; rfl) ?_
  refine XPA.wrZ0 rfl rfl Gd.free (by kernel_rfl) (WrA.appendFull (tyrow rfl) rfl (tyrow rfl) rfl rfl rfl (fun j u hu => hx _ _ j u (by ((repeat (first | with_reducible exact Sel.head | apply Sel.tail)); (first | done | fail))) hu) (fun h => by cases h) rfl (hrow _ _ (by ((repeat (first | with_reducible exact Sel.head | apply Sel.tail)); (first | done | fail)))) h14 (ones_ints _) (by decide) (by decide) (by decide)) ?_
  rintro _ _ _ ⟨p11, c11, rfl, rfl, rfl⟩
  refine XPA.pu rfl rfl Gd.free Rd.asg ?_
  refine XPA.nil ?_
  refine DA.thn_normal ?_
  refine XA.ret ?_
  exact bodyA.ret (ResA.one rfl rfl) (by (repeat (first | exact Ent.nil _ | (apply Ent.sel; focus (first | ((repeat (first | with_reducible exact Sel.head | apply Sel.tail)); done) | ((repeat (first | exact Sel.head | apply Sel.tail)); done))) | apply Ent.selNil | apply Ent.selEmp)); (first | done | fail)) ⟨p11, c11, rfl, rfl, rfl⟩
theorem index_a (σ : PH) (v : Value) (xs : List Int) (x : Int) (hv : PInts σ v xs) : CallsA Try.prog 67 #[v, i64 x] σ [] (RetA fun r σ' Γ' => ∃ k : Int, r = i64 k ∧ (0 ≤ k ↔ x ∈ xs) ∧ σ = σ' ∧ Γ' = []) := by
  obtain ⟨p, c, rfl, hle, hmx⟩ := hv.shape
  have hlen : xs.length ≤ maxLen := by omega
  simp only [maxLen] at hlen
  refine enterA2 Try.func67 rfl rfl rfl ?_
  refine XA.seq ?_
  refine XA.region ?_
  refine XOA.rd rfl Rd.asg ?_
  refine XOA.nil ?_
  refine DA.thn_normal ?_
  refine XA.seq ?_
  refine XA.seq ?_
  refine XA.region ?_
  refine XOA.rd rfl Rd.mv ?_
  refine XOA.rd rfl (Rd.lenSlice (tyrow rfl) rfl rfl) ?_
  refine XOA.rd rfl Rd.mv ?_
  refine XOA.nil ?_
  refine DA.thn_normal ?_
  refine XA.block ?_
  refine XA.gen [(0, _), (1, _), (4, _), (7, _), (8, _)] ⟨(by with_reducible (conv => lhs; whnf)), (by with_reducible (conv => lhs; whnf)), (by with_reducible (conv => lhs; whnf)), (by with_reducible (conv => lhs; whnf)), (by with_reducible (conv => lhs; whnf)), trivial⟩ (fun δ => ?_)
  dsimp only [List.foldl]
  refine XA.loop [(4, 5), (8, 18)] (fun k : Nat => [(8, i64 k)]) (fun k σ' Γ' => σ = σ' ∧ k ≤ xs.length ∧ x ∉ xs.take k ∧ Γ' = []) (fun k => xs.length - k) 0 (by exact ⟨rfl, trivial⟩) (Δ0 := _) ?_ (⟨rfl, Nat.zero_le _, by simp, rfl⟩) ?_
  · exact (by (repeat (first | exact Ent.nil _ | (apply Ent.sel; focus (first | ((repeat (first | with_reducible exact Sel.head | apply Sel.tail)); done) | ((repeat (first | exact Sel.head | apply Sel.tail)); done))) | apply Ent.selNil | apply Ent.selEmp)); (first | done | fail))
  rintro k δ _ _ ⟨rfl, hk, hall, rfl⟩
  dsimp only [ovr, List.foldl]
  refine XA.seq ?_
  refine XA.region ?_
  refine XOA.rd rfl (Rd.lss rfl rfl) ?_
  refine XOA.nil ?_
  refine DA.thn_normal ?_
  refine XA.seq ?_
  refine XA.condp rfl (fun hlt => ?_) (fun hlt => ?_)
  · have hlt : k < xs.length := by omega
    obtain ⟨y, hy⟩ : ∃ y, xs[k]? = some y := ⟨_, List.getElem?_eq_getElem hlt⟩
    obtain ⟨g, o, rfl, hr⟩ := hv.at hy
    rw [Nat.mul_one] at hr
    refine XA.skip ?_
    refine DA.thn_normal ?_
    refine XA.seq ?_
    refine XA.block ?_
    refine XA.seq ?_
    refine XA.region ?_
    refine XOA.rd rfl Rd.mv ?_
    refine XOA.rd rfl Rd.asg ?_
    refine XOA.nil ?_
    refine DA.thn_normal ?_
    refine XA.seq ?_
    refine XA.region ?_
    refine XOA.rd rfl Rd.mv ?_
    refine XOA.rd rfl Rd.mv ?_
    refine XOA.rd rfl Rd.mv ?_
    refine XOA.rd rfl (Rd.ixS rfl rfl) ?_
    refine XOA.rd rfl (Rd.ldC rfl (tyrow rfl) rfl) ?_
    refine XOA.rd rfl (Rd.eql rfl rfl) ?_
    refine XOA.nil ?_
    refine DA.thn_normal ?_
    refine XA.condp rfl (fun he => ?_) (fun he => ?_)
    · refine XA.seq ?_
      refine XA.region ?_
      refine XOA.rd rfl Rd.mv ?_
      refine XOA.rd rfl Rd.asg ?_
      refine XOA.nil ?_
      refine DA.thn_normal ?_
      refine XA.ret ?_
      refine DA.inb_ret ?_
      refine DA.thn_ret ?_
      refine DA.thn_ret ?_
      refine DA.inb_ret ?_
      refine DA.thn_ret ?_
      exact bodyA.ret (ResA.one rfl rfl) (by (repeat (first | exact Ent.nil _ | (apply Ent.sel; focus (first | ((repeat (first | with_reducible exact Sel.head | apply Sel.tail)); done) | ((repeat (first | exact Sel.head | apply Sel.tail)); done))) | apply Ent.selNil | apply Ent.selEmp)); (first | done | fail)) ⟨(k : Int), rfl, ⟨fun _ => he ▸ List.mem_of_getElem? hy, fun _ => by omega⟩, rfl, rfl⟩
    have hnew : x ∉ xs.take (k + 1) := by rw [takeS hy]; simp only [List.mem_append, List.mem_singleton, not_or]; exact ⟨hall, he⟩
    refine XA.skip ?_
    refine DA.inb_normal ?_
    refine DA.thn_normal ?_
    refine XA.region ?_
    refine XOA.rd rfl (by first | exact Rd.adi rfl rfl | exact Rd.add rfl rfl) ?_
    refine XOA.rd rfl Rd.mv ?_
    refine XOA.nil ?_
    refine DA.thn_normal ?_
    refine ⟨(Keep.upd (Keep.upd (Keep.upd (Keep.upd (Keep.upd (Keep.upd (Keep.upd (Keep.upd (Keep.upd (Keep.upd (Keep.upd (Keep.upd (Keep.hav (Keep.hav (Keep.refl _ _) rfl) rfl) rfl) rfl) rfl) rfl) rfl) rfl) rfl) rfl) rfl) rfl) rfl) rfl), k + 1, _, (by (repeat (first | exact trivial | refine ⟨rfl, ?_⟩ | refine ⟨Eq.trans rfl (congrArg Value.bool hmat.symm), ?_⟩)); (first | done | fail)), ?_, ⟨rfl, hlt, hnew, rfl⟩, (by omega)⟩
    · exact (by (repeat (first | exact Ent.nil _ | (apply Ent.sel; focus (first | ((repeat (first | with_reducible exact Sel.head | apply Sel.tail)); done) | ((repeat (first | exact Sel.head | apply Sel.tail)); done))) | apply Ent.selNil | apply Ent.selEmp)); (first | done | fail))
  have hkn : k = xs.length := by omega
  subst hkn
  rw [List.take_length] at hall
  refine XA.exit ?_
  refine DA.thn_exit ?_
  refine DA.thn_exit ?_
  refine DA.inb_same ?_
  refine DA.thn_normal ?_
  refine XA.seq ?_
  refine XA.region ?_
  refine XOA.rd rfl Rd.asg ?_
  refine XOA.nil ?_
  refine DA.thn_normal ?_
  refine XA.ret ?_
  exact bodyA.ret (ResA.one rfl rfl) (by (repeat (first | exact Ent.nil _ | (apply Ent.sel; focus (first | ((repeat (first | with_reducible exact Sel.head | apply Sel.tail)); done) | ((repeat (first | exact Sel.head | apply Sel.tail)); done))) | apply Ent.selNil | apply Ent.selEmp)); (first | done | fail)) ⟨-1, rfl, ⟨fun h => absurd h (by decide), fun h => absurd h hall⟩, rfl, rfl⟩
theorem contains_a (σ : PH) (v : Value) (xs : List Int) (x : Int) (hv : PInts σ v xs) : CallsA Try.prog 59 #[v, i64 x] σ [] (RetA fun r σ' Γ' => r = .bool (decide (x ∈ xs)) ∧ σ = σ' ∧ Γ' = []) := by
  refine enterA2 Try.func59 rfl rfl rfl ?_
  refine XA.seq ?_
  refine XA.region ?_
  refine XOA.rd rfl Rd.asg ?_
  refine XOA.nil ?_
  refine DA.thn_normal ?_
  refine XA.seq ?_
  refine XA.region ?_
  refine XOA.rd rfl Rd.mv ?_
  refine XOA.rd rfl Rd.mv ?_
  refine XOA.wr0 rfl (WrA.cE (index_a σ v xs x hv) rfl) ?_
  rintro _ _ _ ⟨_, ⟨k, rfl, hk, rfl, rfl⟩, rfl⟩
  refine XOA.cl ?_
  refine XOA.rd rfl (Rd.geq rfl rfl) ?_
  refine XOA.rd rfl Rd.asg ?_
  refine XOA.nil ?_
  refine DA.thn_normal ?_
  refine XA.ret ?_
  exact bodyA.ret (ResA.one rfl rfl) (by (repeat (first | exact Ent.nil _ | (apply Ent.sel; focus (first | ((repeat (first | with_reducible exact Sel.head | apply Sel.tail)); done) | ((repeat (first | exact Sel.head | apply Sel.tail)); done))) | apply Ent.selNil | apply Ent.selEmp)); (first | done | fail)) ⟨congrArg Value.bool (decide_eq_decide.2 hk), rfl, rfl⟩
/-! Check -/
def checkGo (seen : List PageS) : List PageS → Int
  | [] => 0
  | p :: l => if ¬ (0 ≤ p.n ∧ p.n < 14) then 1 else if ∃ q ∈ seen, q.n = p.n then 9 else checkGo (seen ++ [p]) l
def checkS (l : List PageS) : Int := checkGo [] l
theorem X.PSl.take' {α : Type} {s n c k : Nat} {R : RT α} {σ : PH} {p : Option Addr} {xs : List α} (h : PSl s R σ (.slice p n c) xs) (hk : k ≤ n) : PSl s R σ (.slice p k c) (xs.take k) := by
  obtain ⟨p', c', rows, h1, h2, h3, h4, h5, h6, h7⟩ := h
  simp only [Value.slice.injEq] at h1
  obtain ⟨rfl, rfl, rfl⟩ := h1
  have hl : (xs.take k).length = k := by rw [List.length_take]; exact Nat.min_eq_left hk
  refine ⟨p, c, rows.take k, by rw [hl], by omega, h3, by rw [hl, List.length_take]; omega, fun r hr => h5 r (List.mem_of_mem_take hr), fun i row x a b => ?_, fun hp => ?_⟩
  · rw [List.getElem?_take] at a b
    split at a
    · rename_i hi
      rw [if_pos hi] at b
      exact h6 i row x a b
    · cases a
  · obtain ⟨g, o, e, hr⟩ := h7 (by omega)
    refine ⟨g, o, e, ?_⟩
    have := hr.sub (j := 0) (us := (rows.take k).flatten) (by
      have e : rows.flatten = (rows.take k).flatten ++ (rows.drop k).flatten := by rw [← List.flatten_append, List.take_append_drop]
      rw [List.drop_zero, e]
      exact List.take_left)
    simpa using this
theorem pgEq_a (σ : PH) (g : Nat) (x y : PageS) (hy : y.w.length = 8) : CallsA Try.prog 57 #[.agg y.cells.toArray, ptr g] σ [blk g x.cells 66] (RetA fun r σ' Γ' => r = .bool (decide (y.n = x.n)) ∧ σ = σ' ∧ Γ' = [blk g x.cells 66]) := by
  obtain ⟨xn, xw⟩ := x
  obtain ⟨yn, yw⟩ := y
  unfold PageS.cells
  refine enterA2 Try.func57 rfl rfl rfl ?_
  refine XA.seq ?_
  refine XA.region ?_
  refine XOA.wr0 rfl WrA.bx ?_
  rintro _ _ _ ⟨g2, rfl, rfl, rfl⟩
  refine XOA.rd rfl Rd.asg ?_
  refine XOA.nil ?_
  refine DA.thn_normal ?_
  refine XA.seq ?_
  refine XA.region ?_
  refine XOA.rd rfl (Rd.fA rfl) ?_
  refine XOA.rd rfl (Rd.ldC rfl (tyrow rfl) rfl) ?_
  refine XOA.rd rfl (Rd.fA rfl) ?_
  refine XOA.rd rfl (Rd.ldC rfl (tyrow rfl) rfl) ?_
  refine XOA.rd rfl (Rd.eql rfl rfl) ?_
  refine XOA.rd rfl Rd.asg ?_
  refine XOA.nil ?_
  refine DA.thn_normal ?_
  refine XA.ret ?_
  exact bodyA.ret (ResA.one rfl rfl) (by (repeat (first | exact Ent.nil _ | (apply Ent.sel; focus (first | ((repeat (first | with_reducible exact Sel.head | apply Sel.tail)); done) | ((repeat (first | exact Sel.head | apply Sel.tail)); done))) | apply Ent.selNil | apply Ent.selEmp)); (first | done | fail)) ⟨rfl, rfl, rfl⟩
theorem indexPg_a (σ : PH) (g : Nat) (v : PageS) (sl : Value) (l : List PageS) (hl : PSl 9 rPage σ sl l) : CallsA Try.prog 66 #[sl, .func (.func 57) #[] #[ptr g]] σ [blk g v.cells 66] (RetA fun r σ' Γ' => ∃ k : Int, r = i64 k ∧ (0 ≤ k ↔ ∃ w ∈ l, w.n = v.n) ∧ σ = σ' ∧ Γ' = [blk g v.cells 66]) := by
  obtain ⟨pl, cl, rfl, hle, hmx⟩ := hl.shape
  have hlen : l.length ≤ maxLen := by omega
  simp only [maxLen] at hlen
  refine enterA2 Try.func66 rfl rfl rfl ?_
  refine XA.seq ?_
  refine XA.region ?_
  refine XOA.rd rfl Rd.asg ?_
  refine XOA.nil ?_
  refine DA.thn_normal ?_
  refine XA.seq ?_
  refine XA.seq ?_
  refine XA.region ?_
  refine XOA.rd rfl Rd.mv ?_
  refine XOA.rd rfl (Rd.lenSlice (tyrow rfl) rfl rfl) ?_
  refine XOA.rd rfl Rd.mv ?_
  refine XOA.nil ?_
  refine DA.thn_normal ?_
  refine XA.block ?_
  refine XA.gen [(0, _), (1, _), (4, _), (7, _), (8, _)] ⟨(by with_reducible (conv => lhs; whnf)), (by with_reducible (conv => lhs; whnf)), (by with_reducible (conv => lhs; whnf)), (by with_reducible (conv => lhs; whnf)), (by with_reducible (conv => lhs; whnf)), trivial⟩ (fun δ => ?_)
  dsimp only [List.foldl]
  refine XA.loop [(4, 5), (8, 18)] (fun k : Nat => [(8, i64 k)]) (fun k σ' Γ' => σ = σ' ∧ k ≤ l.length ∧ (∀ (j : Nat) w, j < k → l[j]? = some w → w.n ≠ v.n) ∧ Γ' = [blk g v.cells 66]) (fun k => l.length - k) 0 (by exact ⟨rfl, trivial⟩) (Δ0 := _) ?_ (⟨rfl, Nat.zero_le _, fun j w h => absurd h (Nat.not_lt_zero _), rfl⟩) ?_
  · exact (by (repeat (first | exact Ent.nil _ | (apply Ent.sel; focus (first | ((repeat (first | with_reducible exact Sel.head | apply Sel.tail)); done) | ((repeat (first | exact Sel.head | apply Sel.tail)); done))) | apply Ent.selNil | apply Ent.selEmp)); (first | done | fail))
  rintro k δ _ _ ⟨rfl, hk, hall, rfl⟩
  dsimp only [ovr, List.foldl]
  refine XA.seq ?_
  refine XA.region ?_
  refine XOA.rd rfl (Rd.lss rfl rfl) ?_
  refine XOA.nil ?_
  refine DA.thn_normal ?_
  refine XA.seq ?_
  refine XA.condp rfl (fun hlt => ?_) (fun hlt => ?_)
  · have hlt : k < l.length := by omega
    obtain ⟨x', hx'⟩ : ∃ x', l[k]? = some x' := ⟨_, List.getElem?_eq_getElem hlt⟩
    obtain ⟨gg, o, row, rfl, ⟨rfl, hx8⟩, hrl, hrow⟩ := hl.at hx'
    refine XA.skip ?_
    refine DA.thn_normal ?_
    refine XA.seq ?_
    refine XA.block ?_
    refine XA.seq ?_
    refine XA.region ?_
    refine XOA.rd rfl Rd.mv ?_
    refine XOA.rd rfl Rd.asg ?_
    refine XOA.nil ?_
    refine DA.thn_normal ?_
    refine XA.seq ?_
    refine XA.region ?_
    refine XOA.rd rfl Rd.mv ?_
    refine XOA.rd rfl Rd.mv ?_
    refine XOA.rd rfl Rd.mv ?_
    refine XOA.rd rfl (Rd.ixS rfl rfl) ?_
    refine XOA.rd rfl (Rd.ldA rfl) ?_
    refine XOA.wr0 rfl (WrA.cV (first := []) (cap := [ptr g]) rfl (pgEq_a σ g v x' hx8) rfl) ?_
    rintro _ _ _ ⟨_, ⟨rfl, rfl, rfl⟩, rfl⟩
    refine XOA.cl ?_
    refine XOA.nil ?_
    refine DA.thn_normal ?_
    refine XA.condp rfl (fun hc => ?_) (fun hc => ?_)
    · refine XA.seq ?_
      refine XA.region ?_
      refine XOA.rd rfl Rd.mv ?_
      refine XOA.rd rfl Rd.asg ?_
      refine XOA.nil ?_
      refine DA.thn_normal ?_
      refine XA.ret ?_
      refine DA.inb_ret ?_
      refine DA.thn_ret ?_
      refine DA.thn_ret ?_
      refine DA.inb_ret ?_
      refine DA.thn_ret ?_
      exact bodyA.ret (ResA.one rfl rfl) (by (repeat (first | exact Ent.nil _ | (apply Ent.sel; focus (first | ((repeat (first | with_reducible exact Sel.head | apply Sel.tail)); done) | ((repeat (first | exact Sel.head | apply Sel.tail)); done))) | apply Ent.selNil | apply Ent.selEmp)); (first | done | fail)) ⟨(k : Int), rfl, ⟨fun _ => ⟨x', List.mem_of_getElem? hx', hc⟩, fun _ => by omega⟩, rfl, rfl⟩
    · have hnew : ∀ (j : Nat) w, j < k + 1 → l[j]? = some w → w.n ≠ v.n := fun j w hj hw => by
        rcases Nat.lt_or_ge j k with h | h
        · exact hall j w h hw
        · have : j = k := by omega
          subst this
          rw [hx'] at hw; simp only [Option.some.injEq] at hw; subst hw; exact hc
      refine XA.skip ?_
      refine DA.inb_normal ?_
      refine DA.thn_normal ?_
      refine XA.region ?_
      refine XOA.rd rfl (by first | exact Rd.adi rfl rfl | exact Rd.add rfl rfl) ?_
      refine XOA.rd rfl Rd.mv ?_
      refine XOA.nil ?_
      refine DA.thn_normal ?_
      refine ⟨(Keep.upd (Keep.upd (Keep.updO (Keep.upd (Keep.upd (Keep.upd (Keep.upd (Keep.upd (Keep.upd (Keep.upd (Keep.upd (Keep.upd (Keep.hav (Keep.hav (Keep.refl _ _) rfl) rfl) rfl) rfl) rfl) rfl) rfl) rfl) rfl) rfl) rfl) rfl) rfl) rfl), k + 1, _, (by (repeat (first | exact trivial | refine ⟨rfl, ?_⟩ | refine ⟨Eq.trans rfl (congrArg Value.bool hmat.symm), ?_⟩)); (first | done | fail)), ?_, ⟨rfl, hlt, hnew, rfl⟩, (by omega)⟩
      · exact (by (repeat (first | exact Ent.nil _ | (apply Ent.sel; focus (first | ((repeat (first | with_reducible exact Sel.head | apply Sel.tail)); done) | ((repeat (first | exact Sel.head | apply Sel.tail)); done))) | apply Ent.selNil | apply Ent.selEmp)); (first | done | fail))
  have hkn : k = l.length := by omega
  subst hkn
  refine XA.exit ?_
  refine DA.thn_exit ?_
  refine DA.thn_exit ?_
  refine DA.inb_same ?_
  refine DA.thn_normal ?_
  refine XA.seq ?_
  refine XA.region ?_
  refine XOA.rd rfl Rd.asg ?_
  refine XOA.nil ?_
  refine DA.thn_normal ?_
  refine XA.ret ?_
  refine bodyA.ret (ResA.one rfl rfl) (by (repeat (first | exact Ent.nil _ | (apply Ent.sel; focus (first | ((repeat (first | with_reducible exact Sel.head | apply Sel.tail)); done) | ((repeat (first | exact Sel.head | apply Sel.tail)); done))) | apply Ent.selNil | apply Ent.selEmp)); (first | done | fail)) ⟨-1, rfl, ⟨fun h => absurd h (by decide), fun ⟨w, hw, e⟩ => ?_⟩, rfl, rfl⟩
  obtain ⟨j, hj, e2⟩ := List.mem_iff_getElem.1 hw
  exact absurd e (hall j w hj (by rw [List.getElem?_eq_getElem hj, e2]))
theorem containsPg_a (σ : PH) (g : Nat) (v : PageS) (sl : Value) (l : List PageS) (hl : PSl 9 rPage σ sl l) : CallsA Try.prog 56 #[sl, .func (.func 57) #[] #[ptr g]] σ [blk g v.cells 66] (RetA fun r σ' Γ' => r = .bool (decide (∃ w ∈ l, w.n = v.n)) ∧ σ = σ' ∧ Γ' = [blk g v.cells 66]) := by
  refine enterA2 Try.func56 rfl rfl rfl ?_
  refine XA.seq ?_
  refine XA.region ?_
  refine XOA.rd rfl Rd.asg ?_
  refine XOA.nil ?_
  refine DA.thn_normal ?_
  refine XA.seq ?_
  refine XA.region ?_
  refine XOA.rd rfl Rd.mv ?_
  refine XOA.rd rfl Rd.mv ?_
  refine XOA.wr0 rfl (WrA.cE (indexPg_a σ g v sl l hl) rfl) ?_
  rintro _ _ _ ⟨_, ⟨k, rfl, hk, rfl, rfl⟩, rfl⟩
  refine XOA.cl ?_
  refine XOA.rd rfl (Rd.geq rfl rfl) ?_
  refine XOA.rd rfl Rd.asg ?_
  refine XOA.nil ?_
  refine DA.thn_normal ?_
  refine XA.ret ?_
  exact bodyA.ret (ResA.one rfl rfl) (by (repeat (first | exact Ent.nil _ | (apply Ent.sel; focus (first | ((repeat (first | with_reducible exact Sel.head | apply Sel.tail)); done) | ((repeat (first | exact Sel.head | apply Sel.tail)); done))) | apply Ent.selNil | apply Ent.selEmp)); (first | done | fail)) ⟨congrArg Value.bool (decide_eq_decide.2 hk), rfl, rfl⟩
theorem PageS.ones {x : PageS} : X.ones x.cells := ones_cons rfl (ones_ints _)
theorem scheck_a (σ : PH) (sl : Value) (l : List PageS) (hl : PSl 9 rPage σ sl l) : CallsA Try.prog 30 #[sl] σ [] (RetA fun v σ' Γ' => v = i64 (checkS l) ∧ σ = σ' ∧ Γ' = []) := by
  obtain ⟨pl, cl, rfl, hle, hmx⟩ := hl.shape
  have hlen : l.length ≤ maxLen := by omega
  simp only [maxLen] at hlen
  refine enterA1 Try.func30 rfl rfl rfl ?_
  refine XA.seq ?_
  refine XA.region ?_
  refine XOA.rd rfl Rd.asg ?_
  refine XOA.nil ?_
  refine DA.thn_normal ?_
  refine XA.seq ?_
  refine XA.seq ?_
  refine XA.region ?_
  refine XOA.rd rfl Rd.mv ?_
  refine XOA.rd rfl (Rd.lenSlice (tyrow rfl) rfl rfl) ?_
  refine XOA.rd rfl Rd.mv ?_
  refine XOA.nil ?_
  refine DA.thn_normal ?_
  refine XA.block ?_
  refine XA.gen [(0, _), (2, _), (5, _), (6, _), (7, _)] ⟨(by with_reducible (conv => lhs; whnf)), (by with_reducible (conv => lhs; whnf)), (by with_reducible (conv => lhs; whnf)), (by with_reducible (conv => lhs; whnf)), (by with_reducible (conv => lhs; whnf)), trivial⟩ (fun δ => ?_)
  dsimp only [List.foldl]
  refine XA.loop [(2, 4), (7, 21)] (fun k : Nat => [(7, i64 k)]) (fun k σ' Γ' => σ = σ' ∧ k ≤ l.length ∧ checkGo (l.take k) (l.drop k) = checkS l ∧ Γ' = []) (fun k => l.length - k) 0 (by exact ⟨rfl, trivial⟩) (Δ0 := _) ?_ (⟨rfl, Nat.zero_le _, rfl, rfl⟩) ?_
  · exact (by (repeat (first | exact Ent.nil _ | (apply Ent.sel; focus (first | ((repeat (first | with_reducible exact Sel.head | apply Sel.tail)); done) | ((repeat (first | exact Sel.head | apply Sel.tail)); done))) | apply Ent.selNil | apply Ent.selEmp)); (first | done | fail))
  rintro k δ _ _ ⟨rfl, hk, hgo, rfl⟩
  dsimp only [ovr, List.foldl]
  refine XA.seq ?_
  refine XA.region ?_
  refine XOA.rd rfl (Rd.lss rfl rfl) ?_
  refine XOA.nil ?_
  refine DA.thn_normal ?_
  refine XA.seq ?_
  refine XA.condp rfl (fun hlt => ?_) (fun hlt => ?_)
  · have hlt : k < l.length := by omega
    obtain ⟨x, hx⟩ : ∃ x, l[k]? = some x := ⟨_, List.getElem?_eq_getElem hlt⟩
    obtain ⟨gg, o, row, rfl, ⟨rfl, hx8⟩, hrl, hrow⟩ := hl.at hx
    have hpre := hl.take' (k := k) hk
    have hone : ones x.cells := PageS.ones
    rw [dropS hx, checkGo] at hgo
    have hc0 : x.cells[0]? = some (i64 x.n) := rfl
    refine XA.skip ?_
    refine DA.thn_normal ?_
    refine XA.seq ?_
    refine XA.block ?_
    refine XA.seq ?_
    refine XA.region ?_
    refine XOA.rd rfl Rd.mv ?_
    refine XOA.rd rfl (Rd.ixS rfl rfl) ?_
    refine XOA.rd rfl (Rd.ldA rfl) ?_
    refine XOA.wr0 rfl (WrA.alloc (tyrow rfl)) ?_
    rintro _ _ _ ⟨g4, rfl, rfl, rfl⟩
    refine XOA.rd rfl Rd.asg ?_
    refine XOA.wr0 rfl (WrA.st (tyrow rfl) rfl) ?_
    rintro _ _ _ ⟨rfl, rfl, rfl⟩
    refine XOA.nil ?_
    refine DA.thn_normal ?_
    refine XA.seq ?_
    refine XA.seq ?_
    refine XA.region ?_
    refine XOA.rd rfl (Rd.fA rfl) ?_
    refine XOA.rd rfl (Rd.ldC rfl (tyrow rfl) rfl) ?_
    refine XOA.wr0 rfl (WrA.cE (shas_a σ x.n) rfl) ?_
    rintro _ _ _ ⟨_, ⟨rfl, rfl, rfl⟩, rfl⟩
    refine XOA.cl ?_
    by_cases hin : 0 ≤ x.n ∧ x.n < 14
    · rw [if_neg (fun h => h hin)] at hgo
      rw [decide_eq_true hin]
      refine XOA.rd rfl (by first | exact Rd.notp rfl | exact Rd.not rfl) ?_
      refine XOA.nil ?_
      refine DA.thn_normal ?_
      refine XA.condF rfl rfl ?_
      refine XA.skip ?_
      refine DA.thn_normal ?_
      refine XA.seq ?_
      refine XA.region ?_
      refine XOA.rd rfl Rd.mv ?_
      refine XOA.rd rfl Rd.mv ?_
      refine XOA.rd rfl (Rd.sliceToN (tyrow rfl) rfl (tyrow rfl) rfl rfl (by omega)) ?_
      refine XOA.rd rfl (Rd.makeFunc1 (by with_reducible (conv => lhs; whnf))) ?_
      refine XOA.wr0 rfl (WrA.cE (containsPg_a σ g4 x _ _ hpre) rfl) ?_
      rintro _ _ _ ⟨_, ⟨rfl, rfl, rfl⟩, rfl⟩
      refine XOA.cl ?_
      refine XOA.nil ?_
      refine DA.thn_normal ?_
      refine XA.condp rfl (fun htw => ?_) (fun htw => ?_)
      · rw [if_pos htw] at hgo
        refine XA.seq ?_
        refine XA.region ?_
        refine XOA.rd rfl Rd.asg ?_
        refine XOA.nil ?_
        refine DA.thn_normal ?_
        refine XA.ret ?_
        refine DA.inb_ret ?_
        refine DA.thn_ret ?_
        refine DA.thn_ret ?_
        refine DA.inb_ret ?_
        refine DA.thn_ret ?_
        exact bodyA.ret (ResA.one rfl rfl) (by (repeat (first | exact Ent.nil _ | (apply Ent.sel; focus (first | ((repeat (first | with_reducible exact Sel.head | apply Sel.tail)); done) | ((repeat (first | exact Sel.head | apply Sel.tail)); done))) | apply Ent.selNil | apply Ent.selEmp)); (first | done | fail)) ⟨by rw [← hgo], rfl, rfl⟩
      rw [if_neg htw] at hgo
      refine XA.skip ?_
      refine DA.inb_normal ?_
      refine DA.thn_normal ?_
      refine XA.region ?_
      refine XOA.rd rfl (by first | exact Rd.adi rfl rfl | exact Rd.add rfl rfl) ?_
      refine XOA.rd rfl Rd.mv ?_
      refine XOA.nil ?_
      refine DA.thn_normal ?_
      refine ⟨(Keep.upd (Keep.upd (Keep.updO (Keep.upd (Keep.upd (Keep.upd (Keep.upd (Keep.upd (Keep.updO (Keep.upd (Keep.upd (Keep.updN (Keep.upd (Keep.updO (Keep.upd (Keep.upd (Keep.upd (Keep.upd (Keep.upd (Keep.hav (Keep.hav (Keep.refl _ _) rfl) rfl) rfl) rfl) rfl) rfl) rfl) rfl) rfl)) rfl) rfl) rfl) rfl) rfl) rfl) rfl) rfl) rfl) rfl) rfl), k + 1, _, (by (repeat (first | exact trivial | refine ⟨rfl, ?_⟩ | refine ⟨Eq.trans rfl (congrArg Value.bool hmat.symm), ?_⟩)); (first | done | fail)), ?_, ⟨rfl, hlt, by rw [takeS hx]; exact hgo, rfl⟩, (by omega)⟩
      · exact (by (repeat (first | exact Ent.nil _ | (apply Ent.sel; focus (first | ((repeat (first | with_reducible exact Sel.head | apply Sel.tail)); done) | ((repeat (first | exact Sel.head | apply Sel.tail)); done))) | apply Ent.selNil | apply Ent.selEmp)); (first | done | fail))
    · rw [if_pos hin] at hgo
      rw [decide_eq_false hin]
      refine XOA.rd rfl (by first | exact Rd.notp rfl | exact Rd.not rfl) ?_
      refine XOA.nil ?_
      refine DA.thn_normal ?_
      refine XA.condT rfl rfl ?_
      refine XA.seq ?_
      refine XA.region ?_
      refine XOA.rd rfl Rd.asg ?_
      refine XOA.nil ?_
      refine DA.thn_normal ?_
      refine XA.ret ?_
      refine DA.thn_ret ?_
      refine DA.inb_ret ?_
      refine DA.thn_ret ?_
      refine DA.thn_ret ?_
      refine DA.inb_ret ?_
      refine DA.thn_ret ?_
      exact bodyA.ret (ResA.one rfl rfl) (by (repeat (first | exact Ent.nil _ | (apply Ent.sel; focus (first | ((repeat (first | with_reducible exact Sel.head | apply Sel.tail)); done) | ((repeat (first | exact Sel.head | apply Sel.tail)); done))) | apply Ent.selNil | apply Ent.selEmp)); (first | done | fail)) ⟨by rw [← hgo], rfl, rfl⟩
  have hkn : k = l.length := by omega
  subst hkn
  rw [List.drop_length, checkGo] at hgo
  refine XA.exit ?_
  refine DA.thn_exit ?_
  refine DA.thn_exit ?_
  refine DA.inb_same ?_
  refine DA.thn_normal ?_
  refine XA.seq ?_
  refine XA.region ?_
  refine XOA.rd rfl Rd.asg ?_
  refine XOA.nil ?_
  refine DA.thn_normal ?_
  refine XA.ret ?_
  exact bodyA.ret (ResA.one rfl rfl) (by (repeat (first | exact Ent.nil _ | (apply Ent.sel; focus (first | ((repeat (first | with_reducible exact Sel.head | apply Sel.tail)); done) | ((repeat (first | exact Sel.head | apply Sel.tail)); done))) | apply Ent.selNil | apply Ent.selEmp)); (first | done | fail)) ⟨by rw [← hgo], rfl, rfl⟩
end Go.Proofs.Ytplobdiknobhoaa
