/- Part 4 of 5 of what the claim needs: Te, Tf, Th, Rj, Rk, Rl, Rn, Va, Ye0, Vb, Vc, Vd, Yw, Ve, Vf, Vg. -/
import Derived.Test.YthefnnkmpcgcmaaGreatDoorWre2
import Derived.Test.YthefnnkmpcgcmaaGreatDoorWre3
namespace Go.Proofs.YthefnnkmpcgcmaaGreatDoor
open Go X
set_option maxHeartbeats 4000000
def scanB (s : ByteArray) : Nat → Nat → List Tk → Except Nat (List Tk)
  | 0, _, acc => .ok acc
  | f + 1, i, acc => if i < s.size then (if blankB (byteAt s i) = true then scanB s f (i + 1) acc else match oneT s i with
      | some t => scanB s f (i + t.text.size) (acc ++ [t])
      | none => .error i)
    else .ok acc
theorem scanG_end (s : ByteArray) (f i : Nat) (acc : List Tk) (h : ¬ i < s.size) : scanG s f i acc = .ok acc := by
  cases f with
  | zero => rfl
  | succ f => rw [scanG, if_neg h]
theorem scanB_eq (s : ByteArray) : ∀ (f i : Nat) (acc : List Tk) (f' : Nat), s.size < i + f → s.size < i + runB blankB s i + f' → scanB s f i acc = scanG s f' (i + runB blankB s i) acc
  | 0, i, acc, f', h, _ => by rw [scanB, scanG_end _ _ _ _ (by omega)]
  | f + 1, i, acc, f', h, h' => by
    rw [scanB]
    by_cases hi : i < s.size
    · rw [if_pos hi]
      by_cases hb : blankB (byteAt s i) = true
      · have e : runB blankB s i = runB blankB s (i + 1) + 1 := by rw [runB_eq, if_pos ⟨hi, hb⟩]
        rw [if_pos hb, e, show i + (runB blankB s (i + 1) + 1) = i + 1 + runB blankB s (i + 1) by omega]
        exact scanB_eq s f (i + 1) acc f' (by omega) (by omega)
      · have e : runB blankB s i = 0 := runB_end (fun x => hb x.2)
        simp only [e, Nat.add_zero] at h' ⊢
        obtain ⟨g, rfl⟩ : ∃ g, f' = g + 1 := ⟨f' - 1, by omega⟩
        rw [if_neg hb, scanG, if_pos hi]
        cases ho : oneT s i with
        | none => rfl
        | some t =>
          obtain ⟨-, h1, h2⟩ := oneT_size hi ho
          exact scanB_eq s f (i + t.text.size) (acc ++ [t]) g (by omega) (by omega)
    · rw [if_neg hi, scanG_end _ _ _ _ (by omega)]
theorem rF_t (σ : PH) (a b : Int) : CallsA Tryz.prog 23 #[i64 a, i64 b] σ [] (RetA fun v σ' Γ' => v = .agg #[i64 a, i64 b] ∧ σ = σ' ∧ Γ' = []) := by
  refine enterA2 Tryz.func23 rfl rfl rfl ?_
  refine zS (zR ?_)
  refine XOA.wr0 rfl (WrA.alloc (tyrow rfl)) ?_
  rintro _ _ _ ⟨g4, rfl, rfl, rfl⟩
  refine zN (zT (zS (zR (zA rfl ?_)))); refine zA rfl ?_
  refine zO rfl (Rd.bl (fun _ _ => tyrow) rfl rfl rfl) ?_
  refine XOA.wr0 rfl (WrA.st (tyrow rfl) rfl) ?_
  rintro _ _ _ ⟨rfl, rfl, rfl⟩
  refine zN (zT (XA.ret ?_))
  exact bodyA.ret (ResA.cellT rfl rfl (Ld.atBlk (tyrow rfl) rfl zL rfl (by first | exact take0 (by first | rfl | assumption | (refine (ints_len _).trans ?_; assumption) | (simp [*]; (first | done | fail))) | assumption | exact take_app (by first | rfl | assumption | (refine (ints_len _).trans ?_; assumption) | (simp [*]; (first | done | fail))) | (conv => lhs; simp only [List.drop_succ_cons, List.drop_zero, List.take_succ_cons, List.take_zero])) (by first | rfl | assumption | (refine (ints_len _).trans ?_; assumption) | (simp [*]; (first | done | fail))))) (Ent.nil _) ⟨rfl, rfl, rfl⟩
theorem rlong_t (σ : PH) (s : ByteArray) (hs : s.size ≤ 100000000) (hT : Tab σ) (hE : Errs σ) :
    CallsA Tryz.prog 37 #[.string s] σ [] (RetA fun v σ' Γ' => v = (match longOf s with | some n => .tuple #[i64 n, .bool true] | none => .tuple #[i64 0, .bool false]) ∧ σ = σ' ∧ Γ' = []) := by
  have hpar := parse_a σ s hs hE
  refine enterA1 Tryz.func37 rfl rfl rfl ?_
  refine zS (zR (zO rfl Rd.asg ?_)); refine zO rfl Rd.asg ?_; refine zN (zT (zS (zR (zA rfl ?_))))
  refine XOA.wr0 rfl (WrA.cE (hpar) rfl) ?_
  rintro v _ _ ⟨_, ⟨hnum, rfl, rfl⟩, rfl⟩
  refine XOA.cl ?_
  rcases hnum with ⟨n, hn, rfl⟩ | ⟨hno, n, a, rfl⟩
  · obtain ⟨hn0, hn1⟩ := parse_bounds hn
    rw [longOf_ok hn]
    refine zA rfl ?_; refine zO rfl (Rd.extract rfl rfl) ?_; refine zO rfl (Rd.extract rfl rfl) ?_; refine zO rfl Rd.asg ?_; refine zO rfl Rd.asg ?_; refine zN (zT (zS (zS (zR (zA rfl ?_))))); refine zO rfl (Rd.neqIfF err_if.choose_spec rfl) ?_; refine zA rfl ?_
    first | (refine zG ?_; refine zA rfl ?_) | refine zH ?_
    first | refine XOA.wanted rfl rfl ?_ | refine XOA.wq rfl rfl ?_
    refine XOA.wr0 rfl (WrA.cE (itoa_a σ n hn0 hn1 hT) rfl) ?_
    rintro _ _ _ ⟨_, ⟨rfl, rfl, rfl⟩, rfl⟩
    refine XOA.cl ?_
    first | (refine zG ?_; refine zA rfl ?_) | refine zH ?_
    first | (refine zG ?_; refine zO rfl (Rd.neqs rfl rfl) ?_) | refine zH ?_
    refine zO rfl zP ?_; refine zN (zT ?_)
    by_cases hq : itoaS n = s
    · have hq' : ¬ (itoaS n ≠ s) := fun h => h hq
      rw [if_pos hq]
      refine XA.condF rfl (by first | rfl | exact decide_eq_false hq') ?_; refine XA.skip (zT (zS (zR (zA rfl ?_)))); refine zO rfl Rd.asg ?_; refine zO rfl Rd.asg ?_; refine zN (zT (XA.ret ?_))
      exact bodyA.ret (ResA.two rfl rfl rfl) (Ent.nil _) ⟨rfl, rfl, rfl⟩
    · rw [if_neg hq]
      refine XA.condT rfl (by first | rfl | exact decide_eq_true hq) ?_; refine zS (zR (zO rfl Rd.asg ?_)); refine zO rfl Rd.asg ?_; refine zN (zT (XA.ret (DA.thn_ret ?_)))
      exact bodyA.ret (ResA.two rfl rfl rfl) (Ent.nil _) ⟨rfl, rfl, rfl⟩
  · rw [longOf_bad hno]
    refine zA rfl ?_; refine zO rfl (Rd.extract rfl rfl) ?_; refine zO rfl (Rd.extract rfl rfl) ?_; refine zO rfl Rd.asg ?_; refine zO rfl Rd.asg ?_; refine zN (zT (zS (zS (zR (zA rfl ?_))))); refine zO rfl (Rd.neqIfT err_if.choose_spec rfl) ?_; refine zA rfl ?_
    first | (refine zG ?_; refine zA rfl ?_) | refine zH ?_
    first | refine zH ?_
    first | (refine zG ?_; refine zA rfl ?_) | refine zH ?_
    first | (refine zG ?_; refine zO rfl (Rd.neqs rfl rfl) ?_) | refine zH ?_
    refine zO rfl zP ?_; refine zN (zT (XA.condT rfl rfl (zS (zR (zO rfl Rd.asg ?_))))); refine zO rfl Rd.asg ?_; refine zN (zT (XA.ret (DA.thn_ret ?_)))
    exact bodyA.ret (ResA.two rfl rfl rfl) (Ent.nil _) ⟨rfl, rfl, rfl⟩
theorem rlong_some (σ : PH) {s : ByteArray} {m : Int} (hs : s.size ≤ 100000000) (hT : Tab σ) (hE : Errs σ) (h : longOf s = some m) :
    CallsA Tryz.prog 37 #[.string s] σ [] (RetA fun v σ' Γ' => v = .tuple #[i64 m, .bool true] ∧ σ = σ' ∧ Γ' = []) := by
  have := rlong_t σ s hs hT hE
  rw [h] at this
  exact this
theorem rlong_none (σ : PH) {s : ByteArray} (hs : s.size ≤ 100000000) (hT : Tab σ) (hE : Errs σ) (h : longOf s = none) :
    CallsA Tryz.prog 37 #[.string s] σ [] (RetA fun v σ' Γ' => v = .tuple #[i64 0, .bool false] ∧ σ = σ' ∧ Γ' = []) := by
  have := rlong_t σ s hs hT hE
  rw [h] at this
  exact this
theorem rscan_t (σ : PH) (s : ByteArray) (hs : s.size ≤ 100000000) (hT : Tab σ) (hE : Errs σ) :
    CallsA Tryz.prog 16 #[.string s] σ [] (RetA fun v σ' Γ' => ∃ sl, v = .tuple #[sl, .agg #[i64 (errC (scanP s)), i64 (errA (scanP s))]] ∧ PSl 4 rTk σ' sl (okL (scanP s)) ∧ σ.sub σ' ∧ Γ' = []) := by
  by_cases h6 : 6000 < s.size
  · have e : scanP s = .error (3, 6000) := by rw [scanP, if_pos h6]
    rw [e]
    refine enterA1 Tryz.func16 rfl rfl rfl ?_
    refine zS (zR (zO rfl Rd.asg ?_))
    refine XOA.wr0 rfl (WrA.alloc (tyrow rfl)) ?_
    rintro _ _ _ ⟨g3, rfl, rfl, rfl⟩
    refine zN (zT (zS (zS (zR (zA rfl ?_))))); refine zO rfl (Rd.lenString (tyrow rfl) rfl rfl) ?_; refine zO rfl (Rd.gtr rfl rfl) ?_; refine zN (zT (XA.condT rfl (by first | rfl | exact decide_eq_true (by omega)) ?_)); refine zS (zR ?_)
    refine XOA.wr0 rfl (WrA.cE (rF_t σ 3 6000) rfl) ?_
    rintro _ _ _ ⟨_, ⟨rfl, rfl, rfl⟩, rfl⟩
    refine XOA.cl ?_; refine zO rfl Rd.asg ?_
    refine XOA.wr0 rfl (WrA.st (tyrow rfl) rfl) ?_
    rintro _ _ _ ⟨rfl, rfl, rfl⟩
    refine zN (zT (XA.ret (DA.thn_ret ?_)))
    exact bodyA.ret (ResA.tcT rfl rfl rfl (Ld.atBlk (tyrow rfl) rfl zL rfl (by first | exact take0 (by first | rfl | assumption | (refine (ints_len _).trans ?_; assumption) | (simp [*]; (first | done | fail))) | assumption | exact take_app (by first | rfl | assumption | (refine (ints_len _).trans ?_; assumption) | (simp [*]; (first | done | fail))) | (conv => lhs; simp only [List.drop_succ_cons, List.drop_zero, List.take_succ_cons, List.take_zero])) (by first | rfl | assumption | (refine (ints_len _).trans ?_; assumption) | (simp [*]; (first | done | fail))))) (Ent.nil _) ⟨_, rfl, PSl.nil _ _ _, .refl _, rfl⟩
  have h0 := runB_le blankB s (i := 0) (by omega)
  obtain ⟨R, hR⟩ : ∃ R, scanB s (s.size + 1) 0 [] = R := ⟨_, rfl⟩
  have hP : scanP s = scanE R := by
    have := scanB_eq s (s.size + 1) 0 [] (s.size + 1) (by omega) (by omega)
    rw [Nat.zero_add] at this
    rw [scanP, if_neg h6, ← this, hR]
  refine enterA1 Tryz.func16 rfl rfl rfl ?_
  refine zS (zR (zO rfl Rd.asg ?_))
  refine XOA.wr0 rfl (WrA.alloc (tyrow rfl)) ?_
  rintro _ _ _ ⟨g3, rfl, rfl, rfl⟩
  refine zN (zT (zS (zS (zR (zA rfl ?_))))); refine zO rfl (Rd.lenString (tyrow rfl) rfl rfl) ?_; refine zO rfl (Rd.gtr rfl rfl) ?_; refine zN (zT (XA.condF rfl (by first | rfl | exact decide_eq_false (by omega)) ?_)); refine XA.skip (zT (zS (zR (zO rfl Rd.asg ?_))))
  refine zN (zT (zS (zR (zO rfl Rd.asg ?_)))); refine zN (zT (zS (XA.block ?_)))
  refine XA.ent (Ent.selNil (e := 78) (size := 4) (Ent.refl _)) ?_
  refine XA.gen [(0, _), (2, _), (3, _), (4, _), (5, _)] ⟨(by with_reducible (conv => lhs; whnf)), (by with_reducible (conv => lhs; whnf)), (by with_reducible (conv => lhs; whnf)), (by with_reducible (conv => lhs; whnf)), (by with_reducible (conv => lhs; whnf)), trivial⟩ (fun δ => ?_)
  dsimp only [List.foldl]
  refine XA.loop [(2, 2), (4, 9), (14, 121)] (fun x : (Nat × (Nat × List Tk)) × (Option Addr × Nat) => [(5, i64 x.1.1), (4, .slice x.2.1 x.1.2.1 x.2.2)]) (fun x σ' Γ' => σ = σ' ∧ x.1.1 ≤ s.size ∧ x.1.2.1 ≤ x.1.1 ∧ x.1.2.2.length = x.1.2.1 ∧ (∃ f, s.size < x.1.1 + f ∧ R = scanB s f x.1.1 x.1.2.2) ∧ Γ' = [blk g3 [i64 0, i64 0] 28, lst 78 4 (.slice x.2.1 x.1.2.1 x.2.2) x.1.2.1 (tksC x.1.2.2)]) (fun x => s.size - x.1.1) ((0, (0, [])), (none, 0)) (by exact ⟨rfl, rfl, trivial⟩) (Δ0 := _) ?_ (⟨rfl, Nat.zero_le _, Nat.zero_le _, rfl, ⟨s.size + 1, by simp only; omega, hR.symm⟩, rfl⟩) ?_
  · exact zE
  rintro ⟨⟨i, n, acc⟩, p, c⟩ δ _ _ ⟨rfl, hi, hn, hacc, ⟨f, hf, hRf⟩, rfl⟩
  dsimp only [ovr, List.foldl]
  simp only at hi hn hacc hf hRf
  by_cases hlt : i < s.size
  · have hb := byteAt_lt s i
    have hrl := rletter_t σ (byteAt s i) hb
    have hrd := rdigit_t σ (byteAt s i) hb
    obtain ⟨f, rfl⟩ : ∃ f', f = f' + 1 := ⟨f - 1, by omega⟩
    rw [scanB, if_pos hlt] at hRf
    by_cases hbl : blankB (byteAt s i) = true
    · rw [if_pos hbl] at hRf
      have hbl' : byteAt s i = 32 ∨ byteAt s i = 9 ∨ byteAt s i = 10 ∨ byteAt s i = 13 := of_decide_eq_true hbl
      rcases hbl' with hc | hc | hc | hc
      · skip
        refine zS (zS (zR (zA rfl ?_))); refine zA rfl ?_; refine zO rfl (Rd.lenString (tyrow rfl) rfl rfl) ?_; refine zO rfl (Rd.lss rfl rfl) ?_; refine zN (zT (XA.condT rfl (by first | rfl | exact decide_eq_true (by omega)) ?_)); refine XA.skip (zT (XA.block (zS (zR (zA rfl ?_))))); refine zA rfl ?_
        refine zO rfl (Rd.indexStr (tyrow rfl) rfl rfl rfl (by first | omega | decide | (simp; omega))) ?_
        refine zO rfl Rd.asg ?_; refine zN (zT (zS (zR (zA rfl ?_)))); refine zO rfl zI ?_; refine zO rfl Rd.asg ?_; refine zN (zT (zS (XA.block (zS (zR (zA rfl ?_)))))); refine zO rfl (Rd.eql rfl rfl) ?_; refine zA rfl ?_
        first | (refine zG ?_; refine zA rfl ?_) | refine zH ?_
        first | (refine zG ?_; refine zO rfl (Rd.eql rfl rfl) ?_) | refine zH ?_
        refine zO rfl zP ?_; refine zA rfl ?_
        first | (refine zG ?_; refine zA rfl ?_) | refine zH ?_
        first | (refine zG ?_; refine zO rfl (Rd.eql rfl rfl) ?_) | refine zH ?_
        refine zO rfl zP ?_; refine zA rfl ?_
        first | (refine zG ?_; refine zA rfl ?_) | refine zH ?_
        first | (refine zG ?_; refine zO rfl (Rd.eql rfl rfl) ?_) | refine zH ?_
        refine zO rfl zP ?_; refine zO rfl Rd.asg ?_; refine zN (zT (XA.condT rfl (by first | rfl | exact decide_eq_true (by omega)) ?_)); refine XA.skip (DA.inb_normal (zT (zR (zA rfl ?_)))); refine zO rfl Rd.asg ?_; refine zN (DA.inb_normal (zT ?_))
        refine ⟨(Keep.upd (Keep.upd (Keep.upd (Keep.upd (Keep.upd (Keep.upd (Keep.upd (Keep.upd (Keep.upd (Keep.upd (Keep.upd (Keep.upd (Keep.upd (Keep.upd (Keep.upd (Keep.upd (Keep.upd (Keep.upd (Keep.upd (Keep.upd (Keep.upd (Keep.upd (Keep.upd (Keep.upd (Keep.upd (Keep.upd (Keep.upd (Keep.upd (Keep.upd (Keep.upd (Keep.hav (Keep.hav (Keep.hav (Keep.refl _ _) rfl) rfl) rfl) rfl) rfl) rfl) rfl) rfl) rfl) rfl) rfl) rfl) rfl) rfl) rfl) rfl) rfl) rfl) rfl) rfl) rfl) rfl) rfl) rfl) rfl) rfl) rfl) rfl) rfl) rfl) rfl) rfl) rfl), ((i + 1, (n, acc)), (p, c)), _, zM, ?_, ⟨rfl, hlt, by show n ≤ i + 1; omega, hacc, ⟨f, by show s.size < i + 1 + f; omega, hRf⟩, rfl⟩, (by simp only; omega)⟩
        · exact zE
      · skip
        refine zS (zS (zR (zA rfl ?_))); refine zA rfl ?_; refine zO rfl (Rd.lenString (tyrow rfl) rfl rfl) ?_; refine zO rfl (Rd.lss rfl rfl) ?_; refine zN (zT (XA.condT rfl (by first | rfl | exact decide_eq_true (by omega)) ?_)); refine XA.skip (zT (XA.block (zS (zR (zA rfl ?_))))); refine zA rfl ?_
        refine zO rfl (Rd.indexStr (tyrow rfl) rfl rfl rfl (by first | omega | decide | (simp; omega))) ?_
        refine zO rfl Rd.asg ?_; refine zN (zT (zS (zR (zA rfl ?_)))); refine zO rfl zI ?_; refine zO rfl Rd.asg ?_; refine zN (zT (zS (XA.block (zS (zR (zA rfl ?_)))))); refine zO rfl (Rd.eql rfl rfl) ?_; refine zA rfl ?_
        first | (refine zG ?_; refine zA rfl ?_) | refine zH ?_
        first | (refine zG ?_; refine zO rfl (Rd.eql rfl rfl) ?_) | refine zH ?_
        refine zO rfl zP ?_; refine zA rfl ?_
        first | (refine zG ?_; refine zA rfl ?_) | refine zH ?_
        first | (refine zG ?_; refine zO rfl (Rd.eql rfl rfl) ?_) | refine zH ?_
        refine zO rfl zP ?_; refine zA rfl ?_
        first | (refine zG ?_; refine zA rfl ?_) | refine zH ?_
        first | (refine zG ?_; refine zO rfl (Rd.eql rfl rfl) ?_) | refine zH ?_
        refine zO rfl zP ?_; refine zO rfl Rd.asg ?_; refine zN (zT (XA.condT rfl (by first | rfl | exact decide_eq_true (by omega)) ?_)); refine XA.skip (DA.inb_normal (zT (zR (zA rfl ?_)))); refine zO rfl Rd.asg ?_; refine zN (DA.inb_normal (zT ?_))
        refine ⟨(Keep.upd (Keep.upd (Keep.upd (Keep.upd (Keep.upd (Keep.upd (Keep.upd (Keep.upd (Keep.upd (Keep.upd (Keep.upd (Keep.upd (Keep.upd (Keep.upd (Keep.upd (Keep.upd (Keep.upd (Keep.upd (Keep.upd (Keep.upd (Keep.upd (Keep.upd (Keep.upd (Keep.upd (Keep.upd (Keep.upd (Keep.upd (Keep.upd (Keep.upd (Keep.upd (Keep.hav (Keep.hav (Keep.hav (Keep.refl _ _) rfl) rfl) rfl) rfl) rfl) rfl) rfl) rfl) rfl) rfl) rfl) rfl) rfl) rfl) rfl) rfl) rfl) rfl) rfl) rfl) rfl) rfl) rfl) rfl) rfl) rfl) rfl) rfl) rfl) rfl) rfl) rfl) rfl), ((i + 1, (n, acc)), (p, c)), _, zM, ?_, ⟨rfl, hlt, by show n ≤ i + 1; omega, hacc, ⟨f, by show s.size < i + 1 + f; omega, hRf⟩, rfl⟩, (by simp only; omega)⟩
        · exact zE
      · skip
        refine zS (zS (zR (zA rfl ?_))); refine zA rfl ?_; refine zO rfl (Rd.lenString (tyrow rfl) rfl rfl) ?_; refine zO rfl (Rd.lss rfl rfl) ?_; refine zN (zT (XA.condT rfl (by first | rfl | exact decide_eq_true (by omega)) ?_)); refine XA.skip (zT (XA.block (zS (zR (zA rfl ?_))))); refine zA rfl ?_
        refine zO rfl (Rd.indexStr (tyrow rfl) rfl rfl rfl (by first | omega | decide | (simp; omega))) ?_
        refine zO rfl Rd.asg ?_; refine zN (zT (zS (zR (zA rfl ?_)))); refine zO rfl zI ?_; refine zO rfl Rd.asg ?_; refine zN (zT (zS (XA.block (zS (zR (zA rfl ?_)))))); refine zO rfl (Rd.eql rfl rfl) ?_; refine zA rfl ?_
        first | (refine zG ?_; refine zA rfl ?_) | refine zH ?_
        first | (refine zG ?_; refine zO rfl (Rd.eql rfl rfl) ?_) | refine zH ?_
        refine zO rfl zP ?_; refine zA rfl ?_
        first | (refine zG ?_; refine zA rfl ?_) | refine zH ?_
        first | (refine zG ?_; refine zO rfl (Rd.eql rfl rfl) ?_) | refine zH ?_
        refine zO rfl zP ?_; refine zA rfl ?_
        first | (refine zG ?_; refine zA rfl ?_) | refine zH ?_
        first | (refine zG ?_; refine zO rfl (Rd.eql rfl rfl) ?_) | refine zH ?_
        refine zO rfl zP ?_; refine zO rfl Rd.asg ?_; refine zN (zT (XA.condT rfl (by first | rfl | exact decide_eq_true (by omega)) ?_)); refine XA.skip (DA.inb_normal (zT (zR (zA rfl ?_)))); refine zO rfl Rd.asg ?_; refine zN (DA.inb_normal (zT ?_))
        refine ⟨(Keep.upd (Keep.upd (Keep.upd (Keep.upd (Keep.upd (Keep.upd (Keep.upd (Keep.upd (Keep.upd (Keep.upd (Keep.upd (Keep.upd (Keep.upd (Keep.upd (Keep.upd (Keep.upd (Keep.upd (Keep.upd (Keep.upd (Keep.upd (Keep.upd (Keep.upd (Keep.upd (Keep.upd (Keep.upd (Keep.upd (Keep.upd (Keep.upd (Keep.upd (Keep.upd (Keep.hav (Keep.hav (Keep.hav (Keep.refl _ _) rfl) rfl) rfl) rfl) rfl) rfl) rfl) rfl) rfl) rfl) rfl) rfl) rfl) rfl) rfl) rfl) rfl) rfl) rfl) rfl) rfl) rfl) rfl) rfl) rfl) rfl) rfl) rfl) rfl) rfl) rfl) rfl) rfl), ((i + 1, (n, acc)), (p, c)), _, zM, ?_, ⟨rfl, hlt, by show n ≤ i + 1; omega, hacc, ⟨f, by show s.size < i + 1 + f; omega, hRf⟩, rfl⟩, (by simp only; omega)⟩
        · exact zE
      · skip
        refine zS (zS (zR (zA rfl ?_))); refine zA rfl ?_; refine zO rfl (Rd.lenString (tyrow rfl) rfl rfl) ?_; refine zO rfl (Rd.lss rfl rfl) ?_; refine zN (zT (XA.condT rfl (by first | rfl | exact decide_eq_true (by omega)) ?_)); refine XA.skip (zT (XA.block (zS (zR (zA rfl ?_))))); refine zA rfl ?_
        refine zO rfl (Rd.indexStr (tyrow rfl) rfl rfl rfl (by first | omega | decide | (simp; omega))) ?_
        refine zO rfl Rd.asg ?_; refine zN (zT (zS (zR (zA rfl ?_)))); refine zO rfl zI ?_; refine zO rfl Rd.asg ?_; refine zN (zT (zS (XA.block (zS (zR (zA rfl ?_)))))); refine zO rfl (Rd.eql rfl rfl) ?_; refine zA rfl ?_
        first | (refine zG ?_; refine zA rfl ?_) | refine zH ?_
        first | (refine zG ?_; refine zO rfl (Rd.eql rfl rfl) ?_) | refine zH ?_
        refine zO rfl zP ?_; refine zA rfl ?_
        first | (refine zG ?_; refine zA rfl ?_) | refine zH ?_
        first | (refine zG ?_; refine zO rfl (Rd.eql rfl rfl) ?_) | refine zH ?_
        refine zO rfl zP ?_; refine zA rfl ?_
        first | (refine zG ?_; refine zA rfl ?_) | refine zH ?_
        first | (refine zG ?_; refine zO rfl (Rd.eql rfl rfl) ?_) | refine zH ?_
        refine zO rfl zP ?_; refine zO rfl Rd.asg ?_; refine zN (zT (XA.condT rfl (by first | rfl | exact decide_eq_true (by omega)) ?_)); refine XA.skip (DA.inb_normal (zT (zR (zA rfl ?_)))); refine zO rfl Rd.asg ?_; refine zN (DA.inb_normal (zT ?_))
        refine ⟨(Keep.upd (Keep.upd (Keep.upd (Keep.upd (Keep.upd (Keep.upd (Keep.upd (Keep.upd (Keep.upd (Keep.upd (Keep.upd (Keep.upd (Keep.upd (Keep.upd (Keep.upd (Keep.upd (Keep.upd (Keep.upd (Keep.upd (Keep.upd (Keep.upd (Keep.upd (Keep.upd (Keep.upd (Keep.upd (Keep.upd (Keep.upd (Keep.upd (Keep.upd (Keep.upd (Keep.hav (Keep.hav (Keep.hav (Keep.refl _ _) rfl) rfl) rfl) rfl) rfl) rfl) rfl) rfl) rfl) rfl) rfl) rfl) rfl) rfl) rfl) rfl) rfl) rfl) rfl) rfl) rfl) rfl) rfl) rfl) rfl) rfl) rfl) rfl) rfl) rfl) rfl) rfl) rfl), ((i + 1, (n, acc)), (p, c)), _, zM, ?_, ⟨rfl, hlt, by show n ≤ i + 1; omega, hacc, ⟨f, by show s.size < i + 1 + f; omega, hRf⟩, rfl⟩, (by simp only; omega)⟩
        · exact zE
    rw [if_neg hbl] at hRf
    have hnb : ¬ (byteAt s i = 32 ∨ byteAt s i = 9 ∨ byteAt s i = 10 ∨ byteAt s i = 13) := fun h => hbl (decide_eq_true h)
    by_cases h40 : byteAt s i = 40
    · skip
      have ho : oneT s i = some ⟨i, s.extract i (i + 1), false, 0⟩ := by rw [oneT, if_pos (by omega)]
      have hz : (s.extract i (i + 1)).size = 1 := by rw [ByteArray.size_extract]; omega
      rw [ho] at hRf
      simp only [hz] at hRf
      refine zS (zS (zR (zA rfl ?_))); refine zA rfl ?_; refine zO rfl (Rd.lenString (tyrow rfl) rfl rfl) ?_; refine zO rfl (Rd.lss rfl rfl) ?_; refine zN (zT (XA.condT rfl (by first | rfl | exact decide_eq_true (by omega)) ?_)); refine XA.skip (zT (XA.block (zS (zR (zA rfl ?_))))); refine zA rfl ?_
      refine zO rfl (Rd.indexStr (tyrow rfl) rfl rfl rfl (by first | omega | decide | (simp; omega))) ?_
      refine zO rfl Rd.asg ?_; refine zN (zT (zS (zR (zA rfl ?_)))); refine zO rfl zI ?_; refine zO rfl Rd.asg ?_; refine zN (zT (zS (XA.block (zS (zR (zA rfl ?_)))))); refine zO rfl (Rd.eql rfl rfl) ?_; refine zA rfl ?_
      first | (refine zG ?_; refine zA rfl ?_) | refine zH ?_
      first | (refine zG ?_; refine zO rfl (Rd.eql rfl rfl) ?_) | refine zH ?_
      refine zO rfl zP ?_; refine zA rfl ?_
      first | (refine zG ?_; refine zA rfl ?_) | refine zH ?_
      first | (refine zG ?_; refine zO rfl (Rd.eql rfl rfl) ?_) | refine zH ?_
      refine zO rfl zP ?_; refine zA rfl ?_
      first | (refine zG ?_; refine zA rfl ?_) | refine zH ?_
      first | (refine zG ?_; refine zO rfl (Rd.eql rfl rfl) ?_) | refine zH ?_
      refine zO rfl zP ?_; refine zO rfl Rd.asg ?_; refine zN (zT (XA.condF rfl (by first | rfl | exact decide_eq_false (by omega)) ?_)); refine zS (zR (zA rfl ?_)); refine zO rfl (Rd.eql rfl rfl) ?_; refine zA rfl ?_
      first | (refine zG ?_; refine zA rfl ?_) | refine zH ?_
      first | (refine zG ?_; refine zO rfl (Rd.eql rfl rfl) ?_) | refine zH ?_
      refine zO rfl zP ?_; refine zO rfl Rd.asg ?_; refine zN (zT (XA.condT rfl (by first | rfl | exact decide_eq_true (by omega)) ?_)); refine zR (zA rfl ?_); refine zA rfl ?_; refine zA rfl ?_; refine zA rfl ?_; refine zA rfl ?_; refine zO rfl (Rd.sliceS (tyrow rfl) rfl rfl rfl rfl (by omega) rfl) ?_
      refine zO rfl (Rd.bl (fun _ _ => tyrow) rfl rfl rfl) ?_
      refine XOA.wr0 rfl (WrA.bs1 (tyrow rfl) rfl (tyrow rfl)) ?_
      rintro _ _ _ ⟨g54, rfl, rfl, rfl⟩
      refine XOA.wr0 rfl (WrA.ap1 (tyrow rfl) rfl (tyrow rfl) rfl rfl rfl) ?_
      rintro _ _ _ ⟨p55, c55, rfl, rfl, rfl⟩
      refine zO rfl Rd.asg ?_; refine zN (DA.inb_normal (zT (zR (zA rfl ?_)))); refine zO rfl Rd.asg ?_; refine zN (DA.inb_normal (zT ?_))
      refine ⟨(Keep.upd (Keep.upd (Keep.upd (Keep.updO (Keep.updO (Keep.upd (Keep.upd (Keep.upd (Keep.upd (Keep.upd (Keep.upd (Keep.upd (Keep.upd (Keep.upd (Keep.upd (Keep.upd (Keep.upd (Keep.upd (Keep.upd (Keep.upd (Keep.upd (Keep.upd (Keep.upd (Keep.upd (Keep.upd (Keep.upd (Keep.upd (Keep.upd (Keep.upd (Keep.upd (Keep.upd (Keep.upd (Keep.upd (Keep.upd (Keep.upd (Keep.upd (Keep.upd (Keep.upd (Keep.upd (Keep.upd (Keep.upd (Keep.upd (Keep.upd (Keep.upd (Keep.upd (Keep.upd (Keep.upd (Keep.hav (Keep.hav (Keep.hav (Keep.refl _ _) rfl) rfl) rfl) rfl) rfl) rfl) rfl) rfl) rfl) rfl) rfl) rfl) rfl) rfl) rfl) rfl) rfl) rfl) rfl) rfl) rfl) rfl) rfl) rfl) rfl) rfl) rfl) rfl) rfl) rfl) rfl) rfl) rfl) rfl) rfl) rfl) rfl) rfl) rfl) rfl) rfl) rfl) rfl) rfl) rfl) rfl) rfl) rfl) rfl) rfl), ((i + 1, (n + 1, acc ++ [(⟨i, s.extract i (i + 1), false, 0⟩ : Tk)])), (p55, c55)), _, zM, ?_, ⟨rfl, by show i + 1 ≤ s.size; omega, by show n + 1 ≤ i + 1; omega, by show (acc ++ [(⟨i, s.extract i (i + 1), false, 0⟩ : Tk)]).length = n + 1; rw [List.length_append, hacc]; rfl, ⟨f, by show s.size < i + 1 + f; omega, hRf⟩, rfl⟩, (by show s.size - (i + 1) < s.size - i; omega)⟩
      · rw [tksC_snoc]; exact zE
    by_cases h41 : byteAt s i = 41
    · skip
      have ho : oneT s i = some ⟨i, s.extract i (i + 1), false, 0⟩ := by rw [oneT, if_pos (by omega)]
      have hz : (s.extract i (i + 1)).size = 1 := by rw [ByteArray.size_extract]; omega
      rw [ho] at hRf
      simp only [hz] at hRf
      refine zS (zS (zR (zA rfl ?_))); refine zA rfl ?_; refine zO rfl (Rd.lenString (tyrow rfl) rfl rfl) ?_; refine zO rfl (Rd.lss rfl rfl) ?_; refine zN (zT (XA.condT rfl (by first | rfl | exact decide_eq_true (by omega)) ?_)); refine XA.skip (zT (XA.block (zS (zR (zA rfl ?_))))); refine zA rfl ?_
      refine zO rfl (Rd.indexStr (tyrow rfl) rfl rfl rfl (by first | omega | decide | (simp; omega))) ?_
      refine zO rfl Rd.asg ?_; refine zN (zT (zS (zR (zA rfl ?_)))); refine zO rfl zI ?_; refine zO rfl Rd.asg ?_; refine zN (zT (zS (XA.block (zS (zR (zA rfl ?_)))))); refine zO rfl (Rd.eql rfl rfl) ?_; refine zA rfl ?_
      first | (refine zG ?_; refine zA rfl ?_) | refine zH ?_
      first | (refine zG ?_; refine zO rfl (Rd.eql rfl rfl) ?_) | refine zH ?_
      refine zO rfl zP ?_; refine zA rfl ?_
      first | (refine zG ?_; refine zA rfl ?_) | refine zH ?_
      first | (refine zG ?_; refine zO rfl (Rd.eql rfl rfl) ?_) | refine zH ?_
      refine zO rfl zP ?_; refine zA rfl ?_
      first | (refine zG ?_; refine zA rfl ?_) | refine zH ?_
      first | (refine zG ?_; refine zO rfl (Rd.eql rfl rfl) ?_) | refine zH ?_
      refine zO rfl zP ?_; refine zO rfl Rd.asg ?_; refine zN (zT (XA.condF rfl (by first | rfl | exact decide_eq_false (by omega)) ?_)); refine zS (zR (zA rfl ?_)); refine zO rfl (Rd.eql rfl rfl) ?_; refine zA rfl ?_
      first | (refine zG ?_; refine zA rfl ?_) | refine zH ?_
      first | (refine zG ?_; refine zO rfl (Rd.eql rfl rfl) ?_) | refine zH ?_
      refine zO rfl zP ?_; refine zO rfl Rd.asg ?_; refine zN (zT (XA.condT rfl (by first | rfl | exact decide_eq_true (by omega)) ?_)); refine zR (zA rfl ?_); refine zA rfl ?_; refine zA rfl ?_; refine zA rfl ?_; refine zA rfl ?_; refine zO rfl (Rd.sliceS (tyrow rfl) rfl rfl rfl rfl (by omega) rfl) ?_
      refine zO rfl (Rd.bl (fun _ _ => tyrow) rfl rfl rfl) ?_
      refine XOA.wr0 rfl (WrA.bs1 (tyrow rfl) rfl (tyrow rfl)) ?_
      rintro _ _ _ ⟨g54, rfl, rfl, rfl⟩
      refine XOA.wr0 rfl (WrA.ap1 (tyrow rfl) rfl (tyrow rfl) rfl rfl rfl) ?_
      rintro _ _ _ ⟨p55, c55, rfl, rfl, rfl⟩
      refine zO rfl Rd.asg ?_; refine zN (DA.inb_normal (zT (zR (zA rfl ?_)))); refine zO rfl Rd.asg ?_; refine zN (DA.inb_normal (zT ?_))
      refine ⟨(Keep.upd (Keep.upd (Keep.upd (Keep.updO (Keep.updO (Keep.upd (Keep.upd (Keep.upd (Keep.upd (Keep.upd (Keep.upd (Keep.upd (Keep.upd (Keep.upd (Keep.upd (Keep.upd (Keep.upd (Keep.upd (Keep.upd (Keep.upd (Keep.upd (Keep.upd (Keep.upd (Keep.upd (Keep.upd (Keep.upd (Keep.upd (Keep.upd (Keep.upd (Keep.upd (Keep.upd (Keep.upd (Keep.upd (Keep.upd (Keep.upd (Keep.upd (Keep.upd (Keep.upd (Keep.upd (Keep.upd (Keep.upd (Keep.upd (Keep.upd (Keep.upd (Keep.upd (Keep.upd (Keep.upd (Keep.hav (Keep.hav (Keep.hav (Keep.refl _ _) rfl) rfl) rfl) rfl) rfl) rfl) rfl) rfl) rfl) rfl) rfl) rfl) rfl) rfl) rfl) rfl) rfl) rfl) rfl) rfl) rfl) rfl) rfl) rfl) rfl) rfl) rfl) rfl) rfl) rfl) rfl) rfl) rfl) rfl) rfl) rfl) rfl) rfl) rfl) rfl) rfl) rfl) rfl) rfl) rfl) rfl) rfl) rfl) rfl) rfl), ((i + 1, (n + 1, acc ++ [(⟨i, s.extract i (i + 1), false, 0⟩ : Tk)])), (p55, c55)), _, zM, ?_, ⟨rfl, by show i + 1 ≤ s.size; omega, by show n + 1 ≤ i + 1; omega, by show (acc ++ [(⟨i, s.extract i (i + 1), false, 0⟩ : Tk)]).length = n + 1; rw [List.length_append, hacc]; rfl, ⟨f, by show s.size < i + 1 + f; omega, hRf⟩, rfl⟩, (by show s.size - (i + 1) < s.size - i; omega)⟩
      · rw [tksC_snoc]; exact zE
    cases hl : letterB (byteAt s i) with
    | true =>
      have hle := runB_le letterB s (i := i) (by omega)
      have hl1 : runB letterB s i = runB letterB s (i + 1) + 1 := by rw [runB_eq, if_pos ⟨hlt, hl⟩]
      have ho : oneT s i = some ⟨i, s.extract i (i + runB letterB s i), false, 0⟩ := by rw [oneT, if_neg (by omega), if_pos hl]
      rw [ho] at hRf
      have hz : (s.extract i (i + runB letterB s i)).size = runB letterB s i := by rw [ByteArray.size_extract]; omega
      simp only [hz] at hRf
      rw [hl] at hrl
      refine zS (zS (zR (zA rfl ?_))); refine zA rfl ?_; refine zO rfl (Rd.lenString (tyrow rfl) rfl rfl) ?_; refine zO rfl (Rd.lss rfl rfl) ?_; refine zN (zT (XA.condT rfl (by first | rfl | exact decide_eq_true (by omega)) ?_)); refine XA.skip (zT (XA.block (zS (zR (zA rfl ?_))))); refine zA rfl ?_
      refine zO rfl (Rd.indexStr (tyrow rfl) rfl rfl rfl (by first | omega | decide | (simp; omega))) ?_
      refine zO rfl Rd.asg ?_; refine zN (zT (zS (zR (zA rfl ?_)))); refine zO rfl zI ?_; refine zO rfl Rd.asg ?_; refine zN (zT (zS (XA.block (zS (zR (zA rfl ?_)))))); refine zO rfl (Rd.eql rfl rfl) ?_; refine zA rfl ?_
      first | (refine zG ?_; refine zA rfl ?_) | refine zH ?_
      first | (refine zG ?_; refine zO rfl (Rd.eql rfl rfl) ?_) | refine zH ?_
      refine zO rfl zP ?_; refine zA rfl ?_
      first | (refine zG ?_; refine zA rfl ?_) | refine zH ?_
      first | (refine zG ?_; refine zO rfl (Rd.eql rfl rfl) ?_) | refine zH ?_
      refine zO rfl zP ?_; refine zA rfl ?_
      first | (refine zG ?_; refine zA rfl ?_) | refine zH ?_
      first | (refine zG ?_; refine zO rfl (Rd.eql rfl rfl) ?_) | refine zH ?_
      refine zO rfl zP ?_; refine zO rfl Rd.asg ?_; refine zN (zT (XA.condF rfl (by first | rfl | exact decide_eq_false (by omega)) ?_)); refine zS (zR (zA rfl ?_)); refine zO rfl (Rd.eql rfl rfl) ?_; refine zA rfl ?_
      first | (refine zG ?_; refine zA rfl ?_) | refine zH ?_
      first | (refine zG ?_; refine zO rfl (Rd.eql rfl rfl) ?_) | refine zH ?_
      refine zO rfl zP ?_; refine zO rfl Rd.asg ?_; refine zN (zT (XA.condF rfl (by first | rfl | exact decide_eq_false (by omega)) ?_)); refine zS (zR (zA rfl ?_))
      refine XOA.wr0 rfl (WrA.cE (hrl) rfl) ?_
      rintro _ _ _ ⟨_, ⟨rfl, rfl, rfl⟩, rfl⟩
      refine XOA.cl ?_; refine zO rfl Rd.asg ?_; refine zN (zT (XA.condT rfl rfl (zS (XA.block ?_))))
      refine XA.loop [(7, 7), (59, 70)] (fun j : Nat => [(7, i64 j)]) (fun j σ' Γ' => σ = σ' ∧ i + 1 ≤ j ∧ j ≤ s.size ∧ runB letterB s (i + 1) = runB letterB s j + (j - (i + 1)) ∧ Γ' = [blk g3 [i64 0, i64 0] 28, lst 78 4 (.slice p n c) n (tksC acc)]) (fun j => s.size - j) (i + 1) (by exact ⟨rfl, trivial⟩) (Δ0 := _) ?_ (⟨rfl, Nat.le_refl _, hlt, by rw [Nat.sub_self]; rfl, rfl⟩) ?_
      · exact zE
      rintro j δ2 _ _ ⟨rfl, hj0, hj1, hjr, rfl⟩
      dsimp only [ovr, List.foldl]
      replace hj0 : i + 1 ≤ j := hj0
      replace hj1 : j ≤ s.size := hj1
      replace hjr : runB letterB s (i + 1) = runB letterB s j + (j - (i + 1)) := hjr
      by_cases hjl : j < s.size
      · have hrj := rletter_t σ (byteAt s j) (byteAt_lt s j)
        rw [runB_eq letterB s j] at hjr
        cases hqj : letterB (byteAt s j) with
        | true =>
          rw [hqj] at hrj
          rw [if_pos ⟨hjl, hqj⟩] at hjr
          refine zS (zS (zR (zA rfl ?_))); refine zA rfl ?_; refine zO rfl (Rd.lenString (tyrow rfl) rfl rfl) ?_; refine zO rfl (Rd.lss rfl rfl) ?_; refine zA rfl ?_
          first | (refine zG ?_; refine zA rfl ?_) | refine zH ?_
          first | (refine zG ?_; refine zA rfl ?_) | refine zH ?_
          first | (refine zG ?_; refine zO rfl (Rd.indexStr (tyrow rfl) rfl rfl rfl (by first | omega | decide | (simp; omega))) ?_) | refine zH ?_
          first | refine XOA.wanted rfl rfl ?_ | refine XOA.wq rfl rfl ?_
          refine XOA.wr0 rfl (WrA.cE (hrj) rfl) ?_
          rintro _ _ _ ⟨_, ⟨rfl, rfl, rfl⟩, rfl⟩
          refine XOA.cl ?_; refine zO rfl zP ?_; refine zN (zT (XA.condT rfl rfl (XA.skip (zT (XA.block (zR (zA rfl ?_))))))); refine zO rfl zI ?_; refine zO rfl Rd.asg ?_; refine zN (DA.inb_normal (zT ?_))
          refine ⟨(Keep.upd (Keep.upd (Keep.upd (Keep.upd (Keep.updO (Keep.upd (Keep.upd (Keep.upd (Keep.upd (Keep.upd (Keep.upd (Keep.upd (Keep.upd (Keep.upd (Keep.hav (Keep.hav (Keep.refl _ _) rfl) rfl) rfl) rfl) rfl) rfl) rfl) rfl) rfl) rfl) rfl) rfl) rfl) rfl) rfl) rfl), j + 1, _, zM, ?_, ⟨rfl, by show i + 1 ≤ j + 1; omega, hjl, by show runB letterB s (i + 1) = runB letterB s (j + 1) + (j + 1 - (i + 1)); omega, rfl⟩, (by omega)⟩
          · exact zE
        | false =>
          rw [hqj] at hrj
          rw [if_neg (fun x => by rw [hqj] at x; exact Bool.noConfusion x.2), Nat.zero_add] at hjr
          refine zS (zS (zR (zA rfl ?_))); refine zA rfl ?_; refine zO rfl (Rd.lenString (tyrow rfl) rfl rfl) ?_; refine zO rfl (Rd.lss rfl rfl) ?_; refine zA rfl ?_
          first | (refine zG ?_; refine zA rfl ?_) | refine zH ?_
          first | (refine zG ?_; refine zA rfl ?_) | refine zH ?_
          first | (refine zG ?_; refine zO rfl (Rd.indexStr (tyrow rfl) rfl rfl rfl (by first | omega | decide | (simp; omega))) ?_) | refine zH ?_
          first | refine XOA.wanted rfl rfl ?_ | refine XOA.wq rfl rfl ?_
          refine XOA.wr0 rfl (WrA.cE (hrj) rfl) ?_
          rintro _ _ _ ⟨_, ⟨rfl, rfl, rfl⟩, rfl⟩
          refine XOA.cl ?_; refine zO rfl zP ?_; refine zN (zT (XA.condF rfl rfl (XA.exit (DA.thn_exit (DA.thn_exit (DA.inb_same (zT (zR (zA rfl ?_))))))))); refine zA rfl ?_; refine zA rfl ?_; refine zA rfl ?_; refine zA rfl ?_
          have hj2 : j = i + runB letterB s i := by omega
          clear hjr
          subst hj2
          refine zO rfl (Rd.sliceS (tyrow rfl) rfl rfl rfl rfl (by omega) rfl) ?_
          refine zO rfl (Rd.bl (fun _ _ => tyrow) rfl rfl rfl) ?_
          refine XOA.wr0 rfl (WrA.bs1 (tyrow rfl) rfl (tyrow rfl)) ?_
          rintro _ _ _ ⟨g78, rfl, rfl, rfl⟩
          refine XOA.wr0 rfl (WrA.ap1 (tyrow rfl) rfl (tyrow rfl) rfl rfl rfl) ?_
          rintro _ _ _ ⟨p79, c79, rfl, rfl, rfl⟩
          refine zO rfl Rd.asg ?_; refine zN (DA.inb_normal (zT (zR (zA rfl ?_)))); refine zO rfl Rd.asg ?_; refine zN (DA.inb_normal (zT ?_))
          refine ⟨(Keep.upd (Keep.upd (Keep.upd (Keep.updO (Keep.updO (Keep.upd (Keep.upd (Keep.upd (Keep.upd (Keep.upd (Keep.upd (Keep.upd (Keep.upd (Keep.updO (Keep.upd (Keep.upd (Keep.upd (Keep.upd (Keep.upd (Keep.upd (Keep.upd (Keep.upd (Keep.upd (Keep.hav (Keep.hav (Keep.upd (Keep.updO (Keep.upd (Keep.upd (Keep.upd (Keep.upd (Keep.upd (Keep.upd (Keep.upd (Keep.upd (Keep.upd (Keep.upd (Keep.upd (Keep.upd (Keep.upd (Keep.upd (Keep.upd (Keep.upd (Keep.upd (Keep.upd (Keep.upd (Keep.upd (Keep.upd (Keep.upd (Keep.upd (Keep.upd (Keep.upd (Keep.upd (Keep.upd (Keep.upd (Keep.upd (Keep.upd (Keep.upd (Keep.upd (Keep.upd (Keep.upd (Keep.upd (Keep.upd (Keep.hav (Keep.hav (Keep.hav (Keep.refl _ _) rfl) rfl) rfl) rfl) rfl) rfl) rfl) rfl) rfl) rfl) rfl) rfl) rfl) rfl) rfl) rfl) rfl) rfl) rfl) rfl) rfl) rfl) rfl) rfl) rfl) rfl) rfl) rfl) rfl) rfl) rfl) rfl) rfl) rfl) rfl) rfl) rfl) rfl) rfl) rfl) rfl) rfl) rfl) rfl) rfl) rfl) rfl) rfl) rfl) rfl) rfl) rfl) rfl) rfl) rfl) rfl) rfl) rfl) rfl) rfl) rfl) rfl) rfl) rfl) rfl) rfl), ((i + runB letterB s i, (n + 1, acc ++ [(⟨i, s.extract i (i + runB letterB s i), false, 0⟩ : Tk)])), (p79, c79)), _, zM, ?_, ⟨rfl, by show i + runB letterB s i ≤ s.size; omega, by show n + 1 ≤ i + runB letterB s i; omega, by show (acc ++ [(⟨i, s.extract i (i + runB letterB s i), false, 0⟩ : Tk)]).length = n + 1; rw [List.length_append, hacc]; rfl, ⟨f, by show s.size < i + runB letterB s i + f; omega, hRf⟩, rfl⟩, (by show s.size - (i + runB letterB s i) < s.size - i; omega)⟩
          · rw [tksC_snoc]; exact zE
      · rw [runB_end (fun x => hjl x.1), Nat.zero_add] at hjr
        refine zS (zS (zR (zA rfl ?_))); refine zA rfl ?_; refine zO rfl (Rd.lenString (tyrow rfl) rfl rfl) ?_; refine zO rfl (Rd.lss rfl rfl) ?_; refine zA rfl ?_
        first | (refine zG ?_; refine zA rfl ?_) | refine zH ?_
        first | (refine zG ?_; refine zA rfl ?_) | refine zH ?_
        first | (refine zG ?_; refine zO rfl (Rd.indexStr (tyrow rfl) rfl rfl rfl (by first | omega | decide | (simp; omega))) ?_) | refine zH ?_
        first | refine zH ?_
        refine zO rfl zP ?_; refine zN (zT (XA.condF rfl (by first | rfl | exact decide_eq_false (by omega)) ?_)); refine XA.exit (DA.thn_exit (DA.thn_exit (DA.inb_same (zT (zR (zA rfl ?_)))))); refine zA rfl ?_; refine zA rfl ?_; refine zA rfl ?_; refine zA rfl ?_
        have hj2 : j = i + runB letterB s i := by omega
        clear hjr
        subst hj2
        refine zO rfl (Rd.sliceS (tyrow rfl) rfl rfl rfl rfl (by omega) rfl) ?_
        refine zO rfl (Rd.bl (fun _ _ => tyrow) rfl rfl rfl) ?_
        refine XOA.wr0 rfl (WrA.bs1 (tyrow rfl) rfl (tyrow rfl)) ?_
        rintro _ _ _ ⟨g78, rfl, rfl, rfl⟩
        refine XOA.wr0 rfl (WrA.ap1 (tyrow rfl) rfl (tyrow rfl) rfl rfl rfl) ?_
        rintro _ _ _ ⟨p79, c79, rfl, rfl, rfl⟩
        refine zO rfl Rd.asg ?_; refine zN (DA.inb_normal (zT (zR (zA rfl ?_)))); refine zO rfl Rd.asg ?_; refine zN (DA.inb_normal (zT ?_))
        refine ⟨(Keep.upd (Keep.upd (Keep.upd (Keep.updO (Keep.updO (Keep.upd (Keep.upd (Keep.upd (Keep.upd (Keep.upd (Keep.upd (Keep.upd (Keep.upd (Keep.upd (Keep.upd (Keep.upd (Keep.upd (Keep.upd (Keep.upd (Keep.upd (Keep.upd (Keep.upd (Keep.upd (Keep.hav (Keep.hav (Keep.upd (Keep.updO (Keep.upd (Keep.upd (Keep.upd (Keep.upd (Keep.upd (Keep.upd (Keep.upd (Keep.upd (Keep.upd (Keep.upd (Keep.upd (Keep.upd (Keep.upd (Keep.upd (Keep.upd (Keep.upd (Keep.upd (Keep.upd (Keep.upd (Keep.upd (Keep.upd (Keep.upd (Keep.upd (Keep.upd (Keep.upd (Keep.upd (Keep.upd (Keep.upd (Keep.upd (Keep.upd (Keep.upd (Keep.upd (Keep.upd (Keep.upd (Keep.upd (Keep.upd (Keep.hav (Keep.hav (Keep.hav (Keep.refl _ _) rfl) rfl) rfl) rfl) rfl) rfl) rfl) rfl) rfl) rfl) rfl) rfl) rfl) rfl) rfl) rfl) rfl) rfl) rfl) rfl) rfl) rfl) rfl) rfl) rfl) rfl) rfl) rfl) rfl) rfl) rfl) rfl) rfl) rfl) rfl) rfl) rfl) rfl) rfl) rfl) rfl) rfl) rfl) rfl) rfl) rfl) rfl) rfl) rfl) rfl) rfl) rfl) rfl) rfl) rfl) rfl) rfl) rfl) rfl) rfl) rfl) rfl) rfl) rfl) rfl) rfl), ((i + runB letterB s i, (n + 1, acc ++ [(⟨i, s.extract i (i + runB letterB s i), false, 0⟩ : Tk)])), (p79, c79)), _, zM, ?_, ⟨rfl, by show i + runB letterB s i ≤ s.size; omega, by show n + 1 ≤ i + runB letterB s i; omega, by show (acc ++ [(⟨i, s.extract i (i + runB letterB s i), false, 0⟩ : Tk)]).length = n + 1; rw [List.length_append, hacc]; rfl, ⟨f, by show s.size < i + runB letterB s i + f; omega, hRf⟩, rfl⟩, (by show s.size - (i + runB letterB s i) < s.size - i; omega)⟩
        · rw [tksC_snoc]; exact zE
    | false =>
      rw [hl] at hrl
      by_cases hd : digitB (byteAt s i) = true ∨ byteAt s i = 45
      · cases hq : digitB (byteAt s i) with
        | true =>
          rw [hq] at hrd
          have hle := runB_le digitB s (i := i + 1) (by omega)
          have ho : oneT s i = (longOf (s.extract i (i + 1 + runB digitB s (i + 1)))).map fun n => ⟨i, s.extract i (i + 1 + runB digitB s (i + 1)), true, n⟩ := by rw [oneT, if_neg (by omega), if_neg (by rw [hl]; exact Bool.noConfusion), if_pos hd]
          refine zS (zS (zR (zA rfl ?_))); refine zA rfl ?_; refine zO rfl (Rd.lenString (tyrow rfl) rfl rfl) ?_; refine zO rfl (Rd.lss rfl rfl) ?_; refine zN (zT (XA.condT rfl (by first | rfl | exact decide_eq_true (by omega)) ?_)); refine XA.skip (zT (XA.block (zS (zR (zA rfl ?_))))); refine zA rfl ?_
          refine zO rfl (Rd.indexStr (tyrow rfl) rfl rfl rfl (by first | omega | decide | (simp; omega))) ?_
          refine zO rfl Rd.asg ?_; refine zN (zT (zS (zR (zA rfl ?_)))); refine zO rfl zI ?_; refine zO rfl Rd.asg ?_; refine zN (zT (zS (XA.block (zS (zR (zA rfl ?_)))))); refine zO rfl (Rd.eql rfl rfl) ?_; refine zA rfl ?_
          first | (refine zG ?_; refine zA rfl ?_) | refine zH ?_
          first | (refine zG ?_; refine zO rfl (Rd.eql rfl rfl) ?_) | refine zH ?_
          refine zO rfl zP ?_; refine zA rfl ?_
          first | (refine zG ?_; refine zA rfl ?_) | refine zH ?_
          first | (refine zG ?_; refine zO rfl (Rd.eql rfl rfl) ?_) | refine zH ?_
          refine zO rfl zP ?_; refine zA rfl ?_
          first | (refine zG ?_; refine zA rfl ?_) | refine zH ?_
          first | (refine zG ?_; refine zO rfl (Rd.eql rfl rfl) ?_) | refine zH ?_
          refine zO rfl zP ?_; refine zO rfl Rd.asg ?_; refine zN (zT (XA.condF rfl (by first | rfl | exact decide_eq_false (by omega)) ?_)); refine zS (zR (zA rfl ?_)); refine zO rfl (Rd.eql rfl rfl) ?_; refine zA rfl ?_
          first | (refine zG ?_; refine zA rfl ?_) | refine zH ?_
          first | (refine zG ?_; refine zO rfl (Rd.eql rfl rfl) ?_) | refine zH ?_
          refine zO rfl zP ?_; refine zO rfl Rd.asg ?_; refine zN (zT (XA.condF rfl (by first | rfl | exact decide_eq_false (by omega)) ?_)); refine zS (zR (zA rfl ?_))
          refine XOA.wr0 rfl (WrA.cE (hrl) rfl) ?_
          rintro _ _ _ ⟨_, ⟨rfl, rfl, rfl⟩, rfl⟩
          refine XOA.cl ?_; refine zO rfl Rd.asg ?_; refine zN (zT (XA.condF rfl rfl (zS (zR (zA rfl ?_)))))
          refine XOA.wr0 rfl (WrA.cE (hrd) rfl) ?_
          rintro _ _ _ ⟨_, ⟨rfl, rfl, rfl⟩, rfl⟩
          refine XOA.cl ?_; refine zA rfl ?_
          first | (refine zG ?_; refine zA rfl ?_) | refine zH ?_
          first | (refine zG ?_; refine zO rfl (Rd.eql rfl rfl) ?_) | refine zH ?_
          refine zO rfl zP ?_; refine zO rfl Rd.asg ?_; refine zN (zT (XA.condT rfl (by first | rfl | exact decide_eq_true (by omega)) ?_)); refine zS (XA.block ?_)
          refine XA.loop [(7, 7), (87, 98)] (fun j : Nat => [(7, i64 j)]) (fun j σ' Γ' => σ = σ' ∧ i + 1 ≤ j ∧ j ≤ s.size ∧ runB digitB s (i + 1) = runB digitB s j + (j - (i + 1)) ∧ Γ' = [blk g3 [i64 0, i64 0] 28, lst 78 4 (.slice p n c) n (tksC acc)]) (fun j => s.size - j) (i + 1) (by exact ⟨rfl, trivial⟩) (Δ0 := _) ?_ (⟨rfl, Nat.le_refl _, hlt, by rw [Nat.sub_self]; rfl, rfl⟩) ?_
          · exact zE
          rintro j δ2 _ _ ⟨rfl, hj0, hj1, hjr, rfl⟩
          dsimp only [ovr, List.foldl]
          replace hj0 : i + 1 ≤ j := hj0
          replace hj1 : j ≤ s.size := hj1
          replace hjr : runB digitB s (i + 1) = runB digitB s j + (j - (i + 1)) := hjr
          by_cases hjl : j < s.size
          · have hrj := rdigit_t σ (byteAt s j) (byteAt_lt s j)
            rw [runB_eq digitB s j] at hjr
            cases hqj : digitB (byteAt s j) with
            | true =>
              rw [hqj] at hrj
              rw [if_pos ⟨hjl, hqj⟩] at hjr
              refine zS (zS (zR (zA rfl ?_))); refine zA rfl ?_; refine zO rfl (Rd.lenString (tyrow rfl) rfl rfl) ?_; refine zO rfl (Rd.lss rfl rfl) ?_; refine zA rfl ?_
              first | (refine zG ?_; refine zA rfl ?_) | refine zH ?_
              first | (refine zG ?_; refine zA rfl ?_) | refine zH ?_
              first | (refine zG ?_; refine zO rfl (Rd.indexStr (tyrow rfl) rfl rfl rfl (by first | omega | decide | (simp; omega))) ?_) | refine zH ?_
              first | refine XOA.wanted rfl rfl ?_ | refine XOA.wq rfl rfl ?_
              refine XOA.wr0 rfl (WrA.cE (hrj) rfl) ?_
              rintro _ _ _ ⟨_, ⟨rfl, rfl, rfl⟩, rfl⟩
              refine XOA.cl ?_; refine zO rfl zP ?_; refine zN (zT (XA.condT rfl rfl (XA.skip (zT (XA.block (zR (zA rfl ?_))))))); refine zO rfl zI ?_; refine zO rfl Rd.asg ?_; refine zN (DA.inb_normal (zT ?_))
              refine ⟨(Keep.upd (Keep.upd (Keep.upd (Keep.upd (Keep.updO (Keep.upd (Keep.upd (Keep.upd (Keep.upd (Keep.upd (Keep.upd (Keep.upd (Keep.upd (Keep.upd (Keep.hav (Keep.hav (Keep.refl _ _) rfl) rfl) rfl) rfl) rfl) rfl) rfl) rfl) rfl) rfl) rfl) rfl) rfl) rfl) rfl) rfl), j + 1, _, zM, ?_, ⟨rfl, by show i + 1 ≤ j + 1; omega, hjl, by show runB digitB s (i + 1) = runB digitB s (j + 1) + (j + 1 - (i + 1)); omega, rfl⟩, (by omega)⟩
              · exact zE
            | false =>
              rw [hqj] at hrj
              rw [if_neg (fun x => by rw [hqj] at x; exact Bool.noConfusion x.2), Nat.zero_add] at hjr
              refine zS (zS (zR (zA rfl ?_))); refine zA rfl ?_; refine zO rfl (Rd.lenString (tyrow rfl) rfl rfl) ?_; refine zO rfl (Rd.lss rfl rfl) ?_; refine zA rfl ?_
              first | (refine zG ?_; refine zA rfl ?_) | refine zH ?_
              first | (refine zG ?_; refine zA rfl ?_) | refine zH ?_
              first | (refine zG ?_; refine zO rfl (Rd.indexStr (tyrow rfl) rfl rfl rfl (by first | omega | decide | (simp; omega))) ?_) | refine zH ?_
              first | refine XOA.wanted rfl rfl ?_ | refine XOA.wq rfl rfl ?_
              refine XOA.wr0 rfl (WrA.cE (hrj) rfl) ?_
              rintro _ _ _ ⟨_, ⟨rfl, rfl, rfl⟩, rfl⟩
              refine XOA.cl ?_; refine zO rfl zP ?_; refine zN (zT (XA.condF rfl rfl (XA.exit (DA.thn_exit (DA.thn_exit (DA.inb_same (zT (zS (zR (zA rfl ?_)))))))))); refine zA rfl ?_; refine zA rfl ?_
              have hj2 : j = i + 1 + runB digitB s (i + 1) := by omega
              clear hjr
              subst hj2
              refine zO rfl (Rd.sliceS (tyrow rfl) rfl rfl rfl rfl (by omega) rfl) ?_
              have hz0 : (s.extract i (i + 1 + runB digitB s (i + 1))).size = 1 + runB digitB s (i + 1) := by rw [ByteArray.size_extract]; omega
              have hsz : (s.extract i (i + 1 + runB digitB s (i + 1))).size ≤ 100000000 := by omega
              cases hq2 : longOf (s.extract i (i + 1 + runB digitB s (i + 1))) with
              | none =>
                have hlo := rlong_none σ hsz hT hE hq2
                rw [hq2] at ho
                rw [show oneT s i = none from ho] at hRf
                simp only at hRf
                rw [hP, hRf]
                refine XOA.wr0 rfl (WrA.cE (hlo) rfl) ?_
                rintro _ _ _ ⟨_, ⟨rfl, rfl, rfl⟩, rfl⟩
                refine XOA.cl ?_; refine zA rfl ?_; refine zO rfl (Rd.extract rfl rfl) ?_; refine zO rfl (Rd.extract rfl rfl) ?_; refine zO rfl Rd.asg ?_; refine zO rfl Rd.asg ?_; refine zN (zT (zS (zS (zR (zA rfl ?_))))); refine zO rfl zJ ?_; refine zN (zT (XA.condT rfl rfl (zS (zR (zA rfl ?_)))))
                refine XOA.wr0 rfl (WrA.cE (rF_t σ 7 i) rfl) ?_
                rintro _ _ _ ⟨_, ⟨rfl, rfl, rfl⟩, rfl⟩
                refine XOA.cl ?_; refine zO rfl Rd.asg ?_
                refine XOA.wr0 rfl (WrA.st (tyrow rfl) rfl) ?_
                rintro _ _ _ ⟨rfl, rfl, rfl⟩
                refine zN (zT (XA.ret (DA.thn_ret (DA.inb_ret (DA.thn_ret (DA.inb_ret (DA.thn_ret (DA.inb_ret (DA.thn_ret ?_)))))))))
                exact bodyA.ret (ResA.tcT rfl rfl rfl (Ld.atBlk (tyrow rfl) rfl zL rfl (by first | exact take0 (by first | rfl | assumption | (refine (ints_len _).trans ?_; assumption) | (simp [*]; (first | done | fail))) | assumption | exact take_app (by first | rfl | assumption | (refine (ints_len _).trans ?_; assumption) | (simp [*]; (first | done | fail))) | (conv => lhs; simp only [List.drop_succ_cons, List.drop_zero, List.take_succ_cons, List.take_zero])) (by first | rfl | assumption | (refine (ints_len _).trans ?_; assumption) | (simp [*]; (first | done | fail))))) (Ent.nil _) ⟨_, rfl, PSl.nil _ _ _, .refl _, rfl⟩
              | some m =>
                have hlo := rlong_some σ hsz hT hE hq2
                rw [hq2] at ho
                rw [show oneT s i = some ⟨i, s.extract i (i + 1 + runB digitB s (i + 1)), true, m⟩ from ho] at hRf
                simp only [hz0] at hRf
                rw [← Nat.add_assoc] at hRf
                refine XOA.wr0 rfl (WrA.cE (hlo) rfl) ?_
                rintro _ _ _ ⟨_, ⟨rfl, rfl, rfl⟩, rfl⟩
                refine XOA.cl ?_; refine zA rfl ?_; refine zO rfl (Rd.extract rfl rfl) ?_; refine zO rfl (Rd.extract rfl rfl) ?_; refine zO rfl Rd.asg ?_; refine zO rfl Rd.asg ?_; refine zN (zT (zS (zS (zR (zA rfl ?_))))); refine zO rfl zJ ?_; refine zN (zT (XA.condF rfl rfl (XA.skip (zT (zR (zA rfl ?_))))))
                refine zA rfl ?_; refine zA rfl ?_; refine zA rfl ?_; refine zA rfl ?_; refine zO rfl (Rd.sliceS (tyrow rfl) rfl rfl rfl rfl (by omega) rfl) ?_; refine zA rfl ?_
                refine zO rfl (Rd.bl (fun _ _ => tyrow) rfl rfl rfl) ?_
                refine XOA.wr0 rfl (WrA.bs1 (tyrow rfl) rfl (tyrow rfl)) ?_
                rintro _ _ _ ⟨g119, rfl, rfl, rfl⟩
                refine XOA.wr0 rfl (WrA.ap1 (tyrow rfl) rfl (tyrow rfl) rfl rfl rfl) ?_
                rintro _ _ _ ⟨p120, c120, rfl, rfl, rfl⟩
                refine zO rfl Rd.asg ?_; refine zN (DA.inb_normal (zT (zR (zA rfl ?_)))); refine zO rfl Rd.asg ?_; refine zN (DA.inb_normal (zT ?_))
                refine ⟨(Keep.upd (Keep.upd (Keep.upd (Keep.updO (Keep.updO (Keep.upd (Keep.upd (Keep.upd (Keep.upd (Keep.upd (Keep.upd (Keep.upd (Keep.upd (Keep.upd (Keep.upd (Keep.upd (Keep.upd (Keep.upd (Keep.upd (Keep.upd (Keep.updO (Keep.upd (Keep.upd (Keep.upd (Keep.upd (Keep.upd (Keep.updO (Keep.upd (Keep.upd (Keep.upd (Keep.upd (Keep.upd (Keep.upd (Keep.upd (Keep.upd (Keep.upd (Keep.hav (Keep.hav (Keep.upd (Keep.upd (Keep.upd (Keep.upd (Keep.upd (Keep.updO (Keep.upd (Keep.upd (Keep.updO (Keep.upd (Keep.upd (Keep.upd (Keep.upd (Keep.upd (Keep.upd (Keep.upd (Keep.upd (Keep.upd (Keep.upd (Keep.upd (Keep.upd (Keep.upd (Keep.upd (Keep.upd (Keep.upd (Keep.upd (Keep.upd (Keep.upd (Keep.upd (Keep.upd (Keep.upd (Keep.upd (Keep.upd (Keep.upd (Keep.upd (Keep.upd (Keep.upd (Keep.upd (Keep.upd (Keep.upd (Keep.upd (Keep.upd (Keep.upd (Keep.upd (Keep.upd (Keep.hav (Keep.hav (Keep.hav (Keep.refl _ _) rfl) rfl) rfl) rfl) rfl) rfl) rfl) rfl) rfl) rfl) rfl) rfl) rfl) rfl) rfl) rfl) rfl) rfl) rfl) rfl) rfl) rfl) rfl) rfl) rfl) rfl) rfl) rfl) rfl) rfl) rfl) rfl) rfl) rfl) rfl) rfl) rfl) rfl) rfl) rfl) rfl) rfl) rfl) rfl) rfl) rfl) rfl) rfl) rfl) rfl) rfl) rfl) rfl) rfl) rfl) rfl) rfl) rfl) rfl) rfl) rfl) rfl) rfl) rfl) rfl) rfl) rfl) rfl) rfl) rfl) rfl) rfl) rfl) rfl) rfl) rfl) rfl) rfl) rfl) rfl) rfl) rfl) rfl) rfl) rfl) rfl), ((i + 1 + runB digitB s (i + 1), (n + 1, acc ++ [(⟨i, s.extract i (i + 1 + runB digitB s (i + 1)), true, m⟩ : Tk)])), (p120, c120)), _, zM, ?_, ⟨rfl, by show i + 1 + runB digitB s (i + 1) ≤ s.size; omega, by show n + 1 ≤ i + 1 + runB digitB s (i + 1); omega, by show (acc ++ [(⟨i, s.extract i (i + 1 + runB digitB s (i + 1)), true, m⟩ : Tk)]).length = n + 1; rw [List.length_append, hacc]; rfl, ⟨f, by show s.size < i + 1 + runB digitB s (i + 1) + f; omega, hRf⟩, rfl⟩, (by show s.size - (i + 1 + runB digitB s (i + 1)) < s.size - i; omega)⟩
                · rw [tksC_snoc]; exact zE
          · rw [runB_end (fun x => hjl x.1), Nat.zero_add] at hjr
            refine zS (zS (zR (zA rfl ?_))); refine zA rfl ?_; refine zO rfl (Rd.lenString (tyrow rfl) rfl rfl) ?_; refine zO rfl (Rd.lss rfl rfl) ?_; refine zA rfl ?_
            first | (refine zG ?_; refine zA rfl ?_) | refine zH ?_
            first | (refine zG ?_; refine zA rfl ?_) | refine zH ?_
            first | (refine zG ?_; refine zO rfl (Rd.indexStr (tyrow rfl) rfl rfl rfl (by first | omega | decide | (simp; omega))) ?_) | refine zH ?_
            first | refine zH ?_
            refine zO rfl zP ?_; refine zN (zT (XA.condF rfl (by first | rfl | exact decide_eq_false (by omega)) ?_)); refine XA.exit (DA.thn_exit (DA.thn_exit (DA.inb_same (zT (zS (zR (zA rfl ?_))))))); refine zA rfl ?_; refine zA rfl ?_
            have hj2 : j = i + 1 + runB digitB s (i + 1) := by omega
            clear hjr
            subst hj2
            refine zO rfl (Rd.sliceS (tyrow rfl) rfl rfl rfl rfl (by omega) rfl) ?_
            have hz0 : (s.extract i (i + 1 + runB digitB s (i + 1))).size = 1 + runB digitB s (i + 1) := by rw [ByteArray.size_extract]; omega
            have hsz : (s.extract i (i + 1 + runB digitB s (i + 1))).size ≤ 100000000 := by omega
            cases hq2 : longOf (s.extract i (i + 1 + runB digitB s (i + 1))) with
            | none =>
              have hlo := rlong_none σ hsz hT hE hq2
              rw [hq2] at ho
              rw [show oneT s i = none from ho] at hRf
              simp only at hRf
              rw [hP, hRf]
              refine XOA.wr0 rfl (WrA.cE (hlo) rfl) ?_
              rintro _ _ _ ⟨_, ⟨rfl, rfl, rfl⟩, rfl⟩
              refine XOA.cl ?_; refine zA rfl ?_; refine zO rfl (Rd.extract rfl rfl) ?_; refine zO rfl (Rd.extract rfl rfl) ?_; refine zO rfl Rd.asg ?_; refine zO rfl Rd.asg ?_; refine zN (zT (zS (zS (zR (zA rfl ?_))))); refine zO rfl zJ ?_; refine zN (zT (XA.condT rfl rfl (zS (zR (zA rfl ?_)))))
              refine XOA.wr0 rfl (WrA.cE (rF_t σ 7 i) rfl) ?_
              rintro _ _ _ ⟨_, ⟨rfl, rfl, rfl⟩, rfl⟩
              refine XOA.cl ?_; refine zO rfl Rd.asg ?_
              refine XOA.wr0 rfl (WrA.st (tyrow rfl) rfl) ?_
              rintro _ _ _ ⟨rfl, rfl, rfl⟩
              refine zN (zT (XA.ret (DA.thn_ret (DA.inb_ret (DA.thn_ret (DA.inb_ret (DA.thn_ret (DA.inb_ret (DA.thn_ret ?_)))))))))
              exact bodyA.ret (ResA.tcT rfl rfl rfl (Ld.atBlk (tyrow rfl) rfl zL rfl (by first | exact take0 (by first | rfl | assumption | (refine (ints_len _).trans ?_; assumption) | (simp [*]; (first | done | fail))) | assumption | exact take_app (by first | rfl | assumption | (refine (ints_len _).trans ?_; assumption) | (simp [*]; (first | done | fail))) | (conv => lhs; simp only [List.drop_succ_cons, List.drop_zero, List.take_succ_cons, List.take_zero])) (by first | rfl | assumption | (refine (ints_len _).trans ?_; assumption) | (simp [*]; (first | done | fail))))) (Ent.nil _) ⟨_, rfl, PSl.nil _ _ _, .refl _, rfl⟩
            | some m =>
              have hlo := rlong_some σ hsz hT hE hq2
              rw [hq2] at ho
              rw [show oneT s i = some ⟨i, s.extract i (i + 1 + runB digitB s (i + 1)), true, m⟩ from ho] at hRf
              simp only [hz0] at hRf
              rw [← Nat.add_assoc] at hRf
              refine XOA.wr0 rfl (WrA.cE (hlo) rfl) ?_
              rintro _ _ _ ⟨_, ⟨rfl, rfl, rfl⟩, rfl⟩
              refine XOA.cl ?_; refine zA rfl ?_; refine zO rfl (Rd.extract rfl rfl) ?_; refine zO rfl (Rd.extract rfl rfl) ?_; refine zO rfl Rd.asg ?_; refine zO rfl Rd.asg ?_; refine zN (zT (zS (zS (zR (zA rfl ?_))))); refine zO rfl zJ ?_; refine zN (zT (XA.condF rfl rfl (XA.skip (zT (zR (zA rfl ?_))))))
              refine zA rfl ?_; refine zA rfl ?_; refine zA rfl ?_; refine zA rfl ?_; refine zO rfl (Rd.sliceS (tyrow rfl) rfl rfl rfl rfl (by omega) rfl) ?_; refine zA rfl ?_
              refine zO rfl (Rd.bl (fun _ _ => tyrow) rfl rfl rfl) ?_
              refine XOA.wr0 rfl (WrA.bs1 (tyrow rfl) rfl (tyrow rfl)) ?_
              rintro _ _ _ ⟨g119, rfl, rfl, rfl⟩
              refine XOA.wr0 rfl (WrA.ap1 (tyrow rfl) rfl (tyrow rfl) rfl rfl rfl) ?_
              rintro _ _ _ ⟨p120, c120, rfl, rfl, rfl⟩
              refine zO rfl Rd.asg ?_; refine zN (DA.inb_normal (zT (zR (zA rfl ?_)))); refine zO rfl Rd.asg ?_; refine zN (DA.inb_normal (zT ?_))
              refine ⟨(Keep.upd (Keep.upd (Keep.upd (Keep.updO (Keep.updO (Keep.upd (Keep.upd (Keep.upd (Keep.upd (Keep.upd (Keep.upd (Keep.upd (Keep.upd (Keep.upd (Keep.upd (Keep.upd (Keep.upd (Keep.upd (Keep.upd (Keep.upd (Keep.updO (Keep.upd (Keep.upd (Keep.upd (Keep.upd (Keep.upd (Keep.upd (Keep.upd (Keep.upd (Keep.upd (Keep.upd (Keep.upd (Keep.upd (Keep.upd (Keep.upd (Keep.upd (Keep.hav (Keep.hav (Keep.upd (Keep.upd (Keep.upd (Keep.upd (Keep.upd (Keep.updO (Keep.upd (Keep.upd (Keep.updO (Keep.upd (Keep.upd (Keep.upd (Keep.upd (Keep.upd (Keep.upd (Keep.upd (Keep.upd (Keep.upd (Keep.upd (Keep.upd (Keep.upd (Keep.upd (Keep.upd (Keep.upd (Keep.upd (Keep.upd (Keep.upd (Keep.upd (Keep.upd (Keep.upd (Keep.upd (Keep.upd (Keep.upd (Keep.upd (Keep.upd (Keep.upd (Keep.upd (Keep.upd (Keep.upd (Keep.upd (Keep.upd (Keep.upd (Keep.upd (Keep.upd (Keep.upd (Keep.hav (Keep.hav (Keep.hav (Keep.refl _ _) rfl) rfl) rfl) rfl) rfl) rfl) rfl) rfl) rfl) rfl) rfl) rfl) rfl) rfl) rfl) rfl) rfl) rfl) rfl) rfl) rfl) rfl) rfl) rfl) rfl) rfl) rfl) rfl) rfl) rfl) rfl) rfl) rfl) rfl) rfl) rfl) rfl) rfl) rfl) rfl) rfl) rfl) rfl) rfl) rfl) rfl) rfl) rfl) rfl) rfl) rfl) rfl) rfl) rfl) rfl) rfl) rfl) rfl) rfl) rfl) rfl) rfl) rfl) rfl) rfl) rfl) rfl) rfl) rfl) rfl) rfl) rfl) rfl) rfl) rfl) rfl) rfl) rfl) rfl) rfl) rfl) rfl) rfl) rfl) rfl) rfl), ((i + 1 + runB digitB s (i + 1), (n + 1, acc ++ [(⟨i, s.extract i (i + 1 + runB digitB s (i + 1)), true, m⟩ : Tk)])), (p120, c120)), _, zM, ?_, ⟨rfl, by show i + 1 + runB digitB s (i + 1) ≤ s.size; omega, by show n + 1 ≤ i + 1 + runB digitB s (i + 1); omega, by show (acc ++ [(⟨i, s.extract i (i + 1 + runB digitB s (i + 1)), true, m⟩ : Tk)]).length = n + 1; rw [List.length_append, hacc]; rfl, ⟨f, by show s.size < i + 1 + runB digitB s (i + 1) + f; omega, hRf⟩, rfl⟩, (by show s.size - (i + 1 + runB digitB s (i + 1)) < s.size - i; omega)⟩
              · rw [tksC_snoc]; exact zE
        | false =>
          have h45 : byteAt s i = 45 := hd.resolve_left (by rw [hq]; exact Bool.noConfusion)
          rw [hq] at hrd
          have hle := runB_le digitB s (i := i + 1) (by omega)
          have ho : oneT s i = (longOf (s.extract i (i + 1 + runB digitB s (i + 1)))).map fun n => ⟨i, s.extract i (i + 1 + runB digitB s (i + 1)), true, n⟩ := by rw [oneT, if_neg (by omega), if_neg (by rw [hl]; exact Bool.noConfusion), if_pos hd]
          refine zS (zS (zR (zA rfl ?_))); refine zA rfl ?_; refine zO rfl (Rd.lenString (tyrow rfl) rfl rfl) ?_; refine zO rfl (Rd.lss rfl rfl) ?_; refine zN (zT (XA.condT rfl (by first | rfl | exact decide_eq_true (by omega)) ?_)); refine XA.skip (zT (XA.block (zS (zR (zA rfl ?_))))); refine zA rfl ?_
          refine zO rfl (Rd.indexStr (tyrow rfl) rfl rfl rfl (by first | omega | decide | (simp; omega))) ?_
          refine zO rfl Rd.asg ?_; refine zN (zT (zS (zR (zA rfl ?_)))); refine zO rfl zI ?_; refine zO rfl Rd.asg ?_; refine zN (zT (zS (XA.block (zS (zR (zA rfl ?_)))))); refine zO rfl (Rd.eql rfl rfl) ?_; refine zA rfl ?_
          first | (refine zG ?_; refine zA rfl ?_) | refine zH ?_
          first | (refine zG ?_; refine zO rfl (Rd.eql rfl rfl) ?_) | refine zH ?_
          refine zO rfl zP ?_; refine zA rfl ?_
          first | (refine zG ?_; refine zA rfl ?_) | refine zH ?_
          first | (refine zG ?_; refine zO rfl (Rd.eql rfl rfl) ?_) | refine zH ?_
          refine zO rfl zP ?_; refine zA rfl ?_
          first | (refine zG ?_; refine zA rfl ?_) | refine zH ?_
          first | (refine zG ?_; refine zO rfl (Rd.eql rfl rfl) ?_) | refine zH ?_
          refine zO rfl zP ?_; refine zO rfl Rd.asg ?_; refine zN (zT (XA.condF rfl (by first | rfl | exact decide_eq_false (by omega)) ?_)); refine zS (zR (zA rfl ?_)); refine zO rfl (Rd.eql rfl rfl) ?_; refine zA rfl ?_
          first | (refine zG ?_; refine zA rfl ?_) | refine zH ?_
          first | (refine zG ?_; refine zO rfl (Rd.eql rfl rfl) ?_) | refine zH ?_
          refine zO rfl zP ?_; refine zO rfl Rd.asg ?_; refine zN (zT (XA.condF rfl (by first | rfl | exact decide_eq_false (by omega)) ?_)); refine zS (zR (zA rfl ?_))
          refine XOA.wr0 rfl (WrA.cE (hrl) rfl) ?_
          rintro _ _ _ ⟨_, ⟨rfl, rfl, rfl⟩, rfl⟩
          refine XOA.cl ?_; refine zO rfl Rd.asg ?_; refine zN (zT (XA.condF rfl rfl (zS (zR (zA rfl ?_)))))
          refine XOA.wr0 rfl (WrA.cE (hrd) rfl) ?_
          rintro _ _ _ ⟨_, ⟨rfl, rfl, rfl⟩, rfl⟩
          refine XOA.cl ?_; refine zA rfl ?_
          first | (refine zG ?_; refine zA rfl ?_) | refine zH ?_
          first | (refine zG ?_; refine zO rfl (Rd.eql rfl rfl) ?_) | refine zH ?_
          refine zO rfl zP ?_; refine zO rfl Rd.asg ?_; refine zN (zT (XA.condT rfl (by first | rfl | exact decide_eq_true (by omega)) ?_)); refine zS (XA.block ?_)
          refine XA.loop [(7, 7), (87, 98)] (fun j : Nat => [(7, i64 j)]) (fun j σ' Γ' => σ = σ' ∧ i + 1 ≤ j ∧ j ≤ s.size ∧ runB digitB s (i + 1) = runB digitB s j + (j - (i + 1)) ∧ Γ' = [blk g3 [i64 0, i64 0] 28, lst 78 4 (.slice p n c) n (tksC acc)]) (fun j => s.size - j) (i + 1) (by exact ⟨rfl, trivial⟩) (Δ0 := _) ?_ (⟨rfl, Nat.le_refl _, hlt, by rw [Nat.sub_self]; rfl, rfl⟩) ?_
          · exact zE
          rintro j δ2 _ _ ⟨rfl, hj0, hj1, hjr, rfl⟩
          dsimp only [ovr, List.foldl]
          replace hj0 : i + 1 ≤ j := hj0
          replace hj1 : j ≤ s.size := hj1
          replace hjr : runB digitB s (i + 1) = runB digitB s j + (j - (i + 1)) := hjr
          by_cases hjl : j < s.size
          · have hrj := rdigit_t σ (byteAt s j) (byteAt_lt s j)
            rw [runB_eq digitB s j] at hjr
            cases hqj : digitB (byteAt s j) with
            | true =>
              rw [hqj] at hrj
              rw [if_pos ⟨hjl, hqj⟩] at hjr
              refine zS (zS (zR (zA rfl ?_))); refine zA rfl ?_; refine zO rfl (Rd.lenString (tyrow rfl) rfl rfl) ?_; refine zO rfl (Rd.lss rfl rfl) ?_; refine zA rfl ?_
              first | (refine zG ?_; refine zA rfl ?_) | refine zH ?_
              first | (refine zG ?_; refine zA rfl ?_) | refine zH ?_
              first | (refine zG ?_; refine zO rfl (Rd.indexStr (tyrow rfl) rfl rfl rfl (by first | omega | decide | (simp; omega))) ?_) | refine zH ?_
              first | refine XOA.wanted rfl rfl ?_ | refine XOA.wq rfl rfl ?_
              refine XOA.wr0 rfl (WrA.cE (hrj) rfl) ?_
              rintro _ _ _ ⟨_, ⟨rfl, rfl, rfl⟩, rfl⟩
              refine XOA.cl ?_; refine zO rfl zP ?_; refine zN (zT (XA.condT rfl rfl (XA.skip (zT (XA.block (zR (zA rfl ?_))))))); refine zO rfl zI ?_; refine zO rfl Rd.asg ?_; refine zN (DA.inb_normal (zT ?_))
              refine ⟨(Keep.upd (Keep.upd (Keep.upd (Keep.upd (Keep.updO (Keep.upd (Keep.upd (Keep.upd (Keep.upd (Keep.upd (Keep.upd (Keep.upd (Keep.upd (Keep.upd (Keep.hav (Keep.hav (Keep.refl _ _) rfl) rfl) rfl) rfl) rfl) rfl) rfl) rfl) rfl) rfl) rfl) rfl) rfl) rfl) rfl) rfl), j + 1, _, zM, ?_, ⟨rfl, by show i + 1 ≤ j + 1; omega, hjl, by show runB digitB s (i + 1) = runB digitB s (j + 1) + (j + 1 - (i + 1)); omega, rfl⟩, (by omega)⟩
              · exact zE
            | false =>
              rw [hqj] at hrj
              rw [if_neg (fun x => by rw [hqj] at x; exact Bool.noConfusion x.2), Nat.zero_add] at hjr
              refine zS (zS (zR (zA rfl ?_))); refine zA rfl ?_; refine zO rfl (Rd.lenString (tyrow rfl) rfl rfl) ?_; refine zO rfl (Rd.lss rfl rfl) ?_; refine zA rfl ?_
              first | (refine zG ?_; refine zA rfl ?_) | refine zH ?_
              first | (refine zG ?_; refine zA rfl ?_) | refine zH ?_
              first | (refine zG ?_; refine zO rfl (Rd.indexStr (tyrow rfl) rfl rfl rfl (by first | omega | decide | (simp; omega))) ?_) | refine zH ?_
              first | refine XOA.wanted rfl rfl ?_ | refine XOA.wq rfl rfl ?_
              refine XOA.wr0 rfl (WrA.cE (hrj) rfl) ?_
              rintro _ _ _ ⟨_, ⟨rfl, rfl, rfl⟩, rfl⟩
              refine XOA.cl ?_; refine zO rfl zP ?_; refine zN (zT (XA.condF rfl rfl (XA.exit (DA.thn_exit (DA.thn_exit (DA.inb_same (zT (zS (zR (zA rfl ?_)))))))))); refine zA rfl ?_; refine zA rfl ?_
              have hj2 : j = i + 1 + runB digitB s (i + 1) := by omega
              clear hjr
              subst hj2
              refine zO rfl (Rd.sliceS (tyrow rfl) rfl rfl rfl rfl (by omega) rfl) ?_
              have hz0 : (s.extract i (i + 1 + runB digitB s (i + 1))).size = 1 + runB digitB s (i + 1) := by rw [ByteArray.size_extract]; omega
              have hsz : (s.extract i (i + 1 + runB digitB s (i + 1))).size ≤ 100000000 := by omega
              cases hq2 : longOf (s.extract i (i + 1 + runB digitB s (i + 1))) with
              | none =>
                have hlo := rlong_none σ hsz hT hE hq2
                rw [hq2] at ho
                rw [show oneT s i = none from ho] at hRf
                simp only at hRf
                rw [hP, hRf]
                refine XOA.wr0 rfl (WrA.cE (hlo) rfl) ?_
                rintro _ _ _ ⟨_, ⟨rfl, rfl, rfl⟩, rfl⟩
                refine XOA.cl ?_; refine zA rfl ?_; refine zO rfl (Rd.extract rfl rfl) ?_; refine zO rfl (Rd.extract rfl rfl) ?_; refine zO rfl Rd.asg ?_; refine zO rfl Rd.asg ?_; refine zN (zT (zS (zS (zR (zA rfl ?_))))); refine zO rfl zJ ?_; refine zN (zT (XA.condT rfl rfl (zS (zR (zA rfl ?_)))))
                refine XOA.wr0 rfl (WrA.cE (rF_t σ 7 i) rfl) ?_
                rintro _ _ _ ⟨_, ⟨rfl, rfl, rfl⟩, rfl⟩
                refine XOA.cl ?_; refine zO rfl Rd.asg ?_
                refine XOA.wr0 rfl (WrA.st (tyrow rfl) rfl) ?_
                rintro _ _ _ ⟨rfl, rfl, rfl⟩
                refine zN (zT (XA.ret (DA.thn_ret (DA.inb_ret (DA.thn_ret (DA.inb_ret (DA.thn_ret (DA.inb_ret (DA.thn_ret ?_)))))))))
                exact bodyA.ret (ResA.tcT rfl rfl rfl (Ld.atBlk (tyrow rfl) rfl zL rfl (by first | exact take0 (by first | rfl | assumption | (refine (ints_len _).trans ?_; assumption) | (simp [*]; (first | done | fail))) | assumption | exact take_app (by first | rfl | assumption | (refine (ints_len _).trans ?_; assumption) | (simp [*]; (first | done | fail))) | (conv => lhs; simp only [List.drop_succ_cons, List.drop_zero, List.take_succ_cons, List.take_zero])) (by first | rfl | assumption | (refine (ints_len _).trans ?_; assumption) | (simp [*]; (first | done | fail))))) (Ent.nil _) ⟨_, rfl, PSl.nil _ _ _, .refl _, rfl⟩
              | some m =>
                have hlo := rlong_some σ hsz hT hE hq2
                rw [hq2] at ho
                rw [show oneT s i = some ⟨i, s.extract i (i + 1 + runB digitB s (i + 1)), true, m⟩ from ho] at hRf
                simp only [hz0] at hRf
                rw [← Nat.add_assoc] at hRf
                refine XOA.wr0 rfl (WrA.cE (hlo) rfl) ?_
                rintro _ _ _ ⟨_, ⟨rfl, rfl, rfl⟩, rfl⟩
                refine XOA.cl ?_; refine zA rfl ?_; refine zO rfl (Rd.extract rfl rfl) ?_; refine zO rfl (Rd.extract rfl rfl) ?_; refine zO rfl Rd.asg ?_; refine zO rfl Rd.asg ?_; refine zN (zT (zS (zS (zR (zA rfl ?_))))); refine zO rfl zJ ?_; refine zN (zT (XA.condF rfl rfl (XA.skip (zT (zR (zA rfl ?_))))))
                refine zA rfl ?_; refine zA rfl ?_; refine zA rfl ?_; refine zA rfl ?_; refine zO rfl (Rd.sliceS (tyrow rfl) rfl rfl rfl rfl (by omega) rfl) ?_; refine zA rfl ?_
                refine zO rfl (Rd.bl (fun _ _ => tyrow) rfl rfl rfl) ?_
                refine XOA.wr0 rfl (WrA.bs1 (tyrow rfl) rfl (tyrow rfl)) ?_
                rintro _ _ _ ⟨g119, rfl, rfl, rfl⟩
                refine XOA.wr0 rfl (WrA.ap1 (tyrow rfl) rfl (tyrow rfl) rfl rfl rfl) ?_
                rintro _ _ _ ⟨p120, c120, rfl, rfl, rfl⟩
                refine zO rfl Rd.asg ?_; refine zN (DA.inb_normal (zT (zR (zA rfl ?_)))); refine zO rfl Rd.asg ?_; refine zN (DA.inb_normal (zT ?_))
                refine ⟨(Keep.upd (Keep.upd (Keep.upd (Keep.updO (Keep.updO (Keep.upd (Keep.upd (Keep.upd (Keep.upd (Keep.upd (Keep.upd (Keep.upd (Keep.upd (Keep.upd (Keep.upd (Keep.upd (Keep.upd (Keep.upd (Keep.upd (Keep.upd (Keep.updO (Keep.upd (Keep.upd (Keep.upd (Keep.upd (Keep.upd (Keep.updO (Keep.upd (Keep.upd (Keep.upd (Keep.upd (Keep.upd (Keep.upd (Keep.upd (Keep.upd (Keep.upd (Keep.hav (Keep.hav (Keep.upd (Keep.upd (Keep.upd (Keep.upd (Keep.upd (Keep.updO (Keep.upd (Keep.upd (Keep.updO (Keep.upd (Keep.upd (Keep.upd (Keep.upd (Keep.upd (Keep.upd (Keep.upd (Keep.upd (Keep.upd (Keep.upd (Keep.upd (Keep.upd (Keep.upd (Keep.upd (Keep.upd (Keep.upd (Keep.upd (Keep.upd (Keep.upd (Keep.upd (Keep.upd (Keep.upd (Keep.upd (Keep.upd (Keep.upd (Keep.upd (Keep.upd (Keep.upd (Keep.upd (Keep.upd (Keep.upd (Keep.upd (Keep.upd (Keep.upd (Keep.upd (Keep.upd (Keep.hav (Keep.hav (Keep.hav (Keep.refl _ _) rfl) rfl) rfl) rfl) rfl) rfl) rfl) rfl) rfl) rfl) rfl) rfl) rfl) rfl) rfl) rfl) rfl) rfl) rfl) rfl) rfl) rfl) rfl) rfl) rfl) rfl) rfl) rfl) rfl) rfl) rfl) rfl) rfl) rfl) rfl) rfl) rfl) rfl) rfl) rfl) rfl) rfl) rfl) rfl) rfl) rfl) rfl) rfl) rfl) rfl) rfl) rfl) rfl) rfl) rfl) rfl) rfl) rfl) rfl) rfl) rfl) rfl) rfl) rfl) rfl) rfl) rfl) rfl) rfl) rfl) rfl) rfl) rfl) rfl) rfl) rfl) rfl) rfl) rfl) rfl) rfl) rfl) rfl) rfl) rfl) rfl), ((i + 1 + runB digitB s (i + 1), (n + 1, acc ++ [(⟨i, s.extract i (i + 1 + runB digitB s (i + 1)), true, m⟩ : Tk)])), (p120, c120)), _, zM, ?_, ⟨rfl, by show i + 1 + runB digitB s (i + 1) ≤ s.size; omega, by show n + 1 ≤ i + 1 + runB digitB s (i + 1); omega, by show (acc ++ [(⟨i, s.extract i (i + 1 + runB digitB s (i + 1)), true, m⟩ : Tk)]).length = n + 1; rw [List.length_append, hacc]; rfl, ⟨f, by show s.size < i + 1 + runB digitB s (i + 1) + f; omega, hRf⟩, rfl⟩, (by show s.size - (i + 1 + runB digitB s (i + 1)) < s.size - i; omega)⟩
                · rw [tksC_snoc]; exact zE
          · rw [runB_end (fun x => hjl x.1), Nat.zero_add] at hjr
            refine zS (zS (zR (zA rfl ?_))); refine zA rfl ?_; refine zO rfl (Rd.lenString (tyrow rfl) rfl rfl) ?_; refine zO rfl (Rd.lss rfl rfl) ?_; refine zA rfl ?_
            first | (refine zG ?_; refine zA rfl ?_) | refine zH ?_
            first | (refine zG ?_; refine zA rfl ?_) | refine zH ?_
            first | (refine zG ?_; refine zO rfl (Rd.indexStr (tyrow rfl) rfl rfl rfl (by first | omega | decide | (simp; omega))) ?_) | refine zH ?_
            first | refine zH ?_
            refine zO rfl zP ?_; refine zN (zT (XA.condF rfl (by first | rfl | exact decide_eq_false (by omega)) ?_)); refine XA.exit (DA.thn_exit (DA.thn_exit (DA.inb_same (zT (zS (zR (zA rfl ?_))))))); refine zA rfl ?_; refine zA rfl ?_
            have hj2 : j = i + 1 + runB digitB s (i + 1) := by omega
            clear hjr
            subst hj2
            refine zO rfl (Rd.sliceS (tyrow rfl) rfl rfl rfl rfl (by omega) rfl) ?_
            have hz0 : (s.extract i (i + 1 + runB digitB s (i + 1))).size = 1 + runB digitB s (i + 1) := by rw [ByteArray.size_extract]; omega
            have hsz : (s.extract i (i + 1 + runB digitB s (i + 1))).size ≤ 100000000 := by omega
            cases hq2 : longOf (s.extract i (i + 1 + runB digitB s (i + 1))) with
            | none =>
              have hlo := rlong_none σ hsz hT hE hq2
              rw [hq2] at ho
              rw [show oneT s i = none from ho] at hRf
              simp only at hRf
              rw [hP, hRf]
              refine XOA.wr0 rfl (WrA.cE (hlo) rfl) ?_
              rintro _ _ _ ⟨_, ⟨rfl, rfl, rfl⟩, rfl⟩
              refine XOA.cl ?_; refine zA rfl ?_; refine zO rfl (Rd.extract rfl rfl) ?_; refine zO rfl (Rd.extract rfl rfl) ?_; refine zO rfl Rd.asg ?_; refine zO rfl Rd.asg ?_; refine zN (zT (zS (zS (zR (zA rfl ?_))))); refine zO rfl zJ ?_; refine zN (zT (XA.condT rfl rfl (zS (zR (zA rfl ?_)))))
              refine XOA.wr0 rfl (WrA.cE (rF_t σ 7 i) rfl) ?_
              rintro _ _ _ ⟨_, ⟨rfl, rfl, rfl⟩, rfl⟩
              refine XOA.cl ?_; refine zO rfl Rd.asg ?_
              refine XOA.wr0 rfl (WrA.st (tyrow rfl) rfl) ?_
              rintro _ _ _ ⟨rfl, rfl, rfl⟩
              refine zN (zT (XA.ret (DA.thn_ret (DA.inb_ret (DA.thn_ret (DA.inb_ret (DA.thn_ret (DA.inb_ret (DA.thn_ret ?_)))))))))
              exact bodyA.ret (ResA.tcT rfl rfl rfl (Ld.atBlk (tyrow rfl) rfl zL rfl (by first | exact take0 (by first | rfl | assumption | (refine (ints_len _).trans ?_; assumption) | (simp [*]; (first | done | fail))) | assumption | exact take_app (by first | rfl | assumption | (refine (ints_len _).trans ?_; assumption) | (simp [*]; (first | done | fail))) | (conv => lhs; simp only [List.drop_succ_cons, List.drop_zero, List.take_succ_cons, List.take_zero])) (by first | rfl | assumption | (refine (ints_len _).trans ?_; assumption) | (simp [*]; (first | done | fail))))) (Ent.nil _) ⟨_, rfl, PSl.nil _ _ _, .refl _, rfl⟩
            | some m =>
              have hlo := rlong_some σ hsz hT hE hq2
              rw [hq2] at ho
              rw [show oneT s i = some ⟨i, s.extract i (i + 1 + runB digitB s (i + 1)), true, m⟩ from ho] at hRf
              simp only [hz0] at hRf
              rw [← Nat.add_assoc] at hRf
              refine XOA.wr0 rfl (WrA.cE (hlo) rfl) ?_
              rintro _ _ _ ⟨_, ⟨rfl, rfl, rfl⟩, rfl⟩
              refine XOA.cl ?_; refine zA rfl ?_; refine zO rfl (Rd.extract rfl rfl) ?_; refine zO rfl (Rd.extract rfl rfl) ?_; refine zO rfl Rd.asg ?_; refine zO rfl Rd.asg ?_; refine zN (zT (zS (zS (zR (zA rfl ?_))))); refine zO rfl zJ ?_; refine zN (zT (XA.condF rfl rfl (XA.skip (zT (zR (zA rfl ?_))))))
              refine zA rfl ?_; refine zA rfl ?_; refine zA rfl ?_; refine zA rfl ?_; refine zO rfl (Rd.sliceS (tyrow rfl) rfl rfl rfl rfl (by omega) rfl) ?_; refine zA rfl ?_
              refine zO rfl (Rd.bl (fun _ _ => tyrow) rfl rfl rfl) ?_
              refine XOA.wr0 rfl (WrA.bs1 (tyrow rfl) rfl (tyrow rfl)) ?_
              rintro _ _ _ ⟨g119, rfl, rfl, rfl⟩
              refine XOA.wr0 rfl (WrA.ap1 (tyrow rfl) rfl (tyrow rfl) rfl rfl rfl) ?_
              rintro _ _ _ ⟨p120, c120, rfl, rfl, rfl⟩
              refine zO rfl Rd.asg ?_; refine zN (DA.inb_normal (zT (zR (zA rfl ?_)))); refine zO rfl Rd.asg ?_; refine zN (DA.inb_normal (zT ?_))
              refine ⟨(Keep.upd (Keep.upd (Keep.upd (Keep.updO (Keep.updO (Keep.upd (Keep.upd (Keep.upd (Keep.upd (Keep.upd (Keep.upd (Keep.upd (Keep.upd (Keep.upd (Keep.upd (Keep.upd (Keep.upd (Keep.upd (Keep.upd (Keep.upd (Keep.updO (Keep.upd (Keep.upd (Keep.upd (Keep.upd (Keep.upd (Keep.upd (Keep.upd (Keep.upd (Keep.upd (Keep.upd (Keep.upd (Keep.upd (Keep.upd (Keep.upd (Keep.upd (Keep.hav (Keep.hav (Keep.upd (Keep.upd (Keep.upd (Keep.upd (Keep.upd (Keep.updO (Keep.upd (Keep.upd (Keep.updO (Keep.upd (Keep.upd (Keep.upd (Keep.upd (Keep.upd (Keep.upd (Keep.upd (Keep.upd (Keep.upd (Keep.upd (Keep.upd (Keep.upd (Keep.upd (Keep.upd (Keep.upd (Keep.upd (Keep.upd (Keep.upd (Keep.upd (Keep.upd (Keep.upd (Keep.upd (Keep.upd (Keep.upd (Keep.upd (Keep.upd (Keep.upd (Keep.upd (Keep.upd (Keep.upd (Keep.upd (Keep.upd (Keep.upd (Keep.upd (Keep.upd (Keep.upd (Keep.hav (Keep.hav (Keep.hav (Keep.refl _ _) rfl) rfl) rfl) rfl) rfl) rfl) rfl) rfl) rfl) rfl) rfl) rfl) rfl) rfl) rfl) rfl) rfl) rfl) rfl) rfl) rfl) rfl) rfl) rfl) rfl) rfl) rfl) rfl) rfl) rfl) rfl) rfl) rfl) rfl) rfl) rfl) rfl) rfl) rfl) rfl) rfl) rfl) rfl) rfl) rfl) rfl) rfl) rfl) rfl) rfl) rfl) rfl) rfl) rfl) rfl) rfl) rfl) rfl) rfl) rfl) rfl) rfl) rfl) rfl) rfl) rfl) rfl) rfl) rfl) rfl) rfl) rfl) rfl) rfl) rfl) rfl) rfl) rfl) rfl) rfl) rfl) rfl) rfl) rfl) rfl) rfl), ((i + 1 + runB digitB s (i + 1), (n + 1, acc ++ [(⟨i, s.extract i (i + 1 + runB digitB s (i + 1)), true, m⟩ : Tk)])), (p120, c120)), _, zM, ?_, ⟨rfl, by show i + 1 + runB digitB s (i + 1) ≤ s.size; omega, by show n + 1 ≤ i + 1 + runB digitB s (i + 1); omega, by show (acc ++ [(⟨i, s.extract i (i + 1 + runB digitB s (i + 1)), true, m⟩ : Tk)]).length = n + 1; rw [List.length_append, hacc]; rfl, ⟨f, by show s.size < i + 1 + runB digitB s (i + 1) + f; omega, hRf⟩, rfl⟩, (by show s.size - (i + 1 + runB digitB s (i + 1)) < s.size - i; omega)⟩
              · rw [tksC_snoc]; exact zE
      · have ho : oneT s i = none := by rw [oneT, if_neg (by omega), if_neg (by rw [hl]; exact Bool.noConfusion), if_neg hd]
        have hq : digitB (byteAt s i) = false := by
          cases h : digitB (byteAt s i) with
          | true => exact absurd (.inl h) hd
          | false => rfl
        have h45 : ¬ (byteAt s i = 45) := fun h => hd (.inr h)
        rw [hq] at hrd
        rw [ho] at hRf
        simp only at hRf
        rw [hP, hRf]
        refine zS (zS (zR (zA rfl ?_))); refine zA rfl ?_; refine zO rfl (Rd.lenString (tyrow rfl) rfl rfl) ?_; refine zO rfl (Rd.lss rfl rfl) ?_; refine zN (zT (XA.condT rfl (by first | rfl | exact decide_eq_true (by omega)) ?_)); refine XA.skip (zT (XA.block (zS (zR (zA rfl ?_))))); refine zA rfl ?_
        refine zO rfl (Rd.indexStr (tyrow rfl) rfl rfl rfl (by first | omega | decide | (simp; omega))) ?_
        refine zO rfl Rd.asg ?_; refine zN (zT (zS (zR (zA rfl ?_)))); refine zO rfl zI ?_; refine zO rfl Rd.asg ?_; refine zN (zT (zS (XA.block (zS (zR (zA rfl ?_)))))); refine zO rfl (Rd.eql rfl rfl) ?_; refine zA rfl ?_
        first | (refine zG ?_; refine zA rfl ?_) | refine zH ?_
        first | (refine zG ?_; refine zO rfl (Rd.eql rfl rfl) ?_) | refine zH ?_
        refine zO rfl zP ?_; refine zA rfl ?_
        first | (refine zG ?_; refine zA rfl ?_) | refine zH ?_
        first | (refine zG ?_; refine zO rfl (Rd.eql rfl rfl) ?_) | refine zH ?_
        refine zO rfl zP ?_; refine zA rfl ?_
        first | (refine zG ?_; refine zA rfl ?_) | refine zH ?_
        first | (refine zG ?_; refine zO rfl (Rd.eql rfl rfl) ?_) | refine zH ?_
        refine zO rfl zP ?_; refine zO rfl Rd.asg ?_; refine zN (zT (XA.condF rfl (by first | rfl | exact decide_eq_false (by omega)) ?_)); refine zS (zR (zA rfl ?_)); refine zO rfl (Rd.eql rfl rfl) ?_; refine zA rfl ?_
        first | (refine zG ?_; refine zA rfl ?_) | refine zH ?_
        first | (refine zG ?_; refine zO rfl (Rd.eql rfl rfl) ?_) | refine zH ?_
        refine zO rfl zP ?_; refine zO rfl Rd.asg ?_; refine zN (zT (XA.condF rfl (by first | rfl | exact decide_eq_false (by omega)) ?_)); refine zS (zR (zA rfl ?_))
        refine XOA.wr0 rfl (WrA.cE (hrl) rfl) ?_
        rintro _ _ _ ⟨_, ⟨rfl, rfl, rfl⟩, rfl⟩
        refine XOA.cl ?_; refine zO rfl Rd.asg ?_; refine zN (zT (XA.condF rfl rfl (zS (zR (zA rfl ?_)))))
        refine XOA.wr0 rfl (WrA.cE (hrd) rfl) ?_
        rintro _ _ _ ⟨_, ⟨rfl, rfl, rfl⟩, rfl⟩
        refine XOA.cl ?_; refine zA rfl ?_
        first | (refine zG ?_; refine zA rfl ?_) | refine zH ?_
        first | (refine zG ?_; refine zO rfl (Rd.eql rfl rfl) ?_) | refine zH ?_
        refine zO rfl zP ?_; refine zO rfl Rd.asg ?_; refine zN (zT (XA.condF rfl (by first | rfl | exact decide_eq_false (by omega)) ?_)); refine zS (zR (zA rfl ?_))
        refine XOA.wr0 rfl (WrA.cE (rF_t σ 7 i) rfl) ?_
        rintro _ _ _ ⟨_, ⟨rfl, rfl, rfl⟩, rfl⟩
        refine XOA.cl ?_; refine zO rfl Rd.asg ?_
        refine XOA.wr0 rfl (WrA.st (tyrow rfl) rfl) ?_
        rintro _ _ _ ⟨rfl, rfl, rfl⟩
        refine zN (zT (XA.ret (DA.inb_ret (DA.thn_ret (DA.inb_ret (DA.thn_ret (DA.inb_ret (DA.thn_ret ?_))))))))
        exact bodyA.ret (ResA.tcT rfl rfl rfl (Ld.atBlk (tyrow rfl) rfl zL rfl (by first | exact take0 (by first | rfl | assumption | (refine (ints_len _).trans ?_; assumption) | (simp [*]; (first | done | fail))) | assumption | exact take_app (by first | rfl | assumption | (refine (ints_len _).trans ?_; assumption) | (simp [*]; (first | done | fail))) | (conv => lhs; simp only [List.drop_succ_cons, List.drop_zero, List.take_succ_cons, List.take_zero])) (by first | rfl | assumption | (refine (ints_len _).trans ?_; assumption) | (simp [*]; (first | done | fail))))) (Ent.nil _) ⟨_, rfl, PSl.nil _ _ _, .refl _, rfl⟩
  · have hRe : R = .ok acc := by
      rw [hRf]
      cases f with
      | zero => rfl
      | succ f => rw [scanB, if_neg hlt]
    refine zS (zS (zR (zA rfl ?_))); refine zA rfl ?_; refine zO rfl (Rd.lenString (tyrow rfl) rfl rfl) ?_; refine zO rfl (Rd.lss rfl rfl) ?_; refine zN (zT (XA.condF rfl (by first | rfl | exact decide_eq_false (by omega)) ?_))
    refine XA.exit (DA.thn_exit (DA.thn_exit (DA.inb_same (zT (zS (zR (zA rfl ?_)))))))
    refine zO rfl (Rd.bl (fun _ _ => tyrow) rfl rfl rfl) ?_
    refine zO rfl Rd.asg ?_
    refine XOA.wr0 rfl (WrA.st (tyrow rfl) rfl) ?_
    rintro _ _ _ ⟨rfl, rfl, rfl⟩
    refine zN (zT (XA.ret ?_))
    refine DA.frz (R := lst 78 4 (.slice p n c) _ _) zL lst_frz lst_frz_mono ?_
    rintro σ1 ⟨⟩ hf1 hs1
    rw [hP, hRe]
    exact bodyA.ret (ResA.tcT rfl rfl rfl (Ld.atBlk (tyrow rfl) rfl zL rfl (by first | exact take0 (by first | rfl | assumption | (refine (ints_len _).trans ?_; assumption) | (simp [*]; (first | done | fail))) | assumption | exact take_app (by first | rfl | assumption | (refine (ints_len _).trans ?_; assumption) | (simp [*]; (first | done | fail))) | (conv => lhs; simp only [List.drop_succ_cons, List.drop_zero, List.take_succ_cons, List.take_zero])) (by first | rfl | assumption | (refine (ints_len _).trans ?_; assumption) | (simp [*]; (first | done | fail))))) (Ent.nil _) ⟨_, rfl, (rows_tk σ1 acc).psl hacc.symm hf1, hs1, rfl⟩
end Go.Proofs.YthefnnkmpcgcmaaGreatDoor

namespace Go.Proofs.YthefnnkmpcgcmaaGreatDoor
open Go X
set_option maxHeartbeats 2000000
section
variable {ρ : Env} {S : Heap → Prop} {ty : TypeId}
theorem X.run_equal_fault {a b c d : Int} (w : World) : (Op.equalIn 10000 28 (.agg #[i64 a, i64 b]) (.agg #[i64 c, i64 d])).run Tryz.prog w = .ok (decide (a = c ∧ b = d)) w := by
  have hI : tyOf Tryz.prog 3 = some _ := tyrow rfl
  obtain ⟨dd', ii', z', e1', e2', -⟩ := tyOf_spec hI
  cases dd' <;> simp [kindOf, ty3] at e2'
  have hu : Tryz.prog.underlying 28 = some (.struct (Tryz.prog.fieldsOf 28)) := by kernel_rfl
  have hf : (Tryz.prog.fieldsOf 28).toList.map (fun f => (f.name, f.type, f.offset)) = [("Code", 3, 0), ("At", 3, 1)] := by kernel_rfl
  obtain ⟨f1, f2, hf2⟩ := list2 (l := (Tryz.prog.fieldsOf 28).toList) (by simpa using congrArg List.length hf)
  rw [hf2] at hf
  simp only [List.map_cons, List.map_nil, List.cons.injEq, Prod.mk.injEq, and_true] at hf
  obtain ⟨⟨n1, t1, o1⟩, n2, t2, o2⟩ := hf
  rw [run_equalIn_agg w 9999 _ _ _ hu (by kernel_rfl), hf2]
  have hb : ∀ (w : World), (isAgg 3).run Tryz.prog w = .ok false w := fun w => by unfold isAgg; rw [Sem.run_bind, run_underlying e1' w]; rfl
  have q2 := fun x y => run_equalIn_int (P := Tryz.prog) w 9998 3 .i64 _ x y e1'
  simp [Op.eqFields, part, hb, q2, n1, n2, t1, t2, o1, o2]
  by_cases h1 : a = c
  · by_cases h2 : b = d <;> simp [h1, h2]
  · simp [h1]
end
end Go.Proofs.YthefnnkmpcgcmaaGreatDoor

namespace Go.Proofs.YthefnnkmpcgcmaaGreatDoor
open Go X
def tkey (t : Tk) : ByteArray × Bool × Int := (t.text, t.num, t.n)
end Go.Proofs.YthefnnkmpcgcmaaGreatDoor

namespace Go.Proofs.YthefnnkmpcgcmaaGreatDoor
open Go X
def Eqv (l l' : List Tk) : Prop := l.map tkey = l'.map tkey
theorem Eqv.length {l l' : List Tk} (h : Eqv l l') : l.length = l'.length := by simpa using congrArg List.length h
section
variable {vl : List Va} {e e' : Int}
end
end Go.Proofs.YthefnnkmpcgcmaaGreatDoor

namespace Go.Proofs.YthefnnkmpcgcmaaGreatDoor
open Go X
set_option maxHeartbeats 2000000
section
variable {P : Program} {N : Nat} {fn : Func} {σ : PH} {Γ : List HP}
/-- A closure that recovers first, of two captured variables. -/
theorem X.CallsDA.recovers2 {f : FuncId} {rest : Code} {id : Nat} {d1 d2 : Nat} {t1 t2 : TypeId} {s1 s2 : String} {a1 a2 : Array Edge} {ats : Array TypeId} {x0 x1 : Value} {u : FrameMode} {R : FrameMode → PH → List HP → Prop}
    (hf : P.funcs[f]? = some fn) (hb : fn.body = some (.seq (.region id #[⟨some d1, .call { callee := .builtin .recover, args := #[], argTypes := ats }, t1, s1, a1, none⟩, ⟨some d2, .assign (.tmp d1), t2, s2, a2, none⟩] false) rest)) (hN : Nat.ble 2 fn.ntmps = true)
    (hd1 : Nat.blt d1 fn.ntmps = true) (hd2 : Nat.blt d2 fn.ntmps = true) (hx : XA P fn.ntmps rest (upd (upd (upd (upd U 0 x0) 1 x1) d1 (recv u).1) d2 (recv u).1) σ Γ (bodyA P fn (RetA fun _ σ' Γ' => R (recv u).2 σ' Γ'))) :
    CallsDA P f #[x0, x1] u σ Γ R := fun fr h hh w hw => by
  refine (calls_recovers (vs := #[x0, x1]) (ρ0 := upd (upd U 0 x0) 1 x1) hf hb hN (fun s => match s with
    | 0 => rfl
    | 1 => rfl
    | s + 2 => by rw [show (#[x0, x1] : Array Value).getD (s + 2) undef = undef from by simp, upd_ne _ _ _ _ (by omega), upd_ne _ _ _ _ (by omega)]) hd1 hd2 (XA.toX hx hh) w hw).mono ?_
  rintro e u' w' ⟨rfl, a, σ', Γ', b, c⟩
  cases e with
  | returned v => exact ⟨a, ⟨v, rfl⟩, σ', Γ', b, c⟩
  | _ => exact b.elim
/-- Only a return is looked at. -/
def onlyRet (K : KA) : KA
  | .ret, ρ, σ, Γ => K .ret ρ σ Γ
  | _, _, _, _ => False
theorem X.XFA.of {c : Code} {ρ : Env} {next : Env → PH → List HP → Prop} {K : KA} (hx : XA P N c ρ σ Γ (thnA next (onlyRet K))) : XFA P N c ρ σ Γ (thnA next K) := by
  refine ⟨fun f h hh => ⟨fun w0 a w hs hw he => wp_mono ((hx.out f h hh).out w0 a w hs hw he) ?_⟩⟩
  rintro e a' w' ⟨h1, h2, ρ', h3, σ', Γ', hk, hh'⟩
  cases e with
  | normal => exact ⟨h1, h2, ρ', h3, σ', Γ', hk, hh'⟩
  | ret => exact ⟨h1, h2, ρ', h3, σ', Γ', hk, hh'⟩
  | _ => exact hk.elim
theorem X.XFA.ofEnd {c : Code} {ρ : Env} {K : KA} (hx : XA P N c ρ σ Γ (onlyRet K)) : XFA P N c ρ σ Γ K := by
  refine ⟨fun f h hh => ⟨fun w0 a w hs hw he => wp_mono ((hx.out f h hh).out w0 a w hs hw he) ?_⟩⟩
  rintro e a' w' ⟨h1, h2, ρ', h3, σ', Γ', hk, hh'⟩
  cases e with
  | ret => exact ⟨h1, h2, ρ', h3, σ', Γ', hk, hh'⟩
  | _ => exact hk.elim
end
theorem X.Rd.tassertS {P : Program} {ρ : Env} {S : Heap → Prop} {ty T I : TypeId} {x : Operand} {v : Value} {r : Ty} {fs : List (TypeId × Nat)} (hT : tyOf P T = some r) (hk : r.k = .struct fs) (hx : ev ρ x = .iface T v) : Rd P ρ S (.typeAssert x I T true) ty (.tuple #[v, .bool true]) := by
  refine .pure fun d pos af g w => ?_
  obtain ⟨dd, i, z, e1, e2, -⟩ := tyOf_spec hT
  rw [hk] at e2
  cases dd <;> simp [kindOf] at e2
  simp [execOp, Instr.typeAssert, run_underlying e1, hx]
theorem any_if2 : ∃ ms, Tryz.prog.underlying 20 = some (.interface ms) := ⟨#[], by kernel_rfl⟩
theorem precov_n (σ : PH) (ga gb : Nat) : CallsDA Tryz.prog 13 #[ptr ga, ptr gb] .returning σ [] (fun u' σ' Γ' => settle u' = .returning ∧ σ = σ' ∧ Γ' = []) := by
  refine CallsDA.recovers2 Tryz.func13 rfl rfl rfl rfl ?_
  dsimp only [recv]
  refine zS (zR (zA rfl ?_)); refine zO rfl (Rd.neqIfF any_if2.choose_spec rfl) ?_; refine zN (zT (XA.condF rfl rfl (XA.skip ?_)))
  exact bodyA.normal (ResA.none rfl) zE ⟨rfl, rfl, rfl⟩
theorem precov_p (σ : PH) (ga gb : Nat) (x : Int × Int) (r0 r1 : List Value) (hr0 : r0.length = 2) (hr1 : r1.length = 2) : CallsDA Tryz.prog 13 #[ptr ga, ptr gb] (.panicking (goneP x)) σ [blk ga r0 26, blk gb r1 28]
    (fun u' σ' Γ' => settle u' = .returning ∧ σ = σ' ∧ Γ' = [blk ga [.slice none 0 0, .slice none 0 0] 26, blk gb [i64 x.1, i64 x.2] 28]) := by
  refine CallsDA.recovers2 Tryz.func13 rfl rfl rfl rfl ?_
  dsimp only [recv, goneP]
  have hspl : splice r0 0 [.slice none 0 0, .slice none 0 0] = [.slice none 0 0, .slice none 0 0] := splice_all hr0
  have hspl2 : splice r1 0 [i64 x.1, i64 x.2] = [i64 x.1, i64 x.2] := splice_all hr1
  have hfit : 0 + ty26.size ≤ r0.length := by rw [hr0]; exact Nat.le_refl _
  have hfit2 : ∀ _ : Unit, 0 + ty28.size ≤ r1.length := fun _ => by rw [hr1]; exact Nat.le_refl _
  refine zS (zR (zA rfl ?_)); refine zO rfl (Rd.neqIfT any_if2.choose_spec rfl) ?_; refine zN (zT (XA.condT rfl rfl (zS (zR (zA rfl ?_))))); refine zO rfl (X.Rd.tassertS (tyrow rfl) rfl rfl) ?_; refine zA rfl ?_; refine zO rfl (Rd.extract rfl rfl) ?_; refine zO rfl (Rd.extract rfl rfl) ?_
  refine XOA.wr0 rfl (WrA.alloc (tyrow rfl)) ?_
  rintro _ _ _ ⟨g3, rfl, rfl, rfl⟩
  refine XOA.wr0 rfl (WrA.st (tyrow rfl) rfl) ?_
  rintro _ _ _ ⟨rfl, rfl, rfl⟩
  refine zO rfl Rd.asg ?_; refine zN (zT (zS (zS (zR (zA rfl ?_))))); refine zO rfl zJ ?_; refine zN (zT (XA.condF rfl rfl (XA.skip (zT ?_))))
  refine XA.draw (by kernel_rfl) _ _ [3] [(0, .pu), (1, .rd), (2, .wr), (3, .wr)] (by kernel_rfl) (PH.sub.refl _) (Ent.sel (R := blk g3 _ _) zL (Ent.nil _)) ?_
  refine XPA.pu rfl rfl Gd.free (Rd.bl (fun _ _ => tyrow) rfl rfl rfl) ?_
  refine XPA.rd rfl rfl Gd.free (Rd.ldA rfl) ?_
  refine XPA.wr0 rfl rfl Gd.free (WrA.st (tyrow rfl) rfl) ?_
  rintro _ _ _ ⟨rfl, rfl, rfl⟩
  refine stays ?_
  refine XPA.wrZ0 rfl rfl Gd.free (by kernel_rfl) (WrA.st (tyrow rfl) rfl) ?_
  rintro _ _ _ ⟨rfl, rfl, rfl⟩
  refine XPA.nil ?_
  exact bodyA.normal (ResA.none rfl) zE ⟨rfl, rfl, rfl⟩
end Go.Proofs.YthefnnkmpcgcmaaGreatDoor

namespace Go.Proofs.YthefnnkmpcgcmaaGreatDoor
open Go X
set_option maxHeartbeats 2000000
theorem X.CallsDA.conv2 {P : Program} {f : FuncId} {vs : Array Value} {u : FrameMode} {σ : PH} {Γ Γ0 Δ : List HP} {R R' : FrameMode → PH → List HP → Prop} (hc : CallsDA P f vs u σ Γ0 R) (he : Ent Γ (Γ0 ++ Δ))
    (k : ∀ u' σ' Γ' fr h, R u' σ' Γ' → Holds σ' (Γ' ++ Δ) fr h → ∃ σ2 Γ2, R' u' σ2 Γ2 ∧ Holds σ2 Γ2 fr h) : CallsDA P f vs u σ Γ R' := fun fr h hh w hw => by
  obtain ⟨f', a, b⟩ := (hh.ent he).aside
  refine (hc f' h a w hw).mono ?_
  rintro e u' w' ⟨h1, h2, σ', Γ', h3, h4⟩
  obtain ⟨σ2, Γ2, h5, h6⟩ := k u' σ' Γ' fr w'.heap h3 (b _ _ _ h4)
  exact ⟨h1, h2, σ2, Γ2, h5, h6⟩
theorem X.XFOA.wr {P : Program} {N : Nat} {ρ : Env} {σ : PH} {Γ : List HP} {K : KA} {all : Array Oper} {rest : List Oper} {ty : TypeId} {pos : String} {af : Array Edge} {d : Option Nat} {op : Op} {R : Value → PH → List HP → Prop} (hd : dstOk N d = true) (hr : WrA P ρ σ Γ op ty R noPA) (k : ∀ v σ' Γ', R v σ' Γ' → XFOA P N all rest (updO ρ d v) σ' Γ' K) :
    XFOA P N all (⟨d, op, ty, pos, af, none⟩ :: rest) ρ σ Γ K :=
  ⟨fun fr h hh => XFO.wr hd (hr.out fr h hh) (fun v h' ⟨σ', Γ', a, b⟩ => (k v σ' Γ' a).out fr h' b) (fun _ _ ⟨_, _, h, _⟩ => h.elim)⟩
theorem X.ResA.cc {P : Program} {ρ : Env} {σ : PH} {Γ : List HP} {fn : Func} {t1 t2 : Tmp} {T1 T2 : TypeId} {g1 o1 g2 o2 : Nat} {v1 v2 : Value} (hf : fn.results = #[.cell t1 T1, .cell t2 T2]) (h1 : ρ t1 = .pointer (some ⟨g1, o1, Option.none⟩)) (h2 : ρ t2 = .pointer (some ⟨g2, o2, Option.none⟩))
    (l1 : ∀ h, Ho σ Γ h → Ld P h T1 g1 o1 v1) (l2 : ∀ h, Ho σ Γ h → Ld P h T2 g2 o2 v2) : ResA P fn ρ σ Γ (.tuple #[v1, v2]) := fun h hh w a hw he => by
  have e1 := he.get t1; rw [h1] at e1; simp at e1
  have e2 := he.get t2; rw [h2] at e2; simp at e2
  simp [results, hf, e1, e2, asAddr, l1 h hh w hw, l2 h hh w hw]
theorem enterD1 {P : Program} {σ : PH} {Γ : List HP} {fn : Func} {RR : Ending → PH → List HP → Prop} {f : FuncId} {co : Code} {a : Value} (hf : P.funcs[f]? = some fn) (hb : fn.body = some co) (hn : goodName fn = true) (hN : Nat.ble 1 fn.ntmps = true) (hx : XTA P fn co (upd U 0 a) σ Γ RR) : CallsA P f #[a] σ Γ RR :=
  ⟨enters hf hb hn, fun fr h hh => enterD hf hb hn hN (fun s => match s with
    | 0 => rfl
    | s + 1 => by rw [show (#[a] : Array Value).getD (s + 1) undef = undef from by simp, upd_ne _ _ _ _ (by omega)]) (hx.out fr h hh)⟩
theorem scanG_len {s : ByteArray} : ∀ (f i : Nat) (acc l : List Tk), scanG s f i acc = .ok l → i ≤ s.size → l.length ≤ acc.length + (s.size - i)
  | 0, i, acc, l, h, hi => by cases h; omega
  | f + 1, i, acc, l, h, hi => by
    rw [scanG] at h
    split at h
    · rename_i hi
      split at h
      · rename_i t ht
        obtain ⟨h1, h2, h3⟩ := oneT_size hi ht
        have hle := runB_le blankB s (i := i + t.text.size) h3
        have := scanG_len f _ _ l h hle
        rw [List.length_append, List.length_singleton] at this
        omega
      · cases h
    · cases h; omega
theorem scanP_len {s : ByteArray} {l : List Tk} (h : scanP s = .ok l) : l.length ≤ s.size := by
  have h0 := (scanP_ok h).1
  rw [scanP, if_neg (by omega)] at h
  have hle := runB_le blankB s (i := 0) (by omega)
  cases hl : scanG s (s.size + 1) (runB blankB s 0) [] with
  | ok l' => rw [hl] at h; cases h; have := scanG_len _ _ _ _ hl (by omega); simp only [List.length_nil] at this; omega
  | error i => rw [hl] at h; cases h
def parseP (s : ByteArray) : PErr Pr := match scanP s with
  | .error x => .error x
  | .ok l => match progP s.size l with
    | .error x => .error x
    | .ok (pr, _) => if checkP pr ≠ 0 then .error (checkP pr, -1) else .ok pr
def okPr : PErr Pr → Pr
  | .error _ => ⟨[], []⟩
  | .ok p => p
theorem pr_none (σ : PH) : PrAt σ [.slice none 0 0, .slice none 0 0] ⟨[], []⟩ := ⟨_, _, rfl, PSl.nil _ _ _, PSl.nil _ _ _⟩
def ParsePost (s : ByteArray) (σ : PH) : Value → PH → List HP → Prop := fun v σ' Γ' => ∃ cs, v = .tuple #[.agg (List.toArray cs), .agg #[i64 (errC (parseP s)), i64 (errA (parseP s))]] ∧ PrAt σ' cs (okPr (parseP s)) ∧ σ.sub σ' ∧ Γ' = []
theorem parse_p (σ : PH) (s : ByteArray) (hs : s.size ≤ 100000000) (hT : Tab σ) (hE : Errs σ) : CallsA Tryz.prog 5 #[.string s] σ [] (RetA (ParsePost s σ)) := by
  have hsc := scan_t σ s hs hT hE
  cases hR : scanP s with
  | error x =>
    obtain ⟨x1, x2⟩ := x
    have he : ¬ (x1 = 0) := by
      have h := hR
      rw [scanP] at h
      split at h
      · cases h; decide
      · cases hl : scanG s (s.size + 1) (runB blankB s 0) [] with
        | ok l' => rw [hl] at h; cases h
        | error i => rw [hl] at h; cases h; decide
    have hp : parseP s = .error (x1, x2) := by rw [parseP, hR]
    rw [hR] at hsc
    replace hsc : CallsA Tryz.prog 12 #[.string s] σ [] (RetA fun v σ' Γ' => ∃ sl, v = .tuple #[sl, .agg #[i64 x1, i64 x2]] ∧ PSl 4 rTk σ' sl [] ∧ σ.sub σ' ∧ Γ' = []) := hsc
    refine enterD1 Tryz.func5 rfl rfl rfl ?_
    refine XTA.seq ?_
    refine zR ?_
    refine XOA.wr0 rfl (WrA.alloc (tyrow rfl)) ?_
    rintro _ _ _ ⟨g2, rfl, rfl, rfl⟩
    refine XOA.wr0 rfl (WrA.alloc (tyrow rfl)) ?_
    rintro _ _ _ ⟨g3, rfl, rfl, rfl⟩
    refine zN (zT ?_)
    refine XTA.seq ?_
    refine zR (zA rfl ?_)
    refine XOA.wr0 rfl (WrA.cE (hsc) rfl) ?_
    rintro _ σ1 _ ⟨_, ⟨sl, rfl, hl, hs1, rfl⟩, rfl⟩
    refine XOA.cl ?_; refine zA rfl ?_; refine zO rfl (Rd.extract rfl rfl) ?_; refine zO rfl (Rd.extract rfl rfl) ?_; refine zO rfl Rd.asg ?_
    refine XOA.wr0 rfl (WrA.st (tyrow rfl) rfl) ?_
    rintro _ _ _ ⟨rfl, rfl, rfl⟩
    refine zN (zT ?_)
    refine XTA.seq ?_
    refine zS (zR (zV rfl rfl ?_)); refine zB rfl rfl (tyrow rfl) rfl ?_; refine zO rfl (Rd.neq rfl rfl) ?_; refine zN (zT (XA.condT rfl (by first | rfl | exact decide_eq_true he) ?_)); refine zS ?_
    refine XA.draw (by kernel_rfl) _ _ [3] [(0, .rd), (1, .rd), (2, .wr), (3, .wr)] (by kernel_rfl) (PH.sub.refl _) (Ent.sel (R := blk g2 _ _) zL (Ent.sel (R := blk g3 _ _) zL (Ent.nil _))) ?_
    refine XPA.rd rfl rfl Gd.free (Rd.ldA rfl) ?_; refine XPA.rd rfl rfl Gd.free (Rd.ldA rfl) ?_
    refine XPA.wr0 rfl rfl Gd.free (WrA.st (tyrow rfl) rfl) ?_
    rintro _ _ _ ⟨rfl, rfl, rfl⟩
    refine stays ?_
    refine XPA.wrZ0 rfl rfl Gd.free (by kernel_rfl) (WrA.st (tyrow rfl) rfl) ?_
    rintro _ _ _ ⟨rfl, rfl, rfl⟩
    refine XPA.nil ?_; refine zT (XA.ret (DA.thn_ret ?_))
    exact bodyA.ret (X.ResA.cc rfl rfl rfl (Ld.atBlk (tyrow rfl) rfl zL rfl (by first | exact take0 (by first | rfl | assumption | (refine (ints_len _).trans ?_; assumption) | (simp [*]; (first | done | fail))) | assumption | exact take_app (by first | rfl | assumption | (refine (ints_len _).trans ?_; assumption) | (simp [*]; (first | done | fail))) | (conv => lhs; simp only [List.drop_succ_cons, List.drop_zero, List.take_succ_cons, List.take_zero])) (by first | rfl | assumption | (refine (ints_len _).trans ?_; assumption) | (simp [*]; (first | done | fail)))) (Ld.atBlk (tyrow rfl) rfl zL rfl (by first | exact take0 (by first | rfl | assumption | (refine (ints_len _).trans ?_; assumption) | (simp [*]; (first | done | fail))) | assumption | exact take_app (by first | rfl | assumption | (refine (ints_len _).trans ?_; assumption) | (simp [*]; (first | done | fail))) | (conv => lhs; simp only [List.drop_succ_cons, List.drop_zero, List.take_succ_cons, List.take_zero])) (by first | rfl | assumption | (refine (ints_len _).trans ?_; assumption) | (simp [*]; (first | done | fail))))) (Ent.nil _) ⟨_, by rw [hp]; rfl, by rw [hp]; exact pr_none _, hs1, rfl⟩
  | ok l =>
    obtain ⟨h6, hok⟩ := scanP_ok hR
    have hF : ∀ t ∈ l, TkF t := fun t ht => ⟨by have := (hok t ht).size; simp only [maxLen]; omega, (hok t ht).num⟩
    have hL : l.length ≤ 10000 := by
      have := scanP_len hR
      omega
    rw [hR] at hsc
    replace hsc : CallsA Tryz.prog 12 #[.string s] σ [] (RetA fun v σ' Γ' => ∃ sl, v = .tuple #[sl, .agg #[i64 0, i64 0]] ∧ PSl 4 rTk σ' sl l ∧ σ.sub σ' ∧ Γ' = []) := hsc
    refine enterD1 Tryz.func5 rfl rfl rfl ?_
    refine XTA.seq ?_
    refine zR ?_
    refine XOA.wr0 rfl (WrA.alloc (tyrow rfl)) ?_
    rintro _ _ _ ⟨g2, rfl, rfl, rfl⟩
    refine XOA.wr0 rfl (WrA.alloc (tyrow rfl)) ?_
    rintro _ _ _ ⟨g3, rfl, rfl, rfl⟩
    refine zN (zT ?_)
    refine XTA.seq ?_
    refine zR (zA rfl ?_)
    refine XOA.wr0 rfl (WrA.cE (hsc) rfl) ?_
    rintro _ σ1 _ ⟨_, ⟨sl, rfl, hl, hs1, rfl⟩, rfl⟩
    refine XOA.cl ?_
    obtain ⟨p, c, rfl, hc0, hc1⟩ := hl.shape
    refine zA rfl ?_; refine zO rfl (Rd.extract rfl rfl) ?_; refine zO rfl (Rd.extract rfl rfl) ?_; refine zO rfl Rd.asg ?_
    refine XOA.wr0 rfl (WrA.st (tyrow rfl) rfl) ?_
    rintro _ _ _ ⟨rfl, rfl, rfl⟩
    refine zN (zT ?_)
    refine XTA.seq ?_
    refine zS (zR (zV rfl rfl ?_)); refine zB rfl rfl (tyrow rfl) rfl ?_; refine zO rfl (Rd.neq rfl rfl) ?_; refine zN (zT ?_)
    refine XA.condF rfl (by first | rfl | exact decide_eq_false (fun h => h rfl)) ?_
    refine XA.skip (zT ?_)
    refine XTA.defer (caps := #[ptr g2, ptr g3]) (enters Tryz.func13 rfl rfl) rfl (by simp only [List.map_toArray, List.map_cons, List.map_nil]) ?_
    refine XFA.seq ?_
    refine X.XFA.of ?_
    refine zR (zA rfl ?_); refine zA rfl ?_
    refine zO rfl (Rd.lenString (tyrow rfl) rfl rfl) ?_
    refine zO rfl (Rd.bl (fun _ _ => tyrow) rfl rfl rfl) ?_
    refine XOA.wr0 rfl (WrA.bx rfl) ?_
    rintro _ _ _ ⟨gp, rfl, rfl, rfl⟩
    refine zO rfl Rd.asg ?_
    refine zN (zT ?_)
    have hprog := program_p σ1 gp p c s.size l hl hF hL
    show XFA _ _ _ _ _ _ _
    refine XFA.seq ?_
    refine XFA.region ?_
    refine XFOA.rd rfl (Rd.move rfl) ?_
    cases hP : progP s.size l with
    | error x =>
      have hp : parseP s = .error x := by rw [parseP, hR]; simp only; rw [hP]
      have hbad : CallsA Tryz.prog 14 #[ptr gp] σ1 [blk gp [.slice p l.length c, i64 s.size, .slice none 0 0] 46] (PanA fun ch σ' Γ' => ch = goneP x ∧ σ1.sub σ' ∧ ∃ cs, Γ' = [blk gp cs 46]) := by
        refine hprog.mono fun en σ' Γ' hr => ?_
        cases en with
        | returned v => obtain ⟨x', l'', h1, -⟩ := hr; rw [hP] at h1; cases h1
        | panicked ch => obtain ⟨x', h1, h2⟩ := hr; rw [hP] at h1; cases h1; exact h2
        | outgrown => exact False.elim hr
      refine XFOA.die rfl hbad rfl zD ?_
      rintro _ σ2 _ ⟨rfl, hs2, cb, rfl⟩
      show CallsDA _ _ _ _ _ _ _
      refine X.CallsDA.conv2 (precov_p σ2 g2 g3 x _ _ rfl rfl) (Δ := []) zE ?_
      rintro u' σ' Γ' fr h ⟨hu, rfl, rfl⟩ hh
      simp only [List.cons_append, List.nil_append] at hh
      refine ⟨_, _, ?_, hh⟩
      refine ⟨hu, _, X.ResA.cc rfl rfl rfl (Ld.atBlk (tyrow rfl) rfl zL rfl (by first | exact take0 (by first | rfl | assumption | (refine (ints_len _).trans ?_; assumption) | (simp [*]; (first | done | fail))) | assumption | exact take_app (by first | rfl | assumption | (refine (ints_len _).trans ?_; assumption) | (simp [*]; (first | done | fail))) | (conv => lhs; simp only [List.drop_succ_cons, List.drop_zero, List.take_succ_cons, List.take_zero])) (by first | rfl | assumption | (refine (ints_len _).trans ?_; assumption) | (simp [*]; (first | done | fail)))) (Ld.atBlk (tyrow rfl) rfl zL rfl (by first | exact take0 (by first | rfl | assumption | (refine (ints_len _).trans ?_; assumption) | (simp [*]; (first | done | fail))) | assumption | exact take_app (by first | rfl | assumption | (refine (ints_len _).trans ?_; assumption) | (simp [*]; (first | done | fail))) | (conv => lhs; simp only [List.drop_succ_cons, List.drop_zero, List.take_succ_cons, List.take_zero])) (by first | rfl | assumption | (refine (ints_len _).trans ?_; assumption) | (simp [*]; (first | done | fail)))), [], Ent.nil _, ?_⟩
      exact ⟨_, by rw [hp]; rfl, by rw [hp]; exact pr_none _, hs1.trans hs2, rfl⟩
    | ok y =>
      obtain ⟨pr, l'⟩ := y
      have hgood : CallsA Tryz.prog 14 #[ptr gp] σ1 [blk gp [.slice p l.length c, i64 s.size, .slice none 0 0] 46] (RetA fun v σ' Γ' => ∃ cs, v = .agg (List.toArray cs) ∧ PrAt σ' cs pr ∧ σ1.sub σ' ∧ ∃ cb, Γ' = [blk gp cb 46]) := by
        refine hprog.mono fun en σ' Γ' hr => ?_
        cases en with
        | returned v => obtain ⟨x', l'', h1, h2⟩ := hr; rw [hP] at h1; cases h1; exact h2
        | panicked ch => obtain ⟨x', h1, -⟩ := hr; rw [hP] at h1; cases h1
        | outgrown => exact False.elim hr
      refine XFOA.call rfl hgood rfl zD ?_
      rintro _ σ2 _ ⟨cs, rfl, hpr, hs2, cb, rfl⟩
      have hpr0 := hpr
      obtain ⟨vs, bs, rfl, hv, hb⟩ := hpr
      obtain ⟨pv, cv, rfl, -, -⟩ := hv.shape
      obtain ⟨pb, cb2, rfl, -, -⟩ := hb.shape
      simp only [List.cons_append, List.nil_append]
      refine X.XFOA.wr rfl (WrA.st (tyrow rfl) rfl) ?_
      rintro _ _ _ ⟨rfl, rfl, rfl⟩
      refine XFOA.nil ?_
      show XFA _ _ _ _ _ _ _
      refine XFA.seq ?_
      refine X.XFA.of ?_
      refine zS (zR ?_)
      refine zO rfl (Rd.ldA rfl) ?_
      refine XOA.wr0 rfl (WrA.cE (check_a σ2 _ pr hpr0) rfl) ?_
      rintro _ _ _ ⟨_, ⟨rfl, rfl, rfl⟩, rfl⟩
      refine XOA.cl ?_; refine zO rfl Rd.asg ?_
      refine zN (zT ?_)
      by_cases hc : checkP pr ≠ 0
      · have hp : parseP s = .error (checkP pr, -1) := by rw [parseP, hR]; simp only; rw [hP]; simp only; rw [if_pos hc]
        refine zS (zR (zA rfl ?_))
        refine zO rfl (Rd.neq rfl rfl) ?_
        refine zN (zT (XA.condT rfl (by first | rfl | exact decide_eq_true hc) ?_))
        refine zS (zR ?_)
        refine zO rfl (Rd.bl (fun _ _ => tyrow) rfl rfl rfl) ?_
        refine zA rfl ?_
        refine zO rfl (Rd.bl (fun _ _ => tyrow) rfl rfl rfl) ?_
        refine XOA.wr0 rfl (WrA.st (tyrow rfl) rfl) ?_
        rintro _ _ _ ⟨rfl, rfl, rfl⟩
        refine XOA.wr0 rfl (WrA.st (tyrow rfl) rfl) ?_
        rintro _ _ _ ⟨rfl, rfl, rfl⟩
        refine zN (zT (XA.ret (DA.thn_ret ?_)))
        refine .here ?_
        show CallsDA _ _ _ _ _ _ _
        refine X.CallsDA.conv2 (precov_n σ2 g2 g3) (Δ := _) (Ent.refl _) ?_
        rintro u' σ' Γ' fr h ⟨hu, rfl, rfl⟩ hh
        simp only [List.nil_append] at hh
        refine ⟨_, _, ?_, hh⟩
        refine ⟨hu, _, X.ResA.cc rfl rfl rfl (Ld.atBlk (tyrow rfl) rfl zL rfl (by first | exact take0 (by first | rfl | assumption | (refine (ints_len _).trans ?_; assumption) | (simp [*]; (first | done | fail))) | assumption | exact take_app (by first | rfl | assumption | (refine (ints_len _).trans ?_; assumption) | (simp [*]; (first | done | fail))) | (conv => lhs; simp only [List.drop_succ_cons, List.drop_zero, List.take_succ_cons, List.take_zero])) (by first | rfl | assumption | (refine (ints_len _).trans ?_; assumption) | (simp [*]; (first | done | fail)))) (Ld.atBlk (tyrow rfl) rfl zL rfl (by first | exact take0 (by first | rfl | assumption | (refine (ints_len _).trans ?_; assumption) | (simp [*]; (first | done | fail))) | assumption | exact take_app (by first | rfl | assumption | (refine (ints_len _).trans ?_; assumption) | (simp [*]; (first | done | fail))) | (conv => lhs; simp only [List.drop_succ_cons, List.drop_zero, List.take_succ_cons, List.take_zero])) (by first | rfl | assumption | (refine (ints_len _).trans ?_; assumption) | (simp [*]; (first | done | fail)))), [], Ent.nil _, ?_⟩
        exact ⟨_, by rw [hp]; rfl, by rw [hp]; exact pr_none _, hs1.trans hs2, rfl⟩
      · have hp : parseP s = .ok pr := by rw [parseP, hR]; simp only; rw [hP]; simp only; rw [if_neg hc]
        refine zS (zR (zA rfl ?_))
        refine zO rfl (Rd.neq rfl rfl) ?_
        refine zN (zT (XA.condF rfl (by first | rfl | exact decide_eq_false hc) (XA.skip (zT ?_))))
        show XFA _ _ _ _ _ _ _
        refine X.XFA.ofEnd ?_
        refine zS (zR ?_)
        refine zO rfl (Rd.ldA rfl) ?_
        refine zO rfl (Rd.bl (fun _ _ => tyrow) rfl rfl rfl) ?_
        refine XOA.wr0 rfl (WrA.st (tyrow rfl) rfl) ?_
        rintro _ _ _ ⟨rfl, rfl, rfl⟩
        refine XOA.wr0 rfl (WrA.st (tyrow rfl) rfl) ?_
        rintro _ _ _ ⟨rfl, rfl, rfl⟩
        refine zN (zT (XA.ret ?_))
        refine .here ?_
        show CallsDA _ _ _ _ _ _ _
        refine X.CallsDA.conv2 (precov_n σ2 g2 g3) (Δ := _) (Ent.refl _) ?_
        rintro u' σ' Γ' fr h ⟨hu, rfl, rfl⟩ hh
        simp only [List.nil_append] at hh
        refine ⟨_, _, ?_, hh⟩
        refine ⟨hu, _, X.ResA.cc rfl rfl rfl (Ld.atBlk (tyrow rfl) rfl zL rfl (by first | exact take0 (by first | rfl | assumption | (refine (ints_len _).trans ?_; assumption) | (simp [*]; (first | done | fail))) | assumption | exact take_app (by first | rfl | assumption | (refine (ints_len _).trans ?_; assumption) | (simp [*]; (first | done | fail))) | (conv => lhs; simp only [List.drop_succ_cons, List.drop_zero, List.take_succ_cons, List.take_zero])) (by first | rfl | assumption | (refine (ints_len _).trans ?_; assumption) | (simp [*]; (first | done | fail)))) (Ld.atBlk (tyrow rfl) rfl zL rfl (by first | exact take0 (by first | rfl | assumption | (refine (ints_len _).trans ?_; assumption) | (simp [*]; (first | done | fail))) | assumption | exact take_app (by first | rfl | assumption | (refine (ints_len _).trans ?_; assumption) | (simp [*]; (first | done | fail))) | (conv => lhs; simp only [List.drop_succ_cons, List.drop_zero, List.take_succ_cons, List.take_zero])) (by first | rfl | assumption | (refine (ints_len _).trans ?_; assumption) | (simp [*]; (first | done | fail)))), [], Ent.nil _, ?_⟩
        exact ⟨_, by rw [hp]; rfl, by rw [hp]; exact hpr0, hs1.trans hs2, rfl⟩
end Go.Proofs.YthefnnkmpcgcmaaGreatDoor

namespace Go.Proofs.YthefnnkmpcgcmaaGreatDoor
open Go X
theorem failAt_nz {e : Int} {l : List Tk} {c : Int} (h : c ≠ 0) : (failAt e l c).1 ≠ 0 := by
  cases l with
  | nil =>
    rw [failAt]
    by_cases q : c = 5
    · rw [if_pos q]; show (6 : Int) ≠ 0; decide
    · rw [if_neg q]; exact h
  | cons t r => exact h
end Go.Proofs.YthefnnkmpcgcmaaGreatDoor

namespace Go.Proofs.YthefnnkmpcgcmaaGreatDoor
open Go X
set_option maxHeartbeats 2000000
abbrev RS := Except (Int × Int) (List Tk)
def goS {α : Type} (P : List Tk → PR α) : RS → RS
  | .error y => .error y
  | .ok l => match P l with | .ok (_, l') => .ok l' | .error y => .error y
def RS.good : RS → Bool | .ok _ => true | .error _ => false
def isS (w : ByteArray) : RS → Bool | .ok l => isT w l | .error _ => false
def wrongP (e code : Int) (l : List Tk) : PR Unit := .error (failAt e l code)
def mustP (e : Int) (w : ByteArray) (l : List Tk) : PR Unit := if isT w l = true then .ok ((), l.tail) else .error (failAt e l 5)
abbrev rblk (b : Nat) (sl : Value) (e : Int) (k : Nat) (c a : Int) (vs : Value) : HP := blk b [sl, i64 e, i64 k, i64 c, i64 a, vs] 54
/-- A reading: its tokens L; what is left, or the first fault. -/
def Rg (L : List Tk) (sl : Value) (e : Int) (vs : Value) (b : Nat) (s : RS) : HP := fun m => ∃ (k : Nat) (c a : Int), rblk b sl e k c a vs m ∧ k ≤ L.length ∧ match s with | .ok l => c = 0 ∧ a = 0 ∧ L.drop k = l | .error y => c = y.1 ∧ a = y.2 ∧ y.1 ≠ 0
section
variable {L l : List Tk} {sl vs : Value} {e : Int} {b k : Nat} {y : Int × Int}
theorem Rg.okO : ∀ m, Rg L sl e vs b (.ok l) m → ∃ k : Nat, (k ≤ L.length ∧ L.drop k = l) ∧ Sat [rblk b sl e k 0 0 vs] m := by
  rintro m ⟨k, c, a, h, hk, rfl, rfl, hd⟩; exact ⟨k, ⟨hk, hd⟩, sat1 h⟩
theorem Rg.erO : ∀ m, Rg L sl e vs b (.error y) m → ∃ k : Nat, (k ≤ L.length ∧ y.1 ≠ 0) ∧ Sat [rblk b sl e k y.1 y.2 vs] m := by
  rintro m ⟨k, c, a, h, hk, rfl, rfl, hd⟩; exact ⟨k, ⟨hk, hd⟩, sat1 h⟩
theorem Rg.mkO (h : k ≤ L.length) (hd : L.drop k = l) : Ent [rblk b sl e k 0 0 vs] [Rg L sl e vs b (.ok l)] := Ent.one (fun m hm => ⟨k, 0, 0, hm, h, rfl, rfl, hd⟩)
theorem Rg.mkE (h : k ≤ L.length) (hy : y.1 ≠ 0) : Ent [rblk b sl e k y.1 y.2 vs] [Rg L sl e vs b (.error y)] := Ent.one (fun m hm => ⟨k, y.1, y.2, hm, h, rfl, rfl, hy⟩)
end
theorem drop_cons {α : Type} {L : List α} {k : Nat} {t : α} {r : List α} (h : L.drop k = t :: r) : L[k]? = some t ∧ k < L.length ∧ L.drop (k + 1) = r := by
  have hk : k < L.length := by
    apply Decidable.byContradiction; intro q
    rw [List.drop_eq_nil_of_le (by omega)] at h; cases h
  rw [List.drop_eq_getElem_cons hk] at h
  cases h
  exact ⟨List.getElem?_eq_getElem hk, hk, rfl⟩
theorem drop_nil' {α : Type} {L : List α} {k : Nat} (hk : k ≤ L.length) (h : L.drop k = []) : k = L.length := by
  have := List.drop_eq_nil_iff.1 h; omega
section
variable (σ : PH) (L : List Tk) (p : Option Addr) (n0 c0 : Nat) (e : Int) (vs : Value) (b k : Nat)
theorem rok_c (sl : Value) (c a : Int) : CallsA Tryz.prog 20 #[ptr b] σ [rblk b sl e k c a vs] (RetA fun v σ' Γ' => v = .bool (decide (c = 0)) ∧ σ = σ' ∧ Γ' = [rblk b sl e k c a vs]) := by
  refine enterA1 Tryz.func20 rfl rfl rfl ?_
  refine zS (zR (zO rfl Rd.asg ?_)); refine zN (zT (zS (zR (zA rfl ?_)))); refine zO rfl (Rd.nilCheck rfl) ?_; refine zV rfl rfl ?_; refine zV rfl rfl ?_; refine zB rfl rfl (tyrow rfl) rfl ?_; refine zO rfl (Rd.eql rfl rfl) ?_; refine zO rfl Rd.asg ?_; refine zN (zT (XA.ret ?_))
  exact bodyA.ret (ResA.one rfl rfl) zE ⟨rfl, rfl, rfl⟩
theorem rok_o (sl : Value) : CallsA Tryz.prog 20 #[ptr b] σ [rblk b sl e k 0 0 vs] (RetA fun v σ' Γ' => v = .bool true ∧ σ = σ' ∧ Γ' = [rblk b sl e k 0 0 vs]) := rok_c σ e vs b k sl 0 0
theorem rok_e (sl : Value) (c a : Int) (h : c ≠ 0) : CallsA Tryz.prog 20 #[ptr b] σ [rblk b sl e k c a vs] (RetA fun v σ' Γ' => v = .bool false ∧ σ = σ' ∧ Γ' = [rblk b sl e k c a vs]) := by
  have := rok_c σ e vs b k sl c a
  rwa [decide_eq_false h] at this
theorem wrong_e (sl : Value) (c a code : Int) (h : c ≠ 0) : CallsA Tryz.prog 39 #[ptr b, i64 code] σ [rblk b sl e k c a vs] (RetA fun v σ' Γ' => v = .tuple #[] ∧ σ = σ' ∧ Γ' = [rblk b sl e k c a vs]) := by
  refine enterA2 Tryz.func39 rfl rfl rfl ?_
  refine zS (zS (zR (zA rfl ?_)))
  refine XOA.wr0 rfl (WrA.cE (rok_e σ e vs b k sl c a h) rfl) ?_
  rintro _ _ _ ⟨_, ⟨rfl, rfl, rfl⟩, rfl⟩
  refine XOA.cl ?_; refine zO rfl zJ ?_; refine zN (zT (XA.condT rfl rfl (XA.ret (DA.thn_ret ?_))))
  exact bodyA.ret (ResA.none rfl) zE ⟨rfl, rfl, rfl⟩
theorem wrong_o (code : Int) (hL : PSl 4 rTk σ (.slice p L.length c0) L) (hk : k ≤ L.length) : CallsA Tryz.prog 39 #[ptr b, i64 code] σ [rblk b (.slice p L.length c0) e k 0 0 vs] (RetA fun v σ' Γ' => v = .tuple #[] ∧ σ = σ' ∧ Γ' = [rblk b (.slice p L.length c0) e k (failAt e (L.drop k) code).1 (failAt e (L.drop k) code).2 vs]) := by
  have hlen := hL.len_le
  cases hd : L.drop k with
  | cons t r =>
    obtain ⟨hx, hlt, -⟩ := drop_cons hd
    obtain ⟨g, o, row, rfl, hr, -, hrow⟩ := hL.at hx
    have hr : row = tkC t := hr
    subst hr
    have a0 : PRow σ g (o + k * 4) [i64 t.at_] := hrow.sub (j := 0) rfl
    have hlt' : (k : Int) < (L.length : Nat) := by omega
    have hrange : (0 : Int) ≤ k ∧ (k : Int) < (L.length : Nat) := ⟨by omega, by omega⟩
    refine enterA2 Tryz.func39 rfl rfl rfl ?_
    refine zS (zS (zR (zA rfl ?_)))
    refine XOA.wr0 rfl (WrA.cE (rok_o σ e vs b k _) rfl) ?_
    rintro _ _ _ ⟨_, ⟨rfl, rfl, rfl⟩, rfl⟩
    refine XOA.cl ?_; refine zO rfl zJ ?_; refine zN (zT (XA.condF rfl rfl (XA.skip (zT (zS ?_)))))
    refine XA.draw (by kernel_rfl) _ _ [] [(0, .pu), (1, .pu), (2, .pu), (3, .rd), (4, .pu), (5, .pu), (6, .pu), (7, .rd), (8, .pu), (9, .pu)] (by kernel_rfl) (PH.sub.refl _) (Ent.sel (R := blk b _ _) zL (Ent.nil _)) ?_
    refine XPA.pu rfl rfl Gd.free Rd.mv ?_; refine XPA.pu rfl rfl Gd.free (Rd.nilCheck rfl) ?_; refine XPA.pu rfl rfl Gd.free (Rd.fA rfl) ?_; refine XPA.rd rfl rfl Gd.free (Rd.ldC rfl (tyrow rfl) rfl) ?_; refine XPA.pu rfl rfl Gd.free Rd.mv ?_; refine XPA.pu rfl rfl Gd.free (Rd.nilCheck rfl) ?_
    refine XPA.pu rfl rfl Gd.free (Rd.fA rfl) ?_; refine XPA.rd rfl rfl Gd.free (Rd.ldC rfl (tyrow rfl) rfl) ?_; refine XPA.pu rfl rfl Gd.free (Rd.lenSlice (tyrow rfl) rfl rfl) ?_; refine XPA.pu rfl rfl Gd.free (Rd.lss rfl rfl) ?_; refine XPA.nil ?_
    refine zT (XA.condT rfl (by first | rfl | exact decide_eq_true hlt') ?_)
    refine XA.draw (by kernel_rfl) _ _ [13, 16] [(0, .pu), (1, .pu), (2, .pu), (3, .pu), (4, .pu), (5, .rd), (6, .pu), (7, .pu), (8, .pu), (9, .rd), (10, .pu), (11, .pu), (12, .rd), (13, .wr), (14, .pu), (15, .pu), (16, .wr)] (by kernel_rfl) (PH.sub.refl _) (Ent.sel (R := blk b _ _) zL (Ent.nil _)) ?_
    refine XPA.pu rfl rfl Gd.free Rd.mv ?_; refine XPA.pu rfl rfl Gd.free Rd.mv ?_; refine XPA.pu rfl rfl Gd.free Rd.mv ?_; refine XPA.pu rfl rfl Gd.free (Rd.nilCheck rfl) ?_; refine XPA.pu rfl rfl Gd.free (Rd.fA rfl) ?_; refine XPA.rd rfl rfl Gd.free (Rd.ldC rfl (tyrow rfl) rfl) ?_
    refine XPA.pu rfl rfl Gd.free Rd.mv ?_; refine XPA.pu rfl rfl Gd.free (Rd.nilCheck rfl) ?_; refine XPA.pu rfl rfl Gd.free (Rd.fA rfl) ?_; refine XPA.rd rfl rfl Gd.free (Rd.ldC rfl (tyrow rfl) rfl) ?_; refine XPA.pu rfl rfl Gd.free (Rd.ixS rfl rfl) ?_; refine XPA.pu rfl rfl Gd.free (Rd.fA rfl) ?_
    refine XPA.rd rfl rfl Gd.free (Rd.ldC rfl (tyrow rfl) rfl) ?_
    refine XPA.wrZ0 rfl rfl Gd.free (by kernel_rfl) (WrA.cE (rF_t σ code t.at_) rfl) ?_
    rintro _ _ _ ⟨_, ⟨rfl, rfl, rfl⟩, rfl⟩
    refine XPA.cl ?_; refine XPA.pu rfl rfl Gd.free (Rd.nilCheck rfl) ?_; refine XPA.pu rfl rfl Gd.free (Rd.fA rfl) ?_
    refine XPA.wrZ0 rfl rfl Gd.free (by kernel_rfl) (WrA.st (tyrow rfl) rfl) ?_
    rintro _ _ _ ⟨rfl, rfl, rfl⟩
    refine XPA.nil ?_
    exact bodyA.normal (ResA.none rfl) zE ⟨rfl, rfl, rfl⟩
  | nil =>
    have hkl := drop_nil' hk hd
    have hge : ¬ (k : Int) < (L.length : Nat) := by omega
    by_cases h5 : code = 5
    · have hfa : failAt e [] code = (6, e) := by rw [failAt, if_pos h5]
      rw [hfa]
      refine enterA2 Tryz.func39 rfl rfl rfl ?_
      refine zS (zS (zR (zA rfl ?_)))
      refine XOA.wr0 rfl (WrA.cE (rok_o σ e vs b k _) rfl) ?_
      rintro _ _ _ ⟨_, ⟨rfl, rfl, rfl⟩, rfl⟩
      refine XOA.cl ?_; refine zO rfl zJ ?_; refine zN (zT (XA.condF rfl rfl (XA.skip (zT (zS ?_)))))
      refine XA.draw (by kernel_rfl) _ _ [] [(0, .pu), (1, .pu), (2, .pu), (3, .rd), (4, .pu), (5, .pu), (6, .pu), (7, .rd), (8, .pu), (9, .pu)] (by kernel_rfl) (PH.sub.refl _) (Ent.sel (R := blk b _ _) zL (Ent.nil _)) ?_
      refine XPA.pu rfl rfl Gd.free Rd.mv ?_; refine XPA.pu rfl rfl Gd.free (Rd.nilCheck rfl) ?_; refine XPA.pu rfl rfl Gd.free (Rd.fA rfl) ?_; refine XPA.rd rfl rfl Gd.free (Rd.ldC rfl (tyrow rfl) rfl) ?_; refine XPA.pu rfl rfl Gd.free Rd.mv ?_; refine XPA.pu rfl rfl Gd.free (Rd.nilCheck rfl) ?_
      refine XPA.pu rfl rfl Gd.free (Rd.fA rfl) ?_; refine XPA.rd rfl rfl Gd.free (Rd.ldC rfl (tyrow rfl) rfl) ?_; refine XPA.pu rfl rfl Gd.free (Rd.lenSlice (tyrow rfl) rfl rfl) ?_; refine XPA.pu rfl rfl Gd.free (Rd.lss rfl rfl) ?_; refine XPA.nil ?_
      refine zT (XA.condF rfl (by first | rfl | exact decide_eq_false hge) ?_); refine zS (zR (zA rfl ?_)); refine zO rfl (Rd.eql rfl rfl) ?_; refine zN (zT (XA.condT rfl (by first | rfl | exact decide_eq_true h5) ?_)); refine zR (zA rfl ?_); refine zA rfl ?_; refine zO rfl (Rd.nilCheck rfl) ?_
      refine zV rfl rfl ?_; refine zB rfl rfl (tyrow rfl) rfl ?_
      refine XOA.wr0 rfl (WrA.cE (rF_t σ 6 e) rfl) ?_
      rintro _ _ _ ⟨_, ⟨rfl, rfl, rfl⟩, rfl⟩
      refine XOA.cl ?_; refine zO rfl (Rd.nilCheck rfl) ?_; refine zV rfl rfl ?_
      refine XOA.wr0 rfl (WrA.st (tyrow rfl) rfl) ?_
      rintro _ _ _ ⟨rfl, rfl, rfl⟩
      refine zN ?_
      exact bodyA.normal (ResA.none rfl) zE ⟨rfl, rfl, rfl⟩
    · have hfa : failAt e [] code = (code, e) := by rw [failAt, if_neg h5]
      rw [hfa]
      refine enterA2 Tryz.func39 rfl rfl rfl ?_
      refine zS (zS (zR (zA rfl ?_)))
      refine XOA.wr0 rfl (WrA.cE (rok_o σ e vs b k _) rfl) ?_
      rintro _ _ _ ⟨_, ⟨rfl, rfl, rfl⟩, rfl⟩
      refine XOA.cl ?_; refine zO rfl zJ ?_; refine zN (zT (XA.condF rfl rfl (XA.skip (zT (zS ?_)))))
      refine XA.draw (by kernel_rfl) _ _ [] [(0, .pu), (1, .pu), (2, .pu), (3, .rd), (4, .pu), (5, .pu), (6, .pu), (7, .rd), (8, .pu), (9, .pu)] (by kernel_rfl) (PH.sub.refl _) (Ent.sel (R := blk b _ _) zL (Ent.nil _)) ?_
      refine XPA.pu rfl rfl Gd.free Rd.mv ?_; refine XPA.pu rfl rfl Gd.free (Rd.nilCheck rfl) ?_; refine XPA.pu rfl rfl Gd.free (Rd.fA rfl) ?_; refine XPA.rd rfl rfl Gd.free (Rd.ldC rfl (tyrow rfl) rfl) ?_; refine XPA.pu rfl rfl Gd.free Rd.mv ?_; refine XPA.pu rfl rfl Gd.free (Rd.nilCheck rfl) ?_
      refine XPA.pu rfl rfl Gd.free (Rd.fA rfl) ?_; refine XPA.rd rfl rfl Gd.free (Rd.ldC rfl (tyrow rfl) rfl) ?_; refine XPA.pu rfl rfl Gd.free (Rd.lenSlice (tyrow rfl) rfl rfl) ?_; refine XPA.pu rfl rfl Gd.free (Rd.lss rfl rfl) ?_; refine XPA.nil ?_
      refine zT (XA.condF rfl (by first | rfl | exact decide_eq_false hge) ?_); refine zS (zR (zA rfl ?_)); refine zO rfl (Rd.eql rfl rfl) ?_; refine zN (zT (XA.condF rfl (by first | rfl | exact decide_eq_false h5) ?_)); refine zR (zA rfl ?_); refine zA rfl ?_; refine zA rfl ?_
      refine zO rfl (Rd.nilCheck rfl) ?_; refine zV rfl rfl ?_; refine zB rfl rfl (tyrow rfl) rfl ?_
      refine XOA.wr0 rfl (WrA.cE (rF_t σ code e) rfl) ?_
      rintro _ _ _ ⟨_, ⟨rfl, rfl, rfl⟩, rfl⟩
      refine XOA.cl ?_; refine zO rfl (Rd.nilCheck rfl) ?_; refine zV rfl rfl ?_
      refine XOA.wr0 rfl (WrA.st (tyrow rfl) rfl) ?_
      rintro _ _ _ ⟨rfl, rfl, rfl⟩
      refine zN ?_
      exact bodyA.normal (ResA.none rfl) zE ⟨rfl, rfl, rfl⟩
theorem ris_e (sl : Value) (c a : Int) (w : ByteArray) (h : c ≠ 0) : CallsA Tryz.prog 17 #[ptr b, .string w] σ [rblk b sl e k c a vs] (RetA fun v σ' Γ' => v = .bool false ∧ σ = σ' ∧ Γ' = [rblk b sl e k c a vs]) := by
  refine enterA2 Tryz.func17 rfl rfl rfl ?_
  refine zS (zR (zO rfl Rd.asg ?_)); refine zN (zT (zS ?_))
  refine XA.draw (by kernel_rfl) _ _ [] [(0, .pu), (1, .wr), (2, .pu), (3, .pu), (4, .pu), (5, .pu), (6, .rd), (7, .pu), (8, .pu), (9, .pu), (10, .rd), (11, .pu), (12, .pu), (13, .pu), (14, .pu), (15, .pu), (16, .pu), (17, .pu), (18, .rd), (19, .pu), (20, .pu), (21, .pu), (22, .rd), (23, .pu), (24, .pu), (25, .rd), (26, .pu), (27, .pu), (28, .pu), (29, .pu), (30, .pu), (31, .pu), (32, .rd), (33, .pu), (34, .pu), (35, .pu), (36, .rd), (37, .pu), (38, .pu), (39, .rd), (40, .pu), (41, .pu), (42, .pu), (43, .pu)] (by kernel_rfl) (PH.sub.refl _) (Ent.sel (R := blk b _ _) zL (Ent.nil _)) ?_
  refine XPA.pu rfl rfl Gd.free Rd.mv ?_
  refine XPA.wr0 rfl rfl Gd.free (WrA.cE (rok_e σ e vs b k sl c a h) rfl) ?_
  rintro _ _ _ ⟨_, ⟨rfl, rfl, rfl⟩, rfl⟩
  refine stays (XPA.cl ?_)
  refine XPA.pu rfl rfl Gd.free Rd.mv ?_
  first | refine XPA.puG rfl rfl Rd.mv ?_ | refine XPA.puOffG rfl rfl ?_
  first | refine XPA.puG rfl rfl (Rd.nilCheck rfl) ?_ | refine XPA.puOffG rfl rfl ?_
  first | refine XPA.puG rfl rfl (Rd.fA rfl) ?_ | refine XPA.puOffG rfl rfl ?_
  first | refine XPA.rdG rfl rfl (Rd.ldC rfl (tyrow rfl) rfl) ?_ | refine XPA.offG rfl rfl ?_
  first | refine XPA.puG rfl rfl Rd.mv ?_ | refine XPA.puOffG rfl rfl ?_
  first | refine XPA.puG rfl rfl (Rd.nilCheck rfl) ?_ | refine XPA.puOffG rfl rfl ?_
  first | refine XPA.puG rfl rfl (Rd.fA rfl) ?_ | refine XPA.puOffG rfl rfl ?_
  first | refine XPA.rdG rfl rfl (Rd.ldC rfl (tyrow rfl) rfl) ?_ | refine XPA.offG rfl rfl ?_
  first | refine XPA.puG rfl rfl (Rd.lenSlice (tyrow rfl) rfl rfl) ?_ | refine XPA.puOffG rfl rfl ?_
  first | refine XPA.puG rfl rfl (Rd.lss rfl rfl) ?_ | refine XPA.puOffG rfl rfl ?_
  refine XPA.pu rfl rfl Gd.free zP ?_; refine XPA.pu rfl rfl Gd.free Rd.mv ?_
  first | refine XPA.puG rfl rfl Rd.mv ?_ | refine XPA.puOffG rfl rfl ?_
  first | refine XPA.puG rfl rfl (Rd.nilCheck rfl) ?_ | refine XPA.puOffG rfl rfl ?_
  first | refine XPA.puG rfl rfl (Rd.fA rfl) ?_ | refine XPA.puOffG rfl rfl ?_
  first | refine XPA.rdG rfl rfl (Rd.ldC rfl (tyrow rfl) rfl) ?_ | refine XPA.offG rfl rfl ?_
  first | refine XPA.puG rfl rfl Rd.mv ?_ | refine XPA.puOffG rfl rfl ?_
  first | refine XPA.puG rfl rfl (Rd.nilCheck rfl) ?_ | refine XPA.puOffG rfl rfl ?_
  first | refine XPA.puG rfl rfl (Rd.fA rfl) ?_ | refine XPA.puOffG rfl rfl ?_
  first | refine XPA.rdG rfl rfl (Rd.ldC rfl (tyrow rfl) rfl) ?_ | refine XPA.offG rfl rfl ?_
  first | refine XPA.puG rfl rfl (Rd.ixS rfl rfl) ?_ | refine XPA.puOffG rfl rfl ?_
  first | refine XPA.puG rfl rfl (Rd.fA rfl) ?_ | refine XPA.puOffG rfl rfl ?_
  first | refine XPA.rdG rfl rfl (Rd.ldC rfl (tyrow rfl) rfl) ?_ | refine XPA.offG rfl rfl ?_
  first | refine XPA.puG rfl rfl zJ ?_ | refine XPA.puOffG rfl rfl ?_
  refine XPA.pu rfl rfl Gd.free zP ?_; refine XPA.pu rfl rfl Gd.free Rd.mv ?_
  first | refine XPA.puG rfl rfl Rd.mv ?_ | refine XPA.puOffG rfl rfl ?_
  first | refine XPA.puG rfl rfl (Rd.nilCheck rfl) ?_ | refine XPA.puOffG rfl rfl ?_
  first | refine XPA.puG rfl rfl (Rd.fA rfl) ?_ | refine XPA.puOffG rfl rfl ?_
  first | refine XPA.rdG rfl rfl (Rd.ldC rfl (tyrow rfl) rfl) ?_ | refine XPA.offG rfl rfl ?_
  first | refine XPA.puG rfl rfl Rd.mv ?_ | refine XPA.puOffG rfl rfl ?_
  first | refine XPA.puG rfl rfl (Rd.nilCheck rfl) ?_ | refine XPA.puOffG rfl rfl ?_
  first | refine XPA.puG rfl rfl (Rd.fA rfl) ?_ | refine XPA.puOffG rfl rfl ?_
  first | refine XPA.rdG rfl rfl (Rd.ldC rfl (tyrow rfl) rfl) ?_ | refine XPA.offG rfl rfl ?_
  first | refine XPA.puG rfl rfl (Rd.ixS rfl rfl) ?_ | refine XPA.puOffG rfl rfl ?_
  first | refine XPA.puG rfl rfl (Rd.fA rfl) ?_ | refine XPA.puOffG rfl rfl ?_
  first | refine XPA.rdG rfl rfl (Rd.ldC rfl (tyrow rfl) rfl) ?_ | refine XPA.offG rfl rfl ?_
  first | refine XPA.puG rfl rfl Rd.mv ?_ | refine XPA.puOffG rfl rfl ?_
  first | refine XPA.puG rfl rfl (Rd.eqls rfl rfl) ?_ | refine XPA.puOffG rfl rfl ?_
  refine XPA.pu rfl rfl Gd.free zP ?_; refine XPA.pu rfl rfl Gd.free Rd.asg ?_; refine XPA.nil ?_; refine zT (XA.ret ?_)
  exact bodyA.ret (ResA.one rfl rfl) zE ⟨rfl, rfl, rfl⟩
theorem ris_o (w : ByteArray) (hL : PSl 4 rTk σ (.slice p L.length c0) L) (hk : k ≤ L.length) : CallsA Tryz.prog 17 #[ptr b, .string w] σ [rblk b (.slice p L.length c0) e k 0 0 vs] (RetA fun v σ' Γ' => v = .bool (isT w (L.drop k)) ∧ σ = σ' ∧ Γ' = [rblk b (.slice p L.length c0) e k 0 0 vs]) := by
  have hlen := hL.len_le
  cases hd : L.drop k with
  | cons t r =>
    obtain ⟨hx, hlt, -⟩ := drop_cons hd
    obtain ⟨g, o, row, rfl, hr, -, hrow⟩ := hL.at hx
    have hr : row = tkC t := hr
    subst hr
    have a1 : PRow σ g (o + k * 4 + 1) [.string t.text] := hrow.sub (j := 1) rfl
    have a2 : PRow σ g (o + k * 4 + 2) [.bool t.num] := hrow.sub (j := 2) rfl
    have hlt' : (k : Int) < (L.length : Nat) := by omega
    have hrange : (0 : Int) ≤ k ∧ (k : Int) < (L.length : Nat) := ⟨by omega, by omega⟩
    obtain ⟨ta, tt, tn, tv⟩ := t
    cases tn with
    | true =>
      refine enterA2 Tryz.func17 rfl rfl rfl ?_
      refine zS (zR (zO rfl Rd.asg ?_)); refine zN (zT (zS ?_))
      refine XA.draw (by kernel_rfl) _ _ [] [(0, .pu), (1, .wr), (2, .pu), (3, .pu), (4, .pu), (5, .pu), (6, .rd), (7, .pu), (8, .pu), (9, .pu), (10, .rd), (11, .pu), (12, .pu), (13, .pu), (14, .pu), (15, .pu), (16, .pu), (17, .pu), (18, .rd), (19, .pu), (20, .pu), (21, .pu), (22, .rd), (23, .pu), (24, .pu), (25, .rd), (26, .pu), (27, .pu), (28, .pu), (29, .pu), (30, .pu), (31, .pu), (32, .rd), (33, .pu), (34, .pu), (35, .pu), (36, .rd), (37, .pu), (38, .pu), (39, .rd), (40, .pu), (41, .pu), (42, .pu), (43, .pu)] (by kernel_rfl) (PH.sub.refl _) (Ent.sel (R := blk b _ _) zL (Ent.nil _)) ?_
      refine XPA.pu rfl rfl Gd.free Rd.mv ?_
      refine XPA.wr0 rfl rfl Gd.free (WrA.cE (rok_o σ e vs b k _) rfl) ?_
      rintro _ _ _ ⟨_, ⟨rfl, rfl, rfl⟩, rfl⟩
      refine stays (XPA.cl ?_)
      refine XPA.pu rfl rfl Gd.free Rd.mv ?_
      first | refine XPA.puG rfl rfl Rd.mv ?_ | refine XPA.puOffG rfl rfl ?_
      first | refine XPA.puG rfl rfl (Rd.nilCheck rfl) ?_ | refine XPA.puOffG rfl rfl ?_
      first | refine XPA.puG rfl rfl (Rd.fA rfl) ?_ | refine XPA.puOffG rfl rfl ?_
      first | refine XPA.rdG rfl rfl (Rd.ldC rfl (tyrow rfl) rfl) ?_ | refine XPA.offG rfl rfl ?_
      first | refine XPA.puG rfl rfl Rd.mv ?_ | refine XPA.puOffG rfl rfl ?_
      first | refine XPA.puG rfl rfl (Rd.nilCheck rfl) ?_ | refine XPA.puOffG rfl rfl ?_
      first | refine XPA.puG rfl rfl (Rd.fA rfl) ?_ | refine XPA.puOffG rfl rfl ?_
      first | refine XPA.rdG rfl rfl (Rd.ldC rfl (tyrow rfl) rfl) ?_ | refine XPA.offG rfl rfl ?_
      first | refine XPA.puG rfl rfl (Rd.lenSlice (tyrow rfl) rfl rfl) ?_ | refine XPA.puOffG rfl rfl ?_
      first | refine XPA.puG rfl rfl (Rd.lss rfl rfl) ?_ | refine XPA.puOffG rfl rfl ?_
      refine XPA.pu rfl rfl Gd.free zP ?_; refine XPA.pu rfl rfl Gd.free Rd.mv ?_
      first | refine XPA.puG rfl rfl Rd.mv ?_ | refine XPA.puOffG rfl rfl ?_
      first | refine XPA.puG rfl rfl (Rd.nilCheck rfl) ?_ | refine XPA.puOffG rfl rfl ?_
      first | refine XPA.puG rfl rfl (Rd.fA rfl) ?_ | refine XPA.puOffG rfl rfl ?_
      first | refine XPA.rdG rfl rfl (Rd.ldC rfl (tyrow rfl) rfl) ?_ | refine XPA.offG rfl rfl ?_
      first | refine XPA.puG rfl rfl Rd.mv ?_ | refine XPA.puOffG rfl rfl ?_
      first | refine XPA.puG rfl rfl (Rd.nilCheck rfl) ?_ | refine XPA.puOffG rfl rfl ?_
      first | refine XPA.puG rfl rfl (Rd.fA rfl) ?_ | refine XPA.puOffG rfl rfl ?_
      first | refine XPA.rdG rfl rfl (Rd.ldC rfl (tyrow rfl) rfl) ?_ | refine XPA.offG rfl rfl ?_
      first | refine XPA.puG rfl rfl (Rd.ixS rfl rfl) ?_ | refine XPA.puOffG rfl rfl ?_
      first | refine XPA.puG rfl rfl (Rd.fA rfl) ?_ | refine XPA.puOffG rfl rfl ?_
      first | refine XPA.rdG rfl rfl (Rd.ldC rfl (tyrow rfl) rfl) ?_ | refine XPA.offG rfl rfl ?_
      first | refine XPA.puG rfl rfl zJ ?_ | refine XPA.puOffG rfl rfl ?_
      refine XPA.pu rfl rfl Gd.free zP ?_; refine XPA.pu rfl rfl Gd.free Rd.mv ?_
      first | refine XPA.puG rfl rfl Rd.mv ?_ | refine XPA.puOffG rfl rfl ?_
      first | refine XPA.puG rfl rfl (Rd.nilCheck rfl) ?_ | refine XPA.puOffG rfl rfl ?_
      first | refine XPA.puG rfl rfl (Rd.fA rfl) ?_ | refine XPA.puOffG rfl rfl ?_
      first | refine XPA.rdG rfl rfl (Rd.ldC rfl (tyrow rfl) rfl) ?_ | refine XPA.offG rfl rfl ?_
      first | refine XPA.puG rfl rfl Rd.mv ?_ | refine XPA.puOffG rfl rfl ?_
      first | refine XPA.puG rfl rfl (Rd.nilCheck rfl) ?_ | refine XPA.puOffG rfl rfl ?_
      first | refine XPA.puG rfl rfl (Rd.fA rfl) ?_ | refine XPA.puOffG rfl rfl ?_
      first | refine XPA.rdG rfl rfl (Rd.ldC rfl (tyrow rfl) rfl) ?_ | refine XPA.offG rfl rfl ?_
      first | refine XPA.puG rfl rfl (Rd.ixS rfl rfl) ?_ | refine XPA.puOffG rfl rfl ?_
      first | refine XPA.puG rfl rfl (Rd.fA rfl) ?_ | refine XPA.puOffG rfl rfl ?_
      first | refine XPA.rdG rfl rfl (Rd.ldC rfl (tyrow rfl) rfl) ?_ | refine XPA.offG rfl rfl ?_
      first | refine XPA.puG rfl rfl Rd.mv ?_ | refine XPA.puOffG rfl rfl ?_
      first | refine XPA.puG rfl rfl (Rd.eqls rfl rfl) ?_ | refine XPA.puOffG rfl rfl ?_
      refine XPA.pu rfl rfl Gd.free zP ?_; refine XPA.pu rfl rfl Gd.free Rd.asg ?_; refine XPA.nil ?_; refine zT (XA.ret ?_)
      exact bodyA.ret (ResA.one rfl rfl) zE ⟨rfl, rfl, rfl⟩
    | false =>
      refine enterA2 Tryz.func17 rfl rfl rfl ?_
      refine zS (zR (zO rfl Rd.asg ?_)); refine zN (zT (zS ?_))
      refine XA.draw (by kernel_rfl) _ _ [] [(0, .pu), (1, .wr), (2, .pu), (3, .pu), (4, .pu), (5, .pu), (6, .rd), (7, .pu), (8, .pu), (9, .pu), (10, .rd), (11, .pu), (12, .pu), (13, .pu), (14, .pu), (15, .pu), (16, .pu), (17, .pu), (18, .rd), (19, .pu), (20, .pu), (21, .pu), (22, .rd), (23, .pu), (24, .pu), (25, .rd), (26, .pu), (27, .pu), (28, .pu), (29, .pu), (30, .pu), (31, .pu), (32, .rd), (33, .pu), (34, .pu), (35, .pu), (36, .rd), (37, .pu), (38, .pu), (39, .rd), (40, .pu), (41, .pu), (42, .pu), (43, .pu)] (by kernel_rfl) (PH.sub.refl _) (Ent.sel (R := blk b _ _) zL (Ent.nil _)) ?_
      refine XPA.pu rfl rfl Gd.free Rd.mv ?_
      refine XPA.wr0 rfl rfl Gd.free (WrA.cE (rok_o σ e vs b k _) rfl) ?_
      rintro _ _ _ ⟨_, ⟨rfl, rfl, rfl⟩, rfl⟩
      refine stays (XPA.cl ?_)
      refine XPA.pu rfl rfl Gd.free Rd.mv ?_
      first | refine XPA.puG rfl rfl Rd.mv ?_ | refine XPA.puOffG rfl rfl ?_
      first | refine XPA.puG rfl rfl (Rd.nilCheck rfl) ?_ | refine XPA.puOffG rfl rfl ?_
      first | refine XPA.puG rfl rfl (Rd.fA rfl) ?_ | refine XPA.puOffG rfl rfl ?_
      first | refine XPA.rdG rfl rfl (Rd.ldC rfl (tyrow rfl) rfl) ?_ | refine XPA.offG rfl rfl ?_
      first | refine XPA.puG rfl rfl Rd.mv ?_ | refine XPA.puOffG rfl rfl ?_
      first | refine XPA.puG rfl rfl (Rd.nilCheck rfl) ?_ | refine XPA.puOffG rfl rfl ?_
      first | refine XPA.puG rfl rfl (Rd.fA rfl) ?_ | refine XPA.puOffG rfl rfl ?_
      first | refine XPA.rdG rfl rfl (Rd.ldC rfl (tyrow rfl) rfl) ?_ | refine XPA.offG rfl rfl ?_
      first | refine XPA.puG rfl rfl (Rd.lenSlice (tyrow rfl) rfl rfl) ?_ | refine XPA.puOffG rfl rfl ?_
      first | refine XPA.puG rfl rfl (Rd.lss rfl rfl) ?_ | refine XPA.puOffG rfl rfl ?_
      refine XPA.pu rfl rfl Gd.free zP ?_; refine XPA.pu rfl rfl Gd.free Rd.mv ?_
      first | refine XPA.puG rfl rfl Rd.mv ?_ | refine XPA.puOffG rfl rfl ?_
      first | refine XPA.puG rfl rfl (Rd.nilCheck rfl) ?_ | refine XPA.puOffG rfl rfl ?_
      first | refine XPA.puG rfl rfl (Rd.fA rfl) ?_ | refine XPA.puOffG rfl rfl ?_
      first | refine XPA.rdG rfl rfl (Rd.ldC rfl (tyrow rfl) rfl) ?_ | refine XPA.offG rfl rfl ?_
      first | refine XPA.puG rfl rfl Rd.mv ?_ | refine XPA.puOffG rfl rfl ?_
      first | refine XPA.puG rfl rfl (Rd.nilCheck rfl) ?_ | refine XPA.puOffG rfl rfl ?_
      first | refine XPA.puG rfl rfl (Rd.fA rfl) ?_ | refine XPA.puOffG rfl rfl ?_
      first | refine XPA.rdG rfl rfl (Rd.ldC rfl (tyrow rfl) rfl) ?_ | refine XPA.offG rfl rfl ?_
      first | refine XPA.puG rfl rfl (Rd.ixS rfl rfl) ?_ | refine XPA.puOffG rfl rfl ?_
      first | refine XPA.puG rfl rfl (Rd.fA rfl) ?_ | refine XPA.puOffG rfl rfl ?_
      first | refine XPA.rdG rfl rfl (Rd.ldC rfl (tyrow rfl) rfl) ?_ | refine XPA.offG rfl rfl ?_
      first | refine XPA.puG rfl rfl zJ ?_ | refine XPA.puOffG rfl rfl ?_
      refine XPA.pu rfl rfl Gd.free zP ?_; refine XPA.pu rfl rfl Gd.free Rd.mv ?_
      first | refine XPA.puG rfl rfl Rd.mv ?_ | refine XPA.puOffG rfl rfl ?_
      first | refine XPA.puG rfl rfl (Rd.nilCheck rfl) ?_ | refine XPA.puOffG rfl rfl ?_
      first | refine XPA.puG rfl rfl (Rd.fA rfl) ?_ | refine XPA.puOffG rfl rfl ?_
      first | refine XPA.rdG rfl rfl (Rd.ldC rfl (tyrow rfl) rfl) ?_ | refine XPA.offG rfl rfl ?_
      first | refine XPA.puG rfl rfl Rd.mv ?_ | refine XPA.puOffG rfl rfl ?_
      first | refine XPA.puG rfl rfl (Rd.nilCheck rfl) ?_ | refine XPA.puOffG rfl rfl ?_
      first | refine XPA.puG rfl rfl (Rd.fA rfl) ?_ | refine XPA.puOffG rfl rfl ?_
      first | refine XPA.rdG rfl rfl (Rd.ldC rfl (tyrow rfl) rfl) ?_ | refine XPA.offG rfl rfl ?_
      first | refine XPA.puG rfl rfl (Rd.ixS rfl rfl) ?_ | refine XPA.puOffG rfl rfl ?_
      first | refine XPA.puG rfl rfl (Rd.fA rfl) ?_ | refine XPA.puOffG rfl rfl ?_
      first | refine XPA.rdG rfl rfl (Rd.ldC rfl (tyrow rfl) rfl) ?_ | refine XPA.offG rfl rfl ?_
      first | refine XPA.puG rfl rfl Rd.mv ?_ | refine XPA.puOffG rfl rfl ?_
      first | refine XPA.puG rfl rfl (Rd.eqls rfl rfl) ?_ | refine XPA.puOffG rfl rfl ?_
      refine XPA.pu rfl rfl Gd.free zP ?_; refine XPA.pu rfl rfl Gd.free Rd.asg ?_; refine XPA.nil ?_; refine zT (XA.ret ?_)
      exact bodyA.ret (ResA.one rfl rfl) zE ⟨rfl, rfl, rfl⟩
  | nil =>
    have hkl := drop_nil' hk hd
    have hge : ¬ (k : Int) < (L.length : Nat) := by omega
    refine enterA2 Tryz.func17 rfl rfl rfl ?_
    refine zS (zR (zO rfl Rd.asg ?_)); refine zN (zT (zS ?_))
    refine XA.draw (by kernel_rfl) _ _ [] [(0, .pu), (1, .wr), (2, .pu), (3, .pu), (4, .pu), (5, .pu), (6, .rd), (7, .pu), (8, .pu), (9, .pu), (10, .rd), (11, .pu), (12, .pu), (13, .pu), (14, .pu), (15, .pu), (16, .pu), (17, .pu), (18, .rd), (19, .pu), (20, .pu), (21, .pu), (22, .rd), (23, .pu), (24, .pu), (25, .rd), (26, .pu), (27, .pu), (28, .pu), (29, .pu), (30, .pu), (31, .pu), (32, .rd), (33, .pu), (34, .pu), (35, .pu), (36, .rd), (37, .pu), (38, .pu), (39, .rd), (40, .pu), (41, .pu), (42, .pu), (43, .pu)] (by kernel_rfl) (PH.sub.refl _) (Ent.sel (R := blk b _ _) zL (Ent.nil _)) ?_
    refine XPA.pu rfl rfl Gd.free Rd.mv ?_
    refine XPA.wr0 rfl rfl Gd.free (WrA.cE (rok_o σ e vs b k _) rfl) ?_
    rintro _ _ _ ⟨_, ⟨rfl, rfl, rfl⟩, rfl⟩
    refine stays (XPA.cl ?_)
    refine XPA.pu rfl rfl Gd.free Rd.mv ?_
    first | refine XPA.puG rfl rfl Rd.mv ?_ | refine XPA.puOffG rfl rfl ?_
    first | refine XPA.puG rfl rfl (Rd.nilCheck rfl) ?_ | refine XPA.puOffG rfl rfl ?_
    first | refine XPA.puG rfl rfl (Rd.fA rfl) ?_ | refine XPA.puOffG rfl rfl ?_
    first | refine XPA.rdG rfl rfl (Rd.ldC rfl (tyrow rfl) rfl) ?_ | refine XPA.offG rfl rfl ?_
    first | refine XPA.puG rfl rfl Rd.mv ?_ | refine XPA.puOffG rfl rfl ?_
    first | refine XPA.puG rfl rfl (Rd.nilCheck rfl) ?_ | refine XPA.puOffG rfl rfl ?_
    first | refine XPA.puG rfl rfl (Rd.fA rfl) ?_ | refine XPA.puOffG rfl rfl ?_
    first | refine XPA.rdG rfl rfl (Rd.ldC rfl (tyrow rfl) rfl) ?_ | refine XPA.offG rfl rfl ?_
    first | refine XPA.puG rfl rfl (Rd.lenSlice (tyrow rfl) rfl rfl) ?_ | refine XPA.puOffG rfl rfl ?_
    first | refine XPA.puG rfl rfl (Rd.lss rfl rfl) ?_ | refine XPA.puOffG rfl rfl ?_
    refine XPA.pu rfl rfl Gd.free zP ?_; refine XPA.pu rfl rfl Gd.free Rd.mv ?_
    first | refine XPA.puG rfl rfl Rd.mv ?_ | refine XPA.puOffG rfl rfl ?_
    first | refine XPA.puG rfl rfl (Rd.nilCheck rfl) ?_ | refine XPA.puOffG rfl rfl ?_
    first | refine XPA.puG rfl rfl (Rd.fA rfl) ?_ | refine XPA.puOffG rfl rfl ?_
    first | refine XPA.rdG rfl rfl (Rd.ldC rfl (tyrow rfl) rfl) ?_ | refine XPA.offG rfl rfl ?_
    first | refine XPA.puG rfl rfl Rd.mv ?_ | refine XPA.puOffG rfl rfl ?_
    first | refine XPA.puG rfl rfl (Rd.nilCheck rfl) ?_ | refine XPA.puOffG rfl rfl ?_
    first | refine XPA.puG rfl rfl (Rd.fA rfl) ?_ | refine XPA.puOffG rfl rfl ?_
    first | refine XPA.rdG rfl rfl (Rd.ldC rfl (tyrow rfl) rfl) ?_ | refine XPA.offG rfl rfl ?_
    first | refine XPA.puG rfl rfl (Rd.ixS rfl rfl) ?_ | refine XPA.puOffG rfl rfl ?_
    first | refine XPA.puG rfl rfl (Rd.fA rfl) ?_ | refine XPA.puOffG rfl rfl ?_
    first | refine XPA.rdG rfl rfl (Rd.ldC rfl (tyrow rfl) rfl) ?_ | refine XPA.offG rfl rfl ?_
    first | refine XPA.puG rfl rfl zJ ?_ | refine XPA.puOffG rfl rfl ?_
    refine XPA.pu rfl rfl Gd.free zP ?_; refine XPA.pu rfl rfl Gd.free Rd.mv ?_
    first | refine XPA.puG rfl rfl Rd.mv ?_ | refine XPA.puOffG rfl rfl ?_
    first | refine XPA.puG rfl rfl (Rd.nilCheck rfl) ?_ | refine XPA.puOffG rfl rfl ?_
    first | refine XPA.puG rfl rfl (Rd.fA rfl) ?_ | refine XPA.puOffG rfl rfl ?_
    first | refine XPA.rdG rfl rfl (Rd.ldC rfl (tyrow rfl) rfl) ?_ | refine XPA.offG rfl rfl ?_
    first | refine XPA.puG rfl rfl Rd.mv ?_ | refine XPA.puOffG rfl rfl ?_
    first | refine XPA.puG rfl rfl (Rd.nilCheck rfl) ?_ | refine XPA.puOffG rfl rfl ?_
    first | refine XPA.puG rfl rfl (Rd.fA rfl) ?_ | refine XPA.puOffG rfl rfl ?_
    first | refine XPA.rdG rfl rfl (Rd.ldC rfl (tyrow rfl) rfl) ?_ | refine XPA.offG rfl rfl ?_
    first | refine XPA.puG rfl rfl (Rd.ixS rfl rfl) ?_ | refine XPA.puOffG rfl rfl ?_
    first | refine XPA.puG rfl rfl (Rd.fA rfl) ?_ | refine XPA.puOffG rfl rfl ?_
    first | refine XPA.rdG rfl rfl (Rd.ldC rfl (tyrow rfl) rfl) ?_ | refine XPA.offG rfl rfl ?_
    first | refine XPA.puG rfl rfl Rd.mv ?_ | refine XPA.puOffG rfl rfl ?_
    first | refine XPA.puG rfl rfl (Rd.eqls rfl rfl) ?_ | refine XPA.puOffG rfl rfl ?_
    refine XPA.pu rfl rfl Gd.free zP ?_; refine XPA.pu rfl rfl Gd.free Rd.asg ?_; refine XPA.nil ?_; refine zT (XA.ret ?_)
    exact bodyA.ret (ResA.one rfl rfl) zE ⟨rfl, rfl, rfl⟩
end
end Go.Proofs.YthefnnkmpcgcmaaGreatDoor

namespace Go.Proofs.YthefnnkmpcgcmaaGreatDoor
open Go X
theorem X.CallsA.post {P : Program} {f : FuncId} {vs : Array Value} {σ : PH} {Γ : List HP} {R R' : Value → PH → List HP → Prop} (hc : CallsA P f vs σ Γ (RetA R)) (k : ∀ v σ' Γ', R v σ' Γ' → ∃ Γ2, R' v σ' Γ2 ∧ Ent Γ' Γ2) : CallsA P f vs σ Γ (RetA R') :=
  ⟨hc.1, fun fr hp hh => (hc.2 fr hp hh).mono fun e h' ⟨σ', Γ', a, b⟩ => by
    cases e with
    | returned v => obtain ⟨Γ2, a2, he⟩ := k v σ' Γ' a; exact ⟨σ', Γ2, a2, b.ent he⟩
    | panicked c => exact a.elim
    | outgrown => exact a.elim⟩
theorem X.CallsA.pre {P : Program} {f : FuncId} {vs : Array Value} {σ : PH} {Γ Γ0 : List HP} {R : Ending → PH → List HP → Prop} (he : Ent Γ Γ0) (hc : CallsA P f vs σ Γ0 R) : CallsA P f vs σ Γ R := ⟨hc.1, fun fr h hh => hc.2 fr h (hh.ent he)⟩
end Go.Proofs.YthefnnkmpcgcmaaGreatDoor

namespace Go.Proofs.YthefnnkmpcgcmaaGreatDoor
open Go X
set_option maxHeartbeats 2000000
theorem z64 : i64ok 0 := ⟨by decide, by decide⟩
def valD {α : Type} (P : List Tk → PR α) (d : α) : RS → α
  | .error _ => d
  | .ok l => match P l with | .ok (x, _) => x | .error _ => d
def Raw (L : List Tk) (sl : Value) (e : Int) (vs : Value) (b : Nat) (s : RS) (Γ : List HP) : Prop := ∃ (k : Nat) (c a : Int), Γ = [rblk b sl e k c a vs] ∧ k ≤ L.length ∧ match s with | .ok l => c = 0 ∧ a = 0 ∧ L.drop k = l | .error y => c = y.1 ∧ a = y.2 ∧ y.1 ≠ 0
theorem Raw.ent {L : List Tk} {sl vs : Value} {e : Int} {b : Nat} {s : RS} {Γ : List HP} (h : Raw L sl e vs b s Γ) : Ent Γ [Rg L sl e vs b s] := by
  obtain ⟨k, c, a, rfl, h2⟩ := h
  exact Ent.one (fun m hm => ⟨k, c, a, hm, h2⟩)
/-- From what is told of the cells to what a reading holds. -/
theorem wrapR {σ : PH} {L : List Tk} {sl vs : Value} {e : Int} {b : Nat} {s s' : RS} {f : FuncId} {args : Array Value} {V : Value → PH → Prop} (he : Enters Tryz.prog f)
    (ho : ∀ l k, s = .ok l → k ≤ L.length → L.drop k = l → CallsA Tryz.prog f args σ [rblk b sl e k 0 0 vs] (RetA fun v σ' Γ' => V v σ' ∧ Raw L sl e vs b s' Γ'))
    (hE : ∀ y k, s = .error y → k ≤ L.length → y.1 ≠ 0 → CallsA Tryz.prog f args σ [rblk b sl e k y.1 y.2 vs] (RetA fun v σ' Γ' => V v σ' ∧ Raw L sl e vs b s' Γ')) :
    CallsA Tryz.prog f args σ [Rg L sl e vs b s] (RetA fun v σ' Γ' => V v σ' ∧ Γ' = [Rg L sl e vs b s']) := by
  cases s with
  | ok l =>
    refine CallsA.opn .head Rg.okO he ?_
    rintro k ⟨hk, hd⟩
    exact (ho l k rfl hk hd).post fun v σ' Γ' ⟨h1, h2⟩ => ⟨_, ⟨h1, rfl⟩, h2.ent⟩
  | error y =>
    refine CallsA.opn .head Rg.erO he ?_
    rintro k ⟨hk, hd⟩
    exact (hE y k rfl hk hd).post fun v σ' Γ' ⟨h1, h2⟩ => ⟨_, ⟨h1, rfl⟩, h2.ent⟩
theorem X.CallsA.rets {P : Program} {f : FuncId} {vs : Array Value} {σ : PH} {Γ : List HP} {R R' : Value → PH → List HP → Prop} (hc : CallsA P f vs σ Γ (RetA R)) (k : ∀ v σ' Γ', R v σ' Γ' → R' v σ' Γ') : CallsA P f vs σ Γ (RetA R') := hc.post fun v σ' Γ' h => ⟨Γ', k v σ' Γ' h, Ent.refl _⟩
section
variable (σ : PH) (L : List Tk) (p : Option Addr) (c0 : Nat) (e : Int) (vs : Value) (b : Nat) (s : RS)
theorem ok_r (sl : Value) : CallsA Tryz.prog 20 #[ptr b] σ [Rg L sl e vs b s] (RetA fun v σ' Γ' => (v = .bool s.good ∧ σ = σ') ∧ Γ' = [Rg L sl e vs b s]) := by
  refine wrapR (enters Tryz.func20 rfl rfl) ?_ ?_
  · rintro l k rfl hk hd
    exact (rok_o σ e vs b k sl).rets fun v σ' Γ' ⟨h1, h2, h3⟩ => ⟨⟨h1, h2⟩, k, 0, 0, h3, hk, rfl, rfl, hd⟩
  · rintro y k rfl hk hy
    exact (rok_e σ e vs b k sl y.1 y.2 hy).rets fun v σ' Γ' ⟨h1, h2, h3⟩ => ⟨⟨h1, h2⟩, k, y.1, y.2, h3, hk, rfl, rfl, hy⟩
theorem is_r (w : ByteArray) (hL : PSl 4 rTk σ (.slice p L.length c0) L) : CallsA Tryz.prog 17 #[ptr b, .string w] σ [Rg L (.slice p L.length c0) e vs b s] (RetA fun v σ' Γ' => (v = .bool (isS w s) ∧ σ = σ') ∧ Γ' = [Rg L (.slice p L.length c0) e vs b s]) := by
  refine wrapR (enters Tryz.func17 rfl rfl) ?_ ?_
  · rintro l k rfl hk hd
    exact (ris_o σ L p c0 e vs b k w hL hk).rets fun v σ' Γ' ⟨h1, h2, h3⟩ => ⟨⟨by rw [h1, hd]; rfl, h2⟩, k, 0, 0, h3, hk, rfl, rfl, hd⟩
  · rintro y k rfl hk hy
    exact (ris_e σ e vs b k _ y.1 y.2 w hy).rets fun v σ' Γ' ⟨h1, h2, h3⟩ => ⟨⟨h1, h2⟩, k, y.1, y.2, h3, hk, rfl, rfl, hy⟩
theorem wrong_r (code : Int) (h0 : code ≠ 0) (hL : PSl 4 rTk σ (.slice p L.length c0) L) : CallsA Tryz.prog 39 #[ptr b, i64 code] σ [Rg L (.slice p L.length c0) e vs b s] (RetA fun v σ' Γ' => (v = .tuple #[] ∧ σ = σ') ∧ Γ' = [Rg L (.slice p L.length c0) e vs b (goS (wrongP e code) s)]) := by
  refine wrapR (enters Tryz.func39 rfl rfl) ?_ ?_
  · rintro l k rfl hk hd
    exact (wrong_o σ L p c0 e vs b k code hL hk).rets fun v σ' Γ' ⟨h1, h2, h3⟩ => ⟨⟨h1, h2⟩, k, _, _, h3, hk, by rw [hd]; exact ⟨rfl, rfl, failAt_nz h0⟩⟩
  · rintro y k rfl hk hy
    exact (wrong_e σ e vs b k _ y.1 y.2 code hy).rets fun v σ' Γ' ⟨h1, h2, h3⟩ => ⟨⟨h1, h2⟩, k, y.1, y.2, h3, hk, rfl, rfl, hy⟩
theorem must_r (w : ByteArray) (hL : PSl 4 rTk σ (.slice p L.length c0) L) : CallsA Tryz.prog 45 #[ptr b, .string w] σ [Rg L (.slice p L.length c0) e vs b s] (RetA fun v σ' Γ' => (v = .tuple #[] ∧ σ = σ') ∧ Γ' = [Rg L (.slice p L.length c0) e vs b (goS (mustP e w) s)]) := by
  refine wrapR (enters Tryz.func45 rfl rfl) ?_ ?_
  · rintro l k rfl hk hd
    have his := ris_o σ L p c0 e vs b k w hL hk
    have hlen := hL.len_le
    rw [hd] at his
    cases q : isT w l with
    | true =>
      have hg : goS (mustP e w) (.ok l) = .ok l.tail := by rw [goS, mustP, if_pos q]
      obtain ⟨t, r, rfl⟩ := isT_cons q
      obtain ⟨hx, hlt, hd2⟩ := drop_cons hd
      rw [q] at his
      refine enterA2 Tryz.func45 rfl rfl rfl ?_
      refine zS (zR (zA rfl ?_)); refine zA rfl ?_
      refine XOA.wr0 rfl (WrA.cE (his) rfl) ?_
      rintro _ _ _ ⟨_, ⟨rfl, rfl, rfl⟩, rfl⟩
      refine XOA.cl ?_; refine zN (zT (XA.condT rfl rfl (zR (zA rfl ?_)))); refine zO rfl (Rd.nilCheck rfl) ?_; refine zV rfl rfl ?_; refine zB rfl rfl (tyrow rfl) rfl ?_; refine zO rfl zI ?_; refine zO rfl (Rd.nilCheck rfl) ?_; refine zV rfl rfl ?_
      refine XOA.wr0 rfl (WrA.st (tyrow rfl) rfl) ?_
      rintro _ _ _ ⟨rfl, rfl, rfl⟩
      refine zN ?_
      exact bodyA.normal (ResA.none rfl) zE ⟨⟨rfl, rfl⟩, k + 1, 0, 0, rfl, hlt, by rw [hg]; exact ⟨rfl, rfl, hd2⟩⟩
    | false =>
      have hg : goS (mustP e w) (.ok l) = .error (failAt e l 5) := by rw [goS, mustP, if_neg (by rw [q]; exact Bool.noConfusion)]
      rw [q] at his
      refine enterA2 Tryz.func45 rfl rfl rfl ?_
      refine zS (zR (zA rfl ?_)); refine zA rfl ?_
      refine XOA.wr0 rfl (WrA.cE (his) rfl) ?_
      rintro _ _ _ ⟨_, ⟨rfl, rfl, rfl⟩, rfl⟩
      refine XOA.cl ?_; refine zN (zT (XA.condF rfl rfl (zR (zA rfl ?_))))
      refine XOA.wr0 rfl (WrA.cE (wrong_o σ L p c0 e vs b k 5 hL hk) rfl) ?_
      rintro _ _ _ ⟨_, ⟨rfl, rfl, rfl⟩, rfl⟩
      refine XOA.cl ?_; refine zN ?_
      exact bodyA.normal (ResA.none rfl) zE ⟨⟨rfl, rfl⟩, k, _, _, rfl, hk, by rw [hg, hd]; exact ⟨rfl, rfl, failAt_nz (by decide)⟩⟩
  · rintro y k rfl hk hy
    refine enterA2 Tryz.func45 rfl rfl rfl ?_
    refine zS (zR (zA rfl ?_)); refine zA rfl ?_
    refine XOA.wr0 rfl (WrA.cE (ris_e σ e vs b k _ y.1 y.2 w hy) rfl) ?_
    rintro _ _ _ ⟨_, ⟨rfl, rfl, rfl⟩, rfl⟩
    refine XOA.cl ?_; refine zN (zT (XA.condF rfl rfl (zR (zA rfl ?_))))
    refine XOA.wr0 rfl (WrA.cE (wrong_e σ e vs b k _ y.1 y.2 5 hy) rfl) ?_
    rintro _ _ _ ⟨_, ⟨rfl, rfl, rfl⟩, rfl⟩
    refine XOA.cl ?_; refine zN ?_
    exact bodyA.normal (ResA.none rfl) zE ⟨⟨rfl, rfl⟩, k, y.1, y.2, rfl, hk, rfl, rfl, hy⟩
theorem number_r (hL : PSl 4 rTk σ (.slice p L.length c0) L) (hF : ∀ t ∈ L, TkF t) : CallsA Tryz.prog 19 #[ptr b] σ [Rg L (.slice p L.length c0) e vs b s] (RetA fun v σ' Γ' => (v = i64 (valD (numP e) 0 s) ∧ i64ok (valD (numP e) 0 s) ∧ σ = σ') ∧ Γ' = [Rg L (.slice p L.length c0) e vs b (goS (numP e) s)]) := by
  refine wrapR (enters Tryz.func19 rfl rfl) ?_ ?_
  · rintro l k rfl hk hd
    have hlen := hL.len_le
    cases l with
    | cons t r =>
      obtain ⟨hx, hlt, hd2⟩ := drop_cons hd
      have hL0 := hL
      have hkk := hk
      obtain ⟨g, o, row, rfl, hr, -, hrow⟩ := hL.at hx
      have hr : row = tkC t := hr
      subst hr
      have a2 : PRow σ g (o + k * 4 + 2) [.bool t.num] := hrow.sub (j := 2) rfl
      have a3 : PRow σ g (o + ((k : Int) + 1 - 1).toNat * 4 + 3) [i64 t.n] := by rw [show ((k : Int) + 1 - 1).toNat = k by omega]; exact hrow.sub (j := 3) rfl
      have hlt' : (k : Int) < (L.length : Nat) := by omega
      have hrange : (0 : Int) ≤ k ∧ (k : Int) < (L.length : Nat) := ⟨by omega, by omega⟩
      have hok := (hF t (List.mem_of_getElem? hx)).2
      have hz := z64
      obtain ⟨ta, tt, tn, tv⟩ := t
      cases tn with
      | true =>
        refine enterA1 Tryz.func19 rfl rfl rfl ?_
        refine zS (zR (zO rfl Rd.asg ?_)); refine zN (zT (zS (zS ?_)))
        refine XA.draw (by kernel_rfl) _ _ [] [(0, .pu), (1, .wr), (2, .pu), (3, .pu), (4, .pu), (5, .pu), (6, .rd), (7, .pu), (8, .pu), (9, .pu), (10, .rd), (11, .pu), (12, .pu), (13, .pu), (14, .pu), (15, .pu), (16, .pu), (17, .pu), (18, .rd), (19, .pu), (20, .pu), (21, .pu), (22, .rd), (23, .pu), (24, .pu), (25, .rd), (26, .pu)] (by kernel_rfl) (PH.sub.refl _) (Ent.sel (R := blk b _ _) zL (Ent.nil _)) ?_
        refine XPA.pu rfl rfl Gd.free Rd.mv ?_
        refine XPA.wr0 rfl rfl Gd.free (WrA.cE (rok_o σ e vs b k _) rfl) ?_
        rintro _ _ _ ⟨_, ⟨rfl, rfl, rfl⟩, rfl⟩
        refine stays (XPA.cl ?_)
        refine XPA.pu rfl rfl Gd.free Rd.mv ?_
        first | refine XPA.puG rfl rfl Rd.mv ?_ | refine XPA.puOffG rfl rfl ?_
        first | refine XPA.puG rfl rfl (Rd.nilCheck rfl) ?_ | refine XPA.puOffG rfl rfl ?_
        first | refine XPA.puG rfl rfl (Rd.fA rfl) ?_ | refine XPA.puOffG rfl rfl ?_
        first | refine XPA.rdG rfl rfl (Rd.ldC rfl (tyrow rfl) rfl) ?_ | refine XPA.offG rfl rfl ?_
        first | refine XPA.puG rfl rfl Rd.mv ?_ | refine XPA.puOffG rfl rfl ?_
        first | refine XPA.puG rfl rfl (Rd.nilCheck rfl) ?_ | refine XPA.puOffG rfl rfl ?_
        first | refine XPA.puG rfl rfl (Rd.fA rfl) ?_ | refine XPA.puOffG rfl rfl ?_
        first | refine XPA.rdG rfl rfl (Rd.ldC rfl (tyrow rfl) rfl) ?_ | refine XPA.offG rfl rfl ?_
        first | refine XPA.puG rfl rfl (Rd.lenSlice (tyrow rfl) rfl rfl) ?_ | refine XPA.puOffG rfl rfl ?_
        first | refine XPA.puG rfl rfl (Rd.lss rfl rfl) ?_ | refine XPA.puOffG rfl rfl ?_
        refine XPA.pu rfl rfl Gd.free zP ?_; refine XPA.pu rfl rfl Gd.free Rd.mv ?_
        first | refine XPA.puG rfl rfl Rd.mv ?_ | refine XPA.puOffG rfl rfl ?_
        first | refine XPA.puG rfl rfl (Rd.nilCheck rfl) ?_ | refine XPA.puOffG rfl rfl ?_
        first | refine XPA.puG rfl rfl (Rd.fA rfl) ?_ | refine XPA.puOffG rfl rfl ?_
        first | refine XPA.rdG rfl rfl (Rd.ldC rfl (tyrow rfl) rfl) ?_ | refine XPA.offG rfl rfl ?_
        first | refine XPA.puG rfl rfl Rd.mv ?_ | refine XPA.puOffG rfl rfl ?_
        first | refine XPA.puG rfl rfl (Rd.nilCheck rfl) ?_ | refine XPA.puOffG rfl rfl ?_
        first | refine XPA.puG rfl rfl (Rd.fA rfl) ?_ | refine XPA.puOffG rfl rfl ?_
        first | refine XPA.rdG rfl rfl (Rd.ldC rfl (tyrow rfl) rfl) ?_ | refine XPA.offG rfl rfl ?_
        first | refine XPA.puG rfl rfl (Rd.ixS rfl rfl) ?_ | refine XPA.puOffG rfl rfl ?_
        first | refine XPA.puG rfl rfl (Rd.fA rfl) ?_ | refine XPA.puOffG rfl rfl ?_
        first | refine XPA.rdG rfl rfl (Rd.ldC rfl (tyrow rfl) rfl) ?_ | refine XPA.offG rfl rfl ?_
        refine XPA.pu rfl rfl Gd.free zP ?_; refine XPA.nil ?_; refine zT (XA.condT rfl rfl (zS (zR (zA rfl ?_)))); refine zO rfl (Rd.nilCheck rfl) ?_; refine zV rfl rfl ?_; refine zB rfl rfl (tyrow rfl) rfl ?_; refine zO rfl zI ?_; refine zO rfl (Rd.nilCheck rfl) ?_; refine zV rfl rfl ?_
        refine XOA.wr0 rfl (WrA.st (tyrow rfl) rfl) ?_
        rintro _ _ _ ⟨rfl, rfl, rfl⟩
        refine zN (zT (zS ?_))
        refine XA.draw (by kernel_rfl) _ _ [] [(0, .pu), (1, .pu), (2, .pu), (3, .rd), (4, .pu), (5, .pu), (6, .pu), (7, .rd), (8, .pu), (9, .pu), (10, .pu), (11, .rd), (12, .pu)] (by kernel_rfl) (PH.sub.refl _) (Ent.sel (R := blk b _ _) zL (Ent.nil _)) ?_
        refine XPA.pu rfl rfl Gd.free Rd.mv ?_; refine XPA.pu rfl rfl Gd.free (Rd.nilCheck rfl) ?_; refine XPA.pu rfl rfl Gd.free (Rd.fA rfl) ?_; refine XPA.rd rfl rfl Gd.free (Rd.ldC rfl (tyrow rfl) rfl) ?_; refine XPA.pu rfl rfl Gd.free Rd.mv ?_; refine XPA.pu rfl rfl Gd.free (Rd.nilCheck rfl) ?_
        refine XPA.pu rfl rfl Gd.free (Rd.fA rfl) ?_; refine XPA.rd rfl rfl Gd.free (Rd.ldC rfl (tyrow rfl) rfl) ?_; refine XPA.pu rfl rfl Gd.free (by first | exact Rd.sbi rfl rfl | exact Rd.sub rfl rfl) ?_; refine XPA.pu rfl rfl Gd.free (Rd.ixS rfl rfl) ?_; refine XPA.pu rfl rfl Gd.free (Rd.fA rfl) ?_
        refine XPA.rd rfl rfl Gd.free (Rd.ldC rfl (tyrow rfl) rfl) ?_; refine XPA.pu rfl rfl Gd.free Rd.asg ?_; refine XPA.nil ?_; refine zT (XA.ret (DA.thn_ret ?_))
        exact bodyA.ret (ResA.one rfl rfl) zE ⟨⟨rfl, hok, rfl⟩, k + 1, 0, 0, rfl, hlt, rfl, rfl, hd2⟩
      | false =>
        refine enterA1 Tryz.func19 rfl rfl rfl ?_
        refine zS (zR (zO rfl Rd.asg ?_)); refine zN (zT (zS (zS ?_)))
        refine XA.draw (by kernel_rfl) _ _ [] [(0, .pu), (1, .wr), (2, .pu), (3, .pu), (4, .pu), (5, .pu), (6, .rd), (7, .pu), (8, .pu), (9, .pu), (10, .rd), (11, .pu), (12, .pu), (13, .pu), (14, .pu), (15, .pu), (16, .pu), (17, .pu), (18, .rd), (19, .pu), (20, .pu), (21, .pu), (22, .rd), (23, .pu), (24, .pu), (25, .rd), (26, .pu)] (by kernel_rfl) (PH.sub.refl _) (Ent.sel (R := blk b _ _) zL (Ent.nil _)) ?_
        refine XPA.pu rfl rfl Gd.free Rd.mv ?_
        refine XPA.wr0 rfl rfl Gd.free (WrA.cE (rok_o σ e vs b k _) rfl) ?_
        rintro _ _ _ ⟨_, ⟨rfl, rfl, rfl⟩, rfl⟩
        refine stays (XPA.cl ?_)
        refine XPA.pu rfl rfl Gd.free Rd.mv ?_
        first | refine XPA.puG rfl rfl Rd.mv ?_ | refine XPA.puOffG rfl rfl ?_
        first | refine XPA.puG rfl rfl (Rd.nilCheck rfl) ?_ | refine XPA.puOffG rfl rfl ?_
        first | refine XPA.puG rfl rfl (Rd.fA rfl) ?_ | refine XPA.puOffG rfl rfl ?_
        first | refine XPA.rdG rfl rfl (Rd.ldC rfl (tyrow rfl) rfl) ?_ | refine XPA.offG rfl rfl ?_
        first | refine XPA.puG rfl rfl Rd.mv ?_ | refine XPA.puOffG rfl rfl ?_
        first | refine XPA.puG rfl rfl (Rd.nilCheck rfl) ?_ | refine XPA.puOffG rfl rfl ?_
        first | refine XPA.puG rfl rfl (Rd.fA rfl) ?_ | refine XPA.puOffG rfl rfl ?_
        first | refine XPA.rdG rfl rfl (Rd.ldC rfl (tyrow rfl) rfl) ?_ | refine XPA.offG rfl rfl ?_
        first | refine XPA.puG rfl rfl (Rd.lenSlice (tyrow rfl) rfl rfl) ?_ | refine XPA.puOffG rfl rfl ?_
        first | refine XPA.puG rfl rfl (Rd.lss rfl rfl) ?_ | refine XPA.puOffG rfl rfl ?_
        refine XPA.pu rfl rfl Gd.free zP ?_; refine XPA.pu rfl rfl Gd.free Rd.mv ?_
        first | refine XPA.puG rfl rfl Rd.mv ?_ | refine XPA.puOffG rfl rfl ?_
        first | refine XPA.puG rfl rfl (Rd.nilCheck rfl) ?_ | refine XPA.puOffG rfl rfl ?_
        first | refine XPA.puG rfl rfl (Rd.fA rfl) ?_ | refine XPA.puOffG rfl rfl ?_
        first | refine XPA.rdG rfl rfl (Rd.ldC rfl (tyrow rfl) rfl) ?_ | refine XPA.offG rfl rfl ?_
        first | refine XPA.puG rfl rfl Rd.mv ?_ | refine XPA.puOffG rfl rfl ?_
        first | refine XPA.puG rfl rfl (Rd.nilCheck rfl) ?_ | refine XPA.puOffG rfl rfl ?_
        first | refine XPA.puG rfl rfl (Rd.fA rfl) ?_ | refine XPA.puOffG rfl rfl ?_
        first | refine XPA.rdG rfl rfl (Rd.ldC rfl (tyrow rfl) rfl) ?_ | refine XPA.offG rfl rfl ?_
        first | refine XPA.puG rfl rfl (Rd.ixS rfl rfl) ?_ | refine XPA.puOffG rfl rfl ?_
        first | refine XPA.puG rfl rfl (Rd.fA rfl) ?_ | refine XPA.puOffG rfl rfl ?_
        first | refine XPA.rdG rfl rfl (Rd.ldC rfl (tyrow rfl) rfl) ?_ | refine XPA.offG rfl rfl ?_
        refine XPA.pu rfl rfl Gd.free zP ?_; refine XPA.nil ?_; refine zT (XA.condF rfl rfl (XA.skip (zT (zS (zR (zA rfl ?_))))))
        refine XOA.wr0 rfl (WrA.cE (wrong_o σ L _ c0 e vs b k 5 hL0 hk) rfl) ?_
        rintro _ _ _ ⟨_, ⟨rfl, rfl, rfl⟩, rfl⟩
        refine XOA.cl ?_; refine zN (zT (zS (zR (zO rfl Rd.asg ?_)))); refine zN (zT (XA.ret ?_))
        exact bodyA.ret (ResA.one rfl rfl) zE ⟨⟨rfl, hz, rfl⟩, k, _, _, rfl, hk, by rw [hd]; exact ⟨rfl, rfl, (by decide : (5 : Int) ≠ 0)⟩⟩
    | nil =>
      have hkl := drop_nil' hk hd
      have hge : ¬ (k : Int) < (L.length : Nat) := by omega
      refine enterA1 Tryz.func19 rfl rfl rfl ?_
      refine zS (zR (zO rfl Rd.asg ?_)); refine zN (zT (zS (zS ?_)))
      refine XA.draw (by kernel_rfl) _ _ [] [(0, .pu), (1, .wr), (2, .pu), (3, .pu), (4, .pu), (5, .pu), (6, .rd), (7, .pu), (8, .pu), (9, .pu), (10, .rd), (11, .pu), (12, .pu), (13, .pu), (14, .pu), (15, .pu), (16, .pu), (17, .pu), (18, .rd), (19, .pu), (20, .pu), (21, .pu), (22, .rd), (23, .pu), (24, .pu), (25, .rd), (26, .pu)] (by kernel_rfl) (PH.sub.refl _) (Ent.sel (R := blk b _ _) zL (Ent.nil _)) ?_
      refine XPA.pu rfl rfl Gd.free Rd.mv ?_
      refine XPA.wr0 rfl rfl Gd.free (WrA.cE (rok_o σ e vs b k _) rfl) ?_
      rintro _ _ _ ⟨_, ⟨rfl, rfl, rfl⟩, rfl⟩
      refine stays (XPA.cl ?_)
      refine XPA.pu rfl rfl Gd.free Rd.mv ?_
      first | refine XPA.puG rfl rfl Rd.mv ?_ | refine XPA.puOffG rfl rfl ?_
      first | refine XPA.puG rfl rfl (Rd.nilCheck rfl) ?_ | refine XPA.puOffG rfl rfl ?_
      first | refine XPA.puG rfl rfl (Rd.fA rfl) ?_ | refine XPA.puOffG rfl rfl ?_
      first | refine XPA.rdG rfl rfl (Rd.ldC rfl (tyrow rfl) rfl) ?_ | refine XPA.offG rfl rfl ?_
      first | refine XPA.puG rfl rfl Rd.mv ?_ | refine XPA.puOffG rfl rfl ?_
      first | refine XPA.puG rfl rfl (Rd.nilCheck rfl) ?_ | refine XPA.puOffG rfl rfl ?_
      first | refine XPA.puG rfl rfl (Rd.fA rfl) ?_ | refine XPA.puOffG rfl rfl ?_
      first | refine XPA.rdG rfl rfl (Rd.ldC rfl (tyrow rfl) rfl) ?_ | refine XPA.offG rfl rfl ?_
      first | refine XPA.puG rfl rfl (Rd.lenSlice (tyrow rfl) rfl rfl) ?_ | refine XPA.puOffG rfl rfl ?_
      first | refine XPA.puG rfl rfl (Rd.lss rfl rfl) ?_ | refine XPA.puOffG rfl rfl ?_
      refine XPA.pu rfl rfl Gd.free zP ?_; refine XPA.pu rfl rfl Gd.free Rd.mv ?_
      first | refine XPA.puG rfl rfl Rd.mv ?_ | refine XPA.puOffG rfl rfl ?_
      first | refine XPA.puG rfl rfl (Rd.nilCheck rfl) ?_ | refine XPA.puOffG rfl rfl ?_
      first | refine XPA.puG rfl rfl (Rd.fA rfl) ?_ | refine XPA.puOffG rfl rfl ?_
      first | refine XPA.rdG rfl rfl (Rd.ldC rfl (tyrow rfl) rfl) ?_ | refine XPA.offG rfl rfl ?_
      first | refine XPA.puG rfl rfl Rd.mv ?_ | refine XPA.puOffG rfl rfl ?_
      first | refine XPA.puG rfl rfl (Rd.nilCheck rfl) ?_ | refine XPA.puOffG rfl rfl ?_
      first | refine XPA.puG rfl rfl (Rd.fA rfl) ?_ | refine XPA.puOffG rfl rfl ?_
      first | refine XPA.rdG rfl rfl (Rd.ldC rfl (tyrow rfl) rfl) ?_ | refine XPA.offG rfl rfl ?_
      first | refine XPA.puG rfl rfl (Rd.ixS rfl rfl) ?_ | refine XPA.puOffG rfl rfl ?_
      first | refine XPA.puG rfl rfl (Rd.fA rfl) ?_ | refine XPA.puOffG rfl rfl ?_
      first | refine XPA.rdG rfl rfl (Rd.ldC rfl (tyrow rfl) rfl) ?_ | refine XPA.offG rfl rfl ?_
      refine XPA.pu rfl rfl Gd.free zP ?_; refine XPA.nil ?_; refine zT (XA.condF rfl rfl (XA.skip (zT (zS (zR (zA rfl ?_))))))
      refine XOA.wr0 rfl (WrA.cE (wrong_o σ L p c0 e vs b k 5 hL hk) rfl) ?_
      rintro _ _ _ ⟨_, ⟨rfl, rfl, rfl⟩, rfl⟩
      refine XOA.cl ?_; refine zN (zT (zS (zR (zO rfl Rd.asg ?_)))); refine zN (zT (XA.ret ?_))
      exact bodyA.ret (ResA.one rfl rfl) zE ⟨⟨rfl, z64, rfl⟩, k, _, _, rfl, hk, by rw [hd]; exact ⟨rfl, rfl, failAt_nz (by decide)⟩⟩
  · rintro y k rfl hk hy
    refine enterA1 Tryz.func19 rfl rfl rfl ?_
    refine zS (zR (zO rfl Rd.asg ?_)); refine zN (zT (zS (zS ?_)))
    refine XA.draw (by kernel_rfl) _ _ [] [(0, .pu), (1, .wr), (2, .pu), (3, .pu), (4, .pu), (5, .pu), (6, .rd), (7, .pu), (8, .pu), (9, .pu), (10, .rd), (11, .pu), (12, .pu), (13, .pu), (14, .pu), (15, .pu), (16, .pu), (17, .pu), (18, .rd), (19, .pu), (20, .pu), (21, .pu), (22, .rd), (23, .pu), (24, .pu), (25, .rd), (26, .pu)] (by kernel_rfl) (PH.sub.refl _) (Ent.sel (R := blk b _ _) zL (Ent.nil _)) ?_
    refine XPA.pu rfl rfl Gd.free Rd.mv ?_
    refine XPA.wr0 rfl rfl Gd.free (WrA.cE (rok_e σ e vs b k _ y.1 y.2 hy) rfl) ?_
    rintro _ _ _ ⟨_, ⟨rfl, rfl, rfl⟩, rfl⟩
    refine stays (XPA.cl ?_)
    refine XPA.pu rfl rfl Gd.free Rd.mv ?_
    first | refine XPA.puG rfl rfl Rd.mv ?_ | refine XPA.puOffG rfl rfl ?_
    first | refine XPA.puG rfl rfl (Rd.nilCheck rfl) ?_ | refine XPA.puOffG rfl rfl ?_
    first | refine XPA.puG rfl rfl (Rd.fA rfl) ?_ | refine XPA.puOffG rfl rfl ?_
    first | refine XPA.rdG rfl rfl (Rd.ldC rfl (tyrow rfl) rfl) ?_ | refine XPA.offG rfl rfl ?_
    first | refine XPA.puG rfl rfl Rd.mv ?_ | refine XPA.puOffG rfl rfl ?_
    first | refine XPA.puG rfl rfl (Rd.nilCheck rfl) ?_ | refine XPA.puOffG rfl rfl ?_
    first | refine XPA.puG rfl rfl (Rd.fA rfl) ?_ | refine XPA.puOffG rfl rfl ?_
    first | refine XPA.rdG rfl rfl (Rd.ldC rfl (tyrow rfl) rfl) ?_ | refine XPA.offG rfl rfl ?_
    first | refine XPA.puG rfl rfl (Rd.lenSlice (tyrow rfl) rfl rfl) ?_ | refine XPA.puOffG rfl rfl ?_
    first | refine XPA.puG rfl rfl (Rd.lss rfl rfl) ?_ | refine XPA.puOffG rfl rfl ?_
    refine XPA.pu rfl rfl Gd.free zP ?_; refine XPA.pu rfl rfl Gd.free Rd.mv ?_
    first | refine XPA.puG rfl rfl Rd.mv ?_ | refine XPA.puOffG rfl rfl ?_
    first | refine XPA.puG rfl rfl (Rd.nilCheck rfl) ?_ | refine XPA.puOffG rfl rfl ?_
    first | refine XPA.puG rfl rfl (Rd.fA rfl) ?_ | refine XPA.puOffG rfl rfl ?_
    first | refine XPA.rdG rfl rfl (Rd.ldC rfl (tyrow rfl) rfl) ?_ | refine XPA.offG rfl rfl ?_
    first | refine XPA.puG rfl rfl Rd.mv ?_ | refine XPA.puOffG rfl rfl ?_
    first | refine XPA.puG rfl rfl (Rd.nilCheck rfl) ?_ | refine XPA.puOffG rfl rfl ?_
    first | refine XPA.puG rfl rfl (Rd.fA rfl) ?_ | refine XPA.puOffG rfl rfl ?_
    first | refine XPA.rdG rfl rfl (Rd.ldC rfl (tyrow rfl) rfl) ?_ | refine XPA.offG rfl rfl ?_
    first | refine XPA.puG rfl rfl (Rd.ixS rfl rfl) ?_ | refine XPA.puOffG rfl rfl ?_
    first | refine XPA.puG rfl rfl (Rd.fA rfl) ?_ | refine XPA.puOffG rfl rfl ?_
    first | refine XPA.rdG rfl rfl (Rd.ldC rfl (tyrow rfl) rfl) ?_ | refine XPA.offG rfl rfl ?_
    refine XPA.pu rfl rfl Gd.free zP ?_; refine XPA.nil ?_; refine zT (XA.condF rfl rfl (XA.skip (zT (zS (zR (zA rfl ?_))))))
    refine XOA.wr0 rfl (WrA.cE (wrong_e σ e vs b k _ y.1 y.2 5 hy) rfl) ?_
    rintro _ _ _ ⟨_, ⟨rfl, rfl, rfl⟩, rfl⟩
    refine XOA.cl ?_; refine zN (zT (zS (zR (zO rfl Rd.asg ?_)))); refine zN (zT (XA.ret ?_))
    exact bodyA.ret (ResA.one rfl rfl) zE ⟨⟨rfl, z64, rfl⟩, k, y.1, y.2, rfl, hk, rfl, rfl, hy⟩
end
end Go.Proofs.YthefnnkmpcgcmaaGreatDoor

namespace Go.Proofs.YthefnnkmpcgcmaaGreatDoor
open Go X
set_option maxHeartbeats 2000000
section
variable (σ : PH) (L : List Tk) (p : Option Addr) (c0 : Nat) (e : Int) (vs : Value) (b : Nat) (s : RS)
theorem name_r (hL : PSl 4 rTk σ (.slice p L.length c0) L) (hF : ∀ t ∈ L, TkF t) : CallsA Tryz.prog 18 #[ptr b] σ [Rg L (.slice p L.length c0) e vs b s] (RetA fun v σ' Γ' => (v = .string (valD (nameP e) ByteArray.empty s) ∧ σ = σ') ∧ Γ' = [Rg L (.slice p L.length c0) e vs b (goS (nameP e) s)]) := by
  refine wrapR (enters Tryz.func18 rfl rfl) ?_ ?_
  · rintro l k rfl hk hd
    have hlen := hL.len_le
    cases l with
    | cons t r =>
      obtain ⟨hx, hlt, hd2⟩ := drop_cons hd
      have hL0 := hL
      obtain ⟨g, o, row, rfl, hr, -, hrow⟩ := hL.at hx
      have hr : row = tkC t := hr
      subst hr
      have a1 : PRow σ g (o + k * 4 + 1) [.string t.text] := hrow.sub (j := 1) rfl
      have a2 : PRow σ g (o + ((k : Int) + 1 - 1).toNat * 4 + 1) [.string t.text] := by rw [show ((k : Int) + 1 - 1).toNat = k by omega]; exact a1
      have hlt' : (k : Int) < (L.length : Nat) := by omega
      have hrange : (0 : Int) ≤ k ∧ (k : Int) < (L.length : Nat) := ⟨by omega, by omega⟩
      have hsz := (hF t (List.mem_of_getElem? hx)).1
      have hname := rname_a σ t.text hsz
      cases hq : nameOk t.text with
      | true =>
        have hg : nameP e (t :: r) = .ok (t.text, r) := by rw [nameP, if_pos hq]
        rw [hq] at hname
        refine enterA1 Tryz.func18 rfl rfl rfl ?_
        refine zS (zR (zO rfl Rd.asg ?_)); refine zN (zT (zS (zS ?_)))
        refine XA.draw (by kernel_rfl) _ _ [26] [(0, .pu), (1, .wr), (2, .pu), (3, .pu), (4, .pu), (5, .pu), (6, .rd), (7, .pu), (8, .pu), (9, .pu), (10, .rd), (11, .pu), (12, .pu), (13, .pu), (14, .pu), (15, .pu), (16, .pu), (17, .pu), (18, .rd), (19, .pu), (20, .pu), (21, .pu), (22, .rd), (23, .pu), (24, .pu), (25, .rd), (26, .wr), (27, .pu)] (by kernel_rfl) (PH.sub.refl _) (Ent.sel (R := blk b _ _) zL (Ent.nil _)) ?_
        refine XPA.pu rfl rfl Gd.free Rd.mv ?_
        refine XPA.wr0 rfl rfl Gd.free (WrA.cE (rok_o σ e vs b k _) rfl) ?_
        rintro _ _ _ ⟨_, ⟨rfl, rfl, rfl⟩, rfl⟩
        refine stays (XPA.cl ?_)
        refine XPA.pu rfl rfl Gd.free Rd.mv ?_
        first | refine XPA.puG rfl rfl Rd.mv ?_ | refine XPA.puOffG rfl rfl ?_
        first | refine XPA.puG rfl rfl (Rd.nilCheck rfl) ?_ | refine XPA.puOffG rfl rfl ?_
        first | refine XPA.puG rfl rfl (Rd.fA rfl) ?_ | refine XPA.puOffG rfl rfl ?_
        first | refine XPA.rdG rfl rfl (Rd.ldC rfl (tyrow rfl) rfl) ?_ | refine XPA.offG rfl rfl ?_
        first | refine XPA.puG rfl rfl Rd.mv ?_ | refine XPA.puOffG rfl rfl ?_
        first | refine XPA.puG rfl rfl (Rd.nilCheck rfl) ?_ | refine XPA.puOffG rfl rfl ?_
        first | refine XPA.puG rfl rfl (Rd.fA rfl) ?_ | refine XPA.puOffG rfl rfl ?_
        first | refine XPA.rdG rfl rfl (Rd.ldC rfl (tyrow rfl) rfl) ?_ | refine XPA.offG rfl rfl ?_
        first | refine XPA.puG rfl rfl (Rd.lenSlice (tyrow rfl) rfl rfl) ?_ | refine XPA.puOffG rfl rfl ?_
        first | refine XPA.puG rfl rfl (Rd.lss rfl rfl) ?_ | refine XPA.puOffG rfl rfl ?_
        refine XPA.pu rfl rfl Gd.free zP ?_; refine XPA.pu rfl rfl Gd.free Rd.mv ?_
        first | refine XPA.puG rfl rfl Rd.mv ?_ | refine XPA.puOffG rfl rfl ?_
        first | refine XPA.puG rfl rfl (Rd.nilCheck rfl) ?_ | refine XPA.puOffG rfl rfl ?_
        first | refine XPA.puG rfl rfl (Rd.fA rfl) ?_ | refine XPA.puOffG rfl rfl ?_
        first | refine XPA.rdG rfl rfl (Rd.ldC rfl (tyrow rfl) rfl) ?_ | refine XPA.offG rfl rfl ?_
        first | refine XPA.puG rfl rfl Rd.mv ?_ | refine XPA.puOffG rfl rfl ?_
        first | refine XPA.puG rfl rfl (Rd.nilCheck rfl) ?_ | refine XPA.puOffG rfl rfl ?_
        first | refine XPA.puG rfl rfl (Rd.fA rfl) ?_ | refine XPA.puOffG rfl rfl ?_
        first | refine XPA.rdG rfl rfl (Rd.ldC rfl (tyrow rfl) rfl) ?_ | refine XPA.offG rfl rfl ?_
        first | refine XPA.puG rfl rfl (Rd.ixS rfl rfl) ?_ | refine XPA.puOffG rfl rfl ?_
        first | refine XPA.puG rfl rfl (Rd.fA rfl) ?_ | refine XPA.puOffG rfl rfl ?_
        first | refine XPA.rdG rfl rfl (Rd.ldC rfl (tyrow rfl) rfl) ?_ | refine XPA.offG rfl rfl ?_
        refine XPA.wrZ0 rfl rfl (by first | exact Gd.free | exact Gd.isB rfl rfl rfl | (apply Gd.isQ; rfl; rfl; exact (by first | exact (rfl : decide _ = true) | exact (rfl : decide _ = false) | (refine decide_eq_true ?_; assumption) | (refine decide_eq_false ?_; assumption) | (refine decide_eq_true ?_; omega) | (refine decide_eq_false ?_; omega)); rfl)) (by kernel_rfl) (WrA.cE (hname) rfl) ?_
        rintro _ _ _ ⟨_, ⟨rfl, rfl, rfl⟩, rfl⟩
        refine XPA.cl ?_; refine XPA.pu rfl rfl Gd.free zP ?_; refine XPA.nil ?_; refine zT (XA.condT rfl rfl (zS (zR (zA rfl ?_)))); refine zO rfl (Rd.nilCheck rfl) ?_; refine zV rfl rfl ?_; refine zB rfl rfl (tyrow rfl) rfl ?_; refine zO rfl zI ?_; refine zO rfl (Rd.nilCheck rfl) ?_; refine zV rfl rfl ?_
        refine XOA.wr0 rfl (WrA.st (tyrow rfl) rfl) ?_
        rintro _ _ _ ⟨rfl, rfl, rfl⟩
        refine zN (zT (zS ?_))
        refine XA.draw (by kernel_rfl) _ _ [] [(0, .pu), (1, .pu), (2, .pu), (3, .rd), (4, .pu), (5, .pu), (6, .pu), (7, .rd), (8, .pu), (9, .pu), (10, .pu), (11, .rd), (12, .pu)] (by kernel_rfl) (PH.sub.refl _) (Ent.sel (R := blk b _ _) zL (Ent.nil _)) ?_
        refine XPA.pu rfl rfl Gd.free Rd.mv ?_; refine XPA.pu rfl rfl Gd.free (Rd.nilCheck rfl) ?_; refine XPA.pu rfl rfl Gd.free (Rd.fA rfl) ?_; refine XPA.rd rfl rfl Gd.free (Rd.ldC rfl (tyrow rfl) rfl) ?_; refine XPA.pu rfl rfl Gd.free Rd.mv ?_; refine XPA.pu rfl rfl Gd.free (Rd.nilCheck rfl) ?_
        refine XPA.pu rfl rfl Gd.free (Rd.fA rfl) ?_; refine XPA.rd rfl rfl Gd.free (Rd.ldC rfl (tyrow rfl) rfl) ?_; refine XPA.pu rfl rfl Gd.free (by first | exact Rd.sbi rfl rfl | exact Rd.sub rfl rfl) ?_; refine XPA.pu rfl rfl Gd.free (Rd.ixS rfl rfl) ?_; refine XPA.pu rfl rfl Gd.free (Rd.fA rfl) ?_
        refine XPA.rd rfl rfl Gd.free (Rd.ldC rfl (tyrow rfl) rfl) ?_; refine XPA.pu rfl rfl Gd.free Rd.asg ?_; refine XPA.nil ?_; refine zT (XA.ret (DA.thn_ret ?_))
        exact bodyA.ret (ResA.one rfl rfl) zE ⟨⟨by rw [valD, hg], rfl⟩, k + 1, 0, 0, rfl, hlt, by rw [goS, hg]; exact ⟨rfl, rfl, hd2⟩⟩
      | false =>
        have hg : nameP e (t :: r) = .error (failAt e (t :: r) 5) := by rw [nameP, if_neg (by rw [hq]; exact Bool.noConfusion)]
        rw [hq] at hname
        refine enterA1 Tryz.func18 rfl rfl rfl ?_
        refine zS (zR (zO rfl Rd.asg ?_)); refine zN (zT (zS (zS ?_)))
        refine XA.draw (by kernel_rfl) _ _ [26] [(0, .pu), (1, .wr), (2, .pu), (3, .pu), (4, .pu), (5, .pu), (6, .rd), (7, .pu), (8, .pu), (9, .pu), (10, .rd), (11, .pu), (12, .pu), (13, .pu), (14, .pu), (15, .pu), (16, .pu), (17, .pu), (18, .rd), (19, .pu), (20, .pu), (21, .pu), (22, .rd), (23, .pu), (24, .pu), (25, .rd), (26, .wr), (27, .pu)] (by kernel_rfl) (PH.sub.refl _) (Ent.sel (R := blk b _ _) zL (Ent.nil _)) ?_
        refine XPA.pu rfl rfl Gd.free Rd.mv ?_
        refine XPA.wr0 rfl rfl Gd.free (WrA.cE (rok_o σ e vs b k _) rfl) ?_
        rintro _ _ _ ⟨_, ⟨rfl, rfl, rfl⟩, rfl⟩
        refine stays (XPA.cl ?_)
        refine XPA.pu rfl rfl Gd.free Rd.mv ?_
        first | refine XPA.puG rfl rfl Rd.mv ?_ | refine XPA.puOffG rfl rfl ?_
        first | refine XPA.puG rfl rfl (Rd.nilCheck rfl) ?_ | refine XPA.puOffG rfl rfl ?_
        first | refine XPA.puG rfl rfl (Rd.fA rfl) ?_ | refine XPA.puOffG rfl rfl ?_
        first | refine XPA.rdG rfl rfl (Rd.ldC rfl (tyrow rfl) rfl) ?_ | refine XPA.offG rfl rfl ?_
        first | refine XPA.puG rfl rfl Rd.mv ?_ | refine XPA.puOffG rfl rfl ?_
        first | refine XPA.puG rfl rfl (Rd.nilCheck rfl) ?_ | refine XPA.puOffG rfl rfl ?_
        first | refine XPA.puG rfl rfl (Rd.fA rfl) ?_ | refine XPA.puOffG rfl rfl ?_
        first | refine XPA.rdG rfl rfl (Rd.ldC rfl (tyrow rfl) rfl) ?_ | refine XPA.offG rfl rfl ?_
        first | refine XPA.puG rfl rfl (Rd.lenSlice (tyrow rfl) rfl rfl) ?_ | refine XPA.puOffG rfl rfl ?_
        first | refine XPA.puG rfl rfl (Rd.lss rfl rfl) ?_ | refine XPA.puOffG rfl rfl ?_
        refine XPA.pu rfl rfl Gd.free zP ?_; refine XPA.pu rfl rfl Gd.free Rd.mv ?_
        first | refine XPA.puG rfl rfl Rd.mv ?_ | refine XPA.puOffG rfl rfl ?_
        first | refine XPA.puG rfl rfl (Rd.nilCheck rfl) ?_ | refine XPA.puOffG rfl rfl ?_
        first | refine XPA.puG rfl rfl (Rd.fA rfl) ?_ | refine XPA.puOffG rfl rfl ?_
        first | refine XPA.rdG rfl rfl (Rd.ldC rfl (tyrow rfl) rfl) ?_ | refine XPA.offG rfl rfl ?_
        first | refine XPA.puG rfl rfl Rd.mv ?_ | refine XPA.puOffG rfl rfl ?_
        first | refine XPA.puG rfl rfl (Rd.nilCheck rfl) ?_ | refine XPA.puOffG rfl rfl ?_
        first | refine XPA.puG rfl rfl (Rd.fA rfl) ?_ | refine XPA.puOffG rfl rfl ?_
        first | refine XPA.rdG rfl rfl (Rd.ldC rfl (tyrow rfl) rfl) ?_ | refine XPA.offG rfl rfl ?_
        first | refine XPA.puG rfl rfl (Rd.ixS rfl rfl) ?_ | refine XPA.puOffG rfl rfl ?_
        first | refine XPA.puG rfl rfl (Rd.fA rfl) ?_ | refine XPA.puOffG rfl rfl ?_
        first | refine XPA.rdG rfl rfl (Rd.ldC rfl (tyrow rfl) rfl) ?_ | refine XPA.offG rfl rfl ?_
        refine XPA.wrZ0 rfl rfl (by first | exact Gd.free | exact Gd.isB rfl rfl rfl | (apply Gd.isQ; rfl; rfl; exact (by first | exact (rfl : decide _ = true) | exact (rfl : decide _ = false) | (refine decide_eq_true ?_; assumption) | (refine decide_eq_false ?_; assumption) | (refine decide_eq_true ?_; omega) | (refine decide_eq_false ?_; omega)); rfl)) (by kernel_rfl) (WrA.cE (hname) rfl) ?_
        rintro _ _ _ ⟨_, ⟨rfl, rfl, rfl⟩, rfl⟩
        refine XPA.cl ?_; refine XPA.pu rfl rfl Gd.free zP ?_; refine XPA.nil ?_; refine zT (XA.condF rfl rfl (XA.skip (zT (zS (zR (zA rfl ?_))))))
        refine XOA.wr0 rfl (WrA.cE (wrong_o σ L _ c0 e vs b k 5 hL0 hk) rfl) ?_
        rintro _ _ _ ⟨_, ⟨rfl, rfl, rfl⟩, rfl⟩
        refine XOA.cl ?_; refine zN (zT (zS (zR (zO rfl Rd.asg ?_)))); refine zN (zT (XA.ret ?_))
        exact bodyA.ret (ResA.one rfl rfl) zE ⟨⟨by rw [valD, hg]; rfl, rfl⟩, k, _, _, rfl, hk, by rw [goS, hg, hd]; exact ⟨rfl, rfl, failAt_nz (by decide)⟩⟩
    | nil =>
      have hkl := drop_nil' hk hd
      have hge : ¬ (k : Int) < (L.length : Nat) := by omega
      refine enterA1 Tryz.func18 rfl rfl rfl ?_
      refine zS (zR (zO rfl Rd.asg ?_)); refine zN (zT (zS (zS ?_)))
      refine XA.draw (by kernel_rfl) _ _ [26] [(0, .pu), (1, .wr), (2, .pu), (3, .pu), (4, .pu), (5, .pu), (6, .rd), (7, .pu), (8, .pu), (9, .pu), (10, .rd), (11, .pu), (12, .pu), (13, .pu), (14, .pu), (15, .pu), (16, .pu), (17, .pu), (18, .rd), (19, .pu), (20, .pu), (21, .pu), (22, .rd), (23, .pu), (24, .pu), (25, .rd), (26, .wr), (27, .pu)] (by kernel_rfl) (PH.sub.refl _) (Ent.sel (R := blk b _ _) zL (Ent.nil _)) ?_
      refine XPA.pu rfl rfl Gd.free Rd.mv ?_
      refine XPA.wr0 rfl rfl Gd.free (WrA.cE (rok_o σ e vs b k _) rfl) ?_
      rintro _ _ _ ⟨_, ⟨rfl, rfl, rfl⟩, rfl⟩
      refine stays (XPA.cl ?_)
      refine XPA.pu rfl rfl Gd.free Rd.mv ?_
      first | refine XPA.puG rfl rfl Rd.mv ?_ | refine XPA.puOffG rfl rfl ?_
      first | refine XPA.puG rfl rfl (Rd.nilCheck rfl) ?_ | refine XPA.puOffG rfl rfl ?_
      first | refine XPA.puG rfl rfl (Rd.fA rfl) ?_ | refine XPA.puOffG rfl rfl ?_
      first | refine XPA.rdG rfl rfl (Rd.ldC rfl (tyrow rfl) rfl) ?_ | refine XPA.offG rfl rfl ?_
      first | refine XPA.puG rfl rfl Rd.mv ?_ | refine XPA.puOffG rfl rfl ?_
      first | refine XPA.puG rfl rfl (Rd.nilCheck rfl) ?_ | refine XPA.puOffG rfl rfl ?_
      first | refine XPA.puG rfl rfl (Rd.fA rfl) ?_ | refine XPA.puOffG rfl rfl ?_
      first | refine XPA.rdG rfl rfl (Rd.ldC rfl (tyrow rfl) rfl) ?_ | refine XPA.offG rfl rfl ?_
      first | refine XPA.puG rfl rfl (Rd.lenSlice (tyrow rfl) rfl rfl) ?_ | refine XPA.puOffG rfl rfl ?_
      first | refine XPA.puG rfl rfl (Rd.lss rfl rfl) ?_ | refine XPA.puOffG rfl rfl ?_
      refine XPA.pu rfl rfl Gd.free zP ?_; refine XPA.pu rfl rfl Gd.free Rd.mv ?_
      first | refine XPA.puG rfl rfl Rd.mv ?_ | refine XPA.puOffG rfl rfl ?_
      first | refine XPA.puG rfl rfl (Rd.nilCheck rfl) ?_ | refine XPA.puOffG rfl rfl ?_
      first | refine XPA.puG rfl rfl (Rd.fA rfl) ?_ | refine XPA.puOffG rfl rfl ?_
      first | refine XPA.rdG rfl rfl (Rd.ldC rfl (tyrow rfl) rfl) ?_ | refine XPA.offG rfl rfl ?_
      first | refine XPA.puG rfl rfl Rd.mv ?_ | refine XPA.puOffG rfl rfl ?_
      first | refine XPA.puG rfl rfl (Rd.nilCheck rfl) ?_ | refine XPA.puOffG rfl rfl ?_
      first | refine XPA.puG rfl rfl (Rd.fA rfl) ?_ | refine XPA.puOffG rfl rfl ?_
      first | refine XPA.rdG rfl rfl (Rd.ldC rfl (tyrow rfl) rfl) ?_ | refine XPA.offG rfl rfl ?_
      first | refine XPA.puG rfl rfl (Rd.ixS rfl rfl) ?_ | refine XPA.puOffG rfl rfl ?_
      first | refine XPA.puG rfl rfl (Rd.fA rfl) ?_ | refine XPA.puOffG rfl rfl ?_
      first | refine XPA.rdG rfl rfl (Rd.ldC rfl (tyrow rfl) rfl) ?_ | refine XPA.offG rfl rfl ?_
      first | refine XPA.off rfl rfl (by first | exact Gd.isB rfl rfl rfl | exact Gd.un rfl rfl | (apply Gd.isQ; rfl; rfl; exact (by first | exact (rfl : decide _ = true) | exact (rfl : decide _ = false) | (refine decide_eq_true ?_; assumption) | (refine decide_eq_false ?_; assumption) | (refine decide_eq_true ?_; omega) | (refine decide_eq_false ?_; omega)); rfl)) ?_ | refine XPA.puOff rfl rfl (by first | exact Gd.isB rfl rfl rfl | exact Gd.un rfl rfl | (apply Gd.isQ; rfl; rfl; exact (by first | exact (rfl : decide _ = true) | exact (rfl : decide _ = false) | (refine decide_eq_true ?_; assumption) | (refine decide_eq_false ?_; assumption) | (refine decide_eq_true ?_; omega) | (refine decide_eq_false ?_; omega)); rfl)) ?_ | refine XPA.offW rfl rfl (by first | exact Gd.isB rfl rfl rfl | exact Gd.un rfl rfl | (apply Gd.isQ; rfl; rfl; exact (by first | exact (rfl : decide _ = true) | exact (rfl : decide _ = false) | (refine decide_eq_true ?_; assumption) | (refine decide_eq_false ?_; assumption) | (refine decide_eq_true ?_; omega) | (refine decide_eq_false ?_; omega)); rfl)) ?_
      refine XPA.pu rfl rfl Gd.free zP ?_; refine XPA.nil ?_; refine zT (XA.condF rfl rfl (XA.skip (zT (zS (zR (zA rfl ?_))))))
      refine XOA.wr0 rfl (WrA.cE (wrong_o σ L p c0 e vs b k 5 hL hk) rfl) ?_
      rintro _ _ _ ⟨_, ⟨rfl, rfl, rfl⟩, rfl⟩
      refine XOA.cl ?_; refine zN (zT (zS (zR (zO rfl Rd.asg ?_)))); refine zN (zT (XA.ret ?_))
      exact bodyA.ret (ResA.one rfl rfl) zE ⟨⟨rfl, rfl⟩, k, _, _, rfl, hk, by rw [hd]; exact ⟨rfl, rfl, failAt_nz (by decide)⟩⟩
  · rintro y k rfl hk hy
    refine enterA1 Tryz.func18 rfl rfl rfl ?_
    refine zS (zR (zO rfl Rd.asg ?_)); refine zN (zT (zS (zS ?_)))
    refine XA.draw (by kernel_rfl) _ _ [26] [(0, .pu), (1, .wr), (2, .pu), (3, .pu), (4, .pu), (5, .pu), (6, .rd), (7, .pu), (8, .pu), (9, .pu), (10, .rd), (11, .pu), (12, .pu), (13, .pu), (14, .pu), (15, .pu), (16, .pu), (17, .pu), (18, .rd), (19, .pu), (20, .pu), (21, .pu), (22, .rd), (23, .pu), (24, .pu), (25, .rd), (26, .wr), (27, .pu)] (by kernel_rfl) (PH.sub.refl _) (Ent.sel (R := blk b _ _) zL (Ent.nil _)) ?_
    refine XPA.pu rfl rfl Gd.free Rd.mv ?_
    refine XPA.wr0 rfl rfl Gd.free (WrA.cE (rok_e σ e vs b k _ y.1 y.2 hy) rfl) ?_
    rintro _ _ _ ⟨_, ⟨rfl, rfl, rfl⟩, rfl⟩
    refine stays (XPA.cl ?_)
    refine XPA.pu rfl rfl Gd.free Rd.mv ?_
    first | refine XPA.puG rfl rfl Rd.mv ?_ | refine XPA.puOffG rfl rfl ?_
    first | refine XPA.puG rfl rfl (Rd.nilCheck rfl) ?_ | refine XPA.puOffG rfl rfl ?_
    first | refine XPA.puG rfl rfl (Rd.fA rfl) ?_ | refine XPA.puOffG rfl rfl ?_
    first | refine XPA.rdG rfl rfl (Rd.ldC rfl (tyrow rfl) rfl) ?_ | refine XPA.offG rfl rfl ?_
    first | refine XPA.puG rfl rfl Rd.mv ?_ | refine XPA.puOffG rfl rfl ?_
    first | refine XPA.puG rfl rfl (Rd.nilCheck rfl) ?_ | refine XPA.puOffG rfl rfl ?_
    first | refine XPA.puG rfl rfl (Rd.fA rfl) ?_ | refine XPA.puOffG rfl rfl ?_
    first | refine XPA.rdG rfl rfl (Rd.ldC rfl (tyrow rfl) rfl) ?_ | refine XPA.offG rfl rfl ?_
    first | refine XPA.puG rfl rfl (Rd.lenSlice (tyrow rfl) rfl rfl) ?_ | refine XPA.puOffG rfl rfl ?_
    first | refine XPA.puG rfl rfl (Rd.lss rfl rfl) ?_ | refine XPA.puOffG rfl rfl ?_
    refine XPA.pu rfl rfl Gd.free zP ?_; refine XPA.pu rfl rfl Gd.free Rd.mv ?_
    first | refine XPA.puG rfl rfl Rd.mv ?_ | refine XPA.puOffG rfl rfl ?_
    first | refine XPA.puG rfl rfl (Rd.nilCheck rfl) ?_ | refine XPA.puOffG rfl rfl ?_
    first | refine XPA.puG rfl rfl (Rd.fA rfl) ?_ | refine XPA.puOffG rfl rfl ?_
    first | refine XPA.rdG rfl rfl (Rd.ldC rfl (tyrow rfl) rfl) ?_ | refine XPA.offG rfl rfl ?_
    first | refine XPA.puG rfl rfl Rd.mv ?_ | refine XPA.puOffG rfl rfl ?_
    first | refine XPA.puG rfl rfl (Rd.nilCheck rfl) ?_ | refine XPA.puOffG rfl rfl ?_
    first | refine XPA.puG rfl rfl (Rd.fA rfl) ?_ | refine XPA.puOffG rfl rfl ?_
    first | refine XPA.rdG rfl rfl (Rd.ldC rfl (tyrow rfl) rfl) ?_ | refine XPA.offG rfl rfl ?_
    first | refine XPA.puG rfl rfl (Rd.ixS rfl rfl) ?_ | refine XPA.puOffG rfl rfl ?_
    first | refine XPA.puG rfl rfl (Rd.fA rfl) ?_ | refine XPA.puOffG rfl rfl ?_
    first | refine XPA.rdG rfl rfl (Rd.ldC rfl (tyrow rfl) rfl) ?_ | refine XPA.offG rfl rfl ?_
    first | refine XPA.off rfl rfl (by first | exact Gd.isB rfl rfl rfl | exact Gd.un rfl rfl | (apply Gd.isQ; rfl; rfl; exact (by first | exact (rfl : decide _ = true) | exact (rfl : decide _ = false) | (refine decide_eq_true ?_; assumption) | (refine decide_eq_false ?_; assumption) | (refine decide_eq_true ?_; omega) | (refine decide_eq_false ?_; omega)); rfl)) ?_ | refine XPA.puOff rfl rfl (by first | exact Gd.isB rfl rfl rfl | exact Gd.un rfl rfl | (apply Gd.isQ; rfl; rfl; exact (by first | exact (rfl : decide _ = true) | exact (rfl : decide _ = false) | (refine decide_eq_true ?_; assumption) | (refine decide_eq_false ?_; assumption) | (refine decide_eq_true ?_; omega) | (refine decide_eq_false ?_; omega)); rfl)) ?_ | refine XPA.offW rfl rfl (by first | exact Gd.isB rfl rfl rfl | exact Gd.un rfl rfl | (apply Gd.isQ; rfl; rfl; exact (by first | exact (rfl : decide _ = true) | exact (rfl : decide _ = false) | (refine decide_eq_true ?_; assumption) | (refine decide_eq_false ?_; assumption) | (refine decide_eq_true ?_; omega) | (refine decide_eq_false ?_; omega)); rfl)) ?_
    refine XPA.pu rfl rfl Gd.free zP ?_; refine XPA.nil ?_; refine zT (XA.condF rfl rfl (XA.skip (zT (zS (zR (zA rfl ?_))))))
    refine XOA.wr0 rfl (WrA.cE (wrong_e σ e vs b k _ y.1 y.2 5 hy) rfl) ?_
    rintro _ _ _ ⟨_, ⟨rfl, rfl, rfl⟩, rfl⟩
    refine XOA.cl ?_; refine zN (zT (zS (zR (zO rfl Rd.asg ?_)))); refine zN (zT (XA.ret ?_))
    exact bodyA.ret (ResA.one rfl rfl) zE ⟨⟨rfl, rfl⟩, k, y.1, y.2, rfl, hk, rfl, rfl, hy⟩
end
/-! the word behind a bracket -/
def begP (e : Int) (deep : Int) (most : Nat) (W : Int → ByteArray) (l : List Tk) : PR Nat :=
  if 12 < deep then .error (failAt e l 4) else if isT lpar l = true then match pickT W most l.tail with | none => .error (failAt e l.tail 5) | some k => .ok (k, l.tail.tail) else .error (failAt e l 5)
/-- The state behind the bracket. -/
def begS (e deep : Int) (s : RS) : RS := goS (mustP e lpar) (if 12 < deep then goS (wrongP e 4) s else s)
theorem pickG_first {W : Int → ByteArray} {l : List Tk} {i : Nat} (h : isT (W i) l = true) : ∀ (f k : Nat), k ≤ i → i < k + f → (∀ j : Nat, k ≤ j → j < i → isT (W j) l = false) → pickG W l f k = some i
  | 0, k, h1, h2, _ => by omega
  | f + 1, k, h1, h2, h3 => by
    rw [pickG]
    by_cases q : k = i
    · subst q; rw [if_pos h]
    · rw [if_neg (by rw [h3 k (Nat.le_refl _) (by omega)]; exact Bool.noConfusion)]
      exact pickG_first h f (k + 1) (by omega) (by omega) (fun j a c => h3 j (by omega) c)
theorem pickG_no {W : Int → ByteArray} {l : List Tk} : ∀ (f k : Nat), (∀ j : Nat, k ≤ j → j < k + f → isT (W j) l = false) → pickG W l f k = none
  | 0, k, _ => rfl
  | f + 1, k, h => by
    rw [pickG, if_neg (by rw [h k (Nat.le_refl _) (by omega)]; exact Bool.noConfusion)]
    exact pickG_no f (k + 1) (fun j a c => h j (by omega) (by omega))
theorem beg_err {e deep : Int} {y : Int × Int} : begS e deep (.error y) = .error y := by
  rw [begS]; split <;> rfl
theorem beg_some {e deep : Int} {most : Nat} {W : Int → ByteArray} {s : RS} {i : Nat} (h1 : 1 ≤ i) (h2 : i ≤ most) (h : isS (W i) (begS e deep s) = true) (h3 : ∀ j : Nat, 1 ≤ j → j < i → isS (W j) (begS e deep s) = false) :
    ∃ l2, begS e deep s = .ok l2 ∧ goS (begP e deep most W) s = .ok l2.tail ∧ valD (begP e deep most W) 0 s = i := by
  cases s with
  | error y => rw [beg_err] at h; cases h
  | ok l =>
    by_cases hd : 12 < deep
    · have : begS e deep (.ok l) = .error (failAt e l 4) := by rw [begS, if_pos hd]; rfl
      rw [this] at h; cases h
    · cases hq : isT lpar l with
      | false =>
        have : begS e deep (.ok l) = .error (failAt e l 5) := by rw [begS, if_neg hd, goS, mustP, if_neg (by rw [hq]; exact Bool.noConfusion)]
        rw [this] at h; cases h
      | true =>
        have hs : begS e deep (.ok l) = .ok l.tail := by rw [begS, if_neg hd, goS, mustP, if_pos hq]
        rw [hs] at h h3
        have hp : pickT W most l.tail = some i := pickG_first h _ 1 h1 (by omega) h3
        have hb : begP e deep most W l = .ok (i, l.tail.tail) := by rw [begP, if_neg hd, if_pos hq, hp]
        exact ⟨l.tail, hs, by rw [goS, hb], by rw [valD, hb]⟩
theorem beg_none {e deep : Int} {most : Nat} {W : Int → ByteArray} {s : RS} (h3 : ∀ j : Nat, 1 ≤ j → j ≤ most → isS (W j) (begS e deep s) = false) :
    goS (begP e deep most W) s = goS (wrongP e 5) (begS e deep s) ∧ valD (begP e deep most W) 0 s = 0 := by
  cases s with
  | error y => rw [beg_err]; exact ⟨rfl, rfl⟩
  | ok l =>
    by_cases hd : 12 < deep
    · have h1 : begS e deep (.ok l) = .error (failAt e l 4) := by rw [begS, if_pos hd]; rfl
      have hb : begP e deep most W l = .error (failAt e l 4) := by rw [begP, if_pos hd]
      exact ⟨by rw [h1]; show _ = Except.error _; rw [goS, hb], by rw [valD, hb]⟩
    · cases hq : isT lpar l with
      | false =>
        have h1 : begS e deep (.ok l) = .error (failAt e l 5) := by rw [begS, if_neg hd, goS, mustP, if_neg (by rw [hq]; exact Bool.noConfusion)]
        have hb : begP e deep most W l = .error (failAt e l 5) := by rw [begP, if_neg hd, if_neg (by rw [hq]; exact Bool.noConfusion)]
        exact ⟨by rw [h1]; show _ = Except.error _; rw [goS, hb], by rw [valD, hb]⟩
      | true =>
        have hs : begS e deep (.ok l) = .ok l.tail := by rw [begS, if_neg hd, goS, mustP, if_pos hq]
        rw [hs] at h3
        have hp : pickT W most l.tail = none := pickG_no _ 1 (fun j a c => h3 j a (by omega))
        have hb : begP e deep most W l = .error (failAt e l.tail 5) := by rw [begP, if_neg hd, if_pos hq, hp]
        exact ⟨by rw [hs, goS, hb]; rfl, by rw [valD, hb]⟩
section
variable (σ : PH) (L : List Tk) (p : Option Addr) (c0 : Nat) (e : Int) (vs : Value) (b : Nat) (s : RS)
theorem begin_r (f : FuncId) (W : Int → ByteArray) (hf : Words f W) (most : Nat) (hm : most ≤ 100) (deep : Int) (hL : PSl 4 rTk σ (.slice p L.length c0) L) :
    CallsA Tryz.prog 40 #[ptr b, i64 deep, i64 most, .func (.func f) #[] #[]] σ [Rg L (.slice p L.length c0) e vs b s] (RetA fun v σ' Γ' => (v = i64 (valD (begP e deep most W) 0 s : Nat) ∧ σ = σ') ∧ Γ' = [Rg L (.slice p L.length c0) e vs b (goS (begP e deep most W) s)]) := by
  have hlen := hL.len_le
  refine enterA4 Tryz.func40 rfl rfl rfl ?_
  refine zS (zR (zO rfl Rd.asg ?_)); refine zN (zT (zS (zS (zR (zA rfl ?_))))); refine zO rfl (Rd.gtr rfl rfl) ?_; refine zN (zT ?_)
  refine XA.join [(12, 13)] (fun _ : Unit => []) (fun _ σ' Γ' => σ = σ' ∧ Γ' = [Rg L (.slice p L.length c0) e vs b (if 12 < deep then goS (wrongP e 4) s else s)]) ?_ ?_
  · skip
    refine XA.condp rfl (fun hd => ?_) (fun hd => ?_)
    · rw [if_pos hd]
      refine zR (zA rfl ?_)
      refine XOA.wr0 rfl (WrA.cE (wrong_r σ L p c0 e vs b s 4 (by decide) hL) rfl) ?_
      rintro _ _ _ ⟨_, ⟨⟨rfl, rfl⟩, rfl⟩, rfl⟩
      refine XOA.cl ?_; refine zN (zT ?_)
      refine ⟨(Keep.updO (Keep.upd (Keep.refl _ _) rfl) rfl), (), _, zM, ?_, ⟨rfl, rfl⟩⟩
      · exact zE
    · rw [if_neg hd]
      refine XA.skip (zT ?_)
      refine ⟨(Keep.refl _ _), (), _, zM, ?_, ⟨rfl, rfl⟩⟩
      · exact zE
  rintro _ δ _ _ ⟨rfl, rfl⟩
  dsimp only [ovr, List.foldl]
  refine zT (zS (zR (zA rfl ?_)))
  refine XOA.wr0 rfl (WrA.cE (must_r σ L p c0 e vs b _ lpar hL) rfl) ?_
  rintro _ _ _ ⟨_, ⟨⟨rfl, rfl⟩, rfl⟩, rfl⟩
  refine XOA.cl ?_
  have hS : goS (mustP e lpar) (if 12 < deep then goS (wrongP e 4) s else s) = begS e deep s := rfl
  rw [hS]
  refine zN (zT (zS (zS (zR (zO rfl Rd.asg ?_))))); refine zN (zT (XA.block ?_))
  refine XA.gen [(0, _), (2, _), (3, _), (8, _), (9, _)] ⟨(by with_reducible (conv => lhs; whnf)), (by with_reducible (conv => lhs; whnf)), (by with_reducible (conv => lhs; whnf)), (by with_reducible (conv => lhs; whnf)), (by with_reducible (conv => lhs; whnf)), trivial⟩ (fun δ => ?_)
  dsimp only [List.foldl]
  refine XA.loop [(8, 9), (16, 33)] (fun k : Nat => [(9, i64 k)]) (fun k σ' Γ' => σ = σ' ∧ 1 ≤ k ∧ k ≤ most + 1 ∧ (∀ j : Nat, 1 ≤ j → j < k → isS (W j) (begS e deep s) = false) ∧ Γ' = [Rg L (.slice p L.length c0) e vs b (begS e deep s)]) (fun k => most + 1 - k) 1 (by exact ⟨rfl, trivial⟩) (Δ0 := _) ?_ (⟨rfl, Nat.le_refl _, by omega, fun j a c => by omega, rfl⟩) ?_
  · exact zE
  rintro k δ _ _ ⟨rfl, hk1, hk2, hall, rfl⟩
  dsimp only [ovr, List.foldl]
  have hk1 : 1 ≤ k := hk1
  have hk2 : k ≤ most + 1 := hk2
  by_cases q : k ≤ most
  · cases hi : isS (W k) (begS e deep s) with
    | true =>
      obtain ⟨l2, h1, h2, h3⟩ := beg_some hk1 q hi hall
      have his := is_r σ L p c0 e vs b (begS e deep s) (W k) hL
      rw [hi, h1] at his
      rw [h1] at hi
      rw [h2, h3, h1]
      obtain ⟨t, r, rfl⟩ := isT_cons hi
      refine zS (zS (zR (zA rfl ?_))); refine zA rfl ?_; refine zO rfl (Rd.leq rfl rfl) ?_; refine zN (zT (XA.condT rfl (by first | rfl | exact decide_eq_true (by omega)) ?_)); refine XA.skip (zT (zS (XA.block (zS (zR (zA rfl ?_)))))); refine zA rfl ?_; refine zA rfl ?_
      refine XOA.wr0 rfl (WrA.cV (first := []) (cap := []) rfl (hf σ k) rfl) ?_
      rintro _ _ _ ⟨_, ⟨rfl, rfl, rfl⟩, rfl⟩
      refine XOA.cl ?_
      refine XOA.wr0 rfl (WrA.cE (his) rfl) ?_
      rintro _ _ _ ⟨_, ⟨⟨rfl, rfl⟩, rfl⟩, rfl⟩
      refine XOA.cl ?_; refine zN (zT (XA.condT rfl rfl (zS (zR ?_))))
      first | refine XA.opn (R := Rg _ _ _ _ _ _) zL (Rg.okO) ?_ | refine XOA.opn (R := Rg _ _ _ _ _ _) zL (Rg.okO) ?_ | refine DA.opn (R := Rg _ _ _ _ _ _) zL (Rg.okO) ?_
      rintro n ⟨hn1, hn2⟩
      first | refine XA.cl ?_ | refine XOA.cl ?_ | refine DA.cl ?_
      obtain ⟨hx, hlt, hd2⟩ := drop_cons hn2
      refine zA rfl ?_; refine zO rfl (Rd.nilCheck rfl) ?_; refine zV rfl rfl ?_; refine zB rfl rfl (tyrow rfl) rfl ?_; refine zO rfl zI ?_; refine zO rfl (Rd.nilCheck rfl) ?_; refine zV rfl rfl ?_
      refine XOA.wr0 rfl (WrA.st (tyrow rfl) rfl) ?_
      rintro _ _ _ ⟨rfl, rfl, rfl⟩
      refine zN (zT (zS (zR (zA rfl ?_)))); refine zO rfl Rd.asg ?_; refine zN (zT (XA.ret (DA.inb_ret (DA.thn_ret (DA.thn_ret (DA.inb_ret (DA.thn_ret ?_)))))))
      exact bodyA.ret (ResA.one rfl rfl) (Rg.mkO (k := n + 1) hlt hd2) ⟨⟨rfl, rfl⟩, rfl⟩
    | false =>
      have his := is_r σ L p c0 e vs b (begS e deep s) (W k) hL
      rw [hi] at his
      have hall2 : ∀ j : Nat, 1 ≤ j → j < k + 1 → isS (W j) (begS e deep s) = false := fun j a c => by
        by_cases qq : j = k
        · subst qq; exact hi
        · exact hall j a (by omega)
      refine zS (zS (zR (zA rfl ?_))); refine zA rfl ?_; refine zO rfl (Rd.leq rfl rfl) ?_; refine zN (zT (XA.condT rfl (by first | rfl | exact decide_eq_true (by omega)) ?_)); refine XA.skip (zT (zS (XA.block (zS (zR (zA rfl ?_)))))); refine zA rfl ?_; refine zA rfl ?_
      refine XOA.wr0 rfl (WrA.cV (first := []) (cap := []) rfl (hf σ k) rfl) ?_
      rintro _ _ _ ⟨_, ⟨rfl, rfl, rfl⟩, rfl⟩
      refine XOA.cl ?_
      refine XOA.wr0 rfl (WrA.cE (his) rfl) ?_
      rintro _ _ _ ⟨_, ⟨⟨rfl, rfl⟩, rfl⟩, rfl⟩
      refine XOA.cl ?_; refine zN (zT (XA.condF rfl rfl (XA.skip (DA.inb_normal (zT (zR (zA rfl ?_))))))); refine zO rfl zI ?_; refine zO rfl Rd.asg ?_; refine zN (zT ?_)
      refine ⟨(Keep.upd (Keep.upd (Keep.upd (Keep.updO (Keep.updO (Keep.upd (Keep.upd (Keep.upd (Keep.upd (Keep.upd (Keep.upd (Keep.upd (Keep.hav (Keep.hav (Keep.refl _ _) rfl) rfl) rfl) rfl) rfl) rfl) rfl) rfl) rfl) rfl) rfl) rfl) rfl) rfl), k + 1, _, zM, ?_, ⟨rfl, by show 1 ≤ k + 1; omega, by show k + 1 ≤ most + 1; omega, hall2, rfl⟩, (by omega)⟩
      · exact zE
  · obtain ⟨h1, h2⟩ := beg_none (W := W) (most := most) (fun j a c => hall j a (by omega))
    rw [h1, h2]
    refine zS (zS (zR (zA rfl ?_))); refine zA rfl ?_; refine zO rfl (Rd.leq rfl rfl) ?_; refine zN (zT (XA.condF rfl (by first | rfl | exact decide_eq_false (by omega)) ?_)); refine XA.exit (DA.thn_exit (DA.thn_exit (DA.inb_same (zT (zS (zR (zA rfl ?_)))))))
    refine XOA.wr0 rfl (WrA.cE (wrong_r σ L p c0 e vs b (begS e deep s) 5 (by decide) hL) rfl) ?_
    rintro _ _ _ ⟨_, ⟨⟨rfl, rfl⟩, rfl⟩, rfl⟩
    refine XOA.cl ?_; refine zN (zT (zS (zR (zO rfl Rd.asg ?_)))); refine zN (zT (XA.ret ?_))
    exact bodyA.ret (ResA.one rfl rfl) zE ⟨⟨rfl, rfl⟩, rfl⟩
end
end Go.Proofs.YthefnnkmpcgcmaaGreatDoor

namespace Go.Proofs.YthefnnkmpcgcmaaGreatDoor
open Go X
set_option maxHeartbeats 4000000
theorem Rg.any {L : List Tk} {sl vs : Value} {e : Int} {b : Nat} {s : RS} : ∀ m, Rg L sl e vs b s m → ∃ x : Nat × (Int × Int), (x.1 ≤ L.length ∧ match s with | .ok l => x.2.1 = 0 ∧ x.2.2 = 0 ∧ L.drop x.1 = l | .error y => x.2.1 = y.1 ∧ x.2.2 = y.2 ∧ y.1 ≠ 0) ∧ Sat [rblk b sl e x.1 x.2.1 x.2.2 vs] m := by
  rintro m ⟨k, c, a, h, h2⟩; exact ⟨(k, (c, a)), h2, sat1 h⟩
theorem Rg.mk {L : List Tk} {sl vs : Value} {e : Int} {b k : Nat} {c a : Int} {s : RS} (h : k ≤ L.length ∧ match s with | .ok l => c = 0 ∧ a = 0 ∧ L.drop k = l | .error y => c = y.1 ∧ a = y.2 ∧ y.1 ≠ 0) : Ent [rblk b sl e k c a vs] [Rg L sl e vs b s] := Ent.one (fun m hm => ⟨k, c, a, hm, h⟩)
theorem var_err {vl : List Va} {e : Int} {s : RS} {y : Int × Int} (h : goS (nameP e) s = .error y) : goS (varP vl e) s = .error y ∧ valD (varP vl e) 0 s = 0 := by
  cases s with
  | error z => exact ⟨h, rfl⟩
  | ok l =>
    cases l with
    | nil => exact ⟨h, rfl⟩
    | cons t r =>
      rw [goS, nameP] at h
      cases hq : nameOk t.text with
      | true => rw [hq] at h; cases h
      | false =>
        rw [hq] at h
        have hv : varP vl e (t :: r) = .error (failAt e (t :: r) 5) := by rw [varP, if_neg (by rw [hq]; exact Bool.noConfusion)]
        exact ⟨by rw [goS, hv]; exact h, by rw [valD, hv]⟩
theorem name_good {e : Int} {s : RS} {r : List Tk} (h : goS (nameP e) s = .ok r) : ∃ t, s = .ok (t :: r) ∧ nameOk t.text = true ∧ valD (nameP e) ByteArray.empty s = t.text := by
  cases s with
  | error z => cases h
  | ok l =>
    cases l with
    | nil => cases h
    | cons t r' =>
      rw [goS, nameP] at h
      cases hq : nameOk t.text with
      | true =>
        rw [hq] at h
        cases h
        exact ⟨t, rfl, hq, by rw [valD, nameP, if_pos hq]⟩
      | false => rw [hq] at h; cases h
section
variable (σ : PH) (L : List Tk) (p : Option Addr) (c0 : Nat) (e : Int) (b : Nat) (s : RS)
theorem variable_r (vl : List Va) (pv : Option Addr) (cv : Nat) (hv : PSl 2 rVa σ (.slice pv vl.length cv) vl) (hL : PSl 4 rTk σ (.slice p L.length c0) L) (hF : ∀ t ∈ L, TkF t) :
    CallsA Tryz.prog 42 #[ptr b] σ [Rg L (.slice p L.length c0) e (.slice pv vl.length cv) b s] (RetA fun v σ' Γ' => (v = i64 (valD (varP vl e) 0 s) ∧ σ = σ') ∧ Γ' = [Rg L (.slice p L.length c0) e (.slice pv vl.length cv) b (goS (varP vl e) s)]) := by
  have hvlen := hv.len_le
  refine CallsA.opn .head Rg.any (enters Tryz.func42 rfl rfl) ?_
  rintro ⟨k, c, a⟩ hkk
  simp only at hkk
  have hname := CallsA.pre (Rg.mk (b := b) (sl := .slice p L.length c0) (e := e) (vs := .slice pv vl.length cv) hkk) (name_r σ L p c0 e (.slice pv vl.length cv) b s hL hF)
  show CallsA _ _ _ _ [rblk b (.slice p L.length c0) e k c a (.slice pv vl.length cv)] _
  cases hn : goS (nameP e) s with
  | error y =>
    obtain ⟨h1, h2⟩ := var_err (vl := vl) hn
    rw [hn] at hname
    rw [h1, h2]
    refine enterA1 Tryz.func42 rfl rfl rfl ?_
    refine zS (zR (zO rfl Rd.asg ?_)); refine zN (zT (zS (zR (zA rfl ?_)))); refine zO rfl (Rd.nilCheck rfl) ?_; refine zV rfl rfl ?_; refine zB rfl rfl (tyrow rfl) rfl ?_; refine zO rfl Rd.asg ?_; refine zN (zT (zS (zR (zA rfl ?_))))
    refine XOA.wr0 rfl (WrA.cE (hname) rfl) ?_
    rintro _ _ _ ⟨_, ⟨⟨rfl, rfl⟩, rfl⟩, rfl⟩
    refine XOA.cl ?_
    first | refine XA.opn (R := Rg _ _ _ _ _ _) zL (Rg.erO) ?_ | refine XOA.opn (R := Rg _ _ _ _ _ _) zL (Rg.erO) ?_ | refine DA.opn (R := Rg _ _ _ _ _ _) zL (Rg.erO) ?_
    rintro k2 ⟨hk2, hy⟩
    first | refine XA.cl ?_ | refine XOA.cl ?_ | refine DA.cl ?_
    have hoke := rok_e σ e (.slice pv vl.length cv) b k2 (.slice p L.length c0) y.1 y.2 hy
    refine zO rfl Rd.asg ?_; refine zN (zT (zS (zS (zR (zO rfl Rd.asg ?_))))); refine zN (zT (XA.block ?_))
    refine XA.gen [(0, _), (2, _), (3, _), (4, _), (5, _)] ⟨(by with_reducible (conv => lhs; whnf)), (by with_reducible (conv => lhs; whnf)), (by with_reducible (conv => lhs; whnf)), (by with_reducible (conv => lhs; whnf)), (by with_reducible (conv => lhs; whnf)), trivial⟩ (fun δ => ?_)
    dsimp only [List.foldl]
    refine XA.loop [(2, 2), (5, 5), (12, 35)] (fun i : Nat => [(5, i64 i)]) (fun i σ' Γ' => σ = σ' ∧ i = 0 ∧ Γ' = [rblk b (.slice p L.length c0) e k2 y.1 y.2 (.slice pv vl.length cv)]) (fun _ => 0) 0 (by exact ⟨rfl, trivial⟩) (Δ0 := _) ?_ (⟨rfl, rfl, rfl⟩) ?_
    · exact zE
    rintro i δ _ _ ⟨rfl, hi0, rfl⟩
    dsimp only [ovr, List.foldl]
    have hi0 : i = 0 := hi0
    subst hi0
    by_cases hpos : 0 < vl.length
    · have hpos' : (0 : Int) < (vl.length : Nat) := by omega
      refine zS (zS (zR (zA rfl ?_))); refine zA rfl ?_; refine zO rfl (Rd.nilCheck rfl) ?_; refine zV rfl rfl ?_; refine zB rfl rfl (tyrow rfl) rfl ?_; refine zO rfl (Rd.lenSlice (tyrow rfl) rfl rfl) ?_; refine zO rfl (Rd.lss rfl rfl) ?_; refine zA rfl ?_
      first | (refine zG ?_; refine zA rfl ?_) | refine zH ?_
      first | refine XOA.wanted rfl rfl ?_ | refine XOA.wq rfl rfl ?_
      refine XOA.wr0 rfl (WrA.cE (hoke) rfl) ?_
      rintro _ _ _ ⟨_, ⟨rfl, rfl, rfl⟩, rfl⟩
      refine XOA.cl ?_; refine zO rfl zP ?_; refine zN (zT (XA.condF rfl rfl (XA.exit (DA.thn_exit (DA.thn_exit (DA.inb_same (zT (zS (zS (zR (zA rfl ?_)))))))))))
      refine XOA.wr0 rfl (WrA.cE (hoke) rfl) ?_
      rintro _ _ _ ⟨_, ⟨rfl, rfl, rfl⟩, rfl⟩
      refine XOA.cl ?_; refine zN (zT (XA.condF rfl rfl (XA.skip (zT (zS (zR (zO rfl Rd.asg ?_))))))); refine zN (zT (XA.ret ?_))
      exact bodyA.ret (ResA.one rfl rfl) (Rg.mkE hk2 hy) ⟨⟨rfl, rfl⟩, rfl⟩
    · have hpos' : ¬ (0 : Int) < (vl.length : Nat) := by omega
      refine zS (zS (zR (zA rfl ?_))); refine zA rfl ?_; refine zO rfl (Rd.nilCheck rfl) ?_; refine zV rfl rfl ?_; refine zB rfl rfl (tyrow rfl) rfl ?_; refine zO rfl (Rd.lenSlice (tyrow rfl) rfl rfl) ?_; refine zO rfl (Rd.lss rfl rfl) ?_; refine zA rfl ?_
      first | (refine zG ?_; refine zA rfl ?_) | refine zH ?_
      first | refine zH ?_
      refine zO rfl zP ?_; refine zN (zT (XA.condF rfl rfl (XA.exit (DA.thn_exit (DA.thn_exit (DA.inb_same (zT (zS (zS (zR (zA rfl ?_)))))))))))
      refine XOA.wr0 rfl (WrA.cE (hoke) rfl) ?_
      rintro _ _ _ ⟨_, ⟨rfl, rfl, rfl⟩, rfl⟩
      refine XOA.cl ?_; refine zN (zT (XA.condF rfl rfl (XA.skip (zT (zS (zR (zO rfl Rd.asg ?_))))))); refine zN (zT (XA.ret ?_))
      exact bodyA.ret (ResA.one rfl rfl) (Rg.mkE hk2 hy) ⟨⟨rfl, rfl⟩, rfl⟩
  | ok r =>
    obtain ⟨t, rfl, hnok, hval⟩ := name_good hn
    obtain ⟨hk, rfl, rfl, hd⟩ := hkk
    rw [hn, hval] at hname
    refine enterA1 Tryz.func42 rfl rfl rfl ?_
    refine zS (zR (zO rfl Rd.asg ?_)); refine zN (zT (zS (zR (zA rfl ?_)))); refine zO rfl (Rd.nilCheck rfl) ?_; refine zV rfl rfl ?_; refine zB rfl rfl (tyrow rfl) rfl ?_; refine zO rfl Rd.asg ?_; refine zN (zT (zS (zR (zA rfl ?_))))
    refine XOA.wr0 rfl (WrA.cE (hname) rfl) ?_
    rintro _ _ _ ⟨_, ⟨⟨rfl, rfl⟩, rfl⟩, rfl⟩
    refine XOA.cl ?_
    first | refine XA.opn (R := Rg _ _ _ _ _ _) zL (Rg.okO) ?_ | refine XOA.opn (R := Rg _ _ _ _ _ _) zL (Rg.okO) ?_ | refine DA.opn (R := Rg _ _ _ _ _ _) zL (Rg.okO) ?_
    rintro k2 ⟨hk2, hd2⟩
    first | refine XA.cl ?_ | refine XOA.cl ?_ | refine DA.cl ?_
    have hoko := rok_o σ e (.slice pv vl.length cv) b k2 (.slice p L.length c0)
    refine zO rfl Rd.asg ?_; refine zN (zT (zS (zS (zR (zO rfl Rd.asg ?_))))); refine zN (zT (XA.block ?_))
    refine XA.gen [(0, _), (2, _), (3, _), (4, _), (5, _)] ⟨(by with_reducible (conv => lhs; whnf)), (by with_reducible (conv => lhs; whnf)), (by with_reducible (conv => lhs; whnf)), (by with_reducible (conv => lhs; whnf)), (by with_reducible (conv => lhs; whnf)), trivial⟩ (fun δ => ?_)
    dsimp only [List.foldl]
    refine XA.loop [(2, 2), (5, 5), (12, 35)] (fun i : Nat => [(5, i64 i)]) (fun i σ' Γ' => σ = σ' ∧ i ≤ vl.length ∧ idxG t.text vl 0 = idxG t.text (vl.drop i) i ∧ Γ' = [rblk b (.slice p L.length c0) e k2 0 0 (.slice pv vl.length cv)]) (fun i => vl.length - i) 0 (by exact ⟨rfl, trivial⟩) (Δ0 := _) ?_ (⟨rfl, Nat.zero_le _, rfl, rfl⟩) ?_
    · exact zE
    rintro i δ _ _ ⟨rfl, hi, hall, rfl⟩
    dsimp only [ovr, List.foldl]
    have hi : i ≤ vl.length := hi
    have hall : idxG t.text vl 0 = idxG t.text (vl.drop i) i := hall
    by_cases hlt : i < vl.length
    · have hlt' : (i : Int) < (vl.length : Nat) := by omega
      obtain ⟨w, hw⟩ : ∃ w, vl[i]? = some w := ⟨_, List.getElem?_eq_getElem hlt⟩
      obtain ⟨gg, o, row, rfl, ⟨rfl, -, -⟩, -, hrow⟩ := hv.at hw
      have a0 : PRow σ gg (o + i * 2) [.string w.name] := hrow.sub (j := 0) rfl
      rw [drop_get hw, idxG] at hall
      refine zS (zS (zR (zA rfl ?_))); refine zA rfl ?_; refine zO rfl (Rd.nilCheck rfl) ?_; refine zV rfl rfl ?_; refine zB rfl rfl (tyrow rfl) rfl ?_; refine zO rfl (Rd.lenSlice (tyrow rfl) rfl rfl) ?_; refine zO rfl (Rd.lss rfl rfl) ?_; refine zA rfl ?_
      first | (refine zG ?_; refine zA rfl ?_) | refine zH ?_
      first | refine XOA.wanted rfl rfl ?_ | refine XOA.wq rfl rfl ?_
      refine XOA.wr0 rfl (WrA.cE (hoko) rfl) ?_
      rintro _ _ _ ⟨_, ⟨rfl, rfl, rfl⟩, rfl⟩
      refine XOA.cl ?_; refine zO rfl zP ?_; refine zN (zT (XA.condT rfl rfl (XA.skip (zT (zS (XA.block (zS (zR (zA rfl ?_))))))))); refine zO rfl (Rd.nilCheck rfl) ?_; refine zV rfl rfl ?_; refine zB rfl rfl (tyrow rfl) rfl ?_; refine zA rfl ?_; refine zO rfl (Rd.ixS rfl rfl) ?_; refine zV rfl rfl ?_
      refine zB rfl rfl (tyrow rfl) rfl ?_; refine zA rfl ?_; refine zO rfl (Rd.eqls rfl rfl) ?_; refine zN (zT ?_)
      refine XA.condp rfl (fun hc => ?_) (fun hc => ?_)
      · rw [if_pos hc] at hall
        have hvp : varP vl e (t :: r) = .ok ((i : Int), r) := by rw [varP, if_pos hnok, hall]
        refine zS (zR (zA rfl ?_)); refine zO rfl Rd.asg ?_; refine zN (zT (XA.ret (DA.inb_ret (DA.thn_ret (DA.thn_ret (DA.inb_ret (DA.thn_ret ?_)))))))
        exact bodyA.ret (ResA.one rfl rfl) (Rg.mkO hk2 hd2) ⟨⟨by rw [valD, hvp], rfl⟩, by rw [goS, hvp]⟩
      · rw [if_neg hc] at hall
        refine XA.skip (DA.inb_normal (zT (zR (zA rfl ?_)))); refine zO rfl zI ?_; refine zO rfl Rd.asg ?_; refine zN (zT ?_)
        refine ⟨(Keep.upd (Keep.upd (Keep.upd (Keep.upd (Keep.upd (Keep.upd (Keep.upd (Keep.upd (Keep.upd (Keep.upd (Keep.upd (Keep.upd (Keep.upd (Keep.upd (Keep.updO (Keep.upd (Keep.upd (Keep.upd (Keep.upd (Keep.upd (Keep.upd (Keep.upd (Keep.upd (Keep.upd (Keep.upd (Keep.hav (Keep.hav (Keep.hav (Keep.refl _ _) rfl) rfl) rfl) rfl) rfl) rfl) rfl) rfl) rfl) rfl) rfl) rfl) rfl) rfl) rfl) rfl) rfl) rfl) rfl) rfl) rfl) rfl) rfl) rfl) rfl) rfl) rfl) rfl), i + 1, _, zM, ?_, ⟨rfl, hlt, hall, rfl⟩, (by omega)⟩
        · exact zE
    · have hlt' : ¬ (i : Int) < (vl.length : Nat) := by omega
      have hil : i = vl.length := by omega
      subst hil
      rw [List.drop_length, idxG] at hall
      have hvp : varP vl e (t :: r) = .error (failAt e (t :: r) 10) := by rw [varP, if_pos hnok, hall]
      refine zS (zS (zR (zA rfl ?_))); refine zA rfl ?_; refine zO rfl (Rd.nilCheck rfl) ?_; refine zV rfl rfl ?_; refine zB rfl rfl (tyrow rfl) rfl ?_; refine zO rfl (Rd.lenSlice (tyrow rfl) rfl rfl) ?_; refine zO rfl (Rd.lss rfl rfl) ?_; refine zA rfl ?_
      first | (refine zG ?_; refine zA rfl ?_) | refine zH ?_
      first | refine zH ?_
      refine zO rfl zP ?_; refine zN (zT (XA.condF rfl rfl (XA.exit (DA.thn_exit (DA.thn_exit (DA.inb_same (zT (zS (zS (zR (zA rfl ?_)))))))))))
      refine XOA.wr0 rfl (WrA.cE (hoko) rfl) ?_
      rintro _ _ _ ⟨_, ⟨rfl, rfl, rfl⟩, rfl⟩
      refine XOA.cl ?_; refine zN (zT (XA.condT rfl rfl (zS (zR (zA rfl ?_))))); refine zA rfl ?_; refine zO rfl (Rd.nilCheck rfl) ?_; refine zV rfl rfl ?_
      refine XOA.wr0 rfl (WrA.st (tyrow rfl) rfl) ?_
      rintro _ _ _ ⟨rfl, rfl, rfl⟩
      refine zN (zT (zR (zA rfl ?_)))
      refine XOA.wr0 rfl (WrA.cE (wrong_o σ L p c0 e _ b k 10 hL hk) rfl) ?_
      rintro _ _ _ ⟨_, ⟨rfl, rfl, rfl⟩, rfl⟩
      refine XOA.cl ?_; refine zN (zT (zS (zR (zO rfl Rd.asg ?_)))); refine zN (zT (XA.ret ?_))
      rw [hd]
      exact bodyA.ret (ResA.one rfl rfl) (Rg.mkE hk (failAt_nz (by decide))) ⟨⟨by rw [valD, hvp], rfl⟩, by rw [goS, hvp]⟩
end
end Go.Proofs.YthefnnkmpcgcmaaGreatDoor

namespace Go.Proofs.YthefnnkmpcgcmaaGreatDoor
open Go X
set_option maxHeartbeats 4000000
theorem rword_p (σ : PH) (k : Int) : CallsA Tryz.prog 9 #[i64 k] σ [] (RetA fun v σ' Γ' => v = .string (wordOf k) ∧ σ = σ' ∧ Γ' = []) := by
  by_cases h1 : k < 1
  · have hw : wordOf k = ByteArray.empty := by rw [wordOf, if_neg (by omega)]
    rw [hw]
    refine enterA1 Tryz.func9 rfl rfl rfl ?_
    refine zS (zR (zO rfl Rd.asg ?_)); refine zN (zT (zS (zR ?_)))
    refine XOA.wr0 rfl (WrA.bs (fun _ _ => tyrow) rfl rfl rfl rfl rfl) ?_
    rintro _ _ _ ⟨g4, rfl, rfl, rfl⟩
    refine zO rfl Rd.asg ?_; refine zN (zT (zS (zS (zR (zA rfl ?_))))); refine zO rfl (Rd.lss rfl rfl) ?_; refine zA rfl ?_
    first | (refine zG ?_; refine zA rfl ?_) | refine zH ?_
    first | (refine zG ?_; refine zA rfl ?_) | refine zH ?_
    first | (refine zG ?_; refine zO rfl (Rd.lenSlice (tyrow rfl) rfl rfl) ?_) | refine zH ?_
    first | (refine zG ?_; refine zO rfl (Rd.gtr rfl rfl) ?_) | refine zH ?_
    refine zO rfl zP ?_; refine zN (zT (XA.condT rfl rfl (zS (zR (zO rfl Rd.asg ?_))))); refine zN (zT (XA.ret (DA.thn_ret ?_)))
    exact bodyA.ret (ResA.one rfl rfl) (Ent.nil _) ⟨rfl, rfl, rfl⟩
  by_cases h7 : k > 8
  · have hw : wordOf k = ByteArray.empty := by rw [wordOf, if_neg (by omega)]
    rw [hw]
    refine enterA1 Tryz.func9 rfl rfl rfl ?_
    refine zS (zR (zO rfl Rd.asg ?_)); refine zN (zT (zS (zR ?_)))
    refine XOA.wr0 rfl (WrA.bs (fun _ _ => tyrow) rfl rfl rfl rfl rfl) ?_
    rintro _ _ _ ⟨g4, rfl, rfl, rfl⟩
    refine zO rfl Rd.asg ?_; refine zN (zT (zS (zS (zR (zA rfl ?_))))); refine zO rfl (Rd.lss rfl rfl) ?_; refine zA rfl ?_
    first | (refine zG ?_; refine zA rfl ?_) | refine zH ?_
    first | (refine zG ?_; refine zA rfl ?_) | refine zH ?_
    first | (refine zG ?_; refine zO rfl (Rd.lenSlice (tyrow rfl) rfl rfl) ?_) | refine zH ?_
    first | (refine zG ?_; refine zO rfl (Rd.gtr rfl rfl) ?_) | refine zH ?_
    refine zO rfl zP ?_; refine zN (zT (XA.condT rfl (by first | rfl | exact decide_eq_true (by omega)) ?_)); refine zS (zR (zO rfl Rd.asg ?_)); refine zN (zT (XA.ret (DA.thn_ret ?_)))
    exact bodyA.ret (ResA.one rfl rfl) (Ent.nil _) ⟨rfl, rfl, rfl⟩
  have hop : k = 1 ∨ k = 2 ∨ k = 3 ∨ k = 4 ∨ k = 5 ∨ k = 6 ∨ k = 7 ∨ k = 8 := by omega
  clear h1 h7
  rcases hop with rfl | rfl | rfl | rfl | rfl | rfl | rfl | rfl
  · refine enterA1 Tryz.func9 rfl rfl rfl ?_
    refine zS (zR (zO rfl Rd.asg ?_)); refine zN (zT (zS (zR ?_)))
    refine XOA.wr0 rfl (WrA.bs (fun _ _ => tyrow) rfl rfl rfl rfl rfl) ?_
    rintro _ _ _ ⟨g4, rfl, rfl, rfl⟩
    refine zO rfl Rd.asg ?_; refine zN (zT (zS (zS (zR (zA rfl ?_))))); refine zO rfl (Rd.lss rfl rfl) ?_; refine zA rfl ?_
    first | (refine zG ?_; refine zA rfl ?_) | refine zH ?_
    first | (refine zG ?_; refine zA rfl ?_) | refine zH ?_
    first | (refine zG ?_; refine zO rfl (Rd.lenSlice (tyrow rfl) rfl rfl) ?_) | refine zH ?_
    first | (refine zG ?_; refine zO rfl (Rd.gtr rfl rfl) ?_) | refine zH ?_
    refine zO rfl zP ?_; refine zN (zT (XA.condF rfl rfl (XA.skip (zT (zS (zR (zA rfl ?_))))))); refine zA rfl ?_; refine zO rfl (by first | exact Rd.sbi rfl rfl | exact Rd.sub rfl rfl) ?_; refine zO rfl (Rd.ixS rfl rfl) ?_; refine zB rfl rfl (tyrow rfl) rfl ?_; refine zO rfl Rd.asg ?_
    refine zN (zT (XA.ret ?_))
    exact bodyA.ret (ResA.one rfl rfl) (Ent.nil _) ⟨rfl, rfl, rfl⟩
  · refine enterA1 Tryz.func9 rfl rfl rfl ?_
    refine zS (zR (zO rfl Rd.asg ?_)); refine zN (zT (zS (zR ?_)))
    refine XOA.wr0 rfl (WrA.bs (fun _ _ => tyrow) rfl rfl rfl rfl rfl) ?_
    rintro _ _ _ ⟨g4, rfl, rfl, rfl⟩
    refine zO rfl Rd.asg ?_; refine zN (zT (zS (zS (zR (zA rfl ?_))))); refine zO rfl (Rd.lss rfl rfl) ?_; refine zA rfl ?_
    first | (refine zG ?_; refine zA rfl ?_) | refine zH ?_
    first | (refine zG ?_; refine zA rfl ?_) | refine zH ?_
    first | (refine zG ?_; refine zO rfl (Rd.lenSlice (tyrow rfl) rfl rfl) ?_) | refine zH ?_
    first | (refine zG ?_; refine zO rfl (Rd.gtr rfl rfl) ?_) | refine zH ?_
    refine zO rfl zP ?_; refine zN (zT (XA.condF rfl rfl (XA.skip (zT (zS (zR (zA rfl ?_))))))); refine zA rfl ?_; refine zO rfl (by first | exact Rd.sbi rfl rfl | exact Rd.sub rfl rfl) ?_; refine zO rfl (Rd.ixS rfl rfl) ?_; refine zB rfl rfl (tyrow rfl) rfl ?_; refine zO rfl Rd.asg ?_
    refine zN (zT (XA.ret ?_))
    exact bodyA.ret (ResA.one rfl rfl) (Ent.nil _) ⟨rfl, rfl, rfl⟩
  · refine enterA1 Tryz.func9 rfl rfl rfl ?_
    refine zS (zR (zO rfl Rd.asg ?_)); refine zN (zT (zS (zR ?_)))
    refine XOA.wr0 rfl (WrA.bs (fun _ _ => tyrow) rfl rfl rfl rfl rfl) ?_
    rintro _ _ _ ⟨g4, rfl, rfl, rfl⟩
    refine zO rfl Rd.asg ?_; refine zN (zT (zS (zS (zR (zA rfl ?_))))); refine zO rfl (Rd.lss rfl rfl) ?_; refine zA rfl ?_
    first | (refine zG ?_; refine zA rfl ?_) | refine zH ?_
    first | (refine zG ?_; refine zA rfl ?_) | refine zH ?_
    first | (refine zG ?_; refine zO rfl (Rd.lenSlice (tyrow rfl) rfl rfl) ?_) | refine zH ?_
    first | (refine zG ?_; refine zO rfl (Rd.gtr rfl rfl) ?_) | refine zH ?_
    refine zO rfl zP ?_; refine zN (zT (XA.condF rfl rfl (XA.skip (zT (zS (zR (zA rfl ?_))))))); refine zA rfl ?_; refine zO rfl (by first | exact Rd.sbi rfl rfl | exact Rd.sub rfl rfl) ?_; refine zO rfl (Rd.ixS rfl rfl) ?_; refine zB rfl rfl (tyrow rfl) rfl ?_; refine zO rfl Rd.asg ?_
    refine zN (zT (XA.ret ?_))
    exact bodyA.ret (ResA.one rfl rfl) (Ent.nil _) ⟨rfl, rfl, rfl⟩
  · refine enterA1 Tryz.func9 rfl rfl rfl ?_
    refine zS (zR (zO rfl Rd.asg ?_)); refine zN (zT (zS (zR ?_)))
    refine XOA.wr0 rfl (WrA.bs (fun _ _ => tyrow) rfl rfl rfl rfl rfl) ?_
    rintro _ _ _ ⟨g4, rfl, rfl, rfl⟩
    refine zO rfl Rd.asg ?_; refine zN (zT (zS (zS (zR (zA rfl ?_))))); refine zO rfl (Rd.lss rfl rfl) ?_; refine zA rfl ?_
    first | (refine zG ?_; refine zA rfl ?_) | refine zH ?_
    first | (refine zG ?_; refine zA rfl ?_) | refine zH ?_
    first | (refine zG ?_; refine zO rfl (Rd.lenSlice (tyrow rfl) rfl rfl) ?_) | refine zH ?_
    first | (refine zG ?_; refine zO rfl (Rd.gtr rfl rfl) ?_) | refine zH ?_
    refine zO rfl zP ?_; refine zN (zT (XA.condF rfl rfl (XA.skip (zT (zS (zR (zA rfl ?_))))))); refine zA rfl ?_; refine zO rfl (by first | exact Rd.sbi rfl rfl | exact Rd.sub rfl rfl) ?_; refine zO rfl (Rd.ixS rfl rfl) ?_; refine zB rfl rfl (tyrow rfl) rfl ?_; refine zO rfl Rd.asg ?_
    refine zN (zT (XA.ret ?_))
    exact bodyA.ret (ResA.one rfl rfl) (Ent.nil _) ⟨rfl, rfl, rfl⟩
  · refine enterA1 Tryz.func9 rfl rfl rfl ?_
    refine zS (zR (zO rfl Rd.asg ?_)); refine zN (zT (zS (zR ?_)))
    refine XOA.wr0 rfl (WrA.bs (fun _ _ => tyrow) rfl rfl rfl rfl rfl) ?_
    rintro _ _ _ ⟨g4, rfl, rfl, rfl⟩
    refine zO rfl Rd.asg ?_; refine zN (zT (zS (zS (zR (zA rfl ?_))))); refine zO rfl (Rd.lss rfl rfl) ?_; refine zA rfl ?_
    first | (refine zG ?_; refine zA rfl ?_) | refine zH ?_
    first | (refine zG ?_; refine zA rfl ?_) | refine zH ?_
    first | (refine zG ?_; refine zO rfl (Rd.lenSlice (tyrow rfl) rfl rfl) ?_) | refine zH ?_
    first | (refine zG ?_; refine zO rfl (Rd.gtr rfl rfl) ?_) | refine zH ?_
    refine zO rfl zP ?_; refine zN (zT (XA.condF rfl rfl (XA.skip (zT (zS (zR (zA rfl ?_))))))); refine zA rfl ?_; refine zO rfl (by first | exact Rd.sbi rfl rfl | exact Rd.sub rfl rfl) ?_; refine zO rfl (Rd.ixS rfl rfl) ?_; refine zB rfl rfl (tyrow rfl) rfl ?_; refine zO rfl Rd.asg ?_
    refine zN (zT (XA.ret ?_))
    exact bodyA.ret (ResA.one rfl rfl) (Ent.nil _) ⟨rfl, rfl, rfl⟩
  · refine enterA1 Tryz.func9 rfl rfl rfl ?_
    refine zS (zR (zO rfl Rd.asg ?_)); refine zN (zT (zS (zR ?_)))
    refine XOA.wr0 rfl (WrA.bs (fun _ _ => tyrow) rfl rfl rfl rfl rfl) ?_
    rintro _ _ _ ⟨g4, rfl, rfl, rfl⟩
    refine zO rfl Rd.asg ?_; refine zN (zT (zS (zS (zR (zA rfl ?_))))); refine zO rfl (Rd.lss rfl rfl) ?_; refine zA rfl ?_
    first | (refine zG ?_; refine zA rfl ?_) | refine zH ?_
    first | (refine zG ?_; refine zA rfl ?_) | refine zH ?_
    first | (refine zG ?_; refine zO rfl (Rd.lenSlice (tyrow rfl) rfl rfl) ?_) | refine zH ?_
    first | (refine zG ?_; refine zO rfl (Rd.gtr rfl rfl) ?_) | refine zH ?_
    refine zO rfl zP ?_; refine zN (zT (XA.condF rfl rfl (XA.skip (zT (zS (zR (zA rfl ?_))))))); refine zA rfl ?_; refine zO rfl (by first | exact Rd.sbi rfl rfl | exact Rd.sub rfl rfl) ?_; refine zO rfl (Rd.ixS rfl rfl) ?_; refine zB rfl rfl (tyrow rfl) rfl ?_; refine zO rfl Rd.asg ?_
    refine zN (zT (XA.ret ?_))
    exact bodyA.ret (ResA.one rfl rfl) (Ent.nil _) ⟨rfl, rfl, rfl⟩
  · refine enterA1 Tryz.func9 rfl rfl rfl ?_
    refine zS (zR (zO rfl Rd.asg ?_)); refine zN (zT (zS (zR ?_)))
    refine XOA.wr0 rfl (WrA.bs (fun _ _ => tyrow) rfl rfl rfl rfl rfl) ?_
    rintro _ _ _ ⟨g4, rfl, rfl, rfl⟩
    refine zO rfl Rd.asg ?_; refine zN (zT (zS (zS (zR (zA rfl ?_))))); refine zO rfl (Rd.lss rfl rfl) ?_; refine zA rfl ?_
    first | (refine zG ?_; refine zA rfl ?_) | refine zH ?_
    first | (refine zG ?_; refine zA rfl ?_) | refine zH ?_
    first | (refine zG ?_; refine zO rfl (Rd.lenSlice (tyrow rfl) rfl rfl) ?_) | refine zH ?_
    first | (refine zG ?_; refine zO rfl (Rd.gtr rfl rfl) ?_) | refine zH ?_
    refine zO rfl zP ?_; refine zN (zT (XA.condF rfl rfl (XA.skip (zT (zS (zR (zA rfl ?_))))))); refine zA rfl ?_; refine zO rfl (by first | exact Rd.sbi rfl rfl | exact Rd.sub rfl rfl) ?_; refine zO rfl (Rd.ixS rfl rfl) ?_; refine zB rfl rfl (tyrow rfl) rfl ?_; refine zO rfl Rd.asg ?_
    refine zN (zT (XA.ret ?_))
    exact bodyA.ret (ResA.one rfl rfl) (Ent.nil _) ⟨rfl, rfl, rfl⟩
  · refine enterA1 Tryz.func9 rfl rfl rfl ?_
    refine zS (zR (zO rfl Rd.asg ?_)); refine zN (zT (zS (zR ?_)))
    refine XOA.wr0 rfl (WrA.bs (fun _ _ => tyrow) rfl rfl rfl rfl rfl) ?_
    rintro _ _ _ ⟨g4, rfl, rfl, rfl⟩
    refine zO rfl Rd.asg ?_; refine zN (zT (zS (zS (zR (zA rfl ?_))))); refine zO rfl (Rd.lss rfl rfl) ?_; refine zA rfl ?_
    first | (refine zG ?_; refine zA rfl ?_) | refine zH ?_
    first | (refine zG ?_; refine zA rfl ?_) | refine zH ?_
    first | (refine zG ?_; refine zO rfl (Rd.lenSlice (tyrow rfl) rfl rfl) ?_) | refine zH ?_
    first | (refine zG ?_; refine zO rfl (Rd.gtr rfl rfl) ?_) | refine zH ?_
    refine zO rfl zP ?_; refine zN (zT (XA.condF rfl rfl (XA.skip (zT (zS (zR (zA rfl ?_))))))); refine zA rfl ?_; refine zO rfl (by first | exact Rd.sbi rfl rfl | exact Rd.sub rfl rfl) ?_; refine zO rfl (Rd.ixS rfl rfl) ?_; refine zB rfl rfl (tyrow rfl) rfl ?_; refine zO rfl Rd.asg ?_
    refine zN (zT (XA.ret ?_))
    exact bodyA.ret (ResA.one rfl rfl) (Ent.nil _) ⟨rfl, rfl, rfl⟩
theorem rverb_p (σ : PH) (k : Int) : CallsA Tryz.prog 11 #[i64 k] σ [] (RetA fun v σ' Γ' => v = .string (verbOf k) ∧ σ = σ' ∧ Γ' = []) := by
  by_cases h1 : k < 1
  · have hw : verbOf k = ByteArray.empty := by rw [verbOf, if_neg (by omega)]
    rw [hw]
    refine enterA1 Tryz.func11 rfl rfl rfl ?_
    refine zS (zR (zO rfl Rd.asg ?_)); refine zN (zT (zS (zR ?_)))
    refine XOA.wr0 rfl (WrA.bs (fun _ _ => tyrow) rfl rfl rfl rfl rfl) ?_
    rintro _ _ _ ⟨g4, rfl, rfl, rfl⟩
    refine zO rfl Rd.asg ?_; refine zN (zT (zS (zS (zR (zA rfl ?_))))); refine zO rfl (Rd.lss rfl rfl) ?_; refine zA rfl ?_
    first | (refine zG ?_; refine zA rfl ?_) | refine zH ?_
    first | (refine zG ?_; refine zA rfl ?_) | refine zH ?_
    first | (refine zG ?_; refine zO rfl (Rd.lenSlice (tyrow rfl) rfl rfl) ?_) | refine zH ?_
    first | (refine zG ?_; refine zO rfl (Rd.gtr rfl rfl) ?_) | refine zH ?_
    refine zO rfl zP ?_; refine zN (zT (XA.condT rfl rfl (zS (zR (zO rfl Rd.asg ?_))))); refine zN (zT (XA.ret (DA.thn_ret ?_)))
    exact bodyA.ret (ResA.one rfl rfl) (Ent.nil _) ⟨rfl, rfl, rfl⟩
  by_cases h7 : k > 7
  · have hw : verbOf k = ByteArray.empty := by rw [verbOf, if_neg (by omega)]
    rw [hw]
    refine enterA1 Tryz.func11 rfl rfl rfl ?_
    refine zS (zR (zO rfl Rd.asg ?_)); refine zN (zT (zS (zR ?_)))
    refine XOA.wr0 rfl (WrA.bs (fun _ _ => tyrow) rfl rfl rfl rfl rfl) ?_
    rintro _ _ _ ⟨g4, rfl, rfl, rfl⟩
    refine zO rfl Rd.asg ?_; refine zN (zT (zS (zS (zR (zA rfl ?_))))); refine zO rfl (Rd.lss rfl rfl) ?_; refine zA rfl ?_
    first | (refine zG ?_; refine zA rfl ?_) | refine zH ?_
    first | (refine zG ?_; refine zA rfl ?_) | refine zH ?_
    first | (refine zG ?_; refine zO rfl (Rd.lenSlice (tyrow rfl) rfl rfl) ?_) | refine zH ?_
    first | (refine zG ?_; refine zO rfl (Rd.gtr rfl rfl) ?_) | refine zH ?_
    refine zO rfl zP ?_; refine zN (zT (XA.condT rfl (by first | rfl | exact decide_eq_true (by omega)) ?_)); refine zS (zR (zO rfl Rd.asg ?_)); refine zN (zT (XA.ret (DA.thn_ret ?_)))
    exact bodyA.ret (ResA.one rfl rfl) (Ent.nil _) ⟨rfl, rfl, rfl⟩
  have hop : k = 1 ∨ k = 2 ∨ k = 3 ∨ k = 4 ∨ k = 5 ∨ k = 6 ∨ k = 7 := by omega
  clear h1 h7
  rcases hop with rfl | rfl | rfl | rfl | rfl | rfl | rfl
  · refine enterA1 Tryz.func11 rfl rfl rfl ?_
    refine zS (zR (zO rfl Rd.asg ?_)); refine zN (zT (zS (zR ?_)))
    refine XOA.wr0 rfl (WrA.bs (fun _ _ => tyrow) rfl rfl rfl rfl rfl) ?_
    rintro _ _ _ ⟨g4, rfl, rfl, rfl⟩
    refine zO rfl Rd.asg ?_; refine zN (zT (zS (zS (zR (zA rfl ?_))))); refine zO rfl (Rd.lss rfl rfl) ?_; refine zA rfl ?_
    first | (refine zG ?_; refine zA rfl ?_) | refine zH ?_
    first | (refine zG ?_; refine zA rfl ?_) | refine zH ?_
    first | (refine zG ?_; refine zO rfl (Rd.lenSlice (tyrow rfl) rfl rfl) ?_) | refine zH ?_
    first | (refine zG ?_; refine zO rfl (Rd.gtr rfl rfl) ?_) | refine zH ?_
    refine zO rfl zP ?_; refine zN (zT (XA.condF rfl rfl (XA.skip (zT (zS (zR (zA rfl ?_))))))); refine zA rfl ?_; refine zO rfl (by first | exact Rd.sbi rfl rfl | exact Rd.sub rfl rfl) ?_; refine zO rfl (Rd.ixS rfl rfl) ?_; refine zB rfl rfl (tyrow rfl) rfl ?_; refine zO rfl Rd.asg ?_
    refine zN (zT (XA.ret ?_))
    exact bodyA.ret (ResA.one rfl rfl) (Ent.nil _) ⟨rfl, rfl, rfl⟩
  · refine enterA1 Tryz.func11 rfl rfl rfl ?_
    refine zS (zR (zO rfl Rd.asg ?_)); refine zN (zT (zS (zR ?_)))
    refine XOA.wr0 rfl (WrA.bs (fun _ _ => tyrow) rfl rfl rfl rfl rfl) ?_
    rintro _ _ _ ⟨g4, rfl, rfl, rfl⟩
    refine zO rfl Rd.asg ?_; refine zN (zT (zS (zS (zR (zA rfl ?_))))); refine zO rfl (Rd.lss rfl rfl) ?_; refine zA rfl ?_
    first | (refine zG ?_; refine zA rfl ?_) | refine zH ?_
    first | (refine zG ?_; refine zA rfl ?_) | refine zH ?_
    first | (refine zG ?_; refine zO rfl (Rd.lenSlice (tyrow rfl) rfl rfl) ?_) | refine zH ?_
    first | (refine zG ?_; refine zO rfl (Rd.gtr rfl rfl) ?_) | refine zH ?_
    refine zO rfl zP ?_; refine zN (zT (XA.condF rfl rfl (XA.skip (zT (zS (zR (zA rfl ?_))))))); refine zA rfl ?_; refine zO rfl (by first | exact Rd.sbi rfl rfl | exact Rd.sub rfl rfl) ?_; refine zO rfl (Rd.ixS rfl rfl) ?_; refine zB rfl rfl (tyrow rfl) rfl ?_; refine zO rfl Rd.asg ?_
    refine zN (zT (XA.ret ?_))
    exact bodyA.ret (ResA.one rfl rfl) (Ent.nil _) ⟨rfl, rfl, rfl⟩
  · refine enterA1 Tryz.func11 rfl rfl rfl ?_
    refine zS (zR (zO rfl Rd.asg ?_)); refine zN (zT (zS (zR ?_)))
    refine XOA.wr0 rfl (WrA.bs (fun _ _ => tyrow) rfl rfl rfl rfl rfl) ?_
    rintro _ _ _ ⟨g4, rfl, rfl, rfl⟩
    refine zO rfl Rd.asg ?_; refine zN (zT (zS (zS (zR (zA rfl ?_))))); refine zO rfl (Rd.lss rfl rfl) ?_; refine zA rfl ?_
    first | (refine zG ?_; refine zA rfl ?_) | refine zH ?_
    first | (refine zG ?_; refine zA rfl ?_) | refine zH ?_
    first | (refine zG ?_; refine zO rfl (Rd.lenSlice (tyrow rfl) rfl rfl) ?_) | refine zH ?_
    first | (refine zG ?_; refine zO rfl (Rd.gtr rfl rfl) ?_) | refine zH ?_
    refine zO rfl zP ?_; refine zN (zT (XA.condF rfl rfl (XA.skip (zT (zS (zR (zA rfl ?_))))))); refine zA rfl ?_; refine zO rfl (by first | exact Rd.sbi rfl rfl | exact Rd.sub rfl rfl) ?_; refine zO rfl (Rd.ixS rfl rfl) ?_; refine zB rfl rfl (tyrow rfl) rfl ?_; refine zO rfl Rd.asg ?_
    refine zN (zT (XA.ret ?_))
    exact bodyA.ret (ResA.one rfl rfl) (Ent.nil _) ⟨rfl, rfl, rfl⟩
  · refine enterA1 Tryz.func11 rfl rfl rfl ?_
    refine zS (zR (zO rfl Rd.asg ?_)); refine zN (zT (zS (zR ?_)))
    refine XOA.wr0 rfl (WrA.bs (fun _ _ => tyrow) rfl rfl rfl rfl rfl) ?_
    rintro _ _ _ ⟨g4, rfl, rfl, rfl⟩
    refine zO rfl Rd.asg ?_; refine zN (zT (zS (zS (zR (zA rfl ?_))))); refine zO rfl (Rd.lss rfl rfl) ?_; refine zA rfl ?_
    first | (refine zG ?_; refine zA rfl ?_) | refine zH ?_
    first | (refine zG ?_; refine zA rfl ?_) | refine zH ?_
    first | (refine zG ?_; refine zO rfl (Rd.lenSlice (tyrow rfl) rfl rfl) ?_) | refine zH ?_
    first | (refine zG ?_; refine zO rfl (Rd.gtr rfl rfl) ?_) | refine zH ?_
    refine zO rfl zP ?_; refine zN (zT (XA.condF rfl rfl (XA.skip (zT (zS (zR (zA rfl ?_))))))); refine zA rfl ?_; refine zO rfl (by first | exact Rd.sbi rfl rfl | exact Rd.sub rfl rfl) ?_; refine zO rfl (Rd.ixS rfl rfl) ?_; refine zB rfl rfl (tyrow rfl) rfl ?_; refine zO rfl Rd.asg ?_
    refine zN (zT (XA.ret ?_))
    exact bodyA.ret (ResA.one rfl rfl) (Ent.nil _) ⟨rfl, rfl, rfl⟩
  · refine enterA1 Tryz.func11 rfl rfl rfl ?_
    refine zS (zR (zO rfl Rd.asg ?_)); refine zN (zT (zS (zR ?_)))
    refine XOA.wr0 rfl (WrA.bs (fun _ _ => tyrow) rfl rfl rfl rfl rfl) ?_
    rintro _ _ _ ⟨g4, rfl, rfl, rfl⟩
    refine zO rfl Rd.asg ?_; refine zN (zT (zS (zS (zR (zA rfl ?_))))); refine zO rfl (Rd.lss rfl rfl) ?_; refine zA rfl ?_
    first | (refine zG ?_; refine zA rfl ?_) | refine zH ?_
    first | (refine zG ?_; refine zA rfl ?_) | refine zH ?_
    first | (refine zG ?_; refine zO rfl (Rd.lenSlice (tyrow rfl) rfl rfl) ?_) | refine zH ?_
    first | (refine zG ?_; refine zO rfl (Rd.gtr rfl rfl) ?_) | refine zH ?_
    refine zO rfl zP ?_; refine zN (zT (XA.condF rfl rfl (XA.skip (zT (zS (zR (zA rfl ?_))))))); refine zA rfl ?_; refine zO rfl (by first | exact Rd.sbi rfl rfl | exact Rd.sub rfl rfl) ?_; refine zO rfl (Rd.ixS rfl rfl) ?_; refine zB rfl rfl (tyrow rfl) rfl ?_; refine zO rfl Rd.asg ?_
    refine zN (zT (XA.ret ?_))
    exact bodyA.ret (ResA.one rfl rfl) (Ent.nil _) ⟨rfl, rfl, rfl⟩
  · refine enterA1 Tryz.func11 rfl rfl rfl ?_
    refine zS (zR (zO rfl Rd.asg ?_)); refine zN (zT (zS (zR ?_)))
    refine XOA.wr0 rfl (WrA.bs (fun _ _ => tyrow) rfl rfl rfl rfl rfl) ?_
    rintro _ _ _ ⟨g4, rfl, rfl, rfl⟩
    refine zO rfl Rd.asg ?_; refine zN (zT (zS (zS (zR (zA rfl ?_))))); refine zO rfl (Rd.lss rfl rfl) ?_; refine zA rfl ?_
    first | (refine zG ?_; refine zA rfl ?_) | refine zH ?_
    first | (refine zG ?_; refine zA rfl ?_) | refine zH ?_
    first | (refine zG ?_; refine zO rfl (Rd.lenSlice (tyrow rfl) rfl rfl) ?_) | refine zH ?_
    first | (refine zG ?_; refine zO rfl (Rd.gtr rfl rfl) ?_) | refine zH ?_
    refine zO rfl zP ?_; refine zN (zT (XA.condF rfl rfl (XA.skip (zT (zS (zR (zA rfl ?_))))))); refine zA rfl ?_; refine zO rfl (by first | exact Rd.sbi rfl rfl | exact Rd.sub rfl rfl) ?_; refine zO rfl (Rd.ixS rfl rfl) ?_; refine zB rfl rfl (tyrow rfl) rfl ?_; refine zO rfl Rd.asg ?_
    refine zN (zT (XA.ret ?_))
    exact bodyA.ret (ResA.one rfl rfl) (Ent.nil _) ⟨rfl, rfl, rfl⟩
  · refine enterA1 Tryz.func11 rfl rfl rfl ?_
    refine zS (zR (zO rfl Rd.asg ?_)); refine zN (zT (zS (zR ?_)))
    refine XOA.wr0 rfl (WrA.bs (fun _ _ => tyrow) rfl rfl rfl rfl rfl) ?_
    rintro _ _ _ ⟨g4, rfl, rfl, rfl⟩
    refine zO rfl Rd.asg ?_; refine zN (zT (zS (zS (zR (zA rfl ?_))))); refine zO rfl (Rd.lss rfl rfl) ?_; refine zA rfl ?_
    first | (refine zG ?_; refine zA rfl ?_) | refine zH ?_
    first | (refine zG ?_; refine zA rfl ?_) | refine zH ?_
    first | (refine zG ?_; refine zO rfl (Rd.lenSlice (tyrow rfl) rfl rfl) ?_) | refine zH ?_
    first | (refine zG ?_; refine zO rfl (Rd.gtr rfl rfl) ?_) | refine zH ?_
    refine zO rfl zP ?_; refine zN (zT (XA.condF rfl rfl (XA.skip (zT (zS (zR (zA rfl ?_))))))); refine zA rfl ?_; refine zO rfl (by first | exact Rd.sbi rfl rfl | exact Rd.sub rfl rfl) ?_; refine zO rfl (Rd.ixS rfl rfl) ?_; refine zB rfl rfl (tyrow rfl) rfl ?_; refine zO rfl Rd.asg ?_
    refine zN (zT (XA.ret ?_))
    exact bodyA.ret (ResA.one rfl rfl) (Ent.nil _) ⟨rfl, rfl, rfl⟩
end Go.Proofs.YthefnnkmpcgcmaaGreatDoor

namespace Go.Proofs.YthefnnkmpcgcmaaGreatDoor
open Go X
set_option maxHeartbeats 4000000
def valS {α : Type} (P : List Tk → PR α) (s : RS) (x : α) : Prop := ∀ l y l', s = .ok l → P l = .ok (y, l') → x = y
theorem exprP_eq {vl : List Va} {e d : Int} {f : Nat} (hf : d + f = 13) (hd : 0 ≤ d) (l : List Tk) : exprP vl e f l = bindP (begP e d 8 wordOf l) fun k l2 => bindP (headP vl e k l2) fun vn l3 => bindP (subsA (exprP vl e (f - 1)) (partsOf k).toNat l3 []) fun xs l4 => closeP e (.mk k vn.1 vn.2 xs) l4 := by
  cases f with
  | zero =>
    have : (12 : Int) < d := by have : d + (0 : Nat) = 13 := hf; omega
    rw [exprP, begP, if_pos this, bindP]
  | succ f =>
    have : ¬ (12 : Int) < d := by omega
    rw [exprP, begP, if_neg this]
    split
    · cases pickT wordOf 8 l.tail with
      | none => rfl
      | some k =>
        simp only [bindP]
        cases headP vl e k l.tail.tail with
        | error x => rfl
        | ok y =>
          obtain ⟨vn, l3⟩ := y
          simp only [Nat.add_sub_cancel]
          cases subsA (exprP vl e f) (partsOf k).toNat l3 [] with
          | error x => rfl
          | ok z => rfl
    · rfl
theorem goS_ok {α : Type} {P : List Tk → PR α} {l l' : List Tk} {x : α} (h : P l = .ok (x, l')) : goS P (.ok l) = .ok l' := by rw [goS, h]
theorem goS_bad {α : Type} {P : List Tk → PR α} {l : List Tk} {y : Int × Int} (h : P l = .error y) : goS P (.ok l) = .error y := by rw [goS, h]
theorem must_close {α : Type} (e : Int) (x : α) (l : List Tk) : goS (mustP e rpar) (.ok l) = goS (closeP e x) (.ok l) ∧ valS (closeP e x) (.ok l) x := by
  refine ⟨?_, fun l0 y l' h1 h2 => ?_⟩
  · rw [goS, goS, mustP, closeP]
    by_cases q : isT rpar l = true
    · rw [if_pos q, if_pos q]
    · rw [if_neg q, if_neg q]
  · cases h1
    rw [closeP] at h2
    split at h2
    · cases h2; rfl
    · cases h2
/-- What the loop over the parts has come to: i of them. -/
def SubS (E : List Tk → PR Ex) (m i : Nat) (s2 sc : RS) (acc : List Ex) : Prop :=
  (∃ l3, s2 = .ok l3 ∧ ((∃ lc, sc = .ok lc ∧ subsA E m l3 [] = subsA E (m - i) lc acc) ∨ (∃ y, sc = .error y ∧ subsA E m l3 [] = .error y))) ∨ (∃ y, s2 = .error y ∧ sc = .error y)
theorem subS0 {E : List Tk → PR Ex} {m : Nat} {s2 : RS} : SubS E m 0 s2 s2 [] := by
  cases s2 with
  | ok l3 => exact .inl ⟨l3, rfl, .inl ⟨l3, rfl, rfl⟩⟩
  | error y => exact .inr ⟨y, rfl, rfl⟩
theorem sub_step {E : List Tk → PR Ex} {m i : Nat} {s2 : RS} {lc : List Tk} {acc : List Ex} {x : Ex} (h : SubS E m i s2 (.ok lc) acc) (hi : i < m) (hx : valS E (.ok lc) x) : SubS E m (i + 1) s2 (goS E (.ok lc)) (acc ++ [x]) := by
  rcases h with ⟨l3, rfl, ⟨lc', h1, h2⟩ | ⟨y, h1, -⟩⟩ | ⟨y, -, h1⟩
  · cases h1
    refine .inl ⟨l3, rfl, ?_⟩
    rw [show m - i = (m - (i + 1)) + 1 by omega, subsA] at h2
    cases hE : E lc with
    | error y => rw [hE] at h2; exact .inr ⟨y, goS_bad hE, h2⟩
    | ok z =>
      obtain ⟨y, l'⟩ := z
      rw [hE] at h2
      rw [hx lc y l' rfl hE]
      exact .inl ⟨l', goS_ok hE, h2⟩
  · cases h1
  · cases h1
theorem expr_close {vl : List Va} {e d : Int} {f : Nat} (hf : d + f = 13) (hd : 0 ≤ d) {s sc : RS} {acc : List Ex} {i : Nat} (hend : ∀ lc, sc = .ok lc → i = (partsOf (valD (begP e d 8 wordOf) 0 s : Nat)).toNat)
    (h : SubS (exprP vl e (f - 1)) (partsOf (valD (begP e d 8 wordOf) 0 s : Nat)).toNat i (goS (headP vl e (valD (begP e d 8 wordOf) 0 s)) (goS (begP e d 8 wordOf) s)) sc acc) :
    goS (mustP e rpar) sc = goS (exprP vl e f) s ∧ valS (exprP vl e f) s (.mk (valD (begP e d 8 wordOf) 0 s : Nat) (valD (headP vl e (valD (begP e d 8 wordOf) 0 s)) (0, 0) (goS (begP e d 8 wordOf) s)).1 (valD (headP vl e (valD (begP e d 8 wordOf) 0 s)) (0, 0) (goS (begP e d 8 wordOf) s)).2 acc) := by
  have heq := exprP_eq (vl := vl) (e := e) hf hd
  cases s with
  | error y =>
    rcases h with ⟨l3, h1, -⟩ | ⟨y', h1, h2⟩
    · cases h1
    · cases h1
      rw [h2]
      exact ⟨rfl, fun l x l' h => by cases h⟩
  | ok l =>
    cases hb : begP e d 8 wordOf l with
    | error y =>
      have hE : exprP vl e f l = .error y := by rw [heq, hb]; rfl
      rw [goS_bad hb] at h
      rcases h with ⟨l3, h1, -⟩ | ⟨y', h1, h2⟩
      · cases h1
      · cases h1
        rw [h2, goS_bad hE]
        exact ⟨rfl, fun l x l' h q => by cases h; rw [hE] at q; cases q⟩
    | ok z =>
      obtain ⟨k, l2⟩ := z
      have hk : valD (begP e d 8 wordOf) 0 (.ok l) = k := by rw [valD, hb]
      rw [goS_ok hb, hk] at h ⊢
      rw [hk] at hend
      cases hh : headP vl e k l2 with
      | error y =>
        have hE : exprP vl e f l = .error y := by rw [heq, hb]; simp only [bindP]; rw [hh]
        rw [goS_bad hh] at h
        rcases h with ⟨l3, h1, -⟩ | ⟨y', h1, h2⟩
        · cases h1
        · cases h1
          rw [h2, goS_bad hE]
          exact ⟨rfl, fun l x l' h q => by cases h; rw [hE] at q; cases q⟩
      | ok z =>
        obtain ⟨vn, l3⟩ := z
        have hv : valD (headP vl e k) (0, 0) (.ok l2) = vn := by rw [valD, hh]
        rw [goS_ok hh] at h
        rw [hv]
        rcases h with ⟨l3', h1, h2⟩ | ⟨y', h1, h2⟩
        · cases h1
          rcases h2 with ⟨lc, rfl, h2⟩ | ⟨y, rfl, h2⟩
          · rw [hend lc rfl, Nat.sub_self, subsA] at h2
            have hE : exprP vl e f l = closeP e (.mk k vn.1 vn.2 acc) lc := by rw [heq, hb]; simp only [bindP]; rw [hh]; simp only; rw [h2]
            obtain ⟨q1, q2⟩ := must_close e (Ex.mk k vn.1 vn.2 acc) lc
            refine ⟨?_, fun l0 x l' h q => ?_⟩
            · rw [q1, goS, goS, hE]
            · cases h
              rw [hE] at q
              exact q2 lc x l' rfl q
          · have hE : exprP vl e f l = .error y := by rw [heq, hb]; simp only [bindP]; rw [hh]; simp only; rw [h2]
            rw [goS_bad hE]
            exact ⟨rfl, fun l x l' h q => by cases h; rw [hE] at q; cases q⟩
        · cases h1
theorem head_eq {vl : List Va} {e : Int} {k : Nat} {s : RS} :
    goS (headP vl e k) s = (if k = 2 ∨ k = 3 then goS (varP vl e) (if k = 1 then goS (numP e) s else s) else if k = 1 then goS (numP e) s else s) ∧
    valD (headP vl e k) (0, 0) s = ((if k = 2 ∨ k = 3 then valD (varP vl e) 0 (if k = 1 then goS (numP e) s else s) else 0), if k = 1 then valD (numP e) 0 s else 0) := by
  by_cases h1 : k = 1
  · subst h1
    rw [if_neg (by decide), if_pos rfl, if_neg (by decide), if_pos rfl]
    cases s with
    | error y => exact ⟨rfl, rfl⟩
    | ok l =>
      rw [goS, goS, valD, valD, headP, if_pos rfl]
      cases numP e l with
      | error x => exact ⟨rfl, rfl⟩
      | ok y => exact ⟨rfl, rfl⟩
  · by_cases h2 : k = 2 ∨ k = 3
    · rw [if_pos h2, if_neg h1, if_pos h2, if_neg h1]
      cases s with
      | error y => exact ⟨rfl, rfl⟩
      | ok l =>
        rw [goS, goS, valD, valD, headP, if_neg h1, if_pos h2]
        cases varP vl e l with
        | error x => exact ⟨rfl, rfl⟩
        | ok y => exact ⟨rfl, rfl⟩
    · rw [if_neg h2, if_neg h1, if_neg h2, if_neg h1]
      cases s with
      | error y => exact ⟨rfl, rfl⟩
      | ok l => rw [goS, valD, headP, if_neg h1, if_neg h2]; exact ⟨rfl, rfl⟩
theorem beg_bound {e d : Int} {most : Nat} {W : Int → ByteArray} {s : RS} : valD (begP e d most W) 0 s ≤ most ∧ ((valD (begP e d most W) 0 s = 0 ∧ ∃ y, goS (begP e d most W) s = .error y) ∨ (1 ≤ valD (begP e d most W) 0 s ∧ d ≤ 12)) := by
  cases s with
  | error y => exact ⟨Nat.zero_le _, .inl ⟨rfl, y, rfl⟩⟩
  | ok l =>
    cases hb : begP e d most W l with
    | error y => rw [valD, goS, hb]; exact ⟨Nat.zero_le _, .inl ⟨rfl, y, rfl⟩⟩
    | ok z =>
      obtain ⟨k, l2⟩ := z
      have hb0 := hb
      rw [begP] at hb
      split at hb
      · cases hb
      · split at hb
        · cases hp : pickT W most l.tail with
          | none => rw [hp] at hb; cases hb
          | some k' =>
            rw [hp] at hb
            cases hb
            obtain ⟨a1, a2, -, -⟩ := pickG_some most 1 hp
            rw [valD, hb0]
            exact ⟨by show k ≤ most; omega, .inr ⟨a1, by omega⟩⟩
        · cases hb
theorem var_ok64 {vl : List Va} {e : Int} {s : RS} (hv : vl.length ≤ 9223372036854775807) : i64ok (valD (varP vl e) 0 s) := by
  cases s with
  | error y => exact z64
  | ok l =>
    cases h : varP vl e l with
    | error y => rw [valD, h]; exact z64
    | ok z =>
      obtain ⟨v, l'⟩ := z
      obtain ⟨t, i, -, rfl, -, h4⟩ := varP_ok h
      have := idxG_lt _ _ _ h4
      rw [valD, h]
      exact ⟨by show (-9223372036854775808 : Int) ≤ (i : Int); omega, by show (i : Int) ≤ 9223372036854775807; omega⟩
def RExOK (L : List Tk) (p : Option Addr) (c0 : Nat) (e : Int) (vl : List Va) (pv : Option Addr) (cv : Nat) (b : Nat) (f : Nat) : Prop :=
  ∀ (σ : PH) (s : RS) (d : Int), PSl 4 rTk σ (.slice p L.length c0) L → (∀ t ∈ L, TkF t) → PSl 2 rVa σ (.slice pv vl.length cv) vl → d + f = 13 → 0 ≤ d →
  CallsA Tryz.prog 43 #[ptr b, i64 d] σ [Rg L (.slice p L.length c0) e (.slice pv vl.length cv) b s] (RetA fun v σ' Γ' => ∃ cs x, v = .agg (List.toArray cs) ∧ ExAt σ' cs x ∧ valS (exprP vl e f) s x ∧ σ.sub σ' ∧ Γ' = [Rg L (.slice p L.length c0) e (.slice pv vl.length cv) b (goS (exprP vl e f) s)])
theorem expr_w (L : List Tk) (p : Option Addr) (c0 : Nat) (e : Int) (vl : List Va) (pv : Option Addr) (cv : Nat) (b f : Nat) (ih : ∀ g, f = g + 1 → RExOK L p c0 e vl pv cv b g) : RExOK L p c0 e vl pv cv b f := by
  intro σ s d hL hF hv hf hd
  have hvlen := hv.len_le
  have hwords : Words 9 wordOf := rword_p
  obtain ⟨hk8, hk0⟩ := beg_bound (e := e) (d := d) (most := 8) (W := wordOf) (s := s)
  have hclose := fun (sc : RS) (acc : List Ex) (i : Nat) => expr_close (vl := vl) (e := e) hf hd (s := s) (sc := sc) (acc := acc) (i := i)
  obtain ⟨he1, he2⟩ := head_eq (vl := vl) (e := e) (k := valD (begP e d 8 wordOf) 0 s) (s := goS (begP e d 8 wordOf) s)
  rw [he1, he2] at hclose
  obtain ⟨k, hk⟩ : ∃ k, valD (begP e d 8 wordOf) 0 s = k := ⟨_, rfl⟩
  obtain ⟨s1, hs1⟩ : ∃ t, goS (begP e d 8 wordOf) s = t := ⟨_, rfl⟩
  have hbeg := begin_r σ L p c0 e (.slice pv vl.length cv) b s 9 wordOf hwords 8 (by decide) d hL
  rw [hk, hs1] at hbeg
  rw [hk] at hk8
  rw [hk, hs1] at hk0
  simp only [hk, hs1] at hclose
  clear he1 he2
  obtain ⟨s1a, hs1a⟩ : ∃ t, (if k = 1 then goS (numP e) s1 else s1) = t := ⟨_, rfl⟩
  obtain ⟨n1, hn1⟩ : ∃ t, (if k = 1 then valD (numP e) 0 s1 else 0) = t := ⟨_, rfl⟩
  rw [hs1a, hn1] at hclose
  obtain ⟨s2, hs2⟩ : ∃ t, (if k = 2 ∨ k = 3 then goS (varP vl e) s1a else s1a) = t := ⟨_, rfl⟩
  obtain ⟨v1, hv1⟩ : ∃ t, (if k = 2 ∨ k = 3 then valD (varP vl e) 0 s1a else 0) = t := ⟨_, rfl⟩
  rw [hs2, hv1] at hclose
  have hv64 : i64ok v1 := by rw [← hv1]; split; (exact var_ok64 hvlen); exact z64
  obtain ⟨m, hm⟩ : ∃ m, (partsOf k).toNat = m := ⟨_, rfl⟩
  rw [hm] at hclose
  have hm2 : m ≤ 2 := by rw [← hm]; have := partsOf_le k; omega
  have hmk : ∀ i : Nat, ((i : Int) < partsOf k) ↔ i < m := fun i => by rw [← hm]; omega
  refine enterA2 Tryz.func43 rfl rfl rfl ?_
  refine zS (zR ?_)
  refine XOA.wr0 rfl (WrA.alloc (tyrow rfl)) ?_
  rintro _ _ _ ⟨g4, rfl, rfl, rfl⟩
  refine zN (zT (zS (zR (zA rfl ?_)))); refine zA rfl ?_
  refine XOA.wr0 rfl (WrA.cE (hbeg) rfl) ?_
  rintro _ _ _ ⟨_, ⟨⟨rfl, rfl⟩, rfl⟩, rfl⟩
  refine XOA.cl ?_
  refine zO rfl (Rd.bl (fun _ _ => tyrow) rfl rfl rfl) ?_
  refine XOA.wr0 rfl (WrA.alloc (tyrow rfl)) ?_
  rintro _ _ _ ⟨g5, rfl, rfl, rfl⟩
  refine XOA.wr0 rfl (WrA.st (tyrow rfl) rfl) ?_
  rintro _ _ _ ⟨rfl, rfl, rfl⟩
  refine zN (zT (zS (zS (zR (zV rfl rfl ?_))))); refine zB rfl rfl (tyrow rfl) rfl ?_; refine zO rfl (Rd.eql rfl rfl) ?_; refine zN (zT ?_)
  refine XA.join [(14, 16)] (fun _ : Unit => []) (fun _ σ' Γ' => σ = σ' ∧ i64ok n1 ∧ Γ' = [Rg L (.slice p L.length c0) e (.slice pv vl.length cv) b s1a, blk g4 [i64 0, i64 0, i64 0, .slice none 0 0] 36, blk g5 [i64 k, i64 0, i64 n1, .slice none 0 0] 36]) ?_ ?_
  · skip
    refine XA.condp rfl (fun q1 => ?_) (fun q1 => ?_)
    · have q1' : k = 1 := by omega
      rw [if_pos q1'] at hs1a hn1
      have hnum := number_r σ L p c0 e (.slice pv vl.length cv) b s1 hL hF
      rw [hs1a, hn1] at hnum
      refine zR (zA rfl ?_)
      refine XOA.wr0 rfl (WrA.cE (hnum) rfl) ?_
      rintro _ _ _ ⟨_, ⟨⟨rfl, hn64, rfl⟩, rfl⟩, rfl⟩
      refine XOA.cl ?_; refine zV rfl rfl ?_
      refine XOA.wr0 rfl (WrA.st (tyrow rfl) rfl) ?_
      rintro _ _ _ ⟨rfl, rfl, rfl⟩
      refine zN (zT ?_)
      refine ⟨(Keep.updN (Keep.upd (Keep.updO (Keep.upd (Keep.refl _ _) rfl) rfl) rfl)), (), _, zM, ?_, ⟨rfl, hn64, rfl⟩⟩
      · exact zE
    · have q1' : ¬ k = 1 := by omega
      rw [if_neg q1'] at hs1a hn1
      subst hs1a hn1
      refine XA.skip (zT ?_)
      refine ⟨(Keep.refl _ _), (), _, zM, ?_, ⟨rfl, z64, rfl⟩⟩
      · exact zE
  rintro _ δ _ _ ⟨rfl, hn64, rfl⟩
  dsimp only [ovr, List.foldl]
  refine zT (zS (zS ?_))
  refine XA.join [(17, 24)] (fun _ : Unit => [(24, .bool (decide (k = 2 ∨ k = 3)))]) (fun _ σ' Γ' => σ = σ' ∧ Γ' = [Rg L (.slice p L.length c0) e (.slice pv vl.length cv) b s1a, blk g4 [i64 0, i64 0, i64 0, .slice none 0 0] 36, blk g5 [i64 k, i64 0, i64 n1, .slice none 0 0] 36]) ?_ ?_
  · skip
    by_cases h2 : k = 2
    · have e1 : decide (k = 2 ∨ k = 3) = true := decide_eq_true (.inl h2)
      have e2 : decide ((k : Int) = 2) = true := decide_eq_true (by omega)
      rw [e1]
      refine zR (zV rfl rfl ?_); refine zB rfl rfl (tyrow rfl) rfl ?_; refine zO rfl (Rd.eql rfl rfl) ?_; refine zA rfl ?_
      first | (refine zG ?_; refine zV rfl rfl ?_) | refine zH ?_
      first | (refine zG ?_; refine zB rfl rfl (tyrow rfl) rfl ?_) | refine zH ?_
      first | (refine zG ?_; refine zO rfl (Rd.eql rfl rfl) ?_) | refine zH ?_
      refine zO rfl zP ?_; refine zN (zT ?_)
      refine ⟨(Keep.upd (Keep.upd (Keep.upd (Keep.upd (Keep.upd (Keep.upd (Keep.upd (Keep.upd (Keep.refl _ _) rfl) rfl) rfl) rfl) rfl) rfl) rfl) rfl), (), _, zM, ?_, ⟨rfl, rfl⟩⟩
      · exact zE
    · by_cases h3 : k = 3
      · have e1 : decide (k = 2 ∨ k = 3) = true := decide_eq_true (.inr h3)
        have e2 : decide ((k : Int) = 2) = false := decide_eq_false (by omega)
        have e3 : decide ((k : Int) = 3) = true := decide_eq_true (by omega)
        rw [e1.trans e3.symm]
        refine zR (zV rfl rfl ?_); refine zB rfl rfl (tyrow rfl) rfl ?_; refine zO rfl (Rd.eql rfl rfl) ?_; refine zA rfl ?_
        first | (refine zG ?_; refine zV rfl rfl ?_) | refine zH ?_
        first | (refine zG ?_; refine zB rfl rfl (tyrow rfl) rfl ?_) | refine zH ?_
        first | (refine zG ?_; refine zO rfl (Rd.eql rfl rfl) ?_) | refine zH ?_
        refine zO rfl zP ?_; refine zN (zT ?_)
        refine ⟨(Keep.upd (Keep.upd (Keep.upd (Keep.upd (Keep.upd (Keep.upd (Keep.upd (Keep.upd (Keep.refl _ _) rfl) rfl) rfl) rfl) rfl) rfl) rfl) rfl), (), _, zM, ?_, ⟨rfl, rfl⟩⟩
        · exact zE
      · have e1 : decide (k = 2 ∨ k = 3) = false := decide_eq_false (by omega)
        have e2 : decide ((k : Int) = 2) = false := decide_eq_false (by omega)
        have e3 : decide ((k : Int) = 3) = false := decide_eq_false (by omega)
        rw [e1.trans e3.symm]
        refine zR (zV rfl rfl ?_); refine zB rfl rfl (tyrow rfl) rfl ?_; refine zO rfl (Rd.eql rfl rfl) ?_; refine zA rfl ?_
        first | (refine zG ?_; refine zV rfl rfl ?_) | refine zH ?_
        first | (refine zG ?_; refine zB rfl rfl (tyrow rfl) rfl ?_) | refine zH ?_
        first | (refine zG ?_; refine zO rfl (Rd.eql rfl rfl) ?_) | refine zH ?_
        refine zO rfl zP ?_; refine zN (zT ?_)
        refine ⟨(Keep.upd (Keep.upd (Keep.upd (Keep.upd (Keep.upd (Keep.upd (Keep.upd (Keep.upd (Keep.refl _ _) rfl) rfl) rfl) rfl) rfl) rfl) rfl) rfl), (), _, zM, ?_, ⟨rfl, rfl⟩⟩
        · exact zE
  rintro _ δ _ _ ⟨rfl, rfl⟩
  dsimp only [ovr, List.foldl]
  refine zT ?_
  refine XA.join [(25, 27)] (fun _ : Unit => []) (fun _ σ' Γ' => σ = σ' ∧ Γ' = [Rg L (.slice p L.length c0) e (.slice pv vl.length cv) b s2, blk g4 [i64 0, i64 0, i64 0, .slice none 0 0] 36, blk g5 [i64 k, i64 v1, i64 n1, .slice none 0 0] 36]) ?_ ?_
  · skip
    refine XA.condp rfl (fun q2 => ?_) (fun q2 => ?_)
    · rw [if_pos q2] at hs2 hv1
      have hvar := variable_r σ L p c0 e b s1a vl pv cv hv hL hF
      rw [hs2, hv1] at hvar
      refine zR (zA rfl ?_)
      refine XOA.wr0 rfl (WrA.cE (hvar) rfl) ?_
      rintro _ _ _ ⟨_, ⟨⟨rfl, rfl⟩, rfl⟩, rfl⟩
      refine XOA.cl ?_; refine zV rfl rfl ?_
      refine XOA.wr0 rfl (WrA.st (tyrow rfl) rfl) ?_
      rintro _ _ _ ⟨rfl, rfl, rfl⟩
      refine zN (zT ?_)
      refine ⟨(Keep.updN (Keep.upd (Keep.updO (Keep.upd (Keep.refl _ _) rfl) rfl) rfl)), (), _, zM, ?_, ⟨rfl, rfl⟩⟩
      · exact zE
    · rw [if_neg q2] at hs2 hv1
      subst hs2 hv1
      refine XA.skip (zT ?_)
      refine ⟨(Keep.refl _ _), (), _, zM, ?_, ⟨rfl, rfl⟩⟩
      · exact zE
  rintro _ δ _ _ ⟨rfl, rfl⟩
  dsimp only [ovr, List.foldl]
  refine zT (zS (zS (zR (zO rfl Rd.asg ?_)))); refine zN (zT (XA.block ?_))
  refine XA.ent (Ent.selNil (e := 36) (size := 4) (Ent.refl _)) ?_
  refine XA.gen [(0, _), (1, _), (4, _), (5, _), (6, _)] ⟨(by with_reducible (conv => lhs; whnf)), (by with_reducible (conv => lhs; whnf)), (by with_reducible (conv => lhs; whnf)), (by with_reducible (conv => lhs; whnf)), (by with_reducible (conv => lhs; whnf)), trivial⟩ (fun δ => ?_)
  dsimp only [List.foldl]
  refine XA.loop [(6, 6), (28, 47)] (fun i : Nat => [(6, i64 i)]) (fun i σ' Γ' => σ.sub σ' ∧ i ≤ m ∧ ∃ (sc : RS) (acc : List Ex) (pl : Option Addr) (cl : Nat) (rows : List (List Value)), SubS (exprP vl e (f - 1)) m i s2 sc acc ∧ acc.length = i ∧ Rows_ 4 ExAt σ' rows acc ∧ Γ' = [lst 36 4 (.slice pl i cl) i rows.flatten, Rg L (.slice p L.length c0) e (.slice pv vl.length cv) b sc, blk g4 [i64 0, i64 0, i64 0, .slice none 0 0] 36, blk g5 [i64 k, i64 v1, i64 n1, .slice pl i cl] 36]) (fun i => m - i) 0 (by exact ⟨rfl, trivial⟩) (Δ0 := _) ?_ (⟨.refl _, Nat.zero_le _, s2, [], none, 0, [], subS0, rfl, Rows_.nil _ _ _, rfl⟩) ?_
  · exact zE
  rintro i δ σ1 _ ⟨hsub1, hi, sc, acc, pl, cl, rows, hSub, hacc, hrows, rfl⟩
  dsimp only [ovr, List.foldl]
  have hi : i ≤ m := hi
  have hL1 := hL.mono hsub1 (fun _ _ h => h)
  have hvs1 := hv.mono hsub1 (fun _ _ h => h)
  by_cases hlt : i < m
  · have hlt' : (i : Int) < partsOf k := (hmk i).2 hlt
    cases sc with
    | ok lc =>
      have hd12 : d ≤ 12 := by
        rcases hk0 with ⟨h0, -⟩ | ⟨-, h0⟩
        · rw [h0, show (partsOf ((0 : Nat) : Int)).toNat = 0 from rfl] at hm; omega
        · exact h0
      obtain ⟨g, rfl⟩ : ∃ g, f = g + 1 := ⟨f - 1, by omega⟩
      have hrec := ih g rfl σ1 (.ok lc) (d + 1) hL1 hF hvs1 (by omega) (by omega)
      refine zS (zS (zR (zA rfl ?_))); refine zV rfl rfl ?_; refine zB rfl rfl (tyrow rfl) rfl ?_
      refine XOA.wr0 rfl (WrA.cE (rparts_a σ1 k) rfl) ?_
      rintro _ _ _ ⟨_, ⟨rfl, rfl, rfl⟩, rfl⟩
      refine XOA.cl ?_; refine zO rfl (Rd.lss rfl rfl) ?_; refine zA rfl ?_
      first | (refine zG ?_; refine zA rfl ?_) | refine zH ?_
      first | refine XOA.wanted rfl rfl ?_ | refine XOA.wq rfl rfl ?_
      refine XOA.wr0 rfl (WrA.cE (ok_r σ1 L e _ b (.ok lc) _) rfl) ?_
      rintro _ _ _ ⟨_, ⟨⟨rfl, rfl⟩, rfl⟩, rfl⟩
      refine XOA.cl ?_; refine zO rfl zP ?_; refine zN (zT (XA.condT rfl rfl (XA.skip (zT (zS (XA.block ?_))))))
      refine XA.draw (by kernel_rfl) _ _ [7, 9] [(0, .pu), (1, .rd), (2, .pu), (3, .pu), (4, .pu), (5, .wr), (6, .wr), (7, .wr), (8, .pu), (9, .wr)] (by kernel_rfl) (PH.sub.refl _) (Ent.sel (R := blk g5 _ _) zL (Ent.nil _)) ?_
      refine XPA.pu rfl rfl Gd.free (Rd.fA rfl) ?_; refine XPA.rd rfl rfl Gd.free (Rd.ldC rfl (tyrow rfl) rfl) ?_; refine XPA.pu rfl rfl Gd.free Rd.mv ?_; refine XPA.pu rfl rfl Gd.free Rd.mv ?_; refine XPA.pu rfl rfl Gd.free zI ?_
      refine XPA.wr0 rfl rfl Gd.free (WrA.cE (hrec) rfl) ?_
      rintro _ σ2 _ ⟨_, ⟨cs2, x', rfl, hcs2, hval, hs2', rfl⟩, rfl⟩
      refine stays (XPA.cl ?_)
      have hl2' := hcs2.len
      have hone2 := hcs2.ones
      have hSub2 : SubS (exprP vl e (g + 1 - 1)) m (i + 1) s2 (goS (exprP vl e g) (.ok lc)) (acc ++ [x']) := sub_step hSub hlt hval
      have hnew : Rows_ 4 ExAt σ2 (rows ++ [cs2]) (acc ++ [x']) := (hrows.mono (fun _ _ h => h.mono hs2')).snoc hl2' hcs2
      refine XPA.wr0 rfl rfl Gd.free (WrA.bs1 (tyrow rfl) rfl (tyrow rfl)) ?_
      rintro _ _ _ ⟨g45, rfl, rfl, rfl⟩
      refine stays ?_
      refine XPA.wrZ0 rfl rfl Gd.free (by kernel_rfl) (WrA.ap1 (tyrow rfl) rfl (tyrow rfl) rfl rfl rfl) ?_
      rintro _ _ _ ⟨p46, c46, rfl, rfl, rfl⟩
      refine XPA.pu rfl rfl Gd.free (Rd.fA rfl) ?_
      refine XPA.wrZ0 rfl rfl Gd.free (by kernel_rfl) (WrA.st (tyrow rfl) rfl) ?_
      rintro _ _ _ ⟨rfl, rfl, rfl⟩
      refine XPA.nil ?_; refine DA.inb_normal (zT (zR (zA rfl ?_))); refine zO rfl zI ?_; refine zO rfl Rd.asg ?_; refine zN (zT ?_)
      refine ⟨(Keep.upd (Keep.upd (Keep.upd (Keep.updN (Keep.upd (Keep.updO (Keep.updO (Keep.updO (Keep.upd (Keep.upd (Keep.upd (Keep.upd (Keep.upd (Keep.upd (Keep.updO (Keep.upd (Keep.upd (Keep.upd (Keep.updO (Keep.upd (Keep.upd (Keep.upd (Keep.upd (Keep.hav (Keep.hav (Keep.refl _ _) rfl) rfl) rfl) rfl) rfl) rfl) rfl) rfl) rfl) rfl) rfl) rfl) rfl) rfl) rfl) rfl) rfl) rfl) rfl) rfl) rfl)) rfl) rfl) rfl), i + 1, _, zM, ?_, ⟨hsub1.trans hs2', hlt, _, acc ++ [x'], p46, c46, rows ++ [cs2], hSub2, (by rw [List.length_append, hacc]; rfl), hnew, rfl⟩, (by omega)⟩
      · rw [flatS]; exact zE
    | error y =>
      obtain ⟨w1, w2⟩ := hclose (.error y) acc i (fun lc h => by cases h) hSub
      refine zS (zS (zR (zA rfl ?_))); refine zV rfl rfl ?_; refine zB rfl rfl (tyrow rfl) rfl ?_
      refine XOA.wr0 rfl (WrA.cE (rparts_a σ1 k) rfl) ?_
      rintro _ _ _ ⟨_, ⟨rfl, rfl, rfl⟩, rfl⟩
      refine XOA.cl ?_; refine zO rfl (Rd.lss rfl rfl) ?_; refine zA rfl ?_
      first | (refine zG ?_; refine zA rfl ?_) | refine zH ?_
      first | refine XOA.wanted rfl rfl ?_ | refine XOA.wq rfl rfl ?_
      refine XOA.wr0 rfl (WrA.cE (ok_r σ1 L e _ b (.error y) _) rfl) ?_
      rintro _ _ _ ⟨_, ⟨⟨rfl, rfl⟩, rfl⟩, rfl⟩
      refine XOA.cl ?_; refine zO rfl zP ?_; refine zN (zT (XA.condF rfl rfl (XA.exit (DA.thn_exit (DA.thn_exit (DA.inb_same (zT (zS (zR (zA rfl ?_))))))))))
      refine XOA.wr0 rfl (WrA.cE (must_r σ1 L p c0 e _ b (.error y) rpar hL1) rfl) ?_
      rintro _ _ _ ⟨_, ⟨⟨rfl, rfl⟩, rfl⟩, rfl⟩
      refine XOA.cl ?_
      rw [w1]
      refine zN (zT (zS (zR (zO rfl (Rd.ldA rfl) ?_))))
      refine XOA.wr0 rfl (WrA.st (tyrow rfl) rfl) ?_
      rintro _ _ _ ⟨rfl, rfl, rfl⟩
      refine zN (zT (XA.ret ?_))
      refine DA.frz (R := lst 36 4 (.slice pl i cl) _ _) zL lst_frz lst_frz_mono ?_
      rintro σ3 ⟨⟩ hf3 hs3
      have hfin : ExAt σ3 [i64 k, i64 v1, i64 n1, .slice pl i cl] (.mk k v1 n1 acc) := ExAt.of ⟨by omega, by omega⟩ hv64 hn64 ((hrows.mono (fun _ _ h => h.mono hs3)).psl hacc.symm hf3)
      exact bodyA.ret (ResA.cell rfl rfl (Ld.atBlk (tyrow rfl) rfl zL rfl (by first | exact take0 (by first | rfl | assumption | (refine (ints_len _).trans ?_; assumption) | (simp [*]; (first | done | fail))) | assumption | exact take_app (by first | rfl | assumption | (refine (ints_len _).trans ?_; assumption) | (simp [*]; (first | done | fail))) | (conv => lhs; simp only [List.drop_succ_cons, List.drop_zero, List.take_succ_cons, List.take_zero])) (by first | rfl | assumption | (refine (ints_len _).trans ?_; assumption) | (simp [*]; (first | done | fail))))) zE ⟨_, _, rfl, hfin, w2, hsub1.trans hs3, rfl⟩
  · have hlt' : ¬ (i : Int) < partsOf k := fun h => hlt ((hmk i).1 h)
    obtain ⟨w1, w2⟩ := hclose sc acc i (fun lc h => by omega) hSub
    refine zS (zS (zR (zA rfl ?_))); refine zV rfl rfl ?_; refine zB rfl rfl (tyrow rfl) rfl ?_
    refine XOA.wr0 rfl (WrA.cE (rparts_a σ1 k) rfl) ?_
    rintro _ _ _ ⟨_, ⟨rfl, rfl, rfl⟩, rfl⟩
    refine XOA.cl ?_; refine zO rfl (Rd.lss rfl rfl) ?_; refine zA rfl ?_
    first | (refine zG ?_; refine zA rfl ?_) | refine zH ?_
    first | refine zH ?_
    refine zO rfl zP ?_; refine zN (zT (XA.condF rfl rfl (XA.exit (DA.thn_exit (DA.thn_exit (DA.inb_same (zT (zS (zR (zA rfl ?_))))))))))
    refine XOA.wr0 rfl (WrA.cE (must_r σ1 L p c0 e _ b sc rpar hL1) rfl) ?_
    rintro _ _ _ ⟨_, ⟨⟨rfl, rfl⟩, rfl⟩, rfl⟩
    refine XOA.cl ?_
    rw [w1]
    refine zN (zT (zS (zR (zO rfl (Rd.ldA rfl) ?_))))
    refine XOA.wr0 rfl (WrA.st (tyrow rfl) rfl) ?_
    rintro _ _ _ ⟨rfl, rfl, rfl⟩
    refine zN (zT (XA.ret ?_))
    refine DA.frz (R := lst 36 4 (.slice pl i cl) _ _) zL lst_frz lst_frz_mono ?_
    rintro σ3 ⟨⟩ hf3 hs3
    have hfin : ExAt σ3 [i64 k, i64 v1, i64 n1, .slice pl i cl] (.mk k v1 n1 acc) := ExAt.of ⟨by omega, by omega⟩ hv64 hn64 ((hrows.mono (fun _ _ h => h.mono hs3)).psl hacc.symm hf3)
    exact bodyA.ret (ResA.cell rfl rfl (Ld.atBlk (tyrow rfl) rfl zL rfl (by first | exact take0 (by first | rfl | assumption | (refine (ints_len _).trans ?_; assumption) | (simp [*]; (first | done | fail))) | assumption | exact take_app (by first | rfl | assumption | (refine (ints_len _).trans ?_; assumption) | (simp [*]; (first | done | fail))) | (conv => lhs; simp only [List.drop_succ_cons, List.drop_zero, List.take_succ_cons, List.take_zero])) (by first | rfl | assumption | (refine (ints_len _).trans ?_; assumption) | (simp [*]; (first | done | fail))))) zE ⟨_, _, rfl, hfin, w2, hsub1.trans hs3, rfl⟩
theorem expr_all (L : List Tk) (p : Option Addr) (c0 : Nat) (e : Int) (vl : List Va) (pv : Option Addr) (cv : Nat) (b : Nat) : ∀ f, RExOK L p c0 e vl pv cv b f
  | 0 => expr_w L p c0 e vl pv cv b 0 (fun g h => by omega)
  | f + 1 => expr_w L p c0 e vl pv cv b (f + 1) (fun g h => by cases h; exact expr_all L p c0 e vl pv cv b f)
end Go.Proofs.YthefnnkmpcgcmaaGreatDoor

namespace Go.Proofs.YthefnnkmpcgcmaaGreatDoor
open Go X
set_option maxHeartbeats 4000000
theorem bind_go {α β : Type} {P : List Tk → PR α} {K : α → List Tk → PR β} {s : RS} {x : α} (hx : valS P s x) : goS (fun l => bindP (P l) K) s = goS (K x) (goS P s) ∧ ∀ z, valS (K x) (goS P s) z → valS (fun l => bindP (P l) K) s z := by
  cases s with
  | error y => exact ⟨rfl, fun z _ l w l' h => by cases h⟩
  | ok l =>
    cases hP : P l with
    | error y =>
      have hb : (fun l => bindP (P l) K) l = .error y := by show bindP (P l) K = _; rw [hP]; rfl
      exact ⟨by rw [goS_bad hb, goS_bad hP]; rfl, fun z _ l0 w l' h q => by cases h; rw [hb] at q; cases q⟩
    | ok y =>
      obtain ⟨x', l1⟩ := y
      have e := hx l x' l1 rfl hP
      subst e
      have hb : (fun l => bindP (P l) K) l = K x l1 := by show bindP (P l) K = _; rw [hP]; rfl
      rw [goS_ok hP]
      refine ⟨by rw [goS, hP]; rfl, fun z hz l0 w l' h q => ?_⟩
      cases h
      rw [hb] at q
      exact hz l1 w l' rfl q
theorem valD_S {α : Type} {P : List Tk → PR α} {d : α} {s : RS} : valS P s (valD P d s) := fun l y l' h q => by subst h; rw [valD, q]
theorem optP_t {α : Type} {z : α} {a : List Tk → PR α} : optP true z a = a := by funext l; rw [optP, if_pos rfl]
theorem optP_f {α : Type} {z : α} {a : List Tk → PR α} : optP false z a = fun l => .ok (z, l) := by funext l; rw [optP, if_neg Bool.noConfusion]
theorem go_none {α : Type} {z : α} {a : List Tk → PR α} {s : RS} : goS (optP false z a) s = s ∧ valS (optP false z a) s z := by
  rw [optP_f]
  cases s with
  | error y => exact ⟨rfl, fun l w l' h => by cases h⟩
  | ok l => exact ⟨rfl, fun l w l' h q => by cases q; rfl⟩
theorem go_bad {α : Type} {a : List Tk → PR α} {s : RS} (x : α) (h : s.good = false) : goS a s = s ∧ valS a s x := by
  cases s with
  | error y => exact ⟨rfl, fun l w l' h => by cases h⟩
  | ok l => cases h
theorem close_go {α : Type} {e : Int} {x : α} {s : RS} : goS (closeP e x) s = goS (mustP e rpar) s ∧ valS (closeP e x) s x := by
  cases s with
  | error y => exact ⟨rfl, fun l w l' h => by cases h⟩
  | ok l => obtain ⟨a, b⟩ := must_close e x l; exact ⟨a.symm, b⟩
/-- What the loop over a list has come to. -/
def LisS (S : List Tk → PR St) (s1 sc : RS) (acc : List St) : Prop :=
  (∃ l1, s1 = .ok l1 ∧ ((∃ lc gc, sc = .ok lc ∧ lc.length < gc ∧ listG S (l1.length + 1) l1 [] = listG S gc lc acc) ∨ (∃ y, sc = .error y ∧ listG S (l1.length + 1) l1 [] = .error y))) ∨ (∃ y, s1 = .error y ∧ sc = .error y)
theorem lisS0 {S : List Tk → PR St} {s1 : RS} : LisS S s1 s1 [] := by
  cases s1 with
  | ok l => exact .inl ⟨l, rfl, .inl ⟨l, l.length + 1, rfl, Nat.lt_succ_self _, rfl⟩⟩
  | error y => exact .inr ⟨y, rfl, rfl⟩
theorem lis_step {S : List Tk → PR St} (hS : ∀ l x l', S l = .ok (x, l') → l'.length < l.length) {s1 : RS} {lc : List Tk} {acc : List St} {x : St} (h : LisS S s1 (.ok lc) acc) (hr : isT rpar lc = false) (hx : valS S (.ok lc) x) : LisS S s1 (goS S (.ok lc)) (acc ++ [x]) := by
  rcases h with ⟨l1, rfl, ⟨lc', gc, h1, hg, h2⟩ | ⟨y, h1, -⟩⟩ | ⟨y, -, h1⟩
  · cases h1
    refine .inl ⟨l1, rfl, ?_⟩
    obtain ⟨gc, rfl⟩ : ∃ g, gc = g + 1 := ⟨gc - 1, by omega⟩
    rw [listG.eq_def S (gc + 1)] at h2
    simp only at h2
    rw [if_neg (by rw [hr]; exact Bool.noConfusion)] at h2
    cases hE : S lc with
    | error y => rw [hE] at h2; exact .inr ⟨y, goS_bad hE, h2⟩
    | ok z =>
      obtain ⟨y, l'⟩ := z
      rw [hE] at h2
      rw [hx lc y l' rfl hE]
      have := hS lc y l' hE
      exact .inl ⟨l', gc, goS_ok hE, by omega, h2⟩
  · cases h1
  · cases h1
theorem lis_close {S : List Tk → PR St} {e : Int} {s sc : RS} {acc : List St} (h : LisS S (goS (mustP e lpar) s) sc acc) (hend : ∀ lc, sc = .ok lc → isT rpar lc = true) : goS (mustP e rpar) sc = goS (listP S e) s ∧ valS (listP S e) s acc := by
  cases s with
  | error y =>
    rcases h with ⟨l1, h1, -⟩ | ⟨y', h1, h2⟩
    · cases h1
    · cases h1; rw [h2]; exact ⟨rfl, fun l w l' h => by cases h⟩
  | ok l =>
    by_cases q : isT lpar l = true
    · have hm : goS (mustP e lpar) (.ok l) = .ok l.tail := by rw [goS, mustP, if_pos q]
      have hl : listP S e l = listG S (l.tail.length + 1) l.tail [] := by rw [listP, if_pos q]
      rw [hm] at h
      rcases h with ⟨l1, h1, ⟨lc, gc, rfl, hg, h2⟩ | ⟨y, rfl, h2⟩⟩ | ⟨y, h1, -⟩
      · cases h1
        obtain ⟨gc, rfl⟩ : ∃ g, gc = g + 1 := ⟨gc - 1, by omega⟩
        have hr := hend lc rfl
        rw [listG.eq_def S (gc + 1)] at h2
        simp only at h2
        rw [if_pos hr] at h2
        rw [h2] at hl
        refine ⟨by rw [goS_ok hl, goS, mustP, if_pos hr], fun l0 w l' h q => ?_⟩
        cases h
        rw [hl] at q
        cases q; rfl
      · cases h1
        rw [h2] at hl
        rw [goS_bad hl]
        exact ⟨rfl, fun l0 w l' h q => by cases h; rw [hl] at q; cases q⟩
      · cases h1
    · have hm : goS (mustP e lpar) (.ok l) = .error (failAt e l 5) := by rw [goS, mustP, if_neg q]
      have hl : listP S e l = .error (failAt e l 5) := by rw [listP, if_neg q]
      rw [hm] at h
      rcases h with ⟨l1, h1, -⟩ | ⟨y', h1, h2⟩
      · cases h1
      · cases h1
        rw [h2, goS_bad hl]
        exact ⟨rfl, fun l0 w l' h q => by cases h; rw [hl] at q; cases q⟩
def RStOK (L : List Tk) (p : Option Addr) (c0 : Nat) (e : Int) (vl : List Va) (pv : Option Addr) (cv : Nat) (b : Nat) (f : Nat) : Prop :=
  ∀ (σ : PH) (s : RS) (d : Int), PSl 4 rTk σ (.slice p L.length c0) L → L.length ≤ 100000 → (∀ t ∈ L, TkF t) → PSl 2 rVa σ (.slice pv vl.length cv) vl → d + f = 13 → 0 ≤ d →
  CallsA Tryz.prog 21 #[ptr b, i64 d] σ [Rg L (.slice p L.length c0) e (.slice pv vl.length cv) b s] (RetA fun v σ' Γ' => ∃ cs x, v = .agg (List.toArray cs) ∧ StAt σ' cs x ∧ valS (stmtP vl e f) s x ∧ σ.sub σ' ∧ Γ' = [Rg L (.slice p L.length c0) e (.slice pv vl.length cv) b (goS (stmtP vl e f) s)])
def RLiOK (L : List Tk) (p : Option Addr) (c0 : Nat) (e : Int) (vl : List Va) (pv : Option Addr) (cv : Nat) (b : Nat) (f : Nat) : Prop :=
  ∀ (σ : PH) (s : RS) (d : Int), PSl 4 rTk σ (.slice p L.length c0) L → L.length ≤ 100000 → (∀ t ∈ L, TkF t) → PSl 2 rVa σ (.slice pv vl.length cv) vl → d + f = 13 → 0 ≤ d →
  CallsA Tryz.prog 44 #[ptr b, i64 d] σ [Rg L (.slice p L.length c0) e (.slice pv vl.length cv) b s] (RetA fun v σ' Γ' => ∃ pl cl x, v = .slice pl x.length cl ∧ PSl 12 StAt σ' (.slice pl x.length cl) x ∧ valS (listP (stmtP vl e f) e) s x ∧ σ.sub σ' ∧ Γ' = [Rg L (.slice p L.length c0) e (.slice pv vl.length cv) b (goS (listP (stmtP vl e f) e) s)])
def RS.len : RS → Nat | .ok l => l.length + 1 | .error _ => 0
theorem Rg.len {L : List Tk} {sl vs : Value} {e : Int} {b : Nat} {s : RS} : ∀ m, Rg L sl e vs b s m → s.len ≤ L.length + 1 := by
  rintro m ⟨k, c, a, h, hk, hd⟩
  cases s with
  | ok l =>
    obtain ⟨-, -, hd⟩ := hd
    show l.length + 1 ≤ _
    rw [← hd, List.length_drop]; omega
  | error y => exact Nat.zero_le _
theorem list_w (L : List Tk) (p : Option Addr) (c0 : Nat) (e : Int) (vl : List Va) (pv : Option Addr) (cv : Nat) (b f : Nat) (ih : RStOK L p c0 e vl pv cv b f) : RLiOK L p c0 e vl pv cv b f := by
  intro σ s d hL hLn hF hv hf hd
  have hlt : ∀ l x l', stmtP vl e f l = .ok (x, l') → l'.length < l.length := fun l x l' h => (stmtP_sub f l x l' h).2
  have hclose := fun (sc : RS) (acc : List St) => lis_close (S := stmtP vl e f) (e := e) (s := s) (sc := sc) (acc := acc)
  obtain ⟨s1, hs1⟩ : ∃ t, goS (mustP e lpar) s = t := ⟨_, rfl⟩
  have hmust := must_r σ L p c0 e (.slice pv vl.length cv) b s lpar hL
  rw [hs1] at hmust hclose
  refine enterA2 Tryz.func44 rfl rfl rfl ?_
  refine zS (zR (zO rfl Rd.asg ?_)); refine zN (zT (zS (zR (zO rfl Rd.asg ?_)))); refine zN (zT (zS (zR (zA rfl ?_))))
  refine XOA.wr0 rfl (WrA.cE (hmust) rfl) ?_
  rintro _ _ _ ⟨_, ⟨⟨rfl, rfl⟩, rfl⟩, rfl⟩
  refine XOA.cl ?_; refine zN (zT (zS (XA.block ?_)))
  first | refine XA.fact (R := Rg _ _ _ _ _ _) zL (Rg.len) ?_ | refine XOA.fact (R := Rg _ _ _ _ _ _) zL (Rg.len) ?_ | refine DA.fact (R := Rg _ _ _ _ _ _) zL (Rg.len) ?_
  rintro hs1len
  refine XA.ent (Ent.selNil (e := 38) (size := 12) (Ent.refl _)) ?_
  refine XA.gen [(0, _), (1, _), (4, _), (5, _)] ⟨(by with_reducible (conv => lhs; whnf)), (by with_reducible (conv => lhs; whnf)), (by with_reducible (conv => lhs; whnf)), (by with_reducible (conv => lhs; whnf)), trivial⟩ (fun δ => ?_)
  dsimp only [List.foldl]
  refine XA.loop [(5, 5), (8, 20)] (fun x : (Nat × (Option Addr × Nat)) × RS => [(5, .slice x.1.2.1 x.1.1 x.1.2.2)]) (fun x σ' Γ' => σ.sub σ' ∧ x.1.1 + x.2.len ≤ s1.len ∧ ∃ (acc : List St) (rows : List (List Value)), LisS (stmtP vl e f) s1 x.2 acc ∧ acc.length = x.1.1 ∧ Rows_ 12 StAt σ' rows acc ∧ Γ' = [lst 38 12 (.slice x.1.2.1 x.1.1 x.1.2.2) x.1.1 rows.flatten, Rg L (.slice p L.length c0) e (.slice pv vl.length cv) b x.2]) (fun x => x.2.len) ((0, (none, 0)), s1) (by exact ⟨rfl, trivial⟩) (Δ0 := _) ?_ (⟨.refl _, by simp, [], [], lisS0, rfl, Rows_.nil _ _ _, rfl⟩) ?_
  · exact zE
  rintro ⟨⟨i, pl, cl⟩, sc⟩ δ σ1 _ ⟨hsub1, hbnd, acc, rows, hLis, hacc, hrows, rfl⟩
  dsimp only [ovr, List.foldl]
  have hL1 := hL.mono hsub1 (fun _ _ h => h)
  have hvs1 := hv.mono hsub1 (fun _ _ h => h)
  simp only at hbnd hLis hacc
  cases sc with
  | ok lc =>
    have hin : RS.len (.ok lc) = lc.length + 1 := rfl
    cases hr : isT rpar lc with
    | true =>
      obtain ⟨w1, w2⟩ := hclose (.ok lc) acc hLis (fun l h => by cases h; exact hr)
      have his := is_r σ1 L p c0 e (.slice pv vl.length cv) b (.ok lc) rpar hL1
      rw [show isS rpar (.ok lc) = true from hr] at his
      refine zS (zS (zR (zA rfl ?_)))
      refine XOA.wr0 rfl (WrA.cE (ok_r σ1 L e _ b (.ok lc) _) rfl) ?_
      rintro _ _ _ ⟨_, ⟨⟨rfl, rfl⟩, rfl⟩, rfl⟩
      refine XOA.cl ?_; refine zA rfl ?_
      first | (refine zG ?_; refine zA rfl ?_) | refine zH ?_
      first | refine XOA.wanted rfl rfl ?_ | refine XOA.wq rfl rfl ?_
      refine XOA.wr0 rfl (WrA.cE (his) rfl) ?_
      rintro _ _ _ ⟨_, ⟨⟨rfl, rfl⟩, rfl⟩, rfl⟩
      refine XOA.cl ?_
      first | (refine zG ?_; refine zO rfl zJ ?_) | refine zH ?_
      refine zO rfl zP ?_; refine zN (zT (XA.condF rfl rfl (XA.exit (DA.thn_exit (DA.thn_exit (DA.inb_same (zT (zS (zR (zA rfl ?_))))))))))
      refine XOA.wr0 rfl (WrA.cE (must_r σ1 L p c0 e _ b (.ok lc) rpar hL1) rfl) ?_
      rintro _ _ _ ⟨_, ⟨⟨rfl, rfl⟩, rfl⟩, rfl⟩
      refine XOA.cl ?_
      rw [w1]
      refine zN (zT (zS (zR (zA rfl ?_)))); refine zO rfl Rd.asg ?_; refine zN (zT (XA.ret ?_))
      refine DA.frz (R := lst 38 12 (.slice pl i cl) _ _) zL lst_frz lst_frz_mono ?_
      rintro σ3 ⟨⟩ hf3 hs3
      subst hacc
      exact bodyA.ret (ResA.one rfl rfl) zE ⟨pl, cl, acc, rfl, (hrows.mono (fun _ _ h => h.mono hs3)).psl rfl hf3, w2, hsub1.trans hs3, rfl⟩
    | false =>
      have hrec := ih σ1 (.ok lc) d hL1 hLn hF hvs1 hf hd
      have his := is_r σ1 L p c0 e (.slice pv vl.length cv) b (.ok lc) rpar hL1
      rw [show isS rpar (.ok lc) = false from hr] at his
      have hdec : RS.len (goS (stmtP vl e f) (.ok lc)) < RS.len (.ok lc) := by
        cases hE : stmtP vl e f lc with
        | ok z => obtain ⟨x, l'⟩ := z; rw [goS_ok hE]; have := hlt lc x l' hE; show l'.length + 1 < lc.length + 1; omega
        | error y => rw [goS_bad hE]; show 0 < lc.length + 1; omega
      refine zS (zS (zR (zA rfl ?_)))
      refine XOA.wr0 rfl (WrA.cE (ok_r σ1 L e _ b (.ok lc) _) rfl) ?_
      rintro _ _ _ ⟨_, ⟨⟨rfl, rfl⟩, rfl⟩, rfl⟩
      refine XOA.cl ?_; refine zA rfl ?_
      first | (refine zG ?_; refine zA rfl ?_) | refine zH ?_
      first | refine XOA.wanted rfl rfl ?_ | refine XOA.wq rfl rfl ?_
      refine XOA.wr0 rfl (WrA.cE (his) rfl) ?_
      rintro _ _ _ ⟨_, ⟨⟨rfl, rfl⟩, rfl⟩, rfl⟩
      refine XOA.cl ?_
      first | (refine zG ?_; refine zO rfl zJ ?_) | refine zH ?_
      refine zO rfl zP ?_; refine zN (zT (XA.condT rfl rfl (XA.skip (zT (XA.block (zR (zA rfl ?_))))))); refine zA rfl ?_; refine zA rfl ?_
      refine XOA.wr0 rfl (WrA.cE (hrec) rfl) ?_
      rintro _ σ2 _ ⟨_, ⟨cs2, x', rfl, hcs2, hval, hs2', rfl⟩, rfl⟩
      refine XOA.cl ?_
      have hl2' := hcs2.len
      have hone2 := hcs2.ones
      have hLis2 : LisS (stmtP vl e f) s1 (goS (stmtP vl e f) (.ok lc)) (acc ++ [x']) := lis_step hlt hLis hr hval
      have hnew : Rows_ 12 StAt σ2 (rows ++ [cs2]) (acc ++ [x']) := (hrows.mono (fun _ _ h => h.mono hs2')).snoc hl2' hcs2
      refine XOA.wr0 rfl (WrA.bs1 (tyrow rfl) rfl (tyrow rfl)) ?_
      rintro _ _ _ ⟨g19, rfl, rfl, rfl⟩
      refine XOA.wr0 rfl (WrA.ap1 (tyrow rfl) rfl (tyrow rfl) rfl rfl rfl) ?_
      rintro _ _ _ ⟨p20, c20, rfl, rfl, rfl⟩
      refine zO rfl Rd.asg ?_; refine zN (DA.inb_normal (zT ?_))
      refine ⟨(Keep.upd (Keep.updO (Keep.updO (Keep.updO (Keep.upd (Keep.upd (Keep.upd (Keep.upd (Keep.upd (Keep.updO (Keep.upd (Keep.upd (Keep.updO (Keep.upd (Keep.upd (Keep.hav (Keep.hav (Keep.refl _ _) rfl) rfl) rfl) rfl) rfl) rfl) rfl) rfl) rfl) rfl) rfl) rfl) rfl) rfl) rfl) rfl) rfl), ((i + 1, (p20, c20)), goS (stmtP vl e f) (.ok lc)), _, zM, ?_, ⟨hsub1.trans hs2', by show i + 1 + RS.len (goS (stmtP vl e f) (.ok lc)) ≤ s1.len; omega, acc ++ [x'], rows ++ [cs2], hLis2, (by rw [List.length_append, hacc]; rfl), hnew, rfl⟩, hdec⟩
      · rw [flatS]; exact zE
  | error y =>
    obtain ⟨w1, w2⟩ := hclose (.error y) acc hLis (fun l h => by cases h)
    refine zS (zS (zR (zA rfl ?_)))
    refine XOA.wr0 rfl (WrA.cE (ok_r σ1 L e _ b (.error y) _) rfl) ?_
    rintro _ _ _ ⟨_, ⟨⟨rfl, rfl⟩, rfl⟩, rfl⟩
    refine XOA.cl ?_; refine zA rfl ?_
    first | (refine zG ?_; refine zA rfl ?_) | refine zH ?_
    first | refine zH ?_
    first | (refine zG ?_; refine zO rfl zJ ?_) | refine zH ?_
    refine zO rfl zP ?_; refine zN (zT (XA.condF rfl rfl (XA.exit (DA.thn_exit (DA.thn_exit (DA.inb_same (zT (zS (zR (zA rfl ?_))))))))))
    refine XOA.wr0 rfl (WrA.cE (must_r σ1 L p c0 e _ b (.error y) rpar hL1) rfl) ?_
    rintro _ _ _ ⟨_, ⟨⟨rfl, rfl⟩, rfl⟩, rfl⟩
    refine XOA.cl ?_
    rw [w1]
    refine zN (zT (zS (zR (zA rfl ?_)))); refine zO rfl Rd.asg ?_; refine zN (zT (XA.ret ?_))
    refine DA.frz (R := lst 38 12 (.slice pl i cl) _ _) zL lst_frz lst_frz_mono ?_
    rintro σ3 ⟨⟩ hf3 hs3
    subst hacc
    exact bodyA.ret (ResA.one rfl rfl) zE ⟨pl, cl, acc, rfl, (hrows.mono (fun _ _ h => h.mono hs3)).psl rfl hf3, w2, hsub1.trans hs3, rfl⟩
end Go.Proofs.YthefnnkmpcgcmaaGreatDoor

namespace Go.Proofs.YthefnnkmpcgcmaaGreatDoor
open Go X
set_option maxHeartbeats 8000000
set_option maxRecDepth 4000
theorem stmtP_eq {vl : List Va} {e d : Int} {f : Nat} (hf : d + f = 13) (hd : 0 ≤ d) : stmtP vl e f = fun l => bindP (begP e d 7 verbOf l) fun k l2 => bindP (optP (needV k) 0 (varP vl e) l2) fun v l3 => bindP (optP (needE k) zeroX (exprP vl e (f - 1)) l3) fun x l4 => bindP (optP (needF k) zeroX (exprP vl e (f - 1)) l4) fun y l5 =>
    bindP (optP (needB k) [] (listP (stmtP vl e (f - 1)) e) l5) fun bd l6 => bindP (optP (needO k) [] (listP (stmtP vl e (f - 1)) e) l6) fun el l7 => closeP e (St.mk k v x y bd el) l7 := by
  funext l
  cases f with
  | zero =>
    have : (12 : Int) < d := by have : d + (0 : Nat) = 13 := hf; omega
    rw [stmtP, begP, if_pos this]; rfl
  | succ f =>
    have : ¬ (12 : Int) < d := by omega
    rw [stmtP, begP, if_neg this]
    split
    · cases pickT verbOf 7 l.tail with
      | none => rfl
      | some k => rfl
    · rfl
theorem rneedq (σ : PH) (op : Int) (c : Nat) (q : Bool) (h : hasByte (needs op) c = q) : CallsA Tryz.prog 41 #[i64 op, .int .u8 c] σ [] (RetA fun v σ' Γ' => v = .bool q ∧ σ = σ' ∧ Γ' = []) := h ▸ rneeded_a σ op c
theorem ex_cells {σ : PH} {cs : List Value} {x : Ex} (h : ExAt σ cs x) : ∃ y : Option Addr × Nat, cs = [i64 x.op, i64 x.v, i64 x.n, .slice y.1 x.l.length y.2] ∧ ExAt σ [i64 x.op, i64 x.v, i64 x.n, .slice y.1 x.l.length y.2] x := by
  have h0 := h
  obtain ⟨p, c, rfl, -⟩ := h.inv
  exact ⟨(p, c), rfl, h0⟩
theorem stmt_w (L : List Tk) (p : Option Addr) (c0 : Nat) (e : Int) (vl : List Va) (pv : Option Addr) (cv : Nat) (b f : Nat) (ih : ∀ g, f = g + 1 → RStOK L p c0 e vl pv cv b g) : RStOK L p c0 e vl pv cv b f := by
  intro σ s d hL hLn hF hv hf hd
  have hvlen := hv.len_le
  have hwords : Words 11 verbOf := rverb_p
  obtain ⟨hk8, hk0⟩ := beg_bound (e := e) (d := d) (most := 7) (W := verbOf) (s := s)
  have hvk := valD_S (P := begP e d 7 verbOf) (d := 0) (s := s)
  have hbeg := begin_r σ L p c0 e (.slice pv vl.length cv) b s 11 verbOf hwords 7 (by decide) d hL
  obtain ⟨k, hk⟩ : ∃ k, valD (begP e d 7 verbOf) 0 s = k := ⟨_, rfl⟩
  rw [hk] at hk8 hk0 hvk hbeg
  obtain ⟨b1, b2⟩ := bind_go (K := fun (k : Nat) l2 => bindP (optP (needV k) 0 (varP vl e) l2) fun v l3 => bindP (optP (needE k) zeroX (exprP vl e (f - 1)) l3) fun x l4 => bindP (optP (needF k) zeroX (exprP vl e (f - 1)) l4) fun y l5 =>
    bindP (optP (needB k) [] (listP (stmtP vl e (f - 1)) e) l5) fun bd l6 => bindP (optP (needO k) [] (listP (stmtP vl e (f - 1)) e) l6) fun el l7 => closeP e (St.mk k v x y bd el) l7) hvk
  rw [← stmtP_eq hf hd] at b1 b2
  obtain ⟨s1, hs1⟩ : ∃ t, goS (begP e d 7 verbOf) s = t := ⟨_, rfl⟩
  rw [hs1] at hbeg b1 b2 hk0
  obtain ⟨need1, need2, need3, need4, need5⟩ := need_op k
  have hk1 : needV k = true ∨ needE k = true ∨ needF k = true ∨ needB k = true ∨ needO k = true → 1 ≤ k := fun h => by
    apply Decidable.byContradiction; intro q
    have : k = 0 := by omega
    subst this
    revert h; decide
  have hfF : 1 ≤ k → d + 1 + (f - 1 : Nat) = 13 := fun h => by
    rcases hk0 with ⟨h0, -⟩ | ⟨-, h0⟩ <;> omega
  have hLi : 1 ≤ k → RLiOK L p c0 e vl pv cv b (f - 1) := fun h => list_w L p c0 e vl pv cv b (f - 1) (ih (f - 1) (by have := hfF h; omega))
  have hEx := expr_all L p c0 e vl pv cv b (f - 1)
  refine enterA2 Tryz.func21 rfl rfl rfl ?_
  refine zS (zR ?_)
  refine XOA.wr0 rfl (WrA.alloc (tyrow rfl)) ?_
  rintro _ _ _ ⟨g4, rfl, rfl, rfl⟩
  refine zN (zT (zS (zR (zA rfl ?_)))); refine zA rfl ?_
  refine XOA.wr0 rfl (WrA.cE (hbeg) rfl) ?_
  rintro _ _ _ ⟨_, ⟨⟨rfl, rfl⟩, rfl⟩, rfl⟩
  refine XOA.cl ?_
  refine zO rfl (Rd.bl (fun _ _ => tyrow) rfl rfl rfl) ?_
  refine XOA.wr0 rfl (WrA.alloc (tyrow rfl)) ?_
  rintro _ _ _ ⟨g5, rfl, rfl, rfl⟩
  refine XOA.wr0 rfl (WrA.st (tyrow rfl) rfl) ?_
  rintro _ _ _ ⟨rfl, rfl, rfl⟩
  refine zN (zT (zS (zS (zR (zV rfl rfl ?_))))); refine zB rfl rfl (tyrow rfl) rfl ?_
  refine XOA.wr0 rfl (WrA.cE (rneedq σ k 118 _ need3) rfl) ?_
  rintro _ _ _ ⟨_, ⟨rfl, rfl, rfl⟩, rfl⟩
  refine XOA.cl ?_; refine zN (zT ?_)
  obtain ⟨s2, hs2⟩ : ∃ t, goS (optP (needV k) 0 (varP vl e)) s1 = t := ⟨_, rfl⟩
  refine XA.join [(13, 15)] (fun y : Int => []) (fun y σ' Γ' => σ = σ' ∧ i64ok y ∧ valS (optP (needV k) 0 (varP vl e)) s1 y ∧ Γ' = [Rg L (.slice p L.length c0) e (.slice pv vl.length cv) b s2, blk g4 [i64 0, i64 0, i64 0, i64 0, i64 0, .slice none 0 0, i64 0, i64 0, i64 0, .slice none 0 0, .slice none 0 0, .slice none 0 0] 38, blk g5 [i64 k, i64 y, i64 0, i64 0, i64 0, .slice none 0 0, i64 0, i64 0, i64 0, .slice none 0 0, .slice none 0 0, .slice none 0 0] 38]) ?_ ?_
  · skip
    refine XA.cond rfl (fun hq => ?_) (fun hq => ?_)
    · rw [hq, optP_t] at hs2
      have hvar := variable_r σ L p c0 e b s1 vl pv cv hv hL hF
      rw [hs2] at hvar
      have hvs := valD_S (P := varP vl e) (d := 0) (s := s1)
      have h64 := var_ok64 (vl := vl) (e := e) (s := s1) hvlen
      rw [hq, optP_t]
      refine zR (zA rfl ?_)
      refine XOA.wr0 rfl (WrA.cE (hvar) rfl) ?_
      rintro _ _ _ ⟨_, ⟨⟨rfl, rfl⟩, rfl⟩, rfl⟩
      refine XOA.cl ?_; refine zV rfl rfl ?_
      refine XOA.wr0 rfl (WrA.st (tyrow rfl) rfl) ?_
      rintro _ _ _ ⟨rfl, rfl, rfl⟩
      refine zN (zT ?_)
      refine ⟨(Keep.updN (Keep.upd (Keep.updO (Keep.upd (Keep.refl _ _) rfl) rfl) rfl)), _, _, zM, ?_, ⟨rfl, h64, hvs, rfl⟩⟩
      · exact zE
    · obtain ⟨n1, n2⟩ := go_none (z := (0 : Int)) (a := varP vl e) (s := s1)
      rw [hq, n1] at hs2
      subst hs2
      rw [hq]
      refine XA.skip (zT ?_)
      refine ⟨(Keep.refl _ _), _, _, zM, ?_, ⟨rfl, z64, n2, rfl⟩⟩
      · exact zE
  rintro v1 δ _ _ ⟨rfl, hv64, hvv, rfl⟩
  dsimp only [ovr, List.foldl]
  refine zT ?_
  obtain ⟨c1, c2⟩ := bind_go (K := fun v l3 => bindP (optP (needE k) zeroX (exprP vl e (f - 1)) l3) fun x l4 => bindP (optP (needF k) zeroX (exprP vl e (f - 1)) l4) fun y l5 =>
    bindP (optP (needB k) [] (listP (stmtP vl e (f - 1)) e) l5) fun bd l6 => bindP (optP (needO k) [] (listP (stmtP vl e (f - 1)) e) l6) fun el l7 => closeP e (St.mk k v x y bd el) l7) hvv
  rw [hs2] at c1 c2
  refine zS (zS ?_)
  refine XA.join [(16, 22)] (fun _ : Unit => [(22, .bool (needE k && s2.good))]) (fun _ σ' Γ' => σ = σ' ∧ Γ' = [Rg L (.slice p L.length c0) e (.slice pv vl.length cv) b s2, blk g4 [i64 0, i64 0, i64 0, i64 0, i64 0, .slice none 0 0, i64 0, i64 0, i64 0, .slice none 0 0, .slice none 0 0, .slice none 0 0] 38, blk g5 [i64 k, i64 v1, i64 0, i64 0, i64 0, .slice none 0 0, i64 0, i64 0, i64 0, .slice none 0 0, .slice none 0 0, .slice none 0 0] 38]) ?_ ?_
  · refine zR ?_
    refine zV rfl rfl ?_; refine zB rfl rfl (tyrow rfl) rfl ?_
    refine XOA.wr0 rfl (WrA.cE (rneedq σ k 101 _ need1) rfl) ?_
    rintro _ _ _ ⟨_, ⟨rfl, rfl, rfl⟩, rfl⟩
    refine XOA.cl ?_
    cases hq : needE k with
    | true =>
      refine zA rfl ?_
      first | (refine zG ?_; refine zA rfl ?_) | refine zH ?_
      first | refine XOA.wanted rfl rfl ?_ | refine XOA.wq rfl rfl ?_
      refine XOA.wr0 rfl (WrA.cE (ok_r σ L e _ b s2 _) rfl) ?_
      rintro _ _ _ ⟨_, ⟨⟨rfl, rfl⟩, rfl⟩, rfl⟩
      refine XOA.cl ?_; refine zO rfl zP ?_; refine zN (zT ?_)
      refine ⟨(Keep.upd (Keep.updO (Keep.upd (Keep.upd (Keep.updO (Keep.upd (Keep.upd (Keep.refl _ _) rfl) rfl) rfl) rfl) rfl) rfl) rfl), (), _, zM, ?_, ⟨rfl, rfl⟩⟩
      · exact zE
    | false =>
      refine zA rfl ?_
      first | (refine zG ?_; refine zA rfl ?_) | refine zH ?_
      first | refine zH ?_
      refine zO rfl zP ?_; refine zN (zT ?_)
      refine ⟨(Keep.upd (Keep.upd (Keep.upd (Keep.upd (Keep.updO (Keep.upd (Keep.upd (Keep.refl _ _) rfl) rfl) rfl) rfl) rfl) rfl) rfl), (), _, zM, ?_, ⟨rfl, rfl⟩⟩
      · exact zE
  rintro _ δ _ _ ⟨rfl, rfl⟩
  dsimp only [ovr, List.foldl]
  refine zT ?_
  obtain ⟨s3, hs3⟩ : ∃ t, goS (optP (needE k) zeroX (exprP vl e (f - 1))) s2 = t := ⟨_, rfl⟩
  refine XA.join [(23, 27)] (fun y : Ex × (Option Addr × Nat) => []) (fun y σ' Γ' => σ.sub σ' ∧ ExAt σ' [i64 y.1.op, i64 y.1.v, i64 y.1.n, .slice y.2.1 y.1.l.length y.2.2] y.1 ∧ valS (optP (needE k) zeroX (exprP vl e (f - 1))) s2 y.1 ∧ Γ' = [Rg L (.slice p L.length c0) e (.slice pv vl.length cv) b s3, blk g4 [i64 0, i64 0, i64 0, i64 0, i64 0, .slice none 0 0, i64 0, i64 0, i64 0, .slice none 0 0, .slice none 0 0, .slice none 0 0] 38, blk g5 [i64 k, i64 v1, i64 y.1.op, i64 y.1.v, i64 y.1.n, .slice y.2.1 y.1.l.length y.2.2, i64 0, i64 0, i64 0, .slice none 0 0, .slice none 0 0, .slice none 0 0] 38]) ?_ ?_
  · skip
    refine XA.cond rfl (fun hb => ?_) (fun hb => ?_)
    · simp only [Bool.and_eq_true] at hb
      obtain ⟨hq, hg⟩ := hb
      have hk := hk1 (by simp [hq])
      have hrec := hEx σ s2 (d + 1) hL hF hv (hfF hk) (by omega)
      rw [hq, optP_t] at hs3
      rw [hs3] at hrec
      rw [hq, optP_t]
      refine zR (zA rfl ?_); refine zA rfl ?_; refine zO rfl zI ?_
      refine XOA.wr0 rfl (WrA.cE (hrec) rfl) ?_
      rintro _ σn _ ⟨_, ⟨cs, x, rfl, hcs, hval, hsn, rfl⟩, rfl⟩
      refine XOA.cl ?_
      obtain ⟨y2, rfl, hcs2⟩ := ex_cells hcs
      refine zV rfl rfl ?_
      refine XOA.wr0 rfl (WrA.st (tyrow rfl) rfl) ?_
      rintro _ _ _ ⟨rfl, rfl, rfl⟩
      refine zN (zT ?_)
      refine ⟨(Keep.updN (Keep.upd (Keep.updO (Keep.upd (Keep.upd (Keep.upd (Keep.refl _ _) rfl) rfl) rfl) rfl) rfl)), (x, y2), _, zM, ?_, ⟨hsn, hcs2, hval, rfl⟩⟩
      · exact zE
    · have hn : goS (optP (needE k) zeroX (exprP vl e (f - 1))) s2 = s2 ∧ valS (optP (needE k) zeroX (exprP vl e (f - 1))) s2 zeroX := by
        cases hq : needE k with
        | false => exact go_none
        | true => rw [hq, Bool.true_and] at hb; exact go_bad zeroX hb
      obtain ⟨n1, n2⟩ := hn
      rw [n1] at hs3
      subst hs3
      refine XA.skip (zT ?_)
      refine ⟨(Keep.refl _ _), (zeroX, (none, 0)), _, zM, ?_, ⟨.refl _, zeroX_at _, n2, rfl⟩⟩
      · exact zE
  rintro x δ σx _ ⟨hsx, hxx, hxv, rfl⟩
  dsimp only [ovr, List.foldl]
  refine zT ?_
  obtain ⟨d1, d2⟩ := bind_go (K := fun x l4 => bindP (optP (needF k) zeroX (exprP vl e (f - 1)) l4) fun y l5 => bindP (optP (needB k) [] (listP (stmtP vl e (f - 1)) e) l5) fun bd l6 => bindP (optP (needO k) [] (listP (stmtP vl e (f - 1)) e) l6) fun el l7 => closeP e (St.mk k v1 x y bd el) l7) hxv
  rw [hs3] at d1 d2
  have hLx := hL.mono hsx (fun _ _ h => h)
  have hvx := hv.mono hsx (fun _ _ h => h)
  refine zS (zS ?_)
  refine XA.join [(28, 34)] (fun _ : Unit => [(34, .bool (needF k && s3.good))]) (fun _ σ' Γ' => σx = σ' ∧ Γ' = [Rg L (.slice p L.length c0) e (.slice pv vl.length cv) b s3, blk g4 [i64 0, i64 0, i64 0, i64 0, i64 0, .slice none 0 0, i64 0, i64 0, i64 0, .slice none 0 0, .slice none 0 0, .slice none 0 0] 38, blk g5 [i64 k, i64 v1, i64 x.1.op, i64 x.1.v, i64 x.1.n, .slice x.2.1 x.1.l.length x.2.2, i64 0, i64 0, i64 0, .slice none 0 0, .slice none 0 0, .slice none 0 0] 38]) ?_ ?_
  · refine zR ?_
    refine zV rfl rfl ?_; refine zB rfl rfl (tyrow rfl) rfl ?_
    refine XOA.wr0 rfl (WrA.cE (rneedq σx k 102 _ need2) rfl) ?_
    rintro _ _ _ ⟨_, ⟨rfl, rfl, rfl⟩, rfl⟩
    refine XOA.cl ?_
    cases hq : needF k with
    | true =>
      refine zA rfl ?_
      first | (refine zG ?_; refine zA rfl ?_) | refine zH ?_
      first | refine XOA.wanted rfl rfl ?_ | refine XOA.wq rfl rfl ?_
      refine XOA.wr0 rfl (WrA.cE (ok_r σx L e _ b s3 _) rfl) ?_
      rintro _ _ _ ⟨_, ⟨⟨rfl, rfl⟩, rfl⟩, rfl⟩
      refine XOA.cl ?_; refine zO rfl zP ?_; refine zN (zT ?_)
      refine ⟨(Keep.upd (Keep.updO (Keep.upd (Keep.upd (Keep.updO (Keep.upd (Keep.upd (Keep.refl _ _) rfl) rfl) rfl) rfl) rfl) rfl) rfl), (), _, zM, ?_, ⟨rfl, rfl⟩⟩
      · exact zE
    | false =>
      refine zA rfl ?_
      first | (refine zG ?_; refine zA rfl ?_) | refine zH ?_
      first | refine zH ?_
      refine zO rfl zP ?_; refine zN (zT ?_)
      refine ⟨(Keep.upd (Keep.upd (Keep.upd (Keep.upd (Keep.updO (Keep.upd (Keep.upd (Keep.refl _ _) rfl) rfl) rfl) rfl) rfl) rfl) rfl), (), _, zM, ?_, ⟨rfl, rfl⟩⟩
      · exact zE
  rintro _ δ _ _ ⟨rfl, rfl⟩
  dsimp only [ovr, List.foldl]
  refine zT ?_
  obtain ⟨s4, hs4⟩ : ∃ t, goS (optP (needF k) zeroX (exprP vl e (f - 1))) s3 = t := ⟨_, rfl⟩
  refine XA.join [(35, 39)] (fun y : Ex × (Option Addr × Nat) => []) (fun y σ' Γ' => σx.sub σ' ∧ ExAt σ' [i64 y.1.op, i64 y.1.v, i64 y.1.n, .slice y.2.1 y.1.l.length y.2.2] y.1 ∧ valS (optP (needF k) zeroX (exprP vl e (f - 1))) s3 y.1 ∧ Γ' = [Rg L (.slice p L.length c0) e (.slice pv vl.length cv) b s4, blk g4 [i64 0, i64 0, i64 0, i64 0, i64 0, .slice none 0 0, i64 0, i64 0, i64 0, .slice none 0 0, .slice none 0 0, .slice none 0 0] 38, blk g5 [i64 k, i64 v1, i64 x.1.op, i64 x.1.v, i64 x.1.n, .slice x.2.1 x.1.l.length x.2.2, i64 y.1.op, i64 y.1.v, i64 y.1.n, .slice y.2.1 y.1.l.length y.2.2, .slice none 0 0, .slice none 0 0] 38]) ?_ ?_
  · skip
    refine XA.cond rfl (fun hb => ?_) (fun hb => ?_)
    · simp only [Bool.and_eq_true] at hb
      obtain ⟨hq, hg⟩ := hb
      have hk := hk1 (by simp [hq])
      have hrec := hEx σx s3 (d + 1) hLx hF hvx (hfF hk) (by omega)
      rw [hq, optP_t] at hs4
      rw [hs4] at hrec
      rw [hq, optP_t]
      refine zR (zA rfl ?_); refine zA rfl ?_; refine zO rfl zI ?_
      refine XOA.wr0 rfl (WrA.cE (hrec) rfl) ?_
      rintro _ σn _ ⟨_, ⟨cs, x, rfl, hcs, hval, hsn, rfl⟩, rfl⟩
      refine XOA.cl ?_
      obtain ⟨y2, rfl, hcs2⟩ := ex_cells hcs
      refine zV rfl rfl ?_
      refine XOA.wr0 rfl (WrA.st (tyrow rfl) rfl) ?_
      rintro _ _ _ ⟨rfl, rfl, rfl⟩
      refine zN (zT ?_)
      refine ⟨(Keep.updN (Keep.upd (Keep.updO (Keep.upd (Keep.upd (Keep.upd (Keep.refl _ _) rfl) rfl) rfl) rfl) rfl)), (x, y2), _, zM, ?_, ⟨hsn, hcs2, hval, rfl⟩⟩
      · exact zE
    · have hn : goS (optP (needF k) zeroX (exprP vl e (f - 1))) s3 = s3 ∧ valS (optP (needF k) zeroX (exprP vl e (f - 1))) s3 zeroX := by
        cases hq : needF k with
        | false => exact go_none
        | true => rw [hq, Bool.true_and] at hb; exact go_bad zeroX hb
      obtain ⟨n1, n2⟩ := hn
      rw [n1] at hs4
      subst hs4
      refine XA.skip (zT ?_)
      refine ⟨(Keep.refl _ _), (zeroX, (none, 0)), _, zM, ?_, ⟨.refl _, zeroX_at _, n2, rfl⟩⟩
      · exact zE
  rintro z δ σz _ ⟨hsz, hzx, hzv, rfl⟩
  dsimp only [ovr, List.foldl]
  refine zT ?_
  obtain ⟨e1, e2⟩ := bind_go (K := fun y l5 => bindP (optP (needB k) [] (listP (stmtP vl e (f - 1)) e) l5) fun bd l6 => bindP (optP (needO k) [] (listP (stmtP vl e (f - 1)) e) l6) fun el l7 => closeP e (St.mk k v1 x.1 y bd el) l7) hzv
  rw [hs4] at e1 e2
  have hLz := hLx.mono hsz (fun _ _ h => h)
  have hvz := hvx.mono hsz (fun _ _ h => h)
  refine zS (zS (zR (zV rfl rfl ?_))); refine zB rfl rfl (tyrow rfl) rfl ?_
  refine XOA.wr0 rfl (WrA.cE (rneedq σz k 98 _ need4) rfl) ?_
  rintro _ _ _ ⟨_, ⟨rfl, rfl, rfl⟩, rfl⟩
  refine XOA.cl ?_; refine zN (zT ?_)
  obtain ⟨s5, hs5⟩ : ∃ t, goS (optP (needB k) [] (listP (stmtP vl e (f - 1)) e)) s4 = t := ⟨_, rfl⟩
  refine XA.join [(43, 47)] (fun y : List St × (Option Addr × Nat) => []) (fun y σ' Γ' => σz.sub σ' ∧ PSl 12 StAt σ' (.slice y.2.1 y.1.length y.2.2) y.1 ∧ valS (optP (needB k) [] (listP (stmtP vl e (f - 1)) e)) s4 y.1 ∧ Γ' = [Rg L (.slice p L.length c0) e (.slice pv vl.length cv) b s5, blk g4 [i64 0, i64 0, i64 0, i64 0, i64 0, .slice none 0 0, i64 0, i64 0, i64 0, .slice none 0 0, .slice none 0 0, .slice none 0 0] 38, blk g5 [i64 k, i64 v1, i64 x.1.op, i64 x.1.v, i64 x.1.n, .slice x.2.1 x.1.l.length x.2.2, i64 z.1.op, i64 z.1.v, i64 z.1.n, .slice z.2.1 z.1.l.length z.2.2, .slice y.2.1 y.1.length y.2.2, .slice none 0 0] 38]) ?_ ?_
  · skip
    refine XA.cond rfl (fun hq => ?_) (fun hq => ?_)
    · have hk := hk1 (by simp [hq])
      have hrec := hLi hk σz s4 (d + 1) hLz hLn hF hvz (hfF hk) (by omega)
      rw [hq, optP_t] at hs5
      rw [hs5] at hrec
      rw [hq, optP_t]
      refine zR (zA rfl ?_); refine zA rfl ?_; refine zO rfl zI ?_
      refine XOA.wr0 rfl (WrA.cE (hrec) rfl) ?_
      rintro _ σn _ ⟨_, ⟨pl, cl, x, rfl, hps, hval, hsn, rfl⟩, rfl⟩
      refine XOA.cl ?_; refine zV rfl rfl ?_
      refine XOA.wr0 rfl (WrA.st (tyrow rfl) rfl) ?_
      rintro _ _ _ ⟨rfl, rfl, rfl⟩
      refine zN (zT ?_)
      refine ⟨(Keep.updN (Keep.upd (Keep.updO (Keep.upd (Keep.upd (Keep.upd (Keep.refl _ _) rfl) rfl) rfl) rfl) rfl)), (x, (pl, cl)), _, zM, ?_, ⟨hsn, hps, hval, rfl⟩⟩
      · exact zE
    · obtain ⟨n1, n2⟩ := go_none (z := ([] : List St)) (a := listP (stmtP vl e (f - 1)) e) (s := s4)
      rw [hq, n1] at hs5
      subst hs5
      rw [hq]
      refine XA.skip (zT ?_)
      refine ⟨(Keep.refl _ _), ([], (none, 0)), _, zM, ?_, ⟨.refl _, PSl.nil _ _ _, n2, rfl⟩⟩
      · exact zE
  rintro u δ σu _ ⟨hsu, hux, huv, rfl⟩
  dsimp only [ovr, List.foldl]
  refine zT ?_
  obtain ⟨g1, g2⟩ := bind_go (K := fun bd l6 => bindP (optP (needO k) [] (listP (stmtP vl e (f - 1)) e) l6) fun el l7 => closeP e (St.mk k v1 x.1 z.1 bd el) l7) huv
  rw [hs5] at g1 g2
  have hLu := hLz.mono hsu (fun _ _ h => h)
  have hvu := hvz.mono hsu (fun _ _ h => h)
  refine zS (zS (zR (zV rfl rfl ?_))); refine zB rfl rfl (tyrow rfl) rfl ?_
  refine XOA.wr0 rfl (WrA.cE (rneedq σu k 111 _ need5) rfl) ?_
  rintro _ _ _ ⟨_, ⟨rfl, rfl, rfl⟩, rfl⟩
  refine XOA.cl ?_; refine zN (zT ?_)
  obtain ⟨s6, hs6⟩ : ∃ t, goS (optP (needO k) [] (listP (stmtP vl e (f - 1)) e)) s5 = t := ⟨_, rfl⟩
  refine XA.join [(51, 55)] (fun y : List St × (Option Addr × Nat) => []) (fun y σ' Γ' => σu.sub σ' ∧ PSl 12 StAt σ' (.slice y.2.1 y.1.length y.2.2) y.1 ∧ valS (optP (needO k) [] (listP (stmtP vl e (f - 1)) e)) s5 y.1 ∧ Γ' = [Rg L (.slice p L.length c0) e (.slice pv vl.length cv) b s6, blk g4 [i64 0, i64 0, i64 0, i64 0, i64 0, .slice none 0 0, i64 0, i64 0, i64 0, .slice none 0 0, .slice none 0 0, .slice none 0 0] 38, blk g5 [i64 k, i64 v1, i64 x.1.op, i64 x.1.v, i64 x.1.n, .slice x.2.1 x.1.l.length x.2.2, i64 z.1.op, i64 z.1.v, i64 z.1.n, .slice z.2.1 z.1.l.length z.2.2, .slice u.2.1 u.1.length u.2.2, .slice y.2.1 y.1.length y.2.2] 38]) ?_ ?_
  · skip
    refine XA.cond rfl (fun hq => ?_) (fun hq => ?_)
    · have hk := hk1 (by simp [hq])
      have hrec := hLi hk σu s5 (d + 1) hLu hLn hF hvu (hfF hk) (by omega)
      rw [hq, optP_t] at hs6
      rw [hs6] at hrec
      rw [hq, optP_t]
      refine zR (zA rfl ?_); refine zA rfl ?_; refine zO rfl zI ?_
      refine XOA.wr0 rfl (WrA.cE (hrec) rfl) ?_
      rintro _ σn _ ⟨_, ⟨pl, cl, x, rfl, hps, hval, hsn, rfl⟩, rfl⟩
      refine XOA.cl ?_; refine zV rfl rfl ?_
      refine XOA.wr0 rfl (WrA.st (tyrow rfl) rfl) ?_
      rintro _ _ _ ⟨rfl, rfl, rfl⟩
      refine zN (zT ?_)
      refine ⟨(Keep.updN (Keep.upd (Keep.updO (Keep.upd (Keep.upd (Keep.upd (Keep.refl _ _) rfl) rfl) rfl) rfl) rfl)), (x, (pl, cl)), _, zM, ?_, ⟨hsn, hps, hval, rfl⟩⟩
      · exact zE
    · obtain ⟨n1, n2⟩ := go_none (z := ([] : List St)) (a := listP (stmtP vl e (f - 1)) e) (s := s5)
      rw [hq, n1] at hs6
      subst hs6
      rw [hq]
      refine XA.skip (zT ?_)
      refine ⟨(Keep.refl _ _), ([], (none, 0)), _, zM, ?_, ⟨.refl _, PSl.nil _ _ _, n2, rfl⟩⟩
      · exact zE
  rintro w δ σw _ ⟨hsw, hwx, hwv, rfl⟩
  dsimp only [ovr, List.foldl]
  refine zT ?_
  obtain ⟨j1, j2⟩ := bind_go (K := fun el l7 => closeP e (St.mk k v1 x.1 z.1 u.1 el) l7) hwv
  rw [hs6] at j1 j2
  have hLw := hLu.mono hsw (fun _ _ h => h)
  obtain ⟨q1, q2⟩ := close_go (e := e) (x := St.mk k v1 x.1 z.1 u.1 w.1) (s := s6)
  have hgo : goS (mustP e rpar) s6 = goS (stmtP vl e f) s := by rw [← q1, ← j1, ← g1, ← e1, ← d1, ← c1, ← b1]
  have hval := b2 _ (c2 _ (d2 _ (e2 _ (g2 _ (j2 _ q2)))))
  refine zS (zR (zA rfl ?_))
  refine XOA.wr0 rfl (WrA.cE (must_r σw L p c0 e _ b s6 rpar hLw) rfl) ?_
  rintro _ _ _ ⟨_, ⟨⟨rfl, rfl⟩, rfl⟩, rfl⟩
  refine XOA.cl ?_
  rw [hgo]
  refine zN (zT (zS (zR (zO rfl (Rd.ldA rfl) ?_))))
  refine XOA.wr0 rfl (WrA.st (tyrow rfl) rfl) ?_
  rintro _ _ _ ⟨rfl, rfl, rfl⟩
  refine zN (zT (XA.ret ?_))
  have hsub : σ.sub σw := ((hsx.trans hsz).trans hsu).trans hsw
  have hxx := ((hxx.mono hsz).mono hsu).mono hsw
  have hzx := (hzx.mono hsu).mono hsw
  have hux := hux.mono hsw (fun _ _ h => h.mono hsw)
  have hfin : StAt σw (i64 k :: i64 v1 :: ([i64 x.1.op, i64 x.1.v, i64 x.1.n, .slice x.2.1 x.1.l.length x.2.2] ++ [i64 z.1.op, i64 z.1.v, i64 z.1.n, .slice z.2.1 z.1.l.length z.2.2] ++ [.slice u.2.1 u.1.length u.2.2, .slice w.2.1 w.1.length w.2.2]))  (.mk k v1 x.1 z.1 u.1 w.1) := StAt.of ⟨by omega, by omega⟩ hv64 hxx hzx hux hwx
  exact bodyA.ret (ResA.cell rfl rfl (Ld.atBlk (tyrow rfl) rfl zL rfl (by first | exact take0 (by first | rfl | assumption | (refine (ints_len _).trans ?_; assumption) | (simp [*]; (first | done | fail))) | assumption | exact take_app (by first | rfl | assumption | (refine (ints_len _).trans ?_; assumption) | (simp [*]; (first | done | fail))) | (conv => lhs; simp only [List.drop_succ_cons, List.drop_zero, List.take_succ_cons, List.take_zero])) (by first | rfl | assumption | (refine (ints_len _).trans ?_; assumption) | (simp [*]; (first | done | fail))))) zE ⟨_, _, rfl, hfin, hval, hsub, rfl⟩
theorem stmt_all (L : List Tk) (p : Option Addr) (c0 : Nat) (e : Int) (vl : List Va) (pv : Option Addr) (cv : Nat) (b : Nat) : ∀ f, RStOK L p c0 e vl pv cv b f
  | 0 => stmt_w L p c0 e vl pv cv b 0 (fun g h => by omega)
  | f + 1 => stmt_w L p c0 e vl pv cv b (f + 1) (fun g h => by cases h; exact stmt_all L p c0 e vl pv cv b f)
end Go.Proofs.YthefnnkmpcgcmaaGreatDoor

