/- Part 4 of 5 of what the claim needs: CdT, CdU, CdV, CdW, CdX, Kr, Kq, Na, Kf. -/
import Derived.Test.YtbbghdkndbpmmaaRk2
import Derived.Test.YtbbghdkndbpmmaaRk3
namespace Go.Proofs.Ytbbghdkndbpmmaa
open Go X
set_option maxHeartbeats 1000000
theorem rparts_a (σ : PH) (op : Int) : CallsA Try.prog 21 #[i64 op] σ [] (RetA fun v σ' Γ' => v = i64 (partsOf op) ∧ σ = σ' ∧ Γ' = []) := by
  refine enterA1 Try.func21 rfl rfl rfl ?_
  refine zS ?_; refine zR ?_; refine zO rfl Rd.asg ?_; refine zN ?_; refine zT ?_; refine zS ?_; refine zS ?_; refine zR ?_; refine zO rfl Rd.mv ?_; refine zN ?_; refine zT ?_
  refine XA.block ?_
  refine zS ?_; refine zS ?_; refine zR ?_
  by_cases h1 : op = 1
  · subst h1
    refine zO rfl (Rd.eql rfl rfl) ?_; refine zO rfl Rd.asg ?_; refine zN ?_; refine zT ?_
    refine XA.condT rfl rfl ?_
    refine XA.skip ?_
    refine zT ?_
    refine XA.condT rfl rfl ?_
    refine zS ?_; refine zR ?_; refine zO rfl Rd.asg ?_; refine zN ?_; refine zT ?_
    refine XA.ret ?_
    refine DA.inb_ret ?_
    refine DA.thn_ret ?_
    exact bodyA.ret (ResA.one rfl rfl) (Ent.refl _) ⟨rfl, rfl, rfl⟩
  by_cases h2 : op = 2
  · subst h2
    refine zO rfl (Rd.eql rfl rfl) ?_; refine zO rfl Rd.asg ?_; refine zN ?_; refine zT ?_
    refine XA.condF rfl rfl ?_
    refine zR ?_; refine zO rfl (Rd.eql rfl rfl) ?_; refine zO rfl Rd.asg ?_; refine zN ?_; refine zT ?_
    refine XA.condT rfl rfl ?_
    refine zS ?_; refine zR ?_; refine zO rfl Rd.asg ?_; refine zN ?_; refine zT ?_
    refine XA.ret ?_
    refine DA.inb_ret ?_
    refine DA.thn_ret ?_
    exact bodyA.ret (ResA.one rfl rfl) (Ent.refl _) ⟨rfl, rfl, rfl⟩
  by_cases h3 : op = 3
  · subst h3
    refine zO rfl (Rd.eql rfl rfl) ?_; refine zO rfl Rd.asg ?_; refine zN ?_; refine zT ?_
    refine XA.condF rfl rfl ?_
    refine zR ?_; refine zO rfl (Rd.eql rfl rfl) ?_; refine zO rfl Rd.asg ?_; refine zN ?_; refine zT ?_
    refine XA.condF rfl rfl ?_
    refine zS ?_; refine zR ?_; refine zO rfl (Rd.eql rfl rfl) ?_; refine zO rfl Rd.asg ?_; refine zN ?_; refine zT ?_
    refine XA.condT rfl rfl ?_
    refine zS ?_; refine zR ?_; refine zO rfl Rd.asg ?_; refine zN ?_; refine zT ?_
    refine XA.ret ?_
    refine DA.inb_ret ?_
    refine DA.thn_ret ?_
    exact bodyA.ret (ResA.one rfl rfl) (Ent.refl _) ⟨rfl, rfl, rfl⟩
  refine zO rfl (Rd.eql rfl rfl) ?_; refine zO rfl Rd.asg ?_; refine zN ?_; refine zT ?_
  refine XA.condF rfl (by first | rfl | exact (by first | exact (rfl : decide _ = true) | exact (rfl : decide _ = false) | (refine decide_eq_true ?_; assumption) | (refine decide_eq_false ?_; assumption) | (refine decide_eq_true ?_; omega) | (refine decide_eq_false ?_; omega))) ?_
  refine zR ?_; refine zO rfl (Rd.eql rfl rfl) ?_; refine zO rfl Rd.asg ?_; refine zN ?_; refine zT ?_
  refine XA.condF rfl (by first | rfl | exact (by first | exact (rfl : decide _ = true) | exact (rfl : decide _ = false) | (refine decide_eq_true ?_; assumption) | (refine decide_eq_false ?_; assumption) | (refine decide_eq_true ?_; omega) | (refine decide_eq_false ?_; omega))) ?_
  refine zS ?_; refine zR ?_; refine zO rfl (Rd.eql rfl rfl) ?_; refine zO rfl Rd.asg ?_; refine zN ?_; refine zT ?_
  refine XA.condF rfl (by first | rfl | exact (by first | exact (rfl : decide _ = true) | exact (rfl : decide _ = false) | (refine decide_eq_true ?_; assumption) | (refine decide_eq_false ?_; assumption) | (refine decide_eq_true ?_; omega) | (refine decide_eq_false ?_; omega))) ?_
  refine zS ?_; refine zS ?_; refine zR ?_; refine zO rfl (Rd.eql rfl rfl) ?_; refine zO rfl Rd.asg ?_; refine zN ?_; refine zT ?_
  have hp : partsOf op = if 4 ≤ op ∧ op ≤ 8 then 2 else -1 := by rw [partsOf, if_neg (by omega), if_neg h3]
  by_cases h4 : op = 4
  · subst h4
    refine XA.condT rfl rfl ?_
    refine XA.skip ?_
    refine zT ?_
    refine XA.condT rfl rfl ?_
    refine zS ?_; refine zR ?_; refine zO rfl Rd.asg ?_; refine zN ?_; refine zT ?_
    refine XA.ret ?_
    refine DA.inb_ret ?_
    refine DA.thn_ret ?_
    exact bodyA.ret (ResA.one rfl rfl) (Ent.refl _) ⟨rfl, rfl, rfl⟩
  by_cases h5 : op = 5
  · subst h5
    refine XA.condF rfl rfl ?_
    refine zS ?_; refine zR ?_; refine zO rfl (Rd.eql rfl rfl) ?_; refine zO rfl Rd.asg ?_; refine zN ?_; refine zT ?_
    refine XA.condT rfl rfl ?_
    refine XA.skip ?_
    refine zT ?_
    refine XA.condT rfl rfl ?_
    refine zS ?_; refine zR ?_; refine zO rfl Rd.asg ?_; refine zN ?_; refine zT ?_
    refine XA.ret ?_
    refine DA.inb_ret ?_
    refine DA.thn_ret ?_
    exact bodyA.ret (ResA.one rfl rfl) (Ent.refl _) ⟨rfl, rfl, rfl⟩
  by_cases h6 : op = 6
  · subst h6
    refine XA.condF rfl rfl ?_
    refine zS ?_; refine zR ?_; refine zO rfl (Rd.eql rfl rfl) ?_; refine zO rfl Rd.asg ?_; refine zN ?_; refine zT ?_
    refine XA.condF rfl rfl ?_
    refine zS ?_; refine zR ?_; refine zO rfl (Rd.eql rfl rfl) ?_; refine zO rfl Rd.asg ?_; refine zN ?_; refine zT ?_
    refine XA.condT rfl rfl ?_
    refine XA.skip ?_
    refine zT ?_
    refine XA.condT rfl rfl ?_
    refine zS ?_; refine zR ?_; refine zO rfl Rd.asg ?_; refine zN ?_; refine zT ?_
    refine XA.ret ?_
    refine DA.inb_ret ?_
    refine DA.thn_ret ?_
    exact bodyA.ret (ResA.one rfl rfl) (Ent.refl _) ⟨rfl, rfl, rfl⟩
  by_cases h7 : op = 7
  · subst h7
    refine XA.condF rfl rfl ?_
    refine zS ?_; refine zR ?_; refine zO rfl (Rd.eql rfl rfl) ?_; refine zO rfl Rd.asg ?_; refine zN ?_; refine zT ?_
    refine XA.condF rfl rfl ?_
    refine zS ?_; refine zR ?_; refine zO rfl (Rd.eql rfl rfl) ?_; refine zO rfl Rd.asg ?_; refine zN ?_; refine zT ?_
    refine XA.condF rfl rfl ?_
    refine zS ?_; refine zR ?_; refine zO rfl (Rd.eql rfl rfl) ?_; refine zO rfl Rd.asg ?_; refine zN ?_; refine zT ?_
    refine XA.condT rfl rfl ?_
    refine XA.skip ?_
    refine zT ?_
    refine XA.condT rfl rfl ?_
    refine zS ?_; refine zR ?_; refine zO rfl Rd.asg ?_; refine zN ?_; refine zT ?_
    refine XA.ret ?_
    refine DA.inb_ret ?_
    refine DA.thn_ret ?_
    exact bodyA.ret (ResA.one rfl rfl) (Ent.refl _) ⟨rfl, rfl, rfl⟩
  refine XA.condF rfl (by first | rfl | exact (by first | exact (rfl : decide _ = true) | exact (rfl : decide _ = false) | (refine decide_eq_true ?_; assumption) | (refine decide_eq_false ?_; assumption) | (refine decide_eq_true ?_; omega) | (refine decide_eq_false ?_; omega))) ?_
  refine zS ?_; refine zR ?_; refine zO rfl (Rd.eql rfl rfl) ?_; refine zO rfl Rd.asg ?_; refine zN ?_; refine zT ?_
  refine XA.condF rfl (by first | rfl | exact (by first | exact (rfl : decide _ = true) | exact (rfl : decide _ = false) | (refine decide_eq_true ?_; assumption) | (refine decide_eq_false ?_; assumption) | (refine decide_eq_true ?_; omega) | (refine decide_eq_false ?_; omega))) ?_
  refine zS ?_; refine zR ?_; refine zO rfl (Rd.eql rfl rfl) ?_; refine zO rfl Rd.asg ?_; refine zN ?_; refine zT ?_
  refine XA.condF rfl (by first | rfl | exact (by first | exact (rfl : decide _ = true) | exact (rfl : decide _ = false) | (refine decide_eq_true ?_; assumption) | (refine decide_eq_false ?_; assumption) | (refine decide_eq_true ?_; omega) | (refine decide_eq_false ?_; omega))) ?_
  refine zS ?_; refine zR ?_; refine zO rfl (Rd.eql rfl rfl) ?_; refine zO rfl Rd.asg ?_; refine zN ?_; refine zT ?_
  refine XA.condF rfl (by first | rfl | exact (by first | exact (rfl : decide _ = true) | exact (rfl : decide _ = false) | (refine decide_eq_true ?_; assumption) | (refine decide_eq_false ?_; assumption) | (refine decide_eq_true ?_; omega) | (refine decide_eq_false ?_; omega))) ?_
  refine zR ?_; refine zO rfl (Rd.eql rfl rfl) ?_; refine zO rfl Rd.asg ?_; refine zN ?_; refine zT ?_
  refine XA.condp rfl (fun h8 => ?_) (fun h8 => ?_)
  · subst h8
    refine zS ?_; refine zR ?_; refine zO rfl Rd.asg ?_; refine zN ?_; refine zT ?_
    refine XA.ret ?_
    refine DA.inb_ret ?_
    refine DA.thn_ret ?_
    exact bodyA.ret (ResA.one rfl rfl) (Ent.refl _) ⟨rfl, rfl, rfl⟩
  rw [hp, if_neg (by omega)]
  refine XA.skip ?_
  refine DA.inb_normal ?_
  refine zT ?_; refine zS ?_; refine zR ?_; refine zO rfl Rd.asg ?_; refine zN ?_; refine zT ?_
  refine XA.ret ?_
  exact bodyA.ret (ResA.one rfl rfl) (Ent.refl _) ⟨rfl, rfl, rfl⟩
def needs (op : Int) : ByteArray := if op = 1 then ⟨#[101, 118]⟩ else if op = 2 then ⟨#[101, 102, 118]⟩ else if op = 3 then ⟨#[101]⟩ else if op = 4 then ⟨#[118]⟩ else if op = 5 then ⟨#[101, 98]⟩ else if op = 6 then ⟨#[101, 98, 111]⟩ else ⟨#[]⟩
theorem rneeds_a (σ : PH) (op : Int) : CallsA Try.prog 41 #[i64 op] σ [] (RetA fun v σ' Γ' => v = .string (needs op) ∧ σ = σ' ∧ Γ' = []) := by
  refine enterA1 Try.func41 rfl rfl rfl ?_
  refine zS ?_; refine zR ?_; refine zO rfl Rd.asg ?_; refine zN ?_; refine zT ?_; refine zS ?_; refine zS ?_; refine zR ?_; refine zO rfl Rd.mv ?_; refine zN ?_; refine zT ?_
  refine XA.block ?_
  refine zS ?_; refine zR ?_; refine zO rfl (Rd.eql rfl rfl) ?_; refine zO rfl Rd.asg ?_; refine zN ?_; refine zT ?_
  refine XA.condp rfl (fun h1 => ?_) (fun h1 => ?_)
  · subst h1
    refine zS ?_; refine zR ?_; refine zO rfl Rd.asg ?_; refine zN ?_; refine zT ?_
    refine XA.ret ?_
    refine DA.inb_ret ?_
    refine DA.thn_ret ?_
    exact bodyA.ret (ResA.one rfl rfl) (Ent.refl _) ⟨rfl, rfl, rfl⟩
  refine zS ?_; refine zR ?_; refine zO rfl (Rd.eql rfl rfl) ?_; refine zO rfl Rd.asg ?_; refine zN ?_; refine zT ?_
  refine XA.condp rfl (fun h2 => ?_) (fun h2 => ?_)
  · subst h2
    refine zS ?_; refine zR ?_; refine zO rfl Rd.asg ?_; refine zN ?_; refine zT ?_
    refine XA.ret ?_
    refine DA.inb_ret ?_
    refine DA.thn_ret ?_
    exact bodyA.ret (ResA.one rfl rfl) (Ent.refl _) ⟨rfl, rfl, rfl⟩
  refine zS ?_; refine zR ?_; refine zO rfl (Rd.eql rfl rfl) ?_; refine zO rfl Rd.asg ?_; refine zN ?_; refine zT ?_
  refine XA.condp rfl (fun h3 => ?_) (fun h3 => ?_)
  · subst h3
    refine zS ?_; refine zR ?_; refine zO rfl Rd.asg ?_; refine zN ?_; refine zT ?_
    refine XA.ret ?_
    refine DA.inb_ret ?_
    refine DA.thn_ret ?_
    exact bodyA.ret (ResA.one rfl rfl) (Ent.refl _) ⟨rfl, rfl, rfl⟩
  refine zS ?_; refine zR ?_; refine zO rfl (Rd.eql rfl rfl) ?_; refine zO rfl Rd.asg ?_; refine zN ?_; refine zT ?_
  refine XA.condp rfl (fun h4 => ?_) (fun h4 => ?_)
  · subst h4
    refine zS ?_; refine zR ?_; refine zO rfl Rd.asg ?_; refine zN ?_; refine zT ?_
    refine XA.ret ?_
    refine DA.inb_ret ?_
    refine DA.thn_ret ?_
    exact bodyA.ret (ResA.one rfl rfl) (Ent.refl _) ⟨rfl, rfl, rfl⟩
  refine zS ?_; refine zR ?_; refine zO rfl (Rd.eql rfl rfl) ?_; refine zO rfl Rd.asg ?_; refine zN ?_; refine zT ?_
  refine XA.condp rfl (fun h5 => ?_) (fun h5 => ?_)
  · subst h5
    refine zS ?_; refine zR ?_; refine zO rfl Rd.asg ?_; refine zN ?_; refine zT ?_
    refine XA.ret ?_
    refine DA.inb_ret ?_
    refine DA.thn_ret ?_
    exact bodyA.ret (ResA.one rfl rfl) (Ent.refl _) ⟨rfl, rfl, rfl⟩
  refine zS ?_; refine zR ?_; refine zO rfl (Rd.eql rfl rfl) ?_; refine zO rfl Rd.asg ?_; refine zN ?_; refine zT ?_
  refine XA.condp rfl (fun h6 => ?_) (fun h6 => ?_)
  · subst h6
    refine zS ?_; refine zR ?_; refine zO rfl Rd.asg ?_; refine zN ?_; refine zT ?_
    refine XA.ret ?_
    refine DA.inb_ret ?_
    refine DA.thn_ret ?_
    exact bodyA.ret (ResA.one rfl rfl) (Ent.refl _) ⟨rfl, rfl, rfl⟩
  have hn : needs op = ⟨#[]⟩ := by rw [needs, if_neg h1, if_neg h2, if_neg h3, if_neg h4, if_neg h5, if_neg h6]
  rw [hn]
  refine XA.skip ?_
  refine DA.inb_normal ?_
  refine zT ?_; refine zS ?_; refine zR ?_; refine zO rfl Rd.asg ?_; refine zN ?_; refine zT ?_
  refine XA.ret ?_
  exact bodyA.ret (ResA.one rfl rfl) (Ent.refl _) ⟨rfl, rfl, rfl⟩
def hasByte (s : ByteArray) (c : Nat) : Bool := decide (∃ i, i < s.size ∧ byteAt s i = c)
theorem rneeded_a (σ : PH) (op : Int) (c : Nat) : CallsA Try.prog 17 #[i64 op, .int .u8 c] σ [] (RetA fun v σ' Γ' => v = .bool (hasByte (needs op) c) ∧ σ = σ' ∧ Γ' = []) := by
  have hsz : (needs op).size ≤ 3 := by unfold needs; (repeat' split) <;> decide
  refine enterA2 Try.func17 rfl rfl rfl ?_
  refine zS ?_; refine zR ?_; refine zO rfl Rd.asg ?_; refine zN ?_; refine zT ?_; refine zS ?_; refine zR ?_; refine zO rfl Rd.mv ?_
  refine XOA.wr0 rfl (WrA.cE (rneeds_a σ op) rfl) ?_
  rintro _ _ _ ⟨_, ⟨rfl, rfl, rfl⟩, rfl⟩
  refine XOA.cl ?_
  obtain ⟨s, hs⟩ : ∃ s, s = needs op := ⟨_, rfl⟩
  rw [← hs] at hsz ⊢
  refine zO rfl Rd.asg ?_; refine zN ?_; refine zT ?_; refine zS ?_; refine zS ?_; refine zR ?_; refine zO rfl Rd.asg ?_; refine zN ?_; refine zT ?_
  refine XA.block ?_
  refine XA.gen [(1, _), (4, _), (5, _), (6, _)] ⟨(by with_reducible (conv => lhs; whnf)), (by with_reducible (conv => lhs; whnf)), (by with_reducible (conv => lhs; whnf)), (by with_reducible (conv => lhs; whnf)), trivial⟩ (fun δ => ?_)
  dsimp only [List.foldl]
  refine XA.loop [(4, 4), (6, 6), (9, 19)] (fun k : Nat => [(6, i64 k)]) (fun k σ' Γ' => σ = σ' ∧ k ≤ s.size ∧ (∀ i, i < k → byteAt s i ≠ c) ∧ Γ' = []) (fun k => s.size - k) 0 (by exact ⟨rfl, trivial⟩) (Δ0 := _) ?_ (⟨rfl, Nat.zero_le _, fun i h => absurd h (Nat.not_lt_zero _), rfl⟩) ?_
  · exact zE
  rintro k δ _ _ ⟨rfl, hk, hall, rfl⟩
  dsimp only [ovr, List.foldl]
  refine zS ?_; refine zS ?_; refine zR ?_; refine zO rfl Rd.mv ?_; refine zO rfl Rd.mv ?_
  refine zO rfl (Rd.lenString (tyrow rfl) rfl rfl) ?_
  refine zO rfl (Rd.lss rfl rfl) ?_; refine zN ?_; refine zT ?_
  refine XA.condp rfl (fun hlt => ?_) (fun hlt => ?_)
  · have hlt : k < s.size := by omega
    refine XA.skip ?_
    refine zT ?_; refine zS ?_
    refine XA.block ?_
    refine zS ?_; refine zR ?_; refine zO rfl Rd.mv ?_; refine zO rfl Rd.mv ?_
    refine zO rfl (Rd.indexStr (tyrow rfl) rfl rfl rfl (by first | omega | decide | (simp; omega))) ?_
    refine zO rfl Rd.mv ?_; refine zO rfl (Rd.eql rfl rfl) ?_; refine zN ?_; refine zT ?_
    refine XA.condp rfl (fun he => ?_) (fun he => ?_)
    · have hb : hasByte s c = true := decide_eq_true ⟨k, hlt, by omega⟩
      rw [hb]
      refine zS ?_; refine zR ?_; refine zO rfl Rd.asg ?_; refine zN ?_; refine zT ?_
      refine XA.ret ?_
      refine DA.inb_ret ?_
      refine DA.thn_ret ?_
      refine DA.thn_ret ?_
      refine DA.inb_ret ?_
      refine DA.thn_ret ?_
      exact bodyA.ret (ResA.one rfl rfl) (Ent.nil _) ⟨rfl, rfl, rfl⟩
    have hnew : ∀ i, i < k + 1 → byteAt s i ≠ c := fun i hi => by
      rcases Nat.lt_or_ge i k with h | h
      · exact hall i h
      · have : i = k := by omega
        subst this; omega
    refine XA.skip ?_
    refine DA.inb_normal ?_
    refine zT ?_; refine zR ?_; refine zO rfl Rd.mv ?_
    refine zO rfl (by first | exact Rd.adi rfl rfl | exact Rd.add rfl rfl) ?_
    refine zO rfl Rd.asg ?_; refine zN ?_; refine zT ?_
    refine ⟨(Keep.upd (Keep.upd (Keep.upd (Keep.upd (Keep.upd (Keep.upd (Keep.upd (Keep.upd (Keep.upd (Keep.upd (Keep.upd (Keep.upd (Keep.upd (Keep.hav (Keep.hav (Keep.hav (Keep.refl _ _) rfl) rfl) rfl) rfl) rfl) rfl) rfl) rfl) rfl) rfl) rfl) rfl) rfl) rfl) rfl) rfl), k + 1, _, (by (repeat (first | exact trivial | refine ⟨rfl, ?_⟩ | refine ⟨Eq.trans rfl (congrArg Value.bool hmat.symm), ?_⟩)); (first | done | fail)), ?_, ⟨rfl, hlt, hnew, rfl⟩, (by omega)⟩
    · exact zE
  have hb : hasByte s c = false := decide_eq_false (fun ⟨i, h1, h2⟩ => hall i (by omega) h2)
  rw [hb]
  refine XA.exit ?_
  refine DA.thn_exit ?_
  refine DA.thn_exit ?_
  refine DA.inb_same ?_
  refine zT ?_; refine zS ?_; refine zR ?_; refine zO rfl Rd.asg ?_; refine zN ?_; refine zT ?_
  refine XA.ret ?_
  exact bodyA.ret (ResA.one rfl rfl) (Ent.nil _) ⟨rfl, rfl, rfl⟩
theorem need_op (op : Int) : hasByte (needs op) 101 = needE op ∧ hasByte (needs op) 102 = needF op ∧ hasByte (needs op) 118 = needV op ∧ hasByte (needs op) 98 = needB op ∧ hasByte (needs op) 111 = needO op := by
  by_cases h1 : op = 1
  · subst h1; decide +kernel
  by_cases h2 : op = 2
  · subst h2; decide +kernel
  by_cases h3 : op = 3
  · subst h3; decide +kernel
  by_cases h4 : op = 4
  · subst h4; decide +kernel
  by_cases h5 : op = 5
  · subst h5; decide +kernel
  by_cases h6 : op = 6
  · subst h6; decide +kernel
  have hn : needs op = ⟨#[]⟩ := by rw [needs, if_neg h1, if_neg h2, if_neg h3, if_neg h4, if_neg h5, if_neg h6]
  rw [hn]
  have : ∀ c, hasByte ⟨#[]⟩ c = false := fun c => decide_eq_false (fun ⟨i, h, _⟩ => absurd h (Nat.not_lt_zero i))
  simp [this, needE, needF, needV, needB, needO, h1, h2, h3, h4, h5, h6]
theorem rname_a (σ : PH) (s : ByteArray) (hs : s.size ≤ maxLen) : CallsA Try.prog 23 #[.string s] σ [] (RetA fun v σ' Γ' => v = .bool (nameOk s) ∧ σ = σ' ∧ Γ' = []) := by
  simp only [maxLen] at hs
  refine enterA1 Try.func23 rfl rfl rfl ?_
  refine zS ?_; refine zR ?_; refine zO rfl Rd.asg ?_; refine zN ?_; refine zT ?_; refine zS ?_; refine zS ?_; refine zR ?_; refine zO rfl Rd.asg ?_; refine zN ?_; refine zT ?_
  refine XA.block ?_
  refine XA.gen [(0, _), (2, _), (3, _)] ⟨(by with_reducible (conv => lhs; whnf)), (by with_reducible (conv => lhs; whnf)), (by with_reducible (conv => lhs; whnf)), trivial⟩ (fun δ => ?_)
  dsimp only [List.foldl]
  refine XA.loop [(2, 19)] (fun k : Nat => [(3, i64 k)]) (fun k σ' Γ' => σ = σ' ∧ k ≤ s.size ∧ (∀ i, i < k → 97 ≤ byteAt s i ∧ byteAt s i ≤ 122) ∧ Γ' = []) (fun k => s.size - k) 0 (by exact ⟨rfl, trivial⟩) (Δ0 := _) ?_ (⟨rfl, Nat.zero_le _, by intro i hi; omega, rfl⟩) ?_
  · exact zE
  rintro k δ _ _ ⟨rfl, hk, hall, rfl⟩
  dsimp only [ovr, List.foldl]
  refine zS ?_; refine zS ?_; refine zR ?_; refine zO rfl Rd.mv ?_; refine zO rfl Rd.mv ?_
  refine zO rfl (Rd.lenString (tyrow rfl) rfl rfl) ?_
  refine zO rfl (Rd.lss rfl rfl) ?_; refine zN ?_; refine zT ?_
  refine XA.condp rfl (fun hlt => ?_) (fun hlt => ?_)
  · have hlt : k < s.size := by omega
    have hb := byteAt_lt s k
    by_cases h1 : byteAt s k < 97
    · 
      refine XA.skip ?_
      refine zT ?_; refine zS ?_
      refine XA.block ?_
      refine zS ?_; refine zR ?_; refine zO rfl Rd.mv ?_; refine zO rfl Rd.mv ?_
      refine zO rfl (Rd.indexStr (tyrow rfl) rfl rfl rfl (by first | omega | decide | (simp; omega))) ?_
      refine zO rfl (Rd.lss rfl rfl) ?_; refine zO rfl Rd.mv ?_
      first | ((first | refine zW ?_ | refine zQ ?_); refine zO rfl Rd.mv ?_) | refine zU ?_ | refine zV ?_ | refine zZ ?_
      first | ((first | refine zW ?_ | refine zQ ?_); refine zO rfl Rd.mv ?_) | refine zU ?_ | refine zV ?_ | refine zZ ?_
      first | ((first | refine zW ?_ | refine zQ ?_); refine zO rfl (Rd.indexStr (tyrow rfl) rfl rfl rfl (by first | omega | decide | (simp; omega))) ?_) | refine zU ?_ | refine zV ?_ | refine zZ ?_
      first | ((first | refine zW ?_ | refine zQ ?_); refine zO rfl (Rd.gtr rfl rfl) ?_) | refine zU ?_ | refine zV ?_ | refine zZ ?_
      refine zO rfl (by first | exact Rd.pT rfl | exact Rd.pF rfl | exact Rd.pP rfl) ?_
      refine zN ?_; refine zT ?_
      refine XA.condT rfl rfl ?_
      refine zS ?_; refine zR ?_; refine zO rfl Rd.asg ?_; refine zN ?_; refine zT ?_
      refine XA.ret ?_
      refine DA.inb_ret ?_
      refine DA.thn_ret ?_
      refine DA.thn_ret ?_
      refine DA.inb_ret ?_
      refine DA.thn_ret ?_
      refine bodyA.ret (ResA.one rfl rfl) (Ent.refl _) ⟨?_, rfl, rfl⟩
      have : nameOk s = false := decide_eq_false (fun h => by have := h.1 k hlt; omega)
      rw [this]
    · 
      refine XA.skip ?_
      refine zT ?_; refine zS ?_
      refine XA.block ?_
      refine zS ?_; refine zR ?_; refine zO rfl Rd.mv ?_; refine zO rfl Rd.mv ?_
      refine zO rfl (Rd.indexStr (tyrow rfl) rfl rfl rfl (by first | omega | decide | (simp; omega))) ?_
      refine zO rfl (Rd.lss rfl rfl) ?_; refine zO rfl Rd.mv ?_
      first | ((first | refine zW ?_ | refine zQ ?_); refine zO rfl Rd.mv ?_) | refine zU ?_ | refine zV ?_ | refine zZ ?_
      first | ((first | refine zW ?_ | refine zQ ?_); refine zO rfl Rd.mv ?_) | refine zU ?_ | refine zV ?_ | refine zZ ?_
      first | ((first | refine zW ?_ | refine zQ ?_); refine zO rfl (Rd.indexStr (tyrow rfl) rfl rfl rfl (by first | omega | decide | (simp; omega))) ?_) | refine zU ?_ | refine zV ?_ | refine zZ ?_
      first | ((first | refine zW ?_ | refine zQ ?_); refine zO rfl (Rd.gtr rfl rfl) ?_) | refine zU ?_ | refine zV ?_ | refine zZ ?_
      refine zO rfl (by first | exact Rd.pT rfl | exact Rd.pF rfl | exact Rd.pP rfl) ?_
      refine zN ?_; refine zT ?_
      refine XA.condp rfl (fun h2 => ?_) (fun h2 => ?_)
      · refine zS ?_
        refine zR ?_; refine zO rfl Rd.asg ?_; refine zN ?_; refine zT ?_
        refine XA.ret ?_
        refine DA.inb_ret ?_
        refine DA.thn_ret ?_
        refine DA.thn_ret ?_
        refine DA.inb_ret ?_
        refine DA.thn_ret ?_
        refine bodyA.ret (ResA.one rfl rfl) (Ent.refl _) ⟨?_, rfl, rfl⟩
        have : nameOk s = false := decide_eq_false (fun h => by have := h.1 k hlt; omega)
        rw [this]
      have hnew : ∀ i, i < k + 1 → 97 ≤ byteAt s i ∧ byteAt s i ≤ 122 := fun i hi => by
        rcases Nat.lt_or_ge i k with h | h
        · exact hall i h
        · have : i = k := by omega
          subst this; omega
      refine XA.skip ?_
      refine DA.inb_normal ?_
      refine zT ?_; refine zR ?_; refine zO rfl Rd.mv ?_
      refine zO rfl (by first | exact Rd.adi rfl rfl | exact Rd.add rfl rfl) ?_
      refine zO rfl Rd.asg ?_; refine zN ?_; refine zT ?_
      refine ⟨(Keep.upd (Keep.upd (Keep.upd (Keep.upd (Keep.upd (Keep.upd (Keep.upd (Keep.upd (Keep.upd (Keep.upd (Keep.upd (Keep.upd (Keep.upd (Keep.upd (Keep.upd (Keep.upd (Keep.upd (Keep.upd (Keep.hav (Keep.refl _ _) rfl) rfl) rfl) rfl) rfl) rfl) rfl) rfl) rfl) rfl) rfl) rfl) rfl) rfl) rfl) rfl) rfl) rfl) rfl), k + 1, _, (by (repeat (first | exact trivial | refine ⟨rfl, ?_⟩ | refine ⟨Eq.trans rfl (congrArg Value.bool hmat.symm), ?_⟩)); (first | done | fail)), ?_, ⟨rfl, hlt, hnew, rfl⟩, (by omega)⟩
      · exact zE
  have hkn : k = s.size := by omega
  subst hkn
  by_cases h0 : 1 ≤ s.size
  · have : nameOk s = decide ((s.size : Int) ≤ 8) := by
      unfold nameOk
      rw [decide_eq_decide]
      constructor
      · intro h; omega
      · intro h; exact ⟨hall, by omega, by omega⟩
    rw [this]
    refine XA.exit ?_
    refine DA.thn_exit ?_
    refine DA.thn_exit ?_
    refine DA.inb_same ?_
    refine zT ?_; refine zS ?_; refine zR ?_; refine zO rfl Rd.mv ?_
    refine zO rfl (Rd.lenString (tyrow rfl) rfl rfl) ?_
    refine zO rfl (Rd.geq rfl rfl) ?_
    refine zO rfl Rd.mv ?_
    first | ((first | refine zW ?_ | refine zQ ?_); refine zO rfl Rd.mv ?_) | refine zU ?_ | refine zV ?_ | refine zZ ?_
    first | ((first | refine zW ?_ | refine zQ ?_); refine zO rfl (Rd.lenString (tyrow rfl) rfl rfl) ?_) | refine zU ?_ | refine zV ?_ | refine zZ ?_
    first | ((first | refine zW ?_ | refine zQ ?_); refine zO rfl (Rd.leq rfl rfl) ?_) | refine zU ?_ | refine zV ?_ | refine zZ ?_
    refine zO rfl (by first | exact Rd.pT rfl | exact Rd.pF rfl | exact Rd.pP rfl) ?_
    refine zO rfl Rd.asg ?_; refine zN ?_; refine zT ?_
    refine XA.ret ?_
    exact bodyA.ret (ResA.one rfl rfl) (Ent.refl _) ⟨rfl, rfl, rfl⟩
  · have : nameOk s = false := decide_eq_false (fun h => by omega)
    rw [this]
    refine XA.exit ?_
    refine DA.thn_exit ?_
    refine DA.thn_exit ?_
    refine DA.inb_same ?_
    refine zT ?_; refine zS ?_; refine zR ?_; refine zO rfl Rd.mv ?_
    refine zO rfl (Rd.lenString (tyrow rfl) rfl rfl) ?_
    refine zO rfl (Rd.geq rfl rfl) ?_
    refine zO rfl Rd.mv ?_
    first | ((first | refine zW ?_ | refine zQ ?_); refine zO rfl Rd.mv ?_) | refine zU ?_ | refine zV ?_ | refine zZ ?_
    first | ((first | refine zW ?_ | refine zQ ?_); refine zO rfl (Rd.lenString (tyrow rfl) rfl rfl) ?_) | refine zU ?_ | refine zV ?_ | refine zZ ?_
    first | ((first | refine zW ?_ | refine zQ ?_); refine zO rfl (Rd.leq rfl rfl) ?_) | refine zU ?_ | refine zV ?_ | refine zZ ?_
    refine zO rfl (by first | exact Rd.pT rfl | exact Rd.pF rfl | exact Rd.pP rfl) ?_
    refine zO rfl Rd.asg ?_; refine zN ?_; refine zT ?_
    refine XA.ret ?_
    exact bodyA.ret (ResA.one rfl rfl) (Ent.refl _) ⟨rfl, rfl, rfl⟩
theorem rzero_a (σ : PH) (cs : List Value) (x : Ex) (hx : ExAt σ cs x) : CallsA Try.prog 66 #[.agg cs.toArray] σ [] (RetA fun v σ' Γ' => v = .bool (noneX x) ∧ σ = σ' ∧ Γ' = []) := by
  obtain ⟨p, c, rfl, -, -, -, -⟩ := hx.inv
  by_cases h1 : x.op = 0
  · by_cases h2 : x.v = 0
    · by_cases h3 : x.n = 0
      · 
        refine enterA1 Try.func66 rfl rfl rfl ?_
        refine zS ?_; refine zR ?_
        refine XOA.wr0 rfl WrA.bx ?_
        rintro _ _ _ ⟨g1, rfl, rfl, rfl⟩
        refine zO rfl Rd.asg ?_; refine zN ?_; refine zT ?_; refine zS ?_; refine zR ?_; refine zO rfl (Rd.fA rfl) ?_; refine zO rfl (Rd.ldC rfl (tyrow rfl) rfl) ?_; refine zO rfl (Rd.eql rfl rfl) ?_; refine zO rfl Rd.mv ?_
        first | ((first | refine zW ?_ | refine zQ ?_); refine zO rfl (Rd.fA rfl) ?_) | refine zU ?_ | refine zV ?_ | refine zZ ?_
        first | ((first | refine zW ?_ | refine zQ ?_); refine zO rfl (Rd.ldC rfl (tyrow rfl) rfl) ?_) | refine zU ?_ | refine zV ?_ | refine zZ ?_
        first | ((first | refine zW ?_ | refine zQ ?_); refine zO rfl (Rd.eql rfl rfl) ?_) | refine zU ?_ | refine zV ?_ | refine zZ ?_
        refine zO rfl (by first | exact Rd.pT rfl | exact Rd.pF rfl | exact Rd.pP rfl) ?_
        refine zO rfl Rd.mv ?_
        first | ((first | refine zW ?_ | refine zQ ?_); refine zO rfl (Rd.fA rfl) ?_) | refine zU ?_ | refine zV ?_ | refine zZ ?_
        first | ((first | refine zW ?_ | refine zQ ?_); refine zO rfl (Rd.ldC rfl (tyrow rfl) rfl) ?_) | refine zU ?_ | refine zV ?_ | refine zZ ?_
        first | ((first | refine zW ?_ | refine zQ ?_); refine zO rfl (Rd.eql rfl rfl) ?_) | refine zU ?_ | refine zV ?_ | refine zZ ?_
        refine zO rfl (by first | exact Rd.pT rfl | exact Rd.pF rfl | exact Rd.pP rfl) ?_
        refine zO rfl Rd.mv ?_
        first | ((first | refine zW ?_ | refine zQ ?_); refine zO rfl (Rd.fA rfl) ?_) | refine zU ?_ | refine zV ?_ | refine zZ ?_
        first | ((first | refine zW ?_ | refine zQ ?_); refine zO rfl (Rd.ldC rfl (tyrow rfl) rfl) ?_) | refine zU ?_ | refine zV ?_ | refine zZ ?_
        first | ((first | refine zW ?_ | refine zQ ?_); refine zO rfl (Rd.lenSlice (tyrow rfl) rfl rfl) ?_) | refine zU ?_ | refine zV ?_ | refine zZ ?_
        first | ((first | refine zW ?_ | refine zQ ?_); refine zO rfl (Rd.eql rfl rfl) ?_) | refine zU ?_ | refine zV ?_ | refine zZ ?_
        refine zO rfl (by first | exact Rd.pT rfl | exact Rd.pF rfl | exact Rd.pP rfl) ?_
        refine zO rfl Rd.asg ?_; refine zN ?_; refine zT ?_
        refine XA.ret ?_
        refine bodyA.ret (ResA.one rfl rfl) (Ent.nil _) ⟨?_, rfl, rfl⟩
        simp [noneX, h1, h2, h3]
      · 
        refine enterA1 Try.func66 rfl rfl rfl ?_
        refine zS ?_; refine zR ?_
        refine XOA.wr0 rfl WrA.bx ?_
        rintro _ _ _ ⟨g1, rfl, rfl, rfl⟩
        refine zO rfl Rd.asg ?_; refine zN ?_; refine zT ?_; refine zS ?_; refine zR ?_; refine zO rfl (Rd.fA rfl) ?_; refine zO rfl (Rd.ldC rfl (tyrow rfl) rfl) ?_; refine zO rfl (Rd.eql rfl rfl) ?_; refine zO rfl Rd.mv ?_
        first | ((first | refine zW ?_ | refine zQ ?_); refine zO rfl (Rd.fA rfl) ?_) | refine zU ?_ | refine zV ?_ | refine zZ ?_
        first | ((first | refine zW ?_ | refine zQ ?_); refine zO rfl (Rd.ldC rfl (tyrow rfl) rfl) ?_) | refine zU ?_ | refine zV ?_ | refine zZ ?_
        first | ((first | refine zW ?_ | refine zQ ?_); refine zO rfl (Rd.eql rfl rfl) ?_) | refine zU ?_ | refine zV ?_ | refine zZ ?_
        refine zO rfl (by first | exact Rd.pT rfl | exact Rd.pF rfl | exact Rd.pP rfl) ?_
        refine zO rfl Rd.mv ?_
        first | ((first | refine zW ?_ | refine zQ ?_); refine zO rfl (Rd.fA rfl) ?_) | refine zU ?_ | refine zV ?_ | refine zZ ?_
        first | ((first | refine zW ?_ | refine zQ ?_); refine zO rfl (Rd.ldC rfl (tyrow rfl) rfl) ?_) | refine zU ?_ | refine zV ?_ | refine zZ ?_
        first | ((first | refine zW ?_ | refine zQ ?_); refine zO rfl (Rd.eql rfl rfl) ?_) | refine zU ?_ | refine zV ?_ | refine zZ ?_
        refine zO rfl (by first | exact Rd.pT rfl | exact Rd.pF rfl | exact Rd.pP rfl) ?_
        refine zO rfl Rd.mv ?_
        first | ((first | refine zW ?_ | refine zQ ?_); refine zO rfl (Rd.fA rfl) ?_) | refine zU ?_ | refine zV ?_ | refine zZ ?_
        first | ((first | refine zW ?_ | refine zQ ?_); refine zO rfl (Rd.ldC rfl (tyrow rfl) rfl) ?_) | refine zU ?_ | refine zV ?_ | refine zZ ?_
        first | ((first | refine zW ?_ | refine zQ ?_); refine zO rfl (Rd.lenSlice (tyrow rfl) rfl rfl) ?_) | refine zU ?_ | refine zV ?_ | refine zZ ?_
        first | ((first | refine zW ?_ | refine zQ ?_); refine zO rfl (Rd.eql rfl rfl) ?_) | refine zU ?_ | refine zV ?_ | refine zZ ?_
        refine zO rfl (by first | exact Rd.pT rfl | exact Rd.pF rfl | exact Rd.pP rfl) ?_
        refine zO rfl Rd.asg ?_; refine zN ?_; refine zT ?_
        refine XA.ret ?_
        exact bodyA.ret (ResA.one rfl rfl) (Ent.nil _) ⟨by simp [noneX, h3], rfl, rfl⟩
    · 
      refine enterA1 Try.func66 rfl rfl rfl ?_
      refine zS ?_; refine zR ?_
      refine XOA.wr0 rfl WrA.bx ?_
      rintro _ _ _ ⟨g1, rfl, rfl, rfl⟩
      refine zO rfl Rd.asg ?_; refine zN ?_; refine zT ?_; refine zS ?_; refine zR ?_; refine zO rfl (Rd.fA rfl) ?_; refine zO rfl (Rd.ldC rfl (tyrow rfl) rfl) ?_; refine zO rfl (Rd.eql rfl rfl) ?_; refine zO rfl Rd.mv ?_
      first | ((first | refine zW ?_ | refine zQ ?_); refine zO rfl (Rd.fA rfl) ?_) | refine zU ?_ | refine zV ?_ | refine zZ ?_
      first | ((first | refine zW ?_ | refine zQ ?_); refine zO rfl (Rd.ldC rfl (tyrow rfl) rfl) ?_) | refine zU ?_ | refine zV ?_ | refine zZ ?_
      first | ((first | refine zW ?_ | refine zQ ?_); refine zO rfl (Rd.eql rfl rfl) ?_) | refine zU ?_ | refine zV ?_ | refine zZ ?_
      refine zO rfl (by first | exact Rd.pT rfl | exact Rd.pF rfl | exact Rd.pP rfl) ?_
      refine zO rfl Rd.mv ?_
      first | ((first | refine zW ?_ | refine zQ ?_); refine zO rfl (Rd.fA rfl) ?_) | refine zU ?_ | refine zV ?_ | refine zZ ?_
      first | ((first | refine zW ?_ | refine zQ ?_); refine zO rfl (Rd.ldC rfl (tyrow rfl) rfl) ?_) | refine zU ?_ | refine zV ?_ | refine zZ ?_
      first | ((first | refine zW ?_ | refine zQ ?_); refine zO rfl (Rd.eql rfl rfl) ?_) | refine zU ?_ | refine zV ?_ | refine zZ ?_
      refine zO rfl (by first | exact Rd.pT rfl | exact Rd.pF rfl | exact Rd.pP rfl) ?_
      refine zO rfl Rd.mv ?_
      first | ((first | refine zW ?_ | refine zQ ?_); refine zO rfl (Rd.fA rfl) ?_) | refine zU ?_ | refine zV ?_ | refine zZ ?_
      first | ((first | refine zW ?_ | refine zQ ?_); refine zO rfl (Rd.ldC rfl (tyrow rfl) rfl) ?_) | refine zU ?_ | refine zV ?_ | refine zZ ?_
      first | ((first | refine zW ?_ | refine zQ ?_); refine zO rfl (Rd.lenSlice (tyrow rfl) rfl rfl) ?_) | refine zU ?_ | refine zV ?_ | refine zZ ?_
      first | ((first | refine zW ?_ | refine zQ ?_); refine zO rfl (Rd.eql rfl rfl) ?_) | refine zU ?_ | refine zV ?_ | refine zZ ?_
      refine zO rfl (by first | exact Rd.pT rfl | exact Rd.pF rfl | exact Rd.pP rfl) ?_
      refine zO rfl Rd.asg ?_; refine zN ?_; refine zT ?_
      refine XA.ret ?_
      exact bodyA.ret (ResA.one rfl rfl) (Ent.nil _) ⟨by simp [noneX, h2], rfl, rfl⟩
  · 
    refine enterA1 Try.func66 rfl rfl rfl ?_
    refine zS ?_; refine zR ?_
    refine XOA.wr0 rfl WrA.bx ?_
    rintro _ _ _ ⟨g1, rfl, rfl, rfl⟩
    refine zO rfl Rd.asg ?_; refine zN ?_; refine zT ?_; refine zS ?_; refine zR ?_; refine zO rfl (Rd.fA rfl) ?_; refine zO rfl (Rd.ldC rfl (tyrow rfl) rfl) ?_; refine zO rfl (Rd.eql rfl rfl) ?_; refine zO rfl Rd.mv ?_
    first | ((first | refine zW ?_ | refine zQ ?_); refine zO rfl (Rd.fA rfl) ?_) | refine zU ?_ | refine zV ?_ | refine zZ ?_
    first | ((first | refine zW ?_ | refine zQ ?_); refine zO rfl (Rd.ldC rfl (tyrow rfl) rfl) ?_) | refine zU ?_ | refine zV ?_ | refine zZ ?_
    first | ((first | refine zW ?_ | refine zQ ?_); refine zO rfl (Rd.eql rfl rfl) ?_) | refine zU ?_ | refine zV ?_ | refine zZ ?_
    refine zO rfl (by first | exact Rd.pT rfl | exact Rd.pF rfl | exact Rd.pP rfl) ?_
    refine zO rfl Rd.mv ?_
    first | ((first | refine zW ?_ | refine zQ ?_); refine zO rfl (Rd.fA rfl) ?_) | refine zU ?_ | refine zV ?_ | refine zZ ?_
    first | ((first | refine zW ?_ | refine zQ ?_); refine zO rfl (Rd.ldC rfl (tyrow rfl) rfl) ?_) | refine zU ?_ | refine zV ?_ | refine zZ ?_
    first | ((first | refine zW ?_ | refine zQ ?_); refine zO rfl (Rd.eql rfl rfl) ?_) | refine zU ?_ | refine zV ?_ | refine zZ ?_
    refine zO rfl (by first | exact Rd.pT rfl | exact Rd.pF rfl | exact Rd.pP rfl) ?_
    refine zO rfl Rd.mv ?_
    first | ((first | refine zW ?_ | refine zQ ?_); refine zO rfl (Rd.fA rfl) ?_) | refine zU ?_ | refine zV ?_ | refine zZ ?_
    first | ((first | refine zW ?_ | refine zQ ?_); refine zO rfl (Rd.ldC rfl (tyrow rfl) rfl) ?_) | refine zU ?_ | refine zV ?_ | refine zZ ?_
    first | ((first | refine zW ?_ | refine zQ ?_); refine zO rfl (Rd.lenSlice (tyrow rfl) rfl rfl) ?_) | refine zU ?_ | refine zV ?_ | refine zZ ?_
    first | ((first | refine zW ?_ | refine zQ ?_); refine zO rfl (Rd.eql rfl rfl) ?_) | refine zU ?_ | refine zV ?_ | refine zZ ?_
    refine zO rfl (by first | exact Rd.pT rfl | exact Rd.pF rfl | exact Rd.pP rfl) ?_
    refine zO rfl Rd.asg ?_; refine zN ?_; refine zT ?_
    refine XA.ret ?_
    exact bodyA.ret (ResA.one rfl rfl) (Ent.nil _) ⟨by simp [noneX, h1], rfl, rfl⟩
end Go.Proofs.Ytbbghdkndbpmmaa

namespace Go.Proofs.Ytbbghdkndbpmmaa
open Go X
set_option maxHeartbeats 1000000
/-- looking: how many were met, or a code. -/
def Look (b : Nat) (vs bs : Value) (e : JE) : HP := fun m => ∃ n c, blk b [vs, bs, i64 n, i64 c] 83 m ∧ match e with | .ok l => n = 150 - l ∧ c = 0 | .error d => c = d ∧ c ≠ 0
theorem Look.okO {b : Nat} {vs bs : Value} {l : Int} : ∀ m, Look b vs bs (.ok l) m → ∃ _ : Unit, True ∧ Sat [blk b [vs, bs, i64 (150 - l), i64 0] 83] m := by
  rintro m ⟨l', c, h, rfl, rfl⟩; exact ⟨(), trivial, sat1 h⟩
theorem Look.errO {b : Nat} {vs bs : Value} {c : Int} : ∀ m, Look b vs bs (.error c) m → ∃ n : Int, c ≠ 0 ∧ Sat [blk b [vs, bs, i64 n, i64 c] 83] m := by
  rintro m ⟨l', c', h, rfl, h0⟩; exact ⟨l', h0, sat1 h⟩
theorem Look.mkO {b : Nat} {vs bs : Value} {l n : Int} (hn : n = 150 - l) : ∀ m, Sat [blk b [vs, bs, i64 n, i64 0] 83] m → Look b vs bs (.ok l) m := fun m h => ⟨n, 0, of_sat1 blk_mono h, hn, rfl⟩
theorem Look.mkE {b : Nat} {vs bs : Value} {n c : Int} (h0 : c ≠ 0) : ∀ m, Sat [blk b [vs, bs, i64 n, i64 c] 83] m → Look b vs bs (.error c) m := fun m h => ⟨n, c, of_sat1 blk_mono h, rfl, h0⟩
theorem Look.anyD {b : Nat} {vs bs : Value} {e : JE} : ∀ m, Look b vs bs e m → ∃ x : Int × Int, (decide (x.2 = 0) = e.isOk ∧ ∀ m', Sat [blk b [vs, bs, i64 x.1, i64 x.2] 83] m' → Look b vs bs e m') ∧ Sat [blk b [vs, bs, i64 x.1, i64 x.2] 83] m := by
  rintro m ⟨l', c, h, h0⟩
  refine ⟨(l', c), ⟨?_, fun m' h' => ⟨l', c, of_sat1 blk_mono h', h0⟩⟩, sat1 h⟩
  cases e with
  | ok l => obtain ⟨-, rfl⟩ := h0; rfl
  | error d => obtain ⟨-, h0⟩ := h0; exact decide_eq_false h0
/-- A judge of whom the count is not looked at. -/
theorem bad_c (σ : PH) (b : Nat) (vs bs : Value) (n c0 : Int) (is : Bool) (c : Int) :
    CallsA Try.prog 65 #[ptr b, .bool is, i64 c] σ [blk b [vs, bs, i64 n, i64 c0] 83] (RetA fun v σ' Γ' => v = .tuple #[] ∧ σ = σ' ∧ Γ' = [blk b [vs, bs, i64 n, i64 (if is ∧ c0 = 0 then c else c0)] 83]) := by
  cases is with
  | false =>
    refine enterA3 Try.func65 rfl rfl rfl ?_
    refine zS ?_; refine zR ?_; refine zO rfl Rd.mv ?_; refine zO rfl Rd.mv ?_
    first | ((first | refine zW ?_ | refine zQ ?_); refine zO rfl Rd.mv ?_) | refine zU ?_ | refine zV ?_ | refine zZ ?_
    first | ((first | refine zW ?_ | refine zQ ?_); refine zO rfl (Rd.nilCheck rfl) ?_) | refine zU ?_ | refine zV ?_ | refine zZ ?_
    first | ((first | refine zW ?_ | refine zQ ?_); refine zO rfl (Rd.fA rfl) ?_) | refine zU ?_ | refine zV ?_ | refine zZ ?_
    first | ((first | refine zW ?_ | refine zQ ?_); refine zO rfl (Rd.ldC rfl (tyrow rfl) rfl) ?_) | refine zU ?_ | refine zV ?_ | refine zZ ?_
    first | ((first | refine zW ?_ | refine zQ ?_); refine zO rfl (Rd.eql rfl rfl) ?_) | refine zU ?_ | refine zV ?_ | refine zZ ?_
    refine zO rfl (by first | exact Rd.pT rfl | exact Rd.pF rfl | exact Rd.pP rfl) ?_
    refine zN ?_; refine zT ?_
    refine XA.condF rfl rfl ?_
    refine XA.skip ?_
    exact bodyA.normal (ResA.none rfl) (Ent.refl _) ⟨rfl, rfl, by simp⟩
  | true =>
    by_cases h0 : c0 = 0
    · subst h0
      refine enterA3 Try.func65 rfl rfl rfl ?_
      refine zS ?_; refine zR ?_; refine zO rfl Rd.mv ?_; refine zO rfl Rd.mv ?_
      first | ((first | refine zW ?_ | refine zQ ?_); refine zO rfl Rd.mv ?_) | refine zU ?_ | refine zV ?_ | refine zZ ?_
      first | ((first | refine zW ?_ | refine zQ ?_); refine zO rfl (Rd.nilCheck rfl) ?_) | refine zU ?_ | refine zV ?_ | refine zZ ?_
      first | ((first | refine zW ?_ | refine zQ ?_); refine zO rfl (Rd.fA rfl) ?_) | refine zU ?_ | refine zV ?_ | refine zZ ?_
      first | ((first | refine zW ?_ | refine zQ ?_); refine zO rfl (Rd.ldC rfl (tyrow rfl) rfl) ?_) | refine zU ?_ | refine zV ?_ | refine zZ ?_
      first | ((first | refine zW ?_ | refine zQ ?_); refine zO rfl (Rd.eql rfl rfl) ?_) | refine zU ?_ | refine zV ?_ | refine zZ ?_
      refine zO rfl (by first | exact Rd.pT rfl | exact Rd.pF rfl | exact Rd.pP rfl) ?_
      refine zN ?_; refine zT ?_
      refine XA.condT rfl rfl ?_
      refine zR ?_; refine zO rfl Rd.mv ?_; refine zO rfl Rd.mv ?_; refine zO rfl (Rd.nilCheck rfl) ?_; refine zO rfl (Rd.fA rfl) ?_
      refine XOA.wr0 rfl (WrA.st (tyrow rfl) rfl) ?_
      rintro _ _ _ ⟨rfl, rfl, rfl⟩
      refine zN ?_
      exact bodyA.normal (ResA.none rfl) (Ent.refl _) ⟨rfl, rfl, by simp⟩
    · 
      refine enterA3 Try.func65 rfl rfl rfl ?_
      refine zS ?_; refine zR ?_; refine zO rfl Rd.mv ?_; refine zO rfl Rd.mv ?_
      first | ((first | refine zW ?_ | refine zQ ?_); refine zO rfl Rd.mv ?_) | refine zU ?_ | refine zV ?_ | refine zZ ?_
      first | ((first | refine zW ?_ | refine zQ ?_); refine zO rfl (Rd.nilCheck rfl) ?_) | refine zU ?_ | refine zV ?_ | refine zZ ?_
      first | ((first | refine zW ?_ | refine zQ ?_); refine zO rfl (Rd.fA rfl) ?_) | refine zU ?_ | refine zV ?_ | refine zZ ?_
      first | ((first | refine zW ?_ | refine zQ ?_); refine zO rfl (Rd.ldC rfl (tyrow rfl) rfl) ?_) | refine zU ?_ | refine zV ?_ | refine zZ ?_
      first | ((first | refine zW ?_ | refine zQ ?_); refine zO rfl (Rd.eql rfl rfl) ?_) | refine zU ?_ | refine zV ?_ | refine zZ ?_
      refine zO rfl (by first | exact Rd.pT rfl | exact Rd.pF rfl | exact Rd.pP rfl) ?_
      refine zN ?_; refine zT ?_
      refine XA.condF rfl (decide_eq_false h0) ?_
      refine XA.skip ?_
      exact bodyA.normal (ResA.none rfl) (Ent.refl _) ⟨rfl, rfl, by simp [h0]⟩
theorem CallsA.foldC {P : Program} {f : FuncId} {vs : Array Value} {σ : PH} {Γ Γ' : List HP} {R : HP} {α : Sort _} {φ : α → Prop} {Θ : α → List HP} {RR : Ending → PH → List HP → Prop} (he : Enters P f) (s : Sel Γ R Γ') (ho : ∀ m, R m → ∃ x, φ x ∧ Sat (Θ x) m) (k : ∀ x, φ x → CallsA P f vs σ (Θ x ++ Γ') RR) : CallsA P f vs σ Γ RR := CallsA.opn s ho he k
theorem Ent.one {R S : HP} (h : ∀ m, R m → S m) : Ent [R] [S] := fun m ⟨m1, m2, a, b, c, d, e⟩ => ⟨m1, m2, h _ a, b, c, d, e⟩
theorem bad_a (σ : PH) (b : Nat) (vs bs : Value) (e : JE) (is : Bool) (c : Int) (hc : c ≠ 0) :
    CallsA Try.prog 65 #[ptr b, .bool is, i64 c] σ [Look b vs bs e] (RetA fun v σ' Γ' => v = .tuple #[] ∧ σ = σ' ∧ Γ' = [Look b vs bs (e.fail is c)]) := by
  cases e with
  | ok l =>
    refine CallsA.opn .head Look.okO (enters Try.func65 rfl rfl) ?_
    rintro ⟨⟩ -
    refine (bad_c σ b vs bs (150 - l) 0 is c).conv ?_
    cases is with
    | true => exact Ent.one (fun m h => ⟨150 - l, c, h, rfl, hc⟩)
    | false => exact Ent.one (fun m h => ⟨150 - l, 0, h, rfl, rfl⟩)
  | error d =>
    refine CallsA.opn .head Look.errO (enters Try.func65 rfl rfl) ?_
    rintro n h0
    refine (bad_c σ b vs bs n d is c).conv ?_
    rw [if_neg (fun h => h0 h.2)]
    exact Ent.one (fun m h => ⟨n, d, h, rfl, h0⟩)
theorem head_a (σ : PH) (b : Nat) (vs bs : Value) (e : JE) (deep : Int) (hl : e.in_) :
    CallsA Try.prog 64 #[ptr b, i64 deep] σ [Look b vs bs e] (RetA fun v σ' Γ' => v = .tuple #[] ∧ σ = σ' ∧ Γ' = [Look b vs bs (e.one deep)]) := by
  cases e with
  | error d =>
    refine enterA2 Try.func64 rfl rfl rfl ?_
    refine zS ?_; refine zR ?_; refine zO rfl Rd.mv ?_
    first | refine XA.opn (R := Look b vs bs (.error d)) (by ((repeat (first | with_reducible exact Sel.head | apply Sel.tail)); (first | done | fail))) (Look.errO) ?_ | refine XOA.opn (R := Look b vs bs (.error d)) (by ((repeat (first | with_reducible exact Sel.head | apply Sel.tail)); (first | done | fail))) (Look.errO) ?_ | refine DA.opn (R := Look b vs bs (.error d)) (by ((repeat (first | with_reducible exact Sel.head | apply Sel.tail)); (first | done | fail))) (Look.errO) ?_
    rintro n h0
    first | refine XA.cl ?_ | refine XOA.cl ?_ | refine DA.cl ?_
    refine zO rfl (Rd.nilCheck rfl) ?_; refine zO rfl (Rd.fA rfl) ?_; refine zO rfl (Rd.ldC rfl (tyrow rfl) rfl) ?_
    refine zO rfl (by first | exact Rd.adi rfl rfl | exact Rd.add rfl rfl) ?_
    refine zO rfl (Rd.nilCheck rfl) ?_; refine zO rfl (Rd.fA rfl) ?_
    refine XOA.wr0 rfl (WrA.st (tyrow rfl) rfl) ?_
    rintro _ _ _ ⟨rfl, rfl, rfl⟩
    refine zN ?_; refine zT ?_; refine zS ?_; refine zR ?_; refine zO rfl Rd.mv ?_; refine zO rfl Rd.mv ?_
    refine zO rfl (Rd.gtr rfl rfl) ?_
    refine XOA.wr0 rfl (WrA.cE (bad_c σ b vs bs _ d (decide (12 < deep)) 4) rfl) ?_
    rintro _ _ _ ⟨_, ⟨rfl, rfl, rfl⟩, rfl⟩
    refine XOA.cl ?_
    refine zN ?_; refine zT ?_; refine zR ?_; refine zO rfl Rd.mv ?_; refine zO rfl Rd.mv ?_; refine zO rfl (Rd.nilCheck rfl) ?_; refine zO rfl (Rd.fA rfl) ?_; refine zO rfl (Rd.ldC rfl (tyrow rfl) rfl) ?_
    refine zO rfl (Rd.gtr rfl rfl) ?_
    refine XOA.wr0 rfl (WrA.cE (bad_c σ b vs bs _ _ _ 3) rfl) ?_
    rintro _ _ _ ⟨_, ⟨rfl, rfl, rfl⟩, rfl⟩
    refine XOA.cl ?_
    rw [show (if decide (12 < deep) = true ∧ d = 0 then (4 : Int) else d) = d from if_neg (fun h => h0 h.2), if_neg (fun h => h0 h.2)]
    refine zN ?_
    exact bodyA.normal (ResA.none rfl) (Ent.fold1 zE (Look.mkE h0)) ⟨rfl, rfl, rfl⟩
  | ok l =>
    obtain ⟨l0, l1⟩ := hl l rfl
    refine enterA2 Try.func64 rfl rfl rfl ?_
    refine zS ?_; refine zR ?_; refine zO rfl Rd.mv ?_
    first | refine XA.opn (R := Look b vs bs (.ok l)) (by ((repeat (first | with_reducible exact Sel.head | apply Sel.tail)); (first | done | fail))) (Look.okO) ?_ | refine XOA.opn (R := Look b vs bs (.ok l)) (by ((repeat (first | with_reducible exact Sel.head | apply Sel.tail)); (first | done | fail))) (Look.okO) ?_ | refine DA.opn (R := Look b vs bs (.ok l)) (by ((repeat (first | with_reducible exact Sel.head | apply Sel.tail)); (first | done | fail))) (Look.okO) ?_
    rintro ⟨⟩ -
    first | refine XA.cl ?_ | refine XOA.cl ?_ | refine DA.cl ?_
    refine zO rfl (Rd.nilCheck rfl) ?_; refine zO rfl (Rd.fA rfl) ?_; refine zO rfl (Rd.ldC rfl (tyrow rfl) rfl) ?_
    refine zO rfl (by first | exact Rd.adi rfl rfl | exact Rd.add rfl rfl) ?_
    refine zO rfl (Rd.nilCheck rfl) ?_; refine zO rfl (Rd.fA rfl) ?_
    refine XOA.wr0 rfl (WrA.st (tyrow rfl) rfl) ?_
    rintro _ _ _ ⟨rfl, rfl, rfl⟩
    refine zN ?_; refine zT ?_; refine zS ?_; refine zR ?_; refine zO rfl Rd.mv ?_; refine zO rfl Rd.mv ?_
    refine zO rfl (Rd.gtr rfl rfl) ?_
    refine XOA.wr0 rfl (WrA.cE (bad_c σ b vs bs _ 0 (decide (12 < deep)) 4) rfl) ?_
    rintro _ _ _ ⟨_, ⟨rfl, rfl, rfl⟩, rfl⟩
    refine XOA.cl ?_
    refine zN ?_; refine zT ?_; refine zR ?_; refine zO rfl Rd.mv ?_; refine zO rfl Rd.mv ?_; refine zO rfl (Rd.nilCheck rfl) ?_; refine zO rfl (Rd.fA rfl) ?_; refine zO rfl (Rd.ldC rfl (tyrow rfl) rfl) ?_
    refine zO rfl (Rd.gtr rfl rfl) ?_
    refine XOA.wr0 rfl (WrA.cE (bad_c σ b vs bs _ _ (decide (150 < 150 - l + 1)) 3) rfl) ?_
    rintro _ _ _ ⟨_, ⟨rfl, rfl, rfl⟩, rfl⟩
    refine XOA.cl ?_
    by_cases hd : 12 < deep
    · skip
      rw [show (if decide (12 < deep) = true ∧ (0 : Int) = 0 then (4 : Int) else 0) = 4 by simp [hd], if_neg (fun h => absurd h.2 (by decide))]
      refine zN ?_
      refine bodyA.normal (ResA.none rfl) (Ent.fold1 (Θ := [blk b [vs, bs, i64 (150 - l + 1), i64 4] 83]) zE (Look.mkE (by decide))) ⟨rfl, rfl, ?_⟩
      simp [JE.one, hd]
    · rw [show (if decide (12 < deep) = true ∧ (0 : Int) = 0 then (4 : Int) else 0) = 0 by simp [hd]]
      by_cases h0 : l = 0
      · rw [show (if decide (150 < 150 - l + 1) = true ∧ (0 : Int) = 0 then (3 : Int) else 0) = 3 by simp [h0]]
        refine zN ?_
        refine bodyA.normal (ResA.none rfl) (Ent.fold1 (Θ := [blk b [vs, bs, i64 (150 - l + 1), i64 3] 83]) zE (Look.mkE (by decide))) ⟨rfl, rfl, ?_⟩
        simp [JE.one, hd, h0]
      · rw [show (if decide (150 < 150 - l + 1) = true ∧ (0 : Int) = 0 then (3 : Int) else 0) = 0 by rw [if_neg]; simp; omega]
        refine zN ?_
        refine bodyA.normal (ResA.none rfl) (Ent.fold1 (Θ := [blk b [vs, bs, i64 (150 - l + 1), i64 0] 83]) zE (Look.mkO (l := l - 1) (by omega))) ⟨rfl, rfl, ?_⟩
        simp [JE.one, hd, h0]
theorem variable_a (σ : PH) (b : Nat) (p : Option Addr) (n c : Nat) (bs : Value) (e : JE) (v : Int) (is : Bool) :
    CallsA Try.prog 67 #[ptr b, i64 v, .bool is] σ [Look b (.slice p n c) bs e] (RetA fun r σ' Γ' => r = .tuple #[] ∧ σ = σ' ∧ Γ' = [Look b (.slice p n c) bs (e.named n v is)]) := by
  cases is with
  | false =>
    refine enterA3 Try.func67 rfl rfl rfl ?_
    refine zS ?_; refine zR ?_; refine zO rfl Rd.mv ?_; refine zN ?_; refine zT ?_
    refine XA.condF rfl rfl ?_
    refine zR ?_; refine zO rfl Rd.mv ?_; refine zO rfl Rd.mv ?_
    refine zO rfl (Rd.neq rfl rfl) ?_
    refine XOA.wr0 rfl (WrA.cE (bad_a σ b _ bs e (decide (v ≠ 0)) 5 (by decide)) rfl) ?_
    rintro _ _ _ ⟨_, ⟨rfl, rfl, rfl⟩, rfl⟩
    refine XOA.cl ?_
    refine zN ?_
    exact bodyA.normal (ResA.none rfl) (Ent.refl _) ⟨rfl, rfl, by simp only [JE.named, Bool.false_and, fail_false, Bool.not_false, Bool.true_and]⟩
  | true =>
    by_cases h0 : v < 0
    · 
      refine enterA3 Try.func67 rfl rfl rfl ?_
      refine zS ?_; refine zR ?_; refine zO rfl Rd.mv ?_; refine zN ?_; refine zT ?_
      refine XA.condT rfl rfl ?_
      refine zR ?_; refine zO rfl Rd.mv ?_; refine zO rfl Rd.mv ?_; refine zO rfl (Rd.lss rfl rfl) ?_; refine zO rfl Rd.mv ?_
      first | ((first | refine zW ?_ | refine zQ ?_); refine zO rfl Rd.mv ?_) | refine zU ?_ | refine zV ?_ | refine zZ ?_
      first | ((first | refine zW ?_ | refine zQ ?_); refine zO rfl Rd.mv ?_) | refine zU ?_ | refine zV ?_ | refine zZ ?_
      first | ((first | refine zW ?_ | refine zQ ?_); refine zO rfl (Rd.nilCheck rfl) ?_) | refine zU ?_ | refine zV ?_ | refine zZ ?_
      first | ((first | refine zW ?_ | refine zQ ?_); refine zO rfl (Rd.fA rfl) ?_) | refine zU ?_ | refine zV ?_ | refine zZ ?_
      first | ((first | refine zW ?_ | refine zQ ?_); refine zO rfl (Rd.fA rfl) ?_) | refine zU ?_ | refine zV ?_ | refine zZ ?_
      first | ((first | refine zW ?_ | refine zQ ?_); refine zO rfl (Rd.ldC rfl (tyrow rfl) rfl) ?_) | refine zU ?_ | refine zV ?_ | refine zZ ?_
      first | ((first | refine zW ?_ | refine zQ ?_); refine zO rfl (Rd.lenSlice (tyrow rfl) rfl rfl) ?_) | refine zU ?_ | refine zV ?_ | refine zZ ?_
      first | ((first | refine zW ?_ | refine zQ ?_); refine zO rfl (Rd.geq rfl rfl) ?_) | refine zU ?_ | refine zV ?_ | refine zZ ?_
      refine zO rfl (by first | exact Rd.pT rfl | exact Rd.pF rfl | exact Rd.pP rfl) ?_
      refine XOA.wr0 rfl (WrA.cE (bad_a σ b _ bs e true 1 (by decide)) rfl) ?_
      rintro _ _ _ ⟨_, ⟨rfl, rfl, rfl⟩, rfl⟩
      refine XOA.cl ?_
      refine zN ?_
      refine bodyA.normal (ResA.none rfl) (Ent.refl _) ⟨rfl, rfl, ?_⟩
      have : decide (v < 0 ∨ (n : Int) ≤ v) = true := decide_eq_true (Or.inl h0)
      simp only [JE.named, this, Bool.true_and, Bool.not_true, Bool.false_and, fail_false]
    · 
      refine enterA3 Try.func67 rfl rfl rfl ?_
      refine zS ?_; refine zR ?_; refine zO rfl Rd.mv ?_; refine zN ?_; refine zT ?_
      refine XA.condT rfl rfl ?_
      refine zR ?_; refine zO rfl Rd.mv ?_; refine zO rfl Rd.mv ?_; refine zO rfl (Rd.lss rfl rfl) ?_; refine zO rfl Rd.mv ?_
      first | ((first | refine zW ?_ | refine zQ ?_); refine zO rfl Rd.mv ?_) | refine zU ?_ | refine zV ?_ | refine zZ ?_
      first | ((first | refine zW ?_ | refine zQ ?_); refine zO rfl Rd.mv ?_) | refine zU ?_ | refine zV ?_ | refine zZ ?_
      first | refine XA.opn (R := Look b (.slice p n c) bs e) (by ((repeat (first | with_reducible exact Sel.head | apply Sel.tail)); (first | done | fail))) (Look.anyD) ?_ | refine XOA.opn (R := Look b (.slice p n c) bs e) (by ((repeat (first | with_reducible exact Sel.head | apply Sel.tail)); (first | done | fail))) (Look.anyD) ?_ | refine DA.opn (R := Look b (.slice p n c) bs e) (by ((repeat (first | with_reducible exact Sel.head | apply Sel.tail)); (first | done | fail))) (Look.anyD) ?_
      rintro ⟨l, cc⟩ ⟨-, hf⟩
      first | refine XA.cl ?_ | refine XOA.cl ?_ | refine DA.cl ?_
      first | ((first | refine zW ?_ | refine zQ ?_); refine zO rfl (Rd.nilCheck rfl) ?_) | refine zU ?_ | refine zV ?_ | refine zZ ?_
      first | ((first | refine zW ?_ | refine zQ ?_); refine zO rfl (Rd.fA rfl) ?_) | refine zU ?_ | refine zV ?_ | refine zZ ?_
      first | ((first | refine zW ?_ | refine zQ ?_); refine zO rfl (Rd.fA rfl) ?_) | refine zU ?_ | refine zV ?_ | refine zZ ?_
      first | ((first | refine zW ?_ | refine zQ ?_); refine zO rfl (Rd.ldC rfl (tyrow rfl) rfl) ?_) | refine zU ?_ | refine zV ?_ | refine zZ ?_
      first | ((first | refine zW ?_ | refine zQ ?_); refine zO rfl (Rd.lenSlice (tyrow rfl) rfl rfl) ?_) | refine zU ?_ | refine zV ?_ | refine zZ ?_
      first | ((first | refine zW ?_ | refine zQ ?_); refine zO rfl (Rd.geq rfl rfl) ?_) | refine zU ?_ | refine zV ?_ | refine zZ ?_
      refine zO rfl (by first | exact Rd.pT rfl | exact Rd.pF rfl | exact Rd.pP rfl) ?_
      refine XOA.ent (Δ := [Look b (.slice p n c) bs e]) (Ent.fold1 zE hf) ?_
      refine XOA.wr0 rfl (WrA.cE (bad_a σ b _ bs e (decide ((n : Int) ≤ v)) 1 (by decide)) rfl) ?_
      rintro _ _ _ ⟨_, ⟨rfl, rfl, rfl⟩, rfl⟩
      refine XOA.cl ?_
      refine zN ?_
      refine bodyA.normal (ResA.none rfl) (Ent.refl _) ⟨rfl, rfl, ?_⟩
      have : decide (v < 0 ∨ (n : Int) ≤ v) = decide ((n : Int) ≤ v) := by rw [decide_eq_decide]; omega
      simp only [JE.named, this, Bool.true_and, Bool.not_true, Bool.false_and, fail_false]
end Go.Proofs.Ytbbghdkndbpmmaa

namespace Go.Proofs.Ytbbghdkndbpmmaa
open Go X
set_option maxHeartbeats 1000000
theorem fail_or (e : JE) (a b : Bool) (c : Int) : (e.fail a c).fail b c = e.fail (a || b) c := by
  cases e with
  | error d => rfl
  | ok l => cases a <;> cases b <;> rfl
def RExprOK (σ : PH) (x : Ex) : Prop := ∀ (cs : List Value) (b : Nat) (p : Option Addr) (n c : Nat) (bs : Value) (e : JE) (deep : Int), ExAt σ cs x → e.in_ → 0 ≤ deep → deep ≤ 1000 →
  CallsA Try.prog 68 #[ptr b, .agg cs.toArray, i64 deep] σ [Look b (.slice p n c) bs e] (RetA fun r σ' Γ' => r = .tuple #[] ∧ σ = σ' ∧ Γ' = [Look b (.slice p n c) bs (exE n deep x e)])
theorem rexpr_a (σ : PH) (x : Ex) : RExprOK σ x := by
  refine Ex.ind (P := RExprOK σ) ?_ x
  intro op v k l ih cs b p n c bs e deep hx hin hd0 hd1
  obtain ⟨pl, cl, rfl, -, -, -, hl⟩ := hx.inv
  simp only [Ex.op, Ex.v, Ex.n, Ex.l] at hl ⊢
  clear hx
  have hlen : l.length ≤ maxLen := by
    obtain ⟨q, d, e1, h1, h2⟩ := hl.shape
    omega
  simp only [maxLen] at hlen
  cases e with
  | error d =>
    rw [exE_err]
    refine enterA3 Try.func68 rfl rfl rfl ?_
    refine zS ?_; refine zR ?_
    refine XOA.wr0 rfl WrA.bx ?_
    rintro _ _ _ ⟨g4, rfl, rfl, rfl⟩
    refine zN ?_; refine zT ?_; refine zS ?_; refine zS ?_; refine zR ?_; refine zO rfl Rd.mv ?_
    first | refine XA.opn (R := Look b (.slice p n c) bs (.error d)) (by ((repeat (first | with_reducible exact Sel.head | apply Sel.tail)); (first | done | fail))) (Look.errO) ?_ | refine XOA.opn (R := Look b (.slice p n c) bs (.error d)) (by ((repeat (first | with_reducible exact Sel.head | apply Sel.tail)); (first | done | fail))) (Look.errO) ?_ | refine DA.opn (R := Look b (.slice p n c) bs (.error d)) (by ((repeat (first | with_reducible exact Sel.head | apply Sel.tail)); (first | done | fail))) (Look.errO) ?_
    rintro q h0
    first | refine XA.cl ?_ | refine XOA.cl ?_ | refine DA.cl ?_
    refine zO rfl (Rd.nilCheck rfl) ?_; refine zO rfl (Rd.fA rfl) ?_; refine zO rfl (Rd.ldC rfl (tyrow rfl) rfl) ?_
    refine zO rfl (Rd.neq rfl rfl) ?_
    refine zN ?_; refine zT ?_
    refine XA.condT rfl (decide_eq_true h0) ?_
    refine XA.ret ?_
    refine DA.thn_ret ?_
    exact bodyA.ret (ResA.none rfl) (Ent.fold1 zE (Look.mkE h0)) ⟨rfl, rfl, rfl⟩
  | ok a =>
    refine enterA3 Try.func68 rfl rfl rfl ?_
    refine zS ?_; refine zR ?_
    refine XOA.wr0 rfl WrA.bx ?_
    rintro _ _ _ ⟨g4, rfl, rfl, rfl⟩
    refine zN ?_; refine zT ?_; refine zS ?_; refine zS ?_; refine zR ?_; refine zO rfl Rd.mv ?_
    first | refine XA.opn (R := Look b (.slice p n c) bs (.ok a)) (by ((repeat (first | with_reducible exact Sel.head | apply Sel.tail)); (first | done | fail))) (Look.okO) ?_ | refine XOA.opn (R := Look b (.slice p n c) bs (.ok a)) (by ((repeat (first | with_reducible exact Sel.head | apply Sel.tail)); (first | done | fail))) (Look.okO) ?_ | refine DA.opn (R := Look b (.slice p n c) bs (.ok a)) (by ((repeat (first | with_reducible exact Sel.head | apply Sel.tail)); (first | done | fail))) (Look.okO) ?_
    rintro ⟨⟩ -
    first | refine XA.cl ?_ | refine XOA.cl ?_ | refine DA.cl ?_
    refine zO rfl (Rd.nilCheck rfl) ?_; refine zO rfl (Rd.fA rfl) ?_; refine zO rfl (Rd.ldC rfl (tyrow rfl) rfl) ?_
    refine zO rfl (Rd.neq rfl rfl) ?_
    refine zN ?_; refine zT ?_
    refine XA.condF rfl rfl ?_
    refine XA.skip ?_
    refine zT ?_; refine zS ?_; refine zR ?_; refine zO rfl Rd.mv ?_; refine zO rfl Rd.mv ?_
    refine XOA.ent (Ent.foldC (Θ := [_]) (by (repeat (first | exact Ent.all _ | (apply Ent.take; focus (first | ((repeat (first | with_reducible exact Sel.head | apply Sel.tail)); done) | ((repeat (first | exact Sel.head | apply Sel.tail)); done))) | apply Ent.takeNil | apply Ent.takeEmp)); (first | done | fail)) (Look.mkO (l := a) rfl) (Ent.refl _)) ?_
    refine XOA.wr0 rfl (WrA.cE (head_a σ b (.slice p n c) bs (.ok a) deep hin) rfl) ?_
    rintro _ _ _ ⟨_, ⟨rfl, rfl, rfl⟩, rfl⟩
    refine XOA.cl ?_
    refine zN ?_; refine zT ?_; refine zS ?_; refine zR ?_; refine zO rfl (Rd.fA rfl) ?_; refine zO rfl (Rd.ldC rfl (tyrow rfl) rfl) ?_
    refine XOA.wr0 rfl (WrA.cE (rparts_a σ op) rfl) ?_
    rintro _ _ _ ⟨_, ⟨rfl, rfl, rfl⟩, rfl⟩
    refine XOA.cl ?_
    refine zO rfl Rd.asg ?_; refine zN ?_; refine zT ?_; refine zS ?_; refine zR ?_; refine zO rfl Rd.mv ?_; refine zO rfl Rd.mv ?_; refine zO rfl (Rd.lss rfl rfl) ?_
    refine XOA.wr0 rfl (WrA.cE (bad_a σ b _ bs _ (decide (partsOf op < 0)) 2 (by decide)) rfl) ?_
    rintro _ _ _ ⟨_, ⟨rfl, rfl, rfl⟩, rfl⟩
    refine XOA.cl ?_
    refine zN ?_; refine zT ?_; refine zS ?_; refine zR ?_; refine zO rfl Rd.mv ?_; refine zO rfl Rd.mv ?_; refine zO rfl (Rd.fA rfl) ?_; refine zO rfl (Rd.ldC rfl (tyrow rfl) rfl) ?_; refine zO rfl (Rd.lenSlice (tyrow rfl) rfl rfl) ?_
    refine zO rfl (Rd.neq rfl rfl) ?_
    refine XOA.wr0 rfl (WrA.cE (bad_a σ b _ bs _ (decide (partsOf op ≠ (l.length : Int))) 5 (by decide)) rfl) ?_
    rintro _ _ _ ⟨_, ⟨rfl, rfl, rfl⟩, rfl⟩
    refine XOA.cl ?_
    refine zN ?_; refine zT ?_; refine zS ?_; refine zR ?_; refine zO rfl Rd.mv ?_; refine zO rfl (Rd.fA rfl) ?_; refine zO rfl (Rd.ldC rfl (tyrow rfl) rfl) ?_
    obtain ⟨E2, hE2⟩ : ∃ E2, E2 = JE.fail (JE.fail (JE.one (.ok a) deep) (decide (partsOf op < 0)) 2) (decide (partsOf op ≠ (l.length : Int))) 5 := ⟨_, rfl⟩
    rw [← hE2]
    refine XOA.join (List.take_append_drop 6 _).symm [(30, 30), (33, 38)] (fun _ : Unit => [(30, ptr b), (38, .bool (decide (k ≠ 0 ∧ op ≠ 1)))]) (fun _ σ' Γ' => σ = σ' ∧ Γ' = [Look b (.slice p n c) bs E2, blk g4 [i64 op, i64 v, i64 k, .slice pl l.length cl] 44]) ?_ ?_
    · 
      by_cases h1 : op = 1
      · rw [show decide (k ≠ 0 ∧ op ≠ 1) = false from decide_eq_false (fun h => h.2 h1)]
        refine zO rfl (Rd.neq rfl rfl) ?_
        refine zO rfl Rd.mv ?_
        first | ((first | refine zW ?_ | refine zQ ?_); refine zO rfl (Rd.fA rfl) ?_) | refine zU ?_ | refine zV ?_ | refine zZ ?_
        first | ((first | refine zW ?_ | refine zQ ?_); refine zO rfl (Rd.ldC rfl (tyrow rfl) rfl) ?_) | refine zU ?_ | refine zV ?_ | refine zZ ?_
        first | ((first | refine zW ?_ | refine zQ ?_); refine zO rfl (Rd.neq rfl rfl) ?_) | refine zU ?_ | refine zV ?_ | refine zZ ?_
        refine zO rfl (by first | exact Rd.pT rfl | exact Rd.pF rfl | exact Rd.pP rfl) ?_
        refine zN ?_; refine zT ?_
        refine ⟨(Keep.upd (Keep.upd (Keep.upd (Keep.upd (Keep.upd (Keep.upd (Keep.refl _ _) rfl) rfl) rfl) rfl) rfl) rfl), (), _, (by (repeat (first | exact trivial | refine ⟨rfl, ?_⟩ | refine ⟨Eq.trans rfl (congrArg Value.bool hmat.symm), ?_⟩)); (first | done | fail)), ?_, ⟨rfl, rfl⟩⟩
        · exact zE
      · rw [show decide (k ≠ 0 ∧ op ≠ 1) = decide (k ≠ 0) from by rw [decide_eq_decide]; exact ⟨fun h => h.1, fun h => ⟨h, h1⟩⟩]
        refine zO rfl (Rd.neq rfl rfl) ?_
        refine zO rfl Rd.mv ?_
        first | ((first | refine zW ?_ | refine zQ ?_); refine zO rfl (Rd.fA rfl) ?_) | refine zU ?_ | refine zV ?_ | refine zZ ?_
        first | ((first | refine zW ?_ | refine zQ ?_); refine zO rfl (Rd.ldC rfl (tyrow rfl) rfl) ?_) | refine zU ?_ | refine zV ?_ | refine zZ ?_
        first | ((first | refine zW ?_ | refine zQ ?_); refine zO rfl (Rd.neq rfl rfl) ?_) | refine zU ?_ | refine zV ?_ | refine zZ ?_
        refine zO rfl (by first | exact Rd.pT rfl | exact Rd.pF rfl | exact Rd.pP rfl) ?_
        refine zN ?_; refine zT ?_
        refine ⟨(Keep.upd (Keep.upd (Keep.upd (Keep.upd (Keep.upd (Keep.upd (Keep.refl _ _) rfl) rfl) rfl) rfl) rfl) rfl), (), _, (by (repeat (first | exact trivial | refine ⟨rfl, ?_⟩ | refine ⟨Eq.trans rfl (congrArg Value.bool hmat.symm), ?_⟩)); (first | done | fail)), ?_, ⟨rfl, rfl⟩⟩
        · exact zE
    rintro - δ1 _ _ ⟨rfl, rfl⟩
    dsimp only [ovr, List.foldl]
    refine XOA.wr0 rfl (WrA.cE (bad_a σ b _ bs E2 (decide (k ≠ 0 ∧ op ≠ 1)) 5 (by decide)) rfl) ?_
    rintro _ _ _ ⟨_, ⟨rfl, rfl, rfl⟩, rfl⟩
    refine XOA.cl ?_
    refine zN ?_; refine zT ?_; refine zS ?_; refine zR ?_; refine zO rfl Rd.mv ?_; refine zO rfl (Rd.fA rfl) ?_; refine zO rfl (Rd.ldC rfl (tyrow rfl) rfl) ?_; refine zO rfl (Rd.fA rfl) ?_; refine zO rfl (Rd.ldC rfl (tyrow rfl) rfl) ?_
    obtain ⟨E3, hE3⟩ : ∃ E3, E3 = JE.fail E2 (decide (k ≠ 0 ∧ op ≠ 1)) 5 := ⟨_, rfl⟩
    rw [← hE3]
    refine XOA.join (List.take_append_drop 6 _).symm [(40, 40), (42, 42), (45, 50)] (fun _ : Unit => [(40, ptr b), (42, i64 v), (50, .bool (decide (op = 2 ∨ op = 3)))]) (fun _ σ' Γ' => σ = σ' ∧ Γ' = [Look b (.slice p n c) bs E3, blk g4 [i64 op, i64 v, i64 k, .slice pl l.length cl] 44]) ?_ ?_
    · 
      by_cases h1 : op = 2
      · rw [show decide (op = 2 ∨ op = 3) = true from decide_eq_true (.inl h1)]
        refine zO rfl (Rd.eql rfl rfl) ?_; refine zO rfl Rd.mv ?_
        first | ((first | refine zW ?_ | refine zQ ?_); refine zO rfl (Rd.fA rfl) ?_) | refine zU ?_ | refine zV ?_ | refine zZ ?_
        first | ((first | refine zW ?_ | refine zQ ?_); refine zO rfl (Rd.ldC rfl (tyrow rfl) rfl) ?_) | refine zU ?_ | refine zV ?_ | refine zZ ?_
        first | ((first | refine zW ?_ | refine zQ ?_); refine zO rfl (Rd.eql rfl rfl) ?_) | refine zU ?_ | refine zV ?_ | refine zZ ?_
        refine zO rfl (by first | exact Rd.pT rfl | exact Rd.pF rfl | exact Rd.pP rfl) ?_
        refine zN ?_; refine zT ?_
        refine ⟨(Keep.upd (Keep.upd (Keep.upd (Keep.upd (Keep.upd (Keep.upd (Keep.refl _ _) rfl) rfl) rfl) rfl) rfl) rfl), (), _, (by (repeat (first | exact trivial | refine ⟨rfl, ?_⟩ | refine ⟨Eq.trans rfl (congrArg Value.bool hmat.symm), ?_⟩)); (first | done | fail)), ?_, ⟨rfl, rfl⟩⟩
        · exact zE
      · rw [show decide (op = 2 ∨ op = 3) = decide (op = 3) from by rw [decide_eq_decide]; omega]
        refine zO rfl (Rd.eql rfl rfl) ?_; refine zO rfl Rd.mv ?_
        first | ((first | refine zW ?_ | refine zQ ?_); refine zO rfl (Rd.fA rfl) ?_) | refine zU ?_ | refine zV ?_ | refine zZ ?_
        first | ((first | refine zW ?_ | refine zQ ?_); refine zO rfl (Rd.ldC rfl (tyrow rfl) rfl) ?_) | refine zU ?_ | refine zV ?_ | refine zZ ?_
        first | ((first | refine zW ?_ | refine zQ ?_); refine zO rfl (Rd.eql rfl rfl) ?_) | refine zU ?_ | refine zV ?_ | refine zZ ?_
        refine zO rfl (by first | exact Rd.pT rfl | exact Rd.pF rfl | exact Rd.pP rfl) ?_
        refine zN ?_; refine zT ?_
        refine ⟨(Keep.upd (Keep.upd (Keep.upd (Keep.upd (Keep.upd (Keep.upd (Keep.refl _ _) rfl) rfl) rfl) rfl) rfl) rfl), (), _, (by (repeat (first | exact trivial | refine ⟨rfl, ?_⟩ | refine ⟨Eq.trans rfl (congrArg Value.bool hmat.symm), ?_⟩)); (first | done | fail)), ?_, ⟨rfl, rfl⟩⟩
        · exact zE
    rintro - δ2 _ _ ⟨rfl, rfl⟩
    dsimp only [ovr, List.foldl]
    refine XOA.wr0 rfl (WrA.cE (variable_a σ b p n c bs E3 v (decide (op = 2 ∨ op = 3))) rfl) ?_
    rintro _ _ _ ⟨_, ⟨rfl, rfl, rfl⟩, rfl⟩
    refine XOA.cl ?_
    have hH : JE.named E3 n v (decide (op = 2 ∨ op = 3)) = exHead n deep op v k l.length (.ok a) := by
      rw [hE3, hE2, fail_or, exHead]
      congr 2
      rw [← Bool.decide_or, decide_eq_decide]
      constructor
      · rintro (h | h)
        · exact .inl (fun e => h e.symm)
        · exact .inr h
      · rintro (h | h)
        · exact .inl (fun e => h e.symm)
        · exact .inr h
    rw [hH]
    clear hH hE3 hE2
    refine zN ?_; refine zT ?_; refine zS ?_; refine zR ?_; refine zO rfl Rd.asg ?_; refine zN ?_; refine zT ?_
    refine XA.block ?_
    refine XA.gen [(0, _), (2, _), (4, _), (7, _)] ⟨(by with_reducible (conv => lhs; whnf)), (by with_reducible (conv => lhs; whnf)), (by with_reducible (conv => lhs; whnf)), (by with_reducible (conv => lhs; whnf)), trivial⟩ (fun δ => ?_)
    dsimp only [List.foldl]
    refine XA.loop [(7, 7), (52, 74)] (fun q : Nat => [(7, i64 q)]) (fun q σ' Γ' => σ = σ' ∧ q ≤ l.length ∧ Γ' = [Look b (.slice p n c) bs (exsE n (deep + 1) (l.take q) (exHead n deep op v k l.length (.ok a))), blk g4 [i64 op, i64 v, i64 k, .slice pl l.length cl] 44]) (fun q => l.length - q) 0 (by exact ⟨rfl, trivial⟩) (Δ0 := _) ?_ (⟨rfl, Nat.zero_le _, rfl⟩) ?_
    · rw [List.take_zero, exsE]; exact zE
    rintro q δ _ _ ⟨rfl, hq, rfl⟩
    dsimp only [ovr, List.foldl]
    have hin2 : (exsE n (deep + 1) (l.take q) (exHead n deep op v k l.length (.ok a))).in_ := in_of (Down.exsE n (l.take q)) (in_of (Down.exHead n op v k l.length) hin deep) (deep + 1)
    have hin3 : (exHead n deep op v k l.length (.ok a)).in_ := in_of (Down.exHead n op v k l.length) hin deep
    have hpost : exE n deep (.mk op v k l) (.ok a) = exsE n (deep + 1) l (exHead n deep op v k l.length (.ok a)) := by rw [exE]
    by_cases hlt : q < l.length
    · obtain ⟨x', hx'⟩ : ∃ x', l[q]? = some x' := ⟨_, List.getElem?_eq_getElem hlt⟩
      obtain ⟨g, o, row, rfl, hrx, hrl, hrow⟩ := hl.at hx'
      have hone := hrx.ones
      have e1 := exsE_snoc n (deep + 1) l q x' (exHead n deep op v k l.length (.ok a)) hx'
      refine zS ?_; refine zS ?_; refine zR ?_; refine zO rfl Rd.mv ?_; refine zO rfl (Rd.fA rfl) ?_; refine zO rfl (Rd.ldC rfl (tyrow rfl) rfl) ?_; refine zO rfl (Rd.lenSlice (tyrow rfl) rfl rfl) ?_; refine zO rfl (Rd.lss rfl rfl) ?_; refine zO rfl Rd.mv ?_
      first | ((first | refine zW ?_ | refine zQ ?_); refine zO rfl Rd.mv ?_) | refine zU ?_ | refine zV ?_ | refine zZ ?_
      cases hst : exsE n (deep + 1) (l.take q) (exHead n deep op v k l.length (.ok a)) with
      | error c' =>
        have hfin : exsE n (deep + 1) l (exHead n deep op v k l.length (.ok a)) = .error c' := by
          have := exsE_app n (deep + 1) (l.take q) (l.drop q) (exHead n deep op v k l.length (.ok a))
          rw [List.take_append_drop, hst, exsE_err] at this
          exact this
        first | refine XA.opn (R := Look b (.slice p n c) bs (.error c')) (by ((repeat (first | with_reducible exact Sel.head | apply Sel.tail)); (first | done | fail))) (Look.errO) ?_ | refine XOA.opn (R := Look b (.slice p n c) bs (.error c')) (by ((repeat (first | with_reducible exact Sel.head | apply Sel.tail)); (first | done | fail))) (Look.errO) ?_ | refine DA.opn (R := Look b (.slice p n c) bs (.error c')) (by ((repeat (first | with_reducible exact Sel.head | apply Sel.tail)); (first | done | fail))) (Look.errO) ?_
        rintro lf h0
        first | refine XA.cl ?_ | refine XOA.cl ?_ | refine DA.cl ?_
        first | ((first | refine zW ?_ | refine zQ ?_); refine zO rfl (Rd.nilCheck rfl) ?_) | refine zU ?_ | refine zV ?_ | refine zZ ?_
        first | ((first | refine zW ?_ | refine zQ ?_); refine zO rfl (Rd.fA rfl) ?_) | refine zU ?_ | refine zV ?_ | refine zZ ?_
        first | ((first | refine zW ?_ | refine zQ ?_); refine zO rfl (Rd.ldC rfl (tyrow rfl) rfl) ?_) | refine zU ?_ | refine zV ?_ | refine zZ ?_
        first | ((first | refine zW ?_ | refine zQ ?_); refine zO rfl (Rd.eql rfl rfl) ?_) | refine zU ?_ | refine zV ?_ | refine zZ ?_
        refine zO rfl (by first | exact Rd.pT rfl | exact Rd.pF rfl | exact Rd.pP rfl) ?_
        refine zN ?_; refine zT ?_
        rw [hpost, hfin]
        refine XA.condF rfl (decide_eq_false h0) ?_
        refine XA.exit ?_
        refine DA.thn_exit ?_
        refine DA.thn_exit ?_
        refine DA.inb_same ?_
        exact bodyA.normal (ResA.none rfl) (Ent.fold1 zE (Look.mkE h0)) ⟨rfl, rfl, rfl⟩
      | ok a2 =>
        have hd12 : deep ≤ 12 := by
          apply one_ok (e := .ok a)
          cases hq1 : JE.one (.ok a) deep with
          | ok _ => rfl
          | error c' => exfalso; rw [exHead, hq1, fail_err, fail_err, named_err, exsE_err] at hst; cases hst
        rw [hst] at e1 hin2
        first | refine XA.opn (R := Look b (.slice p n c) bs (.ok a2)) (by ((repeat (first | with_reducible exact Sel.head | apply Sel.tail)); (first | done | fail))) (Look.okO) ?_ | refine XOA.opn (R := Look b (.slice p n c) bs (.ok a2)) (by ((repeat (first | with_reducible exact Sel.head | apply Sel.tail)); (first | done | fail))) (Look.okO) ?_ | refine DA.opn (R := Look b (.slice p n c) bs (.ok a2)) (by ((repeat (first | with_reducible exact Sel.head | apply Sel.tail)); (first | done | fail))) (Look.okO) ?_
        rintro ⟨⟩ -
        first | refine XA.cl ?_ | refine XOA.cl ?_ | refine DA.cl ?_
        first | ((first | refine zW ?_ | refine zQ ?_); refine zO rfl (Rd.nilCheck rfl) ?_) | refine zU ?_ | refine zV ?_ | refine zZ ?_
        first | ((first | refine zW ?_ | refine zQ ?_); refine zO rfl (Rd.fA rfl) ?_) | refine zU ?_ | refine zV ?_ | refine zZ ?_
        first | ((first | refine zW ?_ | refine zQ ?_); refine zO rfl (Rd.ldC rfl (tyrow rfl) rfl) ?_) | refine zU ?_ | refine zV ?_ | refine zZ ?_
        first | ((first | refine zW ?_ | refine zQ ?_); refine zO rfl (Rd.eql rfl rfl) ?_) | refine zU ?_ | refine zV ?_ | refine zZ ?_
        refine zO rfl (by first | exact Rd.pT rfl | exact Rd.pF rfl | exact Rd.pP rfl) ?_
        refine zN ?_; refine zT ?_
        refine XA.condT rfl rfl ?_
        refine XA.skip ?_
        refine zT ?_; refine zS ?_
        refine XA.block ?_
        refine zR ?_; refine zO rfl Rd.mv ?_; refine zO rfl (Rd.fA rfl) ?_; refine zO rfl (Rd.ldC rfl (tyrow rfl) rfl) ?_; refine zO rfl Rd.mv ?_
        refine zO rfl (Rd.ixS rfl rfl) ?_
        refine zO rfl (Rd.ldA rfl) ?_; refine zO rfl Rd.mv ?_
        refine zO rfl (by first | exact Rd.adi rfl rfl | exact Rd.add rfl rfl) ?_
        refine XOA.ent (Ent.foldC (Θ := [_]) (by (repeat (first | exact Ent.all _ | (apply Ent.take; focus (first | ((repeat (first | with_reducible exact Sel.head | apply Sel.tail)); done) | ((repeat (first | exact Sel.head | apply Sel.tail)); done))) | apply Ent.takeNil | apply Ent.takeEmp)); (first | done | fail)) (Look.mkO (l := a2) rfl) (Ent.refl _)) ?_
        refine XOA.wr0 rfl (WrA.cE (ih x' (List.mem_of_getElem? hx') row b p n c bs (.ok a2) (deep + 1) hrx hin2 (by omega) (by omega)) rfl) ?_
        rintro _ _ _ ⟨_, ⟨rfl, rfl, rfl⟩, rfl⟩
        refine XOA.cl ?_
        refine zN ?_
        refine DA.inb_normal ?_
        refine zT ?_; refine zR ?_; refine zO rfl Rd.mv ?_
        refine zO rfl (by first | exact Rd.adi rfl rfl | exact Rd.add rfl rfl) ?_
        refine zO rfl Rd.asg ?_; refine zN ?_; refine zT ?_
        refine ⟨(Keep.upd (Keep.upd (Keep.upd (Keep.updO (Keep.upd (Keep.upd (Keep.upd (Keep.upd (Keep.upd (Keep.upd (Keep.upd (Keep.upd (Keep.upd (Keep.upd (Keep.upd (Keep.upd (Keep.upd (Keep.upd (Keep.upd (Keep.upd (Keep.upd (Keep.upd (Keep.upd (Keep.upd (Keep.upd (Keep.hav (Keep.hav (Keep.refl _ _) rfl) rfl) rfl) rfl) rfl) rfl) rfl) rfl) rfl) rfl) rfl) rfl) rfl) rfl) rfl) rfl) rfl) rfl) rfl) rfl) rfl) rfl) rfl) rfl) rfl) rfl) rfl), q + 1, _, (by (repeat (first | exact trivial | refine ⟨rfl, ?_⟩ | refine ⟨Eq.trans rfl (congrArg Value.bool hmat.symm), ?_⟩)); (first | done | fail)), ?_, ⟨rfl, hlt, by rw [e1]⟩, (by omega)⟩
        · exact zE
    have hqn : q = l.length := by omega
    subst hqn
    rw [List.take_length, hpost]
    refine zS ?_; refine zS ?_; refine zR ?_; refine zO rfl Rd.mv ?_; refine zO rfl (Rd.fA rfl) ?_; refine zO rfl (Rd.ldC rfl (tyrow rfl) rfl) ?_; refine zO rfl (Rd.lenSlice (tyrow rfl) rfl rfl) ?_; refine zO rfl (Rd.lss rfl rfl) ?_; refine zO rfl Rd.mv ?_
    first | ((first | refine zW ?_ | refine zQ ?_); refine zO rfl Rd.mv ?_) | refine zU ?_ | refine zV ?_ | refine zZ ?_
    first | ((first | refine zW ?_ | refine zQ ?_); refine zO rfl (Rd.nilCheck rfl) ?_) | refine zU ?_ | refine zV ?_ | refine zZ ?_
    first | ((first | refine zW ?_ | refine zQ ?_); refine zO rfl (Rd.fA rfl) ?_) | refine zU ?_ | refine zV ?_ | refine zZ ?_
    first | ((first | refine zW ?_ | refine zQ ?_); refine zO rfl (Rd.ldC rfl (tyrow rfl) rfl) ?_) | refine zU ?_ | refine zV ?_ | refine zZ ?_
    first | ((first | refine zW ?_ | refine zQ ?_); refine zO rfl (Rd.eql rfl rfl) ?_) | refine zU ?_ | refine zV ?_ | refine zZ ?_
    refine zO rfl (by first | exact Rd.pT rfl | exact Rd.pF rfl | exact Rd.pP rfl) ?_
    refine zN ?_; refine zT ?_
    refine XA.condF rfl (by first | rfl | exact (by first | exact (rfl : decide _ = true) | exact (rfl : decide _ = false) | (refine decide_eq_true ?_; assumption) | (refine decide_eq_false ?_; assumption) | (refine decide_eq_true ?_; omega) | (refine decide_eq_false ?_; omega))) ?_
    refine XA.exit ?_
    refine DA.thn_exit ?_
    refine DA.thn_exit ?_
    refine DA.inb_same ?_
    exact bodyA.normal (ResA.none rfl) zE ⟨rfl, rfl, rfl⟩
end Go.Proofs.Ytbbghdkndbpmmaa

namespace Go.Proofs.Ytbbghdkndbpmmaa
open Go X
set_option maxHeartbeats 1000000
def RStmtsOK (σ : PH) (l : List St) : Prop := ∀ (sl : Value) (b : Nat) (p : Option Addr) (n c : Nat) (bs : Value) (e : JE) (deep : Int), PSl 12 StAt σ sl l → e.in_ → 0 ≤ deep → (deep ≤ 900 ∧ (e.isOk = true → deep ≤ 13)) →
  CallsA Try.prog 44 #[ptr b, sl, i64 deep] σ [Look b (.slice p n c) bs e] (RetA fun r σ' Γ' => r = .tuple #[] ∧ σ = σ' ∧ Γ' = [Look b (.slice p n c) bs (stsE n deep l e)])
theorem st_form (op : Int) (ex fx : Ex) (kb ke : Nat) (s : JE) : (s.fail ((!needE op && !noneX ex) || (!needF op && !noneX fx)) 5).fail ((!needB op && decide ((0 : Int) < (kb : Int))) || (!needO op && decide ((0 : Int) < (ke : Int)))) 5 = s.fail (stForm op ex fx kb ke) 5 := by
  rw [fail_or, stForm]
  congr 1
  simp only [Bool.or_assoc]
theorem rstmts_l (σ : PH) (l : List St) (ih : ∀ x ∈ l, RStmtsOK σ x.body ∧ RStmtsOK σ x.els) : RStmtsOK σ l := by
  intro sl b p n c bs e deep hl hin hd0 ⟨hd1, hd13⟩
  obtain ⟨pl, cl, rfl, hle, hmx⟩ := hl.shape
  have hlen : l.length ≤ maxLen := by omega
  simp only [maxLen] at hlen
  refine enterA3 Try.func44 rfl rfl rfl ?_
  refine zS ?_; refine zR ?_; refine zO rfl Rd.asg ?_; refine zN ?_; refine zT ?_
  refine XA.block ?_
  refine XA.gen [(0, _), (1, _), (2, _), (6, _)] ⟨(by with_reducible (conv => lhs; whnf)), (by with_reducible (conv => lhs; whnf)), (by with_reducible (conv => lhs; whnf)), (by with_reducible (conv => lhs; whnf)), trivial⟩ (fun δ => ?_)
  dsimp only [List.foldl]
  refine XA.loop [(6, 122)] (fun q : Nat => [(6, i64 q)]) (fun q σ' Γ' => σ = σ' ∧ q ≤ l.length ∧ Γ' = [Look b (.slice p n c) bs (stsE n deep (l.take q) e)]) (fun q => l.length - q) 0 (by exact ⟨rfl, trivial⟩) (Δ0 := _) ?_ (⟨rfl, Nat.zero_le _, rfl⟩) ?_
  · rw [List.take_zero, stsE]; exact zE
  rintro q δ _ _ ⟨rfl, hq, rfl⟩
  dsimp only [ovr, List.foldl]
  have hin2 : (stsE n deep (l.take q) e).in_ := in_of (Down.stsE n (l.take q)) hin deep
  by_cases hlt : q < l.length
  · obtain ⟨x, hx⟩ : ∃ x, l[q]? = some x := ⟨_, List.getElem?_eq_getElem hlt⟩
    obtain ⟨g, o, row, rfl, hrx, hrl, hrow⟩ := hl.at hx
    have hone := hrx.ones
    have e1 := stsE_snoc n deep l q x e hx
    obtain ⟨ihb, ihe⟩ := ih x (List.mem_of_getElem? hx)
    refine zS ?_; refine zS ?_; refine zR ?_; refine zO rfl Rd.mv ?_; refine zO rfl Rd.mv ?_; refine zO rfl (Rd.lenSlice (tyrow rfl) rfl rfl) ?_; refine zO rfl (Rd.lss rfl rfl) ?_; refine zO rfl Rd.mv ?_
    first | ((first | refine zW ?_ | refine zQ ?_); refine zO rfl Rd.mv ?_) | refine zU ?_ | refine zV ?_ | refine zZ ?_
    cases hst : stsE n deep (l.take q) e with
    | error c' =>
      have hfin : stsE n deep l e = .error c' := by
        have := stsE_app n deep (l.take q) (l.drop q) e
        rw [List.take_append_drop, hst, stsE_err] at this
        exact this
      rw [hfin]
      first | refine XA.opn (R := Look b (.slice p n c) bs (.error c')) (by ((repeat (first | with_reducible exact Sel.head | apply Sel.tail)); (first | done | fail))) (Look.errO) ?_ | refine XOA.opn (R := Look b (.slice p n c) bs (.error c')) (by ((repeat (first | with_reducible exact Sel.head | apply Sel.tail)); (first | done | fail))) (Look.errO) ?_ | refine DA.opn (R := Look b (.slice p n c) bs (.error c')) (by ((repeat (first | with_reducible exact Sel.head | apply Sel.tail)); (first | done | fail))) (Look.errO) ?_
      rintro lf h0
      first | refine XA.cl ?_ | refine XOA.cl ?_ | refine DA.cl ?_
      first | ((first | refine zW ?_ | refine zQ ?_); refine zO rfl (Rd.nilCheck rfl) ?_) | refine zU ?_ | refine zV ?_ | refine zZ ?_
      first | ((first | refine zW ?_ | refine zQ ?_); refine zO rfl (Rd.fA rfl) ?_) | refine zU ?_ | refine zV ?_ | refine zZ ?_
      first | ((first | refine zW ?_ | refine zQ ?_); refine zO rfl (Rd.ldC rfl (tyrow rfl) rfl) ?_) | refine zU ?_ | refine zV ?_ | refine zZ ?_
      first | ((first | refine zW ?_ | refine zQ ?_); refine zO rfl (Rd.eql rfl rfl) ?_) | refine zU ?_ | refine zV ?_ | refine zZ ?_
      refine zO rfl (by first | exact Rd.pT rfl | exact Rd.pF rfl | exact Rd.pP rfl) ?_
      refine zN ?_; refine zT ?_
      refine XA.condF rfl (decide_eq_false h0) ?_
      refine XA.exit ?_
      refine DA.thn_exit ?_
      refine DA.thn_exit ?_
      refine DA.inb_same ?_
      exact bodyA.normal (ResA.none rfl) (Ent.fold1 zE (Look.mkE h0)) ⟨rfl, rfl, rfl⟩
    | ok a =>
      have hdp : deep ≤ 13 := hd13 (by
        cases e with
        | ok _ => rfl
        | error c' => rw [stsE_err] at hst; cases hst)
      rw [hst] at e1 hin2
      obtain ⟨op, v, ex, fx, body, els⟩ := x
      obtain ⟨pe, de, pf, df, pb, cb, pl', cl', rfl, -, -, hxe, hxf, hxb, hxl⟩ := hrx.inv12
      simp only [St.op, St.v, St.e, St.f, St.body, St.els] at hxe hxf hxb hxl hrow hone hrl ihb ihe
      clear hrx
      obtain ⟨nE, nF, nV, nB, nO⟩ := need_op op
      obtain ⟨qE, hqE⟩ : ∃ q, q = needE op := ⟨_, rfl⟩
      obtain ⟨qF, hqF⟩ : ∃ q, q = needF op := ⟨_, rfl⟩
      obtain ⟨qV, hqV⟩ : ∃ q, q = needV op := ⟨_, rfl⟩
      obtain ⟨qB, hqB⟩ : ∃ q, q = needB op := ⟨_, rfl⟩
      obtain ⟨qO, hqO⟩ : ∃ q, q = needO op := ⟨_, rfl⟩
      rw [← hqE] at nE
      rw [← hqF] at nF
      rw [← hqV] at nV
      rw [← hqB] at nB
      rw [← hqO] at nO
      obtain ⟨cells, hcells⟩ : ∃ l, l = [i64 op, i64 v, i64 ex.op, i64 ex.v, i64 ex.n, .slice pe ex.l.length de, i64 fx.op, i64 fx.v, i64 fx.n, .slice pf fx.l.length df, .slice pb body.length cb, .slice pl' els.length cl'] := ⟨_, rfl⟩
      obtain ⟨ne, hne⟩ : ∃ q, q = noneX ex := ⟨_, rfl⟩
      obtain ⟨nf, hnf⟩ : ∃ q, q = noneX fx := ⟨_, rfl⟩
      obtain ⟨A1, hA1⟩ : ∃ A, A = (!qE && !ne) := ⟨_, rfl⟩
      obtain ⟨A2, hA2⟩ : ∃ A, A = (A1 || (!qF && !nf)) := ⟨_, rfl⟩
      obtain ⟨A3, hA3⟩ : ∃ A, A = (!qB && decide ((0 : Int) < (body.length : Int))) := ⟨_, rfl⟩
      obtain ⟨A4, hA4⟩ : ∃ A, A = (A3 || (!qO && decide ((0 : Int) < (els.length : Int)))) := ⟨_, rfl⟩
      have hform : ∀ s : JE, (s.fail A2 5).fail A4 5 = s.fail (stForm op ex fx body.length els.length) 5 := fun s => by rw [hA2, hA4, hA1, hA3, hne, hnf, hqE, hqF, hqB, hqO, st_form]
      first | refine XA.opn (R := Look b (.slice p n c) bs (.ok a)) (by ((repeat (first | with_reducible exact Sel.head | apply Sel.tail)); (first | done | fail))) (Look.okO) ?_ | refine XOA.opn (R := Look b (.slice p n c) bs (.ok a)) (by ((repeat (first | with_reducible exact Sel.head | apply Sel.tail)); (first | done | fail))) (Look.okO) ?_ | refine DA.opn (R := Look b (.slice p n c) bs (.ok a)) (by ((repeat (first | with_reducible exact Sel.head | apply Sel.tail)); (first | done | fail))) (Look.okO) ?_
      rintro ⟨⟩ -
      first | refine XA.cl ?_ | refine XOA.cl ?_ | refine DA.cl ?_
      first | ((first | refine zW ?_ | refine zQ ?_); refine zO rfl (Rd.nilCheck rfl) ?_) | refine zU ?_ | refine zV ?_ | refine zZ ?_
      first | ((first | refine zW ?_ | refine zQ ?_); refine zO rfl (Rd.fA rfl) ?_) | refine zU ?_ | refine zV ?_ | refine zZ ?_
      first | ((first | refine zW ?_ | refine zQ ?_); refine zO rfl (Rd.ldC rfl (tyrow rfl) rfl) ?_) | refine zU ?_ | refine zV ?_ | refine zZ ?_
      first | ((first | refine zW ?_ | refine zQ ?_); refine zO rfl (Rd.eql rfl rfl) ?_) | refine zU ?_ | refine zV ?_ | refine zZ ?_
      refine zO rfl (by first | exact Rd.pT rfl | exact Rd.pF rfl | exact Rd.pP rfl) ?_
      refine zN ?_; refine zT ?_
      refine XA.condT rfl rfl ?_
      refine XA.skip ?_
      refine zT ?_; refine zS ?_
      refine XA.block ?_
      refine zS ?_; refine zR ?_; refine zO rfl Rd.mv ?_; refine zO rfl Rd.mv ?_
      refine zO rfl (Rd.ixS rfl rfl) ?_
      refine zO rfl (Rd.ldA rfl) ?_
      refine XOA.wr0 rfl (WrA.alloc (tyrow rfl)) ?_
      rintro _ _ _ ⟨g7, rfl, rfl, rfl⟩
      refine XOA.wr0 rfl (WrA.st (tyrow rfl) rfl) ?_
      rintro _ _ _ ⟨rfl, rfl, rfl⟩
      refine zN ?_; refine zT ?_; refine zS ?_; refine zR ?_; refine zO rfl Rd.mv ?_; refine zO rfl Rd.mv ?_
      refine XOA.ent (Ent.foldC (Θ := [_]) (by (repeat (first | exact Ent.all _ | (apply Ent.take; focus (first | ((repeat (first | with_reducible exact Sel.head | apply Sel.tail)); done) | ((repeat (first | exact Sel.head | apply Sel.tail)); done))) | apply Ent.takeNil | apply Ent.takeEmp)); (first | done | fail)) (Look.mkO (l := a) rfl) (Ent.refl _)) ?_
      refine XOA.wr0 rfl (WrA.cE (head_a σ b (.slice p n c) bs (.ok a) deep hin2) rfl) ?_
      rintro _ _ _ ⟨_, ⟨rfl, rfl, rfl⟩, rfl⟩
      refine XOA.cl ?_
      refine zN ?_; refine zT ?_; refine zS ?_; refine zR ?_; refine zO rfl Rd.mv ?_; refine zO rfl (Rd.fA rfl) ?_; refine zO rfl (Rd.ldC rfl (tyrow rfl) rfl) ?_
      obtain ⟨E1, hE1⟩ : ∃ E1, E1 = JE.one (.ok a) deep := ⟨_, rfl⟩
      rw [← hE1, ← hcells]
      refine XOA.join (List.take_append_drop 6 _).symm [(28, 28), (31, 36)] (fun _ : Unit => [(28, ptr b), (36, .bool (decide (op < 1 ∨ 7 < op)))]) (fun _ σ' Γ' => σ = σ' ∧ Γ' = [Look b (.slice p n c) bs E1, blk g7 cells 46]) ?_ ?_
      · rw [hcells]
        by_cases h1 : op < 1
        · rw [show decide (op < 1 ∨ 7 < op) = true from decide_eq_true (.inl h1)]
          refine zO rfl (Rd.lss rfl rfl) ?_; refine zO rfl Rd.mv ?_
          first | ((first | refine zW ?_ | refine zQ ?_); refine zO rfl (Rd.fA rfl) ?_) | refine zU ?_ | refine zV ?_ | refine zZ ?_
          first | ((first | refine zW ?_ | refine zQ ?_); refine zO rfl (Rd.ldC rfl (tyrow rfl) rfl) ?_) | refine zU ?_ | refine zV ?_ | refine zZ ?_
          first | ((first | refine zW ?_ | refine zQ ?_); refine zO rfl (Rd.gtr rfl rfl) ?_) | refine zU ?_ | refine zV ?_ | refine zZ ?_
          refine zO rfl (by first | exact Rd.pT rfl | exact Rd.pF rfl | exact Rd.pP rfl) ?_
          refine zN ?_; refine zT ?_
          refine ⟨(Keep.upd (Keep.upd (Keep.upd (Keep.upd (Keep.upd (Keep.upd (Keep.refl _ _) rfl) rfl) rfl) rfl) rfl) rfl), (), _, (by (repeat (first | exact trivial | refine ⟨rfl, ?_⟩ | refine ⟨Eq.trans rfl (congrArg Value.bool hmat.symm), ?_⟩)); (first | done | fail)), ?_, ⟨rfl, rfl⟩⟩
          · exact zE
        · rw [show decide (op < 1 ∨ 7 < op) = decide (7 < op) from by rw [decide_eq_decide]; omega]
          refine zO rfl (Rd.lss rfl rfl) ?_; refine zO rfl Rd.mv ?_
          first | ((first | refine zW ?_ | refine zQ ?_); refine zO rfl (Rd.fA rfl) ?_) | refine zU ?_ | refine zV ?_ | refine zZ ?_
          first | ((first | refine zW ?_ | refine zQ ?_); refine zO rfl (Rd.ldC rfl (tyrow rfl) rfl) ?_) | refine zU ?_ | refine zV ?_ | refine zZ ?_
          first | ((first | refine zW ?_ | refine zQ ?_); refine zO rfl (Rd.gtr rfl rfl) ?_) | refine zU ?_ | refine zV ?_ | refine zZ ?_
          refine zO rfl (by first | exact Rd.pT rfl | exact Rd.pF rfl | exact Rd.pP rfl) ?_
          refine zN ?_; refine zT ?_
          refine ⟨(Keep.upd (Keep.upd (Keep.upd (Keep.upd (Keep.upd (Keep.upd (Keep.refl _ _) rfl) rfl) rfl) rfl) rfl) rfl), (), _, (by (repeat (first | exact trivial | refine ⟨rfl, ?_⟩ | refine ⟨Eq.trans rfl (congrArg Value.bool hmat.symm), ?_⟩)); (first | done | fail)), ?_, ⟨rfl, rfl⟩⟩
          · exact zE
      rintro - δ1 _ _ ⟨rfl, rfl⟩
      dsimp only [ovr, List.foldl]
      rw [hcells]
      refine XOA.wr0 rfl (WrA.cE (bad_a σ b _ bs E1 (decide (op < 1 ∨ 7 < op)) 2 (by decide)) rfl) ?_
      rintro _ _ _ ⟨_, ⟨rfl, rfl, rfl⟩, rfl⟩
      refine XOA.cl ?_
      refine zN ?_; refine zT ?_; refine zS ?_; refine zR ?_; refine zO rfl Rd.mv ?_; refine zO rfl (Rd.fA rfl) ?_; refine zO rfl (Rd.ldC rfl (tyrow rfl) rfl) ?_
      obtain ⟨E2, hE2⟩ : ∃ E2, E2 = JE.fail E1 (decide (op < 1 ∨ 7 < op)) 2 := ⟨_, rfl⟩
      rw [← hE2]
      refine XOA.wr0 rfl (WrA.cE (rneeded_a σ op 101) rfl) ?_
      rintro _ _ _ ⟨_, ⟨rfl, rfl, rfl⟩, rfl⟩
      refine XOA.cl ?_
      rw [nE, ← hcells]
      refine zO rfl (by first | exact Rd.notp rfl | exact Rd.not rfl) ?_
      refine XOA.join (List.take_append_drop 7 _).symm [(38, 38), (43, 49)] (fun _ : Unit => [(38, ptr b), (49, .bool A1)]) (fun _ σ' Γ' => σ = σ' ∧ Γ' = [Look b (.slice p n c) bs E2, blk g7 cells 46]) ?_ ?_
      · rw [hcells]
        cases hn : qE with
        | true =>
          rw [show A1 = false by rw [hA1, hn]; rfl]
          refine zO rfl Rd.mv ?_
          first | ((first | refine zW ?_ | refine zQ ?_); refine zO rfl (Rd.fA rfl) ?_) | refine zU ?_ | refine zV ?_ | refine zZ ?_
          first | ((first | refine zW ?_ | refine zQ ?_); refine zO rfl (Rd.ldA rfl) ?_) | refine zU ?_ | refine zV ?_ | refine zZ ?_
          first | refine zU ?_ | refine zV ?_ | refine zZ ?_
          first | ((first | refine zW ?_ | refine zQ ?_); refine zO rfl (by first | exact Rd.notp rfl | exact Rd.not rfl) ?_) | refine zU ?_ | refine zV ?_ | refine zZ ?_
          refine zO rfl (by first | exact Rd.pT rfl | exact Rd.pF rfl | exact Rd.pP rfl) ?_
          refine zO rfl Rd.mv ?_; refine zN ?_; refine zT ?_
          refine ⟨(Keep.upd (Keep.upd (Keep.upd (Keep.upd (Keep.upd (Keep.upd (Keep.upd (Keep.refl _ _) rfl) rfl) rfl) rfl) rfl) rfl) rfl), (), _, (by (repeat (first | exact trivial | refine ⟨rfl, ?_⟩ | refine ⟨Eq.trans rfl (congrArg Value.bool hmat.symm), ?_⟩)); (first | done | fail)), ?_, ⟨rfl, rfl⟩⟩
          · exact zE
        | false =>
          rw [show A1 = !ne by rw [hA1, hn]; rfl]
          refine zO rfl Rd.mv ?_
          first | ((first | refine zW ?_ | refine zQ ?_); refine zO rfl (Rd.fA rfl) ?_) | refine zU ?_ | refine zV ?_ | refine zZ ?_
          first | ((first | refine zW ?_ | refine zQ ?_); refine zO rfl (Rd.ldA rfl) ?_) | refine zU ?_ | refine zV ?_ | refine zZ ?_
          first | refine XOA.wanted rfl rfl ?_ | refine XOA.wq rfl rfl ?_
          refine XOA.wr0 rfl (WrA.cE (rzero_a σ _ _ hxe) rfl) ?_
          rintro _ _ _ ⟨_, ⟨rfl, rfl, rfl⟩, rfl⟩
          refine XOA.cl ?_
          rw [← hne]
          first | ((first | refine zW ?_ | refine zQ ?_); refine zO rfl (by first | exact Rd.notp rfl | exact Rd.not rfl) ?_) | refine zU ?_ | refine zV ?_ | refine zZ ?_
          refine zO rfl (by first | exact Rd.pT rfl | exact Rd.pF rfl | exact Rd.pP rfl) ?_
          refine zO rfl Rd.mv ?_; refine zN ?_; refine zT ?_
          refine ⟨(Keep.upd (Keep.upd (Keep.upd (Keep.updO (Keep.upd (Keep.upd (Keep.upd (Keep.refl _ _) rfl) rfl) rfl) rfl) rfl) rfl) rfl), (), _, (by (repeat (first | exact trivial | refine ⟨rfl, ?_⟩ | refine ⟨Eq.trans rfl (congrArg Value.bool hmat.symm), ?_⟩)); (first | done | fail)), ?_, ⟨rfl, rfl⟩⟩
          · exact zE
      rintro - δ2 _ _ ⟨rfl, rfl⟩
      dsimp only [ovr, List.foldl]
      refine XOA.join (List.take_append_drop 11 _).symm [(38, 38), (50, 60)] (fun _ : Unit => [(38, ptr b), (60, .bool A2)]) (fun _ σ' Γ' => σ = σ' ∧ Γ' = [Look b (.slice p n c) bs E2, blk g7 cells 46]) ?_ ?_
      · rw [hcells]
        cases hB : A1 with
        | true =>
          rw [show A2 = true by rw [hA2, hB]; rfl]
          first | ((first | refine zW ?_ | refine zQ ?_); refine zO rfl (Rd.fA rfl) ?_) | refine zU ?_ | refine zV ?_ | refine zZ ?_
          first | ((first | refine zW ?_ | refine zQ ?_); refine zO rfl (Rd.ldC rfl (tyrow rfl) rfl) ?_) | refine zU ?_ | refine zV ?_ | refine zZ ?_
          first | refine zU ?_ | refine zV ?_ | refine zZ ?_
          first | ((first | refine zW ?_ | refine zQ ?_); refine zO rfl (by first | exact Rd.notp rfl | exact Rd.not rfl) ?_) | refine zU ?_ | refine zV ?_ | refine zZ ?_
          first | ((first | refine zW ?_ | refine zQ ?_); refine zO rfl Rd.mv ?_) | refine zU ?_ | refine zV ?_ | refine zZ ?_
          first | ((first | refine zW ?_ | refine zQ ?_); refine zO rfl (Rd.fA rfl) ?_) | refine zU ?_ | refine zV ?_ | refine zZ ?_
          first | ((first | refine zW ?_ | refine zQ ?_); refine zO rfl (Rd.ldA rfl) ?_) | refine zU ?_ | refine zV ?_ | refine zZ ?_
          first | refine zU ?_ | refine zV ?_ | refine zZ ?_
          first | ((first | refine zW ?_ | refine zQ ?_); refine zO rfl (by first | exact Rd.notp rfl | exact Rd.not rfl) ?_) | refine zU ?_ | refine zV ?_ | refine zZ ?_
          first | ((first | refine zW ?_ | refine zQ ?_); refine zO rfl (by first | exact Rd.pT rfl | exact Rd.pF rfl | exact Rd.pP rfl) ?_) | refine zU ?_ | refine zV ?_ | refine zZ ?_
          refine zO rfl (by first | exact Rd.pT rfl | exact Rd.pF rfl | exact Rd.pP rfl) ?_
          refine zN ?_; refine zT ?_
          refine ⟨(Keep.upd (Keep.upd (Keep.upd (Keep.upd (Keep.upd (Keep.upd (Keep.upd (Keep.upd (Keep.upd (Keep.upd (Keep.upd (Keep.refl _ _) rfl) rfl) rfl) rfl) rfl) rfl) rfl) rfl) rfl) rfl) rfl), (), _, (by (repeat (first | exact trivial | refine ⟨rfl, ?_⟩ | refine ⟨Eq.trans rfl (congrArg Value.bool hmat.symm), ?_⟩)); (first | done | fail)), ?_, ⟨rfl, rfl⟩⟩
          · exact zE
        | false =>
          rw [hB, Bool.false_or] at hA2
          first | ((first | refine zW ?_ | refine zQ ?_); refine zO rfl (Rd.fA rfl) ?_) | refine zU ?_ | refine zV ?_ | refine zZ ?_
          first | ((first | refine zW ?_ | refine zQ ?_); refine zO rfl (Rd.ldC rfl (tyrow rfl) rfl) ?_) | refine zU ?_ | refine zV ?_ | refine zZ ?_
          first | refine XOA.wanted rfl rfl ?_ | refine XOA.wq rfl rfl ?_
          refine XOA.wr0 rfl (WrA.cE (rneeded_a σ op 102) rfl) ?_
          rintro _ _ _ ⟨_, ⟨rfl, rfl, rfl⟩, rfl⟩
          refine XOA.cl ?_
          rw [nF]
          cases hn : qF with
          | true =>
            rw [show A2 = false by rw [hA2, hn]; rfl]
            first | ((first | refine zW ?_ | refine zQ ?_); refine zO rfl (by first | exact Rd.notp rfl | exact Rd.not rfl) ?_) | refine zU ?_ | refine zV ?_ | refine zZ ?_
            first | ((first | refine zW ?_ | refine zQ ?_); refine zO rfl Rd.mv ?_) | refine zU ?_ | refine zV ?_ | refine zZ ?_
            first | ((first | refine zW ?_ | refine zQ ?_); refine zO rfl (Rd.fA rfl) ?_) | refine zU ?_ | refine zV ?_ | refine zZ ?_
            first | ((first | refine zW ?_ | refine zQ ?_); refine zO rfl (Rd.ldA rfl) ?_) | refine zU ?_ | refine zV ?_ | refine zZ ?_
            first | refine zU ?_ | refine zV ?_ | refine zZ ?_
            first | ((first | refine zW ?_ | refine zQ ?_); refine zO rfl (by first | exact Rd.notp rfl | exact Rd.not rfl) ?_) | refine zU ?_ | refine zV ?_ | refine zZ ?_
            first | ((first | refine zW ?_ | refine zQ ?_); refine zO rfl (by first | exact Rd.pT rfl | exact Rd.pF rfl | exact Rd.pP rfl) ?_) | refine zU ?_ | refine zV ?_ | refine zZ ?_
            refine zO rfl (by first | exact Rd.pT rfl | exact Rd.pF rfl | exact Rd.pP rfl) ?_
            refine zN ?_; refine zT ?_
            refine ⟨(Keep.upd (Keep.upd (Keep.upd (Keep.upd (Keep.upd (Keep.upd (Keep.upd (Keep.upd (Keep.updO (Keep.upd (Keep.upd (Keep.refl _ _) rfl) rfl) rfl) rfl) rfl) rfl) rfl) rfl) rfl) rfl) rfl), (), _, (by (repeat (first | exact trivial | refine ⟨rfl, ?_⟩ | refine ⟨Eq.trans rfl (congrArg Value.bool hmat.symm), ?_⟩)); (first | done | fail)), ?_, ⟨rfl, rfl⟩⟩
            · exact zE
          | false =>
            rw [show A2 = !nf by rw [hA2, hn]; rfl]
            first | ((first | refine zW ?_ | refine zQ ?_); refine zO rfl (by first | exact Rd.notp rfl | exact Rd.not rfl) ?_) | refine zU ?_ | refine zV ?_ | refine zZ ?_
            first | ((first | refine zW ?_ | refine zQ ?_); refine zO rfl Rd.mv ?_) | refine zU ?_ | refine zV ?_ | refine zZ ?_
            first | ((first | refine zW ?_ | refine zQ ?_); refine zO rfl (Rd.fA rfl) ?_) | refine zU ?_ | refine zV ?_ | refine zZ ?_
            first | ((first | refine zW ?_ | refine zQ ?_); refine zO rfl (Rd.ldA rfl) ?_) | refine zU ?_ | refine zV ?_ | refine zZ ?_
            first | refine XOA.wanted rfl rfl ?_ | refine XOA.wq rfl rfl ?_
            refine XOA.wr0 rfl (WrA.cE (rzero_a σ _ _ hxf) rfl) ?_
            rintro _ _ _ ⟨_, ⟨rfl, rfl, rfl⟩, rfl⟩
            refine XOA.cl ?_
            rw [← hnf]
            first | ((first | refine zW ?_ | refine zQ ?_); refine zO rfl (by first | exact Rd.notp rfl | exact Rd.not rfl) ?_) | refine zU ?_ | refine zV ?_ | refine zZ ?_
            first | ((first | refine zW ?_ | refine zQ ?_); refine zO rfl (by first | exact Rd.pT rfl | exact Rd.pF rfl | exact Rd.pP rfl) ?_) | refine zU ?_ | refine zV ?_ | refine zZ ?_
            refine zO rfl (by first | exact Rd.pT rfl | exact Rd.pF rfl | exact Rd.pP rfl) ?_
            refine zN ?_; refine zT ?_
            refine ⟨(Keep.upd (Keep.upd (Keep.upd (Keep.updO (Keep.upd (Keep.upd (Keep.upd (Keep.upd (Keep.updO (Keep.upd (Keep.upd (Keep.refl _ _) rfl) rfl) rfl) rfl) rfl) rfl) rfl) rfl) rfl) rfl) rfl), (), _, (by (repeat (first | exact trivial | refine ⟨rfl, ?_⟩ | refine ⟨Eq.trans rfl (congrArg Value.bool hmat.symm), ?_⟩)); (first | done | fail)), ?_, ⟨rfl, rfl⟩⟩
            · exact zE
      rintro - δ3 _ _ ⟨rfl, rfl⟩
      dsimp only [ovr, List.foldl]
      rw [hcells]
      refine XOA.wr0 rfl (WrA.cE (bad_a σ b _ bs E2 A2 5 (by decide)) rfl) ?_
      rintro _ _ _ ⟨_, ⟨rfl, rfl, rfl⟩, rfl⟩
      refine XOA.cl ?_
      refine zN ?_; refine zT ?_; refine zS ?_; refine zR ?_; refine zO rfl Rd.mv ?_; refine zO rfl (Rd.fA rfl) ?_; refine zO rfl (Rd.ldC rfl (tyrow rfl) rfl) ?_
      obtain ⟨E3, hE3⟩ : ∃ E3, E3 = JE.fail E2 A2 5 := ⟨_, rfl⟩
      rw [← hE3]
      refine XOA.wr0 rfl (WrA.cE (rneeded_a σ op 98) rfl) ?_
      rintro _ _ _ ⟨_, ⟨rfl, rfl, rfl⟩, rfl⟩
      refine XOA.cl ?_
      rw [nB, ← hcells]
      refine zO rfl (by first | exact Rd.notp rfl | exact Rd.not rfl) ?_
      refine XOA.join (List.take_append_drop 7 _).symm [(62, 62), (67, 73)] (fun _ : Unit => [(62, ptr b), (73, .bool A3)]) (fun _ σ' Γ' => σ = σ' ∧ Γ' = [Look b (.slice p n c) bs E3, blk g7 cells 46]) ?_ ?_
      · rw [hcells]
        cases hn : qB with
        | true =>
          rw [show A3 = false by rw [hA3, hn]; rfl]
          refine zO rfl Rd.mv ?_
          first | ((first | refine zW ?_ | refine zQ ?_); refine zO rfl (Rd.fA rfl) ?_) | refine zU ?_ | refine zV ?_ | refine zZ ?_
          first | ((first | refine zW ?_ | refine zQ ?_); refine zO rfl (Rd.ldC rfl (tyrow rfl) rfl) ?_) | refine zU ?_ | refine zV ?_ | refine zZ ?_
          first | ((first | refine zW ?_ | refine zQ ?_); refine zO rfl (Rd.lenSlice (tyrow rfl) rfl rfl) ?_) | refine zU ?_ | refine zV ?_ | refine zZ ?_
          first | ((first | refine zW ?_ | refine zQ ?_); refine zO rfl (Rd.gtr rfl rfl) ?_) | refine zU ?_ | refine zV ?_ | refine zZ ?_
          refine zO rfl (by first | exact Rd.pT rfl | exact Rd.pF rfl | exact Rd.pP rfl) ?_
          refine zO rfl Rd.mv ?_; refine zN ?_; refine zT ?_
          refine ⟨(Keep.upd (Keep.upd (Keep.upd (Keep.upd (Keep.upd (Keep.upd (Keep.upd (Keep.refl _ _) rfl) rfl) rfl) rfl) rfl) rfl) rfl), (), _, (by (repeat (first | exact trivial | refine ⟨rfl, ?_⟩ | refine ⟨Eq.trans rfl (congrArg Value.bool hmat.symm), ?_⟩)); (first | done | fail)), ?_, ⟨rfl, rfl⟩⟩
          · exact zE
        | false =>
          rw [show A3 = decide ((0 : Int) < (body.length : Int)) by rw [hA3, hn]; rfl]
          refine zO rfl Rd.mv ?_
          first | ((first | refine zW ?_ | refine zQ ?_); refine zO rfl (Rd.fA rfl) ?_) | refine zU ?_ | refine zV ?_ | refine zZ ?_
          first | ((first | refine zW ?_ | refine zQ ?_); refine zO rfl (Rd.ldC rfl (tyrow rfl) rfl) ?_) | refine zU ?_ | refine zV ?_ | refine zZ ?_
          first | ((first | refine zW ?_ | refine zQ ?_); refine zO rfl (Rd.lenSlice (tyrow rfl) rfl rfl) ?_) | refine zU ?_ | refine zV ?_ | refine zZ ?_
          first | ((first | refine zW ?_ | refine zQ ?_); refine zO rfl (Rd.gtr rfl rfl) ?_) | refine zU ?_ | refine zV ?_ | refine zZ ?_
          refine zO rfl (by first | exact Rd.pT rfl | exact Rd.pF rfl | exact Rd.pP rfl) ?_
          refine zO rfl Rd.mv ?_; refine zN ?_; refine zT ?_
          refine ⟨(Keep.upd (Keep.upd (Keep.upd (Keep.upd (Keep.upd (Keep.upd (Keep.upd (Keep.refl _ _) rfl) rfl) rfl) rfl) rfl) rfl) rfl), (), _, (by (repeat (first | exact trivial | refine ⟨rfl, ?_⟩ | refine ⟨Eq.trans rfl (congrArg Value.bool hmat.symm), ?_⟩)); (first | done | fail)), ?_, ⟨rfl, rfl⟩⟩
          · exact zE
      rintro - δ4 _ _ ⟨rfl, rfl⟩
      dsimp only [ovr, List.foldl]
      refine XOA.join (List.take_append_drop 11 _).symm [(62, 62), (74, 84)] (fun _ : Unit => [(62, ptr b), (84, .bool A4)]) (fun _ σ' Γ' => σ = σ' ∧ Γ' = [Look b (.slice p n c) bs E3, blk g7 cells 46]) ?_ ?_
      · rw [hcells]
        cases hB : A3 with
        | true =>
          rw [show A4 = true by rw [hA4, hB]; rfl]
          first | ((first | refine zW ?_ | refine zQ ?_); refine zO rfl (Rd.fA rfl) ?_) | refine zU ?_ | refine zV ?_ | refine zZ ?_
          first | ((first | refine zW ?_ | refine zQ ?_); refine zO rfl (Rd.ldC rfl (tyrow rfl) rfl) ?_) | refine zU ?_ | refine zV ?_ | refine zZ ?_
          first | refine zU ?_ | refine zV ?_ | refine zZ ?_
          first | ((first | refine zW ?_ | refine zQ ?_); refine zO rfl (by first | exact Rd.notp rfl | exact Rd.not rfl) ?_) | refine zU ?_ | refine zV ?_ | refine zZ ?_
          first | ((first | refine zW ?_ | refine zQ ?_); refine zO rfl Rd.mv ?_) | refine zU ?_ | refine zV ?_ | refine zZ ?_
          first | ((first | refine zW ?_ | refine zQ ?_); refine zO rfl (Rd.fA rfl) ?_) | refine zU ?_ | refine zV ?_ | refine zZ ?_
          first | ((first | refine zW ?_ | refine zQ ?_); refine zO rfl (Rd.ldC rfl (tyrow rfl) rfl) ?_) | refine zU ?_ | refine zV ?_ | refine zZ ?_
          first | ((first | refine zW ?_ | refine zQ ?_); refine zO rfl (Rd.lenSlice (tyrow rfl) rfl rfl) ?_) | refine zU ?_ | refine zV ?_ | refine zZ ?_
          first | ((first | refine zW ?_ | refine zQ ?_); refine zO rfl (Rd.gtr rfl rfl) ?_) | refine zU ?_ | refine zV ?_ | refine zZ ?_
          first | ((first | refine zW ?_ | refine zQ ?_); refine zO rfl (by first | exact Rd.pT rfl | exact Rd.pF rfl | exact Rd.pP rfl) ?_) | refine zU ?_ | refine zV ?_ | refine zZ ?_
          refine zO rfl (by first | exact Rd.pT rfl | exact Rd.pF rfl | exact Rd.pP rfl) ?_
          refine zN ?_; refine zT ?_
          refine ⟨(Keep.upd (Keep.upd (Keep.upd (Keep.upd (Keep.upd (Keep.upd (Keep.upd (Keep.upd (Keep.upd (Keep.upd (Keep.upd (Keep.refl _ _) rfl) rfl) rfl) rfl) rfl) rfl) rfl) rfl) rfl) rfl) rfl), (), _, (by (repeat (first | exact trivial | refine ⟨rfl, ?_⟩ | refine ⟨Eq.trans rfl (congrArg Value.bool hmat.symm), ?_⟩)); (first | done | fail)), ?_, ⟨rfl, rfl⟩⟩
          · exact zE
        | false =>
          rw [hB, Bool.false_or] at hA4
          first | ((first | refine zW ?_ | refine zQ ?_); refine zO rfl (Rd.fA rfl) ?_) | refine zU ?_ | refine zV ?_ | refine zZ ?_
          first | ((first | refine zW ?_ | refine zQ ?_); refine zO rfl (Rd.ldC rfl (tyrow rfl) rfl) ?_) | refine zU ?_ | refine zV ?_ | refine zZ ?_
          first | refine XOA.wanted rfl rfl ?_ | refine XOA.wq rfl rfl ?_
          refine XOA.wr0 rfl (WrA.cE (rneeded_a σ op 111) rfl) ?_
          rintro _ _ _ ⟨_, ⟨rfl, rfl, rfl⟩, rfl⟩
          refine XOA.cl ?_
          rw [nO]
          cases hn : qO with
          | true =>
            rw [show A4 = false by rw [hA4, hn]; rfl]
            first | ((first | refine zW ?_ | refine zQ ?_); refine zO rfl (by first | exact Rd.notp rfl | exact Rd.not rfl) ?_) | refine zU ?_ | refine zV ?_ | refine zZ ?_
            first | ((first | refine zW ?_ | refine zQ ?_); refine zO rfl Rd.mv ?_) | refine zU ?_ | refine zV ?_ | refine zZ ?_
            first | ((first | refine zW ?_ | refine zQ ?_); refine zO rfl (Rd.fA rfl) ?_) | refine zU ?_ | refine zV ?_ | refine zZ ?_
            first | ((first | refine zW ?_ | refine zQ ?_); refine zO rfl (Rd.ldC rfl (tyrow rfl) rfl) ?_) | refine zU ?_ | refine zV ?_ | refine zZ ?_
            first | ((first | refine zW ?_ | refine zQ ?_); refine zO rfl (Rd.lenSlice (tyrow rfl) rfl rfl) ?_) | refine zU ?_ | refine zV ?_ | refine zZ ?_
            first | ((first | refine zW ?_ | refine zQ ?_); refine zO rfl (Rd.gtr rfl rfl) ?_) | refine zU ?_ | refine zV ?_ | refine zZ ?_
            first | ((first | refine zW ?_ | refine zQ ?_); refine zO rfl (by first | exact Rd.pT rfl | exact Rd.pF rfl | exact Rd.pP rfl) ?_) | refine zU ?_ | refine zV ?_ | refine zZ ?_
            refine zO rfl (by first | exact Rd.pT rfl | exact Rd.pF rfl | exact Rd.pP rfl) ?_
            refine zN ?_; refine zT ?_
            refine ⟨(Keep.upd (Keep.upd (Keep.upd (Keep.upd (Keep.upd (Keep.upd (Keep.upd (Keep.upd (Keep.updO (Keep.upd (Keep.upd (Keep.refl _ _) rfl) rfl) rfl) rfl) rfl) rfl) rfl) rfl) rfl) rfl) rfl), (), _, (by (repeat (first | exact trivial | refine ⟨rfl, ?_⟩ | refine ⟨Eq.trans rfl (congrArg Value.bool hmat.symm), ?_⟩)); (first | done | fail)), ?_, ⟨rfl, rfl⟩⟩
            · exact zE
          | false =>
            rw [show A4 = decide ((0 : Int) < (els.length : Int)) by rw [hA4, hn]; rfl]
            first | ((first | refine zW ?_ | refine zQ ?_); refine zO rfl (by first | exact Rd.notp rfl | exact Rd.not rfl) ?_) | refine zU ?_ | refine zV ?_ | refine zZ ?_
            first | ((first | refine zW ?_ | refine zQ ?_); refine zO rfl Rd.mv ?_) | refine zU ?_ | refine zV ?_ | refine zZ ?_
            first | ((first | refine zW ?_ | refine zQ ?_); refine zO rfl (Rd.fA rfl) ?_) | refine zU ?_ | refine zV ?_ | refine zZ ?_
            first | ((first | refine zW ?_ | refine zQ ?_); refine zO rfl (Rd.ldC rfl (tyrow rfl) rfl) ?_) | refine zU ?_ | refine zV ?_ | refine zZ ?_
            first | ((first | refine zW ?_ | refine zQ ?_); refine zO rfl (Rd.lenSlice (tyrow rfl) rfl rfl) ?_) | refine zU ?_ | refine zV ?_ | refine zZ ?_
            first | ((first | refine zW ?_ | refine zQ ?_); refine zO rfl (Rd.gtr rfl rfl) ?_) | refine zU ?_ | refine zV ?_ | refine zZ ?_
            first | ((first | refine zW ?_ | refine zQ ?_); refine zO rfl (by first | exact Rd.pT rfl | exact Rd.pF rfl | exact Rd.pP rfl) ?_) | refine zU ?_ | refine zV ?_ | refine zZ ?_
            refine zO rfl (by first | exact Rd.pT rfl | exact Rd.pF rfl | exact Rd.pP rfl) ?_
            refine zN ?_; refine zT ?_
            refine ⟨(Keep.upd (Keep.upd (Keep.upd (Keep.upd (Keep.upd (Keep.upd (Keep.upd (Keep.upd (Keep.updO (Keep.upd (Keep.upd (Keep.refl _ _) rfl) rfl) rfl) rfl) rfl) rfl) rfl) rfl) rfl) rfl) rfl), (), _, (by (repeat (first | exact trivial | refine ⟨rfl, ?_⟩ | refine ⟨Eq.trans rfl (congrArg Value.bool hmat.symm), ?_⟩)); (first | done | fail)), ?_, ⟨rfl, rfl⟩⟩
            · exact zE
      rintro - δ5 _ _ ⟨rfl, rfl⟩
      dsimp only [ovr, List.foldl]
      rw [hcells]
      refine XOA.wr0 rfl (WrA.cE (bad_a σ b _ bs E3 A4 5 (by decide)) rfl) ?_
      rintro _ _ _ ⟨_, ⟨rfl, rfl, rfl⟩, rfl⟩
      refine XOA.cl ?_
      refine zN ?_; refine zT ?_; refine zS ?_
      rw [show JE.fail E3 A4 5 = JE.fail E2 (stForm op ex fx body.length els.length) 5 by rw [hE3, hform]]
      obtain ⟨H, hH⟩ : ∃ H, H = stHead n deep op v ex fx body.length els.length (.ok a) := ⟨_, rfl⟩
      have hHi : H.in_ := by rw [hH]; exact in_of (Down.stHead n op v ex fx body.length els.length) hin2 deep
      have hHn : JE.named (JE.fail E2 (stForm op ex fx body.length els.length) 5) n v qV = H := by rw [hH, stHead, hE2, hE1, hqV]
      obtain ⟨H1, hH1⟩ : ∃ H1, H1 = if qE = true then exE n (deep + 1) ex H else H := ⟨_, rfl⟩
      have hH1i : H1.in_ := by
        rw [hH1]; split
        · exact in_of (Down.exE n ex) hHi (deep + 1)
        · exact hHi
      obtain ⟨H2, hH2⟩ : ∃ H2, H2 = if qF = true then exE n (deep + 1) fx H1 else H1 := ⟨_, rfl⟩
      have hH2i : H2.in_ := by
        rw [hH2]; split
        · exact in_of (Down.exE n fx) hH1i (deep + 1)
        · exact hH1i
      have hend : stE n deep (.mk op v ex fx body els) (.ok a) = stsE n (deep + 1) els (stsE n (deep + 1) body H2) := by
        rw [stE, stEF, ← hqE, ← hqF, ← hH, ← hH1, ← hH2]
      have hdd : H2.isOk = true → deep ≤ 12 := fun h => by
        apply one_ok (e := .ok a)
        cases h1 : JE.one (.ok a) deep with
        | ok _ => rfl
        | error c' =>
          exfalso
          have e0 : H = .error c' := by rw [hH, stHead, h1, fail_err, fail_err, named_err]
          have e2 : H2 = .error c' := by rw [hH2, hH1, e0]; simp
          rw [e2] at h; cases h
      have hdd2 : (stsE n (deep + 1) body H2).isOk = true → deep ≤ 12 := fun h => hdd (by
        cases h2 : H2 with
        | ok _ => rfl
        | error c' => rw [h2, stsE_err] at h; cases h)
      clear hform hA1 hA2 hA3 hA4 hE1 hE3 hne hnf hH
      refine XA.draw (by kernel_rfl) _ _ [6] [(0, .pu), (1, .pu), (2, .rd), (3, .pu), (4, .rd), (5, .wr), (6, .wr)] (by kernel_rfl) (PH.sub.refl _) (Ent.sel (R := blk g7 _ _) (by ((repeat (first | with_reducible exact Sel.head | apply Sel.tail)); (first | done | fail))) (Ent.nil _)) ?_
      refine XPA.pu rfl rfl Gd.free Rd.mv ?_
      refine XPA.pu rfl rfl Gd.free (Rd.fA rfl) ?_
      refine XPA.rd rfl rfl Gd.free (Rd.ldC rfl (tyrow rfl) rfl) ?_
      refine XPA.pu rfl rfl Gd.free (Rd.fA rfl) ?_
      refine XPA.rd rfl rfl Gd.free (Rd.ldC rfl (tyrow rfl) rfl) ?_
      refine XPA.wr0 rfl rfl Gd.free (WrA.cE (rneeded_a σ op 118) rfl) ?_
      rintro _ _ _ ⟨_, ⟨rfl, rfl, rfl⟩, rfl⟩
      refine stays (XPA.cl ?_)
      rw [nV]
      refine XPA.wrZ0 rfl rfl Gd.free (by kernel_rfl) (WrA.cE (variable_a σ b p n c bs _ v qV) rfl) ?_
      rintro _ _ _ ⟨_, ⟨rfl, rfl, rfl⟩, rfl⟩
      refine XPA.cl ?_
      rw [hHn]
      refine XPA.nil ?_
      refine zT ?_; refine zS ?_; refine zS ?_; refine zR ?_; refine zO rfl (Rd.fA rfl) ?_; refine zO rfl (Rd.ldC rfl (tyrow rfl) rfl) ?_
      refine XOA.wr0 rfl (WrA.cE (rneeded_a σ op 101) rfl) ?_
      rintro _ _ _ ⟨_, ⟨rfl, rfl, rfl⟩, rfl⟩
      refine XOA.cl ?_
      rw [nE, ← hcells]
      refine zN ?_; refine zT ?_
      refine XA.join [(96, 101)] (fun _ : Unit => []) (fun _ σ' Γ' => σ = σ' ∧ Γ' = [Look b (.slice p n c) bs H1, blk g7 cells 46]) ?_ ?_
      · rw [hcells]
        refine XA.cond rfl (fun hq => ?_) (fun hq => ?_)
        · rw [show H1 = exE n (deep + 1) ex H by rw [hH1, if_pos hq]]
          refine zR ?_; refine zO rfl Rd.mv ?_; refine zO rfl (Rd.fA rfl) ?_; refine zO rfl (Rd.ldA rfl) ?_; refine zO rfl Rd.mv ?_
          refine zO rfl (by first | exact Rd.adi rfl rfl | exact Rd.add rfl rfl) ?_
          refine XOA.wr0 rfl (WrA.cE (rexpr_a σ ex _ b p n c bs H (deep + 1) hxe hHi (by omega) (by omega)) rfl) ?_
          rintro _ _ _ ⟨_, ⟨rfl, rfl, rfl⟩, rfl⟩
          refine XOA.cl ?_
          refine zN ?_; refine zT ?_
          refine ⟨(Keep.updO (Keep.upd (Keep.upd (Keep.upd (Keep.upd (Keep.upd (Keep.refl _ _) rfl) rfl) rfl) rfl) rfl) rfl), (), _, (by (repeat (first | exact trivial | refine ⟨rfl, ?_⟩ | refine ⟨Eq.trans rfl (congrArg Value.bool hmat.symm), ?_⟩)); (first | done | fail)), ?_, ⟨rfl, rfl⟩⟩
          · exact zE
        · rw [show H1 = H by rw [hH1, if_neg (by rw [hq]; decide)]]
          refine XA.skip ?_
          refine zT ?_
          refine ⟨(Keep.refl _ _), (), _, (by (repeat (first | exact trivial | refine ⟨rfl, ?_⟩ | refine ⟨Eq.trans rfl (congrArg Value.bool hmat.symm), ?_⟩)); (first | done | fail)), ?_, ⟨rfl, rfl⟩⟩
          · exact zE
      rintro - δ6 _ _ ⟨rfl, rfl⟩
      dsimp only [ovr, List.foldl]
      refine zT ?_
      rw [hcells]
      refine zS ?_; refine zS ?_; refine zR ?_; refine zO rfl (Rd.fA rfl) ?_; refine zO rfl (Rd.ldC rfl (tyrow rfl) rfl) ?_
      refine XOA.wr0 rfl (WrA.cE (rneeded_a σ op 102) rfl) ?_
      rintro _ _ _ ⟨_, ⟨rfl, rfl, rfl⟩, rfl⟩
      refine XOA.cl ?_
      rw [nF, ← hcells]
      refine zN ?_; refine zT ?_
      refine XA.join [(105, 110)] (fun _ : Unit => []) (fun _ σ' Γ' => σ = σ' ∧ Γ' = [Look b (.slice p n c) bs H2, blk g7 cells 46]) ?_ ?_
      · rw [hcells]
        refine XA.cond rfl (fun hq => ?_) (fun hq => ?_)
        · rw [show H2 = exE n (deep + 1) fx H1 by rw [hH2, if_pos hq]]
          refine zR ?_; refine zO rfl Rd.mv ?_; refine zO rfl (Rd.fA rfl) ?_; refine zO rfl (Rd.ldA rfl) ?_; refine zO rfl Rd.mv ?_
          refine zO rfl (by first | exact Rd.adi rfl rfl | exact Rd.add rfl rfl) ?_
          refine XOA.wr0 rfl (WrA.cE (rexpr_a σ fx _ b p n c bs H1 (deep + 1) hxf hH1i (by omega) (by omega)) rfl) ?_
          rintro _ _ _ ⟨_, ⟨rfl, rfl, rfl⟩, rfl⟩
          refine XOA.cl ?_
          refine zN ?_; refine zT ?_
          refine ⟨(Keep.updO (Keep.upd (Keep.upd (Keep.upd (Keep.upd (Keep.upd (Keep.refl _ _) rfl) rfl) rfl) rfl) rfl) rfl), (), _, (by (repeat (first | exact trivial | refine ⟨rfl, ?_⟩ | refine ⟨Eq.trans rfl (congrArg Value.bool hmat.symm), ?_⟩)); (first | done | fail)), ?_, ⟨rfl, rfl⟩⟩
          · exact zE
        · rw [show H2 = H1 by rw [hH2, if_neg (by rw [hq]; decide)]]
          refine XA.skip ?_
          refine zT ?_
          refine ⟨(Keep.refl _ _), (), _, (by (repeat (first | exact trivial | refine ⟨rfl, ?_⟩ | refine ⟨Eq.trans rfl (congrArg Value.bool hmat.symm), ?_⟩)); (first | done | fail)), ?_, ⟨rfl, rfl⟩⟩
          · exact zE
      rintro - δ7 _ _ ⟨rfl, rfl⟩
      dsimp only [ovr, List.foldl]
      refine zT ?_
      rw [hcells]
      refine zS ?_; refine zR ?_; refine zO rfl Rd.mv ?_; refine zO rfl (Rd.fA rfl) ?_; refine zO rfl (Rd.ldC rfl (tyrow rfl) rfl) ?_; refine zO rfl Rd.mv ?_
      refine zO rfl (by first | exact Rd.adi rfl rfl | exact Rd.add rfl rfl) ?_
      refine XOA.wr0 rfl (WrA.cE (ihb _ b p n c bs H2 (deep + 1) hxb hH2i (by omega) ⟨by omega, fun h => by have := hdd h; omega⟩) rfl) ?_
      rintro _ _ _ ⟨_, ⟨rfl, rfl, rfl⟩, rfl⟩
      refine XOA.cl ?_
      refine zN ?_; refine zT ?_; refine zR ?_; refine zO rfl Rd.mv ?_; refine zO rfl (Rd.fA rfl) ?_; refine zO rfl (Rd.ldC rfl (tyrow rfl) rfl) ?_; refine zO rfl Rd.mv ?_
      refine zO rfl (by first | exact Rd.adi rfl rfl | exact Rd.add rfl rfl) ?_
      refine XOA.wr0 rfl (WrA.cE (ihe _ b p n c bs _ (deep + 1) hxl (in_of (Down.stsE n body) hH2i (deep + 1)) (by omega) ⟨by omega, fun h => by have := hdd2 h; omega⟩) rfl) ?_
      rintro _ _ _ ⟨_, ⟨rfl, rfl, rfl⟩, rfl⟩
      refine XOA.cl ?_
      refine zN ?_
      refine DA.inb_normal ?_
      refine zT ?_; refine zR ?_; refine zO rfl Rd.mv ?_
      refine zO rfl (by first | exact Rd.adi rfl rfl | exact Rd.add rfl rfl) ?_
      refine zO rfl Rd.asg ?_; refine zN ?_; refine zT ?_
      refine ⟨(Keep.upd (Keep.upd (Keep.upd (Keep.updO (Keep.upd (Keep.upd (Keep.upd (Keep.upd (Keep.upd (Keep.updO (Keep.upd (Keep.upd (Keep.upd (Keep.upd (Keep.upd (Keep.hav (Keep.updO (Keep.upd (Keep.upd (Keep.hav (Keep.updO (Keep.upd (Keep.upd (Keep.updO (Keep.updO (Keep.upd (Keep.upd (Keep.upd (Keep.upd (Keep.upd (Keep.updO (Keep.upd (Keep.upd (Keep.hav (Keep.hav (Keep.upd (Keep.upd (Keep.hav (Keep.hav (Keep.upd (Keep.updO (Keep.upd (Keep.upd (Keep.upd (Keep.updO (Keep.upd (Keep.upd (Keep.hav (Keep.hav (Keep.upd (Keep.upd (Keep.hav (Keep.hav (Keep.upd (Keep.updO (Keep.upd (Keep.upd (Keep.upd (Keep.updO (Keep.upd (Keep.upd (Keep.hav (Keep.hav (Keep.upd (Keep.upd (Keep.upd (Keep.updO (Keep.upd (Keep.upd (Keep.updN (Keep.updO (Keep.upd (Keep.upd (Keep.upd (Keep.upd (Keep.upd (Keep.upd (Keep.upd (Keep.upd (Keep.upd (Keep.upd (Keep.upd (Keep.upd (Keep.upd (Keep.upd (Keep.upd (Keep.upd (Keep.hav (Keep.refl _ _) rfl) rfl) rfl) rfl) rfl) rfl) rfl) rfl) rfl) rfl) rfl) rfl) rfl) rfl) rfl) rfl) rfl) rfl)) rfl) rfl) rfl) rfl) rfl) rfl) rfl) rfl) rfl) rfl) rfl) rfl) rfl) rfl) rfl) rfl) rfl) rfl) rfl) rfl) rfl) rfl) rfl) rfl) rfl) rfl) rfl) rfl) rfl) rfl) rfl) rfl) rfl) rfl) rfl) rfl) rfl) rfl) rfl) rfl) rfl) rfl) rfl) rfl) rfl) rfl) rfl) rfl) rfl) rfl) rfl) rfl) rfl) rfl) rfl) rfl) rfl) rfl) rfl) rfl) rfl) rfl) rfl) rfl) rfl) rfl) rfl) rfl) rfl), q + 1, _, (by (repeat (first | exact trivial | refine ⟨rfl, ?_⟩ | refine ⟨Eq.trans rfl (congrArg Value.bool hmat.symm), ?_⟩)); (first | done | fail)), ?_, ⟨rfl, hlt, by rw [e1, hend]⟩, (by omega)⟩
      · exact zE
  · 
    have hqn : q = l.length := by omega
    subst hqn
    rw [List.take_length]
    refine zS ?_; refine zS ?_; refine zR ?_; refine zO rfl Rd.mv ?_; refine zO rfl Rd.mv ?_; refine zO rfl (Rd.lenSlice (tyrow rfl) rfl rfl) ?_; refine zO rfl (Rd.lss rfl rfl) ?_; refine zO rfl Rd.mv ?_
    first | ((first | refine zW ?_ | refine zQ ?_); refine zO rfl Rd.mv ?_) | refine zU ?_ | refine zV ?_ | refine zZ ?_
    first | ((first | refine zW ?_ | refine zQ ?_); refine zO rfl (Rd.nilCheck rfl) ?_) | refine zU ?_ | refine zV ?_ | refine zZ ?_
    first | ((first | refine zW ?_ | refine zQ ?_); refine zO rfl (Rd.fA rfl) ?_) | refine zU ?_ | refine zV ?_ | refine zZ ?_
    first | ((first | refine zW ?_ | refine zQ ?_); refine zO rfl (Rd.ldC rfl (tyrow rfl) rfl) ?_) | refine zU ?_ | refine zV ?_ | refine zZ ?_
    first | ((first | refine zW ?_ | refine zQ ?_); refine zO rfl (Rd.eql rfl rfl) ?_) | refine zU ?_ | refine zV ?_ | refine zZ ?_
    refine zO rfl (by first | exact Rd.pT rfl | exact Rd.pF rfl | exact Rd.pP rfl) ?_
    refine zN ?_; refine zT ?_
    refine XA.condF rfl (by first | rfl | exact (by first | exact (rfl : decide _ = true) | exact (rfl : decide _ = false) | (refine decide_eq_true ?_; assumption) | (refine decide_eq_false ?_; assumption) | (refine decide_eq_true ?_; omega) | (refine decide_eq_false ?_; omega))) ?_
    refine XA.exit ?_
    refine DA.thn_exit ?_
    refine DA.thn_exit ?_
    refine DA.inb_same ?_
    exact bodyA.normal (ResA.none rfl) zE ⟨rfl, rfl, rfl⟩
theorem rst_x (σ : PH) (x : St) : RStmtsOK σ x.body ∧ RStmtsOK σ x.els := by
  refine St.ind (P := fun x => RStmtsOK σ x.body ∧ RStmtsOK σ x.els) ?_ x
  intro op v e f body els ih jh
  exact ⟨rstmts_l σ body ih, rstmts_l σ els jh⟩
theorem rstmts_a (σ : PH) (l : List St) : RStmtsOK σ l := rstmts_l σ l (fun x _ => rst_x σ x)
end Go.Proofs.Ytbbghdkndbpmmaa

namespace Go.Proofs.Ytbbghdkndbpmmaa
open Go X
set_option maxHeartbeats 1000000
theorem fault_a (σ : PH) (cs : List Value) (p : Pr) (hp : PrAt σ cs p) : CallsA Try.prog 19 #[.agg cs.toArray] σ [] (RetA fun v σ' Γ' => v = i64 (checkP p) ∧ σ = σ' ∧ Γ' = []) := by
  obtain ⟨vs, bs, rfl, hv, hb⟩ := hp
  obtain ⟨pv, cv, rfl, hvl, hvm⟩ := hv.shape
  obtain ⟨pb, cb, rfl, hbl, hbm⟩ := hb.shape
  obtain ⟨l, body⟩ := p
  simp only at hv hb hvl hbl ⊢
  have hlen : l.length ≤ maxLen := by omega
  simp only [maxLen] at hlen
  refine enterA1 Try.func19 rfl rfl rfl ?_
  refine zS ?_; refine zR ?_
  refine XOA.wr0 rfl WrA.bx ?_
  rintro _ _ _ ⟨g1, rfl, rfl, rfl⟩
  refine zO rfl Rd.asg ?_; refine zN ?_; refine zT ?_; refine zS ?_; refine zS ?_; refine zR ?_; refine zO rfl (Rd.fA rfl) ?_; refine zO rfl (Rd.ldC rfl (tyrow rfl) rfl) ?_; refine zO rfl (Rd.lenSlice (tyrow rfl) rfl rfl) ?_
  refine zO rfl (Rd.gtr rfl rfl) ?_
  refine zN ?_; refine zT ?_
  refine XA.condp rfl (fun h8 => ?_) (fun h8 => ?_)
  · refine zS ?_
    refine zR ?_; refine zO rfl Rd.asg ?_; refine zN ?_; refine zT ?_
    refine XA.ret ?_
    refine DA.thn_ret ?_
    have hr : checkP ⟨l, body⟩ = 3 := by
      have : checkVars l = 3 := by rw [checkVars, if_pos (by omega)]
      rw [checkP, this, if_pos (by decide)]
    exact bodyA.ret (ResA.one rfl rfl) zE ⟨by rw [hr], rfl, rfl⟩
  have hcv : checkVars l = varsGo [] 0 l := by rw [checkVars, if_neg (by omega)]
  have hcp : ∀ c, varsGo [] 0 l = c → c ≠ 0 → checkP ⟨l, body⟩ = c := fun c h1 h2 => by rw [checkP, if_pos (by rw [hcv, h1]; exact h2), hcv, h1]
  refine XA.skip ?_
  refine zT ?_; refine zS ?_; refine zR ?_; refine zO rfl Rd.asg ?_; refine zN ?_; refine zT ?_; refine zS ?_; refine zS ?_; refine zR ?_; refine zO rfl Rd.asg ?_; refine zN ?_; refine zT ?_
  refine XA.block ?_
  refine XA.gen [(1, _), (2, _), (3, _), (4, _)] ⟨(by with_reducible (conv => lhs; whnf)), (by with_reducible (conv => lhs; whnf)), (by with_reducible (conv => lhs; whnf)), (by with_reducible (conv => lhs; whnf)), trivial⟩ (fun δ => ?_)
  dsimp only [List.foldl]
  refine XA.loop [(2, 6), (12, 60)] (fun q : Nat × Int => [(4, i64 q.1), (3, i64 q.2)]) (fun q σ' Γ' => σ = σ' ∧ q.1 ≤ l.length ∧ (0 ≤ q.2 ∧ q.2 ≤ 48 ∧ varsGo (l.take q.1) q.2 (l.drop q.1) = varsGo [] 0 l) ∧ Γ' = [blk g1 [.slice pv l.length cv, .slice pb body.length cb] 25]) (fun q => l.length - q.1) (0, 0) (by exact ⟨rfl, rfl, trivial⟩) (Δ0 := _) ?_ (⟨rfl, Nat.zero_le _, ⟨Int.le_refl _, (by decide), rfl⟩, rfl⟩) ?_
  · exact zE
  rintro ⟨k, n⟩ δ _ _ ⟨rfl, hk, ⟨hn0, hn1, hgo⟩, rfl⟩
  dsimp only [ovr, List.foldl]
  have hk : k ≤ l.length := hk
  have hn0 : 0 ≤ n := hn0
  have hn1 : n ≤ 48 := hn1
  have hgo : varsGo (l.take k) n (l.drop k) = varsGo [] 0 l := hgo
  refine zS ?_; refine zS ?_; refine zR ?_; refine zO rfl Rd.mv ?_; refine zO rfl (Rd.fA rfl) ?_; refine zO rfl (Rd.ldC rfl (tyrow rfl) rfl) ?_; refine zO rfl (Rd.lenSlice (tyrow rfl) rfl rfl) ?_; refine zO rfl (Rd.lss rfl rfl) ?_; refine zN ?_; refine zT ?_
  refine XA.condp rfl (fun hlt => ?_) (fun hlt => ?_)
  · have hlt : k < l.length := by omega
    obtain ⟨x, hx⟩ : ∃ x, l[k]? = some x := ⟨_, List.getElem?_eq_getElem hlt⟩
    obtain ⟨gg, o, row, rfl, ⟨rfl, ⟨hz0, hz1⟩, hnm⟩, hrl, hrow⟩ := hv.at hx
    rw [drop_get hx, varsGo] at hgo
    refine XA.skip ?_
    refine zT ?_; refine zS ?_
    refine XA.block ?_
    refine zS ?_; refine zR ?_; refine zO rfl (Rd.fA rfl) ?_; refine zO rfl (Rd.ldC rfl (tyrow rfl) rfl) ?_; refine zO rfl Rd.mv ?_
    refine zO rfl (Rd.ixS rfl rfl) ?_
    refine zO rfl (Rd.ldA rfl) ?_
    refine XOA.wr0 rfl (WrA.alloc (tyrow rfl)) ?_
    rintro _ _ _ ⟨g5, rfl, rfl, rfl⟩
    refine XOA.wr0 rfl (WrA.st (tyrow rfl) rfl) ?_
    rintro _ _ _ ⟨rfl, rfl, rfl⟩
    refine zN ?_; refine zT ?_; refine zS ?_; refine zS ?_; refine zR ?_; refine zO rfl (Rd.fA rfl) ?_; refine zO rfl (Rd.ldC rfl (tyrow rfl) rfl) ?_
    refine XOA.wr0 rfl (WrA.cE (rname_a σ x.name hnm) rfl) ?_
    rintro _ _ _ ⟨_, ⟨rfl, rfl, rfl⟩, rfl⟩
    refine XOA.cl ?_
    cases hnk : nameOk x.name with
    | false =>
      rw [if_pos hnk] at hgo
      rw [hcp 8 hgo.symm (by decide)]
      refine zO rfl (by first | exact Rd.notp rfl | exact Rd.not rfl) ?_
      refine zN ?_; refine zT ?_
      refine XA.condT rfl rfl ?_
      refine zS ?_; refine zR ?_; refine zO rfl Rd.asg ?_; refine zN ?_; refine zT ?_
      refine XA.ret ?_
      refine DA.thn_ret ?_
      refine DA.inb_ret ?_
      refine DA.thn_ret ?_
      refine DA.thn_ret ?_
      refine DA.inb_ret ?_
      refine DA.thn_ret ?_
      exact bodyA.ret (ResA.one rfl rfl) zE ⟨rfl, rfl, rfl⟩
    | true =>
      rw [if_neg (by simp [hnk])] at hgo
      refine zO rfl (by first | exact Rd.notp rfl | exact Rd.not rfl) ?_
      refine zN ?_; refine zT ?_
      refine XA.condF rfl rfl ?_
      refine XA.skip ?_
      refine zT ?_; refine zS ?_; refine zS ?_; refine zR ?_; refine zO rfl Rd.asg ?_; refine zN ?_; refine zT ?_
      refine XA.block ?_
      refine XA.loop [(2, 2), (6, 6), (28, 41)] (fun j : Nat => [(6, i64 j)]) (fun j σ' Γ' => σ = σ' ∧ j ≤ k ∧ (∀ (i : Nat) w, i < j → l[i]? = some w → w.name ≠ x.name) ∧ Γ' = [blk g5 [.string x.name, i64 x.size] 37, blk g1 [.slice (some ⟨gg, o, none⟩) l.length cv, .slice pb body.length cb] 25]) (fun j => k - j) 0 (by exact ⟨rfl, trivial⟩) (Δ0 := _) ?_ (⟨rfl, Nat.zero_le _, fun i w h => absurd h (Nat.not_lt_zero _), rfl⟩) ?_
      · exact zE
      rintro j δ2 _ _ ⟨rfl, hj, hall, rfl⟩
      dsimp only [ovr, List.foldl]
      refine zS ?_; refine zS ?_; refine zR ?_; refine zO rfl Rd.mv ?_; refine zO rfl Rd.mv ?_; refine zO rfl (Rd.lss rfl rfl) ?_; refine zN ?_; refine zT ?_
      refine XA.condp rfl (fun hjk => ?_) (fun hjk => ?_)
      · have hjk : j < k := by omega
        obtain ⟨y, hy⟩ : ∃ y, l[j]? = some y := ⟨_, List.getElem?_eq_getElem (by omega)⟩
        obtain ⟨gg', o', row', hgo', ⟨rfl, -, -⟩, hrl', hrow'⟩ := hv.at hy
        simp only [Option.some.injEq, Addr.mk.injEq, and_true] at hgo'
        obtain ⟨rfl, rfl⟩ := hgo'
        have r0 : PRow σ gg (o + j * 2) [.string y.name] := hrow'.sub (j := 0) rfl
        refine XA.skip ?_
        refine zT ?_; refine zS ?_
        refine XA.block ?_
        refine zS ?_
        refine XA.draw (by kernel_rfl) _ _ [] [(0, .pu), (1, .rd), (2, .pu), (3, .pu), (4, .pu), (5, .rd), (6, .pu), (7, .rd), (8, .pu)] (by kernel_rfl) (PH.sub.refl _) (Ent.sel (R := blk g1 _ _) (by ((repeat (first | with_reducible exact Sel.head | apply Sel.tail)); (first | done | fail))) (Ent.sel (R := blk g5 _ _) (by ((repeat (first | with_reducible exact Sel.head | apply Sel.tail)); (first | done | fail))) (Ent.nil _))) ?_
        refine XPA.pu rfl rfl Gd.free (Rd.fA rfl) ?_
        refine XPA.rd rfl rfl Gd.free (Rd.ldC rfl (tyrow rfl) rfl) ?_
        refine XPA.pu rfl rfl Gd.free Rd.mv ?_
        refine XPA.pu rfl rfl Gd.free (Rd.ixS rfl rfl) ?_
        refine XPA.pu rfl rfl Gd.free (Rd.fA rfl) ?_
        refine XPA.rd rfl rfl Gd.free (Rd.ldC rfl (tyrow rfl) rfl) ?_
        refine XPA.pu rfl rfl Gd.free (Rd.fA rfl) ?_
        refine XPA.rd rfl rfl Gd.free (Rd.ldC rfl (tyrow rfl) rfl) ?_
        refine XPA.pu rfl rfl Gd.free (Rd.eqls rfl rfl) ?_
        refine XPA.nil ?_
        refine zT ?_
        refine XA.condp rfl (fun he => ?_) (fun he => ?_)
        · have hex : ∃ w ∈ l.take k, w.name = x.name := ⟨y, List.mem_iff_getElem?.2 ⟨j, by rw [List.getElem?_take, if_pos hjk]; exact hy⟩, he⟩
          rw [if_pos hex] at hgo
          rw [hcp 9 hgo.symm (by decide)]
          refine zS ?_; refine zR ?_; refine zO rfl Rd.asg ?_; refine zN ?_; refine zT ?_
          refine XA.ret ?_
          refine DA.inb_ret ?_
          refine DA.thn_ret ?_
          refine DA.thn_ret ?_
          refine DA.inb_ret ?_
          refine DA.thn_ret ?_
          refine DA.inb_ret ?_
          refine DA.thn_ret ?_
          refine DA.thn_ret ?_
          refine DA.inb_ret ?_
          refine DA.thn_ret ?_
          exact bodyA.ret (ResA.one rfl rfl) zE ⟨rfl, rfl, rfl⟩
        have hnew : ∀ (i : Nat) w, i < j + 1 → l[i]? = some w → w.name ≠ x.name := fun i w hi hw => by
          rcases Nat.lt_or_ge i j with h | h
          · exact hall i w h hw
          · have : i = j := by omega
            subst this
            rw [hy] at hw; simp only [Option.some.injEq] at hw; subst hw; exact he
        refine XA.skip ?_
        refine DA.inb_normal ?_
        refine zT ?_; refine zR ?_; refine zO rfl Rd.mv ?_
        refine zO rfl (by first | exact Rd.adi rfl rfl | exact Rd.add rfl rfl) ?_
        refine zO rfl Rd.asg ?_; refine zN ?_; refine zT ?_
        refine ⟨(Keep.upd (Keep.upd (Keep.upd (Keep.upd (Keep.upd (Keep.upd (Keep.upd (Keep.upd (Keep.upd (Keep.upd (Keep.upd (Keep.upd (Keep.upd (Keep.upd (Keep.upd (Keep.upd (Keep.hav (Keep.hav (Keep.hav (Keep.refl _ _) rfl) rfl) rfl) rfl) rfl) rfl) rfl) rfl) rfl) rfl) rfl) rfl) rfl) rfl) rfl) rfl) rfl) rfl) rfl), j + 1, _, (by (repeat (first | exact trivial | refine ⟨rfl, ?_⟩ | refine ⟨Eq.trans rfl (congrArg Value.bool hmat.symm), ?_⟩)); (first | done | fail)), ?_, ⟨rfl, hjk, hnew, rfl⟩, (by omega)⟩
        · exact zE
      have hjk2 : j = k := by omega
      subst hjk2
      have hnex : ¬ ∃ w ∈ l.take j, w.name = x.name := fun ⟨w, hw, e⟩ => by
        obtain ⟨i, hi⟩ := List.mem_iff_getElem?.1 hw
        rw [List.getElem?_take] at hi
        split at hi
        · exact hall i w (by assumption) hi e
        · cases hi
      rw [if_neg hnex] at hgo
      by_cases hz : x.size < 1
      · rw [if_pos (.inl hz)] at hgo
        rw [hcp 1 hgo.symm (by decide)]
        refine XA.exit ?_
        refine DA.thn_exit ?_
        refine DA.thn_exit ?_
        refine DA.inb_same ?_
        refine zT ?_; refine zS ?_; refine zS ?_; refine zR ?_; refine zO rfl (Rd.fA rfl) ?_; refine zO rfl (Rd.ldC rfl (tyrow rfl) rfl) ?_; refine zO rfl (Rd.lss rfl rfl) ?_; refine zO rfl Rd.mv ?_
        first | ((first | refine zW ?_ | refine zQ ?_); refine zO rfl (Rd.fA rfl) ?_) | refine zU ?_ | refine zV ?_ | refine zZ ?_
        first | ((first | refine zW ?_ | refine zQ ?_); refine zO rfl (Rd.ldC rfl (tyrow rfl) rfl) ?_) | refine zU ?_ | refine zV ?_ | refine zZ ?_
        first | ((first | refine zW ?_ | refine zQ ?_); refine zO rfl (Rd.gtr rfl rfl) ?_) | refine zU ?_ | refine zV ?_ | refine zZ ?_
        refine zO rfl (by first | exact Rd.pT rfl | exact Rd.pF rfl | exact Rd.pP rfl) ?_
        refine zO rfl Rd.mv ?_
        first | ((first | refine zW ?_ | refine zQ ?_); refine zO rfl Rd.mv ?_) | refine zU ?_ | refine zV ?_ | refine zZ ?_
        first | ((first | refine zW ?_ | refine zQ ?_); refine zO rfl (Rd.fA rfl) ?_) | refine zU ?_ | refine zV ?_ | refine zZ ?_
        first | ((first | refine zW ?_ | refine zQ ?_); refine zO rfl (Rd.ldC rfl (tyrow rfl) rfl) ?_) | refine zU ?_ | refine zV ?_ | refine zZ ?_
        first | ((first | refine zW ?_ | refine zQ ?_); refine zO rfl (by first | exact Rd.adi rfl rfl | exact Rd.add rfl rfl) ?_) | refine zU ?_ | refine zV ?_ | refine zZ ?_
        first | ((first | refine zW ?_ | refine zQ ?_); refine zO rfl (Rd.gtr rfl rfl) ?_) | refine zU ?_ | refine zV ?_ | refine zZ ?_
        refine zO rfl (by first | exact Rd.pT rfl | exact Rd.pF rfl | exact Rd.pP rfl) ?_
        refine zN ?_; refine zT ?_
        refine XA.condT rfl rfl ?_
        refine zS ?_; refine zR ?_; refine zO rfl Rd.asg ?_; refine zN ?_; refine zT ?_
        refine XA.ret ?_
        refine DA.thn_ret ?_
        refine DA.inb_ret ?_
        refine DA.thn_ret ?_
        refine DA.thn_ret ?_
        refine DA.inb_ret ?_
        refine DA.thn_ret ?_
        exact bodyA.ret (ResA.one rfl rfl) zE ⟨rfl, rfl, rfl⟩
      by_cases hz3 : 48 < x.size
      · rw [if_pos (.inr (by omega))] at hgo
        rw [hcp 1 hgo.symm (by decide)]
        refine XA.exit ?_
        refine DA.thn_exit ?_
        refine DA.thn_exit ?_
        refine DA.inb_same ?_
        refine zT ?_; refine zS ?_; refine zS ?_; refine zR ?_; refine zO rfl (Rd.fA rfl) ?_; refine zO rfl (Rd.ldC rfl (tyrow rfl) rfl) ?_; refine zO rfl (Rd.lss rfl rfl) ?_; refine zO rfl Rd.mv ?_
        first | ((first | refine zW ?_ | refine zQ ?_); refine zO rfl (Rd.fA rfl) ?_) | refine zU ?_ | refine zV ?_ | refine zZ ?_
        first | ((first | refine zW ?_ | refine zQ ?_); refine zO rfl (Rd.ldC rfl (tyrow rfl) rfl) ?_) | refine zU ?_ | refine zV ?_ | refine zZ ?_
        first | ((first | refine zW ?_ | refine zQ ?_); refine zO rfl (Rd.gtr rfl rfl) ?_) | refine zU ?_ | refine zV ?_ | refine zZ ?_
        refine zO rfl (by first | exact Rd.pT rfl | exact Rd.pF rfl | exact Rd.pP rfl) ?_
        refine zO rfl Rd.mv ?_
        first | ((first | refine zW ?_ | refine zQ ?_); refine zO rfl Rd.mv ?_) | refine zU ?_ | refine zV ?_ | refine zZ ?_
        first | ((first | refine zW ?_ | refine zQ ?_); refine zO rfl (Rd.fA rfl) ?_) | refine zU ?_ | refine zV ?_ | refine zZ ?_
        first | ((first | refine zW ?_ | refine zQ ?_); refine zO rfl (Rd.ldC rfl (tyrow rfl) rfl) ?_) | refine zU ?_ | refine zV ?_ | refine zZ ?_
        first | ((first | refine zW ?_ | refine zQ ?_); refine zO rfl (by first | exact Rd.adi rfl rfl | exact Rd.add rfl rfl) ?_) | refine zU ?_ | refine zV ?_ | refine zZ ?_
        first | ((first | refine zW ?_ | refine zQ ?_); refine zO rfl (Rd.gtr rfl rfl) ?_) | refine zU ?_ | refine zV ?_ | refine zZ ?_
        refine zO rfl (by first | exact Rd.pT rfl | exact Rd.pF rfl | exact Rd.pP rfl) ?_
        refine zN ?_; refine zT ?_
        refine XA.condT rfl rfl ?_
        refine zS ?_; refine zR ?_; refine zO rfl Rd.asg ?_; refine zN ?_; refine zT ?_
        refine XA.ret ?_
        refine DA.thn_ret ?_
        refine DA.inb_ret ?_
        refine DA.thn_ret ?_
        refine DA.thn_ret ?_
        refine DA.inb_ret ?_
        refine DA.thn_ret ?_
        exact bodyA.ret (ResA.one rfl rfl) zE ⟨rfl, rfl, rfl⟩
      refine XA.exit ?_
      refine DA.thn_exit ?_
      refine DA.thn_exit ?_
      refine DA.inb_same ?_
      refine zT ?_; refine zS ?_; refine zS ?_; refine zR ?_; refine zO rfl (Rd.fA rfl) ?_; refine zO rfl (Rd.ldC rfl (tyrow rfl) rfl) ?_; refine zO rfl (Rd.lss rfl rfl) ?_; refine zO rfl Rd.mv ?_
      first | ((first | refine zW ?_ | refine zQ ?_); refine zO rfl (Rd.fA rfl) ?_) | refine zU ?_ | refine zV ?_ | refine zZ ?_
      first | ((first | refine zW ?_ | refine zQ ?_); refine zO rfl (Rd.ldC rfl (tyrow rfl) rfl) ?_) | refine zU ?_ | refine zV ?_ | refine zZ ?_
      first | ((first | refine zW ?_ | refine zQ ?_); refine zO rfl (Rd.gtr rfl rfl) ?_) | refine zU ?_ | refine zV ?_ | refine zZ ?_
      refine zO rfl (by first | exact Rd.pT rfl | exact Rd.pF rfl | exact Rd.pP rfl) ?_
      refine zO rfl Rd.mv ?_
      first | ((first | refine zW ?_ | refine zQ ?_); refine zO rfl Rd.mv ?_) | refine zU ?_ | refine zV ?_ | refine zZ ?_
      first | ((first | refine zW ?_ | refine zQ ?_); refine zO rfl (Rd.fA rfl) ?_) | refine zU ?_ | refine zV ?_ | refine zZ ?_
      first | ((first | refine zW ?_ | refine zQ ?_); refine zO rfl (Rd.ldC rfl (tyrow rfl) rfl) ?_) | refine zU ?_ | refine zV ?_ | refine zZ ?_
      first | ((first | refine zW ?_ | refine zQ ?_); refine zO rfl (by first | exact Rd.adi rfl rfl | exact Rd.add rfl rfl) ?_) | refine zU ?_ | refine zV ?_ | refine zZ ?_
      first | ((first | refine zW ?_ | refine zQ ?_); refine zO rfl (Rd.gtr rfl rfl) ?_) | refine zU ?_ | refine zV ?_ | refine zZ ?_
      refine zO rfl (by first | exact Rd.pT rfl | exact Rd.pF rfl | exact Rd.pP rfl) ?_
      refine zN ?_; refine zT ?_
      refine XA.condp rfl (fun hz2 => ?_) (fun hz2 => ?_)
      · rw [if_pos (.inr (by omega))] at hgo
        rw [hcp 1 hgo.symm (by decide)]
        refine zS ?_; refine zR ?_; refine zO rfl Rd.asg ?_; refine zN ?_; refine zT ?_
        refine XA.ret ?_
        refine DA.thn_ret ?_
        refine DA.inb_ret ?_
        refine DA.thn_ret ?_
        refine DA.thn_ret ?_
        refine DA.inb_ret ?_
        refine DA.thn_ret ?_
        exact bodyA.ret (ResA.one rfl rfl) zE ⟨rfl, rfl, rfl⟩
      rw [if_neg (by omega)] at hgo
      refine XA.skip ?_
      refine zT ?_; refine zR ?_; refine zO rfl Rd.mv ?_; refine zO rfl (Rd.fA rfl) ?_; refine zO rfl (Rd.ldC rfl (tyrow rfl) rfl) ?_
      refine zO rfl (by first | exact Rd.adi rfl rfl | exact Rd.add rfl rfl) ?_
      refine zO rfl Rd.asg ?_; refine zN ?_
      refine DA.inb_normal ?_
      refine zT ?_; refine zR ?_; refine zO rfl Rd.mv ?_
      refine zO rfl (by first | exact Rd.adi rfl rfl | exact Rd.add rfl rfl) ?_
      refine zO rfl Rd.asg ?_; refine zN ?_; refine zT ?_
      refine ⟨(Keep.upd (Keep.upd (Keep.upd (Keep.upd (Keep.upd (Keep.upd (Keep.upd (Keep.upd (Keep.upd (Keep.upd (Keep.upd (Keep.upd (Keep.upd (Keep.upd (Keep.upd (Keep.upd (Keep.upd (Keep.upd (Keep.upd (Keep.upd (Keep.upd (Keep.upd (Keep.upd (Keep.upd (Keep.upd (Keep.upd (Keep.upd (Keep.hav (Keep.hav (Keep.hav (Keep.upd (Keep.upd (Keep.updO (Keep.upd (Keep.upd (Keep.updN (Keep.updO (Keep.upd (Keep.upd (Keep.upd (Keep.upd (Keep.upd (Keep.upd (Keep.upd (Keep.upd (Keep.upd (Keep.upd (Keep.upd (Keep.upd (Keep.hav (Keep.hav (Keep.refl _ _) rfl) rfl) rfl) rfl) rfl) rfl) rfl) rfl) rfl) rfl) rfl) rfl) rfl) rfl) rfl)) rfl) rfl) rfl) rfl) rfl) rfl) rfl) rfl) rfl) rfl) rfl) rfl) rfl) rfl) rfl) rfl) rfl) rfl) rfl) rfl) rfl) rfl) rfl) rfl) rfl) rfl) rfl) rfl) rfl) rfl) rfl) rfl) rfl) rfl) rfl), (j + 1, n + x.size), _, (by (repeat (first | exact trivial | refine ⟨rfl, ?_⟩ | refine ⟨Eq.trans rfl (congrArg Value.bool hmat.symm), ?_⟩)); (first | done | fail)), ?_, ⟨rfl, hlt, ⟨by simp only; omega, by simp only; omega, by rw [takeS hx]; exact hgo⟩, rfl⟩, (by simp only; omega)⟩
      · exact zE
  have hkn : k = l.length := by omega
  subst hkn
  rw [List.drop_length, varsGo] at hgo
  have hcp2 : checkP ⟨l, body⟩ = (stsE l.length 0 body (.ok 150)).code := by rw [checkP, if_neg (by rw [hcv, ← hgo]; decide)]
  rw [hcp2]
  refine XA.exit ?_
  refine DA.thn_exit ?_
  refine DA.thn_exit ?_
  refine DA.inb_same ?_
  refine zT ?_; refine zS ?_; refine zR ?_; refine zO rfl (Rd.ldA rfl) ?_
  refine zO rfl (Rd.bl (fun _ _ => tyrow) rfl rfl rfl) ?_
  refine XOA.wr0 rfl WrA.bx ?_
  rintro _ _ _ ⟨g63, rfl, rfl, rfl⟩
  refine zO rfl Rd.asg ?_; refine zN ?_; refine zT ?_; refine zS ?_; refine zR ?_; refine zO rfl Rd.mv ?_; refine zO rfl (Rd.fA rfl) ?_; refine zO rfl (Rd.ldC rfl (tyrow rfl) rfl) ?_
  refine XOA.ent (Ent.foldC (Θ := [blk g63 _ _]) (by (repeat (first | exact Ent.all _ | (apply Ent.take; focus (first | ((repeat (first | with_reducible exact Sel.head | apply Sel.tail)); done) | ((repeat (first | exact Sel.head | apply Sel.tail)); done))) | apply Ent.takeNil | apply Ent.takeEmp)); (first | done | fail)) (Look.mkO (l := 150) rfl) (Ent.refl _)) ?_
  refine XOA.wr0 rfl (WrA.cE (rstmts_a σ body _ g63 pv l.length cv _ (.ok 150) 0 hb (fun l hl => by simp only [Except.ok.injEq] at hl; omega) (by decide) ⟨by decide, fun _ => by decide⟩) rfl) ?_
  rintro _ _ _ ⟨_, ⟨rfl, rfl, rfl⟩, rfl⟩
  refine XOA.cl ?_
  refine zN ?_; refine zT ?_; refine zS ?_; refine zR ?_; refine zO rfl Rd.mv ?_
  cases hst : stsE l.length 0 body (.ok 150) with
  | ok a =>
    first | refine XA.opn (R := Look g63 _ _ (.ok a)) (by ((repeat (first | with_reducible exact Sel.head | apply Sel.tail)); (first | done | fail))) (Look.okO) ?_ | refine XOA.opn (R := Look g63 _ _ (.ok a)) (by ((repeat (first | with_reducible exact Sel.head | apply Sel.tail)); (first | done | fail))) (Look.okO) ?_ | refine DA.opn (R := Look g63 _ _ (.ok a)) (by ((repeat (first | with_reducible exact Sel.head | apply Sel.tail)); (first | done | fail))) (Look.okO) ?_
    rintro ⟨⟩ -
    first | refine XA.cl ?_ | refine XOA.cl ?_ | refine DA.cl ?_
    refine zO rfl (Rd.nilCheck rfl) ?_; refine zO rfl (Rd.fA rfl) ?_; refine zO rfl (Rd.ldC rfl (tyrow rfl) rfl) ?_; refine zO rfl Rd.asg ?_; refine zN ?_; refine zT ?_
    refine XA.ret ?_
    exact bodyA.ret (ResA.one rfl rfl) (Ent.nil _) ⟨rfl, rfl, rfl⟩
  | error c =>
    first | refine XA.opn (R := Look g63 _ _ (.error c)) (by ((repeat (first | with_reducible exact Sel.head | apply Sel.tail)); (first | done | fail))) (Look.errO) ?_ | refine XOA.opn (R := Look g63 _ _ (.error c)) (by ((repeat (first | with_reducible exact Sel.head | apply Sel.tail)); (first | done | fail))) (Look.errO) ?_ | refine DA.opn (R := Look g63 _ _ (.error c)) (by ((repeat (first | with_reducible exact Sel.head | apply Sel.tail)); (first | done | fail))) (Look.errO) ?_
    rintro n2 h0
    first | refine XA.cl ?_ | refine XOA.cl ?_ | refine DA.cl ?_
    refine zO rfl (Rd.nilCheck rfl) ?_; refine zO rfl (Rd.fA rfl) ?_; refine zO rfl (Rd.ldC rfl (tyrow rfl) rfl) ?_; refine zO rfl Rd.asg ?_; refine zN ?_; refine zT ?_
    refine XA.ret ?_
    exact bodyA.ret (ResA.one rfl rfl) (Ent.nil _) ⟨rfl, rfl, rfl⟩
theorem rcell_a (σ : PH) (cs : List Value) (p : Pr) (v : Int) (hp : PrAt σ cs p) (hz : ∀ x ∈ p.vars, 0 ≤ x.size ∧ x.size ≤ 1000) (hl : p.vars.length ≤ 1000) :
    CallsA Try.prog 27 #[.agg cs.toArray, i64 v] σ [] (RetA fun r σ' Γ' => r = i64 (cellOf p.vars v) ∧ σ = σ' ∧ Γ' = []) := by
  obtain ⟨vs, bs, rfl, hv, hb⟩ := hp
  obtain ⟨pv, cv, rfl, hvl, hvm⟩ := hv.shape
  obtain ⟨m, hm⟩ : ∃ m, m = min v.toNat p.vars.length := ⟨_, rfl⟩
  have hcell : cellOf p.vars v = sizes (p.vars.take m) := by rw [cellOf, hm, ← List.take_eq_take_min]
  rw [hcell]
  refine enterA2 Try.func27 rfl rfl rfl ?_
  refine zS ?_; refine zR ?_
  refine XOA.wr0 rfl WrA.bx ?_
  rintro _ _ _ ⟨g2, rfl, rfl, rfl⟩
  refine zO rfl Rd.asg ?_; refine zN ?_; refine zT ?_; refine zS ?_; refine zR ?_; refine zO rfl Rd.asg ?_; refine zN ?_; refine zT ?_; refine zS ?_; refine zS ?_; refine zR ?_; refine zO rfl Rd.asg ?_; refine zN ?_; refine zT ?_
  refine XA.block ?_
  refine XA.gen [(1, _), (2, _), (4, _), (5, _), (6, _)] ⟨(by with_reducible (conv => lhs; whnf)), (by with_reducible (conv => lhs; whnf)), (by with_reducible (conv => lhs; whnf)), (by with_reducible (conv => lhs; whnf)), (by with_reducible (conv => lhs; whnf)), trivial⟩ (fun δ => ?_)
  dsimp only [List.foldl]
  refine XA.loop [(5, 26)] (fun q : Nat × Int => [(6, i64 q.1), (5, i64 q.2)]) (fun q σ' Γ' => σ = σ' ∧ q.1 ≤ m ∧ q.2 = sizes (p.vars.take q.1) ∧ Γ' = [blk g2 [.slice pv p.vars.length cv, bs] 25]) (fun q => m - q.1) (0, 0) (by exact ⟨rfl, rfl, trivial⟩) (Δ0 := _) ?_ (⟨rfl, Nat.zero_le _, rfl, rfl⟩) ?_
  · exact zE
  rintro ⟨k, n⟩ δ _ _ ⟨rfl, hk, hn, rfl⟩
  dsimp only [ovr, List.foldl]
  have hk : k ≤ m := hk
  have hn : n = sizes (p.vars.take k) := hn
  have hsb := sizes_bound (p.vars.take k) (fun y hy => hz y (List.mem_of_mem_take hy))
  have hkl : (p.vars.take k).length = k := by rw [List.length_take]; omega
  by_cases h1 : (k : Int) < v
  · by_cases h2 : k < p.vars.length
    · obtain ⟨x, hx⟩ : ∃ x, p.vars[k]? = some x := ⟨_, List.getElem?_eq_getElem h2⟩
      obtain ⟨gg, o, row, rfl, ⟨rfl, ⟨hz0, hz1⟩, hnm⟩, hrl, hrow⟩ := hv.at hx
      have r1 : PRow σ gg (o + k * 2 + 1) [i64 x.size] := hrow.sub (j := 1) rfl
      have e1 := sizes_take p.vars k x hx
      have hxz := hz x (List.mem_of_getElem? hx)
      refine zS ?_; refine zS ?_; refine zR ?_; refine zO rfl Rd.mv ?_; refine zO rfl Rd.mv ?_; refine zO rfl (Rd.lss rfl rfl) ?_; refine zO rfl Rd.mv ?_
      first | ((first | refine zW ?_ | refine zQ ?_); refine zO rfl Rd.mv ?_) | refine zU ?_ | refine zV ?_ | refine zZ ?_
      first | ((first | refine zW ?_ | refine zQ ?_); refine zO rfl (Rd.fA rfl) ?_) | refine zU ?_ | refine zV ?_ | refine zZ ?_
      first | ((first | refine zW ?_ | refine zQ ?_); refine zO rfl (Rd.ldC rfl (tyrow rfl) rfl) ?_) | refine zU ?_ | refine zV ?_ | refine zZ ?_
      first | ((first | refine zW ?_ | refine zQ ?_); refine zO rfl (Rd.lenSlice (tyrow rfl) rfl rfl) ?_) | refine zU ?_ | refine zV ?_ | refine zZ ?_
      first | ((first | refine zW ?_ | refine zQ ?_); refine zO rfl (Rd.lss rfl rfl) ?_) | refine zU ?_ | refine zV ?_ | refine zZ ?_
      refine zO rfl (by first | exact Rd.pT rfl | exact Rd.pF rfl | exact Rd.pP rfl) ?_
      refine zN ?_; refine zT ?_
      refine XA.condT rfl (by first | rfl | exact (by first | exact (rfl : decide _ = true) | exact (rfl : decide _ = false) | (refine decide_eq_true ?_; assumption) | (refine decide_eq_false ?_; assumption) | (refine decide_eq_true ?_; omega) | (refine decide_eq_false ?_; omega))) ?_
      refine XA.skip ?_
      refine zT ?_; refine zS ?_
      refine XA.block ?_
      refine zR ?_; refine zO rfl Rd.mv ?_; refine zO rfl (Rd.fA rfl) ?_; refine zO rfl (Rd.ldC rfl (tyrow rfl) rfl) ?_; refine zO rfl Rd.mv ?_
      refine zO rfl (Rd.ixS rfl rfl) ?_
      refine zO rfl (Rd.fA rfl) ?_; refine zO rfl (Rd.ldC rfl (tyrow rfl) rfl) ?_
      refine zO rfl (by first | exact Rd.adi rfl rfl | exact Rd.add rfl rfl) ?_
      refine zO rfl Rd.asg ?_; refine zN ?_
      refine DA.inb_normal ?_
      refine zT ?_; refine zR ?_; refine zO rfl Rd.mv ?_
      refine zO rfl (by first | exact Rd.adi rfl rfl | exact Rd.add rfl rfl) ?_
      refine zO rfl Rd.asg ?_; refine zN ?_; refine zT ?_
      refine ⟨(Keep.upd (Keep.upd (Keep.upd (Keep.upd (Keep.upd (Keep.upd (Keep.upd (Keep.upd (Keep.upd (Keep.upd (Keep.upd (Keep.upd (Keep.upd (Keep.upd (Keep.upd (Keep.upd (Keep.upd (Keep.upd (Keep.upd (Keep.upd (Keep.upd (Keep.upd (Keep.upd (Keep.upd (Keep.hav (Keep.refl _ _) rfl) rfl) rfl) rfl) rfl) rfl) rfl) rfl) rfl) rfl) rfl) rfl) rfl) rfl) rfl) rfl) rfl) rfl) rfl) rfl) rfl) rfl) rfl) rfl) rfl), (k + 1, n + x.size), _, (by (repeat (first | exact trivial | refine ⟨rfl, ?_⟩ | refine ⟨Eq.trans rfl (congrArg Value.bool hmat.symm), ?_⟩)); (first | done | fail)), ?_, ⟨rfl, by simp only; omega, by simp only; omega, rfl⟩, (by simp only; omega)⟩
      · exact zE
    · have hkm : k = m := by omega
      subst hkm
      refine zS ?_; refine zS ?_; refine zR ?_; refine zO rfl Rd.mv ?_; refine zO rfl Rd.mv ?_; refine zO rfl (Rd.lss rfl rfl) ?_; refine zO rfl Rd.mv ?_
      first | ((first | refine zW ?_ | refine zQ ?_); refine zO rfl Rd.mv ?_) | refine zU ?_ | refine zV ?_ | refine zZ ?_
      first | ((first | refine zW ?_ | refine zQ ?_); refine zO rfl (Rd.fA rfl) ?_) | refine zU ?_ | refine zV ?_ | refine zZ ?_
      first | ((first | refine zW ?_ | refine zQ ?_); refine zO rfl (Rd.ldC rfl (tyrow rfl) rfl) ?_) | refine zU ?_ | refine zV ?_ | refine zZ ?_
      first | ((first | refine zW ?_ | refine zQ ?_); refine zO rfl (Rd.lenSlice (tyrow rfl) rfl rfl) ?_) | refine zU ?_ | refine zV ?_ | refine zZ ?_
      first | ((first | refine zW ?_ | refine zQ ?_); refine zO rfl (Rd.lss rfl rfl) ?_) | refine zU ?_ | refine zV ?_ | refine zZ ?_
      refine zO rfl (by first | exact Rd.pT rfl | exact Rd.pF rfl | exact Rd.pP rfl) ?_
      refine zN ?_; refine zT ?_
      refine XA.condF rfl (by first | rfl | exact (by first | exact (rfl : decide _ = true) | exact (rfl : decide _ = false) | (refine decide_eq_true ?_; assumption) | (refine decide_eq_false ?_; assumption) | (refine decide_eq_true ?_; omega) | (refine decide_eq_false ?_; omega))) ?_
      refine XA.exit ?_
      refine DA.thn_exit ?_
      refine DA.thn_exit ?_
      refine DA.inb_same ?_
      refine zT ?_; refine zS ?_; refine zR ?_; refine zO rfl Rd.mv ?_; refine zO rfl Rd.asg ?_; refine zN ?_; refine zT ?_
      refine XA.ret ?_
      exact bodyA.ret (ResA.one rfl rfl) (Ent.nil _) ⟨by rw [← hn], rfl, rfl⟩
  · have hkm : k = m := by omega
    subst hkm
    refine zS ?_; refine zS ?_; refine zR ?_; refine zO rfl Rd.mv ?_; refine zO rfl Rd.mv ?_; refine zO rfl (Rd.lss rfl rfl) ?_; refine zO rfl Rd.mv ?_
    first | ((first | refine zW ?_ | refine zQ ?_); refine zO rfl Rd.mv ?_) | refine zU ?_ | refine zV ?_ | refine zZ ?_
    first | ((first | refine zW ?_ | refine zQ ?_); refine zO rfl (Rd.fA rfl) ?_) | refine zU ?_ | refine zV ?_ | refine zZ ?_
    first | ((first | refine zW ?_ | refine zQ ?_); refine zO rfl (Rd.ldC rfl (tyrow rfl) rfl) ?_) | refine zU ?_ | refine zV ?_ | refine zZ ?_
    first | ((first | refine zW ?_ | refine zQ ?_); refine zO rfl (Rd.lenSlice (tyrow rfl) rfl rfl) ?_) | refine zU ?_ | refine zV ?_ | refine zZ ?_
    first | ((first | refine zW ?_ | refine zQ ?_); refine zO rfl (Rd.lss rfl rfl) ?_) | refine zU ?_ | refine zV ?_ | refine zZ ?_
    refine zO rfl (by first | exact Rd.pT rfl | exact Rd.pF rfl | exact Rd.pP rfl) ?_
    refine zN ?_; refine zT ?_
    refine XA.condF rfl (by first | rfl | exact (by first | exact (rfl : decide _ = true) | exact (rfl : decide _ = false) | (refine decide_eq_true ?_; assumption) | (refine decide_eq_false ?_; assumption) | (refine decide_eq_true ?_; omega) | (refine decide_eq_false ?_; omega))) ?_
    refine XA.exit ?_
    refine DA.thn_exit ?_
    refine DA.thn_exit ?_
    refine DA.inb_same ?_
    refine zT ?_; refine zS ?_; refine zR ?_; refine zO rfl Rd.mv ?_; refine zO rfl Rd.asg ?_; refine zN ?_; refine zT ?_
    refine XA.ret ?_
    exact bodyA.ret (ResA.one rfl rfl) (Ent.nil _) ⟨by rw [← hn], rfl, rfl⟩
end Go.Proofs.Ytbbghdkndbpmmaa

namespace Go.Proofs.Ytbbghdkndbpmmaa
open Go X
set_option maxHeartbeats 1000000
section
variable {P : Program} {ρ : Env} {σ : PH} {Γ : List HP}
/-- What stays for ever, perhaps nothing, behind a list of one's own. -/
theorem X.WrA.appP {T e : TypeId} {x y : Operand} {ty : TypeId} {r re : Ty} {n m c c' k : Nat} {p q : Option Addr} {xs news : List Value} {Γ' : List HP} (hT : tyOf P T = some r) (hk : r.k = .slice e) (hE : tyOf P e = some re) (hz : re.zero.length = re.size)
    (hs : ev ρ x = .slice p n c) (s : Sel Γ (lst e re.size (.slice p n c) n xs) Γ') (hy : ev ρ y = .slice q m c') (hf : m ≤ c' ∧ c' ≤ maxLen ∧ news.length = k ∧ (0 < m → ∃ g o, q = some ⟨g, o, none⟩ ∧ PRow σ g o news)) (hl : k = m * re.size) (h1 : ones news) (h63 : n + m ≤ maxLen) (hb : (n + m) * re.bytes ≤ 140737488355328) {n' : Nat} {zs : List Value} (hn' : n' = n + m) (hzs : zs = xs ++ news) :
    WrA P ρ σ Γ (.call { callee := .builtin .append, args := #[x, y], argTypes := #[T, T] }) ty (fun v' σ' Δ => ∃ p c, v' = .slice p n' c ∧ σ = σ' ∧ Δ = lst e re.size (.slice p n' c) n' zs :: Γ') noPA := by
  subst hn' hzs
  obtain ⟨hf1, hf2, hf3, hf4⟩ := hf
  by_cases hm : m = 0
  · subst hm
    have hn0 : news = [] := List.eq_nil_of_length_eq_zero (by rw [hf3, hl]; omega)
    subst hn0
    refine ⟨fun f h hh => ⟨fun d pos af gd a w next Q' he hw hn hp => ?_⟩⟩
    have hc := holds_fact hh s (q := n ≤ c) (fun m hm => (lst_cap m hm).1)
    refine ((Rd.toW (σ := σ) (Γ := Γ) (Rd.appendNone hT hk hE hs hy hc)).out f h hh).out d pos af gd a w next Q' he hw (fun v' w' sm q => ?_) (fun _ _ _ q => by obtain ⟨_, _, q, _⟩ := q; exact q.elim)
    obtain ⟨σ', Γ'', ⟨rfl, rfl, rfl⟩, hh'⟩ := q
    refine hn _ w' sm ⟨σ, _, ⟨p, c, rfl, rfl, rfl⟩, ?_⟩
    rw [Nat.add_zero, List.append_nil]
    exact hh'.ent (Ent.imp s (fun _ h => h) (Ent.refl _))
  · obtain ⟨g, o, rfl, hr⟩ := hf4 (by omega)
    exact WrA.append hT hk hE hz hs s hy (At.per hr) (by rw [hf3, hl]) h1 (by omega) h63 hb
end
/-- A list that a call gives, given for ever. -/
theorem X.CallsA.lstOut {P : Program} {σ : PH} {Γ : List HP} {f : FuncId} {vs : Array Value} {e sz n : Nat} {xs : List Value} (hc : CallsA P f vs σ Γ (RetA fun v σ' Γ' => ∃ p c, v = .slice p n c ∧ σ.sub σ' ∧ Γ' = [lst e sz (.slice p n c) n xs])) :
    CallsA P f vs σ Γ (RetA fun v σ' Γ' => ∃ p c, v = .slice p n c ∧ σ.sub σ' ∧ (n ≤ c ∧ c ≤ maxLen ∧ xs.length = n * sz ∧ (0 < n → ∃ g o, p = some ⟨g, o, none⟩ ∧ PRow σ' g o xs)) ∧ Γ' = []) :=
  ⟨hc.1, fun fr h hh => (hc.2 fr h hh).mono fun e' h' ⟨σ', Γ', a, b⟩ => by
    cases e' with
    | returned v =>
      obtain ⟨p, c, rfl, hs, rfl⟩ := a
      obtain ⟨σ2, ⟨⟩, a, b, c⟩ := holds_freeze' b .head lst_frz lst_frz_mono
      exact ⟨σ2, _, ⟨p, _, rfl, hs.trans b, a, rfl⟩, c⟩
    | _ => exact a.elim⟩
theorem insC_ones (l : List In) : ones (insC l) := fun v hv => by
  simp only [insC, List.mem_flatten, List.mem_map] at hv
  obtain ⟨r, ⟨i, -, rfl⟩, h⟩ := hv
  exact (show ones (inC i) from ones_lit rfl) v h
def RExI (σ : PH) (pr : Pr) (x : Ex) : Prop := ∀ (cs : List Value) (pv : Option Addr) (cv : Nat) (bs : Value),
  PrAt σ [.slice pv pr.vars.length cv, bs] pr → ExAt σ cs x → ExV pr.vars.length x → exN x ≤ 100000 →
  CallsA Try.prog 88 #[.agg #[.slice pv pr.vars.length cv, bs], .agg cs.toArray] σ []
    (RetA fun v σ' Γ' => ∃ p c, v = .slice p (exCode pr.vars x).length c ∧ σ.sub σ' ∧ Γ' = [lst 56 4 (.slice p (exCode pr.vars x).length c) (exCode pr.vars x).length (insC (exCode pr.vars x))])
theorem rexpr_i (pr : Pr) (hz : ∀ x ∈ pr.vars, 0 ≤ x.size ∧ x.size ≤ 1000) (hvl : pr.vars.length ≤ 1000) (x : Ex) : ∀ σ, RExI σ pr x := by
  refine Ex.ind (P := fun x => ∀ σ, RExI σ pr x) ?_ x
  intro op v k l ih σ cs pv cv bs hp hx hV hN
  obtain ⟨pl, cl, rfl, ho, hv, hk, hl⟩ := hx.inv
  simp only [Ex.op, Ex.v, Ex.n, Ex.l] at ho hv hk hl ⊢
  clear hx
  rw [ExV] at hV
  obtain ⟨hop, hlp, hvr, -, hsV⟩ := hV
  rw [exN] at hN
  have hlen : l.length ≤ 100000 := by have := exsN_len l; omega
  refine enterA2 Try.func88 rfl rfl rfl ?_
  refine zS ?_; refine zR ?_
  refine XOA.wr0 rfl WrA.bx ?_
  rintro _ _ _ ⟨g2, rfl, rfl, rfl⟩
  refine XOA.wr0 rfl WrA.bx ?_
  rintro _ _ _ ⟨g3, rfl, rfl, rfl⟩
  refine zO rfl Rd.asg ?_; refine zN ?_; refine zT ?_; refine zS ?_; refine zR ?_; refine zO rfl Rd.asg ?_; refine zN ?_; refine zT ?_; refine zS ?_; refine zS ?_; refine zR ?_; refine zO rfl Rd.asg ?_; refine zN ?_; refine zT ?_
  refine XA.block ?_
  refine XA.gen [(2, _), (3, _), (4, _), (5, _), (6, _)] ⟨(by with_reducible (conv => lhs; whnf)), (by with_reducible (conv => lhs; whnf)), (by with_reducible (conv => lhs; whnf)), (by with_reducible (conv => lhs; whnf)), (by with_reducible (conv => lhs; whnf)), trivial⟩ (fun δ => ?_)
  dsimp only [List.foldl]
  refine XA.loop [(5, 6), (8, 23)] (fun q : Nat × (List In × (Option Addr × Nat)) => [(6, i64 q.1), (5, .slice q.2.2.1 q.2.1.length q.2.2.2)]) (fun q σ' Γ' => σ.sub σ' ∧ q.1 ≤ l.length ∧ q.2.1 = exsCode pr.vars (l.take q.1) ∧ Γ' = [lst 56 4 (.slice q.2.2.1 q.2.1.length q.2.2.2) q.2.1.length (insC q.2.1), blk g2 [.slice pv pr.vars.length cv, bs] 25, blk g3 [i64 op, i64 v, i64 k, .slice pl l.length cl] 44]) (fun q => l.length - q.1) (0, ([], (none, 0))) (by exact ⟨rfl, rfl, trivial⟩) (Δ0 := _) ?_ (⟨.refl _, Nat.zero_le _, by simp [exsCode], rfl⟩) ?_
  · exact zE
  rintro ⟨i, M, p', c'⟩ δ σ1 _ ⟨hs1, hi, hM, rfl⟩
  dsimp only [ovr, List.foldl]
  have hi : i ≤ l.length := hi
  have hM : M = exsCode pr.vars (l.take i) := hM
  have hMl : M.length + exsN (l.drop i) + 1 ≤ 100000 := by
    have h2 := exsN_app (l.take i) (l.drop i); rw [List.take_append_drop] at h2
    rw [hM, exsCode_len]; omega
  refine zS ?_; refine zS ?_; refine zR ?_; refine zO rfl Rd.mv ?_; refine zO rfl (Rd.fA rfl) ?_; refine zO rfl (Rd.ldC rfl (tyrow rfl) rfl) ?_; refine zO rfl (Rd.lenSlice (tyrow rfl) rfl rfl) ?_; refine zO rfl (Rd.lss rfl rfl) ?_; refine zN ?_; refine zT ?_
  refine XA.condp rfl (fun hlt => ?_) (fun hlt => ?_)
  · have hlt : i < l.length := by omega
    obtain ⟨x', hx'⟩ : ∃ x', l[i]? = some x' := ⟨_, List.getElem?_eq_getElem hlt⟩
    have hl1 := hl.mono hs1 (fun _ _ h => h.mono hs1)
    obtain ⟨g, o, row, rfl, hrx, hrl, hrow⟩ := hl1.at hx'
    have hmem := List.mem_of_getElem? hx'
    have hone := hrx.ones
    have hdx : l.drop i = x' :: l.drop (i + 1) := drop_get hx'
    have hNx : exN x' ≤ exsN (l.drop i) := exsN_mem (by rw [hdx]; simp)
    have hE := exCode_len pr.vars x'
    refine XA.skip ?_
    refine zT ?_; refine zS ?_
    refine XA.block ?_
    refine XA.draw (by kernel_rfl) _ _ [7, 8] [(0, .pu), (1, .rd), (2, .pu), (3, .rd), (4, .pu), (5, .pu), (6, .rd), (7, .wr), (8, .wr), (9, .pu)] (by kernel_rfl) (PH.sub.refl _) (Ent.sel (R := blk g2 _ _) (by ((repeat (first | with_reducible exact Sel.head | apply Sel.tail)); (first | done | fail))) (Ent.sel (R := blk g3 _ _) (by ((repeat (first | with_reducible exact Sel.head | apply Sel.tail)); (first | done | fail))) (Ent.nil _))) ?_
    refine XPA.pu rfl rfl Gd.free Rd.mv ?_
    refine XPA.rd rfl rfl Gd.free (Rd.ldA rfl) ?_
    refine XPA.pu rfl rfl Gd.free (Rd.fA rfl) ?_
    refine XPA.rd rfl rfl Gd.free (Rd.ldC rfl (tyrow rfl) rfl) ?_
    refine XPA.pu rfl rfl Gd.free Rd.mv ?_
    refine XPA.pu rfl rfl Gd.free (Rd.ixS rfl rfl) ?_
    refine XPA.rd rfl rfl Gd.free (Rd.ldA rfl) ?_
    refine XPA.wrZ0 rfl rfl Gd.free (by kernel_rfl) (WrA.cE ((ih x' hmem σ1 row pv cv bs (hp.mono hs1) hrx (hsV.mem x' hmem) (by omega)).lstOut) rfl) ?_
    rintro _ σ2 _ ⟨_, ⟨p2, c2, rfl, hs2, hf2, rfl⟩, rfl⟩
    refine XPA.cl ?_
    refine XPA.wrZ0 rfl rfl Gd.free (by kernel_rfl) (WrA.appP (tyrow rfl) rfl (tyrow rfl) rfl rfl (by ((repeat (first | with_reducible exact Sel.head | apply Sel.tail)); (first | done | fail))) rfl hf2 rfl (insC_ones _) (by simp only [maxLen]; omega) (by simp only []; omega) List.length_append (insC_app _ _)) ?_
    rintro _ _ _ ⟨p8, c8, rfl, rfl, rfl⟩
    refine XPA.pu rfl rfl Gd.free Rd.asg ?_
    refine XPA.nil ?_
    refine DA.inb_normal ?_
    refine zT ?_; refine zR ?_; refine zO rfl Rd.mv ?_
    refine zO rfl (by first | exact Rd.adi rfl rfl | exact Rd.add rfl rfl) ?_
    refine zO rfl Rd.asg ?_; refine zN ?_; refine zT ?_
    refine ⟨(Keep.upd (Keep.upd (Keep.upd (Keep.upd (Keep.updO (Keep.updO (Keep.upd (Keep.upd (Keep.upd (Keep.upd (Keep.upd (Keep.upd (Keep.upd (Keep.upd (Keep.upd (Keep.upd (Keep.upd (Keep.upd (Keep.upd (Keep.upd (Keep.hav (Keep.hav (Keep.refl _ _) rfl) rfl) rfl) rfl) rfl) rfl) rfl) rfl) rfl) rfl) rfl) rfl) rfl) rfl) rfl) rfl) rfl) rfl) rfl) rfl) rfl) rfl), (i + 1, (M ++ exCode pr.vars x', (p8, c8))), _, (by (repeat (first | exact trivial | refine ⟨rfl, ?_⟩ | refine ⟨Eq.trans rfl (congrArg Value.bool hmat.symm), ?_⟩)); (first | done | fail)), ?_, ⟨hs1.trans hs2, hlt, by simp only; rw [hM, exsCode_snoc _ hx'], rfl⟩, (by simp only; omega)⟩
    · exact zE
  have hil : i = l.length := by omega
  subst hil
  rw [List.take_length] at hM
  have hfin : exCode pr.vars (.mk op v k l) = M ++ [opIn pr.vars op v k] := by rw [hM, exCode]
  rw [hfin]
  simp only [List.length_append, List.length_singleton, insC_snoc]
  by_cases h2 : op = 2
  · subst h2
    have hop2 : opIn pr.vars 2 v k = ⟨2, cellOf pr.vars v, 0, k⟩ := rfl
    rw [hop2]
    refine XA.exit ?_
    refine DA.thn_exit ?_
    refine DA.thn_exit ?_
    refine DA.inb_same ?_
    refine zT ?_; refine zS ?_; refine zR ?_; refine zO rfl (Rd.fA rfl) ?_; refine zO rfl (Rd.ldC rfl (tyrow rfl) rfl) ?_; refine zO rfl (Rd.fA rfl) ?_; refine zO rfl (Rd.ldC rfl (tyrow rfl) rfl) ?_
    refine zO rfl (Rd.bl (fun _ _ => tyrow) rfl rfl rfl) ?_
    refine XOA.wr0 rfl (WrA.alloc (tyrow rfl)) ?_
    rintro _ _ _ ⟨g7, rfl, rfl, rfl⟩
    refine XOA.wr0 rfl (WrA.st (tyrow rfl) rfl) ?_
    rintro _ _ _ ⟨rfl, rfl, rfl⟩
    refine zN ?_; refine zT ?_; refine zS ?_; refine zS ?_; refine zR ?_; refine zO rfl (Rd.fA rfl) ?_; refine zO rfl (Rd.ldC rfl (tyrow rfl) rfl) ?_; refine zO rfl (Rd.eql rfl rfl) ?_; refine zO rfl Rd.mv ?_
    first | ((first | refine zW ?_ | refine zQ ?_); refine zO rfl (Rd.fA rfl) ?_) | refine zU ?_ | refine zV ?_ | refine zZ ?_
    first | ((first | refine zW ?_ | refine zQ ?_); refine zO rfl (Rd.ldC rfl (tyrow rfl) rfl) ?_) | refine zU ?_ | refine zV ?_ | refine zZ ?_
    first | ((first | refine zW ?_ | refine zQ ?_); refine zO rfl (Rd.eql rfl rfl) ?_) | refine zU ?_ | refine zV ?_ | refine zZ ?_
    refine zO rfl (by first | exact Rd.pT rfl | exact Rd.pF rfl | exact Rd.pP rfl) ?_
    refine zN ?_; refine zT ?_
    refine XA.condT rfl rfl ?_
    refine zR ?_; refine zO rfl (Rd.ldA rfl) ?_; refine zO rfl (Rd.fA rfl) ?_; refine zO rfl (Rd.ldC rfl (tyrow rfl) rfl) ?_
    refine XOA.wr0 rfl (WrA.cE (rcell_a σ1 _ pr v (hp.mono hs1) hz hvl) rfl) ?_
    rintro _ _ _ ⟨_, ⟨rfl, rfl, rfl⟩, rfl⟩
    refine XOA.cl ?_
    refine zO rfl (Rd.fA rfl) ?_
    refine XOA.wr0 rfl (WrA.st (tyrow rfl) rfl) ?_
    rintro _ _ _ ⟨rfl, rfl, rfl⟩
    refine zN ?_; refine zT ?_; refine zS ?_; refine zS ?_; refine zR ?_; refine zO rfl (Rd.fA rfl) ?_; refine zO rfl (Rd.ldC rfl (tyrow rfl) rfl) ?_; refine zO rfl (Rd.eql rfl rfl) ?_; refine zN ?_; refine zT ?_
    refine XA.condF rfl rfl ?_
    refine XA.skip ?_
    refine zT ?_; refine zS ?_; refine zR ?_; refine zO rfl Rd.mv ?_; refine zO rfl (Rd.ldA rfl) ?_
    refine XOA.wr0 rfl (WrA.bs1 (tyrow rfl) rfl (tyrow rfl)) ?_
    rintro _ _ _ ⟨g55, rfl, rfl, rfl⟩
    refine XOA.wr0 rfl (WrA.ap1 (tyrow rfl) rfl (tyrow rfl) rfl rfl rfl) ?_
    rintro _ _ _ ⟨p56, c56, rfl, rfl, rfl⟩
    refine zO rfl Rd.asg ?_; refine zN ?_; refine zT ?_
    refine XA.ret ?_
    exact bodyA.ret (ResA.one rfl rfl) zE ⟨_, _, rfl, hs1, rfl⟩
  · by_cases h3 : op = 3
    · subst h3
      obtain ⟨hv0, hv1⟩ := hvr (.inr rfl)
      obtain ⟨vx, hvx⟩ : ∃ vx, pr.vars[v.toNat]? = some vx := ⟨_, List.getElem?_eq_getElem (by omega)⟩
      have hop3 : opIn pr.vars 3 v k = ⟨3, cellOf pr.vars v, vx.size, k⟩ := by rw [opIn, sizeV, hvx]; rfl
      rw [hop3]
      have hp0 := hp.mono hs1
      obtain ⟨vs', bs', heq, hpv, hpb⟩ := hp.mono hs1
      simp only [List.cons.injEq, and_true] at heq
      obtain ⟨rfl, rfl⟩ := heq
      obtain ⟨gg, oo, rowv, rfl, ⟨rfl, ⟨hz0, hz1⟩, hnm⟩, hrl, hrow⟩ := hpv.at hvx
      have r1 : PRow σ1 gg (oo + v.toNat * 2 + 1) [i64 vx.size] := hrow.sub (j := 1) rfl
      refine XA.exit ?_
      refine DA.thn_exit ?_
      refine DA.thn_exit ?_
      refine DA.inb_same ?_
      refine zT ?_; refine zS ?_; refine zR ?_; refine zO rfl (Rd.fA rfl) ?_; refine zO rfl (Rd.ldC rfl (tyrow rfl) rfl) ?_; refine zO rfl (Rd.fA rfl) ?_; refine zO rfl (Rd.ldC rfl (tyrow rfl) rfl) ?_
      refine zO rfl (Rd.bl (fun _ _ => tyrow) rfl rfl rfl) ?_
      refine XOA.wr0 rfl (WrA.alloc (tyrow rfl)) ?_
      rintro _ _ _ ⟨g7, rfl, rfl, rfl⟩
      refine XOA.wr0 rfl (WrA.st (tyrow rfl) rfl) ?_
      rintro _ _ _ ⟨rfl, rfl, rfl⟩
      refine zN ?_; refine zT ?_; refine zS ?_; refine zS ?_; refine zR ?_; refine zO rfl (Rd.fA rfl) ?_; refine zO rfl (Rd.ldC rfl (tyrow rfl) rfl) ?_; refine zO rfl (Rd.eql rfl rfl) ?_; refine zO rfl Rd.mv ?_
      first | ((first | refine zW ?_ | refine zQ ?_); refine zO rfl (Rd.fA rfl) ?_) | refine zU ?_ | refine zV ?_ | refine zZ ?_
      first | ((first | refine zW ?_ | refine zQ ?_); refine zO rfl (Rd.ldC rfl (tyrow rfl) rfl) ?_) | refine zU ?_ | refine zV ?_ | refine zZ ?_
      first | ((first | refine zW ?_ | refine zQ ?_); refine zO rfl (Rd.eql rfl rfl) ?_) | refine zU ?_ | refine zV ?_ | refine zZ ?_
      refine zO rfl (by first | exact Rd.pT rfl | exact Rd.pF rfl | exact Rd.pP rfl) ?_
      refine zN ?_; refine zT ?_
      refine XA.condT rfl rfl ?_
      refine zR ?_; refine zO rfl (Rd.ldA rfl) ?_; refine zO rfl (Rd.fA rfl) ?_; refine zO rfl (Rd.ldC rfl (tyrow rfl) rfl) ?_
      refine XOA.wr0 rfl (WrA.cE (rcell_a σ1 _ pr v hp0 hz hvl) rfl) ?_
      rintro _ _ _ ⟨_, ⟨rfl, rfl, rfl⟩, rfl⟩
      refine XOA.cl ?_
      refine zO rfl (Rd.fA rfl) ?_
      refine XOA.wr0 rfl (WrA.st (tyrow rfl) rfl) ?_
      rintro _ _ _ ⟨rfl, rfl, rfl⟩
      refine zN ?_; refine zT ?_; refine zS ?_; refine zS ?_; refine zR ?_; refine zO rfl (Rd.fA rfl) ?_; refine zO rfl (Rd.ldC rfl (tyrow rfl) rfl) ?_; refine zO rfl (Rd.eql rfl rfl) ?_; refine zN ?_; refine zT ?_
      refine XA.condT rfl rfl ?_
      refine zR ?_; refine zO rfl (Rd.fA rfl) ?_; refine zO rfl (Rd.ldC rfl (tyrow rfl) rfl) ?_; refine zO rfl (Rd.fA rfl) ?_; refine zO rfl (Rd.ldC rfl (tyrow rfl) rfl) ?_
      refine zO rfl (Rd.ixS rfl rfl) ?_
      refine zO rfl (Rd.fA rfl) ?_; refine zO rfl (Rd.ldC rfl (tyrow rfl) rfl) ?_; refine zO rfl (Rd.fA rfl) ?_
      refine XOA.wr0 rfl (WrA.st (tyrow rfl) rfl) ?_
      rintro _ _ _ ⟨rfl, rfl, rfl⟩
      refine zN ?_; refine zT ?_; refine zS ?_; refine zR ?_; refine zO rfl Rd.mv ?_; refine zO rfl (Rd.ldA rfl) ?_
      refine XOA.wr0 rfl (WrA.bs1 (tyrow rfl) rfl (tyrow rfl)) ?_
      rintro _ _ _ ⟨g55, rfl, rfl, rfl⟩
      refine XOA.wr0 rfl (WrA.ap1 (tyrow rfl) rfl (tyrow rfl) rfl rfl rfl) ?_
      rintro _ _ _ ⟨p56, c56, rfl, rfl, rfl⟩
      refine zO rfl Rd.asg ?_; refine zN ?_; refine zT ?_
      refine XA.ret ?_
      exact bodyA.ret (ResA.one rfl rfl) zE ⟨_, _, rfl, hs1, rfl⟩
    · have hop4 : opIn pr.vars op v k = ⟨op, 0, 0, k⟩ := by rw [opIn, if_neg (by omega), if_neg h3]
      rw [hop4]
      refine XA.exit ?_
      refine DA.thn_exit ?_
      refine DA.thn_exit ?_
      refine DA.inb_same ?_
      refine zT ?_; refine zS ?_; refine zR ?_; refine zO rfl (Rd.fA rfl) ?_; refine zO rfl (Rd.ldC rfl (tyrow rfl) rfl) ?_; refine zO rfl (Rd.fA rfl) ?_; refine zO rfl (Rd.ldC rfl (tyrow rfl) rfl) ?_
      refine zO rfl (Rd.bl (fun _ _ => tyrow) rfl rfl rfl) ?_
      refine XOA.wr0 rfl (WrA.alloc (tyrow rfl)) ?_
      rintro _ _ _ ⟨g7, rfl, rfl, rfl⟩
      refine XOA.wr0 rfl (WrA.st (tyrow rfl) rfl) ?_
      rintro _ _ _ ⟨rfl, rfl, rfl⟩
      refine zN ?_; refine zT ?_; refine zS ?_; refine zS ?_; refine zR ?_; refine zO rfl (Rd.fA rfl) ?_; refine zO rfl (Rd.ldC rfl (tyrow rfl) rfl) ?_; refine zO rfl (Rd.eql rfl rfl) ?_; refine zO rfl Rd.mv ?_
      first | ((first | refine zW ?_ | refine zQ ?_); refine zO rfl (Rd.fA rfl) ?_) | refine zU ?_ | refine zV ?_ | refine zZ ?_
      first | ((first | refine zW ?_ | refine zQ ?_); refine zO rfl (Rd.ldC rfl (tyrow rfl) rfl) ?_) | refine zU ?_ | refine zV ?_ | refine zZ ?_
      first | ((first | refine zW ?_ | refine zQ ?_); refine zO rfl (Rd.eql rfl rfl) ?_) | refine zU ?_ | refine zV ?_ | refine zZ ?_
      refine zO rfl (by first | exact Rd.pT rfl | exact Rd.pF rfl | exact Rd.pP rfl) ?_
      refine zN ?_; refine zT ?_
      refine XA.condF rfl (decide_eq_false h3) ?_
      refine XA.skip ?_
      refine zT ?_; refine zS ?_; refine zS ?_; refine zR ?_; refine zO rfl (Rd.fA rfl) ?_; refine zO rfl (Rd.ldC rfl (tyrow rfl) rfl) ?_; refine zO rfl (Rd.eql rfl rfl) ?_; refine zN ?_; refine zT ?_
      refine XA.condF rfl (decide_eq_false h3) ?_
      refine XA.skip ?_
      refine zT ?_; refine zS ?_; refine zR ?_; refine zO rfl Rd.mv ?_; refine zO rfl (Rd.ldA rfl) ?_
      refine XOA.wr0 rfl (WrA.bs1 (tyrow rfl) rfl (tyrow rfl)) ?_
      rintro _ _ _ ⟨g55, rfl, rfl, rfl⟩
      refine XOA.wr0 rfl (WrA.ap1 (tyrow rfl) rfl (tyrow rfl) rfl rfl rfl) ?_
      rintro _ _ _ ⟨p56, c56, rfl, rfl, rfl⟩
      refine zO rfl Rd.asg ?_; refine zN ?_; refine zT ?_
      refine XA.ret ?_
      exact bodyA.ret (ResA.one rfl rfl) zE ⟨_, _, rfl, hs1, rfl⟩
end Go.Proofs.Ytbbghdkndbpmmaa

namespace Go.Proofs.Ytbbghdkndbpmmaa
open Go X
set_option maxHeartbeats 1000000
def RStI (pr : Pr) (x : St) : Prop := ∀ (σ : PH) (cs : List Value) (pv : Option Addr) (cv : Nat) (bs : Value) (k : Nat),
  PrAt σ [.slice pv pr.vars.length cv, bs] pr → StAt σ cs x → StV pr.vars.length x → k + stN x ≤ 100000 →
  CallsA Try.prog 72 #[.agg #[.slice pv pr.vars.length cv, bs], .agg cs.toArray, i64 k] σ []
    (RetA fun v σ' Γ' => ∃ p c, v = .slice p (stCode pr.vars x k).length c ∧ σ.sub σ' ∧ Γ' = [lst 56 4 (.slice p (stCode pr.vars x k).length c) (stCode pr.vars x k).length (insC (stCode pr.vars x k))])
theorem rlist_i (pr : Pr) (l : List St) (ih : ∀ x ∈ l, RStI pr x) (σ : PH) (sl : Value) (pv : Option Addr) (cv : Nat) (bs : Value) (k : Nat)
    (hp : PrAt σ [.slice pv pr.vars.length cv, bs] pr) (hl : PSl 12 StAt σ sl l) (hsV : StsV pr.vars.length l) (hN : k + stsN l ≤ 100000) :
    CallsA Try.prog 51 #[.agg #[.slice pv pr.vars.length cv, bs], sl, i64 k] σ []
      (RetA fun v σ' Γ' => ∃ p c, v = .slice p (stsCode pr.vars l k).length c ∧ σ.sub σ' ∧ Γ' = [lst 56 4 (.slice p (stsCode pr.vars l k).length c) (stsCode pr.vars l k).length (insC (stsCode pr.vars l k))]) := by
  obtain ⟨pl, cl, rfl, hle, hmx⟩ := hl.shape
  have hlen : l.length ≤ 100000 := by have := stsN_len l; omega
  refine enterA3 Try.func51 rfl rfl rfl ?_
  refine zS ?_; refine zR ?_
  refine XOA.wr0 rfl WrA.bx ?_
  rintro _ _ _ ⟨g3, rfl, rfl, rfl⟩
  refine zO rfl Rd.asg ?_; refine zN ?_; refine zT ?_; refine zS ?_; refine zR ?_; refine zO rfl Rd.asg ?_; refine zN ?_; refine zT ?_; refine zS ?_; refine zS ?_; refine zR ?_; refine zO rfl Rd.asg ?_; refine zN ?_; refine zT ?_
  refine XA.block ?_
  refine XA.gen [(1, _), (2, _), (3, _), (6, _), (7, _), (8, _)] ⟨(by with_reducible (conv => lhs; whnf)), (by with_reducible (conv => lhs; whnf)), (by with_reducible (conv => lhs; whnf)), (by with_reducible (conv => lhs; whnf)), (by with_reducible (conv => lhs; whnf)), (by with_reducible (conv => lhs; whnf)), trivial⟩ (fun δ => ?_)
  dsimp only [List.foldl]
  refine XA.loop [(7, 26)] (fun q : Nat × (List In × (Option Addr × Nat)) => [(8, i64 q.1), (7, .slice q.2.2.1 q.2.1.length q.2.2.2)]) (fun q σ' Γ' => σ.sub σ' ∧ q.1 ≤ l.length ∧ q.2.1 = stsCode pr.vars (l.take q.1) k ∧ Γ' = [lst 56 4 (.slice q.2.2.1 q.2.1.length q.2.2.2) q.2.1.length (insC q.2.1), blk g3 [.slice pv pr.vars.length cv, bs] 25]) (fun q => l.length - q.1) (0, ([], (none, 0))) (by exact ⟨rfl, rfl, trivial⟩) (Δ0 := _) ?_ (⟨.refl _, Nat.zero_le _, by simp [stsCode], rfl⟩) ?_
  · exact zE
  rintro ⟨i, M, p', c'⟩ δ σ1 _ ⟨hs1, hi, hM, rfl⟩
  dsimp only [ovr, List.foldl]
  have hi : i ≤ l.length := hi
  have hM : M = stsCode pr.vars (l.take i) k := hM
  have hMl : k + M.length + stsN (l.drop i) ≤ 100000 := by
    have h2 := stsN_app (l.take i) (l.drop i); rw [List.take_append_drop] at h2
    have h3 := stsCode_len pr.vars (l.take i) k
    rw [hM]; omega
  refine zS ?_; refine zS ?_; refine zR ?_; refine zO rfl Rd.mv ?_; refine zO rfl Rd.mv ?_; refine zO rfl (Rd.lenSlice (tyrow rfl) rfl rfl) ?_; refine zO rfl (Rd.lss rfl rfl) ?_; refine zN ?_; refine zT ?_
  refine XA.condp rfl (fun hlt => ?_) (fun hlt => ?_)
  · have hlt : i < l.length := by omega
    obtain ⟨x', hx'⟩ : ∃ x', l[i]? = some x' := ⟨_, List.getElem?_eq_getElem hlt⟩
    have hl1 := hl.mono hs1 (fun _ _ h => h.mono hs1)
    obtain ⟨g, o, row, rfl, hrx, hrl, hrow⟩ := hl1.at hx'
    have hmem := List.mem_of_getElem? hx'
    have hone := hrx.ones
    have hdx : l.drop i = x' :: l.drop (i + 1) := drop_get hx'
    have hNx : stN x' ≤ stsN (l.drop i) := stsN_mem (by rw [hdx]; simp)
    have hE := stCode_len pr.vars x' (k + M.length)
    have hih := (ih x' hmem σ1 row pv cv bs (k + M.length) (hp.mono hs1) hrx (hsV.mem x' hmem) (by omega)).lstOut
    rw [show (((k + M.length : Nat) : Int)) = (k : Int) + (M.length : Int) from by omega] at hih
    refine XA.skip ?_
    refine zT ?_; refine zS ?_
    refine XA.block ?_
    refine XA.draw (by kernel_rfl) _ _ [10, 11] [(0, .pu), (1, .rd), (2, .pu), (3, .pu), (4, .pu), (5, .rd), (6, .pu), (7, .pu), (8, .pu), (9, .pu), (10, .wr), (11, .wr), (12, .pu)] (by kernel_rfl) (PH.sub.refl _) (Ent.sel (R := blk g3 _ _) (by ((repeat (first | with_reducible exact Sel.head | apply Sel.tail)); (first | done | fail))) (Ent.nil _)) ?_
    refine XPA.pu rfl rfl Gd.free Rd.mv ?_
    refine XPA.rd rfl rfl Gd.free (Rd.ldA rfl) ?_
    refine XPA.pu rfl rfl Gd.free Rd.mv ?_
    refine XPA.pu rfl rfl Gd.free Rd.mv ?_
    refine XPA.pu rfl rfl Gd.free (Rd.ixS rfl rfl) ?_
    refine XPA.rd rfl rfl Gd.free (Rd.ldA rfl) ?_
    refine XPA.pu rfl rfl Gd.free Rd.mv ?_
    refine XPA.pu rfl rfl Gd.free Rd.mv ?_
    refine XPA.pu rfl rfl Gd.free (Rd.lenSlice (tyrow rfl) rfl rfl) ?_
    refine XPA.pu rfl rfl Gd.free (by first | exact Rd.adi rfl rfl | exact Rd.add rfl rfl) ?_
    refine XPA.wrZ0 rfl rfl Gd.free (by kernel_rfl) (WrA.cE (hih) rfl) ?_
    rintro _ σ2 _ ⟨_, ⟨p2, c2, rfl, hs2, hf2, rfl⟩, rfl⟩
    refine XPA.cl ?_
    refine XPA.wrZ0 rfl rfl Gd.free (by kernel_rfl) (WrA.appP (tyrow rfl) rfl (tyrow rfl) rfl rfl (by ((repeat (first | with_reducible exact Sel.head | apply Sel.tail)); (first | done | fail))) rfl hf2 rfl (insC_ones _) (by simp only [maxLen]; omega) (by simp only []; omega) List.length_append (insC_app _ _)) ?_
    rintro _ _ _ ⟨p8, c8, rfl, rfl, rfl⟩
    refine XPA.pu rfl rfl Gd.free Rd.asg ?_
    refine XPA.nil ?_
    refine DA.inb_normal ?_
    refine zT ?_; refine zR ?_; refine zO rfl Rd.mv ?_
    refine zO rfl (by first | exact Rd.adi rfl rfl | exact Rd.add rfl rfl) ?_
    refine zO rfl Rd.asg ?_; refine zN ?_; refine zT ?_
    refine ⟨(Keep.upd (Keep.upd (Keep.upd (Keep.upd (Keep.updO (Keep.updO (Keep.upd (Keep.upd (Keep.upd (Keep.upd (Keep.upd (Keep.upd (Keep.upd (Keep.upd (Keep.upd (Keep.upd (Keep.upd (Keep.upd (Keep.upd (Keep.upd (Keep.upd (Keep.upd (Keep.hav (Keep.refl _ _) rfl) rfl) rfl) rfl) rfl) rfl) rfl) rfl) rfl) rfl) rfl) rfl) rfl) rfl) rfl) rfl) rfl) rfl) rfl) rfl) rfl) rfl) rfl), (i + 1, (M ++ stCode pr.vars x' (k + M.length), (p8, c8))), _, (by (repeat (first | exact trivial | refine ⟨rfl, ?_⟩ | refine ⟨Eq.trans rfl (congrArg Value.bool hmat.symm), ?_⟩)); (first | done | fail)), ?_, ⟨hs1.trans hs2, hlt, by simp only; rw [stsCode_snoc _ hx', ← hM], rfl⟩, (by simp only; omega)⟩
    · exact zE
  have hil : i = l.length := by omega
  subst hil
  rw [List.take_length] at hM
  rw [← hM]
  refine XA.exit ?_
  refine DA.thn_exit ?_
  refine DA.thn_exit ?_
  refine DA.inb_same ?_
  refine zT ?_; refine zS ?_; refine zR ?_; refine zO rfl Rd.mv ?_; refine zO rfl Rd.asg ?_; refine zN ?_; refine zT ?_
  refine XA.ret ?_
  exact bodyA.ret (ResA.one rfl rfl) zE ⟨p', c', rfl, hs1, rfl⟩
theorem rstmt_i (pr : Pr) (hz : ∀ x ∈ pr.vars, 0 ≤ x.size ∧ x.size ≤ 1000) (hvl : pr.vars.length ≤ 1000) (x : St) : RStI pr x := by
  refine St.ind (P := RStI pr) ?_ x
  intro op v ex fx body els ih jh σ cs pv cv bs k hp hx hV hN
  obtain ⟨pe, de, pf, df, pb, cb, pl, cl, rfl, -, -, hxe, hxf, hxb, hxl⟩ := hx.inv12
  simp only [St.op, St.v, St.e, St.f, St.body, St.els] at hxe hxf hxb hxl ⊢
  clear hx
  rw [StV] at hV
  obtain ⟨hop, hv, he, hf, -, -, hsb, hse⟩ := hV
  rw [stN] at hN
  have hlE := exCode_len pr.vars ex
  have hlF := exCode_len pr.vars fx
  have e1 := exN_pos ex
  have e2 := exN_pos fx
  have hops : op = 1 ∨ op = 2 ∨ op = 3 ∨ op = 4 ∨ op = 7 ∨ op = 5 ∨ op = 6 := by omega
  rcases hops with rfl | rfl | rfl | rfl | rfl | h56
  · have hc : stCode pr.vars (.mk 1 v ex fx body els) k = exCode pr.vars ex ++ [⟨9, cellOf pr.vars v, 0, 0⟩] := by rw [stCode]; rfl
    rw [hc]
    simp only [List.length_append, List.length_singleton, insC_snoc, insC_app]
    refine enterA3 Try.func72 rfl rfl rfl ?_
    refine zS ?_; refine zR ?_
    refine XOA.wr0 rfl WrA.bx ?_
    rintro _ _ _ ⟨g3, rfl, rfl, rfl⟩
    refine XOA.wr0 rfl WrA.bx ?_
    rintro _ _ _ ⟨g4, rfl, rfl, rfl⟩
    refine zO rfl Rd.asg ?_; refine zN ?_; refine zT ?_; refine zS ?_; refine zR ?_; refine zO rfl Rd.asg ?_; refine zN ?_; refine zT ?_; refine zS ?_; refine zS ?_; refine zR ?_; refine zO rfl (Rd.fA rfl) ?_; refine zO rfl (Rd.ldC rfl (tyrow rfl) rfl) ?_
    refine XOA.wr0 rfl (WrA.cE (rneeded_a σ 1 101) rfl) ?_
    rintro _ _ _ ⟨_, ⟨rfl, rfl, rfl⟩, rfl⟩
    refine XOA.cl ?_
    rw [(need_op 1).1]
    refine zN ?_; refine zT ?_
    refine XA.condT rfl rfl ?_
    refine zR ?_; refine zO rfl (Rd.ldA rfl) ?_; refine zO rfl (Rd.fA rfl) ?_; refine zO rfl (Rd.ldA rfl) ?_
    refine XOA.wr0 rfl (WrA.cE ((rexpr_i pr hz hvl ex σ _ _ cv bs hp hxe (he rfl).1 (by omega))) rfl) ?_
    rintro _ σ1 _ ⟨_, ⟨p2, c2, rfl, hs1, rfl⟩, rfl⟩
    refine XOA.cl ?_
    refine zO rfl Rd.asg ?_; refine zN ?_; refine zT ?_; refine zS ?_; refine zR ?_; refine zO rfl (Rd.ldA rfl) ?_; refine zO rfl (Rd.fA rfl) ?_; refine zO rfl (Rd.ldC rfl (tyrow rfl) rfl) ?_
    refine XOA.wr0 rfl (WrA.cE (rcell_a σ1 _ pr v (hp.mono hs1) hz hvl) rfl) ?_
    rintro _ _ _ ⟨_, ⟨rfl, rfl, rfl⟩, rfl⟩
    refine XOA.cl ?_
    refine zO rfl Rd.asg ?_; refine zN ?_; refine zT ?_; refine zS ?_; refine zS ?_; refine zR ?_; refine zO rfl (Rd.fA rfl) ?_; refine zO rfl (Rd.ldC rfl (tyrow rfl) rfl) ?_; refine zN ?_; refine zT ?_
    refine XA.block ?_
    refine zS ?_; refine zR ?_; refine zO rfl (Rd.eql rfl rfl) ?_; refine zO rfl Rd.asg ?_; refine zN ?_; refine zT ?_
    refine XA.condT rfl rfl ?_
    refine zS ?_; refine zR ?_; refine zO rfl Rd.mv ?_; refine zO rfl Rd.mv ?_
    refine zO rfl (Rd.bl (fun _ _ => tyrow) rfl rfl rfl) ?_
    refine XOA.wr0 rfl (WrA.bs1 (tyrow rfl) rfl (tyrow rfl)) ?_
    rintro _ _ _ ⟨g30, rfl, rfl, rfl⟩
    refine XOA.wr0 rfl (WrA.ap1 (tyrow rfl) rfl (tyrow rfl) rfl rfl rfl) ?_
    rintro _ _ _ ⟨p31, c31, rfl, rfl, rfl⟩
    refine zO rfl Rd.asg ?_; refine zN ?_; refine zT ?_
    refine XA.ret ?_
    refine DA.inb_ret ?_
    refine DA.thn_ret ?_
    exact bodyA.ret (ResA.one rfl rfl) zE ⟨_, _, rfl, hs1, rfl⟩
  · obtain ⟨hv0, hv1⟩ := hv rfl
    obtain ⟨vx, hvx⟩ : ∃ vx, pr.vars[v.toNat]? = some vx := ⟨_, List.getElem?_eq_getElem (by omega)⟩
    have hc : stCode pr.vars (.mk 2 v ex fx body els) k = exCode pr.vars ex ++ exCode pr.vars fx ++ [⟨10, cellOf pr.vars v, vx.size, 0⟩] := by rw [stCode, sizeV, hvx]; rfl
    rw [hc]
    rw [List.length_append, List.length_singleton, insC_snoc]
    have hp0 := hp
    obtain ⟨vs', bs', heq, hpv, hpb⟩ := hp
    simp only [List.cons.injEq, and_true] at heq
    obtain ⟨rfl, rfl⟩ := heq
    obtain ⟨gg, oo, rowv, rfl, ⟨rfl, ⟨hz0, hz1⟩, hnm⟩, hrl, hrow⟩ := hpv.at hvx
    refine enterA3 Try.func72 rfl rfl rfl ?_
    refine zS ?_; refine zR ?_
    refine XOA.wr0 rfl WrA.bx ?_
    rintro _ _ _ ⟨g3, rfl, rfl, rfl⟩
    refine XOA.wr0 rfl WrA.bx ?_
    rintro _ _ _ ⟨g4, rfl, rfl, rfl⟩
    refine zO rfl Rd.asg ?_; refine zN ?_; refine zT ?_; refine zS ?_; refine zR ?_; refine zO rfl Rd.asg ?_; refine zN ?_; refine zT ?_; refine zS ?_; refine zS ?_; refine zR ?_; refine zO rfl (Rd.fA rfl) ?_; refine zO rfl (Rd.ldC rfl (tyrow rfl) rfl) ?_
    refine XOA.wr0 rfl (WrA.cE (rneeded_a σ 2 101) rfl) ?_
    rintro _ _ _ ⟨_, ⟨rfl, rfl, rfl⟩, rfl⟩
    refine XOA.cl ?_
    rw [(need_op 2).1]
    refine zN ?_; refine zT ?_
    refine XA.condT rfl rfl ?_
    refine zR ?_; refine zO rfl (Rd.ldA rfl) ?_; refine zO rfl (Rd.fA rfl) ?_; refine zO rfl (Rd.ldA rfl) ?_
    refine XOA.wr0 rfl (WrA.cE ((rexpr_i pr hz hvl ex σ _ _ cv bs hp0 hxe (he rfl).1 (by omega))) rfl) ?_
    rintro _ σ1 _ ⟨_, ⟨p2, c2, rfl, hs1, rfl⟩, rfl⟩
    refine XOA.cl ?_
    refine zO rfl Rd.asg ?_; refine zN ?_; refine zT ?_; refine zS ?_; refine zR ?_; refine zO rfl (Rd.ldA rfl) ?_; refine zO rfl (Rd.fA rfl) ?_; refine zO rfl (Rd.ldC rfl (tyrow rfl) rfl) ?_
    refine XOA.wr0 rfl (WrA.cE (rcell_a σ1 _ pr v (hp0.mono hs1) hz hvl) rfl) ?_
    rintro _ _ _ ⟨_, ⟨rfl, rfl, rfl⟩, rfl⟩
    refine XOA.cl ?_
    refine zO rfl Rd.asg ?_; refine zN ?_; refine zT ?_; refine zS ?_; refine zS ?_; refine zR ?_; refine zO rfl (Rd.fA rfl) ?_; refine zO rfl (Rd.ldC rfl (tyrow rfl) rfl) ?_; refine zN ?_; refine zT ?_
    refine XA.block ?_
    refine zS ?_; refine zR ?_; refine zO rfl (Rd.eql rfl rfl) ?_; refine zO rfl Rd.asg ?_; refine zN ?_; refine zT ?_
    refine XA.condF rfl rfl ?_
    refine zS ?_; refine zR ?_; refine zO rfl (Rd.eql rfl rfl) ?_; refine zO rfl Rd.asg ?_; refine zN ?_; refine zT ?_
    refine XA.condT rfl rfl ?_
    refine zS ?_; refine zR ?_; refine zO rfl Rd.mv ?_; refine zO rfl (Rd.ldA rfl) ?_; refine zO rfl (Rd.fA rfl) ?_; refine zO rfl (Rd.ldA rfl) ?_
    refine XOA.wr0 rfl (WrA.cE ((rexpr_i pr hz hvl fx σ1 _ _ cv bs (hp0.mono hs1) (hxf.mono hs1) (hf rfl).1 (by omega)).lstOut) rfl) ?_
    rintro _ σ2 _ ⟨_, ⟨p3, c3, rfl, hs2, hf2, rfl⟩, rfl⟩
    refine XOA.cl ?_
    have r1 : PRow σ2 gg (oo + v.toNat * 2 + 1) [i64 vx.size] := (hrow.sub (j := 1) rfl).mono (hs1.trans hs2)
    refine XOA.wr0 rfl (WrA.appP (tyrow rfl) rfl (tyrow rfl) rfl rfl (by ((repeat (first | with_reducible exact Sel.head | apply Sel.tail)); (first | done | fail))) rfl hf2 rfl (insC_ones _) (by simp only [maxLen]; omega) (by simp only []; omega) (@List.length_append _ (exCode pr.vars ex) (exCode pr.vars fx)) (insC_app _ _)) ?_
    rintro _ _ _ ⟨p8, c8, rfl, rfl, rfl⟩
    refine zO rfl Rd.asg ?_; refine zN ?_; refine zT ?_; refine zS ?_; refine zR ?_; refine zO rfl Rd.mv ?_; refine zO rfl Rd.mv ?_; refine zO rfl (Rd.fA rfl) ?_; refine zO rfl (Rd.ldC rfl (tyrow rfl) rfl) ?_; refine zO rfl (Rd.fA rfl) ?_; refine zO rfl (Rd.ldC rfl (tyrow rfl) rfl) ?_
    refine zO rfl (Rd.ixS rfl rfl) ?_
    refine zO rfl (Rd.fA rfl) ?_; refine zO rfl (Rd.ldC rfl (tyrow rfl) rfl) ?_
    refine zO rfl (Rd.bl (fun _ _ => tyrow) rfl rfl rfl) ?_
    refine XOA.wr0 rfl (WrA.bs1 (tyrow rfl) rfl (tyrow rfl)) ?_
    rintro _ _ _ ⟨g50, rfl, rfl, rfl⟩
    have hl2 : (exCode pr.vars ex ++ exCode pr.vars fx).length ≤ 200000 := by rw [List.length_append]; omega
    refine XOA.wr0 rfl (WrA.ap1 (tyrow rfl) rfl (tyrow rfl) rfl rfl rfl) ?_
    rintro _ _ _ ⟨p51, c51, rfl, rfl, rfl⟩
    refine zO rfl Rd.asg ?_; refine zN ?_; refine zT ?_
    refine XA.ret ?_
    refine DA.inb_ret ?_
    refine DA.thn_ret ?_
    exact bodyA.ret (ResA.one rfl rfl) zE ⟨_, _, rfl, hs1.trans hs2, rfl⟩
  · have hc : stCode pr.vars (.mk 3 v ex fx body els) k = exCode pr.vars ex ++ [⟨11, 0, 0, 0⟩] := by rw [stCode]; rfl
    rw [hc]
    simp only [List.length_append, List.length_singleton, insC_snoc, insC_app]
    refine enterA3 Try.func72 rfl rfl rfl ?_
    refine zS ?_; refine zR ?_
    refine XOA.wr0 rfl WrA.bx ?_
    rintro _ _ _ ⟨g3, rfl, rfl, rfl⟩
    refine XOA.wr0 rfl WrA.bx ?_
    rintro _ _ _ ⟨g4, rfl, rfl, rfl⟩
    refine zO rfl Rd.asg ?_; refine zN ?_; refine zT ?_; refine zS ?_; refine zR ?_; refine zO rfl Rd.asg ?_; refine zN ?_; refine zT ?_; refine zS ?_; refine zS ?_; refine zR ?_; refine zO rfl (Rd.fA rfl) ?_; refine zO rfl (Rd.ldC rfl (tyrow rfl) rfl) ?_
    refine XOA.wr0 rfl (WrA.cE (rneeded_a σ 3 101) rfl) ?_
    rintro _ _ _ ⟨_, ⟨rfl, rfl, rfl⟩, rfl⟩
    refine XOA.cl ?_
    rw [(need_op 3).1]
    refine zN ?_; refine zT ?_
    refine XA.condT rfl rfl ?_
    refine zR ?_; refine zO rfl (Rd.ldA rfl) ?_; refine zO rfl (Rd.fA rfl) ?_; refine zO rfl (Rd.ldA rfl) ?_
    refine XOA.wr0 rfl (WrA.cE ((rexpr_i pr hz hvl ex σ _ _ cv bs hp hxe (he rfl).1 (by omega))) rfl) ?_
    rintro _ σ1 _ ⟨_, ⟨p2, c2, rfl, hs1, rfl⟩, rfl⟩
    refine XOA.cl ?_
    refine zO rfl Rd.asg ?_; refine zN ?_; refine zT ?_; refine zS ?_; refine zR ?_; refine zO rfl (Rd.ldA rfl) ?_; refine zO rfl (Rd.fA rfl) ?_; refine zO rfl (Rd.ldC rfl (tyrow rfl) rfl) ?_
    refine XOA.wr0 rfl (WrA.cE (rcell_a σ1 _ pr v (hp.mono hs1) hz hvl) rfl) ?_
    rintro _ _ _ ⟨_, ⟨rfl, rfl, rfl⟩, rfl⟩
    refine XOA.cl ?_
    refine zO rfl Rd.asg ?_; refine zN ?_; refine zT ?_; refine zS ?_; refine zS ?_; refine zR ?_; refine zO rfl (Rd.fA rfl) ?_; refine zO rfl (Rd.ldC rfl (tyrow rfl) rfl) ?_; refine zN ?_; refine zT ?_
    refine XA.block ?_
    refine zS ?_; refine zR ?_; refine zO rfl (Rd.eql rfl rfl) ?_; refine zO rfl Rd.asg ?_; refine zN ?_; refine zT ?_
    refine XA.condF rfl rfl ?_
    refine zS ?_; refine zR ?_; refine zO rfl (Rd.eql rfl rfl) ?_; refine zO rfl Rd.asg ?_; refine zN ?_; refine zT ?_
    refine XA.condF rfl rfl ?_
    refine zS ?_; refine zR ?_; refine zO rfl (Rd.eql rfl rfl) ?_; refine zO rfl Rd.asg ?_; refine zN ?_; refine zT ?_
    refine XA.condT rfl rfl ?_
    refine zS ?_; refine zR ?_; refine zO rfl Rd.mv ?_
    refine zO rfl (Rd.bl (fun _ _ => tyrow) rfl rfl rfl) ?_
    refine XOA.wr0 rfl (WrA.bs1 (tyrow rfl) rfl (tyrow rfl)) ?_
    rintro _ _ _ ⟨g56, rfl, rfl, rfl⟩
    refine XOA.wr0 rfl (WrA.ap1 (tyrow rfl) rfl (tyrow rfl) rfl rfl rfl) ?_
    rintro _ _ _ ⟨p57, c57, rfl, rfl, rfl⟩
    refine zO rfl Rd.asg ?_; refine zN ?_; refine zT ?_
    refine XA.ret ?_
    refine DA.inb_ret ?_
    refine DA.thn_ret ?_
    exact bodyA.ret (ResA.one rfl rfl) zE ⟨_, _, rfl, hs1, rfl⟩
  · have hc : stCode pr.vars (.mk 4 v ex fx body els) k = [⟨12, cellOf pr.vars v, 0, 0⟩] := by rw [stCode]; rfl
    rw [hc]
    simp only [List.length_append, List.length_singleton, insC_snoc, insC_app]
    refine enterA3 Try.func72 rfl rfl rfl ?_
    refine zS ?_; refine zR ?_
    refine XOA.wr0 rfl WrA.bx ?_
    rintro _ _ _ ⟨g3, rfl, rfl, rfl⟩
    refine XOA.wr0 rfl WrA.bx ?_
    rintro _ _ _ ⟨g4, rfl, rfl, rfl⟩
    refine zO rfl Rd.asg ?_; refine zN ?_; refine zT ?_; refine zS ?_; refine zR ?_; refine zO rfl Rd.asg ?_; refine zN ?_; refine zT ?_; refine zS ?_; refine zS ?_; refine zR ?_; refine zO rfl (Rd.fA rfl) ?_; refine zO rfl (Rd.ldC rfl (tyrow rfl) rfl) ?_
    refine XOA.wr0 rfl (WrA.cE (rneeded_a σ 4 101) rfl) ?_
    rintro _ _ _ ⟨_, ⟨rfl, rfl, rfl⟩, rfl⟩
    refine XOA.cl ?_
    rw [(need_op 4).1]
    refine zN ?_; refine zT ?_
    refine XA.condF rfl rfl ?_
    refine XA.skip ?_
    refine zT ?_; refine zS ?_; refine zR ?_; refine zO rfl (Rd.ldA rfl) ?_; refine zO rfl (Rd.fA rfl) ?_; refine zO rfl (Rd.ldC rfl (tyrow rfl) rfl) ?_
    refine XOA.wr0 rfl (WrA.cE (rcell_a σ _ pr v hp hz hvl) rfl) ?_
    rintro _ _ _ ⟨_, ⟨rfl, rfl, rfl⟩, rfl⟩
    refine XOA.cl ?_
    refine zO rfl Rd.asg ?_; refine zN ?_; refine zT ?_; refine zS ?_; refine zS ?_; refine zR ?_; refine zO rfl (Rd.fA rfl) ?_; refine zO rfl (Rd.ldC rfl (tyrow rfl) rfl) ?_; refine zN ?_; refine zT ?_
    refine XA.block ?_
    refine zS ?_; refine zR ?_; refine zO rfl (Rd.eql rfl rfl) ?_; refine zO rfl Rd.asg ?_; refine zN ?_; refine zT ?_
    refine XA.condF rfl rfl ?_
    refine zS ?_; refine zR ?_; refine zO rfl (Rd.eql rfl rfl) ?_; refine zO rfl Rd.asg ?_; refine zN ?_; refine zT ?_
    refine XA.condF rfl rfl ?_
    refine zS ?_; refine zR ?_; refine zO rfl (Rd.eql rfl rfl) ?_; refine zO rfl Rd.asg ?_; refine zN ?_; refine zT ?_
    refine XA.condF rfl rfl ?_
    refine zS ?_; refine zR ?_; refine zO rfl (Rd.eql rfl rfl) ?_; refine zO rfl Rd.asg ?_; refine zN ?_; refine zT ?_
    refine XA.condT rfl rfl ?_
    refine zS ?_; refine zR ?_; refine zO rfl Rd.mv ?_; refine zO rfl Rd.mv ?_
    refine zO rfl (Rd.bl (fun _ _ => tyrow) rfl rfl rfl) ?_
    refine XOA.wr0 rfl (WrA.bs1 (tyrow rfl) rfl (tyrow rfl)) ?_
    rintro _ _ _ ⟨g63, rfl, rfl, rfl⟩
    refine XOA.ent (Ent.selNil (e := 56) (size := 4) (Ent.refl _)) ?_
    refine XOA.wr0 rfl (WrA.ap1 (tyrow rfl) rfl (tyrow rfl) rfl rfl rfl) ?_
    rintro _ _ _ ⟨p64, c64, rfl, rfl, rfl⟩
    refine zO rfl Rd.asg ?_; refine zN ?_; refine zT ?_
    refine XA.ret ?_
    refine DA.inb_ret ?_
    refine DA.thn_ret ?_
    exact bodyA.ret (ResA.one rfl rfl) zE ⟨_, _, rfl, .refl _, rfl⟩
  · have hc : stCode pr.vars (.mk 7 v ex fx body els) k = [⟨15, 0, 0, 0⟩] := by rw [stCode]; rfl
    rw [hc]
    simp only [List.length_append, List.length_singleton, insC_snoc, insC_app]
    refine enterA3 Try.func72 rfl rfl rfl ?_
    refine zS ?_; refine zR ?_
    refine XOA.wr0 rfl WrA.bx ?_
    rintro _ _ _ ⟨g3, rfl, rfl, rfl⟩
    refine XOA.wr0 rfl WrA.bx ?_
    rintro _ _ _ ⟨g4, rfl, rfl, rfl⟩
    refine zO rfl Rd.asg ?_; refine zN ?_; refine zT ?_; refine zS ?_; refine zR ?_; refine zO rfl Rd.asg ?_; refine zN ?_; refine zT ?_; refine zS ?_; refine zS ?_; refine zR ?_; refine zO rfl (Rd.fA rfl) ?_; refine zO rfl (Rd.ldC rfl (tyrow rfl) rfl) ?_
    refine XOA.wr0 rfl (WrA.cE (rneeded_a σ 7 101) rfl) ?_
    rintro _ _ _ ⟨_, ⟨rfl, rfl, rfl⟩, rfl⟩
    refine XOA.cl ?_
    rw [(need_op 7).1]
    refine zN ?_; refine zT ?_
    refine XA.condF rfl rfl ?_
    refine XA.skip ?_
    refine zT ?_; refine zS ?_; refine zR ?_; refine zO rfl (Rd.ldA rfl) ?_; refine zO rfl (Rd.fA rfl) ?_; refine zO rfl (Rd.ldC rfl (tyrow rfl) rfl) ?_
    refine XOA.wr0 rfl (WrA.cE (rcell_a σ _ pr v hp hz hvl) rfl) ?_
    rintro _ _ _ ⟨_, ⟨rfl, rfl, rfl⟩, rfl⟩
    refine XOA.cl ?_
    refine zO rfl Rd.asg ?_; refine zN ?_; refine zT ?_; refine zS ?_; refine zS ?_; refine zR ?_; refine zO rfl (Rd.fA rfl) ?_; refine zO rfl (Rd.ldC rfl (tyrow rfl) rfl) ?_; refine zN ?_; refine zT ?_
    refine XA.block ?_
    refine zS ?_; refine zR ?_; refine zO rfl (Rd.eql rfl rfl) ?_; refine zO rfl Rd.asg ?_; refine zN ?_; refine zT ?_
    refine XA.condF rfl rfl ?_
    refine zS ?_; refine zR ?_; refine zO rfl (Rd.eql rfl rfl) ?_; refine zO rfl Rd.asg ?_; refine zN ?_; refine zT ?_
    refine XA.condF rfl rfl ?_
    refine zS ?_; refine zR ?_; refine zO rfl (Rd.eql rfl rfl) ?_; refine zO rfl Rd.asg ?_; refine zN ?_; refine zT ?_
    refine XA.condF rfl rfl ?_
    refine zS ?_; refine zR ?_; refine zO rfl (Rd.eql rfl rfl) ?_; refine zO rfl Rd.asg ?_; refine zN ?_; refine zT ?_
    refine XA.condF rfl rfl ?_
    refine zS ?_; refine zR ?_; refine zO rfl (Rd.eql rfl rfl) ?_; refine zO rfl Rd.asg ?_; refine zN ?_; refine zT ?_
    refine XA.condT rfl rfl ?_
    refine zS ?_; refine zR ?_; refine zO rfl Rd.mv ?_
    refine zO rfl (Rd.bl (fun _ _ => tyrow) rfl rfl rfl) ?_
    refine XOA.wr0 rfl (WrA.bs1 (tyrow rfl) rfl (tyrow rfl)) ?_
    rintro _ _ _ ⟨g69, rfl, rfl, rfl⟩
    refine XOA.ent (Ent.selNil (e := 56) (size := 4) (Ent.refl _)) ?_
    refine XOA.wr0 rfl (WrA.ap1 (tyrow rfl) rfl (tyrow rfl) rfl rfl rfl) ?_
    rintro _ _ _ ⟨p70, c70, rfl, rfl, rfl⟩
    refine zO rfl Rd.asg ?_; refine zN ?_; refine zT ?_
    refine XA.ret ?_
    refine DA.inb_ret ?_
    refine DA.thn_ret ?_
    exact bodyA.ret (ResA.one rfl rfl) zE ⟨_, _, rfl, .refl _, rfl⟩
  · rcases h56 with rfl | rfl
    · obtain ⟨B, hB⟩ : ∃ B, B = stsCode pr.vars body (k + (exCode pr.vars ex).length + 1) := ⟨_, rfl⟩
      have hBl : B.length ≤ stsN body := by rw [hB]; exact stsCode_len _ _ _
      have hcast1 : ((k + (exCode pr.vars ex).length + 1 : Nat) : Int) = (k : Int) + ((exCode pr.vars ex).length : Int) + 1 := by omega
      have hcast2 : ((k + (exCode pr.vars ex).length + 1 + B.length + 1 : Nat) : Int) = (k : Int) + ((exCode pr.vars ex).length : Int) + 1 + (B.length : Int) + 1 := by omega
      have hlb := fun σ2 (hs : σ.sub σ2) => (rlist_i pr body ih σ2 (.slice pb body.length cb) pv cv bs (k + (exCode pr.vars ex).length + 1) (hp.mono hs) (hxb.mono hs (fun _ _ h => h.mono hs)) hsb (by omega)).lstOut
      rw [← hB, hcast1] at hlb
      rw [stCode_5, ← hB, hcast2]
      rw [List.length_append, List.length_append, List.length_append, List.length_singleton, List.length_singleton, insC_snoc, insC_app, insC_snoc]
      refine enterA3 Try.func72 rfl rfl rfl ?_
      refine zS ?_; refine zR ?_
      refine XOA.wr0 rfl WrA.bx ?_
      rintro _ _ _ ⟨g3, rfl, rfl, rfl⟩
      refine XOA.wr0 rfl WrA.bx ?_
      rintro _ _ _ ⟨g4, rfl, rfl, rfl⟩
      refine zO rfl Rd.asg ?_; refine zN ?_; refine zT ?_; refine zS ?_; refine zR ?_; refine zO rfl Rd.asg ?_; refine zN ?_; refine zT ?_; refine zS ?_; refine zS ?_; refine zR ?_; refine zO rfl (Rd.fA rfl) ?_; refine zO rfl (Rd.ldC rfl (tyrow rfl) rfl) ?_
      refine XOA.wr0 rfl (WrA.cE (rneeded_a σ 5 101) rfl) ?_
      rintro _ _ _ ⟨_, ⟨rfl, rfl, rfl⟩, rfl⟩
      refine XOA.cl ?_
      rw [(need_op 5).1]
      refine zN ?_; refine zT ?_
      refine XA.condT rfl rfl ?_
      refine zR ?_; refine zO rfl (Rd.ldA rfl) ?_; refine zO rfl (Rd.fA rfl) ?_; refine zO rfl (Rd.ldA rfl) ?_
      refine XOA.wr0 rfl (WrA.cE ((rexpr_i pr hz hvl ex σ _ _ cv bs hp hxe (he rfl).1 (by omega))) rfl) ?_
      rintro _ σ1 _ ⟨_, ⟨p2, c2, rfl, hs1, rfl⟩, rfl⟩
      refine XOA.cl ?_
      refine zO rfl Rd.asg ?_; refine zN ?_; refine zT ?_; refine zS ?_; refine zR ?_; refine zO rfl (Rd.ldA rfl) ?_; refine zO rfl (Rd.fA rfl) ?_; refine zO rfl (Rd.ldC rfl (tyrow rfl) rfl) ?_
      refine XOA.wr0 rfl (WrA.cE (rcell_a σ1 _ pr v (hp.mono hs1) hz hvl) rfl) ?_
      rintro _ _ _ ⟨_, ⟨rfl, rfl, rfl⟩, rfl⟩
      refine XOA.cl ?_
      refine zO rfl Rd.asg ?_; refine zN ?_; refine zT ?_; refine zS ?_; refine zS ?_; refine zR ?_; refine zO rfl (Rd.fA rfl) ?_; refine zO rfl (Rd.ldC rfl (tyrow rfl) rfl) ?_; refine zN ?_; refine zT ?_
      refine XA.block ?_
      refine zS ?_; refine zR ?_; refine zO rfl (Rd.eql rfl rfl) ?_; refine zO rfl Rd.asg ?_; refine zN ?_; refine zT ?_
      refine XA.condF rfl rfl ?_
      refine zS ?_; refine zR ?_; refine zO rfl (Rd.eql rfl rfl) ?_; refine zO rfl Rd.asg ?_; refine zN ?_; refine zT ?_
      refine XA.condF rfl rfl ?_
      refine zS ?_; refine zR ?_; refine zO rfl (Rd.eql rfl rfl) ?_; refine zO rfl Rd.asg ?_; refine zN ?_; refine zT ?_
      refine XA.condF rfl rfl ?_
      refine zS ?_; refine zR ?_; refine zO rfl (Rd.eql rfl rfl) ?_; refine zO rfl Rd.asg ?_; refine zN ?_; refine zT ?_
      refine XA.condF rfl rfl ?_
      refine zS ?_; refine zR ?_; refine zO rfl (Rd.eql rfl rfl) ?_; refine zO rfl Rd.asg ?_; refine zN ?_; refine zT ?_
      refine XA.condF rfl rfl ?_
      refine XA.skip ?_
      refine DA.inb_normal ?_
      refine zT ?_; refine zS ?_; refine zR ?_; refine zO rfl (Rd.ldA rfl) ?_; refine zO rfl (Rd.fA rfl) ?_; refine zO rfl (Rd.ldC rfl (tyrow rfl) rfl) ?_; refine zO rfl Rd.mv ?_; refine zO rfl Rd.mv ?_; refine zO rfl (Rd.lenSlice (tyrow rfl) rfl rfl) ?_
      refine zO rfl (by first | exact Rd.adi rfl rfl | exact Rd.add rfl rfl) ?_
      refine zO rfl (by first | exact Rd.adi rfl rfl | exact Rd.add rfl rfl) ?_

      refine XOA.wr0 rfl (WrA.cE (hlb σ1 hs1) rfl) ?_
      rintro _ σ2 _ ⟨_, ⟨p3, c3, rfl, hs2, hf2, rfl⟩, rfl⟩
      refine XOA.cl ?_
      refine zO rfl Rd.asg ?_; refine zN ?_; refine zT ?_; refine zS ?_; refine zR ?_; refine zO rfl Rd.mv ?_; refine zO rfl Rd.mv ?_; refine zO rfl (Rd.lenSlice (tyrow rfl) rfl rfl) ?_
      refine zO rfl (by first | exact Rd.adi rfl rfl | exact Rd.add rfl rfl) ?_
      refine zO rfl (by first | exact Rd.adi rfl rfl | exact Rd.add rfl rfl) ?_
      refine zO rfl Rd.mv ?_; refine zO rfl (Rd.lenSlice (tyrow rfl) rfl rfl) ?_
      refine zO rfl (by first | exact Rd.adi rfl rfl | exact Rd.add rfl rfl) ?_
      refine zO rfl (by first | exact Rd.adi rfl rfl | exact Rd.add rfl rfl) ?_
      refine zO rfl Rd.asg ?_; refine zN ?_; refine zT ?_; refine zS ?_; refine zR ?_; refine zO rfl Rd.mv ?_; refine zO rfl Rd.mv ?_
      refine zO rfl (Rd.bl (fun _ _ => tyrow) rfl rfl rfl) ?_
      refine XOA.wr0 rfl (WrA.bs1 (tyrow rfl) rfl (tyrow rfl)) ?_
      rintro _ _ _ ⟨g92, rfl, rfl, rfl⟩
      refine XOA.wr0 rfl (WrA.ap1 (tyrow rfl) rfl (tyrow rfl) rfl rfl rfl) ?_
      rintro _ _ _ ⟨p93, c93, rfl, rfl, rfl⟩
      refine zO rfl Rd.asg ?_; refine zN ?_; refine zT ?_; refine zS ?_; refine zR ?_; refine zO rfl Rd.mv ?_; refine zO rfl Rd.mv ?_
      refine XOA.wr0 rfl (WrA.appP (tyrow rfl) rfl (tyrow rfl) rfl rfl (by ((repeat (first | with_reducible exact Sel.head | apply Sel.tail)); (first | done | fail))) rfl hf2 rfl (insC_ones _) (by simp only [maxLen]; omega) (by simp only []; omega) rfl rfl) ?_
      rintro _ _ _ ⟨p8, c8, rfl, rfl, rfl⟩
      refine zO rfl Rd.asg ?_; refine zN ?_; refine zT ?_; refine zS ?_; refine zS ?_; refine zR ?_; refine zO rfl (Rd.fA rfl) ?_; refine zO rfl (Rd.ldC rfl (tyrow rfl) rfl) ?_; refine zO rfl (Rd.eql rfl rfl) ?_; refine zN ?_; refine zT ?_
      refine XA.condT rfl rfl ?_
      refine zS ?_; refine zR ?_; refine zO rfl Rd.mv ?_; refine zO rfl Rd.mv ?_
      refine zO rfl (Rd.bl (fun _ _ => tyrow) rfl rfl rfl) ?_
      refine XOA.wr0 rfl (WrA.bs1 (tyrow rfl) rfl (tyrow rfl)) ?_
      rintro _ _ _ ⟨g103, rfl, rfl, rfl⟩
      refine XOA.wr0 rfl (WrA.ap1 (tyrow rfl) rfl (tyrow rfl) rfl rfl rfl) ?_
      rintro _ _ _ ⟨p104, c104, rfl, rfl, rfl⟩
      refine zO rfl Rd.asg ?_; refine zN ?_; refine zT ?_
      refine XA.ret ?_
      refine DA.thn_ret ?_
      exact bodyA.ret (ResA.one rfl rfl) zE ⟨_, _, rfl, hs1.trans hs2, rfl⟩
    · obtain ⟨B, hB⟩ : ∃ B, B = stsCode pr.vars body (k + (exCode pr.vars ex).length + 1) := ⟨_, rfl⟩
      have hBl : B.length ≤ stsN body := by rw [hB]; exact stsCode_len _ _ _
      have hcast1 : ((k + (exCode pr.vars ex).length + 1 : Nat) : Int) = (k : Int) + ((exCode pr.vars ex).length : Int) + 1 := by omega
      have hcast2 : ((k + (exCode pr.vars ex).length + 1 + B.length + 1 : Nat) : Int) = (k : Int) + ((exCode pr.vars ex).length : Int) + 1 + (B.length : Int) + 1 := by omega
      have hlb := fun σ2 (hs : σ.sub σ2) => (rlist_i pr body ih σ2 (.slice pb body.length cb) pv cv bs (k + (exCode pr.vars ex).length + 1) (hp.mono hs) (hxb.mono hs (fun _ _ h => h.mono hs)) hsb (by omega)).lstOut
      rw [← hB, hcast1] at hlb
      obtain ⟨O, hO⟩ : ∃ O, O = stsCode pr.vars els (k + (exCode pr.vars ex).length + 1 + B.length + 1) := ⟨_, rfl⟩
      have hOl : O.length ≤ stsN els := by rw [hO]; exact stsCode_len _ _ _
      have hcast3 : ((k + (exCode pr.vars ex).length + 1 + B.length + 1 + O.length : Nat) : Int) = (k : Int) + ((exCode pr.vars ex).length : Int) + 1 + (B.length : Int) + 1 + (O.length : Int) := by omega
      have hlo := fun σ2 (hs : σ.sub σ2) => (rlist_i pr els jh σ2 (.slice pl els.length cl) pv cv bs (k + (exCode pr.vars ex).length + 1 + B.length + 1) (hp.mono hs) (hxl.mono hs (fun _ _ h => h.mono hs)) hse (by omega)).lstOut
      rw [← hO, hcast2] at hlo
      rw [stCode_6, ← hB, ← hO, hcast2, hcast3]
      rw [List.length_append, List.length_append, List.length_append, List.length_append, List.length_singleton, List.length_singleton, insC_app, insC_snoc, insC_app, insC_snoc]
      refine enterA3 Try.func72 rfl rfl rfl ?_
      refine zS ?_; refine zR ?_
      refine XOA.wr0 rfl WrA.bx ?_
      rintro _ _ _ ⟨g3, rfl, rfl, rfl⟩
      refine XOA.wr0 rfl WrA.bx ?_
      rintro _ _ _ ⟨g4, rfl, rfl, rfl⟩
      refine zO rfl Rd.asg ?_; refine zN ?_; refine zT ?_; refine zS ?_; refine zR ?_; refine zO rfl Rd.asg ?_; refine zN ?_; refine zT ?_; refine zS ?_; refine zS ?_; refine zR ?_; refine zO rfl (Rd.fA rfl) ?_; refine zO rfl (Rd.ldC rfl (tyrow rfl) rfl) ?_
      refine XOA.wr0 rfl (WrA.cE (rneeded_a σ 6 101) rfl) ?_
      rintro _ _ _ ⟨_, ⟨rfl, rfl, rfl⟩, rfl⟩
      refine XOA.cl ?_
      rw [(need_op 6).1]
      refine zN ?_; refine zT ?_
      refine XA.condT rfl rfl ?_
      refine zR ?_; refine zO rfl (Rd.ldA rfl) ?_; refine zO rfl (Rd.fA rfl) ?_; refine zO rfl (Rd.ldA rfl) ?_
      refine XOA.wr0 rfl (WrA.cE ((rexpr_i pr hz hvl ex σ _ _ cv bs hp hxe (he rfl).1 (by omega))) rfl) ?_
      rintro _ σ1 _ ⟨_, ⟨p2, c2, rfl, hs1, rfl⟩, rfl⟩
      refine XOA.cl ?_
      refine zO rfl Rd.asg ?_; refine zN ?_; refine zT ?_; refine zS ?_; refine zR ?_; refine zO rfl (Rd.ldA rfl) ?_; refine zO rfl (Rd.fA rfl) ?_; refine zO rfl (Rd.ldC rfl (tyrow rfl) rfl) ?_
      refine XOA.wr0 rfl (WrA.cE (rcell_a σ1 _ pr v (hp.mono hs1) hz hvl) rfl) ?_
      rintro _ _ _ ⟨_, ⟨rfl, rfl, rfl⟩, rfl⟩
      refine XOA.cl ?_
      refine zO rfl Rd.asg ?_; refine zN ?_; refine zT ?_; refine zS ?_; refine zS ?_; refine zR ?_; refine zO rfl (Rd.fA rfl) ?_; refine zO rfl (Rd.ldC rfl (tyrow rfl) rfl) ?_; refine zN ?_; refine zT ?_
      refine XA.block ?_
      refine zS ?_; refine zR ?_; refine zO rfl (Rd.eql rfl rfl) ?_; refine zO rfl Rd.asg ?_; refine zN ?_; refine zT ?_
      refine XA.condF rfl rfl ?_
      refine zS ?_; refine zR ?_; refine zO rfl (Rd.eql rfl rfl) ?_; refine zO rfl Rd.asg ?_; refine zN ?_; refine zT ?_
      refine XA.condF rfl rfl ?_
      refine zS ?_; refine zR ?_; refine zO rfl (Rd.eql rfl rfl) ?_; refine zO rfl Rd.asg ?_; refine zN ?_; refine zT ?_
      refine XA.condF rfl rfl ?_
      refine zS ?_; refine zR ?_; refine zO rfl (Rd.eql rfl rfl) ?_; refine zO rfl Rd.asg ?_; refine zN ?_; refine zT ?_
      refine XA.condF rfl rfl ?_
      refine zS ?_; refine zR ?_; refine zO rfl (Rd.eql rfl rfl) ?_; refine zO rfl Rd.asg ?_; refine zN ?_; refine zT ?_
      refine XA.condF rfl rfl ?_
      refine XA.skip ?_
      refine DA.inb_normal ?_
      refine zT ?_; refine zS ?_; refine zR ?_; refine zO rfl (Rd.ldA rfl) ?_; refine zO rfl (Rd.fA rfl) ?_; refine zO rfl (Rd.ldC rfl (tyrow rfl) rfl) ?_; refine zO rfl Rd.mv ?_; refine zO rfl Rd.mv ?_; refine zO rfl (Rd.lenSlice (tyrow rfl) rfl rfl) ?_
      refine zO rfl (by first | exact Rd.adi rfl rfl | exact Rd.add rfl rfl) ?_
      refine zO rfl (by first | exact Rd.adi rfl rfl | exact Rd.add rfl rfl) ?_

      refine XOA.wr0 rfl (WrA.cE (hlb σ1 hs1) rfl) ?_
      rintro _ σ2 _ ⟨_, ⟨p3, c3, rfl, hs2, hf2, rfl⟩, rfl⟩
      refine XOA.cl ?_
      refine zO rfl Rd.asg ?_; refine zN ?_; refine zT ?_; refine zS ?_; refine zR ?_; refine zO rfl Rd.mv ?_; refine zO rfl Rd.mv ?_; refine zO rfl (Rd.lenSlice (tyrow rfl) rfl rfl) ?_
      refine zO rfl (by first | exact Rd.adi rfl rfl | exact Rd.add rfl rfl) ?_
      refine zO rfl (by first | exact Rd.adi rfl rfl | exact Rd.add rfl rfl) ?_
      refine zO rfl Rd.mv ?_; refine zO rfl (Rd.lenSlice (tyrow rfl) rfl rfl) ?_
      refine zO rfl (by first | exact Rd.adi rfl rfl | exact Rd.add rfl rfl) ?_
      refine zO rfl (by first | exact Rd.adi rfl rfl | exact Rd.add rfl rfl) ?_
      refine zO rfl Rd.asg ?_; refine zN ?_; refine zT ?_; refine zS ?_; refine zR ?_; refine zO rfl Rd.mv ?_; refine zO rfl Rd.mv ?_
      refine zO rfl (Rd.bl (fun _ _ => tyrow) rfl rfl rfl) ?_
      refine XOA.wr0 rfl (WrA.bs1 (tyrow rfl) rfl (tyrow rfl)) ?_
      rintro _ _ _ ⟨g92, rfl, rfl, rfl⟩
      refine XOA.wr0 rfl (WrA.ap1 (tyrow rfl) rfl (tyrow rfl) rfl rfl rfl) ?_
      rintro _ _ _ ⟨p93, c93, rfl, rfl, rfl⟩
      refine zO rfl Rd.asg ?_; refine zN ?_; refine zT ?_; refine zS ?_; refine zR ?_; refine zO rfl Rd.mv ?_; refine zO rfl Rd.mv ?_
      refine XOA.wr0 rfl (WrA.appP (tyrow rfl) rfl (tyrow rfl) rfl rfl (by ((repeat (first | with_reducible exact Sel.head | apply Sel.tail)); (first | done | fail))) rfl hf2 rfl (insC_ones _) (by simp only [maxLen]; omega) (by simp only []; omega) rfl rfl) ?_
      rintro _ _ _ ⟨p8, c8, rfl, rfl, rfl⟩
      refine zO rfl Rd.asg ?_; refine zN ?_; refine zT ?_; refine zS ?_; refine zS ?_; refine zR ?_; refine zO rfl (Rd.fA rfl) ?_; refine zO rfl (Rd.ldC rfl (tyrow rfl) rfl) ?_; refine zO rfl (Rd.eql rfl rfl) ?_; refine zN ?_; refine zT ?_
      refine XA.condF rfl rfl ?_
      refine XA.skip ?_
      refine zT ?_; refine zS ?_; refine zR ?_; refine zO rfl (Rd.ldA rfl) ?_; refine zO rfl (Rd.fA rfl) ?_; refine zO rfl (Rd.ldC rfl (tyrow rfl) rfl) ?_; refine zO rfl Rd.mv ?_
      refine XOA.wr0 rfl (WrA.cE (hlo σ2 (hs1.trans hs2)) rfl) ?_
      rintro _ σ3 _ ⟨_, ⟨p4, c4, rfl, hs3, hf3, rfl⟩, rfl⟩
      refine XOA.cl ?_
      refine zO rfl Rd.asg ?_; refine zN ?_; refine zT ?_; refine zS ?_; refine zR ?_; refine zO rfl Rd.mv ?_; refine zO rfl Rd.mv ?_; refine zO rfl Rd.mv ?_; refine zO rfl (Rd.lenSlice (tyrow rfl) rfl rfl) ?_
      refine zO rfl (by first | exact Rd.adi rfl rfl | exact Rd.add rfl rfl) ?_
      refine zO rfl (Rd.bl (fun _ _ => tyrow) rfl rfl rfl) ?_
      refine XOA.wr0 rfl (WrA.bs1 (tyrow rfl) rfl (tyrow rfl)) ?_
      rintro _ _ _ ⟨g116, rfl, rfl, rfl⟩
      refine XOA.wr0 rfl (WrA.ap1 (tyrow rfl) rfl (tyrow rfl) rfl rfl rfl) ?_
      rintro _ _ _ ⟨p117, c117, rfl, rfl, rfl⟩
      refine zO rfl Rd.asg ?_; refine zN ?_; refine zT ?_; refine zS ?_; refine zR ?_; refine zO rfl Rd.mv ?_; refine zO rfl Rd.mv ?_
      refine XOA.wr0 rfl (WrA.appP (tyrow rfl) rfl (tyrow rfl) rfl rfl (by ((repeat (first | with_reducible exact Sel.head | apply Sel.tail)); (first | done | fail))) rfl hf3 rfl (insC_ones _) (by simp only [maxLen]; omega) (by simp only []; omega) rfl rfl) ?_
      rintro _ _ _ ⟨p9, c9, rfl, rfl, rfl⟩
      refine zO rfl Rd.asg ?_; refine zN ?_; refine zT ?_
      refine XA.ret ?_
      exact bodyA.ret (ResA.one rfl rfl) zE ⟨_, _, rfl, (hs1.trans hs2).trans hs3, rfl⟩
theorem rcode_a (σ : PH) (cs : List Value) (p : Pr) (hp : PrAt σ cs p) (hc : checkP p = 0) (hN : stsN p.body ≤ 10000) :
    CallsA Try.prog 31 #[.agg cs.toArray] σ [] (RetA fun v σ' Γ' => ∃ q c, v = .slice q (codeOf p).length c ∧ σ.sub σ' ∧ Γ' = [lst 56 4 (.slice q (codeOf p).length c) (codeOf p).length (insC (codeOf p))]) := by
  have hp0 := hp
  obtain ⟨vs, bs, rfl, hv, hb⟩ := hp
  obtain ⟨pv, cv, rfl, hvl, hvm⟩ := hv.shape
  obtain ⟨hz, hl⟩ := check_small hc
  obtain ⟨hV, -, -, -⟩ := check_valid hc
  have hln := stsCode_len p.vars p.body 0
  rw [codeOf, List.length_append, List.length_singleton, insC_snoc]
  refine enterA1 Try.func31 rfl rfl rfl ?_
  refine zS ?_; refine zR ?_
  refine XOA.wr0 rfl WrA.bx ?_
  rintro _ _ _ ⟨g1, rfl, rfl, rfl⟩
  refine zO rfl Rd.asg ?_; refine zN ?_; refine zT ?_; refine zS ?_; refine zR ?_; refine zO rfl (Rd.ldA rfl) ?_; refine zO rfl (Rd.fA rfl) ?_; refine zO rfl (Rd.ldC rfl (tyrow rfl) rfl) ?_
  refine XOA.wr0 rfl (WrA.cE (rlist_i p p.body (fun x _ => rstmt_i p hz hl x) σ bs pv cv bs 0 hp0 hb hV (by omega)) rfl) ?_
  rintro _ σ1 _ ⟨_, ⟨p2, c2, rfl, hs1, rfl⟩, rfl⟩
  refine XOA.cl ?_
  refine zO rfl Rd.asg ?_; refine zN ?_; refine zT ?_; refine zS ?_; refine zR ?_; refine zO rfl Rd.mv ?_
  refine zO rfl (Rd.bl (fun _ _ => tyrow) rfl rfl rfl) ?_
  refine XOA.wr0 rfl (WrA.bs1 (tyrow rfl) rfl (tyrow rfl)) ?_
  rintro _ _ _ ⟨g10, rfl, rfl, rfl⟩
  refine XOA.wr0 rfl (WrA.ap1 (tyrow rfl) rfl (tyrow rfl) rfl rfl rfl) ?_
  rintro _ _ _ ⟨p11, c11, rfl, rfl, rfl⟩
  refine zO rfl Rd.asg ?_; refine zN ?_; refine zT ?_
  refine XA.ret ?_
  exact bodyA.ret (ResA.one rfl rfl) zE ⟨_, _, rfl, hs1, rfl⟩
end Go.Proofs.Ytbbghdkndbpmmaa

namespace Go.Proofs.Ytbbghdkndbpmmaa
open Go X
set_option maxHeartbeats 1000000
section
variable {P : Program} {ρ : Env} {σ : PH} {Γ : List HP}
/-- A list of one's own, appended to nil. -/
theorem X.WrA.appL {T e : TypeId} {x y : Operand} {ty : TypeId} {r re : Ty} {m c' : Nat} {q : Option Addr} {news : List Value} {Γ' : List HP} (hT : tyOf P T = some r) (hk : r.k = .slice e) (hE : tyOf P e = some re) (hz : re.zero.length = re.size)
    (hs : ev ρ x = .slice none 0 0) (hy : ev ρ y = .slice q m c') (s : Sel Γ (lst e re.size (.slice q m c') m news) Γ') (h1 : ones news) (h63 : m ≤ maxLen) (hb : m * re.bytes ≤ 140737488355328) :
    WrA P ρ σ Γ (.call { callee := .builtin .append, args := #[x, y], argTypes := #[T, T] }) ty (fun v' σ' Δ => ∃ p c, v' = .slice p m c ∧ σ = σ' ∧ Δ = lst e re.size (.slice p m c) m news :: Γ) noPA := by
  refine ⟨fun f h hh => ?_⟩
  have hl := holds_fact hh s (q := news.length = m * re.size) (fun m hm => hm.1)
  by_cases hm : m = 0
  · subst hm
    have hn0 : news = [] := List.eq_nil_of_length_eq_zero (by rw [hl]; omega)
    subst hn0
    refine ⟨fun d pos af gd a w next Q' he hw hn hp => ?_⟩
    refine ((Rd.toW (σ := σ) (Γ := Γ) (Rd.appendNone hT hk hE hs hy (Nat.le_refl _))).out f h hh).out d pos af gd a w next Q' he hw (fun v' w' sm q => ?_) (fun _ _ _ q => by obtain ⟨_, _, q, _⟩ := q; exact q.elim)
    obtain ⟨σ', Γ'', ⟨rfl, rfl, rfl⟩, hh'⟩ := q
    exact hn _ w' sm ⟨σ, _, ⟨none, 0, rfl, rfl, rfl⟩, hh'.ent (Ent.selNil (Ent.refl _))⟩
  · obtain ⟨g, rfl⟩ := holds_fact hh s (q := ∃ g : Nat, q = some ⟨g, 0, none⟩) (fun m hm => by obtain ⟨g, e, -⟩ := lst_some (by omega) m hm; exact ⟨g, e⟩)
    exact (WrA.appendNew hT hk hE hz hs hy (At.lst s (by simp)) hl h1 (by omega) h63 hb).out f h hh
end
theorem lst_mono {e size n : Nat} {v : Value} {xs : List Value} : ∀ m m', lst e size v n xs m → m.sub m' → lst e size v n xs m' := by
  rintro m m' ⟨h1, h2⟩ s
  refine ⟨h1, h2.imp id ?_⟩
  rintro ⟨g, cap, e, cur, h3, r⟩
  exact ⟨g, cap, e, cur, blk_mono _ _ h3 s, r⟩
theorem lst_pop {e n c : Nat} {p : Option Addr} {xs : List Value} {x : Value} (hn : xs.length = n) : ∀ m, lst e 1 (.slice p (n + 1) c) (n + 1) (xs ++ [x]) m → lst e 1 (.slice p n c) n xs m := by
  rintro m ⟨h1, ⟨h2, h3⟩ | ⟨g, cap, h2, cur, h3, h4, h5, h6, h7⟩⟩
  · omega
  · simp only [Value.slice.injEq] at h2
    obtain ⟨rfl, -, rfl⟩ := h2
    refine ⟨by omega, .inr ⟨g, c, rfl, cur, h3, by omega, h5, h6, ?_⟩⟩
    rw [Nat.mul_one] at h7 ⊢
    have : (cur.take (n + 1)).take n = (xs ++ [x]).take n := by rw [h7]
    rw [List.take_take, Nat.min_eq_left (by omega), List.take_left' hn] at this
    exact this
theorem lst_someC {e size n c : Nat} {p : Option Addr} {xs : List Value} (hn : 0 < n) : ∀ m, lst e size (.slice p n c) n xs m → ∃ g : Nat, (p = some ⟨g, 0, none⟩ ∧ n ≤ c) ∧ Sat [lst e size (.slice (some ⟨g, 0, none⟩) n c) n xs] m := fun m h => by
  have hc := (lst_cap m h).1
  obtain ⟨g, e1, e2⟩ := lst_some hn m h
  exact ⟨g, ⟨e1, hc⟩, e2⟩
section
variable (σ : PH) (g : Nat) (v0 v1 v2 v4 v5 v6 v7 k0 k1 k2 k3 k4 k5 ov wr : Value)
theorem ints_rev (x : Int) (s : List Int) : ints (x :: s).reverse = ints s.reverse ++ [i64 x] := by simp [ints]
theorem pop_b (p : Option Addr) (c : Nat) (s : List Int) (x : Int) (hn : s.length ≤ 1000) :
    CallsA Try.prog 77 #[ptr g] σ [blk g [v0, v1, v2, .slice p (x :: s).length c, v4, v5, v6, v7, k0, k1, k2, k3, k4, k5, ov, wr] 121, lst 2 1 (.slice p (x :: s).length c) (x :: s).length (ints (x :: s).reverse)]
      (RetA fun v σ' Γ' => v = i64 x ∧ σ = σ' ∧ Γ' = [blk g [v0, v1, v2, .slice p s.length c, v4, v5, v6, v7, k0, k1, k2, k3, k4, k5, ov, wr] 121, lst 2 1 (.slice p s.length c) s.length (ints s.reverse)]) := by
  rw [ints_rev]
  have hl : (ints s.reverse).length = s.length := by simp [ints]
  have hx : (ints s.reverse ++ [i64 x])[s.length]? = some (i64 x) := by rw [List.getElem?_append_right (by omega)]; simp [hl]
  simp only [List.length_cons]
  refine enterA1 Try.func77 rfl rfl rfl ?_
  refine zS ?_; refine zR ?_; refine zO rfl Rd.asg ?_; refine zN ?_; refine zT ?_; refine zS ?_; refine zR ?_; refine zO rfl Rd.mv ?_; refine zO rfl (Rd.nilCheck rfl) ?_; refine zO rfl (Rd.fA rfl) ?_; refine zO rfl (Rd.fA rfl) ?_; refine zO rfl (Rd.ldC rfl (tyrow rfl) rfl) ?_; refine zO rfl (Rd.lenSlice (tyrow rfl) rfl rfl) ?_
  refine zO rfl (by first | exact Rd.sbi rfl rfl | exact Rd.sub rfl rfl) ?_
  rw [show (((s.length + 1 : Nat) : Int) - 1) = ((s.length : Nat) : Int) by omega]
  first | refine XA.opn (R := lst 2 1 (.slice p (s.length + 1) c) _ _) (by ((repeat (first | with_reducible exact Sel.head | apply Sel.tail)); (first | done | fail))) (lst_someC (by omega)) ?_ | refine XOA.opn (R := lst 2 1 (.slice p (s.length + 1) c) _ _) (by ((repeat (first | with_reducible exact Sel.head | apply Sel.tail)); (first | done | fail))) (lst_someC (by omega)) ?_ | refine DA.opn (R := lst 2 1 (.slice p (s.length + 1) c) _ _) (by ((repeat (first | with_reducible exact Sel.head | apply Sel.tail)); (first | done | fail))) (lst_someC (by omega)) ?_
  rintro g5 ⟨rfl, hc5⟩
  first | refine XA.cl ?_ | refine XOA.cl ?_ | refine DA.cl ?_
  refine zO rfl Rd.asg ?_; refine zN ?_; refine zT ?_; refine zS ?_; refine zR ?_; refine zO rfl Rd.mv ?_; refine zO rfl (Rd.nilCheck rfl) ?_; refine zO rfl (Rd.fA rfl) ?_; refine zO rfl (Rd.fA rfl) ?_; refine zO rfl (Rd.ldC rfl (tyrow rfl) rfl) ?_; refine zO rfl Rd.mv ?_
  refine zO rfl (Rd.ixS rfl rfl) ?_
  refine zO rfl (Rd.ldC rfl (tyrow rfl) rfl) ?_; refine zO rfl Rd.asg ?_; refine zN ?_; refine zT ?_; refine zS ?_; refine zR ?_; refine zO rfl Rd.mv ?_; refine zO rfl Rd.mv ?_; refine zO rfl (Rd.nilCheck rfl) ?_; refine zO rfl (Rd.fA rfl) ?_; refine zO rfl (Rd.fA rfl) ?_; refine zO rfl (Rd.ldC rfl (tyrow rfl) rfl) ?_
  refine zO rfl Rd.mv ?_
  refine zO rfl (Rd.sliceToN (tyrow rfl) rfl (tyrow rfl) rfl rfl (by omega)) ?_
  refine zO rfl (Rd.nilCheck rfl) ?_; refine zO rfl (Rd.fA rfl) ?_; refine zO rfl (Rd.fA rfl) ?_
  refine XOA.wr0 rfl (WrA.st (tyrow rfl) rfl) ?_
  rintro _ _ _ ⟨rfl, rfl, rfl⟩
  refine zN ?_; refine zT ?_; refine zS ?_; refine zR ?_; refine zO rfl Rd.mv ?_; refine zO rfl Rd.asg ?_; refine zN ?_; refine zT ?_
  refine XA.ret ?_
  refine DA.ent (Ent.foldC (Θ := [lst 2 1 (.slice (some ⟨g5, 0, none⟩) (s.length + 1) c) (s.length + 1) (ints s.reverse ++ [i64 x])]) (by (repeat (first | exact Ent.all _ | (apply Ent.take; focus (first | ((repeat (first | with_reducible exact Sel.head | apply Sel.tail)); done) | ((repeat (first | exact Sel.head | apply Sel.tail)); done))) | apply Ent.takeNil | apply Ent.takeEmp)); (first | done | fail)) (fun m h => lst_pop hl m (of_sat1 lst_mono h)) (Ent.refl _)) ?_
  exact bodyA.ret (ResA.one rfl rfl) zE ⟨rfl, rfl, rfl⟩
theorem push_b (p : Option Addr) (c : Nat) (s : List Int) (x : Int) (hn : s.length ≤ 1000) :
    CallsA Try.prog 76 #[ptr g, i64 x] σ [blk g [v0, v1, v2, .slice p s.length c, v4, v5, v6, v7, k0, k1, k2, k3, k4, k5, ov, wr] 121, lst 2 1 (.slice p s.length c) s.length (ints s.reverse)]
      (RetA fun v σ' Γ' => ∃ p' c', v = .tuple #[] ∧ σ = σ' ∧ Γ' = [blk g [v0, v1, v2, .slice p' (x :: s).length c', v4, v5, v6, v7, k0, k1, k2, k3, k4, k5, ov, wr] 121, lst 2 1 (.slice p' (x :: s).length c') (x :: s).length (ints (x :: s).reverse)]) := by
  rw [ints_rev]
  simp only [List.length_cons]
  refine enterA2 Try.func76 rfl rfl rfl ?_
  refine zR ?_; refine zO rfl Rd.mv ?_; refine zO rfl Rd.mv ?_; refine zO rfl (Rd.nilCheck rfl) ?_; refine zO rfl (Rd.fA rfl) ?_; refine zO rfl (Rd.fA rfl) ?_; refine zO rfl (Rd.ldC rfl (tyrow rfl) rfl) ?_; refine zO rfl Rd.mv ?_
  refine XOA.wr0 rfl (WrA.bs1 (tyrow rfl) rfl (tyrow rfl)) ?_
  rintro _ _ _ ⟨g11, rfl, rfl, rfl⟩
  refine XOA.wr0 rfl (WrA.ap1 (tyrow rfl) rfl (tyrow rfl) rfl rfl rfl) ?_
  rintro _ _ _ ⟨p12, c12, rfl, rfl, rfl⟩
  refine zO rfl (Rd.nilCheck rfl) ?_; refine zO rfl (Rd.fA rfl) ?_; refine zO rfl (Rd.fA rfl) ?_
  refine XOA.wr0 rfl (WrA.st (tyrow rfl) rfl) ?_
  rintro _ _ _ ⟨rfl, rfl, rfl⟩
  refine zN ?_
  exact bodyA.normal (ResA.none rfl) zE ⟨p12, c12, rfl, rfl, rfl⟩
end
theorem bit_b (σ : PH) (b : Bool) : CallsA Try.prog 78 #[.bool b] σ [] (RetA fun v σ' Γ' => v = i64 (if b then 1 else 0) ∧ σ = σ' ∧ Γ' = []) := by
  cases b with
  | true =>
    refine enterA1 Try.func78 rfl rfl rfl ?_
    refine zS ?_; refine zR ?_; refine zO rfl Rd.asg ?_; refine zN ?_; refine zT ?_; refine zS ?_; refine zS ?_; refine zR ?_; refine zO rfl Rd.mv ?_; refine zN ?_; refine zT ?_
    refine XA.condT rfl rfl ?_
    refine zS ?_; refine zR ?_; refine zO rfl Rd.asg ?_; refine zN ?_; refine zT ?_
    refine XA.ret ?_
    refine DA.thn_ret ?_
    exact bodyA.ret (ResA.one rfl rfl) (Ent.nil _) ⟨rfl, rfl, rfl⟩
  | false =>
    refine enterA1 Try.func78 rfl rfl rfl ?_
    refine zS ?_; refine zR ?_; refine zO rfl Rd.asg ?_; refine zN ?_; refine zT ?_; refine zS ?_; refine zS ?_; refine zR ?_; refine zO rfl Rd.mv ?_; refine zN ?_; refine zT ?_
    refine XA.condF rfl rfl ?_
    refine XA.skip ?_
    refine zT ?_; refine zS ?_; refine zR ?_; refine zO rfl Rd.asg ?_; refine zN ?_; refine zT ?_
    refine XA.ret ?_
    exact bodyA.ret (ResA.one rfl rfl) (Ent.nil _) ⟨rfl, rfl, rfl⟩
theorem copy_b (σ : PH) (k0 k2 k3 k4 : Int) (p1 p2 : Option Addr) (c1 c2 : Nat) (n1 n2 : Nat) (xs ys : List Int) (hx : n1 ≤ 1000) (hy : n2 ≤ 1000) :
    CallsA Try.prog 75 #[.agg #[i64 k0, .slice p1 n1 c1, i64 k2, i64 k3, i64 k4, .slice p2 n2 c2]] σ [lst 2 1 (.slice p1 n1 c1) n1 (ints xs), lst 2 1 (.slice p2 n2 c2) n2 (ints ys)]
      (RetA fun v σ' Γ' => ∃ p3 c3 p4 c4, v = .agg #[i64 k0, .slice p3 n1 c3, i64 k2, i64 k3, i64 k4, .slice p4 n2 c4] ∧ σ = σ' ∧ Γ' = [lst 2 1 (.slice p1 n1 c1) n1 (ints xs), lst 2 1 (.slice p2 n2 c2) n2 (ints ys), lst 2 1 (.slice p3 n1 c3) n1 (ints xs), lst 2 1 (.slice p4 n2 c4) n2 (ints ys)]) := by
  refine enterA1 Try.func75 rfl rfl rfl ?_
  refine zS ?_; refine zR ?_
  refine XOA.wr0 rfl WrA.bx ?_
  rintro _ _ _ ⟨g1, rfl, rfl, rfl⟩
  refine XOA.wr0 rfl (WrA.alloc (tyrow rfl)) ?_
  rintro _ _ _ ⟨g2, rfl, rfl, rfl⟩
  refine zN ?_; refine zT ?_; refine zS ?_; refine zR ?_; refine zO rfl Rd.asg ?_; refine zO rfl Rd.asg ?_; refine zN ?_; refine zT ?_; refine zS ?_
  refine XA.join [(1, 2), (5, 14)] (fun x : (Nat × Nat) × ((Option Addr × Nat) × (Option Addr × Nat)) => [(1, ptr x.1.1), (2, ptr x.1.2)]) (fun x σ' Γ' => σ = σ' ∧ Γ' = [blk x.1.1 [i64 k0, .slice x.2.1.1 n1 x.2.1.2, i64 k2, i64 k3, i64 k4, .slice x.2.2.1 n2 x.2.2.2] 118, blk x.1.2 ty118.zero 118, lst 2 1 (.slice p1 n1 c1) n1 (ints xs), lst 2 1 (.slice p2 n2 c2) n2 (ints ys), lst 2 1 (.slice x.2.1.1 n1 x.2.1.2) n1 (ints xs), lst 2 1 (.slice x.2.2.1 n2 x.2.2.2) n2 (ints ys)]) ?_ ?_
  · skip
    refine XA.drawQ (by kernel_rfl) _ _ [8, 9, 10, 11] 12 #[false, false, false, false, false, false, false, false, false, false, false, false] rfl rfl (by kernel_rfl) (PH.sub.refl _) (Ent.sel (R := blk g1 _ _) (by ((repeat (first | with_reducible exact Sel.head | apply Sel.tail)); (first | done | fail))) (Ent.nil _)) ?_
    refine XQA.pu (i := 0) (listed' := #[true, false, false, false, false, false, false, false, false, false, false, false]) rfl rfl (by kernel_rfl) rfl Gd.free Rd.mv ?_
    refine XQA.pu (i := 1) (listed' := #[true, true, false, false, false, false, false, false, false, false, false, false]) rfl rfl (by kernel_rfl) rfl Gd.free (Rd.fA rfl) ?_
    refine XQA.rd (i := 2) (listed' := #[true, true, true, false, false, false, false, false, false, false, false, false]) rfl rfl (by kernel_rfl) rfl Gd.free (Rd.ldC rfl (tyrow rfl) rfl) ?_
    refine XQA.pu (i := 4) (listed' := #[true, true, true, false, true, false, false, false, false, false, false, false]) rfl rfl (by kernel_rfl) rfl Gd.free Rd.mv ?_
    refine XQA.pu (i := 5) (listed' := #[true, true, true, false, true, true, false, false, false, false, false, false]) rfl rfl (by kernel_rfl) rfl Gd.free (Rd.fA rfl) ?_
    refine XQA.rd (i := 6) (listed' := #[true, true, true, false, true, true, true, false, false, false, false, false]) rfl rfl (by kernel_rfl) rfl Gd.free (Rd.ldC rfl (tyrow rfl) rfl) ?_
    refine XQA.w1 (i := 3) (by kernel_rfl) ?_
    refine XQA1.wr0 (listed' := #[true, true, true, true, true, true, true, false, false, false, false, false]) rfl rfl Gd.free (by kernel_rfl) rfl (X.WrA.appL (tyrow rfl) rfl (tyrow rfl) rfl rfl rfl (by ((repeat (first | with_reducible exact Sel.head | apply Sel.tail)); (first | done | fail))) (ones_ints _) (by simp only [maxLen]; omega) (by simp only []; omega)) ?_
    rintro _ _ _ ⟨p8, c8, rfl, rfl, rfl⟩
    refine ⟨⟨(by first | exact PH.sub.refl _ | assumption | (refine PH.sub.trans ?_ (by assumption); assumption)), zE⟩, XQA.re (by conv => lhs; dsimp only [List.cons_append, List.nil_append]) ?_⟩
    refine XQA.pu (i := 8) (listed' := #[true, true, true, true, true, true, true, false, true, false, false, false]) rfl rfl (by kernel_rfl) rfl Gd.free (Rd.fA rfl) ?_
    refine XQA.w1 (i := 7) (by kernel_rfl) ?_
    refine XQA1.wr0 (listed' := #[true, true, true, true, true, true, true, true, true, false, false, false]) rfl rfl Gd.free (by kernel_rfl) rfl (X.WrA.appL (tyrow rfl) rfl (tyrow rfl) rfl rfl rfl (by ((repeat (first | with_reducible exact Sel.head | apply Sel.tail)); (first | done | fail))) (ones_ints _) (by simp only [maxLen]; omega) (by simp only []; omega)) ?_
    rintro _ _ _ ⟨p12, c12, rfl, rfl, rfl⟩
    refine ⟨⟨(by first | exact PH.sub.refl _ | assumption | (refine PH.sub.trans ?_ (by assumption); assumption)), zE⟩, XQA.re (by conv => lhs; dsimp only [List.cons_append, List.nil_append]) ?_⟩
    refine XQA.w1 (i := 9) (by kernel_rfl) ?_
    refine XQA1.wrZ0 (listed' := #[true, true, true, true, true, true, true, true, true, true, false, false]) rfl rfl Gd.free (by kernel_rfl) rfl (by kernel_rfl) (WrA.st (tyrow rfl) rfl) ?_
    rintro _ _ _ ⟨rfl, rfl, rfl⟩
    refine XQA.re (by conv => lhs; dsimp only [List.cons_append, List.nil_append]) ?_
    refine XQA.pu (i := 10) (listed' := #[true, true, true, true, true, true, true, true, true, true, true, false]) rfl rfl (by kernel_rfl) rfl Gd.free (Rd.fA rfl) ?_
    refine XQA.w1 (i := 11) (by kernel_rfl) ?_
    refine XQA1.wrZ0 (listed' := #[true, true, true, true, true, true, true, true, true, true, true, true]) rfl rfl Gd.free (by kernel_rfl) rfl (by kernel_rfl) (WrA.st (tyrow rfl) rfl) ?_
    rintro _ _ _ ⟨rfl, rfl, rfl⟩
    refine XQA.re (by conv => lhs; dsimp only [List.cons_append, List.nil_append]) ?_
    refine XQA.nil rfl ?_
    refine DA.thn_normal ⟨(by (repeat (first | exact Keep.refl _ _ | refine Keep.upd ?_ rfl | refine Keep.updO ?_ rfl | refine Keep.updN ?_)); (first | done | fail)), ((g1, g2), ((p8, c8), (p12, c12))), _, (by (repeat (first | exact trivial | refine ⟨rfl, ?_⟩ | refine ⟨Eq.trans rfl (congrArg Value.bool hmat.symm), ?_⟩)); (first | done | fail)), ?_, rfl, rfl⟩; exact zE
  rintro ⟨⟨g1, g2⟩, ⟨p3, c3⟩, p4, c4⟩ δ _ _ ⟨rfl, rfl⟩
  dsimp only [ovr, List.foldl]
  refine zT ?_; refine zS ?_; refine zR ?_; refine zO rfl (Rd.ldA rfl) ?_
  refine XOA.wr0 rfl (WrA.st (tyrow rfl) rfl) ?_
  rintro _ _ _ ⟨rfl, rfl, rfl⟩
  refine zN ?_; refine zT ?_
  refine XA.ret ?_
  exact bodyA.ret (ResA.cell rfl rfl (Ld.atBlk (tyrow rfl) rfl (by ((repeat (first | with_reducible exact Sel.head | apply Sel.tail)); (first | done | fail))) rfl (by first | exact take0 (by first | rfl | assumption | (refine (ints_len _).trans ?_; assumption) | (simp [*]; (first | done | fail))) | assumption | exact take_app (by first | rfl | assumption | (refine (ints_len _).trans ?_; assumption) | (simp [*]; (first | done | fail))) | (conv => lhs; simp only [List.drop_succ_cons, List.drop_zero, List.take_succ_cons, List.take_zero])) (by first | rfl | assumption | (refine (ints_len _).trans ?_; assumption) | (simp [*]; (first | done | fail))))) zE ⟨p3, c3, p4, c4, rfl, rfl, rfl⟩
end Go.Proofs.Ytbbghdkndbpmmaa

namespace Go.Proofs.Ytbbghdkndbpmmaa
open Go X
set_option maxHeartbeats 1000000
theorem code_fit {p : Pr} (h : checkP p = 0) {i : Nat} {x : In} (hx : (codeOf p)[i]? = some x) :
    popA x.op ≤ hts ((codeOf p).take i) ∧ hts ((codeOf p).take (i + 1)) ≤ 24 ∧ ((x.op = 13 ∨ x.op = 14) → hts ((codeOf p).take (i + 1)) = 0) ∧ (x.op = 16 ↔ i = (codeOf p).length - 1) ∧ cellOk (sizes p.vars) x := by
  obtain ⟨hF, hz, -⟩ := code_fits h
  generalize stsCode p.vars p.body 0 = L at hF hz
  have hc : codeOf p = stsCode p.vars p.body 0 ++ [⟨16, 0, 0, 0⟩] := rfl
  obtain ⟨hF, hz, -⟩ := code_fits h
  rw [hc] at hx ⊢
  generalize stsCode p.vars p.body 0 = L at *
  have hlen : (L ++ [(⟨16, 0, 0, 0⟩ : In)]).length - 1 = L.length := by simp
  rw [hlen]
  by_cases hi : i < L.length
  · rw [List.getElem?_append_left hi] at hx
    have := Fit.at hF hx
    rw [List.take_append_of_le_length (by omega), List.take_append_of_le_length (by omega)]
    simp only [Int.zero_add] at this
    exact ⟨this.1, this.2.1, this.2.2.1, ⟨fun e => absurd e this.2.2.2.2, fun e => absurd e (by omega)⟩, this.2.2.2.1⟩
  · have hil : i < (L ++ [(⟨16, 0, 0, 0⟩ : In)]).length := (List.getElem?_eq_some_iff.1 hx).1
    rw [List.length_append, List.length_singleton] at hil
    have hie : i = L.length := by omega
    subst hie
    rw [List.getElem?_append_right (Nat.le_refl _), Nat.sub_self] at hx
    simp only [List.getElem?_cons_zero, Option.some.injEq] at hx
    subst hx
    rw [List.take_left, List.take_of_length_le (by simp), hts_app, hz, hts_one]
    refine ⟨by simp [popA], by simp [dl, popA, popB], fun g => by simp at g, ⟨fun _ => rfl, fun _ => rfl⟩, ⟨fun g => by simp at g, fun g => by simp at g⟩⟩
theorem code_jump {p : Pr} (h : checkP p = 0) {x : In} (hx : x ∈ codeOf p) (ho : x.op = 13 ∨ x.op = 14) : ∃ j : Nat, x.a = j ∧ j < (codeOf p).length ∧ hts ((codeOf p).take j) = 0 := by
  have hc : codeOf p = stsCode p.vars p.body 0 ++ [⟨16, 0, 0, 0⟩] := rfl
  obtain ⟨-, -, hJ⟩ := code_fits h
  rw [hc] at hx ⊢
  rcases List.mem_append.1 hx with hx | hx
  · obtain ⟨j, e, hj, hz⟩ := hJ x hx ho
    exact ⟨j, by rw [e]; congr 1; omega, by rw [List.length_append, List.length_singleton]; omega, by rw [List.take_append_of_le_length hj, hz]⟩
  · rw [List.mem_singleton.1 hx] at ho; simp at ho
theorem splice_set (l : List Int) {i : Nat} (w : Int) (hi : i < l.length) : splice (ints l) i [i64 w] = ints (l.set i w) := by
  simp only [splice, ints, List.length_singleton, List.map_set]
  rw [List.set_eq_take_append_cons_drop, if_pos (by simpa using hi)]
  simp
end Go.Proofs.Ytbbghdkndbpmmaa

