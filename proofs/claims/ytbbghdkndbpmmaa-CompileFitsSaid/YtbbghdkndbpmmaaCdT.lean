/- The reference's judge of a program. -/
import Derived.Test.YtbbghdkndbpmmaaCdR
namespace Go.Proofs.Ytbbghdkndbpmmaa
open Go X
set_option maxHeartbeats 1000000
theorem rparts_a (σ : PH) (op : Int) : CallsA Try.prog 21 #[i64 op] σ [] (RetA fun v σ' Γ' => v = i64 (partsOf op) ∧ σ = σ' ∧ Γ' = []) := by
  refine enterA1 Try.func21 rfl rfl rfl ?_
  refine zS ?_; refine zR ?_; refine zO rfl Rd.asg ?_; refine zN ?_; refine zT ?_; refine zS ?_; refine zS ?_; refine zR ?_; refine zO rfl Rd.mv ?_; refine zN ?_; refine zT ?_
  refine XA.block ?_
  refine zS ?_; refine zS ?_; refine zR ?_
  by_cases h1 : op = 1
  · subst h1
    refine zO rfl (Rd.eql rfl rfl) ?_; refine zO rfl Rd.asg ?_; refine zN ?_; refine zT ?_
    refine XA.condT rfl rfl ?_
    refine XA.skip ?_
    refine zT ?_
    refine XA.condT rfl rfl ?_
    refine zS ?_; refine zR ?_; refine zO rfl Rd.asg ?_; refine zN ?_; refine zT ?_
    refine XA.ret ?_
    refine DA.inb_ret ?_
    refine DA.thn_ret ?_
    exact bodyA.ret (ResA.one rfl rfl) (Ent.refl _) ⟨rfl, rfl, rfl⟩
  by_cases h2 : op = 2
  · subst h2
    refine zO rfl (Rd.eql rfl rfl) ?_; refine zO rfl Rd.asg ?_; refine zN ?_; refine zT ?_
    refine XA.condF rfl rfl ?_
    refine zR ?_; refine zO rfl (Rd.eql rfl rfl) ?_; refine zO rfl Rd.asg ?_; refine zN ?_; refine zT ?_
    refine XA.condT rfl rfl ?_
    refine zS ?_; refine zR ?_; refine zO rfl Rd.asg ?_; refine zN ?_; refine zT ?_
    refine XA.ret ?_
    refine DA.inb_ret ?_
    refine DA.thn_ret ?_
    exact bodyA.ret (ResA.one rfl rfl) (Ent.refl _) ⟨rfl, rfl, rfl⟩
  by_cases h3 : op = 3
  · subst h3
    refine zO rfl (Rd.eql rfl rfl) ?_; refine zO rfl Rd.asg ?_; refine zN ?_; refine zT ?_
    refine XA.condF rfl rfl ?_
    refine zR ?_; refine zO rfl (Rd.eql rfl rfl) ?_; refine zO rfl Rd.asg ?_; refine zN ?_; refine zT ?_
    refine XA.condF rfl rfl ?_
    refine zS ?_; refine zR ?_; refine zO rfl (Rd.eql rfl rfl) ?_; refine zO rfl Rd.asg ?_; refine zN ?_; refine zT ?_
    refine XA.condT rfl rfl ?_
    refine zS ?_; refine zR ?_; refine zO rfl Rd.asg ?_; refine zN ?_; refine zT ?_
    refine XA.ret ?_
    refine DA.inb_ret ?_
    refine DA.thn_ret ?_
    exact bodyA.ret (ResA.one rfl rfl) (Ent.refl _) ⟨rfl, rfl, rfl⟩
  refine zO rfl (Rd.eql rfl rfl) ?_; refine zO rfl Rd.asg ?_; refine zN ?_; refine zT ?_
  refine XA.condF rfl (by first | rfl | exact (by first | exact (rfl : decide _ = true) | exact (rfl : decide _ = false) | (refine decide_eq_true ?_; assumption) | (refine decide_eq_false ?_; assumption) | (refine decide_eq_true ?_; omega) | (refine decide_eq_false ?_; omega))) ?_
  refine zR ?_; refine zO rfl (Rd.eql rfl rfl) ?_; refine zO rfl Rd.asg ?_; refine zN ?_; refine zT ?_
  refine XA.condF rfl (by first | rfl | exact (by first | exact (rfl : decide _ = true) | exact (rfl : decide _ = false) | (refine decide_eq_true ?_; assumption) | (refine decide_eq_false ?_; assumption) | (refine decide_eq_true ?_; omega) | (refine decide_eq_false ?_; omega))) ?_
  refine zS ?_; refine zR ?_; refine zO rfl (Rd.eql rfl rfl) ?_; refine zO rfl Rd.asg ?_; refine zN ?_; refine zT ?_
  refine XA.condF rfl (by first | rfl | exact (by first | exact (rfl : decide _ = true) | exact (rfl : decide _ = false) | (refine decide_eq_true ?_; assumption) | (refine decide_eq_false ?_; assumption) | (refine decide_eq_true ?_; omega) | (refine decide_eq_false ?_; omega))) ?_
  refine zS ?_; refine zS ?_; refine zR ?_; refine zO rfl (Rd.eql rfl rfl) ?_; refine zO rfl Rd.asg ?_; refine zN ?_; refine zT ?_
  have hp : partsOf op = if 4 ≤ op ∧ op ≤ 8 then 2 else -1 := by rw [partsOf, if_neg (by omega), if_neg h3]
  by_cases h4 : op = 4
  · subst h4
    refine XA.condT rfl rfl ?_
    refine XA.skip ?_
    refine zT ?_
    refine XA.condT rfl rfl ?_
    refine zS ?_; refine zR ?_; refine zO rfl Rd.asg ?_; refine zN ?_; refine zT ?_
    refine XA.ret ?_
    refine DA.inb_ret ?_
    refine DA.thn_ret ?_
    exact bodyA.ret (ResA.one rfl rfl) (Ent.refl _) ⟨rfl, rfl, rfl⟩
  by_cases h5 : op = 5
  · subst h5
    refine XA.condF rfl rfl ?_
    refine zS ?_; refine zR ?_; refine zO rfl (Rd.eql rfl rfl) ?_; refine zO rfl Rd.asg ?_; refine zN ?_; refine zT ?_
    refine XA.condT rfl rfl ?_
    refine XA.skip ?_
    refine zT ?_
    refine XA.condT rfl rfl ?_
    refine zS ?_; refine zR ?_; refine zO rfl Rd.asg ?_; refine zN ?_; refine zT ?_
    refine XA.ret ?_
    refine DA.inb_ret ?_
    refine DA.thn_ret ?_
    exact bodyA.ret (ResA.one rfl rfl) (Ent.refl _) ⟨rfl, rfl, rfl⟩
  by_cases h6 : op = 6
  · subst h6
    refine XA.condF rfl rfl ?_
    refine zS ?_; refine zR ?_; refine zO rfl (Rd.eql rfl rfl) ?_; refine zO rfl Rd.asg ?_; refine zN ?_; refine zT ?_
    refine XA.condF rfl rfl ?_
    refine zS ?_; refine zR ?_; refine zO rfl (Rd.eql rfl rfl) ?_; refine zO rfl Rd.asg ?_; refine zN ?_; refine zT ?_
    refine XA.condT rfl rfl ?_
    refine XA.skip ?_
    refine zT ?_
    refine XA.condT rfl rfl ?_
    refine zS ?_; refine zR ?_; refine zO rfl Rd.asg ?_; refine zN ?_; refine zT ?_
    refine XA.ret ?_
    refine DA.inb_ret ?_
    refine DA.thn_ret ?_
    exact bodyA.ret (ResA.one rfl rfl) (Ent.refl _) ⟨rfl, rfl, rfl⟩
  by_cases h7 : op = 7
  · subst h7
    refine XA.condF rfl rfl ?_
    refine zS ?_; refine zR ?_; refine zO rfl (Rd.eql rfl rfl) ?_; refine zO rfl Rd.asg ?_; refine zN ?_; refine zT ?_
    refine XA.condF rfl rfl ?_
    refine zS ?_; refine zR ?_; refine zO rfl (Rd.eql rfl rfl) ?_; refine zO rfl Rd.asg ?_; refine zN ?_; refine zT ?_
    refine XA.condF rfl rfl ?_
    refine zS ?_; refine zR ?_; refine zO rfl (Rd.eql rfl rfl) ?_; refine zO rfl Rd.asg ?_; refine zN ?_; refine zT ?_
    refine XA.condT rfl rfl ?_
    refine XA.skip ?_
    refine zT ?_
    refine XA.condT rfl rfl ?_
    refine zS ?_; refine zR ?_; refine zO rfl Rd.asg ?_; refine zN ?_; refine zT ?_
    refine XA.ret ?_
    refine DA.inb_ret ?_
    refine DA.thn_ret ?_
    exact bodyA.ret (ResA.one rfl rfl) (Ent.refl _) ⟨rfl, rfl, rfl⟩
  refine XA.condF rfl (by first | rfl | exact (by first | exact (rfl : decide _ = true) | exact (rfl : decide _ = false) | (refine decide_eq_true ?_; assumption) | (refine decide_eq_false ?_; assumption) | (refine decide_eq_true ?_; omega) | (refine decide_eq_false ?_; omega))) ?_
  refine zS ?_; refine zR ?_; refine zO rfl (Rd.eql rfl rfl) ?_; refine zO rfl Rd.asg ?_; refine zN ?_; refine zT ?_
  refine XA.condF rfl (by first | rfl | exact (by first | exact (rfl : decide _ = true) | exact (rfl : decide _ = false) | (refine decide_eq_true ?_; assumption) | (refine decide_eq_false ?_; assumption) | (refine decide_eq_true ?_; omega) | (refine decide_eq_false ?_; omega))) ?_
  refine zS ?_; refine zR ?_; refine zO rfl (Rd.eql rfl rfl) ?_; refine zO rfl Rd.asg ?_; refine zN ?_; refine zT ?_
  refine XA.condF rfl (by first | rfl | exact (by first | exact (rfl : decide _ = true) | exact (rfl : decide _ = false) | (refine decide_eq_true ?_; assumption) | (refine decide_eq_false ?_; assumption) | (refine decide_eq_true ?_; omega) | (refine decide_eq_false ?_; omega))) ?_
  refine zS ?_; refine zR ?_; refine zO rfl (Rd.eql rfl rfl) ?_; refine zO rfl Rd.asg ?_; refine zN ?_; refine zT ?_
  refine XA.condF rfl (by first | rfl | exact (by first | exact (rfl : decide _ = true) | exact (rfl : decide _ = false) | (refine decide_eq_true ?_; assumption) | (refine decide_eq_false ?_; assumption) | (refine decide_eq_true ?_; omega) | (refine decide_eq_false ?_; omega))) ?_
  refine zR ?_; refine zO rfl (Rd.eql rfl rfl) ?_; refine zO rfl Rd.asg ?_; refine zN ?_; refine zT ?_
  refine XA.condp rfl (fun h8 => ?_) (fun h8 => ?_)
  · subst h8
    refine zS ?_; refine zR ?_; refine zO rfl Rd.asg ?_; refine zN ?_; refine zT ?_
    refine XA.ret ?_
    refine DA.inb_ret ?_
    refine DA.thn_ret ?_
    exact bodyA.ret (ResA.one rfl rfl) (Ent.refl _) ⟨rfl, rfl, rfl⟩
  rw [hp, if_neg (by omega)]
  refine XA.skip ?_
  refine DA.inb_normal ?_
  refine zT ?_; refine zS ?_; refine zR ?_; refine zO rfl Rd.asg ?_; refine zN ?_; refine zT ?_
  refine XA.ret ?_
  exact bodyA.ret (ResA.one rfl rfl) (Ent.refl _) ⟨rfl, rfl, rfl⟩
def needs (op : Int) : ByteArray := if op = 1 then ⟨#[101, 118]⟩ else if op = 2 then ⟨#[101, 102, 118]⟩ else if op = 3 then ⟨#[101]⟩ else if op = 4 then ⟨#[118]⟩ else if op = 5 then ⟨#[101, 98]⟩ else if op = 6 then ⟨#[101, 98, 111]⟩ else ⟨#[]⟩
theorem rneeds_a (σ : PH) (op : Int) : CallsA Try.prog 41 #[i64 op] σ [] (RetA fun v σ' Γ' => v = .string (needs op) ∧ σ = σ' ∧ Γ' = []) := by
  refine enterA1 Try.func41 rfl rfl rfl ?_
  refine zS ?_; refine zR ?_; refine zO rfl Rd.asg ?_; refine zN ?_; refine zT ?_; refine zS ?_; refine zS ?_; refine zR ?_; refine zO rfl Rd.mv ?_; refine zN ?_; refine zT ?_
  refine XA.block ?_
  refine zS ?_; refine zR ?_; refine zO rfl (Rd.eql rfl rfl) ?_; refine zO rfl Rd.asg ?_; refine zN ?_; refine zT ?_
  refine XA.condp rfl (fun h1 => ?_) (fun h1 => ?_)
  · subst h1
    refine zS ?_; refine zR ?_; refine zO rfl Rd.asg ?_; refine zN ?_; refine zT ?_
    refine XA.ret ?_
    refine DA.inb_ret ?_
    refine DA.thn_ret ?_
    exact bodyA.ret (ResA.one rfl rfl) (Ent.refl _) ⟨rfl, rfl, rfl⟩
  refine zS ?_; refine zR ?_; refine zO rfl (Rd.eql rfl rfl) ?_; refine zO rfl Rd.asg ?_; refine zN ?_; refine zT ?_
  refine XA.condp rfl (fun h2 => ?_) (fun h2 => ?_)
  · subst h2
    refine zS ?_; refine zR ?_; refine zO rfl Rd.asg ?_; refine zN ?_; refine zT ?_
    refine XA.ret ?_
    refine DA.inb_ret ?_
    refine DA.thn_ret ?_
    exact bodyA.ret (ResA.one rfl rfl) (Ent.refl _) ⟨rfl, rfl, rfl⟩
  refine zS ?_; refine zR ?_; refine zO rfl (Rd.eql rfl rfl) ?_; refine zO rfl Rd.asg ?_; refine zN ?_; refine zT ?_
  refine XA.condp rfl (fun h3 => ?_) (fun h3 => ?_)
  · subst h3
    refine zS ?_; refine zR ?_; refine zO rfl Rd.asg ?_; refine zN ?_; refine zT ?_
    refine XA.ret ?_
    refine DA.inb_ret ?_
    refine DA.thn_ret ?_
    exact bodyA.ret (ResA.one rfl rfl) (Ent.refl _) ⟨rfl, rfl, rfl⟩
  refine zS ?_; refine zR ?_; refine zO rfl (Rd.eql rfl rfl) ?_; refine zO rfl Rd.asg ?_; refine zN ?_; refine zT ?_
  refine XA.condp rfl (fun h4 => ?_) (fun h4 => ?_)
  · subst h4
    refine zS ?_; refine zR ?_; refine zO rfl Rd.asg ?_; refine zN ?_; refine zT ?_
    refine XA.ret ?_
    refine DA.inb_ret ?_
    refine DA.thn_ret ?_
    exact bodyA.ret (ResA.one rfl rfl) (Ent.refl _) ⟨rfl, rfl, rfl⟩
  refine zS ?_; refine zR ?_; refine zO rfl (Rd.eql rfl rfl) ?_; refine zO rfl Rd.asg ?_; refine zN ?_; refine zT ?_
  refine XA.condp rfl (fun h5 => ?_) (fun h5 => ?_)
  · subst h5
    refine zS ?_; refine zR ?_; refine zO rfl Rd.asg ?_; refine zN ?_; refine zT ?_
    refine XA.ret ?_
    refine DA.inb_ret ?_
    refine DA.thn_ret ?_
    exact bodyA.ret (ResA.one rfl rfl) (Ent.refl _) ⟨rfl, rfl, rfl⟩
  refine zS ?_; refine zR ?_; refine zO rfl (Rd.eql rfl rfl) ?_; refine zO rfl Rd.asg ?_; refine zN ?_; refine zT ?_
  refine XA.condp rfl (fun h6 => ?_) (fun h6 => ?_)
  · subst h6
    refine zS ?_; refine zR ?_; refine zO rfl Rd.asg ?_; refine zN ?_; refine zT ?_
    refine XA.ret ?_
    refine DA.inb_ret ?_
    refine DA.thn_ret ?_
    exact bodyA.ret (ResA.one rfl rfl) (Ent.refl _) ⟨rfl, rfl, rfl⟩
  have hn : needs op = ⟨#[]⟩ := by rw [needs, if_neg h1, if_neg h2, if_neg h3, if_neg h4, if_neg h5, if_neg h6]
  rw [hn]
  refine XA.skip ?_
  refine DA.inb_normal ?_
  refine zT ?_; refine zS ?_; refine zR ?_; refine zO rfl Rd.asg ?_; refine zN ?_; refine zT ?_
  refine XA.ret ?_
  exact bodyA.ret (ResA.one rfl rfl) (Ent.refl _) ⟨rfl, rfl, rfl⟩
def hasByte (s : ByteArray) (c : Nat) : Bool := decide (∃ i, i < s.size ∧ byteAt s i = c)
theorem rneeded_a (σ : PH) (op : Int) (c : Nat) : CallsA Try.prog 17 #[i64 op, .int .u8 c] σ [] (RetA fun v σ' Γ' => v = .bool (hasByte (needs op) c) ∧ σ = σ' ∧ Γ' = []) := by
  have hsz : (needs op).size ≤ 3 := by unfold needs; (repeat' split) <;> decide
  refine enterA2 Try.func17 rfl rfl rfl ?_
  refine zS ?_; refine zR ?_; refine zO rfl Rd.asg ?_; refine zN ?_; refine zT ?_; refine zS ?_; refine zR ?_; refine zO rfl Rd.mv ?_
  refine XOA.wr0 rfl (WrA.cE (rneeds_a σ op) rfl) ?_
  rintro _ _ _ ⟨_, ⟨rfl, rfl, rfl⟩, rfl⟩
  refine XOA.cl ?_
  obtain ⟨s, hs⟩ : ∃ s, s = needs op := ⟨_, rfl⟩
  rw [← hs] at hsz ⊢
  refine zO rfl Rd.asg ?_; refine zN ?_; refine zT ?_; refine zS ?_; refine zS ?_; refine zR ?_; refine zO rfl Rd.asg ?_; refine zN ?_; refine zT ?_
  refine XA.block ?_
  refine XA.gen [(1, _), (4, _), (5, _), (6, _)] ⟨(by with_reducible (conv => lhs; whnf)), (by with_reducible (conv => lhs; whnf)), (by with_reducible (conv => lhs; whnf)), (by with_reducible (conv => lhs; whnf)), trivial⟩ (fun δ => ?_)
  dsimp only [List.foldl]
  refine XA.loop [(4, 4), (6, 6), (9, 19)] (fun k : Nat => [(6, i64 k)]) (fun k σ' Γ' => σ = σ' ∧ k ≤ s.size ∧ (∀ i, i < k → byteAt s i ≠ c) ∧ Γ' = []) (fun k => s.size - k) 0 (by exact ⟨rfl, trivial⟩) (Δ0 := _) ?_ (⟨rfl, Nat.zero_le _, fun i h => absurd h (Nat.not_lt_zero _), rfl⟩) ?_
  · exact zE
  rintro k δ _ _ ⟨rfl, hk, hall, rfl⟩
  dsimp only [ovr, List.foldl]
  refine zS ?_; refine zS ?_; refine zR ?_; refine zO rfl Rd.mv ?_; refine zO rfl Rd.mv ?_
  refine zO rfl (Rd.lenString (tyrow rfl) rfl rfl) ?_
  refine zO rfl (Rd.lss rfl rfl) ?_; refine zN ?_; refine zT ?_
  refine XA.condp rfl (fun hlt => ?_) (fun hlt => ?_)
  · have hlt : k < s.size := by omega
    refine XA.skip ?_
    refine zT ?_; refine zS ?_
    refine XA.block ?_
    refine zS ?_; refine zR ?_; refine zO rfl Rd.mv ?_; refine zO rfl Rd.mv ?_
    refine zO rfl (Rd.indexStr (tyrow rfl) rfl rfl rfl (by first | omega | decide | (simp; omega))) ?_
    refine zO rfl Rd.mv ?_; refine zO rfl (Rd.eql rfl rfl) ?_; refine zN ?_; refine zT ?_
    refine XA.condp rfl (fun he => ?_) (fun he => ?_)
    · have hb : hasByte s c = true := decide_eq_true ⟨k, hlt, by omega⟩
      rw [hb]
      refine zS ?_; refine zR ?_; refine zO rfl Rd.asg ?_; refine zN ?_; refine zT ?_
      refine XA.ret ?_
      refine DA.inb_ret ?_
      refine DA.thn_ret ?_
      refine DA.thn_ret ?_
      refine DA.inb_ret ?_
      refine DA.thn_ret ?_
      exact bodyA.ret (ResA.one rfl rfl) (Ent.nil _) ⟨rfl, rfl, rfl⟩
    have hnew : ∀ i, i < k + 1 → byteAt s i ≠ c := fun i hi => by
      rcases Nat.lt_or_ge i k with h | h
      · exact hall i h
      · have : i = k := by omega
        subst this; omega
    refine XA.skip ?_
    refine DA.inb_normal ?_
    refine zT ?_; refine zR ?_; refine zO rfl Rd.mv ?_
    refine zO rfl (by first | exact Rd.adi rfl rfl | exact Rd.add rfl rfl) ?_
    refine zO rfl Rd.asg ?_; refine zN ?_; refine zT ?_
    refine ⟨(Keep.upd (Keep.upd (Keep.upd (Keep.upd (Keep.upd (Keep.upd (Keep.upd (Keep.upd (Keep.upd (Keep.upd (Keep.upd (Keep.upd (Keep.upd (Keep.hav (Keep.hav (Keep.hav (Keep.refl _ _) rfl) rfl) rfl) rfl) rfl) rfl) rfl) rfl) rfl) rfl) rfl) rfl) rfl) rfl) rfl) rfl), k + 1, _, (by (repeat (first | exact trivial | refine ⟨rfl, ?_⟩ | refine ⟨Eq.trans rfl (congrArg Value.bool hmat.symm), ?_⟩)); (first | done | fail)), ?_, ⟨rfl, hlt, hnew, rfl⟩, (by omega)⟩
    · exact zE
  have hb : hasByte s c = false := decide_eq_false (fun ⟨i, h1, h2⟩ => hall i (by omega) h2)
  rw [hb]
  refine XA.exit ?_
  refine DA.thn_exit ?_
  refine DA.thn_exit ?_
  refine DA.inb_same ?_
  refine zT ?_; refine zS ?_; refine zR ?_; refine zO rfl Rd.asg ?_; refine zN ?_; refine zT ?_
  refine XA.ret ?_
  exact bodyA.ret (ResA.one rfl rfl) (Ent.nil _) ⟨rfl, rfl, rfl⟩
theorem need_op (op : Int) : hasByte (needs op) 101 = needE op ∧ hasByte (needs op) 102 = needF op ∧ hasByte (needs op) 118 = needV op ∧ hasByte (needs op) 98 = needB op ∧ hasByte (needs op) 111 = needO op := by
  by_cases h1 : op = 1
  · subst h1; decide +kernel
  by_cases h2 : op = 2
  · subst h2; decide +kernel
  by_cases h3 : op = 3
  · subst h3; decide +kernel
  by_cases h4 : op = 4
  · subst h4; decide +kernel
  by_cases h5 : op = 5
  · subst h5; decide +kernel
  by_cases h6 : op = 6
  · subst h6; decide +kernel
  have hn : needs op = ⟨#[]⟩ := by rw [needs, if_neg h1, if_neg h2, if_neg h3, if_neg h4, if_neg h5, if_neg h6]
  rw [hn]
  have : ∀ c, hasByte ⟨#[]⟩ c = false := fun c => decide_eq_false (fun ⟨i, h, _⟩ => absurd h (Nat.not_lt_zero i))
  simp [this, needE, needF, needV, needB, needO, h1, h2, h3, h4, h5, h6]
theorem rname_a (σ : PH) (s : ByteArray) (hs : s.size ≤ maxLen) : CallsA Try.prog 23 #[.string s] σ [] (RetA fun v σ' Γ' => v = .bool (nameOk s) ∧ σ = σ' ∧ Γ' = []) := by
  simp only [maxLen] at hs
  refine enterA1 Try.func23 rfl rfl rfl ?_
  refine zS ?_; refine zR ?_; refine zO rfl Rd.asg ?_; refine zN ?_; refine zT ?_; refine zS ?_; refine zS ?_; refine zR ?_; refine zO rfl Rd.asg ?_; refine zN ?_; refine zT ?_
  refine XA.block ?_
  refine XA.gen [(0, _), (2, _), (3, _)] ⟨(by with_reducible (conv => lhs; whnf)), (by with_reducible (conv => lhs; whnf)), (by with_reducible (conv => lhs; whnf)), trivial⟩ (fun δ => ?_)
  dsimp only [List.foldl]
  refine XA.loop [(2, 19)] (fun k : Nat => [(3, i64 k)]) (fun k σ' Γ' => σ = σ' ∧ k ≤ s.size ∧ (∀ i, i < k → 97 ≤ byteAt s i ∧ byteAt s i ≤ 122) ∧ Γ' = []) (fun k => s.size - k) 0 (by exact ⟨rfl, trivial⟩) (Δ0 := _) ?_ (⟨rfl, Nat.zero_le _, by intro i hi; omega, rfl⟩) ?_
  · exact zE
  rintro k δ _ _ ⟨rfl, hk, hall, rfl⟩
  dsimp only [ovr, List.foldl]
  refine zS ?_; refine zS ?_; refine zR ?_; refine zO rfl Rd.mv ?_; refine zO rfl Rd.mv ?_
  refine zO rfl (Rd.lenString (tyrow rfl) rfl rfl) ?_
  refine zO rfl (Rd.lss rfl rfl) ?_; refine zN ?_; refine zT ?_
  refine XA.condp rfl (fun hlt => ?_) (fun hlt => ?_)
  · have hlt : k < s.size := by omega
    have hb := byteAt_lt s k
    by_cases h1 : byteAt s k < 97
    · 
      refine XA.skip ?_
      refine zT ?_; refine zS ?_
      refine XA.block ?_
      refine zS ?_; refine zR ?_; refine zO rfl Rd.mv ?_; refine zO rfl Rd.mv ?_
      refine zO rfl (Rd.indexStr (tyrow rfl) rfl rfl rfl (by first | omega | decide | (simp; omega))) ?_
      refine zO rfl (Rd.lss rfl rfl) ?_; refine zO rfl Rd.mv ?_
      first | ((first | refine zW ?_ | refine zQ ?_); refine zO rfl Rd.mv ?_) | refine zU ?_ | refine zV ?_ | refine zZ ?_
      first | ((first | refine zW ?_ | refine zQ ?_); refine zO rfl Rd.mv ?_) | refine zU ?_ | refine zV ?_ | refine zZ ?_
      first | ((first | refine zW ?_ | refine zQ ?_); refine zO rfl (Rd.indexStr (tyrow rfl) rfl rfl rfl (by first | omega | decide | (simp; omega))) ?_) | refine zU ?_ | refine zV ?_ | refine zZ ?_
      first | ((first | refine zW ?_ | refine zQ ?_); refine zO rfl (Rd.gtr rfl rfl) ?_) | refine zU ?_ | refine zV ?_ | refine zZ ?_
      refine zO rfl (by first | exact Rd.pT rfl | exact Rd.pF rfl | exact Rd.pP rfl) ?_
      refine zN ?_; refine zT ?_
      refine XA.condT rfl rfl ?_
      refine zS ?_; refine zR ?_; refine zO rfl Rd.asg ?_; refine zN ?_; refine zT ?_
      refine XA.ret ?_
      refine DA.inb_ret ?_
      refine DA.thn_ret ?_
      refine DA.thn_ret ?_
      refine DA.inb_ret ?_
      refine DA.thn_ret ?_
      refine bodyA.ret (ResA.one rfl rfl) (Ent.refl _) ⟨?_, rfl, rfl⟩
      have : nameOk s = false := decide_eq_false (fun h => by have := h.1 k hlt; omega)
      rw [this]
    · 
      refine XA.skip ?_
      refine zT ?_; refine zS ?_
      refine XA.block ?_
      refine zS ?_; refine zR ?_; refine zO rfl Rd.mv ?_; refine zO rfl Rd.mv ?_
      refine zO rfl (Rd.indexStr (tyrow rfl) rfl rfl rfl (by first | omega | decide | (simp; omega))) ?_
      refine zO rfl (Rd.lss rfl rfl) ?_; refine zO rfl Rd.mv ?_
      first | ((first | refine zW ?_ | refine zQ ?_); refine zO rfl Rd.mv ?_) | refine zU ?_ | refine zV ?_ | refine zZ ?_
      first | ((first | refine zW ?_ | refine zQ ?_); refine zO rfl Rd.mv ?_) | refine zU ?_ | refine zV ?_ | refine zZ ?_
      first | ((first | refine zW ?_ | refine zQ ?_); refine zO rfl (Rd.indexStr (tyrow rfl) rfl rfl rfl (by first | omega | decide | (simp; omega))) ?_) | refine zU ?_ | refine zV ?_ | refine zZ ?_
      first | ((first | refine zW ?_ | refine zQ ?_); refine zO rfl (Rd.gtr rfl rfl) ?_) | refine zU ?_ | refine zV ?_ | refine zZ ?_
      refine zO rfl (by first | exact Rd.pT rfl | exact Rd.pF rfl | exact Rd.pP rfl) ?_
      refine zN ?_; refine zT ?_
      refine XA.condp rfl (fun h2 => ?_) (fun h2 => ?_)
      · refine zS ?_
        refine zR ?_; refine zO rfl Rd.asg ?_; refine zN ?_; refine zT ?_
        refine XA.ret ?_
        refine DA.inb_ret ?_
        refine DA.thn_ret ?_
        refine DA.thn_ret ?_
        refine DA.inb_ret ?_
        refine DA.thn_ret ?_
        refine bodyA.ret (ResA.one rfl rfl) (Ent.refl _) ⟨?_, rfl, rfl⟩
        have : nameOk s = false := decide_eq_false (fun h => by have := h.1 k hlt; omega)
        rw [this]
      have hnew : ∀ i, i < k + 1 → 97 ≤ byteAt s i ∧ byteAt s i ≤ 122 := fun i hi => by
        rcases Nat.lt_or_ge i k with h | h
        · exact hall i h
        · have : i = k := by omega
          subst this; omega
      refine XA.skip ?_
      refine DA.inb_normal ?_
      refine zT ?_; refine zR ?_; refine zO rfl Rd.mv ?_
      refine zO rfl (by first | exact Rd.adi rfl rfl | exact Rd.add rfl rfl) ?_
      refine zO rfl Rd.asg ?_; refine zN ?_; refine zT ?_
      refine ⟨(Keep.upd (Keep.upd (Keep.upd (Keep.upd (Keep.upd (Keep.upd (Keep.upd (Keep.upd (Keep.upd (Keep.upd (Keep.upd (Keep.upd (Keep.upd (Keep.upd (Keep.upd (Keep.upd (Keep.upd (Keep.upd (Keep.hav (Keep.refl _ _) rfl) rfl) rfl) rfl) rfl) rfl) rfl) rfl) rfl) rfl) rfl) rfl) rfl) rfl) rfl) rfl) rfl) rfl) rfl), k + 1, _, (by (repeat (first | exact trivial | refine ⟨rfl, ?_⟩ | refine ⟨Eq.trans rfl (congrArg Value.bool hmat.symm), ?_⟩)); (first | done | fail)), ?_, ⟨rfl, hlt, hnew, rfl⟩, (by omega)⟩
      · exact zE
  have hkn : k = s.size := by omega
  subst hkn
  by_cases h0 : 1 ≤ s.size
  · have : nameOk s = decide ((s.size : Int) ≤ 8) := by
      unfold nameOk
      rw [decide_eq_decide]
      constructor
      · intro h; omega
      · intro h; exact ⟨hall, by omega, by omega⟩
    rw [this]
    refine XA.exit ?_
    refine DA.thn_exit ?_
    refine DA.thn_exit ?_
    refine DA.inb_same ?_
    refine zT ?_; refine zS ?_; refine zR ?_; refine zO rfl Rd.mv ?_
    refine zO rfl (Rd.lenString (tyrow rfl) rfl rfl) ?_
    refine zO rfl (Rd.geq rfl rfl) ?_
    refine zO rfl Rd.mv ?_
    first | ((first | refine zW ?_ | refine zQ ?_); refine zO rfl Rd.mv ?_) | refine zU ?_ | refine zV ?_ | refine zZ ?_
    first | ((first | refine zW ?_ | refine zQ ?_); refine zO rfl (Rd.lenString (tyrow rfl) rfl rfl) ?_) | refine zU ?_ | refine zV ?_ | refine zZ ?_
    first | ((first | refine zW ?_ | refine zQ ?_); refine zO rfl (Rd.leq rfl rfl) ?_) | refine zU ?_ | refine zV ?_ | refine zZ ?_
    refine zO rfl (by first | exact Rd.pT rfl | exact Rd.pF rfl | exact Rd.pP rfl) ?_
    refine zO rfl Rd.asg ?_; refine zN ?_; refine zT ?_
    refine XA.ret ?_
    exact bodyA.ret (ResA.one rfl rfl) (Ent.refl _) ⟨rfl, rfl, rfl⟩
  · have : nameOk s = false := decide_eq_false (fun h => by omega)
    rw [this]
    refine XA.exit ?_
    refine DA.thn_exit ?_
    refine DA.thn_exit ?_
    refine DA.inb_same ?_
    refine zT ?_; refine zS ?_; refine zR ?_; refine zO rfl Rd.mv ?_
    refine zO rfl (Rd.lenString (tyrow rfl) rfl rfl) ?_
    refine zO rfl (Rd.geq rfl rfl) ?_
    refine zO rfl Rd.mv ?_
    first | ((first | refine zW ?_ | refine zQ ?_); refine zO rfl Rd.mv ?_) | refine zU ?_ | refine zV ?_ | refine zZ ?_
    first | ((first | refine zW ?_ | refine zQ ?_); refine zO rfl (Rd.lenString (tyrow rfl) rfl rfl) ?_) | refine zU ?_ | refine zV ?_ | refine zZ ?_
    first | ((first | refine zW ?_ | refine zQ ?_); refine zO rfl (Rd.leq rfl rfl) ?_) | refine zU ?_ | refine zV ?_ | refine zZ ?_
    refine zO rfl (by first | exact Rd.pT rfl | exact Rd.pF rfl | exact Rd.pP rfl) ?_
    refine zO rfl Rd.asg ?_; refine zN ?_; refine zT ?_
    refine XA.ret ?_
    exact bodyA.ret (ResA.one rfl rfl) (Ent.refl _) ⟨rfl, rfl, rfl⟩
theorem rzero_a (σ : PH) (cs : List Value) (x : Ex) (hx : ExAt σ cs x) : CallsA Try.prog 66 #[.agg cs.toArray] σ [] (RetA fun v σ' Γ' => v = .bool (noneX x) ∧ σ = σ' ∧ Γ' = []) := by
  obtain ⟨p, c, rfl, -, -, -, -⟩ := hx.inv
  by_cases h1 : x.op = 0
  · by_cases h2 : x.v = 0
    · by_cases h3 : x.n = 0
      · 
        refine enterA1 Try.func66 rfl rfl rfl ?_
        refine zS ?_; refine zR ?_
        refine XOA.wr0 rfl WrA.bx ?_
        rintro _ _ _ ⟨g1, rfl, rfl, rfl⟩
        refine zO rfl Rd.asg ?_; refine zN ?_; refine zT ?_; refine zS ?_; refine zR ?_; refine zO rfl (Rd.fA rfl) ?_; refine zO rfl (Rd.ldC rfl (tyrow rfl) rfl) ?_; refine zO rfl (Rd.eql rfl rfl) ?_; refine zO rfl Rd.mv ?_
        first | ((first | refine zW ?_ | refine zQ ?_); refine zO rfl (Rd.fA rfl) ?_) | refine zU ?_ | refine zV ?_ | refine zZ ?_
        first | ((first | refine zW ?_ | refine zQ ?_); refine zO rfl (Rd.ldC rfl (tyrow rfl) rfl) ?_) | refine zU ?_ | refine zV ?_ | refine zZ ?_
        first | ((first | refine zW ?_ | refine zQ ?_); refine zO rfl (Rd.eql rfl rfl) ?_) | refine zU ?_ | refine zV ?_ | refine zZ ?_
        refine zO rfl (by first | exact Rd.pT rfl | exact Rd.pF rfl | exact Rd.pP rfl) ?_
        refine zO rfl Rd.mv ?_
        first | ((first | refine zW ?_ | refine zQ ?_); refine zO rfl (Rd.fA rfl) ?_) | refine zU ?_ | refine zV ?_ | refine zZ ?_
        first | ((first | refine zW ?_ | refine zQ ?_); refine zO rfl (Rd.ldC rfl (tyrow rfl) rfl) ?_) | refine zU ?_ | refine zV ?_ | refine zZ ?_
        first | ((first | refine zW ?_ | refine zQ ?_); refine zO rfl (Rd.eql rfl rfl) ?_) | refine zU ?_ | refine zV ?_ | refine zZ ?_
        refine zO rfl (by first | exact Rd.pT rfl | exact Rd.pF rfl | exact Rd.pP rfl) ?_
        refine zO rfl Rd.mv ?_
        first | ((first | refine zW ?_ | refine zQ ?_); refine zO rfl (Rd.fA rfl) ?_) | refine zU ?_ | refine zV ?_ | refine zZ ?_
        first | ((first | refine zW ?_ | refine zQ ?_); refine zO rfl (Rd.ldC rfl (tyrow rfl) rfl) ?_) | refine zU ?_ | refine zV ?_ | refine zZ ?_
        first | ((first | refine zW ?_ | refine zQ ?_); refine zO rfl (Rd.lenSlice (tyrow rfl) rfl rfl) ?_) | refine zU ?_ | refine zV ?_ | refine zZ ?_
        first | ((first | refine zW ?_ | refine zQ ?_); refine zO rfl (Rd.eql rfl rfl) ?_) | refine zU ?_ | refine zV ?_ | refine zZ ?_
        refine zO rfl (by first | exact Rd.pT rfl | exact Rd.pF rfl | exact Rd.pP rfl) ?_
        refine zO rfl Rd.asg ?_; refine zN ?_; refine zT ?_
        refine XA.ret ?_
        refine bodyA.ret (ResA.one rfl rfl) (Ent.nil _) ⟨?_, rfl, rfl⟩
        simp [noneX, h1, h2, h3]
      · 
        refine enterA1 Try.func66 rfl rfl rfl ?_
        refine zS ?_; refine zR ?_
        refine XOA.wr0 rfl WrA.bx ?_
        rintro _ _ _ ⟨g1, rfl, rfl, rfl⟩
        refine zO rfl Rd.asg ?_; refine zN ?_; refine zT ?_; refine zS ?_; refine zR ?_; refine zO rfl (Rd.fA rfl) ?_; refine zO rfl (Rd.ldC rfl (tyrow rfl) rfl) ?_; refine zO rfl (Rd.eql rfl rfl) ?_; refine zO rfl Rd.mv ?_
        first | ((first | refine zW ?_ | refine zQ ?_); refine zO rfl (Rd.fA rfl) ?_) | refine zU ?_ | refine zV ?_ | refine zZ ?_
        first | ((first | refine zW ?_ | refine zQ ?_); refine zO rfl (Rd.ldC rfl (tyrow rfl) rfl) ?_) | refine zU ?_ | refine zV ?_ | refine zZ ?_
        first | ((first | refine zW ?_ | refine zQ ?_); refine zO rfl (Rd.eql rfl rfl) ?_) | refine zU ?_ | refine zV ?_ | refine zZ ?_
        refine zO rfl (by first | exact Rd.pT rfl | exact Rd.pF rfl | exact Rd.pP rfl) ?_
        refine zO rfl Rd.mv ?_
        first | ((first | refine zW ?_ | refine zQ ?_); refine zO rfl (Rd.fA rfl) ?_) | refine zU ?_ | refine zV ?_ | refine zZ ?_
        first | ((first | refine zW ?_ | refine zQ ?_); refine zO rfl (Rd.ldC rfl (tyrow rfl) rfl) ?_) | refine zU ?_ | refine zV ?_ | refine zZ ?_
        first | ((first | refine zW ?_ | refine zQ ?_); refine zO rfl (Rd.eql rfl rfl) ?_) | refine zU ?_ | refine zV ?_ | refine zZ ?_
        refine zO rfl (by first | exact Rd.pT rfl | exact Rd.pF rfl | exact Rd.pP rfl) ?_
        refine zO rfl Rd.mv ?_
        first | ((first | refine zW ?_ | refine zQ ?_); refine zO rfl (Rd.fA rfl) ?_) | refine zU ?_ | refine zV ?_ | refine zZ ?_
        first | ((first | refine zW ?_ | refine zQ ?_); refine zO rfl (Rd.ldC rfl (tyrow rfl) rfl) ?_) | refine zU ?_ | refine zV ?_ | refine zZ ?_
        first | ((first | refine zW ?_ | refine zQ ?_); refine zO rfl (Rd.lenSlice (tyrow rfl) rfl rfl) ?_) | refine zU ?_ | refine zV ?_ | refine zZ ?_
        first | ((first | refine zW ?_ | refine zQ ?_); refine zO rfl (Rd.eql rfl rfl) ?_) | refine zU ?_ | refine zV ?_ | refine zZ ?_
        refine zO rfl (by first | exact Rd.pT rfl | exact Rd.pF rfl | exact Rd.pP rfl) ?_
        refine zO rfl Rd.asg ?_; refine zN ?_; refine zT ?_
        refine XA.ret ?_
        exact bodyA.ret (ResA.one rfl rfl) (Ent.nil _) ⟨by simp [noneX, h3], rfl, rfl⟩
    · 
      refine enterA1 Try.func66 rfl rfl rfl ?_
      refine zS ?_; refine zR ?_
      refine XOA.wr0 rfl WrA.bx ?_
      rintro _ _ _ ⟨g1, rfl, rfl, rfl⟩
      refine zO rfl Rd.asg ?_; refine zN ?_; refine zT ?_; refine zS ?_; refine zR ?_; refine zO rfl (Rd.fA rfl) ?_; refine zO rfl (Rd.ldC rfl (tyrow rfl) rfl) ?_; refine zO rfl (Rd.eql rfl rfl) ?_; refine zO rfl Rd.mv ?_
      first | ((first | refine zW ?_ | refine zQ ?_); refine zO rfl (Rd.fA rfl) ?_) | refine zU ?_ | refine zV ?_ | refine zZ ?_
      first | ((first | refine zW ?_ | refine zQ ?_); refine zO rfl (Rd.ldC rfl (tyrow rfl) rfl) ?_) | refine zU ?_ | refine zV ?_ | refine zZ ?_
      first | ((first | refine zW ?_ | refine zQ ?_); refine zO rfl (Rd.eql rfl rfl) ?_) | refine zU ?_ | refine zV ?_ | refine zZ ?_
      refine zO rfl (by first | exact Rd.pT rfl | exact Rd.pF rfl | exact Rd.pP rfl) ?_
      refine zO rfl Rd.mv ?_
      first | ((first | refine zW ?_ | refine zQ ?_); refine zO rfl (Rd.fA rfl) ?_) | refine zU ?_ | refine zV ?_ | refine zZ ?_
      first | ((first | refine zW ?_ | refine zQ ?_); refine zO rfl (Rd.ldC rfl (tyrow rfl) rfl) ?_) | refine zU ?_ | refine zV ?_ | refine zZ ?_
      first | ((first | refine zW ?_ | refine zQ ?_); refine zO rfl (Rd.eql rfl rfl) ?_) | refine zU ?_ | refine zV ?_ | refine zZ ?_
      refine zO rfl (by first | exact Rd.pT rfl | exact Rd.pF rfl | exact Rd.pP rfl) ?_
      refine zO rfl Rd.mv ?_
      first | ((first | refine zW ?_ | refine zQ ?_); refine zO rfl (Rd.fA rfl) ?_) | refine zU ?_ | refine zV ?_ | refine zZ ?_
      first | ((first | refine zW ?_ | refine zQ ?_); refine zO rfl (Rd.ldC rfl (tyrow rfl) rfl) ?_) | refine zU ?_ | refine zV ?_ | refine zZ ?_
      first | ((first | refine zW ?_ | refine zQ ?_); refine zO rfl (Rd.lenSlice (tyrow rfl) rfl rfl) ?_) | refine zU ?_ | refine zV ?_ | refine zZ ?_
      first | ((first | refine zW ?_ | refine zQ ?_); refine zO rfl (Rd.eql rfl rfl) ?_) | refine zU ?_ | refine zV ?_ | refine zZ ?_
      refine zO rfl (by first | exact Rd.pT rfl | exact Rd.pF rfl | exact Rd.pP rfl) ?_
      refine zO rfl Rd.asg ?_; refine zN ?_; refine zT ?_
      refine XA.ret ?_
      exact bodyA.ret (ResA.one rfl rfl) (Ent.nil _) ⟨by simp [noneX, h2], rfl, rfl⟩
  · 
    refine enterA1 Try.func66 rfl rfl rfl ?_
    refine zS ?_; refine zR ?_
    refine XOA.wr0 rfl WrA.bx ?_
    rintro _ _ _ ⟨g1, rfl, rfl, rfl⟩
    refine zO rfl Rd.asg ?_; refine zN ?_; refine zT ?_; refine zS ?_; refine zR ?_; refine zO rfl (Rd.fA rfl) ?_; refine zO rfl (Rd.ldC rfl (tyrow rfl) rfl) ?_; refine zO rfl (Rd.eql rfl rfl) ?_; refine zO rfl Rd.mv ?_
    first | ((first | refine zW ?_ | refine zQ ?_); refine zO rfl (Rd.fA rfl) ?_) | refine zU ?_ | refine zV ?_ | refine zZ ?_
    first | ((first | refine zW ?_ | refine zQ ?_); refine zO rfl (Rd.ldC rfl (tyrow rfl) rfl) ?_) | refine zU ?_ | refine zV ?_ | refine zZ ?_
    first | ((first | refine zW ?_ | refine zQ ?_); refine zO rfl (Rd.eql rfl rfl) ?_) | refine zU ?_ | refine zV ?_ | refine zZ ?_
    refine zO rfl (by first | exact Rd.pT rfl | exact Rd.pF rfl | exact Rd.pP rfl) ?_
    refine zO rfl Rd.mv ?_
    first | ((first | refine zW ?_ | refine zQ ?_); refine zO rfl (Rd.fA rfl) ?_) | refine zU ?_ | refine zV ?_ | refine zZ ?_
    first | ((first | refine zW ?_ | refine zQ ?_); refine zO rfl (Rd.ldC rfl (tyrow rfl) rfl) ?_) | refine zU ?_ | refine zV ?_ | refine zZ ?_
    first | ((first | refine zW ?_ | refine zQ ?_); refine zO rfl (Rd.eql rfl rfl) ?_) | refine zU ?_ | refine zV ?_ | refine zZ ?_
    refine zO rfl (by first | exact Rd.pT rfl | exact Rd.pF rfl | exact Rd.pP rfl) ?_
    refine zO rfl Rd.mv ?_
    first | ((first | refine zW ?_ | refine zQ ?_); refine zO rfl (Rd.fA rfl) ?_) | refine zU ?_ | refine zV ?_ | refine zZ ?_
    first | ((first | refine zW ?_ | refine zQ ?_); refine zO rfl (Rd.ldC rfl (tyrow rfl) rfl) ?_) | refine zU ?_ | refine zV ?_ | refine zZ ?_
    first | ((first | refine zW ?_ | refine zQ ?_); refine zO rfl (Rd.lenSlice (tyrow rfl) rfl rfl) ?_) | refine zU ?_ | refine zV ?_ | refine zZ ?_
    first | ((first | refine zW ?_ | refine zQ ?_); refine zO rfl (Rd.eql rfl rfl) ?_) | refine zU ?_ | refine zV ?_ | refine zZ ?_
    refine zO rfl (by first | exact Rd.pT rfl | exact Rd.pF rfl | exact Rd.pP rfl) ?_
    refine zO rfl Rd.asg ?_; refine zN ?_; refine zT ?_
    refine XA.ret ?_
    exact bodyA.ret (ResA.one rfl rfl) (Ent.nil _) ⟨by simp [noneX, h1], rfl, rfl⟩
end Go.Proofs.Ytbbghdkndbpmmaa
