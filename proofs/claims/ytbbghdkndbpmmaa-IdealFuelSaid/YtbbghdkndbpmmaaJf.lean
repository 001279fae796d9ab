/- The law IdealFuel. -/
import Derived.Test.YtbbghdkndbpmmaaJl
import Derived.Test.YtbbghdkndbpmmaaJp
namespace Go.Proofs.Ytbbghdkndbpmmaa
open Go X
set_option maxHeartbeats 1000000
theorem fuel_law (σ : PH) (cs : List Value) (p : Pr) (iv : Value) (inp : List Int) (fuel more : Int) (hp : PrAt σ cs p) (hi : PInts σ iv inp) (hm0 : -9223372036854775808 ≤ more) (hm1 : more ≤ 9223372036854775807) :
    CallsA Try.prog 10 #[.agg cs.toArray, iv, i64 fuel, i64 more] σ [] (RetA fun r σ' _ => r = .bool true ∧ σ.sub σ') := by
  have hp0 := hp
  obtain ⟨vs, bs, rfl, hv, hb⟩ := hp
  obtain ⟨pv, cv, rfl, -, -⟩ := hv.shape
  obtain ⟨pb, cb, rfl, -, -⟩ := hb.shape
  obtain ⟨pi, ci, rfl, hil, him⟩ := hi.shape
  simp only [maxLen] at him
  refine enterA4 Try.func10 rfl rfl rfl ?_
  refine zS ?_; refine zR ?_
  refine XOA.wr0 rfl WrA.bx ?_
  rintro _ _ _ ⟨g4, rfl, rfl, rfl⟩
  refine zO rfl Rd.asg ?_; refine zN ?_; refine zT ?_; refine zS ?_; refine zS ?_; refine zR ?_
  refine XOA.wr0 rfl (WrA.cE (ibegun_a σ) rfl) ?_
  rintro _ σ1 _ ⟨_, ⟨rfl, hs1, rfl⟩, rfl⟩
  refine XOA.cl ?_
  have hp1 := hp0.mono hs1
  have hi1 := hi.mono hs1
  refine zO rfl (by first | exact Rd.notp rfl | exact Rd.not rfl) ?_
  refine zN ?_; refine zT ?_
  refine XA.condF rfl rfl ?_
  refine XA.skip ?_
  refine zT ?_; refine zS ?_; refine zS ?_; refine zR ?_; refine zO rfl (Rd.ldA rfl) ?_
  refine XOA.wr0 rfl (WrA.cE (great_a σ1 _ p hp1) rfl) ?_
  rintro _ _ _ ⟨_, ⟨b, rfl, hsm, rfl, rfl⟩, rfl⟩
  refine XOA.cl ?_
  cases b with
  | true =>
    refine zO rfl Rd.mv ?_
    first | ((first | refine zW ?_ | refine zQ ?_); refine zO rfl Rd.mv ?_) | refine zU ?_ | refine zV ?_ | refine zZ ?_
    first | ((first | refine zW ?_ | refine zQ ?_); refine zO rfl (Rd.lenSlice (tyrow rfl) rfl rfl) ?_) | refine zU ?_ | refine zV ?_ | refine zZ ?_
    first | ((first | refine zW ?_ | refine zQ ?_); refine zO rfl (Rd.gtr rfl rfl) ?_) | refine zU ?_ | refine zV ?_ | refine zZ ?_
    refine zO rfl (by first | exact Rd.pT rfl | exact Rd.pF rfl | exact Rd.pP rfl) ?_
    refine zO rfl Rd.mv ?_
    first | ((first | refine zW ?_ | refine zQ ?_); refine zO rfl Rd.mv ?_) | refine zU ?_ | refine zV ?_ | refine zZ ?_
    first | ((first | refine zW ?_ | refine zQ ?_); refine zO rfl (Rd.lss rfl rfl) ?_) | refine zU ?_ | refine zV ?_ | refine zZ ?_
    refine zO rfl (by first | exact Rd.pT rfl | exact Rd.pF rfl | exact Rd.pP rfl) ?_
    refine zO rfl Rd.mv ?_
    first | ((first | refine zW ?_ | refine zQ ?_); refine zO rfl Rd.mv ?_) | refine zU ?_ | refine zV ?_ | refine zZ ?_
    first | ((first | refine zW ?_ | refine zQ ?_); refine zO rfl (Rd.gtr rfl rfl) ?_) | refine zU ?_ | refine zV ?_ | refine zZ ?_
    refine zO rfl (by first | exact Rd.pT rfl | exact Rd.pF rfl | exact Rd.pP rfl) ?_
    refine zN ?_; refine zT ?_
    refine XA.condT rfl rfl ?_
    refine zS ?_; refine zR ?_; refine zO rfl Rd.asg ?_; refine zN ?_; refine zT ?_
    refine XA.ret ?_
    refine DA.thn_ret ?_
    exact bodyA.ret (ResA.one rfl rfl) (Ent.nil _) ⟨rfl, hs1⟩
  | false =>
    by_cases a1 : 40 < inp.length
    · skip
      refine zO rfl Rd.mv ?_
      first | ((first | refine zW ?_ | refine zQ ?_); refine zO rfl Rd.mv ?_) | refine zU ?_ | refine zV ?_ | refine zZ ?_
      first | ((first | refine zW ?_ | refine zQ ?_); refine zO rfl (Rd.lenSlice (tyrow rfl) rfl rfl) ?_) | refine zU ?_ | refine zV ?_ | refine zZ ?_
      first | ((first | refine zW ?_ | refine zQ ?_); refine zO rfl (Rd.gtr rfl rfl) ?_) | refine zU ?_ | refine zV ?_ | refine zZ ?_
      refine zO rfl (by first | exact Rd.pT rfl | exact Rd.pF rfl | exact Rd.pP rfl) ?_
      refine zO rfl Rd.mv ?_
      first | ((first | refine zW ?_ | refine zQ ?_); refine zO rfl Rd.mv ?_) | refine zU ?_ | refine zV ?_ | refine zZ ?_
      first | ((first | refine zW ?_ | refine zQ ?_); refine zO rfl (Rd.lss rfl rfl) ?_) | refine zU ?_ | refine zV ?_ | refine zZ ?_
      refine zO rfl (by first | exact Rd.pT rfl | exact Rd.pF rfl | exact Rd.pP rfl) ?_
      refine zO rfl Rd.mv ?_
      first | ((first | refine zW ?_ | refine zQ ?_); refine zO rfl Rd.mv ?_) | refine zU ?_ | refine zV ?_ | refine zZ ?_
      first | ((first | refine zW ?_ | refine zQ ?_); refine zO rfl (Rd.gtr rfl rfl) ?_) | refine zU ?_ | refine zV ?_ | refine zZ ?_
      refine zO rfl (by first | exact Rd.pT rfl | exact Rd.pF rfl | exact Rd.pP rfl) ?_
      refine zN ?_; refine zT ?_
      refine XA.condT rfl (by first | rfl | exact decide_eq_true (by omega)) ?_
      refine zS ?_; refine zR ?_; refine zO rfl Rd.asg ?_; refine zN ?_; refine zT ?_
      refine XA.ret ?_
      refine DA.thn_ret ?_
      exact bodyA.ret (ResA.one rfl rfl) (Ent.nil _) ⟨rfl, hs1⟩
    by_cases a2 : fuel < 0
    · skip
      refine zO rfl Rd.mv ?_
      first | ((first | refine zW ?_ | refine zQ ?_); refine zO rfl Rd.mv ?_) | refine zU ?_ | refine zV ?_ | refine zZ ?_
      first | ((first | refine zW ?_ | refine zQ ?_); refine zO rfl (Rd.lenSlice (tyrow rfl) rfl rfl) ?_) | refine zU ?_ | refine zV ?_ | refine zZ ?_
      first | ((first | refine zW ?_ | refine zQ ?_); refine zO rfl (Rd.gtr rfl rfl) ?_) | refine zU ?_ | refine zV ?_ | refine zZ ?_
      refine zO rfl (by first | exact Rd.pT rfl | exact Rd.pF rfl | exact Rd.pP rfl) ?_
      refine zO rfl Rd.mv ?_
      first | ((first | refine zW ?_ | refine zQ ?_); refine zO rfl Rd.mv ?_) | refine zU ?_ | refine zV ?_ | refine zZ ?_
      first | ((first | refine zW ?_ | refine zQ ?_); refine zO rfl (Rd.lss rfl rfl) ?_) | refine zU ?_ | refine zV ?_ | refine zZ ?_
      refine zO rfl (by first | exact Rd.pT rfl | exact Rd.pF rfl | exact Rd.pP rfl) ?_
      refine zO rfl Rd.mv ?_
      first | ((first | refine zW ?_ | refine zQ ?_); refine zO rfl Rd.mv ?_) | refine zU ?_ | refine zV ?_ | refine zZ ?_
      first | ((first | refine zW ?_ | refine zQ ?_); refine zO rfl (Rd.gtr rfl rfl) ?_) | refine zU ?_ | refine zV ?_ | refine zZ ?_
      refine zO rfl (by first | exact Rd.pT rfl | exact Rd.pF rfl | exact Rd.pP rfl) ?_
      refine zN ?_; refine zT ?_
      refine XA.condT rfl (by first | rfl | exact decide_eq_true (by omega)) ?_
      refine zS ?_; refine zR ?_; refine zO rfl Rd.asg ?_; refine zN ?_; refine zT ?_
      refine XA.ret ?_
      refine DA.thn_ret ?_
      exact bodyA.ret (ResA.one rfl rfl) (Ent.nil _) ⟨rfl, hs1⟩
    by_cases a3 : 3000 < fuel
    · skip
      refine zO rfl Rd.mv ?_
      first | ((first | refine zW ?_ | refine zQ ?_); refine zO rfl Rd.mv ?_) | refine zU ?_ | refine zV ?_ | refine zZ ?_
      first | ((first | refine zW ?_ | refine zQ ?_); refine zO rfl (Rd.lenSlice (tyrow rfl) rfl rfl) ?_) | refine zU ?_ | refine zV ?_ | refine zZ ?_
      first | ((first | refine zW ?_ | refine zQ ?_); refine zO rfl (Rd.gtr rfl rfl) ?_) | refine zU ?_ | refine zV ?_ | refine zZ ?_
      refine zO rfl (by first | exact Rd.pT rfl | exact Rd.pF rfl | exact Rd.pP rfl) ?_
      refine zO rfl Rd.mv ?_
      first | ((first | refine zW ?_ | refine zQ ?_); refine zO rfl Rd.mv ?_) | refine zU ?_ | refine zV ?_ | refine zZ ?_
      first | ((first | refine zW ?_ | refine zQ ?_); refine zO rfl (Rd.lss rfl rfl) ?_) | refine zU ?_ | refine zV ?_ | refine zZ ?_
      refine zO rfl (by first | exact Rd.pT rfl | exact Rd.pF rfl | exact Rd.pP rfl) ?_
      refine zO rfl Rd.mv ?_
      first | ((first | refine zW ?_ | refine zQ ?_); refine zO rfl Rd.mv ?_) | refine zU ?_ | refine zV ?_ | refine zZ ?_
      first | ((first | refine zW ?_ | refine zQ ?_); refine zO rfl (Rd.gtr rfl rfl) ?_) | refine zU ?_ | refine zV ?_ | refine zZ ?_
      refine zO rfl (by first | exact Rd.pT rfl | exact Rd.pF rfl | exact Rd.pP rfl) ?_
      refine zN ?_; refine zT ?_
      refine XA.condT rfl (by first | rfl | exact decide_eq_true (by omega)) ?_
      refine zS ?_; refine zR ?_; refine zO rfl Rd.asg ?_; refine zN ?_; refine zT ?_
      refine XA.ret ?_
      refine DA.thn_ret ?_
      exact bodyA.ret (ResA.one rfl rfl) (Ent.nil _) ⟨rfl, hs1⟩
    obtain ⟨f, rfl⟩ : ∃ f : Nat, fuel = f := ⟨fuel.toNat, by omega⟩
    obtain ⟨u, hu⟩ : ∃ u : Nat, IntKind.u64.wrap more = (u : Int) := Int.eq_ofNat_of_zero_le (by simp [IntKind.wrap, IntKind.bits, IntKind.signed]; omega)
    obtain ⟨d, hd⟩ : ∃ d : Nat, (if (3000 : Int) < (f : Int) + ((u % 1000 : Nat) : Int) then 3000 else (f : Int) + ((u % 1000 : Nat) : Int)) = ((f + d : Nat) : Int) := by
      refine ⟨if 3000 < f + u % 1000 then 3000 - f else u % 1000, ?_⟩
      split <;> split <;> omega
    have hd2 : f + d ≤ 3000 := by
      have : ((f + d : Nat) : Int) ≤ 3000 := by rw [← hd]; split <;> omega
      omega
    have hu1 : u % 1000 < 1000 := Nat.mod_lt _ (by decide)
    refine zO rfl Rd.mv ?_
    first | ((first | refine zW ?_ | refine zQ ?_); refine zO rfl Rd.mv ?_) | refine zU ?_ | refine zV ?_ | refine zZ ?_
    first | ((first | refine zW ?_ | refine zQ ?_); refine zO rfl (Rd.lenSlice (tyrow rfl) rfl rfl) ?_) | refine zU ?_ | refine zV ?_ | refine zZ ?_
    first | ((first | refine zW ?_ | refine zQ ?_); refine zO rfl (Rd.gtr rfl rfl) ?_) | refine zU ?_ | refine zV ?_ | refine zZ ?_
    refine zO rfl (by first | exact Rd.pT rfl | exact Rd.pF rfl | exact Rd.pP rfl) ?_
    refine zO rfl Rd.mv ?_
    first | ((first | refine zW ?_ | refine zQ ?_); refine zO rfl Rd.mv ?_) | refine zU ?_ | refine zV ?_ | refine zZ ?_
    first | ((first | refine zW ?_ | refine zQ ?_); refine zO rfl (Rd.lss rfl rfl) ?_) | refine zU ?_ | refine zV ?_ | refine zZ ?_
    refine zO rfl (by first | exact Rd.pT rfl | exact Rd.pF rfl | exact Rd.pP rfl) ?_
    refine zO rfl Rd.mv ?_
    first | ((first | refine zW ?_ | refine zQ ?_); refine zO rfl Rd.mv ?_) | refine zU ?_ | refine zV ?_ | refine zZ ?_
    first | ((first | refine zW ?_ | refine zQ ?_); refine zO rfl (Rd.gtr rfl rfl) ?_) | refine zU ?_ | refine zV ?_ | refine zZ ?_
    refine zO rfl (by first | exact Rd.pT rfl | exact Rd.pF rfl | exact Rd.pP rfl) ?_
    refine zN ?_; refine zT ?_
    refine XA.condF rfl (by first | rfl | exact decide_eq_false (by omega)) ?_
    refine XA.skip ?_
    refine zT ?_; refine zS ?_; refine zR ?_; refine zO rfl Rd.mv ?_; refine zO rfl Rd.mv ?_
    refine zO rfl (Rd.cvI (tyrow rfl) (tyrow rfl) rfl rfl) ?_
    rw [hu]
    refine zO rfl (Rd.remi (c := ((u % 1000 : Nat) : Int)) rfl rfl (by decide) (by rw [Int.tmod_eq_emod_of_nonneg (by omega)]; rfl)) ?_
    refine zO rfl (Rd.cvI (tyrow rfl) (tyrow rfl) rfl rfl) ?_
    refine zO rfl (by first | exact Rd.adi rfl rfl | exact Rd.add rfl rfl) ?_
    refine zO rfl (Rd.min2 rfl rfl) ?_
    refine zO rfl Rd.asg ?_; refine zN ?_; refine zT ?_; refine zS ?_; refine zR ?_; refine zO rfl (Rd.ldA rfl) ?_; refine zO rfl Rd.mv ?_; refine zO rfl Rd.mv ?_
    rw [hd]
    by_cases hc : checkP p = 0
    · skip
      refine XOA.wr0 rfl (WrA.cE (run_ok σ1 _ p _ inp f hp1 hi1 hc (by omega) (by omega)) rfl) ?_
      rintro _ σ2 _ ⟨_, ⟨c, s, po, pc, co, cc, hrun, rfl, hvo, hvc, hle, hs2, rfl⟩, rfl⟩
      refine XOA.cl ?_
      refine zO rfl Rd.mv ?_
      refine zO rfl (Rd.extract rfl rfl) ?_
      refine zO rfl (Rd.extract rfl rfl) ?_
      refine zO rfl (Rd.extract rfl rfl) ?_
      refine XOA.wr0 rfl (WrA.alloc (tyrow rfl)) ?_
      rintro _ _ _ ⟨g10, rfl, rfl, rfl⟩
      refine XOA.wr0 rfl (WrA.st (tyrow rfl) rfl) ?_
      rintro _ _ _ ⟨rfl, rfl, rfl⟩
      refine zO rfl Rd.asg ?_; refine zO rfl Rd.asg ?_; refine zN ?_; refine zT ?_; refine zS ?_; refine zR ?_; refine zO rfl (Rd.ldA rfl) ?_; refine zO rfl Rd.mv ?_; refine zO rfl Rd.mv ?_
      refine XOA.wr0 rfl (WrA.cE (run_ok σ2 _ p _ inp (f + d) (hp1.mono hs2) (hi1.mono hs2) hc (by omega) hd2) rfl) ?_
      rintro _ σ3 _ ⟨_, ⟨c', s', po', pc', co', cc', hrun', rfl, hvo', hvc', hle', hs3, rfl⟩, rfl⟩
      refine XOA.cl ?_
      obtain ⟨l1, l2, l3, l4, l5⟩ := fuel_plain hc hrun hrun'
      have hvo3 := hvo.mono hs3
      have hvc3 := hvc.mono hs3
      have n1 : ¬ ((f : Int) - s.left > f) := by omega
      refine zO rfl Rd.mv ?_
      refine zO rfl (Rd.extract rfl rfl) ?_
      refine zO rfl (Rd.extract rfl rfl) ?_
      refine zO rfl (Rd.extract rfl rfl) ?_
      refine XOA.wr0 rfl (WrA.alloc (tyrow rfl)) ?_
      rintro _ _ _ ⟨g13, rfl, rfl, rfl⟩
      refine XOA.wr0 rfl (WrA.st (tyrow rfl) rfl) ?_
      rintro _ _ _ ⟨rfl, rfl, rfl⟩
      refine zO rfl Rd.asg ?_; refine zO rfl Rd.asg ?_; refine zN ?_; refine zT ?_; refine zS ?_; refine zS ?_; refine zR ?_; refine zO rfl Rd.mv ?_
      refine zO rfl (Rd.neq rfl rfl) ?_
      refine zO rfl Rd.mv ?_
      first | ((first | refine zW ?_ | refine zQ ?_); refine zO rfl Rd.mv ?_) | refine zU ?_ | refine zV ?_ | refine zZ ?_
      first | ((first | refine zW ?_ | refine zQ ?_); refine zO rfl (Rd.neq rfl rfl) ?_) | refine zU ?_ | refine zV ?_ | refine zZ ?_
      refine zO rfl (by first | exact Rd.pT rfl | exact Rd.pF rfl | exact Rd.pP rfl) ?_
      refine zN ?_; refine zT ?_
      refine XA.condF rfl rfl ?_
      refine XA.skip ?_
      refine zT ?_; refine zS ?_; refine zS ?_; refine zR ?_; refine zO rfl Rd.mv ?_; refine zO rfl Rd.mv ?_
      refine zO rfl (Rd.gtr rfl rfl) ?_
      refine zO rfl Rd.mv ?_
      first | ((first | refine zW ?_ | refine zQ ?_); refine zO rfl Rd.mv ?_) | refine zU ?_ | refine zV ?_ | refine zZ ?_
      first | ((first | refine zW ?_ | refine zQ ?_); refine zO rfl Rd.mv ?_) | refine zU ?_ | refine zV ?_ | refine zZ ?_
      first | ((first | refine zW ?_ | refine zQ ?_); refine zO rfl (Rd.gtr rfl rfl) ?_) | refine zU ?_ | refine zV ?_ | refine zZ ?_
      refine zO rfl (by first | exact Rd.pT rfl | exact Rd.pF rfl | exact Rd.pP rfl) ?_
      refine zO rfl Rd.mv ?_
      first | ((first | refine zW ?_ | refine zQ ?_); refine zO rfl Rd.mv ?_) | refine zU ?_ | refine zV ?_ | refine zZ ?_
      first | ((first | refine zW ?_ | refine zQ ?_); refine zO rfl Rd.mv ?_) | refine zU ?_ | refine zV ?_ | refine zZ ?_
      first | ((first | refine zW ?_ | refine zQ ?_); refine zO rfl (Rd.lss rfl rfl) ?_) | refine zU ?_ | refine zV ?_ | refine zZ ?_
      refine zO rfl (by first | exact Rd.pT rfl | exact Rd.pF rfl | exact Rd.pP rfl) ?_
      refine zO rfl Rd.mv ?_
      first | ((first | refine zW ?_ | refine zQ ?_); refine zO rfl (Rd.fA rfl) ?_) | refine zU ?_ | refine zV ?_ | refine zZ ?_
      first | ((first | refine zW ?_ | refine zQ ?_); refine zO rfl (Rd.ldC rfl (tyrow rfl) rfl) ?_) | refine zU ?_ | refine zV ?_ | refine zZ ?_
      first | ((first | refine zW ?_ | refine zQ ?_); refine zO rfl (Rd.fA rfl) ?_) | refine zU ?_ | refine zV ?_ | refine zZ ?_
      first | ((first | refine zW ?_ | refine zQ ?_); refine zO rfl (Rd.ldC rfl (tyrow rfl) rfl) ?_) | refine zU ?_ | refine zV ?_ | refine zZ ?_
      first | refine XOA.wanted rfl rfl ?_ | refine XOA.wq rfl rfl ?_
      refine XOA.wr0 rfl (WrA.cE (begins_a σ3 _ _ _ _ hvo3 hvo' l4) rfl) ?_
      rintro _ _ _ ⟨_, ⟨rfl, rfl, rfl⟩, rfl⟩
      refine XOA.cl ?_
      first | ((first | refine zW ?_ | refine zQ ?_); refine zO rfl (by first | exact Rd.notp rfl | exact Rd.not rfl) ?_) | refine zU ?_ | refine zV ?_ | refine zZ ?_
      refine zO rfl (by first | exact Rd.pT rfl | exact Rd.pF rfl | exact Rd.pP rfl) ?_
      refine zN ?_; refine zT ?_
      rcases l5 with ⟨rfl, h0⟩ | ⟨h13, rfl, ho, hcl, hn⟩
      · have e0 : (f : Int) - s.left = f := by omega
        refine XA.condF rfl rfl ?_
        refine XA.skip ?_
        refine zT ?_; refine zS ?_; refine zR ?_; refine zO rfl (Rd.fA rfl) ?_; refine zO rfl (Rd.ldC rfl (tyrow rfl) rfl) ?_; refine zO rfl (Rd.eql rfl rfl) ?_; refine zO rfl Rd.mv ?_
        first | ((first | refine zW ?_ | refine zQ ?_); refine zO rfl Rd.mv ?_) | refine zU ?_ | refine zV ?_ | refine zZ ?_
        first | ((first | refine zW ?_ | refine zQ ?_); refine zO rfl Rd.mv ?_) | refine zU ?_ | refine zV ?_ | refine zZ ?_
        first | ((first | refine zW ?_ | refine zQ ?_); refine zO rfl (Rd.eql rfl rfl) ?_) | refine zU ?_ | refine zV ?_ | refine zZ ?_
        refine zO rfl (by first | exact Rd.pT rfl | exact Rd.pF rfl | exact Rd.pP rfl) ?_
        refine zO rfl Rd.mv ?_
        first | ((first | refine zW ?_ | refine zQ ?_); refine zO rfl (Rd.ldA rfl) ?_) | refine zU ?_ | refine zV ?_ | refine zZ ?_
        first | ((first | refine zW ?_ | refine zQ ?_); refine zO rfl (Rd.ldA rfl) ?_) | refine zU ?_ | refine zV ?_ | refine zZ ?_
        first | refine zU ?_ | refine zV ?_ | refine zZ ?_
        first | ((first | refine zW ?_ | refine zQ ?_); refine zO rfl Rd.mv ?_) | refine zU ?_ | refine zV ?_ | refine zZ ?_
        first | ((first | refine zW ?_ | refine zQ ?_); refine zO rfl Rd.mv ?_) | refine zU ?_ | refine zV ?_ | refine zZ ?_
        first | ((first | refine zW ?_ | refine zQ ?_); refine zO rfl Rd.mv ?_) | refine zU ?_ | refine zV ?_ | refine zZ ?_
        first | ((first | refine zW ?_ | refine zQ ?_); refine zO rfl (Rd.eql rfl rfl) ?_) | refine zU ?_ | refine zV ?_ | refine zZ ?_
        first | ((first | refine zW ?_ | refine zQ ?_); refine zO rfl (by first | exact Rd.pT rfl | exact Rd.pF rfl | exact Rd.pP rfl) ?_) | refine zU ?_ | refine zV ?_ | refine zZ ?_
        refine zO rfl (by first | exact Rd.pT rfl | exact Rd.pF rfl | exact Rd.pP rfl) ?_
        refine zO rfl Rd.asg ?_; refine zN ?_; refine zT ?_
        refine XA.ret ?_
        refine bodyA.ret (ResA.one rfl rfl) (Ent.nil _) ⟨?_, (hs1.trans hs2).trans hs3⟩
        first | rfl | exact congrArg Value.bool (decide_eq_true (by omega))
      · have e1 : (f : Int) - s.left = ((f + d : Nat) : Int) - s'.left := by omega
        refine XA.condF rfl rfl ?_
        refine XA.skip ?_
        refine zT ?_; refine zS ?_; refine zR ?_; refine zO rfl (Rd.fA rfl) ?_; refine zO rfl (Rd.ldC rfl (tyrow rfl) rfl) ?_; refine zO rfl (Rd.eql rfl rfl) ?_; refine zO rfl Rd.mv ?_
        first | ((first | refine zW ?_ | refine zQ ?_); refine zO rfl Rd.mv ?_) | refine zU ?_ | refine zV ?_ | refine zZ ?_
        first | ((first | refine zW ?_ | refine zQ ?_); refine zO rfl Rd.mv ?_) | refine zU ?_ | refine zV ?_ | refine zZ ?_
        first | ((first | refine zW ?_ | refine zQ ?_); refine zO rfl (Rd.eql rfl rfl) ?_) | refine zU ?_ | refine zV ?_ | refine zZ ?_
        refine zO rfl (by first | exact Rd.pT rfl | exact Rd.pF rfl | exact Rd.pP rfl) ?_
        refine zO rfl Rd.mv ?_
        first | ((first | refine zW ?_ | refine zQ ?_); refine zO rfl (Rd.ldA rfl) ?_) | refine zU ?_ | refine zV ?_ | refine zZ ?_
        first | ((first | refine zW ?_ | refine zQ ?_); refine zO rfl (Rd.ldA rfl) ?_) | refine zU ?_ | refine zV ?_ | refine zZ ?_
        first | refine XOA.wanted rfl rfl ?_ | refine XOA.wq rfl rfl ?_
        refine XOA.wr0 rfl (WrA.cE (sresult_a σ3 _ _ _ _ _ s.out s.cells hvo3 hvc3 (by rw [← ho]; exact hvo') (by rw [← hcl]; exact hvc')) rfl) ?_
        rintro _ _ _ ⟨_, ⟨rfl, rfl, rfl⟩, rfl⟩
        refine XOA.cl ?_
        first | ((first | refine zW ?_ | refine zQ ?_); refine zO rfl Rd.mv ?_) | refine zU ?_ | refine zV ?_ | refine zZ ?_
        first | ((first | refine zW ?_ | refine zQ ?_); refine zO rfl Rd.mv ?_) | refine zU ?_ | refine zV ?_ | refine zZ ?_
        first | ((first | refine zW ?_ | refine zQ ?_); refine zO rfl Rd.mv ?_) | refine zU ?_ | refine zV ?_ | refine zZ ?_
        first | ((first | refine zW ?_ | refine zQ ?_); refine zO rfl (Rd.eql rfl rfl) ?_) | refine zU ?_ | refine zV ?_ | refine zZ ?_
        first | ((first | refine zW ?_ | refine zQ ?_); refine zO rfl (by first | exact Rd.pT rfl | exact Rd.pF rfl | exact Rd.pP rfl) ?_) | refine zU ?_ | refine zV ?_ | refine zZ ?_
        refine zO rfl (by first | exact Rd.pT rfl | exact Rd.pF rfl | exact Rd.pP rfl) ?_
        refine zO rfl Rd.asg ?_; refine zN ?_; refine zT ?_
        refine XA.ret ?_
        refine bodyA.ret (ResA.one rfl rfl) (Ent.nil _) ⟨?_, (hs1.trans hs2).trans hs3⟩
        first | rfl | exact congrArg Value.bool (decide_eq_true (by omega))
    · have n0 : ¬ (checkP p = 0) := hc
      have n1 : checkP p ≠ 0 := hc
      refine XOA.wr0 rfl (WrA.cE (run_bad σ1 _ p _ inp f hp1 hi1 hc) rfl) ?_
      rintro _ σ2 _ ⟨_, ⟨rfl, hs2, rfl⟩, rfl⟩
      refine XOA.cl ?_
      refine zO rfl Rd.mv ?_
      refine zO rfl (Rd.extract rfl rfl) ?_
      refine zO rfl (Rd.extract rfl rfl) ?_
      refine zO rfl (Rd.extract rfl rfl) ?_
      refine XOA.wr0 rfl (WrA.alloc (tyrow rfl)) ?_
      rintro _ _ _ ⟨g10, rfl, rfl, rfl⟩
      refine XOA.wr0 rfl (WrA.st (tyrow rfl) rfl) ?_
      rintro _ _ _ ⟨rfl, rfl, rfl⟩
      refine zO rfl Rd.asg ?_; refine zO rfl Rd.asg ?_; refine zN ?_; refine zT ?_; refine zS ?_; refine zR ?_; refine zO rfl (Rd.ldA rfl) ?_; refine zO rfl Rd.mv ?_; refine zO rfl Rd.mv ?_
      refine XOA.wr0 rfl (WrA.cE (run_bad σ2 _ p _ inp (f + d : Nat) (hp1.mono hs2) (hi1.mono hs2) hc) rfl) ?_
      rintro _ σ3 _ ⟨_, ⟨rfl, hs3, rfl⟩, rfl⟩
      refine XOA.cl ?_
      refine zO rfl Rd.mv ?_
      refine zO rfl (Rd.extract rfl rfl) ?_
      refine zO rfl (Rd.extract rfl rfl) ?_
      refine zO rfl (Rd.extract rfl rfl) ?_
      refine XOA.wr0 rfl (WrA.alloc (tyrow rfl)) ?_
      rintro _ _ _ ⟨g13, rfl, rfl, rfl⟩
      refine XOA.wr0 rfl (WrA.st (tyrow rfl) rfl) ?_
      rintro _ _ _ ⟨rfl, rfl, rfl⟩
      refine zO rfl Rd.asg ?_; refine zO rfl Rd.asg ?_; refine zN ?_; refine zT ?_; refine zS ?_; refine zS ?_; refine zR ?_; refine zO rfl Rd.mv ?_
      refine zO rfl (Rd.neq rfl rfl) ?_
      refine zO rfl Rd.mv ?_
      first | ((first | refine zW ?_ | refine zQ ?_); refine zO rfl Rd.mv ?_) | refine zU ?_ | refine zV ?_ | refine zZ ?_
      first | ((first | refine zW ?_ | refine zQ ?_); refine zO rfl (Rd.neq rfl rfl) ?_) | refine zU ?_ | refine zV ?_ | refine zZ ?_
      refine zO rfl (by first | exact Rd.pT rfl | exact Rd.pF rfl | exact Rd.pP rfl) ?_
      refine zN ?_; refine zT ?_
      refine XA.condT rfl (by first | rfl | exact decide_eq_true hc) ?_
      refine zS ?_; refine zR ?_; refine zO rfl Rd.mv ?_; refine zO rfl Rd.mv ?_; refine zO rfl (Rd.eql rfl rfl) ?_; refine zO rfl Rd.asg ?_; refine zN ?_; refine zT ?_
      refine XA.ret ?_
      refine DA.thn_ret ?_
      refine bodyA.ret (ResA.one rfl rfl) (Ent.nil _) ⟨?_, (hs1.trans hs2).trans hs3⟩
      first | rfl | exact congrArg Value.bool (decide_eq_true rfl)
end Go.Proofs.Ytbbghdkndbpmmaa
