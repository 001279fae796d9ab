/- The law LifeAgain holds: to crash again changes nothing: for every program, every input, all steps and all masks. Condition: none. -/
import Derived.Test.YtmnmcjdgnpgchaaLz5
namespace Go.Proofs.Ytmnmcjdgnpgchaa
open Go X
set_option maxHeartbeats 4000000
def stepsL : List LStp := [⟨3, 99, 2, 0⟩, ⟨1, 20, 0, 0⟩, ⟨2, 0, 0, 0⟩, ⟨3, 99, 1, 1⟩]
def codeLL : List In := [⟨2, 0, 0, 0⟩, ⟨1, 0, 0, 3⟩, ⟨7, 0, 0, 0⟩, ⟨13, 12, 0, 0⟩, ⟨2, 0, 0, 0⟩, ⟨1, 0, 0, 1⟩, ⟨4, 0, 0, 0⟩, ⟨9, 0, 0, 0⟩, ⟨2, 0, 0, 0⟩, ⟨11, 0, 0, 0⟩, ⟨15, 0, 0, 0⟩, ⟨14, 0, 0, 0⟩, ⟨16, 0, 0, 0⟩]
theorem checkL : checkP progL = 0 := by decide +kernel
theorem codeLe : codeOf progL = codeLL := by decide +kernel
theorem saysL : (lifeAll codeLL [] (stepsL ++ [⟨1, 99, 0, 0⟩]) (L0 1)).2 = 0 ∧ nowC (lifeAll codeLL [] (stepsL ++ [⟨1, 99, 0, 0⟩]) (L0 1)).1.b = 0 ∧ (lifeAll codeLL [] (stepsL ++ [⟨1, 99, 0, 0⟩]) (L0 1)).1.b.out = [1, 2, 3] ∧ (lifeAll codeLL [] (stepsL ++ [⟨1, 99, 0, 0⟩]) (L0 1)).1.b.m.cells = [3] := by
  refine ⟨?_, ?_, ?_, ?_⟩ <;> decide +kernel
set_option maxRecDepth 20000 in
theorem lifebegun_a (σ : PH) : CallsA Try.prog 34 #[] σ [] (RetA fun v σ' Γ' => v = .bool true ∧ σ.sub σ' ∧ Γ' = []) := by
  obtain ⟨q1, q2, q3, q4⟩ := saysL
  refine enterA0 Try.func34 rfl rfl rfl ?_
  refine zS ?_; refine zR ?_; refine zO rfl Rd.asg ?_; refine zN ?_; refine zT ?_; refine zS ?_; refine zR ?_
  refine XOA.wr0 rfl (WrA.cE (counter_a σ) rfl) ?_
  rintro _ σ1 _ ⟨_, ⟨cs, rfl, hp, hs1, rfl⟩, rfl⟩
  refine XOA.cl ?_
  have hp0 := hp
  obtain ⟨vs, bs, rfl, hv, hb⟩ := hp
  obtain ⟨pv, cv, rfl, -, -⟩ := hv.shape
  obtain ⟨pb0, cb, rfl, -, -⟩ := hb.shape
  refine zO rfl (Rd.bl (fun _ _ => tyrow) rfl rfl rfl) ?_
  refine zO rfl (Rd.bl (fun _ _ => tyrow) rfl rfl rfl) ?_
  refine zO rfl (Rd.bl (fun _ _ => tyrow) rfl rfl rfl) ?_
  refine zO rfl (Rd.bl (fun _ _ => tyrow) rfl rfl rfl) ?_
  refine XOA.wr0 rfl (WrA.bs (fun _ _ => tyrow) rfl rfl rfl rfl rfl) ?_
  rintro _ _ _ ⟨g9, rfl, rfl, rfl⟩
  refine XOA.frz (R := blk g9 _ 74) (by ((repeat (first | with_reducible exact Sel.head | apply Sel.tail)); (first | done | fail))) blk_frz blk_frz_mono ?_
  rintro σ2 ⟨⟩ hr9 hs2
  have hsl : PSl 4 rLStp σ2 (.slice (some ⟨g9, 0, none⟩) 4 4) stepsL := by
    have z : ∀ a b c d : Int, c < 9223372036854775808 → 0 ≤ d → d < 18446744073709551616 → rLStp σ2 [i64 a, i64 b, i64 c, .int .u64 d] ⟨a, b, c, d⟩ := fun a b c d h1 h2 h3 => ⟨rfl, h1, h2, h3⟩
    exact Rows_.psl (((((Rows_.nil 4 rLStp σ2).snoc rfl (z 3 99 2 0 (by decide) (by decide) (by decide))).snoc rfl (z 1 20 0 0 (by decide) (by decide) (by decide))).snoc rfl (z 2 0 0 0 (by decide) (by decide) (by decide))).snoc rfl (z 3 99 1 1 (by decide) (by decide) (by decide))) rfl ⟨Nat.le_refl _, by simp [maxLen], rfl, fun _ => ⟨g9, 0, rfl, hr9⟩⟩
  have hrun := runlife_a σ2 _ progL (.slice none 0 0) [] _ stepsL 99 (hp0.mono hs2) (PInts.nil _) hsl (by decide) (by decide +kernel) (by rw [codeLe]; decide) checkL (by decide)
  rw [codeLe, show (sizes progL.vars).toNat = 1 from rfl] at hrun
  refine XOA.wr0 rfl (WrA.cE (hrun) rfl) ?_
  rintro _ σ3 _ ⟨_, ⟨L, f, po, co, pv2, cv2, hall, rfl, hvo, hvc, hs3, rfl⟩, rfl⟩
  refine XOA.cl ?_
  rw [hall] at q1 q2 q3 q4
  dsimp only at q1 q2 q3 q4
  subst q1
  have eC : saysC L 0 = 0 := q2
  have eO : saysO L 0 = [1, 2, 3] := q3
  have eV : saysV L 0 = [3] := q4
  rw [eO] at hvo
  rw [eV] at hvc
  rw [eC, eO, eV]
  refine zO rfl Rd.mv ?_
  refine zO rfl (Rd.extract rfl rfl) ?_
  refine zO rfl (Rd.extract rfl rfl) ?_
  refine XOA.wr0 rfl (WrA.alloc (tyrow rfl)) ?_
  rintro _ _ _ ⟨g1, rfl, rfl, rfl⟩
  refine XOA.wr0 rfl (WrA.st (tyrow rfl) rfl) ?_
  rintro _ _ _ ⟨rfl, rfl, rfl⟩
  refine zO rfl Rd.asg ?_; refine zN ?_; refine zT ?_; refine zS ?_; refine zR ?_; refine zO rfl Rd.mv ?_; refine zO rfl (Rd.eql rfl rfl) ?_; refine zO rfl Rd.mv ?_
  first | ((first | refine zW ?_ | refine zQ ?_); refine zO rfl (Rd.fA rfl) ?_) | refine zU ?_ | refine zV ?_ | refine zZ ?_
  first | ((first | refine zW ?_ | refine zQ ?_); refine zO rfl (Rd.ldC rfl (tyrow rfl) rfl) ?_) | refine zU ?_ | refine zV ?_ | refine zZ ?_
  first | ((first | refine zW ?_ | refine zQ ?_); refine zO rfl (Rd.eql rfl rfl) ?_) | refine zU ?_ | refine zV ?_ | refine zZ ?_
  refine zO rfl (by first | exact Rd.pT rfl | exact Rd.pF rfl | exact Rd.pP rfl) ?_
  refine zO rfl Rd.mv ?_
  first | ((first | refine zW ?_ | refine zQ ?_); refine zO rfl (Rd.fA rfl) ?_) | refine zU ?_ | refine zV ?_ | refine zZ ?_
  first | ((first | refine zW ?_ | refine zQ ?_); refine zO rfl (Rd.ldC rfl (tyrow rfl) rfl) ?_) | refine zU ?_ | refine zV ?_ | refine zZ ?_
  first | refine XOA.wanted rfl rfl ?_ | refine XOA.wq rfl rfl ?_
  refine XOA.wr0 rfl (X.WrA.bs (fun _ _ => tyrow) rfl rfl rfl rfl rfl) ?_
  rintro _ _ _ ⟨g23, rfl, rfl, rfl⟩
  refine XOA.frz (R := blk g23 _ 2) (by ((repeat (first | with_reducible exact Sel.head | apply Sel.tail)); (first | done | fail))) blk_frz blk_frz_mono ?_
  rintro σ4 ⟨⟩ hr23 hs4
  have h123 : PInts σ4 (.slice (some ⟨g23, 0, none⟩) 3 3) [1, 2, 3] := ⟨_, _, rfl, Nat.le_refl _, by simp [maxLen], fun _ => ⟨g23, 0, rfl, hr23⟩⟩
  first | refine XOA.wanted rfl rfl ?_ | refine XOA.wq rfl rfl ?_
  refine XOA.wr0 rfl (WrA.cE (slongs_a σ4 _ _ _ _ (hvo.mono hs4) h123) rfl) ?_
  rintro _ _ _ ⟨_, ⟨rfl, rfl, rfl⟩, rfl⟩
  refine XOA.cl ?_
  rw [show decide (([1, 2, 3] : List Int) = [1, 2, 3]) = true from rfl]
  refine zO rfl (by first | exact Rd.pT rfl | exact Rd.pF rfl | exact Rd.pP rfl) ?_
  refine zO rfl Rd.mv ?_
  first | ((first | refine zW ?_ | refine zQ ?_); refine zO rfl (Rd.fA rfl) ?_) | refine zU ?_ | refine zV ?_ | refine zZ ?_
  first | ((first | refine zW ?_ | refine zQ ?_); refine zO rfl (Rd.ldC rfl (tyrow rfl) rfl) ?_) | refine zU ?_ | refine zV ?_ | refine zZ ?_
  first | refine XOA.wanted rfl rfl ?_ | refine XOA.wq rfl rfl ?_
  refine XOA.wr0 rfl (X.WrA.bs1 (tyrow rfl) rfl (tyrow rfl)) ?_
  rintro _ _ _ ⟨g29, rfl, rfl, rfl⟩
  refine XOA.frz (R := blk g29 _ 2) (by ((repeat (first | with_reducible exact Sel.head | apply Sel.tail)); (first | done | fail))) blk_frz blk_frz_mono ?_
  rintro σ5 ⟨⟩ hr29 hs5
  have h3 : PInts σ5 (.slice (some ⟨g29, 0, none⟩) 1 1) [3] := ⟨_, _, rfl, Nat.le_refl _, by simp [maxLen], fun _ => ⟨g29, 0, rfl, hr29⟩⟩
  first | refine XOA.wanted rfl rfl ?_ | refine XOA.wq rfl rfl ?_
  refine XOA.wr0 rfl (WrA.cE (slongs_a σ5 _ _ _ _ (hvc.mono (hs4.trans hs5)) h3) rfl) ?_
  rintro _ _ _ ⟨_, ⟨rfl, rfl, rfl⟩, rfl⟩
  refine XOA.cl ?_
  rw [show decide (([3] : List Int) = [3]) = true from rfl]
  refine zO rfl (by first | exact Rd.pT rfl | exact Rd.pF rfl | exact Rd.pP rfl) ?_
  refine zO rfl Rd.asg ?_; refine zN ?_; refine zT ?_
  refine XA.ret ?_
  exact bodyA.ret (ResA.one rfl rfl) (Ent.nil _) ⟨rfl, (((hs1.trans hs2).trans hs3).trans hs4).trans hs5, rfl⟩
set_option maxRecDepth 20000 in
theorem greatlife_a (σ : PH) (cs : List Value) (p : Pr) (iv : Value) (inp : List Int) (lv : Value) (l : List LStp) (hp : PrAt σ cs p) (hi : PInts σ iv inp) (hl : PSl 4 rLStp σ lv l) :
    CallsA Try.prog 35 #[.agg cs.toArray, iv, lv] σ [] (RetA fun v σ' Γ' => ∃ b, v = .bool b ∧ (b = false → Small p ∧ inp.length ≤ 100 ∧ l.length ≤ 60) ∧ σ = σ' ∧ Γ' = []) := by
  have hp0 := hp
  obtain ⟨vs, bs, rfl, hv, hb⟩ := hp
  obtain ⟨pv, cv, rfl, -, -⟩ := hv.shape
  obtain ⟨pb0, cb, rfl, -, -⟩ := hb.shape
  obtain ⟨pl, cl, rfl, hll, hlm⟩ := hl.shape
  obtain ⟨pi0, ci0, rfl, hil, him⟩ := hi.shape
  simp only [maxLen] at hlm him
  refine enterA3 Try.func35 rfl rfl rfl ?_
  refine zS ?_; refine zR ?_
  refine XOA.wr0 rfl WrA.bx ?_
  rintro _ _ _ ⟨g3, rfl, rfl, rfl⟩
  refine zO rfl Rd.asg ?_; refine zN ?_; refine zT ?_; refine zS ?_; refine zR ?_; refine zO rfl Rd.asg ?_; refine zN ?_; refine zT ?_; refine zS ?_; refine zS ?_; refine zR ?_; refine zO rfl Rd.asg ?_; refine zN ?_; refine zT ?_
  refine XA.block ?_
  refine XA.gen [(1, _), (2, _), (3, _), (6, _), (7, _), (8, _)] ⟨(by with_reducible (conv => lhs; whnf)), (by with_reducible (conv => lhs; whnf)), (by with_reducible (conv => lhs; whnf)), (by with_reducible (conv => lhs; whnf)), (by with_reducible (conv => lhs; whnf)), (by with_reducible (conv => lhs; whnf)), trivial⟩ (fun δ => ?_)
  dsimp only [List.foldl]
  refine XA.loop [(7, 39)] (fun x : Nat × Nat => [(8, i64 x.1), (7, i64 x.2)]) (fun x σ' Γ' => σ = σ' ∧ x.1 ≤ l.length ∧ x.1 ≤ 200 ∧ x.2 ≤ 3000 * x.1 ∧ Γ' = [blk g3 [.slice pv p.vars.length cv, .slice pb0 p.body.length cb] 25]) (fun x => l.length - x.1) (0, 0) (by exact ⟨rfl, rfl, trivial⟩) (Δ0 := _) ?_ (⟨rfl, Nat.zero_le _, by decide, Nat.zero_le _, rfl⟩) ?_
  · exact zE
  rintro ⟨i, a⟩ δ _ _ ⟨rfl, hin, hi2, hia, rfl⟩
  dsimp only [ovr, List.foldl]
  have hin : i ≤ l.length := hin
  have hi2 : i ≤ 200 := hi2
  have hia : a ≤ 3000 * i := hia
  by_cases hlt : i < l.length
  · by_cases h200 : i < 200
    · obtain ⟨x, hx⟩ : ∃ x, l[i]? = some x := ⟨_, List.getElem?_eq_getElem hlt⟩
      obtain ⟨gr, orow, row, rfl, ⟨hrx, -⟩, hrl, hrow⟩ := hl.at hx
      obtain ⟨kd, n, K, m⟩ := x
      simp only at hrx
      subst hrx
      have hrow1 : PRow σ gr (orow + i * 4 + 1) [i64 n] := hrow.sub (j := 1) rfl
      by_cases hn0 : 0 < n
      · by_cases hn1 : n ≤ 3000
        · obtain ⟨n', rfl⟩ : ∃ j : Nat, n = j := ⟨n.toNat, by omega⟩
          refine zS ?_; refine zS ?_; refine zR ?_; refine zO rfl Rd.mv ?_; refine zO rfl Rd.mv ?_; refine zO rfl (Rd.lenSlice (tyrow rfl) rfl rfl) ?_; refine zO rfl (Rd.lss rfl rfl) ?_; refine zO rfl Rd.mv ?_
          first | ((first | refine zW ?_ | refine zQ ?_); refine zO rfl Rd.mv ?_) | refine zU ?_ | refine zV ?_ | refine zZ ?_
          first | ((first | refine zW ?_ | refine zQ ?_); refine zO rfl (Rd.lss rfl rfl) ?_) | refine zU ?_ | refine zV ?_ | refine zZ ?_
          refine zO rfl (by first | exact Rd.pT rfl | exact Rd.pF rfl | exact Rd.pP rfl) ?_
          refine zN ?_; refine zT ?_
          refine XA.condT rfl (by first | rfl | exact decide_eq_true (by omega)) ?_
          refine XA.skip ?_
          refine zT ?_; refine zS ?_
          refine XA.block ?_
          refine zS ?_; refine zR ?_; refine zO rfl Rd.mv ?_; refine zO rfl Rd.mv ?_
          refine zO rfl (Rd.ixS rfl rfl) ?_
          refine zO rfl (Rd.fA rfl) ?_; refine zO rfl (Rd.ldC rfl (tyrow rfl) rfl) ?_
          refine zO rfl (Rd.gtr rfl rfl) ?_
          refine zO rfl Rd.mv ?_
          first | ((first | refine zW ?_ | refine zQ ?_); refine zO rfl Rd.mv ?_) | refine zU ?_ | refine zV ?_ | refine zZ ?_
          first | ((first | refine zW ?_ | refine zQ ?_); refine zO rfl Rd.mv ?_) | refine zU ?_ | refine zV ?_ | refine zZ ?_
          first | ((first | refine zW ?_ | refine zQ ?_); refine zO rfl (Rd.ixS rfl rfl) ?_) | refine zU ?_ | refine zV ?_ | refine zZ ?_
          first | ((first | refine zW ?_ | refine zQ ?_); refine zO rfl (Rd.fA rfl) ?_) | refine zU ?_ | refine zV ?_ | refine zZ ?_
          first | ((first | refine zW ?_ | refine zQ ?_); refine zO rfl (Rd.ldC rfl (tyrow rfl) rfl) ?_) | refine zU ?_ | refine zV ?_ | refine zZ ?_
          first | ((first | refine zW ?_ | refine zQ ?_); refine zO rfl (Rd.leq rfl rfl) ?_) | refine zU ?_ | refine zV ?_ | refine zZ ?_
          refine zO rfl (by first | exact Rd.pT rfl | exact Rd.pF rfl | exact Rd.pP rfl) ?_
          refine zN ?_; refine zT ?_
          refine XA.condT rfl (by first | rfl | exact decide_eq_true (by omega)) ?_
          refine zR ?_; refine zO rfl Rd.mv ?_; refine zO rfl Rd.mv ?_; refine zO rfl Rd.mv ?_
          refine zO rfl (Rd.ixS rfl rfl) ?_
          refine zO rfl (Rd.fA rfl) ?_; refine zO rfl (Rd.ldC rfl (tyrow rfl) rfl) ?_
          refine zO rfl (by first | exact Rd.adi rfl rfl | exact Rd.add rfl rfl) ?_
          refine zO rfl Rd.asg ?_; refine zN ?_
          refine DA.inb_normal ?_
          refine zT ?_; refine zR ?_; refine zO rfl Rd.mv ?_
          refine zO rfl (by first | exact Rd.adi rfl rfl | exact Rd.add rfl rfl) ?_
          refine zO rfl Rd.asg ?_; refine zN ?_; refine zT ?_
          rw [← Int.natCast_add]
          refine ⟨(Keep.upd (Keep.upd (Keep.upd (Keep.upd (Keep.upd (Keep.upd (Keep.upd (Keep.upd (Keep.upd (Keep.upd (Keep.upd (Keep.upd (Keep.upd (Keep.upd (Keep.upd (Keep.upd (Keep.upd (Keep.upd (Keep.upd (Keep.upd (Keep.upd (Keep.upd (Keep.upd (Keep.upd (Keep.upd (Keep.upd (Keep.upd (Keep.upd (Keep.upd (Keep.upd (Keep.upd (Keep.upd (Keep.upd (Keep.upd (Keep.upd (Keep.hav (Keep.refl _ _) rfl) rfl) rfl) rfl) rfl) rfl) rfl) rfl) rfl) rfl) rfl) rfl) rfl) rfl) rfl) rfl) rfl) rfl) rfl) rfl) rfl) rfl) rfl) rfl) rfl) rfl) rfl) rfl) rfl) rfl) rfl) rfl) rfl) rfl) rfl) rfl), (i + 1, a + n'), _, (by (repeat (first | exact trivial | refine ⟨rfl, ?_⟩ | refine ⟨Eq.trans rfl (congrArg Value.bool hmat.symm), ?_⟩)); (first | done | fail)), ?_, ⟨rfl, hlt, by show i + 1 ≤ 200; omega, by show a + n' ≤ 3000 * (i + 1); omega, rfl⟩, (by simp only; omega)⟩
          · exact zE
        · skip
          refine zS ?_; refine zS ?_; refine zR ?_; refine zO rfl Rd.mv ?_; refine zO rfl Rd.mv ?_; refine zO rfl (Rd.lenSlice (tyrow rfl) rfl rfl) ?_; refine zO rfl (Rd.lss rfl rfl) ?_; refine zO rfl Rd.mv ?_
          first | ((first | refine zW ?_ | refine zQ ?_); refine zO rfl Rd.mv ?_) | refine zU ?_ | refine zV ?_ | refine zZ ?_
          first | ((first | refine zW ?_ | refine zQ ?_); refine zO rfl (Rd.lss rfl rfl) ?_) | refine zU ?_ | refine zV ?_ | refine zZ ?_
          refine zO rfl (by first | exact Rd.pT rfl | exact Rd.pF rfl | exact Rd.pP rfl) ?_
          refine zN ?_; refine zT ?_
          refine XA.condT rfl (by first | rfl | exact decide_eq_true (by omega)) ?_
          refine XA.skip ?_
          refine zT ?_; refine zS ?_
          refine XA.block ?_
          refine zS ?_; refine zR ?_; refine zO rfl Rd.mv ?_; refine zO rfl Rd.mv ?_
          refine zO rfl (Rd.ixS rfl rfl) ?_
          refine zO rfl (Rd.fA rfl) ?_; refine zO rfl (Rd.ldC rfl (tyrow rfl) rfl) ?_
          refine zO rfl (Rd.gtr rfl rfl) ?_
          refine zO rfl Rd.mv ?_
          first | ((first | refine zW ?_ | refine zQ ?_); refine zO rfl Rd.mv ?_) | refine zU ?_ | refine zV ?_ | refine zZ ?_
          first | ((first | refine zW ?_ | refine zQ ?_); refine zO rfl Rd.mv ?_) | refine zU ?_ | refine zV ?_ | refine zZ ?_
          first | ((first | refine zW ?_ | refine zQ ?_); refine zO rfl (Rd.ixS rfl rfl) ?_) | refine zU ?_ | refine zV ?_ | refine zZ ?_
          first | ((first | refine zW ?_ | refine zQ ?_); refine zO rfl (Rd.fA rfl) ?_) | refine zU ?_ | refine zV ?_ | refine zZ ?_
          first | ((first | refine zW ?_ | refine zQ ?_); refine zO rfl (Rd.ldC rfl (tyrow rfl) rfl) ?_) | refine zU ?_ | refine zV ?_ | refine zZ ?_
          first | ((first | refine zW ?_ | refine zQ ?_); refine zO rfl (Rd.leq rfl rfl) ?_) | refine zU ?_ | refine zV ?_ | refine zZ ?_
          refine zO rfl (by first | exact Rd.pT rfl | exact Rd.pF rfl | exact Rd.pP rfl) ?_
          refine zN ?_; refine zT ?_
          refine XA.condF rfl (by first | rfl | exact decide_eq_false (by omega)) ?_
          refine XA.skip ?_
          refine DA.inb_normal ?_
          refine zT ?_; refine zR ?_; refine zO rfl Rd.mv ?_
          refine zO rfl (by first | exact Rd.adi rfl rfl | exact Rd.add rfl rfl) ?_
          refine zO rfl Rd.asg ?_; refine zN ?_; refine zT ?_
          refine ⟨(Keep.upd (Keep.upd (Keep.upd (Keep.upd (Keep.upd (Keep.upd (Keep.upd (Keep.upd (Keep.upd (Keep.upd (Keep.upd (Keep.upd (Keep.upd (Keep.upd (Keep.upd (Keep.upd (Keep.upd (Keep.upd (Keep.upd (Keep.upd (Keep.upd (Keep.upd (Keep.upd (Keep.upd (Keep.upd (Keep.upd (Keep.upd (Keep.hav (Keep.refl _ _) rfl) rfl) rfl) rfl) rfl) rfl) rfl) rfl) rfl) rfl) rfl) rfl) rfl) rfl) rfl) rfl) rfl) rfl) rfl) rfl) rfl) rfl) rfl) rfl) rfl) rfl) rfl) rfl), (i + 1, a), _, (by (repeat (first | exact trivial | refine ⟨rfl, ?_⟩ | refine ⟨Eq.trans rfl (congrArg Value.bool hmat.symm), ?_⟩)); (first | done | fail)), ?_, ⟨rfl, hlt, by show i + 1 ≤ 200; omega, by show a ≤ 3000 * (i + 1); omega, rfl⟩, (by simp only; omega)⟩
          · exact zE
      · skip
        refine zS ?_; refine zS ?_; refine zR ?_; refine zO rfl Rd.mv ?_; refine zO rfl Rd.mv ?_; refine zO rfl (Rd.lenSlice (tyrow rfl) rfl rfl) ?_; refine zO rfl (Rd.lss rfl rfl) ?_; refine zO rfl Rd.mv ?_
        first | ((first | refine zW ?_ | refine zQ ?_); refine zO rfl Rd.mv ?_) | refine zU ?_ | refine zV ?_ | refine zZ ?_
        first | ((first | refine zW ?_ | refine zQ ?_); refine zO rfl (Rd.lss rfl rfl) ?_) | refine zU ?_ | refine zV ?_ | refine zZ ?_
        refine zO rfl (by first | exact Rd.pT rfl | exact Rd.pF rfl | exact Rd.pP rfl) ?_
        refine zN ?_; refine zT ?_
        refine XA.condT rfl (by first | rfl | exact decide_eq_true (by omega)) ?_
        refine XA.skip ?_
        refine zT ?_; refine zS ?_
        refine XA.block ?_
        refine zS ?_; refine zR ?_; refine zO rfl Rd.mv ?_; refine zO rfl Rd.mv ?_
        refine zO rfl (Rd.ixS rfl rfl) ?_
        refine zO rfl (Rd.fA rfl) ?_; refine zO rfl (Rd.ldC rfl (tyrow rfl) rfl) ?_
        refine zO rfl (Rd.gtr rfl rfl) ?_
        refine zO rfl Rd.mv ?_
        first | ((first | refine zW ?_ | refine zQ ?_); refine zO rfl Rd.mv ?_) | refine zU ?_ | refine zV ?_ | refine zZ ?_
        first | ((first | refine zW ?_ | refine zQ ?_); refine zO rfl Rd.mv ?_) | refine zU ?_ | refine zV ?_ | refine zZ ?_
        first | ((first | refine zW ?_ | refine zQ ?_); refine zO rfl (Rd.ixS rfl rfl) ?_) | refine zU ?_ | refine zV ?_ | refine zZ ?_
        first | ((first | refine zW ?_ | refine zQ ?_); refine zO rfl (Rd.fA rfl) ?_) | refine zU ?_ | refine zV ?_ | refine zZ ?_
        first | ((first | refine zW ?_ | refine zQ ?_); refine zO rfl (Rd.ldC rfl (tyrow rfl) rfl) ?_) | refine zU ?_ | refine zV ?_ | refine zZ ?_
        first | ((first | refine zW ?_ | refine zQ ?_); refine zO rfl (Rd.leq rfl rfl) ?_) | refine zU ?_ | refine zV ?_ | refine zZ ?_
        refine zO rfl (by first | exact Rd.pT rfl | exact Rd.pF rfl | exact Rd.pP rfl) ?_
        refine zN ?_; refine zT ?_
        refine XA.condF rfl (by first | rfl | exact decide_eq_false (by omega)) ?_
        refine XA.skip ?_
        refine DA.inb_normal ?_
        refine zT ?_; refine zR ?_; refine zO rfl Rd.mv ?_
        refine zO rfl (by first | exact Rd.adi rfl rfl | exact Rd.add rfl rfl) ?_
        refine zO rfl Rd.asg ?_; refine zN ?_; refine zT ?_
        refine ⟨(Keep.upd (Keep.upd (Keep.upd (Keep.upd (Keep.upd (Keep.upd (Keep.upd (Keep.upd (Keep.upd (Keep.upd (Keep.upd (Keep.upd (Keep.upd (Keep.upd (Keep.upd (Keep.upd (Keep.upd (Keep.upd (Keep.upd (Keep.upd (Keep.upd (Keep.upd (Keep.upd (Keep.upd (Keep.upd (Keep.upd (Keep.upd (Keep.hav (Keep.refl _ _) rfl) rfl) rfl) rfl) rfl) rfl) rfl) rfl) rfl) rfl) rfl) rfl) rfl) rfl) rfl) rfl) rfl) rfl) rfl) rfl) rfl) rfl) rfl) rfl) rfl) rfl) rfl) rfl), (i + 1, a), _, (by (repeat (first | exact trivial | refine ⟨rfl, ?_⟩ | refine ⟨Eq.trans rfl (congrArg Value.bool hmat.symm), ?_⟩)); (first | done | fail)), ?_, ⟨rfl, hlt, by show i + 1 ≤ 200; omega, by show a ≤ 3000 * (i + 1); omega, rfl⟩, (by simp only; omega)⟩
        · exact zE
    · skip
      refine zS ?_; refine zS ?_; refine zR ?_; refine zO rfl Rd.mv ?_; refine zO rfl Rd.mv ?_; refine zO rfl (Rd.lenSlice (tyrow rfl) rfl rfl) ?_; refine zO rfl (Rd.lss rfl rfl) ?_; refine zO rfl Rd.mv ?_
      first | ((first | refine zW ?_ | refine zQ ?_); refine zO rfl Rd.mv ?_) | refine zU ?_ | refine zV ?_ | refine zZ ?_
      first | ((first | refine zW ?_ | refine zQ ?_); refine zO rfl (Rd.lss rfl rfl) ?_) | refine zU ?_ | refine zV ?_ | refine zZ ?_
      refine zO rfl (by first | exact Rd.pT rfl | exact Rd.pF rfl | exact Rd.pP rfl) ?_
      refine zN ?_; refine zT ?_
      refine XA.condF rfl (by first | rfl | exact decide_eq_false (by omega)) ?_
      refine XA.exit ?_
      refine DA.thn_exit ?_
      refine DA.thn_exit ?_
      refine DA.inb_same ?_
      refine zT ?_; refine zS ?_; refine zR ?_; refine zO rfl (Rd.ldA rfl) ?_
      refine XOA.wr0 rfl (WrA.cE (great_a σ _ p hp0) rfl) ?_
      rintro _ _ _ ⟨_, ⟨b, rfl, hsm, rfl, rfl⟩, rfl⟩
      refine XOA.cl ?_
      cases b with
      | true =>
        refine zO rfl Rd.mv ?_
        first | ((first | refine zW ?_ | refine zQ ?_); refine zO rfl Rd.mv ?_) | refine zU ?_ | refine zV ?_ | refine zZ ?_
        first | ((first | refine zW ?_ | refine zQ ?_); refine zO rfl (Rd.lenSlice (tyrow rfl) rfl rfl) ?_) | refine zU ?_ | refine zV ?_ | refine zZ ?_
        first | ((first | refine zW ?_ | refine zQ ?_); refine zO rfl (Rd.gtr rfl rfl) ?_) | refine zU ?_ | refine zV ?_ | refine zZ ?_
        refine zO rfl (by first | exact Rd.pT rfl | exact Rd.pF rfl | exact Rd.pP rfl) ?_
        refine zO rfl Rd.mv ?_
        first | ((first | refine zW ?_ | refine zQ ?_); refine zO rfl Rd.mv ?_) | refine zU ?_ | refine zV ?_ | refine zZ ?_
        first | ((first | refine zW ?_ | refine zQ ?_); refine zO rfl (Rd.lenSlice (tyrow rfl) rfl rfl) ?_) | refine zU ?_ | refine zV ?_ | refine zZ ?_
        first | ((first | refine zW ?_ | refine zQ ?_); refine zO rfl (Rd.gtr rfl rfl) ?_) | refine zU ?_ | refine zV ?_ | refine zZ ?_
        refine zO rfl (by first | exact Rd.pT rfl | exact Rd.pF rfl | exact Rd.pP rfl) ?_
        refine zO rfl Rd.mv ?_
        first | ((first | refine zW ?_ | refine zQ ?_); refine zO rfl Rd.mv ?_) | refine zU ?_ | refine zV ?_ | refine zZ ?_
        first | ((first | refine zW ?_ | refine zQ ?_); refine zO rfl (Rd.gtr rfl rfl) ?_) | refine zU ?_ | refine zV ?_ | refine zZ ?_
        refine zO rfl (by first | exact Rd.pT rfl | exact Rd.pF rfl | exact Rd.pP rfl) ?_
        refine zO rfl Rd.asg ?_; refine zN ?_; refine zT ?_
        refine XA.ret ?_
        exact bodyA.ret (ResA.one rfl rfl) (Ent.nil _) ⟨true, rfl, fun h => (by cases h), rfl, rfl⟩
      | false =>
        by_cases z0 : 100 < inp.length
        · skip
          refine zO rfl Rd.mv ?_
          first | ((first | refine zW ?_ | refine zQ ?_); refine zO rfl Rd.mv ?_) | refine zU ?_ | refine zV ?_ | refine zZ ?_
          first | ((first | refine zW ?_ | refine zQ ?_); refine zO rfl (Rd.lenSlice (tyrow rfl) rfl rfl) ?_) | refine zU ?_ | refine zV ?_ | refine zZ ?_
          first | ((first | refine zW ?_ | refine zQ ?_); refine zO rfl (Rd.gtr rfl rfl) ?_) | refine zU ?_ | refine zV ?_ | refine zZ ?_
          refine zO rfl (by first | exact Rd.pT rfl | exact Rd.pF rfl | exact Rd.pP rfl) ?_
          refine zO rfl Rd.mv ?_
          first | ((first | refine zW ?_ | refine zQ ?_); refine zO rfl Rd.mv ?_) | refine zU ?_ | refine zV ?_ | refine zZ ?_
          first | ((first | refine zW ?_ | refine zQ ?_); refine zO rfl (Rd.lenSlice (tyrow rfl) rfl rfl) ?_) | refine zU ?_ | refine zV ?_ | refine zZ ?_
          first | ((first | refine zW ?_ | refine zQ ?_); refine zO rfl (Rd.gtr rfl rfl) ?_) | refine zU ?_ | refine zV ?_ | refine zZ ?_
          refine zO rfl (by first | exact Rd.pT rfl | exact Rd.pF rfl | exact Rd.pP rfl) ?_
          refine zO rfl Rd.mv ?_
          first | ((first | refine zW ?_ | refine zQ ?_); refine zO rfl Rd.mv ?_) | refine zU ?_ | refine zV ?_ | refine zZ ?_
          first | ((first | refine zW ?_ | refine zQ ?_); refine zO rfl (Rd.gtr rfl rfl) ?_) | refine zU ?_ | refine zV ?_ | refine zZ ?_
          refine zO rfl (by first | exact Rd.pT rfl | exact Rd.pF rfl | exact Rd.pP rfl) ?_
          refine zO rfl Rd.asg ?_; refine zN ?_; refine zT ?_
          refine XA.ret ?_
          exact bodyA.ret (ResA.one rfl rfl) (Ent.nil _) ⟨true, rfl, fun h => (by cases h), rfl, rfl⟩
        by_cases z1 : 60 < l.length
        · skip
          refine zO rfl Rd.mv ?_
          first | ((first | refine zW ?_ | refine zQ ?_); refine zO rfl Rd.mv ?_) | refine zU ?_ | refine zV ?_ | refine zZ ?_
          first | ((first | refine zW ?_ | refine zQ ?_); refine zO rfl (Rd.lenSlice (tyrow rfl) rfl rfl) ?_) | refine zU ?_ | refine zV ?_ | refine zZ ?_
          first | ((first | refine zW ?_ | refine zQ ?_); refine zO rfl (Rd.gtr rfl rfl) ?_) | refine zU ?_ | refine zV ?_ | refine zZ ?_
          refine zO rfl (by first | exact Rd.pT rfl | exact Rd.pF rfl | exact Rd.pP rfl) ?_
          refine zO rfl Rd.mv ?_
          first | ((first | refine zW ?_ | refine zQ ?_); refine zO rfl Rd.mv ?_) | refine zU ?_ | refine zV ?_ | refine zZ ?_
          first | ((first | refine zW ?_ | refine zQ ?_); refine zO rfl (Rd.lenSlice (tyrow rfl) rfl rfl) ?_) | refine zU ?_ | refine zV ?_ | refine zZ ?_
          first | ((first | refine zW ?_ | refine zQ ?_); refine zO rfl (Rd.gtr rfl rfl) ?_) | refine zU ?_ | refine zV ?_ | refine zZ ?_
          refine zO rfl (by first | exact Rd.pT rfl | exact Rd.pF rfl | exact Rd.pP rfl) ?_
          refine zO rfl Rd.mv ?_
          first | ((first | refine zW ?_ | refine zQ ?_); refine zO rfl Rd.mv ?_) | refine zU ?_ | refine zV ?_ | refine zZ ?_
          first | ((first | refine zW ?_ | refine zQ ?_); refine zO rfl (Rd.gtr rfl rfl) ?_) | refine zU ?_ | refine zV ?_ | refine zZ ?_
          refine zO rfl (by first | exact Rd.pT rfl | exact Rd.pF rfl | exact Rd.pP rfl) ?_
          refine zO rfl Rd.asg ?_; refine zN ?_; refine zT ?_
          refine XA.ret ?_
          exact bodyA.ret (ResA.one rfl rfl) (Ent.nil _) ⟨true, rfl, fun h => (by cases h), rfl, rfl⟩
        refine zO rfl Rd.mv ?_
        first | ((first | refine zW ?_ | refine zQ ?_); refine zO rfl Rd.mv ?_) | refine zU ?_ | refine zV ?_ | refine zZ ?_
        first | ((first | refine zW ?_ | refine zQ ?_); refine zO rfl (Rd.lenSlice (tyrow rfl) rfl rfl) ?_) | refine zU ?_ | refine zV ?_ | refine zZ ?_
        first | ((first | refine zW ?_ | refine zQ ?_); refine zO rfl (Rd.gtr rfl rfl) ?_) | refine zU ?_ | refine zV ?_ | refine zZ ?_
        refine zO rfl (by first | exact Rd.pT rfl | exact Rd.pF rfl | exact Rd.pP rfl) ?_
        refine zO rfl Rd.mv ?_
        first | ((first | refine zW ?_ | refine zQ ?_); refine zO rfl Rd.mv ?_) | refine zU ?_ | refine zV ?_ | refine zZ ?_
        first | ((first | refine zW ?_ | refine zQ ?_); refine zO rfl (Rd.lenSlice (tyrow rfl) rfl rfl) ?_) | refine zU ?_ | refine zV ?_ | refine zZ ?_
        first | ((first | refine zW ?_ | refine zQ ?_); refine zO rfl (Rd.gtr rfl rfl) ?_) | refine zU ?_ | refine zV ?_ | refine zZ ?_
        refine zO rfl (by first | exact Rd.pT rfl | exact Rd.pF rfl | exact Rd.pP rfl) ?_
        refine zO rfl Rd.mv ?_
        first | ((first | refine zW ?_ | refine zQ ?_); refine zO rfl Rd.mv ?_) | refine zU ?_ | refine zV ?_ | refine zZ ?_
        first | ((first | refine zW ?_ | refine zQ ?_); refine zO rfl (Rd.gtr rfl rfl) ?_) | refine zU ?_ | refine zV ?_ | refine zZ ?_
        refine zO rfl (by first | exact Rd.pT rfl | exact Rd.pF rfl | exact Rd.pP rfl) ?_
        refine zO rfl Rd.asg ?_; refine zN ?_; refine zT ?_
        refine XA.ret ?_
        exact bodyA.ret (ResA.one rfl rfl) (Ent.nil _) ⟨_, rfl, fun _ => ⟨hsm rfl, by omega, by omega⟩, rfl, rfl⟩
  · skip
    refine zS ?_; refine zS ?_; refine zR ?_; refine zO rfl Rd.mv ?_; refine zO rfl Rd.mv ?_; refine zO rfl (Rd.lenSlice (tyrow rfl) rfl rfl) ?_; refine zO rfl (Rd.lss rfl rfl) ?_; refine zO rfl Rd.mv ?_
    first | ((first | refine zW ?_ | refine zQ ?_); refine zO rfl Rd.mv ?_) | refine zU ?_ | refine zV ?_ | refine zZ ?_
    first | ((first | refine zW ?_ | refine zQ ?_); refine zO rfl (Rd.lss rfl rfl) ?_) | refine zU ?_ | refine zV ?_ | refine zZ ?_
    refine zO rfl (by first | exact Rd.pT rfl | exact Rd.pF rfl | exact Rd.pP rfl) ?_
    refine zN ?_; refine zT ?_
    refine XA.condF rfl (by first | rfl | exact decide_eq_false (by omega)) ?_
    refine XA.exit ?_
    refine DA.thn_exit ?_
    refine DA.thn_exit ?_
    refine DA.inb_same ?_
    refine zT ?_; refine zS ?_; refine zR ?_; refine zO rfl (Rd.ldA rfl) ?_
    refine XOA.wr0 rfl (WrA.cE (great_a σ _ p hp0) rfl) ?_
    rintro _ _ _ ⟨_, ⟨b, rfl, hsm, rfl, rfl⟩, rfl⟩
    refine XOA.cl ?_
    cases b with
    | true =>
      refine zO rfl Rd.mv ?_
      first | ((first | refine zW ?_ | refine zQ ?_); refine zO rfl Rd.mv ?_) | refine zU ?_ | refine zV ?_ | refine zZ ?_
      first | ((first | refine zW ?_ | refine zQ ?_); refine zO rfl (Rd.lenSlice (tyrow rfl) rfl rfl) ?_) | refine zU ?_ | refine zV ?_ | refine zZ ?_
      first | ((first | refine zW ?_ | refine zQ ?_); refine zO rfl (Rd.gtr rfl rfl) ?_) | refine zU ?_ | refine zV ?_ | refine zZ ?_
      refine zO rfl (by first | exact Rd.pT rfl | exact Rd.pF rfl | exact Rd.pP rfl) ?_
      refine zO rfl Rd.mv ?_
      first | ((first | refine zW ?_ | refine zQ ?_); refine zO rfl Rd.mv ?_) | refine zU ?_ | refine zV ?_ | refine zZ ?_
      first | ((first | refine zW ?_ | refine zQ ?_); refine zO rfl (Rd.lenSlice (tyrow rfl) rfl rfl) ?_) | refine zU ?_ | refine zV ?_ | refine zZ ?_
      first | ((first | refine zW ?_ | refine zQ ?_); refine zO rfl (Rd.gtr rfl rfl) ?_) | refine zU ?_ | refine zV ?_ | refine zZ ?_
      refine zO rfl (by first | exact Rd.pT rfl | exact Rd.pF rfl | exact Rd.pP rfl) ?_
      refine zO rfl Rd.mv ?_
      first | ((first | refine zW ?_ | refine zQ ?_); refine zO rfl Rd.mv ?_) | refine zU ?_ | refine zV ?_ | refine zZ ?_
      first | ((first | refine zW ?_ | refine zQ ?_); refine zO rfl (Rd.gtr rfl rfl) ?_) | refine zU ?_ | refine zV ?_ | refine zZ ?_
      refine zO rfl (by first | exact Rd.pT rfl | exact Rd.pF rfl | exact Rd.pP rfl) ?_
      refine zO rfl Rd.asg ?_; refine zN ?_; refine zT ?_
      refine XA.ret ?_
      exact bodyA.ret (ResA.one rfl rfl) (Ent.nil _) ⟨true, rfl, fun h => (by cases h), rfl, rfl⟩
    | false =>
      by_cases z0 : 100 < inp.length
      · skip
        refine zO rfl Rd.mv ?_
        first | ((first | refine zW ?_ | refine zQ ?_); refine zO rfl Rd.mv ?_) | refine zU ?_ | refine zV ?_ | refine zZ ?_
        first | ((first | refine zW ?_ | refine zQ ?_); refine zO rfl (Rd.lenSlice (tyrow rfl) rfl rfl) ?_) | refine zU ?_ | refine zV ?_ | refine zZ ?_
        first | ((first | refine zW ?_ | refine zQ ?_); refine zO rfl (Rd.gtr rfl rfl) ?_) | refine zU ?_ | refine zV ?_ | refine zZ ?_
        refine zO rfl (by first | exact Rd.pT rfl | exact Rd.pF rfl | exact Rd.pP rfl) ?_
        refine zO rfl Rd.mv ?_
        first | ((first | refine zW ?_ | refine zQ ?_); refine zO rfl Rd.mv ?_) | refine zU ?_ | refine zV ?_ | refine zZ ?_
        first | ((first | refine zW ?_ | refine zQ ?_); refine zO rfl (Rd.lenSlice (tyrow rfl) rfl rfl) ?_) | refine zU ?_ | refine zV ?_ | refine zZ ?_
        first | ((first | refine zW ?_ | refine zQ ?_); refine zO rfl (Rd.gtr rfl rfl) ?_) | refine zU ?_ | refine zV ?_ | refine zZ ?_
        refine zO rfl (by first | exact Rd.pT rfl | exact Rd.pF rfl | exact Rd.pP rfl) ?_
        refine zO rfl Rd.mv ?_
        first | ((first | refine zW ?_ | refine zQ ?_); refine zO rfl Rd.mv ?_) | refine zU ?_ | refine zV ?_ | refine zZ ?_
        first | ((first | refine zW ?_ | refine zQ ?_); refine zO rfl (Rd.gtr rfl rfl) ?_) | refine zU ?_ | refine zV ?_ | refine zZ ?_
        refine zO rfl (by first | exact Rd.pT rfl | exact Rd.pF rfl | exact Rd.pP rfl) ?_
        refine zO rfl Rd.asg ?_; refine zN ?_; refine zT ?_
        refine XA.ret ?_
        exact bodyA.ret (ResA.one rfl rfl) (Ent.nil _) ⟨true, rfl, fun h => (by cases h), rfl, rfl⟩
      by_cases z1 : 60 < l.length
      · skip
        refine zO rfl Rd.mv ?_
        first | ((first | refine zW ?_ | refine zQ ?_); refine zO rfl Rd.mv ?_) | refine zU ?_ | refine zV ?_ | refine zZ ?_
        first | ((first | refine zW ?_ | refine zQ ?_); refine zO rfl (Rd.lenSlice (tyrow rfl) rfl rfl) ?_) | refine zU ?_ | refine zV ?_ | refine zZ ?_
        first | ((first | refine zW ?_ | refine zQ ?_); refine zO rfl (Rd.gtr rfl rfl) ?_) | refine zU ?_ | refine zV ?_ | refine zZ ?_
        refine zO rfl (by first | exact Rd.pT rfl | exact Rd.pF rfl | exact Rd.pP rfl) ?_
        refine zO rfl Rd.mv ?_
        first | ((first | refine zW ?_ | refine zQ ?_); refine zO rfl Rd.mv ?_) | refine zU ?_ | refine zV ?_ | refine zZ ?_
        first | ((first | refine zW ?_ | refine zQ ?_); refine zO rfl (Rd.lenSlice (tyrow rfl) rfl rfl) ?_) | refine zU ?_ | refine zV ?_ | refine zZ ?_
        first | ((first | refine zW ?_ | refine zQ ?_); refine zO rfl (Rd.gtr rfl rfl) ?_) | refine zU ?_ | refine zV ?_ | refine zZ ?_
        refine zO rfl (by first | exact Rd.pT rfl | exact Rd.pF rfl | exact Rd.pP rfl) ?_
        refine zO rfl Rd.mv ?_
        first | ((first | refine zW ?_ | refine zQ ?_); refine zO rfl Rd.mv ?_) | refine zU ?_ | refine zV ?_ | refine zZ ?_
        first | ((first | refine zW ?_ | refine zQ ?_); refine zO rfl (Rd.gtr rfl rfl) ?_) | refine zU ?_ | refine zV ?_ | refine zZ ?_
        refine zO rfl (by first | exact Rd.pT rfl | exact Rd.pF rfl | exact Rd.pP rfl) ?_
        refine zO rfl Rd.asg ?_; refine zN ?_; refine zT ?_
        refine XA.ret ?_
        exact bodyA.ret (ResA.one rfl rfl) (Ent.nil _) ⟨true, rfl, fun h => (by cases h), rfl, rfl⟩
      refine zO rfl Rd.mv ?_
      first | ((first | refine zW ?_ | refine zQ ?_); refine zO rfl Rd.mv ?_) | refine zU ?_ | refine zV ?_ | refine zZ ?_
      first | ((first | refine zW ?_ | refine zQ ?_); refine zO rfl (Rd.lenSlice (tyrow rfl) rfl rfl) ?_) | refine zU ?_ | refine zV ?_ | refine zZ ?_
      first | ((first | refine zW ?_ | refine zQ ?_); refine zO rfl (Rd.gtr rfl rfl) ?_) | refine zU ?_ | refine zV ?_ | refine zZ ?_
      refine zO rfl (by first | exact Rd.pT rfl | exact Rd.pF rfl | exact Rd.pP rfl) ?_
      refine zO rfl Rd.mv ?_
      first | ((first | refine zW ?_ | refine zQ ?_); refine zO rfl Rd.mv ?_) | refine zU ?_ | refine zV ?_ | refine zZ ?_
      first | ((first | refine zW ?_ | refine zQ ?_); refine zO rfl (Rd.lenSlice (tyrow rfl) rfl rfl) ?_) | refine zU ?_ | refine zV ?_ | refine zZ ?_
      first | ((first | refine zW ?_ | refine zQ ?_); refine zO rfl (Rd.gtr rfl rfl) ?_) | refine zU ?_ | refine zV ?_ | refine zZ ?_
      refine zO rfl (by first | exact Rd.pT rfl | exact Rd.pF rfl | exact Rd.pP rfl) ?_
      refine zO rfl Rd.mv ?_
      first | ((first | refine zW ?_ | refine zQ ?_); refine zO rfl Rd.mv ?_) | refine zU ?_ | refine zV ?_ | refine zZ ?_
      first | ((first | refine zW ?_ | refine zQ ?_); refine zO rfl (Rd.gtr rfl rfl) ?_) | refine zU ?_ | refine zV ?_ | refine zZ ?_
      refine zO rfl (by first | exact Rd.pT rfl | exact Rd.pF rfl | exact Rd.pP rfl) ?_
      refine zO rfl Rd.asg ?_; refine zN ?_; refine zT ?_
      refine XA.ret ?_
      exact bodyA.ret (ResA.one rfl rfl) (Ent.nil _) ⟨_, rfl, fun _ => ⟨hsm rfl, by omega, by omega⟩, rfl, rfl⟩
end Go.Proofs.Ytmnmcjdgnpgchaa

namespace Go.Proofs.Ytmnmcjdgnpgchaa
open Go X
set_option maxHeartbeats 4000000
theorem nowe_l (σ : PH) (gx db pb : Nat) (pc : Option Addr) (cc nc : Nat) (p : Pr) (inp : List Int) (L : Li) (k : Nat) (g mb sb : Nat) (d : DiskS) (s : StS) (pi : Option Addr) (ci : Nat) (pj : Option Addr) (cj : Nat) (h : LiOk p inp L k) (hk : k ≤ 1000000) (hn : nc = L.b.m.cells.length) :
    CallsA Try.prog 38 #[ptr gx] σ [blk gx [ptr g, ptr db, ptr pb, .slice pc (codeOf p).length cc, .slice pj inp.length cj, i64 nc] 76, blk g [ptr mb, .slice pc (codeOf p).length cc, .slice pi inp.length ci, ptr pb, i64 0, .bool false] 64, Wld mb sb db d s L.M, Prin pb L.b.out L.b.wrong] (RetA fun v σ' Γ' => ∃ po co pv cv, v = .agg #[i64 (nowC L.b), .slice po L.b.out.length co, .slice pv nc cv] ∧ PInts σ' (.slice po L.b.out.length co) L.b.out ∧ PInts σ' (.slice pv nc cv) L.b.m.cells ∧ σ.sub σ' ∧ Γ' = [blk gx [ptr g, ptr db, ptr pb, .slice pc (codeOf p).length cc, .slice pj inp.length cj, i64 nc] 76, blk g [ptr mb, .slice pc (codeOf p).length cc, .slice pi inp.length ci, ptr pb, i64 0, .bool false] 64, Wld mb sb db d s L.M, Prin pb L.b.out L.b.wrong]) := by
  have hol := h.mach.ol
  refine enterA1 Try.func38 rfl rfl rfl ?_
  refine zS ?_; refine zR ?_
  refine XOA.wr0 rfl (WrA.alloc (tyrow rfl)) ?_
  rintro _ _ _ ⟨g2, rfl, rfl, rfl⟩
  refine zN ?_; refine zT ?_; refine zS ?_
  refine XA.draw (by kernel_rfl) _ _ [8, 9] [(0, .pu), (1, .pu), (2, .pu), (3, .rd), (4, .pu), (5, .pu), (6, .pu), (7, .rd), (8, .wr), (9, .wr)] (by kernel_rfl) (PH.sub.refl _) (Ent.sel (R := blk gx _ _) (by ((repeat (first | with_reducible exact Sel.head | apply Sel.tail)); (first | done | fail))) (Ent.nil _)) ?_
  refine XPA.pu rfl rfl Gd.free Rd.mv ?_
  refine XPA.pu rfl rfl Gd.free (Rd.nilCheck rfl) ?_
  refine XPA.pu rfl rfl Gd.free (Rd.fA rfl) ?_
  refine XPA.rd rfl rfl Gd.free (Rd.ldC rfl (tyrow rfl) rfl) ?_
  refine XPA.pu rfl rfl Gd.free Rd.mv ?_
  refine XPA.pu rfl rfl Gd.free (Rd.nilCheck rfl) ?_
  refine XPA.pu rfl rfl Gd.free (Rd.fA rfl) ?_
  refine XPA.rd rfl rfl Gd.free (Rd.ldC rfl (tyrow rfl) rfl) ?_
  refine XPA.wrZ0 rfl rfl Gd.free (by kernel_rfl) (WrA.cE (result_m σ g mb sb db pb (.slice pc (codeOf p).length cc) (.slice pi inp.length ci) 0 false d s L.M L.b.m L.b.out L.b.wrong nc h.mach.sh (by omega) (by omega)) rfl) ?_
  rintro _ σ2 _ ⟨_, ⟨po, co, pv, cv, rfl, hvo, hvc, hs2, rfl⟩, rfl⟩
  refine XPA.cl ?_
  rw [List.take_of_length_le (by omega)] at hvc
  refine XPA.wrZ0 rfl rfl Gd.free (by kernel_rfl) (WrA.st (tyrow rfl) rfl) ?_
  rintro _ _ _ ⟨rfl, rfl, rfl⟩
  refine XPA.nil ?_
  refine zT ?_
  refine XA.ret ?_
  exact bodyA.ret (ResA.cell1 rfl rfl (Ld.atBlk (tyrow rfl) rfl (by ((repeat (first | with_reducible exact Sel.head | apply Sel.tail)); (first | done | fail))) rfl (by first | exact take0 (by first | rfl | assumption | (refine (ints_len _).trans ?_; assumption) | (simp [*]; (first | done | fail))) | assumption | exact take_app (by first | rfl | assumption | (refine (ints_len _).trans ?_; assumption) | (simp [*]; (first | done | fail))) | (conv => lhs; simp only [List.drop_succ_cons, List.drop_zero, List.take_succ_cons, List.take_zero])) (by first | rfl | assumption | (refine (ints_len _).trans ?_; assumption) | (simp [*]; (first | done | fail))))) zE ⟨po, co, pv, cv, rfl, hvo, hvc, hs2, rfl⟩
theorem X.AtC.wld {σ : PH} {Γ Γ' : List HP} {mb sb db : Nat} {d : DiskS} {s : StS} {M : Me} (x : Sel Γ (Wld mb sb db d s M) Γ') : AtC (Ho σ Γ) mb 0 (ptr sb) := ⟨fun h ⟨f, hh⟩ => by
  obtain ⟨⟨inn, pg⟩, -, hh2⟩ := holds_open' hh x Wld.opn
  exact (Ho.blk ⟨f, hh2⟩ (Sel.head)).cel (l := mcells sb inn M.dt pg) rfl⟩
theorem gen_w (σ : PH) (mb sb db : Nat) (d : DiskS) (s : StS) (M : Me) :
    CallsA Try.prog 39 #[ptr sb] σ [Wld mb sb db d s M] (RetA fun v σ' Γ' => v = i64 s.gen ∧ σ = σ' ∧ Γ' = [Wld mb sb db d s M]) := by
  refine CallsA.opn .head Wld.opn (enters Try.func39 rfl rfl) ?_
  rintro ⟨inn, pg⟩ ⟨hG, hM⟩
  refine CallsA.ents (R := fun v σ' Γ' => ∃ Γ1, (v = i64 s.gen ∧ σ = σ' ∧ Γ1 = [Store sb db s]) ∧ Γ' = Γ1 ++ [blk mb (mcells sb inn M.dt pg) 87, Disk db d]) ?_ ?_
  · refine ((gen_a σ sb db s).frame [blk mb (mcells sb inn M.dt pg) 87, Disk db d] (Ent.sel (.tail .head) (Ent.sel .head (Ent.sel .head (Ent.nil _))))).mono ?_
    rintro e σ' _ ⟨Γ1, h, rfl⟩
    cases e with
    | returned v => exact ⟨Γ1, h, rfl⟩
    | panicked c => exact h.elim
    | outgrown => exact h.elim
  · rintro v σ' _ ⟨_, ⟨rfl, rfl, rfl⟩, rfl⟩
    exact ⟨_, Ent.fold1 (Ent.sel (.tail .head) (Ent.sel .head (Ent.sel .head (Ent.nil _)))) (Wld.mk hG hM), rfl, rfl, rfl⟩
theorem doL_crash (code : List In) (inp : List Int) (m : Int) (L : Li) : doL code inp ⟨2, 0, 0, m⟩ L = (wakeL L, 0) := by
  have hf : stpFault ⟨2, 0, 0, m⟩ = 0 := rfl
  rw [doL, if_neg (by rw [hf]; decide), if_neg (show ¬ (2 : Int) = 1 by decide), if_neg (show ¬ (2 : Int) = 3 by decide)]
theorem wake_wake (L : Li) : wakeL (wakeL L) = wakeL L := rfl
set_option maxRecDepth 20000 in
theorem again_law (σ : PH) (cs : List Value) (p : Pr) (iv : Value) (inp : List Int) (lv : Value) (l : List LStp) (ma mb0 : Int) (hp : PrAt σ cs p) (hi : PInts σ iv inp) (hl : PSl 4 rLStp σ lv l) (ha0 : 0 ≤ ma) (ha1 : ma < 18446744073709551616) (hb0 : 0 ≤ mb0) (hb1 : mb0 < 18446744073709551616) :
    CallsA Try.prog 10 #[.agg cs.toArray, iv, lv, .int .u64 ma, .int .u64 mb0] σ [] (RetA fun r σ' _ => r = .bool true ∧ σ.sub σ') := by
  have hp0 := hp
  obtain ⟨vs, bs, rfl, hv, hb⟩ := hp
  obtain ⟨pv, cv, rfl, -, -⟩ := hv.shape
  obtain ⟨pb0, cb, rfl, -, -⟩ := hb.shape
  obtain ⟨pl, cl, rfl, hll, hlm⟩ := hl.shape
  obtain ⟨pi0, ci0, rfl, hil, him⟩ := hi.shape
  simp only [maxLen] at hlm him
  refine enterA5 Try.func10 rfl rfl rfl ?_
  refine zS ?_; refine zR ?_
  refine XOA.wr0 rfl WrA.bx ?_
  rintro _ _ _ ⟨g5, rfl, rfl, rfl⟩
  refine zO rfl Rd.asg ?_; refine zN ?_; refine zT ?_; refine zS ?_; refine zS ?_; refine zR ?_
  refine XOA.wr0 rfl (WrA.cE (lifebegun_a σ) rfl) ?_
  rintro _ σ1 _ ⟨_, ⟨rfl, hs1, rfl⟩, rfl⟩
  refine XOA.cl ?_
  have hp1 := hp0.mono hs1
  have hi1 := hi.mono hs1
  have hl1 := hl.mono hs1 (fun cs x h => h)
  refine zO rfl (by first | exact Rd.notp rfl | exact Rd.not rfl) ?_
  refine zN ?_; refine zT ?_
  refine XA.condF rfl rfl ?_
  refine XA.skip ?_
  refine zT ?_; refine zS ?_; refine zS ?_; refine zR ?_; refine zO rfl (Rd.ldA rfl) ?_; refine zO rfl Rd.mv ?_; refine zO rfl Rd.mv ?_
  refine XOA.wr0 rfl (WrA.cE (greatlife_a σ1 _ p _ inp _ l hp1 hi1 hl1) rfl) ?_
  rintro _ _ _ ⟨_, ⟨b, rfl, hsm, rfl, rfl⟩, rfl⟩
  refine XOA.cl ?_
  cases b with
  | true =>
    refine zN ?_; refine zT ?_
    refine XA.condT rfl rfl ?_
    refine zS ?_; refine zR ?_; refine zO rfl Rd.asg ?_; refine zN ?_; refine zT ?_
    refine XA.ret ?_
    refine DA.thn_ret ?_
    exact bodyA.ret (ResA.one rfl rfl) (Ent.nil _) ⟨rfl, hs1⟩
  | false =>
    obtain ⟨hsm, h100, h60⟩ := hsm rfl
    have h900 := hsm.2.2
    have hcdl := codeOf_len p
    by_cases hc : checkP p = 0
    · by_cases h40 : inp.length ≤ 40
      · have hnew := newl_ok σ1 _ p _ inp hp1 hi1 (by omega) hc h40
        refine zN ?_; refine zT ?_
        refine XA.condF rfl rfl ?_
        refine XA.skip ?_
        refine zT ?_; refine zS ?_; refine zR ?_; refine zO rfl (Rd.ldA rfl) ?_; refine zO rfl Rd.mv ?_
        refine XOA.wr0 rfl (WrA.cE (hnew) rfl) ?_
        rintro _ σ2 _ ⟨Γ1, ⟨gx, db, pb, pc, cc, rfl, hs2, hcd, hL1⟩, rfl⟩
        refine XOA.cl ?_
        have hL1' := hL1
        obtain ⟨g, mb, sb, d, s, pi, ci, pj, cj, hQ, hsg, hG, hi2, hj2, rfl⟩ := hL1
        refine zO rfl Rd.mv ?_
        refine zO rfl (Rd.extract rfl rfl) ?_
        refine zO rfl (Rd.extract rfl rfl) ?_
        refine zO rfl Rd.asg ?_; refine zO rfl Rd.asg ?_; refine zN ?_; refine zT ?_; refine zS ?_; refine zS ?_; refine zR ?_; refine zO rfl Rd.mv ?_
        refine zO rfl (Rd.neq rfl rfl) ?_
        refine zN ?_; refine zT ?_
        refine XA.condF rfl rfl ?_
        refine XA.skip ?_
        refine zT ?_; refine zS ?_; refine zS ?_; refine zR ?_; refine zO rfl Rd.asg ?_; refine zN ?_; refine zT ?_
        refine XA.block ?_
        refine XA.gen [(2, _), (3, _), (4, _), (10, _), (11, _), (13, _)] ⟨(by with_reducible (conv => lhs; whnf)), (by with_reducible (conv => lhs; whnf)), (by with_reducible (conv => lhs; whnf)), (by with_reducible (conv => lhs; whnf)), (by with_reducible (conv => lhs; whnf)), (by with_reducible (conv => lhs; whnf)), trivial⟩ (fun δ => ?_)
        dsimp only [List.foldl]
        refine XA.loop [(13, 13), (31, 42)] (fun x : Nat × Li => [(13, i64 x.1)]) (fun x σ' Γ' => σ2.sub σ' ∧ x.1 ≤ l.length ∧ LiOk p inp x.2 (3000 * x.1) ∧ ∃ gn : Int, gn ≤ (3000 * x.1 : Nat) ∧ LifeG σ' gx db pb pc cc (sizes p.vars).toNat p inp x.2 gn Γ') (fun x => l.length - x.1) (0, L0 (sizes p.vars).toNat) (by exact ⟨rfl, trivial⟩) (Δ0 := _) ?_ (⟨.refl _, Nat.zero_le _, life0 hc inp (by omega) (by omega), 0, Int.le_refl _, hL1'⟩) ?_
        · exact zE
        rintro ⟨i, L⟩ δ σ3 _ ⟨hs3, hin, hok, gn, hgn, hL2⟩
        dsimp only [ovr, List.foldl]
        have hin : i ≤ l.length := hin
        simp only at hok hgn hL2
        have hL2' := hL2
        obtain ⟨g2, mb2, sb2, d2, s2, pi2, ci2, pj2, cj2, hQ2, hsg2, hG2, hi22, hj22, rfl⟩ := hL2
        have hc3 := hcd.mono hs3 (fun _ _ h => h)
        refine zS ?_; refine zS ?_; refine zR ?_; refine zO rfl Rd.mv ?_; refine zO rfl Rd.mv ?_; refine zO rfl (Rd.lenSlice (tyrow rfl) rfl rfl) ?_; refine zO rfl (Rd.lss rfl rfl) ?_; refine zN ?_; refine zT ?_
        refine XA.condp rfl (fun hlt => ?_) (fun hlt => ?_)
        · have hlt : i < l.length := by omega
          obtain ⟨x, hx⟩ : ∃ x, l[i]? = some x := ⟨_, List.getElem?_eq_getElem hlt⟩
          obtain ⟨gr, orow, row, rfl, ⟨hrx, hxK, hx0, hx1⟩, hrl, hrow⟩ := (hl1.mono (hs2.trans hs3) (fun cs x h => h)).at hx
          subst hrx
          have hdo := do_l σ3 gx db pb pc cc (sizes p.vars).toNat p inp L gn (3000 * i) x _ hxK hx0 hx1 hc3 hL2' hok (by omega) hgn
          obtain ⟨hok2, hle2, -⟩ := doL_ok x hok (by omega)
          refine XA.skip ?_
          refine zT ?_; refine zS ?_
          refine XA.block ?_
          refine zR ?_; refine zO rfl Rd.mv ?_; refine zO rfl Rd.mv ?_; refine zO rfl Rd.mv ?_
          refine zO rfl (Rd.ixS rfl rfl) ?_
          refine zO rfl (Rd.ldA rfl) ?_
          refine XOA.wr0 rfl (WrA.cE (hdo) rfl) ?_
          rintro _ σ4 _ ⟨Γ3, ⟨rfl, hs4, gn3, hg3, -, hL3⟩, rfl⟩
          refine XOA.cl ?_
          have hL3' := hL3
          obtain ⟨g3, mb3, sb3, d3, s3, pi3, ci3, pj3, cj3, hQ3, hsg3, hG3, hi3, hj3, rfl⟩ := hL3
          dsimp only [List.append, List.cons_append, List.nil_append]
          refine zN ?_
          refine DA.inb_normal ?_
          refine zT ?_; refine zR ?_; refine zO rfl Rd.mv ?_
          refine zO rfl (by first | exact Rd.adi rfl rfl | exact Rd.add rfl rfl) ?_
          refine zO rfl Rd.asg ?_; refine zN ?_; refine zT ?_
          refine ⟨(Keep.upd (Keep.upd (Keep.upd (Keep.updO (Keep.upd (Keep.upd (Keep.upd (Keep.upd (Keep.upd (Keep.upd (Keep.upd (Keep.upd (Keep.upd (Keep.upd (Keep.hav (Keep.hav (Keep.refl _ _) rfl) rfl) rfl) rfl) rfl) rfl) rfl) rfl) rfl) rfl) rfl) rfl) rfl) rfl) rfl) rfl), (i + 1, (doL (codeOf p) inp x L).1), _, (by (repeat (first | exact trivial | refine ⟨rfl, ?_⟩ | refine ⟨Eq.trans rfl (congrArg Value.bool hmat.symm), ?_⟩)); (first | done | fail)), ?_, ⟨hs3.trans hs4, hlt, hok2.le (by show _ ≤ 3000 * (i + 1); omega), gn3, by show gn3 ≤ ((3000 * (i + 1) : Nat) : Int); omega, hL3'⟩, (by simp only; omega)⟩
          · exact zE
        obtain rfl : i = l.length := by omega
        have hok1 := hok.wake
        have hdoa := do_l σ3 gx db pb pc cc (sizes p.vars).toNat p inp L gn (3000 * l.length) ⟨2, 0, 0, ma⟩ _ (show (0 : Int) < 9223372036854775808 by decide) ha0 ha1 hc3 hL2' hok (by omega) hgn
        rw [doL_crash] at hdoa
        have hcl1 := hok1.mach.cells
        refine XA.exit ?_
        refine DA.thn_exit ?_
        refine DA.thn_exit ?_
        refine DA.inb_same ?_
        refine zT ?_; refine zS ?_; refine zR ?_; refine zO rfl Rd.mv ?_; refine zO rfl (Rd.nilCheck rfl) ?_; refine zO rfl (Rd.fA rfl) ?_; refine zO rfl (Rd.ldC rfl (tyrow rfl) rfl) ?_; refine zO rfl (Rd.nilCheck rfl) ?_; refine zO rfl (Rd.fA rfl) ?_; refine zO rfl (Rd.ldC rfl (tyrow rfl) rfl) ?_; refine zO rfl (Rd.nilCheck rfl) ?_
        refine zO rfl (Rd.fA rfl) ?_
        refine zO rfl (Rd.ldC rfl (tyrow rfl) rfl (AtC.wld (by ((repeat (first | with_reducible exact Sel.head | apply Sel.tail)); (first | done | fail))))) ?_
        refine XOA.wr0 rfl (WrA.cE (gen_w σ3 mb2 sb2 db d2 s2 L.M) rfl) ?_
        rintro _ _ _ ⟨_, ⟨rfl, rfl, rfl⟩, rfl⟩
        refine XOA.cl ?_
        rw [hsg2]
        refine zO rfl Rd.asg ?_; refine zN ?_; refine zT ?_; refine zS ?_; refine zR ?_; refine zO rfl Rd.mv ?_; refine zO rfl Rd.mv ?_
        refine zO rfl (Rd.bl (fun _ _ => tyrow) rfl rfl rfl) ?_
        refine XOA.wr0 rfl (WrA.cE (hdoa) rfl) ?_
        rintro _ σ4 _ ⟨Γ3, ⟨rfl, hs4, gn3, hg3, hge, hL3⟩, rfl⟩
        refine XOA.cl ?_
        obtain rfl : gn3 = gn := hge rfl
        obtain ⟨g3, mb3, sb3, d3, s3, pi3, ci3, pj3, cj3, hQ3, hsg3, hG3, hi3, hj3, rfl⟩ := hL3
        dsimp only [List.append, List.cons_append, List.nil_append]
        have hnow := fun σ => nowe_l σ gx db pb pc cc (sizes p.vars).toNat p inp (wakeL L) (3000 * l.length) g3 mb3 sb3 d3 s3 pi3 ci3 pj3 cj3 hok1 (by omega) hcl1.symm
        have hall := fun σ => all_w σ mb3 sb3 db d3 s3 (wakeL L).M
        have hdob := fun σ5 (h : σ4.sub σ5) => do_l σ5 gx db pb pc cc (sizes p.vars).toNat p inp (wakeL L) gn3 (3000 * l.length) ⟨2, 0, 0, mb0⟩ [blk gx [ptr g3, ptr db, ptr pb, .slice pc (codeOf p).length cc, .slice pj3 inp.length cj3, i64 (sizes p.vars).toNat] 76, blk g3 [ptr mb3, .slice pc (codeOf p).length cc, .slice pi3 inp.length ci3, ptr pb, i64 0, .bool false] 64, Wld mb3 sb3 db d3 s3 (wakeL L).M, Prin pb (wakeL L).b.out (wakeL L).b.wrong] (show (0 : Int) < 9223372036854775808 by decide) hb0 hb1 (hc3.mono (hs4.trans h) (fun _ _ h => h)) ⟨g3, mb3, sb3, d3, s3, pi3, ci3, pj3, cj3, hQ3, hsg3, hG3, hi3.mono h, hj3.mono h, rfl⟩ hok1 (by omega) hgn
        rw [doL_crash, wake_wake] at hdob
        refine zN ?_; refine zT ?_; refine zS ?_
        refine XA.join [(15, 16), (58, 67)] (fun y : Nat × (Value × ((Option Addr × Nat) × (Option Addr × Nat))) => [(15, ptr y.1), (16, y.2.1)]) (fun y σ' Γ' => σ4.sub σ' ∧ PInts σ' (.slice y.2.2.1.1 (wakeL L).b.out.length y.2.2.1.2) (wakeL L).b.out ∧ PInts σ' (.slice y.2.2.2.1 (sizes p.vars).toNat y.2.2.2.2) (wakeL L).b.m.cells ∧ PInts σ' y.2.1 (wakeL L).M.C.flatten ∧ Γ' = [blk y.1 [i64 (nowC (wakeL L).b), .slice y.2.2.1.1 (wakeL L).b.out.length y.2.2.1.2, .slice y.2.2.2.1 (sizes p.vars).toNat y.2.2.2.2] 46, blk gx [ptr g3, ptr db, ptr pb, .slice pc (codeOf p).length cc, .slice pj3 inp.length cj3, i64 (sizes p.vars).toNat] 76, blk g3 [ptr mb3, .slice pc (codeOf p).length cc, .slice pi3 inp.length ci3, ptr pb, i64 0, .bool false] 64, Wld mb3 sb3 db d3 s3 (wakeL L).M, Prin pb (wakeL L).b.out (wakeL L).b.wrong]) ?_ ?_
        · skip
          refine XA.drawQ (by kernel_rfl) _ _ [11, 12] 13 #[false, false, false, false, false, false, false, false, false, false, false, false, false] rfl rfl (by kernel_rfl) (PH.sub.refl _) (Ent.sel (R := blk gx _ _) (by ((repeat (first | with_reducible exact Sel.head | apply Sel.tail)); (first | done | fail))) (Ent.sel (R := blk g3 _ _) (by ((repeat (first | with_reducible exact Sel.head | apply Sel.tail)); (first | done | fail))) (Ent.nil _))) ?_
          refine XQA.pu (i := 0) (listed' := #[true, false, false, false, false, false, false, false, false, false, false, false, false]) rfl rfl (by kernel_rfl) rfl Gd.free Rd.mv ?_
          refine XQA.pu (i := 2) (listed' := #[true, false, true, false, false, false, false, false, false, false, false, false, false]) rfl rfl (by kernel_rfl) rfl Gd.free Rd.mv ?_
          refine XQA.pu (i := 3) (listed' := #[true, false, true, true, false, false, false, false, false, false, false, false, false]) rfl rfl (by kernel_rfl) rfl Gd.free (Rd.nilCheck rfl) ?_
          refine XQA.pu (i := 4) (listed' := #[true, false, true, true, true, false, false, false, false, false, false, false, false]) rfl rfl (by kernel_rfl) rfl Gd.free (Rd.fA rfl) ?_
          refine XQA.rd (i := 5) (listed' := #[true, false, true, true, true, true, false, false, false, false, false, false, false]) rfl rfl (by kernel_rfl) rfl Gd.free (Rd.ldC rfl (tyrow rfl) rfl) ?_
          refine XQA.pu (i := 6) (listed' := #[true, false, true, true, true, true, true, false, false, false, false, false, false]) rfl rfl (by kernel_rfl) rfl Gd.free (Rd.nilCheck rfl) ?_
          refine XQA.pu (i := 7) (listed' := #[true, false, true, true, true, true, true, true, false, false, false, false, false]) rfl rfl (by kernel_rfl) rfl Gd.free (Rd.fA rfl) ?_
          refine XQA.rd (i := 8) (listed' := #[true, false, true, true, true, true, true, true, true, false, false, false, false]) rfl rfl (by kernel_rfl) rfl Gd.free (Rd.ldC rfl (tyrow rfl) rfl) ?_
          refine XQA.w2 (i := 1) (j := 10) (by kernel_rfl) ?_ ?_
          · refine XQA1.wr0 (listed' := #[true, true, true, true, true, true, true, true, true, false, false, false, false]) rfl rfl Gd.free (by kernel_rfl) rfl (WrA.cE (hnow _) rfl) ?_
            rintro _ σN _ ⟨_, ⟨po, co, pv2, cv2, rfl, hvo, hvc, hsN, rfl⟩, rfl⟩
            refine ⟨⟨(by first | exact PH.sub.refl _ | assumption | (refine PH.sub.trans ?_ (by assumption); assumption)), zE⟩, XQA.re (by conv => lhs; dsimp only [List.cons_append, List.nil_append]) ?_⟩
            refine XQA.w2 (i := 9) (j := 10) (by kernel_rfl) ?_ ?_
            · refine XQA1.wr0 (listed' := #[true, true, true, true, true, true, true, true, true, true, false, false, false]) rfl rfl Gd.free (by kernel_rfl) rfl (WrA.cE (hall _) rfl) ?_
              rintro va σA _ ⟨_, ⟨hva, hsA, rfl⟩, rfl⟩
              refine ⟨⟨(by first | exact PH.sub.refl _ | assumption | (refine PH.sub.trans ?_ (by assumption); assumption)), zE⟩, XQA.re (by conv => lhs; dsimp only [List.cons_append, List.nil_append]) ?_⟩
              refine XQA.w1 (i := 10) (by kernel_rfl) ?_
              refine XQA1.wr0 (listed' := #[true, true, true, true, true, true, true, true, true, true, true, false, false]) rfl rfl Gd.free (by kernel_rfl) rfl (WrA.alloc (tyrow rfl)) ?_
              rintro _ _ _ ⟨g15, rfl, rfl, rfl⟩
              refine ⟨⟨(by first | exact PH.sub.refl _ | assumption | (refine PH.sub.trans ?_ (by assumption); assumption)), zE⟩, XQA.re (by conv => lhs; dsimp only [List.cons_append, List.nil_append]) ?_⟩
              refine XQA.w1 (i := 11) (by kernel_rfl) ?_
              refine XQA1.wrZ0 (listed' := #[true, true, true, true, true, true, true, true, true, true, true, true, false]) rfl rfl Gd.free (by kernel_rfl) rfl (by kernel_rfl) (WrA.st (tyrow rfl) rfl) ?_
              rintro _ _ _ ⟨rfl, rfl, rfl⟩
              refine XQA.re (by conv => lhs; dsimp only [List.cons_append, List.nil_append]) ?_
              refine XQA.pu (i := 12) (listed' := #[true, true, true, true, true, true, true, true, true, true, true, true, true]) rfl rfl (by kernel_rfl) rfl Gd.free Rd.asg ?_
              refine XQA.nil rfl ?_
              first | (refine DA.thn_normal ⟨(by (repeat (first | exact Keep.refl _ _ | refine Keep.upd ?_ rfl | refine Keep.updO ?_ rfl | refine Keep.updN ?_)); (first | done | fail)), (g15, (va, ((po, co), (pv2, cv2)))), _, (by (repeat (first | exact trivial | refine ⟨rfl, ?_⟩ | refine ⟨Eq.trans rfl (congrArg Value.bool hmat.symm), ?_⟩)); (first | done | fail)), ?_, hsN.trans hsA, hvo.mono hsA, hvc.mono hsA, hva, rfl⟩; exact zE) | (refine DA.thn_normal ⟨(by (repeat (first | exact Keep.refl _ _ | refine Keep.upd ?_ rfl | refine Keep.updO ?_ rfl | refine Keep.updN ?_)); (first | done | fail)), (g15, (va, ((po, co), (pv2, cv2)))), _, (by (repeat (first | exact trivial | refine ⟨rfl, ?_⟩ | refine ⟨Eq.trans rfl (congrArg Value.bool hmat.symm), ?_⟩)); (first | done | fail)), ?_, hsA.trans hsN, hvo, hvc, hva.mono hsN, rfl⟩; exact zE)
            · refine XQA1.wr0 (listed' := #[true, true, true, true, true, true, true, true, true, false, true, false, false]) rfl rfl Gd.free (by kernel_rfl) rfl (WrA.alloc (tyrow rfl)) ?_
              rintro _ _ _ ⟨g15, rfl, rfl, rfl⟩
              refine ⟨⟨(by first | exact PH.sub.refl _ | assumption | (refine PH.sub.trans ?_ (by assumption); assumption)), zE⟩, XQA.re (by conv => lhs; dsimp only [List.cons_append, List.nil_append]) ?_⟩
              refine XQA.w1 (i := 9) (by kernel_rfl) ?_
              refine XQA1.wr0 (listed' := #[true, true, true, true, true, true, true, true, true, true, true, false, false]) rfl rfl Gd.free (by kernel_rfl) rfl (WrA.cE (hall _) rfl) ?_
              rintro va σA _ ⟨_, ⟨hva, hsA, rfl⟩, rfl⟩
              refine ⟨⟨(by first | exact PH.sub.refl _ | assumption | (refine PH.sub.trans ?_ (by assumption); assumption)), zE⟩, XQA.re (by conv => lhs; dsimp only [List.cons_append, List.nil_append]) ?_⟩
              refine XQA.w1 (i := 11) (by kernel_rfl) ?_
              refine XQA1.wrZ0 (listed' := #[true, true, true, true, true, true, true, true, true, true, true, true, false]) rfl rfl Gd.free (by kernel_rfl) rfl (by kernel_rfl) (WrA.st (tyrow rfl) rfl) ?_
              rintro _ _ _ ⟨rfl, rfl, rfl⟩
              refine XQA.re (by conv => lhs; dsimp only [List.cons_append, List.nil_append]) ?_
              refine XQA.pu (i := 12) (listed' := #[true, true, true, true, true, true, true, true, true, true, true, true, true]) rfl rfl (by kernel_rfl) rfl Gd.free Rd.asg ?_
              refine XQA.nil rfl ?_
              first | (refine DA.thn_normal ⟨(by (repeat (first | exact Keep.refl _ _ | refine Keep.upd ?_ rfl | refine Keep.updO ?_ rfl | refine Keep.updN ?_)); (first | done | fail)), (g15, (va, ((po, co), (pv2, cv2)))), _, (by (repeat (first | exact trivial | refine ⟨rfl, ?_⟩ | refine ⟨Eq.trans rfl (congrArg Value.bool hmat.symm), ?_⟩)); (first | done | fail)), ?_, hsN.trans hsA, hvo.mono hsA, hvc.mono hsA, hva, rfl⟩; exact zE) | (refine DA.thn_normal ⟨(by (repeat (first | exact Keep.refl _ _ | refine Keep.upd ?_ rfl | refine Keep.updO ?_ rfl | refine Keep.updN ?_)); (first | done | fail)), (g15, (va, ((po, co), (pv2, cv2)))), _, (by (repeat (first | exact trivial | refine ⟨rfl, ?_⟩ | refine ⟨Eq.trans rfl (congrArg Value.bool hmat.symm), ?_⟩)); (first | done | fail)), ?_, hsA.trans hsN, hvo, hvc, hva.mono hsN, rfl⟩; exact zE)
          · refine XQA1.wr0 (listed' := #[true, false, true, true, true, true, true, true, true, false, true, false, false]) rfl rfl Gd.free (by kernel_rfl) rfl (WrA.alloc (tyrow rfl)) ?_
            rintro _ _ _ ⟨g15, rfl, rfl, rfl⟩
            refine ⟨⟨(by first | exact PH.sub.refl _ | assumption | (refine PH.sub.trans ?_ (by assumption); assumption)), zE⟩, XQA.re (by conv => lhs; dsimp only [List.cons_append, List.nil_append]) ?_⟩
            refine XQA.w1 (i := 1) (by kernel_rfl) ?_
            refine XQA1.wr0 (listed' := #[true, true, true, true, true, true, true, true, true, false, true, false, false]) rfl rfl Gd.free (by kernel_rfl) rfl (WrA.cE (hnow _) rfl) ?_
            rintro _ σN _ ⟨_, ⟨po, co, pv2, cv2, rfl, hvo, hvc, hsN, rfl⟩, rfl⟩
            refine ⟨⟨(by first | exact PH.sub.refl _ | assumption | (refine PH.sub.trans ?_ (by assumption); assumption)), zE⟩, XQA.re (by conv => lhs; dsimp only [List.cons_append, List.nil_append]) ?_⟩
            refine XQA.w1 (i := 9) (by kernel_rfl) ?_
            refine XQA1.wr0 (listed' := #[true, true, true, true, true, true, true, true, true, true, true, false, false]) rfl rfl Gd.free (by kernel_rfl) rfl (WrA.cE (hall _) rfl) ?_
            rintro va σA _ ⟨_, ⟨hva, hsA, rfl⟩, rfl⟩
            refine ⟨⟨(by first | exact PH.sub.refl _ | assumption | (refine PH.sub.trans ?_ (by assumption); assumption)), zE⟩, XQA.re (by conv => lhs; dsimp only [List.cons_append, List.nil_append]) ?_⟩
            refine XQA.w1 (i := 11) (by kernel_rfl) ?_
            refine XQA1.wrZ0 (listed' := #[true, true, true, true, true, true, true, true, true, true, true, true, false]) rfl rfl Gd.free (by kernel_rfl) rfl (by kernel_rfl) (WrA.st (tyrow rfl) rfl) ?_
            rintro _ _ _ ⟨rfl, rfl, rfl⟩
            refine XQA.re (by conv => lhs; dsimp only [List.cons_append, List.nil_append]) ?_
            refine XQA.pu (i := 12) (listed' := #[true, true, true, true, true, true, true, true, true, true, true, true, true]) rfl rfl (by kernel_rfl) rfl Gd.free Rd.asg ?_
            refine XQA.nil rfl ?_
            first | (refine DA.thn_normal ⟨(by (repeat (first | exact Keep.refl _ _ | refine Keep.upd ?_ rfl | refine Keep.updO ?_ rfl | refine Keep.updN ?_)); (first | done | fail)), (g15, (va, ((po, co), (pv2, cv2)))), _, (by (repeat (first | exact trivial | refine ⟨rfl, ?_⟩ | refine ⟨Eq.trans rfl (congrArg Value.bool hmat.symm), ?_⟩)); (first | done | fail)), ?_, hsN.trans hsA, hvo.mono hsA, hvc.mono hsA, hva, rfl⟩; exact zE) | (refine DA.thn_normal ⟨(by (repeat (first | exact Keep.refl _ _ | refine Keep.upd ?_ rfl | refine Keep.updO ?_ rfl | refine Keep.updN ?_)); (first | done | fail)), (g15, (va, ((po, co), (pv2, cv2)))), _, (by (repeat (first | exact trivial | refine ⟨rfl, ?_⟩ | refine ⟨Eq.trans rfl (congrArg Value.bool hmat.symm), ?_⟩)); (first | done | fail)), ?_, hsA.trans hsN, hvo, hvc, hva.mono hsN, rfl⟩; exact zE)
        rintro ⟨g15, va, ⟨po, co⟩, pv2, cv2⟩ δ2 σ5 _ ⟨hs5, hvo, hvc, hva, rfl⟩
        dsimp only [ovr, List.foldl]
        refine zT ?_
        simp only at hvo hvc hva
        refine zS ?_; refine zR ?_; refine zO rfl Rd.mv ?_; refine zO rfl Rd.mv ?_
        refine zO rfl (Rd.bl (fun _ _ => tyrow) rfl rfl rfl) ?_
        refine XOA.wr0 rfl (WrA.cE (hdob σ5 hs5) rfl) ?_
        rintro _ σ6 _ ⟨Γ4, ⟨rfl, hs6, gn4, hg4, hge4, hL4⟩, rfl⟩
        refine XOA.cl ?_
        obtain rfl : gn4 = gn3 := hge4 rfl
        obtain ⟨g4, mb4, sb4, d4, s4, pi4, ci4, pj4, cj4, hQ4, hsg4, hG4, hi4, hj4, rfl⟩ := hL4
        dsimp only [List.append, List.cons_append, List.nil_append]
        refine zN ?_; refine zT ?_; refine zS ?_
        refine XA.draw (by kernel_rfl) _ _ [] [(0, .rd), (1, .pu), (2, .wr), (3, .wr), (4, .pu), (5, .pu), (6, .pu), (7, .pu), (8, .pu), (9, .rd), (10, .pu), (11, .pu), (12, .rd), (13, .wr), (14, .wr), (15, .pu), (16, .pu), (17, .pu), (18, .pu), (19, .pu), (20, .pu), (21, .rd), (22, .pu), (23, .pu), (24, .rd), (25, .pu), (26, .pu), (27, .rd), (28, .wr), (29, .pu), (30, .pu), (31, .pu)] (by kernel_rfl) (PH.sub.refl _) (Ent.sel (R := blk g15 _ _) (by ((repeat (first | with_reducible exact Sel.head | apply Sel.tail)); (first | done | fail))) (Ent.sel (R := blk gx _ _) (by ((repeat (first | with_reducible exact Sel.head | apply Sel.tail)); (first | done | fail))) (Ent.sel (R := blk g4 _ _) (by ((repeat (first | with_reducible exact Sel.head | apply Sel.tail)); (first | done | fail))) (Ent.sel (R := Wld mb4 sb4 db d4 s4 _) (by ((repeat (first | with_reducible exact Sel.head | apply Sel.tail)); (first | done | fail))) (Ent.nil _))))) ?_
        refine XPA.rd rfl rfl Gd.free (Rd.ldA rfl) ?_
        refine XPA.pu rfl rfl Gd.free Rd.mv ?_
        refine XPA.wr0 rfl rfl Gd.free (WrA.cE (nowe_l σ6 gx db pb pc cc (sizes p.vars).toNat p inp (wakeL L) (3000 * l.length) g4 mb4 sb4 d4 s4 pi4 ci4 pj4 cj4 hok1 (by omega) hcl1.symm) rfl) ?_
        rintro _ σ7 _ ⟨_, ⟨po2, co2, pv3, cv3, rfl, hvo2, hvc2, hs7, rfl⟩, rfl⟩
        refine stays (XPA.cl ?_)
        refine XPA.wr0 rfl rfl Gd.free (WrA.cE (sresult_a σ7 _ _ _ _ _ (wakeL L).b.out (wakeL L).b.m.cells (hvo.mono (hs6.trans hs7)) (hvc.mono (hs6.trans hs7)) hvo2 hvc2) rfl) ?_
        rintro _ _ _ ⟨_, ⟨rfl, rfl, rfl⟩, rfl⟩
        refine stays (XPA.cl ?_)
        refine XPA.pu rfl rfl Gd.free Rd.mv ?_
        first | refine XPA.puG rfl rfl Rd.mv ?_ | refine XPA.puOffG rfl rfl ?_
        first | refine XPA.puG rfl rfl Rd.mv ?_ | refine XPA.puOffG rfl rfl ?_
        first | refine XPA.puG rfl rfl (Rd.nilCheck rfl) ?_ | refine XPA.puOffG rfl rfl ?_
        first | refine XPA.puG rfl rfl (Rd.fA rfl) ?_ | refine XPA.puOffG rfl rfl ?_
        first | refine XPA.rdG rfl rfl (Rd.ldC rfl (tyrow rfl) rfl) ?_ | refine XPA.offG rfl rfl ?_
        first | refine XPA.puG rfl rfl (Rd.nilCheck rfl) ?_ | refine XPA.puOffG rfl rfl ?_
        first | refine XPA.puG rfl rfl (Rd.fA rfl) ?_ | refine XPA.puOffG rfl rfl ?_
        first | refine XPA.rdG rfl rfl (Rd.ldC rfl (tyrow rfl) rfl) ?_ | refine XPA.offG rfl rfl ?_
        refine XPA.wr0 rfl rfl (by first | exact Gd.free | exact Gd.isB rfl rfl rfl | (apply Gd.isQ; rfl; rfl; exact (by first | exact (rfl : decide _ = true) | exact (rfl : decide _ = false) | (refine decide_eq_true ?_; assumption) | (refine decide_eq_false ?_; assumption) | (refine decide_eq_true ?_; omega) | (refine decide_eq_false ?_; omega)); rfl)) (WrA.cE (all_w σ7 mb4 sb4 db d4 s4 (wakeL L).M) rfl) ?_
        rintro va2 σ8 _ ⟨_, ⟨hva2, hs8, rfl⟩, rfl⟩
        refine stays (XPA.cl ?_)
        refine XPA.wr0 rfl rfl (by first | exact Gd.free | exact Gd.isB rfl rfl rfl | (apply Gd.isQ; rfl; rfl; exact (by first | exact (rfl : decide _ = true) | exact (rfl : decide _ = false) | (refine decide_eq_true ?_; assumption) | (refine decide_eq_false ?_; assumption) | (refine decide_eq_true ?_; omega) | (refine decide_eq_false ?_; omega)); rfl)) (WrA.cE (slongs_a σ8 _ _ _ _ (hva.mono ((hs6.trans hs7).trans hs8)) hva2) rfl) ?_
        rintro _ _ _ ⟨_, ⟨rfl, rfl, rfl⟩, rfl⟩
        refine stays (XPA.cl ?_)
        rw [show decide ((wakeL L).M.C.flatten = (wakeL L).M.C.flatten) = true from decide_eq_true rfl]
        refine XPA.pu rfl rfl Gd.free (by first | exact Rd.pT rfl | exact Rd.pF rfl | exact Rd.pP rfl) ?_
        refine XPA.pu rfl rfl Gd.free Rd.mv ?_
        first | refine XPA.puG rfl rfl Rd.mv ?_ | refine XPA.puOffG rfl rfl ?_
        first | refine XPA.puG rfl rfl Rd.mv ?_ | refine XPA.puOffG rfl rfl ?_
        first | refine XPA.puG rfl rfl (Rd.nilCheck rfl) ?_ | refine XPA.puOffG rfl rfl ?_
        first | refine XPA.puG rfl rfl (Rd.fA rfl) ?_ | refine XPA.puOffG rfl rfl ?_
        first | refine XPA.rdG rfl rfl (Rd.ldC rfl (tyrow rfl) rfl) ?_ | refine XPA.offG rfl rfl ?_
        first | refine XPA.puG rfl rfl (Rd.nilCheck rfl) ?_ | refine XPA.puOffG rfl rfl ?_
        first | refine XPA.puG rfl rfl (Rd.fA rfl) ?_ | refine XPA.puOffG rfl rfl ?_
        first | refine XPA.rdG rfl rfl (Rd.ldC rfl (tyrow rfl) rfl) ?_ | refine XPA.offG rfl rfl ?_
        first | refine XPA.puG rfl rfl (Rd.nilCheck rfl) ?_ | refine XPA.puOffG rfl rfl ?_
        first | refine XPA.puG rfl rfl (Rd.fA rfl) ?_ | refine XPA.puOffG rfl rfl ?_
        refine XPA.rd rfl rfl (by first | exact Gd.free | exact Gd.isB rfl rfl rfl | (apply Gd.isQ; rfl; rfl; exact (by first | exact (rfl : decide _ = true) | exact (rfl : decide _ = false) | (refine decide_eq_true ?_; assumption) | (refine decide_eq_false ?_; assumption) | (refine decide_eq_true ?_; omega) | (refine decide_eq_false ?_; omega)); rfl)) (Rd.ldC rfl (tyrow rfl) rfl (AtC.wld (by ((repeat (first | with_reducible exact Sel.head | apply Sel.tail)); (first | done | fail))))) ?_
        refine XPA.wr0 rfl rfl (by first | exact Gd.free | exact Gd.isB rfl rfl rfl | (apply Gd.isQ; rfl; rfl; exact (by first | exact (rfl : decide _ = true) | exact (rfl : decide _ = false) | (refine decide_eq_true ?_; assumption) | (refine decide_eq_false ?_; assumption) | (refine decide_eq_true ?_; omega) | (refine decide_eq_false ?_; omega)); rfl)) (WrA.cE (gen_w σ8 mb4 sb4 db d4 s4 (wakeL L).M) rfl) ?_
        rintro _ _ _ ⟨_, ⟨rfl, rfl, rfl⟩, rfl⟩
        refine stays (XPA.cl ?_)
        rw [hsg4]
        first | refine XPA.puG rfl rfl (Rd.eql rfl rfl) ?_ | refine XPA.puOffG rfl rfl ?_
        refine XPA.pu rfl rfl Gd.free (by first | exact Rd.pT rfl | exact Rd.pF rfl | exact Rd.pP rfl) ?_
        refine XPA.pu rfl rfl Gd.free Rd.asg ?_
        refine XPA.nil ?_
        refine zT ?_
        refine XA.ret ?_
        exact bodyA.ret (ResA.one rfl rfl) (Ent.nil _) ⟨congrArg Value.bool (decide_eq_true rfl), (((((((hs1.trans hs2).trans hs3).trans hs4).trans hs5).trans hs6).trans hs7).trans hs8)⟩
      · have hnew := newl_long σ1 _ p _ inp hp1 hi1 (by omega) hc (by omega)
        refine zN ?_; refine zT ?_
        refine XA.condF rfl rfl ?_
        refine XA.skip ?_
        refine zT ?_; refine zS ?_; refine zR ?_; refine zO rfl (Rd.ldA rfl) ?_; refine zO rfl Rd.mv ?_
        refine XOA.wr0 rfl (WrA.cE (hnew) rfl) ?_
        rintro _ σ2 _ ⟨_, ⟨rfl, hs2, rfl⟩, rfl⟩
        refine XOA.cl ?_
        refine zO rfl Rd.mv ?_
        refine zO rfl (Rd.extract rfl rfl) ?_
        refine zO rfl (Rd.extract rfl rfl) ?_
        refine zO rfl Rd.asg ?_; refine zO rfl Rd.asg ?_; refine zN ?_; refine zT ?_; refine zS ?_; refine zS ?_; refine zR ?_; refine zO rfl Rd.mv ?_
        refine zO rfl (Rd.neq rfl rfl) ?_
        refine zN ?_; refine zT ?_
        refine XA.condT rfl rfl ?_
        refine zS ?_; refine zR ?_; refine zO rfl Rd.asg ?_; refine zN ?_; refine zT ?_
        refine XA.ret ?_
        refine DA.thn_ret ?_
        exact bodyA.ret (ResA.one rfl rfl) (Ent.nil _) ⟨rfl, hs1.trans hs2⟩
    · have hnew := newl_bad σ1 _ p _ inp hp1 hi1 (by omega) hc
      refine zN ?_; refine zT ?_
      refine XA.condF rfl rfl ?_
      refine XA.skip ?_
      refine zT ?_; refine zS ?_; refine zR ?_; refine zO rfl (Rd.ldA rfl) ?_; refine zO rfl Rd.mv ?_
      refine XOA.wr0 rfl (WrA.cE (hnew) rfl) ?_
      rintro _ σ2 _ ⟨_, ⟨rfl, hs2, rfl⟩, rfl⟩
      refine XOA.cl ?_
      refine zO rfl Rd.mv ?_
      refine zO rfl (Rd.extract rfl rfl) ?_
      refine zO rfl (Rd.extract rfl rfl) ?_
      refine zO rfl Rd.asg ?_; refine zO rfl Rd.asg ?_; refine zN ?_; refine zT ?_; refine zS ?_; refine zS ?_; refine zR ?_; refine zO rfl Rd.mv ?_
      refine zO rfl (Rd.neq rfl rfl) ?_
      refine zN ?_; refine zT ?_
      refine XA.condT rfl (decide_eq_true hc) ?_
      refine zS ?_; refine zR ?_; refine zO rfl Rd.asg ?_; refine zN ?_; refine zT ?_
      refine XA.ret ?_
      refine DA.thn_ret ?_
      exact bodyA.ret (ResA.one rfl rfl) (Ent.nil _) ⟨rfl, hs1.trans hs2⟩
end Go.Proofs.Ytmnmcjdgnpgchaa

namespace Go.Proofs.Ytmnmcjdgnpgchaa
open Go X Go.ChangeShapes Go.WideShapes Go.ChangeAt Go.RowKit
theorem trodAll_five {H : Type} {enc : TypeId × Value → H} {P : Program} {w : World} {base : Nat} {spare : Nat → Bool} {held : Bool} {t t1 t2 t3 t4 : TypeId} {args : Array Value} {ds : List (DataW H)} {ps : List MemPlace} (h : DataW.TrodAll enc P w base spare held [t, t1, t2, t3, t4] args.toList ds ps) :
    ∃ v v1 v2 v3 v4 d d1 d2 d3 d4 p p1 p2 p3 p4, args = #[v, v1, v2, v3, v4] ∧ ds = [d, d1, d2, d3, d4] ∧ ps = p ++ p1 ++ p2 ++ p3 ++ p4 ∧ DataW.Trod enc P w base spare held t v d p ∧ DataW.Trod enc P w base spare held t1 v1 d1 p1 ∧ DataW.Trod enc P w base spare held t2 v2 d2 p2 ∧ DataW.Trod enc P w base spare held t3 v3 d3 p3 ∧ DataW.Trod enc P w base spare held t4 v4 d4 p4 := by
  obtain ⟨v, vs, d, ds', p, q, hargs, rfl, rfl, hd, hr⟩ := trodAll_cons h
  obtain ⟨v1, vs1, d1, ds1, p1, q1, rfl, rfl, rfl, hd1, hr1⟩ := trodAll_cons hr
  obtain ⟨v2, vs2, d2, ds2, p2, q2, rfl, rfl, rfl, hd2, hr2⟩ := trodAll_cons hr1
  obtain ⟨v3, vs3, d3, ds3, p3, q3, rfl, rfl, rfl, hd3, hr3⟩ := trodAll_cons hr2
  obtain ⟨v4, vs4, d4, ds4, p4, q4, rfl, rfl, rfl, hd4, hr4⟩ := trodAll_cons hr3
  obtain ⟨rfl, rfl, rfl⟩ := trodAll_nil hr4
  exact ⟨v, v1, v2, v3, v4, d, d1, d2, d3, d4, p, p1, p2, p3, p4, by cases args; simp_all, rfl, by simp, hd, hd1, hd2, hd3, hd4⟩
theorem lst4p {α : Type} : ∀ {l : List α}, l.length = 4 → ∃ a b c d, l = [a, b, c, d]
  | [a, b, c, d], _ => ⟨a, b, c, d, rfl⟩
theorem dec_lstp : Dec Try.prog 74 rLStp := ⟨fun {H enc w fuel cs x} h => by
  obtain ⟨hl, hx⟩ := trod_fields (tyrow rfl) rfl h
  obtain ⟨f0, y0, h0⟩ := hx (3, 0) (by simp)
  obtain ⟨f1, y1, h1⟩ := hx (3, 1) (by simp)
  obtain ⟨f2, y2, h2⟩ := hx (3, 2) (by simp)
  obtain ⟨f3, y3, h3⟩ := hx (66, 3) (by simp)
  obtain ⟨a0, p0, -⟩ := (Dec.int (tyrow rfl) rfl).out h0
  obtain ⟨a1, p1, -⟩ := (Dec.int (tyrow rfl) rfl).out h1
  obtain ⟨a2, p2, q2⟩ := (Dec.int (tyrow rfl) rfl).out h2
  obtain ⟨a3, p3, q3⟩ := (Dec.int (tyrow rfl) rfl).out h3
  rw [cellsOf_ty' (tyrow rfl)] at p0 p1 p2 p3
  have hcs : cs.length = 4 := hl
  obtain ⟨c0, c1, c2, c3, rfl⟩ := lst4p hcs
  simp only [List.drop_zero, List.drop_succ_cons] at p0 p1 p2 p3
  have e0 : c0 = i64 a0 := by have := congrArg (·[0]?) p0; simpa using this
  have e1 : c1 = i64 a1 := by have := congrArg (·[0]?) p1; simpa using this
  have e2 : c2 = i64 a2 := by have := congrArg (·[0]?) p2; simpa using this
  have e3 : c3 = .int .u64 a3 := by have := congrArg (·[0]?) p3; simpa using this
  subst e0 e1 e2 e3
  exact ⟨⟨a0, a1, a2, a3⟩, rfl, Int.lt_of_le_of_lt q2.2 (by decide), q3.1, Int.lt_of_le_of_lt q3.2 (by decide)⟩⟩
end Go.Proofs.Ytmnmcjdgnpgchaa

namespace Go.Proofs.Ytmnmcjdgnpgchaa
open Go X Go.ChangeShapes Go.WideShapes Go.ChangeAt Go.RowKit
set_option maxRecDepth 100000 in
theorem lifeAgain_lifted (os : Os) (started : os.Started) (H : Type) (enc : TypeId × Value → H) :
    ReturnsInHanded {} Try.checked os 10 .any (Rows.lifeAgainSpec.pre6 enc Try.prog Try.f10 Rows.lifeAgainRow.domain false) (Rows.lifeAgainSpec.post enc Try.prog Try.f10 false true false false) := by
  refine returnsInHanded_of_change (C := Try.checked) Try.own started (by kernel_rfl) Try.func10
    (ChangeSpec.witness6 (enc := enc) (C := Try.checked) false ⟨#[], #[.agg #[.slice none 0 0, .slice none 0 0], .slice none 0 0, .slice none 0 0, .int .u64 0, .int .u64 0], []⟩ 8 (by kernel_rfl) (by kernel_rfl) (by kernel_rfl) (by kernel_rfl)) ?_
  intro W base args ds gs before hval0 hW hcnd _
  have hval : ∀ (j : Nat) t v, Try.f10.params[j]? = some t → args[j]? = some v → Value.okWide Try.prog W .any base t v := hval0
  have hW' := hW
  obtain ⟨p, q, hA0, hV, rfl, hfz, hnd⟩ := hW
  have hA : DataW.TrodAll enc Try.prog W 0 (fun _ => true) true [25, 26, 65, 66, 66] args.toList ds p := hA0
  obtain ⟨v0, v1, v2, v3, v4, d0, d1, d2, d3, d4, p0, p1, p2, p3, p4, rfl, rfl, rfl, h0, h1, h2, h3, h4⟩ := trodAll_five hA
  have hb : Try.prog.underlying 4 = some .bool := by kernel_rfl
  refine post_true (fid := 10) (tb := 4) Try.laidOut (by kernel_rfl) rfl rfl hb ?_ hW' (callsX_true ?_)
  · obtain ⟨rfl, rfl⟩ := trodVars_none hV; rfl
  · obtain ⟨pr0, cs0, rfl, hp0⟩ := Dec.agg dec_pr (tyrow rfl) rfl (hval 0 _ v0 rfl rfl) h0
    obtain ⟨xs1, _, e1, hxs1⟩ := (Dec.slice (tyrow rfl) rfl (tyrow rfl) rfl (by decide) (Dec.int (tyrow rfl) rfl)).one (tyrow rfl) rfl (hval 1 _ v1 rfl rfl) h1 rSl_one
    simp only [List.cons.injEq, and_true] at e1
    subst e1
    obtain ⟨ms2, _, e2, hms2⟩ := (Dec.slice (tyrow rfl) rfl (tyrow rfl) rfl (by decide) dec_lstp).one (tyrow rfl) rfl (hval 2 _ v2 rfl rfl) h2 rSl_one
    simp only [List.cons.injEq, and_true] at e2
    subst e2
    obtain ⟨n3, e3, ln3, un3⟩ := (Dec.int (tyrow rfl) rfl).one (tyrow rfl) rfl (hval 3 _ v3 rfl rfl) h3 rInt_one
    simp only [List.cons.injEq, and_true] at e3
    subst e3
    obtain ⟨n4, e4, ln4, un4⟩ := (Dec.int (tyrow rfl) rfl).one (tyrow rfl) rfl (hval 4 _ v4 rfl rfl) h4 rInt_one
    simp only [List.cons.injEq, and_true] at e4
    subst e4
    exact again_law _ cs0 pr0 _ xs1 _ ms2 n3 n4 hp0 (pints_of hxs1) hms2 ln3 (Int.lt_of_le_of_lt un3 (by decide)) ln4 (Int.lt_of_le_of_lt un4 (by decide))
theorem lifeAgain_holds : Rows.LifeAgainSaid :=
  OpenClaim.holds_of_wide 10 Try.f10 rfl rfl rfl rfl rfl rfl rfl ⟨rfl, rfl, rfl, rfl, rfl⟩ rfl rfl rfl rfl rfl (by kernel_rfl) Try.func10 (by kernel_rfl)
    (of_decide_eq_true (by kernel_rfl)) (by unfold Func.isWrapper; first | (rw [if_pos (by decide +kernel)]; kernel_rfl) | (rw [if_neg (by decide +kernel)]; exact ⟨rfl, rfl⟩))
    (fun os started H enc _ => lifeAgain_lifted os started H enc)
end Go.Proofs.Ytmnmcjdgnpgchaa

