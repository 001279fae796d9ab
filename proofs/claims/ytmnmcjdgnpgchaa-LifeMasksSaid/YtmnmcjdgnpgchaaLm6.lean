/- The law LifeMasks holds: what is half written does not matter: for every program, every input, all steps, all masks and every number. Condition: none. -/
import Derived.Test.YtmnmcjdgnpgchaaLm5
namespace Go.Proofs.Ytmnmcjdgnpgchaa
open Go X
set_option maxHeartbeats 4000000
def stepsL : List LStp := [⟨3, 99, 2, 0⟩, ⟨1, 20, 0, 0⟩, ⟨2, 0, 0, 0⟩, ⟨3, 99, 1, 1⟩]
def codeLL : List In := [⟨2, 0, 0, 0⟩, ⟨1, 0, 0, 3⟩, ⟨7, 0, 0, 0⟩, ⟨13, 12, 0, 0⟩, ⟨2, 0, 0, 0⟩, ⟨1, 0, 0, 1⟩, ⟨4, 0, 0, 0⟩, ⟨9, 0, 0, 0⟩, ⟨2, 0, 0, 0⟩, ⟨11, 0, 0, 0⟩, ⟨15, 0, 0, 0⟩, ⟨14, 0, 0, 0⟩, ⟨16, 0, 0, 0⟩]
theorem checkL : checkP progL = 0 := by decide +kernel
theorem codeLe : codeOf progL = codeLL := by decide +kernel
theorem saysL : (lifeAll codeLL [] (stepsL ++ [⟨1, 99, 0, 0⟩]) (L0 1)).2 = 0 ∧ nowC (lifeAll codeLL [] (stepsL ++ [⟨1, 99, 0, 0⟩]) (L0 1)).1.b = 0 ∧ (lifeAll codeLL [] (stepsL ++ [⟨1, 99, 0, 0⟩]) (L0 1)).1.b.out = [1, 2, 3] ∧ (lifeAll codeLL [] (stepsL ++ [⟨1, 99, 0, 0⟩]) (L0 1)).1.b.m.cells = [3] := by
  refine ⟨?_, ?_, ?_, ?_⟩ <;> decide +kernel
set_option maxRecDepth 20000 in
theorem lifebegun_a (σ : PH) : CallsA Try.prog 34 #[] σ [] (RetA fun v σ' Γ' => v = .bool true ∧ σ.sub σ' ∧ Γ' = []) := by
  obtain ⟨q1, q2, q3, q4⟩ := saysL
  refine enterA0 Try.func34 rfl rfl rfl ?_
  refine zS ?_; refine zR ?_; refine zO rfl Rd.asg ?_; refine zN ?_; refine zT ?_; refine zS ?_; refine zR ?_
  refine zw rfl (WrA.cE (counter_a σ) rfl) ?_
  rintro _ σ1 _ ⟨_, ⟨cs, rfl, hp, hs1, rfl⟩, rfl⟩
  refine XOA.cl ?_
  have hp0 := hp
  obtain ⟨vs, bs, rfl, hv, hb⟩ := hp
  obtain ⟨pv, cv, rfl, -, -⟩ := hv.shape
  obtain ⟨pb0, cb, rfl, -, -⟩ := hb.shape
  refine zO rfl (Rd.bl (fun _ _ => tyrow) rfl rfl rfl) ?_
  refine zO rfl (Rd.bl (fun _ _ => tyrow) rfl rfl rfl) ?_
  refine zO rfl (Rd.bl (fun _ _ => tyrow) rfl rfl rfl) ?_
  refine zO rfl (Rd.bl (fun _ _ => tyrow) rfl rfl rfl) ?_
  refine zw rfl (WrA.bs (fun _ _ => tyrow) rfl rfl rfl rfl rfl) ?_
  rintro _ _ _ ⟨g9, rfl, rfl, rfl⟩
  refine XOA.frz (R := blk g9 _ 74) (by ((repeat (first | with_reducible exact Sel.head | apply Sel.tail)); (first | done | fail))) blk_frz blk_frz_mono ?_
  rintro σ2 ⟨⟩ hr9 hs2
  have hsl : PSl 4 rLStp σ2 (.slice (some ⟨g9, 0, none⟩) 4 4) stepsL := by
    have z : ∀ a b c d : Int, c < 9223372036854775808 → 0 ≤ d → d < 18446744073709551616 → rLStp σ2 [i64 a, i64 b, i64 c, .int .u64 d] ⟨a, b, c, d⟩ := fun a b c d h1 h2 h3 => ⟨rfl, h1, h2, h3⟩
    exact Rows_.psl (((((Rows_.nil 4 rLStp σ2).snoc rfl (z 3 99 2 0 (by decide) (by decide) (by decide))).snoc rfl (z 1 20 0 0 (by decide) (by decide) (by decide))).snoc rfl (z 2 0 0 0 (by decide) (by decide) (by decide))).snoc rfl (z 3 99 1 1 (by decide) (by decide) (by decide))) rfl ⟨Nat.le_refl _, by simp [maxLen], rfl, fun _ => ⟨g9, 0, rfl, hr9⟩⟩
  have hrun := runlife_a σ2 _ progL (.slice none 0 0) [] _ stepsL 99 (hp0.mono hs2) (PInts.nil _) hsl (by decide) (by decide +kernel) (by rw [codeLe]; decide) checkL (by decide)
  rw [codeLe, show (sizes progL.vars).toNat = 1 from rfl] at hrun
  refine zw rfl (WrA.cE (hrun) rfl) ?_
  rintro _ σ3 _ ⟨_, ⟨L, f, po, co, pv2, cv2, hall, rfl, hvo, hvc, hs3, rfl⟩, rfl⟩
  refine XOA.cl ?_
  rw [hall] at q1 q2 q3 q4
  dsimp only at q1 q2 q3 q4
  subst q1
  have eC : saysC L 0 = 0 := q2
  have eO : saysO L 0 = [1, 2, 3] := q3
  have eV : saysV L 0 = [3] := q4
  rw [eO] at hvo
  rw [eV] at hvc
  rw [eC, eO, eV]
  refine zO rfl Rd.mv ?_
  refine zO rfl (Rd.extract rfl rfl) ?_
  refine zO rfl (Rd.extract rfl rfl) ?_
  refine zw rfl (WrA.alloc (tyrow rfl)) ?_
  rintro _ _ _ ⟨g1, rfl, rfl, rfl⟩
  refine zw rfl (WrA.st (tyrow rfl) rfl) ?_
  rintro _ _ _ ⟨rfl, rfl, rfl⟩
  refine zO rfl Rd.asg ?_; refine zN ?_; refine zT ?_; refine zS ?_; refine zR ?_; refine zO rfl Rd.mv ?_; refine zO rfl (Rd.eql rfl rfl) ?_; refine zO rfl Rd.mv ?_
  first | ((first | refine zW ?_ | refine zQ ?_); refine zO rfl (Rd.fA rfl) ?_) | refine zU ?_ | refine zV ?_ | refine zZ ?_
  first | ((first | refine zW ?_ | refine zQ ?_); refine zO rfl (Rd.ldC rfl (tyrow rfl) rfl) ?_) | refine zU ?_ | refine zV ?_ | refine zZ ?_
  first | ((first | refine zW ?_ | refine zQ ?_); refine zO rfl (Rd.eql rfl rfl) ?_) | refine zU ?_ | refine zV ?_ | refine zZ ?_
  refine zO rfl (by first | exact Rd.pT rfl | exact Rd.pF rfl | exact Rd.pP rfl) ?_
  refine zO rfl Rd.mv ?_
  first | ((first | refine zW ?_ | refine zQ ?_); refine zO rfl (Rd.fA rfl) ?_) | refine zU ?_ | refine zV ?_ | refine zZ ?_
  first | ((first | refine zW ?_ | refine zQ ?_); refine zO rfl (Rd.ldC rfl (tyrow rfl) rfl) ?_) | refine zU ?_ | refine zV ?_ | refine zZ ?_
  first | refine XOA.wanted rfl rfl ?_ | refine XOA.wq rfl rfl ?_
  refine zw rfl (X.WrA.bs (fun _ _ => tyrow) rfl rfl rfl rfl rfl) ?_
  rintro _ _ _ ⟨g23, rfl, rfl, rfl⟩
  refine XOA.frz (R := blk g23 _ 2) (by ((repeat (first | with_reducible exact Sel.head | apply Sel.tail)); (first | done | fail))) blk_frz blk_frz_mono ?_
  rintro σ4 ⟨⟩ hr23 hs4
  have h123 : PInts σ4 (.slice (some ⟨g23, 0, none⟩) 3 3) [1, 2, 3] := ⟨_, _, rfl, Nat.le_refl _, by simp [maxLen], fun _ => ⟨g23, 0, rfl, hr23⟩⟩
  first | refine XOA.wanted rfl rfl ?_ | refine XOA.wq rfl rfl ?_
  refine zw rfl (WrA.cE (slongs_a σ4 _ _ _ _ (hvo.mono hs4) h123) rfl) ?_
  rintro _ _ _ ⟨_, ⟨rfl, rfl, rfl⟩, rfl⟩
  refine XOA.cl ?_
  rw [show decide (([1, 2, 3] : List Int) = [1, 2, 3]) = true from rfl]
  refine zO rfl (by first | exact Rd.pT rfl | exact Rd.pF rfl | exact Rd.pP rfl) ?_
  refine zO rfl Rd.mv ?_
  first | ((first | refine zW ?_ | refine zQ ?_); refine zO rfl (Rd.fA rfl) ?_) | refine zU ?_ | refine zV ?_ | refine zZ ?_
  first | ((first | refine zW ?_ | refine zQ ?_); refine zO rfl (Rd.ldC rfl (tyrow rfl) rfl) ?_) | refine zU ?_ | refine zV ?_ | refine zZ ?_
  first | refine XOA.wanted rfl rfl ?_ | refine XOA.wq rfl rfl ?_
  refine zw rfl (X.WrA.bs1 (tyrow rfl) rfl (tyrow rfl)) ?_
  rintro _ _ _ ⟨g29, rfl, rfl, rfl⟩
  refine XOA.frz (R := blk g29 _ 2) (by ((repeat (first | with_reducible exact Sel.head | apply Sel.tail)); (first | done | fail))) blk_frz blk_frz_mono ?_
  rintro σ5 ⟨⟩ hr29 hs5
  have h3 : PInts σ5 (.slice (some ⟨g29, 0, none⟩) 1 1) [3] := ⟨_, _, rfl, Nat.le_refl _, by simp [maxLen], fun _ => ⟨g29, 0, rfl, hr29⟩⟩
  first | refine XOA.wanted rfl rfl ?_ | refine XOA.wq rfl rfl ?_
  refine zw rfl (WrA.cE (slongs_a σ5 _ _ _ _ (hvc.mono (hs4.trans hs5)) h3) rfl) ?_
  rintro _ _ _ ⟨_, ⟨rfl, rfl, rfl⟩, rfl⟩
  refine XOA.cl ?_
  rw [show decide (([3] : List Int) = [3]) = true from rfl]
  refine zO rfl (by first | exact Rd.pT rfl | exact Rd.pF rfl | exact Rd.pP rfl) ?_
  refine zO rfl Rd.asg ?_; refine zN ?_; refine zT ?_
  refine XA.ret ?_
  exact bodyA.ret (ResA.one rfl rfl) (Ent.nil _) ⟨rfl, (((hs1.trans hs2).trans hs3).trans hs4).trans hs5, rfl⟩
set_option maxRecDepth 20000 in
theorem greatlife_a (σ : PH) (cs : List Value) (p : Pr) (iv : Value) (inp : List Int) (lv : Value) (l : List LStp) (hp : PrAt σ cs p) (hi : PInts σ iv inp) (hl : PSl 4 rLStp σ lv l) :
    CallsA Try.prog 35 #[.agg cs.toArray, iv, lv] σ [] (RetA fun v σ' Γ' => ∃ b, v = .bool b ∧ (b = false → Small p ∧ inp.length ≤ 100 ∧ l.length ≤ 60) ∧ σ = σ' ∧ Γ' = []) := by
  have hp0 := hp
  obtain ⟨vs, bs, rfl, hv, hb⟩ := hp
  obtain ⟨pv, cv, rfl, -, -⟩ := hv.shape
  obtain ⟨pb0, cb, rfl, -, -⟩ := hb.shape
  obtain ⟨pl, cl, rfl, hll, hlm⟩ := hl.shape
  obtain ⟨pi0, ci0, rfl, hil, him⟩ := hi.shape
  simp only [maxLen] at hlm him
  refine enterA3 Try.func35 rfl rfl rfl ?_
  refine zS ?_; refine zR ?_
  refine zw rfl WrA.bx ?_
  rintro _ _ _ ⟨g3, rfl, rfl, rfl⟩
  refine zO rfl Rd.asg ?_; refine zN ?_; refine zT ?_; refine zS ?_; refine zR ?_; refine zO rfl Rd.asg ?_; refine zN ?_; refine zT ?_; refine zS ?_; refine zS ?_; refine zR ?_; refine zO rfl Rd.asg ?_; refine zN ?_; refine zT ?_
  refine XA.block ?_
  refine XA.gen [(1, _), (2, _), (3, _), (6, _), (7, _), (8, _)] ⟨(by with_reducible (conv => lhs; whnf)), (by with_reducible (conv => lhs; whnf)), (by with_reducible (conv => lhs; whnf)), (by with_reducible (conv => lhs; whnf)), (by with_reducible (conv => lhs; whnf)), (by with_reducible (conv => lhs; whnf)), trivial⟩ (fun δ => ?_)
  dsimp only [List.foldl]
  refine XA.loop [(7, 39)] (fun x : Nat × Nat => [(8, i64 x.1), (7, i64 x.2)]) (fun x σ' Γ' => σ = σ' ∧ x.1 ≤ l.length ∧ x.1 ≤ 200 ∧ x.2 ≤ 3000 * x.1 ∧ Γ' = [blk g3 [.slice pv p.vars.length cv, .slice pb0 p.body.length cb] 25]) (fun x => l.length - x.1) (0, 0) (by exact ⟨rfl, rfl, trivial⟩) (Δ0 := _) ?_ (⟨rfl, Nat.zero_le _, by decide, Nat.zero_le _, rfl⟩) ?_
  · exact zE
  rintro ⟨i, a⟩ δ _ _ ⟨rfl, hin, hi2, hia, rfl⟩
  dsimp only [ovr, List.foldl]
  have hin : i ≤ l.length := hin
  have hi2 : i ≤ 200 := hi2
  have hia : a ≤ 3000 * i := hia
  by_cases hlt : i < l.length
  · by_cases h200 : i < 200
    · obtain ⟨x, hx⟩ : ∃ x, l[i]? = some x := ⟨_, List.getElem?_eq_getElem hlt⟩
      obtain ⟨gr, orow, row, rfl, ⟨hrx, -⟩, hrl, hrow⟩ := hl.at hx
      obtain ⟨kd, n, K, m⟩ := x
      simp only at hrx
      subst hrx
      have hrow1 : PRow σ gr (orow + i * 4 + 1) [i64 n] := hrow.sub (j := 1) rfl
      by_cases hn0 : 0 < n
      · by_cases hn1 : n ≤ 3000
        · obtain ⟨n', rfl⟩ : ∃ j : Nat, n = j := ⟨n.toNat, by omega⟩
          refine zS ?_; refine zS ?_; refine zR ?_; refine zO rfl Rd.mv ?_; refine zO rfl Rd.mv ?_; refine zO rfl (Rd.lenSlice (tyrow rfl) rfl rfl) ?_; refine zO rfl (Rd.lss rfl rfl) ?_; refine zO rfl Rd.mv ?_
          first | ((first | refine zW ?_ | refine zQ ?_); refine zO rfl Rd.mv ?_) | refine zU ?_ | refine zV ?_ | refine zZ ?_
          first | ((first | refine zW ?_ | refine zQ ?_); refine zO rfl (Rd.lss rfl rfl) ?_) | refine zU ?_ | refine zV ?_ | refine zZ ?_
          refine zO rfl (by first | exact Rd.pT rfl | exact Rd.pF rfl | exact Rd.pP rfl) ?_
          refine zN ?_; refine zT ?_
          refine XA.condT rfl (by first | rfl | exact decide_eq_true (by omega)) ?_
          refine XA.skip ?_
          refine zT ?_; refine zS ?_
          refine XA.block ?_
          refine zS ?_; refine zR ?_; refine zO rfl Rd.mv ?_; refine zO rfl Rd.mv ?_
          refine zO rfl (Rd.ixS rfl rfl) ?_
          refine zO rfl (Rd.fA rfl) ?_; refine zO rfl (Rd.ldC rfl (tyrow rfl) rfl) ?_
          refine zO rfl (Rd.gtr rfl rfl) ?_
          refine zO rfl Rd.mv ?_
          first | ((first | refine zW ?_ | refine zQ ?_); refine zO rfl Rd.mv ?_) | refine zU ?_ | refine zV ?_ | refine zZ ?_
          first | ((first | refine zW ?_ | refine zQ ?_); refine zO rfl Rd.mv ?_) | refine zU ?_ | refine zV ?_ | refine zZ ?_
          first | ((first | refine zW ?_ | refine zQ ?_); refine zO rfl (Rd.ixS rfl rfl) ?_) | refine zU ?_ | refine zV ?_ | refine zZ ?_
          first | ((first | refine zW ?_ | refine zQ ?_); refine zO rfl (Rd.fA rfl) ?_) | refine zU ?_ | refine zV ?_ | refine zZ ?_
          first | ((first | refine zW ?_ | refine zQ ?_); refine zO rfl (Rd.ldC rfl (tyrow rfl) rfl) ?_) | refine zU ?_ | refine zV ?_ | refine zZ ?_
          first | ((first | refine zW ?_ | refine zQ ?_); refine zO rfl (Rd.leq rfl rfl) ?_) | refine zU ?_ | refine zV ?_ | refine zZ ?_
          refine zO rfl (by first | exact Rd.pT rfl | exact Rd.pF rfl | exact Rd.pP rfl) ?_
          refine zN ?_; refine zT ?_
          refine XA.condT rfl (by first | rfl | exact decide_eq_true (by omega)) ?_
          refine zR ?_; refine zO rfl Rd.mv ?_; refine zO rfl Rd.mv ?_; refine zO rfl Rd.mv ?_
          refine zO rfl (Rd.ixS rfl rfl) ?_
          refine zO rfl (Rd.fA rfl) ?_; refine zO rfl (Rd.ldC rfl (tyrow rfl) rfl) ?_
          refine zO rfl (by first | exact Rd.adi rfl rfl | exact Rd.add rfl rfl) ?_
          refine zO rfl Rd.asg ?_; refine zN ?_
          refine DA.inb_normal ?_
          refine zT ?_; refine zR ?_; refine zO rfl Rd.mv ?_
          refine zO rfl (by first | exact Rd.adi rfl rfl | exact Rd.add rfl rfl) ?_
          refine zO rfl Rd.asg ?_; refine zN ?_; refine zT ?_
          rw [← Int.natCast_add]
          refine ⟨(Keep.upd (Keep.upd (Keep.upd (Keep.upd (Keep.upd (Keep.upd (Keep.upd (Keep.upd (Keep.upd (Keep.upd (Keep.upd (Keep.upd (Keep.upd (Keep.upd (Keep.upd (Keep.upd (Keep.upd (Keep.upd (Keep.upd (Keep.upd (Keep.upd (Keep.upd (Keep.upd (Keep.upd (Keep.upd (Keep.upd (Keep.upd (Keep.upd (Keep.upd (Keep.upd (Keep.upd (Keep.upd (Keep.upd (Keep.upd (Keep.upd (Keep.hav (Keep.refl _ _) rfl) rfl) rfl) rfl) rfl) rfl) rfl) rfl) rfl) rfl) rfl) rfl) rfl) rfl) rfl) rfl) rfl) rfl) rfl) rfl) rfl) rfl) rfl) rfl) rfl) rfl) rfl) rfl) rfl) rfl) rfl) rfl) rfl) rfl) rfl) rfl), (i + 1, a + n'), _, (by (repeat (first | exact trivial | refine ⟨rfl, ?_⟩ | refine ⟨Eq.trans rfl (congrArg Value.bool hmat.symm), ?_⟩)); (first | done | fail)), ?_, ⟨rfl, hlt, by show i + 1 ≤ 200; omega, by show a + n' ≤ 3000 * (i + 1); omega, rfl⟩, (by simp only; omega)⟩
          · exact zE
        · skip
          refine zS ?_; refine zS ?_; refine zR ?_; refine zO rfl Rd.mv ?_; refine zO rfl Rd.mv ?_; refine zO rfl (Rd.lenSlice (tyrow rfl) rfl rfl) ?_; refine zO rfl (Rd.lss rfl rfl) ?_; refine zO rfl Rd.mv ?_
          first | ((first | refine zW ?_ | refine zQ ?_); refine zO rfl Rd.mv ?_) | refine zU ?_ | refine zV ?_ | refine zZ ?_
          first | ((first | refine zW ?_ | refine zQ ?_); refine zO rfl (Rd.lss rfl rfl) ?_) | refine zU ?_ | refine zV ?_ | refine zZ ?_
          refine zO rfl (by first | exact Rd.pT rfl | exact Rd.pF rfl | exact Rd.pP rfl) ?_
          refine zN ?_; refine zT ?_
          refine XA.condT rfl (by first | rfl | exact decide_eq_true (by omega)) ?_
          refine XA.skip ?_
          refine zT ?_; refine zS ?_
          refine XA.block ?_
          refine zS ?_; refine zR ?_; refine zO rfl Rd.mv ?_; refine zO rfl Rd.mv ?_
          refine zO rfl (Rd.ixS rfl rfl) ?_
          refine zO rfl (Rd.fA rfl) ?_; refine zO rfl (Rd.ldC rfl (tyrow rfl) rfl) ?_
          refine zO rfl (Rd.gtr rfl rfl) ?_
          refine zO rfl Rd.mv ?_
          first | ((first | refine zW ?_ | refine zQ ?_); refine zO rfl Rd.mv ?_) | refine zU ?_ | refine zV ?_ | refine zZ ?_
          first | ((first | refine zW ?_ | refine zQ ?_); refine zO rfl Rd.mv ?_) | refine zU ?_ | refine zV ?_ | refine zZ ?_
          first | ((first | refine zW ?_ | refine zQ ?_); refine zO rfl (Rd.ixS rfl rfl) ?_) | refine zU ?_ | refine zV ?_ | refine zZ ?_
          first | ((first | refine zW ?_ | refine zQ ?_); refine zO rfl (Rd.fA rfl) ?_) | refine zU ?_ | refine zV ?_ | refine zZ ?_
          first | ((first | refine zW ?_ | refine zQ ?_); refine zO rfl (Rd.ldC rfl (tyrow rfl) rfl) ?_) | refine zU ?_ | refine zV ?_ | refine zZ ?_
          first | ((first | refine zW ?_ | refine zQ ?_); refine zO rfl (Rd.leq rfl rfl) ?_) | refine zU ?_ | refine zV ?_ | refine zZ ?_
          refine zO rfl (by first | exact Rd.pT rfl | exact Rd.pF rfl | exact Rd.pP rfl) ?_
          refine zN ?_; refine zT ?_
          refine XA.condF rfl (by first | rfl | exact decide_eq_false (by omega)) ?_
          refine XA.skip ?_
          refine DA.inb_normal ?_
          refine zT ?_; refine zR ?_; refine zO rfl Rd.mv ?_
          refine zO rfl (by first | exact Rd.adi rfl rfl | exact Rd.add rfl rfl) ?_
          refine zO rfl Rd.asg ?_; refine zN ?_; refine zT ?_
          refine ⟨(Keep.upd (Keep.upd (Keep.upd (Keep.upd (Keep.upd (Keep.upd (Keep.upd (Keep.upd (Keep.upd (Keep.upd (Keep.upd (Keep.upd (Keep.upd (Keep.upd (Keep.upd (Keep.upd (Keep.upd (Keep.upd (Keep.upd (Keep.upd (Keep.upd (Keep.upd (Keep.upd (Keep.upd (Keep.upd (Keep.upd (Keep.upd (Keep.hav (Keep.refl _ _) rfl) rfl) rfl) rfl) rfl) rfl) rfl) rfl) rfl) rfl) rfl) rfl) rfl) rfl) rfl) rfl) rfl) rfl) rfl) rfl) rfl) rfl) rfl) rfl) rfl) rfl) rfl) rfl), (i + 1, a), _, (by (repeat (first | exact trivial | refine ⟨rfl, ?_⟩ | refine ⟨Eq.trans rfl (congrArg Value.bool hmat.symm), ?_⟩)); (first | done | fail)), ?_, ⟨rfl, hlt, by show i + 1 ≤ 200; omega, by show a ≤ 3000 * (i + 1); omega, rfl⟩, (by simp only; omega)⟩
          · exact zE
      · skip
        refine zS ?_; refine zS ?_; refine zR ?_; refine zO rfl Rd.mv ?_; refine zO rfl Rd.mv ?_; refine zO rfl (Rd.lenSlice (tyrow rfl) rfl rfl) ?_; refine zO rfl (Rd.lss rfl rfl) ?_; refine zO rfl Rd.mv ?_
        first | ((first | refine zW ?_ | refine zQ ?_); refine zO rfl Rd.mv ?_) | refine zU ?_ | refine zV ?_ | refine zZ ?_
        first | ((first | refine zW ?_ | refine zQ ?_); refine zO rfl (Rd.lss rfl rfl) ?_) | refine zU ?_ | refine zV ?_ | refine zZ ?_
        refine zO rfl (by first | exact Rd.pT rfl | exact Rd.pF rfl | exact Rd.pP rfl) ?_
        refine zN ?_; refine zT ?_
        refine XA.condT rfl (by first | rfl | exact decide_eq_true (by omega)) ?_
        refine XA.skip ?_
        refine zT ?_; refine zS ?_
        refine XA.block ?_
        refine zS ?_; refine zR ?_; refine zO rfl Rd.mv ?_; refine zO rfl Rd.mv ?_
        refine zO rfl (Rd.ixS rfl rfl) ?_
        refine zO rfl (Rd.fA rfl) ?_; refine zO rfl (Rd.ldC rfl (tyrow rfl) rfl) ?_
        refine zO rfl (Rd.gtr rfl rfl) ?_
        refine zO rfl Rd.mv ?_
        first | ((first | refine zW ?_ | refine zQ ?_); refine zO rfl Rd.mv ?_) | refine zU ?_ | refine zV ?_ | refine zZ ?_
        first | ((first | refine zW ?_ | refine zQ ?_); refine zO rfl Rd.mv ?_) | refine zU ?_ | refine zV ?_ | refine zZ ?_
        first | ((first | refine zW ?_ | refine zQ ?_); refine zO rfl (Rd.ixS rfl rfl) ?_) | refine zU ?_ | refine zV ?_ | refine zZ ?_
        first | ((first | refine zW ?_ | refine zQ ?_); refine zO rfl (Rd.fA rfl) ?_) | refine zU ?_ | refine zV ?_ | refine zZ ?_
        first | ((first | refine zW ?_ | refine zQ ?_); refine zO rfl (Rd.ldC rfl (tyrow rfl) rfl) ?_) | refine zU ?_ | refine zV ?_ | refine zZ ?_
        first | ((first | refine zW ?_ | refine zQ ?_); refine zO rfl (Rd.leq rfl rfl) ?_) | refine zU ?_ | refine zV ?_ | refine zZ ?_
        refine zO rfl (by first | exact Rd.pT rfl | exact Rd.pF rfl | exact Rd.pP rfl) ?_
        refine zN ?_; refine zT ?_
        refine XA.condF rfl (by first | rfl | exact decide_eq_false (by omega)) ?_
        refine XA.skip ?_
        refine DA.inb_normal ?_
        refine zT ?_; refine zR ?_; refine zO rfl Rd.mv ?_
        refine zO rfl (by first | exact Rd.adi rfl rfl | exact Rd.add rfl rfl) ?_
        refine zO rfl Rd.asg ?_; refine zN ?_; refine zT ?_
        refine ⟨(Keep.upd (Keep.upd (Keep.upd (Keep.upd (Keep.upd (Keep.upd (Keep.upd (Keep.upd (Keep.upd (Keep.upd (Keep.upd (Keep.upd (Keep.upd (Keep.upd (Keep.upd (Keep.upd (Keep.upd (Keep.upd (Keep.upd (Keep.upd (Keep.upd (Keep.upd (Keep.upd (Keep.upd (Keep.upd (Keep.upd (Keep.upd (Keep.hav (Keep.refl _ _) rfl) rfl) rfl) rfl) rfl) rfl) rfl) rfl) rfl) rfl) rfl) rfl) rfl) rfl) rfl) rfl) rfl) rfl) rfl) rfl) rfl) rfl) rfl) rfl) rfl) rfl) rfl) rfl), (i + 1, a), _, (by (repeat (first | exact trivial | refine ⟨rfl, ?_⟩ | refine ⟨Eq.trans rfl (congrArg Value.bool hmat.symm), ?_⟩)); (first | done | fail)), ?_, ⟨rfl, hlt, by show i + 1 ≤ 200; omega, by show a ≤ 3000 * (i + 1); omega, rfl⟩, (by simp only; omega)⟩
        · exact zE
    · skip
      refine zS ?_; refine zS ?_; refine zR ?_; refine zO rfl Rd.mv ?_; refine zO rfl Rd.mv ?_; refine zO rfl (Rd.lenSlice (tyrow rfl) rfl rfl) ?_; refine zO rfl (Rd.lss rfl rfl) ?_; refine zO rfl Rd.mv ?_
      first | ((first | refine zW ?_ | refine zQ ?_); refine zO rfl Rd.mv ?_) | refine zU ?_ | refine zV ?_ | refine zZ ?_
      first | ((first | refine zW ?_ | refine zQ ?_); refine zO rfl (Rd.lss rfl rfl) ?_) | refine zU ?_ | refine zV ?_ | refine zZ ?_
      refine zO rfl (by first | exact Rd.pT rfl | exact Rd.pF rfl | exact Rd.pP rfl) ?_
      refine zN ?_; refine zT ?_
      refine XA.condF rfl (by first | rfl | exact decide_eq_false (by omega)) ?_
      refine XA.exit ?_
      refine DA.thn_exit ?_
      refine DA.thn_exit ?_
      refine DA.inb_same ?_
      refine zT ?_; refine zS ?_; refine zR ?_; refine zO rfl (Rd.ldA rfl) ?_
      refine zw rfl (WrA.cE (great_a σ _ p hp0) rfl) ?_
      rintro _ _ _ ⟨_, ⟨b, rfl, hsm, rfl, rfl⟩, rfl⟩
      refine XOA.cl ?_
      cases b with
      | true =>
        refine zO rfl Rd.mv ?_
        first | ((first | refine zW ?_ | refine zQ ?_); refine zO rfl Rd.mv ?_) | refine zU ?_ | refine zV ?_ | refine zZ ?_
        first | ((first | refine zW ?_ | refine zQ ?_); refine zO rfl (Rd.lenSlice (tyrow rfl) rfl rfl) ?_) | refine zU ?_ | refine zV ?_ | refine zZ ?_
        first | ((first | refine zW ?_ | refine zQ ?_); refine zO rfl (Rd.gtr rfl rfl) ?_) | refine zU ?_ | refine zV ?_ | refine zZ ?_
        refine zO rfl (by first | exact Rd.pT rfl | exact Rd.pF rfl | exact Rd.pP rfl) ?_
        refine zO rfl Rd.mv ?_
        first | ((first | refine zW ?_ | refine zQ ?_); refine zO rfl Rd.mv ?_) | refine zU ?_ | refine zV ?_ | refine zZ ?_
        first | ((first | refine zW ?_ | refine zQ ?_); refine zO rfl (Rd.lenSlice (tyrow rfl) rfl rfl) ?_) | refine zU ?_ | refine zV ?_ | refine zZ ?_
        first | ((first | refine zW ?_ | refine zQ ?_); refine zO rfl (Rd.gtr rfl rfl) ?_) | refine zU ?_ | refine zV ?_ | refine zZ ?_
        refine zO rfl (by first | exact Rd.pT rfl | exact Rd.pF rfl | exact Rd.pP rfl) ?_
        refine zO rfl Rd.mv ?_
        first | ((first | refine zW ?_ | refine zQ ?_); refine zO rfl Rd.mv ?_) | refine zU ?_ | refine zV ?_ | refine zZ ?_
        first | ((first | refine zW ?_ | refine zQ ?_); refine zO rfl (Rd.gtr rfl rfl) ?_) | refine zU ?_ | refine zV ?_ | refine zZ ?_
        refine zO rfl (by first | exact Rd.pT rfl | exact Rd.pF rfl | exact Rd.pP rfl) ?_
        refine zO rfl Rd.asg ?_; refine zN ?_; refine zT ?_
        refine XA.ret ?_
        exact bodyA.ret (ResA.one rfl rfl) (Ent.nil _) ⟨true, rfl, fun h => (by cases h), rfl, rfl⟩
      | false =>
        by_cases z0 : 100 < inp.length
        · skip
          refine zO rfl Rd.mv ?_
          first | ((first | refine zW ?_ | refine zQ ?_); refine zO rfl Rd.mv ?_) | refine zU ?_ | refine zV ?_ | refine zZ ?_
          first | ((first | refine zW ?_ | refine zQ ?_); refine zO rfl (Rd.lenSlice (tyrow rfl) rfl rfl) ?_) | refine zU ?_ | refine zV ?_ | refine zZ ?_
          first | ((first | refine zW ?_ | refine zQ ?_); refine zO rfl (Rd.gtr rfl rfl) ?_) | refine zU ?_ | refine zV ?_ | refine zZ ?_
          refine zO rfl (by first | exact Rd.pT rfl | exact Rd.pF rfl | exact Rd.pP rfl) ?_
          refine zO rfl Rd.mv ?_
          first | ((first | refine zW ?_ | refine zQ ?_); refine zO rfl Rd.mv ?_) | refine zU ?_ | refine zV ?_ | refine zZ ?_
          first | ((first | refine zW ?_ | refine zQ ?_); refine zO rfl (Rd.lenSlice (tyrow rfl) rfl rfl) ?_) | refine zU ?_ | refine zV ?_ | refine zZ ?_
          first | ((first | refine zW ?_ | refine zQ ?_); refine zO rfl (Rd.gtr rfl rfl) ?_) | refine zU ?_ | refine zV ?_ | refine zZ ?_
          refine zO rfl (by first | exact Rd.pT rfl | exact Rd.pF rfl | exact Rd.pP rfl) ?_
          refine zO rfl Rd.mv ?_
          first | ((first | refine zW ?_ | refine zQ ?_); refine zO rfl Rd.mv ?_) | refine zU ?_ | refine zV ?_ | refine zZ ?_
          first | ((first | refine zW ?_ | refine zQ ?_); refine zO rfl (Rd.gtr rfl rfl) ?_) | refine zU ?_ | refine zV ?_ | refine zZ ?_
          refine zO rfl (by first | exact Rd.pT rfl | exact Rd.pF rfl | exact Rd.pP rfl) ?_
          refine zO rfl Rd.asg ?_; refine zN ?_; refine zT ?_
          refine XA.ret ?_
          exact bodyA.ret (ResA.one rfl rfl) (Ent.nil _) ⟨true, rfl, fun h => (by cases h), rfl, rfl⟩
        by_cases z1 : 60 < l.length
        · skip
          refine zO rfl Rd.mv ?_
          first | ((first | refine zW ?_ | refine zQ ?_); refine zO rfl Rd.mv ?_) | refine zU ?_ | refine zV ?_ | refine zZ ?_
          first | ((first | refine zW ?_ | refine zQ ?_); refine zO rfl (Rd.lenSlice (tyrow rfl) rfl rfl) ?_) | refine zU ?_ | refine zV ?_ | refine zZ ?_
          first | ((first | refine zW ?_ | refine zQ ?_); refine zO rfl (Rd.gtr rfl rfl) ?_) | refine zU ?_ | refine zV ?_ | refine zZ ?_
          refine zO rfl (by first | exact Rd.pT rfl | exact Rd.pF rfl | exact Rd.pP rfl) ?_
          refine zO rfl Rd.mv ?_
          first | ((first | refine zW ?_ | refine zQ ?_); refine zO rfl Rd.mv ?_) | refine zU ?_ | refine zV ?_ | refine zZ ?_
          first | ((first | refine zW ?_ | refine zQ ?_); refine zO rfl (Rd.lenSlice (tyrow rfl) rfl rfl) ?_) | refine zU ?_ | refine zV ?_ | refine zZ ?_
          first | ((first | refine zW ?_ | refine zQ ?_); refine zO rfl (Rd.gtr rfl rfl) ?_) | refine zU ?_ | refine zV ?_ | refine zZ ?_
          refine zO rfl (by first | exact Rd.pT rfl | exact Rd.pF rfl | exact Rd.pP rfl) ?_
          refine zO rfl Rd.mv ?_
          first | ((first | refine zW ?_ | refine zQ ?_); refine zO rfl Rd.mv ?_) | refine zU ?_ | refine zV ?_ | refine zZ ?_
          first | ((first | refine zW ?_ | refine zQ ?_); refine zO rfl (Rd.gtr rfl rfl) ?_) | refine zU ?_ | refine zV ?_ | refine zZ ?_
          refine zO rfl (by first | exact Rd.pT rfl | exact Rd.pF rfl | exact Rd.pP rfl) ?_
          refine zO rfl Rd.asg ?_; refine zN ?_; refine zT ?_
          refine XA.ret ?_
          exact bodyA.ret (ResA.one rfl rfl) (Ent.nil _) ⟨true, rfl, fun h => (by cases h), rfl, rfl⟩
        refine zO rfl Rd.mv ?_
        first | ((first | refine zW ?_ | refine zQ ?_); refine zO rfl Rd.mv ?_) | refine zU ?_ | refine zV ?_ | refine zZ ?_
        first | ((first | refine zW ?_ | refine zQ ?_); refine zO rfl (Rd.lenSlice (tyrow rfl) rfl rfl) ?_) | refine zU ?_ | refine zV ?_ | refine zZ ?_
        first | ((first | refine zW ?_ | refine zQ ?_); refine zO rfl (Rd.gtr rfl rfl) ?_) | refine zU ?_ | refine zV ?_ | refine zZ ?_
        refine zO rfl (by first | exact Rd.pT rfl | exact Rd.pF rfl | exact Rd.pP rfl) ?_
        refine zO rfl Rd.mv ?_
        first | ((first | refine zW ?_ | refine zQ ?_); refine zO rfl Rd.mv ?_) | refine zU ?_ | refine zV ?_ | refine zZ ?_
        first | ((first | refine zW ?_ | refine zQ ?_); refine zO rfl (Rd.lenSlice (tyrow rfl) rfl rfl) ?_) | refine zU ?_ | refine zV ?_ | refine zZ ?_
        first | ((first | refine zW ?_ | refine zQ ?_); refine zO rfl (Rd.gtr rfl rfl) ?_) | refine zU ?_ | refine zV ?_ | refine zZ ?_
        refine zO rfl (by first | exact Rd.pT rfl | exact Rd.pF rfl | exact Rd.pP rfl) ?_
        refine zO rfl Rd.mv ?_
        first | ((first | refine zW ?_ | refine zQ ?_); refine zO rfl Rd.mv ?_) | refine zU ?_ | refine zV ?_ | refine zZ ?_
        first | ((first | refine zW ?_ | refine zQ ?_); refine zO rfl (Rd.gtr rfl rfl) ?_) | refine zU ?_ | refine zV ?_ | refine zZ ?_
        refine zO rfl (by first | exact Rd.pT rfl | exact Rd.pF rfl | exact Rd.pP rfl) ?_
        refine zO rfl Rd.asg ?_; refine zN ?_; refine zT ?_
        refine XA.ret ?_
        exact bodyA.ret (ResA.one rfl rfl) (Ent.nil _) ⟨_, rfl, fun _ => ⟨hsm rfl, by omega, by omega⟩, rfl, rfl⟩
  · skip
    refine zS ?_; refine zS ?_; refine zR ?_; refine zO rfl Rd.mv ?_; refine zO rfl Rd.mv ?_; refine zO rfl (Rd.lenSlice (tyrow rfl) rfl rfl) ?_; refine zO rfl (Rd.lss rfl rfl) ?_; refine zO rfl Rd.mv ?_
    first | ((first | refine zW ?_ | refine zQ ?_); refine zO rfl Rd.mv ?_) | refine zU ?_ | refine zV ?_ | refine zZ ?_
    first | ((first | refine zW ?_ | refine zQ ?_); refine zO rfl (Rd.lss rfl rfl) ?_) | refine zU ?_ | refine zV ?_ | refine zZ ?_
    refine zO rfl (by first | exact Rd.pT rfl | exact Rd.pF rfl | exact Rd.pP rfl) ?_
    refine zN ?_; refine zT ?_
    refine XA.condF rfl (by first | rfl | exact decide_eq_false (by omega)) ?_
    refine XA.exit ?_
    refine DA.thn_exit ?_
    refine DA.thn_exit ?_
    refine DA.inb_same ?_
    refine zT ?_; refine zS ?_; refine zR ?_; refine zO rfl (Rd.ldA rfl) ?_
    refine zw rfl (WrA.cE (great_a σ _ p hp0) rfl) ?_
    rintro _ _ _ ⟨_, ⟨b, rfl, hsm, rfl, rfl⟩, rfl⟩
    refine XOA.cl ?_
    cases b with
    | true =>
      refine zO rfl Rd.mv ?_
      first | ((first | refine zW ?_ | refine zQ ?_); refine zO rfl Rd.mv ?_) | refine zU ?_ | refine zV ?_ | refine zZ ?_
      first | ((first | refine zW ?_ | refine zQ ?_); refine zO rfl (Rd.lenSlice (tyrow rfl) rfl rfl) ?_) | refine zU ?_ | refine zV ?_ | refine zZ ?_
      first | ((first | refine zW ?_ | refine zQ ?_); refine zO rfl (Rd.gtr rfl rfl) ?_) | refine zU ?_ | refine zV ?_ | refine zZ ?_
      refine zO rfl (by first | exact Rd.pT rfl | exact Rd.pF rfl | exact Rd.pP rfl) ?_
      refine zO rfl Rd.mv ?_
      first | ((first | refine zW ?_ | refine zQ ?_); refine zO rfl Rd.mv ?_) | refine zU ?_ | refine zV ?_ | refine zZ ?_
      first | ((first | refine zW ?_ | refine zQ ?_); refine zO rfl (Rd.lenSlice (tyrow rfl) rfl rfl) ?_) | refine zU ?_ | refine zV ?_ | refine zZ ?_
      first | ((first | refine zW ?_ | refine zQ ?_); refine zO rfl (Rd.gtr rfl rfl) ?_) | refine zU ?_ | refine zV ?_ | refine zZ ?_
      refine zO rfl (by first | exact Rd.pT rfl | exact Rd.pF rfl | exact Rd.pP rfl) ?_
      refine zO rfl Rd.mv ?_
      first | ((first | refine zW ?_ | refine zQ ?_); refine zO rfl Rd.mv ?_) | refine zU ?_ | refine zV ?_ | refine zZ ?_
      first | ((first | refine zW ?_ | refine zQ ?_); refine zO rfl (Rd.gtr rfl rfl) ?_) | refine zU ?_ | refine zV ?_ | refine zZ ?_
      refine zO rfl (by first | exact Rd.pT rfl | exact Rd.pF rfl | exact Rd.pP rfl) ?_
      refine zO rfl Rd.asg ?_; refine zN ?_; refine zT ?_
      refine XA.ret ?_
      exact bodyA.ret (ResA.one rfl rfl) (Ent.nil _) ⟨true, rfl, fun h => (by cases h), rfl, rfl⟩
    | false =>
      by_cases z0 : 100 < inp.length
      · skip
        refine zO rfl Rd.mv ?_
        first | ((first | refine zW ?_ | refine zQ ?_); refine zO rfl Rd.mv ?_) | refine zU ?_ | refine zV ?_ | refine zZ ?_
        first | ((first | refine zW ?_ | refine zQ ?_); refine zO rfl (Rd.lenSlice (tyrow rfl) rfl rfl) ?_) | refine zU ?_ | refine zV ?_ | refine zZ ?_
        first | ((first | refine zW ?_ | refine zQ ?_); refine zO rfl (Rd.gtr rfl rfl) ?_) | refine zU ?_ | refine zV ?_ | refine zZ ?_
        refine zO rfl (by first | exact Rd.pT rfl | exact Rd.pF rfl | exact Rd.pP rfl) ?_
        refine zO rfl Rd.mv ?_
        first | ((first | refine zW ?_ | refine zQ ?_); refine zO rfl Rd.mv ?_) | refine zU ?_ | refine zV ?_ | refine zZ ?_
        first | ((first | refine zW ?_ | refine zQ ?_); refine zO rfl (Rd.lenSlice (tyrow rfl) rfl rfl) ?_) | refine zU ?_ | refine zV ?_ | refine zZ ?_
        first | ((first | refine zW ?_ | refine zQ ?_); refine zO rfl (Rd.gtr rfl rfl) ?_) | refine zU ?_ | refine zV ?_ | refine zZ ?_
        refine zO rfl (by first | exact Rd.pT rfl | exact Rd.pF rfl | exact Rd.pP rfl) ?_
        refine zO rfl Rd.mv ?_
        first | ((first | refine zW ?_ | refine zQ ?_); refine zO rfl Rd.mv ?_) | refine zU ?_ | refine zV ?_ | refine zZ ?_
        first | ((first | refine zW ?_ | refine zQ ?_); refine zO rfl (Rd.gtr rfl rfl) ?_) | refine zU ?_ | refine zV ?_ | refine zZ ?_
        refine zO rfl (by first | exact Rd.pT rfl | exact Rd.pF rfl | exact Rd.pP rfl) ?_
        refine zO rfl Rd.asg ?_; refine zN ?_; refine zT ?_
        refine XA.ret ?_
        exact bodyA.ret (ResA.one rfl rfl) (Ent.nil _) ⟨true, rfl, fun h => (by cases h), rfl, rfl⟩
      by_cases z1 : 60 < l.length
      · skip
        refine zO rfl Rd.mv ?_
        first | ((first | refine zW ?_ | refine zQ ?_); refine zO rfl Rd.mv ?_) | refine zU ?_ | refine zV ?_ | refine zZ ?_
        first | ((first | refine zW ?_ | refine zQ ?_); refine zO rfl (Rd.lenSlice (tyrow rfl) rfl rfl) ?_) | refine zU ?_ | refine zV ?_ | refine zZ ?_
        first | ((first | refine zW ?_ | refine zQ ?_); refine zO rfl (Rd.gtr rfl rfl) ?_) | refine zU ?_ | refine zV ?_ | refine zZ ?_
        refine zO rfl (by first | exact Rd.pT rfl | exact Rd.pF rfl | exact Rd.pP rfl) ?_
        refine zO rfl Rd.mv ?_
        first | ((first | refine zW ?_ | refine zQ ?_); refine zO rfl Rd.mv ?_) | refine zU ?_ | refine zV ?_ | refine zZ ?_
        first | ((first | refine zW ?_ | refine zQ ?_); refine zO rfl (Rd.lenSlice (tyrow rfl) rfl rfl) ?_) | refine zU ?_ | refine zV ?_ | refine zZ ?_
        first | ((first | refine zW ?_ | refine zQ ?_); refine zO rfl (Rd.gtr rfl rfl) ?_) | refine zU ?_ | refine zV ?_ | refine zZ ?_
        refine zO rfl (by first | exact Rd.pT rfl | exact Rd.pF rfl | exact Rd.pP rfl) ?_
        refine zO rfl Rd.mv ?_
        first | ((first | refine zW ?_ | refine zQ ?_); refine zO rfl Rd.mv ?_) | refine zU ?_ | refine zV ?_ | refine zZ ?_
        first | ((first | refine zW ?_ | refine zQ ?_); refine zO rfl (Rd.gtr rfl rfl) ?_) | refine zU ?_ | refine zV ?_ | refine zZ ?_
        refine zO rfl (by first | exact Rd.pT rfl | exact Rd.pF rfl | exact Rd.pP rfl) ?_
        refine zO rfl Rd.asg ?_; refine zN ?_; refine zT ?_
        refine XA.ret ?_
        exact bodyA.ret (ResA.one rfl rfl) (Ent.nil _) ⟨true, rfl, fun h => (by cases h), rfl, rfl⟩
      refine zO rfl Rd.mv ?_
      first | ((first | refine zW ?_ | refine zQ ?_); refine zO rfl Rd.mv ?_) | refine zU ?_ | refine zV ?_ | refine zZ ?_
      first | ((first | refine zW ?_ | refine zQ ?_); refine zO rfl (Rd.lenSlice (tyrow rfl) rfl rfl) ?_) | refine zU ?_ | refine zV ?_ | refine zZ ?_
      first | ((first | refine zW ?_ | refine zQ ?_); refine zO rfl (Rd.gtr rfl rfl) ?_) | refine zU ?_ | refine zV ?_ | refine zZ ?_
      refine zO rfl (by first | exact Rd.pT rfl | exact Rd.pF rfl | exact Rd.pP rfl) ?_
      refine zO rfl Rd.mv ?_
      first | ((first | refine zW ?_ | refine zQ ?_); refine zO rfl Rd.mv ?_) | refine zU ?_ | refine zV ?_ | refine zZ ?_
      first | ((first | refine zW ?_ | refine zQ ?_); refine zO rfl (Rd.lenSlice (tyrow rfl) rfl rfl) ?_) | refine zU ?_ | refine zV ?_ | refine zZ ?_
      first | ((first | refine zW ?_ | refine zQ ?_); refine zO rfl (Rd.gtr rfl rfl) ?_) | refine zU ?_ | refine zV ?_ | refine zZ ?_
      refine zO rfl (by first | exact Rd.pT rfl | exact Rd.pF rfl | exact Rd.pP rfl) ?_
      refine zO rfl Rd.mv ?_
      first | ((first | refine zW ?_ | refine zQ ?_); refine zO rfl Rd.mv ?_) | refine zU ?_ | refine zV ?_ | refine zZ ?_
      first | ((first | refine zW ?_ | refine zQ ?_); refine zO rfl (Rd.gtr rfl rfl) ?_) | refine zU ?_ | refine zV ?_ | refine zZ ?_
      refine zO rfl (by first | exact Rd.pT rfl | exact Rd.pF rfl | exact Rd.pP rfl) ?_
      refine zO rfl Rd.asg ?_; refine zN ?_; refine zT ?_
      refine XA.ret ?_
      exact bodyA.ret (ResA.one rfl rfl) (Ent.nil _) ⟨_, rfl, fun _ => ⟨hsm rfl, by omega, by omega⟩, rfl, rfl⟩
end Go.Proofs.Ytmnmcjdgnpgchaa

namespace Go.Proofs.Ytmnmcjdgnpgchaa
open Go X
set_option maxHeartbeats 4000000
theorem nowe_l (σ : PH) (gx db pb : Nat) (pc : Option Addr) (cc nc : Nat) (p : Pr) (inp : List Int) (L : Li) (k : Nat) (g mb sb : Nat) (d : DiskS) (s : StS) (pi : Option Addr) (ci : Nat) (pj : Option Addr) (cj : Nat) (h : LiOk p inp L k) (hk : k ≤ 1000000) (hn : nc = L.b.m.cells.length) :
    CallsA Try.prog 38 #[ptr gx] σ [blk gx [ptr g, ptr db, ptr pb, .slice pc (codeOf p).length cc, .slice pj inp.length cj, i64 nc] 76, blk g [ptr mb, .slice pc (codeOf p).length cc, .slice pi inp.length ci, ptr pb, i64 0, .bool false] 64, Wld mb sb db d s L.M, Prin pb L.b.out L.b.wrong] (RetA fun v σ' Γ' => ∃ po co pv cv, v = .agg #[i64 (nowC L.b), .slice po L.b.out.length co, .slice pv nc cv] ∧ PInts σ' (.slice po L.b.out.length co) L.b.out ∧ PInts σ' (.slice pv nc cv) L.b.m.cells ∧ σ.sub σ' ∧ Γ' = [blk gx [ptr g, ptr db, ptr pb, .slice pc (codeOf p).length cc, .slice pj inp.length cj, i64 nc] 76, blk g [ptr mb, .slice pc (codeOf p).length cc, .slice pi inp.length ci, ptr pb, i64 0, .bool false] 64, Wld mb sb db d s L.M, Prin pb L.b.out L.b.wrong]) := by
  have hol := h.mach.ol
  refine enterA1 Try.func38 rfl rfl rfl ?_
  refine zS ?_; refine zR ?_
  refine zw rfl (WrA.alloc (tyrow rfl)) ?_
  rintro _ _ _ ⟨g2, rfl, rfl, rfl⟩
  refine zN ?_; refine zT ?_; refine zS ?_
  refine XA.draw (by kernel_rfl) _ _ [8, 9] [(0, .pu), (1, .pu), (2, .pu), (3, .rd), (4, .pu), (5, .pu), (6, .pu), (7, .rd), (8, .wr), (9, .wr)] (by kernel_rfl) (PH.sub.refl _) (Ent.sel (R := blk gx _ _) (by ((repeat (first | with_reducible exact Sel.head | apply Sel.tail)); (first | done | fail))) (Ent.nil _)) ?_
  refine zu rfl rfl Rd.mv ?_
  refine zu rfl rfl (Rd.nilCheck rfl) ?_
  refine zu rfl rfl (Rd.fA rfl) ?_
  refine XPA.rd rfl rfl Gd.free (Rd.ldC rfl (tyrow rfl) rfl) ?_
  refine zu rfl rfl Rd.mv ?_
  refine zu rfl rfl (Rd.nilCheck rfl) ?_
  refine zu rfl rfl (Rd.fA rfl) ?_
  refine XPA.rd rfl rfl Gd.free (Rd.ldC rfl (tyrow rfl) rfl) ?_
  refine XPA.wrZ0 rfl rfl Gd.free (by kernel_rfl) (WrA.cE (result_m σ g mb sb db pb (.slice pc (codeOf p).length cc) (.slice pi inp.length ci) 0 false d s L.M L.b.m L.b.out L.b.wrong nc h.mach.sh (by omega) (by omega)) rfl) ?_
  rintro _ σ2 _ ⟨_, ⟨po, co, pv, cv, rfl, hvo, hvc, hs2, rfl⟩, rfl⟩
  refine XPA.cl ?_
  rw [List.take_of_length_le (by omega)] at hvc
  refine XPA.wrZ0 rfl rfl Gd.free (by kernel_rfl) (WrA.st (tyrow rfl) rfl) ?_
  rintro _ _ _ ⟨rfl, rfl, rfl⟩
  refine XPA.nil ?_
  refine zT ?_
  refine XA.ret ?_
  exact bodyA.ret (ResA.cell1 rfl rfl (Ld.atBlk (tyrow rfl) rfl (by ((repeat (first | with_reducible exact Sel.head | apply Sel.tail)); (first | done | fail))) rfl (by first | exact take0 (by first | rfl | assumption | (refine (ints_len _).trans ?_; assumption) | (simp [*]; (first | done | fail))) | assumption | exact take_app (by first | rfl | assumption | (refine (ints_len _).trans ?_; assumption) | (simp [*]; (first | done | fail))) | (conv => lhs; simp only [List.drop_succ_cons, List.drop_zero, List.take_succ_cons, List.take_zero])) (by first | rfl | assumption | (refine (ints_len _).trans ?_; assumption) | (simp [*]; (first | done | fail))))) zE ⟨po, co, pv, cv, rfl, hvo, hvc, hs2, rfl⟩
end Go.Proofs.Ytmnmcjdgnpgchaa

namespace Go.Proofs.Ytmnmcjdgnpgchaa
open Go X
set_option maxHeartbeats 8000000
theorem tearAt_ge {code : List In} {inp : List Int} {K K' : Int} {bit bit' : Bool} (h : 2 ≤ K) (h' : 2 ≤ K') (L : Li) : tearAt code inp K bit L = tearAt code inp K' bit' L := by
  rw [tearAt, tearAt, if_neg (by omega), if_neg (by omega)]
theorem tearL_ge {code : List In} {inp : List Int} {K K' : Int} {bit bit' : Bool} (h : 2 ≤ K) (h' : 2 ≤ K') : ∀ (f : Nat) (L : Li), tearL code inp K bit f L = tearL code inp K' bit' f L
  | 0, _ => rfl
  | f + 1, L => by rw [tearL, tearL, tearAt_ge h h' (bit' := bit'), tearL_ge h h' f (nextL code inp L)]
theorem doL_mask {code : List In} {inp : List Int} {L : Li} (kd n K K' m m' : Int) (h : (kd = 2 ∧ K' = K) ∨ (kd = 3 ∧ 2 ≤ K ∧ 2 ≤ K') ∨ (K' = K ∧ m' = m)) : stpFault ⟨kd, n, K', m'⟩ = stpFault ⟨kd, n, K, m⟩ ∧ doL code inp ⟨kd, n, K', m'⟩ L = doL code inp ⟨kd, n, K, m⟩ L := by
  rcases h with ⟨rfl, rfl⟩ | ⟨rfl, h1, h2⟩ | ⟨rfl, rfl⟩
  · have hf : ∀ m, stpFault ⟨2, n, K', m⟩ = 0 := fun m => by
      rw [stpFault, if_neg (by simp), if_neg]; rintro (⟨q, -⟩ | ⟨q, -⟩); exact q rfl; cases q
    refine ⟨by rw [hf, hf], ?_⟩
    rw [doL, doL, hf, hf]; rfl
  · have hf : stpFault ⟨3, n, K', m'⟩ = stpFault ⟨3, n, K, m⟩ := by
      simp only [stpFault]
      have e1 : ¬ (K' < 0) := by omega
      have e2 : ¬ (K < 0) := by omega
      simp [e1, e2]
    refine ⟨hf, ?_⟩
    rw [doL, doL, hf]
    by_cases hz : stpFault ⟨3, n, K, m⟩ ≠ 0
    · rw [if_pos hz, if_pos hz]
    · rw [if_neg hz, if_neg hz, if_neg (show ¬ (3 : Int) = 1 by decide), if_neg (show ¬ (3 : Int) = 1 by decide), if_pos rfl, if_pos rfl]
      exact tearL_ge h2 h1 _ _
  · exact ⟨rfl, rfl⟩
set_option maxRecDepth 20000 in
theorem masks_law (σ : PH) (cs : List Value) (p : Pr) (iv : Value) (inp : List Int) (lv : Value) (l : List LStp) (mv : Value) (ms : List Int) (kk : Int) (hp : PrAt σ cs p) (hi : PInts σ iv inp) (hl : PSl 4 rLStp σ lv l) (hms : PSl 1 (rInt .u64) σ mv ms) :
    CallsA Try.prog 9 #[.agg cs.toArray, iv, lv, mv, i64 kk] σ [] (RetA fun r σ' _ => r = .bool true ∧ σ.sub σ') := by
  have hp0 := hp
  obtain ⟨vs, bs, rfl, hv, hb⟩ := hp
  obtain ⟨pv, cv, rfl, -, -⟩ := hv.shape
  obtain ⟨pb0, cb, rfl, -, -⟩ := hb.shape
  obtain ⟨pl, cl, rfl, hll, hlm⟩ := hl.shape
  obtain ⟨pi0, ci0, rfl, hil, him⟩ := hi.shape
  obtain ⟨pm, cm, rfl, hml, hmm⟩ := hms.shape
  simp only [maxLen] at hlm him hmm
  obtain ⟨W, hW⟩ : ∃ W, IntKind.u64.wrap kk = W := ⟨_, rfl⟩
  have hW0 : 0 ≤ W := by rw [← hW]; simp [IntKind.wrap, IntKind.bits, IntKind.signed]; omega
  obtain ⟨R, hR⟩ : ∃ R, W.tmod 20 = R := ⟨_, rfl⟩
  have hR0 : 0 ≤ R ∧ R < 20 := by rw [← hR, Int.tmod_eq_emod_of_nonneg hW0]; omega
  have hRw : IntKind.i64.wrap R = R := X.wrap64_in (by omega) (by omega)
  refine enterA5 Try.func9 rfl rfl rfl ?_
  refine zS ?_; refine zR ?_
  refine zw rfl WrA.bx ?_
  rintro _ _ _ ⟨g5, rfl, rfl, rfl⟩
  refine zO rfl Rd.asg ?_; refine zN ?_; refine zT ?_; refine zS ?_; refine zS ?_; refine zR ?_
  refine zw rfl (WrA.cE (lifebegun_a σ) rfl) ?_
  rintro _ σ1 _ ⟨_, ⟨rfl, hs1, rfl⟩, rfl⟩
  refine XOA.cl ?_
  have hp1 := hp0.mono hs1
  have hi1 := hi.mono hs1
  have hl1 := hl.mono hs1 (fun cs x h => h)
  have hms1 := hms.mono hs1 (fun cs x h => h)
  refine zO rfl (by first | exact Rd.notp rfl | exact Rd.not rfl) ?_
  refine zN ?_; refine zT ?_
  refine XA.condF rfl rfl ?_
  refine XA.skip ?_
  refine zT ?_; refine zS ?_; refine zS ?_; refine zR ?_; refine zO rfl (Rd.ldA rfl) ?_; refine zO rfl Rd.mv ?_; refine zO rfl Rd.mv ?_
  refine zw rfl (WrA.cE (greatlife_a σ1 _ p _ inp _ l hp1 hi1 hl1) rfl) ?_
  rintro _ _ _ ⟨_, ⟨b, rfl, hsm, rfl, rfl⟩, rfl⟩
  refine XOA.cl ?_
  cases b with
  | true =>
    refine zO rfl Rd.mv ?_
    first | ((first | refine zW ?_ | refine zQ ?_); refine zO rfl Rd.mv ?_) | refine zU ?_ | refine zV ?_ | refine zZ ?_
    first | ((first | refine zW ?_ | refine zQ ?_); refine zO rfl (Rd.lenSlice (tyrow rfl) rfl rfl) ?_) | refine zU ?_ | refine zV ?_ | refine zZ ?_
    first | ((first | refine zW ?_ | refine zQ ?_); refine zO rfl (Rd.gtr rfl rfl) ?_) | refine zU ?_ | refine zV ?_ | refine zZ ?_
    refine zO rfl (by first | exact Rd.pT rfl | exact Rd.pF rfl | exact Rd.pP rfl) ?_
    refine zN ?_; refine zT ?_
    refine XA.condT rfl rfl ?_
    refine zS ?_; refine zR ?_; refine zO rfl Rd.asg ?_; refine zN ?_; refine zT ?_
    refine XA.ret ?_
    refine DA.thn_ret ?_
    exact bodyA.ret (ResA.one rfl rfl) (Ent.nil _) ⟨rfl, hs1⟩
  | false =>
    by_cases m0 : 100 < ms.length
    · skip
      refine zO rfl Rd.mv ?_
      first | ((first | refine zW ?_ | refine zQ ?_); refine zO rfl Rd.mv ?_) | refine zU ?_ | refine zV ?_ | refine zZ ?_
      first | ((first | refine zW ?_ | refine zQ ?_); refine zO rfl (Rd.lenSlice (tyrow rfl) rfl rfl) ?_) | refine zU ?_ | refine zV ?_ | refine zZ ?_
      first | ((first | refine zW ?_ | refine zQ ?_); refine zO rfl (Rd.gtr rfl rfl) ?_) | refine zU ?_ | refine zV ?_ | refine zZ ?_
      refine zO rfl (by first | exact Rd.pT rfl | exact Rd.pF rfl | exact Rd.pP rfl) ?_
      refine zN ?_; refine zT ?_
      refine XA.condT rfl (by first | rfl | exact decide_eq_true (by omega)) ?_
      refine zS ?_; refine zR ?_; refine zO rfl Rd.asg ?_; refine zN ?_; refine zT ?_
      refine XA.ret ?_
      refine DA.thn_ret ?_
      exact bodyA.ret (ResA.one rfl rfl) (Ent.nil _) ⟨rfl, hs1⟩
    obtain ⟨hsm, h100, h60⟩ := hsm rfl
    have h900 := hsm.2.2
    have hcdl := codeOf_len p
    by_cases hc : checkP p = 0
    · by_cases h40 : inp.length ≤ 40
      · have hnew := newl_ok σ1 _ p _ inp hp1 hi1 (by omega) hc h40
        refine zO rfl Rd.mv ?_
        first | ((first | refine zW ?_ | refine zQ ?_); refine zO rfl Rd.mv ?_) | refine zU ?_ | refine zV ?_ | refine zZ ?_
        first | ((first | refine zW ?_ | refine zQ ?_); refine zO rfl (Rd.lenSlice (tyrow rfl) rfl rfl) ?_) | refine zU ?_ | refine zV ?_ | refine zZ ?_
        first | ((first | refine zW ?_ | refine zQ ?_); refine zO rfl (Rd.gtr rfl rfl) ?_) | refine zU ?_ | refine zV ?_ | refine zZ ?_
        refine zO rfl (by first | exact Rd.pT rfl | exact Rd.pF rfl | exact Rd.pP rfl) ?_
        refine zN ?_; refine zT ?_
        refine XA.condF rfl (by first | rfl | exact decide_eq_false (by omega)) ?_
        refine XA.skip ?_
        refine zT ?_; refine zS ?_; refine zR ?_; refine zO rfl (Rd.ldA rfl) ?_; refine zO rfl Rd.mv ?_
        refine zw rfl (WrA.cE (hnew) rfl) ?_
        rintro _ σ2 _ ⟨Γ1, ⟨gx, db, pb, pc, cc, rfl, hs2, hcd, hL1⟩, rfl⟩
        refine XOA.cl ?_
        obtain ⟨g, mb, sb, d, s, pi, ci, pj, cj, hQ, hsg, hG, hi2, hj2, rfl⟩ := hL1
        dsimp only [List.append, List.cons_append, List.nil_append]
        have hnew2 := newl_ok σ2 _ p _ inp (hp1.mono hs2) (hi1.mono hs2) (by omega) hc h40
        refine zO rfl Rd.mv ?_
        refine zO rfl (Rd.extract rfl rfl) ?_
        refine zO rfl (Rd.extract rfl rfl) ?_
        refine zO rfl Rd.asg ?_; refine zO rfl Rd.asg ?_; refine zN ?_; refine zT ?_; refine zS ?_; refine zR ?_; refine zO rfl (Rd.ldA rfl) ?_; refine zO rfl Rd.mv ?_
        refine zw rfl (WrA.cE (hnew2) rfl) ?_
        rintro _ σ3 _ ⟨Γ2, ⟨gy, db', pb', pc', cc', rfl, hs3, hcd', hL2⟩, rfl⟩
        refine XOA.cl ?_
        obtain ⟨e, nb, tb, f, t, qi, di, qj, dj, hQ', hsg', hG', hi3, hj3, rfl⟩ := hL2
        dsimp only [List.append, List.cons_append, List.nil_append]
        refine zO rfl Rd.mv ?_
        refine zO rfl (Rd.extract rfl rfl) ?_
        refine zO rfl (Rd.extract rfl rfl) ?_
        refine zO rfl Rd.asg ?_; refine zO rfl Rd.asg ?_; refine zN ?_; refine zT ?_; refine zS ?_; refine zS ?_; refine zR ?_; refine zO rfl Rd.mv ?_
        refine zO rfl (Rd.neq rfl rfl) ?_
        refine zO rfl Rd.mv ?_
        first | ((first | refine zW ?_ | refine zQ ?_); refine zO rfl Rd.mv ?_) | refine zU ?_ | refine zV ?_ | refine zZ ?_
        first | ((first | refine zW ?_ | refine zQ ?_); refine zO rfl (Rd.neq rfl rfl) ?_) | refine zU ?_ | refine zV ?_ | refine zZ ?_
        refine zO rfl (by first | exact Rd.pT rfl | exact Rd.pF rfl | exact Rd.pP rfl) ?_
        refine zN ?_; refine zT ?_
        refine XA.condF rfl rfl ?_
        refine XA.skip ?_
        refine zT ?_; refine zS ?_; refine zS ?_; refine zR ?_; refine zO rfl Rd.asg ?_; refine zN ?_; refine zT ?_
        refine XA.block ?_
        refine XA.gen [(2, _), (3, _), (4, _), (10, _), (11, _), (13, _), (15, _)] ⟨(by with_reducible (conv => lhs; whnf)), (by with_reducible (conv => lhs; whnf)), (by with_reducible (conv => lhs; whnf)), (by with_reducible (conv => lhs; whnf)), (by with_reducible (conv => lhs; whnf)), (by with_reducible (conv => lhs; whnf)), (by with_reducible (conv => lhs; whnf)), trivial⟩ (fun δ => ?_)
        dsimp only [List.foldl]
        refine XA.loop [(10, 10), (15, 20), (53, 146)] (fun x : Nat × Li => [(15, i64 x.1)]) (fun x σ' Γ' => σ3.sub σ' ∧ x.1 ≤ l.length ∧ LiOk p inp x.2 (3000 * x.1) ∧ ∃ gn gn' : Int, gn ≤ (3000 * x.1 : Nat) ∧ gn' ≤ (3000 * x.1 : Nat) ∧ ∃ ΓX ΓY, LifeG σ' gx db pb pc cc (sizes p.vars).toNat p inp x.2 gn ΓX ∧ LifeG σ' gy db' pb' pc' cc' (sizes p.vars).toNat p inp x.2 gn' ΓY ∧ Γ' = ΓX ++ ΓY) (fun x => l.length - x.1) (0, L0 (sizes p.vars).toNat) (by exact ⟨rfl, trivial⟩) (Δ0 := _) ?_ (⟨.refl _, Nat.zero_le _, life0 hc inp (by omega) (by omega), 0, 0, Int.le_refl _, Int.le_refl _, _, _, ⟨g, mb, sb, d, s, pi, ci, pj, cj, hQ, hsg, hG, hi2.mono hs3, hj2.mono hs3, rfl⟩, ⟨e, nb, tb, f, t, qi, di, qj, dj, hQ', hsg', hG', hi3, hj3, rfl⟩, rfl⟩) ?_
        · exact zE
        rintro ⟨i, L⟩ δ σ4 _ ⟨hs4, hin, hok, gn, gn', hgn, hgn', ΓX, ΓY, hX, hY, rfl⟩
        dsimp only [ovr, List.foldl]
        have hin : i ≤ l.length := hin
        simp only at hok hgn hgn' hX hY
        have hX' := hX
        have hY' := hY
        obtain ⟨g2, mb2, sb2, d2, s2, pi2, ci2, pj2, cj2, hQ2, hsg2, hG2, hi22, hj22, rfl⟩ := hX
        obtain ⟨e2, nb2, tb2, f2, t2, qi2, di2, qj2, dj2, hQ2', hsg2', hG2', hi22', hj22', rfl⟩ := hY
        dsimp only [List.append, List.cons_append, List.nil_append]
        have hc4 := hcd.mono (hs3.trans hs4) (fun _ _ h => h)
        have hc4' := hcd'.mono hs4 (fun _ _ h => h)
        refine zS ?_; refine zS ?_; refine zR ?_; refine zO rfl Rd.mv ?_; refine zO rfl Rd.mv ?_; refine zO rfl (Rd.lenSlice (tyrow rfl) rfl rfl) ?_; refine zO rfl (Rd.lss rfl rfl) ?_; refine zN ?_; refine zT ?_
        refine XA.condp rfl (fun hlt => ?_) (fun hlt => ?_)
        · have hlt : i < l.length := by omega
          obtain ⟨x, hx⟩ : ∃ x, l[i]? = some x := ⟨_, List.getElem?_eq_getElem hlt⟩
          obtain ⟨gr, orow, row, rfl, ⟨hrx, hxK, hx0, hx1⟩, hrl, hrow⟩ := (hl1.mono ((hs2.trans hs3).trans hs4) (fun cs x h => h)).at hx
          obtain ⟨kd, n, K, m⟩ := x
          simp only at hrx hxK hx0 hx1
          subst hrx
          have hdo := do_l σ4 gx db pb pc cc (sizes p.vars).toNat p inp L gn (3000 * i) ⟨kd, n, K, m⟩ _ hxK hx0 hx1 hc4 hX' hok (by omega) hgn
          have hdo' := fun K' m' (hK : K' < 9223372036854775808) (h0 : 0 ≤ m') (h1 : m' < 18446744073709551616) σ5 (hs : σ4.sub σ5) => do_l σ5 gy db' pb' pc' cc' (sizes p.vars).toNat p inp L gn' (3000 * i) ⟨kd, n, K', m'⟩ _ hK h0 h1 (hc4'.mono hs (fun _ _ h => h)) (hY'.mono hs) hok (by omega) hgn'
          obtain ⟨hok2, hle2, -⟩ := doL_ok ⟨kd, n, K, m⟩ hok (by omega)
          refine XA.skip ?_
          refine zT ?_; refine zS ?_
          refine XA.block ?_
          refine zS ?_; refine zR ?_; refine zO rfl Rd.mv ?_; refine zO rfl Rd.mv ?_
          refine zO rfl (Rd.ixS rfl rfl) ?_
          refine zO rfl (Rd.ldA rfl) ?_
          refine zw rfl (WrA.alloc (tyrow rfl)) ?_
          rintro _ _ _ ⟨g16, rfl, rfl, rfl⟩
          refine zw rfl (WrA.st (tyrow rfl) rfl) ?_
          rintro _ _ _ ⟨rfl, rfl, rfl⟩
          refine zN ?_; refine zT ?_; refine zS ?_; refine zS ?_; refine zR ?_; refine zO rfl Rd.mv ?_; refine zO rfl Rd.mv ?_; refine zO rfl (Rd.lenSlice (tyrow rfl) rfl rfl) ?_; refine zO rfl (Rd.lss rfl rfl) ?_
          refine XOA.join (List.take_append_drop 15 _).symm [(67, 81)] (fun c : Bool => [(81, .bool c)]) (fun c σ' Γ' => σ4 = σ' ∧ (c = true → i < ms.length ∧ (kd = 2 ∨ kd = 3 ∧ 2 ≤ K)) ∧ Γ' = [blk g16 [i64 kd, i64 n, i64 K, .int .u64 m] 74, blk gx [ptr g2, ptr db, ptr pb, .slice pc (codeOf p).length cc, .slice pj2 inp.length cj2, i64 (sizes p.vars).toNat] 76, blk g2 [ptr mb2, .slice pc (codeOf p).length cc, .slice pi2 inp.length ci2, ptr pb, i64 0, .bool false] 64, Wld mb2 sb2 db d2 s2 L.M, Prin pb L.b.out L.b.wrong, blk gy [ptr e2, ptr db', ptr pb', .slice pc' (codeOf p).length cc', .slice qj2 inp.length dj2, i64 (sizes p.vars).toNat] 76, blk e2 [ptr nb2, .slice pc' (codeOf p).length cc', .slice qi2 inp.length di2, ptr pb', i64 0, .bool false] 64, Wld nb2 tb2 db' f2 t2 L.M, Prin pb' L.b.out L.b.wrong]) ?_ ?_
          · skip
            by_cases im : i < ms.length
            · by_cases k2 : kd = 2
              · subst k2
                refine zO rfl Rd.mv ?_
                first | ((first | refine zW ?_ | refine zQ ?_); refine zO rfl (Rd.fA rfl) ?_) | refine zU ?_ | refine zV ?_ | refine zZ ?_
                first | ((first | refine zW ?_ | refine zQ ?_); refine zO rfl (Rd.ldC rfl (tyrow rfl) rfl) ?_) | refine zU ?_ | refine zV ?_ | refine zZ ?_
                first | ((first | refine zW ?_ | refine zQ ?_); refine zO rfl (Rd.eql rfl rfl) ?_) | refine zU ?_ | refine zV ?_ | refine zZ ?_
                first | ((first | refine zW ?_ | refine zQ ?_); refine zO rfl Rd.mv ?_) | refine zU ?_ | refine zV ?_ | refine zZ ?_
                first | ((first | refine zW ?_ | refine zQ ?_); refine zO rfl (Rd.fA rfl) ?_) | refine zU ?_ | refine zV ?_ | refine zZ ?_
                first | ((first | refine zW ?_ | refine zQ ?_); refine zO rfl (Rd.ldC rfl (tyrow rfl) rfl) ?_) | refine zU ?_ | refine zV ?_ | refine zZ ?_
                first | ((first | refine zW ?_ | refine zQ ?_); refine zO rfl (Rd.eql rfl rfl) ?_) | refine zU ?_ | refine zV ?_ | refine zZ ?_
                first | ((first | refine zW ?_ | refine zQ ?_); refine zO rfl Rd.mv ?_) | refine zU ?_ | refine zV ?_ | refine zZ ?_
                first | ((first | refine zW ?_ | refine zQ ?_); refine zO rfl (Rd.fA rfl) ?_) | refine zU ?_ | refine zV ?_ | refine zZ ?_
                first | ((first | refine zW ?_ | refine zQ ?_); refine zO rfl (Rd.ldC rfl (tyrow rfl) rfl) ?_) | refine zU ?_ | refine zV ?_ | refine zZ ?_
                first | ((first | refine zW ?_ | refine zQ ?_); refine zO rfl (Rd.geq rfl rfl) ?_) | refine zU ?_ | refine zV ?_ | refine zZ ?_
                first | ((first | refine zW ?_ | refine zQ ?_); refine zO rfl (by first | exact Rd.pT rfl | exact Rd.pF rfl | exact Rd.pP rfl) ?_) | refine zU ?_ | refine zV ?_ | refine zZ ?_
                first | ((first | refine zW ?_ | refine zQ ?_); refine zO rfl (by first | exact Rd.pT rfl | exact Rd.pF rfl | exact Rd.pP rfl) ?_) | refine zU ?_ | refine zV ?_ | refine zZ ?_
                refine zO rfl (by first | exact Rd.pT rfl | exact Rd.pF rfl | exact Rd.pP rfl) ?_
                refine zN ?_; refine zT ?_
                refine ⟨(Keep.upd (Keep.upd (Keep.upd (Keep.upd (Keep.upd (Keep.upd (Keep.upd (Keep.upd (Keep.upd (Keep.upd (Keep.upd (Keep.upd (Keep.upd (Keep.upd (Keep.upd (Keep.refl _ _) rfl) rfl) rfl) rfl) rfl) rfl) rfl) rfl) rfl) rfl) rfl) rfl) rfl) rfl) rfl), true, _, (by (repeat (first | exact trivial | refine ⟨rfl, ?_⟩ | refine ⟨Eq.trans rfl (congrArg Value.bool hmat.symm), ?_⟩)); (first | done | fail)), ?_, ⟨rfl, fun _ => ⟨im, .inl rfl⟩, rfl⟩⟩
                · exact zE
              · by_cases k3 : kd = 3
                · subst k3
                  refine zO rfl Rd.mv ?_
                  first | ((first | refine zW ?_ | refine zQ ?_); refine zO rfl (Rd.fA rfl) ?_) | refine zU ?_ | refine zV ?_ | refine zZ ?_
                  first | ((first | refine zW ?_ | refine zQ ?_); refine zO rfl (Rd.ldC rfl (tyrow rfl) rfl) ?_) | refine zU ?_ | refine zV ?_ | refine zZ ?_
                  first | ((first | refine zW ?_ | refine zQ ?_); refine zO rfl (Rd.eql rfl rfl) ?_) | refine zU ?_ | refine zV ?_ | refine zZ ?_
                  first | ((first | refine zW ?_ | refine zQ ?_); refine zO rfl Rd.mv ?_) | refine zU ?_ | refine zV ?_ | refine zZ ?_
                  first | ((first | refine zW ?_ | refine zQ ?_); refine zO rfl (Rd.fA rfl) ?_) | refine zU ?_ | refine zV ?_ | refine zZ ?_
                  first | ((first | refine zW ?_ | refine zQ ?_); refine zO rfl (Rd.ldC rfl (tyrow rfl) rfl) ?_) | refine zU ?_ | refine zV ?_ | refine zZ ?_
                  first | ((first | refine zW ?_ | refine zQ ?_); refine zO rfl (Rd.eql rfl rfl) ?_) | refine zU ?_ | refine zV ?_ | refine zZ ?_
                  first | ((first | refine zW ?_ | refine zQ ?_); refine zO rfl Rd.mv ?_) | refine zU ?_ | refine zV ?_ | refine zZ ?_
                  first | ((first | refine zW ?_ | refine zQ ?_); refine zO rfl (Rd.fA rfl) ?_) | refine zU ?_ | refine zV ?_ | refine zZ ?_
                  first | ((first | refine zW ?_ | refine zQ ?_); refine zO rfl (Rd.ldC rfl (tyrow rfl) rfl) ?_) | refine zU ?_ | refine zV ?_ | refine zZ ?_
                  first | ((first | refine zW ?_ | refine zQ ?_); refine zO rfl (Rd.geq rfl rfl) ?_) | refine zU ?_ | refine zV ?_ | refine zZ ?_
                  first | ((first | refine zW ?_ | refine zQ ?_); refine zO rfl (by first | exact Rd.pT rfl | exact Rd.pF rfl | exact Rd.pP rfl) ?_) | refine zU ?_ | refine zV ?_ | refine zZ ?_
                  first | ((first | refine zW ?_ | refine zQ ?_); refine zO rfl (by first | exact Rd.pT rfl | exact Rd.pF rfl | exact Rd.pP rfl) ?_) | refine zU ?_ | refine zV ?_ | refine zZ ?_
                  refine zO rfl (by first | exact Rd.pT rfl | exact Rd.pF rfl | exact Rd.pP rfl) ?_
                  refine zN ?_; refine zT ?_
                  refine ⟨(Keep.upd (Keep.upd (Keep.upd (Keep.upd (Keep.upd (Keep.upd (Keep.upd (Keep.upd (Keep.upd (Keep.upd (Keep.upd (Keep.upd (Keep.upd (Keep.upd (Keep.upd (Keep.refl _ _) rfl) rfl) rfl) rfl) rfl) rfl) rfl) rfl) rfl) rfl) rfl) rfl) rfl) rfl) rfl), (decide (2 ≤ K)), _, (by (repeat (first | exact trivial | refine ⟨rfl, ?_⟩ | refine ⟨Eq.trans rfl (congrArg Value.bool hmat.symm), ?_⟩)); (first | done | fail)), ?_, ⟨rfl, fun h => ⟨im, .inr ⟨rfl, of_decide_eq_true h⟩⟩, rfl⟩⟩
                  · exact zE
                · skip
                  refine zO rfl Rd.mv ?_
                  first | ((first | refine zW ?_ | refine zQ ?_); refine zO rfl (Rd.fA rfl) ?_) | refine zU ?_ | refine zV ?_ | refine zZ ?_
                  first | ((first | refine zW ?_ | refine zQ ?_); refine zO rfl (Rd.ldC rfl (tyrow rfl) rfl) ?_) | refine zU ?_ | refine zV ?_ | refine zZ ?_
                  first | ((first | refine zW ?_ | refine zQ ?_); refine zO rfl (Rd.eql rfl rfl) ?_) | refine zU ?_ | refine zV ?_ | refine zZ ?_
                  first | ((first | refine zW ?_ | refine zQ ?_); refine zO rfl Rd.mv ?_) | refine zU ?_ | refine zV ?_ | refine zZ ?_
                  first | ((first | refine zW ?_ | refine zQ ?_); refine zO rfl (Rd.fA rfl) ?_) | refine zU ?_ | refine zV ?_ | refine zZ ?_
                  first | ((first | refine zW ?_ | refine zQ ?_); refine zO rfl (Rd.ldC rfl (tyrow rfl) rfl) ?_) | refine zU ?_ | refine zV ?_ | refine zZ ?_
                  first | ((first | refine zW ?_ | refine zQ ?_); refine zO rfl (Rd.eql rfl rfl) ?_) | refine zU ?_ | refine zV ?_ | refine zZ ?_
                  first | ((first | refine zW ?_ | refine zQ ?_); refine zO rfl Rd.mv ?_) | refine zU ?_ | refine zV ?_ | refine zZ ?_
                  first | ((first | refine zW ?_ | refine zQ ?_); refine zO rfl (Rd.fA rfl) ?_) | refine zU ?_ | refine zV ?_ | refine zZ ?_
                  first | ((first | refine zW ?_ | refine zQ ?_); refine zO rfl (Rd.ldC rfl (tyrow rfl) rfl) ?_) | refine zU ?_ | refine zV ?_ | refine zZ ?_
                  first | ((first | refine zW ?_ | refine zQ ?_); refine zO rfl (Rd.geq rfl rfl) ?_) | refine zU ?_ | refine zV ?_ | refine zZ ?_
                  first | ((first | refine zW ?_ | refine zQ ?_); refine zO rfl (by first | exact Rd.pT rfl | exact Rd.pF rfl | exact Rd.pP rfl) ?_) | refine zU ?_ | refine zV ?_ | refine zZ ?_
                  first | ((first | refine zW ?_ | refine zQ ?_); refine zO rfl (by first | exact Rd.pT rfl | exact Rd.pF rfl | exact Rd.pP rfl) ?_) | refine zU ?_ | refine zV ?_ | refine zZ ?_
                  refine zO rfl (by first | exact Rd.pT rfl | exact Rd.pF rfl | exact Rd.pP rfl) ?_
                  refine zN ?_; refine zT ?_
                  refine ⟨(Keep.upd (Keep.upd (Keep.upd (Keep.upd (Keep.upd (Keep.upd (Keep.upd (Keep.upd (Keep.upd (Keep.upd (Keep.upd (Keep.upd (Keep.upd (Keep.upd (Keep.upd (Keep.refl _ _) rfl) rfl) rfl) rfl) rfl) rfl) rfl) rfl) rfl) rfl) rfl) rfl) rfl) rfl) rfl), false, _, (by (repeat (first | exact trivial | refine ⟨rfl, ?_⟩ | refine ⟨Eq.trans rfl (congrArg Value.bool hmat.symm), ?_⟩)); (first | done | fail)), ?_, ⟨rfl, (fun h => (by cases h)), rfl⟩⟩
                  · exact zE
            · skip
              refine zO rfl Rd.mv ?_
              first | ((first | refine zW ?_ | refine zQ ?_); refine zO rfl (Rd.fA rfl) ?_) | refine zU ?_ | refine zV ?_ | refine zZ ?_
              first | ((first | refine zW ?_ | refine zQ ?_); refine zO rfl (Rd.ldC rfl (tyrow rfl) rfl) ?_) | refine zU ?_ | refine zV ?_ | refine zZ ?_
              first | ((first | refine zW ?_ | refine zQ ?_); refine zO rfl (Rd.eql rfl rfl) ?_) | refine zU ?_ | refine zV ?_ | refine zZ ?_
              first | ((first | refine zW ?_ | refine zQ ?_); refine zO rfl Rd.mv ?_) | refine zU ?_ | refine zV ?_ | refine zZ ?_
              first | ((first | refine zW ?_ | refine zQ ?_); refine zO rfl (Rd.fA rfl) ?_) | refine zU ?_ | refine zV ?_ | refine zZ ?_
              first | ((first | refine zW ?_ | refine zQ ?_); refine zO rfl (Rd.ldC rfl (tyrow rfl) rfl) ?_) | refine zU ?_ | refine zV ?_ | refine zZ ?_
              first | ((first | refine zW ?_ | refine zQ ?_); refine zO rfl (Rd.eql rfl rfl) ?_) | refine zU ?_ | refine zV ?_ | refine zZ ?_
              first | ((first | refine zW ?_ | refine zQ ?_); refine zO rfl Rd.mv ?_) | refine zU ?_ | refine zV ?_ | refine zZ ?_
              first | ((first | refine zW ?_ | refine zQ ?_); refine zO rfl (Rd.fA rfl) ?_) | refine zU ?_ | refine zV ?_ | refine zZ ?_
              first | ((first | refine zW ?_ | refine zQ ?_); refine zO rfl (Rd.ldC rfl (tyrow rfl) rfl) ?_) | refine zU ?_ | refine zV ?_ | refine zZ ?_
              first | ((first | refine zW ?_ | refine zQ ?_); refine zO rfl (Rd.geq rfl rfl) ?_) | refine zU ?_ | refine zV ?_ | refine zZ ?_
              first | ((first | refine zW ?_ | refine zQ ?_); refine zO rfl (by first | exact Rd.pT rfl | exact Rd.pF rfl | exact Rd.pP rfl) ?_) | refine zU ?_ | refine zV ?_ | refine zZ ?_
              first | ((first | refine zW ?_ | refine zQ ?_); refine zO rfl (by first | exact Rd.pT rfl | exact Rd.pF rfl | exact Rd.pP rfl) ?_) | refine zU ?_ | refine zV ?_ | refine zZ ?_
              refine zO rfl (by first | exact Rd.pT rfl | exact Rd.pF rfl | exact Rd.pP rfl) ?_
              refine zN ?_; refine zT ?_
              refine ⟨(Keep.upd (Keep.upd (Keep.upd (Keep.upd (Keep.upd (Keep.upd (Keep.upd (Keep.upd (Keep.upd (Keep.upd (Keep.upd (Keep.upd (Keep.upd (Keep.upd (Keep.upd (Keep.refl _ _) rfl) rfl) rfl) rfl) rfl) rfl) rfl) rfl) rfl) rfl) rfl) rfl) rfl) rfl) rfl), false, _, (by (repeat (first | exact trivial | refine ⟨rfl, ?_⟩ | refine ⟨Eq.trans rfl (congrArg Value.bool hmat.symm), ?_⟩)); (first | done | fail)), ?_, ⟨rfl, (fun h => (by cases h)), rfl⟩⟩
              · exact zE
          rintro c δ1 _ _ ⟨rfl, hcc, rfl⟩
          dsimp only [ovr, List.foldl]
          refine zN ?_; refine zT ?_
          refine XA.join [(82, 95)] (fun y : Int × Int => []) (fun y σ' Γ' => σ4 = σ' ∧ ((kd = 2 ∧ y.1 = K) ∨ (kd = 3 ∧ 2 ≤ K ∧ 2 ≤ y.1) ∨ (y.1 = K ∧ y.2 = m)) ∧ y.1 < 9223372036854775808 ∧ 0 ≤ y.2 ∧ y.2 < 18446744073709551616 ∧ Γ' = [blk g16 [i64 kd, i64 n, i64 y.1, .int .u64 y.2] 74, blk gx [ptr g2, ptr db, ptr pb, .slice pc (codeOf p).length cc, .slice pj2 inp.length cj2, i64 (sizes p.vars).toNat] 76, blk g2 [ptr mb2, .slice pc (codeOf p).length cc, .slice pi2 inp.length ci2, ptr pb, i64 0, .bool false] 64, Wld mb2 sb2 db d2 s2 L.M, Prin pb L.b.out L.b.wrong, blk gy [ptr e2, ptr db', ptr pb', .slice pc' (codeOf p).length cc', .slice qj2 inp.length dj2, i64 (sizes p.vars).toNat] 76, blk e2 [ptr nb2, .slice pc' (codeOf p).length cc', .slice qi2 inp.length di2, ptr pb', i64 0, .bool false] 64, Wld nb2 tb2 db' f2 t2 L.M, Prin pb' L.b.out L.b.wrong]) ?_ ?_
          · skip
            cases c with
            | false =>
              refine XA.condF rfl rfl ?_
              refine XA.skip ?_
              refine zT ?_
              refine ⟨(Keep.refl _ _), (K, m), _, (by (repeat (first | exact trivial | refine ⟨rfl, ?_⟩ | refine ⟨Eq.trans rfl (congrArg Value.bool hmat.symm), ?_⟩)); (first | done | fail)), ?_, ⟨rfl, .inr (.inr ⟨rfl, rfl⟩), hxK, hx0, hx1, rfl⟩⟩
              · exact zE
            | true =>
              obtain ⟨im, hk⟩ := hcc rfl
              obtain ⟨z, hz⟩ : ∃ z, ms[i]? = some z := ⟨_, List.getElem?_eq_getElem im⟩
              obtain ⟨gm, om, rowm, rfl, ⟨hrz, hz0, hz1⟩, hrlm, hrowm⟩ := (hms1.mono ((hs2.trans hs3).trans hs4) (fun cs x h => h)).at hz
              subst hrz
              rw [Nat.mul_one] at hrowm
              have hz1' : z < 18446744073709551616 := Int.lt_of_le_of_lt hz1 (by decide)
              rcases hk with rfl | ⟨rfl, hK2⟩
              · skip
                refine XA.condT rfl rfl ?_
                refine zS ?_; refine zR ?_; refine zO rfl Rd.mv ?_; refine zO rfl Rd.mv ?_
                refine zO rfl (Rd.ixS rfl rfl) ?_
                refine zO rfl (Rd.ldC rfl (tyrow rfl) rfl) ?_; refine zO rfl (Rd.fA rfl) ?_
                refine zw rfl (WrA.st (tyrow rfl) rfl) ?_
                rintro _ _ _ ⟨rfl, rfl, rfl⟩
                refine zN ?_; refine zT ?_; refine zS ?_; refine zR ?_; refine zO rfl (Rd.fA rfl) ?_; refine zO rfl (Rd.ldC rfl (tyrow rfl) rfl) ?_; refine zO rfl (Rd.eql rfl rfl) ?_; refine zN ?_; refine zT ?_
                refine XA.condF rfl rfl ?_
                refine XA.skip ?_
                refine zT ?_
                refine ⟨(Keep.upd (Keep.upd (Keep.upd (Keep.updN (Keep.upd (Keep.upd (Keep.upd (Keep.upd (Keep.upd (Keep.refl _ _) rfl) rfl) rfl) rfl) rfl)) rfl) rfl) rfl), (K, z), _, (by (repeat (first | exact trivial | refine ⟨rfl, ?_⟩ | refine ⟨Eq.trans rfl (congrArg Value.bool hmat.symm), ?_⟩)); (first | done | fail)), ?_, ⟨rfl, .inl ⟨rfl, rfl⟩, hxK, hz0, hz1', rfl⟩⟩
                · exact zE
              · skip
                refine XA.condT rfl rfl ?_
                refine zS ?_; refine zR ?_; refine zO rfl Rd.mv ?_; refine zO rfl Rd.mv ?_
                refine zO rfl (Rd.ixS rfl rfl) ?_
                refine zO rfl (Rd.ldC rfl (tyrow rfl) rfl) ?_; refine zO rfl (Rd.fA rfl) ?_
                refine zw rfl (WrA.st (tyrow rfl) rfl) ?_
                rintro _ _ _ ⟨rfl, rfl, rfl⟩
                refine zN ?_; refine zT ?_; refine zS ?_; refine zR ?_; refine zO rfl (Rd.fA rfl) ?_; refine zO rfl (Rd.ldC rfl (tyrow rfl) rfl) ?_; refine zO rfl (Rd.eql rfl rfl) ?_; refine zN ?_; refine zT ?_
                refine XA.condT rfl rfl ?_
                refine zR ?_; refine zO rfl Rd.mv ?_
                refine zO rfl (Rd.cvI (c := W) (tyrow rfl) (tyrow rfl) rfl rfl hW) ?_
                refine zO rfl (Rd.remi (c := R) rfl rfl (by decide) hR) ?_
                refine zO rfl (Rd.cvI (tyrow rfl) (tyrow rfl) rfl rfl) ?_
                refine zO rfl (by first | exact Rd.adi rfl rfl | exact Rd.add rfl rfl) ?_
                refine zO rfl (Rd.fA rfl) ?_
                refine zw rfl (WrA.st (tyrow rfl) rfl) ?_
                rintro _ _ _ ⟨rfl, rfl, rfl⟩
                refine zN ?_; refine zT ?_
                refine ⟨(Keep.updN (Keep.upd (Keep.upd (Keep.upd (Keep.upd (Keep.upd (Keep.upd (Keep.upd (Keep.upd (Keep.upd (Keep.updN (Keep.upd (Keep.upd (Keep.upd (Keep.upd (Keep.upd (Keep.refl _ _) rfl) rfl) rfl) rfl) rfl)) rfl) rfl) rfl) rfl) rfl) rfl) rfl) rfl) rfl)), (2 + R, z), _, (by (repeat (first | exact trivial | refine ⟨rfl, ?_⟩ | refine ⟨Eq.trans rfl (congrArg Value.bool hmat.symm), ?_⟩)); (first | done | fail)), ?_, ⟨rfl, .inr (.inl ⟨rfl, hK2, by show 2 ≤ 2 + R; omega⟩), by show 2 + R < _; omega, hz0, hz1', rfl⟩⟩
                · exact zE
          rintro ⟨K', m'⟩ δ2 _ _ ⟨rfl, hKm, hK', hm0', hm1', rfl⟩
          dsimp only [ovr, List.foldl]
          refine zT ?_
          simp only at hKm hK' hm0' hm1'
          obtain ⟨hf, hd⟩ := doL_mask (code := codeOf p) (inp := inp) (L := L) kd n K K' m m' hKm
          have hdy := hdo' K' m' hK' hm0' hm1'
          rw [hf, hd] at hdy
          obtain ⟨LN, hLN⟩ : ∃ LN, LN = doL (codeOf p) inp ⟨kd, n, K, m⟩ L := ⟨_, rfl⟩
          rw [← hLN] at hdo hdy hok2 hle2
          obtain ⟨FN, hFN⟩ : ∃ FN, FN = stpFault ⟨kd, n, K, m⟩ := ⟨_, rfl⟩
          rw [← hFN] at hdo hdy
          have k1 : decide (((LN.2 : Nat) : Int) ≠ ((LN.2 : Nat) : Int)) = false := decide_eq_false (fun h => h rfl)
          have k2 : decide (FN ≠ FN) = false := decide_eq_false (fun h => h rfl)
          have hcl2 := hok2.mach.cells
          refine zS ?_; refine zR ?_; refine zO rfl Rd.mv ?_; refine zO rfl Rd.mv ?_; refine zO rfl Rd.mv ?_
          refine zO rfl (Rd.ixS rfl rfl) ?_
          refine zO rfl (Rd.ldA rfl) ?_
          refine zw rfl (WrA.cE (hdo) rfl) ?_
          rintro _ σ5 _ ⟨Γ5, ⟨rfl, hs5, gn5, hg5, -, hL5⟩, rfl⟩
          refine XOA.cl ?_
          obtain ⟨g5x, mb5, sb5, d5, s5, pi5, ci5, pj5, cj5, hQ5, hsg5, hG5, hi5, hj5, rfl⟩ := hL5
          dsimp only [List.append, List.cons_append, List.nil_append]
          refine zO rfl Rd.mv ?_
          refine zO rfl (Rd.extract rfl rfl) ?_
          refine zO rfl (Rd.extract rfl rfl) ?_
          refine zO rfl Rd.asg ?_; refine zO rfl Rd.asg ?_; refine zN ?_; refine zT ?_; refine zS ?_; refine zR ?_; refine zO rfl Rd.mv ?_; refine zO rfl (Rd.ldA rfl) ?_
          refine zw rfl (WrA.cE (hdy σ5 hs5) rfl) ?_
          rintro _ σ6 _ ⟨Γ6, ⟨rfl, hs6, gn6, hg6, -, hL6⟩, rfl⟩
          refine XOA.cl ?_
          obtain ⟨g6x, mb6, sb6, d6, s6, pi6, ci6, pj6, cj6, hQ6, hsg6, hG6, hi6, hj6, rfl⟩ := hL6
          dsimp only [List.append, List.cons_append, List.nil_append]
          refine zO rfl Rd.mv ?_
          refine zO rfl (Rd.extract rfl rfl) ?_
          refine zO rfl (Rd.extract rfl rfl) ?_
          refine zO rfl Rd.asg ?_; refine zO rfl Rd.asg ?_; refine zN ?_; refine zT ?_; refine zS ?_
          refine XA.draw (by kernel_rfl) _ _ [32, 33] [(0, .pu), (1, .pu), (2, .pu), (3, .pu), (4, .pu), (5, .pu), (6, .pu), (7, .pu), (8, .pu), (9, .pu), (11, .pu), (10, .wr), (12, .wr), (13, .wr), (14, .pu), (15, .pu), (16, .pu), (17, .pu), (18, .pu), (19, .pu), (20, .rd), (21, .pu), (22, .pu), (23, .rd), (25, .pu), (26, .pu), (27, .pu), (28, .rd), (29, .pu), (30, .pu), (31, .rd), (24, .wr), (32, .wr), (33, .wr), (34, .pu), (35, .pu)] (by kernel_rfl) (PH.sub.refl _) (Ent.sel (R := blk gx _ _) (by ((repeat (first | with_reducible exact Sel.head | apply Sel.tail)); (first | done | fail))) (Ent.sel (R := blk g5x _ _) (by ((repeat (first | with_reducible exact Sel.head | apply Sel.tail)); (first | done | fail))) (Ent.sel (R := blk gy _ _) (by ((repeat (first | with_reducible exact Sel.head | apply Sel.tail)); (first | done | fail))) (Ent.sel (R := blk g6x _ _) (by ((repeat (first | with_reducible exact Sel.head | apply Sel.tail)); (first | done | fail))) (Ent.nil _))))) ?_
          refine zu rfl rfl Rd.mv ?_
          refine zu rfl rfl Rd.mv ?_
          refine zu rfl rfl (Rd.neq rfl rfl) ?_
          rw [k1]
          refine zu rfl rfl Rd.mv ?_
          first | refine XPA.puG rfl rfl Rd.mv ?_ | refine XPA.puOffG rfl rfl ?_
          first | refine XPA.puG rfl rfl Rd.mv ?_ | refine XPA.puOffG rfl rfl ?_
          first | refine XPA.puG rfl rfl (Rd.neq rfl rfl) ?_ | refine XPA.puOffG rfl rfl ?_
          rw [k2]
          refine zu rfl rfl (by first | exact Rd.pT rfl | exact Rd.pF rfl | exact Rd.pP rfl) ?_
          refine zu rfl rfl Rd.mv ?_
          first | refine XPA.puG rfl rfl Rd.mv ?_ | refine XPA.puOffG rfl rfl ?_
          first | refine XPA.puG rfl rfl Rd.mv ?_ | refine XPA.puOffG rfl rfl ?_
          refine XPA.wr0 rfl rfl (by first | exact Gd.free | exact Gd.isB rfl rfl rfl | (apply Gd.isQ; rfl; rfl; exact (by first | exact (rfl : decide _ = true) | exact (rfl : decide _ = false) | (refine decide_eq_true ?_; assumption) | (refine decide_eq_false ?_; assumption) | (refine decide_eq_true ?_; omega) | (refine decide_eq_false ?_; omega)); rfl)) (WrA.cE (nowe_l σ6 gx db pb pc cc (sizes p.vars).toNat p inp LN.1 (3000 * i + LN.2) g5x mb5 sb5 d5 s5 pi5 ci5 pj5 cj5 hok2 (by omega) hcl2.symm) rfl) ?_
          rintro _ σ7 _ ⟨_, ⟨po, co, pv2, cv2, rfl, hvo, hvc, hs7, rfl⟩, rfl⟩
          refine stays (XPA.cl ?_)
          refine XPA.wr0 rfl rfl (by first | exact Gd.free | exact Gd.isB rfl rfl rfl | (apply Gd.isQ; rfl; rfl; exact (by first | exact (rfl : decide _ = true) | exact (rfl : decide _ = false) | (refine decide_eq_true ?_; assumption) | (refine decide_eq_false ?_; assumption) | (refine decide_eq_true ?_; omega) | (refine decide_eq_false ?_; omega)); rfl)) (WrA.cE (nowe_l σ7 gy db' pb' pc' cc' (sizes p.vars).toNat p inp LN.1 (3000 * i + LN.2) g6x mb6 sb6 d6 s6 pi6 ci6 pj6 cj6 hok2 (by omega) hcl2.symm) rfl) ?_
          rintro _ σ8 _ ⟨_, ⟨po3, co3, pv3, cv3, rfl, hvo3, hvc3, hs8, rfl⟩, rfl⟩
          refine stays (XPA.cl ?_)
          refine XPA.wr0 rfl rfl (by first | exact Gd.free | exact Gd.isB rfl rfl rfl | (apply Gd.isQ; rfl; rfl; exact (by first | exact (rfl : decide _ = true) | exact (rfl : decide _ = false) | (refine decide_eq_true ?_; assumption) | (refine decide_eq_false ?_; assumption) | (refine decide_eq_true ?_; omega) | (refine decide_eq_false ?_; omega)); rfl)) (WrA.cE (sresult_a σ8 _ _ _ _ _ LN.1.b.out LN.1.b.m.cells (hvo.mono hs8) (hvc.mono hs8) hvo3 hvc3) rfl) ?_
          rintro _ _ _ ⟨_, ⟨rfl, rfl, rfl⟩, rfl⟩
          refine stays (XPA.cl ?_)
          first | refine XPA.puG rfl rfl (by first | exact Rd.notp rfl | exact Rd.not rfl) ?_ | refine XPA.puOffG rfl rfl ?_
          refine zu rfl rfl (by first | exact Rd.pT rfl | exact Rd.pF rfl | exact Rd.pP rfl) ?_
          refine zu rfl rfl Rd.mv ?_
          first | refine XPA.puG rfl rfl Rd.mv ?_ | refine XPA.puOffG rfl rfl ?_
          first | refine XPA.puG rfl rfl (Rd.nilCheck rfl) ?_ | refine XPA.puOffG rfl rfl ?_
          first | refine XPA.puG rfl rfl (Rd.fA rfl) ?_ | refine XPA.puOffG rfl rfl ?_
          first | refine XPA.rdG rfl rfl (Rd.ldC rfl (tyrow rfl) rfl) ?_ | refine XPA.offG rfl rfl ?_
          first | refine XPA.puG rfl rfl (Rd.nilCheck rfl) ?_ | refine XPA.puOffG rfl rfl ?_
          first | refine XPA.puG rfl rfl (Rd.fA rfl) ?_ | refine XPA.puOffG rfl rfl ?_
          first | refine XPA.rdG rfl rfl (Rd.ldC rfl (tyrow rfl) rfl) ?_ | refine XPA.offG rfl rfl ?_
          first | refine XPA.puG rfl rfl Rd.mv ?_ | refine XPA.puOffG rfl rfl ?_
          first | refine XPA.puG rfl rfl (Rd.nilCheck rfl) ?_ | refine XPA.puOffG rfl rfl ?_
          first | refine XPA.puG rfl rfl (Rd.fA rfl) ?_ | refine XPA.puOffG rfl rfl ?_
          first | refine XPA.rdG rfl rfl (Rd.ldC rfl (tyrow rfl) rfl) ?_ | refine XPA.offG rfl rfl ?_
          first | refine XPA.puG rfl rfl (Rd.nilCheck rfl) ?_ | refine XPA.puOffG rfl rfl ?_
          first | refine XPA.puG rfl rfl (Rd.fA rfl) ?_ | refine XPA.puOffG rfl rfl ?_
          first | refine XPA.rdG rfl rfl (Rd.ldC rfl (tyrow rfl) rfl) ?_ | refine XPA.offG rfl rfl ?_
          have hs68 := hs7.trans hs8
          refine XPA.wr0 rfl rfl (by first | exact Gd.free | exact Gd.isB rfl rfl rfl | (apply Gd.isQ; rfl; rfl; exact (by first | exact (rfl : decide _ = true) | exact (rfl : decide _ = false) | (refine decide_eq_true ?_; assumption) | (refine decide_eq_false ?_; assumption) | (refine decide_eq_true ?_; omega) | (refine decide_eq_false ?_; omega)); rfl)) (WrA.cE (all_w σ8 mb5 sb5 db d5 s5 LN.1.M) rfl) ?_
          rintro va σ9 _ ⟨_, ⟨hva, hs9, rfl⟩, rfl⟩
          refine stays (XPA.cl ?_)
          have hs69 := hs68.trans hs9
          refine XPA.wrZ0 rfl rfl (by first | exact Gd.free | exact Gd.isB rfl rfl rfl | (apply Gd.isQ; rfl; rfl; exact (by first | exact (rfl : decide _ = true) | exact (rfl : decide _ = false) | (refine decide_eq_true ?_; assumption) | (refine decide_eq_false ?_; assumption) | (refine decide_eq_true ?_; omega) | (refine decide_eq_false ?_; omega)); rfl)) (by kernel_rfl) (WrA.cE (all_w σ9 mb6 sb6 db' d6 s6 LN.1.M) rfl) ?_
          rintro vb σ10 _ ⟨_, ⟨hvb, hs10, rfl⟩, rfl⟩
          refine XPA.cl ?_
          refine XPA.wrZ0 rfl rfl (by first | exact Gd.free | exact Gd.isB rfl rfl rfl | (apply Gd.isQ; rfl; rfl; exact (by first | exact (rfl : decide _ = true) | exact (rfl : decide _ = false) | (refine decide_eq_true ?_; assumption) | (refine decide_eq_false ?_; assumption) | (refine decide_eq_true ?_; omega) | (refine decide_eq_false ?_; omega)); rfl)) (by kernel_rfl) (WrA.cE (slongs_a σ10 _ _ _ _ (hva.mono hs10) hvb) rfl) ?_
          rintro _ _ _ ⟨_, ⟨rfl, rfl, rfl⟩, rfl⟩
          refine XPA.cl ?_
          rw [show decide (LN.1.M.C.flatten = LN.1.M.C.flatten) = true from decide_eq_true rfl]
          first | refine XPA.puG rfl rfl (by first | exact Rd.notp rfl | exact Rd.not rfl) ?_ | refine XPA.puOffG rfl rfl ?_
          refine zu rfl rfl (by first | exact Rd.pT rfl | exact Rd.pF rfl | exact Rd.pP rfl) ?_
          refine XPA.nil ?_
          refine zT ?_
          refine XA.condF rfl rfl ?_
          refine XA.skip ?_
          refine DA.inb_normal ?_
          refine zT ?_; refine zR ?_; refine zO rfl Rd.mv ?_
          refine zO rfl (by first | exact Rd.adi rfl rfl | exact Rd.add rfl rfl) ?_
          refine zO rfl Rd.asg ?_; refine zN ?_; refine zT ?_
          refine ⟨(Keep.upd (Keep.upd (Keep.upd (Keep.upd (Keep.upd (Keep.updO (Keep.updO (Keep.updO (Keep.upd (Keep.upd (Keep.upd (Keep.upd (Keep.upd (Keep.upd (Keep.upd (Keep.upd (Keep.upd (Keep.upd (Keep.upd (Keep.upd (Keep.upd (Keep.upd (Keep.upd (Keep.upd (Keep.upd (Keep.updO (Keep.updO (Keep.updO (Keep.upd (Keep.upd (Keep.upd (Keep.upd (Keep.upd (Keep.upd (Keep.upd (Keep.upd (Keep.upd (Keep.upd (Keep.upd (Keep.upd (Keep.upd (Keep.upd (Keep.upd (Keep.upd (Keep.updO (Keep.upd (Keep.upd (Keep.upd (Keep.upd (Keep.upd (Keep.upd (Keep.upd (Keep.updO (Keep.upd (Keep.upd (Keep.upd (Keep.upd (Keep.upd (Keep.hav (Keep.upd (Keep.hav (Keep.upd (Keep.upd (Keep.upd (Keep.upd (Keep.updN (Keep.updO (Keep.upd (Keep.upd (Keep.upd (Keep.upd (Keep.upd (Keep.upd (Keep.upd (Keep.upd (Keep.upd (Keep.hav (Keep.hav (Keep.hav (Keep.refl _ _) rfl) rfl) rfl) rfl) rfl) rfl) rfl) rfl) rfl) rfl) rfl) rfl) rfl)) rfl) rfl) rfl) rfl) rfl) rfl) rfl) rfl) rfl) rfl) rfl) rfl) rfl) rfl) rfl) rfl) rfl) rfl) rfl) rfl) rfl) rfl) rfl) rfl) rfl) rfl) rfl) rfl) rfl) rfl) rfl) rfl) rfl) rfl) rfl) rfl) rfl) rfl) rfl) rfl) rfl) rfl) rfl) rfl) rfl) rfl) rfl) rfl) rfl) rfl) rfl) rfl) rfl) rfl) rfl) rfl) rfl) rfl) rfl) rfl) rfl) rfl) rfl) rfl) rfl), (i + 1, LN.1), _, (by (repeat (first | exact trivial | refine ⟨rfl, ?_⟩ | refine ⟨Eq.trans rfl (congrArg Value.bool hmat.symm), ?_⟩)); (first | done | fail)), ?_, ⟨(((((hs4.trans hs5).trans hs6).trans hs7).trans hs8).trans hs9).trans hs10, hlt, hok2.le (by show _ ≤ 3000 * (i + 1); omega), gn5, gn6, by show gn5 ≤ ((3000 * (i + 1) : Nat) : Int); omega, by show gn6 ≤ ((3000 * (i + 1) : Nat) : Int); omega, _, _, ⟨g5x, mb5, sb5, d5, s5, pi5, ci5, pj5, cj5, hQ5, hsg5, hG5, hi5.mono ((((hs6.trans hs7).trans hs8).trans hs9).trans hs10), hj5.mono ((((hs6.trans hs7).trans hs8).trans hs9).trans hs10), rfl⟩, ⟨g6x, mb6, sb6, d6, s6, pi6, ci6, pj6, cj6, hQ6, hsg6, hG6, hi6.mono (((hs7.trans hs8).trans hs9).trans hs10), hj6.mono (((hs7.trans hs8).trans hs9).trans hs10), rfl⟩, rfl⟩, (by simp only; omega)⟩
          · exact zE
        refine XA.exit ?_
        refine DA.thn_exit ?_
        refine DA.thn_exit ?_
        refine DA.inb_same ?_
        refine zT ?_; refine zS ?_; refine zR ?_; refine zO rfl Rd.asg ?_; refine zN ?_; refine zT ?_
        refine XA.ret ?_
        exact bodyA.ret (ResA.one rfl rfl) (Ent.nil _) ⟨rfl, (((hs1.trans hs2).trans hs3).trans hs4)⟩
      · have hnew := fun σ (h : σ1.sub σ) => newl_long σ _ p _ inp (hp1.mono h) (hi1.mono h) (by omega) hc (by omega)
        refine zO rfl Rd.mv ?_
        first | ((first | refine zW ?_ | refine zQ ?_); refine zO rfl Rd.mv ?_) | refine zU ?_ | refine zV ?_ | refine zZ ?_
        first | ((first | refine zW ?_ | refine zQ ?_); refine zO rfl (Rd.lenSlice (tyrow rfl) rfl rfl) ?_) | refine zU ?_ | refine zV ?_ | refine zZ ?_
        first | ((first | refine zW ?_ | refine zQ ?_); refine zO rfl (Rd.gtr rfl rfl) ?_) | refine zU ?_ | refine zV ?_ | refine zZ ?_
        refine zO rfl (by first | exact Rd.pT rfl | exact Rd.pF rfl | exact Rd.pP rfl) ?_
        refine zN ?_; refine zT ?_
        refine XA.condF rfl (by first | rfl | exact decide_eq_false (by omega)) ?_
        refine XA.skip ?_
        refine zT ?_; refine zS ?_; refine zR ?_; refine zO rfl (Rd.ldA rfl) ?_; refine zO rfl Rd.mv ?_
        refine zw rfl (WrA.cE (hnew σ1 (.refl _)) rfl) ?_
        rintro _ σ2 _ ⟨_, ⟨rfl, hs2, rfl⟩, rfl⟩
        refine XOA.cl ?_
        refine zO rfl Rd.mv ?_
        refine zO rfl (Rd.extract rfl rfl) ?_
        refine zO rfl (Rd.extract rfl rfl) ?_
        refine zO rfl Rd.asg ?_; refine zO rfl Rd.asg ?_; refine zN ?_; refine zT ?_; refine zS ?_; refine zR ?_; refine zO rfl (Rd.ldA rfl) ?_; refine zO rfl Rd.mv ?_
        refine zw rfl (WrA.cE (hnew σ2 hs2) rfl) ?_
        rintro _ σ3 _ ⟨_, ⟨rfl, hs3, rfl⟩, rfl⟩
        refine XOA.cl ?_
        refine zO rfl Rd.mv ?_
        refine zO rfl (Rd.extract rfl rfl) ?_
        refine zO rfl (Rd.extract rfl rfl) ?_
        refine zO rfl Rd.asg ?_; refine zO rfl Rd.asg ?_; refine zN ?_; refine zT ?_; refine zS ?_; refine zS ?_; refine zR ?_; refine zO rfl Rd.mv ?_
        refine zO rfl (Rd.neq rfl rfl) ?_
        refine zO rfl Rd.mv ?_
        first | ((first | refine zW ?_ | refine zQ ?_); refine zO rfl Rd.mv ?_) | refine zU ?_ | refine zV ?_ | refine zZ ?_
        first | ((first | refine zW ?_ | refine zQ ?_); refine zO rfl (Rd.neq rfl rfl) ?_) | refine zU ?_ | refine zV ?_ | refine zZ ?_
        refine zO rfl (by first | exact Rd.pT rfl | exact Rd.pF rfl | exact Rd.pP rfl) ?_
        refine zN ?_; refine zT ?_
        refine XA.condT rfl rfl ?_
        refine zS ?_; refine zR ?_; refine zO rfl Rd.mv ?_; refine zO rfl Rd.mv ?_; refine zO rfl (Rd.eql rfl rfl) ?_; refine zO rfl Rd.asg ?_; refine zN ?_; refine zT ?_
        refine XA.ret ?_
        refine DA.thn_ret ?_
        exact bodyA.ret (ResA.one rfl rfl) (Ent.nil _) ⟨rfl, (hs1.trans hs2).trans hs3⟩
    · have hnew := fun σ (h : σ1.sub σ) => newl_bad σ _ p _ inp (hp1.mono h) (hi1.mono h) (by omega) hc
      refine zO rfl Rd.mv ?_
      first | ((first | refine zW ?_ | refine zQ ?_); refine zO rfl Rd.mv ?_) | refine zU ?_ | refine zV ?_ | refine zZ ?_
      first | ((first | refine zW ?_ | refine zQ ?_); refine zO rfl (Rd.lenSlice (tyrow rfl) rfl rfl) ?_) | refine zU ?_ | refine zV ?_ | refine zZ ?_
      first | ((first | refine zW ?_ | refine zQ ?_); refine zO rfl (Rd.gtr rfl rfl) ?_) | refine zU ?_ | refine zV ?_ | refine zZ ?_
      refine zO rfl (by first | exact Rd.pT rfl | exact Rd.pF rfl | exact Rd.pP rfl) ?_
      refine zN ?_; refine zT ?_
      refine XA.condF rfl (by first | rfl | exact decide_eq_false (by omega)) ?_
      refine XA.skip ?_
      refine zT ?_; refine zS ?_; refine zR ?_; refine zO rfl (Rd.ldA rfl) ?_; refine zO rfl Rd.mv ?_
      refine zw rfl (WrA.cE (hnew σ1 (.refl _)) rfl) ?_
      rintro _ σ2 _ ⟨_, ⟨rfl, hs2, rfl⟩, rfl⟩
      refine XOA.cl ?_
      refine zO rfl Rd.mv ?_
      refine zO rfl (Rd.extract rfl rfl) ?_
      refine zO rfl (Rd.extract rfl rfl) ?_
      refine zO rfl Rd.asg ?_; refine zO rfl Rd.asg ?_; refine zN ?_; refine zT ?_; refine zS ?_; refine zR ?_; refine zO rfl (Rd.ldA rfl) ?_; refine zO rfl Rd.mv ?_
      refine zw rfl (WrA.cE (hnew σ2 hs2) rfl) ?_
      rintro _ σ3 _ ⟨_, ⟨rfl, hs3, rfl⟩, rfl⟩
      refine XOA.cl ?_
      refine zO rfl Rd.mv ?_
      refine zO rfl (Rd.extract rfl rfl) ?_
      refine zO rfl (Rd.extract rfl rfl) ?_
      refine zO rfl Rd.asg ?_; refine zO rfl Rd.asg ?_; refine zN ?_; refine zT ?_; refine zS ?_; refine zS ?_; refine zR ?_; refine zO rfl Rd.mv ?_
      refine zO rfl (Rd.neq rfl rfl) ?_
      rw [show decide (checkP p ≠ 0) = true from decide_eq_true hc]
      refine zO rfl Rd.mv ?_
      first | ((first | refine zW ?_ | refine zQ ?_); refine zO rfl Rd.mv ?_) | refine zU ?_ | refine zV ?_ | refine zZ ?_
      first | ((first | refine zW ?_ | refine zQ ?_); refine zO rfl (Rd.neq rfl rfl) ?_) | refine zU ?_ | refine zV ?_ | refine zZ ?_
      refine zO rfl (by first | exact Rd.pT rfl | exact Rd.pF rfl | exact Rd.pP rfl) ?_
      refine zN ?_; refine zT ?_
      refine XA.condT rfl rfl ?_
      refine zS ?_; refine zR ?_; refine zO rfl Rd.mv ?_; refine zO rfl Rd.mv ?_; refine zO rfl (Rd.eql rfl rfl) ?_; refine zO rfl Rd.asg ?_; refine zN ?_; refine zT ?_
      refine XA.ret ?_
      refine DA.thn_ret ?_
      exact bodyA.ret (ResA.one rfl rfl) (Ent.nil _) ⟨congrArg Value.bool (decide_eq_true rfl), (hs1.trans hs2).trans hs3⟩
end Go.Proofs.Ytmnmcjdgnpgchaa

namespace Go.Proofs.Ytmnmcjdgnpgchaa
open Go X Go.ChangeShapes Go.WideShapes Go.ChangeAt Go.RowKit
theorem trodAll_five {H : Type} {enc : TypeId × Value → H} {P : Program} {w : World} {base : Nat} {spare : Nat → Bool} {held : Bool} {t t1 t2 t3 t4 : TypeId} {args : Array Value} {ds : List (DataW H)} {ps : List MemPlace} (h : DataW.TrodAll enc P w base spare held [t, t1, t2, t3, t4] args.toList ds ps) :
    ∃ v v1 v2 v3 v4 d d1 d2 d3 d4 p p1 p2 p3 p4, args = #[v, v1, v2, v3, v4] ∧ ds = [d, d1, d2, d3, d4] ∧ ps = p ++ p1 ++ p2 ++ p3 ++ p4 ∧ DataW.Trod enc P w base spare held t v d p ∧ DataW.Trod enc P w base spare held t1 v1 d1 p1 ∧ DataW.Trod enc P w base spare held t2 v2 d2 p2 ∧ DataW.Trod enc P w base spare held t3 v3 d3 p3 ∧ DataW.Trod enc P w base spare held t4 v4 d4 p4 := by
  obtain ⟨v, vs, d, ds', p, q, hargs, rfl, rfl, hd, hr⟩ := trodAll_cons h
  obtain ⟨v1, vs1, d1, ds1, p1, q1, rfl, rfl, rfl, hd1, hr1⟩ := trodAll_cons hr
  obtain ⟨v2, vs2, d2, ds2, p2, q2, rfl, rfl, rfl, hd2, hr2⟩ := trodAll_cons hr1
  obtain ⟨v3, vs3, d3, ds3, p3, q3, rfl, rfl, rfl, hd3, hr3⟩ := trodAll_cons hr2
  obtain ⟨v4, vs4, d4, ds4, p4, q4, rfl, rfl, rfl, hd4, hr4⟩ := trodAll_cons hr3
  obtain ⟨rfl, rfl, rfl⟩ := trodAll_nil hr4
  exact ⟨v, v1, v2, v3, v4, d, d1, d2, d3, d4, p, p1, p2, p3, p4, by cases args; simp_all, rfl, by simp, hd, hd1, hd2, hd3, hd4⟩
theorem lst4p {α : Type} : ∀ {l : List α}, l.length = 4 → ∃ a b c d, l = [a, b, c, d]
  | [a, b, c, d], _ => ⟨a, b, c, d, rfl⟩
theorem dec_lstp : Dec Try.prog 74 rLStp := ⟨fun {H enc w fuel cs x} h => by
  obtain ⟨hl, hx⟩ := trod_fields (tyrow rfl) rfl h
  obtain ⟨f0, y0, h0⟩ := hx (3, 0) (by simp)
  obtain ⟨f1, y1, h1⟩ := hx (3, 1) (by simp)
  obtain ⟨f2, y2, h2⟩ := hx (3, 2) (by simp)
  obtain ⟨f3, y3, h3⟩ := hx (66, 3) (by simp)
  obtain ⟨a0, p0, -⟩ := (Dec.int (tyrow rfl) rfl).out h0
  obtain ⟨a1, p1, -⟩ := (Dec.int (tyrow rfl) rfl).out h1
  obtain ⟨a2, p2, q2⟩ := (Dec.int (tyrow rfl) rfl).out h2
  obtain ⟨a3, p3, q3⟩ := (Dec.int (tyrow rfl) rfl).out h3
  rw [cellsOf_ty' (tyrow rfl)] at p0 p1 p2 p3
  have hcs : cs.length = 4 := hl
  obtain ⟨c0, c1, c2, c3, rfl⟩ := lst4p hcs
  simp only [List.drop_zero, List.drop_succ_cons] at p0 p1 p2 p3
  have e0 : c0 = i64 a0 := by have := congrArg (·[0]?) p0; simpa using this
  have e1 : c1 = i64 a1 := by have := congrArg (·[0]?) p1; simpa using this
  have e2 : c2 = i64 a2 := by have := congrArg (·[0]?) p2; simpa using this
  have e3 : c3 = .int .u64 a3 := by have := congrArg (·[0]?) p3; simpa using this
  subst e0 e1 e2 e3
  exact ⟨⟨a0, a1, a2, a3⟩, rfl, Int.lt_of_le_of_lt q2.2 (by decide), q3.1, Int.lt_of_le_of_lt q3.2 (by decide)⟩⟩
end Go.Proofs.Ytmnmcjdgnpgchaa

namespace Go.Proofs.Ytmnmcjdgnpgchaa
open Go X Go.ChangeShapes Go.WideShapes Go.ChangeAt Go.RowKit
set_option maxRecDepth 100000 in
theorem lifeMasks_lifted (os : Os) (started : os.Started) (H : Type) (enc : TypeId × Value → H) :
    ReturnsInHanded {} Try.checked os 9 .any (Rows.lifeMasksSpec.pre6 enc Try.prog Try.f9 Rows.lifeMasksRow.domain false) (Rows.lifeMasksSpec.post enc Try.prog Try.f9 false true false false) := by
  refine returnsInHanded_of_change (C := Try.checked) Try.own started (by kernel_rfl) Try.func9
    (ChangeSpec.witness6 (enc := enc) (C := Try.checked) false ⟨#[], #[.agg #[.slice none 0 0, .slice none 0 0], .slice none 0 0, .slice none 0 0, .slice none 0 0, .int .i64 0], []⟩ 8 (by kernel_rfl) (by kernel_rfl) (by kernel_rfl) (by kernel_rfl)) ?_
  intro W base args ds gs before hval0 hW hcnd _
  have hval : ∀ (j : Nat) t v, Try.f9.params[j]? = some t → args[j]? = some v → Value.okWide Try.prog W .any base t v := hval0
  have hW' := hW
  obtain ⟨p, q, hA0, hV, rfl, hfz, hnd⟩ := hW
  have hA : DataW.TrodAll enc Try.prog W 0 (fun _ => true) true [25, 26, 65, 78, 3] args.toList ds p := hA0
  obtain ⟨v0, v1, v2, v3, v4, d0, d1, d2, d3, d4, p0, p1, p2, p3, p4, rfl, rfl, rfl, h0, h1, h2, h3, h4⟩ := trodAll_five hA
  have hb : Try.prog.underlying 4 = some .bool := by kernel_rfl
  refine post_true (fid := 9) (tb := 4) Try.laidOut (by kernel_rfl) rfl rfl hb ?_ hW' (callsX_true ?_)
  · obtain ⟨rfl, rfl⟩ := trodVars_none hV; rfl
  · obtain ⟨pr0, cs0, rfl, hp0⟩ := Dec.agg dec_pr (tyrow rfl) rfl (hval 0 _ v0 rfl rfl) h0
    obtain ⟨xs1, _, e1, hxs1⟩ := (Dec.slice (tyrow rfl) rfl (tyrow rfl) rfl (by decide) (Dec.int (tyrow rfl) rfl)).one (tyrow rfl) rfl (hval 1 _ v1 rfl rfl) h1 rSl_one
    simp only [List.cons.injEq, and_true] at e1
    subst e1
    obtain ⟨ms2, _, e2, hms2⟩ := (Dec.slice (tyrow rfl) rfl (tyrow rfl) rfl (by decide) dec_lstp).one (tyrow rfl) rfl (hval 2 _ v2 rfl rfl) h2 rSl_one
    simp only [List.cons.injEq, and_true] at e2
    subst e2
    obtain ⟨us3, _, e3, hus3⟩ := (Dec.slice (tyrow rfl) rfl (tyrow rfl) rfl (by decide) (Dec.int (tyrow rfl) rfl)).one (tyrow rfl) rfl (hval 3 _ v3 rfl rfl) h3 rSl_one
    simp only [List.cons.injEq, and_true] at e3
    subst e3
    obtain ⟨n4, e4, ln4, un4⟩ := (Dec.int (tyrow rfl) rfl).one (tyrow rfl) rfl (hval 4 _ v4 rfl rfl) h4 rInt_one
    simp only [List.cons.injEq, and_true] at e4
    subst e4
    exact masks_law _ cs0 pr0 _ xs1 _ ms2 _ us3 n4 hp0 (pints_of hxs1) hms2 hus3
theorem lifeMasks_holds : Rows.LifeMasksSaid :=
  OpenClaim.holds_of_wide 9 Try.f9 rfl rfl rfl rfl rfl rfl rfl ⟨rfl, rfl, rfl, rfl, rfl⟩ rfl rfl rfl rfl rfl (by kernel_rfl) Try.func9 (by kernel_rfl)
    (of_decide_eq_true (by kernel_rfl)) (by unfold Func.isWrapper; first | (rw [if_pos (by decide +kernel)]; kernel_rfl) | (rw [if_neg (by decide +kernel)]; exact ⟨rfl, rfl⟩))
    (fun os started H enc _ => lifeMasks_lifted os started H enc)
end Go.Proofs.Ytmnmcjdgnpgchaa

