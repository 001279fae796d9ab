/- The laws of package compile: compileBegun. -/
import Derived.Test.YtbbghdkndbpmmaaKm
namespace Go.Proofs.Ytbbghdkndbpmmaa
open Go X
set_option maxHeartbeats 1000000
def progK : Pr := ⟨[], [.mk 3 0 (.mk 1 0 5 []) (.mk 0 0 0 []) [] []]⟩
theorem checkK : checkP progK = 0 := by decide +kernel
theorem codeK : codeOf progK = [⟨1, 0, 0, 5⟩, ⟨11, 0, 0, 0⟩, ⟨16, 0, 0, 0⟩] := by decide +kernel
theorem kbegun_a (σ : PH) : CallsA Try.prog 29 #[] σ [] (RetA fun v σ' Γ' => v = .bool true ∧ σ.sub σ' ∧ Γ' = []) := by
  refine enterA0 Try.func29 rfl rfl rfl ?_
  refine zS ?_; refine zR ?_; refine zO rfl Rd.asg ?_; refine zN ?_; refine zT ?_; refine zS ?_; refine zR ?_
  refine zO rfl (Rd.bl (fun _ _ => tyrow) rfl rfl rfl) ?_
  refine zO rfl (Rd.bl (fun _ _ => tyrow) rfl rfl rfl) ?_
  refine XOA.wr0 rfl (WrA.bs1 (tyrow rfl) rfl (tyrow rfl)) ?_
  rintro _ _ _ ⟨g6, rfl, rfl, rfl⟩
  refine zO rfl (Rd.bl (fun _ _ => tyrow) rfl rfl rfl) ?_
  refine XOA.frz (R := blk g6 _ 46) (by ((repeat (first | with_reducible exact Sel.head | apply Sel.tail)); (first | done | fail))) blk_frz blk_frz_mono ?_
  rintro σ2 ⟨⟩ hr8 hs2
  have nilE : ∀ σ, PSl 4 ExAt σ (.slice none 0 0) [] := fun σ => PSl.nil 4 ExAt σ
  have nilS : ∀ σ, PSl 12 StAt σ (.slice none 0 0) [] := fun σ => PSl.nil 12 StAt σ
  have okz : ∀ n : Int, -1000 ≤ n → n ≤ 1000 → i64ok n := fun n h1 h2 => ⟨by omega, by omega⟩
  have hst : StAt σ2 [i64 3, i64 0, i64 1, i64 0, i64 5, .slice none 0 0, i64 0, i64 0, i64 0, .slice none 0 0, .slice none 0 0, .slice none 0 0] (.mk 3 0 (.mk 1 0 5 []) (.mk 0 0 0 []) [] []) :=
    StAt.of (okz _ (by decide) (by decide)) (okz _ (by decide) (by decide)) (ExAt.of (okz _ (by decide) (by decide)) (okz _ (by decide) (by decide)) (okz _ (by decide) (by decide)) (nilE σ2)) (ExAt.of (okz _ (by decide) (by decide)) (okz _ (by decide) (by decide)) (okz _ (by decide) (by decide)) (nilE σ2)) (nilS σ2) (nilS σ2)
  have hbs : PSl 12 StAt σ2 (.slice (some ⟨g6, 0, none⟩) 1 1) progK.body :=
    Rows_.psl ((Rows_.nil 12 StAt σ2).snoc rfl hst) rfl ⟨Nat.le_refl _, by simp [maxLen], rfl, fun _ => ⟨g6, 0, rfl, hr8⟩⟩
  have hp0 : PrAt σ2 [.slice none 0 0, .slice (some ⟨g6, 0, none⟩) 1 1] progK := ⟨_, _, rfl, PSl.nil _ _ _, hbs⟩
  refine XOA.wr0 rfl (WrA.cE (make_a σ2 _ progK hp0 (by decide +kernel)) rfl) ?_
  rintro _ σ3 _ ⟨_, ⟨sl, rfl, hsl, hs3, rfl⟩, rfl⟩
  refine XOA.cl ?_
  rw [checkK, if_pos rfl, codeK] at hsl
  rw [checkK]
  obtain ⟨q, cq, rfl, -, -⟩ := hsl.shape
  obtain ⟨g0, o0, r0, rfl, rfl, -, hr0⟩ := hsl.at (show _ = some (⟨1, 0, 0, 5⟩ : In) from rfl : ([⟨1, 0, 0, 5⟩, ⟨11, 0, 0, 0⟩, ⟨16, 0, 0, 0⟩] : List In)[0]? = _)
  have k0 : PRow σ3 g0 (o0 + 0 * 4 + 3) [i64 5] := hr0.sub (j := 3) rfl
  obtain ⟨g1, o1, r1, e1, rfl, -, hr1⟩ := hsl.at (show _ = some (⟨11, 0, 0, 0⟩ : In) from rfl : ([⟨1, 0, 0, 5⟩, ⟨11, 0, 0, 0⟩, ⟨16, 0, 0, 0⟩] : List In)[1]? = _)
  obtain ⟨g2, o2, r2, e2, rfl, -, hr2⟩ := hsl.at (show _ = some (⟨16, 0, 0, 0⟩ : In) from rfl : ([⟨1, 0, 0, 5⟩, ⟨11, 0, 0, 0⟩, ⟨16, 0, 0, 0⟩] : List In)[2]? = _)
  simp only [Option.some.injEq, Addr.mk.injEq, and_true] at e1 e2
  obtain ⟨rfl, rfl⟩ := e1
  obtain ⟨rfl, rfl⟩ := e2
  have k1 : PRow σ3 g0 (o0 + 1 * 4) [i64 11] := hr1.sub (j := 0) rfl
  have k2 : PRow σ3 g0 (o0 + 2 * 4) [i64 16] := hr2.sub (j := 0) rfl
  refine zO rfl Rd.mv ?_
  refine zO rfl (Rd.extract rfl rfl) ?_
  refine zO rfl (Rd.extract rfl rfl) ?_
  refine zO rfl Rd.asg ?_; refine zO rfl Rd.asg ?_; refine zN ?_; refine zT ?_; refine zS ?_; refine zR ?_; refine zO rfl Rd.mv ?_; refine zO rfl (Rd.eql rfl rfl) ?_; refine zO rfl Rd.mv ?_
  first | ((first | refine zW ?_ | refine zQ ?_); refine zO rfl Rd.mv ?_) | refine zU ?_ | refine zV ?_ | refine zZ ?_
  first | ((first | refine zW ?_ | refine zQ ?_); refine zO rfl (Rd.lenSlice (tyrow rfl) rfl rfl) ?_) | refine zU ?_ | refine zV ?_ | refine zZ ?_
  first | ((first | refine zW ?_ | refine zQ ?_); refine zO rfl (Rd.eql rfl rfl) ?_) | refine zU ?_ | refine zV ?_ | refine zZ ?_
  refine zO rfl (by first | exact Rd.pT rfl | exact Rd.pF rfl | exact Rd.pP rfl) ?_
  refine zO rfl Rd.mv ?_
  first | ((first | refine zW ?_ | refine zQ ?_); refine zO rfl Rd.mv ?_) | refine zU ?_ | refine zV ?_ | refine zZ ?_
  first | ((first | refine zW ?_ | refine zQ ?_); refine zO rfl (Rd.ixS rfl rfl) ?_) | refine zU ?_ | refine zV ?_ | refine zZ ?_
  first | ((first | refine zW ?_ | refine zQ ?_); refine zO rfl (Rd.fA rfl) ?_) | refine zU ?_ | refine zV ?_ | refine zZ ?_
  first | ((first | refine zW ?_ | refine zQ ?_); refine zO rfl (Rd.ldC rfl (tyrow rfl) rfl) ?_) | refine zU ?_ | refine zV ?_ | refine zZ ?_
  first | ((first | refine zW ?_ | refine zQ ?_); refine zO rfl (Rd.eql rfl rfl) ?_) | refine zU ?_ | refine zV ?_ | refine zZ ?_
  refine zO rfl (by first | exact Rd.pT rfl | exact Rd.pF rfl | exact Rd.pP rfl) ?_
  refine zO rfl Rd.mv ?_
  first | ((first | refine zW ?_ | refine zQ ?_); refine zO rfl Rd.mv ?_) | refine zU ?_ | refine zV ?_ | refine zZ ?_
  first | ((first | refine zW ?_ | refine zQ ?_); refine zO rfl (Rd.ixS rfl rfl) ?_) | refine zU ?_ | refine zV ?_ | refine zZ ?_
  first | ((first | refine zW ?_ | refine zQ ?_); refine zO rfl (Rd.fA rfl) ?_) | refine zU ?_ | refine zV ?_ | refine zZ ?_
  first | ((first | refine zW ?_ | refine zQ ?_); refine zO rfl (Rd.ldC rfl (tyrow rfl) rfl) ?_) | refine zU ?_ | refine zV ?_ | refine zZ ?_
  first | ((first | refine zW ?_ | refine zQ ?_); refine zO rfl (Rd.eql rfl rfl) ?_) | refine zU ?_ | refine zV ?_ | refine zZ ?_
  refine zO rfl (by first | exact Rd.pT rfl | exact Rd.pF rfl | exact Rd.pP rfl) ?_
  refine zO rfl Rd.mv ?_
  first | ((first | refine zW ?_ | refine zQ ?_); refine zO rfl Rd.mv ?_) | refine zU ?_ | refine zV ?_ | refine zZ ?_
  first | ((first | refine zW ?_ | refine zQ ?_); refine zO rfl (Rd.ixS rfl rfl) ?_) | refine zU ?_ | refine zV ?_ | refine zZ ?_
  first | ((first | refine zW ?_ | refine zQ ?_); refine zO rfl (Rd.fA rfl) ?_) | refine zU ?_ | refine zV ?_ | refine zZ ?_
  first | ((first | refine zW ?_ | refine zQ ?_); refine zO rfl (Rd.ldC rfl (tyrow rfl) rfl) ?_) | refine zU ?_ | refine zV ?_ | refine zZ ?_
  first | ((first | refine zW ?_ | refine zQ ?_); refine zO rfl (Rd.eql rfl rfl) ?_) | refine zU ?_ | refine zV ?_ | refine zZ ?_
  refine zO rfl (by first | exact Rd.pT rfl | exact Rd.pF rfl | exact Rd.pP rfl) ?_
  refine zO rfl Rd.asg ?_; refine zN ?_; refine zT ?_
  refine XA.ret ?_
  exact bodyA.ret (ResA.one rfl rfl) (Ent.nil _) ⟨rfl, hs2.trans hs3, rfl⟩
theorem in_row {σ : PH} {g o : Nat} {x : In} {row : List Value} (h : rIn σ row x) (hr : PRow σ g o row) : PRow σ g o [i64 x.op] ∧ PRow σ g (o + 1) [i64 x.a] ∧ PRow σ g (o + 2) [i64 x.b] ∧ PRow σ g (o + 3) [i64 x.n] := by
  subst h
  exact ⟨hr.sub (j := 0) rfl, hr.sub (j := 1) rfl, hr.sub (j := 2) rfl, hr.sub (j := 3) rfl⟩
end Go.Proofs.Ytbbghdkndbpmmaa
