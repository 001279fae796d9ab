/- The law MachinePrints holds: a place is printed at once: for every list of numbers at places. Condition: none. -/
import Derived.Test.YtmnmcjdgnpgchaaMp4
namespace Go.Proofs.Ytmnmcjdgnpgchaa
open Go X
set_option maxHeartbeats 2000000
theorem wordC_noP (a : Int) : wordC noP a = 0 := by
  unfold wordC; split
  · rename_i h
    have h8 : a.toNat / 8 < 14 := by omega
    have e : noP.getD (a.toNat / 8) DiskS.zeros = DiskS.zeros := by
      rw [noP, List.getD_eq_getElem?_getD, List.getElem?_replicate]; split <;> rfl
    rw [e]
    have h9 : a.toNat % 8 < 8 := by omega
    generalize a.toNat % 8 = k at h9
    match k, h9 with
    | 0, _ => rfl
    | 1, _ => rfl
    | 2, _ => rfl
    | 3, _ => rfl
    | 4, _ => rfl
    | 5, _ => rfl
    | 6, _ => rfl
    | 7, _ => rfl
  · rfl
theorem shows0 {n : Nat} (h : n ≤ 48) : Shows noP (be0 n).m :=
  ⟨noP_ok, wordC_noP _, wordC_noP _, wordC_noP _, wordC_noP _, wordC_noP _, fun k hk => by rw [wordC_noP]; simp [be0, List.getD_eq_getElem?_getD, List.getElem?_replicate]; split <;> rfl, fun j hj => by simp [be0] at hj, by simpa [be0] using h, by simp [be0]⟩
def M0 : Me := ⟨noP, noB⟩
theorem mach0 {p : Pr} (hc : checkP p = 0) (inp : List Int) (hi : inp.length ≤ 1000000) (hl : (codeOf p).length ≤ 1000000) : MachOk p inp M0 (be0 (sizes p.vars).toNat) 0 := by
  obtain ⟨-, -, hv1, h48⟩ := check_valid hc
  exact ⟨hc, be0_inv hc inp, shows0 (by omega), hi, hl, Nat.le_refl _⟩
def zEx : Ex := .mk 0 0 0 []
def progM : Pr := ⟨[⟨⟨#[97]⟩, 1⟩], [.mk 4 0 zEx zEx [] [], .mk 3 0 (.mk 2 0 0 []) zEx [] [], .mk 7 0 zEx zEx [] []]⟩
theorem checkM : checkP progM = 0 := by decide +kernel
theorem codeM : codeOf progM = [⟨12, 0, 0, 0⟩, ⟨2, 0, 0, 0⟩, ⟨11, 0, 0, 0⟩, ⟨15, 0, 0, 0⟩, ⟨16, 0, 0, 0⟩] := by decide +kernel
def begB : Nat → Be
  | 0 => be0 1
  | k + 1 => nextB (codeOf progM) [7] false (begB k)
def begB' : Nat → Be
  | 0 => be0 1
  | k + 1 => nextB [⟨12, 0, 0, 0⟩, ⟨2, 0, 0, 0⟩, ⟨11, 0, 0, 0⟩, ⟨15, 0, 0, 0⟩, ⟨16, 0, 0, 0⟩] [7] false (begB' k)
theorem begB_eq : ∀ k, begB k = begB' k
  | 0 => rfl
  | k + 1 => by rw [begB, begB', begB_eq k, codeM]
theorem begB_goes {k : Nat} (h : k < 5) : (begB k).m.st = 0 := by
  rw [begB_eq]
  match k, h with
  | 0, _ => rfl
  | 1, _ => rfl
  | 2, _ => rfl
  | 3, _ => rfl
  | 4, _ => rfl
theorem begB_ends : (begB 5).m.st = 1 := by rw [begB_eq]; rfl
theorem begB_6 : (begB 6).m.st = 1 ∧ (begB 6).m.cells = [7] ∧ (begB 6).out = [7] ∧ (begB 6).wrong = false := by
  rw [begB_eq]; exact ⟨rfl, rfl, rfl, rfl⟩
theorem machbegun_a (σ : PH) : CallsA Try.prog 11 #[] σ [] (RetA fun v σ' Γ' => v = .bool true ∧ σ.sub σ' ∧ Γ' = []) := by
  have hG0 : Good DiskS.new s0 := Good.new
  refine enterA0 Try.func11 rfl rfl rfl ?_
  refine zS ?_; refine zR ?_; refine zO rfl Rd.asg ?_; refine zN ?_; refine zT ?_; refine zS ?_; refine zR ?_
  refine zO rfl (Rd.bl (fun _ _ => tyrow) rfl rfl rfl) ?_
  refine XOA.wr0 rfl (WrA.bs1 (tyrow rfl) rfl (tyrow rfl)) ?_
  rintro _ _ _ ⟨g11, rfl, rfl, rfl⟩
  refine zO rfl (Rd.bl (fun _ _ => tyrow) rfl rfl rfl) ?_
  refine zO rfl (Rd.bl (fun _ _ => tyrow) rfl rfl rfl) ?_
  refine zO rfl (Rd.bl (fun _ _ => tyrow) rfl rfl rfl) ?_
  refine zO rfl (Rd.bl (fun _ _ => tyrow) rfl rfl rfl) ?_
  refine XOA.wr0 rfl (WrA.bs (fun _ _ => tyrow) rfl rfl rfl rfl rfl) ?_
  rintro _ _ _ ⟨g16, rfl, rfl, rfl⟩
  refine zO rfl (Rd.bl (fun _ _ => tyrow) rfl rfl rfl) ?_
  refine XOA.frz (R := blk g11 _ 90) (by ((repeat (first | with_reducible exact Sel.head | apply Sel.tail)); (first | done | fail))) blk_frz blk_frz_mono ?_
  rintro σ1 ⟨⟩ hr5 hs1
  refine XOA.frz (R := blk g16 _ 95) (by ((repeat (first | with_reducible exact Sel.head | apply Sel.tail)); (first | done | fail))) blk_frz blk_frz_mono ?_
  rintro σ2 ⟨⟩ hr8 hs2
  have hr5 := hr5.mono hs2
  have nilE : ∀ σ, PSl 4 ExAt σ (.slice none 0 0) [] := fun σ => PSl.nil 4 ExAt σ
  have nilS : ∀ σ, PSl 12 StAt σ (.slice none 0 0) [] := fun σ => PSl.nil 12 StAt σ
  have okz : ∀ n : Int, -1000 ≤ n → n ≤ 1000 → i64ok n := fun n h1 h2 => ⟨by omega, by omega⟩
  have hz : ExAt σ2 [i64 0, i64 0, i64 0, .slice none 0 0] zEx := ExAt.of (okz _ (by decide) (by decide)) (okz _ (by decide) (by decide)) (okz _ (by decide) (by decide)) (nilE σ2)
  have hst1 : StAt σ2 [i64 4, i64 0, i64 0, i64 0, i64 0, .slice none 0 0, i64 0, i64 0, i64 0, .slice none 0 0, .slice none 0 0, .slice none 0 0] (.mk 4 0 zEx zEx [] []) := StAt.of (okz _ (by decide) (by decide)) (okz _ (by decide) (by decide)) hz hz (nilS σ2) (nilS σ2)
  have hst2 : StAt σ2 [i64 3, i64 0, i64 2, i64 0, i64 0, .slice none 0 0, i64 0, i64 0, i64 0, .slice none 0 0, .slice none 0 0, .slice none 0 0] (.mk 3 0 (.mk 2 0 0 []) zEx [] []) := StAt.of (okz _ (by decide) (by decide)) (okz _ (by decide) (by decide)) (ExAt.of (okz _ (by decide) (by decide)) (okz _ (by decide) (by decide)) (okz _ (by decide) (by decide)) (nilE σ2)) hz (nilS σ2) (nilS σ2)
  have hst3 : StAt σ2 [i64 7, i64 0, i64 0, i64 0, i64 0, .slice none 0 0, i64 0, i64 0, i64 0, .slice none 0 0, .slice none 0 0, .slice none 0 0] (.mk 7 0 zEx zEx [] []) := StAt.of (okz _ (by decide) (by decide)) (okz _ (by decide) (by decide)) hz hz (nilS σ2) (nilS σ2)
  have hvs : PSl 2 rVa σ2 (.slice (some ⟨g11, 0, none⟩) 1 1) progM.vars := by
    refine Rows_.psl (rows := [[.string ⟨#[97]⟩, i64 1]]) ⟨rfl, by simp, fun i row x a b => ?_⟩ rfl ⟨Nat.le_refl _, by simp [maxLen], rfl, fun _ => ⟨g11, 0, rfl, hr5⟩⟩
    match i with
    | 0 => simp [progM] at a b; subst a; subst b; exact ⟨rfl, okz _ (by decide) (by decide), by simp [maxLen, ByteArray.size]⟩
    | i + 1 => simp at a
  have hbs : PSl 12 StAt σ2 (.slice (some ⟨g16, 0, none⟩) 3 3) progM.body :=
    Rows_.psl ((((Rows_.nil 12 StAt σ2).snoc rfl hst1).snoc rfl hst2).snoc rfl hst3) rfl ⟨Nat.le_refl _, by simp [maxLen], rfl, fun _ => ⟨g16, 0, rfl, hr8⟩⟩
  have hp0 : PrAt σ2 [.slice (some ⟨g11, 0, none⟩) 1 1, .slice (some ⟨g16, 0, none⟩) 3 3] progM := ⟨_, _, rfl, hvs, hbs⟩
  refine XOA.wr0 rfl (WrA.cE (make_a σ2 _ progM hp0 (by decide +kernel)) rfl) ?_
  rintro _ σ3 _ ⟨_, ⟨sl, rfl, hsl, hs3, rfl⟩, rfl⟩
  refine XOA.cl ?_
  rw [checkM, if_pos rfl] at hsl
  rw [checkM]
  obtain ⟨q, cq, rfl, -, -⟩ := hsl.shape
  have h5 : (codeOf progM).length = 5 := by rw [codeM]; rfl
  refine zO rfl Rd.mv ?_
  refine zO rfl (Rd.extract rfl rfl) ?_
  refine zO rfl (Rd.extract rfl rfl) ?_
  refine zO rfl Rd.asg ?_; refine zO rfl Rd.asg ?_; refine zN ?_; refine zT ?_; refine zS ?_; refine zR ?_
  refine XOA.wr0 rfl (WrA.cE (new_a σ3) rfl) ?_
  rintro _ _ _ ⟨_, ⟨db, rfl, rfl, rfl⟩, rfl⟩
  refine XOA.cl ?_
  refine XOA.wr0 rfl (WrA.cE (open_a σ3 db DiskS.new hG0.dok hG0.wlen') rfl) ?_
  rintro _ _ _ ⟨_, ⟨b0, rfl, rfl, rfl⟩, rfl⟩
  refine XOA.cl ?_
  rw [hG0.open]
  refine XOA.wr0 rfl (WrA.cE (new_w σ3 b0 db DiskS.new s0 hG0) rfl) ?_
  rintro _ _ _ ⟨_, ⟨mb, rfl, rfl, rfl⟩, rfl⟩
  refine XOA.cl ?_
  rw [pages0, h5]
  refine zO rfl Rd.asg ?_; refine zN ?_; refine zT ?_; refine zS ?_; refine zS ?_; refine zR ?_; refine zO rfl Rd.mv ?_
  refine zO rfl (Rd.eqPtrNil (tyrow rfl) rfl rfl) ?_
  refine zO rfl Rd.mv ?_
  first | ((first | refine zW ?_ | refine zQ ?_); refine zO rfl Rd.mv ?_) | refine zU ?_ | refine zV ?_ | refine zZ ?_
  first | ((first | refine zW ?_ | refine zQ ?_); refine zO rfl (Rd.lenSlice (tyrow rfl) rfl rfl) ?_) | refine zU ?_ | refine zV ?_ | refine zZ ?_
  first | ((first | refine zW ?_ | refine zQ ?_); refine zO rfl (Rd.neq rfl rfl) ?_) | refine zU ?_ | refine zV ?_ | refine zZ ?_
  refine zO rfl (by first | exact Rd.pT rfl | exact Rd.pF rfl | exact Rd.pP rfl) ?_
  refine zN ?_; refine zT ?_
  refine XA.condF rfl rfl ?_
  refine XA.skip ?_
  refine zT ?_; refine zS ?_; refine zR ?_
  refine zO rfl (Rd.bl (fun _ _ => tyrow) rfl rfl rfl) ?_
  refine XOA.wr0 rfl WrA.bx ?_
  rintro _ _ _ ⟨g32, rfl, rfl, rfl⟩
  refine zO rfl Rd.asg ?_; refine zN ?_; refine zT ?_; refine zS ?_; refine zR ?_; refine zO rfl Rd.mv ?_; refine zO rfl Rd.mv ?_
  refine XOA.wr0 rfl (WrA.bs1 (tyrow rfl) rfl (tyrow rfl)) ?_
  rintro _ _ _ ⟨g35, rfl, rfl, rfl⟩
  refine zO rfl Rd.mv ?_
  refine XOA.ent (Ent.selNil (e := 2) (size := 1) (Ent.refl _)) ?_
  refine XOA.ent (Ent.foldC (Θ := [blk g32 _ 40, lst 2 1 (.slice none 0 0) 0 []]) (by (repeat (first | exact Ent.all _ | (apply Ent.take; focus (first | ((repeat (first | with_reducible exact Sel.head | apply Sel.tail)); done) | ((repeat (first | exact Sel.head | apply Sel.tail)); done))) | apply Ent.takeNil | apply Ent.takeEmp)); (first | done | fail)) (Prin.mk (out := []) (wrong := false) rfl rfl rfl) (Ent.refl _)) ?_
  refine XOA.frz (R := blk g35 _ 2) (by ((repeat (first | with_reducible exact Sel.head | apply Sel.tail)); (first | done | fail))) blk_frz blk_frz_mono ?_
  rintro σ4 ⟨⟩ hr35 hs4
  have hin : PInts σ4 (.slice (some ⟨g35, 0, none⟩) 1 1) [7] := ⟨_, _, rfl, Nat.le_refl _, by simp [maxLen], fun _ => ⟨g35, 0, rfl, hr35⟩⟩
  refine XOA.wr0 rfl (WrA.cE (newm_m σ4 mb g32 q 5 cq _ [7] hin (by decide)) rfl) ?_
  rintro _ σ5 _ ⟨_, ⟨g, pi, ci, rfl, hs5, hi5, rfl⟩, rfl⟩
  refine XOA.cl ?_
  have hsl5 := hsl.mono (hs4.trans hs5) (fun _ _ h => h)
  refine zO rfl Rd.asg ?_; refine zN ?_; refine zT ?_; refine zS ?_; refine zS ?_; refine zR ?_; refine zO rfl Rd.mv ?_
  refine zO rfl (Rd.eqPtrNil (tyrow rfl) rfl rfl) ?_
  refine zN ?_; refine zT ?_
  refine XA.condF rfl rfl ?_
  refine XA.skip ?_
  refine zT ?_; refine zS ?_; refine zR ?_; refine zO rfl Rd.asg ?_; refine zN ?_; refine zT ?_; refine zS ?_; refine zS ?_; refine zR ?_; refine zO rfl Rd.asg ?_; refine zN ?_; refine zT ?_
  refine XA.block ?_
  refine XA.gen [(0, _), (4, _), (5, _), (6, _), (7, _)] ⟨(by with_reducible (conv => lhs; whnf)), (by with_reducible (conv => lhs; whnf)), (by with_reducible (conv => lhs; whnf)), (by with_reducible (conv => lhs; whnf)), (by with_reducible (conv => lhs; whnf)), trivial⟩ (fun δ => ?_)
  dsimp only [List.foldl]
  refine XA.loop [(6, 7), (40, 49)] (fun k : Nat => [(6, i64 k), (7, i64 k)]) (fun k σ' Γ' => σ5.sub σ' ∧ k ≤ 5 ∧ ∃ (d : DiskS) (s : StS) (M : Me), s.gen ≤ k ∧ MachOk progM [7] M (begB k) k ∧ Γ' = [blk g [ptr mb, .slice q 5 cq, .slice pi 1 ci, ptr g32, i64 0, .bool false] 64, Wld mb b0 db d s M, Prin g32 (begB k).out (begB k).wrong]) (fun k => 5 - k) 0 (by exact ⟨rfl, rfl, trivial⟩) (Δ0 := _) ?_ (⟨.refl _, Nat.zero_le _, DiskS.new, s0, M0, Int.le_refl _, mach0 checkM [7] (by decide) (by rw [h5]; decide), rfl⟩) ?_
  · exact zE
  rintro k δ σ6 _ ⟨hs6, hk, d, s, M, hg, hM, rfl⟩
  dsimp only [ovr, List.foldl]
  have hk : k ≤ 5 := hk
  have hany := any_m σ6 g mb b0 db g32 q pi cq ci [7] d s M (begB k) progM k (hsl5.mono hs6 (fun _ _ h => h)) (hi5.mono hs6) (by omega) hM (by omega)
  rw [h5] at hany
  by_cases hlt : k < 5
  · rw [decide_eq_true (begB_goes hlt)] at hany
    refine zS ?_; refine zS ?_; refine zR ?_; refine zO rfl Rd.mv ?_; refine zO rfl (Rd.lss rfl rfl) ?_; refine zO rfl Rd.mv ?_
    first | ((first | refine zW ?_ | refine zQ ?_); refine zO rfl Rd.mv ?_) | refine zU ?_ | refine zV ?_ | refine zZ ?_
    first | refine XOA.wanted rfl rfl ?_ | refine XOA.wq rfl rfl ?_
    refine XOA.wr0 rfl (WrA.cE (hany) rfl) ?_
    rintro _ σ7 _ ⟨_, ⟨d', s', rfl, hg', -, -, -, hs7, rfl⟩, rfl⟩
    refine XOA.cl ?_
    refine zO rfl (by first | exact Rd.pT rfl | exact Rd.pF rfl | exact Rd.pP rfl) ?_
    refine zN ?_; refine zT ?_
    refine XA.condT rfl (by first | rfl | exact decide_eq_true (by omega)) ?_
    refine XA.skip ?_
    refine zT ?_; refine zS ?_
    refine XA.block ?_
    refine zR ?_; refine zO rfl Rd.mv ?_
    refine zO rfl (by first | exact Rd.adi rfl rfl | exact Rd.add rfl rfl) ?_
    refine zO rfl Rd.asg ?_; refine zN ?_
    refine DA.inb_normal ?_
    refine zT ?_; refine zR ?_; refine zO rfl Rd.mv ?_
    refine zO rfl (by first | exact Rd.adi rfl rfl | exact Rd.add rfl rfl) ?_
    refine zO rfl Rd.asg ?_; refine zN ?_; refine zT ?_
    refine ⟨(Keep.upd (Keep.upd (Keep.upd (Keep.upd (Keep.upd (Keep.upd (Keep.upd (Keep.updO (Keep.upd (Keep.upd (Keep.upd (Keep.upd (Keep.upd (Keep.upd (Keep.hav (Keep.hav (Keep.refl _ _) rfl) rfl) rfl) rfl) rfl) rfl) rfl) rfl) rfl) rfl) rfl) rfl) rfl) rfl) rfl) rfl), k + 1, _, (by (repeat (first | exact trivial | refine ⟨rfl, ?_⟩ | refine ⟨Eq.trans rfl (congrArg Value.bool hmat.symm), ?_⟩)); (first | done | fail)), ?_, ⟨hs6.trans hs7, by omega, d', s', _, by omega, hM.next (by omega) false, rfl⟩, (by omega)⟩
    · exact zE
  obtain rfl : k = 5 := by omega
  rw [decide_eq_false (show ¬ (begB 5).m.st = 0 by rw [begB_ends]; decide)] at hany
  obtain ⟨e1, e2, e3, e4⟩ := begB_6
  have e3' : (nextB (codeOf progM) [7] false (begB 5)).out = [7] := e3
  have e4' : (nextB (codeOf progM) [7] false (begB 5)).wrong = false := e4
  have hM6 : Shows (nextM (codeOf progM) [7] M).C (begB 6).m := (hM.next (by omega) false).sh
  refine zS ?_; refine zS ?_; refine zR ?_; refine zO rfl Rd.mv ?_; refine zO rfl (Rd.lss rfl rfl) ?_; refine zO rfl Rd.mv ?_
  first | ((first | refine zW ?_ | refine zQ ?_); refine zO rfl Rd.mv ?_) | refine zU ?_ | refine zV ?_ | refine zZ ?_
  first | refine XOA.wanted rfl rfl ?_ | refine XOA.wq rfl rfl ?_
  refine XOA.wr0 rfl (WrA.cE (hany) rfl) ?_
  rintro _ σ7 _ ⟨_, ⟨d', s', rfl, hg', -, -, -, hs7, rfl⟩, rfl⟩
  refine XOA.cl ?_
  rw [e3', e4']
  refine zO rfl (by first | exact Rd.pT rfl | exact Rd.pF rfl | exact Rd.pP rfl) ?_
  refine zN ?_; refine zT ?_
  refine XA.condF rfl (by first | rfl | exact decide_eq_false (by omega)) ?_
  refine XA.exit ?_
  refine DA.thn_exit ?_
  refine DA.thn_exit ?_
  refine DA.inb_same ?_
  refine zT ?_; refine zS ?_; refine zR ?_; refine zO rfl Rd.mv ?_
  refine XOA.wr0 rfl (WrA.cE (result_m σ7 g mb b0 db g32 _ _ 0 false d' s' _ (begB 6).m [7] false 1 hM6 (by rw [e2]; decide) (by decide)) rfl) ?_
  rintro _ σ8 _ ⟨_, ⟨po, co, pc, cc, rfl, hvo, hvc, hs8, rfl⟩, rfl⟩
  refine XOA.cl ?_
  rw [e2] at hvc
  rw [e1]
  obtain ⟨go, oo, rfl, hro⟩ := hvo.at (show ([7] : List Int)[0]? = some 7 from rfl)
  have hro0 : PRow σ8 go oo [i64 7] := by simpa using hro
  have hvc : PInts σ8 (.slice pc 1 cc) [7] := hvc
  obtain ⟨gc, oc, rfl, hrc⟩ := hvc.at (show ([7] : List Int)[0]? = some 7 from rfl)
  have hrc0 : PRow σ8 gc oc [i64 7] := by simpa using hrc
  refine XOA.wr0 rfl (WrA.alloc (tyrow rfl)) ?_
  rintro _ _ _ ⟨g8, rfl, rfl, rfl⟩
  refine XOA.wr0 rfl (WrA.st (tyrow rfl) rfl) ?_
  rintro _ _ _ ⟨rfl, rfl, rfl⟩
  refine zN ?_; refine zT ?_; refine zS ?_; refine zR ?_; refine zO rfl Rd.mv ?_; refine zO rfl (Rd.eql rfl rfl) ?_; refine zO rfl Rd.mv ?_
  first | ((first | refine zW ?_ | refine zQ ?_); refine zO rfl (Rd.fA rfl) ?_) | refine zU ?_ | refine zV ?_ | refine zZ ?_
  first | ((first | refine zW ?_ | refine zQ ?_); refine zO rfl (Rd.ldC rfl (tyrow rfl) rfl) ?_) | refine zU ?_ | refine zV ?_ | refine zZ ?_
  first | ((first | refine zW ?_ | refine zQ ?_); refine zO rfl (Rd.eql rfl rfl) ?_) | refine zU ?_ | refine zV ?_ | refine zZ ?_
  refine zO rfl (by first | exact Rd.pT rfl | exact Rd.pF rfl | exact Rd.pP rfl) ?_
  refine zO rfl Rd.mv ?_
  first | ((first | refine zW ?_ | refine zQ ?_); refine zO rfl (Rd.fA rfl) ?_) | refine zU ?_ | refine zV ?_ | refine zZ ?_
  first | ((first | refine zW ?_ | refine zQ ?_); refine zO rfl (Rd.ldC rfl (tyrow rfl) rfl) ?_) | refine zU ?_ | refine zV ?_ | refine zZ ?_
  first | ((first | refine zW ?_ | refine zQ ?_); refine zO rfl (Rd.lenSlice (tyrow rfl) rfl rfl) ?_) | refine zU ?_ | refine zV ?_ | refine zZ ?_
  first | ((first | refine zW ?_ | refine zQ ?_); refine zO rfl (Rd.eql rfl rfl) ?_) | refine zU ?_ | refine zV ?_ | refine zZ ?_
  refine zO rfl (by first | exact Rd.pT rfl | exact Rd.pF rfl | exact Rd.pP rfl) ?_
  refine zO rfl Rd.mv ?_
  first | ((first | refine zW ?_ | refine zQ ?_); refine zO rfl (Rd.fA rfl) ?_) | refine zU ?_ | refine zV ?_ | refine zZ ?_
  first | ((first | refine zW ?_ | refine zQ ?_); refine zO rfl (Rd.ldC rfl (tyrow rfl) rfl) ?_) | refine zU ?_ | refine zV ?_ | refine zZ ?_
  first | ((first | refine zW ?_ | refine zQ ?_); refine zO rfl (Rd.ixS rfl rfl) ?_) | refine zU ?_ | refine zV ?_ | refine zZ ?_
  first | ((first | refine zW ?_ | refine zQ ?_); refine zO rfl (Rd.ldC rfl (tyrow rfl) rfl) ?_) | refine zU ?_ | refine zV ?_ | refine zZ ?_
  first | ((first | refine zW ?_ | refine zQ ?_); refine zO rfl (Rd.eql rfl rfl) ?_) | refine zU ?_ | refine zV ?_ | refine zZ ?_
  refine zO rfl (by first | exact Rd.pT rfl | exact Rd.pF rfl | exact Rd.pP rfl) ?_
  refine zO rfl Rd.mv ?_
  first | ((first | refine zW ?_ | refine zQ ?_); refine zO rfl (Rd.fA rfl) ?_) | refine zU ?_ | refine zV ?_ | refine zZ ?_
  first | ((first | refine zW ?_ | refine zQ ?_); refine zO rfl (Rd.ldC rfl (tyrow rfl) rfl) ?_) | refine zU ?_ | refine zV ?_ | refine zZ ?_
  first | ((first | refine zW ?_ | refine zQ ?_); refine zO rfl (Rd.lenSlice (tyrow rfl) rfl rfl) ?_) | refine zU ?_ | refine zV ?_ | refine zZ ?_
  first | ((first | refine zW ?_ | refine zQ ?_); refine zO rfl (Rd.eql rfl rfl) ?_) | refine zU ?_ | refine zV ?_ | refine zZ ?_
  refine zO rfl (by first | exact Rd.pT rfl | exact Rd.pF rfl | exact Rd.pP rfl) ?_
  refine zO rfl Rd.mv ?_
  first | ((first | refine zW ?_ | refine zQ ?_); refine zO rfl (Rd.fA rfl) ?_) | refine zU ?_ | refine zV ?_ | refine zZ ?_
  first | ((first | refine zW ?_ | refine zQ ?_); refine zO rfl (Rd.ldC rfl (tyrow rfl) rfl) ?_) | refine zU ?_ | refine zV ?_ | refine zZ ?_
  first | ((first | refine zW ?_ | refine zQ ?_); refine zO rfl (Rd.ixS rfl rfl) ?_) | refine zU ?_ | refine zV ?_ | refine zZ ?_
  first | ((first | refine zW ?_ | refine zQ ?_); refine zO rfl (Rd.ldC rfl (tyrow rfl) rfl) ?_) | refine zU ?_ | refine zV ?_ | refine zZ ?_
  first | ((first | refine zW ?_ | refine zQ ?_); refine zO rfl (Rd.eql rfl rfl) ?_) | refine zU ?_ | refine zV ?_ | refine zZ ?_
  refine zO rfl (by first | exact Rd.pT rfl | exact Rd.pF rfl | exact Rd.pP rfl) ?_
  refine zO rfl Rd.mv ?_
  first | ((first | refine zW ?_ | refine zQ ?_); refine zO rfl Rd.mv ?_) | refine zU ?_ | refine zV ?_ | refine zZ ?_
  first | refine XOA.wanted rfl rfl ?_ | refine XOA.wq rfl rfl ?_
  refine XOA.wr0 rfl (WrA.cE (plist_a σ8 g32 [7] false (by decide)) rfl) ?_
  rintro _ _ _ ⟨_, ⟨p2, c2, rfl, rfl, rfl⟩, rfl⟩
  refine XOA.cl ?_
  first | ((first | refine zW ?_ | refine zQ ?_); refine zO rfl (Rd.lenSlice (tyrow rfl) rfl rfl) ?_) | refine zU ?_ | refine zV ?_ | refine zZ ?_
  first | ((first | refine zW ?_ | refine zQ ?_); refine zO rfl (Rd.eql rfl rfl) ?_) | refine zU ?_ | refine zV ?_ | refine zZ ?_
  refine zO rfl (by first | exact Rd.pT rfl | exact Rd.pF rfl | exact Rd.pP rfl) ?_
  refine zO rfl Rd.mv ?_
  first | ((first | refine zW ?_ | refine zQ ?_); refine zO rfl Rd.mv ?_) | refine zU ?_ | refine zV ?_ | refine zZ ?_
  first | refine XOA.wanted rfl rfl ?_ | refine XOA.wq rfl rfl ?_
  refine XOA.wr0 rfl (WrA.cE (pcode_a σ8 g32 [7] false) rfl) ?_
  rintro _ _ _ ⟨_, ⟨rfl, rfl, rfl⟩, rfl⟩
  refine XOA.cl ?_
  first | ((first | refine zW ?_ | refine zQ ?_); refine zO rfl (Rd.eql rfl rfl) ?_) | refine zU ?_ | refine zV ?_ | refine zZ ?_
  refine zO rfl (by first | exact Rd.pT rfl | exact Rd.pF rfl | exact Rd.pP rfl) ?_
  refine zO rfl Rd.asg ?_; refine zN ?_; refine zT ?_
  refine XA.ret ?_
  exact bodyA.ret (ResA.one rfl rfl) (Ent.nil _) ⟨rfl, (((((hs1.trans hs2).trans hs3).trans hs4).trans hs5).trans (hs6.trans hs7)).trans hs8, rfl⟩
end Go.Proofs.Ytmnmcjdgnpgchaa

namespace Go.Proofs.Ytmnmcjdgnpgchaa
open Go X
set_option maxHeartbeats 2000000
/-- Numbers that stay, and numbers that are one's own. -/
theorem sameO_a (σ : PH) (v : Value) (xs ys : List Int) (q : Option Addr) (n c : Nat) (hv : PInts σ v xs) (hn : ys.length = n) (hl : n ≤ 1000000) :
    CallsA Try.prog 23 #[v, .slice q n c] σ [lst 2 1 (.slice q n c) n (ints ys)] (RetA fun r σ' Γ' => r = .bool (decide (xs = ys)) ∧ σ = σ' ∧ Γ' = [lst 2 1 (.slice q n c) n (ints ys)]) := by
  subst hn
  obtain ⟨p, c', rfl, hle, hmx⟩ := hv.shape
  have hlen : xs.length ≤ maxLen := by omega
  simp only [maxLen] at hlen
  by_cases hne : xs.length = ys.length
  · by_cases h0 : ys = []
    · subst h0
      have hx0 : xs.length = 0 := hne
      rw [show decide (xs = []) = true from decide_eq_true (List.eq_nil_of_length_eq_zero hx0)]
      rw [hx0]
      refine enterA2 Try.func23 rfl rfl rfl ?_
      refine zS ?_; refine zR ?_; refine zO rfl Rd.asg ?_; refine zN ?_; refine zT ?_; refine zS ?_; refine zS ?_; refine zR ?_; refine zO rfl Rd.mv ?_; refine zO rfl (Rd.lenSlice (tyrow rfl) rfl rfl) ?_; refine zO rfl Rd.mv ?_; refine zO rfl (Rd.lenSlice (tyrow rfl) rfl rfl) ?_
      refine zO rfl (Rd.neq rfl rfl) ?_
      refine zN ?_; refine zT ?_
      refine XA.condF rfl rfl ?_
      refine XA.skip ?_
      refine zT ?_; refine zS ?_; refine zS ?_; refine zR ?_; refine zO rfl Rd.asg ?_; refine zN ?_; refine zT ?_
      refine XA.block ?_
      refine XA.gen [(0, _), (1, _), (4, _), (5, _)] ⟨(by with_reducible (conv => lhs; whnf)), (by with_reducible (conv => lhs; whnf)), (by with_reducible (conv => lhs; whnf)), (by with_reducible (conv => lhs; whnf)), trivial⟩ (fun δ => ?_)
      dsimp only [List.foldl]
      refine XA.loop [(4, 5), (11, 25)] (fun k : Nat => [(5, i64 k)]) (fun k σ' Γ' => σ = σ' ∧ k = 0 ∧ Γ' = [lst 2 1 (.slice q 0 c) 0 (ints [])]) (fun k => 0) 0 (by exact ⟨rfl, trivial⟩) (Δ0 := _) ?_ (⟨rfl, rfl, rfl⟩) ?_
      · exact zE
      rintro k δ _ _ ⟨rfl, rfl, rfl⟩
      dsimp only [ovr, List.foldl]
      refine zS ?_; refine zS ?_; refine zR ?_; refine zO rfl Rd.mv ?_; refine zO rfl Rd.mv ?_; refine zO rfl (Rd.lenSlice (tyrow rfl) rfl rfl) ?_; refine zO rfl (Rd.lss rfl rfl) ?_; refine zN ?_; refine zT ?_
      refine XA.condF rfl rfl ?_
      refine XA.exit ?_
      refine DA.thn_exit ?_
      refine DA.thn_exit ?_
      refine DA.inb_same ?_
      refine zT ?_; refine zS ?_; refine zR ?_; refine zO rfl Rd.asg ?_; refine zN ?_; refine zT ?_
      refine XA.ret ?_
      exact bodyA.ret (ResA.one rfl rfl) zE ⟨rfl, rfl, rfl⟩
    have hpos : 0 < ys.length := List.length_pos_iff.2 h0
    refine CallsA.opn .head (lst_some hpos) (enters Try.func23 rfl rfl) ?_
    rintro g rfl
    rw [← hne]
    refine enterA2 Try.func23 rfl rfl rfl ?_
    refine zS ?_; refine zR ?_; refine zO rfl Rd.asg ?_; refine zN ?_; refine zT ?_; refine zS ?_; refine zS ?_; refine zR ?_; refine zO rfl Rd.mv ?_; refine zO rfl (Rd.lenSlice (tyrow rfl) rfl rfl) ?_; refine zO rfl Rd.mv ?_; refine zO rfl (Rd.lenSlice (tyrow rfl) rfl rfl) ?_
    refine zO rfl (Rd.neq rfl rfl) ?_
    refine zN ?_; refine zT ?_
    refine XA.condF rfl (decide_eq_false (fun h => h rfl)) ?_
    refine XA.skip ?_
    refine zT ?_; refine zS ?_; refine zS ?_; refine zR ?_; refine zO rfl Rd.asg ?_; refine zN ?_; refine zT ?_
    refine XA.block ?_
    refine XA.gen [(0, _), (1, _), (4, _), (5, _)] ⟨(by with_reducible (conv => lhs; whnf)), (by with_reducible (conv => lhs; whnf)), (by with_reducible (conv => lhs; whnf)), (by with_reducible (conv => lhs; whnf)), trivial⟩ (fun δ => ?_)
    dsimp only [List.foldl]
    refine XA.loop [(4, 5), (11, 25)] (fun k : Nat => [(5, i64 k)]) (fun k σ' Γ' => σ = σ' ∧ k ≤ xs.length ∧ xs.take k = ys.take k ∧ Γ' = [lst 2 1 (.slice (some ⟨g, 0, none⟩) xs.length c) xs.length (ints ys)]) (fun k => xs.length - k) 0 (by exact ⟨rfl, trivial⟩) (Δ0 := _) ?_ (⟨rfl, Nat.zero_le _, rfl, rfl⟩) ?_
    · exact zE
    rintro k δ _ _ ⟨rfl, hk, hall, rfl⟩
    dsimp only [ovr, List.foldl]
    have hk : k ≤ xs.length := hk
    refine zS ?_; refine zS ?_; refine zR ?_; refine zO rfl Rd.mv ?_; refine zO rfl Rd.mv ?_; refine zO rfl (Rd.lenSlice (tyrow rfl) rfl rfl) ?_; refine zO rfl (Rd.lss rfl rfl) ?_; refine zN ?_; refine zT ?_
    refine XA.condp rfl (fun hlt => ?_) (fun hlt => ?_)
    · have hlt : k < xs.length := by omega
      obtain ⟨x, hx⟩ : ∃ x, xs[k]? = some x := ⟨_, List.getElem?_eq_getElem hlt⟩
      obtain ⟨y, hy⟩ : ∃ y, ys[k]? = some y := ⟨_, List.getElem?_eq_getElem (by omega)⟩
      obtain ⟨g1, o, rfl, hr⟩ := hv.at hx
      have hcell : (ints ys)[k]? = some (i64 y) := by simp [ints, hy]
      rw [Nat.mul_one] at hr
      refine XA.skip ?_
      refine zT ?_; refine zS ?_
      refine XA.block ?_
      refine zS ?_
      refine XA.draw (by kernel_rfl) _ _ [] [(0, .pu), (1, .pu), (2, .pu), (3, .rd), (4, .pu), (5, .pu), (6, .pu), (7, .rd), (8, .pu)] (by kernel_rfl) (PH.sub.refl _) (Ent.sel (R := lst 2 1 (.slice (some ⟨g, 0, none⟩) xs.length c) _ _) (by ((repeat (first | with_reducible exact Sel.head | apply Sel.tail)); (first | done | fail))) (Ent.nil _)) ?_
      refine XPA.pu rfl rfl Gd.free Rd.mv ?_
      refine XPA.pu rfl rfl Gd.free Rd.mv ?_
      refine XPA.pu rfl rfl Gd.free (Rd.ixS rfl rfl) ?_
      refine XPA.rd rfl rfl Gd.free (Rd.ldC rfl (tyrow rfl) rfl) ?_
      refine XPA.pu rfl rfl Gd.free Rd.mv ?_
      refine XPA.pu rfl rfl Gd.free Rd.mv ?_
      refine XPA.pu rfl rfl Gd.free (Rd.ixS rfl rfl) ?_
      refine XPA.rd rfl rfl Gd.free (Rd.ldC rfl (tyrow rfl) rfl) ?_
      refine XPA.pu rfl rfl Gd.free (Rd.neq rfl rfl) ?_
      refine XPA.nil ?_
      refine zT ?_
      refine XA.condp rfl (fun he => ?_) (fun he => ?_)
      · refine zS ?_
        refine zR ?_; refine zO rfl Rd.asg ?_; refine zN ?_; refine zT ?_
        refine XA.ret ?_
        refine DA.inb_ret ?_
        refine DA.thn_ret ?_
        refine DA.thn_ret ?_
        refine DA.inb_ret ?_
        refine DA.thn_ret ?_
        exact bodyA.ret (ResA.one rfl rfl) zE ⟨congrArg Value.bool (decide_eq_false (fun e => by subst e; rw [hx] at hy; simp only [Option.some.injEq] at hy; exact he hy)).symm, rfl, rfl⟩
      have hxy : x = y := Classical.byContradiction he
      refine XA.skip ?_
      refine DA.inb_normal ?_
      refine zT ?_; refine zR ?_; refine zO rfl Rd.mv ?_
      refine zO rfl (by first | exact Rd.adi rfl rfl | exact Rd.add rfl rfl) ?_
      refine zO rfl Rd.asg ?_; refine zN ?_; refine zT ?_
      refine ⟨(Keep.upd (Keep.upd (Keep.upd (Keep.upd (Keep.upd (Keep.upd (Keep.upd (Keep.upd (Keep.upd (Keep.upd (Keep.upd (Keep.upd (Keep.upd (Keep.upd (Keep.upd (Keep.upd (Keep.upd (Keep.hav (Keep.hav (Keep.refl _ _) rfl) rfl) rfl) rfl) rfl) rfl) rfl) rfl) rfl) rfl) rfl) rfl) rfl) rfl) rfl) rfl) rfl) rfl) rfl), k + 1, _, (by (repeat (first | exact trivial | refine ⟨rfl, ?_⟩ | refine ⟨Eq.trans rfl (congrArg Value.bool hmat.symm), ?_⟩)); (first | done | fail)), ?_, ⟨rfl, hlt, by rw [takeS hx, takeS hy, hall, hxy], rfl⟩, (by omega)⟩
      · exact zE
    obtain rfl : k = xs.length := by omega
    refine XA.exit ?_
    refine DA.thn_exit ?_
    refine DA.thn_exit ?_
    refine DA.inb_same ?_
    refine zT ?_; refine zS ?_; refine zR ?_; refine zO rfl Rd.asg ?_; refine zN ?_; refine zT ?_
    refine XA.ret ?_
    exact bodyA.ret (ResA.one rfl rfl) zE ⟨congrArg Value.bool (decide_eq_true (by rw [List.take_length, hne, List.take_length] at hall; exact hall)).symm, rfl, rfl⟩
  · rw [decide_eq_false (fun e => hne (by rw [e]))]
    refine enterA2 Try.func23 rfl rfl rfl ?_
    refine zS ?_; refine zR ?_; refine zO rfl Rd.asg ?_; refine zN ?_; refine zT ?_; refine zS ?_; refine zS ?_; refine zR ?_; refine zO rfl Rd.mv ?_; refine zO rfl (Rd.lenSlice (tyrow rfl) rfl rfl) ?_; refine zO rfl Rd.mv ?_; refine zO rfl (Rd.lenSlice (tyrow rfl) rfl rfl) ?_
    refine zO rfl (Rd.neq rfl rfl) ?_
    refine zN ?_; refine zT ?_
    refine XA.condT rfl (decide_eq_true (by omega)) ?_
    refine zS ?_; refine zR ?_; refine zO rfl Rd.asg ?_; refine zN ?_; refine zT ?_
    refine XA.ret ?_
    refine DA.thn_ret ?_
    exact bodyA.ret (ResA.one rfl rfl) zE ⟨rfl, rfl, rfl⟩
structure Pst where
  at_ : Int
  n : Int
def rPst : RT Pst := fun _ cs x => cs = [i64 x.at_, i64 x.n]
theorem lst2p {α : Type} : ∀ {l : List α}, l.length = 2 → ∃ a b, l = [a, b]
  | [a, b], _ => ⟨a, b, rfl⟩
theorem dec_pst : Dec Try.prog 51 rPst := ⟨fun {H enc w fuel cs x} h => by
  obtain ⟨hl, hx⟩ := trod_fields (tyrow rfl) rfl h
  obtain ⟨f0, y0, h0⟩ := hx (2, 0) (by simp)
  obtain ⟨f1, y1, h1⟩ := hx (2, 1) (by simp)
  obtain ⟨a0, p0, -⟩ := (Dec.int (tyrow rfl) rfl).out h0
  obtain ⟨a1, p1, -⟩ := (Dec.int (tyrow rfl) rfl).out h1
  rw [cellsOf_ty' (tyrow rfl)] at p0 p1
  have hcs : cs.length = 2 := hl
  obtain ⟨c0, c1, rfl⟩ := lst2p hcs
  simp only [List.drop_zero, List.drop_succ_cons] at p0 p1
  have e0 : c0 = i64 a0 := by have := congrArg (·[0]?) p0; simpa using this
  have e1 : c1 = i64 a1 := by have := congrArg (·[0]?) p1; simpa using this
  subst e0 e1
  exact ⟨⟨a0, a1⟩, rfl⟩⟩
theorem prS_len (out : List Int) (wrong : Bool) (a n : Int) : (prS out wrong a n).1.length ≤ out.length + 1 := by
  rw [prS]; split
  · simp
  · split <;> simp
theorem prints_law (σ : PH) (sl : Value) (l : List Pst) (hl : PSl 2 rPst σ sl l) : CallsA Try.prog 4 #[sl] σ [] (RetA fun r σ' _ => r = .bool true ∧ σ.sub σ') := by
  obtain ⟨pv, cv, rfl, hvl, hvm⟩ := hl.shape
  have hlen : l.length ≤ maxLen := by omega
  simp only [maxLen] at hlen
  refine enterA1 Try.func4 rfl rfl rfl ?_
  refine zS ?_; refine zR ?_; refine zO rfl Rd.asg ?_; refine zN ?_; refine zT ?_; refine zS ?_; refine zS ?_; refine zR ?_
  refine XOA.wr0 rfl (WrA.cE (machbegun_a σ) rfl) ?_
  rintro _ σ1 _ ⟨_, ⟨rfl, hs1, rfl⟩, rfl⟩
  refine XOA.cl ?_
  have hl1 := hl.mono hs1 (fun cs x h => h)
  refine zO rfl (by first | exact Rd.notp rfl | exact Rd.not rfl) ?_
  refine zN ?_; refine zT ?_
  refine XA.condF rfl rfl ?_
  refine XA.skip ?_
  refine zT ?_; refine zS ?_; refine zS ?_; refine zR ?_; refine zO rfl Rd.mv ?_; refine zO rfl (Rd.lenSlice (tyrow rfl) rfl rfl) ?_
  refine zO rfl (Rd.gtr rfl rfl) ?_
  refine zN ?_; refine zT ?_
  refine XA.condp rfl (fun h300 => ?_) (fun h300 => ?_)
  · refine zS ?_
    refine zR ?_; refine zO rfl Rd.asg ?_; refine zN ?_; refine zT ?_
    refine XA.ret ?_
    refine DA.thn_ret ?_
    exact bodyA.ret (ResA.one rfl rfl) (Ent.nil _) ⟨rfl, hs1⟩
  refine XA.skip ?_
  refine zT ?_; refine zS ?_; refine zR ?_
  refine zO rfl (Rd.bl (fun _ _ => tyrow) rfl rfl rfl) ?_
  refine XOA.wr0 rfl WrA.bx ?_
  rintro _ _ _ ⟨g15, rfl, rfl, rfl⟩
  refine zO rfl Rd.asg ?_; refine zN ?_; refine zT ?_; refine zS ?_; refine zR ?_; refine zO rfl Rd.asg ?_; refine zN ?_; refine zT ?_; refine zS ?_; refine zR ?_; refine zO rfl Rd.asg ?_; refine zN ?_; refine zT ?_; refine zS ?_; refine zS ?_; refine zR ?_; refine zO rfl Rd.asg ?_; refine zN ?_; refine zT ?_
  refine XA.block ?_
  refine XA.ent (Ent.selNil (e := 2) (size := 1) (Ent.refl _)) ?_
  refine XA.ent (Ent.foldC (Θ := [blk g15 _ 40, lst 2 1 (.slice none 0 0) 0 []]) (by (repeat (first | exact Ent.all _ | (apply Ent.take; focus (first | ((repeat (first | with_reducible exact Sel.head | apply Sel.tail)); done) | ((repeat (first | exact Sel.head | apply Sel.tail)); done))) | apply Ent.takeNil | apply Ent.takeEmp)); (first | done | fail)) (Prin.mk (out := []) (wrong := false) rfl rfl rfl) (Ent.refl _)) ?_
  refine XA.ent (Ent.selNil (e := 2) (size := 1) (Ent.refl _)) ?_
  refine XA.gen [(0, _), (2, _), (3, _), (4, _), (5, _), (6, _)] ⟨(by with_reducible (conv => lhs; whnf)), (by with_reducible (conv => lhs; whnf)), (by with_reducible (conv => lhs; whnf)), (by with_reducible (conv => lhs; whnf)), (by with_reducible (conv => lhs; whnf)), (by with_reducible (conv => lhs; whnf)), trivial⟩ (fun δ => ?_)
  dsimp only [List.foldl]
  refine XA.loop [(2, 2), (4, 8), (16, 73)] (fun x : Nat × ((Option Addr × Nat) × (List Int × Bool)) => [(6, i64 x.1), (4, .slice x.2.1.1 x.2.2.1.length x.2.1.2), (5, .bool x.2.2.2)]) (fun x σ' Γ' => σ1.sub σ' ∧ x.1 ≤ l.length ∧ x.2.2.1.length ≤ x.1 ∧ Γ' = [Prin g15 x.2.2.1 x.2.2.2, lst 2 1 (.slice x.2.1.1 x.2.2.1.length x.2.1.2) x.2.2.1.length (ints x.2.2.1)]) (fun x => l.length - x.1) (0, ((none, 0), ([], false))) (by exact ⟨rfl, rfl, rfl, trivial⟩) (Δ0 := _) ?_ (⟨.refl _, Nat.zero_le _, Nat.le_refl _, rfl⟩) ?_
  · exact zE
  rintro ⟨k, ⟨q, c⟩, out, wrong⟩ δ σ2 _ ⟨hs2, hk, hol, rfl⟩
  dsimp only [ovr, List.foldl]
  have hk : k ≤ l.length := hk
  have hol : out.length ≤ k := hol
  refine zS ?_; refine zS ?_; refine zR ?_; refine zO rfl Rd.mv ?_; refine zO rfl Rd.mv ?_; refine zO rfl (Rd.lenSlice (tyrow rfl) rfl rfl) ?_; refine zO rfl (Rd.lss rfl rfl) ?_; refine zN ?_; refine zT ?_
  refine XA.condp rfl (fun hlt => ?_) (fun hlt => ?_)
  · have hlt : k < l.length := by omega
    obtain ⟨x, hx⟩ : ∃ x, l[k]? = some x := ⟨_, List.getElem?_eq_getElem hlt⟩
    obtain ⟨g, o, row, rfl, hrx, hrl, hrow⟩ := (hl1.mono hs2 (fun cs x h => h)).at hx
    obtain ⟨a, n⟩ := x
    obtain rfl : row = [i64 a, i64 n] := hrx
    have hone : ones [i64 n] := ones_lit rfl
    have hol6 : out.length ≤ 1000000 := by omega
    refine XA.skip ?_
    refine zT ?_; refine zS ?_
    refine XA.block ?_
    refine zS ?_; refine zR ?_; refine zO rfl Rd.mv ?_; refine zO rfl Rd.mv ?_
    refine zO rfl (Rd.ixS rfl rfl) ?_
    refine zO rfl (Rd.ldA rfl) ?_
    refine XOA.wr0 rfl (WrA.alloc (tyrow rfl)) ?_
    rintro _ _ _ ⟨g7, rfl, rfl, rfl⟩
    refine XOA.wr0 rfl (WrA.st (tyrow rfl) rfl) ?_
    rintro _ _ _ ⟨rfl, rfl, rfl⟩
    refine zN ?_; refine zT ?_; refine zS ?_; refine zR ?_; refine zO rfl Rd.mv ?_; refine zO rfl (Rd.fA rfl) ?_; refine zO rfl (Rd.ldC rfl (tyrow rfl) rfl) ?_; refine zO rfl (Rd.fA rfl) ?_; refine zO rfl (Rd.ldC rfl (tyrow rfl) rfl) ?_
    refine XOA.wr0 rfl (WrA.cE (pput_a σ2 g15 out wrong a n hol6) rfl) ?_
    rintro _ _ _ ⟨_, ⟨rfl, rfl, rfl⟩, rfl⟩
    refine XOA.cl ?_
    have hpl := prS_len out wrong a n
    refine zN ?_; refine zT ?_; refine zS ?_; refine zS ?_; refine zR ?_; refine zO rfl (Rd.fA rfl) ?_; refine zO rfl (Rd.ldC rfl (tyrow rfl) rfl) ?_; refine zO rfl Rd.mv ?_; refine zO rfl (Rd.lenSlice (tyrow rfl) rfl rfl) ?_; refine zO rfl (Rd.eql rfl rfl) ?_; refine zN ?_; refine zT ?_
    refine XA.join [(4, 5), (37, 61)] (fun x : (Option Addr × Nat) × (List Int × Bool) => [(4, .slice x.1.1 x.2.1.length x.1.2), (5, .bool x.2.2)]) (fun x σ' Γ' => σ2 = σ' ∧ x.2 = prS out wrong a n ∧ Γ' = [blk g7 [i64 a, i64 n] 51, Prin g15 (prS out wrong a n).1 (prS out wrong a n).2, lst 2 1 (.slice x.1.1 x.2.1.length x.1.2) x.2.1.length (ints x.2.1)]) ?_ ?_
    · skip
      by_cases h1 : a = out.length
      · have e : prS out wrong a n = (out ++ [n], wrong) := by rw [prS, if_pos h1]
        refine XA.condT rfl (decide_eq_true h1) ?_
        refine zR ?_; refine zO rfl Rd.mv ?_; refine zO rfl (Rd.fA rfl) ?_; refine zO rfl (Rd.ldC rfl (tyrow rfl) rfl) ?_
        refine XOA.wr0 rfl (WrA.bs1 (tyrow rfl) rfl (tyrow rfl)) ?_
        rintro _ _ _ ⟨g40, rfl, rfl, rfl⟩
        refine XOA.wr0 rfl (WrA.ap1 (tyrow rfl) rfl (tyrow rfl) rfl rfl rfl) ?_
        rintro _ _ _ ⟨p41, c41, rfl, rfl, rfl⟩
        refine zO rfl Rd.asg ?_; refine zN ?_; refine zT ?_
        rw [show ints out ++ [Value.int .i64 n] = ints (out ++ [n]) by simp [ints], show out.length + 1 = (out ++ [n]).length by simp]
        refine ⟨(Keep.upd (Keep.updO (Keep.updO (Keep.upd (Keep.upd (Keep.upd (Keep.refl _ _) rfl) rfl) rfl) rfl) rfl) rfl), ((p41, c41), (out ++ [n], wrong)), _, (by (repeat (first | exact trivial | refine ⟨rfl, ?_⟩ | refine ⟨Eq.trans rfl (congrArg Value.bool hmat.symm), ?_⟩)); (first | done | fail)), ?_, ⟨rfl, e.symm, rfl⟩⟩
        · exact zE
      by_cases h2 : a < 0
      · have e : prS out wrong a n = (out, true) := by rw [prS, if_neg h1, if_pos (.inl h2)]
        refine XA.condF rfl (decide_eq_false h1) ?_
        refine zS ?_
        refine XA.draw (by kernel_rfl) _ _ [] [(0, .pu), (1, .rd), (2, .pu), (3, .pu), (4, .pu), (5, .rd), (6, .pu), (7, .pu), (8, .pu), (9, .pu), (10, .pu), (11, .pu), (12, .pu), (13, .rd), (14, .pu), (15, .rd), (16, .pu), (17, .rd), (18, .pu), (19, .pu)] (by kernel_rfl) (PH.sub.refl _) (Ent.sel (R := blk g7 _ _) (by ((repeat (first | with_reducible exact Sel.head | apply Sel.tail)); (first | done | fail))) (Ent.nil _)) ?_
        refine XPA.pu rfl rfl Gd.free (Rd.fA rfl) ?_
        refine XPA.rd rfl rfl Gd.free (Rd.ldC rfl (tyrow rfl) rfl) ?_
        refine XPA.pu rfl rfl Gd.free (Rd.lss rfl rfl) ?_
        refine XPA.pu rfl rfl Gd.free Rd.mv ?_
        first | refine XPA.puG rfl rfl (Rd.fA rfl) ?_ | refine XPA.puOffG rfl rfl ?_
        first | refine XPA.rdG rfl rfl (Rd.ldC rfl (tyrow rfl) rfl) ?_ | refine XPA.offG rfl rfl ?_
        first | refine XPA.puG rfl rfl Rd.mv ?_ | refine XPA.puOffG rfl rfl ?_
        first | refine XPA.puG rfl rfl (Rd.lenSlice (tyrow rfl) rfl rfl) ?_ | refine XPA.puOffG rfl rfl ?_
        first | refine XPA.puG rfl rfl (Rd.gtr rfl rfl) ?_ | refine XPA.puOffG rfl rfl ?_
        refine XPA.pu rfl rfl Gd.free (by first | exact Rd.pT rfl | exact Rd.pF rfl | exact Rd.pP rfl) ?_
        refine XPA.pu rfl rfl Gd.free Rd.mv ?_
        first | refine XPA.puG rfl rfl Rd.mv ?_ | refine XPA.puOffG rfl rfl ?_
        first | refine XPA.puG rfl rfl (Rd.fA rfl) ?_ | refine XPA.puOffG rfl rfl ?_
        first | refine XPA.rdG rfl rfl (Rd.ldC rfl (tyrow rfl) rfl) ?_ | refine XPA.offG rfl rfl ?_
        first | refine XPA.puG rfl rfl (Rd.ixS rfl rfl) ?_ | refine XPA.puOffG rfl rfl ?_
        first | refine XPA.rdG rfl rfl (Rd.ldC rfl (tyrow rfl) rfl) ?_ | refine XPA.offG rfl rfl ?_
        first | refine XPA.puG rfl rfl (Rd.fA rfl) ?_ | refine XPA.puOffG rfl rfl ?_
        first | refine XPA.rdG rfl rfl (Rd.ldC rfl (tyrow rfl) rfl) ?_ | refine XPA.offG rfl rfl ?_
        first | refine XPA.puG rfl rfl (Rd.neq rfl rfl) ?_ | refine XPA.puOffG rfl rfl ?_
        refine XPA.pu rfl rfl Gd.free (by first | exact Rd.pT rfl | exact Rd.pF rfl | exact Rd.pP rfl) ?_
        refine XPA.nil ?_
        refine zT ?_
        refine XA.condT rfl (by first | rfl | exact decide_eq_true h2) ?_
        refine zR ?_; refine zO rfl Rd.asg ?_; refine zN ?_; refine zT ?_
        refine ⟨(Keep.upd (Keep.upd (Keep.upd (Keep.upd (Keep.upd (Keep.upd (Keep.upd (Keep.upd (Keep.upd (Keep.upd (Keep.upd (Keep.upd (Keep.upd (Keep.upd (Keep.upd (Keep.upd (Keep.upd (Keep.upd (Keep.upd (Keep.upd (Keep.upd (Keep.refl _ _) rfl) rfl) rfl) rfl) rfl) rfl) rfl) rfl) rfl) rfl) rfl) rfl) rfl) rfl) rfl) rfl) rfl) rfl) rfl) rfl) rfl), ((q, c), (out, true)), _, (by (repeat (first | exact trivial | refine ⟨rfl, ?_⟩ | refine ⟨Eq.trans rfl (congrArg Value.bool hmat.symm), ?_⟩)); (first | done | fail)), ?_, ⟨rfl, e.symm, rfl⟩⟩
        · exact zE
      by_cases h3 : (out.length : Int) < a
      · have e : prS out wrong a n = (out, true) := by rw [prS, if_neg h1, if_pos (.inr (.inl h3))]
        refine XA.condF rfl (decide_eq_false h1) ?_
        refine zS ?_
        refine XA.draw (by kernel_rfl) _ _ [] [(0, .pu), (1, .rd), (2, .pu), (3, .pu), (4, .pu), (5, .rd), (6, .pu), (7, .pu), (8, .pu), (9, .pu), (10, .pu), (11, .pu), (12, .pu), (13, .rd), (14, .pu), (15, .rd), (16, .pu), (17, .rd), (18, .pu), (19, .pu)] (by kernel_rfl) (PH.sub.refl _) (Ent.sel (R := blk g7 _ _) (by ((repeat (first | with_reducible exact Sel.head | apply Sel.tail)); (first | done | fail))) (Ent.nil _)) ?_
        refine XPA.pu rfl rfl Gd.free (Rd.fA rfl) ?_
        refine XPA.rd rfl rfl Gd.free (Rd.ldC rfl (tyrow rfl) rfl) ?_
        refine XPA.pu rfl rfl Gd.free (Rd.lss rfl rfl) ?_
        refine XPA.pu rfl rfl Gd.free Rd.mv ?_
        first | refine XPA.puG rfl rfl (Rd.fA rfl) ?_ | refine XPA.puOffG rfl rfl ?_
        first | refine XPA.rdG rfl rfl (Rd.ldC rfl (tyrow rfl) rfl) ?_ | refine XPA.offG rfl rfl ?_
        first | refine XPA.puG rfl rfl Rd.mv ?_ | refine XPA.puOffG rfl rfl ?_
        first | refine XPA.puG rfl rfl (Rd.lenSlice (tyrow rfl) rfl rfl) ?_ | refine XPA.puOffG rfl rfl ?_
        first | refine XPA.puG rfl rfl (Rd.gtr rfl rfl) ?_ | refine XPA.puOffG rfl rfl ?_
        refine XPA.pu rfl rfl Gd.free (by first | exact Rd.pT rfl | exact Rd.pF rfl | exact Rd.pP rfl) ?_
        refine XPA.pu rfl rfl Gd.free Rd.mv ?_
        first | refine XPA.puG rfl rfl Rd.mv ?_ | refine XPA.puOffG rfl rfl ?_
        first | refine XPA.puG rfl rfl (Rd.fA rfl) ?_ | refine XPA.puOffG rfl rfl ?_
        first | refine XPA.rdG rfl rfl (Rd.ldC rfl (tyrow rfl) rfl) ?_ | refine XPA.offG rfl rfl ?_
        first | refine XPA.puG rfl rfl (Rd.ixS rfl rfl) ?_ | refine XPA.puOffG rfl rfl ?_
        first | refine XPA.rdG rfl rfl (Rd.ldC rfl (tyrow rfl) rfl) ?_ | refine XPA.offG rfl rfl ?_
        first | refine XPA.puG rfl rfl (Rd.fA rfl) ?_ | refine XPA.puOffG rfl rfl ?_
        first | refine XPA.rdG rfl rfl (Rd.ldC rfl (tyrow rfl) rfl) ?_ | refine XPA.offG rfl rfl ?_
        first | refine XPA.puG rfl rfl (Rd.neq rfl rfl) ?_ | refine XPA.puOffG rfl rfl ?_
        refine XPA.pu rfl rfl Gd.free (by first | exact Rd.pT rfl | exact Rd.pF rfl | exact Rd.pP rfl) ?_
        refine XPA.nil ?_
        refine zT ?_
        refine XA.condT rfl (by first | rfl | exact decide_eq_true h3) ?_
        refine zR ?_; refine zO rfl Rd.asg ?_; refine zN ?_; refine zT ?_
        refine ⟨(Keep.upd (Keep.upd (Keep.upd (Keep.upd (Keep.upd (Keep.upd (Keep.upd (Keep.upd (Keep.upd (Keep.upd (Keep.upd (Keep.upd (Keep.upd (Keep.upd (Keep.upd (Keep.upd (Keep.upd (Keep.upd (Keep.upd (Keep.upd (Keep.upd (Keep.refl _ _) rfl) rfl) rfl) rfl) rfl) rfl) rfl) rfl) rfl) rfl) rfl) rfl) rfl) rfl) rfl) rfl) rfl) rfl) rfl) rfl) rfl), ((q, c), (out, true)), _, (by (repeat (first | exact trivial | refine ⟨rfl, ?_⟩ | refine ⟨Eq.trans rfl (congrArg Value.bool hmat.symm), ?_⟩)); (first | done | fail)), ?_, ⟨rfl, e.symm, rfl⟩⟩
        · exact zE
      obtain ⟨j, rfl⟩ : ∃ j : Nat, a = j := ⟨a.toNat, by omega⟩
      have hj : j < out.length := by omega
      obtain ⟨y, hy⟩ : ∃ y, y = out.getD j 0 := ⟨_, rfl⟩
      have hv : (ints out)[j]? = some (i64 y) := by rw [hy]; simp [ints, hj]
      by_cases h4 : y = n
      · have e : prS out wrong j n = (out, wrong) := by
          rw [prS, if_neg h1, if_neg]
          rw [Int.toNat_natCast, ← hy]
          rintro (h | h | h)
          · exact h2 h
          · exact h3 h
          · exact h h4
        first | refine XA.opn (R := lst 2 1 (.slice q out.length c) _ _) (by ((repeat (first | with_reducible exact Sel.head | apply Sel.tail)); (first | done | fail))) (lst_some (by omega)) ?_ | refine XOA.opn (R := lst 2 1 (.slice q out.length c) _ _) (by ((repeat (first | with_reducible exact Sel.head | apply Sel.tail)); (first | done | fail))) (lst_some (by omega)) ?_ | refine DA.opn (R := lst 2 1 (.slice q out.length c) _ _) (by ((repeat (first | with_reducible exact Sel.head | apply Sel.tail)); (first | done | fail))) (lst_some (by omega)) ?_
        rintro g70 rfl
        first | refine XA.cl ?_ | refine XOA.cl ?_ | refine DA.cl ?_
        refine XA.condF rfl (decide_eq_false h1) ?_
        refine zS ?_
        refine XA.draw (by kernel_rfl) _ _ [] [(0, .pu), (1, .rd), (2, .pu), (3, .pu), (4, .pu), (5, .rd), (6, .pu), (7, .pu), (8, .pu), (9, .pu), (10, .pu), (11, .pu), (12, .pu), (13, .rd), (14, .pu), (15, .rd), (16, .pu), (17, .rd), (18, .pu), (19, .pu)] (by kernel_rfl) (PH.sub.refl _) (Ent.sel (R := blk g7 _ _) (by ((repeat (first | with_reducible exact Sel.head | apply Sel.tail)); (first | done | fail))) (Ent.sel (R := lst 2 1 (.slice (some ⟨g70, 0, none⟩) out.length c) _ _) (by ((repeat (first | with_reducible exact Sel.head | apply Sel.tail)); (first | done | fail))) (Ent.nil _))) ?_
        refine XPA.pu rfl rfl Gd.free (Rd.fA rfl) ?_
        refine XPA.rd rfl rfl Gd.free (Rd.ldC rfl (tyrow rfl) rfl) ?_
        refine XPA.pu rfl rfl Gd.free (Rd.lss rfl rfl) ?_
        refine XPA.pu rfl rfl Gd.free Rd.mv ?_
        first | refine XPA.puG rfl rfl (Rd.fA rfl) ?_ | refine XPA.puOffG rfl rfl ?_
        first | refine XPA.rdG rfl rfl (Rd.ldC rfl (tyrow rfl) rfl) ?_ | refine XPA.offG rfl rfl ?_
        first | refine XPA.puG rfl rfl Rd.mv ?_ | refine XPA.puOffG rfl rfl ?_
        first | refine XPA.puG rfl rfl (Rd.lenSlice (tyrow rfl) rfl rfl) ?_ | refine XPA.puOffG rfl rfl ?_
        first | refine XPA.puG rfl rfl (Rd.gtr rfl rfl) ?_ | refine XPA.puOffG rfl rfl ?_
        refine XPA.pu rfl rfl Gd.free (by first | exact Rd.pT rfl | exact Rd.pF rfl | exact Rd.pP rfl) ?_
        refine XPA.pu rfl rfl Gd.free Rd.mv ?_
        first | refine XPA.puG rfl rfl Rd.mv ?_ | refine XPA.puOffG rfl rfl ?_
        first | refine XPA.puG rfl rfl (Rd.fA rfl) ?_ | refine XPA.puOffG rfl rfl ?_
        first | refine XPA.rdG rfl rfl (Rd.ldC rfl (tyrow rfl) rfl) ?_ | refine XPA.offG rfl rfl ?_
        first | refine XPA.puG rfl rfl (Rd.ixS rfl rfl) ?_ | refine XPA.puOffG rfl rfl ?_
        first | refine XPA.rdG rfl rfl (Rd.ldC rfl (tyrow rfl) rfl) ?_ | refine XPA.offG rfl rfl ?_
        first | refine XPA.puG rfl rfl (Rd.fA rfl) ?_ | refine XPA.puOffG rfl rfl ?_
        first | refine XPA.rdG rfl rfl (Rd.ldC rfl (tyrow rfl) rfl) ?_ | refine XPA.offG rfl rfl ?_
        first | refine XPA.puG rfl rfl (Rd.neq rfl rfl) ?_ | refine XPA.puOffG rfl rfl ?_
        refine XPA.pu rfl rfl Gd.free (by first | exact Rd.pT rfl | exact Rd.pF rfl | exact Rd.pP rfl) ?_
        refine XPA.nil ?_
        refine zT ?_
        refine XA.condF rfl (decide_eq_false (fun h => h h4)) ?_
        refine XA.skip ?_
        refine zT ?_
        refine ⟨(Keep.upd (Keep.upd (Keep.upd (Keep.upd (Keep.upd (Keep.upd (Keep.upd (Keep.upd (Keep.upd (Keep.upd (Keep.upd (Keep.upd (Keep.upd (Keep.upd (Keep.upd (Keep.upd (Keep.upd (Keep.upd (Keep.upd (Keep.upd (Keep.refl _ _) rfl) rfl) rfl) rfl) rfl) rfl) rfl) rfl) rfl) rfl) rfl) rfl) rfl) rfl) rfl) rfl) rfl) rfl) rfl) rfl), ((some ⟨g70, 0, none⟩, c), (out, wrong)), _, (by (repeat (first | exact trivial | refine ⟨rfl, ?_⟩ | refine ⟨Eq.trans rfl (congrArg Value.bool hmat.symm), ?_⟩)); (first | done | fail)), ?_, ⟨rfl, e.symm, rfl⟩⟩
        · exact zE
      have e : prS out wrong j n = (out, true) := by
        rw [prS, if_neg h1, if_pos (.inr (.inr (by rw [Int.toNat_natCast, ← hy]; exact h4)))]
      first | refine XA.opn (R := lst 2 1 (.slice q out.length c) _ _) (by ((repeat (first | with_reducible exact Sel.head | apply Sel.tail)); (first | done | fail))) (lst_some (by omega)) ?_ | refine XOA.opn (R := lst 2 1 (.slice q out.length c) _ _) (by ((repeat (first | with_reducible exact Sel.head | apply Sel.tail)); (first | done | fail))) (lst_some (by omega)) ?_ | refine DA.opn (R := lst 2 1 (.slice q out.length c) _ _) (by ((repeat (first | with_reducible exact Sel.head | apply Sel.tail)); (first | done | fail))) (lst_some (by omega)) ?_
      rintro g70 rfl
      first | refine XA.cl ?_ | refine XOA.cl ?_ | refine DA.cl ?_
      refine XA.condF rfl (decide_eq_false h1) ?_
      refine zS ?_
      refine XA.draw (by kernel_rfl) _ _ [] [(0, .pu), (1, .rd), (2, .pu), (3, .pu), (4, .pu), (5, .rd), (6, .pu), (7, .pu), (8, .pu), (9, .pu), (10, .pu), (11, .pu), (12, .pu), (13, .rd), (14, .pu), (15, .rd), (16, .pu), (17, .rd), (18, .pu), (19, .pu)] (by kernel_rfl) (PH.sub.refl _) (Ent.sel (R := blk g7 _ _) (by ((repeat (first | with_reducible exact Sel.head | apply Sel.tail)); (first | done | fail))) (Ent.sel (R := lst 2 1 (.slice (some ⟨g70, 0, none⟩) out.length c) _ _) (by ((repeat (first | with_reducible exact Sel.head | apply Sel.tail)); (first | done | fail))) (Ent.nil _))) ?_
      refine XPA.pu rfl rfl Gd.free (Rd.fA rfl) ?_
      refine XPA.rd rfl rfl Gd.free (Rd.ldC rfl (tyrow rfl) rfl) ?_
      refine XPA.pu rfl rfl Gd.free (Rd.lss rfl rfl) ?_
      refine XPA.pu rfl rfl Gd.free Rd.mv ?_
      first | refine XPA.puG rfl rfl (Rd.fA rfl) ?_ | refine XPA.puOffG rfl rfl ?_
      first | refine XPA.rdG rfl rfl (Rd.ldC rfl (tyrow rfl) rfl) ?_ | refine XPA.offG rfl rfl ?_
      first | refine XPA.puG rfl rfl Rd.mv ?_ | refine XPA.puOffG rfl rfl ?_
      first | refine XPA.puG rfl rfl (Rd.lenSlice (tyrow rfl) rfl rfl) ?_ | refine XPA.puOffG rfl rfl ?_
      first | refine XPA.puG rfl rfl (Rd.gtr rfl rfl) ?_ | refine XPA.puOffG rfl rfl ?_
      refine XPA.pu rfl rfl Gd.free (by first | exact Rd.pT rfl | exact Rd.pF rfl | exact Rd.pP rfl) ?_
      refine XPA.pu rfl rfl Gd.free Rd.mv ?_
      first | refine XPA.puG rfl rfl Rd.mv ?_ | refine XPA.puOffG rfl rfl ?_
      first | refine XPA.puG rfl rfl (Rd.fA rfl) ?_ | refine XPA.puOffG rfl rfl ?_
      first | refine XPA.rdG rfl rfl (Rd.ldC rfl (tyrow rfl) rfl) ?_ | refine XPA.offG rfl rfl ?_
      first | refine XPA.puG rfl rfl (Rd.ixS rfl rfl) ?_ | refine XPA.puOffG rfl rfl ?_
      first | refine XPA.rdG rfl rfl (Rd.ldC rfl (tyrow rfl) rfl) ?_ | refine XPA.offG rfl rfl ?_
      first | refine XPA.puG rfl rfl (Rd.fA rfl) ?_ | refine XPA.puOffG rfl rfl ?_
      first | refine XPA.rdG rfl rfl (Rd.ldC rfl (tyrow rfl) rfl) ?_ | refine XPA.offG rfl rfl ?_
      first | refine XPA.puG rfl rfl (Rd.neq rfl rfl) ?_ | refine XPA.puOffG rfl rfl ?_
      refine XPA.pu rfl rfl Gd.free (by first | exact Rd.pT rfl | exact Rd.pF rfl | exact Rd.pP rfl) ?_
      refine XPA.nil ?_
      refine zT ?_
      refine XA.condT rfl (decide_eq_true h4) ?_
      refine zR ?_; refine zO rfl Rd.asg ?_; refine zN ?_; refine zT ?_
      refine ⟨(Keep.upd (Keep.upd (Keep.upd (Keep.upd (Keep.upd (Keep.upd (Keep.upd (Keep.upd (Keep.upd (Keep.upd (Keep.upd (Keep.upd (Keep.upd (Keep.upd (Keep.upd (Keep.upd (Keep.upd (Keep.upd (Keep.upd (Keep.upd (Keep.upd (Keep.refl _ _) rfl) rfl) rfl) rfl) rfl) rfl) rfl) rfl) rfl) rfl) rfl) rfl) rfl) rfl) rfl) rfl) rfl) rfl) rfl) rfl) rfl), ((some ⟨g70, 0, none⟩, c), (out, true)), _, (by (repeat (first | exact trivial | refine ⟨rfl, ?_⟩ | refine ⟨Eq.trans rfl (congrArg Value.bool hmat.symm), ?_⟩)); (first | done | fail)), ?_, ⟨rfl, e.symm, rfl⟩⟩
      · exact zE
    rintro ⟨⟨q2, c2⟩, out2, wrong2⟩ δ2 _ _ ⟨rfl, he, rfl⟩
    dsimp only [ovr, List.foldl]
    refine zT ?_
    simp only at he
    rw [← he] at hpl ⊢
    dsimp only at hpl ⊢
    have hol2 : out2.length ≤ 1000000 := by omega
    refine zS ?_; refine zR ?_; refine zO rfl Rd.asg ?_; refine zN ?_; refine zT ?_; refine zS ?_; refine zS ?_; refine zR ?_; refine zO rfl Rd.mv ?_; refine zN ?_; refine zT ?_
    refine XA.join [(8, 8)] (fun _ : Unit => [(8, i64 (codeP wrong2))]) (fun _ σ' Γ' => σ2 = σ' ∧ Γ' = [Prin g15 out2 wrong2, lst 2 1 (.slice q2 out2.length c2) out2.length (ints out2)]) ?_ ?_
    · skip
      cases wrong2 with
      | true =>
        refine XA.condT rfl rfl ?_
        refine zR ?_; refine zO rfl Rd.asg ?_; refine zN ?_; refine zT ?_
        refine ⟨(Keep.upd (Keep.refl _ _) rfl), (), _, (by (repeat (first | exact trivial | refine ⟨rfl, ?_⟩ | refine ⟨Eq.trans rfl (congrArg Value.bool hmat.symm), ?_⟩)); (first | done | fail)), ?_, ⟨rfl, rfl⟩⟩
        · exact zE
      | false =>
        refine XA.condF rfl rfl ?_
        refine XA.skip ?_
        refine zT ?_
        refine ⟨(Keep.refl _ _), (), _, (by (repeat (first | exact trivial | refine ⟨rfl, ?_⟩ | refine ⟨Eq.trans rfl (congrArg Value.bool hmat.symm), ?_⟩)); (first | done | fail)), ?_, ⟨rfl, rfl⟩⟩
        · exact zE
    rintro ⟨⟩ δ3 _ _ ⟨rfl, rfl⟩
    dsimp only [ovr, List.foldl]
    refine zT ?_; refine zS ?_; refine zR ?_; refine zO rfl Rd.mv ?_
    refine XOA.wr0 rfl (WrA.cE (plist_a σ2 g15 out2 wrong2 hol2) rfl) ?_
    rintro _ _ _ ⟨_, ⟨p4, c4, rfl, rfl, rfl⟩, rfl⟩
    refine XOA.cl ?_
    refine XOA.frz (R := lst 2 1 (.slice p4 out2.length c4) _ _) (by ((repeat (first | with_reducible exact Sel.head | apply Sel.tail)); (first | done | fail))) lst_frz lst_frz_mono ?_
    rintro σ3 ⟨⟩ hf3 hs3
    refine zO rfl Rd.mv ?_
    refine XOA.wr0 rfl (WrA.cE (sameO_a σ3 (.slice p4 out2.length c4) out2 out2 q2 out2.length c2 (pints_frz rfl hf3) rfl hol2) rfl) ?_
    rintro _ _ _ ⟨_, ⟨rfl, rfl, rfl⟩, rfl⟩
    refine XOA.cl ?_
    rw [decide_eq_true (rfl : out2 = out2)]
    refine zO rfl (by first | exact Rd.notp rfl | exact Rd.not rfl) ?_
    refine zO rfl Rd.mv ?_
    first | ((first | refine zW ?_ | refine zQ ?_); refine zO rfl Rd.mv ?_) | refine zU ?_ | refine zV ?_ | refine zZ ?_
    first | refine XOA.wanted rfl rfl ?_ | refine XOA.wq rfl rfl ?_
    refine XOA.wr0 rfl (WrA.cE (pcode_a σ3 g15 out2 wrong2) rfl) ?_
    rintro _ _ _ ⟨_, ⟨rfl, rfl, rfl⟩, rfl⟩
    refine XOA.cl ?_
    have kc : ¬ (codeP wrong2 ≠ codeP wrong2) := fun h => h rfl
    first | ((first | refine zW ?_ | refine zQ ?_); refine zO rfl Rd.mv ?_) | refine zU ?_ | refine zV ?_ | refine zZ ?_
    first | ((first | refine zW ?_ | refine zQ ?_); refine zO rfl (Rd.neq rfl rfl) ?_) | refine zU ?_ | refine zV ?_ | refine zZ ?_
    refine zO rfl (by first | exact Rd.pT rfl | exact Rd.pF rfl | exact Rd.pP rfl) ?_
    refine zN ?_; refine zT ?_
    refine XA.condF rfl (decide_eq_false kc) ?_
    refine XA.skip ?_
    refine DA.inb_normal ?_
    refine zT ?_; refine zR ?_; refine zO rfl Rd.mv ?_
    refine zO rfl (by first | exact Rd.adi rfl rfl | exact Rd.add rfl rfl) ?_
    refine zO rfl Rd.asg ?_; refine zN ?_; refine zT ?_
    refine ⟨(Keep.upd (Keep.upd (Keep.upd (Keep.upd (Keep.upd (Keep.upd (Keep.updO (Keep.upd (Keep.upd (Keep.upd (Keep.updO (Keep.upd (Keep.updO (Keep.upd (Keep.upd (Keep.hav (Keep.upd (Keep.upd (Keep.upd (Keep.upd (Keep.hav (Keep.hav (Keep.upd (Keep.upd (Keep.upd (Keep.upd (Keep.upd (Keep.updO (Keep.upd (Keep.upd (Keep.upd (Keep.upd (Keep.upd (Keep.updN (Keep.updO (Keep.upd (Keep.upd (Keep.upd (Keep.upd (Keep.upd (Keep.upd (Keep.upd (Keep.upd (Keep.upd (Keep.upd (Keep.upd (Keep.hav (Keep.hav (Keep.hav (Keep.refl _ _) rfl) rfl) rfl) rfl) rfl) rfl) rfl) rfl) rfl) rfl) rfl) rfl) rfl) rfl) rfl)) rfl) rfl) rfl) rfl) rfl) rfl) rfl) rfl) rfl) rfl) rfl) rfl) rfl) rfl) rfl) rfl) rfl) rfl) rfl) rfl) rfl) rfl) rfl) rfl) rfl) rfl) rfl) rfl) rfl) rfl) rfl) rfl) rfl), (k + 1, ((q2, c2), (out2, wrong2))), _, (by (repeat (first | exact trivial | refine ⟨rfl, ?_⟩ | refine ⟨Eq.trans rfl (congrArg Value.bool hmat.symm), ?_⟩)); (first | done | fail)), ?_, ⟨hs2.trans hs3, hlt, by show out2.length ≤ k + 1; omega, rfl⟩, (by simp only; omega)⟩
    · exact zE
  refine XA.exit ?_
  refine DA.thn_exit ?_
  refine DA.thn_exit ?_
  refine DA.inb_same ?_
  refine zT ?_; refine zS ?_; refine zR ?_; refine zO rfl Rd.asg ?_; refine zN ?_; refine zT ?_
  refine XA.ret ?_
  exact bodyA.ret (ResA.one rfl rfl) (Ent.nil _) ⟨rfl, hs1.trans hs2⟩
end Go.Proofs.Ytmnmcjdgnpgchaa

namespace Go.Proofs.Ytmnmcjdgnpgchaa
open Go X Go.ChangeShapes Go.WideShapes Go.ChangeAt Go.RowKit
set_option maxRecDepth 100000 in
theorem machinePrints_lifted (os : Os) (started : os.Started) (H : Type) (enc : TypeId × Value → H) :
    ReturnsInHanded {} Try.checked os 4 .any (Rows.machinePrintsSpec.pre6 enc Try.prog Try.f4 Rows.machinePrintsRow.domain false) (Rows.machinePrintsSpec.post enc Try.prog Try.f4 false true false false) := by
  refine returnsInHanded_of_change (C := Try.checked) Try.own started (by kernel_rfl) Try.func4
    (ChangeSpec.witness6 (enc := enc) (C := Try.checked) false ⟨#[], #[.slice none 0 0], []⟩ 8 (by kernel_rfl) (by kernel_rfl) (by kernel_rfl) (by kernel_rfl)) ?_
  intro W base args ds gs before hval0 hW hcnd _
  have hval : ∀ (j : Nat) t v, Try.f4.params[j]? = some t → args[j]? = some v → Value.okWide Try.prog W .any base t v := hval0
  have hW' := hW
  obtain ⟨p, q, hA0, hV, rfl, hfz, hnd⟩ := hW
  have hA : DataW.TrodAll enc Try.prog W 0 (fun _ => true) true [49] args.toList ds p := hA0
  obtain ⟨v0, d0, rfl, rfl, h0⟩ := trodAll_one hA
  have hb : Try.prog.underlying 4 = some .bool := by kernel_rfl
  refine post_true (fid := 4) (tb := 4) Try.laidOut (by kernel_rfl) rfl rfl hb ?_ hW' (callsX_true ?_)
  · obtain ⟨rfl, rfl⟩ := trodVars_none hV; rfl
  · obtain ⟨ms0, _, e0, hms0⟩ := (Dec.slice (tyrow rfl) rfl (tyrow rfl) rfl (by decide) dec_pst).one (tyrow rfl) rfl (hval 0 _ v0 rfl rfl) h0 rSl_one
    simp only [List.cons.injEq, and_true] at e0
    subst e0
    exact prints_law _ _ ms0 hms0
theorem machinePrints_holds : Rows.MachinePrintsSaid :=
  OpenClaim.holds_of_wide 4 Try.f4 rfl rfl rfl rfl rfl rfl rfl ⟨rfl, rfl, rfl, rfl, rfl⟩ rfl rfl rfl rfl rfl (by kernel_rfl) Try.func4 (by kernel_rfl)
    (of_decide_eq_true (by kernel_rfl)) (by unfold Func.isWrapper; first | (rw [if_pos (by decide +kernel)]; kernel_rfl) | (rw [if_neg (by decide +kernel)]; exact ⟨rfl, rfl⟩))
    (fun os started H enc _ => machinePrints_lifted os started H enc)
end Go.Proofs.Ytmnmcjdgnpgchaa

