/- The law RenderPrints holds: every Print is as the document says; what is handed in stays. Condition: the given card's own, that the variables of the library that it lists hold what it lays. -/
import Derived.Test.YthefnnkmpcgcmaaDoorRp1
import Derived.Test.YthefnnkmpcgcmaaDoorRp2
import Derived.Test.YthefnnkmpcgcmaaDoorRp3
import Derived.Test.YthefnnkmpcgcmaaDoorRows
import Derived.LaidLaws
import Derived.Stop.LaidErr
import Derived.RowKit3
import Derived.RowKitTokens
import Derived.ChangeMaps5
import Derived.Handed
import Derived.SizedLaws
import Derived.Test.YthefnnkmpcgcmaaDoorCards
import Derived.Test.YthefnnkmpcgcmaaDoorTie
namespace Go.Proofs.YthefnnkmpcgcmaaDoor
open Go X
set_option maxHeartbeats 4000000
theorem itoa2 : itoaS 2 = ⟨#[50]⟩ := by
  rw [itoaS, Lib.itoa, if_neg (by decide), Lib.decDigits, dif_pos (by decide)]; decide
def prR : Pr := ⟨[⟨⟨#[97]⟩, 2⟩], [.mk 3 0 (.mk 2 0 0 []) zeroX [] [], .mk 7 0 zeroX zeroX [] []]⟩
def litR : ByteArray := ⟨#[108, 101, 116, 32, 97, 32, 50, 10, 40, 112, 114, 105, 110, 116, 32, 40, 118, 97, 114, 32, 97, 41, 41, 10, 40, 99, 111, 109, 109, 105, 116, 41, 10]⟩
theorem prT_R : prT prR = litR := by
  rw [prT, prR, varsT, varsT, varT]
  simp only
  rw [itoa2]
  kernel_rfl
theorem printR : printP prR = .ok litR := by
  rw [printP, if_neg (by decide +kernel), prT_R, if_neg (by decide)]
theorem X.Rd.eqFault {ρ : Env} {S : Heap → Prop} {ty : TypeId} {T' : TypeId} {x y : Operand} {a b c e : Int} (hx : ev ρ x = .agg #[i64 a, i64 b]) (hy : ev ρ y = .agg #[i64 c, i64 e]) : Rd Tryd.prog ρ S (.binOp .eql 30 x y T') ty (.bool (decide (a = c ∧ b = e))) := by
  refine .pure fun d pos af gd w => ?_
  have h2 : (eqGuard .eql 30 x y (.agg #[i64 a, i64 b]) (.agg #[i64 c, i64 e])).run Tryd.prog w = .ok () w := run_eqGuard_agg w _ _ _ _ _ _ (by kernel_rfl)
  have h3 : (binOp .eql 30 (.agg #[i64 a, i64 b]) (.agg #[i64 c, i64 e])).run Tryd.prog w = .ok (.bool (decide (a = c ∧ b = e))) w := by
    rw [run_eql_struct]
    rw [X.run_equal_fault (a := a) (b := b) w]
    simp
  simp only [execOp, hx, hy, Sem.run_bind, h2, h3, Result.andThen_ok, Sem.run_pure]
theorem X.Rd.eqFaultT {ρ : Env} {S : Heap → Prop} {ty : TypeId} {T' : TypeId} {x y : Operand} {a b : Int} (hx : ev ρ x = .agg #[i64 a, i64 b]) (hy : ev ρ y = .agg #[i64 a, i64 b]) : Rd Tryd.prog ρ S (.binOp .eql 30 x y T') ty (.bool true) := by
  have := X.Rd.eqFault (S := S) (ty := ty) (T' := T') hx hy
  rwa [decide_eq_true (⟨rfl, rfl⟩ : a = a ∧ b = b)] at this
theorem rbegun_a (σ : PH) (hT : Tab σ) : CallsA Tryd.prog 10 #[] σ [] (RetA fun v σ' Γ' => v = .bool true ∧ σ.sub σ' ∧ Γ' = []) := by
  refine enterA0 Tryd.func10 rfl rfl rfl ?_
  refine zS (zR (zO rfl Rd.asg ?_)); refine zN (zT (zS (zR ?_)))
  refine zO rfl (Rd.bl (fun _ _ => tyrow) rfl rfl rfl) ?_
  refine XOA.wr0 rfl (WrA.bs1 (tyrow rfl) rfl (tyrow rfl)) ?_
  rintro _ _ _ ⟨g5, rfl, rfl, rfl⟩
  refine zO rfl (Rd.bl (fun _ _ => tyrow) rfl rfl rfl) ?_
  refine zO rfl (Rd.bl (fun _ _ => tyrow) rfl rfl rfl) ?_
  refine zO rfl (Rd.bl (fun _ _ => tyrow) rfl rfl rfl) ?_
  refine XOA.wr0 rfl (WrA.bs (fun _ _ => tyrow) rfl rfl rfl rfl rfl) ?_
  rintro _ _ _ ⟨g9, rfl, rfl, rfl⟩
  refine zO rfl (Rd.bl (fun _ _ => tyrow) rfl rfl rfl) ?_
  refine XOA.frz (R := blk g5 _ 51) zL blk_frz blk_frz_mono ?_
  rintro σ1 ⟨⟩ r5 s1
  refine XOA.frz (R := blk g9 _ 56) zL blk_frz blk_frz_mono ?_
  rintro σ2 ⟨⟩ r9 s2
  have r5 := r5.mono s2
  have nilE : ∀ σ, PSl 4 ExAt σ (.slice none 0 0) [] := fun σ => PSl.nil 4 ExAt σ
  have nilS : ∀ σ, PSl 12 StAt σ (.slice none 0 0) [] := fun σ => PSl.nil 12 StAt σ
  have okz : ∀ n : Int, -1000 ≤ n → n ≤ 1000 → i64ok n := fun n h1 h2 => ⟨by omega, by omega⟩
  have leaf : ∀ a : Int, -1000 ≤ a → a ≤ 1000 → ExAt σ2 [i64 a, i64 0, i64 0, .slice none 0 0] (.mk a 0 0 []) := fun a h1 h2 => ExAt.of (okz _ h1 h2) (okz _ (by decide) (by decide)) (okz _ (by decide) (by decide)) (nilE σ2)
  have hV : ExAt σ2 [i64 2, i64 0, i64 0, .slice none 0 0] (.mk 2 0 0 []) := leaf 2 (by decide) (by decide)
  have hZ : ExAt σ2 [i64 0, i64 0, i64 0, .slice none 0 0] zeroX := leaf 0 (by decide) (by decide)
  have t1 : StAt σ2 [i64 3, i64 0, i64 2, i64 0, i64 0, .slice none 0 0, i64 0, i64 0, i64 0, .slice none 0 0, .slice none 0 0, .slice none 0 0] (.mk 3 0 (.mk 2 0 0 []) zeroX [] []) := StAt.of (okz _ (by decide) (by decide)) (okz _ (by decide) (by decide)) hV hZ (nilS σ2) (nilS σ2)
  have t2 : StAt σ2 [i64 7, i64 0, i64 0, i64 0, i64 0, .slice none 0 0, i64 0, i64 0, i64 0, .slice none 0 0, .slice none 0 0, .slice none 0 0] (.mk 7 0 zeroX zeroX [] []) := StAt.of (okz _ (by decide) (by decide)) (okz _ (by decide) (by decide)) hZ hZ (nilS σ2) (nilS σ2)
  have hbs : PSl 12 StAt σ2 (.slice (some ⟨g9, 0, none⟩) 2 2) prR.body := Rows_.psl (((Rows_.nil 12 StAt σ2).snoc rfl t1).snoc rfl t2) rfl ⟨Nat.le_refl _, by simp [maxLen], rfl, fun _ => ⟨g9, 0, rfl, r9⟩⟩
  have hvs : PSl 2 rVa σ2 (.slice (some ⟨g5, 0, none⟩) 1 1) prR.vars := by
    refine Rows_.psl (rows := [[.string ⟨#[97]⟩, i64 2]]) ⟨rfl, by simp, fun i row x a b => ?_⟩ rfl ⟨Nat.le_refl _, by simp [maxLen], rfl, fun _ => ⟨g5, 0, rfl, r5⟩⟩
    match i with
    | 0 => simp [prR] at a b; subst a; subst b; exact ⟨rfl, okz _ (by decide) (by decide), by simp [maxLen, ByteArray.size]⟩
    | i + 1 => simp at a
  have hp0 : PrAt σ2 [.slice (some ⟨g5, 0, none⟩) 1 1, .slice (some ⟨g9, 0, none⟩) 2 2] prR := ⟨_, _, rfl, hvs, hbs⟩
  have hpr := print_w σ2 _ prR hp0 (hT.mono (s1.trans s2))
  rw [printR] at hpr
  dsimp only [okB, errC, errA] at hpr
  refine XOA.wr0 rfl (WrA.cE (hpr) rfl) ?_
  rintro _ _ _ ⟨_, ⟨rfl, rfl, rfl⟩, rfl⟩
  refine XOA.cl ?_; refine zA rfl ?_; refine zO rfl (Rd.extract rfl rfl) ?_; refine zO rfl (Rd.extract rfl rfl) ?_
  refine XOA.wr0 rfl (WrA.alloc (tyrow rfl)) ?_
  rintro _ _ _ ⟨g2, rfl, rfl, rfl⟩
  refine zO rfl Rd.asg ?_
  refine XOA.wr0 rfl (WrA.st (tyrow rfl) rfl) ?_
  rintro _ _ _ ⟨rfl, rfl, rfl⟩
  refine zN (zT (zS (zR (zV rfl rfl ?_)))); refine zB rfl rfl (tyrow rfl) rfl ?_; refine zO rfl (Rd.eql rfl rfl) ?_; refine zA rfl ?_
  first | (refine zG ?_; refine zA rfl ?_) | refine zH ?_
  first | (refine zG ?_; refine zO rfl (Rd.eqls rfl rfl) ?_) | refine zH ?_
  refine zO rfl zP ?_; refine zO rfl Rd.asg ?_; refine zN (zT (XA.ret ?_))
  exact bodyA.ret (ResA.one rfl rfl) (Ent.nil _) ⟨rfl, s1.trans s2, rfl⟩
theorem own_p (σ : PH) (cs : List Value) (p : Pr) (hp : PrAt σ cs p) (hsm : Small p) :
    CallsA Tryd.prog 12 #[.agg cs.toArray] σ [] (RetA fun v σ' Γ' => ∃ (pv : Option Addr) (cv : Nat) (pb : Option Addr) (cb : Nat), v = .agg #[.slice pv p.vars.length cv, .slice pb p.body.length cb] ∧ PrAt σ' [.slice pv p.vars.length cv, .slice pb p.body.length cb] p ∧ σ.sub σ' ∧ Γ' = []) := by
  have h := own_a σ cs p hp hsm
  refine ⟨h.1, fun fr hp' hh => (h.2 fr hp' hh).mono fun e h' ⟨σ', Γ', a, b⟩ => ?_⟩
  cases e with
  | returned v =>
    obtain ⟨vs, pb, cb, rows, rfl, hvs, hrows, hs, rfl⟩ := a
    obtain ⟨pv, cv, rfl, -, -⟩ := hvs.shape
    obtain ⟨σ2, ⟨⟩, hf, hs2, hh2⟩ := holds_freeze' b Sel.head lst_frz lst_frz_mono
    exact ⟨σ2, [], ⟨pv, cv, pb, cb, rfl, ⟨_, _, rfl, hvs.mono hs2 (fun _ _ h => h), (hrows.mono (fun _ _ h => h.mono hs2)).psl rfl hf⟩, hs.trans hs2, rfl⟩, hh2⟩
  | panicked c => exact a.elim
  | outgrown => exact a.elim
theorem rprints_law (σ : PH) (cs : List Value) (p : Pr) (hp : PrAt σ cs p) (hT : Tab σ) : CallsA Tryd.prog 3 #[.agg cs.toArray] σ [] (RetA fun r σ' _ => r = .bool true ∧ σ.sub σ') := by
  have hp0 := hp
  obtain ⟨vs, bs, rfl, hv, hb⟩ := hp
  refine enterA1 Tryd.func3 rfl rfl rfl ?_
  refine zS (zR ?_)
  refine XOA.wr0 rfl WrA.bx ?_
  rintro _ _ _ ⟨g1, rfl, rfl, rfl⟩
  refine zO rfl Rd.asg ?_; refine zN (zT (zS (zS (zR ?_))))
  refine XOA.wr0 rfl (WrA.cE (rbegun_a σ hT) rfl) ?_
  rintro _ σ1 _ ⟨_, ⟨rfl, hs1, rfl⟩, rfl⟩
  refine XOA.cl ?_
  have hT1 := hT.mono hs1
  have hp1 := hp0.mono hs1
  refine zO rfl zJ ?_; refine zN (zT (XA.condF rfl rfl (XA.skip (zT (zS (zS (zR (zO rfl (Rd.ldA rfl) ?_))))))))
  refine XOA.wr0 rfl (WrA.cE (great_a σ1 _ p hp1) rfl) ?_
  rintro _ _ _ ⟨_, ⟨b, rfl, hsm, rfl, rfl⟩, rfl⟩
  refine XOA.cl ?_; refine zN (zT ?_)
  refine XA.cond rfl (fun hq => ?_) (fun hq => ?_)
  · refine zS ?_
    refine zR (zO rfl Rd.asg ?_); refine zN (zT (XA.ret (DA.thn_ret ?_)))
    exact bodyA.ret (ResA.one rfl rfl) (Ent.nil _) ⟨rfl, hs1⟩
  have hsm := hsm hq
  refine XA.skip (zT (zS (zR (zO rfl (Rd.ldA rfl) ?_))))
  refine XOA.wr0 rfl (WrA.cE (own_p σ1 _ p hp1 hsm) rfl) ?_
  rintro _ σ2 _ ⟨_, ⟨pv2, cv2, pb2, cb2, rfl, hp2, hs2, rfl⟩, rfl⟩
  refine XOA.cl ?_
  have hT2 := hT1.mono hs2
  have hp12 := hp1.mono hs2
  refine XOA.wr0 rfl (WrA.alloc (tyrow rfl)) ?_
  rintro _ _ _ ⟨g3, rfl, rfl, rfl⟩
  refine XOA.wr0 rfl (WrA.st (tyrow rfl) rfl) ?_
  rintro _ _ _ ⟨rfl, rfl, rfl⟩
  refine zN (zT (zS (zR (zO rfl (Rd.ldA rfl) ?_))))
  refine XOA.wr0 rfl (WrA.cE (print_w σ2 _ p hp2 hT2) rfl) ?_
  rintro _ _ _ ⟨_, ⟨rfl, rfl, rfl⟩, rfl⟩
  refine XOA.cl ?_; refine zA rfl ?_; refine zO rfl (Rd.extract rfl rfl) ?_; refine zO rfl (Rd.extract rfl rfl) ?_
  refine XOA.wr0 rfl (WrA.alloc (tyrow rfl)) ?_
  rintro _ _ _ ⟨g5, rfl, rfl, rfl⟩
  refine zO rfl Rd.asg ?_
  refine XOA.wr0 rfl (WrA.st (tyrow rfl) rfl) ?_
  rintro _ _ _ ⟨rfl, rfl, rfl⟩
  refine zN (zT (zS (zR (zO rfl (Rd.ldA rfl) ?_))))
  refine XOA.wr0 rfl (WrA.cE (printed_p σ2 _ p hp12 hT2) rfl) ?_
  rintro _ _ _ ⟨_, ⟨rfl, rfl, rfl⟩, rfl⟩
  refine XOA.cl ?_
  have hself : okB (printP p) = okB (printP p) := rfl
  refine zA rfl ?_; refine zO rfl (Rd.extract rfl rfl) ?_; refine zO rfl (Rd.extract rfl rfl) ?_
  refine XOA.wr0 rfl (WrA.alloc (tyrow rfl)) ?_
  rintro _ _ _ ⟨g7, rfl, rfl, rfl⟩
  refine zO rfl Rd.asg ?_
  refine XOA.wr0 rfl (WrA.st (tyrow rfl) rfl) ?_
  rintro _ _ _ ⟨rfl, rfl, rfl⟩
  refine zN (zT (zS (zR (zA rfl ?_)))); refine zA rfl ?_; refine zO rfl (Rd.eqls rfl rfl) ?_; refine zA rfl ?_
  first | (refine zG ?_; refine zO rfl (Rd.ldA rfl) ?_) | refine zH ?_
  first | (refine zG ?_; refine zO rfl (Rd.ldA rfl) ?_) | refine zH ?_
  first | refine XOA.wanted rfl rfl ?_ | refine XOA.wq rfl rfl ?_
  refine zO rfl (X.Rd.eqFaultT rfl rfl) ?_; refine zO rfl zP ?_; refine zA rfl ?_
  first | (refine zG ?_; refine zO rfl (Rd.ldA rfl) ?_) | refine zH ?_
  first | (refine zG ?_; refine zO rfl (Rd.ldA rfl) ?_) | refine zH ?_
  first | refine XOA.wanted rfl rfl ?_ | refine XOA.wq rfl rfl ?_
  refine XOA.wr0 rfl (WrA.cE (rsame_a σ2 _ _ p p hp2 hp12) rfl) ?_
  rintro _ _ _ ⟨_, ⟨b, rfl, hb1, rfl, rfl⟩, rfl⟩
  refine XOA.cl ?_
  obtain rfl : b = true := hb1.2 rfl
  refine zO rfl zP ?_; refine zO rfl Rd.asg ?_; refine zN (zT (XA.ret ?_))
  exact bodyA.ret (ResA.one rfl rfl) (Ent.nil _) ⟨rfl, hs1.trans hs2⟩
end Go.Proofs.YthefnnkmpcgcmaaDoor

namespace Go.Proofs.YthefnnkmpcgcmaaDoor
open Go X Go.RowKit
set_option maxHeartbeats 1000000
theorem var_le {W w : World} {n : String} {cs : Array Value} (hw : (ofHeap W.heap).le w.heap) (h : W.var? Tryd.prog n = some cs) : w.var? Tryd.prog n = some cs := by
  unfold World.var? at h ⊢
  cases hg : Tryd.prog.globalNamed n with
  | none => simp [hg] at h
  | some g =>
    simp only [hg, Option.bind_some] at h ⊢
    cases ho : W.heap[g]? with
    | none => simp [ho] at h
    | some o =>
      have := hw g o ho
      rw [this]
      rw [ho] at h
      exact h
abbrev synS : ByteArray := { data := #[105, 110, 118, 97, 108, 105, 100, 32, 115, 121, 110, 116, 97, 120] }
abbrev rngS : ByteArray := { data := #[118, 97, 108, 117, 101, 32, 111, 117, 116, 32, 111, 102, 32, 114, 97, 110, 103, 101] }
noncomputable def low : Nat := (World.holding Tryd.prog default ⟨#[], #[], []⟩).heap.size
def setCells (cs : Array Value) : Obj → Obj
  | .cells _ t frozen => .cells cs t frozen
  | o => o
def tabOf (d : DataW Unit) : Array Value := match d with
  | .agg l => (l.map fun d => match d with | .lit (.int k z) => Value.int k z | _ => undef).toArray
  | _ => #[]
/-- The settled world with the listed variables as their initialisers lay them. -/
noncomputable def laidWorld (os : Os) : World :=
  let w0 := World.holding Tryd.prog os ⟨#[.cells #[.string synS] 160, .cells #[.string rngS] 160], #[], []⟩
  { w0 with heap := ((((w0.heap.modify 1 (setCells #[.iface 158 (.pointer (some ⟨low, 0, none⟩))])).modify 2 (setCells #[.iface 158 (.pointer (some ⟨low + 1, 0, none⟩))])).modify 0 (setCells (tabOf Rows.laid_internal_strconv_uint64pow10))).modify
      3 (setCells (tabOf Rows.laid_math_bits_deBruijn32tab))).modify 4 (setCells (tabOf Rows.laid_math_bits_deBruijn64tab)) }
end Go.Proofs.YthefnnkmpcgcmaaDoor

namespace Go.Proofs.YthefnnkmpcgcmaaDoor
open Go X Go.RowKit
abbrev laid3 : List (String × DataW Unit) := [("math/bits.deBruijn32tab", Rows.laid_math_bits_deBruijn32tab), ("math/bits.deBruijn64tab", Rows.laid_math_bits_deBruijn64tab), ("internal/strconv.uint64pow10", Rows.laid_internal_strconv_uint64pow10)]
theorem laid_facts3 {W : World} (h : laidMet Tryd.prog laid3 W) : Tab (ofHeap W.heap) := by
  have ht := Lib.tabIs_of_head (P := Tryd.prog) (W := W) (k := .u64) (zs := Lib.pow10Tab) (g := 0) (t := 148) (e := 136) (n := 20) (by kernel_rfl) (by kernel_rfl) (by kernel_rfl) (by kernel_rfl) (by kernel_rfl) (by kernel_rfl) h.tail.tail
  intro w hw
  unfold Lib.TabIs at ht ⊢
  exact var_le hw ht
set_option maxRecDepth 100000 in
theorem laidWorld_met3 (os : Os) (args : Array Value) : laidMet Tryd.prog laid3 ((laidWorld os).forCall (fun _ _ => 0) ⟨#[], args, []⟩).memory :=
  laidMet_of_run' 8 (by kernel_rfl) (by kernel_rfl)
end Go.Proofs.YthefnnkmpcgcmaaDoor

namespace Go.Proofs.YthefnnkmpcgcmaaDoor
open Go X Go.ChangeShapes Go.WideShapes Go.ChangeAt Go.RowKit
set_option maxRecDepth 100000 in
theorem renderPrints_lifted (os : Os) (started : os.Started) (H : Type) (enc : TypeId × Value → H) :
    ReturnsInHanded {} Tryd.checked os 3 .any (fun w args => (Rows.renderPrintsSpec.pre enc Tryd.prog Tryd.f3 Rows.renderPrintsRow.domain false w args ∧ laidMet Tryd.prog laid3 w) ∧ sizedMet enc Tryd.prog Tryd.f3 (OpenSpec.ofChange Rows.renderPrintsSpec) false w args)
      (Rows.renderPrintsSpec.post enc Tryd.prog Tryd.f3 false true false false) := by
  refine returnsInHanded_of_change_and (C := Tryd.checked) (X := fun w _ => laidMet Tryd.prog laid3 w) (fun _ _ _ hh h => h.of_heap hh) Tryd.own started (by kernel_rfl) Tryd.func3
    (ChangeSpec.witness_at (enc := enc) (C := Tryd.checked) (os := os) (X := fun w _ => laidMet Tryd.prog laid3 w) false (laidWorld os) #[.agg #[.slice none 0 0, .slice none 0 0]] 8 rfl (by kernel_rfl) (by kernel_rfl) (by kernel_rfl) (by kernel_rfl) (by kernel_rfl) (laidWorld_met3 os _)) ?_
  intro W base args ds gs before hval0 hW _ _ hL _
  have hval : ∀ (j : Nat) t v, Tryd.f3.params[j]? = some t → args[j]? = some v → Value.okWide Tryd.prog W .any base t v := hval0
  have hW' := hW
  obtain ⟨p, q, hA0, hV, rfl, hfz, hnd⟩ := hW
  have hA : DataW.TrodAll enc Tryd.prog W 0 (fun _ => true) true [25] args.toList ds p := hA0
  obtain ⟨v0, d0, rfl, rfl, h0⟩ := trodAll_one hA
  have hb : Tryd.prog.underlying 4 = some .bool := by kernel_rfl
  refine post_true (fid := 3) (tb := 4) Tryd.laidOut (by kernel_rfl) rfl rfl hb ?_ hW' (callsX_true ?_)
  · obtain ⟨rfl, rfl⟩ := trodVars_none hV; rfl
  · obtain ⟨pr, cs, rfl, hp⟩ := Dec.agg dec_pr (tyrow rfl) rfl (hval 0 _ v0 rfl rfl) h0
    exact rprints_law _ cs pr hp (laid_facts3 hL)
theorem renderPrints_row : Rows.RenderPrintsSaid :=
  OpenClaim.holds_of_wide 3 Tryd.f3 rfl rfl rfl rfl rfl rfl rfl ⟨rfl, rfl, rfl, rfl, rfl⟩ rfl rfl rfl rfl rfl (by kernel_rfl) Tryd.func3 (by kernel_rfl)
    (of_decide_eq_true (by kernel_rfl)) (by unfold Func.isWrapper; first | (rw [if_pos (by decide +kernel)]; kernel_rfl) | (rw [if_neg (by decide +kernel)]; exact ⟨rfl, rfl⟩))
    (fun os started H enc _ => renderPrints_lifted os started H enc)
theorem renderPrints_holds : Rows.RenderPrintsCardSaid :=
  Claim7.holds_tied_plain_at .later [] [.data, .data, .data] true (true, "9fbee17c67760fa0909904053e84e62a0a224b532630f95ef45ea5d0c49ecdd4") true
    renderPrints_row (fun _ h => by cases h) (by kernel_rfl) (fun _ h => by cases h) renderPrints_row_tie rfl ⟨rfl, rfl⟩ (by kernel_rfl) rfl
    (fun f fn hf hfn => by
      obtain rfl : f = 3 := Option.some.inj ((show Tryd.prog.funcNamed "overwinter/overwinterlaw.RenderPrints" = some 3 by kernel_rfl).symm.trans hf) |>.symm
      obtain rfl : fn = Tryd.f3 := (Option.some.inj (Tryd.func3.symm.trans hfn)).symm
      exact ⟨by kernel_rfl, fun j t ht => by
        have hm : t ∈ [25] := by simpa using Array.mem_of_getElem? ht
        have hall : ([25].all fun u => !Tryd.prog.wantsStandIn u) = true := by kernel_rfl
        exact (show Tryd.prog.wantsStandIn t = false by simpa using List.all_eq_true.1 hall t hm)⟩)
    (by kernel_rfl)
end Go.Proofs.YthefnnkmpcgcmaaDoor

