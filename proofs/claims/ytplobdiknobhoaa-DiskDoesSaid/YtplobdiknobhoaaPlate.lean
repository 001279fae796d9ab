/- The reference's disk: a Plate. -/
import Derived.Test.YtplobdiknobhoaaLawDiskS
import Derived.Test.YtplobdiknobhoaaAli
namespace Go.Proofs.Ytplobdiknobhoaa
open Go X
set_option maxHeartbeats 1000000
/-- All writes that were not lost; so many of them are made sure of. -/
structure PlateS where
  ws : List (Int × List Int)
  sure : Nat
namespace PlateS
def ok (p : PlateS) : Prop := p.sure ≤ p.ws.length ∧ ∀ q ∈ p.ws, q.2.length = 8
def ats (p : PlateS) : List Value := p.ws.map fun q => i64 q.1
def wcs (p : PlateS) : List Value := p.ws.flatMap fun q => ints q.2
def last (w : List Int) (a : Int) (ps : List (Int × List Int)) : List Int := ps.foldl (fun w p => if p.1 = a then p.2 else w) w
end PlateS
/-- The plate p stands in block b. -/
def Plate (b : Nat) (p : PlateS) : HP := fun m => ∃ sa sw, Sat [blk b [sa, sw, i64 p.sure] 30, lst 3 1 sa p.ws.length p.ats, lst 32 8 sw p.ws.length p.wcs] m ∧ p.ok
theorem Plate.opn {b : Nat} {p : PlateS} : ∀ m, Plate b p m → ∃ x : (Option Addr × Nat) × (Option Addr × Nat), p.ok ∧ Sat [blk b [.slice x.1.1 p.ws.length x.1.2, .slice x.2.1 p.ws.length x.2.2, i64 p.sure] 30, lst 3 1 (.slice x.1.1 p.ws.length x.1.2) p.ws.length p.ats, lst 32 8 (.slice x.2.1 p.ws.length x.2.2) p.ws.length p.wcs] m := by
  rintro m ⟨sa, sw, h, ok⟩
  obtain ⟨m1, m2, a, ⟨m3, m4, b, ⟨m5, m6, c, d⟩, e⟩, f⟩ := h
  obtain ⟨x, ⟨rfl, -⟩, -⟩ := lst_shape _ b
  obtain ⟨y, ⟨rfl, -⟩, -⟩ := lst_shape _ c
  exact ⟨(x, y), ok, m1, m2, a, ⟨m3, m4, b, ⟨m5, m6, c, d⟩, e⟩, f⟩
theorem Plate.mk {b : Nat} {p : PlateS} {sa sw : Value} {n n' : Nat} {xs ys : List Value} {k : Int} (hp : p.ok) (e1 : n = p.ws.length) (e1' : n' = p.ws.length) (e2 : xs = p.ats) (e3 : ys = p.wcs) (e4 : k = p.sure) : ∀ m, Sat [blk b [sa, sw, i64 k] 30, lst 3 1 sa n xs, lst 32 8 sw n' ys] m → Plate b p m := fun _ h => ⟨sa, sw, by subst e1; subst e1'; subst e2; subst e3; subst e4; exact h, hp⟩
def PlateS.write (p : PlateS) (a : Int) (w : List Int) : PlateS := if 0 ≤ a ∧ a < 34 then { p with ws := p.ws ++ [(a, w)] } else p
theorem PlateS.ok.write {p : PlateS} (hp : p.ok) {a : Int} {w : List Int} (hw : w.length = 8) : (p.write a w).ok := by
  unfold PlateS.write
  split
  · refine ⟨by have := hp.1; simp; omega, fun q hq => ?_⟩
    simp only [List.mem_append, List.mem_singleton] at hq
    rcases hq with hq | rfl
    · exact hp.2 q hq
    · exact hw
  · exact hp
theorem pwrite_a (σ : PH) (b : Nat) (p : PlateS) (a : Int) (w : List Int) (hw : w.length = 8) (hlen : p.ws.length < 1000000) :
    CallsA Try.prog 16 #[ptr b, i64 a, wv w] σ [Plate b p] (RetA fun v σ' Γ' => v = .bool (decide (0 ≤ a ∧ a < 34)) ∧ σ = σ' ∧ Γ' = [Plate b (p.write a w)]) := by
  by_cases h0 : a < 0
  · 
    refine enterA3 Try.func16 rfl rfl rfl ?_
    refine XA.seq ?_
    refine XA.region ?_
    refine XOA.wr0 rfl (WrA.box (by with_reducible (conv => lhs; whnf)) (by first | exact wv_cells _ | exact agg_cells _ | rfl)) ?_
    rintro _ _ _ ⟨g5, rfl, rfl, rfl⟩
    refine XOA.rd rfl (Rd.assign (by with_reducible (conv => lhs; whnf))) ?_
    refine XOA.nil ?_
    refine DA.thn_normal ?_
    refine XA.seq ?_
    refine XA.seq ?_
    refine XA.region ?_
    refine XOA.rd rfl (Rd.move (by with_reducible (conv => lhs; whnf))) ?_
    refine XOA.rd rfl (Rd.lss rfl rfl) ?_
    refine XOA.rd rfl (Rd.move (by with_reducible (conv => lhs; whnf))) ?_
    first | (refine XOA.wanted rfl rfl ?_; refine XOA.rd rfl (Rd.move (by with_reducible (conv => lhs; whnf))) ?_) | (refine XOA.wantedP rfl rfl (by first | exact (rfl : decide _ = true) | exact (rfl : decide _ = false) | (refine decide_eq_true ?_; assumption) | (refine decide_eq_false ?_; assumption) | (refine decide_eq_true ?_; omega) | (refine decide_eq_false ?_; omega)) ?_; refine XOA.rd rfl (Rd.move (by with_reducible (conv => lhs; whnf))) ?_) | refine XOA.unwanted rfl rfl rfl rfl ?_ | refine XOA.unwantedP rfl rfl rfl (by first | exact (rfl : decide _ = true) | exact (rfl : decide _ = false) | (refine decide_eq_true ?_; assumption) | (refine decide_eq_false ?_; assumption) | (refine decide_eq_true ?_; omega) | (refine decide_eq_false ?_; omega)) ?_ | refine XOA.unwantedU rfl rfl rfl ?_
    first | (refine XOA.wanted rfl rfl ?_; refine XOA.rd rfl (Rd.geq rfl rfl) ?_) | (refine XOA.wantedP rfl rfl (by first | exact (rfl : decide _ = true) | exact (rfl : decide _ = false) | (refine decide_eq_true ?_; assumption) | (refine decide_eq_false ?_; assumption) | (refine decide_eq_true ?_; omega) | (refine decide_eq_false ?_; omega)) ?_; refine XOA.rd rfl (Rd.geq rfl rfl) ?_) | refine XOA.unwanted rfl rfl rfl rfl ?_ | refine XOA.unwantedP rfl rfl rfl (by first | exact (rfl : decide _ = true) | exact (rfl : decide _ = false) | (refine decide_eq_true ?_; assumption) | (refine decide_eq_false ?_; assumption) | (refine decide_eq_true ?_; omega) | (refine decide_eq_false ?_; omega)) ?_ | refine XOA.unwantedU rfl rfl rfl ?_
    refine XOA.rd rfl (by first | exact Rd.pickT rfl (by with_reducible (conv => lhs; whnf)) | exact Rd.pickF rfl (by with_reducible (conv => lhs; whnf)) | exact Rd.pickP rfl (by first | exact (rfl : decide _ = true) | exact (rfl : decide _ = false) | (refine decide_eq_true ?_; assumption) | (refine decide_eq_false ?_; assumption) | (refine decide_eq_true ?_; omega) | (refine decide_eq_false ?_; omega)) (by with_reducible (conv => lhs; whnf))) ?_
    refine XOA.nil ?_
    refine DA.thn_normal ?_
    refine XA.condT rfl (by first | rfl | exact (by first | exact (rfl : decide _ = true) | exact (rfl : decide _ = false) | (refine decide_eq_true ?_; assumption) | (refine decide_eq_false ?_; assumption) | (refine decide_eq_true ?_; omega) | (refine decide_eq_false ?_; omega))) ?_
    refine XA.seq ?_
    refine XA.region ?_
    refine XOA.rd rfl (Rd.assign (by with_reducible (conv => lhs; whnf))) ?_
    refine XOA.nil ?_
    refine DA.thn_normal ?_
    refine XA.ret ?_
    refine DA.thn_ret ?_
    exact bodyA.ret (Γ' := [Plate b p]) (ResA.one rfl rfl) (by (repeat (first | exact Ent.nil _ | (apply Ent.sel; focus (first | ((repeat (first | with_reducible exact Sel.head | apply Sel.tail)); done) | ((repeat (first | exact Sel.head | apply Sel.tail)); done))) | apply Ent.selNil | apply Ent.selEmp)); (first | done | fail)) ⟨by simp; omega, rfl, by rw [PlateS.write, if_neg (by omega)]⟩
  by_cases h1 : 34 ≤ a
  · 
    refine enterA3 Try.func16 rfl rfl rfl ?_
    refine XA.seq ?_
    refine XA.region ?_
    refine XOA.wr0 rfl (WrA.box (by with_reducible (conv => lhs; whnf)) (by first | exact wv_cells _ | exact agg_cells _ | rfl)) ?_
    rintro _ _ _ ⟨g5, rfl, rfl, rfl⟩
    refine XOA.rd rfl (Rd.assign (by with_reducible (conv => lhs; whnf))) ?_
    refine XOA.nil ?_
    refine DA.thn_normal ?_
    refine XA.seq ?_
    refine XA.seq ?_
    refine XA.region ?_
    refine XOA.rd rfl (Rd.move (by with_reducible (conv => lhs; whnf))) ?_
    refine XOA.rd rfl (Rd.lss rfl rfl) ?_
    refine XOA.rd rfl (Rd.move (by with_reducible (conv => lhs; whnf))) ?_
    first | (refine XOA.wanted rfl rfl ?_; refine XOA.rd rfl (Rd.move (by with_reducible (conv => lhs; whnf))) ?_) | (refine XOA.wantedP rfl rfl (by first | exact (rfl : decide _ = true) | exact (rfl : decide _ = false) | (refine decide_eq_true ?_; assumption) | (refine decide_eq_false ?_; assumption) | (refine decide_eq_true ?_; omega) | (refine decide_eq_false ?_; omega)) ?_; refine XOA.rd rfl (Rd.move (by with_reducible (conv => lhs; whnf))) ?_) | refine XOA.unwanted rfl rfl rfl rfl ?_ | refine XOA.unwantedP rfl rfl rfl (by first | exact (rfl : decide _ = true) | exact (rfl : decide _ = false) | (refine decide_eq_true ?_; assumption) | (refine decide_eq_false ?_; assumption) | (refine decide_eq_true ?_; omega) | (refine decide_eq_false ?_; omega)) ?_ | refine XOA.unwantedU rfl rfl rfl ?_
    first | (refine XOA.wanted rfl rfl ?_; refine XOA.rd rfl (Rd.geq rfl rfl) ?_) | (refine XOA.wantedP rfl rfl (by first | exact (rfl : decide _ = true) | exact (rfl : decide _ = false) | (refine decide_eq_true ?_; assumption) | (refine decide_eq_false ?_; assumption) | (refine decide_eq_true ?_; omega) | (refine decide_eq_false ?_; omega)) ?_; refine XOA.rd rfl (Rd.geq rfl rfl) ?_) | refine XOA.unwanted rfl rfl rfl rfl ?_ | refine XOA.unwantedP rfl rfl rfl (by first | exact (rfl : decide _ = true) | exact (rfl : decide _ = false) | (refine decide_eq_true ?_; assumption) | (refine decide_eq_false ?_; assumption) | (refine decide_eq_true ?_; omega) | (refine decide_eq_false ?_; omega)) ?_ | refine XOA.unwantedU rfl rfl rfl ?_
    refine XOA.rd rfl (by first | exact Rd.pickT rfl (by with_reducible (conv => lhs; whnf)) | exact Rd.pickF rfl (by with_reducible (conv => lhs; whnf)) | exact Rd.pickP rfl (by first | exact (rfl : decide _ = true) | exact (rfl : decide _ = false) | (refine decide_eq_true ?_; assumption) | (refine decide_eq_false ?_; assumption) | (refine decide_eq_true ?_; omega) | (refine decide_eq_false ?_; omega)) (by with_reducible (conv => lhs; whnf))) ?_
    refine XOA.nil ?_
    refine DA.thn_normal ?_
    refine XA.condT rfl (by first | rfl | exact (by first | exact (rfl : decide _ = true) | exact (rfl : decide _ = false) | (refine decide_eq_true ?_; assumption) | (refine decide_eq_false ?_; assumption) | (refine decide_eq_true ?_; omega) | (refine decide_eq_false ?_; omega))) ?_
    refine XA.seq ?_
    refine XA.region ?_
    refine XOA.rd rfl (Rd.assign (by with_reducible (conv => lhs; whnf))) ?_
    refine XOA.nil ?_
    refine DA.thn_normal ?_
    refine XA.ret ?_
    refine DA.thn_ret ?_
    exact bodyA.ret (Γ' := [Plate b p]) (ResA.one rfl rfl) (by (repeat (first | exact Ent.nil _ | (apply Ent.sel; focus (first | ((repeat (first | with_reducible exact Sel.head | apply Sel.tail)); done) | ((repeat (first | exact Sel.head | apply Sel.tail)); done))) | apply Ent.selNil | apply Ent.selEmp)); (first | done | fail)) ⟨by simp; omega, rfl, by rw [PlateS.write, if_neg (by omega)]⟩
  refine enterA3 Try.func16 rfl rfl rfl ?_
  refine XA.seq ?_
  refine XA.region ?_
  refine XOA.wr0 rfl (WrA.box (by with_reducible (conv => lhs; whnf)) (by first | exact wv_cells _ | exact agg_cells _ | rfl)) ?_
  rintro _ _ _ ⟨g5, rfl, rfl, rfl⟩
  refine XOA.rd rfl (Rd.assign (by with_reducible (conv => lhs; whnf))) ?_
  refine XOA.nil ?_
  refine DA.thn_normal ?_
  refine XA.seq ?_
  refine XA.seq ?_
  refine XA.region ?_
  refine XOA.rd rfl (Rd.move (by with_reducible (conv => lhs; whnf))) ?_
  refine XOA.rd rfl (Rd.lss rfl rfl) ?_
  refine XOA.rd rfl (Rd.move (by with_reducible (conv => lhs; whnf))) ?_
  first | (refine XOA.wanted rfl rfl ?_; refine XOA.rd rfl (Rd.move (by with_reducible (conv => lhs; whnf))) ?_) | (refine XOA.wantedP rfl rfl (by first | exact (rfl : decide _ = true) | exact (rfl : decide _ = false) | (refine decide_eq_true ?_; assumption) | (refine decide_eq_false ?_; assumption) | (refine decide_eq_true ?_; omega) | (refine decide_eq_false ?_; omega)) ?_; refine XOA.rd rfl (Rd.move (by with_reducible (conv => lhs; whnf))) ?_) | refine XOA.unwanted rfl rfl rfl rfl ?_ | refine XOA.unwantedP rfl rfl rfl (by first | exact (rfl : decide _ = true) | exact (rfl : decide _ = false) | (refine decide_eq_true ?_; assumption) | (refine decide_eq_false ?_; assumption) | (refine decide_eq_true ?_; omega) | (refine decide_eq_false ?_; omega)) ?_ | refine XOA.unwantedU rfl rfl rfl ?_
  first | (refine XOA.wanted rfl rfl ?_; refine XOA.rd rfl (Rd.geq rfl rfl) ?_) | (refine XOA.wantedP rfl rfl (by first | exact (rfl : decide _ = true) | exact (rfl : decide _ = false) | (refine decide_eq_true ?_; assumption) | (refine decide_eq_false ?_; assumption) | (refine decide_eq_true ?_; omega) | (refine decide_eq_false ?_; omega)) ?_; refine XOA.rd rfl (Rd.geq rfl rfl) ?_) | refine XOA.unwanted rfl rfl rfl rfl ?_ | refine XOA.unwantedP rfl rfl rfl (by first | exact (rfl : decide _ = true) | exact (rfl : decide _ = false) | (refine decide_eq_true ?_; assumption) | (refine decide_eq_false ?_; assumption) | (refine decide_eq_true ?_; omega) | (refine decide_eq_false ?_; omega)) ?_ | refine XOA.unwantedU rfl rfl rfl ?_
  refine XOA.rd rfl (by first | exact Rd.pickT rfl (by with_reducible (conv => lhs; whnf)) | exact Rd.pickF rfl (by with_reducible (conv => lhs; whnf)) | exact Rd.pickP rfl (by first | exact (rfl : decide _ = true) | exact (rfl : decide _ = false) | (refine decide_eq_true ?_; assumption) | (refine decide_eq_false ?_; assumption) | (refine decide_eq_true ?_; omega) | (refine decide_eq_false ?_; omega)) (by with_reducible (conv => lhs; whnf))) ?_
  refine XOA.nil ?_
  refine DA.thn_normal ?_
  refine XA.condF rfl (by first | rfl | exact (by first | exact (rfl : decide _ = true) | exact (rfl : decide _ = false) | (refine decide_eq_true ?_; assumption) | (refine decide_eq_false ?_; assumption) | (refine decide_eq_true ?_; omega) | (refine decide_eq_false ?_; omega))) ?_
  refine XA.skip ?_
  refine DA.thn_normal ?_
  refine XA.seq ?_
  first | refine XA.opn (R := Plate b p) (by ((repeat (first | with_reducible exact Sel.head | apply Sel.tail)); (first | done | fail))) (Plate.opn) ?_ | refine XOA.opn (R := Plate b p) (by ((repeat (first | with_reducible exact Sel.head | apply Sel.tail)); (first | done | fail))) (Plate.opn) ?_ | refine DA.opn (R := Plate b p) (by ((repeat (first | with_reducible exact Sel.head | apply Sel.tail)); (first | done | fail))) (Plate.opn) ?_
  rintro ⟨⟨pa, ca⟩, pw, cw⟩ hok
  first | refine XA.re (by conv => lhs; dsimp only [List.cons_append, List.nil_append]) ?_ | refine XOA.re (by conv => lhs; dsimp only [List.cons_append, List.nil_append]) ?_ | refine DA.re (by conv => lhs; dsimp only [List.cons_append, List.nil_append]) ?_
  refine XA.join [(13, 32)] (fun x : (Option Addr × Nat) × (Option Addr × Nat) => []) (fun x σ' Γ' => σ = σ' ∧ Γ' = [blk b [.slice x.1.1 (p.ws.length + 1) x.1.2, .slice x.2.1 (p.ws.length + 1) x.2.2, i64 p.sure] 30, lst 3 1 (.slice x.1.1 (p.ws.length + 1) x.1.2) (p.ws.length + 1) (p.ats ++ [i64 a]), lst 32 8 (.slice x.2.1 (p.ws.length + 1) x.2.2) (p.ws.length + 1) (p.wcs ++ ints w)]) ?_ ?_
  · skip
    refine XA.drawQ (by kernel_rfl) _ _ [16, 17, 18, 19, 20, 21] 22 #[false, false, false, false, false, false, false, false, false, false, false, false, false, false, false, false, false, false, false, false, false, false] rfl rfl (by kernel_rfl) (PH.sub.refl _) (Ent.sel (R := blk b _ _) (by ((repeat (first | with_reducible exact Sel.head | apply Sel.tail)); (first | done | fail))) (Ent.sel (R := blk g5 _ _) (by ((repeat (first | with_reducible exact Sel.head | apply Sel.tail)); (first | done | fail))) (Ent.nil _))) ?_
    refine XQA.pu (i := 0) (listed' := #[true, false, false, false, false, false, false, false, false, false, false, false, false, false, false, false, false, false, false, false, false, false]) rfl rfl (by kernel_rfl) rfl Gd.free (Rd.move (by with_reducible (conv => lhs; whnf))) ?_
    refine XQA.pu (i := 1) (listed' := #[true, true, false, false, false, false, false, false, false, false, false, false, false, false, false, false, false, false, false, false, false, false]) rfl rfl (by kernel_rfl) rfl Gd.free (Rd.move (by with_reducible (conv => lhs; whnf))) ?_
    refine XQA.pu (i := 2) (listed' := #[true, true, true, false, false, false, false, false, false, false, false, false, false, false, false, false, false, false, false, false, false, false]) rfl rfl (by kernel_rfl) rfl Gd.free (Rd.move (by with_reducible (conv => lhs; whnf))) ?_
    refine XQA.pu (i := 3) (listed' := #[true, true, true, true, false, false, false, false, false, false, false, false, false, false, false, false, false, false, false, false, false, false]) rfl rfl (by kernel_rfl) rfl Gd.free (Rd.nilCheck rfl) ?_
    refine XQA.pu (i := 4) (listed' := #[true, true, true, true, true, false, false, false, false, false, false, false, false, false, false, false, false, false, false, false, false, false]) rfl rfl (by kernel_rfl) rfl Gd.free (Rd.fieldAddr (tyrow rfl) rfl rfl (tyrow rfl) rfl rfl (by first | (conv => lhs; simp only [Nat.reduceAdd, Nat.zero_add, Nat.add_zero, Nat.reduceMul, Nat.mul_one, Int.toNat_natCast, Int.reduceToNat, Nat.zero_mul]) | rfl)) ?_
    refine XQA.rd (i := 5) (listed' := #[true, true, true, true, true, true, false, false, false, false, false, false, false, false, false, false, false, false, false, false, false, false]) rfl rfl (by kernel_rfl) rfl Gd.free (Rd.load rfl (Ld.atC (tyrow rfl) rfl (by first | (exact AtC.blk (by ((repeat (first | with_reducible exact Sel.head | apply Sel.tail)); (first | done | fail))) (by first | rfl | assumption)) | (exact AtC.per (by first | assumption)) | (exact AtC.lst (by ((repeat (first | with_reducible exact Sel.head | apply Sel.tail)); (first | done | fail))) (by first | rfl | assumption))))) ?_
    refine XQA.pu (i := 6) (listed' := #[true, true, true, true, true, true, true, false, false, false, false, false, false, false, false, false, false, false, false, false, false, false]) rfl rfl (by kernel_rfl) rfl Gd.free (Rd.move (by with_reducible (conv => lhs; whnf))) ?_
    refine XQA.pu (i := 9) (listed' := #[true, true, true, true, true, true, true, false, false, true, false, false, false, false, false, false, false, false, false, false, false, false]) rfl rfl (by kernel_rfl) rfl Gd.free (Rd.move (by with_reducible (conv => lhs; whnf))) ?_
    refine XQA.pu (i := 10) (listed' := #[true, true, true, true, true, true, true, false, false, true, true, false, false, false, false, false, false, false, false, false, false, false]) rfl rfl (by kernel_rfl) rfl Gd.free (Rd.nilCheck rfl) ?_
    refine XQA.pu (i := 11) (listed' := #[true, true, true, true, true, true, true, false, false, true, true, true, false, false, false, false, false, false, false, false, false, false]) rfl rfl (by kernel_rfl) rfl Gd.free (Rd.fieldAddr (tyrow rfl) rfl rfl (tyrow rfl) rfl rfl (by first | (conv => lhs; simp only [Nat.reduceAdd, Nat.zero_add, Nat.add_zero, Nat.reduceMul, Nat.mul_one, Int.toNat_natCast, Int.reduceToNat, Nat.zero_mul]) | rfl)) ?_
    refine XQA.rd (i := 12) (listed' := #[true, true, true, true, true, true, true, false, false, true, true, true, true, false, false, false, false, false, false, false, false, false]) rfl rfl (by kernel_rfl) rfl Gd.free (Rd.load rfl (Ld.atC (tyrow rfl) rfl (by first | (exact AtC.blk (by ((repeat (first | with_reducible exact Sel.head | apply Sel.tail)); (first | done | fail))) (by first | rfl | assumption)) | (exact AtC.per (by first | assumption)) | (exact AtC.lst (by ((repeat (first | with_reducible exact Sel.head | apply Sel.tail)); (first | done | fail))) (by first | rfl | assumption))))) ?_
    refine XQA.rd (i := 13) (listed' := #[true, true, true, true, true, true, true, false, false, true, true, true, true, true, false, false, false, false, false, false, false, false]) rfl rfl (by kernel_rfl) rfl Gd.free (Rd.load rfl (by first | (exact Ld.atBlk (tyrow rfl) rfl (by ((repeat (first | with_reducible exact Sel.head | apply Sel.tail)); (first | done | fail))) rfl (by first | exact take0 (by first | rfl | assumption | (simp [*]; (first | done | fail)) | (simp [*]; (first | done | fail))) | assumption | exact take_app (by first | rfl | assumption | (simp [*]; (first | done | fail)) | (simp [*]; (first | done | fail))) | (conv => lhs; simp only [List.drop_succ_cons, List.drop_zero, List.take_succ_cons, List.take_zero])) (by first | rfl | assumption | (simp [*]; (first | done | fail)) | (simp [*]; (first | done | fail)))) | (exact Ld.at (tyrow rfl) rfl (At.per (by assumption)) (by first | rfl | assumption | (simp [*]; (first | done | fail)) | (simp [*]; (first | done | fail)))) | (exact Ld.atLst (tyrow rfl) rfl (by ((repeat (first | with_reducible exact Sel.head | apply Sel.tail)); (first | done | fail))) rfl (by first | exact take0 (by first | rfl | assumption | (simp [*]; (first | done | fail)) | (simp [*]; (first | done | fail))) | assumption | exact take_app (by first | rfl | assumption | (simp [*]; (first | done | fail)) | (simp [*]; (first | done | fail))) | (conv => lhs; simp only [List.drop_succ_cons, List.drop_zero, List.take_succ_cons, List.take_zero])) (by first | rfl | assumption | (simp [*]; (first | done | fail)) | (simp [*]; (first | done | fail)))))) ?_
    refine XQA.w2 (i := 7) (j := 14) (by kernel_rfl) ?_ ?_
    · refine XQA1.wr0 (listed' := #[true, true, true, true, true, true, true, true, false, true, true, true, true, true, false, false, false, false, false, false, false, false]) rfl rfl Gd.free (by kernel_rfl) rfl (WrA.slice1 (tyrow rfl) rfl (tyrow rfl) (by with_reducible (conv => lhs; whnf)) (by first | exact wv_cells _ | exact agg_cells _ | rfl) (by first | rfl | assumption | (simp [*]; (first | done | fail)) | (simp [*]; (first | done | fail))) rfl (by decide) rfl) ?_
      rintro _ _ _ ⟨g20, rfl, rfl, rfl⟩
      refine ⟨⟨(by first | exact PH.sub.refl _ | assumption), (by (repeat (first | exact Ent.nil _ | (apply Ent.sel; focus (first | ((repeat (first | with_reducible exact Sel.head | apply Sel.tail)); done) | ((repeat (first | exact Sel.head | apply Sel.tail)); done))) | apply Ent.selNil | apply Ent.selEmp)); (first | done | fail))⟩, XQA.re (by conv => lhs; dsimp only [List.cons_append, List.nil_append]) ?_⟩
      refine XQA.w2 (i := 8) (j := 14) (by kernel_rfl) ?_ ?_
      · refine XQA1.wr0 (listed' := #[true, true, true, true, true, true, true, true, true, true, true, true, true, true, false, false, false, false, false, false, false, false]) rfl rfl Gd.free (by kernel_rfl) rfl (WrA.append1 (tyrow rfl) rfl (tyrow rfl) rfl rfl rfl (by ((repeat (first | with_reducible exact Sel.head | apply Sel.tail)); (first | done | fail))) (by ((repeat (first | with_reducible exact Sel.head | apply Sel.tail)); (first | done | fail))) (by first | rfl | assumption | (simp [*]; (first | done | fail)) | (simp [*]; (first | done | fail))) (by (repeat (first | assumption | exact ones_ints _ | exact ones_lit rfl | refine ones_cons rfl ?_ | refine ones_append ?_ ?_)); (first | done | fail)) (by simp only [maxLen]; omega) (by first | omega | (simp only []; omega))) ?_
        rintro _ _ _ ⟨p21, c21, rfl, rfl, rfl⟩
        refine ⟨⟨(by first | exact PH.sub.refl _ | assumption), (by (repeat (first | exact Ent.nil _ | (apply Ent.sel; focus (first | ((repeat (first | with_reducible exact Sel.head | apply Sel.tail)); done) | ((repeat (first | exact Sel.head | apply Sel.tail)); done))) | apply Ent.selNil | apply Ent.selEmp)); (first | done | fail))⟩, XQA.re (by conv => lhs; dsimp only [List.cons_append, List.nil_append]) ?_⟩
        refine XQA.w1 (i := 14) (by kernel_rfl) ?_
        refine XQA1.wr0 (listed' := #[true, true, true, true, true, true, true, true, true, true, true, true, true, true, true, false, false, false, false, false, false, false]) rfl rfl Gd.free (by kernel_rfl) rfl (WrA.slice1 (tyrow rfl) rfl (tyrow rfl) (by with_reducible (conv => lhs; whnf)) (by first | exact wv_cells _ | exact agg_cells _ | rfl) (by first | rfl | assumption | (simp [*]; (first | done | fail)) | (simp [*]; (first | done | fail))) rfl (by decide) rfl) ?_
        rintro _ _ _ ⟨g27, rfl, rfl, rfl⟩
        refine ⟨⟨(by first | exact PH.sub.refl _ | assumption), (by (repeat (first | exact Ent.nil _ | (apply Ent.sel; focus (first | ((repeat (first | with_reducible exact Sel.head | apply Sel.tail)); done) | ((repeat (first | exact Sel.head | apply Sel.tail)); done))) | apply Ent.selNil | apply Ent.selEmp)); (first | done | fail))⟩, XQA.re (by conv => lhs; dsimp only [List.cons_append, List.nil_append]) ?_⟩
        refine XQA.w1 (i := 15) (by kernel_rfl) ?_
        refine XQA1.wr0 (listed' := #[true, true, true, true, true, true, true, true, true, true, true, true, true, true, true, true, false, false, false, false, false, false]) rfl rfl Gd.free (by kernel_rfl) rfl (WrA.append1 (tyrow rfl) rfl (tyrow rfl) rfl rfl rfl (by ((repeat (first | with_reducible exact Sel.head | apply Sel.tail)); (first | done | fail))) (by ((repeat (first | with_reducible exact Sel.head | apply Sel.tail)); (first | done | fail))) (by first | rfl | assumption | (simp [*]; (first | done | fail)) | (simp [*]; (first | done | fail))) (by (repeat (first | assumption | exact ones_ints _ | exact ones_lit rfl | refine ones_cons rfl ?_ | refine ones_append ?_ ?_)); (first | done | fail)) (by simp only [maxLen]; omega) (by first | omega | (simp only []; omega))) ?_
        rintro _ _ _ ⟨p28, c28, rfl, rfl, rfl⟩
        refine ⟨⟨(by first | exact PH.sub.refl _ | assumption), (by (repeat (first | exact Ent.nil _ | (apply Ent.sel; focus (first | ((repeat (first | with_reducible exact Sel.head | apply Sel.tail)); done) | ((repeat (first | exact Sel.head | apply Sel.tail)); done))) | apply Ent.selNil | apply Ent.selEmp)); (first | done | fail))⟩, XQA.re (by conv => lhs; dsimp only [List.cons_append, List.nil_append]) ?_⟩
        refine XQA.pu (i := 16) (listed' := #[true, true, true, true, true, true, true, true, true, true, true, true, true, true, true, true, true, false, false, false, false, false]) rfl rfl (by kernel_rfl) rfl Gd.free (Rd.nilCheck rfl) ?_
        refine XQA.pu (i := 17) (listed' := #[true, true, true, true, true, true, true, true, true, true, true, true, true, true, true, true, true, true, false, false, false, false]) rfl rfl (by kernel_rfl) rfl Gd.free (Rd.fieldAddr (tyrow rfl) rfl rfl (tyrow rfl) rfl rfl (by first | (conv => lhs; simp only [Nat.reduceAdd, Nat.zero_add, Nat.add_zero, Nat.reduceMul, Nat.mul_one, Int.toNat_natCast, Int.reduceToNat, Nat.zero_mul]) | rfl)) ?_
        refine XQA.w1 (i := 18) (by kernel_rfl) ?_
        refine XQA1.wrZ0 (listed' := #[true, true, true, true, true, true, true, true, true, true, true, true, true, true, true, true, true, true, true, false, false, false]) rfl rfl Gd.free (by kernel_rfl) rfl (by kernel_rfl) (by apply WrA.store; exact tyrow rfl; rfl; (focus (first | (((repeat (first | with_reducible exact Sel.head | apply Sel.tail)); (first | done | fail))))); exact (by with_reducible (conv => lhs; whnf)); exact (by first | exact wv_cells _ | exact agg_cells _ | rfl); exact (by first | rfl | assumption | (simp [*]; (first | done | fail)) | (simp [*]; (first | done | fail))); exact (by first | exact Nat.le_refl _ | exact hfit | decide | (simp [*]; (first | done | fail)) | (simp; omega)); exact (by (repeat (first | assumption | exact ones_ints _ | exact ones_lit rfl | refine ones_cons rfl ?_ | refine ones_append ?_ ?_)); (first | done | fail)); exact (by first | ((with_reducible apply splice_all); (first | rfl | (simp [*]; (first | done | fail)))) | assumption | exact hspl _ | (conv => lhs; simp only [splice, List.take_zero, List.take_succ_cons, List.drop_zero, List.drop_succ_cons, List.length_cons, List.length_nil, List.nil_append, List.cons_append, List.append_nil, List.append_eq, Nat.reduceAdd, Nat.zero_add, Nat.add_zero]) | rfl)) ?_
        rintro _ _ _ ⟨rfl, rfl, rfl⟩
        refine XQA.re (by conv => lhs; dsimp only [List.cons_append, List.nil_append]) ?_
        refine XQA.pu (i := 19) (listed' := #[true, true, true, true, true, true, true, true, true, true, true, true, true, true, true, true, true, true, true, true, false, false]) rfl rfl (by kernel_rfl) rfl Gd.free (Rd.nilCheck rfl) ?_
        refine XQA.pu (i := 20) (listed' := #[true, true, true, true, true, true, true, true, true, true, true, true, true, true, true, true, true, true, true, true, true, false]) rfl rfl (by kernel_rfl) rfl Gd.free (Rd.fieldAddr (tyrow rfl) rfl rfl (tyrow rfl) rfl rfl (by first | (conv => lhs; simp only [Nat.reduceAdd, Nat.zero_add, Nat.add_zero, Nat.reduceMul, Nat.mul_one, Int.toNat_natCast, Int.reduceToNat, Nat.zero_mul]) | rfl)) ?_
        refine XQA.w1 (i := 21) (by kernel_rfl) ?_
        refine XQA1.wrZ0 (listed' := #[true, true, true, true, true, true, true, true, true, true, true, true, true, true, true, true, true, true, true, true, true, true]) rfl rfl Gd.free (by kernel_rfl) rfl (by kernel_rfl) (by apply WrA.store; exact tyrow rfl; rfl; (focus (first | (((repeat (first | with_reducible exact Sel.head | apply Sel.tail)); (first | done | fail))))); exact (by with_reducible (conv => lhs; whnf)); exact (by first | exact wv_cells _ | exact agg_cells _ | rfl); exact (by first | rfl | assumption | (simp [*]; (first | done | fail)) | (simp [*]; (first | done | fail))); exact (by first | exact Nat.le_refl _ | exact hfit | decide | (simp [*]; (first | done | fail)) | (simp; omega)); exact (by (repeat (first | assumption | exact ones_ints _ | exact ones_lit rfl | refine ones_cons rfl ?_ | refine ones_append ?_ ?_)); (first | done | fail)); exact (by first | ((with_reducible apply splice_all); (first | rfl | (simp [*]; (first | done | fail)))) | assumption | exact hspl _ | (conv => lhs; simp only [splice, List.take_zero, List.take_succ_cons, List.drop_zero, List.drop_succ_cons, List.length_cons, List.length_nil, List.nil_append, List.cons_append, List.append_nil, List.append_eq, Nat.reduceAdd, Nat.zero_add, Nat.add_zero]) | rfl)) ?_
        rintro _ _ _ ⟨rfl, rfl, rfl⟩
        refine XQA.re (by conv => lhs; dsimp only [List.cons_append, List.nil_append]) ?_
        refine XQA.nil rfl ?_
        refine DA.thn_normal ⟨(by (repeat (first | exact Keep.refl _ _ | refine Keep.upd ?_ rfl | refine Keep.updO ?_ rfl | refine Keep.updN ?_)); (first | done | fail)), ((p21, c21), (p28, c28)), _, trivial, ?_, rfl, rfl⟩; exact (by (repeat (first | exact Ent.nil _ | (apply Ent.sel; focus (first | ((repeat (first | with_reducible exact Sel.head | apply Sel.tail)); done) | ((repeat (first | exact Sel.head | apply Sel.tail)); done))) | apply Ent.selNil | apply Ent.selEmp)); (first | done | fail))
      · refine XQA1.wr0 (listed' := #[true, true, true, true, true, true, true, true, false, true, true, true, true, true, true, false, false, false, false, false, false, false]) rfl rfl Gd.free (by kernel_rfl) rfl (WrA.slice1 (tyrow rfl) rfl (tyrow rfl) (by with_reducible (conv => lhs; whnf)) (by first | exact wv_cells _ | exact agg_cells _ | rfl) (by first | rfl | assumption | (simp [*]; (first | done | fail)) | (simp [*]; (first | done | fail))) rfl (by decide) rfl) ?_
        rintro _ _ _ ⟨g27, rfl, rfl, rfl⟩
        refine ⟨⟨(by first | exact PH.sub.refl _ | assumption), (by (repeat (first | exact Ent.nil _ | (apply Ent.sel; focus (first | ((repeat (first | with_reducible exact Sel.head | apply Sel.tail)); done) | ((repeat (first | exact Sel.head | apply Sel.tail)); done))) | apply Ent.selNil | apply Ent.selEmp)); (first | done | fail))⟩, XQA.re (by conv => lhs; dsimp only [List.cons_append, List.nil_append]) ?_⟩
        refine XQA.w1 (i := 8) (by kernel_rfl) ?_
        refine XQA1.wr0 (listed' := #[true, true, true, true, true, true, true, true, true, true, true, true, true, true, true, false, false, false, false, false, false, false]) rfl rfl Gd.free (by kernel_rfl) rfl (WrA.append1 (tyrow rfl) rfl (tyrow rfl) rfl rfl rfl (by ((repeat (first | with_reducible exact Sel.head | apply Sel.tail)); (first | done | fail))) (by ((repeat (first | with_reducible exact Sel.head | apply Sel.tail)); (first | done | fail))) (by first | rfl | assumption | (simp [*]; (first | done | fail)) | (simp [*]; (first | done | fail))) (by (repeat (first | assumption | exact ones_ints _ | exact ones_lit rfl | refine ones_cons rfl ?_ | refine ones_append ?_ ?_)); (first | done | fail)) (by simp only [maxLen]; omega) (by first | omega | (simp only []; omega))) ?_
        rintro _ _ _ ⟨p21, c21, rfl, rfl, rfl⟩
        refine ⟨⟨(by first | exact PH.sub.refl _ | assumption), (by (repeat (first | exact Ent.nil _ | (apply Ent.sel; focus (first | ((repeat (first | with_reducible exact Sel.head | apply Sel.tail)); done) | ((repeat (first | exact Sel.head | apply Sel.tail)); done))) | apply Ent.selNil | apply Ent.selEmp)); (first | done | fail))⟩, XQA.re (by conv => lhs; dsimp only [List.cons_append, List.nil_append]) ?_⟩
        refine XQA.w1 (i := 15) (by kernel_rfl) ?_
        refine XQA1.wr0 (listed' := #[true, true, true, true, true, true, true, true, true, true, true, true, true, true, true, true, false, false, false, false, false, false]) rfl rfl Gd.free (by kernel_rfl) rfl (WrA.append1 (tyrow rfl) rfl (tyrow rfl) rfl rfl rfl (by ((repeat (first | with_reducible exact Sel.head | apply Sel.tail)); (first | done | fail))) (by ((repeat (first | with_reducible exact Sel.head | apply Sel.tail)); (first | done | fail))) (by first | rfl | assumption | (simp [*]; (first | done | fail)) | (simp [*]; (first | done | fail))) (by (repeat (first | assumption | exact ones_ints _ | exact ones_lit rfl | refine ones_cons rfl ?_ | refine ones_append ?_ ?_)); (first | done | fail)) (by simp only [maxLen]; omega) (by first | omega | (simp only []; omega))) ?_
        rintro _ _ _ ⟨p28, c28, rfl, rfl, rfl⟩
        refine ⟨⟨(by first | exact PH.sub.refl _ | assumption), (by (repeat (first | exact Ent.nil _ | (apply Ent.sel; focus (first | ((repeat (first | with_reducible exact Sel.head | apply Sel.tail)); done) | ((repeat (first | exact Sel.head | apply Sel.tail)); done))) | apply Ent.selNil | apply Ent.selEmp)); (first | done | fail))⟩, XQA.re (by conv => lhs; dsimp only [List.cons_append, List.nil_append]) ?_⟩
        refine XQA.pu (i := 16) (listed' := #[true, true, true, true, true, true, true, true, true, true, true, true, true, true, true, true, true, false, false, false, false, false]) rfl rfl (by kernel_rfl) rfl Gd.free (Rd.nilCheck rfl) ?_
        refine XQA.pu (i := 17) (listed' := #[true, true, true, true, true, true, true, true, true, true, true, true, true, true, true, true, true, true, false, false, false, false]) rfl rfl (by kernel_rfl) rfl Gd.free (Rd.fieldAddr (tyrow rfl) rfl rfl (tyrow rfl) rfl rfl (by first | (conv => lhs; simp only [Nat.reduceAdd, Nat.zero_add, Nat.add_zero, Nat.reduceMul, Nat.mul_one, Int.toNat_natCast, Int.reduceToNat, Nat.zero_mul]) | rfl)) ?_
        refine XQA.w1 (i := 18) (by kernel_rfl) ?_
        refine XQA1.wrZ0 (listed' := #[true, true, true, true, true, true, true, true, true, true, true, true, true, true, true, true, true, true, true, false, false, false]) rfl rfl Gd.free (by kernel_rfl) rfl (by kernel_rfl) (by apply WrA.store; exact tyrow rfl; rfl; (focus (first | (((repeat (first | with_reducible exact Sel.head | apply Sel.tail)); (first | done | fail))))); exact (by with_reducible (conv => lhs; whnf)); exact (by first | exact wv_cells _ | exact agg_cells _ | rfl); exact (by first | rfl | assumption | (simp [*]; (first | done | fail)) | (simp [*]; (first | done | fail))); exact (by first | exact Nat.le_refl _ | exact hfit | decide | (simp [*]; (first | done | fail)) | (simp; omega)); exact (by (repeat (first | assumption | exact ones_ints _ | exact ones_lit rfl | refine ones_cons rfl ?_ | refine ones_append ?_ ?_)); (first | done | fail)); exact (by first | ((with_reducible apply splice_all); (first | rfl | (simp [*]; (first | done | fail)))) | assumption | exact hspl _ | (conv => lhs; simp only [splice, List.take_zero, List.take_succ_cons, List.drop_zero, List.drop_succ_cons, List.length_cons, List.length_nil, List.nil_append, List.cons_append, List.append_nil, List.append_eq, Nat.reduceAdd, Nat.zero_add, Nat.add_zero]) | rfl)) ?_
        rintro _ _ _ ⟨rfl, rfl, rfl⟩
        refine XQA.re (by conv => lhs; dsimp only [List.cons_append, List.nil_append]) ?_
        refine XQA.pu (i := 19) (listed' := #[true, true, true, true, true, true, true, true, true, true, true, true, true, true, true, true, true, true, true, true, false, false]) rfl rfl (by kernel_rfl) rfl Gd.free (Rd.nilCheck rfl) ?_
        refine XQA.pu (i := 20) (listed' := #[true, true, true, true, true, true, true, true, true, true, true, true, true, true, true, true, true, true, true, true, true, false]) rfl rfl (by kernel_rfl) rfl Gd.free (Rd.fieldAddr (tyrow rfl) rfl rfl (tyrow rfl) rfl rfl (by first | (conv => lhs; simp only [Nat.reduceAdd, Nat.zero_add, Nat.add_zero, Nat.reduceMul, Nat.mul_one, Int.toNat_natCast, Int.reduceToNat, Nat.zero_mul]) | rfl)) ?_
        refine XQA.w1 (i := 21) (by kernel_rfl) ?_
        refine XQA1.wrZ0 (listed' := #[true, true, true, true, true, true, true, true, true, true, true, true, true, true, true, true, true, true, true, true, true, true]) rfl rfl Gd.free (by kernel_rfl) rfl (by kernel_rfl) (by apply WrA.store; exact tyrow rfl; rfl; (focus (first | (((repeat (first | with_reducible exact Sel.head | apply Sel.tail)); (first | done | fail))))); exact (by with_reducible (conv => lhs; whnf)); exact (by first | exact wv_cells _ | exact agg_cells _ | rfl); exact (by first | rfl | assumption | (simp [*]; (first | done | fail)) | (simp [*]; (first | done | fail))); exact (by first | exact Nat.le_refl _ | exact hfit | decide | (simp [*]; (first | done | fail)) | (simp; omega)); exact (by (repeat (first | assumption | exact ones_ints _ | exact ones_lit rfl | refine ones_cons rfl ?_ | refine ones_append ?_ ?_)); (first | done | fail)); exact (by first | ((with_reducible apply splice_all); (first | rfl | (simp [*]; (first | done | fail)))) | assumption | exact hspl _ | (conv => lhs; simp only [splice, List.take_zero, List.take_succ_cons, List.drop_zero, List.drop_succ_cons, List.length_cons, List.length_nil, List.nil_append, List.cons_append, List.append_nil, List.append_eq, Nat.reduceAdd, Nat.zero_add, Nat.add_zero]) | rfl)) ?_
        rintro _ _ _ ⟨rfl, rfl, rfl⟩
        refine XQA.re (by conv => lhs; dsimp only [List.cons_append, List.nil_append]) ?_
        refine XQA.nil rfl ?_
        refine DA.thn_normal ⟨(by (repeat (first | exact Keep.refl _ _ | refine Keep.upd ?_ rfl | refine Keep.updO ?_ rfl | refine Keep.updN ?_)); (first | done | fail)), ((p21, c21), (p28, c28)), _, trivial, ?_, rfl, rfl⟩; exact (by (repeat (first | exact Ent.nil _ | (apply Ent.sel; focus (first | ((repeat (first | with_reducible exact Sel.head | apply Sel.tail)); done) | ((repeat (first | exact Sel.head | apply Sel.tail)); done))) | apply Ent.selNil | apply Ent.selEmp)); (first | done | fail))
    · refine XQA1.wr0 (listed' := #[true, true, true, true, true, true, true, false, false, true, true, true, true, true, true, false, false, false, false, false, false, false]) rfl rfl Gd.free (by kernel_rfl) rfl (WrA.slice1 (tyrow rfl) rfl (tyrow rfl) (by with_reducible (conv => lhs; whnf)) (by first | exact wv_cells _ | exact agg_cells _ | rfl) (by first | rfl | assumption | (simp [*]; (first | done | fail)) | (simp [*]; (first | done | fail))) rfl (by decide) rfl) ?_
      rintro _ _ _ ⟨g27, rfl, rfl, rfl⟩
      refine ⟨⟨(by first | exact PH.sub.refl _ | assumption), (by (repeat (first | exact Ent.nil _ | (apply Ent.sel; focus (first | ((repeat (first | with_reducible exact Sel.head | apply Sel.tail)); done) | ((repeat (first | exact Sel.head | apply Sel.tail)); done))) | apply Ent.selNil | apply Ent.selEmp)); (first | done | fail))⟩, XQA.re (by conv => lhs; dsimp only [List.cons_append, List.nil_append]) ?_⟩
      refine XQA.w1 (i := 7) (by kernel_rfl) ?_
      refine XQA1.wr0 (listed' := #[true, true, true, true, true, true, true, true, false, true, true, true, true, true, true, false, false, false, false, false, false, false]) rfl rfl Gd.free (by kernel_rfl) rfl (WrA.slice1 (tyrow rfl) rfl (tyrow rfl) (by with_reducible (conv => lhs; whnf)) (by first | exact wv_cells _ | exact agg_cells _ | rfl) (by first | rfl | assumption | (simp [*]; (first | done | fail)) | (simp [*]; (first | done | fail))) rfl (by decide) rfl) ?_
      rintro _ _ _ ⟨g20, rfl, rfl, rfl⟩
      refine ⟨⟨(by first | exact PH.sub.refl _ | assumption), (by (repeat (first | exact Ent.nil _ | (apply Ent.sel; focus (first | ((repeat (first | with_reducible exact Sel.head | apply Sel.tail)); done) | ((repeat (first | exact Sel.head | apply Sel.tail)); done))) | apply Ent.selNil | apply Ent.selEmp)); (first | done | fail))⟩, XQA.re (by conv => lhs; dsimp only [List.cons_append, List.nil_append]) ?_⟩
      refine XQA.w1 (i := 8) (by kernel_rfl) ?_
      refine XQA1.wr0 (listed' := #[true, true, true, true, true, true, true, true, true, true, true, true, true, true, true, false, false, false, false, false, false, false]) rfl rfl Gd.free (by kernel_rfl) rfl (WrA.append1 (tyrow rfl) rfl (tyrow rfl) rfl rfl rfl (by ((repeat (first | with_reducible exact Sel.head | apply Sel.tail)); (first | done | fail))) (by ((repeat (first | with_reducible exact Sel.head | apply Sel.tail)); (first | done | fail))) (by first | rfl | assumption | (simp [*]; (first | done | fail)) | (simp [*]; (first | done | fail))) (by (repeat (first | assumption | exact ones_ints _ | exact ones_lit rfl | refine ones_cons rfl ?_ | refine ones_append ?_ ?_)); (first | done | fail)) (by simp only [maxLen]; omega) (by first | omega | (simp only []; omega))) ?_
      rintro _ _ _ ⟨p21, c21, rfl, rfl, rfl⟩
      refine ⟨⟨(by first | exact PH.sub.refl _ | assumption), (by (repeat (first | exact Ent.nil _ | (apply Ent.sel; focus (first | ((repeat (first | with_reducible exact Sel.head | apply Sel.tail)); done) | ((repeat (first | exact Sel.head | apply Sel.tail)); done))) | apply Ent.selNil | apply Ent.selEmp)); (first | done | fail))⟩, XQA.re (by conv => lhs; dsimp only [List.cons_append, List.nil_append]) ?_⟩
      refine XQA.w1 (i := 15) (by kernel_rfl) ?_
      refine XQA1.wr0 (listed' := #[true, true, true, true, true, true, true, true, true, true, true, true, true, true, true, true, false, false, false, false, false, false]) rfl rfl Gd.free (by kernel_rfl) rfl (WrA.append1 (tyrow rfl) rfl (tyrow rfl) rfl rfl rfl (by ((repeat (first | with_reducible exact Sel.head | apply Sel.tail)); (first | done | fail))) (by ((repeat (first | with_reducible exact Sel.head | apply Sel.tail)); (first | done | fail))) (by first | rfl | assumption | (simp [*]; (first | done | fail)) | (simp [*]; (first | done | fail))) (by (repeat (first | assumption | exact ones_ints _ | exact ones_lit rfl | refine ones_cons rfl ?_ | refine ones_append ?_ ?_)); (first | done | fail)) (by simp only [maxLen]; omega) (by first | omega | (simp only []; omega))) ?_
      rintro _ _ _ ⟨p28, c28, rfl, rfl, rfl⟩
      refine ⟨⟨(by first | exact PH.sub.refl _ | assumption), (by (repeat (first | exact Ent.nil _ | (apply Ent.sel; focus (first | ((repeat (first | with_reducible exact Sel.head | apply Sel.tail)); done) | ((repeat (first | exact Sel.head | apply Sel.tail)); done))) | apply Ent.selNil | apply Ent.selEmp)); (first | done | fail))⟩, XQA.re (by conv => lhs; dsimp only [List.cons_append, List.nil_append]) ?_⟩
      refine XQA.pu (i := 16) (listed' := #[true, true, true, true, true, true, true, true, true, true, true, true, true, true, true, true, true, false, false, false, false, false]) rfl rfl (by kernel_rfl) rfl Gd.free (Rd.nilCheck rfl) ?_
      refine XQA.pu (i := 17) (listed' := #[true, true, true, true, true, true, true, true, true, true, true, true, true, true, true, true, true, true, false, false, false, false]) rfl rfl (by kernel_rfl) rfl Gd.free (Rd.fieldAddr (tyrow rfl) rfl rfl (tyrow rfl) rfl rfl (by first | (conv => lhs; simp only [Nat.reduceAdd, Nat.zero_add, Nat.add_zero, Nat.reduceMul, Nat.mul_one, Int.toNat_natCast, Int.reduceToNat, Nat.zero_mul]) | rfl)) ?_
      refine XQA.w1 (i := 18) (by kernel_rfl) ?_
      refine XQA1.wrZ0 (listed' := #[true, true, true, true, true, true, true, true, true, true, true, true, true, true, true, true, true, true, true, false, false, false]) rfl rfl Gd.free (by kernel_rfl) rfl (by kernel_rfl) (by apply WrA.store; exact tyrow rfl; rfl; (focus (first | (((repeat (first | with_reducible exact Sel.head | apply Sel.tail)); (first | done | fail))))); exact (by with_reducible (conv => lhs; whnf)); exact (by first | exact wv_cells _ | exact agg_cells _ | rfl); exact (by first | rfl | assumption | (simp [*]; (first | done | fail)) | (simp [*]; (first | done | fail))); exact (by first | exact Nat.le_refl _ | exact hfit | decide | (simp [*]; (first | done | fail)) | (simp; omega)); exact (by (repeat (first | assumption | exact ones_ints _ | exact ones_lit rfl | refine ones_cons rfl ?_ | refine ones_append ?_ ?_)); (first | done | fail)); exact (by first | ((with_reducible apply splice_all); (first | rfl | (simp [*]; (first | done | fail)))) | assumption | exact hspl _ | (conv => lhs; simp only [splice, List.take_zero, List.take_succ_cons, List.drop_zero, List.drop_succ_cons, List.length_cons, List.length_nil, List.nil_append, List.cons_append, List.append_nil, List.append_eq, Nat.reduceAdd, Nat.zero_add, Nat.add_zero]) | rfl)) ?_
      rintro _ _ _ ⟨rfl, rfl, rfl⟩
      refine XQA.re (by conv => lhs; dsimp only [List.cons_append, List.nil_append]) ?_
      refine XQA.pu (i := 19) (listed' := #[true, true, true, true, true, true, true, true, true, true, true, true, true, true, true, true, true, true, true, true, false, false]) rfl rfl (by kernel_rfl) rfl Gd.free (Rd.nilCheck rfl) ?_
      refine XQA.pu (i := 20) (listed' := #[true, true, true, true, true, true, true, true, true, true, true, true, true, true, true, true, true, true, true, true, true, false]) rfl rfl (by kernel_rfl) rfl Gd.free (Rd.fieldAddr (tyrow rfl) rfl rfl (tyrow rfl) rfl rfl (by first | (conv => lhs; simp only [Nat.reduceAdd, Nat.zero_add, Nat.add_zero, Nat.reduceMul, Nat.mul_one, Int.toNat_natCast, Int.reduceToNat, Nat.zero_mul]) | rfl)) ?_
      refine XQA.w1 (i := 21) (by kernel_rfl) ?_
      refine XQA1.wrZ0 (listed' := #[true, true, true, true, true, true, true, true, true, true, true, true, true, true, true, true, true, true, true, true, true, true]) rfl rfl Gd.free (by kernel_rfl) rfl (by kernel_rfl) (by apply WrA.store; exact tyrow rfl; rfl; (focus (first | (((repeat (first | with_reducible exact Sel.head | apply Sel.tail)); (first | done | fail))))); exact (by with_reducible (conv => lhs; whnf)); exact (by first | exact wv_cells _ | exact agg_cells _ | rfl); exact (by first | rfl | assumption | (simp [*]; (first | done | fail)) | (simp [*]; (first | done | fail))); exact (by first | exact Nat.le_refl _ | exact hfit | decide | (simp [*]; (first | done | fail)) | (simp; omega)); exact (by (repeat (first | assumption | exact ones_ints _ | exact ones_lit rfl | refine ones_cons rfl ?_ | refine ones_append ?_ ?_)); (first | done | fail)); exact (by first | ((with_reducible apply splice_all); (first | rfl | (simp [*]; (first | done | fail)))) | assumption | exact hspl _ | (conv => lhs; simp only [splice, List.take_zero, List.take_succ_cons, List.drop_zero, List.drop_succ_cons, List.length_cons, List.length_nil, List.nil_append, List.cons_append, List.append_nil, List.append_eq, Nat.reduceAdd, Nat.zero_add, Nat.add_zero]) | rfl)) ?_
      rintro _ _ _ ⟨rfl, rfl, rfl⟩
      refine XQA.re (by conv => lhs; dsimp only [List.cons_append, List.nil_append]) ?_
      refine XQA.nil rfl ?_
      refine DA.thn_normal ⟨(by (repeat (first | exact Keep.refl _ _ | refine Keep.upd ?_ rfl | refine Keep.updO ?_ rfl | refine Keep.updN ?_)); (first | done | fail)), ((p21, c21), (p28, c28)), _, trivial, ?_, rfl, rfl⟩; exact (by (repeat (first | exact Ent.nil _ | (apply Ent.sel; focus (first | ((repeat (first | with_reducible exact Sel.head | apply Sel.tail)); done) | ((repeat (first | exact Sel.head | apply Sel.tail)); done))) | apply Ent.selNil | apply Ent.selEmp)); (first | done | fail))
  rintro ⟨⟨pa', ca'⟩, pw', cw'⟩ δ _ _ ⟨rfl, rfl⟩
  dsimp only [ovr, List.foldl]
  refine DA.thn_normal ?_
  refine XA.seq ?_
  refine XA.region ?_
  refine XOA.rd rfl (Rd.assign (by with_reducible (conv => lhs; whnf))) ?_
  refine XOA.nil ?_
  refine DA.thn_normal ?_
  refine XA.ret ?_
  refine bodyA.ret (ResA.one rfl rfl) (Ent.fold1 (by (repeat (first | exact Ent.nil _ | (apply Ent.sel; focus (first | ((repeat (first | with_reducible exact Sel.head | apply Sel.tail)); done) | ((repeat (first | exact Sel.head | apply Sel.tail)); done))) | apply Ent.selNil | apply Ent.selEmp)); (first | done | fail)) (Plate.mk (hok.write hw) (p := p.write a w) ?_ ?_ ?_ ?_ ?_)) ⟨by simp; omega, rfl, rfl⟩
  all_goals rw [PlateS.write, if_pos (by omega)]
  · simp
  · simp
  · simp [PlateS.ats]
  · simp [PlateS.wcs]
def PlateS.read (p : PlateS) (a : Int) (n : Nat) : List Int := PlateS.last DiskS.zeros a (p.ws.take n)
theorem plast_snoc (w : List Int) (a : Int) (ps : List (Int × List Int)) (q : Int × List Int) : PlateS.last w a (ps ++ [q]) = if q.1 = a then q.2 else PlateS.last w a ps := by simp [PlateS.last]
theorem plen_last {w : List Int} (hw : w.length = 8) (a : Int) : ∀ (ps : List (Int × List Int)), (∀ p ∈ ps, p.2.length = 8) → (PlateS.last w a ps).length = 8 := by
  intro ps
  induction ps generalizing w with
  | nil => intro _; exact hw
  | cons p ps ih =>
    intro hp
    simp only [PlateS.last, List.foldl_cons]
    refine ih ?_ (fun q hq => hp q (by simp [hq]))
    split
    · exact hp p (by simp)
    · exact hw
abbrev PlateO (b : Nat) (p : PlateS) (pa : Option Addr) (ca : Nat) (pw : Option Addr) (cw : Nat) : List HP := [blk b [.slice pa p.ws.length ca, .slice pw p.ws.length cw, i64 p.sure] 30, lst 3 1 (.slice pa p.ws.length ca) p.ws.length p.ats, lst 32 8 (.slice pw p.ws.length cw) p.ws.length p.wcs]
theorem plateO_fold {b : Nat} {p : PlateS} (hok : p.ok) (pa : Option Addr) (ca : Nat) (pw : Option Addr) (cw : Nat) : Ent (PlateO b p pa ca pw cw) [Plate b p] := Ent.fold1 (Ent.refl _) (Plate.mk hok rfl rfl rfl rfl rfl)
theorem pread_o (σ : PH) (b : Nat) (p : PlateS) (a : Int) (n : Nat) (hn : n ≤ p.ws.length) (hlen : p.ws.length < 1000000) (hok : p.ok) (pa pw : Option Addr) (ca cw : Nat) :
    CallsA Try.prog 52 #[ptr b, i64 a, i64 n] σ (PlateO b p pa ca pw cw) (RetA fun v σ' Γ' => v = wv (p.read a n) ∧ σ = σ' ∧ Γ' = PlateO b p pa ca pw cw) := by
  unfold PlateO
  refine enterA3 Try.func52 rfl rfl rfl ?_
  refine XA.seq ?_
  refine XA.region ?_
  refine XOA.wr0 rfl (WrA.alloc (tyrow rfl)) ?_
  rintro _ _ _ ⟨g6, rfl, rfl, rfl⟩
  refine XOA.nil ?_
  refine DA.thn_normal ?_
  refine XA.seq ?_
  refine XA.region ?_
  refine XOA.wr0 rfl (WrA.alloc (tyrow rfl)) ?_
  rintro _ _ _ ⟨g7, rfl, rfl, rfl⟩
  refine XOA.nil ?_
  refine DA.thn_normal ?_
  refine XA.seq ?_
  refine XA.seq ?_
  refine XA.region ?_
  refine XOA.rd rfl (Rd.assign (by with_reducible (conv => lhs; whnf))) ?_
  refine XOA.nil ?_
  refine DA.thn_normal ?_
  refine XA.block ?_
  refine XA.gen [(0, _), (1, _), (2, _), (6, _), (7, _), (8, _)] ⟨(by with_reducible (conv => lhs; whnf)), (by with_reducible (conv => lhs; whnf)), (by with_reducible (conv => lhs; whnf)), (by with_reducible (conv => lhs; whnf)), (by with_reducible (conv => lhs; whnf)), (by with_reducible (conv => lhs; whnf)), trivial⟩ (fun δ => ?_)
  dsimp only [List.foldl]
  refine XA.loop [(8, 29)] (fun k : Nat => [(8, i64 k)]) (fun k σ' Γ' => σ = σ' ∧ k ≤ n ∧ Γ' = [blk g7 (ints (p.read a k)) 32, blk g6 ty32.zero 32, blk b [.slice pa p.ws.length ca, .slice pw p.ws.length cw, i64 p.sure] 30, lst 3 1 (.slice pa p.ws.length ca) p.ws.length p.ats, lst 32 8 (.slice pw p.ws.length cw) p.ws.length p.wcs]) (fun k => n - k) 0 (by exact ⟨rfl, trivial⟩) (Δ0 := _) ?_ (⟨rfl, Nat.zero_le _, rfl⟩) ?_
  · exact (by (repeat (first | exact Ent.nil _ | (apply Ent.sel; focus (first | ((repeat (first | with_reducible exact Sel.head | apply Sel.tail)); done) | ((repeat (first | exact Sel.head | apply Sel.tail)); done))) | apply Ent.selNil | apply Ent.selEmp)); (first | done | fail))
  rintro k δ _ _ ⟨rfl, hk, rfl⟩
  dsimp only [ovr, List.foldl]
  have hl8 : (p.read a k).length = 8 := plen_last rfl _ _ (fun q hq => hok.2 q (List.mem_of_mem_take hq))
  refine XA.seq ?_
  refine XA.seq ?_
  refine XA.region ?_
  refine XOA.rd rfl (Rd.move (by with_reducible (conv => lhs; whnf))) ?_
  refine XOA.rd rfl (Rd.move (by with_reducible (conv => lhs; whnf))) ?_
  refine XOA.rd rfl (Rd.lss rfl rfl) ?_
  refine XOA.nil ?_
  refine DA.thn_normal ?_
  refine XA.condp rfl (fun hlt => ?_) (fun hlt => ?_)
  · have hlt : k < n := by omega
    obtain ⟨q, hq⟩ : ∃ q, p.ws[k]? = some q := ⟨_, List.getElem?_eq_getElem (by omega)⟩
    have hq8 : q.2.length = 8 := hok.2 q (List.mem_of_getElem? hq)
    have hca : p.ats[k]? = some (i64 q.1) := by simp [PlateS.ats, hq]
    have hrow : (p.wcs.drop (k * 8)).take 8 = ints q.2 := by
      have := flat_row (fun q : Int × List Int => ints q.2) 8 p.ws (fun x hx => by simp [hok.2 x hx]) k q hq
      simpa [hq8, PlateS.wcs] using this
    have hsn := take_snoc hq
    first | refine XA.opn (R := lst 3 1 (.slice pa p.ws.length ca) _ _) (by ((repeat (first | with_reducible exact Sel.head | apply Sel.tail)); (first | done | fail))) (lst_some (by omega)) ?_ | refine XOA.opn (R := lst 3 1 (.slice pa p.ws.length ca) _ _) (by ((repeat (first | with_reducible exact Sel.head | apply Sel.tail)); (first | done | fail))) (lst_some (by omega)) ?_ | refine DA.opn (R := lst 3 1 (.slice pa p.ws.length ca) _ _) (by ((repeat (first | with_reducible exact Sel.head | apply Sel.tail)); (first | done | fail))) (lst_some (by omega)) ?_
    rintro ga rfl
    first | refine XA.re (by conv => lhs; dsimp only [List.cons_append, List.nil_append]) ?_ | refine XOA.re (by conv => lhs; dsimp only [List.cons_append, List.nil_append]) ?_ | refine DA.re (by conv => lhs; dsimp only [List.cons_append, List.nil_append]) ?_
    first | refine XA.opn (R := lst 32 8 (.slice pw p.ws.length cw) _ _) (by ((repeat (first | with_reducible exact Sel.head | apply Sel.tail)); (first | done | fail))) (lst_some (by omega)) ?_ | refine XOA.opn (R := lst 32 8 (.slice pw p.ws.length cw) _ _) (by ((repeat (first | with_reducible exact Sel.head | apply Sel.tail)); (first | done | fail))) (lst_some (by omega)) ?_ | refine DA.opn (R := lst 32 8 (.slice pw p.ws.length cw) _ _) (by ((repeat (first | with_reducible exact Sel.head | apply Sel.tail)); (first | done | fail))) (lst_some (by omega)) ?_
    rintro gw rfl
    first | refine XA.re (by conv => lhs; dsimp only [List.cons_append, List.nil_append]) ?_ | refine XOA.re (by conv => lhs; dsimp only [List.cons_append, List.nil_append]) ?_ | refine DA.re (by conv => lhs; dsimp only [List.cons_append, List.nil_append]) ?_
    refine XA.skip ?_
    refine DA.thn_normal ?_
    refine XA.seq ?_
    refine XA.block ?_
    refine XA.seq ?_
    refine XA.region ?_
    refine XOA.rd rfl (Rd.move (by with_reducible (conv => lhs; whnf))) ?_
    refine XOA.rd rfl (Rd.nilCheck rfl) ?_
    refine XOA.rd rfl (Rd.fieldAddr (tyrow rfl) rfl rfl (tyrow rfl) rfl rfl (by first | (conv => lhs; simp only [Nat.reduceAdd, Nat.zero_add, Nat.add_zero, Nat.reduceMul, Nat.mul_one, Int.toNat_natCast, Int.reduceToNat, Nat.zero_mul]) | rfl)) ?_
    refine XOA.rd rfl (Rd.load rfl (Ld.atC (tyrow rfl) rfl (by first | (exact AtC.blk (by ((repeat (first | with_reducible exact Sel.head | apply Sel.tail)); (first | done | fail))) (by first | rfl | assumption)) | (exact AtC.per (by first | assumption)) | (exact AtC.lst (by ((repeat (first | with_reducible exact Sel.head | apply Sel.tail)); (first | done | fail))) (by first | rfl | assumption))))) ?_
    refine XOA.rd rfl (Rd.move (by with_reducible (conv => lhs; whnf))) ?_
    refine XOA.rd rfl (by apply Rd.indexSlice; exact tyrow rfl; rfl; exact tyrow rfl; rfl; rfl; exact (by first | omega | decide | (simp; omega)); exact (by with_reducible (conv => lhs; whnf)); exact (by first | (conv => lhs; simp only [Nat.reduceAdd, Nat.zero_add, Nat.add_zero, Nat.reduceMul, Nat.mul_one, Int.toNat_natCast, Int.reduceToNat, Nat.zero_mul]) | rfl)) ?_
    refine XOA.rd rfl (Rd.load rfl (Ld.atC (tyrow rfl) rfl (by first | (exact AtC.blk (by ((repeat (first | with_reducible exact Sel.head | apply Sel.tail)); (first | done | fail))) (by first | rfl | assumption)) | (exact AtC.per (by first | assumption)) | (exact AtC.lst (by ((repeat (first | with_reducible exact Sel.head | apply Sel.tail)); (first | done | fail))) (by first | rfl | assumption))))) ?_
    refine XOA.rd rfl (Rd.move (by with_reducible (conv => lhs; whnf))) ?_
    refine XOA.rd rfl (Rd.eql rfl rfl) ?_
    refine XOA.nil ?_
    refine DA.thn_normal ?_
    refine XA.condp rfl (fun heq => ?_) (fun heq => ?_)
    · refine XA.region ?_
      refine XOA.rd rfl (Rd.move (by with_reducible (conv => lhs; whnf))) ?_
      refine XOA.rd rfl (Rd.nilCheck rfl) ?_
      refine XOA.rd rfl (Rd.fieldAddr (tyrow rfl) rfl rfl (tyrow rfl) rfl rfl (by first | (conv => lhs; simp only [Nat.reduceAdd, Nat.zero_add, Nat.add_zero, Nat.reduceMul, Nat.mul_one, Int.toNat_natCast, Int.reduceToNat, Nat.zero_mul]) | rfl)) ?_
      refine XOA.rd rfl (Rd.load rfl (Ld.atC (tyrow rfl) rfl (by first | (exact AtC.blk (by ((repeat (first | with_reducible exact Sel.head | apply Sel.tail)); (first | done | fail))) (by first | rfl | assumption)) | (exact AtC.per (by first | assumption)) | (exact AtC.lst (by ((repeat (first | with_reducible exact Sel.head | apply Sel.tail)); (first | done | fail))) (by first | rfl | assumption))))) ?_
      refine XOA.rd rfl (Rd.move (by with_reducible (conv => lhs; whnf))) ?_
      refine XOA.rd rfl (by apply Rd.indexSlice; exact tyrow rfl; rfl; exact tyrow rfl; rfl; rfl; exact (by first | omega | decide | (simp; omega)); exact (by with_reducible (conv => lhs; whnf)); exact (by first | (conv => lhs; simp only [Nat.reduceAdd, Nat.zero_add, Nat.add_zero, Nat.reduceMul, Nat.mul_one, Int.toNat_natCast, Int.reduceToNat, Nat.zero_mul]) | rfl)) ?_
      refine XOA.rd rfl (Rd.load rfl (by first | (exact Ld.atBlk (tyrow rfl) rfl (by ((repeat (first | with_reducible exact Sel.head | apply Sel.tail)); (first | done | fail))) rfl (by first | exact take0 (by first | rfl | assumption | (simp [*]; (first | done | fail)) | (simp [*]; (first | done | fail))) | assumption | exact take_app (by first | rfl | assumption | (simp [*]; (first | done | fail)) | (simp [*]; (first | done | fail))) | (conv => lhs; simp only [List.drop_succ_cons, List.drop_zero, List.take_succ_cons, List.take_zero])) (by first | rfl | assumption | (simp [*]; (first | done | fail)) | (simp [*]; (first | done | fail)))) | (exact Ld.at (tyrow rfl) rfl (At.per (by assumption)) (by first | rfl | assumption | (simp [*]; (first | done | fail)) | (simp [*]; (first | done | fail)))) | (exact Ld.atLst (tyrow rfl) rfl (by ((repeat (first | with_reducible exact Sel.head | apply Sel.tail)); (first | done | fail))) rfl (by first | exact take0 (by first | rfl | assumption | (simp [*]; (first | done | fail)) | (simp [*]; (first | done | fail))) | assumption | exact take_app (by first | rfl | assumption | (simp [*]; (first | done | fail)) | (simp [*]; (first | done | fail))) | (conv => lhs; simp only [List.drop_succ_cons, List.drop_zero, List.take_succ_cons, List.take_zero])) (by first | rfl | assumption | (simp [*]; (first | done | fail)) | (simp [*]; (first | done | fail)))))) ?_
      refine XOA.wr0 rfl (by apply WrA.store; exact tyrow rfl; rfl; (focus (first | (((repeat (first | with_reducible exact Sel.head | apply Sel.tail)); (first | done | fail))))); exact (by with_reducible (conv => lhs; whnf)); exact (by first | exact wv_cells _ | exact agg_cells _ | rfl); exact (by first | rfl | assumption | (simp [*]; (first | done | fail)) | (simp [*]; (first | done | fail))); exact (by first | exact Nat.le_refl _ | exact hfit | decide | (simp [*]; (first | done | fail)) | (simp; omega)); exact (by (repeat (first | assumption | exact ones_ints _ | exact ones_lit rfl | refine ones_cons rfl ?_ | refine ones_append ?_ ?_)); (first | done | fail)); exact (by first | ((with_reducible apply splice_all); (first | rfl | (simp [*]; (first | done | fail)))) | assumption | exact hspl _ | (conv => lhs; simp only [splice, List.take_zero, List.take_succ_cons, List.drop_zero, List.drop_succ_cons, List.length_cons, List.length_nil, List.nil_append, List.cons_append, List.append_nil, List.append_eq, Nat.reduceAdd, Nat.zero_add, Nat.add_zero]) | rfl)) ?_
      rintro _ _ _ ⟨rfl, rfl, rfl⟩
      refine XOA.nil ?_
      refine DA.inb_normal ?_
      refine DA.thn_normal ?_
      refine XA.region ?_
      refine XOA.rd rfl (Rd.move (by with_reducible (conv => lhs; whnf))) ?_
      refine XOA.rd rfl (by first | exact Rd.addi rfl rfl rfl (by omega) | exact Rd.add rfl rfl) ?_
      refine XOA.rd rfl (Rd.assign (by with_reducible (conv => lhs; whnf))) ?_
      refine XOA.nil ?_
      refine DA.thn_normal ?_
      have e : p.read a (k + 1) = q.2 := by rw [PlateS.read, hsn, plast_snoc, if_pos heq]
      refine ⟨(Keep.upd (Keep.upd (Keep.upd (Keep.updN (Keep.upd (Keep.upd (Keep.upd (Keep.upd (Keep.upd (Keep.upd (Keep.upd (Keep.upd (Keep.upd (Keep.upd (Keep.upd (Keep.upd (Keep.upd (Keep.upd (Keep.upd (Keep.upd (Keep.upd (Keep.upd (Keep.upd (Keep.upd (Keep.hav (Keep.refl _ _) rfl) rfl) rfl) rfl) rfl) rfl) rfl) rfl) rfl) rfl) rfl) rfl) rfl) rfl) rfl) rfl) rfl) rfl) rfl) rfl) rfl)) rfl) rfl) rfl), k + 1, _, (by (repeat (first | exact trivial | refine ⟨rfl, ?_⟩ | refine ⟨Eq.trans rfl (congrArg Value.bool hmat.symm), ?_⟩)); (first | done | fail)), ?_, ⟨rfl, hlt, rfl⟩, (by omega)⟩
      · rw [e]; exact (by (repeat (first | exact Ent.nil _ | (apply Ent.sel; focus (first | ((repeat (first | with_reducible exact Sel.head | apply Sel.tail)); done) | ((repeat (first | exact Sel.head | apply Sel.tail)); done))) | apply Ent.selNil | apply Ent.selEmp)); (first | done | fail))
    · refine XA.skip ?_
      refine DA.inb_normal ?_
      refine DA.thn_normal ?_
      refine XA.region ?_
      refine XOA.rd rfl (Rd.move (by with_reducible (conv => lhs; whnf))) ?_
      refine XOA.rd rfl (by first | exact Rd.addi rfl rfl rfl (by omega) | exact Rd.add rfl rfl) ?_
      refine XOA.rd rfl (Rd.assign (by with_reducible (conv => lhs; whnf))) ?_
      refine XOA.nil ?_
      refine DA.thn_normal ?_
      have e : p.read a (k + 1) = p.read a k := by rw [PlateS.read, hsn, plast_snoc, if_neg heq]; rfl
      refine ⟨(Keep.upd (Keep.upd (Keep.upd (Keep.upd (Keep.upd (Keep.upd (Keep.upd (Keep.upd (Keep.upd (Keep.upd (Keep.upd (Keep.upd (Keep.upd (Keep.upd (Keep.upd (Keep.upd (Keep.hav (Keep.refl _ _) rfl) rfl) rfl) rfl) rfl) rfl) rfl) rfl) rfl) rfl) rfl) rfl) rfl) rfl) rfl) rfl) rfl), k + 1, _, (by (repeat (first | exact trivial | refine ⟨rfl, ?_⟩ | refine ⟨Eq.trans rfl (congrArg Value.bool hmat.symm), ?_⟩)); (first | done | fail)), ?_, ⟨rfl, hlt, rfl⟩, (by omega)⟩
      · rw [e]; exact (by (repeat (first | exact Ent.nil _ | (apply Ent.sel; focus (first | ((repeat (first | with_reducible exact Sel.head | apply Sel.tail)); done) | ((repeat (first | exact Sel.head | apply Sel.tail)); done))) | apply Ent.selNil | apply Ent.selEmp)); (first | done | fail))
  · have hkn : k = n := by omega
    subst hkn
    refine XA.exit ?_
    refine DA.thn_exit ?_
    refine DA.thn_exit ?_
    refine DA.inb_same ?_
    refine DA.thn_normal ?_
    refine XA.seq ?_
    refine XA.region ?_
    refine XOA.rd rfl (Rd.load rfl (by first | (exact Ld.atBlk (tyrow rfl) rfl (by ((repeat (first | with_reducible exact Sel.head | apply Sel.tail)); (first | done | fail))) rfl (by first | exact take0 (by first | rfl | assumption | (simp [*]; (first | done | fail)) | (simp [*]; (first | done | fail))) | assumption | exact take_app (by first | rfl | assumption | (simp [*]; (first | done | fail)) | (simp [*]; (first | done | fail))) | (conv => lhs; simp only [List.drop_succ_cons, List.drop_zero, List.take_succ_cons, List.take_zero])) (by first | rfl | assumption | (simp [*]; (first | done | fail)) | (simp [*]; (first | done | fail)))) | (exact Ld.at (tyrow rfl) rfl (At.per (by assumption)) (by first | rfl | assumption | (simp [*]; (first | done | fail)) | (simp [*]; (first | done | fail)))) | (exact Ld.atLst (tyrow rfl) rfl (by ((repeat (first | with_reducible exact Sel.head | apply Sel.tail)); (first | done | fail))) rfl (by first | exact take0 (by first | rfl | assumption | (simp [*]; (first | done | fail)) | (simp [*]; (first | done | fail))) | assumption | exact take_app (by first | rfl | assumption | (simp [*]; (first | done | fail)) | (simp [*]; (first | done | fail))) | (conv => lhs; simp only [List.drop_succ_cons, List.drop_zero, List.take_succ_cons, List.take_zero])) (by first | rfl | assumption | (simp [*]; (first | done | fail)) | (simp [*]; (first | done | fail)))))) ?_
    refine XOA.wr0 rfl (by apply WrA.store; exact tyrow rfl; rfl; (focus (first | (((repeat (first | with_reducible exact Sel.head | apply Sel.tail)); (first | done | fail))))); exact (by with_reducible (conv => lhs; whnf)); exact (by first | exact wv_cells _ | exact agg_cells _ | rfl); exact (by first | rfl | assumption | (simp [*]; (first | done | fail)) | (simp [*]; (first | done | fail))); exact (by first | exact Nat.le_refl _ | exact hfit | decide | (simp [*]; (first | done | fail)) | (simp; omega)); exact (by (repeat (first | assumption | exact ones_ints _ | exact ones_lit rfl | refine ones_cons rfl ?_ | refine ones_append ?_ ?_)); (first | done | fail)); exact (by first | ((with_reducible apply splice_all); (first | rfl | (simp [*]; (first | done | fail)))) | assumption | exact hspl _ | (conv => lhs; simp only [splice, List.take_zero, List.take_succ_cons, List.drop_zero, List.drop_succ_cons, List.length_cons, List.length_nil, List.nil_append, List.cons_append, List.append_nil, List.append_eq, Nat.reduceAdd, Nat.zero_add, Nat.add_zero]) | rfl)) ?_
    rintro _ _ _ ⟨rfl, rfl, rfl⟩
    refine XOA.nil ?_
    refine DA.thn_normal ?_
    refine XA.ret ?_
    exact bodyA.ret (ResA.cell rfl rfl (Ld.atBlk (tyrow rfl) rfl (by ((repeat (first | with_reducible exact Sel.head | apply Sel.tail)); (first | done | fail))) rfl (by first | exact take0 (by first | rfl | assumption | (simp [*]; (first | done | fail)) | (simp [*]; (first | done | fail))) | assumption | exact take_app (by first | rfl | assumption | (simp [*]; (first | done | fail)) | (simp [*]; (first | done | fail))) | (conv => lhs; simp only [List.drop_succ_cons, List.drop_zero, List.take_succ_cons, List.take_zero])) (by first | rfl | assumption | (simp [*]; (first | done | fail)) | (simp [*]; (first | done | fail))))) (by (repeat (first | exact Ent.nil _ | (apply Ent.sel; focus (first | ((repeat (first | with_reducible exact Sel.head | apply Sel.tail)); done) | ((repeat (first | exact Sel.head | apply Sel.tail)); done))) | apply Ent.selNil | apply Ent.selEmp)); (first | done | fail)) ⟨rfl, rfl, rfl⟩
theorem pread_a (σ : PH) (b : Nat) (p : PlateS) (a : Int) (n : Nat) (hn : n ≤ p.ws.length) (hlen : p.ws.length < 1000000) :
    CallsA Try.prog 52 #[ptr b, i64 a, i64 n] σ [Plate b p] (RetA fun v σ' Γ' => v = wv (p.read a n) ∧ σ = σ' ∧ Γ' = [Plate b p]) := by
  refine CallsA.opn .head Plate.opn (enters Try.func52 rfl rfl) ?_
  rintro ⟨⟨pa, ca⟩, pw, cw⟩ hok
  exact (pread_o σ b p a n hn hlen hok pa pw ca cw).conv (plateO_fold hok pa ca pw cw)
theorem pRead_o (σ : PH) (b : Nat) (p : PlateS) (a : Int) (hlen : p.ws.length < 1000000) (hok : p.ok) (pa pw : Option Addr) (ca cw : Nat) :
    CallsA Try.prog 23 #[ptr b, i64 a] σ (PlateO b p pa ca pw cw) (RetA fun v σ' Γ' => v = wv (p.read a p.ws.length) ∧ σ = σ' ∧ Γ' = PlateO b p pa ca pw cw) := by
  have h8 : (p.read a p.ws.length).length = 8 := plen_last rfl _ _ (fun q hq => hok.2 q (List.mem_of_mem_take hq))
  unfold PlateO
  refine enterA2 Try.func23 rfl rfl rfl ?_
  refine XA.seq ?_
  refine XA.region ?_
  refine XOA.wr0 rfl (WrA.alloc (tyrow rfl)) ?_
  rintro _ _ _ ⟨g4, rfl, rfl, rfl⟩
  refine XOA.nil ?_
  refine DA.thn_normal ?_
  refine XA.seq ?_
  refine XA.region ?_
  refine XOA.rd rfl (Rd.move (by with_reducible (conv => lhs; whnf))) ?_
  refine XOA.rd rfl (Rd.move (by with_reducible (conv => lhs; whnf))) ?_
  refine XOA.rd rfl (Rd.move (by with_reducible (conv => lhs; whnf))) ?_
  refine XOA.rd rfl (Rd.nilCheck rfl) ?_
  refine XOA.rd rfl (Rd.fieldAddr (tyrow rfl) rfl rfl (tyrow rfl) rfl rfl (by first | (conv => lhs; simp only [Nat.reduceAdd, Nat.zero_add, Nat.add_zero, Nat.reduceMul, Nat.mul_one, Int.toNat_natCast, Int.reduceToNat, Nat.zero_mul]) | rfl)) ?_
  refine XOA.rd rfl (Rd.load rfl (Ld.atC (tyrow rfl) rfl (by first | (exact AtC.blk (by ((repeat (first | with_reducible exact Sel.head | apply Sel.tail)); (first | done | fail))) (by first | rfl | assumption)) | (exact AtC.per (by first | assumption)) | (exact AtC.lst (by ((repeat (first | with_reducible exact Sel.head | apply Sel.tail)); (first | done | fail))) (by first | rfl | assumption))))) ?_
  refine XOA.rd rfl (Rd.lenSlice (tyrow rfl) rfl rfl) ?_
  refine XOA.wr0 rfl (WrA.callE (by (repeat (first | exact Ent.all _ | (apply Ent.take; focus (first | ((repeat (first | with_reducible exact Sel.head | apply Sel.tail)); done) | ((repeat (first | exact Sel.head | apply Sel.tail)); done))) | apply Ent.takeNil | apply Ent.takeEmp)); (first | done | fail)) (pread_o σ b p a p.ws.length (Nat.le_refl _) hlen hok pa pw ca cw) rfl) ?_
  rintro _ _ _ ⟨_, ⟨rfl, rfl, rfl⟩, rfl⟩
  refine XOA.re (by conv => lhs; dsimp only [List.cons_append, List.nil_append]) ?_
  refine XOA.wr0 rfl (by apply WrA.store; exact tyrow rfl; rfl; (focus (first | (((repeat (first | with_reducible exact Sel.head | apply Sel.tail)); (first | done | fail))))); exact (by with_reducible (conv => lhs; whnf)); exact (by first | exact wv_cells _ | exact agg_cells _ | rfl); exact (by first | rfl | assumption | (simp [*]; (first | done | fail)) | (simp [*]; (first | done | fail))); exact (by first | exact Nat.le_refl _ | exact hfit | decide | (simp [*]; (first | done | fail)) | (simp; omega)); exact (by (repeat (first | assumption | exact ones_ints _ | exact ones_lit rfl | refine ones_cons rfl ?_ | refine ones_append ?_ ?_)); (first | done | fail)); exact (by first | ((with_reducible apply splice_all); (first | rfl | (simp [*]; (first | done | fail)))) | assumption | exact hspl _ | (conv => lhs; simp only [splice, List.take_zero, List.take_succ_cons, List.drop_zero, List.drop_succ_cons, List.length_cons, List.length_nil, List.nil_append, List.cons_append, List.append_nil, List.append_eq, Nat.reduceAdd, Nat.zero_add, Nat.add_zero]) | rfl)) ?_
  rintro _ _ _ ⟨rfl, rfl, rfl⟩
  refine XOA.nil ?_
  refine DA.thn_normal ?_
  refine XA.ret ?_
  exact bodyA.ret (ResA.cell rfl rfl (Ld.atBlk (tyrow rfl) rfl (by ((repeat (first | with_reducible exact Sel.head | apply Sel.tail)); (first | done | fail))) rfl (by first | exact take0 (by first | rfl | assumption | (simp [*]; (first | done | fail)) | (simp [*]; (first | done | fail))) | assumption | exact take_app (by first | rfl | assumption | (simp [*]; (first | done | fail)) | (simp [*]; (first | done | fail))) | (conv => lhs; simp only [List.drop_succ_cons, List.drop_zero, List.take_succ_cons, List.take_zero])) (by first | rfl | assumption | (simp [*]; (first | done | fail)) | (simp [*]; (first | done | fail))))) (by (repeat (first | exact Ent.nil _ | (apply Ent.sel; focus (first | ((repeat (first | with_reducible exact Sel.head | apply Sel.tail)); done) | ((repeat (first | exact Sel.head | apply Sel.tail)); done))) | apply Ent.selNil | apply Ent.selEmp)); (first | done | fail)) ⟨rfl, rfl, rfl⟩
theorem pholds_a (σ : PH) (b : Nat) (p : PlateS) (a : Int) (hlen : p.ws.length < 1000000) :
    CallsA Try.prog 26 #[ptr b, i64 a] σ [Plate b p] (RetA fun v σ' Γ' => v = wv (p.read a p.sure) ∧ σ = σ' ∧ Γ' = [Plate b p]) := by
  refine enterA2 Try.func26 rfl rfl rfl ?_
  refine XA.seq ?_
  refine XA.region ?_
  refine XOA.wr0 rfl (WrA.alloc (tyrow rfl)) ?_
  rintro _ _ _ ⟨g4, rfl, rfl, rfl⟩
  refine XOA.nil ?_
  refine DA.thn_normal ?_
  refine XA.seq ?_
  refine XA.region ?_
  refine XOA.rd rfl (Rd.move (by with_reducible (conv => lhs; whnf))) ?_
  refine XOA.rd rfl (Rd.move (by with_reducible (conv => lhs; whnf))) ?_
  refine XOA.rd rfl (Rd.move (by with_reducible (conv => lhs; whnf))) ?_
  first | refine XA.opn (R := Plate b p) (by ((repeat (first | with_reducible exact Sel.head | apply Sel.tail)); (first | done | fail))) (Plate.opn) ?_ | refine XOA.opn (R := Plate b p) (by ((repeat (first | with_reducible exact Sel.head | apply Sel.tail)); (first | done | fail))) (Plate.opn) ?_ | refine DA.opn (R := Plate b p) (by ((repeat (first | with_reducible exact Sel.head | apply Sel.tail)); (first | done | fail))) (Plate.opn) ?_
  rintro ⟨⟨pa, ca⟩, pw, cw⟩ hok
  first | refine XA.re (by conv => lhs; dsimp only [List.cons_append, List.nil_append]) ?_ | refine XOA.re (by conv => lhs; dsimp only [List.cons_append, List.nil_append]) ?_ | refine DA.re (by conv => lhs; dsimp only [List.cons_append, List.nil_append]) ?_
  have h8 : (p.read a p.sure).length = 8 := plen_last rfl _ _ (fun q hq => hok.2 q (List.mem_of_mem_take hq))
  refine XOA.rd rfl (Rd.nilCheck rfl) ?_
  refine XOA.rd rfl (Rd.fieldAddr (tyrow rfl) rfl rfl (tyrow rfl) rfl rfl (by first | (conv => lhs; simp only [Nat.reduceAdd, Nat.zero_add, Nat.add_zero, Nat.reduceMul, Nat.mul_one, Int.toNat_natCast, Int.reduceToNat, Nat.zero_mul]) | rfl)) ?_
  refine XOA.rd rfl (Rd.load rfl (Ld.atC (tyrow rfl) rfl (by first | (exact AtC.blk (by ((repeat (first | with_reducible exact Sel.head | apply Sel.tail)); (first | done | fail))) (by first | rfl | assumption)) | (exact AtC.per (by first | assumption)) | (exact AtC.lst (by ((repeat (first | with_reducible exact Sel.head | apply Sel.tail)); (first | done | fail))) (by first | rfl | assumption))))) ?_
  refine XOA.ent (Ent.foldC (Θ := [_, _, _]) (by (repeat (first | exact Ent.all _ | (apply Ent.take; focus (first | ((repeat (first | with_reducible exact Sel.head | apply Sel.tail)); done) | ((repeat (first | exact Sel.head | apply Sel.tail)); done))) | apply Ent.takeNil | apply Ent.takeEmp)); (first | done | fail)) (Plate.mk hok rfl rfl rfl rfl rfl) (Ent.refl _)) ?_
  refine XOA.wr0 rfl (WrA.callE (by (repeat (first | exact Ent.all _ | (apply Ent.take; focus (first | ((repeat (first | with_reducible exact Sel.head | apply Sel.tail)); done) | ((repeat (first | exact Sel.head | apply Sel.tail)); done))) | apply Ent.takeNil | apply Ent.takeEmp)); (first | done | fail)) (pread_a σ b p a p.sure hok.1 hlen) rfl) ?_
  rintro _ _ _ ⟨_, ⟨rfl, rfl, rfl⟩, rfl⟩
  refine XOA.re (by conv => lhs; dsimp only [List.cons_append, List.nil_append]) ?_
  refine XOA.wr0 rfl (by apply WrA.store; exact tyrow rfl; rfl; (focus (first | (((repeat (first | with_reducible exact Sel.head | apply Sel.tail)); (first | done | fail))))); exact (by with_reducible (conv => lhs; whnf)); exact (by first | exact wv_cells _ | exact agg_cells _ | rfl); exact (by first | rfl | assumption | (simp [*]; (first | done | fail)) | (simp [*]; (first | done | fail))); exact (by first | exact Nat.le_refl _ | exact hfit | decide | (simp [*]; (first | done | fail)) | (simp; omega)); exact (by (repeat (first | assumption | exact ones_ints _ | exact ones_lit rfl | refine ones_cons rfl ?_ | refine ones_append ?_ ?_)); (first | done | fail)); exact (by first | ((with_reducible apply splice_all); (first | rfl | (simp [*]; (first | done | fail)))) | assumption | exact hspl _ | (conv => lhs; simp only [splice, List.take_zero, List.take_succ_cons, List.drop_zero, List.drop_succ_cons, List.length_cons, List.length_nil, List.nil_append, List.cons_append, List.append_nil, List.append_eq, Nat.reduceAdd, Nat.zero_add, Nat.add_zero]) | rfl)) ?_
  rintro _ _ _ ⟨rfl, rfl, rfl⟩
  refine XOA.nil ?_
  refine DA.thn_normal ?_
  refine XA.ret ?_
  exact bodyA.ret (ResA.cell rfl rfl (Ld.atBlk (tyrow rfl) rfl (by ((repeat (first | with_reducible exact Sel.head | apply Sel.tail)); (first | done | fail))) rfl (by first | exact take0 (by first | rfl | assumption | (simp [*]; (first | done | fail)) | (simp [*]; (first | done | fail))) | assumption | exact take_app (by first | rfl | assumption | (simp [*]; (first | done | fail)) | (simp [*]; (first | done | fail))) | (conv => lhs; simp only [List.drop_succ_cons, List.drop_zero, List.take_succ_cons, List.take_zero])) (by first | rfl | assumption | (simp [*]; (first | done | fail)) | (simp [*]; (first | done | fail))))) (by (repeat (first | exact Ent.nil _ | (apply Ent.sel; focus (first | ((repeat (first | with_reducible exact Sel.head | apply Sel.tail)); done) | ((repeat (first | exact Sel.head | apply Sel.tail)); done))) | apply Ent.selNil | apply Ent.selEmp)); (first | done | fail)) ⟨rfl, rfl, rfl⟩
theorem pflush_a (σ : PH) (b : Nat) (p : PlateS) :
    CallsA Try.prog 18 #[ptr b] σ [Plate b p] (RetA fun v σ' Γ' => v = .tuple #[] ∧ σ = σ' ∧ Γ' = [Plate b { p with sure := p.ws.length }]) := by
  refine enterA1 Try.func18 rfl rfl rfl ?_
  refine XA.region ?_
  refine XOA.rd rfl (Rd.move (by with_reducible (conv => lhs; whnf))) ?_
  refine XOA.rd rfl (Rd.move (by with_reducible (conv => lhs; whnf))) ?_
  first | refine XA.opn (R := Plate b p) (by ((repeat (first | with_reducible exact Sel.head | apply Sel.tail)); (first | done | fail))) (Plate.opn) ?_ | refine XOA.opn (R := Plate b p) (by ((repeat (first | with_reducible exact Sel.head | apply Sel.tail)); (first | done | fail))) (Plate.opn) ?_ | refine DA.opn (R := Plate b p) (by ((repeat (first | with_reducible exact Sel.head | apply Sel.tail)); (first | done | fail))) (Plate.opn) ?_
  rintro ⟨⟨pa, ca⟩, pw, cw⟩ hok
  first | refine XA.re (by conv => lhs; dsimp only [List.cons_append, List.nil_append]) ?_ | refine XOA.re (by conv => lhs; dsimp only [List.cons_append, List.nil_append]) ?_ | refine DA.re (by conv => lhs; dsimp only [List.cons_append, List.nil_append]) ?_
  refine XOA.rd rfl (Rd.nilCheck rfl) ?_
  refine XOA.rd rfl (Rd.fieldAddr (tyrow rfl) rfl rfl (tyrow rfl) rfl rfl (by first | (conv => lhs; simp only [Nat.reduceAdd, Nat.zero_add, Nat.add_zero, Nat.reduceMul, Nat.mul_one, Int.toNat_natCast, Int.reduceToNat, Nat.zero_mul]) | rfl)) ?_
  refine XOA.rd rfl (Rd.load rfl (Ld.atC (tyrow rfl) rfl (by first | (exact AtC.blk (by ((repeat (first | with_reducible exact Sel.head | apply Sel.tail)); (first | done | fail))) (by first | rfl | assumption)) | (exact AtC.per (by first | assumption)) | (exact AtC.lst (by ((repeat (first | with_reducible exact Sel.head | apply Sel.tail)); (first | done | fail))) (by first | rfl | assumption))))) ?_
  refine XOA.rd rfl (Rd.lenSlice (tyrow rfl) rfl rfl) ?_
  refine XOA.rd rfl (Rd.nilCheck rfl) ?_
  refine XOA.rd rfl (Rd.fieldAddr (tyrow rfl) rfl rfl (tyrow rfl) rfl rfl (by first | (conv => lhs; simp only [Nat.reduceAdd, Nat.zero_add, Nat.add_zero, Nat.reduceMul, Nat.mul_one, Int.toNat_natCast, Int.reduceToNat, Nat.zero_mul]) | rfl)) ?_
  refine XOA.wr0 rfl (by apply WrA.store; exact tyrow rfl; rfl; (focus (first | (((repeat (first | with_reducible exact Sel.head | apply Sel.tail)); (first | done | fail))))); exact (by with_reducible (conv => lhs; whnf)); exact (by first | exact wv_cells _ | exact agg_cells _ | rfl); exact (by first | rfl | assumption | (simp [*]; (first | done | fail)) | (simp [*]; (first | done | fail))); exact (by first | exact Nat.le_refl _ | exact hfit | decide | (simp [*]; (first | done | fail)) | (simp; omega)); exact (by (repeat (first | assumption | exact ones_ints _ | exact ones_lit rfl | refine ones_cons rfl ?_ | refine ones_append ?_ ?_)); (first | done | fail)); exact (by first | ((with_reducible apply splice_all); (first | rfl | (simp [*]; (first | done | fail)))) | assumption | exact hspl _ | (conv => lhs; simp only [splice, List.take_zero, List.take_succ_cons, List.drop_zero, List.drop_succ_cons, List.length_cons, List.length_nil, List.nil_append, List.cons_append, List.append_nil, List.append_eq, Nat.reduceAdd, Nat.zero_add, Nat.add_zero]) | rfl)) ?_
  rintro _ _ _ ⟨rfl, rfl, rfl⟩
  refine XOA.nil ?_
  exact bodyA.normal (ResA.none rfl) (Ent.fold1 (by (repeat (first | exact Ent.nil _ | (apply Ent.sel; focus (first | ((repeat (first | with_reducible exact Sel.head | apply Sel.tail)); done) | ((repeat (first | exact Sel.head | apply Sel.tail)); done))) | apply Ent.selNil | apply Ent.selEmp)); (first | done | fail)) (Plate.mk (p := { p with sure := p.ws.length }) ⟨Nat.le_refl _, hok.2⟩ rfl rfl rfl rfl rfl)) ⟨rfl, rfl, rfl⟩
/-- What stays when so many of those that waited were gone through. -/
def PlateS.kept (p : PlateS) (is : Nat → Bool) (k : Nat) : List (Int × List Int) := p.ws.take p.sure ++ ((((p.ws.drop p.sure).zipIdx).take k).filter fun q => is q.2).map (·.1)
theorem kept_zero (p : PlateS) (is : Nat → Bool) : p.kept is 0 = p.ws.take p.sure := by simp [PlateS.kept]
theorem kept_succ (p : PlateS) (is : Nat → Bool) {k : Nat} {q : Int × List Int} (hq : p.ws[p.sure + k]? = some q) : p.kept is (k + 1) = if is k then p.kept is k ++ [q] else p.kept is k := by
  have h1 : ((p.ws.drop p.sure).zipIdx)[k]? = some (q, k) := by simp [List.getElem?_zipIdx, List.getElem?_drop, hq]
  unfold PlateS.kept
  rw [take_snoc h1, List.filter_append, List.map_append]
  by_cases hk : is k = true
  · rw [if_pos hk]; simp [hk]
  · rw [if_neg hk]; simp [hk]
theorem kept_len (p : PlateS) (is : Nat → Bool) (k : Nat) : (p.kept is k).length ≤ p.ws.length := by
  unfold PlateS.kept
  have h1 : (((((p.ws.drop p.sure).zipIdx).take k).filter fun q => is q.2).map (·.1)).length ≤ p.ws.length - p.sure := by
    rw [List.length_map]
    refine Nat.le_trans (List.length_filter_le _ _) ?_
    rw [List.length_take, List.length_zipIdx, List.length_drop]
    exact Nat.min_le_right _ _
  rw [List.length_append, List.length_take]
  omega
theorem kept_mem (p : PlateS) (is : Nat → Bool) (k : Nat) : ∀ q ∈ p.kept is k, q ∈ p.ws := by
  intro q hq
  simp only [PlateS.kept, List.mem_append, List.mem_map, List.mem_filter] at hq
  rcases hq with hq | ⟨x, ⟨hx, -⟩, rfl⟩
  · exact List.mem_of_mem_take hq
  · have hx' := List.mem_of_mem_take hx
    obtain ⟨x1, x2⟩ := x
    have := (List.mem_zipIdx hx').2.2
    rw [this]; exact List.mem_of_mem_drop (List.getElem_mem _)
def PlateS.crash (p : PlateS) (is : Nat → Bool) : PlateS := { ws := p.kept is (p.ws.length - p.sure), sure := (p.kept is (p.ws.length - p.sure)).length }
theorem PlateS.ok.crash {p : PlateS} (hp : p.ok) (is : Nat → Bool) : (p.crash is).ok := ⟨Nat.le_refl _, fun q hq => hp.2 q (kept_mem p is _ q hq)⟩
theorem pcrash_a (σ : PH) (b : Nat) (p : PlateS) (m : Int) (hlen : p.ws.length < 1000000) (hm0 : 0 ≤ m) (hm1 : m < 18446744073709551616) :
    CallsA Try.prog 20 #[ptr b, .int .u64 m] σ [Plate b p] (RetA fun v σ' Γ' => v = .tuple #[] ∧ σ = σ' ∧ Γ' = [Plate b (p.crash (bitOf m))]) := by
  refine enterA2 Try.func20 rfl rfl rfl ?_
  refine XA.seq ?_
  first | refine XA.opn (R := Plate b p) (by ((repeat (first | with_reducible exact Sel.head | apply Sel.tail)); (first | done | fail))) (Plate.opn) ?_ | refine XOA.opn (R := Plate b p) (by ((repeat (first | with_reducible exact Sel.head | apply Sel.tail)); (first | done | fail))) (Plate.opn) ?_ | refine DA.opn (R := Plate b p) (by ((repeat (first | with_reducible exact Sel.head | apply Sel.tail)); (first | done | fail))) (Plate.opn) ?_
  rintro ⟨⟨pa, ca⟩, pw, cw⟩ hok
  first | refine XA.re (by conv => lhs; dsimp only [List.cons_append, List.nil_append]) ?_ | refine XOA.re (by conv => lhs; dsimp only [List.cons_append, List.nil_append]) ?_ | refine DA.re (by conv => lhs; dsimp only [List.cons_append, List.nil_append]) ?_
  first | refine XA.fact (R := lst 3 1 _ _ _) (by ((repeat (first | with_reducible exact Sel.head | apply Sel.tail)); (first | done | fail))) (lst_cap) ?_ | refine XOA.fact (R := lst 3 1 _ _ _) (by ((repeat (first | with_reducible exact Sel.head | apply Sel.tail)); (first | done | fail))) (lst_cap) ?_ | refine DA.fact (R := lst 3 1 _ _ _) (by ((repeat (first | with_reducible exact Sel.head | apply Sel.tail)); (first | done | fail))) (lst_cap) ?_
  rintro ⟨hca, -, hna⟩
  first | refine XA.fact (R := lst 32 8 _ _ _) (by ((repeat (first | with_reducible exact Sel.head | apply Sel.tail)); (first | done | fail))) (lst_cap) ?_ | refine XOA.fact (R := lst 32 8 _ _ _) (by ((repeat (first | with_reducible exact Sel.head | apply Sel.tail)); (first | done | fail))) (lst_cap) ?_ | refine DA.fact (R := lst 32 8 _ _ _) (by ((repeat (first | with_reducible exact Sel.head | apply Sel.tail)); (first | done | fail))) (lst_cap) ?_
  rintro ⟨hcw, -, hnw⟩
  have hsl := hok.1
  refine XA.draw (by kernel_rfl) _ _ [] [(0, .pu), (1, .pu), (2, .pu), (3, .rd), (4, .pu), (5, .pu), (6, .pu), (7, .rd), (8, .pu), (9, .pu), (10, .pu), (11, .rd), (12, .pu), (13, .pu), (14, .pu), (15, .pu), (16, .rd), (17, .pu), (18, .pu), (19, .pu), (20, .rd), (21, .pu), (22, .pu), (23, .pu), (24, .rd), (25, .pu), (26, .pu), (27, .pu)] (by kernel_rfl) (PH.sub.refl _) (Ent.sel (R := blk b _ _) (by ((repeat (first | with_reducible exact Sel.head | apply Sel.tail)); (first | done | fail))) (Ent.nil _)) ?_
  refine XPA.pu rfl rfl Gd.free (Rd.move (by with_reducible (conv => lhs; whnf))) ?_
  refine XPA.pu rfl rfl Gd.free (Rd.nilCheck rfl) ?_
  refine XPA.pu rfl rfl Gd.free (Rd.fieldAddr (tyrow rfl) rfl rfl (tyrow rfl) rfl rfl (by first | (conv => lhs; simp only [Nat.reduceAdd, Nat.zero_add, Nat.add_zero, Nat.reduceMul, Nat.mul_one, Int.toNat_natCast, Int.reduceToNat, Nat.zero_mul]) | rfl)) ?_
  refine XPA.rd rfl rfl Gd.free (Rd.load rfl (Ld.atC (tyrow rfl) rfl (by first | (exact AtC.blk (by ((repeat (first | with_reducible exact Sel.head | apply Sel.tail)); (first | done | fail))) (by first | rfl | assumption)) | (exact AtC.per (by first | assumption)) | (exact AtC.lst (by ((repeat (first | with_reducible exact Sel.head | apply Sel.tail)); (first | done | fail))) (by first | rfl | assumption))))) ?_
  refine XPA.pu rfl rfl Gd.free (Rd.move (by with_reducible (conv => lhs; whnf))) ?_
  refine XPA.pu rfl rfl Gd.free (Rd.nilCheck rfl) ?_
  refine XPA.pu rfl rfl Gd.free (Rd.fieldAddr (tyrow rfl) rfl rfl (tyrow rfl) rfl rfl (by first | (conv => lhs; simp only [Nat.reduceAdd, Nat.zero_add, Nat.add_zero, Nat.reduceMul, Nat.mul_one, Int.toNat_natCast, Int.reduceToNat, Nat.zero_mul]) | rfl)) ?_
  refine XPA.rd rfl rfl Gd.free (Rd.load rfl (Ld.atC (tyrow rfl) rfl (by first | (exact AtC.blk (by ((repeat (first | with_reducible exact Sel.head | apply Sel.tail)); (first | done | fail))) (by first | rfl | assumption)) | (exact AtC.per (by first | assumption)) | (exact AtC.lst (by ((repeat (first | with_reducible exact Sel.head | apply Sel.tail)); (first | done | fail))) (by first | rfl | assumption))))) ?_
  refine XPA.pu rfl rfl Gd.free (Rd.move (by with_reducible (conv => lhs; whnf))) ?_
  refine XPA.pu rfl rfl Gd.free (Rd.nilCheck rfl) ?_
  refine XPA.pu rfl rfl Gd.free (Rd.fieldAddr (tyrow rfl) rfl rfl (tyrow rfl) rfl rfl (by first | (conv => lhs; simp only [Nat.reduceAdd, Nat.zero_add, Nat.add_zero, Nat.reduceMul, Nat.mul_one, Int.toNat_natCast, Int.reduceToNat, Nat.zero_mul]) | rfl)) ?_
  refine XPA.rd rfl rfl Gd.free (Rd.load rfl (Ld.atC (tyrow rfl) rfl (by first | (exact AtC.blk (by ((repeat (first | with_reducible exact Sel.head | apply Sel.tail)); (first | done | fail))) (by first | rfl | assumption)) | (exact AtC.per (by first | assumption)) | (exact AtC.lst (by ((repeat (first | with_reducible exact Sel.head | apply Sel.tail)); (first | done | fail))) (by first | rfl | assumption))))) ?_
  refine XPA.pu rfl rfl Gd.free (Rd.sliceTo3N (tyrow rfl) rfl (tyrow rfl) rfl rfl rfl (Nat.le_refl _) (by omega)) ?_
  refine XPA.pu rfl rfl Gd.free (Rd.move (by with_reducible (conv => lhs; whnf))) ?_
  refine XPA.pu rfl rfl Gd.free (Rd.nilCheck rfl) ?_
  refine XPA.pu rfl rfl Gd.free (Rd.fieldAddr (tyrow rfl) rfl rfl (tyrow rfl) rfl rfl (by first | (conv => lhs; simp only [Nat.reduceAdd, Nat.zero_add, Nat.add_zero, Nat.reduceMul, Nat.mul_one, Int.toNat_natCast, Int.reduceToNat, Nat.zero_mul]) | rfl)) ?_
  refine XPA.rd rfl rfl Gd.free (Rd.load rfl (Ld.atC (tyrow rfl) rfl (by first | (exact AtC.blk (by ((repeat (first | with_reducible exact Sel.head | apply Sel.tail)); (first | done | fail))) (by first | rfl | assumption)) | (exact AtC.per (by first | assumption)) | (exact AtC.lst (by ((repeat (first | with_reducible exact Sel.head | apply Sel.tail)); (first | done | fail))) (by first | rfl | assumption))))) ?_
  refine XPA.pu rfl rfl Gd.free (Rd.move (by with_reducible (conv => lhs; whnf))) ?_
  refine XPA.pu rfl rfl Gd.free (Rd.nilCheck rfl) ?_
  refine XPA.pu rfl rfl Gd.free (Rd.fieldAddr (tyrow rfl) rfl rfl (tyrow rfl) rfl rfl (by first | (conv => lhs; simp only [Nat.reduceAdd, Nat.zero_add, Nat.add_zero, Nat.reduceMul, Nat.mul_one, Int.toNat_natCast, Int.reduceToNat, Nat.zero_mul]) | rfl)) ?_
  refine XPA.rd rfl rfl Gd.free (Rd.load rfl (Ld.atC (tyrow rfl) rfl (by first | (exact AtC.blk (by ((repeat (first | with_reducible exact Sel.head | apply Sel.tail)); (first | done | fail))) (by first | rfl | assumption)) | (exact AtC.per (by first | assumption)) | (exact AtC.lst (by ((repeat (first | with_reducible exact Sel.head | apply Sel.tail)); (first | done | fail))) (by first | rfl | assumption))))) ?_
  refine XPA.pu rfl rfl Gd.free (Rd.move (by with_reducible (conv => lhs; whnf))) ?_
  refine XPA.pu rfl rfl Gd.free (Rd.nilCheck rfl) ?_
  refine XPA.pu rfl rfl Gd.free (Rd.fieldAddr (tyrow rfl) rfl rfl (tyrow rfl) rfl rfl (by first | (conv => lhs; simp only [Nat.reduceAdd, Nat.zero_add, Nat.add_zero, Nat.reduceMul, Nat.mul_one, Int.toNat_natCast, Int.reduceToNat, Nat.zero_mul]) | rfl)) ?_
  refine XPA.rd rfl rfl Gd.free (Rd.load rfl (Ld.atC (tyrow rfl) rfl (by first | (exact AtC.blk (by ((repeat (first | with_reducible exact Sel.head | apply Sel.tail)); (first | done | fail))) (by first | rfl | assumption)) | (exact AtC.per (by first | assumption)) | (exact AtC.lst (by ((repeat (first | with_reducible exact Sel.head | apply Sel.tail)); (first | done | fail))) (by first | rfl | assumption))))) ?_
  refine XPA.pu rfl rfl Gd.free (Rd.sliceTo3N (tyrow rfl) rfl (tyrow rfl) rfl rfl rfl (Nat.le_refl _) (by omega)) ?_
  refine XPA.pu rfl rfl Gd.free (Rd.assign (by with_reducible (conv => lhs; whnf))) ?_
  refine XPA.pu rfl rfl Gd.free (Rd.assign (by with_reducible (conv => lhs; whnf))) ?_
  refine XPA.nil ?_
  refine DA.thn_normal ?_
  refine XA.seq ?_
  refine XA.seq ?_
  refine XA.region ?_
  refine XOA.rd rfl (Rd.move (by with_reducible (conv => lhs; whnf))) ?_
  refine XOA.rd rfl (Rd.nilCheck rfl) ?_
  refine XOA.rd rfl (Rd.fieldAddr (tyrow rfl) rfl rfl (tyrow rfl) rfl rfl (by first | (conv => lhs; simp only [Nat.reduceAdd, Nat.zero_add, Nat.add_zero, Nat.reduceMul, Nat.mul_one, Int.toNat_natCast, Int.reduceToNat, Nat.zero_mul]) | rfl)) ?_
  refine XOA.rd rfl (Rd.load rfl (Ld.atC (tyrow rfl) rfl (by first | (exact AtC.blk (by ((repeat (first | with_reducible exact Sel.head | apply Sel.tail)); (first | done | fail))) (by first | rfl | assumption)) | (exact AtC.per (by first | assumption)) | (exact AtC.lst (by ((repeat (first | with_reducible exact Sel.head | apply Sel.tail)); (first | done | fail))) (by first | rfl | assumption))))) ?_
  refine XOA.rd rfl (Rd.assign (by with_reducible (conv => lhs; whnf))) ?_
  refine XOA.nil ?_
  refine DA.thn_normal ?_
  refine XA.block ?_
  have hk0 := kept_zero p (bitOf m)
  have hkl := kept_len p (bitOf m)
  obtain ⟨kp, hkp⟩ : ∃ f : Nat → List (Int × List Int), f = p.kept (bitOf m) := ⟨_, rfl⟩
  have hks := fun k q hq => kept_succ p (bitOf m) (k := k) (q := q) hq
  rw [← hkp] at hk0 hkl hks
  have hat : (kp 0).map (fun q => i64 q.1) = p.ats.take (p.sure * 1) := by rw [hk0, Nat.mul_one, PlateS.ats, List.map_take]
  have hwt : (kp 0).flatMap (fun q => ints q.2) = p.wcs.take (p.sure * 8) := by
    rw [hk0]
    have key : ∀ (l : List (Int × List Int)) (n : Nat), (∀ q ∈ l, q.2.length = 8) → (l.take n).flatMap (fun q => ints q.2) = (l.flatMap fun q => ints q.2).take (n * 8) := by
      intro l
      induction l with
      | nil => intro n _; simp
      | cons q l ih =>
        intro n hl
        cases n with
        | zero => simp
        | succ n =>
          have hq := hl q (by simp)
          rw [List.take_succ_cons, List.flatMap_cons, List.flatMap_cons, ih n (fun x hx => hl x (by simp [hx])), Nat.succ_mul, Nat.add_comm (n * 8) 8, show (8 : Nat) = (ints q.2).length from by simp [hq], List.take_length_add_append]
    exact key _ _ hok.2
  refine XA.gen [(0, _), (1, _), (4, _), (5, _), (6, _)] ⟨(by with_reducible (conv => lhs; whnf)), (by with_reducible (conv => lhs; whnf)), (by with_reducible (conv => lhs; whnf)), (by with_reducible (conv => lhs; whnf)), (by with_reducible (conv => lhs; whnf)), trivial⟩ (fun δ => ?_)
  dsimp only [List.foldl]
  refine XA.loop [(4, 7), (38, 79)] (fun x : Nat × (Option Addr × Nat) × (Option Addr × Nat) × Nat => [(6, i64 ((p.sure + x.1 : Nat) : Int)), (4, .slice x.2.1.1 x.2.2.2 x.2.1.2), (5, .slice x.2.2.1.1 x.2.2.2 x.2.2.1.2)]) (fun x σ' Γ' => σ = σ' ∧ x.1 ≤ p.ws.length - p.sure ∧ (kp x.1).length = x.2.2.2 ∧ Γ' = [ali 3 1 pa p.sure (p.ats.take (p.sure * 1)) (.slice x.2.1.1 x.2.2.2 x.2.1.2) x.2.2.2 ((kp x.1).map fun q => i64 q.1), ali 32 8 pw p.sure (p.wcs.take (p.sure * 8)) (.slice x.2.2.1.1 x.2.2.2 x.2.2.1.2) x.2.2.2 ((kp x.1).flatMap fun q => ints q.2), blk b [.slice pa p.ws.length ca, .slice pw p.ws.length cw, i64 p.sure] 30, lst 3 1 (.slice pa p.ws.length ca) p.ws.length p.ats, lst 32 8 (.slice pw p.ws.length cw) p.ws.length p.wcs]) (fun x => p.ws.length - p.sure - x.1) (0, (pa, p.sure), (pw, p.sure), p.sure) (by exact ⟨rfl, rfl, rfl, trivial⟩) (Δ0 := _) ?_ (⟨rfl, Nat.zero_le _, by rw [hk0, List.length_take]; exact Nat.min_eq_left hsl, rfl⟩) ?_
  · rw [hat, hwt]; refine Ent.selAli (Ent.selAli ?_); exact (by (repeat (first | exact Ent.nil _ | (apply Ent.sel; focus (first | ((repeat (first | with_reducible exact Sel.head | apply Sel.tail)); done) | ((repeat (first | exact Sel.head | apply Sel.tail)); done))) | apply Ent.selNil | apply Ent.selEmp)); (first | done | fail))
  rintro ⟨k, ⟨pa', ca'⟩, ⟨pw', cw'⟩, nk⟩ δ _ _ ⟨rfl, hk, hnk, rfl⟩
  dsimp only [ovr, List.foldl]
  have hk : k ≤ p.ws.length - p.sure := hk
  have hnk : (kp k).length = nk := hnk
  have hkl2 := hkl k
  have hmod := Nat.mod_lt k (show 0 < 64 by decide)
  have hsh : (m.fdiv (2 ^ (min (Int.toNat ((k % 64 : Nat) : Int)) IntKind.u64.bits))) = ((m.toNat / 2 ^ (k % 64) : Nat) : Int) := by
    have hk : min (Int.toNat ((k % 64 : Nat) : Int)) IntKind.u64.bits = k % 64 := by simp [IntKind.bits]; omega
    rw [hk]
    obtain ⟨n, rfl⟩ := Int.eq_ofNat_of_zero_le hm0
    rw [Int.fdiv_eq_ediv_of_nonneg _ (by exact Int.le_of_lt (Int.pow_pos (by decide)))]
    simp
  have hand : IntKind.u64.wrap ((BitVec.ofInt 64 ((m.toNat / 2 ^ (k % 64) : Nat) : Int) &&& BitVec.ofInt 64 1).toNat : Int) = ((m.toNat / 2 ^ (k % 64) % 2 : Nat) : Int) := by
    have hle : m.toNat / 2 ^ (k % 64) ≤ m.toNat := Nat.div_le_self _ _
    have := and1 ((m.toNat / 2 ^ (k % 64) : Nat) : Int) (Int.natCast_nonneg _) (by omega)
    rw [this]
    generalize m.toNat / 2 ^ (k % 64) = q
    omega
  have hbit : (((m.toNat / 2 ^ (k % 64) % 2 : Nat) : Int) = 1) ↔ bitOf m k = true := by
    unfold bitOf; rw [decide_eq_true_eq]; generalize m.toNat / 2 ^ (k % 64) = q; omega
  refine XA.seq ?_
  refine XA.seq ?_
  refine XA.region ?_
  refine XOA.rd rfl (Rd.move (by with_reducible (conv => lhs; whnf))) ?_
  refine XOA.rd rfl (Rd.move (by with_reducible (conv => lhs; whnf))) ?_
  refine XOA.rd rfl (Rd.nilCheck rfl) ?_
  refine XOA.rd rfl (Rd.fieldAddr (tyrow rfl) rfl rfl (tyrow rfl) rfl rfl (by first | (conv => lhs; simp only [Nat.reduceAdd, Nat.zero_add, Nat.add_zero, Nat.reduceMul, Nat.mul_one, Int.toNat_natCast, Int.reduceToNat, Nat.zero_mul]) | rfl)) ?_
  refine XOA.rd rfl (Rd.load rfl (Ld.atC (tyrow rfl) rfl (by first | (exact AtC.blk (by ((repeat (first | with_reducible exact Sel.head | apply Sel.tail)); (first | done | fail))) (by first | rfl | assumption)) | (exact AtC.per (by first | assumption)) | (exact AtC.lst (by ((repeat (first | with_reducible exact Sel.head | apply Sel.tail)); (first | done | fail))) (by first | rfl | assumption))))) ?_
  refine XOA.rd rfl (Rd.lenSlice (tyrow rfl) rfl rfl) ?_
  refine XOA.rd rfl (Rd.lss rfl rfl) ?_
  refine XOA.nil ?_
  refine DA.thn_normal ?_
  refine XA.condp rfl (fun hlt => ?_) (fun hlt => ?_)
  · have hlt : p.sure + k < p.ws.length := by omega
    obtain ⟨q, hq⟩ : ∃ q, p.ws[p.sure + k]? = some q := ⟨_, List.getElem?_eq_getElem (by omega)⟩
    have hq8 : q.2.length = 8 := hok.2 q (List.mem_of_getElem? hq)
    have hca' : p.ats[p.sure + k]? = some (i64 q.1) := by simp [PlateS.ats, hq]
    have hrow : (p.wcs.drop ((p.sure + k) * 8)).take 8 = ints q.2 := by
      have := flat_row (fun q : Int × List Int => ints q.2) 8 p.ws (fun x hx => by simp [hok.2 x hx]) (p.sure + k) q hq
      simpa [hq8, PlateS.wcs] using this
    have hkq := hks k q hq
    first | refine XA.opn (R := lst 3 1 (.slice pa p.ws.length ca) _ _) (by ((repeat (first | with_reducible exact Sel.head | apply Sel.tail)); (first | done | fail))) (lst_some (by omega)) ?_ | refine XOA.opn (R := lst 3 1 (.slice pa p.ws.length ca) _ _) (by ((repeat (first | with_reducible exact Sel.head | apply Sel.tail)); (first | done | fail))) (lst_some (by omega)) ?_ | refine DA.opn (R := lst 3 1 (.slice pa p.ws.length ca) _ _) (by ((repeat (first | with_reducible exact Sel.head | apply Sel.tail)); (first | done | fail))) (lst_some (by omega)) ?_
    rintro ga rfl
    first | refine XA.re (by conv => lhs; dsimp only [List.cons_append, List.nil_append]) ?_ | refine XOA.re (by conv => lhs; dsimp only [List.cons_append, List.nil_append]) ?_ | refine DA.re (by conv => lhs; dsimp only [List.cons_append, List.nil_append]) ?_
    first | refine XA.opn (R := lst 32 8 (.slice pw p.ws.length cw) _ _) (by ((repeat (first | with_reducible exact Sel.head | apply Sel.tail)); (first | done | fail))) (lst_some (by omega)) ?_ | refine XOA.opn (R := lst 32 8 (.slice pw p.ws.length cw) _ _) (by ((repeat (first | with_reducible exact Sel.head | apply Sel.tail)); (first | done | fail))) (lst_some (by omega)) ?_ | refine DA.opn (R := lst 32 8 (.slice pw p.ws.length cw) _ _) (by ((repeat (first | with_reducible exact Sel.head | apply Sel.tail)); (first | done | fail))) (lst_some (by omega)) ?_
    rintro gw rfl
    first | refine XA.re (by conv => lhs; dsimp only [List.cons_append, List.nil_append]) ?_ | refine XOA.re (by conv => lhs; dsimp only [List.cons_append, List.nil_append]) ?_ | refine DA.re (by conv => lhs; dsimp only [List.cons_append, List.nil_append]) ?_
    refine XA.skip ?_
    refine DA.thn_normal ?_
    refine XA.seq ?_
    refine XA.block ?_
    refine XA.seq ?_
    refine XA.region ?_
    refine XOA.rd rfl (Rd.move (by with_reducible (conv => lhs; whnf))) ?_
    refine XOA.rd rfl (Rd.move (by with_reducible (conv => lhs; whnf))) ?_
    refine XOA.rd rfl (Rd.nilCheck rfl) ?_
    refine XOA.rd rfl (Rd.fieldAddr (tyrow rfl) rfl rfl (tyrow rfl) rfl rfl (by first | (conv => lhs; simp only [Nat.reduceAdd, Nat.zero_add, Nat.add_zero, Nat.reduceMul, Nat.mul_one, Int.toNat_natCast, Int.reduceToNat, Nat.zero_mul]) | rfl)) ?_
    refine XOA.rd rfl (Rd.load rfl (Ld.atC (tyrow rfl) rfl (by first | (exact AtC.blk (by ((repeat (first | with_reducible exact Sel.head | apply Sel.tail)); (first | done | fail))) (by first | rfl | assumption)) | (exact AtC.per (by first | assumption)) | (exact AtC.lst (by ((repeat (first | with_reducible exact Sel.head | apply Sel.tail)); (first | done | fail))) (by first | rfl | assumption))))) ?_
    refine XOA.rd rfl (by first | exact Rd.subi rfl rfl rfl (by omega) | exact Rd.sub rfl rfl) ?_
    refine XOA.rd rfl (Rd.convI (tyrow rfl) (tyrow rfl) rfl rfl (by first | exact X.wrap64_in (by omega) (by omega) | exact wrapu64_in (by omega) (by omega) | rfl)) ?_
    refine XOA.rd rfl (Rd.remi (c := ((k % 64 : Nat) : Int)) rfl rfl (by decide) (by rw [Int.tmod_eq_emod_of_nonneg (by omega)]; omega)) ?_
    refine XOA.rd rfl (Rd.assign (by with_reducible (conv => lhs; whnf))) ?_
    refine XOA.nil ?_
    refine DA.thn_normal ?_
    refine XA.seq ?_
    refine XA.region ?_
    refine XOA.rd rfl (Rd.move (by with_reducible (conv => lhs; whnf))) ?_
    refine XOA.rd rfl (Rd.move (by with_reducible (conv => lhs; whnf))) ?_
    refine XOA.rd rfl (Rd.shri (c := ((m.toNat / 2 ^ (k % 64) : Nat) : Int)) rfl rfl (by omega) hsh) ?_
    refine XOA.rd rfl (Rd.andi (c := ((m.toNat / 2 ^ (k % 64) % 2 : Nat) : Int)) rfl rfl hand) ?_
    refine XOA.rd rfl (Rd.eql rfl rfl) ?_
    refine XOA.nil ?_
    refine DA.thn_normal ?_
    refine XA.condp rfl (fun hb => ?_) (fun hb => ?_)
    · have e : kp (k + 1) = kp k ++ [q] := by rw [hkq, if_pos (hbit.1 hb)]
      have hfa : ∀ Γ Γ' (j : Nat) u, Sel Γ (lst 3 1 (.slice (some ⟨ga, 0, none⟩) p.ws.length ca) p.ws.length p.ats) Γ' → (p.ats.take (p.sure * 1))[j]? = some u → ∃ g0 o0, some (⟨ga, 0, none⟩ : Addr) = some ⟨g0, o0, none⟩ ∧ AtC (Ho σ Γ) g0 (o0 + j) u := fun Γ Γ' j u s hu => by
        refine ⟨ga, 0, rfl, AtC.lst s ?_⟩
        rw [Nat.zero_add]
        rw [List.getElem?_take] at hu; split at hu
        · exact hu
        · cases hu
      have hfw : ∀ Γ Γ' (j : Nat) u, Sel Γ (lst 32 8 (.slice (some ⟨gw, 0, none⟩) p.ws.length cw) p.ws.length p.wcs) Γ' → (p.wcs.take (p.sure * 8))[j]? = some u → ∃ g0 o0, some (⟨gw, 0, none⟩ : Addr) = some ⟨g0, o0, none⟩ ∧ AtC (Ho σ Γ) g0 (o0 + j) u := fun Γ Γ' j u s hu => by
        refine ⟨gw, 0, rfl, AtC.lst s ?_⟩
        rw [Nat.zero_add]
        rw [List.getElem?_take] at hu; split at hu
        · exact hu
        · cases hu
      have hla : (p.ats.take (p.sure * 1)).length = p.sure * 1 := by rw [List.length_take, PlateS.ats, List.length_map]; omega
      have hlw : (p.wcs.take (p.sure * 8)).length = p.sure * 8 := by
        have := flat_len (fun q : Int × List Int => ints q.2) 8 p.ws (fun x hx => by simp [hok.2 x hx])
        rw [List.length_take, PlateS.wcs, this]; omega
      refine XA.join [(4, 5), (60, 79)] (fun x : (Option Addr × Nat) × (Option Addr × Nat) => [(4, .slice x.1.1 (nk + 1) x.1.2), (5, .slice x.2.1 (nk + 1) x.2.2)]) (fun x σ' Γ' => σ = σ' ∧ Γ' = [lst 3 1 (.slice x.1.1 (nk + 1) x.1.2) (nk + 1) ((kp k).map (fun q => i64 q.1) ++ [i64 q.1]), lst 32 8 (.slice x.2.1 (nk + 1) x.2.2) (nk + 1) ((kp k).flatMap (fun q => ints q.2) ++ ints q.2), blk b [.slice (some ⟨ga, 0, none⟩) p.ws.length ca, .slice (some ⟨gw, 0, none⟩) p.ws.length cw, i64 p.sure] 30, lst 3 1 (.slice (some ⟨ga, 0, none⟩) p.ws.length ca) p.ws.length p.ats, lst 32 8 (.slice (some ⟨gw, 0, none⟩) p.ws.length cw) p.ws.length p.wcs]) ?_ ?_
      · skip
        refine XA.drawQ (by kernel_rfl) _ _ [] 22 #[false, false, false, false, false, false, false, false, false, false, false, false, false, false, false, false, false, false, false, false, false, false] rfl rfl (by kernel_rfl) (PH.sub.refl _) (Ent.sel (R := blk b _ _) (by ((repeat (first | with_reducible exact Sel.head | apply Sel.tail)); (first | done | fail))) (Ent.sel (R := lst 3 1 (.slice (some ⟨ga, 0, none⟩) p.ws.length ca) _ _) (by ((repeat (first | with_reducible exact Sel.head | apply Sel.tail)); (first | done | fail))) (Ent.sel (R := lst 32 8 (.slice (some ⟨gw, 0, none⟩) p.ws.length cw) _ _) (by ((repeat (first | with_reducible exact Sel.head | apply Sel.tail)); (first | done | fail))) (Ent.nil _)))) ?_
        refine XQA.pu (i := 0) (listed' := #[true, false, false, false, false, false, false, false, false, false, false, false, false, false, false, false, false, false, false, false, false, false]) rfl rfl (by kernel_rfl) rfl Gd.free (Rd.move (by with_reducible (conv => lhs; whnf))) ?_
        refine XQA.pu (i := 1) (listed' := #[true, true, false, false, false, false, false, false, false, false, false, false, false, false, false, false, false, false, false, false, false, false]) rfl rfl (by kernel_rfl) rfl Gd.free (Rd.move (by with_reducible (conv => lhs; whnf))) ?_
        refine XQA.pu (i := 2) (listed' := #[true, true, true, false, false, false, false, false, false, false, false, false, false, false, false, false, false, false, false, false, false, false]) rfl rfl (by kernel_rfl) rfl Gd.free (Rd.nilCheck rfl) ?_
        refine XQA.pu (i := 3) (listed' := #[true, true, true, true, false, false, false, false, false, false, false, false, false, false, false, false, false, false, false, false, false, false]) rfl rfl (by kernel_rfl) rfl Gd.free (Rd.fieldAddr (tyrow rfl) rfl rfl (tyrow rfl) rfl rfl (by first | (conv => lhs; simp only [Nat.reduceAdd, Nat.zero_add, Nat.add_zero, Nat.reduceMul, Nat.mul_one, Int.toNat_natCast, Int.reduceToNat, Nat.zero_mul]) | rfl)) ?_
        refine XQA.rd (i := 4) (listed' := #[true, true, true, true, true, false, false, false, false, false, false, false, false, false, false, false, false, false, false, false, false, false]) rfl rfl (by kernel_rfl) rfl Gd.free (Rd.load rfl (Ld.atC (tyrow rfl) rfl (by first | (exact AtC.blk (by ((repeat (first | with_reducible exact Sel.head | apply Sel.tail)); (first | done | fail))) (by first | rfl | assumption)) | (exact AtC.per (by first | assumption)) | (exact AtC.lst (by ((repeat (first | with_reducible exact Sel.head | apply Sel.tail)); (first | done | fail))) (by first | rfl | assumption))))) ?_
        refine XQA.pu (i := 5) (listed' := #[true, true, true, true, true, true, false, false, false, false, false, false, false, false, false, false, false, false, false, false, false, false]) rfl rfl (by kernel_rfl) rfl Gd.free (Rd.move (by with_reducible (conv => lhs; whnf))) ?_
        refine XQA.pu (i := 6) (listed' := #[true, true, true, true, true, true, true, false, false, false, false, false, false, false, false, false, false, false, false, false, false, false]) rfl rfl (by kernel_rfl) rfl Gd.free (by apply Rd.indexSlice; exact tyrow rfl; rfl; exact tyrow rfl; rfl; rfl; exact (by first | omega | decide | (simp; omega)); exact (by with_reducible (conv => lhs; whnf)); exact (by first | (conv => lhs; simp only [Nat.reduceAdd, Nat.zero_add, Nat.add_zero, Nat.reduceMul, Nat.mul_one, Int.toNat_natCast, Int.reduceToNat, Nat.zero_mul]) | rfl)) ?_
        refine XQA.rd (i := 7) (listed' := #[true, true, true, true, true, true, true, true, false, false, false, false, false, false, false, false, false, false, false, false, false, false]) rfl rfl (by kernel_rfl) rfl Gd.free (Rd.load rfl (Ld.atC (tyrow rfl) rfl (by first | (exact AtC.blk (by ((repeat (first | with_reducible exact Sel.head | apply Sel.tail)); (first | done | fail))) (by first | rfl | assumption)) | (exact AtC.per (by first | assumption)) | (exact AtC.lst (by ((repeat (first | with_reducible exact Sel.head | apply Sel.tail)); (first | done | fail))) (by first | rfl | assumption))))) ?_
        refine XQA.pu (i := 10) (listed' := #[true, true, true, true, true, true, true, true, false, false, true, false, false, false, false, false, false, false, false, false, false, false]) rfl rfl (by kernel_rfl) rfl Gd.free (Rd.move (by with_reducible (conv => lhs; whnf))) ?_
        refine XQA.pu (i := 11) (listed' := #[true, true, true, true, true, true, true, true, false, false, true, true, false, false, false, false, false, false, false, false, false, false]) rfl rfl (by kernel_rfl) rfl Gd.free (Rd.move (by with_reducible (conv => lhs; whnf))) ?_
        refine XQA.pu (i := 12) (listed' := #[true, true, true, true, true, true, true, true, false, false, true, true, true, false, false, false, false, false, false, false, false, false]) rfl rfl (by kernel_rfl) rfl Gd.free (Rd.nilCheck rfl) ?_
        refine XQA.pu (i := 13) (listed' := #[true, true, true, true, true, true, true, true, false, false, true, true, true, true, false, false, false, false, false, false, false, false]) rfl rfl (by kernel_rfl) rfl Gd.free (Rd.fieldAddr (tyrow rfl) rfl rfl (tyrow rfl) rfl rfl (by first | (conv => lhs; simp only [Nat.reduceAdd, Nat.zero_add, Nat.add_zero, Nat.reduceMul, Nat.mul_one, Int.toNat_natCast, Int.reduceToNat, Nat.zero_mul]) | rfl)) ?_
        refine XQA.rd (i := 14) (listed' := #[true, true, true, true, true, true, true, true, false, false, true, true, true, true, true, false, false, false, false, false, false, false]) rfl rfl (by kernel_rfl) rfl Gd.free (Rd.load rfl (Ld.atC (tyrow rfl) rfl (by first | (exact AtC.blk (by ((repeat (first | with_reducible exact Sel.head | apply Sel.tail)); (first | done | fail))) (by first | rfl | assumption)) | (exact AtC.per (by first | assumption)) | (exact AtC.lst (by ((repeat (first | with_reducible exact Sel.head | apply Sel.tail)); (first | done | fail))) (by first | rfl | assumption))))) ?_
        refine XQA.pu (i := 15) (listed' := #[true, true, true, true, true, true, true, true, false, false, true, true, true, true, true, true, false, false, false, false, false, false]) rfl rfl (by kernel_rfl) rfl Gd.free (Rd.move (by with_reducible (conv => lhs; whnf))) ?_
        refine XQA.pu (i := 16) (listed' := #[true, true, true, true, true, true, true, true, false, false, true, true, true, true, true, true, true, false, false, false, false, false]) rfl rfl (by kernel_rfl) rfl Gd.free (by apply Rd.indexSlice; exact tyrow rfl; rfl; exact tyrow rfl; rfl; rfl; exact (by first | omega | decide | (simp; omega)); exact (by with_reducible (conv => lhs; whnf)); exact (by first | (conv => lhs; simp only [Nat.reduceAdd, Nat.zero_add, Nat.add_zero, Nat.reduceMul, Nat.mul_one, Int.toNat_natCast, Int.reduceToNat, Nat.zero_mul]) | rfl)) ?_
        refine XQA.rd (i := 17) (listed' := #[true, true, true, true, true, true, true, true, false, false, true, true, true, true, true, true, true, true, false, false, false, false]) rfl rfl (by kernel_rfl) rfl Gd.free (Rd.load rfl (by first | (exact Ld.atBlk (tyrow rfl) rfl (by ((repeat (first | with_reducible exact Sel.head | apply Sel.tail)); (first | done | fail))) rfl (by first | exact take0 (by first | rfl | assumption | (simp [*]; (first | done | fail)) | (simp [*]; (first | done | fail))) | assumption | exact take_app (by first | rfl | assumption | (simp [*]; (first | done | fail)) | (simp [*]; (first | done | fail))) | (conv => lhs; simp only [List.drop_succ_cons, List.drop_zero, List.take_succ_cons, List.take_zero])) (by first | rfl | assumption | (simp [*]; (first | done | fail)) | (simp [*]; (first | done | fail)))) | (exact Ld.at (tyrow rfl) rfl (At.per (by assumption)) (by first | rfl | assumption | (simp [*]; (first | done | fail)) | (simp [*]; (first | done | fail)))) | (exact Ld.atLst (tyrow rfl) rfl (by ((repeat (first | with_reducible exact Sel.head | apply Sel.tail)); (first | done | fail))) rfl (by first | exact take0 (by first | rfl | assumption | (simp [*]; (first | done | fail)) | (simp [*]; (first | done | fail))) | assumption | exact take_app (by first | rfl | assumption | (simp [*]; (first | done | fail)) | (simp [*]; (first | done | fail))) | (conv => lhs; simp only [List.drop_succ_cons, List.drop_zero, List.take_succ_cons, List.take_zero])) (by first | rfl | assumption | (simp [*]; (first | done | fail)) | (simp [*]; (first | done | fail)))))) ?_
        refine XQA.w2 (i := 8) (j := 18) (by kernel_rfl) ?_ ?_
        · refine XQA1.wr0 (listed' := #[true, true, true, true, true, true, true, true, true, false, true, true, true, true, true, true, true, true, false, false, false, false]) rfl rfl Gd.free (by kernel_rfl) rfl (WrA.slice1 (tyrow rfl) rfl (tyrow rfl) (by with_reducible (conv => lhs; whnf)) (by first | exact wv_cells _ | exact agg_cells _ | rfl) (by first | rfl | assumption | (simp [*]; (first | done | fail)) | (simp [*]; (first | done | fail))) rfl (by decide) rfl) ?_
          rintro _ _ _ ⟨g68, rfl, rfl, rfl⟩
          refine ⟨⟨(by first | exact PH.sub.refl _ | assumption), (by (repeat (first | exact Ent.nil _ | (apply Ent.sel; focus (first | ((repeat (first | with_reducible exact Sel.head | apply Sel.tail)); done) | ((repeat (first | exact Sel.head | apply Sel.tail)); done))) | apply Ent.selNil | apply Ent.selEmp)); (first | done | fail))⟩, XQA.re (by conv => lhs; dsimp only [List.cons_append, List.nil_append]) ?_⟩
          refine XQA.w2 (i := 9) (j := 18) (by kernel_rfl) ?_ ?_
          · refine XQA1.wr0 (listed' := #[true, true, true, true, true, true, true, true, true, true, true, true, true, true, true, true, true, true, false, false, false, false]) rfl rfl Gd.free (by kernel_rfl) rfl (WrA.appendAli (tyrow rfl) rfl (tyrow rfl) rfl rfl rfl (by ((repeat (first | with_reducible exact Sel.head | apply Sel.tail)); (first | done | fail))) (by ((repeat (first | with_reducible exact Sel.head | apply Sel.tail)); (first | done | fail))) (fun j u hu => hfa _ _ j u (by ((repeat (first | with_reducible exact Sel.head | apply Sel.tail)); (first | done | fail))) hu) (fun h => by cases h) hla (by first | rfl | assumption | (simp [*]; (first | done | fail)) | (simp [*]; (first | done | fail))) (by (repeat (first | assumption | exact ones_ints _ | exact ones_lit rfl | refine ones_cons rfl ?_ | refine ones_append ?_ ?_)); (first | done | fail)) (by simp only [maxLen]; omega) (by simp only []; omega)) ?_
            rintro _ _ _ ⟨p69, c69, rfl, rfl, rfl⟩
            refine ⟨⟨(by first | exact PH.sub.refl _ | assumption), (by (repeat (first | exact Ent.nil _ | (apply Ent.sel; focus (first | ((repeat (first | with_reducible exact Sel.head | apply Sel.tail)); done) | ((repeat (first | exact Sel.head | apply Sel.tail)); done))) | apply Ent.selNil | apply Ent.selEmp)); (first | done | fail))⟩, XQA.re (by conv => lhs; dsimp only [List.cons_append, List.nil_append]) ?_⟩
            refine XQA.w1 (i := 18) (by kernel_rfl) ?_
            refine XQA1.wr0 (listed' := #[true, true, true, true, true, true, true, true, true, true, true, true, true, true, true, true, true, true, true, false, false, false]) rfl rfl Gd.free (by kernel_rfl) rfl (WrA.slice1 (tyrow rfl) rfl (tyrow rfl) (by with_reducible (conv => lhs; whnf)) (by first | exact wv_cells _ | exact agg_cells _ | rfl) (by first | rfl | assumption | (simp [*]; (first | done | fail)) | (simp [*]; (first | done | fail))) rfl (by decide) rfl) ?_
            rintro _ _ _ ⟨g78, rfl, rfl, rfl⟩
            refine ⟨⟨(by first | exact PH.sub.refl _ | assumption), (by (repeat (first | exact Ent.nil _ | (apply Ent.sel; focus (first | ((repeat (first | with_reducible exact Sel.head | apply Sel.tail)); done) | ((repeat (first | exact Sel.head | apply Sel.tail)); done))) | apply Ent.selNil | apply Ent.selEmp)); (first | done | fail))⟩, XQA.re (by conv => lhs; dsimp only [List.cons_append, List.nil_append]) ?_⟩
            refine XQA.w1 (i := 19) (by kernel_rfl) ?_
            refine XQA1.wr0 (listed' := #[true, true, true, true, true, true, true, true, true, true, true, true, true, true, true, true, true, true, true, true, false, false]) rfl rfl Gd.free (by kernel_rfl) rfl (WrA.appendAli (tyrow rfl) rfl (tyrow rfl) rfl rfl rfl (by ((repeat (first | with_reducible exact Sel.head | apply Sel.tail)); (first | done | fail))) (by ((repeat (first | with_reducible exact Sel.head | apply Sel.tail)); (first | done | fail))) (fun j u hu => hfw _ _ j u (by ((repeat (first | with_reducible exact Sel.head | apply Sel.tail)); (first | done | fail))) hu) (fun h => by cases h) hlw (by first | rfl | assumption | (simp [*]; (first | done | fail)) | (simp [*]; (first | done | fail))) (by (repeat (first | assumption | exact ones_ints _ | exact ones_lit rfl | refine ones_cons rfl ?_ | refine ones_append ?_ ?_)); (first | done | fail)) (by simp only [maxLen]; omega) (by simp only []; omega)) ?_
            rintro _ _ _ ⟨p79, c79, rfl, rfl, rfl⟩
            refine ⟨⟨(by first | exact PH.sub.refl _ | assumption), (by (repeat (first | exact Ent.nil _ | (apply Ent.sel; focus (first | ((repeat (first | with_reducible exact Sel.head | apply Sel.tail)); done) | ((repeat (first | exact Sel.head | apply Sel.tail)); done))) | apply Ent.selNil | apply Ent.selEmp)); (first | done | fail))⟩, XQA.re (by conv => lhs; dsimp only [List.cons_append, List.nil_append]) ?_⟩
            refine XQA.pu (i := 20) (listed' := #[true, true, true, true, true, true, true, true, true, true, true, true, true, true, true, true, true, true, true, true, true, false]) rfl rfl (by kernel_rfl) rfl Gd.free (Rd.assign (by with_reducible (conv => lhs; whnf))) ?_
            refine XQA.pu (i := 21) (listed' := #[true, true, true, true, true, true, true, true, true, true, true, true, true, true, true, true, true, true, true, true, true, true]) rfl rfl (by kernel_rfl) rfl Gd.free (Rd.assign (by with_reducible (conv => lhs; whnf))) ?_
            refine XQA.nil rfl ?_
            refine DA.thn_normal ⟨(by (repeat (first | exact Keep.refl _ _ | refine Keep.upd ?_ rfl | refine Keep.updO ?_ rfl | refine Keep.updN ?_)); (first | done | fail)), ((p69, c69), (p79, c79)), _, (by (repeat (first | exact trivial | refine ⟨rfl, ?_⟩ | refine ⟨Eq.trans rfl (congrArg Value.bool hmat.symm), ?_⟩)); (first | done | fail)), ?_, rfl, rfl⟩; exact (by (repeat (first | exact Ent.nil _ | (apply Ent.sel; focus (first | ((repeat (first | with_reducible exact Sel.head | apply Sel.tail)); done) | ((repeat (first | exact Sel.head | apply Sel.tail)); done))) | apply Ent.selNil | apply Ent.selEmp)); (first | done | fail))
          · refine XQA1.wr0 (listed' := #[true, true, true, true, true, true, true, true, true, false, true, true, true, true, true, true, true, true, true, false, false, false]) rfl rfl Gd.free (by kernel_rfl) rfl (WrA.slice1 (tyrow rfl) rfl (tyrow rfl) (by with_reducible (conv => lhs; whnf)) (by first | exact wv_cells _ | exact agg_cells _ | rfl) (by first | rfl | assumption | (simp [*]; (first | done | fail)) | (simp [*]; (first | done | fail))) rfl (by decide) rfl) ?_
            rintro _ _ _ ⟨g78, rfl, rfl, rfl⟩
            refine ⟨⟨(by first | exact PH.sub.refl _ | assumption), (by (repeat (first | exact Ent.nil _ | (apply Ent.sel; focus (first | ((repeat (first | with_reducible exact Sel.head | apply Sel.tail)); done) | ((repeat (first | exact Sel.head | apply Sel.tail)); done))) | apply Ent.selNil | apply Ent.selEmp)); (first | done | fail))⟩, XQA.re (by conv => lhs; dsimp only [List.cons_append, List.nil_append]) ?_⟩
            refine XQA.w1 (i := 9) (by kernel_rfl) ?_
            refine XQA1.wr0 (listed' := #[true, true, true, true, true, true, true, true, true, true, true, true, true, true, true, true, true, true, true, false, false, false]) rfl rfl Gd.free (by kernel_rfl) rfl (WrA.appendAli (tyrow rfl) rfl (tyrow rfl) rfl rfl rfl (by ((repeat (first | with_reducible exact Sel.head | apply Sel.tail)); (first | done | fail))) (by ((repeat (first | with_reducible exact Sel.head | apply Sel.tail)); (first | done | fail))) (fun j u hu => hfa _ _ j u (by ((repeat (first | with_reducible exact Sel.head | apply Sel.tail)); (first | done | fail))) hu) (fun h => by cases h) hla (by first | rfl | assumption | (simp [*]; (first | done | fail)) | (simp [*]; (first | done | fail))) (by (repeat (first | assumption | exact ones_ints _ | exact ones_lit rfl | refine ones_cons rfl ?_ | refine ones_append ?_ ?_)); (first | done | fail)) (by simp only [maxLen]; omega) (by simp only []; omega)) ?_
            rintro _ _ _ ⟨p69, c69, rfl, rfl, rfl⟩
            refine ⟨⟨(by first | exact PH.sub.refl _ | assumption), (by (repeat (first | exact Ent.nil _ | (apply Ent.sel; focus (first | ((repeat (first | with_reducible exact Sel.head | apply Sel.tail)); done) | ((repeat (first | exact Sel.head | apply Sel.tail)); done))) | apply Ent.selNil | apply Ent.selEmp)); (first | done | fail))⟩, XQA.re (by conv => lhs; dsimp only [List.cons_append, List.nil_append]) ?_⟩
            refine XQA.w1 (i := 19) (by kernel_rfl) ?_
            refine XQA1.wr0 (listed' := #[true, true, true, true, true, true, true, true, true, true, true, true, true, true, true, true, true, true, true, true, false, false]) rfl rfl Gd.free (by kernel_rfl) rfl (WrA.appendAli (tyrow rfl) rfl (tyrow rfl) rfl rfl rfl (by ((repeat (first | with_reducible exact Sel.head | apply Sel.tail)); (first | done | fail))) (by ((repeat (first | with_reducible exact Sel.head | apply Sel.tail)); (first | done | fail))) (fun j u hu => hfw _ _ j u (by ((repeat (first | with_reducible exact Sel.head | apply Sel.tail)); (first | done | fail))) hu) (fun h => by cases h) hlw (by first | rfl | assumption | (simp [*]; (first | done | fail)) | (simp [*]; (first | done | fail))) (by (repeat (first | assumption | exact ones_ints _ | exact ones_lit rfl | refine ones_cons rfl ?_ | refine ones_append ?_ ?_)); (first | done | fail)) (by simp only [maxLen]; omega) (by simp only []; omega)) ?_
            rintro _ _ _ ⟨p79, c79, rfl, rfl, rfl⟩
            refine ⟨⟨(by first | exact PH.sub.refl _ | assumption), (by (repeat (first | exact Ent.nil _ | (apply Ent.sel; focus (first | ((repeat (first | with_reducible exact Sel.head | apply Sel.tail)); done) | ((repeat (first | exact Sel.head | apply Sel.tail)); done))) | apply Ent.selNil | apply Ent.selEmp)); (first | done | fail))⟩, XQA.re (by conv => lhs; dsimp only [List.cons_append, List.nil_append]) ?_⟩
            refine XQA.pu (i := 20) (listed' := #[true, true, true, true, true, true, true, true, true, true, true, true, true, true, true, true, true, true, true, true, true, false]) rfl rfl (by kernel_rfl) rfl Gd.free (Rd.assign (by with_reducible (conv => lhs; whnf))) ?_
            refine XQA.pu (i := 21) (listed' := #[true, true, true, true, true, true, true, true, true, true, true, true, true, true, true, true, true, true, true, true, true, true]) rfl rfl (by kernel_rfl) rfl Gd.free (Rd.assign (by with_reducible (conv => lhs; whnf))) ?_
            refine XQA.nil rfl ?_
            refine DA.thn_normal ⟨(by (repeat (first | exact Keep.refl _ _ | refine Keep.upd ?_ rfl | refine Keep.updO ?_ rfl | refine Keep.updN ?_)); (first | done | fail)), ((p69, c69), (p79, c79)), _, (by (repeat (first | exact trivial | refine ⟨rfl, ?_⟩ | refine ⟨Eq.trans rfl (congrArg Value.bool hmat.symm), ?_⟩)); (first | done | fail)), ?_, rfl, rfl⟩; exact (by (repeat (first | exact Ent.nil _ | (apply Ent.sel; focus (first | ((repeat (first | with_reducible exact Sel.head | apply Sel.tail)); done) | ((repeat (first | exact Sel.head | apply Sel.tail)); done))) | apply Ent.selNil | apply Ent.selEmp)); (first | done | fail))
        · refine XQA1.wr0 (listed' := #[true, true, true, true, true, true, true, true, false, false, true, true, true, true, true, true, true, true, true, false, false, false]) rfl rfl Gd.free (by kernel_rfl) rfl (WrA.slice1 (tyrow rfl) rfl (tyrow rfl) (by with_reducible (conv => lhs; whnf)) (by first | exact wv_cells _ | exact agg_cells _ | rfl) (by first | rfl | assumption | (simp [*]; (first | done | fail)) | (simp [*]; (first | done | fail))) rfl (by decide) rfl) ?_
          rintro _ _ _ ⟨g78, rfl, rfl, rfl⟩
          refine ⟨⟨(by first | exact PH.sub.refl _ | assumption), (by (repeat (first | exact Ent.nil _ | (apply Ent.sel; focus (first | ((repeat (first | with_reducible exact Sel.head | apply Sel.tail)); done) | ((repeat (first | exact Sel.head | apply Sel.tail)); done))) | apply Ent.selNil | apply Ent.selEmp)); (first | done | fail))⟩, XQA.re (by conv => lhs; dsimp only [List.cons_append, List.nil_append]) ?_⟩
          refine XQA.w1 (i := 8) (by kernel_rfl) ?_
          refine XQA1.wr0 (listed' := #[true, true, true, true, true, true, true, true, true, false, true, true, true, true, true, true, true, true, true, false, false, false]) rfl rfl Gd.free (by kernel_rfl) rfl (WrA.slice1 (tyrow rfl) rfl (tyrow rfl) (by with_reducible (conv => lhs; whnf)) (by first | exact wv_cells _ | exact agg_cells _ | rfl) (by first | rfl | assumption | (simp [*]; (first | done | fail)) | (simp [*]; (first | done | fail))) rfl (by decide) rfl) ?_
          rintro _ _ _ ⟨g68, rfl, rfl, rfl⟩
          refine ⟨⟨(by first | exact PH.sub.refl _ | assumption), (by (repeat (first | exact Ent.nil _ | (apply Ent.sel; focus (first | ((repeat (first | with_reducible exact Sel.head | apply Sel.tail)); done) | ((repeat (first | exact Sel.head | apply Sel.tail)); done))) | apply Ent.selNil | apply Ent.selEmp)); (first | done | fail))⟩, XQA.re (by conv => lhs; dsimp only [List.cons_append, List.nil_append]) ?_⟩
          refine XQA.w1 (i := 9) (by kernel_rfl) ?_
          refine XQA1.wr0 (listed' := #[true, true, true, true, true, true, true, true, true, true, true, true, true, true, true, true, true, true, true, false, false, false]) rfl rfl Gd.free (by kernel_rfl) rfl (WrA.appendAli (tyrow rfl) rfl (tyrow rfl) rfl rfl rfl (by ((repeat (first | with_reducible exact Sel.head | apply Sel.tail)); (first | done | fail))) (by ((repeat (first | with_reducible exact Sel.head | apply Sel.tail)); (first | done | fail))) (fun j u hu => hfa _ _ j u (by ((repeat (first | with_reducible exact Sel.head | apply Sel.tail)); (first | done | fail))) hu) (fun h => by cases h) hla (by first | rfl | assumption | (simp [*]; (first | done | fail)) | (simp [*]; (first | done | fail))) (by (repeat (first | assumption | exact ones_ints _ | exact ones_lit rfl | refine ones_cons rfl ?_ | refine ones_append ?_ ?_)); (first | done | fail)) (by simp only [maxLen]; omega) (by simp only []; omega)) ?_
          rintro _ _ _ ⟨p69, c69, rfl, rfl, rfl⟩
          refine ⟨⟨(by first | exact PH.sub.refl _ | assumption), (by (repeat (first | exact Ent.nil _ | (apply Ent.sel; focus (first | ((repeat (first | with_reducible exact Sel.head | apply Sel.tail)); done) | ((repeat (first | exact Sel.head | apply Sel.tail)); done))) | apply Ent.selNil | apply Ent.selEmp)); (first | done | fail))⟩, XQA.re (by conv => lhs; dsimp only [List.cons_append, List.nil_append]) ?_⟩
          refine XQA.w1 (i := 19) (by kernel_rfl) ?_
          refine XQA1.wr0 (listed' := #[true, true, true, true, true, true, true, true, true, true, true, true, true, true, true, true, true, true, true, true, false, false]) rfl rfl Gd.free (by kernel_rfl) rfl (WrA.appendAli (tyrow rfl) rfl (tyrow rfl) rfl rfl rfl (by ((repeat (first | with_reducible exact Sel.head | apply Sel.tail)); (first | done | fail))) (by ((repeat (first | with_reducible exact Sel.head | apply Sel.tail)); (first | done | fail))) (fun j u hu => hfw _ _ j u (by ((repeat (first | with_reducible exact Sel.head | apply Sel.tail)); (first | done | fail))) hu) (fun h => by cases h) hlw (by first | rfl | assumption | (simp [*]; (first | done | fail)) | (simp [*]; (first | done | fail))) (by (repeat (first | assumption | exact ones_ints _ | exact ones_lit rfl | refine ones_cons rfl ?_ | refine ones_append ?_ ?_)); (first | done | fail)) (by simp only [maxLen]; omega) (by simp only []; omega)) ?_
          rintro _ _ _ ⟨p79, c79, rfl, rfl, rfl⟩
          refine ⟨⟨(by first | exact PH.sub.refl _ | assumption), (by (repeat (first | exact Ent.nil _ | (apply Ent.sel; focus (first | ((repeat (first | with_reducible exact Sel.head | apply Sel.tail)); done) | ((repeat (first | exact Sel.head | apply Sel.tail)); done))) | apply Ent.selNil | apply Ent.selEmp)); (first | done | fail))⟩, XQA.re (by conv => lhs; dsimp only [List.cons_append, List.nil_append]) ?_⟩
          refine XQA.pu (i := 20) (listed' := #[true, true, true, true, true, true, true, true, true, true, true, true, true, true, true, true, true, true, true, true, true, false]) rfl rfl (by kernel_rfl) rfl Gd.free (Rd.assign (by with_reducible (conv => lhs; whnf))) ?_
          refine XQA.pu (i := 21) (listed' := #[true, true, true, true, true, true, true, true, true, true, true, true, true, true, true, true, true, true, true, true, true, true]) rfl rfl (by kernel_rfl) rfl Gd.free (Rd.assign (by with_reducible (conv => lhs; whnf))) ?_
          refine XQA.nil rfl ?_
          refine DA.thn_normal ⟨(by (repeat (first | exact Keep.refl _ _ | refine Keep.upd ?_ rfl | refine Keep.updO ?_ rfl | refine Keep.updN ?_)); (first | done | fail)), ((p69, c69), (p79, c79)), _, (by (repeat (first | exact trivial | refine ⟨rfl, ?_⟩ | refine ⟨Eq.trans rfl (congrArg Value.bool hmat.symm), ?_⟩)); (first | done | fail)), ?_, rfl, rfl⟩; exact (by (repeat (first | exact Ent.nil _ | (apply Ent.sel; focus (first | ((repeat (first | with_reducible exact Sel.head | apply Sel.tail)); done) | ((repeat (first | exact Sel.head | apply Sel.tail)); done))) | apply Ent.selNil | apply Ent.selEmp)); (first | done | fail))
      rintro ⟨⟨pa2, ca2⟩, pw2, cw2⟩ δ2 _ _ ⟨rfl, rfl⟩
      dsimp only [ovr, List.foldl]
      refine DA.inb_normal ?_
      refine DA.thn_normal ?_
      refine XA.region ?_
      refine XOA.rd rfl (Rd.move (by with_reducible (conv => lhs; whnf))) ?_
      refine XOA.rd rfl (by first | exact Rd.addi rfl rfl rfl (by omega) | exact Rd.add rfl rfl) ?_
      refine XOA.rd rfl (Rd.assign (by with_reducible (conv => lhs; whnf))) ?_
      refine XOA.nil ?_
      refine DA.thn_normal ?_
      refine ⟨(Keep.upd (Keep.upd (Keep.upd (Keep.upd (Keep.upd (Keep.hav (Keep.hav (Keep.upd (Keep.upd (Keep.upd (Keep.upd (Keep.upd (Keep.upd (Keep.upd (Keep.upd (Keep.upd (Keep.upd (Keep.upd (Keep.upd (Keep.upd (Keep.upd (Keep.upd (Keep.upd (Keep.upd (Keep.upd (Keep.upd (Keep.upd (Keep.upd (Keep.upd (Keep.upd (Keep.upd (Keep.hav (Keep.hav (Keep.refl _ _) rfl) rfl) rfl) rfl) rfl) rfl) rfl) rfl) rfl) rfl) rfl) rfl) rfl) rfl) rfl) rfl) rfl) rfl) rfl) rfl) rfl) rfl) rfl) rfl) rfl) rfl) rfl) rfl) rfl) rfl) rfl) rfl) rfl), (k + 1, (pa2, ca2), (pw2, cw2), nk + 1), _, (by (repeat (first | exact trivial | refine ⟨rfl, ?_⟩ | refine ⟨Eq.trans rfl (congrArg Value.bool hmat.symm), ?_⟩)); (first | done | fail)), ?_, ⟨rfl, by simp only; omega, by rw [e]; simp [hnk], rfl⟩, (by simp only; omega)⟩
      · rw [e]; simp only [List.map_append, List.map_cons, List.map_nil, List.flatMap_append, List.flatMap_cons, List.flatMap_nil, List.append_nil]; refine Ent.aliOf (by ((repeat (first | with_reducible exact Sel.head | apply Sel.tail)); (first | done | fail))) (Ent.aliOf (by ((repeat (first | with_reducible exact Sel.head | apply Sel.tail)); (first | done | fail))) ?_); exact (by (repeat (first | exact Ent.nil _ | (apply Ent.sel; focus (first | ((repeat (first | with_reducible exact Sel.head | apply Sel.tail)); done) | ((repeat (first | exact Sel.head | apply Sel.tail)); done))) | apply Ent.selNil | apply Ent.selEmp)); (first | done | fail))
    · have e : kp (k + 1) = kp k := by rw [hkq, if_neg (fun h => hb (hbit.2 h))]
      refine XA.skip ?_
      refine DA.inb_normal ?_
      refine DA.thn_normal ?_
      refine XA.region ?_
      refine XOA.rd rfl (Rd.move (by with_reducible (conv => lhs; whnf))) ?_
      refine XOA.rd rfl (by first | exact Rd.addi rfl rfl rfl (by omega) | exact Rd.add rfl rfl) ?_
      refine XOA.rd rfl (Rd.assign (by with_reducible (conv => lhs; whnf))) ?_
      refine XOA.nil ?_
      refine DA.thn_normal ?_
      refine ⟨(Keep.upd (Keep.upd (Keep.upd (Keep.upd (Keep.upd (Keep.upd (Keep.upd (Keep.upd (Keep.upd (Keep.upd (Keep.upd (Keep.upd (Keep.upd (Keep.upd (Keep.upd (Keep.upd (Keep.upd (Keep.upd (Keep.upd (Keep.upd (Keep.upd (Keep.upd (Keep.upd (Keep.upd (Keep.upd (Keep.upd (Keep.upd (Keep.hav (Keep.hav (Keep.refl _ _) rfl) rfl) rfl) rfl) rfl) rfl) rfl) rfl) rfl) rfl) rfl) rfl) rfl) rfl) rfl) rfl) rfl) rfl) rfl) rfl) rfl) rfl) rfl) rfl) rfl) rfl) rfl) rfl) rfl), (k + 1, (pa', ca'), (pw', cw'), nk), _, (by (repeat (first | exact trivial | refine ⟨rfl, ?_⟩ | refine ⟨Eq.trans rfl (congrArg Value.bool hmat.symm), ?_⟩)); (first | done | fail)), ?_, ⟨rfl, by simp only; omega, by rw [e]; exact hnk, rfl⟩, (by simp only; omega)⟩
      · rw [e]; exact (by (repeat (first | exact Ent.nil _ | (apply Ent.sel; focus (first | ((repeat (first | with_reducible exact Sel.head | apply Sel.tail)); done) | ((repeat (first | exact Sel.head | apply Sel.tail)); done))) | apply Ent.selNil | apply Ent.selEmp)); (first | done | fail))
  have hkn : k = p.ws.length - p.sure := by omega
  subst hkn
  have hcr : p.crash (bitOf m) = { ws := kp (p.ws.length - p.sure), sure := (kp (p.ws.length - p.sure)).length } := by rw [hkp]; rfl
  refine XA.exit ?_
  refine DA.thn_exit ?_
  refine DA.thn_exit ?_
  refine DA.inb_same ?_
  refine DA.thn_normal ?_
  refine XA.region ?_
  refine XOA.rd rfl (Rd.move (by with_reducible (conv => lhs; whnf))) ?_
  refine XOA.rd rfl (Rd.move (by with_reducible (conv => lhs; whnf))) ?_
  refine XOA.rd rfl (Rd.move (by with_reducible (conv => lhs; whnf))) ?_
  refine XOA.rd rfl (Rd.move (by with_reducible (conv => lhs; whnf))) ?_
  refine XOA.rd rfl (Rd.move (by with_reducible (conv => lhs; whnf))) ?_
  refine XOA.rd rfl (Rd.move (by with_reducible (conv => lhs; whnf))) ?_
  refine XOA.rd rfl (Rd.lenSlice (tyrow rfl) rfl rfl) ?_
  refine XOA.rd rfl (Rd.nilCheck rfl) ?_
  refine XOA.rd rfl (Rd.fieldAddr (tyrow rfl) rfl rfl (tyrow rfl) rfl rfl (by first | (conv => lhs; simp only [Nat.reduceAdd, Nat.zero_add, Nat.add_zero, Nat.reduceMul, Nat.mul_one, Int.toNat_natCast, Int.reduceToNat, Nat.zero_mul]) | rfl)) ?_
  refine XOA.wr0 rfl (by apply WrA.store; exact tyrow rfl; rfl; (focus (first | (((repeat (first | with_reducible exact Sel.head | apply Sel.tail)); (first | done | fail))))); exact (by with_reducible (conv => lhs; whnf)); exact (by first | exact wv_cells _ | exact agg_cells _ | rfl); exact (by first | rfl | assumption | (simp [*]; (first | done | fail)) | (simp [*]; (first | done | fail))); exact (by first | exact Nat.le_refl _ | exact hfit | decide | (simp [*]; (first | done | fail)) | (simp; omega)); exact (by (repeat (first | assumption | exact ones_ints _ | exact ones_lit rfl | refine ones_cons rfl ?_ | refine ones_append ?_ ?_)); (first | done | fail)); exact (by first | ((with_reducible apply splice_all); (first | rfl | (simp [*]; (first | done | fail)))) | assumption | exact hspl _ | (conv => lhs; simp only [splice, List.take_zero, List.take_succ_cons, List.drop_zero, List.drop_succ_cons, List.length_cons, List.length_nil, List.nil_append, List.cons_append, List.append_nil, List.append_eq, Nat.reduceAdd, Nat.zero_add, Nat.add_zero]) | rfl)) ?_
  rintro _ _ _ ⟨rfl, rfl, rfl⟩
  refine XOA.rd rfl (Rd.nilCheck rfl) ?_
  refine XOA.rd rfl (Rd.fieldAddr (tyrow rfl) rfl rfl (tyrow rfl) rfl rfl (by first | (conv => lhs; simp only [Nat.reduceAdd, Nat.zero_add, Nat.add_zero, Nat.reduceMul, Nat.mul_one, Int.toNat_natCast, Int.reduceToNat, Nat.zero_mul]) | rfl)) ?_
  refine XOA.wr0 rfl (by apply WrA.store; exact tyrow rfl; rfl; (focus (first | (((repeat (first | with_reducible exact Sel.head | apply Sel.tail)); (first | done | fail))))); exact (by with_reducible (conv => lhs; whnf)); exact (by first | exact wv_cells _ | exact agg_cells _ | rfl); exact (by first | rfl | assumption | (simp [*]; (first | done | fail)) | (simp [*]; (first | done | fail))); exact (by first | exact Nat.le_refl _ | exact hfit | decide | (simp [*]; (first | done | fail)) | (simp; omega)); exact (by (repeat (first | assumption | exact ones_ints _ | exact ones_lit rfl | refine ones_cons rfl ?_ | refine ones_append ?_ ?_)); (first | done | fail)); exact (by first | ((with_reducible apply splice_all); (first | rfl | (simp [*]; (first | done | fail)))) | assumption | exact hspl _ | (conv => lhs; simp only [splice, List.take_zero, List.take_succ_cons, List.drop_zero, List.drop_succ_cons, List.length_cons, List.length_nil, List.nil_append, List.cons_append, List.append_nil, List.append_eq, Nat.reduceAdd, Nat.zero_add, Nat.add_zero]) | rfl)) ?_
  rintro _ _ _ ⟨rfl, rfl, rfl⟩
  refine XOA.rd rfl (Rd.nilCheck rfl) ?_
  refine XOA.rd rfl (Rd.fieldAddr (tyrow rfl) rfl rfl (tyrow rfl) rfl rfl (by first | (conv => lhs; simp only [Nat.reduceAdd, Nat.zero_add, Nat.add_zero, Nat.reduceMul, Nat.mul_one, Int.toNat_natCast, Int.reduceToNat, Nat.zero_mul]) | rfl)) ?_
  refine XOA.wr0 rfl (by apply WrA.store; exact tyrow rfl; rfl; (focus (first | (((repeat (first | with_reducible exact Sel.head | apply Sel.tail)); (first | done | fail))))); exact (by with_reducible (conv => lhs; whnf)); exact (by first | exact wv_cells _ | exact agg_cells _ | rfl); exact (by first | rfl | assumption | (simp [*]; (first | done | fail)) | (simp [*]; (first | done | fail))); exact (by first | exact Nat.le_refl _ | exact hfit | decide | (simp [*]; (first | done | fail)) | (simp; omega)); exact (by (repeat (first | assumption | exact ones_ints _ | exact ones_lit rfl | refine ones_cons rfl ?_ | refine ones_append ?_ ?_)); (first | done | fail)); exact (by first | ((with_reducible apply splice_all); (first | rfl | (simp [*]; (first | done | fail)))) | assumption | exact hspl _ | (conv => lhs; simp only [splice, List.take_zero, List.take_succ_cons, List.drop_zero, List.drop_succ_cons, List.length_cons, List.length_nil, List.nil_append, List.cons_append, List.append_nil, List.append_eq, Nat.reduceAdd, Nat.zero_add, Nat.add_zero]) | rfl)) ?_
  rintro _ _ _ ⟨rfl, rfl, rfl⟩
  refine XOA.nil ?_
  refine bodyA.normal (ResA.none rfl) (Ent.fold1 (Θ := [blk b [.slice pa' nk ca', .slice pw' nk cw', i64 nk] 30, lst 3 1 (.slice pa' nk ca') nk _, lst 32 8 (.slice pw' nk cw') nk _]) (Ent.sel (by ((repeat (first | with_reducible exact Sel.head | apply Sel.tail)); (first | done | fail))) (Ent.aliEnd (xs := p.ats) (c := ca) (n := p.ws.length) (by ((repeat (first | with_reducible exact Sel.head | apply Sel.tail)); (first | done | fail))) (by ((repeat (first | with_reducible exact Sel.head | apply Sel.tail)); (first | done | fail))) hsl (Ent.aliEnd (xs := p.wcs) (c := cw) (n := p.ws.length) (by ((repeat (first | with_reducible exact Sel.head | apply Sel.tail)); (first | done | fail))) (by ((repeat (first | with_reducible exact Sel.head | apply Sel.tail)); (first | done | fail))) hsl (Ent.nil _)))) (Plate.mk (hok.crash (bitOf m)) ?_ ?_ ?_ ?_ ?_)) ⟨rfl, rfl, rfl⟩
  all_goals rw [hcr]
  · exact hnk.symm
  · exact hnk.symm
  · rfl
  · rfl
  · simp [hnk]
end Go.Proofs.Ytplobdiknobhoaa
