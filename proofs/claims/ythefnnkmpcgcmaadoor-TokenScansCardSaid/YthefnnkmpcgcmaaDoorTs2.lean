/- The law TokenScans holds: every Scan of tokens is as the document says. Condition: the given card's own, that the variables of the library that it lists hold what it lays. -/
import Derived.Test.YthefnnkmpcgcmaaDoorTs1
import Derived.Test.YthefnnkmpcgcmaaDoorRows
import Derived.LaidLaws
import Derived.Stop.LaidErr
import Derived.RowKit3
import Derived.RowKitTokens
import Derived.ChangeMaps5
import Derived.Handed
import Derived.SizedLaws
import Derived.Test.YthefnnkmpcgcmaaDoorCards
import Derived.Test.YthefnnkmpcgcmaaDoorTie
namespace Go.Proofs.YthefnnkmpcgcmaaDoor
open Go X
set_option maxHeartbeats 2000000
structure Tk where
  at_ : Nat
  text : ByteArray
  num : Bool
  n : Int
def oneT (s : ByteArray) (i : Nat) : Option Tk :=
  if byteAt s i = 40 ∨ byteAt s i = 41 then some ⟨i, s.extract i (i + 1), false, 0⟩
  else if letterB (byteAt s i) = true then some ⟨i, s.extract i (i + runB letterB s i), false, 0⟩
  else if digitB (byteAt s i) = true ∨ byteAt s i = 45 then
    (longOf (s.extract i (i + 1 + runB digitB s (i + 1)))).map fun n => ⟨i, s.extract i (i + 1 + runB digitB s (i + 1)), true, n⟩
  else none
def tkC (t : Tk) : List Value := [i64 t.at_, .string t.text, .bool t.num, i64 t.n]
def oneC (o : Option Tk) : Value := match o with
  | some t => .tuple #[.agg (tkC t).toArray, i64 0]
  | none => .tuple #[.agg #[i64 0, .string ByteArray.empty, .bool false, i64 0], i64 7]
theorem one_tok (σ : PH) (s : ByteArray) (i : Nat) (hi : i < s.size) (hs : s.size ≤ 100000000) (hT : Tab σ) (hE : Errs σ) :
    CallsA Tryd.prog 35 #[.string s, i64 i] σ [] (RetA fun v σ' Γ' => v = oneC (oneT s i) ∧ σ = σ' ∧ Γ' = []) := by
  have hb := byteAt_lt s i
  by_cases h1 : byteAt s i = 40
  · have e : oneT s i = some ⟨i, s.extract i (i + 1), false, 0⟩ := by rw [oneT, if_pos (.inl h1)]
    rw [e]
    refine enterA2 Tryd.func35 rfl rfl rfl ?_
    refine zS (zR ?_)
    refine XOA.wr0 rfl (WrA.alloc (tyrow rfl)) ?_
    rintro _ _ _ ⟨g4, rfl, rfl, rfl⟩
    refine zO rfl Rd.asg ?_; refine zN (zT (zS (zR (zA rfl ?_)))); refine zA rfl ?_
    refine zO rfl (Rd.indexStr (tyrow rfl) rfl rfl rfl (by first | omega | decide | (simp; omega))) ?_
    refine zO rfl Rd.asg ?_; refine zN (zT (zS (XA.block (zS (zR (zA rfl ?_)))))); refine zO rfl (Rd.eql rfl rfl) ?_; refine zA rfl ?_
    first | (refine zG ?_; refine zA rfl ?_) | refine zH ?_
    first | (refine zG ?_; refine zO rfl (Rd.eql rfl rfl) ?_) | refine zH ?_
    refine zO rfl zP ?_; refine zO rfl Rd.asg ?_; refine zN (zT (XA.condT rfl (by first | rfl | exact decide_eq_true (by omega)) ?_)); refine zS (zR (zA rfl ?_)); refine zA rfl ?_; refine zA rfl ?_; refine zA rfl ?_; refine zO rfl zI ?_
    refine zO rfl (Rd.sliceStr (tyrow rfl) rfl rfl rfl rfl (by omega)) ?_
    refine zO rfl (Rd.bl (fun _ _ => tyrow) rfl rfl rfl) ?_
    refine XOA.wr0 rfl (WrA.st (tyrow rfl) rfl) ?_
    rintro _ _ _ ⟨rfl, rfl, rfl⟩
    refine zO rfl Rd.asg ?_; refine zN (zT (XA.ret (DA.inb_ret (DA.thn_ret ?_))))
    exact bodyA.ret (ResA.ctT rfl rfl rfl (Ld.atBlk (tyrow rfl) rfl zL rfl (by first | exact take0 (by first | rfl | assumption | (refine (ints_len _).trans ?_; assumption) | (simp [*]; (first | done | fail))) | assumption | exact take_app (by first | rfl | assumption | (refine (ints_len _).trans ?_; assumption) | (simp [*]; (first | done | fail))) | (conv => lhs; simp only [List.drop_succ_cons, List.drop_zero, List.take_succ_cons, List.take_zero])) (by first | rfl | assumption | (refine (ints_len _).trans ?_; assumption) | (simp [*]; (first | done | fail))))) (Ent.nil _) ⟨rfl, rfl, rfl⟩
  by_cases h2 : byteAt s i = 41
  · have e : oneT s i = some ⟨i, s.extract i (i + 1), false, 0⟩ := by rw [oneT, if_pos (.inr h2)]
    rw [e]
    refine enterA2 Tryd.func35 rfl rfl rfl ?_
    refine zS (zR ?_)
    refine XOA.wr0 rfl (WrA.alloc (tyrow rfl)) ?_
    rintro _ _ _ ⟨g4, rfl, rfl, rfl⟩
    refine zO rfl Rd.asg ?_; refine zN (zT (zS (zR (zA rfl ?_)))); refine zA rfl ?_
    refine zO rfl (Rd.indexStr (tyrow rfl) rfl rfl rfl (by first | omega | decide | (simp; omega))) ?_
    refine zO rfl Rd.asg ?_; refine zN (zT (zS (XA.block (zS (zR (zA rfl ?_)))))); refine zO rfl (Rd.eql rfl rfl) ?_; refine zA rfl ?_
    first | (refine zG ?_; refine zA rfl ?_) | refine zH ?_
    first | (refine zG ?_; refine zO rfl (Rd.eql rfl rfl) ?_) | refine zH ?_
    refine zO rfl zP ?_; refine zO rfl Rd.asg ?_; refine zN (zT (XA.condT rfl (by first | rfl | exact decide_eq_true (by omega)) ?_)); refine zS (zR (zA rfl ?_)); refine zA rfl ?_; refine zA rfl ?_; refine zA rfl ?_; refine zO rfl zI ?_
    refine zO rfl (Rd.sliceStr (tyrow rfl) rfl rfl rfl rfl (by omega)) ?_
    refine zO rfl (Rd.bl (fun _ _ => tyrow) rfl rfl rfl) ?_
    refine XOA.wr0 rfl (WrA.st (tyrow rfl) rfl) ?_
    rintro _ _ _ ⟨rfl, rfl, rfl⟩
    refine zO rfl Rd.asg ?_; refine zN (zT (XA.ret (DA.inb_ret (DA.thn_ret ?_))))
    exact bodyA.ret (ResA.ctT rfl rfl rfl (Ld.atBlk (tyrow rfl) rfl zL rfl (by first | exact take0 (by first | rfl | assumption | (refine (ints_len _).trans ?_; assumption) | (simp [*]; (first | done | fail))) | assumption | exact take_app (by first | rfl | assumption | (refine (ints_len _).trans ?_; assumption) | (simp [*]; (first | done | fail))) | (conv => lhs; simp only [List.drop_succ_cons, List.drop_zero, List.take_succ_cons, List.take_zero])) (by first | rfl | assumption | (refine (ints_len _).trans ?_; assumption) | (simp [*]; (first | done | fail))))) (Ent.nil _) ⟨rfl, rfl, rfl⟩
  have h12 : ¬ (byteAt s i = 40 ∨ byteAt s i = 41) := by omega
  have hlet := letter_t σ (byteAt s i) hb
  have hle1 := runB_le letterB s (i := i) (by omega)
  have hle2 := runB_le digitB s (i := i + 1) (by omega)
  have hdig := digit_t σ (byteAt s i) hb
  have hrl := run_t σ s i 59 letterB letter_t (by omega) hs
  have hrd := run_t σ s (i + 1) 60 digitB digit_t (by omega) hs
  refine enterA2 Tryd.func35 rfl rfl rfl ?_
  refine zS (zR ?_)
  refine XOA.wr0 rfl (WrA.alloc (tyrow rfl)) ?_
  rintro _ _ _ ⟨g4, rfl, rfl, rfl⟩
  refine zO rfl Rd.asg ?_; refine zN (zT (zS (zR (zA rfl ?_)))); refine zA rfl ?_
  refine zO rfl (Rd.indexStr (tyrow rfl) rfl rfl rfl (by first | omega | decide | (simp; omega))) ?_
  refine zO rfl Rd.asg ?_; refine zN (zT (zS (XA.block (zS (zR (zA rfl ?_)))))); refine zO rfl (Rd.eql rfl rfl) ?_; refine zA rfl ?_
  first | (refine zG ?_; refine zA rfl ?_) | refine zH ?_
  first | (refine zG ?_; refine zO rfl (Rd.eql rfl rfl) ?_) | refine zH ?_
  refine zO rfl zP ?_; refine zO rfl Rd.asg ?_; refine zN (zT (XA.condF rfl (by first | rfl | exact decide_eq_false (by omega)) ?_)); refine zS (zR (zA rfl ?_))
  cases hl : letterB (byteAt s i) with
  | true =>
    have e : oneT s i = some ⟨i, s.extract i (i + runB letterB s i), false, 0⟩ := by rw [oneT, if_neg h12, if_pos hl]
    rw [e]
    rw [hl] at hlet
    refine XOA.wr0 rfl (WrA.cE (hlet) rfl) ?_
    rintro _ _ _ ⟨_, ⟨rfl, rfl, rfl⟩, rfl⟩
    refine XOA.cl ?_; refine zO rfl Rd.asg ?_; refine zN (zT (XA.condT rfl rfl (zS (zR (zA rfl ?_))))); refine zA rfl ?_; refine zA rfl ?_; refine zA rfl ?_; refine zA rfl ?_; refine zA rfl ?_
    refine XOA.wr0 rfl (WrA.cE (hrl) rfl) ?_
    rintro _ _ _ ⟨_, ⟨rfl, rfl, rfl⟩, rfl⟩
    refine XOA.cl ?_; refine zO rfl zI ?_; refine zO rfl (Rd.sliceStr (tyrow rfl) rfl rfl rfl rfl (by omega)) ?_
    refine zO rfl (Rd.bl (fun _ _ => tyrow) rfl rfl rfl) ?_
    refine XOA.wr0 rfl (WrA.st (tyrow rfl) rfl) ?_
    rintro _ _ _ ⟨rfl, rfl, rfl⟩
    refine zO rfl Rd.asg ?_; refine zN (zT (XA.ret (DA.inb_ret (DA.thn_ret ?_))))
    exact bodyA.ret (ResA.ctT rfl rfl rfl (Ld.atBlk (tyrow rfl) rfl zL rfl (by first | exact take0 (by first | rfl | assumption | (refine (ints_len _).trans ?_; assumption) | (simp [*]; (first | done | fail))) | assumption | exact take_app (by first | rfl | assumption | (refine (ints_len _).trans ?_; assumption) | (simp [*]; (first | done | fail))) | (conv => lhs; simp only [List.drop_succ_cons, List.drop_zero, List.take_succ_cons, List.take_zero])) (by first | rfl | assumption | (refine (ints_len _).trans ?_; assumption) | (simp [*]; (first | done | fail))))) (Ent.nil _) ⟨rfl, rfl, rfl⟩
  | false =>
    have hl' : ¬ letterB (byteAt s i) = true := by rw [hl]; exact Bool.noConfusion
    rw [hl] at hlet
    by_cases hd : digitB (byteAt s i) = true ∨ byteAt s i = 45
    · have e : oneT s i = (longOf (s.extract i (i + 1 + runB digitB s (i + 1)))).map fun n => ⟨i, s.extract i (i + 1 + runB digitB s (i + 1)), true, n⟩ := by rw [oneT, if_neg h12, if_neg hl', if_pos hd]
      obtain ⟨tx, htx⟩ : ∃ tx, tx = s.extract i (i + 1 + runB digitB s (i + 1)) := ⟨_, rfl⟩
      have htx2 : s.extract (i : Int).toNat (((i : Int) + 1) + (runB digitB s (i + 1) : Nat)).toNat = tx := by rw [htx]; congr 1 <;> omega
      rw [← htx] at e
      rw [e]
      have htz : tx.size ≤ 100000000 := by rw [htx, ByteArray.size_extract]; omega
      have hpar := parse_a σ tx htz hE
      cases hq : digitB (byteAt s i) with
      | true =>
        rw [hq] at hdig
        refine XOA.wr0 rfl (WrA.cE (hlet) rfl) ?_
        rintro _ _ _ ⟨_, ⟨rfl, rfl, rfl⟩, rfl⟩
        refine XOA.cl ?_; refine zO rfl Rd.asg ?_; refine zN (zT (XA.condF rfl rfl (zS (zR (zA rfl ?_)))))
        refine XOA.wr0 rfl (WrA.cE (hdig) rfl) ?_
        rintro _ _ _ ⟨_, ⟨rfl, rfl, rfl⟩, rfl⟩
        refine XOA.cl ?_; refine zO rfl zJ ?_; refine zA rfl ?_
        first | (refine zG ?_; refine zA rfl ?_) | refine zH ?_
        first | (refine zG ?_; refine zO rfl (Rd.neq rfl rfl) ?_) | refine zH ?_
        refine zO rfl zP ?_; refine zO rfl Rd.asg ?_; refine zN (zT (XA.condF rfl rfl (XA.skip (DA.inb_normal (zT (zS (zR (zA rfl ?_)))))))); refine zA rfl ?_; refine zA rfl ?_; refine zO rfl zI ?_; refine zA rfl ?_; refine zA rfl ?_; refine zO rfl zI ?_
        refine XOA.wr0 rfl (WrA.cE (hrd) rfl) ?_
        rintro _ _ _ ⟨_, ⟨rfl, rfl, rfl⟩, rfl⟩
        refine XOA.cl ?_; refine zO rfl zI ?_; refine zO rfl (Rd.sliceS (tyrow rfl) rfl rfl rfl rfl (by omega) htx2) ?_; refine zO rfl Rd.asg ?_; refine zN (zT (zS (zR (zA rfl ?_))))
        refine XOA.wr0 rfl (WrA.cE (hpar) rfl) ?_
        rintro v _ _ ⟨_, ⟨hnum, rfl, rfl⟩, rfl⟩
        refine XOA.cl ?_
        rcases hnum with ⟨n, hn, rfl⟩ | ⟨hno, n, a, rfl⟩
        · obtain ⟨hn0, hn1⟩ := parse_bounds hn
          rw [longOf_ok hn]
          refine zA rfl ?_; refine zO rfl (Rd.extract rfl rfl) ?_; refine zO rfl (Rd.extract rfl rfl) ?_; refine zO rfl Rd.asg ?_; refine zO rfl Rd.asg ?_; refine zN (zT (zS (zS (zR (zA rfl ?_))))); refine zO rfl (Rd.neqIfF err_if.choose_spec rfl) ?_; refine zA rfl ?_
          first | (refine zG ?_; refine zA rfl ?_) | refine zH ?_
          first | refine XOA.wanted rfl rfl ?_ | refine XOA.wq rfl rfl ?_
          refine XOA.wr0 rfl (WrA.cE (itoa_a σ n hn0 hn1 hT) rfl) ?_
          rintro _ _ _ ⟨_, ⟨rfl, rfl, rfl⟩, rfl⟩
          refine XOA.cl ?_
          first | (refine zG ?_; refine zA rfl ?_) | refine zH ?_
          first | (refine zG ?_; refine zO rfl (Rd.neqs rfl rfl) ?_) | refine zH ?_
          refine zO rfl zP ?_; refine zN (zT ?_)
          by_cases hq : itoaS n = tx
          · have hq' : ¬ (itoaS n ≠ tx) := fun h => h hq
            rw [if_pos hq]
            refine XA.condF rfl (by first | rfl | exact decide_eq_false hq') ?_; refine XA.skip (zT (zS (zR (zA rfl ?_)))); refine zA rfl ?_; refine zA rfl ?_
            refine zO rfl (Rd.bl (fun _ _ => tyrow) rfl rfl rfl) ?_
            refine XOA.wr0 rfl (WrA.st (tyrow rfl) rfl) ?_
            rintro _ _ _ ⟨rfl, rfl, rfl⟩
            refine zO rfl Rd.asg ?_; refine zN (zT (XA.ret ?_))
            exact bodyA.ret (ResA.ctT rfl rfl rfl (Ld.atBlk (tyrow rfl) rfl zL rfl (by first | exact take0 (by first | rfl | assumption | (refine (ints_len _).trans ?_; assumption) | (simp [*]; (first | done | fail))) | assumption | exact take_app (by first | rfl | assumption | (refine (ints_len _).trans ?_; assumption) | (simp [*]; (first | done | fail))) | (conv => lhs; simp only [List.drop_succ_cons, List.drop_zero, List.take_succ_cons, List.take_zero])) (by first | rfl | assumption | (refine (ints_len _).trans ?_; assumption) | (simp [*]; (first | done | fail))))) (Ent.nil _) ⟨rfl, rfl, rfl⟩
          · rw [if_neg hq]
            refine XA.condT rfl (by first | rfl | exact decide_eq_true hq) ?_; refine zS (zR ?_)
            refine zO rfl (Rd.bl (fun _ _ => tyrow) rfl rfl rfl) ?_
            refine XOA.wr0 rfl (WrA.st (tyrow rfl) rfl) ?_
            rintro _ _ _ ⟨rfl, rfl, rfl⟩
            refine zO rfl Rd.asg ?_; refine zN (zT (XA.ret (DA.thn_ret ?_)))
            exact bodyA.ret (ResA.ctT rfl rfl rfl (Ld.atBlk (tyrow rfl) rfl zL rfl (by first | exact take0 (by first | rfl | assumption | (refine (ints_len _).trans ?_; assumption) | (simp [*]; (first | done | fail))) | assumption | exact take_app (by first | rfl | assumption | (refine (ints_len _).trans ?_; assumption) | (simp [*]; (first | done | fail))) | (conv => lhs; simp only [List.drop_succ_cons, List.drop_zero, List.take_succ_cons, List.take_zero])) (by first | rfl | assumption | (refine (ints_len _).trans ?_; assumption) | (simp [*]; (first | done | fail))))) (Ent.nil _) ⟨rfl, rfl, rfl⟩
        · rw [longOf_bad hno]
          refine zA rfl ?_; refine zO rfl (Rd.extract rfl rfl) ?_; refine zO rfl (Rd.extract rfl rfl) ?_; refine zO rfl Rd.asg ?_; refine zO rfl Rd.asg ?_; refine zN (zT (zS (zS (zR (zA rfl ?_))))); refine zO rfl (Rd.neqIfT err_if.choose_spec rfl) ?_; refine zA rfl ?_
          first | (refine zG ?_; refine zA rfl ?_) | refine zH ?_
          first | refine zH ?_
          first | (refine zG ?_; refine zA rfl ?_) | refine zH ?_
          first | (refine zG ?_; refine zO rfl (Rd.neqs rfl rfl) ?_) | refine zH ?_
          refine zO rfl zP ?_; refine zN (zT (XA.condT rfl rfl (zS (zR ?_))))
          refine zO rfl (Rd.bl (fun _ _ => tyrow) rfl rfl rfl) ?_
          refine XOA.wr0 rfl (WrA.st (tyrow rfl) rfl) ?_
          rintro _ _ _ ⟨rfl, rfl, rfl⟩
          refine zO rfl Rd.asg ?_; refine zN (zT (XA.ret (DA.thn_ret ?_)))
          exact bodyA.ret (ResA.ctT rfl rfl rfl (Ld.atBlk (tyrow rfl) rfl zL rfl (by first | exact take0 (by first | rfl | assumption | (refine (ints_len _).trans ?_; assumption) | (simp [*]; (first | done | fail))) | assumption | exact take_app (by first | rfl | assumption | (refine (ints_len _).trans ?_; assumption) | (simp [*]; (first | done | fail))) | (conv => lhs; simp only [List.drop_succ_cons, List.drop_zero, List.take_succ_cons, List.take_zero])) (by first | rfl | assumption | (refine (ints_len _).trans ?_; assumption) | (simp [*]; (first | done | fail))))) (Ent.nil _) ⟨rfl, rfl, rfl⟩

      | false =>
        have h45 : byteAt s i = 45 := hd.resolve_left (by rw [hq]; exact Bool.noConfusion)
        have h45' : ¬ ((byteAt s i : Int) ≠ 45) := by omega
        rw [hq] at hdig
        refine XOA.wr0 rfl (WrA.cE (hlet) rfl) ?_
        rintro _ _ _ ⟨_, ⟨rfl, rfl, rfl⟩, rfl⟩
        refine XOA.cl ?_; refine zO rfl Rd.asg ?_; refine zN (zT (XA.condF rfl rfl (zS (zR (zA rfl ?_)))))
        refine XOA.wr0 rfl (WrA.cE (hdig) rfl) ?_
        rintro _ _ _ ⟨_, ⟨rfl, rfl, rfl⟩, rfl⟩
        refine XOA.cl ?_; refine zO rfl zJ ?_; refine zA rfl ?_
        first | (refine zG ?_; refine zA rfl ?_) | refine zH ?_
        first | (refine zG ?_; refine zO rfl (Rd.neq rfl rfl) ?_) | refine zH ?_
        refine zO rfl zP ?_; refine zO rfl Rd.asg ?_; refine zN (zT (XA.condF rfl (by first | rfl | exact decide_eq_false h45') ?_)); refine XA.skip (DA.inb_normal (zT (zS (zR (zA rfl ?_))))); refine zA rfl ?_; refine zA rfl ?_; refine zO rfl zI ?_; refine zA rfl ?_; refine zA rfl ?_; refine zO rfl zI ?_
        refine XOA.wr0 rfl (WrA.cE (hrd) rfl) ?_
        rintro _ _ _ ⟨_, ⟨rfl, rfl, rfl⟩, rfl⟩
        refine XOA.cl ?_; refine zO rfl zI ?_; refine zO rfl (Rd.sliceS (tyrow rfl) rfl rfl rfl rfl (by omega) htx2) ?_; refine zO rfl Rd.asg ?_; refine zN (zT (zS (zR (zA rfl ?_))))
        refine XOA.wr0 rfl (WrA.cE (hpar) rfl) ?_
        rintro v _ _ ⟨_, ⟨hnum, rfl, rfl⟩, rfl⟩
        refine XOA.cl ?_
        rcases hnum with ⟨n, hn, rfl⟩ | ⟨hno, n, a, rfl⟩
        · obtain ⟨hn0, hn1⟩ := parse_bounds hn
          rw [longOf_ok hn]
          refine zA rfl ?_; refine zO rfl (Rd.extract rfl rfl) ?_; refine zO rfl (Rd.extract rfl rfl) ?_; refine zO rfl Rd.asg ?_; refine zO rfl Rd.asg ?_; refine zN (zT (zS (zS (zR (zA rfl ?_))))); refine zO rfl (Rd.neqIfF err_if.choose_spec rfl) ?_; refine zA rfl ?_
          first | (refine zG ?_; refine zA rfl ?_) | refine zH ?_
          first | refine XOA.wanted rfl rfl ?_ | refine XOA.wq rfl rfl ?_
          refine XOA.wr0 rfl (WrA.cE (itoa_a σ n hn0 hn1 hT) rfl) ?_
          rintro _ _ _ ⟨_, ⟨rfl, rfl, rfl⟩, rfl⟩
          refine XOA.cl ?_
          first | (refine zG ?_; refine zA rfl ?_) | refine zH ?_
          first | (refine zG ?_; refine zO rfl (Rd.neqs rfl rfl) ?_) | refine zH ?_
          refine zO rfl zP ?_; refine zN (zT ?_)
          by_cases hq : itoaS n = tx
          · have hq' : ¬ (itoaS n ≠ tx) := fun h => h hq
            rw [if_pos hq]
            refine XA.condF rfl (by first | rfl | exact decide_eq_false hq') ?_; refine XA.skip (zT (zS (zR (zA rfl ?_)))); refine zA rfl ?_; refine zA rfl ?_
            refine zO rfl (Rd.bl (fun _ _ => tyrow) rfl rfl rfl) ?_
            refine XOA.wr0 rfl (WrA.st (tyrow rfl) rfl) ?_
            rintro _ _ _ ⟨rfl, rfl, rfl⟩
            refine zO rfl Rd.asg ?_; refine zN (zT (XA.ret ?_))
            exact bodyA.ret (ResA.ctT rfl rfl rfl (Ld.atBlk (tyrow rfl) rfl zL rfl (by first | exact take0 (by first | rfl | assumption | (refine (ints_len _).trans ?_; assumption) | (simp [*]; (first | done | fail))) | assumption | exact take_app (by first | rfl | assumption | (refine (ints_len _).trans ?_; assumption) | (simp [*]; (first | done | fail))) | (conv => lhs; simp only [List.drop_succ_cons, List.drop_zero, List.take_succ_cons, List.take_zero])) (by first | rfl | assumption | (refine (ints_len _).trans ?_; assumption) | (simp [*]; (first | done | fail))))) (Ent.nil _) ⟨rfl, rfl, rfl⟩
          · rw [if_neg hq]
            refine XA.condT rfl (by first | rfl | exact decide_eq_true hq) ?_; refine zS (zR ?_)
            refine zO rfl (Rd.bl (fun _ _ => tyrow) rfl rfl rfl) ?_
            refine XOA.wr0 rfl (WrA.st (tyrow rfl) rfl) ?_
            rintro _ _ _ ⟨rfl, rfl, rfl⟩
            refine zO rfl Rd.asg ?_; refine zN (zT (XA.ret (DA.thn_ret ?_)))
            exact bodyA.ret (ResA.ctT rfl rfl rfl (Ld.atBlk (tyrow rfl) rfl zL rfl (by first | exact take0 (by first | rfl | assumption | (refine (ints_len _).trans ?_; assumption) | (simp [*]; (first | done | fail))) | assumption | exact take_app (by first | rfl | assumption | (refine (ints_len _).trans ?_; assumption) | (simp [*]; (first | done | fail))) | (conv => lhs; simp only [List.drop_succ_cons, List.drop_zero, List.take_succ_cons, List.take_zero])) (by first | rfl | assumption | (refine (ints_len _).trans ?_; assumption) | (simp [*]; (first | done | fail))))) (Ent.nil _) ⟨rfl, rfl, rfl⟩
        · rw [longOf_bad hno]
          refine zA rfl ?_; refine zO rfl (Rd.extract rfl rfl) ?_; refine zO rfl (Rd.extract rfl rfl) ?_; refine zO rfl Rd.asg ?_; refine zO rfl Rd.asg ?_; refine zN (zT (zS (zS (zR (zA rfl ?_))))); refine zO rfl (Rd.neqIfT err_if.choose_spec rfl) ?_; refine zA rfl ?_
          first | (refine zG ?_; refine zA rfl ?_) | refine zH ?_
          first | refine zH ?_
          first | (refine zG ?_; refine zA rfl ?_) | refine zH ?_
          first | (refine zG ?_; refine zO rfl (Rd.neqs rfl rfl) ?_) | refine zH ?_
          refine zO rfl zP ?_; refine zN (zT (XA.condT rfl rfl (zS (zR ?_))))
          refine zO rfl (Rd.bl (fun _ _ => tyrow) rfl rfl rfl) ?_
          refine XOA.wr0 rfl (WrA.st (tyrow rfl) rfl) ?_
          rintro _ _ _ ⟨rfl, rfl, rfl⟩
          refine zO rfl Rd.asg ?_; refine zN (zT (XA.ret (DA.thn_ret ?_)))
          exact bodyA.ret (ResA.ctT rfl rfl rfl (Ld.atBlk (tyrow rfl) rfl zL rfl (by first | exact take0 (by first | rfl | assumption | (refine (ints_len _).trans ?_; assumption) | (simp [*]; (first | done | fail))) | assumption | exact take_app (by first | rfl | assumption | (refine (ints_len _).trans ?_; assumption) | (simp [*]; (first | done | fail))) | (conv => lhs; simp only [List.drop_succ_cons, List.drop_zero, List.take_succ_cons, List.take_zero])) (by first | rfl | assumption | (refine (ints_len _).trans ?_; assumption) | (simp [*]; (first | done | fail))))) (Ent.nil _) ⟨rfl, rfl, rfl⟩

    · have e : oneT s i = none := by rw [oneT, if_neg h12, if_neg hl', if_neg hd]
      have hq : digitB (byteAt s i) = false := by
        cases h : digitB (byteAt s i) with
        | true => exact absurd (.inl h) hd
        | false => rfl
      have h45 : (byteAt s i : Int) ≠ 45 := fun h => hd (.inr (by omega))
      rw [hq] at hdig
      rw [e]
      refine XOA.wr0 rfl (WrA.cE (hlet) rfl) ?_
      rintro _ _ _ ⟨_, ⟨rfl, rfl, rfl⟩, rfl⟩
      refine XOA.cl ?_; refine zO rfl Rd.asg ?_; refine zN (zT (XA.condF rfl rfl (zS (zR (zA rfl ?_)))))
      refine XOA.wr0 rfl (WrA.cE (hdig) rfl) ?_
      rintro _ _ _ ⟨_, ⟨rfl, rfl, rfl⟩, rfl⟩
      refine XOA.cl ?_; refine zO rfl zJ ?_; refine zA rfl ?_
      first | (refine zG ?_; refine zA rfl ?_) | refine zH ?_
      first | (refine zG ?_; refine zO rfl (Rd.neq rfl rfl) ?_) | refine zH ?_
      refine zO rfl zP ?_; refine zO rfl Rd.asg ?_; refine zN (zT (XA.condT rfl (by first | rfl | exact decide_eq_true h45) ?_)); refine zS (zR ?_)
      refine zO rfl (Rd.bl (fun _ _ => tyrow) rfl rfl rfl) ?_
      refine XOA.wr0 rfl (WrA.st (tyrow rfl) rfl) ?_
      rintro _ _ _ ⟨rfl, rfl, rfl⟩
      refine zO rfl Rd.asg ?_; refine zN (zT (XA.ret (DA.inb_ret (DA.thn_ret ?_))))
      exact bodyA.ret (ResA.ctT rfl rfl rfl (Ld.atBlk (tyrow rfl) rfl zL rfl (by first | exact take0 (by first | rfl | assumption | (refine (ints_len _).trans ?_; assumption) | (simp [*]; (first | done | fail))) | assumption | exact take_app (by first | rfl | assumption | (refine (ints_len _).trans ?_; assumption) | (simp [*]; (first | done | fail))) | (conv => lhs; simp only [List.drop_succ_cons, List.drop_zero, List.take_succ_cons, List.take_zero])) (by first | rfl | assumption | (refine (ints_len _).trans ?_; assumption) | (simp [*]; (first | done | fail))))) (Ent.nil _) ⟨rfl, rfl, rfl⟩
end Go.Proofs.YthefnnkmpcgcmaaDoor

namespace Go.Proofs.YthefnnkmpcgcmaaDoor
open Go X
set_option maxHeartbeats 2000000
def scanG (s : ByteArray) : Nat → Nat → List Tk → Except Nat (List Tk)
  | 0, _, acc => .ok acc
  | f + 1, i, acc => if i < s.size then match oneT s i with
      | some t => scanG s f (i + t.text.size + runB blankB s (i + t.text.size)) (acc ++ [t])
      | none => .error i
    else .ok acc
abbrev PErr (α : Type) := Except (Int × Int) α
def errC {α : Type} : PErr α → Int | .error e => e.1 | .ok _ => 0
def errA {α : Type} : PErr α → Int | .error e => e.2 | .ok _ => 0
def okL {α : Type} : PErr (List α) → List α | .error _ => [] | .ok l => l
def scanE : Except Nat (List Tk) → PErr (List Tk)
  | .ok l => .ok l
  | .error i => .error (7, (i : Int))
def scanP (s : ByteArray) : PErr (List Tk) := if 6000 < s.size then .error (3, 6000) else scanE (scanG s (s.size + 1) (runB blankB s 0) [])
theorem oneT_size {s : ByteArray} {i : Nat} {t : Tk} (hi : i < s.size) (h : oneT s i = some t) : t.at_ = i ∧ 1 ≤ t.text.size ∧ i + t.text.size ≤ s.size := by
  have hl := runB_le letterB s (i := i) (by omega)
  have hd := runB_le digitB s (i := i + 1) (by omega)
  rw [oneT] at h
  split at h
  · cases h
    refine ⟨rfl, ?_, ?_⟩ <;> simp only [ByteArray.size_extract] <;> omega
  · split at h
    · rename_i hq
      have h1 : runB letterB s i = runB letterB s (i + 1) + 1 := by rw [runB_eq, if_pos ⟨hi, hq⟩]
      cases h
      refine ⟨rfl, ?_, ?_⟩ <;> simp only [ByteArray.size_extract] <;> omega
    · split at h
      · rw [Option.map_eq_some_iff] at h
        obtain ⟨n, -, rfl⟩ := h
        refine ⟨rfl, ?_, ?_⟩ <;> simp only [ByteArray.size_extract] <;> omega
      · cases h
def rTk : RT Tk := fun _ cs t => cs = tkC t
def tksC (l : List Tk) : List Value := (l.map tkC).flatten
theorem tksC_snoc (l : List Tk) (t : Tk) : tksC (l ++ [t]) = tksC l ++ tkC t := by simp [tksC]
theorem rows_tk (σ : PH) (l : List Tk) : Rows_ 4 rTk σ (l.map tkC) l :=
  ⟨by simp, fun r hr => by obtain ⟨i, -, rfl⟩ := List.mem_map.1 hr; rfl, fun k r x hr hx => by rw [List.getElem?_map, hx] at hr; simpa [rTk] using hr.symm⟩
theorem scan_t (σ : PH) (s : ByteArray) (hs : s.size ≤ 100000000) (hT : Tab σ) (hE : Errs σ) :
    CallsA Tryd.prog 17 #[.string s] σ [] (RetA fun v σ' Γ' => ∃ sl, v = .tuple #[sl, .agg #[i64 (errC (scanP s)), i64 (errA (scanP s))]] ∧ PSl 4 rTk σ' sl (okL (scanP s)) ∧ σ.sub σ' ∧ Γ' = []) := by
  by_cases h6 : 6000 < s.size
  · have e : scanP s = .error (3, 6000) := by rw [scanP, if_pos h6]
    rw [e]
    refine enterA1 Tryd.func17 rfl rfl rfl ?_
    refine zS (zR (zO rfl Rd.asg ?_))
    refine XOA.wr0 rfl (WrA.alloc (tyrow rfl)) ?_
    rintro _ _ _ ⟨g3, rfl, rfl, rfl⟩
    refine zN (zT (zS (zS (zR (zA rfl ?_))))); refine zO rfl (Rd.lenString (tyrow rfl) rfl rfl) ?_; refine zO rfl (Rd.gtr rfl rfl) ?_; refine zN (zT (XA.condT rfl (by first | rfl | exact decide_eq_true (by omega)) ?_)); refine zS (zR ?_)
    refine zO rfl (Rd.bl (fun _ _ => tyrow) rfl rfl rfl) ?_
    refine zO rfl Rd.asg ?_
    refine XOA.wr0 rfl (WrA.st (tyrow rfl) rfl) ?_
    rintro _ _ _ ⟨rfl, rfl, rfl⟩
    refine zN (zT (XA.ret (DA.thn_ret ?_)))
    exact bodyA.ret (ResA.tcT rfl rfl rfl (Ld.atBlk (tyrow rfl) rfl zL rfl (by first | exact take0 (by first | rfl | assumption | (refine (ints_len _).trans ?_; assumption) | (simp [*]; (first | done | fail))) | assumption | exact take_app (by first | rfl | assumption | (refine (ints_len _).trans ?_; assumption) | (simp [*]; (first | done | fail))) | (conv => lhs; simp only [List.drop_succ_cons, List.drop_zero, List.take_succ_cons, List.take_zero])) (by first | rfl | assumption | (refine (ints_len _).trans ?_; assumption) | (simp [*]; (first | done | fail))))) (Ent.nil _) ⟨_, rfl, PSl.nil _ _ _, .refl _, rfl⟩
  have h0 := runB_le blankB s (i := 0) (by omega)
  have hb0 := run_t σ s 0 34 blankB blank_t (by omega) hs
  obtain ⟨R, hR⟩ : ∃ R, scanG s (s.size + 1) (runB blankB s 0) [] = R := ⟨_, rfl⟩
  have hP : scanP s = scanE R := by rw [scanP, if_neg h6, hR]
  refine enterA1 Tryd.func17 rfl rfl rfl ?_
  refine zS (zR (zO rfl Rd.asg ?_))
  refine XOA.wr0 rfl (WrA.alloc (tyrow rfl)) ?_
  rintro _ _ _ ⟨g3, rfl, rfl, rfl⟩
  refine zN (zT (zS (zS (zR (zA rfl ?_))))); refine zO rfl (Rd.lenString (tyrow rfl) rfl rfl) ?_; refine zO rfl (Rd.gtr rfl rfl) ?_; refine zN (zT (XA.condF rfl (by first | rfl | exact decide_eq_false (by omega)) ?_)); refine XA.skip (zT (zS (zR (zO rfl Rd.asg ?_))))
  refine zN (zT (zS (zS (zR (zA rfl ?_)))))
  refine XOA.wr0 rfl (WrA.cE (hb0) rfl) ?_
  rintro _ _ _ ⟨_, ⟨rfl, rfl, rfl⟩, rfl⟩
  refine XOA.cl ?_; refine zO rfl Rd.asg ?_; refine zN (zT (XA.block ?_))
  refine XA.ent (Ent.selNil (e := 41) (size := 4) (Ent.refl _)) ?_
  refine XA.gen [(0, _), (2, _), (3, _), (4, _), (5, _)] ⟨(by with_reducible (conv => lhs; whnf)), (by with_reducible (conv => lhs; whnf)), (by with_reducible (conv => lhs; whnf)), (by with_reducible (conv => lhs; whnf)), (by with_reducible (conv => lhs; whnf)), trivial⟩ (fun δ => ?_)
  dsimp only [List.foldl]
  refine XA.loop [(2, 2), (4, 7), (14, 42)] (fun x : (Nat × (Nat × List Tk)) × (Option Addr × Nat) => [(5, i64 x.1.1), (4, .slice x.2.1 x.1.2.1 x.2.2)]) (fun x σ' Γ' => σ = σ' ∧ x.1.1 ≤ s.size ∧ x.1.2.1 ≤ x.1.1 ∧ x.1.2.2.length = x.1.2.1 ∧ (∃ f, s.size < x.1.1 + f ∧ R = scanG s f x.1.1 x.1.2.2) ∧ Γ' = [blk g3 [i64 0, i64 0] 30, lst 41 4 (.slice x.2.1 x.1.2.1 x.2.2) x.1.2.1 (tksC x.1.2.2)]) (fun x => s.size - x.1.1) ((runB blankB s 0, (0, [])), (none, 0)) (by exact ⟨rfl, rfl, trivial⟩) (Δ0 := _) ?_ (⟨rfl, by simpa using h0, Nat.zero_le _, rfl, ⟨s.size + 1, by simp only; omega, hR.symm⟩, rfl⟩) ?_
  · exact zE
  rintro ⟨⟨i, n, acc⟩, p, c⟩ δ _ _ ⟨rfl, hi, hn, hacc, ⟨f, hf, hRf⟩, rfl⟩
  dsimp only [ovr, List.foldl]
  simp only at hi hn hacc hf hRf
  refine zS (zS (zR (zA rfl ?_))); refine zA rfl ?_; refine zO rfl (Rd.lenString (tyrow rfl) rfl rfl) ?_; refine zO rfl (Rd.lss rfl rfl) ?_; refine zN (zT ?_)
  refine XA.condp rfl (fun hlt => ?_) (fun hlt => ?_)
  · have hlt : i < s.size := by omega
    have hone := one_tok σ s i hlt hs hT hE
    obtain ⟨f, rfl⟩ : ∃ f', f = f' + 1 := ⟨f - 1, by omega⟩
    rw [scanG, if_pos hlt] at hRf
    refine XA.skip (zT (zS (XA.block (zS (zR (zA rfl ?_)))))); refine zA rfl ?_
    cases ho : oneT s i with
    | none =>
      rw [ho] at hone hRf
      dsimp only [oneC] at hone
      simp only at hRf
      subst hRf
      rw [hP]
      refine XOA.wr0 rfl (WrA.cE (hone) rfl) ?_
      rintro _ _ _ ⟨_, ⟨rfl, rfl, rfl⟩, rfl⟩
      refine XOA.cl ?_; refine zA rfl ?_; refine zO rfl (Rd.extract rfl rfl) ?_; refine zO rfl (Rd.extract rfl rfl) ?_
      refine XOA.wr0 rfl (WrA.alloc (tyrow rfl)) ?_
      rintro _ _ _ ⟨g6, rfl, rfl, rfl⟩
      refine XOA.wr0 rfl (WrA.st (tyrow rfl) rfl) ?_
      rintro _ _ _ ⟨rfl, rfl, rfl⟩
      refine zO rfl Rd.asg ?_; refine zN (zT (zS (zS (zR (zA rfl ?_))))); refine zO rfl (Rd.neq rfl rfl) ?_; refine zN (zT (XA.condT rfl rfl (zS (zR (zA rfl ?_))))); refine zA rfl ?_
      refine zO rfl (Rd.bl (fun _ _ => tyrow) rfl rfl rfl) ?_
      refine zO rfl Rd.asg ?_
      refine XOA.wr0 rfl (WrA.st (tyrow rfl) rfl) ?_
      rintro _ _ _ ⟨rfl, rfl, rfl⟩
      refine zN (zT (XA.ret (DA.thn_ret (DA.inb_ret (DA.thn_ret (DA.thn_ret (DA.inb_ret (DA.thn_ret ?_))))))))
      exact bodyA.ret (ResA.tcT rfl rfl rfl (Ld.atBlk (tyrow rfl) rfl zL rfl (by first | exact take0 (by first | rfl | assumption | (refine (ints_len _).trans ?_; assumption) | (simp [*]; (first | done | fail))) | assumption | exact take_app (by first | rfl | assumption | (refine (ints_len _).trans ?_; assumption) | (simp [*]; (first | done | fail))) | (conv => lhs; simp only [List.drop_succ_cons, List.drop_zero, List.take_succ_cons, List.take_zero])) (by first | rfl | assumption | (refine (ints_len _).trans ?_; assumption) | (simp [*]; (first | done | fail))))) (Ent.nil _) ⟨_, rfl, PSl.nil _ _ _, .refl _, rfl⟩
    | some t =>
      obtain ⟨hat, hz1, hz2⟩ := oneT_size hlt ho
      rw [ho] at hone hRf
      dsimp only [oneC, tkC] at hone
      simp only at hRf
      have hle := runB_le blankB s (i := i + t.text.size) hz2
      have hbl := run_t σ s (i + t.text.size) 34 blankB blank_t hz2 hs
      refine XOA.wr0 rfl (WrA.cE (hone) rfl) ?_
      rintro _ _ _ ⟨_, ⟨rfl, rfl, rfl⟩, rfl⟩
      refine XOA.cl ?_; refine zA rfl ?_; refine zO rfl (Rd.extract rfl rfl) ?_; refine zO rfl (Rd.extract rfl rfl) ?_
      refine XOA.wr0 rfl (WrA.alloc (tyrow rfl)) ?_
      rintro _ _ _ ⟨g6, rfl, rfl, rfl⟩
      refine XOA.wr0 rfl (WrA.st (tyrow rfl) rfl) ?_
      rintro _ _ _ ⟨rfl, rfl, rfl⟩
      refine zO rfl Rd.asg ?_; refine zN (zT (zS (zS (zR (zA rfl ?_))))); refine zO rfl (Rd.neq rfl rfl) ?_; refine zN (zT (XA.condF rfl rfl (XA.skip (zT (zS (zR (zA rfl ?_))))))); refine zO rfl (Rd.ldA rfl) ?_
      refine XOA.wr0 rfl (WrA.bs1 (tyrow rfl) rfl (tyrow rfl)) ?_
      rintro _ _ _ ⟨g36, rfl, rfl, rfl⟩
      refine XOA.wr0 rfl (WrA.ap1 (tyrow rfl) rfl (tyrow rfl) rfl rfl rfl) ?_
      rintro _ _ _ ⟨p37, c37, rfl, rfl, rfl⟩
      refine zO rfl Rd.asg ?_; refine zN (zT (zR (zA rfl ?_))); refine zV rfl rfl ?_; refine zB rfl rfl (tyrow rfl) rfl ?_; refine zO rfl (Rd.lenString (tyrow rfl) rfl rfl) ?_; refine zO rfl zI ?_; refine zO rfl Rd.asg ?_; refine zN (DA.inb_normal (zT (zR (zA rfl ?_)))); refine zA rfl ?_; refine zA rfl ?_
      refine XOA.wr0 rfl (WrA.cE (hbl) rfl) ?_
      rintro _ _ _ ⟨_, ⟨rfl, rfl, rfl⟩, rfl⟩
      refine XOA.cl ?_; refine zO rfl zI ?_; refine zO rfl Rd.asg ?_; refine zN (zT ?_)
      refine ⟨(Keep.upd (Keep.upd (Keep.updO (Keep.upd (Keep.upd (Keep.upd (Keep.upd (Keep.upd (Keep.upd (Keep.upd (Keep.upd (Keep.upd (Keep.upd (Keep.updO (Keep.updO (Keep.upd (Keep.upd (Keep.upd (Keep.upd (Keep.upd (Keep.updN (Keep.updO (Keep.upd (Keep.upd (Keep.upd (Keep.updO (Keep.upd (Keep.upd (Keep.upd (Keep.upd (Keep.upd (Keep.upd (Keep.upd (Keep.upd (Keep.hav (Keep.hav (Keep.hav (Keep.refl _ _) rfl) rfl) rfl) rfl) rfl) rfl) rfl) rfl) rfl) rfl) rfl) rfl) rfl) rfl) rfl) rfl)) rfl) rfl) rfl) rfl) rfl) rfl) rfl) rfl) rfl) rfl) rfl) rfl) rfl) rfl) rfl) rfl) rfl) rfl) rfl) rfl), ((i + t.text.size + runB blankB s (i + t.text.size), (n + 1, acc ++ [t])), (p37, c37)), _, zM, ?_, ⟨rfl, hle, by show n + 1 ≤ i + t.text.size + runB blankB s (i + t.text.size); omega, by show (acc ++ [t]).length = n + 1; rw [List.length_append, hacc]; rfl, ⟨f, by show s.size < i + t.text.size + runB blankB s (i + t.text.size) + f; omega, hRf⟩, rfl⟩, (by show s.size - (i + t.text.size + runB blankB s (i + t.text.size)) < s.size - i; omega)⟩
      · rw [tksC_snoc]; exact zE
  have hRe : R = .ok acc := by
    rw [hRf]
    cases f with
    | zero => rfl
    | succ f => rw [scanG, if_neg (by omega)]
  refine XA.exit (DA.thn_exit (DA.thn_exit (DA.inb_same (zT (zS (zR (zA rfl ?_)))))))
  refine zO rfl (Rd.bl (fun _ _ => tyrow) rfl rfl rfl) ?_
  refine zO rfl Rd.asg ?_
  refine XOA.wr0 rfl (WrA.st (tyrow rfl) rfl) ?_
  rintro _ _ _ ⟨rfl, rfl, rfl⟩
  refine zN (zT (XA.ret ?_))
  refine DA.frz (R := lst 41 4 (.slice p n c) _ _) zL lst_frz lst_frz_mono ?_
  rintro σ1 ⟨⟩ hf1 hs1
  rw [hP, hRe]
  exact bodyA.ret (ResA.tcT rfl rfl rfl (Ld.atBlk (tyrow rfl) rfl zL rfl (by first | exact take0 (by first | rfl | assumption | (refine (ints_len _).trans ?_; assumption) | (simp [*]; (first | done | fail))) | assumption | exact take_app (by first | rfl | assumption | (refine (ints_len _).trans ?_; assumption) | (simp [*]; (first | done | fail))) | (conv => lhs; simp only [List.drop_succ_cons, List.drop_zero, List.take_succ_cons, List.take_zero])) (by first | rfl | assumption | (refine (ints_len _).trans ?_; assumption) | (simp [*]; (first | done | fail))))) (Ent.nil _) ⟨_, rfl, (rows_tk σ1 acc).psl hacc.symm hf1, hs1, rfl⟩
end Go.Proofs.YthefnnkmpcgcmaaDoor

namespace Go.Proofs.YthefnnkmpcgcmaaDoor
open Go X
set_option maxHeartbeats 4000000
def scanB (s : ByteArray) : Nat → Nat → List Tk → Except Nat (List Tk)
  | 0, _, acc => .ok acc
  | f + 1, i, acc => if i < s.size then (if blankB (byteAt s i) = true then scanB s f (i + 1) acc else match oneT s i with
      | some t => scanB s f (i + t.text.size) (acc ++ [t])
      | none => .error i)
    else .ok acc
theorem scanG_end (s : ByteArray) (f i : Nat) (acc : List Tk) (h : ¬ i < s.size) : scanG s f i acc = .ok acc := by
  cases f with
  | zero => rfl
  | succ f => rw [scanG, if_neg h]
theorem scanB_eq (s : ByteArray) : ∀ (f i : Nat) (acc : List Tk) (f' : Nat), s.size < i + f → s.size < i + runB blankB s i + f' → scanB s f i acc = scanG s f' (i + runB blankB s i) acc
  | 0, i, acc, f', h, _ => by rw [scanB, scanG_end _ _ _ _ (by omega)]
  | f + 1, i, acc, f', h, h' => by
    rw [scanB]
    by_cases hi : i < s.size
    · rw [if_pos hi]
      by_cases hb : blankB (byteAt s i) = true
      · have e : runB blankB s i = runB blankB s (i + 1) + 1 := by rw [runB_eq, if_pos ⟨hi, hb⟩]
        rw [if_pos hb, e, show i + (runB blankB s (i + 1) + 1) = i + 1 + runB blankB s (i + 1) by omega]
        exact scanB_eq s f (i + 1) acc f' (by omega) (by omega)
      · have e : runB blankB s i = 0 := runB_end (fun x => hb x.2)
        simp only [e, Nat.add_zero] at h' ⊢
        obtain ⟨g, rfl⟩ : ∃ g, f' = g + 1 := ⟨f' - 1, by omega⟩
        rw [if_neg hb, scanG, if_pos hi]
        cases ho : oneT s i with
        | none => rfl
        | some t =>
          obtain ⟨-, h1, h2⟩ := oneT_size hi ho
          exact scanB_eq s f (i + t.text.size) (acc ++ [t]) g (by omega) (by omega)
    · rw [if_neg hi, scanG_end _ _ _ _ (by omega)]
theorem rF_t (σ : PH) (a b : Int) : CallsA Tryd.prog 22 #[i64 a, i64 b] σ [] (RetA fun v σ' Γ' => v = .agg #[i64 a, i64 b] ∧ σ = σ' ∧ Γ' = []) := by
  refine enterA2 Tryd.func22 rfl rfl rfl ?_
  refine zS (zR ?_)
  refine XOA.wr0 rfl (WrA.alloc (tyrow rfl)) ?_
  rintro _ _ _ ⟨g4, rfl, rfl, rfl⟩
  refine zN (zT (zS (zR (zA rfl ?_)))); refine zA rfl ?_
  refine zO rfl (Rd.bl (fun _ _ => tyrow) rfl rfl rfl) ?_
  refine XOA.wr0 rfl (WrA.st (tyrow rfl) rfl) ?_
  rintro _ _ _ ⟨rfl, rfl, rfl⟩
  refine zN (zT (XA.ret ?_))
  exact bodyA.ret (ResA.cellT rfl rfl (Ld.atBlk (tyrow rfl) rfl zL rfl (by first | exact take0 (by first | rfl | assumption | (refine (ints_len _).trans ?_; assumption) | (simp [*]; (first | done | fail))) | assumption | exact take_app (by first | rfl | assumption | (refine (ints_len _).trans ?_; assumption) | (simp [*]; (first | done | fail))) | (conv => lhs; simp only [List.drop_succ_cons, List.drop_zero, List.take_succ_cons, List.take_zero])) (by first | rfl | assumption | (refine (ints_len _).trans ?_; assumption) | (simp [*]; (first | done | fail))))) (Ent.nil _) ⟨rfl, rfl, rfl⟩
theorem rlong_t (σ : PH) (s : ByteArray) (hs : s.size ≤ 100000000) (hT : Tab σ) (hE : Errs σ) :
    CallsA Tryd.prog 38 #[.string s] σ [] (RetA fun v σ' Γ' => v = (match longOf s with | some n => .tuple #[i64 n, .bool true] | none => .tuple #[i64 0, .bool false]) ∧ σ = σ' ∧ Γ' = []) := by
  have hpar := parse_a σ s hs hE
  refine enterA1 Tryd.func38 rfl rfl rfl ?_
  refine zS (zR (zO rfl Rd.asg ?_)); refine zO rfl Rd.asg ?_; refine zN (zT (zS (zR (zA rfl ?_))))
  refine XOA.wr0 rfl (WrA.cE (hpar) rfl) ?_
  rintro v _ _ ⟨_, ⟨hnum, rfl, rfl⟩, rfl⟩
  refine XOA.cl ?_
  rcases hnum with ⟨n, hn, rfl⟩ | ⟨hno, n, a, rfl⟩
  · obtain ⟨hn0, hn1⟩ := parse_bounds hn
    rw [longOf_ok hn]
    refine zA rfl ?_; refine zO rfl (Rd.extract rfl rfl) ?_; refine zO rfl (Rd.extract rfl rfl) ?_; refine zO rfl Rd.asg ?_; refine zO rfl Rd.asg ?_; refine zN (zT (zS (zS (zR (zA rfl ?_))))); refine zO rfl (Rd.neqIfF err_if.choose_spec rfl) ?_; refine zA rfl ?_
    first | (refine zG ?_; refine zA rfl ?_) | refine zH ?_
    first | refine XOA.wanted rfl rfl ?_ | refine XOA.wq rfl rfl ?_
    refine XOA.wr0 rfl (WrA.cE (itoa_a σ n hn0 hn1 hT) rfl) ?_
    rintro _ _ _ ⟨_, ⟨rfl, rfl, rfl⟩, rfl⟩
    refine XOA.cl ?_
    first | (refine zG ?_; refine zA rfl ?_) | refine zH ?_
    first | (refine zG ?_; refine zO rfl (Rd.neqs rfl rfl) ?_) | refine zH ?_
    refine zO rfl zP ?_; refine zN (zT ?_)
    by_cases hq : itoaS n = s
    · have hq' : ¬ (itoaS n ≠ s) := fun h => h hq
      rw [if_pos hq]
      refine XA.condF rfl (by first | rfl | exact decide_eq_false hq') ?_; refine XA.skip (zT (zS (zR (zA rfl ?_)))); refine zO rfl Rd.asg ?_; refine zO rfl Rd.asg ?_; refine zN (zT (XA.ret ?_))
      exact bodyA.ret (ResA.two rfl rfl rfl) (Ent.nil _) ⟨rfl, rfl, rfl⟩
    · rw [if_neg hq]
      refine XA.condT rfl (by first | rfl | exact decide_eq_true hq) ?_; refine zS (zR (zO rfl Rd.asg ?_)); refine zO rfl Rd.asg ?_; refine zN (zT (XA.ret (DA.thn_ret ?_)))
      exact bodyA.ret (ResA.two rfl rfl rfl) (Ent.nil _) ⟨rfl, rfl, rfl⟩
  · rw [longOf_bad hno]
    refine zA rfl ?_; refine zO rfl (Rd.extract rfl rfl) ?_; refine zO rfl (Rd.extract rfl rfl) ?_; refine zO rfl Rd.asg ?_; refine zO rfl Rd.asg ?_; refine zN (zT (zS (zS (zR (zA rfl ?_))))); refine zO rfl (Rd.neqIfT err_if.choose_spec rfl) ?_; refine zA rfl ?_
    first | (refine zG ?_; refine zA rfl ?_) | refine zH ?_
    first | refine zH ?_
    first | (refine zG ?_; refine zA rfl ?_) | refine zH ?_
    first | (refine zG ?_; refine zO rfl (Rd.neqs rfl rfl) ?_) | refine zH ?_
    refine zO rfl zP ?_; refine zN (zT (XA.condT rfl rfl (zS (zR (zO rfl Rd.asg ?_))))); refine zO rfl Rd.asg ?_; refine zN (zT (XA.ret (DA.thn_ret ?_)))
    exact bodyA.ret (ResA.two rfl rfl rfl) (Ent.nil _) ⟨rfl, rfl, rfl⟩
theorem rlong_some (σ : PH) {s : ByteArray} {m : Int} (hs : s.size ≤ 100000000) (hT : Tab σ) (hE : Errs σ) (h : longOf s = some m) :
    CallsA Tryd.prog 38 #[.string s] σ [] (RetA fun v σ' Γ' => v = .tuple #[i64 m, .bool true] ∧ σ = σ' ∧ Γ' = []) := by
  have := rlong_t σ s hs hT hE
  rw [h] at this
  exact this
theorem rlong_none (σ : PH) {s : ByteArray} (hs : s.size ≤ 100000000) (hT : Tab σ) (hE : Errs σ) (h : longOf s = none) :
    CallsA Tryd.prog 38 #[.string s] σ [] (RetA fun v σ' Γ' => v = .tuple #[i64 0, .bool false] ∧ σ = σ' ∧ Γ' = []) := by
  have := rlong_t σ s hs hT hE
  rw [h] at this
  exact this
theorem rscan_t (σ : PH) (s : ByteArray) (hs : s.size ≤ 100000000) (hT : Tab σ) (hE : Errs σ) :
    CallsA Tryd.prog 18 #[.string s] σ [] (RetA fun v σ' Γ' => ∃ sl, v = .tuple #[sl, .agg #[i64 (errC (scanP s)), i64 (errA (scanP s))]] ∧ PSl 4 rTk σ' sl (okL (scanP s)) ∧ σ.sub σ' ∧ Γ' = []) := by
  by_cases h6 : 6000 < s.size
  · have e : scanP s = .error (3, 6000) := by rw [scanP, if_pos h6]
    rw [e]
    refine enterA1 Tryd.func18 rfl rfl rfl ?_
    refine zS (zR (zO rfl Rd.asg ?_))
    refine XOA.wr0 rfl (WrA.alloc (tyrow rfl)) ?_
    rintro _ _ _ ⟨g3, rfl, rfl, rfl⟩
    refine zN (zT (zS (zS (zR (zA rfl ?_))))); refine zO rfl (Rd.lenString (tyrow rfl) rfl rfl) ?_; refine zO rfl (Rd.gtr rfl rfl) ?_; refine zN (zT (XA.condT rfl (by first | rfl | exact decide_eq_true (by omega)) ?_)); refine zS (zR ?_)
    refine XOA.wr0 rfl (WrA.cE (rF_t σ 3 6000) rfl) ?_
    rintro _ _ _ ⟨_, ⟨rfl, rfl, rfl⟩, rfl⟩
    refine XOA.cl ?_; refine zO rfl Rd.asg ?_
    refine XOA.wr0 rfl (WrA.st (tyrow rfl) rfl) ?_
    rintro _ _ _ ⟨rfl, rfl, rfl⟩
    refine zN (zT (XA.ret (DA.thn_ret ?_)))
    exact bodyA.ret (ResA.tcT rfl rfl rfl (Ld.atBlk (tyrow rfl) rfl zL rfl (by first | exact take0 (by first | rfl | assumption | (refine (ints_len _).trans ?_; assumption) | (simp [*]; (first | done | fail))) | assumption | exact take_app (by first | rfl | assumption | (refine (ints_len _).trans ?_; assumption) | (simp [*]; (first | done | fail))) | (conv => lhs; simp only [List.drop_succ_cons, List.drop_zero, List.take_succ_cons, List.take_zero])) (by first | rfl | assumption | (refine (ints_len _).trans ?_; assumption) | (simp [*]; (first | done | fail))))) (Ent.nil _) ⟨_, rfl, PSl.nil _ _ _, .refl _, rfl⟩
  have h0 := runB_le blankB s (i := 0) (by omega)
  obtain ⟨R, hR⟩ : ∃ R, scanB s (s.size + 1) 0 [] = R := ⟨_, rfl⟩
  have hP : scanP s = scanE R := by
    have := scanB_eq s (s.size + 1) 0 [] (s.size + 1) (by omega) (by omega)
    rw [Nat.zero_add] at this
    rw [scanP, if_neg h6, ← this, hR]
  refine enterA1 Tryd.func18 rfl rfl rfl ?_
  refine zS (zR (zO rfl Rd.asg ?_))
  refine XOA.wr0 rfl (WrA.alloc (tyrow rfl)) ?_
  rintro _ _ _ ⟨g3, rfl, rfl, rfl⟩
  refine zN (zT (zS (zS (zR (zA rfl ?_))))); refine zO rfl (Rd.lenString (tyrow rfl) rfl rfl) ?_; refine zO rfl (Rd.gtr rfl rfl) ?_; refine zN (zT (XA.condF rfl (by first | rfl | exact decide_eq_false (by omega)) ?_)); refine XA.skip (zT (zS (zR (zO rfl Rd.asg ?_))))
  refine zN (zT (zS (zR (zO rfl Rd.asg ?_)))); refine zN (zT (zS (XA.block ?_)))
  refine XA.ent (Ent.selNil (e := 42) (size := 4) (Ent.refl _)) ?_
  refine XA.gen [(0, _), (2, _), (3, _), (4, _), (5, _)] ⟨(by with_reducible (conv => lhs; whnf)), (by with_reducible (conv => lhs; whnf)), (by with_reducible (conv => lhs; whnf)), (by with_reducible (conv => lhs; whnf)), (by with_reducible (conv => lhs; whnf)), trivial⟩ (fun δ => ?_)
  dsimp only [List.foldl]
  refine XA.loop [(2, 2), (4, 9), (14, 121)] (fun x : (Nat × (Nat × List Tk)) × (Option Addr × Nat) => [(5, i64 x.1.1), (4, .slice x.2.1 x.1.2.1 x.2.2)]) (fun x σ' Γ' => σ = σ' ∧ x.1.1 ≤ s.size ∧ x.1.2.1 ≤ x.1.1 ∧ x.1.2.2.length = x.1.2.1 ∧ (∃ f, s.size < x.1.1 + f ∧ R = scanB s f x.1.1 x.1.2.2) ∧ Γ' = [blk g3 [i64 0, i64 0] 30, lst 42 4 (.slice x.2.1 x.1.2.1 x.2.2) x.1.2.1 (tksC x.1.2.2)]) (fun x => s.size - x.1.1) ((0, (0, [])), (none, 0)) (by exact ⟨rfl, rfl, trivial⟩) (Δ0 := _) ?_ (⟨rfl, Nat.zero_le _, Nat.zero_le _, rfl, ⟨s.size + 1, by simp only; omega, hR.symm⟩, rfl⟩) ?_
  · exact zE
  rintro ⟨⟨i, n, acc⟩, p, c⟩ δ _ _ ⟨rfl, hi, hn, hacc, ⟨f, hf, hRf⟩, rfl⟩
  dsimp only [ovr, List.foldl]
  simp only at hi hn hacc hf hRf
  by_cases hlt : i < s.size
  · have hb := byteAt_lt s i
    have hrl := rletter_t σ (byteAt s i) hb
    have hrd := rdigit_t σ (byteAt s i) hb
    obtain ⟨f, rfl⟩ : ∃ f', f = f' + 1 := ⟨f - 1, by omega⟩
    rw [scanB, if_pos hlt] at hRf
    by_cases hbl : blankB (byteAt s i) = true
    · rw [if_pos hbl] at hRf
      have hbl' : byteAt s i = 32 ∨ byteAt s i = 9 ∨ byteAt s i = 10 ∨ byteAt s i = 13 := of_decide_eq_true hbl
      rcases hbl' with hc | hc | hc | hc
      · skip
        refine zS (zS (zR (zA rfl ?_))); refine zA rfl ?_; refine zO rfl (Rd.lenString (tyrow rfl) rfl rfl) ?_; refine zO rfl (Rd.lss rfl rfl) ?_; refine zN (zT (XA.condT rfl (by first | rfl | exact decide_eq_true (by omega)) ?_)); refine XA.skip (zT (XA.block (zS (zR (zA rfl ?_))))); refine zA rfl ?_
        refine zO rfl (Rd.indexStr (tyrow rfl) rfl rfl rfl (by first | omega | decide | (simp; omega))) ?_
        refine zO rfl Rd.asg ?_; refine zN (zT (zS (zR (zA rfl ?_)))); refine zO rfl zI ?_; refine zO rfl Rd.asg ?_; refine zN (zT (zS (XA.block (zS (zR (zA rfl ?_)))))); refine zO rfl (Rd.eql rfl rfl) ?_; refine zA rfl ?_
        first | (refine zG ?_; refine zA rfl ?_) | refine zH ?_
        first | (refine zG ?_; refine zO rfl (Rd.eql rfl rfl) ?_) | refine zH ?_
        refine zO rfl zP ?_; refine zA rfl ?_
        first | (refine zG ?_; refine zA rfl ?_) | refine zH ?_
        first | (refine zG ?_; refine zO rfl (Rd.eql rfl rfl) ?_) | refine zH ?_
        refine zO rfl zP ?_; refine zA rfl ?_
        first | (refine zG ?_; refine zA rfl ?_) | refine zH ?_
        first | (refine zG ?_; refine zO rfl (Rd.eql rfl rfl) ?_) | refine zH ?_
        refine zO rfl zP ?_; refine zO rfl Rd.asg ?_; refine zN (zT (XA.condT rfl (by first | rfl | exact decide_eq_true (by omega)) ?_)); refine XA.skip (DA.inb_normal (zT (zR (zA rfl ?_)))); refine zO rfl Rd.asg ?_; refine zN (DA.inb_normal (zT ?_))
        refine ⟨(Keep.upd (Keep.upd (Keep.upd (Keep.upd (Keep.upd (Keep.upd (Keep.upd (Keep.upd (Keep.upd (Keep.upd (Keep.upd (Keep.upd (Keep.upd (Keep.upd (Keep.upd (Keep.upd (Keep.upd (Keep.upd (Keep.upd (Keep.upd (Keep.upd (Keep.upd (Keep.upd (Keep.upd (Keep.upd (Keep.upd (Keep.upd (Keep.upd (Keep.upd (Keep.upd (Keep.hav (Keep.hav (Keep.hav (Keep.refl _ _) rfl) rfl) rfl) rfl) rfl) rfl) rfl) rfl) rfl) rfl) rfl) rfl) rfl) rfl) rfl) rfl) rfl) rfl) rfl) rfl) rfl) rfl) rfl) rfl) rfl) rfl) rfl) rfl) rfl) rfl) rfl) rfl) rfl), ((i + 1, (n, acc)), (p, c)), _, zM, ?_, ⟨rfl, hlt, by show n ≤ i + 1; omega, hacc, ⟨f, by show s.size < i + 1 + f; omega, hRf⟩, rfl⟩, (by simp only; omega)⟩
        · exact zE
      · skip
        refine zS (zS (zR (zA rfl ?_))); refine zA rfl ?_; refine zO rfl (Rd.lenString (tyrow rfl) rfl rfl) ?_; refine zO rfl (Rd.lss rfl rfl) ?_; refine zN (zT (XA.condT rfl (by first | rfl | exact decide_eq_true (by omega)) ?_)); refine XA.skip (zT (XA.block (zS (zR (zA rfl ?_))))); refine zA rfl ?_
        refine zO rfl (Rd.indexStr (tyrow rfl) rfl rfl rfl (by first | omega | decide | (simp; omega))) ?_
        refine zO rfl Rd.asg ?_; refine zN (zT (zS (zR (zA rfl ?_)))); refine zO rfl zI ?_; refine zO rfl Rd.asg ?_; refine zN (zT (zS (XA.block (zS (zR (zA rfl ?_)))))); refine zO rfl (Rd.eql rfl rfl) ?_; refine zA rfl ?_
        first | (refine zG ?_; refine zA rfl ?_) | refine zH ?_
        first | (refine zG ?_; refine zO rfl (Rd.eql rfl rfl) ?_) | refine zH ?_
        refine zO rfl zP ?_; refine zA rfl ?_
        first | (refine zG ?_; refine zA rfl ?_) | refine zH ?_
        first | (refine zG ?_; refine zO rfl (Rd.eql rfl rfl) ?_) | refine zH ?_
        refine zO rfl zP ?_; refine zA rfl ?_
        first | (refine zG ?_; refine zA rfl ?_) | refine zH ?_
        first | (refine zG ?_; refine zO rfl (Rd.eql rfl rfl) ?_) | refine zH ?_
        refine zO rfl zP ?_; refine zO rfl Rd.asg ?_; refine zN (zT (XA.condT rfl (by first | rfl | exact decide_eq_true (by omega)) ?_)); refine XA.skip (DA.inb_normal (zT (zR (zA rfl ?_)))); refine zO rfl Rd.asg ?_; refine zN (DA.inb_normal (zT ?_))
        refine ⟨(Keep.upd (Keep.upd (Keep.upd (Keep.upd (Keep.upd (Keep.upd (Keep.upd (Keep.upd (Keep.upd (Keep.upd (Keep.upd (Keep.upd (Keep.upd (Keep.upd (Keep.upd (Keep.upd (Keep.upd (Keep.upd (Keep.upd (Keep.upd (Keep.upd (Keep.upd (Keep.upd (Keep.upd (Keep.upd (Keep.upd (Keep.upd (Keep.upd (Keep.upd (Keep.upd (Keep.hav (Keep.hav (Keep.hav (Keep.refl _ _) rfl) rfl) rfl) rfl) rfl) rfl) rfl) rfl) rfl) rfl) rfl) rfl) rfl) rfl) rfl) rfl) rfl) rfl) rfl) rfl) rfl) rfl) rfl) rfl) rfl) rfl) rfl) rfl) rfl) rfl) rfl) rfl) rfl), ((i + 1, (n, acc)), (p, c)), _, zM, ?_, ⟨rfl, hlt, by show n ≤ i + 1; omega, hacc, ⟨f, by show s.size < i + 1 + f; omega, hRf⟩, rfl⟩, (by simp only; omega)⟩
        · exact zE
      · skip
        refine zS (zS (zR (zA rfl ?_))); refine zA rfl ?_; refine zO rfl (Rd.lenString (tyrow rfl) rfl rfl) ?_; refine zO rfl (Rd.lss rfl rfl) ?_; refine zN (zT (XA.condT rfl (by first | rfl | exact decide_eq_true (by omega)) ?_)); refine XA.skip (zT (XA.block (zS (zR (zA rfl ?_))))); refine zA rfl ?_
        refine zO rfl (Rd.indexStr (tyrow rfl) rfl rfl rfl (by first | omega | decide | (simp; omega))) ?_
        refine zO rfl Rd.asg ?_; refine zN (zT (zS (zR (zA rfl ?_)))); refine zO rfl zI ?_; refine zO rfl Rd.asg ?_; refine zN (zT (zS (XA.block (zS (zR (zA rfl ?_)))))); refine zO rfl (Rd.eql rfl rfl) ?_; refine zA rfl ?_
        first | (refine zG ?_; refine zA rfl ?_) | refine zH ?_
        first | (refine zG ?_; refine zO rfl (Rd.eql rfl rfl) ?_) | refine zH ?_
        refine zO rfl zP ?_; refine zA rfl ?_
        first | (refine zG ?_; refine zA rfl ?_) | refine zH ?_
        first | (refine zG ?_; refine zO rfl (Rd.eql rfl rfl) ?_) | refine zH ?_
        refine zO rfl zP ?_; refine zA rfl ?_
        first | (refine zG ?_; refine zA rfl ?_) | refine zH ?_
        first | (refine zG ?_; refine zO rfl (Rd.eql rfl rfl) ?_) | refine zH ?_
        refine zO rfl zP ?_; refine zO rfl Rd.asg ?_; refine zN (zT (XA.condT rfl (by first | rfl | exact decide_eq_true (by omega)) ?_)); refine XA.skip (DA.inb_normal (zT (zR (zA rfl ?_)))); refine zO rfl Rd.asg ?_; refine zN (DA.inb_normal (zT ?_))
        refine ⟨(Keep.upd (Keep.upd (Keep.upd (Keep.upd (Keep.upd (Keep.upd (Keep.upd (Keep.upd (Keep.upd (Keep.upd (Keep.upd (Keep.upd (Keep.upd (Keep.upd (Keep.upd (Keep.upd (Keep.upd (Keep.upd (Keep.upd (Keep.upd (Keep.upd (Keep.upd (Keep.upd (Keep.upd (Keep.upd (Keep.upd (Keep.upd (Keep.upd (Keep.upd (Keep.upd (Keep.hav (Keep.hav (Keep.hav (Keep.refl _ _) rfl) rfl) rfl) rfl) rfl) rfl) rfl) rfl) rfl) rfl) rfl) rfl) rfl) rfl) rfl) rfl) rfl) rfl) rfl) rfl) rfl) rfl) rfl) rfl) rfl) rfl) rfl) rfl) rfl) rfl) rfl) rfl) rfl), ((i + 1, (n, acc)), (p, c)), _, zM, ?_, ⟨rfl, hlt, by show n ≤ i + 1; omega, hacc, ⟨f, by show s.size < i + 1 + f; omega, hRf⟩, rfl⟩, (by simp only; omega)⟩
        · exact zE
      · skip
        refine zS (zS (zR (zA rfl ?_))); refine zA rfl ?_; refine zO rfl (Rd.lenString (tyrow rfl) rfl rfl) ?_; refine zO rfl (Rd.lss rfl rfl) ?_; refine zN (zT (XA.condT rfl (by first | rfl | exact decide_eq_true (by omega)) ?_)); refine XA.skip (zT (XA.block (zS (zR (zA rfl ?_))))); refine zA rfl ?_
        refine zO rfl (Rd.indexStr (tyrow rfl) rfl rfl rfl (by first | omega | decide | (simp; omega))) ?_
        refine zO rfl Rd.asg ?_; refine zN (zT (zS (zR (zA rfl ?_)))); refine zO rfl zI ?_; refine zO rfl Rd.asg ?_; refine zN (zT (zS (XA.block (zS (zR (zA rfl ?_)))))); refine zO rfl (Rd.eql rfl rfl) ?_; refine zA rfl ?_
        first | (refine zG ?_; refine zA rfl ?_) | refine zH ?_
        first | (refine zG ?_; refine zO rfl (Rd.eql rfl rfl) ?_) | refine zH ?_
        refine zO rfl zP ?_; refine zA rfl ?_
        first | (refine zG ?_; refine zA rfl ?_) | refine zH ?_
        first | (refine zG ?_; refine zO rfl (Rd.eql rfl rfl) ?_) | refine zH ?_
        refine zO rfl zP ?_; refine zA rfl ?_
        first | (refine zG ?_; refine zA rfl ?_) | refine zH ?_
        first | (refine zG ?_; refine zO rfl (Rd.eql rfl rfl) ?_) | refine zH ?_
        refine zO rfl zP ?_; refine zO rfl Rd.asg ?_; refine zN (zT (XA.condT rfl (by first | rfl | exact decide_eq_true (by omega)) ?_)); refine XA.skip (DA.inb_normal (zT (zR (zA rfl ?_)))); refine zO rfl Rd.asg ?_; refine zN (DA.inb_normal (zT ?_))
        refine ⟨(Keep.upd (Keep.upd (Keep.upd (Keep.upd (Keep.upd (Keep.upd (Keep.upd (Keep.upd (Keep.upd (Keep.upd (Keep.upd (Keep.upd (Keep.upd (Keep.upd (Keep.upd (Keep.upd (Keep.upd (Keep.upd (Keep.upd (Keep.upd (Keep.upd (Keep.upd (Keep.upd (Keep.upd (Keep.upd (Keep.upd (Keep.upd (Keep.upd (Keep.upd (Keep.upd (Keep.hav (Keep.hav (Keep.hav (Keep.refl _ _) rfl) rfl) rfl) rfl) rfl) rfl) rfl) rfl) rfl) rfl) rfl) rfl) rfl) rfl) rfl) rfl) rfl) rfl) rfl) rfl) rfl) rfl) rfl) rfl) rfl) rfl) rfl) rfl) rfl) rfl) rfl) rfl) rfl), ((i + 1, (n, acc)), (p, c)), _, zM, ?_, ⟨rfl, hlt, by show n ≤ i + 1; omega, hacc, ⟨f, by show s.size < i + 1 + f; omega, hRf⟩, rfl⟩, (by simp only; omega)⟩
        · exact zE
    rw [if_neg hbl] at hRf
    have hnb : ¬ (byteAt s i = 32 ∨ byteAt s i = 9 ∨ byteAt s i = 10 ∨ byteAt s i = 13) := fun h => hbl (decide_eq_true h)
    by_cases h40 : byteAt s i = 40
    · skip
      have ho : oneT s i = some ⟨i, s.extract i (i + 1), false, 0⟩ := by rw [oneT, if_pos (by omega)]
      have hz : (s.extract i (i + 1)).size = 1 := by rw [ByteArray.size_extract]; omega
      rw [ho] at hRf
      simp only [hz] at hRf
      refine zS (zS (zR (zA rfl ?_))); refine zA rfl ?_; refine zO rfl (Rd.lenString (tyrow rfl) rfl rfl) ?_; refine zO rfl (Rd.lss rfl rfl) ?_; refine zN (zT (XA.condT rfl (by first | rfl | exact decide_eq_true (by omega)) ?_)); refine XA.skip (zT (XA.block (zS (zR (zA rfl ?_))))); refine zA rfl ?_
      refine zO rfl (Rd.indexStr (tyrow rfl) rfl rfl rfl (by first | omega | decide | (simp; omega))) ?_
      refine zO rfl Rd.asg ?_; refine zN (zT (zS (zR (zA rfl ?_)))); refine zO rfl zI ?_; refine zO rfl Rd.asg ?_; refine zN (zT (zS (XA.block (zS (zR (zA rfl ?_)))))); refine zO rfl (Rd.eql rfl rfl) ?_; refine zA rfl ?_
      first | (refine zG ?_; refine zA rfl ?_) | refine zH ?_
      first | (refine zG ?_; refine zO rfl (Rd.eql rfl rfl) ?_) | refine zH ?_
      refine zO rfl zP ?_; refine zA rfl ?_
      first | (refine zG ?_; refine zA rfl ?_) | refine zH ?_
      first | (refine zG ?_; refine zO rfl (Rd.eql rfl rfl) ?_) | refine zH ?_
      refine zO rfl zP ?_; refine zA rfl ?_
      first | (refine zG ?_; refine zA rfl ?_) | refine zH ?_
      first | (refine zG ?_; refine zO rfl (Rd.eql rfl rfl) ?_) | refine zH ?_
      refine zO rfl zP ?_; refine zO rfl Rd.asg ?_; refine zN (zT (XA.condF rfl (by first | rfl | exact decide_eq_false (by omega)) ?_)); refine zS (zR (zA rfl ?_)); refine zO rfl (Rd.eql rfl rfl) ?_; refine zA rfl ?_
      first | (refine zG ?_; refine zA rfl ?_) | refine zH ?_
      first | (refine zG ?_; refine zO rfl (Rd.eql rfl rfl) ?_) | refine zH ?_
      refine zO rfl zP ?_; refine zO rfl Rd.asg ?_; refine zN (zT (XA.condT rfl (by first | rfl | exact decide_eq_true (by omega)) ?_)); refine zR (zA rfl ?_); refine zA rfl ?_; refine zA rfl ?_; refine zA rfl ?_; refine zA rfl ?_; refine zO rfl (Rd.sliceS (tyrow rfl) rfl rfl rfl rfl (by omega) rfl) ?_
      refine zO rfl (Rd.bl (fun _ _ => tyrow) rfl rfl rfl) ?_
      refine XOA.wr0 rfl (WrA.bs1 (tyrow rfl) rfl (tyrow rfl)) ?_
      rintro _ _ _ ⟨g54, rfl, rfl, rfl⟩
      refine XOA.wr0 rfl (WrA.ap1 (tyrow rfl) rfl (tyrow rfl) rfl rfl rfl) ?_
      rintro _ _ _ ⟨p55, c55, rfl, rfl, rfl⟩
      refine zO rfl Rd.asg ?_; refine zN (DA.inb_normal (zT (zR (zA rfl ?_)))); refine zO rfl Rd.asg ?_; refine zN (DA.inb_normal (zT ?_))
      refine ⟨(Keep.upd (Keep.upd (Keep.upd (Keep.updO (Keep.updO (Keep.upd (Keep.upd (Keep.upd (Keep.upd (Keep.upd (Keep.upd (Keep.upd (Keep.upd (Keep.upd (Keep.upd (Keep.upd (Keep.upd (Keep.upd (Keep.upd (Keep.upd (Keep.upd (Keep.upd (Keep.upd (Keep.upd (Keep.upd (Keep.upd (Keep.upd (Keep.upd (Keep.upd (Keep.upd (Keep.upd (Keep.upd (Keep.upd (Keep.upd (Keep.upd (Keep.upd (Keep.upd (Keep.upd (Keep.upd (Keep.upd (Keep.upd (Keep.upd (Keep.upd (Keep.upd (Keep.upd (Keep.upd (Keep.upd (Keep.hav (Keep.hav (Keep.hav (Keep.refl _ _) rfl) rfl) rfl) rfl) rfl) rfl) rfl) rfl) rfl) rfl) rfl) rfl) rfl) rfl) rfl) rfl) rfl) rfl) rfl) rfl) rfl) rfl) rfl) rfl) rfl) rfl) rfl) rfl) rfl) rfl) rfl) rfl) rfl) rfl) rfl) rfl) rfl) rfl) rfl) rfl) rfl) rfl) rfl) rfl) rfl) rfl) rfl) rfl) rfl) rfl), ((i + 1, (n + 1, acc ++ [(⟨i, s.extract i (i + 1), false, 0⟩ : Tk)])), (p55, c55)), _, zM, ?_, ⟨rfl, by show i + 1 ≤ s.size; omega, by show n + 1 ≤ i + 1; omega, by show (acc ++ [(⟨i, s.extract i (i + 1), false, 0⟩ : Tk)]).length = n + 1; rw [List.length_append, hacc]; rfl, ⟨f, by show s.size < i + 1 + f; omega, hRf⟩, rfl⟩, (by show s.size - (i + 1) < s.size - i; omega)⟩
      · rw [tksC_snoc]; exact zE
    by_cases h41 : byteAt s i = 41
    · skip
      have ho : oneT s i = some ⟨i, s.extract i (i + 1), false, 0⟩ := by rw [oneT, if_pos (by omega)]
      have hz : (s.extract i (i + 1)).size = 1 := by rw [ByteArray.size_extract]; omega
      rw [ho] at hRf
      simp only [hz] at hRf
      refine zS (zS (zR (zA rfl ?_))); refine zA rfl ?_; refine zO rfl (Rd.lenString (tyrow rfl) rfl rfl) ?_; refine zO rfl (Rd.lss rfl rfl) ?_; refine zN (zT (XA.condT rfl (by first | rfl | exact decide_eq_true (by omega)) ?_)); refine XA.skip (zT (XA.block (zS (zR (zA rfl ?_))))); refine zA rfl ?_
      refine zO rfl (Rd.indexStr (tyrow rfl) rfl rfl rfl (by first | omega | decide | (simp; omega))) ?_
      refine zO rfl Rd.asg ?_; refine zN (zT (zS (zR (zA rfl ?_)))); refine zO rfl zI ?_; refine zO rfl Rd.asg ?_; refine zN (zT (zS (XA.block (zS (zR (zA rfl ?_)))))); refine zO rfl (Rd.eql rfl rfl) ?_; refine zA rfl ?_
      first | (refine zG ?_; refine zA rfl ?_) | refine zH ?_
      first | (refine zG ?_; refine zO rfl (Rd.eql rfl rfl) ?_) | refine zH ?_
      refine zO rfl zP ?_; refine zA rfl ?_
      first | (refine zG ?_; refine zA rfl ?_) | refine zH ?_
      first | (refine zG ?_; refine zO rfl (Rd.eql rfl rfl) ?_) | refine zH ?_
      refine zO rfl zP ?_; refine zA rfl ?_
      first | (refine zG ?_; refine zA rfl ?_) | refine zH ?_
      first | (refine zG ?_; refine zO rfl (Rd.eql rfl rfl) ?_) | refine zH ?_
      refine zO rfl zP ?_; refine zO rfl Rd.asg ?_; refine zN (zT (XA.condF rfl (by first | rfl | exact decide_eq_false (by omega)) ?_)); refine zS (zR (zA rfl ?_)); refine zO rfl (Rd.eql rfl rfl) ?_; refine zA rfl ?_
      first | (refine zG ?_; refine zA rfl ?_) | refine zH ?_
      first | (refine zG ?_; refine zO rfl (Rd.eql rfl rfl) ?_) | refine zH ?_
      refine zO rfl zP ?_; refine zO rfl Rd.asg ?_; refine zN (zT (XA.condT rfl (by first | rfl | exact decide_eq_true (by omega)) ?_)); refine zR (zA rfl ?_); refine zA rfl ?_; refine zA rfl ?_; refine zA rfl ?_; refine zA rfl ?_; refine zO rfl (Rd.sliceS (tyrow rfl) rfl rfl rfl rfl (by omega) rfl) ?_
      refine zO rfl (Rd.bl (fun _ _ => tyrow) rfl rfl rfl) ?_
      refine XOA.wr0 rfl (WrA.bs1 (tyrow rfl) rfl (tyrow rfl)) ?_
      rintro _ _ _ ⟨g54, rfl, rfl, rfl⟩
      refine XOA.wr0 rfl (WrA.ap1 (tyrow rfl) rfl (tyrow rfl) rfl rfl rfl) ?_
      rintro _ _ _ ⟨p55, c55, rfl, rfl, rfl⟩
      refine zO rfl Rd.asg ?_; refine zN (DA.inb_normal (zT (zR (zA rfl ?_)))); refine zO rfl Rd.asg ?_; refine zN (DA.inb_normal (zT ?_))
      refine ⟨(Keep.upd (Keep.upd (Keep.upd (Keep.updO (Keep.updO (Keep.upd (Keep.upd (Keep.upd (Keep.upd (Keep.upd (Keep.upd (Keep.upd (Keep.upd (Keep.upd (Keep.upd (Keep.upd (Keep.upd (Keep.upd (Keep.upd (Keep.upd (Keep.upd (Keep.upd (Keep.upd (Keep.upd (Keep.upd (Keep.upd (Keep.upd (Keep.upd (Keep.upd (Keep.upd (Keep.upd (Keep.upd (Keep.upd (Keep.upd (Keep.upd (Keep.upd (Keep.upd (Keep.upd (Keep.upd (Keep.upd (Keep.upd (Keep.upd (Keep.upd (Keep.upd (Keep.upd (Keep.upd (Keep.upd (Keep.hav (Keep.hav (Keep.hav (Keep.refl _ _) rfl) rfl) rfl) rfl) rfl) rfl) rfl) rfl) rfl) rfl) rfl) rfl) rfl) rfl) rfl) rfl) rfl) rfl) rfl) rfl) rfl) rfl) rfl) rfl) rfl) rfl) rfl) rfl) rfl) rfl) rfl) rfl) rfl) rfl) rfl) rfl) rfl) rfl) rfl) rfl) rfl) rfl) rfl) rfl) rfl) rfl) rfl) rfl) rfl) rfl), ((i + 1, (n + 1, acc ++ [(⟨i, s.extract i (i + 1), false, 0⟩ : Tk)])), (p55, c55)), _, zM, ?_, ⟨rfl, by show i + 1 ≤ s.size; omega, by show n + 1 ≤ i + 1; omega, by show (acc ++ [(⟨i, s.extract i (i + 1), false, 0⟩ : Tk)]).length = n + 1; rw [List.length_append, hacc]; rfl, ⟨f, by show s.size < i + 1 + f; omega, hRf⟩, rfl⟩, (by show s.size - (i + 1) < s.size - i; omega)⟩
      · rw [tksC_snoc]; exact zE
    cases hl : letterB (byteAt s i) with
    | true =>
      have hle := runB_le letterB s (i := i) (by omega)
      have hl1 : runB letterB s i = runB letterB s (i + 1) + 1 := by rw [runB_eq, if_pos ⟨hlt, hl⟩]
      have ho : oneT s i = some ⟨i, s.extract i (i + runB letterB s i), false, 0⟩ := by rw [oneT, if_neg (by omega), if_pos hl]
      rw [ho] at hRf
      have hz : (s.extract i (i + runB letterB s i)).size = runB letterB s i := by rw [ByteArray.size_extract]; omega
      simp only [hz] at hRf
      rw [hl] at hrl
      refine zS (zS (zR (zA rfl ?_))); refine zA rfl ?_; refine zO rfl (Rd.lenString (tyrow rfl) rfl rfl) ?_; refine zO rfl (Rd.lss rfl rfl) ?_; refine zN (zT (XA.condT rfl (by first | rfl | exact decide_eq_true (by omega)) ?_)); refine XA.skip (zT (XA.block (zS (zR (zA rfl ?_))))); refine zA rfl ?_
      refine zO rfl (Rd.indexStr (tyrow rfl) rfl rfl rfl (by first | omega | decide | (simp; omega))) ?_
      refine zO rfl Rd.asg ?_; refine zN (zT (zS (zR (zA rfl ?_)))); refine zO rfl zI ?_; refine zO rfl Rd.asg ?_; refine zN (zT (zS (XA.block (zS (zR (zA rfl ?_)))))); refine zO rfl (Rd.eql rfl rfl) ?_; refine zA rfl ?_
      first | (refine zG ?_; refine zA rfl ?_) | refine zH ?_
      first | (refine zG ?_; refine zO rfl (Rd.eql rfl rfl) ?_) | refine zH ?_
      refine zO rfl zP ?_; refine zA rfl ?_
      first | (refine zG ?_; refine zA rfl ?_) | refine zH ?_
      first | (refine zG ?_; refine zO rfl (Rd.eql rfl rfl) ?_) | refine zH ?_
      refine zO rfl zP ?_; refine zA rfl ?_
      first | (refine zG ?_; refine zA rfl ?_) | refine zH ?_
      first | (refine zG ?_; refine zO rfl (Rd.eql rfl rfl) ?_) | refine zH ?_
      refine zO rfl zP ?_; refine zO rfl Rd.asg ?_; refine zN (zT (XA.condF rfl (by first | rfl | exact decide_eq_false (by omega)) ?_)); refine zS (zR (zA rfl ?_)); refine zO rfl (Rd.eql rfl rfl) ?_; refine zA rfl ?_
      first | (refine zG ?_; refine zA rfl ?_) | refine zH ?_
      first | (refine zG ?_; refine zO rfl (Rd.eql rfl rfl) ?_) | refine zH ?_
      refine zO rfl zP ?_; refine zO rfl Rd.asg ?_; refine zN (zT (XA.condF rfl (by first | rfl | exact decide_eq_false (by omega)) ?_)); refine zS (zR (zA rfl ?_))
      refine XOA.wr0 rfl (WrA.cE (hrl) rfl) ?_
      rintro _ _ _ ⟨_, ⟨rfl, rfl, rfl⟩, rfl⟩
      refine XOA.cl ?_; refine zO rfl Rd.asg ?_; refine zN (zT (XA.condT rfl rfl (zS (XA.block ?_))))
      refine XA.loop [(7, 7), (59, 70)] (fun j : Nat => [(7, i64 j)]) (fun j σ' Γ' => σ = σ' ∧ i + 1 ≤ j ∧ j ≤ s.size ∧ runB letterB s (i + 1) = runB letterB s j + (j - (i + 1)) ∧ Γ' = [blk g3 [i64 0, i64 0] 30, lst 42 4 (.slice p n c) n (tksC acc)]) (fun j => s.size - j) (i + 1) (by exact ⟨rfl, trivial⟩) (Δ0 := _) ?_ (⟨rfl, Nat.le_refl _, hlt, by rw [Nat.sub_self]; rfl, rfl⟩) ?_
      · exact zE
      rintro j δ2 _ _ ⟨rfl, hj0, hj1, hjr, rfl⟩
      dsimp only [ovr, List.foldl]
      replace hj0 : i + 1 ≤ j := hj0
      replace hj1 : j ≤ s.size := hj1
      replace hjr : runB letterB s (i + 1) = runB letterB s j + (j - (i + 1)) := hjr
      by_cases hjl : j < s.size
      · have hrj := rletter_t σ (byteAt s j) (byteAt_lt s j)
        rw [runB_eq letterB s j] at hjr
        cases hqj : letterB (byteAt s j) with
        | true =>
          rw [hqj] at hrj
          rw [if_pos ⟨hjl, hqj⟩] at hjr
          refine zS (zS (zR (zA rfl ?_))); refine zA rfl ?_; refine zO rfl (Rd.lenString (tyrow rfl) rfl rfl) ?_; refine zO rfl (Rd.lss rfl rfl) ?_; refine zA rfl ?_
          first | (refine zG ?_; refine zA rfl ?_) | refine zH ?_
          first | (refine zG ?_; refine zA rfl ?_) | refine zH ?_
          first | (refine zG ?_; refine zO rfl (Rd.indexStr (tyrow rfl) rfl rfl rfl (by first | omega | decide | (simp; omega))) ?_) | refine zH ?_
          first | refine XOA.wanted rfl rfl ?_ | refine XOA.wq rfl rfl ?_
          refine XOA.wr0 rfl (WrA.cE (hrj) rfl) ?_
          rintro _ _ _ ⟨_, ⟨rfl, rfl, rfl⟩, rfl⟩
          refine XOA.cl ?_; refine zO rfl zP ?_; refine zN (zT (XA.condT rfl rfl (XA.skip (zT (XA.block (zR (zA rfl ?_))))))); refine zO rfl zI ?_; refine zO rfl Rd.asg ?_; refine zN (DA.inb_normal (zT ?_))
          refine ⟨(Keep.upd (Keep.upd (Keep.upd (Keep.upd (Keep.updO (Keep.upd (Keep.upd (Keep.upd (Keep.upd (Keep.upd (Keep.upd (Keep.upd (Keep.upd (Keep.upd (Keep.hav (Keep.hav (Keep.refl _ _) rfl) rfl) rfl) rfl) rfl) rfl) rfl) rfl) rfl) rfl) rfl) rfl) rfl) rfl) rfl) rfl), j + 1, _, zM, ?_, ⟨rfl, by show i + 1 ≤ j + 1; omega, hjl, by show runB letterB s (i + 1) = runB letterB s (j + 1) + (j + 1 - (i + 1)); omega, rfl⟩, (by omega)⟩
          · exact zE
        | false =>
          rw [hqj] at hrj
          rw [if_neg (fun x => by rw [hqj] at x; exact Bool.noConfusion x.2), Nat.zero_add] at hjr
          refine zS (zS (zR (zA rfl ?_))); refine zA rfl ?_; refine zO rfl (Rd.lenString (tyrow rfl) rfl rfl) ?_; refine zO rfl (Rd.lss rfl rfl) ?_; refine zA rfl ?_
          first | (refine zG ?_; refine zA rfl ?_) | refine zH ?_
          first | (refine zG ?_; refine zA rfl ?_) | refine zH ?_
          first | (refine zG ?_; refine zO rfl (Rd.indexStr (tyrow rfl) rfl rfl rfl (by first | omega | decide | (simp; omega))) ?_) | refine zH ?_
          first | refine XOA.wanted rfl rfl ?_ | refine XOA.wq rfl rfl ?_
          refine XOA.wr0 rfl (WrA.cE (hrj) rfl) ?_
          rintro _ _ _ ⟨_, ⟨rfl, rfl, rfl⟩, rfl⟩
          refine XOA.cl ?_; refine zO rfl zP ?_; refine zN (zT (XA.condF rfl rfl (XA.exit (DA.thn_exit (DA.thn_exit (DA.inb_same (zT (zR (zA rfl ?_))))))))); refine zA rfl ?_; refine zA rfl ?_; refine zA rfl ?_; refine zA rfl ?_
          have hj2 : j = i + runB letterB s i := by omega
          clear hjr
          subst hj2
          refine zO rfl (Rd.sliceS (tyrow rfl) rfl rfl rfl rfl (by omega) rfl) ?_
          refine zO rfl (Rd.bl (fun _ _ => tyrow) rfl rfl rfl) ?_
          refine XOA.wr0 rfl (WrA.bs1 (tyrow rfl) rfl (tyrow rfl)) ?_
          rintro _ _ _ ⟨g78, rfl, rfl, rfl⟩
          refine XOA.wr0 rfl (WrA.ap1 (tyrow rfl) rfl (tyrow rfl) rfl rfl rfl) ?_
          rintro _ _ _ ⟨p79, c79, rfl, rfl, rfl⟩
          refine zO rfl Rd.asg ?_; refine zN (DA.inb_normal (zT (zR (zA rfl ?_)))); refine zO rfl Rd.asg ?_; refine zN (DA.inb_normal (zT ?_))
          refine ⟨(Keep.upd (Keep.upd (Keep.upd (Keep.updO (Keep.updO (Keep.upd (Keep.upd (Keep.upd (Keep.upd (Keep.upd (Keep.upd (Keep.upd (Keep.upd (Keep.updO (Keep.upd (Keep.upd (Keep.upd (Keep.upd (Keep.upd (Keep.upd (Keep.upd (Keep.upd (Keep.upd (Keep.hav (Keep.hav (Keep.upd (Keep.updO (Keep.upd (Keep.upd (Keep.upd (Keep.upd (Keep.upd (Keep.upd (Keep.upd (Keep.upd (Keep.upd (Keep.upd (Keep.upd (Keep.upd (Keep.upd (Keep.upd (Keep.upd (Keep.upd (Keep.upd (Keep.upd (Keep.upd (Keep.upd (Keep.upd (Keep.upd (Keep.upd (Keep.upd (Keep.upd (Keep.upd (Keep.upd (Keep.upd (Keep.upd (Keep.upd (Keep.upd (Keep.upd (Keep.upd (Keep.upd (Keep.upd (Keep.upd (Keep.hav (Keep.hav (Keep.hav (Keep.refl _ _) rfl) rfl) rfl) rfl) rfl) rfl) rfl) rfl) rfl) rfl) rfl) rfl) rfl) rfl) rfl) rfl) rfl) rfl) rfl) rfl) rfl) rfl) rfl) rfl) rfl) rfl) rfl) rfl) rfl) rfl) rfl) rfl) rfl) rfl) rfl) rfl) rfl) rfl) rfl) rfl) rfl) rfl) rfl) rfl) rfl) rfl) rfl) rfl) rfl) rfl) rfl) rfl) rfl) rfl) rfl) rfl) rfl) rfl) rfl) rfl) rfl) rfl) rfl) rfl) rfl) rfl), ((i + runB letterB s i, (n + 1, acc ++ [(⟨i, s.extract i (i + runB letterB s i), false, 0⟩ : Tk)])), (p79, c79)), _, zM, ?_, ⟨rfl, by show i + runB letterB s i ≤ s.size; omega, by show n + 1 ≤ i + runB letterB s i; omega, by show (acc ++ [(⟨i, s.extract i (i + runB letterB s i), false, 0⟩ : Tk)]).length = n + 1; rw [List.length_append, hacc]; rfl, ⟨f, by show s.size < i + runB letterB s i + f; omega, hRf⟩, rfl⟩, (by show s.size - (i + runB letterB s i) < s.size - i; omega)⟩
          · rw [tksC_snoc]; exact zE
      · rw [runB_end (fun x => hjl x.1), Nat.zero_add] at hjr
        refine zS (zS (zR (zA rfl ?_))); refine zA rfl ?_; refine zO rfl (Rd.lenString (tyrow rfl) rfl rfl) ?_; refine zO rfl (Rd.lss rfl rfl) ?_; refine zA rfl ?_
        first | (refine zG ?_; refine zA rfl ?_) | refine zH ?_
        first | (refine zG ?_; refine zA rfl ?_) | refine zH ?_
        first | (refine zG ?_; refine zO rfl (Rd.indexStr (tyrow rfl) rfl rfl rfl (by first | omega | decide | (simp; omega))) ?_) | refine zH ?_
        first | refine zH ?_
        refine zO rfl zP ?_; refine zN (zT (XA.condF rfl (by first | rfl | exact decide_eq_false (by omega)) ?_)); refine XA.exit (DA.thn_exit (DA.thn_exit (DA.inb_same (zT (zR (zA rfl ?_)))))); refine zA rfl ?_; refine zA rfl ?_; refine zA rfl ?_; refine zA rfl ?_
        have hj2 : j = i + runB letterB s i := by omega
        clear hjr
        subst hj2
        refine zO rfl (Rd.sliceS (tyrow rfl) rfl rfl rfl rfl (by omega) rfl) ?_
        refine zO rfl (Rd.bl (fun _ _ => tyrow) rfl rfl rfl) ?_
        refine XOA.wr0 rfl (WrA.bs1 (tyrow rfl) rfl (tyrow rfl)) ?_
        rintro _ _ _ ⟨g78, rfl, rfl, rfl⟩
        refine XOA.wr0 rfl (WrA.ap1 (tyrow rfl) rfl (tyrow rfl) rfl rfl rfl) ?_
        rintro _ _ _ ⟨p79, c79, rfl, rfl, rfl⟩
        refine zO rfl Rd.asg ?_; refine zN (DA.inb_normal (zT (zR (zA rfl ?_)))); refine zO rfl Rd.asg ?_; refine zN (DA.inb_normal (zT ?_))
        refine ⟨(Keep.upd (Keep.upd (Keep.upd (Keep.updO (Keep.updO (Keep.upd (Keep.upd (Keep.upd (Keep.upd (Keep.upd (Keep.upd (Keep.upd (Keep.upd (Keep.upd (Keep.upd (Keep.upd (Keep.upd (Keep.upd (Keep.upd (Keep.upd (Keep.upd (Keep.upd (Keep.upd (Keep.hav (Keep.hav (Keep.upd (Keep.updO (Keep.upd (Keep.upd (Keep.upd (Keep.upd (Keep.upd (Keep.upd (Keep.upd (Keep.upd (Keep.upd (Keep.upd (Keep.upd (Keep.upd (Keep.upd (Keep.upd (Keep.upd (Keep.upd (Keep.upd (Keep.upd (Keep.upd (Keep.upd (Keep.upd (Keep.upd (Keep.upd (Keep.upd (Keep.upd (Keep.upd (Keep.upd (Keep.upd (Keep.upd (Keep.upd (Keep.upd (Keep.upd (Keep.upd (Keep.upd (Keep.upd (Keep.upd (Keep.hav (Keep.hav (Keep.hav (Keep.refl _ _) rfl) rfl) rfl) rfl) rfl) rfl) rfl) rfl) rfl) rfl) rfl) rfl) rfl) rfl) rfl) rfl) rfl) rfl) rfl) rfl) rfl) rfl) rfl) rfl) rfl) rfl) rfl) rfl) rfl) rfl) rfl) rfl) rfl) rfl) rfl) rfl) rfl) rfl) rfl) rfl) rfl) rfl) rfl) rfl) rfl) rfl) rfl) rfl) rfl) rfl) rfl) rfl) rfl) rfl) rfl) rfl) rfl) rfl) rfl) rfl) rfl) rfl) rfl) rfl) rfl) rfl), ((i + runB letterB s i, (n + 1, acc ++ [(⟨i, s.extract i (i + runB letterB s i), false, 0⟩ : Tk)])), (p79, c79)), _, zM, ?_, ⟨rfl, by show i + runB letterB s i ≤ s.size; omega, by show n + 1 ≤ i + runB letterB s i; omega, by show (acc ++ [(⟨i, s.extract i (i + runB letterB s i), false, 0⟩ : Tk)]).length = n + 1; rw [List.length_append, hacc]; rfl, ⟨f, by show s.size < i + runB letterB s i + f; omega, hRf⟩, rfl⟩, (by show s.size - (i + runB letterB s i) < s.size - i; omega)⟩
        · rw [tksC_snoc]; exact zE
    | false =>
      rw [hl] at hrl
      by_cases hd : digitB (byteAt s i) = true ∨ byteAt s i = 45
      · cases hq : digitB (byteAt s i) with
        | true =>
          rw [hq] at hrd
          have hle := runB_le digitB s (i := i + 1) (by omega)
          have ho : oneT s i = (longOf (s.extract i (i + 1 + runB digitB s (i + 1)))).map fun n => ⟨i, s.extract i (i + 1 + runB digitB s (i + 1)), true, n⟩ := by rw [oneT, if_neg (by omega), if_neg (by rw [hl]; exact Bool.noConfusion), if_pos hd]
          refine zS (zS (zR (zA rfl ?_))); refine zA rfl ?_; refine zO rfl (Rd.lenString (tyrow rfl) rfl rfl) ?_; refine zO rfl (Rd.lss rfl rfl) ?_; refine zN (zT (XA.condT rfl (by first | rfl | exact decide_eq_true (by omega)) ?_)); refine XA.skip (zT (XA.block (zS (zR (zA rfl ?_))))); refine zA rfl ?_
          refine zO rfl (Rd.indexStr (tyrow rfl) rfl rfl rfl (by first | omega | decide | (simp; omega))) ?_
          refine zO rfl Rd.asg ?_; refine zN (zT (zS (zR (zA rfl ?_)))); refine zO rfl zI ?_; refine zO rfl Rd.asg ?_; refine zN (zT (zS (XA.block (zS (zR (zA rfl ?_)))))); refine zO rfl (Rd.eql rfl rfl) ?_; refine zA rfl ?_
          first | (refine zG ?_; refine zA rfl ?_) | refine zH ?_
          first | (refine zG ?_; refine zO rfl (Rd.eql rfl rfl) ?_) | refine zH ?_
          refine zO rfl zP ?_; refine zA rfl ?_
          first | (refine zG ?_; refine zA rfl ?_) | refine zH ?_
          first | (refine zG ?_; refine zO rfl (Rd.eql rfl rfl) ?_) | refine zH ?_
          refine zO rfl zP ?_; refine zA rfl ?_
          first | (refine zG ?_; refine zA rfl ?_) | refine zH ?_
          first | (refine zG ?_; refine zO rfl (Rd.eql rfl rfl) ?_) | refine zH ?_
          refine zO rfl zP ?_; refine zO rfl Rd.asg ?_; refine zN (zT (XA.condF rfl (by first | rfl | exact decide_eq_false (by omega)) ?_)); refine zS (zR (zA rfl ?_)); refine zO rfl (Rd.eql rfl rfl) ?_; refine zA rfl ?_
          first | (refine zG ?_; refine zA rfl ?_) | refine zH ?_
          first | (refine zG ?_; refine zO rfl (Rd.eql rfl rfl) ?_) | refine zH ?_
          refine zO rfl zP ?_; refine zO rfl Rd.asg ?_; refine zN (zT (XA.condF rfl (by first | rfl | exact decide_eq_false (by omega)) ?_)); refine zS (zR (zA rfl ?_))
          refine XOA.wr0 rfl (WrA.cE (hrl) rfl) ?_
          rintro _ _ _ ⟨_, ⟨rfl, rfl, rfl⟩, rfl⟩
          refine XOA.cl ?_; refine zO rfl Rd.asg ?_; refine zN (zT (XA.condF rfl rfl (zS (zR (zA rfl ?_)))))
          refine XOA.wr0 rfl (WrA.cE (hrd) rfl) ?_
          rintro _ _ _ ⟨_, ⟨rfl, rfl, rfl⟩, rfl⟩
          refine XOA.cl ?_; refine zA rfl ?_
          first | (refine zG ?_; refine zA rfl ?_) | refine zH ?_
          first | (refine zG ?_; refine zO rfl (Rd.eql rfl rfl) ?_) | refine zH ?_
          refine zO rfl zP ?_; refine zO rfl Rd.asg ?_; refine zN (zT (XA.condT rfl (by first | rfl | exact decide_eq_true (by omega)) ?_)); refine zS (XA.block ?_)
          refine XA.loop [(7, 7), (87, 98)] (fun j : Nat => [(7, i64 j)]) (fun j σ' Γ' => σ = σ' ∧ i + 1 ≤ j ∧ j ≤ s.size ∧ runB digitB s (i + 1) = runB digitB s j + (j - (i + 1)) ∧ Γ' = [blk g3 [i64 0, i64 0] 30, lst 42 4 (.slice p n c) n (tksC acc)]) (fun j => s.size - j) (i + 1) (by exact ⟨rfl, trivial⟩) (Δ0 := _) ?_ (⟨rfl, Nat.le_refl _, hlt, by rw [Nat.sub_self]; rfl, rfl⟩) ?_
          · exact zE
          rintro j δ2 _ _ ⟨rfl, hj0, hj1, hjr, rfl⟩
          dsimp only [ovr, List.foldl]
          replace hj0 : i + 1 ≤ j := hj0
          replace hj1 : j ≤ s.size := hj1
          replace hjr : runB digitB s (i + 1) = runB digitB s j + (j - (i + 1)) := hjr
          by_cases hjl : j < s.size
          · have hrj := rdigit_t σ (byteAt s j) (byteAt_lt s j)
            rw [runB_eq digitB s j] at hjr
            cases hqj : digitB (byteAt s j) with
            | true =>
              rw [hqj] at hrj
              rw [if_pos ⟨hjl, hqj⟩] at hjr
              refine zS (zS (zR (zA rfl ?_))); refine zA rfl ?_; refine zO rfl (Rd.lenString (tyrow rfl) rfl rfl) ?_; refine zO rfl (Rd.lss rfl rfl) ?_; refine zA rfl ?_
              first | (refine zG ?_; refine zA rfl ?_) | refine zH ?_
              first | (refine zG ?_; refine zA rfl ?_) | refine zH ?_
              first | (refine zG ?_; refine zO rfl (Rd.indexStr (tyrow rfl) rfl rfl rfl (by first | omega | decide | (simp; omega))) ?_) | refine zH ?_
              first | refine XOA.wanted rfl rfl ?_ | refine XOA.wq rfl rfl ?_
              refine XOA.wr0 rfl (WrA.cE (hrj) rfl) ?_
              rintro _ _ _ ⟨_, ⟨rfl, rfl, rfl⟩, rfl⟩
              refine XOA.cl ?_; refine zO rfl zP ?_; refine zN (zT (XA.condT rfl rfl (XA.skip (zT (XA.block (zR (zA rfl ?_))))))); refine zO rfl zI ?_; refine zO rfl Rd.asg ?_; refine zN (DA.inb_normal (zT ?_))
              refine ⟨(Keep.upd (Keep.upd (Keep.upd (Keep.upd (Keep.updO (Keep.upd (Keep.upd (Keep.upd (Keep.upd (Keep.upd (Keep.upd (Keep.upd (Keep.upd (Keep.upd (Keep.hav (Keep.hav (Keep.refl _ _) rfl) rfl) rfl) rfl) rfl) rfl) rfl) rfl) rfl) rfl) rfl) rfl) rfl) rfl) rfl) rfl), j + 1, _, zM, ?_, ⟨rfl, by show i + 1 ≤ j + 1; omega, hjl, by show runB digitB s (i + 1) = runB digitB s (j + 1) + (j + 1 - (i + 1)); omega, rfl⟩, (by omega)⟩
              · exact zE
            | false =>
              rw [hqj] at hrj
              rw [if_neg (fun x => by rw [hqj] at x; exact Bool.noConfusion x.2), Nat.zero_add] at hjr
              refine zS (zS (zR (zA rfl ?_))); refine zA rfl ?_; refine zO rfl (Rd.lenString (tyrow rfl) rfl rfl) ?_; refine zO rfl (Rd.lss rfl rfl) ?_; refine zA rfl ?_
              first | (refine zG ?_; refine zA rfl ?_) | refine zH ?_
              first | (refine zG ?_; refine zA rfl ?_) | refine zH ?_
              first | (refine zG ?_; refine zO rfl (Rd.indexStr (tyrow rfl) rfl rfl rfl (by first | omega | decide | (simp; omega))) ?_) | refine zH ?_
              first | refine XOA.wanted rfl rfl ?_ | refine XOA.wq rfl rfl ?_
              refine XOA.wr0 rfl (WrA.cE (hrj) rfl) ?_
              rintro _ _ _ ⟨_, ⟨rfl, rfl, rfl⟩, rfl⟩
              refine XOA.cl ?_; refine zO rfl zP ?_; refine zN (zT (XA.condF rfl rfl (XA.exit (DA.thn_exit (DA.thn_exit (DA.inb_same (zT (zS (zR (zA rfl ?_)))))))))); refine zA rfl ?_; refine zA rfl ?_
              have hj2 : j = i + 1 + runB digitB s (i + 1) := by omega
              clear hjr
              subst hj2
              refine zO rfl (Rd.sliceS (tyrow rfl) rfl rfl rfl rfl (by omega) rfl) ?_
              have hz0 : (s.extract i (i + 1 + runB digitB s (i + 1))).size = 1 + runB digitB s (i + 1) := by rw [ByteArray.size_extract]; omega
              have hsz : (s.extract i (i + 1 + runB digitB s (i + 1))).size ≤ 100000000 := by omega
              cases hq2 : longOf (s.extract i (i + 1 + runB digitB s (i + 1))) with
              | none =>
                have hlo := rlong_none σ hsz hT hE hq2
                rw [hq2] at ho
                rw [show oneT s i = none from ho] at hRf
                simp only at hRf
                rw [hP, hRf]
                refine XOA.wr0 rfl (WrA.cE (hlo) rfl) ?_
                rintro _ _ _ ⟨_, ⟨rfl, rfl, rfl⟩, rfl⟩
                refine XOA.cl ?_; refine zA rfl ?_; refine zO rfl (Rd.extract rfl rfl) ?_; refine zO rfl (Rd.extract rfl rfl) ?_; refine zO rfl Rd.asg ?_; refine zO rfl Rd.asg ?_; refine zN (zT (zS (zS (zR (zA rfl ?_))))); refine zO rfl zJ ?_; refine zN (zT (XA.condT rfl rfl (zS (zR (zA rfl ?_)))))
                refine XOA.wr0 rfl (WrA.cE (rF_t σ 7 i) rfl) ?_
                rintro _ _ _ ⟨_, ⟨rfl, rfl, rfl⟩, rfl⟩
                refine XOA.cl ?_; refine zO rfl Rd.asg ?_
                refine XOA.wr0 rfl (WrA.st (tyrow rfl) rfl) ?_
                rintro _ _ _ ⟨rfl, rfl, rfl⟩
                refine zN (zT (XA.ret (DA.thn_ret (DA.inb_ret (DA.thn_ret (DA.inb_ret (DA.thn_ret (DA.inb_ret (DA.thn_ret ?_)))))))))
                exact bodyA.ret (ResA.tcT rfl rfl rfl (Ld.atBlk (tyrow rfl) rfl zL rfl (by first | exact take0 (by first | rfl | assumption | (refine (ints_len _).trans ?_; assumption) | (simp [*]; (first | done | fail))) | assumption | exact take_app (by first | rfl | assumption | (refine (ints_len _).trans ?_; assumption) | (simp [*]; (first | done | fail))) | (conv => lhs; simp only [List.drop_succ_cons, List.drop_zero, List.take_succ_cons, List.take_zero])) (by first | rfl | assumption | (refine (ints_len _).trans ?_; assumption) | (simp [*]; (first | done | fail))))) (Ent.nil _) ⟨_, rfl, PSl.nil _ _ _, .refl _, rfl⟩
              | some m =>
                have hlo := rlong_some σ hsz hT hE hq2
                rw [hq2] at ho
                rw [show oneT s i = some ⟨i, s.extract i (i + 1 + runB digitB s (i + 1)), true, m⟩ from ho] at hRf
                simp only [hz0] at hRf
                rw [← Nat.add_assoc] at hRf
                refine XOA.wr0 rfl (WrA.cE (hlo) rfl) ?_
                rintro _ _ _ ⟨_, ⟨rfl, rfl, rfl⟩, rfl⟩
                refine XOA.cl ?_; refine zA rfl ?_; refine zO rfl (Rd.extract rfl rfl) ?_; refine zO rfl (Rd.extract rfl rfl) ?_; refine zO rfl Rd.asg ?_; refine zO rfl Rd.asg ?_; refine zN (zT (zS (zS (zR (zA rfl ?_))))); refine zO rfl zJ ?_; refine zN (zT (XA.condF rfl rfl (XA.skip (zT (zR (zA rfl ?_))))))
                refine zA rfl ?_; refine zA rfl ?_; refine zA rfl ?_; refine zA rfl ?_; refine zO rfl (Rd.sliceS (tyrow rfl) rfl rfl rfl rfl (by omega) rfl) ?_; refine zA rfl ?_
                refine zO rfl (Rd.bl (fun _ _ => tyrow) rfl rfl rfl) ?_
                refine XOA.wr0 rfl (WrA.bs1 (tyrow rfl) rfl (tyrow rfl)) ?_
                rintro _ _ _ ⟨g119, rfl, rfl, rfl⟩
                refine XOA.wr0 rfl (WrA.ap1 (tyrow rfl) rfl (tyrow rfl) rfl rfl rfl) ?_
                rintro _ _ _ ⟨p120, c120, rfl, rfl, rfl⟩
                refine zO rfl Rd.asg ?_; refine zN (DA.inb_normal (zT (zR (zA rfl ?_)))); refine zO rfl Rd.asg ?_; refine zN (DA.inb_normal (zT ?_))
                refine ⟨(Keep.upd (Keep.upd (Keep.upd (Keep.updO (Keep.updO (Keep.upd (Keep.upd (Keep.upd (Keep.upd (Keep.upd (Keep.upd (Keep.upd (Keep.upd (Keep.upd (Keep.upd (Keep.upd (Keep.upd (Keep.upd (Keep.upd (Keep.upd (Keep.updO (Keep.upd (Keep.upd (Keep.upd (Keep.upd (Keep.upd (Keep.updO (Keep.upd (Keep.upd (Keep.upd (Keep.upd (Keep.upd (Keep.upd (Keep.upd (Keep.upd (Keep.upd (Keep.hav (Keep.hav (Keep.upd (Keep.upd (Keep.upd (Keep.upd (Keep.upd (Keep.updO (Keep.upd (Keep.upd (Keep.updO (Keep.upd (Keep.upd (Keep.upd (Keep.upd (Keep.upd (Keep.upd (Keep.upd (Keep.upd (Keep.upd (Keep.upd (Keep.upd (Keep.upd (Keep.upd (Keep.upd (Keep.upd (Keep.upd (Keep.upd (Keep.upd (Keep.upd (Keep.upd (Keep.upd (Keep.upd (Keep.upd (Keep.upd (Keep.upd (Keep.upd (Keep.upd (Keep.upd (Keep.upd (Keep.upd (Keep.upd (Keep.upd (Keep.upd (Keep.upd (Keep.upd (Keep.upd (Keep.hav (Keep.hav (Keep.hav (Keep.refl _ _) rfl) rfl) rfl) rfl) rfl) rfl) rfl) rfl) rfl) rfl) rfl) rfl) rfl) rfl) rfl) rfl) rfl) rfl) rfl) rfl) rfl) rfl) rfl) rfl) rfl) rfl) rfl) rfl) rfl) rfl) rfl) rfl) rfl) rfl) rfl) rfl) rfl) rfl) rfl) rfl) rfl) rfl) rfl) rfl) rfl) rfl) rfl) rfl) rfl) rfl) rfl) rfl) rfl) rfl) rfl) rfl) rfl) rfl) rfl) rfl) rfl) rfl) rfl) rfl) rfl) rfl) rfl) rfl) rfl) rfl) rfl) rfl) rfl) rfl) rfl) rfl) rfl) rfl) rfl) rfl) rfl) rfl) rfl) rfl) rfl) rfl), ((i + 1 + runB digitB s (i + 1), (n + 1, acc ++ [(⟨i, s.extract i (i + 1 + runB digitB s (i + 1)), true, m⟩ : Tk)])), (p120, c120)), _, zM, ?_, ⟨rfl, by show i + 1 + runB digitB s (i + 1) ≤ s.size; omega, by show n + 1 ≤ i + 1 + runB digitB s (i + 1); omega, by show (acc ++ [(⟨i, s.extract i (i + 1 + runB digitB s (i + 1)), true, m⟩ : Tk)]).length = n + 1; rw [List.length_append, hacc]; rfl, ⟨f, by show s.size < i + 1 + runB digitB s (i + 1) + f; omega, hRf⟩, rfl⟩, (by show s.size - (i + 1 + runB digitB s (i + 1)) < s.size - i; omega)⟩
                · rw [tksC_snoc]; exact zE
          · rw [runB_end (fun x => hjl x.1), Nat.zero_add] at hjr
            refine zS (zS (zR (zA rfl ?_))); refine zA rfl ?_; refine zO rfl (Rd.lenString (tyrow rfl) rfl rfl) ?_; refine zO rfl (Rd.lss rfl rfl) ?_; refine zA rfl ?_
            first | (refine zG ?_; refine zA rfl ?_) | refine zH ?_
            first | (refine zG ?_; refine zA rfl ?_) | refine zH ?_
            first | (refine zG ?_; refine zO rfl (Rd.indexStr (tyrow rfl) rfl rfl rfl (by first | omega | decide | (simp; omega))) ?_) | refine zH ?_
            first | refine zH ?_
            refine zO rfl zP ?_; refine zN (zT (XA.condF rfl (by first | rfl | exact decide_eq_false (by omega)) ?_)); refine XA.exit (DA.thn_exit (DA.thn_exit (DA.inb_same (zT (zS (zR (zA rfl ?_))))))); refine zA rfl ?_; refine zA rfl ?_
            have hj2 : j = i + 1 + runB digitB s (i + 1) := by omega
            clear hjr
            subst hj2
            refine zO rfl (Rd.sliceS (tyrow rfl) rfl rfl rfl rfl (by omega) rfl) ?_
            have hz0 : (s.extract i (i + 1 + runB digitB s (i + 1))).size = 1 + runB digitB s (i + 1) := by rw [ByteArray.size_extract]; omega
            have hsz : (s.extract i (i + 1 + runB digitB s (i + 1))).size ≤ 100000000 := by omega
            cases hq2 : longOf (s.extract i (i + 1 + runB digitB s (i + 1))) with
            | none =>
              have hlo := rlong_none σ hsz hT hE hq2
              rw [hq2] at ho
              rw [show oneT s i = none from ho] at hRf
              simp only at hRf
              rw [hP, hRf]
              refine XOA.wr0 rfl (WrA.cE (hlo) rfl) ?_
              rintro _ _ _ ⟨_, ⟨rfl, rfl, rfl⟩, rfl⟩
              refine XOA.cl ?_; refine zA rfl ?_; refine zO rfl (Rd.extract rfl rfl) ?_; refine zO rfl (Rd.extract rfl rfl) ?_; refine zO rfl Rd.asg ?_; refine zO rfl Rd.asg ?_; refine zN (zT (zS (zS (zR (zA rfl ?_))))); refine zO rfl zJ ?_; refine zN (zT (XA.condT rfl rfl (zS (zR (zA rfl ?_)))))
              refine XOA.wr0 rfl (WrA.cE (rF_t σ 7 i) rfl) ?_
              rintro _ _ _ ⟨_, ⟨rfl, rfl, rfl⟩, rfl⟩
              refine XOA.cl ?_; refine zO rfl Rd.asg ?_
              refine XOA.wr0 rfl (WrA.st (tyrow rfl) rfl) ?_
              rintro _ _ _ ⟨rfl, rfl, rfl⟩
              refine zN (zT (XA.ret (DA.thn_ret (DA.inb_ret (DA.thn_ret (DA.inb_ret (DA.thn_ret (DA.inb_ret (DA.thn_ret ?_)))))))))
              exact bodyA.ret (ResA.tcT rfl rfl rfl (Ld.atBlk (tyrow rfl) rfl zL rfl (by first | exact take0 (by first | rfl | assumption | (refine (ints_len _).trans ?_; assumption) | (simp [*]; (first | done | fail))) | assumption | exact take_app (by first | rfl | assumption | (refine (ints_len _).trans ?_; assumption) | (simp [*]; (first | done | fail))) | (conv => lhs; simp only [List.drop_succ_cons, List.drop_zero, List.take_succ_cons, List.take_zero])) (by first | rfl | assumption | (refine (ints_len _).trans ?_; assumption) | (simp [*]; (first | done | fail))))) (Ent.nil _) ⟨_, rfl, PSl.nil _ _ _, .refl _, rfl⟩
            | some m =>
              have hlo := rlong_some σ hsz hT hE hq2
              rw [hq2] at ho
              rw [show oneT s i = some ⟨i, s.extract i (i + 1 + runB digitB s (i + 1)), true, m⟩ from ho] at hRf
              simp only [hz0] at hRf
              rw [← Nat.add_assoc] at hRf
              refine XOA.wr0 rfl (WrA.cE (hlo) rfl) ?_
              rintro _ _ _ ⟨_, ⟨rfl, rfl, rfl⟩, rfl⟩
              refine XOA.cl ?_; refine zA rfl ?_; refine zO rfl (Rd.extract rfl rfl) ?_; refine zO rfl (Rd.extract rfl rfl) ?_; refine zO rfl Rd.asg ?_; refine zO rfl Rd.asg ?_; refine zN (zT (zS (zS (zR (zA rfl ?_))))); refine zO rfl zJ ?_; refine zN (zT (XA.condF rfl rfl (XA.skip (zT (zR (zA rfl ?_))))))
              refine zA rfl ?_; refine zA rfl ?_; refine zA rfl ?_; refine zA rfl ?_; refine zO rfl (Rd.sliceS (tyrow rfl) rfl rfl rfl rfl (by omega) rfl) ?_; refine zA rfl ?_
              refine zO rfl (Rd.bl (fun _ _ => tyrow) rfl rfl rfl) ?_
              refine XOA.wr0 rfl (WrA.bs1 (tyrow rfl) rfl (tyrow rfl)) ?_
              rintro _ _ _ ⟨g119, rfl, rfl, rfl⟩
              refine XOA.wr0 rfl (WrA.ap1 (tyrow rfl) rfl (tyrow rfl) rfl rfl rfl) ?_
              rintro _ _ _ ⟨p120, c120, rfl, rfl, rfl⟩
              refine zO rfl Rd.asg ?_; refine zN (DA.inb_normal (zT (zR (zA rfl ?_)))); refine zO rfl Rd.asg ?_; refine zN (DA.inb_normal (zT ?_))
              refine ⟨(Keep.upd (Keep.upd (Keep.upd (Keep.updO (Keep.updO (Keep.upd (Keep.upd (Keep.upd (Keep.upd (Keep.upd (Keep.upd (Keep.upd (Keep.upd (Keep.upd (Keep.upd (Keep.upd (Keep.upd (Keep.upd (Keep.upd (Keep.upd (Keep.updO (Keep.upd (Keep.upd (Keep.upd (Keep.upd (Keep.upd (Keep.upd (Keep.upd (Keep.upd (Keep.upd (Keep.upd (Keep.upd (Keep.upd (Keep.upd (Keep.upd (Keep.upd (Keep.hav (Keep.hav (Keep.upd (Keep.upd (Keep.upd (Keep.upd (Keep.upd (Keep.updO (Keep.upd (Keep.upd (Keep.updO (Keep.upd (Keep.upd (Keep.upd (Keep.upd (Keep.upd (Keep.upd (Keep.upd (Keep.upd (Keep.upd (Keep.upd (Keep.upd (Keep.upd (Keep.upd (Keep.upd (Keep.upd (Keep.upd (Keep.upd (Keep.upd (Keep.upd (Keep.upd (Keep.upd (Keep.upd (Keep.upd (Keep.upd (Keep.upd (Keep.upd (Keep.upd (Keep.upd (Keep.upd (Keep.upd (Keep.upd (Keep.upd (Keep.upd (Keep.upd (Keep.upd (Keep.upd (Keep.hav (Keep.hav (Keep.hav (Keep.refl _ _) rfl) rfl) rfl) rfl) rfl) rfl) rfl) rfl) rfl) rfl) rfl) rfl) rfl) rfl) rfl) rfl) rfl) rfl) rfl) rfl) rfl) rfl) rfl) rfl) rfl) rfl) rfl) rfl) rfl) rfl) rfl) rfl) rfl) rfl) rfl) rfl) rfl) rfl) rfl) rfl) rfl) rfl) rfl) rfl) rfl) rfl) rfl) rfl) rfl) rfl) rfl) rfl) rfl) rfl) rfl) rfl) rfl) rfl) rfl) rfl) rfl) rfl) rfl) rfl) rfl) rfl) rfl) rfl) rfl) rfl) rfl) rfl) rfl) rfl) rfl) rfl) rfl) rfl) rfl) rfl) rfl) rfl) rfl) rfl) rfl) rfl), ((i + 1 + runB digitB s (i + 1), (n + 1, acc ++ [(⟨i, s.extract i (i + 1 + runB digitB s (i + 1)), true, m⟩ : Tk)])), (p120, c120)), _, zM, ?_, ⟨rfl, by show i + 1 + runB digitB s (i + 1) ≤ s.size; omega, by show n + 1 ≤ i + 1 + runB digitB s (i + 1); omega, by show (acc ++ [(⟨i, s.extract i (i + 1 + runB digitB s (i + 1)), true, m⟩ : Tk)]).length = n + 1; rw [List.length_append, hacc]; rfl, ⟨f, by show s.size < i + 1 + runB digitB s (i + 1) + f; omega, hRf⟩, rfl⟩, (by show s.size - (i + 1 + runB digitB s (i + 1)) < s.size - i; omega)⟩
              · rw [tksC_snoc]; exact zE
        | false =>
          have h45 : byteAt s i = 45 := hd.resolve_left (by rw [hq]; exact Bool.noConfusion)
          rw [hq] at hrd
          have hle := runB_le digitB s (i := i + 1) (by omega)
          have ho : oneT s i = (longOf (s.extract i (i + 1 + runB digitB s (i + 1)))).map fun n => ⟨i, s.extract i (i + 1 + runB digitB s (i + 1)), true, n⟩ := by rw [oneT, if_neg (by omega), if_neg (by rw [hl]; exact Bool.noConfusion), if_pos hd]
          refine zS (zS (zR (zA rfl ?_))); refine zA rfl ?_; refine zO rfl (Rd.lenString (tyrow rfl) rfl rfl) ?_; refine zO rfl (Rd.lss rfl rfl) ?_; refine zN (zT (XA.condT rfl (by first | rfl | exact decide_eq_true (by omega)) ?_)); refine XA.skip (zT (XA.block (zS (zR (zA rfl ?_))))); refine zA rfl ?_
          refine zO rfl (Rd.indexStr (tyrow rfl) rfl rfl rfl (by first | omega | decide | (simp; omega))) ?_
          refine zO rfl Rd.asg ?_; refine zN (zT (zS (zR (zA rfl ?_)))); refine zO rfl zI ?_; refine zO rfl Rd.asg ?_; refine zN (zT (zS (XA.block (zS (zR (zA rfl ?_)))))); refine zO rfl (Rd.eql rfl rfl) ?_; refine zA rfl ?_
          first | (refine zG ?_; refine zA rfl ?_) | refine zH ?_
          first | (refine zG ?_; refine zO rfl (Rd.eql rfl rfl) ?_) | refine zH ?_
          refine zO rfl zP ?_; refine zA rfl ?_
          first | (refine zG ?_; refine zA rfl ?_) | refine zH ?_
          first | (refine zG ?_; refine zO rfl (Rd.eql rfl rfl) ?_) | refine zH ?_
          refine zO rfl zP ?_; refine zA rfl ?_
          first | (refine zG ?_; refine zA rfl ?_) | refine zH ?_
          first | (refine zG ?_; refine zO rfl (Rd.eql rfl rfl) ?_) | refine zH ?_
          refine zO rfl zP ?_; refine zO rfl Rd.asg ?_; refine zN (zT (XA.condF rfl (by first | rfl | exact decide_eq_false (by omega)) ?_)); refine zS (zR (zA rfl ?_)); refine zO rfl (Rd.eql rfl rfl) ?_; refine zA rfl ?_
          first | (refine zG ?_; refine zA rfl ?_) | refine zH ?_
          first | (refine zG ?_; refine zO rfl (Rd.eql rfl rfl) ?_) | refine zH ?_
          refine zO rfl zP ?_; refine zO rfl Rd.asg ?_; refine zN (zT (XA.condF rfl (by first | rfl | exact decide_eq_false (by omega)) ?_)); refine zS (zR (zA rfl ?_))
          refine XOA.wr0 rfl (WrA.cE (hrl) rfl) ?_
          rintro _ _ _ ⟨_, ⟨rfl, rfl, rfl⟩, rfl⟩
          refine XOA.cl ?_; refine zO rfl Rd.asg ?_; refine zN (zT (XA.condF rfl rfl (zS (zR (zA rfl ?_)))))
          refine XOA.wr0 rfl (WrA.cE (hrd) rfl) ?_
          rintro _ _ _ ⟨_, ⟨rfl, rfl, rfl⟩, rfl⟩
          refine XOA.cl ?_; refine zA rfl ?_
          first | (refine zG ?_; refine zA rfl ?_) | refine zH ?_
          first | (refine zG ?_; refine zO rfl (Rd.eql rfl rfl) ?_) | refine zH ?_
          refine zO rfl zP ?_; refine zO rfl Rd.asg ?_; refine zN (zT (XA.condT rfl (by first | rfl | exact decide_eq_true (by omega)) ?_)); refine zS (XA.block ?_)
          refine XA.loop [(7, 7), (87, 98)] (fun j : Nat => [(7, i64 j)]) (fun j σ' Γ' => σ = σ' ∧ i + 1 ≤ j ∧ j ≤ s.size ∧ runB digitB s (i + 1) = runB digitB s j + (j - (i + 1)) ∧ Γ' = [blk g3 [i64 0, i64 0] 30, lst 42 4 (.slice p n c) n (tksC acc)]) (fun j => s.size - j) (i + 1) (by exact ⟨rfl, trivial⟩) (Δ0 := _) ?_ (⟨rfl, Nat.le_refl _, hlt, by rw [Nat.sub_self]; rfl, rfl⟩) ?_
          · exact zE
          rintro j δ2 _ _ ⟨rfl, hj0, hj1, hjr, rfl⟩
          dsimp only [ovr, List.foldl]
          replace hj0 : i + 1 ≤ j := hj0
          replace hj1 : j ≤ s.size := hj1
          replace hjr : runB digitB s (i + 1) = runB digitB s j + (j - (i + 1)) := hjr
          by_cases hjl : j < s.size
          · have hrj := rdigit_t σ (byteAt s j) (byteAt_lt s j)
            rw [runB_eq digitB s j] at hjr
            cases hqj : digitB (byteAt s j) with
            | true =>
              rw [hqj] at hrj
              rw [if_pos ⟨hjl, hqj⟩] at hjr
              refine zS (zS (zR (zA rfl ?_))); refine zA rfl ?_; refine zO rfl (Rd.lenString (tyrow rfl) rfl rfl) ?_; refine zO rfl (Rd.lss rfl rfl) ?_; refine zA rfl ?_
              first | (refine zG ?_; refine zA rfl ?_) | refine zH ?_
              first | (refine zG ?_; refine zA rfl ?_) | refine zH ?_
              first | (refine zG ?_; refine zO rfl (Rd.indexStr (tyrow rfl) rfl rfl rfl (by first | omega | decide | (simp; omega))) ?_) | refine zH ?_
              first | refine XOA.wanted rfl rfl ?_ | refine XOA.wq rfl rfl ?_
              refine XOA.wr0 rfl (WrA.cE (hrj) rfl) ?_
              rintro _ _ _ ⟨_, ⟨rfl, rfl, rfl⟩, rfl⟩
              refine XOA.cl ?_; refine zO rfl zP ?_; refine zN (zT (XA.condT rfl rfl (XA.skip (zT (XA.block (zR (zA rfl ?_))))))); refine zO rfl zI ?_; refine zO rfl Rd.asg ?_; refine zN (DA.inb_normal (zT ?_))
              refine ⟨(Keep.upd (Keep.upd (Keep.upd (Keep.upd (Keep.updO (Keep.upd (Keep.upd (Keep.upd (Keep.upd (Keep.upd (Keep.upd (Keep.upd (Keep.upd (Keep.upd (Keep.hav (Keep.hav (Keep.refl _ _) rfl) rfl) rfl) rfl) rfl) rfl) rfl) rfl) rfl) rfl) rfl) rfl) rfl) rfl) rfl) rfl), j + 1, _, zM, ?_, ⟨rfl, by show i + 1 ≤ j + 1; omega, hjl, by show runB digitB s (i + 1) = runB digitB s (j + 1) + (j + 1 - (i + 1)); omega, rfl⟩, (by omega)⟩
              · exact zE
            | false =>
              rw [hqj] at hrj
              rw [if_neg (fun x => by rw [hqj] at x; exact Bool.noConfusion x.2), Nat.zero_add] at hjr
              refine zS (zS (zR (zA rfl ?_))); refine zA rfl ?_; refine zO rfl (Rd.lenString (tyrow rfl) rfl rfl) ?_; refine zO rfl (Rd.lss rfl rfl) ?_; refine zA rfl ?_
              first | (refine zG ?_; refine zA rfl ?_) | refine zH ?_
              first | (refine zG ?_; refine zA rfl ?_) | refine zH ?_
              first | (refine zG ?_; refine zO rfl (Rd.indexStr (tyrow rfl) rfl rfl rfl (by first | omega | decide | (simp; omega))) ?_) | refine zH ?_
              first | refine XOA.wanted rfl rfl ?_ | refine XOA.wq rfl rfl ?_
              refine XOA.wr0 rfl (WrA.cE (hrj) rfl) ?_
              rintro _ _ _ ⟨_, ⟨rfl, rfl, rfl⟩, rfl⟩
              refine XOA.cl ?_; refine zO rfl zP ?_; refine zN (zT (XA.condF rfl rfl (XA.exit (DA.thn_exit (DA.thn_exit (DA.inb_same (zT (zS (zR (zA rfl ?_)))))))))); refine zA rfl ?_; refine zA rfl ?_
              have hj2 : j = i + 1 + runB digitB s (i + 1) := by omega
              clear hjr
              subst hj2
              refine zO rfl (Rd.sliceS (tyrow rfl) rfl rfl rfl rfl (by omega) rfl) ?_
              have hz0 : (s.extract i (i + 1 + runB digitB s (i + 1))).size = 1 + runB digitB s (i + 1) := by rw [ByteArray.size_extract]; omega
              have hsz : (s.extract i (i + 1 + runB digitB s (i + 1))).size ≤ 100000000 := by omega
              cases hq2 : longOf (s.extract i (i + 1 + runB digitB s (i + 1))) with
              | none =>
                have hlo := rlong_none σ hsz hT hE hq2
                rw [hq2] at ho
                rw [show oneT s i = none from ho] at hRf
                simp only at hRf
                rw [hP, hRf]
                refine XOA.wr0 rfl (WrA.cE (hlo) rfl) ?_
                rintro _ _ _ ⟨_, ⟨rfl, rfl, rfl⟩, rfl⟩
                refine XOA.cl ?_; refine zA rfl ?_; refine zO rfl (Rd.extract rfl rfl) ?_; refine zO rfl (Rd.extract rfl rfl) ?_; refine zO rfl Rd.asg ?_; refine zO rfl Rd.asg ?_; refine zN (zT (zS (zS (zR (zA rfl ?_))))); refine zO rfl zJ ?_; refine zN (zT (XA.condT rfl rfl (zS (zR (zA rfl ?_)))))
                refine XOA.wr0 rfl (WrA.cE (rF_t σ 7 i) rfl) ?_
                rintro _ _ _ ⟨_, ⟨rfl, rfl, rfl⟩, rfl⟩
                refine XOA.cl ?_; refine zO rfl Rd.asg ?_
                refine XOA.wr0 rfl (WrA.st (tyrow rfl) rfl) ?_
                rintro _ _ _ ⟨rfl, rfl, rfl⟩
                refine zN (zT (XA.ret (DA.thn_ret (DA.inb_ret (DA.thn_ret (DA.inb_ret (DA.thn_ret (DA.inb_ret (DA.thn_ret ?_)))))))))
                exact bodyA.ret (ResA.tcT rfl rfl rfl (Ld.atBlk (tyrow rfl) rfl zL rfl (by first | exact take0 (by first | rfl | assumption | (refine (ints_len _).trans ?_; assumption) | (simp [*]; (first | done | fail))) | assumption | exact take_app (by first | rfl | assumption | (refine (ints_len _).trans ?_; assumption) | (simp [*]; (first | done | fail))) | (conv => lhs; simp only [List.drop_succ_cons, List.drop_zero, List.take_succ_cons, List.take_zero])) (by first | rfl | assumption | (refine (ints_len _).trans ?_; assumption) | (simp [*]; (first | done | fail))))) (Ent.nil _) ⟨_, rfl, PSl.nil _ _ _, .refl _, rfl⟩
              | some m =>
                have hlo := rlong_some σ hsz hT hE hq2
                rw [hq2] at ho
                rw [show oneT s i = some ⟨i, s.extract i (i + 1 + runB digitB s (i + 1)), true, m⟩ from ho] at hRf
                simp only [hz0] at hRf
                rw [← Nat.add_assoc] at hRf
                refine XOA.wr0 rfl (WrA.cE (hlo) rfl) ?_
                rintro _ _ _ ⟨_, ⟨rfl, rfl, rfl⟩, rfl⟩
                refine XOA.cl ?_; refine zA rfl ?_; refine zO rfl (Rd.extract rfl rfl) ?_; refine zO rfl (Rd.extract rfl rfl) ?_; refine zO rfl Rd.asg ?_; refine zO rfl Rd.asg ?_; refine zN (zT (zS (zS (zR (zA rfl ?_))))); refine zO rfl zJ ?_; refine zN (zT (XA.condF rfl rfl (XA.skip (zT (zR (zA rfl ?_))))))
                refine zA rfl ?_; refine zA rfl ?_; refine zA rfl ?_; refine zA rfl ?_; refine zO rfl (Rd.sliceS (tyrow rfl) rfl rfl rfl rfl (by omega) rfl) ?_; refine zA rfl ?_
                refine zO rfl (Rd.bl (fun _ _ => tyrow) rfl rfl rfl) ?_
                refine XOA.wr0 rfl (WrA.bs1 (tyrow rfl) rfl (tyrow rfl)) ?_
                rintro _ _ _ ⟨g119, rfl, rfl, rfl⟩
                refine XOA.wr0 rfl (WrA.ap1 (tyrow rfl) rfl (tyrow rfl) rfl rfl rfl) ?_
                rintro _ _ _ ⟨p120, c120, rfl, rfl, rfl⟩
                refine zO rfl Rd.asg ?_; refine zN (DA.inb_normal (zT (zR (zA rfl ?_)))); refine zO rfl Rd.asg ?_; refine zN (DA.inb_normal (zT ?_))
                refine ⟨(Keep.upd (Keep.upd (Keep.upd (Keep.updO (Keep.updO (Keep.upd (Keep.upd (Keep.upd (Keep.upd (Keep.upd (Keep.upd (Keep.upd (Keep.upd (Keep.upd (Keep.upd (Keep.upd (Keep.upd (Keep.upd (Keep.upd (Keep.upd (Keep.updO (Keep.upd (Keep.upd (Keep.upd (Keep.upd (Keep.upd (Keep.updO (Keep.upd (Keep.upd (Keep.upd (Keep.upd (Keep.upd (Keep.upd (Keep.upd (Keep.upd (Keep.upd (Keep.hav (Keep.hav (Keep.upd (Keep.upd (Keep.upd (Keep.upd (Keep.upd (Keep.updO (Keep.upd (Keep.upd (Keep.updO (Keep.upd (Keep.upd (Keep.upd (Keep.upd (Keep.upd (Keep.upd (Keep.upd (Keep.upd (Keep.upd (Keep.upd (Keep.upd (Keep.upd (Keep.upd (Keep.upd (Keep.upd (Keep.upd (Keep.upd (Keep.upd (Keep.upd (Keep.upd (Keep.upd (Keep.upd (Keep.upd (Keep.upd (Keep.upd (Keep.upd (Keep.upd (Keep.upd (Keep.upd (Keep.upd (Keep.upd (Keep.upd (Keep.upd (Keep.upd (Keep.upd (Keep.upd (Keep.hav (Keep.hav (Keep.hav (Keep.refl _ _) rfl) rfl) rfl) rfl) rfl) rfl) rfl) rfl) rfl) rfl) rfl) rfl) rfl) rfl) rfl) rfl) rfl) rfl) rfl) rfl) rfl) rfl) rfl) rfl) rfl) rfl) rfl) rfl) rfl) rfl) rfl) rfl) rfl) rfl) rfl) rfl) rfl) rfl) rfl) rfl) rfl) rfl) rfl) rfl) rfl) rfl) rfl) rfl) rfl) rfl) rfl) rfl) rfl) rfl) rfl) rfl) rfl) rfl) rfl) rfl) rfl) rfl) rfl) rfl) rfl) rfl) rfl) rfl) rfl) rfl) rfl) rfl) rfl) rfl) rfl) rfl) rfl) rfl) rfl) rfl) rfl) rfl) rfl) rfl) rfl) rfl), ((i + 1 + runB digitB s (i + 1), (n + 1, acc ++ [(⟨i, s.extract i (i + 1 + runB digitB s (i + 1)), true, m⟩ : Tk)])), (p120, c120)), _, zM, ?_, ⟨rfl, by show i + 1 + runB digitB s (i + 1) ≤ s.size; omega, by show n + 1 ≤ i + 1 + runB digitB s (i + 1); omega, by show (acc ++ [(⟨i, s.extract i (i + 1 + runB digitB s (i + 1)), true, m⟩ : Tk)]).length = n + 1; rw [List.length_append, hacc]; rfl, ⟨f, by show s.size < i + 1 + runB digitB s (i + 1) + f; omega, hRf⟩, rfl⟩, (by show s.size - (i + 1 + runB digitB s (i + 1)) < s.size - i; omega)⟩
                · rw [tksC_snoc]; exact zE
          · rw [runB_end (fun x => hjl x.1), Nat.zero_add] at hjr
            refine zS (zS (zR (zA rfl ?_))); refine zA rfl ?_; refine zO rfl (Rd.lenString (tyrow rfl) rfl rfl) ?_; refine zO rfl (Rd.lss rfl rfl) ?_; refine zA rfl ?_
            first | (refine zG ?_; refine zA rfl ?_) | refine zH ?_
            first | (refine zG ?_; refine zA rfl ?_) | refine zH ?_
            first | (refine zG ?_; refine zO rfl (Rd.indexStr (tyrow rfl) rfl rfl rfl (by first | omega | decide | (simp; omega))) ?_) | refine zH ?_
            first | refine zH ?_
            refine zO rfl zP ?_; refine zN (zT (XA.condF rfl (by first | rfl | exact decide_eq_false (by omega)) ?_)); refine XA.exit (DA.thn_exit (DA.thn_exit (DA.inb_same (zT (zS (zR (zA rfl ?_))))))); refine zA rfl ?_; refine zA rfl ?_
            have hj2 : j = i + 1 + runB digitB s (i + 1) := by omega
            clear hjr
            subst hj2
            refine zO rfl (Rd.sliceS (tyrow rfl) rfl rfl rfl rfl (by omega) rfl) ?_
            have hz0 : (s.extract i (i + 1 + runB digitB s (i + 1))).size = 1 + runB digitB s (i + 1) := by rw [ByteArray.size_extract]; omega
            have hsz : (s.extract i (i + 1 + runB digitB s (i + 1))).size ≤ 100000000 := by omega
            cases hq2 : longOf (s.extract i (i + 1 + runB digitB s (i + 1))) with
            | none =>
              have hlo := rlong_none σ hsz hT hE hq2
              rw [hq2] at ho
              rw [show oneT s i = none from ho] at hRf
              simp only at hRf
              rw [hP, hRf]
              refine XOA.wr0 rfl (WrA.cE (hlo) rfl) ?_
              rintro _ _ _ ⟨_, ⟨rfl, rfl, rfl⟩, rfl⟩
              refine XOA.cl ?_; refine zA rfl ?_; refine zO rfl (Rd.extract rfl rfl) ?_; refine zO rfl (Rd.extract rfl rfl) ?_; refine zO rfl Rd.asg ?_; refine zO rfl Rd.asg ?_; refine zN (zT (zS (zS (zR (zA rfl ?_))))); refine zO rfl zJ ?_; refine zN (zT (XA.condT rfl rfl (zS (zR (zA rfl ?_)))))
              refine XOA.wr0 rfl (WrA.cE (rF_t σ 7 i) rfl) ?_
              rintro _ _ _ ⟨_, ⟨rfl, rfl, rfl⟩, rfl⟩
              refine XOA.cl ?_; refine zO rfl Rd.asg ?_
              refine XOA.wr0 rfl (WrA.st (tyrow rfl) rfl) ?_
              rintro _ _ _ ⟨rfl, rfl, rfl⟩
              refine zN (zT (XA.ret (DA.thn_ret (DA.inb_ret (DA.thn_ret (DA.inb_ret (DA.thn_ret (DA.inb_ret (DA.thn_ret ?_)))))))))
              exact bodyA.ret (ResA.tcT rfl rfl rfl (Ld.atBlk (tyrow rfl) rfl zL rfl (by first | exact take0 (by first | rfl | assumption | (refine (ints_len _).trans ?_; assumption) | (simp [*]; (first | done | fail))) | assumption | exact take_app (by first | rfl | assumption | (refine (ints_len _).trans ?_; assumption) | (simp [*]; (first | done | fail))) | (conv => lhs; simp only [List.drop_succ_cons, List.drop_zero, List.take_succ_cons, List.take_zero])) (by first | rfl | assumption | (refine (ints_len _).trans ?_; assumption) | (simp [*]; (first | done | fail))))) (Ent.nil _) ⟨_, rfl, PSl.nil _ _ _, .refl _, rfl⟩
            | some m =>
              have hlo := rlong_some σ hsz hT hE hq2
              rw [hq2] at ho
              rw [show oneT s i = some ⟨i, s.extract i (i + 1 + runB digitB s (i + 1)), true, m⟩ from ho] at hRf
              simp only [hz0] at hRf
              rw [← Nat.add_assoc] at hRf
              refine XOA.wr0 rfl (WrA.cE (hlo) rfl) ?_
              rintro _ _ _ ⟨_, ⟨rfl, rfl, rfl⟩, rfl⟩
              refine XOA.cl ?_; refine zA rfl ?_; refine zO rfl (Rd.extract rfl rfl) ?_; refine zO rfl (Rd.extract rfl rfl) ?_; refine zO rfl Rd.asg ?_; refine zO rfl Rd.asg ?_; refine zN (zT (zS (zS (zR (zA rfl ?_))))); refine zO rfl zJ ?_; refine zN (zT (XA.condF rfl rfl (XA.skip (zT (zR (zA rfl ?_))))))
              refine zA rfl ?_; refine zA rfl ?_; refine zA rfl ?_; refine zA rfl ?_; refine zO rfl (Rd.sliceS (tyrow rfl) rfl rfl rfl rfl (by omega) rfl) ?_; refine zA rfl ?_
              refine zO rfl (Rd.bl (fun _ _ => tyrow) rfl rfl rfl) ?_
              refine XOA.wr0 rfl (WrA.bs1 (tyrow rfl) rfl (tyrow rfl)) ?_
              rintro _ _ _ ⟨g119, rfl, rfl, rfl⟩
              refine XOA.wr0 rfl (WrA.ap1 (tyrow rfl) rfl (tyrow rfl) rfl rfl rfl) ?_
              rintro _ _ _ ⟨p120, c120, rfl, rfl, rfl⟩
              refine zO rfl Rd.asg ?_; refine zN (DA.inb_normal (zT (zR (zA rfl ?_)))); refine zO rfl Rd.asg ?_; refine zN (DA.inb_normal (zT ?_))
              refine ⟨(Keep.upd (Keep.upd (Keep.upd (Keep.updO (Keep.updO (Keep.upd (Keep.upd (Keep.upd (Keep.upd (Keep.upd (Keep.upd (Keep.upd (Keep.upd (Keep.upd (Keep.upd (Keep.upd (Keep.upd (Keep.upd (Keep.upd (Keep.upd (Keep.updO (Keep.upd (Keep.upd (Keep.upd (Keep.upd (Keep.upd (Keep.upd (Keep.upd (Keep.upd (Keep.upd (Keep.upd (Keep.upd (Keep.upd (Keep.upd (Keep.upd (Keep.upd (Keep.hav (Keep.hav (Keep.upd (Keep.upd (Keep.upd (Keep.upd (Keep.upd (Keep.updO (Keep.upd (Keep.upd (Keep.updO (Keep.upd (Keep.upd (Keep.upd (Keep.upd (Keep.upd (Keep.upd (Keep.upd (Keep.upd (Keep.upd (Keep.upd (Keep.upd (Keep.upd (Keep.upd (Keep.upd (Keep.upd (Keep.upd (Keep.upd (Keep.upd (Keep.upd (Keep.upd (Keep.upd (Keep.upd (Keep.upd (Keep.upd (Keep.upd (Keep.upd (Keep.upd (Keep.upd (Keep.upd (Keep.upd (Keep.upd (Keep.upd (Keep.upd (Keep.upd (Keep.upd (Keep.upd (Keep.hav (Keep.hav (Keep.hav (Keep.refl _ _) rfl) rfl) rfl) rfl) rfl) rfl) rfl) rfl) rfl) rfl) rfl) rfl) rfl) rfl) rfl) rfl) rfl) rfl) rfl) rfl) rfl) rfl) rfl) rfl) rfl) rfl) rfl) rfl) rfl) rfl) rfl) rfl) rfl) rfl) rfl) rfl) rfl) rfl) rfl) rfl) rfl) rfl) rfl) rfl) rfl) rfl) rfl) rfl) rfl) rfl) rfl) rfl) rfl) rfl) rfl) rfl) rfl) rfl) rfl) rfl) rfl) rfl) rfl) rfl) rfl) rfl) rfl) rfl) rfl) rfl) rfl) rfl) rfl) rfl) rfl) rfl) rfl) rfl) rfl) rfl) rfl) rfl) rfl) rfl) rfl) rfl), ((i + 1 + runB digitB s (i + 1), (n + 1, acc ++ [(⟨i, s.extract i (i + 1 + runB digitB s (i + 1)), true, m⟩ : Tk)])), (p120, c120)), _, zM, ?_, ⟨rfl, by show i + 1 + runB digitB s (i + 1) ≤ s.size; omega, by show n + 1 ≤ i + 1 + runB digitB s (i + 1); omega, by show (acc ++ [(⟨i, s.extract i (i + 1 + runB digitB s (i + 1)), true, m⟩ : Tk)]).length = n + 1; rw [List.length_append, hacc]; rfl, ⟨f, by show s.size < i + 1 + runB digitB s (i + 1) + f; omega, hRf⟩, rfl⟩, (by show s.size - (i + 1 + runB digitB s (i + 1)) < s.size - i; omega)⟩
              · rw [tksC_snoc]; exact zE
      · have ho : oneT s i = none := by rw [oneT, if_neg (by omega), if_neg (by rw [hl]; exact Bool.noConfusion), if_neg hd]
        have hq : digitB (byteAt s i) = false := by
          cases h : digitB (byteAt s i) with
          | true => exact absurd (.inl h) hd
          | false => rfl
        have h45 : ¬ (byteAt s i = 45) := fun h => hd (.inr h)
        rw [hq] at hrd
        rw [ho] at hRf
        simp only at hRf
        rw [hP, hRf]
        refine zS (zS (zR (zA rfl ?_))); refine zA rfl ?_; refine zO rfl (Rd.lenString (tyrow rfl) rfl rfl) ?_; refine zO rfl (Rd.lss rfl rfl) ?_; refine zN (zT (XA.condT rfl (by first | rfl | exact decide_eq_true (by omega)) ?_)); refine XA.skip (zT (XA.block (zS (zR (zA rfl ?_))))); refine zA rfl ?_
        refine zO rfl (Rd.indexStr (tyrow rfl) rfl rfl rfl (by first | omega | decide | (simp; omega))) ?_
        refine zO rfl Rd.asg ?_; refine zN (zT (zS (zR (zA rfl ?_)))); refine zO rfl zI ?_; refine zO rfl Rd.asg ?_; refine zN (zT (zS (XA.block (zS (zR (zA rfl ?_)))))); refine zO rfl (Rd.eql rfl rfl) ?_; refine zA rfl ?_
        first | (refine zG ?_; refine zA rfl ?_) | refine zH ?_
        first | (refine zG ?_; refine zO rfl (Rd.eql rfl rfl) ?_) | refine zH ?_
        refine zO rfl zP ?_; refine zA rfl ?_
        first | (refine zG ?_; refine zA rfl ?_) | refine zH ?_
        first | (refine zG ?_; refine zO rfl (Rd.eql rfl rfl) ?_) | refine zH ?_
        refine zO rfl zP ?_; refine zA rfl ?_
        first | (refine zG ?_; refine zA rfl ?_) | refine zH ?_
        first | (refine zG ?_; refine zO rfl (Rd.eql rfl rfl) ?_) | refine zH ?_
        refine zO rfl zP ?_; refine zO rfl Rd.asg ?_; refine zN (zT (XA.condF rfl (by first | rfl | exact decide_eq_false (by omega)) ?_)); refine zS (zR (zA rfl ?_)); refine zO rfl (Rd.eql rfl rfl) ?_; refine zA rfl ?_
        first | (refine zG ?_; refine zA rfl ?_) | refine zH ?_
        first | (refine zG ?_; refine zO rfl (Rd.eql rfl rfl) ?_) | refine zH ?_
        refine zO rfl zP ?_; refine zO rfl Rd.asg ?_; refine zN (zT (XA.condF rfl (by first | rfl | exact decide_eq_false (by omega)) ?_)); refine zS (zR (zA rfl ?_))
        refine XOA.wr0 rfl (WrA.cE (hrl) rfl) ?_
        rintro _ _ _ ⟨_, ⟨rfl, rfl, rfl⟩, rfl⟩
        refine XOA.cl ?_; refine zO rfl Rd.asg ?_; refine zN (zT (XA.condF rfl rfl (zS (zR (zA rfl ?_)))))
        refine XOA.wr0 rfl (WrA.cE (hrd) rfl) ?_
        rintro _ _ _ ⟨_, ⟨rfl, rfl, rfl⟩, rfl⟩
        refine XOA.cl ?_; refine zA rfl ?_
        first | (refine zG ?_; refine zA rfl ?_) | refine zH ?_
        first | (refine zG ?_; refine zO rfl (Rd.eql rfl rfl) ?_) | refine zH ?_
        refine zO rfl zP ?_; refine zO rfl Rd.asg ?_; refine zN (zT (XA.condF rfl (by first | rfl | exact decide_eq_false (by omega)) ?_)); refine zS (zR (zA rfl ?_))
        refine XOA.wr0 rfl (WrA.cE (rF_t σ 7 i) rfl) ?_
        rintro _ _ _ ⟨_, ⟨rfl, rfl, rfl⟩, rfl⟩
        refine XOA.cl ?_; refine zO rfl Rd.asg ?_
        refine XOA.wr0 rfl (WrA.st (tyrow rfl) rfl) ?_
        rintro _ _ _ ⟨rfl, rfl, rfl⟩
        refine zN (zT (XA.ret (DA.inb_ret (DA.thn_ret (DA.inb_ret (DA.thn_ret (DA.inb_ret (DA.thn_ret ?_))))))))
        exact bodyA.ret (ResA.tcT rfl rfl rfl (Ld.atBlk (tyrow rfl) rfl zL rfl (by first | exact take0 (by first | rfl | assumption | (refine (ints_len _).trans ?_; assumption) | (simp [*]; (first | done | fail))) | assumption | exact take_app (by first | rfl | assumption | (refine (ints_len _).trans ?_; assumption) | (simp [*]; (first | done | fail))) | (conv => lhs; simp only [List.drop_succ_cons, List.drop_zero, List.take_succ_cons, List.take_zero])) (by first | rfl | assumption | (refine (ints_len _).trans ?_; assumption) | (simp [*]; (first | done | fail))))) (Ent.nil _) ⟨_, rfl, PSl.nil _ _ _, .refl _, rfl⟩
  · have hRe : R = .ok acc := by
      rw [hRf]
      cases f with
      | zero => rfl
      | succ f => rw [scanB, if_neg hlt]
    refine zS (zS (zR (zA rfl ?_))); refine zA rfl ?_; refine zO rfl (Rd.lenString (tyrow rfl) rfl rfl) ?_; refine zO rfl (Rd.lss rfl rfl) ?_; refine zN (zT (XA.condF rfl (by first | rfl | exact decide_eq_false (by omega)) ?_))
    refine XA.exit (DA.thn_exit (DA.thn_exit (DA.inb_same (zT (zS (zR (zA rfl ?_)))))))
    refine zO rfl (Rd.bl (fun _ _ => tyrow) rfl rfl rfl) ?_
    refine zO rfl Rd.asg ?_
    refine XOA.wr0 rfl (WrA.st (tyrow rfl) rfl) ?_
    rintro _ _ _ ⟨rfl, rfl, rfl⟩
    refine zN (zT (XA.ret ?_))
    refine DA.frz (R := lst 42 4 (.slice p n c) _ _) zL lst_frz lst_frz_mono ?_
    rintro σ1 ⟨⟩ hf1 hs1
    rw [hP, hRe]
    exact bodyA.ret (ResA.tcT rfl rfl rfl (Ld.atBlk (tyrow rfl) rfl zL rfl (by first | exact take0 (by first | rfl | assumption | (refine (ints_len _).trans ?_; assumption) | (simp [*]; (first | done | fail))) | assumption | exact take_app (by first | rfl | assumption | (refine (ints_len _).trans ?_; assumption) | (simp [*]; (first | done | fail))) | (conv => lhs; simp only [List.drop_succ_cons, List.drop_zero, List.take_succ_cons, List.take_zero])) (by first | rfl | assumption | (refine (ints_len _).trans ?_; assumption) | (simp [*]; (first | done | fail))))) (Ent.nil _) ⟨_, rfl, (rows_tk σ1 acc).psl hacc.symm hf1, hs1, rfl⟩
end Go.Proofs.YthefnnkmpcgcmaaDoor

namespace Go.Proofs.YthefnnkmpcgcmaaDoor
open Go X
set_option maxHeartbeats 2000000
section
variable {ρ : Env} {S : Heap → Prop} {ty : TypeId}
theorem X.run_equal_fault {a b c d : Int} (w : World) : (Op.equalIn 10000 30 (.agg #[i64 a, i64 b]) (.agg #[i64 c, i64 d])).run Tryd.prog w = .ok (decide (a = c ∧ b = d)) w := by
  have hI : tyOf Tryd.prog 3 = some _ := tyrow rfl
  obtain ⟨dd', ii', z', e1', e2', -⟩ := tyOf_spec hI
  cases dd' <;> simp [kindOf, ty3] at e2'
  have hu : Tryd.prog.underlying 30 = some (.struct (Tryd.prog.fieldsOf 30)) := by kernel_rfl
  have hf : (Tryd.prog.fieldsOf 30).toList.map (fun f => (f.name, f.type, f.offset)) = [("Code", 3, 0), ("At", 3, 1)] := by kernel_rfl
  obtain ⟨f1, f2, hf2⟩ := list2 (l := (Tryd.prog.fieldsOf 30).toList) (by simpa using congrArg List.length hf)
  rw [hf2] at hf
  simp only [List.map_cons, List.map_nil, List.cons.injEq, Prod.mk.injEq, and_true] at hf
  obtain ⟨⟨n1, t1, o1⟩, n2, t2, o2⟩ := hf
  rw [run_equalIn_agg w 9999 _ _ _ hu (by kernel_rfl), hf2]
  have hb : ∀ (w : World), (isAgg 3).run Tryd.prog w = .ok false w := fun w => by unfold isAgg; rw [Sem.run_bind, run_underlying e1' w]; rfl
  have q2 := fun x y => run_equalIn_int (P := Tryd.prog) w 9998 3 .i64 _ x y e1'
  simp [Op.eqFields, part, hb, q2, n1, n2, t1, t2, o1, o2]
  by_cases h1 : a = c
  · by_cases h2 : b = d <;> simp [h1, h2]
  · simp [h1]
theorem X.Rd.neqFaultF {T' : TypeId} {x y : Operand} {a b : Int} (hx : ev ρ x = .agg #[i64 a, i64 b]) (hy : ev ρ y = .agg #[i64 a, i64 b]) : Rd Tryd.prog ρ S (.binOp .neq 30 x y T') ty (.bool false) := by
  refine .pure fun d pos af gd w => ?_
  have h2 : (eqGuard .neq 30 x y (.agg #[i64 a, i64 b]) (.agg #[i64 a, i64 b])).run Tryd.prog w = .ok () w := run_eqGuard_agg w _ _ _ _ _ _ (by kernel_rfl)
  have h3 : (binOp .neq 30 (.agg #[i64 a, i64 b]) (.agg #[i64 a, i64 b])).run Tryd.prog w = .ok (.bool false) w := by
    rw [run_neq_struct]
    rw [X.run_equal_fault (a := a) (b := b) w]
    simp
  simp only [execOp, hx, hy, Sem.run_bind, h2, h3, Result.andThen_ok, Sem.run_pure]
end
def lit1 : ByteArray := ⟨#[40, 110, 117, 109, 32, 45, 53, 41]⟩
def lit2 : ByteArray := ⟨#[40, 53, 120]⟩
def lit3 : ByteArray := ⟨#[48, 53]⟩
theorem scan1 : scanP lit1 = .ok [⟨0, ⟨#[40]⟩, false, 0⟩, ⟨1, ⟨#[110, 117, 109]⟩, false, 0⟩, ⟨5, ⟨#[45, 53]⟩, true, -5⟩, ⟨7, ⟨#[41]⟩, false, 0⟩] := by kernel_rfl
theorem scan2 : errC (scanP lit2) = 0 := by kernel_rfl
theorem scan3 : scanP lit3 = .error (7, 0) := by kernel_rfl
theorem lit1_t (σ : PH) (hT : Tab σ) (hE : Errs σ) : CallsA Tryd.prog 17 #[.string lit1] σ [] (RetA fun v σ' Γ' => ∃ g o c, v = .tuple #[.slice (some ⟨g, o, none⟩) 4 c, .agg #[i64 0, i64 0]] ∧ PRow σ' g (o + 8) [i64 5, .string ⟨#[45, 53]⟩, .bool true, i64 (-5)] ∧ σ.sub σ' ∧ Γ' = []) := by
  have h1 := scan_t σ lit1 (by decide) hT hE
  rw [scan1] at h1
  refine h1.mono fun e σ' Γ' h => ?_
  cases e with
  | returned v =>
    obtain ⟨sl, rfl, hl, hs, rfl⟩ := h
    obtain ⟨p, c, rfl, hc0, hc1⟩ := hl.shape
    obtain ⟨g, o, row, rfl, hr, -, hrow⟩ := hl.at (k := 2) rfl
    have hr : row = _ := hr
    rw [hr] at hrow
    exact ⟨g, o, c, rfl, hrow, hs, rfl⟩
  | _ => exact False.elim h
theorem lit2_t (σ : PH) (hT : Tab σ) (hE : Errs σ) : CallsA Tryd.prog 17 #[.string lit2] σ [] (RetA fun v σ' Γ' => ∃ sl a, v = .tuple #[sl, .agg #[i64 0, i64 a]] ∧ σ.sub σ' ∧ Γ' = []) := by
  have h1 := scan_t σ lit2 (by decide) hT hE
  rw [scan2] at h1
  refine h1.mono fun e σ' Γ' h => ?_
  cases e with
  | returned v =>
    obtain ⟨sl, rfl, hl, hs, rfl⟩ := h
    exact ⟨sl, _, rfl, hs, rfl⟩
  | _ => exact False.elim h
theorem lit3_t (σ : PH) (hT : Tab σ) (hE : Errs σ) : CallsA Tryd.prog 17 #[.string lit3] σ [] (RetA fun v σ' Γ' => ∃ sl, v = .tuple #[sl, .agg #[i64 7, i64 0]] ∧ σ.sub σ' ∧ Γ' = []) := by
  have h1 := scan_t σ lit3 (by decide) hT hE
  rw [scan3] at h1
  refine h1.mono fun e σ' Γ' h => ?_
  cases e with
  | returned v =>
    obtain ⟨sl, rfl, hl, hs, rfl⟩ := h
    exact ⟨sl, rfl, hs, rfl⟩
  | _ => exact False.elim h
theorem tbegun_a (σ : PH) (hT : Tab σ) (hE : Errs σ) : CallsA Tryd.prog 16 #[] σ [] (RetA fun v σ' Γ' => v = .bool true ∧ σ.sub σ' ∧ Γ' = []) := by
  refine enterA0 Tryd.func16 rfl rfl rfl ?_
  refine zS (zR (zO rfl Rd.asg ?_)); refine zN (zT (zS (zR ?_)))
  refine XOA.wr0 rfl (WrA.cE (lit1_t σ hT hE) rfl) ?_
  rintro _ σ1 _ ⟨_, ⟨g, o, c, rfl, hrow1, hs1, rfl⟩, rfl⟩
  refine XOA.cl ?_
  have hT1 := hT.mono hs1
  have hE1 := hE.mono hs1
  refine zA rfl ?_; refine zO rfl (Rd.extract rfl rfl) ?_; refine zO rfl (Rd.extract rfl rfl) ?_
  refine XOA.wr0 rfl (WrA.alloc (tyrow rfl)) ?_
  rintro _ _ _ ⟨g2, rfl, rfl, rfl⟩
  refine zO rfl Rd.asg ?_
  refine XOA.wr0 rfl (WrA.st (tyrow rfl) rfl) ?_
  rintro _ _ _ ⟨rfl, rfl, rfl⟩
  refine zN (zT (zS (zR ?_)))
  refine XOA.wr0 rfl (WrA.cE (lit2_t σ1 hT1 hE1) rfl) ?_
  rintro _ σ2 _ ⟨_, ⟨sl2, a2, rfl, hs2, rfl⟩, rfl⟩
  refine XOA.cl ?_; refine zA rfl ?_; refine zO rfl (Rd.extract rfl rfl) ?_; refine zO rfl (Rd.extract rfl rfl) ?_
  refine XOA.wr0 rfl (WrA.alloc (tyrow rfl)) ?_
  rintro _ _ _ ⟨g4, rfl, rfl, rfl⟩
  refine zO rfl Rd.asg ?_
  refine XOA.wr0 rfl (WrA.st (tyrow rfl) rfl) ?_
  rintro _ _ _ ⟨rfl, rfl, rfl⟩
  refine zN (zT (zS (zR ?_)))
  refine XOA.wr0 rfl (WrA.cE (lit3_t σ2 (hT1.mono hs2) (hE1.mono hs2)) rfl) ?_
  rintro _ σ3 _ ⟨_, ⟨sl3, rfl, hs3, rfl⟩, rfl⟩
  refine XOA.cl ?_
  have hrow : PRow σ3 g (o + 8) _ := (hrow1.mono hs2).mono hs3
  have c2 : PRow σ3 g (o + 8 + 2) [.bool true] := hrow.sub (j := 2) rfl
  have c3 : PRow σ3 g (o + 8 + 3) [i64 (-5)] := hrow.sub (j := 3) rfl
  refine zA rfl ?_; refine zO rfl (Rd.extract rfl rfl) ?_; refine zO rfl (Rd.extract rfl rfl) ?_
  refine XOA.wr0 rfl (WrA.alloc (tyrow rfl)) ?_
  rintro _ _ _ ⟨g6, rfl, rfl, rfl⟩
  refine zO rfl Rd.asg ?_
  refine XOA.wr0 rfl (WrA.st (tyrow rfl) rfl) ?_
  rintro _ _ _ ⟨rfl, rfl, rfl⟩
  refine zN (zT (zS (zR (zV rfl rfl ?_)))); refine zB rfl rfl (tyrow rfl) rfl ?_; refine zO rfl (Rd.eql rfl rfl) ?_; refine zA rfl ?_
  first | (refine zG ?_; refine zA rfl ?_) | refine zH ?_
  first | (refine zG ?_; refine zO rfl (Rd.lenSlice (tyrow rfl) rfl rfl) ?_) | refine zH ?_
  first | (refine zG ?_; refine zO rfl (Rd.eql rfl rfl) ?_) | refine zH ?_
  refine zO rfl zP ?_; refine zA rfl ?_
  first | (refine zG ?_; refine zA rfl ?_) | refine zH ?_
  first | (refine zG ?_; refine zO rfl (Rd.ixS rfl rfl) ?_) | refine zH ?_
  first | (refine zG ?_; refine zV rfl rfl ?_) | refine zH ?_
  first | (refine zG ?_; refine zB rfl rfl (tyrow rfl) rfl ?_) | refine zH ?_
  refine zO rfl zP ?_; refine zA rfl ?_
  first | (refine zG ?_; refine zA rfl ?_) | refine zH ?_
  first | (refine zG ?_; refine zO rfl (Rd.ixS rfl rfl) ?_) | refine zH ?_
  first | (refine zG ?_; refine zV rfl rfl ?_) | refine zH ?_
  first | (refine zG ?_; refine zB rfl rfl (tyrow rfl) rfl ?_) | refine zH ?_
  first | (refine zG ?_; refine zO rfl (Rd.eql rfl rfl) ?_) | refine zH ?_
  refine zO rfl zP ?_; refine zA rfl ?_
  first | (refine zG ?_; refine zV rfl rfl ?_) | refine zH ?_
  first | (refine zG ?_; refine zB rfl rfl (tyrow rfl) rfl ?_) | refine zH ?_
  first | (refine zG ?_; refine zO rfl (Rd.eql rfl rfl) ?_) | refine zH ?_
  refine zO rfl zP ?_; refine zA rfl ?_
  first | (refine zG ?_; refine zV rfl rfl ?_) | refine zH ?_
  first | (refine zG ?_; refine zB rfl rfl (tyrow rfl) rfl ?_) | refine zH ?_
  first | (refine zG ?_; refine zO rfl (Rd.neq rfl rfl) ?_) | refine zH ?_
  refine zO rfl zP ?_; refine zO rfl Rd.asg ?_; refine zN (zT (XA.ret ?_))
  exact bodyA.ret (ResA.one rfl rfl) (Ent.nil _) ⟨rfl, (hs1.trans hs2).trans hs3, rfl⟩
theorem scans_law (σ : PH) (s : ByteArray) (hT : Tab σ) (hE : Errs σ) : CallsA Tryd.prog 5 #[.string s] σ [] (RetA fun r σ' _ => r = .bool true ∧ σ.sub σ') := by
  refine enterA1 Tryd.func5 rfl rfl rfl ?_
  refine zS (zR (zO rfl Rd.asg ?_)); refine zN (zT (zS (zS (zR ?_))))
  refine XOA.wr0 rfl (WrA.cE (tbegun_a σ hT hE) rfl) ?_
  rintro _ σ1 _ ⟨_, ⟨rfl, hs1, rfl⟩, rfl⟩
  refine XOA.cl ?_
  have hT1 := hT.mono hs1
  have hE1 := hE.mono hs1
  refine zO rfl zJ ?_; refine zN (zT (XA.condF rfl rfl (XA.skip (zT (zS (zS (zR (zA rfl ?_)))))))); refine zO rfl (Rd.lenString (tyrow rfl) rfl rfl) ?_; refine zO rfl (Rd.gtr rfl rfl) ?_; refine zN (zT ?_)
  by_cases h9 : 9000 < s.size
  · skip
    refine XA.condT rfl (by first | rfl | exact decide_eq_true (by omega)) ?_; refine zS (zR (zO rfl Rd.asg ?_)); refine zN (zT (XA.ret (DA.thn_ret ?_)))
    exact bodyA.ret (ResA.one rfl rfl) (Ent.nil _) ⟨rfl, hs1⟩
  have hs : s.size ≤ 100000000 := by omega
  refine XA.condF rfl (by first | rfl | exact decide_eq_false (by omega)) ?_; refine XA.skip (zT (zS (zR (zA rfl ?_))))
  refine XOA.wr0 rfl (WrA.cE (scan_t σ1 s hs hT1 hE1) rfl) ?_
  rintro _ σ2 _ ⟨_, ⟨sl, rfl, hl, hs2, rfl⟩, rfl⟩
  refine XOA.cl ?_
  obtain ⟨p, c, rfl, hc0, hc1⟩ := hl.shape
  refine zA rfl ?_; refine zO rfl (Rd.extract rfl rfl) ?_; refine zO rfl (Rd.extract rfl rfl) ?_
  refine XOA.wr0 rfl (WrA.alloc (tyrow rfl)) ?_
  rintro _ _ _ ⟨g4, rfl, rfl, rfl⟩
  refine zO rfl Rd.asg ?_
  refine XOA.wr0 rfl (WrA.st (tyrow rfl) rfl) ?_
  rintro _ _ _ ⟨rfl, rfl, rfl⟩
  refine zN (zT (zS (zR (zA rfl ?_))))
  refine XOA.wr0 rfl (WrA.cE (rscan_t σ2 s hs (hT1.mono hs2) (hE1.mono hs2)) rfl) ?_
  rintro _ σ3 _ ⟨_, ⟨sm, rfl, hm, hs3, rfl⟩, rfl⟩
  refine XOA.cl ?_
  obtain ⟨q, d, rfl, hd0, hd1⟩ := hm.shape
  have hl3 := hl.mono hs3 (fun _ _ h => h)
  generalize okL (scanP s) = L at hl3 hm hc0 hc1 hd0 hd1 hl ⊢
  have hLm : L.length ≤ 9223372036854775807 := by simp only [maxLen] at hc1; omega
  have hself : ¬ ((L.length : Int) ≠ L.length) := fun h => h rfl
  refine zA rfl ?_; refine zO rfl (Rd.extract rfl rfl) ?_; refine zO rfl (Rd.extract rfl rfl) ?_
  refine XOA.wr0 rfl (WrA.alloc (tyrow rfl)) ?_
  rintro _ _ _ ⟨g6, rfl, rfl, rfl⟩
  refine zO rfl Rd.asg ?_
  refine XOA.wr0 rfl (WrA.st (tyrow rfl) rfl) ?_
  rintro _ _ _ ⟨rfl, rfl, rfl⟩
  refine zN (zT (zS (zS (zR (zO rfl (Rd.ldA rfl) ?_))))); refine zO rfl (Rd.ldA rfl) ?_; refine zO rfl (X.Rd.neqFaultF rfl rfl) ?_; refine zA rfl ?_
  first | (refine zG ?_; refine zA rfl ?_) | refine zH ?_
  first | (refine zG ?_; refine zO rfl (Rd.lenSlice (tyrow rfl) rfl rfl) ?_) | refine zH ?_
  first | (refine zG ?_; refine zA rfl ?_) | refine zH ?_
  first | (refine zG ?_; refine zO rfl (Rd.lenSlice (tyrow rfl) rfl rfl) ?_) | refine zH ?_
  first | (refine zG ?_; refine zO rfl (Rd.neq rfl rfl) ?_) | refine zH ?_
  refine zO rfl zP ?_; refine zN (zT (XA.condF rfl (by first | rfl | exact decide_eq_false hself) ?_)); refine XA.skip (zT (zS (zS (zR (zO rfl Rd.asg ?_))))); refine zN (zT (XA.block ?_))
  refine XA.gen [(2, _), (3, _), (5, _), (7, _)] ⟨(by with_reducible (conv => lhs; whnf)), (by with_reducible (conv => lhs; whnf)), (by with_reducible (conv => lhs; whnf)), (by with_reducible (conv => lhs; whnf)), trivial⟩ (fun δ => ?_)
  dsimp only [List.foldl]
  refine XA.loop [(2, 2), (7, 7), (33, 88)] (fun i : Nat => [(7, i64 i)]) (fun i σ' Γ' => σ3 = σ' ∧ i ≤ L.length ∧ Γ' = []) (fun i => L.length - i) 0 (by exact ⟨rfl, trivial⟩) (Δ0 := _) ?_ (⟨rfl, Nat.zero_le _, rfl⟩) ?_
  · exact zE
  rintro i δ _ _ ⟨rfl, hi, rfl⟩
  dsimp only [ovr, List.foldl]
  have hi : i ≤ L.length := hi
  by_cases hlt : i < L.length
  · obtain ⟨t, ht⟩ : ∃ t, L[i]? = some t := ⟨L[i], by simp [hlt]⟩
    obtain ⟨g, o, row, rfl, hr, -, hrow⟩ := hl3.at ht
    obtain ⟨g', o', row', rfl, hr', -, hrow'⟩ := hm.at ht
    have hr : row = tkC t := hr
    have hr' : row' = tkC t := hr'
    subst hr hr'
    have a0 : PRow σ3 g (o + i * 4) [i64 t.at_] := hrow.sub (j := 0) rfl
    have a1 : PRow σ3 g (o + i * 4 + 1) [.string t.text] := hrow.sub (j := 1) rfl
    have a2 : PRow σ3 g (o + i * 4 + 2) [.bool t.num] := hrow.sub (j := 2) rfl
    have a3 : PRow σ3 g (o + i * 4 + 3) [i64 t.n] := hrow.sub (j := 3) rfl
    have b0 : PRow σ3 g' (o' + i * 4) [i64 t.at_] := hrow'.sub (j := 0) rfl
    have b1 : PRow σ3 g' (o' + i * 4 + 1) [.string t.text] := hrow'.sub (j := 1) rfl
    have b2 : PRow σ3 g' (o' + i * 4 + 2) [.bool t.num] := hrow'.sub (j := 2) rfl
    have b3 : PRow σ3 g' (o' + i * 4 + 3) [i64 t.n] := hrow'.sub (j := 3) rfl
    have n1 : ¬ ((t.at_ : Int) ≠ t.at_) := fun h => h rfl
    have n2 : ¬ (t.text ≠ t.text) := fun h => h rfl
    have n3 : ¬ (t.num ≠ t.num) := fun h => h rfl
    have n4 : ¬ (t.n ≠ t.n) := fun h => h rfl
    refine zS (zS (zR (zA rfl ?_))); refine zA rfl ?_; refine zO rfl (Rd.lenSlice (tyrow rfl) rfl rfl) ?_; refine zO rfl (Rd.lss rfl rfl) ?_; refine zN (zT (XA.condT rfl (by first | rfl | exact decide_eq_true (by omega)) ?_)); refine XA.skip (zT (zS (XA.block (zS ?_))))
    refine XA.draw (by kernel_rfl) _ _ [] [(0, .pu), (1, .pu), (2, .pu), (3, .pu), (4, .rd), (5, .pu), (6, .pu), (7, .pu), (8, .pu), (9, .rd), (10, .pu), (11, .pu), (12, .pu), (13, .pu), (14, .pu), (15, .pu), (16, .rd), (17, .pu), (18, .pu), (19, .pu), (20, .pu), (21, .rd), (22, .pu), (23, .pu), (24, .pu), (25, .pu), (26, .pu), (27, .pu), (28, .pu), (29, .rd), (30, .pu), (31, .pu), (32, .pu), (33, .pu), (34, .rd), (35, .pu), (36, .pu), (37, .pu), (38, .pu), (39, .pu), (40, .pu), (41, .pu), (42, .rd), (43, .pu), (44, .pu), (45, .pu), (46, .pu), (47, .rd), (48, .pu), (49, .pu)] (by kernel_rfl) (PH.sub.refl _) (Ent.nil _) ?_
    refine XPA.pu rfl rfl Gd.free Rd.mv ?_; refine XPA.pu rfl rfl Gd.free Rd.mv ?_; refine XPA.pu rfl rfl Gd.free (Rd.ixS rfl rfl) ?_; refine XPA.pu rfl rfl Gd.free (Rd.fA rfl) ?_; refine XPA.rd rfl rfl Gd.free (Rd.ldC rfl (tyrow rfl) rfl) ?_; refine XPA.pu rfl rfl Gd.free Rd.mv ?_
    refine XPA.pu rfl rfl Gd.free Rd.mv ?_; refine XPA.pu rfl rfl Gd.free (Rd.ixS rfl rfl) ?_; refine XPA.pu rfl rfl Gd.free (Rd.fA rfl) ?_; refine XPA.rd rfl rfl Gd.free (Rd.ldC rfl (tyrow rfl) rfl) ?_; refine XPA.pu rfl rfl Gd.free (Rd.neq rfl rfl) ?_; refine XPA.pu rfl rfl Gd.free Rd.mv ?_
    first | refine XPA.puG rfl rfl Rd.mv ?_ | refine XPA.puOffG rfl rfl ?_
    first | refine XPA.puG rfl rfl Rd.mv ?_ | refine XPA.puOffG rfl rfl ?_
    first | refine XPA.puG rfl rfl (Rd.ixS rfl rfl) ?_ | refine XPA.puOffG rfl rfl ?_
    first | refine XPA.puG rfl rfl (Rd.fA rfl) ?_ | refine XPA.puOffG rfl rfl ?_
    first | refine XPA.rdG rfl rfl (Rd.ldC rfl (tyrow rfl) rfl) ?_ | refine XPA.offG rfl rfl ?_
    first | refine XPA.puG rfl rfl Rd.mv ?_ | refine XPA.puOffG rfl rfl ?_
    first | refine XPA.puG rfl rfl Rd.mv ?_ | refine XPA.puOffG rfl rfl ?_
    first | refine XPA.puG rfl rfl (Rd.ixS rfl rfl) ?_ | refine XPA.puOffG rfl rfl ?_
    first | refine XPA.puG rfl rfl (Rd.fA rfl) ?_ | refine XPA.puOffG rfl rfl ?_
    first | refine XPA.rdG rfl rfl (Rd.ldC rfl (tyrow rfl) rfl) ?_ | refine XPA.offG rfl rfl ?_
    first | refine XPA.puG rfl rfl (Rd.neqs rfl rfl) ?_ | refine XPA.puOffG rfl rfl ?_
    refine XPA.pu rfl rfl Gd.free zP ?_; refine XPA.pu rfl rfl Gd.free Rd.mv ?_
    first | refine XPA.puG rfl rfl Rd.mv ?_ | refine XPA.puOffG rfl rfl ?_
    first | refine XPA.puG rfl rfl Rd.mv ?_ | refine XPA.puOffG rfl rfl ?_
    first | refine XPA.puG rfl rfl (Rd.ixS rfl rfl) ?_ | refine XPA.puOffG rfl rfl ?_
    first | refine XPA.puG rfl rfl (Rd.fA rfl) ?_ | refine XPA.puOffG rfl rfl ?_
    first | refine XPA.rdG rfl rfl (Rd.ldC rfl (tyrow rfl) rfl) ?_ | refine XPA.offG rfl rfl ?_
    first | refine XPA.puG rfl rfl Rd.mv ?_ | refine XPA.puOffG rfl rfl ?_
    first | refine XPA.puG rfl rfl Rd.mv ?_ | refine XPA.puOffG rfl rfl ?_
    first | refine XPA.puG rfl rfl (Rd.ixS rfl rfl) ?_ | refine XPA.puOffG rfl rfl ?_
    first | refine XPA.puG rfl rfl (Rd.fA rfl) ?_ | refine XPA.puOffG rfl rfl ?_
    first | refine XPA.rdG rfl rfl (Rd.ldC rfl (tyrow rfl) rfl) ?_ | refine XPA.offG rfl rfl ?_
    first | refine XPA.puG rfl rfl (Rd.neqb (tyrow rfl) rfl rfl rfl) ?_ | refine XPA.puOffG rfl rfl ?_
    refine XPA.pu rfl rfl Gd.free zP ?_; refine XPA.pu rfl rfl Gd.free Rd.mv ?_
    first | refine XPA.puG rfl rfl Rd.mv ?_ | refine XPA.puOffG rfl rfl ?_
    first | refine XPA.puG rfl rfl Rd.mv ?_ | refine XPA.puOffG rfl rfl ?_
    first | refine XPA.puG rfl rfl (Rd.ixS rfl rfl) ?_ | refine XPA.puOffG rfl rfl ?_
    first | refine XPA.puG rfl rfl (Rd.fA rfl) ?_ | refine XPA.puOffG rfl rfl ?_
    first | refine XPA.rdG rfl rfl (Rd.ldC rfl (tyrow rfl) rfl) ?_ | refine XPA.offG rfl rfl ?_
    first | refine XPA.puG rfl rfl Rd.mv ?_ | refine XPA.puOffG rfl rfl ?_
    first | refine XPA.puG rfl rfl Rd.mv ?_ | refine XPA.puOffG rfl rfl ?_
    first | refine XPA.puG rfl rfl (Rd.ixS rfl rfl) ?_ | refine XPA.puOffG rfl rfl ?_
    first | refine XPA.puG rfl rfl (Rd.fA rfl) ?_ | refine XPA.puOffG rfl rfl ?_
    first | refine XPA.rdG rfl rfl (Rd.ldC rfl (tyrow rfl) rfl) ?_ | refine XPA.offG rfl rfl ?_
    first | refine XPA.puG rfl rfl (Rd.neq rfl rfl) ?_ | refine XPA.puOffG rfl rfl ?_
    refine XPA.pu rfl rfl Gd.free zP ?_; refine XPA.nil ?_; refine zT (XA.condF rfl (by first | rfl | exact decide_eq_false n4) ?_); refine XA.skip (DA.inb_normal (zT (zR (zA rfl ?_)))); refine zO rfl zI ?_; refine zO rfl Rd.asg ?_; refine zN (zT ?_)
    refine ⟨(Keep.upd (Keep.upd (Keep.upd (Keep.upd (Keep.upd (Keep.upd (Keep.upd (Keep.upd (Keep.upd (Keep.upd (Keep.upd (Keep.upd (Keep.upd (Keep.upd (Keep.upd (Keep.upd (Keep.upd (Keep.upd (Keep.upd (Keep.upd (Keep.upd (Keep.upd (Keep.upd (Keep.upd (Keep.upd (Keep.upd (Keep.upd (Keep.upd (Keep.upd (Keep.upd (Keep.upd (Keep.upd (Keep.upd (Keep.upd (Keep.upd (Keep.upd (Keep.upd (Keep.upd (Keep.upd (Keep.upd (Keep.upd (Keep.upd (Keep.upd (Keep.upd (Keep.upd (Keep.upd (Keep.upd (Keep.upd (Keep.upd (Keep.upd (Keep.upd (Keep.upd (Keep.upd (Keep.upd (Keep.upd (Keep.upd (Keep.upd (Keep.upd (Keep.hav (Keep.hav (Keep.hav (Keep.refl _ _) rfl) rfl) rfl) rfl) rfl) rfl) rfl) rfl) rfl) rfl) rfl) rfl) rfl) rfl) rfl) rfl) rfl) rfl) rfl) rfl) rfl) rfl) rfl) rfl) rfl) rfl) rfl) rfl) rfl) rfl) rfl) rfl) rfl) rfl) rfl) rfl) rfl) rfl) rfl) rfl) rfl) rfl) rfl) rfl) rfl) rfl) rfl) rfl) rfl) rfl) rfl) rfl) rfl) rfl) rfl) rfl) rfl) rfl) rfl) rfl) rfl), i + 1, _, zM, ?_, ⟨rfl, hlt, rfl⟩, (by omega)⟩
    · exact zE
  · skip
    refine zS (zS (zR (zA rfl ?_))); refine zA rfl ?_; refine zO rfl (Rd.lenSlice (tyrow rfl) rfl rfl) ?_; refine zO rfl (Rd.lss rfl rfl) ?_; refine zN (zT (XA.condF rfl (by first | rfl | exact decide_eq_false (by omega)) ?_))
    refine XA.exit (DA.thn_exit (DA.thn_exit (DA.inb_same (zT (zS (zR (zO rfl Rd.asg ?_))))))); refine zN (zT (XA.ret ?_))
    exact bodyA.ret (ResA.one rfl rfl) (Ent.nil _) ⟨rfl, (hs1.trans hs2).trans hs3⟩
end Go.Proofs.YthefnnkmpcgcmaaDoor

namespace Go.Proofs.YthefnnkmpcgcmaaDoor
open Go X Go.RowKit
set_option maxHeartbeats 1000000
abbrev laid5 : List (String × DataW Unit) := [("math/bits.deBruijn32tab", Rows.laid_math_bits_deBruijn32tab), ("math/bits.deBruijn64tab", Rows.laid_math_bits_deBruijn64tab), ("internal/strconv.uint64pow10", Rows.laid_internal_strconv_uint64pow10), ("strconv.ErrRange", Rows.laid_strconv_ErrRange), ("strconv.ErrSyntax", Rows.laid_strconv_ErrSyntax)]
theorem star : "*" ++ "errors.errorString" = "*errors.errorString" := by decide
theorem errRow (u : TypeId) (h : Tryd.prog.typeName? 3 u = some "*errors.errorString") : u = 158 :=
  typeName_ptr_named (nm := "errors.errorString") (by rw [star]; kernel_rfl) (by kernel_rfl) (by decide) u (by rw [star]; exact h)
theorem var_le {W w : World} {n : String} {cs : Array Value} (hw : (ofHeap W.heap).le w.heap) (h : W.var? Tryd.prog n = some cs) : w.var? Tryd.prog n = some cs := by
  unfold World.var? at h ⊢
  cases hg : Tryd.prog.globalNamed n with
  | none => simp [hg] at h
  | some g =>
    simp only [hg, Option.bind_some] at h ⊢
    cases ho : W.heap[g]? with
    | none => simp [ho] at h
    | some o =>
      have := hw g o ho
      rw [this]
      rw [ho] at h
      exact h
theorem var_row {W : World} {n : String} {g : Nat} {cs : Array Value} (hg : Tryd.prog.globalNamed n = some g) (h : W.var? Tryd.prog n = some cs) : PRow (ofHeap W.heap) g 0 cs.toList := by
  unfold World.var? at h
  simp only [hg, Option.bind_some] at h
  split at h
  · rename_i cs' T fr he
    cases h
    exact ⟨_, _, _, he, by rw [List.drop_zero]; exact List.take_of_length_le (Nat.le_refl _)⟩
  · cases h
theorem list1 {α : Type} {l : List α} (h : l.length = 1) : ∃ a, l = [a] := by
  match l, h with
  | [a], _ => exact ⟨a, rfl⟩
theorem errField : ∃ f : Field, Tryd.prog.underlying 160 = some (.struct #[f]) ∧ f.type = 9 ∧ f.offset = 0 := by
  have hu : Tryd.prog.underlying 160 = some (.struct (Tryd.prog.fieldsOf 160)) := by kernel_rfl
  have hf : (Tryd.prog.fieldsOf 160).toList.map (fun f => (f.type, f.offset)) = [(9, 0)] := by kernel_rfl
  obtain ⟨f, hl⟩ := list1 (l := (Tryd.prog.fieldsOf 160).toList) (by simpa using congrArg List.length hf)
  rw [hl] at hf
  simp only [List.map_cons, List.map_nil, List.cons.injEq, Prod.mk.injEq, and_true] at hf
  refine ⟨f, ?_, hf.1, hf.2⟩
  rw [hu, ← Array.toArray_toList (xs := Tryd.prog.fieldsOf 160), hl]
theorem laid_facts {W : World} (h : laidMet Tryd.prog laid5 W) : Tab (ofHeap W.heap) ∧ Errs (ofHeap W.heap) := by
  have ht := Lib.tabIs_of_head (P := Tryd.prog) (W := W) (k := .u64) (zs := Lib.pow10Tab) (g := 0) (t := 148) (e := 136) (n := 20) (by kernel_rfl) (by kernel_rfl) (by kernel_rfl) (by kernel_rfl) (by kernel_rfl) (by kernel_rfl) h.tail.tail
  obtain ⟨f, hf1, hf2, hf3⟩ := errField
  obtain ⟨a1, s1, hv1, -, -, -⟩ := laid_sentinel h.tail.tail.tail (g := 2) (by kernel_rfl) (ti := 97) (by kernel_rfl) err_if.choose_spec errRow (te := 160) (by kernel_rfl) hf1 hf2 hf3 (by kernel_rfl) (by kernel_rfl) (by kernel_rfl)
  obtain ⟨a2, s2, hv2, -, -, -⟩ := laid_sentinel h.tail.tail.tail.tail (g := 1) (by kernel_rfl) (ti := 97) (by kernel_rfl) err_if.choose_spec errRow (te := 160) (by kernel_rfl) hf1 hf2 hf3 (by kernel_rfl) (by kernel_rfl) (by kernel_rfl)
  refine ⟨fun w hw => ?_, _, _, var_row (by kernel_rfl) hv2, .inr ⟨_, _, rfl⟩, var_row (by kernel_rfl) hv1, .inr ⟨_, _, rfl⟩⟩
  unfold Lib.TabIs at ht ⊢
  exact var_le hw ht
abbrev synS : ByteArray := { data := #[105, 110, 118, 97, 108, 105, 100, 32, 115, 121, 110, 116, 97, 120] }
abbrev rngS : ByteArray := { data := #[118, 97, 108, 117, 101, 32, 111, 117, 116, 32, 111, 102, 32, 114, 97, 110, 103, 101] }
noncomputable def low : Nat := (World.holding Tryd.prog default ⟨#[], #[], []⟩).heap.size
def setCells (cs : Array Value) : Obj → Obj
  | .cells _ t frozen => .cells cs t frozen
  | o => o
def tabOf (d : DataW Unit) : Array Value := match d with
  | .agg l => (l.map fun d => match d with | .lit (.int k z) => Value.int k z | _ => undef).toArray
  | _ => #[]
/-- The settled world with the listed variables as their initialisers lay them. -/
noncomputable def laidWorld (os : Os) : World :=
  let w0 := World.holding Tryd.prog os ⟨#[.cells #[.string synS] 160, .cells #[.string rngS] 160], #[], []⟩
  { w0 with heap := ((((w0.heap.modify 1 (setCells #[.iface 158 (.pointer (some ⟨low, 0, none⟩))])).modify 2 (setCells #[.iface 158 (.pointer (some ⟨low + 1, 0, none⟩))])).modify 0 (setCells (tabOf Rows.laid_internal_strconv_uint64pow10))).modify
      3 (setCells (tabOf Rows.laid_math_bits_deBruijn32tab))).modify 4 (setCells (tabOf Rows.laid_math_bits_deBruijn64tab)) }
set_option maxRecDepth 100000 in
theorem laidWorld_met (os : Os) (args : Array Value) : laidMet Tryd.prog laid5 ((laidWorld os).forCall (fun _ _ => 0) ⟨#[], args, []⟩).memory :=
  laidMet_of_run' 8 (by kernel_rfl) (by kernel_rfl)
end Go.Proofs.YthefnnkmpcgcmaaDoor

namespace Go.Proofs.YthefnnkmpcgcmaaDoor
open Go X Go.ChangeShapes Go.WideShapes Go.ChangeAt Go.RowKit
open Go.ChangeMaps (open_string shut_string)
set_option maxRecDepth 100000 in
theorem tokenScans_lifted (os : Os) (started : os.Started) (H : Type) (enc : TypeId × Value → H) :
    ReturnsInHanded {} Tryd.checked os 5 .any (fun w args => (Rows.tokenScansSpec.pre enc Tryd.prog Tryd.f5 Rows.tokenScansRow.domain false w args ∧ laidMet Tryd.prog laid5 w) ∧ sizedMet enc Tryd.prog Tryd.f5 (OpenSpec.ofChange Rows.tokenScansSpec) false w args)
      (Rows.tokenScansSpec.post enc Tryd.prog Tryd.f5 false true false false) := by
  refine returnsInHanded_of_change_and (C := Tryd.checked) (X := fun w _ => laidMet Tryd.prog laid5 w) (fun _ _ _ hh h => h.of_heap hh) Tryd.own started (by kernel_rfl) Tryd.func5
    (ChangeSpec.witness_at (enc := enc) (C := Tryd.checked) (os := os) (X := fun w _ => laidMet Tryd.prog laid5 w) false (laidWorld os) #[.string ⟨#[]⟩] 8 rfl (by kernel_rfl) (by kernel_rfl) (by kernel_rfl) (by kernel_rfl) (by kernel_rfl) (laidWorld_met os _)) ?_
  intro W base args ds gs before hval0 hW _ _ hL _
  have hval : ∀ (j : Nat) t v, Tryd.f5.params[j]? = some t → args[j]? = some v → Value.okWide Tryd.prog W .any base t v := hval0
  have hW' := hW
  obtain ⟨p, q, hA0, hV, rfl, hfz, hnd⟩ := hW
  have hA : DataW.TrodAll enc Tryd.prog W 0 (fun _ => true) true [9] args.toList ds p := hA0
  obtain ⟨v0, d0, rfl, rfl, h0⟩ := trodAll_one hA
  have hb : Tryd.prog.underlying 4 = some .bool := by kernel_rfl
  refine post_true (fid := 5) (tb := 4) Tryd.laidOut (by kernel_rfl) rfl rfl hb ?_ hW' (callsX_true ?_)
  · obtain ⟨rfl, rfl⟩ := trodVars_none hV; rfl
  · obtain ⟨s, rfl, -, -, -⟩ := open_string (by kernel_rfl : Tryd.prog.underlying 9 = some .string) (hval 0 _ v0 rfl rfl) h0
    obtain ⟨hT, hE⟩ := laid_facts hL
    exact scans_law _ s hT hE
theorem tokenScans_row : Rows.TokenScansSaid :=
  OpenClaim.holds_of_wide 5 Tryd.f5 rfl rfl rfl rfl rfl rfl rfl ⟨rfl, rfl, rfl, rfl, rfl⟩ rfl rfl rfl rfl rfl (by kernel_rfl) Tryd.func5 (by kernel_rfl)
    (of_decide_eq_true (by kernel_rfl)) (by unfold Func.isWrapper; first | (rw [if_pos (by decide +kernel)]; kernel_rfl) | (rw [if_neg (by decide +kernel)]; exact ⟨rfl, rfl⟩))
    (fun os started H enc _ => tokenScans_lifted os started H enc)
theorem tokenScans_holds : Rows.TokenScansCardSaid :=
  Claim7.holds_tied_plain_at .later [] [.data, .data, .data, .sentinel, .sentinel] true (true, "9fbee17c67760fa0909904053e84e62a0a224b532630f95ef45ea5d0c49ecdd4") true
    tokenScans_row (fun _ h => by cases h) (by kernel_rfl) (fun _ h => by cases h) tokenScans_row_tie rfl ⟨rfl, rfl⟩ (by kernel_rfl) rfl
    (fun f fn hf hfn => by
      obtain rfl : f = 5 := Option.some.inj ((show Tryd.prog.funcNamed "overwinter/overwinterlaw.TokenScans" = some 5 by kernel_rfl).symm.trans hf) |>.symm
      obtain rfl : fn = Tryd.f5 := (Option.some.inj (Tryd.func5.symm.trans hfn)).symm
      exact ⟨by kernel_rfl, fun j t ht => by
        have hm : t ∈ [9] := by simpa using Array.mem_of_getElem? ht
        have hall : ([9].all fun u => !Tryd.prog.wantsStandIn u) = true := by kernel_rfl
        exact (show Tryd.prog.wantsStandIn t = false by simpa using List.all_eq_true.1 hall t hm)⟩)
    (by kernel_rfl)
end Go.Proofs.YthefnnkmpcgcmaaDoor

