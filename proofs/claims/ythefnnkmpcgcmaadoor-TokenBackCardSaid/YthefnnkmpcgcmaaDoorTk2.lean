/- The law TokenBack holds: the texts of tokens, with blanks between, are the same tokens again. Condition: the given card's own, that the variables of the library that it lists hold what it lays. -/
import Derived.Test.YthefnnkmpcgcmaaDoorTk1
import Derived.Test.YthefnnkmpcgcmaaDoorRows
import Derived.LaidLaws
import Derived.Stop.LaidErr
import Derived.RowKit3
import Derived.RowKitTokens
import Derived.ChangeMaps5
import Derived.Handed
import Derived.SizedLaws
import Derived.Test.YthefnnkmpcgcmaaDoorCards
import Derived.Test.YthefnnkmpcgcmaaDoorTie
namespace Go.Proofs.YthefnnkmpcgcmaaDoor
open Go X
set_option maxHeartbeats 2000000
structure Tk where
  at_ : Nat
  text : ByteArray
  num : Bool
  n : Int
def oneT (s : ByteArray) (i : Nat) : Option Tk :=
  if byteAt s i = 40 ∨ byteAt s i = 41 then some ⟨i, s.extract i (i + 1), false, 0⟩
  else if letterB (byteAt s i) = true then some ⟨i, s.extract i (i + runB letterB s i), false, 0⟩
  else if digitB (byteAt s i) = true ∨ byteAt s i = 45 then
    (longOf (s.extract i (i + 1 + runB digitB s (i + 1)))).map fun n => ⟨i, s.extract i (i + 1 + runB digitB s (i + 1)), true, n⟩
  else none
def tkC (t : Tk) : List Value := [i64 t.at_, .string t.text, .bool t.num, i64 t.n]
def oneC (o : Option Tk) : Value := match o with
  | some t => .tuple #[.agg (tkC t).toArray, i64 0]
  | none => .tuple #[.agg #[i64 0, .string ByteArray.empty, .bool false, i64 0], i64 7]
theorem one_tok (σ : PH) (s : ByteArray) (i : Nat) (hi : i < s.size) (hs : s.size ≤ 100000000) (hT : Tab σ) (hE : Errs σ) :
    CallsA Tryd.prog 35 #[.string s, i64 i] σ [] (RetA fun v σ' Γ' => v = oneC (oneT s i) ∧ σ = σ' ∧ Γ' = []) := by
  have hb := byteAt_lt s i
  by_cases h1 : byteAt s i = 40
  · have e : oneT s i = some ⟨i, s.extract i (i + 1), false, 0⟩ := by rw [oneT, if_pos (.inl h1)]
    rw [e]
    refine enterA2 Tryd.func35 rfl rfl rfl ?_
    refine zS (zR ?_)
    refine XOA.wr0 rfl (WrA.alloc (tyrow rfl)) ?_
    rintro _ _ _ ⟨g4, rfl, rfl, rfl⟩
    refine zO rfl Rd.asg ?_; refine zN (zT (zS (zR (zA rfl ?_)))); refine zA rfl ?_
    refine zO rfl (Rd.indexStr (tyrow rfl) rfl rfl rfl (by first | omega | decide | (simp; omega))) ?_
    refine zO rfl Rd.asg ?_; refine zN (zT (zS (XA.block (zS (zR (zA rfl ?_)))))); refine zO rfl (Rd.eql rfl rfl) ?_; refine zA rfl ?_
    first | (refine zG ?_; refine zA rfl ?_) | refine zH ?_
    first | (refine zG ?_; refine zO rfl (Rd.eql rfl rfl) ?_) | refine zH ?_
    refine zO rfl zP ?_; refine zO rfl Rd.asg ?_; refine zN (zT (XA.condT rfl (by first | rfl | exact decide_eq_true (by omega)) ?_)); refine zS (zR (zA rfl ?_)); refine zA rfl ?_; refine zA rfl ?_; refine zA rfl ?_; refine zO rfl zI ?_
    refine zO rfl (Rd.sliceStr (tyrow rfl) rfl rfl rfl rfl (by omega)) ?_
    refine zO rfl (Rd.bl (fun _ _ => tyrow) rfl rfl rfl) ?_
    refine XOA.wr0 rfl (WrA.st (tyrow rfl) rfl) ?_
    rintro _ _ _ ⟨rfl, rfl, rfl⟩
    refine zO rfl Rd.asg ?_; refine zN (zT (XA.ret (DA.inb_ret (DA.thn_ret ?_))))
    exact bodyA.ret (ResA.ctT rfl rfl rfl (Ld.atBlk (tyrow rfl) rfl zL rfl (by first | exact take0 (by first | rfl | assumption | (refine (ints_len _).trans ?_; assumption) | (simp [*]; (first | done | fail))) | assumption | exact take_app (by first | rfl | assumption | (refine (ints_len _).trans ?_; assumption) | (simp [*]; (first | done | fail))) | (conv => lhs; simp only [List.drop_succ_cons, List.drop_zero, List.take_succ_cons, List.take_zero])) (by first | rfl | assumption | (refine (ints_len _).trans ?_; assumption) | (simp [*]; (first | done | fail))))) (Ent.nil _) ⟨rfl, rfl, rfl⟩
  by_cases h2 : byteAt s i = 41
  · have e : oneT s i = some ⟨i, s.extract i (i + 1), false, 0⟩ := by rw [oneT, if_pos (.inr h2)]
    rw [e]
    refine enterA2 Tryd.func35 rfl rfl rfl ?_
    refine zS (zR ?_)
    refine XOA.wr0 rfl (WrA.alloc (tyrow rfl)) ?_
    rintro _ _ _ ⟨g4, rfl, rfl, rfl⟩
    refine zO rfl Rd.asg ?_; refine zN (zT (zS (zR (zA rfl ?_)))); refine zA rfl ?_
    refine zO rfl (Rd.indexStr (tyrow rfl) rfl rfl rfl (by first | omega | decide | (simp; omega))) ?_
    refine zO rfl Rd.asg ?_; refine zN (zT (zS (XA.block (zS (zR (zA rfl ?_)))))); refine zO rfl (Rd.eql rfl rfl) ?_; refine zA rfl ?_
    first | (refine zG ?_; refine zA rfl ?_) | refine zH ?_
    first | (refine zG ?_; refine zO rfl (Rd.eql rfl rfl) ?_) | refine zH ?_
    refine zO rfl zP ?_; refine zO rfl Rd.asg ?_; refine zN (zT (XA.condT rfl (by first | rfl | exact decide_eq_true (by omega)) ?_)); refine zS (zR (zA rfl ?_)); refine zA rfl ?_; refine zA rfl ?_; refine zA rfl ?_; refine zO rfl zI ?_
    refine zO rfl (Rd.sliceStr (tyrow rfl) rfl rfl rfl rfl (by omega)) ?_
    refine zO rfl (Rd.bl (fun _ _ => tyrow) rfl rfl rfl) ?_
    refine XOA.wr0 rfl (WrA.st (tyrow rfl) rfl) ?_
    rintro _ _ _ ⟨rfl, rfl, rfl⟩
    refine zO rfl Rd.asg ?_; refine zN (zT (XA.ret (DA.inb_ret (DA.thn_ret ?_))))
    exact bodyA.ret (ResA.ctT rfl rfl rfl (Ld.atBlk (tyrow rfl) rfl zL rfl (by first | exact take0 (by first | rfl | assumption | (refine (ints_len _).trans ?_; assumption) | (simp [*]; (first | done | fail))) | assumption | exact take_app (by first | rfl | assumption | (refine (ints_len _).trans ?_; assumption) | (simp [*]; (first | done | fail))) | (conv => lhs; simp only [List.drop_succ_cons, List.drop_zero, List.take_succ_cons, List.take_zero])) (by first | rfl | assumption | (refine (ints_len _).trans ?_; assumption) | (simp [*]; (first | done | fail))))) (Ent.nil _) ⟨rfl, rfl, rfl⟩
  have h12 : ¬ (byteAt s i = 40 ∨ byteAt s i = 41) := by omega
  have hlet := letter_t σ (byteAt s i) hb
  have hle1 := runB_le letterB s (i := i) (by omega)
  have hle2 := runB_le digitB s (i := i + 1) (by omega)
  have hdig := digit_t σ (byteAt s i) hb
  have hrl := run_t σ s i 59 letterB letter_t (by omega) hs
  have hrd := run_t σ s (i + 1) 60 digitB digit_t (by omega) hs
  refine enterA2 Tryd.func35 rfl rfl rfl ?_
  refine zS (zR ?_)
  refine XOA.wr0 rfl (WrA.alloc (tyrow rfl)) ?_
  rintro _ _ _ ⟨g4, rfl, rfl, rfl⟩
  refine zO rfl Rd.asg ?_; refine zN (zT (zS (zR (zA rfl ?_)))); refine zA rfl ?_
  refine zO rfl (Rd.indexStr (tyrow rfl) rfl rfl rfl (by first | omega | decide | (simp; omega))) ?_
  refine zO rfl Rd.asg ?_; refine zN (zT (zS (XA.block (zS (zR (zA rfl ?_)))))); refine zO rfl (Rd.eql rfl rfl) ?_; refine zA rfl ?_
  first | (refine zG ?_; refine zA rfl ?_) | refine zH ?_
  first | (refine zG ?_; refine zO rfl (Rd.eql rfl rfl) ?_) | refine zH ?_
  refine zO rfl zP ?_; refine zO rfl Rd.asg ?_; refine zN (zT (XA.condF rfl (by first | rfl | exact decide_eq_false (by omega)) ?_)); refine zS (zR (zA rfl ?_))
  cases hl : letterB (byteAt s i) with
  | true =>
    have e : oneT s i = some ⟨i, s.extract i (i + runB letterB s i), false, 0⟩ := by rw [oneT, if_neg h12, if_pos hl]
    rw [e]
    rw [hl] at hlet
    refine XOA.wr0 rfl (WrA.cE (hlet) rfl) ?_
    rintro _ _ _ ⟨_, ⟨rfl, rfl, rfl⟩, rfl⟩
    refine XOA.cl ?_; refine zO rfl Rd.asg ?_; refine zN (zT (XA.condT rfl rfl (zS (zR (zA rfl ?_))))); refine zA rfl ?_; refine zA rfl ?_; refine zA rfl ?_; refine zA rfl ?_; refine zA rfl ?_
    refine XOA.wr0 rfl (WrA.cE (hrl) rfl) ?_
    rintro _ _ _ ⟨_, ⟨rfl, rfl, rfl⟩, rfl⟩
    refine XOA.cl ?_; refine zO rfl zI ?_; refine zO rfl (Rd.sliceStr (tyrow rfl) rfl rfl rfl rfl (by omega)) ?_
    refine zO rfl (Rd.bl (fun _ _ => tyrow) rfl rfl rfl) ?_
    refine XOA.wr0 rfl (WrA.st (tyrow rfl) rfl) ?_
    rintro _ _ _ ⟨rfl, rfl, rfl⟩
    refine zO rfl Rd.asg ?_; refine zN (zT (XA.ret (DA.inb_ret (DA.thn_ret ?_))))
    exact bodyA.ret (ResA.ctT rfl rfl rfl (Ld.atBlk (tyrow rfl) rfl zL rfl (by first | exact take0 (by first | rfl | assumption | (refine (ints_len _).trans ?_; assumption) | (simp [*]; (first | done | fail))) | assumption | exact take_app (by first | rfl | assumption | (refine (ints_len _).trans ?_; assumption) | (simp [*]; (first | done | fail))) | (conv => lhs; simp only [List.drop_succ_cons, List.drop_zero, List.take_succ_cons, List.take_zero])) (by first | rfl | assumption | (refine (ints_len _).trans ?_; assumption) | (simp [*]; (first | done | fail))))) (Ent.nil _) ⟨rfl, rfl, rfl⟩
  | false =>
    have hl' : ¬ letterB (byteAt s i) = true := by rw [hl]; exact Bool.noConfusion
    rw [hl] at hlet
    by_cases hd : digitB (byteAt s i) = true ∨ byteAt s i = 45
    · have e : oneT s i = (longOf (s.extract i (i + 1 + runB digitB s (i + 1)))).map fun n => ⟨i, s.extract i (i + 1 + runB digitB s (i + 1)), true, n⟩ := by rw [oneT, if_neg h12, if_neg hl', if_pos hd]
      obtain ⟨tx, htx⟩ : ∃ tx, tx = s.extract i (i + 1 + runB digitB s (i + 1)) := ⟨_, rfl⟩
      have htx2 : s.extract (i : Int).toNat (((i : Int) + 1) + (runB digitB s (i + 1) : Nat)).toNat = tx := by rw [htx]; congr 1 <;> omega
      rw [← htx] at e
      rw [e]
      have htz : tx.size ≤ 100000000 := by rw [htx, ByteArray.size_extract]; omega
      have hpar := parse_a σ tx htz hE
      cases hq : digitB (byteAt s i) with
      | true =>
        rw [hq] at hdig
        refine XOA.wr0 rfl (WrA.cE (hlet) rfl) ?_
        rintro _ _ _ ⟨_, ⟨rfl, rfl, rfl⟩, rfl⟩
        refine XOA.cl ?_; refine zO rfl Rd.asg ?_; refine zN (zT (XA.condF rfl rfl (zS (zR (zA rfl ?_)))))
        refine XOA.wr0 rfl (WrA.cE (hdig) rfl) ?_
        rintro _ _ _ ⟨_, ⟨rfl, rfl, rfl⟩, rfl⟩
        refine XOA.cl ?_; refine zO rfl zJ ?_; refine zA rfl ?_
        first | (refine zG ?_; refine zA rfl ?_) | refine zH ?_
        first | (refine zG ?_; refine zO rfl (Rd.neq rfl rfl) ?_) | refine zH ?_
        refine zO rfl zP ?_; refine zO rfl Rd.asg ?_; refine zN (zT (XA.condF rfl rfl (XA.skip (DA.inb_normal (zT (zS (zR (zA rfl ?_)))))))); refine zA rfl ?_; refine zA rfl ?_; refine zO rfl zI ?_; refine zA rfl ?_; refine zA rfl ?_; refine zO rfl zI ?_
        refine XOA.wr0 rfl (WrA.cE (hrd) rfl) ?_
        rintro _ _ _ ⟨_, ⟨rfl, rfl, rfl⟩, rfl⟩
        refine XOA.cl ?_; refine zO rfl zI ?_; refine zO rfl (Rd.sliceS (tyrow rfl) rfl rfl rfl rfl (by omega) htx2) ?_; refine zO rfl Rd.asg ?_; refine zN (zT (zS (zR (zA rfl ?_))))
        refine XOA.wr0 rfl (WrA.cE (hpar) rfl) ?_
        rintro v _ _ ⟨_, ⟨hnum, rfl, rfl⟩, rfl⟩
        refine XOA.cl ?_
        rcases hnum with ⟨n, hn, rfl⟩ | ⟨hno, n, a, rfl⟩
        · obtain ⟨hn0, hn1⟩ := parse_bounds hn
          rw [longOf_ok hn]
          refine zA rfl ?_; refine zO rfl (Rd.extract rfl rfl) ?_; refine zO rfl (Rd.extract rfl rfl) ?_; refine zO rfl Rd.asg ?_; refine zO rfl Rd.asg ?_; refine zN (zT (zS (zS (zR (zA rfl ?_))))); refine zO rfl (Rd.neqIfF err_if.choose_spec rfl) ?_; refine zA rfl ?_
          first | (refine zG ?_; refine zA rfl ?_) | refine zH ?_
          first | refine XOA.wanted rfl rfl ?_ | refine XOA.wq rfl rfl ?_
          refine XOA.wr0 rfl (WrA.cE (itoa_a σ n hn0 hn1 hT) rfl) ?_
          rintro _ _ _ ⟨_, ⟨rfl, rfl, rfl⟩, rfl⟩
          refine XOA.cl ?_
          first | (refine zG ?_; refine zA rfl ?_) | refine zH ?_
          first | (refine zG ?_; refine zO rfl (Rd.neqs rfl rfl) ?_) | refine zH ?_
          refine zO rfl zP ?_; refine zN (zT ?_)
          by_cases hq : itoaS n = tx
          · have hq' : ¬ (itoaS n ≠ tx) := fun h => h hq
            rw [if_pos hq]
            refine XA.condF rfl (by first | rfl | exact decide_eq_false hq') ?_; refine XA.skip (zT (zS (zR (zA rfl ?_)))); refine zA rfl ?_; refine zA rfl ?_
            refine zO rfl (Rd.bl (fun _ _ => tyrow) rfl rfl rfl) ?_
            refine XOA.wr0 rfl (WrA.st (tyrow rfl) rfl) ?_
            rintro _ _ _ ⟨rfl, rfl, rfl⟩
            refine zO rfl Rd.asg ?_; refine zN (zT (XA.ret ?_))
            exact bodyA.ret (ResA.ctT rfl rfl rfl (Ld.atBlk (tyrow rfl) rfl zL rfl (by first | exact take0 (by first | rfl | assumption | (refine (ints_len _).trans ?_; assumption) | (simp [*]; (first | done | fail))) | assumption | exact take_app (by first | rfl | assumption | (refine (ints_len _).trans ?_; assumption) | (simp [*]; (first | done | fail))) | (conv => lhs; simp only [List.drop_succ_cons, List.drop_zero, List.take_succ_cons, List.take_zero])) (by first | rfl | assumption | (refine (ints_len _).trans ?_; assumption) | (simp [*]; (first | done | fail))))) (Ent.nil _) ⟨rfl, rfl, rfl⟩
          · rw [if_neg hq]
            refine XA.condT rfl (by first | rfl | exact decide_eq_true hq) ?_; refine zS (zR ?_)
            refine zO rfl (Rd.bl (fun _ _ => tyrow) rfl rfl rfl) ?_
            refine XOA.wr0 rfl (WrA.st (tyrow rfl) rfl) ?_
            rintro _ _ _ ⟨rfl, rfl, rfl⟩
            refine zO rfl Rd.asg ?_; refine zN (zT (XA.ret (DA.thn_ret ?_)))
            exact bodyA.ret (ResA.ctT rfl rfl rfl (Ld.atBlk (tyrow rfl) rfl zL rfl (by first | exact take0 (by first | rfl | assumption | (refine (ints_len _).trans ?_; assumption) | (simp [*]; (first | done | fail))) | assumption | exact take_app (by first | rfl | assumption | (refine (ints_len _).trans ?_; assumption) | (simp [*]; (first | done | fail))) | (conv => lhs; simp only [List.drop_succ_cons, List.drop_zero, List.take_succ_cons, List.take_zero])) (by first | rfl | assumption | (refine (ints_len _).trans ?_; assumption) | (simp [*]; (first | done | fail))))) (Ent.nil _) ⟨rfl, rfl, rfl⟩
        · rw [longOf_bad hno]
          refine zA rfl ?_; refine zO rfl (Rd.extract rfl rfl) ?_; refine zO rfl (Rd.extract rfl rfl) ?_; refine zO rfl Rd.asg ?_; refine zO rfl Rd.asg ?_; refine zN (zT (zS (zS (zR (zA rfl ?_))))); refine zO rfl (Rd.neqIfT err_if.choose_spec rfl) ?_; refine zA rfl ?_
          first | (refine zG ?_; refine zA rfl ?_) | refine zH ?_
          first | refine zH ?_
          first | (refine zG ?_; refine zA rfl ?_) | refine zH ?_
          first | (refine zG ?_; refine zO rfl (Rd.neqs rfl rfl) ?_) | refine zH ?_
          refine zO rfl zP ?_; refine zN (zT (XA.condT rfl rfl (zS (zR ?_))))
          refine zO rfl (Rd.bl (fun _ _ => tyrow) rfl rfl rfl) ?_
          refine XOA.wr0 rfl (WrA.st (tyrow rfl) rfl) ?_
          rintro _ _ _ ⟨rfl, rfl, rfl⟩
          refine zO rfl Rd.asg ?_; refine zN (zT (XA.ret (DA.thn_ret ?_)))
          exact bodyA.ret (ResA.ctT rfl rfl rfl (Ld.atBlk (tyrow rfl) rfl zL rfl (by first | exact take0 (by first | rfl | assumption | (refine (ints_len _).trans ?_; assumption) | (simp [*]; (first | done | fail))) | assumption | exact take_app (by first | rfl | assumption | (refine (ints_len _).trans ?_; assumption) | (simp [*]; (first | done | fail))) | (conv => lhs; simp only [List.drop_succ_cons, List.drop_zero, List.take_succ_cons, List.take_zero])) (by first | rfl | assumption | (refine (ints_len _).trans ?_; assumption) | (simp [*]; (first | done | fail))))) (Ent.nil _) ⟨rfl, rfl, rfl⟩

      | false =>
        have h45 : byteAt s i = 45 := hd.resolve_left (by rw [hq]; exact Bool.noConfusion)
        have h45' : ¬ ((byteAt s i : Int) ≠ 45) := by omega
        rw [hq] at hdig
        refine XOA.wr0 rfl (WrA.cE (hlet) rfl) ?_
        rintro _ _ _ ⟨_, ⟨rfl, rfl, rfl⟩, rfl⟩
        refine XOA.cl ?_; refine zO rfl Rd.asg ?_; refine zN (zT (XA.condF rfl rfl (zS (zR (zA rfl ?_)))))
        refine XOA.wr0 rfl (WrA.cE (hdig) rfl) ?_
        rintro _ _ _ ⟨_, ⟨rfl, rfl, rfl⟩, rfl⟩
        refine XOA.cl ?_; refine zO rfl zJ ?_; refine zA rfl ?_
        first | (refine zG ?_; refine zA rfl ?_) | refine zH ?_
        first | (refine zG ?_; refine zO rfl (Rd.neq rfl rfl) ?_) | refine zH ?_
        refine zO rfl zP ?_; refine zO rfl Rd.asg ?_; refine zN (zT (XA.condF rfl (by first | rfl | exact decide_eq_false h45') ?_)); refine XA.skip (DA.inb_normal (zT (zS (zR (zA rfl ?_))))); refine zA rfl ?_; refine zA rfl ?_; refine zO rfl zI ?_; refine zA rfl ?_; refine zA rfl ?_; refine zO rfl zI ?_
        refine XOA.wr0 rfl (WrA.cE (hrd) rfl) ?_
        rintro _ _ _ ⟨_, ⟨rfl, rfl, rfl⟩, rfl⟩
        refine XOA.cl ?_; refine zO rfl zI ?_; refine zO rfl (Rd.sliceS (tyrow rfl) rfl rfl rfl rfl (by omega) htx2) ?_; refine zO rfl Rd.asg ?_; refine zN (zT (zS (zR (zA rfl ?_))))
        refine XOA.wr0 rfl (WrA.cE (hpar) rfl) ?_
        rintro v _ _ ⟨_, ⟨hnum, rfl, rfl⟩, rfl⟩
        refine XOA.cl ?_
        rcases hnum with ⟨n, hn, rfl⟩ | ⟨hno, n, a, rfl⟩
        · obtain ⟨hn0, hn1⟩ := parse_bounds hn
          rw [longOf_ok hn]
          refine zA rfl ?_; refine zO rfl (Rd.extract rfl rfl) ?_; refine zO rfl (Rd.extract rfl rfl) ?_; refine zO rfl Rd.asg ?_; refine zO rfl Rd.asg ?_; refine zN (zT (zS (zS (zR (zA rfl ?_))))); refine zO rfl (Rd.neqIfF err_if.choose_spec rfl) ?_; refine zA rfl ?_
          first | (refine zG ?_; refine zA rfl ?_) | refine zH ?_
          first | refine XOA.wanted rfl rfl ?_ | refine XOA.wq rfl rfl ?_
          refine XOA.wr0 rfl (WrA.cE (itoa_a σ n hn0 hn1 hT) rfl) ?_
          rintro _ _ _ ⟨_, ⟨rfl, rfl, rfl⟩, rfl⟩
          refine XOA.cl ?_
          first | (refine zG ?_; refine zA rfl ?_) | refine zH ?_
          first | (refine zG ?_; refine zO rfl (Rd.neqs rfl rfl) ?_) | refine zH ?_
          refine zO rfl zP ?_; refine zN (zT ?_)
          by_cases hq : itoaS n = tx
          · have hq' : ¬ (itoaS n ≠ tx) := fun h => h hq
            rw [if_pos hq]
            refine XA.condF rfl (by first | rfl | exact decide_eq_false hq') ?_; refine XA.skip (zT (zS (zR (zA rfl ?_)))); refine zA rfl ?_; refine zA rfl ?_
            refine zO rfl (Rd.bl (fun _ _ => tyrow) rfl rfl rfl) ?_
            refine XOA.wr0 rfl (WrA.st (tyrow rfl) rfl) ?_
            rintro _ _ _ ⟨rfl, rfl, rfl⟩
            refine zO rfl Rd.asg ?_; refine zN (zT (XA.ret ?_))
            exact bodyA.ret (ResA.ctT rfl rfl rfl (Ld.atBlk (tyrow rfl) rfl zL rfl (by first | exact take0 (by first | rfl | assumption | (refine (ints_len _).trans ?_; assumption) | (simp [*]; (first | done | fail))) | assumption | exact take_app (by first | rfl | assumption | (refine (ints_len _).trans ?_; assumption) | (simp [*]; (first | done | fail))) | (conv => lhs; simp only [List.drop_succ_cons, List.drop_zero, List.take_succ_cons, List.take_zero])) (by first | rfl | assumption | (refine (ints_len _).trans ?_; assumption) | (simp [*]; (first | done | fail))))) (Ent.nil _) ⟨rfl, rfl, rfl⟩
          · rw [if_neg hq]
            refine XA.condT rfl (by first | rfl | exact decide_eq_true hq) ?_; refine zS (zR ?_)
            refine zO rfl (Rd.bl (fun _ _ => tyrow) rfl rfl rfl) ?_
            refine XOA.wr0 rfl (WrA.st (tyrow rfl) rfl) ?_
            rintro _ _ _ ⟨rfl, rfl, rfl⟩
            refine zO rfl Rd.asg ?_; refine zN (zT (XA.ret (DA.thn_ret ?_)))
            exact bodyA.ret (ResA.ctT rfl rfl rfl (Ld.atBlk (tyrow rfl) rfl zL rfl (by first | exact take0 (by first | rfl | assumption | (refine (ints_len _).trans ?_; assumption) | (simp [*]; (first | done | fail))) | assumption | exact take_app (by first | rfl | assumption | (refine (ints_len _).trans ?_; assumption) | (simp [*]; (first | done | fail))) | (conv => lhs; simp only [List.drop_succ_cons, List.drop_zero, List.take_succ_cons, List.take_zero])) (by first | rfl | assumption | (refine (ints_len _).trans ?_; assumption) | (simp [*]; (first | done | fail))))) (Ent.nil _) ⟨rfl, rfl, rfl⟩
        · rw [longOf_bad hno]
          refine zA rfl ?_; refine zO rfl (Rd.extract rfl rfl) ?_; refine zO rfl (Rd.extract rfl rfl) ?_; refine zO rfl Rd.asg ?_; refine zO rfl Rd.asg ?_; refine zN (zT (zS (zS (zR (zA rfl ?_))))); refine zO rfl (Rd.neqIfT err_if.choose_spec rfl) ?_; refine zA rfl ?_
          first | (refine zG ?_; refine zA rfl ?_) | refine zH ?_
          first | refine zH ?_
          first | (refine zG ?_; refine zA rfl ?_) | refine zH ?_
          first | (refine zG ?_; refine zO rfl (Rd.neqs rfl rfl) ?_) | refine zH ?_
          refine zO rfl zP ?_; refine zN (zT (XA.condT rfl rfl (zS (zR ?_))))
          refine zO rfl (Rd.bl (fun _ _ => tyrow) rfl rfl rfl) ?_
          refine XOA.wr0 rfl (WrA.st (tyrow rfl) rfl) ?_
          rintro _ _ _ ⟨rfl, rfl, rfl⟩
          refine zO rfl Rd.asg ?_; refine zN (zT (XA.ret (DA.thn_ret ?_)))
          exact bodyA.ret (ResA.ctT rfl rfl rfl (Ld.atBlk (tyrow rfl) rfl zL rfl (by first | exact take0 (by first | rfl | assumption | (refine (ints_len _).trans ?_; assumption) | (simp [*]; (first | done | fail))) | assumption | exact take_app (by first | rfl | assumption | (refine (ints_len _).trans ?_; assumption) | (simp [*]; (first | done | fail))) | (conv => lhs; simp only [List.drop_succ_cons, List.drop_zero, List.take_succ_cons, List.take_zero])) (by first | rfl | assumption | (refine (ints_len _).trans ?_; assumption) | (simp [*]; (first | done | fail))))) (Ent.nil _) ⟨rfl, rfl, rfl⟩

    · have e : oneT s i = none := by rw [oneT, if_neg h12, if_neg hl', if_neg hd]
      have hq : digitB (byteAt s i) = false := by
        cases h : digitB (byteAt s i) with
        | true => exact absurd (.inl h) hd
        | false => rfl
      have h45 : (byteAt s i : Int) ≠ 45 := fun h => hd (.inr (by omega))
      rw [hq] at hdig
      rw [e]
      refine XOA.wr0 rfl (WrA.cE (hlet) rfl) ?_
      rintro _ _ _ ⟨_, ⟨rfl, rfl, rfl⟩, rfl⟩
      refine XOA.cl ?_; refine zO rfl Rd.asg ?_; refine zN (zT (XA.condF rfl rfl (zS (zR (zA rfl ?_)))))
      refine XOA.wr0 rfl (WrA.cE (hdig) rfl) ?_
      rintro _ _ _ ⟨_, ⟨rfl, rfl, rfl⟩, rfl⟩
      refine XOA.cl ?_; refine zO rfl zJ ?_; refine zA rfl ?_
      first | (refine zG ?_; refine zA rfl ?_) | refine zH ?_
      first | (refine zG ?_; refine zO rfl (Rd.neq rfl rfl) ?_) | refine zH ?_
      refine zO rfl zP ?_; refine zO rfl Rd.asg ?_; refine zN (zT (XA.condT rfl (by first | rfl | exact decide_eq_true h45) ?_)); refine zS (zR ?_)
      refine zO rfl (Rd.bl (fun _ _ => tyrow) rfl rfl rfl) ?_
      refine XOA.wr0 rfl (WrA.st (tyrow rfl) rfl) ?_
      rintro _ _ _ ⟨rfl, rfl, rfl⟩
      refine zO rfl Rd.asg ?_; refine zN (zT (XA.ret (DA.inb_ret (DA.thn_ret ?_))))
      exact bodyA.ret (ResA.ctT rfl rfl rfl (Ld.atBlk (tyrow rfl) rfl zL rfl (by first | exact take0 (by first | rfl | assumption | (refine (ints_len _).trans ?_; assumption) | (simp [*]; (first | done | fail))) | assumption | exact take_app (by first | rfl | assumption | (refine (ints_len _).trans ?_; assumption) | (simp [*]; (first | done | fail))) | (conv => lhs; simp only [List.drop_succ_cons, List.drop_zero, List.take_succ_cons, List.take_zero])) (by first | rfl | assumption | (refine (ints_len _).trans ?_; assumption) | (simp [*]; (first | done | fail))))) (Ent.nil _) ⟨rfl, rfl, rfl⟩
end Go.Proofs.YthefnnkmpcgcmaaDoor

namespace Go.Proofs.YthefnnkmpcgcmaaDoor
open Go X
set_option maxHeartbeats 2000000
def scanG (s : ByteArray) : Nat → Nat → List Tk → Except Nat (List Tk)
  | 0, _, acc => .ok acc
  | f + 1, i, acc => if i < s.size then match oneT s i with
      | some t => scanG s f (i + t.text.size + runB blankB s (i + t.text.size)) (acc ++ [t])
      | none => .error i
    else .ok acc
abbrev PErr (α : Type) := Except (Int × Int) α
def errC {α : Type} : PErr α → Int | .error e => e.1 | .ok _ => 0
def errA {α : Type} : PErr α → Int | .error e => e.2 | .ok _ => 0
def okL {α : Type} : PErr (List α) → List α | .error _ => [] | .ok l => l
def scanE : Except Nat (List Tk) → PErr (List Tk)
  | .ok l => .ok l
  | .error i => .error (7, (i : Int))
def scanP (s : ByteArray) : PErr (List Tk) := if 6000 < s.size then .error (3, 6000) else scanE (scanG s (s.size + 1) (runB blankB s 0) [])
theorem oneT_size {s : ByteArray} {i : Nat} {t : Tk} (hi : i < s.size) (h : oneT s i = some t) : t.at_ = i ∧ 1 ≤ t.text.size ∧ i + t.text.size ≤ s.size := by
  have hl := runB_le letterB s (i := i) (by omega)
  have hd := runB_le digitB s (i := i + 1) (by omega)
  rw [oneT] at h
  split at h
  · cases h
    refine ⟨rfl, ?_, ?_⟩ <;> simp only [ByteArray.size_extract] <;> omega
  · split at h
    · rename_i hq
      have h1 : runB letterB s i = runB letterB s (i + 1) + 1 := by rw [runB_eq, if_pos ⟨hi, hq⟩]
      cases h
      refine ⟨rfl, ?_, ?_⟩ <;> simp only [ByteArray.size_extract] <;> omega
    · split at h
      · rw [Option.map_eq_some_iff] at h
        obtain ⟨n, -, rfl⟩ := h
        refine ⟨rfl, ?_, ?_⟩ <;> simp only [ByteArray.size_extract] <;> omega
      · cases h
def rTk : RT Tk := fun _ cs t => cs = tkC t
def tksC (l : List Tk) : List Value := (l.map tkC).flatten
theorem tksC_snoc (l : List Tk) (t : Tk) : tksC (l ++ [t]) = tksC l ++ tkC t := by simp [tksC]
theorem rows_tk (σ : PH) (l : List Tk) : Rows_ 4 rTk σ (l.map tkC) l :=
  ⟨by simp, fun r hr => by obtain ⟨i, -, rfl⟩ := List.mem_map.1 hr; rfl, fun k r x hr hx => by rw [List.getElem?_map, hx] at hr; simpa [rTk] using hr.symm⟩
theorem scan_t (σ : PH) (s : ByteArray) (hs : s.size ≤ 100000000) (hT : Tab σ) (hE : Errs σ) :
    CallsA Tryd.prog 17 #[.string s] σ [] (RetA fun v σ' Γ' => ∃ sl, v = .tuple #[sl, .agg #[i64 (errC (scanP s)), i64 (errA (scanP s))]] ∧ PSl 4 rTk σ' sl (okL (scanP s)) ∧ σ.sub σ' ∧ Γ' = []) := by
  by_cases h6 : 6000 < s.size
  · have e : scanP s = .error (3, 6000) := by rw [scanP, if_pos h6]
    rw [e]
    refine enterA1 Tryd.func17 rfl rfl rfl ?_
    refine zS (zR (zO rfl Rd.asg ?_))
    refine XOA.wr0 rfl (WrA.alloc (tyrow rfl)) ?_
    rintro _ _ _ ⟨g3, rfl, rfl, rfl⟩
    refine zN (zT (zS (zS (zR (zA rfl ?_))))); refine zO rfl (Rd.lenString (tyrow rfl) rfl rfl) ?_; refine zO rfl (Rd.gtr rfl rfl) ?_; refine zN (zT (XA.condT rfl (by first | rfl | exact decide_eq_true (by omega)) ?_)); refine zS (zR ?_)
    refine zO rfl (Rd.bl (fun _ _ => tyrow) rfl rfl rfl) ?_
    refine zO rfl Rd.asg ?_
    refine XOA.wr0 rfl (WrA.st (tyrow rfl) rfl) ?_
    rintro _ _ _ ⟨rfl, rfl, rfl⟩
    refine zN (zT (XA.ret (DA.thn_ret ?_)))
    exact bodyA.ret (ResA.tcT rfl rfl rfl (Ld.atBlk (tyrow rfl) rfl zL rfl (by first | exact take0 (by first | rfl | assumption | (refine (ints_len _).trans ?_; assumption) | (simp [*]; (first | done | fail))) | assumption | exact take_app (by first | rfl | assumption | (refine (ints_len _).trans ?_; assumption) | (simp [*]; (first | done | fail))) | (conv => lhs; simp only [List.drop_succ_cons, List.drop_zero, List.take_succ_cons, List.take_zero])) (by first | rfl | assumption | (refine (ints_len _).trans ?_; assumption) | (simp [*]; (first | done | fail))))) (Ent.nil _) ⟨_, rfl, PSl.nil _ _ _, .refl _, rfl⟩
  have h0 := runB_le blankB s (i := 0) (by omega)
  have hb0 := run_t σ s 0 34 blankB blank_t (by omega) hs
  obtain ⟨R, hR⟩ : ∃ R, scanG s (s.size + 1) (runB blankB s 0) [] = R := ⟨_, rfl⟩
  have hP : scanP s = scanE R := by rw [scanP, if_neg h6, hR]
  refine enterA1 Tryd.func17 rfl rfl rfl ?_
  refine zS (zR (zO rfl Rd.asg ?_))
  refine XOA.wr0 rfl (WrA.alloc (tyrow rfl)) ?_
  rintro _ _ _ ⟨g3, rfl, rfl, rfl⟩
  refine zN (zT (zS (zS (zR (zA rfl ?_))))); refine zO rfl (Rd.lenString (tyrow rfl) rfl rfl) ?_; refine zO rfl (Rd.gtr rfl rfl) ?_; refine zN (zT (XA.condF rfl (by first | rfl | exact decide_eq_false (by omega)) ?_)); refine XA.skip (zT (zS (zR (zO rfl Rd.asg ?_))))
  refine zN (zT (zS (zS (zR (zA rfl ?_)))))
  refine XOA.wr0 rfl (WrA.cE (hb0) rfl) ?_
  rintro _ _ _ ⟨_, ⟨rfl, rfl, rfl⟩, rfl⟩
  refine XOA.cl ?_; refine zO rfl Rd.asg ?_; refine zN (zT (XA.block ?_))
  refine XA.ent (Ent.selNil (e := 41) (size := 4) (Ent.refl _)) ?_
  refine XA.gen [(0, _), (2, _), (3, _), (4, _), (5, _)] ⟨(by with_reducible (conv => lhs; whnf)), (by with_reducible (conv => lhs; whnf)), (by with_reducible (conv => lhs; whnf)), (by with_reducible (conv => lhs; whnf)), (by with_reducible (conv => lhs; whnf)), trivial⟩ (fun δ => ?_)
  dsimp only [List.foldl]
  refine XA.loop [(2, 2), (4, 7), (14, 42)] (fun x : (Nat × (Nat × List Tk)) × (Option Addr × Nat) => [(5, i64 x.1.1), (4, .slice x.2.1 x.1.2.1 x.2.2)]) (fun x σ' Γ' => σ = σ' ∧ x.1.1 ≤ s.size ∧ x.1.2.1 ≤ x.1.1 ∧ x.1.2.2.length = x.1.2.1 ∧ (∃ f, s.size < x.1.1 + f ∧ R = scanG s f x.1.1 x.1.2.2) ∧ Γ' = [blk g3 [i64 0, i64 0] 30, lst 41 4 (.slice x.2.1 x.1.2.1 x.2.2) x.1.2.1 (tksC x.1.2.2)]) (fun x => s.size - x.1.1) ((runB blankB s 0, (0, [])), (none, 0)) (by exact ⟨rfl, rfl, trivial⟩) (Δ0 := _) ?_ (⟨rfl, by simpa using h0, Nat.zero_le _, rfl, ⟨s.size + 1, by simp only; omega, hR.symm⟩, rfl⟩) ?_
  · exact zE
  rintro ⟨⟨i, n, acc⟩, p, c⟩ δ _ _ ⟨rfl, hi, hn, hacc, ⟨f, hf, hRf⟩, rfl⟩
  dsimp only [ovr, List.foldl]
  simp only at hi hn hacc hf hRf
  refine zS (zS (zR (zA rfl ?_))); refine zA rfl ?_; refine zO rfl (Rd.lenString (tyrow rfl) rfl rfl) ?_; refine zO rfl (Rd.lss rfl rfl) ?_; refine zN (zT ?_)
  refine XA.condp rfl (fun hlt => ?_) (fun hlt => ?_)
  · have hlt : i < s.size := by omega
    have hone := one_tok σ s i hlt hs hT hE
    obtain ⟨f, rfl⟩ : ∃ f', f = f' + 1 := ⟨f - 1, by omega⟩
    rw [scanG, if_pos hlt] at hRf
    refine XA.skip (zT (zS (XA.block (zS (zR (zA rfl ?_)))))); refine zA rfl ?_
    cases ho : oneT s i with
    | none =>
      rw [ho] at hone hRf
      dsimp only [oneC] at hone
      simp only at hRf
      subst hRf
      rw [hP]
      refine XOA.wr0 rfl (WrA.cE (hone) rfl) ?_
      rintro _ _ _ ⟨_, ⟨rfl, rfl, rfl⟩, rfl⟩
      refine XOA.cl ?_; refine zA rfl ?_; refine zO rfl (Rd.extract rfl rfl) ?_; refine zO rfl (Rd.extract rfl rfl) ?_
      refine XOA.wr0 rfl (WrA.alloc (tyrow rfl)) ?_
      rintro _ _ _ ⟨g6, rfl, rfl, rfl⟩
      refine XOA.wr0 rfl (WrA.st (tyrow rfl) rfl) ?_
      rintro _ _ _ ⟨rfl, rfl, rfl⟩
      refine zO rfl Rd.asg ?_; refine zN (zT (zS (zS (zR (zA rfl ?_))))); refine zO rfl (Rd.neq rfl rfl) ?_; refine zN (zT (XA.condT rfl rfl (zS (zR (zA rfl ?_))))); refine zA rfl ?_
      refine zO rfl (Rd.bl (fun _ _ => tyrow) rfl rfl rfl) ?_
      refine zO rfl Rd.asg ?_
      refine XOA.wr0 rfl (WrA.st (tyrow rfl) rfl) ?_
      rintro _ _ _ ⟨rfl, rfl, rfl⟩
      refine zN (zT (XA.ret (DA.thn_ret (DA.inb_ret (DA.thn_ret (DA.thn_ret (DA.inb_ret (DA.thn_ret ?_))))))))
      exact bodyA.ret (ResA.tcT rfl rfl rfl (Ld.atBlk (tyrow rfl) rfl zL rfl (by first | exact take0 (by first | rfl | assumption | (refine (ints_len _).trans ?_; assumption) | (simp [*]; (first | done | fail))) | assumption | exact take_app (by first | rfl | assumption | (refine (ints_len _).trans ?_; assumption) | (simp [*]; (first | done | fail))) | (conv => lhs; simp only [List.drop_succ_cons, List.drop_zero, List.take_succ_cons, List.take_zero])) (by first | rfl | assumption | (refine (ints_len _).trans ?_; assumption) | (simp [*]; (first | done | fail))))) (Ent.nil _) ⟨_, rfl, PSl.nil _ _ _, .refl _, rfl⟩
    | some t =>
      obtain ⟨hat, hz1, hz2⟩ := oneT_size hlt ho
      rw [ho] at hone hRf
      dsimp only [oneC, tkC] at hone
      simp only at hRf
      have hle := runB_le blankB s (i := i + t.text.size) hz2
      have hbl := run_t σ s (i + t.text.size) 34 blankB blank_t hz2 hs
      refine XOA.wr0 rfl (WrA.cE (hone) rfl) ?_
      rintro _ _ _ ⟨_, ⟨rfl, rfl, rfl⟩, rfl⟩
      refine XOA.cl ?_; refine zA rfl ?_; refine zO rfl (Rd.extract rfl rfl) ?_; refine zO rfl (Rd.extract rfl rfl) ?_
      refine XOA.wr0 rfl (WrA.alloc (tyrow rfl)) ?_
      rintro _ _ _ ⟨g6, rfl, rfl, rfl⟩
      refine XOA.wr0 rfl (WrA.st (tyrow rfl) rfl) ?_
      rintro _ _ _ ⟨rfl, rfl, rfl⟩
      refine zO rfl Rd.asg ?_; refine zN (zT (zS (zS (zR (zA rfl ?_))))); refine zO rfl (Rd.neq rfl rfl) ?_; refine zN (zT (XA.condF rfl rfl (XA.skip (zT (zS (zR (zA rfl ?_))))))); refine zO rfl (Rd.ldA rfl) ?_
      refine XOA.wr0 rfl (WrA.bs1 (tyrow rfl) rfl (tyrow rfl)) ?_
      rintro _ _ _ ⟨g36, rfl, rfl, rfl⟩
      refine XOA.wr0 rfl (WrA.ap1 (tyrow rfl) rfl (tyrow rfl) rfl rfl rfl) ?_
      rintro _ _ _ ⟨p37, c37, rfl, rfl, rfl⟩
      refine zO rfl Rd.asg ?_; refine zN (zT (zR (zA rfl ?_))); refine zV rfl rfl ?_; refine zB rfl rfl (tyrow rfl) rfl ?_; refine zO rfl (Rd.lenString (tyrow rfl) rfl rfl) ?_; refine zO rfl zI ?_; refine zO rfl Rd.asg ?_; refine zN (DA.inb_normal (zT (zR (zA rfl ?_)))); refine zA rfl ?_; refine zA rfl ?_
      refine XOA.wr0 rfl (WrA.cE (hbl) rfl) ?_
      rintro _ _ _ ⟨_, ⟨rfl, rfl, rfl⟩, rfl⟩
      refine XOA.cl ?_; refine zO rfl zI ?_; refine zO rfl Rd.asg ?_; refine zN (zT ?_)
      refine ⟨(Keep.upd (Keep.upd (Keep.updO (Keep.upd (Keep.upd (Keep.upd (Keep.upd (Keep.upd (Keep.upd (Keep.upd (Keep.upd (Keep.upd (Keep.upd (Keep.updO (Keep.updO (Keep.upd (Keep.upd (Keep.upd (Keep.upd (Keep.upd (Keep.updN (Keep.updO (Keep.upd (Keep.upd (Keep.upd (Keep.updO (Keep.upd (Keep.upd (Keep.upd (Keep.upd (Keep.upd (Keep.upd (Keep.upd (Keep.upd (Keep.hav (Keep.hav (Keep.hav (Keep.refl _ _) rfl) rfl) rfl) rfl) rfl) rfl) rfl) rfl) rfl) rfl) rfl) rfl) rfl) rfl) rfl) rfl)) rfl) rfl) rfl) rfl) rfl) rfl) rfl) rfl) rfl) rfl) rfl) rfl) rfl) rfl) rfl) rfl) rfl) rfl) rfl) rfl), ((i + t.text.size + runB blankB s (i + t.text.size), (n + 1, acc ++ [t])), (p37, c37)), _, zM, ?_, ⟨rfl, hle, by show n + 1 ≤ i + t.text.size + runB blankB s (i + t.text.size); omega, by show (acc ++ [t]).length = n + 1; rw [List.length_append, hacc]; rfl, ⟨f, by show s.size < i + t.text.size + runB blankB s (i + t.text.size) + f; omega, hRf⟩, rfl⟩, (by show s.size - (i + t.text.size + runB blankB s (i + t.text.size)) < s.size - i; omega)⟩
      · rw [tksC_snoc]; exact zE
  have hRe : R = .ok acc := by
    rw [hRf]
    cases f with
    | zero => rfl
    | succ f => rw [scanG, if_neg (by omega)]
  refine XA.exit (DA.thn_exit (DA.thn_exit (DA.inb_same (zT (zS (zR (zA rfl ?_)))))))
  refine zO rfl (Rd.bl (fun _ _ => tyrow) rfl rfl rfl) ?_
  refine zO rfl Rd.asg ?_
  refine XOA.wr0 rfl (WrA.st (tyrow rfl) rfl) ?_
  rintro _ _ _ ⟨rfl, rfl, rfl⟩
  refine zN (zT (XA.ret ?_))
  refine DA.frz (R := lst 41 4 (.slice p n c) _ _) zL lst_frz lst_frz_mono ?_
  rintro σ1 ⟨⟩ hf1 hs1
  rw [hP, hRe]
  exact bodyA.ret (ResA.tcT rfl rfl rfl (Ld.atBlk (tyrow rfl) rfl zL rfl (by first | exact take0 (by first | rfl | assumption | (refine (ints_len _).trans ?_; assumption) | (simp [*]; (first | done | fail))) | assumption | exact take_app (by first | rfl | assumption | (refine (ints_len _).trans ?_; assumption) | (simp [*]; (first | done | fail))) | (conv => lhs; simp only [List.drop_succ_cons, List.drop_zero, List.take_succ_cons, List.take_zero])) (by first | rfl | assumption | (refine (ints_len _).trans ?_; assumption) | (simp [*]; (first | done | fail))))) (Ent.nil _) ⟨_, rfl, (rows_tk σ1 acc).psl hacc.symm hf1, hs1, rfl⟩
end Go.Proofs.YthefnnkmpcgcmaaDoor

namespace Go.Proofs.YthefnnkmpcgcmaaDoor
open Go X
set_option maxHeartbeats 4000000
theorem scanG_end (s : ByteArray) (f i : Nat) (acc : List Tk) (h : ¬ i < s.size) : scanG s f i acc = .ok acc := by
  cases f with
  | zero => rfl
  | succ f => rw [scanG, if_neg h]
end Go.Proofs.YthefnnkmpcgcmaaDoor

namespace Go.Proofs.YthefnnkmpcgcmaaDoor
open Go X
set_option maxHeartbeats 2000000
section
variable {ρ : Env} {S : Heap → Prop} {ty : TypeId}
end
def lit1 : ByteArray := ⟨#[40, 110, 117, 109, 32, 45, 53, 41]⟩
def lit2 : ByteArray := ⟨#[40, 53, 120]⟩
def lit3 : ByteArray := ⟨#[48, 53]⟩
theorem scan1 : scanP lit1 = .ok [⟨0, ⟨#[40]⟩, false, 0⟩, ⟨1, ⟨#[110, 117, 109]⟩, false, 0⟩, ⟨5, ⟨#[45, 53]⟩, true, -5⟩, ⟨7, ⟨#[41]⟩, false, 0⟩] := by kernel_rfl
theorem scan2 : errC (scanP lit2) = 0 := by kernel_rfl
theorem scan3 : scanP lit3 = .error (7, 0) := by kernel_rfl
theorem lit1_t (σ : PH) (hT : Tab σ) (hE : Errs σ) : CallsA Tryd.prog 17 #[.string lit1] σ [] (RetA fun v σ' Γ' => ∃ g o c, v = .tuple #[.slice (some ⟨g, o, none⟩) 4 c, .agg #[i64 0, i64 0]] ∧ PRow σ' g (o + 8) [i64 5, .string ⟨#[45, 53]⟩, .bool true, i64 (-5)] ∧ σ.sub σ' ∧ Γ' = []) := by
  have h1 := scan_t σ lit1 (by decide) hT hE
  rw [scan1] at h1
  refine h1.mono fun e σ' Γ' h => ?_
  cases e with
  | returned v =>
    obtain ⟨sl, rfl, hl, hs, rfl⟩ := h
    obtain ⟨p, c, rfl, hc0, hc1⟩ := hl.shape
    obtain ⟨g, o, row, rfl, hr, -, hrow⟩ := hl.at (k := 2) rfl
    have hr : row = _ := hr
    rw [hr] at hrow
    exact ⟨g, o, c, rfl, hrow, hs, rfl⟩
  | _ => exact False.elim h
theorem lit2_t (σ : PH) (hT : Tab σ) (hE : Errs σ) : CallsA Tryd.prog 17 #[.string lit2] σ [] (RetA fun v σ' Γ' => ∃ sl a, v = .tuple #[sl, .agg #[i64 0, i64 a]] ∧ σ.sub σ' ∧ Γ' = []) := by
  have h1 := scan_t σ lit2 (by decide) hT hE
  rw [scan2] at h1
  refine h1.mono fun e σ' Γ' h => ?_
  cases e with
  | returned v =>
    obtain ⟨sl, rfl, hl, hs, rfl⟩ := h
    exact ⟨sl, _, rfl, hs, rfl⟩
  | _ => exact False.elim h
theorem lit3_t (σ : PH) (hT : Tab σ) (hE : Errs σ) : CallsA Tryd.prog 17 #[.string lit3] σ [] (RetA fun v σ' Γ' => ∃ sl, v = .tuple #[sl, .agg #[i64 7, i64 0]] ∧ σ.sub σ' ∧ Γ' = []) := by
  have h1 := scan_t σ lit3 (by decide) hT hE
  rw [scan3] at h1
  refine h1.mono fun e σ' Γ' h => ?_
  cases e with
  | returned v =>
    obtain ⟨sl, rfl, hl, hs, rfl⟩ := h
    exact ⟨sl, rfl, hs, rfl⟩
  | _ => exact False.elim h
theorem tbegun_a (σ : PH) (hT : Tab σ) (hE : Errs σ) : CallsA Tryd.prog 16 #[] σ [] (RetA fun v σ' Γ' => v = .bool true ∧ σ.sub σ' ∧ Γ' = []) := by
  refine enterA0 Tryd.func16 rfl rfl rfl ?_
  refine zS (zR (zO rfl Rd.asg ?_)); refine zN (zT (zS (zR ?_)))
  refine XOA.wr0 rfl (WrA.cE (lit1_t σ hT hE) rfl) ?_
  rintro _ σ1 _ ⟨_, ⟨g, o, c, rfl, hrow1, hs1, rfl⟩, rfl⟩
  refine XOA.cl ?_
  have hT1 := hT.mono hs1
  have hE1 := hE.mono hs1
  refine zA rfl ?_; refine zO rfl (Rd.extract rfl rfl) ?_; refine zO rfl (Rd.extract rfl rfl) ?_
  refine XOA.wr0 rfl (WrA.alloc (tyrow rfl)) ?_
  rintro _ _ _ ⟨g2, rfl, rfl, rfl⟩
  refine zO rfl Rd.asg ?_
  refine XOA.wr0 rfl (WrA.st (tyrow rfl) rfl) ?_
  rintro _ _ _ ⟨rfl, rfl, rfl⟩
  refine zN (zT (zS (zR ?_)))
  refine XOA.wr0 rfl (WrA.cE (lit2_t σ1 hT1 hE1) rfl) ?_
  rintro _ σ2 _ ⟨_, ⟨sl2, a2, rfl, hs2, rfl⟩, rfl⟩
  refine XOA.cl ?_; refine zA rfl ?_; refine zO rfl (Rd.extract rfl rfl) ?_; refine zO rfl (Rd.extract rfl rfl) ?_
  refine XOA.wr0 rfl (WrA.alloc (tyrow rfl)) ?_
  rintro _ _ _ ⟨g4, rfl, rfl, rfl⟩
  refine zO rfl Rd.asg ?_
  refine XOA.wr0 rfl (WrA.st (tyrow rfl) rfl) ?_
  rintro _ _ _ ⟨rfl, rfl, rfl⟩
  refine zN (zT (zS (zR ?_)))
  refine XOA.wr0 rfl (WrA.cE (lit3_t σ2 (hT1.mono hs2) (hE1.mono hs2)) rfl) ?_
  rintro _ σ3 _ ⟨_, ⟨sl3, rfl, hs3, rfl⟩, rfl⟩
  refine XOA.cl ?_
  have hrow : PRow σ3 g (o + 8) _ := (hrow1.mono hs2).mono hs3
  have c2 : PRow σ3 g (o + 8 + 2) [.bool true] := hrow.sub (j := 2) rfl
  have c3 : PRow σ3 g (o + 8 + 3) [i64 (-5)] := hrow.sub (j := 3) rfl
  refine zA rfl ?_; refine zO rfl (Rd.extract rfl rfl) ?_; refine zO rfl (Rd.extract rfl rfl) ?_
  refine XOA.wr0 rfl (WrA.alloc (tyrow rfl)) ?_
  rintro _ _ _ ⟨g6, rfl, rfl, rfl⟩
  refine zO rfl Rd.asg ?_
  refine XOA.wr0 rfl (WrA.st (tyrow rfl) rfl) ?_
  rintro _ _ _ ⟨rfl, rfl, rfl⟩
  refine zN (zT (zS (zR (zV rfl rfl ?_)))); refine zB rfl rfl (tyrow rfl) rfl ?_; refine zO rfl (Rd.eql rfl rfl) ?_; refine zA rfl ?_
  first | (refine zG ?_; refine zA rfl ?_) | refine zH ?_
  first | (refine zG ?_; refine zO rfl (Rd.lenSlice (tyrow rfl) rfl rfl) ?_) | refine zH ?_
  first | (refine zG ?_; refine zO rfl (Rd.eql rfl rfl) ?_) | refine zH ?_
  refine zO rfl zP ?_; refine zA rfl ?_
  first | (refine zG ?_; refine zA rfl ?_) | refine zH ?_
  first | (refine zG ?_; refine zO rfl (Rd.ixS rfl rfl) ?_) | refine zH ?_
  first | (refine zG ?_; refine zV rfl rfl ?_) | refine zH ?_
  first | (refine zG ?_; refine zB rfl rfl (tyrow rfl) rfl ?_) | refine zH ?_
  refine zO rfl zP ?_; refine zA rfl ?_
  first | (refine zG ?_; refine zA rfl ?_) | refine zH ?_
  first | (refine zG ?_; refine zO rfl (Rd.ixS rfl rfl) ?_) | refine zH ?_
  first | (refine zG ?_; refine zV rfl rfl ?_) | refine zH ?_
  first | (refine zG ?_; refine zB rfl rfl (tyrow rfl) rfl ?_) | refine zH ?_
  first | (refine zG ?_; refine zO rfl (Rd.eql rfl rfl) ?_) | refine zH ?_
  refine zO rfl zP ?_; refine zA rfl ?_
  first | (refine zG ?_; refine zV rfl rfl ?_) | refine zH ?_
  first | (refine zG ?_; refine zB rfl rfl (tyrow rfl) rfl ?_) | refine zH ?_
  first | (refine zG ?_; refine zO rfl (Rd.eql rfl rfl) ?_) | refine zH ?_
  refine zO rfl zP ?_; refine zA rfl ?_
  first | (refine zG ?_; refine zV rfl rfl ?_) | refine zH ?_
  first | (refine zG ?_; refine zB rfl rfl (tyrow rfl) rfl ?_) | refine zH ?_
  first | (refine zG ?_; refine zO rfl (Rd.neq rfl rfl) ?_) | refine zH ?_
  refine zO rfl zP ?_; refine zO rfl Rd.asg ?_; refine zN (zT (XA.ret ?_))
  exact bodyA.ret (ResA.one rfl rfl) (Ent.nil _) ⟨rfl, (hs1.trans hs2).trans hs3, rfl⟩
end Go.Proofs.YthefnnkmpcgcmaaDoor

namespace Go.Proofs.YthefnnkmpcgcmaaDoor
open Go X
theorem byteAt_ext {a : ByteArray} {b e k : Nat} (h : b + k < e) (he : e ≤ a.size) : byteAt (a.extract b e) k = byteAt a (b + k) := by
  unfold byteAt
  have h1 : k < (a.extract b e).size := by rw [ByteArray.size_extract]; omega
  have h2 : b + k < a.size := by omega
  rw [dif_pos h1, dif_pos h2, ByteArray.getElem_extract]
theorem runB_stop (p : Nat → Bool) (s : ByteArray) : ∀ (n i : Nat), s.size - i = n → ¬ (i + runB p s i < s.size ∧ p (byteAt s (i + runB p s i)) = true)
  | 0, i, h => fun q => by omega
  | n + 1, i, h => by
    by_cases hc : i < s.size ∧ p (byteAt s i) = true
    · have := runB_stop p s n (i + 1) (by omega)
      rw [runB_eq, if_pos hc, show i + (runB p s (i + 1) + 1) = i + 1 + runB p s (i + 1) by omega]
      exact this
    · rw [runB_end hc]; exact hc
/-- A run inside a word that stops at its end or before. -/
theorem runB_loc {p : Nat → Bool} {s w : ByteArray} {i : Nat} (hw : s.extract i (i + w.size) = w) (hi : i + w.size ≤ s.size) (hs : ¬ (i + w.size < s.size ∧ p (byteAt s (i + w.size)) = true)) : ∀ (n j : Nat), w.size - j = n → j ≤ w.size → runB p s (i + j) = runB p w j
  | 0, j, h, hj => by
    have e : j = w.size := by omega
    subst e
    rw [runB_end hs, runB_end (fun q => by omega)]
  | n + 1, j, h, hj => by
    have hb : byteAt w j = byteAt s (i + j) := by
      have := byteAt_ext (a := s) (b := i) (e := i + w.size) (k := j) (by omega) hi
      rwa [hw] at this
    rw [runB_eq p s, runB_eq p w, hb]
    have ih := runB_loc hw hi hs n (j + 1) (by omega) (by omega)
    rw [show i + j + 1 = i + (j + 1) by omega, ih]
    by_cases hc : p (byteAt s (i + j)) = true
    · rw [if_pos ⟨by omega, hc⟩, if_pos ⟨by omega, hc⟩]
    · rw [if_neg (fun q => hc q.2), if_neg (fun q => hc q.2)]
theorem ext_loc {s w : ByteArray} {i b : Nat} (hw : s.extract i (i + w.size) = w) (hb : b ≤ w.size) : s.extract i (i + b) = w.extract 0 b := by
  conv => rhs; rw [← hw]
  rw [ByteArray.extract_extract, Nat.add_zero, Nat.min_eq_left (by omega)]
def put (i : Nat) (t : Tk) : Tk := ⟨i, t.text, t.num, t.n⟩
/-- What stands at a place is told by the word that stands there. -/
theorem oneT_loc {s w : ByteArray} {i : Nat} (hw : s.extract i (i + w.size) = w) (hi : i + w.size ≤ s.size) (h1 : 1 ≤ w.size)
    (hl : letterB (byteAt s i) = true → ¬ (i + w.size < s.size ∧ letterB (byteAt s (i + w.size)) = true)) (hd : digitB (byteAt s i) = true ∨ byteAt s i = 45 → ¬ (i + w.size < s.size ∧ digitB (byteAt s (i + w.size)) = true)) :
    oneT s i = (oneT w 0).map (put i) := by
  have hb : byteAt w 0 = byteAt s i := by
    have := byteAt_ext (a := s) (b := i) (e := i + w.size) (k := 0) (by omega) hi
    rwa [hw, Nat.add_zero] at this
  rw [oneT, oneT, hb]
  by_cases c1 : byteAt s i = 40 ∨ byteAt s i = 41
  · rw [if_pos c1, if_pos c1, Option.map_some, put, ext_loc hw h1]
  rw [if_neg c1, if_neg c1]
  by_cases c2 : letterB (byteAt s i) = true
  · have e := runB_loc hw hi (hl c2) w.size 0 (by omega) (by omega)
    have hle := runB_le letterB w (i := 0) (by omega)
    rw [Nat.add_zero] at e
    rw [if_pos c2, if_pos c2, Option.map_some, put, e, Nat.zero_add, ext_loc hw (by omega)]
  rw [if_neg c2, if_neg c2]
  by_cases c3 : digitB (byteAt s i) = true ∨ byteAt s i = 45
  · have e := runB_loc hw hi (hd c3) (w.size - 1) 1 (by omega) h1
    have hle := runB_le digitB w (i := 1) h1
    rw [if_pos c3, if_pos c3, e, Nat.zero_add, Option.map_map, Nat.add_assoc, ext_loc hw (by omega)]
    rfl
  rw [if_neg c3, if_neg c3]; rfl
/-- A word: what a token's text is by itself. -/
def Word (t : Tk) : Prop := 1 ≤ t.text.size ∧ oneT t.text 0 = some (put 0 t)
theorem oneT_word {s : ByteArray} {i : Nat} {t : Tk} (hi : i < s.size) (h : oneT s i = some t) : Word t := by
  obtain ⟨h1, h2, h3⟩ := oneT_size hi h
  refine ⟨h2, ?_⟩
  have key : s.extract i (i + t.text.size) = t.text ∧ (letterB (byteAt s i) = true → ¬ (i + t.text.size < s.size ∧ letterB (byteAt s (i + t.text.size)) = true)) ∧ (digitB (byteAt s i) = true ∨ byteAt s i = 45 → ¬ (i + t.text.size < s.size ∧ digitB (byteAt s (i + t.text.size)) = true)) := by
    have hnl : ∀ c, letterB c = true → 97 ≤ c := fun c h => (of_decide_eq_true h).1
    have hnd : ∀ c, digitB c = true → 48 ≤ c ∧ c ≤ 57 := fun c h => of_decide_eq_true h
    rw [oneT] at h
    by_cases c1 : byteAt s i = 40 ∨ byteAt s i = 41
    · rw [if_pos c1] at h
      cases h
      have hz : (s.extract i (i + 1)).size = 1 := by rw [ByteArray.size_extract]; omega
      simp only at hz ⊢
      rw [hz]
      exact ⟨rfl, fun q => by have := hnl _ q; omega, fun q => by rcases q with q | q; (have := hnd _ q; omega); omega⟩
    rw [if_neg c1] at h
    by_cases c2 : letterB (byteAt s i) = true
    · rw [if_pos c2] at h
      cases h
      have hle := runB_le letterB s (i := i) (by omega)
      have hz : (s.extract i (i + runB letterB s i)).size = runB letterB s i := by rw [ByteArray.size_extract]; omega
      simp only
      rw [hz]
      exact ⟨rfl, fun _ => runB_stop letterB s _ i rfl, fun q => by have := hnl _ c2; rcases q with q | q; (have := hnd _ q; omega); omega⟩
    rw [if_neg c2] at h
    by_cases c3 : digitB (byteAt s i) = true ∨ byteAt s i = 45
    · rw [if_pos c3, Option.map_eq_some_iff] at h
      obtain ⟨n, -, rfl⟩ := h
      have hle := runB_le digitB s (i := i + 1) (by omega)
      have hz : (s.extract i (i + 1 + runB digitB s (i + 1))).size = 1 + runB digitB s (i + 1) := by rw [ByteArray.size_extract]; omega
      simp only
      rw [hz, ← Nat.add_assoc]
      exact ⟨rfl, fun q => absurd q c2, fun _ => runB_stop digitB s _ (i + 1) rfl⟩
    rw [if_neg c3] at h
    cases h
  have hl := oneT_loc key.1 h3 h2 key.2.1 key.2.2
  rw [h] at hl
  cases hq : oneT t.text 0 with
  | none => rw [hq] at hl; cases hl
  | some u =>
    rw [hq, Option.map_some] at hl
    have hu := (oneT_size (by omega) hq).1
    have e : t = put i u := by injection hl
    obtain ⟨ua, ut, un, uv⟩ := u
    have hu : ua = 0 := hu
    rw [e, hu]; rfl
def sp : ByteArray := ⟨#[32, 10]⟩
def joinT : List Tk → ByteArray
  | [] => ByteArray.empty
  | t :: r => (t.text ++ sp) ++ joinT r
theorem joinT_app : ∀ (a b : List Tk), joinT (a ++ b) = joinT a ++ joinT b
  | [], b => by rw [List.nil_append, joinT, ByteArray.empty_append]
  | t :: r, b => by rw [List.cons_append, joinT, joinT, joinT_app r b, ByteArray.append_assoc, ByteArray.append_assoc, ByteArray.append_assoc]
theorem joinT_one (t : Tk) : joinT [t] = t.text ++ sp := by rw [joinT, joinT, ByteArray.append_empty]
def total (l : List Tk) : Nat := (l.map fun t => t.text.size).sum
theorem joinT_size : ∀ l : List Tk, (joinT l).size = total l + 2 * l.length
  | [] => rfl
  | t :: r => by
    have := joinT_size r
    rw [joinT, ByteArray.size_append, ByteArray.size_append, this, List.length_cons]
    simp only [total, List.map_cons, List.sum_cons]
    rw [show sp.size = 2 from rfl]
    omega
theorem scanG_word {s : ByteArray} : ∀ (f i : Nat) (acc l : List Tk), scanG s f i acc = .ok l → (∀ t ∈ acc, Word t) → i ≤ s.size → (∀ t ∈ l, Word t) ∧ total l ≤ total acc + (s.size - i)
  | 0, i, acc, l, h, ha, hi => by cases h; exact ⟨ha, by omega⟩
  | f + 1, i, acc, l, h, ha, hi => by
    rw [scanG] at h
    split at h
    · rename_i hi
      split at h
      · rename_i t ht
        obtain ⟨h1, h2, h3⟩ := oneT_size hi ht
        have hle := runB_le blankB s (i := i + t.text.size) h3
        obtain ⟨a, b⟩ := scanG_word f _ _ l h (fun x hx => by
          rcases List.mem_append.1 hx with hx | hx
          · exact ha x hx
          · rw [List.mem_singleton.1 hx]; exact oneT_word hi ht) hle
        refine ⟨a, ?_⟩
        simp only [total, List.map_append, List.map_cons, List.map_nil, List.sum_append, List.sum_cons, List.sum_nil] at b ⊢
        omega
      · cases h
    · cases h; exact ⟨ha, by omega⟩
theorem word_len : ∀ l : List Tk, (∀ t ∈ l, Word t) → l.length ≤ total l
  | [], _ => Nat.le_refl _
  | t :: r, h => by
    have h1 := (h t (by simp)).1
    have := word_len r (fun x hx => h x (by simp [hx]))
    simp only [total, List.map_cons, List.sum_cons, List.length_cons] at this ⊢
    omega
theorem ext_mid {A w B : ByteArray} : (A ++ (w ++ B)).extract A.size (A.size + w.size) = w := by
  rw [ByteArray.extract_append, ByteArray.extract_append]
  apply ByteArray.ext
  simp
/-- A word begins with no blank. -/
theorem word_first {t : Tk} (h : Word t) : blankB (byteAt t.text 0) = false := by
  have h := h.2
  refine decide_eq_false fun q => ?_
  have hnl : ∀ c, letterB c = true → 97 ≤ c := fun c h => (of_decide_eq_true h).1
  have hnd : ∀ c, digitB c = true → 48 ≤ c ∧ c ≤ 57 := fun c h => of_decide_eq_true h
  rw [oneT] at h
  split at h
  · omega
  · split at h
    · rename_i c; have := hnl _ c; omega
    · split at h
      · rename_i c
        rcases c with c | c
        · have := hnd _ c; omega
        · omega
      · cases h
def tkey (t : Tk) : ByteArray × Bool × Int := (t.text, t.num, t.n)
end Go.Proofs.YthefnnkmpcgcmaaDoor

namespace Go.Proofs.YthefnnkmpcgcmaaDoor
open Go X
set_option maxHeartbeats 2000000
theorem byteAt_right {A B : ByteArray} {k : Nat} (h : k < B.size) : byteAt (A ++ B) (A.size + k) = byteAt B k := by
  have := byteAt_ext (a := A ++ B) (b := A.size) (e := A.size + B.size) (k := k) (by omega) (by rw [ByteArray.size_append]; omega)
  rw [ByteArray.extract_append_eq_right rfl rfl] at this
  exact this.symm
theorem byteAt_left {A B : ByteArray} {k : Nat} (h : k < A.size) : byteAt (A ++ B) k = byteAt A k := by
  have := byteAt_ext (a := A ++ B) (b := 0) (e := A.size) (k := k) (by omega) (by rw [ByteArray.size_append]; omega)
  rw [ByteArray.extract_append_eq_left rfl, Nat.zero_add] at this
  exact this.symm
theorem join_first {y : Tk} {r : List Tk} (h : Word y) : blankB (byteAt (joinT (y :: r)) 0) = false := by
  rw [joinT, ByteArray.append_assoc, byteAt_left h.1]
  exact word_first h
theorem back_at {J : ByteArray} : ∀ (r l : List Tk), J = joinT l ++ joinT r → (∀ t ∈ r, Word t) → ∀ (f : Nat) (acc : List Tk), J.size < (joinT l).size + f → ∃ m, scanG J f (joinT l).size acc = .ok (acc ++ m) ∧ m.map tkey = r.map tkey
  | [], l, hJ, _, f, acc, hf => ⟨[], by rw [List.append_nil]; exact scanG_end _ _ _ _ (by rw [hJ, joinT, ByteArray.append_empty]; omega), rfl⟩
  | x :: r, l, hJ, hw, f, acc, hf => by
    have hx := hw x (by simp)
    have hJ2 : J = joinT l ++ (x.text ++ (sp ++ joinT r)) := by rw [hJ, joinT, ByteArray.append_assoc]
    have hJ3 : J = (joinT l ++ x.text) ++ (sp ++ joinT r) := by rw [hJ2, ByteArray.append_assoc]
    have hJ4 : J = (joinT l ++ x.text ++ sp) ++ joinT r := by rw [hJ3]; simp only [ByteArray.append_assoc]
    have hp : sp.size = 2 := rfl
    have hsz : J.size = (joinT l).size + (x.text.size + (2 + (joinT r).size)) := by rw [hJ2, ByteArray.size_append, ByteArray.size_append, ByteArray.size_append, hp]
    have hext : J.extract (joinT l).size ((joinT l).size + x.text.size) = x.text := by rw [hJ2]; exact ext_mid
    have hb32 : byteAt J ((joinT l).size + x.text.size) = 32 := by
      have := byteAt_right (A := joinT l ++ x.text) (B := sp ++ joinT r) (k := 0) (by rw [ByteArray.size_append, hp]; omega)
      rw [← hJ3, ByteArray.size_append, Nat.add_zero, byteAt_left (by rw [hp]; omega)] at this
      rw [this]; rfl
    have hb10 : byteAt J ((joinT l).size + x.text.size + 1) = 10 := by
      have := byteAt_right (A := joinT l ++ x.text) (B := sp ++ joinT r) (k := 1) (by rw [ByteArray.size_append, hp]; omega)
      rw [← hJ3, ByteArray.size_append, byteAt_left (by rw [hp]; omega)] at this
      rw [this]; rfl
    have hnext : ¬ ((joinT l).size + x.text.size + 2 < J.size ∧ blankB (byteAt J ((joinT l).size + x.text.size + 2)) = true) := by
      rintro ⟨q1, q2⟩
      cases r with
      | nil => rw [hsz, joinT, show ByteArray.empty.size = 0 from rfl] at q1; omega
      | cons y r =>
        have hy := hw y (by simp)
        have := byteAt_right (A := joinT l ++ x.text ++ sp) (B := joinT (y :: r)) (k := 0) (by omega)
        rw [← hJ4, ByteArray.size_append, ByteArray.size_append, hp, Nat.add_zero] at this
        rw [this, join_first hy] at q2
        cases q2
    have hbl : runB blankB J ((joinT l).size + x.text.size) = 2 := by
      rw [runB_eq, if_pos ⟨by omega, by rw [hb32]; rfl⟩, runB_eq, if_pos ⟨by omega, by rw [hb10]; rfl⟩, show (joinT l).size + x.text.size + 1 + 1 = (joinT l).size + x.text.size + 2 by omega, runB_end hnext]
    have h1 := hx.1
    have ho : oneT J (joinT l).size = some (put (joinT l).size x) := by
      rw [oneT_loc hext (by omega) hx.1 (fun _ q => by rw [hb32] at q; exact absurd q.2 (by decide)) (fun _ q => by rw [hb32] at q; exact absurd q.2 (by decide)), hx.2]
      rfl
    obtain ⟨g, rfl⟩ : ∃ g, f = g + 1 := ⟨f - 1, by omega⟩
    have hl : (joinT (l ++ [x])).size = (joinT l).size + x.text.size + 2 := by rw [joinT_app, joinT_one, ByteArray.size_append, ByteArray.size_append, hp]; omega
    obtain ⟨m, e1, e2⟩ := back_at (J := J) r (l ++ [x]) (by rw [joinT_app, joinT_one, hJ3]; simp only [ByteArray.append_assoc]) (fun t ht => hw t (by simp [ht])) g (acc ++ [put (joinT l).size x]) (by omega)
    refine ⟨put (joinT l).size x :: m, ?_, by rw [List.map_cons, List.map_cons, e2]; rfl⟩
    rw [scanG, if_pos (by omega), ho]
    simp only
    rw [show (put (joinT l).size x).text = x.text from rfl, hbl, ← hl, e1, List.append_assoc]
    rfl
theorem scanP_err {s : ByteArray} {e : Int × Int} (h : scanP s = .error e) : e.1 ≠ 0 := by
  rw [scanP] at h
  split at h
  · cases h; show (3 : Int) ≠ 0; decide
  · cases hl : scanG s (s.size + 1) (runB blankB s 0) [] with
    | ok l' => rw [hl] at h; cases h
    | error i => rw [hl] at h; cases h; show (7 : Int) ≠ 0; decide
theorem back_plain {s : ByteArray} {l : List Tk} (h : scanP s = .ok l) (hs : s.size ≤ 2000) : (joinT l).size ≤ 6000 ∧ ∃ m, scanP (joinT l) = .ok m ∧ m.map tkey = l.map tkey := by
  have hg : scanG s (s.size + 1) (runB blankB s 0) [] = .ok l := by
    rw [scanP, if_neg (by omega)] at h
    cases hl : scanG s (s.size + 1) (runB blankB s 0) [] with
    | ok l' => rw [hl] at h; cases h; rfl
    | error i => rw [hl] at h; cases h
  have hle := runB_le blankB s (i := 0) (by omega)
  obtain ⟨hw, ht⟩ := scanG_word _ _ _ _ hg (fun t ht => by cases ht) (by omega)
  have ht : total l ≤ 0 + (s.size - runB blankB s 0) := ht
  have hn := word_len l hw
  have hz := joinT_size l
  have h6 : (joinT l).size ≤ 6000 := by omega
  refine ⟨h6, ?_⟩
  have h0 : runB blankB (joinT l) 0 = 0 := by
    refine runB_end ?_
    rintro ⟨q1, q2⟩
    cases l with
    | nil => exact absurd q1 (by rw [joinT]; exact Nat.not_lt_zero 0)
    | cons y r => rw [join_first (hw y (by simp))] at q2; cases q2
  obtain ⟨m, e1, e2⟩ := back_at (J := joinT l) l [] (by rw [joinT, ByteArray.empty_append]) hw ((joinT l).size + 1) [] (by omega)
  refine ⟨m, ?_, e2⟩
  rw [scanP, if_neg (by omega), h0]
  rw [show (joinT []).size = 0 from rfl, List.nil_append] at e1
  rw [e1]; rfl
theorem tback_law (σ : PH) (s : ByteArray) (hT : Tab σ) (hE : Errs σ) : CallsA Tryd.prog 6 #[.string s] σ [] (RetA fun r σ' _ => r = .bool true ∧ σ.sub σ') := by
  refine enterA1 Tryd.func6 rfl rfl rfl ?_
  refine zS (zR (zO rfl Rd.asg ?_)); refine zN (zT (zS (zS (zR ?_))))
  refine XOA.wr0 rfl (WrA.cE (tbegun_a σ hT hE) rfl) ?_
  rintro _ σ1 _ ⟨_, ⟨rfl, hs1, rfl⟩, rfl⟩
  refine XOA.cl ?_
  have hT1 := hT.mono hs1
  have hE1 := hE.mono hs1
  refine zO rfl zJ ?_; refine zN (zT (XA.condF rfl rfl (XA.skip (zT (zS (zS (zR (zA rfl ?_)))))))); refine zO rfl (Rd.lenString (tyrow rfl) rfl rfl) ?_; refine zO rfl (Rd.gtr rfl rfl) ?_; refine zN (zT ?_)
  by_cases h9 : 2000 < s.size
  · skip
    refine XA.condT rfl (by first | rfl | exact decide_eq_true (by omega)) ?_; refine zS (zR (zO rfl Rd.asg ?_)); refine zN (zT (XA.ret (DA.thn_ret ?_)))
    exact bodyA.ret (ResA.one rfl rfl) (Ent.nil _) ⟨rfl, hs1⟩
  have hs : s.size ≤ 100000000 := by omega
  have hscan := scan_t σ1 s hs hT1 hE1
  cases hR : scanP s with
  | error e =>
    obtain ⟨e1, e2⟩ := e
    have he := scanP_err hR
    simp only at he
    rw [hR] at hscan
    refine XA.condF rfl (by first | rfl | exact decide_eq_false (by omega)) ?_; refine XA.skip (zT (zS (zR (zA rfl ?_))))
    refine XOA.wr0 rfl (WrA.cE (hscan) rfl) ?_
    rintro _ σ2 _ ⟨_, ⟨sl, rfl, hl, hs2, rfl⟩, rfl⟩
    refine XOA.cl ?_
    obtain ⟨p, c, rfl, hc0, hc1⟩ := hl.shape
    refine zA rfl ?_; refine zO rfl (Rd.extract rfl rfl) ?_; refine zO rfl (Rd.extract rfl rfl) ?_
    refine XOA.wr0 rfl (WrA.alloc (tyrow rfl)) ?_
    rintro _ _ _ ⟨g4, rfl, rfl, rfl⟩
    refine zO rfl Rd.asg ?_
    refine XOA.wr0 rfl (WrA.st (tyrow rfl) rfl) ?_
    rintro _ _ _ ⟨rfl, rfl, rfl⟩
    refine zN (zT (zS (zS (zR (zV rfl rfl ?_))))); refine zB rfl rfl (tyrow rfl) rfl ?_; refine zO rfl (Rd.neq rfl rfl) ?_; refine zN (zT (XA.condT rfl (by first | rfl | exact decide_eq_true he) ?_)); refine zS (zR (zA rfl ?_)); refine zO rfl (Rd.lenSlice (tyrow rfl) rfl rfl) ?_
    refine zO rfl (Rd.eql rfl rfl) ?_; refine zO rfl Rd.asg ?_; refine zN (zT (XA.ret (DA.thn_ret ?_)))
    exact bodyA.ret (ResA.one rfl rfl) (Ent.nil _) ⟨rfl, hs1.trans hs2⟩
  | ok l =>
    rw [hR] at hscan
    replace hscan : CallsA Tryd.prog 17 #[.string s] σ1 [] (RetA fun v σ' Γ' => ∃ sl, v = .tuple #[sl, .agg #[i64 0, i64 (errA (scanP s))]] ∧ PSl 4 rTk σ' sl l ∧ σ1.sub σ' ∧ Γ' = []) := by rw [hR]; exact hscan
    obtain ⟨h6, m, hm, hk⟩ := back_plain hR (by omega)
    have hml : m.length = l.length := by simpa using congrArg List.length hk
    refine XA.condF rfl (by first | rfl | exact decide_eq_false (by omega)) ?_; refine XA.skip (zT (zS (zR (zA rfl ?_))))
    refine XOA.wr0 rfl (WrA.cE (hscan) rfl) ?_
    rintro _ σ2 _ ⟨_, ⟨sl, rfl, hl, hs2, rfl⟩, rfl⟩
    refine XOA.cl ?_
    obtain ⟨p, c, rfl, hc0, hc1⟩ := hl.shape
    have hl : PSl 4 rTk σ2 (.slice p l.length c) l := hl
    have hc0 : l.length ≤ c := hc0
    have hLm : l.length ≤ 9223372036854775807 := by simp only [maxLen] at hc1; omega
    refine zA rfl ?_; refine zO rfl (Rd.extract rfl rfl) ?_; refine zO rfl (Rd.extract rfl rfl) ?_
    refine XOA.wr0 rfl (WrA.alloc (tyrow rfl)) ?_
    rintro _ _ _ ⟨g4, rfl, rfl, rfl⟩
    refine zO rfl Rd.asg ?_
    refine XOA.wr0 rfl (WrA.st (tyrow rfl) rfl) ?_
    rintro _ _ _ ⟨rfl, rfl, rfl⟩
    refine zN (zT (zS (zS (zR (zV rfl rfl ?_))))); refine zB rfl rfl (tyrow rfl) rfl ?_; refine zO rfl (Rd.neq rfl rfl) ?_; refine zN (zT ?_)
    refine XA.condF rfl (by first | rfl | exact decide_eq_false (fun h => h rfl)) ?_
    refine XA.skip (zT (zS (zR (zO rfl Rd.asg ?_)))); refine zN (zT (zS (zS (zR (zO rfl Rd.asg ?_))))); refine zN (zT (XA.block ?_))
    refine XA.gen [(2, _), (3, _), (5, _), (6, _)] ⟨(by with_reducible (conv => lhs; whnf)), (by with_reducible (conv => lhs; whnf)), (by with_reducible (conv => lhs; whnf)), (by with_reducible (conv => lhs; whnf)), trivial⟩ (fun δ => ?_)
    dsimp only [List.foldl]
    refine XA.loop [(5, 6), (26, 39)] (fun x : Nat × ByteArray => [(6, i64 x.1), (5, .string x.2)]) (fun x σ' Γ' => σ2 = σ' ∧ x.1 ≤ l.length ∧ x.2 = joinT (l.take x.1) ∧ Γ' = []) (fun x => l.length - x.1) (0, ByteArray.empty) (by exact ⟨rfl, rfl, trivial⟩) (Δ0 := _) ?_ (⟨rfl, Nat.zero_le _, rfl, rfl⟩) ?_
    · exact zE
    rintro ⟨i, t⟩ δ _ _ ⟨rfl, hi, ht, rfl⟩
    dsimp only [ovr, List.foldl]
    simp only at hi ht
    by_cases hlt : i < l.length
    · obtain ⟨x, hx⟩ : ∃ x, l[i]? = some x := ⟨l[i], by simp [hlt]⟩
      obtain ⟨g, o, row, rfl, hr, -, hrow⟩ := hl.at hx
      have hr : row = tkC x := hr
      subst hr
      have a1 : PRow σ2 g (o + i * 4 + 1) [.string x.text] := hrow.sub (j := 1) rfl
      have hnx : t ++ (x.text ++ sp) = joinT (l.take (i + 1)) := by rw [List.take_add_one, hx, ht, joinT_app, ← joinT_one]; rfl
      have hsz : t.size + (x.text.size + 2) ≤ 6000 := by
        have e1 : t.size + (x.text.size + 2) = (joinT (l.take (i + 1))).size := by rw [← hnx, ByteArray.size_append, ByteArray.size_append]; rfl
        have e2 : (joinT l).size = (joinT (l.take (i + 1))).size + (joinT (l.drop (i + 1))).size := by rw [← ByteArray.size_append, ← joinT_app, List.take_append_drop]
        omega
      refine zS (zS (zR (zA rfl ?_))); refine zA rfl ?_; refine zO rfl (Rd.lenSlice (tyrow rfl) rfl rfl) ?_; refine zO rfl (Rd.lss rfl rfl) ?_; refine zN (zT (XA.condT rfl (by first | rfl | exact decide_eq_true (by omega)) ?_)); refine XA.skip (zT (zS (XA.block (zR (zA rfl ?_))))); refine zA rfl ?_
      refine zA rfl ?_; refine zO rfl (Rd.ixS rfl rfl) ?_; refine zV rfl rfl ?_; refine zB rfl rfl (tyrow rfl) rfl ?_
      refine zO rfl (X.Rd.catStr rfl rfl (by show x.text.size + 2 ≤ _; omega)) ?_
      refine zO rfl (X.Rd.catStr rfl rfl (by show t.size + (x.text ++ sp).size ≤ _; rw [ByteArray.size_append]; exact Nat.le_trans hsz (by decide))) ?_
      refine zO rfl Rd.asg ?_; refine zN (DA.inb_normal (zT (zR (zA rfl ?_)))); refine zO rfl zI ?_; refine zO rfl Rd.asg ?_; refine zN (zT ?_)
      refine ⟨(Keep.upd (Keep.upd (Keep.upd (Keep.upd (Keep.upd (Keep.upd (Keep.upd (Keep.upd (Keep.upd (Keep.upd (Keep.upd (Keep.upd (Keep.upd (Keep.upd (Keep.upd (Keep.upd (Keep.upd (Keep.upd (Keep.hav (Keep.hav (Keep.refl _ _) rfl) rfl) rfl) rfl) rfl) rfl) rfl) rfl) rfl) rfl) rfl) rfl) rfl) rfl) rfl) rfl) rfl) rfl) rfl) rfl), (i + 1, t ++ (x.text ++ sp)), _, zM, ?_, ⟨rfl, hlt, hnx, rfl⟩, (by simp only; omega)⟩
      · exact zE
    · have ht : t = joinT l := by rw [ht, List.take_of_length_le (by omega)]
      subst ht
      have hscan2 := scan_t σ2 (joinT l) (by omega) (hT1.mono hs2) (hE1.mono hs2)
      rw [hm] at hscan2
      replace hscan2 : CallsA Tryd.prog 17 #[.string (joinT l)] σ2 [] (RetA fun v σ' Γ' => ∃ sl, v = .tuple #[sl, .agg #[i64 0, i64 (errA (scanP (joinT l)))]] ∧ PSl 4 rTk σ' sl m ∧ σ2.sub σ' ∧ Γ' = []) := by rw [hm]; exact hscan2
      refine zS (zS (zR (zA rfl ?_))); refine zA rfl ?_; refine zO rfl (Rd.lenSlice (tyrow rfl) rfl rfl) ?_; refine zO rfl (Rd.lss rfl rfl) ?_; refine zN (zT (XA.condF rfl (by first | rfl | exact decide_eq_false (by omega)) ?_))
      refine XA.exit (DA.thn_exit (DA.thn_exit (DA.inb_same (zT (zS (zR (zA rfl ?_)))))))
      refine XOA.wr0 rfl (WrA.cE (hscan2) rfl) ?_
      rintro _ σ3 _ ⟨_, ⟨sm, rfl, hms, hs3, rfl⟩, rfl⟩
      refine XOA.cl ?_
      obtain ⟨q, d, rfl, hd0, hd1⟩ := hms.shape
      have hms : PSl 4 rTk σ3 (.slice q m.length d) m := hms
      have hl3 := hl.mono hs3 (fun _ _ h => h)
      have hself : ¬ ((m.length : Int) ≠ l.length) := by omega
      refine zA rfl ?_; refine zO rfl (Rd.extract rfl rfl) ?_; refine zO rfl (Rd.extract rfl rfl) ?_
      refine XOA.wr0 rfl (WrA.alloc (tyrow rfl)) ?_
      rintro _ _ _ ⟨g8, rfl, rfl, rfl⟩
      refine zO rfl Rd.asg ?_
      refine XOA.wr0 rfl (WrA.st (tyrow rfl) rfl) ?_
      rintro _ _ _ ⟨rfl, rfl, rfl⟩
      refine zN (zT (zS (zS (zR (zV rfl rfl ?_))))); refine zB rfl rfl (tyrow rfl) rfl ?_; refine zO rfl (Rd.neq rfl rfl) ?_; refine zA rfl ?_
      first | (refine zG ?_; refine zA rfl ?_) | refine zH ?_
      first | (refine zG ?_; refine zO rfl (Rd.lenSlice (tyrow rfl) rfl rfl) ?_) | refine zH ?_
      first | (refine zG ?_; refine zA rfl ?_) | refine zH ?_
      first | (refine zG ?_; refine zO rfl (Rd.lenSlice (tyrow rfl) rfl rfl) ?_) | refine zH ?_
      first | (refine zG ?_; refine zO rfl (Rd.neq rfl rfl) ?_) | refine zH ?_
      refine zO rfl zP ?_; refine zN (zT (XA.condF rfl (by first | rfl | exact decide_eq_false hself) ?_)); refine XA.skip (zT (zS (zS (zR (zO rfl Rd.asg ?_))))); refine zN (zT (XA.block ?_))
      refine XA.gen [(2, _), (3, _), (7, _), (9, _)] ⟨(by with_reducible (conv => lhs; whnf)), (by with_reducible (conv => lhs; whnf)), (by with_reducible (conv => lhs; whnf)), (by with_reducible (conv => lhs; whnf)), trivial⟩ (fun δ => ?_)
      dsimp only [List.foldl]
      refine XA.loop [(2, 2), (9, 9), (55, 97)] (fun i : Nat => [(9, i64 i)]) (fun i σ' Γ' => σ3 = σ' ∧ i ≤ l.length ∧ Γ' = []) (fun i => l.length - i) 0 (by exact ⟨rfl, trivial⟩) (Δ0 := _) ?_ (⟨rfl, Nat.zero_le _, rfl⟩) ?_
      · exact zE
      rintro i δ _ _ ⟨rfl, hi, rfl⟩
      dsimp only [ovr, List.foldl]
      have hi : i ≤ l.length := hi
      by_cases hlt : i < l.length
      · obtain ⟨x, hx⟩ : ∃ x, l[i]? = some x := ⟨l[i], by simp [hlt]⟩
        obtain ⟨y, hy⟩ : ∃ y, m[i]? = some y := ⟨m[i], by simp [hlt, hml]⟩
        have hxy : tkey y = tkey x := by
          have := congrArg (fun l => l[i]?) hk
          simpa [hx, hy] using this
        simp only [tkey, Prod.mk.injEq] at hxy
        obtain ⟨k1, k2, k3⟩ := hxy
        obtain ⟨g, o, row, rfl, hr, -, hrow⟩ := hl3.at hx
        obtain ⟨g', o', row', rfl, hr', -, hrow'⟩ := hms.at hy
        have hr : row = tkC x := hr
        have hr' : row' = tkC y := hr'
        subst hr hr'
        have a1 : PRow σ3 g (o + i * 4 + 1) [.string x.text] := hrow.sub (j := 1) rfl
        have a2 : PRow σ3 g (o + i * 4 + 2) [.bool x.num] := hrow.sub (j := 2) rfl
        have a3 : PRow σ3 g (o + i * 4 + 3) [i64 x.n] := hrow.sub (j := 3) rfl
        have b1 : PRow σ3 g' (o' + i * 4 + 1) [.string y.text] := hrow'.sub (j := 1) rfl
        have b2 : PRow σ3 g' (o' + i * 4 + 2) [.bool y.num] := hrow'.sub (j := 2) rfl
        have b3 : PRow σ3 g' (o' + i * 4 + 3) [i64 y.n] := hrow'.sub (j := 3) rfl
        have n2 : ¬ (y.text ≠ x.text) := fun h => h k1
        have n3 : ¬ (y.num ≠ x.num) := fun h => h k2
        have n4 : ¬ (y.n ≠ x.n) := fun h => h k3
        refine zS (zS (zR (zA rfl ?_))); refine zA rfl ?_; refine zO rfl (Rd.lenSlice (tyrow rfl) rfl rfl) ?_; refine zO rfl (Rd.lss rfl rfl) ?_; refine zN (zT (XA.condT rfl (by first | rfl | exact decide_eq_true (by omega)) ?_)); refine XA.skip (zT (zS (XA.block (zS ?_))))
        refine XA.draw (by kernel_rfl) _ _ [] [(0, .pu), (1, .pu), (2, .pu), (3, .pu), (4, .rd), (5, .pu), (6, .pu), (7, .pu), (8, .pu), (9, .rd), (10, .pu), (11, .pu), (12, .pu), (13, .pu), (14, .pu), (15, .pu), (16, .rd), (17, .pu), (18, .pu), (19, .pu), (20, .pu), (21, .rd), (22, .pu), (23, .pu), (24, .pu), (25, .pu), (26, .pu), (27, .pu), (28, .pu), (29, .rd), (30, .pu), (31, .pu), (32, .pu), (33, .pu), (34, .rd), (35, .pu), (36, .pu)] (by kernel_rfl) (PH.sub.refl _) (Ent.nil _) ?_
        refine XPA.pu rfl rfl Gd.free Rd.mv ?_; refine XPA.pu rfl rfl Gd.free Rd.mv ?_; refine XPA.pu rfl rfl Gd.free (Rd.ixS rfl rfl) ?_; refine XPA.pu rfl rfl Gd.free (Rd.fA rfl) ?_; refine XPA.rd rfl rfl Gd.free (Rd.ldC rfl (tyrow rfl) rfl) ?_; refine XPA.pu rfl rfl Gd.free Rd.mv ?_
        refine XPA.pu rfl rfl Gd.free Rd.mv ?_; refine XPA.pu rfl rfl Gd.free (Rd.ixS rfl rfl) ?_; refine XPA.pu rfl rfl Gd.free (Rd.fA rfl) ?_; refine XPA.rd rfl rfl Gd.free (Rd.ldC rfl (tyrow rfl) rfl) ?_; refine XPA.pu rfl rfl Gd.free (Rd.neqs rfl rfl) ?_; refine XPA.pu rfl rfl Gd.free Rd.mv ?_
        first | refine XPA.puG rfl rfl Rd.mv ?_ | refine XPA.puOffG rfl rfl ?_
        first | refine XPA.puG rfl rfl Rd.mv ?_ | refine XPA.puOffG rfl rfl ?_
        first | refine XPA.puG rfl rfl (Rd.ixS rfl rfl) ?_ | refine XPA.puOffG rfl rfl ?_
        first | refine XPA.puG rfl rfl (Rd.fA rfl) ?_ | refine XPA.puOffG rfl rfl ?_
        first | refine XPA.rdG rfl rfl (Rd.ldC rfl (tyrow rfl) rfl) ?_ | refine XPA.offG rfl rfl ?_
        first | refine XPA.puG rfl rfl Rd.mv ?_ | refine XPA.puOffG rfl rfl ?_
        first | refine XPA.puG rfl rfl Rd.mv ?_ | refine XPA.puOffG rfl rfl ?_
        first | refine XPA.puG rfl rfl (Rd.ixS rfl rfl) ?_ | refine XPA.puOffG rfl rfl ?_
        first | refine XPA.puG rfl rfl (Rd.fA rfl) ?_ | refine XPA.puOffG rfl rfl ?_
        first | refine XPA.rdG rfl rfl (Rd.ldC rfl (tyrow rfl) rfl) ?_ | refine XPA.offG rfl rfl ?_
        first | refine XPA.puG rfl rfl (Rd.neqb (tyrow rfl) rfl rfl rfl) ?_ | refine XPA.puOffG rfl rfl ?_
        refine XPA.pu rfl rfl Gd.free zP ?_; refine XPA.pu rfl rfl Gd.free Rd.mv ?_
        first | refine XPA.puG rfl rfl Rd.mv ?_ | refine XPA.puOffG rfl rfl ?_
        first | refine XPA.puG rfl rfl Rd.mv ?_ | refine XPA.puOffG rfl rfl ?_
        first | refine XPA.puG rfl rfl (Rd.ixS rfl rfl) ?_ | refine XPA.puOffG rfl rfl ?_
        first | refine XPA.puG rfl rfl (Rd.fA rfl) ?_ | refine XPA.puOffG rfl rfl ?_
        first | refine XPA.rdG rfl rfl (Rd.ldC rfl (tyrow rfl) rfl) ?_ | refine XPA.offG rfl rfl ?_
        first | refine XPA.puG rfl rfl Rd.mv ?_ | refine XPA.puOffG rfl rfl ?_
        first | refine XPA.puG rfl rfl Rd.mv ?_ | refine XPA.puOffG rfl rfl ?_
        first | refine XPA.puG rfl rfl (Rd.ixS rfl rfl) ?_ | refine XPA.puOffG rfl rfl ?_
        first | refine XPA.puG rfl rfl (Rd.fA rfl) ?_ | refine XPA.puOffG rfl rfl ?_
        first | refine XPA.rdG rfl rfl (Rd.ldC rfl (tyrow rfl) rfl) ?_ | refine XPA.offG rfl rfl ?_
        first | refine XPA.puG rfl rfl (Rd.neq rfl rfl) ?_ | refine XPA.puOffG rfl rfl ?_
        refine XPA.pu rfl rfl Gd.free zP ?_; refine XPA.nil ?_; refine zT (XA.condF rfl (by first | rfl | exact decide_eq_false n4) ?_); refine XA.skip (DA.inb_normal (zT (zR (zA rfl ?_)))); refine zO rfl zI ?_; refine zO rfl Rd.asg ?_; refine zN (zT ?_)
        refine ⟨(Keep.upd (Keep.upd (Keep.upd (Keep.upd (Keep.upd (Keep.upd (Keep.upd (Keep.upd (Keep.upd (Keep.upd (Keep.upd (Keep.upd (Keep.upd (Keep.upd (Keep.upd (Keep.upd (Keep.upd (Keep.upd (Keep.upd (Keep.upd (Keep.upd (Keep.upd (Keep.upd (Keep.upd (Keep.upd (Keep.upd (Keep.upd (Keep.upd (Keep.upd (Keep.upd (Keep.upd (Keep.upd (Keep.upd (Keep.upd (Keep.upd (Keep.upd (Keep.upd (Keep.upd (Keep.upd (Keep.upd (Keep.upd (Keep.upd (Keep.upd (Keep.upd (Keep.upd (Keep.hav (Keep.hav (Keep.hav (Keep.refl _ _) rfl) rfl) rfl) rfl) rfl) rfl) rfl) rfl) rfl) rfl) rfl) rfl) rfl) rfl) rfl) rfl) rfl) rfl) rfl) rfl) rfl) rfl) rfl) rfl) rfl) rfl) rfl) rfl) rfl) rfl) rfl) rfl) rfl) rfl) rfl) rfl) rfl) rfl) rfl) rfl) rfl) rfl) rfl) rfl) rfl) rfl) rfl) rfl), i + 1, _, zM, ?_, ⟨rfl, hlt, rfl⟩, (by omega)⟩
        · exact zE
      · skip
        refine zS (zS (zR (zA rfl ?_))); refine zA rfl ?_; refine zO rfl (Rd.lenSlice (tyrow rfl) rfl rfl) ?_; refine zO rfl (Rd.lss rfl rfl) ?_; refine zN (zT (XA.condF rfl (by first | rfl | exact decide_eq_false (by omega)) ?_))
        refine XA.exit (DA.thn_exit (DA.thn_exit (DA.inb_same (zT (zS (zR (zO rfl Rd.asg ?_))))))); refine zN (zT (XA.ret ?_))
        exact bodyA.ret (ResA.one rfl rfl) (Ent.nil _) ⟨rfl, (hs1.trans hs2).trans hs3⟩
end Go.Proofs.YthefnnkmpcgcmaaDoor

namespace Go.Proofs.YthefnnkmpcgcmaaDoor
open Go X Go.RowKit
set_option maxHeartbeats 1000000
abbrev laid5 : List (String × DataW Unit) := [("math/bits.deBruijn32tab", Rows.laid_math_bits_deBruijn32tab), ("math/bits.deBruijn64tab", Rows.laid_math_bits_deBruijn64tab), ("internal/strconv.uint64pow10", Rows.laid_internal_strconv_uint64pow10), ("strconv.ErrRange", Rows.laid_strconv_ErrRange), ("strconv.ErrSyntax", Rows.laid_strconv_ErrSyntax)]
theorem star : "*" ++ "errors.errorString" = "*errors.errorString" := by decide
theorem errRow (u : TypeId) (h : Tryd.prog.typeName? 3 u = some "*errors.errorString") : u = 158 :=
  typeName_ptr_named (nm := "errors.errorString") (by rw [star]; kernel_rfl) (by kernel_rfl) (by decide) u (by rw [star]; exact h)
theorem var_le {W w : World} {n : String} {cs : Array Value} (hw : (ofHeap W.heap).le w.heap) (h : W.var? Tryd.prog n = some cs) : w.var? Tryd.prog n = some cs := by
  unfold World.var? at h ⊢
  cases hg : Tryd.prog.globalNamed n with
  | none => simp [hg] at h
  | some g =>
    simp only [hg, Option.bind_some] at h ⊢
    cases ho : W.heap[g]? with
    | none => simp [ho] at h
    | some o =>
      have := hw g o ho
      rw [this]
      rw [ho] at h
      exact h
theorem var_row {W : World} {n : String} {g : Nat} {cs : Array Value} (hg : Tryd.prog.globalNamed n = some g) (h : W.var? Tryd.prog n = some cs) : PRow (ofHeap W.heap) g 0 cs.toList := by
  unfold World.var? at h
  simp only [hg, Option.bind_some] at h
  split at h
  · rename_i cs' T fr he
    cases h
    exact ⟨_, _, _, he, by rw [List.drop_zero]; exact List.take_of_length_le (Nat.le_refl _)⟩
  · cases h
theorem list1 {α : Type} {l : List α} (h : l.length = 1) : ∃ a, l = [a] := by
  match l, h with
  | [a], _ => exact ⟨a, rfl⟩
theorem errField : ∃ f : Field, Tryd.prog.underlying 160 = some (.struct #[f]) ∧ f.type = 9 ∧ f.offset = 0 := by
  have hu : Tryd.prog.underlying 160 = some (.struct (Tryd.prog.fieldsOf 160)) := by kernel_rfl
  have hf : (Tryd.prog.fieldsOf 160).toList.map (fun f => (f.type, f.offset)) = [(9, 0)] := by kernel_rfl
  obtain ⟨f, hl⟩ := list1 (l := (Tryd.prog.fieldsOf 160).toList) (by simpa using congrArg List.length hf)
  rw [hl] at hf
  simp only [List.map_cons, List.map_nil, List.cons.injEq, Prod.mk.injEq, and_true] at hf
  refine ⟨f, ?_, hf.1, hf.2⟩
  rw [hu, ← Array.toArray_toList (xs := Tryd.prog.fieldsOf 160), hl]
theorem laid_facts {W : World} (h : laidMet Tryd.prog laid5 W) : Tab (ofHeap W.heap) ∧ Errs (ofHeap W.heap) := by
  have ht := Lib.tabIs_of_head (P := Tryd.prog) (W := W) (k := .u64) (zs := Lib.pow10Tab) (g := 0) (t := 148) (e := 136) (n := 20) (by kernel_rfl) (by kernel_rfl) (by kernel_rfl) (by kernel_rfl) (by kernel_rfl) (by kernel_rfl) h.tail.tail
  obtain ⟨f, hf1, hf2, hf3⟩ := errField
  obtain ⟨a1, s1, hv1, -, -, -⟩ := laid_sentinel h.tail.tail.tail (g := 2) (by kernel_rfl) (ti := 97) (by kernel_rfl) err_if.choose_spec errRow (te := 160) (by kernel_rfl) hf1 hf2 hf3 (by kernel_rfl) (by kernel_rfl) (by kernel_rfl)
  obtain ⟨a2, s2, hv2, -, -, -⟩ := laid_sentinel h.tail.tail.tail.tail (g := 1) (by kernel_rfl) (ti := 97) (by kernel_rfl) err_if.choose_spec errRow (te := 160) (by kernel_rfl) hf1 hf2 hf3 (by kernel_rfl) (by kernel_rfl) (by kernel_rfl)
  refine ⟨fun w hw => ?_, _, _, var_row (by kernel_rfl) hv2, .inr ⟨_, _, rfl⟩, var_row (by kernel_rfl) hv1, .inr ⟨_, _, rfl⟩⟩
  unfold Lib.TabIs at ht ⊢
  exact var_le hw ht
abbrev synS : ByteArray := { data := #[105, 110, 118, 97, 108, 105, 100, 32, 115, 121, 110, 116, 97, 120] }
abbrev rngS : ByteArray := { data := #[118, 97, 108, 117, 101, 32, 111, 117, 116, 32, 111, 102, 32, 114, 97, 110, 103, 101] }
noncomputable def low : Nat := (World.holding Tryd.prog default ⟨#[], #[], []⟩).heap.size
def setCells (cs : Array Value) : Obj → Obj
  | .cells _ t frozen => .cells cs t frozen
  | o => o
def tabOf (d : DataW Unit) : Array Value := match d with
  | .agg l => (l.map fun d => match d with | .lit (.int k z) => Value.int k z | _ => undef).toArray
  | _ => #[]
/-- The settled world with the listed variables as their initialisers lay them. -/
noncomputable def laidWorld (os : Os) : World :=
  let w0 := World.holding Tryd.prog os ⟨#[.cells #[.string synS] 160, .cells #[.string rngS] 160], #[], []⟩
  { w0 with heap := ((((w0.heap.modify 1 (setCells #[.iface 158 (.pointer (some ⟨low, 0, none⟩))])).modify 2 (setCells #[.iface 158 (.pointer (some ⟨low + 1, 0, none⟩))])).modify 0 (setCells (tabOf Rows.laid_internal_strconv_uint64pow10))).modify
      3 (setCells (tabOf Rows.laid_math_bits_deBruijn32tab))).modify 4 (setCells (tabOf Rows.laid_math_bits_deBruijn64tab)) }
set_option maxRecDepth 100000 in
theorem laidWorld_met (os : Os) (args : Array Value) : laidMet Tryd.prog laid5 ((laidWorld os).forCall (fun _ _ => 0) ⟨#[], args, []⟩).memory :=
  laidMet_of_run' 8 (by kernel_rfl) (by kernel_rfl)
end Go.Proofs.YthefnnkmpcgcmaaDoor

namespace Go.Proofs.YthefnnkmpcgcmaaDoor
open Go X Go.ChangeShapes Go.WideShapes Go.ChangeAt Go.RowKit
open Go.ChangeMaps (open_string shut_string)
set_option maxRecDepth 100000 in
theorem tokenBack_lifted (os : Os) (started : os.Started) (H : Type) (enc : TypeId × Value → H) :
    ReturnsInHanded {} Tryd.checked os 6 .any (fun w args => (Rows.tokenBackSpec.pre enc Tryd.prog Tryd.f6 Rows.tokenBackRow.domain false w args ∧ laidMet Tryd.prog laid5 w) ∧ sizedMet enc Tryd.prog Tryd.f6 (OpenSpec.ofChange Rows.tokenBackSpec) false w args)
      (Rows.tokenBackSpec.post enc Tryd.prog Tryd.f6 false true false false) := by
  refine returnsInHanded_of_change_and (C := Tryd.checked) (X := fun w _ => laidMet Tryd.prog laid5 w) (fun _ _ _ hh h => h.of_heap hh) Tryd.own started (by kernel_rfl) Tryd.func6
    (ChangeSpec.witness_at (enc := enc) (C := Tryd.checked) (os := os) (X := fun w _ => laidMet Tryd.prog laid5 w) false (laidWorld os) #[.string ⟨#[]⟩] 8 rfl (by kernel_rfl) (by kernel_rfl) (by kernel_rfl) (by kernel_rfl) (by kernel_rfl) (laidWorld_met os _)) ?_
  intro W base args ds gs before hval0 hW _ _ hL _
  have hval : ∀ (j : Nat) t v, Tryd.f6.params[j]? = some t → args[j]? = some v → Value.okWide Tryd.prog W .any base t v := hval0
  have hW' := hW
  obtain ⟨p, q, hA0, hV, rfl, hfz, hnd⟩ := hW
  have hA : DataW.TrodAll enc Tryd.prog W 0 (fun _ => true) true [9] args.toList ds p := hA0
  obtain ⟨v0, d0, rfl, rfl, h0⟩ := trodAll_one hA
  have hb : Tryd.prog.underlying 4 = some .bool := by kernel_rfl
  refine post_true (fid := 6) (tb := 4) Tryd.laidOut (by kernel_rfl) rfl rfl hb ?_ hW' (callsX_true ?_)
  · obtain ⟨rfl, rfl⟩ := trodVars_none hV; rfl
  · obtain ⟨s, rfl, -, -, -⟩ := open_string (by kernel_rfl : Tryd.prog.underlying 9 = some .string) (hval 0 _ v0 rfl rfl) h0
    obtain ⟨hT, hE⟩ := laid_facts hL
    exact tback_law _ s hT hE
theorem tokenBack_row : Rows.TokenBackSaid :=
  OpenClaim.holds_of_wide 6 Tryd.f6 rfl rfl rfl rfl rfl rfl rfl ⟨rfl, rfl, rfl, rfl, rfl⟩ rfl rfl rfl rfl rfl (by kernel_rfl) Tryd.func6 (by kernel_rfl)
    (of_decide_eq_true (by kernel_rfl)) (by unfold Func.isWrapper; first | (rw [if_pos (by decide +kernel)]; kernel_rfl) | (rw [if_neg (by decide +kernel)]; exact ⟨rfl, rfl⟩))
    (fun os started H enc _ => tokenBack_lifted os started H enc)
theorem tokenBack_holds : Rows.TokenBackCardSaid :=
  Claim7.holds_tied_plain_at .later [] [.data, .data, .data, .sentinel, .sentinel] true (true, "9fbee17c67760fa0909904053e84e62a0a224b532630f95ef45ea5d0c49ecdd4") true
    tokenBack_row (fun _ h => by cases h) (by kernel_rfl) (fun _ h => by cases h) tokenBack_row_tie rfl ⟨rfl, rfl⟩ (by kernel_rfl) rfl
    (fun f fn hf hfn => by
      obtain rfl : f = 6 := Option.some.inj ((show Tryd.prog.funcNamed "overwinter/overwinterlaw.TokenBack" = some 6 by kernel_rfl).symm.trans hf) |>.symm
      obtain rfl : fn = Tryd.f6 := (Option.some.inj (Tryd.func6.symm.trans hfn)).symm
      exact ⟨by kernel_rfl, fun j t ht => by
        have hm : t ∈ [9] := by simpa using Array.mem_of_getElem? ht
        have hall : ([9].all fun u => !Tryd.prog.wantsStandIn u) = true := by kernel_rfl
        exact (show Tryd.prog.wantsStandIn t = false by simpa using List.all_eq_true.1 hall t hm)⟩)
    (by kernel_rfl)
end Go.Proofs.YthefnnkmpcgcmaaDoor

