/- The law ParseReads holds: every Parse, Word and Verb is as the document says. Condition: the given card's own, that the variables of the library that it lists hold what it lays. -/
import Derived.Test.YthefnnkmpcgcmaaGreatDoorWre1
import Derived.Test.YthefnnkmpcgcmaaGreatDoorWre2
import Derived.Test.YthefnnkmpcgcmaaGreatDoorWre4
import Derived.Test.YthefnnkmpcgcmaaGreatDoorRows
import Derived.LaidLaws
import Derived.Stop.LaidErr
import Derived.RowKit3
import Derived.RowKitTokens
import Derived.ChangeMaps5
import Derived.Handed
import Derived.SizedLaws
import Derived.Test.YthefnnkmpcgcmaaGreatDoorCards
import Derived.Test.YthefnnkmpcgcmaaGreatDoorTie
namespace Go.Proofs.YthefnnkmpcgcmaaGreatDoor
open Go X
set_option maxHeartbeats 8000000
set_option maxRecDepth 4000
theorem scanP_err0 {s : ByteArray} {x : Int × Int} (h : scanP s = .error x) : ¬ x.1 = 0 := by
  rw [scanP] at h
  split at h
  · cases h; show ¬ (3 : Int) = 0; decide
  · cases hl : scanG s (s.size + 1) (runB blankB s 0) [] with
    | ok l' => rw [hl] at h; cases h
    | error i => rw [hl] at h; cases h; show ¬ (7 : Int) = 0; decide
theorem nameV_size {e : Int} {r : List Tk} (hF : ∀ t ∈ r, TkF t) : (valD (nameP e) ByteArray.empty (.ok r)).size ≤ maxLen := by
  cases hn : nameP e r with
  | error y => rw [valD, hn]; exact Nat.zero_le _
  | ok z =>
    obtain ⟨nm, r1⟩ := z
    obtain ⟨t1, rfl, -, rfl⟩ := nameP_ok hn
    rw [valD, hn]
    exact (hF t1 (by simp)).1
def LetS (e : Int) (L : List Tk) (sc : RS) (acc : List Va) : Prop := (∃ lc gc, sc = .ok lc ∧ lc.length < gc ∧ letsG e (L.length + 1) L [] = letsG e gc lc acc) ∨ (∃ y, sc = .error y ∧ letsG e (L.length + 1) L [] = .error y)
theorem letS0 {e : Int} {L : List Tk} : LetS e L (.ok L) [] := .inl ⟨L, L.length + 1, rfl, Nat.lt_succ_self _, rfl⟩
theorem let_step {e : Int} {L : List Tk} {t : Tk} {r : List Tk} {acc : List Va} (h : LetS e L (.ok (t :: r)) acc) (hl : isT kwLet (t :: r) = true) :
    LetS e L (goS (numP e) (goS (nameP e) (.ok r))) (acc ++ [⟨valD (nameP e) ByteArray.empty (.ok r), cutN (valD (numP e) 0 (goS (nameP e) (.ok r)))⟩]) ∧ RS.len (goS (numP e) (goS (nameP e) (.ok r))) < RS.len (.ok (t :: r)) := by
  rcases h with ⟨lc, gc, h1, hg, h2⟩ | ⟨y, h1, -⟩
  · cases h1
    obtain ⟨gc, rfl⟩ : ∃ g, gc = g + 1 := ⟨gc - 1, by omega⟩
    rw [letsG.eq_def e (gc + 1)] at h2
    simp only at h2
    rw [if_pos hl, List.tail_cons] at h2
    simp only [List.length_cons] at hg
    cases hn : nameP e r with
    | error y =>
      rw [hn] at h2
      rw [goS_bad hn]
      exact ⟨.inr ⟨y, rfl, h2⟩, by show 0 < (t :: r).length + 1; omega⟩
    | ok z =>
      obtain ⟨nm, r1⟩ := z
      obtain ⟨t1, rfl, -, -⟩ := nameP_ok hn
      rw [hn] at h2
      simp only [bindP] at h2
      have hv : valD (nameP e) ByteArray.empty (.ok (t1 :: r1)) = nm := by rw [valD, hn]
      rw [goS_ok hn, hv]
      cases hm : numP e r1 with
      | error y =>
        rw [hm] at h2
        rw [goS_bad hm]
        exact ⟨.inr ⟨y, rfl, h2⟩, by show 0 < (t :: t1 :: r1).length + 1; omega⟩
      | ok z =>
        obtain ⟨n, r2⟩ := z
        obtain ⟨t2, rfl, -, -⟩ := numP_ok hm
        rw [hm] at h2
        have hv2 : valD (numP e) 0 (.ok (t2 :: r2)) = n := by rw [valD, hm]
        rw [goS_ok hm, hv2]
        simp only [List.length_cons] at hg
        exact ⟨.inl ⟨r2, gc, rfl, by omega, h2⟩, by show r2.length + 1 < (t :: t1 :: t2 :: r2).length + 1; simp only [List.length_cons]; omega⟩
  · cases h1
def BodS (S : List Tk → PR St) (s1 sc : RS) (acc : List St) : Prop :=
  (∃ l1, s1 = .ok l1 ∧ ((∃ lc gc, sc = .ok lc ∧ lc.length < gc ∧ bodyG S (l1.length + 1) l1 [] = bodyG S gc lc acc) ∨ (∃ y, sc = .error y ∧ bodyG S (l1.length + 1) l1 [] = .error y))) ∨ (∃ y, s1 = .error y ∧ sc = .error y)
theorem bodS0 {S : List Tk → PR St} {s1 : RS} : BodS S s1 s1 [] := by
  cases s1 with
  | ok l => exact .inl ⟨l, rfl, .inl ⟨l, l.length + 1, rfl, Nat.lt_succ_self _, rfl⟩⟩
  | error y => exact .inr ⟨y, rfl, rfl⟩
theorem bod_step {S : List Tk → PR St} (hS : ∀ l x l', S l = .ok (x, l') → l'.length < l.length) {s1 : RS} {lc : List Tk} {acc : List St} {x : St} (h : BodS S s1 (.ok lc) acc) (hr : lc.length ≠ 0) (hx : valS S (.ok lc) x) : BodS S s1 (goS S (.ok lc)) (acc ++ [x]) := by
  rcases h with ⟨l1, rfl, ⟨lc', gc, h1, hg, h2⟩ | ⟨y, h1, -⟩⟩ | ⟨y, -, h1⟩
  · cases h1
    refine .inl ⟨l1, rfl, ?_⟩
    obtain ⟨gc, rfl⟩ : ∃ g, gc = g + 1 := ⟨gc - 1, by omega⟩
    rw [bodyG.eq_def S (gc + 1)] at h2
    simp only at h2
    rw [if_neg hr] at h2
    cases hE : S lc with
    | error y => rw [hE] at h2; exact .inr ⟨y, goS_bad hE, h2⟩
    | ok z =>
      obtain ⟨y, l'⟩ := z
      rw [hE] at h2
      rw [hx lc y l' rfl hE]
      have := hS lc y l' hE
      exact .inl ⟨l', gc, goS_ok hE, by omega, h2⟩
  · cases h1
  · cases h1
theorem prog_end {e : Int} {L : List Tk} {s1 sc : RS} {vl : List Va} {b : List St} (h1 : LetS e L s1 vl) (hend : ∀ lc, s1 = .ok lc → isT kwLet lc = false) (h2 : BodS (stmtP vl e 13) s1 sc b) :
    (∀ y, sc = .error y → progP e L = .error y) ∧ (sc = .ok [] → ∃ r, progP e L = .ok (⟨vl, b⟩, r)) := by
  rcases h1 with ⟨lc, gc, rfl, hg, h3⟩ | ⟨y, rfl, h3⟩
  · obtain ⟨gc, rfl⟩ : ∃ g, gc = g + 1 := ⟨gc - 1, by omega⟩
    rw [letsG.eq_def e (gc + 1)] at h3
    simp only at h3
    rw [if_neg (by rw [hend lc rfl]; exact Bool.noConfusion)] at h3
    have hp : progP e L = bindP (bodyG (stmtP vl e 13) (lc.length + 1) lc []) fun b l2 => .ok (⟨vl, b⟩, l2) := by rw [progP, h3]; rfl
    rcases h2 with ⟨l1, h4, ⟨lc', gc', rfl, hg', h5⟩ | ⟨y, rfl, h5⟩⟩ | ⟨y, h4, -⟩
    · cases h4
      refine ⟨fun y h => (by cases h), fun h => ?_⟩
      cases h
      obtain ⟨gc', rfl⟩ : ∃ g, gc' = g + 1 := ⟨gc' - 1, by omega⟩
      rw [bodyG.eq_def _ (gc' + 1)] at h5
      simp only at h5
      rw [if_pos (show ([] : List Tk).length = 0 from rfl)] at h5
      exact ⟨[], by rw [hp, h5]; rfl⟩
    · cases h4
      refine ⟨fun z h => ?_, fun h => (by cases h)⟩
      cases h
      rw [hp, h5]; rfl
    · cases h4
  · have hp : progP e L = .error y := by rw [progP, h3]; rfl
    rcases h2 with ⟨l1, h4, -⟩ | ⟨y', h4, rfl⟩
    · cases h4
    · cases h4
      exact ⟨fun z h => (by cases h; exact hp), fun h => (by cases h)⟩
theorem rparse_p (σ : PH) (s : ByteArray) (hs : s.size ≤ 100000000) (hT : Tab σ) (hE : Errs σ) : CallsA Tryz.prog 6 #[.string s] σ [] (RetA (ParsePost s σ)) := by
  have hsc := rscan_t σ s hs hT hE
  cases hR : scanP s with
  | error x =>
    obtain ⟨x1, x2⟩ := x
    have he : ¬ (x1 = 0) := scanP_err0 hR
    have hp : parseP s = .error (x1, x2) := by rw [parseP, hR]
    rw [hR] at hsc
    replace hsc : CallsA Tryz.prog 16 #[.string s] σ [] (RetA fun v σ' Γ' => ∃ sl, v = .tuple #[sl, .agg #[i64 x1, i64 x2]] ∧ PSl 4 rTk σ' sl [] ∧ σ.sub σ' ∧ Γ' = []) := hsc
    refine enterA1 Tryz.func6 rfl rfl rfl ?_
    refine zS (zR ?_)
    refine XOA.wr0 rfl (WrA.alloc (tyrow rfl)) ?_
    rintro _ _ _ ⟨g2, rfl, rfl, rfl⟩
    refine XOA.wr0 rfl (WrA.alloc (tyrow rfl)) ?_
    rintro _ _ _ ⟨g3, rfl, rfl, rfl⟩
    refine zN (zT (zS (zR (zA rfl ?_))))
    refine XOA.wr0 rfl (WrA.cE (hsc) rfl) ?_
    rintro _ σ1 _ ⟨_, ⟨sl, rfl, hl, hs1, rfl⟩, rfl⟩
    refine XOA.cl ?_; refine zA rfl ?_; refine zO rfl (Rd.extract rfl rfl) ?_; refine zO rfl (Rd.extract rfl rfl) ?_
    refine XOA.wr0 rfl (WrA.alloc (tyrow rfl)) ?_
    rintro _ _ _ ⟨g5, rfl, rfl, rfl⟩
    refine zO rfl Rd.asg ?_
    refine XOA.wr0 rfl (WrA.st (tyrow rfl) rfl) ?_
    rintro _ _ _ ⟨rfl, rfl, rfl⟩
    refine zN (zT (zS (zS (zR (zV rfl rfl ?_))))); refine zB rfl rfl (tyrow rfl) rfl ?_; refine zO rfl (Rd.neq rfl rfl) ?_; refine zN (zT (XA.condT rfl (by first | rfl | exact decide_eq_true he) ?_)); refine zS ?_
    refine XA.draw (by kernel_rfl) _ _ [3] [(0, .pu), (1, .rd), (2, .wr), (3, .wr)] (by kernel_rfl) (PH.sub.refl _) (Ent.sel (R := blk g5 _ _) zL (Ent.nil _)) ?_
    refine XPA.pu rfl rfl Gd.free (Rd.bl (fun _ _ => tyrow) rfl rfl rfl) ?_
    refine XPA.rd rfl rfl Gd.free (Rd.ldA rfl) ?_
    refine XPA.wr0 rfl rfl Gd.free (WrA.st (tyrow rfl) rfl) ?_
    rintro _ _ _ ⟨rfl, rfl, rfl⟩
    refine stays ?_
    refine XPA.wrZ0 rfl rfl Gd.free (by kernel_rfl) (WrA.st (tyrow rfl) rfl) ?_
    rintro _ _ _ ⟨rfl, rfl, rfl⟩
    refine XPA.nil ?_; refine zT (XA.ret (DA.thn_ret ?_))
    exact bodyA.ret (X.ResA.cc rfl rfl rfl (Ld.atBlk (tyrow rfl) rfl zL rfl (by first | exact take0 (by first | rfl | assumption | (refine (ints_len _).trans ?_; assumption) | (simp [*]; (first | done | fail))) | assumption | exact take_app (by first | rfl | assumption | (refine (ints_len _).trans ?_; assumption) | (simp [*]; (first | done | fail))) | (conv => lhs; simp only [List.drop_succ_cons, List.drop_zero, List.take_succ_cons, List.take_zero])) (by first | rfl | assumption | (refine (ints_len _).trans ?_; assumption) | (simp [*]; (first | done | fail)))) (Ld.atBlk (tyrow rfl) rfl zL rfl (by first | exact take0 (by first | rfl | assumption | (refine (ints_len _).trans ?_; assumption) | (simp [*]; (first | done | fail))) | assumption | exact take_app (by first | rfl | assumption | (refine (ints_len _).trans ?_; assumption) | (simp [*]; (first | done | fail))) | (conv => lhs; simp only [List.drop_succ_cons, List.drop_zero, List.take_succ_cons, List.take_zero])) (by first | rfl | assumption | (refine (ints_len _).trans ?_; assumption) | (simp [*]; (first | done | fail))))) (Ent.nil _) ⟨_, by rw [hp]; rfl, by rw [hp]; exact pr_none _, hs1, rfl⟩
  | ok L =>
    obtain ⟨h6, hok⟩ := scanP_ok hR
    have hF : ∀ t ∈ L, TkF t := fun t ht => ⟨by have := (hok t ht).size; simp only [maxLen]; omega, (hok t ht).num⟩
    have hLn : L.length ≤ 6000 := by
      have := scanP_len hR
      omega
    rw [hR] at hsc
    replace hsc : CallsA Tryz.prog 16 #[.string s] σ [] (RetA fun v σ' Γ' => ∃ sl, v = .tuple #[sl, .agg #[i64 0, i64 0]] ∧ PSl 4 rTk σ' sl L ∧ σ.sub σ' ∧ Γ' = []) := hsc
    refine enterA1 Tryz.func6 rfl rfl rfl ?_
    refine zS (zR ?_)
    refine XOA.wr0 rfl (WrA.alloc (tyrow rfl)) ?_
    rintro _ _ _ ⟨g2, rfl, rfl, rfl⟩
    refine XOA.wr0 rfl (WrA.alloc (tyrow rfl)) ?_
    rintro _ _ _ ⟨g3, rfl, rfl, rfl⟩
    refine zN (zT (zS (zR (zA rfl ?_))))
    refine XOA.wr0 rfl (WrA.cE (hsc) rfl) ?_
    rintro _ σ1 _ ⟨_, ⟨sl, rfl, hL, hs1, rfl⟩, rfl⟩
    refine XOA.cl ?_
    obtain ⟨p, c0, rfl, hc0, hc1⟩ := hL.shape
    refine zA rfl ?_; refine zO rfl (Rd.extract rfl rfl) ?_; refine zO rfl (Rd.extract rfl rfl) ?_
    refine XOA.wr0 rfl (WrA.alloc (tyrow rfl)) ?_
    rintro _ _ _ ⟨g5, rfl, rfl, rfl⟩
    refine zO rfl Rd.asg ?_
    refine XOA.wr0 rfl (WrA.st (tyrow rfl) rfl) ?_
    rintro _ _ _ ⟨rfl, rfl, rfl⟩
    refine zN (zT (zS (zS (zR (zV rfl rfl ?_))))); refine zB rfl rfl (tyrow rfl) rfl ?_; refine zO rfl (Rd.neq rfl rfl) ?_; refine zN (zT ?_)
    refine XA.condF rfl (by first | rfl | exact decide_eq_false (fun h => h rfl)) ?_
    refine XA.skip (zT (zS (zR (zA rfl ?_)))); refine zA rfl ?_; refine zO rfl (Rd.lenString (tyrow rfl) rfl rfl) ?_
    refine zO rfl (Rd.bl (fun _ _ => tyrow) rfl rfl rfl) ?_
    refine XOA.wr0 rfl WrA.bx ?_
    rintro _ _ _ ⟨g25, rfl, rfl, rfl⟩
    refine zO rfl Rd.asg ?_; refine zN (zT (zS (XA.block ?_)))
    refine XA.ent (Ent.selNil (e := 58) (size := 2) (Ent.refl _)) ?_
    refine XA.gen [(2, _), (3, _), (4, _), (6, _)] ⟨(by with_reducible (conv => lhs; whnf)), (by with_reducible (conv => lhs; whnf)), (by with_reducible (conv => lhs; whnf)), (by with_reducible (conv => lhs; whnf)), trivial⟩ (fun δ => ?_)
    dsimp only [List.foldl]
    refine XA.loop [(6, 8), (26, 57)] (fun x : (Nat × (Option Addr × Nat)) × RS => [(6, ptr g25)]) (fun x σ' Γ' => σ1.sub σ' ∧ x.1.1 + x.2.len ≤ L.length + 1 ∧ ∃ (acc : List Va) (rows : List (List Value)) (k : Nat) (c a : Int), LetS s.size L x.2 acc ∧ acc.length = x.1.1 ∧ Rows_ 2 rVa σ' rows acc ∧ (k ≤ L.length ∧ match x.2 with | .ok l => c = 0 ∧ a = 0 ∧ L.drop k = l | .error y => c = y.1 ∧ a = y.2 ∧ y.1 ≠ 0) ∧ Γ' = [lst 58 2 (.slice x.1.2.1 x.1.1 x.1.2.2) x.1.1 rows.flatten, rblk g25 (.slice p L.length c0) s.size k c a (.slice x.1.2.1 x.1.1 x.1.2.2), blk g2 [.slice none 0 0, .slice none 0 0] 26, blk g3 [i64 0, i64 0] 28]) (fun x => x.2.len) ((0, (none, 0)), .ok L) (by exact ⟨rfl, trivial⟩) (Δ0 := _) ?_ (⟨.refl _, by show 0 + (L.length + 1) ≤ _; omega, [], [], 0, 0, 0, letS0, rfl, Rows_.nil _ _ _, ⟨Nat.zero_le _, rfl, rfl, rfl⟩, rfl⟩) ?_
    · exact zE
    rintro ⟨⟨i, pl, cl⟩, sc⟩ δ σ2 _ ⟨hsub2, hbnd, acc, rows, k, c, a, hLet, hacc, hrows, hkk, rfl⟩
    dsimp only [ovr, List.foldl]
    have hL2 : PSl 4 rTk σ2 (.slice p L.length c0) L := hL.mono hsub2 (fun _ _ h => h)
    simp only at hbnd hLet hacc
    have his := CallsA.pre (Rg.mk (b := g25) (sl := .slice p L.length c0) (e := s.size) (vs := .slice pl i cl) hkk) (is_r σ2 L p c0 s.size (.slice pl i cl) g25 sc kwLet hL2)
    cases hq : isS kwLet sc with
    | true =>
      rw [hq] at his
      obtain ⟨t, r, rfl⟩ : ∃ t r, sc = .ok (t :: r) := by
        cases sc with
        | error y => cases hq
        | ok l =>
          cases l with
          | nil => cases hq
          | cons t r => exact ⟨t, r, rfl⟩
      obtain ⟨hLet2, hdec⟩ := let_step hLet hq
      have hin : RS.len (.ok (t :: r)) = r.length + 1 + 1 := rfl
      refine zS (zS (zR (zA rfl ?_)))
      refine XOA.wr0 rfl (WrA.cE (his) rfl) ?_
      rintro _ _ _ ⟨_, ⟨⟨rfl, rfl⟩, rfl⟩, rfl⟩
      refine XOA.cl ?_
      first | refine XA.opn (R := Rg _ _ _ _ _ _) zL (Rg.any) ?_ | refine XOA.opn (R := Rg _ _ _ _ _ _) zL (Rg.any) ?_ | refine DA.opn (R := Rg _ _ _ _ _ _) zL (Rg.any) ?_
      rintro ⟨k1, c1, a1⟩ ⟨hk1, hc1, ha1, hd1⟩
      first | refine XA.cl ?_ | refine XOA.cl ?_ | refine DA.cl ?_
      simp only at hk1 hc1 ha1 hd1
      subst hc1
      subst ha1
      obtain ⟨-, hk1', hd1'⟩ := drop_cons hd1
      have hFr : ∀ t ∈ r, TkF t := fun t ht => hF t (by have : t ∈ L.drop (k1 + 1) := (by rw [hd1']; exact ht); exact List.mem_of_mem_drop this)
      have hnsz := nameV_size (e := s.size) hFr
      refine zN (zT (XA.condT rfl rfl (XA.skip (zT (XA.block (zS (zR (zA rfl ?_)))))))); refine zO rfl (Rd.nilCheck rfl) ?_; refine zV rfl rfl ?_; refine zB rfl rfl (tyrow rfl) rfl ?_; refine zO rfl zI ?_; refine zO rfl (Rd.nilCheck rfl) ?_; refine zV rfl rfl ?_
      refine XOA.wr0 rfl (WrA.st (tyrow rfl) rfl) ?_
      rintro _ _ _ ⟨rfl, rfl, rfl⟩
      refine zN (zT (zS (zR (zA rfl ?_))))
      refine XOA.wr0 rfl (WrA.cE (CallsA.pre (Rg.mk (b := g25) (sl := .slice p L.length c0) (e := s.size) (vs := .slice pl i cl) (k := k1 + 1) (c := 0) (a := 0) (s := .ok r) ⟨hk1', rfl, rfl, hd1'⟩) (name_r σ2 L p c0 s.size (.slice pl i cl) g25 (.ok r) hL2 hF)) rfl) ?_
      rintro _ _ _ ⟨_, ⟨⟨rfl, rfl⟩, rfl⟩, rfl⟩
      refine XOA.cl ?_
      refine zO rfl (Rd.bl (fun _ _ => tyrow) rfl rfl rfl) ?_
      refine XOA.wr0 rfl (WrA.alloc (tyrow rfl)) ?_
      rintro _ _ _ ⟨g7, rfl, rfl, rfl⟩
      refine XOA.wr0 rfl (WrA.st (tyrow rfl) rfl) ?_
      rintro _ _ _ ⟨rfl, rfl, rfl⟩
      refine zN (zT (zS (zS (zR (zA rfl ?_)))))
      obtain ⟨n, hn⟩ : ∃ n, valD (numP s.size) 0 (goS (nameP s.size) (.ok r)) = n := ⟨_, rfl⟩
      obtain ⟨nm, hnm⟩ : ∃ nm, valD (nameP s.size) ByteArray.empty (.ok r) = nm := ⟨_, rfl⟩
      have hnu := number_r σ2 L p c0 s.size (.slice pl i cl) g25 (goS (nameP s.size) (.ok r)) hL2 hF
      rw [hn] at hnu hLet2
      rw [hnm] at hLet2 hnsz ⊢
      refine XOA.wr0 rfl (WrA.cE (hnu) rfl) ?_
      rintro _ _ _ ⟨_, ⟨⟨rfl, hi64, rfl⟩, rfl⟩, rfl⟩
      refine XOA.cl ?_
      first | refine XA.opn (R := Rg _ _ _ _ _ _) zL (Rg.any) ?_ | refine XOA.opn (R := Rg _ _ _ _ _ _) zL (Rg.any) ?_ | refine DA.opn (R := Rg _ _ _ _ _ _) zL (Rg.any) ?_
      rintro ⟨k2, c2, a2⟩ hkk2
      first | refine XA.cl ?_ | refine XOA.cl ?_ | refine DA.cl ?_
      simp only at hkk2
      by_cases h1 : 1 ≤ n
      · 
        by_cases h48 : n ≤ 48
        · 
          have hcut : cutN n = n := by rw [cutN, if_neg (by omega)]
          rw [hcut] at hLet2
          refine zO rfl Rd.asg ?_; refine zN (zT (zS (zR (zA rfl ?_)))); refine zO rfl (Rd.geq rfl rfl) ?_; refine zA rfl ?_
          first | (refine zG ?_; refine zA rfl ?_) | refine zH ?_
          first | (refine zG ?_; refine zO rfl (Rd.leq rfl rfl) ?_) | refine zH ?_
          refine zO rfl zP ?_; refine zN (zT (XA.condT rfl (by first | rfl | exact decide_eq_true h48) ?_)); refine zR (zA rfl ?_); refine zV rfl rfl ?_
          refine XOA.wr0 rfl (WrA.st (tyrow rfl) rfl) ?_
          rintro _ _ _ ⟨rfl, rfl, rfl⟩
          refine zN (zT ?_)
          refine XA.draw (by kernel_rfl) _ _ [7, 10] [(0, .pu), (1, .pu), (2, .pu), (3, .pu), (4, .rd), (5, .rd), (6, .wr), (7, .wr), (8, .pu), (9, .pu), (10, .wr)] (by kernel_rfl) (PH.sub.refl _) (Ent.sel (R := blk g25 _ _) zL (Ent.sel (R := blk g7 _ _) zL (Ent.nil _))) ?_
          refine XPA.pu rfl rfl Gd.free Rd.mv ?_; refine XPA.pu rfl rfl Gd.free Rd.mv ?_; refine XPA.pu rfl rfl Gd.free (Rd.nilCheck rfl) ?_; refine XPA.pu rfl rfl Gd.free (Rd.fA rfl) ?_; refine XPA.rd rfl rfl Gd.free (Rd.ldC rfl (tyrow rfl) rfl) ?_; refine XPA.rd rfl rfl Gd.free (Rd.ldA rfl) ?_
          refine XPA.wr0 rfl rfl Gd.free (WrA.bs1 (tyrow rfl) rfl (tyrow rfl)) ?_
          rintro _ _ _ ⟨g54, rfl, rfl, rfl⟩
          refine stays ?_
          refine XPA.wrZ0 rfl rfl Gd.free (by kernel_rfl) (WrA.ap1 (tyrow rfl) rfl (tyrow rfl) rfl rfl rfl) ?_
          rintro _ _ _ ⟨p55, c55, rfl, rfl, rfl⟩
          refine XPA.pu rfl rfl Gd.free (Rd.nilCheck rfl) ?_; refine XPA.pu rfl rfl Gd.free (Rd.fA rfl) ?_
          refine XPA.wrZ0 rfl rfl Gd.free (by kernel_rfl) (WrA.st (tyrow rfl) rfl) ?_
          rintro _ _ _ ⟨rfl, rfl, rfl⟩
          refine XPA.nil ?_; refine DA.inb_normal (zT ?_)
          have hnew : Rows_ 2 rVa σ2 (rows ++ [[.string nm, i64 n]]) (acc ++ [⟨nm, n⟩]) := hrows.snoc rfl ⟨rfl, hi64, hnsz⟩
          refine ⟨(Keep.updN (Keep.upd (Keep.upd (Keep.updO (Keep.updO (Keep.upd (Keep.upd (Keep.upd (Keep.upd (Keep.upd (Keep.upd (Keep.updN (Keep.upd (Keep.upd (Keep.upd (Keep.upd (Keep.upd (Keep.upd (Keep.upd (Keep.upd (Keep.upd (Keep.updO (Keep.upd (Keep.updN (Keep.updO (Keep.upd (Keep.updO (Keep.upd (Keep.updN (Keep.upd (Keep.upd (Keep.upd (Keep.upd (Keep.upd (Keep.upd (Keep.upd (Keep.updO (Keep.upd (Keep.upd (Keep.hav (Keep.hav (Keep.refl _ _) rfl) rfl) rfl) rfl) rfl) rfl) rfl) rfl) rfl) rfl) rfl) rfl)) rfl) rfl) rfl) rfl)) rfl) rfl) rfl) rfl) rfl) rfl) rfl) rfl) rfl) rfl) rfl)) rfl) rfl) rfl) rfl) rfl) rfl) rfl) rfl) rfl) rfl)), ((i + 1, (p55, c55)), goS (numP s.size) (goS (nameP s.size) (.ok r))), _, zM, ?_, ⟨hsub2, by show i + 1 + RS.len (goS (numP s.size) (goS (nameP s.size) (.ok r))) ≤ L.length + 1; omega, acc ++ [⟨nm, n⟩], rows ++ [[.string nm, i64 n]], k2, c2, a2, hLet2, (by rw [List.length_append, hacc]; rfl), hnew, hkk2, rfl⟩, hdec⟩
          · rw [flatS]; exact zE
        · 
          have hcut : cutN n = 0 := by rw [cutN, if_pos (.inr (by omega))]
          rw [hcut] at hLet2
          refine zO rfl Rd.asg ?_; refine zN (zT (zS (zR (zA rfl ?_)))); refine zO rfl (Rd.geq rfl rfl) ?_; refine zA rfl ?_
          first | (refine zG ?_; refine zA rfl ?_) | refine zH ?_
          first | (refine zG ?_; refine zO rfl (Rd.leq rfl rfl) ?_) | refine zH ?_
          refine zO rfl zP ?_; refine zN (zT (XA.condF rfl (by first | rfl | exact decide_eq_false h48) ?_)); refine XA.skip (zT ?_)
          refine XA.draw (by kernel_rfl) _ _ [7, 10] [(0, .pu), (1, .pu), (2, .pu), (3, .pu), (4, .rd), (5, .rd), (6, .wr), (7, .wr), (8, .pu), (9, .pu), (10, .wr)] (by kernel_rfl) (PH.sub.refl _) (Ent.sel (R := blk g25 _ _) zL (Ent.sel (R := blk g7 _ _) zL (Ent.nil _))) ?_
          refine XPA.pu rfl rfl Gd.free Rd.mv ?_; refine XPA.pu rfl rfl Gd.free Rd.mv ?_; refine XPA.pu rfl rfl Gd.free (Rd.nilCheck rfl) ?_; refine XPA.pu rfl rfl Gd.free (Rd.fA rfl) ?_; refine XPA.rd rfl rfl Gd.free (Rd.ldC rfl (tyrow rfl) rfl) ?_; refine XPA.rd rfl rfl Gd.free (Rd.ldA rfl) ?_
          refine XPA.wr0 rfl rfl Gd.free (WrA.bs1 (tyrow rfl) rfl (tyrow rfl)) ?_
          rintro _ _ _ ⟨g54, rfl, rfl, rfl⟩
          refine stays ?_
          refine XPA.wrZ0 rfl rfl Gd.free (by kernel_rfl) (WrA.ap1 (tyrow rfl) rfl (tyrow rfl) rfl rfl rfl) ?_
          rintro _ _ _ ⟨p55, c55, rfl, rfl, rfl⟩
          refine XPA.pu rfl rfl Gd.free (Rd.nilCheck rfl) ?_; refine XPA.pu rfl rfl Gd.free (Rd.fA rfl) ?_
          refine XPA.wrZ0 rfl rfl Gd.free (by kernel_rfl) (WrA.st (tyrow rfl) rfl) ?_
          rintro _ _ _ ⟨rfl, rfl, rfl⟩
          refine XPA.nil ?_; refine DA.inb_normal (zT ?_)
          have hnew : Rows_ 2 rVa σ2 (rows ++ [[.string nm, i64 0]]) (acc ++ [⟨nm, 0⟩]) := hrows.snoc rfl ⟨rfl, (show i64ok 0 from ⟨by decide, by decide⟩), hnsz⟩
          refine ⟨(Keep.updN (Keep.upd (Keep.upd (Keep.updO (Keep.updO (Keep.upd (Keep.upd (Keep.upd (Keep.upd (Keep.upd (Keep.upd (Keep.upd (Keep.upd (Keep.upd (Keep.upd (Keep.upd (Keep.upd (Keep.upd (Keep.updO (Keep.upd (Keep.updN (Keep.updO (Keep.upd (Keep.updO (Keep.upd (Keep.updN (Keep.upd (Keep.upd (Keep.upd (Keep.upd (Keep.upd (Keep.upd (Keep.upd (Keep.updO (Keep.upd (Keep.upd (Keep.hav (Keep.hav (Keep.refl _ _) rfl) rfl) rfl) rfl) rfl) rfl) rfl) rfl) rfl) rfl) rfl) rfl)) rfl) rfl) rfl) rfl)) rfl) rfl) rfl) rfl) rfl) rfl) rfl) rfl) rfl) rfl) rfl) rfl) rfl) rfl) rfl) rfl) rfl) rfl) rfl)), ((i + 1, (p55, c55)), goS (numP s.size) (goS (nameP s.size) (.ok r))), _, zM, ?_, ⟨hsub2, by show i + 1 + RS.len (goS (numP s.size) (goS (nameP s.size) (.ok r))) ≤ L.length + 1; omega, acc ++ [⟨nm, 0⟩], rows ++ [[.string nm, i64 0]], k2, c2, a2, hLet2, (by rw [List.length_append, hacc]; rfl), hnew, hkk2, rfl⟩, hdec⟩
          · rw [flatS]; exact zE
      · 
        have hcut : cutN n = 0 := by rw [cutN, if_pos (.inl (by omega))]
        rw [hcut] at hLet2
        refine zO rfl Rd.asg ?_; refine zN (zT (zS (zR (zA rfl ?_)))); refine zO rfl (Rd.geq rfl rfl) ?_; refine zA rfl ?_
        first | (refine zG ?_; refine zA rfl ?_) | refine zH ?_
        first | (refine zG ?_; refine zO rfl (Rd.leq rfl rfl) ?_) | refine zH ?_
        refine zO rfl zP ?_; refine zN (zT (XA.condF rfl (by first | rfl | exact decide_eq_false h1) ?_)); refine XA.skip (zT ?_)
        refine XA.draw (by kernel_rfl) _ _ [7, 10] [(0, .pu), (1, .pu), (2, .pu), (3, .pu), (4, .rd), (5, .rd), (6, .wr), (7, .wr), (8, .pu), (9, .pu), (10, .wr)] (by kernel_rfl) (PH.sub.refl _) (Ent.sel (R := blk g25 _ _) zL (Ent.sel (R := blk g7 _ _) zL (Ent.nil _))) ?_
        refine XPA.pu rfl rfl Gd.free Rd.mv ?_; refine XPA.pu rfl rfl Gd.free Rd.mv ?_; refine XPA.pu rfl rfl Gd.free (Rd.nilCheck rfl) ?_; refine XPA.pu rfl rfl Gd.free (Rd.fA rfl) ?_; refine XPA.rd rfl rfl Gd.free (Rd.ldC rfl (tyrow rfl) rfl) ?_; refine XPA.rd rfl rfl Gd.free (Rd.ldA rfl) ?_
        refine XPA.wr0 rfl rfl Gd.free (WrA.bs1 (tyrow rfl) rfl (tyrow rfl)) ?_
        rintro _ _ _ ⟨g54, rfl, rfl, rfl⟩
        refine stays ?_
        refine XPA.wrZ0 rfl rfl Gd.free (by kernel_rfl) (WrA.ap1 (tyrow rfl) rfl (tyrow rfl) rfl rfl rfl) ?_
        rintro _ _ _ ⟨p55, c55, rfl, rfl, rfl⟩
        refine XPA.pu rfl rfl Gd.free (Rd.nilCheck rfl) ?_; refine XPA.pu rfl rfl Gd.free (Rd.fA rfl) ?_
        refine XPA.wrZ0 rfl rfl Gd.free (by kernel_rfl) (WrA.st (tyrow rfl) rfl) ?_
        rintro _ _ _ ⟨rfl, rfl, rfl⟩
        refine XPA.nil ?_; refine DA.inb_normal (zT ?_)
        have hnew : Rows_ 2 rVa σ2 (rows ++ [[.string nm, i64 0]]) (acc ++ [⟨nm, 0⟩]) := hrows.snoc rfl ⟨rfl, (show i64ok 0 from ⟨by decide, by decide⟩), hnsz⟩
        refine ⟨(Keep.updN (Keep.upd (Keep.upd (Keep.updO (Keep.updO (Keep.upd (Keep.upd (Keep.upd (Keep.upd (Keep.upd (Keep.upd (Keep.upd (Keep.upd (Keep.upd (Keep.upd (Keep.upd (Keep.upd (Keep.upd (Keep.updO (Keep.upd (Keep.updN (Keep.updO (Keep.upd (Keep.updO (Keep.upd (Keep.updN (Keep.upd (Keep.upd (Keep.upd (Keep.upd (Keep.upd (Keep.upd (Keep.upd (Keep.updO (Keep.upd (Keep.upd (Keep.hav (Keep.hav (Keep.refl _ _) rfl) rfl) rfl) rfl) rfl) rfl) rfl) rfl) rfl) rfl) rfl) rfl)) rfl) rfl) rfl) rfl)) rfl) rfl) rfl) rfl) rfl) rfl) rfl) rfl) rfl) rfl) rfl) rfl) rfl) rfl) rfl) rfl) rfl) rfl) rfl)), ((i + 1, (p55, c55)), goS (numP s.size) (goS (nameP s.size) (.ok r))), _, zM, ?_, ⟨hsub2, by show i + 1 + RS.len (goS (numP s.size) (goS (nameP s.size) (.ok r))) ≤ L.length + 1; omega, acc ++ [⟨nm, 0⟩], rows ++ [[.string nm, i64 0]], k2, c2, a2, hLet2, (by rw [List.length_append, hacc]; rfl), hnew, hkk2, rfl⟩, hdec⟩
        · rw [flatS]; exact zE
    | false =>
      rw [hq] at his
      have hend0 : ∀ lc, sc = .ok lc → isT kwLet lc = false := fun lc h => by subst h; exact hq
      refine zS (zS (zR (zA rfl ?_)))
      refine XOA.wr0 rfl (WrA.cE (his) rfl) ?_
      rintro _ _ _ ⟨_, ⟨⟨rfl, rfl⟩, rfl⟩, rfl⟩
      refine XOA.cl ?_
      first | refine XA.opn (R := Rg _ _ _ _ _ _) zL (Rg.any) ?_ | refine XOA.opn (R := Rg _ _ _ _ _ _) zL (Rg.any) ?_ | refine DA.opn (R := Rg _ _ _ _ _ _) zL (Rg.any) ?_
      rintro ⟨k1, c1, a1⟩ hkk1
      first | refine XA.cl ?_ | refine XOA.cl ?_ | refine DA.cl ?_
      simp only at hkk1
      refine zN (zT (XA.condF rfl rfl (XA.exit (DA.thn_exit (DA.thn_exit (DA.inb_same (zT (zS (zR ?_)))))))))
      refine XOA.frz (R := lst 58 2 _ _ _) zL lst_frz lst_frz_mono ?_
      rintro σ3 ⟨⟩ hf3 hs3
      subst hacc
      have hv3 : PSl 2 rVa σ3 (.slice pl acc.length cl) acc := (hrows.mono (σ' := σ3) (fun _ _ h => h)).psl rfl hf3
      have hL3 := hL2.mono hs3 (fun _ _ h => h)
      have hst := stmt_all L p c0 s.size acc pl cl g25 13
      refine XOA.wr0 rfl (WrA.alloc (tyrow rfl)) ?_
      rintro _ _ _ ⟨g9, rfl, rfl, rfl⟩
      refine zN (zT (zS (zR (zA rfl ?_)))); refine zO rfl (Rd.nilCheck rfl) ?_; refine zV rfl rfl ?_; refine zB rfl rfl (tyrow rfl) rfl ?_; refine zV rfl rfl ?_
      refine XOA.wr0 rfl (WrA.st (tyrow rfl) rfl) ?_
      rintro _ _ _ ⟨rfl, rfl, rfl⟩
      refine zN (zT (zS (XA.block ?_)))
      refine XA.ent (Ent.selImp (R := rblk g25 _ _ _ _ _ _) (S := Rg L (.slice p L.length c0) s.size (.slice pl acc.length cl) g25 sc) zL (fun m hm => ⟨k1, c1, a1, hm, hkk1⟩) (Ent.refl _)) ?_
      refine XA.ent (Ent.selNil (e := 38) (size := 12) (Ent.refl _)) ?_
      refine XA.gen [(2, _), (3, _), (4, _), (6, _), (9, _)] ⟨(by with_reducible (conv => lhs; whnf)), (by with_reducible (conv => lhs; whnf)), (by with_reducible (conv => lhs; whnf)), (by with_reducible (conv => lhs; whnf)), (by with_reducible (conv => lhs; whnf)), trivial⟩ (fun δ => ?_)
      dsimp only [List.foldl]
      refine XA.loop [(6, 6), (63, 80)] (fun x : (Nat × (Option Addr × Nat)) × RS => [(6, ptr g25)]) (fun x σ' Γ' => σ3.sub σ' ∧ x.1.1 + x.2.len ≤ sc.len ∧ ∃ (acd : List St) (rows2 : List (List Value)), BodS (stmtP acc s.size 13) sc x.2 acd ∧ acd.length = x.1.1 ∧ Rows_ 12 StAt σ' rows2 acd ∧ Γ' = [lst 38 12 (.slice x.1.2.1 x.1.1 x.1.2.2) x.1.1 rows2.flatten, blk g9 [.slice pl acc.length cl, .slice x.1.2.1 x.1.1 x.1.2.2] 26, Rg L (.slice p L.length c0) s.size (.slice pl acc.length cl) g25 x.2, blk g2 [.slice none 0 0, .slice none 0 0] 26, blk g3 [i64 0, i64 0] 28]) (fun x => x.2.len) ((0, (none, 0)), sc) (by exact ⟨rfl, trivial⟩) (Δ0 := _) ?_ (⟨.refl _, by simp, [], [], bodS0, rfl, Rows_.nil _ _ _, rfl⟩) ?_
      · exact zE
      rintro ⟨⟨j, pb, cb⟩, sd⟩ δ2 σ4 _ ⟨hsub4, hbnd2, acd, rows2, hBod, hacd, hrows2, rfl⟩
      dsimp only [ovr, List.foldl]
      have hL4 := hL3.mono hsub4 (fun _ _ h => h)
      have hv4 := hv3.mono hsub4 (fun _ _ h => h)
      simp only at hbnd2 hBod hacd
      have hpe := prog_end hLet hend0 hBod
      cases sd with
      | error y =>
        have hp : parseP s = .error y := by rw [parseP, hR]; simp only; rw [hpe.1 y rfl]
        refine zS (zS (zR (zA rfl ?_)))
        refine XOA.wr0 rfl (WrA.cE (ok_r σ4 L s.size _ g25 (.error y) _) rfl) ?_
        rintro _ _ _ ⟨_, ⟨⟨rfl, rfl⟩, rfl⟩, rfl⟩
        refine XOA.cl ?_
        first | refine XA.opn (R := Rg _ _ _ _ _ _) zL (Rg.erO) ?_ | refine XOA.opn (R := Rg _ _ _ _ _ _) zL (Rg.erO) ?_ | refine DA.opn (R := Rg _ _ _ _ _ _) zL (Rg.erO) ?_
        rintro k3 ⟨hk3, hy⟩
        first | refine XA.cl ?_ | refine XOA.cl ?_ | refine DA.cl ?_
        refine zA rfl ?_
        first | (refine zG ?_; refine zA rfl ?_) | refine zH ?_
        first | (refine zG ?_; refine zO rfl (Rd.nilCheck rfl) ?_) | refine zH ?_
        first | (refine zG ?_; refine zV rfl rfl ?_) | refine zH ?_
        first | (refine zG ?_; refine zB rfl rfl (tyrow rfl) rfl ?_) | refine zH ?_
        first | (refine zG ?_; refine zA rfl ?_) | refine zH ?_
        first | (refine zG ?_; refine zO rfl (Rd.lenSlice (tyrow rfl) rfl rfl) ?_) | refine zH ?_
        first | (refine zG ?_; refine zO rfl (Rd.lss rfl rfl) ?_) | refine zH ?_
        refine zO rfl zP ?_; refine zN (zT (XA.condF rfl rfl (XA.exit (DA.thn_exit (DA.thn_exit (DA.inb_same (zT (zS (zS (zR (zA rfl ?_)))))))))))
        refine XOA.wr0 rfl (WrA.cE (rok_e σ4 s.size _ g25 k3 _ y.1 y.2 hy) rfl) ?_
        rintro _ _ _ ⟨_, ⟨rfl, rfl, rfl⟩, rfl⟩
        refine XOA.cl ?_; refine zO rfl zJ ?_; refine zN (zT (XA.condT rfl rfl (zS ?_)))
        refine XA.draw (by kernel_rfl) _ _ [6] [(0, .pu), (1, .pu), (2, .pu), (3, .pu), (4, .rd), (5, .wr), (6, .wr)] (by kernel_rfl) (PH.sub.refl _) (Ent.sel (R := blk g25 _ _) zL (Ent.nil _)) ?_
        refine XPA.pu rfl rfl Gd.free (Rd.bl (fun _ _ => tyrow) rfl rfl rfl) ?_
        refine XPA.pu rfl rfl Gd.free Rd.mv ?_; refine XPA.pu rfl rfl Gd.free (Rd.nilCheck rfl) ?_; refine XPA.pu rfl rfl Gd.free (Rd.fA rfl) ?_; refine XPA.rd rfl rfl Gd.free (Rd.ldA rfl) ?_
        refine XPA.wr0 rfl rfl Gd.free (WrA.st (tyrow rfl) rfl) ?_
        rintro _ _ _ ⟨rfl, rfl, rfl⟩
        refine stays ?_
        refine XPA.wrZ0 rfl rfl Gd.free (by kernel_rfl) (WrA.st (tyrow rfl) rfl) ?_
        rintro _ _ _ ⟨rfl, rfl, rfl⟩
        refine XPA.nil ?_; refine zT (XA.ret (DA.thn_ret ?_))
        exact bodyA.ret (X.ResA.cc rfl rfl rfl (Ld.atBlk (tyrow rfl) rfl zL rfl (by first | exact take0 (by first | rfl | assumption | (refine (ints_len _).trans ?_; assumption) | (simp [*]; (first | done | fail))) | assumption | exact take_app (by first | rfl | assumption | (refine (ints_len _).trans ?_; assumption) | (simp [*]; (first | done | fail))) | (conv => lhs; simp only [List.drop_succ_cons, List.drop_zero, List.take_succ_cons, List.take_zero])) (by first | rfl | assumption | (refine (ints_len _).trans ?_; assumption) | (simp [*]; (first | done | fail)))) (Ld.atBlk (tyrow rfl) rfl zL rfl (by first | exact take0 (by first | rfl | assumption | (refine (ints_len _).trans ?_; assumption) | (simp [*]; (first | done | fail))) | assumption | exact take_app (by first | rfl | assumption | (refine (ints_len _).trans ?_; assumption) | (simp [*]; (first | done | fail))) | (conv => lhs; simp only [List.drop_succ_cons, List.drop_zero, List.take_succ_cons, List.take_zero])) (by first | rfl | assumption | (refine (ints_len _).trans ?_; assumption) | (simp [*]; (first | done | fail))))) (Ent.nil _) ⟨_, by rw [hp]; rfl, by rw [hp]; exact pr_none _, hs1.trans (hsub2.trans (hs3.trans hsub4)), rfl⟩
      | ok ld =>
        cases ld with
        | nil =>
          obtain ⟨z, hz⟩ := hpe.2 rfl
          subst hacd
          refine zS (zS (zR (zA rfl ?_)))
          refine XOA.wr0 rfl (WrA.cE (ok_r σ4 L s.size _ g25 (.ok []) _) rfl) ?_
          rintro _ _ _ ⟨_, ⟨⟨rfl, rfl⟩, rfl⟩, rfl⟩
          refine XOA.cl ?_
          first | refine XA.opn (R := Rg _ _ _ _ _ _) zL (Rg.okO) ?_ | refine XOA.opn (R := Rg _ _ _ _ _ _) zL (Rg.okO) ?_ | refine DA.opn (R := Rg _ _ _ _ _ _) zL (Rg.okO) ?_
          rintro k3 ⟨hk3, hd3⟩
          first | refine XA.cl ?_ | refine XOA.cl ?_ | refine DA.cl ?_
          have hk3' := drop_nil' hk3 hd3
          refine zA rfl ?_
          first | (refine zG ?_; refine zA rfl ?_) | refine zH ?_
          first | (refine zG ?_; refine zO rfl (Rd.nilCheck rfl) ?_) | refine zH ?_
          first | (refine zG ?_; refine zV rfl rfl ?_) | refine zH ?_
          first | (refine zG ?_; refine zB rfl rfl (tyrow rfl) rfl ?_) | refine zH ?_
          first | (refine zG ?_; refine zA rfl ?_) | refine zH ?_
          first | (refine zG ?_; refine zO rfl (Rd.lenSlice (tyrow rfl) rfl rfl) ?_) | refine zH ?_
          first | (refine zG ?_; refine zO rfl (Rd.lss rfl rfl) ?_) | refine zH ?_
          refine zO rfl zP ?_; refine zN (zT (XA.condF rfl (by first | rfl | exact decide_eq_false (by omega)) ?_)); refine XA.exit (DA.thn_exit (DA.thn_exit (DA.inb_same (zT (zS (zS (zR (zA rfl ?_))))))))
          refine XOA.wr0 rfl (WrA.cE (rok_o σ4 s.size _ g25 k3 _) rfl) ?_
          rintro _ _ _ ⟨_, ⟨rfl, rfl, rfl⟩, rfl⟩
          refine XOA.cl ?_
          refine XOA.frz (R := lst 38 12 _ _ _) zL lst_frz lst_frz_mono ?_
          rintro σ5 ⟨⟩ hf5 hs5
          have hpr : PrAt σ5 [.slice pl acc.length cl, .slice pb acd.length cb] ⟨acc, acd⟩ := ⟨_, _, rfl, hv4.mono hs5 (fun _ _ h => h), (hrows2.mono (fun _ _ h => h.mono hs5)).psl rfl hf5⟩
          refine zO rfl zJ ?_; refine zN (zT (XA.condF rfl rfl (XA.skip (zT (zS (zS (zR (zO rfl (Rd.ldA rfl) ?_))))))))
          refine XOA.wr0 rfl (WrA.cE (fault_a σ5 _ ⟨acc, acd⟩ hpr) rfl) ?_
          rintro _ _ _ ⟨_, ⟨rfl, rfl, rfl⟩, rfl⟩
          refine XOA.cl ?_; refine zO rfl Rd.asg ?_; refine zN (zT (zS (zR (zA rfl ?_)))); refine zO rfl (Rd.neq rfl rfl) ?_; refine zN (zT ?_)
          by_cases hc : checkP ⟨acc, acd⟩ ≠ 0
          · 
            have hp : parseP s = .error (checkP ⟨acc, acd⟩, -1) := by rw [parseP, hR]; simp only; rw [hz]; simp only; rw [if_pos hc]
            refine XA.condT rfl (by first | rfl | exact decide_eq_true hc) ?_; refine zS (zR ?_)
            refine zO rfl (Rd.bl (fun _ _ => tyrow) rfl rfl rfl) ?_
            refine zA rfl ?_
            refine XOA.wr0 rfl (WrA.cE (rF_t σ5 _ _) rfl) ?_
            rintro _ _ _ ⟨_, ⟨rfl, rfl, rfl⟩, rfl⟩
            refine XOA.cl ?_
            refine XOA.wr0 rfl (WrA.st (tyrow rfl) rfl) ?_
            rintro _ _ _ ⟨rfl, rfl, rfl⟩
            refine XOA.wr0 rfl (WrA.st (tyrow rfl) rfl) ?_
            rintro _ _ _ ⟨rfl, rfl, rfl⟩
            refine zN (zT (XA.ret (DA.thn_ret ?_)))
            exact bodyA.ret (X.ResA.cc rfl rfl rfl (Ld.atBlk (tyrow rfl) rfl zL rfl (by first | exact take0 (by first | rfl | assumption | (refine (ints_len _).trans ?_; assumption) | (simp [*]; (first | done | fail))) | assumption | exact take_app (by first | rfl | assumption | (refine (ints_len _).trans ?_; assumption) | (simp [*]; (first | done | fail))) | (conv => lhs; simp only [List.drop_succ_cons, List.drop_zero, List.take_succ_cons, List.take_zero])) (by first | rfl | assumption | (refine (ints_len _).trans ?_; assumption) | (simp [*]; (first | done | fail)))) (Ld.atBlk (tyrow rfl) rfl zL rfl (by first | exact take0 (by first | rfl | assumption | (refine (ints_len _).trans ?_; assumption) | (simp [*]; (first | done | fail))) | assumption | exact take_app (by first | rfl | assumption | (refine (ints_len _).trans ?_; assumption) | (simp [*]; (first | done | fail))) | (conv => lhs; simp only [List.drop_succ_cons, List.drop_zero, List.take_succ_cons, List.take_zero])) (by first | rfl | assumption | (refine (ints_len _).trans ?_; assumption) | (simp [*]; (first | done | fail))))) (Ent.nil _) ⟨_, by rw [hp]; rfl, by rw [hp]; exact pr_none _, hs1.trans (hsub2.trans (hs3.trans (hsub4.trans hs5))), rfl⟩
          · 
            have hp : parseP s = .ok ⟨acc, acd⟩ := by rw [parseP, hR]; simp only; rw [hz]; simp only; rw [if_neg hc]
            refine XA.condF rfl (by first | rfl | exact decide_eq_false hc) ?_; refine XA.skip (zT (zS (zR (zO rfl (Rd.ldA rfl) ?_))))
            refine zO rfl (Rd.bl (fun _ _ => tyrow) rfl rfl rfl) ?_
            refine XOA.wr0 rfl (WrA.st (tyrow rfl) rfl) ?_
            rintro _ _ _ ⟨rfl, rfl, rfl⟩
            refine XOA.wr0 rfl (WrA.st (tyrow rfl) rfl) ?_
            rintro _ _ _ ⟨rfl, rfl, rfl⟩
            refine zN (zT (XA.ret ?_))
            exact bodyA.ret (X.ResA.cc rfl rfl rfl (Ld.atBlk (tyrow rfl) rfl zL rfl (by first | exact take0 (by first | rfl | assumption | (refine (ints_len _).trans ?_; assumption) | (simp [*]; (first | done | fail))) | assumption | exact take_app (by first | rfl | assumption | (refine (ints_len _).trans ?_; assumption) | (simp [*]; (first | done | fail))) | (conv => lhs; simp only [List.drop_succ_cons, List.drop_zero, List.take_succ_cons, List.take_zero])) (by first | rfl | assumption | (refine (ints_len _).trans ?_; assumption) | (simp [*]; (first | done | fail)))) (Ld.atBlk (tyrow rfl) rfl zL rfl (by first | exact take0 (by first | rfl | assumption | (refine (ints_len _).trans ?_; assumption) | (simp [*]; (first | done | fail))) | assumption | exact take_app (by first | rfl | assumption | (refine (ints_len _).trans ?_; assumption) | (simp [*]; (first | done | fail))) | (conv => lhs; simp only [List.drop_succ_cons, List.drop_zero, List.take_succ_cons, List.take_zero])) (by first | rfl | assumption | (refine (ints_len _).trans ?_; assumption) | (simp [*]; (first | done | fail))))) (Ent.nil _) ⟨_, by rw [hp]; rfl, by rw [hp]; exact hpr, hs1.trans (hsub2.trans (hs3.trans (hsub4.trans hs5))), rfl⟩
        | cons t r =>
          have hdec : RS.len (goS (stmtP acc s.size 13) (.ok (t :: r))) < RS.len (.ok (t :: r)) := by
            cases hE : stmtP acc s.size 13 (t :: r) with
            | ok z => obtain ⟨x, l'⟩ := z; rw [goS_ok hE]; have := (stmtP_sub 13 _ x l' hE).2; show l'.length + 1 < (t :: r).length + 1; omega
            | error y => rw [goS_bad hE]; show 0 < (t :: r).length + 1; omega
          have hin : RS.len (.ok (t :: r)) = r.length + 1 + 1 := rfl
          refine zS (zS (zR (zA rfl ?_)))
          refine XOA.wr0 rfl (WrA.cE (ok_r σ4 L s.size _ g25 (.ok (t :: r)) _) rfl) ?_
          rintro _ _ _ ⟨_, ⟨⟨rfl, rfl⟩, rfl⟩, rfl⟩
          refine XOA.cl ?_
          first | refine XA.opn (R := Rg _ _ _ _ _ _) zL (Rg.okO) ?_ | refine XOA.opn (R := Rg _ _ _ _ _ _) zL (Rg.okO) ?_ | refine DA.opn (R := Rg _ _ _ _ _ _) zL (Rg.okO) ?_
          rintro k3 ⟨hk3, hd3⟩
          first | refine XA.cl ?_ | refine XOA.cl ?_ | refine DA.cl ?_
          obtain ⟨-, hk3', -⟩ := drop_cons hd3
          refine zA rfl ?_
          first | (refine zG ?_; refine zA rfl ?_) | refine zH ?_
          first | (refine zG ?_; refine zO rfl (Rd.nilCheck rfl) ?_) | refine zH ?_
          first | (refine zG ?_; refine zV rfl rfl ?_) | refine zH ?_
          first | (refine zG ?_; refine zB rfl rfl (tyrow rfl) rfl ?_) | refine zH ?_
          first | (refine zG ?_; refine zA rfl ?_) | refine zH ?_
          first | (refine zG ?_; refine zO rfl (Rd.lenSlice (tyrow rfl) rfl rfl) ?_) | refine zH ?_
          first | (refine zG ?_; refine zO rfl (Rd.lss rfl rfl) ?_) | refine zH ?_
          refine zO rfl zP ?_; refine zN (zT (XA.condT rfl (by first | rfl | exact decide_eq_true (by omega)) ?_)); refine XA.skip (zT (XA.block ?_))
          refine XA.draw (by kernel_rfl) _ _ [5, 7] [(0, .pu), (1, .rd), (2, .pu), (3, .wr), (4, .wr), (5, .wr), (6, .pu), (7, .wr)] (by kernel_rfl) (PH.sub.refl _) (Ent.sel (R := blk g9 _ _) zL (Ent.nil _)) ?_
          refine XPA.pu rfl rfl Gd.free (Rd.fA rfl) ?_; refine XPA.rd rfl rfl Gd.free (Rd.ldC rfl (tyrow rfl) rfl) ?_; refine XPA.pu rfl rfl Gd.free Rd.mv ?_
          refine XPA.wr0 rfl rfl Gd.free (WrA.cE (CallsA.pre (Rg.mk (b := g25) (sl := .slice p L.length c0) (e := s.size) (vs := .slice pl acc.length cl) (k := k3) (c := 0) (a := 0) (s := .ok (t :: r)) ⟨hk3, rfl, rfl, hd3⟩) (hst σ4 (.ok (t :: r)) 0 hL4 (by omega) hF hv4 (by decide) (by decide))) rfl) ?_
          rintro _ σ5 _ ⟨_, ⟨cs5, x, rfl, hcs5, hval, hs5, rfl⟩, rfl⟩
          refine stays (XPA.cl ?_)
          have hl5 := hcs5.len
          have hone5 := hcs5.ones
          have hBod2 := bod_step (fun l x l' h => (stmtP_sub 13 l x l' h).2) hBod (by simp) hval
          refine XPA.wr0 rfl rfl Gd.free (WrA.bs1 (tyrow rfl) rfl (tyrow rfl)) ?_
          rintro _ _ _ ⟨g78, rfl, rfl, rfl⟩
          refine stays ?_
          refine XPA.wrZ0 rfl rfl Gd.free (by kernel_rfl) (WrA.ap1 (tyrow rfl) rfl (tyrow rfl) rfl rfl rfl) ?_
          rintro _ _ _ ⟨p79, c79, rfl, rfl, rfl⟩
          refine XPA.pu rfl rfl Gd.free (Rd.fA rfl) ?_
          refine XPA.wrZ0 rfl rfl Gd.free (by kernel_rfl) (WrA.st (tyrow rfl) rfl) ?_
          rintro _ _ _ ⟨rfl, rfl, rfl⟩
          refine XPA.nil ?_; refine DA.inb_normal (zT ?_)
          have hnew : Rows_ 12 StAt σ5 (rows2 ++ [cs5]) (acd ++ [x]) := (hrows2.mono (fun _ _ h => h.mono hs5)).snoc hl5 hcs5
          refine ⟨(Keep.updN (Keep.upd (Keep.updO (Keep.updO (Keep.updO (Keep.upd (Keep.upd (Keep.upd (Keep.upd (Keep.upd (Keep.upd (Keep.upd (Keep.upd (Keep.upd (Keep.upd (Keep.upd (Keep.upd (Keep.updO (Keep.upd (Keep.upd (Keep.hav (Keep.hav (Keep.refl _ _) rfl) rfl) rfl) rfl) rfl) rfl) rfl) rfl) rfl) rfl) rfl) rfl) rfl) rfl) rfl) rfl) rfl) rfl) rfl) rfl) rfl)), ((j + 1, (p79, c79)), goS (stmtP acc s.size 13) (.ok (t :: r))), _, zM, ?_, ⟨hsub4.trans hs5, by show j + 1 + RS.len (goS (stmtP acc s.size 13) (.ok (t :: r))) ≤ sc.len; omega, acd ++ [x], rows2 ++ [cs5], hBod2, (by rw [List.length_append, hacd]; rfl), hnew, rfl⟩, hdec⟩
          · rw [flatS]; exact zE
end Go.Proofs.YthefnnkmpcgcmaaGreatDoor

namespace Go.Proofs.YthefnnkmpcgcmaaGreatDoor
open Go X
set_option maxHeartbeats 2000000
end Go.Proofs.YthefnnkmpcgcmaaGreatDoor

namespace Go.Proofs.YthefnnkmpcgcmaaGreatDoor
open Go X
end Go.Proofs.YthefnnkmpcgcmaaGreatDoor

namespace Go.Proofs.YthefnnkmpcgcmaaGreatDoor
open Go X
set_option maxHeartbeats 1000000
end Go.Proofs.YthefnnkmpcgcmaaGreatDoor

namespace Go.Proofs.YthefnnkmpcgcmaaGreatDoor
open Go X
set_option maxHeartbeats 2000000
def RSameListOK (σ : PH) (l : List St) : Prop := ∀ (sl sm : Value) (m : List St), PSl 12 StAt σ sl l → PSl 12 StAt σ sm m →
  CallsA Tryz.prog 24 #[sl, sm] σ [] (RetA fun v σ' Γ' => ∃ b : Bool, v = .bool b ∧ (b = true ↔ l = m) ∧ σ = σ' ∧ Γ' = [])
theorem rsameList_l (σ : PH) (l : List St) (ih : ∀ x ∈ l, RSameListOK σ x.body ∧ RSameListOK σ x.els) : RSameListOK σ l := by
  intro sl sm m hl hm
  obtain ⟨pl, cl, rfl, hle, hmx⟩ := hl.shape
  obtain ⟨pm, cm, rfl, hle2, hmx2⟩ := hm.shape
  have hlen : l.length ≤ maxLen := by omega
  simp only [maxLen] at hlen
  refine enterA2 Tryz.func24 rfl rfl rfl ?_
  refine zS (zR (zO rfl Rd.asg ?_)); refine zN (zT (zS (zS (zR (zA rfl ?_))))); refine zO rfl (Rd.lenSlice (tyrow rfl) rfl rfl) ?_; refine zA rfl ?_; refine zO rfl (Rd.lenSlice (tyrow rfl) rfl rfl) ?_; refine zO rfl (Rd.neq rfl rfl) ?_; refine zN (zT ?_)
  refine XA.condp rfl (fun hne => ?_) (fun hne => ?_)
  · refine zS ?_
    refine zR (zO rfl Rd.asg ?_); refine zN (zT (XA.ret (DA.thn_ret ?_)))
    exact bodyA.ret (ResA.one rfl rfl) zE ⟨false, rfl, ⟨fun h => (by cases h), fun h => absurd (by rw [h]) hne⟩, rfl, rfl⟩
  have hlm : l.length = m.length := by omega
  refine XA.skip (zT (zS (zS (zR (zO rfl Rd.asg ?_))))); refine zN (zT (XA.block ?_))
  refine XA.gen [(0, _), (1, _), (4, _), (5, _)] ⟨(by with_reducible (conv => lhs; whnf)), (by with_reducible (conv => lhs; whnf)), (by with_reducible (conv => lhs; whnf)), (by with_reducible (conv => lhs; whnf)), trivial⟩ (fun δ => ?_)
  dsimp only [List.foldl]
  refine XA.loop [(4, 5), (11, 96)] (fun k : Nat => [(5, i64 k)]) (fun k σ' Γ' => σ = σ' ∧ k ≤ l.length ∧ l.take k = m.take k ∧ Γ' = []) (fun k => l.length - k) 0 (by exact ⟨rfl, trivial⟩) (Δ0 := _) ?_ (⟨rfl, Nat.zero_le _, rfl, rfl⟩) ?_
  · exact zE
  rintro k δ _ _ ⟨rfl, hk, htk, rfl⟩
  dsimp only [ovr, List.foldl]
  refine zS (zS (zR (zA rfl ?_))); refine zA rfl ?_; refine zO rfl (Rd.lenSlice (tyrow rfl) rfl rfl) ?_; refine zO rfl (Rd.lss rfl rfl) ?_; refine zN (zT ?_)
  refine XA.condp rfl (fun hlt => ?_) (fun hlt => ?_)
  · have hlt : k < l.length := by omega
    obtain ⟨x, hx⟩ : ∃ x, l[k]? = some x := ⟨_, List.getElem?_eq_getElem hlt⟩
    obtain ⟨y, hy⟩ : ∃ y, m[k]? = some y := ⟨_, List.getElem?_eq_getElem (by omega)⟩
    obtain ⟨ihb, ihe⟩ := ih x (List.mem_of_getElem? hx)
    obtain ⟨g, o, row, rfl, hrx, hrl, hrow⟩ := hl.at hx
    obtain ⟨g', o', row', rfl, hry, hrl', hrow'⟩ := hm.at hy
    have hout : x ≠ y → ¬ l = m := fun h1 h2 => by
      subst h2
      rw [hx] at hy; simp only [Option.some.injEq] at hy
      exact h1 hy
    obtain ⟨op, v, ex, fx, body, els⟩ := x
    obtain ⟨op', v', ex', fx', body', els'⟩ := y
    obtain ⟨pe, de, pf, df, pb, cb, pl', cl', rfl, -, -, hxe, hxf, hxb, hxl⟩ := hrx.inv12
    obtain ⟨pe2, de2, pf2, df2, pb2, cb2, pl2, cl2, rfl, -, -, hye, hyf, hyb, hyl⟩ := hry.inv12
    simp only [St.op, St.v, St.e, St.f, St.body, St.els] at hxe hxf hxb hxl hrow hye hyf hyb hyl hrow' ihb ihe
    clear hrx hry hrl hrl'
    have r0 : PRow σ g (o + k * 12) [i64 op] := hrow.sub (j := 0) rfl
    have r1 : PRow σ g (o + k * 12 + 1) [i64 v] := hrow.sub (j := 1) rfl
    have r2 : PRow σ g (o + k * 12 + 2) [i64 ex.op, i64 ex.v, i64 ex.n, .slice pe ex.l.length de] := hrow.sub (j := 2) rfl
    have r6 : PRow σ g (o + k * 12 + 6) [i64 fx.op, i64 fx.v, i64 fx.n, .slice pf fx.l.length df] := hrow.sub (j := 6) rfl
    have r10 : PRow σ g (o + k * 12 + 10) [.slice pb body.length cb] := hrow.sub (j := 10) rfl
    have r11 : PRow σ g (o + k * 12 + 11) [.slice pl' els.length cl'] := hrow.sub (j := 11) rfl
    have s0 : PRow σ g' (o' + k * 12) [i64 op'] := hrow'.sub (j := 0) rfl
    have s1 : PRow σ g' (o' + k * 12 + 1) [i64 v'] := hrow'.sub (j := 1) rfl
    have s2 : PRow σ g' (o' + k * 12 + 2) [i64 ex'.op, i64 ex'.v, i64 ex'.n, .slice pe2 ex'.l.length de2] := hrow'.sub (j := 2) rfl
    have s6 : PRow σ g' (o' + k * 12 + 6) [i64 fx'.op, i64 fx'.v, i64 fx'.n, .slice pf2 fx'.l.length df2] := hrow'.sub (j := 6) rfl
    have s10 : PRow σ g' (o' + k * 12 + 10) [.slice pb2 body'.length cb2] := hrow'.sub (j := 10) rfl
    have s11 : PRow σ g' (o' + k * 12 + 11) [.slice pl2 els'.length cl2] := hrow'.sub (j := 11) rfl
    clear hrow hrow'
    refine XA.skip (zT (zS (XA.block (zS ?_))))
    by_cases h1 : op = op'
    · by_cases h2 : v = v'
      · 
        refine XA.draw (by kernel_rfl) _ _ [] [(0, .pu), (1, .pu), (2, .pu), (3, .pu), (4, .rd), (5, .pu), (6, .pu), (7, .pu), (8, .pu), (9, .rd), (10, .pu), (11, .pu), (12, .pu), (13, .pu), (14, .pu), (15, .pu), (16, .rd), (17, .pu), (18, .pu), (19, .pu), (20, .pu), (21, .rd), (22, .pu), (23, .pu), (24, .pu), (25, .pu), (26, .pu), (27, .pu), (28, .pu), (29, .rd), (30, .pu), (31, .pu), (32, .pu), (33, .pu), (34, .rd), (35, .wr), (36, .pu), (37, .pu), (38, .pu), (39, .pu), (40, .pu), (41, .pu), (42, .pu), (43, .rd), (44, .pu), (45, .pu), (46, .pu), (47, .pu), (48, .rd), (49, .wr), (50, .pu), (51, .pu), (52, .pu), (53, .pu), (54, .pu), (55, .pu), (56, .pu), (57, .rd), (58, .pu), (59, .pu), (60, .pu), (61, .pu), (62, .rd), (63, .wr), (64, .pu), (65, .pu), (66, .pu), (67, .pu), (68, .pu), (69, .pu), (70, .pu), (71, .rd), (72, .pu), (73, .pu), (74, .pu), (75, .pu), (76, .rd), (77, .wr), (78, .pu), (79, .pu)] (by kernel_rfl) (PH.sub.refl _) (Ent.nil _) ?_
        refine XPA.pu rfl rfl Gd.free Rd.mv ?_; refine XPA.pu rfl rfl Gd.free Rd.mv ?_; refine XPA.pu rfl rfl Gd.free (Rd.ixS rfl rfl) ?_; refine XPA.pu rfl rfl Gd.free (Rd.fA rfl) ?_; refine XPA.rd rfl rfl Gd.free (Rd.ldC rfl (tyrow rfl) rfl) ?_; refine XPA.pu rfl rfl Gd.free Rd.mv ?_
        refine XPA.pu rfl rfl Gd.free Rd.mv ?_; refine XPA.pu rfl rfl Gd.free (Rd.ixS rfl rfl) ?_; refine XPA.pu rfl rfl Gd.free (Rd.fA rfl) ?_; refine XPA.rd rfl rfl Gd.free (Rd.ldC rfl (tyrow rfl) rfl) ?_; refine XPA.pu rfl rfl Gd.free (Rd.neq rfl rfl) ?_; refine XPA.pu rfl rfl Gd.free Rd.mv ?_
        first | refine XPA.puG rfl rfl Rd.mv ?_ | refine XPA.puOffG rfl rfl ?_
        first | refine XPA.puG rfl rfl Rd.mv ?_ | refine XPA.puOffG rfl rfl ?_
        first | refine XPA.puG rfl rfl (Rd.ixS rfl rfl) ?_ | refine XPA.puOffG rfl rfl ?_
        first | refine XPA.puG rfl rfl (Rd.fA rfl) ?_ | refine XPA.puOffG rfl rfl ?_
        first | refine XPA.rdG rfl rfl (Rd.ldC rfl (tyrow rfl) rfl) ?_ | refine XPA.offG rfl rfl ?_
        first | refine XPA.puG rfl rfl Rd.mv ?_ | refine XPA.puOffG rfl rfl ?_
        first | refine XPA.puG rfl rfl Rd.mv ?_ | refine XPA.puOffG rfl rfl ?_
        first | refine XPA.puG rfl rfl (Rd.ixS rfl rfl) ?_ | refine XPA.puOffG rfl rfl ?_
        first | refine XPA.puG rfl rfl (Rd.fA rfl) ?_ | refine XPA.puOffG rfl rfl ?_
        first | refine XPA.rdG rfl rfl (Rd.ldC rfl (tyrow rfl) rfl) ?_ | refine XPA.offG rfl rfl ?_
        first | refine XPA.puG rfl rfl (Rd.neq rfl rfl) ?_ | refine XPA.puOffG rfl rfl ?_
        refine XPA.pu rfl rfl Gd.free zP ?_; refine XPA.pu rfl rfl Gd.free Rd.mv ?_
        first | refine XPA.puG rfl rfl Rd.mv ?_ | refine XPA.puOffG rfl rfl ?_
        first | refine XPA.puG rfl rfl Rd.mv ?_ | refine XPA.puOffG rfl rfl ?_
        first | refine XPA.puG rfl rfl (Rd.ixS rfl rfl) ?_ | refine XPA.puOffG rfl rfl ?_
        first | refine XPA.puG rfl rfl (Rd.fA rfl) ?_ | refine XPA.puOffG rfl rfl ?_
        first | refine XPA.rdG rfl rfl (Rd.ldA rfl) ?_ | refine XPA.offG rfl rfl ?_
        first | refine XPA.puG rfl rfl Rd.mv ?_ | refine XPA.puOffG rfl rfl ?_
        first | refine XPA.puG rfl rfl Rd.mv ?_ | refine XPA.puOffG rfl rfl ?_
        first | refine XPA.puG rfl rfl (Rd.ixS rfl rfl) ?_ | refine XPA.puOffG rfl rfl ?_
        first | refine XPA.puG rfl rfl (Rd.fA rfl) ?_ | refine XPA.puOffG rfl rfl ?_
        first | refine XPA.rdG rfl rfl (Rd.ldA rfl) ?_ | refine XPA.offG rfl rfl ?_
        refine XPA.wr0 rfl rfl (by first | exact Gd.free | exact Gd.isB rfl rfl rfl | (apply Gd.isQ; rfl; rfl; exact (by first | exact (rfl : decide _ = true) | exact (rfl : decide _ = false) | (refine decide_eq_true ?_; assumption) | (refine decide_eq_false ?_; assumption) | (refine decide_eq_true ?_; omega) | (refine decide_eq_false ?_; omega)); rfl)) (WrA.cE (rsameExpr_a σ ex _ _ ex' hxe hye) rfl) ?_
        rintro _ _ _ ⟨_, ⟨b1, rfl, hb1, rfl, rfl⟩, rfl⟩
        refine stays (XPA.cl ?_)
        cases b1 with
        | false =>
          have hn := hout (fun h => absurd (hb1.2 (by injection h)) (by decide))
          first | refine XPA.puG rfl rfl zJ ?_ | refine XPA.puOffG rfl rfl ?_
          refine XPA.pu rfl rfl Gd.free zP ?_; refine XPA.pu rfl rfl Gd.free Rd.mv ?_
          first | refine XPA.puG rfl rfl Rd.mv ?_ | refine XPA.puOffG rfl rfl ?_
          first | refine XPA.puG rfl rfl Rd.mv ?_ | refine XPA.puOffG rfl rfl ?_
          first | refine XPA.puG rfl rfl (Rd.ixS rfl rfl) ?_ | refine XPA.puOffG rfl rfl ?_
          first | refine XPA.puG rfl rfl (Rd.fA rfl) ?_ | refine XPA.puOffG rfl rfl ?_
          first | refine XPA.rdG rfl rfl (Rd.ldA rfl) ?_ | refine XPA.offG rfl rfl ?_
          first | refine XPA.puG rfl rfl Rd.mv ?_ | refine XPA.puOffG rfl rfl ?_
          first | refine XPA.puG rfl rfl Rd.mv ?_ | refine XPA.puOffG rfl rfl ?_
          first | refine XPA.puG rfl rfl (Rd.ixS rfl rfl) ?_ | refine XPA.puOffG rfl rfl ?_
          first | refine XPA.puG rfl rfl (Rd.fA rfl) ?_ | refine XPA.puOffG rfl rfl ?_
          first | refine XPA.rdG rfl rfl (Rd.ldA rfl) ?_ | refine XPA.offG rfl rfl ?_
          first | refine XPA.off rfl rfl (by first | exact Gd.isB rfl rfl rfl | exact Gd.un rfl rfl | (apply Gd.isQ; rfl; rfl; exact (by first | exact (rfl : decide _ = true) | exact (rfl : decide _ = false) | (refine decide_eq_true ?_; assumption) | (refine decide_eq_false ?_; assumption) | (refine decide_eq_true ?_; omega) | (refine decide_eq_false ?_; omega)); rfl)) ?_ | refine XPA.puOff rfl rfl (by first | exact Gd.isB rfl rfl rfl | exact Gd.un rfl rfl | (apply Gd.isQ; rfl; rfl; exact (by first | exact (rfl : decide _ = true) | exact (rfl : decide _ = false) | (refine decide_eq_true ?_; assumption) | (refine decide_eq_false ?_; assumption) | (refine decide_eq_true ?_; omega) | (refine decide_eq_false ?_; omega)); rfl)) ?_ | refine XPA.offW rfl rfl (by first | exact Gd.isB rfl rfl rfl | exact Gd.un rfl rfl | (apply Gd.isQ; rfl; rfl; exact (by first | exact (rfl : decide _ = true) | exact (rfl : decide _ = false) | (refine decide_eq_true ?_; assumption) | (refine decide_eq_false ?_; assumption) | (refine decide_eq_true ?_; omega) | (refine decide_eq_false ?_; omega)); rfl)) ?_
          first | refine XPA.puG rfl rfl zJ ?_ | refine XPA.puOffG rfl rfl ?_
          refine XPA.pu rfl rfl Gd.free zP ?_; refine XPA.pu rfl rfl Gd.free Rd.mv ?_
          first | refine XPA.puG rfl rfl Rd.mv ?_ | refine XPA.puOffG rfl rfl ?_
          first | refine XPA.puG rfl rfl Rd.mv ?_ | refine XPA.puOffG rfl rfl ?_
          first | refine XPA.puG rfl rfl (Rd.ixS rfl rfl) ?_ | refine XPA.puOffG rfl rfl ?_
          first | refine XPA.puG rfl rfl (Rd.fA rfl) ?_ | refine XPA.puOffG rfl rfl ?_
          first | refine XPA.rdG rfl rfl (Rd.ldC rfl (tyrow rfl) rfl) ?_ | refine XPA.offG rfl rfl ?_
          first | refine XPA.puG rfl rfl Rd.mv ?_ | refine XPA.puOffG rfl rfl ?_
          first | refine XPA.puG rfl rfl Rd.mv ?_ | refine XPA.puOffG rfl rfl ?_
          first | refine XPA.puG rfl rfl (Rd.ixS rfl rfl) ?_ | refine XPA.puOffG rfl rfl ?_
          first | refine XPA.puG rfl rfl (Rd.fA rfl) ?_ | refine XPA.puOffG rfl rfl ?_
          first | refine XPA.rdG rfl rfl (Rd.ldC rfl (tyrow rfl) rfl) ?_ | refine XPA.offG rfl rfl ?_
          first | refine XPA.off rfl rfl (by first | exact Gd.isB rfl rfl rfl | exact Gd.un rfl rfl | (apply Gd.isQ; rfl; rfl; exact (by first | exact (rfl : decide _ = true) | exact (rfl : decide _ = false) | (refine decide_eq_true ?_; assumption) | (refine decide_eq_false ?_; assumption) | (refine decide_eq_true ?_; omega) | (refine decide_eq_false ?_; omega)); rfl)) ?_ | refine XPA.puOff rfl rfl (by first | exact Gd.isB rfl rfl rfl | exact Gd.un rfl rfl | (apply Gd.isQ; rfl; rfl; exact (by first | exact (rfl : decide _ = true) | exact (rfl : decide _ = false) | (refine decide_eq_true ?_; assumption) | (refine decide_eq_false ?_; assumption) | (refine decide_eq_true ?_; omega) | (refine decide_eq_false ?_; omega)); rfl)) ?_ | refine XPA.offW rfl rfl (by first | exact Gd.isB rfl rfl rfl | exact Gd.un rfl rfl | (apply Gd.isQ; rfl; rfl; exact (by first | exact (rfl : decide _ = true) | exact (rfl : decide _ = false) | (refine decide_eq_true ?_; assumption) | (refine decide_eq_false ?_; assumption) | (refine decide_eq_true ?_; omega) | (refine decide_eq_false ?_; omega)); rfl)) ?_
          first | refine XPA.puG rfl rfl zJ ?_ | refine XPA.puOffG rfl rfl ?_
          refine XPA.pu rfl rfl Gd.free zP ?_; refine XPA.pu rfl rfl Gd.free Rd.mv ?_
          first | refine XPA.puG rfl rfl Rd.mv ?_ | refine XPA.puOffG rfl rfl ?_
          first | refine XPA.puG rfl rfl Rd.mv ?_ | refine XPA.puOffG rfl rfl ?_
          first | refine XPA.puG rfl rfl (Rd.ixS rfl rfl) ?_ | refine XPA.puOffG rfl rfl ?_
          first | refine XPA.puG rfl rfl (Rd.fA rfl) ?_ | refine XPA.puOffG rfl rfl ?_
          first | refine XPA.rdG rfl rfl (Rd.ldC rfl (tyrow rfl) rfl) ?_ | refine XPA.offG rfl rfl ?_
          first | refine XPA.puG rfl rfl Rd.mv ?_ | refine XPA.puOffG rfl rfl ?_
          first | refine XPA.puG rfl rfl Rd.mv ?_ | refine XPA.puOffG rfl rfl ?_
          first | refine XPA.puG rfl rfl (Rd.ixS rfl rfl) ?_ | refine XPA.puOffG rfl rfl ?_
          first | refine XPA.puG rfl rfl (Rd.fA rfl) ?_ | refine XPA.puOffG rfl rfl ?_
          first | refine XPA.rdG rfl rfl (Rd.ldC rfl (tyrow rfl) rfl) ?_ | refine XPA.offG rfl rfl ?_
          first | refine XPA.off rfl rfl (by first | exact Gd.isB rfl rfl rfl | exact Gd.un rfl rfl | (apply Gd.isQ; rfl; rfl; exact (by first | exact (rfl : decide _ = true) | exact (rfl : decide _ = false) | (refine decide_eq_true ?_; assumption) | (refine decide_eq_false ?_; assumption) | (refine decide_eq_true ?_; omega) | (refine decide_eq_false ?_; omega)); rfl)) ?_ | refine XPA.puOff rfl rfl (by first | exact Gd.isB rfl rfl rfl | exact Gd.un rfl rfl | (apply Gd.isQ; rfl; rfl; exact (by first | exact (rfl : decide _ = true) | exact (rfl : decide _ = false) | (refine decide_eq_true ?_; assumption) | (refine decide_eq_false ?_; assumption) | (refine decide_eq_true ?_; omega) | (refine decide_eq_false ?_; omega)); rfl)) ?_ | refine XPA.offW rfl rfl (by first | exact Gd.isB rfl rfl rfl | exact Gd.un rfl rfl | (apply Gd.isQ; rfl; rfl; exact (by first | exact (rfl : decide _ = true) | exact (rfl : decide _ = false) | (refine decide_eq_true ?_; assumption) | (refine decide_eq_false ?_; assumption) | (refine decide_eq_true ?_; omega) | (refine decide_eq_false ?_; omega)); rfl)) ?_
          first | refine XPA.puG rfl rfl zJ ?_ | refine XPA.puOffG rfl rfl ?_
          refine XPA.pu rfl rfl Gd.free zP ?_; refine XPA.nil ?_; refine zT (XA.condT rfl rfl (zS (zR (zO rfl Rd.asg ?_)))); refine zN (zT (XA.ret (DA.inb_ret (DA.thn_ret (DA.thn_ret (DA.inb_ret (DA.thn_ret ?_)))))))
          exact bodyA.ret (ResA.one rfl rfl) (Ent.nil _) ⟨false, rfl, ⟨fun h => (by cases h), fun h => absurd h hn⟩, rfl, rfl⟩
        | true =>
          first | refine XPA.puG rfl rfl zJ ?_ | refine XPA.puOffG rfl rfl ?_
          refine XPA.pu rfl rfl Gd.free zP ?_; refine XPA.pu rfl rfl Gd.free Rd.mv ?_
          first | refine XPA.puG rfl rfl Rd.mv ?_ | refine XPA.puOffG rfl rfl ?_
          first | refine XPA.puG rfl rfl Rd.mv ?_ | refine XPA.puOffG rfl rfl ?_
          first | refine XPA.puG rfl rfl (Rd.ixS rfl rfl) ?_ | refine XPA.puOffG rfl rfl ?_
          first | refine XPA.puG rfl rfl (Rd.fA rfl) ?_ | refine XPA.puOffG rfl rfl ?_
          first | refine XPA.rdG rfl rfl (Rd.ldA rfl) ?_ | refine XPA.offG rfl rfl ?_
          first | refine XPA.puG rfl rfl Rd.mv ?_ | refine XPA.puOffG rfl rfl ?_
          first | refine XPA.puG rfl rfl Rd.mv ?_ | refine XPA.puOffG rfl rfl ?_
          first | refine XPA.puG rfl rfl (Rd.ixS rfl rfl) ?_ | refine XPA.puOffG rfl rfl ?_
          first | refine XPA.puG rfl rfl (Rd.fA rfl) ?_ | refine XPA.puOffG rfl rfl ?_
          first | refine XPA.rdG rfl rfl (Rd.ldA rfl) ?_ | refine XPA.offG rfl rfl ?_
          refine XPA.wr0 rfl rfl (by first | exact Gd.free | exact Gd.isB rfl rfl rfl | (apply Gd.isQ; rfl; rfl; exact (by first | exact (rfl : decide _ = true) | exact (rfl : decide _ = false) | (refine decide_eq_true ?_; assumption) | (refine decide_eq_false ?_; assumption) | (refine decide_eq_true ?_; omega) | (refine decide_eq_false ?_; omega)); rfl)) (WrA.cE (rsameExpr_a σ fx _ _ fx' hxf hyf) rfl) ?_
          rintro _ _ _ ⟨_, ⟨b2, rfl, hb2, rfl, rfl⟩, rfl⟩
          refine stays (XPA.cl ?_)
          cases b2 with
          | false =>
            have hn := hout (fun h => absurd (hb2.2 (by injection h)) (by decide))
            first | refine XPA.puG rfl rfl zJ ?_ | refine XPA.puOffG rfl rfl ?_
            refine XPA.pu rfl rfl Gd.free zP ?_; refine XPA.pu rfl rfl Gd.free Rd.mv ?_
            first | refine XPA.puG rfl rfl Rd.mv ?_ | refine XPA.puOffG rfl rfl ?_
            first | refine XPA.puG rfl rfl Rd.mv ?_ | refine XPA.puOffG rfl rfl ?_
            first | refine XPA.puG rfl rfl (Rd.ixS rfl rfl) ?_ | refine XPA.puOffG rfl rfl ?_
            first | refine XPA.puG rfl rfl (Rd.fA rfl) ?_ | refine XPA.puOffG rfl rfl ?_
            first | refine XPA.rdG rfl rfl (Rd.ldC rfl (tyrow rfl) rfl) ?_ | refine XPA.offG rfl rfl ?_
            first | refine XPA.puG rfl rfl Rd.mv ?_ | refine XPA.puOffG rfl rfl ?_
            first | refine XPA.puG rfl rfl Rd.mv ?_ | refine XPA.puOffG rfl rfl ?_
            first | refine XPA.puG rfl rfl (Rd.ixS rfl rfl) ?_ | refine XPA.puOffG rfl rfl ?_
            first | refine XPA.puG rfl rfl (Rd.fA rfl) ?_ | refine XPA.puOffG rfl rfl ?_
            first | refine XPA.rdG rfl rfl (Rd.ldC rfl (tyrow rfl) rfl) ?_ | refine XPA.offG rfl rfl ?_
            first | refine XPA.off rfl rfl (by first | exact Gd.isB rfl rfl rfl | exact Gd.un rfl rfl | (apply Gd.isQ; rfl; rfl; exact (by first | exact (rfl : decide _ = true) | exact (rfl : decide _ = false) | (refine decide_eq_true ?_; assumption) | (refine decide_eq_false ?_; assumption) | (refine decide_eq_true ?_; omega) | (refine decide_eq_false ?_; omega)); rfl)) ?_ | refine XPA.puOff rfl rfl (by first | exact Gd.isB rfl rfl rfl | exact Gd.un rfl rfl | (apply Gd.isQ; rfl; rfl; exact (by first | exact (rfl : decide _ = true) | exact (rfl : decide _ = false) | (refine decide_eq_true ?_; assumption) | (refine decide_eq_false ?_; assumption) | (refine decide_eq_true ?_; omega) | (refine decide_eq_false ?_; omega)); rfl)) ?_ | refine XPA.offW rfl rfl (by first | exact Gd.isB rfl rfl rfl | exact Gd.un rfl rfl | (apply Gd.isQ; rfl; rfl; exact (by first | exact (rfl : decide _ = true) | exact (rfl : decide _ = false) | (refine decide_eq_true ?_; assumption) | (refine decide_eq_false ?_; assumption) | (refine decide_eq_true ?_; omega) | (refine decide_eq_false ?_; omega)); rfl)) ?_
            first | refine XPA.puG rfl rfl zJ ?_ | refine XPA.puOffG rfl rfl ?_
            refine XPA.pu rfl rfl Gd.free zP ?_; refine XPA.pu rfl rfl Gd.free Rd.mv ?_
            first | refine XPA.puG rfl rfl Rd.mv ?_ | refine XPA.puOffG rfl rfl ?_
            first | refine XPA.puG rfl rfl Rd.mv ?_ | refine XPA.puOffG rfl rfl ?_
            first | refine XPA.puG rfl rfl (Rd.ixS rfl rfl) ?_ | refine XPA.puOffG rfl rfl ?_
            first | refine XPA.puG rfl rfl (Rd.fA rfl) ?_ | refine XPA.puOffG rfl rfl ?_
            first | refine XPA.rdG rfl rfl (Rd.ldC rfl (tyrow rfl) rfl) ?_ | refine XPA.offG rfl rfl ?_
            first | refine XPA.puG rfl rfl Rd.mv ?_ | refine XPA.puOffG rfl rfl ?_
            first | refine XPA.puG rfl rfl Rd.mv ?_ | refine XPA.puOffG rfl rfl ?_
            first | refine XPA.puG rfl rfl (Rd.ixS rfl rfl) ?_ | refine XPA.puOffG rfl rfl ?_
            first | refine XPA.puG rfl rfl (Rd.fA rfl) ?_ | refine XPA.puOffG rfl rfl ?_
            first | refine XPA.rdG rfl rfl (Rd.ldC rfl (tyrow rfl) rfl) ?_ | refine XPA.offG rfl rfl ?_
            first | refine XPA.off rfl rfl (by first | exact Gd.isB rfl rfl rfl | exact Gd.un rfl rfl | (apply Gd.isQ; rfl; rfl; exact (by first | exact (rfl : decide _ = true) | exact (rfl : decide _ = false) | (refine decide_eq_true ?_; assumption) | (refine decide_eq_false ?_; assumption) | (refine decide_eq_true ?_; omega) | (refine decide_eq_false ?_; omega)); rfl)) ?_ | refine XPA.puOff rfl rfl (by first | exact Gd.isB rfl rfl rfl | exact Gd.un rfl rfl | (apply Gd.isQ; rfl; rfl; exact (by first | exact (rfl : decide _ = true) | exact (rfl : decide _ = false) | (refine decide_eq_true ?_; assumption) | (refine decide_eq_false ?_; assumption) | (refine decide_eq_true ?_; omega) | (refine decide_eq_false ?_; omega)); rfl)) ?_ | refine XPA.offW rfl rfl (by first | exact Gd.isB rfl rfl rfl | exact Gd.un rfl rfl | (apply Gd.isQ; rfl; rfl; exact (by first | exact (rfl : decide _ = true) | exact (rfl : decide _ = false) | (refine decide_eq_true ?_; assumption) | (refine decide_eq_false ?_; assumption) | (refine decide_eq_true ?_; omega) | (refine decide_eq_false ?_; omega)); rfl)) ?_
            first | refine XPA.puG rfl rfl zJ ?_ | refine XPA.puOffG rfl rfl ?_
            refine XPA.pu rfl rfl Gd.free zP ?_; refine XPA.nil ?_; refine zT (XA.condT rfl rfl (zS (zR (zO rfl Rd.asg ?_)))); refine zN (zT (XA.ret (DA.inb_ret (DA.thn_ret (DA.thn_ret (DA.inb_ret (DA.thn_ret ?_)))))))
            exact bodyA.ret (ResA.one rfl rfl) (Ent.nil _) ⟨false, rfl, ⟨fun h => (by cases h), fun h => absurd h hn⟩, rfl, rfl⟩
          | true =>
            first | refine XPA.puG rfl rfl zJ ?_ | refine XPA.puOffG rfl rfl ?_
            refine XPA.pu rfl rfl Gd.free zP ?_; refine XPA.pu rfl rfl Gd.free Rd.mv ?_
            first | refine XPA.puG rfl rfl Rd.mv ?_ | refine XPA.puOffG rfl rfl ?_
            first | refine XPA.puG rfl rfl Rd.mv ?_ | refine XPA.puOffG rfl rfl ?_
            first | refine XPA.puG rfl rfl (Rd.ixS rfl rfl) ?_ | refine XPA.puOffG rfl rfl ?_
            first | refine XPA.puG rfl rfl (Rd.fA rfl) ?_ | refine XPA.puOffG rfl rfl ?_
            first | refine XPA.rdG rfl rfl (Rd.ldC rfl (tyrow rfl) rfl) ?_ | refine XPA.offG rfl rfl ?_
            first | refine XPA.puG rfl rfl Rd.mv ?_ | refine XPA.puOffG rfl rfl ?_
            first | refine XPA.puG rfl rfl Rd.mv ?_ | refine XPA.puOffG rfl rfl ?_
            first | refine XPA.puG rfl rfl (Rd.ixS rfl rfl) ?_ | refine XPA.puOffG rfl rfl ?_
            first | refine XPA.puG rfl rfl (Rd.fA rfl) ?_ | refine XPA.puOffG rfl rfl ?_
            first | refine XPA.rdG rfl rfl (Rd.ldC rfl (tyrow rfl) rfl) ?_ | refine XPA.offG rfl rfl ?_
            refine XPA.wr0 rfl rfl (by first | exact Gd.free | exact Gd.isB rfl rfl rfl | (apply Gd.isQ; rfl; rfl; exact (by first | exact (rfl : decide _ = true) | exact (rfl : decide _ = false) | (refine decide_eq_true ?_; assumption) | (refine decide_eq_false ?_; assumption) | (refine decide_eq_true ?_; omega) | (refine decide_eq_false ?_; omega)); rfl)) (WrA.cE (ihb _ _ body' hxb hyb) rfl) ?_
            rintro _ _ _ ⟨_, ⟨b3, rfl, hb3, rfl, rfl⟩, rfl⟩
            refine stays (XPA.cl ?_)
            cases b3 with
            | false =>
              have hn := hout (fun h => absurd (hb3.2 (by injection h)) (by decide))
              first | refine XPA.puG rfl rfl zJ ?_ | refine XPA.puOffG rfl rfl ?_
              refine XPA.pu rfl rfl Gd.free zP ?_; refine XPA.pu rfl rfl Gd.free Rd.mv ?_
              first | refine XPA.puG rfl rfl Rd.mv ?_ | refine XPA.puOffG rfl rfl ?_
              first | refine XPA.puG rfl rfl Rd.mv ?_ | refine XPA.puOffG rfl rfl ?_
              first | refine XPA.puG rfl rfl (Rd.ixS rfl rfl) ?_ | refine XPA.puOffG rfl rfl ?_
              first | refine XPA.puG rfl rfl (Rd.fA rfl) ?_ | refine XPA.puOffG rfl rfl ?_
              first | refine XPA.rdG rfl rfl (Rd.ldC rfl (tyrow rfl) rfl) ?_ | refine XPA.offG rfl rfl ?_
              first | refine XPA.puG rfl rfl Rd.mv ?_ | refine XPA.puOffG rfl rfl ?_
              first | refine XPA.puG rfl rfl Rd.mv ?_ | refine XPA.puOffG rfl rfl ?_
              first | refine XPA.puG rfl rfl (Rd.ixS rfl rfl) ?_ | refine XPA.puOffG rfl rfl ?_
              first | refine XPA.puG rfl rfl (Rd.fA rfl) ?_ | refine XPA.puOffG rfl rfl ?_
              first | refine XPA.rdG rfl rfl (Rd.ldC rfl (tyrow rfl) rfl) ?_ | refine XPA.offG rfl rfl ?_
              first | refine XPA.off rfl rfl (by first | exact Gd.isB rfl rfl rfl | exact Gd.un rfl rfl | (apply Gd.isQ; rfl; rfl; exact (by first | exact (rfl : decide _ = true) | exact (rfl : decide _ = false) | (refine decide_eq_true ?_; assumption) | (refine decide_eq_false ?_; assumption) | (refine decide_eq_true ?_; omega) | (refine decide_eq_false ?_; omega)); rfl)) ?_ | refine XPA.puOff rfl rfl (by first | exact Gd.isB rfl rfl rfl | exact Gd.un rfl rfl | (apply Gd.isQ; rfl; rfl; exact (by first | exact (rfl : decide _ = true) | exact (rfl : decide _ = false) | (refine decide_eq_true ?_; assumption) | (refine decide_eq_false ?_; assumption) | (refine decide_eq_true ?_; omega) | (refine decide_eq_false ?_; omega)); rfl)) ?_ | refine XPA.offW rfl rfl (by first | exact Gd.isB rfl rfl rfl | exact Gd.un rfl rfl | (apply Gd.isQ; rfl; rfl; exact (by first | exact (rfl : decide _ = true) | exact (rfl : decide _ = false) | (refine decide_eq_true ?_; assumption) | (refine decide_eq_false ?_; assumption) | (refine decide_eq_true ?_; omega) | (refine decide_eq_false ?_; omega)); rfl)) ?_
              first | refine XPA.puG rfl rfl zJ ?_ | refine XPA.puOffG rfl rfl ?_
              refine XPA.pu rfl rfl Gd.free zP ?_; refine XPA.nil ?_; refine zT (XA.condT rfl rfl (zS (zR (zO rfl Rd.asg ?_)))); refine zN (zT (XA.ret (DA.inb_ret (DA.thn_ret (DA.thn_ret (DA.inb_ret (DA.thn_ret ?_)))))))
              exact bodyA.ret (ResA.one rfl rfl) (Ent.nil _) ⟨false, rfl, ⟨fun h => (by cases h), fun h => absurd h hn⟩, rfl, rfl⟩
            | true =>
              first | refine XPA.puG rfl rfl zJ ?_ | refine XPA.puOffG rfl rfl ?_
              refine XPA.pu rfl rfl Gd.free zP ?_; refine XPA.pu rfl rfl Gd.free Rd.mv ?_
              first | refine XPA.puG rfl rfl Rd.mv ?_ | refine XPA.puOffG rfl rfl ?_
              first | refine XPA.puG rfl rfl Rd.mv ?_ | refine XPA.puOffG rfl rfl ?_
              first | refine XPA.puG rfl rfl (Rd.ixS rfl rfl) ?_ | refine XPA.puOffG rfl rfl ?_
              first | refine XPA.puG rfl rfl (Rd.fA rfl) ?_ | refine XPA.puOffG rfl rfl ?_
              first | refine XPA.rdG rfl rfl (Rd.ldC rfl (tyrow rfl) rfl) ?_ | refine XPA.offG rfl rfl ?_
              first | refine XPA.puG rfl rfl Rd.mv ?_ | refine XPA.puOffG rfl rfl ?_
              first | refine XPA.puG rfl rfl Rd.mv ?_ | refine XPA.puOffG rfl rfl ?_
              first | refine XPA.puG rfl rfl (Rd.ixS rfl rfl) ?_ | refine XPA.puOffG rfl rfl ?_
              first | refine XPA.puG rfl rfl (Rd.fA rfl) ?_ | refine XPA.puOffG rfl rfl ?_
              first | refine XPA.rdG rfl rfl (Rd.ldC rfl (tyrow rfl) rfl) ?_ | refine XPA.offG rfl rfl ?_
              refine XPA.wr0 rfl rfl (by first | exact Gd.free | exact Gd.isB rfl rfl rfl | (apply Gd.isQ; rfl; rfl; exact (by first | exact (rfl : decide _ = true) | exact (rfl : decide _ = false) | (refine decide_eq_true ?_; assumption) | (refine decide_eq_false ?_; assumption) | (refine decide_eq_true ?_; omega) | (refine decide_eq_false ?_; omega)); rfl)) (WrA.cE (ihe _ _ els' hxl hyl) rfl) ?_
              rintro _ _ _ ⟨_, ⟨b4, rfl, hb4, rfl, rfl⟩, rfl⟩
              refine stays (XPA.cl ?_)
              cases b4 with
              | false =>
                have hn := hout (fun h => absurd (hb4.2 (by injection h)) (by decide))
                first | refine XPA.puG rfl rfl zJ ?_ | refine XPA.puOffG rfl rfl ?_
                refine XPA.pu rfl rfl Gd.free zP ?_; refine XPA.nil ?_; refine zT (XA.condT rfl rfl (zS (zR (zO rfl Rd.asg ?_)))); refine zN (zT (XA.ret (DA.inb_ret (DA.thn_ret (DA.thn_ret (DA.inb_ret (DA.thn_ret ?_)))))))
                exact bodyA.ret (ResA.one rfl rfl) (Ent.nil _) ⟨false, rfl, ⟨fun h => (by cases h), fun h => absurd h hn⟩, rfl, rfl⟩
              | true =>
                have hxy : St.mk op v ex fx body els = St.mk op' v' ex' fx' body' els' := by rw [h1, h2, hb1.1 rfl, hb2.1 rfl, hb3.1 rfl, hb4.1 rfl]
                first | refine XPA.puG rfl rfl zJ ?_ | refine XPA.puOffG rfl rfl ?_
                refine XPA.pu rfl rfl Gd.free zP ?_; refine XPA.nil ?_; refine zT (XA.condF rfl rfl (XA.skip (DA.inb_normal (zT (zR (zA rfl ?_)))))); refine zO rfl zI ?_; refine zO rfl Rd.asg ?_; refine zN (zT ?_)
                refine ⟨(Keep.upd (Keep.upd (Keep.upd (Keep.upd (Keep.upd (Keep.updO (Keep.upd (Keep.upd (Keep.upd (Keep.upd (Keep.upd (Keep.upd (Keep.upd (Keep.upd (Keep.upd (Keep.upd (Keep.upd (Keep.upd (Keep.upd (Keep.updO (Keep.upd (Keep.upd (Keep.upd (Keep.upd (Keep.upd (Keep.upd (Keep.upd (Keep.upd (Keep.upd (Keep.upd (Keep.upd (Keep.upd (Keep.upd (Keep.updO (Keep.upd (Keep.upd (Keep.upd (Keep.upd (Keep.upd (Keep.upd (Keep.upd (Keep.upd (Keep.upd (Keep.upd (Keep.upd (Keep.upd (Keep.upd (Keep.updO (Keep.upd (Keep.upd (Keep.upd (Keep.upd (Keep.upd (Keep.upd (Keep.upd (Keep.upd (Keep.upd (Keep.upd (Keep.upd (Keep.upd (Keep.upd (Keep.upd (Keep.upd (Keep.upd (Keep.upd (Keep.upd (Keep.upd (Keep.upd (Keep.upd (Keep.upd (Keep.upd (Keep.upd (Keep.upd (Keep.upd (Keep.upd (Keep.upd (Keep.upd (Keep.upd (Keep.upd (Keep.upd (Keep.upd (Keep.upd (Keep.upd (Keep.upd (Keep.upd (Keep.upd (Keep.upd (Keep.upd (Keep.hav (Keep.hav (Keep.refl _ _) rfl) rfl) rfl) rfl) rfl) rfl) rfl) rfl) rfl) rfl) rfl) rfl) rfl) rfl) rfl) rfl) rfl) rfl) rfl) rfl) rfl) rfl) rfl) rfl) rfl) rfl) rfl) rfl) rfl) rfl) rfl) rfl) rfl) rfl) rfl) rfl) rfl) rfl) rfl) rfl) rfl) rfl) rfl) rfl) rfl) rfl) rfl) rfl) rfl) rfl) rfl) rfl) rfl) rfl) rfl) rfl) rfl) rfl) rfl) rfl) rfl) rfl) rfl) rfl) rfl) rfl) rfl) rfl) rfl) rfl) rfl) rfl) rfl) rfl) rfl) rfl) rfl) rfl) rfl) rfl) rfl) rfl) rfl) rfl) rfl) rfl) rfl) rfl) rfl) rfl), k + 1, [], zM, ?_, ⟨rfl, hlt, take_eq_succ hx hy htk hxy, rfl⟩, (by omega)⟩
                · exact zE
      · have hn := hout (fun h => h2 (by injection h))
        refine XA.draw (by kernel_rfl) _ _ [] [(0, .pu), (1, .pu), (2, .pu), (3, .pu), (4, .rd), (5, .pu), (6, .pu), (7, .pu), (8, .pu), (9, .rd), (10, .pu), (11, .pu), (12, .pu), (13, .pu), (14, .pu), (15, .pu), (16, .rd), (17, .pu), (18, .pu), (19, .pu), (20, .pu), (21, .rd), (22, .pu), (23, .pu), (24, .pu), (25, .pu), (26, .pu), (27, .pu), (28, .pu), (29, .rd), (30, .pu), (31, .pu), (32, .pu), (33, .pu), (34, .rd), (35, .wr), (36, .pu), (37, .pu), (38, .pu), (39, .pu), (40, .pu), (41, .pu), (42, .pu), (43, .rd), (44, .pu), (45, .pu), (46, .pu), (47, .pu), (48, .rd), (49, .wr), (50, .pu), (51, .pu), (52, .pu), (53, .pu), (54, .pu), (55, .pu), (56, .pu), (57, .rd), (58, .pu), (59, .pu), (60, .pu), (61, .pu), (62, .rd), (63, .wr), (64, .pu), (65, .pu), (66, .pu), (67, .pu), (68, .pu), (69, .pu), (70, .pu), (71, .rd), (72, .pu), (73, .pu), (74, .pu), (75, .pu), (76, .rd), (77, .wr), (78, .pu), (79, .pu)] (by kernel_rfl) (PH.sub.refl _) (Ent.nil _) ?_
        refine XPA.pu rfl rfl Gd.free Rd.mv ?_; refine XPA.pu rfl rfl Gd.free Rd.mv ?_; refine XPA.pu rfl rfl Gd.free (Rd.ixS rfl rfl) ?_; refine XPA.pu rfl rfl Gd.free (Rd.fA rfl) ?_; refine XPA.rd rfl rfl Gd.free (Rd.ldC rfl (tyrow rfl) rfl) ?_; refine XPA.pu rfl rfl Gd.free Rd.mv ?_
        refine XPA.pu rfl rfl Gd.free Rd.mv ?_; refine XPA.pu rfl rfl Gd.free (Rd.ixS rfl rfl) ?_; refine XPA.pu rfl rfl Gd.free (Rd.fA rfl) ?_; refine XPA.rd rfl rfl Gd.free (Rd.ldC rfl (tyrow rfl) rfl) ?_; refine XPA.pu rfl rfl Gd.free (Rd.neq rfl rfl) ?_; refine XPA.pu rfl rfl Gd.free Rd.mv ?_
        first | refine XPA.puG rfl rfl Rd.mv ?_ | refine XPA.puOffG rfl rfl ?_
        first | refine XPA.puG rfl rfl Rd.mv ?_ | refine XPA.puOffG rfl rfl ?_
        first | refine XPA.puG rfl rfl (Rd.ixS rfl rfl) ?_ | refine XPA.puOffG rfl rfl ?_
        first | refine XPA.puG rfl rfl (Rd.fA rfl) ?_ | refine XPA.puOffG rfl rfl ?_
        first | refine XPA.rdG rfl rfl (Rd.ldC rfl (tyrow rfl) rfl) ?_ | refine XPA.offG rfl rfl ?_
        first | refine XPA.puG rfl rfl Rd.mv ?_ | refine XPA.puOffG rfl rfl ?_
        first | refine XPA.puG rfl rfl Rd.mv ?_ | refine XPA.puOffG rfl rfl ?_
        first | refine XPA.puG rfl rfl (Rd.ixS rfl rfl) ?_ | refine XPA.puOffG rfl rfl ?_
        first | refine XPA.puG rfl rfl (Rd.fA rfl) ?_ | refine XPA.puOffG rfl rfl ?_
        first | refine XPA.rdG rfl rfl (Rd.ldC rfl (tyrow rfl) rfl) ?_ | refine XPA.offG rfl rfl ?_
        first | refine XPA.puG rfl rfl (Rd.neq rfl rfl) ?_ | refine XPA.puOffG rfl rfl ?_
        refine XPA.pu rfl rfl Gd.free zP ?_; refine XPA.pu rfl rfl Gd.free Rd.mv ?_
        first | refine XPA.puG rfl rfl Rd.mv ?_ | refine XPA.puOffG rfl rfl ?_
        first | refine XPA.puG rfl rfl Rd.mv ?_ | refine XPA.puOffG rfl rfl ?_
        first | refine XPA.puG rfl rfl (Rd.ixS rfl rfl) ?_ | refine XPA.puOffG rfl rfl ?_
        first | refine XPA.puG rfl rfl (Rd.fA rfl) ?_ | refine XPA.puOffG rfl rfl ?_
        first | refine XPA.rdG rfl rfl (Rd.ldA rfl) ?_ | refine XPA.offG rfl rfl ?_
        first | refine XPA.puG rfl rfl Rd.mv ?_ | refine XPA.puOffG rfl rfl ?_
        first | refine XPA.puG rfl rfl Rd.mv ?_ | refine XPA.puOffG rfl rfl ?_
        first | refine XPA.puG rfl rfl (Rd.ixS rfl rfl) ?_ | refine XPA.puOffG rfl rfl ?_
        first | refine XPA.puG rfl rfl (Rd.fA rfl) ?_ | refine XPA.puOffG rfl rfl ?_
        first | refine XPA.rdG rfl rfl (Rd.ldA rfl) ?_ | refine XPA.offG rfl rfl ?_
        first | refine XPA.off rfl rfl (by first | exact Gd.isB rfl rfl rfl | exact Gd.un rfl rfl | (apply Gd.isQ; rfl; rfl; exact (by first | exact (rfl : decide _ = true) | exact (rfl : decide _ = false) | (refine decide_eq_true ?_; assumption) | (refine decide_eq_false ?_; assumption) | (refine decide_eq_true ?_; omega) | (refine decide_eq_false ?_; omega)); rfl)) ?_ | refine XPA.puOff rfl rfl (by first | exact Gd.isB rfl rfl rfl | exact Gd.un rfl rfl | (apply Gd.isQ; rfl; rfl; exact (by first | exact (rfl : decide _ = true) | exact (rfl : decide _ = false) | (refine decide_eq_true ?_; assumption) | (refine decide_eq_false ?_; assumption) | (refine decide_eq_true ?_; omega) | (refine decide_eq_false ?_; omega)); rfl)) ?_ | refine XPA.offW rfl rfl (by first | exact Gd.isB rfl rfl rfl | exact Gd.un rfl rfl | (apply Gd.isQ; rfl; rfl; exact (by first | exact (rfl : decide _ = true) | exact (rfl : decide _ = false) | (refine decide_eq_true ?_; assumption) | (refine decide_eq_false ?_; assumption) | (refine decide_eq_true ?_; omega) | (refine decide_eq_false ?_; omega)); rfl)) ?_
        first | refine XPA.puG rfl rfl zJ ?_ | refine XPA.puOffG rfl rfl ?_
        refine XPA.pu rfl rfl Gd.free zP ?_; refine XPA.pu rfl rfl Gd.free Rd.mv ?_
        first | refine XPA.puG rfl rfl Rd.mv ?_ | refine XPA.puOffG rfl rfl ?_
        first | refine XPA.puG rfl rfl Rd.mv ?_ | refine XPA.puOffG rfl rfl ?_
        first | refine XPA.puG rfl rfl (Rd.ixS rfl rfl) ?_ | refine XPA.puOffG rfl rfl ?_
        first | refine XPA.puG rfl rfl (Rd.fA rfl) ?_ | refine XPA.puOffG rfl rfl ?_
        first | refine XPA.rdG rfl rfl (Rd.ldA rfl) ?_ | refine XPA.offG rfl rfl ?_
        first | refine XPA.puG rfl rfl Rd.mv ?_ | refine XPA.puOffG rfl rfl ?_
        first | refine XPA.puG rfl rfl Rd.mv ?_ | refine XPA.puOffG rfl rfl ?_
        first | refine XPA.puG rfl rfl (Rd.ixS rfl rfl) ?_ | refine XPA.puOffG rfl rfl ?_
        first | refine XPA.puG rfl rfl (Rd.fA rfl) ?_ | refine XPA.puOffG rfl rfl ?_
        first | refine XPA.rdG rfl rfl (Rd.ldA rfl) ?_ | refine XPA.offG rfl rfl ?_
        first | refine XPA.off rfl rfl (by first | exact Gd.isB rfl rfl rfl | exact Gd.un rfl rfl | (apply Gd.isQ; rfl; rfl; exact (by first | exact (rfl : decide _ = true) | exact (rfl : decide _ = false) | (refine decide_eq_true ?_; assumption) | (refine decide_eq_false ?_; assumption) | (refine decide_eq_true ?_; omega) | (refine decide_eq_false ?_; omega)); rfl)) ?_ | refine XPA.puOff rfl rfl (by first | exact Gd.isB rfl rfl rfl | exact Gd.un rfl rfl | (apply Gd.isQ; rfl; rfl; exact (by first | exact (rfl : decide _ = true) | exact (rfl : decide _ = false) | (refine decide_eq_true ?_; assumption) | (refine decide_eq_false ?_; assumption) | (refine decide_eq_true ?_; omega) | (refine decide_eq_false ?_; omega)); rfl)) ?_ | refine XPA.offW rfl rfl (by first | exact Gd.isB rfl rfl rfl | exact Gd.un rfl rfl | (apply Gd.isQ; rfl; rfl; exact (by first | exact (rfl : decide _ = true) | exact (rfl : decide _ = false) | (refine decide_eq_true ?_; assumption) | (refine decide_eq_false ?_; assumption) | (refine decide_eq_true ?_; omega) | (refine decide_eq_false ?_; omega)); rfl)) ?_
        first | refine XPA.puG rfl rfl zJ ?_ | refine XPA.puOffG rfl rfl ?_
        refine XPA.pu rfl rfl Gd.free zP ?_; refine XPA.pu rfl rfl Gd.free Rd.mv ?_
        first | refine XPA.puG rfl rfl Rd.mv ?_ | refine XPA.puOffG rfl rfl ?_
        first | refine XPA.puG rfl rfl Rd.mv ?_ | refine XPA.puOffG rfl rfl ?_
        first | refine XPA.puG rfl rfl (Rd.ixS rfl rfl) ?_ | refine XPA.puOffG rfl rfl ?_
        first | refine XPA.puG rfl rfl (Rd.fA rfl) ?_ | refine XPA.puOffG rfl rfl ?_
        first | refine XPA.rdG rfl rfl (Rd.ldC rfl (tyrow rfl) rfl) ?_ | refine XPA.offG rfl rfl ?_
        first | refine XPA.puG rfl rfl Rd.mv ?_ | refine XPA.puOffG rfl rfl ?_
        first | refine XPA.puG rfl rfl Rd.mv ?_ | refine XPA.puOffG rfl rfl ?_
        first | refine XPA.puG rfl rfl (Rd.ixS rfl rfl) ?_ | refine XPA.puOffG rfl rfl ?_
        first | refine XPA.puG rfl rfl (Rd.fA rfl) ?_ | refine XPA.puOffG rfl rfl ?_
        first | refine XPA.rdG rfl rfl (Rd.ldC rfl (tyrow rfl) rfl) ?_ | refine XPA.offG rfl rfl ?_
        first | refine XPA.off rfl rfl (by first | exact Gd.isB rfl rfl rfl | exact Gd.un rfl rfl | (apply Gd.isQ; rfl; rfl; exact (by first | exact (rfl : decide _ = true) | exact (rfl : decide _ = false) | (refine decide_eq_true ?_; assumption) | (refine decide_eq_false ?_; assumption) | (refine decide_eq_true ?_; omega) | (refine decide_eq_false ?_; omega)); rfl)) ?_ | refine XPA.puOff rfl rfl (by first | exact Gd.isB rfl rfl rfl | exact Gd.un rfl rfl | (apply Gd.isQ; rfl; rfl; exact (by first | exact (rfl : decide _ = true) | exact (rfl : decide _ = false) | (refine decide_eq_true ?_; assumption) | (refine decide_eq_false ?_; assumption) | (refine decide_eq_true ?_; omega) | (refine decide_eq_false ?_; omega)); rfl)) ?_ | refine XPA.offW rfl rfl (by first | exact Gd.isB rfl rfl rfl | exact Gd.un rfl rfl | (apply Gd.isQ; rfl; rfl; exact (by first | exact (rfl : decide _ = true) | exact (rfl : decide _ = false) | (refine decide_eq_true ?_; assumption) | (refine decide_eq_false ?_; assumption) | (refine decide_eq_true ?_; omega) | (refine decide_eq_false ?_; omega)); rfl)) ?_
        first | refine XPA.puG rfl rfl zJ ?_ | refine XPA.puOffG rfl rfl ?_
        refine XPA.pu rfl rfl Gd.free zP ?_; refine XPA.pu rfl rfl Gd.free Rd.mv ?_
        first | refine XPA.puG rfl rfl Rd.mv ?_ | refine XPA.puOffG rfl rfl ?_
        first | refine XPA.puG rfl rfl Rd.mv ?_ | refine XPA.puOffG rfl rfl ?_
        first | refine XPA.puG rfl rfl (Rd.ixS rfl rfl) ?_ | refine XPA.puOffG rfl rfl ?_
        first | refine XPA.puG rfl rfl (Rd.fA rfl) ?_ | refine XPA.puOffG rfl rfl ?_
        first | refine XPA.rdG rfl rfl (Rd.ldC rfl (tyrow rfl) rfl) ?_ | refine XPA.offG rfl rfl ?_
        first | refine XPA.puG rfl rfl Rd.mv ?_ | refine XPA.puOffG rfl rfl ?_
        first | refine XPA.puG rfl rfl Rd.mv ?_ | refine XPA.puOffG rfl rfl ?_
        first | refine XPA.puG rfl rfl (Rd.ixS rfl rfl) ?_ | refine XPA.puOffG rfl rfl ?_
        first | refine XPA.puG rfl rfl (Rd.fA rfl) ?_ | refine XPA.puOffG rfl rfl ?_
        first | refine XPA.rdG rfl rfl (Rd.ldC rfl (tyrow rfl) rfl) ?_ | refine XPA.offG rfl rfl ?_
        first | refine XPA.off rfl rfl (by first | exact Gd.isB rfl rfl rfl | exact Gd.un rfl rfl | (apply Gd.isQ; rfl; rfl; exact (by first | exact (rfl : decide _ = true) | exact (rfl : decide _ = false) | (refine decide_eq_true ?_; assumption) | (refine decide_eq_false ?_; assumption) | (refine decide_eq_true ?_; omega) | (refine decide_eq_false ?_; omega)); rfl)) ?_ | refine XPA.puOff rfl rfl (by first | exact Gd.isB rfl rfl rfl | exact Gd.un rfl rfl | (apply Gd.isQ; rfl; rfl; exact (by first | exact (rfl : decide _ = true) | exact (rfl : decide _ = false) | (refine decide_eq_true ?_; assumption) | (refine decide_eq_false ?_; assumption) | (refine decide_eq_true ?_; omega) | (refine decide_eq_false ?_; omega)); rfl)) ?_ | refine XPA.offW rfl rfl (by first | exact Gd.isB rfl rfl rfl | exact Gd.un rfl rfl | (apply Gd.isQ; rfl; rfl; exact (by first | exact (rfl : decide _ = true) | exact (rfl : decide _ = false) | (refine decide_eq_true ?_; assumption) | (refine decide_eq_false ?_; assumption) | (refine decide_eq_true ?_; omega) | (refine decide_eq_false ?_; omega)); rfl)) ?_
        first | refine XPA.puG rfl rfl zJ ?_ | refine XPA.puOffG rfl rfl ?_
        refine XPA.pu rfl rfl Gd.free zP ?_; refine XPA.nil ?_; refine zT (XA.condT rfl zY ?_); refine zS (zR (zO rfl Rd.asg ?_)); refine zN (zT (XA.ret (DA.inb_ret (DA.thn_ret (DA.thn_ret (DA.inb_ret (DA.thn_ret ?_)))))))
        exact bodyA.ret (ResA.one rfl rfl) (Ent.nil _) ⟨false, rfl, ⟨fun h => (by cases h), fun h => absurd h hn⟩, rfl, rfl⟩
    · have hn := hout (fun h => h1 (by injection h))
      refine XA.draw (by kernel_rfl) _ _ [] [(0, .pu), (1, .pu), (2, .pu), (3, .pu), (4, .rd), (5, .pu), (6, .pu), (7, .pu), (8, .pu), (9, .rd), (10, .pu), (11, .pu), (12, .pu), (13, .pu), (14, .pu), (15, .pu), (16, .rd), (17, .pu), (18, .pu), (19, .pu), (20, .pu), (21, .rd), (22, .pu), (23, .pu), (24, .pu), (25, .pu), (26, .pu), (27, .pu), (28, .pu), (29, .rd), (30, .pu), (31, .pu), (32, .pu), (33, .pu), (34, .rd), (35, .wr), (36, .pu), (37, .pu), (38, .pu), (39, .pu), (40, .pu), (41, .pu), (42, .pu), (43, .rd), (44, .pu), (45, .pu), (46, .pu), (47, .pu), (48, .rd), (49, .wr), (50, .pu), (51, .pu), (52, .pu), (53, .pu), (54, .pu), (55, .pu), (56, .pu), (57, .rd), (58, .pu), (59, .pu), (60, .pu), (61, .pu), (62, .rd), (63, .wr), (64, .pu), (65, .pu), (66, .pu), (67, .pu), (68, .pu), (69, .pu), (70, .pu), (71, .rd), (72, .pu), (73, .pu), (74, .pu), (75, .pu), (76, .rd), (77, .wr), (78, .pu), (79, .pu)] (by kernel_rfl) (PH.sub.refl _) (Ent.nil _) ?_
      refine XPA.pu rfl rfl Gd.free Rd.mv ?_; refine XPA.pu rfl rfl Gd.free Rd.mv ?_; refine XPA.pu rfl rfl Gd.free (Rd.ixS rfl rfl) ?_; refine XPA.pu rfl rfl Gd.free (Rd.fA rfl) ?_; refine XPA.rd rfl rfl Gd.free (Rd.ldC rfl (tyrow rfl) rfl) ?_; refine XPA.pu rfl rfl Gd.free Rd.mv ?_
      refine XPA.pu rfl rfl Gd.free Rd.mv ?_; refine XPA.pu rfl rfl Gd.free (Rd.ixS rfl rfl) ?_; refine XPA.pu rfl rfl Gd.free (Rd.fA rfl) ?_; refine XPA.rd rfl rfl Gd.free (Rd.ldC rfl (tyrow rfl) rfl) ?_; refine XPA.pu rfl rfl Gd.free (Rd.neq rfl rfl) ?_; refine XPA.pu rfl rfl Gd.free Rd.mv ?_
      first | refine XPA.puG rfl rfl Rd.mv ?_ | refine XPA.puOffG rfl rfl ?_
      first | refine XPA.puG rfl rfl Rd.mv ?_ | refine XPA.puOffG rfl rfl ?_
      first | refine XPA.puG rfl rfl (Rd.ixS rfl rfl) ?_ | refine XPA.puOffG rfl rfl ?_
      first | refine XPA.puG rfl rfl (Rd.fA rfl) ?_ | refine XPA.puOffG rfl rfl ?_
      first | refine XPA.rdG rfl rfl (Rd.ldC rfl (tyrow rfl) rfl) ?_ | refine XPA.offG rfl rfl ?_
      first | refine XPA.puG rfl rfl Rd.mv ?_ | refine XPA.puOffG rfl rfl ?_
      first | refine XPA.puG rfl rfl Rd.mv ?_ | refine XPA.puOffG rfl rfl ?_
      first | refine XPA.puG rfl rfl (Rd.ixS rfl rfl) ?_ | refine XPA.puOffG rfl rfl ?_
      first | refine XPA.puG rfl rfl (Rd.fA rfl) ?_ | refine XPA.puOffG rfl rfl ?_
      first | refine XPA.rdG rfl rfl (Rd.ldC rfl (tyrow rfl) rfl) ?_ | refine XPA.offG rfl rfl ?_
      first | refine XPA.puG rfl rfl (Rd.neq rfl rfl) ?_ | refine XPA.puOffG rfl rfl ?_
      refine XPA.pu rfl rfl Gd.free zP ?_; refine XPA.pu rfl rfl Gd.free Rd.mv ?_
      first | refine XPA.puG rfl rfl Rd.mv ?_ | refine XPA.puOffG rfl rfl ?_
      first | refine XPA.puG rfl rfl Rd.mv ?_ | refine XPA.puOffG rfl rfl ?_
      first | refine XPA.puG rfl rfl (Rd.ixS rfl rfl) ?_ | refine XPA.puOffG rfl rfl ?_
      first | refine XPA.puG rfl rfl (Rd.fA rfl) ?_ | refine XPA.puOffG rfl rfl ?_
      first | refine XPA.rdG rfl rfl (Rd.ldA rfl) ?_ | refine XPA.offG rfl rfl ?_
      first | refine XPA.puG rfl rfl Rd.mv ?_ | refine XPA.puOffG rfl rfl ?_
      first | refine XPA.puG rfl rfl Rd.mv ?_ | refine XPA.puOffG rfl rfl ?_
      first | refine XPA.puG rfl rfl (Rd.ixS rfl rfl) ?_ | refine XPA.puOffG rfl rfl ?_
      first | refine XPA.puG rfl rfl (Rd.fA rfl) ?_ | refine XPA.puOffG rfl rfl ?_
      first | refine XPA.rdG rfl rfl (Rd.ldA rfl) ?_ | refine XPA.offG rfl rfl ?_
      first | refine XPA.off rfl rfl (by first | exact Gd.isB rfl rfl rfl | exact Gd.un rfl rfl | (apply Gd.isQ; rfl; rfl; exact (by first | exact (rfl : decide _ = true) | exact (rfl : decide _ = false) | (refine decide_eq_true ?_; assumption) | (refine decide_eq_false ?_; assumption) | (refine decide_eq_true ?_; omega) | (refine decide_eq_false ?_; omega)); rfl)) ?_ | refine XPA.puOff rfl rfl (by first | exact Gd.isB rfl rfl rfl | exact Gd.un rfl rfl | (apply Gd.isQ; rfl; rfl; exact (by first | exact (rfl : decide _ = true) | exact (rfl : decide _ = false) | (refine decide_eq_true ?_; assumption) | (refine decide_eq_false ?_; assumption) | (refine decide_eq_true ?_; omega) | (refine decide_eq_false ?_; omega)); rfl)) ?_ | refine XPA.offW rfl rfl (by first | exact Gd.isB rfl rfl rfl | exact Gd.un rfl rfl | (apply Gd.isQ; rfl; rfl; exact (by first | exact (rfl : decide _ = true) | exact (rfl : decide _ = false) | (refine decide_eq_true ?_; assumption) | (refine decide_eq_false ?_; assumption) | (refine decide_eq_true ?_; omega) | (refine decide_eq_false ?_; omega)); rfl)) ?_
      first | refine XPA.puG rfl rfl zJ ?_ | refine XPA.puOffG rfl rfl ?_
      refine XPA.pu rfl rfl Gd.free zP ?_; refine XPA.pu rfl rfl Gd.free Rd.mv ?_
      first | refine XPA.puG rfl rfl Rd.mv ?_ | refine XPA.puOffG rfl rfl ?_
      first | refine XPA.puG rfl rfl Rd.mv ?_ | refine XPA.puOffG rfl rfl ?_
      first | refine XPA.puG rfl rfl (Rd.ixS rfl rfl) ?_ | refine XPA.puOffG rfl rfl ?_
      first | refine XPA.puG rfl rfl (Rd.fA rfl) ?_ | refine XPA.puOffG rfl rfl ?_
      first | refine XPA.rdG rfl rfl (Rd.ldA rfl) ?_ | refine XPA.offG rfl rfl ?_
      first | refine XPA.puG rfl rfl Rd.mv ?_ | refine XPA.puOffG rfl rfl ?_
      first | refine XPA.puG rfl rfl Rd.mv ?_ | refine XPA.puOffG rfl rfl ?_
      first | refine XPA.puG rfl rfl (Rd.ixS rfl rfl) ?_ | refine XPA.puOffG rfl rfl ?_
      first | refine XPA.puG rfl rfl (Rd.fA rfl) ?_ | refine XPA.puOffG rfl rfl ?_
      first | refine XPA.rdG rfl rfl (Rd.ldA rfl) ?_ | refine XPA.offG rfl rfl ?_
      first | refine XPA.off rfl rfl (by first | exact Gd.isB rfl rfl rfl | exact Gd.un rfl rfl | (apply Gd.isQ; rfl; rfl; exact (by first | exact (rfl : decide _ = true) | exact (rfl : decide _ = false) | (refine decide_eq_true ?_; assumption) | (refine decide_eq_false ?_; assumption) | (refine decide_eq_true ?_; omega) | (refine decide_eq_false ?_; omega)); rfl)) ?_ | refine XPA.puOff rfl rfl (by first | exact Gd.isB rfl rfl rfl | exact Gd.un rfl rfl | (apply Gd.isQ; rfl; rfl; exact (by first | exact (rfl : decide _ = true) | exact (rfl : decide _ = false) | (refine decide_eq_true ?_; assumption) | (refine decide_eq_false ?_; assumption) | (refine decide_eq_true ?_; omega) | (refine decide_eq_false ?_; omega)); rfl)) ?_ | refine XPA.offW rfl rfl (by first | exact Gd.isB rfl rfl rfl | exact Gd.un rfl rfl | (apply Gd.isQ; rfl; rfl; exact (by first | exact (rfl : decide _ = true) | exact (rfl : decide _ = false) | (refine decide_eq_true ?_; assumption) | (refine decide_eq_false ?_; assumption) | (refine decide_eq_true ?_; omega) | (refine decide_eq_false ?_; omega)); rfl)) ?_
      first | refine XPA.puG rfl rfl zJ ?_ | refine XPA.puOffG rfl rfl ?_
      refine XPA.pu rfl rfl Gd.free zP ?_; refine XPA.pu rfl rfl Gd.free Rd.mv ?_
      first | refine XPA.puG rfl rfl Rd.mv ?_ | refine XPA.puOffG rfl rfl ?_
      first | refine XPA.puG rfl rfl Rd.mv ?_ | refine XPA.puOffG rfl rfl ?_
      first | refine XPA.puG rfl rfl (Rd.ixS rfl rfl) ?_ | refine XPA.puOffG rfl rfl ?_
      first | refine XPA.puG rfl rfl (Rd.fA rfl) ?_ | refine XPA.puOffG rfl rfl ?_
      first | refine XPA.rdG rfl rfl (Rd.ldC rfl (tyrow rfl) rfl) ?_ | refine XPA.offG rfl rfl ?_
      first | refine XPA.puG rfl rfl Rd.mv ?_ | refine XPA.puOffG rfl rfl ?_
      first | refine XPA.puG rfl rfl Rd.mv ?_ | refine XPA.puOffG rfl rfl ?_
      first | refine XPA.puG rfl rfl (Rd.ixS rfl rfl) ?_ | refine XPA.puOffG rfl rfl ?_
      first | refine XPA.puG rfl rfl (Rd.fA rfl) ?_ | refine XPA.puOffG rfl rfl ?_
      first | refine XPA.rdG rfl rfl (Rd.ldC rfl (tyrow rfl) rfl) ?_ | refine XPA.offG rfl rfl ?_
      first | refine XPA.off rfl rfl (by first | exact Gd.isB rfl rfl rfl | exact Gd.un rfl rfl | (apply Gd.isQ; rfl; rfl; exact (by first | exact (rfl : decide _ = true) | exact (rfl : decide _ = false) | (refine decide_eq_true ?_; assumption) | (refine decide_eq_false ?_; assumption) | (refine decide_eq_true ?_; omega) | (refine decide_eq_false ?_; omega)); rfl)) ?_ | refine XPA.puOff rfl rfl (by first | exact Gd.isB rfl rfl rfl | exact Gd.un rfl rfl | (apply Gd.isQ; rfl; rfl; exact (by first | exact (rfl : decide _ = true) | exact (rfl : decide _ = false) | (refine decide_eq_true ?_; assumption) | (refine decide_eq_false ?_; assumption) | (refine decide_eq_true ?_; omega) | (refine decide_eq_false ?_; omega)); rfl)) ?_ | refine XPA.offW rfl rfl (by first | exact Gd.isB rfl rfl rfl | exact Gd.un rfl rfl | (apply Gd.isQ; rfl; rfl; exact (by first | exact (rfl : decide _ = true) | exact (rfl : decide _ = false) | (refine decide_eq_true ?_; assumption) | (refine decide_eq_false ?_; assumption) | (refine decide_eq_true ?_; omega) | (refine decide_eq_false ?_; omega)); rfl)) ?_
      first | refine XPA.puG rfl rfl zJ ?_ | refine XPA.puOffG rfl rfl ?_
      refine XPA.pu rfl rfl Gd.free zP ?_; refine XPA.pu rfl rfl Gd.free Rd.mv ?_
      first | refine XPA.puG rfl rfl Rd.mv ?_ | refine XPA.puOffG rfl rfl ?_
      first | refine XPA.puG rfl rfl Rd.mv ?_ | refine XPA.puOffG rfl rfl ?_
      first | refine XPA.puG rfl rfl (Rd.ixS rfl rfl) ?_ | refine XPA.puOffG rfl rfl ?_
      first | refine XPA.puG rfl rfl (Rd.fA rfl) ?_ | refine XPA.puOffG rfl rfl ?_
      first | refine XPA.rdG rfl rfl (Rd.ldC rfl (tyrow rfl) rfl) ?_ | refine XPA.offG rfl rfl ?_
      first | refine XPA.puG rfl rfl Rd.mv ?_ | refine XPA.puOffG rfl rfl ?_
      first | refine XPA.puG rfl rfl Rd.mv ?_ | refine XPA.puOffG rfl rfl ?_
      first | refine XPA.puG rfl rfl (Rd.ixS rfl rfl) ?_ | refine XPA.puOffG rfl rfl ?_
      first | refine XPA.puG rfl rfl (Rd.fA rfl) ?_ | refine XPA.puOffG rfl rfl ?_
      first | refine XPA.rdG rfl rfl (Rd.ldC rfl (tyrow rfl) rfl) ?_ | refine XPA.offG rfl rfl ?_
      first | refine XPA.off rfl rfl (by first | exact Gd.isB rfl rfl rfl | exact Gd.un rfl rfl | (apply Gd.isQ; rfl; rfl; exact (by first | exact (rfl : decide _ = true) | exact (rfl : decide _ = false) | (refine decide_eq_true ?_; assumption) | (refine decide_eq_false ?_; assumption) | (refine decide_eq_true ?_; omega) | (refine decide_eq_false ?_; omega)); rfl)) ?_ | refine XPA.puOff rfl rfl (by first | exact Gd.isB rfl rfl rfl | exact Gd.un rfl rfl | (apply Gd.isQ; rfl; rfl; exact (by first | exact (rfl : decide _ = true) | exact (rfl : decide _ = false) | (refine decide_eq_true ?_; assumption) | (refine decide_eq_false ?_; assumption) | (refine decide_eq_true ?_; omega) | (refine decide_eq_false ?_; omega)); rfl)) ?_ | refine XPA.offW rfl rfl (by first | exact Gd.isB rfl rfl rfl | exact Gd.un rfl rfl | (apply Gd.isQ; rfl; rfl; exact (by first | exact (rfl : decide _ = true) | exact (rfl : decide _ = false) | (refine decide_eq_true ?_; assumption) | (refine decide_eq_false ?_; assumption) | (refine decide_eq_true ?_; omega) | (refine decide_eq_false ?_; omega)); rfl)) ?_
      first | refine XPA.puG rfl rfl zJ ?_ | refine XPA.puOffG rfl rfl ?_
      refine XPA.pu rfl rfl Gd.free zP ?_; refine XPA.nil ?_; refine zT (XA.condT rfl zY ?_); refine zS (zR (zO rfl Rd.asg ?_)); refine zN (zT (XA.ret (DA.inb_ret (DA.thn_ret (DA.thn_ret (DA.inb_ret (DA.thn_ret ?_)))))))
      exact bodyA.ret (ResA.one rfl rfl) (Ent.nil _) ⟨false, rfl, ⟨fun h => (by cases h), fun h => absurd h hn⟩, rfl, rfl⟩
  have hkn : k = l.length := by omega
  subst hkn
  rw [List.take_length, hlm, List.take_length] at htk
  refine XA.exit (DA.thn_exit (DA.thn_exit (DA.inb_same (zT (zS (zR (zO rfl Rd.asg ?_))))))); refine zN (zT (XA.ret ?_))
  exact bodyA.ret (ResA.one rfl rfl) (Ent.nil _) ⟨true, rfl, ⟨fun _ => htk, fun _ => rfl⟩, rfl, rfl⟩
theorem rsl_x (σ : PH) (x : St) : RSameListOK σ x.body ∧ RSameListOK σ x.els := by
  refine St.ind (P := fun x => RSameListOK σ x.body ∧ RSameListOK σ x.els) ?_ x
  intro op v e f body els ih jh
  exact ⟨rsameList_l σ body ih, rsameList_l σ els jh⟩
theorem rsameList_a (σ : PH) (l : List St) : RSameListOK σ l := rsameList_l σ l (fun x _ => rsl_x σ x)
theorem rsame_a (σ : PH) (cs cs' : List Value) (p q : Pr) (hp : PrAt σ cs p) (hq : PrAt σ cs' q) :
    CallsA Tryz.prog 7 #[.agg cs.toArray, .agg cs'.toArray] σ [] (RetA fun v σ' Γ' => ∃ b : Bool, v = .bool b ∧ (b = true ↔ p = q) ∧ σ = σ' ∧ Γ' = []) := by
  obtain ⟨vs, bs, rfl, hv, hb⟩ := hp
  obtain ⟨vs', bs', rfl, hv', hb'⟩ := hq
  obtain ⟨l, pb⟩ := p
  obtain ⟨m, qb⟩ := q
  simp only at hv hb hv' hb'
  obtain ⟨pl, cl, rfl, hle, hmx⟩ := hv.shape
  obtain ⟨pm, cm, rfl, hle2, hmx2⟩ := hv'.shape
  have hlen : l.length ≤ maxLen := by omega
  simp only [maxLen] at hlen
  have hno : ∀ (q : Prop), (Pr.mk l pb = Pr.mk m qb → q) → ¬ q → (false = true ↔ Pr.mk l pb = Pr.mk m qb) := fun q h1 h2 => ⟨fun h => (by cases h), fun h => absurd (h1 h) h2⟩
  by_cases hlm : l.length = m.length
  · 
    refine enterA2 Tryz.func7 rfl rfl rfl ?_
    refine zS (zR ?_)
    refine XOA.wr0 rfl WrA.bx ?_
    rintro _ _ _ ⟨g2, rfl, rfl, rfl⟩
    refine XOA.wr0 rfl WrA.bx ?_
    rintro _ _ _ ⟨g3, rfl, rfl, rfl⟩
    refine zO rfl Rd.asg ?_; refine zN (zT (zS (zS (zR (zV rfl rfl ?_))))); refine zB rfl rfl (tyrow rfl) rfl ?_; refine zO rfl (Rd.lenSlice (tyrow rfl) rfl rfl) ?_; refine zV rfl rfl ?_; refine zB rfl rfl (tyrow rfl) rfl ?_; refine zO rfl (Rd.lenSlice (tyrow rfl) rfl rfl) ?_
    refine zO rfl (Rd.neq rfl rfl) ?_; refine zA rfl ?_
    first | (refine zG ?_; refine zV rfl rfl ?_) | refine zH ?_
    first | (refine zG ?_; refine zB rfl rfl (tyrow rfl) rfl ?_) | refine zH ?_
    first | (refine zG ?_; refine zV rfl rfl ?_) | refine zH ?_
    first | (refine zG ?_; refine zB rfl rfl (tyrow rfl) rfl ?_) | refine zH ?_
    first | refine XOA.wanted rfl rfl ?_ | refine XOA.wq rfl rfl ?_
    refine XOA.wr0 rfl (WrA.cE (rsameList_a σ pb _ _ qb hb hb') rfl) ?_
    rintro _ _ _ ⟨_, ⟨b1, rfl, hb1, rfl, rfl⟩, rfl⟩
    refine XOA.cl ?_
    cases b1 with
    | false =>
      first | (refine zG ?_; refine zO rfl zJ ?_) | refine zH ?_
      refine zO rfl zP ?_; refine zN (zT (XA.condT rfl rfl (zS (zR (zO rfl Rd.asg ?_))))); refine zN (zT (XA.ret (DA.thn_ret ?_)))
      exact bodyA.ret (ResA.one rfl rfl) (Ent.nil _) ⟨false, rfl, hno (pb = qb) (fun h => by injection h) (fun h => absurd (hb1.2 h) (by decide)), rfl, rfl⟩
    | true =>
      first | (refine zG ?_; refine zO rfl zJ ?_) | refine zH ?_
      refine zO rfl zP ?_; refine zN (zT (XA.condF rfl rfl (XA.skip (zT (zS (zS (zR (zO rfl Rd.asg ?_)))))))); refine zN (zT (XA.block ?_))
      refine XA.gen [(2, _), (3, _), (4, _), (5, _)] ⟨(by with_reducible (conv => lhs; whnf)), (by with_reducible (conv => lhs; whnf)), (by with_reducible (conv => lhs; whnf)), (by with_reducible (conv => lhs; whnf)), trivial⟩ (fun δ => ?_)
      dsimp only [List.foldl]
      refine XA.loop [(4, 5), (21, 38)] (fun k : Nat => [(5, i64 k)]) (fun k σ' Γ' => σ = σ' ∧ k ≤ l.length ∧ l.take k = m.take k ∧ Γ' = [blk g2 [.slice pl l.length cl, bs] 26, blk g3 [.slice pm m.length cm, bs'] 26]) (fun k => l.length - k) 0 (by exact ⟨rfl, trivial⟩) (Δ0 := _) ?_ (⟨rfl, Nat.zero_le _, rfl, rfl⟩) ?_
      · exact zE
      rintro k δ _ _ ⟨rfl, hk, htk, rfl⟩
      dsimp only [ovr, List.foldl]
      refine zS (zS (zR (zA rfl ?_))); refine zV rfl rfl ?_; refine zB rfl rfl (tyrow rfl) rfl ?_; refine zO rfl (Rd.lenSlice (tyrow rfl) rfl rfl) ?_; refine zO rfl (Rd.lss rfl rfl) ?_; refine zN (zT ?_)
      refine XA.condp rfl (fun hlt => ?_) (fun hlt => ?_)
      · have hlt : k < l.length := by omega
        obtain ⟨x, hx⟩ : ∃ x, l[k]? = some x := ⟨_, List.getElem?_eq_getElem hlt⟩
        obtain ⟨y, hy⟩ : ∃ y, m[k]? = some y := ⟨_, List.getElem?_eq_getElem (by omega)⟩
        obtain ⟨g, o, row, rfl, ⟨rfl, -⟩, hrl, hrow⟩ := hv.at hx
        obtain ⟨g', o', row', rfl, ⟨rfl, -⟩, hrl', hrow'⟩ := hv'.at hy
        refine XA.skip (zT (zS (XA.block (zS ?_))))
        refine XA.draw (by kernel_rfl) _ _ [] [(0, .pu), (1, .rd), (2, .pu), (3, .pu), (4, .rd), (5, .pu), (6, .rd), (7, .pu), (8, .pu), (9, .rd), (10, .pu)] (by kernel_rfl) (PH.sub.refl _) (Ent.sel (R := blk g2 _ _) zL (Ent.sel (R := blk g3 _ _) zL (Ent.nil _))) ?_
        refine XPA.pu rfl rfl Gd.free (Rd.fA rfl) ?_; refine XPA.rd rfl rfl Gd.free (Rd.ldC rfl (tyrow rfl) rfl) ?_; refine XPA.pu rfl rfl Gd.free Rd.mv ?_; refine XPA.pu rfl rfl Gd.free (Rd.ixS rfl rfl) ?_; refine XPA.rd rfl rfl Gd.free (Rd.ldA rfl) ?_; refine XPA.pu rfl rfl Gd.free (Rd.fA rfl) ?_
        refine XPA.rd rfl rfl Gd.free (Rd.ldC rfl (tyrow rfl) rfl) ?_; refine XPA.pu rfl rfl Gd.free Rd.mv ?_; refine XPA.pu rfl rfl Gd.free (Rd.ixS rfl rfl) ?_; refine XPA.rd rfl rfl Gd.free (Rd.ldA rfl) ?_; refine XPA.pu rfl rfl Gd.free (Rd.neqVar (a := x) (b := y) rfl rfl) ?_; refine XPA.nil ?_
        refine zT ?_
        refine XA.condp rfl (fun hxy => ?_) (fun hxy => ?_)
        · refine zS ?_
          refine zR (zO rfl Rd.asg ?_); refine zN (zT (XA.ret (DA.inb_ret (DA.thn_ret (DA.thn_ret (DA.inb_ret (DA.thn_ret ?_)))))))
          refine bodyA.ret (ResA.one rfl rfl) (Ent.nil _) ⟨false, rfl, hno (l = m) (fun h => by injection h) (fun h => ?_), rfl, rfl⟩
          subst h
          rw [hx] at hy; simp only [Option.some.injEq] at hy
          exact absurd hy hxy
        have hxy : x = y := Decidable.not_not.1 hxy
        refine XA.skip (DA.inb_normal (zT (zR (zA rfl ?_)))); refine zO rfl zI ?_; refine zO rfl Rd.asg ?_; refine zN (zT ?_)
        refine ⟨(Keep.upd (Keep.upd (Keep.upd (Keep.upd (Keep.upd (Keep.upd (Keep.upd (Keep.upd (Keep.upd (Keep.upd (Keep.upd (Keep.upd (Keep.upd (Keep.upd (Keep.upd (Keep.upd (Keep.upd (Keep.upd (Keep.upd (Keep.upd (Keep.hav (Keep.hav (Keep.refl _ _) rfl) rfl) rfl) rfl) rfl) rfl) rfl) rfl) rfl) rfl) rfl) rfl) rfl) rfl) rfl) rfl) rfl) rfl) rfl) rfl) rfl) rfl), k + 1, _, zM, ?_, ⟨rfl, hlt, take_eq_succ hx hy htk hxy, rfl⟩, (by omega)⟩
        · exact zE
      have hkn : k = l.length := by omega
      subst hkn
      rw [List.take_length, hlm, List.take_length] at htk
      refine XA.exit (DA.thn_exit (DA.thn_exit (DA.inb_same (zT (zS (zR (zO rfl Rd.asg ?_))))))); refine zN (zT (XA.ret ?_))
      exact bodyA.ret (ResA.one rfl rfl) (Ent.nil _) ⟨true, rfl, ⟨fun _ => by rw [htk, hb1.1 rfl], fun _ => rfl⟩, rfl, rfl⟩
  · 
    refine enterA2 Tryz.func7 rfl rfl rfl ?_
    refine zS (zR ?_)
    refine XOA.wr0 rfl WrA.bx ?_
    rintro _ _ _ ⟨g2, rfl, rfl, rfl⟩
    refine XOA.wr0 rfl WrA.bx ?_
    rintro _ _ _ ⟨g3, rfl, rfl, rfl⟩
    refine zO rfl Rd.asg ?_; refine zN (zT (zS (zS (zR (zV rfl rfl ?_))))); refine zB rfl rfl (tyrow rfl) rfl ?_; refine zO rfl (Rd.lenSlice (tyrow rfl) rfl rfl) ?_; refine zV rfl rfl ?_; refine zB rfl rfl (tyrow rfl) rfl ?_; refine zO rfl (Rd.lenSlice (tyrow rfl) rfl rfl) ?_
    refine zO rfl (Rd.neq rfl rfl) ?_; refine zA rfl ?_
    first | (refine zG ?_; refine zV rfl rfl ?_) | refine zH ?_
    first | (refine zG ?_; refine zB rfl rfl (tyrow rfl) rfl ?_) | refine zH ?_
    first | (refine zG ?_; refine zV rfl rfl ?_) | refine zH ?_
    first | (refine zG ?_; refine zB rfl rfl (tyrow rfl) rfl ?_) | refine zH ?_
    first | refine zH ?_
    first | (refine zG ?_; refine zO rfl zJ ?_) | refine zH ?_
    refine zO rfl zP ?_; refine zN (zT (XA.condT rfl zY ?_)); refine zS (zR (zO rfl Rd.asg ?_)); refine zN (zT (XA.ret (DA.thn_ret ?_)))
    exact bodyA.ret (ResA.one rfl rfl) (Ent.nil _) ⟨false, rfl, hno (l = m) (fun h => by injection h) (fun h => hlm (by rw [h])), rfl, rfl⟩
end Go.Proofs.YthefnnkmpcgcmaaGreatDoor

namespace Go.Proofs.YthefnnkmpcgcmaaGreatDoor
open Go X
set_option maxHeartbeats 2000000
end Go.Proofs.YthefnnkmpcgcmaaGreatDoor

namespace Go.Proofs.YthefnnkmpcgcmaaGreatDoor
open Go X
set_option maxHeartbeats 4000000
def plit : ByteArray := ⟨#[108, 101, 116, 32, 97, 32, 50, 32, 40, 119, 104, 105, 108, 101, 32, 40, 108, 101, 115, 115, 32, 40, 118, 97, 114, 32, 97, 41, 32, 40, 110, 117, 109, 32, 51, 41, 41, 32, 40, 40, 115, 101, 116, 32, 97, 32, 40, 97, 100, 100, 32, 40, 118, 97, 114, 32, 97, 41, 32, 40, 110, 117, 109, 32, 49, 41, 41, 41, 41, 41]⟩
def pr0 : Pr := ⟨[⟨⟨#[97]⟩, 2⟩], [.mk 5 0 (.mk 7 0 0 [.mk 2 0 0 [], .mk 1 0 3 []]) zeroX [.mk 1 0 (.mk 4 0 0 [.mk 2 0 0 [], .mk 1 0 1 []]) zeroX [] []] []]⟩
theorem parse_lit : parseP plit = .ok pr0 := by kernel_rfl
theorem plit_t (σ : PH) (hT : Tab σ) (hE : Errs σ) : CallsA Tryz.prog 5 #[.string plit] σ [] (RetA fun v σ' Γ' => ∃ pv cv g o cb pb db, v = .tuple #[.agg #[.slice pv 1 cv, .slice (some ⟨g, o, none⟩) 1 cb], .agg #[i64 0, i64 0]] ∧ PRow σ' g (o + 2) [i64 7] ∧ PRow σ' g (o + 10) [.slice pb 1 db] ∧ σ.sub σ' ∧ Γ' = []) := by
  refine (parse_p σ plit (by decide) hT hE).mono fun e σ' Γ' h => ?_
  cases e with
  | returned v =>
    obtain ⟨cs, rfl, hp, hs, rfl⟩ := h
    rw [parse_lit] at hp
    obtain ⟨vs, bs, rfl, hv, hb⟩ := hp
    obtain ⟨pv, cv, rfl, -, -⟩ := hv.shape
    obtain ⟨pb, cb, rfl, -, -⟩ := hb.shape
    obtain ⟨g, o, row, rfl, hr, -, hrow⟩ := hb.at (k := 0) rfl
    obtain ⟨pe, de, pf, df, p, c, q, d, rfl, -⟩ := hr.inv12
    rw [Nat.zero_mul, Nat.add_zero] at hrow
    refine ⟨pv, cv, g, o, cb, p, c, by rw [parse_lit]; rfl, hrow.sub (j := 2) rfl, hrow.sub (j := 10) rfl, hs, rfl⟩
  | _ => exact False.elim h
theorem pbegun_a (σ : PH) (hT : Tab σ) (hE : Errs σ) : CallsA Tryz.prog 4 #[] σ [] (RetA fun v σ' Γ' => v = .bool true ∧ σ.sub σ' ∧ Γ' = []) := by
  refine enterA0 Tryz.func4 rfl rfl rfl ?_
  refine zS (zR (zO rfl Rd.asg ?_)); refine zN (zT (zS (zR ?_)))
  refine XOA.wr0 rfl (WrA.cE (plit_t σ hT hE) rfl) ?_
  rintro _ σ1 _ ⟨_, ⟨pv, cv, g, o, cb, pb, db, rfl, h1, h2, hs1, rfl⟩, rfl⟩
  refine XOA.cl ?_; refine zA rfl ?_; refine zO rfl (Rd.extract rfl rfl) ?_; refine zO rfl (Rd.extract rfl rfl) ?_
  refine XOA.wr0 rfl (WrA.alloc (tyrow rfl)) ?_
  rintro _ _ _ ⟨g1, rfl, rfl, rfl⟩
  refine XOA.wr0 rfl (WrA.alloc (tyrow rfl)) ?_
  rintro _ _ _ ⟨g2, rfl, rfl, rfl⟩
  refine XOA.wr0 rfl (WrA.st (tyrow rfl) rfl) ?_
  rintro _ _ _ ⟨rfl, rfl, rfl⟩
  refine XOA.wr0 rfl (WrA.st (tyrow rfl) rfl) ?_
  rintro _ _ _ ⟨rfl, rfl, rfl⟩
  refine zN (zT (zS (zR (zV rfl rfl ?_)))); refine zB rfl rfl (tyrow rfl) rfl ?_; refine zO rfl (Rd.eql rfl rfl) ?_; refine zA rfl ?_
  first | (refine zG ?_; refine zV rfl rfl ?_) | refine zH ?_
  first | (refine zG ?_; refine zB rfl rfl (tyrow rfl) rfl ?_) | refine zH ?_
  first | (refine zG ?_; refine zO rfl (Rd.lenSlice (tyrow rfl) rfl rfl) ?_) | refine zH ?_
  first | (refine zG ?_; refine zO rfl (Rd.eql rfl rfl) ?_) | refine zH ?_
  refine zO rfl zP ?_; refine zA rfl ?_
  first | (refine zG ?_; refine zV rfl rfl ?_) | refine zH ?_
  first | (refine zG ?_; refine zB rfl rfl (tyrow rfl) rfl ?_) | refine zH ?_
  first | (refine zG ?_; refine zO rfl (Rd.lenSlice (tyrow rfl) rfl rfl) ?_) | refine zH ?_
  first | (refine zG ?_; refine zO rfl (Rd.eql rfl rfl) ?_) | refine zH ?_
  refine zO rfl zP ?_; refine zA rfl ?_
  first | (refine zG ?_; refine zV rfl rfl ?_) | refine zH ?_
  first | (refine zG ?_; refine zB rfl rfl (tyrow rfl) rfl ?_) | refine zH ?_
  first | (refine zG ?_; refine zO rfl (Rd.ixS rfl rfl) ?_) | refine zH ?_
  first | (refine zG ?_; refine zV rfl rfl ?_) | refine zH ?_
  first | (refine zG ?_; refine zB rfl rfl (tyrow rfl) rfl ?_) | refine zH ?_
  first | (refine zG ?_; refine zO rfl (Rd.lenSlice (tyrow rfl) rfl rfl) ?_) | refine zH ?_
  first | (refine zG ?_; refine zO rfl (Rd.eql rfl rfl) ?_) | refine zH ?_
  refine zO rfl zP ?_; refine zA rfl ?_
  first | (refine zG ?_; refine zV rfl rfl ?_) | refine zH ?_
  first | (refine zG ?_; refine zB rfl rfl (tyrow rfl) rfl ?_) | refine zH ?_
  first | (refine zG ?_; refine zO rfl (Rd.ixS rfl rfl) ?_) | refine zH ?_
  first | (refine zG ?_; refine zV rfl rfl ?_) | refine zH ?_
  first | (refine zG ?_; refine zV rfl rfl ?_) | refine zH ?_
  first | (refine zG ?_; refine zB rfl rfl (tyrow rfl) rfl ?_) | refine zH ?_
  first | (refine zG ?_; refine zO rfl (Rd.eql rfl rfl) ?_) | refine zH ?_
  refine zO rfl zP ?_; refine zA rfl ?_
  first | refine XOA.wanted rfl rfl ?_ | refine XOA.wq rfl rfl ?_
  refine XOA.wr0 rfl (WrA.cE (word_p σ1 8) rfl) ?_
  rintro _ _ _ ⟨_, ⟨rfl, rfl, rfl⟩, rfl⟩
  refine XOA.cl ?_
  first | (refine zG ?_; refine zO rfl (Rd.eqls rfl rfl) ?_) | refine zH ?_
  refine zO rfl zP ?_; refine zA rfl ?_
  first | refine XOA.wanted rfl rfl ?_ | refine XOA.wq rfl rfl ?_
  refine XOA.wr0 rfl (WrA.cE (verb_p σ1 0) rfl) ?_
  rintro _ _ _ ⟨_, ⟨rfl, rfl, rfl⟩, rfl⟩
  refine XOA.cl ?_
  first | (refine zG ?_; refine zO rfl (Rd.eqls rfl rfl) ?_) | refine zH ?_
  refine zO rfl zP ?_; refine zO rfl Rd.asg ?_; refine zN (zT (XA.ret ?_))
  exact bodyA.ret (ResA.one rfl rfl) (Ent.nil _) ⟨rfl, hs1, rfl⟩
end Go.Proofs.YthefnnkmpcgcmaaGreatDoor

namespace Go.Proofs.YthefnnkmpcgcmaaGreatDoor
open Go X
set_option maxHeartbeats 4000000
theorem X.Rd.eqFault {ρ : Env} {S : Heap → Prop} {ty : TypeId} {T' : TypeId} {x y : Operand} {a b c e : Int} (hx : ev ρ x = .agg #[i64 a, i64 b]) (hy : ev ρ y = .agg #[i64 c, i64 e]) : Rd Tryz.prog ρ S (.binOp .eql 28 x y T') ty (.bool (decide (a = c ∧ b = e))) := by
  refine .pure fun d pos af gd w => ?_
  have h2 : (eqGuard .eql 28 x y (.agg #[i64 a, i64 b]) (.agg #[i64 c, i64 e])).run Tryz.prog w = .ok () w := run_eqGuard_agg w _ _ _ _ _ _ (by kernel_rfl)
  have h3 : (binOp .eql 28 (.agg #[i64 a, i64 b]) (.agg #[i64 c, i64 e])).run Tryz.prog w = .ok (.bool (decide (a = c ∧ b = e))) w := by
    rw [run_eql_struct]
    rw [X.run_equal_fault (a := a) (b := b) w]
    simp
  simp only [execOp, hx, hy, Sem.run_bind, h2, h3, Result.andThen_ok, Sem.run_pure]
theorem X.Rd.eqFaultT {ρ : Env} {S : Heap → Prop} {ty : TypeId} {T' : TypeId} {x y : Operand} {a b : Int} (hx : ev ρ x = .agg #[i64 a, i64 b]) (hy : ev ρ y = .agg #[i64 a, i64 b]) : Rd Tryz.prog ρ S (.binOp .eql 28 x y T') ty (.bool true) := by
  have := X.Rd.eqFault (S := S) (ty := ty) (T' := T') hx hy
  rwa [decide_eq_true (⟨rfl, rfl⟩ : a = a ∧ b = b)] at this
end Go.Proofs.YthefnnkmpcgcmaaGreatDoor

namespace Go.Proofs.YthefnnkmpcgcmaaGreatDoor
open Go X
set_option maxHeartbeats 4000000
theorem X.Rd.eqlsT {P : Program} {ρ : Env} {S : Heap → Prop} {ty : TypeId} {T T' : TypeId} {x y : Operand} {a : ByteArray} (hx : ev ρ x = .string a) (hy : ev ρ y = .string a) : Rd P ρ S (.binOp .eql T x y T') ty (.bool true) := by
  have := Rd.eqls (P := P) (S := S) (ty := ty) (T := T) (T' := T') hx hy
  rwa [decide_eq_true rfl] at this
theorem preads_law (σ : PH) (s : ByteArray) (k : Int) (hT : Tab σ) (hE : Errs σ) : CallsA Tryz.prog 3 #[.string s, i64 k] σ [] (RetA fun r σ' _ => r = .bool true ∧ σ.sub σ') := by
  refine enterA2 Tryz.func3 rfl rfl rfl ?_
  refine zS (zR (zO rfl Rd.asg ?_)); refine zN (zT (zS (zS (zR ?_))))
  refine XOA.wr0 rfl (WrA.cE (pbegun_a σ hT hE) rfl) ?_
  rintro _ σ1 _ ⟨_, ⟨rfl, hs1, rfl⟩, rfl⟩
  refine XOA.cl ?_
  have hT1 := hT.mono hs1
  have hE1 := hE.mono hs1
  refine zO rfl zJ ?_; refine zN (zT (XA.condF rfl rfl (XA.skip (zT (zS (zS (zR (zA rfl ?_)))))))); refine zO rfl (Rd.lenString (tyrow rfl) rfl rfl) ?_; refine zO rfl (Rd.gtr rfl rfl) ?_; refine zN (zT ?_)
  refine XA.condp rfl (fun hq => ?_) (fun hq => ?_)
  · refine zS ?_
    refine zR (zO rfl Rd.asg ?_); refine zN (zT (XA.ret (DA.thn_ret ?_)))
    exact bodyA.ret (ResA.one rfl rfl) (Ent.nil _) ⟨rfl, hs1⟩
  refine XA.skip (zT (zS (zR (zA rfl ?_))))
  refine XOA.wr0 rfl (WrA.cE (parse_p σ1 s (by omega) hT1 hE1) rfl) ?_
  rintro _ σ2 _ ⟨_, ⟨cs, rfl, hp, hs2, rfl⟩, rfl⟩
  refine XOA.cl ?_
  have hp0 := hp
  obtain ⟨vs, bs, rfl, hva, hba⟩ := hp0
  obtain ⟨pva, cva, rfl, -, -⟩ := hva.shape
  obtain ⟨pba, cba, rfl, -, -⟩ := hba.shape
  have hT2 := hT1.mono hs2
  have hE2 := hE1.mono hs2
  refine zA rfl ?_; refine zO rfl (Rd.extract rfl rfl) ?_; refine zO rfl (Rd.extract rfl rfl) ?_
  refine XOA.wr0 rfl (WrA.alloc (tyrow rfl)) ?_
  rintro _ _ _ ⟨g5, rfl, rfl, rfl⟩
  refine XOA.wr0 rfl (WrA.alloc (tyrow rfl)) ?_
  rintro _ _ _ ⟨g6, rfl, rfl, rfl⟩
  refine XOA.wr0 rfl (WrA.st (tyrow rfl) rfl) ?_
  rintro _ _ _ ⟨rfl, rfl, rfl⟩
  refine XOA.wr0 rfl (WrA.st (tyrow rfl) rfl) ?_
  rintro _ _ _ ⟨rfl, rfl, rfl⟩
  refine zN (zT (zS (zR (zA rfl ?_))))
  refine XOA.wr0 rfl (WrA.cE (rparse_p σ2 s (by omega) hT2 hE2) rfl) ?_
  rintro _ σ3 _ ⟨_, ⟨cs', rfl, hp', hs3, rfl⟩, rfl⟩
  refine XOA.cl ?_
  have hp3 := hp.mono hs3
  have hp0' := hp'
  obtain ⟨vs', bs', rfl, hva', hba'⟩ := hp0'
  obtain ⟨pva', cva', rfl, -, -⟩ := hva'.shape
  obtain ⟨pba', cba', rfl, -, -⟩ := hba'.shape
  refine zA rfl ?_; refine zO rfl (Rd.extract rfl rfl) ?_; refine zO rfl (Rd.extract rfl rfl) ?_
  refine XOA.wr0 rfl (WrA.alloc (tyrow rfl)) ?_
  rintro _ _ _ ⟨g7, rfl, rfl, rfl⟩
  refine XOA.wr0 rfl (WrA.alloc (tyrow rfl)) ?_
  rintro _ _ _ ⟨g8, rfl, rfl, rfl⟩
  refine XOA.wr0 rfl (WrA.st (tyrow rfl) rfl) ?_
  rintro _ _ _ ⟨rfl, rfl, rfl⟩
  refine XOA.wr0 rfl (WrA.st (tyrow rfl) rfl) ?_
  rintro _ _ _ ⟨rfl, rfl, rfl⟩
  refine zN (zT (zS (zR (zO rfl (Rd.ldA rfl) ?_)))); refine zO rfl (Rd.ldA rfl) ?_; refine zO rfl (X.Rd.eqFaultT rfl rfl) ?_; refine zA rfl ?_
  first | (refine zG ?_; refine zO rfl (Rd.ldA rfl) ?_) | refine zH ?_
  first | (refine zG ?_; refine zO rfl (Rd.ldA rfl) ?_) | refine zH ?_
  first | refine XOA.wanted rfl rfl ?_ | refine XOA.wq rfl rfl ?_
  refine XOA.wr0 rfl (WrA.cE (rsame_a σ3 _ _ _ _ hp3 hp') rfl) ?_
  rintro _ _ _ ⟨_, ⟨b, rfl, hb1, rfl, rfl⟩, rfl⟩
  refine XOA.cl ?_
  obtain rfl : b = true := hb1.2 rfl
  refine zO rfl zP ?_; refine zA rfl ?_
  first | (refine zG ?_; refine zA rfl ?_) | refine zH ?_
  first | refine XOA.wanted rfl rfl ?_ | refine XOA.wq rfl rfl ?_
  refine XOA.wr0 rfl (WrA.cE (word_p σ3 k) rfl) ?_
  rintro _ _ _ ⟨_, ⟨rfl, rfl, rfl⟩, rfl⟩
  refine XOA.cl ?_
  first | (refine zG ?_; refine zA rfl ?_) | refine zH ?_
  first | refine XOA.wanted rfl rfl ?_ | refine XOA.wq rfl rfl ?_
  refine XOA.wr0 rfl (WrA.cE (rword_p σ3 k) rfl) ?_
  rintro _ _ _ ⟨_, ⟨rfl, rfl, rfl⟩, rfl⟩
  refine XOA.cl ?_
  first | refine XOA.wanted rfl rfl ?_ | refine XOA.wq rfl rfl ?_
  refine zO rfl (X.Rd.eqlsT rfl rfl) ?_; refine zO rfl zP ?_; refine zA rfl ?_
  first | (refine zG ?_; refine zA rfl ?_) | refine zH ?_
  first | refine XOA.wanted rfl rfl ?_ | refine XOA.wq rfl rfl ?_
  refine XOA.wr0 rfl (WrA.cE (verb_p σ3 k) rfl) ?_
  rintro _ _ _ ⟨_, ⟨rfl, rfl, rfl⟩, rfl⟩
  refine XOA.cl ?_
  first | (refine zG ?_; refine zA rfl ?_) | refine zH ?_
  first | refine XOA.wanted rfl rfl ?_ | refine XOA.wq rfl rfl ?_
  refine XOA.wr0 rfl (WrA.cE (rverb_p σ3 k) rfl) ?_
  rintro _ _ _ ⟨_, ⟨rfl, rfl, rfl⟩, rfl⟩
  refine XOA.cl ?_
  first | refine XOA.wanted rfl rfl ?_ | refine XOA.wq rfl rfl ?_
  refine zO rfl (X.Rd.eqlsT rfl rfl) ?_; refine zO rfl zP ?_; refine zO rfl Rd.asg ?_; refine zN (zT (XA.ret ?_))
  exact bodyA.ret (ResA.one rfl rfl) (Ent.nil _) ⟨rfl, hs1.trans (hs2.trans hs3)⟩
end Go.Proofs.YthefnnkmpcgcmaaGreatDoor

namespace Go.Proofs.YthefnnkmpcgcmaaGreatDoor
open Go X Go.RowKit
set_option maxHeartbeats 1000000
abbrev laid5 : List (String × DataW Unit) := [("math/bits.deBruijn32tab", Rows.laid_math_bits_deBruijn32tab), ("math/bits.deBruijn64tab", Rows.laid_math_bits_deBruijn64tab), ("internal/strconv.uint64pow10", Rows.laid_internal_strconv_uint64pow10), ("strconv.ErrRange", Rows.laid_strconv_ErrRange), ("strconv.ErrSyntax", Rows.laid_strconv_ErrSyntax)]
theorem star : "*" ++ "errors.errorString" = "*errors.errorString" := by decide
theorem errRow (u : TypeId) (h : Tryz.prog.typeName? 3 u = some "*errors.errorString") : u = 136 :=
  typeName_ptr_named (nm := "errors.errorString") (by rw [star]; kernel_rfl) (by kernel_rfl) (by decide) u (by rw [star]; exact h)
theorem var_le {W w : World} {n : String} {cs : Array Value} (hw : (ofHeap W.heap).le w.heap) (h : W.var? Tryz.prog n = some cs) : w.var? Tryz.prog n = some cs := by
  unfold World.var? at h ⊢
  cases hg : Tryz.prog.globalNamed n with
  | none => simp [hg] at h
  | some g =>
    simp only [hg, Option.bind_some] at h ⊢
    cases ho : W.heap[g]? with
    | none => simp [ho] at h
    | some o =>
      have := hw g o ho
      rw [this]
      rw [ho] at h
      exact h
theorem var_row {W : World} {n : String} {g : Nat} {cs : Array Value} (hg : Tryz.prog.globalNamed n = some g) (h : W.var? Tryz.prog n = some cs) : PRow (ofHeap W.heap) g 0 cs.toList := by
  unfold World.var? at h
  simp only [hg, Option.bind_some] at h
  split at h
  · rename_i cs' T fr he
    cases h
    exact ⟨_, _, _, he, by rw [List.drop_zero]; exact List.take_of_length_le (Nat.le_refl _)⟩
  · cases h
theorem list1 {α : Type} {l : List α} (h : l.length = 1) : ∃ a, l = [a] := by
  match l, h with
  | [a], _ => exact ⟨a, rfl⟩
theorem errField : ∃ f : Field, Tryz.prog.underlying 138 = some (.struct #[f]) ∧ f.type = 9 ∧ f.offset = 0 := by
  have hu : Tryz.prog.underlying 138 = some (.struct (Tryz.prog.fieldsOf 138)) := by kernel_rfl
  have hf : (Tryz.prog.fieldsOf 138).toList.map (fun f => (f.type, f.offset)) = [(9, 0)] := by kernel_rfl
  obtain ⟨f, hl⟩ := list1 (l := (Tryz.prog.fieldsOf 138).toList) (by simpa using congrArg List.length hf)
  rw [hl] at hf
  simp only [List.map_cons, List.map_nil, List.cons.injEq, Prod.mk.injEq, and_true] at hf
  refine ⟨f, ?_, hf.1, hf.2⟩
  rw [hu, ← Array.toArray_toList (xs := Tryz.prog.fieldsOf 138), hl]
theorem laid_facts {W : World} (h : laidMet Tryz.prog laid5 W) : Tab (ofHeap W.heap) ∧ Errs (ofHeap W.heap) := by
  have ht := Lib.tabIs_of_head (P := Tryz.prog) (W := W) (k := .u64) (zs := Lib.pow10Tab) (g := 2) (t := 131) (e := 112) (n := 20) (by kernel_rfl) (by kernel_rfl) (by kernel_rfl) (by kernel_rfl) (by kernel_rfl) (by kernel_rfl) h.tail.tail
  obtain ⟨f, hf1, hf2, hf3⟩ := errField
  obtain ⟨a1, s1, hv1, -, -, -⟩ := laid_sentinel h.tail.tail.tail (g := 1) (by kernel_rfl) (ti := 94) (by kernel_rfl) err_if.choose_spec errRow (te := 138) (by kernel_rfl) hf1 hf2 hf3 (by kernel_rfl) (by kernel_rfl) (by kernel_rfl)
  obtain ⟨a2, s2, hv2, -, -, -⟩ := laid_sentinel h.tail.tail.tail.tail (g := 0) (by kernel_rfl) (ti := 94) (by kernel_rfl) err_if.choose_spec errRow (te := 138) (by kernel_rfl) hf1 hf2 hf3 (by kernel_rfl) (by kernel_rfl) (by kernel_rfl)
  refine ⟨fun w hw => ?_, _, _, var_row (by kernel_rfl) hv2, .inr ⟨_, _, rfl⟩, var_row (by kernel_rfl) hv1, .inr ⟨_, _, rfl⟩⟩
  unfold Lib.TabIs at ht ⊢
  exact var_le hw ht
abbrev synS : ByteArray := { data := #[105, 110, 118, 97, 108, 105, 100, 32, 115, 121, 110, 116, 97, 120] }
abbrev rngS : ByteArray := { data := #[118, 97, 108, 117, 101, 32, 111, 117, 116, 32, 111, 102, 32, 114, 97, 110, 103, 101] }
noncomputable def low : Nat := (World.holding Tryz.prog default ⟨#[], #[], []⟩).heap.size
def setCells (cs : Array Value) : Obj → Obj
  | .cells _ t frozen => .cells cs t frozen
  | o => o
def tabOf (d : DataW Unit) : Array Value := match d with
  | .agg l => (l.map fun d => match d with | .lit (.int k z) => Value.int k z | _ => undef).toArray
  | _ => #[]
/-- The settled world with the listed variables as their initialisers lay them. -/
noncomputable def laidWorld (os : Os) : World :=
  let w0 := World.holding Tryz.prog os ⟨#[.cells #[.string synS] 138, .cells #[.string rngS] 138], #[], []⟩
  { w0 with heap := ((((w0.heap.modify 0 (setCells #[.iface 136 (.pointer (some ⟨low, 0, none⟩))])).modify 1 (setCells #[.iface 136 (.pointer (some ⟨low + 1, 0, none⟩))])).modify 2 (setCells (tabOf Rows.laid_internal_strconv_uint64pow10))).modify
      3 (setCells (tabOf Rows.laid_math_bits_deBruijn32tab))).modify 4 (setCells (tabOf Rows.laid_math_bits_deBruijn64tab)) }
set_option maxRecDepth 100000 in
theorem laidWorld_met (os : Os) (args : Array Value) : laidMet Tryz.prog laid5 ((laidWorld os).forCall (fun _ _ => 0) ⟨#[], args, []⟩).memory :=
  laidMet_of_run' 8 (by kernel_rfl) (by kernel_rfl)
end Go.Proofs.YthefnnkmpcgcmaaGreatDoor

namespace Go.Proofs.YthefnnkmpcgcmaaGreatDoor
open Go X Go.ChangeShapes Go.WideShapes Go.ChangeAt Go.RowKit
open Go.ChangeMaps (open_string shut_string)
set_option maxRecDepth 100000 in
theorem parseReads_lifted (os : Os) (started : os.Started) (H : Type) (enc : TypeId × Value → H) :
    ReturnsInHanded {} Tryz.checked os 3 .any (fun w args => (Rows.parseReadsSpec.pre enc Tryz.prog Tryz.f3 Rows.parseReadsRow.domain false w args ∧ laidMet Tryz.prog laid5 w) ∧ sizedMet enc Tryz.prog Tryz.f3 (OpenSpec.ofChange Rows.parseReadsSpec) false w args)
      (Rows.parseReadsSpec.post enc Tryz.prog Tryz.f3 false true false false) := by
  refine returnsInHanded_of_change_and (C := Tryz.checked) (X := fun w _ => laidMet Tryz.prog laid5 w) (fun _ _ _ hh h => h.of_heap hh) Tryz.own started (by kernel_rfl) Tryz.func3
    (ChangeSpec.witness_at (enc := enc) (C := Tryz.checked) (os := os) (X := fun w _ => laidMet Tryz.prog laid5 w) false (laidWorld os) #[.string ⟨#[]⟩, .int .i64 0] 8 rfl (by kernel_rfl) (by kernel_rfl) (by kernel_rfl) (by kernel_rfl) (by kernel_rfl) (laidWorld_met os _)) ?_
  intro W base args ds gs before hval0 hW _ _ hL _
  have hval : ∀ (j : Nat) t v, Tryz.f3.params[j]? = some t → args[j]? = some v → Value.okWide Tryz.prog W .any base t v := hval0
  have hW' := hW
  obtain ⟨p, q, hA0, hV, rfl, hfz, hnd⟩ := hW
  have hA : DataW.TrodAll enc Tryz.prog W 0 (fun _ => true) true [9, 3] args.toList ds p := hA0
  obtain ⟨v0, v1, d0, d1, p0, p1, rfl, rfl, rfl, h0, h1⟩ := trodAll_two hA
  have hb : Tryz.prog.underlying 4 = some .bool := by kernel_rfl
  refine post_true (fid := 3) (tb := 4) Tryz.laidOut (by kernel_rfl) rfl rfl hb ?_ hW' (callsX_true ?_)
  · obtain ⟨rfl, rfl⟩ := trodVars_none hV; rfl
  · obtain ⟨s, rfl, -, -, -⟩ := open_string (by kernel_rfl : Tryz.prog.underlying 9 = some .string) (hval 0 _ v0 rfl rfl) h0
    obtain ⟨n1, e1, ln1, un1⟩ := (Dec.int (tyrow rfl) rfl).one (tyrow rfl) rfl (hval 1 _ v1 rfl rfl) h1 rInt_one
    simp only [List.cons.injEq, and_true] at e1
    subst e1
    obtain ⟨hT, hE⟩ := laid_facts hL
    exact preads_law _ s n1 hT hE
theorem parseReads_row : Rows.ParseReadsSaid :=
  OpenClaim.holds_of_wide 3 Tryz.f3 rfl rfl rfl rfl rfl rfl rfl ⟨rfl, rfl, rfl, rfl, rfl⟩ rfl rfl rfl rfl rfl (by kernel_rfl) Tryz.func3 (by kernel_rfl)
    (of_decide_eq_true (by kernel_rfl)) (by unfold Func.isWrapper; first | (rw [if_pos (by decide +kernel)]; kernel_rfl) | (rw [if_neg (by decide +kernel)]; exact ⟨rfl, rfl⟩))
    (fun os started H enc _ => parseReads_lifted os started H enc)
theorem parseReads_holds : Rows.ParseReadsCardSaid :=
  Claim7.holds_tied_plain_at .later [] [.data, .data, .data, .sentinel, .sentinel] true (true, "95a2f52bcd5c1ee59a1891b6bc5c6ec1b99b7fc3ee4aa3734ab42fb222535df0") true
    parseReads_row (fun _ h => by cases h) (by kernel_rfl) (fun _ h => by cases h) parseReads_row_tie rfl ⟨rfl, rfl⟩ (by kernel_rfl) rfl
    (fun f fn hf hfn => by
      obtain rfl : f = 3 := Option.some.inj ((show Tryz.prog.funcNamed "overwinter/overwinterlaw.ParseReads" = some 3 by kernel_rfl).symm.trans hf) |>.symm
      obtain rfl : fn = Tryz.f3 := (Option.some.inj (Tryz.func3.symm.trans hfn)).symm
      exact ⟨by kernel_rfl, fun j t ht => by
        have hm : t ∈ [9, 3] := by simpa using Array.mem_of_getElem? ht
        have hall : ([9, 3].all fun u => !Tryz.prog.wantsStandIn u) = true := by kernel_rfl
        exact (show Tryz.prog.wantsStandIn t = false by simpa using List.all_eq_true.1 hall t hm)⟩)
    (by kernel_rfl)
end Go.Proofs.YthefnnkmpcgcmaaGreatDoor

