/- Part 3 of 4 of what the claim needs: Re, Rf, Rg, Rh, Te, Tf, Th, Rj, Rk, Rl, Ti, Tj, CdB. -/
import Derived.Test.YthefnnkmpcgcmaaDoorPb2
namespace Go.Proofs.YthefnnkmpcgcmaaDoor
open Go X
set_option maxHeartbeats 4000000
set_option maxRecDepth 4000
def ExprPOK (vl : List Va) (e : Int) (f : Nat) : Prop := ∀ (σ : PH) (b : Nat) (p : Option Addr) (c : Nat) (pv : Option Addr) (cv : Nat) (l : List Tk) (d : Int), PSl 2 rVa σ (.slice pv vl.length cv) vl → PSl 4 rTk σ (.slice p l.length c) l → (∀ t ∈ l, TkF t) → d + f = 13 → 0 ≤ d →
  CallsA Tryd.prog 89 #[ptr b, i64 d] σ [blk b [.slice p l.length c, i64 e, .slice pv vl.length cv] 83] (EndA
    (fun v σ' Γ' => ∃ x l', exprP vl e f l = .ok (x, l') ∧ ∃ cs p' c', v = .agg (List.toArray cs) ∧ ExAt σ' cs x ∧ PSl 4 rTk σ' (.slice p' l'.length c') l' ∧ σ.sub σ' ∧ Γ' = [blk b [.slice p' l'.length c', i64 e, .slice pv vl.length cv] 83])
    (fun ch σ' Γ' => ∃ x, exprP vl e f l = .error x ∧ ch = goneP x ∧ σ.sub σ' ∧ ∃ cs, Γ' = [blk b cs 83]))
theorem ExprPOK.ok {vl : List Va} {e : Int} {f : Nat} (h : ExprPOK vl e f) {σ : PH} {b : Nat} {p : Option Addr} {c : Nat} {pv : Option Addr} {cv : Nat} {l : List Tk} {d : Int} (hv : PSl 2 rVa σ (.slice pv vl.length cv) vl) (hl : PSl 4 rTk σ (.slice p l.length c) l) (hF : ∀ t ∈ l, TkF t) (hd : d + f = 13) (hd0 : 0 ≤ d) {x : Ex} {l' : List Tk} (ho : exprP vl e f l = .ok (x, l')) :
    CallsA Tryd.prog 89 #[ptr b, i64 d] σ [blk b [.slice p l.length c, i64 e, .slice pv vl.length cv] 83] (RetA fun v σ' Γ' => ∃ cs p' c', v = .agg (List.toArray cs) ∧ ExAt σ' cs x ∧ PSl 4 rTk σ' (.slice p' l'.length c') l' ∧ σ.sub σ' ∧ Γ' = [blk b [.slice p' l'.length c', i64 e, .slice pv vl.length cv] 83]) := by
  refine (h σ b p c pv cv l d hv hl hF hd hd0).mono fun en σ' Γ' hr => ?_
  cases en with
  | returned v =>
    obtain ⟨x', l'', h1, h2⟩ := hr
    rw [ho] at h1
    cases h1
    exact h2
  | panicked ch => obtain ⟨x', h1, -⟩ := hr; rw [ho] at h1; cases h1
  | outgrown => exact False.elim hr
theorem ExprPOK.bad {vl : List Va} {e : Int} {f : Nat} (h : ExprPOK vl e f) {σ : PH} {b : Nat} {p : Option Addr} {c : Nat} {pv : Option Addr} {cv : Nat} {l : List Tk} {d : Int} (hv : PSl 2 rVa σ (.slice pv vl.length cv) vl) (hl : PSl 4 rTk σ (.slice p l.length c) l) (hF : ∀ t ∈ l, TkF t) (hd : d + f = 13) (hd0 : 0 ≤ d) {x : Int × Int} (ho : exprP vl e f l = .error x) :
    CallsA Tryd.prog 89 #[ptr b, i64 d] σ [blk b [.slice p l.length c, i64 e, .slice pv vl.length cv] 83] (PanA fun ch σ' Γ' => ch = goneP x ∧ σ.sub σ' ∧ ∃ cs, Γ' = [blk b cs 83]) := by
  refine (h σ b p c pv cv l d hv hl hF hd hd0).mono fun en σ' Γ' hr => ?_
  cases en with
  | returned v => obtain ⟨x', l'', h1, -⟩ := hr; rw [ho] at h1; cases h1
  | panicked ch =>
    obtain ⟨x', h1, h2⟩ := hr
    rw [ho] at h1
    cases h1
    exact h2
  | outgrown => exact False.elim hr
theorem numP_err {e : Int} {l : List Tk} {x : Int × Int} (h : numP e l = .error x) : x = failAt e l 5 ∧ ∀ t r, l = t :: r → t.num = false := by
  cases l with
  | nil => cases h; exact ⟨rfl, fun t r q => by cases q⟩
  | cons t r =>
    rw [numP] at h
    split at h
    · cases h
    · rename_i hn; cases h; exact ⟨rfl, fun t' r' q => by cases q; simpa using hn⟩
theorem numP_ok {e : Int} {l l' : List Tk} {n : Int} (h : numP e l = .ok (n, l')) : ∃ t, l = t :: l' ∧ t.num = true ∧ t.n = n := by
  cases l with
  | nil => cases h
  | cons t r =>
    rw [numP] at h
    split at h
    · rename_i hn; cases h; exact ⟨t, rfl, hn, rfl⟩
    · cases h
theorem varP_err {vl : List Va} {e : Int} {l : List Tk} {x : Int × Int} (h : varP vl e l = .error x) : (x = failAt e l 5 ∧ ∀ t r, l = t :: r → nameOk t.text = false) ∨ ∃ t r, l = t :: r ∧ x = failAt e (t :: r) 10 ∧ nameOk t.text = true ∧ idxG t.text vl 0 = none := by
  cases l with
  | nil => cases h; exact .inl ⟨rfl, fun t r q => by cases q⟩
  | cons t r =>
    rw [varP] at h
    split at h
    · rename_i hn
      cases hi : idxG t.text vl 0 with
      | some i => rw [hi] at h; cases h
      | none => rw [hi] at h; cases h; exact .inr ⟨t, r, rfl, rfl, hn, hi⟩
    · rename_i hn; cases h; exact .inl ⟨rfl, fun t' r' q => by cases q; simpa using hn⟩
theorem varP_ok {vl : List Va} {e : Int} {l l' : List Tk} {v : Int} (h : varP vl e l = .ok (v, l')) : ∃ t i, l = t :: l' ∧ v = ((i : Nat) : Int) ∧ nameOk t.text = true ∧ idxG t.text vl 0 = some i := by
  cases l with
  | nil => cases h
  | cons t r =>
    rw [varP] at h
    split at h
    · rename_i hn
      cases hi : idxG t.text vl 0 with
      | some i => rw [hi] at h; cases h; exact ⟨t, i, rfl, rfl, hn, hi⟩
      | none => rw [hi] at h; cases h
    · cases h
theorem partsOf_le (k : Int) : partsOf k ≤ 2 := by rw [partsOf]; split; (decide); split; (decide); split <;> decide
theorem partsOf_ge {k : Int} (h1 : 1 ≤ k) (h2 : k ≤ 8) : 0 ≤ partsOf k := by
  rw [partsOf]; split; (decide); split; (decide); rw [if_pos (by omega)]; decide
theorem X.PSl.len_le {α : Type} {s n c : Nat} {R : RT α} {σ : PH} {p : Option Addr} {xs : List α} (h : PSl s R σ (.slice p n c) xs) : xs.length ≤ 9223372036854775807 := by
  obtain ⟨p', c', -, h1, h2⟩ := h.shape
  simp only [maxLen] at h2; omega
theorem expr_p (vl : List Va) (e : Int) : ∀ f : Nat, ExprPOK vl e f
  | 0 => by
    intro σ b p c pv cv l d hv hl hF hd hd0
    have hd : d = 13 := by simpa using hd
    subst hd
    refine enterA2 Tryd.func89 rfl rfl rfl ?_
    refine zS (zR ?_)
    refine XOA.wr0 rfl (WrA.alloc (tyrow rfl)) ?_
    rintro _ _ _ ⟨g4, rfl, rfl, rfl⟩
    refine zN (zT (zS (zR (zA rfl ?_)))); refine zA rfl ?_
    refine XOA.die rfl (deep_bad σ b p c e _ 13 l hl (by decide)) rfl ?_
    rintro _ _ _ ⟨rfl, rfl, rfl⟩
    refine DA.cl ?_
    repeat (first | refine DA.thn_panic ?_ | refine DA.inb_panic ?_)
    exact bodyA.panic zE ⟨_, rfl, rfl, .refl _, _, rfl⟩
  | f + 1 => by
    intro σ b p c pv cv l d hv hl hF hd hd0
    have ih := expr_p vl e f
    have hd1 : d ≤ 12 := by omega
    have hd2 : -9223372036854775808 ≤ d + 1 := by omega
    obtain ⟨R, hR⟩ : ∃ R, exprP vl e (f + 1) l = R := ⟨_, rfl⟩
    have hR0 := hR
    rw [exprP] at hR
    refine enterA2 Tryd.func89 rfl rfl rfl ?_
    refine zS (zR ?_)
    refine XOA.wr0 rfl (WrA.alloc (tyrow rfl)) ?_
    rintro _ _ _ ⟨g4, rfl, rfl, rfl⟩
    refine zN (zT (zS (zR (zA rfl ?_)))); refine zA rfl ?_
    refine XOA.wr0 rfl (WrA.cE (deep_ok σ b d _ hd1) rfl) ?_
    rintro _ _ _ ⟨_, ⟨rfl, rfl, rfl⟩, rfl⟩
    refine XOA.cl ?_; refine zN (zT (zS (zR (zA rfl ?_))))
    cases hq : isT lpar l with
    | false =>
      rw [if_neg (by rw [hq]; exact Bool.noConfusion)] at hR
      refine XOA.die rfl (want_bad σ b p c e _ l lpar hl hq) rfl ?_
      rintro _ _ _ ⟨rfl, rfl, rfl⟩
      refine DA.cl ?_
      repeat (first | refine DA.thn_panic ?_ | refine DA.inb_panic ?_)
      exact bodyA.panic zE ⟨_, hR0.trans hR.symm, rfl, .refl _, _, rfl⟩
    | true =>
      obtain ⟨t1, l1, rfl⟩ := isT_cons hq
      rw [if_pos hq, List.tail_cons] at hR
      refine XOA.wr0 rfl (WrA.cE (want_ok σ b p c e _ t1 l1 lpar hl hq) rfl) ?_
      rintro _ _ _ ⟨_, ⟨rfl, p1, c1, hl1, rfl, rfl⟩, rfl⟩
      refine XOA.cl ?_; refine zN (zT (zS (zR (zA rfl ?_))))
      cases hk : pickT wordOf 8 l1 with
      | none =>
        rw [hk] at hR
        refine XOA.die rfl (pick_bad σ b p1 c1 e _ 39 wordOf word_p 8 (by decide) l1 hl1 (fun j a b => pickG_none 8 1 hk j a (by omega))) rfl ?_
        rintro _ _ _ ⟨rfl, rfl, rfl⟩
        refine DA.cl ?_
        repeat (first | refine DA.thn_panic ?_ | refine DA.inb_panic ?_)
        exact bodyA.panic zE ⟨_, hR0.trans hR.symm, rfl, .refl _, _, rfl⟩
      | some k =>
        rw [hk] at hR
        simp only at hR
        obtain ⟨k1, k2, k3, k4⟩ := pickG_some 8 1 hk
        have k2 : k ≤ 8 := by omega
        obtain ⟨t2, l2, rfl⟩ := isT_cons k3
        rw [List.tail_cons] at hR
        have hF2 : ∀ t ∈ l2, TkF t := fun t ht => hF t (by simp [ht])
        refine XOA.wr0 rfl (WrA.cE (pick_ok σ b p1 c1 e _ 39 wordOf word_p 8 k (by decide) t2 l2 hl1 k1 k2 k3 k4) rfl) ?_
        rintro _ _ _ ⟨_, ⟨rfl, p2, c2, hl2, rfl, rfl⟩, rfl⟩
        refine XOA.cl ?_
        refine zO rfl (Rd.bl (fun _ _ => tyrow) rfl rfl rfl) ?_
        refine XOA.wr0 rfl (WrA.alloc (tyrow rfl)) ?_
        rintro _ _ _ ⟨g5, rfl, rfl, rfl⟩
        refine XOA.wr0 rfl (WrA.st (tyrow rfl) rfl) ?_
        rintro _ _ _ ⟨rfl, rfl, rfl⟩
        refine zN (zT (zS (zS (zR (zV rfl rfl ?_))))); refine zB rfl rfl (tyrow rfl) rfl ?_; refine zN (zT (XA.block (zS (zR (zO rfl (Rd.eql rfl rfl) ?_))))); refine zO rfl Rd.asg ?_; refine zN (zT ?_)
        by_cases q1 : k = 1
        · subst q1
          rw [headP, if_pos rfl] at hR
          refine XA.condT rfl rfl (zR (zA rfl ?_))
          cases hn : numP e l2 with
          | error x =>
            rw [hn] at hR
            simp only at hR
            have hx : x = failAt e l2 5 ∧ ∀ t r, l2 = t :: r → t.num = false := numP_err hn
            obtain ⟨rfl, hx⟩ := hx
            refine XOA.die rfl (num_bad σ b p2 c2 e _ l2 hl2 hx) rfl ?_
            rintro _ _ _ ⟨rfl, rfl, rfl⟩
            refine DA.cl ?_
            repeat (first | refine DA.thn_panic ?_ | refine DA.inb_panic ?_)
            exact bodyA.panic zE ⟨_, hR0.trans hR.symm, rfl, .refl _, _, rfl⟩
          | ok y =>
            obtain ⟨n3, l3⟩ := y
            rw [hn] at hR
            simp only at hR
            obtain ⟨t3, rfl, h3, rfl⟩ := numP_ok hn
            have hF3 : ∀ t ∈ l3, TkF t := fun t ht => hF2 t (by simp [ht])
            refine XOA.wr0 rfl (WrA.cE (num_ok σ b p2 c2 e _ t3 l3 hl2 h3) rfl) ?_
            rintro _ _ _ ⟨_, ⟨rfl, p3, c3, hl3, rfl, rfl⟩, rfl⟩
            refine XOA.cl ?_; refine zV rfl rfl ?_
            refine XOA.wr0 rfl (WrA.st (tyrow rfl) rfl) ?_
            rintro _ _ _ ⟨rfl, rfl, rfl⟩
            refine zN (DA.inb_normal (zT (zS (zS (zR (zV rfl rfl ?_)))))); refine zB rfl rfl (tyrow rfl) rfl ?_
            refine XOA.wr0 rfl (WrA.cE (parts_a σ ((1 : Nat) : Int)) rfl) ?_
            rintro _ _ _ ⟨_, ⟨rfl, rfl, rfl⟩, rfl⟩
            refine XOA.cl ?_; refine zA rfl ?_; refine zN (zT (XA.block ?_))
            obtain ⟨m, hm⟩ : ∃ m : Nat, partsOf ((1 : Nat) : Int) = m := ⟨(partsOf ((1 : Nat) : Int)).toNat, by have := partsOf_ge (k := ((1 : Nat) : Int)) (by omega) (by omega); omega⟩
            have hm2 : m ≤ 2 := by have := partsOf_le ((1 : Nat) : Int); omega
            rw [hm] at hR ⊢
            rw [Int.toNat_natCast] at hR
            obtain ⟨S, hS⟩ : ∃ S, subsA (exprP vl e f) m l3 [] = S := ⟨_, rfl⟩
            rw [hS] at hR
            refine XA.gen [(0, _), (1, _), (4, _), (5, _), (29, _), (30, _)] ⟨(by with_reducible (conv => lhs; whnf)), (by with_reducible (conv => lhs; whnf)), (by with_reducible (conv => lhs; whnf)), (by with_reducible (conv => lhs; whnf)), (by with_reducible (conv => lhs; whnf)), (by with_reducible (conv => lhs; whnf)), trivial⟩ (fun δ => ?_)
            dsimp only [List.foldl]
            refine XA.loop [(30, 41)] (fun i : Nat => [(30, i64 i)]) (fun i σ' Γ' => σ.sub σ' ∧ i ≤ m ∧ ∃ (lc : List Tk) (acc : List Ex) (pp : Option Addr) (pc : Nat) (pl : Option Addr) (cl : Nat) (rows : List (List Value)), S = subsA (exprP vl e f) (m - i) lc acc ∧ (∀ t ∈ lc, TkF t) ∧ acc.length = i ∧ PSl 4 rTk σ' (.slice pp lc.length pc) lc ∧ Rows_ 4 ExAt σ' rows acc ∧ Γ' = [lst 54 4 (.slice pl i cl) i rows.flatten, blk g5 [i64 ((1 : Nat) : Int), i64 0, i64 t3.n, .slice pl i cl] 54, blk b [.slice pp lc.length pc, i64 e, .slice pv vl.length cv] 83, blk g4 ty54.zero 54]) (fun i => m - i) 0 (by exact ⟨rfl, trivial⟩) (Δ0 := _) ?_ (⟨.refl _, Nat.zero_le _, l3, [], p3, c3, none, 0, [], hS.symm, hF3, rfl, hl3, Rows_.nil _ _ _, rfl⟩) ?_
            · exact zE
            rintro i δ σ1 _ ⟨hs1, hi, lc, acc, pp, pc, pl, cl, rows, hSi, hFc, hacc, hlc, hrows, rfl⟩
            dsimp only [ovr, List.foldl]
            have hi : i ≤ m := hi
            have hv1 := hv.mono hs1 (fun _ _ h => h)
            by_cases hlt : i < m
            · obtain ⟨j, hj⟩ : ∃ j, m - i = j + 1 := ⟨m - i - 1, by omega⟩
              rw [hj, subsA] at hSi
              cases hx : exprP vl e f lc with
              | error x =>
                rw [hx] at hSi
                simp only at hSi
                rw [hSi] at hR
                refine zS (zR (zO rfl (Rd.lss rfl rfl) ?_)); refine zN (zT (zS (XA.condT rfl (by first | rfl | exact decide_eq_true (by omega)) ?_))); refine XA.skip (zT (zS (XA.block ?_)))
                refine XA.draw (by kernel_rfl) _ _ [7, 9] [(0, .pu), (1, .rd), (2, .pu), (3, .pu), (4, .pu), (5, .wr), (6, .wr), (7, .wr), (8, .pu), (9, .wr)] (by kernel_rfl) (PH.sub.refl _) (Ent.sel (R := blk g5 _ _) zL (Ent.nil _)) ?_
                refine XPA.pu rfl rfl Gd.free (Rd.fA rfl) ?_; refine XPA.rd rfl rfl Gd.free (Rd.ldC rfl (tyrow rfl) rfl) ?_; refine XPA.pu rfl rfl Gd.free Rd.mv ?_; refine XPA.pu rfl rfl Gd.free Rd.mv ?_; refine XPA.pu rfl rfl Gd.free zI ?_
                refine XPA.die rfl rfl Gd.free (ih.bad hv1 hlc hFc (by omega) (by omega) hx) rfl ?_
                rintro _ σ2 _ ⟨rfl, hs2, cs2, rfl⟩
                refine DA.cl ?_
                repeat (first | refine DA.thn_panic ?_ | refine DA.inb_panic ?_)
                exact bodyA.panic zE ⟨_, hR0.trans hR.symm, rfl, hs1.trans hs2, _, rfl⟩
              | ok y =>
                obtain ⟨x, l'⟩ := y
                rw [hx] at hSi
                simp only at hSi
                refine zS (zR (zO rfl (Rd.lss rfl rfl) ?_)); refine zN (zT (zS (XA.condT rfl (by first | rfl | exact decide_eq_true (by omega)) ?_))); refine XA.skip (zT (zS (XA.block ?_)))
                refine XA.draw (by kernel_rfl) _ _ [7, 9] [(0, .pu), (1, .rd), (2, .pu), (3, .pu), (4, .pu), (5, .wr), (6, .wr), (7, .wr), (8, .pu), (9, .wr)] (by kernel_rfl) (PH.sub.refl _) (Ent.sel (R := blk g5 _ _) zL (Ent.nil _)) ?_
                refine XPA.pu rfl rfl Gd.free (Rd.fA rfl) ?_; refine XPA.rd rfl rfl Gd.free (Rd.ldC rfl (tyrow rfl) rfl) ?_; refine XPA.pu rfl rfl Gd.free Rd.mv ?_; refine XPA.pu rfl rfl Gd.free Rd.mv ?_; refine XPA.pu rfl rfl Gd.free zI ?_
                refine XPA.wr0 rfl rfl Gd.free (WrA.cE (ih.ok hv1 hlc hFc (by omega) (by omega) hx) rfl) ?_
                rintro _ σ2 _ ⟨_, ⟨cs2, p', c', rfl, hcs2, hl', hs2, rfl⟩, rfl⟩
                refine stays (XPA.cl ?_)
                have hl2' := hcs2.len
                have hone2 := hcs2.ones
                refine XPA.wr0 rfl rfl Gd.free (WrA.bs1 (tyrow rfl) rfl (tyrow rfl)) ?_
                rintro _ _ _ ⟨g38, rfl, rfl, rfl⟩
                refine stays ?_
                refine XPA.wrZ0 rfl rfl Gd.free (by kernel_rfl) (WrA.ap1 (tyrow rfl) rfl (tyrow rfl) rfl rfl rfl) ?_
                rintro _ _ _ ⟨p39, c39, rfl, rfl, rfl⟩
                refine XPA.pu rfl rfl Gd.free (Rd.fA rfl) ?_
                refine XPA.wrZ0 rfl rfl Gd.free (by kernel_rfl) (WrA.st (tyrow rfl) rfl) ?_
                rintro _ _ _ ⟨rfl, rfl, rfl⟩
                refine XPA.nil ?_; refine DA.inb_normal (zT (zR (zO rfl zI ?_))); refine zA rfl ?_; refine zN (zT ?_)
                have hnew : Rows_ 4 ExAt σ2 (rows ++ [cs2]) (acc ++ [x]) := (hrows.mono (fun _ _ h => h.mono hs2)).snoc hl2' hcs2
                refine ⟨(Keep.upd (Keep.upd (Keep.updN (Keep.upd (Keep.updO (Keep.updO (Keep.updO (Keep.upd (Keep.upd (Keep.upd (Keep.upd (Keep.upd (Keep.upd (Keep.upd (Keep.hav (Keep.refl _ _) rfl) rfl) rfl) rfl) rfl) rfl) rfl) rfl) rfl) rfl) rfl) rfl)) rfl) rfl), i + 1, _, zM, ?_, ⟨hs1.trans hs2, hlt, l', acc ++ [x], p', c', p39, c39, rows ++ [cs2], (by rw [hSi, show m - (i + 1) = j by omega]), (fun t ht => hFc t (exprP_mem f _ _ _ hx t ht)), (by rw [List.length_append, hacc]; rfl), hl', hnew, rfl⟩, (by omega)⟩
                · rw [flatS]; exact zE
            · have him : i = m := by omega
              subst him
              rw [Nat.sub_self, subsA] at hSi
              rw [hSi] at hR
              simp only at hR
              rw [closeP] at hR
              refine zS (zR (zO rfl (Rd.lss rfl rfl) ?_)); refine zN (zT (zS (XA.condF rfl (by first | rfl | exact decide_eq_false (by omega)) ?_))); refine XA.exit (DA.thn_exit (DA.thn_exit (DA.inb_same (zT (zS (zR (zA rfl ?_)))))))
              cases hc : isT rpar lc with
              | false =>
                rw [if_neg (by rw [hc]; exact Bool.noConfusion)] at hR
                refine XOA.die rfl (want_bad σ1 b pp pc e _ lc rpar hlc hc) rfl ?_
                rintro _ _ _ ⟨rfl, rfl, rfl⟩
                refine DA.cl ?_
                repeat (first | refine DA.thn_panic ?_ | refine DA.inb_panic ?_)
                exact bodyA.panic zE ⟨_, hR0.trans hR.symm, rfl, hs1, _, rfl⟩
              | true =>
                obtain ⟨t4, l4, rfl⟩ := isT_cons hc
                rw [if_pos hc, List.tail_cons] at hR
                refine XOA.wr0 rfl (WrA.cE (want_ok σ1 b pp pc e _ t4 l4 rpar hlc hc) rfl) ?_
                rintro _ _ _ ⟨_, ⟨rfl, p5, c5, hl5, rfl, rfl⟩, rfl⟩
                refine XOA.cl ?_; refine zN (zT (zS (zR (zO rfl (Rd.ldA rfl) ?_))))
                refine XOA.wr0 rfl (WrA.st (tyrow rfl) rfl) ?_
                rintro _ _ _ ⟨rfl, rfl, rfl⟩
                refine zN (zT (XA.ret ?_))
                refine DA.frz (R := lst 54 4 _ _ _) zL lst_frz lst_frz_mono ?_
                rintro σ3 ⟨⟩ hf hs3
                have hfin : ExAt σ3 [i64 ((1 : Nat) : Int), i64 0, i64 t3.n, .slice pl i cl] (.mk ((1 : Nat) : Int) 0 t3.n acc) := ExAt.of ⟨by omega, by omega⟩ ⟨by decide, by decide⟩ (hF2 t3 (by simp)).2 ((hrows.mono (fun _ _ h => h.mono hs3)).psl hacc.symm hf)
                exact bodyA.ret (ResA.cell rfl rfl (Ld.atBlk (tyrow rfl) rfl zL rfl (by first | exact take0 (by first | rfl | assumption | (refine (ints_len _).trans ?_; assumption) | (simp [*]; (first | done | fail))) | assumption | exact take_app (by first | rfl | assumption | (refine (ints_len _).trans ?_; assumption) | (simp [*]; (first | done | fail))) | (conv => lhs; simp only [List.drop_succ_cons, List.drop_zero, List.take_succ_cons, List.take_zero])) (by first | rfl | assumption | (refine (ints_len _).trans ?_; assumption) | (simp [*]; (first | done | fail))))) zE ⟨_, l4, hR0.trans hR.symm, _, p5, c5, rfl, hfin, hl5.mono hs3 (fun _ _ h => h), hs1.trans hs3, rfl⟩
        by_cases q2 : k = 2
        · subst q2
          rw [headP, if_neg (by decide), if_pos (by decide)] at hR
          refine XA.condF rfl rfl (zS (zS (zR (zO rfl (Rd.eql rfl rfl) ?_)))); refine zO rfl Rd.asg ?_; refine zN (zT (XA.condT rfl rfl (XA.skip (zT (XA.condT rfl rfl (zR (zA rfl ?_)))))))
          cases hn : varP vl e l2 with
          | error x =>
            rw [hn] at hR
            simp only at hR
            rcases varP_err hn with ⟨rfl, hx⟩ | ⟨t3, l3, rfl, rfl, hx, hy⟩
            · skip
              refine XOA.die rfl (variable_bad σ b p2 c2 e _ pv vl.length cv l2 hl2 (fun t ht => (hF2 t ht).1) hx) rfl ?_
              rintro _ _ _ ⟨rfl, rfl, rfl⟩
              refine DA.cl ?_
              repeat (first | refine DA.thn_panic ?_ | refine DA.inb_panic ?_)
              exact bodyA.panic zE ⟨_, hR0.trans hR.symm, rfl, .refl _, _, rfl⟩
            · skip
              refine XOA.die rfl (variable_none σ b p2 c2 e vl pv cv t3 l3 hv hl2 (hF2 t3 (by simp)).1 hx hy) rfl ?_
              rintro _ _ _ ⟨rfl, rfl, rfl⟩
              refine DA.cl ?_
              repeat (first | refine DA.thn_panic ?_ | refine DA.inb_panic ?_)
              exact bodyA.panic zE ⟨_, hR0.trans hR.symm, rfl, .refl _, _, rfl⟩
          | ok y =>
            obtain ⟨v3, l3⟩ := y
            rw [hn] at hR
            simp only at hR
            obtain ⟨t3, i3, rfl, rfl, h3, h4⟩ := varP_ok hn
            have hF3 : ∀ t ∈ l3, TkF t := fun t ht => hF2 t (by simp [ht])
            have hi3 := idxG_lt _ _ _ h4
            have hvm := hv.len_le
            refine XOA.wr0 rfl (WrA.cE (variable_ok σ b p2 c2 e vl pv cv i3 t3 l3 hv hl2 (hF2 t3 (by simp)).1 h3 h4) rfl) ?_
            rintro _ _ _ ⟨_, ⟨rfl, p3, c3, hl3, rfl, rfl⟩, rfl⟩
            refine XOA.cl ?_; refine zV rfl rfl ?_
            refine XOA.wr0 rfl (WrA.st (tyrow rfl) rfl) ?_
            rintro _ _ _ ⟨rfl, rfl, rfl⟩
            refine zN (DA.inb_normal (zT (zS (zS (zR (zV rfl rfl ?_)))))); refine zB rfl rfl (tyrow rfl) rfl ?_
            refine XOA.wr0 rfl (WrA.cE (parts_a σ ((2 : Nat) : Int)) rfl) ?_
            rintro _ _ _ ⟨_, ⟨rfl, rfl, rfl⟩, rfl⟩
            refine XOA.cl ?_; refine zA rfl ?_; refine zN (zT (XA.block ?_))
            obtain ⟨m, hm⟩ : ∃ m : Nat, partsOf ((2 : Nat) : Int) = m := ⟨(partsOf ((2 : Nat) : Int)).toNat, by have := partsOf_ge (k := ((2 : Nat) : Int)) (by omega) (by omega); omega⟩
            have hm2 : m ≤ 2 := by have := partsOf_le ((2 : Nat) : Int); omega
            rw [hm] at hR ⊢
            rw [Int.toNat_natCast] at hR
            obtain ⟨S, hS⟩ : ∃ S, subsA (exprP vl e f) m l3 [] = S := ⟨_, rfl⟩
            rw [hS] at hR
            refine XA.gen [(0, _), (1, _), (4, _), (5, _), (29, _), (30, _)] ⟨(by with_reducible (conv => lhs; whnf)), (by with_reducible (conv => lhs; whnf)), (by with_reducible (conv => lhs; whnf)), (by with_reducible (conv => lhs; whnf)), (by with_reducible (conv => lhs; whnf)), (by with_reducible (conv => lhs; whnf)), trivial⟩ (fun δ => ?_)
            dsimp only [List.foldl]
            refine XA.loop [(30, 41)] (fun i : Nat => [(30, i64 i)]) (fun i σ' Γ' => σ.sub σ' ∧ i ≤ m ∧ ∃ (lc : List Tk) (acc : List Ex) (pp : Option Addr) (pc : Nat) (pl : Option Addr) (cl : Nat) (rows : List (List Value)), S = subsA (exprP vl e f) (m - i) lc acc ∧ (∀ t ∈ lc, TkF t) ∧ acc.length = i ∧ PSl 4 rTk σ' (.slice pp lc.length pc) lc ∧ Rows_ 4 ExAt σ' rows acc ∧ Γ' = [lst 54 4 (.slice pl i cl) i rows.flatten, blk g5 [i64 ((2 : Nat) : Int), i64 (i3 : Int), i64 0, .slice pl i cl] 54, blk b [.slice pp lc.length pc, i64 e, .slice pv vl.length cv] 83, blk g4 ty54.zero 54]) (fun i => m - i) 0 (by exact ⟨rfl, trivial⟩) (Δ0 := _) ?_ (⟨.refl _, Nat.zero_le _, l3, [], p3, c3, none, 0, [], hS.symm, hF3, rfl, hl3, Rows_.nil _ _ _, rfl⟩) ?_
            · exact zE
            rintro i δ σ1 _ ⟨hs1, hi, lc, acc, pp, pc, pl, cl, rows, hSi, hFc, hacc, hlc, hrows, rfl⟩
            dsimp only [ovr, List.foldl]
            have hi : i ≤ m := hi
            have hv1 := hv.mono hs1 (fun _ _ h => h)
            by_cases hlt : i < m
            · obtain ⟨j, hj⟩ : ∃ j, m - i = j + 1 := ⟨m - i - 1, by omega⟩
              rw [hj, subsA] at hSi
              cases hx : exprP vl e f lc with
              | error x =>
                rw [hx] at hSi
                simp only at hSi
                rw [hSi] at hR
                refine zS (zR (zO rfl (Rd.lss rfl rfl) ?_)); refine zN (zT (zS (XA.condT rfl (by first | rfl | exact decide_eq_true (by omega)) ?_))); refine XA.skip (zT (zS (XA.block ?_)))
                refine XA.draw (by kernel_rfl) _ _ [7, 9] [(0, .pu), (1, .rd), (2, .pu), (3, .pu), (4, .pu), (5, .wr), (6, .wr), (7, .wr), (8, .pu), (9, .wr)] (by kernel_rfl) (PH.sub.refl _) (Ent.sel (R := blk g5 _ _) zL (Ent.nil _)) ?_
                refine XPA.pu rfl rfl Gd.free (Rd.fA rfl) ?_; refine XPA.rd rfl rfl Gd.free (Rd.ldC rfl (tyrow rfl) rfl) ?_; refine XPA.pu rfl rfl Gd.free Rd.mv ?_; refine XPA.pu rfl rfl Gd.free Rd.mv ?_; refine XPA.pu rfl rfl Gd.free zI ?_
                refine XPA.die rfl rfl Gd.free (ih.bad hv1 hlc hFc (by omega) (by omega) hx) rfl ?_
                rintro _ σ2 _ ⟨rfl, hs2, cs2, rfl⟩
                refine DA.cl ?_
                repeat (first | refine DA.thn_panic ?_ | refine DA.inb_panic ?_)
                exact bodyA.panic zE ⟨_, hR0.trans hR.symm, rfl, hs1.trans hs2, _, rfl⟩
              | ok y =>
                obtain ⟨x, l'⟩ := y
                rw [hx] at hSi
                simp only at hSi
                refine zS (zR (zO rfl (Rd.lss rfl rfl) ?_)); refine zN (zT (zS (XA.condT rfl (by first | rfl | exact decide_eq_true (by omega)) ?_))); refine XA.skip (zT (zS (XA.block ?_)))
                refine XA.draw (by kernel_rfl) _ _ [7, 9] [(0, .pu), (1, .rd), (2, .pu), (3, .pu), (4, .pu), (5, .wr), (6, .wr), (7, .wr), (8, .pu), (9, .wr)] (by kernel_rfl) (PH.sub.refl _) (Ent.sel (R := blk g5 _ _) zL (Ent.nil _)) ?_
                refine XPA.pu rfl rfl Gd.free (Rd.fA rfl) ?_; refine XPA.rd rfl rfl Gd.free (Rd.ldC rfl (tyrow rfl) rfl) ?_; refine XPA.pu rfl rfl Gd.free Rd.mv ?_; refine XPA.pu rfl rfl Gd.free Rd.mv ?_; refine XPA.pu rfl rfl Gd.free zI ?_
                refine XPA.wr0 rfl rfl Gd.free (WrA.cE (ih.ok hv1 hlc hFc (by omega) (by omega) hx) rfl) ?_
                rintro _ σ2 _ ⟨_, ⟨cs2, p', c', rfl, hcs2, hl', hs2, rfl⟩, rfl⟩
                refine stays (XPA.cl ?_)
                have hl2' := hcs2.len
                have hone2 := hcs2.ones
                refine XPA.wr0 rfl rfl Gd.free (WrA.bs1 (tyrow rfl) rfl (tyrow rfl)) ?_
                rintro _ _ _ ⟨g38, rfl, rfl, rfl⟩
                refine stays ?_
                refine XPA.wrZ0 rfl rfl Gd.free (by kernel_rfl) (WrA.ap1 (tyrow rfl) rfl (tyrow rfl) rfl rfl rfl) ?_
                rintro _ _ _ ⟨p39, c39, rfl, rfl, rfl⟩
                refine XPA.pu rfl rfl Gd.free (Rd.fA rfl) ?_
                refine XPA.wrZ0 rfl rfl Gd.free (by kernel_rfl) (WrA.st (tyrow rfl) rfl) ?_
                rintro _ _ _ ⟨rfl, rfl, rfl⟩
                refine XPA.nil ?_; refine DA.inb_normal (zT (zR (zO rfl zI ?_))); refine zA rfl ?_; refine zN (zT ?_)
                have hnew : Rows_ 4 ExAt σ2 (rows ++ [cs2]) (acc ++ [x]) := (hrows.mono (fun _ _ h => h.mono hs2)).snoc hl2' hcs2
                refine ⟨(Keep.upd (Keep.upd (Keep.updN (Keep.upd (Keep.updO (Keep.updO (Keep.updO (Keep.upd (Keep.upd (Keep.upd (Keep.upd (Keep.upd (Keep.upd (Keep.upd (Keep.hav (Keep.refl _ _) rfl) rfl) rfl) rfl) rfl) rfl) rfl) rfl) rfl) rfl) rfl) rfl)) rfl) rfl), i + 1, _, zM, ?_, ⟨hs1.trans hs2, hlt, l', acc ++ [x], p', c', p39, c39, rows ++ [cs2], (by rw [hSi, show m - (i + 1) = j by omega]), (fun t ht => hFc t (exprP_mem f _ _ _ hx t ht)), (by rw [List.length_append, hacc]; rfl), hl', hnew, rfl⟩, (by omega)⟩
                · rw [flatS]; exact zE
            · have him : i = m := by omega
              subst him
              rw [Nat.sub_self, subsA] at hSi
              rw [hSi] at hR
              simp only at hR
              rw [closeP] at hR
              refine zS (zR (zO rfl (Rd.lss rfl rfl) ?_)); refine zN (zT (zS (XA.condF rfl (by first | rfl | exact decide_eq_false (by omega)) ?_))); refine XA.exit (DA.thn_exit (DA.thn_exit (DA.inb_same (zT (zS (zR (zA rfl ?_)))))))
              cases hc : isT rpar lc with
              | false =>
                rw [if_neg (by rw [hc]; exact Bool.noConfusion)] at hR
                refine XOA.die rfl (want_bad σ1 b pp pc e _ lc rpar hlc hc) rfl ?_
                rintro _ _ _ ⟨rfl, rfl, rfl⟩
                refine DA.cl ?_
                repeat (first | refine DA.thn_panic ?_ | refine DA.inb_panic ?_)
                exact bodyA.panic zE ⟨_, hR0.trans hR.symm, rfl, hs1, _, rfl⟩
              | true =>
                obtain ⟨t4, l4, rfl⟩ := isT_cons hc
                rw [if_pos hc, List.tail_cons] at hR
                refine XOA.wr0 rfl (WrA.cE (want_ok σ1 b pp pc e _ t4 l4 rpar hlc hc) rfl) ?_
                rintro _ _ _ ⟨_, ⟨rfl, p5, c5, hl5, rfl, rfl⟩, rfl⟩
                refine XOA.cl ?_; refine zN (zT (zS (zR (zO rfl (Rd.ldA rfl) ?_))))
                refine XOA.wr0 rfl (WrA.st (tyrow rfl) rfl) ?_
                rintro _ _ _ ⟨rfl, rfl, rfl⟩
                refine zN (zT (XA.ret ?_))
                refine DA.frz (R := lst 54 4 _ _ _) zL lst_frz lst_frz_mono ?_
                rintro σ3 ⟨⟩ hf hs3
                have hfin : ExAt σ3 [i64 ((2 : Nat) : Int), i64 (i3 : Int), i64 0, .slice pl i cl] (.mk ((2 : Nat) : Int) (i3 : Int) 0 acc) := ExAt.of ⟨by omega, by omega⟩ ⟨by omega, by omega⟩ ⟨by decide, by decide⟩ ((hrows.mono (fun _ _ h => h.mono hs3)).psl hacc.symm hf)
                exact bodyA.ret (ResA.cell rfl rfl (Ld.atBlk (tyrow rfl) rfl zL rfl (by first | exact take0 (by first | rfl | assumption | (refine (ints_len _).trans ?_; assumption) | (simp [*]; (first | done | fail))) | assumption | exact take_app (by first | rfl | assumption | (refine (ints_len _).trans ?_; assumption) | (simp [*]; (first | done | fail))) | (conv => lhs; simp only [List.drop_succ_cons, List.drop_zero, List.take_succ_cons, List.take_zero])) (by first | rfl | assumption | (refine (ints_len _).trans ?_; assumption) | (simp [*]; (first | done | fail))))) zE ⟨_, l4, hR0.trans hR.symm, _, p5, c5, rfl, hfin, hl5.mono hs3 (fun _ _ h => h), hs1.trans hs3, rfl⟩
        by_cases q3 : k = 3
        · subst q3
          rw [headP, if_neg (by decide), if_pos (by decide)] at hR
          refine XA.condF rfl rfl (zS (zS (zR (zO rfl (Rd.eql rfl rfl) ?_)))); refine zO rfl Rd.asg ?_; refine zN (zT (XA.condF rfl rfl (zR (zO rfl (Rd.eql rfl rfl) ?_)))); refine zO rfl Rd.asg ?_; refine zN (zT (XA.condT rfl rfl (zR (zA rfl ?_))))
          cases hn : varP vl e l2 with
          | error x =>
            rw [hn] at hR
            simp only at hR
            rcases varP_err hn with ⟨rfl, hx⟩ | ⟨t3, l3, rfl, rfl, hx, hy⟩
            · skip
              refine XOA.die rfl (variable_bad σ b p2 c2 e _ pv vl.length cv l2 hl2 (fun t ht => (hF2 t ht).1) hx) rfl ?_
              rintro _ _ _ ⟨rfl, rfl, rfl⟩
              refine DA.cl ?_
              repeat (first | refine DA.thn_panic ?_ | refine DA.inb_panic ?_)
              exact bodyA.panic zE ⟨_, hR0.trans hR.symm, rfl, .refl _, _, rfl⟩
            · skip
              refine XOA.die rfl (variable_none σ b p2 c2 e vl pv cv t3 l3 hv hl2 (hF2 t3 (by simp)).1 hx hy) rfl ?_
              rintro _ _ _ ⟨rfl, rfl, rfl⟩
              refine DA.cl ?_
              repeat (first | refine DA.thn_panic ?_ | refine DA.inb_panic ?_)
              exact bodyA.panic zE ⟨_, hR0.trans hR.symm, rfl, .refl _, _, rfl⟩
          | ok y =>
            obtain ⟨v3, l3⟩ := y
            rw [hn] at hR
            simp only at hR
            obtain ⟨t3, i3, rfl, rfl, h3, h4⟩ := varP_ok hn
            have hF3 : ∀ t ∈ l3, TkF t := fun t ht => hF2 t (by simp [ht])
            have hi3 := idxG_lt _ _ _ h4
            have hvm := hv.len_le
            refine XOA.wr0 rfl (WrA.cE (variable_ok σ b p2 c2 e vl pv cv i3 t3 l3 hv hl2 (hF2 t3 (by simp)).1 h3 h4) rfl) ?_
            rintro _ _ _ ⟨_, ⟨rfl, p3, c3, hl3, rfl, rfl⟩, rfl⟩
            refine XOA.cl ?_; refine zV rfl rfl ?_
            refine XOA.wr0 rfl (WrA.st (tyrow rfl) rfl) ?_
            rintro _ _ _ ⟨rfl, rfl, rfl⟩
            refine zN (DA.inb_normal (zT (zS (zS (zR (zV rfl rfl ?_)))))); refine zB rfl rfl (tyrow rfl) rfl ?_
            refine XOA.wr0 rfl (WrA.cE (parts_a σ ((3 : Nat) : Int)) rfl) ?_
            rintro _ _ _ ⟨_, ⟨rfl, rfl, rfl⟩, rfl⟩
            refine XOA.cl ?_; refine zA rfl ?_; refine zN (zT (XA.block ?_))
            obtain ⟨m, hm⟩ : ∃ m : Nat, partsOf ((3 : Nat) : Int) = m := ⟨(partsOf ((3 : Nat) : Int)).toNat, by have := partsOf_ge (k := ((3 : Nat) : Int)) (by omega) (by omega); omega⟩
            have hm2 : m ≤ 2 := by have := partsOf_le ((3 : Nat) : Int); omega
            rw [hm] at hR ⊢
            rw [Int.toNat_natCast] at hR
            obtain ⟨S, hS⟩ : ∃ S, subsA (exprP vl e f) m l3 [] = S := ⟨_, rfl⟩
            rw [hS] at hR
            refine XA.gen [(0, _), (1, _), (4, _), (5, _), (29, _), (30, _)] ⟨(by with_reducible (conv => lhs; whnf)), (by with_reducible (conv => lhs; whnf)), (by with_reducible (conv => lhs; whnf)), (by with_reducible (conv => lhs; whnf)), (by with_reducible (conv => lhs; whnf)), (by with_reducible (conv => lhs; whnf)), trivial⟩ (fun δ => ?_)
            dsimp only [List.foldl]
            refine XA.loop [(30, 41)] (fun i : Nat => [(30, i64 i)]) (fun i σ' Γ' => σ.sub σ' ∧ i ≤ m ∧ ∃ (lc : List Tk) (acc : List Ex) (pp : Option Addr) (pc : Nat) (pl : Option Addr) (cl : Nat) (rows : List (List Value)), S = subsA (exprP vl e f) (m - i) lc acc ∧ (∀ t ∈ lc, TkF t) ∧ acc.length = i ∧ PSl 4 rTk σ' (.slice pp lc.length pc) lc ∧ Rows_ 4 ExAt σ' rows acc ∧ Γ' = [lst 54 4 (.slice pl i cl) i rows.flatten, blk g5 [i64 ((3 : Nat) : Int), i64 (i3 : Int), i64 0, .slice pl i cl] 54, blk b [.slice pp lc.length pc, i64 e, .slice pv vl.length cv] 83, blk g4 ty54.zero 54]) (fun i => m - i) 0 (by exact ⟨rfl, trivial⟩) (Δ0 := _) ?_ (⟨.refl _, Nat.zero_le _, l3, [], p3, c3, none, 0, [], hS.symm, hF3, rfl, hl3, Rows_.nil _ _ _, rfl⟩) ?_
            · exact zE
            rintro i δ σ1 _ ⟨hs1, hi, lc, acc, pp, pc, pl, cl, rows, hSi, hFc, hacc, hlc, hrows, rfl⟩
            dsimp only [ovr, List.foldl]
            have hi : i ≤ m := hi
            have hv1 := hv.mono hs1 (fun _ _ h => h)
            by_cases hlt : i < m
            · obtain ⟨j, hj⟩ : ∃ j, m - i = j + 1 := ⟨m - i - 1, by omega⟩
              rw [hj, subsA] at hSi
              cases hx : exprP vl e f lc with
              | error x =>
                rw [hx] at hSi
                simp only at hSi
                rw [hSi] at hR
                refine zS (zR (zO rfl (Rd.lss rfl rfl) ?_)); refine zN (zT (zS (XA.condT rfl (by first | rfl | exact decide_eq_true (by omega)) ?_))); refine XA.skip (zT (zS (XA.block ?_)))
                refine XA.draw (by kernel_rfl) _ _ [7, 9] [(0, .pu), (1, .rd), (2, .pu), (3, .pu), (4, .pu), (5, .wr), (6, .wr), (7, .wr), (8, .pu), (9, .wr)] (by kernel_rfl) (PH.sub.refl _) (Ent.sel (R := blk g5 _ _) zL (Ent.nil _)) ?_
                refine XPA.pu rfl rfl Gd.free (Rd.fA rfl) ?_; refine XPA.rd rfl rfl Gd.free (Rd.ldC rfl (tyrow rfl) rfl) ?_; refine XPA.pu rfl rfl Gd.free Rd.mv ?_; refine XPA.pu rfl rfl Gd.free Rd.mv ?_; refine XPA.pu rfl rfl Gd.free zI ?_
                refine XPA.die rfl rfl Gd.free (ih.bad hv1 hlc hFc (by omega) (by omega) hx) rfl ?_
                rintro _ σ2 _ ⟨rfl, hs2, cs2, rfl⟩
                refine DA.cl ?_
                repeat (first | refine DA.thn_panic ?_ | refine DA.inb_panic ?_)
                exact bodyA.panic zE ⟨_, hR0.trans hR.symm, rfl, hs1.trans hs2, _, rfl⟩
              | ok y =>
                obtain ⟨x, l'⟩ := y
                rw [hx] at hSi
                simp only at hSi
                refine zS (zR (zO rfl (Rd.lss rfl rfl) ?_)); refine zN (zT (zS (XA.condT rfl (by first | rfl | exact decide_eq_true (by omega)) ?_))); refine XA.skip (zT (zS (XA.block ?_)))
                refine XA.draw (by kernel_rfl) _ _ [7, 9] [(0, .pu), (1, .rd), (2, .pu), (3, .pu), (4, .pu), (5, .wr), (6, .wr), (7, .wr), (8, .pu), (9, .wr)] (by kernel_rfl) (PH.sub.refl _) (Ent.sel (R := blk g5 _ _) zL (Ent.nil _)) ?_
                refine XPA.pu rfl rfl Gd.free (Rd.fA rfl) ?_; refine XPA.rd rfl rfl Gd.free (Rd.ldC rfl (tyrow rfl) rfl) ?_; refine XPA.pu rfl rfl Gd.free Rd.mv ?_; refine XPA.pu rfl rfl Gd.free Rd.mv ?_; refine XPA.pu rfl rfl Gd.free zI ?_
                refine XPA.wr0 rfl rfl Gd.free (WrA.cE (ih.ok hv1 hlc hFc (by omega) (by omega) hx) rfl) ?_
                rintro _ σ2 _ ⟨_, ⟨cs2, p', c', rfl, hcs2, hl', hs2, rfl⟩, rfl⟩
                refine stays (XPA.cl ?_)
                have hl2' := hcs2.len
                have hone2 := hcs2.ones
                refine XPA.wr0 rfl rfl Gd.free (WrA.bs1 (tyrow rfl) rfl (tyrow rfl)) ?_
                rintro _ _ _ ⟨g38, rfl, rfl, rfl⟩
                refine stays ?_
                refine XPA.wrZ0 rfl rfl Gd.free (by kernel_rfl) (WrA.ap1 (tyrow rfl) rfl (tyrow rfl) rfl rfl rfl) ?_
                rintro _ _ _ ⟨p39, c39, rfl, rfl, rfl⟩
                refine XPA.pu rfl rfl Gd.free (Rd.fA rfl) ?_
                refine XPA.wrZ0 rfl rfl Gd.free (by kernel_rfl) (WrA.st (tyrow rfl) rfl) ?_
                rintro _ _ _ ⟨rfl, rfl, rfl⟩
                refine XPA.nil ?_; refine DA.inb_normal (zT (zR (zO rfl zI ?_))); refine zA rfl ?_; refine zN (zT ?_)
                have hnew : Rows_ 4 ExAt σ2 (rows ++ [cs2]) (acc ++ [x]) := (hrows.mono (fun _ _ h => h.mono hs2)).snoc hl2' hcs2
                refine ⟨(Keep.upd (Keep.upd (Keep.updN (Keep.upd (Keep.updO (Keep.updO (Keep.updO (Keep.upd (Keep.upd (Keep.upd (Keep.upd (Keep.upd (Keep.upd (Keep.upd (Keep.hav (Keep.refl _ _) rfl) rfl) rfl) rfl) rfl) rfl) rfl) rfl) rfl) rfl) rfl) rfl)) rfl) rfl), i + 1, _, zM, ?_, ⟨hs1.trans hs2, hlt, l', acc ++ [x], p', c', p39, c39, rows ++ [cs2], (by rw [hSi, show m - (i + 1) = j by omega]), (fun t ht => hFc t (exprP_mem f _ _ _ hx t ht)), (by rw [List.length_append, hacc]; rfl), hl', hnew, rfl⟩, (by omega)⟩
                · rw [flatS]; exact zE
            · have him : i = m := by omega
              subst him
              rw [Nat.sub_self, subsA] at hSi
              rw [hSi] at hR
              simp only at hR
              rw [closeP] at hR
              refine zS (zR (zO rfl (Rd.lss rfl rfl) ?_)); refine zN (zT (zS (XA.condF rfl (by first | rfl | exact decide_eq_false (by omega)) ?_))); refine XA.exit (DA.thn_exit (DA.thn_exit (DA.inb_same (zT (zS (zR (zA rfl ?_)))))))
              cases hc : isT rpar lc with
              | false =>
                rw [if_neg (by rw [hc]; exact Bool.noConfusion)] at hR
                refine XOA.die rfl (want_bad σ1 b pp pc e _ lc rpar hlc hc) rfl ?_
                rintro _ _ _ ⟨rfl, rfl, rfl⟩
                refine DA.cl ?_
                repeat (first | refine DA.thn_panic ?_ | refine DA.inb_panic ?_)
                exact bodyA.panic zE ⟨_, hR0.trans hR.symm, rfl, hs1, _, rfl⟩
              | true =>
                obtain ⟨t4, l4, rfl⟩ := isT_cons hc
                rw [if_pos hc, List.tail_cons] at hR
                refine XOA.wr0 rfl (WrA.cE (want_ok σ1 b pp pc e _ t4 l4 rpar hlc hc) rfl) ?_
                rintro _ _ _ ⟨_, ⟨rfl, p5, c5, hl5, rfl, rfl⟩, rfl⟩
                refine XOA.cl ?_; refine zN (zT (zS (zR (zO rfl (Rd.ldA rfl) ?_))))
                refine XOA.wr0 rfl (WrA.st (tyrow rfl) rfl) ?_
                rintro _ _ _ ⟨rfl, rfl, rfl⟩
                refine zN (zT (XA.ret ?_))
                refine DA.frz (R := lst 54 4 _ _ _) zL lst_frz lst_frz_mono ?_
                rintro σ3 ⟨⟩ hf hs3
                have hfin : ExAt σ3 [i64 ((3 : Nat) : Int), i64 (i3 : Int), i64 0, .slice pl i cl] (.mk ((3 : Nat) : Int) (i3 : Int) 0 acc) := ExAt.of ⟨by omega, by omega⟩ ⟨by omega, by omega⟩ ⟨by decide, by decide⟩ ((hrows.mono (fun _ _ h => h.mono hs3)).psl hacc.symm hf)
                exact bodyA.ret (ResA.cell rfl rfl (Ld.atBlk (tyrow rfl) rfl zL rfl (by first | exact take0 (by first | rfl | assumption | (refine (ints_len _).trans ?_; assumption) | (simp [*]; (first | done | fail))) | assumption | exact take_app (by first | rfl | assumption | (refine (ints_len _).trans ?_; assumption) | (simp [*]; (first | done | fail))) | (conv => lhs; simp only [List.drop_succ_cons, List.drop_zero, List.take_succ_cons, List.take_zero])) (by first | rfl | assumption | (refine (ints_len _).trans ?_; assumption) | (simp [*]; (first | done | fail))))) zE ⟨_, l4, hR0.trans hR.symm, _, p5, c5, rfl, hfin, hl5.mono hs3 (fun _ _ h => h), hs1.trans hs3, rfl⟩
        rw [headP, if_neg q1, if_neg (by omega)] at hR
        simp only at hR
        refine XA.condF rfl (by first | rfl | exact decide_eq_false (by omega)) ?_; refine zS (zS (zR (zO rfl (Rd.eql rfl rfl) ?_))); refine zO rfl Rd.asg ?_; refine zN (zT (XA.condF rfl (by first | rfl | exact decide_eq_false (by omega)) ?_)); refine zR (zO rfl (Rd.eql rfl rfl) ?_); refine zO rfl Rd.asg ?_
        refine zN (zT (XA.condF rfl (by first | rfl | exact decide_eq_false (by omega)) ?_)); refine XA.skip (DA.inb_normal (zT (zS (zS (zR (zV rfl rfl ?_)))))); refine zB rfl rfl (tyrow rfl) rfl ?_
        refine XOA.wr0 rfl (WrA.cE (parts_a σ (k : Int)) rfl) ?_
        rintro _ _ _ ⟨_, ⟨rfl, rfl, rfl⟩, rfl⟩
        refine XOA.cl ?_; refine zA rfl ?_; refine zN (zT (XA.block ?_))
        obtain ⟨m, hm⟩ : ∃ m : Nat, partsOf (k : Int) = m := ⟨(partsOf (k : Int)).toNat, by have := partsOf_ge (k := (k : Int)) (by omega) (by omega); omega⟩
        have hm2 : m ≤ 2 := by have := partsOf_le (k : Int); omega
        rw [hm] at hR ⊢
        rw [Int.toNat_natCast] at hR
        obtain ⟨S, hS⟩ : ∃ S, subsA (exprP vl e f) m l2 [] = S := ⟨_, rfl⟩
        rw [hS] at hR
        refine XA.gen [(0, _), (1, _), (4, _), (5, _), (29, _), (30, _)] ⟨(by with_reducible (conv => lhs; whnf)), (by with_reducible (conv => lhs; whnf)), (by with_reducible (conv => lhs; whnf)), (by with_reducible (conv => lhs; whnf)), (by with_reducible (conv => lhs; whnf)), (by with_reducible (conv => lhs; whnf)), trivial⟩ (fun δ => ?_)
        dsimp only [List.foldl]
        refine XA.loop [(30, 41)] (fun i : Nat => [(30, i64 i)]) (fun i σ' Γ' => σ.sub σ' ∧ i ≤ m ∧ ∃ (lc : List Tk) (acc : List Ex) (pp : Option Addr) (pc : Nat) (pl : Option Addr) (cl : Nat) (rows : List (List Value)), S = subsA (exprP vl e f) (m - i) lc acc ∧ (∀ t ∈ lc, TkF t) ∧ acc.length = i ∧ PSl 4 rTk σ' (.slice pp lc.length pc) lc ∧ Rows_ 4 ExAt σ' rows acc ∧ Γ' = [lst 54 4 (.slice pl i cl) i rows.flatten, blk g5 [i64 (k : Int), i64 0, i64 0, .slice pl i cl] 54, blk b [.slice pp lc.length pc, i64 e, .slice pv vl.length cv] 83, blk g4 ty54.zero 54]) (fun i => m - i) 0 (by exact ⟨rfl, trivial⟩) (Δ0 := _) ?_ (⟨.refl _, Nat.zero_le _, l2, [], p2, c2, none, 0, [], hS.symm, hF2, rfl, hl2, Rows_.nil _ _ _, rfl⟩) ?_
        · exact zE
        rintro i δ σ1 _ ⟨hs1, hi, lc, acc, pp, pc, pl, cl, rows, hSi, hFc, hacc, hlc, hrows, rfl⟩
        dsimp only [ovr, List.foldl]
        have hi : i ≤ m := hi
        have hv1 := hv.mono hs1 (fun _ _ h => h)
        by_cases hlt : i < m
        · obtain ⟨j, hj⟩ : ∃ j, m - i = j + 1 := ⟨m - i - 1, by omega⟩
          rw [hj, subsA] at hSi
          cases hx : exprP vl e f lc with
          | error x =>
            rw [hx] at hSi
            simp only at hSi
            rw [hSi] at hR
            refine zS (zR (zO rfl (Rd.lss rfl rfl) ?_)); refine zN (zT (zS (XA.condT rfl (by first | rfl | exact decide_eq_true (by omega)) ?_))); refine XA.skip (zT (zS (XA.block ?_)))
            refine XA.draw (by kernel_rfl) _ _ [7, 9] [(0, .pu), (1, .rd), (2, .pu), (3, .pu), (4, .pu), (5, .wr), (6, .wr), (7, .wr), (8, .pu), (9, .wr)] (by kernel_rfl) (PH.sub.refl _) (Ent.sel (R := blk g5 _ _) zL (Ent.nil _)) ?_
            refine XPA.pu rfl rfl Gd.free (Rd.fA rfl) ?_; refine XPA.rd rfl rfl Gd.free (Rd.ldC rfl (tyrow rfl) rfl) ?_; refine XPA.pu rfl rfl Gd.free Rd.mv ?_; refine XPA.pu rfl rfl Gd.free Rd.mv ?_; refine XPA.pu rfl rfl Gd.free zI ?_
            refine XPA.die rfl rfl Gd.free (ih.bad hv1 hlc hFc (by omega) (by omega) hx) rfl ?_
            rintro _ σ2 _ ⟨rfl, hs2, cs2, rfl⟩
            refine DA.cl ?_
            repeat (first | refine DA.thn_panic ?_ | refine DA.inb_panic ?_)
            exact bodyA.panic zE ⟨_, hR0.trans hR.symm, rfl, hs1.trans hs2, _, rfl⟩
          | ok y =>
            obtain ⟨x, l'⟩ := y
            rw [hx] at hSi
            simp only at hSi
            refine zS (zR (zO rfl (Rd.lss rfl rfl) ?_)); refine zN (zT (zS (XA.condT rfl (by first | rfl | exact decide_eq_true (by omega)) ?_))); refine XA.skip (zT (zS (XA.block ?_)))
            refine XA.draw (by kernel_rfl) _ _ [7, 9] [(0, .pu), (1, .rd), (2, .pu), (3, .pu), (4, .pu), (5, .wr), (6, .wr), (7, .wr), (8, .pu), (9, .wr)] (by kernel_rfl) (PH.sub.refl _) (Ent.sel (R := blk g5 _ _) zL (Ent.nil _)) ?_
            refine XPA.pu rfl rfl Gd.free (Rd.fA rfl) ?_; refine XPA.rd rfl rfl Gd.free (Rd.ldC rfl (tyrow rfl) rfl) ?_; refine XPA.pu rfl rfl Gd.free Rd.mv ?_; refine XPA.pu rfl rfl Gd.free Rd.mv ?_; refine XPA.pu rfl rfl Gd.free zI ?_
            refine XPA.wr0 rfl rfl Gd.free (WrA.cE (ih.ok hv1 hlc hFc (by omega) (by omega) hx) rfl) ?_
            rintro _ σ2 _ ⟨_, ⟨cs2, p', c', rfl, hcs2, hl', hs2, rfl⟩, rfl⟩
            refine stays (XPA.cl ?_)
            have hl2' := hcs2.len
            have hone2 := hcs2.ones
            refine XPA.wr0 rfl rfl Gd.free (WrA.bs1 (tyrow rfl) rfl (tyrow rfl)) ?_
            rintro _ _ _ ⟨g38, rfl, rfl, rfl⟩
            refine stays ?_
            refine XPA.wrZ0 rfl rfl Gd.free (by kernel_rfl) (WrA.ap1 (tyrow rfl) rfl (tyrow rfl) rfl rfl rfl) ?_
            rintro _ _ _ ⟨p39, c39, rfl, rfl, rfl⟩
            refine XPA.pu rfl rfl Gd.free (Rd.fA rfl) ?_
            refine XPA.wrZ0 rfl rfl Gd.free (by kernel_rfl) (WrA.st (tyrow rfl) rfl) ?_
            rintro _ _ _ ⟨rfl, rfl, rfl⟩
            refine XPA.nil ?_; refine DA.inb_normal (zT (zR (zO rfl zI ?_))); refine zA rfl ?_; refine zN (zT ?_)
            have hnew : Rows_ 4 ExAt σ2 (rows ++ [cs2]) (acc ++ [x]) := (hrows.mono (fun _ _ h => h.mono hs2)).snoc hl2' hcs2
            refine ⟨(Keep.upd (Keep.upd (Keep.updN (Keep.upd (Keep.updO (Keep.updO (Keep.updO (Keep.upd (Keep.upd (Keep.upd (Keep.upd (Keep.upd (Keep.upd (Keep.upd (Keep.hav (Keep.refl _ _) rfl) rfl) rfl) rfl) rfl) rfl) rfl) rfl) rfl) rfl) rfl) rfl)) rfl) rfl), i + 1, _, zM, ?_, ⟨hs1.trans hs2, hlt, l', acc ++ [x], p', c', p39, c39, rows ++ [cs2], (by rw [hSi, show m - (i + 1) = j by omega]), (fun t ht => hFc t (exprP_mem f _ _ _ hx t ht)), (by rw [List.length_append, hacc]; rfl), hl', hnew, rfl⟩, (by omega)⟩
            · rw [flatS]; exact zE
        · have him : i = m := by omega
          subst him
          rw [Nat.sub_self, subsA] at hSi
          rw [hSi] at hR
          simp only at hR
          rw [closeP] at hR
          refine zS (zR (zO rfl (Rd.lss rfl rfl) ?_)); refine zN (zT (zS (XA.condF rfl (by first | rfl | exact decide_eq_false (by omega)) ?_))); refine XA.exit (DA.thn_exit (DA.thn_exit (DA.inb_same (zT (zS (zR (zA rfl ?_)))))))
          cases hc : isT rpar lc with
          | false =>
            rw [if_neg (by rw [hc]; exact Bool.noConfusion)] at hR
            refine XOA.die rfl (want_bad σ1 b pp pc e _ lc rpar hlc hc) rfl ?_
            rintro _ _ _ ⟨rfl, rfl, rfl⟩
            refine DA.cl ?_
            repeat (first | refine DA.thn_panic ?_ | refine DA.inb_panic ?_)
            exact bodyA.panic zE ⟨_, hR0.trans hR.symm, rfl, hs1, _, rfl⟩
          | true =>
            obtain ⟨t4, l4, rfl⟩ := isT_cons hc
            rw [if_pos hc, List.tail_cons] at hR
            refine XOA.wr0 rfl (WrA.cE (want_ok σ1 b pp pc e _ t4 l4 rpar hlc hc) rfl) ?_
            rintro _ _ _ ⟨_, ⟨rfl, p5, c5, hl5, rfl, rfl⟩, rfl⟩
            refine XOA.cl ?_; refine zN (zT (zS (zR (zO rfl (Rd.ldA rfl) ?_))))
            refine XOA.wr0 rfl (WrA.st (tyrow rfl) rfl) ?_
            rintro _ _ _ ⟨rfl, rfl, rfl⟩
            refine zN (zT (XA.ret ?_))
            refine DA.frz (R := lst 54 4 _ _ _) zL lst_frz lst_frz_mono ?_
            rintro σ3 ⟨⟩ hf hs3
            have hfin : ExAt σ3 [i64 (k : Int), i64 0, i64 0, .slice pl i cl] (.mk (k : Int) 0 0 acc) := ExAt.of ⟨by omega, by omega⟩ ⟨by decide, by decide⟩ ⟨by decide, by decide⟩ ((hrows.mono (fun _ _ h => h.mono hs3)).psl hacc.symm hf)
            exact bodyA.ret (ResA.cell rfl rfl (Ld.atBlk (tyrow rfl) rfl zL rfl (by first | exact take0 (by first | rfl | assumption | (refine (ints_len _).trans ?_; assumption) | (simp [*]; (first | done | fail))) | assumption | exact take_app (by first | rfl | assumption | (refine (ints_len _).trans ?_; assumption) | (simp [*]; (first | done | fail))) | (conv => lhs; simp only [List.drop_succ_cons, List.drop_zero, List.take_succ_cons, List.take_zero])) (by first | rfl | assumption | (refine (ints_len _).trans ?_; assumption) | (simp [*]; (first | done | fail))))) zE ⟨_, l4, hR0.trans hR.symm, _, p5, c5, rfl, hfin, hl5.mono hs3 (fun _ _ h => h), hs1.trans hs3, rfl⟩
end Go.Proofs.YthefnnkmpcgcmaaDoor

namespace Go.Proofs.YthefnnkmpcgcmaaDoor
open Go X
def bindP {α β : Type} (a : PR α) (k : α → List Tk → PR β) : PR β := match a with
  | .error x => .error x
  | .ok (x, l) => k x l
theorem bindP_ok {α β : Type} {a : PR α} {k : α → List Tk → PR β} {y : β} {l' : List Tk} (h : bindP a k = .ok (y, l')) : ∃ x l, a = .ok (x, l) ∧ k x l = .ok (y, l') := by
  cases a with
  | error x => cases h
  | ok z => obtain ⟨x, l⟩ := z; exact ⟨x, l, rfl, h⟩
def zeroX : Ex := .mk 0 0 0 []
def listG (S : List Tk → PR St) : Nat → List Tk → List St → PR (List St)
  | 0, _, _ => .error (0, 0)
  | g + 1, l, acc => if isT rpar l = true then .ok (acc, l.tail) else match S l with
    | .error x => .error x
    | .ok (s, l1) => listG S g l1 (acc ++ [s])
def listP (S : List Tk → PR St) (e : Int) (l : List Tk) : PR (List St) := if isT lpar l = true then listG S (l.tail.length + 1) l.tail [] else .error (failAt e l 5)
def optP {α : Type} (b : Bool) (z : α) (a : List Tk → PR α) (l : List Tk) : PR α := if b = true then a l else .ok (z, l)
def stmtP (vl : List Va) (e : Int) : Nat → List Tk → PR St
  | 0, l => .error (failAt e l 4)
  | f + 1, l => if isT lpar l = true then match pickT verbOf 7 l.tail with
      | none => .error (failAt e l.tail 5)
      | some k => bindP (optP (needV k) 0 (varP vl e) l.tail.tail) fun v l3 => bindP (optP (needE k) zeroX (exprP vl e f) l3) fun x l4 => bindP (optP (needF k) zeroX (exprP vl e f) l4) fun y l5 =>
          bindP (optP (needB k) [] (listP (stmtP vl e f) e) l5) fun bd l6 => bindP (optP (needO k) [] (listP (stmtP vl e f) e) l6) fun el l7 => closeP e (.mk k v x y bd el) l7
    else .error (failAt e l 5)
/-- What is left is of what there was. -/
def Sub (l' l : List Tk) : Prop := (∀ t ∈ l', t ∈ l) ∧ l'.length ≤ l.length
theorem Sub.refl (l : List Tk) : Sub l l := ⟨fun _ h => h, Nat.le_refl _⟩
theorem Sub.trans {a b c : List Tk} (h : Sub a b) (k : Sub b c) : Sub a c := ⟨fun t ht => k.1 t (h.1 t ht), Nat.le_trans h.2 k.2⟩
theorem Sub.tail (l : List Tk) : Sub l.tail l := ⟨fun _ h => mem_tail h, by rw [List.length_tail]; omega⟩
theorem numP_sub {e : Int} {l l' : List Tk} {n : Int} (h : numP e l = .ok (n, l')) : Sub l' l := by
  obtain ⟨t, rfl, -, -⟩ := numP_ok h; exact Sub.tail (t :: l')
theorem varP_sub {vl : List Va} {e : Int} {l l' : List Tk} {n : Int} (h : varP vl e l = .ok (n, l')) : Sub l' l := by
  obtain ⟨t, i, rfl, -, -, -⟩ := varP_ok h; exact Sub.tail (t :: l')
theorem closeP_sub {α : Type} {e : Int} {x y : α} {l l' : List Tk} (h : closeP e x l = .ok (y, l')) : Sub l' l := by
  rw [closeP] at h
  split at h
  · cases h; exact Sub.tail l
  · cases h
theorem headP_sub {vl : List Va} {e : Int} {k : Nat} {l l' : List Tk} {vn : Int × Int} (h : headP vl e k l = .ok (vn, l')) : Sub l' l := by
  rw [headP] at h
  split at h
  · cases q : numP e l with
    | error x => rw [q] at h; cases h
    | ok y => obtain ⟨n, r⟩ := y; rw [q] at h; cases h; exact numP_sub q
  · split at h
    · cases q : varP vl e l with
      | error x => rw [q] at h; cases h
      | ok y => obtain ⟨n, r⟩ := y; rw [q] at h; cases h; exact varP_sub q
    · cases h; exact Sub.refl _
theorem subsA_sub {α : Type} {E : List Tk → PR α} (hE : ∀ l x l', E l = .ok (x, l') → Sub l' l) : ∀ (m : Nat) (l : List Tk) (acc xs : List α) (l' : List Tk), subsA E m l acc = .ok (xs, l') → Sub l' l
  | 0, l, acc, xs, l', h => by cases h; exact Sub.refl _
  | m + 1, l, acc, xs, l', h => by
    rw [subsA] at h
    cases q : E l with
    | error x => rw [q] at h; cases h
    | ok y =>
      obtain ⟨x, l1⟩ := y
      rw [q] at h
      exact (subsA_sub hE m l1 _ xs l' h).trans (hE l x l1 q)
theorem exprP_sub {vl : List Va} {e : Int} : ∀ (f : Nat) (l : List Tk) (x : Ex) (l' : List Tk), exprP vl e f l = .ok (x, l') → Sub l' l
  | 0, l, x, l', h => by cases h
  | f + 1, l, x, l', h => by
    rw [exprP] at h
    split at h
    · cases hk : pickT wordOf 8 l.tail with
      | none => rw [hk] at h; cases h
      | some k =>
        rw [hk] at h
        simp only at h
        cases hh : headP vl e k l.tail.tail with
        | error x => rw [hh] at h; cases h
        | ok y =>
          obtain ⟨vn, l3⟩ := y
          rw [hh] at h
          simp only at h
          cases hs : subsA (exprP vl e f) (partsOf k).toNat l3 [] with
          | error x => rw [hs] at h; cases h
          | ok z =>
            obtain ⟨xs, l4⟩ := z
            rw [hs] at h
            simp only at h
            exact ((closeP_sub h).trans (subsA_sub (exprP_sub f) _ _ _ _ _ hs)).trans ((headP_sub hh).trans ((Sub.tail _).trans (Sub.tail _)))
    · cases h
theorem listG_sub {S : List Tk → PR St} (hS : ∀ l x l', S l = .ok (x, l') → Sub l' l) : ∀ (g : Nat) (l : List Tk) (acc xs : List St) (l' : List Tk), listG S g l acc = .ok (xs, l') → Sub l' l
  | 0, l, acc, xs, l', h => by cases h
  | g + 1, l, acc, xs, l', h => by
    rw [listG] at h
    split at h
    · cases h; exact Sub.tail _
    · cases q : S l with
      | error x => rw [q] at h; cases h
      | ok y =>
        obtain ⟨x, l1⟩ := y
        rw [q] at h
        exact (listG_sub hS g l1 _ xs l' h).trans (hS l x l1 q)
theorem listP_sub {S : List Tk → PR St} {e : Int} (hS : ∀ l x l', S l = .ok (x, l') → Sub l' l) {l l' : List Tk} {xs : List St} (h : listP S e l = .ok (xs, l')) : Sub l' l := by
  rw [listP] at h
  split at h
  · exact (listG_sub hS _ _ _ _ _ h).trans (Sub.tail _)
  · cases h
theorem optP_sub {α : Type} {b : Bool} {z x : α} {a : List Tk → PR α} {l l' : List Tk} (ha : ∀ l x l', a l = .ok (x, l') → Sub l' l) (h : optP b z a l = .ok (x, l')) : Sub l' l := by
  rw [optP] at h
  split at h
  · exact ha _ _ _ h
  · cases h; exact Sub.refl _
theorem stmtP_sub {vl : List Va} {e : Int} : ∀ (f : Nat) (l : List Tk) (x : St) (l' : List Tk), stmtP vl e f l = .ok (x, l') → Sub l' l ∧ l'.length < l.length
  | 0, l, x, l', h => by cases h
  | f + 1, l, x, l', h => by
    rw [stmtP] at h
    split at h
    · rename_i hq
      obtain ⟨t, r, rfl⟩ := isT_cons hq
      rw [List.tail_cons] at h
      cases hk : pickT verbOf 7 r with
      | none => rw [hk] at h; cases h
      | some k =>
        rw [hk] at h
        simp only at h
        obtain ⟨v, l3, h3, h⟩ := bindP_ok h
        obtain ⟨x1, l4, h4, h⟩ := bindP_ok h
        obtain ⟨x2, l5, h5, h⟩ := bindP_ok h
        obtain ⟨x3, l6, h6, h⟩ := bindP_ok h
        obtain ⟨x4, l7, h7, h⟩ := bindP_ok h
        have hS : ∀ l x l', stmtP vl e f l = .ok (x, l') → Sub l' l := fun l x l' h => (stmtP_sub f l x l' h).1
        have hr : Sub l' r := (closeP_sub h).trans ((optP_sub (fun _ _ _ => listP_sub hS) h7).trans ((optP_sub (fun _ _ _ => listP_sub hS) h6).trans ((optP_sub (exprP_sub f) h5).trans ((optP_sub (exprP_sub f) h4).trans ((optP_sub (fun _ _ _ => varP_sub) h3).trans (Sub.tail _))))))
        exact ⟨hr.trans (Sub.tail (t :: r)), by have := hr.2; simp only [List.length_cons]; omega⟩
    · cases h
theorem listG_fuel {S : List Tk → PR St} (hS : ∀ l x l', S l = .ok (x, l') → l'.length < l.length) : ∀ (g g' : Nat) (l : List Tk) (acc : List St), l.length < g → l.length < g' → listG S g l acc = listG S g' l acc
  | 0, g', l, acc, h, h' => by omega
  | g + 1, 0, l, acc, h, h' => by omega
  | g + 1, g' + 1, l, acc, h, h' => by
    rw [listG, listG]
    split
    · rfl
    · cases q : S l with
      | error x => rfl
      | ok y =>
        obtain ⟨x, l1⟩ := y
        have := hS l x l1 q
        exact listG_fuel hS g g' l1 _ (by omega) (by omega)
theorem zeroX_at (σ : PH) : ExAt σ [i64 0, i64 0, i64 0, .slice none 0 0] zeroX := ExAt.of ⟨by decide, by decide⟩ ⟨by decide, by decide⟩ ⟨by decide, by decide⟩ (PSl.nil _ _ _)
end Go.Proofs.YthefnnkmpcgcmaaDoor

namespace Go.Proofs.YthefnnkmpcgcmaaDoor
open Go X
set_option maxHeartbeats 4000000
set_option maxRecDepth 4000
def StmtPOK (vl : List Va) (e : Int) (f : Nat) : Prop := ∀ (σ : PH) (b : Nat) (p : Option Addr) (c : Nat) (pv : Option Addr) (cv : Nat) (l : List Tk) (d : Int), PSl 2 rVa σ (.slice pv vl.length cv) vl → PSl 4 rTk σ (.slice p l.length c) l → (∀ t ∈ l, TkF t) → d + f = 13 → 0 ≤ d → l.length ≤ 10000 →
  CallsA Tryd.prog 67 #[ptr b, i64 d] σ [blk b [.slice p l.length c, i64 e, .slice pv vl.length cv] 83] (EndA
    (fun v σ' Γ' => ∃ x l', stmtP vl e f l = .ok (x, l') ∧ ∃ cs p' c', v = .agg (List.toArray cs) ∧ StAt σ' cs x ∧ PSl 4 rTk σ' (.slice p' l'.length c') l' ∧ σ.sub σ' ∧ Γ' = [blk b [.slice p' l'.length c', i64 e, .slice pv vl.length cv] 83])
    (fun ch σ' Γ' => ∃ x, stmtP vl e f l = .error x ∧ ch = goneP x ∧ σ.sub σ' ∧ ∃ cs, Γ' = [blk b cs 83]))
theorem StmtPOK.ok {vl : List Va} {e : Int} {f : Nat} (h : StmtPOK vl e f) {σ : PH} {b : Nat} {p : Option Addr} {c : Nat} {pv : Option Addr} {cv : Nat} {l : List Tk} {d : Int} (hv : PSl 2 rVa σ (.slice pv vl.length cv) vl) (hl : PSl 4 rTk σ (.slice p l.length c) l) (hF : ∀ t ∈ l, TkF t) (hd : d + f = 13) (hd0 : 0 ≤ d) (hL : l.length ≤ 10000) {x} {l' : List Tk} (ho : stmtP vl e f l = .ok (x, l')) :
    CallsA Tryd.prog 67 #[ptr b, i64 d] σ [blk b [.slice p l.length c, i64 e, .slice pv vl.length cv] 83] (RetA fun v σ' Γ' => ∃ cs p' c', v = .agg (List.toArray cs) ∧ StAt σ' cs x ∧ PSl 4 rTk σ' (.slice p' l'.length c') l' ∧ σ.sub σ' ∧ Γ' = [blk b [.slice p' l'.length c', i64 e, .slice pv vl.length cv] 83]) := by
  refine (h σ b p c pv cv l d hv hl hF hd hd0 hL).mono fun en σ' Γ' hr => ?_
  cases en with
  | returned v =>
    obtain ⟨x', l'', h1, h2⟩ := hr
    rw [ho] at h1
    cases h1
    exact h2
  | panicked ch => obtain ⟨x', h1, -⟩ := hr; rw [ho] at h1; cases h1
  | outgrown => exact False.elim hr
theorem StmtPOK.bad {vl : List Va} {e : Int} {f : Nat} (h : StmtPOK vl e f) {σ : PH} {b : Nat} {p : Option Addr} {c : Nat} {pv : Option Addr} {cv : Nat} {l : List Tk} {d : Int} (hv : PSl 2 rVa σ (.slice pv vl.length cv) vl) (hl : PSl 4 rTk σ (.slice p l.length c) l) (hF : ∀ t ∈ l, TkF t) (hd : d + f = 13) (hd0 : 0 ≤ d) (hL : l.length ≤ 10000) {x : Int × Int} (ho : stmtP vl e f l = .error x) :
    CallsA Tryd.prog 67 #[ptr b, i64 d] σ [blk b [.slice p l.length c, i64 e, .slice pv vl.length cv] 83] (PanA fun ch σ' Γ' => ch = goneP x ∧ σ.sub σ' ∧ ∃ cs, Γ' = [blk b cs 83]) := by
  refine (h σ b p c pv cv l d hv hl hF hd hd0 hL).mono fun en σ' Γ' hr => ?_
  cases en with
  | returned v => obtain ⟨x', l'', h1, -⟩ := hr; rw [ho] at h1; cases h1
  | panicked ch =>
    obtain ⟨x', h1, h2⟩ := hr
    rw [ho] at h1
    cases h1
    exact h2
  | outgrown => exact False.elim hr
def ListPOK (vl : List Va) (e : Int) (f : Nat) : Prop := ∀ (σ : PH) (b : Nat) (p : Option Addr) (c : Nat) (pv : Option Addr) (cv : Nat) (l : List Tk) (d : Int), PSl 2 rVa σ (.slice pv vl.length cv) vl → PSl 4 rTk σ (.slice p l.length c) l → (∀ t ∈ l, TkF t) → d + f = 13 → 0 ≤ d → l.length ≤ 10000 →
  CallsA Tryd.prog 90 #[ptr b, i64 d] σ [blk b [.slice p l.length c, i64 e, .slice pv vl.length cv] 83] (EndA
    (fun v σ' Γ' => ∃ x l', listP (stmtP vl e f) e l = .ok (x, l') ∧ ∃ q m p' c', v = .slice q x.length m ∧ PSl 12 StAt σ' (.slice q x.length m) x ∧ PSl 4 rTk σ' (.slice p' l'.length c') l' ∧ σ.sub σ' ∧ Γ' = [blk b [.slice p' l'.length c', i64 e, .slice pv vl.length cv] 83])
    (fun ch σ' Γ' => ∃ x, listP (stmtP vl e f) e l = .error x ∧ ch = goneP x ∧ σ.sub σ' ∧ ∃ cs, Γ' = [blk b cs 83]))
theorem ListPOK.ok {vl : List Va} {e : Int} {f : Nat} (h : ListPOK vl e f) {σ : PH} {b : Nat} {p : Option Addr} {c : Nat} {pv : Option Addr} {cv : Nat} {l : List Tk} {d : Int} (hv : PSl 2 rVa σ (.slice pv vl.length cv) vl) (hl : PSl 4 rTk σ (.slice p l.length c) l) (hF : ∀ t ∈ l, TkF t) (hd : d + f = 13) (hd0 : 0 ≤ d) (hL : l.length ≤ 10000) {x} {l' : List Tk} (ho : listP (stmtP vl e f) e l = .ok (x, l')) :
    CallsA Tryd.prog 90 #[ptr b, i64 d] σ [blk b [.slice p l.length c, i64 e, .slice pv vl.length cv] 83] (RetA fun v σ' Γ' => ∃ q m p' c', v = .slice q x.length m ∧ PSl 12 StAt σ' (.slice q x.length m) x ∧ PSl 4 rTk σ' (.slice p' l'.length c') l' ∧ σ.sub σ' ∧ Γ' = [blk b [.slice p' l'.length c', i64 e, .slice pv vl.length cv] 83]) := by
  refine (h σ b p c pv cv l d hv hl hF hd hd0 hL).mono fun en σ' Γ' hr => ?_
  cases en with
  | returned v =>
    obtain ⟨x', l'', h1, h2⟩ := hr
    rw [ho] at h1
    cases h1
    exact h2
  | panicked ch => obtain ⟨x', h1, -⟩ := hr; rw [ho] at h1; cases h1
  | outgrown => exact False.elim hr
theorem ListPOK.bad {vl : List Va} {e : Int} {f : Nat} (h : ListPOK vl e f) {σ : PH} {b : Nat} {p : Option Addr} {c : Nat} {pv : Option Addr} {cv : Nat} {l : List Tk} {d : Int} (hv : PSl 2 rVa σ (.slice pv vl.length cv) vl) (hl : PSl 4 rTk σ (.slice p l.length c) l) (hF : ∀ t ∈ l, TkF t) (hd : d + f = 13) (hd0 : 0 ≤ d) (hL : l.length ≤ 10000) {x : Int × Int} (ho : listP (stmtP vl e f) e l = .error x) :
    CallsA Tryd.prog 90 #[ptr b, i64 d] σ [blk b [.slice p l.length c, i64 e, .slice pv vl.length cv] 83] (PanA fun ch σ' Γ' => ch = goneP x ∧ σ.sub σ' ∧ ∃ cs, Γ' = [blk b cs 83]) := by
  refine (h σ b p c pv cv l d hv hl hF hd hd0 hL).mono fun en σ' Γ' hr => ?_
  cases en with
  | returned v => obtain ⟨x', l'', h1, -⟩ := hr; rw [ho] at h1; cases h1
  | panicked ch =>
    obtain ⟨x', h1, h2⟩ := hr
    rw [ho] at h1
    cases h1
    exact h2
  | outgrown => exact False.elim hr
theorem list_p (vl : List Va) (e : Int) (f : Nat) (ih : StmtPOK vl e f) : ListPOK vl e f := by
  intro σ b p c pv cv l d hv hl hF hd hd0 hL
  obtain ⟨R, hR⟩ : ∃ R, listP (stmtP vl e f) e l = R := ⟨_, rfl⟩
  have hR0 := hR
  rw [listP] at hR
  refine enterA2 Tryd.func90 rfl rfl rfl ?_
  refine zS (zR (zO rfl Rd.asg ?_)); refine zN (zT (zS (zR (zA rfl ?_))))
  cases hq : isT lpar l with
  | false =>
    rw [if_neg (by rw [hq]; exact Bool.noConfusion)] at hR
    refine XOA.die rfl (want_bad σ b p c e _ l lpar hl hq) rfl ?_
    rintro _ _ _ ⟨rfl, rfl, rfl⟩
    refine DA.cl ?_
    repeat (first | refine DA.thn_panic ?_ | refine DA.inb_panic ?_)
    exact bodyA.panic zE ⟨_, hR0.trans hR.symm, rfl, .refl _, _, rfl⟩
  | true =>
    obtain ⟨t1, l1, rfl⟩ := isT_cons hq
    rw [if_pos hq, List.tail_cons] at hR
    have hL1 : l1.length ≤ 10000 := by simp only [List.length_cons] at hL; omega
    have hF1 : ∀ t ∈ l1, TkF t := fun t ht => hF t (by simp [ht])
    refine XOA.wr0 rfl (WrA.cE (want_ok σ b p c e _ t1 l1 lpar hl hq) rfl) ?_
    rintro _ _ _ ⟨_, ⟨rfl, p1, c1, hl1, rfl, rfl⟩, rfl⟩
    refine XOA.cl ?_; refine zN (zT (zS (zR (zO rfl Rd.asg ?_)))); refine zN (zT (zS (XA.block ?_)))
    refine XA.gen [(0, _), (1, _), (4, _), (5, _)] ⟨(by with_reducible (conv => lhs; whnf)), (by with_reducible (conv => lhs; whnf)), (by with_reducible (conv => lhs; whnf)), (by with_reducible (conv => lhs; whnf)), trivial⟩ (fun δ => ?_)
    dsimp only [List.foldl]
    refine XA.loop [(5, 5), (8, 16)] (fun q : (Nat × Nat) × (Option Addr × Nat) => [(5, .slice q.2.1 q.1.1 q.2.2)]) (fun q σ' Γ' => σ.sub σ' ∧ ∃ (lc : List Tk) (acc : List St) (pp : Option Addr) (pc : Nat) (rows : List (List Value)), R = listG (stmtP vl e f) (lc.length + 1) lc acc ∧ (∀ t ∈ lc, TkF t) ∧ lc.length = q.1.2 ∧ acc.length = q.1.1 ∧ q.1.1 + q.1.2 ≤ 10000 ∧ PSl 4 rTk σ' (.slice pp lc.length pc) lc ∧ Rows_ 12 StAt σ' rows acc ∧ Γ' = [lst 56 12 (.slice q.2.1 q.1.1 q.2.2) q.1.1 rows.flatten, blk b [.slice pp lc.length pc, i64 e, .slice pv vl.length cv] 83]) (fun q => q.1.2) ((0, l1.length), (none, 0)) (by exact ⟨rfl, trivial⟩) (Δ0 := _) ?_ (⟨.refl _, l1, [], p1, c1, [], hR.symm, hF1, rfl, rfl, by simpa using hL1, hl1, Rows_.nil _ _ _, rfl⟩) ?_
    · exact zE
    rintro ⟨⟨i, n⟩, ⟨pl, cl⟩⟩ δ σ1 _ ⟨hs1, lc, acc, pp, pc, rows, hRc, hFc, hn, hacc, hin, hlc, hrows, rfl⟩
    dsimp only [ovr, List.foldl]
    simp only at hn hacc hin
    subst hn
    have hv1 := hv.mono hs1 (fun _ _ h => h)
    rw [listG] at hRc
    cases hq2 : isT rpar lc with
    | true =>
      obtain ⟨t4, l4, rfl⟩ := isT_cons hq2
      rw [if_pos hq2, List.tail_cons] at hRc
      subst hacc
      refine zS (zS (zR (zA rfl ?_)))
      refine XOA.wr0 rfl (WrA.cE (is_yes σ1 b pp pc e _ t4 l4 rpar hlc hq2) rfl) ?_
      rintro _ _ _ ⟨_, ⟨rfl, p5, c5, hl5, rfl, rfl⟩, rfl⟩
      refine XOA.cl ?_; refine zO rfl zJ ?_; refine zN (zT (XA.condF rfl rfl (XA.exit (DA.thn_exit (DA.thn_exit (DA.inb_same (zT (zS (zR (zA rfl ?_)))))))))); refine zO rfl Rd.asg ?_; refine zN (zT (XA.ret ?_))
      refine DA.frz (R := lst 56 12 _ _ _) zL lst_frz lst_frz_mono ?_
      rintro σ3 ⟨⟩ hf hs3
      exact bodyA.ret (ResA.one rfl rfl) zE ⟨acc, l4, hR0.trans hRc, pl, cl, p5, c5, rfl, (hrows.mono (fun _ _ h => h.mono hs3)).psl rfl hf, hl5.mono hs3 (fun _ _ h => h), hs1.trans hs3, rfl⟩
    | false =>
      rw [if_neg (by rw [hq2]; exact Bool.noConfusion)] at hRc
      refine zS (zS (zR (zA rfl ?_)))
      refine XOA.wr0 rfl (WrA.cE (is_no σ1 b pp pc e _ lc rpar hlc hq2) rfl) ?_
      rintro _ _ _ ⟨_, ⟨rfl, rfl, rfl⟩, rfl⟩
      refine XOA.cl ?_; refine zO rfl zJ ?_; refine zN (zT (XA.condT rfl rfl (XA.skip (zT (XA.block (zR (zA rfl ?_))))))); refine zA rfl ?_; refine zA rfl ?_
      cases hx : stmtP vl e f lc with
      | error x =>
        rw [hx] at hRc
        simp only at hRc
        refine XOA.die rfl (ih.bad hv1 hlc hFc hd hd0 (by omega) hx) rfl ?_
        rintro _ σ2 _ ⟨rfl, hs2, cs2, rfl⟩
        refine DA.cl ?_
        repeat (first | refine DA.thn_panic ?_ | refine DA.inb_panic ?_)
        exact bodyA.panic zE ⟨_, hR0.trans hRc, rfl, hs1.trans hs2, _, rfl⟩
      | ok y =>
        obtain ⟨x, l'⟩ := y
        rw [hx] at hRc
        simp only at hRc
        have hsb := stmtP_sub f _ _ _ hx
        have hRn : R = listG (stmtP vl e f) (l'.length + 1) l' (acc ++ [x]) := by
          rw [hRc]
          exact listG_fuel (fun l x l' h => (stmtP_sub f l x l' h).2) _ _ _ _ hsb.2 (by omega)
        have hlt := hsb.2
        refine XOA.wr0 rfl (WrA.cE (ih.ok hv1 hlc hFc hd hd0 (by omega) hx) rfl) ?_
        rintro _ σ2 _ ⟨_, ⟨cs2, p', c', rfl, hcs2, hl', hs2, rfl⟩, rfl⟩
        refine XOA.cl ?_
        have hl2' := hcs2.len
        have hone2 := hcs2.ones
        refine XOA.wr0 rfl (WrA.bs1 (tyrow rfl) rfl (tyrow rfl)) ?_
        rintro _ _ _ ⟨g15, rfl, rfl, rfl⟩
        refine XOA.wr0 rfl (WrA.ap1 (tyrow rfl) rfl (tyrow rfl) rfl rfl rfl) ?_
        rintro _ _ _ ⟨p16, c16, rfl, rfl, rfl⟩
        refine zO rfl Rd.asg ?_; refine zN (DA.inb_normal (zT ?_))
        have hnew : Rows_ 12 StAt σ2 (rows ++ [cs2]) (acc ++ [x]) := (hrows.mono (fun _ _ h => h.mono hs2)).snoc hl2' hcs2
        refine ⟨(Keep.upd (Keep.updO (Keep.updO (Keep.updO (Keep.upd (Keep.upd (Keep.upd (Keep.upd (Keep.updO (Keep.upd (Keep.upd (Keep.hav (Keep.hav (Keep.refl _ _) rfl) rfl) rfl) rfl) rfl) rfl) rfl) rfl) rfl) rfl) rfl) rfl) rfl), ((i + 1, l'.length), (p16, c16)), _, zM, ?_, ⟨hs1.trans hs2, l', acc ++ [x], p', c', rows ++ [cs2], hRn, (fun t ht => hFc t (hsb.1.1 t ht)), rfl, (by rw [List.length_append, hacc]; rfl), (by show i + 1 + l'.length ≤ 10000; omega), hl', hnew, rfl⟩, (by show l'.length < lc.length; omega)⟩
        · rw [flatS]; exact zE
theorem stmt_p (vl : List Va) (e : Int) : ∀ f : Nat, StmtPOK vl e f
  | 0 => by
    intro σ b p c pv cv l d hv hl hF hd hd0 hL
    have hd : d = 13 := by simpa using hd
    subst hd
    refine enterA2 Tryd.func67 rfl rfl rfl ?_
    refine zS (zR ?_)
    refine XOA.wr0 rfl (WrA.alloc (tyrow rfl)) ?_
    rintro _ _ _ ⟨g4, rfl, rfl, rfl⟩
    refine zN (zT (zS (zR (zA rfl ?_)))); refine zA rfl ?_
    refine XOA.die rfl (deep_bad σ b p c e _ 13 l hl (by decide)) rfl ?_
    rintro _ _ _ ⟨rfl, rfl, rfl⟩
    refine DA.cl ?_
    repeat (first | refine DA.thn_panic ?_ | refine DA.inb_panic ?_)
    exact bodyA.panic zE ⟨_, rfl, rfl, .refl _, _, rfl⟩
  | f + 1 => by
    intro σ b p c pv cv l d hv hl hF hd hd0 hL
    have ihl := list_p vl e f (stmt_p vl e f)
    have hd1 : d ≤ 12 := by omega
    obtain ⟨R, hR⟩ : ∃ R, stmtP vl e (f + 1) l = R := ⟨_, rfl⟩
    have hR0 := hR
    rw [stmtP] at hR
    refine enterA2 Tryd.func67 rfl rfl rfl ?_
    refine zS (zR ?_)
    refine XOA.wr0 rfl (WrA.alloc (tyrow rfl)) ?_
    rintro _ _ _ ⟨g4, rfl, rfl, rfl⟩
    refine zN (zT (zS (zR (zA rfl ?_)))); refine zA rfl ?_
    refine XOA.wr0 rfl (WrA.cE (deep_ok σ b d _ hd1) rfl) ?_
    rintro _ _ _ ⟨_, ⟨rfl, rfl, rfl⟩, rfl⟩
    refine XOA.cl ?_; refine zN (zT (zS (zR (zA rfl ?_))))
    cases hq : isT lpar l with
    | false =>
      rw [if_neg (by rw [hq]; exact Bool.noConfusion)] at hR
      refine XOA.die rfl (want_bad σ b p c e _ l lpar hl hq) rfl ?_
      rintro _ _ _ ⟨rfl, rfl, rfl⟩
      refine DA.cl ?_
      repeat (first | refine DA.thn_panic ?_ | refine DA.inb_panic ?_)
      exact bodyA.panic zE ⟨_, hR0.trans hR.symm, rfl, .refl _, _, rfl⟩
    | true =>
      obtain ⟨t1, l1, rfl⟩ := isT_cons hq
      rw [if_pos hq, List.tail_cons] at hR
      refine XOA.wr0 rfl (WrA.cE (want_ok σ b p c e _ t1 l1 lpar hl hq) rfl) ?_
      rintro _ _ _ ⟨_, ⟨rfl, p1, c1, hl1, rfl, rfl⟩, rfl⟩
      refine XOA.cl ?_; refine zN (zT (zS (zR (zA rfl ?_))))
      cases hk : pickT verbOf 7 l1 with
      | none =>
        rw [hk] at hR
        refine XOA.die rfl (pick_bad σ b p1 c1 e _ 40 verbOf verb_p 7 (by decide) l1 hl1 (fun j a b => pickG_none 7 1 hk j a (by omega))) rfl ?_
        rintro _ _ _ ⟨rfl, rfl, rfl⟩
        refine DA.cl ?_
        repeat (first | refine DA.thn_panic ?_ | refine DA.inb_panic ?_)
        exact bodyA.panic zE ⟨_, hR0.trans hR.symm, rfl, .refl _, _, rfl⟩
      | some k =>
        rw [hk] at hR
        simp only at hR
        obtain ⟨k1, k2, k3, k4⟩ := pickG_some 7 1 hk
        have k2 : k ≤ 7 := by omega
        obtain ⟨t2, l2, rfl⟩ := isT_cons k3
        rw [List.tail_cons] at hR
        have hF2 : ∀ t ∈ l2, TkF t := fun t ht => hF t (by simp [ht])
        have hL2 : l2.length ≤ 10000 := by simp only [List.length_cons] at hL; omega
        refine XOA.wr0 rfl (WrA.cE (pick_ok σ b p1 c1 e _ 40 verbOf verb_p 7 k (by decide) t2 l2 hl1 k1 k2 k3 k4) rfl) ?_
        rintro _ _ _ ⟨_, ⟨rfl, p2, c2, hl2, rfl, rfl⟩, rfl⟩
        refine XOA.cl ?_
        refine zO rfl (Rd.bl (fun _ _ => tyrow) rfl rfl rfl) ?_
        refine XOA.wr0 rfl (WrA.alloc (tyrow rfl)) ?_
        rintro _ _ _ ⟨g5, rfl, rfl, rfl⟩
        refine XOA.wr0 rfl (WrA.st (tyrow rfl) rfl) ?_
        rintro _ _ _ ⟨rfl, rfl, rfl⟩
        refine zN (zT (zS (zR (zV rfl rfl ?_)))); refine zB rfl rfl (tyrow rfl) rfl ?_
        have hk7 : k = 1 ∨ k = 2 ∨ k = 3 ∨ k = 4 ∨ k = 5 ∨ k = 6 ∨ k = 7 := by omega
        rcases hk7 with hk0 | hk0 | hk0 | hk0 | hk0 | hk0 | hk0
        · skip
          subst hk0
          refine XOA.wr0 rfl (WrA.cE (chas_a σ ((1 : Nat) : Int)) rfl) ?_
          rintro _ _ _ ⟨_, ⟨rfl, rfl, rfl⟩, rfl⟩
          refine XOA.cl ?_; refine zA rfl ?_; refine zO rfl (Rd.extract rfl rfl) ?_; refine zO rfl (Rd.extract rfl rfl) ?_; refine zO rfl (Rd.extract rfl rfl) ?_; refine zO rfl (Rd.extract rfl rfl) ?_; refine zO rfl (Rd.extract rfl rfl) ?_; refine zO rfl Rd.asg ?_; refine zO rfl Rd.asg ?_
          refine zO rfl Rd.asg ?_; refine zO rfl Rd.asg ?_; refine zO rfl Rd.asg ?_; refine zN (zT (zS (zS (zR (zA rfl ?_))))); refine zN (zT ?_)
          rw [optP, if_pos (by decide)] at hR
          refine XA.condT rfl rfl (zR (zA rfl ?_))
          cases hxv : varP vl e l2 with
          | error x =>
            rw [hxv] at hR
            simp only [bindP] at hR
            rcases varP_err hxv with ⟨rfl, hx⟩ | ⟨t3, l3, rfl, rfl, hx, hy⟩
            · skip
              refine XOA.die rfl (variable_bad σ b p2 c2 e _ pv vl.length cv l2 hl2 (fun t ht => (hF2 t ht).1) hx) rfl ?_
              rintro _ _ _ ⟨rfl, rfl, rfl⟩
              refine DA.cl ?_
              repeat (first | refine DA.thn_panic ?_ | refine DA.inb_panic ?_)
              exact bodyA.panic zE ⟨_, hR0.trans hR.symm, rfl, .refl _, _, rfl⟩
            · skip
              refine XOA.die rfl (variable_none σ b p2 c2 e vl pv cv t3 l3 hv hl2 (hF2 t3 (by simp)).1 hx hy) rfl ?_
              rintro _ _ _ ⟨rfl, rfl, rfl⟩
              refine DA.cl ?_
              repeat (first | refine DA.thn_panic ?_ | refine DA.inb_panic ?_)
              exact bodyA.panic zE ⟨_, hR0.trans hR.symm, rfl, .refl _, _, rfl⟩
          | ok y =>
            obtain ⟨v3, lv⟩ := y
            rw [hxv] at hR
            simp only [bindP] at hR
            obtain ⟨t3, i3, rfl, rfl, h3, h4⟩ := varP_ok hxv
            have hFv : ∀ t ∈ lv, TkF t := fun t ht => hF2 t (by simp [ht])
            have hLv : lv.length ≤ 10000 := by simp only [List.length_cons] at hL2; omega
            have hi3 := idxG_lt _ _ _ h4
            have hvm := hv.len_le
            refine XOA.wr0 rfl (WrA.cE (variable_ok σ b p2 c2 e vl pv cv i3 t3 lv hv hl2 (hF2 t3 (by simp)).1 h3 h4) rfl) ?_
            rintro _ _ _ ⟨_, ⟨rfl, pv1, cv1, hlv, rfl, rfl⟩, rfl⟩
            refine XOA.cl ?_; refine zV rfl rfl ?_
            refine XOA.wr0 rfl (WrA.st (tyrow rfl) rfl) ?_
            rintro _ _ _ ⟨rfl, rfl, rfl⟩
            refine zN (zT (zS (zS (zR (zA rfl ?_))))); refine zN (zT ?_)
            rw [optP, if_pos (by decide)] at hR
            refine XA.condT rfl rfl (zR (zA rfl ?_)); refine zA rfl ?_; refine zO rfl zI ?_
            cases hxe : exprP vl e f lv with
            | error x =>
              rw [hxe] at hR
              simp only [bindP] at hR
              refine XOA.die rfl ((expr_p vl e f).bad hv hlv hFv (by omega) (by omega) hxe) rfl ?_
              rintro _ σe _ ⟨rfl, hse, cse, rfl⟩
              refine DA.cl ?_
              repeat (first | refine DA.thn_panic ?_ | refine DA.inb_panic ?_)
              exact bodyA.panic zE ⟨_, hR0.trans hR.symm, rfl, hse, _, rfl⟩
            | ok y =>
              obtain ⟨xe, le⟩ := y
              rw [hxe] at hR
              simp only [bindP] at hR
              have hsbe := exprP_sub f _ _ _ hxe
              have hFe : ∀ t ∈ le, TkF t := fun t ht => hFv t (hsbe.1 t ht)
              have hLe : le.length ≤ 10000 := Nat.le_trans hsbe.2 hLv
              refine XOA.wr0 rfl (WrA.cE ((expr_p vl e f).ok hv hlv hFv (by omega) (by omega) hxe) rfl) ?_
              rintro _ σe _ ⟨_, ⟨cse, pe1, ce1, rfl, hce, hle, hse, rfl⟩, rfl⟩
              refine XOA.cl ?_
              obtain ⟨xqe, xde, rfl, -, -, -, -⟩ := hce.inv
              refine zV rfl rfl ?_
              refine XOA.wr0 rfl (WrA.st (tyrow rfl) rfl) ?_
              rintro _ _ _ ⟨rfl, rfl, rfl⟩
              refine zN (zT (zS (zS (zR (zA rfl ?_))))); refine zN (zT ?_)
              rw [optP, if_neg (by decide)] at hR
              simp only [bindP] at hR
              refine XA.condF rfl rfl (XA.skip (zT (zS (zS (zR (zA rfl ?_)))))); refine zN (zT ?_)
              rw [optP, if_neg (by decide)] at hR
              simp only [bindP] at hR
              refine XA.condF rfl rfl (XA.skip (zT (zS (zS (zR (zA rfl ?_)))))); refine zN (zT ?_)
              rw [optP, if_neg (by decide)] at hR
              simp only [bindP] at hR
              refine XA.condF rfl rfl (XA.skip (zT (zS (zR (zA rfl ?_)))))
              rw [closeP] at hR
              cases hc : isT rpar le with
              | false =>
                rw [if_neg (by rw [hc]; exact Bool.noConfusion)] at hR
                refine XOA.die rfl (want_bad σe b pe1 ce1 e _ le rpar hle hc) rfl ?_
                rintro _ _ _ ⟨rfl, rfl, rfl⟩
                refine DA.cl ?_
                repeat (first | refine DA.thn_panic ?_ | refine DA.inb_panic ?_)
                exact bodyA.panic zE ⟨_, hR0.trans hR.symm, rfl, hse, _, rfl⟩
              | true =>
                obtain ⟨t4, l8, rfl⟩ := isT_cons hc
                rw [if_pos hc, List.tail_cons] at hR
                refine XOA.wr0 rfl (WrA.cE (want_ok σe b pe1 ce1 e _ t4 l8 rpar hle hc) rfl) ?_
                rintro _ _ _ ⟨_, ⟨rfl, p8, c8, hl8, rfl, rfl⟩, rfl⟩
                refine XOA.cl ?_; refine zN (zT (zS (zR (zO rfl (Rd.ldA rfl) ?_))))
                refine XOA.wr0 rfl (WrA.st (tyrow rfl) rfl) ?_
                rintro _ _ _ ⟨rfl, rfl, rfl⟩
                refine zN (zT (XA.ret ?_))
                have hfin : StAt σe [i64 ((1 : Nat) : Int), i64 (i3 : Int), i64 xe.op, i64 xe.v, i64 xe.n, .slice xqe xe.l.length xde, i64 0, i64 0, i64 0, .slice none 0 0, .slice none 0 0, .slice none 0 0] (.mk ((1 : Nat) : Int) (i3 : Int) xe zeroX [] []) := StAt.of ⟨by decide, by decide⟩ ⟨by omega, by omega⟩ hce (zeroX_at _) (PSl.nil _ _ _) (PSl.nil _ _ _)
                exact bodyA.ret (ResA.cell rfl rfl (Ld.atBlk (tyrow rfl) rfl zL rfl (by first | exact take0 (by first | rfl | assumption | (refine (ints_len _).trans ?_; assumption) | (simp [*]; (first | done | fail))) | assumption | exact take_app (by first | rfl | assumption | (refine (ints_len _).trans ?_; assumption) | (simp [*]; (first | done | fail))) | (conv => lhs; simp only [List.drop_succ_cons, List.drop_zero, List.take_succ_cons, List.take_zero])) (by first | rfl | assumption | (refine (ints_len _).trans ?_; assumption) | (simp [*]; (first | done | fail))))) zE ⟨_, l8, hR0.trans hR.symm, _, p8, c8, rfl, hfin, hl8, hse, rfl⟩
        · skip
          subst hk0
          refine XOA.wr0 rfl (WrA.cE (chas_a σ ((2 : Nat) : Int)) rfl) ?_
          rintro _ _ _ ⟨_, ⟨rfl, rfl, rfl⟩, rfl⟩
          refine XOA.cl ?_; refine zA rfl ?_; refine zO rfl (Rd.extract rfl rfl) ?_; refine zO rfl (Rd.extract rfl rfl) ?_; refine zO rfl (Rd.extract rfl rfl) ?_; refine zO rfl (Rd.extract rfl rfl) ?_; refine zO rfl (Rd.extract rfl rfl) ?_; refine zO rfl Rd.asg ?_; refine zO rfl Rd.asg ?_
          refine zO rfl Rd.asg ?_; refine zO rfl Rd.asg ?_; refine zO rfl Rd.asg ?_; refine zN (zT (zS (zS (zR (zA rfl ?_))))); refine zN (zT ?_)
          rw [optP, if_pos (by decide)] at hR
          refine XA.condT rfl rfl (zR (zA rfl ?_))
          cases hxv : varP vl e l2 with
          | error x =>
            rw [hxv] at hR
            simp only [bindP] at hR
            rcases varP_err hxv with ⟨rfl, hx⟩ | ⟨t3, l3, rfl, rfl, hx, hy⟩
            · skip
              refine XOA.die rfl (variable_bad σ b p2 c2 e _ pv vl.length cv l2 hl2 (fun t ht => (hF2 t ht).1) hx) rfl ?_
              rintro _ _ _ ⟨rfl, rfl, rfl⟩
              refine DA.cl ?_
              repeat (first | refine DA.thn_panic ?_ | refine DA.inb_panic ?_)
              exact bodyA.panic zE ⟨_, hR0.trans hR.symm, rfl, .refl _, _, rfl⟩
            · skip
              refine XOA.die rfl (variable_none σ b p2 c2 e vl pv cv t3 l3 hv hl2 (hF2 t3 (by simp)).1 hx hy) rfl ?_
              rintro _ _ _ ⟨rfl, rfl, rfl⟩
              refine DA.cl ?_
              repeat (first | refine DA.thn_panic ?_ | refine DA.inb_panic ?_)
              exact bodyA.panic zE ⟨_, hR0.trans hR.symm, rfl, .refl _, _, rfl⟩
          | ok y =>
            obtain ⟨v3, lv⟩ := y
            rw [hxv] at hR
            simp only [bindP] at hR
            obtain ⟨t3, i3, rfl, rfl, h3, h4⟩ := varP_ok hxv
            have hFv : ∀ t ∈ lv, TkF t := fun t ht => hF2 t (by simp [ht])
            have hLv : lv.length ≤ 10000 := by simp only [List.length_cons] at hL2; omega
            have hi3 := idxG_lt _ _ _ h4
            have hvm := hv.len_le
            refine XOA.wr0 rfl (WrA.cE (variable_ok σ b p2 c2 e vl pv cv i3 t3 lv hv hl2 (hF2 t3 (by simp)).1 h3 h4) rfl) ?_
            rintro _ _ _ ⟨_, ⟨rfl, pv1, cv1, hlv, rfl, rfl⟩, rfl⟩
            refine XOA.cl ?_; refine zV rfl rfl ?_
            refine XOA.wr0 rfl (WrA.st (tyrow rfl) rfl) ?_
            rintro _ _ _ ⟨rfl, rfl, rfl⟩
            refine zN (zT (zS (zS (zR (zA rfl ?_))))); refine zN (zT ?_)
            rw [optP, if_pos (by decide)] at hR
            refine XA.condT rfl rfl (zR (zA rfl ?_)); refine zA rfl ?_; refine zO rfl zI ?_
            cases hxe : exprP vl e f lv with
            | error x =>
              rw [hxe] at hR
              simp only [bindP] at hR
              refine XOA.die rfl ((expr_p vl e f).bad hv hlv hFv (by omega) (by omega) hxe) rfl ?_
              rintro _ σe _ ⟨rfl, hse, cse, rfl⟩
              refine DA.cl ?_
              repeat (first | refine DA.thn_panic ?_ | refine DA.inb_panic ?_)
              exact bodyA.panic zE ⟨_, hR0.trans hR.symm, rfl, hse, _, rfl⟩
            | ok y =>
              obtain ⟨xe, le⟩ := y
              rw [hxe] at hR
              simp only [bindP] at hR
              have hsbe := exprP_sub f _ _ _ hxe
              have hFe : ∀ t ∈ le, TkF t := fun t ht => hFv t (hsbe.1 t ht)
              have hLe : le.length ≤ 10000 := Nat.le_trans hsbe.2 hLv
              refine XOA.wr0 rfl (WrA.cE ((expr_p vl e f).ok hv hlv hFv (by omega) (by omega) hxe) rfl) ?_
              rintro _ σe _ ⟨_, ⟨cse, pe1, ce1, rfl, hce, hle, hse, rfl⟩, rfl⟩
              refine XOA.cl ?_
              obtain ⟨xqe, xde, rfl, -, -, -, -⟩ := hce.inv
              refine zV rfl rfl ?_
              refine XOA.wr0 rfl (WrA.st (tyrow rfl) rfl) ?_
              rintro _ _ _ ⟨rfl, rfl, rfl⟩
              refine zN (zT (zS (zS (zR (zA rfl ?_))))); refine zN (zT ?_)
              rw [optP, if_pos (by decide)] at hR
              refine XA.condT rfl rfl (zR (zA rfl ?_)); refine zA rfl ?_; refine zO rfl zI ?_
              cases hxf : exprP vl e f le with
              | error x =>
                rw [hxf] at hR
                simp only [bindP] at hR
                refine XOA.die rfl ((expr_p vl e f).bad (hv.mono (hse) (fun _ _ h => h)) hle hFe (by omega) (by omega) hxf) rfl ?_
                rintro _ σf _ ⟨rfl, hsf, csf, rfl⟩
                refine DA.cl ?_
                repeat (first | refine DA.thn_panic ?_ | refine DA.inb_panic ?_)
                exact bodyA.panic zE ⟨_, hR0.trans hR.symm, rfl, (hse).trans hsf, _, rfl⟩
              | ok y =>
                obtain ⟨xf, lf⟩ := y
                rw [hxf] at hR
                simp only [bindP] at hR
                have hsbf := exprP_sub f _ _ _ hxf
                have hFf : ∀ t ∈ lf, TkF t := fun t ht => hFe t (hsbf.1 t ht)
                have hLf : lf.length ≤ 10000 := Nat.le_trans hsbf.2 hLe
                refine XOA.wr0 rfl (WrA.cE ((expr_p vl e f).ok (hv.mono (hse) (fun _ _ h => h)) hle hFe (by omega) (by omega) hxf) rfl) ?_
                rintro _ σf _ ⟨_, ⟨csf, pf1, cf1, rfl, hcf, hlf, hsf, rfl⟩, rfl⟩
                refine XOA.cl ?_
                obtain ⟨xqf, xdf, rfl, -, -, -, -⟩ := hcf.inv
                refine zV rfl rfl ?_
                refine XOA.wr0 rfl (WrA.st (tyrow rfl) rfl) ?_
                rintro _ _ _ ⟨rfl, rfl, rfl⟩
                refine zN (zT (zS (zS (zR (zA rfl ?_))))); refine zN (zT ?_)
                rw [optP, if_neg (by decide)] at hR
                simp only [bindP] at hR
                refine XA.condF rfl rfl (XA.skip (zT (zS (zS (zR (zA rfl ?_)))))); refine zN (zT ?_)
                rw [optP, if_neg (by decide)] at hR
                simp only [bindP] at hR
                refine XA.condF rfl rfl (XA.skip (zT (zS (zR (zA rfl ?_)))))
                rw [closeP] at hR
                cases hc : isT rpar lf with
                | false =>
                  rw [if_neg (by rw [hc]; exact Bool.noConfusion)] at hR
                  refine XOA.die rfl (want_bad σf b pf1 cf1 e _ lf rpar hlf hc) rfl ?_
                  rintro _ _ _ ⟨rfl, rfl, rfl⟩
                  refine DA.cl ?_
                  repeat (first | refine DA.thn_panic ?_ | refine DA.inb_panic ?_)
                  exact bodyA.panic zE ⟨_, hR0.trans hR.symm, rfl, hse.trans hsf, _, rfl⟩
                | true =>
                  obtain ⟨t4, l8, rfl⟩ := isT_cons hc
                  rw [if_pos hc, List.tail_cons] at hR
                  refine XOA.wr0 rfl (WrA.cE (want_ok σf b pf1 cf1 e _ t4 l8 rpar hlf hc) rfl) ?_
                  rintro _ _ _ ⟨_, ⟨rfl, p8, c8, hl8, rfl, rfl⟩, rfl⟩
                  refine XOA.cl ?_; refine zN (zT (zS (zR (zO rfl (Rd.ldA rfl) ?_))))
                  refine XOA.wr0 rfl (WrA.st (tyrow rfl) rfl) ?_
                  rintro _ _ _ ⟨rfl, rfl, rfl⟩
                  refine zN (zT (XA.ret ?_))
                  have hfin : StAt σf [i64 ((2 : Nat) : Int), i64 (i3 : Int), i64 xe.op, i64 xe.v, i64 xe.n, .slice xqe xe.l.length xde, i64 xf.op, i64 xf.v, i64 xf.n, .slice xqf xf.l.length xdf, .slice none 0 0, .slice none 0 0] (.mk ((2 : Nat) : Int) (i3 : Int) xe xf [] []) := StAt.of ⟨by decide, by decide⟩ ⟨by omega, by omega⟩ (hce.mono (hsf)) hcf (PSl.nil _ _ _) (PSl.nil _ _ _)
                  exact bodyA.ret (ResA.cell rfl rfl (Ld.atBlk (tyrow rfl) rfl zL rfl (by first | exact take0 (by first | rfl | assumption | (refine (ints_len _).trans ?_; assumption) | (simp [*]; (first | done | fail))) | assumption | exact take_app (by first | rfl | assumption | (refine (ints_len _).trans ?_; assumption) | (simp [*]; (first | done | fail))) | (conv => lhs; simp only [List.drop_succ_cons, List.drop_zero, List.take_succ_cons, List.take_zero])) (by first | rfl | assumption | (refine (ints_len _).trans ?_; assumption) | (simp [*]; (first | done | fail))))) zE ⟨_, l8, hR0.trans hR.symm, _, p8, c8, rfl, hfin, hl8, hse.trans hsf, rfl⟩
        · skip
          subst hk0
          refine XOA.wr0 rfl (WrA.cE (chas_a σ ((3 : Nat) : Int)) rfl) ?_
          rintro _ _ _ ⟨_, ⟨rfl, rfl, rfl⟩, rfl⟩
          refine XOA.cl ?_; refine zA rfl ?_; refine zO rfl (Rd.extract rfl rfl) ?_; refine zO rfl (Rd.extract rfl rfl) ?_; refine zO rfl (Rd.extract rfl rfl) ?_; refine zO rfl (Rd.extract rfl rfl) ?_; refine zO rfl (Rd.extract rfl rfl) ?_; refine zO rfl Rd.asg ?_; refine zO rfl Rd.asg ?_
          refine zO rfl Rd.asg ?_; refine zO rfl Rd.asg ?_; refine zO rfl Rd.asg ?_; refine zN (zT (zS (zS (zR (zA rfl ?_))))); refine zN (zT ?_)
          rw [optP, if_neg (by decide)] at hR
          simp only [bindP] at hR
          refine XA.condF rfl rfl (XA.skip (zT (zS (zS (zR (zA rfl ?_)))))); refine zN (zT ?_)
          rw [optP, if_pos (by decide)] at hR
          refine XA.condT rfl rfl (zR (zA rfl ?_)); refine zA rfl ?_; refine zO rfl zI ?_
          cases hxe : exprP vl e f l2 with
          | error x =>
            rw [hxe] at hR
            simp only [bindP] at hR
            refine XOA.die rfl ((expr_p vl e f).bad hv hl2 hF2 (by omega) (by omega) hxe) rfl ?_
            rintro _ σe _ ⟨rfl, hse, cse, rfl⟩
            refine DA.cl ?_
            repeat (first | refine DA.thn_panic ?_ | refine DA.inb_panic ?_)
            exact bodyA.panic zE ⟨_, hR0.trans hR.symm, rfl, hse, _, rfl⟩
          | ok y =>
            obtain ⟨xe, le⟩ := y
            rw [hxe] at hR
            simp only [bindP] at hR
            have hsbe := exprP_sub f _ _ _ hxe
            have hFe : ∀ t ∈ le, TkF t := fun t ht => hF2 t (hsbe.1 t ht)
            have hLe : le.length ≤ 10000 := Nat.le_trans hsbe.2 hL2
            refine XOA.wr0 rfl (WrA.cE ((expr_p vl e f).ok hv hl2 hF2 (by omega) (by omega) hxe) rfl) ?_
            rintro _ σe _ ⟨_, ⟨cse, pe1, ce1, rfl, hce, hle, hse, rfl⟩, rfl⟩
            refine XOA.cl ?_
            obtain ⟨xqe, xde, rfl, -, -, -, -⟩ := hce.inv
            refine zV rfl rfl ?_
            refine XOA.wr0 rfl (WrA.st (tyrow rfl) rfl) ?_
            rintro _ _ _ ⟨rfl, rfl, rfl⟩
            refine zN (zT (zS (zS (zR (zA rfl ?_))))); refine zN (zT ?_)
            rw [optP, if_neg (by decide)] at hR
            simp only [bindP] at hR
            refine XA.condF rfl rfl (XA.skip (zT (zS (zS (zR (zA rfl ?_)))))); refine zN (zT ?_)
            rw [optP, if_neg (by decide)] at hR
            simp only [bindP] at hR
            refine XA.condF rfl rfl (XA.skip (zT (zS (zS (zR (zA rfl ?_)))))); refine zN (zT ?_)
            rw [optP, if_neg (by decide)] at hR
            simp only [bindP] at hR
            refine XA.condF rfl rfl (XA.skip (zT (zS (zR (zA rfl ?_)))))
            rw [closeP] at hR
            cases hc : isT rpar le with
            | false =>
              rw [if_neg (by rw [hc]; exact Bool.noConfusion)] at hR
              refine XOA.die rfl (want_bad σe b pe1 ce1 e _ le rpar hle hc) rfl ?_
              rintro _ _ _ ⟨rfl, rfl, rfl⟩
              refine DA.cl ?_
              repeat (first | refine DA.thn_panic ?_ | refine DA.inb_panic ?_)
              exact bodyA.panic zE ⟨_, hR0.trans hR.symm, rfl, hse, _, rfl⟩
            | true =>
              obtain ⟨t4, l8, rfl⟩ := isT_cons hc
              rw [if_pos hc, List.tail_cons] at hR
              refine XOA.wr0 rfl (WrA.cE (want_ok σe b pe1 ce1 e _ t4 l8 rpar hle hc) rfl) ?_
              rintro _ _ _ ⟨_, ⟨rfl, p8, c8, hl8, rfl, rfl⟩, rfl⟩
              refine XOA.cl ?_; refine zN (zT (zS (zR (zO rfl (Rd.ldA rfl) ?_))))
              refine XOA.wr0 rfl (WrA.st (tyrow rfl) rfl) ?_
              rintro _ _ _ ⟨rfl, rfl, rfl⟩
              refine zN (zT (XA.ret ?_))
              have hfin : StAt σe [i64 ((3 : Nat) : Int), i64 0, i64 xe.op, i64 xe.v, i64 xe.n, .slice xqe xe.l.length xde, i64 0, i64 0, i64 0, .slice none 0 0, .slice none 0 0, .slice none 0 0] (.mk ((3 : Nat) : Int) 0 xe zeroX [] []) := StAt.of ⟨by decide, by decide⟩ ⟨by decide, by decide⟩ hce (zeroX_at _) (PSl.nil _ _ _) (PSl.nil _ _ _)
              exact bodyA.ret (ResA.cell rfl rfl (Ld.atBlk (tyrow rfl) rfl zL rfl (by first | exact take0 (by first | rfl | assumption | (refine (ints_len _).trans ?_; assumption) | (simp [*]; (first | done | fail))) | assumption | exact take_app (by first | rfl | assumption | (refine (ints_len _).trans ?_; assumption) | (simp [*]; (first | done | fail))) | (conv => lhs; simp only [List.drop_succ_cons, List.drop_zero, List.take_succ_cons, List.take_zero])) (by first | rfl | assumption | (refine (ints_len _).trans ?_; assumption) | (simp [*]; (first | done | fail))))) zE ⟨_, l8, hR0.trans hR.symm, _, p8, c8, rfl, hfin, hl8, hse, rfl⟩
        · skip
          subst hk0
          refine XOA.wr0 rfl (WrA.cE (chas_a σ ((4 : Nat) : Int)) rfl) ?_
          rintro _ _ _ ⟨_, ⟨rfl, rfl, rfl⟩, rfl⟩
          refine XOA.cl ?_; refine zA rfl ?_; refine zO rfl (Rd.extract rfl rfl) ?_; refine zO rfl (Rd.extract rfl rfl) ?_; refine zO rfl (Rd.extract rfl rfl) ?_; refine zO rfl (Rd.extract rfl rfl) ?_; refine zO rfl (Rd.extract rfl rfl) ?_; refine zO rfl Rd.asg ?_; refine zO rfl Rd.asg ?_
          refine zO rfl Rd.asg ?_; refine zO rfl Rd.asg ?_; refine zO rfl Rd.asg ?_; refine zN (zT (zS (zS (zR (zA rfl ?_))))); refine zN (zT ?_)
          rw [optP, if_pos (by decide)] at hR
          refine XA.condT rfl rfl (zR (zA rfl ?_))
          cases hxv : varP vl e l2 with
          | error x =>
            rw [hxv] at hR
            simp only [bindP] at hR
            rcases varP_err hxv with ⟨rfl, hx⟩ | ⟨t3, l3, rfl, rfl, hx, hy⟩
            · skip
              refine XOA.die rfl (variable_bad σ b p2 c2 e _ pv vl.length cv l2 hl2 (fun t ht => (hF2 t ht).1) hx) rfl ?_
              rintro _ _ _ ⟨rfl, rfl, rfl⟩
              refine DA.cl ?_
              repeat (first | refine DA.thn_panic ?_ | refine DA.inb_panic ?_)
              exact bodyA.panic zE ⟨_, hR0.trans hR.symm, rfl, .refl _, _, rfl⟩
            · skip
              refine XOA.die rfl (variable_none σ b p2 c2 e vl pv cv t3 l3 hv hl2 (hF2 t3 (by simp)).1 hx hy) rfl ?_
              rintro _ _ _ ⟨rfl, rfl, rfl⟩
              refine DA.cl ?_
              repeat (first | refine DA.thn_panic ?_ | refine DA.inb_panic ?_)
              exact bodyA.panic zE ⟨_, hR0.trans hR.symm, rfl, .refl _, _, rfl⟩
          | ok y =>
            obtain ⟨v3, lv⟩ := y
            rw [hxv] at hR
            simp only [bindP] at hR
            obtain ⟨t3, i3, rfl, rfl, h3, h4⟩ := varP_ok hxv
            have hFv : ∀ t ∈ lv, TkF t := fun t ht => hF2 t (by simp [ht])
            have hLv : lv.length ≤ 10000 := by simp only [List.length_cons] at hL2; omega
            have hi3 := idxG_lt _ _ _ h4
            have hvm := hv.len_le
            refine XOA.wr0 rfl (WrA.cE (variable_ok σ b p2 c2 e vl pv cv i3 t3 lv hv hl2 (hF2 t3 (by simp)).1 h3 h4) rfl) ?_
            rintro _ _ _ ⟨_, ⟨rfl, pv1, cv1, hlv, rfl, rfl⟩, rfl⟩
            refine XOA.cl ?_; refine zV rfl rfl ?_
            refine XOA.wr0 rfl (WrA.st (tyrow rfl) rfl) ?_
            rintro _ _ _ ⟨rfl, rfl, rfl⟩
            refine zN (zT (zS (zS (zR (zA rfl ?_))))); refine zN (zT ?_)
            rw [optP, if_neg (by decide)] at hR
            simp only [bindP] at hR
            refine XA.condF rfl rfl (XA.skip (zT (zS (zS (zR (zA rfl ?_)))))); refine zN (zT ?_)
            rw [optP, if_neg (by decide)] at hR
            simp only [bindP] at hR
            refine XA.condF rfl rfl (XA.skip (zT (zS (zS (zR (zA rfl ?_)))))); refine zN (zT ?_)
            rw [optP, if_neg (by decide)] at hR
            simp only [bindP] at hR
            refine XA.condF rfl rfl (XA.skip (zT (zS (zS (zR (zA rfl ?_)))))); refine zN (zT ?_)
            rw [optP, if_neg (by decide)] at hR
            simp only [bindP] at hR
            refine XA.condF rfl rfl (XA.skip (zT (zS (zR (zA rfl ?_)))))
            rw [closeP] at hR
            cases hc : isT rpar lv with
            | false =>
              rw [if_neg (by rw [hc]; exact Bool.noConfusion)] at hR
              refine XOA.die rfl (want_bad σ b pv1 cv1 e _ lv rpar hlv hc) rfl ?_
              rintro _ _ _ ⟨rfl, rfl, rfl⟩
              refine DA.cl ?_
              repeat (first | refine DA.thn_panic ?_ | refine DA.inb_panic ?_)
              exact bodyA.panic zE ⟨_, hR0.trans hR.symm, rfl, .refl _, _, rfl⟩
            | true =>
              obtain ⟨t4, l8, rfl⟩ := isT_cons hc
              rw [if_pos hc, List.tail_cons] at hR
              refine XOA.wr0 rfl (WrA.cE (want_ok σ b pv1 cv1 e _ t4 l8 rpar hlv hc) rfl) ?_
              rintro _ _ _ ⟨_, ⟨rfl, p8, c8, hl8, rfl, rfl⟩, rfl⟩
              refine XOA.cl ?_; refine zN (zT (zS (zR (zO rfl (Rd.ldA rfl) ?_))))
              refine XOA.wr0 rfl (WrA.st (tyrow rfl) rfl) ?_
              rintro _ _ _ ⟨rfl, rfl, rfl⟩
              refine zN (zT (XA.ret ?_))
              have hfin : StAt σ [i64 ((4 : Nat) : Int), i64 (i3 : Int), i64 0, i64 0, i64 0, .slice none 0 0, i64 0, i64 0, i64 0, .slice none 0 0, .slice none 0 0, .slice none 0 0] (.mk ((4 : Nat) : Int) (i3 : Int) zeroX zeroX [] []) := StAt.of ⟨by decide, by decide⟩ ⟨by omega, by omega⟩ (zeroX_at _) (zeroX_at _) (PSl.nil _ _ _) (PSl.nil _ _ _)
              exact bodyA.ret (ResA.cell rfl rfl (Ld.atBlk (tyrow rfl) rfl zL rfl (by first | exact take0 (by first | rfl | assumption | (refine (ints_len _).trans ?_; assumption) | (simp [*]; (first | done | fail))) | assumption | exact take_app (by first | rfl | assumption | (refine (ints_len _).trans ?_; assumption) | (simp [*]; (first | done | fail))) | (conv => lhs; simp only [List.drop_succ_cons, List.drop_zero, List.take_succ_cons, List.take_zero])) (by first | rfl | assumption | (refine (ints_len _).trans ?_; assumption) | (simp [*]; (first | done | fail))))) zE ⟨_, l8, hR0.trans hR.symm, _, p8, c8, rfl, hfin, hl8, .refl _, rfl⟩
        · skip
          subst hk0
          refine XOA.wr0 rfl (WrA.cE (chas_a σ ((5 : Nat) : Int)) rfl) ?_
          rintro _ _ _ ⟨_, ⟨rfl, rfl, rfl⟩, rfl⟩
          refine XOA.cl ?_; refine zA rfl ?_; refine zO rfl (Rd.extract rfl rfl) ?_; refine zO rfl (Rd.extract rfl rfl) ?_; refine zO rfl (Rd.extract rfl rfl) ?_; refine zO rfl (Rd.extract rfl rfl) ?_; refine zO rfl (Rd.extract rfl rfl) ?_; refine zO rfl Rd.asg ?_; refine zO rfl Rd.asg ?_
          refine zO rfl Rd.asg ?_; refine zO rfl Rd.asg ?_; refine zO rfl Rd.asg ?_; refine zN (zT (zS (zS (zR (zA rfl ?_))))); refine zN (zT ?_)
          rw [optP, if_neg (by decide)] at hR
          simp only [bindP] at hR
          refine XA.condF rfl rfl (XA.skip (zT (zS (zS (zR (zA rfl ?_)))))); refine zN (zT ?_)
          rw [optP, if_pos (by decide)] at hR
          refine XA.condT rfl rfl (zR (zA rfl ?_)); refine zA rfl ?_; refine zO rfl zI ?_
          cases hxe : exprP vl e f l2 with
          | error x =>
            rw [hxe] at hR
            simp only [bindP] at hR
            refine XOA.die rfl ((expr_p vl e f).bad hv hl2 hF2 (by omega) (by omega) hxe) rfl ?_
            rintro _ σe _ ⟨rfl, hse, cse, rfl⟩
            refine DA.cl ?_
            repeat (first | refine DA.thn_panic ?_ | refine DA.inb_panic ?_)
            exact bodyA.panic zE ⟨_, hR0.trans hR.symm, rfl, hse, _, rfl⟩
          | ok y =>
            obtain ⟨xe, le⟩ := y
            rw [hxe] at hR
            simp only [bindP] at hR
            have hsbe := exprP_sub f _ _ _ hxe
            have hFe : ∀ t ∈ le, TkF t := fun t ht => hF2 t (hsbe.1 t ht)
            have hLe : le.length ≤ 10000 := Nat.le_trans hsbe.2 hL2
            refine XOA.wr0 rfl (WrA.cE ((expr_p vl e f).ok hv hl2 hF2 (by omega) (by omega) hxe) rfl) ?_
            rintro _ σe _ ⟨_, ⟨cse, pe1, ce1, rfl, hce, hle, hse, rfl⟩, rfl⟩
            refine XOA.cl ?_
            obtain ⟨xqe, xde, rfl, -, -, -, -⟩ := hce.inv
            refine zV rfl rfl ?_
            refine XOA.wr0 rfl (WrA.st (tyrow rfl) rfl) ?_
            rintro _ _ _ ⟨rfl, rfl, rfl⟩
            refine zN (zT (zS (zS (zR (zA rfl ?_))))); refine zN (zT ?_)
            rw [optP, if_neg (by decide)] at hR
            simp only [bindP] at hR
            refine XA.condF rfl rfl (XA.skip (zT (zS (zS (zR (zA rfl ?_)))))); refine zN (zT ?_)
            rw [optP, if_pos (by decide)] at hR
            refine XA.condT rfl rfl (zR (zA rfl ?_)); refine zA rfl ?_; refine zO rfl zI ?_
            cases hxb : listP (stmtP vl e f) e le with
            | error x =>
              rw [hxb] at hR
              simp only [bindP] at hR
              refine XOA.die rfl (ihl.bad (hv.mono (hse) (fun _ _ h => h)) hle hFe (by omega) (by omega) hLe hxb) rfl ?_
              rintro _ σb _ ⟨rfl, hsb, csb, rfl⟩
              refine DA.cl ?_
              repeat (first | refine DA.thn_panic ?_ | refine DA.inb_panic ?_)
              exact bodyA.panic zE ⟨_, hR0.trans hR.symm, rfl, (hse).trans hsb, _, rfl⟩
            | ok y =>
              obtain ⟨xb, lb⟩ := y
              rw [hxb] at hR
              simp only [bindP] at hR
              have hsbb := listP_sub (fun l x l' h => (stmtP_sub f l x l' h).1) hxb
              have hFb : ∀ t ∈ lb, TkF t := fun t ht => hFe t (hsbb.1 t ht)
              have hLb : lb.length ≤ 10000 := Nat.le_trans hsbb.2 hLe
              refine XOA.wr0 rfl (WrA.cE (ihl.ok (hv.mono (hse) (fun _ _ h => h)) hle hFe (by omega) (by omega) hLe hxb) rfl) ?_
              rintro _ σb _ ⟨_, ⟨qb, mb, pb1, cb1, rfl, hcb, hlb, hsb, rfl⟩, rfl⟩
              refine XOA.cl ?_; refine zV rfl rfl ?_
              refine XOA.wr0 rfl (WrA.st (tyrow rfl) rfl) ?_
              rintro _ _ _ ⟨rfl, rfl, rfl⟩
              refine zN (zT (zS (zS (zR (zA rfl ?_))))); refine zN (zT ?_)
              rw [optP, if_neg (by decide)] at hR
              simp only [bindP] at hR
              refine XA.condF rfl rfl (XA.skip (zT (zS (zR (zA rfl ?_)))))
              rw [closeP] at hR
              cases hc : isT rpar lb with
              | false =>
                rw [if_neg (by rw [hc]; exact Bool.noConfusion)] at hR
                refine XOA.die rfl (want_bad σb b pb1 cb1 e _ lb rpar hlb hc) rfl ?_
                rintro _ _ _ ⟨rfl, rfl, rfl⟩
                refine DA.cl ?_
                repeat (first | refine DA.thn_panic ?_ | refine DA.inb_panic ?_)
                exact bodyA.panic zE ⟨_, hR0.trans hR.symm, rfl, hse.trans hsb, _, rfl⟩
              | true =>
                obtain ⟨t4, l8, rfl⟩ := isT_cons hc
                rw [if_pos hc, List.tail_cons] at hR
                refine XOA.wr0 rfl (WrA.cE (want_ok σb b pb1 cb1 e _ t4 l8 rpar hlb hc) rfl) ?_
                rintro _ _ _ ⟨_, ⟨rfl, p8, c8, hl8, rfl, rfl⟩, rfl⟩
                refine XOA.cl ?_; refine zN (zT (zS (zR (zO rfl (Rd.ldA rfl) ?_))))
                refine XOA.wr0 rfl (WrA.st (tyrow rfl) rfl) ?_
                rintro _ _ _ ⟨rfl, rfl, rfl⟩
                refine zN (zT (XA.ret ?_))
                have hfin : StAt σb [i64 ((5 : Nat) : Int), i64 0, i64 xe.op, i64 xe.v, i64 xe.n, .slice xqe xe.l.length xde, i64 0, i64 0, i64 0, .slice none 0 0, .slice qb xb.length mb, .slice none 0 0] (.mk ((5 : Nat) : Int) 0 xe zeroX xb []) := StAt.of ⟨by decide, by decide⟩ ⟨by decide, by decide⟩ (hce.mono (hsb)) (zeroX_at _) hcb (PSl.nil _ _ _)
                exact bodyA.ret (ResA.cell rfl rfl (Ld.atBlk (tyrow rfl) rfl zL rfl (by first | exact take0 (by first | rfl | assumption | (refine (ints_len _).trans ?_; assumption) | (simp [*]; (first | done | fail))) | assumption | exact take_app (by first | rfl | assumption | (refine (ints_len _).trans ?_; assumption) | (simp [*]; (first | done | fail))) | (conv => lhs; simp only [List.drop_succ_cons, List.drop_zero, List.take_succ_cons, List.take_zero])) (by first | rfl | assumption | (refine (ints_len _).trans ?_; assumption) | (simp [*]; (first | done | fail))))) zE ⟨_, l8, hR0.trans hR.symm, _, p8, c8, rfl, hfin, hl8, hse.trans hsb, rfl⟩
        · skip
          subst hk0
          refine XOA.wr0 rfl (WrA.cE (chas_a σ ((6 : Nat) : Int)) rfl) ?_
          rintro _ _ _ ⟨_, ⟨rfl, rfl, rfl⟩, rfl⟩
          refine XOA.cl ?_; refine zA rfl ?_; refine zO rfl (Rd.extract rfl rfl) ?_; refine zO rfl (Rd.extract rfl rfl) ?_; refine zO rfl (Rd.extract rfl rfl) ?_; refine zO rfl (Rd.extract rfl rfl) ?_; refine zO rfl (Rd.extract rfl rfl) ?_; refine zO rfl Rd.asg ?_; refine zO rfl Rd.asg ?_
          refine zO rfl Rd.asg ?_; refine zO rfl Rd.asg ?_; refine zO rfl Rd.asg ?_; refine zN (zT (zS (zS (zR (zA rfl ?_))))); refine zN (zT ?_)
          rw [optP, if_neg (by decide)] at hR
          simp only [bindP] at hR
          refine XA.condF rfl rfl (XA.skip (zT (zS (zS (zR (zA rfl ?_)))))); refine zN (zT ?_)
          rw [optP, if_pos (by decide)] at hR
          refine XA.condT rfl rfl (zR (zA rfl ?_)); refine zA rfl ?_; refine zO rfl zI ?_
          cases hxe : exprP vl e f l2 with
          | error x =>
            rw [hxe] at hR
            simp only [bindP] at hR
            refine XOA.die rfl ((expr_p vl e f).bad hv hl2 hF2 (by omega) (by omega) hxe) rfl ?_
            rintro _ σe _ ⟨rfl, hse, cse, rfl⟩
            refine DA.cl ?_
            repeat (first | refine DA.thn_panic ?_ | refine DA.inb_panic ?_)
            exact bodyA.panic zE ⟨_, hR0.trans hR.symm, rfl, hse, _, rfl⟩
          | ok y =>
            obtain ⟨xe, le⟩ := y
            rw [hxe] at hR
            simp only [bindP] at hR
            have hsbe := exprP_sub f _ _ _ hxe
            have hFe : ∀ t ∈ le, TkF t := fun t ht => hF2 t (hsbe.1 t ht)
            have hLe : le.length ≤ 10000 := Nat.le_trans hsbe.2 hL2
            refine XOA.wr0 rfl (WrA.cE ((expr_p vl e f).ok hv hl2 hF2 (by omega) (by omega) hxe) rfl) ?_
            rintro _ σe _ ⟨_, ⟨cse, pe1, ce1, rfl, hce, hle, hse, rfl⟩, rfl⟩
            refine XOA.cl ?_
            obtain ⟨xqe, xde, rfl, -, -, -, -⟩ := hce.inv
            refine zV rfl rfl ?_
            refine XOA.wr0 rfl (WrA.st (tyrow rfl) rfl) ?_
            rintro _ _ _ ⟨rfl, rfl, rfl⟩
            refine zN (zT (zS (zS (zR (zA rfl ?_))))); refine zN (zT ?_)
            rw [optP, if_neg (by decide)] at hR
            simp only [bindP] at hR
            refine XA.condF rfl rfl (XA.skip (zT (zS (zS (zR (zA rfl ?_)))))); refine zN (zT ?_)
            rw [optP, if_pos (by decide)] at hR
            refine XA.condT rfl rfl (zR (zA rfl ?_)); refine zA rfl ?_; refine zO rfl zI ?_
            cases hxb : listP (stmtP vl e f) e le with
            | error x =>
              rw [hxb] at hR
              simp only [bindP] at hR
              refine XOA.die rfl (ihl.bad (hv.mono (hse) (fun _ _ h => h)) hle hFe (by omega) (by omega) hLe hxb) rfl ?_
              rintro _ σb _ ⟨rfl, hsb, csb, rfl⟩
              refine DA.cl ?_
              repeat (first | refine DA.thn_panic ?_ | refine DA.inb_panic ?_)
              exact bodyA.panic zE ⟨_, hR0.trans hR.symm, rfl, (hse).trans hsb, _, rfl⟩
            | ok y =>
              obtain ⟨xb, lb⟩ := y
              rw [hxb] at hR
              simp only [bindP] at hR
              have hsbb := listP_sub (fun l x l' h => (stmtP_sub f l x l' h).1) hxb
              have hFb : ∀ t ∈ lb, TkF t := fun t ht => hFe t (hsbb.1 t ht)
              have hLb : lb.length ≤ 10000 := Nat.le_trans hsbb.2 hLe
              refine XOA.wr0 rfl (WrA.cE (ihl.ok (hv.mono (hse) (fun _ _ h => h)) hle hFe (by omega) (by omega) hLe hxb) rfl) ?_
              rintro _ σb _ ⟨_, ⟨qb, mb, pb1, cb1, rfl, hcb, hlb, hsb, rfl⟩, rfl⟩
              refine XOA.cl ?_; refine zV rfl rfl ?_
              refine XOA.wr0 rfl (WrA.st (tyrow rfl) rfl) ?_
              rintro _ _ _ ⟨rfl, rfl, rfl⟩
              refine zN (zT (zS (zS (zR (zA rfl ?_))))); refine zN (zT ?_)
              rw [optP, if_pos (by decide)] at hR
              refine XA.condT rfl rfl (zR (zA rfl ?_)); refine zA rfl ?_; refine zO rfl zI ?_
              cases hxo : listP (stmtP vl e f) e lb with
              | error x =>
                rw [hxo] at hR
                simp only [bindP] at hR
                refine XOA.die rfl (ihl.bad (hv.mono (hse.trans hsb) (fun _ _ h => h)) hlb hFb (by omega) (by omega) hLb hxo) rfl ?_
                rintro _ σo _ ⟨rfl, hso, cso, rfl⟩
                refine DA.cl ?_
                repeat (first | refine DA.thn_panic ?_ | refine DA.inb_panic ?_)
                exact bodyA.panic zE ⟨_, hR0.trans hR.symm, rfl, (hse.trans hsb).trans hso, _, rfl⟩
              | ok y =>
                obtain ⟨xo, lo⟩ := y
                rw [hxo] at hR
                simp only [bindP] at hR
                have hsbo := listP_sub (fun l x l' h => (stmtP_sub f l x l' h).1) hxo
                have hFo : ∀ t ∈ lo, TkF t := fun t ht => hFb t (hsbo.1 t ht)
                have hLo : lo.length ≤ 10000 := Nat.le_trans hsbo.2 hLb
                refine XOA.wr0 rfl (WrA.cE (ihl.ok (hv.mono (hse.trans hsb) (fun _ _ h => h)) hlb hFb (by omega) (by omega) hLb hxo) rfl) ?_
                rintro _ σo _ ⟨_, ⟨qo, mo, po1, co1, rfl, hco, hlo, hso, rfl⟩, rfl⟩
                refine XOA.cl ?_; refine zV rfl rfl ?_
                refine XOA.wr0 rfl (WrA.st (tyrow rfl) rfl) ?_
                rintro _ _ _ ⟨rfl, rfl, rfl⟩
                refine zN (zT (zS (zR (zA rfl ?_))))
                rw [closeP] at hR
                cases hc : isT rpar lo with
                | false =>
                  rw [if_neg (by rw [hc]; exact Bool.noConfusion)] at hR
                  refine XOA.die rfl (want_bad σo b po1 co1 e _ lo rpar hlo hc) rfl ?_
                  rintro _ _ _ ⟨rfl, rfl, rfl⟩
                  refine DA.cl ?_
                  repeat (first | refine DA.thn_panic ?_ | refine DA.inb_panic ?_)
                  exact bodyA.panic zE ⟨_, hR0.trans hR.symm, rfl, hse.trans (hsb.trans hso), _, rfl⟩
                | true =>
                  obtain ⟨t4, l8, rfl⟩ := isT_cons hc
                  rw [if_pos hc, List.tail_cons] at hR
                  refine XOA.wr0 rfl (WrA.cE (want_ok σo b po1 co1 e _ t4 l8 rpar hlo hc) rfl) ?_
                  rintro _ _ _ ⟨_, ⟨rfl, p8, c8, hl8, rfl, rfl⟩, rfl⟩
                  refine XOA.cl ?_; refine zN (zT (zS (zR (zO rfl (Rd.ldA rfl) ?_))))
                  refine XOA.wr0 rfl (WrA.st (tyrow rfl) rfl) ?_
                  rintro _ _ _ ⟨rfl, rfl, rfl⟩
                  refine zN (zT (XA.ret ?_))
                  have hfin : StAt σo [i64 ((6 : Nat) : Int), i64 0, i64 xe.op, i64 xe.v, i64 xe.n, .slice xqe xe.l.length xde, i64 0, i64 0, i64 0, .slice none 0 0, .slice qb xb.length mb, .slice qo xo.length mo] (.mk ((6 : Nat) : Int) 0 xe zeroX xb xo) := StAt.of ⟨by decide, by decide⟩ ⟨by decide, by decide⟩ (hce.mono (hsb.trans hso)) (zeroX_at _) (hcb.mono (hso) (fun _ _ h => h.mono (hso))) hco
                  exact bodyA.ret (ResA.cell rfl rfl (Ld.atBlk (tyrow rfl) rfl zL rfl (by first | exact take0 (by first | rfl | assumption | (refine (ints_len _).trans ?_; assumption) | (simp [*]; (first | done | fail))) | assumption | exact take_app (by first | rfl | assumption | (refine (ints_len _).trans ?_; assumption) | (simp [*]; (first | done | fail))) | (conv => lhs; simp only [List.drop_succ_cons, List.drop_zero, List.take_succ_cons, List.take_zero])) (by first | rfl | assumption | (refine (ints_len _).trans ?_; assumption) | (simp [*]; (first | done | fail))))) zE ⟨_, l8, hR0.trans hR.symm, _, p8, c8, rfl, hfin, hl8, hse.trans (hsb.trans hso), rfl⟩
        · skip
          subst hk0
          refine XOA.wr0 rfl (WrA.cE (chas_a σ ((7 : Nat) : Int)) rfl) ?_
          rintro _ _ _ ⟨_, ⟨rfl, rfl, rfl⟩, rfl⟩
          refine XOA.cl ?_; refine zA rfl ?_; refine zO rfl (Rd.extract rfl rfl) ?_; refine zO rfl (Rd.extract rfl rfl) ?_; refine zO rfl (Rd.extract rfl rfl) ?_; refine zO rfl (Rd.extract rfl rfl) ?_; refine zO rfl (Rd.extract rfl rfl) ?_; refine zO rfl Rd.asg ?_; refine zO rfl Rd.asg ?_
          refine zO rfl Rd.asg ?_; refine zO rfl Rd.asg ?_; refine zO rfl Rd.asg ?_; refine zN (zT (zS (zS (zR (zA rfl ?_))))); refine zN (zT ?_)
          rw [optP, if_neg (by decide)] at hR
          simp only [bindP] at hR
          refine XA.condF rfl rfl (XA.skip (zT (zS (zS (zR (zA rfl ?_)))))); refine zN (zT ?_)
          rw [optP, if_neg (by decide)] at hR
          simp only [bindP] at hR
          refine XA.condF rfl rfl (XA.skip (zT (zS (zS (zR (zA rfl ?_)))))); refine zN (zT ?_)
          rw [optP, if_neg (by decide)] at hR
          simp only [bindP] at hR
          refine XA.condF rfl rfl (XA.skip (zT (zS (zS (zR (zA rfl ?_)))))); refine zN (zT ?_)
          rw [optP, if_neg (by decide)] at hR
          simp only [bindP] at hR
          refine XA.condF rfl rfl (XA.skip (zT (zS (zS (zR (zA rfl ?_)))))); refine zN (zT ?_)
          rw [optP, if_neg (by decide)] at hR
          simp only [bindP] at hR
          refine XA.condF rfl rfl (XA.skip (zT (zS (zR (zA rfl ?_)))))
          rw [closeP] at hR
          cases hc : isT rpar l2 with
          | false =>
            rw [if_neg (by rw [hc]; exact Bool.noConfusion)] at hR
            refine XOA.die rfl (want_bad σ b p2 c2 e _ l2 rpar hl2 hc) rfl ?_
            rintro _ _ _ ⟨rfl, rfl, rfl⟩
            refine DA.cl ?_
            repeat (first | refine DA.thn_panic ?_ | refine DA.inb_panic ?_)
            exact bodyA.panic zE ⟨_, hR0.trans hR.symm, rfl, .refl _, _, rfl⟩
          | true =>
            obtain ⟨t4, l8, rfl⟩ := isT_cons hc
            rw [if_pos hc, List.tail_cons] at hR
            refine XOA.wr0 rfl (WrA.cE (want_ok σ b p2 c2 e _ t4 l8 rpar hl2 hc) rfl) ?_
            rintro _ _ _ ⟨_, ⟨rfl, p8, c8, hl8, rfl, rfl⟩, rfl⟩
            refine XOA.cl ?_; refine zN (zT (zS (zR (zO rfl (Rd.ldA rfl) ?_))))
            refine XOA.wr0 rfl (WrA.st (tyrow rfl) rfl) ?_
            rintro _ _ _ ⟨rfl, rfl, rfl⟩
            refine zN (zT (XA.ret ?_))
            have hfin : StAt σ [i64 ((7 : Nat) : Int), i64 0, i64 0, i64 0, i64 0, .slice none 0 0, i64 0, i64 0, i64 0, .slice none 0 0, .slice none 0 0, .slice none 0 0] (.mk ((7 : Nat) : Int) 0 zeroX zeroX [] []) := StAt.of ⟨by decide, by decide⟩ ⟨by decide, by decide⟩ (zeroX_at _) (zeroX_at _) (PSl.nil _ _ _) (PSl.nil _ _ _)
            exact bodyA.ret (ResA.cell rfl rfl (Ld.atBlk (tyrow rfl) rfl zL rfl (by first | exact take0 (by first | rfl | assumption | (refine (ints_len _).trans ?_; assumption) | (simp [*]; (first | done | fail))) | assumption | exact take_app (by first | rfl | assumption | (refine (ints_len _).trans ?_; assumption) | (simp [*]; (first | done | fail))) | (conv => lhs; simp only [List.drop_succ_cons, List.drop_zero, List.take_succ_cons, List.take_zero])) (by first | rfl | assumption | (refine (ints_len _).trans ?_; assumption) | (simp [*]; (first | done | fail))))) zE ⟨_, l8, hR0.trans hR.symm, _, p8, c8, rfl, hfin, hl8, .refl _, rfl⟩
end Go.Proofs.YthefnnkmpcgcmaaDoor

namespace Go.Proofs.YthefnnkmpcgcmaaDoor
open Go X
set_option maxHeartbeats 4000000
set_option maxRecDepth 4000
abbrev kwLet : ByteArray := ⟨#[108, 101, 116]⟩
def nameP (e : Int) (l : List Tk) : PR ByteArray := match l with
  | t :: r => if nameOk t.text = true then .ok (t.text, r) else .error (failAt e l 5)
  | [] => .error (failAt e l 5)
def cutN (n : Int) : Int := if n < 1 ∨ 48 < n then 0 else n
def letsG (e : Int) : Nat → List Tk → List Va → PR (List Va)
  | 0, _, _ => .error (0, 0)
  | g + 1, l, acc => if isT kwLet l = true then bindP (nameP e l.tail) fun s l1 => bindP (numP e l1) fun n l2 => letsG e g l2 (acc ++ [⟨s, cutN n⟩]) else .ok (acc, l)
def bodyG (S : List Tk → PR St) : Nat → List Tk → List St → PR (List St)
  | 0, _, _ => .error (0, 0)
  | g + 1, l, acc => if l.length = 0 then .ok (acc, l) else match S l with
    | .error x => .error x
    | .ok (s, l1) => bodyG S g l1 (acc ++ [s])
def progP (e : Int) (l : List Tk) : PR Pr := bindP (letsG e (l.length + 1) l []) fun vl l1 => bindP (bodyG (stmtP vl e 13) (l1.length + 1) l1 []) fun b l2 => .ok (⟨vl, b⟩, l2)
theorem nameP_err {e : Int} {l : List Tk} {x : Int × Int} (h : nameP e l = .error x) : x = failAt e l 5 ∧ ∀ t r, l = t :: r → nameOk t.text = false := by
  cases l with
  | nil => cases h; exact ⟨rfl, fun t r q => by cases q⟩
  | cons t r =>
    rw [nameP] at h
    split at h
    · cases h
    · rename_i hn; cases h; exact ⟨rfl, fun t' r' q => by cases q; simpa using hn⟩
theorem nameP_ok {e : Int} {l l' : List Tk} {s : ByteArray} (h : nameP e l = .ok (s, l')) : ∃ t, l = t :: l' ∧ nameOk t.text = true ∧ t.text = s := by
  cases l with
  | nil => cases h
  | cons t r =>
    rw [nameP] at h
    split at h
    · rename_i hn; cases h; exact ⟨t, rfl, hn, rfl⟩
    · cases h
theorem letsG_fuel {e : Int} : ∀ (g g' : Nat) (l : List Tk) (acc : List Va), l.length < g → l.length < g' → letsG e g l acc = letsG e g' l acc
  | 0, g', l, acc, h, h' => by omega
  | g + 1, 0, l, acc, h, h' => by omega
  | g + 1, g' + 1, l, acc, h, h' => by
    rw [letsG, letsG]
    split
    · rename_i hq
      obtain ⟨t, r, rfl⟩ := isT_cons hq
      rw [List.tail_cons]
      cases q : nameP e r with
      | error x => rfl
      | ok y =>
        obtain ⟨s, l1⟩ := y
        obtain ⟨t1, rfl, -, -⟩ := nameP_ok q
        simp only [bindP]
        cases q2 : numP e l1 with
        | error x => rfl
        | ok y =>
          obtain ⟨n, l2⟩ := y
          obtain ⟨t2, rfl, -, -⟩ := numP_ok q2
          simp only [List.length_cons] at h h'
          exact letsG_fuel g g' l2 _ (by omega) (by omega)
    · rfl
theorem bodyG_fuel {S : List Tk → PR St} (hS : ∀ l x l', S l = .ok (x, l') → l'.length < l.length) : ∀ (g g' : Nat) (l : List Tk) (acc : List St), l.length < g → l.length < g' → bodyG S g l acc = bodyG S g' l acc
  | 0, g', l, acc, h, h' => by omega
  | g + 1, 0, l, acc, h, h' => by omega
  | g + 1, g' + 1, l, acc, h, h' => by
    rw [bodyG, bodyG]
    split
    · rfl
    · cases q : S l with
      | error x => rfl
      | ok y =>
        obtain ⟨x, l1⟩ := y
        have := hS l x l1 q
        exact bodyG_fuel hS g g' l1 _ (by omega) (by omega)
theorem program_p (σ : PH) (b : Nat) (p : Option Addr) (c : Nat) (e : Int) (l : List Tk) (hl : PSl 4 rTk σ (.slice p l.length c) l) (hF : ∀ t ∈ l, TkF t) (hL : l.length ≤ 10000) :
    CallsA Tryd.prog 42 #[ptr b] σ [blk b [.slice p l.length c, i64 e, .slice none 0 0] 83] (EndA
      (fun v σ' Γ' => ∃ pr l', progP e l = .ok (pr, l') ∧ ∃ cs, v = .agg (List.toArray cs) ∧ PrAt σ' cs pr ∧ σ.sub σ' ∧ ∃ cb, Γ' = [blk b cb 83])
      (fun ch σ' Γ' => ∃ x, progP e l = .error x ∧ ch = goneP x ∧ σ.sub σ' ∧ ∃ cs, Γ' = [blk b cs 83])) := by
  obtain ⟨R, hR⟩ : ∃ R, progP e l = R := ⟨_, rfl⟩
  have hR0 := hR
  rw [progP] at hR
  obtain ⟨S, hS⟩ : ∃ S, letsG e (l.length + 1) l [] = S := ⟨_, rfl⟩
  rw [hS] at hR
  refine enterA1 Tryd.func42 rfl rfl rfl ?_
  refine zS (zR ?_)
  refine XOA.wr0 rfl (WrA.alloc (tyrow rfl)) ?_
  rintro _ _ _ ⟨g2, rfl, rfl, rfl⟩
  refine zN (zT (zS (XA.block ?_)))
  refine XA.gen [(0, _), (2, _)] ⟨(by with_reducible (conv => lhs; whnf)), (by with_reducible (conv => lhs; whnf)), trivial⟩ (fun δ => ?_)
  dsimp only [List.foldl]
  refine XA.loop [(0, 0), (3, 4), (6, 30)] (fun q : (Nat × Nat) × (Option Addr × Nat) => [(0, ptr b)]) (fun q σ' Γ' => σ = σ' ∧ ∃ (lc : List Tk) (acc : List Va) (pp : Option Addr) (pc : Nat) (rows : List (List Value)), S = letsG e (lc.length + 1) lc acc ∧ (∀ t ∈ lc, TkF t) ∧ lc.length = q.1.2 ∧ acc.length = q.1.1 ∧ q.1.1 + q.1.2 ≤ 10000 ∧ PSl 4 rTk σ' (.slice pp lc.length pc) lc ∧ Rows_ 2 rVa σ' rows acc ∧ Γ' = [lst 51 2 (.slice q.2.1 q.1.1 q.2.2) q.1.1 rows.flatten, blk b [.slice pp lc.length pc, i64 e, .slice q.2.1 q.1.1 q.2.2] 83, blk g2 ty25.zero 25]) (fun q => q.1.2) ((0, l.length), (none, 0)) (by exact ⟨rfl, trivial⟩) (Δ0 := _) ?_ (⟨rfl, l, [], p, c, [], hS.symm, hF, rfl, rfl, by simpa using hL, hl, Rows_.nil _ _ _, rfl⟩) ?_
  · exact zE
  rintro ⟨⟨i, n⟩, ⟨pl, cl⟩⟩ δ _ _ ⟨rfl, lc, acc, pp, pc, rows, hSc, hFc, hn, hacc, hin, hlc, hrows, rfl⟩
  dsimp only [ovr, List.foldl]
  simp only at hn hacc hin
  subst hn
  rw [letsG] at hSc
  cases hq : isT kwLet lc with
  | true =>
    obtain ⟨t1, l1, rfl⟩ := isT_cons hq
    rw [if_pos hq, List.tail_cons] at hSc
    have hF1 : ∀ t ∈ l1, TkF t := fun t ht => hFc t (by simp [ht])
    refine zS (zS (zR (zA rfl ?_)))
    refine XOA.wr0 rfl (WrA.cE (is_yes σ b pp pc e _ t1 l1 kwLet hlc hq) rfl) ?_
    rintro _ _ _ ⟨_, ⟨rfl, p1, c1, hl1, rfl, rfl⟩, rfl⟩
    refine XOA.cl ?_; refine zN (zT (XA.condT rfl rfl (XA.skip (zT (XA.block (zS (zR (zA rfl ?_))))))))
    cases hnm : nameP e l1 with
    | error x =>
      rw [hnm] at hSc
      simp only [bindP] at hSc
      rw [hSc] at hR
      simp only [bindP] at hR
      obtain ⟨rfl, hx⟩ := nameP_err hnm
      refine XOA.die rfl (name_bad σ b p1 c1 e _ l1 hl1 (fun t ht => (hF1 t ht).1) hx) rfl ?_
      rintro _ _ _ ⟨rfl, rfl, rfl⟩
      refine DA.cl ?_
      repeat (first | refine DA.thn_panic ?_ | refine DA.inb_panic ?_)
      exact bodyA.panic zE ⟨_, hR0.trans hR.symm, rfl, .refl _, _, rfl⟩
    | ok y =>
      obtain ⟨s, l2⟩ := y
      rw [hnm] at hSc
      simp only [bindP] at hSc
      obtain ⟨t2, rfl, h2, rfl⟩ := nameP_ok hnm
      have hF2 : ∀ t ∈ l2, TkF t := fun t ht => hF1 t (by simp [ht])
      refine XOA.wr0 rfl (WrA.cE (name_ok σ b p1 c1 e _ t2 l2 hl1 (hF1 t2 (by simp)).1 h2) rfl) ?_
      rintro _ _ _ ⟨_, ⟨rfl, p2, c2, hl2, rfl, rfl⟩, rfl⟩
      refine XOA.cl ?_
      refine zO rfl (Rd.bl (fun _ _ => tyrow) rfl rfl rfl) ?_
      refine XOA.wr0 rfl (WrA.alloc (tyrow rfl)) ?_
      rintro _ _ _ ⟨g3, rfl, rfl, rfl⟩
      refine XOA.wr0 rfl (WrA.st (tyrow rfl) rfl) ?_
      rintro _ _ _ ⟨rfl, rfl, rfl⟩
      refine zN (zT (zS (zR (zA rfl ?_))))
      cases hnu : numP e l2 with
      | error x =>
        rw [hnu] at hSc
        simp only at hSc
        rw [hSc] at hR
        simp only [bindP] at hR
        obtain ⟨rfl, hx⟩ := numP_err hnu
        refine XOA.die rfl (num_bad σ b p2 c2 e _ l2 hl2 hx) rfl ?_
        rintro _ _ _ ⟨rfl, rfl, rfl⟩
        refine DA.cl ?_
        repeat (first | refine DA.thn_panic ?_ | refine DA.inb_panic ?_)
        exact bodyA.panic zE ⟨_, hR0.trans hR.symm, rfl, .refl _, _, rfl⟩
      | ok y =>
        obtain ⟨n3, l3⟩ := y
        rw [hnu] at hSc
        simp only at hSc
        obtain ⟨t3, rfl, h3, rfl⟩ := numP_ok hnu
        have hF3 : ∀ t ∈ l3, TkF t := fun t ht => hF2 t (by simp [ht])
        have hN3 := (hF2 t3 (by simp)).2
        have hT2 := (hF1 t2 (by simp)).1
        simp only [List.length_cons] at hin
        have hSn : S = letsG e (l3.length + 1) l3 (acc ++ [⟨t2.text, cutN t3.n⟩]) := by
          rw [hSc]
          exact letsG_fuel _ _ _ _ (by simp only [List.length_cons]; omega) (by omega)
        by_cases h1 : t3.n < 1
        · skip
          have hcut : cutN t3.n = 0 := by rw [cutN]; rw [if_pos (.inl h1)]
          rw [hcut] at hSn
          refine XOA.wr0 rfl (WrA.cE (num_ok σ b p2 c2 e _ t3 l3 hl2 h3) rfl) ?_
          rintro _ _ _ ⟨_, ⟨rfl, p3, c3, hl3, rfl, rfl⟩, rfl⟩
          refine XOA.cl ?_; refine zO rfl Rd.asg ?_; refine zN (zT (zS (zS (zR (zA rfl ?_))))); refine zO rfl (Rd.lss rfl rfl) ?_; refine zA rfl ?_
          first | (refine zG ?_; refine zA rfl ?_) | refine zH ?_
          first | (refine zG ?_; refine zO rfl (Rd.gtr rfl rfl) ?_) | refine zH ?_
          refine zO rfl zP ?_; refine zN (zT (XA.condT rfl (by first | rfl | exact decide_eq_true h1) ?_)); refine zR (zO rfl Rd.asg ?_); refine zN (zT (zS (zR (zA rfl ?_)))); refine zV rfl rfl ?_
          refine XOA.wr0 rfl (WrA.st (tyrow rfl) rfl) ?_
          rintro _ _ _ ⟨rfl, rfl, rfl⟩
          refine zN (zT ?_)
          refine XA.draw (by kernel_rfl) _ _ [7, 10] [(0, .pu), (1, .pu), (2, .pu), (3, .pu), (4, .rd), (5, .rd), (6, .wr), (7, .wr), (8, .pu), (9, .pu), (10, .wr)] (by kernel_rfl) (PH.sub.refl _) (Ent.sel (R := blk b _ _) zL (Ent.sel (R := blk g3 _ _) zL (Ent.nil _))) ?_
          refine XPA.pu rfl rfl Gd.free Rd.mv ?_; refine XPA.pu rfl rfl Gd.free Rd.mv ?_; refine XPA.pu rfl rfl Gd.free (Rd.nilCheck rfl) ?_; refine XPA.pu rfl rfl Gd.free (Rd.fA rfl) ?_; refine XPA.rd rfl rfl Gd.free (Rd.ldC rfl (tyrow rfl) rfl) ?_; refine XPA.rd rfl rfl Gd.free (Rd.ldA rfl) ?_
          refine XPA.wr0 rfl rfl Gd.free (WrA.bs1 (tyrow rfl) rfl (tyrow rfl)) ?_
          rintro _ _ _ ⟨g27, rfl, rfl, rfl⟩
          refine stays ?_
          refine XPA.wrZ0 rfl rfl Gd.free (by kernel_rfl) (WrA.ap1 (tyrow rfl) rfl (tyrow rfl) rfl rfl rfl) ?_
          rintro _ _ _ ⟨p28, c28, rfl, rfl, rfl⟩
          refine XPA.pu rfl rfl Gd.free (Rd.nilCheck rfl) ?_; refine XPA.pu rfl rfl Gd.free (Rd.fA rfl) ?_
          refine XPA.wrZ0 rfl rfl Gd.free (by kernel_rfl) (WrA.st (tyrow rfl) rfl) ?_
          rintro _ _ _ ⟨rfl, rfl, rfl⟩
          refine XPA.nil ?_; refine DA.inb_normal (zT ?_)
          have hnew : Rows_ 2 rVa σ (rows ++ [[.string t2.text, i64 0]]) (acc ++ [⟨t2.text, 0⟩]) := hrows.snoc rfl ⟨rfl, (show i64ok 0 from ⟨by decide, by decide⟩), hT2⟩
          refine ⟨(Keep.updN (Keep.upd (Keep.upd (Keep.updO (Keep.updO (Keep.upd (Keep.upd (Keep.upd (Keep.upd (Keep.upd (Keep.upd (Keep.updN (Keep.upd (Keep.upd (Keep.upd (Keep.upd (Keep.upd (Keep.upd (Keep.upd (Keep.upd (Keep.upd (Keep.upd (Keep.updO (Keep.upd (Keep.updN (Keep.updO (Keep.upd (Keep.updO (Keep.upd (Keep.updO (Keep.upd (Keep.upd (Keep.hav (Keep.hav (Keep.hav (Keep.refl _ _) rfl) rfl) rfl) rfl) rfl) rfl) rfl) rfl) rfl) rfl)) rfl) rfl) rfl) rfl) rfl) rfl) rfl) rfl) rfl) rfl) rfl) rfl)) rfl) rfl) rfl) rfl) rfl) rfl) rfl) rfl) rfl) rfl)), ((i + 1, l3.length), (p28, c28)), _, zM, ?_, ⟨rfl, l3, acc ++ [⟨t2.text, 0⟩], p3, c3, rows ++ [[.string t2.text, i64 0]], hSn, hF3, rfl, (by rw [List.length_append, hacc]; rfl), (by show i + 1 + l3.length ≤ 10000; omega), hl3, hnew, rfl⟩, (by show l3.length < (t1 :: t2 :: t3 :: l3).length; simp only [List.length_cons]; omega)⟩
          · rw [flatS]; exact zE
        by_cases h48 : t3.n > 48
        · skip
          have hcut : cutN t3.n = 0 := by rw [cutN]; rw [if_pos (.inr h48)]
          rw [hcut] at hSn
          refine XOA.wr0 rfl (WrA.cE (num_ok σ b p2 c2 e _ t3 l3 hl2 h3) rfl) ?_
          rintro _ _ _ ⟨_, ⟨rfl, p3, c3, hl3, rfl, rfl⟩, rfl⟩
          refine XOA.cl ?_; refine zO rfl Rd.asg ?_; refine zN (zT (zS (zS (zR (zA rfl ?_))))); refine zO rfl (Rd.lss rfl rfl) ?_; refine zA rfl ?_
          first | (refine zG ?_; refine zA rfl ?_) | refine zH ?_
          first | (refine zG ?_; refine zO rfl (Rd.gtr rfl rfl) ?_) | refine zH ?_
          refine zO rfl zP ?_; refine zN (zT (XA.condT rfl (by first | rfl | exact decide_eq_true h48) ?_)); refine zR (zO rfl Rd.asg ?_); refine zN (zT (zS (zR (zA rfl ?_)))); refine zV rfl rfl ?_
          refine XOA.wr0 rfl (WrA.st (tyrow rfl) rfl) ?_
          rintro _ _ _ ⟨rfl, rfl, rfl⟩
          refine zN (zT ?_)
          refine XA.draw (by kernel_rfl) _ _ [7, 10] [(0, .pu), (1, .pu), (2, .pu), (3, .pu), (4, .rd), (5, .rd), (6, .wr), (7, .wr), (8, .pu), (9, .pu), (10, .wr)] (by kernel_rfl) (PH.sub.refl _) (Ent.sel (R := blk b _ _) zL (Ent.sel (R := blk g3 _ _) zL (Ent.nil _))) ?_
          refine XPA.pu rfl rfl Gd.free Rd.mv ?_; refine XPA.pu rfl rfl Gd.free Rd.mv ?_; refine XPA.pu rfl rfl Gd.free (Rd.nilCheck rfl) ?_; refine XPA.pu rfl rfl Gd.free (Rd.fA rfl) ?_; refine XPA.rd rfl rfl Gd.free (Rd.ldC rfl (tyrow rfl) rfl) ?_; refine XPA.rd rfl rfl Gd.free (Rd.ldA rfl) ?_
          refine XPA.wr0 rfl rfl Gd.free (WrA.bs1 (tyrow rfl) rfl (tyrow rfl)) ?_
          rintro _ _ _ ⟨g27, rfl, rfl, rfl⟩
          refine stays ?_
          refine XPA.wrZ0 rfl rfl Gd.free (by kernel_rfl) (WrA.ap1 (tyrow rfl) rfl (tyrow rfl) rfl rfl rfl) ?_
          rintro _ _ _ ⟨p28, c28, rfl, rfl, rfl⟩
          refine XPA.pu rfl rfl Gd.free (Rd.nilCheck rfl) ?_; refine XPA.pu rfl rfl Gd.free (Rd.fA rfl) ?_
          refine XPA.wrZ0 rfl rfl Gd.free (by kernel_rfl) (WrA.st (tyrow rfl) rfl) ?_
          rintro _ _ _ ⟨rfl, rfl, rfl⟩
          refine XPA.nil ?_; refine DA.inb_normal (zT ?_)
          have hnew : Rows_ 2 rVa σ (rows ++ [[.string t2.text, i64 0]]) (acc ++ [⟨t2.text, 0⟩]) := hrows.snoc rfl ⟨rfl, (show i64ok 0 from ⟨by decide, by decide⟩), hT2⟩
          refine ⟨(Keep.updN (Keep.upd (Keep.upd (Keep.updO (Keep.updO (Keep.upd (Keep.upd (Keep.upd (Keep.upd (Keep.upd (Keep.upd (Keep.updN (Keep.upd (Keep.upd (Keep.upd (Keep.upd (Keep.upd (Keep.upd (Keep.upd (Keep.upd (Keep.upd (Keep.upd (Keep.updO (Keep.upd (Keep.updN (Keep.updO (Keep.upd (Keep.updO (Keep.upd (Keep.updO (Keep.upd (Keep.upd (Keep.hav (Keep.hav (Keep.hav (Keep.refl _ _) rfl) rfl) rfl) rfl) rfl) rfl) rfl) rfl) rfl) rfl)) rfl) rfl) rfl) rfl) rfl) rfl) rfl) rfl) rfl) rfl) rfl) rfl)) rfl) rfl) rfl) rfl) rfl) rfl) rfl) rfl) rfl) rfl)), ((i + 1, l3.length), (p28, c28)), _, zM, ?_, ⟨rfl, l3, acc ++ [⟨t2.text, 0⟩], p3, c3, rows ++ [[.string t2.text, i64 0]], hSn, hF3, rfl, (by rw [List.length_append, hacc]; rfl), (by show i + 1 + l3.length ≤ 10000; omega), hl3, hnew, rfl⟩, (by show l3.length < (t1 :: t2 :: t3 :: l3).length; simp only [List.length_cons]; omega)⟩
          · rw [flatS]; exact zE
        have hcut : cutN t3.n = t3.n := by rw [cutN]; rw [if_neg (by omega)]
        rw [hcut] at hSn
        refine XOA.wr0 rfl (WrA.cE (num_ok σ b p2 c2 e _ t3 l3 hl2 h3) rfl) ?_
        rintro _ _ _ ⟨_, ⟨rfl, p3, c3, hl3, rfl, rfl⟩, rfl⟩
        refine XOA.cl ?_; refine zO rfl Rd.asg ?_; refine zN (zT (zS (zS (zR (zA rfl ?_))))); refine zO rfl (Rd.lss rfl rfl) ?_; refine zA rfl ?_
        first | (refine zG ?_; refine zA rfl ?_) | refine zH ?_
        first | (refine zG ?_; refine zO rfl (Rd.gtr rfl rfl) ?_) | refine zH ?_
        refine zO rfl zP ?_; refine zN (zT (XA.condF rfl (by first | rfl | exact decide_eq_false h48) ?_)); refine XA.skip (zT (zS (zR (zA rfl ?_)))); refine zV rfl rfl ?_
        refine XOA.wr0 rfl (WrA.st (tyrow rfl) rfl) ?_
        rintro _ _ _ ⟨rfl, rfl, rfl⟩
        refine zN (zT ?_)
        refine XA.draw (by kernel_rfl) _ _ [7, 10] [(0, .pu), (1, .pu), (2, .pu), (3, .pu), (4, .rd), (5, .rd), (6, .wr), (7, .wr), (8, .pu), (9, .pu), (10, .wr)] (by kernel_rfl) (PH.sub.refl _) (Ent.sel (R := blk b _ _) zL (Ent.sel (R := blk g3 _ _) zL (Ent.nil _))) ?_
        refine XPA.pu rfl rfl Gd.free Rd.mv ?_; refine XPA.pu rfl rfl Gd.free Rd.mv ?_; refine XPA.pu rfl rfl Gd.free (Rd.nilCheck rfl) ?_; refine XPA.pu rfl rfl Gd.free (Rd.fA rfl) ?_; refine XPA.rd rfl rfl Gd.free (Rd.ldC rfl (tyrow rfl) rfl) ?_; refine XPA.rd rfl rfl Gd.free (Rd.ldA rfl) ?_
        refine XPA.wr0 rfl rfl Gd.free (WrA.bs1 (tyrow rfl) rfl (tyrow rfl)) ?_
        rintro _ _ _ ⟨g27, rfl, rfl, rfl⟩
        refine stays ?_
        refine XPA.wrZ0 rfl rfl Gd.free (by kernel_rfl) (WrA.ap1 (tyrow rfl) rfl (tyrow rfl) rfl rfl rfl) ?_
        rintro _ _ _ ⟨p28, c28, rfl, rfl, rfl⟩
        refine XPA.pu rfl rfl Gd.free (Rd.nilCheck rfl) ?_; refine XPA.pu rfl rfl Gd.free (Rd.fA rfl) ?_
        refine XPA.wrZ0 rfl rfl Gd.free (by kernel_rfl) (WrA.st (tyrow rfl) rfl) ?_
        rintro _ _ _ ⟨rfl, rfl, rfl⟩
        refine XPA.nil ?_; refine DA.inb_normal (zT ?_)
        have hnew : Rows_ 2 rVa σ (rows ++ [[.string t2.text, i64 t3.n]]) (acc ++ [⟨t2.text, t3.n⟩]) := hrows.snoc rfl ⟨rfl, hN3, hT2⟩
        refine ⟨(Keep.updN (Keep.upd (Keep.upd (Keep.updO (Keep.updO (Keep.upd (Keep.upd (Keep.upd (Keep.upd (Keep.upd (Keep.upd (Keep.updN (Keep.upd (Keep.upd (Keep.upd (Keep.upd (Keep.upd (Keep.upd (Keep.upd (Keep.upd (Keep.upd (Keep.updO (Keep.upd (Keep.updN (Keep.updO (Keep.upd (Keep.updO (Keep.upd (Keep.updO (Keep.upd (Keep.upd (Keep.hav (Keep.hav (Keep.hav (Keep.refl _ _) rfl) rfl) rfl) rfl) rfl) rfl) rfl) rfl) rfl) rfl)) rfl) rfl) rfl) rfl) rfl) rfl) rfl) rfl) rfl) rfl) rfl)) rfl) rfl) rfl) rfl) rfl) rfl) rfl) rfl) rfl) rfl)), ((i + 1, l3.length), (p28, c28)), _, zM, ?_, ⟨rfl, l3, acc ++ [⟨t2.text, t3.n⟩], p3, c3, rows ++ [[.string t2.text, i64 t3.n]], hSn, hF3, rfl, (by rw [List.length_append, hacc]; rfl), (by show i + 1 + l3.length ≤ 10000; omega), hl3, hnew, rfl⟩, (by show l3.length < (t1 :: t2 :: t3 :: l3).length; simp only [List.length_cons]; omega)⟩
        · rw [flatS]; exact zE
  | false =>
    rw [if_neg (by rw [hq]; exact Bool.noConfusion)] at hSc
    rw [hSc] at hR
    simp only [bindP] at hR
    subst hacc
    refine zS (zS (zR (zA rfl ?_)))
    refine XOA.wr0 rfl (WrA.cE (is_no σ b pp pc e _ lc kwLet hlc hq) rfl) ?_
    rintro _ _ _ ⟨_, ⟨rfl, rfl, rfl⟩, rfl⟩
    refine XOA.cl ?_; refine zN (zT (XA.condF rfl rfl (XA.exit (DA.thn_exit (DA.thn_exit (DA.inb_same (zT (zS (zR ?_)))))))))
    refine XOA.wr0 rfl (WrA.alloc (tyrow rfl)) ?_
    rintro _ _ _ ⟨g5, rfl, rfl, rfl⟩
    refine zN (zT (zS (zR (zA rfl ?_))))
    refine XOA.frz (R := lst 51 2 _ _ _) zL lst_frz lst_frz_mono ?_
    rintro σ1 ⟨⟩ hf hs1
    have hv1 : PSl 2 rVa σ1 (.slice pl acc.length cl) acc := (hrows.mono (σ' := σ1) (fun _ _ h => h)).psl rfl hf
    obtain ⟨U, hU⟩ : ∃ U, bodyG (stmtP acc e 13) (lc.length + 1) lc [] = U := ⟨_, rfl⟩
    rw [hU] at hR
    refine zO rfl (Rd.nilCheck rfl) ?_; refine zV rfl rfl ?_; refine zB rfl rfl (tyrow rfl) rfl ?_; refine zV rfl rfl ?_
    refine XOA.wr0 rfl (WrA.st (tyrow rfl) rfl) ?_
    rintro _ _ _ ⟨rfl, rfl, rfl⟩
    refine zN (zT (zS (XA.block ?_)))
    refine XA.gen [(0, _), (2, _), (5, _)] ⟨(by with_reducible (conv => lhs; whnf)), (by with_reducible (conv => lhs; whnf)), (by with_reducible (conv => lhs; whnf)), trivial⟩ (fun δ => ?_)
    dsimp only [List.foldl]
    refine XA.loop [(0, 0), (36, 48)] (fun i : Nat × Nat => [(0, ptr b)]) (fun i σ' Γ' => σ1.sub σ' ∧ ∃ (ld : List Tk) (acd : List St) (pp : Option Addr) (pc : Nat) (pb : Option Addr) (cb : Nat) (rows : List (List Value)), U = bodyG (stmtP acc e 13) (ld.length + 1) ld acd ∧ (∀ t ∈ ld, TkF t) ∧ ld.length = i.2 ∧ acd.length = i.1 ∧ i.1 + i.2 ≤ 10000 ∧ PSl 4 rTk σ' (.slice pp ld.length pc) ld ∧ Rows_ 12 StAt σ' rows acd ∧ Γ' = [lst 56 12 (.slice pb i.1 cb) i.1 rows.flatten, blk g5 [.slice pl acc.length cl, .slice pb i.1 cb] 25, blk b [.slice pp ld.length pc, i64 e, .slice pl acc.length cl] 83, blk g2 ty25.zero 25]) (fun i => i.2) (0, lc.length) (by exact ⟨rfl, trivial⟩) (Δ0 := _) ?_ (⟨.refl _, lc, [], pp, pc, none, 0, [], hU.symm, hFc, rfl, rfl, by show 0 + lc.length ≤ 10000; omega, hlc.mono hs1 (fun _ _ h => h), Rows_.nil _ _ _, rfl⟩) ?_
    · exact zE
    rintro ⟨i, n⟩ δ2 σ2 _ ⟨hs2, ld, acd, pd, cd, pb, cb, rows2, hUc, hFd, hn, hacd, hid, hld, hrows2, rfl⟩
    dsimp only [ovr, List.foldl]
    simp only at hn hacd hid
    subst hn
    have hv2 := hv1.mono hs2 (fun _ _ h => h)
    rw [bodyG] at hUc
    by_cases h0 : ld.length = 0
    · rw [if_pos h0] at hUc
      rw [hUc] at hR
      simp only [bindP] at hR
      subst hacd
      refine zS (zS (zR (zA rfl ?_))); refine zO rfl (Rd.nilCheck rfl) ?_; refine zV rfl rfl ?_; refine zB rfl rfl (tyrow rfl) rfl ?_; refine zO rfl (Rd.lenSlice (tyrow rfl) rfl rfl) ?_; refine zO rfl (Rd.gtr rfl rfl) ?_; refine zN (zT (XA.condF rfl (by first | rfl | exact decide_eq_false (by omega)) ?_))
      refine XA.exit (DA.thn_exit (DA.thn_exit (DA.inb_same (zT (zS (zR (zO rfl (Rd.ldA rfl) ?_)))))))
      refine XOA.wr0 rfl (WrA.st (tyrow rfl) rfl) ?_
      rintro _ _ _ ⟨rfl, rfl, rfl⟩
      refine zN (zT (XA.ret ?_))
      refine DA.frz (R := lst 56 12 _ _ _) zL lst_frz lst_frz_mono ?_
      rintro σ3 ⟨⟩ hf3 hs3
      exact bodyA.ret (ResA.cell rfl rfl (Ld.atBlk (tyrow rfl) rfl zL rfl (by first | exact take0 (by first | rfl | assumption | (refine (ints_len _).trans ?_; assumption) | (simp [*]; (first | done | fail))) | assumption | exact take_app (by first | rfl | assumption | (refine (ints_len _).trans ?_; assumption) | (simp [*]; (first | done | fail))) | (conv => lhs; simp only [List.drop_succ_cons, List.drop_zero, List.take_succ_cons, List.take_zero])) (by first | rfl | assumption | (refine (ints_len _).trans ?_; assumption) | (simp [*]; (first | done | fail))))) zE ⟨_, _, hR0.trans hR.symm, _, rfl, ⟨_, _, rfl, hv2.mono hs3 (fun _ _ h => h), (hrows2.mono (fun _ _ h => h.mono hs3)).psl rfl hf3⟩, hs1.trans (hs2.trans hs3), _, rfl⟩
    · rw [if_neg h0] at hUc
      cases hx : stmtP acc e 13 ld with
      | error x =>
        rw [hx] at hUc
        simp only at hUc
        rw [hUc] at hR
        simp only [bindP] at hR
        refine zS (zS (zR (zA rfl ?_))); refine zO rfl (Rd.nilCheck rfl) ?_; refine zV rfl rfl ?_; refine zB rfl rfl (tyrow rfl) rfl ?_; refine zO rfl (Rd.lenSlice (tyrow rfl) rfl rfl) ?_; refine zO rfl (Rd.gtr rfl rfl) ?_; refine zN (zT (XA.condT rfl (by first | rfl | exact decide_eq_true (by omega)) ?_))
        refine XA.skip (zT (XA.block ?_))
        refine XA.draw (by kernel_rfl) _ _ [5, 7] [(0, .pu), (1, .rd), (2, .pu), (3, .wr), (4, .wr), (5, .wr), (6, .pu), (7, .wr)] (by kernel_rfl) (PH.sub.refl _) (Ent.sel (R := blk g5 _ _) zL (Ent.nil _)) ?_
        refine XPA.pu rfl rfl Gd.free (Rd.fA rfl) ?_; refine XPA.rd rfl rfl Gd.free (Rd.ldC rfl (tyrow rfl) rfl) ?_; refine XPA.pu rfl rfl Gd.free Rd.mv ?_
        refine XPA.die rfl rfl Gd.free ((stmt_p acc e 13).bad hv2 hld hFd (by decide) (by decide) (by omega) hx) rfl ?_
        rintro _ σ3 _ ⟨rfl, hs3, cs3, rfl⟩
        refine DA.cl ?_
        repeat (first | refine DA.thn_panic ?_ | refine DA.inb_panic ?_)
        exact bodyA.panic zE ⟨_, hR0.trans hR.symm, rfl, hs1.trans (hs2.trans hs3), _, rfl⟩
      | ok y =>
        obtain ⟨x, l'⟩ := y
        rw [hx] at hUc
        simp only at hUc
        have hsb := stmtP_sub 13 _ _ _ hx
        have hlt := hsb.2
        have hUn : U = bodyG (stmtP acc e 13) (l'.length + 1) l' (acd ++ [x]) := by
          rw [hUc]
          exact bodyG_fuel (fun l x l' h => (stmtP_sub 13 l x l' h).2) _ _ _ _ hlt (by omega)
        refine zS (zS (zR (zA rfl ?_))); refine zO rfl (Rd.nilCheck rfl) ?_; refine zV rfl rfl ?_; refine zB rfl rfl (tyrow rfl) rfl ?_; refine zO rfl (Rd.lenSlice (tyrow rfl) rfl rfl) ?_; refine zO rfl (Rd.gtr rfl rfl) ?_; refine zN (zT (XA.condT rfl (by first | rfl | exact decide_eq_true (by omega)) ?_))
        refine XA.skip (zT (XA.block ?_))
        refine XA.draw (by kernel_rfl) _ _ [5, 7] [(0, .pu), (1, .rd), (2, .pu), (3, .wr), (4, .wr), (5, .wr), (6, .pu), (7, .wr)] (by kernel_rfl) (PH.sub.refl _) (Ent.sel (R := blk g5 _ _) zL (Ent.nil _)) ?_
        refine XPA.pu rfl rfl Gd.free (Rd.fA rfl) ?_; refine XPA.rd rfl rfl Gd.free (Rd.ldC rfl (tyrow rfl) rfl) ?_; refine XPA.pu rfl rfl Gd.free Rd.mv ?_
        refine XPA.wr0 rfl rfl Gd.free (WrA.cE ((stmt_p acc e 13).ok hv2 hld hFd (by decide) (by decide) (by omega) hx) rfl) ?_
        rintro _ σ3 _ ⟨_, ⟨cs3, p', c', rfl, hcs3, hl', hs3, rfl⟩, rfl⟩
        refine stays (XPA.cl ?_)
        have hl2' := hcs3.len
        have hone2 := hcs3.ones
        refine XPA.wr0 rfl rfl Gd.free (WrA.bs1 (tyrow rfl) rfl (tyrow rfl)) ?_
        rintro _ _ _ ⟨g46, rfl, rfl, rfl⟩
        refine stays ?_
        refine XPA.wrZ0 rfl rfl Gd.free (by kernel_rfl) (WrA.ap1 (tyrow rfl) rfl (tyrow rfl) rfl rfl rfl) ?_
        rintro _ _ _ ⟨p47, c47, rfl, rfl, rfl⟩
        refine XPA.pu rfl rfl Gd.free (Rd.fA rfl) ?_
        refine XPA.wrZ0 rfl rfl Gd.free (by kernel_rfl) (WrA.st (tyrow rfl) rfl) ?_
        rintro _ _ _ ⟨rfl, rfl, rfl⟩
        refine XPA.nil ?_; refine DA.inb_normal (zT ?_)
        have hnew : Rows_ 12 StAt σ3 (rows2 ++ [cs3]) (acd ++ [x]) := (hrows2.mono (fun _ _ h => h.mono hs3)).snoc hl2' hcs3
        refine ⟨(Keep.updN (Keep.upd (Keep.updO (Keep.updO (Keep.updO (Keep.upd (Keep.upd (Keep.upd (Keep.upd (Keep.upd (Keep.upd (Keep.upd (Keep.upd (Keep.upd (Keep.upd (Keep.hav (Keep.hav (Keep.refl _ _) rfl) rfl) rfl) rfl) rfl) rfl) rfl) rfl) rfl) rfl) rfl) rfl) rfl) rfl) rfl) rfl)), (i + 1, l'.length), _, zM, ?_, ⟨hs2.trans hs3, l', acd ++ [x], p', c', p47, c47, rows2 ++ [cs3], hUn, (fun t ht => hFd t (hsb.1.1 t ht)), rfl, (by rw [List.length_append, hacd]; rfl), (by show i + 1 + l'.length ≤ 10000; omega), hl', hnew, rfl⟩, (by show l'.length < ld.length; omega)⟩
        · rw [flatS]; exact zE
end Go.Proofs.YthefnnkmpcgcmaaDoor

namespace Go.Proofs.YthefnnkmpcgcmaaDoor
open Go X
set_option maxHeartbeats 4000000
def scanB (s : ByteArray) : Nat → Nat → List Tk → Except Nat (List Tk)
  | 0, _, acc => .ok acc
  | f + 1, i, acc => if i < s.size then (if blankB (byteAt s i) = true then scanB s f (i + 1) acc else match oneT s i with
      | some t => scanB s f (i + t.text.size) (acc ++ [t])
      | none => .error i)
    else .ok acc
theorem scanG_end (s : ByteArray) (f i : Nat) (acc : List Tk) (h : ¬ i < s.size) : scanG s f i acc = .ok acc := by
  cases f with
  | zero => rfl
  | succ f => rw [scanG, if_neg h]
theorem scanB_eq (s : ByteArray) : ∀ (f i : Nat) (acc : List Tk) (f' : Nat), s.size < i + f → s.size < i + runB blankB s i + f' → scanB s f i acc = scanG s f' (i + runB blankB s i) acc
  | 0, i, acc, f', h, _ => by rw [scanB, scanG_end _ _ _ _ (by omega)]
  | f + 1, i, acc, f', h, h' => by
    rw [scanB]
    by_cases hi : i < s.size
    · rw [if_pos hi]
      by_cases hb : blankB (byteAt s i) = true
      · have e : runB blankB s i = runB blankB s (i + 1) + 1 := by rw [runB_eq, if_pos ⟨hi, hb⟩]
        rw [if_pos hb, e, show i + (runB blankB s (i + 1) + 1) = i + 1 + runB blankB s (i + 1) by omega]
        exact scanB_eq s f (i + 1) acc f' (by omega) (by omega)
      · have e : runB blankB s i = 0 := runB_end (fun x => hb x.2)
        simp only [e, Nat.add_zero] at h' ⊢
        obtain ⟨g, rfl⟩ : ∃ g, f' = g + 1 := ⟨f' - 1, by omega⟩
        rw [if_neg hb, scanG, if_pos hi]
        cases ho : oneT s i with
        | none => rfl
        | some t =>
          obtain ⟨-, h1, h2⟩ := oneT_size hi ho
          exact scanB_eq s f (i + t.text.size) (acc ++ [t]) g (by omega) (by omega)
    · rw [if_neg hi, scanG_end _ _ _ _ (by omega)]
theorem rF_t (σ : PH) (a b : Int) : CallsA Tryd.prog 22 #[i64 a, i64 b] σ [] (RetA fun v σ' Γ' => v = .agg #[i64 a, i64 b] ∧ σ = σ' ∧ Γ' = []) := by
  refine enterA2 Tryd.func22 rfl rfl rfl ?_
  refine zS (zR ?_)
  refine XOA.wr0 rfl (WrA.alloc (tyrow rfl)) ?_
  rintro _ _ _ ⟨g4, rfl, rfl, rfl⟩
  refine zN (zT (zS (zR (zA rfl ?_)))); refine zA rfl ?_
  refine zO rfl (Rd.bl (fun _ _ => tyrow) rfl rfl rfl) ?_
  refine XOA.wr0 rfl (WrA.st (tyrow rfl) rfl) ?_
  rintro _ _ _ ⟨rfl, rfl, rfl⟩
  refine zN (zT (XA.ret ?_))
  exact bodyA.ret (ResA.cellT rfl rfl (Ld.atBlk (tyrow rfl) rfl zL rfl (by first | exact take0 (by first | rfl | assumption | (refine (ints_len _).trans ?_; assumption) | (simp [*]; (first | done | fail))) | assumption | exact take_app (by first | rfl | assumption | (refine (ints_len _).trans ?_; assumption) | (simp [*]; (first | done | fail))) | (conv => lhs; simp only [List.drop_succ_cons, List.drop_zero, List.take_succ_cons, List.take_zero])) (by first | rfl | assumption | (refine (ints_len _).trans ?_; assumption) | (simp [*]; (first | done | fail))))) (Ent.nil _) ⟨rfl, rfl, rfl⟩
theorem rlong_t (σ : PH) (s : ByteArray) (hs : s.size ≤ 100000000) (hT : Tab σ) (hE : Errs σ) :
    CallsA Tryd.prog 38 #[.string s] σ [] (RetA fun v σ' Γ' => v = (match longOf s with | some n => .tuple #[i64 n, .bool true] | none => .tuple #[i64 0, .bool false]) ∧ σ = σ' ∧ Γ' = []) := by
  have hpar := parse_a σ s hs hE
  refine enterA1 Tryd.func38 rfl rfl rfl ?_
  refine zS (zR (zO rfl Rd.asg ?_)); refine zO rfl Rd.asg ?_; refine zN (zT (zS (zR (zA rfl ?_))))
  refine XOA.wr0 rfl (WrA.cE (hpar) rfl) ?_
  rintro v _ _ ⟨_, ⟨hnum, rfl, rfl⟩, rfl⟩
  refine XOA.cl ?_
  rcases hnum with ⟨n, hn, rfl⟩ | ⟨hno, n, a, rfl⟩
  · obtain ⟨hn0, hn1⟩ := parse_bounds hn
    rw [longOf_ok hn]
    refine zA rfl ?_; refine zO rfl (Rd.extract rfl rfl) ?_; refine zO rfl (Rd.extract rfl rfl) ?_; refine zO rfl Rd.asg ?_; refine zO rfl Rd.asg ?_; refine zN (zT (zS (zS (zR (zA rfl ?_))))); refine zO rfl (Rd.neqIfF err_if.choose_spec rfl) ?_; refine zA rfl ?_
    first | (refine zG ?_; refine zA rfl ?_) | refine zH ?_
    first | refine XOA.wanted rfl rfl ?_ | refine XOA.wq rfl rfl ?_
    refine XOA.wr0 rfl (WrA.cE (itoa_a σ n hn0 hn1 hT) rfl) ?_
    rintro _ _ _ ⟨_, ⟨rfl, rfl, rfl⟩, rfl⟩
    refine XOA.cl ?_
    first | (refine zG ?_; refine zA rfl ?_) | refine zH ?_
    first | (refine zG ?_; refine zO rfl (Rd.neqs rfl rfl) ?_) | refine zH ?_
    refine zO rfl zP ?_; refine zN (zT ?_)
    by_cases hq : itoaS n = s
    · have hq' : ¬ (itoaS n ≠ s) := fun h => h hq
      rw [if_pos hq]
      refine XA.condF rfl (by first | rfl | exact decide_eq_false hq') ?_; refine XA.skip (zT (zS (zR (zA rfl ?_)))); refine zO rfl Rd.asg ?_; refine zO rfl Rd.asg ?_; refine zN (zT (XA.ret ?_))
      exact bodyA.ret (ResA.two rfl rfl rfl) (Ent.nil _) ⟨rfl, rfl, rfl⟩
    · rw [if_neg hq]
      refine XA.condT rfl (by first | rfl | exact decide_eq_true hq) ?_; refine zS (zR (zO rfl Rd.asg ?_)); refine zO rfl Rd.asg ?_; refine zN (zT (XA.ret (DA.thn_ret ?_)))
      exact bodyA.ret (ResA.two rfl rfl rfl) (Ent.nil _) ⟨rfl, rfl, rfl⟩
  · rw [longOf_bad hno]
    refine zA rfl ?_; refine zO rfl (Rd.extract rfl rfl) ?_; refine zO rfl (Rd.extract rfl rfl) ?_; refine zO rfl Rd.asg ?_; refine zO rfl Rd.asg ?_; refine zN (zT (zS (zS (zR (zA rfl ?_))))); refine zO rfl (Rd.neqIfT err_if.choose_spec rfl) ?_; refine zA rfl ?_
    first | (refine zG ?_; refine zA rfl ?_) | refine zH ?_
    first | refine zH ?_
    first | (refine zG ?_; refine zA rfl ?_) | refine zH ?_
    first | (refine zG ?_; refine zO rfl (Rd.neqs rfl rfl) ?_) | refine zH ?_
    refine zO rfl zP ?_; refine zN (zT (XA.condT rfl rfl (zS (zR (zO rfl Rd.asg ?_))))); refine zO rfl Rd.asg ?_; refine zN (zT (XA.ret (DA.thn_ret ?_)))
    exact bodyA.ret (ResA.two rfl rfl rfl) (Ent.nil _) ⟨rfl, rfl, rfl⟩
theorem rlong_some (σ : PH) {s : ByteArray} {m : Int} (hs : s.size ≤ 100000000) (hT : Tab σ) (hE : Errs σ) (h : longOf s = some m) :
    CallsA Tryd.prog 38 #[.string s] σ [] (RetA fun v σ' Γ' => v = .tuple #[i64 m, .bool true] ∧ σ = σ' ∧ Γ' = []) := by
  have := rlong_t σ s hs hT hE
  rw [h] at this
  exact this
theorem rlong_none (σ : PH) {s : ByteArray} (hs : s.size ≤ 100000000) (hT : Tab σ) (hE : Errs σ) (h : longOf s = none) :
    CallsA Tryd.prog 38 #[.string s] σ [] (RetA fun v σ' Γ' => v = .tuple #[i64 0, .bool false] ∧ σ = σ' ∧ Γ' = []) := by
  have := rlong_t σ s hs hT hE
  rw [h] at this
  exact this
theorem rscan_t (σ : PH) (s : ByteArray) (hs : s.size ≤ 100000000) (hT : Tab σ) (hE : Errs σ) :
    CallsA Tryd.prog 18 #[.string s] σ [] (RetA fun v σ' Γ' => ∃ sl, v = .tuple #[sl, .agg #[i64 (errC (scanP s)), i64 (errA (scanP s))]] ∧ PSl 4 rTk σ' sl (okL (scanP s)) ∧ σ.sub σ' ∧ Γ' = []) := by
  by_cases h6 : 6000 < s.size
  · have e : scanP s = .error (3, 6000) := by rw [scanP, if_pos h6]
    rw [e]
    refine enterA1 Tryd.func18 rfl rfl rfl ?_
    refine zS (zR (zO rfl Rd.asg ?_))
    refine XOA.wr0 rfl (WrA.alloc (tyrow rfl)) ?_
    rintro _ _ _ ⟨g3, rfl, rfl, rfl⟩
    refine zN (zT (zS (zS (zR (zA rfl ?_))))); refine zO rfl (Rd.lenString (tyrow rfl) rfl rfl) ?_; refine zO rfl (Rd.gtr rfl rfl) ?_; refine zN (zT (XA.condT rfl (by first | rfl | exact decide_eq_true (by omega)) ?_)); refine zS (zR ?_)
    refine XOA.wr0 rfl (WrA.cE (rF_t σ 3 6000) rfl) ?_
    rintro _ _ _ ⟨_, ⟨rfl, rfl, rfl⟩, rfl⟩
    refine XOA.cl ?_; refine zO rfl Rd.asg ?_
    refine XOA.wr0 rfl (WrA.st (tyrow rfl) rfl) ?_
    rintro _ _ _ ⟨rfl, rfl, rfl⟩
    refine zN (zT (XA.ret (DA.thn_ret ?_)))
    exact bodyA.ret (ResA.tcT rfl rfl rfl (Ld.atBlk (tyrow rfl) rfl zL rfl (by first | exact take0 (by first | rfl | assumption | (refine (ints_len _).trans ?_; assumption) | (simp [*]; (first | done | fail))) | assumption | exact take_app (by first | rfl | assumption | (refine (ints_len _).trans ?_; assumption) | (simp [*]; (first | done | fail))) | (conv => lhs; simp only [List.drop_succ_cons, List.drop_zero, List.take_succ_cons, List.take_zero])) (by first | rfl | assumption | (refine (ints_len _).trans ?_; assumption) | (simp [*]; (first | done | fail))))) (Ent.nil _) ⟨_, rfl, PSl.nil _ _ _, .refl _, rfl⟩
  have h0 := runB_le blankB s (i := 0) (by omega)
  obtain ⟨R, hR⟩ : ∃ R, scanB s (s.size + 1) 0 [] = R := ⟨_, rfl⟩
  have hP : scanP s = scanE R := by
    have := scanB_eq s (s.size + 1) 0 [] (s.size + 1) (by omega) (by omega)
    rw [Nat.zero_add] at this
    rw [scanP, if_neg h6, ← this, hR]
  refine enterA1 Tryd.func18 rfl rfl rfl ?_
  refine zS (zR (zO rfl Rd.asg ?_))
  refine XOA.wr0 rfl (WrA.alloc (tyrow rfl)) ?_
  rintro _ _ _ ⟨g3, rfl, rfl, rfl⟩
  refine zN (zT (zS (zS (zR (zA rfl ?_))))); refine zO rfl (Rd.lenString (tyrow rfl) rfl rfl) ?_; refine zO rfl (Rd.gtr rfl rfl) ?_; refine zN (zT (XA.condF rfl (by first | rfl | exact decide_eq_false (by omega)) ?_)); refine XA.skip (zT (zS (zR (zO rfl Rd.asg ?_))))
  refine zN (zT (zS (zR (zO rfl Rd.asg ?_)))); refine zN (zT (zS (XA.block ?_)))
  refine XA.ent (Ent.selNil (e := 42) (size := 4) (Ent.refl _)) ?_
  refine XA.gen [(0, _), (2, _), (3, _), (4, _), (5, _)] ⟨(by with_reducible (conv => lhs; whnf)), (by with_reducible (conv => lhs; whnf)), (by with_reducible (conv => lhs; whnf)), (by with_reducible (conv => lhs; whnf)), (by with_reducible (conv => lhs; whnf)), trivial⟩ (fun δ => ?_)
  dsimp only [List.foldl]
  refine XA.loop [(2, 2), (4, 9), (14, 121)] (fun x : (Nat × (Nat × List Tk)) × (Option Addr × Nat) => [(5, i64 x.1.1), (4, .slice x.2.1 x.1.2.1 x.2.2)]) (fun x σ' Γ' => σ = σ' ∧ x.1.1 ≤ s.size ∧ x.1.2.1 ≤ x.1.1 ∧ x.1.2.2.length = x.1.2.1 ∧ (∃ f, s.size < x.1.1 + f ∧ R = scanB s f x.1.1 x.1.2.2) ∧ Γ' = [blk g3 [i64 0, i64 0] 30, lst 42 4 (.slice x.2.1 x.1.2.1 x.2.2) x.1.2.1 (tksC x.1.2.2)]) (fun x => s.size - x.1.1) ((0, (0, [])), (none, 0)) (by exact ⟨rfl, rfl, trivial⟩) (Δ0 := _) ?_ (⟨rfl, Nat.zero_le _, Nat.zero_le _, rfl, ⟨s.size + 1, by simp only; omega, hR.symm⟩, rfl⟩) ?_
  · exact zE
  rintro ⟨⟨i, n, acc⟩, p, c⟩ δ _ _ ⟨rfl, hi, hn, hacc, ⟨f, hf, hRf⟩, rfl⟩
  dsimp only [ovr, List.foldl]
  simp only at hi hn hacc hf hRf
  by_cases hlt : i < s.size
  · have hb := byteAt_lt s i
    have hrl := rletter_t σ (byteAt s i) hb
    have hrd := rdigit_t σ (byteAt s i) hb
    obtain ⟨f, rfl⟩ : ∃ f', f = f' + 1 := ⟨f - 1, by omega⟩
    rw [scanB, if_pos hlt] at hRf
    by_cases hbl : blankB (byteAt s i) = true
    · rw [if_pos hbl] at hRf
      have hbl' : byteAt s i = 32 ∨ byteAt s i = 9 ∨ byteAt s i = 10 ∨ byteAt s i = 13 := of_decide_eq_true hbl
      rcases hbl' with hc | hc | hc | hc
      · skip
        refine zS (zS (zR (zA rfl ?_))); refine zA rfl ?_; refine zO rfl (Rd.lenString (tyrow rfl) rfl rfl) ?_; refine zO rfl (Rd.lss rfl rfl) ?_; refine zN (zT (XA.condT rfl (by first | rfl | exact decide_eq_true (by omega)) ?_)); refine XA.skip (zT (XA.block (zS (zR (zA rfl ?_))))); refine zA rfl ?_
        refine zO rfl (Rd.indexStr (tyrow rfl) rfl rfl rfl (by first | omega | decide | (simp; omega))) ?_
        refine zO rfl Rd.asg ?_; refine zN (zT (zS (zR (zA rfl ?_)))); refine zO rfl zI ?_; refine zO rfl Rd.asg ?_; refine zN (zT (zS (XA.block (zS (zR (zA rfl ?_)))))); refine zO rfl (Rd.eql rfl rfl) ?_; refine zA rfl ?_
        first | (refine zG ?_; refine zA rfl ?_) | refine zH ?_
        first | (refine zG ?_; refine zO rfl (Rd.eql rfl rfl) ?_) | refine zH ?_
        refine zO rfl zP ?_; refine zA rfl ?_
        first | (refine zG ?_; refine zA rfl ?_) | refine zH ?_
        first | (refine zG ?_; refine zO rfl (Rd.eql rfl rfl) ?_) | refine zH ?_
        refine zO rfl zP ?_; refine zA rfl ?_
        first | (refine zG ?_; refine zA rfl ?_) | refine zH ?_
        first | (refine zG ?_; refine zO rfl (Rd.eql rfl rfl) ?_) | refine zH ?_
        refine zO rfl zP ?_; refine zO rfl Rd.asg ?_; refine zN (zT (XA.condT rfl (by first | rfl | exact decide_eq_true (by omega)) ?_)); refine XA.skip (DA.inb_normal (zT (zR (zA rfl ?_)))); refine zO rfl Rd.asg ?_; refine zN (DA.inb_normal (zT ?_))
        refine ⟨(Keep.upd (Keep.upd (Keep.upd (Keep.upd (Keep.upd (Keep.upd (Keep.upd (Keep.upd (Keep.upd (Keep.upd (Keep.upd (Keep.upd (Keep.upd (Keep.upd (Keep.upd (Keep.upd (Keep.upd (Keep.upd (Keep.upd (Keep.upd (Keep.upd (Keep.upd (Keep.upd (Keep.upd (Keep.upd (Keep.upd (Keep.upd (Keep.upd (Keep.upd (Keep.upd (Keep.hav (Keep.hav (Keep.hav (Keep.refl _ _) rfl) rfl) rfl) rfl) rfl) rfl) rfl) rfl) rfl) rfl) rfl) rfl) rfl) rfl) rfl) rfl) rfl) rfl) rfl) rfl) rfl) rfl) rfl) rfl) rfl) rfl) rfl) rfl) rfl) rfl) rfl) rfl) rfl), ((i + 1, (n, acc)), (p, c)), _, zM, ?_, ⟨rfl, hlt, by show n ≤ i + 1; omega, hacc, ⟨f, by show s.size < i + 1 + f; omega, hRf⟩, rfl⟩, (by simp only; omega)⟩
        · exact zE
      · skip
        refine zS (zS (zR (zA rfl ?_))); refine zA rfl ?_; refine zO rfl (Rd.lenString (tyrow rfl) rfl rfl) ?_; refine zO rfl (Rd.lss rfl rfl) ?_; refine zN (zT (XA.condT rfl (by first | rfl | exact decide_eq_true (by omega)) ?_)); refine XA.skip (zT (XA.block (zS (zR (zA rfl ?_))))); refine zA rfl ?_
        refine zO rfl (Rd.indexStr (tyrow rfl) rfl rfl rfl (by first | omega | decide | (simp; omega))) ?_
        refine zO rfl Rd.asg ?_; refine zN (zT (zS (zR (zA rfl ?_)))); refine zO rfl zI ?_; refine zO rfl Rd.asg ?_; refine zN (zT (zS (XA.block (zS (zR (zA rfl ?_)))))); refine zO rfl (Rd.eql rfl rfl) ?_; refine zA rfl ?_
        first | (refine zG ?_; refine zA rfl ?_) | refine zH ?_
        first | (refine zG ?_; refine zO rfl (Rd.eql rfl rfl) ?_) | refine zH ?_
        refine zO rfl zP ?_; refine zA rfl ?_
        first | (refine zG ?_; refine zA rfl ?_) | refine zH ?_
        first | (refine zG ?_; refine zO rfl (Rd.eql rfl rfl) ?_) | refine zH ?_
        refine zO rfl zP ?_; refine zA rfl ?_
        first | (refine zG ?_; refine zA rfl ?_) | refine zH ?_
        first | (refine zG ?_; refine zO rfl (Rd.eql rfl rfl) ?_) | refine zH ?_
        refine zO rfl zP ?_; refine zO rfl Rd.asg ?_; refine zN (zT (XA.condT rfl (by first | rfl | exact decide_eq_true (by omega)) ?_)); refine XA.skip (DA.inb_normal (zT (zR (zA rfl ?_)))); refine zO rfl Rd.asg ?_; refine zN (DA.inb_normal (zT ?_))
        refine ⟨(Keep.upd (Keep.upd (Keep.upd (Keep.upd (Keep.upd (Keep.upd (Keep.upd (Keep.upd (Keep.upd (Keep.upd (Keep.upd (Keep.upd (Keep.upd (Keep.upd (Keep.upd (Keep.upd (Keep.upd (Keep.upd (Keep.upd (Keep.upd (Keep.upd (Keep.upd (Keep.upd (Keep.upd (Keep.upd (Keep.upd (Keep.upd (Keep.upd (Keep.upd (Keep.upd (Keep.hav (Keep.hav (Keep.hav (Keep.refl _ _) rfl) rfl) rfl) rfl) rfl) rfl) rfl) rfl) rfl) rfl) rfl) rfl) rfl) rfl) rfl) rfl) rfl) rfl) rfl) rfl) rfl) rfl) rfl) rfl) rfl) rfl) rfl) rfl) rfl) rfl) rfl) rfl) rfl), ((i + 1, (n, acc)), (p, c)), _, zM, ?_, ⟨rfl, hlt, by show n ≤ i + 1; omega, hacc, ⟨f, by show s.size < i + 1 + f; omega, hRf⟩, rfl⟩, (by simp only; omega)⟩
        · exact zE
      · skip
        refine zS (zS (zR (zA rfl ?_))); refine zA rfl ?_; refine zO rfl (Rd.lenString (tyrow rfl) rfl rfl) ?_; refine zO rfl (Rd.lss rfl rfl) ?_; refine zN (zT (XA.condT rfl (by first | rfl | exact decide_eq_true (by omega)) ?_)); refine XA.skip (zT (XA.block (zS (zR (zA rfl ?_))))); refine zA rfl ?_
        refine zO rfl (Rd.indexStr (tyrow rfl) rfl rfl rfl (by first | omega | decide | (simp; omega))) ?_
        refine zO rfl Rd.asg ?_; refine zN (zT (zS (zR (zA rfl ?_)))); refine zO rfl zI ?_; refine zO rfl Rd.asg ?_; refine zN (zT (zS (XA.block (zS (zR (zA rfl ?_)))))); refine zO rfl (Rd.eql rfl rfl) ?_; refine zA rfl ?_
        first | (refine zG ?_; refine zA rfl ?_) | refine zH ?_
        first | (refine zG ?_; refine zO rfl (Rd.eql rfl rfl) ?_) | refine zH ?_
        refine zO rfl zP ?_; refine zA rfl ?_
        first | (refine zG ?_; refine zA rfl ?_) | refine zH ?_
        first | (refine zG ?_; refine zO rfl (Rd.eql rfl rfl) ?_) | refine zH ?_
        refine zO rfl zP ?_; refine zA rfl ?_
        first | (refine zG ?_; refine zA rfl ?_) | refine zH ?_
        first | (refine zG ?_; refine zO rfl (Rd.eql rfl rfl) ?_) | refine zH ?_
        refine zO rfl zP ?_; refine zO rfl Rd.asg ?_; refine zN (zT (XA.condT rfl (by first | rfl | exact decide_eq_true (by omega)) ?_)); refine XA.skip (DA.inb_normal (zT (zR (zA rfl ?_)))); refine zO rfl Rd.asg ?_; refine zN (DA.inb_normal (zT ?_))
        refine ⟨(Keep.upd (Keep.upd (Keep.upd (Keep.upd (Keep.upd (Keep.upd (Keep.upd (Keep.upd (Keep.upd (Keep.upd (Keep.upd (Keep.upd (Keep.upd (Keep.upd (Keep.upd (Keep.upd (Keep.upd (Keep.upd (Keep.upd (Keep.upd (Keep.upd (Keep.upd (Keep.upd (Keep.upd (Keep.upd (Keep.upd (Keep.upd (Keep.upd (Keep.upd (Keep.upd (Keep.hav (Keep.hav (Keep.hav (Keep.refl _ _) rfl) rfl) rfl) rfl) rfl) rfl) rfl) rfl) rfl) rfl) rfl) rfl) rfl) rfl) rfl) rfl) rfl) rfl) rfl) rfl) rfl) rfl) rfl) rfl) rfl) rfl) rfl) rfl) rfl) rfl) rfl) rfl) rfl), ((i + 1, (n, acc)), (p, c)), _, zM, ?_, ⟨rfl, hlt, by show n ≤ i + 1; omega, hacc, ⟨f, by show s.size < i + 1 + f; omega, hRf⟩, rfl⟩, (by simp only; omega)⟩
        · exact zE
      · skip
        refine zS (zS (zR (zA rfl ?_))); refine zA rfl ?_; refine zO rfl (Rd.lenString (tyrow rfl) rfl rfl) ?_; refine zO rfl (Rd.lss rfl rfl) ?_; refine zN (zT (XA.condT rfl (by first | rfl | exact decide_eq_true (by omega)) ?_)); refine XA.skip (zT (XA.block (zS (zR (zA rfl ?_))))); refine zA rfl ?_
        refine zO rfl (Rd.indexStr (tyrow rfl) rfl rfl rfl (by first | omega | decide | (simp; omega))) ?_
        refine zO rfl Rd.asg ?_; refine zN (zT (zS (zR (zA rfl ?_)))); refine zO rfl zI ?_; refine zO rfl Rd.asg ?_; refine zN (zT (zS (XA.block (zS (zR (zA rfl ?_)))))); refine zO rfl (Rd.eql rfl rfl) ?_; refine zA rfl ?_
        first | (refine zG ?_; refine zA rfl ?_) | refine zH ?_
        first | (refine zG ?_; refine zO rfl (Rd.eql rfl rfl) ?_) | refine zH ?_
        refine zO rfl zP ?_; refine zA rfl ?_
        first | (refine zG ?_; refine zA rfl ?_) | refine zH ?_
        first | (refine zG ?_; refine zO rfl (Rd.eql rfl rfl) ?_) | refine zH ?_
        refine zO rfl zP ?_; refine zA rfl ?_
        first | (refine zG ?_; refine zA rfl ?_) | refine zH ?_
        first | (refine zG ?_; refine zO rfl (Rd.eql rfl rfl) ?_) | refine zH ?_
        refine zO rfl zP ?_; refine zO rfl Rd.asg ?_; refine zN (zT (XA.condT rfl (by first | rfl | exact decide_eq_true (by omega)) ?_)); refine XA.skip (DA.inb_normal (zT (zR (zA rfl ?_)))); refine zO rfl Rd.asg ?_; refine zN (DA.inb_normal (zT ?_))
        refine ⟨(Keep.upd (Keep.upd (Keep.upd (Keep.upd (Keep.upd (Keep.upd (Keep.upd (Keep.upd (Keep.upd (Keep.upd (Keep.upd (Keep.upd (Keep.upd (Keep.upd (Keep.upd (Keep.upd (Keep.upd (Keep.upd (Keep.upd (Keep.upd (Keep.upd (Keep.upd (Keep.upd (Keep.upd (Keep.upd (Keep.upd (Keep.upd (Keep.upd (Keep.upd (Keep.upd (Keep.hav (Keep.hav (Keep.hav (Keep.refl _ _) rfl) rfl) rfl) rfl) rfl) rfl) rfl) rfl) rfl) rfl) rfl) rfl) rfl) rfl) rfl) rfl) rfl) rfl) rfl) rfl) rfl) rfl) rfl) rfl) rfl) rfl) rfl) rfl) rfl) rfl) rfl) rfl) rfl), ((i + 1, (n, acc)), (p, c)), _, zM, ?_, ⟨rfl, hlt, by show n ≤ i + 1; omega, hacc, ⟨f, by show s.size < i + 1 + f; omega, hRf⟩, rfl⟩, (by simp only; omega)⟩
        · exact zE
    rw [if_neg hbl] at hRf
    have hnb : ¬ (byteAt s i = 32 ∨ byteAt s i = 9 ∨ byteAt s i = 10 ∨ byteAt s i = 13) := fun h => hbl (decide_eq_true h)
    by_cases h40 : byteAt s i = 40
    · skip
      have ho : oneT s i = some ⟨i, s.extract i (i + 1), false, 0⟩ := by rw [oneT, if_pos (by omega)]
      have hz : (s.extract i (i + 1)).size = 1 := by rw [ByteArray.size_extract]; omega
      rw [ho] at hRf
      simp only [hz] at hRf
      refine zS (zS (zR (zA rfl ?_))); refine zA rfl ?_; refine zO rfl (Rd.lenString (tyrow rfl) rfl rfl) ?_; refine zO rfl (Rd.lss rfl rfl) ?_; refine zN (zT (XA.condT rfl (by first | rfl | exact decide_eq_true (by omega)) ?_)); refine XA.skip (zT (XA.block (zS (zR (zA rfl ?_))))); refine zA rfl ?_
      refine zO rfl (Rd.indexStr (tyrow rfl) rfl rfl rfl (by first | omega | decide | (simp; omega))) ?_
      refine zO rfl Rd.asg ?_; refine zN (zT (zS (zR (zA rfl ?_)))); refine zO rfl zI ?_; refine zO rfl Rd.asg ?_; refine zN (zT (zS (XA.block (zS (zR (zA rfl ?_)))))); refine zO rfl (Rd.eql rfl rfl) ?_; refine zA rfl ?_
      first | (refine zG ?_; refine zA rfl ?_) | refine zH ?_
      first | (refine zG ?_; refine zO rfl (Rd.eql rfl rfl) ?_) | refine zH ?_
      refine zO rfl zP ?_; refine zA rfl ?_
      first | (refine zG ?_; refine zA rfl ?_) | refine zH ?_
      first | (refine zG ?_; refine zO rfl (Rd.eql rfl rfl) ?_) | refine zH ?_
      refine zO rfl zP ?_; refine zA rfl ?_
      first | (refine zG ?_; refine zA rfl ?_) | refine zH ?_
      first | (refine zG ?_; refine zO rfl (Rd.eql rfl rfl) ?_) | refine zH ?_
      refine zO rfl zP ?_; refine zO rfl Rd.asg ?_; refine zN (zT (XA.condF rfl (by first | rfl | exact decide_eq_false (by omega)) ?_)); refine zS (zR (zA rfl ?_)); refine zO rfl (Rd.eql rfl rfl) ?_; refine zA rfl ?_
      first | (refine zG ?_; refine zA rfl ?_) | refine zH ?_
      first | (refine zG ?_; refine zO rfl (Rd.eql rfl rfl) ?_) | refine zH ?_
      refine zO rfl zP ?_; refine zO rfl Rd.asg ?_; refine zN (zT (XA.condT rfl (by first | rfl | exact decide_eq_true (by omega)) ?_)); refine zR (zA rfl ?_); refine zA rfl ?_; refine zA rfl ?_; refine zA rfl ?_; refine zA rfl ?_; refine zO rfl (Rd.sliceS (tyrow rfl) rfl rfl rfl rfl (by omega) rfl) ?_
      refine zO rfl (Rd.bl (fun _ _ => tyrow) rfl rfl rfl) ?_
      refine XOA.wr0 rfl (WrA.bs1 (tyrow rfl) rfl (tyrow rfl)) ?_
      rintro _ _ _ ⟨g54, rfl, rfl, rfl⟩
      refine XOA.wr0 rfl (WrA.ap1 (tyrow rfl) rfl (tyrow rfl) rfl rfl rfl) ?_
      rintro _ _ _ ⟨p55, c55, rfl, rfl, rfl⟩
      refine zO rfl Rd.asg ?_; refine zN (DA.inb_normal (zT (zR (zA rfl ?_)))); refine zO rfl Rd.asg ?_; refine zN (DA.inb_normal (zT ?_))
      refine ⟨(Keep.upd (Keep.upd (Keep.upd (Keep.updO (Keep.updO (Keep.upd (Keep.upd (Keep.upd (Keep.upd (Keep.upd (Keep.upd (Keep.upd (Keep.upd (Keep.upd (Keep.upd (Keep.upd (Keep.upd (Keep.upd (Keep.upd (Keep.upd (Keep.upd (Keep.upd (Keep.upd (Keep.upd (Keep.upd (Keep.upd (Keep.upd (Keep.upd (Keep.upd (Keep.upd (Keep.upd (Keep.upd (Keep.upd (Keep.upd (Keep.upd (Keep.upd (Keep.upd (Keep.upd (Keep.upd (Keep.upd (Keep.upd (Keep.upd (Keep.upd (Keep.upd (Keep.upd (Keep.upd (Keep.upd (Keep.hav (Keep.hav (Keep.hav (Keep.refl _ _) rfl) rfl) rfl) rfl) rfl) rfl) rfl) rfl) rfl) rfl) rfl) rfl) rfl) rfl) rfl) rfl) rfl) rfl) rfl) rfl) rfl) rfl) rfl) rfl) rfl) rfl) rfl) rfl) rfl) rfl) rfl) rfl) rfl) rfl) rfl) rfl) rfl) rfl) rfl) rfl) rfl) rfl) rfl) rfl) rfl) rfl) rfl) rfl) rfl) rfl), ((i + 1, (n + 1, acc ++ [(⟨i, s.extract i (i + 1), false, 0⟩ : Tk)])), (p55, c55)), _, zM, ?_, ⟨rfl, by show i + 1 ≤ s.size; omega, by show n + 1 ≤ i + 1; omega, by show (acc ++ [(⟨i, s.extract i (i + 1), false, 0⟩ : Tk)]).length = n + 1; rw [List.length_append, hacc]; rfl, ⟨f, by show s.size < i + 1 + f; omega, hRf⟩, rfl⟩, (by show s.size - (i + 1) < s.size - i; omega)⟩
      · rw [tksC_snoc]; exact zE
    by_cases h41 : byteAt s i = 41
    · skip
      have ho : oneT s i = some ⟨i, s.extract i (i + 1), false, 0⟩ := by rw [oneT, if_pos (by omega)]
      have hz : (s.extract i (i + 1)).size = 1 := by rw [ByteArray.size_extract]; omega
      rw [ho] at hRf
      simp only [hz] at hRf
      refine zS (zS (zR (zA rfl ?_))); refine zA rfl ?_; refine zO rfl (Rd.lenString (tyrow rfl) rfl rfl) ?_; refine zO rfl (Rd.lss rfl rfl) ?_; refine zN (zT (XA.condT rfl (by first | rfl | exact decide_eq_true (by omega)) ?_)); refine XA.skip (zT (XA.block (zS (zR (zA rfl ?_))))); refine zA rfl ?_
      refine zO rfl (Rd.indexStr (tyrow rfl) rfl rfl rfl (by first | omega | decide | (simp; omega))) ?_
      refine zO rfl Rd.asg ?_; refine zN (zT (zS (zR (zA rfl ?_)))); refine zO rfl zI ?_; refine zO rfl Rd.asg ?_; refine zN (zT (zS (XA.block (zS (zR (zA rfl ?_)))))); refine zO rfl (Rd.eql rfl rfl) ?_; refine zA rfl ?_
      first | (refine zG ?_; refine zA rfl ?_) | refine zH ?_
      first | (refine zG ?_; refine zO rfl (Rd.eql rfl rfl) ?_) | refine zH ?_
      refine zO rfl zP ?_; refine zA rfl ?_
      first | (refine zG ?_; refine zA rfl ?_) | refine zH ?_
      first | (refine zG ?_; refine zO rfl (Rd.eql rfl rfl) ?_) | refine zH ?_
      refine zO rfl zP ?_; refine zA rfl ?_
      first | (refine zG ?_; refine zA rfl ?_) | refine zH ?_
      first | (refine zG ?_; refine zO rfl (Rd.eql rfl rfl) ?_) | refine zH ?_
      refine zO rfl zP ?_; refine zO rfl Rd.asg ?_; refine zN (zT (XA.condF rfl (by first | rfl | exact decide_eq_false (by omega)) ?_)); refine zS (zR (zA rfl ?_)); refine zO rfl (Rd.eql rfl rfl) ?_; refine zA rfl ?_
      first | (refine zG ?_; refine zA rfl ?_) | refine zH ?_
      first | (refine zG ?_; refine zO rfl (Rd.eql rfl rfl) ?_) | refine zH ?_
      refine zO rfl zP ?_; refine zO rfl Rd.asg ?_; refine zN (zT (XA.condT rfl (by first | rfl | exact decide_eq_true (by omega)) ?_)); refine zR (zA rfl ?_); refine zA rfl ?_; refine zA rfl ?_; refine zA rfl ?_; refine zA rfl ?_; refine zO rfl (Rd.sliceS (tyrow rfl) rfl rfl rfl rfl (by omega) rfl) ?_
      refine zO rfl (Rd.bl (fun _ _ => tyrow) rfl rfl rfl) ?_
      refine XOA.wr0 rfl (WrA.bs1 (tyrow rfl) rfl (tyrow rfl)) ?_
      rintro _ _ _ ⟨g54, rfl, rfl, rfl⟩
      refine XOA.wr0 rfl (WrA.ap1 (tyrow rfl) rfl (tyrow rfl) rfl rfl rfl) ?_
      rintro _ _ _ ⟨p55, c55, rfl, rfl, rfl⟩
      refine zO rfl Rd.asg ?_; refine zN (DA.inb_normal (zT (zR (zA rfl ?_)))); refine zO rfl Rd.asg ?_; refine zN (DA.inb_normal (zT ?_))
      refine ⟨(Keep.upd (Keep.upd (Keep.upd (Keep.updO (Keep.updO (Keep.upd (Keep.upd (Keep.upd (Keep.upd (Keep.upd (Keep.upd (Keep.upd (Keep.upd (Keep.upd (Keep.upd (Keep.upd (Keep.upd (Keep.upd (Keep.upd (Keep.upd (Keep.upd (Keep.upd (Keep.upd (Keep.upd (Keep.upd (Keep.upd (Keep.upd (Keep.upd (Keep.upd (Keep.upd (Keep.upd (Keep.upd (Keep.upd (Keep.upd (Keep.upd (Keep.upd (Keep.upd (Keep.upd (Keep.upd (Keep.upd (Keep.upd (Keep.upd (Keep.upd (Keep.upd (Keep.upd (Keep.upd (Keep.upd (Keep.hav (Keep.hav (Keep.hav (Keep.refl _ _) rfl) rfl) rfl) rfl) rfl) rfl) rfl) rfl) rfl) rfl) rfl) rfl) rfl) rfl) rfl) rfl) rfl) rfl) rfl) rfl) rfl) rfl) rfl) rfl) rfl) rfl) rfl) rfl) rfl) rfl) rfl) rfl) rfl) rfl) rfl) rfl) rfl) rfl) rfl) rfl) rfl) rfl) rfl) rfl) rfl) rfl) rfl) rfl) rfl) rfl), ((i + 1, (n + 1, acc ++ [(⟨i, s.extract i (i + 1), false, 0⟩ : Tk)])), (p55, c55)), _, zM, ?_, ⟨rfl, by show i + 1 ≤ s.size; omega, by show n + 1 ≤ i + 1; omega, by show (acc ++ [(⟨i, s.extract i (i + 1), false, 0⟩ : Tk)]).length = n + 1; rw [List.length_append, hacc]; rfl, ⟨f, by show s.size < i + 1 + f; omega, hRf⟩, rfl⟩, (by show s.size - (i + 1) < s.size - i; omega)⟩
      · rw [tksC_snoc]; exact zE
    cases hl : letterB (byteAt s i) with
    | true =>
      have hle := runB_le letterB s (i := i) (by omega)
      have hl1 : runB letterB s i = runB letterB s (i + 1) + 1 := by rw [runB_eq, if_pos ⟨hlt, hl⟩]
      have ho : oneT s i = some ⟨i, s.extract i (i + runB letterB s i), false, 0⟩ := by rw [oneT, if_neg (by omega), if_pos hl]
      rw [ho] at hRf
      have hz : (s.extract i (i + runB letterB s i)).size = runB letterB s i := by rw [ByteArray.size_extract]; omega
      simp only [hz] at hRf
      rw [hl] at hrl
      refine zS (zS (zR (zA rfl ?_))); refine zA rfl ?_; refine zO rfl (Rd.lenString (tyrow rfl) rfl rfl) ?_; refine zO rfl (Rd.lss rfl rfl) ?_; refine zN (zT (XA.condT rfl (by first | rfl | exact decide_eq_true (by omega)) ?_)); refine XA.skip (zT (XA.block (zS (zR (zA rfl ?_))))); refine zA rfl ?_
      refine zO rfl (Rd.indexStr (tyrow rfl) rfl rfl rfl (by first | omega | decide | (simp; omega))) ?_
      refine zO rfl Rd.asg ?_; refine zN (zT (zS (zR (zA rfl ?_)))); refine zO rfl zI ?_; refine zO rfl Rd.asg ?_; refine zN (zT (zS (XA.block (zS (zR (zA rfl ?_)))))); refine zO rfl (Rd.eql rfl rfl) ?_; refine zA rfl ?_
      first | (refine zG ?_; refine zA rfl ?_) | refine zH ?_
      first | (refine zG ?_; refine zO rfl (Rd.eql rfl rfl) ?_) | refine zH ?_
      refine zO rfl zP ?_; refine zA rfl ?_
      first | (refine zG ?_; refine zA rfl ?_) | refine zH ?_
      first | (refine zG ?_; refine zO rfl (Rd.eql rfl rfl) ?_) | refine zH ?_
      refine zO rfl zP ?_; refine zA rfl ?_
      first | (refine zG ?_; refine zA rfl ?_) | refine zH ?_
      first | (refine zG ?_; refine zO rfl (Rd.eql rfl rfl) ?_) | refine zH ?_
      refine zO rfl zP ?_; refine zO rfl Rd.asg ?_; refine zN (zT (XA.condF rfl (by first | rfl | exact decide_eq_false (by omega)) ?_)); refine zS (zR (zA rfl ?_)); refine zO rfl (Rd.eql rfl rfl) ?_; refine zA rfl ?_
      first | (refine zG ?_; refine zA rfl ?_) | refine zH ?_
      first | (refine zG ?_; refine zO rfl (Rd.eql rfl rfl) ?_) | refine zH ?_
      refine zO rfl zP ?_; refine zO rfl Rd.asg ?_; refine zN (zT (XA.condF rfl (by first | rfl | exact decide_eq_false (by omega)) ?_)); refine zS (zR (zA rfl ?_))
      refine XOA.wr0 rfl (WrA.cE (hrl) rfl) ?_
      rintro _ _ _ ⟨_, ⟨rfl, rfl, rfl⟩, rfl⟩
      refine XOA.cl ?_; refine zO rfl Rd.asg ?_; refine zN (zT (XA.condT rfl rfl (zS (XA.block ?_))))
      refine XA.loop [(7, 7), (59, 70)] (fun j : Nat => [(7, i64 j)]) (fun j σ' Γ' => σ = σ' ∧ i + 1 ≤ j ∧ j ≤ s.size ∧ runB letterB s (i + 1) = runB letterB s j + (j - (i + 1)) ∧ Γ' = [blk g3 [i64 0, i64 0] 30, lst 42 4 (.slice p n c) n (tksC acc)]) (fun j => s.size - j) (i + 1) (by exact ⟨rfl, trivial⟩) (Δ0 := _) ?_ (⟨rfl, Nat.le_refl _, hlt, by rw [Nat.sub_self]; rfl, rfl⟩) ?_
      · exact zE
      rintro j δ2 _ _ ⟨rfl, hj0, hj1, hjr, rfl⟩
      dsimp only [ovr, List.foldl]
      replace hj0 : i + 1 ≤ j := hj0
      replace hj1 : j ≤ s.size := hj1
      replace hjr : runB letterB s (i + 1) = runB letterB s j + (j - (i + 1)) := hjr
      by_cases hjl : j < s.size
      · have hrj := rletter_t σ (byteAt s j) (byteAt_lt s j)
        rw [runB_eq letterB s j] at hjr
        cases hqj : letterB (byteAt s j) with
        | true =>
          rw [hqj] at hrj
          rw [if_pos ⟨hjl, hqj⟩] at hjr
          refine zS (zS (zR (zA rfl ?_))); refine zA rfl ?_; refine zO rfl (Rd.lenString (tyrow rfl) rfl rfl) ?_; refine zO rfl (Rd.lss rfl rfl) ?_; refine zA rfl ?_
          first | (refine zG ?_; refine zA rfl ?_) | refine zH ?_
          first | (refine zG ?_; refine zA rfl ?_) | refine zH ?_
          first | (refine zG ?_; refine zO rfl (Rd.indexStr (tyrow rfl) rfl rfl rfl (by first | omega | decide | (simp; omega))) ?_) | refine zH ?_
          first | refine XOA.wanted rfl rfl ?_ | refine XOA.wq rfl rfl ?_
          refine XOA.wr0 rfl (WrA.cE (hrj) rfl) ?_
          rintro _ _ _ ⟨_, ⟨rfl, rfl, rfl⟩, rfl⟩
          refine XOA.cl ?_; refine zO rfl zP ?_; refine zN (zT (XA.condT rfl rfl (XA.skip (zT (XA.block (zR (zA rfl ?_))))))); refine zO rfl zI ?_; refine zO rfl Rd.asg ?_; refine zN (DA.inb_normal (zT ?_))
          refine ⟨(Keep.upd (Keep.upd (Keep.upd (Keep.upd (Keep.updO (Keep.upd (Keep.upd (Keep.upd (Keep.upd (Keep.upd (Keep.upd (Keep.upd (Keep.upd (Keep.upd (Keep.hav (Keep.hav (Keep.refl _ _) rfl) rfl) rfl) rfl) rfl) rfl) rfl) rfl) rfl) rfl) rfl) rfl) rfl) rfl) rfl) rfl), j + 1, _, zM, ?_, ⟨rfl, by show i + 1 ≤ j + 1; omega, hjl, by show runB letterB s (i + 1) = runB letterB s (j + 1) + (j + 1 - (i + 1)); omega, rfl⟩, (by omega)⟩
          · exact zE
        | false =>
          rw [hqj] at hrj
          rw [if_neg (fun x => by rw [hqj] at x; exact Bool.noConfusion x.2), Nat.zero_add] at hjr
          refine zS (zS (zR (zA rfl ?_))); refine zA rfl ?_; refine zO rfl (Rd.lenString (tyrow rfl) rfl rfl) ?_; refine zO rfl (Rd.lss rfl rfl) ?_; refine zA rfl ?_
          first | (refine zG ?_; refine zA rfl ?_) | refine zH ?_
          first | (refine zG ?_; refine zA rfl ?_) | refine zH ?_
          first | (refine zG ?_; refine zO rfl (Rd.indexStr (tyrow rfl) rfl rfl rfl (by first | omega | decide | (simp; omega))) ?_) | refine zH ?_
          first | refine XOA.wanted rfl rfl ?_ | refine XOA.wq rfl rfl ?_
          refine XOA.wr0 rfl (WrA.cE (hrj) rfl) ?_
          rintro _ _ _ ⟨_, ⟨rfl, rfl, rfl⟩, rfl⟩
          refine XOA.cl ?_; refine zO rfl zP ?_; refine zN (zT (XA.condF rfl rfl (XA.exit (DA.thn_exit (DA.thn_exit (DA.inb_same (zT (zR (zA rfl ?_))))))))); refine zA rfl ?_; refine zA rfl ?_; refine zA rfl ?_; refine zA rfl ?_
          have hj2 : j = i + runB letterB s i := by omega
          clear hjr
          subst hj2
          refine zO rfl (Rd.sliceS (tyrow rfl) rfl rfl rfl rfl (by omega) rfl) ?_
          refine zO rfl (Rd.bl (fun _ _ => tyrow) rfl rfl rfl) ?_
          refine XOA.wr0 rfl (WrA.bs1 (tyrow rfl) rfl (tyrow rfl)) ?_
          rintro _ _ _ ⟨g78, rfl, rfl, rfl⟩
          refine XOA.wr0 rfl (WrA.ap1 (tyrow rfl) rfl (tyrow rfl) rfl rfl rfl) ?_
          rintro _ _ _ ⟨p79, c79, rfl, rfl, rfl⟩
          refine zO rfl Rd.asg ?_; refine zN (DA.inb_normal (zT (zR (zA rfl ?_)))); refine zO rfl Rd.asg ?_; refine zN (DA.inb_normal (zT ?_))
          refine ⟨(Keep.upd (Keep.upd (Keep.upd (Keep.updO (Keep.updO (Keep.upd (Keep.upd (Keep.upd (Keep.upd (Keep.upd (Keep.upd (Keep.upd (Keep.upd (Keep.updO (Keep.upd (Keep.upd (Keep.upd (Keep.upd (Keep.upd (Keep.upd (Keep.upd (Keep.upd (Keep.upd (Keep.hav (Keep.hav (Keep.upd (Keep.updO (Keep.upd (Keep.upd (Keep.upd (Keep.upd (Keep.upd (Keep.upd (Keep.upd (Keep.upd (Keep.upd (Keep.upd (Keep.upd (Keep.upd (Keep.upd (Keep.upd (Keep.upd (Keep.upd (Keep.upd (Keep.upd (Keep.upd (Keep.upd (Keep.upd (Keep.upd (Keep.upd (Keep.upd (Keep.upd (Keep.upd (Keep.upd (Keep.upd (Keep.upd (Keep.upd (Keep.upd (Keep.upd (Keep.upd (Keep.upd (Keep.upd (Keep.upd (Keep.hav (Keep.hav (Keep.hav (Keep.refl _ _) rfl) rfl) rfl) rfl) rfl) rfl) rfl) rfl) rfl) rfl) rfl) rfl) rfl) rfl) rfl) rfl) rfl) rfl) rfl) rfl) rfl) rfl) rfl) rfl) rfl) rfl) rfl) rfl) rfl) rfl) rfl) rfl) rfl) rfl) rfl) rfl) rfl) rfl) rfl) rfl) rfl) rfl) rfl) rfl) rfl) rfl) rfl) rfl) rfl) rfl) rfl) rfl) rfl) rfl) rfl) rfl) rfl) rfl) rfl) rfl) rfl) rfl) rfl) rfl) rfl) rfl), ((i + runB letterB s i, (n + 1, acc ++ [(⟨i, s.extract i (i + runB letterB s i), false, 0⟩ : Tk)])), (p79, c79)), _, zM, ?_, ⟨rfl, by show i + runB letterB s i ≤ s.size; omega, by show n + 1 ≤ i + runB letterB s i; omega, by show (acc ++ [(⟨i, s.extract i (i + runB letterB s i), false, 0⟩ : Tk)]).length = n + 1; rw [List.length_append, hacc]; rfl, ⟨f, by show s.size < i + runB letterB s i + f; omega, hRf⟩, rfl⟩, (by show s.size - (i + runB letterB s i) < s.size - i; omega)⟩
          · rw [tksC_snoc]; exact zE
      · rw [runB_end (fun x => hjl x.1), Nat.zero_add] at hjr
        refine zS (zS (zR (zA rfl ?_))); refine zA rfl ?_; refine zO rfl (Rd.lenString (tyrow rfl) rfl rfl) ?_; refine zO rfl (Rd.lss rfl rfl) ?_; refine zA rfl ?_
        first | (refine zG ?_; refine zA rfl ?_) | refine zH ?_
        first | (refine zG ?_; refine zA rfl ?_) | refine zH ?_
        first | (refine zG ?_; refine zO rfl (Rd.indexStr (tyrow rfl) rfl rfl rfl (by first | omega | decide | (simp; omega))) ?_) | refine zH ?_
        first | refine zH ?_
        refine zO rfl zP ?_; refine zN (zT (XA.condF rfl (by first | rfl | exact decide_eq_false (by omega)) ?_)); refine XA.exit (DA.thn_exit (DA.thn_exit (DA.inb_same (zT (zR (zA rfl ?_)))))); refine zA rfl ?_; refine zA rfl ?_; refine zA rfl ?_; refine zA rfl ?_
        have hj2 : j = i + runB letterB s i := by omega
        clear hjr
        subst hj2
        refine zO rfl (Rd.sliceS (tyrow rfl) rfl rfl rfl rfl (by omega) rfl) ?_
        refine zO rfl (Rd.bl (fun _ _ => tyrow) rfl rfl rfl) ?_
        refine XOA.wr0 rfl (WrA.bs1 (tyrow rfl) rfl (tyrow rfl)) ?_
        rintro _ _ _ ⟨g78, rfl, rfl, rfl⟩
        refine XOA.wr0 rfl (WrA.ap1 (tyrow rfl) rfl (tyrow rfl) rfl rfl rfl) ?_
        rintro _ _ _ ⟨p79, c79, rfl, rfl, rfl⟩
        refine zO rfl Rd.asg ?_; refine zN (DA.inb_normal (zT (zR (zA rfl ?_)))); refine zO rfl Rd.asg ?_; refine zN (DA.inb_normal (zT ?_))
        refine ⟨(Keep.upd (Keep.upd (Keep.upd (Keep.updO (Keep.updO (Keep.upd (Keep.upd (Keep.upd (Keep.upd (Keep.upd (Keep.upd (Keep.upd (Keep.upd (Keep.upd (Keep.upd (Keep.upd (Keep.upd (Keep.upd (Keep.upd (Keep.upd (Keep.upd (Keep.upd (Keep.upd (Keep.hav (Keep.hav (Keep.upd (Keep.updO (Keep.upd (Keep.upd (Keep.upd (Keep.upd (Keep.upd (Keep.upd (Keep.upd (Keep.upd (Keep.upd (Keep.upd (Keep.upd (Keep.upd (Keep.upd (Keep.upd (Keep.upd (Keep.upd (Keep.upd (Keep.upd (Keep.upd (Keep.upd (Keep.upd (Keep.upd (Keep.upd (Keep.upd (Keep.upd (Keep.upd (Keep.upd (Keep.upd (Keep.upd (Keep.upd (Keep.upd (Keep.upd (Keep.upd (Keep.upd (Keep.upd (Keep.upd (Keep.hav (Keep.hav (Keep.hav (Keep.refl _ _) rfl) rfl) rfl) rfl) rfl) rfl) rfl) rfl) rfl) rfl) rfl) rfl) rfl) rfl) rfl) rfl) rfl) rfl) rfl) rfl) rfl) rfl) rfl) rfl) rfl) rfl) rfl) rfl) rfl) rfl) rfl) rfl) rfl) rfl) rfl) rfl) rfl) rfl) rfl) rfl) rfl) rfl) rfl) rfl) rfl) rfl) rfl) rfl) rfl) rfl) rfl) rfl) rfl) rfl) rfl) rfl) rfl) rfl) rfl) rfl) rfl) rfl) rfl) rfl) rfl) rfl), ((i + runB letterB s i, (n + 1, acc ++ [(⟨i, s.extract i (i + runB letterB s i), false, 0⟩ : Tk)])), (p79, c79)), _, zM, ?_, ⟨rfl, by show i + runB letterB s i ≤ s.size; omega, by show n + 1 ≤ i + runB letterB s i; omega, by show (acc ++ [(⟨i, s.extract i (i + runB letterB s i), false, 0⟩ : Tk)]).length = n + 1; rw [List.length_append, hacc]; rfl, ⟨f, by show s.size < i + runB letterB s i + f; omega, hRf⟩, rfl⟩, (by show s.size - (i + runB letterB s i) < s.size - i; omega)⟩
        · rw [tksC_snoc]; exact zE
    | false =>
      rw [hl] at hrl
      by_cases hd : digitB (byteAt s i) = true ∨ byteAt s i = 45
      · cases hq : digitB (byteAt s i) with
        | true =>
          rw [hq] at hrd
          have hle := runB_le digitB s (i := i + 1) (by omega)
          have ho : oneT s i = (longOf (s.extract i (i + 1 + runB digitB s (i + 1)))).map fun n => ⟨i, s.extract i (i + 1 + runB digitB s (i + 1)), true, n⟩ := by rw [oneT, if_neg (by omega), if_neg (by rw [hl]; exact Bool.noConfusion), if_pos hd]
          refine zS (zS (zR (zA rfl ?_))); refine zA rfl ?_; refine zO rfl (Rd.lenString (tyrow rfl) rfl rfl) ?_; refine zO rfl (Rd.lss rfl rfl) ?_; refine zN (zT (XA.condT rfl (by first | rfl | exact decide_eq_true (by omega)) ?_)); refine XA.skip (zT (XA.block (zS (zR (zA rfl ?_))))); refine zA rfl ?_
          refine zO rfl (Rd.indexStr (tyrow rfl) rfl rfl rfl (by first | omega | decide | (simp; omega))) ?_
          refine zO rfl Rd.asg ?_; refine zN (zT (zS (zR (zA rfl ?_)))); refine zO rfl zI ?_; refine zO rfl Rd.asg ?_; refine zN (zT (zS (XA.block (zS (zR (zA rfl ?_)))))); refine zO rfl (Rd.eql rfl rfl) ?_; refine zA rfl ?_
          first | (refine zG ?_; refine zA rfl ?_) | refine zH ?_
          first | (refine zG ?_; refine zO rfl (Rd.eql rfl rfl) ?_) | refine zH ?_
          refine zO rfl zP ?_; refine zA rfl ?_
          first | (refine zG ?_; refine zA rfl ?_) | refine zH ?_
          first | (refine zG ?_; refine zO rfl (Rd.eql rfl rfl) ?_) | refine zH ?_
          refine zO rfl zP ?_; refine zA rfl ?_
          first | (refine zG ?_; refine zA rfl ?_) | refine zH ?_
          first | (refine zG ?_; refine zO rfl (Rd.eql rfl rfl) ?_) | refine zH ?_
          refine zO rfl zP ?_; refine zO rfl Rd.asg ?_; refine zN (zT (XA.condF rfl (by first | rfl | exact decide_eq_false (by omega)) ?_)); refine zS (zR (zA rfl ?_)); refine zO rfl (Rd.eql rfl rfl) ?_; refine zA rfl ?_
          first | (refine zG ?_; refine zA rfl ?_) | refine zH ?_
          first | (refine zG ?_; refine zO rfl (Rd.eql rfl rfl) ?_) | refine zH ?_
          refine zO rfl zP ?_; refine zO rfl Rd.asg ?_; refine zN (zT (XA.condF rfl (by first | rfl | exact decide_eq_false (by omega)) ?_)); refine zS (zR (zA rfl ?_))
          refine XOA.wr0 rfl (WrA.cE (hrl) rfl) ?_
          rintro _ _ _ ⟨_, ⟨rfl, rfl, rfl⟩, rfl⟩
          refine XOA.cl ?_; refine zO rfl Rd.asg ?_; refine zN (zT (XA.condF rfl rfl (zS (zR (zA rfl ?_)))))
          refine XOA.wr0 rfl (WrA.cE (hrd) rfl) ?_
          rintro _ _ _ ⟨_, ⟨rfl, rfl, rfl⟩, rfl⟩
          refine XOA.cl ?_; refine zA rfl ?_
          first | (refine zG ?_; refine zA rfl ?_) | refine zH ?_
          first | (refine zG ?_; refine zO rfl (Rd.eql rfl rfl) ?_) | refine zH ?_
          refine zO rfl zP ?_; refine zO rfl Rd.asg ?_; refine zN (zT (XA.condT rfl (by first | rfl | exact decide_eq_true (by omega)) ?_)); refine zS (XA.block ?_)
          refine XA.loop [(7, 7), (87, 98)] (fun j : Nat => [(7, i64 j)]) (fun j σ' Γ' => σ = σ' ∧ i + 1 ≤ j ∧ j ≤ s.size ∧ runB digitB s (i + 1) = runB digitB s j + (j - (i + 1)) ∧ Γ' = [blk g3 [i64 0, i64 0] 30, lst 42 4 (.slice p n c) n (tksC acc)]) (fun j => s.size - j) (i + 1) (by exact ⟨rfl, trivial⟩) (Δ0 := _) ?_ (⟨rfl, Nat.le_refl _, hlt, by rw [Nat.sub_self]; rfl, rfl⟩) ?_
          · exact zE
          rintro j δ2 _ _ ⟨rfl, hj0, hj1, hjr, rfl⟩
          dsimp only [ovr, List.foldl]
          replace hj0 : i + 1 ≤ j := hj0
          replace hj1 : j ≤ s.size := hj1
          replace hjr : runB digitB s (i + 1) = runB digitB s j + (j - (i + 1)) := hjr
          by_cases hjl : j < s.size
          · have hrj := rdigit_t σ (byteAt s j) (byteAt_lt s j)
            rw [runB_eq digitB s j] at hjr
            cases hqj : digitB (byteAt s j) with
            | true =>
              rw [hqj] at hrj
              rw [if_pos ⟨hjl, hqj⟩] at hjr
              refine zS (zS (zR (zA rfl ?_))); refine zA rfl ?_; refine zO rfl (Rd.lenString (tyrow rfl) rfl rfl) ?_; refine zO rfl (Rd.lss rfl rfl) ?_; refine zA rfl ?_
              first | (refine zG ?_; refine zA rfl ?_) | refine zH ?_
              first | (refine zG ?_; refine zA rfl ?_) | refine zH ?_
              first | (refine zG ?_; refine zO rfl (Rd.indexStr (tyrow rfl) rfl rfl rfl (by first | omega | decide | (simp; omega))) ?_) | refine zH ?_
              first | refine XOA.wanted rfl rfl ?_ | refine XOA.wq rfl rfl ?_
              refine XOA.wr0 rfl (WrA.cE (hrj) rfl) ?_
              rintro _ _ _ ⟨_, ⟨rfl, rfl, rfl⟩, rfl⟩
              refine XOA.cl ?_; refine zO rfl zP ?_; refine zN (zT (XA.condT rfl rfl (XA.skip (zT (XA.block (zR (zA rfl ?_))))))); refine zO rfl zI ?_; refine zO rfl Rd.asg ?_; refine zN (DA.inb_normal (zT ?_))
              refine ⟨(Keep.upd (Keep.upd (Keep.upd (Keep.upd (Keep.updO (Keep.upd (Keep.upd (Keep.upd (Keep.upd (Keep.upd (Keep.upd (Keep.upd (Keep.upd (Keep.upd (Keep.hav (Keep.hav (Keep.refl _ _) rfl) rfl) rfl) rfl) rfl) rfl) rfl) rfl) rfl) rfl) rfl) rfl) rfl) rfl) rfl) rfl), j + 1, _, zM, ?_, ⟨rfl, by show i + 1 ≤ j + 1; omega, hjl, by show runB digitB s (i + 1) = runB digitB s (j + 1) + (j + 1 - (i + 1)); omega, rfl⟩, (by omega)⟩
              · exact zE
            | false =>
              rw [hqj] at hrj
              rw [if_neg (fun x => by rw [hqj] at x; exact Bool.noConfusion x.2), Nat.zero_add] at hjr
              refine zS (zS (zR (zA rfl ?_))); refine zA rfl ?_; refine zO rfl (Rd.lenString (tyrow rfl) rfl rfl) ?_; refine zO rfl (Rd.lss rfl rfl) ?_; refine zA rfl ?_
              first | (refine zG ?_; refine zA rfl ?_) | refine zH ?_
              first | (refine zG ?_; refine zA rfl ?_) | refine zH ?_
              first | (refine zG ?_; refine zO rfl (Rd.indexStr (tyrow rfl) rfl rfl rfl (by first | omega | decide | (simp; omega))) ?_) | refine zH ?_
              first | refine XOA.wanted rfl rfl ?_ | refine XOA.wq rfl rfl ?_
              refine XOA.wr0 rfl (WrA.cE (hrj) rfl) ?_
              rintro _ _ _ ⟨_, ⟨rfl, rfl, rfl⟩, rfl⟩
              refine XOA.cl ?_; refine zO rfl zP ?_; refine zN (zT (XA.condF rfl rfl (XA.exit (DA.thn_exit (DA.thn_exit (DA.inb_same (zT (zS (zR (zA rfl ?_)))))))))); refine zA rfl ?_; refine zA rfl ?_
              have hj2 : j = i + 1 + runB digitB s (i + 1) := by omega
              clear hjr
              subst hj2
              refine zO rfl (Rd.sliceS (tyrow rfl) rfl rfl rfl rfl (by omega) rfl) ?_
              have hz0 : (s.extract i (i + 1 + runB digitB s (i + 1))).size = 1 + runB digitB s (i + 1) := by rw [ByteArray.size_extract]; omega
              have hsz : (s.extract i (i + 1 + runB digitB s (i + 1))).size ≤ 100000000 := by omega
              cases hq2 : longOf (s.extract i (i + 1 + runB digitB s (i + 1))) with
              | none =>
                have hlo := rlong_none σ hsz hT hE hq2
                rw [hq2] at ho
                rw [show oneT s i = none from ho] at hRf
                simp only at hRf
                rw [hP, hRf]
                refine XOA.wr0 rfl (WrA.cE (hlo) rfl) ?_
                rintro _ _ _ ⟨_, ⟨rfl, rfl, rfl⟩, rfl⟩
                refine XOA.cl ?_; refine zA rfl ?_; refine zO rfl (Rd.extract rfl rfl) ?_; refine zO rfl (Rd.extract rfl rfl) ?_; refine zO rfl Rd.asg ?_; refine zO rfl Rd.asg ?_; refine zN (zT (zS (zS (zR (zA rfl ?_))))); refine zO rfl zJ ?_; refine zN (zT (XA.condT rfl rfl (zS (zR (zA rfl ?_)))))
                refine XOA.wr0 rfl (WrA.cE (rF_t σ 7 i) rfl) ?_
                rintro _ _ _ ⟨_, ⟨rfl, rfl, rfl⟩, rfl⟩
                refine XOA.cl ?_; refine zO rfl Rd.asg ?_
                refine XOA.wr0 rfl (WrA.st (tyrow rfl) rfl) ?_
                rintro _ _ _ ⟨rfl, rfl, rfl⟩
                refine zN (zT (XA.ret (DA.thn_ret (DA.inb_ret (DA.thn_ret (DA.inb_ret (DA.thn_ret (DA.inb_ret (DA.thn_ret ?_)))))))))
                exact bodyA.ret (ResA.tcT rfl rfl rfl (Ld.atBlk (tyrow rfl) rfl zL rfl (by first | exact take0 (by first | rfl | assumption | (refine (ints_len _).trans ?_; assumption) | (simp [*]; (first | done | fail))) | assumption | exact take_app (by first | rfl | assumption | (refine (ints_len _).trans ?_; assumption) | (simp [*]; (first | done | fail))) | (conv => lhs; simp only [List.drop_succ_cons, List.drop_zero, List.take_succ_cons, List.take_zero])) (by first | rfl | assumption | (refine (ints_len _).trans ?_; assumption) | (simp [*]; (first | done | fail))))) (Ent.nil _) ⟨_, rfl, PSl.nil _ _ _, .refl _, rfl⟩
              | some m =>
                have hlo := rlong_some σ hsz hT hE hq2
                rw [hq2] at ho
                rw [show oneT s i = some ⟨i, s.extract i (i + 1 + runB digitB s (i + 1)), true, m⟩ from ho] at hRf
                simp only [hz0] at hRf
                rw [← Nat.add_assoc] at hRf
                refine XOA.wr0 rfl (WrA.cE (hlo) rfl) ?_
                rintro _ _ _ ⟨_, ⟨rfl, rfl, rfl⟩, rfl⟩
                refine XOA.cl ?_; refine zA rfl ?_; refine zO rfl (Rd.extract rfl rfl) ?_; refine zO rfl (Rd.extract rfl rfl) ?_; refine zO rfl Rd.asg ?_; refine zO rfl Rd.asg ?_; refine zN (zT (zS (zS (zR (zA rfl ?_))))); refine zO rfl zJ ?_; refine zN (zT (XA.condF rfl rfl (XA.skip (zT (zR (zA rfl ?_))))))
                refine zA rfl ?_; refine zA rfl ?_; refine zA rfl ?_; refine zA rfl ?_; refine zO rfl (Rd.sliceS (tyrow rfl) rfl rfl rfl rfl (by omega) rfl) ?_; refine zA rfl ?_
                refine zO rfl (Rd.bl (fun _ _ => tyrow) rfl rfl rfl) ?_
                refine XOA.wr0 rfl (WrA.bs1 (tyrow rfl) rfl (tyrow rfl)) ?_
                rintro _ _ _ ⟨g119, rfl, rfl, rfl⟩
                refine XOA.wr0 rfl (WrA.ap1 (tyrow rfl) rfl (tyrow rfl) rfl rfl rfl) ?_
                rintro _ _ _ ⟨p120, c120, rfl, rfl, rfl⟩
                refine zO rfl Rd.asg ?_; refine zN (DA.inb_normal (zT (zR (zA rfl ?_)))); refine zO rfl Rd.asg ?_; refine zN (DA.inb_normal (zT ?_))
                refine ⟨(Keep.upd (Keep.upd (Keep.upd (Keep.updO (Keep.updO (Keep.upd (Keep.upd (Keep.upd (Keep.upd (Keep.upd (Keep.upd (Keep.upd (Keep.upd (Keep.upd (Keep.upd (Keep.upd (Keep.upd (Keep.upd (Keep.upd (Keep.upd (Keep.updO (Keep.upd (Keep.upd (Keep.upd (Keep.upd (Keep.upd (Keep.updO (Keep.upd (Keep.upd (Keep.upd (Keep.upd (Keep.upd (Keep.upd (Keep.upd (Keep.upd (Keep.upd (Keep.hav (Keep.hav (Keep.upd (Keep.upd (Keep.upd (Keep.upd (Keep.upd (Keep.updO (Keep.upd (Keep.upd (Keep.updO (Keep.upd (Keep.upd (Keep.upd (Keep.upd (Keep.upd (Keep.upd (Keep.upd (Keep.upd (Keep.upd (Keep.upd (Keep.upd (Keep.upd (Keep.upd (Keep.upd (Keep.upd (Keep.upd (Keep.upd (Keep.upd (Keep.upd (Keep.upd (Keep.upd (Keep.upd (Keep.upd (Keep.upd (Keep.upd (Keep.upd (Keep.upd (Keep.upd (Keep.upd (Keep.upd (Keep.upd (Keep.upd (Keep.upd (Keep.upd (Keep.upd (Keep.upd (Keep.hav (Keep.hav (Keep.hav (Keep.refl _ _) rfl) rfl) rfl) rfl) rfl) rfl) rfl) rfl) rfl) rfl) rfl) rfl) rfl) rfl) rfl) rfl) rfl) rfl) rfl) rfl) rfl) rfl) rfl) rfl) rfl) rfl) rfl) rfl) rfl) rfl) rfl) rfl) rfl) rfl) rfl) rfl) rfl) rfl) rfl) rfl) rfl) rfl) rfl) rfl) rfl) rfl) rfl) rfl) rfl) rfl) rfl) rfl) rfl) rfl) rfl) rfl) rfl) rfl) rfl) rfl) rfl) rfl) rfl) rfl) rfl) rfl) rfl) rfl) rfl) rfl) rfl) rfl) rfl) rfl) rfl) rfl) rfl) rfl) rfl) rfl) rfl) rfl) rfl) rfl) rfl) rfl), ((i + 1 + runB digitB s (i + 1), (n + 1, acc ++ [(⟨i, s.extract i (i + 1 + runB digitB s (i + 1)), true, m⟩ : Tk)])), (p120, c120)), _, zM, ?_, ⟨rfl, by show i + 1 + runB digitB s (i + 1) ≤ s.size; omega, by show n + 1 ≤ i + 1 + runB digitB s (i + 1); omega, by show (acc ++ [(⟨i, s.extract i (i + 1 + runB digitB s (i + 1)), true, m⟩ : Tk)]).length = n + 1; rw [List.length_append, hacc]; rfl, ⟨f, by show s.size < i + 1 + runB digitB s (i + 1) + f; omega, hRf⟩, rfl⟩, (by show s.size - (i + 1 + runB digitB s (i + 1)) < s.size - i; omega)⟩
                · rw [tksC_snoc]; exact zE
          · rw [runB_end (fun x => hjl x.1), Nat.zero_add] at hjr
            refine zS (zS (zR (zA rfl ?_))); refine zA rfl ?_; refine zO rfl (Rd.lenString (tyrow rfl) rfl rfl) ?_; refine zO rfl (Rd.lss rfl rfl) ?_; refine zA rfl ?_
            first | (refine zG ?_; refine zA rfl ?_) | refine zH ?_
            first | (refine zG ?_; refine zA rfl ?_) | refine zH ?_
            first | (refine zG ?_; refine zO rfl (Rd.indexStr (tyrow rfl) rfl rfl rfl (by first | omega | decide | (simp; omega))) ?_) | refine zH ?_
            first | refine zH ?_
            refine zO rfl zP ?_; refine zN (zT (XA.condF rfl (by first | rfl | exact decide_eq_false (by omega)) ?_)); refine XA.exit (DA.thn_exit (DA.thn_exit (DA.inb_same (zT (zS (zR (zA rfl ?_))))))); refine zA rfl ?_; refine zA rfl ?_
            have hj2 : j = i + 1 + runB digitB s (i + 1) := by omega
            clear hjr
            subst hj2
            refine zO rfl (Rd.sliceS (tyrow rfl) rfl rfl rfl rfl (by omega) rfl) ?_
            have hz0 : (s.extract i (i + 1 + runB digitB s (i + 1))).size = 1 + runB digitB s (i + 1) := by rw [ByteArray.size_extract]; omega
            have hsz : (s.extract i (i + 1 + runB digitB s (i + 1))).size ≤ 100000000 := by omega
            cases hq2 : longOf (s.extract i (i + 1 + runB digitB s (i + 1))) with
            | none =>
              have hlo := rlong_none σ hsz hT hE hq2
              rw [hq2] at ho
              rw [show oneT s i = none from ho] at hRf
              simp only at hRf
              rw [hP, hRf]
              refine XOA.wr0 rfl (WrA.cE (hlo) rfl) ?_
              rintro _ _ _ ⟨_, ⟨rfl, rfl, rfl⟩, rfl⟩
              refine XOA.cl ?_; refine zA rfl ?_; refine zO rfl (Rd.extract rfl rfl) ?_; refine zO rfl (Rd.extract rfl rfl) ?_; refine zO rfl Rd.asg ?_; refine zO rfl Rd.asg ?_; refine zN (zT (zS (zS (zR (zA rfl ?_))))); refine zO rfl zJ ?_; refine zN (zT (XA.condT rfl rfl (zS (zR (zA rfl ?_)))))
              refine XOA.wr0 rfl (WrA.cE (rF_t σ 7 i) rfl) ?_
              rintro _ _ _ ⟨_, ⟨rfl, rfl, rfl⟩, rfl⟩
              refine XOA.cl ?_; refine zO rfl Rd.asg ?_
              refine XOA.wr0 rfl (WrA.st (tyrow rfl) rfl) ?_
              rintro _ _ _ ⟨rfl, rfl, rfl⟩
              refine zN (zT (XA.ret (DA.thn_ret (DA.inb_ret (DA.thn_ret (DA.inb_ret (DA.thn_ret (DA.inb_ret (DA.thn_ret ?_)))))))))
              exact bodyA.ret (ResA.tcT rfl rfl rfl (Ld.atBlk (tyrow rfl) rfl zL rfl (by first | exact take0 (by first | rfl | assumption | (refine (ints_len _).trans ?_; assumption) | (simp [*]; (first | done | fail))) | assumption | exact take_app (by first | rfl | assumption | (refine (ints_len _).trans ?_; assumption) | (simp [*]; (first | done | fail))) | (conv => lhs; simp only [List.drop_succ_cons, List.drop_zero, List.take_succ_cons, List.take_zero])) (by first | rfl | assumption | (refine (ints_len _).trans ?_; assumption) | (simp [*]; (first | done | fail))))) (Ent.nil _) ⟨_, rfl, PSl.nil _ _ _, .refl _, rfl⟩
            | some m =>
              have hlo := rlong_some σ hsz hT hE hq2
              rw [hq2] at ho
              rw [show oneT s i = some ⟨i, s.extract i (i + 1 + runB digitB s (i + 1)), true, m⟩ from ho] at hRf
              simp only [hz0] at hRf
              rw [← Nat.add_assoc] at hRf
              refine XOA.wr0 rfl (WrA.cE (hlo) rfl) ?_
              rintro _ _ _ ⟨_, ⟨rfl, rfl, rfl⟩, rfl⟩
              refine XOA.cl ?_; refine zA rfl ?_; refine zO rfl (Rd.extract rfl rfl) ?_; refine zO rfl (Rd.extract rfl rfl) ?_; refine zO rfl Rd.asg ?_; refine zO rfl Rd.asg ?_; refine zN (zT (zS (zS (zR (zA rfl ?_))))); refine zO rfl zJ ?_; refine zN (zT (XA.condF rfl rfl (XA.skip (zT (zR (zA rfl ?_))))))
              refine zA rfl ?_; refine zA rfl ?_; refine zA rfl ?_; refine zA rfl ?_; refine zO rfl (Rd.sliceS (tyrow rfl) rfl rfl rfl rfl (by omega) rfl) ?_; refine zA rfl ?_
              refine zO rfl (Rd.bl (fun _ _ => tyrow) rfl rfl rfl) ?_
              refine XOA.wr0 rfl (WrA.bs1 (tyrow rfl) rfl (tyrow rfl)) ?_
              rintro _ _ _ ⟨g119, rfl, rfl, rfl⟩
              refine XOA.wr0 rfl (WrA.ap1 (tyrow rfl) rfl (tyrow rfl) rfl rfl rfl) ?_
              rintro _ _ _ ⟨p120, c120, rfl, rfl, rfl⟩
              refine zO rfl Rd.asg ?_; refine zN (DA.inb_normal (zT (zR (zA rfl ?_)))); refine zO rfl Rd.asg ?_; refine zN (DA.inb_normal (zT ?_))
              refine ⟨(Keep.upd (Keep.upd (Keep.upd (Keep.updO (Keep.updO (Keep.upd (Keep.upd (Keep.upd (Keep.upd (Keep.upd (Keep.upd (Keep.upd (Keep.upd (Keep.upd (Keep.upd (Keep.upd (Keep.upd (Keep.upd (Keep.upd (Keep.upd (Keep.updO (Keep.upd (Keep.upd (Keep.upd (Keep.upd (Keep.upd (Keep.upd (Keep.upd (Keep.upd (Keep.upd (Keep.upd (Keep.upd (Keep.upd (Keep.upd (Keep.upd (Keep.upd (Keep.hav (Keep.hav (Keep.upd (Keep.upd (Keep.upd (Keep.upd (Keep.upd (Keep.updO (Keep.upd (Keep.upd (Keep.updO (Keep.upd (Keep.upd (Keep.upd (Keep.upd (Keep.upd (Keep.upd (Keep.upd (Keep.upd (Keep.upd (Keep.upd (Keep.upd (Keep.upd (Keep.upd (Keep.upd (Keep.upd (Keep.upd (Keep.upd (Keep.upd (Keep.upd (Keep.upd (Keep.upd (Keep.upd (Keep.upd (Keep.upd (Keep.upd (Keep.upd (Keep.upd (Keep.upd (Keep.upd (Keep.upd (Keep.upd (Keep.upd (Keep.upd (Keep.upd (Keep.upd (Keep.upd (Keep.hav (Keep.hav (Keep.hav (Keep.refl _ _) rfl) rfl) rfl) rfl) rfl) rfl) rfl) rfl) rfl) rfl) rfl) rfl) rfl) rfl) rfl) rfl) rfl) rfl) rfl) rfl) rfl) rfl) rfl) rfl) rfl) rfl) rfl) rfl) rfl) rfl) rfl) rfl) rfl) rfl) rfl) rfl) rfl) rfl) rfl) rfl) rfl) rfl) rfl) rfl) rfl) rfl) rfl) rfl) rfl) rfl) rfl) rfl) rfl) rfl) rfl) rfl) rfl) rfl) rfl) rfl) rfl) rfl) rfl) rfl) rfl) rfl) rfl) rfl) rfl) rfl) rfl) rfl) rfl) rfl) rfl) rfl) rfl) rfl) rfl) rfl) rfl) rfl) rfl) rfl) rfl) rfl), ((i + 1 + runB digitB s (i + 1), (n + 1, acc ++ [(⟨i, s.extract i (i + 1 + runB digitB s (i + 1)), true, m⟩ : Tk)])), (p120, c120)), _, zM, ?_, ⟨rfl, by show i + 1 + runB digitB s (i + 1) ≤ s.size; omega, by show n + 1 ≤ i + 1 + runB digitB s (i + 1); omega, by show (acc ++ [(⟨i, s.extract i (i + 1 + runB digitB s (i + 1)), true, m⟩ : Tk)]).length = n + 1; rw [List.length_append, hacc]; rfl, ⟨f, by show s.size < i + 1 + runB digitB s (i + 1) + f; omega, hRf⟩, rfl⟩, (by show s.size - (i + 1 + runB digitB s (i + 1)) < s.size - i; omega)⟩
              · rw [tksC_snoc]; exact zE
        | false =>
          have h45 : byteAt s i = 45 := hd.resolve_left (by rw [hq]; exact Bool.noConfusion)
          rw [hq] at hrd
          have hle := runB_le digitB s (i := i + 1) (by omega)
          have ho : oneT s i = (longOf (s.extract i (i + 1 + runB digitB s (i + 1)))).map fun n => ⟨i, s.extract i (i + 1 + runB digitB s (i + 1)), true, n⟩ := by rw [oneT, if_neg (by omega), if_neg (by rw [hl]; exact Bool.noConfusion), if_pos hd]
          refine zS (zS (zR (zA rfl ?_))); refine zA rfl ?_; refine zO rfl (Rd.lenString (tyrow rfl) rfl rfl) ?_; refine zO rfl (Rd.lss rfl rfl) ?_; refine zN (zT (XA.condT rfl (by first | rfl | exact decide_eq_true (by omega)) ?_)); refine XA.skip (zT (XA.block (zS (zR (zA rfl ?_))))); refine zA rfl ?_
          refine zO rfl (Rd.indexStr (tyrow rfl) rfl rfl rfl (by first | omega | decide | (simp; omega))) ?_
          refine zO rfl Rd.asg ?_; refine zN (zT (zS (zR (zA rfl ?_)))); refine zO rfl zI ?_; refine zO rfl Rd.asg ?_; refine zN (zT (zS (XA.block (zS (zR (zA rfl ?_)))))); refine zO rfl (Rd.eql rfl rfl) ?_; refine zA rfl ?_
          first | (refine zG ?_; refine zA rfl ?_) | refine zH ?_
          first | (refine zG ?_; refine zO rfl (Rd.eql rfl rfl) ?_) | refine zH ?_
          refine zO rfl zP ?_; refine zA rfl ?_
          first | (refine zG ?_; refine zA rfl ?_) | refine zH ?_
          first | (refine zG ?_; refine zO rfl (Rd.eql rfl rfl) ?_) | refine zH ?_
          refine zO rfl zP ?_; refine zA rfl ?_
          first | (refine zG ?_; refine zA rfl ?_) | refine zH ?_
          first | (refine zG ?_; refine zO rfl (Rd.eql rfl rfl) ?_) | refine zH ?_
          refine zO rfl zP ?_; refine zO rfl Rd.asg ?_; refine zN (zT (XA.condF rfl (by first | rfl | exact decide_eq_false (by omega)) ?_)); refine zS (zR (zA rfl ?_)); refine zO rfl (Rd.eql rfl rfl) ?_; refine zA rfl ?_
          first | (refine zG ?_; refine zA rfl ?_) | refine zH ?_
          first | (refine zG ?_; refine zO rfl (Rd.eql rfl rfl) ?_) | refine zH ?_
          refine zO rfl zP ?_; refine zO rfl Rd.asg ?_; refine zN (zT (XA.condF rfl (by first | rfl | exact decide_eq_false (by omega)) ?_)); refine zS (zR (zA rfl ?_))
          refine XOA.wr0 rfl (WrA.cE (hrl) rfl) ?_
          rintro _ _ _ ⟨_, ⟨rfl, rfl, rfl⟩, rfl⟩
          refine XOA.cl ?_; refine zO rfl Rd.asg ?_; refine zN (zT (XA.condF rfl rfl (zS (zR (zA rfl ?_)))))
          refine XOA.wr0 rfl (WrA.cE (hrd) rfl) ?_
          rintro _ _ _ ⟨_, ⟨rfl, rfl, rfl⟩, rfl⟩
          refine XOA.cl ?_; refine zA rfl ?_
          first | (refine zG ?_; refine zA rfl ?_) | refine zH ?_
          first | (refine zG ?_; refine zO rfl (Rd.eql rfl rfl) ?_) | refine zH ?_
          refine zO rfl zP ?_; refine zO rfl Rd.asg ?_; refine zN (zT (XA.condT rfl (by first | rfl | exact decide_eq_true (by omega)) ?_)); refine zS (XA.block ?_)
          refine XA.loop [(7, 7), (87, 98)] (fun j : Nat => [(7, i64 j)]) (fun j σ' Γ' => σ = σ' ∧ i + 1 ≤ j ∧ j ≤ s.size ∧ runB digitB s (i + 1) = runB digitB s j + (j - (i + 1)) ∧ Γ' = [blk g3 [i64 0, i64 0] 30, lst 42 4 (.slice p n c) n (tksC acc)]) (fun j => s.size - j) (i + 1) (by exact ⟨rfl, trivial⟩) (Δ0 := _) ?_ (⟨rfl, Nat.le_refl _, hlt, by rw [Nat.sub_self]; rfl, rfl⟩) ?_
          · exact zE
          rintro j δ2 _ _ ⟨rfl, hj0, hj1, hjr, rfl⟩
          dsimp only [ovr, List.foldl]
          replace hj0 : i + 1 ≤ j := hj0
          replace hj1 : j ≤ s.size := hj1
          replace hjr : runB digitB s (i + 1) = runB digitB s j + (j - (i + 1)) := hjr
          by_cases hjl : j < s.size
          · have hrj := rdigit_t σ (byteAt s j) (byteAt_lt s j)
            rw [runB_eq digitB s j] at hjr
            cases hqj : digitB (byteAt s j) with
            | true =>
              rw [hqj] at hrj
              rw [if_pos ⟨hjl, hqj⟩] at hjr
              refine zS (zS (zR (zA rfl ?_))); refine zA rfl ?_; refine zO rfl (Rd.lenString (tyrow rfl) rfl rfl) ?_; refine zO rfl (Rd.lss rfl rfl) ?_; refine zA rfl ?_
              first | (refine zG ?_; refine zA rfl ?_) | refine zH ?_
              first | (refine zG ?_; refine zA rfl ?_) | refine zH ?_
              first | (refine zG ?_; refine zO rfl (Rd.indexStr (tyrow rfl) rfl rfl rfl (by first | omega | decide | (simp; omega))) ?_) | refine zH ?_
              first | refine XOA.wanted rfl rfl ?_ | refine XOA.wq rfl rfl ?_
              refine XOA.wr0 rfl (WrA.cE (hrj) rfl) ?_
              rintro _ _ _ ⟨_, ⟨rfl, rfl, rfl⟩, rfl⟩
              refine XOA.cl ?_; refine zO rfl zP ?_; refine zN (zT (XA.condT rfl rfl (XA.skip (zT (XA.block (zR (zA rfl ?_))))))); refine zO rfl zI ?_; refine zO rfl Rd.asg ?_; refine zN (DA.inb_normal (zT ?_))
              refine ⟨(Keep.upd (Keep.upd (Keep.upd (Keep.upd (Keep.updO (Keep.upd (Keep.upd (Keep.upd (Keep.upd (Keep.upd (Keep.upd (Keep.upd (Keep.upd (Keep.upd (Keep.hav (Keep.hav (Keep.refl _ _) rfl) rfl) rfl) rfl) rfl) rfl) rfl) rfl) rfl) rfl) rfl) rfl) rfl) rfl) rfl) rfl), j + 1, _, zM, ?_, ⟨rfl, by show i + 1 ≤ j + 1; omega, hjl, by show runB digitB s (i + 1) = runB digitB s (j + 1) + (j + 1 - (i + 1)); omega, rfl⟩, (by omega)⟩
              · exact zE
            | false =>
              rw [hqj] at hrj
              rw [if_neg (fun x => by rw [hqj] at x; exact Bool.noConfusion x.2), Nat.zero_add] at hjr
              refine zS (zS (zR (zA rfl ?_))); refine zA rfl ?_; refine zO rfl (Rd.lenString (tyrow rfl) rfl rfl) ?_; refine zO rfl (Rd.lss rfl rfl) ?_; refine zA rfl ?_
              first | (refine zG ?_; refine zA rfl ?_) | refine zH ?_
              first | (refine zG ?_; refine zA rfl ?_) | refine zH ?_
              first | (refine zG ?_; refine zO rfl (Rd.indexStr (tyrow rfl) rfl rfl rfl (by first | omega | decide | (simp; omega))) ?_) | refine zH ?_
              first | refine XOA.wanted rfl rfl ?_ | refine XOA.wq rfl rfl ?_
              refine XOA.wr0 rfl (WrA.cE (hrj) rfl) ?_
              rintro _ _ _ ⟨_, ⟨rfl, rfl, rfl⟩, rfl⟩
              refine XOA.cl ?_; refine zO rfl zP ?_; refine zN (zT (XA.condF rfl rfl (XA.exit (DA.thn_exit (DA.thn_exit (DA.inb_same (zT (zS (zR (zA rfl ?_)))))))))); refine zA rfl ?_; refine zA rfl ?_
              have hj2 : j = i + 1 + runB digitB s (i + 1) := by omega
              clear hjr
              subst hj2
              refine zO rfl (Rd.sliceS (tyrow rfl) rfl rfl rfl rfl (by omega) rfl) ?_
              have hz0 : (s.extract i (i + 1 + runB digitB s (i + 1))).size = 1 + runB digitB s (i + 1) := by rw [ByteArray.size_extract]; omega
              have hsz : (s.extract i (i + 1 + runB digitB s (i + 1))).size ≤ 100000000 := by omega
              cases hq2 : longOf (s.extract i (i + 1 + runB digitB s (i + 1))) with
              | none =>
                have hlo := rlong_none σ hsz hT hE hq2
                rw [hq2] at ho
                rw [show oneT s i = none from ho] at hRf
                simp only at hRf
                rw [hP, hRf]
                refine XOA.wr0 rfl (WrA.cE (hlo) rfl) ?_
                rintro _ _ _ ⟨_, ⟨rfl, rfl, rfl⟩, rfl⟩
                refine XOA.cl ?_; refine zA rfl ?_; refine zO rfl (Rd.extract rfl rfl) ?_; refine zO rfl (Rd.extract rfl rfl) ?_; refine zO rfl Rd.asg ?_; refine zO rfl Rd.asg ?_; refine zN (zT (zS (zS (zR (zA rfl ?_))))); refine zO rfl zJ ?_; refine zN (zT (XA.condT rfl rfl (zS (zR (zA rfl ?_)))))
                refine XOA.wr0 rfl (WrA.cE (rF_t σ 7 i) rfl) ?_
                rintro _ _ _ ⟨_, ⟨rfl, rfl, rfl⟩, rfl⟩
                refine XOA.cl ?_; refine zO rfl Rd.asg ?_
                refine XOA.wr0 rfl (WrA.st (tyrow rfl) rfl) ?_
                rintro _ _ _ ⟨rfl, rfl, rfl⟩
                refine zN (zT (XA.ret (DA.thn_ret (DA.inb_ret (DA.thn_ret (DA.inb_ret (DA.thn_ret (DA.inb_ret (DA.thn_ret ?_)))))))))
                exact bodyA.ret (ResA.tcT rfl rfl rfl (Ld.atBlk (tyrow rfl) rfl zL rfl (by first | exact take0 (by first | rfl | assumption | (refine (ints_len _).trans ?_; assumption) | (simp [*]; (first | done | fail))) | assumption | exact take_app (by first | rfl | assumption | (refine (ints_len _).trans ?_; assumption) | (simp [*]; (first | done | fail))) | (conv => lhs; simp only [List.drop_succ_cons, List.drop_zero, List.take_succ_cons, List.take_zero])) (by first | rfl | assumption | (refine (ints_len _).trans ?_; assumption) | (simp [*]; (first | done | fail))))) (Ent.nil _) ⟨_, rfl, PSl.nil _ _ _, .refl _, rfl⟩
              | some m =>
                have hlo := rlong_some σ hsz hT hE hq2
                rw [hq2] at ho
                rw [show oneT s i = some ⟨i, s.extract i (i + 1 + runB digitB s (i + 1)), true, m⟩ from ho] at hRf
                simp only [hz0] at hRf
                rw [← Nat.add_assoc] at hRf
                refine XOA.wr0 rfl (WrA.cE (hlo) rfl) ?_
                rintro _ _ _ ⟨_, ⟨rfl, rfl, rfl⟩, rfl⟩
                refine XOA.cl ?_; refine zA rfl ?_; refine zO rfl (Rd.extract rfl rfl) ?_; refine zO rfl (Rd.extract rfl rfl) ?_; refine zO rfl Rd.asg ?_; refine zO rfl Rd.asg ?_; refine zN (zT (zS (zS (zR (zA rfl ?_))))); refine zO rfl zJ ?_; refine zN (zT (XA.condF rfl rfl (XA.skip (zT (zR (zA rfl ?_))))))
                refine zA rfl ?_; refine zA rfl ?_; refine zA rfl ?_; refine zA rfl ?_; refine zO rfl (Rd.sliceS (tyrow rfl) rfl rfl rfl rfl (by omega) rfl) ?_; refine zA rfl ?_
                refine zO rfl (Rd.bl (fun _ _ => tyrow) rfl rfl rfl) ?_
                refine XOA.wr0 rfl (WrA.bs1 (tyrow rfl) rfl (tyrow rfl)) ?_
                rintro _ _ _ ⟨g119, rfl, rfl, rfl⟩
                refine XOA.wr0 rfl (WrA.ap1 (tyrow rfl) rfl (tyrow rfl) rfl rfl rfl) ?_
                rintro _ _ _ ⟨p120, c120, rfl, rfl, rfl⟩
                refine zO rfl Rd.asg ?_; refine zN (DA.inb_normal (zT (zR (zA rfl ?_)))); refine zO rfl Rd.asg ?_; refine zN (DA.inb_normal (zT ?_))
                refine ⟨(Keep.upd (Keep.upd (Keep.upd (Keep.updO (Keep.updO (Keep.upd (Keep.upd (Keep.upd (Keep.upd (Keep.upd (Keep.upd (Keep.upd (Keep.upd (Keep.upd (Keep.upd (Keep.upd (Keep.upd (Keep.upd (Keep.upd (Keep.upd (Keep.updO (Keep.upd (Keep.upd (Keep.upd (Keep.upd (Keep.upd (Keep.updO (Keep.upd (Keep.upd (Keep.upd (Keep.upd (Keep.upd (Keep.upd (Keep.upd (Keep.upd (Keep.upd (Keep.hav (Keep.hav (Keep.upd (Keep.upd (Keep.upd (Keep.upd (Keep.upd (Keep.updO (Keep.upd (Keep.upd (Keep.updO (Keep.upd (Keep.upd (Keep.upd (Keep.upd (Keep.upd (Keep.upd (Keep.upd (Keep.upd (Keep.upd (Keep.upd (Keep.upd (Keep.upd (Keep.upd (Keep.upd (Keep.upd (Keep.upd (Keep.upd (Keep.upd (Keep.upd (Keep.upd (Keep.upd (Keep.upd (Keep.upd (Keep.upd (Keep.upd (Keep.upd (Keep.upd (Keep.upd (Keep.upd (Keep.upd (Keep.upd (Keep.upd (Keep.upd (Keep.upd (Keep.upd (Keep.upd (Keep.hav (Keep.hav (Keep.hav (Keep.refl _ _) rfl) rfl) rfl) rfl) rfl) rfl) rfl) rfl) rfl) rfl) rfl) rfl) rfl) rfl) rfl) rfl) rfl) rfl) rfl) rfl) rfl) rfl) rfl) rfl) rfl) rfl) rfl) rfl) rfl) rfl) rfl) rfl) rfl) rfl) rfl) rfl) rfl) rfl) rfl) rfl) rfl) rfl) rfl) rfl) rfl) rfl) rfl) rfl) rfl) rfl) rfl) rfl) rfl) rfl) rfl) rfl) rfl) rfl) rfl) rfl) rfl) rfl) rfl) rfl) rfl) rfl) rfl) rfl) rfl) rfl) rfl) rfl) rfl) rfl) rfl) rfl) rfl) rfl) rfl) rfl) rfl) rfl) rfl) rfl) rfl) rfl), ((i + 1 + runB digitB s (i + 1), (n + 1, acc ++ [(⟨i, s.extract i (i + 1 + runB digitB s (i + 1)), true, m⟩ : Tk)])), (p120, c120)), _, zM, ?_, ⟨rfl, by show i + 1 + runB digitB s (i + 1) ≤ s.size; omega, by show n + 1 ≤ i + 1 + runB digitB s (i + 1); omega, by show (acc ++ [(⟨i, s.extract i (i + 1 + runB digitB s (i + 1)), true, m⟩ : Tk)]).length = n + 1; rw [List.length_append, hacc]; rfl, ⟨f, by show s.size < i + 1 + runB digitB s (i + 1) + f; omega, hRf⟩, rfl⟩, (by show s.size - (i + 1 + runB digitB s (i + 1)) < s.size - i; omega)⟩
                · rw [tksC_snoc]; exact zE
          · rw [runB_end (fun x => hjl x.1), Nat.zero_add] at hjr
            refine zS (zS (zR (zA rfl ?_))); refine zA rfl ?_; refine zO rfl (Rd.lenString (tyrow rfl) rfl rfl) ?_; refine zO rfl (Rd.lss rfl rfl) ?_; refine zA rfl ?_
            first | (refine zG ?_; refine zA rfl ?_) | refine zH ?_
            first | (refine zG ?_; refine zA rfl ?_) | refine zH ?_
            first | (refine zG ?_; refine zO rfl (Rd.indexStr (tyrow rfl) rfl rfl rfl (by first | omega | decide | (simp; omega))) ?_) | refine zH ?_
            first | refine zH ?_
            refine zO rfl zP ?_; refine zN (zT (XA.condF rfl (by first | rfl | exact decide_eq_false (by omega)) ?_)); refine XA.exit (DA.thn_exit (DA.thn_exit (DA.inb_same (zT (zS (zR (zA rfl ?_))))))); refine zA rfl ?_; refine zA rfl ?_
            have hj2 : j = i + 1 + runB digitB s (i + 1) := by omega
            clear hjr
            subst hj2
            refine zO rfl (Rd.sliceS (tyrow rfl) rfl rfl rfl rfl (by omega) rfl) ?_
            have hz0 : (s.extract i (i + 1 + runB digitB s (i + 1))).size = 1 + runB digitB s (i + 1) := by rw [ByteArray.size_extract]; omega
            have hsz : (s.extract i (i + 1 + runB digitB s (i + 1))).size ≤ 100000000 := by omega
            cases hq2 : longOf (s.extract i (i + 1 + runB digitB s (i + 1))) with
            | none =>
              have hlo := rlong_none σ hsz hT hE hq2
              rw [hq2] at ho
              rw [show oneT s i = none from ho] at hRf
              simp only at hRf
              rw [hP, hRf]
              refine XOA.wr0 rfl (WrA.cE (hlo) rfl) ?_
              rintro _ _ _ ⟨_, ⟨rfl, rfl, rfl⟩, rfl⟩
              refine XOA.cl ?_; refine zA rfl ?_; refine zO rfl (Rd.extract rfl rfl) ?_; refine zO rfl (Rd.extract rfl rfl) ?_; refine zO rfl Rd.asg ?_; refine zO rfl Rd.asg ?_; refine zN (zT (zS (zS (zR (zA rfl ?_))))); refine zO rfl zJ ?_; refine zN (zT (XA.condT rfl rfl (zS (zR (zA rfl ?_)))))
              refine XOA.wr0 rfl (WrA.cE (rF_t σ 7 i) rfl) ?_
              rintro _ _ _ ⟨_, ⟨rfl, rfl, rfl⟩, rfl⟩
              refine XOA.cl ?_; refine zO rfl Rd.asg ?_
              refine XOA.wr0 rfl (WrA.st (tyrow rfl) rfl) ?_
              rintro _ _ _ ⟨rfl, rfl, rfl⟩
              refine zN (zT (XA.ret (DA.thn_ret (DA.inb_ret (DA.thn_ret (DA.inb_ret (DA.thn_ret (DA.inb_ret (DA.thn_ret ?_)))))))))
              exact bodyA.ret (ResA.tcT rfl rfl rfl (Ld.atBlk (tyrow rfl) rfl zL rfl (by first | exact take0 (by first | rfl | assumption | (refine (ints_len _).trans ?_; assumption) | (simp [*]; (first | done | fail))) | assumption | exact take_app (by first | rfl | assumption | (refine (ints_len _).trans ?_; assumption) | (simp [*]; (first | done | fail))) | (conv => lhs; simp only [List.drop_succ_cons, List.drop_zero, List.take_succ_cons, List.take_zero])) (by first | rfl | assumption | (refine (ints_len _).trans ?_; assumption) | (simp [*]; (first | done | fail))))) (Ent.nil _) ⟨_, rfl, PSl.nil _ _ _, .refl _, rfl⟩
            | some m =>
              have hlo := rlong_some σ hsz hT hE hq2
              rw [hq2] at ho
              rw [show oneT s i = some ⟨i, s.extract i (i + 1 + runB digitB s (i + 1)), true, m⟩ from ho] at hRf
              simp only [hz0] at hRf
              rw [← Nat.add_assoc] at hRf
              refine XOA.wr0 rfl (WrA.cE (hlo) rfl) ?_
              rintro _ _ _ ⟨_, ⟨rfl, rfl, rfl⟩, rfl⟩
              refine XOA.cl ?_; refine zA rfl ?_; refine zO rfl (Rd.extract rfl rfl) ?_; refine zO rfl (Rd.extract rfl rfl) ?_; refine zO rfl Rd.asg ?_; refine zO rfl Rd.asg ?_; refine zN (zT (zS (zS (zR (zA rfl ?_))))); refine zO rfl zJ ?_; refine zN (zT (XA.condF rfl rfl (XA.skip (zT (zR (zA rfl ?_))))))
              refine zA rfl ?_; refine zA rfl ?_; refine zA rfl ?_; refine zA rfl ?_; refine zO rfl (Rd.sliceS (tyrow rfl) rfl rfl rfl rfl (by omega) rfl) ?_; refine zA rfl ?_
              refine zO rfl (Rd.bl (fun _ _ => tyrow) rfl rfl rfl) ?_
              refine XOA.wr0 rfl (WrA.bs1 (tyrow rfl) rfl (tyrow rfl)) ?_
              rintro _ _ _ ⟨g119, rfl, rfl, rfl⟩
              refine XOA.wr0 rfl (WrA.ap1 (tyrow rfl) rfl (tyrow rfl) rfl rfl rfl) ?_
              rintro _ _ _ ⟨p120, c120, rfl, rfl, rfl⟩
              refine zO rfl Rd.asg ?_; refine zN (DA.inb_normal (zT (zR (zA rfl ?_)))); refine zO rfl Rd.asg ?_; refine zN (DA.inb_normal (zT ?_))
              refine ⟨(Keep.upd (Keep.upd (Keep.upd (Keep.updO (Keep.updO (Keep.upd (Keep.upd (Keep.upd (Keep.upd (Keep.upd (Keep.upd (Keep.upd (Keep.upd (Keep.upd (Keep.upd (Keep.upd (Keep.upd (Keep.upd (Keep.upd (Keep.upd (Keep.updO (Keep.upd (Keep.upd (Keep.upd (Keep.upd (Keep.upd (Keep.upd (Keep.upd (Keep.upd (Keep.upd (Keep.upd (Keep.upd (Keep.upd (Keep.upd (Keep.upd (Keep.upd (Keep.hav (Keep.hav (Keep.upd (Keep.upd (Keep.upd (Keep.upd (Keep.upd (Keep.updO (Keep.upd (Keep.upd (Keep.updO (Keep.upd (Keep.upd (Keep.upd (Keep.upd (Keep.upd (Keep.upd (Keep.upd (Keep.upd (Keep.upd (Keep.upd (Keep.upd (Keep.upd (Keep.upd (Keep.upd (Keep.upd (Keep.upd (Keep.upd (Keep.upd (Keep.upd (Keep.upd (Keep.upd (Keep.upd (Keep.upd (Keep.upd (Keep.upd (Keep.upd (Keep.upd (Keep.upd (Keep.upd (Keep.upd (Keep.upd (Keep.upd (Keep.upd (Keep.upd (Keep.upd (Keep.upd (Keep.hav (Keep.hav (Keep.hav (Keep.refl _ _) rfl) rfl) rfl) rfl) rfl) rfl) rfl) rfl) rfl) rfl) rfl) rfl) rfl) rfl) rfl) rfl) rfl) rfl) rfl) rfl) rfl) rfl) rfl) rfl) rfl) rfl) rfl) rfl) rfl) rfl) rfl) rfl) rfl) rfl) rfl) rfl) rfl) rfl) rfl) rfl) rfl) rfl) rfl) rfl) rfl) rfl) rfl) rfl) rfl) rfl) rfl) rfl) rfl) rfl) rfl) rfl) rfl) rfl) rfl) rfl) rfl) rfl) rfl) rfl) rfl) rfl) rfl) rfl) rfl) rfl) rfl) rfl) rfl) rfl) rfl) rfl) rfl) rfl) rfl) rfl) rfl) rfl) rfl) rfl) rfl) rfl), ((i + 1 + runB digitB s (i + 1), (n + 1, acc ++ [(⟨i, s.extract i (i + 1 + runB digitB s (i + 1)), true, m⟩ : Tk)])), (p120, c120)), _, zM, ?_, ⟨rfl, by show i + 1 + runB digitB s (i + 1) ≤ s.size; omega, by show n + 1 ≤ i + 1 + runB digitB s (i + 1); omega, by show (acc ++ [(⟨i, s.extract i (i + 1 + runB digitB s (i + 1)), true, m⟩ : Tk)]).length = n + 1; rw [List.length_append, hacc]; rfl, ⟨f, by show s.size < i + 1 + runB digitB s (i + 1) + f; omega, hRf⟩, rfl⟩, (by show s.size - (i + 1 + runB digitB s (i + 1)) < s.size - i; omega)⟩
              · rw [tksC_snoc]; exact zE
      · have ho : oneT s i = none := by rw [oneT, if_neg (by omega), if_neg (by rw [hl]; exact Bool.noConfusion), if_neg hd]
        have hq : digitB (byteAt s i) = false := by
          cases h : digitB (byteAt s i) with
          | true => exact absurd (.inl h) hd
          | false => rfl
        have h45 : ¬ (byteAt s i = 45) := fun h => hd (.inr h)
        rw [hq] at hrd
        rw [ho] at hRf
        simp only at hRf
        rw [hP, hRf]
        refine zS (zS (zR (zA rfl ?_))); refine zA rfl ?_; refine zO rfl (Rd.lenString (tyrow rfl) rfl rfl) ?_; refine zO rfl (Rd.lss rfl rfl) ?_; refine zN (zT (XA.condT rfl (by first | rfl | exact decide_eq_true (by omega)) ?_)); refine XA.skip (zT (XA.block (zS (zR (zA rfl ?_))))); refine zA rfl ?_
        refine zO rfl (Rd.indexStr (tyrow rfl) rfl rfl rfl (by first | omega | decide | (simp; omega))) ?_
        refine zO rfl Rd.asg ?_; refine zN (zT (zS (zR (zA rfl ?_)))); refine zO rfl zI ?_; refine zO rfl Rd.asg ?_; refine zN (zT (zS (XA.block (zS (zR (zA rfl ?_)))))); refine zO rfl (Rd.eql rfl rfl) ?_; refine zA rfl ?_
        first | (refine zG ?_; refine zA rfl ?_) | refine zH ?_
        first | (refine zG ?_; refine zO rfl (Rd.eql rfl rfl) ?_) | refine zH ?_
        refine zO rfl zP ?_; refine zA rfl ?_
        first | (refine zG ?_; refine zA rfl ?_) | refine zH ?_
        first | (refine zG ?_; refine zO rfl (Rd.eql rfl rfl) ?_) | refine zH ?_
        refine zO rfl zP ?_; refine zA rfl ?_
        first | (refine zG ?_; refine zA rfl ?_) | refine zH ?_
        first | (refine zG ?_; refine zO rfl (Rd.eql rfl rfl) ?_) | refine zH ?_
        refine zO rfl zP ?_; refine zO rfl Rd.asg ?_; refine zN (zT (XA.condF rfl (by first | rfl | exact decide_eq_false (by omega)) ?_)); refine zS (zR (zA rfl ?_)); refine zO rfl (Rd.eql rfl rfl) ?_; refine zA rfl ?_
        first | (refine zG ?_; refine zA rfl ?_) | refine zH ?_
        first | (refine zG ?_; refine zO rfl (Rd.eql rfl rfl) ?_) | refine zH ?_
        refine zO rfl zP ?_; refine zO rfl Rd.asg ?_; refine zN (zT (XA.condF rfl (by first | rfl | exact decide_eq_false (by omega)) ?_)); refine zS (zR (zA rfl ?_))
        refine XOA.wr0 rfl (WrA.cE (hrl) rfl) ?_
        rintro _ _ _ ⟨_, ⟨rfl, rfl, rfl⟩, rfl⟩
        refine XOA.cl ?_; refine zO rfl Rd.asg ?_; refine zN (zT (XA.condF rfl rfl (zS (zR (zA rfl ?_)))))
        refine XOA.wr0 rfl (WrA.cE (hrd) rfl) ?_
        rintro _ _ _ ⟨_, ⟨rfl, rfl, rfl⟩, rfl⟩
        refine XOA.cl ?_; refine zA rfl ?_
        first | (refine zG ?_; refine zA rfl ?_) | refine zH ?_
        first | (refine zG ?_; refine zO rfl (Rd.eql rfl rfl) ?_) | refine zH ?_
        refine zO rfl zP ?_; refine zO rfl Rd.asg ?_; refine zN (zT (XA.condF rfl (by first | rfl | exact decide_eq_false (by omega)) ?_)); refine zS (zR (zA rfl ?_))
        refine XOA.wr0 rfl (WrA.cE (rF_t σ 7 i) rfl) ?_
        rintro _ _ _ ⟨_, ⟨rfl, rfl, rfl⟩, rfl⟩
        refine XOA.cl ?_; refine zO rfl Rd.asg ?_
        refine XOA.wr0 rfl (WrA.st (tyrow rfl) rfl) ?_
        rintro _ _ _ ⟨rfl, rfl, rfl⟩
        refine zN (zT (XA.ret (DA.inb_ret (DA.thn_ret (DA.inb_ret (DA.thn_ret (DA.inb_ret (DA.thn_ret ?_))))))))
        exact bodyA.ret (ResA.tcT rfl rfl rfl (Ld.atBlk (tyrow rfl) rfl zL rfl (by first | exact take0 (by first | rfl | assumption | (refine (ints_len _).trans ?_; assumption) | (simp [*]; (first | done | fail))) | assumption | exact take_app (by first | rfl | assumption | (refine (ints_len _).trans ?_; assumption) | (simp [*]; (first | done | fail))) | (conv => lhs; simp only [List.drop_succ_cons, List.drop_zero, List.take_succ_cons, List.take_zero])) (by first | rfl | assumption | (refine (ints_len _).trans ?_; assumption) | (simp [*]; (first | done | fail))))) (Ent.nil _) ⟨_, rfl, PSl.nil _ _ _, .refl _, rfl⟩
  · have hRe : R = .ok acc := by
      rw [hRf]
      cases f with
      | zero => rfl
      | succ f => rw [scanB, if_neg hlt]
    refine zS (zS (zR (zA rfl ?_))); refine zA rfl ?_; refine zO rfl (Rd.lenString (tyrow rfl) rfl rfl) ?_; refine zO rfl (Rd.lss rfl rfl) ?_; refine zN (zT (XA.condF rfl (by first | rfl | exact decide_eq_false (by omega)) ?_))
    refine XA.exit (DA.thn_exit (DA.thn_exit (DA.inb_same (zT (zS (zR (zA rfl ?_)))))))
    refine zO rfl (Rd.bl (fun _ _ => tyrow) rfl rfl rfl) ?_
    refine zO rfl Rd.asg ?_
    refine XOA.wr0 rfl (WrA.st (tyrow rfl) rfl) ?_
    rintro _ _ _ ⟨rfl, rfl, rfl⟩
    refine zN (zT (XA.ret ?_))
    refine DA.frz (R := lst 42 4 (.slice p n c) _ _) zL lst_frz lst_frz_mono ?_
    rintro σ1 ⟨⟩ hf1 hs1
    rw [hP, hRe]
    exact bodyA.ret (ResA.tcT rfl rfl rfl (Ld.atBlk (tyrow rfl) rfl zL rfl (by first | exact take0 (by first | rfl | assumption | (refine (ints_len _).trans ?_; assumption) | (simp [*]; (first | done | fail))) | assumption | exact take_app (by first | rfl | assumption | (refine (ints_len _).trans ?_; assumption) | (simp [*]; (first | done | fail))) | (conv => lhs; simp only [List.drop_succ_cons, List.drop_zero, List.take_succ_cons, List.take_zero])) (by first | rfl | assumption | (refine (ints_len _).trans ?_; assumption) | (simp [*]; (first | done | fail))))) (Ent.nil _) ⟨_, rfl, (rows_tk σ1 acc).psl hacc.symm hf1, hs1, rfl⟩
end Go.Proofs.YthefnnkmpcgcmaaDoor

namespace Go.Proofs.YthefnnkmpcgcmaaDoor
open Go X
set_option maxHeartbeats 2000000
section
variable {ρ : Env} {S : Heap → Prop} {ty : TypeId}
end
end Go.Proofs.YthefnnkmpcgcmaaDoor

namespace Go.Proofs.YthefnnkmpcgcmaaDoor
open Go X
theorem byteAt_ext {a : ByteArray} {b e k : Nat} (h : b + k < e) (he : e ≤ a.size) : byteAt (a.extract b e) k = byteAt a (b + k) := by
  unfold byteAt
  have h1 : k < (a.extract b e).size := by rw [ByteArray.size_extract]; omega
  have h2 : b + k < a.size := by omega
  rw [dif_pos h1, dif_pos h2, ByteArray.getElem_extract]
theorem runB_stop (p : Nat → Bool) (s : ByteArray) : ∀ (n i : Nat), s.size - i = n → ¬ (i + runB p s i < s.size ∧ p (byteAt s (i + runB p s i)) = true)
  | 0, i, h => fun q => by omega
  | n + 1, i, h => by
    by_cases hc : i < s.size ∧ p (byteAt s i) = true
    · have := runB_stop p s n (i + 1) (by omega)
      rw [runB_eq, if_pos hc, show i + (runB p s (i + 1) + 1) = i + 1 + runB p s (i + 1) by omega]
      exact this
    · rw [runB_end hc]; exact hc
/-- A run inside a word that stops at its end or before. -/
theorem runB_loc {p : Nat → Bool} {s w : ByteArray} {i : Nat} (hw : s.extract i (i + w.size) = w) (hi : i + w.size ≤ s.size) (hs : ¬ (i + w.size < s.size ∧ p (byteAt s (i + w.size)) = true)) : ∀ (n j : Nat), w.size - j = n → j ≤ w.size → runB p s (i + j) = runB p w j
  | 0, j, h, hj => by
    have e : j = w.size := by omega
    subst e
    rw [runB_end hs, runB_end (fun q => by omega)]
  | n + 1, j, h, hj => by
    have hb : byteAt w j = byteAt s (i + j) := by
      have := byteAt_ext (a := s) (b := i) (e := i + w.size) (k := j) (by omega) hi
      rwa [hw] at this
    rw [runB_eq p s, runB_eq p w, hb]
    have ih := runB_loc hw hi hs n (j + 1) (by omega) (by omega)
    rw [show i + j + 1 = i + (j + 1) by omega, ih]
    by_cases hc : p (byteAt s (i + j)) = true
    · rw [if_pos ⟨by omega, hc⟩, if_pos ⟨by omega, hc⟩]
    · rw [if_neg (fun q => hc q.2), if_neg (fun q => hc q.2)]
theorem ext_loc {s w : ByteArray} {i b : Nat} (hw : s.extract i (i + w.size) = w) (hb : b ≤ w.size) : s.extract i (i + b) = w.extract 0 b := by
  conv => rhs; rw [← hw]
  rw [ByteArray.extract_extract, Nat.add_zero, Nat.min_eq_left (by omega)]
def put (i : Nat) (t : Tk) : Tk := ⟨i, t.text, t.num, t.n⟩
/-- What stands at a place is told by the word that stands there. -/
theorem oneT_loc {s w : ByteArray} {i : Nat} (hw : s.extract i (i + w.size) = w) (hi : i + w.size ≤ s.size) (h1 : 1 ≤ w.size)
    (hl : letterB (byteAt s i) = true → ¬ (i + w.size < s.size ∧ letterB (byteAt s (i + w.size)) = true)) (hd : digitB (byteAt s i) = true ∨ byteAt s i = 45 → ¬ (i + w.size < s.size ∧ digitB (byteAt s (i + w.size)) = true)) :
    oneT s i = (oneT w 0).map (put i) := by
  have hb : byteAt w 0 = byteAt s i := by
    have := byteAt_ext (a := s) (b := i) (e := i + w.size) (k := 0) (by omega) hi
    rwa [hw, Nat.add_zero] at this
  rw [oneT, oneT, hb]
  by_cases c1 : byteAt s i = 40 ∨ byteAt s i = 41
  · rw [if_pos c1, if_pos c1, Option.map_some, put, ext_loc hw h1]
  rw [if_neg c1, if_neg c1]
  by_cases c2 : letterB (byteAt s i) = true
  · have e := runB_loc hw hi (hl c2) w.size 0 (by omega) (by omega)
    have hle := runB_le letterB w (i := 0) (by omega)
    rw [Nat.add_zero] at e
    rw [if_pos c2, if_pos c2, Option.map_some, put, e, Nat.zero_add, ext_loc hw (by omega)]
  rw [if_neg c2, if_neg c2]
  by_cases c3 : digitB (byteAt s i) = true ∨ byteAt s i = 45
  · have e := runB_loc hw hi (hd c3) (w.size - 1) 1 (by omega) h1
    have hle := runB_le digitB w (i := 1) h1
    rw [if_pos c3, if_pos c3, e, Nat.zero_add, Option.map_map, Nat.add_assoc, ext_loc hw (by omega)]
    rfl
  rw [if_neg c3, if_neg c3]; rfl
/-- A word: what a token's text is by itself. -/
def Word (t : Tk) : Prop := 1 ≤ t.text.size ∧ oneT t.text 0 = some (put 0 t)
theorem oneT_word {s : ByteArray} {i : Nat} {t : Tk} (hi : i < s.size) (h : oneT s i = some t) : Word t := by
  obtain ⟨h1, h2, h3⟩ := oneT_size hi h
  refine ⟨h2, ?_⟩
  have key : s.extract i (i + t.text.size) = t.text ∧ (letterB (byteAt s i) = true → ¬ (i + t.text.size < s.size ∧ letterB (byteAt s (i + t.text.size)) = true)) ∧ (digitB (byteAt s i) = true ∨ byteAt s i = 45 → ¬ (i + t.text.size < s.size ∧ digitB (byteAt s (i + t.text.size)) = true)) := by
    have hnl : ∀ c, letterB c = true → 97 ≤ c := fun c h => (of_decide_eq_true h).1
    have hnd : ∀ c, digitB c = true → 48 ≤ c ∧ c ≤ 57 := fun c h => of_decide_eq_true h
    rw [oneT] at h
    by_cases c1 : byteAt s i = 40 ∨ byteAt s i = 41
    · rw [if_pos c1] at h
      cases h
      have hz : (s.extract i (i + 1)).size = 1 := by rw [ByteArray.size_extract]; omega
      simp only at hz ⊢
      rw [hz]
      exact ⟨rfl, fun q => by have := hnl _ q; omega, fun q => by rcases q with q | q; (have := hnd _ q; omega); omega⟩
    rw [if_neg c1] at h
    by_cases c2 : letterB (byteAt s i) = true
    · rw [if_pos c2] at h
      cases h
      have hle := runB_le letterB s (i := i) (by omega)
      have hz : (s.extract i (i + runB letterB s i)).size = runB letterB s i := by rw [ByteArray.size_extract]; omega
      simp only
      rw [hz]
      exact ⟨rfl, fun _ => runB_stop letterB s _ i rfl, fun q => by have := hnl _ c2; rcases q with q | q; (have := hnd _ q; omega); omega⟩
    rw [if_neg c2] at h
    by_cases c3 : digitB (byteAt s i) = true ∨ byteAt s i = 45
    · rw [if_pos c3, Option.map_eq_some_iff] at h
      obtain ⟨n, -, rfl⟩ := h
      have hle := runB_le digitB s (i := i + 1) (by omega)
      have hz : (s.extract i (i + 1 + runB digitB s (i + 1))).size = 1 + runB digitB s (i + 1) := by rw [ByteArray.size_extract]; omega
      simp only
      rw [hz, ← Nat.add_assoc]
      exact ⟨rfl, fun q => absurd q c2, fun _ => runB_stop digitB s _ (i + 1) rfl⟩
    rw [if_neg c3] at h
    cases h
  have hl := oneT_loc key.1 h3 h2 key.2.1 key.2.2
  rw [h] at hl
  cases hq : oneT t.text 0 with
  | none => rw [hq] at hl; cases hl
  | some u =>
    rw [hq, Option.map_some] at hl
    have hu := (oneT_size (by omega) hq).1
    have e : t = put i u := by injection hl
    obtain ⟨ua, ut, un, uv⟩ := u
    have hu : ua = 0 := hu
    rw [e, hu]; rfl
def sp : ByteArray := ⟨#[32, 10]⟩
def total (l : List Tk) : Nat := (l.map fun t => t.text.size).sum
theorem scanG_word {s : ByteArray} : ∀ (f i : Nat) (acc l : List Tk), scanG s f i acc = .ok l → (∀ t ∈ acc, Word t) → i ≤ s.size → (∀ t ∈ l, Word t) ∧ total l ≤ total acc + (s.size - i)
  | 0, i, acc, l, h, ha, hi => by cases h; exact ⟨ha, by omega⟩
  | f + 1, i, acc, l, h, ha, hi => by
    rw [scanG] at h
    split at h
    · rename_i hi
      split at h
      · rename_i t ht
        obtain ⟨h1, h2, h3⟩ := oneT_size hi ht
        have hle := runB_le blankB s (i := i + t.text.size) h3
        obtain ⟨a, b⟩ := scanG_word f _ _ l h (fun x hx => by
          rcases List.mem_append.1 hx with hx | hx
          · exact ha x hx
          · rw [List.mem_singleton.1 hx]; exact oneT_word hi ht) hle
        refine ⟨a, ?_⟩
        simp only [total, List.map_append, List.map_cons, List.map_nil, List.sum_append, List.sum_cons, List.sum_nil] at b ⊢
        omega
      · cases h
    · cases h; exact ⟨ha, by omega⟩
theorem word_len : ∀ l : List Tk, (∀ t ∈ l, Word t) → l.length ≤ total l
  | [], _ => Nat.le_refl _
  | t :: r, h => by
    have h1 := (h t (by simp)).1
    have := word_len r (fun x hx => h x (by simp [hx]))
    simp only [total, List.map_cons, List.sum_cons, List.length_cons] at this ⊢
    omega
theorem ext_mid {A w B : ByteArray} : (A ++ (w ++ B)).extract A.size (A.size + w.size) = w := by
  rw [ByteArray.extract_append, ByteArray.extract_append]
  apply ByteArray.ext
  simp
/-- A word begins with no blank. -/
theorem word_first {t : Tk} (h : Word t) : blankB (byteAt t.text 0) = false := by
  have h := h.2
  refine decide_eq_false fun q => ?_
  have hnl : ∀ c, letterB c = true → 97 ≤ c := fun c h => (of_decide_eq_true h).1
  have hnd : ∀ c, digitB c = true → 48 ≤ c ∧ c ≤ 57 := fun c h => of_decide_eq_true h
  rw [oneT] at h
  split at h
  · omega
  · split at h
    · rename_i c; have := hnl _ c; omega
    · split at h
      · rename_i c
        rcases c with c | c
        · have := hnd _ c; omega
        · omega
      · cases h
def tkey (t : Tk) : ByteArray × Bool × Int := (t.text, t.num, t.n)
end Go.Proofs.YthefnnkmpcgcmaaDoor

namespace Go.Proofs.YthefnnkmpcgcmaaDoor
open Go X
def Eqv (l l' : List Tk) : Prop := l.map tkey = l'.map tkey
theorem Eqv.length {l l' : List Tk} (h : Eqv l l') : l.length = l'.length := by simpa using congrArg List.length h
theorem Eqv.cons {t : Tk} {r l' : List Tk} (h : Eqv (t :: r) l') : ∃ t' r', l' = t' :: r' ∧ t.text = t'.text ∧ t.num = t'.num ∧ t.n = t'.n ∧ Eqv r r' := by
  cases l' with
  | nil => cases h
  | cons t' r' =>
    simp only [Eqv, List.map_cons, List.cons.injEq, tkey, Prod.mk.injEq] at h
    exact ⟨t', r', rfl, h.1.1, h.1.2.1, h.1.2.2, h.2⟩
theorem Eqv.nil {l' : List Tk} (h : Eqv [] l') : l' = [] := by
  cases l' with
  | nil => rfl
  | cons t' r' => cases h
theorem Eqv.tail {l l' : List Tk} (h : Eqv l l') : Eqv l.tail l'.tail := by
  cases l with
  | nil => rw [h.nil]; rfl
  | cons t r => obtain ⟨t', r', rfl, -, -, -, h⟩ := h.cons; exact h
theorem isT_eqv {w : ByteArray} {l l' : List Tk} (h : Eqv l l') : isT w l = isT w l' := by
  cases l with
  | nil => rw [h.nil]
  | cons t r => obtain ⟨t', r', rfl, a, b, -, -⟩ := h.cons; rw [isT, isT, a, b]
theorem pickG_eqv {W : Int → ByteArray} {l l' : List Tk} (h : Eqv l l') : ∀ f k : Nat, pickG W l f k = pickG W l' f k
  | 0, _ => rfl
  | f + 1, k => by rw [pickG, pickG, isT_eqv h, pickG_eqv h f (k + 1)]
def Leads {α : Type} (a b : PR α) : Prop := ∀ x r, a = .ok (x, r) → ∃ r', b = .ok (x, r') ∧ Eqv r r'
theorem Leads.bad {α : Type} {x : Int × Int} {b : PR α} : Leads (.error x) b := fun _ _ h => by cases h
theorem Leads.ok {α : Type} {x : α} {r r' : List Tk} (h : Eqv r r') : Leads (.ok (x, r)) (.ok (x, r')) := fun _ _ q => by cases q; exact ⟨r', rfl, h⟩
theorem bindP_leads {α β : Type} {a b : PR α} {k k' : α → List Tk → PR β} (h : Leads a b) (hk : ∀ x r r', Eqv r r' → Leads (k x r) (k' x r')) : Leads (bindP a k) (bindP b k') := by
  cases a with
  | error x => exact Leads.bad
  | ok y =>
    obtain ⟨x, r⟩ := y
    obtain ⟨r', e, hr⟩ := h x r rfl
    rw [e]
    exact hk x r r' hr
section
variable {vl : List Va} {e e' : Int}
theorem numP_leads {l l' : List Tk} (h : Eqv l l') : Leads (numP e l) (numP e' l') := by
  cases l with
  | nil => exact Leads.bad
  | cons t r =>
    obtain ⟨t', r', rfl, a, b, c, h⟩ := h.cons
    rw [numP, numP, b, c]
    split
    · exact Leads.ok h
    · exact Leads.bad
theorem nameP_leads {l l' : List Tk} (h : Eqv l l') : Leads (nameP e l) (nameP e' l') := by
  cases l with
  | nil => exact Leads.bad
  | cons t r =>
    obtain ⟨t', r', rfl, a, b, c, h⟩ := h.cons
    rw [nameP, nameP, a]
    split
    · exact Leads.ok h
    · exact Leads.bad
theorem varP_leads {l l' : List Tk} (h : Eqv l l') : Leads (varP vl e l) (varP vl e' l') := by
  cases l with
  | nil => exact Leads.bad
  | cons t r =>
    obtain ⟨t', r', rfl, a, b, c, h⟩ := h.cons
    rw [varP, varP, a]
    split
    · cases idxG t'.text vl 0 with
      | some i => exact Leads.ok h
      | none => exact Leads.bad
    · exact Leads.bad
theorem headP_leads {k : Nat} {l l' : List Tk} (h : Eqv l l') : Leads (headP vl e k l) (headP vl e' k l') := by
  rw [headP, headP]
  split
  · intro x r q
    cases hn : numP e l with
    | error y => rw [hn] at q; cases q
    | ok y =>
      obtain ⟨n, r0⟩ := y
      obtain ⟨r', e1, hr⟩ := numP_leads (e := e) (e' := e') h n r0 hn
      rw [hn] at q
      cases q
      rw [e1]
      exact ⟨r', rfl, hr⟩
  · split
    · intro x r q
      cases hn : varP vl e l with
      | error y => rw [hn] at q; cases q
      | ok y =>
        obtain ⟨n, r0⟩ := y
        obtain ⟨r', e1, hr⟩ := varP_leads (vl := vl) (e := e) (e' := e') h n r0 hn
        rw [hn] at q
        cases q
        rw [e1]
        exact ⟨r', rfl, hr⟩
    · exact Leads.ok h
theorem closeP_leads {α : Type} {x : α} {l l' : List Tk} (h : Eqv l l') : Leads (closeP e x l) (closeP e' x l') := by
  rw [closeP, closeP, isT_eqv h]
  split
  · exact Leads.ok h.tail
  · exact Leads.bad
theorem subsA_leads {α : Type} {E E' : List Tk → PR α} (hE : ∀ l l', Eqv l l' → Leads (E l) (E' l')) : ∀ (m : Nat) (l l' : List Tk) (acc : List α), Eqv l l' → Leads (subsA E m l acc) (subsA E' m l' acc)
  | 0, l, l', acc, h => Leads.ok h
  | m + 1, l, l', acc, h => by
    intro x r q
    rw [subsA] at q
    cases hn : E l with
    | error y => rw [hn] at q; cases q
    | ok y =>
      obtain ⟨n, r0⟩ := y
      obtain ⟨r', e1, hr⟩ := hE l l' h n r0 hn
      rw [hn] at q
      rw [subsA, e1]
      exact subsA_leads hE m r0 r' _ hr x r q
theorem exprP_leads : ∀ (f : Nat) (l l' : List Tk), Eqv l l' → Leads (exprP vl e f l) (exprP vl e' f l')
  | 0, l, l', h => Leads.bad
  | f + 1, l, l', h => by
    rw [exprP, exprP, isT_eqv h, pickT, pickT, pickG_eqv h.tail]
    split
    · cases hk : pickG wordOf l'.tail 8 1 with
      | none => exact Leads.bad
      | some k =>
        intro x r q
        simp only at q ⊢
        cases hh : headP vl e k l.tail.tail with
        | error y => rw [hh] at q; cases q
        | ok y =>
          obtain ⟨vn, l3⟩ := y
          obtain ⟨r', e1, hr⟩ := headP_leads (vl := vl) (e := e) (e' := e') (k := k) h.tail.tail vn l3 hh
          rw [hh] at q
          rw [e1]
          simp only at q ⊢
          cases hs : subsA (exprP vl e f) (partsOf k).toNat l3 [] with
          | error y => rw [hs] at q; cases q
          | ok z =>
            obtain ⟨xs, l4⟩ := z
            obtain ⟨r2, e2, hr2⟩ := subsA_leads (exprP_leads f) _ _ _ [] hr xs l4 hs
            rw [hs] at q
            rw [e2]
            exact closeP_leads hr2 x r q
    · exact Leads.bad
theorem listG_leads {S S' : List Tk → PR St} (hS : ∀ l l', Eqv l l' → Leads (S l) (S' l')) : ∀ (g : Nat) (l l' : List Tk) (acc : List St), Eqv l l' → Leads (listG S g l acc) (listG S' g l' acc)
  | 0, l, l', acc, h => Leads.bad
  | g + 1, l, l', acc, h => by
    intro x r q
    rw [listG] at q ⊢
    rw [← isT_eqv h]
    split at q
    · rename_i hq; rw [if_pos hq]; exact Leads.ok h.tail x r q
    · rename_i hq
      rw [if_neg hq]
      cases hn : S l with
      | error y => rw [hn] at q; cases q
      | ok y =>
        obtain ⟨n, r0⟩ := y
        obtain ⟨r', e1, hr⟩ := hS l l' h n r0 hn
        rw [hn] at q
        rw [e1]
        exact listG_leads hS g r0 r' _ hr x r q
theorem listP_leads {S S' : List Tk → PR St} (hS : ∀ l l', Eqv l l' → Leads (S l) (S' l')) {l l' : List Tk} (h : Eqv l l') : Leads (listP S e l) (listP S' e' l') := by
  rw [listP, listP, isT_eqv h, h.tail.length]
  split
  · exact listG_leads hS _ _ _ _ h.tail
  · exact Leads.bad
theorem optP_leads {α : Type} {b : Bool} {z : α} {a a' : List Tk → PR α} (ha : ∀ l l', Eqv l l' → Leads (a l) (a' l')) {l l' : List Tk} (h : Eqv l l') : Leads (optP b z a l) (optP b z a' l') := by
  rw [optP, optP]
  split
  · exact ha _ _ h
  · exact Leads.ok h
theorem stmtP_leads : ∀ (f : Nat) (l l' : List Tk), Eqv l l' → Leads (stmtP vl e f l) (stmtP vl e' f l')
  | 0, l, l', h => Leads.bad
  | f + 1, l, l', h => by
    rw [stmtP, stmtP, isT_eqv h, pickT, pickT, pickG_eqv h.tail]
    split
    · cases hk : pickG verbOf l'.tail 7 1 with
      | none => exact Leads.bad
      | some k =>
        simp only
        refine bindP_leads (optP_leads (fun _ _ => varP_leads) h.tail.tail) fun v r r' h => ?_
        refine bindP_leads (optP_leads (exprP_leads f) h) fun x r r' h => ?_
        refine bindP_leads (optP_leads (exprP_leads f) h) fun y r r' h => ?_
        refine bindP_leads (optP_leads (fun _ _ => listP_leads (stmtP_leads f)) h) fun b r r' h => ?_
        exact bindP_leads (optP_leads (fun _ _ => listP_leads (stmtP_leads f)) h) fun el r r' h => closeP_leads h
    · exact Leads.bad
theorem letsG_leads : ∀ (g : Nat) (l l' : List Tk) (acc : List Va), Eqv l l' → Leads (letsG e g l acc) (letsG e' g l' acc)
  | 0, l, l', acc, h => Leads.bad
  | g + 1, l, l', acc, h => by
    rw [letsG, letsG, isT_eqv h]
    split
    · exact bindP_leads (nameP_leads h.tail) fun s r r' h => bindP_leads (numP_leads h) fun n r r' h => letsG_leads g _ _ _ h
    · exact Leads.ok h
theorem bodyG_leads {S S' : List Tk → PR St} (hS : ∀ l l', Eqv l l' → Leads (S l) (S' l')) : ∀ (g : Nat) (l l' : List Tk) (acc : List St), Eqv l l' → Leads (bodyG S g l acc) (bodyG S' g l' acc)
  | 0, l, l', acc, h => Leads.bad
  | g + 1, l, l', acc, h => by
    intro x r q
    rw [bodyG] at q ⊢
    rw [← h.length]
    split at q
    · rename_i hq; rw [if_pos hq]; exact Leads.ok h x r q
    · rename_i hq
      rw [if_neg hq]
      cases hn : S l with
      | error y => rw [hn] at q; cases q
      | ok y =>
        obtain ⟨n, r0⟩ := y
        obtain ⟨r', e1, hr⟩ := hS l l' h n r0 hn
        rw [hn] at q
        rw [e1]
        exact bodyG_leads hS g r0 r' _ hr x r q
/-- The same texts and numbers: the same program. -/
theorem progP_leads {l l' : List Tk} (h : Eqv l l') : Leads (progP e l) (progP e' l') := by
  rw [progP, progP, h.length]
  refine bindP_leads (letsG_leads _ _ _ _ h) fun vl r r' h => ?_
  rw [h.length]
  exact bindP_leads (bodyG_leads (stmtP_leads 13) _ _ _ _ h) fun b r r' h => Leads.ok h
end
end Go.Proofs.YthefnnkmpcgcmaaDoor

namespace Go.Proofs.YthefnnkmpcgcmaaDoor
open Go X
set_option maxHeartbeats 2000000
section
variable {P : Program} {N : Nat} {fn : Func} {σ : PH} {Γ : List HP}
/-- A closure that recovers first, of two captured variables. -/
theorem X.CallsDA.recovers2 {f : FuncId} {rest : Code} {id : Nat} {d1 d2 : Nat} {t1 t2 : TypeId} {s1 s2 : String} {a1 a2 : Array Edge} {ats : Array TypeId} {x0 x1 : Value} {u : FrameMode} {R : FrameMode → PH → List HP → Prop}
    (hf : P.funcs[f]? = some fn) (hb : fn.body = some (.seq (.region id #[⟨some d1, .call { callee := .builtin .recover, args := #[], argTypes := ats }, t1, s1, a1, none⟩, ⟨some d2, .assign (.tmp d1), t2, s2, a2, none⟩] false) rest)) (hN : Nat.ble 2 fn.ntmps = true)
    (hd1 : Nat.blt d1 fn.ntmps = true) (hd2 : Nat.blt d2 fn.ntmps = true) (hx : XA P fn.ntmps rest (upd (upd (upd (upd U 0 x0) 1 x1) d1 (recv u).1) d2 (recv u).1) σ Γ (bodyA P fn (RetA fun _ σ' Γ' => R (recv u).2 σ' Γ'))) :
    CallsDA P f #[x0, x1] u σ Γ R := fun fr h hh w hw => by
  refine (calls_recovers (vs := #[x0, x1]) (ρ0 := upd (upd U 0 x0) 1 x1) hf hb hN (fun s => match s with
    | 0 => rfl
    | 1 => rfl
    | s + 2 => by rw [show (#[x0, x1] : Array Value).getD (s + 2) undef = undef from by simp, upd_ne _ _ _ _ (by omega), upd_ne _ _ _ _ (by omega)]) hd1 hd2 (XA.toX hx hh) w hw).mono ?_
  rintro e u' w' ⟨rfl, a, σ', Γ', b, c⟩
  cases e with
  | returned v => exact ⟨a, ⟨v, rfl⟩, σ', Γ', b, c⟩
  | _ => exact b.elim
/-- Only a return is looked at. -/
def onlyRet (K : KA) : KA
  | .ret, ρ, σ, Γ => K .ret ρ σ Γ
  | _, _, _, _ => False
theorem X.XFA.of {c : Code} {ρ : Env} {next : Env → PH → List HP → Prop} {K : KA} (hx : XA P N c ρ σ Γ (thnA next (onlyRet K))) : XFA P N c ρ σ Γ (thnA next K) := by
  refine ⟨fun f h hh => ⟨fun w0 a w hs hw he => wp_mono ((hx.out f h hh).out w0 a w hs hw he) ?_⟩⟩
  rintro e a' w' ⟨h1, h2, ρ', h3, σ', Γ', hk, hh'⟩
  cases e with
  | normal => exact ⟨h1, h2, ρ', h3, σ', Γ', hk, hh'⟩
  | ret => exact ⟨h1, h2, ρ', h3, σ', Γ', hk, hh'⟩
  | _ => exact hk.elim
theorem X.XFA.ofEnd {c : Code} {ρ : Env} {K : KA} (hx : XA P N c ρ σ Γ (onlyRet K)) : XFA P N c ρ σ Γ K := by
  refine ⟨fun f h hh => ⟨fun w0 a w hs hw he => wp_mono ((hx.out f h hh).out w0 a w hs hw he) ?_⟩⟩
  rintro e a' w' ⟨h1, h2, ρ', h3, σ', Γ', hk, hh'⟩
  cases e with
  | ret => exact ⟨h1, h2, ρ', h3, σ', Γ', hk, hh'⟩
  | _ => exact hk.elim
end
theorem X.Rd.tassertS {P : Program} {ρ : Env} {S : Heap → Prop} {ty T I : TypeId} {x : Operand} {v : Value} {r : Ty} {fs : List (TypeId × Nat)} (hT : tyOf P T = some r) (hk : r.k = .struct fs) (hx : ev ρ x = .iface T v) : Rd P ρ S (.typeAssert x I T true) ty (.tuple #[v, .bool true]) := by
  refine .pure fun d pos af g w => ?_
  obtain ⟨dd, i, z, e1, e2, -⟩ := tyOf_spec hT
  rw [hk] at e2
  cases dd <;> simp [kindOf] at e2
  simp [execOp, Instr.typeAssert, run_underlying e1, hx]
theorem any_if2 : ∃ ms, Tryd.prog.underlying 20 = some (.interface ms) := ⟨#[], by kernel_rfl⟩
theorem precov_n (σ : PH) (ga gb : Nat) : CallsDA Tryd.prog 41 #[ptr ga, ptr gb] .returning σ [] (fun u' σ' Γ' => settle u' = .returning ∧ σ = σ' ∧ Γ' = []) := by
  refine CallsDA.recovers2 Tryd.func41 rfl rfl rfl rfl ?_
  dsimp only [recv]
  refine zS (zR (zA rfl ?_)); refine zO rfl (Rd.neqIfF any_if2.choose_spec rfl) ?_; refine zN (zT (XA.condF rfl rfl (XA.skip ?_)))
  exact bodyA.normal (ResA.none rfl) zE ⟨rfl, rfl, rfl⟩
theorem precov_p (σ : PH) (ga gb : Nat) (x : Int × Int) (r0 r1 : List Value) (hr0 : r0.length = 2) (hr1 : r1.length = 2) : CallsDA Tryd.prog 41 #[ptr ga, ptr gb] (.panicking (goneP x)) σ [blk ga r0 25, blk gb r1 30]
    (fun u' σ' Γ' => settle u' = .returning ∧ σ = σ' ∧ Γ' = [blk ga [.slice none 0 0, .slice none 0 0] 25, blk gb [i64 x.1, i64 x.2] 30]) := by
  refine CallsDA.recovers2 Tryd.func41 rfl rfl rfl rfl ?_
  dsimp only [recv, goneP]
  have hspl : splice r0 0 [.slice none 0 0, .slice none 0 0] = [.slice none 0 0, .slice none 0 0] := splice_all hr0
  have hspl2 : splice r1 0 [i64 x.1, i64 x.2] = [i64 x.1, i64 x.2] := splice_all hr1
  have hfit : 0 + ty25.size ≤ r0.length := by rw [hr0]; exact Nat.le_refl _
  have hfit2 : ∀ _ : Unit, 0 + ty30.size ≤ r1.length := fun _ => by rw [hr1]; exact Nat.le_refl _
  refine zS (zR (zA rfl ?_)); refine zO rfl (Rd.neqIfT any_if2.choose_spec rfl) ?_; refine zN (zT (XA.condT rfl rfl (zS (zR (zA rfl ?_))))); refine zO rfl (X.Rd.tassertS (tyrow rfl) rfl rfl) ?_; refine zA rfl ?_; refine zO rfl (Rd.extract rfl rfl) ?_; refine zO rfl (Rd.extract rfl rfl) ?_
  refine XOA.wr0 rfl (WrA.alloc (tyrow rfl)) ?_
  rintro _ _ _ ⟨g3, rfl, rfl, rfl⟩
  refine XOA.wr0 rfl (WrA.st (tyrow rfl) rfl) ?_
  rintro _ _ _ ⟨rfl, rfl, rfl⟩
  refine zO rfl Rd.asg ?_; refine zN (zT (zS (zS (zR (zA rfl ?_))))); refine zO rfl zJ ?_; refine zN (zT (XA.condF rfl rfl (XA.skip (zT ?_))))
  refine XA.draw (by kernel_rfl) _ _ [3] [(0, .pu), (1, .rd), (2, .wr), (3, .wr)] (by kernel_rfl) (PH.sub.refl _) (Ent.sel (R := blk g3 _ _) zL (Ent.nil _)) ?_
  refine XPA.pu rfl rfl Gd.free (Rd.bl (fun _ _ => tyrow) rfl rfl rfl) ?_
  refine XPA.rd rfl rfl Gd.free (Rd.ldA rfl) ?_
  refine XPA.wr0 rfl rfl Gd.free (WrA.st (tyrow rfl) rfl) ?_
  rintro _ _ _ ⟨rfl, rfl, rfl⟩
  refine stays ?_
  refine XPA.wrZ0 rfl rfl Gd.free (by kernel_rfl) (WrA.st (tyrow rfl) rfl) ?_
  rintro _ _ _ ⟨rfl, rfl, rfl⟩
  refine XPA.nil ?_
  exact bodyA.normal (ResA.none rfl) zE ⟨rfl, rfl, rfl⟩
end Go.Proofs.YthefnnkmpcgcmaaDoor

namespace Go.Proofs.YthefnnkmpcgcmaaDoor
open Go X
set_option maxHeartbeats 2000000
theorem X.CallsDA.conv2 {P : Program} {f : FuncId} {vs : Array Value} {u : FrameMode} {σ : PH} {Γ Γ0 Δ : List HP} {R R' : FrameMode → PH → List HP → Prop} (hc : CallsDA P f vs u σ Γ0 R) (he : Ent Γ (Γ0 ++ Δ))
    (k : ∀ u' σ' Γ' fr h, R u' σ' Γ' → Holds σ' (Γ' ++ Δ) fr h → ∃ σ2 Γ2, R' u' σ2 Γ2 ∧ Holds σ2 Γ2 fr h) : CallsDA P f vs u σ Γ R' := fun fr h hh w hw => by
  obtain ⟨f', a, b⟩ := (hh.ent he).aside
  refine (hc f' h a w hw).mono ?_
  rintro e u' w' ⟨h1, h2, σ', Γ', h3, h4⟩
  obtain ⟨σ2, Γ2, h5, h6⟩ := k u' σ' Γ' fr w'.heap h3 (b _ _ _ h4)
  exact ⟨h1, h2, σ2, Γ2, h5, h6⟩
theorem X.XFOA.wr {P : Program} {N : Nat} {ρ : Env} {σ : PH} {Γ : List HP} {K : KA} {all : Array Oper} {rest : List Oper} {ty : TypeId} {pos : String} {af : Array Edge} {d : Option Nat} {op : Op} {R : Value → PH → List HP → Prop} (hd : dstOk N d = true) (hr : WrA P ρ σ Γ op ty R noPA) (k : ∀ v σ' Γ', R v σ' Γ' → XFOA P N all rest (updO ρ d v) σ' Γ' K) :
    XFOA P N all (⟨d, op, ty, pos, af, none⟩ :: rest) ρ σ Γ K :=
  ⟨fun fr h hh => XFO.wr hd (hr.out fr h hh) (fun v h' ⟨σ', Γ', a, b⟩ => (k v σ' Γ' a).out fr h' b) (fun _ _ ⟨_, _, h, _⟩ => h.elim)⟩
theorem X.ResA.cc {P : Program} {ρ : Env} {σ : PH} {Γ : List HP} {fn : Func} {t1 t2 : Tmp} {T1 T2 : TypeId} {g1 o1 g2 o2 : Nat} {v1 v2 : Value} (hf : fn.results = #[.cell t1 T1, .cell t2 T2]) (h1 : ρ t1 = .pointer (some ⟨g1, o1, Option.none⟩)) (h2 : ρ t2 = .pointer (some ⟨g2, o2, Option.none⟩))
    (l1 : ∀ h, Ho σ Γ h → Ld P h T1 g1 o1 v1) (l2 : ∀ h, Ho σ Γ h → Ld P h T2 g2 o2 v2) : ResA P fn ρ σ Γ (.tuple #[v1, v2]) := fun h hh w a hw he => by
  have e1 := he.get t1; rw [h1] at e1; simp at e1
  have e2 := he.get t2; rw [h2] at e2; simp at e2
  simp [results, hf, e1, e2, asAddr, l1 h hh w hw, l2 h hh w hw]
theorem enterD1 {P : Program} {σ : PH} {Γ : List HP} {fn : Func} {RR : Ending → PH → List HP → Prop} {f : FuncId} {co : Code} {a : Value} (hf : P.funcs[f]? = some fn) (hb : fn.body = some co) (hn : goodName fn = true) (hN : Nat.ble 1 fn.ntmps = true) (hx : XTA P fn co (upd U 0 a) σ Γ RR) : CallsA P f #[a] σ Γ RR :=
  ⟨enters hf hb hn, fun fr h hh => enterD hf hb hn hN (fun s => match s with
    | 0 => rfl
    | s + 1 => by rw [show (#[a] : Array Value).getD (s + 1) undef = undef from by simp, upd_ne _ _ _ _ (by omega)]) (hx.out fr h hh)⟩
theorem scanG_len {s : ByteArray} : ∀ (f i : Nat) (acc l : List Tk), scanG s f i acc = .ok l → i ≤ s.size → l.length ≤ acc.length + (s.size - i)
  | 0, i, acc, l, h, hi => by cases h; omega
  | f + 1, i, acc, l, h, hi => by
    rw [scanG] at h
    split at h
    · rename_i hi
      split at h
      · rename_i t ht
        obtain ⟨h1, h2, h3⟩ := oneT_size hi ht
        have hle := runB_le blankB s (i := i + t.text.size) h3
        have := scanG_len f _ _ l h hle
        rw [List.length_append, List.length_singleton] at this
        omega
      · cases h
    · cases h; omega
theorem scanP_len {s : ByteArray} {l : List Tk} (h : scanP s = .ok l) : l.length ≤ s.size := by
  have h0 := (scanP_ok h).1
  rw [scanP, if_neg (by omega)] at h
  have hle := runB_le blankB s (i := 0) (by omega)
  cases hl : scanG s (s.size + 1) (runB blankB s 0) [] with
  | ok l' => rw [hl] at h; cases h; have := scanG_len _ _ _ _ hl (by omega); simp only [List.length_nil] at this; omega
  | error i => rw [hl] at h; cases h
def parseP (s : ByteArray) : PErr Pr := match scanP s with
  | .error x => .error x
  | .ok l => match progP s.size l with
    | .error x => .error x
    | .ok (pr, _) => if checkP pr ≠ 0 then .error (checkP pr, -1) else .ok pr
def okPr : PErr Pr → Pr
  | .error _ => ⟨[], []⟩
  | .ok p => p
theorem pr_none (σ : PH) : PrAt σ [.slice none 0 0, .slice none 0 0] ⟨[], []⟩ := ⟨_, _, rfl, PSl.nil _ _ _, PSl.nil _ _ _⟩
def ParsePost (s : ByteArray) (σ : PH) : Value → PH → List HP → Prop := fun v σ' Γ' => ∃ cs, v = .tuple #[.agg (List.toArray cs), .agg #[i64 (errC (parseP s)), i64 (errA (parseP s))]] ∧ PrAt σ' cs (okPr (parseP s)) ∧ σ.sub σ' ∧ Γ' = []
theorem parse_p (σ : PH) (s : ByteArray) (hs : s.size ≤ 100000000) (hT : Tab σ) (hE : Errs σ) : CallsA Tryd.prog 20 #[.string s] σ [] (RetA (ParsePost s σ)) := by
  have hsc := scan_t σ s hs hT hE
  cases hR : scanP s with
  | error x =>
    obtain ⟨x1, x2⟩ := x
    have he : ¬ (x1 = 0) := by
      have h := hR
      rw [scanP] at h
      split at h
      · cases h; decide
      · cases hl : scanG s (s.size + 1) (runB blankB s 0) [] with
        | ok l' => rw [hl] at h; cases h
        | error i => rw [hl] at h; cases h; decide
    have hp : parseP s = .error (x1, x2) := by rw [parseP, hR]
    rw [hR] at hsc
    replace hsc : CallsA Tryd.prog 17 #[.string s] σ [] (RetA fun v σ' Γ' => ∃ sl, v = .tuple #[sl, .agg #[i64 x1, i64 x2]] ∧ PSl 4 rTk σ' sl [] ∧ σ.sub σ' ∧ Γ' = []) := hsc
    refine enterD1 Tryd.func20 rfl rfl rfl ?_
    refine XTA.seq ?_
    refine zR ?_
    refine XOA.wr0 rfl (WrA.alloc (tyrow rfl)) ?_
    rintro _ _ _ ⟨g2, rfl, rfl, rfl⟩
    refine XOA.wr0 rfl (WrA.alloc (tyrow rfl)) ?_
    rintro _ _ _ ⟨g3, rfl, rfl, rfl⟩
    refine zN (zT ?_)
    refine XTA.seq ?_
    refine zR (zA rfl ?_)
    refine XOA.wr0 rfl (WrA.cE (hsc) rfl) ?_
    rintro _ σ1 _ ⟨_, ⟨sl, rfl, hl, hs1, rfl⟩, rfl⟩
    refine XOA.cl ?_; refine zA rfl ?_; refine zO rfl (Rd.extract rfl rfl) ?_; refine zO rfl (Rd.extract rfl rfl) ?_; refine zO rfl Rd.asg ?_
    refine XOA.wr0 rfl (WrA.st (tyrow rfl) rfl) ?_
    rintro _ _ _ ⟨rfl, rfl, rfl⟩
    refine zN (zT ?_)
    refine XTA.seq ?_
    refine zS (zR (zV rfl rfl ?_)); refine zB rfl rfl (tyrow rfl) rfl ?_; refine zO rfl (Rd.neq rfl rfl) ?_; refine zN (zT (XA.condT rfl (by first | rfl | exact decide_eq_true he) ?_)); refine zS ?_
    refine XA.draw (by kernel_rfl) _ _ [3] [(0, .rd), (1, .rd), (2, .wr), (3, .wr)] (by kernel_rfl) (PH.sub.refl _) (Ent.sel (R := blk g2 _ _) zL (Ent.sel (R := blk g3 _ _) zL (Ent.nil _))) ?_
    refine XPA.rd rfl rfl Gd.free (Rd.ldA rfl) ?_; refine XPA.rd rfl rfl Gd.free (Rd.ldA rfl) ?_
    refine XPA.wr0 rfl rfl Gd.free (WrA.st (tyrow rfl) rfl) ?_
    rintro _ _ _ ⟨rfl, rfl, rfl⟩
    refine stays ?_
    refine XPA.wrZ0 rfl rfl Gd.free (by kernel_rfl) (WrA.st (tyrow rfl) rfl) ?_
    rintro _ _ _ ⟨rfl, rfl, rfl⟩
    refine XPA.nil ?_; refine zT (XA.ret (DA.thn_ret ?_))
    exact bodyA.ret (X.ResA.cc rfl rfl rfl (Ld.atBlk (tyrow rfl) rfl zL rfl (by first | exact take0 (by first | rfl | assumption | (refine (ints_len _).trans ?_; assumption) | (simp [*]; (first | done | fail))) | assumption | exact take_app (by first | rfl | assumption | (refine (ints_len _).trans ?_; assumption) | (simp [*]; (first | done | fail))) | (conv => lhs; simp only [List.drop_succ_cons, List.drop_zero, List.take_succ_cons, List.take_zero])) (by first | rfl | assumption | (refine (ints_len _).trans ?_; assumption) | (simp [*]; (first | done | fail)))) (Ld.atBlk (tyrow rfl) rfl zL rfl (by first | exact take0 (by first | rfl | assumption | (refine (ints_len _).trans ?_; assumption) | (simp [*]; (first | done | fail))) | assumption | exact take_app (by first | rfl | assumption | (refine (ints_len _).trans ?_; assumption) | (simp [*]; (first | done | fail))) | (conv => lhs; simp only [List.drop_succ_cons, List.drop_zero, List.take_succ_cons, List.take_zero])) (by first | rfl | assumption | (refine (ints_len _).trans ?_; assumption) | (simp [*]; (first | done | fail))))) (Ent.nil _) ⟨_, by rw [hp]; rfl, by rw [hp]; exact pr_none _, hs1, rfl⟩
  | ok l =>
    obtain ⟨h6, hok⟩ := scanP_ok hR
    have hF : ∀ t ∈ l, TkF t := fun t ht => ⟨by have := (hok t ht).size; simp only [maxLen]; omega, (hok t ht).num⟩
    have hL : l.length ≤ 10000 := by
      have := scanP_len hR
      omega
    rw [hR] at hsc
    replace hsc : CallsA Tryd.prog 17 #[.string s] σ [] (RetA fun v σ' Γ' => ∃ sl, v = .tuple #[sl, .agg #[i64 0, i64 0]] ∧ PSl 4 rTk σ' sl l ∧ σ.sub σ' ∧ Γ' = []) := hsc
    refine enterD1 Tryd.func20 rfl rfl rfl ?_
    refine XTA.seq ?_
    refine zR ?_
    refine XOA.wr0 rfl (WrA.alloc (tyrow rfl)) ?_
    rintro _ _ _ ⟨g2, rfl, rfl, rfl⟩
    refine XOA.wr0 rfl (WrA.alloc (tyrow rfl)) ?_
    rintro _ _ _ ⟨g3, rfl, rfl, rfl⟩
    refine zN (zT ?_)
    refine XTA.seq ?_
    refine zR (zA rfl ?_)
    refine XOA.wr0 rfl (WrA.cE (hsc) rfl) ?_
    rintro _ σ1 _ ⟨_, ⟨sl, rfl, hl, hs1, rfl⟩, rfl⟩
    refine XOA.cl ?_
    obtain ⟨p, c, rfl, hc0, hc1⟩ := hl.shape
    refine zA rfl ?_; refine zO rfl (Rd.extract rfl rfl) ?_; refine zO rfl (Rd.extract rfl rfl) ?_; refine zO rfl Rd.asg ?_
    refine XOA.wr0 rfl (WrA.st (tyrow rfl) rfl) ?_
    rintro _ _ _ ⟨rfl, rfl, rfl⟩
    refine zN (zT ?_)
    refine XTA.seq ?_
    refine zS (zR (zV rfl rfl ?_)); refine zB rfl rfl (tyrow rfl) rfl ?_; refine zO rfl (Rd.neq rfl rfl) ?_; refine zN (zT ?_)
    refine XA.condF rfl (by first | rfl | exact decide_eq_false (fun h => h rfl)) ?_
    refine XA.skip (zT ?_)
    refine XTA.defer (caps := #[ptr g2, ptr g3]) (enters Tryd.func41 rfl rfl) rfl (by simp only [List.map_toArray, List.map_cons, List.map_nil]) ?_
    refine XFA.seq ?_
    refine X.XFA.of ?_
    refine zR (zA rfl ?_); refine zA rfl ?_
    refine zO rfl (Rd.lenString (tyrow rfl) rfl rfl) ?_
    refine zO rfl (Rd.bl (fun _ _ => tyrow) rfl rfl rfl) ?_
    refine XOA.wr0 rfl (WrA.bx rfl) ?_
    rintro _ _ _ ⟨gp, rfl, rfl, rfl⟩
    refine zO rfl Rd.asg ?_
    refine zN (zT ?_)
    have hprog := program_p σ1 gp p c s.size l hl hF hL
    show XFA _ _ _ _ _ _ _
    refine XFA.seq ?_
    refine XFA.region ?_
    refine XFOA.rd rfl (Rd.move rfl) ?_
    cases hP : progP s.size l with
    | error x =>
      have hp : parseP s = .error x := by rw [parseP, hR]; simp only; rw [hP]
      have hbad : CallsA Tryd.prog 42 #[ptr gp] σ1 [blk gp [.slice p l.length c, i64 s.size, .slice none 0 0] 83] (PanA fun ch σ' Γ' => ch = goneP x ∧ σ1.sub σ' ∧ ∃ cs, Γ' = [blk gp cs 83]) := by
        refine hprog.mono fun en σ' Γ' hr => ?_
        cases en with
        | returned v => obtain ⟨x', l'', h1, -⟩ := hr; rw [hP] at h1; cases h1
        | panicked ch => obtain ⟨x', h1, h2⟩ := hr; rw [hP] at h1; cases h1; exact h2
        | outgrown => exact False.elim hr
      refine XFOA.die rfl hbad rfl zD ?_
      rintro _ σ2 _ ⟨rfl, hs2, cb, rfl⟩
      show CallsDA _ _ _ _ _ _ _
      refine X.CallsDA.conv2 (precov_p σ2 g2 g3 x _ _ rfl rfl) (Δ := []) zE ?_
      rintro u' σ' Γ' fr h ⟨hu, rfl, rfl⟩ hh
      simp only [List.cons_append, List.nil_append] at hh
      refine ⟨_, _, ?_, hh⟩
      refine ⟨hu, _, X.ResA.cc rfl rfl rfl (Ld.atBlk (tyrow rfl) rfl zL rfl (by first | exact take0 (by first | rfl | assumption | (refine (ints_len _).trans ?_; assumption) | (simp [*]; (first | done | fail))) | assumption | exact take_app (by first | rfl | assumption | (refine (ints_len _).trans ?_; assumption) | (simp [*]; (first | done | fail))) | (conv => lhs; simp only [List.drop_succ_cons, List.drop_zero, List.take_succ_cons, List.take_zero])) (by first | rfl | assumption | (refine (ints_len _).trans ?_; assumption) | (simp [*]; (first | done | fail)))) (Ld.atBlk (tyrow rfl) rfl zL rfl (by first | exact take0 (by first | rfl | assumption | (refine (ints_len _).trans ?_; assumption) | (simp [*]; (first | done | fail))) | assumption | exact take_app (by first | rfl | assumption | (refine (ints_len _).trans ?_; assumption) | (simp [*]; (first | done | fail))) | (conv => lhs; simp only [List.drop_succ_cons, List.drop_zero, List.take_succ_cons, List.take_zero])) (by first | rfl | assumption | (refine (ints_len _).trans ?_; assumption) | (simp [*]; (first | done | fail)))), [], Ent.nil _, ?_⟩
      exact ⟨_, by rw [hp]; rfl, by rw [hp]; exact pr_none _, hs1.trans hs2, rfl⟩
    | ok y =>
      obtain ⟨pr, l'⟩ := y
      have hgood : CallsA Tryd.prog 42 #[ptr gp] σ1 [blk gp [.slice p l.length c, i64 s.size, .slice none 0 0] 83] (RetA fun v σ' Γ' => ∃ cs, v = .agg (List.toArray cs) ∧ PrAt σ' cs pr ∧ σ1.sub σ' ∧ ∃ cb, Γ' = [blk gp cb 83]) := by
        refine hprog.mono fun en σ' Γ' hr => ?_
        cases en with
        | returned v => obtain ⟨x', l'', h1, h2⟩ := hr; rw [hP] at h1; cases h1; exact h2
        | panicked ch => obtain ⟨x', h1, -⟩ := hr; rw [hP] at h1; cases h1
        | outgrown => exact False.elim hr
      refine XFOA.call rfl hgood rfl zD ?_
      rintro _ σ2 _ ⟨cs, rfl, hpr, hs2, cb, rfl⟩
      have hpr0 := hpr
      obtain ⟨vs, bs, rfl, hv, hb⟩ := hpr
      obtain ⟨pv, cv, rfl, -, -⟩ := hv.shape
      obtain ⟨pb, cb2, rfl, -, -⟩ := hb.shape
      simp only [List.cons_append, List.nil_append]
      refine X.XFOA.wr rfl (WrA.st (tyrow rfl) rfl) ?_
      rintro _ _ _ ⟨rfl, rfl, rfl⟩
      refine XFOA.nil ?_
      show XFA _ _ _ _ _ _ _
      refine XFA.seq ?_
      refine X.XFA.of ?_
      refine zS (zR ?_)
      refine zO rfl (Rd.ldA rfl) ?_
      refine XOA.wr0 rfl (WrA.cE (check_a σ2 _ pr hpr0) rfl) ?_
      rintro _ _ _ ⟨_, ⟨rfl, rfl, rfl⟩, rfl⟩
      refine XOA.cl ?_; refine zO rfl Rd.asg ?_
      refine zN (zT ?_)
      by_cases hc : checkP pr ≠ 0
      · have hp : parseP s = .error (checkP pr, -1) := by rw [parseP, hR]; simp only; rw [hP]; simp only; rw [if_pos hc]
        refine zS (zR (zA rfl ?_))
        refine zO rfl (Rd.neq rfl rfl) ?_
        refine zN (zT (XA.condT rfl (by first | rfl | exact decide_eq_true hc) ?_))
        refine zS (zR ?_)
        refine zO rfl (Rd.bl (fun _ _ => tyrow) rfl rfl rfl) ?_
        refine zA rfl ?_
        refine zO rfl (Rd.bl (fun _ _ => tyrow) rfl rfl rfl) ?_
        refine XOA.wr0 rfl (WrA.st (tyrow rfl) rfl) ?_
        rintro _ _ _ ⟨rfl, rfl, rfl⟩
        refine XOA.wr0 rfl (WrA.st (tyrow rfl) rfl) ?_
        rintro _ _ _ ⟨rfl, rfl, rfl⟩
        refine zN (zT (XA.ret (DA.thn_ret ?_)))
        refine .here ?_
        show CallsDA _ _ _ _ _ _ _
        refine X.CallsDA.conv2 (precov_n σ2 g2 g3) (Δ := _) (Ent.refl _) ?_
        rintro u' σ' Γ' fr h ⟨hu, rfl, rfl⟩ hh
        simp only [List.nil_append] at hh
        refine ⟨_, _, ?_, hh⟩
        refine ⟨hu, _, X.ResA.cc rfl rfl rfl (Ld.atBlk (tyrow rfl) rfl zL rfl (by first | exact take0 (by first | rfl | assumption | (refine (ints_len _).trans ?_; assumption) | (simp [*]; (first | done | fail))) | assumption | exact take_app (by first | rfl | assumption | (refine (ints_len _).trans ?_; assumption) | (simp [*]; (first | done | fail))) | (conv => lhs; simp only [List.drop_succ_cons, List.drop_zero, List.take_succ_cons, List.take_zero])) (by first | rfl | assumption | (refine (ints_len _).trans ?_; assumption) | (simp [*]; (first | done | fail)))) (Ld.atBlk (tyrow rfl) rfl zL rfl (by first | exact take0 (by first | rfl | assumption | (refine (ints_len _).trans ?_; assumption) | (simp [*]; (first | done | fail))) | assumption | exact take_app (by first | rfl | assumption | (refine (ints_len _).trans ?_; assumption) | (simp [*]; (first | done | fail))) | (conv => lhs; simp only [List.drop_succ_cons, List.drop_zero, List.take_succ_cons, List.take_zero])) (by first | rfl | assumption | (refine (ints_len _).trans ?_; assumption) | (simp [*]; (first | done | fail)))), [], Ent.nil _, ?_⟩
        exact ⟨_, by rw [hp]; rfl, by rw [hp]; exact pr_none _, hs1.trans hs2, rfl⟩
      · have hp : parseP s = .ok pr := by rw [parseP, hR]; simp only; rw [hP]; simp only; rw [if_neg hc]
        refine zS (zR (zA rfl ?_))
        refine zO rfl (Rd.neq rfl rfl) ?_
        refine zN (zT (XA.condF rfl (by first | rfl | exact decide_eq_false hc) (XA.skip (zT ?_))))
        show XFA _ _ _ _ _ _ _
        refine X.XFA.ofEnd ?_
        refine zS (zR ?_)
        refine zO rfl (Rd.ldA rfl) ?_
        refine zO rfl (Rd.bl (fun _ _ => tyrow) rfl rfl rfl) ?_
        refine XOA.wr0 rfl (WrA.st (tyrow rfl) rfl) ?_
        rintro _ _ _ ⟨rfl, rfl, rfl⟩
        refine XOA.wr0 rfl (WrA.st (tyrow rfl) rfl) ?_
        rintro _ _ _ ⟨rfl, rfl, rfl⟩
        refine zN (zT (XA.ret ?_))
        refine .here ?_
        show CallsDA _ _ _ _ _ _ _
        refine X.CallsDA.conv2 (precov_n σ2 g2 g3) (Δ := _) (Ent.refl _) ?_
        rintro u' σ' Γ' fr h ⟨hu, rfl, rfl⟩ hh
        simp only [List.nil_append] at hh
        refine ⟨_, _, ?_, hh⟩
        refine ⟨hu, _, X.ResA.cc rfl rfl rfl (Ld.atBlk (tyrow rfl) rfl zL rfl (by first | exact take0 (by first | rfl | assumption | (refine (ints_len _).trans ?_; assumption) | (simp [*]; (first | done | fail))) | assumption | exact take_app (by first | rfl | assumption | (refine (ints_len _).trans ?_; assumption) | (simp [*]; (first | done | fail))) | (conv => lhs; simp only [List.drop_succ_cons, List.drop_zero, List.take_succ_cons, List.take_zero])) (by first | rfl | assumption | (refine (ints_len _).trans ?_; assumption) | (simp [*]; (first | done | fail)))) (Ld.atBlk (tyrow rfl) rfl zL rfl (by first | exact take0 (by first | rfl | assumption | (refine (ints_len _).trans ?_; assumption) | (simp [*]; (first | done | fail))) | assumption | exact take_app (by first | rfl | assumption | (refine (ints_len _).trans ?_; assumption) | (simp [*]; (first | done | fail))) | (conv => lhs; simp only [List.drop_succ_cons, List.drop_zero, List.take_succ_cons, List.take_zero])) (by first | rfl | assumption | (refine (ints_len _).trans ?_; assumption) | (simp [*]; (first | done | fail)))), [], Ent.nil _, ?_⟩
        exact ⟨_, by rw [hp]; rfl, by rw [hp]; exact hpr0, hs1.trans hs2, rfl⟩
end Go.Proofs.YthefnnkmpcgcmaaDoor

namespace Go.Proofs.YthefnnkmpcgcmaaDoor
open Go X
set_option maxHeartbeats 2000000
theorem byteAt_right {A B : ByteArray} {k : Nat} (h : k < B.size) : byteAt (A ++ B) (A.size + k) = byteAt B k := by
  have := byteAt_ext (a := A ++ B) (b := A.size) (e := A.size + B.size) (k := k) (by omega) (by rw [ByteArray.size_append]; omega)
  rw [ByteArray.extract_append_eq_right rfl rfl] at this
  exact this.symm
theorem byteAt_left {A B : ByteArray} {k : Nat} (h : k < A.size) : byteAt (A ++ B) k = byteAt A k := by
  have := byteAt_ext (a := A ++ B) (b := 0) (e := A.size) (k := k) (by omega) (by rw [ByteArray.size_append]; omega)
  rw [ByteArray.extract_append_eq_left rfl, Nat.zero_add] at this
  exact this.symm
end Go.Proofs.YthefnnkmpcgcmaaDoor

namespace Go.Proofs.YthefnnkmpcgcmaaDoor
open Go X
def Blank (z : ByteArray) : Prop := ∀ k, k < z.size → blankB (byteAt z k) = true
def joinS (z : ByteArray) : List Tk → ByteArray
  | [] => ByteArray.empty
  | t :: r => (t.text ++ z) ++ joinS z r
theorem joinS_app (z : ByteArray) : ∀ (a b : List Tk), joinS z (a ++ b) = joinS z a ++ joinS z b
  | [], b => by rw [List.nil_append, joinS, ByteArray.empty_append]
  | t :: r, b => by rw [List.cons_append, joinS, joinS, joinS_app z r b]; simp only [ByteArray.append_assoc]
theorem joinS_one (z : ByteArray) (t : Tk) : joinS z [t] = t.text ++ z := by rw [joinS, joinS, ByteArray.append_empty]
theorem joinS_size (z : ByteArray) : ∀ l : List Tk, (joinS z l).size = total l + z.size * l.length
  | [] => by rw [joinS]; show 0 = total [] + z.size * 0; rw [Nat.mul_zero]; rfl
  | t :: r => by
    have := joinS_size z r
    rw [joinS, ByteArray.size_append, ByteArray.size_append, this, List.length_cons, Nat.mul_succ]
    simp only [total, List.map_cons, List.sum_cons]
    omega
theorem runB_all {p : Nat → Bool} {s : ByteArray} : ∀ (n i : Nat), (∀ k, k < n → i + k < s.size ∧ p (byteAt s (i + k)) = true) → ¬ (i + n < s.size ∧ p (byteAt s (i + n)) = true) → runB p s i = n
  | 0, i, _, h => runB_end h
  | n + 1, i, h, h' => by
    have h0 := h 0 (by omega)
    rw [Nat.add_zero] at h0
    rw [runB_eq, if_pos h0, runB_all n (i + 1) (fun k hk => by have := h (k + 1) (by omega); rwa [show i + (k + 1) = i + 1 + k by omega] at this) (by rwa [show i + (n + 1) = i + 1 + n by omega] at h')]
theorem joinS_first {z : ByteArray} {y : Tk} {r : List Tk} (h : Word y) : blankB (byteAt (joinS z (y :: r)) 0) = false := by
  rw [joinS, ByteArray.append_assoc, byteAt_left h.1]
  exact word_first h
/-- Behind what stands ahead a blank or a word's first byte comes, or nothing. -/
theorem next_no {z A : ByteArray} {r : List Tk} (hw : ∀ t ∈ r, Word t) : ¬ (A.size < (A ++ joinS z r).size ∧ blankB (byteAt (A ++ joinS z r) A.size) = true) := by
  rintro ⟨q1, q2⟩
  cases r with
  | nil => rw [ByteArray.size_append, joinS, show ByteArray.empty.size = 0 from rfl] at q1; omega
  | cons y r =>
    rw [ByteArray.size_append] at q1
    have := byteAt_right (A := A) (B := joinS z (y :: r)) (k := 0) (by omega)
    rw [Nat.add_zero] at this
    rw [this, joinS_first (hw y (by simp))] at q2
    cases q2
theorem back_any {z : ByteArray} (hz : Blank z) (h1 : 1 ≤ z.size) {J : ByteArray} : ∀ (r : List Tk) (A : ByteArray), J = A ++ joinS z r → (∀ t ∈ r, Word t) → ∀ (f : Nat) (acc : List Tk), J.size < A.size + f → ∃ m, scanG J f A.size acc = .ok (acc ++ m) ∧ m.map tkey = r.map tkey
  | [], A, hJ, _, f, acc, hf => ⟨[], by rw [List.append_nil]; exact scanG_end _ _ _ _ (by rw [hJ, joinS, ByteArray.append_empty]; omega), rfl⟩
  | x :: r, A, hJ, hw, f, acc, hf => by
    have hx := hw x (by simp)
    have hJ2 : J = A ++ (x.text ++ (z ++ joinS z r)) := by rw [hJ, joinS, ByteArray.append_assoc]
    have hJ3 : J = (A ++ x.text) ++ (z ++ joinS z r) := by rw [hJ2, ByteArray.append_assoc]
    have hJ4 : J = (A ++ (x.text ++ z)) ++ joinS z r := by rw [hJ3]; simp only [ByteArray.append_assoc]
    have hsz : J.size = A.size + (x.text.size + (z.size + (joinS z r).size)) := by rw [hJ2, ByteArray.size_append, ByteArray.size_append, ByteArray.size_append]
    have hext : J.extract A.size (A.size + x.text.size) = x.text := by rw [hJ2]; exact ext_mid
    have hzb : ∀ k, k < z.size → byteAt J (A.size + x.text.size + k) = byteAt z k := fun k hk => by
      have := byteAt_right (A := A ++ x.text) (B := z ++ joinS z r) (k := k) (by rw [ByteArray.size_append]; omega)
      rwa [← hJ3, ByteArray.size_append, byteAt_left hk] at this
    have hA2 : (A ++ (x.text ++ z)).size = A.size + x.text.size + z.size := by rw [ByteArray.size_append, ByteArray.size_append]; omega
    have hbl : runB blankB J (A.size + x.text.size) = z.size := by
      refine runB_all _ _ (fun k hk => ⟨by omega, by rw [hzb k hk]; exact hz k hk⟩) ?_
      have := next_no (z := z) (A := A ++ (x.text ++ z)) (r := r) (fun t ht => hw t (by simp [ht]))
      rwa [← hJ4, hA2] at this
    have hb0 : blankB (byteAt J (A.size + x.text.size)) = true := by
      have := hzb 0 (by omega)
      rw [Nat.add_zero] at this
      rw [this]; exact hz 0 (by omega)
    have hnb : ∀ c, blankB c = true → letterB c = false ∧ digitB c = false := fun c h => by
      have h : c = 32 ∨ c = 9 ∨ c = 10 ∨ c = 13 := of_decide_eq_true h
      exact ⟨decide_eq_false (by omega), decide_eq_false (by omega)⟩
    have hx1 := hx.1
    have ho : oneT J A.size = some (put A.size x) := by
      rw [oneT_loc hext (by omega) hx.1 (fun _ q => by rw [(hnb _ hb0).1] at q; exact Bool.noConfusion q.2) (fun _ q => by rw [(hnb _ hb0).2] at q; exact Bool.noConfusion q.2), hx.2]
      rfl
    obtain ⟨g, rfl⟩ : ∃ g, f = g + 1 := ⟨f - 1, by omega⟩
    obtain ⟨m, e1, e2⟩ := back_any hz h1 (J := J) r (A ++ (x.text ++ z)) hJ4 (fun t ht => hw t (by simp [ht])) g (acc ++ [put A.size x]) (by omega)
    refine ⟨put A.size x :: m, ?_, by rw [List.map_cons, List.map_cons, e2]; rfl⟩
    rw [scanG, if_pos (by omega), ho]
    simp only
    rw [show (put A.size x).text = x.text from rfl, hbl, ← hA2, e1, List.append_assoc]
    rfl
theorem scanP_words {s : ByteArray} {l : List Tk} (h : scanP s = .ok l) : (∀ t ∈ l, Word t) ∧ total l ≤ s.size ∧ l.length ≤ total l := by
  have h0 : s.size ≤ 6000 := (scanP_ok h).1
  have hg : scanG s (s.size + 1) (runB blankB s 0) [] = .ok l := by
    rw [scanP, if_neg (by omega)] at h
    cases hl : scanG s (s.size + 1) (runB blankB s 0) [] with
    | ok l' => rw [hl] at h; cases h; rfl
    | error i => rw [hl] at h; cases h
  have hle := runB_le blankB s (i := 0) (by omega)
  obtain ⟨hw, ht⟩ := scanG_word _ _ _ _ hg (fun t ht => by cases ht) (by omega)
  have ht : total l ≤ 0 + (s.size - runB blankB s 0) := ht
  exact ⟨hw, by omega, word_len l hw⟩
theorem scan_back {P z : ByteArray} (hP : Blank P) (hz : Blank z) (h1 : 1 ≤ z.size) {l : List Tk} (hw : ∀ t ∈ l, Word t) (h6 : (P ++ joinS z l).size ≤ 6000) : ∃ m, scanP (P ++ joinS z l) = .ok m ∧ m.map tkey = l.map tkey := by
  have h0 : runB blankB (P ++ joinS z l) 0 = P.size := by
    refine runB_all _ _ (fun k hk => ?_) ?_
    · rw [Nat.zero_add]
      exact ⟨by rw [ByteArray.size_append]; omega, by rw [byteAt_left hk]; exact hP k hk⟩
    · rw [Nat.zero_add]; exact next_no hw
  obtain ⟨m, e1, e2⟩ := back_any hz h1 (J := P ++ joinS z l) l P rfl hw ((P ++ joinS z l).size + 1) [] (by omega)
  refine ⟨m, ?_, e2⟩
  rw [scanP, if_neg (by omega), h0, e1]; rfl
theorem blank_tab : Blank ⟨#[9]⟩ := fun k hk => by
  have : k = 0 := by have : k < 1 := hk; omega
  subst this; rfl
theorem blank_none : Blank ByteArray.empty := fun k hk => absurd hk (Nat.not_lt_zero k)
theorem blank_sp : Blank sp := fun k hk => by
  have hk : k < 2 := hk
  have : k = 0 ∨ k = 1 := by omega
  rcases this with rfl | rfl <;> rfl
theorem blank_cr : Blank ⟨#[13]⟩ := fun k hk => by
  have : k = 0 := by have : k < 1 := hk; omega
  subst this; rfl
end Go.Proofs.YthefnnkmpcgcmaaDoor

namespace Go.Proofs.YthefnnkmpcgcmaaDoor
open Go X
set_option maxHeartbeats 1000000
end Go.Proofs.YthefnnkmpcgcmaaDoor

