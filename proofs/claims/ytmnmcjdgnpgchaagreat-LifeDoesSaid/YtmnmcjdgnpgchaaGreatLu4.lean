/- Part 4 of 6 of what the claim needs: CdX, Kr, Kq, Na, Kz, Kf, Nb, Jx, Nc, Wb, Wp, Wc, Wd, We, Wf, Jy, Jz. -/
import Derived.Test.YtmnmcjdgnpgchaaGreatLu2
import Derived.Test.YtmnmcjdgnpgchaaGreatLu3
namespace Go.Proofs.YtmnmcjdgnpgchaaGreat
open Go X
set_option maxHeartbeats 1000000
theorem fault_a (σ : PH) (cs : List Value) (p : Pr) (hp : PrAt σ cs p) : CallsA Tryz.prog 9 #[.agg cs.toArray] σ [] (RetA fun v σ' Γ' => v = i64 (checkP p) ∧ σ = σ' ∧ Γ' = []) := by
  obtain ⟨vs, bs, rfl, hv, hb⟩ := hp
  obtain ⟨pv, cv, rfl, hvl, hvm⟩ := hv.shape
  obtain ⟨pb, cb, rfl, hbl, hbm⟩ := hb.shape
  obtain ⟨l, body⟩ := p
  simp only at hv hb hvl hbl ⊢
  have hlen : l.length ≤ maxLen := by omega
  simp only [maxLen] at hlen
  refine enterA1 Tryz.func9 rfl rfl rfl ?_; refine zS (zR ?_); refine zw rfl WrA.bx ?_
  rintro _ _ _ ⟨g1, rfl, rfl, rfl⟩
  refine yS ?_; refine zN (zT (zS (zS (zR (yV ?_))))); refine yB ?_; refine zO rfl (Rd.lenSlice (tyrow rfl) rfl rfl) ?_; refine zO rfl (Rd.gtr rfl rfl) ?_; refine zN (zT ?_); refine XA.condp rfl (fun h8 => ?_) (fun h8 => ?_)
  · refine zS ?_
    refine zR (yS ?_); refine zN (zT (XA.ret (DA.thn_ret ?_)))
    have hr : checkP ⟨l, body⟩ = 3 := by
      have : checkVars l = 3 := by rw [checkVars, if_pos (by omega)]
      rw [checkP, this, if_pos (by decide)]
    exact bodyA.ret (ResA.one rfl rfl) zE ⟨by rw [hr], rfl, rfl⟩
  have hcv : checkVars l = varsGo [] 0 l := by rw [checkVars, if_neg (by omega)]
  have hcp : ∀ c, varsGo [] 0 l = c → c ≠ 0 → checkP ⟨l, body⟩ = c := fun c h1 h2 => by rw [checkP, if_pos (by rw [hcv, h1]; exact h2), hcv, h1]
  refine XA.skip (zT (zS (zR (yS ?_)))); refine zN (zT (zS (zS (zR (yS ?_))))); refine zN (zT (XA.block ?_))
  refine XA.gen [(1, _), (2, _), (3, _), (4, _)] ⟨(by with_reducible (conv => lhs; whnf)), (by with_reducible (conv => lhs; whnf)), (by with_reducible (conv => lhs; whnf)), (by with_reducible (conv => lhs; whnf)), trivial⟩ (fun δ => ?_)
  dsimp only [List.foldl]
  refine XA.loop [(2, 6), (12, 60)] (fun q : Nat × Int => [(4, i64 q.1), (3, i64 q.2)]) (fun q σ' Γ' => σ = σ' ∧ q.1 ≤ l.length ∧ (0 ≤ q.2 ∧ q.2 ≤ 48 ∧ varsGo (l.take q.1) q.2 (l.drop q.1) = varsGo [] 0 l) ∧ Γ' = [blk g1 [.slice pv l.length cv, .slice pb body.length cb] 25]) (fun q => l.length - q.1) (0, 0) (by exact ⟨rfl, rfl, trivial⟩) (Δ0 := _) ?_ (⟨rfl, Nat.zero_le _, ⟨Int.le_refl _, (by decide), rfl⟩, rfl⟩) ?_
  · exact zE
  rintro ⟨k, n⟩ δ _ _ ⟨rfl, hk, ⟨hn0, hn1, hgo⟩, rfl⟩
  dsimp only [ovr, List.foldl]
  have hk : k ≤ l.length := hk
  have hn0 : 0 ≤ n := hn0
  have hn1 : n ≤ 48 := hn1
  have hgo : varsGo (l.take k) n (l.drop k) = varsGo [] 0 l := hgo
  refine zS (zS (zR (yA ?_))); refine yV ?_; refine yB ?_; refine zO rfl (Rd.lenSlice (tyrow rfl) rfl rfl) ?_; refine zO rfl (Rd.lss rfl rfl) ?_; refine zN (zT ?_); refine XA.condp rfl (fun hlt => ?_) (fun hlt => ?_)
  · have hlt : k < l.length := by omega
    obtain ⟨x, hx⟩ : ∃ x, l[k]? = some x := ⟨_, List.getElem?_eq_getElem hlt⟩
    obtain ⟨gg, o, row, rfl, ⟨rfl, ⟨hz0, hz1⟩, hnm⟩, hrl, hrow⟩ := hv.at hx
    rw [drop_get hx, varsGo] at hgo
    refine XA.skip (zT (zS (XA.block (zS (zR (yV ?_)))))); refine yB ?_; refine yA ?_; refine zO rfl (Rd.ixS rfl rfl) ?_; refine zO rfl (Rd.ldA rfl) ?_; refine zw rfl (WrA.alloc (tyrow rfl)) ?_
    rintro _ _ _ ⟨g5, rfl, rfl, rfl⟩
    refine zw rfl (WrA.st (tyrow rfl) rfl) ?_
    rintro _ _ _ ⟨rfl, rfl, rfl⟩
    refine zN (zT (zS (zS (zR (yV ?_))))); refine yB ?_; refine yC (rname_a σ x.name hnm) ?_
    cases hnk : nameOk x.name with
    | false =>
      rw [if_pos hnk] at hgo
      rw [hcp 8 hgo.symm (by decide)]
      refine zO rfl zJ ?_; refine zN (zT (yT rfl rfl (zS (zR (yS ?_))))); refine zN (zT (XA.ret (DA.thn_ret (DA.inb_ret (DA.thn_ret (DA.thn_ret (DA.inb_ret (DA.thn_ret ?_))))))))
      exact bodyA.ret (ResA.one rfl rfl) zE ⟨rfl, rfl, rfl⟩
    | true =>
      rw [if_neg (by simp [hnk])] at hgo
      refine zO rfl zJ ?_; refine zN (zT (yF rfl rfl (XA.skip (zT (zS (zS (zR (yS ?_)))))))); refine zN (zT (XA.block ?_))
      refine XA.loop [(2, 2), (6, 6), (28, 41)] (fun j : Nat => [(6, i64 j)]) (fun j σ' Γ' => σ = σ' ∧ j ≤ k ∧ (∀ (i : Nat) w, i < j → l[i]? = some w → w.name ≠ x.name) ∧ Γ' = [blk g5 [.string x.name, i64 x.size] 67, blk g1 [.slice (some ⟨gg, o, none⟩) l.length cv, .slice pb body.length cb] 25]) (fun j => k - j) 0 (by exact ⟨rfl, trivial⟩) (Δ0 := _) ?_ (⟨rfl, Nat.zero_le _, fun i w h => absurd h (Nat.not_lt_zero _), rfl⟩) ?_
      · exact zE
      rintro j δ2 _ _ ⟨rfl, hj, hall, rfl⟩
      dsimp only [ovr, List.foldl]
      refine zS (zS (zR (yA ?_))); refine yA ?_; refine zO rfl (Rd.lss rfl rfl) ?_; refine zN (zT ?_); refine XA.condp rfl (fun hjk => ?_) (fun hjk => ?_)
      · have hjk : j < k := by omega
        obtain ⟨y, hy⟩ : ∃ y, l[j]? = some y := ⟨_, List.getElem?_eq_getElem (by omega)⟩
        obtain ⟨gg', o', row', hgo', ⟨rfl, -, -⟩, hrl', hrow'⟩ := hv.at hy
        simp only [Option.some.injEq, Addr.mk.injEq, and_true] at hgo'
        obtain ⟨rfl, rfl⟩ := hgo'
        have r0 : PRow σ gg (o + j * 2) [.string y.name] := hrow'.sub (j := 0) rfl
        refine XA.skip (zT (zS (XA.block (zS ?_))))
        refine XA.draw (by kernel_rfl) _ _ [] [(0, .pu), (1, .rd), (2, .pu), (3, .pu), (4, .pu), (5, .rd), (6, .pu), (7, .rd), (8, .pu)] (by kernel_rfl) (PH.sub.refl _) (Ent.sel (R := blk g1 _ _) zL (Ent.sel (R := blk g5 _ _) zL (Ent.nil _))) ?_
        refine zu rfl rfl (Rd.fA rfl) ?_; refine XPA.rd rfl rfl Gd.free (Rd.ldC rfl (tyrow rfl) rfl) ?_; refine zu rfl rfl Rd.mv ?_; refine zu rfl rfl (Rd.ixS rfl rfl) ?_; refine zu rfl rfl (Rd.fA rfl) ?_; refine XPA.rd rfl rfl Gd.free (Rd.ldC rfl (tyrow rfl) rfl) ?_; refine zu rfl rfl (Rd.fA rfl) ?_
        refine XPA.rd rfl rfl Gd.free (Rd.ldC rfl (tyrow rfl) rfl) ?_; refine zu rfl rfl (Rd.eqls rfl rfl) ?_; refine XPA.nil ?_; refine zT ?_; refine XA.condp rfl (fun he => ?_) (fun he => ?_)
        · have hex : ∃ w ∈ l.take k, w.name = x.name := ⟨y, List.mem_iff_getElem?.2 ⟨j, by rw [List.getElem?_take, if_pos hjk]; exact hy⟩, he⟩
          rw [if_pos hex] at hgo
          rw [hcp 9 hgo.symm (by decide)]
          refine zS (zR (yS ?_)); refine zN (zT (XA.ret (DA.inb_ret (DA.thn_ret (DA.thn_ret (DA.inb_ret (DA.thn_ret (DA.inb_ret (DA.thn_ret (DA.thn_ret (DA.inb_ret (DA.thn_ret ?_))))))))))))
          exact bodyA.ret (ResA.one rfl rfl) zE ⟨rfl, rfl, rfl⟩
        have hnew : ∀ (i : Nat) w, i < j + 1 → l[i]? = some w → w.name ≠ x.name := fun i w hi hw => by
          rcases Nat.lt_or_ge i j with h | h
          · exact hall i w h hw
          · have : i = j := by omega
            subst this
            rw [hy] at hw; simp only [Option.some.injEq] at hw; subst hw; exact he
        refine XA.skip (DA.inb_normal (zT (zR (yA ?_)))); refine zO rfl zI ?_; refine yS ?_; refine zN (zT ?_)
        refine ⟨(Keep.upd (Keep.upd (Keep.upd (Keep.upd (Keep.upd (Keep.upd (Keep.upd (Keep.upd (Keep.upd (Keep.upd (Keep.upd (Keep.upd (Keep.upd (Keep.upd (Keep.upd (Keep.upd (Keep.hav (Keep.hav (Keep.hav (Keep.refl _ _) rfl) rfl) rfl) rfl) rfl) rfl) rfl) rfl) rfl) rfl) rfl) rfl) rfl) rfl) rfl) rfl) rfl) rfl) rfl), j + 1, _, zM, ?_, ⟨rfl, hjk, hnew, rfl⟩, (by omega)⟩
        · exact zE
      have hjk2 : j = k := by omega
      subst hjk2
      have hnex : ¬ ∃ w ∈ l.take j, w.name = x.name := fun ⟨w, hw, e⟩ => by
        obtain ⟨i, hi⟩ := List.mem_iff_getElem?.1 hw
        rw [List.getElem?_take] at hi
        split at hi
        · exact hall i w (by assumption) hi e
        · cases hi
      rw [if_neg hnex] at hgo
      by_cases hz : x.size < 1
      · rw [if_pos (.inl hz)] at hgo
        rw [hcp 1 hgo.symm (by decide)]
        refine XA.exit (DA.thn_exit (DA.thn_exit (DA.inb_same (zT (zS (zS (zR (yV ?_)))))))); refine yB ?_; refine zO rfl (Rd.lss rfl rfl) ?_; refine yA ?_
        first | refine gV ?_ | refine zH ?_
        first | refine gB ?_ | refine zH ?_
        first | (refine zG ?_; refine zO rfl (Rd.gtr rfl rfl) ?_) | refine zH ?_
        refine zO rfl zP ?_; refine yA ?_
        first | refine gA ?_ | refine zH ?_
        first | refine gV ?_ | refine zH ?_
        first | refine gB ?_ | refine zH ?_
        first | (refine zG ?_; refine zO rfl zI ?_) | refine zH ?_
        first | (refine zG ?_; refine zO rfl (Rd.gtr rfl rfl) ?_) | refine zH ?_
        refine zO rfl zP ?_; refine zN (zT (yT rfl rfl (zS (zR (yS ?_))))); refine zN (zT (XA.ret (DA.thn_ret (DA.inb_ret (DA.thn_ret (DA.thn_ret (DA.inb_ret (DA.thn_ret ?_))))))))
        exact bodyA.ret (ResA.one rfl rfl) zE ⟨rfl, rfl, rfl⟩
      by_cases hz3 : 48 < x.size
      · rw [if_pos (.inr (by omega))] at hgo
        rw [hcp 1 hgo.symm (by decide)]
        refine XA.exit (DA.thn_exit (DA.thn_exit (DA.inb_same (zT (zS (zS (zR (yV ?_)))))))); refine yB ?_; refine zO rfl (Rd.lss rfl rfl) ?_; refine yA ?_
        first | refine gV ?_ | refine zH ?_
        first | refine gB ?_ | refine zH ?_
        first | (refine zG ?_; refine zO rfl (Rd.gtr rfl rfl) ?_) | refine zH ?_
        refine zO rfl zP ?_; refine yA ?_
        first | refine gA ?_ | refine zH ?_
        first | refine gV ?_ | refine zH ?_
        first | refine gB ?_ | refine zH ?_
        first | (refine zG ?_; refine zO rfl zI ?_) | refine zH ?_
        first | (refine zG ?_; refine zO rfl (Rd.gtr rfl rfl) ?_) | refine zH ?_
        refine zO rfl zP ?_; refine zN (zT (yT rfl rfl (zS (zR (yS ?_))))); refine zN (zT (XA.ret (DA.thn_ret (DA.inb_ret (DA.thn_ret (DA.thn_ret (DA.inb_ret (DA.thn_ret ?_))))))))
        exact bodyA.ret (ResA.one rfl rfl) zE ⟨rfl, rfl, rfl⟩
      refine XA.exit (DA.thn_exit (DA.thn_exit (DA.inb_same (zT (zS (zS (zR (yV ?_)))))))); refine yB ?_; refine zO rfl (Rd.lss rfl rfl) ?_; refine yA ?_
      first | refine gV ?_ | refine zH ?_
      first | refine gB ?_ | refine zH ?_
      first | (refine zG ?_; refine zO rfl (Rd.gtr rfl rfl) ?_) | refine zH ?_
      refine zO rfl zP ?_; refine yA ?_
      first | refine gA ?_ | refine zH ?_
      first | refine gV ?_ | refine zH ?_
      first | refine gB ?_ | refine zH ?_
      first | (refine zG ?_; refine zO rfl zI ?_) | refine zH ?_
      first | (refine zG ?_; refine zO rfl (Rd.gtr rfl rfl) ?_) | refine zH ?_
      refine zO rfl zP ?_; refine zN (zT ?_); refine XA.condp rfl (fun hz2 => ?_) (fun hz2 => ?_)
      · rw [if_pos (.inr (by omega))] at hgo
        rw [hcp 1 hgo.symm (by decide)]
        refine zS (zR (yS ?_)); refine zN (zT (XA.ret (DA.thn_ret (DA.inb_ret (DA.thn_ret (DA.thn_ret (DA.inb_ret (DA.thn_ret ?_))))))))
        exact bodyA.ret (ResA.one rfl rfl) zE ⟨rfl, rfl, rfl⟩
      rw [if_neg (by omega)] at hgo
      refine XA.skip (zT (zR (yA ?_))); refine yV ?_; refine yB ?_; refine zO rfl zI ?_; refine yS ?_; refine zN (DA.inb_normal (zT (zR (yA ?_)))); refine zO rfl zI ?_; refine yS ?_; refine zN (zT ?_)
      refine ⟨(Keep.upd (Keep.upd (Keep.upd (Keep.upd (Keep.upd (Keep.upd (Keep.upd (Keep.upd (Keep.upd (Keep.upd (Keep.upd (Keep.upd (Keep.upd (Keep.upd (Keep.upd (Keep.upd (Keep.upd (Keep.upd (Keep.upd (Keep.upd (Keep.upd (Keep.upd (Keep.upd (Keep.upd (Keep.upd (Keep.upd (Keep.upd (Keep.hav (Keep.hav (Keep.hav (Keep.upd (Keep.upd (Keep.updO (Keep.upd (Keep.upd (Keep.updN (Keep.updO (Keep.upd (Keep.upd (Keep.upd (Keep.upd (Keep.upd (Keep.upd (Keep.upd (Keep.upd (Keep.upd (Keep.upd (Keep.upd (Keep.upd (Keep.hav (Keep.hav (Keep.refl _ _) rfl) rfl) rfl) rfl) rfl) rfl) rfl) rfl) rfl) rfl) rfl) rfl) rfl) rfl) rfl)) rfl) rfl) rfl) rfl) rfl) rfl) rfl) rfl) rfl) rfl) rfl) rfl) rfl) rfl) rfl) rfl) rfl) rfl) rfl) rfl) rfl) rfl) rfl) rfl) rfl) rfl) rfl) rfl) rfl) rfl) rfl) rfl) rfl) rfl) rfl), (j + 1, n + x.size), _, zM, ?_, ⟨rfl, hlt, ⟨by simp only; omega, by simp only; omega, by rw [takeS hx]; exact hgo⟩, rfl⟩, (by simp only; omega)⟩
      · exact zE
  have hkn : k = l.length := by omega
  subst hkn
  rw [List.drop_length, varsGo] at hgo
  have hcp2 : checkP ⟨l, body⟩ = (stsE l.length 0 body (.ok 150)).code := by rw [checkP, if_neg (by rw [hcv, ← hgo]; decide)]
  rw [hcp2]
  refine XA.exit (DA.thn_exit (DA.thn_exit (DA.inb_same (zT (zS (zR (zO rfl (Rd.ldA rfl) ?_))))))); refine zO rfl (Rd.bl (fun _ _ => tyrow) rfl rfl rfl) ?_; refine zw rfl WrA.bx ?_
  rintro _ _ _ ⟨g63, rfl, rfl, rfl⟩
  refine yS ?_; refine zN (zT (zS (zR (yA ?_)))); refine yV ?_; refine yB ?_; refine XOA.ent (Ent.foldC (Θ := [blk g63 _ _]) zD (Look.mkO (l := 150) rfl) (Ent.refl _)) ?_
  refine yC (rstmts_a σ body _ g63 pv l.length cv _ (.ok 150) 0 hb (fun l hl => by simp only [Except.ok.injEq] at hl; omega) (by decide) ⟨by decide, fun _ => by decide⟩) ?_; refine zN (zT (zS (zR (yA ?_))))
  cases hst : stsE l.length 0 body (.ok 150) with
  | ok a =>
    first | refine XA.opn (R := Look g63 _ _ (.ok a)) zL (Look.okO) ?_ | refine XOA.opn (R := Look g63 _ _ (.ok a)) zL (Look.okO) ?_ | refine DA.opn (R := Look g63 _ _ (.ok a)) zL (Look.okO) ?_
    rintro ⟨⟩ -
    first | refine XA.cl ?_ | refine XOA.cl ?_ | refine DA.cl ?_
    refine zO rfl (Rd.nilCheck rfl) ?_; refine yV ?_; refine yB ?_; refine yS ?_; refine zN (zT (XA.ret ?_))
    exact bodyA.ret (ResA.one rfl rfl) (Ent.nil _) ⟨rfl, rfl, rfl⟩
  | error c =>
    first | refine XA.opn (R := Look g63 _ _ (.error c)) zL (Look.errO) ?_ | refine XOA.opn (R := Look g63 _ _ (.error c)) zL (Look.errO) ?_ | refine DA.opn (R := Look g63 _ _ (.error c)) zL (Look.errO) ?_
    rintro n2 h0
    first | refine XA.cl ?_ | refine XOA.cl ?_ | refine DA.cl ?_
    refine zO rfl (Rd.nilCheck rfl) ?_; refine yV ?_; refine yB ?_; refine yS ?_; refine zN (zT (XA.ret ?_))
    exact bodyA.ret (ResA.one rfl rfl) (Ent.nil _) ⟨rfl, rfl, rfl⟩
theorem rcell_a (σ : PH) (cs : List Value) (p : Pr) (v : Int) (hp : PrAt σ cs p) (hz : ∀ x ∈ p.vars, 0 ≤ x.size ∧ x.size ≤ 1000) (hl : p.vars.length ≤ 1000) :
    CallsA Tryz.prog 30 #[.agg cs.toArray, i64 v] σ [] (RetA fun r σ' Γ' => r = i64 (cellOf p.vars v) ∧ σ = σ' ∧ Γ' = []) := by
  obtain ⟨vs, bs, rfl, hv, hb⟩ := hp
  obtain ⟨pv, cv, rfl, hvl, hvm⟩ := hv.shape
  obtain ⟨m, hm⟩ : ∃ m, m = min v.toNat p.vars.length := ⟨_, rfl⟩
  have hcell : cellOf p.vars v = sizes (p.vars.take m) := by rw [cellOf, hm, ← List.take_eq_take_min]
  rw [hcell]
  refine enterA2 Tryz.func30 rfl rfl rfl ?_; refine zS (zR ?_); refine zw rfl WrA.bx ?_
  rintro _ _ _ ⟨g2, rfl, rfl, rfl⟩
  refine yS ?_; refine zN (zT (zS (zR (yS ?_)))); refine zN (zT (zS (zS (zR (yS ?_))))); refine zN (zT (XA.block ?_))
  refine XA.gen [(1, _), (2, _), (4, _), (5, _), (6, _)] ⟨(by with_reducible (conv => lhs; whnf)), (by with_reducible (conv => lhs; whnf)), (by with_reducible (conv => lhs; whnf)), (by with_reducible (conv => lhs; whnf)), (by with_reducible (conv => lhs; whnf)), trivial⟩ (fun δ => ?_)
  dsimp only [List.foldl]
  refine XA.loop [(5, 26)] (fun q : Nat × Int => [(6, i64 q.1), (5, i64 q.2)]) (fun q σ' Γ' => σ = σ' ∧ q.1 ≤ m ∧ q.2 = sizes (p.vars.take q.1) ∧ Γ' = [blk g2 [.slice pv p.vars.length cv, bs] 25]) (fun q => m - q.1) (0, 0) (by exact ⟨rfl, rfl, trivial⟩) (Δ0 := _) ?_ (⟨rfl, Nat.zero_le _, rfl, rfl⟩) ?_
  · exact zE
  rintro ⟨k, n⟩ δ _ _ ⟨rfl, hk, hn, rfl⟩
  dsimp only [ovr, List.foldl]
  have hk : k ≤ m := hk
  have hn : n = sizes (p.vars.take k) := hn
  have hsb := sizes_bound (p.vars.take k) (fun y hy => hz y (List.mem_of_mem_take hy))
  have hkl : (p.vars.take k).length = k := by rw [List.length_take]; omega
  by_cases h1 : (k : Int) < v
  · by_cases h2 : k < p.vars.length
    · obtain ⟨x, hx⟩ : ∃ x, p.vars[k]? = some x := ⟨_, List.getElem?_eq_getElem h2⟩
      obtain ⟨gg, o, row, rfl, ⟨rfl, ⟨hz0, hz1⟩, hnm⟩, hrl, hrow⟩ := hv.at hx
      have r1 : PRow σ gg (o + k * 2 + 1) [i64 x.size] := hrow.sub (j := 1) rfl
      have e1 := sizes_take p.vars k x hx
      have hxz := hz x (List.mem_of_getElem? hx)
      refine zS (zS (zR (yA ?_))); refine yA ?_; refine zO rfl (Rd.lss rfl rfl) ?_; refine yA ?_
      first | refine gA ?_ | refine zH ?_
      first | refine gV ?_ | refine zH ?_
      first | refine gB ?_ | refine zH ?_
      first | (refine zG ?_; refine zO rfl (Rd.lenSlice (tyrow rfl) rfl rfl) ?_) | refine zH ?_
      first | (refine zG ?_; refine zO rfl (Rd.lss rfl rfl) ?_) | refine zH ?_
      refine zO rfl zP ?_; refine zN (zT (XA.condT rfl zY ?_)); refine XA.skip (zT (zS (XA.block (zR (yA ?_))))); refine yV ?_; refine yB ?_; refine yA ?_; refine zO rfl (Rd.ixS rfl rfl) ?_; refine yV ?_; refine yB ?_; refine zO rfl zI ?_; refine yS ?_; refine zN (DA.inb_normal (zT (zR (yA ?_))))
      refine zO rfl zI ?_; refine yS ?_; refine zN (zT ?_)
      refine ⟨(Keep.upd (Keep.upd (Keep.upd (Keep.upd (Keep.upd (Keep.upd (Keep.upd (Keep.upd (Keep.upd (Keep.upd (Keep.upd (Keep.upd (Keep.upd (Keep.upd (Keep.upd (Keep.upd (Keep.upd (Keep.upd (Keep.upd (Keep.upd (Keep.upd (Keep.upd (Keep.upd (Keep.upd (Keep.hav (Keep.refl _ _) rfl) rfl) rfl) rfl) rfl) rfl) rfl) rfl) rfl) rfl) rfl) rfl) rfl) rfl) rfl) rfl) rfl) rfl) rfl) rfl) rfl) rfl) rfl) rfl) rfl), (k + 1, n + x.size), _, zM, ?_, ⟨rfl, by simp only; omega, by simp only; omega, rfl⟩, (by simp only; omega)⟩
      · exact zE
    · have hkm : k = m := by omega
      subst hkm
      refine zS (zS (zR (yA ?_))); refine yA ?_; refine zO rfl (Rd.lss rfl rfl) ?_; refine yA ?_
      first | refine gA ?_ | refine zH ?_
      first | refine gV ?_ | refine zH ?_
      first | refine gB ?_ | refine zH ?_
      first | (refine zG ?_; refine zO rfl (Rd.lenSlice (tyrow rfl) rfl rfl) ?_) | refine zH ?_
      first | (refine zG ?_; refine zO rfl (Rd.lss rfl rfl) ?_) | refine zH ?_
      refine zO rfl zP ?_; refine zN (zT (XA.condF rfl zY ?_)); refine XA.exit (DA.thn_exit (DA.thn_exit (DA.inb_same (zT (zS (zR (yA ?_))))))); refine yS ?_; refine zN (zT (XA.ret ?_))
      exact bodyA.ret (ResA.one rfl rfl) (Ent.nil _) ⟨by rw [← hn], rfl, rfl⟩
  · have hkm : k = m := by omega
    subst hkm
    refine zS (zS (zR (yA ?_))); refine yA ?_; refine zO rfl (Rd.lss rfl rfl) ?_; refine yA ?_
    first | refine gA ?_ | refine zH ?_
    first | refine gV ?_ | refine zH ?_
    first | refine gB ?_ | refine zH ?_
    first | (refine zG ?_; refine zO rfl (Rd.lenSlice (tyrow rfl) rfl rfl) ?_) | refine zH ?_
    first | (refine zG ?_; refine zO rfl (Rd.lss rfl rfl) ?_) | refine zH ?_
    refine zO rfl zP ?_; refine zN (zT (XA.condF rfl zY ?_)); refine XA.exit (DA.thn_exit (DA.thn_exit (DA.inb_same (zT (zS (zR (yA ?_))))))); refine yS ?_; refine zN (zT (XA.ret ?_))
    exact bodyA.ret (ResA.one rfl rfl) (Ent.nil _) ⟨by rw [← hn], rfl, rfl⟩
end Go.Proofs.YtmnmcjdgnpgchaaGreat

namespace Go.Proofs.YtmnmcjdgnpgchaaGreat
open Go X
set_option maxHeartbeats 1000000
theorem X.CallsA.lstOut {P : Program} {σ : PH} {Γ : List HP} {f : FuncId} {vs : Array Value} {e sz n : Nat} {xs : List Value} (hc : CallsA P f vs σ Γ (RetA fun v σ' Γ' => ∃ p c, v = .slice p n c ∧ σ.sub σ' ∧ Γ' = [lst e sz (.slice p n c) n xs])) :
    CallsA P f vs σ Γ (RetA fun v σ' Γ' => ∃ p c, v = .slice p n c ∧ σ.sub σ' ∧ (n ≤ c ∧ c ≤ maxLen ∧ xs.length = n * sz ∧ (0 < n → ∃ g o, p = some ⟨g, o, none⟩ ∧ PRow σ' g o xs)) ∧ Γ' = []) :=
  ⟨hc.1, fun fr h hh => (hc.2 fr h hh).mono fun e' h' ⟨σ', Γ', a, b⟩ => by
    cases e' with
    | returned v =>
      obtain ⟨p, c, rfl, hs, rfl⟩ := a
      obtain ⟨σ2, ⟨⟩, a, b, c⟩ := holds_freeze' b .head lst_frz lst_frz_mono
      exact ⟨σ2, _, ⟨p, _, rfl, hs.trans b, a, rfl⟩, c⟩
    | _ => exact a.elim⟩
theorem insC_ones (l : List In) : ones (insC l) := fun v hv => by
  simp only [insC, List.mem_flatten, List.mem_map] at hv
  obtain ⟨r, ⟨i, -, rfl⟩, h⟩ := hv
  exact (show ones (inC i) from ones_lit rfl) v h
def RExI (σ : PH) (pr : Pr) (x : Ex) : Prop := ∀ (cs : List Value) (pv : Option Addr) (cv : Nat) (bs : Value),
  PrAt σ [.slice pv pr.vars.length cv, bs] pr → ExAt σ cs x → ExV pr.vars.length x → exN x ≤ 100000 →
  CallsA Tryz.prog 101 #[.agg #[.slice pv pr.vars.length cv, bs], .agg cs.toArray] σ []
    (RetA fun v σ' Γ' => ∃ p c, v = .slice p (exCode pr.vars x).length c ∧ σ.sub σ' ∧ Γ' = [lst 122 4 (.slice p (exCode pr.vars x).length c) (exCode pr.vars x).length (insC (exCode pr.vars x))])
theorem rexpr_i (pr : Pr) (hz : ∀ x ∈ pr.vars, 0 ≤ x.size ∧ x.size ≤ 1000) (hvl : pr.vars.length ≤ 1000) (x : Ex) : ∀ σ, RExI σ pr x := by
  refine Ex.ind (P := fun x => ∀ σ, RExI σ pr x) ?_ x
  intro op v k l ih σ cs pv cv bs hp hx hV hN
  obtain ⟨pl, cl, rfl, ho, hv, hk, hl⟩ := hx.inv
  simp only [Ex.op, Ex.v, Ex.n, Ex.l] at ho hv hk hl ⊢
  clear hx
  rw [ExV] at hV
  obtain ⟨hop, hlp, hvr, -, hsV⟩ := hV
  rw [exN] at hN
  have hlen : l.length ≤ 100000 := by have := exsN_len l; omega
  refine enterA2 Tryz.func101 rfl rfl rfl ?_; refine zS (zR ?_); refine zw rfl WrA.bx ?_
  rintro _ _ _ ⟨g2, rfl, rfl, rfl⟩
  refine zw rfl WrA.bx ?_
  rintro _ _ _ ⟨g3, rfl, rfl, rfl⟩
  refine yS ?_; refine zN (zT (zS (zR (yS ?_)))); refine zN (zT (zS (zS (zR (yS ?_))))); refine zN (zT (XA.block ?_))
  refine XA.gen [(2, _), (3, _), (4, _), (5, _), (6, _)] ⟨(by with_reducible (conv => lhs; whnf)), (by with_reducible (conv => lhs; whnf)), (by with_reducible (conv => lhs; whnf)), (by with_reducible (conv => lhs; whnf)), (by with_reducible (conv => lhs; whnf)), trivial⟩ (fun δ => ?_)
  dsimp only [List.foldl]
  refine XA.loop [(5, 6), (8, 23)] (fun q : Nat × (List In × (Option Addr × Nat)) => [(6, i64 q.1), (5, .slice q.2.2.1 q.2.1.length q.2.2.2)]) (fun q σ' Γ' => σ.sub σ' ∧ q.1 ≤ l.length ∧ q.2.1 = exsCode pr.vars (l.take q.1) ∧ Γ' = [lst 122 4 (.slice q.2.2.1 q.2.1.length q.2.2.2) q.2.1.length (insC q.2.1), blk g2 [.slice pv pr.vars.length cv, bs] 25, blk g3 [i64 op, i64 v, i64 k, .slice pl l.length cl] 93]) (fun q => l.length - q.1) (0, ([], (none, 0))) (by exact ⟨rfl, rfl, trivial⟩) (Δ0 := _) ?_ (⟨.refl _, Nat.zero_le _, by simp [exsCode], rfl⟩) ?_
  · exact zE
  rintro ⟨i, M, p', c'⟩ δ σ1 _ ⟨hs1, hi, hM, rfl⟩
  dsimp only [ovr, List.foldl]
  have hi : i ≤ l.length := hi
  have hM : M = exsCode pr.vars (l.take i) := hM
  have hMl : M.length + exsN (l.drop i) + 1 ≤ 100000 := by
    have h2 := exsN_app (l.take i) (l.drop i); rw [List.take_append_drop] at h2
    rw [hM, exsCode_len]; omega
  refine zS (zS (zR (yA ?_))); refine yV ?_; refine yB ?_; refine zO rfl (Rd.lenSlice (tyrow rfl) rfl rfl) ?_; refine zO rfl (Rd.lss rfl rfl) ?_; refine zN (zT ?_); refine XA.condp rfl (fun hlt => ?_) (fun hlt => ?_)
  · have hlt : i < l.length := by omega
    obtain ⟨x', hx'⟩ : ∃ x', l[i]? = some x' := ⟨_, List.getElem?_eq_getElem hlt⟩
    have hl1 := hl.mono hs1 (fun _ _ h => h.mono hs1)
    obtain ⟨g, o, row, rfl, hrx, hrl, hrow⟩ := hl1.at hx'
    have hmem := List.mem_of_getElem? hx'
    have hone := hrx.ones
    have hdx : l.drop i = x' :: l.drop (i + 1) := drop_get hx'
    have hNx : exN x' ≤ exsN (l.drop i) := exsN_mem (by rw [hdx]; simp)
    have hE := exCode_len pr.vars x'
    refine XA.skip (zT (zS (XA.block ?_)))
    refine XA.draw (by kernel_rfl) _ _ [7, 8] [(0, .pu), (1, .rd), (2, .pu), (3, .rd), (4, .pu), (5, .pu), (6, .rd), (7, .wr), (8, .wr), (9, .pu)] (by kernel_rfl) (PH.sub.refl _) (Ent.sel (R := blk g2 _ _) zL (Ent.sel (R := blk g3 _ _) zL (Ent.nil _))) ?_
    refine zu rfl rfl Rd.mv ?_; refine XPA.rd rfl rfl Gd.free (Rd.ldA rfl) ?_; refine zu rfl rfl (Rd.fA rfl) ?_; refine XPA.rd rfl rfl Gd.free (Rd.ldC rfl (tyrow rfl) rfl) ?_; refine zu rfl rfl Rd.mv ?_; refine zu rfl rfl (Rd.ixS rfl rfl) ?_; refine XPA.rd rfl rfl Gd.free (Rd.ldA rfl) ?_
    refine XPA.wrZ0 rfl rfl Gd.free (by kernel_rfl) (WrA.cE ((ih x' hmem σ1 row pv cv bs (hp.mono hs1) hrx (hsV.mem x' hmem) (by omega)).lstOut) rfl) ?_
    rintro _ σ2 _ ⟨_, ⟨p2, c2, rfl, hs2, hf2, rfl⟩, rfl⟩
    refine XPA.cl ?_
    refine XPA.wrZ0 rfl rfl Gd.free (by kernel_rfl) (WrA.appP (tyrow rfl) rfl (tyrow rfl) rfl rfl zL rfl hf2 rfl (insC_ones _) (by simp only [maxLen]; omega) (by simp only []; omega) List.length_append (insC_app _ _)) ?_
    rintro _ _ _ ⟨p8, c8, rfl, rfl, rfl⟩
    refine zu rfl rfl Rd.asg ?_; refine XPA.nil ?_; refine DA.inb_normal (zT (zR (yA ?_))); refine zO rfl zI ?_; refine yS ?_; refine zN (zT ?_)
    refine ⟨(Keep.upd (Keep.upd (Keep.upd (Keep.upd (Keep.updO (Keep.updO (Keep.upd (Keep.upd (Keep.upd (Keep.upd (Keep.upd (Keep.upd (Keep.upd (Keep.upd (Keep.upd (Keep.upd (Keep.upd (Keep.upd (Keep.upd (Keep.upd (Keep.hav (Keep.hav (Keep.refl _ _) rfl) rfl) rfl) rfl) rfl) rfl) rfl) rfl) rfl) rfl) rfl) rfl) rfl) rfl) rfl) rfl) rfl) rfl) rfl) rfl) rfl) rfl), (i + 1, (M ++ exCode pr.vars x', (p8, c8))), _, zM, ?_, ⟨hs1.trans hs2, hlt, by simp only; rw [hM, exsCode_snoc _ hx'], rfl⟩, (by simp only; omega)⟩
    · exact zE
  have hil : i = l.length := by omega
  subst hil
  rw [List.take_length] at hM
  have hfin : exCode pr.vars (.mk op v k l) = M ++ [opIn pr.vars op v k] := by rw [hM, exCode]
  rw [hfin]
  simp only [List.length_append, List.length_singleton, insC_snoc]
  by_cases h2 : op = 2
  · subst h2
    have hop2 : opIn pr.vars 2 v k = ⟨2, cellOf pr.vars v, 0, k⟩ := rfl
    rw [hop2]
    refine XA.exit (DA.thn_exit (DA.thn_exit (DA.inb_same (zT (zS (zR (yV ?_))))))); refine yB ?_; refine yV ?_; refine yB ?_; refine zO rfl (Rd.bl (fun _ _ => tyrow) rfl rfl rfl) ?_; refine zw rfl (WrA.alloc (tyrow rfl)) ?_
    rintro _ _ _ ⟨g7, rfl, rfl, rfl⟩
    refine zw rfl (WrA.st (tyrow rfl) rfl) ?_
    rintro _ _ _ ⟨rfl, rfl, rfl⟩
    refine zN (zT (zS (zS (zR (yV ?_))))); refine yB ?_; refine yE ?_; refine yA ?_
    first | refine gV ?_ | refine zH ?_
    first | refine gB ?_ | refine zH ?_
    first | refine gE ?_ | refine zH ?_
    refine zO rfl zP ?_; refine zN (zT (yT rfl rfl (zR (zO rfl (Rd.ldA rfl) ?_)))); refine yV ?_; refine yB ?_; refine yC (rcell_a σ1 _ pr v (hp.mono hs1) hz hvl) ?_; refine yV ?_; refine zw rfl (WrA.st (tyrow rfl) rfl) ?_
    rintro _ _ _ ⟨rfl, rfl, rfl⟩
    refine zN (zT (zS (zS (zR (yV ?_))))); refine yB ?_; refine yE ?_; refine zN (zT (yF rfl rfl (XA.skip (zT (zS (zR (yA ?_))))))); refine zO rfl (Rd.ldA rfl) ?_; refine zw rfl (WrA.bs1 (tyrow rfl) rfl (tyrow rfl)) ?_
    rintro _ _ _ ⟨g55, rfl, rfl, rfl⟩
    refine zw rfl (WrA.ap1 (tyrow rfl) rfl (tyrow rfl) rfl rfl rfl) ?_
    rintro _ _ _ ⟨p56, c56, rfl, rfl, rfl⟩
    refine yS ?_; refine zN (zT (XA.ret ?_))
    exact bodyA.ret (ResA.one rfl rfl) zE ⟨_, _, rfl, hs1, rfl⟩
  · by_cases h3 : op = 3
    · subst h3
      obtain ⟨hv0, hv1⟩ := hvr (.inr rfl)
      obtain ⟨vx, hvx⟩ : ∃ vx, pr.vars[v.toNat]? = some vx := ⟨_, List.getElem?_eq_getElem (by omega)⟩
      have hop3 : opIn pr.vars 3 v k = ⟨3, cellOf pr.vars v, vx.size, k⟩ := by rw [opIn, sizeV, hvx]; rfl
      rw [hop3]
      have hp0 := hp.mono hs1
      obtain ⟨vs', bs', heq, hpv, hpb⟩ := hp.mono hs1
      simp only [List.cons.injEq, and_true] at heq
      obtain ⟨rfl, rfl⟩ := heq
      obtain ⟨gg, oo, rowv, rfl, ⟨rfl, ⟨hz0, hz1⟩, hnm⟩, hrl, hrow⟩ := hpv.at hvx
      have r1 : PRow σ1 gg (oo + v.toNat * 2 + 1) [i64 vx.size] := hrow.sub (j := 1) rfl
      refine XA.exit (DA.thn_exit (DA.thn_exit (DA.inb_same (zT (zS (zR (yV ?_))))))); refine yB ?_; refine yV ?_; refine yB ?_; refine zO rfl (Rd.bl (fun _ _ => tyrow) rfl rfl rfl) ?_; refine zw rfl (WrA.alloc (tyrow rfl)) ?_
      rintro _ _ _ ⟨g7, rfl, rfl, rfl⟩
      refine zw rfl (WrA.st (tyrow rfl) rfl) ?_
      rintro _ _ _ ⟨rfl, rfl, rfl⟩
      refine zN (zT (zS (zS (zR (yV ?_))))); refine yB ?_; refine yE ?_; refine yA ?_
      first | refine gV ?_ | refine zH ?_
      first | refine gB ?_ | refine zH ?_
      first | refine gE ?_ | refine zH ?_
      refine zO rfl zP ?_; refine zN (zT (yT rfl rfl (zR (zO rfl (Rd.ldA rfl) ?_)))); refine yV ?_; refine yB ?_; refine yC (rcell_a σ1 _ pr v hp0 hz hvl) ?_; refine yV ?_; refine zw rfl (WrA.st (tyrow rfl) rfl) ?_
      rintro _ _ _ ⟨rfl, rfl, rfl⟩
      refine zN (zT (zS (zS (zR (yV ?_))))); refine yB ?_; refine yE ?_; refine zN (zT (yT rfl rfl (zR (yV ?_)))); refine yB ?_; refine yV ?_; refine yB ?_; refine zO rfl (Rd.ixS rfl rfl) ?_; refine yV ?_; refine yB ?_; refine yV ?_; refine zw rfl (WrA.st (tyrow rfl) rfl) ?_
      rintro _ _ _ ⟨rfl, rfl, rfl⟩
      refine zN (zT (zS (zR (yA ?_)))); refine zO rfl (Rd.ldA rfl) ?_; refine zw rfl (WrA.bs1 (tyrow rfl) rfl (tyrow rfl)) ?_
      rintro _ _ _ ⟨g55, rfl, rfl, rfl⟩
      refine zw rfl (WrA.ap1 (tyrow rfl) rfl (tyrow rfl) rfl rfl rfl) ?_
      rintro _ _ _ ⟨p56, c56, rfl, rfl, rfl⟩
      refine yS ?_; refine zN (zT (XA.ret ?_))
      exact bodyA.ret (ResA.one rfl rfl) zE ⟨_, _, rfl, hs1, rfl⟩
    · have hop4 : opIn pr.vars op v k = ⟨op, 0, 0, k⟩ := by rw [opIn, if_neg (by omega), if_neg h3]
      rw [hop4]
      refine XA.exit (DA.thn_exit (DA.thn_exit (DA.inb_same (zT (zS (zR (yV ?_))))))); refine yB ?_; refine yV ?_; refine yB ?_; refine zO rfl (Rd.bl (fun _ _ => tyrow) rfl rfl rfl) ?_; refine zw rfl (WrA.alloc (tyrow rfl)) ?_
      rintro _ _ _ ⟨g7, rfl, rfl, rfl⟩
      refine zw rfl (WrA.st (tyrow rfl) rfl) ?_
      rintro _ _ _ ⟨rfl, rfl, rfl⟩
      refine zN (zT (zS (zS (zR (yV ?_))))); refine yB ?_; refine yE ?_; refine yA ?_
      first | refine gV ?_ | refine zH ?_
      first | refine gB ?_ | refine zH ?_
      first | refine gE ?_ | refine zH ?_
      refine zO rfl zP ?_; refine zN (zT (XA.condF rfl (decide_eq_false h3) (XA.skip (zT (zS (zS (zR (yV ?_)))))))); refine yB ?_; refine yE ?_; refine zN (zT (XA.condF rfl (decide_eq_false h3) (XA.skip (zT (zS (zR (yA ?_))))))); refine zO rfl (Rd.ldA rfl) ?_
      refine zw rfl (WrA.bs1 (tyrow rfl) rfl (tyrow rfl)) ?_
      rintro _ _ _ ⟨g55, rfl, rfl, rfl⟩
      refine zw rfl (WrA.ap1 (tyrow rfl) rfl (tyrow rfl) rfl rfl rfl) ?_
      rintro _ _ _ ⟨p56, c56, rfl, rfl, rfl⟩
      refine yS ?_; refine zN (zT (XA.ret ?_))
      exact bodyA.ret (ResA.one rfl rfl) zE ⟨_, _, rfl, hs1, rfl⟩
end Go.Proofs.YtmnmcjdgnpgchaaGreat

namespace Go.Proofs.YtmnmcjdgnpgchaaGreat
open Go X
set_option maxHeartbeats 1000000
def RStI (pr : Pr) (x : St) : Prop := ∀ (σ : PH) (cs : List Value) (pv : Option Addr) (cv : Nat) (bs : Value) (k : Nat),
  PrAt σ [.slice pv pr.vars.length cv, bs] pr → StAt σ cs x → StV pr.vars.length x → k + stN x ≤ 100000 →
  CallsA Tryz.prog 79 #[.agg #[.slice pv pr.vars.length cv, bs], .agg cs.toArray, i64 k] σ []
    (RetA fun v σ' Γ' => ∃ p c, v = .slice p (stCode pr.vars x k).length c ∧ σ.sub σ' ∧ Γ' = [lst 122 4 (.slice p (stCode pr.vars x k).length c) (stCode pr.vars x k).length (insC (stCode pr.vars x k))])
theorem rlist_i (pr : Pr) (l : List St) (ih : ∀ x ∈ l, RStI pr x) (σ : PH) (sl : Value) (pv : Option Addr) (cv : Nat) (bs : Value) (k : Nat)
    (hp : PrAt σ [.slice pv pr.vars.length cv, bs] pr) (hl : PSl 12 StAt σ sl l) (hsV : StsV pr.vars.length l) (hN : k + stsN l ≤ 100000) :
    CallsA Tryz.prog 58 #[.agg #[.slice pv pr.vars.length cv, bs], sl, i64 k] σ []
      (RetA fun v σ' Γ' => ∃ p c, v = .slice p (stsCode pr.vars l k).length c ∧ σ.sub σ' ∧ Γ' = [lst 122 4 (.slice p (stsCode pr.vars l k).length c) (stsCode pr.vars l k).length (insC (stsCode pr.vars l k))]) := by
  obtain ⟨pl, cl, rfl, hle, hmx⟩ := hl.shape
  have hlen : l.length ≤ 100000 := by have := stsN_len l; omega
  refine enterA3 Tryz.func58 rfl rfl rfl ?_; refine zS (zR ?_); refine zw rfl WrA.bx ?_
  rintro _ _ _ ⟨g3, rfl, rfl, rfl⟩
  refine yS ?_; refine zN (zT (zS (zR (yS ?_)))); refine zN (zT (zS (zS (zR (yS ?_))))); refine zN (zT (XA.block ?_))
  refine XA.gen [(1, _), (2, _), (3, _), (6, _), (7, _), (8, _)] ⟨(by with_reducible (conv => lhs; whnf)), (by with_reducible (conv => lhs; whnf)), (by with_reducible (conv => lhs; whnf)), (by with_reducible (conv => lhs; whnf)), (by with_reducible (conv => lhs; whnf)), (by with_reducible (conv => lhs; whnf)), trivial⟩ (fun δ => ?_)
  dsimp only [List.foldl]
  refine XA.loop [(7, 26)] (fun q : Nat × (List In × (Option Addr × Nat)) => [(8, i64 q.1), (7, .slice q.2.2.1 q.2.1.length q.2.2.2)]) (fun q σ' Γ' => σ.sub σ' ∧ q.1 ≤ l.length ∧ q.2.1 = stsCode pr.vars (l.take q.1) k ∧ Γ' = [lst 122 4 (.slice q.2.2.1 q.2.1.length q.2.2.2) q.2.1.length (insC q.2.1), blk g3 [.slice pv pr.vars.length cv, bs] 25]) (fun q => l.length - q.1) (0, ([], (none, 0))) (by exact ⟨rfl, rfl, trivial⟩) (Δ0 := _) ?_ (⟨.refl _, Nat.zero_le _, by simp [stsCode], rfl⟩) ?_
  · exact zE
  rintro ⟨i, M, p', c'⟩ δ σ1 _ ⟨hs1, hi, hM, rfl⟩
  dsimp only [ovr, List.foldl]
  have hi : i ≤ l.length := hi
  have hM : M = stsCode pr.vars (l.take i) k := hM
  have hMl : k + M.length + stsN (l.drop i) ≤ 100000 := by
    have h2 := stsN_app (l.take i) (l.drop i); rw [List.take_append_drop] at h2
    have h3 := stsCode_len pr.vars (l.take i) k
    rw [hM]; omega
  refine zS (zS (zR (yA ?_))); refine yA ?_; refine zO rfl (Rd.lenSlice (tyrow rfl) rfl rfl) ?_; refine zO rfl (Rd.lss rfl rfl) ?_; refine zN (zT ?_); refine XA.condp rfl (fun hlt => ?_) (fun hlt => ?_)
  · have hlt : i < l.length := by omega
    obtain ⟨x', hx'⟩ : ∃ x', l[i]? = some x' := ⟨_, List.getElem?_eq_getElem hlt⟩
    have hl1 := hl.mono hs1 (fun _ _ h => h.mono hs1)
    obtain ⟨g, o, row, rfl, hrx, hrl, hrow⟩ := hl1.at hx'
    have hmem := List.mem_of_getElem? hx'
    have hone := hrx.ones
    have hdx : l.drop i = x' :: l.drop (i + 1) := drop_get hx'
    have hNx : stN x' ≤ stsN (l.drop i) := stsN_mem (by rw [hdx]; simp)
    have hE := stCode_len pr.vars x' (k + M.length)
    have hih := (ih x' hmem σ1 row pv cv bs (k + M.length) (hp.mono hs1) hrx (hsV.mem x' hmem) (by omega)).lstOut
    rw [show (((k + M.length : Nat) : Int)) = (k : Int) + (M.length : Int) from by omega] at hih
    refine XA.skip (zT (zS (XA.block ?_)))
    refine XA.draw (by kernel_rfl) _ _ [10, 11] [(0, .pu), (1, .rd), (2, .pu), (3, .pu), (4, .pu), (5, .rd), (6, .pu), (7, .pu), (8, .pu), (9, .pu), (10, .wr), (11, .wr), (12, .pu)] (by kernel_rfl) (PH.sub.refl _) (Ent.sel (R := blk g3 _ _) zL (Ent.nil _)) ?_
    refine zu rfl rfl Rd.mv ?_; refine XPA.rd rfl rfl Gd.free (Rd.ldA rfl) ?_; refine zu rfl rfl Rd.mv ?_; refine zu rfl rfl Rd.mv ?_; refine zu rfl rfl (Rd.ixS rfl rfl) ?_; refine XPA.rd rfl rfl Gd.free (Rd.ldA rfl) ?_; refine zu rfl rfl Rd.mv ?_; refine zu rfl rfl Rd.mv ?_
    refine zu rfl rfl (Rd.lenSlice (tyrow rfl) rfl rfl) ?_; refine zu rfl rfl zI ?_
    refine XPA.wrZ0 rfl rfl Gd.free (by kernel_rfl) (WrA.cE (hih) rfl) ?_
    rintro _ σ2 _ ⟨_, ⟨p2, c2, rfl, hs2, hf2, rfl⟩, rfl⟩
    refine XPA.cl ?_
    refine XPA.wrZ0 rfl rfl Gd.free (by kernel_rfl) (WrA.appP (tyrow rfl) rfl (tyrow rfl) rfl rfl zL rfl hf2 rfl (insC_ones _) (by simp only [maxLen]; omega) (by simp only []; omega) List.length_append (insC_app _ _)) ?_
    rintro _ _ _ ⟨p8, c8, rfl, rfl, rfl⟩
    refine zu rfl rfl Rd.asg ?_; refine XPA.nil ?_; refine DA.inb_normal (zT (zR (yA ?_))); refine zO rfl zI ?_; refine yS ?_; refine zN (zT ?_)
    refine ⟨(Keep.upd (Keep.upd (Keep.upd (Keep.upd (Keep.updO (Keep.updO (Keep.upd (Keep.upd (Keep.upd (Keep.upd (Keep.upd (Keep.upd (Keep.upd (Keep.upd (Keep.upd (Keep.upd (Keep.upd (Keep.upd (Keep.upd (Keep.upd (Keep.upd (Keep.upd (Keep.hav (Keep.refl _ _) rfl) rfl) rfl) rfl) rfl) rfl) rfl) rfl) rfl) rfl) rfl) rfl) rfl) rfl) rfl) rfl) rfl) rfl) rfl) rfl) rfl) rfl) rfl), (i + 1, (M ++ stCode pr.vars x' (k + M.length), (p8, c8))), _, zM, ?_, ⟨hs1.trans hs2, hlt, by simp only; rw [stsCode_snoc _ hx', ← hM], rfl⟩, (by simp only; omega)⟩
    · exact zE
  have hil : i = l.length := by omega
  subst hil
  rw [List.take_length] at hM
  rw [← hM]
  refine XA.exit (DA.thn_exit (DA.thn_exit (DA.inb_same (zT (zS (zR (yA ?_))))))); refine yS ?_; refine zN (zT (XA.ret ?_))
  exact bodyA.ret (ResA.one rfl rfl) zE ⟨p', c', rfl, hs1, rfl⟩
theorem rstmt_i (pr : Pr) (hz : ∀ x ∈ pr.vars, 0 ≤ x.size ∧ x.size ≤ 1000) (hvl : pr.vars.length ≤ 1000) (x : St) : RStI pr x := by
  refine St.ind (P := RStI pr) ?_ x
  intro op v ex fx body els ih jh σ cs pv cv bs k hp hx hV hN
  obtain ⟨pe, de, pf, df, pb, cb, pl, cl, rfl, -, -, hxe, hxf, hxb, hxl⟩ := hx.inv12
  simp only [St.op, St.v, St.e, St.f, St.body, St.els] at hxe hxf hxb hxl ⊢
  clear hx
  rw [StV] at hV
  obtain ⟨hop, hv, he, hf, -, -, hsb, hse⟩ := hV
  rw [stN] at hN
  have hlE := exCode_len pr.vars ex
  have hlF := exCode_len pr.vars fx
  have e1 := exN_pos ex
  have e2 := exN_pos fx
  have hops : op = 1 ∨ op = 2 ∨ op = 3 ∨ op = 4 ∨ op = 7 ∨ op = 5 ∨ op = 6 := by omega
  rcases hops with rfl | rfl | rfl | rfl | rfl | h56
  · have hc : stCode pr.vars (.mk 1 v ex fx body els) k = exCode pr.vars ex ++ [⟨9, cellOf pr.vars v, 0, 0⟩] := by rw [stCode]; rfl
    rw [hc]
    simp only [List.length_append, List.length_singleton, insC_snoc, insC_app]
    refine enterA3 Tryz.func79 rfl rfl rfl ?_; refine zS (zR ?_); refine zw rfl WrA.bx ?_
    rintro _ _ _ ⟨g3, rfl, rfl, rfl⟩
    refine zw rfl WrA.bx ?_
    rintro _ _ _ ⟨g4, rfl, rfl, rfl⟩
    refine yS ?_; refine zN (zT (zS (zR (yS ?_)))); refine zN (zT (zS (zS (zR (yV ?_))))); refine yB ?_; refine yC (rneeded_a σ 1 101) ?_
    rw [(need_op 1).1]
    refine zN (zT (yT rfl rfl (zR (zO rfl (Rd.ldA rfl) ?_)))); refine yV ?_; refine zO rfl (Rd.ldA rfl) ?_
    refine zw rfl (WrA.cE ((rexpr_i pr hz hvl ex σ _ _ cv bs hp hxe (he rfl).1 (by omega))) rfl) ?_
    rintro _ σ1 _ ⟨_, ⟨p2, c2, rfl, hs1, rfl⟩, rfl⟩
    refine XOA.cl ?_; refine yS ?_; refine zN (zT (zS (zR (zO rfl (Rd.ldA rfl) ?_)))); refine yV ?_; refine yB ?_; refine yC (rcell_a σ1 _ pr v (hp.mono hs1) hz hvl) ?_; refine yS ?_; refine zN (zT (zS (zS (zR (yV ?_))))); refine yB ?_; refine zN (zT (XA.block (zS (zR (yE ?_))))); refine yS ?_
    refine zN (zT (yT rfl rfl (zS (zR (yA ?_))))); refine yA ?_; refine zO rfl (Rd.bl (fun _ _ => tyrow) rfl rfl rfl) ?_; refine zw rfl (WrA.bs1 (tyrow rfl) rfl (tyrow rfl)) ?_
    rintro _ _ _ ⟨g30, rfl, rfl, rfl⟩
    refine zw rfl (WrA.ap1 (tyrow rfl) rfl (tyrow rfl) rfl rfl rfl) ?_
    rintro _ _ _ ⟨p31, c31, rfl, rfl, rfl⟩
    refine yS ?_; refine zN (zT (XA.ret (DA.inb_ret (DA.thn_ret ?_))))
    exact bodyA.ret (ResA.one rfl rfl) zE ⟨_, _, rfl, hs1, rfl⟩
  · obtain ⟨hv0, hv1⟩ := hv rfl
    obtain ⟨vx, hvx⟩ : ∃ vx, pr.vars[v.toNat]? = some vx := ⟨_, List.getElem?_eq_getElem (by omega)⟩
    have hc : stCode pr.vars (.mk 2 v ex fx body els) k = exCode pr.vars ex ++ exCode pr.vars fx ++ [⟨10, cellOf pr.vars v, vx.size, 0⟩] := by rw [stCode, sizeV, hvx]; rfl
    rw [hc]
    rw [List.length_append, List.length_singleton, insC_snoc]
    have hp0 := hp
    obtain ⟨vs', bs', heq, hpv, hpb⟩ := hp
    simp only [List.cons.injEq, and_true] at heq
    obtain ⟨rfl, rfl⟩ := heq
    obtain ⟨gg, oo, rowv, rfl, ⟨rfl, ⟨hz0, hz1⟩, hnm⟩, hrl, hrow⟩ := hpv.at hvx
    refine enterA3 Tryz.func79 rfl rfl rfl ?_; refine zS (zR ?_); refine zw rfl WrA.bx ?_
    rintro _ _ _ ⟨g3, rfl, rfl, rfl⟩
    refine zw rfl WrA.bx ?_
    rintro _ _ _ ⟨g4, rfl, rfl, rfl⟩
    refine yS ?_; refine zN (zT (zS (zR (yS ?_)))); refine zN (zT (zS (zS (zR (yV ?_))))); refine yB ?_; refine yC (rneeded_a σ 2 101) ?_
    rw [(need_op 2).1]
    refine zN (zT (yT rfl rfl (zR (zO rfl (Rd.ldA rfl) ?_)))); refine yV ?_; refine zO rfl (Rd.ldA rfl) ?_
    refine zw rfl (WrA.cE ((rexpr_i pr hz hvl ex σ _ _ cv bs hp0 hxe (he rfl).1 (by omega))) rfl) ?_
    rintro _ σ1 _ ⟨_, ⟨p2, c2, rfl, hs1, rfl⟩, rfl⟩
    refine XOA.cl ?_; refine yS ?_; refine zN (zT (zS (zR (zO rfl (Rd.ldA rfl) ?_)))); refine yV ?_; refine yB ?_; refine yC (rcell_a σ1 _ pr v (hp0.mono hs1) hz hvl) ?_; refine yS ?_; refine zN (zT (zS (zS (zR (yV ?_))))); refine yB ?_; refine zN (zT (XA.block (zS (zR (yE ?_))))); refine yS ?_
    refine zN (zT (yF rfl rfl (zS (zR (yE ?_))))); refine yS ?_; refine zN (zT (yT rfl rfl (zS (zR (yA ?_))))); refine zO rfl (Rd.ldA rfl) ?_; refine yV ?_; refine zO rfl (Rd.ldA rfl) ?_
    refine zw rfl (WrA.cE ((rexpr_i pr hz hvl fx σ1 _ _ cv bs (hp0.mono hs1) (hxf.mono hs1) (hf rfl).1 (by omega)).lstOut) rfl) ?_
    rintro _ σ2 _ ⟨_, ⟨p3, c3, rfl, hs2, hf2, rfl⟩, rfl⟩
    refine XOA.cl ?_
    have r1 : PRow σ2 gg (oo + v.toNat * 2 + 1) [i64 vx.size] := (hrow.sub (j := 1) rfl).mono (hs1.trans hs2)
    refine zw rfl (WrA.appP (tyrow rfl) rfl (tyrow rfl) rfl rfl zL rfl hf2 rfl (insC_ones _) (by simp only [maxLen]; omega) (by simp only []; omega) (@List.length_append _ (exCode pr.vars ex) (exCode pr.vars fx)) (insC_app _ _)) ?_
    rintro _ _ _ ⟨p8, c8, rfl, rfl, rfl⟩
    refine yS ?_; refine zN (zT (zS (zR (yA ?_)))); refine yA ?_; refine yV ?_; refine yB ?_; refine yV ?_; refine yB ?_; refine zO rfl (Rd.ixS rfl rfl) ?_; refine yV ?_; refine yB ?_; refine zO rfl (Rd.bl (fun _ _ => tyrow) rfl rfl rfl) ?_; refine zw rfl (WrA.bs1 (tyrow rfl) rfl (tyrow rfl)) ?_
    rintro _ _ _ ⟨g50, rfl, rfl, rfl⟩
    have hl2 : (exCode pr.vars ex ++ exCode pr.vars fx).length ≤ 200000 := by rw [List.length_append]; omega
    refine zw rfl (WrA.ap1 (tyrow rfl) rfl (tyrow rfl) rfl rfl rfl) ?_
    rintro _ _ _ ⟨p51, c51, rfl, rfl, rfl⟩
    refine yS ?_; refine zN (zT (XA.ret (DA.inb_ret (DA.thn_ret ?_))))
    exact bodyA.ret (ResA.one rfl rfl) zE ⟨_, _, rfl, hs1.trans hs2, rfl⟩
  · have hc : stCode pr.vars (.mk 3 v ex fx body els) k = exCode pr.vars ex ++ [⟨11, 0, 0, 0⟩] := by rw [stCode]; rfl
    rw [hc]
    simp only [List.length_append, List.length_singleton, insC_snoc, insC_app]
    refine enterA3 Tryz.func79 rfl rfl rfl ?_; refine zS (zR ?_); refine zw rfl WrA.bx ?_
    rintro _ _ _ ⟨g3, rfl, rfl, rfl⟩
    refine zw rfl WrA.bx ?_
    rintro _ _ _ ⟨g4, rfl, rfl, rfl⟩
    refine yS ?_; refine zN (zT (zS (zR (yS ?_)))); refine zN (zT (zS (zS (zR (yV ?_))))); refine yB ?_; refine yC (rneeded_a σ 3 101) ?_
    rw [(need_op 3).1]
    refine zN (zT (yT rfl rfl (zR (zO rfl (Rd.ldA rfl) ?_)))); refine yV ?_; refine zO rfl (Rd.ldA rfl) ?_
    refine zw rfl (WrA.cE ((rexpr_i pr hz hvl ex σ _ _ cv bs hp hxe (he rfl).1 (by omega))) rfl) ?_
    rintro _ σ1 _ ⟨_, ⟨p2, c2, rfl, hs1, rfl⟩, rfl⟩
    refine XOA.cl ?_; refine yS ?_; refine zN (zT (zS (zR (zO rfl (Rd.ldA rfl) ?_)))); refine yV ?_; refine yB ?_; refine yC (rcell_a σ1 _ pr v (hp.mono hs1) hz hvl) ?_; refine yS ?_; refine zN (zT (zS (zS (zR (yV ?_))))); refine yB ?_; refine zN (zT (XA.block (zS (zR (yE ?_))))); refine yS ?_
    refine zN (zT (yF rfl rfl (zS (zR (yE ?_))))); refine yS ?_; refine zN (zT (yF rfl rfl (zS (zR (yE ?_))))); refine yS ?_; refine zN (zT (yT rfl rfl (zS (zR (yA ?_))))); refine zO rfl (Rd.bl (fun _ _ => tyrow) rfl rfl rfl) ?_; refine zw rfl (WrA.bs1 (tyrow rfl) rfl (tyrow rfl)) ?_
    rintro _ _ _ ⟨g56, rfl, rfl, rfl⟩
    refine zw rfl (WrA.ap1 (tyrow rfl) rfl (tyrow rfl) rfl rfl rfl) ?_
    rintro _ _ _ ⟨p57, c57, rfl, rfl, rfl⟩
    refine yS ?_; refine zN (zT (XA.ret (DA.inb_ret (DA.thn_ret ?_))))
    exact bodyA.ret (ResA.one rfl rfl) zE ⟨_, _, rfl, hs1, rfl⟩
  · have hc : stCode pr.vars (.mk 4 v ex fx body els) k = [⟨12, cellOf pr.vars v, 0, 0⟩] := by rw [stCode]; rfl
    rw [hc]
    simp only [List.length_append, List.length_singleton, insC_snoc, insC_app]
    refine enterA3 Tryz.func79 rfl rfl rfl ?_; refine zS (zR ?_); refine zw rfl WrA.bx ?_
    rintro _ _ _ ⟨g3, rfl, rfl, rfl⟩
    refine zw rfl WrA.bx ?_
    rintro _ _ _ ⟨g4, rfl, rfl, rfl⟩
    refine yS ?_; refine zN (zT (zS (zR (yS ?_)))); refine zN (zT (zS (zS (zR (yV ?_))))); refine yB ?_; refine yC (rneeded_a σ 4 101) ?_
    rw [(need_op 4).1]
    refine zN (zT (yF rfl rfl (XA.skip (zT (zS (zR (zO rfl (Rd.ldA rfl) ?_))))))); refine yV ?_; refine yB ?_; refine yC (rcell_a σ _ pr v hp hz hvl) ?_; refine yS ?_; refine zN (zT (zS (zS (zR (yV ?_))))); refine yB ?_; refine zN (zT (XA.block (zS (zR (yE ?_)))))
    (iterate 3 (refine yS ?_; refine zN (zT (yF rfl rfl (zS (zR (yE ?_))))))); refine yS ?_; refine zN (zT (yT rfl rfl (zS (zR (yA ?_))))); refine yA ?_; refine zO rfl (Rd.bl (fun _ _ => tyrow) rfl rfl rfl) ?_; refine zw rfl (WrA.bs1 (tyrow rfl) rfl (tyrow rfl)) ?_
    rintro _ _ _ ⟨g63, rfl, rfl, rfl⟩
    refine XOA.ent (Ent.selNil (e := 122) (size := 4) (Ent.refl _)) ?_; refine zw rfl (WrA.ap1 (tyrow rfl) rfl (tyrow rfl) rfl rfl rfl) ?_
    rintro _ _ _ ⟨p64, c64, rfl, rfl, rfl⟩
    refine yS ?_; refine zN (zT (XA.ret (DA.inb_ret (DA.thn_ret ?_))))
    exact bodyA.ret (ResA.one rfl rfl) zE ⟨_, _, rfl, .refl _, rfl⟩
  · have hc : stCode pr.vars (.mk 7 v ex fx body els) k = [⟨15, 0, 0, 0⟩] := by rw [stCode]; rfl
    rw [hc]
    simp only [List.length_append, List.length_singleton, insC_snoc, insC_app]
    refine enterA3 Tryz.func79 rfl rfl rfl ?_; refine zS (zR ?_); refine zw rfl WrA.bx ?_
    rintro _ _ _ ⟨g3, rfl, rfl, rfl⟩
    refine zw rfl WrA.bx ?_
    rintro _ _ _ ⟨g4, rfl, rfl, rfl⟩
    refine yS ?_; refine zN (zT (zS (zR (yS ?_)))); refine zN (zT (zS (zS (zR (yV ?_))))); refine yB ?_; refine yC (rneeded_a σ 7 101) ?_
    rw [(need_op 7).1]
    refine zN (zT (yF rfl rfl (XA.skip (zT (zS (zR (zO rfl (Rd.ldA rfl) ?_))))))); refine yV ?_; refine yB ?_; refine yC (rcell_a σ _ pr v hp hz hvl) ?_; refine yS ?_; refine zN (zT (zS (zS (zR (yV ?_))))); refine yB ?_; refine zN (zT (XA.block (zS (zR (yE ?_)))))
    (iterate 4 (refine yS ?_; refine zN (zT (yF rfl rfl (zS (zR (yE ?_))))))); refine yS ?_; refine zN (zT (yT rfl rfl (zS (zR (yA ?_))))); refine zO rfl (Rd.bl (fun _ _ => tyrow) rfl rfl rfl) ?_; refine zw rfl (WrA.bs1 (tyrow rfl) rfl (tyrow rfl)) ?_
    rintro _ _ _ ⟨g69, rfl, rfl, rfl⟩
    refine XOA.ent (Ent.selNil (e := 122) (size := 4) (Ent.refl _)) ?_; refine zw rfl (WrA.ap1 (tyrow rfl) rfl (tyrow rfl) rfl rfl rfl) ?_
    rintro _ _ _ ⟨p70, c70, rfl, rfl, rfl⟩
    refine yS ?_; refine zN (zT (XA.ret (DA.inb_ret (DA.thn_ret ?_))))
    exact bodyA.ret (ResA.one rfl rfl) zE ⟨_, _, rfl, .refl _, rfl⟩
  · rcases h56 with rfl | rfl
    · obtain ⟨B, hB⟩ : ∃ B, B = stsCode pr.vars body (k + (exCode pr.vars ex).length + 1) := ⟨_, rfl⟩
      have hBl : B.length ≤ stsN body := by rw [hB]; exact stsCode_len _ _ _
      have hcast1 : ((k + (exCode pr.vars ex).length + 1 : Nat) : Int) = (k : Int) + ((exCode pr.vars ex).length : Int) + 1 := by omega
      have hcast2 : ((k + (exCode pr.vars ex).length + 1 + B.length + 1 : Nat) : Int) = (k : Int) + ((exCode pr.vars ex).length : Int) + 1 + (B.length : Int) + 1 := by omega
      have hlb := fun σ2 (hs : σ.sub σ2) => (rlist_i pr body ih σ2 (.slice pb body.length cb) pv cv bs (k + (exCode pr.vars ex).length + 1) (hp.mono hs) (hxb.mono hs (fun _ _ h => h.mono hs)) hsb (by omega)).lstOut
      rw [← hB, hcast1] at hlb
      rw [stCode_5, ← hB, hcast2]
      rw [List.length_append, List.length_append, List.length_append, List.length_singleton, List.length_singleton, insC_snoc, insC_app, insC_snoc]
      refine enterA3 Tryz.func79 rfl rfl rfl ?_; refine zS (zR ?_); refine zw rfl WrA.bx ?_
      rintro _ _ _ ⟨g3, rfl, rfl, rfl⟩
      refine zw rfl WrA.bx ?_
      rintro _ _ _ ⟨g4, rfl, rfl, rfl⟩
      refine yS ?_; refine zN (zT (zS (zR (yS ?_)))); refine zN (zT (zS (zS (zR (yV ?_))))); refine yB ?_; refine yC (rneeded_a σ 5 101) ?_
      rw [(need_op 5).1]
      refine zN (zT (yT rfl rfl (zR (zO rfl (Rd.ldA rfl) ?_)))); refine yV ?_; refine zO rfl (Rd.ldA rfl) ?_
      refine zw rfl (WrA.cE ((rexpr_i pr hz hvl ex σ _ _ cv bs hp hxe (he rfl).1 (by omega))) rfl) ?_
      rintro _ σ1 _ ⟨_, ⟨p2, c2, rfl, hs1, rfl⟩, rfl⟩
      refine XOA.cl ?_; refine yS ?_; refine zN (zT (zS (zR (zO rfl (Rd.ldA rfl) ?_)))); refine yV ?_; refine yB ?_; refine yC (rcell_a σ1 _ pr v (hp.mono hs1) hz hvl) ?_; refine yS ?_; refine zN (zT (zS (zS (zR (yV ?_))))); refine yB ?_; refine zN (zT (XA.block (zS (zR (yE ?_)))))
      (iterate 4 (refine yS ?_; refine zN (zT (yF rfl rfl (zS (zR (yE ?_))))))); refine yS ?_; refine zN (zT (yF rfl rfl (XA.skip (DA.inb_normal (zT (zS (zR (zO rfl (Rd.ldA rfl) ?_)))))))); refine yV ?_; refine yB ?_; refine yA ?_; refine yA ?_; refine zO rfl (Rd.lenSlice (tyrow rfl) rfl rfl) ?_
      refine zO rfl zI ?_; refine zO rfl zI ?_

      refine zw rfl (WrA.cE (hlb σ1 hs1) rfl) ?_
      rintro _ σ2 _ ⟨_, ⟨p3, c3, rfl, hs2, hf2, rfl⟩, rfl⟩
      refine XOA.cl ?_; refine yS ?_; refine zN (zT (zS (zR (yA ?_)))); refine yA ?_; refine zO rfl (Rd.lenSlice (tyrow rfl) rfl rfl) ?_; refine zO rfl zI ?_; refine zO rfl zI ?_; refine yA ?_; refine zO rfl (Rd.lenSlice (tyrow rfl) rfl rfl) ?_; refine zO rfl zI ?_; refine zO rfl zI ?_; refine yS ?_
      refine zN (zT (zS (zR (yA ?_)))); refine yA ?_; refine zO rfl (Rd.bl (fun _ _ => tyrow) rfl rfl rfl) ?_; refine zw rfl (WrA.bs1 (tyrow rfl) rfl (tyrow rfl)) ?_
      rintro _ _ _ ⟨g92, rfl, rfl, rfl⟩
      refine zw rfl (WrA.ap1 (tyrow rfl) rfl (tyrow rfl) rfl rfl rfl) ?_
      rintro _ _ _ ⟨p93, c93, rfl, rfl, rfl⟩
      refine yS ?_; refine zN (zT (zS (zR (yA ?_)))); refine yA ?_
      refine zw rfl (WrA.appP (tyrow rfl) rfl (tyrow rfl) rfl rfl zL rfl hf2 rfl (insC_ones _) (by simp only [maxLen]; omega) (by simp only []; omega) rfl rfl) ?_
      rintro _ _ _ ⟨p8, c8, rfl, rfl, rfl⟩
      refine yS ?_; refine zN (zT (zS (zS (zR (yV ?_))))); refine yB ?_; refine yE ?_; refine zN (zT (yT rfl rfl (zS (zR (yA ?_))))); refine yA ?_; refine zO rfl (Rd.bl (fun _ _ => tyrow) rfl rfl rfl) ?_; refine zw rfl (WrA.bs1 (tyrow rfl) rfl (tyrow rfl)) ?_
      rintro _ _ _ ⟨g103, rfl, rfl, rfl⟩
      refine zw rfl (WrA.ap1 (tyrow rfl) rfl (tyrow rfl) rfl rfl rfl) ?_
      rintro _ _ _ ⟨p104, c104, rfl, rfl, rfl⟩
      refine yS ?_; refine zN (zT (XA.ret (DA.thn_ret ?_)))
      exact bodyA.ret (ResA.one rfl rfl) zE ⟨_, _, rfl, hs1.trans hs2, rfl⟩
    · obtain ⟨B, hB⟩ : ∃ B, B = stsCode pr.vars body (k + (exCode pr.vars ex).length + 1) := ⟨_, rfl⟩
      have hBl : B.length ≤ stsN body := by rw [hB]; exact stsCode_len _ _ _
      have hcast1 : ((k + (exCode pr.vars ex).length + 1 : Nat) : Int) = (k : Int) + ((exCode pr.vars ex).length : Int) + 1 := by omega
      have hcast2 : ((k + (exCode pr.vars ex).length + 1 + B.length + 1 : Nat) : Int) = (k : Int) + ((exCode pr.vars ex).length : Int) + 1 + (B.length : Int) + 1 := by omega
      have hlb := fun σ2 (hs : σ.sub σ2) => (rlist_i pr body ih σ2 (.slice pb body.length cb) pv cv bs (k + (exCode pr.vars ex).length + 1) (hp.mono hs) (hxb.mono hs (fun _ _ h => h.mono hs)) hsb (by omega)).lstOut
      rw [← hB, hcast1] at hlb
      obtain ⟨O, hO⟩ : ∃ O, O = stsCode pr.vars els (k + (exCode pr.vars ex).length + 1 + B.length + 1) := ⟨_, rfl⟩
      have hOl : O.length ≤ stsN els := by rw [hO]; exact stsCode_len _ _ _
      have hcast3 : ((k + (exCode pr.vars ex).length + 1 + B.length + 1 + O.length : Nat) : Int) = (k : Int) + ((exCode pr.vars ex).length : Int) + 1 + (B.length : Int) + 1 + (O.length : Int) := by omega
      have hlo := fun σ2 (hs : σ.sub σ2) => (rlist_i pr els jh σ2 (.slice pl els.length cl) pv cv bs (k + (exCode pr.vars ex).length + 1 + B.length + 1) (hp.mono hs) (hxl.mono hs (fun _ _ h => h.mono hs)) hse (by omega)).lstOut
      rw [← hO, hcast2] at hlo
      rw [stCode_6, ← hB, ← hO, hcast2, hcast3]
      rw [List.length_append, List.length_append, List.length_append, List.length_append, List.length_singleton, List.length_singleton, insC_app, insC_snoc, insC_app, insC_snoc]
      refine enterA3 Tryz.func79 rfl rfl rfl ?_; refine zS (zR ?_); refine zw rfl WrA.bx ?_
      rintro _ _ _ ⟨g3, rfl, rfl, rfl⟩
      refine zw rfl WrA.bx ?_
      rintro _ _ _ ⟨g4, rfl, rfl, rfl⟩
      refine yS ?_; refine zN (zT (zS (zR (yS ?_)))); refine zN (zT (zS (zS (zR (yV ?_))))); refine yB ?_; refine yC (rneeded_a σ 6 101) ?_
      rw [(need_op 6).1]
      refine zN (zT (yT rfl rfl (zR (zO rfl (Rd.ldA rfl) ?_)))); refine yV ?_; refine zO rfl (Rd.ldA rfl) ?_
      refine zw rfl (WrA.cE ((rexpr_i pr hz hvl ex σ _ _ cv bs hp hxe (he rfl).1 (by omega))) rfl) ?_
      rintro _ σ1 _ ⟨_, ⟨p2, c2, rfl, hs1, rfl⟩, rfl⟩
      refine XOA.cl ?_; refine yS ?_; refine zN (zT (zS (zR (zO rfl (Rd.ldA rfl) ?_)))); refine yV ?_; refine yB ?_; refine yC (rcell_a σ1 _ pr v (hp.mono hs1) hz hvl) ?_; refine yS ?_; refine zN (zT (zS (zS (zR (yV ?_))))); refine yB ?_; refine zN (zT (XA.block (zS (zR (yE ?_)))))
      (iterate 4 (refine yS ?_; refine zN (zT (yF rfl rfl (zS (zR (yE ?_))))))); refine yS ?_; refine zN (zT (yF rfl rfl (XA.skip (DA.inb_normal (zT (zS (zR (zO rfl (Rd.ldA rfl) ?_)))))))); refine yV ?_; refine yB ?_; refine yA ?_; refine yA ?_; refine zO rfl (Rd.lenSlice (tyrow rfl) rfl rfl) ?_
      refine zO rfl zI ?_; refine zO rfl zI ?_

      refine zw rfl (WrA.cE (hlb σ1 hs1) rfl) ?_
      rintro _ σ2 _ ⟨_, ⟨p3, c3, rfl, hs2, hf2, rfl⟩, rfl⟩
      refine XOA.cl ?_; refine yS ?_; refine zN (zT (zS (zR (yA ?_)))); refine yA ?_; refine zO rfl (Rd.lenSlice (tyrow rfl) rfl rfl) ?_; refine zO rfl zI ?_; refine zO rfl zI ?_; refine yA ?_; refine zO rfl (Rd.lenSlice (tyrow rfl) rfl rfl) ?_; refine zO rfl zI ?_; refine zO rfl zI ?_; refine yS ?_
      refine zN (zT (zS (zR (yA ?_)))); refine yA ?_; refine zO rfl (Rd.bl (fun _ _ => tyrow) rfl rfl rfl) ?_; refine zw rfl (WrA.bs1 (tyrow rfl) rfl (tyrow rfl)) ?_
      rintro _ _ _ ⟨g92, rfl, rfl, rfl⟩
      refine zw rfl (WrA.ap1 (tyrow rfl) rfl (tyrow rfl) rfl rfl rfl) ?_
      rintro _ _ _ ⟨p93, c93, rfl, rfl, rfl⟩
      refine yS ?_; refine zN (zT (zS (zR (yA ?_)))); refine yA ?_
      refine zw rfl (WrA.appP (tyrow rfl) rfl (tyrow rfl) rfl rfl zL rfl hf2 rfl (insC_ones _) (by simp only [maxLen]; omega) (by simp only []; omega) rfl rfl) ?_
      rintro _ _ _ ⟨p8, c8, rfl, rfl, rfl⟩
      refine yS ?_; refine zN (zT (zS (zS (zR (yV ?_))))); refine yB ?_; refine yE ?_; refine zN (zT (yF rfl rfl (XA.skip (zT (zS (zR (zO rfl (Rd.ldA rfl) ?_))))))); refine yV ?_; refine yB ?_; refine yA ?_; refine zw rfl (WrA.cE (hlo σ2 (hs1.trans hs2)) rfl) ?_
      rintro _ σ3 _ ⟨_, ⟨p4, c4, rfl, hs3, hf3, rfl⟩, rfl⟩
      refine XOA.cl ?_; refine yS ?_; refine zN (zT (zS (zR (yA ?_)))); refine yA ?_; refine yA ?_; refine zO rfl (Rd.lenSlice (tyrow rfl) rfl rfl) ?_; refine zO rfl zI ?_; refine zO rfl (Rd.bl (fun _ _ => tyrow) rfl rfl rfl) ?_; refine zw rfl (WrA.bs1 (tyrow rfl) rfl (tyrow rfl)) ?_
      rintro _ _ _ ⟨g116, rfl, rfl, rfl⟩
      refine zw rfl (WrA.ap1 (tyrow rfl) rfl (tyrow rfl) rfl rfl rfl) ?_
      rintro _ _ _ ⟨p117, c117, rfl, rfl, rfl⟩
      refine yS ?_; refine zN (zT (zS (zR (yA ?_)))); refine yA ?_
      refine zw rfl (WrA.appP (tyrow rfl) rfl (tyrow rfl) rfl rfl zL rfl hf3 rfl (insC_ones _) (by simp only [maxLen]; omega) (by simp only []; omega) rfl rfl) ?_
      rintro _ _ _ ⟨p9, c9, rfl, rfl, rfl⟩
      refine yS ?_; refine zN (zT (XA.ret ?_))
      exact bodyA.ret (ResA.one rfl rfl) zE ⟨_, _, rfl, (hs1.trans hs2).trans hs3, rfl⟩
theorem rcode_a (σ : PH) (cs : List Value) (p : Pr) (hp : PrAt σ cs p) (hc : checkP p = 0) (hN : stsN p.body ≤ 10000) :
    CallsA Tryz.prog 31 #[.agg cs.toArray] σ [] (RetA fun v σ' Γ' => ∃ q c, v = .slice q (codeOf p).length c ∧ σ.sub σ' ∧ Γ' = [lst 122 4 (.slice q (codeOf p).length c) (codeOf p).length (insC (codeOf p))]) := by
  have hp0 := hp
  obtain ⟨vs, bs, rfl, hv, hb⟩ := hp
  obtain ⟨pv, cv, rfl, hvl, hvm⟩ := hv.shape
  obtain ⟨hz, hl⟩ := check_small hc
  obtain ⟨hV, -, -, -⟩ := check_valid hc
  have hln := stsCode_len p.vars p.body 0
  rw [codeOf, List.length_append, List.length_singleton, insC_snoc]
  refine enterA1 Tryz.func31 rfl rfl rfl ?_; refine zS (zR ?_); refine zw rfl WrA.bx ?_
  rintro _ _ _ ⟨g1, rfl, rfl, rfl⟩
  refine yS ?_; refine zN (zT (zS (zR (zO rfl (Rd.ldA rfl) ?_)))); refine yV ?_; refine yB ?_
  refine zw rfl (WrA.cE (rlist_i p p.body (fun x _ => rstmt_i p hz hl x) σ bs pv cv bs 0 hp0 hb hV (by omega)) rfl) ?_
  rintro _ σ1 _ ⟨_, ⟨p2, c2, rfl, hs1, rfl⟩, rfl⟩
  refine XOA.cl ?_; refine yS ?_; refine zN (zT (zS (zR (yA ?_)))); refine zO rfl (Rd.bl (fun _ _ => tyrow) rfl rfl rfl) ?_; refine zw rfl (WrA.bs1 (tyrow rfl) rfl (tyrow rfl)) ?_
  rintro _ _ _ ⟨g10, rfl, rfl, rfl⟩
  refine zw rfl (WrA.ap1 (tyrow rfl) rfl (tyrow rfl) rfl rfl rfl) ?_
  rintro _ _ _ ⟨p11, c11, rfl, rfl, rfl⟩
  refine yS ?_; refine zN (zT (XA.ret ?_))
  exact bodyA.ret (ResA.one rfl rfl) zE ⟨_, _, rfl, hs1, rfl⟩
end Go.Proofs.YtmnmcjdgnpgchaaGreat

namespace Go.Proofs.YtmnmcjdgnpgchaaGreat
open Go X
set_option maxHeartbeats 1000000
section
variable {P : Program} {ρ : Env} {σ : PH} {Γ : List HP}
theorem X.WrA.appL {T e : TypeId} {x y : Operand} {ty : TypeId} {r re : Ty} {m c' : Nat} {q : Option Addr} {news : List Value} {Γ' : List HP} (hT : tyOf P T = some r) (hk : r.k = .slice e) (hE : tyOf P e = some re) (hz : re.zero.length = re.size)
    (hs : ev ρ x = .slice none 0 0) (hy : ev ρ y = .slice q m c') (s : Sel Γ (lst e re.size (.slice q m c') m news) Γ') (h1 : ones news) (h63 : m ≤ maxLen) (hb : m * re.bytes ≤ 140737488355328) :
    WrA P ρ σ Γ (.call { callee := .builtin .append, args := #[x, y], argTypes := #[T, T] }) ty (fun v' σ' Δ => ∃ p c, v' = .slice p m c ∧ σ = σ' ∧ Δ = lst e re.size (.slice p m c) m news :: Γ) noPA := by
  refine ⟨fun f h hh => ?_⟩
  have hl := holds_fact hh s (q := news.length = m * re.size) (fun m hm => hm.1)
  by_cases hm : m = 0
  · subst hm
    have hn0 : news = [] := List.eq_nil_of_length_eq_zero (by rw [hl]; omega)
    subst hn0
    refine ⟨fun d pos af gd a w next Q' he hw hn hp => ?_⟩
    refine ((Rd.toW (σ := σ) (Γ := Γ) (Rd.appendNone hT hk hE hs hy (Nat.le_refl _))).out f h hh).out d pos af gd a w next Q' he hw (fun v' w' sm q => ?_) (fun _ _ _ q => by obtain ⟨_, _, q, _⟩ := q; exact q.elim)
    obtain ⟨σ', Γ'', ⟨rfl, rfl, rfl⟩, hh'⟩ := q
    exact hn _ w' sm ⟨σ, _, ⟨none, 0, rfl, rfl, rfl⟩, hh'.ent (Ent.selNil (Ent.refl _))⟩
  · obtain ⟨g, rfl⟩ := holds_fact hh s (q := ∃ g : Nat, q = some ⟨g, 0, none⟩) (fun m hm => by obtain ⟨g, e, -⟩ := lst_some (by omega) m hm; exact ⟨g, e⟩)
    exact (WrA.appendNew hT hk hE hz hs hy (At.lst s (by simp)) hl h1 (by omega) h63 hb).out f h hh
end
theorem lst_mono {e size n : Nat} {v : Value} {xs : List Value} : ∀ m m', lst e size v n xs m → m.sub m' → lst e size v n xs m' := by
  rintro m m' ⟨h1, h2⟩ s
  refine ⟨h1, h2.imp id ?_⟩
  rintro ⟨g, cap, e, cur, h3, r⟩
  exact ⟨g, cap, e, cur, blk_mono _ _ h3 s, r⟩
theorem lst_pop {e n c : Nat} {p : Option Addr} {xs : List Value} {x : Value} (hn : xs.length = n) : ∀ m, lst e 1 (.slice p (n + 1) c) (n + 1) (xs ++ [x]) m → lst e 1 (.slice p n c) n xs m := by
  rintro m ⟨h1, ⟨h2, h3⟩ | ⟨g, cap, h2, cur, h3, h4, h5, h6, h7⟩⟩
  · omega
  · simp only [Value.slice.injEq] at h2
    obtain ⟨rfl, -, rfl⟩ := h2
    refine ⟨by omega, .inr ⟨g, c, rfl, cur, h3, by omega, h5, h6, ?_⟩⟩
    rw [Nat.mul_one] at h7 ⊢
    have : (cur.take (n + 1)).take n = (xs ++ [x]).take n := by rw [h7]
    rw [List.take_take, Nat.min_eq_left (by omega), List.take_left' hn] at this
    exact this
theorem lst_someC {e size n c : Nat} {p : Option Addr} {xs : List Value} (hn : 0 < n) : ∀ m, lst e size (.slice p n c) n xs m → ∃ g : Nat, (p = some ⟨g, 0, none⟩ ∧ n ≤ c) ∧ Sat [lst e size (.slice (some ⟨g, 0, none⟩) n c) n xs] m := fun m h => by
  have hc := (lst_cap m h).1
  obtain ⟨g, e1, e2⟩ := lst_some hn m h
  exact ⟨g, ⟨e1, hc⟩, e2⟩
section
variable (σ : PH) (g : Nat) (v0 v1 v2 v4 v5 v6 v7 k0 k1 k2 k3 k4 k5 ov wr : Value)
theorem ints_rev (x : Int) (s : List Int) : ints (x :: s).reverse = ints s.reverse ++ [i64 x] := by simp [ints]
theorem pop_b (p : Option Addr) (c : Nat) (s : List Int) (x : Int) (hn : s.length ≤ 1000) :
    CallsA Tryz.prog 65 #[ptr g] σ [blk g [v0, v1, v2, .slice p (x :: s).length c, v4, v5, v6, v7, k0, k1, k2, k3, k4, k5, ov, wr] 80, lst 2 1 (.slice p (x :: s).length c) (x :: s).length (ints (x :: s).reverse)]
      (RetA fun v σ' Γ' => v = i64 x ∧ σ = σ' ∧ Γ' = [blk g [v0, v1, v2, .slice p s.length c, v4, v5, v6, v7, k0, k1, k2, k3, k4, k5, ov, wr] 80, lst 2 1 (.slice p s.length c) s.length (ints s.reverse)]) := by
  rw [ints_rev]
  have hl : (ints s.reverse).length = s.length := by simp [ints]
  have hx : (ints s.reverse ++ [i64 x])[s.length]? = some (i64 x) := by rw [List.getElem?_append_right (by omega)]; simp [hl]
  simp only [List.length_cons]
  refine enterA1 Tryz.func65 rfl rfl rfl ?_; refine zS (zR (yS ?_)); refine zN (zT (zS (zR (yA ?_)))); refine zO rfl (Rd.nilCheck rfl) ?_; refine yV ?_; refine yV ?_; refine yB ?_; refine zO rfl (Rd.lenSlice (tyrow rfl) rfl rfl) ?_
  refine zO rfl (by first | exact Rd.sbi rfl rfl | exact Rd.sub rfl rfl) ?_
  rw [show (((s.length + 1 : Nat) : Int) - 1) = ((s.length : Nat) : Int) by omega]
  first | refine XA.opn (R := lst 2 1 (.slice p (s.length + 1) c) _ _) zL (lst_someC (by omega)) ?_ | refine XOA.opn (R := lst 2 1 (.slice p (s.length + 1) c) _ _) zL (lst_someC (by omega)) ?_ | refine DA.opn (R := lst 2 1 (.slice p (s.length + 1) c) _ _) zL (lst_someC (by omega)) ?_
  rintro g5 ⟨rfl, hc5⟩
  first | refine XA.cl ?_ | refine XOA.cl ?_ | refine DA.cl ?_
  refine yS ?_; refine zN (zT (zS (zR (yA ?_)))); refine zO rfl (Rd.nilCheck rfl) ?_; refine yV ?_; refine yV ?_; refine yB ?_; refine yA ?_; refine zO rfl (Rd.ixS rfl rfl) ?_; refine yB ?_; refine yS ?_
  refine zN (zT (zS (zR (yA ?_)))); refine yA ?_; refine zO rfl (Rd.nilCheck rfl) ?_; refine yV ?_; refine yV ?_; refine yB ?_; refine yA ?_; refine zO rfl (Rd.sliceToN (tyrow rfl) rfl (tyrow rfl) rfl rfl (by omega)) ?_
  refine zO rfl (Rd.nilCheck rfl) ?_; refine yV ?_; refine yV ?_; refine zw rfl (WrA.st (tyrow rfl) rfl) ?_
  rintro _ _ _ ⟨rfl, rfl, rfl⟩
  refine zN (zT (zS (zR (yA ?_)))); refine yS ?_; refine zN (zT (XA.ret ?_)); refine DA.ent (Ent.foldC (Θ := [lst 2 1 (.slice (some ⟨g5, 0, none⟩) (s.length + 1) c) (s.length + 1) (ints s.reverse ++ [i64 x])]) zD (fun m h => lst_pop hl m (of_sat1 lst_mono h)) (Ent.refl _)) ?_
  exact bodyA.ret (ResA.one rfl rfl) zE ⟨rfl, rfl, rfl⟩
theorem push_b (p : Option Addr) (c : Nat) (s : List Int) (x : Int) (hn : s.length ≤ 1000) :
    CallsA Tryz.prog 64 #[ptr g, i64 x] σ [blk g [v0, v1, v2, .slice p s.length c, v4, v5, v6, v7, k0, k1, k2, k3, k4, k5, ov, wr] 80, lst 2 1 (.slice p s.length c) s.length (ints s.reverse)]
      (RetA fun v σ' Γ' => ∃ p' c', v = .tuple #[] ∧ σ = σ' ∧ Γ' = [blk g [v0, v1, v2, .slice p' (x :: s).length c', v4, v5, v6, v7, k0, k1, k2, k3, k4, k5, ov, wr] 80, lst 2 1 (.slice p' (x :: s).length c') (x :: s).length (ints (x :: s).reverse)]) := by
  rw [ints_rev]
  simp only [List.length_cons]
  refine enterA2 Tryz.func64 rfl rfl rfl ?_; refine zR (yA ?_); refine yA ?_; refine zO rfl (Rd.nilCheck rfl) ?_; refine yV ?_; refine yV ?_; refine yB ?_; refine yA ?_; refine zw rfl (WrA.bs1 (tyrow rfl) rfl (tyrow rfl)) ?_
  rintro _ _ _ ⟨g11, rfl, rfl, rfl⟩
  refine zw rfl (WrA.ap1 (tyrow rfl) rfl (tyrow rfl) rfl rfl rfl) ?_
  rintro _ _ _ ⟨p12, c12, rfl, rfl, rfl⟩
  refine zO rfl (Rd.nilCheck rfl) ?_; refine yV ?_; refine yV ?_; refine zw rfl (WrA.st (tyrow rfl) rfl) ?_
  rintro _ _ _ ⟨rfl, rfl, rfl⟩
  refine zN ?_
  exact bodyA.normal (ResA.none rfl) zE ⟨p12, c12, rfl, rfl, rfl⟩
end
theorem bit_b (σ : PH) (b : Bool) : CallsA Tryz.prog 66 #[.bool b] σ [] (RetA fun v σ' Γ' => v = i64 (if b then 1 else 0) ∧ σ = σ' ∧ Γ' = []) := by
  cases b with
  | true =>
    refine enterA1 Tryz.func66 rfl rfl rfl ?_; refine zS (zR (yS ?_)); refine zN (zT (zS (zS (zR (yA ?_))))); refine zN (zT (yT rfl rfl (zS (zR (yS ?_))))); refine zN (zT (XA.ret (DA.thn_ret ?_)))
    exact bodyA.ret (ResA.one rfl rfl) (Ent.nil _) ⟨rfl, rfl, rfl⟩
  | false =>
    refine enterA1 Tryz.func66 rfl rfl rfl ?_; refine zS (zR (yS ?_)); refine zN (zT (zS (zS (zR (yA ?_))))); refine zN (zT (yF rfl rfl (XA.skip (zT (zS (zR (yS ?_))))))); refine zN (zT (XA.ret ?_))
    exact bodyA.ret (ResA.one rfl rfl) (Ent.nil _) ⟨rfl, rfl, rfl⟩
theorem copy_b (σ : PH) (k0 k2 k3 k4 : Int) (p1 p2 : Option Addr) (c1 c2 : Nat) (n1 n2 : Nat) (xs ys : List Int) (hx : n1 ≤ 1000) (hy : n2 ≤ 1000) :
    CallsA Tryz.prog 32 #[.agg #[i64 k0, .slice p1 n1 c1, i64 k2, i64 k3, i64 k4, .slice p2 n2 c2]] σ [lst 2 1 (.slice p1 n1 c1) n1 (ints xs), lst 2 1 (.slice p2 n2 c2) n2 (ints ys)]
      (RetA fun v σ' Γ' => ∃ p3 c3 p4 c4, v = .agg #[i64 k0, .slice p3 n1 c3, i64 k2, i64 k3, i64 k4, .slice p4 n2 c4] ∧ σ = σ' ∧ Γ' = [lst 2 1 (.slice p1 n1 c1) n1 (ints xs), lst 2 1 (.slice p2 n2 c2) n2 (ints ys), lst 2 1 (.slice p3 n1 c3) n1 (ints xs), lst 2 1 (.slice p4 n2 c4) n2 (ints ys)]) := by
  refine enterA1 Tryz.func32 rfl rfl rfl ?_; refine zS (zR ?_); refine zw rfl WrA.bx ?_
  rintro _ _ _ ⟨g1, rfl, rfl, rfl⟩
  refine zw rfl (WrA.alloc (tyrow rfl)) ?_
  rintro _ _ _ ⟨g2, rfl, rfl, rfl⟩
  refine zN (zT (zS (zR (yS ?_)))); refine yS ?_; refine zN (zT (zS ?_))
  refine XA.join [(1, 2), (5, 14)] (fun x : (Nat × Nat) × ((Option Addr × Nat) × (Option Addr × Nat)) => [(1, ptr x.1.1), (2, ptr x.1.2)]) (fun x σ' Γ' => σ = σ' ∧ Γ' = [blk x.1.1 [i64 k0, .slice x.2.1.1 n1 x.2.1.2, i64 k2, i64 k3, i64 k4, .slice x.2.2.1 n2 x.2.2.2] 75, blk x.1.2 ty75.zero 75, lst 2 1 (.slice p1 n1 c1) n1 (ints xs), lst 2 1 (.slice p2 n2 c2) n2 (ints ys), lst 2 1 (.slice x.2.1.1 n1 x.2.1.2) n1 (ints xs), lst 2 1 (.slice x.2.2.1 n2 x.2.2.2) n2 (ints ys)]) ?_ ?_
  · skip
    refine XA.drawQ (by kernel_rfl) _ _ [8, 9, 10, 11] 12 #[false, false, false, false, false, false, false, false, false, false, false, false] rfl rfl (by kernel_rfl) (PH.sub.refl _) (Ent.sel (R := blk g1 _ _) zL (Ent.nil _)) ?_
    refine qp 0 #[tT,fF,fF,fF,fF,fF,fF,fF,fF,fF,fF,fF] rfl Rd.mv ?_; refine qp 1 #[tT,tT,fF,fF,fF,fF,fF,fF,fF,fF,fF,fF] rfl (Rd.fA rfl) ?_; refine qr 2 #[tT,tT,tT,fF,fF,fF,fF,fF,fF,fF,fF,fF] rfl (Rd.ldC rfl (tyrow rfl) rfl) ?_; refine qp 4 #[tT,tT,tT,fF,tT,fF,fF,fF,fF,fF,fF,fF] rfl Rd.mv ?_
    refine qp 5 #[tT,tT,tT,fF,tT,tT,fF,fF,fF,fF,fF,fF] rfl (Rd.fA rfl) ?_; refine qr 6 #[tT,tT,tT,fF,tT,tT,tT,fF,fF,fF,fF,fF] rfl (Rd.ldC rfl (tyrow rfl) rfl) ?_; refine qa 3 ?_
    refine qw #[tT,tT,tT,tT,tT,tT,tT,fF,fF,fF,fF,fF] rfl (X.WrA.appL (tyrow rfl) rfl (tyrow rfl) rfl rfl rfl zL (ones_ints _) (by simp only [maxLen]; omega) (by simp only []; omega)) ?_
    rintro _ _ _ ⟨p8, c8, rfl, rfl, rfl⟩
    refine ⟨⟨zX, zE⟩, XQA.re zC ?_⟩
    refine qp 8 #[tT,tT,tT,tT,tT,tT,tT,fF,tT,fF,fF,fF] rfl (Rd.fA rfl) ?_; refine qa 7 ?_
    refine qw #[tT,tT,tT,tT,tT,tT,tT,tT,tT,fF,fF,fF] rfl (X.WrA.appL (tyrow rfl) rfl (tyrow rfl) rfl rfl rfl zL (ones_ints _) (by simp only [maxLen]; omega) (by simp only []; omega)) ?_
    rintro _ _ _ ⟨p12, c12, rfl, rfl, rfl⟩
    refine ⟨⟨zX, zE⟩, XQA.re zC ?_⟩
    refine qa 9 ?_
    refine XQA1.wrZ0 (listed' := #[tT,tT,tT,tT,tT,tT,tT,tT,tT,tT,fF,fF]) rfl rfl Gd.free (by kernel_rfl) rfl (by kernel_rfl) (WrA.st (tyrow rfl) rfl) ?_
    rintro _ _ _ ⟨rfl, rfl, rfl⟩
    refine XQA.re zC ?_; refine qp 10 #[tT,tT,tT,tT,tT,tT,tT,tT,tT,tT,tT,fF] rfl (Rd.fA rfl) ?_; refine qa 11 ?_
    refine XQA1.wrZ0 (listed' := #[tT,tT,tT,tT,tT,tT,tT,tT,tT,tT,tT,tT]) rfl rfl Gd.free (by kernel_rfl) rfl (by kernel_rfl) (WrA.st (tyrow rfl) rfl) ?_
    rintro _ _ _ ⟨rfl, rfl, rfl⟩
    refine XQA.re zC ?_; refine XQA.nil rfl ?_
    refine DA.thn_normal ⟨zK, ((g1, g2), ((p8, c8), (p12, c12))), _, zM, ?_, rfl, rfl⟩; exact zE
  rintro ⟨⟨g1, g2⟩, ⟨p3, c3⟩, p4, c4⟩ δ _ _ ⟨rfl, rfl⟩
  dsimp only [ovr, List.foldl]
  refine zT (zS (zR (zO rfl (Rd.ldA rfl) ?_))); refine zw rfl (WrA.st (tyrow rfl) rfl) ?_
  rintro _ _ _ ⟨rfl, rfl, rfl⟩
  refine zN (zT (XA.ret ?_))
  exact bodyA.ret (ResA.cell rfl rfl (Ld.atBlk (tyrow rfl) rfl zL rfl (by first | exact take0 (by first | rfl | assumption | (refine (ints_len _).trans ?_; assumption) | (simp [*]; (first | done | fail))) | assumption | exact take_app (by first | rfl | assumption | (refine (ints_len _).trans ?_; assumption) | (simp [*]; (first | done | fail))) | (conv => lhs; simp only [List.drop_succ_cons, List.drop_zero, List.take_succ_cons, List.take_zero])) (by first | rfl | assumption | (refine (ints_len _).trans ?_; assumption) | (simp [*]; (first | done | fail))))) zE ⟨p3, c3, p4, c4, rfl, rfl, rfl⟩
end Go.Proofs.YtmnmcjdgnpgchaaGreat

namespace Go.Proofs.YtmnmcjdgnpgchaaGreat
open Go X
set_option maxHeartbeats 1000000
end Go.Proofs.YtmnmcjdgnpgchaaGreat

namespace Go.Proofs.YtmnmcjdgnpgchaaGreat
open Go X
set_option maxHeartbeats 1000000
theorem code_fit {p : Pr} (h : checkP p = 0) {i : Nat} {x : In} (hx : (codeOf p)[i]? = some x) :
    popA x.op ≤ hts ((codeOf p).take i) ∧ hts ((codeOf p).take (i + 1)) ≤ 24 ∧ ((x.op = 13 ∨ x.op = 14) → hts ((codeOf p).take (i + 1)) = 0) ∧ (x.op = 16 ↔ i = (codeOf p).length - 1) ∧ cellOk (sizes p.vars) x := by
  obtain ⟨hF, hz, -⟩ := code_fits h
  generalize stsCode p.vars p.body 0 = L at hF hz
  have hc : codeOf p = stsCode p.vars p.body 0 ++ [⟨16, 0, 0, 0⟩] := rfl
  obtain ⟨hF, hz, -⟩ := code_fits h
  rw [hc] at hx ⊢
  generalize stsCode p.vars p.body 0 = L at *
  have hlen : (L ++ [(⟨16, 0, 0, 0⟩ : In)]).length - 1 = L.length := by simp
  rw [hlen]
  by_cases hi : i < L.length
  · rw [List.getElem?_append_left hi] at hx
    have := Fit.at hF hx
    rw [List.take_append_of_le_length (by omega), List.take_append_of_le_length (by omega)]
    simp only [Int.zero_add] at this
    exact ⟨this.1, this.2.1, this.2.2.1, ⟨fun e => absurd e this.2.2.2.2, fun e => absurd e (by omega)⟩, this.2.2.2.1⟩
  · have hil : i < (L ++ [(⟨16, 0, 0, 0⟩ : In)]).length := (List.getElem?_eq_some_iff.1 hx).1
    rw [List.length_append, List.length_singleton] at hil
    have hie : i = L.length := by omega
    subst hie
    rw [List.getElem?_append_right (Nat.le_refl _), Nat.sub_self] at hx
    simp only [List.getElem?_cons_zero, Option.some.injEq] at hx
    subst hx
    rw [List.take_left, List.take_of_length_le (by simp), hts_app, hz, hts_one]
    refine ⟨by simp [popA], by simp [dl, popA, popB], fun g => by simp at g, ⟨fun _ => rfl, fun _ => rfl⟩, ⟨fun g => by simp at g, fun g => by simp at g⟩⟩
theorem code_jump {p : Pr} (h : checkP p = 0) {x : In} (hx : x ∈ codeOf p) (ho : x.op = 13 ∨ x.op = 14) : ∃ j : Nat, x.a = j ∧ j < (codeOf p).length ∧ hts ((codeOf p).take j) = 0 := by
  have hc : codeOf p = stsCode p.vars p.body 0 ++ [⟨16, 0, 0, 0⟩] := rfl
  obtain ⟨-, -, hJ⟩ := code_fits h
  rw [hc] at hx ⊢
  rcases List.mem_append.1 hx with hx | hx
  · obtain ⟨j, e, hj, hz⟩ := hJ x hx ho
    exact ⟨j, by rw [e]; congr 1; omega, by rw [List.length_append, List.length_singleton]; omega, by rw [List.take_append_of_le_length hj, hz]⟩
  · rw [List.mem_singleton.1 hx] at ho; simp at ho
theorem splice_set (l : List Int) {i : Nat} (w : Int) (hi : i < l.length) : splice (ints l) i [i64 w] = ints (l.set i w) := by
  simp only [splice, ints, List.length_singleton, List.map_set]
  rw [List.set_eq_take_append_cons_drop, if_pos (by simpa using hi)]
  simp
end Go.Proofs.YtmnmcjdgnpgchaaGreat

namespace Go.Proofs.YtmnmcjdgnpgchaaGreat
open Go X
set_option maxHeartbeats 2000000
theorem pints_frz {σ : PH} {p : Option Addr} {n c : Nat} {xs : List Int} (hx : xs.length = n) (h : n ≤ c ∧ c ≤ maxLen ∧ (ints xs).length = n * 1 ∧ (0 < n → ∃ g o, p = some ⟨g, o, none⟩ ∧ PRow σ g o (ints xs))) : PInts σ (.slice p n c) xs := by
  subst hx
  exact ⟨p, c, rfl, h.1, h.2.1, h.2.2.2⟩
def KeptAt (σ : PH) (k0 k1 k2 k3 k4 k5 : Value) (m : Mi) : Prop := ∃ p c p' c', k0 = i64 m.next ∧ k1 = .slice p m.stack.length c ∧ k2 = i64 m.rd ∧ k3 = i64 m.outn ∧ k4 = i64 m.st ∧ k5 = .slice p' m.cells.length c' ∧ PInts σ (.slice p m.stack.length c) m.stack.reverse ∧ PInts σ (.slice p' m.cells.length c') m.cells
theorem KeptAt.mono {σ σ' : PH} {k0 k1 k2 k3 k4 k5 : Value} {m : Mi} (h : KeptAt σ k0 k1 k2 k3 k4 k5 m) (hs : σ.sub σ') : KeptAt σ' k0 k1 k2 k3 k4 k5 m := by
  obtain ⟨p, c, p', c', e0, e1, e2, e3, e4, e5, h1, h2⟩ := h
  exact ⟨p, c, p', c', e0, e1, e2, e3, e4, e5, h1.mono hs, h2.mono hs⟩
def BeG (σ : PH) (g : Nat) (cv iv : Value) (b : Be) (Γ : List HP) : Prop := ∃ sp sc pl cl op oc k0 k1 k2 k3 k4 k5, KeptAt σ k0 k1 k2 k3 k4 k5 b.kept ∧ Γ = [blk g [cv, iv, i64 b.m.next, .slice sp b.m.stack.length sc, i64 b.m.rd, i64 b.m.outn, i64 b.m.st, .slice pl b.m.cells.length cl, k0, k1, k2, k3, k4, k5, .slice op b.out.length oc, .bool b.wrong] 80,
  lst 2 1 (.slice sp b.m.stack.length sc) b.m.stack.length (ints b.m.stack.reverse), lst 2 1 (.slice pl b.m.cells.length cl) b.m.cells.length (ints b.m.cells), lst 2 1 (.slice op b.out.length oc) b.out.length (ints b.out)]
theorem BeG.mono {σ σ' : PH} {g : Nat} {cv iv : Value} {b : Be} {Γ : List HP} (h : BeG σ g cv iv b Γ) (hs : σ.sub σ') : BeG σ' g cv iv b Γ := by
  obtain ⟨sp, sc, pl, cl, op, oc, k0, k1, k2, k3, k4, k5, hk, rfl⟩ := h
  exact ⟨sp, sc, pl, cl, op, oc, k0, k1, k2, k3, k4, k5, hk.mono hs, rfl⟩
theorem BeG.of {σ : PH} {g : Nat} {cv iv : Value} {next rd outn : Nat} {stack cells out : List Int} {st : Int} {kept : Mi} {wrong : Bool} {sp pl op : Option Addr} {sc cl oc : Nat} {k0 k1 k2 k3 k4 k5 : Value} (hk : KeptAt σ k0 k1 k2 k3 k4 k5 kept) :
    BeG σ g cv iv ⟨⟨next, stack, rd, outn, st, cells⟩, kept, out, wrong⟩ [blk g [cv, iv, i64 next, .slice sp stack.length sc, i64 rd, i64 outn, i64 st, .slice pl cells.length cl, k0, k1, k2, k3, k4, k5, .slice op out.length oc, .bool wrong] 80,
      lst 2 1 (.slice sp stack.length sc) stack.length (ints stack.reverse), lst 2 1 (.slice pl cells.length cl) cells.length (ints cells), lst 2 1 (.slice op out.length oc) out.length (ints out)] := ⟨sp, sc, pl, cl, op, oc, k0, k1, k2, k3, k4, k5, hk, rfl⟩
theorem step_done (σ : PH) (g : Nat) (cv iv : Value) (b : Be) (keep : Bool) (Γ : List HP) (hB : BeG σ g cv iv b Γ) (hst : b.m.st ≠ 0) :
    CallsA Tryz.prog 38 #[ptr g, .bool keep] σ Γ (RetA fun v σ' Γ' => v = .bool false ∧ σ = σ' ∧ BeG σ' g cv iv b Γ') := by
  obtain ⟨⟨next, stack, rd, outn, st, cells⟩, kept, out, wrong⟩ := b
  obtain ⟨sp, sc, pl, cl, op, oc, k0, k1, k2, k3, k4, k5, hk, rfl⟩ := hB
  simp only at hst hk ⊢
  refine enterA2 Tryz.func38 rfl rfl rfl ?_; refine zS (zR (yS ?_)); refine zN (zT (zS (zS (zR (yA ?_))))); refine zO rfl (Rd.nilCheck rfl) ?_; refine yV ?_; refine yV ?_; refine yB ?_; refine zO rfl (Rd.neq rfl rfl) ?_; refine zN (zT (XA.condT rfl (decide_eq_true hst) (zS (zR (yS ?_)))))
  refine zN (zT (XA.ret (DA.thn_ret ?_)))
  exact bodyA.ret (ResA.one rfl rfl) zE ⟨rfl, rfl, BeG.of hk⟩
theorem cells_read {cells : List Int} {rest : List Value} {a : Nat} (h : a < cells.length) : (ints cells ++ rest)[a]? = some (i64 (cells.getD a 0)) := by
  rw [List.getElem?_append_left (by simpa [ints] using h)]
  simp [ints, h]
theorem cells_write {cells : List Int} {rest : List Value} {a : Nat} (n : Int) (h : a < cells.length) : splice (ints cells ++ rest) a [i64 n] = ints (cells.set a n) ++ rest := by
  have e := splice_set cells n h
  rw [← e]
  have hl : (ints cells).length = cells.length := by simp [ints]
  simp only [splice, List.length_singleton]
  rw [List.take_append_of_le_length (by omega), List.drop_append_of_le_length (by omega)]
  simp
structure StepOk (code : List In) (inp : List Int) (b : Be) (x : In) : Prop where
  st : b.m.st = 0
  at_ : code[b.m.next]? = some x
  pop : popA x.op ≤ b.m.stack.length
  cell : cellOk b.m.cells.length x
  goto : (x.op = 13 ∨ x.op = 14) → 0 ≤ x.a
  stack : b.m.stack.length ≤ 900
  cells : b.m.cells.length ≤ 1000
  code : code.length ≤ 1000000
  rd : b.m.rd ≤ 1000000
  outs : b.out.length ≤ 1000000
  outn : b.m.outn ≤ b.out.length
theorem step_b (σ : PH) (g : Nat) (pc : Option Addr) (cc : Nat) (code : List In) (iv : Value) (inp : List Int) (b : Be) (x : In) (keep : Bool) (Γ : List HP) (hc : PSl 4 rIn σ (.slice pc code.length cc) code) (hi : PInts σ iv inp) (hB : BeG σ g (.slice pc code.length cc) iv b Γ) (hk : StepOk code inp b x) :
    CallsA Tryz.prog 38 #[ptr g, .bool keep] σ Γ (RetA fun v σ' Γ' => v = .bool true ∧ σ.sub σ' ∧ BeG σ' g (.slice pc code.length cc) iv (stepB code inp keep b) Γ') := by
  obtain ⟨pi, ci, rfl, hil, him⟩ := hi.shape
  obtain ⟨⟨next, stack, rd, outn, st, cells⟩, kept, out, wrong⟩ := b
  obtain ⟨sp, sc, pl, cl, op, oc, k0, k1, k2, k3, k4, k5, hkp, rfl⟩ := hB
  obtain ⟨hst, hx, hpop, ⟨hcell, hcell2⟩, hgo, hsl, hcl, hcd, hrd, hol, hon⟩ := hk
  simp only at hst hx hpop hcell hcell2 hsl hcl hcd hrd hol hon hkp
  simp only [maxLen] at him
  subst hst
  obtain ⟨xop, xa, xb, xn⟩ := x
  simp only at hpop hcell hcell2 hgo
  have hlt := (List.getElem?_eq_some_iff.1 hx).1
  obtain ⟨gc, oc', row, rfl, hrx, hrl, hrow⟩ := hc.at hx
  obtain rfl : row = [i64 xop, i64 xa, i64 xb, i64 xn] := hrx
  have hS : stepB code inp keep ⟨⟨next, stack, rd, outn, 0, cells⟩, kept, out, wrong⟩ = doIn inp keep ⟨xop, xa, xb, xn⟩ ⟨⟨next + 1, stack, rd, outn, 0, cells⟩, kept, out, wrong⟩ := by
    rw [stepB, hx]; rfl
  rw [hS]
  clear hS
  dsimp only
  refine enterA2 Tryz.func38 rfl rfl rfl ?_; refine zS (zR (yS ?_)); refine zN (zT (zS (zS (zR (yA ?_))))); refine zO rfl (Rd.nilCheck rfl) ?_; refine yV ?_; refine yV ?_; refine yB ?_; refine zO rfl (Rd.neq rfl rfl) ?_; refine zN (zT (yF rfl rfl (XA.skip (zT (zS ?_)))))
  refine XA.draw (by kernel_rfl) _ _ [12] [(0, .pu), (1, .pu), (2, .pu), (3, .rd), (4, .pu), (5, .pu), (6, .pu), (7, .pu), (8, .rd), (9, .pu), (10, .rd), (11, .wr), (12, .wr)] (by kernel_rfl) (PH.sub.refl _) (Ent.sel (R := blk g _ _) zL (Ent.nil _)) ?_
  refine zu rfl rfl Rd.mv ?_; refine zu rfl rfl (Rd.nilCheck rfl) ?_; refine zu rfl rfl (Rd.fA rfl) ?_; refine XPA.rd rfl rfl Gd.free (Rd.ldC rfl (tyrow rfl) rfl) ?_; refine zu rfl rfl Rd.mv ?_; refine zu rfl rfl (Rd.nilCheck rfl) ?_; refine zu rfl rfl (Rd.fA rfl) ?_; refine zu rfl rfl (Rd.fA rfl) ?_
  refine XPA.rd rfl rfl Gd.free (Rd.ldC rfl (tyrow rfl) rfl) ?_; refine zu rfl rfl (Rd.ixS rfl rfl) ?_; refine XPA.rd rfl rfl Gd.free (Rd.ldA rfl) ?_; refine XPA.wr0 rfl rfl Gd.free (WrA.alloc (tyrow rfl)) ?_
  rintro _ _ _ ⟨g5, rfl, rfl, rfl⟩
  refine stays ?_
  refine XPA.wrZ0 rfl rfl Gd.free (by kernel_rfl) (WrA.st (tyrow rfl) rfl) ?_
  rintro _ _ _ ⟨rfl, rfl, rfl⟩
  refine XPA.nil ?_; refine zT (zS (zR (yA ?_))); refine zO rfl (Rd.nilCheck rfl) ?_; refine yV ?_; refine yV ?_; refine yB ?_; refine zO rfl zI ?_; refine zO rfl (Rd.nilCheck rfl) ?_; refine yV ?_; refine yV ?_; refine zw rfl (WrA.st (tyrow rfl) rfl) ?_
  rintro _ _ _ ⟨rfl, rfl, rfl⟩
  refine zN (zT (zS (zS (zR (yV ?_))))); refine yB ?_; refine zN (zT (XA.block (zS (zR (yE ?_))))); refine yS ?_; refine zN (zT ?_)
  by_cases h1 : xop = 1
  · subst h1
    clear hx
    have hsl1 : stack.length ≤ 1000 := by omega
    rw [show doIn inp keep ⟨1, xa, xb, xn⟩ ⟨⟨next + 1, stack, rd, outn, 0, cells⟩, kept, out, wrong⟩ = ⟨⟨next + 1, xn :: stack, rd, outn, 0, cells⟩, kept, out, wrong⟩ from rfl]
    refine yT rfl rfl (zR (yA ?_)); refine yV ?_; refine yB ?_; refine zw rfl (WrA.cE (push_b σ g _ _ _ _ _ _ _ _ _ _ _ _ _ _ _ _ _ (_) _ hsl1) rfl) ?_
    rintro _ _ _ ⟨_, ⟨p1, c1, rfl, rfl, rfl⟩, rfl⟩
    refine XOA.cl ?_; refine zN (DA.inb_normal (zT (zS (zR (yS ?_))))); refine zN (zT (XA.ret ?_))
    exact bodyA.ret (ResA.one rfl rfl) zE ⟨rfl, .refl _, BeG.of hkp⟩
  by_cases h2 : xop = 2
  · subst h2
    clear hx
    have hsl1 : stack.length ≤ 1000 := by omega
    obtain ⟨ha0, ha1⟩ := hcell (.inl rfl)
    obtain ⟨a, rfl⟩ : ∃ a : Nat, xa = a := ⟨xa.toNat, by omega⟩
    have ha2 : a < cells.length := by omega
    rw [show doIn inp keep ⟨2, (a : Int), xb, xn⟩ ⟨⟨next + 1, stack, rd, outn, 0, cells⟩, kept, out, wrong⟩ = ⟨⟨next + 1, cells.getD a 0 :: stack, rd, outn, 0, cells⟩, kept, out, wrong⟩ from rfl]
    first | refine XA.opn (R := lst 2 1 (.slice pl cells.length cl) _ _) zL (lst_openW (by omega)) ?_ | refine XOA.opn (R := lst 2 1 (.slice pl cells.length cl) _ _) zL (lst_openW (by omega)) ?_ | refine DA.opn (R := lst 2 1 (.slice pl cells.length cl) _ _) zL (lst_openW (by omega)) ?_
    rintro ⟨g6, rest⟩ ⟨rfl, hcc, hcm, hcx, hcr⟩
    first | refine XA.cl ?_ | refine XOA.cl ?_ | refine DA.cl ?_
    have hv : (ints cells ++ rest)[a]? = some (i64 (cells.getD a 0)) := cells_read ha2
    refine yF rfl rfl (zS (zR (yE ?_))); refine yS ?_; refine zN (zT (yT rfl rfl ?_))
    refine XA.draw (by kernel_rfl) _ _ [10] [(0, .pu), (1, .pu), (2, .pu), (3, .pu), (4, .pu), (5, .rd), (6, .pu), (7, .rd), (8, .pu), (9, .rd), (10, .wr)] (by kernel_rfl) (PH.sub.refl _) (Ent.sel (R := blk g _ _) zL (Ent.sel (R := blk g5 _ _) zL (Ent.sel (R := blk g6 _ _) zL (Ent.nil _)))) ?_
    refine zu rfl rfl Rd.mv ?_; refine zu rfl rfl Rd.mv ?_; refine zu rfl rfl (Rd.nilCheck rfl) ?_; refine zu rfl rfl (Rd.fA rfl) ?_; refine zu rfl rfl (Rd.fA rfl) ?_; refine XPA.rd rfl rfl Gd.free (Rd.ldC rfl (tyrow rfl) rfl) ?_; refine zu rfl rfl (Rd.fA rfl) ?_
    refine XPA.rd rfl rfl Gd.free (Rd.ldC rfl (tyrow rfl) rfl) ?_; refine zu rfl rfl (Rd.ixS rfl rfl) ?_; refine XPA.rd rfl rfl Gd.free (Rd.ldC rfl (tyrow rfl) rfl) ?_
    refine XPA.wrZ0 rfl rfl Gd.free (by kernel_rfl) (WrA.cE (push_b σ g _ _ _ _ _ _ _ _ _ _ _ _ _ _ _ _ _ (_) _ hsl1) rfl) ?_
    rintro _ _ _ ⟨_, ⟨p1, c1, rfl, rfl, rfl⟩, rfl⟩
    refine XPA.cl ?_; refine XPA.nil ?_; refine DA.inb_normal (zT (zS (zR (yS ?_)))); refine zN (zT (XA.ret ?_))
    refine DA.ent (Ent.foldC (Θ := [blk g6 (ints (cells) ++ rest) 2]) zD (lst_close (size := 1) (n := cells.length) (c := cl) (rest := rest) (by simp [ints]) hcc hcm (by simpa [ints] using hcr)) (Ent.refl _)) ?_
    exact bodyA.ret (ResA.one rfl rfl) zE ⟨rfl, .refl _, BeG.of hkp⟩
  by_cases h3 : xop = 3
  · subst h3
    clear hx
    obtain ⟨k, s, rfl⟩ : ∃ n s, stack = n :: s := by
      cases stack with
      | nil => simp [popA] at hpop
      | cons n s => exact ⟨n, s, rfl⟩
    have hsl1 : s.length ≤ 1000 := by simp only [List.length_cons] at hsl; omega
    obtain ⟨hb0, hb1, hb2⟩ := hcell2 (by decide)
    obtain ⟨a, rfl⟩ : ∃ a : Nat, xa = a := ⟨xa.toNat, by omega⟩
    by_cases hk0 : k < 0
    · rw [show doIn inp keep ⟨3, (a : Int), xb, xn⟩ ⟨⟨next + 1, k :: s, rd, outn, 0, cells⟩, kept, out, wrong⟩ = ⟨⟨next + 1, s, rd, outn, 13, cells⟩, kept, out, wrong⟩ by simp [doIn, hk0]]
      refine yF rfl rfl (zS (zR (yE ?_))); refine yS ?_; refine zN (zT (yF rfl rfl (zS (zR (yE ?_))))); refine yS ?_; refine zN (zT (yT rfl rfl (zS (zR (yA ?_))))); refine yC (pop_b σ g _ _ _ _ _ _ _ _ _ _ _ _ _ _ _ _ _ (s) _ hsl1) ?_; refine yS ?_; refine zN (zT (zS (zR (yA ?_))))
      refine zO rfl (Rd.lss rfl rfl) ?_; refine yA ?_
      first | refine gA ?_ | refine zH ?_
      first | refine gV ?_ | refine zH ?_
      first | refine gB ?_ | refine zH ?_
      first | (refine zG ?_; refine zO rfl (Rd.geq rfl rfl) ?_) | refine zH ?_
      refine zO rfl zP ?_; refine zN (zT (XA.condT rfl (by first | rfl | exact decide_eq_true (by omega)) ?_)); refine zR (yA ?_); refine zO rfl (Rd.nilCheck rfl) ?_; refine yV ?_; refine yV ?_
      refine zw rfl (WrA.st (tyrow rfl) rfl) ?_
      rintro _ _ _ ⟨rfl, rfl, rfl⟩
      refine zN (DA.inb_normal (zT (zS (zR (yS ?_))))); refine zN (zT (XA.ret ?_))
      exact bodyA.ret (ResA.one rfl rfl) zE ⟨rfl, .refl _, BeG.of hkp⟩
    by_cases hk2 : xb ≤ k
    · rw [show doIn inp keep ⟨3, (a : Int), xb, xn⟩ ⟨⟨next + 1, k :: s, rd, outn, 0, cells⟩, kept, out, wrong⟩ = ⟨⟨next + 1, s, rd, outn, 13, cells⟩, kept, out, wrong⟩ by simp [doIn, hk2]]
      refine yF rfl rfl (zS (zR (yE ?_))); refine yS ?_; refine zN (zT (yF rfl rfl (zS (zR (yE ?_))))); refine yS ?_; refine zN (zT (yT rfl rfl (zS (zR (yA ?_))))); refine yC (pop_b σ g _ _ _ _ _ _ _ _ _ _ _ _ _ _ _ _ _ (s) _ hsl1) ?_; refine yS ?_; refine zN (zT (zS (zR (yA ?_))))
      refine zO rfl (Rd.lss rfl rfl) ?_; refine yA ?_
      first | refine gA ?_ | refine zH ?_
      first | refine gV ?_ | refine zH ?_
      first | refine gB ?_ | refine zH ?_
      first | (refine zG ?_; refine zO rfl (Rd.geq rfl rfl) ?_) | refine zH ?_
      refine zO rfl zP ?_; refine zN (zT (XA.condT rfl (by first | rfl | exact decide_eq_true (by omega)) ?_)); refine zR (yA ?_); refine zO rfl (Rd.nilCheck rfl) ?_; refine yV ?_; refine yV ?_
      refine zw rfl (WrA.st (tyrow rfl) rfl) ?_
      rintro _ _ _ ⟨rfl, rfl, rfl⟩
      refine zN (DA.inb_normal (zT (zS (zR (yS ?_))))); refine zN (zT (XA.ret ?_))
      exact bodyA.ret (ResA.one rfl rfl) zE ⟨rfl, .refl _, BeG.of hkp⟩
    obtain ⟨j, rfl⟩ : ∃ j : Nat, k = j := ⟨k.toNat, by omega⟩
    have ha2 : a + j < cells.length := by omega
    have hk1 : ¬ ((j : Int) < 0 ∨ xb ≤ (j : Int)) := by omega
    rw [show doIn inp keep ⟨3, (a : Int), xb, xn⟩ ⟨⟨next + 1, (j : Int) :: s, rd, outn, 0, cells⟩, kept, out, wrong⟩ = ⟨⟨next + 1, cells.getD (a + j) 0 :: s, rd, outn, 0, cells⟩, kept, out, wrong⟩ by simp [doIn, hk2, show ((a : Int) + (j : Int)).toNat = a + j by omega]]
    refine yF rfl rfl (zS (zR (yE ?_))); refine yS ?_; refine zN (zT (yF rfl rfl (zS (zR (yE ?_))))); refine yS ?_; refine zN (zT (yT rfl rfl (zS (zR (yA ?_))))); refine yC (pop_b σ g _ _ _ _ _ _ _ _ _ _ _ _ _ _ _ _ _ (s) _ hsl1) ?_; refine yS ?_; refine zN (zT (zS (zR (yA ?_))))
    refine zO rfl (Rd.lss rfl rfl) ?_; refine yA ?_
    first | refine gA ?_ | refine zH ?_
    first | refine gV ?_ | refine zH ?_
    first | refine gB ?_ | refine zH ?_
    first | (refine zG ?_; refine zO rfl (Rd.geq rfl rfl) ?_) | refine zH ?_
    refine zO rfl zP ?_; refine zN (zT ?_)
    first | refine XA.opn (R := lst 2 1 (.slice pl cells.length cl) _ _) zL (lst_openW (by omega)) ?_ | refine XOA.opn (R := lst 2 1 (.slice pl cells.length cl) _ _) zL (lst_openW (by omega)) ?_ | refine DA.opn (R := lst 2 1 (.slice pl cells.length cl) _ _) zL (lst_openW (by omega)) ?_
    rintro ⟨g6, rest⟩ ⟨rfl, hcc, hcm, hcx, hcr⟩
    first | refine XA.cl ?_ | refine XOA.cl ?_ | refine DA.cl ?_
    have hv : (ints cells ++ rest)[a + j]? = some (i64 (cells.getD (a + j) 0)) := cells_read ha2
    have hv2 : IntKind.i64.wrap ((a : Int) + (j : Int)) = ((a + j : Nat) : Int) := by rw [X.wrap64_in (by omega) (by omega)]; omega
    refine XA.condF rfl (by first | rfl | exact decide_eq_false (by omega)) ?_
    refine XA.draw (by kernel_rfl) _ _ [12] [(0, .pu), (1, .pu), (2, .pu), (3, .pu), (4, .pu), (5, .rd), (6, .pu), (7, .rd), (8, .pu), (9, .pu), (10, .pu), (11, .rd), (12, .wr)] (by kernel_rfl) (PH.sub.refl _) (Ent.sel (R := blk g _ _) zL (Ent.sel (R := blk g5 _ _) zL (Ent.sel (R := blk g6 _ _) zL (Ent.nil _)))) ?_
    refine zu rfl rfl Rd.mv ?_; refine zu rfl rfl Rd.mv ?_; refine zu rfl rfl (Rd.nilCheck rfl) ?_; refine zu rfl rfl (Rd.fA rfl) ?_; refine zu rfl rfl (Rd.fA rfl) ?_; refine XPA.rd rfl rfl Gd.free (Rd.ldC rfl (tyrow rfl) rfl) ?_; refine zu rfl rfl (Rd.fA rfl) ?_
    refine XPA.rd rfl rfl Gd.free (Rd.ldC rfl (tyrow rfl) rfl) ?_; refine zu rfl rfl Rd.mv ?_; refine zu rfl rfl zI ?_; refine zu rfl rfl (Rd.ixS rfl rfl) ?_; refine XPA.rd rfl rfl Gd.free (Rd.ldC rfl (tyrow rfl) rfl) ?_
    refine XPA.wrZ0 rfl rfl Gd.free (by kernel_rfl) (WrA.cE (push_b σ g _ _ _ _ _ _ _ _ _ _ _ _ _ _ _ _ _ (_) _ hsl1) rfl) ?_
    rintro _ _ _ ⟨_, ⟨p1, c1, rfl, rfl, rfl⟩, rfl⟩
    refine XPA.cl ?_; refine XPA.nil ?_; refine DA.inb_normal (zT (zS (zR (yS ?_)))); refine zN (zT (XA.ret ?_))
    refine DA.ent (Ent.foldC (Θ := [blk g6 (ints (cells) ++ rest) 2]) zD (lst_close (size := 1) (n := cells.length) (c := cl) (rest := rest) (by simp [ints]) hcc hcm (by simpa [ints] using hcr)) (Ent.refl _)) ?_
    exact bodyA.ret (ResA.one rfl rfl) zE ⟨rfl, .refl _, BeG.of hkp⟩
  by_cases h4 : xop = 4
  · subst h4
    clear hx
    obtain ⟨y, z, s, rfl⟩ : ∃ y z s, stack = y :: z :: s := by
      cases stack with
      | nil => simp [popA] at hpop
      | cons y s => cases s with
        | nil => simp [popA] at hpop
        | cons z s => exact ⟨y, z, s, rfl⟩
    have hsl1 : s.length ≤ 1000 := by simp only [List.length_cons] at hsl; omega
    have hsl2 : (z :: s).length ≤ 1000 := by simp only [List.length_cons] at hsl ⊢; omega
    rw [show doIn inp keep ⟨4, xa, xb, xn⟩ ⟨⟨next + 1, y :: z :: s, rd, outn, 0, cells⟩, kept, out, wrong⟩ = ⟨⟨next + 1, wrap_ (z + y) :: s, rd, outn, 0, cells⟩, kept, out, wrong⟩ from rfl]
    refine yF rfl rfl (zS (zR (yE ?_))); refine yS ?_; refine zN (zT (yF rfl rfl (zS (zR (yE ?_))))); refine yS ?_; refine zN (zT (yF rfl rfl (zS (zS (zR (yE ?_)))))); refine yS ?_; refine zN (zT (yT rfl rfl (XA.skip (zT (yT rfl rfl (zS (zR (yA ?_))))))))
    refine yC (pop_b σ g _ _ _ _ _ _ _ _ _ _ _ _ _ _ _ _ _ (z :: s) _ hsl2) ?_; refine yS ?_; refine zN (zT (zS (zR (yA ?_)))); refine yC (pop_b σ g _ _ _ _ _ _ _ _ _ _ _ _ _ _ _ _ _ (s) _ hsl1) ?_; refine yS ?_; refine zN (zT (zS (zR (yV ?_)))); refine yB ?_; refine zN (zT (XA.block (zS (zR (yE ?_)))))
    refine yS ?_; refine zN (zT (yT rfl rfl (zR (yA ?_)))); refine yA ?_; refine yA ?_; refine zO rfl zI ?_; refine zw rfl (WrA.cE (push_b σ g _ _ _ _ _ _ _ _ _ _ _ _ _ _ _ _ _ (_) _ hsl1) rfl) ?_
    rintro _ _ _ ⟨_, ⟨p1, c1, rfl, rfl, rfl⟩, rfl⟩
    refine XOA.cl ?_; refine zN (DA.inb_normal (DA.inb_normal (zT (zS (zR (yS ?_)))))); refine zN (zT (XA.ret ?_))
    exact bodyA.ret (ResA.one rfl rfl) zE ⟨rfl, .refl _, BeG.of hkp⟩
  by_cases h5 : xop = 5
  · subst h5
    clear hx
    obtain ⟨y, z, s, rfl⟩ : ∃ y z s, stack = y :: z :: s := by
      cases stack with
      | nil => simp [popA] at hpop
      | cons y s => cases s with
        | nil => simp [popA] at hpop
        | cons z s => exact ⟨y, z, s, rfl⟩
    have hsl1 : s.length ≤ 1000 := by simp only [List.length_cons] at hsl; omega
    have hsl2 : (z :: s).length ≤ 1000 := by simp only [List.length_cons] at hsl ⊢; omega
    rw [show doIn inp keep ⟨5, xa, xb, xn⟩ ⟨⟨next + 1, y :: z :: s, rd, outn, 0, cells⟩, kept, out, wrong⟩ = ⟨⟨next + 1, wrap_ (z - y) :: s, rd, outn, 0, cells⟩, kept, out, wrong⟩ from rfl]
    refine yF rfl rfl (zS (zR (yE ?_))); refine yS ?_; refine zN (zT (yF rfl rfl (zS (zR (yE ?_))))); refine yS ?_; refine zN (zT (yF rfl rfl (zS (zS (zR (yE ?_)))))); refine yS ?_; refine zN (zT (yF rfl rfl (zS (zR (yE ?_))))); refine yS ?_
    refine zN (zT (yT rfl rfl (XA.skip (zT (yT rfl rfl (zS (zR (yA ?_)))))))); refine yC (pop_b σ g _ _ _ _ _ _ _ _ _ _ _ _ _ _ _ _ _ (z :: s) _ hsl2) ?_; refine yS ?_; refine zN (zT (zS (zR (yA ?_)))); refine yC (pop_b σ g _ _ _ _ _ _ _ _ _ _ _ _ _ _ _ _ _ (s) _ hsl1) ?_; refine yS ?_
    refine zN (zT (zS (zR (yV ?_)))); refine yB ?_; refine zN (zT (XA.block (zS (zR (yE ?_))))); refine yS ?_; refine zN (zT (yF rfl rfl (zS (zR (yE ?_)))))
    refine yS ?_; refine zN (zT (yT rfl rfl (zR (yA ?_)))); refine yA ?_; refine yA ?_; refine zO rfl (by first | exact Rd.sbi rfl rfl | exact Rd.sub rfl rfl) ?_
    refine zw rfl (WrA.cE (push_b σ g _ _ _ _ _ _ _ _ _ _ _ _ _ _ _ _ _ (_) _ hsl1) rfl) ?_
    rintro _ _ _ ⟨_, ⟨p1, c1, rfl, rfl, rfl⟩, rfl⟩
    refine XOA.cl ?_; refine zN (DA.inb_normal (DA.inb_normal (zT (zS (zR (yS ?_)))))); refine zN (zT (XA.ret ?_))
    exact bodyA.ret (ResA.one rfl rfl) zE ⟨rfl, .refl _, BeG.of hkp⟩
  by_cases h6 : xop = 6
  · subst h6
    clear hx
    obtain ⟨y, z, s, rfl⟩ : ∃ y z s, stack = y :: z :: s := by
      cases stack with
      | nil => simp [popA] at hpop
      | cons y s => cases s with
        | nil => simp [popA] at hpop
        | cons z s => exact ⟨y, z, s, rfl⟩
    have hsl1 : s.length ≤ 1000 := by simp only [List.length_cons] at hsl; omega
    have hsl2 : (z :: s).length ≤ 1000 := by simp only [List.length_cons] at hsl ⊢; omega
    rw [show doIn inp keep ⟨6, xa, xb, xn⟩ ⟨⟨next + 1, y :: z :: s, rd, outn, 0, cells⟩, kept, out, wrong⟩ = ⟨⟨next + 1, wrap_ (z * y) :: s, rd, outn, 0, cells⟩, kept, out, wrong⟩ from rfl]
    refine yF rfl rfl (zS (zR (yE ?_))); refine yS ?_; refine zN (zT (yF rfl rfl (zS (zR (yE ?_))))); refine yS ?_; refine zN (zT (yF rfl rfl (zS (zS (zR (yE ?_)))))); refine yS ?_; refine zN (zT (yF rfl rfl (zS (zR (yE ?_))))); refine yS ?_; refine zN (zT (yF rfl rfl (zS (zR (yE ?_))))); refine yS ?_
    refine zN (zT (yT rfl rfl (XA.skip (zT (yT rfl rfl (zS (zR (yA ?_)))))))); refine yC (pop_b σ g _ _ _ _ _ _ _ _ _ _ _ _ _ _ _ _ _ (z :: s) _ hsl2) ?_; refine yS ?_; refine zN (zT (zS (zR (yA ?_)))); refine yC (pop_b σ g _ _ _ _ _ _ _ _ _ _ _ _ _ _ _ _ _ (s) _ hsl1) ?_; refine yS ?_
    refine zN (zT (zS (zR (yV ?_)))); refine yB ?_; refine zN (zT (XA.block (zS (zR (yE ?_))))); refine yS ?_; refine zN (zT (yF rfl rfl (zS (zR (yE ?_)))))
    refine yS ?_; refine zN (zT (yF rfl rfl (zS (zR (yE ?_))))); refine yS ?_; refine zN (zT (yT rfl rfl (zR (yA ?_)))); refine yA ?_; refine yA ?_; refine zO rfl (by first | exact Rd.mli rfl rfl | exact Rd.mul rfl rfl) ?_
    refine zw rfl (WrA.cE (push_b σ g _ _ _ _ _ _ _ _ _ _ _ _ _ _ _ _ _ (_) _ hsl1) rfl) ?_
    rintro _ _ _ ⟨_, ⟨p1, c1, rfl, rfl, rfl⟩, rfl⟩
    refine XOA.cl ?_; refine zN (DA.inb_normal (DA.inb_normal (zT (zS (zR (yS ?_)))))); refine zN (zT (XA.ret ?_))
    exact bodyA.ret (ResA.one rfl rfl) zE ⟨rfl, .refl _, BeG.of hkp⟩
  by_cases h7 : xop = 7
  · subst h7
    clear hx
    obtain ⟨y, z, s, rfl⟩ : ∃ y z s, stack = y :: z :: s := by
      cases stack with
      | nil => simp [popA] at hpop
      | cons y s => cases s with
        | nil => simp [popA] at hpop
        | cons z s => exact ⟨y, z, s, rfl⟩
    have hsl1 : s.length ≤ 1000 := by simp only [List.length_cons] at hsl; omega
    have hsl2 : (z :: s).length ≤ 1000 := by simp only [List.length_cons] at hsl ⊢; omega
    rw [show doIn inp keep ⟨7, xa, xb, xn⟩ ⟨⟨next + 1, y :: z :: s, rd, outn, 0, cells⟩, kept, out, wrong⟩ = ⟨⟨next + 1, (if decide (z < y) = true then 1 else 0) :: s, rd, outn, 0, cells⟩, kept, out, wrong⟩ from by simp [doIn, binV]]
    refine yF rfl rfl (zS (zR (yE ?_))); refine yS ?_; refine zN (zT (yF rfl rfl (zS (zR (yE ?_))))); refine yS ?_; refine zN (zT (yF rfl rfl (zS (zS (zR (yE ?_)))))); (iterate 3 (refine yS ?_; refine zN (zT (yF rfl rfl (zS (zR (yE ?_))))))); refine yS ?_
    refine zN (zT (yT rfl rfl (XA.skip (zT (yT rfl rfl (zS (zR (yA ?_)))))))); refine yC (pop_b σ g _ _ _ _ _ _ _ _ _ _ _ _ _ _ _ _ _ (z :: s) _ hsl2) ?_; refine yS ?_; refine zN (zT (zS (zR (yA ?_)))); refine yC (pop_b σ g _ _ _ _ _ _ _ _ _ _ _ _ _ _ _ _ _ (s) _ hsl1) ?_; refine yS ?_
    refine zN (zT (zS (zR (yV ?_)))); refine yB ?_; refine zN (zT (XA.block (zS (zR (yE ?_))))); (iterate 3 (refine yS ?_; refine zN (zT (yF rfl rfl (zS (zR (yE ?_))))))); refine yS ?_; refine zN (zT (yT rfl rfl (zR (yA ?_)))); refine yA ?_; refine yA ?_; refine zO rfl (Rd.lss rfl rfl) ?_
    refine yC (bit_b σ _) ?_; refine zw rfl (WrA.cE (push_b σ g _ _ _ _ _ _ _ _ _ _ _ _ _ _ _ _ _ (_) _ hsl1) rfl) ?_
    rintro _ _ _ ⟨_, ⟨p1, c1, rfl, rfl, rfl⟩, rfl⟩
    refine XOA.cl ?_; refine zN (DA.inb_normal (DA.inb_normal (zT (zS (zR (yS ?_)))))); refine zN (zT (XA.ret ?_))
    exact bodyA.ret (ResA.one rfl rfl) zE ⟨rfl, .refl _, BeG.of hkp⟩
  by_cases h8 : xop = 8
  · subst h8
    clear hx
    obtain ⟨y, z, s, rfl⟩ : ∃ y z s, stack = y :: z :: s := by
      cases stack with
      | nil => simp [popA] at hpop
      | cons y s => cases s with
        | nil => simp [popA] at hpop
        | cons z s => exact ⟨y, z, s, rfl⟩
    have hsl1 : s.length ≤ 1000 := by simp only [List.length_cons] at hsl; omega
    have hsl2 : (z :: s).length ≤ 1000 := by simp only [List.length_cons] at hsl ⊢; omega
    rw [show doIn inp keep ⟨8, xa, xb, xn⟩ ⟨⟨next + 1, y :: z :: s, rd, outn, 0, cells⟩, kept, out, wrong⟩ = ⟨⟨next + 1, (if decide (z = y) = true then 1 else 0) :: s, rd, outn, 0, cells⟩, kept, out, wrong⟩ from by simp [doIn, binV]]
    refine yF rfl rfl (zS (zR (yE ?_))); refine yS ?_; refine zN (zT (yF rfl rfl (zS (zR (yE ?_))))); refine yS ?_; refine zN (zT (yF rfl rfl (zS (zS (zR (yE ?_)))))); (iterate 3 (refine yS ?_; refine zN (zT (yF rfl rfl (zS (zR (yE ?_))))))); refine yS ?_; refine zN (zT (yF rfl rfl (zR (yE ?_))))
    refine yS ?_; refine zN (zT (yT rfl rfl (zS (zR (yA ?_))))); refine yC (pop_b σ g _ _ _ _ _ _ _ _ _ _ _ _ _ _ _ _ _ (z :: s) _ hsl2) ?_; refine yS ?_; refine zN (zT (zS (zR (yA ?_)))); refine yC (pop_b σ g _ _ _ _ _ _ _ _ _ _ _ _ _ _ _ _ _ (s) _ hsl1) ?_; refine yS ?_
    refine zN (zT (zS (zR (yV ?_)))); refine yB ?_; refine zN (zT (XA.block (zS (zR (yE ?_))))); (iterate 3 (refine yS ?_; refine zN (zT (yF rfl rfl (zS (zR (yE ?_))))))); refine yS ?_; refine zN (zT (yF rfl rfl (zR (yA ?_)))); refine yA ?_; refine yA ?_; refine yE ?_; refine yC (bit_b σ _) ?_
    refine zw rfl (WrA.cE (push_b σ g _ _ _ _ _ _ _ _ _ _ _ _ _ _ _ _ _ (_) _ hsl1) rfl) ?_
    rintro _ _ _ ⟨_, ⟨p1, c1, rfl, rfl, rfl⟩, rfl⟩
    refine XOA.cl ?_; refine zN (DA.inb_normal (DA.inb_normal (zT (zS (zR (yS ?_)))))); refine zN (zT (XA.ret ?_))
    exact bodyA.ret (ResA.one rfl rfl) zE ⟨rfl, .refl _, BeG.of hkp⟩
  by_cases h9 : xop = 9
  · subst h9
    clear hx
    obtain ⟨n, s, rfl⟩ : ∃ n s, stack = n :: s := by
      cases stack with
      | nil => simp [popA] at hpop
      | cons n s => exact ⟨n, s, rfl⟩
    have hsl1 : s.length ≤ 1000 := by simp only [List.length_cons] at hsl; omega
    obtain ⟨ha0, ha1⟩ := hcell (by decide)
    obtain ⟨a, rfl⟩ : ∃ a : Nat, xa = a := ⟨xa.toNat, by omega⟩
    have ha2 : a < cells.length := by omega
    rw [show doIn inp keep ⟨9, (a : Int), xb, xn⟩ ⟨⟨next + 1, n :: s, rd, outn, 0, cells⟩, kept, out, wrong⟩ = ⟨⟨next + 1, s, rd, outn, 0, cells.set a n⟩, kept, out, wrong⟩ from rfl]
    have hcn : (cells.set a n).length = cells.length := by simp
    first | refine XA.opn (R := lst 2 1 (.slice pl cells.length cl) _ _) zL (lst_openW (by omega)) ?_ | refine XOA.opn (R := lst 2 1 (.slice pl cells.length cl) _ _) zL (lst_openW (by omega)) ?_ | refine DA.opn (R := lst 2 1 (.slice pl cells.length cl) _ _) zL (lst_openW (by omega)) ?_
    rintro ⟨g6, rest⟩ ⟨rfl, hcc, hcm, hcx, hcr⟩
    first | refine XA.cl ?_ | refine XOA.cl ?_ | refine DA.cl ?_
    have hspl : splice (ints cells ++ rest) a [i64 n] = ints (cells.set a n) ++ rest := cells_write n ha2
    have hfit : a + ty2.size ≤ (ints cells ++ rest).length := by rw [List.length_append, show (ints cells).length = cells.length by simp [ints]]; show a + 1 ≤ _; omega
    refine yF rfl rfl (zS (zR (yE ?_))); refine yS ?_; refine zN (zT (yF rfl rfl (zS (zR (yE ?_))))); refine yS ?_; refine zN (zT (yF rfl rfl (zS (zS (zR (yE ?_)))))); (iterate 3 (refine yS ?_; refine zN (zT (yF rfl rfl (zS (zR (yE ?_))))))); refine yS ?_; refine zN (zT (yF rfl rfl (zR (yE ?_))))
    refine yS ?_; refine zN (zT (yF rfl rfl (zS (zR (yE ?_))))); refine yS ?_; refine zN (zT (yT rfl rfl ?_))
    refine XA.join [(137, 146)] (fun _ : Unit => []) (fun _ σ' Γ' => σ = σ' ∧ Γ' = [blk g [.slice (some ⟨gc, oc', none⟩) code.length cc, .slice pi inp.length ci, i64 ((next : Int) + 1), .slice sp s.length sc, i64 rd, i64 outn, i64 0, .slice (some ⟨g6, 0, none⟩) cells.length cl, k0, k1, k2, k3, k4, k5, .slice op out.length oc, .bool wrong] 80, lst 2 1 (.slice sp s.length sc) s.length (ints s.reverse), blk g6 (ints (cells.set a n) ++ rest) 2, lst 2 1 (.slice op out.length oc) out.length (ints out)]) ?_ ?_
    · skip
      refine XA.drawQ (by kernel_rfl) _ _ [9, 10] 11 #[false, false, false, false, false, false, false, false, false, false, false] rfl rfl (by kernel_rfl) (PH.sub.refl _) (Ent.sel (R := blk g5 _ _) zL (Ent.nil _)) ?_
      refine qp 0 #[tT,fF,fF,fF,fF,fF,fF,fF,fF,fF,fF] rfl Rd.mv ?_; refine qp 1 #[tT,tT,fF,fF,fF,fF,fF,fF,fF,fF,fF] rfl (Rd.nilCheck rfl) ?_; refine qp 2 #[tT,tT,tT,fF,fF,fF,fF,fF,fF,fF,fF] rfl (Rd.fA rfl) ?_; refine qp 3 #[tT,tT,tT,tT,fF,fF,fF,fF,fF,fF,fF] rfl (Rd.fA rfl) ?_
      refine qp 5 #[tT,tT,tT,tT,fF,tT,fF,fF,fF,fF,fF] rfl (Rd.fA rfl) ?_; refine qr 6 #[tT,tT,tT,tT,fF,tT,tT,fF,fF,fF,fF] rfl (Rd.ldC rfl (tyrow rfl) rfl) ?_; refine qp 7 #[tT,tT,tT,tT,fF,tT,tT,tT,fF,fF,fF] rfl Rd.mv ?_
      refine XQA.w2 (i := 4) (j := 8) (by kernel_rfl) ?_ ?_
      · refine qw #[tT,tT,tT,tT,tT,tT,tT,tT,fF,fF,fF] rfl (Rd.toW (Rd.ldC rfl (tyrow rfl) rfl)) ?_
        rintro _ _ _ ⟨rfl, rfl, rfl⟩
        refine ⟨⟨zX, zE⟩, XQA.re zC ?_⟩
        refine qa 8 ?_; refine qw #[tT,tT,tT,tT,tT,tT,tT,tT,tT,fF,fF] rfl (WrA.cE (pop_b σ g _ _ _ _ _ _ _ _ _ _ _ _ _ _ _ _ _ s _ hsl1) rfl) ?_
        rintro _ _ _ ⟨_, ⟨rfl, rfl, rfl⟩, rfl⟩
        refine ⟨⟨zX, zE⟩, XQA.re zC ?_⟩
        refine qp 9 #[tT,tT,tT,tT,tT,tT,tT,tT,tT,tT,fF] rfl (Rd.ixS rfl rfl) ?_; refine qa 10 ?_
        refine XQA1.wrZ0 (listed' := #[tT,tT,tT,tT,tT,tT,tT,tT,tT,tT,tT]) rfl rfl Gd.free (by kernel_rfl) rfl (by kernel_rfl) (WrA.st (tyrow rfl) rfl) ?_
        rintro _ _ _ ⟨rfl, rfl, rfl⟩
        refine XQA.re zC ?_; refine XQA.nil rfl ?_
        refine DA.thn_normal ⟨zK, (), _, zM, ?_, rfl, rfl⟩; exact zE
      · refine qw #[tT,tT,tT,tT,fF,tT,tT,tT,tT,fF,fF] rfl (WrA.cE (pop_b σ g _ _ _ _ _ _ _ _ _ _ _ _ _ _ _ _ _ s _ hsl1) rfl) ?_
        rintro _ _ _ ⟨_, ⟨rfl, rfl, rfl⟩, rfl⟩
        refine ⟨⟨zX, zE⟩, XQA.re zC ?_⟩
        refine qa 4 ?_; refine qw #[tT,tT,tT,tT,tT,tT,tT,tT,tT,fF,fF] rfl (Rd.toW (Rd.ldC rfl (tyrow rfl) rfl)) ?_
        rintro _ _ _ ⟨rfl, rfl, rfl⟩
        refine ⟨⟨zX, zE⟩, XQA.re zC ?_⟩
        refine qp 9 #[tT,tT,tT,tT,tT,tT,tT,tT,tT,tT,fF] rfl (Rd.ixS rfl rfl) ?_; refine qa 10 ?_
        refine XQA1.wrZ0 (listed' := #[tT,tT,tT,tT,tT,tT,tT,tT,tT,tT,tT]) rfl rfl Gd.free (by kernel_rfl) rfl (by kernel_rfl) (WrA.st (tyrow rfl) rfl) ?_
        rintro _ _ _ ⟨rfl, rfl, rfl⟩
        refine XQA.re zC ?_; refine XQA.nil rfl ?_
        refine DA.thn_normal ⟨zK, (), _, zM, ?_, rfl, rfl⟩; exact zE
    rintro ⟨⟩ δ _ _ ⟨rfl, rfl⟩
    dsimp only [ovr, List.foldl]
    refine DA.inb_normal (zT (zS (zR (yS ?_)))); refine zN (zT (XA.ret ?_))
    refine DA.ent (Ent.foldC (Θ := [blk g6 (ints (cells.set a n) ++ rest) 2]) zD (lst_close (size := 1) (n := cells.length) (c := cl) (rest := rest) (by simp [ints]) hcc hcm (by simpa [ints] using hcr)) (Ent.refl _)) ?_
    rw [← hcn]
    exact bodyA.ret (ResA.one rfl rfl) zE ⟨rfl, .refl _, BeG.of hkp⟩
  by_cases h10 : xop = 10
  · subst h10
    clear hx
    obtain ⟨n, k, s, rfl⟩ : ∃ y z s, stack = y :: z :: s := by
      cases stack with
      | nil => simp [popA] at hpop
      | cons y s => cases s with
        | nil => simp [popA] at hpop
        | cons z s => exact ⟨y, z, s, rfl⟩
    have hsl1 : s.length ≤ 1000 := by simp only [List.length_cons] at hsl; omega
    have hsl2 : (k :: s).length ≤ 1000 := by simp only [List.length_cons] at hsl ⊢; omega
    obtain ⟨hb0, hb1, hb2⟩ := hcell2 (by decide)
    obtain ⟨a, rfl⟩ : ∃ a : Nat, xa = a := ⟨xa.toNat, by omega⟩
    by_cases hk0 : k < 0
    · rw [show doIn inp keep ⟨10, (a : Int), xb, xn⟩ ⟨⟨next + 1, n :: k :: s, rd, outn, 0, cells⟩, kept, out, wrong⟩ = ⟨⟨next + 1, s, rd, outn, 13, cells⟩, kept, out, wrong⟩ from by simp [doIn, hk0]]
      refine yF rfl rfl (zS (zR (yE ?_))); refine yS ?_; refine zN (zT (yF rfl rfl (zS (zR (yE ?_))))); refine yS ?_; refine zN (zT (yF rfl rfl (zS (zS (zR (yE ?_)))))); (iterate 3 (refine yS ?_; refine zN (zT (yF rfl rfl (zS (zR (yE ?_))))))); refine yS ?_; refine zN (zT (yF rfl rfl (zR (yE ?_))))
      refine yS ?_; refine zN (zT (yF rfl rfl (zS (zR (yE ?_))))); refine yS ?_; refine zN (zT (yF rfl rfl (zS (zR (yE ?_))))); refine yS ?_; refine zN (zT (yT rfl rfl (zS (zR (yA ?_))))); refine yC (pop_b σ g _ _ _ _ _ _ _ _ _ _ _ _ _ _ _ _ _ (k :: s) _ hsl2) ?_; refine yS ?_
      refine zN (zT (zS (zR (yA ?_)))); refine yC (pop_b σ g _ _ _ _ _ _ _ _ _ _ _ _ _ _ _ _ _ (s) _ hsl1) ?_; refine yS ?_; refine zN (zT (zS (zR (yA ?_)))); refine zO rfl (Rd.lss rfl rfl) ?_; refine yA ?_
      first | refine gA ?_ | refine zH ?_
      first | refine gV ?_ | refine zH ?_
      first | refine gB ?_ | refine zH ?_
      first | (refine zG ?_; refine zO rfl (Rd.geq rfl rfl) ?_) | refine zH ?_
      refine zO rfl zP ?_; refine zN (zT (XA.condT rfl (by first | rfl | exact decide_eq_true (by omega)) ?_)); refine zR (yA ?_); refine zO rfl (Rd.nilCheck rfl) ?_; refine yV ?_; refine yV ?_
      refine zw rfl (WrA.st (tyrow rfl) rfl) ?_
      rintro _ _ _ ⟨rfl, rfl, rfl⟩
      refine zN (DA.inb_normal (zT (zS (zR (yS ?_))))); refine zN (zT (XA.ret ?_))
      exact bodyA.ret (ResA.one rfl rfl) zE ⟨rfl, .refl _, BeG.of hkp⟩
    by_cases hk2 : xb ≤ k
    · rw [show doIn inp keep ⟨10, (a : Int), xb, xn⟩ ⟨⟨next + 1, n :: k :: s, rd, outn, 0, cells⟩, kept, out, wrong⟩ = ⟨⟨next + 1, s, rd, outn, 13, cells⟩, kept, out, wrong⟩ from by simp [doIn, hk2]]
      refine yF rfl rfl (zS (zR (yE ?_))); refine yS ?_; refine zN (zT (yF rfl rfl (zS (zR (yE ?_))))); refine yS ?_; refine zN (zT (yF rfl rfl (zS (zS (zR (yE ?_)))))); (iterate 3 (refine yS ?_; refine zN (zT (yF rfl rfl (zS (zR (yE ?_))))))); refine yS ?_; refine zN (zT (yF rfl rfl (zR (yE ?_))))
      refine yS ?_; refine zN (zT (yF rfl rfl (zS (zR (yE ?_))))); refine yS ?_; refine zN (zT (yF rfl rfl (zS (zR (yE ?_))))); refine yS ?_; refine zN (zT (yT rfl rfl (zS (zR (yA ?_))))); refine yC (pop_b σ g _ _ _ _ _ _ _ _ _ _ _ _ _ _ _ _ _ (k :: s) _ hsl2) ?_; refine yS ?_
      refine zN (zT (zS (zR (yA ?_)))); refine yC (pop_b σ g _ _ _ _ _ _ _ _ _ _ _ _ _ _ _ _ _ (s) _ hsl1) ?_; refine yS ?_; refine zN (zT (zS (zR (yA ?_)))); refine zO rfl (Rd.lss rfl rfl) ?_; refine yA ?_
      first | refine gA ?_ | refine zH ?_
      first | refine gV ?_ | refine zH ?_
      first | refine gB ?_ | refine zH ?_
      first | (refine zG ?_; refine zO rfl (Rd.geq rfl rfl) ?_) | refine zH ?_
      refine zO rfl zP ?_; refine zN (zT (XA.condT rfl (by first | rfl | exact decide_eq_true (by omega)) ?_)); refine zR (yA ?_); refine zO rfl (Rd.nilCheck rfl) ?_; refine yV ?_; refine yV ?_
      refine zw rfl (WrA.st (tyrow rfl) rfl) ?_
      rintro _ _ _ ⟨rfl, rfl, rfl⟩
      refine zN (DA.inb_normal (zT (zS (zR (yS ?_))))); refine zN (zT (XA.ret ?_))
      exact bodyA.ret (ResA.one rfl rfl) zE ⟨rfl, .refl _, BeG.of hkp⟩
    obtain ⟨j, rfl⟩ : ∃ j : Nat, k = j := ⟨k.toNat, by omega⟩
    have ha2 : a + j < cells.length := by omega
    rw [show doIn inp keep ⟨10, (a : Int), xb, xn⟩ ⟨⟨next + 1, n :: (j : Int) :: s, rd, outn, 0, cells⟩, kept, out, wrong⟩ = ⟨⟨next + 1, s, rd, outn, 0, cells.set (a + j) n⟩, kept, out, wrong⟩ from by simp [doIn, hk2, show ((a : Int) + (j : Int)).toNat = a + j by omega]]
    have hcn : (cells.set (a + j) n).length = cells.length := by simp
    refine yF rfl rfl (zS (zR (yE ?_))); refine yS ?_; refine zN (zT (yF rfl rfl (zS (zR (yE ?_))))); refine yS ?_; refine zN (zT (yF rfl rfl (zS (zS (zR (yE ?_)))))); (iterate 3 (refine yS ?_; refine zN (zT (yF rfl rfl (zS (zR (yE ?_))))))); refine yS ?_; refine zN (zT (yF rfl rfl (zR (yE ?_))))
    refine yS ?_; refine zN (zT (yF rfl rfl (zS (zR (yE ?_))))); refine yS ?_; refine zN (zT (yF rfl rfl (zS (zR (yE ?_))))); refine yS ?_; refine zN (zT (yT rfl rfl (zS (zR (yA ?_))))); refine yC (pop_b σ g _ _ _ _ _ _ _ _ _ _ _ _ _ _ _ _ _ ((j : Int) :: s) _ hsl2) ?_; refine yS ?_
    refine zN (zT (zS (zR (yA ?_)))); refine yC (pop_b σ g _ _ _ _ _ _ _ _ _ _ _ _ _ _ _ _ _ (s) _ hsl1) ?_; refine yS ?_; refine zN (zT (zS (zR (yA ?_)))); refine zO rfl (Rd.lss rfl rfl) ?_; refine yA ?_
    first | refine gA ?_ | refine zH ?_
    first | refine gV ?_ | refine zH ?_
    first | refine gB ?_ | refine zH ?_
    first | (refine zG ?_; refine zO rfl (Rd.geq rfl rfl) ?_) | refine zH ?_
    refine zO rfl zP ?_; refine zN (zT ?_)
    first | refine XA.opn (R := lst 2 1 (.slice pl cells.length cl) _ _) zL (lst_openW (by omega)) ?_ | refine XOA.opn (R := lst 2 1 (.slice pl cells.length cl) _ _) zL (lst_openW (by omega)) ?_ | refine DA.opn (R := lst 2 1 (.slice pl cells.length cl) _ _) zL (lst_openW (by omega)) ?_
    rintro ⟨g6, rest⟩ ⟨rfl, hcc, hcm, hcx, hcr⟩
    first | refine XA.cl ?_ | refine XOA.cl ?_ | refine DA.cl ?_
    have hspl : splice (ints cells ++ rest) (a + j) [i64 n] = ints (cells.set (a + j) n) ++ rest := cells_write n ha2
    have hfit : a + j + ty2.size ≤ (ints cells ++ rest).length := by rw [List.length_append, show (ints cells).length = cells.length by simp [ints]]; show a + j + 1 ≤ _; omega
    have hv2 : IntKind.i64.wrap ((a : Int) + (j : Int)) = ((a + j : Nat) : Int) := by rw [X.wrap64_in (by omega) (by omega)]; omega
    refine XA.condF rfl (by first | rfl | exact decide_eq_false (by omega)) ?_
    refine XA.draw (by kernel_rfl) _ _ [11] [(0, .pu), (1, .pu), (2, .pu), (3, .pu), (4, .rd), (5, .pu), (6, .rd), (7, .pu), (8, .pu), (9, .pu), (10, .pu), (11, .wr)] (by kernel_rfl) (PH.sub.refl _) (Ent.sel (R := blk g _ _) zL (Ent.sel (R := blk g5 _ _) zL (Ent.nil _))) ?_
    refine zu rfl rfl Rd.mv ?_; refine zu rfl rfl (Rd.nilCheck rfl) ?_; refine zu rfl rfl (Rd.fA rfl) ?_; refine zu rfl rfl (Rd.fA rfl) ?_; refine XPA.rd rfl rfl Gd.free (Rd.ldC rfl (tyrow rfl) rfl) ?_; refine zu rfl rfl (Rd.fA rfl) ?_; refine XPA.rd rfl rfl Gd.free (Rd.ldC rfl (tyrow rfl) rfl) ?_
    refine zu rfl rfl Rd.mv ?_; refine zu rfl rfl zI ?_; refine zu rfl rfl Rd.mv ?_; refine zu rfl rfl (Rd.ixS rfl rfl) ?_
    refine XPA.wrZ0 rfl rfl Gd.free (by kernel_rfl) (WrA.st (tyrow rfl) rfl) ?_
    rintro _ _ _ ⟨rfl, rfl, rfl⟩
    refine XPA.nil ?_; refine DA.inb_normal (zT (zS (zR (yS ?_)))); refine zN (zT (XA.ret ?_))
    refine DA.ent (Ent.foldC (Θ := [blk g6 (ints (cells.set (a + j) n) ++ rest) 2]) zD (lst_close (size := 1) (n := cells.length) (c := cl) (rest := rest) (by simp [ints]) hcc hcm (by simpa [ints] using hcr)) (Ent.refl _)) ?_
    rw [← hcn]
    exact bodyA.ret (ResA.one rfl rfl) zE ⟨rfl, .refl _, BeG.of hkp⟩
  by_cases h11 : xop = 11
  · subst h11
    clear hx
    obtain ⟨n, s, rfl⟩ : ∃ n s, stack = n :: s := by
      cases stack with
      | nil => simp [popA] at hpop
      | cons n s => exact ⟨n, s, rfl⟩
    have hsl1 : s.length ≤ 1000 := by simp only [List.length_cons] at hsl; omega
    by_cases hoe : outn = out.length
    · rw [show doIn inp keep ⟨11, xa, xb, xn⟩ ⟨⟨next + 1, n :: s, rd, outn, 0, cells⟩, kept, out, wrong⟩ = ⟨⟨next + 1, s, rd, outn + 1, 0, cells⟩, kept, out ++ [n], wrong⟩ from by simp [doIn, hoe]]
      have hoe2 : ((outn : Nat) : Int) = ((out.length : Nat) : Int) := by omega
      have ho1 : ints (out ++ [n]) = ints out ++ [i64 n] := by simp [ints]
      have ho2 : (out ++ [n]).length = out.length + 1 := by simp
      refine yF rfl rfl (zS (zR (yE ?_))); refine yS ?_; refine zN (zT (yF rfl rfl (zS (zR (yE ?_))))); refine yS ?_; refine zN (zT (yF rfl rfl (zS (zS (zR (yE ?_)))))); (iterate 3 (refine yS ?_; refine zN (zT (yF rfl rfl (zS (zR (yE ?_))))))); refine yS ?_; refine zN (zT (yF rfl rfl (zR (yE ?_))))
      (iterate 3 (refine yS ?_; refine zN (zT (yF rfl rfl (zS (zR (yE ?_))))))); refine yS ?_; refine zN (zT (yT rfl rfl (zS (zR (yA ?_))))); refine yC (pop_b σ g _ _ _ _ _ _ _ _ _ _ _ _ _ _ _ _ _ (s) _ hsl1) ?_; refine yS ?_; refine zN (zT (zS (zS ?_)))
      refine XA.draw (by kernel_rfl) _ _ [] [(0, .pu), (1, .pu), (2, .pu), (3, .pu), (4, .rd), (5, .pu), (6, .pu), (7, .pu), (8, .rd), (9, .pu), (10, .pu)] (by kernel_rfl) (PH.sub.refl _) (Ent.sel (R := blk g _ _) zL (Ent.sel (R := lst 2 1 (.slice op out.length oc) _ _) zL (Ent.nil _))) ?_
      refine zu rfl rfl Rd.mv ?_; refine zu rfl rfl (Rd.nilCheck rfl) ?_; refine zu rfl rfl (Rd.fA rfl) ?_; refine zu rfl rfl (Rd.fA rfl) ?_; refine XPA.rd rfl rfl Gd.free (Rd.ldC rfl (tyrow rfl) rfl) ?_; refine zu rfl rfl Rd.mv ?_; refine zu rfl rfl (Rd.nilCheck rfl) ?_; refine zu rfl rfl (Rd.fA rfl) ?_
      refine XPA.rd rfl rfl Gd.free (Rd.ldC rfl (tyrow rfl) rfl) ?_; refine zu rfl rfl (Rd.lenSlice (tyrow rfl) rfl rfl) ?_; refine zu rfl rfl (Rd.eql rfl rfl) ?_; refine XPA.nil ?_; refine zT (XA.condT rfl (decide_eq_true hoe2) (zR (yA ?_))); refine yA ?_; refine zO rfl (Rd.nilCheck rfl) ?_; refine yV ?_
      refine yB ?_; refine yA ?_; refine zw rfl (WrA.bs1 (tyrow rfl) rfl (tyrow rfl)) ?_
      rintro _ _ _ ⟨g197, rfl, rfl, rfl⟩
      refine zw rfl (WrA.ap1 (tyrow rfl) rfl (tyrow rfl) rfl rfl rfl) ?_
      rintro _ _ _ ⟨p198, c198, rfl, rfl, rfl⟩
      refine zO rfl (Rd.nilCheck rfl) ?_; refine yV ?_; refine zw rfl (WrA.st (tyrow rfl) rfl) ?_
      rintro _ _ _ ⟨rfl, rfl, rfl⟩
      refine zN (zT (zR (yA ?_))); refine zO rfl (Rd.nilCheck rfl) ?_; refine yV ?_; refine yV ?_; refine yB ?_; refine zO rfl zI ?_; refine zO rfl (Rd.nilCheck rfl) ?_; refine yV ?_; refine yV ?_; refine zw rfl (WrA.st (tyrow rfl) rfl) ?_
      rintro _ _ _ ⟨rfl, rfl, rfl⟩
      refine zN (DA.inb_normal (zT (zS (zR (yS ?_))))); refine zN (zT (XA.ret ?_))
      rw [show ints out ++ [Value.int .i64 n] = ints (out ++ [n]) from ho1.symm, ← ho2]
      exact bodyA.ret (ResA.one rfl rfl) zE ⟨rfl, .refl _, BeG.of hkp⟩
    have hol1 : outn < out.length := by omega
    have hoe2 : ¬ ((outn : Nat) : Int) = ((out.length : Nat) : Int) := by omega
    have hv : (ints out)[outn]? = some (i64 (out.getD outn 0)) := by simp [ints, hol1]
    obtain ⟨y, hy⟩ : ∃ y, y = out.getD outn 0 := ⟨_, rfl⟩
    have hy2 : out[outn]?.getD 0 = y := by rw [hy, List.getD_eq_getElem?_getD]
    rw [← hy] at hv
    by_cases hne : y = n
    · rw [show doIn inp keep ⟨11, xa, xb, xn⟩ ⟨⟨next + 1, n :: s, rd, outn, 0, cells⟩, kept, out, wrong⟩ = ⟨⟨next + 1, s, rd, outn + 1, 0, cells⟩, kept, out, wrong⟩ from by simp [doIn, hoe, hy2, hne]]
      refine yF rfl rfl (zS (zR (yE ?_))); refine yS ?_; refine zN (zT (yF rfl rfl (zS (zR (yE ?_))))); refine yS ?_; refine zN (zT (yF rfl rfl (zS (zS (zR (yE ?_)))))); (iterate 3 (refine yS ?_; refine zN (zT (yF rfl rfl (zS (zR (yE ?_))))))); refine yS ?_; refine zN (zT (yF rfl rfl (zR (yE ?_))))
      (iterate 3 (refine yS ?_; refine zN (zT (yF rfl rfl (zS (zR (yE ?_))))))); refine yS ?_; refine zN (zT (yT rfl rfl (zS (zR (yA ?_))))); refine yC (pop_b σ g _ _ _ _ _ _ _ _ _ _ _ _ _ _ _ _ _ (s) _ hsl1) ?_; refine yS ?_; refine zN (zT (zS (zS ?_)))
      refine XA.draw (by kernel_rfl) _ _ [] [(0, .pu), (1, .pu), (2, .pu), (3, .pu), (4, .rd), (5, .pu), (6, .pu), (7, .pu), (8, .rd), (9, .pu), (10, .pu)] (by kernel_rfl) (PH.sub.refl _) (Ent.sel (R := blk g _ _) zL (Ent.nil _)) ?_
      refine zu rfl rfl Rd.mv ?_; refine zu rfl rfl (Rd.nilCheck rfl) ?_; refine zu rfl rfl (Rd.fA rfl) ?_; refine zu rfl rfl (Rd.fA rfl) ?_; refine XPA.rd rfl rfl Gd.free (Rd.ldC rfl (tyrow rfl) rfl) ?_; refine zu rfl rfl Rd.mv ?_; refine zu rfl rfl (Rd.nilCheck rfl) ?_; refine zu rfl rfl (Rd.fA rfl) ?_
      refine XPA.rd rfl rfl Gd.free (Rd.ldC rfl (tyrow rfl) rfl) ?_; refine zu rfl rfl (Rd.lenSlice (tyrow rfl) rfl rfl) ?_; refine zu rfl rfl (Rd.eql rfl rfl) ?_; refine XPA.nil ?_; refine zT (XA.condF rfl (decide_eq_false hoe2) (zS ?_))
      first | refine XA.opn (R := lst 2 1 (.slice op out.length oc) _ _) zL (lst_some (by omega)) ?_ | refine XOA.opn (R := lst 2 1 (.slice op out.length oc) _ _) zL (lst_some (by omega)) ?_ | refine DA.opn (R := lst 2 1 (.slice op out.length oc) _ _) zL (lst_some (by omega)) ?_
      rintro g7 rfl
      first | refine XA.cl ?_ | refine XOA.cl ?_ | refine DA.cl ?_
      refine XA.draw (by kernel_rfl) _ _ [] [(0, .pu), (1, .pu), (2, .pu), (3, .rd), (4, .pu), (5, .pu), (6, .pu), (7, .pu), (8, .rd), (9, .pu), (10, .rd), (11, .pu), (12, .pu)] (by kernel_rfl) (PH.sub.refl _) (Ent.sel (R := blk g _ _) zL (Ent.sel (R := lst 2 1 (.slice (some ⟨g7, 0, none⟩) out.length oc) _ _) zL (Ent.nil _))) ?_
      refine zu rfl rfl Rd.mv ?_; refine zu rfl rfl (Rd.nilCheck rfl) ?_; refine zu rfl rfl (Rd.fA rfl) ?_; refine XPA.rd rfl rfl Gd.free (Rd.ldC rfl (tyrow rfl) rfl) ?_; refine zu rfl rfl Rd.mv ?_; refine zu rfl rfl (Rd.nilCheck rfl) ?_; refine zu rfl rfl (Rd.fA rfl) ?_; refine zu rfl rfl (Rd.fA rfl) ?_
      refine XPA.rd rfl rfl Gd.free (Rd.ldC rfl (tyrow rfl) rfl) ?_; refine zu rfl rfl (Rd.ixS rfl rfl) ?_; refine XPA.rd rfl rfl Gd.free (Rd.ldC rfl (tyrow rfl) rfl) ?_; refine zu rfl rfl Rd.mv ?_; refine zu rfl rfl (Rd.neq rfl rfl) ?_; refine XPA.nil ?_; refine zT ?_
      refine XA.condF rfl (decide_eq_false (fun h => h hne)) ?_; refine XA.skip (zT (zR (yA ?_))); refine zO rfl (Rd.nilCheck rfl) ?_; refine yV ?_; refine yV ?_; refine yB ?_; refine zO rfl zI ?_; refine zO rfl (Rd.nilCheck rfl) ?_; refine yV ?_; refine yV ?_; refine zw rfl (WrA.st (tyrow rfl) rfl) ?_
      rintro _ _ _ ⟨rfl, rfl, rfl⟩
      refine zN (DA.inb_normal (zT (zS (zR (yS ?_))))); refine zN (zT (XA.ret ?_))
      exact bodyA.ret (ResA.one rfl rfl) zE ⟨rfl, .refl _, BeG.of hkp⟩
    rw [show doIn inp keep ⟨11, xa, xb, xn⟩ ⟨⟨next + 1, n :: s, rd, outn, 0, cells⟩, kept, out, wrong⟩ = ⟨⟨next + 1, s, rd, outn + 1, 0, cells⟩, kept, out, true⟩ from by simp [doIn, hoe, hy2, hne]]
    refine yF rfl rfl (zS (zR (yE ?_))); refine yS ?_; refine zN (zT (yF rfl rfl (zS (zR (yE ?_))))); refine yS ?_; refine zN (zT (yF rfl rfl (zS (zS (zR (yE ?_)))))); (iterate 3 (refine yS ?_; refine zN (zT (yF rfl rfl (zS (zR (yE ?_))))))); refine yS ?_; refine zN (zT (yF rfl rfl (zR (yE ?_))))
    (iterate 3 (refine yS ?_; refine zN (zT (yF rfl rfl (zS (zR (yE ?_))))))); refine yS ?_; refine zN (zT (yT rfl rfl (zS (zR (yA ?_))))); refine yC (pop_b σ g _ _ _ _ _ _ _ _ _ _ _ _ _ _ _ _ _ (s) _ hsl1) ?_; refine yS ?_; refine zN (zT (zS (zS ?_)))
    refine XA.draw (by kernel_rfl) _ _ [] [(0, .pu), (1, .pu), (2, .pu), (3, .pu), (4, .rd), (5, .pu), (6, .pu), (7, .pu), (8, .rd), (9, .pu), (10, .pu)] (by kernel_rfl) (PH.sub.refl _) (Ent.sel (R := blk g _ _) zL (Ent.nil _)) ?_
    refine zu rfl rfl Rd.mv ?_; refine zu rfl rfl (Rd.nilCheck rfl) ?_; refine zu rfl rfl (Rd.fA rfl) ?_; refine zu rfl rfl (Rd.fA rfl) ?_; refine XPA.rd rfl rfl Gd.free (Rd.ldC rfl (tyrow rfl) rfl) ?_; refine zu rfl rfl Rd.mv ?_; refine zu rfl rfl (Rd.nilCheck rfl) ?_; refine zu rfl rfl (Rd.fA rfl) ?_
    refine XPA.rd rfl rfl Gd.free (Rd.ldC rfl (tyrow rfl) rfl) ?_; refine zu rfl rfl (Rd.lenSlice (tyrow rfl) rfl rfl) ?_; refine zu rfl rfl (Rd.eql rfl rfl) ?_; refine XPA.nil ?_; refine zT (XA.condF rfl (decide_eq_false hoe2) (zS ?_))
    first | refine XA.opn (R := lst 2 1 (.slice op out.length oc) _ _) zL (lst_some (by omega)) ?_ | refine XOA.opn (R := lst 2 1 (.slice op out.length oc) _ _) zL (lst_some (by omega)) ?_ | refine DA.opn (R := lst 2 1 (.slice op out.length oc) _ _) zL (lst_some (by omega)) ?_
    rintro g7 rfl
    first | refine XA.cl ?_ | refine XOA.cl ?_ | refine DA.cl ?_
    refine XA.draw (by kernel_rfl) _ _ [] [(0, .pu), (1, .pu), (2, .pu), (3, .rd), (4, .pu), (5, .pu), (6, .pu), (7, .pu), (8, .rd), (9, .pu), (10, .rd), (11, .pu), (12, .pu)] (by kernel_rfl) (PH.sub.refl _) (Ent.sel (R := blk g _ _) zL (Ent.sel (R := lst 2 1 (.slice (some ⟨g7, 0, none⟩) out.length oc) _ _) zL (Ent.nil _))) ?_
    refine zu rfl rfl Rd.mv ?_; refine zu rfl rfl (Rd.nilCheck rfl) ?_; refine zu rfl rfl (Rd.fA rfl) ?_; refine XPA.rd rfl rfl Gd.free (Rd.ldC rfl (tyrow rfl) rfl) ?_; refine zu rfl rfl Rd.mv ?_; refine zu rfl rfl (Rd.nilCheck rfl) ?_; refine zu rfl rfl (Rd.fA rfl) ?_; refine zu rfl rfl (Rd.fA rfl) ?_
    refine XPA.rd rfl rfl Gd.free (Rd.ldC rfl (tyrow rfl) rfl) ?_; refine zu rfl rfl (Rd.ixS rfl rfl) ?_; refine XPA.rd rfl rfl Gd.free (Rd.ldC rfl (tyrow rfl) rfl) ?_; refine zu rfl rfl Rd.mv ?_; refine zu rfl rfl (Rd.neq rfl rfl) ?_; refine XPA.nil ?_
    refine zT (XA.condT rfl (decide_eq_true hne) (zR (yA ?_))); refine zO rfl (Rd.nilCheck rfl) ?_; refine yV ?_; refine zw rfl (WrA.st (tyrow rfl) rfl) ?_
    rintro _ _ _ ⟨rfl, rfl, rfl⟩
    refine zN (zT (zR (yA ?_))); refine zO rfl (Rd.nilCheck rfl) ?_; refine yV ?_; refine yV ?_; refine yB ?_; refine zO rfl zI ?_; refine zO rfl (Rd.nilCheck rfl) ?_; refine yV ?_; refine yV ?_; refine zw rfl (WrA.st (tyrow rfl) rfl) ?_
    rintro _ _ _ ⟨rfl, rfl, rfl⟩
    refine zN (DA.inb_normal (zT (zS (zR (yS ?_))))); refine zN (zT (XA.ret ?_))
    exact bodyA.ret (ResA.one rfl rfl) zE ⟨rfl, .refl _, BeG.of hkp⟩
  by_cases h12 : xop = 12
  · subst h12
    clear hx
    obtain ⟨ha0, ha1⟩ := hcell (by decide)
    obtain ⟨a, rfl⟩ : ∃ a : Nat, xa = a := ⟨xa.toNat, by omega⟩
    have ha2 : a < cells.length := by omega
    by_cases hri : inp.length ≤ rd
    · rw [show doIn inp keep ⟨12, (a : Int), xb, xn⟩ ⟨⟨next + 1, stack, rd, outn, 0, cells⟩, kept, out, wrong⟩ = ⟨⟨next + 1, stack, rd, outn, 14, cells⟩, kept, out, wrong⟩ from by simp [doIn, hri]]
      refine yF rfl rfl (zS (zR (yE ?_))); refine yS ?_; refine zN (zT (yF rfl rfl (zS (zR (yE ?_))))); refine yS ?_; refine zN (zT (yF rfl rfl (zS (zS (zR (yE ?_)))))); (iterate 3 (refine yS ?_; refine zN (zT (yF rfl rfl (zS (zR (yE ?_))))))); refine yS ?_; refine zN (zT (yF rfl rfl (zR (yE ?_))))
      (iterate 4 (refine yS ?_; refine zN (zT (yF rfl rfl (zS (zR (yE ?_))))))); refine yS ?_; refine zN (zT (yT rfl rfl (zS ?_)))
      refine XA.draw (by kernel_rfl) _ _ [] [(0, .pu), (1, .pu), (2, .pu), (3, .pu), (4, .rd), (5, .pu), (6, .pu), (7, .pu), (8, .rd), (9, .pu), (10, .pu)] (by kernel_rfl) (PH.sub.refl _) (Ent.sel (R := blk g _ _) zL (Ent.nil _)) ?_
      refine zu rfl rfl Rd.mv ?_; refine zu rfl rfl (Rd.nilCheck rfl) ?_; refine zu rfl rfl (Rd.fA rfl) ?_; refine zu rfl rfl (Rd.fA rfl) ?_; refine XPA.rd rfl rfl Gd.free (Rd.ldC rfl (tyrow rfl) rfl) ?_; refine zu rfl rfl Rd.mv ?_; refine zu rfl rfl (Rd.nilCheck rfl) ?_; refine zu rfl rfl (Rd.fA rfl) ?_
      refine XPA.rd rfl rfl Gd.free (Rd.ldC rfl (tyrow rfl) rfl) ?_; refine zu rfl rfl (Rd.lenSlice (tyrow rfl) rfl rfl) ?_; refine zu rfl rfl (Rd.geq rfl rfl) ?_; refine XPA.nil ?_
      refine zT (XA.condT rfl (by first | rfl | exact decide_eq_true (by omega)) ?_); refine zR (yA ?_); refine zO rfl (Rd.nilCheck rfl) ?_; refine yV ?_; refine yV ?_
      refine zw rfl (WrA.st (tyrow rfl) rfl) ?_
      rintro _ _ _ ⟨rfl, rfl, rfl⟩
      refine zN (DA.inb_normal (zT (zS (zR (yS ?_))))); refine zN (zT (XA.ret ?_))
      exact bodyA.ret (ResA.one rfl rfl) zE ⟨rfl, .refl _, BeG.of hkp⟩
    have hri2 : rd < inp.length := by omega
    obtain ⟨y, hy⟩ : ∃ y, inp[rd]? = some y := ⟨_, List.getElem?_eq_getElem hri2⟩
    obtain ⟨gi, oi, rfl, hri3⟩ := hi.at hy
    rw [Nat.mul_one] at hri3
    have hy2 : inp[rd] = y := (List.getElem?_eq_some_iff.1 hy).2
    rw [show doIn inp keep ⟨12, (a : Int), xb, xn⟩ ⟨⟨next + 1, stack, rd, outn, 0, cells⟩, kept, out, wrong⟩ = ⟨⟨next + 1, stack, rd + 1, outn, 0, cells.set a y⟩, kept, out, wrong⟩ from by simp [doIn, hri, hy]]
    have hcn : (cells.set a y).length = cells.length := by simp
    first | refine XA.opn (R := lst 2 1 (.slice pl cells.length cl) _ _) zL (lst_openW (by omega)) ?_ | refine XOA.opn (R := lst 2 1 (.slice pl cells.length cl) _ _) zL (lst_openW (by omega)) ?_ | refine DA.opn (R := lst 2 1 (.slice pl cells.length cl) _ _) zL (lst_openW (by omega)) ?_
    rintro ⟨g6, rest⟩ ⟨rfl, hcc, hcm, hcx, hcr⟩
    first | refine XA.cl ?_ | refine XOA.cl ?_ | refine DA.cl ?_
    have hspl : splice (ints cells ++ rest) a [i64 y] = ints (cells.set a y) ++ rest := cells_write y ha2
    have hfit : a + ty2.size ≤ (ints cells ++ rest).length := by rw [List.length_append, show (ints cells).length = cells.length by simp [ints]]; show a + 1 ≤ _; omega
    refine yF rfl rfl (zS (zR (yE ?_))); refine yS ?_; refine zN (zT (yF rfl rfl (zS (zR (yE ?_))))); refine yS ?_; refine zN (zT (yF rfl rfl (zS (zS (zR (yE ?_)))))); (iterate 3 (refine yS ?_; refine zN (zT (yF rfl rfl (zS (zR (yE ?_))))))); refine yS ?_; refine zN (zT (yF rfl rfl (zR (yE ?_))))
    (iterate 4 (refine yS ?_; refine zN (zT (yF rfl rfl (zS (zR (yE ?_))))))); refine yS ?_; refine zN (zT (yT rfl rfl (zS ?_)))
    refine XA.draw (by kernel_rfl) _ _ [] [(0, .pu), (1, .pu), (2, .pu), (3, .pu), (4, .rd), (5, .pu), (6, .pu), (7, .pu), (8, .rd), (9, .pu), (10, .pu)] (by kernel_rfl) (PH.sub.refl _) (Ent.sel (R := blk g _ _) zL (Ent.nil _)) ?_
    refine zu rfl rfl Rd.mv ?_; refine zu rfl rfl (Rd.nilCheck rfl) ?_; refine zu rfl rfl (Rd.fA rfl) ?_; refine zu rfl rfl (Rd.fA rfl) ?_; refine XPA.rd rfl rfl Gd.free (Rd.ldC rfl (tyrow rfl) rfl) ?_; refine zu rfl rfl Rd.mv ?_; refine zu rfl rfl (Rd.nilCheck rfl) ?_; refine zu rfl rfl (Rd.fA rfl) ?_
    refine XPA.rd rfl rfl Gd.free (Rd.ldC rfl (tyrow rfl) rfl) ?_; refine zu rfl rfl (Rd.lenSlice (tyrow rfl) rfl rfl) ?_; refine zu rfl rfl (Rd.geq rfl rfl) ?_; refine XPA.nil ?_
    refine zT (XA.condF rfl (by first | rfl | exact decide_eq_false (by omega)) ?_); refine zS ?_
    refine XA.draw (by kernel_rfl) _ _ [19] [(0, .pu), (1, .pu), (2, .pu), (3, .pu), (4, .rd), (5, .pu), (6, .rd), (7, .pu), (8, .pu), (9, .pu), (10, .rd), (11, .pu), (12, .pu), (13, .pu), (14, .pu), (15, .rd), (16, .pu), (17, .rd), (18, .pu), (19, .wr)] (by kernel_rfl) (PH.sub.refl _) (Ent.sel (R := blk g _ _) zL (Ent.sel (R := blk g5 _ _) zL (Ent.nil _))) ?_
    refine zu rfl rfl Rd.mv ?_; refine zu rfl rfl (Rd.nilCheck rfl) ?_; refine zu rfl rfl (Rd.fA rfl) ?_; refine zu rfl rfl (Rd.fA rfl) ?_; refine XPA.rd rfl rfl Gd.free (Rd.ldC rfl (tyrow rfl) rfl) ?_; refine zu rfl rfl (Rd.fA rfl) ?_; refine XPA.rd rfl rfl Gd.free (Rd.ldC rfl (tyrow rfl) rfl) ?_
    refine zu rfl rfl Rd.mv ?_; refine zu rfl rfl (Rd.nilCheck rfl) ?_; refine zu rfl rfl (Rd.fA rfl) ?_; refine XPA.rd rfl rfl Gd.free (Rd.ldC rfl (tyrow rfl) rfl) ?_; refine zu rfl rfl Rd.mv ?_; refine zu rfl rfl (Rd.nilCheck rfl) ?_; refine zu rfl rfl (Rd.fA rfl) ?_; refine zu rfl rfl (Rd.fA rfl) ?_
    refine XPA.rd rfl rfl Gd.free (Rd.ldC rfl (tyrow rfl) rfl) ?_; refine zu rfl rfl (Rd.ixS rfl rfl) ?_; refine XPA.rd rfl rfl Gd.free (Rd.ldC rfl (tyrow rfl) rfl) ?_; refine zu rfl rfl (Rd.ixS rfl rfl) ?_
    refine XPA.wrZ0 rfl rfl Gd.free (by kernel_rfl) (WrA.st (tyrow rfl) rfl) ?_
    rintro _ _ _ ⟨rfl, rfl, rfl⟩
    refine XPA.nil ?_; refine zT (zR (yA ?_)); refine zO rfl (Rd.nilCheck rfl) ?_; refine yV ?_; refine yV ?_; refine yB ?_; refine zO rfl zI ?_; refine zO rfl (Rd.nilCheck rfl) ?_; refine yV ?_; refine yV ?_; refine zw rfl (WrA.st (tyrow rfl) rfl) ?_
    rintro _ _ _ ⟨rfl, rfl, rfl⟩
    refine zN (DA.inb_normal (zT (zS (zR (yS ?_))))); refine zN (zT (XA.ret ?_))
    refine DA.ent (Ent.foldC (Θ := [blk g6 (ints (cells.set a y) ++ rest) 2]) zD (lst_close (size := 1) (n := cells.length) (c := cl) (rest := rest) (by simp [ints]) hcc hcm (by simpa [ints] using hcr)) (Ent.refl _)) ?_
    rw [← hcn]
    exact bodyA.ret (ResA.one rfl rfl) zE ⟨rfl, .refl _, BeG.of hkp⟩
  by_cases h13 : xop = 13
  · subst h13
    clear hx
    obtain ⟨n, s, rfl⟩ : ∃ n s, stack = n :: s := by
      cases stack with
      | nil => simp [popA] at hpop
      | cons n s => exact ⟨n, s, rfl⟩
    have hsl1 : s.length ≤ 1000 := by simp only [List.length_cons] at hsl; omega
    obtain ⟨a, rfl⟩ : ∃ a : Nat, xa = a := ⟨xa.toNat, by have := hgo (by decide); omega⟩
    by_cases hn0 : n = 0
    · rw [show doIn inp keep ⟨13, (a : Int), xb, xn⟩ ⟨⟨next + 1, n :: s, rd, outn, 0, cells⟩, kept, out, wrong⟩ = ⟨⟨a, s, rd, outn, 0, cells⟩, kept, out, wrong⟩ from by simp [doIn, hn0]]
      refine yF rfl rfl (zS (zR (yE ?_))); refine yS ?_; refine zN (zT (yF rfl rfl (zS (zR (yE ?_))))); refine yS ?_; refine zN (zT (yF rfl rfl (zS (zS (zR (yE ?_)))))); (iterate 3 (refine yS ?_; refine zN (zT (yF rfl rfl (zS (zR (yE ?_))))))); refine yS ?_; refine zN (zT (yF rfl rfl (zR (yE ?_))))
      (iterate 5 (refine yS ?_; refine zN (zT (yF rfl rfl (zS (zR (yE ?_))))))); refine yS ?_; refine zN (zT (yT rfl rfl (zS (zR (yA ?_))))); refine yC (pop_b σ g _ _ _ _ _ _ _ _ _ _ _ _ _ _ _ _ _ (s) _ hsl1) ?_; refine yE ?_; refine zN (zT (XA.condT rfl (decide_eq_true hn0) (zR (yA ?_)))); refine yV ?_
      refine yB ?_; refine zO rfl (Rd.nilCheck rfl) ?_; refine yV ?_; refine yV ?_; refine zw rfl (WrA.st (tyrow rfl) rfl) ?_
      rintro _ _ _ ⟨rfl, rfl, rfl⟩
      refine zN (DA.inb_normal (zT (zS (zR (yS ?_))))); refine zN (zT (XA.ret ?_))
      exact bodyA.ret (ResA.one rfl rfl) zE ⟨rfl, .refl _, BeG.of hkp⟩
    rw [show doIn inp keep ⟨13, (a : Int), xb, xn⟩ ⟨⟨next + 1, n :: s, rd, outn, 0, cells⟩, kept, out, wrong⟩ = ⟨⟨next + 1, s, rd, outn, 0, cells⟩, kept, out, wrong⟩ from by simp [doIn, hn0]]
    refine yF rfl rfl (zS (zR (yE ?_))); refine yS ?_; refine zN (zT (yF rfl rfl (zS (zR (yE ?_))))); refine yS ?_; refine zN (zT (yF rfl rfl (zS (zS (zR (yE ?_)))))); (iterate 3 (refine yS ?_; refine zN (zT (yF rfl rfl (zS (zR (yE ?_))))))); refine yS ?_; refine zN (zT (yF rfl rfl (zR (yE ?_))))
    (iterate 5 (refine yS ?_; refine zN (zT (yF rfl rfl (zS (zR (yE ?_))))))); refine yS ?_; refine zN (zT (yT rfl rfl (zS (zR (yA ?_))))); refine yC (pop_b σ g _ _ _ _ _ _ _ _ _ _ _ _ _ _ _ _ _ (s) _ hsl1) ?_; refine yE ?_
    refine zN (zT (XA.condF rfl (decide_eq_false hn0) (XA.skip (DA.inb_normal (zT (zS (zR (yS ?_)))))))); refine zN (zT (XA.ret ?_))
    exact bodyA.ret (ResA.one rfl rfl) zE ⟨rfl, .refl _, BeG.of hkp⟩
  by_cases h14 : xop = 14
  · subst h14
    clear hx
    obtain ⟨a, rfl⟩ : ∃ a : Nat, xa = a := ⟨xa.toNat, by have := hgo (by decide); omega⟩
    rw [show doIn inp keep ⟨14, (a : Int), xb, xn⟩ ⟨⟨next + 1, stack, rd, outn, 0, cells⟩, kept, out, wrong⟩ = ⟨⟨a, stack, rd, outn, 0, cells⟩, kept, out, wrong⟩ from by simp [doIn]]
    refine yF rfl rfl (zS (zR (yE ?_))); refine yS ?_; refine zN (zT (yF rfl rfl (zS (zR (yE ?_))))); refine yS ?_; refine zN (zT (yF rfl rfl (zS (zS (zR (yE ?_)))))); (iterate 3 (refine yS ?_; refine zN (zT (yF rfl rfl (zS (zR (yE ?_))))))); refine yS ?_; refine zN (zT (yF rfl rfl (zR (yE ?_))))
    (iterate 6 (refine yS ?_; refine zN (zT (yF rfl rfl (zS (zR (yE ?_))))))); refine yS ?_; refine zN (zT (yT rfl rfl (zR (yA ?_)))); refine yV ?_; refine yB ?_; refine zO rfl (Rd.nilCheck rfl) ?_; refine yV ?_; refine yV ?_; refine zw rfl (WrA.st (tyrow rfl) rfl) ?_
    rintro _ _ _ ⟨rfl, rfl, rfl⟩
    refine zN (DA.inb_normal (zT (zS (zR (yS ?_))))); refine zN (zT (XA.ret ?_))
    exact bodyA.ret (ResA.one rfl rfl) zE ⟨rfl, .refl _, BeG.of hkp⟩
  by_cases h15 : xop = 15
  · subst h15
    clear hx
    cases keep with
    | false =>
      rw [show doIn inp false ⟨15, xa, xb, xn⟩ ⟨⟨next + 1, stack, rd, outn, 0, cells⟩, kept, out, wrong⟩ = ⟨⟨next + 1, stack, rd, outn, 0, cells⟩, kept, out, wrong⟩ from rfl]
      refine yF rfl rfl (zS (zR (yE ?_))); refine yS ?_; refine zN (zT (yF rfl rfl (zS (zR (yE ?_))))); refine yS ?_; refine zN (zT (yF rfl rfl (zS (zS (zR (yE ?_)))))); (iterate 3 (refine yS ?_; refine zN (zT (yF rfl rfl (zS (zR (yE ?_))))))); refine yS ?_; refine zN (zT (yF rfl rfl (zR (yE ?_))))
      (iterate 7 (refine yS ?_; refine zN (zT (yF rfl rfl (zS (zR (yE ?_))))))); refine yS ?_; refine zN (zT (yT rfl rfl (zS (zR (yA ?_))))); refine zN (zT (yF rfl rfl (XA.skip (DA.inb_normal (zT (zS (zR (yS ?_)))))))); refine zN (zT (XA.ret ?_))
      exact bodyA.ret (ResA.one rfl rfl) zE ⟨rfl, .refl _, BeG.of hkp⟩
    | true =>
      rw [show doIn inp true ⟨15, xa, xb, xn⟩ ⟨⟨next + 1, stack, rd, outn, 0, cells⟩, kept, out, wrong⟩ = ⟨⟨next + 1, stack, rd, outn, 0, cells⟩, ⟨next + 1, stack, rd, outn, 0, cells⟩, out, wrong⟩ from rfl]
      refine yF rfl rfl (zS (zR (yE ?_))); refine yS ?_; refine zN (zT (yF rfl rfl (zS (zR (yE ?_))))); refine yS ?_; refine zN (zT (yF rfl rfl (zS (zS (zR (yE ?_)))))); (iterate 3 (refine yS ?_; refine zN (zT (yF rfl rfl (zS (zR (yE ?_))))))); refine yS ?_; refine zN (zT (yF rfl rfl (zR (yE ?_))))
      (iterate 7 (refine yS ?_; refine zN (zT (yF rfl rfl (zS (zR (yE ?_))))))); refine yS ?_; refine zN (zT (yT rfl rfl (zS (zR (yA ?_))))); refine zN (zT (yT rfl rfl (zR (yA ?_)))); refine yA ?_; refine zO rfl (Rd.nilCheck rfl) ?_; refine yV ?_; refine zO rfl (Rd.ldA rfl) ?_
      refine zw rfl (WrA.cE (copy_b σ _ _ _ _ _ _ _ _ stack.length cells.length stack.reverse cells (by omega) hcl) rfl) ?_
      rintro _ _ _ ⟨_, ⟨p3, c3, p4, c4, rfl, rfl, rfl⟩, rfl⟩
      refine XOA.cl ?_; refine XOA.frz (R := lst 2 1 (.slice p3 stack.length c3) _ _) zL lst_frz lst_frz_mono ?_
      rintro σ2 ⟨⟩ hf2 hs2
      refine XOA.frz (R := lst 2 1 (.slice p4 cells.length c4) _ _) zL lst_frz lst_frz_mono ?_
      rintro σ3 ⟨⟩ hf3 hs3
      have hk2 : KeptAt σ3 (i64 ((next + 1 : Nat) : Int)) (.slice p3 stack.length c3) (i64 rd) (i64 outn) (i64 0) (.slice p4 cells.length c4) ⟨next + 1, stack, rd, outn, 0, cells⟩ := ⟨p3, c3, p4, c4, rfl, rfl, rfl, rfl, rfl, rfl, pints_frz (by simp) (lst_frz_mono () _ _ hf2 hs3), pints_frz rfl hf3⟩
      refine zO rfl (Rd.nilCheck rfl) ?_; refine yV ?_; refine zw rfl (WrA.st (tyrow rfl) rfl) ?_
      rintro _ _ _ ⟨rfl, rfl, rfl⟩
      refine zN (DA.inb_normal (zT (zS (zR (yS ?_))))); refine zN (zT (XA.ret ?_))
      exact bodyA.ret (ResA.one rfl rfl) zE ⟨rfl, hs2.trans hs3, BeG.of hk2⟩
  by_cases h16 : xop = 16
  · subst h16
    clear hx
    rw [show doIn inp keep ⟨16, xa, xb, xn⟩ ⟨⟨next + 1, stack, rd, outn, 0, cells⟩, kept, out, wrong⟩ = ⟨⟨next + 1, stack, rd, outn, 1, cells⟩, kept, out, wrong⟩ from by simp [doIn]]
    refine yF rfl rfl (zS (zR (yE ?_))); refine yS ?_; refine zN (zT (yF rfl rfl (zS (zR (yE ?_))))); refine yS ?_; refine zN (zT (yF rfl rfl (zS (zS (zR (yE ?_)))))); (iterate 3 (refine yS ?_; refine zN (zT (yF rfl rfl (zS (zR (yE ?_))))))); refine yS ?_; refine zN (zT (yF rfl rfl (zR (yE ?_))))
    (iterate 8 (refine yS ?_; refine zN (zT (yF rfl rfl (zS (zR (yE ?_))))))); refine yS ?_; refine zN (zT (yT rfl rfl (zR (yA ?_)))); refine zO rfl (Rd.nilCheck rfl) ?_; refine yV ?_; refine yV ?_; refine zw rfl (WrA.st (tyrow rfl) rfl) ?_
    rintro _ _ _ ⟨rfl, rfl, rfl⟩
    refine zN (DA.inb_normal (zT (zS (zR (yS ?_))))); refine zN (zT (XA.ret ?_))
    exact bodyA.ret (ResA.one rfl rfl) zE ⟨rfl, .refl _, BeG.of hkp⟩
  rw [show doIn inp keep ⟨xop, xa, xb, xn⟩ ⟨⟨next + 1, stack, rd, outn, 0, cells⟩, kept, out, wrong⟩ = ⟨⟨next + 1, stack, rd, outn, 0, cells⟩, kept, out, wrong⟩ from by
    simp only [doIn]
    rw [if_neg h1, if_neg h2, if_neg h3, if_neg (by omega), if_neg h9, if_neg h10, if_neg h11, if_neg h12, if_neg h13, if_neg h14, if_neg h15, if_neg h16]]
  clear hx
  refine XA.condF rfl (decide_eq_false h1) (zS (zR (yE ?_))); refine yS ?_; refine zN (zT (XA.condF rfl (decide_eq_false h2) (zS (zR (yE ?_))))); refine yS ?_; refine zN (zT (XA.condF rfl (decide_eq_false h3) (zS (zS (zR (yE ?_)))))); refine yS ?_
  refine zN (zT (XA.condF rfl (decide_eq_false h4) (zS (zR (yE ?_))))); refine yS ?_; refine zN (zT (XA.condF rfl (decide_eq_false h5) (zS (zR (yE ?_))))); refine yS ?_; refine zN (zT (XA.condF rfl (decide_eq_false h6) (zS (zR (yE ?_))))); refine yS ?_
  refine zN (zT (XA.condF rfl (decide_eq_false h7) (zR (yE ?_)))); refine yS ?_; refine zN (zT (XA.condF rfl (decide_eq_false h8) (zS (zR (yE ?_))))); refine yS ?_; refine zN (zT (XA.condF rfl (decide_eq_false h9) (zS (zR (yE ?_))))); refine yS ?_
  refine zN (zT (XA.condF rfl (decide_eq_false h10) (zS (zR (yE ?_))))); refine yS ?_; refine zN (zT (XA.condF rfl (decide_eq_false h11) (zS (zR (yE ?_))))); refine yS ?_; refine zN (zT (XA.condF rfl (decide_eq_false h12) (zS (zR (yE ?_))))); refine yS ?_
  refine zN (zT (XA.condF rfl (decide_eq_false h13) (zS (zR (yE ?_))))); refine yS ?_; refine zN (zT (XA.condF rfl (decide_eq_false h14) (zS (zR (yE ?_))))); refine yS ?_; refine zN (zT (XA.condF rfl (decide_eq_false h15) (zS (zR (yE ?_))))); refine yS ?_
  refine zN (zT (XA.condF rfl (decide_eq_false h16) (XA.skip (DA.inb_normal (zT (zS (zR (yS ?_)))))))); refine zN (zT (XA.ret ?_))
  exact bodyA.ret (ResA.one rfl rfl) zE ⟨rfl, .refl _, BeG.of hkp⟩
end Go.Proofs.YtmnmcjdgnpgchaaGreat

namespace Go.Proofs.YtmnmcjdgnpgchaaGreat
open Go X
section
variable {C : List In} {inp : List Int}
def Goes (C : List In) (inp : List Int) (f : Nat) (b : Be) (f' : Nat) (b' : Be) : Prop := f' ≤ f ∧ runM C inp f b = ((runM C inp f' b').1, (runM C inp f' b').2 + (f - f'))
theorem Goes.trans {f f1 f2 : Nat} {b b1 b2 : Be} (h : Goes C inp f b f1 b1) (k : Goes C inp f1 b1 f2 b2) : Goes C inp f b f2 b2 := by
  refine ⟨Nat.le_trans k.1 h.1, ?_⟩
  rw [h.2, k.2]
  have := h.1; have := k.1
  simp only [Prod.mk.injEq, true_and]; omega
def At_ (C : List In) (pc : Nat) (L : List In) : Prop := ∀ i x, L[i]? = some x → C[pc + i]? = some x
theorem At_.left {pc : Nat} {L M : List In} (h : At_ C pc (L ++ M)) : At_ C pc L := fun i x hx => h i x (by rw [List.getElem?_append_left (List.getElem?_eq_some_iff.1 hx).1]; exact hx)
end
end Go.Proofs.YtmnmcjdgnpgchaaGreat

namespace Go.Proofs.YtmnmcjdgnpgchaaGreat
open Go X
structure MInv (p : Pr) (inp : List Int) (o : Nat) (m : Mi) : Prop where
  at_ : m.st = 0 → m.next < (codeOf p).length ∧ (m.stack.length : Int) = hts ((codeOf p).take m.next)
  cells : m.cells.length = (sizes p.vars).toNat
  outn : m.outn ≤ o
  rd : m.rd ≤ inp.length
theorem hts_le {p : Pr} (hc : checkP p = 0) {i : Nat} (hi : i < (codeOf p).length) : hts ((codeOf p).take i) ≤ 24 := by
  cases i with
  | zero => rw [List.take_zero, hts_nil]; decide
  | succ j =>
    obtain ⟨x, hx⟩ : ∃ x, (codeOf p)[j]? = some x := ⟨_, List.getElem?_eq_getElem (by omega)⟩
    exact (code_fit hc hx).2.1
theorem MInv.ok {p : Pr} {inp : List Int} {b : Be} (hc : checkP p = 0) (h : MInv p inp b.out.length b.m) (h0 : b.m.st = 0) (hi : inp.length ≤ 1000000) (ho : b.out.length ≤ 1000000) (hl : (codeOf p).length ≤ 1000000) : ∃ x, StepOk (codeOf p) inp b x := by
  obtain ⟨h1, h2⟩ := h.at_ h0
  obtain ⟨x, hx⟩ : ∃ x, (codeOf p)[b.m.next]? = some x := ⟨_, List.getElem?_eq_getElem h1⟩
  obtain ⟨f1, f2, f3, f4, f5⟩ := code_fit hc hx
  obtain ⟨-, -, hv1, h48⟩ := check_valid hc
  have h24 := hts_le hc h1
  have hcl := h.cells
  have hrd := h.rd
  have hsn : (0 : Int) ≤ sizes p.vars := sizes_nonneg hv1
  refine ⟨x, h0, hx, by omega, ?_, fun ho => ?_, by omega, by omega, hl, by omega, ho, h.outn⟩
  · rw [show ((b.m.cells.length : Nat) : Int) = sizes p.vars by omega]; exact f5
  · obtain ⟨j, e, -⟩ := code_jump hc (List.mem_of_getElem? hx) ho
    omega
theorem MInv.step {p : Pr} {inp : List Int} {b : Be} {x : In} {keep : Bool} (hc : checkP p = 0) (h : MInv p inp b.out.length b.m) (hk : StepOk (codeOf p) inp b x) :
    MInv p inp (stepB (codeOf p) inp keep b).out.length (stepB (codeOf p) inp keep b).m ∧ b.out.length ≤ (stepB (codeOf p) inp keep b).out.length ∧ (stepB (codeOf p) inp keep b).out.length ≤ b.out.length + 1 ∧ ((stepB (codeOf p) inp keep b).kept = b.kept ∨ (stepB (codeOf p) inp keep b).kept = (stepB (codeOf p) inp keep b).m ∧ (stepB (codeOf p) inp keep b).m.st = 0) := by
  obtain ⟨⟨next, stack, rd, outn, st, cells⟩, kept, out, wrong⟩ := b
  obtain ⟨hst, hx, hpop, -, -, -, -, -, -, -, -⟩ := hk
  obtain ⟨hat, hcl, hon, hrd⟩ := h
  simp only at hst hx hpop hat hcl hon hrd
  subst hst
  obtain ⟨hlt, hn⟩ := hat rfl
  obtain ⟨f1, f2, f3, f4, -⟩ := code_fit hc hx
  have hd : hts ((codeOf p).take (next + 1)) = hts ((codeOf p).take next) + (popB x.op - popA x.op) := by rw [takeS hx, hts_app, hts_one]; rfl
  have hjmp := fun ho => code_jump hc (List.mem_of_getElem? hx) ho
  rw [stepB, hx]
  obtain ⟨op, a, bb, n⟩ := x
  simp only [bump] at hd f1 f3 f4 hjmp hpop ⊢
  have adv : op ≠ 16 → next + 1 < (codeOf p).length := fun h => by
    have : ¬ next = (codeOf p).length - 1 := fun e => h (f4.2 e)
    omega
  clear f2 hat hx f4
  by_cases h1 : op = 1
  · subst h1
    have adv := adv
    simp only [popA, popB] at hd hpop
    simp at hd hpop
    rw [show doIn inp keep ⟨1, a, bb, n⟩ ⟨⟨next + 1, stack, rd, outn, 0, cells⟩, kept, out, wrong⟩ = ⟨⟨next + 1, n :: stack, rd, outn, 0, cells⟩, kept, out, wrong⟩ from rfl]
    dsimp only
    exact ⟨⟨fun _ => ⟨adv (by decide), by first | omega | (simp only [List.length_cons, List.length_append, List.length_nil]; omega)⟩, hcl, by first | omega | (simp only [List.length_cons, List.length_append, List.length_nil]; omega), by first | omega | (simp only [List.length_cons, List.length_append, List.length_nil]; omega)⟩, by first | omega | (simp only [List.length_cons, List.length_append, List.length_nil]; omega), by first | omega | (simp only [List.length_cons, List.length_append, List.length_nil]; omega), .inl rfl⟩
  by_cases h2 : op = 2
  · subst h2
    have adv := adv
    simp only [popA, popB] at hd hpop
    simp at hd hpop
    rw [show doIn inp keep ⟨2, a, bb, n⟩ ⟨⟨next + 1, stack, rd, outn, 0, cells⟩, kept, out, wrong⟩ = ⟨⟨next + 1, cells.getD a.toNat 0 :: stack, rd, outn, 0, cells⟩, kept, out, wrong⟩ from rfl]
    dsimp only
    exact ⟨⟨fun _ => ⟨adv (by decide), by first | omega | (simp only [List.length_cons, List.length_append, List.length_nil]; omega)⟩, hcl, by first | omega | (simp only [List.length_cons, List.length_append, List.length_nil]; omega), by first | omega | (simp only [List.length_cons, List.length_append, List.length_nil]; omega)⟩, by first | omega | (simp only [List.length_cons, List.length_append, List.length_nil]; omega), by first | omega | (simp only [List.length_cons, List.length_append, List.length_nil]; omega), .inl rfl⟩
  by_cases h3 : op = 3
  · subst h3
    have adv := adv
    simp only [popA, popB] at hd hpop
    simp at hd hpop
    obtain ⟨k, s, rfl⟩ : ∃ n s, stack = n :: s := by
      cases stack with
      | nil => simp at hpop
      | cons n s => exact ⟨n, s, rfl⟩
    simp only [List.length_cons] at hn
    by_cases hk : k < 0 ∨ bb ≤ k
    · skip
      rw [show doIn inp keep ⟨3, a, bb, n⟩ ⟨⟨next + 1, k :: s, rd, outn, 0, cells⟩, kept, out, wrong⟩ = ⟨⟨next + 1, s, rd, outn, 13, cells⟩, kept, out, wrong⟩ from by simp [doIn, hk]]
      dsimp only
      exact ⟨⟨fun q => by simp at q, hcl, by first | omega | (simp only [List.length_cons, List.length_append, List.length_nil]; omega), by first | omega | (simp only [List.length_cons, List.length_append, List.length_nil]; omega)⟩, by first | omega | (simp only [List.length_cons, List.length_append, List.length_nil]; omega), by first | omega | (simp only [List.length_cons, List.length_append, List.length_nil]; omega), .inl rfl⟩
    · skip
      rw [show doIn inp keep ⟨3, a, bb, n⟩ ⟨⟨next + 1, k :: s, rd, outn, 0, cells⟩, kept, out, wrong⟩ = ⟨⟨next + 1, cells.getD (a + k).toNat 0 :: s, rd, outn, 0, cells⟩, kept, out, wrong⟩ from by simp [doIn, hk]]
      dsimp only
      exact ⟨⟨fun _ => ⟨adv (by decide), by first | omega | (simp only [List.length_cons, List.length_append, List.length_nil]; omega)⟩, hcl, by first | omega | (simp only [List.length_cons, List.length_append, List.length_nil]; omega), by first | omega | (simp only [List.length_cons, List.length_append, List.length_nil]; omega)⟩, by first | omega | (simp only [List.length_cons, List.length_append, List.length_nil]; omega), by first | omega | (simp only [List.length_cons, List.length_append, List.length_nil]; omega), .inl rfl⟩
  by_cases h4 : op = 4
  · subst h4
    have adv := adv
    simp only [popA, popB] at hd hpop
    simp at hd hpop
    obtain ⟨y, z, s, rfl⟩ : ∃ y z s, stack = y :: z :: s := by
      cases stack with
      | nil => simp at hpop
      | cons y s => cases s with
        | nil => simp at hpop
        | cons z s => exact ⟨y, z, s, rfl⟩
    simp only [List.length_cons] at hn
    rw [show doIn inp keep ⟨4, a, bb, n⟩ ⟨⟨next + 1, y :: z :: s, rd, outn, 0, cells⟩, kept, out, wrong⟩ = ⟨⟨next + 1, binV 4 z y :: s, rd, outn, 0, cells⟩, kept, out, wrong⟩ from rfl]
    dsimp only
    exact ⟨⟨fun _ => ⟨adv (by decide), by first | omega | (simp only [List.length_cons, List.length_append, List.length_nil]; omega)⟩, hcl, by first | omega | (simp only [List.length_cons, List.length_append, List.length_nil]; omega), by first | omega | (simp only [List.length_cons, List.length_append, List.length_nil]; omega)⟩, by first | omega | (simp only [List.length_cons, List.length_append, List.length_nil]; omega), by first | omega | (simp only [List.length_cons, List.length_append, List.length_nil]; omega), .inl rfl⟩
  by_cases h5 : op = 5
  · subst h5
    have adv := adv
    simp only [popA, popB] at hd hpop
    simp at hd hpop
    obtain ⟨y, z, s, rfl⟩ : ∃ y z s, stack = y :: z :: s := by
      cases stack with
      | nil => simp at hpop
      | cons y s => cases s with
        | nil => simp at hpop
        | cons z s => exact ⟨y, z, s, rfl⟩
    simp only [List.length_cons] at hn
    rw [show doIn inp keep ⟨5, a, bb, n⟩ ⟨⟨next + 1, y :: z :: s, rd, outn, 0, cells⟩, kept, out, wrong⟩ = ⟨⟨next + 1, binV 5 z y :: s, rd, outn, 0, cells⟩, kept, out, wrong⟩ from rfl]
    dsimp only
    exact ⟨⟨fun _ => ⟨adv (by decide), by first | omega | (simp only [List.length_cons, List.length_append, List.length_nil]; omega)⟩, hcl, by first | omega | (simp only [List.length_cons, List.length_append, List.length_nil]; omega), by first | omega | (simp only [List.length_cons, List.length_append, List.length_nil]; omega)⟩, by first | omega | (simp only [List.length_cons, List.length_append, List.length_nil]; omega), by first | omega | (simp only [List.length_cons, List.length_append, List.length_nil]; omega), .inl rfl⟩
  by_cases h6 : op = 6
  · subst h6
    have adv := adv
    simp only [popA, popB] at hd hpop
    simp at hd hpop
    obtain ⟨y, z, s, rfl⟩ : ∃ y z s, stack = y :: z :: s := by
      cases stack with
      | nil => simp at hpop
      | cons y s => cases s with
        | nil => simp at hpop
        | cons z s => exact ⟨y, z, s, rfl⟩
    simp only [List.length_cons] at hn
    rw [show doIn inp keep ⟨6, a, bb, n⟩ ⟨⟨next + 1, y :: z :: s, rd, outn, 0, cells⟩, kept, out, wrong⟩ = ⟨⟨next + 1, binV 6 z y :: s, rd, outn, 0, cells⟩, kept, out, wrong⟩ from rfl]
    dsimp only
    exact ⟨⟨fun _ => ⟨adv (by decide), by first | omega | (simp only [List.length_cons, List.length_append, List.length_nil]; omega)⟩, hcl, by first | omega | (simp only [List.length_cons, List.length_append, List.length_nil]; omega), by first | omega | (simp only [List.length_cons, List.length_append, List.length_nil]; omega)⟩, by first | omega | (simp only [List.length_cons, List.length_append, List.length_nil]; omega), by first | omega | (simp only [List.length_cons, List.length_append, List.length_nil]; omega), .inl rfl⟩
  by_cases h7 : op = 7
  · subst h7
    have adv := adv
    simp only [popA, popB] at hd hpop
    simp at hd hpop
    obtain ⟨y, z, s, rfl⟩ : ∃ y z s, stack = y :: z :: s := by
      cases stack with
      | nil => simp at hpop
      | cons y s => cases s with
        | nil => simp at hpop
        | cons z s => exact ⟨y, z, s, rfl⟩
    simp only [List.length_cons] at hn
    rw [show doIn inp keep ⟨7, a, bb, n⟩ ⟨⟨next + 1, y :: z :: s, rd, outn, 0, cells⟩, kept, out, wrong⟩ = ⟨⟨next + 1, binV 7 z y :: s, rd, outn, 0, cells⟩, kept, out, wrong⟩ from rfl]
    dsimp only
    exact ⟨⟨fun _ => ⟨adv (by decide), by first | omega | (simp only [List.length_cons, List.length_append, List.length_nil]; omega)⟩, hcl, by first | omega | (simp only [List.length_cons, List.length_append, List.length_nil]; omega), by first | omega | (simp only [List.length_cons, List.length_append, List.length_nil]; omega)⟩, by first | omega | (simp only [List.length_cons, List.length_append, List.length_nil]; omega), by first | omega | (simp only [List.length_cons, List.length_append, List.length_nil]; omega), .inl rfl⟩
  by_cases h8 : op = 8
  · subst h8
    have adv := adv
    simp only [popA, popB] at hd hpop
    simp at hd hpop
    obtain ⟨y, z, s, rfl⟩ : ∃ y z s, stack = y :: z :: s := by
      cases stack with
      | nil => simp at hpop
      | cons y s => cases s with
        | nil => simp at hpop
        | cons z s => exact ⟨y, z, s, rfl⟩
    simp only [List.length_cons] at hn
    rw [show doIn inp keep ⟨8, a, bb, n⟩ ⟨⟨next + 1, y :: z :: s, rd, outn, 0, cells⟩, kept, out, wrong⟩ = ⟨⟨next + 1, binV 8 z y :: s, rd, outn, 0, cells⟩, kept, out, wrong⟩ from rfl]
    dsimp only
    exact ⟨⟨fun _ => ⟨adv (by decide), by first | omega | (simp only [List.length_cons, List.length_append, List.length_nil]; omega)⟩, hcl, by first | omega | (simp only [List.length_cons, List.length_append, List.length_nil]; omega), by first | omega | (simp only [List.length_cons, List.length_append, List.length_nil]; omega)⟩, by first | omega | (simp only [List.length_cons, List.length_append, List.length_nil]; omega), by first | omega | (simp only [List.length_cons, List.length_append, List.length_nil]; omega), .inl rfl⟩
  by_cases h9 : op = 9
  · subst h9
    have adv := adv
    simp only [popA, popB] at hd hpop
    simp at hd hpop
    obtain ⟨k, s, rfl⟩ : ∃ n s, stack = n :: s := by
      cases stack with
      | nil => simp at hpop
      | cons n s => exact ⟨n, s, rfl⟩
    simp only [List.length_cons] at hn
    rw [show doIn inp keep ⟨9, a, bb, n⟩ ⟨⟨next + 1, k :: s, rd, outn, 0, cells⟩, kept, out, wrong⟩ = ⟨⟨next + 1, s, rd, outn, 0, cells.set a.toNat k⟩, kept, out, wrong⟩ from rfl]
    dsimp only
    exact ⟨⟨fun _ => ⟨adv (by decide), by first | omega | (simp only [List.length_cons, List.length_append, List.length_nil]; omega)⟩, by simpa using hcl, by first | omega | (simp only [List.length_cons, List.length_append, List.length_nil]; omega), by first | omega | (simp only [List.length_cons, List.length_append, List.length_nil]; omega)⟩, by first | omega | (simp only [List.length_cons, List.length_append, List.length_nil]; omega), by first | omega | (simp only [List.length_cons, List.length_append, List.length_nil]; omega), .inl rfl⟩
  by_cases h10 : op = 10
  · subst h10
    have adv := adv
    simp only [popA, popB] at hd hpop
    simp at hd hpop
    obtain ⟨y, k, s, rfl⟩ : ∃ y z s, stack = y :: z :: s := by
      cases stack with
      | nil => simp at hpop
      | cons y s => cases s with
        | nil => simp at hpop
        | cons z s => exact ⟨y, z, s, rfl⟩
    simp only [List.length_cons] at hn
    by_cases hk : k < 0 ∨ bb ≤ k
    · skip
      rw [show doIn inp keep ⟨10, a, bb, n⟩ ⟨⟨next + 1, y :: k :: s, rd, outn, 0, cells⟩, kept, out, wrong⟩ = ⟨⟨next + 1, s, rd, outn, 13, cells⟩, kept, out, wrong⟩ from by simp [doIn, hk]]
      dsimp only
      exact ⟨⟨fun q => by simp at q, hcl, by first | omega | (simp only [List.length_cons, List.length_append, List.length_nil]; omega), by first | omega | (simp only [List.length_cons, List.length_append, List.length_nil]; omega)⟩, by first | omega | (simp only [List.length_cons, List.length_append, List.length_nil]; omega), by first | omega | (simp only [List.length_cons, List.length_append, List.length_nil]; omega), .inl rfl⟩
    · skip
      rw [show doIn inp keep ⟨10, a, bb, n⟩ ⟨⟨next + 1, y :: k :: s, rd, outn, 0, cells⟩, kept, out, wrong⟩ = ⟨⟨next + 1, s, rd, outn, 0, cells.set (a + k).toNat y⟩, kept, out, wrong⟩ from by simp [doIn, hk]]
      dsimp only
      exact ⟨⟨fun _ => ⟨adv (by decide), by first | omega | (simp only [List.length_cons, List.length_append, List.length_nil]; omega)⟩, by simpa using hcl, by first | omega | (simp only [List.length_cons, List.length_append, List.length_nil]; omega), by first | omega | (simp only [List.length_cons, List.length_append, List.length_nil]; omega)⟩, by first | omega | (simp only [List.length_cons, List.length_append, List.length_nil]; omega), by first | omega | (simp only [List.length_cons, List.length_append, List.length_nil]; omega), .inl rfl⟩
  by_cases h11 : op = 11
  · subst h11
    have adv := adv
    simp only [popA, popB] at hd hpop
    simp at hd hpop
    obtain ⟨k, s, rfl⟩ : ∃ n s, stack = n :: s := by
      cases stack with
      | nil => simp at hpop
      | cons n s => exact ⟨n, s, rfl⟩
    simp only [List.length_cons] at hn
    by_cases hk : outn = out.length
    · skip
      rw [show doIn inp keep ⟨11, a, bb, n⟩ ⟨⟨next + 1, k :: s, rd, outn, 0, cells⟩, kept, out, wrong⟩ = ⟨⟨next + 1, s, rd, outn + 1, 0, cells⟩, kept, out ++ [k], wrong⟩ from by simp [doIn, hk]]
      dsimp only
      exact ⟨⟨fun _ => ⟨adv (by decide), by first | omega | (simp only [List.length_cons, List.length_append, List.length_nil]; omega)⟩, hcl, by first | omega | (simp only [List.length_cons, List.length_append, List.length_nil]; omega), by first | omega | (simp only [List.length_cons, List.length_append, List.length_nil]; omega)⟩, by first | omega | (simp only [List.length_cons, List.length_append, List.length_nil]; omega), by first | omega | (simp only [List.length_cons, List.length_append, List.length_nil]; omega), .inl rfl⟩
    · skip
      rw [show doIn inp keep ⟨11, a, bb, n⟩ ⟨⟨next + 1, k :: s, rd, outn, 0, cells⟩, kept, out, wrong⟩ = ⟨⟨next + 1, s, rd, outn + 1, 0, cells⟩, kept, out, (wrong || decide (out.getD outn 0 ≠ k))⟩ from by simp [doIn, hk]]
      dsimp only
      exact ⟨⟨fun _ => ⟨adv (by decide), by first | omega | (simp only [List.length_cons, List.length_append, List.length_nil]; omega)⟩, hcl, by first | omega | (simp only [List.length_cons, List.length_append, List.length_nil]; omega), by first | omega | (simp only [List.length_cons, List.length_append, List.length_nil]; omega)⟩, by first | omega | (simp only [List.length_cons, List.length_append, List.length_nil]; omega), by first | omega | (simp only [List.length_cons, List.length_append, List.length_nil]; omega), .inl rfl⟩
  by_cases h12 : op = 12
  · subst h12
    have adv := adv
    simp only [popA, popB] at hd hpop
    simp at hd hpop
    by_cases hk : inp.length ≤ rd
    · skip
      rw [show doIn inp keep ⟨12, a, bb, n⟩ ⟨⟨next + 1, stack, rd, outn, 0, cells⟩, kept, out, wrong⟩ = ⟨⟨next + 1, stack, rd, outn, 14, cells⟩, kept, out, wrong⟩ from by simp [doIn, hk]]
      dsimp only
      exact ⟨⟨fun q => by simp at q, hcl, by first | omega | (simp only [List.length_cons, List.length_append, List.length_nil]; omega), by first | omega | (simp only [List.length_cons, List.length_append, List.length_nil]; omega)⟩, by first | omega | (simp only [List.length_cons, List.length_append, List.length_nil]; omega), by first | omega | (simp only [List.length_cons, List.length_append, List.length_nil]; omega), .inl rfl⟩
    · skip
      rw [show doIn inp keep ⟨12, a, bb, n⟩ ⟨⟨next + 1, stack, rd, outn, 0, cells⟩, kept, out, wrong⟩ = ⟨⟨next + 1, stack, rd + 1, outn, 0, cells.set a.toNat (inp.getD rd 0)⟩, kept, out, wrong⟩ from by simp [doIn, hk]]
      dsimp only
      exact ⟨⟨fun _ => ⟨adv (by decide), by first | omega | (simp only [List.length_cons, List.length_append, List.length_nil]; omega)⟩, by simpa using hcl, by first | omega | (simp only [List.length_cons, List.length_append, List.length_nil]; omega), by first | omega | (simp only [List.length_cons, List.length_append, List.length_nil]; omega)⟩, by first | omega | (simp only [List.length_cons, List.length_append, List.length_nil]; omega), by first | omega | (simp only [List.length_cons, List.length_append, List.length_nil]; omega), .inl rfl⟩
  by_cases h13 : op = 13
  · subst h13
    have adv := adv
    simp only [popA, popB] at hd hpop
    simp at hd hpop
    obtain ⟨k, s, rfl⟩ : ∃ n s, stack = n :: s := by
      cases stack with
      | nil => simp at hpop
      | cons n s => exact ⟨n, s, rfl⟩
    simp only [List.length_cons] at hn
    obtain ⟨j, rfl, hj, hz⟩ := hjmp (by decide)
    have f3 := f3 (by decide)
    by_cases hk : k = 0
    · skip
      rw [show doIn inp keep ⟨13, (j : Int), bb, n⟩ ⟨⟨next + 1, k :: s, rd, outn, 0, cells⟩, kept, out, wrong⟩ = ⟨⟨j, s, rd, outn, 0, cells⟩, kept, out, wrong⟩ from by simp [doIn, hk]]
      dsimp only
      exact ⟨⟨fun _ => ⟨hj, by first | omega | (simp only [List.length_cons, List.length_append, List.length_nil]; omega)⟩, hcl, by first | omega | (simp only [List.length_cons, List.length_append, List.length_nil]; omega), by first | omega | (simp only [List.length_cons, List.length_append, List.length_nil]; omega)⟩, by first | omega | (simp only [List.length_cons, List.length_append, List.length_nil]; omega), by first | omega | (simp only [List.length_cons, List.length_append, List.length_nil]; omega), .inl rfl⟩
    · skip
      rw [show doIn inp keep ⟨13, (j : Int), bb, n⟩ ⟨⟨next + 1, k :: s, rd, outn, 0, cells⟩, kept, out, wrong⟩ = ⟨⟨next + 1, s, rd, outn, 0, cells⟩, kept, out, wrong⟩ from by simp [doIn, hk]]
      dsimp only
      exact ⟨⟨fun _ => ⟨adv (by decide), by first | omega | (simp only [List.length_cons, List.length_append, List.length_nil]; omega)⟩, hcl, by first | omega | (simp only [List.length_cons, List.length_append, List.length_nil]; omega), by first | omega | (simp only [List.length_cons, List.length_append, List.length_nil]; omega)⟩, by first | omega | (simp only [List.length_cons, List.length_append, List.length_nil]; omega), by first | omega | (simp only [List.length_cons, List.length_append, List.length_nil]; omega), .inl rfl⟩
  by_cases h14 : op = 14
  · subst h14
    have adv := adv
    simp only [popA, popB] at hd hpop
    simp at hd hpop
    obtain ⟨j, rfl, hj, hz⟩ := hjmp (by decide)
    have f3 := f3 (by decide)
    rw [show doIn inp keep ⟨14, (j : Int), bb, n⟩ ⟨⟨next + 1, stack, rd, outn, 0, cells⟩, kept, out, wrong⟩ = ⟨⟨j, stack, rd, outn, 0, cells⟩, kept, out, wrong⟩ from by simp [doIn]]
    dsimp only
    exact ⟨⟨fun _ => ⟨hj, by first | omega | (simp only [List.length_cons, List.length_append, List.length_nil]; omega)⟩, hcl, by first | omega | (simp only [List.length_cons, List.length_append, List.length_nil]; omega), by first | omega | (simp only [List.length_cons, List.length_append, List.length_nil]; omega)⟩, by first | omega | (simp only [List.length_cons, List.length_append, List.length_nil]; omega), by first | omega | (simp only [List.length_cons, List.length_append, List.length_nil]; omega), .inl rfl⟩
  by_cases h15 : op = 15
  · subst h15
    have adv := adv
    simp only [popA, popB] at hd hpop
    simp at hd hpop
    cases keep with
    | false =>
      rw [show doIn inp false ⟨15, a, bb, n⟩ ⟨⟨next + 1, stack, rd, outn, 0, cells⟩, kept, out, wrong⟩ = ⟨⟨next + 1, stack, rd, outn, 0, cells⟩, kept, out, wrong⟩ from rfl]
      dsimp only
      exact ⟨⟨fun _ => ⟨adv (by decide), by first | omega | (simp only [List.length_cons, List.length_append, List.length_nil]; omega)⟩, hcl, by first | omega | (simp only [List.length_cons, List.length_append, List.length_nil]; omega), by first | omega | (simp only [List.length_cons, List.length_append, List.length_nil]; omega)⟩, by first | omega | (simp only [List.length_cons, List.length_append, List.length_nil]; omega), by first | omega | (simp only [List.length_cons, List.length_append, List.length_nil]; omega), .inl rfl⟩
    | true =>
      rw [show doIn inp true ⟨15, a, bb, n⟩ ⟨⟨next + 1, stack, rd, outn, 0, cells⟩, kept, out, wrong⟩ = ⟨⟨next + 1, stack, rd, outn, 0, cells⟩, ⟨next + 1, stack, rd, outn, 0, cells⟩, out, wrong⟩ from rfl]
      dsimp only
      exact ⟨⟨fun _ => ⟨adv (by decide), by first | omega | (simp only [List.length_cons, List.length_append, List.length_nil]; omega)⟩, hcl, by first | omega | (simp only [List.length_cons, List.length_append, List.length_nil]; omega), by first | omega | (simp only [List.length_cons, List.length_append, List.length_nil]; omega)⟩, by first | omega | (simp only [List.length_cons, List.length_append, List.length_nil]; omega), by first | omega | (simp only [List.length_cons, List.length_append, List.length_nil]; omega), .inr ⟨rfl, rfl⟩⟩
  by_cases h16 : op = 16
  · subst h16
    have adv := adv
    simp only [popA, popB] at hd hpop
    simp at hd hpop
    rw [show doIn inp keep ⟨16, a, bb, n⟩ ⟨⟨next + 1, stack, rd, outn, 0, cells⟩, kept, out, wrong⟩ = ⟨⟨next + 1, stack, rd, outn, 1, cells⟩, kept, out, wrong⟩ from rfl]
    dsimp only
    exact ⟨⟨fun q => by simp at q, hcl, by first | omega | (simp only [List.length_cons, List.length_append, List.length_nil]; omega), by first | omega | (simp only [List.length_cons, List.length_append, List.length_nil]; omega)⟩, by first | omega | (simp only [List.length_cons, List.length_append, List.length_nil]; omega), by first | omega | (simp only [List.length_cons, List.length_append, List.length_nil]; omega), .inl rfl⟩
  have hA : popA op = 0 := by simp only [popA]; rw [if_neg h3, if_neg (show ¬ (4 ≤ op ∧ op ≤ 8) by omega), if_neg (show ¬ (op = 9 ∨ op = 11 ∨ op = 13) by omega), if_neg h10]
  have hB : popB op = 0 := by simp only [popB]; rw [if_neg (show ¬ (1 ≤ op ∧ op ≤ 8) by omega)]
  rw [hA, hB] at hd
  simp only [doIn]
  rw [if_neg h1, if_neg h2, if_neg h3, if_neg (show ¬ (4 ≤ op ∧ op ≤ 8) by omega), if_neg h9, if_neg h10, if_neg h11, if_neg h12, if_neg h13, if_neg h14, if_neg h15, if_neg h16]
  dsimp only
  exact ⟨⟨fun _ => ⟨adv h16, by show (stack.length : Int) = hts ((codeOf p).take (next + 1)); omega⟩, hcl, by omega, by omega⟩, by omega, by omega, .inl rfl⟩
end Go.Proofs.YtmnmcjdgnpgchaaGreat

namespace Go.Proofs.YtmnmcjdgnpgchaaGreat
open Go X
theorem putC_ok {C : List (List Int)} (h : pgsOk C) (a w : Int) : pgsOk (putC C a w) := by
  unfold putC; split
  · rename_i hc
    exact pgs_set h _ (by rw [List.length_set]; exact pgs_row8 h (by omega))
  · exact h
theorem wput {C : List (List Int)} (h : pgsOk C) {a : Int} (w : Int) (ha : 0 ≤ a ∧ a < 112) (b : Int) : wordC (putC C a w) b = if b = a then w else wordC C b := by
  by_cases hb : 0 ≤ b ∧ b < 112
  · obtain ⟨n, rfl⟩ := Int.eq_ofNat_of_zero_le hb.1
    exact wordC_put h a w (by omega)
  · rw [wordC_out hb, wordC_out hb, if_neg (by omega)]
structure Shows (C : List (List Int)) (m : Mi) : Prop where
  ok : pgsOk C
  nx : wordC C 0 = m.next
  sl : wordC C 1 = m.stack.length
  rd : wordC C 2 = m.rd
  on : wordC C 3 = m.outn
  st : wordC C 4 = m.st
  ce : ∀ k : Nat, k < m.cells.length → wordC C (5 + k) = m.cells.getD k 0
  sk : ∀ j : Nat, j < m.stack.length → wordC C (53 + j) = m.stack.reverse.getD j 0
  lc : m.cells.length ≤ 48
  ls : m.stack.length ≤ 59
theorem rev_lt (n : Int) (s : List Int) {j : Nat} (h : j < s.length) : (n :: s).reverse.getD j 0 = s.reverse.getD j 0 := by
  rw [List.reverse_cons, List.getD_eq_getElem?_getD, List.getD_eq_getElem?_getD, List.getElem?_append_left (by rw [List.length_reverse]; exact h)]
theorem rev_at (n : Int) (s : List Int) : (n :: s).reverse.getD s.length 0 = n := by
  rw [List.reverse_cons, List.getD_eq_getElem?_getD, List.getElem?_append_right (by simp)]; simp
section
variable {C : List (List Int)} {next rd outn : Nat} {stack cells : List Int} {st : Int}
theorem Shows.put0 (h : Shows C ⟨next, stack, rd, outn, st, cells⟩) (n : Nat) : Shows (putC C 0 n) ⟨n, stack, rd, outn, st, cells⟩ := by
  have w := wput h.ok (a := 0) n (by omega)
  refine ⟨putC_ok h.ok _ _, by rw [w, if_pos rfl], by rw [w, if_neg (by omega)]; exact h.sl, by rw [w, if_neg (by omega)]; exact h.rd, by rw [w, if_neg (by omega)]; exact h.on, by rw [w, if_neg (by omega)]; exact h.st, fun k hk => ?_, fun j hj => ?_, h.lc, h.ls⟩
  · rw [w, if_neg (by omega)]; exact h.ce k hk
  · rw [w, if_neg (by omega)]; exact h.sk j hj
theorem Shows.put2 (h : Shows C ⟨next, stack, rd, outn, st, cells⟩) (n : Nat) : Shows (putC C 2 n) ⟨next, stack, n, outn, st, cells⟩ := by
  have w := wput h.ok (a := 2) n (by omega)
  refine ⟨putC_ok h.ok _ _, by rw [w, if_neg (by omega)]; exact h.nx, by rw [w, if_neg (by omega)]; exact h.sl, by rw [w, if_pos rfl], by rw [w, if_neg (by omega)]; exact h.on, by rw [w, if_neg (by omega)]; exact h.st, fun k hk => ?_, fun j hj => ?_, h.lc, h.ls⟩
  · rw [w, if_neg (by omega)]; exact h.ce k hk
  · rw [w, if_neg (by omega)]; exact h.sk j hj
theorem Shows.put3 (h : Shows C ⟨next, stack, rd, outn, st, cells⟩) (n : Nat) : Shows (putC C 3 n) ⟨next, stack, rd, n, st, cells⟩ := by
  have w := wput h.ok (a := 3) n (by omega)
  refine ⟨putC_ok h.ok _ _, by rw [w, if_neg (by omega)]; exact h.nx, by rw [w, if_neg (by omega)]; exact h.sl, by rw [w, if_neg (by omega)]; exact h.rd, by rw [w, if_pos rfl], by rw [w, if_neg (by omega)]; exact h.st, fun k hk => ?_, fun j hj => ?_, h.lc, h.ls⟩
  · rw [w, if_neg (by omega)]; exact h.ce k hk
  · rw [w, if_neg (by omega)]; exact h.sk j hj
theorem Shows.put4 (h : Shows C ⟨next, stack, rd, outn, st, cells⟩) (n : Int) : Shows (putC C 4 n) ⟨next, stack, rd, outn, n, cells⟩ := by
  have w := wput h.ok (a := 4) n (by omega)
  refine ⟨putC_ok h.ok _ _, by rw [w, if_neg (by omega)]; exact h.nx, by rw [w, if_neg (by omega)]; exact h.sl, by rw [w, if_neg (by omega)]; exact h.rd, by rw [w, if_neg (by omega)]; exact h.on, by rw [w, if_pos rfl], fun k hk => ?_, fun j hj => ?_, h.lc, h.ls⟩
  · rw [w, if_neg (by omega)]; exact h.ce k hk
  · rw [w, if_neg (by omega)]; exact h.sk j hj
theorem Shows.putc (h : Shows C ⟨next, stack, rd, outn, st, cells⟩) {a : Nat} (ha : a < cells.length) (n : Int) : Shows (putC C (5 + a) n) ⟨next, stack, rd, outn, st, cells.set a n⟩ := by
  have hl := h.lc
  have hs := h.ls
  simp only at hl hs
  have w := wput h.ok (a := 5 + a) n (by omega)
  refine ⟨putC_ok h.ok _ _, by rw [w, if_neg (by omega)]; exact h.nx, by rw [w, if_neg (by omega)]; exact h.sl, by rw [w, if_neg (by omega)]; exact h.rd, by rw [w, if_neg (by omega)]; exact h.on, by rw [w, if_neg (by omega)]; exact h.st, fun k hk => ?_, fun j hj => ?_, by simpa using hl, hs⟩
  · simp only [List.length_set] at hk
    have e := h.ce k hk
    simp only [List.getD_eq_getElem?_getD, List.getElem?_set] at e ⊢
    rw [w]
    by_cases hak : a = k
    · subst hak; rw [if_pos rfl, if_pos rfl, if_pos ha]; rfl
    · rw [if_neg (by omega), if_neg hak]; exact e
  · rw [w, if_neg (by omega)]; exact h.sk j hj
theorem Shows.push (h : Shows C ⟨next, stack, rd, outn, st, cells⟩) (hl : stack.length < 59) (n : Int) : Shows (putC (putC C 1 (stack.length + 1)) (53 + stack.length) n) ⟨next, n :: stack, rd, outn, st, cells⟩ := by
  have hc := h.lc
  simp only at hc
  have w1 := wput h.ok (a := 1) (stack.length + 1) (by omega)
  have ok1 := putC_ok h.ok 1 ((stack.length : Int) + 1)
  have w2 := wput ok1 (a := 53 + stack.length) n (by omega)
  refine ⟨putC_ok ok1 _ _, ?_, ?_, ?_, ?_, ?_, fun k hk => ?_, fun j hj => ?_, hc, by simp only [List.length_cons]; omega⟩
  · rw [w2, if_neg (by omega), w1, if_neg (by omega)]; exact h.nx
  · rw [w2, if_neg (by omega), w1, if_pos rfl]; simp
  · rw [w2, if_neg (by omega), w1, if_neg (by omega)]; exact h.rd
  · rw [w2, if_neg (by omega), w1, if_neg (by omega)]; exact h.on
  · rw [w2, if_neg (by omega), w1, if_neg (by omega)]; exact h.st
  · simp only at hk
    rw [w2, if_neg (by omega), w1, if_neg (by omega)]; exact h.ce k hk
  · simp only [List.length_cons] at hj
    rw [w2]
    by_cases e : j = stack.length
    · subst e; rw [if_pos rfl, rev_at]
    · rw [if_neg (by omega), w1, if_neg (by omega), rev_lt n stack (by omega)]; exact h.sk j (by show j < stack.length; omega)
theorem Shows.pop {n : Int} {s : List Int} (h : Shows C ⟨next, n :: s, rd, outn, st, cells⟩) : Shows (putC C 1 s.length) ⟨next, s, rd, outn, st, cells⟩ := by
  have hc := h.lc
  have hs := h.ls
  simp only [List.length_cons] at hc hs
  have w := wput h.ok (a := 1) s.length (by omega)
  refine ⟨putC_ok h.ok _ _, by rw [w, if_neg (by omega)]; exact h.nx, by rw [w, if_pos rfl], by rw [w, if_neg (by omega)]; exact h.rd, by rw [w, if_neg (by omega)]; exact h.on, by rw [w, if_neg (by omega)]; exact h.st, fun k hk => ?_, fun j hj => ?_, hc, by show s.length ≤ 59; omega⟩
  · rw [w, if_neg (by omega)]; exact h.ce k hk
  · simp only at hj
    rw [w, if_neg (by omega), ← rev_lt n s hj]; exact h.sk j (by show j < (n :: s).length; rw [List.length_cons]; omega)
theorem Shows.top {n : Int} {s : List Int} (h : Shows C ⟨next, n :: s, rd, outn, st, cells⟩) : wordC C (53 + s.length) = n := by
  rw [h.sk s.length (by show _ < (n :: s).length; simp)]; exact rev_at n s
end
namespace Me
def pushM (M : Me) (n : Int) : Me := (M.put 1 (M.ld 1 + 1)).put (53 + M.ld 1) n
def popM (M : Me) : Me := M.put 1 (M.ld 1 - 1)
def topM (M : Me) : Int := M.popM.ld (52 + M.ld 1)
def doM (inp : List Int) (x : In) (M : Me) : Me :=
  if x.op = 1 then M.pushM x.n
  else if x.op = 2 then M.pushM (M.ld (5 + x.a))
  else if x.op = 3 then (if M.topM < 0 ∨ x.b ≤ M.topM then M.popM.put 4 13 else M.popM.pushM (M.popM.ld (5 + x.a + M.topM)))
  else if 4 ≤ x.op ∧ x.op ≤ 8 then M.popM.popM.pushM (binV x.op M.popM.topM M.topM)
  else if x.op = 9 then M.popM.put (5 + x.a) M.topM
  else if x.op = 10 then (if M.popM.topM < 0 ∨ x.b ≤ M.popM.topM then M.popM.popM.put 4 13 else M.popM.popM.put (5 + x.a + M.popM.topM) M.topM)
  else if x.op = 11 then M.popM.put 3 (M.popM.ld 3 + 1)
  else if x.op = 12 then (if (inp.length : Int) ≤ M.ld 2 then M.put 4 14 else (M.put 2 (M.ld 2 + 1)).put (5 + x.a) (inp.getD (M.ld 2).toNat 0))
  else if x.op = 13 then (if M.topM = 0 then M.popM.put 0 x.a else M.popM)
  else if x.op = 14 then M.put 0 x.a
  else if x.op = 15 then ⟨M.C, noB⟩
  else if x.op = 16 then M.put 4 1
  else M
def stepM (code : List In) (inp : List Int) (M : Me) : Me := match code[(M.ld 0).toNat]? with
  | none => M
  | some x => doM inp x (M.put 0 (M.ld 0 + 1))
end Me
section
variable {M : Me} {next rd outn : Nat} {stack cells : List Int} {st : Int}
theorem Shows.popM {n : Int} {s : List Int} (h : Shows M.C ⟨next, n :: s, rd, outn, st, cells⟩) : Shows M.popM.C ⟨next, s, rd, outn, st, cells⟩ := by
  have e : M.ld 1 - 1 = s.length := by rw [Me.ld, h.sl]; simp
  show Shows (putC M.C 1 (M.ld 1 - 1)) _
  rw [e]; exact h.pop
theorem Shows.topM {n : Int} {s : List Int} (h : Shows M.C ⟨next, n :: s, rd, outn, st, cells⟩) : M.topM = n := by
  have hs := h.ls
  simp only [List.length_cons] at hs
  have e : M.ld 1 = s.length + 1 := by rw [Me.ld, h.sl]; simp
  show wordC (putC M.C 1 (M.ld 1 - 1)) (52 + M.ld 1) = n
  rw [wput h.ok _ (by omega), if_neg (by omega), e, show (52 : Int) + (s.length + 1) = 53 + s.length by omega]
  exact h.top
theorem Shows.pushM (h : Shows M.C ⟨next, stack, rd, outn, st, cells⟩) (hl : stack.length < 59) (n : Int) : Shows (M.pushM n).C ⟨next, n :: stack, rd, outn, st, cells⟩ := by
  have e : M.ld 1 = stack.length := h.sl
  show Shows (putC (putC M.C 1 (M.ld 1 + 1)) (53 + M.ld 1) n) _
  rw [e]; exact h.push hl n
end
theorem Shows.step {code : List In} {inp : List Int} {b : Be} {x : In} {M : Me} (keep : Bool) (h : Shows M.C b.m) (hk : StepOk code inp b x) (hs : b.m.stack.length < 59) : Shows (M.stepM code inp).C (stepB code inp keep b).m := by
  obtain ⟨⟨next, stack, rd, outn, st, cells⟩, kept, out, wrong⟩ := b
  obtain ⟨hst, hx, hpop, ⟨hcell, hcell2⟩, hgo, hsl, hcl, hcd, hrd, hol, hon⟩ := hk
  simp only at hst hx hpop hcell hcell2 hsl hcl hcd hrd hol hon hs h
  subst hst
  have e0 : M.ld 0 = next := h.nx
  rw [stepB, hx, Me.stepM, e0, Int.toNat_natCast, hx]
  simp only [bump]
  have h1 : Shows (M.put 0 (((next : Nat) : Int) + 1)).C ⟨next + 1, stack, rd, outn, 0, cells⟩ := by
    have := h.put0 (next + 1)
    rw [Int.natCast_add] at this
    exact this
  clear h e0
  generalize M.put 0 (((next : Nat) : Int) + 1) = M at h1
  obtain ⟨op, a, bb, n⟩ := x
  simp only at hpop hcell hcell2 hgo
  clear hx
  by_cases o1 : op = 1
  · subst o1; exact h1.pushM hs n
  by_cases o2 : op = 2
  · subst o2
    obtain ⟨ha0, ha1⟩ := hcell (.inl rfl)
    obtain ⟨a, rfl⟩ : ∃ k : Nat, a = k := ⟨a.toNat, by omega⟩
    have e : M.ld (5 + (a : Int)) = cells.getD a 0 := h1.ce a (by show a < cells.length; omega)
    have := h1.pushM hs (cells.getD a 0)
    rw [← e] at this
    show Shows (M.pushM (M.ld (5 + (a : Int)))).C ⟨next + 1, cells.getD ((a : Int)).toNat 0 :: stack, rd, outn, 0, cells⟩
    rw [Int.toNat_natCast, ← e]; exact this
  by_cases o3 : op = 3
  · subst o3
    obtain ⟨k, s, rfl⟩ : ∃ n s, stack = n :: s := by
      cases stack with
      | nil => simp [popA] at hpop
      | cons n s => exact ⟨n, s, rfl⟩
    obtain ⟨hb0, hb1, hb2⟩ := hcell2 (by decide)
    have ht := h1.topM
    have hp := h1.popM
    by_cases hk : k < 0 ∨ bb ≤ k
    · have e1 : M.doM inp ⟨3, a, bb, n⟩ = M.popM.put 4 13 := by simp [Me.doM, ht, hk]
      have e2 : (doIn inp keep ⟨3, a, bb, n⟩ ⟨⟨next + 1, k :: s, rd, outn, 0, cells⟩, kept, out, wrong⟩) = ⟨⟨next + 1, s, rd, outn, 13, cells⟩, kept, out, wrong⟩ := by simp [doIn, hk]
      rw [e1, e2]; exact hp.put4 13
    · have e1 : M.doM inp ⟨3, a, bb, n⟩ = M.popM.pushM (M.popM.ld (5 + a + k)) := by simp [Me.doM, ht, hk]
      have e2 : (doIn inp keep ⟨3, a, bb, n⟩ ⟨⟨next + 1, k :: s, rd, outn, 0, cells⟩, kept, out, wrong⟩) = ⟨⟨next + 1, cells.getD (a + k).toNat 0 :: s, rd, outn, 0, cells⟩, kept, out, wrong⟩ := by simp [doIn, hk]
      rw [e1, e2]
      obtain ⟨j, hj⟩ : ∃ j : Nat, a + k = j := ⟨(a + k).toNat, by omega⟩
      have e : M.popM.ld (5 + (j : Int)) = cells.getD j 0 := hp.ce j (by show j < cells.length; omega)
      rw [show 5 + a + k = 5 + (j : Int) by omega, hj, Int.toNat_natCast, e]
      exact hp.pushM (by simp only [List.length_cons] at hs; omega) _
  by_cases o4 : 4 ≤ op ∧ op ≤ 8
  · have hp2 : popA op = 2 := by simp only [popA]; rw [if_neg o3, if_pos o4]
    obtain ⟨y, z, s, rfl⟩ : ∃ y z s, stack = y :: z :: s := by
      cases stack with
      | nil => simp [hp2] at hpop
      | cons y s => cases s with
        | nil => simp [hp2] at hpop
        | cons z s => exact ⟨y, z, s, rfl⟩
    have e1 : M.doM inp ⟨op, a, bb, n⟩ = M.popM.popM.pushM (binV op M.popM.topM M.topM) := by
      simp only [Me.doM]; rw [if_neg o1, if_neg o2, if_neg o3, if_pos o4]
    have e2 : (doIn inp keep ⟨op, a, bb, n⟩ ⟨⟨next + 1, y :: z :: s, rd, outn, 0, cells⟩, kept, out, wrong⟩) = ⟨⟨next + 1, binV op z y :: s, rd, outn, 0, cells⟩, kept, out, wrong⟩ := by
      simp only [doIn]; rw [if_neg o1, if_neg o2, if_neg o3, if_pos o4]
    rw [e1, e2, h1.topM, h1.popM.topM]
    exact h1.popM.popM.pushM (by simp only [List.length_cons] at hs; omega) _
  by_cases o9 : op = 9
  · subst o9
    obtain ⟨k, s, rfl⟩ : ∃ n s, stack = n :: s := by
      cases stack with
      | nil => simp [popA] at hpop
      | cons n s => exact ⟨n, s, rfl⟩
    obtain ⟨ha0, ha1⟩ := hcell (by decide)
    obtain ⟨a, rfl⟩ : ∃ k : Nat, a = k := ⟨a.toNat, by omega⟩
    have := h1.popM.putc (a := a) (by omega) k
    show Shows (M.popM.put (5 + (a : Int)) M.topM).C ⟨next + 1, s, rd, outn, 0, cells.set ((a : Int)).toNat k⟩
    rw [Int.toNat_natCast, h1.topM]; exact this
  by_cases o10 : op = 10
  · subst o10
    obtain ⟨y, z, s, rfl⟩ : ∃ y z s, stack = y :: z :: s := by
      cases stack with
      | nil => simp [popA] at hpop
      | cons y s => cases s with
        | nil => simp [popA] at hpop
        | cons z s => exact ⟨y, z, s, rfl⟩
    obtain ⟨hb0, hb1, hb2⟩ := hcell2 (by decide)
    have ht := h1.topM
    have ht2 := h1.popM.topM
    have hp := h1.popM.popM
    by_cases hk : z < 0 ∨ bb ≤ z
    · have e1 : M.doM inp ⟨10, a, bb, n⟩ = M.popM.popM.put 4 13 := by simp [Me.doM, ht2, hk]
      have e2 : (doIn inp keep ⟨10, a, bb, n⟩ ⟨⟨next + 1, y :: z :: s, rd, outn, 0, cells⟩, kept, out, wrong⟩) = ⟨⟨next + 1, s, rd, outn, 13, cells⟩, kept, out, wrong⟩ := by simp [doIn, hk]
      rw [e1, e2]; exact hp.put4 13
    · have e1 : M.doM inp ⟨10, a, bb, n⟩ = M.popM.popM.put (5 + a + z) y := by simp [Me.doM, ht, ht2, hk]
      have e2 : (doIn inp keep ⟨10, a, bb, n⟩ ⟨⟨next + 1, y :: z :: s, rd, outn, 0, cells⟩, kept, out, wrong⟩) = ⟨⟨next + 1, s, rd, outn, 0, cells.set (a + z).toNat y⟩, kept, out, wrong⟩ := by simp [doIn, hk]
      rw [e1, e2]
      obtain ⟨j, hj⟩ : ∃ j : Nat, a + z = j := ⟨(a + z).toNat, by omega⟩
      rw [show 5 + a + z = 5 + (j : Int) by omega, hj, Int.toNat_natCast]
      exact hp.putc (a := j) (by omega) y
  by_cases o11 : op = 11
  · subst o11
    obtain ⟨k, s, rfl⟩ : ∃ n s, stack = n :: s := by
      cases stack with
      | nil => simp [popA] at hpop
      | cons n s => exact ⟨n, s, rfl⟩
    have e : (doIn inp keep ⟨11, a, bb, n⟩ ⟨⟨next + 1, k :: s, rd, outn, 0, cells⟩, kept, out, wrong⟩).m = ⟨next + 1, s, rd, outn + 1, 0, cells⟩ := by
      by_cases hoe : outn = out.length <;> simp [doIn, hoe]
    rw [e]
    have e3 : M.popM.ld 3 = outn := h1.popM.on
    have := h1.popM.put3 (outn + 1)
    rw [Int.natCast_add] at this
    show Shows (M.popM.put 3 (M.popM.ld 3 + 1)).C _
    rw [e3]; exact this
  by_cases o12 : op = 12
  · subst o12
    obtain ⟨ha0, ha1⟩ := hcell (by decide)
    obtain ⟨a, rfl⟩ : ∃ k : Nat, a = k := ⟨a.toNat, by omega⟩
    have e2 : M.ld 2 = rd := h1.rd
    by_cases hr : inp.length ≤ rd
    · have e1 : M.doM inp ⟨12, a, bb, n⟩ = M.put 4 14 := by simp [Me.doM, e2, hr]
      have e3 : (doIn inp keep ⟨12, a, bb, n⟩ ⟨⟨next + 1, stack, rd, outn, 0, cells⟩, kept, out, wrong⟩) = ⟨⟨next + 1, stack, rd, outn, 14, cells⟩, kept, out, wrong⟩ := by simp [doIn, hr]
      rw [e1, e3]; exact h1.put4 14
    · have hr2 : ¬ ((inp.length : Int) ≤ rd) := by omega
      have e1 : M.doM inp ⟨12, a, bb, n⟩ = (M.put 2 (rd + 1)).put (5 + a) (inp.getD rd 0) := by simp [Me.doM, e2, hr]
      have e3 : (doIn inp keep ⟨12, a, bb, n⟩ ⟨⟨next + 1, stack, rd, outn, 0, cells⟩, kept, out, wrong⟩) = ⟨⟨next + 1, stack, rd + 1, outn, 0, cells.set a (inp.getD rd 0)⟩, kept, out, wrong⟩ := by simp [doIn, hr]
      rw [e1, e3]
      have := h1.put2 (rd + 1)
      rw [Int.natCast_add] at this
      exact this.putc (a := a) (by omega) _
  by_cases o13 : op = 13
  · subst o13
    obtain ⟨k, s, rfl⟩ : ∃ n s, stack = n :: s := by
      cases stack with
      | nil => simp [popA] at hpop
      | cons n s => exact ⟨n, s, rfl⟩
    obtain ⟨a, rfl⟩ : ∃ k : Nat, a = k := ⟨a.toNat, by have := hgo (by decide); omega⟩
    have ht := h1.topM
    by_cases hk : k = 0
    · have e1 : M.doM inp ⟨13, a, bb, n⟩ = M.popM.put 0 a := by simp [Me.doM, ht, hk]
      have e2 : (doIn inp keep ⟨13, a, bb, n⟩ ⟨⟨next + 1, k :: s, rd, outn, 0, cells⟩, kept, out, wrong⟩) = ⟨⟨a, s, rd, outn, 0, cells⟩, kept, out, wrong⟩ := by simp [doIn, hk]
      rw [e1, e2]; exact h1.popM.put0 a
    · have e1 : M.doM inp ⟨13, a, bb, n⟩ = M.popM := by simp [Me.doM, ht, hk]
      have e2 : (doIn inp keep ⟨13, a, bb, n⟩ ⟨⟨next + 1, k :: s, rd, outn, 0, cells⟩, kept, out, wrong⟩) = ⟨⟨next + 1, s, rd, outn, 0, cells⟩, kept, out, wrong⟩ := by simp [doIn, hk]
      rw [e1, e2]; exact h1.popM
  by_cases o14 : op = 14
  · subst o14
    obtain ⟨a, rfl⟩ : ∃ k : Nat, a = k := ⟨a.toNat, by have := hgo (by decide); omega⟩
    exact h1.put0 a
  by_cases o15 : op = 15
  · subst o15
    cases keep <;> exact h1
  by_cases o16 : op = 16
  · subst o16
    exact h1.put4 1
  have e1 : M.doM inp ⟨op, a, bb, n⟩ = M := by
    simp only [Me.doM]; rw [if_neg o1, if_neg o2, if_neg o3, if_neg o4, if_neg o9, if_neg o10, if_neg o11, if_neg o12, if_neg o13, if_neg o14, if_neg o15, if_neg o16]
  have e2 : (doIn inp keep ⟨op, a, bb, n⟩ ⟨⟨next + 1, stack, rd, outn, 0, cells⟩, kept, out, wrong⟩) = ⟨⟨next + 1, stack, rd, outn, 0, cells⟩, kept, out, wrong⟩ := by
    simp only [doIn]; rw [if_neg o1, if_neg o2, if_neg o3, if_neg o4, if_neg o9, if_neg o10, if_neg o11, if_neg o12, if_neg o13, if_neg o14, if_neg o15, if_neg o16]
  rw [e1, e2]; exact h1
end Go.Proofs.YtmnmcjdgnpgchaaGreat

namespace Go.Proofs.YtmnmcjdgnpgchaaGreat
open Go X
set_option maxHeartbeats 1000000
def codeP (wrong : Bool) : Int := if wrong then 15 else 0
def Prin (pb : Nat) (out : List Int) (wrong : Bool) : HP := fun m => ∃ x : Option Addr × Nat, True ∧ Sat [blk pb [.slice x.1 out.length x.2, i64 (codeP wrong)] 61, lst 2 1 (.slice x.1 out.length x.2) out.length (ints out)] m
theorem Prin.opn {pb : Nat} {out : List Int} {wrong : Bool} : ∀ m, Prin pb out wrong m → ∃ x : Option Addr × Nat, True ∧ Sat [blk pb [.slice x.1 out.length x.2, i64 (codeP wrong)] 61, lst 2 1 (.slice x.1 out.length x.2) out.length (ints out)] m := fun _ h => h
theorem Prin.mk {pb : Nat} {out : List Int} {wrong : Bool} {p : Option Addr} {c n : Nat} {k : Int} {vs : List Value} (hn : n = out.length) (hk : k = codeP wrong) (hv : vs = ints out) : ∀ m, Sat [blk pb [.slice p n c, i64 k] 61, lst 2 1 (.slice p n c) n vs] m → Prin pb out wrong m := fun _ h => ⟨(p, c), trivial, by subst hn; subst hk; subst hv; exact h⟩
def prS (out : List Int) (wrong : Bool) (a n : Int) : List Int × Bool :=
  if a = out.length then (out ++ [n], wrong) else if a < 0 ∨ (out.length : Int) < a ∨ out.getD a.toNat 0 ≠ n then (out, true) else (out, wrong)
theorem pput_a (σ : PH) (pb : Nat) (out : List Int) (wrong : Bool) (a n : Int) (hl : out.length ≤ 1000000) :
    CallsA Tryz.prog 84 #[ptr pb, i64 a, i64 n] σ [Prin pb out wrong] (RetA fun v σ' Γ' => v = .tuple #[] ∧ σ = σ' ∧ Γ' = [Prin pb (prS out wrong a n).1 (prS out wrong a n).2]) := by
  by_cases h1 : a = out.length
  · have e : prS out wrong a n = (out ++ [n], wrong) := by rw [prS, if_pos h1]
    rw [e]
    have hone : ones [i64 n] := ones_lit rfl
    refine enterA3 Tryz.func84 rfl rfl rfl ?_; refine XA.block (zS (zR ?_))
    first | refine XA.opn (R := Prin pb out wrong) zL (Prin.opn) ?_ | refine XOA.opn (R := Prin pb out wrong) zL (Prin.opn) ?_ | refine DA.opn (R := Prin pb out wrong) zL (Prin.opn) ?_
    rintro ⟨p, c⟩ -
    first | refine XA.cl ?_ | refine XOA.cl ?_ | refine DA.cl ?_
    refine yA ?_; refine yA ?_; refine zO rfl (Rd.nilCheck rfl) ?_; refine yV ?_; refine yB ?_; refine zO rfl (Rd.lenSlice (tyrow rfl) rfl rfl) ?_; refine yE ?_; refine yS ?_; refine zN (zT (XA.condT rfl (decide_eq_true h1) (zR (yA ?_)))); refine yA ?_; refine zO rfl (Rd.nilCheck rfl) ?_; refine yV ?_
    refine yB ?_; refine yA ?_; refine zw rfl (WrA.bs1 (tyrow rfl) rfl (tyrow rfl)) ?_
    rintro _ _ _ ⟨g20, rfl, rfl, rfl⟩
    refine zw rfl (WrA.ap1 (tyrow rfl) rfl (tyrow rfl) rfl rfl rfl) ?_
    rintro _ _ _ ⟨p21, c21, rfl, rfl, rfl⟩
    refine zO rfl (Rd.nilCheck rfl) ?_; refine yV ?_; refine zw rfl (WrA.st (tyrow rfl) rfl) ?_
    rintro _ _ _ ⟨rfl, rfl, rfl⟩
    refine zN (DA.inb_normal ?_)
    exact bodyA.normal (ResA.none rfl) (Ent.fold1 zE (Prin.mk (by simp) rfl (by simp [ints]))) ⟨rfl, rfl, rfl⟩
  by_cases h2 : a < 0
  · have e : prS out wrong a n = (out, true) := by rw [prS, if_neg h1, if_pos (.inl h2)]
    rw [e]
    refine enterA3 Tryz.func84 rfl rfl rfl ?_; refine XA.block (zS (zR ?_))
    first | refine XA.opn (R := Prin pb out wrong) zL (Prin.opn) ?_ | refine XOA.opn (R := Prin pb out wrong) zL (Prin.opn) ?_ | refine DA.opn (R := Prin pb out wrong) zL (Prin.opn) ?_
    rintro ⟨p, c⟩ -
    first | refine XA.cl ?_ | refine XOA.cl ?_ | refine DA.cl ?_
    refine yA ?_; refine yA ?_; refine zO rfl (Rd.nilCheck rfl) ?_; refine yV ?_; refine yB ?_; refine zO rfl (Rd.lenSlice (tyrow rfl) rfl rfl) ?_; refine yE ?_; refine yS ?_; refine zN (zT (XA.condF rfl (decide_eq_false h1) (zS (zR (yA ?_))))); refine zO rfl (Rd.lss rfl rfl) ?_; refine yA ?_
    first | refine gA ?_ | refine zH ?_
    first | refine gA ?_ | refine zH ?_
    first | (refine zG ?_; refine zO rfl (Rd.nilCheck rfl) ?_) | refine zH ?_
    first | refine gV ?_ | refine zH ?_
    first | refine gB ?_ | refine zH ?_
    first | (refine zG ?_; refine zO rfl (Rd.lenSlice (tyrow rfl) rfl rfl) ?_) | refine zH ?_
    first | (refine zG ?_; refine zO rfl (Rd.gtr rfl rfl) ?_) | refine zH ?_
    refine zO rfl zP ?_; refine yA ?_
    first | refine gA ?_ | refine zH ?_
    first | (refine zG ?_; refine zO rfl (Rd.nilCheck rfl) ?_) | refine zH ?_
    first | refine gV ?_ | refine zH ?_
    first | refine gB ?_ | refine zH ?_
    first | refine gA ?_ | refine zH ?_
    first | (refine zG ?_; refine zO rfl (Rd.ixS rfl rfl) ?_) | refine zH ?_
    first | refine gB ?_ | refine zH ?_
    first | refine gA ?_ | refine zH ?_
    first | (refine zG ?_; refine zO rfl (Rd.neq rfl rfl) ?_) | refine zH ?_
    refine zO rfl zP ?_; refine yS ?_; refine zN (zT (XA.condT rfl (by first | rfl | exact decide_eq_true h2) ?_)); refine zR (yA ?_); refine zO rfl (Rd.nilCheck rfl) ?_; refine yV ?_
    refine zw rfl (WrA.st (tyrow rfl) rfl) ?_
    rintro _ _ _ ⟨rfl, rfl, rfl⟩
    refine zN (DA.inb_normal ?_)
    exact bodyA.normal (ResA.none rfl) (Ent.fold1 zE (Prin.mk rfl rfl rfl)) ⟨rfl, rfl, rfl⟩
  by_cases h3 : (out.length : Int) < a
  · have e : prS out wrong a n = (out, true) := by rw [prS, if_neg h1, if_pos (.inr (.inl h3))]
    rw [e]
    refine enterA3 Tryz.func84 rfl rfl rfl ?_; refine XA.block (zS (zR ?_))
    first | refine XA.opn (R := Prin pb out wrong) zL (Prin.opn) ?_ | refine XOA.opn (R := Prin pb out wrong) zL (Prin.opn) ?_ | refine DA.opn (R := Prin pb out wrong) zL (Prin.opn) ?_
    rintro ⟨p, c⟩ -
    first | refine XA.cl ?_ | refine XOA.cl ?_ | refine DA.cl ?_
    refine yA ?_; refine yA ?_; refine zO rfl (Rd.nilCheck rfl) ?_; refine yV ?_; refine yB ?_; refine zO rfl (Rd.lenSlice (tyrow rfl) rfl rfl) ?_; refine yE ?_; refine yS ?_; refine zN (zT (XA.condF rfl (decide_eq_false h1) (zS (zR (yA ?_))))); refine zO rfl (Rd.lss rfl rfl) ?_; refine yA ?_
    first | refine gA ?_ | refine zH ?_
    first | refine gA ?_ | refine zH ?_
    first | (refine zG ?_; refine zO rfl (Rd.nilCheck rfl) ?_) | refine zH ?_
    first | refine gV ?_ | refine zH ?_
    first | refine gB ?_ | refine zH ?_
    first | (refine zG ?_; refine zO rfl (Rd.lenSlice (tyrow rfl) rfl rfl) ?_) | refine zH ?_
    first | (refine zG ?_; refine zO rfl (Rd.gtr rfl rfl) ?_) | refine zH ?_
    refine zO rfl zP ?_; refine yA ?_
    first | refine gA ?_ | refine zH ?_
    first | (refine zG ?_; refine zO rfl (Rd.nilCheck rfl) ?_) | refine zH ?_
    first | refine gV ?_ | refine zH ?_
    first | refine gB ?_ | refine zH ?_
    first | refine gA ?_ | refine zH ?_
    first | (refine zG ?_; refine zO rfl (Rd.ixS rfl rfl) ?_) | refine zH ?_
    first | refine gB ?_ | refine zH ?_
    first | refine gA ?_ | refine zH ?_
    first | (refine zG ?_; refine zO rfl (Rd.neq rfl rfl) ?_) | refine zH ?_
    refine zO rfl zP ?_; refine yS ?_; refine zN (zT (XA.condT rfl (by first | rfl | exact decide_eq_true h3) ?_)); refine zR (yA ?_); refine zO rfl (Rd.nilCheck rfl) ?_; refine yV ?_
    refine zw rfl (WrA.st (tyrow rfl) rfl) ?_
    rintro _ _ _ ⟨rfl, rfl, rfl⟩
    refine zN (DA.inb_normal ?_)
    exact bodyA.normal (ResA.none rfl) (Ent.fold1 zE (Prin.mk rfl rfl rfl)) ⟨rfl, rfl, rfl⟩
  obtain ⟨k, rfl⟩ : ∃ k : Nat, a = k := ⟨a.toNat, by omega⟩
  have hk : k < out.length := by omega
  obtain ⟨y, hy⟩ : ∃ y, y = out.getD k 0 := ⟨_, rfl⟩
  have hv : (ints out)[k]? = some (i64 y) := by rw [hy]; simp [ints, hk]
  by_cases h4 : y = n
  · have e : prS out wrong k n = (out, wrong) := by
      rw [prS, if_neg h1, if_neg]
      rw [Int.toNat_natCast, ← hy]
      rintro (h | h | h)
      · exact h2 h
      · exact h3 h
      · exact h h4
    rw [e]
    refine enterA3 Tryz.func84 rfl rfl rfl ?_; refine XA.block (zS (zR ?_))
    first | refine XA.opn (R := Prin pb out wrong) zL (Prin.opn) ?_ | refine XOA.opn (R := Prin pb out wrong) zL (Prin.opn) ?_ | refine DA.opn (R := Prin pb out wrong) zL (Prin.opn) ?_
    rintro ⟨p, c⟩ -
    first | refine XA.cl ?_ | refine XOA.cl ?_ | refine DA.cl ?_
    first | refine XA.opn (R := lst 2 1 (.slice p out.length c) _ _) zL (lst_some (by omega)) ?_ | refine XOA.opn (R := lst 2 1 (.slice p out.length c) _ _) zL (lst_some (by omega)) ?_ | refine DA.opn (R := lst 2 1 (.slice p out.length c) _ _) zL (lst_some (by omega)) ?_
    rintro g70 rfl
    first | refine XA.cl ?_ | refine XOA.cl ?_ | refine DA.cl ?_
    refine yA ?_; refine yA ?_; refine zO rfl (Rd.nilCheck rfl) ?_; refine yV ?_; refine yB ?_; refine zO rfl (Rd.lenSlice (tyrow rfl) rfl rfl) ?_; refine yE ?_; refine yS ?_; refine zN (zT (XA.condF rfl (decide_eq_false h1) (zS (zR (yA ?_))))); refine zO rfl (Rd.lss rfl rfl) ?_; refine yA ?_
    first | refine gA ?_ | refine zH ?_
    first | refine gA ?_ | refine zH ?_
    first | (refine zG ?_; refine zO rfl (Rd.nilCheck rfl) ?_) | refine zH ?_
    first | refine gV ?_ | refine zH ?_
    first | refine gB ?_ | refine zH ?_
    first | (refine zG ?_; refine zO rfl (Rd.lenSlice (tyrow rfl) rfl rfl) ?_) | refine zH ?_
    first | (refine zG ?_; refine zO rfl (Rd.gtr rfl rfl) ?_) | refine zH ?_
    refine zO rfl zP ?_; refine yA ?_
    first | refine gA ?_ | refine zH ?_
    first | (refine zG ?_; refine zO rfl (Rd.nilCheck rfl) ?_) | refine zH ?_
    first | refine gV ?_ | refine zH ?_
    first | refine gB ?_ | refine zH ?_
    first | refine gA ?_ | refine zH ?_
    first | (refine zG ?_; refine zO rfl (Rd.ixS rfl rfl) ?_) | refine zH ?_
    first | refine gB ?_ | refine zH ?_
    first | refine gA ?_ | refine zH ?_
    first | (refine zG ?_; refine zO rfl (Rd.neq rfl rfl) ?_) | refine zH ?_
    refine zO rfl zP ?_; refine yS ?_; refine zN (zT ?_); refine XA.condF rfl (decide_eq_false (fun h => h h4)) ?_; refine XA.skip (DA.inb_normal ?_)
    exact bodyA.normal (ResA.none rfl) (Ent.fold1 zE (Prin.mk rfl rfl rfl)) ⟨rfl, rfl, rfl⟩
  have e : prS out wrong k n = (out, true) := by
    rw [prS, if_neg h1, if_pos (.inr (.inr (by rw [Int.toNat_natCast, ← hy]; exact h4)))]
  rw [e]
  refine enterA3 Tryz.func84 rfl rfl rfl ?_; refine XA.block (zS (zR ?_))
  first | refine XA.opn (R := Prin pb out wrong) zL (Prin.opn) ?_ | refine XOA.opn (R := Prin pb out wrong) zL (Prin.opn) ?_ | refine DA.opn (R := Prin pb out wrong) zL (Prin.opn) ?_
  rintro ⟨p, c⟩ -
  first | refine XA.cl ?_ | refine XOA.cl ?_ | refine DA.cl ?_
  first | refine XA.opn (R := lst 2 1 (.slice p out.length c) _ _) zL (lst_some (by omega)) ?_ | refine XOA.opn (R := lst 2 1 (.slice p out.length c) _ _) zL (lst_some (by omega)) ?_ | refine DA.opn (R := lst 2 1 (.slice p out.length c) _ _) zL (lst_some (by omega)) ?_
  rintro g70 rfl
  first | refine XA.cl ?_ | refine XOA.cl ?_ | refine DA.cl ?_
  refine yA ?_; refine yA ?_; refine zO rfl (Rd.nilCheck rfl) ?_; refine yV ?_; refine yB ?_; refine zO rfl (Rd.lenSlice (tyrow rfl) rfl rfl) ?_; refine yE ?_; refine yS ?_; refine zN (zT (XA.condF rfl (decide_eq_false h1) (zS (zR (yA ?_))))); refine zO rfl (Rd.lss rfl rfl) ?_; refine yA ?_
  first | refine gA ?_ | refine zH ?_
  first | refine gA ?_ | refine zH ?_
  first | (refine zG ?_; refine zO rfl (Rd.nilCheck rfl) ?_) | refine zH ?_
  first | refine gV ?_ | refine zH ?_
  first | refine gB ?_ | refine zH ?_
  first | (refine zG ?_; refine zO rfl (Rd.lenSlice (tyrow rfl) rfl rfl) ?_) | refine zH ?_
  first | (refine zG ?_; refine zO rfl (Rd.gtr rfl rfl) ?_) | refine zH ?_
  refine zO rfl zP ?_; refine yA ?_
  first | refine gA ?_ | refine zH ?_
  first | (refine zG ?_; refine zO rfl (Rd.nilCheck rfl) ?_) | refine zH ?_
  first | refine gV ?_ | refine zH ?_
  first | refine gB ?_ | refine zH ?_
  first | refine gA ?_ | refine zH ?_
  first | (refine zG ?_; refine zO rfl (Rd.ixS rfl rfl) ?_) | refine zH ?_
  first | refine gB ?_ | refine zH ?_
  first | refine gA ?_ | refine zH ?_
  first | (refine zG ?_; refine zO rfl (Rd.neq rfl rfl) ?_) | refine zH ?_
  refine zO rfl zP ?_; refine yS ?_; refine zN (zT (XA.condT rfl (decide_eq_true h4) (zR (yA ?_)))); refine zO rfl (Rd.nilCheck rfl) ?_; refine yV ?_; refine zw rfl (WrA.st (tyrow rfl) rfl) ?_
  rintro _ _ _ ⟨rfl, rfl, rfl⟩
  refine zN (DA.inb_normal ?_)
  exact bodyA.normal (ResA.none rfl) (Ent.fold1 zE (Prin.mk rfl rfl rfl)) ⟨rfl, rfl, rfl⟩
theorem cloneP_a (σ : PH) (v : Value) (xs : List Int) (hv : PInts σ v xs) (hl : xs.length ≤ 1000000) :
    CallsA Tryz.prog 25 #[v] σ [] (RetA fun v' σ' Γ' => ∃ p c, v' = .slice p xs.length c ∧ σ = σ' ∧ Γ' = [lst 2 1 (.slice p xs.length c) xs.length (ints xs)]) := by
  obtain ⟨q, cq, rfl, hle, hmx⟩ := hv.shape
  have hxl : (ints xs).length = xs.length * 1 := by simp [ints]
  have hone : ones (ints xs) := ones_ints _
  cases q with
  | none =>
    obtain rfl : xs = [] := by
      cases xs with
      | nil => rfl
      | cons x l => obtain ⟨g, o, e, -⟩ := hv.at (show (x :: l)[0]? = some x from rfl); cases e
    refine enterA1 Tryz.func25 rfl rfl rfl ?_; refine zS (zR (yS ?_)); refine zN (zT (zS (zS (zR (yA ?_))))); refine zO rfl (Rd.eqlNil (tyrow rfl) rfl rfl) ?_; refine zN (zT (yT rfl rfl (zS (zR (yS ?_))))); refine zN (zT (XA.ret (DA.thn_ret ?_)))
    exact bodyA.ret (ResA.one rfl rfl) (Ent.selNil (e := 2) (size := 1) (Ent.nil _)) ⟨none, 0, rfl, rfl, rfl⟩
  | some a =>
    cases xs with
    | nil =>
      refine enterA1 Tryz.func25 rfl rfl rfl ?_; refine zS (zR (yS ?_)); refine zN (zT (zS (zS (zR (yA ?_))))); refine zO rfl (Rd.eqlNil (tyrow rfl) rfl rfl) ?_; refine zN (zT (yF rfl rfl (XA.skip (zT (zS (zR ?_)))))); refine zw rfl (WrA.bs (fun _ _ => tyrow) rfl rfl rfl rfl rfl) ?_
      rintro _ _ _ ⟨g5, rfl, rfl, rfl⟩
      refine yA ?_; refine zw rfl (Rd.toW (Rd.appendNone (tyrow rfl) rfl (tyrow rfl) rfl rfl (Nat.le_refl _))) ?_
      rintro _ _ _ ⟨rfl, rfl, rfl⟩
      refine yS ?_; refine zN (zT (XA.ret ?_))
      exact bodyA.ret (ResA.one rfl rfl) (Ent.selImp (R := blk g5 _ _) zL (fun m h => lst_empty h (by simp) (by simp [maxLen])) zE) ⟨_, _, rfl, rfl, rfl⟩
    | cons x l =>
      obtain ⟨p', c', e1, e2, e3, e4⟩ := hv
      simp only [Value.slice.injEq] at e1
      obtain ⟨rfl, -, rfl⟩ := e1
      obtain ⟨g, o, e, hr⟩ := e4 (by simp)
      cases e
      refine enterA1 Tryz.func25 rfl rfl rfl ?_; refine zS (zR (yS ?_)); refine zN (zT (zS (zS (zR (yA ?_))))); refine zO rfl (Rd.eqlNil (tyrow rfl) rfl rfl) ?_; refine zN (zT (yF rfl rfl (XA.skip (zT (zS (zR ?_)))))); refine zw rfl (WrA.bs (fun _ _ => tyrow) rfl rfl rfl rfl rfl) ?_
      rintro _ _ _ ⟨g5, rfl, rfl, rfl⟩
      refine yA ?_
      refine XOA.ent (Δ := [lst 2 1 (.slice (some ⟨g5, 0, none⟩) 0 0) 0 []]) (Ent.selImp (R := blk g5 _ _) zL (fun m h => lst_empty h (by simp) (by simp [maxLen])) zE) ?_
      refine zw rfl (WrA.append (tyrow rfl) rfl (tyrow rfl) rfl rfl zL rfl (At.per hr) hxl hone (by simp) (by simp only [maxLen]; omega) (by simp only; omega)) ?_
      rintro _ _ _ ⟨p, c', rfl, rfl, rfl⟩
      refine yS ?_; refine zN (zT (XA.ret ?_))
      rw [Nat.zero_add]
      exact bodyA.ret (ResA.one rfl rfl) zE ⟨_, _, rfl, rfl, rfl⟩
theorem cloneL_a (σ : PH) (q : Option Addr) (n cq : Nat) (xs : List Int) (hn : xs.length = n) (hl : n ≤ 1000000) :
    CallsA Tryz.prog 25 #[.slice q n cq] σ [lst 2 1 (.slice q n cq) n (ints xs)] (RetA fun v' σ' Γ' => ∃ p c, v' = .slice p n c ∧ σ = σ' ∧ Γ' = [lst 2 1 (.slice q n cq) n (ints xs), lst 2 1 (.slice p n c) n (ints xs)]) := by
  subst hn
  have hxl : (ints xs).length = xs.length * 1 := by simp [ints]
  have hone : ones (ints xs) := ones_ints _
  by_cases h0 : xs = []
  · subst h0
    cases q with
    | none =>
      refine enterA1 Tryz.func25 rfl rfl rfl ?_; refine zS (zR (yS ?_)); refine zN (zT (zS (zS (zR (yA ?_))))); refine zO rfl (Rd.eqlNil (tyrow rfl) rfl rfl) ?_; refine zN (zT (yT rfl rfl (zS (zR (yS ?_))))); refine zN (zT (XA.ret (DA.thn_ret ?_)))
      exact bodyA.ret (ResA.one rfl rfl) (Ent.sel .head (Ent.selNil (e := 2) (size := 1) (Ent.nil _))) ⟨none, 0, rfl, rfl, rfl⟩
    | some a =>
      refine enterA1 Tryz.func25 rfl rfl rfl ?_; refine zS (zR (yS ?_)); refine zN (zT (zS (zS (zR (yA ?_))))); refine zO rfl (Rd.eqlNil (tyrow rfl) rfl rfl) ?_; refine zN (zT (yF rfl rfl (XA.skip (zT (zS (zR ?_)))))); refine zw rfl (WrA.bs (fun _ _ => tyrow) rfl rfl rfl rfl rfl) ?_
      rintro _ _ _ ⟨g5, rfl, rfl, rfl⟩
      refine yA ?_
      refine XOA.ent (Δ := [lst 2 1 (.slice (some ⟨g5, 0, none⟩) 0 0) 0 [], lst 2 1 (.slice (some a) 0 cq) 0 (ints [])]) (Ent.selImp (R := blk g5 _ _) zL (fun m h => lst_empty h (by simp) (by simp [maxLen])) zE) ?_
      refine zw rfl (Rd.toW (Rd.appendNone (tyrow rfl) rfl (tyrow rfl) rfl rfl (Nat.le_refl _))) ?_
      rintro _ _ _ ⟨rfl, rfl, rfl⟩
      refine yS ?_; refine zN (zT (XA.ret ?_))
      exact bodyA.ret (ResA.one rfl rfl) zE ⟨_, _, rfl, rfl, rfl⟩
  have hpos : 0 < xs.length := List.length_pos_iff.2 h0
  refine CallsA.opn .head (lst_some hpos) (enters Tryz.func25 rfl rfl) ?_
  rintro g rfl
  refine enterA1 Tryz.func25 rfl rfl rfl ?_; refine zS (zR (yS ?_)); refine zN (zT (zS (zS (zR (yA ?_))))); refine zO rfl (Rd.eqlNil (tyrow rfl) rfl rfl) ?_; refine zN (zT (yF rfl rfl (XA.skip (zT (zS (zR ?_)))))); refine zw rfl (WrA.bs (fun _ _ => tyrow) rfl rfl rfl rfl rfl) ?_
  rintro _ _ _ ⟨g5, rfl, rfl, rfl⟩
  refine yA ?_
  refine XOA.ent (Δ := [lst 2 1 (.slice (some ⟨g5, 0, none⟩) 0 0) 0 [], lst 2 1 (.slice (some ⟨g, 0, none⟩) xs.length cq) xs.length (ints xs)]) (Ent.selImp (R := blk g5 _ _) zL (fun m h => lst_empty h (by simp) (by simp [maxLen])) zE) ?_
  refine zw rfl (WrA.append (tyrow rfl) rfl (tyrow rfl) rfl rfl zL rfl (At.lst zL (by simp; exact List.take_of_length_le (by simp [ints]))) hxl hone hpos (by simp only [maxLen]; omega) (by simp only; omega)) ?_
  rintro _ _ _ ⟨p, c', rfl, rfl, rfl⟩
  refine yS ?_; refine zN (zT (XA.ret ?_))
  rw [Nat.zero_add]
  exact bodyA.ret (ResA.one rfl rfl) zE ⟨_, _, rfl, rfl, rfl⟩
theorem plist_a (σ : PH) (pb : Nat) (out : List Int) (wrong : Bool) (hl : out.length ≤ 1000000) :
    CallsA Tryz.prog 67 #[ptr pb] σ [Prin pb out wrong] (RetA fun v σ' Γ' => ∃ p c, v = .slice p out.length c ∧ σ = σ' ∧ Γ' = [Prin pb out wrong, lst 2 1 (.slice p out.length c) out.length (ints out)]) := by
  refine enterA1 Tryz.func67 rfl rfl rfl ?_; refine zS (zR (yS ?_)); refine zN (zT (zS (zR ?_)))
  first | refine XA.opn (R := Prin pb out wrong) zL (Prin.opn) ?_ | refine XOA.opn (R := Prin pb out wrong) zL (Prin.opn) ?_ | refine DA.opn (R := Prin pb out wrong) zL (Prin.opn) ?_
  rintro ⟨q, cq⟩ -
  first | refine XA.cl ?_ | refine XOA.cl ?_ | refine DA.cl ?_
  refine yA ?_; refine zO rfl (Rd.nilCheck rfl) ?_; refine yV ?_; refine yB ?_; refine zw rfl (WrA.cE (cloneL_a σ q out.length cq out rfl hl) rfl) ?_
  rintro _ _ _ ⟨_, ⟨p, c, rfl, rfl, rfl⟩, rfl⟩
  refine XOA.cl ?_; refine yS ?_; refine zN (zT (XA.ret ?_))
  exact bodyA.ret (ResA.one rfl rfl) (Ent.foldC (Θ := [_, _]) zD (Prin.mk rfl rfl rfl) zE) ⟨p, c, rfl, rfl, rfl⟩
end Go.Proofs.YtmnmcjdgnpgchaaGreat

namespace Go.Proofs.YtmnmcjdgnpgchaaGreat
open Go X
set_option maxHeartbeats 1000000
section
variable (σ : PH) (g mb sb db pb : Nat) (cv iv : Value) (left : Int) (torn : Bool) (d : DiskS) (s : StS) (M : Me)
theorem add_m (a n : Int) :
    CallsA Tryz.prog 80 #[ptr g, i64 a, i64 n] σ [blk g [ptr mb, cv, iv, ptr pb, i64 left, .bool torn] 129, Wld mb sb db d s M] (RetA fun v σ' Γ' => v = i64 (M.ld a) ∧ σ = σ' ∧ Γ' = [blk g [ptr mb, cv, iv, ptr pb, i64 left, .bool torn] 129, Wld mb sb db d s (M.put a (IntKind.i64.wrap (M.ld a + n)))]) := by
  refine enterA3 Tryz.func80 rfl rfl rfl ?_; refine zS (zR (yS ?_)); refine zN (zT (zS (zR (yA ?_)))); refine zO rfl (Rd.nilCheck rfl) ?_; refine yV ?_; refine yB ?_; refine yA ?_; refine yC (load_w σ mb sb db d s M a) ?_; refine yS ?_; refine zN (zT (zS (zR (yA ?_))))
  refine zO rfl (Rd.nilCheck rfl) ?_; refine yV ?_; refine yB ?_; (iterate 3 (refine yA ?_)); refine zO rfl zI ?_; refine yC (put_w σ mb sb db d s M a (IntKind.i64.wrap (M.ld a + n))) ?_; refine zN (zT (zS (zR (yA ?_)))); refine yS ?_; refine zN (zT (XA.ret ?_))
  exact bodyA.ret (ResA.one rfl rfl) zE ⟨rfl, rfl, rfl⟩
theorem stop_m (n : Int) :
    CallsA Tryz.prog 87 #[ptr g, i64 n] σ [blk g [ptr mb, cv, iv, ptr pb, i64 left, .bool torn] 129, Wld mb sb db d s M] (RetA fun v σ' Γ' => v = .tuple #[] ∧ σ = σ' ∧ Γ' = [blk g [ptr mb, cv, iv, ptr pb, i64 left, .bool torn] 129, Wld mb sb db d s (M.put 4 n)]) := by
  refine enterA2 Tryz.func87 rfl rfl rfl ?_; refine zR (yA ?_); refine zO rfl (Rd.nilCheck rfl) ?_; refine yV ?_; refine yB ?_; refine yA ?_; refine yC (put_w σ mb sb db d s M 4 n) ?_; refine zN ?_
  exact bodyA.normal (ResA.none rfl) zE ⟨rfl, rfl, rfl⟩
theorem flag_m (b : Bool) : CallsA Tryz.prog 102 #[.bool b] σ [] (RetA fun v σ' Γ' => v = i64 (if b then 1 else 0) ∧ σ = σ' ∧ Γ' = []) := by
  cases b with
  | true =>
    refine enterA1 Tryz.func102 rfl rfl rfl ?_; refine zS (zR (yS ?_)); refine zN (zT (zS (zS (zR (yA ?_))))); refine zN (zT (yT rfl rfl (zS (zR (yS ?_))))); refine zN (zT (XA.ret (DA.thn_ret ?_)))
    exact bodyA.ret (ResA.one rfl rfl) zE ⟨rfl, rfl, rfl⟩
  | false =>
    refine enterA1 Tryz.func102 rfl rfl rfl ?_; refine zS (zR (yS ?_)); refine zN (zT (zS (zS (zR (yA ?_))))); refine zN (zT (yF rfl rfl (XA.skip (zT (zS (zR (yS ?_))))))); refine zN (zT (XA.ret ?_))
    exact bodyA.ret (ResA.one rfl rfl) zE ⟨rfl, rfl, rfl⟩
variable {next rd outn : Nat} {stack cells : List Int} {st : Int}
theorem push_m (h : Shows M.C ⟨next, stack, rd, outn, st, cells⟩) (hl : stack.length < 59) (n : Int) :
    CallsA Tryz.prog 81 #[ptr g, i64 n] σ [blk g [ptr mb, cv, iv, ptr pb, i64 left, .bool torn] 129, Wld mb sb db d s M] (RetA fun v σ' Γ' => v = .tuple #[] ∧ σ = σ' ∧ Γ' = [blk g [ptr mb, cv, iv, ptr pb, i64 left, .bool torn] 129, Wld mb sb db d s (M.pushM n)]) := by
  have e : M.ld 1 = stack.length := h.sl
  have hadd := add_m σ g mb sb db pb cv iv left torn d s M 1 1
  rw [X.wrap64_in (by omega) (by omega)] at hadd
  have hv2 : IntKind.i64.wrap (53 + M.ld 1) = 53 + M.ld 1 := X.wrap64_in (by omega) (by omega)
  refine enterA2 Tryz.func81 rfl rfl rfl ?_
  refine XA.draw (by kernel_rfl) _ _ [8] [(0, .pu), (1, .pu), (2, .pu), (3, .rd), (4, .pu), (7, .pu), (5, .wr), (6, .pu), (8, .wr)] (by kernel_rfl) (PH.sub.refl _) (Ent.sel (R := blk g _ _) zL (Ent.nil _)) ?_
  refine zu rfl rfl Rd.mv ?_; refine zu rfl rfl (Rd.nilCheck rfl) ?_; refine zu rfl rfl (Rd.fA rfl) ?_; refine XPA.rd rfl rfl Gd.free (Rd.ldC rfl (tyrow rfl) rfl) ?_; refine zu rfl rfl Rd.mv ?_; refine zu rfl rfl Rd.mv ?_; refine XPA.wr0 rfl rfl Gd.free (WrA.cE (hadd) rfl) ?_
  rintro _ _ _ ⟨_, ⟨rfl, rfl, rfl⟩, rfl⟩
  refine stays (XPA.cl ?_); refine zu rfl rfl zI ?_
  refine XPA.wrZ0 rfl rfl Gd.free (by kernel_rfl) (WrA.cE (put_w σ mb sb db d s (M.put 1 (M.ld 1 + 1)) (53 + M.ld 1) n) rfl) ?_
  rintro _ _ _ ⟨_, ⟨rfl, rfl, rfl⟩, rfl⟩
  refine XPA.cl ?_; refine XPA.nil ?_
  exact bodyA.normal (ResA.none rfl) zE ⟨rfl, rfl, rfl⟩
theorem pop_m {n : Int} {l : List Int} (h : Shows M.C ⟨next, n :: l, rd, outn, st, cells⟩) :
    CallsA Tryz.prog 83 #[ptr g] σ [blk g [ptr mb, cv, iv, ptr pb, i64 left, .bool torn] 129, Wld mb sb db d s M] (RetA fun v σ' Γ' => v = i64 n ∧ σ = σ' ∧ Γ' = [blk g [ptr mb, cv, iv, ptr pb, i64 left, .bool torn] 129, Wld mb sb db d s M.popM]) := by
  have e : M.ld 1 = l.length + 1 := by rw [Me.ld, h.sl]; simp
  have hl := h.ls
  simp only [List.length_cons] at hl
  have hadd := add_m σ g mb sb db pb cv iv left torn d s M 1 (-1)
  rw [X.wrap64_in (by omega) (by omega), show M.ld 1 + -1 = M.ld 1 - 1 by omega] at hadd
  have hv2 : IntKind.i64.wrap (53 + M.ld 1) = 53 + M.ld 1 := X.wrap64_in (by omega) (by omega)
  have hv3 : IntKind.i64.wrap (53 + M.ld 1 - 1) = 53 + M.ld 1 - 1 := X.wrap64_in (by omega) (by omega)
  have ht := h.topM
  refine enterA1 Tryz.func83 rfl rfl rfl ?_; refine zS (zR (yS ?_)); refine zN (zT (zS ?_))
  refine XA.draw (by kernel_rfl) _ _ [8] [(0, .pu), (1, .pu), (2, .pu), (3, .rd), (4, .pu), (5, .wr), (6, .pu), (7, .pu), (8, .wr), (9, .pu)] (by kernel_rfl) (PH.sub.refl _) (Ent.sel (R := blk g _ _) zL (Ent.nil _)) ?_
  refine zu rfl rfl Rd.mv ?_; refine zu rfl rfl (Rd.nilCheck rfl) ?_; refine zu rfl rfl (Rd.fA rfl) ?_; refine XPA.rd rfl rfl Gd.free (Rd.ldC rfl (tyrow rfl) rfl) ?_; refine zu rfl rfl Rd.mv ?_; refine XPA.wr0 rfl rfl Gd.free (WrA.cE (hadd) rfl) ?_
  rintro _ _ _ ⟨_, ⟨rfl, rfl, rfl⟩, rfl⟩
  refine stays (XPA.cl ?_)
  refine zu rfl rfl zI ?_; refine zu rfl rfl (by first | exact Rd.sbi rfl rfl | exact Rd.sub rfl rfl) ?_
  rw [show 53 + M.ld 1 - 1 = 52 + M.ld 1 by omega]
  refine XPA.wrZ0 rfl rfl Gd.free (by kernel_rfl) (WrA.cE (load_w σ mb sb db d s M.popM (52 + M.ld 1)) rfl) ?_
  rintro _ _ _ ⟨_, ⟨rfl, rfl, rfl⟩, rfl⟩
  refine XPA.cl ?_; refine zu rfl rfl Rd.asg ?_; refine XPA.nil ?_; refine zT (XA.ret ?_)
  exact bodyA.ret (ResA.one rfl rfl) zE ⟨congrArg i64 ht, rfl, rfl⟩
end
end Go.Proofs.YtmnmcjdgnpgchaaGreat

namespace Go.Proofs.YtmnmcjdgnpgchaaGreat
open Go X
set_option maxHeartbeats 1000000
section
variable (σ : PH) (g mb sb db pb : Nat) (cv iv : Value) (left : Int) (torn : Bool) (d : DiskS) (s : StS) (M : Me)
variable {next rd outn : Nat} {stack cells : List Int} {st : Int}
theorem two_m {y z : Int} {l : List Int} (op : Int) (ho : 4 ≤ op ∧ op ≤ 8) (h : Shows M.C ⟨next, y :: z :: l, rd, outn, st, cells⟩) :
    CallsA Tryz.prog 82 #[ptr g, i64 op] σ [blk g [ptr mb, cv, iv, ptr pb, i64 left, .bool torn] 129, Wld mb sb db d s M] (RetA fun v σ' Γ' => v = .tuple #[] ∧ σ = σ' ∧ Γ' = [blk g [ptr mb, cv, iv, ptr pb, i64 left, .bool torn] 129, Wld mb sb db d s (M.popM.popM.pushM (binV op z y))]) := by
  have hl := h.ls
  simp only [List.length_cons] at hl
  have hp1 := pop_m σ g mb sb db pb cv iv left torn d s M h
  have hp2 := pop_m σ g mb sb db pb cv iv left torn d s M.popM h.popM
  have hpu := fun n => push_m σ g mb sb db pb cv iv left torn d s M.popM.popM h.popM.popM (by omega) n
  by_cases h4 : op = 4
  · subst h4
    rw [show binV 4 z y = wrap_ (z + y) from rfl]
    refine enterA2 Tryz.func82 rfl rfl rfl ?_; refine zS (zR (yA ?_)); refine yC (hp1) ?_; refine yS ?_; refine zN (zT (zS (zR (yA ?_)))); refine yC (hp2) ?_; refine yS ?_; refine zN (zT (zS (zR (yA ?_)))); refine yA ?_; refine zO rfl zI ?_; refine yS ?_; refine zN (zT (zS (zS (zR (yA ?_)))))
    refine zN (zT (XA.block (zS (zR (yE ?_))))); (iterate 3 (refine yS ?_; refine zN (zT (yF rfl rfl (zS (zR (yE ?_))))))); refine yS ?_; refine zN (zT (yF rfl rfl (XA.skip (DA.inb_normal (zT (zR (yA ?_))))))); refine yA ?_; refine yC (hpu _) ?_; refine zN ?_
    exact bodyA.normal (ResA.none rfl) zE ⟨rfl, rfl, rfl⟩
  by_cases h5 : op = 5
  · subst h5
    rw [show binV 5 z y = wrap_ (z - y) from rfl]
    refine enterA2 Tryz.func82 rfl rfl rfl ?_; refine zS (zR (yA ?_)); refine yC (hp1) ?_; refine yS ?_; refine zN (zT (zS (zR (yA ?_)))); refine yC (hp2) ?_; refine yS ?_; refine zN (zT (zS (zR (yA ?_)))); refine yA ?_; refine zO rfl zI ?_; refine yS ?_; refine zN (zT (zS (zS (zR (yA ?_)))))
    refine zN (zT (XA.block (zS (zR (yE ?_))))); refine yS ?_
    refine zN (zT (yT rfl rfl (zR (yA ?_)))); refine yA ?_; refine zO rfl (by first | exact Rd.sbi rfl rfl | exact Rd.sub rfl rfl) ?_; refine yS ?_; refine zN (DA.inb_normal (zT (zR (yA ?_)))); refine yA ?_
    refine yC (hpu _) ?_; refine zN ?_
    exact bodyA.normal (ResA.none rfl) zE ⟨rfl, rfl, rfl⟩
  by_cases h6 : op = 6
  · subst h6
    rw [show binV 6 z y = wrap_ (z * y) from rfl]
    refine enterA2 Tryz.func82 rfl rfl rfl ?_; refine zS (zR (yA ?_)); refine yC (hp1) ?_; refine yS ?_; refine zN (zT (zS (zR (yA ?_)))); refine yC (hp2) ?_; refine yS ?_; refine zN (zT (zS (zR (yA ?_)))); refine yA ?_; refine zO rfl zI ?_; refine yS ?_; refine zN (zT (zS (zS (zR (yA ?_)))))
    refine zN (zT (XA.block (zS (zR (yE ?_))))); refine yS ?_
    refine zN (zT (yF rfl rfl (zS (zR (yE ?_))))); refine yS ?_; refine zN (zT (yT rfl rfl (zR (yA ?_)))); refine yA ?_; refine zO rfl (by first | exact Rd.mli rfl rfl | exact Rd.mul rfl rfl) ?_; refine yS ?_
    refine zN (DA.inb_normal (zT (zR (yA ?_)))); refine yA ?_; refine yC (hpu _) ?_; refine zN ?_
    exact bodyA.normal (ResA.none rfl) zE ⟨rfl, rfl, rfl⟩
  by_cases h7 : op = 7
  · subst h7
    rw [show binV 7 z y = (if decide (z < y) = true then 1 else 0) from by simp [binV]]
    refine enterA2 Tryz.func82 rfl rfl rfl ?_; refine zS (zR (yA ?_)); refine yC (hp1) ?_; refine yS ?_; refine zN (zT (zS (zR (yA ?_)))); refine yC (hp2) ?_; refine yS ?_; refine zN (zT (zS (zR (yA ?_)))); refine yA ?_; refine zO rfl zI ?_; refine yS ?_; refine zN (zT (zS (zS (zR (yA ?_)))))
    refine zN (zT (XA.block (zS (zR (yE ?_))))); refine yS ?_; refine zN (zT (yF rfl rfl (zS (zR (yE ?_))))); refine yS ?_; refine zN (zT (yF rfl rfl (zS (zR (yE ?_))))); refine yS ?_; refine zN (zT (yT rfl rfl (zR (yA ?_)))); refine yA ?_; refine zO rfl (Rd.lss rfl rfl) ?_; refine yC (flag_m σ _) ?_
    refine yS ?_; refine zN (DA.inb_normal (zT (zR (yA ?_)))); refine yA ?_; refine yC (hpu _) ?_; refine zN ?_
    exact bodyA.normal (ResA.none rfl) zE ⟨rfl, rfl, rfl⟩
  by_cases h8 : op = 8
  · subst h8
    rw [show binV 8 z y = (if decide (z = y) = true then 1 else 0) from by simp [binV]]
    refine enterA2 Tryz.func82 rfl rfl rfl ?_; refine zS (zR (yA ?_)); refine yC (hp1) ?_; refine yS ?_; refine zN (zT (zS (zR (yA ?_)))); refine yC (hp2) ?_; refine yS ?_; refine zN (zT (zS (zR (yA ?_)))); refine yA ?_; refine zO rfl zI ?_; refine yS ?_; refine zN (zT (zS (zS (zR (yA ?_)))))
    refine zN (zT (XA.block (zS (zR (yE ?_))))); (iterate 3 (refine yS ?_; refine zN (zT (yF rfl rfl (zS (zR (yE ?_))))))); refine yS ?_; refine zN (zT (yT rfl rfl (zR (yA ?_)))); refine yA ?_; refine yE ?_; refine yC (flag_m σ _) ?_; refine yS ?_; refine zN (DA.inb_normal (zT (zR (yA ?_))))
    refine yA ?_; refine yC (hpu _) ?_; refine zN ?_
    exact bodyA.normal (ResA.none rfl) zE ⟨rfl, rfl, rfl⟩
  omega
theorem take_m (pi : Option Addr) (ci : Nat) (inp : List Int) (a : Int) (ha : 0 ≤ a ∧ a < 48) (hi : PInts σ (.slice pi inp.length ci) inp) (hil : inp.length ≤ 1000000) (h : Shows M.C ⟨next, stack, rd, outn, st, cells⟩) :
    CallsA Tryz.prog 106 #[ptr g, i64 a] σ [blk g [ptr mb, cv, .slice pi inp.length ci, ptr pb, i64 left, .bool torn] 129, Wld mb sb db d s M] (RetA fun v σ' Γ' => v = .tuple #[] ∧ σ = σ' ∧ Γ' = [blk g [ptr mb, cv, .slice pi inp.length ci, ptr pb, i64 left, .bool torn] 129, Wld mb sb db d s (if (inp.length : Int) ≤ M.ld 2 then M.put 4 14 else (M.put 2 (M.ld 2 + 1)).put (5 + a) (inp.getD (M.ld 2).toNat 0))]) := by
  have e : M.ld 2 = rd := h.rd
  have hld := load_w σ mb sb db d s M 2
  rw [e] at hld
  by_cases hr : inp.length ≤ rd
  · rw [if_pos (by omega)]
    have hr2 : (rd : Int) ≥ inp.length := by omega
    refine enterA2 Tryz.func106 rfl rfl rfl ?_; refine zS (zR (yA ?_)); refine zO rfl (Rd.nilCheck rfl) ?_; refine yV ?_; refine yB ?_; refine yC (hld) ?_; refine yS ?_; refine zN (zT (zS (zS (zR (yA ?_))))); refine yA ?_; refine zO rfl (Rd.nilCheck rfl) ?_; refine yV ?_; refine yB ?_
    refine zO rfl (Rd.lenSlice (tyrow rfl) rfl rfl) ?_; refine zO rfl (Rd.geq rfl rfl) ?_
    refine zN (zT (XA.condT rfl (by first | rfl | exact decide_eq_true (by omega)) ?_)); refine zS (zR (yA ?_))
    refine yC (stop_m σ g mb sb db pb cv (.slice pi inp.length ci) left torn d s M 14) ?_; refine zN (zT (XA.ret (DA.thn_ret ?_)))
    exact bodyA.ret (ResA.none rfl) zE ⟨rfl, rfl, rfl⟩
  · rw [if_neg (by omega)]
    have hri2 : rd < inp.length := by omega
    obtain ⟨y, hy⟩ : ∃ y, inp[rd]? = some y := ⟨_, List.getElem?_eq_getElem hri2⟩
    obtain ⟨gi, oi, rfl, hri3⟩ := hi.at hy
    rw [Nat.mul_one] at hri3
    have hy2 : inp.getD (M.ld 2).toNat 0 = y := by rw [e, Int.toNat_natCast, List.getD_eq_getElem?_getD, hy]; rfl
    rw [hy2, e]
    have hadd := add_m σ g mb sb db pb cv (.slice (some ⟨gi, oi, none⟩) inp.length ci) left torn d s M 2 1
    rw [X.wrap64_in (by omega) (by omega), e] at hadd
    refine enterA2 Tryz.func106 rfl rfl rfl ?_; refine zS (zR (yA ?_)); refine zO rfl (Rd.nilCheck rfl) ?_; refine yV ?_; refine yB ?_; refine yC (hld) ?_; refine yS ?_; refine zN (zT (zS (zS (zR (yA ?_))))); refine yA ?_; refine zO rfl (Rd.nilCheck rfl) ?_; refine yV ?_; refine yB ?_
    refine zO rfl (Rd.lenSlice (tyrow rfl) rfl rfl) ?_; refine zO rfl (Rd.geq rfl rfl) ?_
    refine zN (zT (XA.condF rfl (by first | rfl | exact decide_eq_false (by omega)) ?_)); refine XA.skip (zT (zS (zR (yA ?_))))
    refine yC (hadd) ?_; refine zN (zT ?_)
    refine XA.draw (by kernel_rfl) _ _ [13] [(0, .pu), (1, .pu), (2, .pu), (3, .rd), (4, .pu), (5, .pu), (6, .pu), (7, .pu), (8, .pu), (9, .rd), (10, .pu), (11, .pu), (12, .rd), (13, .wr)] (by kernel_rfl) (PH.sub.refl _) (Ent.sel (R := blk g _ _) zL (Ent.nil _)) ?_
    refine zu rfl rfl Rd.mv ?_; refine zu rfl rfl (Rd.nilCheck rfl) ?_; refine zu rfl rfl (Rd.fA rfl) ?_; refine XPA.rd rfl rfl Gd.free (Rd.ldC rfl (tyrow rfl) rfl) ?_; refine zu rfl rfl Rd.mv ?_; refine zu rfl rfl zI ?_; refine zu rfl rfl Rd.mv ?_; refine zu rfl rfl (Rd.nilCheck rfl) ?_
    refine zu rfl rfl (Rd.fA rfl) ?_; refine XPA.rd rfl rfl Gd.free (Rd.ldC rfl (tyrow rfl) rfl) ?_; refine zu rfl rfl Rd.mv ?_; refine zu rfl rfl (Rd.ixS rfl rfl) ?_; refine XPA.rd rfl rfl Gd.free (Rd.ldC rfl (tyrow rfl) rfl) ?_
    refine XPA.wrZ0 rfl rfl Gd.free (by kernel_rfl) (WrA.cE (put_w σ mb sb db d s (M.put 2 ((rd : Int) + 1)) (5 + a) y) rfl) ?_
    rintro _ _ _ ⟨_, ⟨rfl, rfl, rfl⟩, rfl⟩
    refine XPA.cl ?_; refine XPA.nil ?_
    exact bodyA.normal (ResA.none rfl) zE ⟨rfl, rfl, rfl⟩
theorem cell_m (op a b n k : Int) (hc : 0 ≤ a ∧ 1 ≤ b ∧ a + b ≤ 48) :
    CallsA Tryz.prog 105 #[ptr g, .agg #[i64 op, i64 a, i64 b, i64 n], i64 k] σ [blk g [ptr mb, cv, iv, ptr pb, i64 left, .bool torn] 129, Wld mb sb db d s M] (RetA fun v σ' Γ' => v = .tuple #[i64 (if k < 0 ∨ b ≤ k then 0 else 5 + a + k), .bool (decide ¬ (k < 0 ∨ b ≤ k))] ∧ σ = σ' ∧ Γ' = [blk g [ptr mb, cv, iv, ptr pb, i64 left, .bool torn] 129, Wld mb sb db d s (if k < 0 ∨ b ≤ k then M.put 4 13 else M)]) := by
  by_cases h0 : k < 0
  · have hk : k < 0 ∨ b ≤ k := .inl h0
    rw [if_pos hk, if_pos hk, decide_eq_false (fun q => q hk)]
    refine enterA3 Tryz.func105 rfl rfl rfl ?_; refine zS (zR ?_); refine zw rfl WrA.bx ?_
    rintro _ _ _ ⟨g4, rfl, rfl, rfl⟩
    refine yS ?_; refine yS ?_; refine zN (zT (zS (zS (zR (yA ?_))))); refine zO rfl (Rd.lss rfl rfl) ?_; refine yA ?_
    first | refine gA ?_ | refine zH ?_
    first | refine gV ?_ | refine zH ?_
    first | refine gB ?_ | refine zH ?_
    first | (refine zG ?_; refine zO rfl (Rd.geq rfl rfl) ?_) | refine zH ?_
    refine zO rfl zP ?_; refine zN (zT (XA.condT rfl (by first | rfl | exact decide_eq_true (by omega)) ?_)); refine zS (zR (yA ?_))
    refine yC (stop_m σ g mb sb db pb cv iv left torn d s M 13) ?_; refine zN (zT (zS (zR (yS ?_)))); refine yS ?_; refine zN (zT (XA.ret (DA.thn_ret ?_)))
    exact bodyA.ret (ResA.two rfl rfl rfl) zE ⟨rfl, rfl, rfl⟩
  by_cases h1 : b ≤ k
  · have hk : k < 0 ∨ b ≤ k := .inr h1
    rw [if_pos hk, if_pos hk, decide_eq_false (fun q => q hk)]
    refine enterA3 Tryz.func105 rfl rfl rfl ?_; refine zS (zR ?_); refine zw rfl WrA.bx ?_
    rintro _ _ _ ⟨g4, rfl, rfl, rfl⟩
    refine yS ?_; refine yS ?_; refine zN (zT (zS (zS (zR (yA ?_))))); refine zO rfl (Rd.lss rfl rfl) ?_; refine yA ?_
    first | refine gA ?_ | refine zH ?_
    first | refine gV ?_ | refine zH ?_
    first | refine gB ?_ | refine zH ?_
    first | (refine zG ?_; refine zO rfl (Rd.geq rfl rfl) ?_) | refine zH ?_
    refine zO rfl zP ?_; refine zN (zT (XA.condT rfl (by first | rfl | exact decide_eq_true (by omega)) ?_)); refine zS (zR (yA ?_))
    refine yC (stop_m σ g mb sb db pb cv iv left torn d s M 13) ?_; refine zN (zT (zS (zR (yS ?_)))); refine yS ?_; refine zN (zT (XA.ret (DA.thn_ret ?_)))
    exact bodyA.ret (ResA.two rfl rfl rfl) zE ⟨rfl, rfl, rfl⟩
  have hk : ¬ (k < 0 ∨ b ≤ k) := by omega
  rw [if_neg hk, if_neg hk, decide_eq_true hk]
  refine enterA3 Tryz.func105 rfl rfl rfl ?_; refine zS (zR ?_); refine zw rfl WrA.bx ?_
  rintro _ _ _ ⟨g4, rfl, rfl, rfl⟩
  refine yS ?_; refine yS ?_; refine zN (zT (zS (zS (zR (yA ?_))))); refine zO rfl (Rd.lss rfl rfl) ?_; refine yA ?_
  first | refine gA ?_ | refine zH ?_
  first | refine gV ?_ | refine zH ?_
  first | refine gB ?_ | refine zH ?_
  first | (refine zG ?_; refine zO rfl (Rd.geq rfl rfl) ?_) | refine zH ?_
  refine zO rfl zP ?_; refine zN (zT (XA.condF rfl (by first | rfl | exact decide_eq_false (by omega)) ?_)); refine XA.skip (zT (zS (zR (yV ?_)))); refine yB ?_; refine zO rfl zI ?_; refine yA ?_; refine zO rfl zI ?_; refine yS ?_; refine yS ?_
  refine zN (zT (XA.ret ?_))
  exact bodyA.ret (ResA.two rfl rfl rfl) zE ⟨rfl, rfl, rfl⟩
theorem commit_m (hg : s.gen < 4611686018427387904) :
    CallsA Tryz.prog 86 #[ptr g] σ [blk g [ptr mb, cv, iv, ptr pb, i64 0, .bool torn] 129, Wld mb sb db d s M] (RetA fun v σ' Γ' => ∃ (d' : DiskS) (s' : StS), v = .tuple #[] ∧ s'.gen = s.gen + 1 ∧ pagesC d' s' = M.C ∧ Good d' s' ∧ σ.sub σ' ∧ Γ' = [blk g [ptr mb, cv, iv, ptr pb, i64 0, .bool false] 129, Wld mb sb db d' s' ⟨M.C, noB⟩]) := by
  refine enterA1 Tryz.func86 rfl rfl rfl ?_; refine zS (zR (yS ?_)); refine zN (zT (zS (zS (zR (yA ?_))))); refine zO rfl (Rd.nilCheck rfl) ?_; refine yV ?_; refine yB ?_; refine zO rfl (Rd.gtr rfl rfl) ?_; refine zN (zT (yF rfl rfl (XA.skip (zT (zR (yA ?_)))))); refine yA ?_
  refine zO rfl (Rd.nilCheck rfl) ?_; refine yV ?_; refine yB ?_; refine yA ?_; refine zw rfl (WrA.cE (sync_w σ mb sb db d s M hg) rfl) ?_
  rintro _ σ1 _ ⟨_, ⟨d', s', rfl, h1, h2, h3, hs1, rfl⟩, rfl⟩
  refine XOA.cl ?_; refine zO rfl zJ ?_; refine zO rfl (Rd.nilCheck rfl) ?_; refine yV ?_; refine zw rfl (WrA.st (tyrow rfl) rfl) ?_
  rintro _ _ _ ⟨rfl, rfl, rfl⟩
  refine zN ?_
  exact bodyA.normal (ResA.none rfl) zE ⟨d', s', rfl, h1, h2, h3, hs1, rfl⟩
end
end Go.Proofs.YtmnmcjdgnpgchaaGreat

namespace Go.Proofs.YtmnmcjdgnpgchaaGreat
open Go X
set_option maxHeartbeats 1000000
section
variable (σ : PH) (g mb sb db pb : Nat) (cv iv : Value) (left : Int) (torn : Bool) (d : DiskS) (s : StS) (M : Me)
variable {next rd outn : Nat} {stack cells : List Int} {st : Int}
theorem cells2_m (a b n : Int) (ha : 0 ≤ a ∧ a < 48) (h : Shows M.C ⟨next, stack, rd, outn, st, cells⟩) (hl : stack.length < 59) :
    CallsA Tryz.prog 88 #[ptr g, .agg #[i64 2, i64 a, i64 b, i64 n]] σ [blk g [ptr mb, cv, iv, ptr pb, i64 left, .bool torn] 129, Wld mb sb db d s M] (RetA fun v σ' Γ' => v = .tuple #[] ∧ σ = σ' ∧ Γ' = [blk g [ptr mb, cv, iv, ptr pb, i64 left, .bool torn] 129, Wld mb sb db d s (M.pushM (M.ld (5 + a)))]) := by
  refine enterA2 Tryz.func88 rfl rfl rfl ?_; refine zS (zR ?_); refine zw rfl WrA.bx ?_
  rintro _ _ _ ⟨g3, rfl, rfl, rfl⟩
  refine zN (zT (zS (zR (yV ?_)))); refine yB ?_; refine zN (zT (XA.block (zS (zR (yE ?_))))); refine yS ?_; refine zN (zT (yT rfl rfl ?_))
  refine XA.draw (by kernel_rfl) _ _ [8, 9] [(0, .pu), (1, .pu), (2, .pu), (3, .pu), (4, .rd), (5, .pu), (6, .rd), (7, .pu), (8, .wr), (9, .wr)] (by kernel_rfl) (PH.sub.refl _) (Ent.sel (R := blk g _ _) zL (Ent.sel (R := blk g3 _ _) zL (Ent.nil _))) ?_
  refine zu rfl rfl Rd.mv ?_; refine zu rfl rfl Rd.mv ?_; refine zu rfl rfl (Rd.nilCheck rfl) ?_; refine zu rfl rfl (Rd.fA rfl) ?_; refine XPA.rd rfl rfl Gd.free (Rd.ldC rfl (tyrow rfl) rfl) ?_; refine zu rfl rfl (Rd.fA rfl) ?_; refine XPA.rd rfl rfl Gd.free (Rd.ldC rfl (tyrow rfl) rfl) ?_
  refine zu rfl rfl zI ?_
  refine XPA.wrZ0 rfl rfl Gd.free (by kernel_rfl) (WrA.cE (load_w σ mb sb db d s M (5 + a)) rfl) ?_
  rintro _ _ _ ⟨_, ⟨rfl, rfl, rfl⟩, rfl⟩
  refine XPA.cl ?_
  refine XPA.wrZ0 rfl rfl Gd.free (by kernel_rfl) (WrA.cE (push_m σ g mb sb db pb cv iv left torn d s M h hl (M.ld (5 + a))) rfl) ?_
  rintro _ _ _ ⟨_, ⟨rfl, rfl, rfl⟩, rfl⟩
  refine XPA.cl ?_; refine XPA.nil ?_; refine DA.inb_normal ?_
  exact bodyA.normal (ResA.none rfl) zE ⟨rfl, rfl, rfl⟩
theorem cells3_m (a b n k : Int) (l : List Int) (hc : 0 ≤ a ∧ 1 ≤ b ∧ a + b ≤ 48) (h : Shows M.C ⟨next, k :: l, rd, outn, st, cells⟩) :
    CallsA Tryz.prog 88 #[ptr g, .agg #[i64 3, i64 a, i64 b, i64 n]] σ [blk g [ptr mb, cv, iv, ptr pb, i64 left, .bool torn] 129, Wld mb sb db d s M] (RetA fun v σ' Γ' => v = .tuple #[] ∧ σ = σ' ∧ Γ' = [blk g [ptr mb, cv, iv, ptr pb, i64 left, .bool torn] 129, Wld mb sb db d s (if k < 0 ∨ b ≤ k then M.popM.put 4 13 else M.popM.pushM (M.popM.ld (5 + a + k)))]) := by
  have hs := h.ls
  simp only [List.length_cons] at hs
  have hce := cell_m σ g mb sb db pb cv iv left torn d s M.popM 3 a b n k hc
  by_cases hk : k < 0 ∨ b ≤ k
  · rw [if_pos hk]
    rw [if_pos hk, if_pos hk, decide_eq_false (fun q => q hk)] at hce
    refine enterA2 Tryz.func88 rfl rfl rfl ?_; refine zS (zR ?_); refine zw rfl WrA.bx ?_
    rintro _ _ _ ⟨g3, rfl, rfl, rfl⟩
    refine zN (zT (zS (zR (yV ?_)))); refine yB ?_; refine zN (zT (XA.block (zS (zR (yE ?_))))); refine yS ?_; refine zN (zT (yF rfl rfl (zS (zR (yE ?_))))); refine yS ?_; refine zN (zT (yT rfl rfl (zS ?_)))
    refine XA.draw (by kernel_rfl) _ _ [4] [(0, .pu), (1, .rd), (2, .pu), (3, .wr), (4, .wr), (5, .pu), (6, .pu), (7, .pu), (8, .pu), (9, .pu)] (by kernel_rfl) (PH.sub.refl _) (Ent.sel (R := blk g3 _ _) zL (Ent.nil _)) ?_
    refine zu rfl rfl Rd.mv ?_; refine XPA.rd rfl rfl Gd.free (Rd.ldA rfl) ?_; refine zu rfl rfl Rd.mv ?_; refine XPA.wr0 rfl rfl Gd.free (WrA.cE (pop_m σ g mb sb db pb cv iv left torn d s M h) rfl) ?_
    rintro _ _ _ ⟨_, ⟨rfl, rfl, rfl⟩, rfl⟩
    refine stays (XPA.cl ?_)
    refine XPA.wrZ0 rfl rfl Gd.free (by kernel_rfl) (WrA.cE (hce) rfl) ?_
    rintro _ _ _ ⟨_, ⟨rfl, rfl, rfl⟩, rfl⟩
    refine XPA.cl ?_; refine zu rfl rfl Rd.mv ?_; refine zu rfl rfl (Rd.extract rfl rfl) ?_; refine zu rfl rfl (Rd.extract rfl rfl) ?_; refine zu rfl rfl Rd.asg ?_; refine zu rfl rfl Rd.asg ?_; refine XPA.nil ?_; refine zT (zS (zR (yA ?_))); refine zN (zT (yF rfl rfl (XA.skip (DA.inb_normal ?_))))
    exact bodyA.normal (ResA.none rfl) zE ⟨rfl, rfl, rfl⟩
  · rw [if_neg hk]
    rw [if_neg hk, if_neg hk, decide_eq_true hk] at hce
    refine enterA2 Tryz.func88 rfl rfl rfl ?_; refine zS (zR ?_); refine zw rfl WrA.bx ?_
    rintro _ _ _ ⟨g3, rfl, rfl, rfl⟩
    refine zN (zT (zS (zR (yV ?_)))); refine yB ?_; refine zN (zT (XA.block (zS (zR (yE ?_))))); refine yS ?_; refine zN (zT (yF rfl rfl (zS (zR (yE ?_))))); refine yS ?_; refine zN (zT (yT rfl rfl (zS ?_)))
    refine XA.draw (by kernel_rfl) _ _ [4] [(0, .pu), (1, .rd), (2, .pu), (3, .wr), (4, .wr), (5, .pu), (6, .pu), (7, .pu), (8, .pu), (9, .pu)] (by kernel_rfl) (PH.sub.refl _) (Ent.sel (R := blk g3 _ _) zL (Ent.nil _)) ?_
    refine zu rfl rfl Rd.mv ?_; refine XPA.rd rfl rfl Gd.free (Rd.ldA rfl) ?_; refine zu rfl rfl Rd.mv ?_; refine XPA.wr0 rfl rfl Gd.free (WrA.cE (pop_m σ g mb sb db pb cv iv left torn d s M h) rfl) ?_
    rintro _ _ _ ⟨_, ⟨rfl, rfl, rfl⟩, rfl⟩
    refine stays (XPA.cl ?_)
    refine XPA.wrZ0 rfl rfl Gd.free (by kernel_rfl) (WrA.cE (hce) rfl) ?_
    rintro _ _ _ ⟨_, ⟨rfl, rfl, rfl⟩, rfl⟩
    refine XPA.cl ?_; refine zu rfl rfl Rd.mv ?_; refine zu rfl rfl (Rd.extract rfl rfl) ?_; refine zu rfl rfl (Rd.extract rfl rfl) ?_; refine zu rfl rfl Rd.asg ?_; refine zu rfl rfl Rd.asg ?_; refine XPA.nil ?_; refine zT (zS (zR (yA ?_))); refine zN (zT (yT rfl rfl (zR (yA ?_)))); refine yA ?_
    refine zO rfl (Rd.nilCheck rfl) ?_; refine yV ?_; refine yB ?_; refine yA ?_; refine yC (load_w σ mb sb db d s M.popM (5 + a + k)) ?_
    refine yC (push_m σ g mb sb db pb cv iv left torn d s M.popM h.popM (by omega) (M.popM.ld (5 + a + k))) ?_; refine zN (DA.inb_normal ?_)
    exact bodyA.normal (ResA.none rfl) zE ⟨rfl, rfl, rfl⟩
theorem cells9_m (a b n k : Int) (l : List Int) (ha : 0 ≤ a ∧ a < 48) (h : Shows M.C ⟨next, k :: l, rd, outn, st, cells⟩) :
    CallsA Tryz.prog 88 #[ptr g, .agg #[i64 9, i64 a, i64 b, i64 n]] σ [blk g [ptr mb, cv, iv, ptr pb, i64 left, .bool torn] 129, Wld mb sb db d s M] (RetA fun v σ' Γ' => v = .tuple #[] ∧ σ = σ' ∧ Γ' = [blk g [ptr mb, cv, iv, ptr pb, i64 left, .bool torn] 129, Wld mb sb db d s (M.popM.put (5 + a) k)]) := by
  refine enterA2 Tryz.func88 rfl rfl rfl ?_; refine zS (zR ?_); refine zw rfl WrA.bx ?_
  rintro _ _ _ ⟨g3, rfl, rfl, rfl⟩
  refine zN (zT (zS (zR (yV ?_)))); refine yB ?_; refine zN (zT (XA.block (zS (zR (yE ?_))))); refine yS ?_; refine zN (zT (yF rfl rfl (zS (zR (yE ?_))))); refine yS ?_; refine zN (zT (yF rfl rfl (zS (zR (yE ?_))))); refine yS ?_; refine zN (zT (yT rfl rfl ?_))
  refine XA.draw (by kernel_rfl) _ _ [9] [(0, .pu), (1, .pu), (2, .pu), (3, .rd), (4, .pu), (5, .rd), (6, .pu), (7, .pu), (8, .wr), (9, .wr)] (by kernel_rfl) (PH.sub.refl _) (Ent.sel (R := blk g _ _) zL (Ent.sel (R := blk g3 _ _) zL (Ent.nil _))) ?_
  refine zu rfl rfl Rd.mv ?_; refine zu rfl rfl (Rd.nilCheck rfl) ?_; refine zu rfl rfl (Rd.fA rfl) ?_; refine XPA.rd rfl rfl Gd.free (Rd.ldC rfl (tyrow rfl) rfl) ?_; refine zu rfl rfl (Rd.fA rfl) ?_; refine XPA.rd rfl rfl Gd.free (Rd.ldC rfl (tyrow rfl) rfl) ?_; refine zu rfl rfl zI ?_
  refine zu rfl rfl Rd.mv ?_; refine XPA.wr0 rfl rfl Gd.free (WrA.cE (pop_m σ g mb sb db pb cv iv left torn d s M h) rfl) ?_
  rintro _ _ _ ⟨_, ⟨rfl, rfl, rfl⟩, rfl⟩
  refine stays (XPA.cl ?_)
  refine XPA.wrZ0 rfl rfl Gd.free (by kernel_rfl) (WrA.cE (put_w σ mb sb db d s M.popM (5 + a) k) rfl) ?_
  rintro _ _ _ ⟨_, ⟨rfl, rfl, rfl⟩, rfl⟩
  refine XPA.cl ?_; refine XPA.nil ?_; refine DA.inb_normal ?_
  exact bodyA.normal (ResA.none rfl) zE ⟨rfl, rfl, rfl⟩
theorem cells10_m (a b n m k : Int) (l : List Int) (hc : 0 ≤ a ∧ 1 ≤ b ∧ a + b ≤ 48) (h : Shows M.C ⟨next, m :: k :: l, rd, outn, st, cells⟩) :
    CallsA Tryz.prog 88 #[ptr g, .agg #[i64 10, i64 a, i64 b, i64 n]] σ [blk g [ptr mb, cv, iv, ptr pb, i64 left, .bool torn] 129, Wld mb sb db d s M] (RetA fun v σ' Γ' => v = .tuple #[] ∧ σ = σ' ∧ Γ' = [blk g [ptr mb, cv, iv, ptr pb, i64 left, .bool torn] 129, Wld mb sb db d s (if k < 0 ∨ b ≤ k then M.popM.popM.put 4 13 else M.popM.popM.put (5 + a + k) m)]) := by
  have hce := cell_m σ g mb sb db pb cv iv left torn d s M.popM.popM 10 a b n k hc
  by_cases hk : k < 0 ∨ b ≤ k
  · rw [if_pos hk]
    rw [if_pos hk, if_pos hk, decide_eq_false (fun q => q hk)] at hce
    refine enterA2 Tryz.func88 rfl rfl rfl ?_; refine zS (zR ?_); refine zw rfl WrA.bx ?_
    rintro _ _ _ ⟨g3, rfl, rfl, rfl⟩
    refine zN (zT (zS (zR (yV ?_)))); refine yB ?_; refine zN (zT (XA.block (zS (zR (yE ?_))))); (iterate 3 (refine yS ?_; refine zN (zT (yF rfl rfl (zS (zR (yE ?_))))))); refine yS ?_; refine zN (zT (yT rfl rfl (zS (zR (yA ?_))))); refine yC (pop_m σ g mb sb db pb cv iv left torn d s M h) ?_
    refine yS ?_; refine zN (zT (zS ?_))
    refine XA.draw (by kernel_rfl) _ _ [4] [(0, .pu), (1, .rd), (2, .pu), (3, .wr), (4, .wr), (5, .pu), (6, .pu), (7, .pu), (8, .pu), (9, .pu)] (by kernel_rfl) (PH.sub.refl _) (Ent.sel (R := blk g3 _ _) zL (Ent.nil _)) ?_
    refine zu rfl rfl Rd.mv ?_; refine XPA.rd rfl rfl Gd.free (Rd.ldA rfl) ?_; refine zu rfl rfl Rd.mv ?_; refine XPA.wr0 rfl rfl Gd.free (WrA.cE (pop_m σ g mb sb db pb cv iv left torn d s M.popM h.popM) rfl) ?_
    rintro _ _ _ ⟨_, ⟨rfl, rfl, rfl⟩, rfl⟩
    refine stays (XPA.cl ?_)
    refine XPA.wrZ0 rfl rfl Gd.free (by kernel_rfl) (WrA.cE (hce) rfl) ?_
    rintro _ _ _ ⟨_, ⟨rfl, rfl, rfl⟩, rfl⟩
    refine XPA.cl ?_; refine zu rfl rfl Rd.mv ?_; refine zu rfl rfl (Rd.extract rfl rfl) ?_; refine zu rfl rfl (Rd.extract rfl rfl) ?_; refine zu rfl rfl Rd.asg ?_; refine zu rfl rfl Rd.asg ?_; refine XPA.nil ?_; refine zT (zS (zR (yA ?_))); refine zN (zT (yF rfl rfl (XA.skip (DA.inb_normal ?_))))
    exact bodyA.normal (ResA.none rfl) zE ⟨rfl, rfl, rfl⟩
  · rw [if_neg hk]
    rw [if_neg hk, if_neg hk, decide_eq_true hk] at hce
    refine enterA2 Tryz.func88 rfl rfl rfl ?_; refine zS (zR ?_); refine zw rfl WrA.bx ?_
    rintro _ _ _ ⟨g3, rfl, rfl, rfl⟩
    refine zN (zT (zS (zR (yV ?_)))); refine yB ?_; refine zN (zT (XA.block (zS (zR (yE ?_))))); (iterate 3 (refine yS ?_; refine zN (zT (yF rfl rfl (zS (zR (yE ?_))))))); refine yS ?_; refine zN (zT (yT rfl rfl (zS (zR (yA ?_))))); refine yC (pop_m σ g mb sb db pb cv iv left torn d s M h) ?_
    refine yS ?_; refine zN (zT (zS ?_))
    refine XA.draw (by kernel_rfl) _ _ [4] [(0, .pu), (1, .rd), (2, .pu), (3, .wr), (4, .wr), (5, .pu), (6, .pu), (7, .pu), (8, .pu), (9, .pu)] (by kernel_rfl) (PH.sub.refl _) (Ent.sel (R := blk g3 _ _) zL (Ent.nil _)) ?_
    refine zu rfl rfl Rd.mv ?_; refine XPA.rd rfl rfl Gd.free (Rd.ldA rfl) ?_; refine zu rfl rfl Rd.mv ?_; refine XPA.wr0 rfl rfl Gd.free (WrA.cE (pop_m σ g mb sb db pb cv iv left torn d s M.popM h.popM) rfl) ?_
    rintro _ _ _ ⟨_, ⟨rfl, rfl, rfl⟩, rfl⟩
    refine stays (XPA.cl ?_)
    refine XPA.wrZ0 rfl rfl Gd.free (by kernel_rfl) (WrA.cE (hce) rfl) ?_
    rintro _ _ _ ⟨_, ⟨rfl, rfl, rfl⟩, rfl⟩
    refine XPA.cl ?_; refine zu rfl rfl Rd.mv ?_; refine zu rfl rfl (Rd.extract rfl rfl) ?_; refine zu rfl rfl (Rd.extract rfl rfl) ?_; refine zu rfl rfl Rd.asg ?_; refine zu rfl rfl Rd.asg ?_; refine XPA.nil ?_; refine zT (zS (zR (yA ?_))); refine zN (zT (yT rfl rfl (zR (yA ?_))))
    refine zO rfl (Rd.nilCheck rfl) ?_; refine yV ?_; refine yB ?_; refine yA ?_; refine yA ?_; refine yC (put_w σ mb sb db d s M.popM.popM (5 + a + k) m) ?_; refine zN (DA.inb_normal ?_)
    exact bodyA.normal (ResA.none rfl) zE ⟨rfl, rfl, rfl⟩
theorem cells12_m (pi : Option Addr) (ci : Nat) (inp : List Int) (a b n : Int) (ha : 0 ≤ a ∧ a < 48) (hi : PInts σ (.slice pi inp.length ci) inp) (hil : inp.length ≤ 1000000) (h : Shows M.C ⟨next, stack, rd, outn, st, cells⟩) :
    CallsA Tryz.prog 88 #[ptr g, .agg #[i64 12, i64 a, i64 b, i64 n]] σ [blk g [ptr mb, cv, .slice pi inp.length ci, ptr pb, i64 left, .bool torn] 129, Wld mb sb db d s M] (RetA fun v σ' Γ' => v = .tuple #[] ∧ σ = σ' ∧ Γ' = [blk g [ptr mb, cv, .slice pi inp.length ci, ptr pb, i64 left, .bool torn] 129, Wld mb sb db d s (if (inp.length : Int) ≤ M.ld 2 then M.put 4 14 else (M.put 2 (M.ld 2 + 1)).put (5 + a) (inp.getD (M.ld 2).toNat 0))]) := by
  refine enterA2 Tryz.func88 rfl rfl rfl ?_; refine zS (zR ?_); refine zw rfl WrA.bx ?_
  rintro _ _ _ ⟨g3, rfl, rfl, rfl⟩
  refine zN (zT (zS (zR (yV ?_)))); refine yB ?_; refine zN (zT (XA.block (zS (zR (yE ?_))))); (iterate 4 (refine yS ?_; refine zN (zT (yF rfl rfl (zS (zR (yE ?_))))))); refine yS ?_; refine zN (zT (yT rfl rfl (zR (yA ?_)))); refine yV ?_; refine yB ?_
  refine yC (take_m σ g mb sb db pb cv left torn d s M pi ci inp a ha hi hil h) ?_; refine zN (DA.inb_normal ?_)
  exact bodyA.normal (ResA.none rfl) zE ⟨rfl, rfl, rfl⟩
theorem cellsN_m (op a b n : Int) (h2 : op ≠ 2) (h3 : op ≠ 3) (h9 : op ≠ 9) (h10 : op ≠ 10) (h12 : op ≠ 12) :
    CallsA Tryz.prog 88 #[ptr g, .agg #[i64 op, i64 a, i64 b, i64 n]] σ [blk g [ptr mb, cv, iv, ptr pb, i64 left, .bool torn] 129, Wld mb sb db d s M] (RetA fun v σ' Γ' => v = .tuple #[] ∧ σ = σ' ∧ Γ' = [blk g [ptr mb, cv, iv, ptr pb, i64 left, .bool torn] 129, Wld mb sb db d s M]) := by
  refine enterA2 Tryz.func88 rfl rfl rfl ?_; refine zS (zR ?_); refine zw rfl WrA.bx ?_
  rintro _ _ _ ⟨g3, rfl, rfl, rfl⟩
  refine zN (zT (zS (zR (yV ?_)))); refine yB ?_; refine zN (zT (XA.block (zS (zR (yE ?_))))); refine yS ?_; refine zN (zT (XA.condF rfl (decide_eq_false h2) (zS (zR (yE ?_))))); refine yS ?_; refine zN (zT (XA.condF rfl (decide_eq_false h3) (zS (zR (yE ?_))))); refine yS ?_
  refine zN (zT (XA.condF rfl (decide_eq_false h9) (zS (zR (yE ?_))))); refine yS ?_; refine zN (zT (XA.condF rfl (decide_eq_false h10) (zS (zR (yE ?_))))); refine yS ?_; refine zN (zT (XA.condF rfl (decide_eq_false h12) (XA.skip (DA.inb_normal ?_))))
  exact bodyA.normal (ResA.none rfl) zE ⟨rfl, rfl, rfl⟩
end
end Go.Proofs.YtmnmcjdgnpgchaaGreat

namespace Go.Proofs.YtmnmcjdgnpgchaaGreat
open Go X
set_option maxHeartbeats 2000000
theorem stepdone_m (σ : PH) (g mb sb db pb : Nat) (cv iv : Value) (left : Int) (torn : Bool) (d : DiskS) (s : StS) (M : Me) (h4 : M.ld 4 ≠ 0) :
    CallsA Tryz.prog 59 #[ptr g] σ [blk g [ptr mb, cv, iv, ptr pb, i64 left, .bool torn] 129, Wld mb sb db d s M] (RetA fun v σ' Γ' => v = .bool false ∧ σ = σ' ∧ Γ' = [blk g [ptr mb, cv, iv, ptr pb, i64 left, .bool torn] 129, Wld mb sb db d s M]) := by
  refine enterA1 Tryz.func59 rfl rfl rfl ?_; refine zS (zR (yS ?_)); refine zN (zT (zS (zS (zR (yA ?_))))); refine zO rfl (Rd.nilCheck rfl) ?_; refine yV ?_; refine yB ?_; refine yC (load_w σ mb sb db d s M 4) ?_; refine zO rfl (Rd.neq rfl rfl) ?_
  refine zN (zT (XA.condT rfl (decide_eq_true h4) (zS (zR (yS ?_))))); refine zN (zT (XA.ret (DA.thn_ret ?_)))
  exact bodyA.ret (ResA.one rfl rfl) zE ⟨rfl, rfl, rfl⟩
theorem prS_do {out : List Int} {wrong : Bool} {outn : Nat} {n : Int} (h : outn ≤ out.length) : prS out wrong outn n = (if outn = out.length then (out ++ [n], wrong) else (out, wrong || decide (out.getD outn 0 ≠ n))) := by
  rw [prS]
  by_cases h1 : outn = out.length
  · rw [if_pos (by omega), if_pos h1]
  · rw [if_neg (by omega), if_neg h1, Int.toNat_natCast]
    by_cases h2 : out.getD outn 0 = n
    · rw [if_neg (by rintro (q | q | q); omega; omega; exact q h2), decide_eq_false (fun q => q h2), Bool.or_false]
    · rw [if_pos (.inr (.inr h2)), decide_eq_true h2, Bool.or_true]
section
variable (σ : PH) (g mb sb db pb : Nat) (pc pi : Option Addr) (cc ci : Nat) (code : List In) (inp : List Int) (left : Int) (torn : Bool) (d : DiskS) (s : StS) (M : Me) (b : Be) (x : In)
theorem step_m (hc : PSl 4 rIn σ (.slice pc code.length cc) code) (hi : PInts σ (.slice pi inp.length ci) inp) (hil : inp.length ≤ 1000000) (hS : Shows M.C b.m) (hk : StepOk code inp b x) (hs : b.m.stack.length < 59) (h15 : x.op ≠ 15) :
    CallsA Tryz.prog 59 #[ptr g] σ [blk g [ptr mb, .slice pc code.length cc, .slice pi inp.length ci, ptr pb, i64 left, .bool torn] 129, Wld mb sb db d s M, Prin pb b.out b.wrong] (RetA fun v σ' Γ' => v = .bool true ∧ σ = σ' ∧ Γ' = [blk g [ptr mb, .slice pc code.length cc, .slice pi inp.length ci, ptr pb, i64 left, .bool torn] 129, Wld mb sb db d s (M.stepM code inp), Prin pb (stepB code inp false b).out (stepB code inp false b).wrong]) := by
  obtain ⟨⟨next, stack, rd, outn, st, cells⟩, kept, out, wrong⟩ := b
  obtain ⟨hst, hx, hpop, ⟨hcell, hcell2⟩, hgo, hsl, hcl, hcd, hrd, hol, hon⟩ := hk
  have h48 := hS.lc
  simp only at hst hx hpop hcell hcell2 hsl hcl hcd hrd hol hon hs hS h48
  subst hst
  obtain ⟨xop, xa, xb, xn⟩ := x
  simp only at hpop hcell hcell2 hgo h15
  have hlt := (List.getElem?_eq_some_iff.1 hx).1
  obtain ⟨gc, oc', row, rfl, hrx, hrl, hrow⟩ := hc.at hx
  obtain rfl : row = [i64 xop, i64 xa, i64 xb, i64 xn] := hrx
  have hB : stepB code inp false ⟨⟨next, stack, rd, outn, 0, cells⟩, kept, out, wrong⟩ = doIn inp false ⟨xop, xa, xb, xn⟩ ⟨⟨next + 1, stack, rd, outn, 0, cells⟩, kept, out, wrong⟩ := by
    rw [stepB, hx]; rfl
  rw [hB]
  clear hB
  have e0 : M.ld 0 = next := hS.nx
  have hM : M.stepM code inp = (M.put 0 ((next : Int) + 1)).doM inp ⟨xop, xa, xb, xn⟩ := by rw [Me.stepM, e0, Int.toNat_natCast, hx]
  have hw : Shows (M.put 0 (((next : Nat) : Int) + 1)).C ⟨next + 1, stack, rd, outn, 0, cells⟩ := by
    have := hS.put0 (next + 1)
    rw [Int.natCast_add] at this
    exact this
  have hld := load_w σ mb sb db d s M 4
  rw [show M.ld 4 = 0 from hS.st] at hld
  have hadd := add_m σ g mb sb db pb (.slice (some ⟨gc, oc', none⟩) code.length cc) (.slice pi inp.length ci) left torn d s M 0 1
  rw [e0, X.wrap64_in (by omega) (by omega)] at hadd
  rw [hM]
  clear hM hS e0 hc
  generalize M.put 0 (((next : Nat) : Int) + 1) = M1 at hw hadd ⊢
  dsimp only
  refine enterA1 Tryz.func59 rfl rfl rfl ?_; refine zS (zR (yS ?_)); refine zN (zT (zS (zS (zR (yA ?_))))); refine zO rfl (Rd.nilCheck rfl) ?_; refine yV ?_; refine yB ?_; refine yC (hld) ?_; refine zO rfl (Rd.neq rfl rfl) ?_; refine zN (zT (yF rfl rfl (XA.skip (zT (zS ?_)))))
  refine XA.join [(3, 3), (11, 18)] (fun y : Nat => [(3, ptr y)]) (fun y σ' Γ' => σ = σ' ∧ Γ' = [blk y [i64 xop, i64 xa, i64 xb, i64 xn] 103, blk g [ptr mb, .slice (some ⟨gc, oc', none⟩) code.length cc, .slice pi inp.length ci, ptr pb, i64 left, .bool torn] 129, Wld mb sb db d s M1, Prin pb out wrong]) ?_ ?_
  · skip
    refine XA.drawQ (by kernel_rfl) _ _ [9] 10 #[false, false, false, false, false, false, false, false, false, false] rfl rfl (by kernel_rfl) (PH.sub.refl _) (Ent.sel (R := blk g _ _) zL (Ent.nil _)) ?_
    refine qp 0 #[tT,fF,fF,fF,fF,fF,fF,fF,fF,fF] rfl Rd.mv ?_; refine qp 1 #[tT,tT,fF,fF,fF,fF,fF,fF,fF,fF] rfl (Rd.nilCheck rfl) ?_; refine qp 2 #[tT,tT,tT,fF,fF,fF,fF,fF,fF,fF] rfl (Rd.fA rfl) ?_; refine qr 3 #[tT,tT,tT,tT,fF,fF,fF,fF,fF,fF] rfl (Rd.ldC rfl (tyrow rfl) rfl) ?_
    refine qp 4 #[tT,tT,tT,tT,tT,fF,fF,fF,fF,fF] rfl Rd.mv ?_
    refine XQA.w2 (i := 5) (j := 8) (by kernel_rfl) ?_ ?_
    · refine qw #[tT,tT,tT,tT,tT,tT,fF,fF,fF,fF] rfl (WrA.cE hadd rfl) ?_
      rintro _ _ _ ⟨_, ⟨rfl, rfl, rfl⟩, rfl⟩
      refine ⟨⟨zX, zE⟩, XQA.re zC ?_⟩
      refine qp 6 #[tT,tT,tT,tT,tT,tT,tT,fF,fF,fF] rfl (Rd.ixS rfl rfl) ?_; refine qr 7 #[tT,tT,tT,tT,tT,tT,tT,tT,fF,fF] rfl (Rd.ldA rfl) ?_; refine qa 8 ?_; refine qw #[tT,tT,tT,tT,tT,tT,tT,tT,tT,fF] rfl (WrA.alloc (tyrow rfl)) ?_
      rintro _ _ _ ⟨g3, rfl, rfl, rfl⟩
      refine ⟨⟨zX, zE⟩, XQA.re zC ?_⟩
      refine qa 9 ?_
      refine XQA1.wrZ0 (listed' := #[tT,tT,tT,tT,tT,tT,tT,tT,tT,tT]) rfl rfl Gd.free (by kernel_rfl) rfl (by kernel_rfl) (WrA.st (tyrow rfl) rfl) ?_
      rintro _ _ _ ⟨rfl, rfl, rfl⟩
      refine XQA.re zC ?_; refine XQA.nil rfl ?_
      refine DA.thn_normal ⟨zK, g3, _, zM, ?_, rfl, rfl⟩; exact zE
    · refine qw #[tT,tT,tT,tT,tT,fF,fF,fF,tT,fF] rfl (WrA.alloc (tyrow rfl)) ?_
      rintro _ _ _ ⟨g3, rfl, rfl, rfl⟩
      refine ⟨⟨zX, zE⟩, XQA.re zC ?_⟩
      refine qa 5 ?_; refine qw #[tT,tT,tT,tT,tT,tT,fF,fF,tT,fF] rfl (WrA.cE hadd rfl) ?_
      rintro _ _ _ ⟨_, ⟨rfl, rfl, rfl⟩, rfl⟩
      refine ⟨⟨zX, zE⟩, XQA.re zC ?_⟩
      refine qp 6 #[tT,tT,tT,tT,tT,tT,tT,fF,tT,fF] rfl (Rd.ixS rfl rfl) ?_; refine qr 7 #[tT,tT,tT,tT,tT,tT,tT,tT,tT,fF] rfl (Rd.ldA rfl) ?_; refine qa 9 ?_
      refine XQA1.wrZ0 (listed' := #[tT,tT,tT,tT,tT,tT,tT,tT,tT,tT]) rfl rfl Gd.free (by kernel_rfl) rfl (by kernel_rfl) (WrA.st (tyrow rfl) rfl) ?_
      rintro _ _ _ ⟨rfl, rfl, rfl⟩
      refine XQA.re zC ?_; refine XQA.nil rfl ?_
      refine DA.thn_normal ⟨zK, g3, _, zM, ?_, rfl, rfl⟩; exact zE
  rintro g3 δ _ _ ⟨rfl, rfl⟩
  dsimp only [ovr, List.foldl]
  refine zT (zS (zS (zR (yV ?_)))); refine yB ?_; refine zN (zT (XA.block (zS (zR (yE ?_))))); refine yS ?_; refine zN (zT ?_)
  by_cases h1 : xop = 1
  · subst h1
    clear hx
    rw [show M1.doM inp ⟨1, xa, xb, xn⟩ = M1.pushM xn from rfl]
    rw [show doIn inp false ⟨1, xa, xb, xn⟩ ⟨⟨next + 1, stack, rd, outn, 0, cells⟩, kept, out, wrong⟩ = ⟨⟨next + 1, xn :: stack, rd, outn, 0, cells⟩, kept, out, wrong⟩ from rfl]
    refine yT rfl rfl (zR (yA ?_)); refine yV ?_; refine yB ?_; refine yC (push_m σ g mb sb db pb (.slice (some ⟨gc, oc', none⟩) code.length cc) (.slice pi inp.length ci) left torn d s M1 hw hs xn) ?_; refine zN (DA.inb_normal (zT (zS (zR (yS ?_))))); refine zN (zT (XA.ret ?_))
    exact bodyA.ret (ResA.one rfl rfl) zE ⟨rfl, rfl, rfl⟩
  by_cases h4 : xop = 4
  · subst h4
    clear hx
    obtain ⟨y, z, l, rfl⟩ : ∃ y z s, stack = y :: z :: s := by
      cases stack with
      | nil => simp [popA] at hpop
      | cons y s => cases s with
        | nil => simp [popA] at hpop
        | cons z s => exact ⟨y, z, s, rfl⟩
    rw [show M1.doM inp ⟨4, xa, xb, xn⟩ = M1.popM.popM.pushM (binV 4 M1.popM.topM M1.topM) from rfl, hw.topM, hw.popM.topM]
    rw [show doIn inp false ⟨4, xa, xb, xn⟩ ⟨⟨next + 1, y :: z :: l, rd, outn, 0, cells⟩, kept, out, wrong⟩ = ⟨⟨next + 1, binV 4 z y :: l, rd, outn, 0, cells⟩, kept, out, wrong⟩ from rfl]
    refine yF rfl rfl (zS (zS (zR (yE ?_)))); refine yS ?_; refine zN (zT (yT rfl rfl (XA.skip (zT (yT rfl rfl (zR (yA ?_))))))); refine yV ?_; refine yB ?_
    refine yC (two_m σ g mb sb db pb (.slice (some ⟨gc, oc', none⟩) code.length cc) (.slice pi inp.length ci) left torn d s M1 4 (by decide) hw) ?_; refine zN (DA.inb_normal (zT (zS (zR (yS ?_))))); refine zN (zT (XA.ret ?_))
    exact bodyA.ret (ResA.one rfl rfl) zE ⟨rfl, rfl, rfl⟩
  by_cases h5 : xop = 5
  · subst h5
    clear hx
    obtain ⟨y, z, l, rfl⟩ : ∃ y z s, stack = y :: z :: s := by
      cases stack with
      | nil => simp [popA] at hpop
      | cons y s => cases s with
        | nil => simp [popA] at hpop
        | cons z s => exact ⟨y, z, s, rfl⟩
    rw [show M1.doM inp ⟨5, xa, xb, xn⟩ = M1.popM.popM.pushM (binV 5 M1.popM.topM M1.topM) from rfl, hw.topM, hw.popM.topM]
    rw [show doIn inp false ⟨5, xa, xb, xn⟩ ⟨⟨next + 1, y :: z :: l, rd, outn, 0, cells⟩, kept, out, wrong⟩ = ⟨⟨next + 1, binV 5 z y :: l, rd, outn, 0, cells⟩, kept, out, wrong⟩ from rfl]
    refine yF rfl rfl (zS (zS (zR (yE ?_)))); refine yS ?_; refine zN (zT (yF rfl rfl (zS (zR (yE ?_))))); refine yS ?_; refine zN (zT (yT rfl rfl (XA.skip (zT (yT rfl rfl (zR (yA ?_))))))); refine yV ?_; refine yB ?_
    refine yC (two_m σ g mb sb db pb (.slice (some ⟨gc, oc', none⟩) code.length cc) (.slice pi inp.length ci) left torn d s M1 5 (by decide) hw) ?_; refine zN (DA.inb_normal (zT (zS (zR (yS ?_))))); refine zN (zT (XA.ret ?_))
    exact bodyA.ret (ResA.one rfl rfl) zE ⟨rfl, rfl, rfl⟩
  by_cases h6 : xop = 6
  · subst h6
    clear hx
    obtain ⟨y, z, l, rfl⟩ : ∃ y z s, stack = y :: z :: s := by
      cases stack with
      | nil => simp [popA] at hpop
      | cons y s => cases s with
        | nil => simp [popA] at hpop
        | cons z s => exact ⟨y, z, s, rfl⟩
    rw [show M1.doM inp ⟨6, xa, xb, xn⟩ = M1.popM.popM.pushM (binV 6 M1.popM.topM M1.topM) from rfl, hw.topM, hw.popM.topM]
    rw [show doIn inp false ⟨6, xa, xb, xn⟩ ⟨⟨next + 1, y :: z :: l, rd, outn, 0, cells⟩, kept, out, wrong⟩ = ⟨⟨next + 1, binV 6 z y :: l, rd, outn, 0, cells⟩, kept, out, wrong⟩ from rfl]
    refine yF rfl rfl (zS (zS (zR (yE ?_)))); refine yS ?_; refine zN (zT (yF rfl rfl (zS (zR (yE ?_))))); refine yS ?_; refine zN (zT (yF rfl rfl (zS (zR (yE ?_))))); refine yS ?_; refine zN (zT (yT rfl rfl (XA.skip (zT (yT rfl rfl (zR (yA ?_))))))); refine yV ?_; refine yB ?_
    refine yC (two_m σ g mb sb db pb (.slice (some ⟨gc, oc', none⟩) code.length cc) (.slice pi inp.length ci) left torn d s M1 6 (by decide) hw) ?_; refine zN (DA.inb_normal (zT (zS (zR (yS ?_))))); refine zN (zT (XA.ret ?_))
    exact bodyA.ret (ResA.one rfl rfl) zE ⟨rfl, rfl, rfl⟩
  by_cases h7 : xop = 7
  · subst h7
    clear hx
    obtain ⟨y, z, l, rfl⟩ : ∃ y z s, stack = y :: z :: s := by
      cases stack with
      | nil => simp [popA] at hpop
      | cons y s => cases s with
        | nil => simp [popA] at hpop
        | cons z s => exact ⟨y, z, s, rfl⟩
    rw [show M1.doM inp ⟨7, xa, xb, xn⟩ = M1.popM.popM.pushM (binV 7 M1.popM.topM M1.topM) from rfl, hw.topM, hw.popM.topM]
    rw [show doIn inp false ⟨7, xa, xb, xn⟩ ⟨⟨next + 1, y :: z :: l, rd, outn, 0, cells⟩, kept, out, wrong⟩ = ⟨⟨next + 1, binV 7 z y :: l, rd, outn, 0, cells⟩, kept, out, wrong⟩ from rfl]
    refine yF rfl rfl (zS (zS (zR (yE ?_)))); (iterate 3 (refine yS ?_; refine zN (zT (yF rfl rfl (zS (zR (yE ?_))))))); refine yS ?_; refine zN (zT (yT rfl rfl (XA.skip (zT (yT rfl rfl (zR (yA ?_))))))); refine yV ?_; refine yB ?_
    refine yC (two_m σ g mb sb db pb (.slice (some ⟨gc, oc', none⟩) code.length cc) (.slice pi inp.length ci) left torn d s M1 7 (by decide) hw) ?_; refine zN (DA.inb_normal (zT (zS (zR (yS ?_))))); refine zN (zT (XA.ret ?_))
    exact bodyA.ret (ResA.one rfl rfl) zE ⟨rfl, rfl, rfl⟩
  by_cases h8 : xop = 8
  · subst h8
    clear hx
    obtain ⟨y, z, l, rfl⟩ : ∃ y z s, stack = y :: z :: s := by
      cases stack with
      | nil => simp [popA] at hpop
      | cons y s => cases s with
        | nil => simp [popA] at hpop
        | cons z s => exact ⟨y, z, s, rfl⟩
    rw [show M1.doM inp ⟨8, xa, xb, xn⟩ = M1.popM.popM.pushM (binV 8 M1.popM.topM M1.topM) from rfl, hw.topM, hw.popM.topM]
    rw [show doIn inp false ⟨8, xa, xb, xn⟩ ⟨⟨next + 1, y :: z :: l, rd, outn, 0, cells⟩, kept, out, wrong⟩ = ⟨⟨next + 1, binV 8 z y :: l, rd, outn, 0, cells⟩, kept, out, wrong⟩ from rfl]
    refine yF rfl rfl (zS (zS (zR (yE ?_)))); (iterate 3 (refine yS ?_; refine zN (zT (yF rfl rfl (zS (zR (yE ?_))))))); refine yS ?_; refine zN (zT (yF rfl rfl (zR (yE ?_)))); refine yS ?_; refine zN (zT (yT rfl rfl (zR (yA ?_)))); refine yV ?_; refine yB ?_
    refine yC (two_m σ g mb sb db pb (.slice (some ⟨gc, oc', none⟩) code.length cc) (.slice pi inp.length ci) left torn d s M1 8 (by decide) hw) ?_; refine zN (DA.inb_normal (zT (zS (zR (yS ?_))))); refine zN (zT (XA.ret ?_))
    exact bodyA.ret (ResA.one rfl rfl) zE ⟨rfl, rfl, rfl⟩
  by_cases h11 : xop = 11
  · subst h11
    clear hx
    obtain ⟨n, l, rfl⟩ : ∃ n s, stack = n :: s := by
      cases stack with
      | nil => simp [popA] at hpop
      | cons n s => exact ⟨n, s, rfl⟩
    rw [show M1.doM inp ⟨11, xa, xb, xn⟩ = M1.popM.put 3 (M1.popM.ld 3 + 1) from rfl]
    have e3 : M1.popM.ld 3 = outn := hw.popM.on
    rw [e3]
    have hadd3 := add_m σ g mb sb db pb (.slice (some ⟨gc, oc', none⟩) code.length cc) (.slice pi inp.length ci) left torn d s M1.popM 3 1
    rw [e3, X.wrap64_in (by omega) (by omega)] at hadd3
    have hpr := prS_do (wrong := wrong) (n := n) hon
    obtain ⟨eo, ew⟩ : (doIn inp false ⟨11, xa, xb, xn⟩ ⟨⟨next + 1, n :: l, rd, outn, 0, cells⟩, kept, out, wrong⟩).out = (prS out wrong outn n).1 ∧ (doIn inp false ⟨11, xa, xb, xn⟩ ⟨⟨next + 1, n :: l, rd, outn, 0, cells⟩, kept, out, wrong⟩).wrong = (prS out wrong outn n).2 := by
      rw [hpr]
      by_cases hoe : outn = out.length <;> simp [doIn, hoe]
    rw [eo, ew]
    refine yF rfl rfl (zS (zS (zR (yE ?_)))); (iterate 3 (refine yS ?_; refine zN (zT (yF rfl rfl (zS (zR (yE ?_))))))); refine yS ?_; refine zN (zT (yF rfl rfl (zR (yE ?_)))); refine yS ?_; refine zN (zT (yF rfl rfl (zS (zR (yE ?_))))); refine yS ?_; refine zN (zT (yT rfl rfl (zS (zR (yA ?_)))))
    refine yC (pop_m σ g mb sb db pb (.slice (some ⟨gc, oc', none⟩) code.length cc) (.slice pi inp.length ci) left torn d s M1 hw) ?_; refine yS ?_; refine zN (zT ?_)
    refine XA.draw (by kernel_rfl) _ _ [7] [(0, .pu), (1, .pu), (2, .pu), (3, .rd), (4, .pu), (6, .pu), (5, .wr), (7, .wr)] (by kernel_rfl) (PH.sub.refl _) (Ent.sel (R := blk g _ _) zL (Ent.nil _)) ?_
    refine zu rfl rfl Rd.mv ?_; refine zu rfl rfl (Rd.nilCheck rfl) ?_; refine zu rfl rfl (Rd.fA rfl) ?_; refine XPA.rd rfl rfl Gd.free (Rd.ldC rfl (tyrow rfl) rfl) ?_; refine zu rfl rfl Rd.mv ?_; refine zu rfl rfl Rd.mv ?_; refine XPA.wr0 rfl rfl Gd.free (WrA.cE (hadd3) rfl) ?_
    rintro _ _ _ ⟨_, ⟨rfl, rfl, rfl⟩, rfl⟩
    refine stays (XPA.cl ?_)
    refine XPA.wrZ0 rfl rfl Gd.free (by kernel_rfl) (WrA.cE (pput_a σ pb out wrong outn n hol) rfl) ?_
    rintro _ _ _ ⟨_, ⟨rfl, rfl, rfl⟩, rfl⟩
    refine XPA.cl ?_; refine XPA.nil ?_; refine DA.inb_normal (zT (zS (zR (yS ?_)))); refine zN (zT (XA.ret ?_))
    exact bodyA.ret (ResA.one rfl rfl) zE ⟨rfl, rfl, rfl⟩
  by_cases h13 : xop = 13
  · subst h13
    clear hx
    obtain ⟨n, l, rfl⟩ : ∃ n s, stack = n :: s := by
      cases stack with
      | nil => simp [popA] at hpop
      | cons n s => exact ⟨n, s, rfl⟩
    rw [show M1.doM inp ⟨13, xa, xb, xn⟩ = (if M1.topM = 0 then M1.popM.put 0 xa else M1.popM) from rfl, hw.topM]
    by_cases hn0 : n = 0
    · rw [if_pos hn0, show doIn inp false ⟨13, xa, xb, xn⟩ ⟨⟨next + 1, n :: l, rd, outn, 0, cells⟩, kept, out, wrong⟩ = ⟨⟨xa.toNat, l, rd, outn, 0, cells⟩, kept, out, wrong⟩ from by simp [doIn, hn0]]
      refine yF rfl rfl (zS (zS (zR (yE ?_)))); (iterate 3 (refine yS ?_; refine zN (zT (yF rfl rfl (zS (zR (yE ?_))))))); refine yS ?_; refine zN (zT (yF rfl rfl (zR (yE ?_)))); refine yS ?_; refine zN (zT (yF rfl rfl (zS (zR (yE ?_))))); refine yS ?_; refine zN (zT (yF rfl rfl (zS (zR (yE ?_)))))
      refine yS ?_; refine zN (zT (yT rfl rfl (zS (zR (yA ?_))))); refine yC (pop_m σ g mb sb db pb (.slice (some ⟨gc, oc', none⟩) code.length cc) (.slice pi inp.length ci) left torn d s M1 hw) ?_; refine yE ?_; refine zN (zT (XA.condT rfl (decide_eq_true hn0) ?_))
      refine XA.draw (by kernel_rfl) _ _ [6] [(0, .pu), (1, .pu), (2, .pu), (3, .rd), (4, .pu), (5, .rd), (6, .wr)] (by kernel_rfl) (PH.sub.refl _) (Ent.sel (R := blk g _ _) zL (Ent.sel (R := blk g3 _ _) zL (Ent.nil _))) ?_
      refine zu rfl rfl Rd.mv ?_; refine zu rfl rfl (Rd.nilCheck rfl) ?_; refine zu rfl rfl (Rd.fA rfl) ?_; refine XPA.rd rfl rfl Gd.free (Rd.ldC rfl (tyrow rfl) rfl) ?_; refine zu rfl rfl (Rd.fA rfl) ?_; refine XPA.rd rfl rfl Gd.free (Rd.ldC rfl (tyrow rfl) rfl) ?_
      refine XPA.wrZ0 rfl rfl Gd.free (by kernel_rfl) (WrA.cE (put_w σ mb sb db d s M1.popM 0 xa) rfl) ?_
      rintro _ _ _ ⟨_, ⟨rfl, rfl, rfl⟩, rfl⟩
      refine XPA.cl ?_; refine XPA.nil ?_; refine DA.inb_normal (zT (zS (zR (yS ?_)))); refine zN (zT (XA.ret ?_))
      exact bodyA.ret (ResA.one rfl rfl) zE ⟨rfl, rfl, rfl⟩
    rw [if_neg hn0, show doIn inp false ⟨13, xa, xb, xn⟩ ⟨⟨next + 1, n :: l, rd, outn, 0, cells⟩, kept, out, wrong⟩ = ⟨⟨next + 1, l, rd, outn, 0, cells⟩, kept, out, wrong⟩ from by simp [doIn, hn0]]
    refine yF rfl rfl (zS (zS (zR (yE ?_)))); (iterate 3 (refine yS ?_; refine zN (zT (yF rfl rfl (zS (zR (yE ?_))))))); refine yS ?_; refine zN (zT (yF rfl rfl (zR (yE ?_)))); refine yS ?_; refine zN (zT (yF rfl rfl (zS (zR (yE ?_))))); refine yS ?_; refine zN (zT (yF rfl rfl (zS (zR (yE ?_)))))
    refine yS ?_; refine zN (zT (yT rfl rfl (zS (zR (yA ?_))))); refine yC (pop_m σ g mb sb db pb (.slice (some ⟨gc, oc', none⟩) code.length cc) (.slice pi inp.length ci) left torn d s M1 hw) ?_; refine yE ?_
    refine zN (zT (XA.condF rfl (decide_eq_false hn0) (XA.skip (DA.inb_normal (zT (zS (zR (yS ?_)))))))); refine zN (zT (XA.ret ?_))
    exact bodyA.ret (ResA.one rfl rfl) zE ⟨rfl, rfl, rfl⟩
  by_cases h14 : xop = 14
  · subst h14
    clear hx
    rw [show M1.doM inp ⟨14, xa, xb, xn⟩ = M1.put 0 xa from rfl]
    rw [show doIn inp false ⟨14, xa, xb, xn⟩ ⟨⟨next + 1, stack, rd, outn, 0, cells⟩, kept, out, wrong⟩ = ⟨⟨xa.toNat, stack, rd, outn, 0, cells⟩, kept, out, wrong⟩ from rfl]
    refine yF rfl rfl (zS (zS (zR (yE ?_)))); (iterate 3 (refine yS ?_; refine zN (zT (yF rfl rfl (zS (zR (yE ?_))))))); refine yS ?_; refine zN (zT (yF rfl rfl (zR (yE ?_)))); (iterate 3 (refine yS ?_; refine zN (zT (yF rfl rfl (zS (zR (yE ?_))))))); refine yS ?_; refine zN (zT (yT rfl rfl ?_))
    refine XA.draw (by kernel_rfl) _ _ [6] [(0, .pu), (1, .pu), (2, .pu), (3, .rd), (4, .pu), (5, .rd), (6, .wr)] (by kernel_rfl) (PH.sub.refl _) (Ent.sel (R := blk g _ _) zL (Ent.sel (R := blk g3 _ _) zL (Ent.nil _))) ?_
    refine zu rfl rfl Rd.mv ?_; refine zu rfl rfl (Rd.nilCheck rfl) ?_; refine zu rfl rfl (Rd.fA rfl) ?_; refine XPA.rd rfl rfl Gd.free (Rd.ldC rfl (tyrow rfl) rfl) ?_; refine zu rfl rfl (Rd.fA rfl) ?_; refine XPA.rd rfl rfl Gd.free (Rd.ldC rfl (tyrow rfl) rfl) ?_
    refine XPA.wrZ0 rfl rfl Gd.free (by kernel_rfl) (WrA.cE (put_w σ mb sb db d s M1 0 xa) rfl) ?_
    rintro _ _ _ ⟨_, ⟨rfl, rfl, rfl⟩, rfl⟩
    refine XPA.cl ?_; refine XPA.nil ?_; refine DA.inb_normal (zT (zS (zR (yS ?_)))); refine zN (zT (XA.ret ?_))
    exact bodyA.ret (ResA.one rfl rfl) zE ⟨rfl, rfl, rfl⟩
  by_cases h16 : xop = 16
  · subst h16
    clear hx
    rw [show M1.doM inp ⟨16, xa, xb, xn⟩ = M1.put 4 1 from rfl]
    rw [show doIn inp false ⟨16, xa, xb, xn⟩ ⟨⟨next + 1, stack, rd, outn, 0, cells⟩, kept, out, wrong⟩ = ⟨⟨next + 1, stack, rd, outn, 1, cells⟩, kept, out, wrong⟩ from rfl]
    refine yF rfl rfl (zS (zS (zR (yE ?_)))); (iterate 3 (refine yS ?_; refine zN (zT (yF rfl rfl (zS (zR (yE ?_))))))); refine yS ?_; refine zN (zT (yF rfl rfl (zR (yE ?_)))); (iterate 5 (refine yS ?_; refine zN (zT (yF rfl rfl (zS (zR (yE ?_))))))); refine yS ?_
    refine zN (zT (yT rfl rfl (zR (yA ?_)))); refine yC (stop_m σ g mb sb db pb (.slice (some ⟨gc, oc', none⟩) code.length cc) (.slice pi inp.length ci) left torn d s M1 1) ?_; refine zN (DA.inb_normal (zT (zS (zR (yS ?_))))); refine zN (zT (XA.ret ?_))
    exact bodyA.ret (ResA.one rfl rfl) zE ⟨rfl, rfl, rfl⟩
  by_cases h2 : xop = 2
  · subst h2
    clear hx
    obtain ⟨ha0, ha1⟩ := hcell (.inl rfl)
    rw [show M1.doM inp ⟨2, xa, xb, xn⟩ = M1.pushM (M1.ld (5 + xa)) from rfl]
    rw [show doIn inp false ⟨2, xa, xb, xn⟩ ⟨⟨next + 1, stack, rd, outn, 0, cells⟩, kept, out, wrong⟩ = ⟨⟨next + 1, cells.getD xa.toNat 0 :: stack, rd, outn, 0, cells⟩, kept, out, wrong⟩ from rfl]
    refine yF rfl rfl (zS (zS (zR (yE ?_)))); (iterate 3 (refine yS ?_; refine zN (zT (yF rfl rfl (zS (zR (yE ?_))))))); refine yS ?_; refine zN (zT (yF rfl rfl (zR (yE ?_)))); (iterate 5 (refine yS ?_; refine zN (zT (yF rfl rfl (zS (zR (yE ?_))))))); refine yS ?_
    refine zN (zT (yF rfl rfl (zR (yA ?_)))); refine zO rfl (Rd.ldA rfl) ?_
    refine yC (cells2_m σ g mb sb db pb (.slice (some ⟨gc, oc', none⟩) code.length cc) (.slice pi inp.length ci) left torn d s M1 xa xb xn ⟨ha0, by omega⟩ hw hs) ?_; refine zN (DA.inb_normal (zT (zS (zR (yS ?_))))); refine zN (zT (XA.ret ?_))
    exact bodyA.ret (ResA.one rfl rfl) zE ⟨rfl, rfl, rfl⟩
  by_cases h3 : xop = 3
  · subst h3
    clear hx
    obtain ⟨n, l, rfl⟩ : ∃ n s, stack = n :: s := by
      cases stack with
      | nil => simp [popA] at hpop
      | cons n s => exact ⟨n, s, rfl⟩
    obtain ⟨hb0, hb1, hb2⟩ := hcell2 (by decide)
    rw [show M1.doM inp ⟨3, xa, xb, xn⟩ = (if M1.topM < 0 ∨ xb ≤ M1.topM then M1.popM.put 4 13 else M1.popM.pushM (M1.popM.ld (5 + xa + M1.topM))) from rfl, hw.topM]
    obtain ⟨eo, ew⟩ : (doIn inp false ⟨3, xa, xb, xn⟩ ⟨⟨next + 1, n :: l, rd, outn, 0, cells⟩, kept, out, wrong⟩).out = out ∧ (doIn inp false ⟨3, xa, xb, xn⟩ ⟨⟨next + 1, n :: l, rd, outn, 0, cells⟩, kept, out, wrong⟩).wrong = wrong := by
      by_cases hoe : n < 0 ∨ xb ≤ n <;> simp [doIn, hoe]
    rw [eo, ew]
    refine yF rfl rfl (zS (zS (zR (yE ?_)))); (iterate 3 (refine yS ?_; refine zN (zT (yF rfl rfl (zS (zR (yE ?_))))))); refine yS ?_; refine zN (zT (yF rfl rfl (zR (yE ?_)))); (iterate 5 (refine yS ?_; refine zN (zT (yF rfl rfl (zS (zR (yE ?_))))))); refine yS ?_
    refine zN (zT (yF rfl rfl (zR (yA ?_)))); refine zO rfl (Rd.ldA rfl) ?_
    refine yC (cells3_m σ g mb sb db pb (.slice (some ⟨gc, oc', none⟩) code.length cc) (.slice pi inp.length ci) left torn d s M1 xa xb xn n l ⟨hb0, hb1, by omega⟩ hw) ?_; refine zN (DA.inb_normal (zT (zS (zR (yS ?_))))); refine zN (zT (XA.ret ?_))
    exact bodyA.ret (ResA.one rfl rfl) zE ⟨rfl, rfl, rfl⟩
  by_cases h9 : xop = 9
  · subst h9
    clear hx
    obtain ⟨n, l, rfl⟩ : ∃ n s, stack = n :: s := by
      cases stack with
      | nil => simp [popA] at hpop
      | cons n s => exact ⟨n, s, rfl⟩
    obtain ⟨ha0, ha1⟩ := hcell (by decide)
    rw [show M1.doM inp ⟨9, xa, xb, xn⟩ = M1.popM.put (5 + xa) M1.topM from rfl, hw.topM]
    rw [show doIn inp false ⟨9, xa, xb, xn⟩ ⟨⟨next + 1, n :: l, rd, outn, 0, cells⟩, kept, out, wrong⟩ = ⟨⟨next + 1, l, rd, outn, 0, cells.set xa.toNat n⟩, kept, out, wrong⟩ from rfl]
    refine yF rfl rfl (zS (zS (zR (yE ?_)))); (iterate 3 (refine yS ?_; refine zN (zT (yF rfl rfl (zS (zR (yE ?_))))))); refine yS ?_; refine zN (zT (yF rfl rfl (zR (yE ?_)))); (iterate 5 (refine yS ?_; refine zN (zT (yF rfl rfl (zS (zR (yE ?_))))))); refine yS ?_
    refine zN (zT (yF rfl rfl (zR (yA ?_)))); refine zO rfl (Rd.ldA rfl) ?_
    refine yC (cells9_m σ g mb sb db pb (.slice (some ⟨gc, oc', none⟩) code.length cc) (.slice pi inp.length ci) left torn d s M1 xa xb xn n l ⟨ha0, by omega⟩ hw) ?_; refine zN (DA.inb_normal (zT (zS (zR (yS ?_))))); refine zN (zT (XA.ret ?_))
    exact bodyA.ret (ResA.one rfl rfl) zE ⟨rfl, rfl, rfl⟩
  by_cases h10 : xop = 10
  · subst h10
    clear hx
    obtain ⟨y, z, l, rfl⟩ : ∃ y z s, stack = y :: z :: s := by
      cases stack with
      | nil => simp [popA] at hpop
      | cons y s => cases s with
        | nil => simp [popA] at hpop
        | cons z s => exact ⟨y, z, s, rfl⟩
    obtain ⟨hb0, hb1, hb2⟩ := hcell2 (by decide)
    rw [show M1.doM inp ⟨10, xa, xb, xn⟩ = (if M1.popM.topM < 0 ∨ xb ≤ M1.popM.topM then M1.popM.popM.put 4 13 else M1.popM.popM.put (5 + xa + M1.popM.topM) M1.topM) from rfl, hw.topM, hw.popM.topM]
    obtain ⟨eo, ew⟩ : (doIn inp false ⟨10, xa, xb, xn⟩ ⟨⟨next + 1, y :: z :: l, rd, outn, 0, cells⟩, kept, out, wrong⟩).out = out ∧ (doIn inp false ⟨10, xa, xb, xn⟩ ⟨⟨next + 1, y :: z :: l, rd, outn, 0, cells⟩, kept, out, wrong⟩).wrong = wrong := by
      by_cases hoe : z < 0 ∨ xb ≤ z <;> simp [doIn, hoe]
    rw [eo, ew]
    refine yF rfl rfl (zS (zS (zR (yE ?_)))); (iterate 3 (refine yS ?_; refine zN (zT (yF rfl rfl (zS (zR (yE ?_))))))); refine yS ?_; refine zN (zT (yF rfl rfl (zR (yE ?_)))); (iterate 5 (refine yS ?_; refine zN (zT (yF rfl rfl (zS (zR (yE ?_))))))); refine yS ?_
    refine zN (zT (yF rfl rfl (zR (yA ?_)))); refine zO rfl (Rd.ldA rfl) ?_
    refine yC (cells10_m σ g mb sb db pb (.slice (some ⟨gc, oc', none⟩) code.length cc) (.slice pi inp.length ci) left torn d s M1 xa xb xn y z l ⟨hb0, hb1, by omega⟩ hw) ?_; refine zN (DA.inb_normal (zT (zS (zR (yS ?_))))); refine zN (zT (XA.ret ?_))
    exact bodyA.ret (ResA.one rfl rfl) zE ⟨rfl, rfl, rfl⟩
  by_cases h12 : xop = 12
  · subst h12
    clear hx
    obtain ⟨ha0, ha1⟩ := hcell (by decide)
    rw [show M1.doM inp ⟨12, xa, xb, xn⟩ = (if (inp.length : Int) ≤ M1.ld 2 then M1.put 4 14 else (M1.put 2 (M1.ld 2 + 1)).put (5 + xa) (inp.getD (M1.ld 2).toNat 0)) from rfl]
    obtain ⟨eo, ew⟩ : (doIn inp false ⟨12, xa, xb, xn⟩ ⟨⟨next + 1, stack, rd, outn, 0, cells⟩, kept, out, wrong⟩).out = out ∧ (doIn inp false ⟨12, xa, xb, xn⟩ ⟨⟨next + 1, stack, rd, outn, 0, cells⟩, kept, out, wrong⟩).wrong = wrong := by
      by_cases hoe : inp.length ≤ rd <;> simp [doIn, hoe]
    rw [eo, ew]
    refine yF rfl rfl (zS (zS (zR (yE ?_)))); (iterate 3 (refine yS ?_; refine zN (zT (yF rfl rfl (zS (zR (yE ?_))))))); refine yS ?_; refine zN (zT (yF rfl rfl (zR (yE ?_)))); (iterate 5 (refine yS ?_; refine zN (zT (yF rfl rfl (zS (zR (yE ?_))))))); refine yS ?_
    refine zN (zT (yF rfl rfl (zR (yA ?_)))); refine zO rfl (Rd.ldA rfl) ?_
    refine yC (cells12_m σ g mb sb db pb (.slice (some ⟨gc, oc', none⟩) code.length cc) left torn d s M1 pi ci inp xa xb xn ⟨ha0, by omega⟩ hi hil hw) ?_; refine zN (DA.inb_normal (zT (zS (zR (yS ?_))))); refine zN (zT (XA.ret ?_))
    exact bodyA.ret (ResA.one rfl rfl) zE ⟨rfl, rfl, rfl⟩
  have h48n : ¬ (4 ≤ xop ∧ xop ≤ 8) := by omega
  rw [show M1.doM inp ⟨xop, xa, xb, xn⟩ = M1 from by
    simp only [Me.doM]
    rw [if_neg h1, if_neg h2, if_neg h3, if_neg h48n, if_neg h9, if_neg h10, if_neg h11, if_neg h12, if_neg h13, if_neg h14, if_neg h15, if_neg h16]]
  rw [show doIn inp false ⟨xop, xa, xb, xn⟩ ⟨⟨next + 1, stack, rd, outn, 0, cells⟩, kept, out, wrong⟩ = ⟨⟨next + 1, stack, rd, outn, 0, cells⟩, kept, out, wrong⟩ from by
    simp only [doIn]
    rw [if_neg h1, if_neg h2, if_neg h3, if_neg h48n, if_neg h9, if_neg h10, if_neg h11, if_neg h12, if_neg h13, if_neg h14, if_neg h15, if_neg h16]]
  clear hx
  refine XA.condF rfl (decide_eq_false h1) (zS (zS (zR (yE ?_)))); refine yS ?_; refine zN (zT (XA.condF rfl (decide_eq_false h4) (zS (zR (yE ?_))))); refine yS ?_; refine zN (zT (XA.condF rfl (decide_eq_false h5) (zS (zR (yE ?_))))); refine yS ?_
  refine zN (zT (XA.condF rfl (decide_eq_false h6) (zS (zR (yE ?_))))); refine yS ?_; refine zN (zT (XA.condF rfl (decide_eq_false h7) (zR (yE ?_)))); refine yS ?_; refine zN (zT (XA.condF rfl (decide_eq_false h8) (zS (zR (yE ?_))))); refine yS ?_
  refine zN (zT (XA.condF rfl (decide_eq_false h11) (zS (zR (yE ?_))))); refine yS ?_; refine zN (zT (XA.condF rfl (decide_eq_false h13) (zS (zR (yE ?_))))); refine yS ?_; refine zN (zT (XA.condF rfl (decide_eq_false h14) (zS (zR (yE ?_))))); refine yS ?_
  refine zN (zT (XA.condF rfl (decide_eq_false h15) (zS (zR (yE ?_))))); refine yS ?_; refine zN (zT (XA.condF rfl (decide_eq_false h16) (zR (yA ?_)))); refine zO rfl (Rd.ldA rfl) ?_
  refine yC (cellsN_m σ g mb sb db pb (.slice (some ⟨gc, oc', none⟩) code.length cc) (.slice pi inp.length ci) left torn d s M1 xop xa xb xn h2 h3 h9 h10 h12) ?_; refine zN (DA.inb_normal (zT (zS (zR (yS ?_))))); refine zN (zT (XA.ret ?_))
  exact bodyA.ret (ResA.one rfl rfl) zE ⟨rfl, rfl, rfl⟩
theorem stepC_m (hc : PSl 4 rIn σ (.slice pc code.length cc) code) (hg : s.gen < 4611686018427387904) (hS : Shows M.C b.m) (hk : StepOk code inp b x) (h15 : x.op = 15) :
    CallsA Tryz.prog 59 #[ptr g] σ [blk g [ptr mb, .slice pc code.length cc, .slice pi inp.length ci, ptr pb, i64 0, .bool torn] 129, Wld mb sb db d s M] (RetA fun v σ' Γ' => ∃ (d' : DiskS) (s' : StS), v = .bool true ∧ s'.gen = s.gen + 1 ∧ pagesC d' s' = (M.stepM code inp).C ∧ Good d' s' ∧ σ.sub σ' ∧ Γ' = [blk g [ptr mb, .slice pc code.length cc, .slice pi inp.length ci, ptr pb, i64 0, .bool false] 129, Wld mb sb db d' s' (M.stepM code inp)]) := by
  obtain ⟨⟨next, stack, rd, outn, st, cells⟩, kept, out, wrong⟩ := b
  obtain ⟨hst, hx, -, -, -, -, -, hcd, -, -, -⟩ := hk
  simp only at hst hx hcd hS
  subst hst
  obtain ⟨xop, xa, xb, xn⟩ := x
  simp only at h15
  subst h15
  have hlt := (List.getElem?_eq_some_iff.1 hx).1
  obtain ⟨gc, oc', row, rfl, hrx, hrl, hrow⟩ := hc.at hx
  obtain rfl : row = [i64 15, i64 xa, i64 xb, i64 xn] := hrx
  have e0 : M.ld 0 = next := hS.nx
  have hM : M.stepM code inp = ⟨(M.put 0 ((next : Int) + 1)).C, noB⟩ := by rw [Me.stepM, e0, Int.toNat_natCast, hx]; rfl
  have hld := load_w σ mb sb db d s M 4
  rw [show M.ld 4 = 0 from hS.st] at hld
  have hadd := add_m σ g mb sb db pb (.slice (some ⟨gc, oc', none⟩) code.length cc) (.slice pi inp.length ci) 0 torn d s M 0 1
  rw [e0, X.wrap64_in (by omega) (by omega)] at hadd
  rw [hM]
  clear hM hS e0 hc hx
  generalize M.put 0 (((next : Nat) : Int) + 1) = M1 at hadd ⊢
  refine enterA1 Tryz.func59 rfl rfl rfl ?_; refine zS (zR (yS ?_)); refine zN (zT (zS (zS (zR (yA ?_))))); refine zO rfl (Rd.nilCheck rfl) ?_; refine yV ?_; refine yB ?_; refine yC (hld) ?_; refine zO rfl (Rd.neq rfl rfl) ?_; refine zN (zT (yF rfl rfl (XA.skip (zT (zS ?_)))))
  refine XA.join [(3, 3), (11, 18)] (fun y : Nat => [(3, ptr y)]) (fun y σ' Γ' => σ = σ' ∧ Γ' = [blk y [i64 15, i64 xa, i64 xb, i64 xn] 103, blk g [ptr mb, .slice (some ⟨gc, oc', none⟩) code.length cc, .slice pi inp.length ci, ptr pb, i64 0, .bool torn] 129, Wld mb sb db d s M1]) ?_ ?_
  · skip
    refine XA.drawQ (by kernel_rfl) _ _ [9] 10 #[false, false, false, false, false, false, false, false, false, false] rfl rfl (by kernel_rfl) (PH.sub.refl _) (Ent.sel (R := blk g _ _) zL (Ent.nil _)) ?_
    refine qp 0 #[tT,fF,fF,fF,fF,fF,fF,fF,fF,fF] rfl Rd.mv ?_; refine qp 1 #[tT,tT,fF,fF,fF,fF,fF,fF,fF,fF] rfl (Rd.nilCheck rfl) ?_; refine qp 2 #[tT,tT,tT,fF,fF,fF,fF,fF,fF,fF] rfl (Rd.fA rfl) ?_; refine qr 3 #[tT,tT,tT,tT,fF,fF,fF,fF,fF,fF] rfl (Rd.ldC rfl (tyrow rfl) rfl) ?_
    refine qp 4 #[tT,tT,tT,tT,tT,fF,fF,fF,fF,fF] rfl Rd.mv ?_
    refine XQA.w2 (i := 5) (j := 8) (by kernel_rfl) ?_ ?_
    · refine qw #[tT,tT,tT,tT,tT,tT,fF,fF,fF,fF] rfl (WrA.cE hadd rfl) ?_
      rintro _ _ _ ⟨_, ⟨rfl, rfl, rfl⟩, rfl⟩
      refine ⟨⟨zX, zE⟩, XQA.re zC ?_⟩
      refine qp 6 #[tT,tT,tT,tT,tT,tT,tT,fF,fF,fF] rfl (Rd.ixS rfl rfl) ?_; refine qr 7 #[tT,tT,tT,tT,tT,tT,tT,tT,fF,fF] rfl (Rd.ldA rfl) ?_; refine qa 8 ?_; refine qw #[tT,tT,tT,tT,tT,tT,tT,tT,tT,fF] rfl (WrA.alloc (tyrow rfl)) ?_
      rintro _ _ _ ⟨g3, rfl, rfl, rfl⟩
      refine ⟨⟨zX, zE⟩, XQA.re zC ?_⟩
      refine qa 9 ?_
      refine XQA1.wrZ0 (listed' := #[tT,tT,tT,tT,tT,tT,tT,tT,tT,tT]) rfl rfl Gd.free (by kernel_rfl) rfl (by kernel_rfl) (WrA.st (tyrow rfl) rfl) ?_
      rintro _ _ _ ⟨rfl, rfl, rfl⟩
      refine XQA.re zC ?_; refine XQA.nil rfl ?_
      refine DA.thn_normal ⟨zK, g3, _, zM, ?_, rfl, rfl⟩; exact zE
    · refine qw #[tT,tT,tT,tT,tT,fF,fF,fF,tT,fF] rfl (WrA.alloc (tyrow rfl)) ?_
      rintro _ _ _ ⟨g3, rfl, rfl, rfl⟩
      refine ⟨⟨zX, zE⟩, XQA.re zC ?_⟩
      refine qa 5 ?_; refine qw #[tT,tT,tT,tT,tT,tT,fF,fF,tT,fF] rfl (WrA.cE hadd rfl) ?_
      rintro _ _ _ ⟨_, ⟨rfl, rfl, rfl⟩, rfl⟩
      refine ⟨⟨zX, zE⟩, XQA.re zC ?_⟩
      refine qp 6 #[tT,tT,tT,tT,tT,tT,tT,fF,tT,fF] rfl (Rd.ixS rfl rfl) ?_; refine qr 7 #[tT,tT,tT,tT,tT,tT,tT,tT,tT,fF] rfl (Rd.ldA rfl) ?_; refine qa 9 ?_
      refine XQA1.wrZ0 (listed' := #[tT,tT,tT,tT,tT,tT,tT,tT,tT,tT]) rfl rfl Gd.free (by kernel_rfl) rfl (by kernel_rfl) (WrA.st (tyrow rfl) rfl) ?_
      rintro _ _ _ ⟨rfl, rfl, rfl⟩
      refine XQA.re zC ?_; refine XQA.nil rfl ?_
      refine DA.thn_normal ⟨zK, g3, _, zM, ?_, rfl, rfl⟩; exact zE
  rintro g3 δ _ _ ⟨rfl, rfl⟩
  dsimp only [ovr, List.foldl]
  refine zT (zS (zS (zR (yV ?_)))); refine yB ?_; refine zN (zT (XA.block (zS (zR (yE ?_))))); refine yS ?_; refine zN (zT (yF rfl rfl (zS (zS (zR (yE ?_)))))); (iterate 3 (refine yS ?_; refine zN (zT (yF rfl rfl (zS (zR (yE ?_))))))); refine yS ?_; refine zN (zT (yF rfl rfl (zR (yE ?_))))
  (iterate 4 (refine yS ?_; refine zN (zT (yF rfl rfl (zS (zR (yE ?_))))))); refine yS ?_; refine zN (zT (yT rfl rfl (zR (yA ?_)))); refine zw rfl (WrA.cE (commit_m σ g mb sb db pb _ _ torn d s M1 hg) rfl) ?_
  rintro _ σ1 _ ⟨_, ⟨d', s', rfl, q1, q2, q3, q4, rfl⟩, rfl⟩
  refine XOA.cl ?_; refine zN (DA.inb_normal (zT (zS (zR (yS ?_))))); refine zN (zT (XA.ret ?_))
  exact bodyA.ret (ResA.one rfl rfl) zE ⟨d', s', rfl, q1, q2, q3, q4, rfl⟩
end
end Go.Proofs.YtmnmcjdgnpgchaaGreat

namespace Go.Proofs.YtmnmcjdgnpgchaaGreat
open Go X
section
variable {C : List In} {inp : List Int}
end
end Go.Proofs.YtmnmcjdgnpgchaaGreat

namespace Go.Proofs.YtmnmcjdgnpgchaaGreat
open Go X
set_option maxHeartbeats 1000000
section
variable {C : List In} {inp : List Int}
end
def be0 (n : Nat) : Be := ⟨⟨0, [], 0, 0, 0, List.replicate n 0⟩, ⟨0, [], 0, 0, 0, List.replicate n 0⟩, [], false⟩
end Go.Proofs.YtmnmcjdgnpgchaaGreat

