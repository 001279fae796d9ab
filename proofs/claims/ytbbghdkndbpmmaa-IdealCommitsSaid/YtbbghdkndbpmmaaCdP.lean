/- A program in memory of its own; a program's variables; Check, Cell and Cells. -/
import Derived.Test.YtbbghdkndbpmmaaCdO
namespace Go.Proofs.Ytbbghdkndbpmmaa
open Go X
set_option maxHeartbeats 1000000
theorem stOwn_x (x : St) : OwnListOK x.body ∧ OwnListOK x.els := by
  refine St.ind (P := fun x => OwnListOK x.body ∧ OwnListOK x.els) ?_ x
  intro op v e f body els ih jh
  exact ⟨ownList_l body ih, ownList_l els jh⟩
theorem ownList_a (l : List St) : OwnListOK l := ownList_l l (fun x _ => stOwn_x x)
theorem ones_flat {rows : List (List Value)} (h : ∀ row ∈ rows, ones row) : ones rows.flatten := fun v hv => by
  simp only [List.mem_flatten] at hv
  obtain ⟨r, h1, h2⟩ := hv
  exact h r h1 v h2
theorem psl_rows {α : Type} {s n c : Nat} {R : RT α} {σ : PH} {p : Option Addr} {xs : List α} (h : PSl s R σ (.slice p n c) xs) : ∃ rows, Rows_ s R σ rows xs ∧ n = xs.length ∧ xs.length ≤ c ∧ c ≤ maxLen ∧ (0 < xs.length → ∃ g o, p = some ⟨g, o, none⟩ ∧ PRow σ g o rows.flatten) := by
  obtain ⟨p', c', rows, h1, h2, h3, h4, h5, h6, h7⟩ := h
  simp only [Value.slice.injEq] at h1
  obtain ⟨rfl, rfl, rfl⟩ := h1
  exact ⟨rows, ⟨h4, h5, h6⟩, rfl, h2, h3, h7⟩
theorem X.Rows_.flat_len {α : Type} {s : Nat} {R : RT α} {σ : PH} {rows : List (List Value)} {xs : List α} (h : Rows_ s R σ rows xs) : rows.flatten.length = xs.length * s := by rw [flatten_len h.size, h.len]
theorem X.Rows_.mem {α : Type} {s : Nat} {R : RT α} {σ : PH} {rows : List (List Value)} {xs : List α} (h : Rows_ s R σ rows xs) {row : List Value} (hm : row ∈ rows) : ∃ x ∈ xs, R σ row x := by
  obtain ⟨i, hi, rfl⟩ := List.mem_iff_getElem.1 hm
  have hx : i < xs.length := by rw [← h.len]; exact hi
  exact ⟨xs[i], List.getElem_mem _, h.row i _ _ (List.getElem?_eq_getElem hi) (List.getElem?_eq_getElem hx)⟩
theorem own_a (σ : PH) (cs : List Value) (p : Pr) (hp : PrAt σ cs p) (hsm : Small p) :
    CallsA Try.prog 15 #[.agg cs.toArray] σ [] (RetA fun v σ' Γ' => ∃ (vs : Value) (pb : Option Addr) (cb : Nat) (rows : List (List Value)), v = .agg [vs, .slice pb p.body.length cb].toArray ∧ PSl 2 rVa σ' vs p.vars ∧ Rows_ 12 StAt σ' rows p.body ∧ σ.sub σ' ∧ Γ' = [lst 46 12 (.slice pb p.body.length cb) p.body.length rows.flatten]) := by
  obtain ⟨vs, bs, rfl, hv, hb⟩ := hp
  obtain ⟨pv, cv, rfl, hvl, hvm⟩ := hv.shape
  obtain ⟨rows, hrows, -, -, -, hrow⟩ := psl_rows hv
  have h30 := hsm.1
  have h900 := hsm.2.2
  have hfl := hrows.flat_len
  have hones : ones rows.flatten := ones_flat fun row hm => by
    obtain ⟨x, -, rfl, -⟩ := hrows.mem hm
    exact ones_lit rfl
  by_cases h0 : p.vars.length = 0
  · have hnil : p.vars = [] := List.eq_nil_of_length_eq_zero h0
    rw [hnil]
    simp only [List.length_nil]
    refine enterA1 Try.func15 rfl rfl rfl ?_
    refine zS ?_; refine zR ?_
    refine XOA.wr0 rfl WrA.bx ?_
    rintro _ _ _ ⟨g1, rfl, rfl, rfl⟩
    refine XOA.wr0 rfl (WrA.alloc (tyrow rfl)) ?_
    rintro _ _ _ ⟨g2, rfl, rfl, rfl⟩
    refine zN ?_; refine zT ?_; refine zS ?_; refine zR ?_; refine zO rfl Rd.asg ?_; refine zN ?_; refine zT ?_; refine zS ?_
    refine XA.draw (by kernel_rfl) _ _ [6, 8] [(0, .pu), (1, .pu), (2, .rd), (4, .pu), (5, .rd), (3, .wr), (6, .wr), (7, .pu), (8, .wr)] (by kernel_rfl) (PH.sub.refl _) (Ent.sel (R := blk g1 _ _) (by ((repeat (first | with_reducible exact Sel.head | apply Sel.tail)); (first | done | fail))) (Ent.nil _)) ?_
    refine XPA.pu rfl rfl Gd.free Rd.mv ?_
    refine XPA.pu rfl rfl Gd.free (Rd.fA rfl) ?_
    refine XPA.rd rfl rfl Gd.free (Rd.ldC rfl (tyrow rfl) rfl) ?_
    refine XPA.pu rfl rfl Gd.free (Rd.fA rfl) ?_
    refine XPA.rd rfl rfl Gd.free (Rd.ldC rfl (tyrow rfl) rfl) ?_
    refine XPA.wr0 rfl rfl Gd.free (Rd.toW (Rd.appendNone (tyrow rfl) rfl (tyrow rfl) rfl rfl (Nat.le_refl _))) ?_
    rintro _ _ _ ⟨rfl, rfl, rfl⟩
    refine stays ?_
    refine XPA.wrZ0 rfl rfl Gd.free (by kernel_rfl) (WrA.cE (ownList_a p.body σ bs hb (by omega)) rfl) ?_
    rintro _ σ2 _ ⟨_, ⟨pb, cb, rows2, rfl, hr2, hs2, rfl⟩, rfl⟩
    refine XPA.cl ?_
    refine XPA.pu rfl rfl Gd.free (Rd.bl (fun _ _ => tyrow) rfl rfl rfl) ?_
    refine XPA.wrZ0 rfl rfl Gd.free (by kernel_rfl) (WrA.st (tyrow rfl) rfl) ?_
    rintro _ _ _ ⟨rfl, rfl, rfl⟩
    refine XPA.nil ?_
    refine zT ?_
    refine XA.ret ?_
    exact bodyA.ret (ResA.cell rfl rfl (Ld.atBlk (tyrow rfl) rfl (by ((repeat (first | with_reducible exact Sel.head | apply Sel.tail)); (first | done | fail))) rfl (by first | exact take0 (by first | rfl | assumption | (refine (ints_len _).trans ?_; assumption) | (simp [*]; (first | done | fail))) | assumption | exact take_app (by first | rfl | assumption | (refine (ints_len _).trans ?_; assumption) | (simp [*]; (first | done | fail))) | (conv => lhs; simp only [List.drop_succ_cons, List.drop_zero, List.take_succ_cons, List.take_zero])) (by first | rfl | assumption | (refine (ints_len _).trans ?_; assumption) | (simp [*]; (first | done | fail))))) zE ⟨_, pb, cb, rows2, rfl, PSl.nil _ _ _, hr2, hs2, rfl⟩
  · obtain ⟨g, o, rfl, hr⟩ := hrow (by omega)
    refine enterA1 Try.func15 rfl rfl rfl ?_
    refine zS ?_; refine zR ?_
    refine XOA.wr0 rfl WrA.bx ?_
    rintro _ _ _ ⟨g1, rfl, rfl, rfl⟩
    refine XOA.wr0 rfl (WrA.alloc (tyrow rfl)) ?_
    rintro _ _ _ ⟨g2, rfl, rfl, rfl⟩
    refine zN ?_; refine zT ?_; refine zS ?_; refine zR ?_; refine zO rfl Rd.asg ?_; refine zN ?_; refine zT ?_; refine zS ?_
    refine XA.draw (by kernel_rfl) _ _ [6, 8] [(0, .pu), (1, .pu), (2, .rd), (4, .pu), (5, .rd), (3, .wr), (6, .wr), (7, .pu), (8, .wr)] (by kernel_rfl) (PH.sub.refl _) (Ent.sel (R := blk g1 _ _) (by ((repeat (first | with_reducible exact Sel.head | apply Sel.tail)); (first | done | fail))) (Ent.nil _)) ?_
    refine XPA.pu rfl rfl Gd.free Rd.mv ?_
    refine XPA.pu rfl rfl Gd.free (Rd.fA rfl) ?_
    refine XPA.rd rfl rfl Gd.free (Rd.ldC rfl (tyrow rfl) rfl) ?_
    refine XPA.pu rfl rfl Gd.free (Rd.fA rfl) ?_
    refine XPA.rd rfl rfl Gd.free (Rd.ldC rfl (tyrow rfl) rfl) ?_
    refine XPA.wr0 rfl rfl Gd.free (WrA.appendNew (tyrow rfl) rfl (tyrow rfl) rfl rfl rfl (At.per hr) hfl hones (by omega) (by simp only [maxLen]; omega) (by simp only []; omega)) ?_
    rintro _ _ _ ⟨p7, c7, rfl, rfl, rfl⟩
    refine stays ?_
    refine XPA.wrZ0 rfl rfl Gd.free (by kernel_rfl) (WrA.cE (ownList_a p.body σ bs hb (by omega)) rfl) ?_
    rintro _ σ2 _ ⟨_, ⟨pb, cb, rows2, rfl, hr2, hs2, rfl⟩, rfl⟩
    refine XPA.cl ?_
    refine XPA.pu rfl rfl Gd.free (Rd.bl (fun _ _ => tyrow) rfl rfl rfl) ?_
    refine XPA.wrZ0 rfl rfl Gd.free (by kernel_rfl) (WrA.st (tyrow rfl) rfl) ?_
    rintro _ _ _ ⟨rfl, rfl, rfl⟩
    refine XPA.nil ?_
    refine zT ?_
    refine XA.ret ?_
    refine DA.frz (R := lst 37 2 _ _ _) (by ((repeat (first | with_reducible exact Sel.head | apply Sel.tail)); (first | done | fail))) lst_frz lst_frz_mono ?_
    rintro σ3 ⟨⟩ hf hs3
    exact bodyA.ret (ResA.cell rfl rfl (Ld.atBlk (tyrow rfl) rfl (by ((repeat (first | with_reducible exact Sel.head | apply Sel.tail)); (first | done | fail))) rfl (by first | exact take0 (by first | rfl | assumption | (refine (ints_len _).trans ?_; assumption) | (simp [*]; (first | done | fail))) | assumption | exact take_app (by first | rfl | assumption | (refine (ints_len _).trans ?_; assumption) | (simp [*]; (first | done | fail))) | (conv => lhs; simp only [List.drop_succ_cons, List.drop_zero, List.take_succ_cons, List.take_zero])) (by first | rfl | assumption | (refine (ints_len _).trans ?_; assumption) | (simp [*]; (first | done | fail))))) zE ⟨_, pb, cb, rows2, rfl, (hrows.mono (σ' := σ3) (fun _ _ h => h)).psl rfl hf, hr2.mono (fun _ _ h => h.mono hs3), hs2.trans hs3, rfl⟩
/-! variables -/
theorem varEq_a (σ : PH) (g : Nat) (v w : Va) : CallsA Try.prog 62 #[vav w, ptr g] σ [blk g [.string v.name, i64 v.size] 37] (RetA fun r σ' Γ' => r = .bool (decide (w.name = v.name)) ∧ σ = σ' ∧ Γ' = [blk g [.string v.name, i64 v.size] 37]) := by
  unfold vav
  refine enterA2 Try.func62 rfl rfl rfl ?_
  refine zS ?_; refine zR ?_
  refine XOA.wr0 rfl WrA.bx ?_
  rintro _ _ _ ⟨g2, rfl, rfl, rfl⟩
  refine zO rfl Rd.asg ?_; refine zN ?_; refine zT ?_; refine zS ?_; refine zR ?_; refine zO rfl (Rd.fA rfl) ?_; refine zO rfl (Rd.ldC rfl (tyrow rfl) rfl) ?_; refine zO rfl (Rd.fA rfl) ?_; refine zO rfl (Rd.ldC rfl (tyrow rfl) rfl) ?_
  refine zO rfl (Rd.eqls rfl rfl) ?_
  refine zO rfl Rd.asg ?_; refine zN ?_; refine zT ?_
  refine XA.ret ?_
  exact bodyA.ret (ResA.one rfl rfl) zE ⟨rfl, rfl, rfl⟩
theorem indexVar_a (σ : PH) (g : Nat) (v : Va) (sl : Value) (l : List Va) (hl : PSl 2 rVa σ sl l) : CallsA Try.prog 79 #[sl, .func (.func 62) #[] #[ptr g]] σ [blk g [.string v.name, i64 v.size] 37] (RetA fun r σ' Γ' => ∃ k : Int, r = i64 k ∧ (0 ≤ k ↔ ∃ w ∈ l, w.name = v.name) ∧ σ = σ' ∧ Γ' = [blk g [.string v.name, i64 v.size] 37]) := by
  obtain ⟨pl, cl, rfl, hle, hmx⟩ := hl.shape
  have hlen : l.length ≤ maxLen := by omega
  simp only [maxLen] at hlen
  refine enterA2 Try.func79 rfl rfl rfl ?_
  refine zS ?_; refine zR ?_; refine zO rfl Rd.asg ?_; refine zN ?_; refine zT ?_; refine zS ?_; refine zS ?_; refine zR ?_; refine zO rfl Rd.mv ?_; refine zO rfl (Rd.lenSlice (tyrow rfl) rfl rfl) ?_; refine zO rfl Rd.mv ?_; refine zN ?_; refine zT ?_
  refine XA.block ?_
  refine XA.gen [(0, _), (1, _), (4, _), (7, _), (8, _)] ⟨(by with_reducible (conv => lhs; whnf)), (by with_reducible (conv => lhs; whnf)), (by with_reducible (conv => lhs; whnf)), (by with_reducible (conv => lhs; whnf)), (by with_reducible (conv => lhs; whnf)), trivial⟩ (fun δ => ?_)
  dsimp only [List.foldl]
  refine XA.loop [(4, 5), (8, 18)] (fun k : Nat => [(8, i64 k)]) (fun k σ' Γ' => σ = σ' ∧ k ≤ l.length ∧ (∀ (j : Nat) w, j < k → l[j]? = some w → w.name ≠ v.name) ∧ Γ' = [blk g [.string v.name, i64 v.size] 37]) (fun k => l.length - k) 0 (by exact ⟨rfl, trivial⟩) (Δ0 := _) ?_ (⟨rfl, Nat.zero_le _, fun j w h => absurd h (Nat.not_lt_zero _), rfl⟩) ?_
  · exact zE
  rintro k δ _ _ ⟨rfl, hk, hall, rfl⟩
  dsimp only [ovr, List.foldl]
  refine zS ?_; refine zR ?_; refine zO rfl (Rd.lss rfl rfl) ?_; refine zN ?_; refine zT ?_; refine zS ?_
  refine XA.condp rfl (fun hlt => ?_) (fun hlt => ?_)
  · have hlt : k < l.length := by omega
    obtain ⟨x', hx'⟩ : ∃ x', l[k]? = some x' := ⟨_, List.getElem?_eq_getElem hlt⟩
    obtain ⟨gg, o, row, rfl, ⟨rfl, -, -⟩, hrl, hrow⟩ := hl.at hx'
    refine XA.skip ?_
    refine zT ?_; refine zS ?_
    refine XA.block ?_
    refine zS ?_; refine zR ?_; refine zO rfl Rd.mv ?_; refine zO rfl Rd.asg ?_; refine zN ?_; refine zT ?_; refine zS ?_; refine zR ?_; refine zO rfl Rd.mv ?_; refine zO rfl Rd.mv ?_; refine zO rfl Rd.mv ?_
    refine zO rfl (Rd.ixS rfl rfl) ?_
    refine zO rfl (Rd.ldA rfl) ?_
    refine XOA.wr0 rfl (WrA.cV (first := []) (cap := [ptr g]) rfl (varEq_a σ g v x') rfl) ?_
    rintro _ _ _ ⟨_, ⟨rfl, rfl, rfl⟩, rfl⟩
    refine XOA.cl ?_
    refine zN ?_; refine zT ?_
    refine XA.condp rfl (fun hc => ?_) (fun hc => ?_)
    · refine zS ?_
      refine zR ?_; refine zO rfl Rd.mv ?_; refine zO rfl Rd.asg ?_; refine zN ?_; refine zT ?_
      refine XA.ret ?_
      refine DA.inb_ret ?_
      refine DA.thn_ret ?_
      refine DA.thn_ret ?_
      refine DA.inb_ret ?_
      refine DA.thn_ret ?_
      exact bodyA.ret (ResA.one rfl rfl) zE ⟨(k : Int), rfl, ⟨fun _ => ⟨x', List.mem_of_getElem? hx', hc⟩, fun _ => by omega⟩, rfl, rfl⟩
    · have hnew : ∀ (j : Nat) w, j < k + 1 → l[j]? = some w → w.name ≠ v.name := fun j w hj hw => by
        rcases Nat.lt_or_ge j k with h | h
        · exact hall j w h hw
        · have : j = k := by omega
          subst this
          rw [hx'] at hw; simp only [Option.some.injEq] at hw; subst hw; exact hc
      refine XA.skip ?_
      refine DA.inb_normal ?_
      refine zT ?_; refine zR ?_
      refine zO rfl (by first | exact Rd.adi rfl rfl | exact Rd.add rfl rfl) ?_
      refine zO rfl Rd.mv ?_; refine zN ?_; refine zT ?_
      refine ⟨(Keep.upd (Keep.upd (Keep.updO (Keep.upd (Keep.upd (Keep.upd (Keep.upd (Keep.upd (Keep.upd (Keep.upd (Keep.upd (Keep.upd (Keep.hav (Keep.hav (Keep.refl _ _) rfl) rfl) rfl) rfl) rfl) rfl) rfl) rfl) rfl) rfl) rfl) rfl) rfl) rfl), k + 1, _, (by (repeat (first | exact trivial | refine ⟨rfl, ?_⟩ | refine ⟨Eq.trans rfl (congrArg Value.bool hmat.symm), ?_⟩)); (first | done | fail)), ?_, ⟨rfl, hlt, hnew, rfl⟩, (by omega)⟩
      · exact zE
  have hkn : k = l.length := by omega
  subst hkn
  refine XA.exit ?_
  refine DA.thn_exit ?_
  refine DA.thn_exit ?_
  refine DA.inb_same ?_
  refine zT ?_; refine zS ?_; refine zR ?_; refine zO rfl Rd.asg ?_; refine zN ?_; refine zT ?_
  refine XA.ret ?_
  refine bodyA.ret (ResA.one rfl rfl) zE ⟨-1, rfl, ⟨fun h => absurd h (by decide), fun ⟨w, hw, e⟩ => ?_⟩, rfl, rfl⟩
  obtain ⟨j, hj, e2⟩ := List.mem_iff_getElem.1 hw
  exact absurd e (hall j w hj (by rw [List.getElem?_eq_getElem hj, e2]))
theorem containsVar_a (σ : PH) (g : Nat) (v : Va) (sl : Value) (l : List Va) (hl : PSl 2 rVa σ sl l) : CallsA Try.prog 61 #[sl, .func (.func 62) #[] #[ptr g]] σ [blk g [.string v.name, i64 v.size] 37] (RetA fun r σ' Γ' => r = .bool (decide (∃ w ∈ l, w.name = v.name)) ∧ σ = σ' ∧ Γ' = [blk g [.string v.name, i64 v.size] 37]) := by
  refine enterA2 Try.func61 rfl rfl rfl ?_
  refine zS ?_; refine zR ?_; refine zO rfl Rd.asg ?_; refine zN ?_; refine zT ?_; refine zS ?_; refine zR ?_; refine zO rfl Rd.mv ?_; refine zO rfl Rd.mv ?_
  refine XOA.wr0 rfl (WrA.cE (indexVar_a σ g v sl l hl) rfl) ?_
  rintro _ _ _ ⟨_, ⟨k, rfl, hk, rfl, rfl⟩, rfl⟩
  refine XOA.cl ?_
  refine zO rfl (Rd.geq rfl rfl) ?_
  refine zO rfl Rd.asg ?_; refine zN ?_; refine zT ?_
  refine XA.ret ?_
  exact bodyA.ret (ResA.one rfl rfl) zE ⟨congrArg Value.bool (decide_eq_decide.2 hk), rfl, rfl⟩
end Go.Proofs.Ytbbghdkndbpmmaa
