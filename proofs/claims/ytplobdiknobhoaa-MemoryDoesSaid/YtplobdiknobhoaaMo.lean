/- Package memory: Sync, All; what the laws' helpers do. -/
import Derived.Test.YtplobdiknobhoaaMn
namespace Go.Proofs.Ytplobdiknobhoaa
open Go X
set_option maxHeartbeats 2000000
theorem commit_yesL (σ : PH) (b db : Nat) (s : StS) (d : DiskS) (p : Option Addr) (c : Nat) (rows : List (List Value)) (l : List PageS) (D : Int) (hr : Rows_ 9 rPage σ rows l) (hc : checkS l = 0) (hG : Good d s) (hg1 : s.gen < 4611686018427387904) (hD : okD D) :
    CallsA Try.prog 33 #[ptr b, .slice p l.length c, i64 D] σ [lst 66 9 (.slice p l.length c) l.length rows.flatten, Store b db s, Disk db d]
      (RetA fun v σ' Γ' => ∃ j : Nat, j ≤ l.length + 5 ∧ (j < l.length + 5 → D = (j : Int)) ∧ (j = l.length + 5 → ∀ i : Nat, i < l.length + 5 → D ≠ (i : Int)) ∧ v = .tuple #[.bool (decide (j = l.length + 5)), i64 0] ∧ σ.sub σ' ∧ Γ' = [Store b db (if j = l.length + 5 then nextS s l else s), Disk db (comD d s l j)]) := by
  refine X.CallsA.frz (enters Try.func33 rfl rfl) .head lst_frz lst_frz_mono ?_
  rintro σ' ⟨⟩ hf hs
  exact CallsA.ret (commit_yes σ' b db s d _ l D ((hr.mono (σ' := σ') (fun _ _ h => h)).psl rfl hf) hc hG.sok hG.gen hg1 hD hG.wlen) (fun v σ2 Γ2 ⟨j, a1, a2, a3, a4, a5, a6⟩ => ⟨j, a1, a2, a3, a4, hs.trans a5, a6⟩)
theorem checkGo_ok : ∀ (l seen : List PageS), (∀ x ∈ l, 0 ≤ x.n ∧ x.n < 14) → (l.map (·.n)).Nodup → (∀ x ∈ l, ∀ y ∈ seen, y.n ≠ x.n) → checkGo seen l = 0
  | [], _, _, _, _ => rfl
  | x :: l, seen, h1, h2, h3 => by
    rw [checkGo, if_neg (fun q => q (h1 x (by simp))), if_neg (fun ⟨y, hy, e⟩ => h3 x (by simp) y hy e)]
    rw [List.map_cons, List.nodup_cons] at h2
    refine checkGo_ok l (seen ++ [x]) (fun y hy => h1 y (List.mem_cons_of_mem _ hy)) h2.2 (fun y hy z hz => ?_)
    rcases List.mem_append.1 hz with hz | hz
    · exact h3 y (List.mem_cons_of_mem _ hy) z hz
    · rw [List.mem_singleton.1 hz]
      exact fun e => h2.1 (e ▸ List.mem_map_of_mem (f := (·.n)) hy)
theorem dirtyTo_mem {C : List (List Int)} {dt : List Bool} : ∀ {k : Nat} {x : PageS}, x ∈ dirtyTo C dt k → ∃ p : Nat, p < k ∧ x = ⟨(p : Int), C.getD p DiskS.zeros⟩
  | 0, x, h => by cases h
  | k + 1, x, h => by
    rw [dirtyTo] at h
    split at h
    · rcases List.mem_append.1 h with h | h
      · obtain ⟨p, a, b⟩ := dirtyTo_mem h; exact ⟨p, by omega, b⟩
      · exact ⟨k, by omega, List.mem_singleton.1 h⟩
    · obtain ⟨p, a, b⟩ := dirtyTo_mem h; exact ⟨p, by omega, b⟩
theorem dirtyTo_nodup (C : List (List Int)) (dt : List Bool) : ∀ k, ((dirtyTo C dt k).map (·.n)).Nodup
  | 0 => List.nodup_nil
  | k + 1 => by
    rw [dirtyTo]
    split
    · rw [List.map_append, List.nodup_append]
      refine ⟨dirtyTo_nodup C dt k, by simp, fun a ha b hb => ?_⟩
      obtain ⟨x, hx, rfl⟩ := List.mem_map.1 ha
      obtain ⟨p, hp, rfl⟩ := dirtyTo_mem hx
      simp only [List.map_cons, List.map_nil, List.mem_singleton] at hb
      subst hb
      intro e
      simp only at e
      omega
    · exact dirtyTo_nodup C dt k
theorem dirty_n {C : List (List Int)} {dt : List Bool} : ∀ x ∈ dirtyL C dt, 0 ≤ x.n ∧ x.n < 14 := fun x hx => by
  obtain ⟨p, hp, rfl⟩ := dirtyTo_mem hx
  simp only; omega
theorem dirty_check (C : List (List Int)) (dt : List Bool) : checkS (dirtyL C dt) = 0 := checkGo_ok _ _ dirty_n (dirtyTo_nodup C dt 14) (fun _ _ _ h => by cases h)
theorem dirty_w {C : List (List Int)} {dt : List Bool} (h : pgsOk C) : ∀ x ∈ dirtyL C dt, x.w.length = 8 := fun x hx => by
  obtain ⟨p, hp, rfl⟩ := dirtyTo_mem hx
  exact pgs_row8 h hp
theorem wTo_pre {W : List Int} {l : List PageS} {x : PageS} (p : Int) : ∀ k, k ≤ l.length → wTo W (l ++ [x]) k p = wTo W l k p
  | 0, _ => rfl
  | k + 1, h => by
    have e1 : (l ++ [x])[k]? = some l[k] := by rw [List.getElem?_append_left (by omega), List.getElem?_eq_getElem (by omega)]
    rw [wTo_succ e1, wTo_succ (List.getElem?_eq_getElem (by omega : k < l.length)), wTo_pre p k (by omega)]
theorem wTo_snoc {W : List Int} {l : List PageS} {x : PageS} (p : Int) : wTo W (l ++ [x]) (l ++ [x]).length p = if x.n = p then x.w else wTo W l l.length p := by
  rw [List.length_append, List.length_singleton, wTo_succ (x := x) (by simp), wTo_pre p _ (Nat.le_refl _)]
theorem wTo_dirty (W : List Int) (C : List (List Int)) (dt : List Bool) (p : Nat) : ∀ k, wTo W (dirtyTo C dt k) (dirtyTo C dt k).length p = if p < k ∧ dt.getD p false = true then C.getD p DiskS.zeros else W
  | 0 => by rw [if_neg (by omega)]; rfl
  | k + 1 => by
    have ih := wTo_dirty W C dt p k
    rw [dirtyTo]
    by_cases hk : dt.getD k false = true
    · rw [if_pos hk, wTo_snoc, ih]
      by_cases e : p = k
      · subst e; rw [if_pos rfl, if_pos ⟨by omega, hk⟩]
      · rw [if_neg (by simp only; omega)]
        by_cases h2 : p < k ∧ dt.getD p false = true
        · rw [if_pos h2, if_pos ⟨by omega, h2.2⟩]
        · rw [if_neg h2, if_neg (fun q => h2 ⟨by omega, q.2⟩)]
    · rw [if_neg hk, ih]
      by_cases h2 : p < k ∧ dt.getD p false = true
      · rw [if_pos h2, if_pos ⟨by omega, h2.2⟩]
      · rw [if_neg h2, if_neg (fun q => h2 ⟨by
          rcases Nat.lt_or_ge p k with z | z
          · exact z
          · have : p = k := by omega
            subst this; exact absurd q.2 hk, q.2⟩)]
theorem noB_get (p : Nat) : noB.getD p false = false := by
  rw [noB, List.getD_eq_getElem?_getD, List.getElem?_replicate]; split <;> rfl
theorem noP_ok : pgsOk noP := ⟨by simp [noP], fun w hw => by rw [List.eq_of_mem_replicate hw]; rfl⟩
/-- Behind a Sync that was done. -/
theorem MOk.sync {d d' : DiskS} {s s' : StS} {inn dt : List Bool} {pg C : List (List Int)} (h : MOk d s inn dt pg C) (hp : ∀ p : Int, pageW d' s' p = wTo (pageW d s p) (dirtyL C dt) (dirtyL C dt).length p) : MOk d' s' inn noB pg C ∧ ∀ p : Nat, p < 14 → pageW d' s' p = C.getD p DiskS.zeros := by
  have key : ∀ p : Nat, p < 14 → pageW d' s' p = C.getD p DiskS.zeros := fun p hp14 => by
    rw [hp p]
    have := wTo_dirty (pageW d s p) C dt p 14
    refine this.trans ?_
    by_cases hd : dt.getD p false = true
    · rw [if_pos ⟨hp14, hd⟩]
    · rw [if_neg (fun q => hd q.2)]
      exact (h.old p hp14 (by revert hd; cases dt.getD p false <;> simp)).symm
  refine ⟨⟨h.li, rfl, h.pp, h.cc, fun p hp14 => ?_, fun p _ hq => ?_, fun p hp14 _ => (key p hp14).symm⟩, key⟩
  · split
    · rename_i hi; rw [h.val p hp14, if_pos hi]
    · exact (key p hp14).symm
  · rw [noB_get] at hq; cases hq
/-- The pages as a store tells them. -/
def pagesC (d : DiskS) (s : StS) : List (List Int) := (List.range 14).map fun p => pageW d s (p : Nat)
theorem pagesC_get (d : DiskS) (s : StS) {p : Nat} (hp : p < 14) : (pagesC d s).getD p DiskS.zeros = pageW d s p := by
  simp [pagesC, List.getD_eq_getElem?_getD, List.getElem?_range hp]
theorem pagesC_ok {d : DiskS} (hd : d.ok) (s : StS) : pgsOk (pagesC d s) := ⟨by simp [pagesC], fun w hw => by
  obtain ⟨p, -, rfl⟩ := List.mem_map.1 hw
  exact pageW_len hd s p⟩
theorem pgs_ext {P Q : List (List Int)} (hP : pgsOk P) (hQ : pgsOk Q) (h : ∀ p, p < 14 → P.getD p DiskS.zeros = Q.getD p DiskS.zeros) : P = Q := by
  refine List.ext_getElem (by rw [hP.1, hQ.1]) (fun i h1 h2 => ?_)
  have := h i (by rw [← hP.1]; exact h1)
  simpa [List.getD_eq_getElem?_getD, List.getElem?_eq_getElem h1, List.getElem?_eq_getElem h2] using this
theorem MOk.new {d : DiskS} (hd : d.ok) (s : StS) : MOk d s noB noB noP (pagesC d s) := by
  refine ⟨rfl, rfl, noP_ok, pagesC_ok hd s, fun p hp => ?_, fun p _ hq => ?_, fun p hp _ => pagesC_get d s hp⟩
  · rw [noB_get, if_neg (by simp), pagesC_get d s hp]
  · rw [noB_get] at hq; cases hq
theorem MOk.same {d d' : DiskS} {s s' : StS} {inn dt : List Bool} {pg C : List (List Int)} (h : MOk d s inn dt pg C) (hp : ∀ p : Nat, p < 14 → pageW d' s' p = pageW d s p) : MOk d' s' inn dt pg C :=
  ⟨h.li, h.ld, h.pp, h.cc, fun p hq => by rw [hp p hq]; exact h.val p hq, h.dir, fun p hq hd => by rw [hp p hq]; exact h.old p hq hd⟩
theorem sync_a (σ : PH) (b sb db : Nat) (d : DiskS) (s : StS) (inn dt : List Bool) (pg C : List (List Int)) (D : Int) (hG : Good d s) (hg1 : s.gen < 4611686018427387904) (hD : okD D) (h : MOk d s inn dt pg C) :
    CallsA Try.prog 43 #[ptr b, i64 D] σ [blk b (mcells sb inn dt pg) 88, Store sb db s, Disk db d] (RetA fun v σ' Γ' => ∃ j : Nat, j ≤ (dirtyL C dt).length + 5 ∧ (j < (dirtyL C dt).length + 5 → D = (j : Int)) ∧ (j = (dirtyL C dt).length + 5 → ∀ i : Nat, i < (dirtyL C dt).length + 5 → D ≠ (i : Int)) ∧ v = .bool (decide (j = (dirtyL C dt).length + 5)) ∧ σ.sub σ' ∧ Γ' = [blk b (mcells sb inn (if j = (dirtyL C dt).length + 5 then noB else dt) pg) 88, Store sb db (if j = (dirtyL C dt).length + 5 then nextS s (dirtyL C dt) else s), Disk db (comD d s (dirtyL C dt) j)]) := by
  have hsb : (mcells sb inn dt pg)[0]? = some (ptr sb) := rfl
  refine enterA2 Try.func43 rfl rfl rfl ?_
  refine XA.seq ?_
  refine XA.region ?_
  refine XOA.rd rfl Rd.asg ?_
  refine XOA.nil ?_
  refine DA.thn_normal ?_
  refine XA.seq ?_
  refine XA.draw (by kernel_rfl) _ _ [7] [(0, .pu), (1, .pu), (2, .pu), (3, .rd), (4, .pu), (6, .pu), (5, .wr), (7, .wr), (8, .pu), (9, .pu), (10, .pu), (11, .pu), (12, .pu)] (by kernel_rfl) (PH.sub.refl _) (Ent.sel (R := blk b _ _) (by ((repeat (first | with_reducible exact Sel.head | apply Sel.tail)); (first | done | fail))) (Ent.nil _)) ?_
  refine XPA.pu rfl rfl Gd.free Rd.mv ?_
  refine XPA.pu rfl rfl Gd.free (Rd.nilCheck rfl) ?_
  refine XPA.pu rfl rfl Gd.free (Rd.fA rfl) ?_
  refine XPA.rd rfl rfl Gd.free (Rd.ldC rfl (tyrow rfl) rfl) ?_
  refine XPA.pu rfl rfl Gd.free Rd.mv ?_
  refine XPA.pu rfl rfl Gd.free Rd.mv ?_
  refine XPA.wr0 rfl rfl Gd.free (WrA.cE (dirty_a σ b sb d s inn dt pg C h) rfl) ?_
  rintro _ _ _ ⟨_, ⟨p, c, rows, rfl, hr, rfl, rfl⟩, rfl⟩
  refine stays (XPA.cl ?_)
  refine XPA.wrZ0 rfl rfl Gd.free (by kernel_rfl) (WrA.cE (commit_yesL σ sb db s d p c rows (dirtyL C dt) D hr (dirty_check C dt) hG hg1 hD) rfl) ?_
  rintro _ σ' _ ⟨_, ⟨j, hj1, hj2, hj3, rfl, hs, rfl⟩, rfl⟩
  refine XPA.cl ?_
  refine XPA.pu rfl rfl Gd.free Rd.mv ?_
  refine XPA.pu rfl rfl Gd.free (Rd.extract rfl rfl) ?_
  refine XPA.pu rfl rfl Gd.free (Rd.extract rfl rfl) ?_
  refine XPA.pu rfl rfl Gd.free Rd.asg ?_
  refine XPA.pu rfl rfl Gd.free Rd.asg ?_
  refine XPA.nil ?_
  refine DA.thn_normal ?_
  refine XA.seq ?_
  refine XA.seq ?_
  refine XA.region ?_
  refine XOA.rd rfl Rd.mv ?_
  refine XOA.nil ?_
  refine DA.thn_normal ?_
  have hml := mc_len (sb := sb) h.li h.ld h.pp
  by_cases hj : j = (dirtyL C dt).length + 5
  · have hspl := put_dts (sb := sb) (pg := pg) (dt' := noB) h.li h.ld rfl
    have hfit : 15 + ty84.size ≤ (mcells sb inn dt pg).length := by rw [hml]; decide
    rw [if_pos hj]
    refine XA.condT rfl (decide_eq_true hj) ?_
    refine XA.region ?_
    refine XOA.rd rfl Rd.mv ?_
    refine XOA.rd rfl (Rd.blA (fun _ _ => tyrow) rfl rfl rfl) ?_
    refine XOA.rd rfl (Rd.nilCheck rfl) ?_
    refine XOA.rd rfl (Rd.fA rfl) ?_
    refine XOA.wr0 rfl (WrA.st (tyrow rfl) rfl) ?_
    rintro _ _ _ ⟨rfl, rfl, rfl⟩
    refine XOA.nil ?_
    refine DA.thn_normal ?_
    refine XA.seq ?_
    refine XA.region ?_
    refine XOA.rd rfl Rd.mv ?_
    refine XOA.rd rfl Rd.asg ?_
    refine XOA.nil ?_
    refine DA.thn_normal ?_
    refine XA.ret ?_
    exact bodyA.ret (ResA.one rfl rfl) (by rw [if_pos hj, if_pos hj]; exact (by (repeat (first | exact Ent.nil _ | (apply Ent.sel; focus (first | ((repeat (first | with_reducible exact Sel.head | apply Sel.tail)); done) | ((repeat (first | exact Sel.head | apply Sel.tail)); done))) | apply Ent.selNil | apply Ent.selEmp)); (first | done | fail))) ⟨j, hj1, hj2, hj3, rfl, hs, rfl⟩
  · rw [if_neg hj]
    refine XA.condF rfl (decide_eq_false hj) ?_
    refine XA.skip ?_
    refine DA.thn_normal ?_
    refine XA.seq ?_
    refine XA.region ?_
    refine XOA.rd rfl Rd.mv ?_
    refine XOA.rd rfl Rd.asg ?_
    refine XOA.nil ?_
    refine DA.thn_normal ?_
    refine XA.ret ?_
    exact bodyA.ret (ResA.one rfl rfl) (by rw [if_neg hj, if_neg hj]; exact (by (repeat (first | exact Ent.nil _ | (apply Ent.sel; focus (first | ((repeat (first | with_reducible exact Sel.head | apply Sel.tail)); done) | ((repeat (first | exact Sel.head | apply Sel.tail)); done))) | apply Ent.selNil | apply Ent.selEmp)); (first | done | fail))) ⟨j, hj1, hj2, hj3, rfl, hs, rfl⟩
theorem clip_a (σ : PH) (p : Option Addr) (n c : Nat) (h : n ≤ c) : CallsA Try.prog 65 #[.slice p n c] σ [] (RetA fun v σ' Γ' => v = .slice p n n ∧ σ = σ' ∧ Γ' = []) := by
  refine enterA1 Try.func65 rfl rfl rfl ?_
  refine XA.seq ?_
  refine XA.region ?_
  refine XOA.rd rfl Rd.asg ?_
  refine XOA.nil ?_
  refine DA.thn_normal ?_
  refine XA.seq ?_
  refine XA.region ?_
  refine XOA.rd rfl Rd.mv ?_
  refine XOA.rd rfl Rd.mv ?_
  refine XOA.rd rfl (Rd.lenSlice (tyrow rfl) rfl rfl) ?_
  refine XOA.rd rfl Rd.mv ?_
  refine XOA.rd rfl (Rd.lenSlice (tyrow rfl) rfl rfl) ?_
  refine XOA.rd rfl (Rd.sliceTo3N (tyrow rfl) rfl (tyrow rfl) rfl rfl rfl (Nat.le_refl _) h) ?_
  refine XOA.rd rfl Rd.asg ?_
  refine XOA.nil ?_
  refine DA.thn_normal ?_
  refine XA.ret ?_
  exact bodyA.ret (ResA.one rfl rfl) (by (repeat (first | exact Ent.nil _ | (apply Ent.sel; focus (first | ((repeat (first | with_reducible exact Sel.head | apply Sel.tail)); done) | ((repeat (first | exact Sel.head | apply Sel.tail)); done))) | apply Ent.selNil | apply Ent.selEmp)); (first | done | fail)) ⟨rfl, rfl, rfl⟩
theorem flat_get {P : List (List Int)} (h : pgsOk P) {n : Nat} (hn : n < 112) : P.flatten[n]? = some (wordC P n) := by
  have h1 := pgs_at h (n := n / 8) (by omega)
  have h2 : (((ints P.flatten).drop (n / 8 * 8)).take 8)[n % 8]? = some (i64 ((P.getD (n / 8) DiskS.zeros).getD (n % 8) 0)) := by
    rw [h1, ints_get (by rw [pgs_row8 h (by omega)]; omega)]
  rw [List.getElem?_take, if_pos (by omega), List.getElem?_drop, show n / 8 * 8 + n % 8 = n by omega, ← wordC_nat P hn] at h2
  simp only [ints, List.getElem?_map, Option.map_eq_some_iff] at h2
  obtain ⟨a, ha, e⟩ := h2
  rw [ha]
  simp only [Value.int.injEq, true_and] at e
  rw [e]
theorem flat_len {P : List (List Int)} (h : pgsOk P) : P.flatten.length = 112 := by
  have := pgs_len h
  rwa [ints_len] at this
theorem all_a (σ : PH) (b sb db : Nat) (d : DiskS) (s : StS) (inn dt : List Bool) (pg C : List (List Int)) (hd : d.ok) (hlen : d.wait.length < 1000000) (h : MOk d s inn dt pg C) :
    CallsA Try.prog 42 #[ptr b] σ [blk b (mcells sb inn dt pg) 88, Store sb db s, Disk db d] (RetA fun v σ' Γ' => PInts σ' v C.flatten ∧ σ.sub σ' ∧ ∃ inn' pg', MOk d s inn' dt pg' C ∧ Γ' = [blk b (mcells sb inn' dt pg') 88, Store sb db s, Disk db d]) := by
  have hfl := flat_len h.cc
  refine enterA1 Try.func42 rfl rfl rfl ?_
  refine XA.seq ?_
  refine XA.region ?_
  refine XOA.rd rfl Rd.asg ?_
  refine XOA.nil ?_
  refine DA.thn_normal ?_
  refine XA.seq ?_
  refine XA.region ?_
  refine XOA.rd rfl Rd.asg ?_
  refine XOA.nil ?_
  refine DA.thn_normal ?_
  refine XA.seq ?_
  refine XA.seq ?_
  refine XA.region ?_
  refine XOA.rd rfl Rd.mv ?_
  refine XOA.nil ?_
  refine DA.thn_normal ?_
  refine XA.block ?_
  refine XA.gen [(0, _), (2, _), (3, _), (5, _)] ⟨(by with_reducible (conv => lhs; whnf)), (by with_reducible (conv => lhs; whnf)), (by with_reducible (conv => lhs; whnf)), (by with_reducible (conv => lhs; whnf)), trivial⟩ (fun δ => ?_)
  dsimp only [List.foldl]
  refine XA.loop [(3, 14)] (fun q : Nat × (Option Addr × Nat) => [(5, i64 q.1), (3, .slice q.2.1 q.1 q.2.2)]) (fun q σ' Γ' => σ = σ' ∧ q.1 ≤ 112 ∧ ∃ inn' pg', MOk d s inn' dt pg' C ∧ Γ' = [blk b (mcells sb inn' dt pg') 88, Store sb db s, Disk db d, lst 2 1 (.slice q.2.1 q.1 q.2.2) q.1 (ints (C.flatten.take q.1))]) (fun q => 112 - q.1) (0, (none, 0)) (by exact ⟨rfl, rfl, trivial⟩) (Δ0 := _) ?_ (⟨rfl, Nat.zero_le _, inn, pg, h, rfl⟩) ?_
  · exact (by (repeat (first | exact Ent.nil _ | (apply Ent.sel; focus (first | ((repeat (first | with_reducible exact Sel.head | apply Sel.tail)); done) | ((repeat (first | exact Sel.head | apply Sel.tail)); done))) | apply Ent.selNil | apply Ent.selEmp)); (first | done | fail))
  rintro ⟨k, p, c⟩ δ _ _ ⟨rfl, hk, inn', pg', h', rfl⟩
  dsimp only [ovr, List.foldl]
  have hk : k ≤ 112 := hk
  refine XA.seq ?_
  refine XA.region ?_
  refine XOA.rd rfl (Rd.lss rfl rfl) ?_
  refine XOA.nil ?_
  refine DA.thn_normal ?_
  refine XA.seq ?_
  refine XA.condp rfl (fun hlt => ?_) (fun hlt => ?_)
  · have hlt : k < 112 := by omega
    have hg := flat_get h.cc hlt
    have hlk : (ints (C.flatten.take k)).length = k * 1 := by rw [ints_len, List.length_take, hfl]; omega
    refine XA.skip ?_
    refine DA.thn_normal ?_
    refine XA.seq ?_
    refine XA.block ?_
    refine XA.seq ?_
    refine XA.region ?_
    refine XOA.rd rfl Rd.mv ?_
    refine XOA.rd rfl Rd.asg ?_
    refine XOA.nil ?_
    refine DA.thn_normal ?_
    refine XA.region ?_
    refine XOA.rd rfl Rd.mv ?_
    refine XOA.rd rfl Rd.mv ?_
    refine XOA.rd rfl Rd.mv ?_
    refine XOA.wr0 rfl (WrA.cE (load_a σ b sb db d s inn' dt pg' C k hd hlen h') rfl) ?_
    rintro _ _ _ ⟨_, ⟨rfl, rfl, inn2, pg2, h2, rfl⟩, rfl⟩
    refine XOA.cl ?_
    refine XOA.wr0 rfl (WrA.bs1 (tyrow rfl) rfl (tyrow rfl)) ?_
    rintro _ _ _ ⟨g12, rfl, rfl, rfl⟩
    refine XOA.wr0 rfl (WrA.ap1 (tyrow rfl) rfl (tyrow rfl) rfl rfl rfl) ?_
    rintro _ _ _ ⟨p13, c13, rfl, rfl, rfl⟩
    refine XOA.rd rfl Rd.asg ?_
    refine XOA.nil ?_
    refine DA.inb_normal ?_
    refine DA.thn_normal ?_
    refine XA.region ?_
    refine XOA.rd rfl (by first | exact Rd.adi rfl rfl | exact Rd.add rfl rfl) ?_
    refine XOA.rd rfl Rd.mv ?_
    refine XOA.nil ?_
    refine DA.thn_normal ?_
    refine ⟨(Keep.upd (Keep.upd (Keep.upd (Keep.updO (Keep.updO (Keep.updO (Keep.upd (Keep.upd (Keep.upd (Keep.upd (Keep.upd (Keep.upd (Keep.upd (Keep.upd (Keep.hav (Keep.refl _ _) rfl) rfl) rfl) rfl) rfl) rfl) rfl) rfl) rfl) rfl) rfl) rfl) rfl) rfl) rfl), (k + 1, (p13, c13)), _, (by (repeat (first | exact trivial | refine ⟨rfl, ?_⟩ | refine ⟨Eq.trans rfl (congrArg Value.bool hmat.symm), ?_⟩)); (first | done | fail)), ?_, ⟨rfl, hlt, inn2, pg2, h2, rfl⟩, (by simp only; omega)⟩
    · rw [takeS hg, show ints (C.flatten.take k ++ [wordC C k]) = ints (C.flatten.take k) ++ [i64 (wordC C k)] by simp [ints]]; exact (by (repeat (first | exact Ent.nil _ | (apply Ent.sel; focus (first | ((repeat (first | with_reducible exact Sel.head | apply Sel.tail)); done) | ((repeat (first | exact Sel.head | apply Sel.tail)); done))) | apply Ent.selNil | apply Ent.selEmp)); (first | done | fail))
  obtain rfl : k = 112 := by omega
  rw [List.take_of_length_le (by omega)]
  refine XA.exit ?_
  refine DA.thn_exit ?_
  refine DA.thn_exit ?_
  refine DA.inb_same ?_
  refine DA.thn_normal ?_
  refine XA.seq ?_
  refine XA.region ?_
  refine XOA.rd rfl Rd.mv ?_
  refine XOA.frz (R := lst 2 1 _ _ _) (by ((repeat (first | with_reducible exact Sel.head | apply Sel.tail)); (first | done | fail))) lst_frz lst_frz_mono ?_
  rintro σ1 ⟨⟩ ⟨hf1, hf2, hf3, hf4⟩ hs1
  refine XOA.wr0 rfl (WrA.cE (clip_a σ1 p 112 c hf1) rfl) ?_
  rintro _ _ _ ⟨_, ⟨rfl, rfl, rfl⟩, rfl⟩
  refine XOA.cl ?_
  refine XOA.rd rfl Rd.asg ?_
  refine XOA.nil ?_
  refine DA.thn_normal ?_
  refine XA.ret ?_
  exact bodyA.ret (ResA.one rfl rfl) (by (repeat (first | exact Ent.nil _ | (apply Ent.sel; focus (first | ((repeat (first | with_reducible exact Sel.head | apply Sel.tail)); done) | ((repeat (first | exact Sel.head | apply Sel.tail)); done))) | apply Ent.selNil | apply Ent.selEmp)); (first | done | fail)) ⟨⟨p, 112, by rw [hfl], by omega, by decide, fun _ => hf4 (by decide)⟩, hs1, inn', pg', h', rfl⟩
theorem same_a (σ : PH) (v w : Value) (xs ys : List Int) (hv : PInts σ v xs) (hw : PInts σ w ys) : CallsA Try.prog 46 #[v, w] σ [] (RetA fun r σ' Γ' => r = .bool (decide (xs = ys)) ∧ σ = σ' ∧ Γ' = []) := by
  obtain ⟨p, c, rfl, hle, hmx⟩ := hv.shape
  obtain ⟨p', c', rfl, hle', hmx'⟩ := hw.shape
  have hlen : xs.length ≤ maxLen := by omega
  simp only [maxLen] at hlen
  refine enterA2 Try.func46 rfl rfl rfl ?_
  refine XA.seq ?_
  refine XA.region ?_
  refine XOA.rd rfl Rd.asg ?_
  refine XOA.nil ?_
  refine DA.thn_normal ?_
  refine XA.seq ?_
  refine XA.seq ?_
  refine XA.region ?_
  refine XOA.rd rfl Rd.mv ?_
  refine XOA.rd rfl (Rd.lenSlice (tyrow rfl) rfl rfl) ?_
  refine XOA.rd rfl Rd.mv ?_
  refine XOA.rd rfl (Rd.lenSlice (tyrow rfl) rfl rfl) ?_
  refine XOA.rd rfl (Rd.neq rfl rfl) ?_
  refine XOA.nil ?_
  refine DA.thn_normal ?_
  refine XA.condp rfl (fun hne => ?_) (fun hne => ?_)
  · refine XA.seq ?_
    refine XA.region ?_
    refine XOA.rd rfl Rd.asg ?_
    refine XOA.nil ?_
    refine DA.thn_normal ?_
    refine XA.ret ?_
    refine DA.thn_ret ?_
    exact bodyA.ret (ResA.one rfl rfl) (by (repeat (first | exact Ent.nil _ | (apply Ent.sel; focus (first | ((repeat (first | with_reducible exact Sel.head | apply Sel.tail)); done) | ((repeat (first | exact Sel.head | apply Sel.tail)); done))) | apply Ent.selNil | apply Ent.selEmp)); (first | done | fail)) ⟨congrArg Value.bool (decide_eq_false (fun e => hne (by rw [e]))).symm, rfl, rfl⟩
  have hll : xs.length = ys.length := by omega
  refine XA.skip ?_
  refine DA.thn_normal ?_
  refine XA.seq ?_
  refine XA.seq ?_
  refine XA.region ?_
  refine XOA.rd rfl Rd.asg ?_
  refine XOA.nil ?_
  refine DA.thn_normal ?_
  refine XA.block ?_
  refine XA.gen [(0, _), (1, _), (4, _), (5, _)] ⟨(by with_reducible (conv => lhs; whnf)), (by with_reducible (conv => lhs; whnf)), (by with_reducible (conv => lhs; whnf)), (by with_reducible (conv => lhs; whnf)), trivial⟩ (fun δ => ?_)
  dsimp only [List.foldl]
  refine XA.loop [(4, 5), (11, 25)] (fun k : Nat => [(5, i64 k)]) (fun k σ' Γ' => σ = σ' ∧ k ≤ xs.length ∧ xs.take k = ys.take k ∧ Γ' = []) (fun k => xs.length - k) 0 (by exact ⟨rfl, trivial⟩) (Δ0 := _) ?_ (⟨rfl, Nat.zero_le _, rfl, rfl⟩) ?_
  · exact (by (repeat (first | exact Ent.nil _ | (apply Ent.sel; focus (first | ((repeat (first | with_reducible exact Sel.head | apply Sel.tail)); done) | ((repeat (first | exact Sel.head | apply Sel.tail)); done))) | apply Ent.selNil | apply Ent.selEmp)); (first | done | fail))
  rintro k δ _ _ ⟨rfl, hk, hall, rfl⟩
  dsimp only [ovr, List.foldl]
  refine XA.seq ?_
  refine XA.seq ?_
  refine XA.region ?_
  refine XOA.rd rfl Rd.mv ?_
  refine XOA.rd rfl Rd.mv ?_
  refine XOA.rd rfl (Rd.lenSlice (tyrow rfl) rfl rfl) ?_
  refine XOA.rd rfl (Rd.lss rfl rfl) ?_
  refine XOA.nil ?_
  refine DA.thn_normal ?_
  refine XA.condp rfl (fun hlt => ?_) (fun hlt => ?_)
  · have hlt : k < xs.length := by omega
    obtain ⟨x, hx⟩ : ∃ x, xs[k]? = some x := ⟨_, List.getElem?_eq_getElem hlt⟩
    obtain ⟨y, hy⟩ : ∃ y, ys[k]? = some y := ⟨_, List.getElem?_eq_getElem (by omega)⟩
    obtain ⟨g, o, rfl, hr⟩ := hv.at hx
    obtain ⟨g', o', rfl, hr'⟩ := hw.at hy
    rw [Nat.mul_one] at hr hr'
    refine XA.skip ?_
    refine DA.thn_normal ?_
    refine XA.seq ?_
    refine XA.block ?_
    refine XA.seq ?_
    refine XA.draw (by kernel_rfl) _ _ [] [(0, .pu), (1, .pu), (2, .pu), (3, .rd), (4, .pu), (5, .pu), (6, .pu), (7, .rd), (8, .pu)] (by kernel_rfl) (PH.sub.refl _) (Ent.nil _) ?_
    refine XPA.pu rfl rfl Gd.free Rd.mv ?_
    refine XPA.pu rfl rfl Gd.free Rd.mv ?_
    refine XPA.pu rfl rfl Gd.free (Rd.ixS rfl rfl) ?_
    refine XPA.rd rfl rfl Gd.free (Rd.ldC rfl (tyrow rfl) rfl) ?_
    refine XPA.pu rfl rfl Gd.free Rd.mv ?_
    refine XPA.pu rfl rfl Gd.free Rd.mv ?_
    refine XPA.pu rfl rfl Gd.free (Rd.ixS rfl rfl) ?_
    refine XPA.rd rfl rfl Gd.free (Rd.ldC rfl (tyrow rfl) rfl) ?_
    refine XPA.pu rfl rfl Gd.free (Rd.neq rfl rfl) ?_
    refine XPA.nil ?_
    refine DA.thn_normal ?_
    refine XA.condp rfl (fun he => ?_) (fun he => ?_)
    · refine XA.seq ?_
      refine XA.region ?_
      refine XOA.rd rfl Rd.asg ?_
      refine XOA.nil ?_
      refine DA.thn_normal ?_
      refine XA.ret ?_
      refine DA.inb_ret ?_
      refine DA.thn_ret ?_
      refine DA.thn_ret ?_
      refine DA.inb_ret ?_
      refine DA.thn_ret ?_
      exact bodyA.ret (ResA.one rfl rfl) (by (repeat (first | exact Ent.nil _ | (apply Ent.sel; focus (first | ((repeat (first | with_reducible exact Sel.head | apply Sel.tail)); done) | ((repeat (first | exact Sel.head | apply Sel.tail)); done))) | apply Ent.selNil | apply Ent.selEmp)); (first | done | fail)) ⟨congrArg Value.bool (decide_eq_false (fun e => by subst e; rw [hx] at hy; simp only [Option.some.injEq] at hy; exact he hy)).symm, rfl, rfl⟩
    have hxy : x = y := Classical.byContradiction he
    refine XA.skip ?_
    refine DA.inb_normal ?_
    refine DA.thn_normal ?_
    refine XA.region ?_
    refine XOA.rd rfl Rd.mv ?_
    refine XOA.rd rfl (by first | exact Rd.adi rfl rfl | exact Rd.add rfl rfl) ?_
    refine XOA.rd rfl Rd.asg ?_
    refine XOA.nil ?_
    refine DA.thn_normal ?_
    refine ⟨(Keep.upd (Keep.upd (Keep.upd (Keep.upd (Keep.upd (Keep.upd (Keep.upd (Keep.upd (Keep.upd (Keep.upd (Keep.upd (Keep.upd (Keep.upd (Keep.upd (Keep.upd (Keep.upd (Keep.upd (Keep.hav (Keep.hav (Keep.refl _ _) rfl) rfl) rfl) rfl) rfl) rfl) rfl) rfl) rfl) rfl) rfl) rfl) rfl) rfl) rfl) rfl) rfl) rfl) rfl), k + 1, _, (by (repeat (first | exact trivial | refine ⟨rfl, ?_⟩ | refine ⟨Eq.trans rfl (congrArg Value.bool hmat.symm), ?_⟩)); (first | done | fail)), ?_, ⟨rfl, hlt, by rw [takeS hx, takeS hy, hall, hxy], rfl⟩, (by omega)⟩
    · exact (by (repeat (first | exact Ent.nil _ | (apply Ent.sel; focus (first | ((repeat (first | with_reducible exact Sel.head | apply Sel.tail)); done) | ((repeat (first | exact Sel.head | apply Sel.tail)); done))) | apply Ent.selNil | apply Ent.selEmp)); (first | done | fail))
  obtain rfl : k = xs.length := by omega
  refine XA.exit ?_
  refine DA.thn_exit ?_
  refine DA.thn_exit ?_
  refine DA.inb_same ?_
  refine DA.thn_normal ?_
  refine XA.seq ?_
  refine XA.region ?_
  refine XOA.rd rfl Rd.asg ?_
  refine XOA.nil ?_
  refine DA.thn_normal ?_
  refine XA.ret ?_
  exact bodyA.ret (ResA.one rfl rfl) (by (repeat (first | exact Ent.nil _ | (apply Ent.sel; focus (first | ((repeat (first | with_reducible exact Sel.head | apply Sel.tail)); done) | ((repeat (first | exact Sel.head | apply Sel.tail)); done))) | apply Ent.selNil | apply Ent.selEmp)); (first | done | fail)) ⟨congrArg Value.bool (decide_eq_true (by rw [List.take_length, hll, List.take_length] at hall; exact hall)).symm, rfl, rfl⟩
end Go.Proofs.Ytplobdiknobhoaa
