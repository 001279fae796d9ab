/- The law DiskDoes: what its function does. -/
import Derived.Test.YtplobdiknobhoaaPlate
namespace Go.Proofs.Ytplobdiknobhoaa
open Go X
set_option maxHeartbeats 1000000
/-- A disk and a plate that tell the same. -/
structure DP (d : DiskS) (p : PlateS) : Prop where
  rng : ∀ q ∈ p.ws, 0 ≤ q.1 ∧ q.1 < 34
  wait : d.wait = (p.ws.drop p.sure).map fun q => (q.1.toNat, q.2)
  held : ∀ a : Int, 0 ≤ a ∧ a < 34 → d.held a = PlateS.last DiskS.zeros a (p.ws.take p.sure)
theorem last_map {a : Int} (ha : 0 ≤ a) : ∀ (ps : List (Int × List Int)) (w : List Int), (∀ q ∈ ps, 0 ≤ q.1 ∧ q.1 < 34) → DiskS.last w a.toNat (ps.map fun q => (q.1.toNat, q.2)) = PlateS.last w a ps := by
  intro ps
  induction ps with
  | nil => intro w _; rfl
  | cons q ps ih =>
    intro w h
    have hq := h q (by simp)
    show DiskS.last (if q.1.toNat = a.toNat then q.2 else w) _ _ = PlateS.last (if q.1 = a then q.2 else w) a ps
    rw [ih _ (fun x hx => h x (by simp [hx]))]
    by_cases e : q.1 = a
    · rw [if_pos e, if_pos (by rw [e])]
    · rw [if_neg e, if_neg (by omega)]
theorem plast_app (w : List Int) (a : Int) (xs ys : List (Int × List Int)) : PlateS.last w a (xs ++ ys) = PlateS.last (PlateS.last w a xs) a ys := by simp [PlateS.last]
theorem plast_none {w : List Int} {a : Int} : ∀ {ps : List (Int × List Int)}, (∀ q ∈ ps, q.1 ≠ a) → PlateS.last w a ps = w := by
  intro ps
  induction ps generalizing w with
  | nil => intro _; rfl
  | cons q ps ih =>
    intro h
    show PlateS.last (if q.1 = a then q.2 else w) a ps = w
    rw [if_neg (h q (by simp))]
    exact ih (fun x hx => h x (by simp [hx]))
theorem DP.read {d : DiskS} {p : PlateS} (h : DP d p) (a : Int) : d.read a = p.read a p.ws.length := by
  rw [PlateS.read, List.take_length]
  by_cases ha : 0 ≤ a ∧ a < 34
  · have hs : p.ws = p.ws.take p.sure ++ p.ws.drop p.sure := (List.take_append_drop _ _).symm
    rw [hs, plast_app, ← h.held a ha, DiskS.read, if_pos ha, h.wait, last_map ha.1 _ _ (fun q hq => h.rng q (List.mem_of_mem_drop hq))]
    rfl
  · rw [DiskS.read, if_neg ha, plast_none (fun q hq e => ha (by have := h.rng q hq; omega))]
theorem DP.len {d : DiskS} {p : PlateS} (h : DP d p) : d.wait.length = p.ws.length - p.sure := by rw [h.wait]; simp
theorem DP.new : DP DiskS.new ⟨[], 0⟩ := ⟨by simp, rfl, fun a ha => by
  show DiskS.new.held a = DiskS.zeros
  unfold DiskS.held DiskS.new
  rw [List.getD_eq_getElem?_getD, List.getElem?_replicate]; split <;> rfl⟩
theorem DP.write {d : DiskS} {p : PlateS} (h : DP d p) (hp : p.sure ≤ p.ws.length) (a : Int) (w : List Int) : DP (d.write a w) (p.write a w) := by
  by_cases ha : 0 ≤ a ∧ a < 34
  · rw [write_pos ha, PlateS.write, if_pos ha]
    refine ⟨?_, ?_, ?_⟩
    · intro q hq
      simp only [List.mem_append, List.mem_singleton] at hq
      rcases hq with hq | rfl
      · exact h.rng q hq
      · exact ha
    · simp only [List.drop_append_of_le_length hp, List.map_append, List.map_cons, List.map_nil, h.wait]
    · intro b hb
      simp only [List.take_append_of_le_length hp]
      exact h.held b hb
  · rw [write_neg ha, PlateS.write, if_neg ha]; exact h
theorem DP.flush {d : DiskS} {p : PlateS} (h : DP d p) (hd : d.ok) : DP (d.settle fun _ => true) { p with sure := p.ws.length } := by
  refine ⟨h.rng, by simp [DiskS.settle], fun a ha => ?_⟩
  simp only [List.take_length]
  rw [settle_all hd _ (fun _ => rfl) ha, h.read a, PlateS.read, List.take_length]
theorem filter_zip {α β : Type} (f : α → β) (is : Nat → Bool) : ∀ (l : List α) (k : Nat), (((l.map f).zipIdx k).filter fun p => is p.2).map (·.1) = ((((l.zipIdx k).filter fun p => is p.2).map (·.1)).map f) := by
  intro l
  induction l with
  | nil => intro k; rfl
  | cons x l ih =>
    intro k
    simp only [List.map_cons, List.zipIdx_cons, List.filter_cons]
    by_cases hk : is k = true
    · simp [hk, ih]
    · simp [hk, ih]
theorem DP.crash {d : DiskS} {p : PlateS} (h : DP d p) (hd : d.ok) (is : Nat → Bool) : DP (d.settle is) (p.crash is) := by
  refine ⟨fun q hq => h.rng q (kept_mem p is _ q hq), by simp [DiskS.settle, PlateS.crash], fun a ha => ?_⟩
  rw [settle_held hd is ha, h.wait, filter_zip, h.held a ha]
  show _ = PlateS.last DiskS.zeros a ((p.kept is (p.ws.length - p.sure)).take (p.kept is (p.ws.length - p.sure)).length)
  rw [List.take_length]
  unfold PlateS.kept
  rw [plast_app, List.take_of_length_le (l := (p.ws.drop p.sure).zipIdx) (by simp)]
  refine last_map ha.1 _ _ (fun q hq => ?_)
  simp only [List.mem_map, List.mem_filter] at hq
  obtain ⟨x, ⟨hx, -⟩, rfl⟩ := hq
  obtain ⟨x1, x2⟩ := x
  have := (List.mem_zipIdx hx).2.2
  rw [this]; exact h.rng _ (List.mem_of_mem_drop (List.getElem_mem _))
theorem crash_len (p : PlateS) (is : Nat → Bool) : (p.crash is).ws.length ≤ p.ws.length := kept_len p is _
theorem pwrite_len (p : PlateS) (a : Int) (w : List Int) : (p.write a w).ws.length ≤ p.ws.length + 1 := by unfold PlateS.write; split <;> simp
theorem does_law (σ : PH) (v : Value) (ms : List Move) (a : Int) (hms : PSl 11 rMove σ v ms) :
    CallsA Try.prog 3 #[v, i64 a] σ [] (RetA fun v σ' Γ' => v = .bool true ∧ σ.sub σ') := by
  obtain ⟨p, c, rfl, -, -⟩ := hms.shape
  refine enterA2 Try.func3 rfl rfl rfl ?_
  refine XA.seq ?_
  refine XA.region ?_
  refine XOA.rd rfl (Rd.assign (by with_reducible (conv => lhs; whnf))) ?_
  refine XOA.nil ?_
  refine DA.thn_normal ?_
  refine XA.seq ?_
  refine XA.seq ?_
  refine XA.region ?_
  refine XOA.wr0 rfl (WrA.callE (by (repeat (first | exact Ent.all _ | (apply Ent.take; focus (first | ((repeat (first | with_reducible exact Sel.head | apply Sel.tail)); done) | ((repeat (first | exact Sel.head | apply Sel.tail)); done))) | apply Ent.takeNil | apply Ent.takeEmp)); (first | done | fail)) (begun_a σ) rfl) ?_
  rintro _ _ _ ⟨_, ⟨rfl, rfl, rfl⟩, rfl⟩
  refine XOA.re (by conv => lhs; dsimp only [List.cons_append, List.nil_append]) ?_
  refine XOA.rd rfl (by first | exact Rd.notp rfl | exact Rd.not rfl) ?_
  refine XOA.nil ?_
  refine DA.thn_normal ?_
  refine XA.condF rfl rfl ?_
  refine XA.skip ?_
  refine DA.thn_normal ?_
  refine XA.seq ?_
  refine XA.seq ?_
  refine XA.region ?_
  refine XOA.rd rfl (Rd.move (by with_reducible (conv => lhs; whnf))) ?_
  refine XOA.rd rfl (Rd.lenSlice (tyrow rfl) rfl rfl) ?_
  refine XOA.rd rfl (Rd.gtr rfl rfl) ?_
  refine XOA.nil ?_
  refine DA.thn_normal ?_
  refine XA.condp rfl (fun hgt => ?_) (fun hgt => ?_)
  · refine XA.seq ?_
    refine XA.region ?_
    refine XOA.rd rfl (Rd.assign (by with_reducible (conv => lhs; whnf))) ?_
    refine XOA.nil ?_
    refine DA.thn_normal ?_
    refine XA.ret ?_
    refine DA.thn_ret ?_
    exact bodyA.ret (ResA.one rfl rfl) (Ent.refl _) ⟨rfl, .refl _⟩
  refine XA.skip ?_
  refine DA.thn_normal ?_
  refine XA.seq ?_
  refine XA.region ?_
  refine XOA.wr0 rfl (WrA.callE (by (repeat (first | exact Ent.all _ | (apply Ent.take; focus (first | ((repeat (first | with_reducible exact Sel.head | apply Sel.tail)); done) | ((repeat (first | exact Sel.head | apply Sel.tail)); done))) | apply Ent.takeNil | apply Ent.takeEmp)); (first | done | fail)) (new_a σ) rfl) ?_
  rintro _ _ _ ⟨_, ⟨b, rfl, rfl, rfl⟩, rfl⟩
  refine XOA.re (by conv => lhs; dsimp only [List.cons_append, List.nil_append]) ?_
  refine XOA.rd rfl (Rd.build (fun _ _ => tyrow) rfl rfl rfl rfl (by first | rfl | assumption | (conv => lhs; simp [bld, splice, Value.cells, *]))) ?_
  refine XOA.wr0 rfl (WrA.box (by with_reducible (conv => lhs; whnf)) (by first | exact wv_cells _ | exact agg_cells _ | rfl)) ?_
  rintro _ _ _ ⟨g18, rfl, rfl, rfl⟩
  refine XOA.rd rfl (Rd.assign (by with_reducible (conv => lhs; whnf))) ?_
  refine XOA.rd rfl (Rd.assign (by with_reducible (conv => lhs; whnf))) ?_
  refine XOA.nil ?_
  refine DA.thn_normal ?_
  refine XA.seq ?_
  refine XA.seq ?_
  refine XA.region ?_
  refine XOA.rd rfl (Rd.assign (by with_reducible (conv => lhs; whnf))) ?_
  refine XOA.nil ?_
  refine DA.thn_normal ?_
  refine XA.block ?_
  refine XA.gen [(0, _), (1, _), (4, _), (5, _), (6, _), (7, _)] ⟨(by with_reducible (conv => lhs; whnf)), (by with_reducible (conv => lhs; whnf)), (by with_reducible (conv => lhs; whnf)), (by with_reducible (conv => lhs; whnf)), (by with_reducible (conv => lhs; whnf)), (by with_reducible (conv => lhs; whnf)), trivial⟩ (fun δ => ?_)
  dsimp only [List.foldl]
  refine XA.loop [(4, 4), (7, 8), (19, 108)] (fun k : Nat => [(7, i64 k)]) (fun k σ' Γ' => σ = σ' ∧ k ≤ ms.length ∧ ∃ (d : DiskS) (q : PlateS), d.ok ∧ q.ok ∧ DP d q ∧ q.ws.length ≤ k ∧ Γ' = [Disk b d, Plate g18 q]) (fun k => ms.length - k) 0 (by exact ⟨rfl, trivial⟩) (Δ0 := _) ?_ (⟨rfl, Nat.zero_le _, _, ⟨[], 0⟩, DiskS.ok_new, ⟨Nat.le_refl _, by simp⟩, DP.new, Nat.le_refl _, rfl⟩) ?_
  · exact Ent.sel (by ((repeat (first | with_reducible exact Sel.head | apply Sel.tail)); (first | done | fail))) (Ent.fold1 (Θ := [_, _, _]) (by (repeat (first | exact Ent.nil _ | (apply Ent.sel; focus (first | ((repeat (first | with_reducible exact Sel.head | apply Sel.tail)); done) | ((repeat (first | exact Sel.head | apply Sel.tail)); done))) | apply Ent.selNil | apply Ent.selEmp)); (first | done | fail)) (Plate.mk (p := ⟨[], 0⟩) (sa := .slice none 0 0) (sw := .slice none 0 0) (n := 0) (n' := 0) (xs := []) (ys := []) (k := 0) ⟨Nat.le_refl _, by simp⟩ rfl rfl rfl rfl rfl))
  rintro k δ _ _ ⟨rfl, hk, d, q, hok, hqk, hdp, hql, rfl⟩
  dsimp only [ovr, List.foldl]
  refine XA.seq ?_
  refine XA.seq ?_
  refine XA.region ?_
  refine XOA.rd rfl (Rd.move (by with_reducible (conv => lhs; whnf))) ?_
  refine XOA.rd rfl (Rd.move (by with_reducible (conv => lhs; whnf))) ?_
  refine XOA.rd rfl (Rd.lenSlice (tyrow rfl) rfl rfl) ?_
  refine XOA.rd rfl (Rd.lss rfl rfl) ?_
  refine XOA.nil ?_
  refine DA.thn_normal ?_
  refine XA.condp rfl (fun hlt => ?_) (fun hlt => ?_)
  · have hlt : k < ms.length := by omega
    obtain ⟨x, hx⟩ : ∃ x, ms[k]? = some x := ⟨_, List.getElem?_eq_getElem hlt⟩
    obtain ⟨g, o, row, rfl, ⟨rfl, hx8, hxm⟩, -, hrow⟩ := hms.at hx
    have hxl : x.cells.length = 11 := by simp [Move.cells, hx8]
    have hc2 : (x.cells.drop 2).take 8 = ints x.w := by simp [Move.cells, ← hx8]
    have hc3 : x.cells[10]? = some (.int .u64 x.mask) := by simp [Move.cells, hx8]
    refine XA.skip ?_
    refine DA.thn_normal ?_
    refine XA.seq ?_
    refine XA.block ?_
    refine XA.seq ?_
    refine XA.region ?_
    refine XOA.rd rfl (Rd.move (by with_reducible (conv => lhs; whnf))) ?_
    refine XOA.rd rfl (Rd.move (by with_reducible (conv => lhs; whnf))) ?_
    refine XOA.rd rfl (by apply Rd.indexSlice; exact tyrow rfl; rfl; exact tyrow rfl; rfl; rfl; exact (by first | omega | decide | (simp; omega)); exact (by with_reducible (conv => lhs; whnf)); exact (by first | (conv => lhs; simp only [Nat.reduceAdd, Nat.zero_add, Nat.add_zero, Nat.reduceMul, Nat.mul_one, Int.toNat_natCast, Int.reduceToNat, Nat.zero_mul]) | rfl)) ?_
    refine XOA.rd rfl (Rd.load rfl (by first | (exact Ld.atBlk (tyrow rfl) rfl (by ((repeat (first | with_reducible exact Sel.head | apply Sel.tail)); (first | done | fail))) rfl (by first | exact take0 (by first | rfl | assumption | (simp [*]; (first | done | fail)) | (simp [*]; (first | done | fail))) | assumption | exact take_app (by first | rfl | assumption | (simp [*]; (first | done | fail)) | (simp [*]; (first | done | fail))) | (conv => lhs; simp only [List.drop_succ_cons, List.drop_zero, List.take_succ_cons, List.take_zero])) (by first | rfl | assumption | (simp [*]; (first | done | fail)) | (simp [*]; (first | done | fail)))) | (exact Ld.at (tyrow rfl) rfl (At.per (by assumption)) (by first | rfl | assumption | (simp [*]; (first | done | fail)) | (simp [*]; (first | done | fail)))) | (exact Ld.atLst (tyrow rfl) rfl (by ((repeat (first | with_reducible exact Sel.head | apply Sel.tail)); (first | done | fail))) rfl (by first | exact take0 (by first | rfl | assumption | (simp [*]; (first | done | fail)) | (simp [*]; (first | done | fail))) | assumption | exact take_app (by first | rfl | assumption | (simp [*]; (first | done | fail)) | (simp [*]; (first | done | fail))) | (conv => lhs; simp only [List.drop_succ_cons, List.drop_zero, List.take_succ_cons, List.take_zero])) (by first | rfl | assumption | (simp [*]; (first | done | fail)) | (simp [*]; (first | done | fail)))))) ?_
    refine XOA.wr0 rfl (WrA.alloc (tyrow rfl)) ?_
    rintro _ _ _ ⟨g8, rfl, rfl, rfl⟩
    refine XOA.wr0 rfl (by apply WrA.store; exact tyrow rfl; rfl; (focus (first | (((repeat (first | with_reducible exact Sel.head | apply Sel.tail)); (first | done | fail))))); exact (by with_reducible (conv => lhs; whnf)); exact (by first | exact wv_cells _ | exact agg_cells _ | rfl); exact (by first | rfl | assumption | (simp [*]; (first | done | fail)) | (simp [*]; (first | done | fail))); exact (by first | exact Nat.le_refl _ | exact hfit | decide | (simp [*]; (first | done | fail)) | (simp; omega)); exact (by (repeat (first | assumption | exact ones_ints _ | exact ones_lit rfl | refine ones_cons rfl ?_ | refine ones_append ?_ ?_)); (first | done | fail)); exact (by first | ((with_reducible apply splice_all); (first | rfl | (simp [*]; (first | done | fail)))) | assumption | exact hspl _ | (conv => lhs; simp only [splice, List.take_zero, List.take_succ_cons, List.drop_zero, List.drop_succ_cons, List.length_cons, List.length_nil, List.nil_append, List.cons_append, List.append_nil, List.append_eq, Nat.reduceAdd, Nat.zero_add, Nat.add_zero]) | rfl)) ?_
    rintro _ _ _ ⟨rfl, rfl, rfl⟩
    refine XOA.nil ?_
    refine DA.thn_normal ?_
    refine XA.seq ?_
    refine XA.seq ?_
    refine XA.region ?_
    refine XOA.rd rfl (Rd.fieldAddr (tyrow rfl) rfl rfl (tyrow rfl) rfl rfl (by first | (conv => lhs; simp only [Nat.reduceAdd, Nat.zero_add, Nat.add_zero, Nat.reduceMul, Nat.mul_one, Int.toNat_natCast, Int.reduceToNat, Nat.zero_mul]) | rfl)) ?_
    refine XOA.rd rfl (Rd.load rfl (Ld.atC (tyrow rfl) rfl (by first | (exact AtC.blk (by ((repeat (first | with_reducible exact Sel.head | apply Sel.tail)); (first | done | fail))) (by first | rfl | assumption)) | (exact AtC.per (by first | assumption)) | (exact AtC.lst (by ((repeat (first | with_reducible exact Sel.head | apply Sel.tail)); (first | done | fail))) (by first | rfl | assumption))))) ?_
    refine XOA.nil ?_
    refine DA.thn_normal ?_
    refine XA.join [(4, 4), (31, 61)] (fun _ : DiskS × PlateS => []) (fun y σ' Γ' => σ = σ' ∧ y.1.ok ∧ y.2.ok ∧ DP y.1 y.2 ∧ y.2.ws.length ≤ k + 1 ∧ Γ' = [blk g8 x.cells 35, Disk b y.1, Plate g18 y.2]) ?_ ?_
    · have hdl := hdp.len
      refine XA.block ?_
      refine XA.seq ?_
      refine XA.region ?_
      refine XOA.rd rfl (Rd.eql rfl rfl) ?_
      refine XOA.rd rfl (Rd.assign (by with_reducible (conv => lhs; whnf))) ?_
      refine XOA.nil ?_
      refine DA.thn_normal ?_
      refine XA.condp rfl (fun k0 => ?_) (fun k0 => ?_)
      · refine XA.seq ?_
        refine XA.draw (by kernel_rfl) _ _ [11] [(0, .pu), (1, .pu), (2, .rd), (3, .pu), (4, .rd), (6, .pu), (7, .pu), (8, .rd), (9, .pu), (10, .rd), (5, .wr), (11, .wr), (12, .pu)] (by kernel_rfl) (PH.sub.refl _) (Ent.sel (R := blk g8 _ _) (by ((repeat (first | with_reducible exact Sel.head | apply Sel.tail)); (first | done | fail))) (Ent.nil _)) ?_
        refine XPA.pu rfl rfl Gd.free (Rd.move (by with_reducible (conv => lhs; whnf))) ?_
        refine XPA.pu rfl rfl Gd.free (Rd.fieldAddr (tyrow rfl) rfl rfl (tyrow rfl) rfl rfl (by first | (conv => lhs; simp only [Nat.reduceAdd, Nat.zero_add, Nat.add_zero, Nat.reduceMul, Nat.mul_one, Int.toNat_natCast, Int.reduceToNat, Nat.zero_mul]) | rfl)) ?_
        refine XPA.rd rfl rfl Gd.free (Rd.load rfl (Ld.atC (tyrow rfl) rfl (by first | (exact AtC.blk (by ((repeat (first | with_reducible exact Sel.head | apply Sel.tail)); (first | done | fail))) (by first | rfl | assumption)) | (exact AtC.per (by first | assumption)) | (exact AtC.lst (by ((repeat (first | with_reducible exact Sel.head | apply Sel.tail)); (first | done | fail))) (by first | rfl | assumption))))) ?_
        refine XPA.pu rfl rfl Gd.free (Rd.fieldAddr (tyrow rfl) rfl rfl (tyrow rfl) rfl rfl (by first | (conv => lhs; simp only [Nat.reduceAdd, Nat.zero_add, Nat.add_zero, Nat.reduceMul, Nat.mul_one, Int.toNat_natCast, Int.reduceToNat, Nat.zero_mul]) | rfl)) ?_
        refine XPA.rd rfl rfl Gd.free (Rd.load rfl (by first | (exact Ld.atBlk (tyrow rfl) rfl (by ((repeat (first | with_reducible exact Sel.head | apply Sel.tail)); (first | done | fail))) rfl (by first | exact take0 (by first | rfl | assumption | (simp [*]; (first | done | fail)) | (simp [*]; (first | done | fail))) | assumption | exact take_app (by first | rfl | assumption | (simp [*]; (first | done | fail)) | (simp [*]; (first | done | fail))) | (conv => lhs; simp only [List.drop_succ_cons, List.drop_zero, List.take_succ_cons, List.take_zero])) (by first | rfl | assumption | (simp [*]; (first | done | fail)) | (simp [*]; (first | done | fail)))) | (exact Ld.at (tyrow rfl) rfl (At.per (by assumption)) (by first | rfl | assumption | (simp [*]; (first | done | fail)) | (simp [*]; (first | done | fail)))) | (exact Ld.atLst (tyrow rfl) rfl (by ((repeat (first | with_reducible exact Sel.head | apply Sel.tail)); (first | done | fail))) rfl (by first | exact take0 (by first | rfl | assumption | (simp [*]; (first | done | fail)) | (simp [*]; (first | done | fail))) | assumption | exact take_app (by first | rfl | assumption | (simp [*]; (first | done | fail)) | (simp [*]; (first | done | fail))) | (conv => lhs; simp only [List.drop_succ_cons, List.drop_zero, List.take_succ_cons, List.take_zero])) (by first | rfl | assumption | (simp [*]; (first | done | fail)) | (simp [*]; (first | done | fail)))))) ?_
        refine XPA.pu rfl rfl Gd.free (Rd.move (by with_reducible (conv => lhs; whnf))) ?_
        refine XPA.pu rfl rfl Gd.free (Rd.fieldAddr (tyrow rfl) rfl rfl (tyrow rfl) rfl rfl (by first | (conv => lhs; simp only [Nat.reduceAdd, Nat.zero_add, Nat.add_zero, Nat.reduceMul, Nat.mul_one, Int.toNat_natCast, Int.reduceToNat, Nat.zero_mul]) | rfl)) ?_
        refine XPA.rd rfl rfl Gd.free (Rd.load rfl (Ld.atC (tyrow rfl) rfl (by first | (exact AtC.blk (by ((repeat (first | with_reducible exact Sel.head | apply Sel.tail)); (first | done | fail))) (by first | rfl | assumption)) | (exact AtC.per (by first | assumption)) | (exact AtC.lst (by ((repeat (first | with_reducible exact Sel.head | apply Sel.tail)); (first | done | fail))) (by first | rfl | assumption))))) ?_
        refine XPA.pu rfl rfl Gd.free (Rd.fieldAddr (tyrow rfl) rfl rfl (tyrow rfl) rfl rfl (by first | (conv => lhs; simp only [Nat.reduceAdd, Nat.zero_add, Nat.add_zero, Nat.reduceMul, Nat.mul_one, Int.toNat_natCast, Int.reduceToNat, Nat.zero_mul]) | rfl)) ?_
        refine XPA.rd rfl rfl Gd.free (Rd.load rfl (by first | (exact Ld.atBlk (tyrow rfl) rfl (by ((repeat (first | with_reducible exact Sel.head | apply Sel.tail)); (first | done | fail))) rfl (by first | exact take0 (by first | rfl | assumption | (simp [*]; (first | done | fail)) | (simp [*]; (first | done | fail))) | assumption | exact take_app (by first | rfl | assumption | (simp [*]; (first | done | fail)) | (simp [*]; (first | done | fail))) | (conv => lhs; simp only [List.drop_succ_cons, List.drop_zero, List.take_succ_cons, List.take_zero])) (by first | rfl | assumption | (simp [*]; (first | done | fail)) | (simp [*]; (first | done | fail)))) | (exact Ld.at (tyrow rfl) rfl (At.per (by assumption)) (by first | rfl | assumption | (simp [*]; (first | done | fail)) | (simp [*]; (first | done | fail)))) | (exact Ld.atLst (tyrow rfl) rfl (by ((repeat (first | with_reducible exact Sel.head | apply Sel.tail)); (first | done | fail))) rfl (by first | exact take0 (by first | rfl | assumption | (simp [*]; (first | done | fail)) | (simp [*]; (first | done | fail))) | assumption | exact take_app (by first | rfl | assumption | (simp [*]; (first | done | fail)) | (simp [*]; (first | done | fail))) | (conv => lhs; simp only [List.drop_succ_cons, List.drop_zero, List.take_succ_cons, List.take_zero])) (by first | rfl | assumption | (simp [*]; (first | done | fail)) | (simp [*]; (first | done | fail)))))) ?_
        refine XPA.wr0 rfl rfl Gd.free (WrA.callE (by (repeat (first | exact Ent.all _ | (apply Ent.take; focus (first | ((repeat (first | with_reducible exact Sel.head | apply Sel.tail)); done) | ((repeat (first | exact Sel.head | apply Sel.tail)); done))) | apply Ent.takeNil | apply Ent.takeEmp)); (first | done | fail)) (write_a σ b d x.at_ x.w hx8 (by omega)) rfl) ?_
        rintro _ _ _ ⟨_, ⟨rfl, rfl, rfl⟩, rfl⟩
        refine ⟨⟨(by first | exact PH.sub.refl _ | assumption), (by (repeat (first | exact Ent.nil _ | (apply Ent.sel; focus (first | ((repeat (first | with_reducible exact Sel.head | apply Sel.tail)); done) | ((repeat (first | exact Sel.head | apply Sel.tail)); done))) | apply Ent.selNil | apply Ent.selEmp)); (first | done | fail))⟩, XPA.re (by conv => lhs; dsimp only [List.cons_append, List.nil_append]) ?_⟩
        refine XPA.wrZ0 rfl rfl Gd.free (by kernel_rfl) (WrA.callE (by (repeat (first | exact Ent.all _ | (apply Ent.take; focus (first | ((repeat (first | with_reducible exact Sel.head | apply Sel.tail)); done) | ((repeat (first | exact Sel.head | apply Sel.tail)); done))) | apply Ent.takeNil | apply Ent.takeEmp)); (first | done | fail)) (pwrite_a σ g18 q x.at_ x.w hx8 (by omega)) rfl) ?_
        rintro _ _ _ ⟨_, ⟨rfl, rfl, rfl⟩, rfl⟩
        refine XPA.re (by conv => lhs; dsimp only [List.cons_append, List.nil_append]) ?_
        refine XPA.pu rfl rfl Gd.free (Rd.neqb (tyrow rfl) rfl rfl rfl) ?_
        refine XPA.nil ?_
        refine DA.thn_normal ?_
        refine XA.condF rfl (decide_eq_false (fun h => h rfl)) ?_
        refine XA.skip ?_
        refine DA.inb_normal ?_
        refine DA.thn_normal ?_
        refine ⟨(Keep.upd (Keep.updO (Keep.updO (Keep.upd (Keep.upd (Keep.upd (Keep.upd (Keep.upd (Keep.upd (Keep.upd (Keep.upd (Keep.upd (Keep.upd (Keep.upd (Keep.upd (Keep.refl _ _) rfl) rfl) rfl) rfl) rfl) rfl) rfl) rfl) rfl) rfl) rfl) rfl) rfl) rfl) rfl), (d.write x.at_ x.w, q.write x.at_ x.w), _, (by (repeat (first | exact trivial | refine ⟨rfl, ?_⟩ | refine ⟨Eq.trans rfl (congrArg Value.bool hmat.symm), ?_⟩)); (first | done | fail)), ?_, ⟨rfl, hok.write hx8, hqk.write hx8, hdp.write hqk.1 _ _, Nat.le_trans (pwrite_len _ _ _) (by omega), rfl⟩⟩
        · exact (by (repeat (first | exact Ent.nil _ | (apply Ent.sel; focus (first | ((repeat (first | with_reducible exact Sel.head | apply Sel.tail)); done) | ((repeat (first | exact Sel.head | apply Sel.tail)); done))) | apply Ent.selNil | apply Ent.selEmp)); (first | done | fail))
      refine XA.seq ?_
      refine XA.region ?_
      refine XOA.rd rfl (Rd.eql rfl rfl) ?_
      refine XOA.rd rfl (Rd.assign (by with_reducible (conv => lhs; whnf))) ?_
      refine XOA.nil ?_
      refine DA.thn_normal ?_
      refine XA.condp rfl (fun k1 => ?_) (fun k1 => ?_)
      · refine XA.seq ?_
        refine XA.region ?_
        refine XOA.rd rfl (Rd.move (by with_reducible (conv => lhs; whnf))) ?_
        refine XOA.wr0 rfl (WrA.callE (by (repeat (first | exact Ent.all _ | (apply Ent.take; focus (first | ((repeat (first | with_reducible exact Sel.head | apply Sel.tail)); done) | ((repeat (first | exact Sel.head | apply Sel.tail)); done))) | apply Ent.takeNil | apply Ent.takeEmp)); (first | done | fail)) (flush_a σ b d (by omega)) rfl) ?_
        rintro _ _ _ ⟨_, ⟨rfl, rfl, rfl⟩, rfl⟩
        refine XOA.re (by conv => lhs; dsimp only [List.cons_append, List.nil_append]) ?_
        refine XOA.nil ?_
        refine DA.thn_normal ?_
        refine XA.region ?_
        refine XOA.rd rfl (Rd.move (by with_reducible (conv => lhs; whnf))) ?_
        refine XOA.wr0 rfl (WrA.callE (by (repeat (first | exact Ent.all _ | (apply Ent.take; focus (first | ((repeat (first | with_reducible exact Sel.head | apply Sel.tail)); done) | ((repeat (first | exact Sel.head | apply Sel.tail)); done))) | apply Ent.takeNil | apply Ent.takeEmp)); (first | done | fail)) (pflush_a σ g18 q) rfl) ?_
        rintro _ _ _ ⟨_, ⟨rfl, rfl, rfl⟩, rfl⟩
        refine XOA.re (by conv => lhs; dsimp only [List.cons_append, List.nil_append]) ?_
        refine XOA.nil ?_
        refine DA.inb_normal ?_
        refine DA.thn_normal ?_
        refine ⟨(Keep.updO (Keep.upd (Keep.updO (Keep.upd (Keep.upd (Keep.upd (Keep.upd (Keep.upd (Keep.refl _ _) rfl) rfl) rfl) rfl) rfl) rfl) rfl) rfl), (d.settle (fun _ => true), { q with sure := q.ws.length }), _, (by (repeat (first | exact trivial | refine ⟨rfl, ?_⟩ | refine ⟨Eq.trans rfl (congrArg Value.bool hmat.symm), ?_⟩)); (first | done | fail)), ?_, ⟨rfl, settled_ok hok _, ⟨Nat.le_refl _, hqk.2⟩, hdp.flush hok, by simp only; omega, rfl⟩⟩
        · exact (by (repeat (first | exact Ent.nil _ | (apply Ent.sel; focus (first | ((repeat (first | with_reducible exact Sel.head | apply Sel.tail)); done) | ((repeat (first | exact Sel.head | apply Sel.tail)); done))) | apply Ent.selNil | apply Ent.selEmp)); (first | done | fail))
      refine XA.seq ?_
      refine XA.region ?_
      refine XOA.rd rfl (Rd.eql rfl rfl) ?_
      refine XOA.rd rfl (Rd.assign (by with_reducible (conv => lhs; whnf))) ?_
      refine XOA.nil ?_
      refine DA.thn_normal ?_
      refine XA.condp rfl (fun k2 => ?_) (fun k2 => ?_)
      · refine XA.seq ?_
        refine XA.region ?_
        refine XOA.rd rfl (Rd.move (by with_reducible (conv => lhs; whnf))) ?_
        refine XOA.rd rfl (Rd.fieldAddr (tyrow rfl) rfl rfl (tyrow rfl) rfl rfl (by first | (conv => lhs; simp only [Nat.reduceAdd, Nat.zero_add, Nat.add_zero, Nat.reduceMul, Nat.mul_one, Int.toNat_natCast, Int.reduceToNat, Nat.zero_mul]) | rfl)) ?_
        refine XOA.rd rfl (Rd.load rfl (Ld.atC (tyrow rfl) rfl (by first | (exact AtC.blk (by ((repeat (first | with_reducible exact Sel.head | apply Sel.tail)); (first | done | fail))) (by first | rfl | assumption)) | (exact AtC.per (by first | assumption)) | (exact AtC.lst (by ((repeat (first | with_reducible exact Sel.head | apply Sel.tail)); (first | done | fail))) (by first | rfl | assumption))))) ?_
        refine XOA.wr0 rfl (WrA.callE (by (repeat (first | exact Ent.all _ | (apply Ent.take; focus (first | ((repeat (first | with_reducible exact Sel.head | apply Sel.tail)); done) | ((repeat (first | exact Sel.head | apply Sel.tail)); done))) | apply Ent.takeNil | apply Ent.takeEmp)); (first | done | fail)) (crash_a σ b d x.mask (by omega) hxm.1 hxm.2) rfl) ?_
        rintro _ _ _ ⟨_, ⟨rfl, rfl, rfl⟩, rfl⟩
        refine XOA.re (by conv => lhs; dsimp only [List.cons_append, List.nil_append]) ?_
        refine XOA.nil ?_
        refine DA.thn_normal ?_
        refine XA.region ?_
        refine XOA.rd rfl (Rd.move (by with_reducible (conv => lhs; whnf))) ?_
        refine XOA.rd rfl (Rd.fieldAddr (tyrow rfl) rfl rfl (tyrow rfl) rfl rfl (by first | (conv => lhs; simp only [Nat.reduceAdd, Nat.zero_add, Nat.add_zero, Nat.reduceMul, Nat.mul_one, Int.toNat_natCast, Int.reduceToNat, Nat.zero_mul]) | rfl)) ?_
        refine XOA.rd rfl (Rd.load rfl (Ld.atC (tyrow rfl) rfl (by first | (exact AtC.blk (by ((repeat (first | with_reducible exact Sel.head | apply Sel.tail)); (first | done | fail))) (by first | rfl | assumption)) | (exact AtC.per (by first | assumption)) | (exact AtC.lst (by ((repeat (first | with_reducible exact Sel.head | apply Sel.tail)); (first | done | fail))) (by first | rfl | assumption))))) ?_
        refine XOA.wr0 rfl (WrA.callE (by (repeat (first | exact Ent.all _ | (apply Ent.take; focus (first | ((repeat (first | with_reducible exact Sel.head | apply Sel.tail)); done) | ((repeat (first | exact Sel.head | apply Sel.tail)); done))) | apply Ent.takeNil | apply Ent.takeEmp)); (first | done | fail)) (pcrash_a σ g18 q x.mask (by omega) hxm.1 hxm.2) rfl) ?_
        rintro _ _ _ ⟨_, ⟨rfl, rfl, rfl⟩, rfl⟩
        refine XOA.re (by conv => lhs; dsimp only [List.cons_append, List.nil_append]) ?_
        refine XOA.nil ?_
        refine DA.inb_normal ?_
        refine DA.thn_normal ?_
        refine ⟨(Keep.updO (Keep.upd (Keep.upd (Keep.upd (Keep.updO (Keep.upd (Keep.upd (Keep.upd (Keep.upd (Keep.upd (Keep.upd (Keep.upd (Keep.upd (Keep.upd (Keep.refl _ _) rfl) rfl) rfl) rfl) rfl) rfl) rfl) rfl) rfl) rfl) rfl) rfl) rfl) rfl), (d.settle (bitOf x.mask), q.crash (bitOf x.mask)), _, (by (repeat (first | exact trivial | refine ⟨rfl, ?_⟩ | refine ⟨Eq.trans rfl (congrArg Value.bool hmat.symm), ?_⟩)); (first | done | fail)), ?_, ⟨rfl, settled_ok hok _, hqk.crash _, hdp.crash hok _, Nat.le_trans (crash_len _ _) (by omega), rfl⟩⟩
        · exact (by (repeat (first | exact Ent.nil _ | (apply Ent.sel; focus (first | ((repeat (first | with_reducible exact Sel.head | apply Sel.tail)); done) | ((repeat (first | exact Sel.head | apply Sel.tail)); done))) | apply Ent.selNil | apply Ent.selEmp)); (first | done | fail))
      refine XA.skip ?_
      refine DA.inb_normal ?_
      refine DA.thn_normal ?_
      refine ⟨(Keep.upd (Keep.upd (Keep.upd (Keep.upd (Keep.upd (Keep.upd (Keep.refl _ _) rfl) rfl) rfl) rfl) rfl) rfl), (d, q), _, (by (repeat (first | exact trivial | refine ⟨rfl, ?_⟩ | refine ⟨Eq.trans rfl (congrArg Value.bool hmat.symm), ?_⟩)); (first | done | fail)), ?_, ⟨rfl, hok, hqk, hdp, by simp only; omega, rfl⟩⟩
      · exact (by (repeat (first | exact Ent.nil _ | (apply Ent.sel; focus (first | ((repeat (first | with_reducible exact Sel.head | apply Sel.tail)); done) | ((repeat (first | exact Sel.head | apply Sel.tail)); done))) | apply Ent.selNil | apply Ent.selEmp)); (first | done | fail))
    rintro ⟨d2, q2⟩ δ2 _ _ ⟨rfl, hok2, hqk2, hdp2, hql2, rfl⟩
    dsimp only [ovr, List.foldl]
    refine DA.thn_normal ?_
    refine XA.seq ?_
    have hok2 : d2.ok := hok2
    have hqk2 : q2.ok := hqk2
    have hdp2 : DP d2 q2 := hdp2
    have hql2 : q2.ws.length ≤ k + 1 := hql2
    have hdl2 := hdp2.len
    have hsl2 := hqk2.1
    have hra := hdp2.read a
    have hrx := hdp2.read x.at_
    have len8 : ∀ y, (d2.read y).length = 8 := fun y => by
      unfold DiskS.read; split
      · exact len_last (held8 hok2 y) _ _ (fun p hp => (hok2.2.2 p hp).2)
      · rfl
    have ha8 := len8 a
    have hy8 := len8 x.at_
    have hna : ¬ (d2.read a ≠ d2.read a) := fun h => h rfl
    have hnx : ¬ (d2.read x.at_ ≠ d2.read x.at_) := fun h => h rfl
    first | refine XA.opn (R := Plate g18 q2) (by ((repeat (first | with_reducible exact Sel.head | apply Sel.tail)); (first | done | fail))) (Plate.opn) ?_ | refine XOA.opn (R := Plate g18 q2) (by ((repeat (first | with_reducible exact Sel.head | apply Sel.tail)); (first | done | fail))) (Plate.opn) ?_ | refine DA.opn (R := Plate g18 q2) (by ((repeat (first | with_reducible exact Sel.head | apply Sel.tail)); (first | done | fail))) (Plate.opn) ?_
    rintro ⟨⟨pa, ca⟩, pw, cw⟩ -
    first | refine XA.re (by conv => lhs; dsimp only [List.cons_append, List.nil_append]) ?_ | refine XOA.re (by conv => lhs; dsimp only [List.cons_append, List.nil_append]) ?_ | refine DA.re (by conv => lhs; dsimp only [List.cons_append, List.nil_append]) ?_
    by_cases h0 : 0 ≤ x.at_
    · have hnb : ¬ (decide (0 ≤ x.at_ ∧ x.at_ < 34) ≠ decide (x.at_ < 34)) := by simp [h0]
      refine XA.draw (by kernel_rfl) _ _ [] [(0, .pu), (2, .pu), (3, .pu), (4, .pu), (5, .rd), (6, .pu), (7, .pu), (8, .pu), (9, .pu), (10, .rd), (11, .pu), (1, .wr), (12, .pu), (13, .pu), (14, .pu), (15, .pu), (17, .pu), (18, .pu), (16, .wr), (19, .wr), (20, .pu), (21, .pu), (22, .pu), (23, .pu), (24, .pu), (25, .rd), (27, .pu), (28, .pu), (29, .rd), (26, .wr), (30, .wr), (31, .pu), (32, .pu), (33, .pu), (34, .pu), (35, .rd), (37, .pu), (38, .rd), (39, .pu), (36, .wr), (40, .pu), (41, .pu), (42, .rd), (43, .pu), (44, .pu), (45, .pu), (46, .pu)] (by kernel_rfl) (PH.sub.refl _) (Ent.sel (R := blk g8 _ _) (by ((repeat (first | with_reducible exact Sel.head | apply Sel.tail)); (first | done | fail))) (Ent.sel (R := blk g18 _ _) (by ((repeat (first | with_reducible exact Sel.head | apply Sel.tail)); (first | done | fail))) (Ent.nil _))) ?_
      refine XPA.pu rfl rfl Gd.free (Rd.move (by with_reducible (conv => lhs; whnf))) ?_
      refine XPA.pu rfl rfl Gd.free (Rd.move (by with_reducible (conv => lhs; whnf))) ?_
      refine XPA.pu rfl rfl Gd.free (Rd.nilCheck rfl) ?_
      refine XPA.pu rfl rfl Gd.free (Rd.fieldAddr (tyrow rfl) rfl rfl (tyrow rfl) rfl rfl (by first | (conv => lhs; simp only [Nat.reduceAdd, Nat.zero_add, Nat.add_zero, Nat.reduceMul, Nat.mul_one, Int.toNat_natCast, Int.reduceToNat, Nat.zero_mul]) | rfl)) ?_
      refine XPA.rd rfl rfl Gd.free (Rd.load rfl (Ld.atC (tyrow rfl) rfl (by first | (exact AtC.blk (by ((repeat (first | with_reducible exact Sel.head | apply Sel.tail)); (first | done | fail))) (by first | rfl | assumption)) | (exact AtC.per (by first | assumption)) | (exact AtC.lst (by ((repeat (first | with_reducible exact Sel.head | apply Sel.tail)); (first | done | fail))) (by first | rfl | assumption))))) ?_
      refine XPA.pu rfl rfl Gd.free (Rd.lenSlice (tyrow rfl) rfl rfl) ?_
      refine XPA.pu rfl rfl Gd.free (Rd.move (by with_reducible (conv => lhs; whnf))) ?_
      refine XPA.pu rfl rfl Gd.free (Rd.nilCheck rfl) ?_
      refine XPA.pu rfl rfl Gd.free (Rd.fieldAddr (tyrow rfl) rfl rfl (tyrow rfl) rfl rfl (by first | (conv => lhs; simp only [Nat.reduceAdd, Nat.zero_add, Nat.add_zero, Nat.reduceMul, Nat.mul_one, Int.toNat_natCast, Int.reduceToNat, Nat.zero_mul]) | rfl)) ?_
      refine XPA.rd rfl rfl Gd.free (Rd.load rfl (Ld.atC (tyrow rfl) rfl (by first | (exact AtC.blk (by ((repeat (first | with_reducible exact Sel.head | apply Sel.tail)); (first | done | fail))) (by first | rfl | assumption)) | (exact AtC.per (by first | assumption)) | (exact AtC.lst (by ((repeat (first | with_reducible exact Sel.head | apply Sel.tail)); (first | done | fail))) (by first | rfl | assumption))))) ?_
      refine XPA.pu rfl rfl Gd.free (by first | exact Rd.subi rfl rfl rfl (by omega) | exact Rd.sub rfl rfl) ?_
      refine XPA.wr0 rfl rfl Gd.free (WrA.callE (by (repeat (first | exact Ent.all _ | (apply Ent.take; focus (first | ((repeat (first | with_reducible exact Sel.head | apply Sel.tail)); done) | ((repeat (first | exact Sel.head | apply Sel.tail)); done))) | apply Ent.takeNil | apply Ent.takeEmp)); (first | done | fail)) (wait_a σ b d2) rfl) ?_
      rintro _ _ _ ⟨_, ⟨rfl, rfl, rfl⟩, rfl⟩
      refine ⟨⟨(by first | exact PH.sub.refl _ | assumption), (by (repeat (first | exact Ent.nil _ | (apply Ent.sel; focus (first | ((repeat (first | with_reducible exact Sel.head | apply Sel.tail)); done) | ((repeat (first | exact Sel.head | apply Sel.tail)); done))) | apply Ent.selNil | apply Ent.selEmp)); (first | done | fail))⟩, XPA.re (by conv => lhs; dsimp only [List.cons_append, List.nil_append]) ?_⟩
      refine XPA.pu rfl rfl Gd.free (Rd.neq rfl rfl) ?_
      refine XPA.pu rfl rfl Gd.free (Rd.move (by with_reducible (conv => lhs; whnf))) ?_
      first | refine XPA.pu rfl rfl (by first | exact Gd.free | exact Gd.isB rfl rfl rfl | (apply Gd.isQ; rfl; rfl; exact (by first | exact (rfl : decide _ = true) | exact (rfl : decide _ = false) | (refine decide_eq_true ?_; assumption) | (refine decide_eq_false ?_; assumption) | (refine decide_eq_true ?_; omega) | (refine decide_eq_false ?_; omega)); rfl)) (Rd.move (by with_reducible (conv => lhs; whnf))) ?_ | refine XPA.puOff rfl rfl (by first | exact Gd.isB rfl rfl rfl | exact Gd.un rfl rfl | (apply Gd.isQ; rfl; rfl; exact (by first | exact (rfl : decide _ = true) | exact (rfl : decide _ = false) | (refine decide_eq_true ?_; assumption) | (refine decide_eq_false ?_; assumption) | (refine decide_eq_true ?_; omega) | (refine decide_eq_false ?_; omega)); rfl)) ?_
      first | refine XPA.pu rfl rfl (by first | exact Gd.free | exact Gd.isB rfl rfl rfl | (apply Gd.isQ; rfl; rfl; exact (by first | exact (rfl : decide _ = true) | exact (rfl : decide _ = false) | (refine decide_eq_true ?_; assumption) | (refine decide_eq_false ?_; assumption) | (refine decide_eq_true ?_; omega) | (refine decide_eq_false ?_; omega)); rfl)) (Rd.move (by with_reducible (conv => lhs; whnf))) ?_ | refine XPA.puOff rfl rfl (by first | exact Gd.isB rfl rfl rfl | exact Gd.un rfl rfl | (apply Gd.isQ; rfl; rfl; exact (by first | exact (rfl : decide _ = true) | exact (rfl : decide _ = false) | (refine decide_eq_true ?_; assumption) | (refine decide_eq_false ?_; assumption) | (refine decide_eq_true ?_; omega) | (refine decide_eq_false ?_; omega)); rfl)) ?_
      first | refine XPA.pu rfl rfl (by first | exact Gd.free | exact Gd.isB rfl rfl rfl | (apply Gd.isQ; rfl; rfl; exact (by first | exact (rfl : decide _ = true) | exact (rfl : decide _ = false) | (refine decide_eq_true ?_; assumption) | (refine decide_eq_false ?_; assumption) | (refine decide_eq_true ?_; omega) | (refine decide_eq_false ?_; omega)); rfl)) (Rd.move (by with_reducible (conv => lhs; whnf))) ?_ | refine XPA.puOff rfl rfl (by first | exact Gd.isB rfl rfl rfl | exact Gd.un rfl rfl | (apply Gd.isQ; rfl; rfl; exact (by first | exact (rfl : decide _ = true) | exact (rfl : decide _ = false) | (refine decide_eq_true ?_; assumption) | (refine decide_eq_false ?_; assumption) | (refine decide_eq_true ?_; omega) | (refine decide_eq_false ?_; omega)); rfl)) ?_
      first | refine XPA.pu rfl rfl (by first | exact Gd.free | exact Gd.isB rfl rfl rfl | (apply Gd.isQ; rfl; rfl; exact (by first | exact (rfl : decide _ = true) | exact (rfl : decide _ = false) | (refine decide_eq_true ?_; assumption) | (refine decide_eq_false ?_; assumption) | (refine decide_eq_true ?_; omega) | (refine decide_eq_false ?_; omega)); rfl)) (Rd.move (by with_reducible (conv => lhs; whnf))) ?_ | refine XPA.puOff rfl rfl (by first | exact Gd.isB rfl rfl rfl | exact Gd.un rfl rfl | (apply Gd.isQ; rfl; rfl; exact (by first | exact (rfl : decide _ = true) | exact (rfl : decide _ = false) | (refine decide_eq_true ?_; assumption) | (refine decide_eq_false ?_; assumption) | (refine decide_eq_true ?_; omega) | (refine decide_eq_false ?_; omega)); rfl)) ?_
      refine XPA.wr0 rfl rfl (by first | exact Gd.free | exact Gd.isB rfl rfl rfl | (apply Gd.isQ; rfl; rfl; exact (by first | exact (rfl : decide _ = true) | exact (rfl : decide _ = false) | (refine decide_eq_true ?_; assumption) | (refine decide_eq_false ?_; assumption) | (refine decide_eq_true ?_; omega) | (refine decide_eq_false ?_; omega)); rfl)) (WrA.callE (by (repeat (first | exact Ent.all _ | (apply Ent.take; focus (first | ((repeat (first | with_reducible exact Sel.head | apply Sel.tail)); done) | ((repeat (first | exact Sel.head | apply Sel.tail)); done))) | apply Ent.takeNil | apply Ent.takeEmp)); (first | done | fail)) (read_a σ b d2 a (by omega)) rfl) ?_
      rintro _ _ _ ⟨_, ⟨rfl, rfl, rfl⟩, rfl⟩
      refine ⟨⟨(by first | exact PH.sub.refl _ | assumption), (by (repeat (first | exact Ent.nil _ | (apply Ent.sel; focus (first | ((repeat (first | with_reducible exact Sel.head | apply Sel.tail)); done) | ((repeat (first | exact Sel.head | apply Sel.tail)); done))) | apply Ent.selNil | apply Ent.selEmp)); (first | done | fail))⟩, XPA.re (by conv => lhs; dsimp only [List.cons_append, List.nil_append]) ?_⟩
      refine XPA.wr0 rfl rfl (by first | exact Gd.free | exact Gd.isB rfl rfl rfl | (apply Gd.isQ; rfl; rfl; exact (by first | exact (rfl : decide _ = true) | exact (rfl : decide _ = false) | (refine decide_eq_true ?_; assumption) | (refine decide_eq_false ?_; assumption) | (refine decide_eq_true ?_; omega) | (refine decide_eq_false ?_; omega)); rfl)) (WrA.callE (by (repeat (first | exact Ent.all _ | (apply Ent.take; focus (first | ((repeat (first | with_reducible exact Sel.head | apply Sel.tail)); done) | ((repeat (first | exact Sel.head | apply Sel.tail)); done))) | apply Ent.takeNil | apply Ent.takeEmp)); (first | done | fail)) (pRead_o σ g18 q2 a (by omega) hqk2 pa pw ca cw) rfl) ?_
      rintro _ _ _ ⟨_, ⟨rfl, rfl, rfl⟩, rfl⟩
      refine ⟨⟨(by first | exact PH.sub.refl _ | assumption), (by (repeat (first | exact Ent.nil _ | (apply Ent.sel; focus (first | ((repeat (first | with_reducible exact Sel.head | apply Sel.tail)); done) | ((repeat (first | exact Sel.head | apply Sel.tail)); done))) | apply Ent.selNil | apply Ent.selEmp)); (first | done | fail))⟩, XPA.re (by conv => lhs; dsimp only [List.cons_append, List.nil_append]) ?_⟩
      rw [← hra]
      first | refine XPA.pu rfl rfl (by first | exact Gd.free | exact Gd.isB rfl rfl rfl | (apply Gd.isQ; rfl; rfl; exact (by first | exact (rfl : decide _ = true) | exact (rfl : decide _ = false) | (refine decide_eq_true ?_; assumption) | (refine decide_eq_false ?_; assumption) | (refine decide_eq_true ?_; omega) | (refine decide_eq_false ?_; omega)); rfl)) (Rd.neqWords (tyrow rfl) rfl (tyrow rfl) rfl rfl (by kernel_rfl) rfl rfl (by first | assumption | rfl | (simp; (first | done | fail)) | (simp [*]; (first | done | fail))) (by first | assumption | rfl | (simp; (first | done | fail)) | (simp [*]; (first | done | fail)))) ?_ | refine XPA.puOff rfl rfl (by first | exact Gd.isB rfl rfl rfl | exact Gd.un rfl rfl | (apply Gd.isQ; rfl; rfl; exact (by first | exact (rfl : decide _ = true) | exact (rfl : decide _ = false) | (refine decide_eq_true ?_; assumption) | (refine decide_eq_false ?_; assumption) | (refine decide_eq_true ?_; omega) | (refine decide_eq_false ?_; omega)); rfl)) ?_
      refine XPA.pu rfl rfl Gd.free (by first | exact Rd.pickT rfl (by with_reducible (conv => lhs; whnf)) | exact Rd.pickF rfl (by with_reducible (conv => lhs; whnf)) | exact Rd.pickP rfl (by first | exact (rfl : decide _ = true) | exact (rfl : decide _ = false) | (refine decide_eq_true ?_; assumption) | (refine decide_eq_false ?_; assumption) | (refine decide_eq_true ?_; omega) | (refine decide_eq_false ?_; omega)) (by with_reducible (conv => lhs; whnf))) ?_
      refine XPA.pu rfl rfl Gd.free (Rd.move (by with_reducible (conv => lhs; whnf))) ?_
      first | refine XPA.pu rfl rfl (by first | exact Gd.free | exact Gd.isB rfl rfl rfl | (apply Gd.isQ; rfl; rfl; exact (by first | exact (rfl : decide _ = true) | exact (rfl : decide _ = false) | (refine decide_eq_true ?_; assumption) | (refine decide_eq_false ?_; assumption) | (refine decide_eq_true ?_; omega) | (refine decide_eq_false ?_; omega)); rfl)) (Rd.move (by with_reducible (conv => lhs; whnf))) ?_ | refine XPA.puOff rfl rfl (by first | exact Gd.isB rfl rfl rfl | exact Gd.un rfl rfl | (apply Gd.isQ; rfl; rfl; exact (by first | exact (rfl : decide _ = true) | exact (rfl : decide _ = false) | (refine decide_eq_true ?_; assumption) | (refine decide_eq_false ?_; assumption) | (refine decide_eq_true ?_; omega) | (refine decide_eq_false ?_; omega)); rfl)) ?_
      first | refine XPA.pu rfl rfl (by first | exact Gd.free | exact Gd.isB rfl rfl rfl | (apply Gd.isQ; rfl; rfl; exact (by first | exact (rfl : decide _ = true) | exact (rfl : decide _ = false) | (refine decide_eq_true ?_; assumption) | (refine decide_eq_false ?_; assumption) | (refine decide_eq_true ?_; omega) | (refine decide_eq_false ?_; omega)); rfl)) (Rd.fieldAddr (tyrow rfl) rfl rfl (tyrow rfl) rfl rfl (by first | (conv => lhs; simp only [Nat.reduceAdd, Nat.zero_add, Nat.add_zero, Nat.reduceMul, Nat.mul_one, Int.toNat_natCast, Int.reduceToNat, Nat.zero_mul]) | rfl)) ?_ | refine XPA.puOff rfl rfl (by first | exact Gd.isB rfl rfl rfl | exact Gd.un rfl rfl | (apply Gd.isQ; rfl; rfl; exact (by first | exact (rfl : decide _ = true) | exact (rfl : decide _ = false) | (refine decide_eq_true ?_; assumption) | (refine decide_eq_false ?_; assumption) | (refine decide_eq_true ?_; omega) | (refine decide_eq_false ?_; omega)); rfl)) ?_
      first | refine XPA.rd rfl rfl (by first | exact Gd.free | exact Gd.isB rfl rfl rfl | (apply Gd.isQ; rfl; rfl; exact (by first | exact (rfl : decide _ = true) | exact (rfl : decide _ = false) | (refine decide_eq_true ?_; assumption) | (refine decide_eq_false ?_; assumption) | (refine decide_eq_true ?_; omega) | (refine decide_eq_false ?_; omega)); rfl)) (Rd.load rfl (Ld.atC (tyrow rfl) rfl (by first | (exact AtC.blk (by ((repeat (first | with_reducible exact Sel.head | apply Sel.tail)); (first | done | fail))) (by first | rfl | assumption)) | (exact AtC.per (by first | assumption)) | (exact AtC.lst (by ((repeat (first | with_reducible exact Sel.head | apply Sel.tail)); (first | done | fail))) (by first | rfl | assumption))))) ?_ | refine XPA.off rfl rfl (by first | exact Gd.isB rfl rfl rfl | exact Gd.un rfl rfl | (apply Gd.isQ; rfl; rfl; exact (by first | exact (rfl : decide _ = true) | exact (rfl : decide _ = false) | (refine decide_eq_true ?_; assumption) | (refine decide_eq_false ?_; assumption) | (refine decide_eq_true ?_; omega) | (refine decide_eq_false ?_; omega)); rfl)) ?_
      first | refine XPA.pu rfl rfl (by first | exact Gd.free | exact Gd.isB rfl rfl rfl | (apply Gd.isQ; rfl; rfl; exact (by first | exact (rfl : decide _ = true) | exact (rfl : decide _ = false) | (refine decide_eq_true ?_; assumption) | (refine decide_eq_false ?_; assumption) | (refine decide_eq_true ?_; omega) | (refine decide_eq_false ?_; omega)); rfl)) (Rd.move (by with_reducible (conv => lhs; whnf))) ?_ | refine XPA.puOff rfl rfl (by first | exact Gd.isB rfl rfl rfl | exact Gd.un rfl rfl | (apply Gd.isQ; rfl; rfl; exact (by first | exact (rfl : decide _ = true) | exact (rfl : decide _ = false) | (refine decide_eq_true ?_; assumption) | (refine decide_eq_false ?_; assumption) | (refine decide_eq_true ?_; omega) | (refine decide_eq_false ?_; omega)); rfl)) ?_
      first | refine XPA.pu rfl rfl (by first | exact Gd.free | exact Gd.isB rfl rfl rfl | (apply Gd.isQ; rfl; rfl; exact (by first | exact (rfl : decide _ = true) | exact (rfl : decide _ = false) | (refine decide_eq_true ?_; assumption) | (refine decide_eq_false ?_; assumption) | (refine decide_eq_true ?_; omega) | (refine decide_eq_false ?_; omega)); rfl)) (Rd.fieldAddr (tyrow rfl) rfl rfl (tyrow rfl) rfl rfl (by first | (conv => lhs; simp only [Nat.reduceAdd, Nat.zero_add, Nat.add_zero, Nat.reduceMul, Nat.mul_one, Int.toNat_natCast, Int.reduceToNat, Nat.zero_mul]) | rfl)) ?_ | refine XPA.puOff rfl rfl (by first | exact Gd.isB rfl rfl rfl | exact Gd.un rfl rfl | (apply Gd.isQ; rfl; rfl; exact (by first | exact (rfl : decide _ = true) | exact (rfl : decide _ = false) | (refine decide_eq_true ?_; assumption) | (refine decide_eq_false ?_; assumption) | (refine decide_eq_true ?_; omega) | (refine decide_eq_false ?_; omega)); rfl)) ?_
      first | refine XPA.rd rfl rfl (by first | exact Gd.free | exact Gd.isB rfl rfl rfl | (apply Gd.isQ; rfl; rfl; exact (by first | exact (rfl : decide _ = true) | exact (rfl : decide _ = false) | (refine decide_eq_true ?_; assumption) | (refine decide_eq_false ?_; assumption) | (refine decide_eq_true ?_; omega) | (refine decide_eq_false ?_; omega)); rfl)) (Rd.load rfl (Ld.atC (tyrow rfl) rfl (by first | (exact AtC.blk (by ((repeat (first | with_reducible exact Sel.head | apply Sel.tail)); (first | done | fail))) (by first | rfl | assumption)) | (exact AtC.per (by first | assumption)) | (exact AtC.lst (by ((repeat (first | with_reducible exact Sel.head | apply Sel.tail)); (first | done | fail))) (by first | rfl | assumption))))) ?_ | refine XPA.off rfl rfl (by first | exact Gd.isB rfl rfl rfl | exact Gd.un rfl rfl | (apply Gd.isQ; rfl; rfl; exact (by first | exact (rfl : decide _ = true) | exact (rfl : decide _ = false) | (refine decide_eq_true ?_; assumption) | (refine decide_eq_false ?_; assumption) | (refine decide_eq_true ?_; omega) | (refine decide_eq_false ?_; omega)); rfl)) ?_
      refine XPA.wr0 rfl rfl (by first | exact Gd.free | exact Gd.isB rfl rfl rfl | (apply Gd.isQ; rfl; rfl; exact (by first | exact (rfl : decide _ = true) | exact (rfl : decide _ = false) | (refine decide_eq_true ?_; assumption) | (refine decide_eq_false ?_; assumption) | (refine decide_eq_true ?_; omega) | (refine decide_eq_false ?_; omega)); rfl)) (WrA.callE (by (repeat (first | exact Ent.all _ | (apply Ent.take; focus (first | ((repeat (first | with_reducible exact Sel.head | apply Sel.tail)); done) | ((repeat (first | exact Sel.head | apply Sel.tail)); done))) | apply Ent.takeNil | apply Ent.takeEmp)); (first | done | fail)) (read_a σ b d2 x.at_ (by omega)) rfl) ?_
      rintro _ _ _ ⟨_, ⟨rfl, rfl, rfl⟩, rfl⟩
      refine ⟨⟨(by first | exact PH.sub.refl _ | assumption), (by (repeat (first | exact Ent.nil _ | (apply Ent.sel; focus (first | ((repeat (first | with_reducible exact Sel.head | apply Sel.tail)); done) | ((repeat (first | exact Sel.head | apply Sel.tail)); done))) | apply Ent.selNil | apply Ent.selEmp)); (first | done | fail))⟩, XPA.re (by conv => lhs; dsimp only [List.cons_append, List.nil_append]) ?_⟩
      refine XPA.wr0 rfl rfl (by first | exact Gd.free | exact Gd.isB rfl rfl rfl | (apply Gd.isQ; rfl; rfl; exact (by first | exact (rfl : decide _ = true) | exact (rfl : decide _ = false) | (refine decide_eq_true ?_; assumption) | (refine decide_eq_false ?_; assumption) | (refine decide_eq_true ?_; omega) | (refine decide_eq_false ?_; omega)); rfl)) (WrA.callE (by (repeat (first | exact Ent.all _ | (apply Ent.take; focus (first | ((repeat (first | with_reducible exact Sel.head | apply Sel.tail)); done) | ((repeat (first | exact Sel.head | apply Sel.tail)); done))) | apply Ent.takeNil | apply Ent.takeEmp)); (first | done | fail)) (pRead_o σ g18 q2 x.at_ (by omega) hqk2 pa pw ca cw) rfl) ?_
      rintro _ _ _ ⟨_, ⟨rfl, rfl, rfl⟩, rfl⟩
      refine ⟨⟨(by first | exact PH.sub.refl _ | assumption), (by (repeat (first | exact Ent.nil _ | (apply Ent.sel; focus (first | ((repeat (first | with_reducible exact Sel.head | apply Sel.tail)); done) | ((repeat (first | exact Sel.head | apply Sel.tail)); done))) | apply Ent.selNil | apply Ent.selEmp)); (first | done | fail))⟩, XPA.re (by conv => lhs; dsimp only [List.cons_append, List.nil_append]) ?_⟩
      rw [← hrx]
      first | refine XPA.pu rfl rfl (by first | exact Gd.free | exact Gd.isB rfl rfl rfl | (apply Gd.isQ; rfl; rfl; exact (by first | exact (rfl : decide _ = true) | exact (rfl : decide _ = false) | (refine decide_eq_true ?_; assumption) | (refine decide_eq_false ?_; assumption) | (refine decide_eq_true ?_; omega) | (refine decide_eq_false ?_; omega)); rfl)) (Rd.neqWords (tyrow rfl) rfl (tyrow rfl) rfl rfl (by kernel_rfl) rfl rfl (by first | assumption | rfl | (simp; (first | done | fail)) | (simp [*]; (first | done | fail))) (by first | assumption | rfl | (simp; (first | done | fail)) | (simp [*]; (first | done | fail)))) ?_ | refine XPA.puOff rfl rfl (by first | exact Gd.isB rfl rfl rfl | exact Gd.un rfl rfl | (apply Gd.isQ; rfl; rfl; exact (by first | exact (rfl : decide _ = true) | exact (rfl : decide _ = false) | (refine decide_eq_true ?_; assumption) | (refine decide_eq_false ?_; assumption) | (refine decide_eq_true ?_; omega) | (refine decide_eq_false ?_; omega)); rfl)) ?_
      refine XPA.pu rfl rfl Gd.free (by first | exact Rd.pickT rfl (by with_reducible (conv => lhs; whnf)) | exact Rd.pickF rfl (by with_reducible (conv => lhs; whnf)) | exact Rd.pickP rfl (by first | exact (rfl : decide _ = true) | exact (rfl : decide _ = false) | (refine decide_eq_true ?_; assumption) | (refine decide_eq_false ?_; assumption) | (refine decide_eq_true ?_; omega) | (refine decide_eq_false ?_; omega)) (by with_reducible (conv => lhs; whnf))) ?_
      refine XPA.pu rfl rfl Gd.free (Rd.move (by with_reducible (conv => lhs; whnf))) ?_
      first | refine XPA.pu rfl rfl (by first | exact Gd.free | exact Gd.isB rfl rfl rfl | (apply Gd.isQ; rfl; rfl; exact (by first | exact (rfl : decide _ = true) | exact (rfl : decide _ = false) | (refine decide_eq_true ?_; assumption) | (refine decide_eq_false ?_; assumption) | (refine decide_eq_true ?_; omega) | (refine decide_eq_false ?_; omega)); rfl)) (Rd.fieldAddr (tyrow rfl) rfl rfl (tyrow rfl) rfl rfl (by first | (conv => lhs; simp only [Nat.reduceAdd, Nat.zero_add, Nat.add_zero, Nat.reduceMul, Nat.mul_one, Int.toNat_natCast, Int.reduceToNat, Nat.zero_mul]) | rfl)) ?_ | refine XPA.puOff rfl rfl (by first | exact Gd.isB rfl rfl rfl | exact Gd.un rfl rfl | (apply Gd.isQ; rfl; rfl; exact (by first | exact (rfl : decide _ = true) | exact (rfl : decide _ = false) | (refine decide_eq_true ?_; assumption) | (refine decide_eq_false ?_; assumption) | (refine decide_eq_true ?_; omega) | (refine decide_eq_false ?_; omega)); rfl)) ?_
      first | refine XPA.rd rfl rfl (by first | exact Gd.free | exact Gd.isB rfl rfl rfl | (apply Gd.isQ; rfl; rfl; exact (by first | exact (rfl : decide _ = true) | exact (rfl : decide _ = false) | (refine decide_eq_true ?_; assumption) | (refine decide_eq_false ?_; assumption) | (refine decide_eq_true ?_; omega) | (refine decide_eq_false ?_; omega)); rfl)) (Rd.load rfl (Ld.atC (tyrow rfl) rfl (by first | (exact AtC.blk (by ((repeat (first | with_reducible exact Sel.head | apply Sel.tail)); (first | done | fail))) (by first | rfl | assumption)) | (exact AtC.per (by first | assumption)) | (exact AtC.lst (by ((repeat (first | with_reducible exact Sel.head | apply Sel.tail)); (first | done | fail))) (by first | rfl | assumption))))) ?_ | refine XPA.off rfl rfl (by first | exact Gd.isB rfl rfl rfl | exact Gd.un rfl rfl | (apply Gd.isQ; rfl; rfl; exact (by first | exact (rfl : decide _ = true) | exact (rfl : decide _ = false) | (refine decide_eq_true ?_; assumption) | (refine decide_eq_false ?_; assumption) | (refine decide_eq_true ?_; omega) | (refine decide_eq_false ?_; omega)); rfl)) ?_
      first | refine XPA.pu rfl rfl (by first | exact Gd.free | exact Gd.isB rfl rfl rfl | (apply Gd.isQ; rfl; rfl; exact (by first | exact (rfl : decide _ = true) | exact (rfl : decide _ = false) | (refine decide_eq_true ?_; assumption) | (refine decide_eq_false ?_; assumption) | (refine decide_eq_true ?_; omega) | (refine decide_eq_false ?_; omega)); rfl)) (Rd.fieldAddr (tyrow rfl) rfl rfl (tyrow rfl) rfl rfl (by first | (conv => lhs; simp only [Nat.reduceAdd, Nat.zero_add, Nat.add_zero, Nat.reduceMul, Nat.mul_one, Int.toNat_natCast, Int.reduceToNat, Nat.zero_mul]) | rfl)) ?_ | refine XPA.puOff rfl rfl (by first | exact Gd.isB rfl rfl rfl | exact Gd.un rfl rfl | (apply Gd.isQ; rfl; rfl; exact (by first | exact (rfl : decide _ = true) | exact (rfl : decide _ = false) | (refine decide_eq_true ?_; assumption) | (refine decide_eq_false ?_; assumption) | (refine decide_eq_true ?_; omega) | (refine decide_eq_false ?_; omega)); rfl)) ?_
      first | refine XPA.rd rfl rfl (by first | exact Gd.free | exact Gd.isB rfl rfl rfl | (apply Gd.isQ; rfl; rfl; exact (by first | exact (rfl : decide _ = true) | exact (rfl : decide _ = false) | (refine decide_eq_true ?_; assumption) | (refine decide_eq_false ?_; assumption) | (refine decide_eq_true ?_; omega) | (refine decide_eq_false ?_; omega)); rfl)) (Rd.load rfl (Ld.atC (tyrow rfl) rfl (by first | (exact AtC.blk (by ((repeat (first | with_reducible exact Sel.head | apply Sel.tail)); (first | done | fail))) (by first | rfl | assumption)) | (exact AtC.per (by first | assumption)) | (exact AtC.lst (by ((repeat (first | with_reducible exact Sel.head | apply Sel.tail)); (first | done | fail))) (by first | rfl | assumption))))) ?_ | refine XPA.off rfl rfl (by first | exact Gd.isB rfl rfl rfl | exact Gd.un rfl rfl | (apply Gd.isQ; rfl; rfl; exact (by first | exact (rfl : decide _ = true) | exact (rfl : decide _ = false) | (refine decide_eq_true ?_; assumption) | (refine decide_eq_false ?_; assumption) | (refine decide_eq_true ?_; omega) | (refine decide_eq_false ?_; omega)); rfl)) ?_
      first | refine XPA.pu rfl rfl (by first | exact Gd.free | exact Gd.isB rfl rfl rfl | (apply Gd.isQ; rfl; rfl; exact (by first | exact (rfl : decide _ = true) | exact (rfl : decide _ = false) | (refine decide_eq_true ?_; assumption) | (refine decide_eq_false ?_; assumption) | (refine decide_eq_true ?_; omega) | (refine decide_eq_false ?_; omega)); rfl)) (Rd.geq rfl rfl) ?_ | refine XPA.puOff rfl rfl (by first | exact Gd.isB rfl rfl rfl | exact Gd.un rfl rfl | (apply Gd.isQ; rfl; rfl; exact (by first | exact (rfl : decide _ = true) | exact (rfl : decide _ = false) | (refine decide_eq_true ?_; assumption) | (refine decide_eq_false ?_; assumption) | (refine decide_eq_true ?_; omega) | (refine decide_eq_false ?_; omega)); rfl)) ?_
      refine XPA.wr0 rfl rfl (by first | exact Gd.free | exact Gd.isB rfl rfl rfl | (apply Gd.isQ; rfl; rfl; exact (by first | exact (rfl : decide _ = true) | exact (rfl : decide _ = false) | (refine decide_eq_true ?_; assumption) | (refine decide_eq_false ?_; assumption) | (refine decide_eq_true ?_; omega) | (refine decide_eq_false ?_; omega)); rfl)) (WrA.callE (by (repeat (first | exact Ent.all _ | (apply Ent.take; focus (first | ((repeat (first | with_reducible exact Sel.head | apply Sel.tail)); done) | ((repeat (first | exact Sel.head | apply Sel.tail)); done))) | apply Ent.takeNil | apply Ent.takeEmp)); (first | done | fail)) (has_a σ x.at_) rfl) ?_
      rintro _ _ _ ⟨_, ⟨rfl, rfl, rfl⟩, rfl⟩
      refine ⟨⟨(by first | exact PH.sub.refl _ | assumption), (by (repeat (first | exact Ent.nil _ | (apply Ent.sel; focus (first | ((repeat (first | with_reducible exact Sel.head | apply Sel.tail)); done) | ((repeat (first | exact Sel.head | apply Sel.tail)); done))) | apply Ent.selNil | apply Ent.selEmp)); (first | done | fail))⟩, XPA.re (by conv => lhs; dsimp only [List.cons_append, List.nil_append]) ?_⟩
      first | refine XPA.pu rfl rfl (by first | exact Gd.free | exact Gd.isB rfl rfl rfl | (apply Gd.isQ; rfl; rfl; exact (by first | exact (rfl : decide _ = true) | exact (rfl : decide _ = false) | (refine decide_eq_true ?_; assumption) | (refine decide_eq_false ?_; assumption) | (refine decide_eq_true ?_; omega) | (refine decide_eq_false ?_; omega)); rfl)) (Rd.move (by with_reducible (conv => lhs; whnf))) ?_ | refine XPA.puOff rfl rfl (by first | exact Gd.isB rfl rfl rfl | exact Gd.un rfl rfl | (apply Gd.isQ; rfl; rfl; exact (by first | exact (rfl : decide _ = true) | exact (rfl : decide _ = false) | (refine decide_eq_true ?_; assumption) | (refine decide_eq_false ?_; assumption) | (refine decide_eq_true ?_; omega) | (refine decide_eq_false ?_; omega)); rfl)) ?_
      first | refine XPA.pu rfl rfl (by first | exact Gd.free | exact Gd.isB rfl rfl rfl | (apply Gd.isQ; rfl; rfl; exact (by first | exact (rfl : decide _ = true) | exact (rfl : decide _ = false) | (refine decide_eq_true ?_; assumption) | (refine decide_eq_false ?_; assumption) | (refine decide_eq_true ?_; omega) | (refine decide_eq_false ?_; omega)); rfl)) (Rd.fieldAddr (tyrow rfl) rfl rfl (tyrow rfl) rfl rfl (by first | (conv => lhs; simp only [Nat.reduceAdd, Nat.zero_add, Nat.add_zero, Nat.reduceMul, Nat.mul_one, Int.toNat_natCast, Int.reduceToNat, Nat.zero_mul]) | rfl)) ?_ | refine XPA.puOff rfl rfl (by first | exact Gd.isB rfl rfl rfl | exact Gd.un rfl rfl | (apply Gd.isQ; rfl; rfl; exact (by first | exact (rfl : decide _ = true) | exact (rfl : decide _ = false) | (refine decide_eq_true ?_; assumption) | (refine decide_eq_false ?_; assumption) | (refine decide_eq_true ?_; omega) | (refine decide_eq_false ?_; omega)); rfl)) ?_
      first | refine XPA.rd rfl rfl (by first | exact Gd.free | exact Gd.isB rfl rfl rfl | (apply Gd.isQ; rfl; rfl; exact (by first | exact (rfl : decide _ = true) | exact (rfl : decide _ = false) | (refine decide_eq_true ?_; assumption) | (refine decide_eq_false ?_; assumption) | (refine decide_eq_true ?_; omega) | (refine decide_eq_false ?_; omega)); rfl)) (Rd.load rfl (Ld.atC (tyrow rfl) rfl (by first | (exact AtC.blk (by ((repeat (first | with_reducible exact Sel.head | apply Sel.tail)); (first | done | fail))) (by first | rfl | assumption)) | (exact AtC.per (by first | assumption)) | (exact AtC.lst (by ((repeat (first | with_reducible exact Sel.head | apply Sel.tail)); (first | done | fail))) (by first | rfl | assumption))))) ?_ | refine XPA.off rfl rfl (by first | exact Gd.isB rfl rfl rfl | exact Gd.un rfl rfl | (apply Gd.isQ; rfl; rfl; exact (by first | exact (rfl : decide _ = true) | exact (rfl : decide _ = false) | (refine decide_eq_true ?_; assumption) | (refine decide_eq_false ?_; assumption) | (refine decide_eq_true ?_; omega) | (refine decide_eq_false ?_; omega)); rfl)) ?_
      first | refine XPA.pu rfl rfl (by first | exact Gd.free | exact Gd.isB rfl rfl rfl | (apply Gd.isQ; rfl; rfl; exact (by first | exact (rfl : decide _ = true) | exact (rfl : decide _ = false) | (refine decide_eq_true ?_; assumption) | (refine decide_eq_false ?_; assumption) | (refine decide_eq_true ?_; omega) | (refine decide_eq_false ?_; omega)); rfl)) (Rd.lss rfl rfl) ?_ | refine XPA.puOff rfl rfl (by first | exact Gd.isB rfl rfl rfl | exact Gd.un rfl rfl | (apply Gd.isQ; rfl; rfl; exact (by first | exact (rfl : decide _ = true) | exact (rfl : decide _ = false) | (refine decide_eq_true ?_; assumption) | (refine decide_eq_false ?_; assumption) | (refine decide_eq_true ?_; omega) | (refine decide_eq_false ?_; omega)); rfl)) ?_
      first | refine XPA.pu rfl rfl (by first | exact Gd.free | exact Gd.isB rfl rfl rfl | (apply Gd.isQ; rfl; rfl; exact (by first | exact (rfl : decide _ = true) | exact (rfl : decide _ = false) | (refine decide_eq_true ?_; assumption) | (refine decide_eq_false ?_; assumption) | (refine decide_eq_true ?_; omega) | (refine decide_eq_false ?_; omega)); rfl)) (by first | exact Rd.pickT rfl (by with_reducible (conv => lhs; whnf)) | exact Rd.pickF rfl (by with_reducible (conv => lhs; whnf)) | exact Rd.pickP rfl (by first | exact (rfl : decide _ = true) | exact (rfl : decide _ = false) | (refine decide_eq_true ?_; assumption) | (refine decide_eq_false ?_; assumption) | (refine decide_eq_true ?_; omega) | (refine decide_eq_false ?_; omega)) (by with_reducible (conv => lhs; whnf))) ?_ | refine XPA.puOff rfl rfl (by first | exact Gd.isB rfl rfl rfl | exact Gd.un rfl rfl | (apply Gd.isQ; rfl; rfl; exact (by first | exact (rfl : decide _ = true) | exact (rfl : decide _ = false) | (refine decide_eq_true ?_; assumption) | (refine decide_eq_false ?_; assumption) | (refine decide_eq_true ?_; omega) | (refine decide_eq_false ?_; omega)); rfl)) ?_
      first | refine XPA.pu rfl rfl (by first | exact Gd.free | exact Gd.isB rfl rfl rfl | (apply Gd.isQ; rfl; rfl; exact (by first | exact (rfl : decide _ = true) | exact (rfl : decide _ = false) | (refine decide_eq_true ?_; assumption) | (refine decide_eq_false ?_; assumption) | (refine decide_eq_true ?_; omega) | (refine decide_eq_false ?_; omega)); rfl)) (Rd.neqb (tyrow rfl) rfl rfl rfl) ?_ | refine XPA.puOff rfl rfl (by first | exact Gd.isB rfl rfl rfl | exact Gd.un rfl rfl | (apply Gd.isQ; rfl; rfl; exact (by first | exact (rfl : decide _ = true) | exact (rfl : decide _ = false) | (refine decide_eq_true ?_; assumption) | (refine decide_eq_false ?_; assumption) | (refine decide_eq_true ?_; omega) | (refine decide_eq_false ?_; omega)); rfl)) ?_
      refine XPA.pu rfl rfl Gd.free (by first | exact Rd.pickT rfl (by with_reducible (conv => lhs; whnf)) | exact Rd.pickF rfl (by with_reducible (conv => lhs; whnf)) | exact Rd.pickP rfl (by first | exact (rfl : decide _ = true) | exact (rfl : decide _ = false) | (refine decide_eq_true ?_; assumption) | (refine decide_eq_false ?_; assumption) | (refine decide_eq_true ?_; omega) | (refine decide_eq_false ?_; omega)) (by with_reducible (conv => lhs; whnf))) ?_
      refine XPA.nil ?_
      refine DA.thn_normal ?_
      refine XA.condF rfl (by first | rfl | exact (by first | exact (rfl : decide _ = true) | exact (rfl : decide _ = false) | (refine decide_eq_true ?_; assumption) | (refine decide_eq_false ?_; assumption) | (refine decide_eq_true ?_; omega) | (refine decide_eq_false ?_; omega))) ?_
      refine XA.skip ?_
      refine DA.inb_normal ?_
      refine DA.thn_normal ?_
      refine XA.region ?_
      refine XOA.rd rfl (Rd.move (by with_reducible (conv => lhs; whnf))) ?_
      refine XOA.rd rfl (by first | exact Rd.addi rfl rfl rfl (by omega) | exact Rd.add rfl rfl) ?_
      refine XOA.rd rfl (Rd.assign (by with_reducible (conv => lhs; whnf))) ?_
      refine XOA.nil ?_
      refine DA.thn_normal ?_
      refine ⟨(Keep.upd (Keep.upd (Keep.upd (Keep.upd (Keep.upd (Keep.upd (Keep.upd (Keep.upd (Keep.upd (Keep.upd (Keep.updO (Keep.upd (Keep.upd (Keep.upd (Keep.upd (Keep.upd (Keep.upd (Keep.upd (Keep.upd (Keep.updO (Keep.updO (Keep.upd (Keep.upd (Keep.upd (Keep.upd (Keep.upd (Keep.upd (Keep.upd (Keep.upd (Keep.upd (Keep.updO (Keep.updO (Keep.upd (Keep.upd (Keep.upd (Keep.upd (Keep.upd (Keep.upd (Keep.updO (Keep.upd (Keep.upd (Keep.upd (Keep.upd (Keep.upd (Keep.upd (Keep.upd (Keep.upd (Keep.upd (Keep.upd (Keep.upd (Keep.hav (Keep.hav (Keep.upd (Keep.upd (Keep.updN (Keep.updO (Keep.upd (Keep.upd (Keep.upd (Keep.upd (Keep.upd (Keep.upd (Keep.upd (Keep.upd (Keep.upd (Keep.hav (Keep.hav (Keep.hav (Keep.refl _ _) rfl) rfl) rfl) rfl) rfl) rfl) rfl) rfl) rfl) rfl) rfl) rfl) rfl)) rfl) rfl) rfl) rfl) rfl) rfl) rfl) rfl) rfl) rfl) rfl) rfl) rfl) rfl) rfl) rfl) rfl) rfl) rfl) rfl) rfl) rfl) rfl) rfl) rfl) rfl) rfl) rfl) rfl) rfl) rfl) rfl) rfl) rfl) rfl) rfl) rfl) rfl) rfl) rfl) rfl) rfl) rfl) rfl) rfl) rfl) rfl) rfl) rfl) rfl) rfl) rfl) rfl) rfl), k + 1, [Disk b d2, Plate g18 q2], (by (repeat (first | exact trivial | refine ⟨rfl, ?_⟩ | refine ⟨Eq.trans rfl (congrArg Value.bool hmat.symm), ?_⟩)); (first | done | fail)), ?_, ⟨rfl, hlt, d2, q2, hok2, hqk2, hdp2, hql2, rfl⟩, (by omega)⟩
      · exact Ent.sel (by ((repeat (first | with_reducible exact Sel.head | apply Sel.tail)); (first | done | fail))) (Ent.fold1 (Θ := [_, _, _]) (by (repeat (first | exact Ent.nil _ | (apply Ent.sel; focus (first | ((repeat (first | with_reducible exact Sel.head | apply Sel.tail)); done) | ((repeat (first | exact Sel.head | apply Sel.tail)); done))) | apply Ent.selNil | apply Ent.selEmp)); (first | done | fail)) (Plate.mk hqk2 rfl rfl rfl rfl rfl))
    · have hnb : ¬ (decide (0 ≤ x.at_ ∧ x.at_ < 34) ≠ false) := by simp [h0]
      refine XA.draw (by kernel_rfl) _ _ [] [(0, .pu), (2, .pu), (3, .pu), (4, .pu), (5, .rd), (6, .pu), (7, .pu), (8, .pu), (9, .pu), (10, .rd), (11, .pu), (1, .wr), (12, .pu), (13, .pu), (14, .pu), (15, .pu), (17, .pu), (18, .pu), (16, .wr), (19, .wr), (20, .pu), (21, .pu), (22, .pu), (23, .pu), (24, .pu), (25, .rd), (27, .pu), (28, .pu), (29, .rd), (26, .wr), (30, .wr), (31, .pu), (32, .pu), (33, .pu), (34, .pu), (35, .rd), (37, .pu), (38, .rd), (39, .pu), (36, .wr), (40, .pu), (41, .pu), (42, .rd), (43, .pu), (44, .pu), (45, .pu), (46, .pu)] (by kernel_rfl) (PH.sub.refl _) (Ent.sel (R := blk g8 _ _) (by ((repeat (first | with_reducible exact Sel.head | apply Sel.tail)); (first | done | fail))) (Ent.sel (R := blk g18 _ _) (by ((repeat (first | with_reducible exact Sel.head | apply Sel.tail)); (first | done | fail))) (Ent.nil _))) ?_
      refine XPA.pu rfl rfl Gd.free (Rd.move (by with_reducible (conv => lhs; whnf))) ?_
      refine XPA.pu rfl rfl Gd.free (Rd.move (by with_reducible (conv => lhs; whnf))) ?_
      refine XPA.pu rfl rfl Gd.free (Rd.nilCheck rfl) ?_
      refine XPA.pu rfl rfl Gd.free (Rd.fieldAddr (tyrow rfl) rfl rfl (tyrow rfl) rfl rfl (by first | (conv => lhs; simp only [Nat.reduceAdd, Nat.zero_add, Nat.add_zero, Nat.reduceMul, Nat.mul_one, Int.toNat_natCast, Int.reduceToNat, Nat.zero_mul]) | rfl)) ?_
      refine XPA.rd rfl rfl Gd.free (Rd.load rfl (Ld.atC (tyrow rfl) rfl (by first | (exact AtC.blk (by ((repeat (first | with_reducible exact Sel.head | apply Sel.tail)); (first | done | fail))) (by first | rfl | assumption)) | (exact AtC.per (by first | assumption)) | (exact AtC.lst (by ((repeat (first | with_reducible exact Sel.head | apply Sel.tail)); (first | done | fail))) (by first | rfl | assumption))))) ?_
      refine XPA.pu rfl rfl Gd.free (Rd.lenSlice (tyrow rfl) rfl rfl) ?_
      refine XPA.pu rfl rfl Gd.free (Rd.move (by with_reducible (conv => lhs; whnf))) ?_
      refine XPA.pu rfl rfl Gd.free (Rd.nilCheck rfl) ?_
      refine XPA.pu rfl rfl Gd.free (Rd.fieldAddr (tyrow rfl) rfl rfl (tyrow rfl) rfl rfl (by first | (conv => lhs; simp only [Nat.reduceAdd, Nat.zero_add, Nat.add_zero, Nat.reduceMul, Nat.mul_one, Int.toNat_natCast, Int.reduceToNat, Nat.zero_mul]) | rfl)) ?_
      refine XPA.rd rfl rfl Gd.free (Rd.load rfl (Ld.atC (tyrow rfl) rfl (by first | (exact AtC.blk (by ((repeat (first | with_reducible exact Sel.head | apply Sel.tail)); (first | done | fail))) (by first | rfl | assumption)) | (exact AtC.per (by first | assumption)) | (exact AtC.lst (by ((repeat (first | with_reducible exact Sel.head | apply Sel.tail)); (first | done | fail))) (by first | rfl | assumption))))) ?_
      refine XPA.pu rfl rfl Gd.free (by first | exact Rd.subi rfl rfl rfl (by omega) | exact Rd.sub rfl rfl) ?_
      refine XPA.wr0 rfl rfl Gd.free (WrA.callE (by (repeat (first | exact Ent.all _ | (apply Ent.take; focus (first | ((repeat (first | with_reducible exact Sel.head | apply Sel.tail)); done) | ((repeat (first | exact Sel.head | apply Sel.tail)); done))) | apply Ent.takeNil | apply Ent.takeEmp)); (first | done | fail)) (wait_a σ b d2) rfl) ?_
      rintro _ _ _ ⟨_, ⟨rfl, rfl, rfl⟩, rfl⟩
      refine ⟨⟨(by first | exact PH.sub.refl _ | assumption), (by (repeat (first | exact Ent.nil _ | (apply Ent.sel; focus (first | ((repeat (first | with_reducible exact Sel.head | apply Sel.tail)); done) | ((repeat (first | exact Sel.head | apply Sel.tail)); done))) | apply Ent.selNil | apply Ent.selEmp)); (first | done | fail))⟩, XPA.re (by conv => lhs; dsimp only [List.cons_append, List.nil_append]) ?_⟩
      refine XPA.pu rfl rfl Gd.free (Rd.neq rfl rfl) ?_
      refine XPA.pu rfl rfl Gd.free (Rd.move (by with_reducible (conv => lhs; whnf))) ?_
      first | refine XPA.pu rfl rfl (by first | exact Gd.free | exact Gd.isB rfl rfl rfl | (apply Gd.isQ; rfl; rfl; exact (by first | exact (rfl : decide _ = true) | exact (rfl : decide _ = false) | (refine decide_eq_true ?_; assumption) | (refine decide_eq_false ?_; assumption) | (refine decide_eq_true ?_; omega) | (refine decide_eq_false ?_; omega)); rfl)) (Rd.move (by with_reducible (conv => lhs; whnf))) ?_ | refine XPA.puOff rfl rfl (by first | exact Gd.isB rfl rfl rfl | exact Gd.un rfl rfl | (apply Gd.isQ; rfl; rfl; exact (by first | exact (rfl : decide _ = true) | exact (rfl : decide _ = false) | (refine decide_eq_true ?_; assumption) | (refine decide_eq_false ?_; assumption) | (refine decide_eq_true ?_; omega) | (refine decide_eq_false ?_; omega)); rfl)) ?_
      first | refine XPA.pu rfl rfl (by first | exact Gd.free | exact Gd.isB rfl rfl rfl | (apply Gd.isQ; rfl; rfl; exact (by first | exact (rfl : decide _ = true) | exact (rfl : decide _ = false) | (refine decide_eq_true ?_; assumption) | (refine decide_eq_false ?_; assumption) | (refine decide_eq_true ?_; omega) | (refine decide_eq_false ?_; omega)); rfl)) (Rd.move (by with_reducible (conv => lhs; whnf))) ?_ | refine XPA.puOff rfl rfl (by first | exact Gd.isB rfl rfl rfl | exact Gd.un rfl rfl | (apply Gd.isQ; rfl; rfl; exact (by first | exact (rfl : decide _ = true) | exact (rfl : decide _ = false) | (refine decide_eq_true ?_; assumption) | (refine decide_eq_false ?_; assumption) | (refine decide_eq_true ?_; omega) | (refine decide_eq_false ?_; omega)); rfl)) ?_
      first | refine XPA.pu rfl rfl (by first | exact Gd.free | exact Gd.isB rfl rfl rfl | (apply Gd.isQ; rfl; rfl; exact (by first | exact (rfl : decide _ = true) | exact (rfl : decide _ = false) | (refine decide_eq_true ?_; assumption) | (refine decide_eq_false ?_; assumption) | (refine decide_eq_true ?_; omega) | (refine decide_eq_false ?_; omega)); rfl)) (Rd.move (by with_reducible (conv => lhs; whnf))) ?_ | refine XPA.puOff rfl rfl (by first | exact Gd.isB rfl rfl rfl | exact Gd.un rfl rfl | (apply Gd.isQ; rfl; rfl; exact (by first | exact (rfl : decide _ = true) | exact (rfl : decide _ = false) | (refine decide_eq_true ?_; assumption) | (refine decide_eq_false ?_; assumption) | (refine decide_eq_true ?_; omega) | (refine decide_eq_false ?_; omega)); rfl)) ?_
      first | refine XPA.pu rfl rfl (by first | exact Gd.free | exact Gd.isB rfl rfl rfl | (apply Gd.isQ; rfl; rfl; exact (by first | exact (rfl : decide _ = true) | exact (rfl : decide _ = false) | (refine decide_eq_true ?_; assumption) | (refine decide_eq_false ?_; assumption) | (refine decide_eq_true ?_; omega) | (refine decide_eq_false ?_; omega)); rfl)) (Rd.move (by with_reducible (conv => lhs; whnf))) ?_ | refine XPA.puOff rfl rfl (by first | exact Gd.isB rfl rfl rfl | exact Gd.un rfl rfl | (apply Gd.isQ; rfl; rfl; exact (by first | exact (rfl : decide _ = true) | exact (rfl : decide _ = false) | (refine decide_eq_true ?_; assumption) | (refine decide_eq_false ?_; assumption) | (refine decide_eq_true ?_; omega) | (refine decide_eq_false ?_; omega)); rfl)) ?_
      refine XPA.wr0 rfl rfl (by first | exact Gd.free | exact Gd.isB rfl rfl rfl | (apply Gd.isQ; rfl; rfl; exact (by first | exact (rfl : decide _ = true) | exact (rfl : decide _ = false) | (refine decide_eq_true ?_; assumption) | (refine decide_eq_false ?_; assumption) | (refine decide_eq_true ?_; omega) | (refine decide_eq_false ?_; omega)); rfl)) (WrA.callE (by (repeat (first | exact Ent.all _ | (apply Ent.take; focus (first | ((repeat (first | with_reducible exact Sel.head | apply Sel.tail)); done) | ((repeat (first | exact Sel.head | apply Sel.tail)); done))) | apply Ent.takeNil | apply Ent.takeEmp)); (first | done | fail)) (read_a σ b d2 a (by omega)) rfl) ?_
      rintro _ _ _ ⟨_, ⟨rfl, rfl, rfl⟩, rfl⟩
      refine ⟨⟨(by first | exact PH.sub.refl _ | assumption), (by (repeat (first | exact Ent.nil _ | (apply Ent.sel; focus (first | ((repeat (first | with_reducible exact Sel.head | apply Sel.tail)); done) | ((repeat (first | exact Sel.head | apply Sel.tail)); done))) | apply Ent.selNil | apply Ent.selEmp)); (first | done | fail))⟩, XPA.re (by conv => lhs; dsimp only [List.cons_append, List.nil_append]) ?_⟩
      refine XPA.wr0 rfl rfl (by first | exact Gd.free | exact Gd.isB rfl rfl rfl | (apply Gd.isQ; rfl; rfl; exact (by first | exact (rfl : decide _ = true) | exact (rfl : decide _ = false) | (refine decide_eq_true ?_; assumption) | (refine decide_eq_false ?_; assumption) | (refine decide_eq_true ?_; omega) | (refine decide_eq_false ?_; omega)); rfl)) (WrA.callE (by (repeat (first | exact Ent.all _ | (apply Ent.take; focus (first | ((repeat (first | with_reducible exact Sel.head | apply Sel.tail)); done) | ((repeat (first | exact Sel.head | apply Sel.tail)); done))) | apply Ent.takeNil | apply Ent.takeEmp)); (first | done | fail)) (pRead_o σ g18 q2 a (by omega) hqk2 pa pw ca cw) rfl) ?_
      rintro _ _ _ ⟨_, ⟨rfl, rfl, rfl⟩, rfl⟩
      refine ⟨⟨(by first | exact PH.sub.refl _ | assumption), (by (repeat (first | exact Ent.nil _ | (apply Ent.sel; focus (first | ((repeat (first | with_reducible exact Sel.head | apply Sel.tail)); done) | ((repeat (first | exact Sel.head | apply Sel.tail)); done))) | apply Ent.selNil | apply Ent.selEmp)); (first | done | fail))⟩, XPA.re (by conv => lhs; dsimp only [List.cons_append, List.nil_append]) ?_⟩
      rw [← hra]
      first | refine XPA.pu rfl rfl (by first | exact Gd.free | exact Gd.isB rfl rfl rfl | (apply Gd.isQ; rfl; rfl; exact (by first | exact (rfl : decide _ = true) | exact (rfl : decide _ = false) | (refine decide_eq_true ?_; assumption) | (refine decide_eq_false ?_; assumption) | (refine decide_eq_true ?_; omega) | (refine decide_eq_false ?_; omega)); rfl)) (Rd.neqWords (tyrow rfl) rfl (tyrow rfl) rfl rfl (by kernel_rfl) rfl rfl (by first | assumption | rfl | (simp; (first | done | fail)) | (simp [*]; (first | done | fail))) (by first | assumption | rfl | (simp; (first | done | fail)) | (simp [*]; (first | done | fail)))) ?_ | refine XPA.puOff rfl rfl (by first | exact Gd.isB rfl rfl rfl | exact Gd.un rfl rfl | (apply Gd.isQ; rfl; rfl; exact (by first | exact (rfl : decide _ = true) | exact (rfl : decide _ = false) | (refine decide_eq_true ?_; assumption) | (refine decide_eq_false ?_; assumption) | (refine decide_eq_true ?_; omega) | (refine decide_eq_false ?_; omega)); rfl)) ?_
      refine XPA.pu rfl rfl Gd.free (by first | exact Rd.pickT rfl (by with_reducible (conv => lhs; whnf)) | exact Rd.pickF rfl (by with_reducible (conv => lhs; whnf)) | exact Rd.pickP rfl (by first | exact (rfl : decide _ = true) | exact (rfl : decide _ = false) | (refine decide_eq_true ?_; assumption) | (refine decide_eq_false ?_; assumption) | (refine decide_eq_true ?_; omega) | (refine decide_eq_false ?_; omega)) (by with_reducible (conv => lhs; whnf))) ?_
      refine XPA.pu rfl rfl Gd.free (Rd.move (by with_reducible (conv => lhs; whnf))) ?_
      first | refine XPA.pu rfl rfl (by first | exact Gd.free | exact Gd.isB rfl rfl rfl | (apply Gd.isQ; rfl; rfl; exact (by first | exact (rfl : decide _ = true) | exact (rfl : decide _ = false) | (refine decide_eq_true ?_; assumption) | (refine decide_eq_false ?_; assumption) | (refine decide_eq_true ?_; omega) | (refine decide_eq_false ?_; omega)); rfl)) (Rd.move (by with_reducible (conv => lhs; whnf))) ?_ | refine XPA.puOff rfl rfl (by first | exact Gd.isB rfl rfl rfl | exact Gd.un rfl rfl | (apply Gd.isQ; rfl; rfl; exact (by first | exact (rfl : decide _ = true) | exact (rfl : decide _ = false) | (refine decide_eq_true ?_; assumption) | (refine decide_eq_false ?_; assumption) | (refine decide_eq_true ?_; omega) | (refine decide_eq_false ?_; omega)); rfl)) ?_
      first | refine XPA.pu rfl rfl (by first | exact Gd.free | exact Gd.isB rfl rfl rfl | (apply Gd.isQ; rfl; rfl; exact (by first | exact (rfl : decide _ = true) | exact (rfl : decide _ = false) | (refine decide_eq_true ?_; assumption) | (refine decide_eq_false ?_; assumption) | (refine decide_eq_true ?_; omega) | (refine decide_eq_false ?_; omega)); rfl)) (Rd.fieldAddr (tyrow rfl) rfl rfl (tyrow rfl) rfl rfl (by first | (conv => lhs; simp only [Nat.reduceAdd, Nat.zero_add, Nat.add_zero, Nat.reduceMul, Nat.mul_one, Int.toNat_natCast, Int.reduceToNat, Nat.zero_mul]) | rfl)) ?_ | refine XPA.puOff rfl rfl (by first | exact Gd.isB rfl rfl rfl | exact Gd.un rfl rfl | (apply Gd.isQ; rfl; rfl; exact (by first | exact (rfl : decide _ = true) | exact (rfl : decide _ = false) | (refine decide_eq_true ?_; assumption) | (refine decide_eq_false ?_; assumption) | (refine decide_eq_true ?_; omega) | (refine decide_eq_false ?_; omega)); rfl)) ?_
      first | refine XPA.rd rfl rfl (by first | exact Gd.free | exact Gd.isB rfl rfl rfl | (apply Gd.isQ; rfl; rfl; exact (by first | exact (rfl : decide _ = true) | exact (rfl : decide _ = false) | (refine decide_eq_true ?_; assumption) | (refine decide_eq_false ?_; assumption) | (refine decide_eq_true ?_; omega) | (refine decide_eq_false ?_; omega)); rfl)) (Rd.load rfl (Ld.atC (tyrow rfl) rfl (by first | (exact AtC.blk (by ((repeat (first | with_reducible exact Sel.head | apply Sel.tail)); (first | done | fail))) (by first | rfl | assumption)) | (exact AtC.per (by first | assumption)) | (exact AtC.lst (by ((repeat (first | with_reducible exact Sel.head | apply Sel.tail)); (first | done | fail))) (by first | rfl | assumption))))) ?_ | refine XPA.off rfl rfl (by first | exact Gd.isB rfl rfl rfl | exact Gd.un rfl rfl | (apply Gd.isQ; rfl; rfl; exact (by first | exact (rfl : decide _ = true) | exact (rfl : decide _ = false) | (refine decide_eq_true ?_; assumption) | (refine decide_eq_false ?_; assumption) | (refine decide_eq_true ?_; omega) | (refine decide_eq_false ?_; omega)); rfl)) ?_
      first | refine XPA.pu rfl rfl (by first | exact Gd.free | exact Gd.isB rfl rfl rfl | (apply Gd.isQ; rfl; rfl; exact (by first | exact (rfl : decide _ = true) | exact (rfl : decide _ = false) | (refine decide_eq_true ?_; assumption) | (refine decide_eq_false ?_; assumption) | (refine decide_eq_true ?_; omega) | (refine decide_eq_false ?_; omega)); rfl)) (Rd.move (by with_reducible (conv => lhs; whnf))) ?_ | refine XPA.puOff rfl rfl (by first | exact Gd.isB rfl rfl rfl | exact Gd.un rfl rfl | (apply Gd.isQ; rfl; rfl; exact (by first | exact (rfl : decide _ = true) | exact (rfl : decide _ = false) | (refine decide_eq_true ?_; assumption) | (refine decide_eq_false ?_; assumption) | (refine decide_eq_true ?_; omega) | (refine decide_eq_false ?_; omega)); rfl)) ?_
      first | refine XPA.pu rfl rfl (by first | exact Gd.free | exact Gd.isB rfl rfl rfl | (apply Gd.isQ; rfl; rfl; exact (by first | exact (rfl : decide _ = true) | exact (rfl : decide _ = false) | (refine decide_eq_true ?_; assumption) | (refine decide_eq_false ?_; assumption) | (refine decide_eq_true ?_; omega) | (refine decide_eq_false ?_; omega)); rfl)) (Rd.fieldAddr (tyrow rfl) rfl rfl (tyrow rfl) rfl rfl (by first | (conv => lhs; simp only [Nat.reduceAdd, Nat.zero_add, Nat.add_zero, Nat.reduceMul, Nat.mul_one, Int.toNat_natCast, Int.reduceToNat, Nat.zero_mul]) | rfl)) ?_ | refine XPA.puOff rfl rfl (by first | exact Gd.isB rfl rfl rfl | exact Gd.un rfl rfl | (apply Gd.isQ; rfl; rfl; exact (by first | exact (rfl : decide _ = true) | exact (rfl : decide _ = false) | (refine decide_eq_true ?_; assumption) | (refine decide_eq_false ?_; assumption) | (refine decide_eq_true ?_; omega) | (refine decide_eq_false ?_; omega)); rfl)) ?_
      first | refine XPA.rd rfl rfl (by first | exact Gd.free | exact Gd.isB rfl rfl rfl | (apply Gd.isQ; rfl; rfl; exact (by first | exact (rfl : decide _ = true) | exact (rfl : decide _ = false) | (refine decide_eq_true ?_; assumption) | (refine decide_eq_false ?_; assumption) | (refine decide_eq_true ?_; omega) | (refine decide_eq_false ?_; omega)); rfl)) (Rd.load rfl (Ld.atC (tyrow rfl) rfl (by first | (exact AtC.blk (by ((repeat (first | with_reducible exact Sel.head | apply Sel.tail)); (first | done | fail))) (by first | rfl | assumption)) | (exact AtC.per (by first | assumption)) | (exact AtC.lst (by ((repeat (first | with_reducible exact Sel.head | apply Sel.tail)); (first | done | fail))) (by first | rfl | assumption))))) ?_ | refine XPA.off rfl rfl (by first | exact Gd.isB rfl rfl rfl | exact Gd.un rfl rfl | (apply Gd.isQ; rfl; rfl; exact (by first | exact (rfl : decide _ = true) | exact (rfl : decide _ = false) | (refine decide_eq_true ?_; assumption) | (refine decide_eq_false ?_; assumption) | (refine decide_eq_true ?_; omega) | (refine decide_eq_false ?_; omega)); rfl)) ?_
      refine XPA.wr0 rfl rfl (by first | exact Gd.free | exact Gd.isB rfl rfl rfl | (apply Gd.isQ; rfl; rfl; exact (by first | exact (rfl : decide _ = true) | exact (rfl : decide _ = false) | (refine decide_eq_true ?_; assumption) | (refine decide_eq_false ?_; assumption) | (refine decide_eq_true ?_; omega) | (refine decide_eq_false ?_; omega)); rfl)) (WrA.callE (by (repeat (first | exact Ent.all _ | (apply Ent.take; focus (first | ((repeat (first | with_reducible exact Sel.head | apply Sel.tail)); done) | ((repeat (first | exact Sel.head | apply Sel.tail)); done))) | apply Ent.takeNil | apply Ent.takeEmp)); (first | done | fail)) (read_a σ b d2 x.at_ (by omega)) rfl) ?_
      rintro _ _ _ ⟨_, ⟨rfl, rfl, rfl⟩, rfl⟩
      refine ⟨⟨(by first | exact PH.sub.refl _ | assumption), (by (repeat (first | exact Ent.nil _ | (apply Ent.sel; focus (first | ((repeat (first | with_reducible exact Sel.head | apply Sel.tail)); done) | ((repeat (first | exact Sel.head | apply Sel.tail)); done))) | apply Ent.selNil | apply Ent.selEmp)); (first | done | fail))⟩, XPA.re (by conv => lhs; dsimp only [List.cons_append, List.nil_append]) ?_⟩
      refine XPA.wr0 rfl rfl (by first | exact Gd.free | exact Gd.isB rfl rfl rfl | (apply Gd.isQ; rfl; rfl; exact (by first | exact (rfl : decide _ = true) | exact (rfl : decide _ = false) | (refine decide_eq_true ?_; assumption) | (refine decide_eq_false ?_; assumption) | (refine decide_eq_true ?_; omega) | (refine decide_eq_false ?_; omega)); rfl)) (WrA.callE (by (repeat (first | exact Ent.all _ | (apply Ent.take; focus (first | ((repeat (first | with_reducible exact Sel.head | apply Sel.tail)); done) | ((repeat (first | exact Sel.head | apply Sel.tail)); done))) | apply Ent.takeNil | apply Ent.takeEmp)); (first | done | fail)) (pRead_o σ g18 q2 x.at_ (by omega) hqk2 pa pw ca cw) rfl) ?_
      rintro _ _ _ ⟨_, ⟨rfl, rfl, rfl⟩, rfl⟩
      refine ⟨⟨(by first | exact PH.sub.refl _ | assumption), (by (repeat (first | exact Ent.nil _ | (apply Ent.sel; focus (first | ((repeat (first | with_reducible exact Sel.head | apply Sel.tail)); done) | ((repeat (first | exact Sel.head | apply Sel.tail)); done))) | apply Ent.selNil | apply Ent.selEmp)); (first | done | fail))⟩, XPA.re (by conv => lhs; dsimp only [List.cons_append, List.nil_append]) ?_⟩
      rw [← hrx]
      first | refine XPA.pu rfl rfl (by first | exact Gd.free | exact Gd.isB rfl rfl rfl | (apply Gd.isQ; rfl; rfl; exact (by first | exact (rfl : decide _ = true) | exact (rfl : decide _ = false) | (refine decide_eq_true ?_; assumption) | (refine decide_eq_false ?_; assumption) | (refine decide_eq_true ?_; omega) | (refine decide_eq_false ?_; omega)); rfl)) (Rd.neqWords (tyrow rfl) rfl (tyrow rfl) rfl rfl (by kernel_rfl) rfl rfl (by first | assumption | rfl | (simp; (first | done | fail)) | (simp [*]; (first | done | fail))) (by first | assumption | rfl | (simp; (first | done | fail)) | (simp [*]; (first | done | fail)))) ?_ | refine XPA.puOff rfl rfl (by first | exact Gd.isB rfl rfl rfl | exact Gd.un rfl rfl | (apply Gd.isQ; rfl; rfl; exact (by first | exact (rfl : decide _ = true) | exact (rfl : decide _ = false) | (refine decide_eq_true ?_; assumption) | (refine decide_eq_false ?_; assumption) | (refine decide_eq_true ?_; omega) | (refine decide_eq_false ?_; omega)); rfl)) ?_
      refine XPA.pu rfl rfl Gd.free (by first | exact Rd.pickT rfl (by with_reducible (conv => lhs; whnf)) | exact Rd.pickF rfl (by with_reducible (conv => lhs; whnf)) | exact Rd.pickP rfl (by first | exact (rfl : decide _ = true) | exact (rfl : decide _ = false) | (refine decide_eq_true ?_; assumption) | (refine decide_eq_false ?_; assumption) | (refine decide_eq_true ?_; omega) | (refine decide_eq_false ?_; omega)) (by with_reducible (conv => lhs; whnf))) ?_
      refine XPA.pu rfl rfl Gd.free (Rd.move (by with_reducible (conv => lhs; whnf))) ?_
      first | refine XPA.pu rfl rfl (by first | exact Gd.free | exact Gd.isB rfl rfl rfl | (apply Gd.isQ; rfl; rfl; exact (by first | exact (rfl : decide _ = true) | exact (rfl : decide _ = false) | (refine decide_eq_true ?_; assumption) | (refine decide_eq_false ?_; assumption) | (refine decide_eq_true ?_; omega) | (refine decide_eq_false ?_; omega)); rfl)) (Rd.fieldAddr (tyrow rfl) rfl rfl (tyrow rfl) rfl rfl (by first | (conv => lhs; simp only [Nat.reduceAdd, Nat.zero_add, Nat.add_zero, Nat.reduceMul, Nat.mul_one, Int.toNat_natCast, Int.reduceToNat, Nat.zero_mul]) | rfl)) ?_ | refine XPA.puOff rfl rfl (by first | exact Gd.isB rfl rfl rfl | exact Gd.un rfl rfl | (apply Gd.isQ; rfl; rfl; exact (by first | exact (rfl : decide _ = true) | exact (rfl : decide _ = false) | (refine decide_eq_true ?_; assumption) | (refine decide_eq_false ?_; assumption) | (refine decide_eq_true ?_; omega) | (refine decide_eq_false ?_; omega)); rfl)) ?_
      first | refine XPA.rd rfl rfl (by first | exact Gd.free | exact Gd.isB rfl rfl rfl | (apply Gd.isQ; rfl; rfl; exact (by first | exact (rfl : decide _ = true) | exact (rfl : decide _ = false) | (refine decide_eq_true ?_; assumption) | (refine decide_eq_false ?_; assumption) | (refine decide_eq_true ?_; omega) | (refine decide_eq_false ?_; omega)); rfl)) (Rd.load rfl (Ld.atC (tyrow rfl) rfl (by first | (exact AtC.blk (by ((repeat (first | with_reducible exact Sel.head | apply Sel.tail)); (first | done | fail))) (by first | rfl | assumption)) | (exact AtC.per (by first | assumption)) | (exact AtC.lst (by ((repeat (first | with_reducible exact Sel.head | apply Sel.tail)); (first | done | fail))) (by first | rfl | assumption))))) ?_ | refine XPA.off rfl rfl (by first | exact Gd.isB rfl rfl rfl | exact Gd.un rfl rfl | (apply Gd.isQ; rfl; rfl; exact (by first | exact (rfl : decide _ = true) | exact (rfl : decide _ = false) | (refine decide_eq_true ?_; assumption) | (refine decide_eq_false ?_; assumption) | (refine decide_eq_true ?_; omega) | (refine decide_eq_false ?_; omega)); rfl)) ?_
      first | refine XPA.pu rfl rfl (by first | exact Gd.free | exact Gd.isB rfl rfl rfl | (apply Gd.isQ; rfl; rfl; exact (by first | exact (rfl : decide _ = true) | exact (rfl : decide _ = false) | (refine decide_eq_true ?_; assumption) | (refine decide_eq_false ?_; assumption) | (refine decide_eq_true ?_; omega) | (refine decide_eq_false ?_; omega)); rfl)) (Rd.fieldAddr (tyrow rfl) rfl rfl (tyrow rfl) rfl rfl (by first | (conv => lhs; simp only [Nat.reduceAdd, Nat.zero_add, Nat.add_zero, Nat.reduceMul, Nat.mul_one, Int.toNat_natCast, Int.reduceToNat, Nat.zero_mul]) | rfl)) ?_ | refine XPA.puOff rfl rfl (by first | exact Gd.isB rfl rfl rfl | exact Gd.un rfl rfl | (apply Gd.isQ; rfl; rfl; exact (by first | exact (rfl : decide _ = true) | exact (rfl : decide _ = false) | (refine decide_eq_true ?_; assumption) | (refine decide_eq_false ?_; assumption) | (refine decide_eq_true ?_; omega) | (refine decide_eq_false ?_; omega)); rfl)) ?_
      first | refine XPA.rd rfl rfl (by first | exact Gd.free | exact Gd.isB rfl rfl rfl | (apply Gd.isQ; rfl; rfl; exact (by first | exact (rfl : decide _ = true) | exact (rfl : decide _ = false) | (refine decide_eq_true ?_; assumption) | (refine decide_eq_false ?_; assumption) | (refine decide_eq_true ?_; omega) | (refine decide_eq_false ?_; omega)); rfl)) (Rd.load rfl (Ld.atC (tyrow rfl) rfl (by first | (exact AtC.blk (by ((repeat (first | with_reducible exact Sel.head | apply Sel.tail)); (first | done | fail))) (by first | rfl | assumption)) | (exact AtC.per (by first | assumption)) | (exact AtC.lst (by ((repeat (first | with_reducible exact Sel.head | apply Sel.tail)); (first | done | fail))) (by first | rfl | assumption))))) ?_ | refine XPA.off rfl rfl (by first | exact Gd.isB rfl rfl rfl | exact Gd.un rfl rfl | (apply Gd.isQ; rfl; rfl; exact (by first | exact (rfl : decide _ = true) | exact (rfl : decide _ = false) | (refine decide_eq_true ?_; assumption) | (refine decide_eq_false ?_; assumption) | (refine decide_eq_true ?_; omega) | (refine decide_eq_false ?_; omega)); rfl)) ?_
      first | refine XPA.pu rfl rfl (by first | exact Gd.free | exact Gd.isB rfl rfl rfl | (apply Gd.isQ; rfl; rfl; exact (by first | exact (rfl : decide _ = true) | exact (rfl : decide _ = false) | (refine decide_eq_true ?_; assumption) | (refine decide_eq_false ?_; assumption) | (refine decide_eq_true ?_; omega) | (refine decide_eq_false ?_; omega)); rfl)) (Rd.geq rfl rfl) ?_ | refine XPA.puOff rfl rfl (by first | exact Gd.isB rfl rfl rfl | exact Gd.un rfl rfl | (apply Gd.isQ; rfl; rfl; exact (by first | exact (rfl : decide _ = true) | exact (rfl : decide _ = false) | (refine decide_eq_true ?_; assumption) | (refine decide_eq_false ?_; assumption) | (refine decide_eq_true ?_; omega) | (refine decide_eq_false ?_; omega)); rfl)) ?_
      refine XPA.wr0 rfl rfl (by first | exact Gd.free | exact Gd.isB rfl rfl rfl | (apply Gd.isQ; rfl; rfl; exact (by first | exact (rfl : decide _ = true) | exact (rfl : decide _ = false) | (refine decide_eq_true ?_; assumption) | (refine decide_eq_false ?_; assumption) | (refine decide_eq_true ?_; omega) | (refine decide_eq_false ?_; omega)); rfl)) (WrA.callE (by (repeat (first | exact Ent.all _ | (apply Ent.take; focus (first | ((repeat (first | with_reducible exact Sel.head | apply Sel.tail)); done) | ((repeat (first | exact Sel.head | apply Sel.tail)); done))) | apply Ent.takeNil | apply Ent.takeEmp)); (first | done | fail)) (has_a σ x.at_) rfl) ?_
      rintro _ _ _ ⟨_, ⟨rfl, rfl, rfl⟩, rfl⟩
      refine ⟨⟨(by first | exact PH.sub.refl _ | assumption), (by (repeat (first | exact Ent.nil _ | (apply Ent.sel; focus (first | ((repeat (first | with_reducible exact Sel.head | apply Sel.tail)); done) | ((repeat (first | exact Sel.head | apply Sel.tail)); done))) | apply Ent.selNil | apply Ent.selEmp)); (first | done | fail))⟩, XPA.re (by conv => lhs; dsimp only [List.cons_append, List.nil_append]) ?_⟩
      first | refine XPA.pu rfl rfl (by first | exact Gd.free | exact Gd.isB rfl rfl rfl | (apply Gd.isQ; rfl; rfl; exact (by first | exact (rfl : decide _ = true) | exact (rfl : decide _ = false) | (refine decide_eq_true ?_; assumption) | (refine decide_eq_false ?_; assumption) | (refine decide_eq_true ?_; omega) | (refine decide_eq_false ?_; omega)); rfl)) (Rd.move (by with_reducible (conv => lhs; whnf))) ?_ | refine XPA.puOff rfl rfl (by first | exact Gd.isB rfl rfl rfl | exact Gd.un rfl rfl | (apply Gd.isQ; rfl; rfl; exact (by first | exact (rfl : decide _ = true) | exact (rfl : decide _ = false) | (refine decide_eq_true ?_; assumption) | (refine decide_eq_false ?_; assumption) | (refine decide_eq_true ?_; omega) | (refine decide_eq_false ?_; omega)); rfl)) ?_
      first | refine XPA.pu rfl rfl (by first | exact Gd.free | exact Gd.isB rfl rfl rfl | (apply Gd.isQ; rfl; rfl; exact (by first | exact (rfl : decide _ = true) | exact (rfl : decide _ = false) | (refine decide_eq_true ?_; assumption) | (refine decide_eq_false ?_; assumption) | (refine decide_eq_true ?_; omega) | (refine decide_eq_false ?_; omega)); rfl)) (Rd.fieldAddr (tyrow rfl) rfl rfl (tyrow rfl) rfl rfl (by first | (conv => lhs; simp only [Nat.reduceAdd, Nat.zero_add, Nat.add_zero, Nat.reduceMul, Nat.mul_one, Int.toNat_natCast, Int.reduceToNat, Nat.zero_mul]) | rfl)) ?_ | refine XPA.puOff rfl rfl (by first | exact Gd.isB rfl rfl rfl | exact Gd.un rfl rfl | (apply Gd.isQ; rfl; rfl; exact (by first | exact (rfl : decide _ = true) | exact (rfl : decide _ = false) | (refine decide_eq_true ?_; assumption) | (refine decide_eq_false ?_; assumption) | (refine decide_eq_true ?_; omega) | (refine decide_eq_false ?_; omega)); rfl)) ?_
      first | refine XPA.rd rfl rfl (by first | exact Gd.free | exact Gd.isB rfl rfl rfl | (apply Gd.isQ; rfl; rfl; exact (by first | exact (rfl : decide _ = true) | exact (rfl : decide _ = false) | (refine decide_eq_true ?_; assumption) | (refine decide_eq_false ?_; assumption) | (refine decide_eq_true ?_; omega) | (refine decide_eq_false ?_; omega)); rfl)) (Rd.load rfl (Ld.atC (tyrow rfl) rfl (by first | (exact AtC.blk (by ((repeat (first | with_reducible exact Sel.head | apply Sel.tail)); (first | done | fail))) (by first | rfl | assumption)) | (exact AtC.per (by first | assumption)) | (exact AtC.lst (by ((repeat (first | with_reducible exact Sel.head | apply Sel.tail)); (first | done | fail))) (by first | rfl | assumption))))) ?_ | refine XPA.off rfl rfl (by first | exact Gd.isB rfl rfl rfl | exact Gd.un rfl rfl | (apply Gd.isQ; rfl; rfl; exact (by first | exact (rfl : decide _ = true) | exact (rfl : decide _ = false) | (refine decide_eq_true ?_; assumption) | (refine decide_eq_false ?_; assumption) | (refine decide_eq_true ?_; omega) | (refine decide_eq_false ?_; omega)); rfl)) ?_
      first | refine XPA.pu rfl rfl (by first | exact Gd.free | exact Gd.isB rfl rfl rfl | (apply Gd.isQ; rfl; rfl; exact (by first | exact (rfl : decide _ = true) | exact (rfl : decide _ = false) | (refine decide_eq_true ?_; assumption) | (refine decide_eq_false ?_; assumption) | (refine decide_eq_true ?_; omega) | (refine decide_eq_false ?_; omega)); rfl)) (Rd.lss rfl rfl) ?_ | refine XPA.puOff rfl rfl (by first | exact Gd.isB rfl rfl rfl | exact Gd.un rfl rfl | (apply Gd.isQ; rfl; rfl; exact (by first | exact (rfl : decide _ = true) | exact (rfl : decide _ = false) | (refine decide_eq_true ?_; assumption) | (refine decide_eq_false ?_; assumption) | (refine decide_eq_true ?_; omega) | (refine decide_eq_false ?_; omega)); rfl)) ?_
      first | refine XPA.pu rfl rfl (by first | exact Gd.free | exact Gd.isB rfl rfl rfl | (apply Gd.isQ; rfl; rfl; exact (by first | exact (rfl : decide _ = true) | exact (rfl : decide _ = false) | (refine decide_eq_true ?_; assumption) | (refine decide_eq_false ?_; assumption) | (refine decide_eq_true ?_; omega) | (refine decide_eq_false ?_; omega)); rfl)) (by first | exact Rd.pickT rfl (by with_reducible (conv => lhs; whnf)) | exact Rd.pickF rfl (by with_reducible (conv => lhs; whnf)) | exact Rd.pickP rfl (by first | exact (rfl : decide _ = true) | exact (rfl : decide _ = false) | (refine decide_eq_true ?_; assumption) | (refine decide_eq_false ?_; assumption) | (refine decide_eq_true ?_; omega) | (refine decide_eq_false ?_; omega)) (by with_reducible (conv => lhs; whnf))) ?_ | refine XPA.puOff rfl rfl (by first | exact Gd.isB rfl rfl rfl | exact Gd.un rfl rfl | (apply Gd.isQ; rfl; rfl; exact (by first | exact (rfl : decide _ = true) | exact (rfl : decide _ = false) | (refine decide_eq_true ?_; assumption) | (refine decide_eq_false ?_; assumption) | (refine decide_eq_true ?_; omega) | (refine decide_eq_false ?_; omega)); rfl)) ?_
      first | refine XPA.pu rfl rfl (by first | exact Gd.free | exact Gd.isB rfl rfl rfl | (apply Gd.isQ; rfl; rfl; exact (by first | exact (rfl : decide _ = true) | exact (rfl : decide _ = false) | (refine decide_eq_true ?_; assumption) | (refine decide_eq_false ?_; assumption) | (refine decide_eq_true ?_; omega) | (refine decide_eq_false ?_; omega)); rfl)) (Rd.neqb (tyrow rfl) rfl rfl rfl) ?_ | refine XPA.puOff rfl rfl (by first | exact Gd.isB rfl rfl rfl | exact Gd.un rfl rfl | (apply Gd.isQ; rfl; rfl; exact (by first | exact (rfl : decide _ = true) | exact (rfl : decide _ = false) | (refine decide_eq_true ?_; assumption) | (refine decide_eq_false ?_; assumption) | (refine decide_eq_true ?_; omega) | (refine decide_eq_false ?_; omega)); rfl)) ?_
      refine XPA.pu rfl rfl Gd.free (by first | exact Rd.pickT rfl (by with_reducible (conv => lhs; whnf)) | exact Rd.pickF rfl (by with_reducible (conv => lhs; whnf)) | exact Rd.pickP rfl (by first | exact (rfl : decide _ = true) | exact (rfl : decide _ = false) | (refine decide_eq_true ?_; assumption) | (refine decide_eq_false ?_; assumption) | (refine decide_eq_true ?_; omega) | (refine decide_eq_false ?_; omega)) (by with_reducible (conv => lhs; whnf))) ?_
      refine XPA.nil ?_
      refine DA.thn_normal ?_
      refine XA.condF rfl (by first | rfl | exact (by first | exact (rfl : decide _ = true) | exact (rfl : decide _ = false) | (refine decide_eq_true ?_; assumption) | (refine decide_eq_false ?_; assumption) | (refine decide_eq_true ?_; omega) | (refine decide_eq_false ?_; omega))) ?_
      refine XA.skip ?_
      refine DA.inb_normal ?_
      refine DA.thn_normal ?_
      refine XA.region ?_
      refine XOA.rd rfl (Rd.move (by with_reducible (conv => lhs; whnf))) ?_
      refine XOA.rd rfl (by first | exact Rd.addi rfl rfl rfl (by omega) | exact Rd.add rfl rfl) ?_
      refine XOA.rd rfl (Rd.assign (by with_reducible (conv => lhs; whnf))) ?_
      refine XOA.nil ?_
      refine DA.thn_normal ?_
      refine ⟨(Keep.upd (Keep.upd (Keep.upd (Keep.upd (Keep.upd (Keep.upd (Keep.upd (Keep.upd (Keep.upd (Keep.upd (Keep.updO (Keep.upd (Keep.upd (Keep.upd (Keep.upd (Keep.upd (Keep.upd (Keep.upd (Keep.upd (Keep.updO (Keep.updO (Keep.upd (Keep.upd (Keep.upd (Keep.upd (Keep.upd (Keep.upd (Keep.upd (Keep.upd (Keep.upd (Keep.updO (Keep.updO (Keep.upd (Keep.upd (Keep.upd (Keep.upd (Keep.upd (Keep.upd (Keep.updO (Keep.upd (Keep.upd (Keep.upd (Keep.upd (Keep.upd (Keep.upd (Keep.upd (Keep.upd (Keep.upd (Keep.upd (Keep.upd (Keep.hav (Keep.hav (Keep.upd (Keep.upd (Keep.updN (Keep.updO (Keep.upd (Keep.upd (Keep.upd (Keep.upd (Keep.upd (Keep.upd (Keep.upd (Keep.upd (Keep.upd (Keep.hav (Keep.hav (Keep.hav (Keep.refl _ _) rfl) rfl) rfl) rfl) rfl) rfl) rfl) rfl) rfl) rfl) rfl) rfl) rfl)) rfl) rfl) rfl) rfl) rfl) rfl) rfl) rfl) rfl) rfl) rfl) rfl) rfl) rfl) rfl) rfl) rfl) rfl) rfl) rfl) rfl) rfl) rfl) rfl) rfl) rfl) rfl) rfl) rfl) rfl) rfl) rfl) rfl) rfl) rfl) rfl) rfl) rfl) rfl) rfl) rfl) rfl) rfl) rfl) rfl) rfl) rfl) rfl) rfl) rfl) rfl) rfl) rfl) rfl), k + 1, [Disk b d2, Plate g18 q2], (by (repeat (first | exact trivial | refine ⟨rfl, ?_⟩ | refine ⟨Eq.trans rfl (congrArg Value.bool hmat.symm), ?_⟩)); (first | done | fail)), ?_, ⟨rfl, hlt, d2, q2, hok2, hqk2, hdp2, hql2, rfl⟩, (by omega)⟩
      · exact Ent.sel (by ((repeat (first | with_reducible exact Sel.head | apply Sel.tail)); (first | done | fail))) (Ent.fold1 (Θ := [_, _, _]) (by (repeat (first | exact Ent.nil _ | (apply Ent.sel; focus (first | ((repeat (first | with_reducible exact Sel.head | apply Sel.tail)); done) | ((repeat (first | exact Sel.head | apply Sel.tail)); done))) | apply Ent.selNil | apply Ent.selEmp)); (first | done | fail)) (Plate.mk hqk2 rfl rfl rfl rfl rfl))
  refine XA.exit ?_
  refine DA.thn_exit ?_
  refine DA.thn_exit ?_
  refine DA.inb_same ?_
  refine DA.thn_normal ?_
  refine XA.seq ?_
  refine XA.region ?_
  refine XOA.rd rfl (Rd.move (by with_reducible (conv => lhs; whnf))) ?_
  refine XOA.wr0 rfl (WrA.callE (by (repeat (first | exact Ent.all _ | (apply Ent.take; focus (first | ((repeat (first | with_reducible exact Sel.head | apply Sel.tail)); done) | ((repeat (first | exact Sel.head | apply Sel.tail)); done))) | apply Ent.takeNil | apply Ent.takeEmp)); (first | done | fail)) (sure_a σ b d) rfl) ?_
  rintro _ _ _ ⟨_, ⟨gs, cs, rfl, rfl, rfl⟩, rfl⟩
  refine XOA.re (by conv => lhs; dsimp only [List.cons_append, List.nil_append]) ?_
  refine XOA.rd rfl (Rd.assign (by with_reducible (conv => lhs; whnf))) ?_
  refine XOA.nil ?_
  refine DA.thn_normal ?_
  refine XA.seq ?_
  refine XA.seq ?_
  refine XA.region ?_
  refine XOA.rd rfl (Rd.assign (by with_reducible (conv => lhs; whnf))) ?_
  refine XOA.nil ?_
  refine DA.thn_normal ?_
  refine XA.block ?_
  refine XA.gen [(4, _), (6, _), (9, _), (10, _)] ⟨(by with_reducible (conv => lhs; whnf)), (by with_reducible (conv => lhs; whnf)), (by with_reducible (conv => lhs; whnf)), (by with_reducible (conv => lhs; whnf)), trivial⟩ (fun δ => ?_)
  dsimp only [List.foldl]
  refine XA.loop [(4, 4), (10, 10), (111, 124)] (fun k : Nat => [(10, i64 k)]) (fun k σ' Γ' => σ = σ' ∧ k ≤ 34 ∧ Γ' = [lst 32 8 (.slice (some ⟨gs, 0, none⟩) 34 cs) 34 d.cells, Plate g18 q]) (fun k => 34 - k) 0 (by exact ⟨rfl, trivial⟩) (Δ0 := _) ?_ (⟨rfl, Nat.zero_le _, rfl⟩) ?_
  · exact (by (repeat (first | exact Ent.nil _ | (apply Ent.sel; focus (first | ((repeat (first | with_reducible exact Sel.head | apply Sel.tail)); done) | ((repeat (first | exact Sel.head | apply Sel.tail)); done))) | apply Ent.selNil | apply Ent.selEmp)); (first | done | fail))
  rintro k2 δ _ _ ⟨rfl, hk2, rfl⟩
  dsimp only [ovr, List.foldl]
  refine XA.seq ?_
  refine XA.seq ?_
  refine XA.region ?_
  refine XOA.rd rfl (Rd.move (by with_reducible (conv => lhs; whnf))) ?_
  refine XOA.rd rfl (Rd.move (by with_reducible (conv => lhs; whnf))) ?_
  refine XOA.rd rfl (Rd.lenSlice (tyrow rfl) rfl rfl) ?_
  refine XOA.rd rfl (Rd.lss rfl rfl) ?_
  refine XOA.nil ?_
  refine DA.thn_normal ?_
  refine XA.condp rfl (fun hlt2 => ?_) (fun hlt2 => ?_)
  · have hlt2 : k2 < 34 := by omega
    obtain ⟨w, hw⟩ : ∃ w, d.l[k2]? = some w := ⟨_, List.getElem?_eq_getElem (by rw [hok.1]; exact hlt2)⟩
    have hw8 : w.length = 8 := hok.2.1 w (List.mem_of_getElem? hw)
    have hrow : (d.cells.drop (k2 * 8)).take 8 = ints w := crow hok hw
    have hrd : w = q.read (k2 : Int) q.sure := by
      have := hdp.held (k2 : Int) ⟨by omega, by omega⟩
      rw [PlateS.read, ← this, DiskS.held, Int.toNat_natCast, List.getD_eq_getElem?_getD, hw]; rfl
    have hq8 : (q.read (k2 : Int) q.sure).length = 8 := by rw [← hrd]; exact hw8
    have hww : ¬ (w ≠ q.read (k2 : Int) q.sure) := fun h => h hrd
    refine XA.skip ?_
    refine DA.thn_normal ?_
    refine XA.seq ?_
    refine XA.block ?_
    refine XA.seq ?_
    refine XA.draw (by kernel_rfl) _ _ [] [(0, .pu), (1, .pu), (2, .pu), (3, .rd), (4, .pu), (5, .pu), (6, .wr), (7, .pu)] (by kernel_rfl) (PH.sub.refl _) (Ent.sel (R := lst 32 8 (.slice (some ⟨gs, 0, none⟩) 34 cs) _ _) (by ((repeat (first | with_reducible exact Sel.head | apply Sel.tail)); (first | done | fail))) (Ent.nil _)) ?_
    refine XPA.pu rfl rfl Gd.free (Rd.move (by with_reducible (conv => lhs; whnf))) ?_
    refine XPA.pu rfl rfl Gd.free (Rd.move (by with_reducible (conv => lhs; whnf))) ?_
    refine XPA.pu rfl rfl Gd.free (by apply Rd.indexSlice; exact tyrow rfl; rfl; exact tyrow rfl; rfl; rfl; exact (by first | omega | decide | (simp; omega)); exact (by with_reducible (conv => lhs; whnf)); exact (by first | (conv => lhs; simp only [Nat.reduceAdd, Nat.zero_add, Nat.add_zero, Nat.reduceMul, Nat.mul_one, Int.toNat_natCast, Int.reduceToNat, Nat.zero_mul]) | rfl)) ?_
    refine XPA.rd rfl rfl Gd.free (Rd.load rfl (by first | (exact Ld.atBlk (tyrow rfl) rfl (by ((repeat (first | with_reducible exact Sel.head | apply Sel.tail)); (first | done | fail))) rfl (by first | exact take0 (by first | rfl | assumption | (simp [*]; (first | done | fail)) | (simp [*]; (first | done | fail))) | assumption | exact take_app (by first | rfl | assumption | (simp [*]; (first | done | fail)) | (simp [*]; (first | done | fail))) | (conv => lhs; simp only [List.drop_succ_cons, List.drop_zero, List.take_succ_cons, List.take_zero])) (by first | rfl | assumption | (simp [*]; (first | done | fail)) | (simp [*]; (first | done | fail)))) | (exact Ld.at (tyrow rfl) rfl (At.per (by assumption)) (by first | rfl | assumption | (simp [*]; (first | done | fail)) | (simp [*]; (first | done | fail)))) | (exact Ld.atLst (tyrow rfl) rfl (by ((repeat (first | with_reducible exact Sel.head | apply Sel.tail)); (first | done | fail))) rfl (by first | exact take0 (by first | rfl | assumption | (simp [*]; (first | done | fail)) | (simp [*]; (first | done | fail))) | assumption | exact take_app (by first | rfl | assumption | (simp [*]; (first | done | fail)) | (simp [*]; (first | done | fail))) | (conv => lhs; simp only [List.drop_succ_cons, List.drop_zero, List.take_succ_cons, List.take_zero])) (by first | rfl | assumption | (simp [*]; (first | done | fail)) | (simp [*]; (first | done | fail)))))) ?_
    refine XPA.pu rfl rfl Gd.free (Rd.move (by with_reducible (conv => lhs; whnf))) ?_
    refine XPA.pu rfl rfl Gd.free (Rd.move (by with_reducible (conv => lhs; whnf))) ?_
    refine XPA.wr0 rfl rfl Gd.free (WrA.callE (by (repeat (first | exact Ent.all _ | (apply Ent.take; focus (first | ((repeat (first | with_reducible exact Sel.head | apply Sel.tail)); done) | ((repeat (first | exact Sel.head | apply Sel.tail)); done))) | apply Ent.takeNil | apply Ent.takeEmp)); (first | done | fail)) (pholds_a σ g18 q (k2 : Int) (by omega)) rfl) ?_
    rintro _ _ _ ⟨_, ⟨rfl, rfl, rfl⟩, rfl⟩
    refine ⟨⟨(by first | exact PH.sub.refl _ | assumption), (by (repeat (first | exact Ent.nil _ | (apply Ent.sel; focus (first | ((repeat (first | with_reducible exact Sel.head | apply Sel.tail)); done) | ((repeat (first | exact Sel.head | apply Sel.tail)); done))) | apply Ent.selNil | apply Ent.selEmp)); (first | done | fail))⟩, XPA.re (by conv => lhs; dsimp only [List.cons_append, List.nil_append]) ?_⟩
    refine XPA.pu rfl rfl Gd.free (Rd.neqWords (tyrow rfl) rfl (tyrow rfl) rfl rfl (by kernel_rfl) rfl rfl (by first | assumption | rfl | (simp; (first | done | fail)) | (simp [*]; (first | done | fail))) (by first | assumption | rfl | (simp; (first | done | fail)) | (simp [*]; (first | done | fail)))) ?_
    refine XPA.nil ?_
    refine DA.thn_normal ?_
    refine XA.condF rfl (by first | rfl | exact (by first | exact (rfl : decide _ = true) | exact (rfl : decide _ = false) | (refine decide_eq_true ?_; assumption) | (refine decide_eq_false ?_; assumption) | (refine decide_eq_true ?_; omega) | (refine decide_eq_false ?_; omega))) ?_
    refine XA.skip ?_
    refine DA.inb_normal ?_
    refine DA.thn_normal ?_
    refine XA.region ?_
    refine XOA.rd rfl (Rd.move (by with_reducible (conv => lhs; whnf))) ?_
    refine XOA.rd rfl (by first | exact Rd.addi rfl rfl rfl (by omega) | exact Rd.add rfl rfl) ?_
    refine XOA.rd rfl (Rd.assign (by with_reducible (conv => lhs; whnf))) ?_
    refine XOA.nil ?_
    refine DA.thn_normal ?_
    refine ⟨(Keep.upd (Keep.upd (Keep.upd (Keep.upd (Keep.updO (Keep.upd (Keep.upd (Keep.upd (Keep.upd (Keep.upd (Keep.upd (Keep.upd (Keep.upd (Keep.upd (Keep.upd (Keep.upd (Keep.hav (Keep.hav (Keep.hav (Keep.refl _ _) rfl) rfl) rfl) rfl) rfl) rfl) rfl) rfl) rfl) rfl) rfl) rfl) rfl) rfl) rfl) rfl) rfl) rfl) rfl), k2 + 1, _, (by (repeat (first | exact trivial | refine ⟨rfl, ?_⟩ | refine ⟨Eq.trans rfl (congrArg Value.bool hmat.symm), ?_⟩)); (first | done | fail)), ?_, ⟨rfl, hlt2, rfl⟩, (by omega)⟩
    · exact (by (repeat (first | exact Ent.nil _ | (apply Ent.sel; focus (first | ((repeat (first | with_reducible exact Sel.head | apply Sel.tail)); done) | ((repeat (first | exact Sel.head | apply Sel.tail)); done))) | apply Ent.selNil | apply Ent.selEmp)); (first | done | fail))
  refine XA.exit ?_
  refine DA.thn_exit ?_
  refine DA.thn_exit ?_
  refine DA.inb_same ?_
  refine DA.thn_normal ?_
  refine XA.seq ?_
  refine XA.region ?_
  refine XOA.rd rfl (Rd.move (by with_reducible (conv => lhs; whnf))) ?_
  refine XOA.rd rfl (Rd.lenSlice (tyrow rfl) rfl rfl) ?_
  refine XOA.rd rfl (Rd.eql rfl rfl) ?_
  refine XOA.rd rfl (Rd.assign (by with_reducible (conv => lhs; whnf))) ?_
  refine XOA.nil ?_
  refine DA.thn_normal ?_
  refine XA.ret ?_
  exact bodyA.ret (ResA.one rfl rfl) (Ent.nil _) ⟨rfl, .refl _⟩
end Go.Proofs.Ytplobdiknobhoaa
