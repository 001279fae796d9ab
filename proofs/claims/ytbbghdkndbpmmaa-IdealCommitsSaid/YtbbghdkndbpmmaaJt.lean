/- Package ideal: statements. -/
import Derived.Test.YtbbghdkndbpmmaaJs
namespace Go.Proofs.Ytbbghdkndbpmmaa
open Go X
set_option maxHeartbeats 1000000
theorem stG_5 (vs : List Va) (g : Nat) (v : Int) (e f : Ex) (body els : List St) (s : RS) : stG vs (g + 1) (.mk 5 v e f body els) s = match isS vs e s with
      | .error e => some (.error e)
      | .ok (false, s1) => some (.ok s1)
      | .ok (true, s1) => match listG (stG vs g) body s1 with
        | none => none
        | some (.error e) => some (.error e)
        | some (.ok s2) => match oneS s2 with
          | .error e => some (.error e)
          | .ok s3 => stG vs g (.mk 5 v e f body els) s3 := by rw [stG]; rfl
theorem stG_6 (vs : List Va) (g : Nat) (v : Int) (e f : Ex) (body els : List St) (s : RS) : stG vs (g + 1) (.mk 6 v e f body els) s = match isS vs e s with
      | .error e => some (.error e)
      | .ok (true, s1) => match listG (stG vs g) body s1 with
        | none => none
        | some (.error e) => some (.error e)
        | some (.ok s2) => some (oneS s2)
      | .ok (false, s1) => listG (stG vs g) els s1 := by rw [stG]; rfl
theorem isS_less (vs : List Va) (x : Ex) (s : RS) : (∀ v s', isS vs x s = .ok (v, s') → Less s s' ∧ s' = { s with left := s'.left }) ∧ ∀ c s', isS vs x s = .error (c, s') → Less s s' := by
  obtain ⟨h1, h2⟩ := exS_less vs x s
  rw [isS]
  cases e : exS vs x s with
  | error q => exact ⟨fun v s' h => (by cases h), fun c s' h => by cases h; exact h2 _ _ e⟩
  | ok q =>
    obtain ⟨n, s1⟩ := q
    obtain ⟨a1, a2, a3⟩ := h1 _ _ e
    obtain ⟨b1, b2⟩ := oneS_less (s := s1)
    simp only
    cases e2 : oneS s1 with
    | error q => obtain ⟨c0, s0⟩ := q; refine ⟨fun v s' h => (by cases h), fun c s' h => ?_⟩; cases h; obtain ⟨rfl, -, -⟩ := b2 _ _ e2; exact a1
    | ok s2 =>
      obtain ⟨c1, c2, c3⟩ := b1 _ e2
      refine ⟨fun v s' h => ?_, fun c s' h => (by cases h)⟩
      cases h
      exact ⟨a1.trans c1, by rw [a3] at c3; exact c3⟩
theorem listG_less {F : St → RS → Option RR} (hF : ∀ x s r, F x s = some r → Less s (resS r)) : ∀ (l : List St) (s : RS) (r : RR), listG F l s = some r → Less s (resS r)
  | [], s, r, h => by cases h; exact Less.refl s
  | x :: l, s, r, h => by
    rw [listG] at h
    cases e : F x s with
    | none => rw [e] at h; cases h
    | some q =>
      rw [e] at h
      have h1 := hF _ _ _ e
      cases q with
      | error q => cases h; exact h1
      | ok s1 => exact Less.trans h1 (listG_less hF l s1 r h)
theorem ofOne {s s1 : RS} (h : Less s s1) : Less s (resS (oneS s1)) := by
  obtain ⟨h1, h2⟩ := oneS_less (s := s1)
  cases e : oneS s1 with
  | error q => obtain ⟨c, s2⟩ := q; obtain ⟨rfl, -, -⟩ := h2 _ _ e; exact h
  | ok s2 => exact h.trans (h1 _ e).1
theorem stG_less (vs : List Va) : ∀ (g : Nat) (x : St) (s : RS) (r : RR), stG vs g x s = some r → Less s (resS r) := by
  intro g
  induction g with
  | zero => intro x s r h; cases h
  | succ g ih =>
    intro x s r h
    obtain ⟨op, v, e, f, body, els⟩ := x
    obtain ⟨x1, x2⟩ := exS_less vs e s
    by_cases q1 : op = 1
    · subst q1
      rw [stG, if_pos rfl] at h
      cases h
      rw [setS]
      cases e1 : exS vs e s with
      | error q => exact x2 _ _ e1
      | ok q =>
        have a1 := (x1 _ _ e1).1
        simp only
        obtain ⟨b1, b2⟩ := oneS_less (s := q.2)
        cases e2 : oneS q.2 with
        | error q => obtain ⟨c0, s0⟩ := q; obtain ⟨rfl, -, -⟩ := b2 _ _ e2; exact a1
        | ok s2 => have := a1.trans (b1 _ e2).1; exact ⟨by simp only [resS, List.length_set]; exact this.cl, this.left, this.out⟩
    by_cases q2 : op = 2
    · subst q2
      rw [stG, if_neg (by decide), if_pos rfl] at h
      cases h
      rw [putS]
      cases e1 : exS vs e s with
      | error q => exact x2 _ _ e1
      | ok q =>
        have a1 := (x1 _ _ e1).1
        simp only
        obtain ⟨y1, y2⟩ := exS_less vs f q.2
        cases e2 : exS vs f q.2 with
        | error q => exact a1.trans (y2 _ _ e2)
        | ok q' =>
          have a2 := a1.trans (y1 _ _ e2).1
          simp only
          obtain ⟨b1, b2⟩ := oneS_less (s := q'.2)
          cases e3 : oneS q'.2 with
          | error q => obtain ⟨c0, s0⟩ := q; obtain ⟨rfl, -, -⟩ := b2 _ _ e3; exact a2
          | ok s2 =>
            have := a2.trans (b1 _ e3).1
            simp only
            split
            · exact this
            · exact ⟨by simp only [resS, List.length_set]; exact this.cl, this.left, this.out⟩
    by_cases q3 : op = 3
    · subst q3
      rw [stG, if_neg (by decide), if_neg (by decide), if_pos rfl] at h
      cases h
      rw [printS]
      cases e1 : exS vs e s with
      | error q => exact x2 _ _ e1
      | ok q =>
        have a1 := (x1 _ _ e1).1
        simp only
        obtain ⟨b1, b2⟩ := oneS_less (s := q.2)
        cases e2 : oneS q.2 with
        | error q => obtain ⟨c0, s0⟩ := q; obtain ⟨rfl, -, -⟩ := b2 _ _ e2; exact a1
        | ok s2 =>
          obtain ⟨c1, c2, c3⟩ := b1 _ e2
          have := a1.trans c1
          have ho : s2.out = q.2.out := by rw [c3]
          have := a1.out
          refine ⟨this |> fun _ => (a1.trans c1).cl, (a1.trans c1).left, ?_⟩
          simp only [resS, List.length_append, List.length_singleton]
          rw [ho]; omega
    by_cases q4 : op = 4
    · subst q4
      rw [stG, if_neg (by decide), if_neg (by decide), if_neg (by decide), if_pos rfl] at h
      cases h
      rw [readS]
      obtain ⟨b1, b2⟩ := oneS_less (s := s)
      cases e2 : oneS s with
      | error q => obtain ⟨c0, s0⟩ := q; obtain ⟨rfl, -, -⟩ := b2 _ _ e2; exact Less.refl _
      | ok s2 =>
        have := (b1 _ e2).1
        simp only
        split
        · exact this
        · exact ⟨by simp only [resS, List.length_set]; exact this.cl, this.left, this.out⟩
    have hl := listG_less ih
    obtain ⟨i1, i2⟩ := isS_less vs e s
    by_cases q5 : op = 5
    · subst q5
      rw [stG_5] at h
      cases e1 : isS vs e s with
      | error q => rw [e1] at h; cases h; exact i2 _ _ e1
      | ok q =>
        obtain ⟨bb, s1⟩ := q
        have a1 := (i1 _ _ e1).1
        rw [e1] at h
        cases bb with
        | false => cases h; exact a1
        | true =>
          simp only at h
          cases e2 : listG (stG vs g) body s1 with
          | none => rw [e2] at h; cases h
          | some q =>
            rw [e2] at h
            have a2 := a1.trans (hl _ _ _ e2)
            cases q with
            | error q => cases h; exact a2
            | ok s2 =>
              simp only at h
              have a3 := ofOne a2
              cases e3 : oneS s2 with
              | error q => simp only [resS] at a3; rw [e3] at h a3; cases h; exact a3
              | ok s3 => simp only [resS] at a3; rw [e3] at h a3; exact a3.trans (ih _ _ _ h)
    by_cases q6 : op = 6
    · subst q6
      rw [stG_6] at h
      cases e1 : isS vs e s with
      | error q => rw [e1] at h; cases h; exact i2 _ _ e1
      | ok q =>
        obtain ⟨bb, s1⟩ := q
        have a1 := (i1 _ _ e1).1
        rw [e1] at h
        cases bb with
        | false => exact a1.trans (hl _ _ _ h)
        | true =>
          simp only at h
          cases e2 : listG (stG vs g) body s1 with
          | none => rw [e2] at h; cases h
          | some q =>
            rw [e2] at h
            have a2 := a1.trans (hl _ _ _ e2)
            cases q with
            | error q => cases h; exact a2
            | ok s2 => cases h; exact ofOne a2
    rw [stG, if_neg q1, if_neg q2, if_neg q3, if_neg q4, if_neg q5, if_neg q6] at h
    split at h
    · cases h; exact ofOne (Less.refl s)
    · cases h; exact Less.refl s
def StmtR (g : Nat) (σ : PH) (pr : Pr) (x : St) : Prop := ∀ (cs : List Value) (b : Nat) (pv : Option Addr) (cv : Nat) (bs : Value) (gc nc : Nat) (s : RS) (vi : Value) (po : Option Addr) (co : Nat) (r : RR),
  PrAt σ [.slice pv pr.vars.length cv, bs] pr → StAt σ cs x → StV pr.vars.length x → Fine pr.vars nc s → PInts σ vi s.inp → stG pr.vars g x s = some r →
  CallsA Try.prog 73 #[ptr b, .agg cs.toArray] σ [blk b [.slice pv pr.vars.length cv, bs, .slice (some ⟨gc, 0, none⟩) nc nc, vi, .slice po (s.out).length co, i64 s.left] 97, blk gc (ints (s.cells)) 2, lst 2 1 (.slice po (s.out).length co) (s.out).length (ints (s.out))] (EndS σ (fun s vi po co => [blk b [.slice pv pr.vars.length cv, bs, .slice (some ⟨gc, 0, none⟩) nc nc, vi, .slice po (s.out).length co, i64 s.left] 97, blk gc (ints (s.cells)) 2, lst 2 1 (.slice po (s.out).length co) (s.out).length (ints (s.out))]) r)
theorem list_r (g : Nat) (σ : PH) (pr : Pr) (l : List St) (ih : ∀ x ∈ l, StmtR g σ pr x) (sl : Value) (b : Nat) (pv : Option Addr) (cv : Nat) (bs : Value) (gc nc : Nat) (s : RS) (vi : Value) (po : Option Addr) (co : Nat) (r : RR)
    (hp : PrAt σ [.slice pv pr.vars.length cv, bs] pr) (hl : PSl 12 StAt σ sl l) (hsV : StsV pr.vars.length l) (hF : Fine pr.vars nc s) (hvi : PInts σ vi s.inp) (hr : listG (stG pr.vars g) l s = some r) :
    CallsA Try.prog 53 #[ptr b, sl] σ [blk b [.slice pv pr.vars.length cv, bs, .slice (some ⟨gc, 0, none⟩) nc nc, vi, .slice po (s.out).length co, i64 s.left] 97, blk gc (ints (s.cells)) 2, lst 2 1 (.slice po (s.out).length co) (s.out).length (ints (s.out))] (EndS σ (fun s vi po co => [blk b [.slice pv pr.vars.length cv, bs, .slice (some ⟨gc, 0, none⟩) nc nc, vi, .slice po (s.out).length co, i64 s.left] 97, blk gc (ints (s.cells)) 2, lst 2 1 (.slice po (s.out).length co) (s.out).length (ints (s.out))]) r) := by
  obtain ⟨pl, cl, rfl, hle, hmx⟩ := hl.shape
  simp only [maxLen] at hmx
  have hlen : l.length ≤ 9223372036854775807 := by omega
  refine enterA2 Try.func53 rfl rfl rfl ?_
  refine zS ?_; refine zR ?_; refine zO rfl Rd.mv ?_; refine zO rfl (Rd.lenSlice (tyrow rfl) rfl rfl) ?_; refine zO rfl Rd.mv ?_; refine zN ?_; refine zT ?_
  refine XA.block ?_
  refine XA.gen [(0, _), (6, _), (7, _), (8, _)] ⟨(by with_reducible (conv => lhs; whnf)), (by with_reducible (conv => lhs; whnf)), (by with_reducible (conv => lhs; whnf)), (by with_reducible (conv => lhs; whnf)), trivial⟩ (fun δ => ?_)
  dsimp only [List.foldl]
  refine XA.loop [(5, 5), (8, 15)] (fun i : Nat => [(8, i64 i)]) (fun i σ' Γ' => σ = σ' ∧ i ≤ l.length ∧ ∃ (s' : RS) (vi' : Value) (po' : Option Addr) (co' : Nat), listG (stG pr.vars g) (l.drop i) s' = some r ∧ Fine pr.vars nc s' ∧ PInts σ vi' s'.inp ∧ Γ' = [blk b [.slice pv pr.vars.length cv, bs, .slice (some ⟨gc, 0, none⟩) nc nc, vi', .slice po' (s'.out).length co', i64 s'.left] 97, blk gc (ints (s'.cells)) 2, lst 2 1 (.slice po' (s'.out).length co') (s'.out).length (ints (s'.out))]) (fun i => l.length - i) 0 (by exact ⟨rfl, trivial⟩) (Δ0 := _) ?_ (⟨rfl, Nat.zero_le _, s, vi, po, co, hr, hF, hvi, rfl⟩) ?_
  · exact zE
  rintro i δ _ _ ⟨rfl, hi, s', vi', po', co', hr', hF', hvi', rfl⟩
  dsimp only [ovr, List.foldl]
  refine zS ?_; refine zR ?_; refine zO rfl (Rd.lss rfl rfl) ?_; refine zN ?_; refine zT ?_; refine zS ?_
  refine XA.condp rfl (fun hlt => ?_) (fun hlt => ?_)
  · have hlt : i < l.length := by omega
    obtain ⟨x', hx'⟩ : ∃ x', l[i]? = some x' := ⟨_, List.getElem?_eq_getElem hlt⟩
    obtain ⟨gg, o, row, rfl, hrx, hrl, hrow⟩ := hl.at hx'
    have hmem := List.mem_of_getElem? hx'
    have hone := hrx.ones
    rw [drop_get hx', listG] at hr'
    cases e1 : stG pr.vars g x' s' with
    | none => rw [e1] at hr'; cases hr'
    | some q =>
      have hc := ih x' hmem row b pv cv bs gc nc s' vi' po' co' q hp hrx (hsV.mem x' hmem) hF' hvi' e1
      rw [e1] at hr'
      cases q with
      | error q =>
        obtain ⟨c0, s0⟩ := q
        cases hr'
        refine XA.skip ?_
        refine zT ?_; refine zS ?_
        refine XA.block ?_
        refine zS ?_; refine zR ?_
        refine zO rfl (Rd.ixS rfl rfl) ?_
        refine zO rfl (Rd.ldA rfl) ?_
        refine XOA.wr0 rfl (WrA.alloc (tyrow rfl)) ?_
        rintro _ _ _ ⟨g5, rfl, rfl, rfl⟩
        refine XOA.wr0 rfl (WrA.st (tyrow rfl) rfl) ?_
        rintro _ _ _ ⟨rfl, rfl, rfl⟩
        refine zN ?_; refine zT ?_; refine zR ?_; refine zO rfl Rd.mv ?_; refine zO rfl (Rd.ldA rfl) ?_
        refine XOA.die rfl (EndS.err hc) rfl ?_
        rintro _ _ _ ⟨rfl, rfl, vi2, po2, co2, hvi2, rfl⟩
        refine DA.cl ?_
        repeat (first | refine DA.thn_panic ?_ | refine DA.inb_panic ?_)
        exact bodyA.panic zE ⟨rfl, rfl, vi2, po2, co2, hvi2, rfl⟩
      | ok s1 =>
        have hF1 : Fine pr.vars nc s1 := hF'.less (stG_less _ _ _ _ _ e1)
        refine XA.skip ?_
        refine zT ?_; refine zS ?_
        refine XA.block ?_
        refine zS ?_; refine zR ?_
        refine zO rfl (Rd.ixS rfl rfl) ?_
        refine zO rfl (Rd.ldA rfl) ?_
        refine XOA.wr0 rfl (WrA.alloc (tyrow rfl)) ?_
        rintro _ _ _ ⟨g5, rfl, rfl, rfl⟩
        refine XOA.wr0 rfl (WrA.st (tyrow rfl) rfl) ?_
        rintro _ _ _ ⟨rfl, rfl, rfl⟩
        refine zN ?_; refine zT ?_; refine zR ?_; refine zO rfl Rd.mv ?_; refine zO rfl (Rd.ldA rfl) ?_
        refine XOA.wr0 rfl (WrA.cE (EndS.ok hc) rfl) ?_
        rintro _ _ _ ⟨_, ⟨rfl, rfl, vi2, po2, co2, hvi2, rfl⟩, rfl⟩
        refine XOA.cl ?_
        refine zN ?_
        refine DA.inb_normal ?_
        refine zT ?_; refine zR ?_
        refine zO rfl (by first | exact Rd.adi rfl rfl | exact Rd.add rfl rfl) ?_
        refine zO rfl Rd.mv ?_; refine zN ?_; refine zT ?_
        refine ⟨(Keep.upd (Keep.upd (Keep.updO (Keep.upd (Keep.upd (Keep.updN (Keep.updO (Keep.upd (Keep.upd (Keep.upd (Keep.upd (Keep.hav (Keep.hav (Keep.refl _ _) rfl) rfl) rfl) rfl) rfl) rfl) rfl)) rfl) rfl) rfl) rfl) rfl), i + 1, _, (by (repeat (first | exact trivial | refine ⟨rfl, ?_⟩ | refine ⟨Eq.trans rfl (congrArg Value.bool hmat.symm), ?_⟩)); (first | done | fail)), ?_, ⟨rfl, hlt, s1, vi2, po2, co2, hr', hF1, hvi2, rfl⟩, (by omega)⟩
        · exact zE
  have hil : i = l.length := by omega
  subst hil
  rw [List.drop_length] at hr'
  cases hr'
  refine XA.exit ?_
  refine DA.thn_exit ?_
  refine DA.thn_exit ?_
  refine DA.inb_same ?_
  exact bodyA.normal (ResA.none rfl) zE ⟨rfl, rfl, vi', po', co', hvi', rfl⟩
end Go.Proofs.Ytbbghdkndbpmmaa
