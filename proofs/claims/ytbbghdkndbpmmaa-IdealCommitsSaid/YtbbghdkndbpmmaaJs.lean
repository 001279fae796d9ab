/- Package ideal: statements. -/
import Derived.Test.YtbbghdkndbpmmaaJe
namespace Go.Proofs.Ytbbghdkndbpmmaa
open Go X
set_option maxHeartbeats 1000000
def isF (vs : List Va) (cells : List Int) (x : Ex) (f : Nat) : XR Bool := match exRun vs cells x f with
  | .error e => .error e
  | .ok (n, k) => match oneF k with
    | .error e => .error e
    | .ok k' => .ok (decide (n ≠ 0), k')
theorem oneF_s (k : Nat) : oneF (k + 1) = .ok k := by simp [oneF]
theorem isS_isF (vs : List Va) (x : Ex) (cells inp out : List Int) (f : Nat) : isS vs x ⟨cells, inp, out, f⟩ = match isF vs cells x f with
    | .error (c, k) => .error (c, ⟨cells, inp, out, k⟩)
    | .ok (b, k) => .ok (b, ⟨cells, inp, out, k⟩) := by
  rw [isS, exS, isF]
  simp only
  cases exRun vs cells x f with
  | error e => rfl
  | ok a =>
    obtain ⟨n, k⟩ := a
    cases k with
    | zero => rfl
    | succ k => simp [oneS, oneF]
theorem is_r (σ : PH) (pr : Pr) (h1 : ∀ x ∈ pr.vars, 1 ≤ x.size) (hz : ∀ x ∈ pr.vars, 0 ≤ x.size ∧ x.size ≤ 1000) (hvl : pr.vars.length ≤ 1000) (x : Ex) (cs : List Value) (b : Nat) (pv : Option Addr) (cv : Nat) (bs : Value) (gc nc : Nat) (cells : List Int) (vi vo : Value) (f : Nat)
    (hp : PrAt σ [.slice pv pr.vars.length cv, bs] pr) (hx : ExAt σ cs x) (hV : ExV pr.vars.length x) (hnc : cells.length = nc) (hsz : (nc : Int) = sizes pr.vars) (hf : f < 1000000) :
    (∀ v f', isF pr.vars cells x f = .ok (v, f') → CallsA Try.prog 91 #[ptr b, .agg cs.toArray] σ [blk b [.slice pv pr.vars.length cv, bs, .slice (some ⟨gc, 0, none⟩) nc nc, vi, vo, i64 f] 97, blk gc (ints cells) 2] (RetA fun r σ' Γ' => r = .bool v ∧ σ = σ' ∧ Γ' = [blk b [.slice pv pr.vars.length cv, bs, .slice (some ⟨gc, 0, none⟩) nc nc, vi, vo, i64 f'] 97, blk gc (ints cells) 2])) ∧
    (∀ c f', isF pr.vars cells x f = .error (c, f') → CallsA Try.prog 91 #[ptr b, .agg cs.toArray] σ [blk b [.slice pv pr.vars.length cv, bs, .slice (some ⟨gc, 0, none⟩) nc nc, vi, vo, i64 f] 97, blk gc (ints cells) 2] (PanA fun ch σ' Γ' => ch = goneC c ∧ σ = σ' ∧ Γ' = [blk b [.slice pv pr.vars.length cv, bs, .slice (some ⟨gc, 0, none⟩) nc nc, vi, vo, i64 f'] 97, blk gc (ints cells) 2])) := by
  obtain ⟨ihk, ihe⟩ := expr_r σ pr h1 hz hvl x cs b pv cv bs gc nc cells vi vo f hp hx hV hnc hsz hf
  have hone := hx.ones
  have hln := hx.len
  have hx1 := exEnd pr.vars cells x f
  rw [isF]
  cases e1 : exRun pr.vars cells x f with
  | error e =>
    obtain ⟨c0, f0⟩ := e
    refine ⟨fun v f' h => (by cases h), fun c f' h => ?_⟩
    cases h
    refine enterA2 Try.func91 rfl rfl rfl ?_
    refine zS ?_; refine zR ?_
    refine XOA.wr0 rfl WrA.bx ?_
    rintro _ _ _ ⟨g3, rfl, rfl, rfl⟩
    refine zO rfl Rd.asg ?_; refine zN ?_; refine zT ?_; refine zS ?_; refine zR ?_; refine zO rfl Rd.mv ?_; refine zO rfl (Rd.ldA rfl) ?_
    refine XOA.die rfl (ihe c0 f0 e1) rfl ?_
    rintro _ _ _ ⟨rfl, rfl, rfl⟩
    refine DA.cl ?_
    repeat (first | refine DA.thn_panic ?_ | refine DA.inb_panic ?_)
    exact bodyA.panic zE ⟨rfl, rfl, rfl⟩
  | ok a =>
    obtain ⟨n, k⟩ := a
    have hf1 := hx1.ok _ e1
    simp only at hf1
    cases k with
    | zero =>
      refine ⟨fun v f' h => (by cases h), fun c f' h => ?_⟩
      cases h
      refine enterA2 Try.func91 rfl rfl rfl ?_
      refine zS ?_; refine zR ?_
      refine XOA.wr0 rfl WrA.bx ?_
      rintro _ _ _ ⟨g3, rfl, rfl, rfl⟩
      refine zO rfl Rd.asg ?_; refine zN ?_; refine zT ?_; refine zS ?_; refine zR ?_; refine zO rfl Rd.mv ?_; refine zO rfl (Rd.ldA rfl) ?_
      refine XOA.wr0 rfl (WrA.cE (ihk n 0 e1) rfl) ?_
      rintro _ _ _ ⟨_, ⟨rfl, rfl, rfl⟩, rfl⟩
      refine XOA.cl ?_
      refine zO rfl Rd.asg ?_; refine zN ?_; refine zT ?_; refine zS ?_; refine zR ?_; refine zO rfl Rd.mv ?_
      refine XOA.die rfl (one_t σ b _ _ _ _ _) rfl ?_
      rintro _ _ _ ⟨rfl, rfl, rfl⟩
      refine DA.cl ?_
      repeat (first | refine DA.thn_panic ?_ | refine DA.inb_panic ?_)
      exact bodyA.panic zE ⟨rfl, rfl, rfl⟩
    | succ k =>
      simp only [oneF_s]
      refine ⟨fun v f' h => ?_, fun c f' h => (by cases h)⟩
      simp only [Except.ok.injEq, Prod.mk.injEq] at h
      obtain ⟨rfl, rfl⟩ := h
      refine enterA2 Try.func91 rfl rfl rfl ?_
      refine zS ?_; refine zR ?_
      refine XOA.wr0 rfl WrA.bx ?_
      rintro _ _ _ ⟨g3, rfl, rfl, rfl⟩
      refine zO rfl Rd.asg ?_; refine zN ?_; refine zT ?_; refine zS ?_; refine zR ?_; refine zO rfl Rd.mv ?_; refine zO rfl (Rd.ldA rfl) ?_
      refine XOA.wr0 rfl (WrA.cE (ihk n (k + 1) e1) rfl) ?_
      rintro _ _ _ ⟨_, ⟨rfl, rfl, rfl⟩, rfl⟩
      refine XOA.cl ?_
      refine zO rfl Rd.asg ?_; refine zN ?_; refine zT ?_; refine zS ?_; refine zR ?_; refine zO rfl Rd.mv ?_
      refine XOA.wr0 rfl (WrA.cE (one_f σ b _ _ _ _ _ k (by omega)) rfl) ?_
      rintro _ _ _ ⟨_, ⟨rfl, rfl, rfl⟩, rfl⟩
      refine XOA.cl ?_
      refine zN ?_; refine zT ?_; refine zS ?_; refine zR ?_; refine zO rfl Rd.mv ?_
      refine zO rfl (Rd.neq rfl rfl) ?_
      refine zO rfl Rd.asg ?_; refine zN ?_; refine zT ?_
      refine XA.ret ?_
      exact bodyA.ret (ResA.one rfl rfl) zE ⟨rfl, rfl, rfl⟩
theorem ints_cell (l : List Int) {i : Nat} (w : Int) (hi : i < l.length) : splice (ints l) i [i64 w] = ints (l.set i w) := by
  simp only [splice, ints, List.length_singleton, List.map_set]
  rw [List.set_eq_take_append_cons_drop, if_pos (by simpa using hi)]
  simp
/-- How statements' run ends. -/
def EndS (σ : PH) (mk : RS → Value → Option Addr → Nat → List HP) (r : RR) : Ending → PH → List HP → Prop := fun e σ' Γ' => match r, e with
  | .ok s', .returned v => v = .tuple #[] ∧ σ = σ' ∧ ∃ vi po co, PInts σ vi s'.inp ∧ Γ' = mk s' vi po co
  | .error (c, s'), .panicked ch => ch = goneC c ∧ σ = σ' ∧ ∃ vi po co, PInts σ vi s'.inp ∧ Γ' = mk s' vi po co
  | _, _ => False
theorem EndS.ok {P : Program} {f : FuncId} {vs : Array Value} {Γ : List HP} {σ : PH} {mk : RS → Value → Option Addr → Nat → List HP} {s' : RS} (h : CallsA P f vs σ Γ (EndS σ mk (.ok s'))) :
    CallsA P f vs σ Γ (RetA fun v σ' Γ' => v = .tuple #[] ∧ σ = σ' ∧ ∃ vi po co, PInts σ vi s'.inp ∧ Γ' = mk s' vi po co) := CallsA.mono h fun e _ _ he => by cases e <;> exact he
theorem EndS.err {P : Program} {f : FuncId} {vs : Array Value} {Γ : List HP} {σ : PH} {mk : RS → Value → Option Addr → Nat → List HP} {c : Int} {s' : RS} (h : CallsA P f vs σ Γ (EndS σ mk (.error (c, s')))) :
    CallsA P f vs σ Γ (PanA fun ch σ' Γ' => ch = goneC c ∧ σ = σ' ∧ ∃ vi po co, PInts σ vi s'.inp ∧ Γ' = mk s' vi po co) := CallsA.mono h fun e _ _ he => by cases e <;> exact he
@[reducible] def mkS (b : Nat) (pv : Option Addr) (nv cv : Nat) (bs : Value) (gc nc : Nat) : RS → Value → Option Addr → Nat → List HP := fun s vi po co => [blk b [.slice pv nv cv, bs, .slice (some ⟨gc, 0, none⟩) nc nc, vi, .slice po (s).out.length co, i64 (s).left] 97, blk gc (ints (s).cells) 2, lst 2 1 (.slice po (s).out.length co) (s).out.length (ints (s).out)]
/-- What stays true of a run. -/
structure Fine (vs : List Va) (nc : Nat) (s : RS) : Prop where
  cl : s.cells.length = nc
  sz : (nc : Int) = sizes vs
  left : s.left < 1000000
  out : s.out.length + s.left < 2000000
structure Less (s s' : RS) : Prop where
  cl : s'.cells.length = s.cells.length
  left : s'.left ≤ s.left
  out : s'.out.length + s'.left ≤ s.out.length + s.left
theorem Less.refl (s : RS) : Less s s := ⟨rfl, Nat.le_refl _, Nat.le_refl _⟩
theorem Less.trans {a b c : RS} (h : Less a b) (k : Less b c) : Less a c := ⟨k.cl.trans h.cl, Nat.le_trans k.left h.left, Nat.le_trans k.out h.out⟩
theorem Fine.less {vs : List Va} {nc : Nat} {s s' : RS} (h : Fine vs nc s) (k : Less s s') : Fine vs nc s' := ⟨k.cl.trans h.cl, h.sz, Nat.lt_of_le_of_lt k.left h.left, Nat.lt_of_le_of_lt k.out h.out⟩
def resS : RR → RS | .ok s => s | .error (_, s) => s
theorem exS_less (vs : List Va) (x : Ex) (s : RS) : (∀ v s', exS vs x s = .ok (v, s') → Less s s' ∧ s'.left ≤ s.left ∧ s' = { s with left := s'.left }) ∧ ∀ c s', exS vs x s = .error (c, s') → Less s s' := by
  have hx := exEnd vs s.cells x s.left
  rw [exS]
  cases e : exRun vs s.cells x s.left with
  | error q =>
    obtain ⟨c, k⟩ := q
    refine ⟨fun v s' h => (by cases h), fun c' s' h => ?_⟩
    cases h
    have := (hx.err _ _ e).1
    exact ⟨rfl, this, by show s.out.length + k ≤ _; omega⟩
  | ok q =>
    obtain ⟨n, k⟩ := q
    refine ⟨fun v s' h => ?_, fun c' s' h => (by cases h)⟩
    cases h
    have := hx.ok _ e
    exact ⟨⟨rfl, this, by show s.out.length + k ≤ _; simp only at this; omega⟩, this, rfl⟩
theorem oneS_less {s : RS} : (∀ s', oneS s = .ok s' → Less s s' ∧ s'.left + 1 = s.left ∧ s' = { s with left := s'.left }) ∧ ∀ c s', oneS s = .error (c, s') → s' = s ∧ c = 13 ∧ s.left = 0 := by
  rw [oneS]
  by_cases h : s.left = 0
  · rw [if_pos h]; exact ⟨fun s' h => (by cases h), fun c s' e => by cases e; exact ⟨rfl, rfl, h⟩⟩
  · rw [if_neg h]
    refine ⟨fun s' e => ?_, fun c s' e => (by cases e)⟩
    cases e
    exact ⟨⟨rfl, Nat.sub_le _ _, by show s.out.length + (s.left - 1) ≤ _; omega⟩, by show s.left - 1 + 1 = _; omega, rfl⟩
end Go.Proofs.Ytbbghdkndbpmmaa
