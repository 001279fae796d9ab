/- Without a machine, and with one, plainly: what a program's runner does; what instructions do. -/
import Derived.Test.YtbbghdkndbpmmaaIo
namespace Go.Proofs.Ytbbghdkndbpmmaa
open Go X
def wrap_ (n : Int) : Int := IntKind.i64.wrap n
def binV (op a b : Int) : Int := if op = 4 then wrap_ (a + b) else if op = 5 then wrap_ (a - b) else if op = 6 then wrap_ (a * b) else if op = 7 then (if a < b then 1 else 0) else if a = b then 1 else 0
/-- A failure's code, and what is left; or a number, and what is left. -/
abbrev XR (α : Type) := Except (Int × Nat) (α × Nat)
def opRun (vs : List Va) (cs : List Int) (op v n : Int) (xs : List Int) (f : Nat) : XR Int :=
  if op = 1 then .ok (n, f)
  else if op = 2 then .ok (cs.getD (cellOf vs v).toNat 0, f)
  else if op = 3 then (if xs.getD 0 0 < 0 ∨ sizeV vs v ≤ xs.getD 0 0 then .error (11, f) else .ok (cs.getD (cellOf vs v + xs.getD 0 0).toNat 0, f))
  else .ok (binV op (xs.getD 0 0) (xs.getD 1 0), f)
def oneF (f : Nat) : Except (Int × Nat) Nat := if f = 0 then .error (13, 0) else .ok (f - 1)
mutual
def exRun (vs : List Va) (cs : List Int) : Ex → Nat → XR Int
  | .mk op v n l, f => match exsRun vs cs l f with
    | .error e => .error e
    | .ok (xs, f1) => match oneF f1 with
      | .error e => .error e
      | .ok f2 => opRun vs cs op v n xs f2
def exsRun (vs : List Va) (cs : List Int) : List Ex → Nat → XR (List Int)
  | [], f => .ok ([], f)
  | x :: l, f => match exRun vs cs x f with
    | .error e => .error e
    | .ok (a, f1) => match exsRun vs cs l f1 with
      | .error e => .error e
      | .ok (xs, f2) => .ok (a :: xs, f2)
end
structure RS where
  cells : List Int
  inp : List Int
  out : List Int
  left : Nat
abbrev RR := Except (Int × RS) RS
def exS (vs : List Va) (x : Ex) (s : RS) : Except (Int × RS) (Int × RS) := match exRun vs s.cells x s.left with
  | .error (c, f) => .error (c, { s with left := f })
  | .ok (v, f) => .ok (v, { s with left := f })
def oneS (s : RS) : RR := if s.left = 0 then .error (13, s) else .ok { s with left := s.left - 1 }
def isS (vs : List Va) (x : Ex) (s : RS) : Except (Int × RS) (Bool × RS) := match exS vs x s with
  | .error e => .error e
  | .ok (n, s1) => match oneS s1 with
    | .error e => .error e
    | .ok s2 => .ok (decide (n ≠ 0), s2)
def setS (vs : List Va) (v : Int) (e : Ex) (s : RS) : RR := match exS vs e s with
  | .error e => .error e
  | .ok (n, s1) => match oneS s1 with
    | .error e => .error e
    | .ok s2 => .ok { s2 with cells := s2.cells.set (cellOf vs v).toNat n }
def putS (vs : List Va) (v : Int) (e f : Ex) (s : RS) : RR := match exS vs e s with
  | .error e => .error e
  | .ok (k, s1) => match exS vs f s1 with
    | .error e => .error e
    | .ok (n, s2) => match oneS s2 with
      | .error e => .error e
      | .ok s3 => if k < 0 ∨ sizeV vs v ≤ k then .error (11, s3) else .ok { s3 with cells := s3.cells.set (cellOf vs v + k).toNat n }
def printS (vs : List Va) (e : Ex) (s : RS) : RR := match exS vs e s with
  | .error e => .error e
  | .ok (n, s1) => match oneS s1 with
    | .error e => .error e
    | .ok s2 => .ok { s2 with out := s2.out ++ [n] }
def readS (vs : List Va) (v : Int) (s : RS) : RR := match oneS s with
  | .error e => .error e
  | .ok s1 => match s1.inp with
    | [] => .error (12, s1)
    | x :: r => .ok { s1 with cells := s1.cells.set (cellOf vs v).toNat x, inp := r }
def listG (F : St → RS → Option RR) : List St → RS → Option RR
  | [], s => some (.ok s)
  | x :: l, s => match F x s with
    | none => none
    | some (.error e) => some (.error e)
    | some (.ok s1) => listG F l s1
/-- A statement, by so much gas (none: not enough of it). -/
def stG (vs : List Va) : Nat → St → RS → Option RR
  | 0, _, _ => none
  | g + 1, .mk op v e f body els, s =>
    if op = 1 then some (setS vs v e s)
    else if op = 2 then some (putS vs v e f s)
    else if op = 3 then some (printS vs e s)
    else if op = 4 then some (readS vs v s)
    else if op = 5 then match isS vs e s with
      | .error e => some (.error e)
      | .ok (false, s1) => some (.ok s1)
      | .ok (true, s1) => match listG (stG vs g) body s1 with
        | none => none
        | some (.error e) => some (.error e)
        | some (.ok s2) => match oneS s2 with
          | .error e => some (.error e)
          | .ok s3 => stG vs g (.mk op v e f body els) s3
    else if op = 6 then match isS vs e s with
      | .error e => some (.error e)
      | .ok (true, s1) => match listG (stG vs g) body s1 with
        | none => none
        | some (.error e) => some (.error e)
        | some (.ok s2) => some (oneS s2)
      | .ok (false, s1) => listG (stG vs g) els s1
    else if op = 7 then some (oneS s)
    else some (.ok s)
/-! what is left is never more -/
theorem oneF_le {f f' : Nat} (h : oneF f = .ok f') : f' + 1 = f := by
  rw [oneF] at h
  split at h
  · cases h
  · simp only [Except.ok.injEq] at h; omega
theorem opRun_left {vs : List Va} {cs : List Int} {op v n : Int} {xs : List Int} {f : Nat} : (∀ r, opRun vs cs op v n xs f = .ok r → r.2 = f) ∧ ∀ e, opRun vs cs op v n xs f = .error e → e = (11, f) := by
  rw [opRun]
  refine ⟨fun r h => ?_, fun e h => ?_⟩
  · repeat' split at h
    all_goals first | cases h; rfl | cases h
  · repeat' split at h
    all_goals first | cases h; rfl | cases h
/-- How an expression's run ends. -/
structure XEnd {α : Type} (r : XR α) (f : Nat) : Prop where
  ok : ∀ a, r = .ok a → a.2 ≤ f
  err : ∀ c k, r = .error (c, k) → k ≤ f ∧ (c = 13 ∧ k = 0 ∨ c = 11)
theorem exsEnd {vs : List Va} {cs : List Int} : ∀ (l : List Ex), (∀ x ∈ l, ∀ f, XEnd (exRun vs cs x f) f) → ∀ f, XEnd (exsRun vs cs l f) f ∧ ∀ xs k, exsRun vs cs l f = .ok (xs, k) → xs.length = l.length
  | [], _, f => by
    rw [exsRun]
    exact ⟨⟨fun a h => by cases h; exact Nat.le_refl _, fun c k h => (by cases h)⟩, fun xs k h => by cases h; rfl⟩
  | x :: l, h, f => by
    have hx := h x (by simp) f
    rw [exsRun]
    cases e1 : exRun vs cs x f with
    | error e =>
      refine ⟨⟨fun a h => (by cases h), fun c k h => ?_⟩, fun xs k h => (by cases h)⟩
      simp only [Except.error.injEq] at h; subst h
      exact hx.err c k e1
    | ok a =>
      obtain ⟨v, f1⟩ := a
      have h1 := hx.ok _ e1
      simp only at h1 ⊢
      obtain ⟨h2, h3⟩ := exsEnd l (fun y hy => h y (by simp [hy])) f1
      cases e2 : exsRun vs cs l f1 with
      | error e =>
        refine ⟨⟨fun a h => (by cases h), fun c k h => ?_⟩, fun xs k h => (by cases h)⟩
        simp only [Except.error.injEq] at h; subst h
        have := h2.err c k e2
        exact ⟨by omega, this.2⟩
      | ok a =>
        obtain ⟨xs, f2⟩ := a
        have := h2.ok _ e2
        refine ⟨⟨fun a h => ?_, fun c k h => (by cases h)⟩, fun ys k h => ?_⟩
        · simp only [Except.ok.injEq] at h; subst h; simp only at this ⊢; omega
        · simp only [Except.ok.injEq, Prod.mk.injEq] at h; obtain ⟨rfl, -⟩ := h
          rw [List.length_cons, List.length_cons, h3 xs f2 e2]
theorem exEnd (vs : List Va) (cs : List Int) (x : Ex) : ∀ f, XEnd (exRun vs cs x f) f := by
  refine Ex.ind (P := fun x => ∀ f, XEnd (exRun vs cs x f) f) ?_ x
  intro op v n l ih f
  have hl := (exsEnd l ih f).1
  rw [exRun]
  cases e1 : exsRun vs cs l f with
  | error e =>
    refine ⟨fun a h => (by cases h), fun c k h => ?_⟩
    simp only [Except.error.injEq] at h; subst h
    exact hl.err c k e1
  | ok a =>
    obtain ⟨xs, f1⟩ := a
    have h1 := hl.ok _ e1
    simp only at h1 ⊢
    cases e2 : oneF f1 with
    | error e =>
      refine ⟨fun a h => (by cases h), fun c k h => ?_⟩
      simp only [Except.error.injEq] at h; subst h
      rw [oneF] at e2
      split at e2
      · cases e2; exact ⟨Nat.zero_le _, .inl ⟨rfl, rfl⟩⟩
      · cases e2
    | ok f2 =>
      have h2 := oneF_le e2
      obtain ⟨g1, g2⟩ := opRun_left (vs := vs) (cs := cs) (op := op) (v := v) (n := n) (xs := xs) (f := f2)
      refine ⟨fun a h => ?_, fun c k h => ?_⟩
      · have := g1 a h; omega
      · have := g2 _ h; simp only [Prod.mk.injEq] at this; obtain ⟨rfl, rfl⟩ := this; exact ⟨by omega, .inr rfl⟩
theorem exsLen (vs : List Va) (cs : List Int) (l : List Ex) (f : Nat) {xs : List Int} {k : Nat} (h : exsRun vs cs l f = .ok (xs, k)) : xs.length = l.length := (exsEnd l (fun x _ => exEnd vs cs x) f).2 xs k h
/-! the document's machine -/
structure Mi where
  next : Nat
  stack : List Int
  rd : Nat
  outn : Nat
  st : Int
  cells : List Int
structure Be where
  m : Mi
  kept : Mi
  out : List Int
  wrong : Bool
/-- What an instruction does, the next one being told. -/
def doIn (inp : List Int) (keep : Bool) (x : In) (b : Be) : Be :=
  let m := b.m
  if x.op = 1 then { b with m := { m with stack := x.n :: m.stack } }
  else if x.op = 2 then { b with m := { m with stack := m.cells.getD x.a.toNat 0 :: m.stack } }
  else if x.op = 3 then match m.stack with
    | [] => b
    | k :: s => if k < 0 ∨ x.b ≤ k then { b with m := { m with stack := s, st := 13 } } else { b with m := { m with stack := m.cells.getD (x.a + k).toNat 0 :: s } }
  else if 4 ≤ x.op ∧ x.op ≤ 8 then match m.stack with
    | y :: z :: s => { b with m := { m with stack := binV x.op z y :: s } }
    | _ => b
  else if x.op = 9 then match m.stack with
    | [] => b
    | n :: s => { b with m := { m with stack := s, cells := m.cells.set x.a.toNat n } }
  else if x.op = 10 then match m.stack with
    | n :: k :: s => if k < 0 ∨ x.b ≤ k then { b with m := { m with stack := s, st := 13 } } else { b with m := { m with stack := s, cells := m.cells.set (x.a + k).toNat n } }
    | _ => b
  else if x.op = 11 then match m.stack with
    | [] => b
    | n :: s =>
      if m.outn = b.out.length then { b with m := { m with stack := s, outn := m.outn + 1 }, out := b.out ++ [n] }
      else { b with m := { m with stack := s, outn := m.outn + 1 }, wrong := b.wrong || decide (b.out.getD m.outn 0 ≠ n) }
  else if x.op = 12 then (if inp.length ≤ m.rd then { b with m := { m with st := 14 } } else { b with m := { m with cells := m.cells.set x.a.toNat (inp.getD m.rd 0), rd := m.rd + 1 } })
  else if x.op = 13 then match m.stack with
    | [] => b
    | n :: s => if n = 0 then { b with m := { m with stack := s, next := x.a.toNat } } else { b with m := { m with stack := s } }
  else if x.op = 14 then { b with m := { m with next := x.a.toNat } }
  else if x.op = 15 then (if keep then { b with kept := m } else b)
  else if x.op = 16 then { b with m := { m with st := 1 } }
  else b
def bump (b : Be) : Be := { b with m := { b.m with next := b.m.next + 1 } }
def stepB (code : List In) (inp : List Int) (keep : Bool) (b : Be) : Be := match code[b.m.next]? with
  | none => b
  | some x => doIn inp keep x (bump b)
/-- So many instructions at most: what it comes to, how many it took. -/
def runM (code : List In) (inp : List Int) : Nat → Be → Be × Nat
  | 0, b => (b, 0)
  | f + 1, b => if b.m.st ≠ 0 then (b, 0) else ((runM code inp f (stepB code inp false b)).1, (runM code inp f (stepB code inp false b)).2 + 1)
end Go.Proofs.Ytbbghdkndbpmmaa
