/- Small rules for the walk. -/
import Derived.Test.YtbbghdkndbpmmaaA
import Derived.Test.YtbbghdkndbpmmaaTypes
import Derived.Test.YtbbghdkndbpmmaaEq
namespace Go.Proofs.Ytbbghdkndbpmmaa
namespace X
open Go
section
variable {P : Program} {N : Nat} {ρ : Env} {σ : PH} {Γ Γ' Δ : List HP} {K : KA} {R : HP}
theorem XA.re {c : Code} (h : Γ = Δ) (k : XA P N c ρ σ Δ K) : XA P N c ρ σ Γ K := h ▸ k
theorem XOA.re {all : Array Oper} {l : List Oper} (h : Γ = Δ) (k : XOA P N all l ρ σ Δ K) : XOA P N all l ρ σ Γ K := h ▸ k
theorem XPA.re {ops : Array Oper} {σ0 : PH} {Γ0 : List HP} {z : List Nat} {pl : List (Nat × Kd)} (h : Γ = Δ) (k : XPA P N ops σ0 Γ0 z pl ρ σ Δ K) : XPA P N ops σ0 Γ0 z pl ρ σ Γ K := h ▸ k
theorem DA.re {e : Exit} (h : Γ = Δ) (k : DA K e ρ σ Δ) : DA K e ρ σ Γ := h ▸ k
theorem XA.ent {c : Code} (h : Ent Γ Δ) (k : XA P N c ρ σ Δ K) : XA P N c ρ σ Γ K := ⟨fun f hp hh => k.out f hp (hh.ent h)⟩
theorem XOA.ent {all : Array Oper} {l : List Oper} (h : Ent Γ Δ) (k : XOA P N all l ρ σ Δ K) : XOA P N all l ρ σ Γ K := ⟨fun f hp hh => k.out f hp (hh.ent h)⟩
theorem holds_open' {f : PH} {h : Heap} (x : Holds σ Γ f h) (s : Sel Γ R Γ') {α : Sort _} {φ : α → Prop} {Θ : α → List HP} (ho : ∀ m, R m → ∃ x, φ x ∧ Sat (Θ x) m) : ∃ x, φ x ∧ Holds σ (Θ x ++ Γ') f h := by
  obtain ⟨m, a, b⟩ := x
  obtain ⟨m1, m2, r1, r2, r3, r4, r5⟩ := s.to a
  obtain ⟨x, hp, hx⟩ := ho _ r1
  exact ⟨x, hp, m, Sat.join hx r2 r3 r4 r5, b⟩
section
variable {α : Sort _} {φ : α → Prop} {Θ : α → List HP} (s : Sel Γ R Γ') (ho : ∀ m, R m → ∃ x, φ x ∧ Sat (Θ x) m)
include s ho
/-- A thing is opened. -/
theorem XA.opn {c : Code} (k : ∀ x, φ x → XA P N c ρ σ (Θ x ++ Γ') K) : XA P N c ρ σ Γ K := ⟨fun f h hh => by obtain ⟨x, a, b⟩ := holds_open' hh s ho; exact (k x a).out f h b⟩
theorem XOA.opn {all : Array Oper} {l : List Oper} (k : ∀ x, φ x → XOA P N all l ρ σ (Θ x ++ Γ') K) : XOA P N all l ρ σ Γ K := ⟨fun f h hh => by obtain ⟨x, a, b⟩ := holds_open' hh s ho; exact (k x a).out f h b⟩
theorem DA.opn {e : Exit} (k : ∀ x, φ x → DA K e ρ σ (Θ x ++ Γ')) : DA K e ρ σ Γ := ⟨fun f h hh => by obtain ⟨x, a, b⟩ := holds_open' hh s ho; exact (k x a).out f h b⟩
theorem CallsA.opn {f : FuncId} {vs : Array Value} {RR : Ending → PH → List HP → Prop} (he : Enters P f) (k : ∀ x, φ x → CallsA P f vs σ (Θ x ++ Γ') RR) : CallsA P f vs σ Γ RR := ⟨he, fun fr h hh => by obtain ⟨x, a, b⟩ := holds_open' hh s ho; exact (k x a).2 fr h b⟩
end
theorem holds_freeze' {f : PH} {h : Heap} {α : Sort _} {φ : α → PH → Prop} (x : Holds σ Γ f h) (s : Sel Γ R Γ') (ho : ∀ m, R m → ∃ x, φ x m) (mono : ∀ x m m', φ x m → m.sub m' → φ x m') : ∃ σ' x, φ x σ' ∧ σ.sub σ' ∧ Holds σ' Γ' f h := by
  obtain ⟨σ', m, a, b, c, d⟩ := x.freeze s
  obtain ⟨x, hx⟩ := ho m a
  exact ⟨σ', x, mono _ _ _ hx b, c, d⟩
section
variable {α : Sort _} {φ : α → PH → Prop} (s : Sel Γ R Γ') (ho : ∀ m, R m → ∃ x, φ x m) (mono : ∀ x m m', φ x m → m.sub m' → φ x m')
include s ho mono
/-- A thing is given for ever. -/
theorem XA.frz {c : Code} (k : ∀ σ' x, φ x σ' → σ.sub σ' → XA P N c ρ σ' Γ' K) : XA P N c ρ σ Γ K := ⟨fun f h hh => by obtain ⟨σ', x, a, b, c⟩ := holds_freeze' hh s ho mono; exact (k σ' x a b).out f h c⟩
theorem XOA.frz {all : Array Oper} {l : List Oper} (k : ∀ σ' x, φ x σ' → σ.sub σ' → XOA P N all l ρ σ' Γ' K) : XOA P N all l ρ σ Γ K := ⟨fun f h hh => by obtain ⟨σ', x, a, b, c⟩ := holds_freeze' hh s ho mono; exact (k σ' x a b).out f h c⟩
theorem DA.frz {e : Exit} (k : ∀ σ' x, φ x σ' → σ.sub σ' → DA K e ρ σ' Γ') : DA K e ρ σ Γ := ⟨fun f h hh => by obtain ⟨σ', x, a, b, c⟩ := holds_freeze' hh s ho mono; exact (k σ' x a b).out f h c⟩
end
theorem lst_shape {e size n : Nat} {v : Value} {xs : List Value} : ∀ m, lst e size v n xs m → ∃ x : Option Addr × Nat, (v = .slice x.1 n x.2 ∧ xs.length = n * size) ∧ Sat [lst e size v n xs] m := fun m h => by
  have hs : Sat [lst e size v n xs] m := ⟨m, PH.none, h, trivial, PH.none_dis m, .refl _, PH.none_sub _⟩
  obtain ⟨h1, ⟨h2, h3⟩ | ⟨g, cap, h2, h3⟩⟩ := h
  · exact ⟨⟨none, 0⟩, ⟨by rw [h2, h3], h1⟩, hs⟩
  · exact ⟨⟨some ⟨g, 0, none⟩, cap⟩, ⟨h2, h1⟩, hs⟩
end
theorem Ent.all (Γ : List HP) : Ent Γ ([] ++ Γ) := fun _ h => h
theorem Ent.take {Γ Γ' Γ0 Δ : List HP} {R : HP} (s : Sel Γ R Γ') (h : Ent Γ' (Γ0 ++ Δ)) : Ent Γ ((R :: Γ0) ++ Δ) := Ent.sel s h
theorem take0 {l : List Value} {n : Nat} (h : l.length = n) : (l.drop 0).take n = l := by rw [← h]; simp
theorem Ld.atBlk {P : Program} {σ : PH} {Γ Γ' : List HP} {T : TypeId} {r : Ty} (hT : tyOf P T = some r) (hk : r.k.agg = true) {g o n : Nat} {l vs : List Value} {T' : TypeId} (s : Sel Γ (X.blk g l T') Γ') (hsz : r.size = n) (hv : (l.drop o).take n = vs) (hn : vs.length = n) : ∀ h, Ho σ Γ h → Ld P h T g o (.agg vs.toArray) :=
  Ld.at hT hk (At.blk s (by rw [hn]; exact hv)) (by rw [hsz]; exact hn)
/-- A list that has an element has a block. -/
theorem lst_some {e size n c : Nat} {p : Option Addr} {xs : List Value} (hn : 0 < n) : ∀ m, lst e size (.slice p n c) n xs m → ∃ g : Nat, p = some ⟨g, 0, none⟩ ∧ Sat [lst e size (.slice (some ⟨g, 0, none⟩) n c) n xs] m := fun m h => by
  have h0 := h
  obtain ⟨h1, ⟨h2, h3⟩ | ⟨g, cap, h2, h3⟩⟩ := h
  · omega
  · simp only [Value.slice.injEq] at h2
    obtain ⟨rfl, -, rfl⟩ := h2
    exact ⟨g, rfl, m, PH.none, h0, trivial, PH.none_dis m, .refl _, PH.none_sub _⟩
theorem Ho.lst {σ : PH} {Γ Γ' : List HP} {h : Heap} {e size n c g : Nat} {xs : List Value} (x : Ho σ Γ h) (s : Sel Γ (X.lst e size (.slice (some ⟨g, 0, none⟩) n c) n xs) Γ') : Row h g 0 xs := by
  obtain ⟨f, y⟩ := x
  have o := y.own s
  rcases o.alt with ⟨h1, -⟩ | ⟨g', cap, cur, h1, h2, h3, h4, h5, h6, h7⟩
  · cases h1
  · simp only [Value.slice.injEq, Option.some.injEq, Addr.mk.injEq, and_true, true_and] at h1
    obtain ⟨rfl, rfl⟩ := h1
    exact h3.row (by rw [o.len]; simpa using h7)
theorem At.lst {σ : PH} {Γ Γ' : List HP} {e size n c g o : Nat} {xs vs : List Value} (s : Sel Γ (X.lst e size (.slice (some ⟨g, 0, none⟩) n c) n xs) Γ') (hv : (xs.drop o).take vs.length = vs) : At (Ho σ Γ) g o vs := ⟨fun _ hh => by have := (hh.lst s).sub hv; rwa [Nat.zero_add] at this⟩
theorem AtC.lst {σ : PH} {Γ Γ' : List HP} {e size n c g o : Nat} {xs : List Value} {v : Value} (s : Sel Γ (X.lst e size (.slice (some ⟨g, 0, none⟩) n c) n xs) Γ') (hv : xs[o]? = some v) : AtC (Ho σ Γ) g o v := ⟨fun _ hh => by have := (hh.lst s).cel hv; rwa [Nat.zero_add] at this⟩
theorem Ld.atLst {P : Program} {σ : PH} {Γ Γ' : List HP} {T : TypeId} {r : Ty} (hT : tyOf P T = some r) (hk : r.k.agg = true) {e size n c g o q : Nat} {xs vs : List Value} (s : Sel Γ (X.lst e size (.slice (some ⟨g, 0, none⟩) n c) n xs) Γ') (hsz : r.size = q) (hv : (xs.drop o).take q = vs) (hn : vs.length = q) : ∀ h, Ho σ Γ h → Ld P h T g o (.agg vs.toArray) :=
  Ld.at hT hk (At.lst s (by rw [hn]; exact hv)) (by rw [hsz]; exact hn)
theorem Ent.takeNil {Γ Γ0 Δ : List HP} {e size : Nat} (h : Ent Γ (Γ0 ++ Δ)) : Ent Γ ((lst e size (.slice none 0 0) 0 [] :: Γ0) ++ Δ) := fun m x => ⟨PH.none, m, lst_nil e size _, h m x, (PH.none_dis m).symm, PH.none_sub m, .refl m⟩
theorem Ent.selNil {Γ Δ : List HP} {e size : Nat} (h : Ent Γ Δ) : Ent Γ (lst e size (.slice none 0 0) 0 [] :: Δ) := fun m x => ⟨PH.none, m, lst_nil e size _, h m x, (PH.none_dis m).symm, PH.none_sub m, .refl m⟩
/-- One thing out of its parts; the rest is left. -/
theorem Ent.fold1 {Γ Θ : List HP} {S : HP} (s : Ent Γ Θ) (hi : ∀ m, Sat Θ m → S m) : Ent Γ [S] := fun m x => ⟨m, PH.none, hi _ (s m x), trivial, PH.none_dis m, .refl m, PH.none_sub m⟩
/-- Nothing. -/
def emp : HP := fun _ => True
theorem Ent.selEmp {Γ Δ : List HP} (h : Ent Γ Δ) : Ent Γ (emp :: Δ) := fun m x => ⟨PH.none, m, trivial, h m x, (PH.none_dis m).symm, PH.none_sub m, .refl m⟩
theorem Ent.takeEmp {Γ Γ0 Δ : List HP} (h : Ent Γ (Γ0 ++ Δ)) : Ent Γ ((emp :: Γ0) ++ Δ) := Ent.selEmp h
theorem Ent.foldC {Γ Θ Γ' Δ : List HP} {S : HP} (s : Ent Γ (Θ ++ Γ')) (hi : ∀ m, Sat Θ m → S m) (h : Ent Γ' Δ) : Ent Γ (S :: Δ) := Ent.fold s hi h
theorem splice_last {A : List Value} {x v : Value} {n : Nat} (h : A.length = n) : splice (A ++ [x]) n [v] = A ++ [v] := by subst h; simp [splice]
theorem Rd.neqNil {P : Program} {ρ : Env} {S : Heap → Prop} {ty : TypeId} {T T' : TypeId} {x : Operand} {r : Ty} {e : TypeId} {a : Option Addr} {n c : Nat} (hT : tyOf P T = some r) (hk : r.k = .slice e) (hx : ev ρ x = .slice a n c) : Rd P ρ S (.binOp .neq T x (.const (.slice none 0 0)) T') ty (.bool (!a.isNone)) := by
  refine .pure fun d pos af gd w => ?_
  have h1 := run_equal_slice (P := P) (T := T) (a := a) (n := n) (c := c) hT hk w
  simp only [execOp, eqGuard, hx, ev, binOp, Sem.run_bind]
  simp [h1]
/-- An empty list with no room. -/
theorem lst_empty {e size g c : Nat} {l : List Value} {m : PH} (h : blk g l e m) (hc : c * size ≤ l.length) (hm : c ≤ maxLen) : lst e size (.slice (some ⟨g, 0, none⟩) 0 c) 0 [] m := ⟨by simp, .inr ⟨g, c, rfl, l, h, Nat.zero_le _, hm, hc, by simp⟩⟩
theorem Ent.selImp {Γ Γ' Δ : List HP} {R S : HP} (s : Sel Γ R Γ') (hi : ∀ m, R m → S m) (h : Ent Γ' Δ) : Ent Γ (S :: Δ) := Ent.imp s hi h
theorem WrA.callE {P : Program} {ρ : Env} {σ : PH} {Γ : List HP} {f : FuncId} {args : List Operand} {ats : Array TypeId} {vs : List Value} {ty : TypeId} {R : Value → PH → List HP → Prop} {Γ0 Δ : List HP}
    (he : Ent Γ (Γ0 ++ Δ)) (hc : CallsA P f vs.toArray σ Γ0 (RetA R)) (hv : args.map (ev ρ) = vs) :
    WrA P ρ σ Γ (.call { callee := .value (.func f), args := args.toArray, argTypes := ats }) ty (fun v σ' Γ' => ∃ Γ1, R v σ' Γ1 ∧ Γ' = Γ1 ++ Δ) noPA := WrA.call hc hv he
theorem WrA.callVE {P : Program} {ρ : Env} {σ : PH} {Γ : List HP} {f : FuncId} {fo : Operand} {first cap : List Value} {args : List Operand} {ats : Array TypeId} {vs : List Value} {ty : TypeId} {R : Value → PH → List HP → Prop} {Γ0 Δ : List HP} (he : Ent Γ (Γ0 ++ Δ)) (hf : ev ρ fo = .func (.func f) first.toArray cap.toArray)
    (hc : CallsA P f vs.toArray σ Γ0 (RetA R)) (hv : first ++ args.map (ev ρ) ++ cap = vs) :
    WrA P ρ σ Γ (.call { callee := .value fo, args := args.toArray, argTypes := ats }) ty (fun v σ' Γ' => ∃ Γ1, R v σ' Γ1 ∧ Γ' = Γ1 ++ Δ) noPA := WrA.callV hf hc hv he
/-- All slots but those of E are forgotten. -/
theorem XA.gen {P : Program} {N : Nat} {ρ : Env} {σ : PH} {Γ : List HP} {K : KA} {c : Code} (E : List (Nat × Value)) (hE : Mat ρ E) (k : ∀ δ, XA P N c (E.foldl (fun r p => upd r p.1 p.2) δ) σ Γ K) : XA P N c ρ σ Γ K := by
  have := k ρ; rwa [mat_self hE] at this
theorem Gd.isB {ops : Array Oper} {ρ : Env} {j t : Nat} {b c r : Bool} (hj : (ops[j]?).bind (·.dst) = some t) (hb : ρ t = .bool c) (hr : (c == b) = r) : Gd ops ρ (some (j, b)) r := hr ▸ .is hj hb
/-- A reader, taken as a writer. -/
theorem Rd.toW {P : Program} {ρ : Env} {σ : PH} {Γ : List HP} {op : Op} {ty : TypeId} {v : Value} (hr : Rd P ρ (Ho σ Γ) op ty v) : WrA P ρ σ Γ op ty (fun v' σ' Γ' => v' = v ∧ σ = σ' ∧ Γ' = Γ) noPA :=
  Wr.toA (Q := fun h v' h' => v' = v ∧ h' = h) (fun h hh => Rd.wr ⟨fun d pos af g w hw => hr.out d pos af g w (hw ▸ hh)⟩) fun f h v h' hh ⟨e1, e2⟩ => ⟨σ, Γ, ⟨e1, rfl, rfl⟩, e2 ▸ hh⟩
theorem holds_fact {σ f : PH} {Γ Γ' : List HP} {R : HP} {q : Prop} {h : Heap} (x : Holds σ Γ f h) (s : Sel Γ R Γ') (hf : ∀ m, R m → q) : q := by
  obtain ⟨m, a, b⟩ := x
  obtain ⟨m1, m2, r1, r2⟩ := s.to a
  exact hf _ r1
section
variable {P : Program} {N : Nat} {ρ : Env} {σ : PH} {Γ Γ' : List HP} {K : KA} {R : HP} {q : Prop} (s : Sel Γ R Γ') (hf : ∀ m, R m → q)
include s hf
/-- What a thing tells. -/
theorem XA.fact {c : Code} (k : q → XA P N c ρ σ Γ K) : XA P N c ρ σ Γ K := ⟨fun f h hh => (k (holds_fact hh s hf)).out f h hh⟩
theorem XOA.fact {all : Array Oper} {l : List Oper} (k : q → XOA P N all l ρ σ Γ K) : XOA P N all l ρ σ Γ K := ⟨fun f h hh => (k (holds_fact hh s hf)).out f h hh⟩
theorem DA.fact {e : Exit} (k : q → DA K e ρ σ Γ) : DA K e ρ σ Γ := ⟨fun f h hh => (k (holds_fact hh s hf)).out f h hh⟩
end
theorem CallsA.conv {P : Program} {f : FuncId} {vs : Array Value} {σ : PH} {Γ1 Γ2 Δ : List HP} {w : Value} (h : CallsA P f vs σ Γ1 (RetA fun v σ' Γ' => v = w ∧ σ = σ' ∧ Γ' = Γ2)) (he : Ent Γ2 Δ) : CallsA P f vs σ Γ1 (RetA fun v σ' Γ' => v = w ∧ σ = σ' ∧ Γ' = Δ) :=
  ⟨h.1, fun fr hp hh => (h.2 fr hp hh).mono fun e h' ⟨σ', Γ', a, b⟩ => by
    cases e with
    | returned v => obtain ⟨a1, a2, rfl⟩ := a; exact ⟨σ', Δ, ⟨a1, a2, rfl⟩, b.ent he⟩
    | panicked c => exact a.elim
    | outgrown => exact a.elim⟩
theorem wrapu64_in {n : Int} (h1 : 0 ≤ n) (h2 : n < 18446744073709551616) : IntKind.u64.wrap n = n := by simp [IntKind.wrap, IntKind.bits, IntKind.signed]; omega
theorem Rd.convI {P : Program} {ρ : Env} {S : Heap → Prop} {T1 T2 : TypeId} {x : Operand} {ty : TypeId} {kk k2 : IntKind} {a c : Int} {r1 r2 : Ty} (hT1 : tyOf P T1 = some r1) (hT2 : tyOf P T2 = some r2) (hk2 : r2.k = .int k2) (hx : ev ρ x = .int kk a) (hc : k2.wrap a = c) : Rd P ρ S (.convert T1 T2 x) ty (.int k2 c) := hc ▸ Rd.convInt hT1 hT2 hk2 hx
theorem map_c {ρ : Env} {i : Nat} {x : Operand} {v : Value} {parts : List (Nat × Operand)} {ps : List (Nat × Value)} (h : ev ρ x = v) (t : (parts.map fun p => (p.1, ev ρ p.2)) = ps) : (((i, x) :: parts).map fun p => (p.1, ev ρ p.2)) = (i, v) :: ps := by simp [h, t]
theorem map_n {ρ : Env} : (([] : List (Nat × Operand)).map fun p => (p.1, ev ρ p.2)) = [] := rfl
theorem bld_n {place : Nat → Option (Nat × Nat)} {z : List Value} : bld place [] z = some z := rfl
theorem bld_z {place : Nat → Option (Nat × Nat)} {ps : List (Nat × Value)} {z z' cs : List Value} (h : z = z') (k : bld place ps z' = some cs) : bld place ps z = some cs := h ▸ k
theorem bld_c {place : Nat → Option (Nat × Nat)} {i off sz : Nat} {q : Nat × Nat} {v : Value} {ps : List (Nat × Value)} {z z' vs cs : List Value} (hp : place i = some q) (ho : q.1 = off) (hz : q.2 = sz) (hv : v.cells = vs.toArray) (hl : vs.length = sz) (hf : off + sz ≤ z.length) (hs : z.take off ++ (vs ++ z.drop (off + sz)) = z') (k : bld place ps z' = some cs) : bld place ((i, v) :: ps) z = some cs := by
  have hs' : splice z off vs = z' := by rw [splice, hl, List.append_assoc]; exact hs
  clear hs
  subst hs' ho hz
  rw [bld, hp]
  simp only [hv]
  rw [if_pos ⟨by simp [hl], hf⟩]
  exact k
def zs : Nat → List Value → List Value
  | 0, _ => []
  | n + 1, z => z ++ zs n z
theorem zs_eq {s : Nat} {z : List Value} (hl : z.length = s) : ∀ n, (List.range (n * s)).map (fun k => z.getD (k % s) undef) = zs n z
  | 0 => by simp [zs]
  | n + 1 => by
    have h1 : (List.range s).map (fun k => z.getD (k % s) undef) = z := by
      apply List.ext_getElem (by simp [hl])
      intro i h1 h2
      simp only [List.length_map, List.length_range] at h1
      simp [List.getD_eq_getElem?_getD, Nat.mod_eq_of_lt h1, h2]
    have h2 := zs_eq hl n
    rw [Nat.succ_mul, Nat.add_comm, List.range_add, List.map_append, h1, zs, List.map_map, ← h2]
    congr 1
    apply List.map_congr_left
    intro k _
    simp
theorem bld_s {place : Nat → Option (Nat × Nat)} {len s : Nat} {ps : List (Nat × Value)} {z z0 zz cs : List Value} (h0 : z = z0) (hl : z0.length = s) (hs : zs len z0 = zz) (k : bld place ps zz = some cs) : bld place ps ((List.range (len * s)).map fun k => z.getD (k % s) undef) = some cs := by
  subst h0; rw [zs_eq hl, hs]; exact k
theorem ints_len (l : List Int) : (ints l).length = l.length := by simp
end X
end Go.Proofs.Ytbbghdkndbpmmaa
