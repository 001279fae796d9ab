/- Part 3 of 4 of what the claim needs: Tf, Th, Ti, Tj, Ra, Rb, Rc, Rd, Re, Rf, Rg, Rh, Rj, Ya, Yb, In, Yi, Yo, Rk, Rl. -/
import Derived.Test.YthefnnkmpcgcmaaDoorWjo2
import Derived.Lib.ItoaLen
namespace Go.Proofs.YthefnnkmpcgcmaaDoor
open Go X
set_option maxHeartbeats 2000000
section
variable {ρ : Env} {S : Heap → Prop} {ty : TypeId}
theorem X.run_equal_fault {a b c d : Int} (w : World) : (Op.equalIn 10000 30 (.agg #[i64 a, i64 b]) (.agg #[i64 c, i64 d])).run Tryd.prog w = .ok (decide (a = c ∧ b = d)) w := by
  have hI : tyOf Tryd.prog 3 = some _ := tyrow rfl
  obtain ⟨dd', ii', z', e1', e2', -⟩ := tyOf_spec hI
  cases dd' <;> simp [kindOf, ty3] at e2'
  have hu : Tryd.prog.underlying 30 = some (.struct (Tryd.prog.fieldsOf 30)) := by kernel_rfl
  have hf : (Tryd.prog.fieldsOf 30).toList.map (fun f => (f.name, f.type, f.offset)) = [("Code", 3, 0), ("At", 3, 1)] := by kernel_rfl
  obtain ⟨f1, f2, hf2⟩ := list2 (l := (Tryd.prog.fieldsOf 30).toList) (by simpa using congrArg List.length hf)
  rw [hf2] at hf
  simp only [List.map_cons, List.map_nil, List.cons.injEq, Prod.mk.injEq, and_true] at hf
  obtain ⟨⟨n1, t1, o1⟩, n2, t2, o2⟩ := hf
  rw [run_equalIn_agg w 9999 _ _ _ hu (by kernel_rfl), hf2]
  have hb : ∀ (w : World), (isAgg 3).run Tryd.prog w = .ok false w := fun w => by unfold isAgg; rw [Sem.run_bind, run_underlying e1' w]; rfl
  have q2 := fun x y => run_equalIn_int (P := Tryd.prog) w 9998 3 .i64 _ x y e1'
  simp [Op.eqFields, part, hb, q2, n1, n2, t1, t2, o1, o2]
  by_cases h1 : a = c
  · by_cases h2 : b = d <;> simp [h1, h2]
  · simp [h1]
end
end Go.Proofs.YthefnnkmpcgcmaaDoor

namespace Go.Proofs.YthefnnkmpcgcmaaDoor
open Go X
theorem byteAt_ext {a : ByteArray} {b e k : Nat} (h : b + k < e) (he : e ≤ a.size) : byteAt (a.extract b e) k = byteAt a (b + k) := by
  unfold byteAt
  have h1 : k < (a.extract b e).size := by rw [ByteArray.size_extract]; omega
  have h2 : b + k < a.size := by omega
  rw [dif_pos h1, dif_pos h2, ByteArray.getElem_extract]
theorem runB_stop (p : Nat → Bool) (s : ByteArray) : ∀ (n i : Nat), s.size - i = n → ¬ (i + runB p s i < s.size ∧ p (byteAt s (i + runB p s i)) = true)
  | 0, i, h => fun q => by omega
  | n + 1, i, h => by
    by_cases hc : i < s.size ∧ p (byteAt s i) = true
    · have := runB_stop p s n (i + 1) (by omega)
      rw [runB_eq, if_pos hc, show i + (runB p s (i + 1) + 1) = i + 1 + runB p s (i + 1) by omega]
      exact this
    · rw [runB_end hc]; exact hc
theorem runB_loc {p : Nat → Bool} {s w : ByteArray} {i : Nat} (hw : s.extract i (i + w.size) = w) (hi : i + w.size ≤ s.size) (hs : ¬ (i + w.size < s.size ∧ p (byteAt s (i + w.size)) = true)) : ∀ (n j : Nat), w.size - j = n → j ≤ w.size → runB p s (i + j) = runB p w j
  | 0, j, h, hj => by
    have e : j = w.size := by omega
    subst e
    rw [runB_end hs, runB_end (fun q => by omega)]
  | n + 1, j, h, hj => by
    have hb : byteAt w j = byteAt s (i + j) := by
      have := byteAt_ext (a := s) (b := i) (e := i + w.size) (k := j) (by omega) hi
      rwa [hw] at this
    rw [runB_eq p s, runB_eq p w, hb]
    have ih := runB_loc hw hi hs n (j + 1) (by omega) (by omega)
    rw [show i + j + 1 = i + (j + 1) by omega, ih]
    by_cases hc : p (byteAt s (i + j)) = true
    · rw [if_pos ⟨by omega, hc⟩, if_pos ⟨by omega, hc⟩]
    · rw [if_neg (fun q => hc q.2), if_neg (fun q => hc q.2)]
theorem ext_loc {s w : ByteArray} {i b : Nat} (hw : s.extract i (i + w.size) = w) (hb : b ≤ w.size) : s.extract i (i + b) = w.extract 0 b := by
  conv => rhs; rw [← hw]
  rw [ByteArray.extract_extract, Nat.add_zero, Nat.min_eq_left (by omega)]
def put (i : Nat) (t : Tk) : Tk := ⟨i, t.text, t.num, t.n⟩
theorem oneT_loc {s w : ByteArray} {i : Nat} (hw : s.extract i (i + w.size) = w) (hi : i + w.size ≤ s.size) (h1 : 1 ≤ w.size)
    (hl : letterB (byteAt s i) = true → ¬ (i + w.size < s.size ∧ letterB (byteAt s (i + w.size)) = true)) (hd : digitB (byteAt s i) = true ∨ byteAt s i = 45 → ¬ (i + w.size < s.size ∧ digitB (byteAt s (i + w.size)) = true)) :
    oneT s i = (oneT w 0).map (put i) := by
  have hb : byteAt w 0 = byteAt s i := by
    have := byteAt_ext (a := s) (b := i) (e := i + w.size) (k := 0) (by omega) hi
    rwa [hw, Nat.add_zero] at this
  rw [oneT, oneT, hb]
  by_cases c1 : byteAt s i = 40 ∨ byteAt s i = 41
  · rw [if_pos c1, if_pos c1, Option.map_some, put, ext_loc hw h1]
  rw [if_neg c1, if_neg c1]
  by_cases c2 : letterB (byteAt s i) = true
  · have e := runB_loc hw hi (hl c2) w.size 0 (by omega) (by omega)
    have hle := runB_le letterB w (i := 0) (by omega)
    rw [Nat.add_zero] at e
    rw [if_pos c2, if_pos c2, Option.map_some, put, e, Nat.zero_add, ext_loc hw (by omega)]
  rw [if_neg c2, if_neg c2]
  by_cases c3 : digitB (byteAt s i) = true ∨ byteAt s i = 45
  · have e := runB_loc hw hi (hd c3) (w.size - 1) 1 (by omega) h1
    have hle := runB_le digitB w (i := 1) h1
    rw [if_pos c3, if_pos c3, e, Nat.zero_add, Option.map_map, Nat.add_assoc, ext_loc hw (by omega)]
    rfl
  rw [if_neg c3, if_neg c3]; rfl
def Word (t : Tk) : Prop := 1 ≤ t.text.size ∧ oneT t.text 0 = some (put 0 t)
def sp : ByteArray := ⟨#[32, 10]⟩
theorem ext_mid {A w B : ByteArray} : (A ++ (w ++ B)).extract A.size (A.size + w.size) = w := by
  rw [ByteArray.extract_append, ByteArray.extract_append]
  apply ByteArray.ext
  simp
theorem word_first {t : Tk} (h : Word t) : blankB (byteAt t.text 0) = false := by
  have h := h.2
  refine decide_eq_false fun q => ?_
  have hnl : ∀ c, letterB c = true → 97 ≤ c := fun c h => (of_decide_eq_true h).1
  have hnd : ∀ c, digitB c = true → 48 ≤ c ∧ c ≤ 57 := fun c h => of_decide_eq_true h
  rw [oneT] at h
  split at h
  · omega
  · split at h
    · rename_i c; have := hnl _ c; omega
    · split at h
      · rename_i c
        rcases c with c | c
        · have := hnd _ c; omega
        · omega
      · cases h
def tkey (t : Tk) : ByteArray × Bool × Int := (t.text, t.num, t.n)
end Go.Proofs.YthefnnkmpcgcmaaDoor

namespace Go.Proofs.YthefnnkmpcgcmaaDoor
open Go X
set_option maxHeartbeats 2000000
theorem byteAt_right {A B : ByteArray} {k : Nat} (h : k < B.size) : byteAt (A ++ B) (A.size + k) = byteAt B k := by
  have := byteAt_ext (a := A ++ B) (b := A.size) (e := A.size + B.size) (k := k) (by omega) (by rw [ByteArray.size_append]; omega)
  rw [ByteArray.extract_append_eq_right rfl rfl] at this
  exact this.symm
theorem byteAt_left {A B : ByteArray} {k : Nat} (h : k < A.size) : byteAt (A ++ B) k = byteAt A k := by
  have := byteAt_ext (a := A ++ B) (b := 0) (e := A.size) (k := k) (by omega) (by rw [ByteArray.size_append]; omega)
  rw [ByteArray.extract_append_eq_left rfl, Nat.zero_add] at this
  exact this.symm
end Go.Proofs.YthefnnkmpcgcmaaDoor

namespace Go.Proofs.YthefnnkmpcgcmaaDoor
open Go X
def Blank (z : ByteArray) : Prop := ∀ k, k < z.size → blankB (byteAt z k) = true
theorem runB_all {p : Nat → Bool} {s : ByteArray} : ∀ (n i : Nat), (∀ k, k < n → i + k < s.size ∧ p (byteAt s (i + k)) = true) → ¬ (i + n < s.size ∧ p (byteAt s (i + n)) = true) → runB p s i = n
  | 0, i, _, h => runB_end h
  | n + 1, i, h, h' => by
    have h0 := h 0 (by omega)
    rw [Nat.add_zero] at h0
    rw [runB_eq, if_pos h0, runB_all n (i + 1) (fun k hk => by have := h (k + 1) (by omega); rwa [show i + (k + 1) = i + 1 + k by omega] at this) (by rwa [show i + (n + 1) = i + 1 + n by omega] at h')]
theorem blank_none : Blank ByteArray.empty := fun k hk => absurd hk (Nat.not_lt_zero k)
end Go.Proofs.YthefnnkmpcgcmaaDoor

namespace Go.Proofs.YthefnnkmpcgcmaaDoor
open Go X
set_option maxHeartbeats 2000000
def failAt (e : Int) (l : List Tk) (code : Int) : Int × Int := match l with
  | t :: _ => (code, t.at_)
  | [] => (if code = 5 then 6 else code, e)
def isT (w : ByteArray) : List Tk → Bool
  | t :: _ => !t.num && decide (t.text = w)
  | [] => false
def goneP (x : Int × Int) : List PanicEntry := [{ v := .iface 79 (.agg #[i64 x.1, i64 x.2]), recovered := false }]
theorem X.Rd.sliceTail4 {P : Program} {ρ : Env} {S : Heap → Prop} {ty : TypeId} {T : TypeId} {x y : Operand} {r re : Ty} {e len cap : Nat} {a : Option Addr} {kk : IntKind} (hT : tyOf P T = some r) (hk : r.k = .slice e) (hE : tyOf P e = some re) (hs1 : re.size = 4) (hx : ev ρ x = .slice a len cap) (hy : ev ρ y = .int kk 1) (hl : 1 ≤ len) : Rd P ρ S (.slice T x (some y) none none) ty (.slice (if cap = 1 then a else a.map (·.add 4)) (len - 1) (cap - 1)) := by
  have h := Rd.slicePart (P := P) (ρ := ρ) (S := S) (ty := ty) (lo := some y) (hi := none) (mx := none) (l := 1) (hh := len) (m := cap) hT hk hE hx (fun w => by
    have hb := fun c w => bound_ok (P := P) (y := len) (c := c) (kk := kk) (i := 1) (by decide) (by omega) w
    simp [Instr.sliceBounds, hy, hb])
  rw [hs1] at h
  exact h
theorem X.Rd.mkIS {P : Program} {ρ : Env} {S : Heap → Prop} {ty T : TypeId} {x : Operand} {v : Value} {r : Ty} {fs : List (TypeId × Nat)} (hT : tyOf P T = some r) (hk : r.k = .struct fs) (hx : ev ρ x = v) : Rd P ρ S (.makeInterface T x) ty (.iface T v) := by
  refine .pure fun d pos af g w => ?_
  obtain ⟨dd, i, z, e1, e2, -⟩ := tyOf_spec hT
  rw [hk] at e2
  cases dd <;> simp [kindOf] at e2
  simp [execOp, Instr.makeInterface, run_underlying e1, hx]
theorem psl_tail {α : Type} {R : RT α} {σ : PH} {p : Option Addr} {c : Nat} {t : α} {r : List α} (h : PSl 4 R σ (.slice p (t :: r).length c) (t :: r)) : PSl 4 R σ (.slice (if c = 1 then p else p.map (·.add 4)) ((t :: r).length - 1) (c - 1)) r := by
  obtain ⟨p', c', rows, h1, h2, h3, h4, h5, h6, h7⟩ := h
  simp only [Value.slice.injEq] at h1
  obtain ⟨rfl, -, rfl⟩ := h1
  obtain ⟨g, o, rfl, hr⟩ := h7 (by simp)
  match rows, h4 with
  | row :: rows, h4 =>
    have hl := h5 row (by simp)
    simp only [List.length_cons] at h2 h4
    refine ⟨_, _, rows, by rw [List.length_cons, Nat.add_sub_cancel], by omega, by omega, by omega, fun q hq => h5 q (by simp [hq]), fun i q x a b => h6 (i + 1) q x (by simpa using a) (by simpa using b), fun hp => ?_⟩
    refine ⟨g, o + 4, by rw [if_neg (by omega), Option.map_some, addr_add], ?_⟩
    refine hr.sub (j := 4) ?_
    rw [List.flatten_cons, ← hl, List.drop_left, List.take_of_length_le (Nat.le_refl _)]
theorem psl_head {σ : PH} {p : Option Addr} {c : Nat} {t : Tk} {r : List Tk} (h : PSl 4 rTk σ (.slice p (t :: r).length c) (t :: r)) : ∃ g o, p = some ⟨g, o, none⟩ ∧ PRow σ g o [i64 t.at_] ∧ PRow σ g (o + 1) [.string t.text] ∧ PRow σ g (o + 2) [.bool t.num] ∧ PRow σ g (o + 3) [i64 t.n] := by
  obtain ⟨g, o, row, rfl, hr, -, hrow⟩ := h.at (k := 0) rfl
  have hr : row = tkC t := hr
  subst hr
  rw [Nat.zero_mul, Nat.add_zero] at hrow
  exact ⟨g, o, rfl, hrow.sub (j := 0) rfl, hrow.sub (j := 1) rfl, hrow.sub (j := 2) rfl, hrow.sub (j := 3) rfl⟩
section
variable (σ : PH) (b : Nat) (p : Option Addr) (n c : Nat) (e : Int) (vs : Value)
theorem fail_p (l : List Tk) (code : Int) (hl : PSl 4 rTk σ (.slice p l.length c) l) :
    CallsA Tryd.prog 84 #[ptr b, i64 code] σ [blk b [.slice p l.length c, i64 e, vs] 83] (PanA fun ch σ' Γ' => ch = goneP (failAt e l code) ∧ σ = σ' ∧ Γ' = [blk b [.slice p l.length c, i64 e, vs] 83]) := by
  cases l with
  | cons t r =>
    obtain ⟨g, o, rfl, h0, h1, h2, h3⟩ := psl_head hl
    have hpos : (0 : Int) < ((t :: r).length : Nat) := by rw [List.length_cons]; omega
    refine enterA2 Tryd.func84 rfl rfl rfl ?_; refine zS (zR (yA ?_)); refine zO rfl (Rd.nilCheck rfl) ?_; refine yV ?_; refine yB ?_; refine yS ?_; refine zN (zT (zS (zS (zR (yA ?_))))); refine zO rfl (Rd.nilCheck rfl) ?_; refine yV ?_; refine yB ?_
    refine zO rfl (Rd.lenSlice (tyrow rfl) rfl rfl) ?_; refine zO rfl (Rd.gtr rfl rfl) ?_; refine zN (zT (XA.condT rfl (by first | rfl | exact decide_eq_true hpos) ?_)); refine zR (yA ?_); refine zO rfl (Rd.nilCheck rfl) ?_; refine yV ?_; refine yB ?_
    refine zO rfl (Rd.ixS rfl rfl) ?_; refine yV ?_; refine yB ?_; refine yS ?_; refine zN (zT (zR (yA ?_))); refine yA ?_; refine zO rfl (Rd.bl (fun _ _ => tyrow) rfl rfl rfl) ?_; refine zO rfl (X.Rd.mkIS (tyrow rfl) rfl rfl) ?_; refine XOA.throw rfl rfl ?_
    repeat (first | refine DA.thn_panic ?_ | refine DA.inb_panic ?_)
    exact bodyA.panic zE ⟨rfl, rfl, rfl⟩
  | nil =>
    by_cases q : code = 5
    · subst q
      refine enterA2 Tryd.func84 rfl rfl rfl ?_; refine zS (zR (yA ?_)); refine zO rfl (Rd.nilCheck rfl) ?_; refine yV ?_; refine yB ?_; refine yS ?_; refine zN (zT (zS (zS (zR (yA ?_))))); refine zO rfl (Rd.nilCheck rfl) ?_; refine yV ?_; refine yB ?_; refine zO rfl (Rd.lenSlice (tyrow rfl) rfl rfl) ?_
      refine zO rfl (Rd.gtr rfl rfl) ?_; refine zN (zT (yF rfl rfl (zS (zR (yA ?_))))); refine yE ?_; refine zN (zT (yT rfl rfl (zR (yS ?_)))); refine zN (zT (zR (yA ?_))); refine yA ?_; refine zO rfl (Rd.bl (fun _ _ => tyrow) rfl rfl rfl) ?_; refine zO rfl (X.Rd.mkIS (tyrow rfl) rfl rfl) ?_
      refine XOA.throw rfl rfl ?_
      repeat (first | refine DA.thn_panic ?_ | refine DA.inb_panic ?_)
      exact bodyA.panic zE ⟨rfl, rfl, rfl⟩
    · have hf : failAt e [] code = (code, e) := by rw [failAt, if_neg q]
      rw [hf]
      refine enterA2 Tryd.func84 rfl rfl rfl ?_; refine zS (zR (yA ?_)); refine zO rfl (Rd.nilCheck rfl) ?_; refine yV ?_; refine yB ?_; refine yS ?_; refine zN (zT (zS (zS (zR (yA ?_))))); refine zO rfl (Rd.nilCheck rfl) ?_; refine yV ?_; refine yB ?_
      refine zO rfl (Rd.lenSlice (tyrow rfl) rfl rfl) ?_; refine zO rfl (Rd.gtr rfl rfl) ?_; refine zN (zT (yF rfl rfl (zS (zR (yA ?_))))); refine yE ?_; refine zN (zT (XA.condF rfl (by first | rfl | exact decide_eq_false q) ?_)); refine XA.skip (zT (zR (yA ?_)))
      refine yA ?_; refine zO rfl (Rd.bl (fun _ _ => tyrow) rfl rfl rfl) ?_; refine zO rfl (X.Rd.mkIS (tyrow rfl) rfl rfl) ?_; refine XOA.throw rfl rfl ?_
      repeat (first | refine DA.thn_panic ?_ | refine DA.inb_panic ?_)
      exact bodyA.panic zE ⟨rfl, rfl, rfl⟩
theorem peek_p (l : List Tk) (w : ByteArray) (hl : PSl 4 rTk σ (.slice p l.length c) l) :
    CallsA Tryd.prog 83 #[ptr b, .string w] σ [blk b [.slice p l.length c, i64 e, vs] 83] (RetA fun v σ' Γ' => v = .bool (isT w l) ∧ σ = σ' ∧ Γ' = [blk b [.slice p l.length c, i64 e, vs] 83]) := by
  cases l with
  | cons t r =>
    obtain ⟨g, o, rfl, h0, h1, h2, h3⟩ := psl_head hl
    have hpos : (0 : Int) < ((t :: r).length : Nat) := by rw [List.length_cons]; omega
    have hlt : (0 : Int) ≤ 0 ∧ (0 : Int) < ((t :: r).length : Nat) := ⟨Int.le_refl _, hpos⟩
    obtain ⟨ta, tt, tn, tv⟩ := t
    cases tn with
    | true =>
      refine enterA2 Tryd.func83 rfl rfl rfl ?_; refine zS (zR (yS ?_)); refine zN (zT (zS (zR (yA ?_)))); refine zO rfl (Rd.nilCheck rfl) ?_; refine yV ?_; refine yB ?_; refine zO rfl (Rd.lenSlice (tyrow rfl) rfl rfl) ?_; refine zO rfl (Rd.gtr rfl rfl) ?_; refine yA ?_
      first | refine gA ?_ | refine zH ?_
      first | (refine zG ?_; refine zO rfl (Rd.nilCheck rfl) ?_) | refine zH ?_
      first | refine gV ?_ | refine zH ?_
      first | refine gB ?_ | refine zH ?_
      first | (refine zG ?_; refine zO rfl (Rd.ixS rfl rfl) ?_) | refine zH ?_
      first | refine gV ?_ | refine zH ?_
      first | refine gB ?_ | refine zH ?_
      first | (refine zG ?_; refine zO rfl zJ ?_) | refine zH ?_
      refine zO rfl zP ?_; refine yA ?_
      first | refine gA ?_ | refine zH ?_
      first | (refine zG ?_; refine zO rfl (Rd.nilCheck rfl) ?_) | refine zH ?_
      first | refine gV ?_ | refine zH ?_
      first | refine gB ?_ | refine zH ?_
      first | (refine zG ?_; refine zO rfl (Rd.ixS rfl rfl) ?_) | refine zH ?_
      first | refine gV ?_ | refine zH ?_
      first | refine gB ?_ | refine zH ?_
      first | refine gA ?_ | refine zH ?_
      first | (refine zG ?_; refine zO rfl (Rd.eqls rfl rfl) ?_) | refine zH ?_
      refine zO rfl zP ?_; refine yS ?_; refine zN (zT (XA.ret ?_))
      exact bodyA.ret (ResA.one rfl rfl) zE ⟨rfl, rfl, rfl⟩
    | false =>
      refine enterA2 Tryd.func83 rfl rfl rfl ?_; refine zS (zR (yS ?_)); refine zN (zT (zS (zR (yA ?_)))); refine zO rfl (Rd.nilCheck rfl) ?_; refine yV ?_; refine yB ?_; refine zO rfl (Rd.lenSlice (tyrow rfl) rfl rfl) ?_; refine zO rfl (Rd.gtr rfl rfl) ?_; refine yA ?_
      first | refine gA ?_ | refine zH ?_
      first | (refine zG ?_; refine zO rfl (Rd.nilCheck rfl) ?_) | refine zH ?_
      first | refine gV ?_ | refine zH ?_
      first | refine gB ?_ | refine zH ?_
      first | (refine zG ?_; refine zO rfl (Rd.ixS rfl rfl) ?_) | refine zH ?_
      first | refine gV ?_ | refine zH ?_
      first | refine gB ?_ | refine zH ?_
      first | (refine zG ?_; refine zO rfl zJ ?_) | refine zH ?_
      refine zO rfl zP ?_; refine yA ?_
      first | refine gA ?_ | refine zH ?_
      first | (refine zG ?_; refine zO rfl (Rd.nilCheck rfl) ?_) | refine zH ?_
      first | refine gV ?_ | refine zH ?_
      first | refine gB ?_ | refine zH ?_
      first | (refine zG ?_; refine zO rfl (Rd.ixS rfl rfl) ?_) | refine zH ?_
      first | refine gV ?_ | refine zH ?_
      first | refine gB ?_ | refine zH ?_
      first | refine gA ?_ | refine zH ?_
      first | (refine zG ?_; refine zO rfl (Rd.eqls rfl rfl) ?_) | refine zH ?_
      refine zO rfl zP ?_; refine yS ?_; refine zN (zT (XA.ret ?_))
      exact bodyA.ret (ResA.one rfl rfl) zE ⟨rfl, rfl, rfl⟩
  | nil =>
    refine enterA2 Tryd.func83 rfl rfl rfl ?_; refine zS (zR (yS ?_)); refine zN (zT (zS (zR (yA ?_)))); refine zO rfl (Rd.nilCheck rfl) ?_; refine yV ?_; refine yB ?_; refine zO rfl (Rd.lenSlice (tyrow rfl) rfl rfl) ?_; refine zO rfl (Rd.gtr rfl rfl) ?_; refine yA ?_
    first | refine gA ?_ | refine zH ?_
    first | (refine zG ?_; refine zO rfl (Rd.nilCheck rfl) ?_) | refine zH ?_
    first | refine gV ?_ | refine zH ?_
    first | refine gB ?_ | refine zH ?_
    first | (refine zG ?_; refine zO rfl (Rd.ixS rfl rfl) ?_) | refine zH ?_
    first | refine gV ?_ | refine zH ?_
    first | refine gB ?_ | refine zH ?_
    first | (refine zG ?_; refine zO rfl zJ ?_) | refine zH ?_
    refine zO rfl zP ?_; refine yA ?_
    first | refine gA ?_ | refine zH ?_
    first | (refine zG ?_; refine zO rfl (Rd.nilCheck rfl) ?_) | refine zH ?_
    first | refine gV ?_ | refine zH ?_
    first | refine gB ?_ | refine zH ?_
    first | (refine zG ?_; refine zO rfl (Rd.ixS rfl rfl) ?_) | refine zH ?_
    first | refine gV ?_ | refine zH ?_
    first | refine gB ?_ | refine zH ?_
    first | refine gA ?_ | refine zH ?_
    first | (refine zG ?_; refine zO rfl (Rd.eqls rfl rfl) ?_) | refine zH ?_
    refine zO rfl zP ?_; refine yS ?_; refine zN (zT (XA.ret ?_))
    exact bodyA.ret (ResA.one rfl rfl) zE ⟨rfl, rfl, rfl⟩
end
end Go.Proofs.YthefnnkmpcgcmaaDoor

namespace Go.Proofs.YthefnnkmpcgcmaaDoor
open Go X
set_option maxHeartbeats 2000000
def wordsL : List ByteArray := [⟨#[]⟩, ⟨#[110, 117, 109]⟩, ⟨#[118, 97, 114]⟩, ⟨#[103, 101, 116]⟩, ⟨#[97, 100, 100]⟩, ⟨#[115, 117, 98]⟩, ⟨#[109, 117, 108]⟩, ⟨#[108, 101, 115, 115]⟩, ⟨#[115, 97, 109, 101]⟩]
def verbsL : List ByteArray := [⟨#[]⟩, ⟨#[115, 101, 116]⟩, ⟨#[112, 117, 116]⟩, ⟨#[112, 114, 105, 110, 116]⟩, ⟨#[114, 101, 97, 100]⟩, ⟨#[119, 104, 105, 108, 101]⟩, ⟨#[105, 102]⟩, ⟨#[99, 111, 109, 109, 105, 116]⟩]
def wordOf (k : Int) : ByteArray := if 1 ≤ k ∧ k ≤ 8 then wordsL.getD k.toNat ByteArray.empty else ByteArray.empty
def verbOf (k : Int) : ByteArray := if 1 ≤ k ∧ k ≤ 7 then verbsL.getD k.toNat ByteArray.empty else ByteArray.empty
theorem word_p (σ : PH) (k : Int) : CallsA Tryd.prog 39 #[i64 k] σ [] (RetA fun v σ' Γ' => v = .string (wordOf k) ∧ σ = σ' ∧ Γ' = []) := by
  by_cases hr : 1 ≤ k ∧ k ≤ 8
  · have hp : ¬ partsOf k < 0 := by rw [partsOf]; split; (decide); split; (decide); rw [if_pos (by omega)]; decide
    have hop : k = 1 ∨ k = 2 ∨ k = 3 ∨ k = 4 ∨ k = 5 ∨ k = 6 ∨ k = 7 ∨ k = 8 := by omega
    have hel : (List.toArray [Value.string ⟨#[]⟩, .string ⟨#[110, 117, 109]⟩, .string ⟨#[118, 97, 114]⟩, .string ⟨#[103, 101, 116]⟩, .string ⟨#[97, 100, 100]⟩, .string ⟨#[115, 117, 98]⟩, .string ⟨#[109, 117, 108]⟩, .string ⟨#[108, 101, 115, 115]⟩, .string ⟨#[115, 97, 109, 101]⟩])[k.toNat]? = some (.string (wordOf k)) := by
      rcases hop with rfl | rfl | rfl | rfl | rfl | rfl | rfl | rfl <;> rfl
    refine enterA1 Tryd.func39 rfl rfl rfl ?_; refine zS (zR (yS ?_)); refine zN (zT (zS (zS (zR (yA ?_)))))
    refine yC (parts_a σ k) ?_; refine zO rfl (Rd.lss rfl rfl) ?_; refine zN (zT (XA.condF rfl (by first | rfl | exact decide_eq_false hp) ?_)); refine XA.skip (zT (zS (zR ?_)))
    refine zO rfl (Rd.buildA (cs := [Value.string ⟨#[]⟩, .string ⟨#[110, 117, 109]⟩, .string ⟨#[118, 97, 114]⟩, .string ⟨#[103, 101, 116]⟩, .string ⟨#[97, 100, 100]⟩, .string ⟨#[115, 117, 98]⟩, .string ⟨#[109, 117, 108]⟩, .string ⟨#[108, 101, 115, 115]⟩, .string ⟨#[115, 97, 109, 101]⟩]) (fun _ _ => tyrow) rfl rfl rfl rfl (by kernel_rfl)) ?_
    refine yA ?_
    refine zO rfl (by apply Rd.indexAgg; exact tyrow rfl; rfl; exact tyrow rfl; rfl; rfl; rfl; rfl; exact (by omega); exact hel) ?_
    refine yS ?_; refine zN (zT (XA.ret ?_))
    exact bodyA.ret (ResA.one rfl rfl) (Ent.refl _) ⟨rfl, rfl, rfl⟩
  · have hp : partsOf k < 0 := by rw [partsOf, if_neg (by omega), if_neg (by omega), if_neg (by omega)]; decide
    have hw : wordOf k = ByteArray.empty := by rw [wordOf, if_neg hr]
    rw [hw]
    refine enterA1 Tryd.func39 rfl rfl rfl ?_; refine zS (zR (yS ?_)); refine zN (zT (zS (zS (zR (yA ?_)))))
    refine yC (parts_a σ k) ?_; refine zO rfl (Rd.lss rfl rfl) ?_; refine zN (zT (XA.condT rfl (by first | rfl | exact decide_eq_true hp) ?_)); refine zS (zR (yS ?_)); refine zN (zT (XA.ret (DA.thn_ret ?_)))
    exact bodyA.ret (ResA.one rfl rfl) (Ent.refl _) ⟨rfl, rfl, rfl⟩
theorem verb_p (σ : PH) (k : Int) : CallsA Tryd.prog 40 #[i64 k] σ [] (RetA fun v σ' Γ' => v = .string (verbOf k) ∧ σ = σ' ∧ Γ' = []) := by
  by_cases h1 : k < 1
  · have hw : verbOf k = ByteArray.empty := by rw [verbOf, if_neg (by omega)]
    rw [hw]
    refine enterA1 Tryd.func40 rfl rfl rfl ?_; refine zS (zR (yS ?_)); refine zN (zT (zS (zS (zR (yA ?_))))); refine zO rfl (Rd.lss rfl rfl) ?_; refine yA ?_
    first | refine gA ?_ | refine zH ?_
    first | (refine zG ?_; refine zO rfl (Rd.gtr rfl rfl) ?_) | refine zH ?_
    refine zO rfl zP ?_; refine zN (zT (XA.condT rfl (by first | rfl | exact decide_eq_true h1) ?_)); refine zS (zR (yS ?_)); refine zN (zT (XA.ret (DA.thn_ret ?_)))
    exact bodyA.ret (ResA.one rfl rfl) (Ent.refl _) ⟨rfl, rfl, rfl⟩
  by_cases h7 : k > 7
  · have hw : verbOf k = ByteArray.empty := by rw [verbOf, if_neg (by omega)]
    rw [hw]
    refine enterA1 Tryd.func40 rfl rfl rfl ?_; refine zS (zR (yS ?_)); refine zN (zT (zS (zS (zR (yA ?_))))); refine zO rfl (Rd.lss rfl rfl) ?_; refine yA ?_
    first | refine gA ?_ | refine zH ?_
    first | (refine zG ?_; refine zO rfl (Rd.gtr rfl rfl) ?_) | refine zH ?_
    refine zO rfl zP ?_; refine zN (zT (XA.condT rfl (by first | rfl | exact decide_eq_true h7) ?_)); refine zS (zR (yS ?_)); refine zN (zT (XA.ret (DA.thn_ret ?_)))
    exact bodyA.ret (ResA.one rfl rfl) (Ent.refl _) ⟨rfl, rfl, rfl⟩
  have hop : k = 1 ∨ k = 2 ∨ k = 3 ∨ k = 4 ∨ k = 5 ∨ k = 6 ∨ k = 7 := by omega
  have hel : (List.toArray [Value.string ⟨#[]⟩, .string ⟨#[115, 101, 116]⟩, .string ⟨#[112, 117, 116]⟩, .string ⟨#[112, 114, 105, 110, 116]⟩, .string ⟨#[114, 101, 97, 100]⟩, .string ⟨#[119, 104, 105, 108, 101]⟩, .string ⟨#[105, 102]⟩, .string ⟨#[99, 111, 109, 109, 105, 116]⟩])[k.toNat]? = some (.string (verbOf k)) := by
    rcases hop with rfl | rfl | rfl | rfl | rfl | rfl | rfl <;> rfl
  refine enterA1 Tryd.func40 rfl rfl rfl ?_; refine zS (zR (yS ?_)); refine zN (zT (zS (zS (zR (yA ?_))))); refine zO rfl (Rd.lss rfl rfl) ?_; refine yA ?_
  first | refine gA ?_ | refine zH ?_
  first | (refine zG ?_; refine zO rfl (Rd.gtr rfl rfl) ?_) | refine zH ?_
  refine zO rfl zP ?_; refine zN (zT (XA.condF rfl (by first | rfl | exact decide_eq_false h7) ?_)); refine XA.skip (zT (zS (zR ?_)))
  refine zO rfl (Rd.buildA (cs := [Value.string ⟨#[]⟩, .string ⟨#[115, 101, 116]⟩, .string ⟨#[112, 117, 116]⟩, .string ⟨#[112, 114, 105, 110, 116]⟩, .string ⟨#[114, 101, 97, 100]⟩, .string ⟨#[119, 104, 105, 108, 101]⟩, .string ⟨#[105, 102]⟩, .string ⟨#[99, 111, 109, 109, 105, 116]⟩]) (fun _ _ => tyrow) rfl rfl rfl rfl (by kernel_rfl)) ?_
  refine yA ?_
  refine zO rfl (by apply Rd.indexAgg; exact tyrow rfl; rfl; exact tyrow rfl; rfl; rfl; rfl; rfl; exact (by omega); exact hel) ?_
  refine yS ?_; refine zN (zT (XA.ret ?_))
  exact bodyA.ret (ResA.one rfl rfl) (Ent.refl _) ⟨rfl, rfl, rfl⟩
section
variable (σ : PH) (b : Nat) (p : Option Addr) (n c : Nat) (e : Int) (vs : Value)
theorem is_yes (t : Tk) (r : List Tk) (w : ByteArray) (hl : PSl 4 rTk σ (.slice p (t :: r).length c) (t :: r)) (h : isT w (t :: r) = true) :
    CallsA Tryd.prog 64 #[ptr b, .string w] σ [blk b [.slice p (t :: r).length c, i64 e, vs] 83] (RetA fun v σ' Γ' => v = .bool true ∧ ∃ p' c', PSl 4 rTk σ (.slice p' r.length c') r ∧ σ = σ' ∧ Γ' = [blk b [.slice p' r.length c', i64 e, vs] 83]) := by
  have hp := peek_p σ b p c e vs (t :: r) w hl
  rw [h] at hp
  refine enterA2 Tryd.func64 rfl rfl rfl ?_; refine zS (zR (yS ?_)); refine zN (zT (zS (zR (yA ?_)))); refine yA ?_; refine yC (hp) ?_; refine yS ?_; refine zN (zT (zS (zS (zR (yA ?_))))); refine zN (zT (yT rfl rfl (zR (yA ?_)))); refine yA ?_; refine zO rfl (Rd.nilCheck rfl) ?_; refine yV ?_
  refine yB ?_
  refine zO rfl (X.Rd.sliceTail4 (tyrow rfl) rfl (tyrow rfl) rfl rfl rfl (by simp)) ?_; refine zO rfl (Rd.nilCheck rfl) ?_; refine yV ?_
  refine zw rfl (WrA.st (tyrow rfl) rfl) ?_
  rintro _ _ _ ⟨rfl, rfl, rfl⟩
  refine zN (zT (zS (zR (yA ?_)))); refine yS ?_; refine zN (zT (XA.ret ?_))
  exact bodyA.ret (ResA.one rfl rfl) zE ⟨rfl, _, _, psl_tail hl, rfl, rfl⟩
theorem is_no (l : List Tk) (w : ByteArray) (hl : PSl 4 rTk σ (.slice p l.length c) l) (h : isT w l = false) :
    CallsA Tryd.prog 64 #[ptr b, .string w] σ [blk b [.slice p l.length c, i64 e, vs] 83] (RetA fun v σ' Γ' => v = .bool false ∧ σ = σ' ∧ Γ' = [blk b [.slice p l.length c, i64 e, vs] 83]) := by
  have hp := peek_p σ b p c e vs l w hl
  rw [h] at hp
  refine enterA2 Tryd.func64 rfl rfl rfl ?_; refine zS (zR (yS ?_)); refine zN (zT (zS (zR (yA ?_)))); refine yA ?_; refine yC (hp) ?_; refine yS ?_; refine zN (zT (zS (zS (zR (yA ?_))))); refine zN (zT (yF rfl rfl (XA.skip (zT (zS (zR (yA ?_))))))); refine yS ?_; refine zN (zT (XA.ret ?_))
  exact bodyA.ret (ResA.one rfl rfl) zE ⟨rfl, rfl, rfl⟩
theorem want_ok (t : Tk) (r : List Tk) (w : ByteArray) (hl : PSl 4 rTk σ (.slice p (t :: r).length c) (t :: r)) (h : isT w (t :: r) = true) :
    CallsA Tryd.prog 86 #[ptr b, .string w] σ [blk b [.slice p (t :: r).length c, i64 e, vs] 83] (RetA fun v σ' Γ' => v = .tuple #[] ∧ ∃ p' c', PSl 4 rTk σ (.slice p' r.length c') r ∧ σ = σ' ∧ Γ' = [blk b [.slice p' r.length c', i64 e, vs] 83]) := by
  refine enterA2 Tryd.func86 rfl rfl rfl ?_; refine zS (zR (yA ?_)); refine yA ?_; refine zw rfl (WrA.cE (is_yes σ b p c e vs t r w hl h) rfl) ?_
  rintro _ _ _ ⟨_, ⟨rfl, p', c', hl', rfl, rfl⟩, rfl⟩
  refine XOA.cl ?_; refine zO rfl zJ ?_; refine zN (zT (yF rfl rfl (XA.skip ?_)))
  exact bodyA.normal (ResA.none rfl) zE ⟨rfl, p', c', hl', rfl, rfl⟩
theorem want_bad (l : List Tk) (w : ByteArray) (hl : PSl 4 rTk σ (.slice p l.length c) l) (h : isT w l = false) :
    CallsA Tryd.prog 86 #[ptr b, .string w] σ [blk b [.slice p l.length c, i64 e, vs] 83] (PanA fun ch σ' Γ' => ch = goneP (failAt e l 5) ∧ σ = σ' ∧ Γ' = [blk b [.slice p l.length c, i64 e, vs] 83]) := by
  refine enterA2 Tryd.func86 rfl rfl rfl ?_; refine zS (zR (yA ?_)); refine yA ?_; refine yC (is_no σ b p c e vs l w hl h) ?_; refine zO rfl zJ ?_; refine zN (zT (yT rfl rfl (zR (yA ?_)))); refine XOA.die rfl (fail_p σ b p c e vs l 5 hl) rfl ?_
  rintro _ _ _ ⟨rfl, rfl, rfl⟩
  refine DA.cl ?_
  repeat (first | refine DA.thn_panic ?_ | refine DA.inb_panic ?_)
  exact bodyA.panic zE ⟨rfl, rfl, rfl⟩
theorem deep_ok (m : Int) (v : List Value) (h : m ≤ 12) :
    CallsA Tryd.prog 85 #[ptr b, i64 m] σ [blk b v 83] (RetA fun v' σ' Γ' => v' = .tuple #[] ∧ σ = σ' ∧ Γ' = [blk b v 83]) := by
  refine enterA2 Tryd.func85 rfl rfl rfl ?_
  refine zS (zR (yA ?_)); refine zO rfl (Rd.gtr rfl rfl) ?_; refine zN (zT (XA.condF rfl (by first | rfl | exact decide_eq_false (by omega)) ?_)); refine XA.skip ?_
  exact bodyA.normal (ResA.none rfl) zE ⟨rfl, rfl, rfl⟩
theorem deep_bad (m : Int) (l : List Tk) (hl : PSl 4 rTk σ (.slice p l.length c) l) (h : ¬ m ≤ 12) :
    CallsA Tryd.prog 85 #[ptr b, i64 m] σ [blk b [.slice p l.length c, i64 e, vs] 83] (PanA fun ch σ' Γ' => ch = goneP (failAt e l 4) ∧ σ = σ' ∧ Γ' = [blk b [.slice p l.length c, i64 e, vs] 83]) := by
  refine enterA2 Tryd.func85 rfl rfl rfl ?_
  refine zS (zR (yA ?_)); refine zO rfl (Rd.gtr rfl rfl) ?_; refine zN (zT (XA.condT rfl (by first | rfl | exact decide_eq_true (by omega)) ?_)); refine zR (yA ?_)
  refine XOA.die rfl (fail_p σ b p c e vs l 4 hl) rfl ?_
  rintro _ _ _ ⟨rfl, rfl, rfl⟩
  refine DA.cl ?_
  repeat (first | refine DA.thn_panic ?_ | refine DA.inb_panic ?_)
  exact bodyA.panic zE ⟨rfl, rfl, rfl⟩
theorem num_ok (t : Tk) (r : List Tk) (hl : PSl 4 rTk σ (.slice p (t :: r).length c) (t :: r)) (h : t.num = true) :
    CallsA Tryd.prog 66 #[ptr b] σ [blk b [.slice p (t :: r).length c, i64 e, vs] 83] (RetA fun v σ' Γ' => v = i64 t.n ∧ ∃ p' c', PSl 4 rTk σ (.slice p' r.length c') r ∧ σ = σ' ∧ Γ' = [blk b [.slice p' r.length c', i64 e, vs] 83]) := by
  obtain ⟨g, o, rfl, h0, h1, h2, h3⟩ := psl_head hl
  have hne : ¬ (((t :: r).length : Nat) : Int) = 0 := by rw [List.length_cons]; omega
  rw [h] at h2
  refine enterA1 Tryd.func66 rfl rfl rfl ?_; refine zS (zR (yS ?_)); refine zN (zT (zS (zS (zR (yA ?_))))); refine zO rfl (Rd.nilCheck rfl) ?_; refine yV ?_; refine yB ?_; refine zO rfl (Rd.lenSlice (tyrow rfl) rfl rfl) ?_; refine yE ?_; refine yA ?_
  first | refine gA ?_ | refine zH ?_
  first | (refine zG ?_; refine zO rfl (Rd.nilCheck rfl) ?_) | refine zH ?_
  first | refine gV ?_ | refine zH ?_
  first | refine gB ?_ | refine zH ?_
  first | (refine zG ?_; refine zO rfl (Rd.ixS rfl rfl) ?_) | refine zH ?_
  first | refine gV ?_ | refine zH ?_
  first | refine gB ?_ | refine zH ?_
  first | (refine zG ?_; refine zO rfl zJ ?_) | refine zH ?_
  refine zO rfl zP ?_; refine zN (zT (yF rfl rfl (XA.skip (zT (zS (zR (yA ?_))))))); refine zO rfl (Rd.nilCheck rfl) ?_; refine yV ?_; refine yB ?_; refine zO rfl (Rd.ixS rfl rfl) ?_; refine yV ?_; refine yB ?_
  refine yS ?_; refine zN (zT (zS (zR (yA ?_)))); refine yA ?_; refine zO rfl (Rd.nilCheck rfl) ?_; refine yV ?_; refine yB ?_; refine zO rfl (X.Rd.sliceTail4 (tyrow rfl) rfl (tyrow rfl) rfl rfl rfl (by simp)) ?_; refine zO rfl (Rd.nilCheck rfl) ?_
  refine yV ?_; refine zw rfl (WrA.st (tyrow rfl) rfl) ?_
  rintro _ _ _ ⟨rfl, rfl, rfl⟩
  refine zN (zT (zS (zR (yA ?_)))); refine yS ?_; refine zN (zT (XA.ret ?_))
  exact bodyA.ret (ResA.one rfl rfl) zE ⟨rfl, _, _, psl_tail hl, rfl, rfl⟩
end
end Go.Proofs.YthefnnkmpcgcmaaDoor

namespace Go.Proofs.YthefnnkmpcgcmaaDoor
open Go X
set_option maxHeartbeats 2000000
def idxG (s : ByteArray) : List Va → Nat → Option Nat
  | [], _ => none
  | v :: r, k => if v.name = s then some k else idxG s r (k + 1)
theorem varEqP (σ : PH) (g : Nat) (s : ByteArray) (w : Va) : CallsA Tryd.prog 108 #[vav w, ptr g] σ [blk g [.string s] 9] (RetA fun r σ' Γ' => r = .bool (decide (w.name = s)) ∧ σ = σ' ∧ Γ' = [blk g [.string s] 9]) := by
  unfold vav
  refine enterA2 Tryd.func108 rfl rfl rfl ?_; refine zS (zR ?_); refine zw rfl WrA.bx ?_
  rintro _ _ _ ⟨g2, rfl, rfl, rfl⟩
  refine yS ?_; refine zN (zT (zS (zR (yV ?_)))); refine yB ?_; refine yB ?_; refine zO rfl (Rd.eqls rfl rfl) ?_; refine yS ?_; refine zN (zT (XA.ret ?_))
  exact bodyA.ret (ResA.one rfl rfl) zE ⟨rfl, rfl, rfl⟩
def idxI : Option Nat → Int
  | some k => k
  | none => -1
theorem indexP (σ : PH) (g : Nat) (s : ByteArray) (sl : Value) (l : List Va) (hl : PSl 2 rVa σ sl l) : CallsA Tryd.prog 92 #[sl, .func (.func 108) #[] #[ptr g]] σ [blk g [.string s] 9] (RetA fun r σ' Γ' => r = i64 (idxI (idxG s l 0)) ∧ σ = σ' ∧ Γ' = [blk g [.string s] 9]) := by
  obtain ⟨pl, cl, rfl, hle, hmx⟩ := hl.shape
  have hlen : l.length ≤ maxLen := by omega
  simp only [maxLen] at hlen
  refine enterA2 Tryd.func92 rfl rfl rfl ?_; refine zS (zR (yS ?_)); refine zN (zT (zS (zS (zR (yA ?_))))); refine zO rfl (Rd.lenSlice (tyrow rfl) rfl rfl) ?_; refine yA ?_; refine zN (zT (XA.block ?_))
  refine XA.gen [(0, _), (1, _), (4, _), (7, _), (8, _)] ⟨(by with_reducible (conv => lhs; whnf)), (by with_reducible (conv => lhs; whnf)), (by with_reducible (conv => lhs; whnf)), (by with_reducible (conv => lhs; whnf)), (by with_reducible (conv => lhs; whnf)), trivial⟩ (fun δ => ?_)
  dsimp only [List.foldl]
  refine XA.loop [(4, 5), (8, 18)] (fun k : Nat => [(8, i64 k)]) (fun k σ' Γ' => σ = σ' ∧ k ≤ l.length ∧ (idxG s l 0 = idxG s (l.drop k) k) ∧ Γ' = [blk g [.string s] 9]) (fun k => l.length - k) 0 (by exact ⟨rfl, trivial⟩) (Δ0 := _) ?_ (⟨rfl, Nat.zero_le _, rfl, rfl⟩) ?_
  · exact zE
  rintro k δ _ _ ⟨rfl, hk, hall, rfl⟩
  dsimp only [ovr, List.foldl]
  refine zS (zR (zO rfl (Rd.lss rfl rfl) ?_)); refine zN (zT (zS ?_)); refine XA.condp rfl (fun hlt => ?_) (fun hlt => ?_)
  · have hlt : k < l.length := by omega
    obtain ⟨x', hx'⟩ : ∃ x', l[k]? = some x' := ⟨_, List.getElem?_eq_getElem hlt⟩
    obtain ⟨gg, o, row, rfl, ⟨rfl, -, -⟩, hrl, hrow⟩ := hl.at hx'
    have hall : idxG s l 0 = idxG s (l.drop k) k := hall
    rw [drop_get hx', idxG] at hall
    refine XA.skip (zT (zS (XA.block (zS (zR (yA ?_)))))); refine yS ?_; refine zN (zT (zS (zR (yA ?_)))); refine yA ?_; refine yA ?_; refine zO rfl (Rd.ixS rfl rfl) ?_; refine zO rfl (Rd.ldA rfl) ?_; refine zw rfl (WrA.cV (first := []) (cap := [ptr g]) rfl (varEqP σ g s x') rfl) ?_
    rintro _ _ _ ⟨_, ⟨rfl, rfl, rfl⟩, rfl⟩
    refine XOA.cl ?_; refine zN (zT ?_); refine XA.condp rfl (fun hc => ?_) (fun hc => ?_)
    · refine zS ?_
      refine zR (yA ?_); refine yS ?_; refine zN (zT (XA.ret (DA.inb_ret (DA.thn_ret (DA.thn_ret (DA.inb_ret (DA.thn_ret ?_)))))))
      rw [if_pos hc] at hall
      exact bodyA.ret (ResA.one rfl rfl) zE ⟨by rw [hall]; rfl, rfl, rfl⟩
    · rw [if_neg hc] at hall
      refine XA.skip (DA.inb_normal (zT (zR (zO rfl zI ?_)))); refine yA ?_; refine zN (zT ?_)
      refine ⟨(Keep.upd (Keep.upd (Keep.updO (Keep.upd (Keep.upd (Keep.upd (Keep.upd (Keep.upd (Keep.upd (Keep.upd (Keep.upd (Keep.upd (Keep.hav (Keep.hav (Keep.refl _ _) rfl) rfl) rfl) rfl) rfl) rfl) rfl) rfl) rfl) rfl) rfl) rfl) rfl) rfl), k + 1, _, zM, ?_, ⟨rfl, hlt, hall, rfl⟩, (by omega)⟩
      · exact zE
  have hkn : k = l.length := by omega
  subst hkn
  have hall : idxG s l 0 = idxG s (l.drop l.length) l.length := hall
  rw [List.drop_length] at hall
  refine XA.exit (DA.thn_exit (DA.thn_exit (DA.inb_same (zT (zS (zR (yS ?_))))))); refine zN (zT (XA.ret ?_))
  exact bodyA.ret (ResA.one rfl rfl) zE ⟨by rw [hall]; rfl, rfl, rfl⟩
section
variable (σ : PH) (b : Nat) (p : Option Addr) (n c : Nat) (e : Int) (vs : Value)
theorem num_bad (l : List Tk) (hl : PSl 4 rTk σ (.slice p l.length c) l) (h : ∀ t r, l = t :: r → t.num = false) :
    CallsA Tryd.prog 66 #[ptr b] σ [blk b [.slice p l.length c, i64 e, vs] 83] (PanA fun ch σ' Γ' => ch = goneP (failAt e l 5) ∧ σ = σ' ∧ Γ' = [blk b [.slice p l.length c, i64 e, vs] 83]) := by
  cases l with
  | nil =>
    refine enterA1 Tryd.func66 rfl rfl rfl ?_; refine zS (zR (yS ?_)); refine zN (zT (zS (zS (zR (yA ?_))))); refine zO rfl (Rd.nilCheck rfl) ?_; refine yV ?_; refine yB ?_; refine zO rfl (Rd.lenSlice (tyrow rfl) rfl rfl) ?_; refine yE ?_; refine yA ?_
    first | refine gA ?_ | refine zH ?_
    first | (refine zG ?_; refine zO rfl (Rd.nilCheck rfl) ?_) | refine zH ?_
    first | refine gV ?_ | refine zH ?_
    first | refine gB ?_ | refine zH ?_
    first | (refine zG ?_; refine zO rfl (Rd.ixS rfl rfl) ?_) | refine zH ?_
    first | refine gV ?_ | refine zH ?_
    first | refine gB ?_ | refine zH ?_
    first | (refine zG ?_; refine zO rfl zJ ?_) | refine zH ?_
    refine zO rfl zP ?_; refine zN (zT (yT rfl rfl (zR (yA ?_)))); refine XOA.die rfl (fail_p σ b p c e vs [] 5 hl) rfl ?_
    rintro _ _ _ ⟨rfl, rfl, rfl⟩
    refine DA.cl ?_
    repeat (first | refine DA.thn_panic ?_ | refine DA.inb_panic ?_)
    exact bodyA.panic zE ⟨rfl, rfl, rfl⟩
  | cons t r =>
    obtain ⟨g, o, rfl, h0, h1, h2, h3⟩ := psl_head hl
    have hne : ¬ (((t :: r).length : Nat) : Int) = 0 := by rw [List.length_cons]; omega
    rw [h t r rfl] at h2
    refine enterA1 Tryd.func66 rfl rfl rfl ?_; refine zS (zR (yS ?_)); refine zN (zT (zS (zS (zR (yA ?_))))); refine zO rfl (Rd.nilCheck rfl) ?_; refine yV ?_; refine yB ?_; refine zO rfl (Rd.lenSlice (tyrow rfl) rfl rfl) ?_; refine yE ?_; refine yA ?_
    first | refine gA ?_ | refine zH ?_
    first | (refine zG ?_; refine zO rfl (Rd.nilCheck rfl) ?_) | refine zH ?_
    first | refine gV ?_ | refine zH ?_
    first | refine gB ?_ | refine zH ?_
    first | (refine zG ?_; refine zO rfl (Rd.ixS rfl rfl) ?_) | refine zH ?_
    first | refine gV ?_ | refine zH ?_
    first | refine gB ?_ | refine zH ?_
    first | (refine zG ?_; refine zO rfl zJ ?_) | refine zH ?_
    refine zO rfl zP ?_; refine zN (zT (yT rfl rfl (zR (yA ?_)))); refine XOA.die rfl (fail_p σ b _ c e vs (t :: r) 5 hl) rfl ?_
    rintro _ _ _ ⟨rfl, rfl, rfl⟩
    refine DA.cl ?_
    repeat (first | refine DA.thn_panic ?_ | refine DA.inb_panic ?_)
    exact bodyA.panic zE ⟨rfl, rfl, rfl⟩
theorem name_ok (t : Tk) (r : List Tk) (hl : PSl 4 rTk σ (.slice p (t :: r).length c) (t :: r)) (hs : t.text.size ≤ maxLen) (h : nameOk t.text = true) :
    CallsA Tryd.prog 65 #[ptr b] σ [blk b [.slice p (t :: r).length c, i64 e, vs] 83] (RetA fun v σ' Γ' => v = .string t.text ∧ ∃ p' c', PSl 4 rTk σ (.slice p' r.length c') r ∧ σ = σ' ∧ Γ' = [blk b [.slice p' r.length c', i64 e, vs] 83]) := by
  obtain ⟨g, o, rfl, h0, h1, h2, h3⟩ := psl_head hl
  have hne : ¬ (((t :: r).length : Nat) : Int) = 0 := by rw [List.length_cons]; omega
  have hn := name_a σ t.text hs
  rw [h] at hn
  refine enterA1 Tryd.func65 rfl rfl rfl ?_; refine zS (zR (yS ?_)); refine zN (zT (zS (zS (zR (yA ?_))))); refine zO rfl (Rd.nilCheck rfl) ?_; refine yV ?_; refine yB ?_; refine zO rfl (Rd.lenSlice (tyrow rfl) rfl rfl) ?_; refine yE ?_; refine yA ?_
  first | refine gA ?_ | refine zH ?_
  first | (refine zG ?_; refine zO rfl (Rd.nilCheck rfl) ?_) | refine zH ?_
  first | refine gV ?_ | refine zH ?_
  first | refine gB ?_ | refine zH ?_
  first | (refine zG ?_; refine zO rfl (Rd.ixS rfl rfl) ?_) | refine zH ?_
  first | refine gV ?_ | refine zH ?_
  first | refine gB ?_ | refine zH ?_
  first | refine XOA.wanted rfl rfl ?_ | refine XOA.wq rfl rfl ?_
  refine yC (hn) ?_
  first | (refine zG ?_; refine zO rfl zJ ?_) | refine zH ?_
  refine zO rfl zP ?_; refine zN (zT (yF rfl rfl (XA.skip (zT (zS (zR (yA ?_))))))); refine zO rfl (Rd.nilCheck rfl) ?_; refine yV ?_; refine yB ?_; refine zO rfl (Rd.ixS rfl rfl) ?_; refine yV ?_; refine yB ?_
  refine yS ?_; refine zN (zT (zS (zR (yA ?_)))); refine yA ?_; refine zO rfl (Rd.nilCheck rfl) ?_; refine yV ?_; refine yB ?_; refine zO rfl (X.Rd.sliceTail4 (tyrow rfl) rfl (tyrow rfl) rfl rfl rfl (by simp)) ?_; refine zO rfl (Rd.nilCheck rfl) ?_
  refine yV ?_; refine zw rfl (WrA.st (tyrow rfl) rfl) ?_
  rintro _ _ _ ⟨rfl, rfl, rfl⟩
  refine zN (zT (zS (zR (yA ?_)))); refine yS ?_; refine zN (zT (XA.ret ?_))
  exact bodyA.ret (ResA.one rfl rfl) zE ⟨rfl, _, _, psl_tail hl, rfl, rfl⟩
theorem name_bad (l : List Tk) (hl : PSl 4 rTk σ (.slice p l.length c) l) (hs : ∀ t ∈ l, t.text.size ≤ maxLen) (h : ∀ t r, l = t :: r → nameOk t.text = false) :
    CallsA Tryd.prog 65 #[ptr b] σ [blk b [.slice p l.length c, i64 e, vs] 83] (PanA fun ch σ' Γ' => ch = goneP (failAt e l 5) ∧ σ = σ' ∧ Γ' = [blk b [.slice p l.length c, i64 e, vs] 83]) := by
  cases l with
  | nil =>
    refine enterA1 Tryd.func65 rfl rfl rfl ?_; refine zS (zR (yS ?_)); refine zN (zT (zS (zS (zR (yA ?_))))); refine zO rfl (Rd.nilCheck rfl) ?_; refine yV ?_; refine yB ?_; refine zO rfl (Rd.lenSlice (tyrow rfl) rfl rfl) ?_; refine yE ?_; refine yA ?_
    first | refine gA ?_ | refine zH ?_
    first | (refine zG ?_; refine zO rfl (Rd.nilCheck rfl) ?_) | refine zH ?_
    first | refine gV ?_ | refine zH ?_
    first | refine gB ?_ | refine zH ?_
    first | (refine zG ?_; refine zO rfl (Rd.ixS rfl rfl) ?_) | refine zH ?_
    first | refine gV ?_ | refine zH ?_
    first | refine gB ?_ | refine zH ?_
    first | refine zH ?_
    first | (refine zG ?_; refine zO rfl zJ ?_) | refine zH ?_
    refine zO rfl zP ?_; refine zN (zT (yT rfl rfl (zR (yA ?_)))); refine XOA.die rfl (fail_p σ b p c e vs [] 5 hl) rfl ?_
    rintro _ _ _ ⟨rfl, rfl, rfl⟩
    refine DA.cl ?_
    repeat (first | refine DA.thn_panic ?_ | refine DA.inb_panic ?_)
    exact bodyA.panic zE ⟨rfl, rfl, rfl⟩
  | cons t r =>
    obtain ⟨g, o, rfl, h0, h1, h2, h3⟩ := psl_head hl
    have hne : ¬ (((t :: r).length : Nat) : Int) = 0 := by rw [List.length_cons]; omega
    have hn := name_a σ t.text (hs t (by simp))
    rw [h t r rfl] at hn
    refine enterA1 Tryd.func65 rfl rfl rfl ?_; refine zS (zR (yS ?_)); refine zN (zT (zS (zS (zR (yA ?_))))); refine zO rfl (Rd.nilCheck rfl) ?_; refine yV ?_; refine yB ?_; refine zO rfl (Rd.lenSlice (tyrow rfl) rfl rfl) ?_; refine yE ?_; refine yA ?_
    first | refine gA ?_ | refine zH ?_
    first | (refine zG ?_; refine zO rfl (Rd.nilCheck rfl) ?_) | refine zH ?_
    first | refine gV ?_ | refine zH ?_
    first | refine gB ?_ | refine zH ?_
    first | (refine zG ?_; refine zO rfl (Rd.ixS rfl rfl) ?_) | refine zH ?_
    first | refine gV ?_ | refine zH ?_
    first | refine gB ?_ | refine zH ?_
    first | refine XOA.wanted rfl rfl ?_ | refine XOA.wq rfl rfl ?_
    refine yC (hn) ?_
    first | (refine zG ?_; refine zO rfl zJ ?_) | refine zH ?_
    refine zO rfl zP ?_; refine zN (zT (yT rfl rfl (zR (yA ?_)))); refine XOA.die rfl (fail_p σ b _ c e vs (t :: r) 5 hl) rfl ?_
    rintro _ _ _ ⟨rfl, rfl, rfl⟩
    refine DA.cl ?_
    repeat (first | refine DA.thn_panic ?_ | refine DA.inb_panic ?_)
    exact bodyA.panic zE ⟨rfl, rfl, rfl⟩
theorem variable_ok (vl : List Va) (pv : Option Addr) (cv k : Nat) (t : Tk) (r : List Tk) (hv : PSl 2 rVa σ (.slice pv vl.length cv) vl) (hl : PSl 4 rTk σ (.slice p (t :: r).length c) (t :: r)) (hs : t.text.size ≤ maxLen) (h : nameOk t.text = true) (hk : idxG t.text vl 0 = some k) :
    CallsA Tryd.prog 88 #[ptr b] σ [blk b [.slice p (t :: r).length c, i64 e, .slice pv vl.length cv] 83] (RetA fun v σ' Γ' => v = i64 k ∧ ∃ p' c', PSl 4 rTk σ (.slice p' r.length c') r ∧ σ = σ' ∧ Γ' = [blk b [.slice p' r.length c', i64 e, .slice pv vl.length cv] 83]) := by
  have hx := fun g => indexP σ g t.text _ vl hv
  rw [hk] at hx
  refine enterA1 Tryd.func88 rfl rfl rfl ?_; refine zS (zR (yS ?_)); refine zN (zT (zS (zR (yA ?_)))); refine zO rfl (Rd.nilCheck rfl) ?_; refine yV ?_; refine yB ?_; refine yS ?_; refine zN (zT (zS (zR (yA ?_)))); refine zw rfl (WrA.cE (name_ok σ b p c e _ t r hl hs h) rfl) ?_
  rintro _ _ _ ⟨_, ⟨rfl, p', c', hl', rfl, rfl⟩, rfl⟩
  refine XOA.cl ?_; refine zw rfl (WrA.alloc (tyrow rfl)) ?_
  rintro _ _ _ ⟨g4, rfl, rfl, rfl⟩
  refine zw rfl (WrA.st (tyrow rfl) rfl) ?_
  rintro _ _ _ ⟨rfl, rfl, rfl⟩
  refine zN (zT (zS (zR (yA ?_)))); refine zO rfl (Rd.nilCheck rfl) ?_; refine yV ?_; refine yB ?_
  refine zO rfl (Rd.makeFunc1 (by with_reducible (conv => lhs; whnf))) ?_
  refine yC (hx _) ?_; refine yS ?_; refine zN (zT (zS (zS (zR (yA ?_))))); refine zO rfl (Rd.lss rfl rfl) ?_; refine zN (zT ?_)
  refine XA.condF rfl (by first | rfl | exact decide_eq_false (by show ¬ ((k : Int) < 0); omega)) ?_
  refine XA.skip (zT (zS (zR (yA ?_)))); refine yS ?_; refine zN (zT (XA.ret ?_))
  exact bodyA.ret (ResA.one rfl rfl) zE ⟨rfl, p', c', hl', rfl, rfl⟩
theorem variable_bad (pv : Option Addr) (nv cv : Nat) (l : List Tk) (hl : PSl 4 rTk σ (.slice p l.length c) l) (hs : ∀ t ∈ l, t.text.size ≤ maxLen) (h : ∀ t r, l = t :: r → nameOk t.text = false) :
    CallsA Tryd.prog 88 #[ptr b] σ [blk b [.slice p l.length c, i64 e, vs] 83] (PanA fun ch σ' Γ' => ch = goneP (failAt e l 5) ∧ σ = σ' ∧ Γ' = [blk b [.slice p l.length c, i64 e, vs] 83]) := by
  refine enterA1 Tryd.func88 rfl rfl rfl ?_; refine zS (zR (yS ?_)); refine zN (zT (zS (zR (yA ?_)))); refine zO rfl (Rd.nilCheck rfl) ?_; refine yV ?_; refine yB ?_; refine yS ?_; refine zN (zT (zS (zR (yA ?_)))); refine XOA.die rfl (name_bad σ b p c e vs l hl hs h) rfl ?_
  rintro _ _ _ ⟨rfl, rfl, rfl⟩
  refine DA.cl ?_
  repeat (first | refine DA.thn_panic ?_ | refine DA.inb_panic ?_)
  exact bodyA.panic zE ⟨rfl, rfl, rfl⟩
theorem variable_none (vl : List Va) (pv : Option Addr) (cv : Nat) (t : Tk) (r : List Tk) (hv : PSl 2 rVa σ (.slice pv vl.length cv) vl) (hl : PSl 4 rTk σ (.slice p (t :: r).length c) (t :: r)) (hs : t.text.size ≤ maxLen) (h : nameOk t.text = true) (hk : idxG t.text vl 0 = none) :
    CallsA Tryd.prog 88 #[ptr b] σ [blk b [.slice p (t :: r).length c, i64 e, .slice pv vl.length cv] 83] (PanA fun ch σ' Γ' => ch = goneP (failAt e (t :: r) 10) ∧ σ = σ' ∧ Γ' = [blk b [.slice p (t :: r).length c, i64 e, .slice pv vl.length cv] 83]) := by
  have hx := fun g => indexP σ g t.text _ vl hv
  rw [hk] at hx
  refine enterA1 Tryd.func88 rfl rfl rfl ?_; refine zS (zR (yS ?_)); refine zN (zT (zS (zR (yA ?_)))); refine zO rfl (Rd.nilCheck rfl) ?_; refine yV ?_; refine yB ?_; refine yS ?_; refine zN (zT (zS (zR (yA ?_)))); refine zw rfl (WrA.cE (name_ok σ b p c e _ t r hl hs h) rfl) ?_
  rintro _ _ _ ⟨_, ⟨rfl, p', c', hl', rfl, rfl⟩, rfl⟩
  refine XOA.cl ?_; refine zw rfl (WrA.alloc (tyrow rfl)) ?_
  rintro _ _ _ ⟨g4, rfl, rfl, rfl⟩
  refine zw rfl (WrA.st (tyrow rfl) rfl) ?_
  rintro _ _ _ ⟨rfl, rfl, rfl⟩
  refine zN (zT (zS (zR (yA ?_)))); refine zO rfl (Rd.nilCheck rfl) ?_; refine yV ?_; refine yB ?_
  refine zO rfl (Rd.makeFunc1 (by with_reducible (conv => lhs; whnf))) ?_
  refine yC (hx _) ?_; refine yS ?_; refine zN (zT (zS (zS (zR (yA ?_))))); refine zO rfl (Rd.lss rfl rfl) ?_; refine zN (zT (yT rfl rfl (zS (zR (yA ?_))))); refine yA ?_; refine zO rfl (Rd.nilCheck rfl) ?_; refine yV ?_; refine zw rfl (WrA.st (tyrow rfl) rfl) ?_
  rintro _ _ _ ⟨rfl, rfl, rfl⟩
  refine zN (zT (zR (yA ?_))); refine XOA.die rfl (fail_p σ b _ c e _ (t :: r) 10 hl) rfl ?_
  rintro _ _ _ ⟨rfl, rfl, rfl⟩
  refine DA.cl ?_
  repeat (first | refine DA.thn_panic ?_ | refine DA.inb_panic ?_)
  exact bodyA.panic zE ⟨rfl, rfl, rfl⟩
def Words (f : FuncId) (W : Int → ByteArray) : Prop := ∀ (σ : PH) (k : Int), CallsA Tryd.prog f #[i64 k] σ [] (RetA fun v σ' Γ' => v = .string (W k) ∧ σ = σ' ∧ Γ' = [])
theorem pick_ok (f : FuncId) (W : Int → ByteArray) (hf : Words f W) (most k0 : Nat) (hm : most ≤ 100) (t : Tk) (r : List Tk) (hl : PSl 4 rTk σ (.slice p (t :: r).length c) (t :: r)) (h1 : 1 ≤ k0) (h2 : k0 ≤ most) (h : isT (W k0) (t :: r) = true) (hlt : ∀ j : Nat, 1 ≤ j → j < k0 → isT (W j) (t :: r) = false) :
    CallsA Tryd.prog 87 #[ptr b, i64 most, .func (.func f) #[] #[]] σ [blk b [.slice p (t :: r).length c, i64 e, vs] 83] (RetA fun v σ' Γ' => v = i64 k0 ∧ ∃ p' c', PSl 4 rTk σ (.slice p' r.length c') r ∧ σ = σ' ∧ Γ' = [blk b [.slice p' r.length c', i64 e, vs] 83]) := by
  refine enterA3 Tryd.func87 rfl rfl rfl ?_; refine zS (zR (yS ?_)); refine zN (zT (zS (zS (zR (yS ?_))))); refine zN (zT (XA.block ?_))
  refine XA.gen [(0, _), (1, _), (2, _), (6, _), (7, _)] ⟨(by with_reducible (conv => lhs; whnf)), (by with_reducible (conv => lhs; whnf)), (by with_reducible (conv => lhs; whnf)), (by with_reducible (conv => lhs; whnf)), (by with_reducible (conv => lhs; whnf)), trivial⟩ (fun δ => ?_)
  dsimp only [List.foldl]
  refine XA.loop [(6, 18)] (fun k : Nat => [(7, i64 k)]) (fun k σ' Γ' => σ = σ' ∧ 1 ≤ k ∧ k ≤ k0 ∧ Γ' = [blk b [.slice p (t :: r).length c, i64 e, vs] 83]) (fun k => k0 - k) 1 (by exact ⟨rfl, trivial⟩) (Δ0 := _) ?_ (⟨rfl, Nat.le_refl _, h1, rfl⟩) ?_
  · exact zE
  rintro k δ _ _ ⟨rfl, hk1, hk2, rfl⟩
  dsimp only [ovr, List.foldl]
  have hk1 : 1 ≤ k := hk1
  have hk2 : k ≤ k0 := hk2
  refine zS (zS (zR (yA ?_))); refine yA ?_; refine zO rfl (Rd.leq rfl rfl) ?_; refine zN (zT (XA.condT rfl (by first | rfl | exact decide_eq_true (by omega)) ?_)); refine XA.skip (zT (zS (XA.block (zS (zR (yA ?_)))))); refine yA ?_; refine yA ?_
  refine zw rfl (WrA.cV (first := []) (cap := []) rfl (hf σ k) rfl) ?_
  rintro _ _ _ ⟨_, ⟨rfl, rfl, rfl⟩, rfl⟩
  refine XOA.cl ?_
  by_cases q : k = k0
  · subst q
    refine zw rfl (WrA.cE (is_yes σ b p c e vs t r (W k) hl h) rfl) ?_
    rintro _ _ _ ⟨_, ⟨rfl, p', c', hl', rfl, rfl⟩, rfl⟩
    refine XOA.cl ?_; refine zN (zT (yT rfl rfl (zS (zR (yA ?_))))); refine yS ?_; refine zN (zT (XA.ret (DA.inb_ret (DA.thn_ret (DA.thn_ret (DA.inb_ret (DA.thn_ret ?_)))))))
    exact bodyA.ret (ResA.one rfl rfl) zE ⟨rfl, p', c', hl', rfl, rfl⟩
  · skip
    refine yC (is_no σ b p c e vs (t :: r) (W k) hl (hlt k hk1 (by omega))) ?_; refine zN (zT (yF rfl rfl (XA.skip (DA.inb_normal (zT (zR (yA ?_))))))); refine zO rfl zI ?_; refine yS ?_; refine zN (zT ?_)
    refine ⟨(Keep.upd (Keep.upd (Keep.upd (Keep.updO (Keep.updO (Keep.upd (Keep.upd (Keep.upd (Keep.upd (Keep.upd (Keep.upd (Keep.upd (Keep.hav (Keep.refl _ _) rfl) rfl) rfl) rfl) rfl) rfl) rfl) rfl) rfl) rfl) rfl) rfl) rfl), k + 1, _, zM, ?_, ⟨rfl, by show 1 ≤ k + 1; omega, by show k + 1 ≤ k0; omega, rfl⟩, (by omega)⟩
    · exact zE
theorem pick_bad (f : FuncId) (W : Int → ByteArray) (hf : Words f W) (most : Nat) (hm : most ≤ 100) (l : List Tk) (hl : PSl 4 rTk σ (.slice p l.length c) l) (hlt : ∀ j : Nat, 1 ≤ j → j ≤ most → isT (W j) l = false) :
    CallsA Tryd.prog 87 #[ptr b, i64 most, .func (.func f) #[] #[]] σ [blk b [.slice p l.length c, i64 e, vs] 83] (PanA fun ch σ' Γ' => ch = goneP (failAt e l 5) ∧ σ = σ' ∧ Γ' = [blk b [.slice p l.length c, i64 e, vs] 83]) := by
  refine enterA3 Tryd.func87 rfl rfl rfl ?_; refine zS (zR (yS ?_)); refine zN (zT (zS (zS (zR (yS ?_))))); refine zN (zT (XA.block ?_))
  refine XA.gen [(0, _), (1, _), (2, _), (6, _), (7, _)] ⟨(by with_reducible (conv => lhs; whnf)), (by with_reducible (conv => lhs; whnf)), (by with_reducible (conv => lhs; whnf)), (by with_reducible (conv => lhs; whnf)), (by with_reducible (conv => lhs; whnf)), trivial⟩ (fun δ => ?_)
  dsimp only [List.foldl]
  refine XA.loop [(6, 18)] (fun k : Nat => [(7, i64 k)]) (fun k σ' Γ' => σ = σ' ∧ 1 ≤ k ∧ k ≤ most + 1 ∧ Γ' = [blk b [.slice p l.length c, i64 e, vs] 83]) (fun k => most + 1 - k) 1 (by exact ⟨rfl, trivial⟩) (Δ0 := _) ?_ (⟨rfl, Nat.le_refl _, by omega, rfl⟩) ?_
  · exact zE
  rintro k δ _ _ ⟨rfl, hk1, hk2, rfl⟩
  dsimp only [ovr, List.foldl]
  have hk1 : 1 ≤ k := hk1
  have hk2 : k ≤ most + 1 := hk2
  by_cases q : k ≤ most
  · skip
    refine zS (zS (zR (yA ?_))); refine yA ?_; refine zO rfl (Rd.leq rfl rfl) ?_; refine zN (zT (XA.condT rfl (by first | rfl | exact decide_eq_true (by omega)) ?_)); refine XA.skip (zT (zS (XA.block (zS (zR (yA ?_)))))); refine yA ?_; refine yA ?_
    refine zw rfl (WrA.cV (first := []) (cap := []) rfl (hf σ k) rfl) ?_
    rintro _ _ _ ⟨_, ⟨rfl, rfl, rfl⟩, rfl⟩
    refine XOA.cl ?_; refine yC (is_no σ b p c e vs l (W k) hl (hlt k hk1 q)) ?_; refine zN (zT (yF rfl rfl (XA.skip (DA.inb_normal (zT (zR (yA ?_))))))); refine zO rfl zI ?_; refine yS ?_; refine zN (zT ?_)
    refine ⟨(Keep.upd (Keep.upd (Keep.upd (Keep.updO (Keep.updO (Keep.upd (Keep.upd (Keep.upd (Keep.upd (Keep.upd (Keep.upd (Keep.upd (Keep.hav (Keep.refl _ _) rfl) rfl) rfl) rfl) rfl) rfl) rfl) rfl) rfl) rfl) rfl) rfl) rfl), k + 1, _, zM, ?_, ⟨rfl, by show 1 ≤ k + 1; omega, by show k + 1 ≤ most + 1; omega, rfl⟩, (by omega)⟩
    · exact zE
  · skip
    refine zS (zS (zR (yA ?_))); refine yA ?_; refine zO rfl (Rd.leq rfl rfl) ?_; refine zN (zT (XA.condF rfl (by first | rfl | exact decide_eq_false (by omega)) ?_)); refine XA.exit (DA.thn_exit (DA.thn_exit (DA.inb_same (zT (zS (zR (yA ?_)))))))
    refine XOA.die rfl (fail_p σ b p c e vs l 5 hl) rfl ?_
    rintro _ _ _ ⟨rfl, rfl, rfl⟩
    refine DA.cl ?_
    repeat (first | refine DA.thn_panic ?_ | refine DA.inb_panic ?_)
    exact bodyA.panic zE ⟨rfl, rfl, rfl⟩
end
end Go.Proofs.YthefnnkmpcgcmaaDoor

namespace Go.Proofs.YthefnnkmpcgcmaaDoor
open Go X
def pickG (W : Int → ByteArray) (l : List Tk) : Nat → Nat → Option Nat
  | 0, _ => none
  | f + 1, k => if isT (W k) l = true then some k else pickG W l f (k + 1)
def pickT (W : Int → ByteArray) (most : Nat) (l : List Tk) : Option Nat := pickG W l most 1
theorem pickG_some {W : Int → ByteArray} {l : List Tk} {k0 : Nat} : ∀ (f k : Nat), pickG W l f k = some k0 → k ≤ k0 ∧ k0 < k + f ∧ isT (W k0) l = true ∧ ∀ j : Nat, k ≤ j → j < k0 → isT (W j) l = false
  | 0, k, h => by cases h
  | f + 1, k, h => by
    rw [pickG] at h
    split at h
    · rename_i hk
      cases h
      exact ⟨Nat.le_refl _, by omega, hk, fun j a b => by omega⟩
    · rename_i hk
      obtain ⟨a, b, c, d⟩ := pickG_some f (k + 1) h
      refine ⟨by omega, by omega, c, fun j x y => ?_⟩
      by_cases q : j = k
      · subst q; simpa using hk
      · exact d j (by omega) y
theorem pickG_none {W : Int → ByteArray} {l : List Tk} : ∀ (f k : Nat), pickG W l f k = none → ∀ j : Nat, k ≤ j → j < k + f → isT (W j) l = false
  | 0, k, _, j, a, b => by omega
  | f + 1, k, h, j, a, b => by
    rw [pickG] at h
    split at h
    · cases h
    · rename_i hk
      by_cases q : j = k
      · subst q; simpa using hk
      · exact pickG_none f (k + 1) h j (by omega) (by omega)
theorem isT_cons {w : ByteArray} {l : List Tk} (h : isT w l = true) : ∃ t r, l = t :: r := by
  cases l with
  | nil => cases h
  | cons t r => exact ⟨t, r, rfl⟩
abbrev lpar : ByteArray := ⟨#[40]⟩
abbrev rpar : ByteArray := ⟨#[41]⟩
abbrev PR (α : Type) := Except (Int × Int) (α × List Tk)
def subsA {α : Type} (E : List Tk → PR α) : Nat → List Tk → List α → PR (List α)
  | 0, l, acc => .ok (acc, l)
  | m + 1, l, acc => match E l with
    | .error x => .error x
    | .ok (x, l1) => subsA E m l1 (acc ++ [x])
def varP (vl : List Va) (e : Int) (l : List Tk) : PR Int := match l with
  | t :: r => if nameOk t.text = true then match idxG t.text vl 0 with
      | some i => .ok ((i : Int), r)
      | none => .error (failAt e l 10)
    else .error (failAt e l 5)
  | [] => .error (failAt e l 5)
def numP (e : Int) (l : List Tk) : PR Int := match l with
  | t :: r => if t.num = true then .ok (t.n, r) else .error (failAt e l 5)
  | [] => .error (failAt e l 5)
def headP (vl : List Va) (e : Int) (k : Nat) (l : List Tk) : PR (Int × Int) :=
  if k = 1 then match numP e l with | .error x => .error x | .ok (n, r) => .ok ((0, n), r)
  else if k = 2 ∨ k = 3 then match varP vl e l with | .error x => .error x | .ok (v, r) => .ok ((v, 0), r)
  else .ok ((0, 0), l)
def closeP {α : Type} (e : Int) (x : α) (l : List Tk) : PR α := if isT rpar l = true then .ok (x, l.tail) else .error (failAt e l 5)
def exprP (vl : List Va) (e : Int) : Nat → List Tk → PR Ex
  | 0, l => .error (failAt e l 4)
  | f + 1, l => if isT lpar l = true then match pickT wordOf 8 l.tail with
      | none => .error (failAt e l.tail 5)
      | some k => match headP vl e k l.tail.tail with
        | .error x => .error x
        | .ok (vn, l3) => match subsA (exprP vl e f) (partsOf k).toNat l3 [] with
          | .error x => .error x
          | .ok (xs, l4) => closeP e (.mk k vn.1 vn.2 xs) l4
    else .error (failAt e l 5)
theorem subsA_mem {α : Type} {E : List Tk → PR α} (hE : ∀ l x l', E l = .ok (x, l') → ∀ t ∈ l', t ∈ l) : ∀ (m : Nat) (l : List Tk) (acc xs : List α) (l' : List Tk), subsA E m l acc = .ok (xs, l') → ∀ t ∈ l', t ∈ l
  | 0, l, acc, xs, l', h, t, ht => by cases h; exact ht
  | m + 1, l, acc, xs, l', h, t, ht => by
    rw [subsA] at h
    cases q : E l with
    | error x => rw [q] at h; cases h
    | ok y =>
      obtain ⟨x, l1⟩ := y
      rw [q] at h
      exact hE l x l1 q t (subsA_mem hE m l1 _ xs l' h t ht)
theorem numP_mem {e : Int} {l l' : List Tk} {n : Int} (h : numP e l = .ok (n, l')) : ∀ t ∈ l', t ∈ l := by
  cases l with
  | nil => cases h
  | cons t r =>
    rw [numP] at h
    split at h
    · cases h; exact fun x hx => by simp [hx]
    · cases h
theorem varP_mem {vl : List Va} {e : Int} {l l' : List Tk} {n : Int} (h : varP vl e l = .ok (n, l')) : ∀ t ∈ l', t ∈ l := by
  cases l with
  | nil => cases h
  | cons t r =>
    rw [varP] at h
    split at h
    · split at h
      · cases h; exact fun x hx => by simp [hx]
      · cases h
    · cases h
theorem headP_mem {vl : List Va} {e : Int} {k : Nat} {l l' : List Tk} {vn : Int × Int} (h : headP vl e k l = .ok (vn, l')) : ∀ t ∈ l', t ∈ l := by
  rw [headP] at h
  split at h
  · cases q : numP e l with
    | error x => rw [q] at h; cases h
    | ok y => obtain ⟨n, r⟩ := y; rw [q] at h; cases h; exact numP_mem q
  · split at h
    · cases q : varP vl e l with
      | error x => rw [q] at h; cases h
      | ok y => obtain ⟨n, r⟩ := y; rw [q] at h; cases h; exact varP_mem q
    · cases h; exact fun t ht => ht
theorem mem_tail {α : Type} {l : List α} {t : α} (h : t ∈ l.tail) : t ∈ l := List.mem_of_mem_tail h
theorem closeP_mem {α : Type} {e : Int} {x y : α} {l l' : List Tk} (h : closeP e x l = .ok (y, l')) : ∀ t ∈ l', t ∈ l := by
  rw [closeP] at h
  split at h
  · cases h; exact fun t ht => mem_tail ht
  · cases h
theorem exprP_mem {vl : List Va} {e : Int} : ∀ (f : Nat) (l : List Tk) (x : Ex) (l' : List Tk), exprP vl e f l = .ok (x, l') → ∀ t ∈ l', t ∈ l
  | 0, l, x, l', h => by cases h
  | f + 1, l, x, l', h => by
    rw [exprP] at h
    split at h
    · cases hk : pickT wordOf 8 l.tail with
      | none => rw [hk] at h; cases h
      | some k =>
        rw [hk] at h
        simp only at h
        cases hh : headP vl e k l.tail.tail with
        | error x => rw [hh] at h; cases h
        | ok y =>
          obtain ⟨vn, l3⟩ := y
          rw [hh] at h
          simp only at h
          cases hs : subsA (exprP vl e f) (partsOf k).toNat l3 [] with
          | error x => rw [hs] at h; cases h
          | ok z =>
            obtain ⟨xs, l4⟩ := z
            rw [hs] at h
            simp only at h
            intro t ht
            exact mem_tail (mem_tail (headP_mem hh t (subsA_mem (exprP_mem f) _ _ _ _ _ hs t (closeP_mem h t ht))))
    · cases h
theorem idxG_lt {s : ByteArray} : ∀ (l : List Va) (k i : Nat), idxG s l k = some i → k ≤ i ∧ i < k + l.length
  | [], k, i, h => by cases h
  | v :: r, k, i, h => by
    rw [idxG] at h
    split at h
    · cases h; exact ⟨Nat.le_refl _, by simp⟩
    · have := idxG_lt r (k + 1) i h
      simp only [List.length_cons]; omega
def TkF (t : Tk) : Prop := t.text.size ≤ maxLen ∧ i64ok t.n
def EndA (Q : Value → PH → List HP → Prop) (D : List PanicEntry → PH → List HP → Prop) : Ending → PH → List HP → Prop
  | .returned v, σ, Γ => Q v σ Γ
  | .panicked c, σ, Γ => D c σ Γ
  | _, _, _ => False
end Go.Proofs.YthefnnkmpcgcmaaDoor

namespace Go.Proofs.YthefnnkmpcgcmaaDoor
open Go X
set_option maxHeartbeats 4000000
set_option maxRecDepth 4000
def ExprPOK (vl : List Va) (e : Int) (f : Nat) : Prop := ∀ (σ : PH) (b : Nat) (p : Option Addr) (c : Nat) (pv : Option Addr) (cv : Nat) (l : List Tk) (d : Int), PSl 2 rVa σ (.slice pv vl.length cv) vl → PSl 4 rTk σ (.slice p l.length c) l → (∀ t ∈ l, TkF t) → d + f = 13 → 0 ≤ d →
  CallsA Tryd.prog 89 #[ptr b, i64 d] σ [blk b [.slice p l.length c, i64 e, .slice pv vl.length cv] 83] (EndA
    (fun v σ' Γ' => ∃ x l', exprP vl e f l = .ok (x, l') ∧ ∃ cs p' c', v = .agg (List.toArray cs) ∧ ExAt σ' cs x ∧ PSl 4 rTk σ' (.slice p' l'.length c') l' ∧ σ.sub σ' ∧ Γ' = [blk b [.slice p' l'.length c', i64 e, .slice pv vl.length cv] 83])
    (fun ch σ' Γ' => ∃ x, exprP vl e f l = .error x ∧ ch = goneP x ∧ σ.sub σ' ∧ ∃ cs, Γ' = [blk b cs 83]))
theorem ExprPOK.ok {vl : List Va} {e : Int} {f : Nat} (h : ExprPOK vl e f) {σ : PH} {b : Nat} {p : Option Addr} {c : Nat} {pv : Option Addr} {cv : Nat} {l : List Tk} {d : Int} (hv : PSl 2 rVa σ (.slice pv vl.length cv) vl) (hl : PSl 4 rTk σ (.slice p l.length c) l) (hF : ∀ t ∈ l, TkF t) (hd : d + f = 13) (hd0 : 0 ≤ d) {x : Ex} {l' : List Tk} (ho : exprP vl e f l = .ok (x, l')) :
    CallsA Tryd.prog 89 #[ptr b, i64 d] σ [blk b [.slice p l.length c, i64 e, .slice pv vl.length cv] 83] (RetA fun v σ' Γ' => ∃ cs p' c', v = .agg (List.toArray cs) ∧ ExAt σ' cs x ∧ PSl 4 rTk σ' (.slice p' l'.length c') l' ∧ σ.sub σ' ∧ Γ' = [blk b [.slice p' l'.length c', i64 e, .slice pv vl.length cv] 83]) := by
  refine (h σ b p c pv cv l d hv hl hF hd hd0).mono fun en σ' Γ' hr => ?_
  cases en with
  | returned v =>
    obtain ⟨x', l'', h1, h2⟩ := hr
    rw [ho] at h1
    cases h1
    exact h2
  | panicked ch => obtain ⟨x', h1, -⟩ := hr; rw [ho] at h1; cases h1
  | outgrown => exact False.elim hr
theorem ExprPOK.bad {vl : List Va} {e : Int} {f : Nat} (h : ExprPOK vl e f) {σ : PH} {b : Nat} {p : Option Addr} {c : Nat} {pv : Option Addr} {cv : Nat} {l : List Tk} {d : Int} (hv : PSl 2 rVa σ (.slice pv vl.length cv) vl) (hl : PSl 4 rTk σ (.slice p l.length c) l) (hF : ∀ t ∈ l, TkF t) (hd : d + f = 13) (hd0 : 0 ≤ d) {x : Int × Int} (ho : exprP vl e f l = .error x) :
    CallsA Tryd.prog 89 #[ptr b, i64 d] σ [blk b [.slice p l.length c, i64 e, .slice pv vl.length cv] 83] (PanA fun ch σ' Γ' => ch = goneP x ∧ σ.sub σ' ∧ ∃ cs, Γ' = [blk b cs 83]) := by
  refine (h σ b p c pv cv l d hv hl hF hd hd0).mono fun en σ' Γ' hr => ?_
  cases en with
  | returned v => obtain ⟨x', l'', h1, -⟩ := hr; rw [ho] at h1; cases h1
  | panicked ch =>
    obtain ⟨x', h1, h2⟩ := hr
    rw [ho] at h1
    cases h1
    exact h2
  | outgrown => exact False.elim hr
theorem numP_err {e : Int} {l : List Tk} {x : Int × Int} (h : numP e l = .error x) : x = failAt e l 5 ∧ ∀ t r, l = t :: r → t.num = false := by
  cases l with
  | nil => cases h; exact ⟨rfl, fun t r q => by cases q⟩
  | cons t r =>
    rw [numP] at h
    split at h
    · cases h
    · rename_i hn; cases h; exact ⟨rfl, fun t' r' q => by cases q; simpa using hn⟩
theorem numP_ok {e : Int} {l l' : List Tk} {n : Int} (h : numP e l = .ok (n, l')) : ∃ t, l = t :: l' ∧ t.num = true ∧ t.n = n := by
  cases l with
  | nil => cases h
  | cons t r =>
    rw [numP] at h
    split at h
    · rename_i hn; cases h; exact ⟨t, rfl, hn, rfl⟩
    · cases h
theorem varP_err {vl : List Va} {e : Int} {l : List Tk} {x : Int × Int} (h : varP vl e l = .error x) : (x = failAt e l 5 ∧ ∀ t r, l = t :: r → nameOk t.text = false) ∨ ∃ t r, l = t :: r ∧ x = failAt e (t :: r) 10 ∧ nameOk t.text = true ∧ idxG t.text vl 0 = none := by
  cases l with
  | nil => cases h; exact .inl ⟨rfl, fun t r q => by cases q⟩
  | cons t r =>
    rw [varP] at h
    split at h
    · rename_i hn
      cases hi : idxG t.text vl 0 with
      | some i => rw [hi] at h; cases h
      | none => rw [hi] at h; cases h; exact .inr ⟨t, r, rfl, rfl, hn, hi⟩
    · rename_i hn; cases h; exact .inl ⟨rfl, fun t' r' q => by cases q; simpa using hn⟩
theorem varP_ok {vl : List Va} {e : Int} {l l' : List Tk} {v : Int} (h : varP vl e l = .ok (v, l')) : ∃ t i, l = t :: l' ∧ v = ((i : Nat) : Int) ∧ nameOk t.text = true ∧ idxG t.text vl 0 = some i := by
  cases l with
  | nil => cases h
  | cons t r =>
    rw [varP] at h
    split at h
    · rename_i hn
      cases hi : idxG t.text vl 0 with
      | some i => rw [hi] at h; cases h; exact ⟨t, i, rfl, rfl, hn, hi⟩
      | none => rw [hi] at h; cases h
    · cases h
theorem partsOf_le (k : Int) : partsOf k ≤ 2 := by rw [partsOf]; split; (decide); split; (decide); split <;> decide
theorem partsOf_ge {k : Int} (h1 : 1 ≤ k) (h2 : k ≤ 8) : 0 ≤ partsOf k := by
  rw [partsOf]; split; (decide); split; (decide); rw [if_pos (by omega)]; decide
theorem X.PSl.len_le {α : Type} {s n c : Nat} {R : RT α} {σ : PH} {p : Option Addr} {xs : List α} (h : PSl s R σ (.slice p n c) xs) : xs.length ≤ 9223372036854775807 := by
  obtain ⟨p', c', -, h1, h2⟩ := h.shape
  simp only [maxLen] at h2; omega
theorem expr_p (vl : List Va) (e : Int) : ∀ f : Nat, ExprPOK vl e f
  | 0 => by
    intro σ b p c pv cv l d hv hl hF hd hd0
    have hd : d = 13 := by simpa using hd
    subst hd
    refine enterA2 Tryd.func89 rfl rfl rfl ?_; refine zS (zR ?_); refine zw rfl (WrA.alloc (tyrow rfl)) ?_
    rintro _ _ _ ⟨g4, rfl, rfl, rfl⟩
    refine zN (zT (zS (zR (yA ?_)))); refine yA ?_
    refine XOA.die rfl (deep_bad σ b p c e _ 13 l hl (by decide)) rfl ?_
    rintro _ _ _ ⟨rfl, rfl, rfl⟩
    refine DA.cl ?_
    repeat (first | refine DA.thn_panic ?_ | refine DA.inb_panic ?_)
    exact bodyA.panic zE ⟨_, rfl, rfl, .refl _, _, rfl⟩
  | f + 1 => by
    intro σ b p c pv cv l d hv hl hF hd hd0
    have ih := expr_p vl e f
    have hd1 : d ≤ 12 := by omega
    have hd2 : -9223372036854775808 ≤ d + 1 := by omega
    obtain ⟨R, hR⟩ : ∃ R, exprP vl e (f + 1) l = R := ⟨_, rfl⟩
    have hR0 := hR
    rw [exprP] at hR
    refine enterA2 Tryd.func89 rfl rfl rfl ?_; refine zS (zR ?_); refine zw rfl (WrA.alloc (tyrow rfl)) ?_
    rintro _ _ _ ⟨g4, rfl, rfl, rfl⟩
    refine zN (zT (zS (zR (yA ?_)))); refine yA ?_; refine yC (deep_ok σ b d _ hd1) ?_; refine zN (zT (zS (zR (yA ?_))))
    cases hq : isT lpar l with
    | false =>
      rw [if_neg (by rw [hq]; exact Bool.noConfusion)] at hR
      refine XOA.die rfl (want_bad σ b p c e _ l lpar hl hq) rfl ?_
      rintro _ _ _ ⟨rfl, rfl, rfl⟩
      refine DA.cl ?_
      repeat (first | refine DA.thn_panic ?_ | refine DA.inb_panic ?_)
      exact bodyA.panic zE ⟨_, hR0.trans hR.symm, rfl, .refl _, _, rfl⟩
    | true =>
      obtain ⟨t1, l1, rfl⟩ := isT_cons hq
      rw [if_pos hq, List.tail_cons] at hR
      refine zw rfl (WrA.cE (want_ok σ b p c e _ t1 l1 lpar hl hq) rfl) ?_
      rintro _ _ _ ⟨_, ⟨rfl, p1, c1, hl1, rfl, rfl⟩, rfl⟩
      refine XOA.cl ?_; refine zN (zT (zS (zR (yA ?_))))
      cases hk : pickT wordOf 8 l1 with
      | none =>
        rw [hk] at hR
        refine XOA.die rfl (pick_bad σ b p1 c1 e _ 39 wordOf word_p 8 (by decide) l1 hl1 (fun j a b => pickG_none 8 1 hk j a (by omega))) rfl ?_
        rintro _ _ _ ⟨rfl, rfl, rfl⟩
        refine DA.cl ?_
        repeat (first | refine DA.thn_panic ?_ | refine DA.inb_panic ?_)
        exact bodyA.panic zE ⟨_, hR0.trans hR.symm, rfl, .refl _, _, rfl⟩
      | some k =>
        rw [hk] at hR
        simp only at hR
        obtain ⟨k1, k2, k3, k4⟩ := pickG_some 8 1 hk
        have k2 : k ≤ 8 := by omega
        obtain ⟨t2, l2, rfl⟩ := isT_cons k3
        rw [List.tail_cons] at hR
        have hF2 : ∀ t ∈ l2, TkF t := fun t ht => hF t (by simp [ht])
        refine zw rfl (WrA.cE (pick_ok σ b p1 c1 e _ 39 wordOf word_p 8 k (by decide) t2 l2 hl1 k1 k2 k3 k4) rfl) ?_
        rintro _ _ _ ⟨_, ⟨rfl, p2, c2, hl2, rfl, rfl⟩, rfl⟩
        refine XOA.cl ?_; refine zO rfl (Rd.bl (fun _ _ => tyrow) rfl rfl rfl) ?_; refine zw rfl (WrA.alloc (tyrow rfl)) ?_
        rintro _ _ _ ⟨g5, rfl, rfl, rfl⟩
        refine zw rfl (WrA.st (tyrow rfl) rfl) ?_
        rintro _ _ _ ⟨rfl, rfl, rfl⟩
        refine zN (zT (zS (zS (zR (yV ?_))))); refine yB ?_; refine zN (zT (XA.block (zS (zR (yE ?_))))); refine yS ?_; refine zN (zT ?_)
        by_cases q1 : k = 1
        · subst q1
          rw [headP, if_pos rfl] at hR
          refine yT rfl rfl (zR (yA ?_))
          cases hn : numP e l2 with
          | error x =>
            rw [hn] at hR
            simp only at hR
            have hx : x = failAt e l2 5 ∧ ∀ t r, l2 = t :: r → t.num = false := numP_err hn
            obtain ⟨rfl, hx⟩ := hx
            refine XOA.die rfl (num_bad σ b p2 c2 e _ l2 hl2 hx) rfl ?_
            rintro _ _ _ ⟨rfl, rfl, rfl⟩
            refine DA.cl ?_
            repeat (first | refine DA.thn_panic ?_ | refine DA.inb_panic ?_)
            exact bodyA.panic zE ⟨_, hR0.trans hR.symm, rfl, .refl _, _, rfl⟩
          | ok y =>
            obtain ⟨n3, l3⟩ := y
            rw [hn] at hR
            simp only at hR
            obtain ⟨t3, rfl, h3, rfl⟩ := numP_ok hn
            have hF3 : ∀ t ∈ l3, TkF t := fun t ht => hF2 t (by simp [ht])
            refine zw rfl (WrA.cE (num_ok σ b p2 c2 e _ t3 l3 hl2 h3) rfl) ?_
            rintro _ _ _ ⟨_, ⟨rfl, p3, c3, hl3, rfl, rfl⟩, rfl⟩
            refine XOA.cl ?_; refine yV ?_; refine zw rfl (WrA.st (tyrow rfl) rfl) ?_
            rintro _ _ _ ⟨rfl, rfl, rfl⟩
            refine zN (DA.inb_normal (zT (zS (zS (zR (yV ?_)))))); refine yB ?_; refine yC (parts_a σ ((1 : Nat) : Int)) ?_; refine yA ?_; refine zN (zT (XA.block ?_))
            obtain ⟨m, hm⟩ : ∃ m : Nat, partsOf ((1 : Nat) : Int) = m := ⟨(partsOf ((1 : Nat) : Int)).toNat, by have := partsOf_ge (k := ((1 : Nat) : Int)) (by omega) (by omega); omega⟩
            have hm2 : m ≤ 2 := by have := partsOf_le ((1 : Nat) : Int); omega
            rw [hm] at hR ⊢
            rw [Int.toNat_natCast] at hR
            obtain ⟨S, hS⟩ : ∃ S, subsA (exprP vl e f) m l3 [] = S := ⟨_, rfl⟩
            rw [hS] at hR
            refine XA.gen [(0, _), (1, _), (4, _), (5, _), (29, _), (30, _)] ⟨(by with_reducible (conv => lhs; whnf)), (by with_reducible (conv => lhs; whnf)), (by with_reducible (conv => lhs; whnf)), (by with_reducible (conv => lhs; whnf)), (by with_reducible (conv => lhs; whnf)), (by with_reducible (conv => lhs; whnf)), trivial⟩ (fun δ => ?_)
            dsimp only [List.foldl]
            refine XA.loop [(30, 41)] (fun i : Nat => [(30, i64 i)]) (fun i σ' Γ' => σ.sub σ' ∧ i ≤ m ∧ ∃ (lc : List Tk) (acc : List Ex) (pp : Option Addr) (pc : Nat) (pl : Option Addr) (cl : Nat) (rows : List (List Value)), S = subsA (exprP vl e f) (m - i) lc acc ∧ (∀ t ∈ lc, TkF t) ∧ acc.length = i ∧ PSl 4 rTk σ' (.slice pp lc.length pc) lc ∧ Rows_ 4 ExAt σ' rows acc ∧ Γ' = [lst 54 4 (.slice pl i cl) i rows.flatten, blk g5 [i64 ((1 : Nat) : Int), i64 0, i64 t3.n, .slice pl i cl] 54, blk b [.slice pp lc.length pc, i64 e, .slice pv vl.length cv] 83, blk g4 ty54.zero 54]) (fun i => m - i) 0 (by exact ⟨rfl, trivial⟩) (Δ0 := _) ?_ (⟨.refl _, Nat.zero_le _, l3, [], p3, c3, none, 0, [], hS.symm, hF3, rfl, hl3, Rows_.nil _ _ _, rfl⟩) ?_
            · exact zE
            rintro i δ σ1 _ ⟨hs1, hi, lc, acc, pp, pc, pl, cl, rows, hSi, hFc, hacc, hlc, hrows, rfl⟩
            dsimp only [ovr, List.foldl]
            have hi : i ≤ m := hi
            have hv1 := hv.mono hs1 (fun _ _ h => h)
            by_cases hlt : i < m
            · obtain ⟨j, hj⟩ : ∃ j, m - i = j + 1 := ⟨m - i - 1, by omega⟩
              rw [hj, subsA] at hSi
              cases hx : exprP vl e f lc with
              | error x =>
                rw [hx] at hSi
                simp only at hSi
                rw [hSi] at hR
                refine zS (zR (zO rfl (Rd.lss rfl rfl) ?_)); refine zN (zT (zS (XA.condT rfl (by first | rfl | exact decide_eq_true (by omega)) ?_))); refine XA.skip (zT (zS (XA.block ?_)))
                refine XA.draw (by kernel_rfl) _ _ [7, 9] [(0, .pu), (1, .rd), (2, .pu), (3, .pu), (4, .pu), (5, .wr), (6, .wr), (7, .wr), (8, .pu), (9, .wr)] (by kernel_rfl) (PH.sub.refl _) (Ent.sel (R := blk g5 _ _) zL (Ent.nil _)) ?_
                refine zu rfl rfl (Rd.fA rfl) ?_; refine XPA.rd rfl rfl Gd.free (Rd.ldC rfl (tyrow rfl) rfl) ?_; refine zu rfl rfl Rd.mv ?_; refine zu rfl rfl Rd.mv ?_; refine zu rfl rfl zI ?_
                refine XPA.die rfl rfl Gd.free (ih.bad hv1 hlc hFc (by omega) (by omega) hx) rfl ?_
                rintro _ σ2 _ ⟨rfl, hs2, cs2, rfl⟩
                refine DA.cl ?_
                repeat (first | refine DA.thn_panic ?_ | refine DA.inb_panic ?_)
                exact bodyA.panic zE ⟨_, hR0.trans hR.symm, rfl, hs1.trans hs2, _, rfl⟩
              | ok y =>
                obtain ⟨x, l'⟩ := y
                rw [hx] at hSi
                simp only at hSi
                refine zS (zR (zO rfl (Rd.lss rfl rfl) ?_)); refine zN (zT (zS (XA.condT rfl (by first | rfl | exact decide_eq_true (by omega)) ?_))); refine XA.skip (zT (zS (XA.block ?_)))
                refine XA.draw (by kernel_rfl) _ _ [7, 9] [(0, .pu), (1, .rd), (2, .pu), (3, .pu), (4, .pu), (5, .wr), (6, .wr), (7, .wr), (8, .pu), (9, .wr)] (by kernel_rfl) (PH.sub.refl _) (Ent.sel (R := blk g5 _ _) zL (Ent.nil _)) ?_
                refine zu rfl rfl (Rd.fA rfl) ?_; refine XPA.rd rfl rfl Gd.free (Rd.ldC rfl (tyrow rfl) rfl) ?_; refine zu rfl rfl Rd.mv ?_; refine zu rfl rfl Rd.mv ?_; refine zu rfl rfl zI ?_
                refine XPA.wr0 rfl rfl Gd.free (WrA.cE (ih.ok hv1 hlc hFc (by omega) (by omega) hx) rfl) ?_
                rintro _ σ2 _ ⟨_, ⟨cs2, p', c', rfl, hcs2, hl', hs2, rfl⟩, rfl⟩
                refine stays (XPA.cl ?_)
                have hl2' := hcs2.len
                have hone2 := hcs2.ones
                refine XPA.wr0 rfl rfl Gd.free (WrA.bs1 (tyrow rfl) rfl (tyrow rfl)) ?_
                rintro _ _ _ ⟨g38, rfl, rfl, rfl⟩
                refine stays ?_
                refine XPA.wrZ0 rfl rfl Gd.free (by kernel_rfl) (WrA.ap1 (tyrow rfl) rfl (tyrow rfl) rfl rfl rfl) ?_
                rintro _ _ _ ⟨p39, c39, rfl, rfl, rfl⟩
                refine zu rfl rfl (Rd.fA rfl) ?_
                refine XPA.wrZ0 rfl rfl Gd.free (by kernel_rfl) (WrA.st (tyrow rfl) rfl) ?_
                rintro _ _ _ ⟨rfl, rfl, rfl⟩
                refine XPA.nil ?_; refine DA.inb_normal (zT (zR (zO rfl zI ?_))); refine yA ?_; refine zN (zT ?_)
                have hnew : Rows_ 4 ExAt σ2 (rows ++ [cs2]) (acc ++ [x]) := (hrows.mono (fun _ _ h => h.mono hs2)).snoc hl2' hcs2
                refine ⟨(Keep.upd (Keep.upd (Keep.updN (Keep.upd (Keep.updO (Keep.updO (Keep.updO (Keep.upd (Keep.upd (Keep.upd (Keep.upd (Keep.upd (Keep.upd (Keep.upd (Keep.hav (Keep.refl _ _) rfl) rfl) rfl) rfl) rfl) rfl) rfl) rfl) rfl) rfl) rfl) rfl)) rfl) rfl), i + 1, _, zM, ?_, ⟨hs1.trans hs2, hlt, l', acc ++ [x], p', c', p39, c39, rows ++ [cs2], (by rw [hSi, show m - (i + 1) = j by omega]), (fun t ht => hFc t (exprP_mem f _ _ _ hx t ht)), (by rw [List.length_append, hacc]; rfl), hl', hnew, rfl⟩, (by omega)⟩
                · rw [flatS]; exact zE
            · have him : i = m := by omega
              subst him
              rw [Nat.sub_self, subsA] at hSi
              rw [hSi] at hR
              simp only at hR
              rw [closeP] at hR
              refine zS (zR (zO rfl (Rd.lss rfl rfl) ?_)); refine zN (zT (zS (XA.condF rfl (by first | rfl | exact decide_eq_false (by omega)) ?_))); refine XA.exit (DA.thn_exit (DA.thn_exit (DA.inb_same (zT (zS (zR (yA ?_)))))))
              cases hc : isT rpar lc with
              | false =>
                rw [if_neg (by rw [hc]; exact Bool.noConfusion)] at hR
                refine XOA.die rfl (want_bad σ1 b pp pc e _ lc rpar hlc hc) rfl ?_
                rintro _ _ _ ⟨rfl, rfl, rfl⟩
                refine DA.cl ?_
                repeat (first | refine DA.thn_panic ?_ | refine DA.inb_panic ?_)
                exact bodyA.panic zE ⟨_, hR0.trans hR.symm, rfl, hs1, _, rfl⟩
              | true =>
                obtain ⟨t4, l4, rfl⟩ := isT_cons hc
                rw [if_pos hc, List.tail_cons] at hR
                refine zw rfl (WrA.cE (want_ok σ1 b pp pc e _ t4 l4 rpar hlc hc) rfl) ?_
                rintro _ _ _ ⟨_, ⟨rfl, p5, c5, hl5, rfl, rfl⟩, rfl⟩
                refine XOA.cl ?_; refine zN (zT (zS (zR (zO rfl (Rd.ldA rfl) ?_)))); refine zw rfl (WrA.st (tyrow rfl) rfl) ?_
                rintro _ _ _ ⟨rfl, rfl, rfl⟩
                refine zN (zT (XA.ret ?_)); refine DA.frz (R := lst 54 4 _ _ _) zL lst_frz lst_frz_mono ?_
                rintro σ3 ⟨⟩ hf hs3
                have hfin : ExAt σ3 [i64 ((1 : Nat) : Int), i64 0, i64 t3.n, .slice pl i cl] (.mk ((1 : Nat) : Int) 0 t3.n acc) := ExAt.of ⟨by omega, by omega⟩ ⟨by decide, by decide⟩ (hF2 t3 (by simp)).2 ((hrows.mono (fun _ _ h => h.mono hs3)).psl hacc.symm hf)
                exact bodyA.ret (ResA.cell rfl rfl (Ld.atBlk (tyrow rfl) rfl zL rfl (by first | exact take0 (by first | rfl | assumption | (refine (ints_len _).trans ?_; assumption) | (simp [*]; (first | done | fail))) | assumption | exact take_app (by first | rfl | assumption | (refine (ints_len _).trans ?_; assumption) | (simp [*]; (first | done | fail))) | (conv => lhs; simp only [List.drop_succ_cons, List.drop_zero, List.take_succ_cons, List.take_zero])) (by first | rfl | assumption | (refine (ints_len _).trans ?_; assumption) | (simp [*]; (first | done | fail))))) zE ⟨_, l4, hR0.trans hR.symm, _, p5, c5, rfl, hfin, hl5.mono hs3 (fun _ _ h => h), hs1.trans hs3, rfl⟩
        by_cases q2 : k = 2
        · subst q2
          rw [headP, if_neg (by decide), if_pos (by decide)] at hR
          refine yF rfl rfl (zS (zS (zR (yE ?_)))); refine yS ?_; refine zN (zT (yT rfl rfl (XA.skip (zT (yT rfl rfl (zR (yA ?_)))))))
          cases hn : varP vl e l2 with
          | error x =>
            rw [hn] at hR
            simp only at hR
            rcases varP_err hn with ⟨rfl, hx⟩ | ⟨t3, l3, rfl, rfl, hx, hy⟩
            · skip
              refine XOA.die rfl (variable_bad σ b p2 c2 e _ pv vl.length cv l2 hl2 (fun t ht => (hF2 t ht).1) hx) rfl ?_
              rintro _ _ _ ⟨rfl, rfl, rfl⟩
              refine DA.cl ?_
              repeat (first | refine DA.thn_panic ?_ | refine DA.inb_panic ?_)
              exact bodyA.panic zE ⟨_, hR0.trans hR.symm, rfl, .refl _, _, rfl⟩
            · skip
              refine XOA.die rfl (variable_none σ b p2 c2 e vl pv cv t3 l3 hv hl2 (hF2 t3 (by simp)).1 hx hy) rfl ?_
              rintro _ _ _ ⟨rfl, rfl, rfl⟩
              refine DA.cl ?_
              repeat (first | refine DA.thn_panic ?_ | refine DA.inb_panic ?_)
              exact bodyA.panic zE ⟨_, hR0.trans hR.symm, rfl, .refl _, _, rfl⟩
          | ok y =>
            obtain ⟨v3, l3⟩ := y
            rw [hn] at hR
            simp only at hR
            obtain ⟨t3, i3, rfl, rfl, h3, h4⟩ := varP_ok hn
            have hF3 : ∀ t ∈ l3, TkF t := fun t ht => hF2 t (by simp [ht])
            have hi3 := idxG_lt _ _ _ h4
            have hvm := hv.len_le
            refine zw rfl (WrA.cE (variable_ok σ b p2 c2 e vl pv cv i3 t3 l3 hv hl2 (hF2 t3 (by simp)).1 h3 h4) rfl) ?_
            rintro _ _ _ ⟨_, ⟨rfl, p3, c3, hl3, rfl, rfl⟩, rfl⟩
            refine XOA.cl ?_; refine yV ?_; refine zw rfl (WrA.st (tyrow rfl) rfl) ?_
            rintro _ _ _ ⟨rfl, rfl, rfl⟩
            refine zN (DA.inb_normal (zT (zS (zS (zR (yV ?_)))))); refine yB ?_; refine yC (parts_a σ ((2 : Nat) : Int)) ?_; refine yA ?_; refine zN (zT (XA.block ?_))
            obtain ⟨m, hm⟩ : ∃ m : Nat, partsOf ((2 : Nat) : Int) = m := ⟨(partsOf ((2 : Nat) : Int)).toNat, by have := partsOf_ge (k := ((2 : Nat) : Int)) (by omega) (by omega); omega⟩
            have hm2 : m ≤ 2 := by have := partsOf_le ((2 : Nat) : Int); omega
            rw [hm] at hR ⊢
            rw [Int.toNat_natCast] at hR
            obtain ⟨S, hS⟩ : ∃ S, subsA (exprP vl e f) m l3 [] = S := ⟨_, rfl⟩
            rw [hS] at hR
            refine XA.gen [(0, _), (1, _), (4, _), (5, _), (29, _), (30, _)] ⟨(by with_reducible (conv => lhs; whnf)), (by with_reducible (conv => lhs; whnf)), (by with_reducible (conv => lhs; whnf)), (by with_reducible (conv => lhs; whnf)), (by with_reducible (conv => lhs; whnf)), (by with_reducible (conv => lhs; whnf)), trivial⟩ (fun δ => ?_)
            dsimp only [List.foldl]
            refine XA.loop [(30, 41)] (fun i : Nat => [(30, i64 i)]) (fun i σ' Γ' => σ.sub σ' ∧ i ≤ m ∧ ∃ (lc : List Tk) (acc : List Ex) (pp : Option Addr) (pc : Nat) (pl : Option Addr) (cl : Nat) (rows : List (List Value)), S = subsA (exprP vl e f) (m - i) lc acc ∧ (∀ t ∈ lc, TkF t) ∧ acc.length = i ∧ PSl 4 rTk σ' (.slice pp lc.length pc) lc ∧ Rows_ 4 ExAt σ' rows acc ∧ Γ' = [lst 54 4 (.slice pl i cl) i rows.flatten, blk g5 [i64 ((2 : Nat) : Int), i64 (i3 : Int), i64 0, .slice pl i cl] 54, blk b [.slice pp lc.length pc, i64 e, .slice pv vl.length cv] 83, blk g4 ty54.zero 54]) (fun i => m - i) 0 (by exact ⟨rfl, trivial⟩) (Δ0 := _) ?_ (⟨.refl _, Nat.zero_le _, l3, [], p3, c3, none, 0, [], hS.symm, hF3, rfl, hl3, Rows_.nil _ _ _, rfl⟩) ?_
            · exact zE
            rintro i δ σ1 _ ⟨hs1, hi, lc, acc, pp, pc, pl, cl, rows, hSi, hFc, hacc, hlc, hrows, rfl⟩
            dsimp only [ovr, List.foldl]
            have hi : i ≤ m := hi
            have hv1 := hv.mono hs1 (fun _ _ h => h)
            by_cases hlt : i < m
            · obtain ⟨j, hj⟩ : ∃ j, m - i = j + 1 := ⟨m - i - 1, by omega⟩
              rw [hj, subsA] at hSi
              cases hx : exprP vl e f lc with
              | error x =>
                rw [hx] at hSi
                simp only at hSi
                rw [hSi] at hR
                refine zS (zR (zO rfl (Rd.lss rfl rfl) ?_)); refine zN (zT (zS (XA.condT rfl (by first | rfl | exact decide_eq_true (by omega)) ?_))); refine XA.skip (zT (zS (XA.block ?_)))
                refine XA.draw (by kernel_rfl) _ _ [7, 9] [(0, .pu), (1, .rd), (2, .pu), (3, .pu), (4, .pu), (5, .wr), (6, .wr), (7, .wr), (8, .pu), (9, .wr)] (by kernel_rfl) (PH.sub.refl _) (Ent.sel (R := blk g5 _ _) zL (Ent.nil _)) ?_
                refine zu rfl rfl (Rd.fA rfl) ?_; refine XPA.rd rfl rfl Gd.free (Rd.ldC rfl (tyrow rfl) rfl) ?_; refine zu rfl rfl Rd.mv ?_; refine zu rfl rfl Rd.mv ?_; refine zu rfl rfl zI ?_
                refine XPA.die rfl rfl Gd.free (ih.bad hv1 hlc hFc (by omega) (by omega) hx) rfl ?_
                rintro _ σ2 _ ⟨rfl, hs2, cs2, rfl⟩
                refine DA.cl ?_
                repeat (first | refine DA.thn_panic ?_ | refine DA.inb_panic ?_)
                exact bodyA.panic zE ⟨_, hR0.trans hR.symm, rfl, hs1.trans hs2, _, rfl⟩
              | ok y =>
                obtain ⟨x, l'⟩ := y
                rw [hx] at hSi
                simp only at hSi
                refine zS (zR (zO rfl (Rd.lss rfl rfl) ?_)); refine zN (zT (zS (XA.condT rfl (by first | rfl | exact decide_eq_true (by omega)) ?_))); refine XA.skip (zT (zS (XA.block ?_)))
                refine XA.draw (by kernel_rfl) _ _ [7, 9] [(0, .pu), (1, .rd), (2, .pu), (3, .pu), (4, .pu), (5, .wr), (6, .wr), (7, .wr), (8, .pu), (9, .wr)] (by kernel_rfl) (PH.sub.refl _) (Ent.sel (R := blk g5 _ _) zL (Ent.nil _)) ?_
                refine zu rfl rfl (Rd.fA rfl) ?_; refine XPA.rd rfl rfl Gd.free (Rd.ldC rfl (tyrow rfl) rfl) ?_; refine zu rfl rfl Rd.mv ?_; refine zu rfl rfl Rd.mv ?_; refine zu rfl rfl zI ?_
                refine XPA.wr0 rfl rfl Gd.free (WrA.cE (ih.ok hv1 hlc hFc (by omega) (by omega) hx) rfl) ?_
                rintro _ σ2 _ ⟨_, ⟨cs2, p', c', rfl, hcs2, hl', hs2, rfl⟩, rfl⟩
                refine stays (XPA.cl ?_)
                have hl2' := hcs2.len
                have hone2 := hcs2.ones
                refine XPA.wr0 rfl rfl Gd.free (WrA.bs1 (tyrow rfl) rfl (tyrow rfl)) ?_
                rintro _ _ _ ⟨g38, rfl, rfl, rfl⟩
                refine stays ?_
                refine XPA.wrZ0 rfl rfl Gd.free (by kernel_rfl) (WrA.ap1 (tyrow rfl) rfl (tyrow rfl) rfl rfl rfl) ?_
                rintro _ _ _ ⟨p39, c39, rfl, rfl, rfl⟩
                refine zu rfl rfl (Rd.fA rfl) ?_
                refine XPA.wrZ0 rfl rfl Gd.free (by kernel_rfl) (WrA.st (tyrow rfl) rfl) ?_
                rintro _ _ _ ⟨rfl, rfl, rfl⟩
                refine XPA.nil ?_; refine DA.inb_normal (zT (zR (zO rfl zI ?_))); refine yA ?_; refine zN (zT ?_)
                have hnew : Rows_ 4 ExAt σ2 (rows ++ [cs2]) (acc ++ [x]) := (hrows.mono (fun _ _ h => h.mono hs2)).snoc hl2' hcs2
                refine ⟨(Keep.upd (Keep.upd (Keep.updN (Keep.upd (Keep.updO (Keep.updO (Keep.updO (Keep.upd (Keep.upd (Keep.upd (Keep.upd (Keep.upd (Keep.upd (Keep.upd (Keep.hav (Keep.refl _ _) rfl) rfl) rfl) rfl) rfl) rfl) rfl) rfl) rfl) rfl) rfl) rfl)) rfl) rfl), i + 1, _, zM, ?_, ⟨hs1.trans hs2, hlt, l', acc ++ [x], p', c', p39, c39, rows ++ [cs2], (by rw [hSi, show m - (i + 1) = j by omega]), (fun t ht => hFc t (exprP_mem f _ _ _ hx t ht)), (by rw [List.length_append, hacc]; rfl), hl', hnew, rfl⟩, (by omega)⟩
                · rw [flatS]; exact zE
            · have him : i = m := by omega
              subst him
              rw [Nat.sub_self, subsA] at hSi
              rw [hSi] at hR
              simp only at hR
              rw [closeP] at hR
              refine zS (zR (zO rfl (Rd.lss rfl rfl) ?_)); refine zN (zT (zS (XA.condF rfl (by first | rfl | exact decide_eq_false (by omega)) ?_))); refine XA.exit (DA.thn_exit (DA.thn_exit (DA.inb_same (zT (zS (zR (yA ?_)))))))
              cases hc : isT rpar lc with
              | false =>
                rw [if_neg (by rw [hc]; exact Bool.noConfusion)] at hR
                refine XOA.die rfl (want_bad σ1 b pp pc e _ lc rpar hlc hc) rfl ?_
                rintro _ _ _ ⟨rfl, rfl, rfl⟩
                refine DA.cl ?_
                repeat (first | refine DA.thn_panic ?_ | refine DA.inb_panic ?_)
                exact bodyA.panic zE ⟨_, hR0.trans hR.symm, rfl, hs1, _, rfl⟩
              | true =>
                obtain ⟨t4, l4, rfl⟩ := isT_cons hc
                rw [if_pos hc, List.tail_cons] at hR
                refine zw rfl (WrA.cE (want_ok σ1 b pp pc e _ t4 l4 rpar hlc hc) rfl) ?_
                rintro _ _ _ ⟨_, ⟨rfl, p5, c5, hl5, rfl, rfl⟩, rfl⟩
                refine XOA.cl ?_; refine zN (zT (zS (zR (zO rfl (Rd.ldA rfl) ?_)))); refine zw rfl (WrA.st (tyrow rfl) rfl) ?_
                rintro _ _ _ ⟨rfl, rfl, rfl⟩
                refine zN (zT (XA.ret ?_)); refine DA.frz (R := lst 54 4 _ _ _) zL lst_frz lst_frz_mono ?_
                rintro σ3 ⟨⟩ hf hs3
                have hfin : ExAt σ3 [i64 ((2 : Nat) : Int), i64 (i3 : Int), i64 0, .slice pl i cl] (.mk ((2 : Nat) : Int) (i3 : Int) 0 acc) := ExAt.of ⟨by omega, by omega⟩ ⟨by omega, by omega⟩ ⟨by decide, by decide⟩ ((hrows.mono (fun _ _ h => h.mono hs3)).psl hacc.symm hf)
                exact bodyA.ret (ResA.cell rfl rfl (Ld.atBlk (tyrow rfl) rfl zL rfl (by first | exact take0 (by first | rfl | assumption | (refine (ints_len _).trans ?_; assumption) | (simp [*]; (first | done | fail))) | assumption | exact take_app (by first | rfl | assumption | (refine (ints_len _).trans ?_; assumption) | (simp [*]; (first | done | fail))) | (conv => lhs; simp only [List.drop_succ_cons, List.drop_zero, List.take_succ_cons, List.take_zero])) (by first | rfl | assumption | (refine (ints_len _).trans ?_; assumption) | (simp [*]; (first | done | fail))))) zE ⟨_, l4, hR0.trans hR.symm, _, p5, c5, rfl, hfin, hl5.mono hs3 (fun _ _ h => h), hs1.trans hs3, rfl⟩
        by_cases q3 : k = 3
        · subst q3
          rw [headP, if_neg (by decide), if_pos (by decide)] at hR
          refine yF rfl rfl (zS (zS (zR (yE ?_)))); refine yS ?_; refine zN (zT (yF rfl rfl (zR (yE ?_)))); refine yS ?_; refine zN (zT (yT rfl rfl (zR (yA ?_))))
          cases hn : varP vl e l2 with
          | error x =>
            rw [hn] at hR
            simp only at hR
            rcases varP_err hn with ⟨rfl, hx⟩ | ⟨t3, l3, rfl, rfl, hx, hy⟩
            · skip
              refine XOA.die rfl (variable_bad σ b p2 c2 e _ pv vl.length cv l2 hl2 (fun t ht => (hF2 t ht).1) hx) rfl ?_
              rintro _ _ _ ⟨rfl, rfl, rfl⟩
              refine DA.cl ?_
              repeat (first | refine DA.thn_panic ?_ | refine DA.inb_panic ?_)
              exact bodyA.panic zE ⟨_, hR0.trans hR.symm, rfl, .refl _, _, rfl⟩
            · skip
              refine XOA.die rfl (variable_none σ b p2 c2 e vl pv cv t3 l3 hv hl2 (hF2 t3 (by simp)).1 hx hy) rfl ?_
              rintro _ _ _ ⟨rfl, rfl, rfl⟩
              refine DA.cl ?_
              repeat (first | refine DA.thn_panic ?_ | refine DA.inb_panic ?_)
              exact bodyA.panic zE ⟨_, hR0.trans hR.symm, rfl, .refl _, _, rfl⟩
          | ok y =>
            obtain ⟨v3, l3⟩ := y
            rw [hn] at hR
            simp only at hR
            obtain ⟨t3, i3, rfl, rfl, h3, h4⟩ := varP_ok hn
            have hF3 : ∀ t ∈ l3, TkF t := fun t ht => hF2 t (by simp [ht])
            have hi3 := idxG_lt _ _ _ h4
            have hvm := hv.len_le
            refine zw rfl (WrA.cE (variable_ok σ b p2 c2 e vl pv cv i3 t3 l3 hv hl2 (hF2 t3 (by simp)).1 h3 h4) rfl) ?_
            rintro _ _ _ ⟨_, ⟨rfl, p3, c3, hl3, rfl, rfl⟩, rfl⟩
            refine XOA.cl ?_; refine yV ?_; refine zw rfl (WrA.st (tyrow rfl) rfl) ?_
            rintro _ _ _ ⟨rfl, rfl, rfl⟩
            refine zN (DA.inb_normal (zT (zS (zS (zR (yV ?_)))))); refine yB ?_; refine yC (parts_a σ ((3 : Nat) : Int)) ?_; refine yA ?_; refine zN (zT (XA.block ?_))
            obtain ⟨m, hm⟩ : ∃ m : Nat, partsOf ((3 : Nat) : Int) = m := ⟨(partsOf ((3 : Nat) : Int)).toNat, by have := partsOf_ge (k := ((3 : Nat) : Int)) (by omega) (by omega); omega⟩
            have hm2 : m ≤ 2 := by have := partsOf_le ((3 : Nat) : Int); omega
            rw [hm] at hR ⊢
            rw [Int.toNat_natCast] at hR
            obtain ⟨S, hS⟩ : ∃ S, subsA (exprP vl e f) m l3 [] = S := ⟨_, rfl⟩
            rw [hS] at hR
            refine XA.gen [(0, _), (1, _), (4, _), (5, _), (29, _), (30, _)] ⟨(by with_reducible (conv => lhs; whnf)), (by with_reducible (conv => lhs; whnf)), (by with_reducible (conv => lhs; whnf)), (by with_reducible (conv => lhs; whnf)), (by with_reducible (conv => lhs; whnf)), (by with_reducible (conv => lhs; whnf)), trivial⟩ (fun δ => ?_)
            dsimp only [List.foldl]
            refine XA.loop [(30, 41)] (fun i : Nat => [(30, i64 i)]) (fun i σ' Γ' => σ.sub σ' ∧ i ≤ m ∧ ∃ (lc : List Tk) (acc : List Ex) (pp : Option Addr) (pc : Nat) (pl : Option Addr) (cl : Nat) (rows : List (List Value)), S = subsA (exprP vl e f) (m - i) lc acc ∧ (∀ t ∈ lc, TkF t) ∧ acc.length = i ∧ PSl 4 rTk σ' (.slice pp lc.length pc) lc ∧ Rows_ 4 ExAt σ' rows acc ∧ Γ' = [lst 54 4 (.slice pl i cl) i rows.flatten, blk g5 [i64 ((3 : Nat) : Int), i64 (i3 : Int), i64 0, .slice pl i cl] 54, blk b [.slice pp lc.length pc, i64 e, .slice pv vl.length cv] 83, blk g4 ty54.zero 54]) (fun i => m - i) 0 (by exact ⟨rfl, trivial⟩) (Δ0 := _) ?_ (⟨.refl _, Nat.zero_le _, l3, [], p3, c3, none, 0, [], hS.symm, hF3, rfl, hl3, Rows_.nil _ _ _, rfl⟩) ?_
            · exact zE
            rintro i δ σ1 _ ⟨hs1, hi, lc, acc, pp, pc, pl, cl, rows, hSi, hFc, hacc, hlc, hrows, rfl⟩
            dsimp only [ovr, List.foldl]
            have hi : i ≤ m := hi
            have hv1 := hv.mono hs1 (fun _ _ h => h)
            by_cases hlt : i < m
            · obtain ⟨j, hj⟩ : ∃ j, m - i = j + 1 := ⟨m - i - 1, by omega⟩
              rw [hj, subsA] at hSi
              cases hx : exprP vl e f lc with
              | error x =>
                rw [hx] at hSi
                simp only at hSi
                rw [hSi] at hR
                refine zS (zR (zO rfl (Rd.lss rfl rfl) ?_)); refine zN (zT (zS (XA.condT rfl (by first | rfl | exact decide_eq_true (by omega)) ?_))); refine XA.skip (zT (zS (XA.block ?_)))
                refine XA.draw (by kernel_rfl) _ _ [7, 9] [(0, .pu), (1, .rd), (2, .pu), (3, .pu), (4, .pu), (5, .wr), (6, .wr), (7, .wr), (8, .pu), (9, .wr)] (by kernel_rfl) (PH.sub.refl _) (Ent.sel (R := blk g5 _ _) zL (Ent.nil _)) ?_
                refine zu rfl rfl (Rd.fA rfl) ?_; refine XPA.rd rfl rfl Gd.free (Rd.ldC rfl (tyrow rfl) rfl) ?_; refine zu rfl rfl Rd.mv ?_; refine zu rfl rfl Rd.mv ?_; refine zu rfl rfl zI ?_
                refine XPA.die rfl rfl Gd.free (ih.bad hv1 hlc hFc (by omega) (by omega) hx) rfl ?_
                rintro _ σ2 _ ⟨rfl, hs2, cs2, rfl⟩
                refine DA.cl ?_
                repeat (first | refine DA.thn_panic ?_ | refine DA.inb_panic ?_)
                exact bodyA.panic zE ⟨_, hR0.trans hR.symm, rfl, hs1.trans hs2, _, rfl⟩
              | ok y =>
                obtain ⟨x, l'⟩ := y
                rw [hx] at hSi
                simp only at hSi
                refine zS (zR (zO rfl (Rd.lss rfl rfl) ?_)); refine zN (zT (zS (XA.condT rfl (by first | rfl | exact decide_eq_true (by omega)) ?_))); refine XA.skip (zT (zS (XA.block ?_)))
                refine XA.draw (by kernel_rfl) _ _ [7, 9] [(0, .pu), (1, .rd), (2, .pu), (3, .pu), (4, .pu), (5, .wr), (6, .wr), (7, .wr), (8, .pu), (9, .wr)] (by kernel_rfl) (PH.sub.refl _) (Ent.sel (R := blk g5 _ _) zL (Ent.nil _)) ?_
                refine zu rfl rfl (Rd.fA rfl) ?_; refine XPA.rd rfl rfl Gd.free (Rd.ldC rfl (tyrow rfl) rfl) ?_; refine zu rfl rfl Rd.mv ?_; refine zu rfl rfl Rd.mv ?_; refine zu rfl rfl zI ?_
                refine XPA.wr0 rfl rfl Gd.free (WrA.cE (ih.ok hv1 hlc hFc (by omega) (by omega) hx) rfl) ?_
                rintro _ σ2 _ ⟨_, ⟨cs2, p', c', rfl, hcs2, hl', hs2, rfl⟩, rfl⟩
                refine stays (XPA.cl ?_)
                have hl2' := hcs2.len
                have hone2 := hcs2.ones
                refine XPA.wr0 rfl rfl Gd.free (WrA.bs1 (tyrow rfl) rfl (tyrow rfl)) ?_
                rintro _ _ _ ⟨g38, rfl, rfl, rfl⟩
                refine stays ?_
                refine XPA.wrZ0 rfl rfl Gd.free (by kernel_rfl) (WrA.ap1 (tyrow rfl) rfl (tyrow rfl) rfl rfl rfl) ?_
                rintro _ _ _ ⟨p39, c39, rfl, rfl, rfl⟩
                refine zu rfl rfl (Rd.fA rfl) ?_
                refine XPA.wrZ0 rfl rfl Gd.free (by kernel_rfl) (WrA.st (tyrow rfl) rfl) ?_
                rintro _ _ _ ⟨rfl, rfl, rfl⟩
                refine XPA.nil ?_; refine DA.inb_normal (zT (zR (zO rfl zI ?_))); refine yA ?_; refine zN (zT ?_)
                have hnew : Rows_ 4 ExAt σ2 (rows ++ [cs2]) (acc ++ [x]) := (hrows.mono (fun _ _ h => h.mono hs2)).snoc hl2' hcs2
                refine ⟨(Keep.upd (Keep.upd (Keep.updN (Keep.upd (Keep.updO (Keep.updO (Keep.updO (Keep.upd (Keep.upd (Keep.upd (Keep.upd (Keep.upd (Keep.upd (Keep.upd (Keep.hav (Keep.refl _ _) rfl) rfl) rfl) rfl) rfl) rfl) rfl) rfl) rfl) rfl) rfl) rfl)) rfl) rfl), i + 1, _, zM, ?_, ⟨hs1.trans hs2, hlt, l', acc ++ [x], p', c', p39, c39, rows ++ [cs2], (by rw [hSi, show m - (i + 1) = j by omega]), (fun t ht => hFc t (exprP_mem f _ _ _ hx t ht)), (by rw [List.length_append, hacc]; rfl), hl', hnew, rfl⟩, (by omega)⟩
                · rw [flatS]; exact zE
            · have him : i = m := by omega
              subst him
              rw [Nat.sub_self, subsA] at hSi
              rw [hSi] at hR
              simp only at hR
              rw [closeP] at hR
              refine zS (zR (zO rfl (Rd.lss rfl rfl) ?_)); refine zN (zT (zS (XA.condF rfl (by first | rfl | exact decide_eq_false (by omega)) ?_))); refine XA.exit (DA.thn_exit (DA.thn_exit (DA.inb_same (zT (zS (zR (yA ?_)))))))
              cases hc : isT rpar lc with
              | false =>
                rw [if_neg (by rw [hc]; exact Bool.noConfusion)] at hR
                refine XOA.die rfl (want_bad σ1 b pp pc e _ lc rpar hlc hc) rfl ?_
                rintro _ _ _ ⟨rfl, rfl, rfl⟩
                refine DA.cl ?_
                repeat (first | refine DA.thn_panic ?_ | refine DA.inb_panic ?_)
                exact bodyA.panic zE ⟨_, hR0.trans hR.symm, rfl, hs1, _, rfl⟩
              | true =>
                obtain ⟨t4, l4, rfl⟩ := isT_cons hc
                rw [if_pos hc, List.tail_cons] at hR
                refine zw rfl (WrA.cE (want_ok σ1 b pp pc e _ t4 l4 rpar hlc hc) rfl) ?_
                rintro _ _ _ ⟨_, ⟨rfl, p5, c5, hl5, rfl, rfl⟩, rfl⟩
                refine XOA.cl ?_; refine zN (zT (zS (zR (zO rfl (Rd.ldA rfl) ?_)))); refine zw rfl (WrA.st (tyrow rfl) rfl) ?_
                rintro _ _ _ ⟨rfl, rfl, rfl⟩
                refine zN (zT (XA.ret ?_)); refine DA.frz (R := lst 54 4 _ _ _) zL lst_frz lst_frz_mono ?_
                rintro σ3 ⟨⟩ hf hs3
                have hfin : ExAt σ3 [i64 ((3 : Nat) : Int), i64 (i3 : Int), i64 0, .slice pl i cl] (.mk ((3 : Nat) : Int) (i3 : Int) 0 acc) := ExAt.of ⟨by omega, by omega⟩ ⟨by omega, by omega⟩ ⟨by decide, by decide⟩ ((hrows.mono (fun _ _ h => h.mono hs3)).psl hacc.symm hf)
                exact bodyA.ret (ResA.cell rfl rfl (Ld.atBlk (tyrow rfl) rfl zL rfl (by first | exact take0 (by first | rfl | assumption | (refine (ints_len _).trans ?_; assumption) | (simp [*]; (first | done | fail))) | assumption | exact take_app (by first | rfl | assumption | (refine (ints_len _).trans ?_; assumption) | (simp [*]; (first | done | fail))) | (conv => lhs; simp only [List.drop_succ_cons, List.drop_zero, List.take_succ_cons, List.take_zero])) (by first | rfl | assumption | (refine (ints_len _).trans ?_; assumption) | (simp [*]; (first | done | fail))))) zE ⟨_, l4, hR0.trans hR.symm, _, p5, c5, rfl, hfin, hl5.mono hs3 (fun _ _ h => h), hs1.trans hs3, rfl⟩
        rw [headP, if_neg q1, if_neg (by omega)] at hR
        simp only at hR
        refine XA.condF rfl (by first | rfl | exact decide_eq_false (by omega)) ?_; refine zS (zS (zR (yE ?_))); refine yS ?_; refine zN (zT (XA.condF rfl (by first | rfl | exact decide_eq_false (by omega)) ?_)); refine zR (yE ?_); refine yS ?_
        refine zN (zT (XA.condF rfl (by first | rfl | exact decide_eq_false (by omega)) ?_)); refine XA.skip (DA.inb_normal (zT (zS (zS (zR (yV ?_)))))); refine yB ?_
        refine yC (parts_a σ (k : Int)) ?_; refine yA ?_; refine zN (zT (XA.block ?_))
        obtain ⟨m, hm⟩ : ∃ m : Nat, partsOf (k : Int) = m := ⟨(partsOf (k : Int)).toNat, by have := partsOf_ge (k := (k : Int)) (by omega) (by omega); omega⟩
        have hm2 : m ≤ 2 := by have := partsOf_le (k : Int); omega
        rw [hm] at hR ⊢
        rw [Int.toNat_natCast] at hR
        obtain ⟨S, hS⟩ : ∃ S, subsA (exprP vl e f) m l2 [] = S := ⟨_, rfl⟩
        rw [hS] at hR
        refine XA.gen [(0, _), (1, _), (4, _), (5, _), (29, _), (30, _)] ⟨(by with_reducible (conv => lhs; whnf)), (by with_reducible (conv => lhs; whnf)), (by with_reducible (conv => lhs; whnf)), (by with_reducible (conv => lhs; whnf)), (by with_reducible (conv => lhs; whnf)), (by with_reducible (conv => lhs; whnf)), trivial⟩ (fun δ => ?_)
        dsimp only [List.foldl]
        refine XA.loop [(30, 41)] (fun i : Nat => [(30, i64 i)]) (fun i σ' Γ' => σ.sub σ' ∧ i ≤ m ∧ ∃ (lc : List Tk) (acc : List Ex) (pp : Option Addr) (pc : Nat) (pl : Option Addr) (cl : Nat) (rows : List (List Value)), S = subsA (exprP vl e f) (m - i) lc acc ∧ (∀ t ∈ lc, TkF t) ∧ acc.length = i ∧ PSl 4 rTk σ' (.slice pp lc.length pc) lc ∧ Rows_ 4 ExAt σ' rows acc ∧ Γ' = [lst 54 4 (.slice pl i cl) i rows.flatten, blk g5 [i64 (k : Int), i64 0, i64 0, .slice pl i cl] 54, blk b [.slice pp lc.length pc, i64 e, .slice pv vl.length cv] 83, blk g4 ty54.zero 54]) (fun i => m - i) 0 (by exact ⟨rfl, trivial⟩) (Δ0 := _) ?_ (⟨.refl _, Nat.zero_le _, l2, [], p2, c2, none, 0, [], hS.symm, hF2, rfl, hl2, Rows_.nil _ _ _, rfl⟩) ?_
        · exact zE
        rintro i δ σ1 _ ⟨hs1, hi, lc, acc, pp, pc, pl, cl, rows, hSi, hFc, hacc, hlc, hrows, rfl⟩
        dsimp only [ovr, List.foldl]
        have hi : i ≤ m := hi
        have hv1 := hv.mono hs1 (fun _ _ h => h)
        by_cases hlt : i < m
        · obtain ⟨j, hj⟩ : ∃ j, m - i = j + 1 := ⟨m - i - 1, by omega⟩
          rw [hj, subsA] at hSi
          cases hx : exprP vl e f lc with
          | error x =>
            rw [hx] at hSi
            simp only at hSi
            rw [hSi] at hR
            refine zS (zR (zO rfl (Rd.lss rfl rfl) ?_)); refine zN (zT (zS (XA.condT rfl (by first | rfl | exact decide_eq_true (by omega)) ?_))); refine XA.skip (zT (zS (XA.block ?_)))
            refine XA.draw (by kernel_rfl) _ _ [7, 9] [(0, .pu), (1, .rd), (2, .pu), (3, .pu), (4, .pu), (5, .wr), (6, .wr), (7, .wr), (8, .pu), (9, .wr)] (by kernel_rfl) (PH.sub.refl _) (Ent.sel (R := blk g5 _ _) zL (Ent.nil _)) ?_
            refine zu rfl rfl (Rd.fA rfl) ?_; refine XPA.rd rfl rfl Gd.free (Rd.ldC rfl (tyrow rfl) rfl) ?_; refine zu rfl rfl Rd.mv ?_; refine zu rfl rfl Rd.mv ?_; refine zu rfl rfl zI ?_
            refine XPA.die rfl rfl Gd.free (ih.bad hv1 hlc hFc (by omega) (by omega) hx) rfl ?_
            rintro _ σ2 _ ⟨rfl, hs2, cs2, rfl⟩
            refine DA.cl ?_
            repeat (first | refine DA.thn_panic ?_ | refine DA.inb_panic ?_)
            exact bodyA.panic zE ⟨_, hR0.trans hR.symm, rfl, hs1.trans hs2, _, rfl⟩
          | ok y =>
            obtain ⟨x, l'⟩ := y
            rw [hx] at hSi
            simp only at hSi
            refine zS (zR (zO rfl (Rd.lss rfl rfl) ?_)); refine zN (zT (zS (XA.condT rfl (by first | rfl | exact decide_eq_true (by omega)) ?_))); refine XA.skip (zT (zS (XA.block ?_)))
            refine XA.draw (by kernel_rfl) _ _ [7, 9] [(0, .pu), (1, .rd), (2, .pu), (3, .pu), (4, .pu), (5, .wr), (6, .wr), (7, .wr), (8, .pu), (9, .wr)] (by kernel_rfl) (PH.sub.refl _) (Ent.sel (R := blk g5 _ _) zL (Ent.nil _)) ?_
            refine zu rfl rfl (Rd.fA rfl) ?_; refine XPA.rd rfl rfl Gd.free (Rd.ldC rfl (tyrow rfl) rfl) ?_; refine zu rfl rfl Rd.mv ?_; refine zu rfl rfl Rd.mv ?_; refine zu rfl rfl zI ?_
            refine XPA.wr0 rfl rfl Gd.free (WrA.cE (ih.ok hv1 hlc hFc (by omega) (by omega) hx) rfl) ?_
            rintro _ σ2 _ ⟨_, ⟨cs2, p', c', rfl, hcs2, hl', hs2, rfl⟩, rfl⟩
            refine stays (XPA.cl ?_)
            have hl2' := hcs2.len
            have hone2 := hcs2.ones
            refine XPA.wr0 rfl rfl Gd.free (WrA.bs1 (tyrow rfl) rfl (tyrow rfl)) ?_
            rintro _ _ _ ⟨g38, rfl, rfl, rfl⟩
            refine stays ?_
            refine XPA.wrZ0 rfl rfl Gd.free (by kernel_rfl) (WrA.ap1 (tyrow rfl) rfl (tyrow rfl) rfl rfl rfl) ?_
            rintro _ _ _ ⟨p39, c39, rfl, rfl, rfl⟩
            refine zu rfl rfl (Rd.fA rfl) ?_
            refine XPA.wrZ0 rfl rfl Gd.free (by kernel_rfl) (WrA.st (tyrow rfl) rfl) ?_
            rintro _ _ _ ⟨rfl, rfl, rfl⟩
            refine XPA.nil ?_; refine DA.inb_normal (zT (zR (zO rfl zI ?_))); refine yA ?_; refine zN (zT ?_)
            have hnew : Rows_ 4 ExAt σ2 (rows ++ [cs2]) (acc ++ [x]) := (hrows.mono (fun _ _ h => h.mono hs2)).snoc hl2' hcs2
            refine ⟨(Keep.upd (Keep.upd (Keep.updN (Keep.upd (Keep.updO (Keep.updO (Keep.updO (Keep.upd (Keep.upd (Keep.upd (Keep.upd (Keep.upd (Keep.upd (Keep.upd (Keep.hav (Keep.refl _ _) rfl) rfl) rfl) rfl) rfl) rfl) rfl) rfl) rfl) rfl) rfl) rfl)) rfl) rfl), i + 1, _, zM, ?_, ⟨hs1.trans hs2, hlt, l', acc ++ [x], p', c', p39, c39, rows ++ [cs2], (by rw [hSi, show m - (i + 1) = j by omega]), (fun t ht => hFc t (exprP_mem f _ _ _ hx t ht)), (by rw [List.length_append, hacc]; rfl), hl', hnew, rfl⟩, (by omega)⟩
            · rw [flatS]; exact zE
        · have him : i = m := by omega
          subst him
          rw [Nat.sub_self, subsA] at hSi
          rw [hSi] at hR
          simp only at hR
          rw [closeP] at hR
          refine zS (zR (zO rfl (Rd.lss rfl rfl) ?_)); refine zN (zT (zS (XA.condF rfl (by first | rfl | exact decide_eq_false (by omega)) ?_))); refine XA.exit (DA.thn_exit (DA.thn_exit (DA.inb_same (zT (zS (zR (yA ?_)))))))
          cases hc : isT rpar lc with
          | false =>
            rw [if_neg (by rw [hc]; exact Bool.noConfusion)] at hR
            refine XOA.die rfl (want_bad σ1 b pp pc e _ lc rpar hlc hc) rfl ?_
            rintro _ _ _ ⟨rfl, rfl, rfl⟩
            refine DA.cl ?_
            repeat (first | refine DA.thn_panic ?_ | refine DA.inb_panic ?_)
            exact bodyA.panic zE ⟨_, hR0.trans hR.symm, rfl, hs1, _, rfl⟩
          | true =>
            obtain ⟨t4, l4, rfl⟩ := isT_cons hc
            rw [if_pos hc, List.tail_cons] at hR
            refine zw rfl (WrA.cE (want_ok σ1 b pp pc e _ t4 l4 rpar hlc hc) rfl) ?_
            rintro _ _ _ ⟨_, ⟨rfl, p5, c5, hl5, rfl, rfl⟩, rfl⟩
            refine XOA.cl ?_; refine zN (zT (zS (zR (zO rfl (Rd.ldA rfl) ?_)))); refine zw rfl (WrA.st (tyrow rfl) rfl) ?_
            rintro _ _ _ ⟨rfl, rfl, rfl⟩
            refine zN (zT (XA.ret ?_)); refine DA.frz (R := lst 54 4 _ _ _) zL lst_frz lst_frz_mono ?_
            rintro σ3 ⟨⟩ hf hs3
            have hfin : ExAt σ3 [i64 (k : Int), i64 0, i64 0, .slice pl i cl] (.mk (k : Int) 0 0 acc) := ExAt.of ⟨by omega, by omega⟩ ⟨by decide, by decide⟩ ⟨by decide, by decide⟩ ((hrows.mono (fun _ _ h => h.mono hs3)).psl hacc.symm hf)
            exact bodyA.ret (ResA.cell rfl rfl (Ld.atBlk (tyrow rfl) rfl zL rfl (by first | exact take0 (by first | rfl | assumption | (refine (ints_len _).trans ?_; assumption) | (simp [*]; (first | done | fail))) | assumption | exact take_app (by first | rfl | assumption | (refine (ints_len _).trans ?_; assumption) | (simp [*]; (first | done | fail))) | (conv => lhs; simp only [List.drop_succ_cons, List.drop_zero, List.take_succ_cons, List.take_zero])) (by first | rfl | assumption | (refine (ints_len _).trans ?_; assumption) | (simp [*]; (first | done | fail))))) zE ⟨_, l4, hR0.trans hR.symm, _, p5, c5, rfl, hfin, hl5.mono hs3 (fun _ _ h => h), hs1.trans hs3, rfl⟩
end Go.Proofs.YthefnnkmpcgcmaaDoor

namespace Go.Proofs.YthefnnkmpcgcmaaDoor
open Go X
def bindP {α β : Type} (a : PR α) (k : α → List Tk → PR β) : PR β := match a with
  | .error x => .error x
  | .ok (x, l) => k x l
theorem bindP_ok {α β : Type} {a : PR α} {k : α → List Tk → PR β} {y : β} {l' : List Tk} (h : bindP a k = .ok (y, l')) : ∃ x l, a = .ok (x, l) ∧ k x l = .ok (y, l') := by
  cases a with
  | error x => cases h
  | ok z => obtain ⟨x, l⟩ := z; exact ⟨x, l, rfl, h⟩
def zeroX : Ex := .mk 0 0 0 []
def listG (S : List Tk → PR St) : Nat → List Tk → List St → PR (List St)
  | 0, _, _ => .error (0, 0)
  | g + 1, l, acc => if isT rpar l = true then .ok (acc, l.tail) else match S l with
    | .error x => .error x
    | .ok (s, l1) => listG S g l1 (acc ++ [s])
def listP (S : List Tk → PR St) (e : Int) (l : List Tk) : PR (List St) := if isT lpar l = true then listG S (l.tail.length + 1) l.tail [] else .error (failAt e l 5)
def optP {α : Type} (b : Bool) (z : α) (a : List Tk → PR α) (l : List Tk) : PR α := if b = true then a l else .ok (z, l)
def stmtP (vl : List Va) (e : Int) : Nat → List Tk → PR St
  | 0, l => .error (failAt e l 4)
  | f + 1, l => if isT lpar l = true then match pickT verbOf 7 l.tail with
      | none => .error (failAt e l.tail 5)
      | some k => bindP (optP (needV k) 0 (varP vl e) l.tail.tail) fun v l3 => bindP (optP (needE k) zeroX (exprP vl e f) l3) fun x l4 => bindP (optP (needF k) zeroX (exprP vl e f) l4) fun y l5 =>
          bindP (optP (needB k) [] (listP (stmtP vl e f) e) l5) fun bd l6 => bindP (optP (needO k) [] (listP (stmtP vl e f) e) l6) fun el l7 => closeP e (.mk k v x y bd el) l7
    else .error (failAt e l 5)
def Sub (l' l : List Tk) : Prop := (∀ t ∈ l', t ∈ l) ∧ l'.length ≤ l.length
theorem Sub.refl (l : List Tk) : Sub l l := ⟨fun _ h => h, Nat.le_refl _⟩
theorem Sub.trans {a b c : List Tk} (h : Sub a b) (k : Sub b c) : Sub a c := ⟨fun t ht => k.1 t (h.1 t ht), Nat.le_trans h.2 k.2⟩
theorem Sub.tail (l : List Tk) : Sub l.tail l := ⟨fun _ h => mem_tail h, by rw [List.length_tail]; omega⟩
theorem numP_sub {e : Int} {l l' : List Tk} {n : Int} (h : numP e l = .ok (n, l')) : Sub l' l := by
  obtain ⟨t, rfl, -, -⟩ := numP_ok h; exact Sub.tail (t :: l')
theorem varP_sub {vl : List Va} {e : Int} {l l' : List Tk} {n : Int} (h : varP vl e l = .ok (n, l')) : Sub l' l := by
  obtain ⟨t, i, rfl, -, -, -⟩ := varP_ok h; exact Sub.tail (t :: l')
theorem closeP_sub {α : Type} {e : Int} {x y : α} {l l' : List Tk} (h : closeP e x l = .ok (y, l')) : Sub l' l := by
  rw [closeP] at h
  split at h
  · cases h; exact Sub.tail l
  · cases h
theorem headP_sub {vl : List Va} {e : Int} {k : Nat} {l l' : List Tk} {vn : Int × Int} (h : headP vl e k l = .ok (vn, l')) : Sub l' l := by
  rw [headP] at h
  split at h
  · cases q : numP e l with
    | error x => rw [q] at h; cases h
    | ok y => obtain ⟨n, r⟩ := y; rw [q] at h; cases h; exact numP_sub q
  · split at h
    · cases q : varP vl e l with
      | error x => rw [q] at h; cases h
      | ok y => obtain ⟨n, r⟩ := y; rw [q] at h; cases h; exact varP_sub q
    · cases h; exact Sub.refl _
theorem subsA_sub {α : Type} {E : List Tk → PR α} (hE : ∀ l x l', E l = .ok (x, l') → Sub l' l) : ∀ (m : Nat) (l : List Tk) (acc xs : List α) (l' : List Tk), subsA E m l acc = .ok (xs, l') → Sub l' l
  | 0, l, acc, xs, l', h => by cases h; exact Sub.refl _
  | m + 1, l, acc, xs, l', h => by
    rw [subsA] at h
    cases q : E l with
    | error x => rw [q] at h; cases h
    | ok y =>
      obtain ⟨x, l1⟩ := y
      rw [q] at h
      exact (subsA_sub hE m l1 _ xs l' h).trans (hE l x l1 q)
theorem exprP_sub {vl : List Va} {e : Int} : ∀ (f : Nat) (l : List Tk) (x : Ex) (l' : List Tk), exprP vl e f l = .ok (x, l') → Sub l' l
  | 0, l, x, l', h => by cases h
  | f + 1, l, x, l', h => by
    rw [exprP] at h
    split at h
    · cases hk : pickT wordOf 8 l.tail with
      | none => rw [hk] at h; cases h
      | some k =>
        rw [hk] at h
        simp only at h
        cases hh : headP vl e k l.tail.tail with
        | error x => rw [hh] at h; cases h
        | ok y =>
          obtain ⟨vn, l3⟩ := y
          rw [hh] at h
          simp only at h
          cases hs : subsA (exprP vl e f) (partsOf k).toNat l3 [] with
          | error x => rw [hs] at h; cases h
          | ok z =>
            obtain ⟨xs, l4⟩ := z
            rw [hs] at h
            simp only at h
            exact ((closeP_sub h).trans (subsA_sub (exprP_sub f) _ _ _ _ _ hs)).trans ((headP_sub hh).trans ((Sub.tail _).trans (Sub.tail _)))
    · cases h
theorem listG_sub {S : List Tk → PR St} (hS : ∀ l x l', S l = .ok (x, l') → Sub l' l) : ∀ (g : Nat) (l : List Tk) (acc xs : List St) (l' : List Tk), listG S g l acc = .ok (xs, l') → Sub l' l
  | 0, l, acc, xs, l', h => by cases h
  | g + 1, l, acc, xs, l', h => by
    rw [listG] at h
    split at h
    · cases h; exact Sub.tail _
    · cases q : S l with
      | error x => rw [q] at h; cases h
      | ok y =>
        obtain ⟨x, l1⟩ := y
        rw [q] at h
        exact (listG_sub hS g l1 _ xs l' h).trans (hS l x l1 q)
theorem listP_sub {S : List Tk → PR St} {e : Int} (hS : ∀ l x l', S l = .ok (x, l') → Sub l' l) {l l' : List Tk} {xs : List St} (h : listP S e l = .ok (xs, l')) : Sub l' l := by
  rw [listP] at h
  split at h
  · exact (listG_sub hS _ _ _ _ _ h).trans (Sub.tail _)
  · cases h
theorem optP_sub {α : Type} {b : Bool} {z x : α} {a : List Tk → PR α} {l l' : List Tk} (ha : ∀ l x l', a l = .ok (x, l') → Sub l' l) (h : optP b z a l = .ok (x, l')) : Sub l' l := by
  rw [optP] at h
  split at h
  · exact ha _ _ _ h
  · cases h; exact Sub.refl _
theorem stmtP_sub {vl : List Va} {e : Int} : ∀ (f : Nat) (l : List Tk) (x : St) (l' : List Tk), stmtP vl e f l = .ok (x, l') → Sub l' l ∧ l'.length < l.length
  | 0, l, x, l', h => by cases h
  | f + 1, l, x, l', h => by
    rw [stmtP] at h
    split at h
    · rename_i hq
      obtain ⟨t, r, rfl⟩ := isT_cons hq
      rw [List.tail_cons] at h
      cases hk : pickT verbOf 7 r with
      | none => rw [hk] at h; cases h
      | some k =>
        rw [hk] at h
        simp only at h
        obtain ⟨v, l3, h3, h⟩ := bindP_ok h
        obtain ⟨x1, l4, h4, h⟩ := bindP_ok h
        obtain ⟨x2, l5, h5, h⟩ := bindP_ok h
        obtain ⟨x3, l6, h6, h⟩ := bindP_ok h
        obtain ⟨x4, l7, h7, h⟩ := bindP_ok h
        have hS : ∀ l x l', stmtP vl e f l = .ok (x, l') → Sub l' l := fun l x l' h => (stmtP_sub f l x l' h).1
        have hr : Sub l' r := (closeP_sub h).trans ((optP_sub (fun _ _ _ => listP_sub hS) h7).trans ((optP_sub (fun _ _ _ => listP_sub hS) h6).trans ((optP_sub (exprP_sub f) h5).trans ((optP_sub (exprP_sub f) h4).trans ((optP_sub (fun _ _ _ => varP_sub) h3).trans (Sub.tail _))))))
        exact ⟨hr.trans (Sub.tail (t :: r)), by have := hr.2; simp only [List.length_cons]; omega⟩
    · cases h
theorem listG_fuel {S : List Tk → PR St} (hS : ∀ l x l', S l = .ok (x, l') → l'.length < l.length) : ∀ (g g' : Nat) (l : List Tk) (acc : List St), l.length < g → l.length < g' → listG S g l acc = listG S g' l acc
  | 0, g', l, acc, h, h' => by omega
  | g + 1, 0, l, acc, h, h' => by omega
  | g + 1, g' + 1, l, acc, h, h' => by
    rw [listG, listG]
    split
    · rfl
    · cases q : S l with
      | error x => rfl
      | ok y =>
        obtain ⟨x, l1⟩ := y
        have := hS l x l1 q
        exact listG_fuel hS g g' l1 _ (by omega) (by omega)
theorem zeroX_at (σ : PH) : ExAt σ [i64 0, i64 0, i64 0, .slice none 0 0] zeroX := ExAt.of ⟨by decide, by decide⟩ ⟨by decide, by decide⟩ ⟨by decide, by decide⟩ (PSl.nil _ _ _)
end Go.Proofs.YthefnnkmpcgcmaaDoor

namespace Go.Proofs.YthefnnkmpcgcmaaDoor
open Go X
set_option maxHeartbeats 4000000
set_option maxRecDepth 4000
def StmtPOK (vl : List Va) (e : Int) (f : Nat) : Prop := ∀ (σ : PH) (b : Nat) (p : Option Addr) (c : Nat) (pv : Option Addr) (cv : Nat) (l : List Tk) (d : Int), PSl 2 rVa σ (.slice pv vl.length cv) vl → PSl 4 rTk σ (.slice p l.length c) l → (∀ t ∈ l, TkF t) → d + f = 13 → 0 ≤ d → l.length ≤ 10000 →
  CallsA Tryd.prog 67 #[ptr b, i64 d] σ [blk b [.slice p l.length c, i64 e, .slice pv vl.length cv] 83] (EndA
    (fun v σ' Γ' => ∃ x l', stmtP vl e f l = .ok (x, l') ∧ ∃ cs p' c', v = .agg (List.toArray cs) ∧ StAt σ' cs x ∧ PSl 4 rTk σ' (.slice p' l'.length c') l' ∧ σ.sub σ' ∧ Γ' = [blk b [.slice p' l'.length c', i64 e, .slice pv vl.length cv] 83])
    (fun ch σ' Γ' => ∃ x, stmtP vl e f l = .error x ∧ ch = goneP x ∧ σ.sub σ' ∧ ∃ cs, Γ' = [blk b cs 83]))
theorem StmtPOK.ok {vl : List Va} {e : Int} {f : Nat} (h : StmtPOK vl e f) {σ : PH} {b : Nat} {p : Option Addr} {c : Nat} {pv : Option Addr} {cv : Nat} {l : List Tk} {d : Int} (hv : PSl 2 rVa σ (.slice pv vl.length cv) vl) (hl : PSl 4 rTk σ (.slice p l.length c) l) (hF : ∀ t ∈ l, TkF t) (hd : d + f = 13) (hd0 : 0 ≤ d) (hL : l.length ≤ 10000) {x} {l' : List Tk} (ho : stmtP vl e f l = .ok (x, l')) :
    CallsA Tryd.prog 67 #[ptr b, i64 d] σ [blk b [.slice p l.length c, i64 e, .slice pv vl.length cv] 83] (RetA fun v σ' Γ' => ∃ cs p' c', v = .agg (List.toArray cs) ∧ StAt σ' cs x ∧ PSl 4 rTk σ' (.slice p' l'.length c') l' ∧ σ.sub σ' ∧ Γ' = [blk b [.slice p' l'.length c', i64 e, .slice pv vl.length cv] 83]) := by
  refine (h σ b p c pv cv l d hv hl hF hd hd0 hL).mono fun en σ' Γ' hr => ?_
  cases en with
  | returned v =>
    obtain ⟨x', l'', h1, h2⟩ := hr
    rw [ho] at h1
    cases h1
    exact h2
  | panicked ch => obtain ⟨x', h1, -⟩ := hr; rw [ho] at h1; cases h1
  | outgrown => exact False.elim hr
theorem StmtPOK.bad {vl : List Va} {e : Int} {f : Nat} (h : StmtPOK vl e f) {σ : PH} {b : Nat} {p : Option Addr} {c : Nat} {pv : Option Addr} {cv : Nat} {l : List Tk} {d : Int} (hv : PSl 2 rVa σ (.slice pv vl.length cv) vl) (hl : PSl 4 rTk σ (.slice p l.length c) l) (hF : ∀ t ∈ l, TkF t) (hd : d + f = 13) (hd0 : 0 ≤ d) (hL : l.length ≤ 10000) {x : Int × Int} (ho : stmtP vl e f l = .error x) :
    CallsA Tryd.prog 67 #[ptr b, i64 d] σ [blk b [.slice p l.length c, i64 e, .slice pv vl.length cv] 83] (PanA fun ch σ' Γ' => ch = goneP x ∧ σ.sub σ' ∧ ∃ cs, Γ' = [blk b cs 83]) := by
  refine (h σ b p c pv cv l d hv hl hF hd hd0 hL).mono fun en σ' Γ' hr => ?_
  cases en with
  | returned v => obtain ⟨x', l'', h1, -⟩ := hr; rw [ho] at h1; cases h1
  | panicked ch =>
    obtain ⟨x', h1, h2⟩ := hr
    rw [ho] at h1
    cases h1
    exact h2
  | outgrown => exact False.elim hr
def ListPOK (vl : List Va) (e : Int) (f : Nat) : Prop := ∀ (σ : PH) (b : Nat) (p : Option Addr) (c : Nat) (pv : Option Addr) (cv : Nat) (l : List Tk) (d : Int), PSl 2 rVa σ (.slice pv vl.length cv) vl → PSl 4 rTk σ (.slice p l.length c) l → (∀ t ∈ l, TkF t) → d + f = 13 → 0 ≤ d → l.length ≤ 10000 →
  CallsA Tryd.prog 90 #[ptr b, i64 d] σ [blk b [.slice p l.length c, i64 e, .slice pv vl.length cv] 83] (EndA
    (fun v σ' Γ' => ∃ x l', listP (stmtP vl e f) e l = .ok (x, l') ∧ ∃ q m p' c', v = .slice q x.length m ∧ PSl 12 StAt σ' (.slice q x.length m) x ∧ PSl 4 rTk σ' (.slice p' l'.length c') l' ∧ σ.sub σ' ∧ Γ' = [blk b [.slice p' l'.length c', i64 e, .slice pv vl.length cv] 83])
    (fun ch σ' Γ' => ∃ x, listP (stmtP vl e f) e l = .error x ∧ ch = goneP x ∧ σ.sub σ' ∧ ∃ cs, Γ' = [blk b cs 83]))
theorem ListPOK.ok {vl : List Va} {e : Int} {f : Nat} (h : ListPOK vl e f) {σ : PH} {b : Nat} {p : Option Addr} {c : Nat} {pv : Option Addr} {cv : Nat} {l : List Tk} {d : Int} (hv : PSl 2 rVa σ (.slice pv vl.length cv) vl) (hl : PSl 4 rTk σ (.slice p l.length c) l) (hF : ∀ t ∈ l, TkF t) (hd : d + f = 13) (hd0 : 0 ≤ d) (hL : l.length ≤ 10000) {x} {l' : List Tk} (ho : listP (stmtP vl e f) e l = .ok (x, l')) :
    CallsA Tryd.prog 90 #[ptr b, i64 d] σ [blk b [.slice p l.length c, i64 e, .slice pv vl.length cv] 83] (RetA fun v σ' Γ' => ∃ q m p' c', v = .slice q x.length m ∧ PSl 12 StAt σ' (.slice q x.length m) x ∧ PSl 4 rTk σ' (.slice p' l'.length c') l' ∧ σ.sub σ' ∧ Γ' = [blk b [.slice p' l'.length c', i64 e, .slice pv vl.length cv] 83]) := by
  refine (h σ b p c pv cv l d hv hl hF hd hd0 hL).mono fun en σ' Γ' hr => ?_
  cases en with
  | returned v =>
    obtain ⟨x', l'', h1, h2⟩ := hr
    rw [ho] at h1
    cases h1
    exact h2
  | panicked ch => obtain ⟨x', h1, -⟩ := hr; rw [ho] at h1; cases h1
  | outgrown => exact False.elim hr
theorem ListPOK.bad {vl : List Va} {e : Int} {f : Nat} (h : ListPOK vl e f) {σ : PH} {b : Nat} {p : Option Addr} {c : Nat} {pv : Option Addr} {cv : Nat} {l : List Tk} {d : Int} (hv : PSl 2 rVa σ (.slice pv vl.length cv) vl) (hl : PSl 4 rTk σ (.slice p l.length c) l) (hF : ∀ t ∈ l, TkF t) (hd : d + f = 13) (hd0 : 0 ≤ d) (hL : l.length ≤ 10000) {x : Int × Int} (ho : listP (stmtP vl e f) e l = .error x) :
    CallsA Tryd.prog 90 #[ptr b, i64 d] σ [blk b [.slice p l.length c, i64 e, .slice pv vl.length cv] 83] (PanA fun ch σ' Γ' => ch = goneP x ∧ σ.sub σ' ∧ ∃ cs, Γ' = [blk b cs 83]) := by
  refine (h σ b p c pv cv l d hv hl hF hd hd0 hL).mono fun en σ' Γ' hr => ?_
  cases en with
  | returned v => obtain ⟨x', l'', h1, -⟩ := hr; rw [ho] at h1; cases h1
  | panicked ch =>
    obtain ⟨x', h1, h2⟩ := hr
    rw [ho] at h1
    cases h1
    exact h2
  | outgrown => exact False.elim hr
theorem list_p (vl : List Va) (e : Int) (f : Nat) (ih : StmtPOK vl e f) : ListPOK vl e f := by
  intro σ b p c pv cv l d hv hl hF hd hd0 hL
  obtain ⟨R, hR⟩ : ∃ R, listP (stmtP vl e f) e l = R := ⟨_, rfl⟩
  have hR0 := hR
  rw [listP] at hR
  refine enterA2 Tryd.func90 rfl rfl rfl ?_; refine zS (zR (yS ?_)); refine zN (zT (zS (zR (yA ?_))))
  cases hq : isT lpar l with
  | false =>
    rw [if_neg (by rw [hq]; exact Bool.noConfusion)] at hR
    refine XOA.die rfl (want_bad σ b p c e _ l lpar hl hq) rfl ?_
    rintro _ _ _ ⟨rfl, rfl, rfl⟩
    refine DA.cl ?_
    repeat (first | refine DA.thn_panic ?_ | refine DA.inb_panic ?_)
    exact bodyA.panic zE ⟨_, hR0.trans hR.symm, rfl, .refl _, _, rfl⟩
  | true =>
    obtain ⟨t1, l1, rfl⟩ := isT_cons hq
    rw [if_pos hq, List.tail_cons] at hR
    have hL1 : l1.length ≤ 10000 := by simp only [List.length_cons] at hL; omega
    have hF1 : ∀ t ∈ l1, TkF t := fun t ht => hF t (by simp [ht])
    refine zw rfl (WrA.cE (want_ok σ b p c e _ t1 l1 lpar hl hq) rfl) ?_
    rintro _ _ _ ⟨_, ⟨rfl, p1, c1, hl1, rfl, rfl⟩, rfl⟩
    refine XOA.cl ?_; refine zN (zT (zS (zR (yS ?_)))); refine zN (zT (zS (XA.block ?_)))
    refine XA.gen [(0, _), (1, _), (4, _), (5, _)] ⟨(by with_reducible (conv => lhs; whnf)), (by with_reducible (conv => lhs; whnf)), (by with_reducible (conv => lhs; whnf)), (by with_reducible (conv => lhs; whnf)), trivial⟩ (fun δ => ?_)
    dsimp only [List.foldl]
    refine XA.loop [(5, 5), (8, 16)] (fun q : (Nat × Nat) × (Option Addr × Nat) => [(5, .slice q.2.1 q.1.1 q.2.2)]) (fun q σ' Γ' => σ.sub σ' ∧ ∃ (lc : List Tk) (acc : List St) (pp : Option Addr) (pc : Nat) (rows : List (List Value)), R = listG (stmtP vl e f) (lc.length + 1) lc acc ∧ (∀ t ∈ lc, TkF t) ∧ lc.length = q.1.2 ∧ acc.length = q.1.1 ∧ q.1.1 + q.1.2 ≤ 10000 ∧ PSl 4 rTk σ' (.slice pp lc.length pc) lc ∧ Rows_ 12 StAt σ' rows acc ∧ Γ' = [lst 56 12 (.slice q.2.1 q.1.1 q.2.2) q.1.1 rows.flatten, blk b [.slice pp lc.length pc, i64 e, .slice pv vl.length cv] 83]) (fun q => q.1.2) ((0, l1.length), (none, 0)) (by exact ⟨rfl, trivial⟩) (Δ0 := _) ?_ (⟨.refl _, l1, [], p1, c1, [], hR.symm, hF1, rfl, rfl, by simpa using hL1, hl1, Rows_.nil _ _ _, rfl⟩) ?_
    · exact zE
    rintro ⟨⟨i, n⟩, ⟨pl, cl⟩⟩ δ σ1 _ ⟨hs1, lc, acc, pp, pc, rows, hRc, hFc, hn, hacc, hin, hlc, hrows, rfl⟩
    dsimp only [ovr, List.foldl]
    simp only at hn hacc hin
    subst hn
    have hv1 := hv.mono hs1 (fun _ _ h => h)
    rw [listG] at hRc
    cases hq2 : isT rpar lc with
    | true =>
      obtain ⟨t4, l4, rfl⟩ := isT_cons hq2
      rw [if_pos hq2, List.tail_cons] at hRc
      subst hacc
      refine zS (zS (zR (yA ?_))); refine zw rfl (WrA.cE (is_yes σ1 b pp pc e _ t4 l4 rpar hlc hq2) rfl) ?_
      rintro _ _ _ ⟨_, ⟨rfl, p5, c5, hl5, rfl, rfl⟩, rfl⟩
      refine XOA.cl ?_; refine zO rfl zJ ?_; refine zN (zT (yF rfl rfl (XA.exit (DA.thn_exit (DA.thn_exit (DA.inb_same (zT (zS (zR (yA ?_)))))))))); refine yS ?_; refine zN (zT (XA.ret ?_)); refine DA.frz (R := lst 56 12 _ _ _) zL lst_frz lst_frz_mono ?_
      rintro σ3 ⟨⟩ hf hs3
      exact bodyA.ret (ResA.one rfl rfl) zE ⟨acc, l4, hR0.trans hRc, pl, cl, p5, c5, rfl, (hrows.mono (fun _ _ h => h.mono hs3)).psl rfl hf, hl5.mono hs3 (fun _ _ h => h), hs1.trans hs3, rfl⟩
    | false =>
      rw [if_neg (by rw [hq2]; exact Bool.noConfusion)] at hRc
      refine zS (zS (zR (yA ?_))); refine yC (is_no σ1 b pp pc e _ lc rpar hlc hq2) ?_; refine zO rfl zJ ?_; refine zN (zT (yT rfl rfl (XA.skip (zT (XA.block (zR (yA ?_))))))); refine yA ?_; refine yA ?_
      cases hx : stmtP vl e f lc with
      | error x =>
        rw [hx] at hRc
        simp only at hRc
        refine XOA.die rfl (ih.bad hv1 hlc hFc hd hd0 (by omega) hx) rfl ?_
        rintro _ σ2 _ ⟨rfl, hs2, cs2, rfl⟩
        refine DA.cl ?_
        repeat (first | refine DA.thn_panic ?_ | refine DA.inb_panic ?_)
        exact bodyA.panic zE ⟨_, hR0.trans hRc, rfl, hs1.trans hs2, _, rfl⟩
      | ok y =>
        obtain ⟨x, l'⟩ := y
        rw [hx] at hRc
        simp only at hRc
        have hsb := stmtP_sub f _ _ _ hx
        have hRn : R = listG (stmtP vl e f) (l'.length + 1) l' (acc ++ [x]) := by
          rw [hRc]
          exact listG_fuel (fun l x l' h => (stmtP_sub f l x l' h).2) _ _ _ _ hsb.2 (by omega)
        have hlt := hsb.2
        refine zw rfl (WrA.cE (ih.ok hv1 hlc hFc hd hd0 (by omega) hx) rfl) ?_
        rintro _ σ2 _ ⟨_, ⟨cs2, p', c', rfl, hcs2, hl', hs2, rfl⟩, rfl⟩
        refine XOA.cl ?_
        have hl2' := hcs2.len
        have hone2 := hcs2.ones
        refine zw rfl (WrA.bs1 (tyrow rfl) rfl (tyrow rfl)) ?_
        rintro _ _ _ ⟨g15, rfl, rfl, rfl⟩
        refine zw rfl (WrA.ap1 (tyrow rfl) rfl (tyrow rfl) rfl rfl rfl) ?_
        rintro _ _ _ ⟨p16, c16, rfl, rfl, rfl⟩
        refine yS ?_; refine zN (DA.inb_normal (zT ?_))
        have hnew : Rows_ 12 StAt σ2 (rows ++ [cs2]) (acc ++ [x]) := (hrows.mono (fun _ _ h => h.mono hs2)).snoc hl2' hcs2
        refine ⟨(Keep.upd (Keep.updO (Keep.updO (Keep.updO (Keep.upd (Keep.upd (Keep.upd (Keep.upd (Keep.updO (Keep.upd (Keep.upd (Keep.hav (Keep.hav (Keep.refl _ _) rfl) rfl) rfl) rfl) rfl) rfl) rfl) rfl) rfl) rfl) rfl) rfl) rfl), ((i + 1, l'.length), (p16, c16)), _, zM, ?_, ⟨hs1.trans hs2, l', acc ++ [x], p', c', rows ++ [cs2], hRn, (fun t ht => hFc t (hsb.1.1 t ht)), rfl, (by rw [List.length_append, hacc]; rfl), (by show i + 1 + l'.length ≤ 10000; omega), hl', hnew, rfl⟩, (by show l'.length < lc.length; omega)⟩
        · rw [flatS]; exact zE
theorem stmt_p (vl : List Va) (e : Int) : ∀ f : Nat, StmtPOK vl e f
  | 0 => by
    intro σ b p c pv cv l d hv hl hF hd hd0 hL
    have hd : d = 13 := by simpa using hd
    subst hd
    refine enterA2 Tryd.func67 rfl rfl rfl ?_; refine zS (zR ?_); refine zw rfl (WrA.alloc (tyrow rfl)) ?_
    rintro _ _ _ ⟨g4, rfl, rfl, rfl⟩
    refine zN (zT (zS (zR (yA ?_)))); refine yA ?_
    refine XOA.die rfl (deep_bad σ b p c e _ 13 l hl (by decide)) rfl ?_
    rintro _ _ _ ⟨rfl, rfl, rfl⟩
    refine DA.cl ?_
    repeat (first | refine DA.thn_panic ?_ | refine DA.inb_panic ?_)
    exact bodyA.panic zE ⟨_, rfl, rfl, .refl _, _, rfl⟩
  | f + 1 => by
    intro σ b p c pv cv l d hv hl hF hd hd0 hL
    have ihl := list_p vl e f (stmt_p vl e f)
    have hd1 : d ≤ 12 := by omega
    obtain ⟨R, hR⟩ : ∃ R, stmtP vl e (f + 1) l = R := ⟨_, rfl⟩
    have hR0 := hR
    rw [stmtP] at hR
    refine enterA2 Tryd.func67 rfl rfl rfl ?_; refine zS (zR ?_); refine zw rfl (WrA.alloc (tyrow rfl)) ?_
    rintro _ _ _ ⟨g4, rfl, rfl, rfl⟩
    refine zN (zT (zS (zR (yA ?_)))); refine yA ?_; refine yC (deep_ok σ b d _ hd1) ?_; refine zN (zT (zS (zR (yA ?_))))
    cases hq : isT lpar l with
    | false =>
      rw [if_neg (by rw [hq]; exact Bool.noConfusion)] at hR
      refine XOA.die rfl (want_bad σ b p c e _ l lpar hl hq) rfl ?_
      rintro _ _ _ ⟨rfl, rfl, rfl⟩
      refine DA.cl ?_
      repeat (first | refine DA.thn_panic ?_ | refine DA.inb_panic ?_)
      exact bodyA.panic zE ⟨_, hR0.trans hR.symm, rfl, .refl _, _, rfl⟩
    | true =>
      obtain ⟨t1, l1, rfl⟩ := isT_cons hq
      rw [if_pos hq, List.tail_cons] at hR
      refine zw rfl (WrA.cE (want_ok σ b p c e _ t1 l1 lpar hl hq) rfl) ?_
      rintro _ _ _ ⟨_, ⟨rfl, p1, c1, hl1, rfl, rfl⟩, rfl⟩
      refine XOA.cl ?_; refine zN (zT (zS (zR (yA ?_))))
      cases hk : pickT verbOf 7 l1 with
      | none =>
        rw [hk] at hR
        refine XOA.die rfl (pick_bad σ b p1 c1 e _ 40 verbOf verb_p 7 (by decide) l1 hl1 (fun j a b => pickG_none 7 1 hk j a (by omega))) rfl ?_
        rintro _ _ _ ⟨rfl, rfl, rfl⟩
        refine DA.cl ?_
        repeat (first | refine DA.thn_panic ?_ | refine DA.inb_panic ?_)
        exact bodyA.panic zE ⟨_, hR0.trans hR.symm, rfl, .refl _, _, rfl⟩
      | some k =>
        rw [hk] at hR
        simp only at hR
        obtain ⟨k1, k2, k3, k4⟩ := pickG_some 7 1 hk
        have k2 : k ≤ 7 := by omega
        obtain ⟨t2, l2, rfl⟩ := isT_cons k3
        rw [List.tail_cons] at hR
        have hF2 : ∀ t ∈ l2, TkF t := fun t ht => hF t (by simp [ht])
        have hL2 : l2.length ≤ 10000 := by simp only [List.length_cons] at hL; omega
        refine zw rfl (WrA.cE (pick_ok σ b p1 c1 e _ 40 verbOf verb_p 7 k (by decide) t2 l2 hl1 k1 k2 k3 k4) rfl) ?_
        rintro _ _ _ ⟨_, ⟨rfl, p2, c2, hl2, rfl, rfl⟩, rfl⟩
        refine XOA.cl ?_; refine zO rfl (Rd.bl (fun _ _ => tyrow) rfl rfl rfl) ?_; refine zw rfl (WrA.alloc (tyrow rfl)) ?_
        rintro _ _ _ ⟨g5, rfl, rfl, rfl⟩
        refine zw rfl (WrA.st (tyrow rfl) rfl) ?_
        rintro _ _ _ ⟨rfl, rfl, rfl⟩
        refine zN (zT (zS (zR (yV ?_)))); refine yB ?_
        have hk7 : k = 1 ∨ k = 2 ∨ k = 3 ∨ k = 4 ∨ k = 5 ∨ k = 6 ∨ k = 7 := by omega
        rcases hk7 with hk0 | hk0 | hk0 | hk0 | hk0 | hk0 | hk0
        · skip
          subst hk0
          refine yC (chas_a σ ((1 : Nat) : Int)) ?_; refine yA ?_; (iterate 5 (refine zO rfl (Rd.extract rfl rfl) ?_)); (iterate 5 (refine yS ?_)); refine zN (zT (zS (zS (zR (yA ?_))))); refine zN (zT ?_)
          rw [optP, if_pos (by decide)] at hR
          refine yT rfl rfl (zR (yA ?_))
          cases hxv : varP vl e l2 with
          | error x =>
            rw [hxv] at hR
            simp only [bindP] at hR
            rcases varP_err hxv with ⟨rfl, hx⟩ | ⟨t3, l3, rfl, rfl, hx, hy⟩
            · skip
              refine XOA.die rfl (variable_bad σ b p2 c2 e _ pv vl.length cv l2 hl2 (fun t ht => (hF2 t ht).1) hx) rfl ?_
              rintro _ _ _ ⟨rfl, rfl, rfl⟩
              refine DA.cl ?_
              repeat (first | refine DA.thn_panic ?_ | refine DA.inb_panic ?_)
              exact bodyA.panic zE ⟨_, hR0.trans hR.symm, rfl, .refl _, _, rfl⟩
            · skip
              refine XOA.die rfl (variable_none σ b p2 c2 e vl pv cv t3 l3 hv hl2 (hF2 t3 (by simp)).1 hx hy) rfl ?_
              rintro _ _ _ ⟨rfl, rfl, rfl⟩
              refine DA.cl ?_
              repeat (first | refine DA.thn_panic ?_ | refine DA.inb_panic ?_)
              exact bodyA.panic zE ⟨_, hR0.trans hR.symm, rfl, .refl _, _, rfl⟩
          | ok y =>
            obtain ⟨v3, lv⟩ := y
            rw [hxv] at hR
            simp only [bindP] at hR
            obtain ⟨t3, i3, rfl, rfl, h3, h4⟩ := varP_ok hxv
            have hFv : ∀ t ∈ lv, TkF t := fun t ht => hF2 t (by simp [ht])
            have hLv : lv.length ≤ 10000 := by simp only [List.length_cons] at hL2; omega
            have hi3 := idxG_lt _ _ _ h4
            have hvm := hv.len_le
            refine zw rfl (WrA.cE (variable_ok σ b p2 c2 e vl pv cv i3 t3 lv hv hl2 (hF2 t3 (by simp)).1 h3 h4) rfl) ?_
            rintro _ _ _ ⟨_, ⟨rfl, pv1, cv1, hlv, rfl, rfl⟩, rfl⟩
            refine XOA.cl ?_; refine yV ?_; refine zw rfl (WrA.st (tyrow rfl) rfl) ?_
            rintro _ _ _ ⟨rfl, rfl, rfl⟩
            refine zN (zT (zS (zS (zR (yA ?_))))); refine zN (zT ?_)
            rw [optP, if_pos (by decide)] at hR
            refine yT rfl rfl (zR (yA ?_)); refine yA ?_; refine zO rfl zI ?_
            cases hxe : exprP vl e f lv with
            | error x =>
              rw [hxe] at hR
              simp only [bindP] at hR
              refine XOA.die rfl ((expr_p vl e f).bad hv hlv hFv (by omega) (by omega) hxe) rfl ?_
              rintro _ σe _ ⟨rfl, hse, cse, rfl⟩
              refine DA.cl ?_
              repeat (first | refine DA.thn_panic ?_ | refine DA.inb_panic ?_)
              exact bodyA.panic zE ⟨_, hR0.trans hR.symm, rfl, hse, _, rfl⟩
            | ok y =>
              obtain ⟨xe, le⟩ := y
              rw [hxe] at hR
              simp only [bindP] at hR
              have hsbe := exprP_sub f _ _ _ hxe
              have hFe : ∀ t ∈ le, TkF t := fun t ht => hFv t (hsbe.1 t ht)
              have hLe : le.length ≤ 10000 := Nat.le_trans hsbe.2 hLv
              refine zw rfl (WrA.cE ((expr_p vl e f).ok hv hlv hFv (by omega) (by omega) hxe) rfl) ?_
              rintro _ σe _ ⟨_, ⟨cse, pe1, ce1, rfl, hce, hle, hse, rfl⟩, rfl⟩
              refine XOA.cl ?_
              obtain ⟨xqe, xde, rfl, -, -, -, -⟩ := hce.inv
              refine yV ?_; refine zw rfl (WrA.st (tyrow rfl) rfl) ?_
              rintro _ _ _ ⟨rfl, rfl, rfl⟩
              refine zN (zT (zS (zS (zR (yA ?_))))); refine zN (zT ?_)
              rw [optP, if_neg (by decide)] at hR
              simp only [bindP] at hR
              refine yF rfl rfl (XA.skip (zT (zS (zS (zR (yA ?_)))))); refine zN (zT ?_)
              rw [optP, if_neg (by decide)] at hR
              simp only [bindP] at hR
              refine yF rfl rfl (XA.skip (zT (zS (zS (zR (yA ?_)))))); refine zN (zT ?_)
              rw [optP, if_neg (by decide)] at hR
              simp only [bindP] at hR
              refine yF rfl rfl (XA.skip (zT (zS (zR (yA ?_)))))
              rw [closeP] at hR
              cases hc : isT rpar le with
              | false =>
                rw [if_neg (by rw [hc]; exact Bool.noConfusion)] at hR
                refine XOA.die rfl (want_bad σe b pe1 ce1 e _ le rpar hle hc) rfl ?_
                rintro _ _ _ ⟨rfl, rfl, rfl⟩
                refine DA.cl ?_
                repeat (first | refine DA.thn_panic ?_ | refine DA.inb_panic ?_)
                exact bodyA.panic zE ⟨_, hR0.trans hR.symm, rfl, hse, _, rfl⟩
              | true =>
                obtain ⟨t4, l8, rfl⟩ := isT_cons hc
                rw [if_pos hc, List.tail_cons] at hR
                refine zw rfl (WrA.cE (want_ok σe b pe1 ce1 e _ t4 l8 rpar hle hc) rfl) ?_
                rintro _ _ _ ⟨_, ⟨rfl, p8, c8, hl8, rfl, rfl⟩, rfl⟩
                refine XOA.cl ?_; refine zN (zT (zS (zR (zO rfl (Rd.ldA rfl) ?_)))); refine zw rfl (WrA.st (tyrow rfl) rfl) ?_
                rintro _ _ _ ⟨rfl, rfl, rfl⟩
                refine zN (zT (XA.ret ?_))
                have hfin : StAt σe [i64 ((1 : Nat) : Int), i64 (i3 : Int), i64 xe.op, i64 xe.v, i64 xe.n, .slice xqe xe.l.length xde, i64 0, i64 0, i64 0, .slice none 0 0, .slice none 0 0, .slice none 0 0] (.mk ((1 : Nat) : Int) (i3 : Int) xe zeroX [] []) := StAt.of ⟨by decide, by decide⟩ ⟨by omega, by omega⟩ hce (zeroX_at _) (PSl.nil _ _ _) (PSl.nil _ _ _)
                exact bodyA.ret (ResA.cell rfl rfl (Ld.atBlk (tyrow rfl) rfl zL rfl (by first | exact take0 (by first | rfl | assumption | (refine (ints_len _).trans ?_; assumption) | (simp [*]; (first | done | fail))) | assumption | exact take_app (by first | rfl | assumption | (refine (ints_len _).trans ?_; assumption) | (simp [*]; (first | done | fail))) | (conv => lhs; simp only [List.drop_succ_cons, List.drop_zero, List.take_succ_cons, List.take_zero])) (by first | rfl | assumption | (refine (ints_len _).trans ?_; assumption) | (simp [*]; (first | done | fail))))) zE ⟨_, l8, hR0.trans hR.symm, _, p8, c8, rfl, hfin, hl8, hse, rfl⟩
        · skip
          subst hk0
          refine yC (chas_a σ ((2 : Nat) : Int)) ?_; refine yA ?_; (iterate 5 (refine zO rfl (Rd.extract rfl rfl) ?_)); (iterate 5 (refine yS ?_)); refine zN (zT (zS (zS (zR (yA ?_))))); refine zN (zT ?_)
          rw [optP, if_pos (by decide)] at hR
          refine yT rfl rfl (zR (yA ?_))
          cases hxv : varP vl e l2 with
          | error x =>
            rw [hxv] at hR
            simp only [bindP] at hR
            rcases varP_err hxv with ⟨rfl, hx⟩ | ⟨t3, l3, rfl, rfl, hx, hy⟩
            · skip
              refine XOA.die rfl (variable_bad σ b p2 c2 e _ pv vl.length cv l2 hl2 (fun t ht => (hF2 t ht).1) hx) rfl ?_
              rintro _ _ _ ⟨rfl, rfl, rfl⟩
              refine DA.cl ?_
              repeat (first | refine DA.thn_panic ?_ | refine DA.inb_panic ?_)
              exact bodyA.panic zE ⟨_, hR0.trans hR.symm, rfl, .refl _, _, rfl⟩
            · skip
              refine XOA.die rfl (variable_none σ b p2 c2 e vl pv cv t3 l3 hv hl2 (hF2 t3 (by simp)).1 hx hy) rfl ?_
              rintro _ _ _ ⟨rfl, rfl, rfl⟩
              refine DA.cl ?_
              repeat (first | refine DA.thn_panic ?_ | refine DA.inb_panic ?_)
              exact bodyA.panic zE ⟨_, hR0.trans hR.symm, rfl, .refl _, _, rfl⟩
          | ok y =>
            obtain ⟨v3, lv⟩ := y
            rw [hxv] at hR
            simp only [bindP] at hR
            obtain ⟨t3, i3, rfl, rfl, h3, h4⟩ := varP_ok hxv
            have hFv : ∀ t ∈ lv, TkF t := fun t ht => hF2 t (by simp [ht])
            have hLv : lv.length ≤ 10000 := by simp only [List.length_cons] at hL2; omega
            have hi3 := idxG_lt _ _ _ h4
            have hvm := hv.len_le
            refine zw rfl (WrA.cE (variable_ok σ b p2 c2 e vl pv cv i3 t3 lv hv hl2 (hF2 t3 (by simp)).1 h3 h4) rfl) ?_
            rintro _ _ _ ⟨_, ⟨rfl, pv1, cv1, hlv, rfl, rfl⟩, rfl⟩
            refine XOA.cl ?_; refine yV ?_; refine zw rfl (WrA.st (tyrow rfl) rfl) ?_
            rintro _ _ _ ⟨rfl, rfl, rfl⟩
            refine zN (zT (zS (zS (zR (yA ?_))))); refine zN (zT ?_)
            rw [optP, if_pos (by decide)] at hR
            refine yT rfl rfl (zR (yA ?_)); refine yA ?_; refine zO rfl zI ?_
            cases hxe : exprP vl e f lv with
            | error x =>
              rw [hxe] at hR
              simp only [bindP] at hR
              refine XOA.die rfl ((expr_p vl e f).bad hv hlv hFv (by omega) (by omega) hxe) rfl ?_
              rintro _ σe _ ⟨rfl, hse, cse, rfl⟩
              refine DA.cl ?_
              repeat (first | refine DA.thn_panic ?_ | refine DA.inb_panic ?_)
              exact bodyA.panic zE ⟨_, hR0.trans hR.symm, rfl, hse, _, rfl⟩
            | ok y =>
              obtain ⟨xe, le⟩ := y
              rw [hxe] at hR
              simp only [bindP] at hR
              have hsbe := exprP_sub f _ _ _ hxe
              have hFe : ∀ t ∈ le, TkF t := fun t ht => hFv t (hsbe.1 t ht)
              have hLe : le.length ≤ 10000 := Nat.le_trans hsbe.2 hLv
              refine zw rfl (WrA.cE ((expr_p vl e f).ok hv hlv hFv (by omega) (by omega) hxe) rfl) ?_
              rintro _ σe _ ⟨_, ⟨cse, pe1, ce1, rfl, hce, hle, hse, rfl⟩, rfl⟩
              refine XOA.cl ?_
              obtain ⟨xqe, xde, rfl, -, -, -, -⟩ := hce.inv
              refine yV ?_; refine zw rfl (WrA.st (tyrow rfl) rfl) ?_
              rintro _ _ _ ⟨rfl, rfl, rfl⟩
              refine zN (zT (zS (zS (zR (yA ?_))))); refine zN (zT ?_)
              rw [optP, if_pos (by decide)] at hR
              refine yT rfl rfl (zR (yA ?_)); refine yA ?_; refine zO rfl zI ?_
              cases hxf : exprP vl e f le with
              | error x =>
                rw [hxf] at hR
                simp only [bindP] at hR
                refine XOA.die rfl ((expr_p vl e f).bad (hv.mono (hse) (fun _ _ h => h)) hle hFe (by omega) (by omega) hxf) rfl ?_
                rintro _ σf _ ⟨rfl, hsf, csf, rfl⟩
                refine DA.cl ?_
                repeat (first | refine DA.thn_panic ?_ | refine DA.inb_panic ?_)
                exact bodyA.panic zE ⟨_, hR0.trans hR.symm, rfl, (hse).trans hsf, _, rfl⟩
              | ok y =>
                obtain ⟨xf, lf⟩ := y
                rw [hxf] at hR
                simp only [bindP] at hR
                have hsbf := exprP_sub f _ _ _ hxf
                have hFf : ∀ t ∈ lf, TkF t := fun t ht => hFe t (hsbf.1 t ht)
                have hLf : lf.length ≤ 10000 := Nat.le_trans hsbf.2 hLe
                refine zw rfl (WrA.cE ((expr_p vl e f).ok (hv.mono (hse) (fun _ _ h => h)) hle hFe (by omega) (by omega) hxf) rfl) ?_
                rintro _ σf _ ⟨_, ⟨csf, pf1, cf1, rfl, hcf, hlf, hsf, rfl⟩, rfl⟩
                refine XOA.cl ?_
                obtain ⟨xqf, xdf, rfl, -, -, -, -⟩ := hcf.inv
                refine yV ?_; refine zw rfl (WrA.st (tyrow rfl) rfl) ?_
                rintro _ _ _ ⟨rfl, rfl, rfl⟩
                refine zN (zT (zS (zS (zR (yA ?_))))); refine zN (zT ?_)
                rw [optP, if_neg (by decide)] at hR
                simp only [bindP] at hR
                refine yF rfl rfl (XA.skip (zT (zS (zS (zR (yA ?_)))))); refine zN (zT ?_)
                rw [optP, if_neg (by decide)] at hR
                simp only [bindP] at hR
                refine yF rfl rfl (XA.skip (zT (zS (zR (yA ?_)))))
                rw [closeP] at hR
                cases hc : isT rpar lf with
                | false =>
                  rw [if_neg (by rw [hc]; exact Bool.noConfusion)] at hR
                  refine XOA.die rfl (want_bad σf b pf1 cf1 e _ lf rpar hlf hc) rfl ?_
                  rintro _ _ _ ⟨rfl, rfl, rfl⟩
                  refine DA.cl ?_
                  repeat (first | refine DA.thn_panic ?_ | refine DA.inb_panic ?_)
                  exact bodyA.panic zE ⟨_, hR0.trans hR.symm, rfl, hse.trans hsf, _, rfl⟩
                | true =>
                  obtain ⟨t4, l8, rfl⟩ := isT_cons hc
                  rw [if_pos hc, List.tail_cons] at hR
                  refine zw rfl (WrA.cE (want_ok σf b pf1 cf1 e _ t4 l8 rpar hlf hc) rfl) ?_
                  rintro _ _ _ ⟨_, ⟨rfl, p8, c8, hl8, rfl, rfl⟩, rfl⟩
                  refine XOA.cl ?_; refine zN (zT (zS (zR (zO rfl (Rd.ldA rfl) ?_)))); refine zw rfl (WrA.st (tyrow rfl) rfl) ?_
                  rintro _ _ _ ⟨rfl, rfl, rfl⟩
                  refine zN (zT (XA.ret ?_))
                  have hfin : StAt σf [i64 ((2 : Nat) : Int), i64 (i3 : Int), i64 xe.op, i64 xe.v, i64 xe.n, .slice xqe xe.l.length xde, i64 xf.op, i64 xf.v, i64 xf.n, .slice xqf xf.l.length xdf, .slice none 0 0, .slice none 0 0] (.mk ((2 : Nat) : Int) (i3 : Int) xe xf [] []) := StAt.of ⟨by decide, by decide⟩ ⟨by omega, by omega⟩ (hce.mono (hsf)) hcf (PSl.nil _ _ _) (PSl.nil _ _ _)
                  exact bodyA.ret (ResA.cell rfl rfl (Ld.atBlk (tyrow rfl) rfl zL rfl (by first | exact take0 (by first | rfl | assumption | (refine (ints_len _).trans ?_; assumption) | (simp [*]; (first | done | fail))) | assumption | exact take_app (by first | rfl | assumption | (refine (ints_len _).trans ?_; assumption) | (simp [*]; (first | done | fail))) | (conv => lhs; simp only [List.drop_succ_cons, List.drop_zero, List.take_succ_cons, List.take_zero])) (by first | rfl | assumption | (refine (ints_len _).trans ?_; assumption) | (simp [*]; (first | done | fail))))) zE ⟨_, l8, hR0.trans hR.symm, _, p8, c8, rfl, hfin, hl8, hse.trans hsf, rfl⟩
        · skip
          subst hk0
          refine yC (chas_a σ ((3 : Nat) : Int)) ?_; refine yA ?_; (iterate 5 (refine zO rfl (Rd.extract rfl rfl) ?_)); (iterate 5 (refine yS ?_)); refine zN (zT (zS (zS (zR (yA ?_))))); refine zN (zT ?_)
          rw [optP, if_neg (by decide)] at hR
          simp only [bindP] at hR
          refine yF rfl rfl (XA.skip (zT (zS (zS (zR (yA ?_)))))); refine zN (zT ?_)
          rw [optP, if_pos (by decide)] at hR
          refine yT rfl rfl (zR (yA ?_)); refine yA ?_; refine zO rfl zI ?_
          cases hxe : exprP vl e f l2 with
          | error x =>
            rw [hxe] at hR
            simp only [bindP] at hR
            refine XOA.die rfl ((expr_p vl e f).bad hv hl2 hF2 (by omega) (by omega) hxe) rfl ?_
            rintro _ σe _ ⟨rfl, hse, cse, rfl⟩
            refine DA.cl ?_
            repeat (first | refine DA.thn_panic ?_ | refine DA.inb_panic ?_)
            exact bodyA.panic zE ⟨_, hR0.trans hR.symm, rfl, hse, _, rfl⟩
          | ok y =>
            obtain ⟨xe, le⟩ := y
            rw [hxe] at hR
            simp only [bindP] at hR
            have hsbe := exprP_sub f _ _ _ hxe
            have hFe : ∀ t ∈ le, TkF t := fun t ht => hF2 t (hsbe.1 t ht)
            have hLe : le.length ≤ 10000 := Nat.le_trans hsbe.2 hL2
            refine zw rfl (WrA.cE ((expr_p vl e f).ok hv hl2 hF2 (by omega) (by omega) hxe) rfl) ?_
            rintro _ σe _ ⟨_, ⟨cse, pe1, ce1, rfl, hce, hle, hse, rfl⟩, rfl⟩
            refine XOA.cl ?_
            obtain ⟨xqe, xde, rfl, -, -, -, -⟩ := hce.inv
            refine yV ?_; refine zw rfl (WrA.st (tyrow rfl) rfl) ?_
            rintro _ _ _ ⟨rfl, rfl, rfl⟩
            refine zN (zT (zS (zS (zR (yA ?_))))); refine zN (zT ?_)
            rw [optP, if_neg (by decide)] at hR
            simp only [bindP] at hR
            refine yF rfl rfl (XA.skip (zT (zS (zS (zR (yA ?_)))))); refine zN (zT ?_)
            rw [optP, if_neg (by decide)] at hR
            simp only [bindP] at hR
            refine yF rfl rfl (XA.skip (zT (zS (zS (zR (yA ?_)))))); refine zN (zT ?_)
            rw [optP, if_neg (by decide)] at hR
            simp only [bindP] at hR
            refine yF rfl rfl (XA.skip (zT (zS (zR (yA ?_)))))
            rw [closeP] at hR
            cases hc : isT rpar le with
            | false =>
              rw [if_neg (by rw [hc]; exact Bool.noConfusion)] at hR
              refine XOA.die rfl (want_bad σe b pe1 ce1 e _ le rpar hle hc) rfl ?_
              rintro _ _ _ ⟨rfl, rfl, rfl⟩
              refine DA.cl ?_
              repeat (first | refine DA.thn_panic ?_ | refine DA.inb_panic ?_)
              exact bodyA.panic zE ⟨_, hR0.trans hR.symm, rfl, hse, _, rfl⟩
            | true =>
              obtain ⟨t4, l8, rfl⟩ := isT_cons hc
              rw [if_pos hc, List.tail_cons] at hR
              refine zw rfl (WrA.cE (want_ok σe b pe1 ce1 e _ t4 l8 rpar hle hc) rfl) ?_
              rintro _ _ _ ⟨_, ⟨rfl, p8, c8, hl8, rfl, rfl⟩, rfl⟩
              refine XOA.cl ?_; refine zN (zT (zS (zR (zO rfl (Rd.ldA rfl) ?_)))); refine zw rfl (WrA.st (tyrow rfl) rfl) ?_
              rintro _ _ _ ⟨rfl, rfl, rfl⟩
              refine zN (zT (XA.ret ?_))
              have hfin : StAt σe [i64 ((3 : Nat) : Int), i64 0, i64 xe.op, i64 xe.v, i64 xe.n, .slice xqe xe.l.length xde, i64 0, i64 0, i64 0, .slice none 0 0, .slice none 0 0, .slice none 0 0] (.mk ((3 : Nat) : Int) 0 xe zeroX [] []) := StAt.of ⟨by decide, by decide⟩ ⟨by decide, by decide⟩ hce (zeroX_at _) (PSl.nil _ _ _) (PSl.nil _ _ _)
              exact bodyA.ret (ResA.cell rfl rfl (Ld.atBlk (tyrow rfl) rfl zL rfl (by first | exact take0 (by first | rfl | assumption | (refine (ints_len _).trans ?_; assumption) | (simp [*]; (first | done | fail))) | assumption | exact take_app (by first | rfl | assumption | (refine (ints_len _).trans ?_; assumption) | (simp [*]; (first | done | fail))) | (conv => lhs; simp only [List.drop_succ_cons, List.drop_zero, List.take_succ_cons, List.take_zero])) (by first | rfl | assumption | (refine (ints_len _).trans ?_; assumption) | (simp [*]; (first | done | fail))))) zE ⟨_, l8, hR0.trans hR.symm, _, p8, c8, rfl, hfin, hl8, hse, rfl⟩
        · skip
          subst hk0
          refine yC (chas_a σ ((4 : Nat) : Int)) ?_; refine yA ?_; (iterate 5 (refine zO rfl (Rd.extract rfl rfl) ?_)); (iterate 5 (refine yS ?_)); refine zN (zT (zS (zS (zR (yA ?_))))); refine zN (zT ?_)
          rw [optP, if_pos (by decide)] at hR
          refine yT rfl rfl (zR (yA ?_))
          cases hxv : varP vl e l2 with
          | error x =>
            rw [hxv] at hR
            simp only [bindP] at hR
            rcases varP_err hxv with ⟨rfl, hx⟩ | ⟨t3, l3, rfl, rfl, hx, hy⟩
            · skip
              refine XOA.die rfl (variable_bad σ b p2 c2 e _ pv vl.length cv l2 hl2 (fun t ht => (hF2 t ht).1) hx) rfl ?_
              rintro _ _ _ ⟨rfl, rfl, rfl⟩
              refine DA.cl ?_
              repeat (first | refine DA.thn_panic ?_ | refine DA.inb_panic ?_)
              exact bodyA.panic zE ⟨_, hR0.trans hR.symm, rfl, .refl _, _, rfl⟩
            · skip
              refine XOA.die rfl (variable_none σ b p2 c2 e vl pv cv t3 l3 hv hl2 (hF2 t3 (by simp)).1 hx hy) rfl ?_
              rintro _ _ _ ⟨rfl, rfl, rfl⟩
              refine DA.cl ?_
              repeat (first | refine DA.thn_panic ?_ | refine DA.inb_panic ?_)
              exact bodyA.panic zE ⟨_, hR0.trans hR.symm, rfl, .refl _, _, rfl⟩
          | ok y =>
            obtain ⟨v3, lv⟩ := y
            rw [hxv] at hR
            simp only [bindP] at hR
            obtain ⟨t3, i3, rfl, rfl, h3, h4⟩ := varP_ok hxv
            have hFv : ∀ t ∈ lv, TkF t := fun t ht => hF2 t (by simp [ht])
            have hLv : lv.length ≤ 10000 := by simp only [List.length_cons] at hL2; omega
            have hi3 := idxG_lt _ _ _ h4
            have hvm := hv.len_le
            refine zw rfl (WrA.cE (variable_ok σ b p2 c2 e vl pv cv i3 t3 lv hv hl2 (hF2 t3 (by simp)).1 h3 h4) rfl) ?_
            rintro _ _ _ ⟨_, ⟨rfl, pv1, cv1, hlv, rfl, rfl⟩, rfl⟩
            refine XOA.cl ?_; refine yV ?_; refine zw rfl (WrA.st (tyrow rfl) rfl) ?_
            rintro _ _ _ ⟨rfl, rfl, rfl⟩
            refine zN (zT (zS (zS (zR (yA ?_))))); refine zN (zT ?_)
            rw [optP, if_neg (by decide)] at hR
            simp only [bindP] at hR
            refine yF rfl rfl (XA.skip (zT (zS (zS (zR (yA ?_)))))); refine zN (zT ?_)
            rw [optP, if_neg (by decide)] at hR
            simp only [bindP] at hR
            refine yF rfl rfl (XA.skip (zT (zS (zS (zR (yA ?_)))))); refine zN (zT ?_)
            rw [optP, if_neg (by decide)] at hR
            simp only [bindP] at hR
            refine yF rfl rfl (XA.skip (zT (zS (zS (zR (yA ?_)))))); refine zN (zT ?_)
            rw [optP, if_neg (by decide)] at hR
            simp only [bindP] at hR
            refine yF rfl rfl (XA.skip (zT (zS (zR (yA ?_)))))
            rw [closeP] at hR
            cases hc : isT rpar lv with
            | false =>
              rw [if_neg (by rw [hc]; exact Bool.noConfusion)] at hR
              refine XOA.die rfl (want_bad σ b pv1 cv1 e _ lv rpar hlv hc) rfl ?_
              rintro _ _ _ ⟨rfl, rfl, rfl⟩
              refine DA.cl ?_
              repeat (first | refine DA.thn_panic ?_ | refine DA.inb_panic ?_)
              exact bodyA.panic zE ⟨_, hR0.trans hR.symm, rfl, .refl _, _, rfl⟩
            | true =>
              obtain ⟨t4, l8, rfl⟩ := isT_cons hc
              rw [if_pos hc, List.tail_cons] at hR
              refine zw rfl (WrA.cE (want_ok σ b pv1 cv1 e _ t4 l8 rpar hlv hc) rfl) ?_
              rintro _ _ _ ⟨_, ⟨rfl, p8, c8, hl8, rfl, rfl⟩, rfl⟩
              refine XOA.cl ?_; refine zN (zT (zS (zR (zO rfl (Rd.ldA rfl) ?_)))); refine zw rfl (WrA.st (tyrow rfl) rfl) ?_
              rintro _ _ _ ⟨rfl, rfl, rfl⟩
              refine zN (zT (XA.ret ?_))
              have hfin : StAt σ [i64 ((4 : Nat) : Int), i64 (i3 : Int), i64 0, i64 0, i64 0, .slice none 0 0, i64 0, i64 0, i64 0, .slice none 0 0, .slice none 0 0, .slice none 0 0] (.mk ((4 : Nat) : Int) (i3 : Int) zeroX zeroX [] []) := StAt.of ⟨by decide, by decide⟩ ⟨by omega, by omega⟩ (zeroX_at _) (zeroX_at _) (PSl.nil _ _ _) (PSl.nil _ _ _)
              exact bodyA.ret (ResA.cell rfl rfl (Ld.atBlk (tyrow rfl) rfl zL rfl (by first | exact take0 (by first | rfl | assumption | (refine (ints_len _).trans ?_; assumption) | (simp [*]; (first | done | fail))) | assumption | exact take_app (by first | rfl | assumption | (refine (ints_len _).trans ?_; assumption) | (simp [*]; (first | done | fail))) | (conv => lhs; simp only [List.drop_succ_cons, List.drop_zero, List.take_succ_cons, List.take_zero])) (by first | rfl | assumption | (refine (ints_len _).trans ?_; assumption) | (simp [*]; (first | done | fail))))) zE ⟨_, l8, hR0.trans hR.symm, _, p8, c8, rfl, hfin, hl8, .refl _, rfl⟩
        · skip
          subst hk0
          refine yC (chas_a σ ((5 : Nat) : Int)) ?_; refine yA ?_; (iterate 5 (refine zO rfl (Rd.extract rfl rfl) ?_)); (iterate 5 (refine yS ?_)); refine zN (zT (zS (zS (zR (yA ?_))))); refine zN (zT ?_)
          rw [optP, if_neg (by decide)] at hR
          simp only [bindP] at hR
          refine yF rfl rfl (XA.skip (zT (zS (zS (zR (yA ?_)))))); refine zN (zT ?_)
          rw [optP, if_pos (by decide)] at hR
          refine yT rfl rfl (zR (yA ?_)); refine yA ?_; refine zO rfl zI ?_
          cases hxe : exprP vl e f l2 with
          | error x =>
            rw [hxe] at hR
            simp only [bindP] at hR
            refine XOA.die rfl ((expr_p vl e f).bad hv hl2 hF2 (by omega) (by omega) hxe) rfl ?_
            rintro _ σe _ ⟨rfl, hse, cse, rfl⟩
            refine DA.cl ?_
            repeat (first | refine DA.thn_panic ?_ | refine DA.inb_panic ?_)
            exact bodyA.panic zE ⟨_, hR0.trans hR.symm, rfl, hse, _, rfl⟩
          | ok y =>
            obtain ⟨xe, le⟩ := y
            rw [hxe] at hR
            simp only [bindP] at hR
            have hsbe := exprP_sub f _ _ _ hxe
            have hFe : ∀ t ∈ le, TkF t := fun t ht => hF2 t (hsbe.1 t ht)
            have hLe : le.length ≤ 10000 := Nat.le_trans hsbe.2 hL2
            refine zw rfl (WrA.cE ((expr_p vl e f).ok hv hl2 hF2 (by omega) (by omega) hxe) rfl) ?_
            rintro _ σe _ ⟨_, ⟨cse, pe1, ce1, rfl, hce, hle, hse, rfl⟩, rfl⟩
            refine XOA.cl ?_
            obtain ⟨xqe, xde, rfl, -, -, -, -⟩ := hce.inv
            refine yV ?_; refine zw rfl (WrA.st (tyrow rfl) rfl) ?_
            rintro _ _ _ ⟨rfl, rfl, rfl⟩
            refine zN (zT (zS (zS (zR (yA ?_))))); refine zN (zT ?_)
            rw [optP, if_neg (by decide)] at hR
            simp only [bindP] at hR
            refine yF rfl rfl (XA.skip (zT (zS (zS (zR (yA ?_)))))); refine zN (zT ?_)
            rw [optP, if_pos (by decide)] at hR
            refine yT rfl rfl (zR (yA ?_)); refine yA ?_; refine zO rfl zI ?_
            cases hxb : listP (stmtP vl e f) e le with
            | error x =>
              rw [hxb] at hR
              simp only [bindP] at hR
              refine XOA.die rfl (ihl.bad (hv.mono (hse) (fun _ _ h => h)) hle hFe (by omega) (by omega) hLe hxb) rfl ?_
              rintro _ σb _ ⟨rfl, hsb, csb, rfl⟩
              refine DA.cl ?_
              repeat (first | refine DA.thn_panic ?_ | refine DA.inb_panic ?_)
              exact bodyA.panic zE ⟨_, hR0.trans hR.symm, rfl, (hse).trans hsb, _, rfl⟩
            | ok y =>
              obtain ⟨xb, lb⟩ := y
              rw [hxb] at hR
              simp only [bindP] at hR
              have hsbb := listP_sub (fun l x l' h => (stmtP_sub f l x l' h).1) hxb
              have hFb : ∀ t ∈ lb, TkF t := fun t ht => hFe t (hsbb.1 t ht)
              have hLb : lb.length ≤ 10000 := Nat.le_trans hsbb.2 hLe
              refine zw rfl (WrA.cE (ihl.ok (hv.mono (hse) (fun _ _ h => h)) hle hFe (by omega) (by omega) hLe hxb) rfl) ?_
              rintro _ σb _ ⟨_, ⟨qb, mb, pb1, cb1, rfl, hcb, hlb, hsb, rfl⟩, rfl⟩
              refine XOA.cl ?_; refine yV ?_; refine zw rfl (WrA.st (tyrow rfl) rfl) ?_
              rintro _ _ _ ⟨rfl, rfl, rfl⟩
              refine zN (zT (zS (zS (zR (yA ?_))))); refine zN (zT ?_)
              rw [optP, if_neg (by decide)] at hR
              simp only [bindP] at hR
              refine yF rfl rfl (XA.skip (zT (zS (zR (yA ?_)))))
              rw [closeP] at hR
              cases hc : isT rpar lb with
              | false =>
                rw [if_neg (by rw [hc]; exact Bool.noConfusion)] at hR
                refine XOA.die rfl (want_bad σb b pb1 cb1 e _ lb rpar hlb hc) rfl ?_
                rintro _ _ _ ⟨rfl, rfl, rfl⟩
                refine DA.cl ?_
                repeat (first | refine DA.thn_panic ?_ | refine DA.inb_panic ?_)
                exact bodyA.panic zE ⟨_, hR0.trans hR.symm, rfl, hse.trans hsb, _, rfl⟩
              | true =>
                obtain ⟨t4, l8, rfl⟩ := isT_cons hc
                rw [if_pos hc, List.tail_cons] at hR
                refine zw rfl (WrA.cE (want_ok σb b pb1 cb1 e _ t4 l8 rpar hlb hc) rfl) ?_
                rintro _ _ _ ⟨_, ⟨rfl, p8, c8, hl8, rfl, rfl⟩, rfl⟩
                refine XOA.cl ?_; refine zN (zT (zS (zR (zO rfl (Rd.ldA rfl) ?_)))); refine zw rfl (WrA.st (tyrow rfl) rfl) ?_
                rintro _ _ _ ⟨rfl, rfl, rfl⟩
                refine zN (zT (XA.ret ?_))
                have hfin : StAt σb [i64 ((5 : Nat) : Int), i64 0, i64 xe.op, i64 xe.v, i64 xe.n, .slice xqe xe.l.length xde, i64 0, i64 0, i64 0, .slice none 0 0, .slice qb xb.length mb, .slice none 0 0] (.mk ((5 : Nat) : Int) 0 xe zeroX xb []) := StAt.of ⟨by decide, by decide⟩ ⟨by decide, by decide⟩ (hce.mono (hsb)) (zeroX_at _) hcb (PSl.nil _ _ _)
                exact bodyA.ret (ResA.cell rfl rfl (Ld.atBlk (tyrow rfl) rfl zL rfl (by first | exact take0 (by first | rfl | assumption | (refine (ints_len _).trans ?_; assumption) | (simp [*]; (first | done | fail))) | assumption | exact take_app (by first | rfl | assumption | (refine (ints_len _).trans ?_; assumption) | (simp [*]; (first | done | fail))) | (conv => lhs; simp only [List.drop_succ_cons, List.drop_zero, List.take_succ_cons, List.take_zero])) (by first | rfl | assumption | (refine (ints_len _).trans ?_; assumption) | (simp [*]; (first | done | fail))))) zE ⟨_, l8, hR0.trans hR.symm, _, p8, c8, rfl, hfin, hl8, hse.trans hsb, rfl⟩
        · skip
          subst hk0
          refine yC (chas_a σ ((6 : Nat) : Int)) ?_; refine yA ?_; (iterate 5 (refine zO rfl (Rd.extract rfl rfl) ?_)); (iterate 5 (refine yS ?_)); refine zN (zT (zS (zS (zR (yA ?_))))); refine zN (zT ?_)
          rw [optP, if_neg (by decide)] at hR
          simp only [bindP] at hR
          refine yF rfl rfl (XA.skip (zT (zS (zS (zR (yA ?_)))))); refine zN (zT ?_)
          rw [optP, if_pos (by decide)] at hR
          refine yT rfl rfl (zR (yA ?_)); refine yA ?_; refine zO rfl zI ?_
          cases hxe : exprP vl e f l2 with
          | error x =>
            rw [hxe] at hR
            simp only [bindP] at hR
            refine XOA.die rfl ((expr_p vl e f).bad hv hl2 hF2 (by omega) (by omega) hxe) rfl ?_
            rintro _ σe _ ⟨rfl, hse, cse, rfl⟩
            refine DA.cl ?_
            repeat (first | refine DA.thn_panic ?_ | refine DA.inb_panic ?_)
            exact bodyA.panic zE ⟨_, hR0.trans hR.symm, rfl, hse, _, rfl⟩
          | ok y =>
            obtain ⟨xe, le⟩ := y
            rw [hxe] at hR
            simp only [bindP] at hR
            have hsbe := exprP_sub f _ _ _ hxe
            have hFe : ∀ t ∈ le, TkF t := fun t ht => hF2 t (hsbe.1 t ht)
            have hLe : le.length ≤ 10000 := Nat.le_trans hsbe.2 hL2
            refine zw rfl (WrA.cE ((expr_p vl e f).ok hv hl2 hF2 (by omega) (by omega) hxe) rfl) ?_
            rintro _ σe _ ⟨_, ⟨cse, pe1, ce1, rfl, hce, hle, hse, rfl⟩, rfl⟩
            refine XOA.cl ?_
            obtain ⟨xqe, xde, rfl, -, -, -, -⟩ := hce.inv
            refine yV ?_; refine zw rfl (WrA.st (tyrow rfl) rfl) ?_
            rintro _ _ _ ⟨rfl, rfl, rfl⟩
            refine zN (zT (zS (zS (zR (yA ?_))))); refine zN (zT ?_)
            rw [optP, if_neg (by decide)] at hR
            simp only [bindP] at hR
            refine yF rfl rfl (XA.skip (zT (zS (zS (zR (yA ?_)))))); refine zN (zT ?_)
            rw [optP, if_pos (by decide)] at hR
            refine yT rfl rfl (zR (yA ?_)); refine yA ?_; refine zO rfl zI ?_
            cases hxb : listP (stmtP vl e f) e le with
            | error x =>
              rw [hxb] at hR
              simp only [bindP] at hR
              refine XOA.die rfl (ihl.bad (hv.mono (hse) (fun _ _ h => h)) hle hFe (by omega) (by omega) hLe hxb) rfl ?_
              rintro _ σb _ ⟨rfl, hsb, csb, rfl⟩
              refine DA.cl ?_
              repeat (first | refine DA.thn_panic ?_ | refine DA.inb_panic ?_)
              exact bodyA.panic zE ⟨_, hR0.trans hR.symm, rfl, (hse).trans hsb, _, rfl⟩
            | ok y =>
              obtain ⟨xb, lb⟩ := y
              rw [hxb] at hR
              simp only [bindP] at hR
              have hsbb := listP_sub (fun l x l' h => (stmtP_sub f l x l' h).1) hxb
              have hFb : ∀ t ∈ lb, TkF t := fun t ht => hFe t (hsbb.1 t ht)
              have hLb : lb.length ≤ 10000 := Nat.le_trans hsbb.2 hLe
              refine zw rfl (WrA.cE (ihl.ok (hv.mono (hse) (fun _ _ h => h)) hle hFe (by omega) (by omega) hLe hxb) rfl) ?_
              rintro _ σb _ ⟨_, ⟨qb, mb, pb1, cb1, rfl, hcb, hlb, hsb, rfl⟩, rfl⟩
              refine XOA.cl ?_; refine yV ?_; refine zw rfl (WrA.st (tyrow rfl) rfl) ?_
              rintro _ _ _ ⟨rfl, rfl, rfl⟩
              refine zN (zT (zS (zS (zR (yA ?_))))); refine zN (zT ?_)
              rw [optP, if_pos (by decide)] at hR
              refine yT rfl rfl (zR (yA ?_)); refine yA ?_; refine zO rfl zI ?_
              cases hxo : listP (stmtP vl e f) e lb with
              | error x =>
                rw [hxo] at hR
                simp only [bindP] at hR
                refine XOA.die rfl (ihl.bad (hv.mono (hse.trans hsb) (fun _ _ h => h)) hlb hFb (by omega) (by omega) hLb hxo) rfl ?_
                rintro _ σo _ ⟨rfl, hso, cso, rfl⟩
                refine DA.cl ?_
                repeat (first | refine DA.thn_panic ?_ | refine DA.inb_panic ?_)
                exact bodyA.panic zE ⟨_, hR0.trans hR.symm, rfl, (hse.trans hsb).trans hso, _, rfl⟩
              | ok y =>
                obtain ⟨xo, lo⟩ := y
                rw [hxo] at hR
                simp only [bindP] at hR
                have hsbo := listP_sub (fun l x l' h => (stmtP_sub f l x l' h).1) hxo
                have hFo : ∀ t ∈ lo, TkF t := fun t ht => hFb t (hsbo.1 t ht)
                have hLo : lo.length ≤ 10000 := Nat.le_trans hsbo.2 hLb
                refine zw rfl (WrA.cE (ihl.ok (hv.mono (hse.trans hsb) (fun _ _ h => h)) hlb hFb (by omega) (by omega) hLb hxo) rfl) ?_
                rintro _ σo _ ⟨_, ⟨qo, mo, po1, co1, rfl, hco, hlo, hso, rfl⟩, rfl⟩
                refine XOA.cl ?_; refine yV ?_; refine zw rfl (WrA.st (tyrow rfl) rfl) ?_
                rintro _ _ _ ⟨rfl, rfl, rfl⟩
                refine zN (zT (zS (zR (yA ?_))))
                rw [closeP] at hR
                cases hc : isT rpar lo with
                | false =>
                  rw [if_neg (by rw [hc]; exact Bool.noConfusion)] at hR
                  refine XOA.die rfl (want_bad σo b po1 co1 e _ lo rpar hlo hc) rfl ?_
                  rintro _ _ _ ⟨rfl, rfl, rfl⟩
                  refine DA.cl ?_
                  repeat (first | refine DA.thn_panic ?_ | refine DA.inb_panic ?_)
                  exact bodyA.panic zE ⟨_, hR0.trans hR.symm, rfl, hse.trans (hsb.trans hso), _, rfl⟩
                | true =>
                  obtain ⟨t4, l8, rfl⟩ := isT_cons hc
                  rw [if_pos hc, List.tail_cons] at hR
                  refine zw rfl (WrA.cE (want_ok σo b po1 co1 e _ t4 l8 rpar hlo hc) rfl) ?_
                  rintro _ _ _ ⟨_, ⟨rfl, p8, c8, hl8, rfl, rfl⟩, rfl⟩
                  refine XOA.cl ?_; refine zN (zT (zS (zR (zO rfl (Rd.ldA rfl) ?_)))); refine zw rfl (WrA.st (tyrow rfl) rfl) ?_
                  rintro _ _ _ ⟨rfl, rfl, rfl⟩
                  refine zN (zT (XA.ret ?_))
                  have hfin : StAt σo [i64 ((6 : Nat) : Int), i64 0, i64 xe.op, i64 xe.v, i64 xe.n, .slice xqe xe.l.length xde, i64 0, i64 0, i64 0, .slice none 0 0, .slice qb xb.length mb, .slice qo xo.length mo] (.mk ((6 : Nat) : Int) 0 xe zeroX xb xo) := StAt.of ⟨by decide, by decide⟩ ⟨by decide, by decide⟩ (hce.mono (hsb.trans hso)) (zeroX_at _) (hcb.mono (hso) (fun _ _ h => h.mono (hso))) hco
                  exact bodyA.ret (ResA.cell rfl rfl (Ld.atBlk (tyrow rfl) rfl zL rfl (by first | exact take0 (by first | rfl | assumption | (refine (ints_len _).trans ?_; assumption) | (simp [*]; (first | done | fail))) | assumption | exact take_app (by first | rfl | assumption | (refine (ints_len _).trans ?_; assumption) | (simp [*]; (first | done | fail))) | (conv => lhs; simp only [List.drop_succ_cons, List.drop_zero, List.take_succ_cons, List.take_zero])) (by first | rfl | assumption | (refine (ints_len _).trans ?_; assumption) | (simp [*]; (first | done | fail))))) zE ⟨_, l8, hR0.trans hR.symm, _, p8, c8, rfl, hfin, hl8, hse.trans (hsb.trans hso), rfl⟩
        · skip
          subst hk0
          refine yC (chas_a σ ((7 : Nat) : Int)) ?_; refine yA ?_; (iterate 5 (refine zO rfl (Rd.extract rfl rfl) ?_)); (iterate 5 (refine yS ?_)); refine zN (zT (zS (zS (zR (yA ?_))))); refine zN (zT ?_)
          rw [optP, if_neg (by decide)] at hR
          simp only [bindP] at hR
          refine yF rfl rfl (XA.skip (zT (zS (zS (zR (yA ?_)))))); refine zN (zT ?_)
          rw [optP, if_neg (by decide)] at hR
          simp only [bindP] at hR
          refine yF rfl rfl (XA.skip (zT (zS (zS (zR (yA ?_)))))); refine zN (zT ?_)
          rw [optP, if_neg (by decide)] at hR
          simp only [bindP] at hR
          refine yF rfl rfl (XA.skip (zT (zS (zS (zR (yA ?_)))))); refine zN (zT ?_)
          rw [optP, if_neg (by decide)] at hR
          simp only [bindP] at hR
          refine yF rfl rfl (XA.skip (zT (zS (zS (zR (yA ?_)))))); refine zN (zT ?_)
          rw [optP, if_neg (by decide)] at hR
          simp only [bindP] at hR
          refine yF rfl rfl (XA.skip (zT (zS (zR (yA ?_)))))
          rw [closeP] at hR
          cases hc : isT rpar l2 with
          | false =>
            rw [if_neg (by rw [hc]; exact Bool.noConfusion)] at hR
            refine XOA.die rfl (want_bad σ b p2 c2 e _ l2 rpar hl2 hc) rfl ?_
            rintro _ _ _ ⟨rfl, rfl, rfl⟩
            refine DA.cl ?_
            repeat (first | refine DA.thn_panic ?_ | refine DA.inb_panic ?_)
            exact bodyA.panic zE ⟨_, hR0.trans hR.symm, rfl, .refl _, _, rfl⟩
          | true =>
            obtain ⟨t4, l8, rfl⟩ := isT_cons hc
            rw [if_pos hc, List.tail_cons] at hR
            refine zw rfl (WrA.cE (want_ok σ b p2 c2 e _ t4 l8 rpar hl2 hc) rfl) ?_
            rintro _ _ _ ⟨_, ⟨rfl, p8, c8, hl8, rfl, rfl⟩, rfl⟩
            refine XOA.cl ?_; refine zN (zT (zS (zR (zO rfl (Rd.ldA rfl) ?_)))); refine zw rfl (WrA.st (tyrow rfl) rfl) ?_
            rintro _ _ _ ⟨rfl, rfl, rfl⟩
            refine zN (zT (XA.ret ?_))
            have hfin : StAt σ [i64 ((7 : Nat) : Int), i64 0, i64 0, i64 0, i64 0, .slice none 0 0, i64 0, i64 0, i64 0, .slice none 0 0, .slice none 0 0, .slice none 0 0] (.mk ((7 : Nat) : Int) 0 zeroX zeroX [] []) := StAt.of ⟨by decide, by decide⟩ ⟨by decide, by decide⟩ (zeroX_at _) (zeroX_at _) (PSl.nil _ _ _) (PSl.nil _ _ _)
            exact bodyA.ret (ResA.cell rfl rfl (Ld.atBlk (tyrow rfl) rfl zL rfl (by first | exact take0 (by first | rfl | assumption | (refine (ints_len _).trans ?_; assumption) | (simp [*]; (first | done | fail))) | assumption | exact take_app (by first | rfl | assumption | (refine (ints_len _).trans ?_; assumption) | (simp [*]; (first | done | fail))) | (conv => lhs; simp only [List.drop_succ_cons, List.drop_zero, List.take_succ_cons, List.take_zero])) (by first | rfl | assumption | (refine (ints_len _).trans ?_; assumption) | (simp [*]; (first | done | fail))))) zE ⟨_, l8, hR0.trans hR.symm, _, p8, c8, rfl, hfin, hl8, .refl _, rfl⟩
end Go.Proofs.YthefnnkmpcgcmaaDoor

namespace Go.Proofs.YthefnnkmpcgcmaaDoor
open Go X
set_option maxHeartbeats 4000000
set_option maxRecDepth 4000
abbrev kwLet : ByteArray := ⟨#[108, 101, 116]⟩
def nameP (e : Int) (l : List Tk) : PR ByteArray := match l with
  | t :: r => if nameOk t.text = true then .ok (t.text, r) else .error (failAt e l 5)
  | [] => .error (failAt e l 5)
def cutN (n : Int) : Int := if n < 1 ∨ 48 < n then 0 else n
def letsG (e : Int) : Nat → List Tk → List Va → PR (List Va)
  | 0, _, _ => .error (0, 0)
  | g + 1, l, acc => if isT kwLet l = true then bindP (nameP e l.tail) fun s l1 => bindP (numP e l1) fun n l2 => letsG e g l2 (acc ++ [⟨s, cutN n⟩]) else .ok (acc, l)
def bodyG (S : List Tk → PR St) : Nat → List Tk → List St → PR (List St)
  | 0, _, _ => .error (0, 0)
  | g + 1, l, acc => if l.length = 0 then .ok (acc, l) else match S l with
    | .error x => .error x
    | .ok (s, l1) => bodyG S g l1 (acc ++ [s])
def progP (e : Int) (l : List Tk) : PR Pr := bindP (letsG e (l.length + 1) l []) fun vl l1 => bindP (bodyG (stmtP vl e 13) (l1.length + 1) l1 []) fun b l2 => .ok (⟨vl, b⟩, l2)
theorem nameP_err {e : Int} {l : List Tk} {x : Int × Int} (h : nameP e l = .error x) : x = failAt e l 5 ∧ ∀ t r, l = t :: r → nameOk t.text = false := by
  cases l with
  | nil => cases h; exact ⟨rfl, fun t r q => by cases q⟩
  | cons t r =>
    rw [nameP] at h
    split at h
    · cases h
    · rename_i hn; cases h; exact ⟨rfl, fun t' r' q => by cases q; simpa using hn⟩
theorem nameP_ok {e : Int} {l l' : List Tk} {s : ByteArray} (h : nameP e l = .ok (s, l')) : ∃ t, l = t :: l' ∧ nameOk t.text = true ∧ t.text = s := by
  cases l with
  | nil => cases h
  | cons t r =>
    rw [nameP] at h
    split at h
    · rename_i hn; cases h; exact ⟨t, rfl, hn, rfl⟩
    · cases h
theorem letsG_fuel {e : Int} : ∀ (g g' : Nat) (l : List Tk) (acc : List Va), l.length < g → l.length < g' → letsG e g l acc = letsG e g' l acc
  | 0, g', l, acc, h, h' => by omega
  | g + 1, 0, l, acc, h, h' => by omega
  | g + 1, g' + 1, l, acc, h, h' => by
    rw [letsG, letsG]
    split
    · rename_i hq
      obtain ⟨t, r, rfl⟩ := isT_cons hq
      rw [List.tail_cons]
      cases q : nameP e r with
      | error x => rfl
      | ok y =>
        obtain ⟨s, l1⟩ := y
        obtain ⟨t1, rfl, -, -⟩ := nameP_ok q
        simp only [bindP]
        cases q2 : numP e l1 with
        | error x => rfl
        | ok y =>
          obtain ⟨n, l2⟩ := y
          obtain ⟨t2, rfl, -, -⟩ := numP_ok q2
          simp only [List.length_cons] at h h'
          exact letsG_fuel g g' l2 _ (by omega) (by omega)
    · rfl
theorem bodyG_fuel {S : List Tk → PR St} (hS : ∀ l x l', S l = .ok (x, l') → l'.length < l.length) : ∀ (g g' : Nat) (l : List Tk) (acc : List St), l.length < g → l.length < g' → bodyG S g l acc = bodyG S g' l acc
  | 0, g', l, acc, h, h' => by omega
  | g + 1, 0, l, acc, h, h' => by omega
  | g + 1, g' + 1, l, acc, h, h' => by
    rw [bodyG, bodyG]
    split
    · rfl
    · cases q : S l with
      | error x => rfl
      | ok y =>
        obtain ⟨x, l1⟩ := y
        have := hS l x l1 q
        exact bodyG_fuel hS g g' l1 _ (by omega) (by omega)
theorem program_p (σ : PH) (b : Nat) (p : Option Addr) (c : Nat) (e : Int) (l : List Tk) (hl : PSl 4 rTk σ (.slice p l.length c) l) (hF : ∀ t ∈ l, TkF t) (hL : l.length ≤ 10000) :
    CallsA Tryd.prog 42 #[ptr b] σ [blk b [.slice p l.length c, i64 e, .slice none 0 0] 83] (EndA
      (fun v σ' Γ' => ∃ pr l', progP e l = .ok (pr, l') ∧ ∃ cs, v = .agg (List.toArray cs) ∧ PrAt σ' cs pr ∧ σ.sub σ' ∧ ∃ cb, Γ' = [blk b cb 83])
      (fun ch σ' Γ' => ∃ x, progP e l = .error x ∧ ch = goneP x ∧ σ.sub σ' ∧ ∃ cs, Γ' = [blk b cs 83])) := by
  obtain ⟨R, hR⟩ : ∃ R, progP e l = R := ⟨_, rfl⟩
  have hR0 := hR
  rw [progP] at hR
  obtain ⟨S, hS⟩ : ∃ S, letsG e (l.length + 1) l [] = S := ⟨_, rfl⟩
  rw [hS] at hR
  refine enterA1 Tryd.func42 rfl rfl rfl ?_; refine zS (zR ?_); refine zw rfl (WrA.alloc (tyrow rfl)) ?_
  rintro _ _ _ ⟨g2, rfl, rfl, rfl⟩
  refine zN (zT (zS (XA.block ?_)))
  refine XA.gen [(0, _), (2, _)] ⟨(by with_reducible (conv => lhs; whnf)), (by with_reducible (conv => lhs; whnf)), trivial⟩ (fun δ => ?_)
  dsimp only [List.foldl]
  refine XA.loop [(0, 0), (3, 4), (6, 30)] (fun q : (Nat × Nat) × (Option Addr × Nat) => [(0, ptr b)]) (fun q σ' Γ' => σ = σ' ∧ ∃ (lc : List Tk) (acc : List Va) (pp : Option Addr) (pc : Nat) (rows : List (List Value)), S = letsG e (lc.length + 1) lc acc ∧ (∀ t ∈ lc, TkF t) ∧ lc.length = q.1.2 ∧ acc.length = q.1.1 ∧ q.1.1 + q.1.2 ≤ 10000 ∧ PSl 4 rTk σ' (.slice pp lc.length pc) lc ∧ Rows_ 2 rVa σ' rows acc ∧ Γ' = [lst 51 2 (.slice q.2.1 q.1.1 q.2.2) q.1.1 rows.flatten, blk b [.slice pp lc.length pc, i64 e, .slice q.2.1 q.1.1 q.2.2] 83, blk g2 ty25.zero 25]) (fun q => q.1.2) ((0, l.length), (none, 0)) (by exact ⟨rfl, trivial⟩) (Δ0 := _) ?_ (⟨rfl, l, [], p, c, [], hS.symm, hF, rfl, rfl, by simpa using hL, hl, Rows_.nil _ _ _, rfl⟩) ?_
  · exact zE
  rintro ⟨⟨i, n⟩, ⟨pl, cl⟩⟩ δ _ _ ⟨rfl, lc, acc, pp, pc, rows, hSc, hFc, hn, hacc, hin, hlc, hrows, rfl⟩
  dsimp only [ovr, List.foldl]
  simp only at hn hacc hin
  subst hn
  rw [letsG] at hSc
  cases hq : isT kwLet lc with
  | true =>
    obtain ⟨t1, l1, rfl⟩ := isT_cons hq
    rw [if_pos hq, List.tail_cons] at hSc
    have hF1 : ∀ t ∈ l1, TkF t := fun t ht => hFc t (by simp [ht])
    refine zS (zS (zR (yA ?_))); refine zw rfl (WrA.cE (is_yes σ b pp pc e _ t1 l1 kwLet hlc hq) rfl) ?_
    rintro _ _ _ ⟨_, ⟨rfl, p1, c1, hl1, rfl, rfl⟩, rfl⟩
    refine XOA.cl ?_; refine zN (zT (yT rfl rfl (XA.skip (zT (XA.block (zS (zR (yA ?_))))))))
    cases hnm : nameP e l1 with
    | error x =>
      rw [hnm] at hSc
      simp only [bindP] at hSc
      rw [hSc] at hR
      simp only [bindP] at hR
      obtain ⟨rfl, hx⟩ := nameP_err hnm
      refine XOA.die rfl (name_bad σ b p1 c1 e _ l1 hl1 (fun t ht => (hF1 t ht).1) hx) rfl ?_
      rintro _ _ _ ⟨rfl, rfl, rfl⟩
      refine DA.cl ?_
      repeat (first | refine DA.thn_panic ?_ | refine DA.inb_panic ?_)
      exact bodyA.panic zE ⟨_, hR0.trans hR.symm, rfl, .refl _, _, rfl⟩
    | ok y =>
      obtain ⟨s, l2⟩ := y
      rw [hnm] at hSc
      simp only [bindP] at hSc
      obtain ⟨t2, rfl, h2, rfl⟩ := nameP_ok hnm
      have hF2 : ∀ t ∈ l2, TkF t := fun t ht => hF1 t (by simp [ht])
      refine zw rfl (WrA.cE (name_ok σ b p1 c1 e _ t2 l2 hl1 (hF1 t2 (by simp)).1 h2) rfl) ?_
      rintro _ _ _ ⟨_, ⟨rfl, p2, c2, hl2, rfl, rfl⟩, rfl⟩
      refine XOA.cl ?_; refine zO rfl (Rd.bl (fun _ _ => tyrow) rfl rfl rfl) ?_; refine zw rfl (WrA.alloc (tyrow rfl)) ?_
      rintro _ _ _ ⟨g3, rfl, rfl, rfl⟩
      refine zw rfl (WrA.st (tyrow rfl) rfl) ?_
      rintro _ _ _ ⟨rfl, rfl, rfl⟩
      refine zN (zT (zS (zR (yA ?_))))
      cases hnu : numP e l2 with
      | error x =>
        rw [hnu] at hSc
        simp only at hSc
        rw [hSc] at hR
        simp only [bindP] at hR
        obtain ⟨rfl, hx⟩ := numP_err hnu
        refine XOA.die rfl (num_bad σ b p2 c2 e _ l2 hl2 hx) rfl ?_
        rintro _ _ _ ⟨rfl, rfl, rfl⟩
        refine DA.cl ?_
        repeat (first | refine DA.thn_panic ?_ | refine DA.inb_panic ?_)
        exact bodyA.panic zE ⟨_, hR0.trans hR.symm, rfl, .refl _, _, rfl⟩
      | ok y =>
        obtain ⟨n3, l3⟩ := y
        rw [hnu] at hSc
        simp only at hSc
        obtain ⟨t3, rfl, h3, rfl⟩ := numP_ok hnu
        have hF3 : ∀ t ∈ l3, TkF t := fun t ht => hF2 t (by simp [ht])
        have hN3 := (hF2 t3 (by simp)).2
        have hT2 := (hF1 t2 (by simp)).1
        simp only [List.length_cons] at hin
        have hSn : S = letsG e (l3.length + 1) l3 (acc ++ [⟨t2.text, cutN t3.n⟩]) := by
          rw [hSc]
          exact letsG_fuel _ _ _ _ (by simp only [List.length_cons]; omega) (by omega)
        by_cases h1 : t3.n < 1
        · skip
          have hcut : cutN t3.n = 0 := by rw [cutN]; rw [if_pos (.inl h1)]
          rw [hcut] at hSn
          refine zw rfl (WrA.cE (num_ok σ b p2 c2 e _ t3 l3 hl2 h3) rfl) ?_
          rintro _ _ _ ⟨_, ⟨rfl, p3, c3, hl3, rfl, rfl⟩, rfl⟩
          refine XOA.cl ?_; refine yS ?_; refine zN (zT (zS (zS (zR (yA ?_))))); refine zO rfl (Rd.lss rfl rfl) ?_; refine yA ?_
          first | refine gA ?_ | refine zH ?_
          first | (refine zG ?_; refine zO rfl (Rd.gtr rfl rfl) ?_) | refine zH ?_
          refine zO rfl zP ?_; refine zN (zT (XA.condT rfl (by first | rfl | exact decide_eq_true h1) ?_)); refine zR (yS ?_); refine zN (zT (zS (zR (yA ?_)))); refine yV ?_
          refine zw rfl (WrA.st (tyrow rfl) rfl) ?_
          rintro _ _ _ ⟨rfl, rfl, rfl⟩
          refine zN (zT ?_)
          refine XA.draw (by kernel_rfl) _ _ [7, 10] [(0, .pu), (1, .pu), (2, .pu), (3, .pu), (4, .rd), (5, .rd), (6, .wr), (7, .wr), (8, .pu), (9, .pu), (10, .wr)] (by kernel_rfl) (PH.sub.refl _) (Ent.sel (R := blk b _ _) zL (Ent.sel (R := blk g3 _ _) zL (Ent.nil _))) ?_
          refine zu rfl rfl Rd.mv ?_; refine zu rfl rfl Rd.mv ?_; refine zu rfl rfl (Rd.nilCheck rfl) ?_; refine zu rfl rfl (Rd.fA rfl) ?_; refine XPA.rd rfl rfl Gd.free (Rd.ldC rfl (tyrow rfl) rfl) ?_; refine XPA.rd rfl rfl Gd.free (Rd.ldA rfl) ?_
          refine XPA.wr0 rfl rfl Gd.free (WrA.bs1 (tyrow rfl) rfl (tyrow rfl)) ?_
          rintro _ _ _ ⟨g27, rfl, rfl, rfl⟩
          refine stays ?_
          refine XPA.wrZ0 rfl rfl Gd.free (by kernel_rfl) (WrA.ap1 (tyrow rfl) rfl (tyrow rfl) rfl rfl rfl) ?_
          rintro _ _ _ ⟨p28, c28, rfl, rfl, rfl⟩
          refine zu rfl rfl (Rd.nilCheck rfl) ?_; refine zu rfl rfl (Rd.fA rfl) ?_
          refine XPA.wrZ0 rfl rfl Gd.free (by kernel_rfl) (WrA.st (tyrow rfl) rfl) ?_
          rintro _ _ _ ⟨rfl, rfl, rfl⟩
          refine XPA.nil ?_; refine DA.inb_normal (zT ?_)
          have hnew : Rows_ 2 rVa σ (rows ++ [[.string t2.text, i64 0]]) (acc ++ [⟨t2.text, 0⟩]) := hrows.snoc rfl ⟨rfl, (show i64ok 0 from ⟨by decide, by decide⟩), hT2⟩
          refine ⟨(Keep.updN (Keep.upd (Keep.upd (Keep.updO (Keep.updO (Keep.upd (Keep.upd (Keep.upd (Keep.upd (Keep.upd (Keep.upd (Keep.updN (Keep.upd (Keep.upd (Keep.upd (Keep.upd (Keep.upd (Keep.upd (Keep.upd (Keep.upd (Keep.upd (Keep.upd (Keep.updO (Keep.upd (Keep.updN (Keep.updO (Keep.upd (Keep.updO (Keep.upd (Keep.updO (Keep.upd (Keep.upd (Keep.hav (Keep.hav (Keep.hav (Keep.refl _ _) rfl) rfl) rfl) rfl) rfl) rfl) rfl) rfl) rfl) rfl)) rfl) rfl) rfl) rfl) rfl) rfl) rfl) rfl) rfl) rfl) rfl) rfl)) rfl) rfl) rfl) rfl) rfl) rfl) rfl) rfl) rfl) rfl)), ((i + 1, l3.length), (p28, c28)), _, zM, ?_, ⟨rfl, l3, acc ++ [⟨t2.text, 0⟩], p3, c3, rows ++ [[.string t2.text, i64 0]], hSn, hF3, rfl, (by rw [List.length_append, hacc]; rfl), (by show i + 1 + l3.length ≤ 10000; omega), hl3, hnew, rfl⟩, (by show l3.length < (t1 :: t2 :: t3 :: l3).length; simp only [List.length_cons]; omega)⟩
          · rw [flatS]; exact zE
        by_cases h48 : t3.n > 48
        · skip
          have hcut : cutN t3.n = 0 := by rw [cutN]; rw [if_pos (.inr h48)]
          rw [hcut] at hSn
          refine zw rfl (WrA.cE (num_ok σ b p2 c2 e _ t3 l3 hl2 h3) rfl) ?_
          rintro _ _ _ ⟨_, ⟨rfl, p3, c3, hl3, rfl, rfl⟩, rfl⟩
          refine XOA.cl ?_; refine yS ?_; refine zN (zT (zS (zS (zR (yA ?_))))); refine zO rfl (Rd.lss rfl rfl) ?_; refine yA ?_
          first | refine gA ?_ | refine zH ?_
          first | (refine zG ?_; refine zO rfl (Rd.gtr rfl rfl) ?_) | refine zH ?_
          refine zO rfl zP ?_; refine zN (zT (XA.condT rfl (by first | rfl | exact decide_eq_true h48) ?_)); refine zR (yS ?_); refine zN (zT (zS (zR (yA ?_)))); refine yV ?_
          refine zw rfl (WrA.st (tyrow rfl) rfl) ?_
          rintro _ _ _ ⟨rfl, rfl, rfl⟩
          refine zN (zT ?_)
          refine XA.draw (by kernel_rfl) _ _ [7, 10] [(0, .pu), (1, .pu), (2, .pu), (3, .pu), (4, .rd), (5, .rd), (6, .wr), (7, .wr), (8, .pu), (9, .pu), (10, .wr)] (by kernel_rfl) (PH.sub.refl _) (Ent.sel (R := blk b _ _) zL (Ent.sel (R := blk g3 _ _) zL (Ent.nil _))) ?_
          refine zu rfl rfl Rd.mv ?_; refine zu rfl rfl Rd.mv ?_; refine zu rfl rfl (Rd.nilCheck rfl) ?_; refine zu rfl rfl (Rd.fA rfl) ?_; refine XPA.rd rfl rfl Gd.free (Rd.ldC rfl (tyrow rfl) rfl) ?_; refine XPA.rd rfl rfl Gd.free (Rd.ldA rfl) ?_
          refine XPA.wr0 rfl rfl Gd.free (WrA.bs1 (tyrow rfl) rfl (tyrow rfl)) ?_
          rintro _ _ _ ⟨g27, rfl, rfl, rfl⟩
          refine stays ?_
          refine XPA.wrZ0 rfl rfl Gd.free (by kernel_rfl) (WrA.ap1 (tyrow rfl) rfl (tyrow rfl) rfl rfl rfl) ?_
          rintro _ _ _ ⟨p28, c28, rfl, rfl, rfl⟩
          refine zu rfl rfl (Rd.nilCheck rfl) ?_; refine zu rfl rfl (Rd.fA rfl) ?_
          refine XPA.wrZ0 rfl rfl Gd.free (by kernel_rfl) (WrA.st (tyrow rfl) rfl) ?_
          rintro _ _ _ ⟨rfl, rfl, rfl⟩
          refine XPA.nil ?_; refine DA.inb_normal (zT ?_)
          have hnew : Rows_ 2 rVa σ (rows ++ [[.string t2.text, i64 0]]) (acc ++ [⟨t2.text, 0⟩]) := hrows.snoc rfl ⟨rfl, (show i64ok 0 from ⟨by decide, by decide⟩), hT2⟩
          refine ⟨(Keep.updN (Keep.upd (Keep.upd (Keep.updO (Keep.updO (Keep.upd (Keep.upd (Keep.upd (Keep.upd (Keep.upd (Keep.upd (Keep.updN (Keep.upd (Keep.upd (Keep.upd (Keep.upd (Keep.upd (Keep.upd (Keep.upd (Keep.upd (Keep.upd (Keep.upd (Keep.updO (Keep.upd (Keep.updN (Keep.updO (Keep.upd (Keep.updO (Keep.upd (Keep.updO (Keep.upd (Keep.upd (Keep.hav (Keep.hav (Keep.hav (Keep.refl _ _) rfl) rfl) rfl) rfl) rfl) rfl) rfl) rfl) rfl) rfl)) rfl) rfl) rfl) rfl) rfl) rfl) rfl) rfl) rfl) rfl) rfl) rfl)) rfl) rfl) rfl) rfl) rfl) rfl) rfl) rfl) rfl) rfl)), ((i + 1, l3.length), (p28, c28)), _, zM, ?_, ⟨rfl, l3, acc ++ [⟨t2.text, 0⟩], p3, c3, rows ++ [[.string t2.text, i64 0]], hSn, hF3, rfl, (by rw [List.length_append, hacc]; rfl), (by show i + 1 + l3.length ≤ 10000; omega), hl3, hnew, rfl⟩, (by show l3.length < (t1 :: t2 :: t3 :: l3).length; simp only [List.length_cons]; omega)⟩
          · rw [flatS]; exact zE
        have hcut : cutN t3.n = t3.n := by rw [cutN]; rw [if_neg (by omega)]
        rw [hcut] at hSn
        refine zw rfl (WrA.cE (num_ok σ b p2 c2 e _ t3 l3 hl2 h3) rfl) ?_
        rintro _ _ _ ⟨_, ⟨rfl, p3, c3, hl3, rfl, rfl⟩, rfl⟩
        refine XOA.cl ?_; refine yS ?_; refine zN (zT (zS (zS (zR (yA ?_))))); refine zO rfl (Rd.lss rfl rfl) ?_; refine yA ?_
        first | refine gA ?_ | refine zH ?_
        first | (refine zG ?_; refine zO rfl (Rd.gtr rfl rfl) ?_) | refine zH ?_
        refine zO rfl zP ?_; refine zN (zT (XA.condF rfl (by first | rfl | exact decide_eq_false h48) ?_)); refine XA.skip (zT (zS (zR (yA ?_)))); refine yV ?_
        refine zw rfl (WrA.st (tyrow rfl) rfl) ?_
        rintro _ _ _ ⟨rfl, rfl, rfl⟩
        refine zN (zT ?_)
        refine XA.draw (by kernel_rfl) _ _ [7, 10] [(0, .pu), (1, .pu), (2, .pu), (3, .pu), (4, .rd), (5, .rd), (6, .wr), (7, .wr), (8, .pu), (9, .pu), (10, .wr)] (by kernel_rfl) (PH.sub.refl _) (Ent.sel (R := blk b _ _) zL (Ent.sel (R := blk g3 _ _) zL (Ent.nil _))) ?_
        refine zu rfl rfl Rd.mv ?_; refine zu rfl rfl Rd.mv ?_; refine zu rfl rfl (Rd.nilCheck rfl) ?_; refine zu rfl rfl (Rd.fA rfl) ?_; refine XPA.rd rfl rfl Gd.free (Rd.ldC rfl (tyrow rfl) rfl) ?_; refine XPA.rd rfl rfl Gd.free (Rd.ldA rfl) ?_
        refine XPA.wr0 rfl rfl Gd.free (WrA.bs1 (tyrow rfl) rfl (tyrow rfl)) ?_
        rintro _ _ _ ⟨g27, rfl, rfl, rfl⟩
        refine stays ?_
        refine XPA.wrZ0 rfl rfl Gd.free (by kernel_rfl) (WrA.ap1 (tyrow rfl) rfl (tyrow rfl) rfl rfl rfl) ?_
        rintro _ _ _ ⟨p28, c28, rfl, rfl, rfl⟩
        refine zu rfl rfl (Rd.nilCheck rfl) ?_; refine zu rfl rfl (Rd.fA rfl) ?_
        refine XPA.wrZ0 rfl rfl Gd.free (by kernel_rfl) (WrA.st (tyrow rfl) rfl) ?_
        rintro _ _ _ ⟨rfl, rfl, rfl⟩
        refine XPA.nil ?_; refine DA.inb_normal (zT ?_)
        have hnew : Rows_ 2 rVa σ (rows ++ [[.string t2.text, i64 t3.n]]) (acc ++ [⟨t2.text, t3.n⟩]) := hrows.snoc rfl ⟨rfl, hN3, hT2⟩
        refine ⟨(Keep.updN (Keep.upd (Keep.upd (Keep.updO (Keep.updO (Keep.upd (Keep.upd (Keep.upd (Keep.upd (Keep.upd (Keep.upd (Keep.updN (Keep.upd (Keep.upd (Keep.upd (Keep.upd (Keep.upd (Keep.upd (Keep.upd (Keep.upd (Keep.upd (Keep.updO (Keep.upd (Keep.updN (Keep.updO (Keep.upd (Keep.updO (Keep.upd (Keep.updO (Keep.upd (Keep.upd (Keep.hav (Keep.hav (Keep.hav (Keep.refl _ _) rfl) rfl) rfl) rfl) rfl) rfl) rfl) rfl) rfl) rfl)) rfl) rfl) rfl) rfl) rfl) rfl) rfl) rfl) rfl) rfl) rfl)) rfl) rfl) rfl) rfl) rfl) rfl) rfl) rfl) rfl) rfl)), ((i + 1, l3.length), (p28, c28)), _, zM, ?_, ⟨rfl, l3, acc ++ [⟨t2.text, t3.n⟩], p3, c3, rows ++ [[.string t2.text, i64 t3.n]], hSn, hF3, rfl, (by rw [List.length_append, hacc]; rfl), (by show i + 1 + l3.length ≤ 10000; omega), hl3, hnew, rfl⟩, (by show l3.length < (t1 :: t2 :: t3 :: l3).length; simp only [List.length_cons]; omega)⟩
        · rw [flatS]; exact zE
  | false =>
    rw [if_neg (by rw [hq]; exact Bool.noConfusion)] at hSc
    rw [hSc] at hR
    simp only [bindP] at hR
    subst hacc
    refine zS (zS (zR (yA ?_))); refine yC (is_no σ b pp pc e _ lc kwLet hlc hq) ?_; refine zN (zT (yF rfl rfl (XA.exit (DA.thn_exit (DA.thn_exit (DA.inb_same (zT (zS (zR ?_))))))))); refine zw rfl (WrA.alloc (tyrow rfl)) ?_
    rintro _ _ _ ⟨g5, rfl, rfl, rfl⟩
    refine zN (zT (zS (zR (yA ?_)))); refine XOA.frz (R := lst 51 2 _ _ _) zL lst_frz lst_frz_mono ?_
    rintro σ1 ⟨⟩ hf hs1
    have hv1 : PSl 2 rVa σ1 (.slice pl acc.length cl) acc := (hrows.mono (σ' := σ1) (fun _ _ h => h)).psl rfl hf
    obtain ⟨U, hU⟩ : ∃ U, bodyG (stmtP acc e 13) (lc.length + 1) lc [] = U := ⟨_, rfl⟩
    rw [hU] at hR
    refine zO rfl (Rd.nilCheck rfl) ?_; refine yV ?_; refine yB ?_; refine yV ?_; refine zw rfl (WrA.st (tyrow rfl) rfl) ?_
    rintro _ _ _ ⟨rfl, rfl, rfl⟩
    refine zN (zT (zS (XA.block ?_)))
    refine XA.gen [(0, _), (2, _), (5, _)] ⟨(by with_reducible (conv => lhs; whnf)), (by with_reducible (conv => lhs; whnf)), (by with_reducible (conv => lhs; whnf)), trivial⟩ (fun δ => ?_)
    dsimp only [List.foldl]
    refine XA.loop [(0, 0), (36, 48)] (fun i : Nat × Nat => [(0, ptr b)]) (fun i σ' Γ' => σ1.sub σ' ∧ ∃ (ld : List Tk) (acd : List St) (pp : Option Addr) (pc : Nat) (pb : Option Addr) (cb : Nat) (rows : List (List Value)), U = bodyG (stmtP acc e 13) (ld.length + 1) ld acd ∧ (∀ t ∈ ld, TkF t) ∧ ld.length = i.2 ∧ acd.length = i.1 ∧ i.1 + i.2 ≤ 10000 ∧ PSl 4 rTk σ' (.slice pp ld.length pc) ld ∧ Rows_ 12 StAt σ' rows acd ∧ Γ' = [lst 56 12 (.slice pb i.1 cb) i.1 rows.flatten, blk g5 [.slice pl acc.length cl, .slice pb i.1 cb] 25, blk b [.slice pp ld.length pc, i64 e, .slice pl acc.length cl] 83, blk g2 ty25.zero 25]) (fun i => i.2) (0, lc.length) (by exact ⟨rfl, trivial⟩) (Δ0 := _) ?_ (⟨.refl _, lc, [], pp, pc, none, 0, [], hU.symm, hFc, rfl, rfl, by show 0 + lc.length ≤ 10000; omega, hlc.mono hs1 (fun _ _ h => h), Rows_.nil _ _ _, rfl⟩) ?_
    · exact zE
    rintro ⟨i, n⟩ δ2 σ2 _ ⟨hs2, ld, acd, pd, cd, pb, cb, rows2, hUc, hFd, hn, hacd, hid, hld, hrows2, rfl⟩
    dsimp only [ovr, List.foldl]
    simp only at hn hacd hid
    subst hn
    have hv2 := hv1.mono hs2 (fun _ _ h => h)
    rw [bodyG] at hUc
    by_cases h0 : ld.length = 0
    · rw [if_pos h0] at hUc
      rw [hUc] at hR
      simp only [bindP] at hR
      subst hacd
      refine zS (zS (zR (yA ?_))); refine zO rfl (Rd.nilCheck rfl) ?_; refine yV ?_; refine yB ?_; refine zO rfl (Rd.lenSlice (tyrow rfl) rfl rfl) ?_; refine zO rfl (Rd.gtr rfl rfl) ?_; refine zN (zT (XA.condF rfl (by first | rfl | exact decide_eq_false (by omega)) ?_))
      refine XA.exit (DA.thn_exit (DA.thn_exit (DA.inb_same (zT (zS (zR (zO rfl (Rd.ldA rfl) ?_))))))); refine zw rfl (WrA.st (tyrow rfl) rfl) ?_
      rintro _ _ _ ⟨rfl, rfl, rfl⟩
      refine zN (zT (XA.ret ?_)); refine DA.frz (R := lst 56 12 _ _ _) zL lst_frz lst_frz_mono ?_
      rintro σ3 ⟨⟩ hf3 hs3
      exact bodyA.ret (ResA.cell rfl rfl (Ld.atBlk (tyrow rfl) rfl zL rfl (by first | exact take0 (by first | rfl | assumption | (refine (ints_len _).trans ?_; assumption) | (simp [*]; (first | done | fail))) | assumption | exact take_app (by first | rfl | assumption | (refine (ints_len _).trans ?_; assumption) | (simp [*]; (first | done | fail))) | (conv => lhs; simp only [List.drop_succ_cons, List.drop_zero, List.take_succ_cons, List.take_zero])) (by first | rfl | assumption | (refine (ints_len _).trans ?_; assumption) | (simp [*]; (first | done | fail))))) zE ⟨_, _, hR0.trans hR.symm, _, rfl, ⟨_, _, rfl, hv2.mono hs3 (fun _ _ h => h), (hrows2.mono (fun _ _ h => h.mono hs3)).psl rfl hf3⟩, hs1.trans (hs2.trans hs3), _, rfl⟩
    · rw [if_neg h0] at hUc
      cases hx : stmtP acc e 13 ld with
      | error x =>
        rw [hx] at hUc
        simp only at hUc
        rw [hUc] at hR
        simp only [bindP] at hR
        refine zS (zS (zR (yA ?_))); refine zO rfl (Rd.nilCheck rfl) ?_; refine yV ?_; refine yB ?_; refine zO rfl (Rd.lenSlice (tyrow rfl) rfl rfl) ?_; refine zO rfl (Rd.gtr rfl rfl) ?_; refine zN (zT (XA.condT rfl (by first | rfl | exact decide_eq_true (by omega)) ?_))
        refine XA.skip (zT (XA.block ?_))
        refine XA.draw (by kernel_rfl) _ _ [5, 7] [(0, .pu), (1, .rd), (2, .pu), (3, .wr), (4, .wr), (5, .wr), (6, .pu), (7, .wr)] (by kernel_rfl) (PH.sub.refl _) (Ent.sel (R := blk g5 _ _) zL (Ent.nil _)) ?_
        refine zu rfl rfl (Rd.fA rfl) ?_; refine XPA.rd rfl rfl Gd.free (Rd.ldC rfl (tyrow rfl) rfl) ?_; refine zu rfl rfl Rd.mv ?_
        refine XPA.die rfl rfl Gd.free ((stmt_p acc e 13).bad hv2 hld hFd (by decide) (by decide) (by omega) hx) rfl ?_
        rintro _ σ3 _ ⟨rfl, hs3, cs3, rfl⟩
        refine DA.cl ?_
        repeat (first | refine DA.thn_panic ?_ | refine DA.inb_panic ?_)
        exact bodyA.panic zE ⟨_, hR0.trans hR.symm, rfl, hs1.trans (hs2.trans hs3), _, rfl⟩
      | ok y =>
        obtain ⟨x, l'⟩ := y
        rw [hx] at hUc
        simp only at hUc
        have hsb := stmtP_sub 13 _ _ _ hx
        have hlt := hsb.2
        have hUn : U = bodyG (stmtP acc e 13) (l'.length + 1) l' (acd ++ [x]) := by
          rw [hUc]
          exact bodyG_fuel (fun l x l' h => (stmtP_sub 13 l x l' h).2) _ _ _ _ hlt (by omega)
        refine zS (zS (zR (yA ?_))); refine zO rfl (Rd.nilCheck rfl) ?_; refine yV ?_; refine yB ?_; refine zO rfl (Rd.lenSlice (tyrow rfl) rfl rfl) ?_; refine zO rfl (Rd.gtr rfl rfl) ?_; refine zN (zT (XA.condT rfl (by first | rfl | exact decide_eq_true (by omega)) ?_))
        refine XA.skip (zT (XA.block ?_))
        refine XA.draw (by kernel_rfl) _ _ [5, 7] [(0, .pu), (1, .rd), (2, .pu), (3, .wr), (4, .wr), (5, .wr), (6, .pu), (7, .wr)] (by kernel_rfl) (PH.sub.refl _) (Ent.sel (R := blk g5 _ _) zL (Ent.nil _)) ?_
        refine zu rfl rfl (Rd.fA rfl) ?_; refine XPA.rd rfl rfl Gd.free (Rd.ldC rfl (tyrow rfl) rfl) ?_; refine zu rfl rfl Rd.mv ?_
        refine XPA.wr0 rfl rfl Gd.free (WrA.cE ((stmt_p acc e 13).ok hv2 hld hFd (by decide) (by decide) (by omega) hx) rfl) ?_
        rintro _ σ3 _ ⟨_, ⟨cs3, p', c', rfl, hcs3, hl', hs3, rfl⟩, rfl⟩
        refine stays (XPA.cl ?_)
        have hl2' := hcs3.len
        have hone2 := hcs3.ones
        refine XPA.wr0 rfl rfl Gd.free (WrA.bs1 (tyrow rfl) rfl (tyrow rfl)) ?_
        rintro _ _ _ ⟨g46, rfl, rfl, rfl⟩
        refine stays ?_
        refine XPA.wrZ0 rfl rfl Gd.free (by kernel_rfl) (WrA.ap1 (tyrow rfl) rfl (tyrow rfl) rfl rfl rfl) ?_
        rintro _ _ _ ⟨p47, c47, rfl, rfl, rfl⟩
        refine zu rfl rfl (Rd.fA rfl) ?_
        refine XPA.wrZ0 rfl rfl Gd.free (by kernel_rfl) (WrA.st (tyrow rfl) rfl) ?_
        rintro _ _ _ ⟨rfl, rfl, rfl⟩
        refine XPA.nil ?_; refine DA.inb_normal (zT ?_)
        have hnew : Rows_ 12 StAt σ3 (rows2 ++ [cs3]) (acd ++ [x]) := (hrows2.mono (fun _ _ h => h.mono hs3)).snoc hl2' hcs3
        refine ⟨(Keep.updN (Keep.upd (Keep.updO (Keep.updO (Keep.updO (Keep.upd (Keep.upd (Keep.upd (Keep.upd (Keep.upd (Keep.upd (Keep.upd (Keep.upd (Keep.upd (Keep.upd (Keep.hav (Keep.hav (Keep.refl _ _) rfl) rfl) rfl) rfl) rfl) rfl) rfl) rfl) rfl) rfl) rfl) rfl) rfl) rfl) rfl) rfl)), (i + 1, l'.length), _, zM, ?_, ⟨hs2.trans hs3, l', acd ++ [x], p', c', p47, c47, rows2 ++ [cs3], hUn, (fun t ht => hFd t (hsb.1.1 t ht)), rfl, (by rw [List.length_append, hacd]; rfl), (by show i + 1 + l'.length ≤ 10000; omega), hl', hnew, rfl⟩, (by show l'.length < ld.length; omega)⟩
        · rw [flatS]; exact zE
end Go.Proofs.YthefnnkmpcgcmaaDoor

namespace Go.Proofs.YthefnnkmpcgcmaaDoor
open Go X
def Eqv (l l' : List Tk) : Prop := l.map tkey = l'.map tkey
theorem Eqv.refl (l : List Tk) : Eqv l l := rfl
theorem Eqv.length {l l' : List Tk} (h : Eqv l l') : l.length = l'.length := by simpa using congrArg List.length h
theorem Eqv.cons {t : Tk} {r l' : List Tk} (h : Eqv (t :: r) l') : ∃ t' r', l' = t' :: r' ∧ t.text = t'.text ∧ t.num = t'.num ∧ t.n = t'.n ∧ Eqv r r' := by
  cases l' with
  | nil => cases h
  | cons t' r' =>
    simp only [Eqv, List.map_cons, List.cons.injEq, tkey, Prod.mk.injEq] at h
    exact ⟨t', r', rfl, h.1.1, h.1.2.1, h.1.2.2, h.2⟩
theorem Eqv.nil {l' : List Tk} (h : Eqv [] l') : l' = [] := by
  cases l' with
  | nil => rfl
  | cons t' r' => cases h
theorem Eqv.tail {l l' : List Tk} (h : Eqv l l') : Eqv l.tail l'.tail := by
  cases l with
  | nil => rw [h.nil]; rfl
  | cons t r => obtain ⟨t', r', rfl, -, -, -, h⟩ := h.cons; exact h
theorem isT_eqv {w : ByteArray} {l l' : List Tk} (h : Eqv l l') : isT w l = isT w l' := by
  cases l with
  | nil => rw [h.nil]
  | cons t r => obtain ⟨t', r', rfl, a, b, -, -⟩ := h.cons; rw [isT, isT, a, b]
theorem pickG_eqv {W : Int → ByteArray} {l l' : List Tk} (h : Eqv l l') : ∀ f k : Nat, pickG W l f k = pickG W l' f k
  | 0, _ => rfl
  | f + 1, k => by rw [pickG, pickG, isT_eqv h, pickG_eqv h f (k + 1)]
def Leads {α : Type} (a b : PR α) : Prop := ∀ x r, a = .ok (x, r) → ∃ r', b = .ok (x, r') ∧ Eqv r r'
theorem Leads.bad {α : Type} {x : Int × Int} {b : PR α} : Leads (.error x) b := fun _ _ h => by cases h
theorem Leads.ok {α : Type} {x : α} {r r' : List Tk} (h : Eqv r r') : Leads (.ok (x, r)) (.ok (x, r')) := fun _ _ q => by cases q; exact ⟨r', rfl, h⟩
theorem bindP_leads {α β : Type} {a b : PR α} {k k' : α → List Tk → PR β} (h : Leads a b) (hk : ∀ x r r', Eqv r r' → Leads (k x r) (k' x r')) : Leads (bindP a k) (bindP b k') := by
  cases a with
  | error x => exact Leads.bad
  | ok y =>
    obtain ⟨x, r⟩ := y
    obtain ⟨r', e, hr⟩ := h x r rfl
    rw [e]
    exact hk x r r' hr
section
variable {vl : List Va} {e e' : Int}
theorem numP_leads {l l' : List Tk} (h : Eqv l l') : Leads (numP e l) (numP e' l') := by
  cases l with
  | nil => exact Leads.bad
  | cons t r =>
    obtain ⟨t', r', rfl, a, b, c, h⟩ := h.cons
    rw [numP, numP, b, c]
    split
    · exact Leads.ok h
    · exact Leads.bad
theorem nameP_leads {l l' : List Tk} (h : Eqv l l') : Leads (nameP e l) (nameP e' l') := by
  cases l with
  | nil => exact Leads.bad
  | cons t r =>
    obtain ⟨t', r', rfl, a, b, c, h⟩ := h.cons
    rw [nameP, nameP, a]
    split
    · exact Leads.ok h
    · exact Leads.bad
theorem varP_leads {l l' : List Tk} (h : Eqv l l') : Leads (varP vl e l) (varP vl e' l') := by
  cases l with
  | nil => exact Leads.bad
  | cons t r =>
    obtain ⟨t', r', rfl, a, b, c, h⟩ := h.cons
    rw [varP, varP, a]
    split
    · cases idxG t'.text vl 0 with
      | some i => exact Leads.ok h
      | none => exact Leads.bad
    · exact Leads.bad
theorem headP_leads {k : Nat} {l l' : List Tk} (h : Eqv l l') : Leads (headP vl e k l) (headP vl e' k l') := by
  rw [headP, headP]
  split
  · intro x r q
    cases hn : numP e l with
    | error y => rw [hn] at q; cases q
    | ok y =>
      obtain ⟨n, r0⟩ := y
      obtain ⟨r', e1, hr⟩ := numP_leads (e := e) (e' := e') h n r0 hn
      rw [hn] at q
      cases q
      rw [e1]
      exact ⟨r', rfl, hr⟩
  · split
    · intro x r q
      cases hn : varP vl e l with
      | error y => rw [hn] at q; cases q
      | ok y =>
        obtain ⟨n, r0⟩ := y
        obtain ⟨r', e1, hr⟩ := varP_leads (vl := vl) (e := e) (e' := e') h n r0 hn
        rw [hn] at q
        cases q
        rw [e1]
        exact ⟨r', rfl, hr⟩
    · exact Leads.ok h
theorem closeP_leads {α : Type} {x : α} {l l' : List Tk} (h : Eqv l l') : Leads (closeP e x l) (closeP e' x l') := by
  rw [closeP, closeP, isT_eqv h]
  split
  · exact Leads.ok h.tail
  · exact Leads.bad
theorem subsA_leads {α : Type} {E E' : List Tk → PR α} (hE : ∀ l l', Eqv l l' → Leads (E l) (E' l')) : ∀ (m : Nat) (l l' : List Tk) (acc : List α), Eqv l l' → Leads (subsA E m l acc) (subsA E' m l' acc)
  | 0, l, l', acc, h => Leads.ok h
  | m + 1, l, l', acc, h => by
    intro x r q
    rw [subsA] at q
    cases hn : E l with
    | error y => rw [hn] at q; cases q
    | ok y =>
      obtain ⟨n, r0⟩ := y
      obtain ⟨r', e1, hr⟩ := hE l l' h n r0 hn
      rw [hn] at q
      rw [subsA, e1]
      exact subsA_leads hE m r0 r' _ hr x r q
theorem exprP_leads : ∀ (f : Nat) (l l' : List Tk), Eqv l l' → Leads (exprP vl e f l) (exprP vl e' f l')
  | 0, l, l', h => Leads.bad
  | f + 1, l, l', h => by
    rw [exprP, exprP, isT_eqv h, pickT, pickT, pickG_eqv h.tail]
    split
    · cases hk : pickG wordOf l'.tail 8 1 with
      | none => exact Leads.bad
      | some k =>
        intro x r q
        simp only at q ⊢
        cases hh : headP vl e k l.tail.tail with
        | error y => rw [hh] at q; cases q
        | ok y =>
          obtain ⟨vn, l3⟩ := y
          obtain ⟨r', e1, hr⟩ := headP_leads (vl := vl) (e := e) (e' := e') (k := k) h.tail.tail vn l3 hh
          rw [hh] at q
          rw [e1]
          simp only at q ⊢
          cases hs : subsA (exprP vl e f) (partsOf k).toNat l3 [] with
          | error y => rw [hs] at q; cases q
          | ok z =>
            obtain ⟨xs, l4⟩ := z
            obtain ⟨r2, e2, hr2⟩ := subsA_leads (exprP_leads f) _ _ _ [] hr xs l4 hs
            rw [hs] at q
            rw [e2]
            exact closeP_leads hr2 x r q
    · exact Leads.bad
theorem listG_leads {S S' : List Tk → PR St} (hS : ∀ l l', Eqv l l' → Leads (S l) (S' l')) : ∀ (g : Nat) (l l' : List Tk) (acc : List St), Eqv l l' → Leads (listG S g l acc) (listG S' g l' acc)
  | 0, l, l', acc, h => Leads.bad
  | g + 1, l, l', acc, h => by
    intro x r q
    rw [listG] at q ⊢
    rw [← isT_eqv h]
    split at q
    · rename_i hq; rw [if_pos hq]; exact Leads.ok h.tail x r q
    · rename_i hq
      rw [if_neg hq]
      cases hn : S l with
      | error y => rw [hn] at q; cases q
      | ok y =>
        obtain ⟨n, r0⟩ := y
        obtain ⟨r', e1, hr⟩ := hS l l' h n r0 hn
        rw [hn] at q
        rw [e1]
        exact listG_leads hS g r0 r' _ hr x r q
theorem listP_leads {S S' : List Tk → PR St} (hS : ∀ l l', Eqv l l' → Leads (S l) (S' l')) {l l' : List Tk} (h : Eqv l l') : Leads (listP S e l) (listP S' e' l') := by
  rw [listP, listP, isT_eqv h, h.tail.length]
  split
  · exact listG_leads hS _ _ _ _ h.tail
  · exact Leads.bad
theorem optP_leads {α : Type} {b : Bool} {z : α} {a a' : List Tk → PR α} (ha : ∀ l l', Eqv l l' → Leads (a l) (a' l')) {l l' : List Tk} (h : Eqv l l') : Leads (optP b z a l) (optP b z a' l') := by
  rw [optP, optP]
  split
  · exact ha _ _ h
  · exact Leads.ok h
theorem stmtP_leads : ∀ (f : Nat) (l l' : List Tk), Eqv l l' → Leads (stmtP vl e f l) (stmtP vl e' f l')
  | 0, l, l', h => Leads.bad
  | f + 1, l, l', h => by
    rw [stmtP, stmtP, isT_eqv h, pickT, pickT, pickG_eqv h.tail]
    split
    · cases hk : pickG verbOf l'.tail 7 1 with
      | none => exact Leads.bad
      | some k =>
        simp only
        refine bindP_leads (optP_leads (fun _ _ => varP_leads) h.tail.tail) fun v r r' h => ?_; refine bindP_leads (optP_leads (exprP_leads f) h) fun x r r' h => ?_; refine bindP_leads (optP_leads (exprP_leads f) h) fun y r r' h => ?_
        refine bindP_leads (optP_leads (fun _ _ => listP_leads (stmtP_leads f)) h) fun b r r' h => ?_
        exact bindP_leads (optP_leads (fun _ _ => listP_leads (stmtP_leads f)) h) fun el r r' h => closeP_leads h
    · exact Leads.bad
theorem letsG_leads : ∀ (g : Nat) (l l' : List Tk) (acc : List Va), Eqv l l' → Leads (letsG e g l acc) (letsG e' g l' acc)
  | 0, l, l', acc, h => Leads.bad
  | g + 1, l, l', acc, h => by
    rw [letsG, letsG, isT_eqv h]
    split
    · exact bindP_leads (nameP_leads h.tail) fun s r r' h => bindP_leads (numP_leads h) fun n r r' h => letsG_leads g _ _ _ h
    · exact Leads.ok h
theorem bodyG_leads {S S' : List Tk → PR St} (hS : ∀ l l', Eqv l l' → Leads (S l) (S' l')) : ∀ (g : Nat) (l l' : List Tk) (acc : List St), Eqv l l' → Leads (bodyG S g l acc) (bodyG S' g l' acc)
  | 0, l, l', acc, h => Leads.bad
  | g + 1, l, l', acc, h => by
    intro x r q
    rw [bodyG] at q ⊢
    rw [← h.length]
    split at q
    · rename_i hq; rw [if_pos hq]; exact Leads.ok h x r q
    · rename_i hq
      rw [if_neg hq]
      cases hn : S l with
      | error y => rw [hn] at q; cases q
      | ok y =>
        obtain ⟨n, r0⟩ := y
        obtain ⟨r', e1, hr⟩ := hS l l' h n r0 hn
        rw [hn] at q
        rw [e1]
        exact bodyG_leads hS g r0 r' _ hr x r q
theorem progP_leads {l l' : List Tk} (h : Eqv l l') : Leads (progP e l) (progP e' l') := by
  rw [progP, progP, h.length]
  refine bindP_leads (letsG_leads _ _ _ _ h) fun vl r r' h => ?_
  rw [h.length]
  exact bindP_leads (bodyG_leads (stmtP_leads 13) _ _ _ _ h) fun b r r' h => Leads.ok h
end
end Go.Proofs.YthefnnkmpcgcmaaDoor

namespace Go.Proofs.YthefnnkmpcgcmaaDoor
open Go X
def dgt (c : UInt8) : Nat := c.toNat - 48
def valD : List UInt8 → Nat → Nat
  | [], acc => acc
  | c :: r, acc => valD r (acc * 10 + dgt c)
theorem valD_ge : ∀ (l : List UInt8) (acc : Nat), acc ≤ valD l acc
  | [], acc => Nat.le_refl _
  | c :: r, acc => by have := valD_ge r (acc * 10 + dgt c); rw [valD]; omega
theorem valD_app (c : UInt8) : ∀ (l : List UInt8) (acc : Nat), valD (l ++ [c]) acc = valD l acc * 10 + dgt c
  | [], acc => rfl
  | d :: r, acc => by rw [List.cons_append, valD, valD, valD_app c r]
def digU (c : UInt8) : Prop := 48 ≤ c.toNat ∧ c.toNat ≤ 57
theorem parseU_dig {M : Nat} (hM : M ≤ 18446744073709551615) : ∀ (l : List UInt8) (acc : Nat), (∀ c ∈ l, digU c) → valD l acc ≤ M → Lib.parseUintM M acc l = .ok (valD l acc)
  | [], acc, _, _ => rfl
  | c :: r, acc, hd, hv => by
    have h1 := valD_ge r (acc * 10 + dgt c)
    rw [valD] at hv ⊢
    have hc : 48 ≤ c.toNat ∧ c.toNat ≤ 57 := hd c (by simp)
    have ih := parseU_dig hM r _ (fun x hx => hd x (by simp [hx])) hv
    unfold dgt at *
    rw [Lib.parseUintM, if_pos hc, if_neg (by omega), if_neg (by omega)]
    exact ih
theorem dig_of {k : Nat} (h : k < 10) : digU (UInt8.ofNat (48 + k)) ∧ dgt (UInt8.ofNat (48 + k)) = k := by
  have : (UInt8.ofNat (48 + k)).toNat = 48 + k := by simp; omega
  unfold digU dgt
  rw [this]
  omega
theorem dec_dig (u : Nat) : (∀ c ∈ Lib.decDigits u, digU c) ∧ valD (Lib.decDigits u) 0 = u ∧ Lib.decDigits u ≠ [] := by
  induction u using Nat.strongRecOn with
  | _ u ih =>
    rw [Lib.decDigits]
    by_cases h : u < 10
    · rw [dif_pos h]
      obtain ⟨h1, h2⟩ := dig_of h
      refine ⟨fun c hc => by rw [List.mem_singleton.1 hc]; exact h1, ?_, by simp⟩
      rw [valD, valD, h2]; omega
    · rw [dif_neg h]
      obtain ⟨i1, i2, i3⟩ := ih (u / 10) (by omega)
      obtain ⟨h1, h2⟩ := dig_of (k := u % 10) (Nat.mod_lt _ (by decide))
      refine ⟨fun c hc => ?_, ?_, by simp⟩
      · rcases List.mem_append.1 hc with hc | hc
        · exact i1 c hc
        · rw [List.mem_singleton.1 hc]; exact h1
      · rw [valD_app, i2, h2]; omega
theorem parseU_dec {u : Nat} (h : u ≤ 18446744073709551615) : Lib.parseUintB 64 (Lib.decDigits u) = .ok u := by
  obtain ⟨d1, d2, d3⟩ := dec_dig u
  rw [Lib.parseUintB, if_neg d3, parseU_dig (by decide) _ _ d1 (by rw [d2]; exact h), d2]
theorem parse_itoa {n : Int} (h0 : -9223372036854775808 ≤ n) (h1 : n ≤ 9223372036854775807) : Lib.parseIntB 64 (Lib.itoa n) = .ok n := by
  have e63 : 2 ^ (64 - 1) = 9223372036854775808 := by decide
  by_cases hn : n < 0
  · have hp := parseU_dec (u := n.natAbs) (by omega)
    have hi : Lib.itoa n = 45 :: Lib.decDigits n.natAbs := by rw [Lib.itoa, if_pos hn]
    have h45 : (45 : UInt8).toNat = 45 := rfl
    have hneg : ¬ (¬ (45 : UInt8).toNat = 45 ∧ 2 ^ (64 - 1) ≤ n.natAbs) := fun q => q.1 rfl
    have hbig : ¬ ((45 : UInt8).toNat = 45 ∧ 2 ^ (64 - 1) < n.natAbs) := fun q => by rw [e63] at q; omega
    rw [hi]
    unfold Lib.parseIntB
    simp only
    rw [if_pos (show (45 : UInt8).toNat = 43 ∨ (45 : UInt8).toNat = 45 from Or.inr rfl), hp]
    simp only
    rw [if_neg hneg, if_neg hbig, if_pos h45]
    congr 1; omega
  · have hp := parseU_dec (u := n.toNat) (by omega)
    obtain ⟨d1, -, d3⟩ := dec_dig n.toNat
    have hi : Lib.itoa n = Lib.decDigits n.toNat := by rw [Lib.itoa, if_neg hn]
    rw [hi]
    cases hl : Lib.decDigits n.toNat with
    | nil => exact absurd hl d3
    | cons c r =>
      have hc : digU c := d1 c (by rw [hl]; simp)
      unfold digU at hc
      have hbig : ¬ (¬ c.toNat = 45 ∧ 2 ^ (64 - 1) ≤ n.toNat) := fun q => by rw [e63] at q; omega
      unfold Lib.parseIntB
      simp only
      rw [if_neg (by omega), ← hl, hp]
      simp only
      rw [if_neg hbig, if_neg (fun q => by omega), if_neg (by omega)]
      congr 1; omega
theorem itoa_shape (n : Int) : ∃ c r, Lib.itoa n = c :: r ∧ (digU c ∨ c.toNat = 45) ∧ ∀ x ∈ r, digU x := by
  by_cases hn : n < 0
  · exact ⟨45, _, by rw [Lib.itoa, if_pos hn], .inr rfl, (dec_dig n.natAbs).1⟩
  · obtain ⟨d1, -, d3⟩ := dec_dig n.toNat
    have hi : Lib.itoa n = Lib.decDigits n.toNat := by rw [Lib.itoa, if_neg hn]
    rw [hi]
    cases hl : Lib.decDigits n.toNat with
    | nil => exact absurd hl d3
    | cons c r => rw [hl] at d1; exact ⟨c, r, rfl, .inl (d1 c (by simp)), fun x hx => d1 x (by simp [hx])⟩
def tkW (w : ByteArray) : Tk := ⟨0, w, false, 0⟩
def tkN (n : Int) : Tk := ⟨0, itoaS n, true, n⟩
theorem ext_all (s : ByteArray) : s.extract 0 s.size = s := by simp
theorem byteAt_mk (l : List UInt8) (k : Nat) (h : k < l.length) : byteAt ⟨l.toArray⟩ k = (l[k]).toNat := by
  unfold byteAt
  rw [dif_pos (show k < (⟨l.toArray⟩ : ByteArray).size from h)]
  rfl
theorem nameOk_iff {s : ByteArray} (h : nameOk s = true) : (∀ i, i < s.size → 97 ≤ byteAt s i ∧ byteAt s i ≤ 122) ∧ 1 ≤ s.size ∧ s.size ≤ 8 := of_decide_eq_true h
theorem word_name {s : ByteArray} (h : nameOk s = true) : Word (tkW s) := by
  obtain ⟨h1, h2, h3⟩ := nameOk_iff h
  have hr : runB letterB s 0 = s.size := runB_all s.size 0 (fun k hk => ⟨by omega, by rw [Nat.zero_add]; exact decide_eq_true (h1 k hk)⟩) (by omega)
  have hb := h1 0 (by omega)
  refine ⟨h2, ?_⟩
  show oneT s 0 = some ⟨0, s, false, 0⟩
  rw [oneT, if_neg (by omega), if_pos (show letterB (byteAt s 0) = true from decide_eq_true hb), hr, Nat.zero_add, ext_all]
theorem itoaS_size (n : Int) : (itoaS n).size = (Lib.itoa n).length := rfl
theorem itoaS_le {n : Int} (h : i64ok n) : (itoaS n).size ≤ 21 := Lib.itoa_length_le n h.1 h.2
theorem word_num {n : Int} (h : i64ok n) : Word (tkN n) := by
  have hp := parse_itoa h.1 h.2
  have hlong : longOf (itoaS n) = some n := by rw [longOf_ok (n := n) (by show Lib.parseIntB 64 (Lib.itoa n).toArray.toList = _; simpa using hp), if_pos rfl]
  obtain ⟨c, r, hl, hc, hr⟩ := itoa_shape n
  have hz : (itoaS n).size = r.length + 1 := by rw [itoaS_size, hl, List.length_cons]
  have hat : ∀ k (h : k < r.length), byteAt (itoaS n) (k + 1) = (r[k]).toNat := fun k hk => by
    have := byteAt_mk (Lib.itoa n) (k + 1) (by rw [hl, List.length_cons]; omega)
    rw [show itoaS n = ⟨(Lib.itoa n).toArray⟩ from rfl, this]
    simp only [hl, List.getElem_cons_succ]
  have h0 : byteAt (itoaS n) 0 = c.toNat := by
    have := byteAt_mk (Lib.itoa n) 0 (by rw [hl, List.length_cons]; omega)
    rw [show itoaS n = ⟨(Lib.itoa n).toArray⟩ from rfl, this]
    simp only [hl, List.getElem_cons_zero]
  have hrun : runB digitB (itoaS n) 1 = r.length := runB_all _ _ (fun k hk => ⟨by omega, by rw [Nat.add_comm, hat k hk]; exact decide_eq_true (hr _ (List.getElem_mem hk))⟩) (by omega)
  unfold digU at hc
  refine ⟨by show 1 ≤ (itoaS n).size; omega, ?_⟩
  show oneT (itoaS n) 0 = some ⟨0, itoaS n, true, n⟩
  have hnl : ¬ letterB (byteAt (itoaS n) 0) = true := fun q => by
    have : 97 ≤ byteAt (itoaS n) 0 ∧ byteAt (itoaS n) 0 ≤ 122 := of_decide_eq_true q
    omega
  have hd : digitB (byteAt (itoaS n) 0) = true ∨ byteAt (itoaS n) 0 = 45 := by
    rcases hc with hc | hc
    · exact .inl (decide_eq_true (by rw [h0]; exact hc))
    · exact .inr (by rw [h0]; exact hc)
  have hall : (itoaS n).extract 0 (0 + 1 + runB digitB (itoaS n) (0 + 1)) = itoaS n := by
    rw [Nat.zero_add, hrun, Nat.add_comm, ← hz]; exact ext_all _
  rw [oneT, if_neg (by omega), if_neg hnl, if_pos hd, hall, hlong]
  rfl
theorem word_lpar : Word (tkW lpar) := ⟨by decide, by rfl⟩
theorem word_rpar : Word (tkW rpar) := ⟨by decide, by rfl⟩
theorem name_word {k : Int} (h : 1 ≤ k ∧ k ≤ 8) : nameOk (wordOf k) = true := by
  have hop : k = 1 ∨ k = 2 ∨ k = 3 ∨ k = 4 ∨ k = 5 ∨ k = 6 ∨ k = 7 ∨ k = 8 := by omega
  rcases hop with rfl | rfl | rfl | rfl | rfl | rfl | rfl | rfl <;> decide
theorem name_verb {k : Int} (h : 1 ≤ k ∧ k ≤ 7) : nameOk (verbOf k) = true := by
  have hop : k = 1 ∨ k = 2 ∨ k = 3 ∨ k = 4 ∨ k = 5 ∨ k = 6 ∨ k = 7 := by omega
  rcases hop with rfl | rfl | rfl | rfl | rfl | rfl | rfl <;> decide
end Go.Proofs.YthefnnkmpcgcmaaDoor

namespace Go.Proofs.YthefnnkmpcgcmaaDoor
open Go X
set_option maxHeartbeats 1000000
def sp1 : ByteArray := ⟨#[32]⟩
def nl1 : ByteArray := ⟨#[10]⟩
def nameAt (vl : List Va) (v : Int) : ByteArray := ((vl[v.toNat]?).map (·.name)).getD ByteArray.empty
def headT (vl : List Va) (op v n : Int) : ByteArray := if op = 1 then sp1 ++ itoaS n else if op = 2 ∨ op = 3 then sp1 ++ nameAt vl v else ByteArray.empty
def optT (b : Bool) (t : ByteArray) : ByteArray := if b = true then t else ByteArray.empty
mutual
def exT (vl : List Va) : Ex → ByteArray
  | .mk op v n l => lpar ++ (wordOf op ++ (headT vl op v n ++ (exsT vl l ++ rpar)))
def exsT (vl : List Va) : List Ex → ByteArray
  | [] => ByteArray.empty
  | x :: l => sp1 ++ (exT vl x ++ exsT vl l)
end
mutual
def stT (vl : List Va) : St → ByteArray
  | .mk op v e f body els => lpar ++ (verbOf op ++ (optT (needV op) (sp1 ++ nameAt vl v) ++ (optT (needE op) (sp1 ++ exT vl e) ++ (optT (needF op) (sp1 ++ exT vl f) ++
      (optT (needB op) (sp1 ++ (lpar ++ (stsT vl false body ++ rpar))) ++ (optT (needO op) (sp1 ++ (lpar ++ (stsT vl false els ++ rpar))) ++ rpar))))))
def stsT (vl : List Va) (b : Bool) : List St → ByteArray
  | [] => ByteArray.empty
  | x :: l => optT b sp1 ++ (stT vl x ++ stsT vl true l)
end
def varT (v : Va) : ByteArray := kwLet ++ (sp1 ++ (v.name ++ (sp1 ++ (itoaS v.size ++ nl1))))
def varsT : List Va → ByteArray
  | [] => ByteArray.empty
  | v :: r => varT v ++ varsT r
def bodyT (vl : List Va) : List St → ByteArray
  | [] => ByteArray.empty
  | x :: r => (stT vl x ++ nl1) ++ bodyT vl r
def prT (p : Pr) : ByteArray := varsT p.vars ++ bodyT p.vars p.body
theorem varsT_app : ∀ (l m : List Va), varsT (l ++ m) = varsT l ++ varsT m
  | [], m => by rw [List.nil_append, varsT, ByteArray.empty_append]
  | v :: r, m => by rw [List.cons_append, varsT, varsT, varsT_app r m, ByteArray.append_assoc]
theorem bodyT_app (vl : List Va) : ∀ (l m : List St), bodyT vl (l ++ m) = bodyT vl l ++ bodyT vl m
  | [], m => by rw [List.nil_append, bodyT, ByteArray.empty_append]
  | v :: r, m => by rw [List.cons_append, bodyT, bodyT, bodyT_app vl r m]; simp only [ByteArray.append_assoc]
theorem exsT_app (vl : List Va) : ∀ (l m : List Ex), exsT vl (l ++ m) = exsT vl l ++ exsT vl m
  | [], m => by rw [List.nil_append, exsT, ByteArray.empty_append]
  | v :: r, m => by rw [List.cons_append, exsT, exsT, exsT_app vl r m]; simp only [ByteArray.append_assoc]
theorem stsT_snoc (vl : List Va) (x : St) : ∀ (l : List St) (b : Bool), stsT vl b (l ++ [x]) = stsT vl b l ++ (optT (b || decide (0 < l.length)) sp1 ++ stT vl x)
  | [], b => by rw [List.nil_append, stsT, stsT, stsT, ByteArray.append_empty, ByteArray.empty_append]; simp
  | y :: r, b => by rw [List.cons_append, stsT, stsT, stsT_snoc vl x r true]; simp [ByteArray.append_assoc]
abbrev Pc := List (ByteArray × Tk)
def joinB : Pc → ByteArray
  | [] => ByteArray.empty
  | p :: r => p.1 ++ (p.2.text ++ joinB r)
theorem joinB_app : ∀ (a b : Pc), joinB (a ++ b) = joinB a ++ joinB b
  | [], b => by rw [List.nil_append, joinB, ByteArray.empty_append]
  | p :: r, b => by rw [List.cons_append, joinB, joinB, joinB_app r b]; simp only [ByteArray.append_assoc]
def br (t : Tk) : Bool := decide (t.text = lpar ∨ t.text = rpar)
def Good : Bool → Pc → Prop
  | _, [] => True
  | b, p :: r => Blank p.1 ∧ Word p.2 ∧ (b = true ∨ 1 ≤ p.1.size ∨ br p.2 = true) ∧ Good (br p.2) r
theorem br_first {t : Tk} (h : br t = true) : byteAt t.text 0 = 40 ∨ byteAt t.text 0 = 41 := by
  have h : t.text = lpar ∨ t.text = rpar := of_decide_eq_true h
  rcases h with h | h <;> rw [h]
  · exact .inl rfl
  · exact .inr rfl
theorem joinB_first {p : ByteArray × Tk} {r : Pc} {T : ByteArray} (h : Word p.2) (hz : Blank p.1) (hc : 1 ≤ p.1.size ∨ br p.2 = true) : letterB (byteAt (joinB (p :: r) ++ T) 0) = false ∧ digitB (byteAt (joinB (p :: r) ++ T) 0) = false := by
  have hw := h.1
  by_cases q : 1 ≤ p.1.size
  · have e : byteAt (joinB (p :: r) ++ T) 0 = byteAt p.1 0 := by rw [joinB, ByteArray.append_assoc]; exact byteAt_left q
    have hb : byteAt p.1 0 = 32 ∨ byteAt p.1 0 = 9 ∨ byteAt p.1 0 = 10 ∨ byteAt p.1 0 = 13 := of_decide_eq_true (hz 0 q)
    rw [e]
    exact ⟨decide_eq_false (by omega), decide_eq_false (by omega)⟩
  · have hbr := br_first (hc.resolve_left q)
    have e : byteAt (joinB (p :: r) ++ T) 0 = byteAt p.2.text 0 := by
      have := byteAt_right (A := p.1) (B := (p.2.text ++ joinB r) ++ T) (k := 0) (by simp only [ByteArray.size_append]; omega)
      rw [show p.1.size + 0 = 0 by omega] at this
      rw [joinB, ByteArray.append_assoc, this, ByteArray.append_assoc, byteAt_left hw]
    rw [e]
    exact ⟨decide_eq_false (by omega), decide_eq_false (by omega)⟩
theorem back_pc {J T : ByteArray} (hT : Blank T) : ∀ (r : Pc) (A : ByteArray) (b : Bool), Good b r → J = A ++ (joinB r ++ T) → ∀ (f : Nat) (acc : List Tk), J.size < A.size + runB blankB J A.size + f → ∃ m, scanG J f (A.size + runB blankB J A.size) acc = .ok (acc ++ m) ∧ m.map tkey = r.map (fun p => tkey p.2)
  | [], A, b, _, hJ, f, acc, hf => by
    have hJ : J = A ++ T := by rw [hJ, joinB, ByteArray.empty_append]
    have hr : runB blankB J A.size = T.size := runB_all _ _ (fun k hk => ⟨by rw [hJ, ByteArray.size_append]; omega, by rw [hJ, byteAt_right hk]; exact hT k hk⟩) (by rw [hJ, ByteArray.size_append]; omega)
    refine ⟨[], ?_, rfl⟩
    rw [List.append_nil, hr]
    exact scanG_end _ _ _ _ (by rw [hJ, ByteArray.size_append]; omega)
  | p :: r, A, b, hG, hJ, f, acc, hf => by
    obtain ⟨hz, hx, -, hG'⟩ := hG
    obtain ⟨z, x⟩ := p
    simp only at hz hx hG'
    have hJ1 : J = A ++ (z ++ (x.text ++ (joinB r ++ T))) := by rw [hJ, joinB]; simp only [ByteArray.append_assoc]
    have hJ2 : J = (A ++ z) ++ (x.text ++ (joinB r ++ T)) := by rw [hJ1, ByteArray.append_assoc]
    have hJ3 : J = (A ++ (z ++ x.text)) ++ (joinB r ++ T) := by rw [hJ1]; simp only [ByteArray.append_assoc]
    have hx1 := hx.1
    have hsz : J.size = A.size + (z.size + (x.text.size + (joinB r ++ T).size)) := by rw [hJ1, ByteArray.size_append, ByteArray.size_append, ByteArray.size_append]
    have hAz : (A ++ z).size = A.size + z.size := ByteArray.size_append
    have hA3 : (A ++ (z ++ x.text)).size = A.size + z.size + x.text.size := by rw [ByteArray.size_append, ByteArray.size_append]; omega
    have hrun : runB blankB J A.size = z.size := by
      refine runB_all _ _ (fun k hk => ⟨by omega, ?_⟩) ?_
      · rw [hJ1, byteAt_right (by rw [ByteArray.size_append]; omega), byteAt_left hk]; exact hz k hk
      · rintro ⟨-, q⟩
        have := byteAt_right (A := A ++ z) (B := x.text ++ (joinB r ++ T)) (k := 0) (by rw [ByteArray.size_append]; omega)
        rw [← hJ2, hAz, Nat.add_zero, byteAt_left hx1] at this
        rw [this, word_first hx] at q
        cases q
    have hext : J.extract (A.size + z.size) (A.size + z.size + x.text.size) = x.text := by rw [hJ2, ← hAz]; exact ext_mid
    have h0 : byteAt J (A.size + z.size) = byteAt x.text 0 := by
      have := byteAt_right (A := A ++ z) (B := x.text ++ (joinB r ++ T)) (k := 0) (by rw [ByteArray.size_append]; omega)
      rwa [← hJ2, hAz, Nat.add_zero, byteAt_left hx1] at this
    have hnext : A.size + z.size + x.text.size < J.size → byteAt J (A.size + z.size + x.text.size) = byteAt (joinB r ++ T) 0 := fun q => by
      have := byteAt_right (A := A ++ (z ++ x.text)) (B := joinB r ++ T) (k := 0) (by omega)
      rwa [← hJ3, hA3, Nat.add_zero] at this
    have hstop : br x = false → A.size + z.size + x.text.size < J.size → letterB (byteAt J (A.size + z.size + x.text.size)) = false ∧ digitB (byteAt J (A.size + z.size + x.text.size)) = false := fun hb q => by
      rw [hnext q]
      cases r with
      | nil =>
        have hTs : 0 < T.size := by rw [hsz, ByteArray.size_append, joinB, show ByteArray.empty.size = 0 from rfl] at q; omega
        have hb : byteAt T 0 = 32 ∨ byteAt T 0 = 9 ∨ byteAt T 0 = 10 ∨ byteAt T 0 = 13 := of_decide_eq_true (hT 0 hTs)
        rw [joinB, ByteArray.empty_append]
        exact ⟨decide_eq_false (by omega), decide_eq_false (by omega)⟩
      | cons p r =>
        obtain ⟨g1, g2, g3, -⟩ := hG'
        exact joinB_first g2 g1 (g3.resolve_left (by rw [hb]; exact Bool.noConfusion))
    have ho : oneT J (A.size + z.size) = some (put (A.size + z.size) x) := by
      rw [oneT_loc hext (by omega) hx1 (fun ql qn => ?_) (fun qd qn => ?_), hx.2]
      · rfl
      · cases hb : br x with
        | true => have hf := br_first hb; have : 97 ≤ byteAt J (A.size + z.size) ∧ byteAt J (A.size + z.size) ≤ 122 := of_decide_eq_true ql; omega
        | false => have := (hstop hb qn.1).1; rw [qn.2] at this; cases this
      · cases hb : br x with
        | true =>
          have hf := br_first hb
          rcases qd with qd | qd
          · have : 48 ≤ byteAt J (A.size + z.size) ∧ byteAt J (A.size + z.size) ≤ 57 := of_decide_eq_true qd; omega
          · omega
        | false => have := (hstop hb qn.1).2; rw [qn.2] at this; cases this
    rw [hrun] at hf ⊢
    obtain ⟨g, rfl⟩ : ∃ g, f = g + 1 := ⟨f - 1, by omega⟩
    obtain ⟨m, e1, e2⟩ := back_pc (J := J) hT r (A ++ (z ++ x.text)) (br x) hG' hJ3 g (acc ++ [put (A.size + z.size) x]) (by omega)
    refine ⟨put (A.size + z.size) x :: m, ?_, by rw [List.map_cons, List.map_cons, e2]; rfl⟩
    rw [scanG, if_pos (by omega), ho]
    simp only
    rw [show (put (A.size + z.size) x).text = x.text from rfl, ← hA3, e1, List.append_assoc]
    rfl
def toks (r : Pc) : List Tk := r.map (·.2)
theorem toks_app (a b : Pc) : toks (a ++ b) = toks a ++ toks b := by simp [toks]
end Go.Proofs.YthefnnkmpcgcmaaDoor

namespace Go.Proofs.YthefnnkmpcgcmaaDoor
open Go X
structure In where
  op : Int
  a : Int
  b : Int
  n : Int
deriving DecidableEq
def sizeV (vs : List Va) (v : Int) : Int := (vs[v.toNat]?.map (·.size)).getD 0
def opIn (vs : List Va) (op v n : Int) : In := ⟨op, if op = 2 ∨ op = 3 then cellOf vs v else 0, if op = 3 then sizeV vs v else 0, n⟩
mutual
def exCode (vs : List Va) : Ex → List In
  | .mk op v n l => exsCode vs l ++ [opIn vs op v n]
def exsCode (vs : List Va) : List Ex → List In
  | [] => []
  | x :: l => exCode vs x ++ exsCode vs l
end
mutual
def exH : Ex → Nat
  | .mk _ _ _ l => 1 + exsH l
def exsH : List Ex → Nat
  | [] => 0
  | x :: l => max (exH x) (exsH l)
end
mutual
def ExV (nv : Nat) : Ex → Prop
  | .mk op v n l => (1 ≤ op ∧ op ≤ 8) ∧ (l.length : Int) = partsOf op ∧ (op = 2 ∨ op = 3 → 0 ≤ v ∧ v < nv) ∧ (n ≠ 0 → op = 1) ∧ ExsV nv l
def ExsV (nv : Nat) : List Ex → Prop
  | [] => True
  | x :: l => ExV nv x ∧ ExsV nv l
end
mutual
def StV (nv : Nat) : St → Prop
  | .mk op v e f body els => (1 ≤ op ∧ op ≤ 7) ∧ (needV op = true → 0 ≤ v ∧ v < nv) ∧ (needE op = true → ExV nv e ∧ exH e ≤ 12) ∧ (needF op = true → ExV nv f ∧ exH f ≤ 12) ∧ (needB op = false → body = []) ∧ (needO op = false → els = []) ∧ StsV nv body ∧ StsV nv els
def StsV (nv : Nat) : List St → Prop
  | [] => True
  | x :: l => StV nv x ∧ StsV nv l
end
theorem ExsV.mem {nv : Nat} : ∀ {l : List Ex}, ExsV nv l → ∀ x ∈ l, ExV nv x
  | [], _, _, h => by simp at h
  | y :: l, h, x, hx => by
    rw [ExsV] at h
    rcases List.mem_cons.1 hx with rfl | hx
    · exact h.1
    · exact ExsV.mem h.2 x hx
theorem StsV.mem {nv : Nat} : ∀ {l : List St}, StsV nv l → ∀ x ∈ l, StV nv x
  | [], _, _, h => by simp at h
  | y :: l, h, x, hx => by
    rw [StsV] at h
    rcases List.mem_cons.1 hx with rfl | hx
    · exact h.1
    · exact StsV.mem h.2 x hx
theorem StsV.of {nv : Nat} : ∀ {l : List St}, (∀ x ∈ l, StV nv x) → StsV nv l
  | [], _ => by rw [StsV]; trivial
  | y :: l, h => by rw [StsV]; exact ⟨h y (by simp), StsV.of fun x hx => h x (by simp [hx])⟩
theorem fail_ok {e : JE} {b : Bool} {c l : Int} (h : e.fail b c = .ok l) : e = .ok l ∧ b = false := by
  cases e with
  | error d => simp [JE.fail] at h
  | ok a => cases b <;> simp [JE.fail] at h ⊢; exact h
theorem one_ok' {e : JE} {d l : Int} (h : e.one d = .ok l) : d ≤ 12 ∧ ∃ a, e = .ok a := by
  cases e with
  | error c => simp [JE.one] at h
  | ok a =>
    simp only [JE.one] at h
    split at h
    · simp at h
    · exact ⟨by omega, a, rfl⟩
theorem exHead_ok {nv deep op v n a b : Int} {k : Nat} (h : exHead nv deep op v n k (.ok a) = .ok b) :
    deep ≤ 12 ∧ (1 ≤ op ∧ op ≤ 8) ∧ (k : Int) = partsOf op ∧ (op = 2 ∨ op = 3 → 0 ≤ v ∧ v < nv) ∧ (n ≠ 0 → op = 1) := by
  rw [exHead, JE.named] at h
  obtain ⟨h, h5⟩ := fail_ok h
  obtain ⟨h, h4⟩ := fail_ok h
  obtain ⟨h, h3⟩ := fail_ok h
  obtain ⟨h, h2⟩ := fail_ok h
  obtain ⟨h1, -⟩ := one_ok' h
  simp only [decide_eq_false_iff_not] at h2 h3
  refine ⟨h1, ?_, by omega, ?_, fun hn => by omega⟩
  · have : 0 ≤ partsOf op := by omega
    rw [partsOf] at this
    constructor <;> · repeat' split at this
                      all_goals omega
  · intro ho
    simp only [ho, decide_true, Bool.true_and, decide_eq_false_iff_not] at h4
    omega
theorem exsV_of {nv : Nat} : ∀ (l : List Ex), (∀ x ∈ l, ∀ deep a b : Int, exE nv deep x (.ok a) = .ok b → ExV nv x ∧ deep + exH x ≤ 13) → ∀ deep a b : Int, deep ≤ 13 → exsE nv deep l (.ok a) = .ok b → ExsV nv l ∧ deep + exsH l ≤ 13
  | [], _, deep, a, b, hd, _ => by rw [ExsV, exsH]; exact ⟨trivial, by omega⟩
  | x :: l, h, deep, a, b, hd, hx => by
    rw [exsE] at hx
    cases e : exE nv deep x (.ok a) with
    | error c => rw [e, exsE_err] at hx; cases hx
    | ok a1 =>
      rw [e] at hx
      obtain ⟨g1, g2⟩ := h x (by simp) deep a a1 e
      obtain ⟨g3, g4⟩ := exsV_of l (fun y hy => h y (by simp [hy])) deep a1 b hd hx
      rw [ExsV, exsH]
      exact ⟨⟨g1, g3⟩, by omega⟩
theorem exV_of {nv : Nat} (x : Ex) : ∀ deep a b : Int, exE nv deep x (.ok a) = .ok b → ExV nv x ∧ deep + exH x ≤ 13 := by
  refine Ex.ind (P := fun x => ∀ deep a b : Int, exE nv deep x (.ok a) = .ok b → ExV nv x ∧ deep + exH x ≤ 13) ?_ x
  intro op v n l ih deep a b h
  rw [exE] at h
  cases e : exHead nv deep op v n l.length (.ok a) with
  | error c => rw [e, exsE_err] at h; cases h
  | ok a1 =>
    rw [e] at h
    obtain ⟨g1, g2, g3, g4, g5⟩ := exHead_ok e
    obtain ⟨g6, g7⟩ := exsV_of l ih (deep + 1) a1 b (by omega) h
    rw [ExV, exH]
    exact ⟨⟨g2, g3, g4, g5, g6⟩, by omega⟩
theorem stHead_ok {nv deep op v a b : Int} {e f : Ex} {kb ke : Nat} (h : stHead nv deep op v e f kb ke (.ok a) = .ok b) :
    deep ≤ 12 ∧ (1 ≤ op ∧ op ≤ 7) ∧ (needV op = true → 0 ≤ v ∧ v < nv) ∧ (needB op = false → kb = 0) ∧ (needO op = false → ke = 0) := by
  rw [stHead, JE.named] at h
  obtain ⟨h, h5⟩ := fail_ok h
  obtain ⟨h, h4⟩ := fail_ok h
  obtain ⟨h, h3⟩ := fail_ok h
  obtain ⟨h, h2⟩ := fail_ok h
  obtain ⟨h1, -⟩ := one_ok' h
  simp only [decide_eq_false_iff_not] at h2
  simp only [stForm, Bool.or_eq_false_iff, Bool.and_eq_false_imp, Bool.not_eq_true', decide_eq_false_iff_not] at h3
  refine ⟨h1, by omega, ?_, ?_, ?_⟩
  · intro ho
    simp only [ho, Bool.true_and, decide_eq_false_iff_not] at h4
    omega
  · intro hb; have := h3.1.2 hb; omega
  · intro hb; have := h3.2 hb; omega
theorem stsV_of {nv : Nat} : ∀ (l : List St), (∀ x ∈ l, ∀ deep a b : Int, 0 ≤ deep → stE nv deep x (.ok a) = .ok b → StV nv x) → ∀ deep a b : Int, 0 ≤ deep → stsE nv deep l (.ok a) = .ok b → StsV nv l
  | [], _, deep, a, b, _, _ => by rw [StsV]; trivial
  | x :: l, h, deep, a, b, hd, hx => by
    rw [stsE] at hx
    cases e : stE nv deep x (.ok a) with
    | error c => rw [e, stsE_err] at hx; cases hx
    | ok a1 =>
      rw [e] at hx
      rw [StsV]
      exact ⟨h x (by simp) deep a a1 hd e, stsV_of l (fun y hy => h y (by simp [hy])) deep a1 b hd hx⟩
theorem stV_of {nv : Nat} (x : St) : ∀ deep a b : Int, 0 ≤ deep → stE nv deep x (.ok a) = .ok b → StV nv x := by
  refine St.ind (P := fun x => ∀ deep a b : Int, 0 ≤ deep → stE nv deep x (.ok a) = .ok b → StV nv x) ?_ x
  intro op v e f body els ih jh deep a b hd h
  rw [stE] at h
  cases e1 : stHead nv deep op v e f body.length els.length (.ok a) with
  | error c => rw [e1, stEF_err, stsE_err, stsE_err] at h; cases h
  | ok a1 =>
    rw [e1] at h
    cases e2 : stEF nv (deep + 1) op e f (.ok a1) with
    | error c => rw [e2, stsE_err, stsE_err] at h; cases h
    | ok a2 =>
      rw [e2] at h
      cases e3 : stsE nv (deep + 1) body (.ok a2) with
      | error c => rw [e3, stsE_err] at h; cases h
      | ok a3 =>
        rw [e3] at h
        obtain ⟨g1, g2, g3, g4, g5⟩ := stHead_ok e1
        have hb := stsV_of body ih (deep + 1) a2 a3 (by omega) e3
        have he := stsV_of els jh (deep + 1) a3 b (by omega) h
        rw [StV]
        rw [stEF] at e2
        refine ⟨g2, g3, ?_, ?_, fun hn => List.eq_nil_of_length_eq_zero (g4 hn), fun hn => List.eq_nil_of_length_eq_zero (g5 hn), hb, he⟩
        · intro hn
          rw [if_pos hn] at e2
          cases e4 : exE nv (deep + 1) e (.ok a1) with
          | error c => simp only [e4, exE_err, ite_self] at e2; cases e2
          | ok a4 => obtain ⟨k1, k2⟩ := exV_of e _ _ _ e4; exact ⟨k1, by omega⟩
        · intro hn
          simp only [hn, if_true] at e2
          cases e4 : (if needE op = true then exE nv (deep + 1) e (.ok a1) else .ok a1 : JE) with
          | error c => rw [e4, exE_err] at e2; cases e2
          | ok a4 => rw [e4] at e2; obtain ⟨k1, k2⟩ := exV_of f _ _ _ e2; exact ⟨k1, by omega⟩
theorem check_valid {p : Pr} (h : checkP p = 0) : StsV p.vars.length p.body ∧ p.vars.length ≤ 8 ∧ (∀ x ∈ p.vars, 1 ≤ x.size) ∧ sizes p.vars ≤ 48 := by
  obtain ⟨h1, b, h2⟩ := check_ok h
  exact ⟨stsV_of p.body (fun x _ => stV_of x) 0 150 b (Int.le_refl _) h2, check_sizes h1⟩
end Go.Proofs.YthefnnkmpcgcmaaDoor

namespace Go.Proofs.YthefnnkmpcgcmaaDoor
open Go X
set_option maxHeartbeats 1000000
mutual
def ExW (nv : Nat) : Int → Ex → Prop
  | deep, .mk op v n l => deep ≤ 12 ∧ (1 ≤ op ∧ op ≤ 8) ∧ (l.length : Int) = partsOf op ∧ (op = 2 ∨ op = 3 → 0 ≤ v ∧ v < nv) ∧ (¬ (op = 2 ∨ op = 3) → v = 0) ∧ (n ≠ 0 → op = 1) ∧ ExsW nv (deep + 1) l
def ExsW (nv : Nat) : Int → List Ex → Prop
  | _, [] => True
  | deep, x :: l => ExW nv deep x ∧ ExsW nv deep l
end
mutual
def StW (nv : Nat) : Int → St → Prop
  | deep, .mk op v e f body els => deep ≤ 12 ∧ (1 ≤ op ∧ op ≤ 7) ∧ (needV op = true → 0 ≤ v ∧ v < nv) ∧ (needV op = false → v = 0) ∧ (needE op = true → ExW nv (deep + 1) e) ∧ (needE op = false → e = zeroX) ∧ (needF op = true → ExW nv (deep + 1) f) ∧ (needF op = false → f = zeroX) ∧
      (needB op = false → body = []) ∧ (needO op = false → els = []) ∧ StsW nv (deep + 1) body ∧ StsW nv (deep + 1) els
def StsW (nv : Nat) : Int → List St → Prop
  | _, [] => True
  | deep, x :: l => StW nv deep x ∧ StsW nv deep l
end
theorem ExsW.mem {nv : Nat} {deep : Int} : ∀ {l : List Ex}, ExsW nv deep l → ∀ x ∈ l, ExW nv deep x
  | [], _, _, h => by simp at h
  | y :: l, h, x, hx => by
    rw [ExsW] at h
    rcases List.mem_cons.1 hx with rfl | hx
    · exact h.1
    · exact ExsW.mem h.2 x hx
theorem StsW.mem {nv : Nat} {deep : Int} : ∀ {l : List St}, StsW nv deep l → ∀ x ∈ l, StW nv deep x
  | [], _, _, h => by simp at h
  | y :: l, h, x, hx => by
    rw [StsW] at h
    rcases List.mem_cons.1 hx with rfl | hx
    · exact h.1
    · exact StsW.mem h.2 x hx
theorem StsW.of {nv : Nat} {deep : Int} : ∀ {l : List St}, (∀ x ∈ l, StW nv deep x) → StsW nv deep l
  | [], _ => by rw [StsW]; trivial
  | y :: l, h => by rw [StsW]; exact ⟨h y (by simp), StsW.of fun x hx => h x (by simp [hx])⟩
theorem one_all {a d l : Int} (h : (JE.one (.ok a) d) = .ok l) : d ≤ 12 ∧ a ≠ 0 ∧ l = a - 1 := by
  simp only [JE.one] at h
  split at h
  · cases h
  · split at h
    · cases h
    · cases h; exact ⟨by omega, by assumption, rfl⟩
theorem exHead_all {nv deep op v n a b : Int} {k : Nat} (h : exHead nv deep op v n k (.ok a) = .ok b) :
    deep ≤ 12 ∧ (1 ≤ op ∧ op ≤ 8) ∧ (k : Int) = partsOf op ∧ (op = 2 ∨ op = 3 → 0 ≤ v ∧ v < nv) ∧ (¬ (op = 2 ∨ op = 3) → v = 0) ∧ (n ≠ 0 → op = 1) ∧ a ≠ 0 ∧ b = a - 1 := by
  obtain ⟨h1, h2, h3, h4, h5⟩ := exHead_ok h
  rw [exHead, JE.named] at h
  obtain ⟨h, q5⟩ := fail_ok h
  obtain ⟨h, q4⟩ := fail_ok h
  obtain ⟨h, q3⟩ := fail_ok h
  obtain ⟨h, q2⟩ := fail_ok h
  obtain ⟨-, k1, k2⟩ := one_all h
  refine ⟨h1, h2, h3, h4, fun ho => ?_, h5, k1, k2⟩
  simp only [ho, decide_false, Bool.not_false, Bool.true_and, decide_eq_false_iff_not] at q5
  exact Decidable.not_not.1 q5
theorem exsW_of {nv : Nat} : ∀ (l : List Ex), (∀ x ∈ l, ∀ deep a b : Int, 0 ≤ a → exE nv deep x (.ok a) = .ok b → ExW nv deep x ∧ b = a - exN x ∧ 0 ≤ b) → ∀ deep a b : Int, 0 ≤ a → exsE nv deep l (.ok a) = .ok b → ExsW nv deep l ∧ b = a - exsN l ∧ 0 ≤ b
  | [], _, deep, a, b, ha, hx => by rw [exsE] at hx; cases hx; rw [ExsW, exsN]; exact ⟨trivial, by omega, ha⟩
  | x :: l, h, deep, a, b, ha, hx => by
    rw [exsE] at hx
    cases e : exE nv deep x (.ok a) with
    | error c => rw [e, exsE_err] at hx; cases hx
    | ok a1 =>
      rw [e] at hx
      obtain ⟨g1, g2, g3⟩ := h x (by simp) deep a a1 ha e
      obtain ⟨g4, g5, g6⟩ := exsW_of l (fun y hy => h y (by simp [hy])) deep a1 b g3 hx
      rw [ExsW, exsN]
      exact ⟨⟨g1, g4⟩, by omega, g6⟩
theorem exW_of {nv : Nat} (x : Ex) : ∀ deep a b : Int, 0 ≤ a → exE nv deep x (.ok a) = .ok b → ExW nv deep x ∧ b = a - exN x ∧ 0 ≤ b := by
  refine Ex.ind (P := fun x => ∀ deep a b : Int, 0 ≤ a → exE nv deep x (.ok a) = .ok b → ExW nv deep x ∧ b = a - exN x ∧ 0 ≤ b) ?_ x
  intro op v n l ih deep a b ha h
  rw [exE] at h
  cases e : exHead nv deep op v n l.length (.ok a) with
  | error c => rw [e, exsE_err] at h; cases h
  | ok a1 =>
    rw [e] at h
    obtain ⟨g1, g2, g3, g4, g5, g6, g7, g8⟩ := exHead_all e
    obtain ⟨k1, k2, k3⟩ := exsW_of l ih (deep + 1) a1 b (by omega) h
    rw [ExW, exN]
    exact ⟨⟨g1, g2, g3, g4, g5, g6, k1⟩, by omega, k3⟩
theorem noneX_zero {x : Ex} (h : noneX x = true) : x = zeroX := by
  cases x with
  | mk op v n l =>
    have q : op = 0 ∧ v = 0 ∧ n = 0 ∧ l.length = 0 := of_decide_eq_true h
    obtain ⟨rfl, rfl, rfl, q4⟩ := q
    rw [List.eq_nil_of_length_eq_zero q4]; rfl
theorem stHead_all {nv deep op v a b : Int} {e f : Ex} {kb ke : Nat} (h : stHead nv deep op v e f kb ke (.ok a) = .ok b) :
    deep ≤ 12 ∧ (1 ≤ op ∧ op ≤ 7) ∧ (needV op = true → 0 ≤ v ∧ v < nv) ∧ (needV op = false → v = 0) ∧ (needE op = false → e = zeroX) ∧ (needF op = false → f = zeroX) ∧ (needB op = false → kb = 0) ∧ (needO op = false → ke = 0) ∧ a ≠ 0 ∧ b = a - 1 := by
  obtain ⟨h1, h2, h3, h4, h5⟩ := stHead_ok h
  rw [stHead, JE.named] at h
  obtain ⟨h, q5⟩ := fail_ok h
  obtain ⟨h, q4⟩ := fail_ok h
  obtain ⟨h, q3⟩ := fail_ok h
  obtain ⟨h, q2⟩ := fail_ok h
  obtain ⟨-, k1, k2⟩ := one_all h
  simp only [stForm, Bool.or_eq_false_iff, Bool.and_eq_false_imp, Bool.not_eq_true', decide_eq_false_iff_not] at q3
  refine ⟨h1, h2, h3, fun ho => ?_, fun ho => ?_, fun ho => ?_, h4, h5, k1, k2⟩
  · simp only [ho, Bool.not_false, Bool.true_and, decide_eq_false_iff_not] at q5
    exact Decidable.not_not.1 q5
  · have := q3.1.1.1 ho
    exact noneX_zero (by simpa using this)
  · have := q3.1.1.2 ho
    exact noneX_zero (by simpa using this)
theorem exN_zero : exN zeroX = 1 := rfl
theorem stsW_of {nv : Nat} : ∀ (l : List St), (∀ x ∈ l, ∀ deep a b : Int, 0 ≤ a → stE nv deep x (.ok a) = .ok b → StW nv deep x ∧ (stN x : Int) ≤ 3 * (a - b) ∧ 0 ≤ b) → ∀ deep a b : Int, 0 ≤ a → stsE nv deep l (.ok a) = .ok b → StsW nv deep l ∧ (stsN l : Int) ≤ 3 * (a - b) ∧ 0 ≤ b
  | [], _, deep, a, b, ha, hx => by rw [stsE] at hx; cases hx; rw [StsW, stsN]; exact ⟨trivial, by omega, ha⟩
  | x :: l, h, deep, a, b, ha, hx => by
    rw [stsE] at hx
    cases e : stE nv deep x (.ok a) with
    | error c => rw [e, stsE_err] at hx; cases hx
    | ok a1 =>
      rw [e] at hx
      obtain ⟨g1, g2, g3⟩ := h x (by simp) deep a a1 ha e
      obtain ⟨g4, g5, g6⟩ := stsW_of l (fun y hy => h y (by simp [hy])) deep a1 b g3 hx
      rw [StsW, stsN]
      exact ⟨⟨g1, g4⟩, by omega, g6⟩
theorem stW_of {nv : Nat} (x : St) : ∀ deep a b : Int, 0 ≤ a → stE nv deep x (.ok a) = .ok b → StW nv deep x ∧ (stN x : Int) ≤ 3 * (a - b) ∧ 0 ≤ b := by
  refine St.ind (P := fun x => ∀ deep a b : Int, 0 ≤ a → stE nv deep x (.ok a) = .ok b → StW nv deep x ∧ (stN x : Int) ≤ 3 * (a - b) ∧ 0 ≤ b) ?_ x
  intro op v e f body els ih jh deep a b ha h
  rw [stE] at h
  cases e1 : stHead nv deep op v e f body.length els.length (.ok a) with
  | error c => rw [e1, stEF_err, stsE_err, stsE_err] at h; cases h
  | ok a1 =>
    rw [e1] at h
    cases e2 : stEF nv (deep + 1) op e f (.ok a1) with
    | error c => rw [e2, stsE_err, stsE_err] at h; cases h
    | ok a2 =>
      rw [e2] at h
      cases e3 : stsE nv (deep + 1) body (.ok a2) with
      | error c => rw [e3, stsE_err] at h; cases h
      | ok a3 =>
        rw [e3] at h
        obtain ⟨g1, g2, g3, g4, g5, g6, g7, g8, g9, g10⟩ := stHead_all e1
        rw [stEF] at e2
        have hE : ∃ a4, (if needE op = true then exE nv (deep + 1) e (.ok a1) else .ok a1 : JE) = .ok a4 ∧ (needE op = true → ExW nv (deep + 1) e) ∧ (exN e : Int) ≤ a1 - a4 + 1 ∧ a4 ≤ a1 ∧ 0 ≤ a4 := by
          cases hn : needE op with
          | true =>
            cases e4 : exE nv (deep + 1) e (.ok a1) with
            | error c => simp only [hn, e4, if_true, exE_err, ite_self] at e2; cases e2
            | ok a4 =>
              obtain ⟨k1, k2, k3⟩ := exW_of e _ _ _ (by omega) e4
              exact ⟨a4, rfl, fun _ => k1, by omega, by omega, k3⟩
          | false =>
            have hz := g5 hn
            exact ⟨a1, rfl, fun q => (by cases q), by rw [hz, exN_zero]; omega, by omega, by omega⟩
        obtain ⟨a4, hE1, hE2, hE3, hE4, hE5⟩ := hE
        simp only [hE1] at e2
        have hF : (needF op = true → ExW nv (deep + 1) f) ∧ (exN f : Int) ≤ a4 - a2 + 1 ∧ a2 ≤ a4 ∧ 0 ≤ a2 := by
          cases hn : needF op with
          | true =>
            rw [hn, if_pos rfl] at e2
            obtain ⟨k1, k2, k3⟩ := exW_of f _ _ _ (by omega) e2
            exact ⟨fun _ => k1, by omega, by omega, k3⟩
          | false =>
            rw [hn] at e2
            have hz := g6 hn
            have e2 : a4 = a2 := by simpa using e2
            exact ⟨fun q => (by cases q), by rw [hz, exN_zero]; omega, by omega, by omega⟩
        obtain ⟨hF1, hF2, hF3, hF4⟩ := hF
        obtain ⟨hb1, hb2, hb3⟩ := stsW_of body ih (deep + 1) a2 a3 hF4 e3
        obtain ⟨he1, he2, he3⟩ := stsW_of els jh (deep + 1) a3 b hb3 h
        rw [StW, stN]
        exact ⟨⟨g1, g2, g3, g4, hE2, g5, hF1, g6, fun hn => List.eq_nil_of_length_eq_zero (g7 hn), fun hn => List.eq_nil_of_length_eq_zero (g8 hn), hb1, he1⟩, by omega, he3⟩
theorem varsGo_ok : ∀ (l seen : List Va) (n : Int), varsGo seen n l = 0 → (∀ x ∈ l, nameOk x.name = true ∧ 1 ≤ x.size) ∧ (∀ x ∈ l, ∀ w ∈ seen, w.name ≠ x.name) ∧ l.Pairwise (fun a b => a.name ≠ b.name)
  | [], seen, n, _ => ⟨fun x h => by simp at h, fun x h => by simp at h, List.Pairwise.nil⟩
  | v :: l, seen, n, h => by
    rw [varsGo] at h
    split at h
    · cases h
    · split at h
      · cases h
      · split at h
        · cases h
        · rename_i q1 q2 q3
          obtain ⟨g1, g2, g3⟩ := varsGo_ok l (seen ++ [v]) _ h
          refine ⟨fun x hx => ?_, fun x hx w hw => ?_, List.Pairwise.cons (fun x hx => g2 x hx v (by simp)) g3⟩
          · rcases List.mem_cons.1 hx with rfl | hx
            · exact ⟨by simpa using q1, by omega⟩
            · exact g1 x hx
          · rcases List.mem_cons.1 hx with rfl | hx
            · exact fun e => q2 ⟨w, hw, e⟩
            · exact g2 x hx w (by simp [hw])
structure PrW (p : Pr) : Prop where
  body : StsW p.vars.length 0 p.body
  count : stsN p.body ≤ 450
  vars : p.vars.length ≤ 8
  names : ∀ x ∈ p.vars, nameOk x.name = true ∧ 1 ≤ x.size ∧ x.size ≤ 48
  apart : p.vars.Pairwise (fun a b => a.name ≠ b.name)
theorem sizes_mem : ∀ (l : List Va), (∀ x ∈ l, 1 ≤ x.size) → (0 ≤ sizes l) ∧ ∀ x ∈ l, x.size ≤ sizes l
  | [], _ => ⟨by simp [sizes], fun x h => by simp at h⟩
  | v :: l, h => by
    obtain ⟨g1, g2⟩ := sizes_mem l (fun x hx => h x (by simp [hx]))
    have hv := h v (by simp)
    have e : sizes (v :: l) = v.size + sizes l := by simp [sizes]
    rw [e]
    refine ⟨by omega, fun x hx => ?_⟩
    rcases List.mem_cons.1 hx with rfl | hx
    · omega
    · have := g2 x hx; omega
theorem check_w {p : Pr} (h : checkP p = 0) : PrW p := by
  obtain ⟨h1, b, h2⟩ := check_ok h
  obtain ⟨g1, g2, g3⟩ := stsW_of p.body (fun x _ => stW_of x) 0 150 b (by decide) h2
  obtain ⟨k1, k2, k3⟩ := check_sizes h1
  rw [checkVars] at h1
  split at h1
  · cases h1
  · obtain ⟨m1, -, m3⟩ := varsGo_ok _ _ _ h1
    have hm := (sizes_mem _ k2).2
    exact ⟨g1, by omega, k1, fun x hx => ⟨(m1 x hx).1, k2 x hx, by have := hm x hx; omega⟩, m3⟩
mutual
def ExI : Ex → Prop
  | .mk _ _ n l => i64ok n ∧ ExsI l
def ExsI : List Ex → Prop
  | [] => True
  | x :: l => ExI x ∧ ExsI l
end
mutual
def StI : St → Prop
  | .mk _ _ e f body els => ExI e ∧ ExI f ∧ StsI body ∧ StsI els
def StsI : List St → Prop
  | [] => True
  | x :: l => StI x ∧ StsI l
end
theorem ExsI.mem : ∀ {l : List Ex}, ExsI l → ∀ x ∈ l, ExI x
  | [], _, _, h => by simp at h
  | y :: l, h, x, hx => by
    rw [ExsI] at h
    rcases List.mem_cons.1 hx with rfl | hx
    · exact h.1
    · exact ExsI.mem h.2 x hx
theorem ExsI.of : ∀ {l : List Ex}, (∀ x ∈ l, ExI x) → ExsI l
  | [], _ => by rw [ExsI]; trivial
  | y :: l, h => by rw [ExsI]; exact ⟨h y (by simp), ExsI.of fun x hx => h x (by simp [hx])⟩
theorem StsI.mem : ∀ {l : List St}, StsI l → ∀ x ∈ l, StI x
  | [], _, _, h => by simp at h
  | y :: l, h, x, hx => by
    rw [StsI] at h
    rcases List.mem_cons.1 hx with rfl | hx
    · exact h.1
    · exact StsI.mem h.2 x hx
theorem StsI.of : ∀ {l : List St}, (∀ x ∈ l, StI x) → StsI l
  | [], _ => by rw [StsI]; trivial
  | y :: l, h => by rw [StsI]; exact ⟨h y (by simp), StsI.of fun x hx => h x (by simp [hx])⟩
theorem rows_all {α : Type} {rows : List (List Value)} {l : List α} {Q : α → Prop} (h3 : rows.length = l.length) (h : ∀ (i : Nat) (row : List Value) (x : α), rows[i]? = some row → l[i]? = some x → Q x) : ∀ x ∈ l, Q x := by
  intro x hx
  obtain ⟨i, hi, rfl⟩ := List.mem_iff_getElem.1 hx
  exact h i _ _ (List.getElem?_eq_getElem (by omega)) (List.getElem?_eq_getElem hi)
theorem ExAt.i {σ : PH} {cs : List Value} {x : Ex} (h : ExAt σ cs x) : ExI x := by
  induction h with
  | mk rows ho hv hn h1 h2 h3 h4 h5 h6 ih => rw [ExI]; exact ⟨hn, ExsI.of (rows_all h3 ih)⟩
theorem StAt.i {σ : PH} {cs : List Value} {x : St} (h : StAt σ cs x) : StI x := by
  induction h with
  | mk rows qows ho hv he hf h1 h2 h3 h4 h5 h6 g1 g2 g3 g4 g5 g6 ih jh => rw [StI]; exact ⟨he.i, hf.i, StsI.of (rows_all h3 ih), StsI.of (rows_all g3 jh)⟩
theorem PSl.all {α : Type} {s : Nat} {R : RT α} {σ : PH} {sl : Value} {l : List α} {Q : α → Prop} (h : PSl s R σ sl l) (k : ∀ row x, R σ row x → Q x) : ∀ x ∈ l, Q x := by
  obtain ⟨p, c, rows, rfl, h1, h2, h3, h4, h5, h6⟩ := h
  exact rows_all h3 fun i row x a b => k row x (h5 i row x a b)
theorem PrAt.i {σ : PH} {cs : List Value} {p : Pr} (h : PrAt σ cs p) : StsI p.body := by
  obtain ⟨vs, bs, -, -, hb⟩ := h
  exact StsI.of (PSl.all hb fun _ _ h => h.i)
theorem nameAt_le {vl : List Va} (h : ∀ x ∈ vl, nameOk x.name = true) (v : Int) : (nameAt vl v).size ≤ 8 := by
  rw [nameAt]
  cases e : vl[v.toNat]? with
  | none => exact Nat.zero_le _
  | some w => exact (nameOk_iff (h w (List.mem_of_getElem? e))).2.2
theorem word_le (k : Int) : (wordOf k).size ≤ 4 := by
  rw [wordOf]
  split
  · have hop : k = 1 ∨ k = 2 ∨ k = 3 ∨ k = 4 ∨ k = 5 ∨ k = 6 ∨ k = 7 ∨ k = 8 := by omega
    rcases hop with rfl | rfl | rfl | rfl | rfl | rfl | rfl | rfl <;> decide
  · decide
theorem verb_le (k : Int) : (verbOf k).size ≤ 6 := by
  rw [verbOf]
  split
  · have hop : k = 1 ∨ k = 2 ∨ k = 3 ∨ k = 4 ∨ k = 5 ∨ k = 6 ∨ k = 7 := by omega
    rcases hop with rfl | rfl | rfl | rfl | rfl | rfl | rfl <;> decide
  · decide
theorem headT_le {vl : List Va} (h : ∀ x ∈ vl, nameOk x.name = true) (op v : Int) {n : Int} (hn : i64ok n) : (headT vl op v n).size ≤ 22 := by
  have h1 := nameAt_le h v
  have h2 := itoaS_le hn
  have h3 : sp1.size = 1 := rfl
  rw [headT]
  split
  · rw [ByteArray.size_append]; omega
  · split
    · rw [ByteArray.size_append]; omega
    · exact Nat.zero_le _
theorem optT_le (b : Bool) (t : ByteArray) : (optT b t).size ≤ t.size := by
  rw [optT]; split
  · exact Nat.le_refl _
  · exact Nat.zero_le _
theorem exsT_le {vl : List Va} : ∀ (l : List Ex), (∀ x ∈ l, (exT vl x).size + 1 ≤ 30 * exN x) → (exsT vl l).size ≤ 30 * exsN l
  | [], _ => by rw [exsT]; exact Nat.zero_le _
  | x :: l, h => by
    have h1 := h x (by simp)
    have h2 := exsT_le l (fun y hy => h y (by simp [hy]))
    have h3 : sp1.size = 1 := rfl
    rw [exsT, exsN, ByteArray.size_append, ByteArray.size_append]; omega
theorem exT_le {vl : List Va} (hv : ∀ x ∈ vl, nameOk x.name = true) (x : Ex) : ExI x → (exT vl x).size + 1 ≤ 30 * exN x := by
  refine Ex.ind (P := fun x => ExI x → (exT vl x).size + 1 ≤ 30 * exN x) ?_ x
  intro op v n l ih hi
  rw [ExI] at hi
  have h1 := exsT_le (vl := vl) l (fun x hx => ih x hx (hi.2.mem x hx))
  have h2 := headT_le hv op v hi.1
  have h3 := word_le op
  rw [exT, exN]
  simp only [ByteArray.size_append]
  rw [show lpar.size = 1 from rfl, show rpar.size = 1 from rfl]
  omega
theorem stsT_le {vl : List Va} : ∀ (l : List St) (b : Bool), (∀ x ∈ l, (stT vl x).size + 1 ≤ 30 * stN x) → (stsT vl b l).size ≤ 30 * stsN l
  | [], b, _ => by rw [stsT]; exact Nat.zero_le _
  | x :: l, b, h => by
    have h1 := h x (by simp)
    have h2 := stsT_le l true (fun y hy => h y (by simp [hy]))
    have h3 := optT_le b sp1
    rw [show sp1.size = 1 from rfl] at h3
    rw [stsT, stsN, ByteArray.size_append, ByteArray.size_append]; omega
theorem stT_le {vl : List Va} (hv : ∀ x ∈ vl, nameOk x.name = true) (x : St) : StI x → (stT vl x).size + 1 ≤ 30 * stN x := by
  refine St.ind (P := fun x => StI x → (stT vl x).size + 1 ≤ 30 * stN x) ?_ x
  intro op v e f body els ih jh hi
  rw [StI] at hi
  obtain ⟨i1, i2, i3, i4⟩ := hi
  have h1 := exT_le hv e i1
  have h2 := exT_le hv f i2
  have h3 := stsT_le (vl := vl) body false (fun x hx => ih x hx (i3.mem x hx))
  have h4 := stsT_le (vl := vl) els false (fun x hx => jh x hx (i4.mem x hx))
  have h5 := verb_le op
  have h6 := nameAt_le hv v
  have o1 := optT_le (needV op) (sp1 ++ nameAt vl v)
  have o2 := optT_le (needE op) (sp1 ++ exT vl e)
  have o3 := optT_le (needF op) (sp1 ++ exT vl f)
  have o4 := optT_le (needB op) (sp1 ++ (lpar ++ (stsT vl false body ++ rpar)))
  have o5 := optT_le (needO op) (sp1 ++ (lpar ++ (stsT vl false els ++ rpar)))
  simp only [ByteArray.size_append, show lpar.size = 1 from rfl, show rpar.size = 1 from rfl, show sp1.size = 1 from rfl] at o1 o2 o3 o4 o5
  rw [stT, stN]
  simp only [ByteArray.size_append, show lpar.size = 1 from rfl, show rpar.size = 1 from rfl]
  omega
theorem bodyT_le {vl : List Va} (hv : ∀ x ∈ vl, nameOk x.name = true) : ∀ (l : List St), StsI l → (bodyT vl l).size ≤ 30 * stsN l
  | [], _ => by rw [bodyT]; exact Nat.zero_le _
  | x :: l, h => by
    rw [StsI] at h
    have h1 := stT_le hv x h.1
    have h2 := bodyT_le hv l h.2
    rw [bodyT, stsN]
    simp only [ByteArray.size_append, show nl1.size = 1 from rfl]
    omega
theorem varsT_le : ∀ (l : List Va), (∀ x ∈ l, nameOk x.name = true ∧ 1 ≤ x.size ∧ x.size ≤ 48) → (varsT l).size ≤ 35 * l.length
  | [], _ => by rw [varsT]; exact Nat.zero_le _
  | x :: l, h => by
    obtain ⟨g1, g2, g3⟩ := h x (by simp)
    have h2 := varsT_le l (fun y hy => h y (by simp [hy]))
    have h3 := (nameOk_iff g1).2.2
    have h4 := itoaS_le (n := x.size) ⟨by omega, by omega⟩
    rw [varsT, varT, List.length_cons]
    simp only [ByteArray.size_append, show nl1.size = 1 from rfl, show sp1.size = 1 from rfl, show kwLet.size = 3 from rfl]
    omega
theorem prT_le {p : Pr} (h : PrW p) (hi : StsI p.body) : (varsT p.vars).size ≤ 280 ∧ (bodyT p.vars p.body).size ≤ 13500 := by
  have h1 := varsT_le p.vars h.names
  have h2 := bodyT_le (fun x hx => (h.names x hx).1) p.body hi
  have h3 := h.count
  have h4 := h.vars
  omega
end Go.Proofs.YthefnnkmpcgcmaaDoor

namespace Go.Proofs.YthefnnkmpcgcmaaDoor
open Go X
set_option maxHeartbeats 1000000
abbrev noB : ByteArray := ByteArray.empty
def headPc (vl : List Va) (op v n : Int) : Pc := if op = 1 then [(sp1, tkN n)] else if op = 2 ∨ op = 3 then [(sp1, tkW (nameAt vl v))] else []
def optPc (b : Bool) (r : Pc) : Pc := if b = true then r else []
mutual
def exPc (vl : List Va) : ByteArray → Ex → Pc
  | z, .mk op v n l => (z, tkW lpar) :: (noB, tkW (wordOf op)) :: (headPc vl op v n ++ (exsPc vl l ++ [(noB, tkW rpar)]))
def exsPc (vl : List Va) : List Ex → Pc
  | [] => []
  | x :: l => exPc vl sp1 x ++ exsPc vl l
end
mutual
def stPc (vl : List Va) : ByteArray → St → Pc
  | z, .mk op v e f body els => (z, tkW lpar) :: (noB, tkW (verbOf op)) :: (optPc (needV op) [(sp1, tkW (nameAt vl v))] ++ (optPc (needE op) (exPc vl sp1 e) ++ (optPc (needF op) (exPc vl sp1 f) ++
      (optPc (needB op) ((sp1, tkW lpar) :: (stsPc vl noB body ++ [(noB, tkW rpar)])) ++ (optPc (needO op) ((sp1, tkW lpar) :: (stsPc vl noB els ++ [(noB, tkW rpar)])) ++ [(noB, tkW rpar)])))))
def stsPc (vl : List Va) : ByteArray → List St → Pc
  | _, [] => []
  | z, x :: l => stPc vl z x ++ stsPc vl sp1 l
end
def bodyPc (vl : List Va) : ByteArray → List St → Pc
  | _, [] => []
  | z, x :: l => stPc vl z x ++ bodyPc vl nl1 l
def endZ {α : Type} (z : ByteArray) : List α → ByteArray
  | [] => z
  | _ :: _ => nl1
theorem joinB_one (z : ByteArray) (t : Tk) : joinB [(z, t)] = z ++ t.text := by rw [joinB, joinB, ByteArray.append_empty]
theorem headPc_text (vl : List Va) (op v n : Int) : joinB (headPc vl op v n) = headT vl op v n := by
  rw [headPc, headT]
  split
  · rw [joinB_one]; rfl
  · split
    · rw [joinB_one]; rfl
    · rfl
theorem optPc_text (b : Bool) {r : Pc} {t : ByteArray} (h : joinB r = t) : joinB (optPc b r) = optT b t := by
  rw [optPc, optT]
  split
  · exact h
  · rfl
theorem exsPc_text (vl : List Va) : ∀ (l : List Ex), (∀ x ∈ l, ∀ z, joinB (exPc vl z x) = z ++ exT vl x) → joinB (exsPc vl l) = exsT vl l
  | [], _ => by rw [exsPc, exsT, joinB]
  | x :: l, h => by rw [exsPc, exsT, joinB_app, h x (by simp), exsPc_text vl l (fun y hy => h y (by simp [hy])), ByteArray.append_assoc]
theorem exPc_text (vl : List Va) (x : Ex) : ∀ z, joinB (exPc vl z x) = z ++ exT vl x := by
  refine Ex.ind (P := fun x => ∀ z, joinB (exPc vl z x) = z ++ exT vl x) ?_ x
  intro op v n l ih z
  rw [exPc, exT, joinB, joinB, joinB_app, joinB_app, headPc_text, exsPc_text vl l ih, joinB_one, ByteArray.empty_append, ByteArray.empty_append]
  rfl
theorem stsPc_text (vl : List Va) : ∀ (l : List St) (b : Bool), (∀ x ∈ l, ∀ z, joinB (stPc vl z x) = z ++ stT vl x) → joinB (stsPc vl (optT b sp1) l) = stsT vl b l
  | [], b, _ => by rw [stsPc, stsT, joinB]
  | x :: l, b, h => by
    have e := stsPc_text vl l true (fun y hy => h y (by simp [hy]))
    rw [show optT true sp1 = sp1 from rfl] at e
    rw [stsPc, stsT, joinB_app, h x (by simp), e, ByteArray.append_assoc]
theorem stPc_text (vl : List Va) (x : St) : ∀ z, joinB (stPc vl z x) = z ++ stT vl x := by
  refine St.ind (P := fun x => ∀ z, joinB (stPc vl z x) = z ++ stT vl x) ?_ x
  intro op v e f body els ih jh z
  have hb := stsPc_text vl body false ih
  have he := stsPc_text vl els false jh
  rw [show optT false sp1 = noB from rfl] at hb he
  have h1 : joinB (optPc (needV op) [(sp1, tkW (nameAt vl v))]) = optT (needV op) (sp1 ++ nameAt vl v) := optPc_text _ (by rw [joinB_one]; rfl)
  have h2 : joinB (optPc (needE op) (exPc vl sp1 e)) = optT (needE op) (sp1 ++ exT vl e) := optPc_text _ (exPc_text vl e sp1)
  have h3 : joinB (optPc (needF op) (exPc vl sp1 f)) = optT (needF op) (sp1 ++ exT vl f) := optPc_text _ (exPc_text vl f sp1)
  have h4 : joinB (optPc (needB op) ((sp1, tkW lpar) :: (stsPc vl noB body ++ [(noB, tkW rpar)]))) = optT (needB op) (sp1 ++ (lpar ++ (stsT vl false body ++ rpar))) := optPc_text _ (by rw [joinB, joinB_app, hb, joinB_one, ByteArray.empty_append]; rfl)
  have h5 : joinB (optPc (needO op) ((sp1, tkW lpar) :: (stsPc vl noB els ++ [(noB, tkW rpar)]))) = optT (needO op) (sp1 ++ (lpar ++ (stsT vl false els ++ rpar))) := optPc_text _ (by rw [joinB, joinB_app, he, joinB_one, ByteArray.empty_append]; rfl)
  rw [stPc, stT, joinB, joinB, joinB_app, joinB_app, joinB_app, joinB_app, joinB_app, h1, h2, h3, h4, h5, joinB_one, ByteArray.empty_append, ByteArray.empty_append]
  rfl
theorem bodyPc_text (vl : List Va) : ∀ (l : List St) (z : ByteArray), joinB (bodyPc vl z l) ++ endZ z l = z ++ bodyT vl l
  | [], z => by rw [bodyPc, endZ, bodyT, joinB, ByteArray.empty_append, ByteArray.append_empty]
  | x :: l, z => by
    have e := bodyPc_text vl l nl1
    have e2 : endZ nl1 l = nl1 := by cases l <;> rfl
    rw [e2] at e
    rw [bodyPc, endZ, bodyT, joinB_app, stPc_text, ByteArray.append_assoc, e]
    simp only [ByteArray.append_assoc]
def Goods (r : Pc) : Prop := ∀ b, Good b r
theorem blank_sp1 : Blank sp1 := fun k hk => by
  have : k = 0 := by have : k < 1 := hk; omega
  subst this; rfl
theorem blank_nl1 : Blank nl1 := fun k hk => by
  have : k = 0 := by have : k < 1 := hk; omega
  subst this; rfl
theorem blank_endZ {α : Type} {z : ByteArray} (h : Blank z) (l : List α) : Blank (endZ z l) := by
  cases l with
  | nil => exact h
  | cons _ _ => exact blank_nl1
theorem Goods.lpar {z : ByteArray} {r : Pc} (hz : Blank z) (h : Good true r) : Goods ((z, tkW lpar) :: r) := fun _ => ⟨hz, word_lpar, .inr (.inr rfl), h⟩
theorem Goods.rpar {z : ByteArray} {r : Pc} (hz : Blank z) (h : Good true r) : Goods ((z, tkW rpar) :: r) := fun _ => ⟨hz, word_rpar, .inr (.inr rfl), h⟩
theorem Goods.sp {t : Tk} {r : Pc} (ht : Word t) (h : Goods r) : Goods ((sp1, t) :: r) := fun _ => ⟨blank_sp1, ht, .inr (.inl (Nat.le_refl _)), h _⟩
theorem Good.word {t : Tk} {r : Pc} (ht : Word t) (h : Goods r) : Good true ((noB, t) :: r) := ⟨blank_none, ht, .inl rfl, h _⟩
theorem headPc_good {vl : List Va} {nv : Nat} (hn : ∀ v : Int, 0 ≤ v → v < nv → nameOk (nameAt vl v) = true) {op v n : Int} (hi : i64ok n) (hv : op = 2 ∨ op = 3 → 0 ≤ v ∧ v < nv) {r : Pc} (h : Goods r) : Goods (headPc vl op v n ++ r) := by
  rw [headPc]
  split
  · exact Goods.sp (word_num hi) h
  · split
    · rename_i q
      obtain ⟨a, b⟩ := hv q
      exact Goods.sp (word_name (hn v a b)) h
    · exact h
theorem exsPc_good {vl : List Va} : ∀ (l : List Ex), (∀ x ∈ l, ∀ z, Blank z → ∀ r, Good true r → Goods (exPc vl z x ++ r)) → ∀ r, Goods r → Goods (exsPc vl l ++ r)
  | [], _, r, h => by rw [exsPc]; exact h
  | x :: l, hx, r, h => by
    rw [exsPc, List.append_assoc]
    exact hx x (by simp) sp1 blank_sp1 _ (exsPc_good l (fun y hy => hx y (by simp [hy])) r h true)
theorem exPc_good {vl : List Va} {nv : Nat} (hn : ∀ v : Int, 0 ≤ v → v < nv → nameOk (nameAt vl v) = true) (x : Ex) : ∀ deep, ExW nv deep x → ExI x → ∀ z, Blank z → ∀ r, Good true r → Goods (exPc vl z x ++ r) := by
  refine Ex.ind (P := fun x => ∀ deep, ExW nv deep x → ExI x → ∀ z, Blank z → ∀ r, Good true r → Goods (exPc vl z x ++ r)) ?_ x
  intro op v n l ih deep hw hi z hz r h
  rw [ExW] at hw
  rw [ExI] at hi
  obtain ⟨h1, h2, h3, h4, h5, h6, h7⟩ := hw
  rw [exPc, List.cons_append, List.cons_append, List.append_assoc, List.append_assoc]
  exact Goods.lpar hz (Good.word (word_name (name_word h2)) (headPc_good hn hi.1 h4 (exsPc_good l (fun x hx => ih x hx (deep + 1) (h7.mem x hx) (hi.2.mem x hx)) _ (Goods.rpar blank_none h))))
theorem optPc_good {b : Bool} {a r : Pc} (ha : b = true → Goods r → Goods (a ++ r)) (h : Goods r) : Goods (optPc b a ++ r) := by
  rw [optPc]
  split
  · exact ha (by assumption) h
  · exact h
theorem stsPc_good {vl : List Va} : ∀ (l : List St) (z : ByteArray), Blank z → (∀ x ∈ l, ∀ z, Blank z → ∀ r, Good true r → Goods (stPc vl z x ++ r)) → ∀ r, Goods r → Goods (stsPc vl z l ++ r)
  | [], z, _, _, r, h => by rw [stsPc]; exact h
  | x :: l, z, hz, hx, r, h => by
    rw [stsPc, List.append_assoc]
    exact hx x (by simp) z hz _ (stsPc_good l sp1 blank_sp1 (fun y hy => hx y (by simp [hy])) r h true)
theorem stPc_good {vl : List Va} {nv : Nat} (hn : ∀ v : Int, 0 ≤ v → v < nv → nameOk (nameAt vl v) = true) (x : St) : ∀ deep, StW nv deep x → StI x → ∀ z, Blank z → ∀ r, Good true r → Goods (stPc vl z x ++ r) := by
  refine St.ind (P := fun x => ∀ deep, StW nv deep x → StI x → ∀ z, Blank z → ∀ r, Good true r → Goods (stPc vl z x ++ r)) ?_ x
  intro op v e f body els ih jh deep hw hi z hz r h
  rw [StW] at hw
  rw [StI] at hi
  obtain ⟨h1, h2, h3, h4, h5, h6, h7, h8, h9, h10, h11, h12⟩ := hw
  obtain ⟨i1, i2, i3, i4⟩ := hi
  rw [stPc]
  simp only [List.cons_append, List.append_assoc, List.nil_append]
  refine Goods.lpar hz (Good.word (word_name (name_verb h2)) ?_); refine optPc_good (fun q k => Goods.sp (word_name (hn v (h3 q).1 (h3 q).2)) k) ?_; refine optPc_good (fun q k => exPc_good hn e _ (h5 q) i1 sp1 blank_sp1 _ (k true)) ?_
  refine optPc_good (fun q k => exPc_good hn f _ (h7 q) i2 sp1 blank_sp1 _ (k true)) ?_; refine optPc_good (fun q k => ?_) ?_
  · rw [List.cons_append, List.append_assoc]
    exact Goods.lpar blank_sp1 (stsPc_good body noB blank_none (fun x hx => ih x hx _ (h11.mem x hx) (i3.mem x hx)) _ (Goods.rpar blank_none (k true)) true)
  refine optPc_good (fun q k => ?_) ?_
  · rw [List.cons_append, List.append_assoc]
    exact Goods.lpar blank_sp1 (stsPc_good els noB blank_none (fun x hx => jh x hx _ (h12.mem x hx) (i4.mem x hx)) _ (Goods.rpar blank_none (k true)) true)
  exact Goods.rpar blank_none h
theorem bodyPc_good {vl : List Va} {nv : Nat} (hn : ∀ v : Int, 0 ≤ v → v < nv → nameOk (nameAt vl v) = true) {deep : Int} : ∀ (l : List St) (z : ByteArray), Blank z → StsW nv deep l → StsI l → Goods (bodyPc vl z l)
  | [], z, _, _, _ => fun b => by rw [bodyPc]; trivial
  | x :: l, z, hz, hw, hi => by
    rw [StsW] at hw
    rw [StsI] at hi
    rw [bodyPc]
    exact stPc_good hn x deep hw.1 hi.1 z hz _ (bodyPc_good hn l nl1 blank_nl1 hw.2 hi.2 true)
theorem names_at {vl : List Va} (h : ∀ x ∈ vl, nameOk x.name = true) : ∀ v : Int, 0 ≤ v → v < vl.length → nameOk (nameAt vl v) = true := fun v h0 h1 => by
  have hk : v.toNat < vl.length := by omega
  rw [nameAt, List.getElem?_eq_getElem hk]
  exact h _ (List.getElem_mem hk)
end Go.Proofs.YthefnnkmpcgcmaaDoor

namespace Go.Proofs.YthefnnkmpcgcmaaDoor
open Go X
set_option maxHeartbeats 2000000
section
variable {P : Program} {N : Nat} {fn : Func} {σ : PH} {Γ : List HP}
theorem X.CallsDA.recovers2 {f : FuncId} {rest : Code} {id : Nat} {d1 d2 : Nat} {t1 t2 : TypeId} {s1 s2 : String} {a1 a2 : Array Edge} {ats : Array TypeId} {x0 x1 : Value} {u : FrameMode} {R : FrameMode → PH → List HP → Prop}
    (hf : P.funcs[f]? = some fn) (hb : fn.body = some (.seq (.region id #[⟨some d1, .call { callee := .builtin .recover, args := #[], argTypes := ats }, t1, s1, a1, none⟩, ⟨some d2, .assign (.tmp d1), t2, s2, a2, none⟩] false) rest)) (hN : Nat.ble 2 fn.ntmps = true)
    (hd1 : Nat.blt d1 fn.ntmps = true) (hd2 : Nat.blt d2 fn.ntmps = true) (hx : XA P fn.ntmps rest (upd (upd (upd (upd U 0 x0) 1 x1) d1 (recv u).1) d2 (recv u).1) σ Γ (bodyA P fn (RetA fun _ σ' Γ' => R (recv u).2 σ' Γ'))) :
    CallsDA P f #[x0, x1] u σ Γ R := fun fr h hh w hw => by
  refine (calls_recovers (vs := #[x0, x1]) (ρ0 := upd (upd U 0 x0) 1 x1) hf hb hN (fun s => match s with
    | 0 => rfl
    | 1 => rfl
    | s + 2 => by rw [show (#[x0, x1] : Array Value).getD (s + 2) undef = undef from by simp, upd_ne _ _ _ _ (by omega), upd_ne _ _ _ _ (by omega)]) hd1 hd2 (XA.toX hx hh) w hw).mono ?_
  rintro e u' w' ⟨rfl, a, σ', Γ', b, c⟩
  cases e with
  | returned v => exact ⟨a, ⟨v, rfl⟩, σ', Γ', b, c⟩
  | _ => exact b.elim
def onlyRet (K : KA) : KA
  | .ret, ρ, σ, Γ => K .ret ρ σ Γ
  | _, _, _, _ => False
theorem X.XFA.of {c : Code} {ρ : Env} {next : Env → PH → List HP → Prop} {K : KA} (hx : XA P N c ρ σ Γ (thnA next (onlyRet K))) : XFA P N c ρ σ Γ (thnA next K) := by
  refine ⟨fun f h hh => ⟨fun w0 a w hs hw he => wp_mono ((hx.out f h hh).out w0 a w hs hw he) ?_⟩⟩
  rintro e a' w' ⟨h1, h2, ρ', h3, σ', Γ', hk, hh'⟩
  cases e with
  | normal => exact ⟨h1, h2, ρ', h3, σ', Γ', hk, hh'⟩
  | ret => exact ⟨h1, h2, ρ', h3, σ', Γ', hk, hh'⟩
  | _ => exact hk.elim
theorem X.XFA.ofEnd {c : Code} {ρ : Env} {K : KA} (hx : XA P N c ρ σ Γ (onlyRet K)) : XFA P N c ρ σ Γ K := by
  refine ⟨fun f h hh => ⟨fun w0 a w hs hw he => wp_mono ((hx.out f h hh).out w0 a w hs hw he) ?_⟩⟩
  rintro e a' w' ⟨h1, h2, ρ', h3, σ', Γ', hk, hh'⟩
  cases e with
  | ret => exact ⟨h1, h2, ρ', h3, σ', Γ', hk, hh'⟩
  | _ => exact hk.elim
end
theorem X.Rd.tassertS {P : Program} {ρ : Env} {S : Heap → Prop} {ty T I : TypeId} {x : Operand} {v : Value} {r : Ty} {fs : List (TypeId × Nat)} (hT : tyOf P T = some r) (hk : r.k = .struct fs) (hx : ev ρ x = .iface T v) : Rd P ρ S (.typeAssert x I T true) ty (.tuple #[v, .bool true]) := by
  refine .pure fun d pos af g w => ?_
  obtain ⟨dd, i, z, e1, e2, -⟩ := tyOf_spec hT
  rw [hk] at e2
  cases dd <;> simp [kindOf] at e2
  simp [execOp, Instr.typeAssert, run_underlying e1, hx]
theorem any_if2 : ∃ ms, Tryd.prog.underlying 20 = some (.interface ms) := ⟨#[], by kernel_rfl⟩
theorem precov_n (σ : PH) (ga gb : Nat) : CallsDA Tryd.prog 41 #[ptr ga, ptr gb] .returning σ [] (fun u' σ' Γ' => settle u' = .returning ∧ σ = σ' ∧ Γ' = []) := by
  refine CallsDA.recovers2 Tryd.func41 rfl rfl rfl rfl ?_
  dsimp only [recv]
  refine zS (zR (yA ?_)); refine zO rfl (Rd.neqIfF any_if2.choose_spec rfl) ?_; refine zN (zT (yF rfl rfl (XA.skip ?_)))
  exact bodyA.normal (ResA.none rfl) zE ⟨rfl, rfl, rfl⟩
theorem precov_p (σ : PH) (ga gb : Nat) (x : Int × Int) (r0 r1 : List Value) (hr0 : r0.length = 2) (hr1 : r1.length = 2) : CallsDA Tryd.prog 41 #[ptr ga, ptr gb] (.panicking (goneP x)) σ [blk ga r0 25, blk gb r1 30]
    (fun u' σ' Γ' => settle u' = .returning ∧ σ = σ' ∧ Γ' = [blk ga [.slice none 0 0, .slice none 0 0] 25, blk gb [i64 x.1, i64 x.2] 30]) := by
  refine CallsDA.recovers2 Tryd.func41 rfl rfl rfl rfl ?_
  dsimp only [recv, goneP]
  have hspl : splice r0 0 [.slice none 0 0, .slice none 0 0] = [.slice none 0 0, .slice none 0 0] := splice_all hr0
  have hspl2 : splice r1 0 [i64 x.1, i64 x.2] = [i64 x.1, i64 x.2] := splice_all hr1
  have hfit : 0 + ty25.size ≤ r0.length := by rw [hr0]; exact Nat.le_refl _
  have hfit2 : ∀ _ : Unit, 0 + ty30.size ≤ r1.length := fun _ => by rw [hr1]; exact Nat.le_refl _
  refine zS (zR (yA ?_)); refine zO rfl (Rd.neqIfT any_if2.choose_spec rfl) ?_; refine zN (zT (yT rfl rfl (zS (zR (yA ?_))))); refine zO rfl (X.Rd.tassertS (tyrow rfl) rfl rfl) ?_; refine yA ?_; refine zO rfl (Rd.extract rfl rfl) ?_; refine zO rfl (Rd.extract rfl rfl) ?_
  refine zw rfl (WrA.alloc (tyrow rfl)) ?_
  rintro _ _ _ ⟨g3, rfl, rfl, rfl⟩
  refine zw rfl (WrA.st (tyrow rfl) rfl) ?_
  rintro _ _ _ ⟨rfl, rfl, rfl⟩
  refine yS ?_; refine zN (zT (zS (zS (zR (yA ?_))))); refine zO rfl zJ ?_; refine zN (zT (yF rfl rfl (XA.skip (zT ?_))))
  refine XA.draw (by kernel_rfl) _ _ [3] [(0, .pu), (1, .rd), (2, .wr), (3, .wr)] (by kernel_rfl) (PH.sub.refl _) (Ent.sel (R := blk g3 _ _) zL (Ent.nil _)) ?_
  refine zu rfl rfl (Rd.bl (fun _ _ => tyrow) rfl rfl rfl) ?_; refine XPA.rd rfl rfl Gd.free (Rd.ldA rfl) ?_; refine XPA.wr0 rfl rfl Gd.free (WrA.st (tyrow rfl) rfl) ?_
  rintro _ _ _ ⟨rfl, rfl, rfl⟩
  refine stays ?_
  refine XPA.wrZ0 rfl rfl Gd.free (by kernel_rfl) (WrA.st (tyrow rfl) rfl) ?_
  rintro _ _ _ ⟨rfl, rfl, rfl⟩
  refine XPA.nil ?_
  exact bodyA.normal (ResA.none rfl) zE ⟨rfl, rfl, rfl⟩
end Go.Proofs.YthefnnkmpcgcmaaDoor

namespace Go.Proofs.YthefnnkmpcgcmaaDoor
open Go X
set_option maxHeartbeats 2000000
theorem X.CallsDA.conv2 {P : Program} {f : FuncId} {vs : Array Value} {u : FrameMode} {σ : PH} {Γ Γ0 Δ : List HP} {R R' : FrameMode → PH → List HP → Prop} (hc : CallsDA P f vs u σ Γ0 R) (he : Ent Γ (Γ0 ++ Δ))
    (k : ∀ u' σ' Γ' fr h, R u' σ' Γ' → Holds σ' (Γ' ++ Δ) fr h → ∃ σ2 Γ2, R' u' σ2 Γ2 ∧ Holds σ2 Γ2 fr h) : CallsDA P f vs u σ Γ R' := fun fr h hh w hw => by
  obtain ⟨f', a, b⟩ := (hh.ent he).aside
  refine (hc f' h a w hw).mono ?_
  rintro e u' w' ⟨h1, h2, σ', Γ', h3, h4⟩
  obtain ⟨σ2, Γ2, h5, h6⟩ := k u' σ' Γ' fr w'.heap h3 (b _ _ _ h4)
  exact ⟨h1, h2, σ2, Γ2, h5, h6⟩
theorem X.XFOA.wr {P : Program} {N : Nat} {ρ : Env} {σ : PH} {Γ : List HP} {K : KA} {all : Array Oper} {rest : List Oper} {ty : TypeId} {pos : String} {af : Array Edge} {d : Option Nat} {op : Op} {R : Value → PH → List HP → Prop} (hd : dstOk N d = true) (hr : WrA P ρ σ Γ op ty R noPA) (k : ∀ v σ' Γ', R v σ' Γ' → XFOA P N all rest (updO ρ d v) σ' Γ' K) :
    XFOA P N all (⟨d, op, ty, pos, af, none⟩ :: rest) ρ σ Γ K :=
  ⟨fun fr h hh => XFO.wr hd (hr.out fr h hh) (fun v h' ⟨σ', Γ', a, b⟩ => (k v σ' Γ' a).out fr h' b) (fun _ _ ⟨_, _, h, _⟩ => h.elim)⟩
theorem X.ResA.cc {P : Program} {ρ : Env} {σ : PH} {Γ : List HP} {fn : Func} {t1 t2 : Tmp} {T1 T2 : TypeId} {g1 o1 g2 o2 : Nat} {v1 v2 : Value} (hf : fn.results = #[.cell t1 T1, .cell t2 T2]) (h1 : ρ t1 = .pointer (some ⟨g1, o1, Option.none⟩)) (h2 : ρ t2 = .pointer (some ⟨g2, o2, Option.none⟩))
    (l1 : ∀ h, Ho σ Γ h → Ld P h T1 g1 o1 v1) (l2 : ∀ h, Ho σ Γ h → Ld P h T2 g2 o2 v2) : ResA P fn ρ σ Γ (.tuple #[v1, v2]) := fun h hh w a hw he => by
  have e1 := he.get t1; rw [h1] at e1; simp at e1
  have e2 := he.get t2; rw [h2] at e2; simp at e2
  simp [results, hf, e1, e2, asAddr, l1 h hh w hw, l2 h hh w hw]
theorem enterD1 {P : Program} {σ : PH} {Γ : List HP} {fn : Func} {RR : Ending → PH → List HP → Prop} {f : FuncId} {co : Code} {a : Value} (hf : P.funcs[f]? = some fn) (hb : fn.body = some co) (hn : goodName fn = true) (hN : Nat.ble 1 fn.ntmps = true) (hx : XTA P fn co (upd U 0 a) σ Γ RR) : CallsA P f #[a] σ Γ RR :=
  ⟨enters hf hb hn, fun fr h hh => enterD hf hb hn hN (fun s => match s with
    | 0 => rfl
    | s + 1 => by rw [show (#[a] : Array Value).getD (s + 1) undef = undef from by simp, upd_ne _ _ _ _ (by omega)]) (hx.out fr h hh)⟩
theorem scanG_len {s : ByteArray} : ∀ (f i : Nat) (acc l : List Tk), scanG s f i acc = .ok l → i ≤ s.size → l.length ≤ acc.length + (s.size - i)
  | 0, i, acc, l, h, hi => by cases h; omega
  | f + 1, i, acc, l, h, hi => by
    rw [scanG] at h
    split at h
    · rename_i hi
      split at h
      · rename_i t ht
        obtain ⟨h1, h2, h3⟩ := oneT_size hi ht
        have hle := runB_le blankB s (i := i + t.text.size) h3
        have := scanG_len f _ _ l h hle
        rw [List.length_append, List.length_singleton] at this
        omega
      · cases h
    · cases h; omega
theorem scanP_len {s : ByteArray} {l : List Tk} (h : scanP s = .ok l) : l.length ≤ s.size := by
  have h0 := (scanP_ok h).1
  rw [scanP, if_neg (by omega)] at h
  have hle := runB_le blankB s (i := 0) (by omega)
  cases hl : scanG s (s.size + 1) (runB blankB s 0) [] with
  | ok l' => rw [hl] at h; cases h; have := scanG_len _ _ _ _ hl (by omega); simp only [List.length_nil] at this; omega
  | error i => rw [hl] at h; cases h
def parseP (s : ByteArray) : PErr Pr := match scanP s with
  | .error x => .error x
  | .ok l => match progP s.size l with
    | .error x => .error x
    | .ok (pr, _) => if checkP pr ≠ 0 then .error (checkP pr, -1) else .ok pr
def okPr : PErr Pr → Pr
  | .error _ => ⟨[], []⟩
  | .ok p => p
theorem pr_none (σ : PH) : PrAt σ [.slice none 0 0, .slice none 0 0] ⟨[], []⟩ := ⟨_, _, rfl, PSl.nil _ _ _, PSl.nil _ _ _⟩
def ParsePost (s : ByteArray) (σ : PH) : Value → PH → List HP → Prop := fun v σ' Γ' => ∃ cs, v = .tuple #[.agg (List.toArray cs), .agg #[i64 (errC (parseP s)), i64 (errA (parseP s))]] ∧ PrAt σ' cs (okPr (parseP s)) ∧ σ.sub σ' ∧ Γ' = []
theorem parse_p (σ : PH) (s : ByteArray) (hs : s.size ≤ 100000000) (hT : Tab σ) (hE : Errs σ) : CallsA Tryd.prog 20 #[.string s] σ [] (RetA (ParsePost s σ)) := by
  have hsc := scan_t σ s hs hT hE
  cases hR : scanP s with
  | error x =>
    obtain ⟨x1, x2⟩ := x
    have he : ¬ (x1 = 0) := by
      have h := hR
      rw [scanP] at h
      split at h
      · cases h; decide
      · cases hl : scanG s (s.size + 1) (runB blankB s 0) [] with
        | ok l' => rw [hl] at h; cases h
        | error i => rw [hl] at h; cases h; decide
    have hp : parseP s = .error (x1, x2) := by rw [parseP, hR]
    rw [hR] at hsc
    replace hsc : CallsA Tryd.prog 17 #[.string s] σ [] (RetA fun v σ' Γ' => ∃ sl, v = .tuple #[sl, .agg #[i64 x1, i64 x2]] ∧ PSl 4 rTk σ' sl [] ∧ σ.sub σ' ∧ Γ' = []) := hsc
    refine enterD1 Tryd.func20 rfl rfl rfl ?_; refine XTA.seq ?_; refine zR ?_; refine zw rfl (WrA.alloc (tyrow rfl)) ?_
    rintro _ _ _ ⟨g2, rfl, rfl, rfl⟩
    refine zw rfl (WrA.alloc (tyrow rfl)) ?_
    rintro _ _ _ ⟨g3, rfl, rfl, rfl⟩
    refine zN (zT ?_); refine XTA.seq ?_; refine zR (yA ?_); refine zw rfl (WrA.cE (hsc) rfl) ?_
    rintro _ σ1 _ ⟨_, ⟨sl, rfl, hl, hs1, rfl⟩, rfl⟩
    refine XOA.cl ?_; refine yA ?_; refine zO rfl (Rd.extract rfl rfl) ?_; refine zO rfl (Rd.extract rfl rfl) ?_; refine yS ?_; refine zw rfl (WrA.st (tyrow rfl) rfl) ?_
    rintro _ _ _ ⟨rfl, rfl, rfl⟩
    refine zN (zT ?_); refine XTA.seq ?_
    refine zS (zR (yV ?_)); refine yB ?_; refine zO rfl (Rd.neq rfl rfl) ?_; refine zN (zT (XA.condT rfl (by first | rfl | exact decide_eq_true he) ?_)); refine zS ?_
    refine XA.draw (by kernel_rfl) _ _ [3] [(0, .rd), (1, .rd), (2, .wr), (3, .wr)] (by kernel_rfl) (PH.sub.refl _) (Ent.sel (R := blk g2 _ _) zL (Ent.sel (R := blk g3 _ _) zL (Ent.nil _))) ?_
    refine XPA.rd rfl rfl Gd.free (Rd.ldA rfl) ?_; refine XPA.rd rfl rfl Gd.free (Rd.ldA rfl) ?_; refine XPA.wr0 rfl rfl Gd.free (WrA.st (tyrow rfl) rfl) ?_
    rintro _ _ _ ⟨rfl, rfl, rfl⟩
    refine stays ?_
    refine XPA.wrZ0 rfl rfl Gd.free (by kernel_rfl) (WrA.st (tyrow rfl) rfl) ?_
    rintro _ _ _ ⟨rfl, rfl, rfl⟩
    refine XPA.nil ?_; refine zT (XA.ret (DA.thn_ret ?_))
    exact bodyA.ret (X.ResA.cc rfl rfl rfl (Ld.atBlk (tyrow rfl) rfl zL rfl (by first | exact take0 (by first | rfl | assumption | (refine (ints_len _).trans ?_; assumption) | (simp [*]; (first | done | fail))) | assumption | exact take_app (by first | rfl | assumption | (refine (ints_len _).trans ?_; assumption) | (simp [*]; (first | done | fail))) | (conv => lhs; simp only [List.drop_succ_cons, List.drop_zero, List.take_succ_cons, List.take_zero])) (by first | rfl | assumption | (refine (ints_len _).trans ?_; assumption) | (simp [*]; (first | done | fail)))) (Ld.atBlk (tyrow rfl) rfl zL rfl (by first | exact take0 (by first | rfl | assumption | (refine (ints_len _).trans ?_; assumption) | (simp [*]; (first | done | fail))) | assumption | exact take_app (by first | rfl | assumption | (refine (ints_len _).trans ?_; assumption) | (simp [*]; (first | done | fail))) | (conv => lhs; simp only [List.drop_succ_cons, List.drop_zero, List.take_succ_cons, List.take_zero])) (by first | rfl | assumption | (refine (ints_len _).trans ?_; assumption) | (simp [*]; (first | done | fail))))) (Ent.nil _) ⟨_, by rw [hp]; rfl, by rw [hp]; exact pr_none _, hs1, rfl⟩
  | ok l =>
    obtain ⟨h6, hok⟩ := scanP_ok hR
    have hF : ∀ t ∈ l, TkF t := fun t ht => ⟨by have := (hok t ht).size; simp only [maxLen]; omega, (hok t ht).num⟩
    have hL : l.length ≤ 10000 := by
      have := scanP_len hR
      omega
    rw [hR] at hsc
    replace hsc : CallsA Tryd.prog 17 #[.string s] σ [] (RetA fun v σ' Γ' => ∃ sl, v = .tuple #[sl, .agg #[i64 0, i64 0]] ∧ PSl 4 rTk σ' sl l ∧ σ.sub σ' ∧ Γ' = []) := hsc
    refine enterD1 Tryd.func20 rfl rfl rfl ?_; refine XTA.seq ?_; refine zR ?_; refine zw rfl (WrA.alloc (tyrow rfl)) ?_
    rintro _ _ _ ⟨g2, rfl, rfl, rfl⟩
    refine zw rfl (WrA.alloc (tyrow rfl)) ?_
    rintro _ _ _ ⟨g3, rfl, rfl, rfl⟩
    refine zN (zT ?_); refine XTA.seq ?_; refine zR (yA ?_); refine zw rfl (WrA.cE (hsc) rfl) ?_
    rintro _ σ1 _ ⟨_, ⟨sl, rfl, hl, hs1, rfl⟩, rfl⟩
    refine XOA.cl ?_
    obtain ⟨p, c, rfl, hc0, hc1⟩ := hl.shape
    refine yA ?_; refine zO rfl (Rd.extract rfl rfl) ?_; refine zO rfl (Rd.extract rfl rfl) ?_; refine yS ?_; refine zw rfl (WrA.st (tyrow rfl) rfl) ?_
    rintro _ _ _ ⟨rfl, rfl, rfl⟩
    refine zN (zT ?_); refine XTA.seq ?_; refine zS (zR (yV ?_)); refine yB ?_; refine zO rfl (Rd.neq rfl rfl) ?_; refine zN (zT ?_)
    refine XA.condF rfl (by first | rfl | exact decide_eq_false (fun h => h rfl)) ?_
    refine XA.skip (zT ?_)
    refine XTA.defer (caps := #[ptr g2, ptr g3]) (enters Tryd.func41 rfl rfl) rfl (by simp only [List.map_toArray, List.map_cons, List.map_nil]) ?_
    refine XFA.seq ?_; refine X.XFA.of ?_; refine zR (yA ?_); refine yA ?_; refine zO rfl (Rd.lenString (tyrow rfl) rfl rfl) ?_; refine zO rfl (Rd.bl (fun _ _ => tyrow) rfl rfl rfl) ?_; refine zw rfl (WrA.bx rfl) ?_
    rintro _ _ _ ⟨gp, rfl, rfl, rfl⟩
    refine yS ?_; refine zN (zT ?_)
    have hprog := program_p σ1 gp p c s.size l hl hF hL
    show XFA _ _ _ _ _ _ _
    refine XFA.seq ?_; refine XFA.region ?_; refine XFOA.rd rfl (Rd.move rfl) ?_
    cases hP : progP s.size l with
    | error x =>
      have hp : parseP s = .error x := by rw [parseP, hR]; simp only; rw [hP]
      have hbad : CallsA Tryd.prog 42 #[ptr gp] σ1 [blk gp [.slice p l.length c, i64 s.size, .slice none 0 0] 83] (PanA fun ch σ' Γ' => ch = goneP x ∧ σ1.sub σ' ∧ ∃ cs, Γ' = [blk gp cs 83]) := by
        refine hprog.mono fun en σ' Γ' hr => ?_
        cases en with
        | returned v => obtain ⟨x', l'', h1, -⟩ := hr; rw [hP] at h1; cases h1
        | panicked ch => obtain ⟨x', h1, h2⟩ := hr; rw [hP] at h1; cases h1; exact h2
        | outgrown => exact False.elim hr
      refine XFOA.die rfl hbad rfl zD ?_
      rintro _ σ2 _ ⟨rfl, hs2, cb, rfl⟩
      show CallsDA _ _ _ _ _ _ _
      refine X.CallsDA.conv2 (precov_p σ2 g2 g3 x _ _ rfl rfl) (Δ := []) zE ?_
      rintro u' σ' Γ' fr h ⟨hu, rfl, rfl⟩ hh
      simp only [List.cons_append, List.nil_append] at hh
      refine ⟨_, _, ?_, hh⟩
      refine ⟨hu, _, X.ResA.cc rfl rfl rfl (Ld.atBlk (tyrow rfl) rfl zL rfl (by first | exact take0 (by first | rfl | assumption | (refine (ints_len _).trans ?_; assumption) | (simp [*]; (first | done | fail))) | assumption | exact take_app (by first | rfl | assumption | (refine (ints_len _).trans ?_; assumption) | (simp [*]; (first | done | fail))) | (conv => lhs; simp only [List.drop_succ_cons, List.drop_zero, List.take_succ_cons, List.take_zero])) (by first | rfl | assumption | (refine (ints_len _).trans ?_; assumption) | (simp [*]; (first | done | fail)))) (Ld.atBlk (tyrow rfl) rfl zL rfl (by first | exact take0 (by first | rfl | assumption | (refine (ints_len _).trans ?_; assumption) | (simp [*]; (first | done | fail))) | assumption | exact take_app (by first | rfl | assumption | (refine (ints_len _).trans ?_; assumption) | (simp [*]; (first | done | fail))) | (conv => lhs; simp only [List.drop_succ_cons, List.drop_zero, List.take_succ_cons, List.take_zero])) (by first | rfl | assumption | (refine (ints_len _).trans ?_; assumption) | (simp [*]; (first | done | fail)))), [], Ent.nil _, ?_⟩
      exact ⟨_, by rw [hp]; rfl, by rw [hp]; exact pr_none _, hs1.trans hs2, rfl⟩
    | ok y =>
      obtain ⟨pr, l'⟩ := y
      have hgood : CallsA Tryd.prog 42 #[ptr gp] σ1 [blk gp [.slice p l.length c, i64 s.size, .slice none 0 0] 83] (RetA fun v σ' Γ' => ∃ cs, v = .agg (List.toArray cs) ∧ PrAt σ' cs pr ∧ σ1.sub σ' ∧ ∃ cb, Γ' = [blk gp cb 83]) := by
        refine hprog.mono fun en σ' Γ' hr => ?_
        cases en with
        | returned v => obtain ⟨x', l'', h1, h2⟩ := hr; rw [hP] at h1; cases h1; exact h2
        | panicked ch => obtain ⟨x', h1, -⟩ := hr; rw [hP] at h1; cases h1
        | outgrown => exact False.elim hr
      refine XFOA.call rfl hgood rfl zD ?_
      rintro _ σ2 _ ⟨cs, rfl, hpr, hs2, cb, rfl⟩
      have hpr0 := hpr
      obtain ⟨vs, bs, rfl, hv, hb⟩ := hpr
      obtain ⟨pv, cv, rfl, -, -⟩ := hv.shape
      obtain ⟨pb, cb2, rfl, -, -⟩ := hb.shape
      simp only [List.cons_append, List.nil_append]
      refine X.XFOA.wr rfl (WrA.st (tyrow rfl) rfl) ?_
      rintro _ _ _ ⟨rfl, rfl, rfl⟩
      refine XFOA.nil ?_
      show XFA _ _ _ _ _ _ _
      refine XFA.seq ?_; refine X.XFA.of ?_; refine zS (zR ?_); refine zO rfl (Rd.ldA rfl) ?_; refine yC (check_a σ2 _ pr hpr0) ?_; refine yS ?_; refine zN (zT ?_)
      by_cases hc : checkP pr ≠ 0
      · have hp : parseP s = .error (checkP pr, -1) := by rw [parseP, hR]; simp only; rw [hP]; simp only; rw [if_pos hc]
        refine zS (zR (yA ?_)); refine zO rfl (Rd.neq rfl rfl) ?_
        refine zN (zT (XA.condT rfl (by first | rfl | exact decide_eq_true hc) ?_))
        refine zS (zR ?_); refine zO rfl (Rd.bl (fun _ _ => tyrow) rfl rfl rfl) ?_; refine yA ?_; refine zO rfl (Rd.bl (fun _ _ => tyrow) rfl rfl rfl) ?_; refine zw rfl (WrA.st (tyrow rfl) rfl) ?_
        rintro _ _ _ ⟨rfl, rfl, rfl⟩
        refine zw rfl (WrA.st (tyrow rfl) rfl) ?_
        rintro _ _ _ ⟨rfl, rfl, rfl⟩
        refine zN (zT (XA.ret (DA.thn_ret ?_))); refine .here ?_
        show CallsDA _ _ _ _ _ _ _
        refine X.CallsDA.conv2 (precov_n σ2 g2 g3) (Δ := _) (Ent.refl _) ?_
        rintro u' σ' Γ' fr h ⟨hu, rfl, rfl⟩ hh
        simp only [List.nil_append] at hh
        refine ⟨_, _, ?_, hh⟩
        refine ⟨hu, _, X.ResA.cc rfl rfl rfl (Ld.atBlk (tyrow rfl) rfl zL rfl (by first | exact take0 (by first | rfl | assumption | (refine (ints_len _).trans ?_; assumption) | (simp [*]; (first | done | fail))) | assumption | exact take_app (by first | rfl | assumption | (refine (ints_len _).trans ?_; assumption) | (simp [*]; (first | done | fail))) | (conv => lhs; simp only [List.drop_succ_cons, List.drop_zero, List.take_succ_cons, List.take_zero])) (by first | rfl | assumption | (refine (ints_len _).trans ?_; assumption) | (simp [*]; (first | done | fail)))) (Ld.atBlk (tyrow rfl) rfl zL rfl (by first | exact take0 (by first | rfl | assumption | (refine (ints_len _).trans ?_; assumption) | (simp [*]; (first | done | fail))) | assumption | exact take_app (by first | rfl | assumption | (refine (ints_len _).trans ?_; assumption) | (simp [*]; (first | done | fail))) | (conv => lhs; simp only [List.drop_succ_cons, List.drop_zero, List.take_succ_cons, List.take_zero])) (by first | rfl | assumption | (refine (ints_len _).trans ?_; assumption) | (simp [*]; (first | done | fail)))), [], Ent.nil _, ?_⟩
        exact ⟨_, by rw [hp]; rfl, by rw [hp]; exact pr_none _, hs1.trans hs2, rfl⟩
      · have hp : parseP s = .ok pr := by rw [parseP, hR]; simp only; rw [hP]; simp only; rw [if_neg hc]
        refine zS (zR (yA ?_)); refine zO rfl (Rd.neq rfl rfl) ?_
        refine zN (zT (XA.condF rfl (by first | rfl | exact decide_eq_false hc) (XA.skip (zT ?_))))
        show XFA _ _ _ _ _ _ _
        refine X.XFA.ofEnd ?_; refine zS (zR ?_); refine zO rfl (Rd.ldA rfl) ?_; refine zO rfl (Rd.bl (fun _ _ => tyrow) rfl rfl rfl) ?_; refine zw rfl (WrA.st (tyrow rfl) rfl) ?_
        rintro _ _ _ ⟨rfl, rfl, rfl⟩
        refine zw rfl (WrA.st (tyrow rfl) rfl) ?_
        rintro _ _ _ ⟨rfl, rfl, rfl⟩
        refine zN (zT (XA.ret ?_)); refine .here ?_
        show CallsDA _ _ _ _ _ _ _
        refine X.CallsDA.conv2 (precov_n σ2 g2 g3) (Δ := _) (Ent.refl _) ?_
        rintro u' σ' Γ' fr h ⟨hu, rfl, rfl⟩ hh
        simp only [List.nil_append] at hh
        refine ⟨_, _, ?_, hh⟩
        refine ⟨hu, _, X.ResA.cc rfl rfl rfl (Ld.atBlk (tyrow rfl) rfl zL rfl (by first | exact take0 (by first | rfl | assumption | (refine (ints_len _).trans ?_; assumption) | (simp [*]; (first | done | fail))) | assumption | exact take_app (by first | rfl | assumption | (refine (ints_len _).trans ?_; assumption) | (simp [*]; (first | done | fail))) | (conv => lhs; simp only [List.drop_succ_cons, List.drop_zero, List.take_succ_cons, List.take_zero])) (by first | rfl | assumption | (refine (ints_len _).trans ?_; assumption) | (simp [*]; (first | done | fail)))) (Ld.atBlk (tyrow rfl) rfl zL rfl (by first | exact take0 (by first | rfl | assumption | (refine (ints_len _).trans ?_; assumption) | (simp [*]; (first | done | fail))) | assumption | exact take_app (by first | rfl | assumption | (refine (ints_len _).trans ?_; assumption) | (simp [*]; (first | done | fail))) | (conv => lhs; simp only [List.drop_succ_cons, List.drop_zero, List.take_succ_cons, List.take_zero])) (by first | rfl | assumption | (refine (ints_len _).trans ?_; assumption) | (simp [*]; (first | done | fail)))), [], Ent.nil _, ?_⟩
        exact ⟨_, by rw [hp]; rfl, by rw [hp]; exact hpr0, hs1.trans hs2, rfl⟩
end Go.Proofs.YthefnnkmpcgcmaaDoor

