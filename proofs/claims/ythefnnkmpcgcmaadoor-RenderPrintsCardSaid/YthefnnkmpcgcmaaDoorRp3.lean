/- Part 3 of 4 of what the claim needs: Yd, Ye, Tb, Tc, Td, Te, Tf, Th, Ti, Tj, Ra, Rb, Rc, Rd, Re, Rf, Rg, Rh, Rj, Ya, Yb, In, Yf, Yj, Yg, Yi, Si, Yh, Yk, Yl, CdB, CdY, CdZ. -/
import Derived.Test.YthefnnkmpcgcmaaDoorRp1
import Derived.Test.YthefnnkmpcgcmaaDoorRp2
import Derived.Lib.Builder
import Derived.Lib.UnsafeStr
import Derived.Lib.AppendStr
import Derived.Laws.Externs
import Derived.Lib.ItoaLen
import Derived.Shelf.LaysM
import Derived.Shelf.LaysC
import Derived.Shelf.Strconv.Itoa4
import Derived.Shelf.Strconv.ParseIntPublic10
import Derived.Test.YthefnnkmpcgcmaaDoorProg
namespace Go.Proofs.YthefnnkmpcgcmaaDoor
open Go X
set_option maxHeartbeats 2000000
section
variable {P : Program} {ρ : Env} {S : Heap → Prop} {ty : TypeId} {σ : PH} {Γ Γ' : List HP}
theorem X.Rd.neqPtrSame {T T' e : TypeId} {x y : Operand} {r re : Ty} {a : Addr} (hT : tyOf P T = some r) (hk : r.k = .pointer e) (hE : tyOf P e = some re) (hx : ev ρ x = .pointer (some a)) (hy : ev ρ y = .pointer (some a)) : Rd P ρ S (.binOp .neq T x y T') ty (.bool false) := by
  refine .pure fun d pos af gd w => ?_
  obtain ⟨dd, i, z, e1, e2, -⟩ := tyOf_spec hT
  obtain ⟨dd', i', z', e1', e2', e3', -⟩ := tyOf_spec hE
  rw [hk] at e2
  cases dd <;> simp [kindOf] at e2
  rw [e2] at e1
  have h1 := Lib.run_neq_ptr_same (P := P) w a e1 e3'
  simp only [execOp, eqGuard, hx, hy, Sem.run_bind]
  simp [h1]
theorem X.Rd.eqPtrNull {T T' e : TypeId} {x : Operand} {r : Ty} {a : Option Addr} (hT : tyOf P T = some r) (hk : r.k = .pointer e) (hx : ev ρ x = .pointer a) : Rd P ρ S (.binOp .eql T x (.const (.pointer none)) T') ty (.bool a.isNone) := by
  refine .pure fun d pos af gd w => ?_
  obtain ⟨dd, i, z, e1, e2, -⟩ := tyOf_spec hT
  rw [hk] at e2
  cases dd <;> simp [kindOf] at e2
  rw [e2] at e1
  have hp : P.underlying T = some (.pointer (P.pointee T)) := by simp [Program.pointee, e1]
  have h1 := run_equal_pointer_nil (P := P) w T a hp
  simp only [execOp, eqGuard, hx, ev, binOp, Sem.run_bind]
  simp [h1]
theorem blk_shape {h : Heap} {g : Nat} {l : List Value} {T : TypeId} (hb : Blk h g l T) {w : World} (hw : w.heap = h) : w.shape? g = some (T, l.length) := by
  subst hw
  simp [World.shape?, hb.get]
theorem X.Rd.toUnsafe {T U e T' : TypeId} {x : Operand} {r re : Ty} {g : Nat} {l : List Value} (hT : tyOf P T = some r) (hk : r.k = .pointer e) (hE : tyOf P e = some re) (hz : Nat.beq re.size 0 = false) (hU : P.underlying U = some .unsafePointer) (hx : ev ρ x = .pointer (some ⟨g, 0, none⟩)) (s : Sel Γ (X.blk g l T') Γ') (hl : 0 < l.length) :
    Rd P ρ (Ho σ Γ) (.convert T U x) ty (.pointer (some ⟨g, 0, none⟩)) := ⟨fun d pos af gd w hS => by
  obtain ⟨dd, i, z, e1, e2, -⟩ := tyOf_spec hT
  obtain ⟨dd', i', z', e1', e2', e3', e4', -⟩ := tyOf_spec hE
  rw [hk] at e2
  cases dd <;> simp [kindOf] at e2
  rw [e2] at e1
  have hsz : i'.size ≠ 0 := by rw [e4']; intro h; rw [h] at hz; cases hz
  have h1 := Lib.run_to_unsafe (P := P) w ⟨g, 0, none⟩ e1 hU e3' hsz (blk_shape (hS.blk s) rfl) hl
  simp only [execOp, hx, Sem.run_bind]
  simp [h1]⟩
theorem X.Rd.fromUnsafe {T U e T' : TypeId} {x : Operand} {r re : Ty} {g n : Nat} {l : List Value} (hT : tyOf P T = some r) (hk : r.k = .pointer e) (hE : tyOf P e = some re) (hU : P.underlying U = some .unsafePointer) (hx : ev ρ x = .pointer (some ⟨g, 0, none⟩)) (s : Sel Γ (X.blk g l T') Γ') (hl : l.length = n) (hlies : liesAt P P.depth T' (n / P.cellsOf T') 0 e 1 = true) :
    Rd P ρ (Ho σ Γ) (.convert U T x) ty (.pointer (some ⟨g, 0, none⟩)) := ⟨fun d pos af gd w hS => by
  obtain ⟨dd, i, z, e1, e2, -⟩ := tyOf_spec hT
  obtain ⟨dd', i', z', e1', e2', e3', e4', -⟩ := tyOf_spec hE
  rw [hk] at e2
  cases dd <;> simp [kindOf] at e2
  rw [e2] at e1
  have h1 := Lib.run_from_unsafe (P := P) w ⟨g, 0, none⟩ hU e1 e3' (blk_shape (hS.blk s) rfl) (by rw [hl]; exact hlies)
  simp only [execOp, hx, Sem.run_bind]
  simp [h1]⟩
theorem X.Rd.noEscape {f : FuncId} {fn : Func} {x : Operand} {v : Value} {ats : Array TypeId} (hf : P.funcs[f]? = some fn) (hname : (fn.name == "runtime.NumGoroutine") = false) (hb : fn.body.isNone = true) (hn : Extern.findNext fn = none) (he : Extern.find fn = some Extern.AbiNoEscape.same) (hx : ev ρ x = v) :
    Rd P ρ S (.call { callee := .value (.func f), args := #[x], argTypes := ats }) ty v := by
  refine .pure fun d pos af gd w => ?_
  have h1 := run_callFunc_extern (P := P) hf hname hb hn he #[v] w
  rw [Lib.run_noEscape] at h1
  simp only [execOp, resolve, Sem.run_bind, ev, Deferred.ofValue, Sem.run_pure, Result.andThen_ok, invoke]
  simp [hx, h1]
theorem X.Rd.sliceData {x : Operand} {ats : Array TypeId} {a : Addr} {n c : Nat} (hx : ev ρ x = .slice (some a) n c) (hc : c ≠ 0) : Rd P ρ S (.call { callee := .builtin .unsafeSliceData, args := #[x], argTypes := ats }) ty (.pointer (some a)) := by
  refine .pure fun d pos af gd w => ?_
  have h1 := Lib.run_unsafeSliceData_row (P := P) w ats ty a n c hc
  simp only [execOp, resolve, invoke, builtin, Sem.run_bind, Sem.run_pure, Result.andThen_ok, List.map_toArray, List.map_cons, List.map_nil, hx]
  simp [hx, h1]
theorem X.Rd.sliceDataNil {x : Operand} {ats : Array TypeId} {n c : Nat} (hx : ev ρ x = .slice none n c) : Rd P ρ S (.call { callee := .builtin .unsafeSliceData, args := #[x], argTypes := ats }) ty (.pointer none) := by
  refine .pure fun d pos af gd w => ?_
  have h1 := Lib.run_unsafeSliceData_nil (P := P) w ats ty n c
  simp only [execOp, resolve, invoke, builtin, Sem.run_bind, Sem.run_pure, Result.andThen_ok, List.map_toArray, List.map_cons, List.map_nil, hx]
  simp [hx, h1]
theorem X.Rd.unsafeNone {x y : Operand} {pt it : TypeId} {p : Option Addr} (hx : ev ρ x = .pointer p) (hy : ev ρ y = i64 0) : Rd P ρ S (.call { callee := .builtin .unsafeString, args := #[x, y], argTypes := #[pt, it] }) ty (.string ByteArray.empty) := by
  refine .pure fun d pos af gd w => ?_
  have h1 := Lib.run_unsafeString_none (P := P) w pt it ty p
  simp only [execOp, resolve, invoke, builtin, Sem.run_bind, Sem.run_pure, Result.andThen_ok, List.map_toArray, List.map_cons, List.map_nil, hx, hy]
  simp [hx, hy, h1]
end
theorem get_freeze_ne {w : World} {p : Addr} {n k : Nat} (h : k ≠ p.block) : (w.freeze p n).heap[k]? = w.heap[k]? := by
  unfold World.freeze
  split
  · rfl
  · simp only [Array.getElem?_modify]; rw [if_neg (fun e => h e.symm)]
theorem same_freeze (w : World) (p : Addr) (n : Nat) : X.Same w (w.freeze p n) := by
  unfold World.freeze
  split
  · exact ⟨rfl, rfl, rfl⟩
  · exact ⟨rfl, rfl, rfl⟩
theorem X.Holds.dropLst {σ f : PH} {Γ Γ' : List HP} {h h' : Heap} {e size n c g : Nat} {xs : List Value} (x : Holds σ Γ f h) (s : Sel Γ (lst e size (.slice (some ⟨g, 0, none⟩) n c) n xs) Γ') (hb : ∀ k, k ≠ g → h'[k]? = h[k]?) : Holds σ Γ' f h' := by
  obtain ⟨m, a, b, c1, d, i, p, q⟩ := x
  obtain ⟨m1, m2, ⟨r0, r1⟩, r2, r3, r4, r5⟩ := s.to a
  have own : ∃ o, m1 g = some o := by
    rcases r1 with ⟨r1, -⟩ | ⟨g', cap, r1, cur, w1, -⟩
    · cases r1
    · simp only [Value.slice.injEq, Option.some.injEq, Addr.mk.injEq, and_true, true_and] at r1
      obtain ⟨rfl, -⟩ := r1
      exact ⟨_, w1⟩
  obtain ⟨o, ho⟩ := own
  have keep : ∀ {n : PH}, n.le h → m1.dis n → n.le h' := fun {n} hn hd k o' hk => by
    have hne : k ≠ g := fun e => by subst e; exact hd k _ _ ho hk
    rw [hb k hne]; exact hn k o' hk
  exact ⟨m2, r2, keep (r5.le b) r3, keep c1 (i.mono r4 (.refl _)), keep d (p.mono r4 (.refl _)), i.mono r5 (.refl _), p.mono r5 (.refl _), q⟩
section
variable {P : Program} {ρ : Env} {ty : TypeId} {σ : PH} {Γ Γ' : List HP}
theorem X.Wr.appendStr {h : Heap} {T U e : TypeId} {x y : Operand} {r ru re : Ty} {v : Value} {n : Nat} {xs : List Value} {s : ByteArray} {F : Nat → Prop} (hT : tyOf P T = some r) (hk : r.k = .slice e) (hU : tyOf P U = some ru) (hku : ru.k = .string) (hE : tyOf P e = some re) (hE1 : re.size = 1) (hEb : re.bytes = 1) (hEz : re.zero.length = 1)
    (hown : Own h e 1 v n xs F) (hs : ev ρ x = v) (hy : ev ρ y = .string s) (hb : n + s.size ≤ 1000000000) :
    Wr P ρ h (.call { callee := .builtin .append, args := #[x, y], argTypes := #[T, U] }) ty (fun v' h' => Own h' e 1 v' (n + s.size) (xs ++ Lib.strCells s) (fun k => F k ∨ h.size ≤ k) ∧ But h h' v.ownBlock ∧ (v = .slice none 0 0 → s.size = 0 → v' = .slice none 0 0)) noP := by
  refine Wr.run fun d pos af gd w hw => ?_
  obtain ⟨dd, i, z, e1, e2, -⟩ := tyOf_spec hT
  obtain ⟨du, iu, zu, u1, u2, -⟩ := tyOf_spec hU
  obtain ⟨dd', i', z', e1', e2', e3', e4', e5', e6', e7'⟩ := tyOf_spec hE
  rw [hk] at e2
  cases dd <;> simp [kindOf] at e2
  rw [e2] at e1
  clear e2
  rw [hku] at u2
  cases du <;> simp [kindOf] at u2
  rw [hE1] at e4'
  rw [hEb] at e5'
  have hzs : z'.cells.size = 1 := by rw [← Array.length_toList, e7', hEz]
  have h63 : n + s.size ≤ maxLen := by simp only [maxLen]; omega
  have hxl : xs.length = n := by simpa using hown.len
  have hlen : (xs ++ Lib.strCells s).length = (n + s.size) * 1 := by rw [List.length_append, hxl, Lib.strCells_length, Nat.mul_one]
  have grown : ∀ (old : Nat), old < n + s.size → ∀ (row : Option Nat),
      Own (w.drew.alloc (.cells (xs.toArray ++ (Lib.strCells s).toArray ++ Builtin.zeroCells z'.cells (grownCap w (n + s.size) old e - (n + s.size))) e)).heap e 1
        (.slice (some ⟨w.heap.size, 0, none⟩) (n + s.size) (grownCap w (n + s.size) old e)) (n + s.size) (xs ++ Lib.strCells s) (fun k => F k ∨ h.size ≤ k) ∧
      But h (w.drew.alloc (.cells (xs.toArray ++ (Lib.strCells s).toArray ++ Builtin.zeroCells z'.cells (grownCap w (n + s.size) old e - (n + s.size))) e)).heap row := by
    intro old ho row
    have hge := grownCap_ge w (n + s.size) old e
    have hcm : grownCap w (n + s.size) old e ≤ maxLen := grownCap_le_maxLen w (n + s.size) old e h63
    refine ⟨⟨hlen, .inr ⟨w.heap.size, _, (xs.toArray ++ (Lib.strCells s).toArray ++ Builtin.zeroCells z'.cells (grownCap w (n + s.size) old e - (n + s.size))).toList, rfl, .inr (by rw [← hw]; exact Nat.le_refl _), ?_, hge, hcm, ?_, ?_⟩⟩, ⟨by rw [← hw]; simp [World.alloc], fun k hk _ => by rw [← hw] at hk ⊢; exact get_push_old hk⟩⟩
    · exact ⟨by rw [Array.toArray_toList]; exact get_push_new rfl⟩
    · simp only [Array.length_toList, Array.size_append, List.size_toArray, size_zeroCells, hzs, hxl, Lib.strCells_length]
      omega
    · simp only [Array.toList_append, List.append_assoc]
      rw [← List.append_assoc, ← hlen]
      exact List.take_left
  have hexec : ∀ v' w', (Builtin.append_ #[T, U] ty #[v, .string s]).run P w = .ok v' w' → (execOp (ev ρ) ⟨d, .call { callee := .builtin .append, args := #[x, y], argTypes := #[T, U] }, ty, pos, af, gd⟩).run P w = .ok (.value v') w' := fun v' w' hr => by
    simp only [execOp, resolve, invoke, builtin, Sem.run_bind, Sem.run_pure, Result.andThen_ok, List.map_toArray, List.map_cons, List.map_nil, hs, hy, hr]
  rcases hown.alt with ⟨rfl, rfl⟩ | ⟨gg, cap, cur, rfl, hF, hg, hnc, hcm, hcs, htake⟩
  · have hx : xs = [] := List.eq_nil_of_length_eq_zero hxl
    subst hx
    by_cases hm : s.size = 0
    · have hn : Lib.strCells s = [] := List.eq_nil_of_length_eq_zero (by rw [Lib.strCells_length]; exact hm)
      have hf := Lib.run_firstCells_string (P := P) w 1 s
      rw [hm] at hf
      refine ⟨.slice none 0 0, w, hexec _ _ ?_, ⟨rfl, rfl, rfl⟩, by rw [hm, hn]; exact Own.nil _ _ _ _, ⟨by rw [hw]; exact Nat.le_refl _, fun k _ _ => by rw [hw]⟩, fun _ _ => rfl⟩
      simp [Builtin.append_, run_underlying e1, run_underlying u1, sizeOf, typeInfo, e3', e4', Builtin.lenOf, hm, hf]
    · have hr := run_append_nil_string (P := P) w T U ty e i' z' e1 u1 e3' e6' s (by omega) (by omega) (by rw [e5']; omega)
      have hgr := grown 0 (by omega) (Value.ownBlock (.slice none 0 0))
      simp only [Nat.zero_add, List.nil_append, Array.empty_append] at hgr ⊢
      have e1 : (s.data.map fun b => Value.int .u8 b.toNat) = (Lib.strCells s).toArray := by
        apply Array.ext'
        simp [Lib.strCells]
      rw [e1] at hr
      exact ⟨_, _, hexec _ _ hr, ⟨rfl, rfl, rfl⟩, hgr.1, hgr.2, fun _ h0 => absurd h0 hm⟩
  · have hgw : w.heap[gg]? = some (.cells cur.toArray e (0, 0)) := by rw [hw]; exact hg.get
    have hcs' : cap ≤ cur.length := by simpa using hcs
    by_cases hroom : n + s.size ≤ cap
    · have hr := Lib.run_append_room_string (P := P) w T U ty e i' e1 u1 e3' e4' gg n cap cur.toArray hgw s hroom (by simp; omega)
      refine ⟨_, _, hexec _ _ hr, ⟨rfl, rfl, rfl⟩, ⟨hlen, .inr ⟨gg, cap, cur.take n ++ Lib.strCells s ++ cur.drop (n + s.size), rfl, .inl hF, ?_, hroom, hcm, ?_, ?_⟩⟩, ⟨by rw [← hw]; simp, fun k _ hk => ?_⟩, fun h0 => by cases h0⟩
      · exact ⟨setRow_heap w gg cur.toArray _ e _ hgw⟩
      · simp only [List.length_append, List.length_take, List.length_drop, Lib.strCells_length]; omega
      · have ht' : cur.take n = xs := by simpa using htake
        rw [ht', ← hlen]
        exact List.take_left
      · rw [← hw]; exact setRow_other w gg k _ (fun e => hk (by simp [Value.ownBlock, e]))
    · have holds : ∀ j u, xs[j]? = some u → w.cell? ((⟨gg, 0, none⟩ : Addr).add j) = some u := fun j u hu => by
        rw [addr_add]
        rw [← htake] at hu
        have hc : cur[j]? = some u := by
          rw [List.getElem?_take] at hu
          split at hu
          · exact hu
          · cases hu
        simp [World.cell?, hgw, hc]
      have hr := Lib.run_append_grow_string (P := P) w T U ty e i' z' e1 u1 e3' e6' ⟨gg, 0, none⟩ n cap xs (by rw [e4', hxl, Nat.mul_one]) holds s (by omega) (by omega) (growslice_fits (by omega) (by rw [e5']; omega))
      have hgr := grown cap (by omega) (Value.ownBlock (.slice (some ⟨gg, 0, none⟩) n cap))
      exact ⟨_, _, hexec _ _ hr, ⟨rfl, rfl, rfl⟩, hgr.1, hgr.2, fun h0 => by cases h0⟩
theorem X.WrA.appendStr {T U e : TypeId} {x y : Operand} {r ru re : Ty} {v : Value} {n : Nat} {xs : List Value} {s : ByteArray} (hT : tyOf P T = some r) (hk : r.k = .slice e) (hU : tyOf P U = some ru) (hku : ru.k = .string) (hE : tyOf P e = some re) (hE1 : re.size = 1) (hEb : re.bytes = 1) (hEz : re.zero.length = 1)
    (hs : ev ρ x = v) (hy : ev ρ y = .string s) (sel : Sel Γ (lst e 1 v n xs) Γ') (h0 : n = 0 → v = .slice none 0 0) (hb : n + s.size ≤ 1000000000) :
    WrA P ρ σ Γ (.call { callee := .builtin .append, args := #[x, y], argTypes := #[T, U] }) ty (fun v' σ' Δ => ∃ p c, v' = .slice p (n + s.size) c ∧ (n + s.size = 0 → p = none ∧ c = 0) ∧ σ = σ' ∧ Δ = lst e 1 (.slice p (n + s.size) c) (n + s.size) (xs ++ Lib.strCells s) :: Γ') noPA :=
  ⟨fun f h hh => ⟨fun d pos af gd a w next Q' he hw hn hp =>
    (Wr.appendStr hT hk hU hku hE hE1 hEb hEz (hh.own sel) hs hy hb).out d pos af gd a w next Q' he hw (fun v' w' sm q => by
      obtain ⟨p, c, rfl⟩ := q.1.shape
      exact hn _ w' sm ⟨σ, _, ⟨p, c, rfl, fun hz => by
        have := q.2.2 (h0 (by omega)) (by omega)
        simp only [Value.slice.injEq] at this
        exact ⟨this.1, this.2.2⟩, rfl, rfl⟩, hh.app sel q.1 q.2.1⟩) (fun _ _ _ q => q.elim)⟩⟩
theorem X.WrA.unsafeString {x y : Operand} {pt it e : TypeId} {rp re : Ty} {g c : Nat} {acc : ByteArray} (hpt : tyOf P pt = some rp) (hk : rp.k = .pointer e) (hE : tyOf P e = some re) (hE1 : re.size = 1) (hx : ev ρ x = .pointer (some ⟨g, 0, none⟩)) (hy : ev ρ y = i64 acc.size) (s : Sel Γ (lst e 1 (.slice (some ⟨g, 0, none⟩) acc.size c) acc.size (Lib.strCells acc)) Γ') (h0 : 0 < acc.size) :
    WrA P ρ σ Γ (.call { callee := .builtin .unsafeString, args := #[x, y], argTypes := #[pt, it] }) ty (fun v σ' Δ => v = .string acc ∧ σ = σ' ∧ Δ = Γ') noPA := by
  obtain ⟨dd, i, z, e1, e2, -⟩ := tyOf_spec hpt
  rw [hk] at e2
  cases dd <;> simp [kindOf] at e2
  rw [e2] at e1
  refine Wr.toA (Q := fun h v h' => v = .string acc ∧ ∀ k, k ≠ g → h'[k]? = h[k]?) (fun h hh => Wr.run fun d pos af gd w hw => ?_) fun f h v h' hh ⟨e1, e2⟩ => ⟨σ, _, ⟨e1, rfl, rfl⟩, hh.dropLst s e2⟩
  obtain ⟨f, hh⟩ := hh
  have own := hh.own s
  rcases own.alt with ⟨h1, -⟩ | ⟨g', cap, cur, h1, h2, h3, h4, h5, h6, h7⟩
  · cases h1
  · simp only [Value.slice.injEq, Option.some.injEq, Addr.mk.injEq, and_true, true_and] at h1
    obtain ⟨rfl, rfl⟩ := h1
    have hgw : w.heap[g]? = some (.cells cur.toArray e (0, 0)) := by rw [hw]; exact h3.get
    have hsh : w.shape? g = some (e, cur.length) := blk_shape h3 hw
    have hl : acc.data.toList.length = acc.size := rfl
    have hlc : acc.size ≤ cur.length := by omega
    have hcell : ∀ (j : Nat) (x : UInt8), acc.data.toList[j]? = some x → w.cell? ((⟨g, 0, none⟩ : Addr).add j) = some (.int .u8 x.toNat) := fun j x hx => by
      have hu : (Lib.strCells acc)[j]? = some (.int .u8 x.toNat) := by rw [Lib.strCells, List.getElem?_map, hx]; rfl
      rw [addr_add]
      rw [← h7] at hu
      have hc : cur[j]? = some (.int .u8 x.toNat) := by
        rw [List.getElem?_take] at hu
        split at hu
        · exact hu
        · cases hu
      simp [World.cell?, hgw, hc]
    have hr := Lib.run_unsafeString_row (P := P) w pt it ty e e1 (by rw [cellsOf_ty hE, hE1]) g cur.length hsh acc.data.toList (fun h => by rw [← hl, h] at h0; exact Nat.lt_irrefl _ h0) (by omega) (by simp only [maxLen] at h5; omega) hcell
    rw [hl] at hr
    refine ⟨.string acc, w.freeze ⟨g, 0, none⟩ acc.size, ?_, same_freeze _ _ _, rfl, fun k hk => by rw [← hw]; exact get_freeze_ne hk⟩
    simp only [execOp, resolve, invoke, builtin, Sem.run_bind, Sem.run_pure, Result.andThen_ok, List.map_toArray, List.map_cons, List.map_nil, hx, hy, hr]
end
end Go.Proofs.YthefnnkmpcgcmaaDoor

namespace Go.Proofs.YthefnnkmpcgcmaaDoor
open Go X
set_option maxHeartbeats 2000000
def nptr (u : Bool) (b : Nat) : Value := .pointer (if u = true then some ⟨b, 0, none⟩ else none)
section
variable (σ : PH) (T : TypeId) (b : Nat) (vs : List Value)
theorem copy_r (u : Bool) (sl : Value) (hlies : liesAt Tryd.prog Tryd.prog.depth T ((vs.length + 2) / Tryd.prog.cellsOf T) 0 63 1 = true) :
    CallsA Tryd.prog 77 #[ptr b] σ [blk b (nptr u b :: sl :: vs) T] (RetA fun v σ' Γ' => v = .tuple #[] ∧ σ = σ' ∧ Γ' = [blk b (ptr b :: sl :: vs) T]) := by
  have hfit2 : ∀ _ : Unit, 0 + 1 ≤ vs.length + 1 + 1 := fun _ => by omega
  cases u with
  | true =>
    refine enterA1 Tryd.func77 rfl rfl rfl ?_
    refine zS (zR (zA rfl ?_)); refine zO rfl (Rd.nilCheck rfl) ?_; refine zV rfl rfl ?_; refine zB rfl rfl (tyrow rfl) rfl ?_; refine zO rfl (X.Rd.eqPtrNull (tyrow rfl) rfl rfl) ?_; refine zN (zT (XA.condF rfl rfl (zS (zR (zA rfl ?_))))); refine zO rfl (Rd.nilCheck rfl) ?_; refine zV rfl rfl ?_
    refine zB rfl rfl (tyrow rfl) rfl ?_; refine zA rfl ?_; refine zO rfl (X.Rd.neqPtrSame (tyrow rfl) rfl (tyrow rfl) rfl rfl) ?_; refine zN (zT (XA.condF rfl rfl (XA.skip ?_)))
    exact bodyA.normal (ResA.none rfl) zE ⟨rfl, rfl, rfl⟩
  | false =>
    refine enterA1 Tryd.func77 rfl rfl rfl ?_
    refine zS (zR (zA rfl ?_)); refine zO rfl (Rd.nilCheck rfl) ?_; refine zV rfl rfl ?_; refine zB rfl rfl (tyrow rfl) rfl ?_; refine zO rfl (X.Rd.eqPtrNull (tyrow rfl) rfl rfl) ?_; refine zN (zT (XA.condT rfl rfl (zR (zA rfl ?_)))); refine zA rfl ?_
    refine zO rfl (X.Rd.toUnsafe (tyrow rfl) rfl (tyrow rfl) rfl (by kernel_rfl) rfl zL (by simp)) ?_; refine zO rfl (X.Rd.noEscape Tryd.func98 (by kernel_rfl) (by kernel_rfl) (by kernel_rfl) (by kernel_rfl) rfl) ?_
    refine zO rfl (X.Rd.fromUnsafe (n := vs.length + 2) (tyrow rfl) rfl (tyrow rfl) (by kernel_rfl) rfl zL (by simp) hlies) ?_; refine zO rfl (Rd.nilCheck rfl) ?_; refine zV rfl rfl ?_
    clear hlies
    refine XOA.wr0 rfl (WrA.st (tyrow rfl) rfl) ?_
    rintro _ _ _ ⟨rfl, rfl, rfl⟩
    refine zN ?_
    exact bodyA.normal (ResA.none rfl) zE ⟨rfl, rfl, rfl⟩
theorem write_r (u : Bool) (p : Option Addr) (n c : Nat) (xs : List Value) (s : ByteArray) (hz : n = 0 → p = none ∧ c = 0) (hb : n + s.size ≤ 1000000000) (hlies : liesAt Tryd.prog Tryd.prog.depth T ((vs.length + 2) / Tryd.prog.cellsOf T) 0 63 1 = true) :
    CallsA Tryd.prog 49 #[ptr b, .string s] σ [blk b (nptr u b :: .slice p n c :: vs) T, lst 5 1 (.slice p n c) n xs] (RetA fun v σ' Γ' => ∃ p' c', v = .tuple #[i64 s.size, .nilIface] ∧ (n + s.size = 0 → p' = none ∧ c' = 0) ∧ σ = σ' ∧ Γ' = [blk b (ptr b :: .slice p' (n + s.size) c' :: vs) T, lst 5 1 (.slice p' (n + s.size) c') (n + s.size) (xs ++ Lib.strCells s)]) := by
  have hfit2 : ∀ _ : Unit, 1 + 1 ≤ vs.length + 1 + 1 := fun _ => by omega
  have h0 : n = 0 → (Value.slice p n c) = .slice none 0 0 := fun h => by obtain ⟨rfl, rfl⟩ := hz h; rw [h]
  have hcopy := copy_r σ T b vs u (.slice p n c) hlies
  clear hlies
  refine enterA2 Tryd.func49 rfl rfl rfl ?_
  refine zS (zR (zO rfl Rd.asg ?_)); refine zO rfl Rd.asg ?_; refine zN (zT (zS (zR (zA rfl ?_))))
  refine XOA.wr0 rfl (WrA.cE (hcopy) rfl) ?_
  rintro _ _ _ ⟨_, ⟨rfl, rfl, rfl⟩, rfl⟩
  refine XOA.cl ?_
  clear hcopy
  refine zN (zT (zS (zR (zA rfl ?_)))); refine zA rfl ?_; refine zO rfl (Rd.nilCheck rfl) ?_; refine zV rfl rfl ?_; refine zB rfl rfl (tyrow rfl) rfl ?_; refine zA rfl ?_
  refine XOA.wr0 rfl (X.WrA.appendStr (tyrow rfl) rfl (tyrow rfl) rfl (tyrow rfl) rfl rfl rfl rfl rfl zL h0 hb) ?_
  rintro _ _ _ ⟨p', c', rfl, hz', rfl, rfl⟩
  refine zO rfl (Rd.nilCheck rfl) ?_; refine zV rfl rfl ?_
  refine XOA.wr0 rfl (WrA.st (tyrow rfl) rfl) ?_
  rintro _ _ _ ⟨rfl, rfl, rfl⟩
  refine zN (zT (zS (zR (zA rfl ?_)))); refine zO rfl (Rd.lenString (tyrow rfl) rfl rfl) ?_; refine zO rfl Rd.asg ?_; refine zO rfl Rd.asg ?_; refine zN (zT (XA.ret ?_))
  exact bodyA.ret (ResA.two rfl rfl rfl) zE ⟨p', c', rfl, hz', rfl, rfl⟩
end
/-- A builder in the head of the block b: it holds acc; what stands behind it is vs. -/
def Bld (T : TypeId) (b : Nat) (vs : List Value) (acc : ByteArray) : HP := fun m => ∃ (u : Bool) (p : Option Addr) (c : Nat), (acc.size = 0 → p = none ∧ c = 0) ∧ Sat [blk b (nptr u b :: .slice p acc.size c :: vs) T, lst 5 1 (.slice p acc.size c) acc.size (Lib.strCells acc)] m
theorem Bld.o {T : TypeId} {b : Nat} {vs : List Value} {acc : ByteArray} : ∀ m, Bld T b vs acc m → ∃ x : Bool × (Option Addr × Nat), (acc.size = 0 → x.2.1 = none ∧ x.2.2 = 0) ∧ Sat [blk b (nptr x.1 b :: .slice x.2.1 acc.size x.2.2 :: vs) T, lst 5 1 (.slice x.2.1 acc.size x.2.2) acc.size (Lib.strCells acc)] m := fun m ⟨u, p, c, h1, h2⟩ => ⟨(u, (p, c)), h1, h2⟩
theorem Bld.mk {T : TypeId} {b : Nat} {vs : List Value} {acc : ByteArray} {p : Option Addr} {c : Nat} (u : Bool) (h : acc.size = 0 → p = none ∧ c = 0) : Ent [blk b (nptr u b :: .slice p acc.size c :: vs) T, lst 5 1 (.slice p acc.size c) acc.size (Lib.strCells acc)] [Bld T b vs acc] :=
  Ent.fold1 (Ent.refl _) fun m hm => ⟨u, p, c, h, hm⟩
theorem X.CallsA.post {P : Program} {f : FuncId} {vs : Array Value} {σ : PH} {Γ : List HP} {R R' : Value → PH → List HP → Prop} (hc : CallsA P f vs σ Γ (RetA R)) (k : ∀ v σ' Γ', R v σ' Γ' → ∃ Γ2, R' v σ' Γ2 ∧ Ent Γ' Γ2) : CallsA P f vs σ Γ (RetA R') :=
  ⟨hc.1, fun fr hp hh => (hc.2 fr hp hh).mono fun e h' ⟨σ', Γ', a, b⟩ => by
    cases e with
    | returned v => obtain ⟨Γ2, a2, he⟩ := k v σ' Γ' a; exact ⟨σ', Γ2, a2, b.ent he⟩
    | panicked c => exact a.elim
    | outgrown => exact a.elim⟩
theorem strCells_app (a b : ByteArray) : Lib.strCells (a ++ b) = Lib.strCells a ++ Lib.strCells b := by simp [Lib.strCells]
theorem lst_room {e size n c : Nat} {p : Option Addr} {xs : List Value} (hn : 0 < n) : ∀ m, lst e size (.slice p n c) n xs m → ∃ g : Nat, (p = some ⟨g, 0, none⟩ ∧ c ≠ 0) ∧ Sat [lst e size (.slice (some ⟨g, 0, none⟩) n c) n xs] m := fun m h => by
  have h0 := h
  obtain ⟨h1, ⟨h2, h3⟩ | ⟨g, cap, h2, cur, h3, h4, h5⟩⟩ := h
  · omega
  · simp only [Value.slice.injEq] at h2
    obtain ⟨rfl, -, rfl⟩ := h2
    exact ⟨g, ⟨rfl, by omega⟩, m, PH.none, h0, trivial, PH.none_dis m, .refl m, PH.none_sub _⟩
section
variable (σ : PH) (T : TypeId) (b : Nat) (vs : List Value)
theorem write_b (acc s : ByteArray) (hb : acc.size + s.size ≤ 1000000000) (hlies : liesAt Tryd.prog Tryd.prog.depth T ((vs.length + 2) / Tryd.prog.cellsOf T) 0 63 1 = true) :
    CallsA Tryd.prog 49 #[ptr b, .string s] σ [Bld T b vs acc] (RetA fun v σ' Γ' => v = .tuple #[i64 s.size, .nilIface] ∧ σ = σ' ∧ Γ' = [Bld T b vs (acc ++ s)]) := by
  refine CallsA.opn (s := Sel.head) Bld.o (enters Tryd.func49 rfl rfl) fun x hx => ?_
  refine (write_r σ T b vs x.1 x.2.1 acc.size x.2.2 (Lib.strCells acc) s hx hb hlies).post ?_
  rintro v σ' Γ' ⟨p', c', rfl, hz', rfl, rfl⟩
  refine ⟨_, ⟨rfl, rfl, rfl⟩, ?_⟩
  rw [← strCells_app, ← ByteArray.size_append]
  exact Bld.mk true (fun h => hz' (by rw [← ByteArray.size_append]; exact h))
theorem len_b (acc : ByteArray) : CallsA Tryd.prog 29 #[ptr b] σ [Bld T b vs acc] (RetA fun v σ' Γ' => v = i64 acc.size ∧ σ = σ' ∧ Γ' = [Bld T b vs acc]) := by
  refine CallsA.opn (s := Sel.head) Bld.o (enters Tryd.func29 rfl rfl) fun x hx => ?_
  obtain ⟨u, p, c⟩ := x
  simp only at hx
  refine CallsA.conv (Γ2 := [blk b (nptr u b :: .slice p acc.size c :: vs) T, lst 5 1 (.slice p acc.size c) acc.size (Lib.strCells acc)]) ?_ (Bld.mk u hx)
  show CallsA _ _ _ _ [blk b (nptr u b :: .slice p acc.size c :: vs) T, lst 5 1 (.slice p acc.size c) acc.size (Lib.strCells acc)] _
  refine enterA1 Tryd.func29 rfl rfl rfl ?_
  refine zS (zR (zO rfl Rd.asg ?_)); refine zN (zT (zS (zR (zA rfl ?_)))); refine zO rfl (Rd.nilCheck rfl) ?_; refine zV rfl rfl ?_; refine zB rfl rfl (tyrow rfl) rfl ?_; refine zO rfl (Rd.lenSlice (tyrow rfl) rfl rfl) ?_; refine zO rfl Rd.asg ?_; refine zN (zT (XA.ret ?_))
  exact bodyA.ret (ResA.one rfl rfl) zE ⟨rfl, rfl, rfl⟩
theorem string_b (acc : ByteArray) : CallsA Tryd.prog 30 #[ptr b] σ [Bld T b vs acc] (RetA fun v σ' Γ' => v = .string acc ∧ σ = σ' ∧ ∃ q sl, Γ' = [blk b (q :: sl :: vs) T]) := by
  refine CallsA.opn (s := Sel.head) Bld.o (enters Tryd.func30 rfl rfl) fun x hx => ?_
  obtain ⟨u, p, c⟩ := x
  simp only at hx
  by_cases h0 : acc.size = 0
  · obtain ⟨rfl, rfl⟩ := hx h0
    have ha : acc = ByteArray.empty := by
      apply ByteArray.ext; apply Array.eq_empty_of_size_eq_zero; exact h0
    rw [h0, ha]
    show CallsA _ _ _ _ [blk b (nptr u b :: .slice none 0 0 :: vs) T, lst 5 1 (.slice none 0 0) 0 (Lib.strCells ByteArray.empty)] _
    clear hx
    refine enterA1 Tryd.func30 rfl rfl rfl ?_
    refine zS (zR (zO rfl Rd.asg ?_)); refine zN (zT (zS ?_))
    refine XA.draw (by kernel_rfl) _ _ [10] [(0, .pu), (1, .pu), (2, .pu), (3, .rd), (5, .pu), (6, .pu), (7, .pu), (8, .rd), (9, .pu), (4, .wr), (10, .wr), (11, .pu)] (by kernel_rfl) (PH.sub.refl _) (Ent.sel (R := blk b _ _) zL (Ent.nil _)) ?_
    refine XPA.pu rfl rfl Gd.free Rd.mv ?_; refine XPA.pu rfl rfl Gd.free (Rd.nilCheck rfl) ?_; refine XPA.pu rfl rfl Gd.free (Rd.fA rfl) ?_; refine XPA.rd rfl rfl Gd.free (Rd.ldC rfl (tyrow rfl) rfl) ?_; refine XPA.pu rfl rfl Gd.free Rd.mv ?_; refine XPA.pu rfl rfl Gd.free (Rd.nilCheck rfl) ?_
    refine XPA.pu rfl rfl Gd.free (Rd.fA rfl) ?_; refine XPA.rd rfl rfl Gd.free (Rd.ldC rfl (tyrow rfl) rfl) ?_; refine XPA.pu rfl rfl Gd.free (Rd.lenSlice (tyrow rfl) rfl rfl) ?_
    refine XPA.wr0 rfl rfl Gd.free (X.Rd.toW (X.Rd.sliceDataNil rfl)) ?_
    rintro _ _ _ ⟨rfl, rfl, rfl⟩
    refine stays ?_
    refine XPA.wrZ0 rfl rfl Gd.free (by kernel_rfl) (X.Rd.toW (X.Rd.unsafeNone rfl rfl)) ?_
    rintro _ _ _ ⟨rfl, rfl, rfl⟩
    refine XPA.pu rfl rfl Gd.free Rd.asg ?_; refine XPA.nil ?_; refine zT (XA.ret ?_)
    exact bodyA.ret (ResA.one rfl rfl) zE ⟨rfl, rfl, _, _, rfl⟩
  · refine CallsA.opn (s := Sel.tail Sel.head) (lst_room (by omega)) (enters Tryd.func30 rfl rfl) fun g hg => ?_
    obtain ⟨rfl, hc⟩ := hg
    have hpos : 0 < acc.size := by omega
    show CallsA _ _ _ _ [lst 5 1 (.slice (some ⟨g, 0, none⟩) acc.size c) acc.size (Lib.strCells acc), blk b (nptr u b :: .slice (some ⟨g, 0, none⟩) acc.size c :: vs) T] _
    clear hx h0
    refine enterA1 Tryd.func30 rfl rfl rfl ?_
    refine zS (zR (zO rfl Rd.asg ?_)); refine zN (zT (zS ?_))
    refine XA.draw (by kernel_rfl) _ _ [10] [(0, .pu), (1, .pu), (2, .pu), (3, .rd), (5, .pu), (6, .pu), (7, .pu), (8, .rd), (9, .pu), (4, .wr), (10, .wr), (11, .pu)] (by kernel_rfl) (PH.sub.refl _) (Ent.sel (R := blk b _ _) zL (Ent.nil _)) ?_
    refine XPA.pu rfl rfl Gd.free Rd.mv ?_; refine XPA.pu rfl rfl Gd.free (Rd.nilCheck rfl) ?_; refine XPA.pu rfl rfl Gd.free (Rd.fA rfl) ?_; refine XPA.rd rfl rfl Gd.free (Rd.ldC rfl (tyrow rfl) rfl) ?_; refine XPA.pu rfl rfl Gd.free Rd.mv ?_; refine XPA.pu rfl rfl Gd.free (Rd.nilCheck rfl) ?_
    refine XPA.pu rfl rfl Gd.free (Rd.fA rfl) ?_; refine XPA.rd rfl rfl Gd.free (Rd.ldC rfl (tyrow rfl) rfl) ?_; refine XPA.pu rfl rfl Gd.free (Rd.lenSlice (tyrow rfl) rfl rfl) ?_
    refine XPA.wr0 rfl rfl Gd.free (X.Rd.toW (X.Rd.sliceData rfl hc)) ?_
    rintro _ _ _ ⟨rfl, rfl, rfl⟩
    refine stays ?_
    refine XPA.wrZ0 rfl rfl Gd.free (by kernel_rfl) (X.WrA.unsafeString (tyrow rfl) rfl (tyrow rfl) rfl rfl rfl zL hpos) ?_
    rintro _ _ _ ⟨rfl, rfl, rfl⟩
    refine XPA.pu rfl rfl Gd.free Rd.asg ?_; refine XPA.nil ?_; refine zT (XA.ret ?_)
    exact bodyA.ret (ResA.one rfl rfl) zE ⟨rfl, rfl, _, _, rfl⟩
end
end Go.Proofs.YthefnnkmpcgcmaaDoor

namespace Go.Proofs.YthefnnkmpcgcmaaDoor
open Go X
set_option maxHeartbeats 1000000
section
variable {P : Program} {ρ : Env} {S : Heap → Prop} {ty : TypeId}
end
end Go.Proofs.YthefnnkmpcgcmaaDoor

namespace Go.Proofs.YthefnnkmpcgcmaaDoor
open Go X
set_option maxHeartbeats 2000000
structure Tk where
  at_ : Nat
  text : ByteArray
  num : Bool
  n : Int
def tkC (t : Tk) : List Value := [i64 t.at_, .string t.text, .bool t.num, i64 t.n]
end Go.Proofs.YthefnnkmpcgcmaaDoor

namespace Go.Proofs.YthefnnkmpcgcmaaDoor
open Go X
set_option maxHeartbeats 2000000
abbrev PErr (α : Type) := Except (Int × Int) α
def errC {α : Type} : PErr α → Int | .error e => e.1 | .ok _ => 0
def errA {α : Type} : PErr α → Int | .error e => e.2 | .ok _ => 0
def rTk : RT Tk := fun _ cs t => cs = tkC t
end Go.Proofs.YthefnnkmpcgcmaaDoor

namespace Go.Proofs.YthefnnkmpcgcmaaDoor
open Go X
set_option maxHeartbeats 4000000
theorem rF_t (σ : PH) (a b : Int) : CallsA Tryd.prog 22 #[i64 a, i64 b] σ [] (RetA fun v σ' Γ' => v = .agg #[i64 a, i64 b] ∧ σ = σ' ∧ Γ' = []) := by
  refine enterA2 Tryd.func22 rfl rfl rfl ?_
  refine zS (zR ?_)
  refine XOA.wr0 rfl (WrA.alloc (tyrow rfl)) ?_
  rintro _ _ _ ⟨g4, rfl, rfl, rfl⟩
  refine zN (zT (zS (zR (zA rfl ?_)))); refine zA rfl ?_
  refine zO rfl (Rd.bl (fun _ _ => tyrow) rfl rfl rfl) ?_
  refine XOA.wr0 rfl (WrA.st (tyrow rfl) rfl) ?_
  rintro _ _ _ ⟨rfl, rfl, rfl⟩
  refine zN (zT (XA.ret ?_))
  exact bodyA.ret (ResA.cellT rfl rfl (Ld.atBlk (tyrow rfl) rfl zL rfl (by first | exact take0 (by first | rfl | assumption | (refine (ints_len _).trans ?_; assumption) | (simp [*]; (first | done | fail))) | assumption | exact take_app (by first | rfl | assumption | (refine (ints_len _).trans ?_; assumption) | (simp [*]; (first | done | fail))) | (conv => lhs; simp only [List.drop_succ_cons, List.drop_zero, List.take_succ_cons, List.take_zero])) (by first | rfl | assumption | (refine (ints_len _).trans ?_; assumption) | (simp [*]; (first | done | fail))))) (Ent.nil _) ⟨rfl, rfl, rfl⟩
end Go.Proofs.YthefnnkmpcgcmaaDoor

namespace Go.Proofs.YthefnnkmpcgcmaaDoor
open Go X
set_option maxHeartbeats 2000000
section
variable {ρ : Env} {S : Heap → Prop} {ty : TypeId}
theorem X.run_equal_fault {a b c d : Int} (w : World) : (Op.equalIn 10000 30 (.agg #[i64 a, i64 b]) (.agg #[i64 c, i64 d])).run Tryd.prog w = .ok (decide (a = c ∧ b = d)) w := by
  have hI : tyOf Tryd.prog 3 = some _ := tyrow rfl
  obtain ⟨dd', ii', z', e1', e2', -⟩ := tyOf_spec hI
  cases dd' <;> simp [kindOf, ty3] at e2'
  have hu : Tryd.prog.underlying 30 = some (.struct (Tryd.prog.fieldsOf 30)) := by kernel_rfl
  have hf : (Tryd.prog.fieldsOf 30).toList.map (fun f => (f.name, f.type, f.offset)) = [("Code", 3, 0), ("At", 3, 1)] := by kernel_rfl
  obtain ⟨f1, f2, hf2⟩ := list2 (l := (Tryd.prog.fieldsOf 30).toList) (by simpa using congrArg List.length hf)
  rw [hf2] at hf
  simp only [List.map_cons, List.map_nil, List.cons.injEq, Prod.mk.injEq, and_true] at hf
  obtain ⟨⟨n1, t1, o1⟩, n2, t2, o2⟩ := hf
  rw [run_equalIn_agg w 9999 _ _ _ hu (by kernel_rfl), hf2]
  have hb : ∀ (w : World), (isAgg 3).run Tryd.prog w = .ok false w := fun w => by unfold isAgg; rw [Sem.run_bind, run_underlying e1' w]; rfl
  have q2 := fun x y => run_equalIn_int (P := Tryd.prog) w 9998 3 .i64 _ x y e1'
  simp [Op.eqFields, part, hb, q2, n1, n2, t1, t2, o1, o2]
  by_cases h1 : a = c
  · by_cases h2 : b = d <;> simp [h1, h2]
  · simp [h1]
end
end Go.Proofs.YthefnnkmpcgcmaaDoor

namespace Go.Proofs.YthefnnkmpcgcmaaDoor
open Go X
def tkey (t : Tk) : ByteArray × Bool × Int := (t.text, t.num, t.n)
end Go.Proofs.YthefnnkmpcgcmaaDoor

namespace Go.Proofs.YthefnnkmpcgcmaaDoor
open Go X
set_option maxHeartbeats 2000000
end Go.Proofs.YthefnnkmpcgcmaaDoor

namespace Go.Proofs.YthefnnkmpcgcmaaDoor
open Go X
end Go.Proofs.YthefnnkmpcgcmaaDoor

namespace Go.Proofs.YthefnnkmpcgcmaaDoor
open Go X
set_option maxHeartbeats 2000000
/-- The fault at what is left. -/
def failAt (e : Int) (l : List Tk) (code : Int) : Int × Int := match l with
  | t :: _ => (code, t.at_)
  | [] => (if code = 5 then 6 else code, e)
def isT (w : ByteArray) : List Tk → Bool
  | t :: _ => !t.num && decide (t.text = w)
  | [] => false
def goneP (x : Int × Int) : List PanicEntry := [{ v := .iface 79 (.agg #[i64 x.1, i64 x.2]), recovered := false }]
section
variable (σ : PH) (b : Nat) (p : Option Addr) (n c : Nat) (e : Int) (vs : Value)
end
end Go.Proofs.YthefnnkmpcgcmaaDoor

namespace Go.Proofs.YthefnnkmpcgcmaaDoor
open Go X
set_option maxHeartbeats 2000000
def wordsL : List ByteArray := [⟨#[]⟩, ⟨#[110, 117, 109]⟩, ⟨#[118, 97, 114]⟩, ⟨#[103, 101, 116]⟩, ⟨#[97, 100, 100]⟩, ⟨#[115, 117, 98]⟩, ⟨#[109, 117, 108]⟩, ⟨#[108, 101, 115, 115]⟩, ⟨#[115, 97, 109, 101]⟩]
def verbsL : List ByteArray := [⟨#[]⟩, ⟨#[115, 101, 116]⟩, ⟨#[112, 117, 116]⟩, ⟨#[112, 114, 105, 110, 116]⟩, ⟨#[114, 101, 97, 100]⟩, ⟨#[119, 104, 105, 108, 101]⟩, ⟨#[105, 102]⟩, ⟨#[99, 111, 109, 109, 105, 116]⟩]
def wordOf (k : Int) : ByteArray := if 1 ≤ k ∧ k ≤ 8 then wordsL.getD k.toNat ByteArray.empty else ByteArray.empty
def verbOf (k : Int) : ByteArray := if 1 ≤ k ∧ k ≤ 7 then verbsL.getD k.toNat ByteArray.empty else ByteArray.empty
theorem word_p (σ : PH) (k : Int) : CallsA Tryd.prog 39 #[i64 k] σ [] (RetA fun v σ' Γ' => v = .string (wordOf k) ∧ σ = σ' ∧ Γ' = []) := by
  by_cases hr : 1 ≤ k ∧ k ≤ 8
  · have hp : ¬ partsOf k < 0 := by rw [partsOf]; split; (decide); split; (decide); rw [if_pos (by omega)]; decide
    have hop : k = 1 ∨ k = 2 ∨ k = 3 ∨ k = 4 ∨ k = 5 ∨ k = 6 ∨ k = 7 ∨ k = 8 := by omega
    have hel : (List.toArray [Value.string ⟨#[]⟩, .string ⟨#[110, 117, 109]⟩, .string ⟨#[118, 97, 114]⟩, .string ⟨#[103, 101, 116]⟩, .string ⟨#[97, 100, 100]⟩, .string ⟨#[115, 117, 98]⟩, .string ⟨#[109, 117, 108]⟩, .string ⟨#[108, 101, 115, 115]⟩, .string ⟨#[115, 97, 109, 101]⟩])[k.toNat]? = some (.string (wordOf k)) := by
      rcases hop with rfl | rfl | rfl | rfl | rfl | rfl | rfl | rfl <;> rfl
    refine enterA1 Tryd.func39 rfl rfl rfl ?_
    refine zS (zR (zO rfl Rd.asg ?_)); refine zN (zT (zS (zS (zR (zA rfl ?_)))))
    refine XOA.wr0 rfl (WrA.cE (parts_a σ k) rfl) ?_
    rintro _ _ _ ⟨_, ⟨rfl, rfl, rfl⟩, rfl⟩
    refine XOA.cl ?_; refine zO rfl (Rd.lss rfl rfl) ?_; refine zN (zT (XA.condF rfl (by first | rfl | exact decide_eq_false hp) ?_)); refine XA.skip (zT (zS (zR ?_)))
    refine zO rfl (Rd.buildA (cs := [Value.string ⟨#[]⟩, .string ⟨#[110, 117, 109]⟩, .string ⟨#[118, 97, 114]⟩, .string ⟨#[103, 101, 116]⟩, .string ⟨#[97, 100, 100]⟩, .string ⟨#[115, 117, 98]⟩, .string ⟨#[109, 117, 108]⟩, .string ⟨#[108, 101, 115, 115]⟩, .string ⟨#[115, 97, 109, 101]⟩]) (fun _ _ => tyrow) rfl rfl rfl rfl (by kernel_rfl)) ?_
    refine zA rfl ?_
    refine zO rfl (by apply Rd.indexAgg; exact tyrow rfl; rfl; exact tyrow rfl; rfl; rfl; rfl; rfl; exact (by omega); exact hel) ?_
    refine zO rfl Rd.asg ?_; refine zN (zT (XA.ret ?_))
    exact bodyA.ret (ResA.one rfl rfl) (Ent.refl _) ⟨rfl, rfl, rfl⟩
  · have hp : partsOf k < 0 := by rw [partsOf, if_neg (by omega), if_neg (by omega), if_neg (by omega)]; decide
    have hw : wordOf k = ByteArray.empty := by rw [wordOf, if_neg hr]
    rw [hw]
    refine enterA1 Tryd.func39 rfl rfl rfl ?_
    refine zS (zR (zO rfl Rd.asg ?_)); refine zN (zT (zS (zS (zR (zA rfl ?_)))))
    refine XOA.wr0 rfl (WrA.cE (parts_a σ k) rfl) ?_
    rintro _ _ _ ⟨_, ⟨rfl, rfl, rfl⟩, rfl⟩
    refine XOA.cl ?_; refine zO rfl (Rd.lss rfl rfl) ?_; refine zN (zT (XA.condT rfl (by first | rfl | exact decide_eq_true hp) ?_)); refine zS (zR (zO rfl Rd.asg ?_)); refine zN (zT (XA.ret (DA.thn_ret ?_)))
    exact bodyA.ret (ResA.one rfl rfl) (Ent.refl _) ⟨rfl, rfl, rfl⟩
theorem verb_p (σ : PH) (k : Int) : CallsA Tryd.prog 40 #[i64 k] σ [] (RetA fun v σ' Γ' => v = .string (verbOf k) ∧ σ = σ' ∧ Γ' = []) := by
  by_cases h1 : k < 1
  · have hw : verbOf k = ByteArray.empty := by rw [verbOf, if_neg (by omega)]
    rw [hw]
    refine enterA1 Tryd.func40 rfl rfl rfl ?_
    refine zS (zR (zO rfl Rd.asg ?_)); refine zN (zT (zS (zS (zR (zA rfl ?_))))); refine zO rfl (Rd.lss rfl rfl) ?_; refine zA rfl ?_
    first | (refine zG ?_; refine zA rfl ?_) | refine zH ?_
    first | (refine zG ?_; refine zO rfl (Rd.gtr rfl rfl) ?_) | refine zH ?_
    refine zO rfl zP ?_; refine zN (zT (XA.condT rfl (by first | rfl | exact decide_eq_true h1) ?_)); refine zS (zR (zO rfl Rd.asg ?_)); refine zN (zT (XA.ret (DA.thn_ret ?_)))
    exact bodyA.ret (ResA.one rfl rfl) (Ent.refl _) ⟨rfl, rfl, rfl⟩
  by_cases h7 : k > 7
  · have hw : verbOf k = ByteArray.empty := by rw [verbOf, if_neg (by omega)]
    rw [hw]
    refine enterA1 Tryd.func40 rfl rfl rfl ?_
    refine zS (zR (zO rfl Rd.asg ?_)); refine zN (zT (zS (zS (zR (zA rfl ?_))))); refine zO rfl (Rd.lss rfl rfl) ?_; refine zA rfl ?_
    first | (refine zG ?_; refine zA rfl ?_) | refine zH ?_
    first | (refine zG ?_; refine zO rfl (Rd.gtr rfl rfl) ?_) | refine zH ?_
    refine zO rfl zP ?_; refine zN (zT (XA.condT rfl (by first | rfl | exact decide_eq_true h7) ?_)); refine zS (zR (zO rfl Rd.asg ?_)); refine zN (zT (XA.ret (DA.thn_ret ?_)))
    exact bodyA.ret (ResA.one rfl rfl) (Ent.refl _) ⟨rfl, rfl, rfl⟩
  have hop : k = 1 ∨ k = 2 ∨ k = 3 ∨ k = 4 ∨ k = 5 ∨ k = 6 ∨ k = 7 := by omega
  have hel : (List.toArray [Value.string ⟨#[]⟩, .string ⟨#[115, 101, 116]⟩, .string ⟨#[112, 117, 116]⟩, .string ⟨#[112, 114, 105, 110, 116]⟩, .string ⟨#[114, 101, 97, 100]⟩, .string ⟨#[119, 104, 105, 108, 101]⟩, .string ⟨#[105, 102]⟩, .string ⟨#[99, 111, 109, 109, 105, 116]⟩])[k.toNat]? = some (.string (verbOf k)) := by
    rcases hop with rfl | rfl | rfl | rfl | rfl | rfl | rfl <;> rfl
  refine enterA1 Tryd.func40 rfl rfl rfl ?_
  refine zS (zR (zO rfl Rd.asg ?_)); refine zN (zT (zS (zS (zR (zA rfl ?_))))); refine zO rfl (Rd.lss rfl rfl) ?_; refine zA rfl ?_
  first | (refine zG ?_; refine zA rfl ?_) | refine zH ?_
  first | (refine zG ?_; refine zO rfl (Rd.gtr rfl rfl) ?_) | refine zH ?_
  refine zO rfl zP ?_; refine zN (zT (XA.condF rfl (by first | rfl | exact decide_eq_false h7) ?_)); refine XA.skip (zT (zS (zR ?_)))
  refine zO rfl (Rd.buildA (cs := [Value.string ⟨#[]⟩, .string ⟨#[115, 101, 116]⟩, .string ⟨#[112, 117, 116]⟩, .string ⟨#[112, 114, 105, 110, 116]⟩, .string ⟨#[114, 101, 97, 100]⟩, .string ⟨#[119, 104, 105, 108, 101]⟩, .string ⟨#[105, 102]⟩, .string ⟨#[99, 111, 109, 109, 105, 116]⟩]) (fun _ _ => tyrow) rfl rfl rfl rfl (by kernel_rfl)) ?_
  refine zA rfl ?_
  refine zO rfl (by apply Rd.indexAgg; exact tyrow rfl; rfl; exact tyrow rfl; rfl; rfl; rfl; rfl; exact (by omega); exact hel) ?_
  refine zO rfl Rd.asg ?_; refine zN (zT (XA.ret ?_))
  exact bodyA.ret (ResA.one rfl rfl) (Ent.refl _) ⟨rfl, rfl, rfl⟩
section
variable (σ : PH) (b : Nat) (p : Option Addr) (n c : Nat) (e : Int) (vs : Value)
end
end Go.Proofs.YthefnnkmpcgcmaaDoor

namespace Go.Proofs.YthefnnkmpcgcmaaDoor
open Go X
set_option maxHeartbeats 2000000
def idxG (s : ByteArray) : List Va → Nat → Option Nat
  | [], _ => none
  | v :: r, k => if v.name = s then some k else idxG s r (k + 1)
section
variable (σ : PH) (b : Nat) (p : Option Addr) (n c : Nat) (e : Int) (vs : Value)
end
end Go.Proofs.YthefnnkmpcgcmaaDoor

namespace Go.Proofs.YthefnnkmpcgcmaaDoor
open Go X
def pickG (W : Int → ByteArray) (l : List Tk) : Nat → Nat → Option Nat
  | 0, _ => none
  | f + 1, k => if isT (W k) l = true then some k else pickG W l f (k + 1)
def pickT (W : Int → ByteArray) (most : Nat) (l : List Tk) : Option Nat := pickG W l most 1
abbrev lpar : ByteArray := ⟨#[40]⟩
abbrev rpar : ByteArray := ⟨#[41]⟩
abbrev PR (α : Type) := Except (Int × Int) (α × List Tk)
def subsA {α : Type} (E : List Tk → PR α) : Nat → List Tk → List α → PR (List α)
  | 0, l, acc => .ok (acc, l)
  | m + 1, l, acc => match E l with
    | .error x => .error x
    | .ok (x, l1) => subsA E m l1 (acc ++ [x])
def varP (vl : List Va) (e : Int) (l : List Tk) : PR Int := match l with
  | t :: r => if nameOk t.text = true then match idxG t.text vl 0 with
      | some i => .ok ((i : Int), r)
      | none => .error (failAt e l 10)
    else .error (failAt e l 5)
  | [] => .error (failAt e l 5)
def numP (e : Int) (l : List Tk) : PR Int := match l with
  | t :: r => if t.num = true then .ok (t.n, r) else .error (failAt e l 5)
  | [] => .error (failAt e l 5)
/-- What stands behind the word: a variable's number and a number. -/
def headP (vl : List Va) (e : Int) (k : Nat) (l : List Tk) : PR (Int × Int) :=
  if k = 1 then match numP e l with | .error x => .error x | .ok (n, r) => .ok ((0, n), r)
  else if k = 2 ∨ k = 3 then match varP vl e l with | .error x => .error x | .ok (v, r) => .ok ((v, 0), r)
  else .ok ((0, 0), l)
def closeP {α : Type} (e : Int) (x : α) (l : List Tk) : PR α := if isT rpar l = true then .ok (x, l.tail) else .error (failAt e l 5)
def exprP (vl : List Va) (e : Int) : Nat → List Tk → PR Ex
  | 0, l => .error (failAt e l 4)
  | f + 1, l => if isT lpar l = true then match pickT wordOf 8 l.tail with
      | none => .error (failAt e l.tail 5)
      | some k => match headP vl e k l.tail.tail with
        | .error x => .error x
        | .ok (vn, l3) => match subsA (exprP vl e f) (partsOf k).toNat l3 [] with
          | .error x => .error x
          | .ok (xs, l4) => closeP e (.mk k vn.1 vn.2 xs) l4
    else .error (failAt e l 5)
theorem mem_tail {α : Type} {l : List α} {t : α} (h : t ∈ l.tail) : t ∈ l := List.mem_of_mem_tail h
/-- What a parser's tokens hold. -/
def TkF (t : Tk) : Prop := t.text.size ≤ maxLen ∧ i64ok t.n
/-- A call's two ends. -/
def EndA (Q : Value → PH → List HP → Prop) (D : List PanicEntry → PH → List HP → Prop) : Ending → PH → List HP → Prop
  | .returned v, σ, Γ => Q v σ Γ
  | .panicked c, σ, Γ => D c σ Γ
  | _, _, _ => False
end Go.Proofs.YthefnnkmpcgcmaaDoor

namespace Go.Proofs.YthefnnkmpcgcmaaDoor
open Go X
set_option maxHeartbeats 4000000
set_option maxRecDepth 4000
def ExprPOK (vl : List Va) (e : Int) (f : Nat) : Prop := ∀ (σ : PH) (b : Nat) (p : Option Addr) (c : Nat) (pv : Option Addr) (cv : Nat) (l : List Tk) (d : Int), PSl 2 rVa σ (.slice pv vl.length cv) vl → PSl 4 rTk σ (.slice p l.length c) l → (∀ t ∈ l, TkF t) → d + f = 13 → 0 ≤ d →
  CallsA Tryd.prog 89 #[ptr b, i64 d] σ [blk b [.slice p l.length c, i64 e, .slice pv vl.length cv] 83] (EndA
    (fun v σ' Γ' => ∃ x l', exprP vl e f l = .ok (x, l') ∧ ∃ cs p' c', v = .agg (List.toArray cs) ∧ ExAt σ' cs x ∧ PSl 4 rTk σ' (.slice p' l'.length c') l' ∧ σ.sub σ' ∧ Γ' = [blk b [.slice p' l'.length c', i64 e, .slice pv vl.length cv] 83])
    (fun ch σ' Γ' => ∃ x, exprP vl e f l = .error x ∧ ch = goneP x ∧ σ.sub σ' ∧ ∃ cs, Γ' = [blk b cs 83]))
theorem ExprPOK.ok {vl : List Va} {e : Int} {f : Nat} (h : ExprPOK vl e f) {σ : PH} {b : Nat} {p : Option Addr} {c : Nat} {pv : Option Addr} {cv : Nat} {l : List Tk} {d : Int} (hv : PSl 2 rVa σ (.slice pv vl.length cv) vl) (hl : PSl 4 rTk σ (.slice p l.length c) l) (hF : ∀ t ∈ l, TkF t) (hd : d + f = 13) (hd0 : 0 ≤ d) {x : Ex} {l' : List Tk} (ho : exprP vl e f l = .ok (x, l')) :
    CallsA Tryd.prog 89 #[ptr b, i64 d] σ [blk b [.slice p l.length c, i64 e, .slice pv vl.length cv] 83] (RetA fun v σ' Γ' => ∃ cs p' c', v = .agg (List.toArray cs) ∧ ExAt σ' cs x ∧ PSl 4 rTk σ' (.slice p' l'.length c') l' ∧ σ.sub σ' ∧ Γ' = [blk b [.slice p' l'.length c', i64 e, .slice pv vl.length cv] 83]) := by
  refine (h σ b p c pv cv l d hv hl hF hd hd0).mono fun en σ' Γ' hr => ?_
  cases en with
  | returned v =>
    obtain ⟨x', l'', h1, h2⟩ := hr
    rw [ho] at h1
    cases h1
    exact h2
  | panicked ch => obtain ⟨x', h1, -⟩ := hr; rw [ho] at h1; cases h1
  | outgrown => exact False.elim hr
end Go.Proofs.YthefnnkmpcgcmaaDoor

namespace Go.Proofs.YthefnnkmpcgcmaaDoor
open Go X
def bindP {α β : Type} (a : PR α) (k : α → List Tk → PR β) : PR β := match a with
  | .error x => .error x
  | .ok (x, l) => k x l
def zeroX : Ex := .mk 0 0 0 []
def listG (S : List Tk → PR St) : Nat → List Tk → List St → PR (List St)
  | 0, _, _ => .error (0, 0)
  | g + 1, l, acc => if isT rpar l = true then .ok (acc, l.tail) else match S l with
    | .error x => .error x
    | .ok (s, l1) => listG S g l1 (acc ++ [s])
def listP (S : List Tk → PR St) (e : Int) (l : List Tk) : PR (List St) := if isT lpar l = true then listG S (l.tail.length + 1) l.tail [] else .error (failAt e l 5)
def optP {α : Type} (b : Bool) (z : α) (a : List Tk → PR α) (l : List Tk) : PR α := if b = true then a l else .ok (z, l)
def stmtP (vl : List Va) (e : Int) : Nat → List Tk → PR St
  | 0, l => .error (failAt e l 4)
  | f + 1, l => if isT lpar l = true then match pickT verbOf 7 l.tail with
      | none => .error (failAt e l.tail 5)
      | some k => bindP (optP (needV k) 0 (varP vl e) l.tail.tail) fun v l3 => bindP (optP (needE k) zeroX (exprP vl e f) l3) fun x l4 => bindP (optP (needF k) zeroX (exprP vl e f) l4) fun y l5 =>
          bindP (optP (needB k) [] (listP (stmtP vl e f) e) l5) fun bd l6 => bindP (optP (needO k) [] (listP (stmtP vl e f) e) l6) fun el l7 => closeP e (.mk k v x y bd el) l7
    else .error (failAt e l 5)
/-- What is left is of what there was. -/
def Sub (l' l : List Tk) : Prop := (∀ t ∈ l', t ∈ l) ∧ l'.length ≤ l.length
theorem Sub.tail (l : List Tk) : Sub l.tail l := ⟨fun _ h => mem_tail h, by rw [List.length_tail]; omega⟩
end Go.Proofs.YthefnnkmpcgcmaaDoor

namespace Go.Proofs.YthefnnkmpcgcmaaDoor
open Go X
set_option maxHeartbeats 4000000
set_option maxRecDepth 4000
def StmtPOK (vl : List Va) (e : Int) (f : Nat) : Prop := ∀ (σ : PH) (b : Nat) (p : Option Addr) (c : Nat) (pv : Option Addr) (cv : Nat) (l : List Tk) (d : Int), PSl 2 rVa σ (.slice pv vl.length cv) vl → PSl 4 rTk σ (.slice p l.length c) l → (∀ t ∈ l, TkF t) → d + f = 13 → 0 ≤ d → l.length ≤ 10000 →
  CallsA Tryd.prog 67 #[ptr b, i64 d] σ [blk b [.slice p l.length c, i64 e, .slice pv vl.length cv] 83] (EndA
    (fun v σ' Γ' => ∃ x l', stmtP vl e f l = .ok (x, l') ∧ ∃ cs p' c', v = .agg (List.toArray cs) ∧ StAt σ' cs x ∧ PSl 4 rTk σ' (.slice p' l'.length c') l' ∧ σ.sub σ' ∧ Γ' = [blk b [.slice p' l'.length c', i64 e, .slice pv vl.length cv] 83])
    (fun ch σ' Γ' => ∃ x, stmtP vl e f l = .error x ∧ ch = goneP x ∧ σ.sub σ' ∧ ∃ cs, Γ' = [blk b cs 83]))
theorem StmtPOK.ok {vl : List Va} {e : Int} {f : Nat} (h : StmtPOK vl e f) {σ : PH} {b : Nat} {p : Option Addr} {c : Nat} {pv : Option Addr} {cv : Nat} {l : List Tk} {d : Int} (hv : PSl 2 rVa σ (.slice pv vl.length cv) vl) (hl : PSl 4 rTk σ (.slice p l.length c) l) (hF : ∀ t ∈ l, TkF t) (hd : d + f = 13) (hd0 : 0 ≤ d) (hL : l.length ≤ 10000) {x} {l' : List Tk} (ho : stmtP vl e f l = .ok (x, l')) :
    CallsA Tryd.prog 67 #[ptr b, i64 d] σ [blk b [.slice p l.length c, i64 e, .slice pv vl.length cv] 83] (RetA fun v σ' Γ' => ∃ cs p' c', v = .agg (List.toArray cs) ∧ StAt σ' cs x ∧ PSl 4 rTk σ' (.slice p' l'.length c') l' ∧ σ.sub σ' ∧ Γ' = [blk b [.slice p' l'.length c', i64 e, .slice pv vl.length cv] 83]) := by
  refine (h σ b p c pv cv l d hv hl hF hd hd0 hL).mono fun en σ' Γ' hr => ?_
  cases en with
  | returned v =>
    obtain ⟨x', l'', h1, h2⟩ := hr
    rw [ho] at h1
    cases h1
    exact h2
  | panicked ch => obtain ⟨x', h1, -⟩ := hr; rw [ho] at h1; cases h1
  | outgrown => exact False.elim hr
def ListPOK (vl : List Va) (e : Int) (f : Nat) : Prop := ∀ (σ : PH) (b : Nat) (p : Option Addr) (c : Nat) (pv : Option Addr) (cv : Nat) (l : List Tk) (d : Int), PSl 2 rVa σ (.slice pv vl.length cv) vl → PSl 4 rTk σ (.slice p l.length c) l → (∀ t ∈ l, TkF t) → d + f = 13 → 0 ≤ d → l.length ≤ 10000 →
  CallsA Tryd.prog 90 #[ptr b, i64 d] σ [blk b [.slice p l.length c, i64 e, .slice pv vl.length cv] 83] (EndA
    (fun v σ' Γ' => ∃ x l', listP (stmtP vl e f) e l = .ok (x, l') ∧ ∃ q m p' c', v = .slice q x.length m ∧ PSl 12 StAt σ' (.slice q x.length m) x ∧ PSl 4 rTk σ' (.slice p' l'.length c') l' ∧ σ.sub σ' ∧ Γ' = [blk b [.slice p' l'.length c', i64 e, .slice pv vl.length cv] 83])
    (fun ch σ' Γ' => ∃ x, listP (stmtP vl e f) e l = .error x ∧ ch = goneP x ∧ σ.sub σ' ∧ ∃ cs, Γ' = [blk b cs 83]))
theorem ListPOK.ok {vl : List Va} {e : Int} {f : Nat} (h : ListPOK vl e f) {σ : PH} {b : Nat} {p : Option Addr} {c : Nat} {pv : Option Addr} {cv : Nat} {l : List Tk} {d : Int} (hv : PSl 2 rVa σ (.slice pv vl.length cv) vl) (hl : PSl 4 rTk σ (.slice p l.length c) l) (hF : ∀ t ∈ l, TkF t) (hd : d + f = 13) (hd0 : 0 ≤ d) (hL : l.length ≤ 10000) {x} {l' : List Tk} (ho : listP (stmtP vl e f) e l = .ok (x, l')) :
    CallsA Tryd.prog 90 #[ptr b, i64 d] σ [blk b [.slice p l.length c, i64 e, .slice pv vl.length cv] 83] (RetA fun v σ' Γ' => ∃ q m p' c', v = .slice q x.length m ∧ PSl 12 StAt σ' (.slice q x.length m) x ∧ PSl 4 rTk σ' (.slice p' l'.length c') l' ∧ σ.sub σ' ∧ Γ' = [blk b [.slice p' l'.length c', i64 e, .slice pv vl.length cv] 83]) := by
  refine (h σ b p c pv cv l d hv hl hF hd hd0 hL).mono fun en σ' Γ' hr => ?_
  cases en with
  | returned v =>
    obtain ⟨x', l'', h1, h2⟩ := hr
    rw [ho] at h1
    cases h1
    exact h2
  | panicked ch => obtain ⟨x', h1, -⟩ := hr; rw [ho] at h1; cases h1
  | outgrown => exact False.elim hr
end Go.Proofs.YthefnnkmpcgcmaaDoor

namespace Go.Proofs.YthefnnkmpcgcmaaDoor
open Go X
set_option maxHeartbeats 4000000
set_option maxRecDepth 4000
abbrev kwLet : ByteArray := ⟨#[108, 101, 116]⟩
end Go.Proofs.YthefnnkmpcgcmaaDoor

namespace Go.Proofs.YthefnnkmpcgcmaaDoor
open Go X
def Eqv (l l' : List Tk) : Prop := l.map tkey = l'.map tkey
theorem Eqv.length {l l' : List Tk} (h : Eqv l l') : l.length = l'.length := by simpa using congrArg List.length h
theorem Eqv.cons {t : Tk} {r l' : List Tk} (h : Eqv (t :: r) l') : ∃ t' r', l' = t' :: r' ∧ t.text = t'.text ∧ t.num = t'.num ∧ t.n = t'.n ∧ Eqv r r' := by
  cases l' with
  | nil => cases h
  | cons t' r' =>
    simp only [Eqv, List.map_cons, List.cons.injEq, tkey, Prod.mk.injEq] at h
    exact ⟨t', r', rfl, h.1.1, h.1.2.1, h.1.2.2, h.2⟩
theorem Eqv.nil {l' : List Tk} (h : Eqv [] l') : l' = [] := by
  cases l' with
  | nil => rfl
  | cons t' r' => cases h
theorem Eqv.tail {l l' : List Tk} (h : Eqv l l') : Eqv l.tail l'.tail := by
  cases l with
  | nil => rw [h.nil]; rfl
  | cons t r => obtain ⟨t', r', rfl, -, -, -, h⟩ := h.cons; exact h
def Leads {α : Type} (a b : PR α) : Prop := ∀ x r, a = .ok (x, r) → ∃ r', b = .ok (x, r') ∧ Eqv r r'
theorem Leads.ok {α : Type} {x : α} {r r' : List Tk} (h : Eqv r r') : Leads (.ok (x, r)) (.ok (x, r')) := fun _ _ q => by cases q; exact ⟨r', rfl, h⟩
section
variable {vl : List Va} {e e' : Int}
end
end Go.Proofs.YthefnnkmpcgcmaaDoor

namespace Go.Proofs.YthefnnkmpcgcmaaDoor
open Go X
theorem nameOk_iff {s : ByteArray} (h : nameOk s = true) : (∀ i, i < s.size → 97 ≤ byteAt s i ∧ byteAt s i ≤ 122) ∧ 1 ≤ s.size ∧ s.size ≤ 8 := of_decide_eq_true h
theorem itoaS_le {n : Int} (h : i64ok n) : (itoaS n).size ≤ 21 := Lib.itoa_length_le n h.1 h.2
end Go.Proofs.YthefnnkmpcgcmaaDoor

namespace Go.Proofs.YthefnnkmpcgcmaaDoor
open Go X
set_option maxHeartbeats 1000000
def sp1 : ByteArray := ⟨#[32]⟩
def nl1 : ByteArray := ⟨#[10]⟩
def nameAt (vl : List Va) (v : Int) : ByteArray := ((vl[v.toNat]?).map (·.name)).getD ByteArray.empty
def headT (vl : List Va) (op v n : Int) : ByteArray := if op = 1 then sp1 ++ itoaS n else if op = 2 ∨ op = 3 then sp1 ++ nameAt vl v else ByteArray.empty
def optT (b : Bool) (t : ByteArray) : ByteArray := if b = true then t else ByteArray.empty
mutual
def exT (vl : List Va) : Ex → ByteArray
  | .mk op v n l => lpar ++ (wordOf op ++ (headT vl op v n ++ (exsT vl l ++ rpar)))
def exsT (vl : List Va) : List Ex → ByteArray
  | [] => ByteArray.empty
  | x :: l => sp1 ++ (exT vl x ++ exsT vl l)
end
mutual
def stT (vl : List Va) : St → ByteArray
  | .mk op v e f body els => lpar ++ (verbOf op ++ (optT (needV op) (sp1 ++ nameAt vl v) ++ (optT (needE op) (sp1 ++ exT vl e) ++ (optT (needF op) (sp1 ++ exT vl f) ++
      (optT (needB op) (sp1 ++ (lpar ++ (stsT vl false body ++ rpar))) ++ (optT (needO op) (sp1 ++ (lpar ++ (stsT vl false els ++ rpar))) ++ rpar))))))
def stsT (vl : List Va) (b : Bool) : List St → ByteArray
  | [] => ByteArray.empty
  | x :: l => optT b sp1 ++ (stT vl x ++ stsT vl true l)
end
def varT (v : Va) : ByteArray := kwLet ++ (sp1 ++ (v.name ++ (sp1 ++ (itoaS v.size ++ nl1))))
def varsT : List Va → ByteArray
  | [] => ByteArray.empty
  | v :: r => varT v ++ varsT r
def bodyT (vl : List Va) : List St → ByteArray
  | [] => ByteArray.empty
  | x :: r => (stT vl x ++ nl1) ++ bodyT vl r
def prT (p : Pr) : ByteArray := varsT p.vars ++ bodyT p.vars p.body
theorem varsT_app : ∀ (l m : List Va), varsT (l ++ m) = varsT l ++ varsT m
  | [], m => by rw [List.nil_append, varsT, ByteArray.empty_append]
  | v :: r, m => by rw [List.cons_append, varsT, varsT, varsT_app r m, ByteArray.append_assoc]
theorem bodyT_app (vl : List Va) : ∀ (l m : List St), bodyT vl (l ++ m) = bodyT vl l ++ bodyT vl m
  | [], m => by rw [List.nil_append, bodyT, ByteArray.empty_append]
  | v :: r, m => by rw [List.cons_append, bodyT, bodyT, bodyT_app vl r m]; simp only [ByteArray.append_assoc]
theorem exsT_app (vl : List Va) : ∀ (l m : List Ex), exsT vl (l ++ m) = exsT vl l ++ exsT vl m
  | [], m => by rw [List.nil_append, exsT, ByteArray.empty_append]
  | v :: r, m => by rw [List.cons_append, exsT, exsT, exsT_app vl r m]; simp only [ByteArray.append_assoc]
theorem stsT_snoc (vl : List Va) (x : St) : ∀ (l : List St) (b : Bool), stsT vl b (l ++ [x]) = stsT vl b l ++ (optT (b || decide (0 < l.length)) sp1 ++ stT vl x)
  | [], b => by rw [List.nil_append, stsT, stsT, stsT, ByteArray.append_empty, ByteArray.empty_append]; simp
  | y :: r, b => by rw [List.cons_append, stsT, stsT, stsT_snoc vl x r true]; simp [ByteArray.append_assoc]
/-! pieces: what stands ahead of a token, and the token -/
end Go.Proofs.YthefnnkmpcgcmaaDoor

namespace Go.Proofs.YthefnnkmpcgcmaaDoor
open Go X
/-- An instruction. -/
structure In where
  op : Int
  a : Int
  b : Int
  n : Int
deriving DecidableEq
def sizeV (vs : List Va) (v : Int) : Int := (vs[v.toNat]?.map (·.size)).getD 0
def opIn (vs : List Va) (op v n : Int) : In := ⟨op, if op = 2 ∨ op = 3 then cellOf vs v else 0, if op = 3 then sizeV vs v else 0, n⟩
mutual
def exCode (vs : List Va) : Ex → List In
  | .mk op v n l => exsCode vs l ++ [opIn vs op v n]
def exsCode (vs : List Va) : List Ex → List In
  | [] => []
  | x :: l => exCode vs x ++ exsCode vs l
end
/-! a program that is one -/
mutual
def exH : Ex → Nat
  | .mk _ _ _ l => 1 + exsH l
def exsH : List Ex → Nat
  | [] => 0
  | x :: l => max (exH x) (exsH l)
end
mutual
def ExV (nv : Nat) : Ex → Prop
  | .mk op v n l => (1 ≤ op ∧ op ≤ 8) ∧ (l.length : Int) = partsOf op ∧ (op = 2 ∨ op = 3 → 0 ≤ v ∧ v < nv) ∧ (n ≠ 0 → op = 1) ∧ ExsV nv l
def ExsV (nv : Nat) : List Ex → Prop
  | [] => True
  | x :: l => ExV nv x ∧ ExsV nv l
end
mutual
def StV (nv : Nat) : St → Prop
  | .mk op v e f body els => (1 ≤ op ∧ op ≤ 7) ∧ (needV op = true → 0 ≤ v ∧ v < nv) ∧ (needE op = true → ExV nv e ∧ exH e ≤ 12) ∧ (needF op = true → ExV nv f ∧ exH f ≤ 12) ∧ (needB op = false → body = []) ∧ (needO op = false → els = []) ∧ StsV nv body ∧ StsV nv els
def StsV (nv : Nat) : List St → Prop
  | [] => True
  | x :: l => StV nv x ∧ StsV nv l
end
theorem ExsV.mem {nv : Nat} : ∀ {l : List Ex}, ExsV nv l → ∀ x ∈ l, ExV nv x
  | [], _, _, h => by simp at h
  | y :: l, h, x, hx => by
    rw [ExsV] at h
    rcases List.mem_cons.1 hx with rfl | hx
    · exact h.1
    · exact ExsV.mem h.2 x hx
theorem StsV.mem {nv : Nat} : ∀ {l : List St}, StsV nv l → ∀ x ∈ l, StV nv x
  | [], _, _, h => by simp at h
  | y :: l, h, x, hx => by
    rw [StsV] at h
    rcases List.mem_cons.1 hx with rfl | hx
    · exact h.1
    · exact StsV.mem h.2 x hx
theorem StsV.of {nv : Nat} : ∀ {l : List St}, (∀ x ∈ l, StV nv x) → StsV nv l
  | [], _ => by rw [StsV]; trivial
  | y :: l, h => by rw [StsV]; exact ⟨h y (by simp), StsV.of fun x hx => h x (by simp [hx])⟩
theorem fail_ok {e : JE} {b : Bool} {c l : Int} (h : e.fail b c = .ok l) : e = .ok l ∧ b = false := by
  cases e with
  | error d => simp [JE.fail] at h
  | ok a => cases b <;> simp [JE.fail] at h ⊢; exact h
theorem one_ok' {e : JE} {d l : Int} (h : e.one d = .ok l) : d ≤ 12 ∧ ∃ a, e = .ok a := by
  cases e with
  | error c => simp [JE.one] at h
  | ok a =>
    simp only [JE.one] at h
    split at h
    · simp at h
    · exact ⟨by omega, a, rfl⟩
theorem exHead_ok {nv deep op v n a b : Int} {k : Nat} (h : exHead nv deep op v n k (.ok a) = .ok b) :
    deep ≤ 12 ∧ (1 ≤ op ∧ op ≤ 8) ∧ (k : Int) = partsOf op ∧ (op = 2 ∨ op = 3 → 0 ≤ v ∧ v < nv) ∧ (n ≠ 0 → op = 1) := by
  rw [exHead, JE.named] at h
  obtain ⟨h, h5⟩ := fail_ok h
  obtain ⟨h, h4⟩ := fail_ok h
  obtain ⟨h, h3⟩ := fail_ok h
  obtain ⟨h, h2⟩ := fail_ok h
  obtain ⟨h1, -⟩ := one_ok' h
  simp only [decide_eq_false_iff_not] at h2 h3
  refine ⟨h1, ?_, by omega, ?_, fun hn => by omega⟩
  · have : 0 ≤ partsOf op := by omega
    rw [partsOf] at this
    constructor <;> · repeat' split at this
                      all_goals omega
  · intro ho
    simp only [ho, decide_true, Bool.true_and, decide_eq_false_iff_not] at h4
    omega
theorem exsV_of {nv : Nat} : ∀ (l : List Ex), (∀ x ∈ l, ∀ deep a b : Int, exE nv deep x (.ok a) = .ok b → ExV nv x ∧ deep + exH x ≤ 13) → ∀ deep a b : Int, deep ≤ 13 → exsE nv deep l (.ok a) = .ok b → ExsV nv l ∧ deep + exsH l ≤ 13
  | [], _, deep, a, b, hd, _ => by rw [ExsV, exsH]; exact ⟨trivial, by omega⟩
  | x :: l, h, deep, a, b, hd, hx => by
    rw [exsE] at hx
    cases e : exE nv deep x (.ok a) with
    | error c => rw [e, exsE_err] at hx; cases hx
    | ok a1 =>
      rw [e] at hx
      obtain ⟨g1, g2⟩ := h x (by simp) deep a a1 e
      obtain ⟨g3, g4⟩ := exsV_of l (fun y hy => h y (by simp [hy])) deep a1 b hd hx
      rw [ExsV, exsH]
      exact ⟨⟨g1, g3⟩, by omega⟩
theorem exV_of {nv : Nat} (x : Ex) : ∀ deep a b : Int, exE nv deep x (.ok a) = .ok b → ExV nv x ∧ deep + exH x ≤ 13 := by
  refine Ex.ind (P := fun x => ∀ deep a b : Int, exE nv deep x (.ok a) = .ok b → ExV nv x ∧ deep + exH x ≤ 13) ?_ x
  intro op v n l ih deep a b h
  rw [exE] at h
  cases e : exHead nv deep op v n l.length (.ok a) with
  | error c => rw [e, exsE_err] at h; cases h
  | ok a1 =>
    rw [e] at h
    obtain ⟨g1, g2, g3, g4, g5⟩ := exHead_ok e
    obtain ⟨g6, g7⟩ := exsV_of l ih (deep + 1) a1 b (by omega) h
    rw [ExV, exH]
    exact ⟨⟨g2, g3, g4, g5, g6⟩, by omega⟩
theorem stHead_ok {nv deep op v a b : Int} {e f : Ex} {kb ke : Nat} (h : stHead nv deep op v e f kb ke (.ok a) = .ok b) :
    deep ≤ 12 ∧ (1 ≤ op ∧ op ≤ 7) ∧ (needV op = true → 0 ≤ v ∧ v < nv) ∧ (needB op = false → kb = 0) ∧ (needO op = false → ke = 0) := by
  rw [stHead, JE.named] at h
  obtain ⟨h, h5⟩ := fail_ok h
  obtain ⟨h, h4⟩ := fail_ok h
  obtain ⟨h, h3⟩ := fail_ok h
  obtain ⟨h, h2⟩ := fail_ok h
  obtain ⟨h1, -⟩ := one_ok' h
  simp only [decide_eq_false_iff_not] at h2
  simp only [stForm, Bool.or_eq_false_iff, Bool.and_eq_false_imp, Bool.not_eq_true', decide_eq_false_iff_not] at h3
  refine ⟨h1, by omega, ?_, ?_, ?_⟩
  · intro ho
    simp only [ho, Bool.true_and, decide_eq_false_iff_not] at h4
    omega
  · intro hb; have := h3.1.2 hb; omega
  · intro hb; have := h3.2 hb; omega
theorem stsV_of {nv : Nat} : ∀ (l : List St), (∀ x ∈ l, ∀ deep a b : Int, 0 ≤ deep → stE nv deep x (.ok a) = .ok b → StV nv x) → ∀ deep a b : Int, 0 ≤ deep → stsE nv deep l (.ok a) = .ok b → StsV nv l
  | [], _, deep, a, b, _, _ => by rw [StsV]; trivial
  | x :: l, h, deep, a, b, hd, hx => by
    rw [stsE] at hx
    cases e : stE nv deep x (.ok a) with
    | error c => rw [e, stsE_err] at hx; cases hx
    | ok a1 =>
      rw [e] at hx
      rw [StsV]
      exact ⟨h x (by simp) deep a a1 hd e, stsV_of l (fun y hy => h y (by simp [hy])) deep a1 b hd hx⟩
theorem stV_of {nv : Nat} (x : St) : ∀ deep a b : Int, 0 ≤ deep → stE nv deep x (.ok a) = .ok b → StV nv x := by
  refine St.ind (P := fun x => ∀ deep a b : Int, 0 ≤ deep → stE nv deep x (.ok a) = .ok b → StV nv x) ?_ x
  intro op v e f body els ih jh deep a b hd h
  rw [stE] at h
  cases e1 : stHead nv deep op v e f body.length els.length (.ok a) with
  | error c => rw [e1, stEF_err, stsE_err, stsE_err] at h; cases h
  | ok a1 =>
    rw [e1] at h
    cases e2 : stEF nv (deep + 1) op e f (.ok a1) with
    | error c => rw [e2, stsE_err, stsE_err] at h; cases h
    | ok a2 =>
      rw [e2] at h
      cases e3 : stsE nv (deep + 1) body (.ok a2) with
      | error c => rw [e3, stsE_err] at h; cases h
      | ok a3 =>
        rw [e3] at h
        obtain ⟨g1, g2, g3, g4, g5⟩ := stHead_ok e1
        have hb := stsV_of body ih (deep + 1) a2 a3 (by omega) e3
        have he := stsV_of els jh (deep + 1) a3 b (by omega) h
        rw [StV]
        rw [stEF] at e2
        refine ⟨g2, g3, ?_, ?_, fun hn => List.eq_nil_of_length_eq_zero (g4 hn), fun hn => List.eq_nil_of_length_eq_zero (g5 hn), hb, he⟩
        · intro hn
          rw [if_pos hn] at e2
          cases e4 : exE nv (deep + 1) e (.ok a1) with
          | error c => simp only [e4, exE_err, ite_self] at e2; cases e2
          | ok a4 => obtain ⟨k1, k2⟩ := exV_of e _ _ _ e4; exact ⟨k1, by omega⟩
        · intro hn
          simp only [hn, if_true] at e2
          cases e4 : (if needE op = true then exE nv (deep + 1) e (.ok a1) else .ok a1 : JE) with
          | error c => rw [e4, exE_err] at e2; cases e2
          | ok a4 => rw [e4] at e2; obtain ⟨k1, k2⟩ := exV_of f _ _ _ e2; exact ⟨k1, by omega⟩
theorem check_valid {p : Pr} (h : checkP p = 0) : StsV p.vars.length p.body ∧ p.vars.length ≤ 8 ∧ (∀ x ∈ p.vars, 1 ≤ x.size) ∧ sizes p.vars ≤ 48 := by
  obtain ⟨h1, b, h2⟩ := check_ok h
  exact ⟨stsV_of p.body (fun x _ => stV_of x) 0 150 b (Int.le_refl _) h2, check_sizes h1⟩
end Go.Proofs.YthefnnkmpcgcmaaDoor

namespace Go.Proofs.YthefnnkmpcgcmaaDoor
open Go X
set_option maxHeartbeats 4000000
abbrev Wri (b : Nat) (v : Value) (acc : ByteArray) : HP := Bld 65 b [v] acc
theorem wri_lies : liesAt Tryd.prog Tryd.prog.depth 65 (([Value.slice none 0 0].length + 2) / Tryd.prog.cellsOf 65) 0 63 1 = true := by kernel_rfl
def catL : List ByteArray → ByteArray
  | [] => ByteArray.empty
  | a :: r => a ++ catL r
theorem catL_app : ∀ a b : List ByteArray, catL (a ++ b) = catL a ++ catL b
  | [], b => by rw [List.nil_append, catL, ByteArray.empty_append]
  | x :: r, b => by rw [List.cons_append, catL, catL, catL_app r b, ByteArray.append_assoc]
theorem catL_snoc {l : List ByteArray} {k : Nat} {s : ByteArray} (h : l[k]? = some s) : catL (l.take (k + 1)) = catL (l.take k) ++ s := by
  rw [List.take_add_one, h, Option.toList_some, catL_app, catL, catL, ByteArray.append_empty]
theorem catL_cut {l : List ByteArray} {k : Nat} {s : ByteArray} (h : l[k]? = some s) : (catL (l.take k)).size + s.size ≤ (catL l).size := by
  have e1 : catL l = catL (l.take (k + 1)) ++ catL (l.drop (k + 1)) := by rw [← catL_app, List.take_append_drop]
  rw [e1, catL_snoc h, ByteArray.size_append, ByteArray.size_append]; omega
theorem put_w (σ : PH) (b : Nat) (v : Value) (acc : ByteArray) (l : List ByteArray) (g c : Nat) (hb : acc.size + (catL l).size ≤ 1000000000) (hn : l.length ≤ 1000) :
    CallsA Tryd.prog 26 #[ptr b, .slice (some ⟨g, 0, none⟩) l.length c] σ [Wri b v acc, blk g (l.map Value.string) 9] (RetA fun r σ' Γ' => r = .tuple #[] ∧ σ = σ' ∧ Γ' = [Wri b v (acc ++ catL l)]) := by
  have hw := fun (a s : ByteArray) (h : a.size + s.size ≤ 1000000000) => write_b σ 65 b [v] a s h wri_lies
  refine enterA2 Tryd.func26 rfl rfl rfl ?_
  refine zS (zR (zA rfl ?_)); refine zO rfl (Rd.lenSlice (tyrow rfl) rfl rfl) ?_; refine zA rfl ?_; refine zN (zT (XA.block ?_))
  refine XA.gen [(0, _), (6, _), (7, _), (8, _)] ⟨(by with_reducible (conv => lhs; whnf)), (by with_reducible (conv => lhs; whnf)), (by with_reducible (conv => lhs; whnf)), (by with_reducible (conv => lhs; whnf)), trivial⟩ (fun δ => ?_)
  dsimp only [List.foldl]
  refine XA.loop [(5, 5), (8, 17)] (fun k : Nat => [(8, i64 k)]) (fun k σ' Γ' => σ = σ' ∧ k ≤ l.length ∧ Γ' = [Wri b v (acc ++ catL (l.take k)), blk g (l.map Value.string) 9]) (fun k => l.length - k) 0 (by exact ⟨rfl, trivial⟩) (Δ0 := _) ?_ (⟨rfl, Nat.zero_le _, by rw [List.take_zero, catL, ByteArray.append_empty]⟩) ?_
  · exact zE
  rintro k δ _ _ ⟨rfl, hk, rfl⟩
  dsimp only [ovr, List.foldl]
  have hk : k ≤ l.length := hk
  by_cases hlt : k < l.length
  · obtain ⟨s, hs⟩ : ∃ s, l[k]? = some s := ⟨l[k], by simp [hlt]⟩
    have hrow : (l.map Value.string)[k]? = some (.string s) := by rw [List.getElem?_map, hs]; rfl
    have hcut := catL_cut hs
    have hsn := catL_snoc hs
    have hbb : (acc ++ catL (l.take k)).size + s.size ≤ 1000000000 := by rw [ByteArray.size_append]; omega
    refine zS (zR (zO rfl (Rd.lss rfl rfl) ?_)); refine zN (zT (zS (XA.condT rfl (by first | rfl | exact decide_eq_true (by omega)) ?_))); refine XA.skip (zT (zS (XA.block (zS (zR (zO rfl (Rd.ixS rfl rfl) ?_)))))); refine zB rfl rfl (tyrow rfl) rfl ?_; refine zO rfl Rd.asg ?_
    refine zN (zT (zR (zA rfl ?_))); refine zO rfl (Rd.nilCheck rfl) ?_; refine zV rfl rfl ?_; refine zA rfl ?_
    refine XOA.wr0 rfl (WrA.cE (hw (acc ++ catL (l.take k)) s hbb) rfl) ?_
    rintro _ _ _ ⟨_, ⟨rfl, rfl, rfl⟩, rfl⟩
    refine XOA.cl ?_
    rw [ByteArray.append_assoc, ← hsn]
    refine zN (DA.inb_normal (zT (zR (zO rfl zI ?_)))); refine zA rfl ?_; refine zN (zT ?_)
    refine ⟨(Keep.upd (Keep.upd (Keep.updO (Keep.upd (Keep.upd (Keep.upd (Keep.upd (Keep.upd (Keep.upd (Keep.upd (Keep.upd (Keep.upd (Keep.hav (Keep.hav (Keep.refl _ _) rfl) rfl) rfl) rfl) rfl) rfl) rfl) rfl) rfl) rfl) rfl) rfl) rfl) rfl), k + 1, _, zM, ?_, ⟨rfl, hlt, rfl⟩, (by omega)⟩
    · exact zE
  · have e : l.take k = l := List.take_of_length_le (by omega)
    rw [e]
    refine zS (zR (zO rfl (Rd.lss rfl rfl) ?_)); refine zN (zT (zS (XA.condF rfl (by first | rfl | exact decide_eq_false (by omega)) ?_))); refine XA.exit (DA.thn_exit (DA.thn_exit (DA.inb_same ?_)))
    exact bodyA.normal (ResA.none rfl) zE ⟨rfl, rfl, rfl⟩
theorem X.CallsA.pre {P : Program} {f : FuncId} {vs : Array Value} {σ : PH} {Γ Γ0 : List HP} {R : Ending → PH → List HP → Prop} (he : Ent Γ Γ0) (hc : CallsA P f vs σ Γ0 R) : CallsA P f vs σ Γ R := ⟨hc.1, fun fr h hh => hc.2 fr h (hh.ent he)⟩
section
variable (σ : PH) (b : Nat) (v : Value) (acc : ByteArray) (g c : Nat)
theorem put1 (s : ByteArray) (hb : acc.size + s.size ≤ 1000000000) : CallsA Tryd.prog 26 #[ptr b, .slice (some ⟨g, 0, none⟩) 1 c] σ [Wri b v acc, blk g [.string s] 9] (RetA fun r σ' Γ' => r = .tuple #[] ∧ σ = σ' ∧ Γ' = [Wri b v (acc ++ s)]) := by
  have e : catL [s] = s := by rw [catL, catL, ByteArray.append_empty]
  have := put_w σ b v acc [s] g c (by rw [e]; exact hb) (by simp)
  rwa [e] at this
theorem put2 (s t : ByteArray) (hb : acc.size + (s.size + t.size) ≤ 1000000000) : CallsA Tryd.prog 26 #[ptr b, .slice (some ⟨g, 0, none⟩) 2 c] σ [Wri b v acc, blk g [.string s, .string t] 9] (RetA fun r σ' Γ' => r = .tuple #[] ∧ σ = σ' ∧ Γ' = [Wri b v (acc ++ (s ++ t))]) := by
  have e : catL [s, t] = s ++ t := by rw [catL, catL, catL, ByteArray.append_empty]
  have := put_w σ b v acc [s, t] g c (by rw [e, ByteArray.size_append]; exact hb) (by simp)
  rwa [e] at this
theorem put2o (u : Bool) (p : Option Addr) (d : Nat) (hz : acc.size = 0 → p = none ∧ d = 0) (s t : ByteArray) (hb : acc.size + (s.size + t.size) ≤ 1000000000) : CallsA Tryd.prog 26 #[ptr b, .slice (some ⟨g, 0, none⟩) 2 c] σ [blk b [nptr u b, .slice p acc.size d, v] 65, lst 5 1 (.slice p acc.size d) acc.size (Lib.strCells acc), blk g [.string s, .string t] 9] (RetA fun r σ' Γ' => r = .tuple #[] ∧ σ = σ' ∧ Γ' = [Wri b v (acc ++ (s ++ t))]) :=
  CallsA.pre (Ent.fold (Θ := [blk b [nptr u b, .slice p acc.size d, v] 65, lst 5 1 (.slice p acc.size d) acc.size (Lib.strCells acc)]) (Ent.refl _) (fun m hm => ⟨u, p, d, hz, hm⟩) (Ent.refl _)) (put2 σ b v acc g c s t hb)
end
theorem exsT_snoc (vl : List Va) {l : List Ex} {k : Nat} {x : Ex} (h : l[k]? = some x) : exsT vl (l.take (k + 1)) = exsT vl (l.take k) ++ (sp1 ++ exT vl x) := by
  rw [List.take_add_one, h, Option.toList_some, exsT_app, exsT, exsT, ByteArray.append_empty]
theorem exsT_cut (vl : List Va) {l : List Ex} {k : Nat} {x : Ex} (h : l[k]? = some x) : (exsT vl (l.take k)).size + (1 + (exT vl x).size) ≤ (exsT vl l).size := by
  have e1 : exsT vl l = exsT vl (l.take (k + 1)) ++ exsT vl (l.drop (k + 1)) := by rw [← exsT_app, List.take_append_drop]
  have e2 : sp1.size = 1 := rfl
  rw [e1, exsT_snoc vl h]; simp only [ByteArray.size_append]; omega
def PExOK (x : Ex) : Prop := ∀ (σ : PH) (cs : List Value) (b : Nat) (pv : Option Addr) (cv : Nat) (vl : List Va) (acc : ByteArray), ExAt σ cs x → PSl 2 rVa σ (.slice pv vl.length cv) vl → ExV vl.length x → Tab σ → acc.size + (exT vl x).size ≤ 1000000 →
  CallsA Tryd.prog 52 #[ptr b, .agg cs.toArray] σ [Wri b (.slice pv vl.length cv) acc] (RetA fun r σ' Γ' => r = .tuple #[] ∧ σ = σ' ∧ Γ' = [Wri b (.slice pv vl.length cv) (acc ++ exT vl x)])
theorem nameAt_get {vl : List Va} {k : Nat} {w : Va} (h : vl[k]? = some w) : nameAt vl (k : Int) = w.name := by rw [nameAt, Int.toNat_natCast, h]; rfl
theorem pexpr_w (x : Ex) : PExOK x := by
  refine Ex.ind (P := PExOK) ?_ x
  intro op v n l ih σ cs b pv cv vl acc hx hv hok hT hb
  obtain ⟨p, c, rfl, ho, hvv, hn, hl⟩ := hx.inv
  simp only [Ex.op, Ex.v, Ex.n, Ex.l] at hl ho hvv hn ⊢
  clear hx
  rw [ExV] at hok
  obtain ⟨h8, hparts, hvar, -, hsubs⟩ := hok
  have hlen : l.length ≤ maxLen := by
    obtain ⟨q, d, e1, h1, h2⟩ := hl.shape
    omega
  simp only [maxLen] at hlen
  have hlp : lpar.size = 1 := rfl
  have hrp : rpar.size = 1 := rfl
  have hs1 : sp1.size = 1 := rfl
  have hE : exT vl (.mk op v n l) = lpar ++ (wordOf op ++ (headT vl op v n ++ (exsT vl l ++ rpar))) := by rw [exT]
  rw [hE] at hb ⊢
  simp only [ByteArray.size_append] at hb
  obtain ⟨hd, hhd⟩ : ∃ hd, headT vl op v n = hd := ⟨_, rfl⟩
  rw [hhd] at hb ⊢
  refine enterA2 Tryd.func52 rfl rfl rfl ?_
  refine zS (zR ?_)
  refine XOA.wr0 rfl WrA.bx ?_
  rintro _ _ _ ⟨g3, rfl, rfl, rfl⟩
  refine zN (zT (zS (zR (zA rfl ?_)))); refine zV rfl rfl ?_; refine zB rfl rfl (tyrow rfl) rfl ?_
  refine XOA.wr0 rfl (WrA.cE (word_p σ op) rfl) ?_
  rintro _ _ _ ⟨_, ⟨rfl, rfl, rfl⟩, rfl⟩
  refine XOA.cl ?_
  refine XOA.wr0 rfl (WrA.bs (fun _ _ => tyrow) rfl rfl rfl rfl rfl) ?_
  rintro _ _ _ ⟨g10, rfl, rfl, rfl⟩
  refine XOA.wr0 rfl (WrA.cE (put2 σ b _ acc g10 2 lpar (wordOf op) (by omega)) rfl) ?_
  rintro _ _ _ ⟨_, ⟨rfl, rfl, rfl⟩, rfl⟩
  refine XOA.cl ?_; refine zN (zT (zS (zS (zR (zV rfl rfl ?_))))); refine zB rfl rfl (tyrow rfl) rfl ?_; refine zN (zT ?_)
  refine XA.join [(14, 36)] (fun _ : Unit => []) (fun _ σ' Γ' => σ = σ' ∧ Γ' = [Wri b (.slice pv vl.length cv) (acc ++ (lpar ++ (wordOf op ++ hd))), blk g3 [i64 op, i64 v, i64 n, .slice p l.length c] 54]) ?_ ?_
  · refine XA.block ?_
    refine zS (zR (zO rfl (Rd.eql rfl rfl) ?_)); refine zO rfl Rd.asg ?_; refine zN (zT ?_)
    refine XA.condp rfl (fun h1 => ?_) (fun h1 => ?_)
    · have e1 : hd = sp1 ++ itoaS n := by rw [← hhd, headT, if_pos h1]
      have e2 : acc ++ (lpar ++ wordOf op) ++ (sp1 ++ itoaS n) = acc ++ (lpar ++ (wordOf op ++ hd)) := by rw [e1]; simp only [ByteArray.append_assoc]
      have hb2 : (acc ++ (lpar ++ wordOf op)).size + (sp1.size + (itoaS n).size) ≤ 1000000000 := by rw [e1, ByteArray.size_append] at hb; simp only [ByteArray.size_append]; omega
      refine zR (zA rfl ?_); refine zV rfl rfl ?_; refine zB rfl rfl (tyrow rfl) rfl ?_
      refine XOA.wr0 rfl (WrA.cE (itoa_a σ n hn.1 hn.2 hT) rfl) ?_
      rintro _ _ _ ⟨_, ⟨rfl, rfl, rfl⟩, rfl⟩
      refine XOA.cl ?_
      refine XOA.wr0 rfl (WrA.bs (fun _ _ => tyrow) rfl rfl rfl rfl rfl) ?_
      rintro _ _ _ ⟨g20, rfl, rfl, rfl⟩
      refine XOA.wr0 rfl (WrA.cE (put2 σ b _ (acc ++ (lpar ++ wordOf op)) g20 2 sp1 (itoaS n) hb2) rfl) ?_
      rintro _ _ _ ⟨_, ⟨rfl, rfl, rfl⟩, rfl⟩
      refine XOA.cl ?_; refine zN (DA.inb_normal (zT ?_))
      refine ⟨(Keep.updO (Keep.updO (Keep.updO (Keep.upd (Keep.upd (Keep.upd (Keep.upd (Keep.upd (Keep.refl _ _) rfl) rfl) rfl) rfl) rfl) rfl) rfl) rfl), (), _, zM, ?_, ⟨rfl, rfl⟩⟩
      · rw [e2]; exact zE
    · refine zS ?_
      refine zS (zR (zO rfl (Rd.eql rfl rfl) ?_)); refine zO rfl Rd.asg ?_; refine zN (zT ?_)
      by_cases h2 : op = 2 ∨ op = 3
      · obtain ⟨hv0, hv1⟩ := hvar h2
        obtain ⟨k, rfl⟩ : ∃ k : Nat, v = k := ⟨v.toNat, by omega⟩
        have hkl : k < vl.length := by omega
        obtain ⟨w, hw⟩ : ∃ w, vl[k]? = some w := ⟨vl[k], by simp [hkl]⟩
        obtain ⟨gg, o, row, rfl, ⟨rfl, -, -⟩, -, hrow⟩ := hv.at hw
        have a0 : PRow σ gg (o + k * 2) [.string w.name] := hrow.sub (j := 0) rfl
        have e1 : hd = sp1 ++ w.name := by rw [← hhd, headT, if_neg h1, if_pos h2, nameAt_get hw]
        have e2 : acc ++ (lpar ++ wordOf op) ++ (sp1 ++ w.name) = acc ++ (lpar ++ (wordOf op ++ hd)) := by rw [e1]; simp only [ByteArray.append_assoc]
        have hb2 : (acc ++ (lpar ++ wordOf op)).size + (sp1.size + w.name.size) ≤ 1000000000 := by rw [e1, ByteArray.size_append] at hb; simp only [ByteArray.size_append]; omega
        have hlt : (0 : Int) ≤ k ∧ (k : Int) < (vl.length : Nat) := ⟨by omega, by omega⟩
        refine XA.join [(22, 22), (24, 24)] (fun _ : Unit => [(22, .bool true)]) (fun _ σ' Γ' => σ = σ' ∧ Γ' = [Wri b (.slice (some ⟨gg, o, none⟩) vl.length cv) (acc ++ (lpar ++ wordOf op)), blk g3 [i64 op, i64 k, i64 n, .slice p l.length c] 54]) ?_ ?_
        · skip
          rcases h2 with rfl | rfl
          · refine XA.condT rfl rfl ?_
            refine XA.skip (zT ?_)
            refine ⟨(Keep.refl _ _), (), _, zM, ?_, ⟨rfl, rfl⟩⟩
            · exact zE
          · skip
            refine XA.condF rfl rfl (zR (zO rfl (Rd.eql rfl rfl) ?_)); refine zO rfl Rd.asg ?_; refine zN (zT ?_)
            refine ⟨(Keep.upd (Keep.upd (Keep.refl _ _) rfl) rfl), (), _, zM, ?_, ⟨rfl, rfl⟩⟩
            · exact zE
        rintro _ δ _ _ ⟨rfl, rfl⟩
        dsimp only [ovr, List.foldl]
        refine zT (XA.condT rfl rfl ?_)
        first | refine XA.opn (R := Wri b _ _) zL (Bld.o) ?_ | refine XOA.opn (R := Wri b _ _) zL (Bld.o) ?_ | refine DA.opn (R := Wri b _ _) zL (Bld.o) ?_
        rintro ⟨u, pz, cz⟩ hz
        first | refine XA.cl ?_ | refine XOA.cl ?_ | refine DA.cl ?_
        simp only at hz
        refine XA.draw (by kernel_rfl) _ _ [10, 11] [(0, .pu), (1, .pu), (2, .pu), (3, .pu), (4, .rd), (5, .pu), (6, .rd), (7, .pu), (8, .pu), (9, .rd), (10, .wr), (11, .wr)] (by kernel_rfl) (PH.sub.refl _) (Ent.sel (R := blk b _ _) zL (Ent.sel (R := blk g3 _ _) zL (Ent.nil _))) ?_
        refine XPA.pu rfl rfl Gd.free Rd.mv ?_; refine XPA.pu rfl rfl Gd.free Rd.mv ?_; refine XPA.pu rfl rfl Gd.free (Rd.nilCheck rfl) ?_; refine XPA.pu rfl rfl Gd.free (Rd.fA rfl) ?_; refine XPA.rd rfl rfl Gd.free (Rd.ldC rfl (tyrow rfl) rfl) ?_; refine XPA.pu rfl rfl Gd.free (Rd.fA rfl) ?_
        refine XPA.rd rfl rfl Gd.free (Rd.ldC rfl (tyrow rfl) rfl) ?_; refine XPA.pu rfl rfl Gd.free (Rd.ixS rfl rfl) ?_; refine XPA.pu rfl rfl Gd.free (Rd.fA rfl) ?_; refine XPA.rd rfl rfl Gd.free (Rd.ldC rfl (tyrow rfl) rfl) ?_
        refine XPA.wrZ0 rfl rfl Gd.free (by kernel_rfl) (WrA.bs (fun _ _ => tyrow) rfl rfl rfl rfl rfl) ?_
        rintro _ _ _ ⟨g35, rfl, rfl, rfl⟩
        refine XPA.wrZ0 rfl rfl Gd.free (by kernel_rfl) (WrA.cE (put2o σ b _ (acc ++ (lpar ++ wordOf op)) g35 2 u pz cz hz sp1 w.name hb2) rfl) ?_
        rintro _ _ _ ⟨_, ⟨rfl, rfl, rfl⟩, rfl⟩
        refine XPA.cl ?_; refine XPA.nil ?_; refine DA.inb_normal (zT ?_)
        refine ⟨(Keep.updO (Keep.updO (Keep.upd (Keep.upd (Keep.upd (Keep.upd (Keep.upd (Keep.upd (Keep.upd (Keep.upd (Keep.upd (Keep.upd (Keep.upd (Keep.hav (Keep.hav (Keep.upd (Keep.upd (Keep.upd (Keep.upd (Keep.refl _ _) rfl) rfl) rfl) rfl) rfl) rfl) rfl) rfl) rfl) rfl) rfl) rfl) rfl) rfl) rfl) rfl) rfl) rfl) rfl), (), _, zM, ?_, ⟨rfl, rfl⟩⟩
        · rw [e2]; exact zE
      · have e1 : hd = ByteArray.empty := by rw [← hhd, headT, if_neg h1, if_neg h2]
        have e2 : acc ++ (lpar ++ wordOf op) = acc ++ (lpar ++ (wordOf op ++ hd)) := by rw [e1, ByteArray.append_empty]
        have h3 : ¬ op = 2 := fun h => h2 (.inl h)
        have h4 : ¬ op = 3 := fun h => h2 (.inr h)
        refine XA.condF rfl (by first | rfl | exact decide_eq_false h3) ?_; refine zR (zO rfl (Rd.eql rfl rfl) ?_); refine zO rfl Rd.asg ?_; refine zN (zT (XA.condF rfl (by first | rfl | exact decide_eq_false h4) ?_)); refine XA.skip (DA.inb_normal (zT ?_))
        refine ⟨(Keep.upd (Keep.upd (Keep.upd (Keep.upd (Keep.upd (Keep.upd (Keep.refl _ _) rfl) rfl) rfl) rfl) rfl) rfl), (), _, zM, ?_, ⟨rfl, rfl⟩⟩
        · rw [e2]; exact zE
  rintro _ δ _ _ ⟨rfl, rfl⟩
  dsimp only [ovr, List.foldl]
  refine zT (zS (zS (zR (zV rfl rfl ?_)))); refine zB rfl rfl (tyrow rfl) rfl ?_; refine zO rfl (Rd.lenSlice (tyrow rfl) rfl rfl) ?_; refine zA rfl ?_; refine zN (zT (XA.block ?_))
  refine XA.gen [(0, _), (38, _), (39, _), (40, _)] ⟨(by with_reducible (conv => lhs; whnf)), (by with_reducible (conv => lhs; whnf)), (by with_reducible (conv => lhs; whnf)), (by with_reducible (conv => lhs; whnf)), trivial⟩ (fun δ => ?_)
  dsimp only [List.foldl]
  refine XA.loop [(5, 5), (40, 50)] (fun k : Nat => [(40, i64 k)]) (fun k σ' Γ' => σ = σ' ∧ k ≤ l.length ∧ Γ' = [Wri b (.slice pv vl.length cv) (acc ++ (lpar ++ (wordOf op ++ (hd ++ exsT vl (l.take k)))))]) (fun k => l.length - k) 0 (by exact ⟨rfl, trivial⟩) (Δ0 := _) ?_ (⟨rfl, Nat.zero_le _, by rw [List.take_zero, exsT, ByteArray.append_empty]⟩) ?_
  · exact zE
  rintro k δ _ _ ⟨rfl, hk, rfl⟩
  dsimp only [ovr, List.foldl]
  have hk : k ≤ l.length := hk
  by_cases hlt : k < l.length
  · obtain ⟨x', hx'⟩ : ∃ x', l[k]? = some x' := ⟨_, List.getElem?_eq_getElem hlt⟩
    obtain ⟨g, o, row, rfl, hrx, hrl, hrow⟩ := hl.at hx'
    have hone := hrx.ones
    have hcut := exsT_cut vl hx'
    have hsn := exsT_snoc vl hx'
    have hbb : (acc ++ (lpar ++ (wordOf op ++ (hd ++ exsT vl (l.take k))))).size + sp1.size ≤ 1000000000 := by simp only [ByteArray.size_append]; omega
    have hbc : (acc ++ (lpar ++ (wordOf op ++ (hd ++ exsT vl (l.take k)))) ++ sp1).size + (exT vl x').size ≤ 1000000 := by simp only [ByteArray.size_append]; omega
    have e3 : acc ++ (lpar ++ (wordOf op ++ (hd ++ exsT vl (l.take k)))) ++ sp1 ++ exT vl x' = acc ++ (lpar ++ (wordOf op ++ (hd ++ exsT vl (l.take (k + 1))))) := by rw [hsn]; simp only [ByteArray.append_assoc]
    have hm := List.mem_of_getElem? hx'
    have hrec := ih x' hm σ row b pv cv vl (acc ++ (lpar ++ (wordOf op ++ (hd ++ exsT vl (l.take k)))) ++ sp1) hrx hv (hsubs.mem x' hm) hT hbc
    rw [e3] at hrec
    refine zS (zR (zO rfl (Rd.lss rfl rfl) ?_)); refine zN (zT (zS (XA.condT rfl (by first | rfl | exact decide_eq_true (by omega)) ?_))); refine XA.skip (zT (zS (XA.block (zS (zR (zO rfl (Rd.ixS rfl rfl) ?_)))))); refine zO rfl (Rd.ldA rfl) ?_
    refine XOA.wr0 rfl (WrA.alloc (tyrow rfl)) ?_
    rintro _ _ _ ⟨g5, rfl, rfl, rfl⟩
    refine XOA.wr0 rfl (WrA.st (tyrow rfl) rfl) ?_
    rintro _ _ _ ⟨rfl, rfl, rfl⟩
    refine zN (zT (zS (zR (zA rfl ?_))))
    refine XOA.wr0 rfl (WrA.bs1 (tyrow rfl) rfl (tyrow rfl)) ?_
    rintro _ _ _ ⟨g45, rfl, rfl, rfl⟩
    refine XOA.wr0 rfl (WrA.cE (put1 σ b _ (acc ++ (lpar ++ (wordOf op ++ (hd ++ exsT vl (l.take k))))) g45 1 sp1 hbb) rfl) ?_
    rintro _ _ _ ⟨_, ⟨rfl, rfl, rfl⟩, rfl⟩
    refine XOA.cl ?_; refine zN (zT (zR (zA rfl ?_))); refine zO rfl (Rd.ldA rfl) ?_
    refine XOA.wr0 rfl (WrA.cE (hrec) rfl) ?_
    rintro _ _ _ ⟨_, ⟨rfl, rfl, rfl⟩, rfl⟩
    refine XOA.cl ?_; refine zN (DA.inb_normal (zT (zR (zO rfl zI ?_)))); refine zA rfl ?_; refine zN (zT ?_)
    refine ⟨(Keep.upd (Keep.upd (Keep.updO (Keep.upd (Keep.upd (Keep.updO (Keep.updO (Keep.upd (Keep.updN (Keep.updO (Keep.upd (Keep.upd (Keep.upd (Keep.upd (Keep.hav (Keep.hav (Keep.refl _ _) rfl) rfl) rfl) rfl) rfl) rfl) rfl)) rfl) rfl) rfl) rfl) rfl) rfl) rfl) rfl), k + 1, _, zM, ?_, ⟨rfl, hlt, rfl⟩, (by omega)⟩
    · exact zE
  · have e : l.take k = l := List.take_of_length_le (by omega)
    rw [e]
    have hbb : (acc ++ (lpar ++ (wordOf op ++ (hd ++ exsT vl l)))).size + rpar.size ≤ 1000000000 := by simp only [ByteArray.size_append]; omega
    have e3 : acc ++ (lpar ++ (wordOf op ++ (hd ++ exsT vl l))) ++ rpar = acc ++ (lpar ++ (wordOf op ++ (hd ++ (exsT vl l ++ rpar)))) := by simp only [ByteArray.append_assoc]
    refine zS (zR (zO rfl (Rd.lss rfl rfl) ?_)); refine zN (zT (zS (XA.condF rfl (by first | rfl | exact decide_eq_false (by omega)) ?_))); refine XA.exit (DA.thn_exit (DA.thn_exit (DA.inb_same (zT (zR (zA rfl ?_))))))
    refine XOA.wr0 rfl (WrA.bs1 (tyrow rfl) rfl (tyrow rfl)) ?_
    rintro _ _ _ ⟨g52, rfl, rfl, rfl⟩
    refine XOA.wr0 rfl (WrA.cE (put1 σ b _ (acc ++ (lpar ++ (wordOf op ++ (hd ++ exsT vl l)))) g52 1 rpar hbb) rfl) ?_
    rintro _ _ _ ⟨_, ⟨rfl, rfl, rfl⟩, rfl⟩
    refine XOA.cl ?_
    rw [e3]
    refine zN ?_
    exact bodyA.normal (ResA.none rfl) zE ⟨rfl, rfl, rfl⟩
end Go.Proofs.YthefnnkmpcgcmaaDoor

namespace Go.Proofs.YthefnnkmpcgcmaaDoor
open Go X
set_option maxHeartbeats 4000000
theorem rword_p (σ : PH) (k : Int) : CallsA Tryd.prog 80 #[i64 k] σ [] (RetA fun v σ' Γ' => v = .string (wordOf k) ∧ σ = σ' ∧ Γ' = []) := by
  by_cases h1 : k < 1
  · have hw : wordOf k = ByteArray.empty := by rw [wordOf, if_neg (by omega)]
    rw [hw]
    refine enterA1 Tryd.func80 rfl rfl rfl ?_
    refine zS (zR (zO rfl Rd.asg ?_)); refine zN (zT (zS (zR ?_)))
    refine XOA.wr0 rfl (WrA.bs (fun _ _ => tyrow) rfl rfl rfl rfl rfl) ?_
    rintro _ _ _ ⟨g4, rfl, rfl, rfl⟩
    refine zO rfl Rd.asg ?_; refine zN (zT (zS (zS (zR (zA rfl ?_))))); refine zO rfl (Rd.lss rfl rfl) ?_; refine zA rfl ?_
    first | (refine zG ?_; refine zA rfl ?_) | refine zH ?_
    first | (refine zG ?_; refine zA rfl ?_) | refine zH ?_
    first | (refine zG ?_; refine zO rfl (Rd.lenSlice (tyrow rfl) rfl rfl) ?_) | refine zH ?_
    first | (refine zG ?_; refine zO rfl (Rd.gtr rfl rfl) ?_) | refine zH ?_
    refine zO rfl zP ?_; refine zN (zT (XA.condT rfl rfl (zS (zR (zO rfl Rd.asg ?_))))); refine zN (zT (XA.ret (DA.thn_ret ?_)))
    exact bodyA.ret (ResA.one rfl rfl) (Ent.nil _) ⟨rfl, rfl, rfl⟩
  by_cases h7 : k > 8
  · have hw : wordOf k = ByteArray.empty := by rw [wordOf, if_neg (by omega)]
    rw [hw]
    refine enterA1 Tryd.func80 rfl rfl rfl ?_
    refine zS (zR (zO rfl Rd.asg ?_)); refine zN (zT (zS (zR ?_)))
    refine XOA.wr0 rfl (WrA.bs (fun _ _ => tyrow) rfl rfl rfl rfl rfl) ?_
    rintro _ _ _ ⟨g4, rfl, rfl, rfl⟩
    refine zO rfl Rd.asg ?_; refine zN (zT (zS (zS (zR (zA rfl ?_))))); refine zO rfl (Rd.lss rfl rfl) ?_; refine zA rfl ?_
    first | (refine zG ?_; refine zA rfl ?_) | refine zH ?_
    first | (refine zG ?_; refine zA rfl ?_) | refine zH ?_
    first | (refine zG ?_; refine zO rfl (Rd.lenSlice (tyrow rfl) rfl rfl) ?_) | refine zH ?_
    first | (refine zG ?_; refine zO rfl (Rd.gtr rfl rfl) ?_) | refine zH ?_
    refine zO rfl zP ?_; refine zN (zT (XA.condT rfl (by first | rfl | exact decide_eq_true (by omega)) ?_)); refine zS (zR (zO rfl Rd.asg ?_)); refine zN (zT (XA.ret (DA.thn_ret ?_)))
    exact bodyA.ret (ResA.one rfl rfl) (Ent.nil _) ⟨rfl, rfl, rfl⟩
  have hop : k = 1 ∨ k = 2 ∨ k = 3 ∨ k = 4 ∨ k = 5 ∨ k = 6 ∨ k = 7 ∨ k = 8 := by omega
  clear h1 h7
  rcases hop with rfl | rfl | rfl | rfl | rfl | rfl | rfl | rfl
  · refine enterA1 Tryd.func80 rfl rfl rfl ?_
    refine zS (zR (zO rfl Rd.asg ?_)); refine zN (zT (zS (zR ?_)))
    refine XOA.wr0 rfl (WrA.bs (fun _ _ => tyrow) rfl rfl rfl rfl rfl) ?_
    rintro _ _ _ ⟨g4, rfl, rfl, rfl⟩
    refine zO rfl Rd.asg ?_; refine zN (zT (zS (zS (zR (zA rfl ?_))))); refine zO rfl (Rd.lss rfl rfl) ?_; refine zA rfl ?_
    first | (refine zG ?_; refine zA rfl ?_) | refine zH ?_
    first | (refine zG ?_; refine zA rfl ?_) | refine zH ?_
    first | (refine zG ?_; refine zO rfl (Rd.lenSlice (tyrow rfl) rfl rfl) ?_) | refine zH ?_
    first | (refine zG ?_; refine zO rfl (Rd.gtr rfl rfl) ?_) | refine zH ?_
    refine zO rfl zP ?_; refine zN (zT (XA.condF rfl rfl (XA.skip (zT (zS (zR (zA rfl ?_))))))); refine zA rfl ?_; refine zO rfl (by first | exact Rd.sbi rfl rfl | exact Rd.sub rfl rfl) ?_; refine zO rfl (Rd.ixS rfl rfl) ?_; refine zB rfl rfl (tyrow rfl) rfl ?_; refine zO rfl Rd.asg ?_
    refine zN (zT (XA.ret ?_))
    exact bodyA.ret (ResA.one rfl rfl) (Ent.nil _) ⟨rfl, rfl, rfl⟩
  · refine enterA1 Tryd.func80 rfl rfl rfl ?_
    refine zS (zR (zO rfl Rd.asg ?_)); refine zN (zT (zS (zR ?_)))
    refine XOA.wr0 rfl (WrA.bs (fun _ _ => tyrow) rfl rfl rfl rfl rfl) ?_
    rintro _ _ _ ⟨g4, rfl, rfl, rfl⟩
    refine zO rfl Rd.asg ?_; refine zN (zT (zS (zS (zR (zA rfl ?_))))); refine zO rfl (Rd.lss rfl rfl) ?_; refine zA rfl ?_
    first | (refine zG ?_; refine zA rfl ?_) | refine zH ?_
    first | (refine zG ?_; refine zA rfl ?_) | refine zH ?_
    first | (refine zG ?_; refine zO rfl (Rd.lenSlice (tyrow rfl) rfl rfl) ?_) | refine zH ?_
    first | (refine zG ?_; refine zO rfl (Rd.gtr rfl rfl) ?_) | refine zH ?_
    refine zO rfl zP ?_; refine zN (zT (XA.condF rfl rfl (XA.skip (zT (zS (zR (zA rfl ?_))))))); refine zA rfl ?_; refine zO rfl (by first | exact Rd.sbi rfl rfl | exact Rd.sub rfl rfl) ?_; refine zO rfl (Rd.ixS rfl rfl) ?_; refine zB rfl rfl (tyrow rfl) rfl ?_; refine zO rfl Rd.asg ?_
    refine zN (zT (XA.ret ?_))
    exact bodyA.ret (ResA.one rfl rfl) (Ent.nil _) ⟨rfl, rfl, rfl⟩
  · refine enterA1 Tryd.func80 rfl rfl rfl ?_
    refine zS (zR (zO rfl Rd.asg ?_)); refine zN (zT (zS (zR ?_)))
    refine XOA.wr0 rfl (WrA.bs (fun _ _ => tyrow) rfl rfl rfl rfl rfl) ?_
    rintro _ _ _ ⟨g4, rfl, rfl, rfl⟩
    refine zO rfl Rd.asg ?_; refine zN (zT (zS (zS (zR (zA rfl ?_))))); refine zO rfl (Rd.lss rfl rfl) ?_; refine zA rfl ?_
    first | (refine zG ?_; refine zA rfl ?_) | refine zH ?_
    first | (refine zG ?_; refine zA rfl ?_) | refine zH ?_
    first | (refine zG ?_; refine zO rfl (Rd.lenSlice (tyrow rfl) rfl rfl) ?_) | refine zH ?_
    first | (refine zG ?_; refine zO rfl (Rd.gtr rfl rfl) ?_) | refine zH ?_
    refine zO rfl zP ?_; refine zN (zT (XA.condF rfl rfl (XA.skip (zT (zS (zR (zA rfl ?_))))))); refine zA rfl ?_; refine zO rfl (by first | exact Rd.sbi rfl rfl | exact Rd.sub rfl rfl) ?_; refine zO rfl (Rd.ixS rfl rfl) ?_; refine zB rfl rfl (tyrow rfl) rfl ?_; refine zO rfl Rd.asg ?_
    refine zN (zT (XA.ret ?_))
    exact bodyA.ret (ResA.one rfl rfl) (Ent.nil _) ⟨rfl, rfl, rfl⟩
  · refine enterA1 Tryd.func80 rfl rfl rfl ?_
    refine zS (zR (zO rfl Rd.asg ?_)); refine zN (zT (zS (zR ?_)))
    refine XOA.wr0 rfl (WrA.bs (fun _ _ => tyrow) rfl rfl rfl rfl rfl) ?_
    rintro _ _ _ ⟨g4, rfl, rfl, rfl⟩
    refine zO rfl Rd.asg ?_; refine zN (zT (zS (zS (zR (zA rfl ?_))))); refine zO rfl (Rd.lss rfl rfl) ?_; refine zA rfl ?_
    first | (refine zG ?_; refine zA rfl ?_) | refine zH ?_
    first | (refine zG ?_; refine zA rfl ?_) | refine zH ?_
    first | (refine zG ?_; refine zO rfl (Rd.lenSlice (tyrow rfl) rfl rfl) ?_) | refine zH ?_
    first | (refine zG ?_; refine zO rfl (Rd.gtr rfl rfl) ?_) | refine zH ?_
    refine zO rfl zP ?_; refine zN (zT (XA.condF rfl rfl (XA.skip (zT (zS (zR (zA rfl ?_))))))); refine zA rfl ?_; refine zO rfl (by first | exact Rd.sbi rfl rfl | exact Rd.sub rfl rfl) ?_; refine zO rfl (Rd.ixS rfl rfl) ?_; refine zB rfl rfl (tyrow rfl) rfl ?_; refine zO rfl Rd.asg ?_
    refine zN (zT (XA.ret ?_))
    exact bodyA.ret (ResA.one rfl rfl) (Ent.nil _) ⟨rfl, rfl, rfl⟩
  · refine enterA1 Tryd.func80 rfl rfl rfl ?_
    refine zS (zR (zO rfl Rd.asg ?_)); refine zN (zT (zS (zR ?_)))
    refine XOA.wr0 rfl (WrA.bs (fun _ _ => tyrow) rfl rfl rfl rfl rfl) ?_
    rintro _ _ _ ⟨g4, rfl, rfl, rfl⟩
    refine zO rfl Rd.asg ?_; refine zN (zT (zS (zS (zR (zA rfl ?_))))); refine zO rfl (Rd.lss rfl rfl) ?_; refine zA rfl ?_
    first | (refine zG ?_; refine zA rfl ?_) | refine zH ?_
    first | (refine zG ?_; refine zA rfl ?_) | refine zH ?_
    first | (refine zG ?_; refine zO rfl (Rd.lenSlice (tyrow rfl) rfl rfl) ?_) | refine zH ?_
    first | (refine zG ?_; refine zO rfl (Rd.gtr rfl rfl) ?_) | refine zH ?_
    refine zO rfl zP ?_; refine zN (zT (XA.condF rfl rfl (XA.skip (zT (zS (zR (zA rfl ?_))))))); refine zA rfl ?_; refine zO rfl (by first | exact Rd.sbi rfl rfl | exact Rd.sub rfl rfl) ?_; refine zO rfl (Rd.ixS rfl rfl) ?_; refine zB rfl rfl (tyrow rfl) rfl ?_; refine zO rfl Rd.asg ?_
    refine zN (zT (XA.ret ?_))
    exact bodyA.ret (ResA.one rfl rfl) (Ent.nil _) ⟨rfl, rfl, rfl⟩
  · refine enterA1 Tryd.func80 rfl rfl rfl ?_
    refine zS (zR (zO rfl Rd.asg ?_)); refine zN (zT (zS (zR ?_)))
    refine XOA.wr0 rfl (WrA.bs (fun _ _ => tyrow) rfl rfl rfl rfl rfl) ?_
    rintro _ _ _ ⟨g4, rfl, rfl, rfl⟩
    refine zO rfl Rd.asg ?_; refine zN (zT (zS (zS (zR (zA rfl ?_))))); refine zO rfl (Rd.lss rfl rfl) ?_; refine zA rfl ?_
    first | (refine zG ?_; refine zA rfl ?_) | refine zH ?_
    first | (refine zG ?_; refine zA rfl ?_) | refine zH ?_
    first | (refine zG ?_; refine zO rfl (Rd.lenSlice (tyrow rfl) rfl rfl) ?_) | refine zH ?_
    first | (refine zG ?_; refine zO rfl (Rd.gtr rfl rfl) ?_) | refine zH ?_
    refine zO rfl zP ?_; refine zN (zT (XA.condF rfl rfl (XA.skip (zT (zS (zR (zA rfl ?_))))))); refine zA rfl ?_; refine zO rfl (by first | exact Rd.sbi rfl rfl | exact Rd.sub rfl rfl) ?_; refine zO rfl (Rd.ixS rfl rfl) ?_; refine zB rfl rfl (tyrow rfl) rfl ?_; refine zO rfl Rd.asg ?_
    refine zN (zT (XA.ret ?_))
    exact bodyA.ret (ResA.one rfl rfl) (Ent.nil _) ⟨rfl, rfl, rfl⟩
  · refine enterA1 Tryd.func80 rfl rfl rfl ?_
    refine zS (zR (zO rfl Rd.asg ?_)); refine zN (zT (zS (zR ?_)))
    refine XOA.wr0 rfl (WrA.bs (fun _ _ => tyrow) rfl rfl rfl rfl rfl) ?_
    rintro _ _ _ ⟨g4, rfl, rfl, rfl⟩
    refine zO rfl Rd.asg ?_; refine zN (zT (zS (zS (zR (zA rfl ?_))))); refine zO rfl (Rd.lss rfl rfl) ?_; refine zA rfl ?_
    first | (refine zG ?_; refine zA rfl ?_) | refine zH ?_
    first | (refine zG ?_; refine zA rfl ?_) | refine zH ?_
    first | (refine zG ?_; refine zO rfl (Rd.lenSlice (tyrow rfl) rfl rfl) ?_) | refine zH ?_
    first | (refine zG ?_; refine zO rfl (Rd.gtr rfl rfl) ?_) | refine zH ?_
    refine zO rfl zP ?_; refine zN (zT (XA.condF rfl rfl (XA.skip (zT (zS (zR (zA rfl ?_))))))); refine zA rfl ?_; refine zO rfl (by first | exact Rd.sbi rfl rfl | exact Rd.sub rfl rfl) ?_; refine zO rfl (Rd.ixS rfl rfl) ?_; refine zB rfl rfl (tyrow rfl) rfl ?_; refine zO rfl Rd.asg ?_
    refine zN (zT (XA.ret ?_))
    exact bodyA.ret (ResA.one rfl rfl) (Ent.nil _) ⟨rfl, rfl, rfl⟩
  · refine enterA1 Tryd.func80 rfl rfl rfl ?_
    refine zS (zR (zO rfl Rd.asg ?_)); refine zN (zT (zS (zR ?_)))
    refine XOA.wr0 rfl (WrA.bs (fun _ _ => tyrow) rfl rfl rfl rfl rfl) ?_
    rintro _ _ _ ⟨g4, rfl, rfl, rfl⟩
    refine zO rfl Rd.asg ?_; refine zN (zT (zS (zS (zR (zA rfl ?_))))); refine zO rfl (Rd.lss rfl rfl) ?_; refine zA rfl ?_
    first | (refine zG ?_; refine zA rfl ?_) | refine zH ?_
    first | (refine zG ?_; refine zA rfl ?_) | refine zH ?_
    first | (refine zG ?_; refine zO rfl (Rd.lenSlice (tyrow rfl) rfl rfl) ?_) | refine zH ?_
    first | (refine zG ?_; refine zO rfl (Rd.gtr rfl rfl) ?_) | refine zH ?_
    refine zO rfl zP ?_; refine zN (zT (XA.condF rfl rfl (XA.skip (zT (zS (zR (zA rfl ?_))))))); refine zA rfl ?_; refine zO rfl (by first | exact Rd.sbi rfl rfl | exact Rd.sub rfl rfl) ?_; refine zO rfl (Rd.ixS rfl rfl) ?_; refine zB rfl rfl (tyrow rfl) rfl ?_; refine zO rfl Rd.asg ?_
    refine zN (zT (XA.ret ?_))
    exact bodyA.ret (ResA.one rfl rfl) (Ent.nil _) ⟨rfl, rfl, rfl⟩
theorem rverb_p (σ : PH) (k : Int) : CallsA Tryd.prog 54 #[i64 k] σ [] (RetA fun v σ' Γ' => v = .string (verbOf k) ∧ σ = σ' ∧ Γ' = []) := by
  by_cases h1 : k < 1
  · have hw : verbOf k = ByteArray.empty := by rw [verbOf, if_neg (by omega)]
    rw [hw]
    refine enterA1 Tryd.func54 rfl rfl rfl ?_
    refine zS (zR (zO rfl Rd.asg ?_)); refine zN (zT (zS (zR ?_)))
    refine XOA.wr0 rfl (WrA.bs (fun _ _ => tyrow) rfl rfl rfl rfl rfl) ?_
    rintro _ _ _ ⟨g4, rfl, rfl, rfl⟩
    refine zO rfl Rd.asg ?_; refine zN (zT (zS (zS (zR (zA rfl ?_))))); refine zO rfl (Rd.lss rfl rfl) ?_; refine zA rfl ?_
    first | (refine zG ?_; refine zA rfl ?_) | refine zH ?_
    first | (refine zG ?_; refine zA rfl ?_) | refine zH ?_
    first | (refine zG ?_; refine zO rfl (Rd.lenSlice (tyrow rfl) rfl rfl) ?_) | refine zH ?_
    first | (refine zG ?_; refine zO rfl (Rd.gtr rfl rfl) ?_) | refine zH ?_
    refine zO rfl zP ?_; refine zN (zT (XA.condT rfl rfl (zS (zR (zO rfl Rd.asg ?_))))); refine zN (zT (XA.ret (DA.thn_ret ?_)))
    exact bodyA.ret (ResA.one rfl rfl) (Ent.nil _) ⟨rfl, rfl, rfl⟩
  by_cases h7 : k > 7
  · have hw : verbOf k = ByteArray.empty := by rw [verbOf, if_neg (by omega)]
    rw [hw]
    refine enterA1 Tryd.func54 rfl rfl rfl ?_
    refine zS (zR (zO rfl Rd.asg ?_)); refine zN (zT (zS (zR ?_)))
    refine XOA.wr0 rfl (WrA.bs (fun _ _ => tyrow) rfl rfl rfl rfl rfl) ?_
    rintro _ _ _ ⟨g4, rfl, rfl, rfl⟩
    refine zO rfl Rd.asg ?_; refine zN (zT (zS (zS (zR (zA rfl ?_))))); refine zO rfl (Rd.lss rfl rfl) ?_; refine zA rfl ?_
    first | (refine zG ?_; refine zA rfl ?_) | refine zH ?_
    first | (refine zG ?_; refine zA rfl ?_) | refine zH ?_
    first | (refine zG ?_; refine zO rfl (Rd.lenSlice (tyrow rfl) rfl rfl) ?_) | refine zH ?_
    first | (refine zG ?_; refine zO rfl (Rd.gtr rfl rfl) ?_) | refine zH ?_
    refine zO rfl zP ?_; refine zN (zT (XA.condT rfl (by first | rfl | exact decide_eq_true (by omega)) ?_)); refine zS (zR (zO rfl Rd.asg ?_)); refine zN (zT (XA.ret (DA.thn_ret ?_)))
    exact bodyA.ret (ResA.one rfl rfl) (Ent.nil _) ⟨rfl, rfl, rfl⟩
  have hop : k = 1 ∨ k = 2 ∨ k = 3 ∨ k = 4 ∨ k = 5 ∨ k = 6 ∨ k = 7 := by omega
  clear h1 h7
  rcases hop with rfl | rfl | rfl | rfl | rfl | rfl | rfl
  · refine enterA1 Tryd.func54 rfl rfl rfl ?_
    refine zS (zR (zO rfl Rd.asg ?_)); refine zN (zT (zS (zR ?_)))
    refine XOA.wr0 rfl (WrA.bs (fun _ _ => tyrow) rfl rfl rfl rfl rfl) ?_
    rintro _ _ _ ⟨g4, rfl, rfl, rfl⟩
    refine zO rfl Rd.asg ?_; refine zN (zT (zS (zS (zR (zA rfl ?_))))); refine zO rfl (Rd.lss rfl rfl) ?_; refine zA rfl ?_
    first | (refine zG ?_; refine zA rfl ?_) | refine zH ?_
    first | (refine zG ?_; refine zA rfl ?_) | refine zH ?_
    first | (refine zG ?_; refine zO rfl (Rd.lenSlice (tyrow rfl) rfl rfl) ?_) | refine zH ?_
    first | (refine zG ?_; refine zO rfl (Rd.gtr rfl rfl) ?_) | refine zH ?_
    refine zO rfl zP ?_; refine zN (zT (XA.condF rfl rfl (XA.skip (zT (zS (zR (zA rfl ?_))))))); refine zA rfl ?_; refine zO rfl (by first | exact Rd.sbi rfl rfl | exact Rd.sub rfl rfl) ?_; refine zO rfl (Rd.ixS rfl rfl) ?_; refine zB rfl rfl (tyrow rfl) rfl ?_; refine zO rfl Rd.asg ?_
    refine zN (zT (XA.ret ?_))
    exact bodyA.ret (ResA.one rfl rfl) (Ent.nil _) ⟨rfl, rfl, rfl⟩
  · refine enterA1 Tryd.func54 rfl rfl rfl ?_
    refine zS (zR (zO rfl Rd.asg ?_)); refine zN (zT (zS (zR ?_)))
    refine XOA.wr0 rfl (WrA.bs (fun _ _ => tyrow) rfl rfl rfl rfl rfl) ?_
    rintro _ _ _ ⟨g4, rfl, rfl, rfl⟩
    refine zO rfl Rd.asg ?_; refine zN (zT (zS (zS (zR (zA rfl ?_))))); refine zO rfl (Rd.lss rfl rfl) ?_; refine zA rfl ?_
    first | (refine zG ?_; refine zA rfl ?_) | refine zH ?_
    first | (refine zG ?_; refine zA rfl ?_) | refine zH ?_
    first | (refine zG ?_; refine zO rfl (Rd.lenSlice (tyrow rfl) rfl rfl) ?_) | refine zH ?_
    first | (refine zG ?_; refine zO rfl (Rd.gtr rfl rfl) ?_) | refine zH ?_
    refine zO rfl zP ?_; refine zN (zT (XA.condF rfl rfl (XA.skip (zT (zS (zR (zA rfl ?_))))))); refine zA rfl ?_; refine zO rfl (by first | exact Rd.sbi rfl rfl | exact Rd.sub rfl rfl) ?_; refine zO rfl (Rd.ixS rfl rfl) ?_; refine zB rfl rfl (tyrow rfl) rfl ?_; refine zO rfl Rd.asg ?_
    refine zN (zT (XA.ret ?_))
    exact bodyA.ret (ResA.one rfl rfl) (Ent.nil _) ⟨rfl, rfl, rfl⟩
  · refine enterA1 Tryd.func54 rfl rfl rfl ?_
    refine zS (zR (zO rfl Rd.asg ?_)); refine zN (zT (zS (zR ?_)))
    refine XOA.wr0 rfl (WrA.bs (fun _ _ => tyrow) rfl rfl rfl rfl rfl) ?_
    rintro _ _ _ ⟨g4, rfl, rfl, rfl⟩
    refine zO rfl Rd.asg ?_; refine zN (zT (zS (zS (zR (zA rfl ?_))))); refine zO rfl (Rd.lss rfl rfl) ?_; refine zA rfl ?_
    first | (refine zG ?_; refine zA rfl ?_) | refine zH ?_
    first | (refine zG ?_; refine zA rfl ?_) | refine zH ?_
    first | (refine zG ?_; refine zO rfl (Rd.lenSlice (tyrow rfl) rfl rfl) ?_) | refine zH ?_
    first | (refine zG ?_; refine zO rfl (Rd.gtr rfl rfl) ?_) | refine zH ?_
    refine zO rfl zP ?_; refine zN (zT (XA.condF rfl rfl (XA.skip (zT (zS (zR (zA rfl ?_))))))); refine zA rfl ?_; refine zO rfl (by first | exact Rd.sbi rfl rfl | exact Rd.sub rfl rfl) ?_; refine zO rfl (Rd.ixS rfl rfl) ?_; refine zB rfl rfl (tyrow rfl) rfl ?_; refine zO rfl Rd.asg ?_
    refine zN (zT (XA.ret ?_))
    exact bodyA.ret (ResA.one rfl rfl) (Ent.nil _) ⟨rfl, rfl, rfl⟩
  · refine enterA1 Tryd.func54 rfl rfl rfl ?_
    refine zS (zR (zO rfl Rd.asg ?_)); refine zN (zT (zS (zR ?_)))
    refine XOA.wr0 rfl (WrA.bs (fun _ _ => tyrow) rfl rfl rfl rfl rfl) ?_
    rintro _ _ _ ⟨g4, rfl, rfl, rfl⟩
    refine zO rfl Rd.asg ?_; refine zN (zT (zS (zS (zR (zA rfl ?_))))); refine zO rfl (Rd.lss rfl rfl) ?_; refine zA rfl ?_
    first | (refine zG ?_; refine zA rfl ?_) | refine zH ?_
    first | (refine zG ?_; refine zA rfl ?_) | refine zH ?_
    first | (refine zG ?_; refine zO rfl (Rd.lenSlice (tyrow rfl) rfl rfl) ?_) | refine zH ?_
    first | (refine zG ?_; refine zO rfl (Rd.gtr rfl rfl) ?_) | refine zH ?_
    refine zO rfl zP ?_; refine zN (zT (XA.condF rfl rfl (XA.skip (zT (zS (zR (zA rfl ?_))))))); refine zA rfl ?_; refine zO rfl (by first | exact Rd.sbi rfl rfl | exact Rd.sub rfl rfl) ?_; refine zO rfl (Rd.ixS rfl rfl) ?_; refine zB rfl rfl (tyrow rfl) rfl ?_; refine zO rfl Rd.asg ?_
    refine zN (zT (XA.ret ?_))
    exact bodyA.ret (ResA.one rfl rfl) (Ent.nil _) ⟨rfl, rfl, rfl⟩
  · refine enterA1 Tryd.func54 rfl rfl rfl ?_
    refine zS (zR (zO rfl Rd.asg ?_)); refine zN (zT (zS (zR ?_)))
    refine XOA.wr0 rfl (WrA.bs (fun _ _ => tyrow) rfl rfl rfl rfl rfl) ?_
    rintro _ _ _ ⟨g4, rfl, rfl, rfl⟩
    refine zO rfl Rd.asg ?_; refine zN (zT (zS (zS (zR (zA rfl ?_))))); refine zO rfl (Rd.lss rfl rfl) ?_; refine zA rfl ?_
    first | (refine zG ?_; refine zA rfl ?_) | refine zH ?_
    first | (refine zG ?_; refine zA rfl ?_) | refine zH ?_
    first | (refine zG ?_; refine zO rfl (Rd.lenSlice (tyrow rfl) rfl rfl) ?_) | refine zH ?_
    first | (refine zG ?_; refine zO rfl (Rd.gtr rfl rfl) ?_) | refine zH ?_
    refine zO rfl zP ?_; refine zN (zT (XA.condF rfl rfl (XA.skip (zT (zS (zR (zA rfl ?_))))))); refine zA rfl ?_; refine zO rfl (by first | exact Rd.sbi rfl rfl | exact Rd.sub rfl rfl) ?_; refine zO rfl (Rd.ixS rfl rfl) ?_; refine zB rfl rfl (tyrow rfl) rfl ?_; refine zO rfl Rd.asg ?_
    refine zN (zT (XA.ret ?_))
    exact bodyA.ret (ResA.one rfl rfl) (Ent.nil _) ⟨rfl, rfl, rfl⟩
  · refine enterA1 Tryd.func54 rfl rfl rfl ?_
    refine zS (zR (zO rfl Rd.asg ?_)); refine zN (zT (zS (zR ?_)))
    refine XOA.wr0 rfl (WrA.bs (fun _ _ => tyrow) rfl rfl rfl rfl rfl) ?_
    rintro _ _ _ ⟨g4, rfl, rfl, rfl⟩
    refine zO rfl Rd.asg ?_; refine zN (zT (zS (zS (zR (zA rfl ?_))))); refine zO rfl (Rd.lss rfl rfl) ?_; refine zA rfl ?_
    first | (refine zG ?_; refine zA rfl ?_) | refine zH ?_
    first | (refine zG ?_; refine zA rfl ?_) | refine zH ?_
    first | (refine zG ?_; refine zO rfl (Rd.lenSlice (tyrow rfl) rfl rfl) ?_) | refine zH ?_
    first | (refine zG ?_; refine zO rfl (Rd.gtr rfl rfl) ?_) | refine zH ?_
    refine zO rfl zP ?_; refine zN (zT (XA.condF rfl rfl (XA.skip (zT (zS (zR (zA rfl ?_))))))); refine zA rfl ?_; refine zO rfl (by first | exact Rd.sbi rfl rfl | exact Rd.sub rfl rfl) ?_; refine zO rfl (Rd.ixS rfl rfl) ?_; refine zB rfl rfl (tyrow rfl) rfl ?_; refine zO rfl Rd.asg ?_
    refine zN (zT (XA.ret ?_))
    exact bodyA.ret (ResA.one rfl rfl) (Ent.nil _) ⟨rfl, rfl, rfl⟩
  · refine enterA1 Tryd.func54 rfl rfl rfl ?_
    refine zS (zR (zO rfl Rd.asg ?_)); refine zN (zT (zS (zR ?_)))
    refine XOA.wr0 rfl (WrA.bs (fun _ _ => tyrow) rfl rfl rfl rfl rfl) ?_
    rintro _ _ _ ⟨g4, rfl, rfl, rfl⟩
    refine zO rfl Rd.asg ?_; refine zN (zT (zS (zS (zR (zA rfl ?_))))); refine zO rfl (Rd.lss rfl rfl) ?_; refine zA rfl ?_
    first | (refine zG ?_; refine zA rfl ?_) | refine zH ?_
    first | (refine zG ?_; refine zA rfl ?_) | refine zH ?_
    first | (refine zG ?_; refine zO rfl (Rd.lenSlice (tyrow rfl) rfl rfl) ?_) | refine zH ?_
    first | (refine zG ?_; refine zO rfl (Rd.gtr rfl rfl) ?_) | refine zH ?_
    refine zO rfl zP ?_; refine zN (zT (XA.condF rfl rfl (XA.skip (zT (zS (zR (zA rfl ?_))))))); refine zA rfl ?_; refine zO rfl (by first | exact Rd.sbi rfl rfl | exact Rd.sub rfl rfl) ?_; refine zO rfl (Rd.ixS rfl rfl) ?_; refine zB rfl rfl (tyrow rfl) rfl ?_; refine zO rfl Rd.asg ?_
    refine zN (zT (XA.ret ?_))
    exact bodyA.ret (ResA.one rfl rfl) (Ent.nil _) ⟨rfl, rfl, rfl⟩
def RTexOK (x : Ex) : Prop := ∀ (σ : PH) (cs : List Value) (pv : Option Addr) (cv : Nat) (vl : List Va) (bs : Value), ExAt σ cs x → PSl 2 rVa σ (.slice pv vl.length cv) vl → ExV vl.length x → Tab σ → (exT vl x).size ≤ 1000000 →
  CallsA Tryd.prog 56 #[.agg #[.slice pv vl.length cv, bs], .agg cs.toArray] σ [] (RetA fun r σ' Γ' => r = .string (exT vl x) ∧ σ = σ' ∧ Γ' = [])
theorem rexpr_w (x : Ex) : RTexOK x := by
  refine Ex.ind (P := RTexOK) ?_ x
  intro op v n l ih σ cs pv cv vl bs hx hv hok hT hb
  obtain ⟨p, c, rfl, ho, hvv, hn, hl⟩ := hx.inv
  simp only [Ex.op, Ex.v, Ex.n, Ex.l] at hl ho hvv hn ⊢
  clear hx
  rw [ExV] at hok
  obtain ⟨h8, hparts, hvar, -, hsubs⟩ := hok
  have hlen : l.length ≤ maxLen := by
    obtain ⟨q, d, e1, h1, h2⟩ := hl.shape
    omega
  simp only [maxLen] at hlen
  have hlp : lpar.size = 1 := rfl
  have hrp : rpar.size = 1 := rfl
  have hs1 : sp1.size = 1 := rfl
  have hE : exT vl (.mk op v n l) = lpar ++ (wordOf op ++ (headT vl op v n ++ (exsT vl l ++ rpar))) := by rw [exT]
  rw [hE] at hb ⊢
  simp only [ByteArray.size_append] at hb
  obtain ⟨hd, hhd⟩ : ∃ hd, headT vl op v n = hd := ⟨_, rfl⟩
  rw [hhd] at hb ⊢
  refine enterA2 Tryd.func56 rfl rfl rfl ?_
  refine zS (zR ?_)
  refine XOA.wr0 rfl WrA.bx ?_
  rintro _ _ _ ⟨g2, rfl, rfl, rfl⟩
  refine XOA.wr0 rfl WrA.bx ?_
  rintro _ _ _ ⟨g3, rfl, rfl, rfl⟩
  refine zO rfl Rd.asg ?_; refine zN (zT (zS (zR (zV rfl rfl ?_)))); refine zB rfl rfl (tyrow rfl) rfl ?_
  refine XOA.wr0 rfl (WrA.cE (rword_p σ op) rfl) ?_
  rintro _ _ _ ⟨_, ⟨rfl, rfl, rfl⟩, rfl⟩
  refine XOA.cl ?_
  refine zO rfl (X.Rd.catStr rfl rfl (by show 1 + (wordOf op).size ≤ _; omega)) ?_
  refine zO rfl Rd.asg ?_; refine zN (zT (zS (zS (zR (zV rfl rfl ?_))))); refine zB rfl rfl (tyrow rfl) rfl ?_; refine zO rfl (Rd.eql rfl rfl) ?_; refine zN (zT ?_)
  refine XA.join [(5, 5), (14, 19)] (fun _ : Unit => [(5, .string (lpar ++ wordOf op ++ (if op = 1 then hd else ByteArray.empty)))]) (fun _ σ' Γ' => σ = σ' ∧ Γ' = [blk g2 [.slice pv vl.length cv, bs] 25, blk g3 [i64 op, i64 v, i64 n, .slice p l.length c] 54]) ?_ ?_
  · skip
    refine XA.condp rfl (fun h1 => ?_) (fun h1 => ?_)
    · have e1 : hd = sp1 ++ itoaS n := by rw [← hhd, headT, if_pos h1]
      rw [if_pos h1, e1]
      rw [e1, ByteArray.size_append] at hb
      refine zR (zA rfl ?_); refine zV rfl rfl ?_; refine zB rfl rfl (tyrow rfl) rfl ?_
      refine XOA.wr0 rfl (WrA.cE (itoa_a σ n hn.1 hn.2 hT) rfl) ?_
      rintro _ _ _ ⟨_, ⟨rfl, rfl, rfl⟩, rfl⟩
      refine XOA.cl ?_
      refine zO rfl (X.Rd.catStr rfl rfl (by show 1 + (itoaS n).size ≤ _; omega)) ?_
      refine zO rfl (X.Rd.catStr rfl rfl (by show (lpar ++ wordOf op).size + (sp1 ++ itoaS n).size ≤ _; rw [ByteArray.size_append, ByteArray.size_append]; omega)) ?_
      refine zO rfl Rd.asg ?_; refine zN (zT ?_)
      refine ⟨(Keep.upd (Keep.upd (Keep.upd (Keep.updO (Keep.upd (Keep.upd (Keep.upd (Keep.refl _ _) rfl) rfl) rfl) rfl) rfl) rfl) rfl), (), _, zM, ?_, ⟨rfl, rfl⟩⟩
      · exact zE
    · rw [if_neg h1, ByteArray.append_empty]
      refine XA.skip (zT ?_)
      refine ⟨(Keep.refl _ _), (), _, zM, ?_, ⟨rfl, rfl⟩⟩
      · exact zE
  rintro _ δ _ _ ⟨rfl, rfl⟩
  dsimp only [ovr, List.foldl]
  refine zT (zS (zS ?_))
  refine XA.join [(20, 27)] (fun _ : Unit => [(27, .bool (decide (op = 2 ∨ op = 3)))]) (fun _ σ' Γ' => σ = σ' ∧ Γ' = [blk g2 [.slice pv vl.length cv, bs] 25, blk g3 [i64 op, i64 v, i64 n, .slice p l.length c] 54]) ?_ ?_
  · skip
    by_cases h2 : op = 2
    · have e1 : decide (op = 2 ∨ op = 3) = true := decide_eq_true (.inl h2)
      have e2 : decide (op = 2) = true := decide_eq_true h2
      rw [e1]
      refine zR (zV rfl rfl ?_); refine zB rfl rfl (tyrow rfl) rfl ?_; refine zO rfl (Rd.eql rfl rfl) ?_; refine zA rfl ?_
      first | (refine zG ?_; refine zV rfl rfl ?_) | refine zH ?_
      first | (refine zG ?_; refine zB rfl rfl (tyrow rfl) rfl ?_) | refine zH ?_
      first | (refine zG ?_; refine zO rfl (Rd.eql rfl rfl) ?_) | refine zH ?_
      refine zO rfl zP ?_; refine zN (zT ?_)
      refine ⟨(Keep.upd (Keep.upd (Keep.upd (Keep.upd (Keep.upd (Keep.upd (Keep.upd (Keep.upd (Keep.refl _ _) rfl) rfl) rfl) rfl) rfl) rfl) rfl) rfl), (), _, zM, ?_, ⟨rfl, rfl⟩⟩
      · exact zE
    · have e2 : decide (op = 2) = false := decide_eq_false h2
      have e1 : decide (op = 2 ∨ op = 3) = decide (op = 3) := by simp [h2]
      rw [e1]
      refine zR (zV rfl rfl ?_); refine zB rfl rfl (tyrow rfl) rfl ?_; refine zO rfl (Rd.eql rfl rfl) ?_; refine zA rfl ?_
      first | (refine zG ?_; refine zV rfl rfl ?_) | refine zH ?_
      first | (refine zG ?_; refine zB rfl rfl (tyrow rfl) rfl ?_) | refine zH ?_
      first | (refine zG ?_; refine zO rfl (Rd.eql rfl rfl) ?_) | refine zH ?_
      refine zO rfl zP ?_; refine zN (zT ?_)
      refine ⟨(Keep.upd (Keep.upd (Keep.upd (Keep.upd (Keep.upd (Keep.upd (Keep.upd (Keep.upd (Keep.refl _ _) rfl) rfl) rfl) rfl) rfl) rfl) rfl) rfl), (), _, zM, ?_, ⟨rfl, rfl⟩⟩
      · exact zE
  rintro _ δ _ _ ⟨rfl, rfl⟩
  dsimp only [ovr, List.foldl]
  refine zT ?_
  refine XA.join [(5, 5), (28, 37)] (fun _ : Unit => [(5, .string (lpar ++ wordOf op ++ hd))]) (fun _ σ' Γ' => σ = σ' ∧ Γ' = [blk g2 [.slice pv vl.length cv, bs] 25, blk g3 [i64 op, i64 v, i64 n, .slice p l.length c] 54]) ?_ ?_
  · skip
    refine XA.condp rfl (fun h2 => ?_) (fun h2 => ?_)
    · have h1 : ¬ op = 1 := by omega
      obtain ⟨hv0, hv1⟩ := hvar h2
      obtain ⟨k, rfl⟩ : ∃ k : Nat, v = k := ⟨v.toNat, by omega⟩
      have hkl : k < vl.length := by omega
      obtain ⟨w, hw⟩ : ∃ w, vl[k]? = some w := ⟨vl[k], by simp [hkl]⟩
      obtain ⟨gg, o, row, rfl, ⟨rfl, -, -⟩, -, hrow⟩ := hv.at hw
      have a0 : PRow σ gg (o + k * 2) [.string w.name] := hrow.sub (j := 0) rfl
      have e1 : hd = sp1 ++ w.name := by rw [← hhd, headT, if_neg h1, if_pos h2, nameAt_get hw]
      have hlt : (0 : Int) ≤ k ∧ (k : Int) < (vl.length : Nat) := ⟨by omega, by omega⟩
      rw [if_neg h1, ByteArray.append_empty, e1]
      rw [e1, ByteArray.size_append] at hb
      refine zR (zA rfl ?_); refine zV rfl rfl ?_; refine zB rfl rfl (tyrow rfl) rfl ?_; refine zV rfl rfl ?_; refine zB rfl rfl (tyrow rfl) rfl ?_; refine zO rfl (Rd.ixS rfl rfl) ?_; refine zV rfl rfl ?_; refine zB rfl rfl (tyrow rfl) rfl ?_
      refine zO rfl (X.Rd.catStr rfl rfl (by show 1 + w.name.size ≤ _; omega)) ?_
      refine zO rfl (X.Rd.catStr rfl rfl (by show (lpar ++ wordOf op).size + (sp1 ++ w.name).size ≤ _; rw [ByteArray.size_append, ByteArray.size_append]; omega)) ?_
      refine zO rfl Rd.asg ?_; refine zN (zT ?_)
      refine ⟨(Keep.upd (Keep.upd (Keep.upd (Keep.upd (Keep.upd (Keep.upd (Keep.upd (Keep.upd (Keep.upd (Keep.upd (Keep.upd (Keep.refl _ _) rfl) rfl) rfl) rfl) rfl) rfl) rfl) rfl) rfl) rfl) rfl), (), _, zM, ?_, ⟨rfl, rfl⟩⟩
      · exact zE
    · have e1 : (if op = 1 then hd else ByteArray.empty) = hd := by
        split
        · rfl
        · rename_i h1; rw [← hhd, headT, if_neg h1, if_neg h2]
      rw [e1]
      refine XA.skip (zT ?_)
      refine ⟨(Keep.refl _ _), (), _, zM, ?_, ⟨rfl, rfl⟩⟩
      · exact zE
  rintro _ δ _ _ ⟨rfl, rfl⟩
  dsimp only [ovr, List.foldl]
  refine zT (zS (zS (zR (zO rfl Rd.asg ?_)))); refine zN (zT (XA.block ?_))
  refine XA.gen [(2, _), (3, _), (4, _), (5, _), (6, _)] ⟨(by with_reducible (conv => lhs; whnf)), (by with_reducible (conv => lhs; whnf)), (by with_reducible (conv => lhs; whnf)), (by with_reducible (conv => lhs; whnf)), (by with_reducible (conv => lhs; whnf)), trivial⟩ (fun δ => ?_)
  dsimp only [List.foldl]
  refine XA.loop [(5, 6), (38, 54)] (fun x : Nat × ByteArray => [(6, i64 x.1), (5, .string x.2)]) (fun x σ' Γ' => σ = σ' ∧ x.1 ≤ l.length ∧ x.2 = lpar ++ wordOf op ++ hd ++ exsT vl (l.take x.1) ∧ Γ' = [blk g2 [.slice pv vl.length cv, bs] 25, blk g3 [i64 op, i64 v, i64 n, .slice p l.length c] 54]) (fun x => l.length - x.1) (0, lpar ++ wordOf op ++ hd) (by exact ⟨rfl, rfl, trivial⟩) (Δ0 := _) ?_ (⟨rfl, Nat.zero_le _, by rw [List.take_zero, exsT, ByteArray.append_empty], rfl⟩) ?_
  · exact zE
  rintro ⟨k, s⟩ δ _ _ ⟨rfl, hk, hs, rfl⟩
  dsimp only [ovr, List.foldl]
  simp only at hk hs
  by_cases hlt : k < l.length
  · obtain ⟨x', hx'⟩ : ∃ x', l[k]? = some x' := ⟨_, List.getElem?_eq_getElem hlt⟩
    obtain ⟨g, o, row, rfl, hrx, hrl, hrow⟩ := hl.at hx'
    have hcut := exsT_cut vl hx'
    have hsn := exsT_snoc vl hx'
    have hm := List.mem_of_getElem? hx'
    have hsz : s.size = 1 + ((wordOf op).size + (hd.size + (exsT vl (l.take k)).size)) := by rw [hs]; simp only [ByteArray.size_append]; omega
    have hrec := ih x' hm σ row pv cv vl bs hrx hv (hsubs.mem x' hm) hT (by omega)
    obtain ⟨pe, ce, rfl, -⟩ := hrx.inv
    have e3 : s ++ (sp1 ++ exT vl x') = lpar ++ wordOf op ++ hd ++ exsT vl (l.take (k + 1)) := by rw [hsn, hs]; simp only [ByteArray.append_assoc]
    refine zS (zS (zR (zA rfl ?_))); refine zV rfl rfl ?_; refine zB rfl rfl (tyrow rfl) rfl ?_; refine zO rfl (Rd.lenSlice (tyrow rfl) rfl rfl) ?_; refine zO rfl (Rd.lss rfl rfl) ?_; refine zN (zT (XA.condT rfl (by first | rfl | exact decide_eq_true (by omega)) ?_))
    refine XA.skip (zT (zS (XA.block ?_)))
    refine XA.draw (by kernel_rfl) _ _ [7] [(0, .pu), (1, .rd), (2, .pu), (3, .rd), (4, .pu), (5, .pu), (6, .rd), (7, .wr), (8, .pu), (9, .pu), (10, .pu)] (by kernel_rfl) (PH.sub.refl _) (Ent.sel (R := blk g2 _ _) zL (Ent.sel (R := blk g3 _ _) zL (Ent.nil _))) ?_
    refine XPA.pu rfl rfl Gd.free Rd.mv ?_; refine XPA.rd rfl rfl Gd.free (Rd.ldA rfl) ?_; refine XPA.pu rfl rfl Gd.free (Rd.fA rfl) ?_; refine XPA.rd rfl rfl Gd.free (Rd.ldC rfl (tyrow rfl) rfl) ?_; refine XPA.pu rfl rfl Gd.free Rd.mv ?_; refine XPA.pu rfl rfl Gd.free (Rd.ixS rfl rfl) ?_
    refine XPA.rd rfl rfl Gd.free (Rd.ldA rfl) ?_
    refine XPA.wrZ0 rfl rfl Gd.free (by kernel_rfl) (WrA.cE (hrec) rfl) ?_
    rintro _ _ _ ⟨_, ⟨rfl, rfl, rfl⟩, rfl⟩
    refine XPA.cl ?_
    refine XPA.pu rfl rfl Gd.free (X.Rd.catStr rfl rfl (by show 1 + (exT vl x').size ≤ _; omega)) ?_
    refine XPA.pu rfl rfl Gd.free (X.Rd.catStr rfl rfl (by show s.size + (sp1 ++ exT vl x').size ≤ _; rw [ByteArray.size_append]; omega)) ?_
    refine XPA.pu rfl rfl Gd.free Rd.asg ?_; refine XPA.nil ?_; refine DA.inb_normal (zT (zR (zA rfl ?_))); refine zO rfl zI ?_; refine zO rfl Rd.asg ?_; refine zN (zT ?_)
    refine ⟨(Keep.upd (Keep.upd (Keep.upd (Keep.upd (Keep.upd (Keep.upd (Keep.updO (Keep.upd (Keep.upd (Keep.upd (Keep.upd (Keep.upd (Keep.upd (Keep.upd (Keep.upd (Keep.upd (Keep.upd (Keep.upd (Keep.upd (Keep.upd (Keep.upd (Keep.hav (Keep.hav (Keep.refl _ _) rfl) rfl) rfl) rfl) rfl) rfl) rfl) rfl) rfl) rfl) rfl) rfl) rfl) rfl) rfl) rfl) rfl) rfl) rfl) rfl) rfl) rfl) rfl), (k + 1, s ++ (sp1 ++ exT vl x')), _, zM, ?_, ⟨rfl, hlt, e3, rfl⟩, (by omega)⟩
    · exact zE
  · have e : l.take k = l := List.take_of_length_le (by omega)
    rw [e] at hs
    have hsz : s.size = 1 + ((wordOf op).size + (hd.size + (exsT vl l).size)) := by rw [hs]; simp only [ByteArray.size_append]; omega
    have e3 : s ++ rpar = lpar ++ (wordOf op ++ (hd ++ (exsT vl l ++ rpar))) := by rw [hs]; simp only [ByteArray.append_assoc]
    refine zS (zS (zR (zA rfl ?_))); refine zV rfl rfl ?_; refine zB rfl rfl (tyrow rfl) rfl ?_; refine zO rfl (Rd.lenSlice (tyrow rfl) rfl rfl) ?_; refine zO rfl (Rd.lss rfl rfl) ?_; refine zN (zT (XA.condF rfl (by first | rfl | exact decide_eq_false (by omega)) ?_))
    refine XA.exit (DA.thn_exit (DA.thn_exit (DA.inb_same (zT (zS (zR (zA rfl ?_)))))))
    refine zO rfl (X.Rd.catStr rfl rfl (by show s.size + 1 ≤ _; omega)) ?_
    refine zO rfl Rd.asg ?_; refine zN (zT (XA.ret ?_))
    exact bodyA.ret (ResA.one rfl rfl) (Ent.nil _) ⟨congrArg Value.string e3, rfl, rfl⟩
end Go.Proofs.YthefnnkmpcgcmaaDoor

namespace Go.Proofs.YthefnnkmpcgcmaaDoor
open Go X
set_option maxHeartbeats 4000000
theorem stsT_app (vl : List Va) (m : List St) : ∀ (l : List St) (b : Bool), stsT vl b (l ++ m) = stsT vl b l ++ stsT vl (b || decide (0 < l.length)) m
  | [], b => by rw [List.nil_append, stsT, ByteArray.empty_append]; simp
  | y :: r, b => by rw [List.cons_append, stsT, stsT, stsT_app vl m r true]; simp [ByteArray.append_assoc]
theorem stsT_step (vl : List Va) {l : List St} {k : Nat} {x : St} (h : l[k]? = some x) : stsT vl false (l.take (k + 1)) = stsT vl false (l.take k) ++ (optT (decide (0 < k)) sp1 ++ stT vl x) := by
  have hk := (List.getElem?_eq_some_iff.1 h).1
  have e : (l.take k).length = k := by rw [List.length_take]; omega
  rw [List.take_add_one, h, Option.toList_some, stsT_snoc, e, Bool.false_or]
theorem stsT_cut (vl : List Va) {l : List St} {k : Nat} {x : St} (h : l[k]? = some x) : (stsT vl false (l.take k)).size + ((optT (decide (0 < k)) sp1).size + (stT vl x).size) ≤ (stsT vl false l).size := by
  have e1 : stsT vl false l = stsT vl false (l.take (k + 1)) ++ stsT vl (false || decide (0 < (l.take (k + 1)).length)) (l.drop (k + 1)) := by rw [← stsT_app, List.take_append_drop]
  rw [e1, stsT_step vl h]; simp only [ByteArray.size_append]; omega
def PStOK (x : St) : Prop := ∀ (σ : PH) (cs : List Value) (b : Nat) (pv : Option Addr) (cv : Nat) (vl : List Va) (acc : ByteArray), StAt σ cs x → PSl 2 rVa σ (.slice pv vl.length cv) vl → StV vl.length x → Tab σ → acc.size + (stT vl x).size ≤ 1000000 →
  CallsA Tryd.prog 28 #[ptr b, .agg cs.toArray] σ [Wri b (.slice pv vl.length cv) acc] (RetA fun r σ' Γ' => r = .tuple #[] ∧ σ = σ' ∧ Γ' = [Wri b (.slice pv vl.length cv) (acc ++ stT vl x)])
def PListOK (l : List St) : Prop := ∀ (σ : PH) (p : Option Addr) (c : Nat) (b : Nat) (pv : Option Addr) (cv : Nat) (vl : List Va) (acc : ByteArray), PSl 12 StAt σ (.slice p l.length c) l → PSl 2 rVa σ (.slice pv vl.length cv) vl → StsV vl.length l → Tab σ → acc.size + (3 + (stsT vl false l).size) ≤ 1000000 →
  CallsA Tryd.prog 53 #[ptr b, .slice p l.length c] σ [Wri b (.slice pv vl.length cv) acc] (RetA fun r σ' Γ' => r = .tuple #[] ∧ σ = σ' ∧ Γ' = [Wri b (.slice pv vl.length cv) (acc ++ (sp1 ++ (lpar ++ (stsT vl false l ++ rpar))))])
theorem plist_w (l : List St) (ih : ∀ x ∈ l, PStOK x) : PListOK l := by
  intro σ p c b pv cv vl acc hl hv hok hT hb
  have hlen : l.length ≤ maxLen := by
    obtain ⟨q, d, e1, h1, h2⟩ := hl.shape
    omega
  simp only [maxLen] at hlen
  have e0 : (⟨#[32, 40]⟩ : ByteArray) = sp1 ++ lpar := by decide
  have z0 : (⟨#[32, 40]⟩ : ByteArray).size = 2 := rfl
  have z1 : (sp1 ++ lpar).size = 2 := rfl
  have hrp : rpar.size = 1 := rfl
  have hs1 : sp1.size = 1 := rfl
  have hput := fun g => put1 σ b (.slice pv vl.length cv) acc g 1 ⟨#[32, 40]⟩ (by omega)
  rw [e0] at hput
  refine enterA2 Tryd.func53 rfl rfl rfl ?_
  refine zS (zR (zA rfl ?_))
  refine XOA.wr0 rfl (WrA.bs1 (tyrow rfl) rfl (tyrow rfl)) ?_
  rintro _ _ _ ⟨g7, rfl, rfl, rfl⟩
  rw [e0]
  refine XOA.wr0 rfl (WrA.cE (hput g7) rfl) ?_
  rintro _ _ _ ⟨_, ⟨rfl, rfl, rfl⟩, rfl⟩
  refine XOA.cl ?_; refine zN (zT (zS (zS (zR (zA rfl ?_))))); refine zO rfl (Rd.lenSlice (tyrow rfl) rfl rfl) ?_; refine zA rfl ?_; refine zN (zT (XA.block ?_))
  refine XA.gen [(0, _), (9, _), (10, _), (11, _)] ⟨(by with_reducible (conv => lhs; whnf)), (by with_reducible (conv => lhs; whnf)), (by with_reducible (conv => lhs; whnf)), (by with_reducible (conv => lhs; whnf)), trivial⟩ (fun δ => ?_)
  dsimp only [List.foldl]
  refine XA.loop [(4, 5), (11, 24)] (fun k : Nat => [(11, i64 k)]) (fun k σ' Γ' => σ = σ' ∧ k ≤ l.length ∧ Γ' = [Wri b (.slice pv vl.length cv) (acc ++ (sp1 ++ lpar) ++ stsT vl false (l.take k))]) (fun k => l.length - k) 0 (by exact ⟨rfl, trivial⟩) (Δ0 := _) ?_ (⟨rfl, Nat.zero_le _, by rw [List.take_zero, stsT, ByteArray.append_empty]⟩) ?_
  · exact zE
  rintro k δ _ _ ⟨rfl, hk, rfl⟩
  dsimp only [ovr, List.foldl]
  have hk : k ≤ l.length := hk
  by_cases hlt : k < l.length
  · obtain ⟨x', hx'⟩ : ∃ x', l[k]? = some x' := ⟨_, List.getElem?_eq_getElem hlt⟩
    obtain ⟨g, o, row, rfl, hrx, hrl, hrow⟩ := hl.at hx'
    have hone := hrx.ones
    have hcut := stsT_cut vl hx'
    have hsn := stsT_step vl hx'
    have hm := List.mem_of_getElem? hx'
    refine zS (zR (zO rfl (Rd.lss rfl rfl) ?_)); refine zN (zT (zS (XA.condT rfl (by first | rfl | exact decide_eq_true (by omega)) ?_))); refine XA.skip (zT (zS (XA.block (zS (zR (zA rfl ?_)))))); refine zO rfl (Rd.ixS rfl rfl) ?_; refine zO rfl (Rd.ldA rfl) ?_
    refine XOA.wr0 rfl (WrA.alloc (tyrow rfl)) ?_
    rintro _ _ _ ⟨g5, rfl, rfl, rfl⟩
    refine zO rfl Rd.asg ?_
    refine XOA.wr0 rfl (WrA.st (tyrow rfl) rfl) ?_
    rintro _ _ _ ⟨rfl, rfl, rfl⟩
    refine zN (zT (zS (zS (zR (zA rfl ?_))))); refine zO rfl (Rd.gtr rfl rfl) ?_; refine zN (zT ?_)
    refine XA.join [(18, 20)] (fun _ : Unit => []) (fun _ σ' Γ' => σ = σ' ∧ Γ' = [Wri b (.slice pv vl.length cv) (acc ++ (sp1 ++ lpar) ++ stsT vl false (l.take k) ++ optT (decide (0 < k)) sp1), blk g5 row 56]) ?_ ?_
    · skip
      refine XA.condp rfl (fun h0 => ?_) (fun h0 => ?_)
      · have hb2 : (acc ++ (sp1 ++ lpar) ++ stsT vl false (l.take k)).size + sp1.size ≤ 1000000000 := by simp only [ByteArray.size_append] at z1 ⊢; omega
        have e1 : optT (decide (0 < k)) sp1 = sp1 := by rw [optT, if_pos (decide_eq_true (by omega))]
        refine zR (zA rfl ?_)
        refine XOA.wr0 rfl (WrA.bs1 (tyrow rfl) rfl (tyrow rfl)) ?_
        rintro _ _ _ ⟨g19, rfl, rfl, rfl⟩
        refine XOA.wr0 rfl (WrA.cE (put1 σ b _ (acc ++ (sp1 ++ lpar) ++ stsT vl false (l.take k)) g19 1 sp1 hb2) rfl) ?_
        rintro _ _ _ ⟨_, ⟨rfl, rfl, rfl⟩, rfl⟩
        refine XOA.cl ?_; refine zN (zT ?_)
        refine ⟨(Keep.updO (Keep.updO (Keep.upd (Keep.refl _ _) rfl) rfl) rfl), (), _, zM, ?_, ⟨rfl, rfl⟩⟩
        · rw [e1]; exact zE
      · have e1 : optT (decide (0 < k)) sp1 = ByteArray.empty := by rw [optT, if_neg (by rw [decide_eq_true_eq]; omega)]
        refine XA.skip (zT ?_)
        refine ⟨(Keep.refl _ _), (), _, zM, ?_, ⟨rfl, rfl⟩⟩
        · rw [e1, ByteArray.append_empty]; exact zE
    rintro _ δ _ _ ⟨rfl, rfl⟩
    dsimp only [ovr, List.foldl]
    refine zT ?_
    have hbc : (acc ++ (sp1 ++ lpar) ++ stsT vl false (l.take k) ++ optT (decide (0 < k)) sp1).size + (stT vl x').size ≤ 1000000 := by simp only [ByteArray.size_append] at z1 ⊢; omega
    have e3 : acc ++ (sp1 ++ lpar) ++ stsT vl false (l.take k) ++ optT (decide (0 < k)) sp1 ++ stT vl x' = acc ++ (sp1 ++ lpar) ++ stsT vl false (l.take (k + 1)) := by rw [hsn]; simp only [ByteArray.append_assoc]
    have hrec := ih x' hm σ row b pv cv vl _ hrx hv (hok.mem x' hm) hT hbc
    rw [e3] at hrec
    refine zR (zA rfl ?_); refine zO rfl (Rd.ldA rfl) ?_
    refine XOA.wr0 rfl (WrA.cE (hrec) rfl) ?_
    rintro _ _ _ ⟨_, ⟨rfl, rfl, rfl⟩, rfl⟩
    refine XOA.cl ?_; refine zN (DA.inb_normal (zT (zR (zO rfl zI ?_)))); refine zA rfl ?_; refine zN (zT ?_)
    refine ⟨(Keep.upd (Keep.upd (Keep.updO (Keep.upd (Keep.upd (Keep.hav (Keep.upd (Keep.upd (Keep.updN (Keep.upd (Keep.updO (Keep.upd (Keep.upd (Keep.upd (Keep.upd (Keep.upd (Keep.hav (Keep.hav (Keep.refl _ _) rfl) rfl) rfl) rfl) rfl) rfl) rfl) rfl) rfl)) rfl) rfl) rfl) rfl) rfl) rfl) rfl) rfl), k + 1, _, zM, ?_, ⟨rfl, hlt, rfl⟩, (by omega)⟩
    · exact zE
  · have e : l.take k = l := List.take_of_length_le (by omega)
    rw [e]
    have hbb : (acc ++ (sp1 ++ lpar) ++ stsT vl false l).size + rpar.size ≤ 1000000000 := by simp only [ByteArray.size_append] at z1 ⊢; omega
    have e3 : acc ++ (sp1 ++ lpar) ++ stsT vl false l ++ rpar = acc ++ (sp1 ++ (lpar ++ (stsT vl false l ++ rpar))) := by simp only [ByteArray.append_assoc]
    refine zS (zR (zO rfl (Rd.lss rfl rfl) ?_)); refine zN (zT (zS (XA.condF rfl (by first | rfl | exact decide_eq_false (by omega)) ?_))); refine XA.exit (DA.thn_exit (DA.thn_exit (DA.inb_same (zT (zR (zA rfl ?_))))))
    refine XOA.wr0 rfl (WrA.bs1 (tyrow rfl) rfl (tyrow rfl)) ?_
    rintro _ _ _ ⟨g26, rfl, rfl, rfl⟩
    refine XOA.wr0 rfl (WrA.cE (put1 σ b _ (acc ++ (sp1 ++ lpar) ++ stsT vl false l) g26 1 rpar hbb) rfl) ?_
    rintro _ _ _ ⟨_, ⟨rfl, rfl, rfl⟩, rfl⟩
    refine XOA.cl ?_
    rw [e3]
    refine zN ?_
    exact bodyA.normal (ResA.none rfl) zE ⟨rfl, rfl, rfl⟩
theorem pst_w (x : St) : PStOK x := by
  refine St.ind (P := PStOK) ?_ x
  intro op v e f body els ih jh σ cs b pv cv vl acc hx hv hok hT hb
  obtain ⟨pe, de, pf, df, pb, cb, pl, cl, rfl, ho, hvv, hxe, hxf, hxb, hxl⟩ := hx.inv12
  simp only [St.op, St.v, St.e, St.f, St.body, St.els] at hxe hxf hxb hxl ho hvv ⊢
  clear hx
  rw [StV] at hok
  obtain ⟨h7, hvar, hoke, hokf, -, -, hokb, hokl⟩ := hok
  have hlp : lpar.size = 1 := rfl
  have hrp : rpar.size = 1 := rfl
  have hs1 : sp1.size = 1 := rfl
  obtain ⟨tv, htv⟩ : ∃ t, optT (needV op) (sp1 ++ nameAt vl v) = t := ⟨_, rfl⟩
  obtain ⟨te, hte⟩ : ∃ t, optT (needE op) (sp1 ++ exT vl e) = t := ⟨_, rfl⟩
  obtain ⟨tf, htf⟩ : ∃ t, optT (needF op) (sp1 ++ exT vl f) = t := ⟨_, rfl⟩
  obtain ⟨tb, htb⟩ : ∃ t, optT (needB op) (sp1 ++ (lpar ++ (stsT vl false body ++ rpar))) = t := ⟨_, rfl⟩
  obtain ⟨to, hto⟩ : ∃ t, optT (needO op) (sp1 ++ (lpar ++ (stsT vl false els ++ rpar))) = t := ⟨_, rfl⟩
  have hE : stT vl (.mk op v e f body els) = lpar ++ (verbOf op ++ (tv ++ (te ++ (tf ++ (tb ++ (to ++ rpar)))))) := by rw [stT, htv, hte, htf, htb, hto]
  rw [hE] at hb ⊢
  simp only [ByteArray.size_append] at hb
  refine enterA2 Tryd.func28 rfl rfl rfl ?_
  refine zS (zR ?_)
  refine XOA.wr0 rfl WrA.bx ?_
  rintro _ _ _ ⟨g3, rfl, rfl, rfl⟩
  refine zN (zT (zS (zR (zA rfl ?_)))); refine zV rfl rfl ?_; refine zB rfl rfl (tyrow rfl) rfl ?_
  refine XOA.wr0 rfl (WrA.cE (verb_p σ op) rfl) ?_
  rintro _ _ _ ⟨_, ⟨rfl, rfl, rfl⟩, rfl⟩
  refine XOA.cl ?_
  refine XOA.wr0 rfl (WrA.bs (fun _ _ => tyrow) rfl rfl rfl rfl rfl) ?_
  rintro _ _ _ ⟨g13, rfl, rfl, rfl⟩
  refine XOA.wr0 rfl (WrA.cE (put2 σ b _ acc g13 2 lpar (verbOf op) (by omega)) rfl) ?_
  rintro _ _ _ ⟨_, ⟨rfl, rfl, rfl⟩, rfl⟩
  refine XOA.cl ?_; refine zN (zT (zS (zR (zV rfl rfl ?_)))); refine zB rfl rfl (tyrow rfl) rfl ?_
  refine XOA.wr0 rfl (WrA.cE (chas_a σ op) rfl) ?_
  rintro _ _ _ ⟨_, ⟨rfl, rfl, rfl⟩, rfl⟩
  refine XOA.cl ?_; refine zA rfl ?_; refine zO rfl (Rd.extract rfl rfl) ?_; refine zO rfl (Rd.extract rfl rfl) ?_; refine zO rfl (Rd.extract rfl rfl) ?_; refine zO rfl (Rd.extract rfl rfl) ?_; refine zO rfl (Rd.extract rfl rfl) ?_; refine zO rfl Rd.asg ?_; refine zO rfl Rd.asg ?_
  refine zO rfl Rd.asg ?_; refine zO rfl Rd.asg ?_; refine zO rfl Rd.asg ?_; refine zN (zT (zS (zS (zR (zA rfl ?_))))); refine zN (zT ?_)
  refine XA.join [(25, 36)] (fun _ : Unit => []) (fun _ σ' Γ' => σ = σ' ∧ Γ' = [Wri b (.slice pv vl.length cv) (acc ++ (lpar ++ verbOf op) ++ tv), blk g3 [i64 op, i64 v, i64 e.op, i64 e.v, i64 e.n, .slice pe e.l.length de, i64 f.op, i64 f.v, i64 f.n, .slice pf f.l.length df, .slice pb body.length cb, .slice pl els.length cl] 56]) ?_ ?_
  · skip
    refine XA.cond rfl (fun hq => ?_) (fun hq => ?_)
    · obtain ⟨hv0, hv1⟩ := hvar hq
      obtain ⟨k, rfl⟩ : ∃ k : Nat, v = k := ⟨v.toNat, by omega⟩
      have hkl : k < vl.length := by omega
      obtain ⟨w, hw⟩ : ∃ w, vl[k]? = some w := ⟨vl[k], by simp [hkl]⟩
      obtain ⟨gg, o, row, rfl, ⟨rfl, -, -⟩, -, hrow⟩ := hv.at hw
      have a0 : PRow σ gg (o + k * 2) [.string w.name] := hrow.sub (j := 0) rfl
      have e1 : tv = sp1 ++ w.name := by rw [← htv, optT, if_pos hq, nameAt_get hw]
      have hb2 : (acc ++ (lpar ++ verbOf op)).size + (sp1.size + w.name.size) ≤ 1000000000 := by rw [e1] at hb; simp only [ByteArray.size_append] at hb ⊢; omega
      have hlt : (0 : Int) ≤ k ∧ (k : Int) < (vl.length : Nat) := ⟨by omega, by omega⟩
      first | refine XA.opn (R := Wri b _ _) zL (Bld.o) ?_ | refine XOA.opn (R := Wri b _ _) zL (Bld.o) ?_ | refine DA.opn (R := Wri b _ _) zL (Bld.o) ?_
      rintro ⟨u, pz, cz⟩ hz
      first | refine XA.cl ?_ | refine XOA.cl ?_ | refine DA.cl ?_
      simp only at hz
      refine XA.draw (by kernel_rfl) _ _ [10, 11] [(0, .pu), (1, .pu), (2, .pu), (3, .pu), (4, .rd), (5, .pu), (6, .rd), (7, .pu), (8, .pu), (9, .rd), (10, .wr), (11, .wr)] (by kernel_rfl) (PH.sub.refl _) (Ent.sel (R := blk b _ _) zL (Ent.sel (R := blk g3 _ _) zL (Ent.nil _))) ?_
      refine XPA.pu rfl rfl Gd.free Rd.mv ?_; refine XPA.pu rfl rfl Gd.free Rd.mv ?_; refine XPA.pu rfl rfl Gd.free (Rd.nilCheck rfl) ?_; refine XPA.pu rfl rfl Gd.free (Rd.fA rfl) ?_; refine XPA.rd rfl rfl Gd.free (Rd.ldC rfl (tyrow rfl) rfl) ?_; refine XPA.pu rfl rfl Gd.free (Rd.fA rfl) ?_
      refine XPA.rd rfl rfl Gd.free (Rd.ldC rfl (tyrow rfl) rfl) ?_; refine XPA.pu rfl rfl Gd.free (Rd.ixS rfl rfl) ?_; refine XPA.pu rfl rfl Gd.free (Rd.fA rfl) ?_; refine XPA.rd rfl rfl Gd.free (Rd.ldC rfl (tyrow rfl) rfl) ?_
      refine XPA.wrZ0 rfl rfl Gd.free (by kernel_rfl) (WrA.bs (fun _ _ => tyrow) rfl rfl rfl rfl rfl) ?_
      rintro _ _ _ ⟨g35, rfl, rfl, rfl⟩
      refine XPA.wrZ0 rfl rfl Gd.free (by kernel_rfl) (WrA.cE (put2o σ b _ (acc ++ (lpar ++ verbOf op)) g35 2 u pz cz hz sp1 w.name hb2) rfl) ?_
      rintro _ _ _ ⟨_, ⟨rfl, rfl, rfl⟩, rfl⟩
      refine XPA.cl ?_; refine XPA.nil ?_; refine zT ?_
      refine ⟨(Keep.updO (Keep.updO (Keep.upd (Keep.upd (Keep.upd (Keep.upd (Keep.upd (Keep.upd (Keep.upd (Keep.upd (Keep.upd (Keep.upd (Keep.refl _ _) rfl) rfl) rfl) rfl) rfl) rfl) rfl) rfl) rfl) rfl) rfl) rfl), (), _, zM, ?_, ⟨rfl, rfl⟩⟩
      · rw [e1]; exact zE
    · have e1 : tv = ByteArray.empty := by rw [← htv, optT, if_neg (by rw [hq]; exact Bool.noConfusion)]
      refine XA.skip (zT ?_)
      refine ⟨(Keep.refl _ _), (), _, zM, ?_, ⟨rfl, rfl⟩⟩
      · rw [e1, ByteArray.append_empty]; exact zE
  rintro _ δ _ _ ⟨rfl, rfl⟩
  dsimp only [ovr, List.foldl]
  refine zT (zS (zS (zR (zA rfl ?_)))); refine zN (zT ?_)
  refine XA.join [(38, 44)] (fun _ : Unit => []) (fun _ σ' Γ' => σ = σ' ∧ Γ' = [Wri b (.slice pv vl.length cv) (acc ++ (lpar ++ verbOf op) ++ tv ++ te), blk g3 [i64 op, i64 v, i64 e.op, i64 e.v, i64 e.n, .slice pe e.l.length de, i64 f.op, i64 f.v, i64 f.n, .slice pf f.l.length df, .slice pb body.length cb, .slice pl els.length cl] 56]) ?_ ?_
  · skip
    refine XA.cond rfl (fun hq => ?_) (fun hq => ?_)
    · have e1 : te = sp1 ++ exT vl e := by rw [← hte, optT, if_pos hq]
      obtain ⟨hval, -⟩ := hoke hq
      have hb2 : (acc ++ (lpar ++ verbOf op) ++ tv).size + sp1.size ≤ 1000000000 := by simp only [ByteArray.size_append]; omega
      have hb3 : (acc ++ (lpar ++ verbOf op) ++ tv ++ sp1).size + (exT vl e).size ≤ 1000000 := by rw [e1] at hb; simp only [ByteArray.size_append] at hb ⊢; omega
      have hrec := pexpr_w e σ _ b pv cv vl (acc ++ (lpar ++ verbOf op) ++ tv ++ sp1) hxe hv hval hT hb3
      rw [ByteArray.append_assoc (b := sp1), ← e1] at hrec
      refine zS (zR (zA rfl ?_))
      refine XOA.wr0 rfl (WrA.bs1 (tyrow rfl) rfl (tyrow rfl)) ?_
      rintro _ _ _ ⟨g39, rfl, rfl, rfl⟩
      refine XOA.wr0 rfl (WrA.cE (put1 σ b _ (acc ++ (lpar ++ verbOf op) ++ tv) g39 1 sp1 hb2) rfl) ?_
      rintro _ _ _ ⟨_, ⟨rfl, rfl, rfl⟩, rfl⟩
      refine XOA.cl ?_; refine zN (zT (zR (zA rfl ?_))); refine zV rfl rfl ?_; refine zO rfl (Rd.ldA rfl) ?_
      refine XOA.wr0 rfl (WrA.cE (hrec) rfl) ?_
      rintro _ _ _ ⟨_, ⟨rfl, rfl, rfl⟩, rfl⟩
      refine XOA.cl ?_; refine zN (zT ?_)
      refine ⟨(Keep.updO (Keep.upd (Keep.upd (Keep.upd (Keep.updO (Keep.updO (Keep.upd (Keep.refl _ _) rfl) rfl) rfl) rfl) rfl) rfl) rfl), (), _, zM, ?_, ⟨rfl, rfl⟩⟩
      · exact zE
    · have e1 : te = ByteArray.empty := by rw [← hte, optT, if_neg (by rw [hq]; exact Bool.noConfusion)]
      refine XA.skip (zT ?_)
      refine ⟨(Keep.refl _ _), (), _, zM, ?_, ⟨rfl, rfl⟩⟩
      · rw [e1, ByteArray.append_empty]; exact zE
  rintro _ δ _ _ ⟨rfl, rfl⟩
  dsimp only [ovr, List.foldl]
  refine zT (zS (zS (zR (zA rfl ?_)))); refine zN (zT ?_)
  refine XA.join [(46, 52)] (fun _ : Unit => []) (fun _ σ' Γ' => σ = σ' ∧ Γ' = [Wri b (.slice pv vl.length cv) (acc ++ (lpar ++ verbOf op) ++ tv ++ te ++ tf), blk g3 [i64 op, i64 v, i64 e.op, i64 e.v, i64 e.n, .slice pe e.l.length de, i64 f.op, i64 f.v, i64 f.n, .slice pf f.l.length df, .slice pb body.length cb, .slice pl els.length cl] 56]) ?_ ?_
  · skip
    refine XA.cond rfl (fun hq => ?_) (fun hq => ?_)
    · have e1 : tf = sp1 ++ exT vl f := by rw [← htf, optT, if_pos hq]
      obtain ⟨hval, -⟩ := hokf hq
      have hb2 : (acc ++ (lpar ++ verbOf op) ++ tv ++ te).size + sp1.size ≤ 1000000000 := by simp only [ByteArray.size_append]; omega
      have hb3 : (acc ++ (lpar ++ verbOf op) ++ tv ++ te ++ sp1).size + (exT vl f).size ≤ 1000000 := by rw [e1] at hb; simp only [ByteArray.size_append] at hb ⊢; omega
      have hrec := pexpr_w f σ _ b pv cv vl (acc ++ (lpar ++ verbOf op) ++ tv ++ te ++ sp1) hxf hv hval hT hb3
      rw [ByteArray.append_assoc (b := sp1), ← e1] at hrec
      refine zS (zR (zA rfl ?_))
      refine XOA.wr0 rfl (WrA.bs1 (tyrow rfl) rfl (tyrow rfl)) ?_
      rintro _ _ _ ⟨g47, rfl, rfl, rfl⟩
      refine XOA.wr0 rfl (WrA.cE (put1 σ b _ (acc ++ (lpar ++ verbOf op) ++ tv ++ te) g47 1 sp1 hb2) rfl) ?_
      rintro _ _ _ ⟨_, ⟨rfl, rfl, rfl⟩, rfl⟩
      refine XOA.cl ?_; refine zN (zT (zR (zA rfl ?_))); refine zV rfl rfl ?_; refine zO rfl (Rd.ldA rfl) ?_
      refine XOA.wr0 rfl (WrA.cE (hrec) rfl) ?_
      rintro _ _ _ ⟨_, ⟨rfl, rfl, rfl⟩, rfl⟩
      refine XOA.cl ?_; refine zN (zT ?_)
      refine ⟨(Keep.updO (Keep.upd (Keep.upd (Keep.upd (Keep.updO (Keep.updO (Keep.upd (Keep.refl _ _) rfl) rfl) rfl) rfl) rfl) rfl) rfl), (), _, zM, ?_, ⟨rfl, rfl⟩⟩
      · exact zE
    · have e1 : tf = ByteArray.empty := by rw [← htf, optT, if_neg (by rw [hq]; exact Bool.noConfusion)]
      refine XA.skip (zT ?_)
      refine ⟨(Keep.refl _ _), (), _, zM, ?_, ⟨rfl, rfl⟩⟩
      · rw [e1, ByteArray.append_empty]; exact zE
  rintro _ δ _ _ ⟨rfl, rfl⟩
  dsimp only [ovr, List.foldl]
  refine zT (zS (zS (zR (zA rfl ?_)))); refine zN (zT ?_)
  refine XA.join [(54, 57)] (fun _ : Unit => []) (fun _ σ' Γ' => σ = σ' ∧ Γ' = [Wri b (.slice pv vl.length cv) (acc ++ (lpar ++ verbOf op) ++ tv ++ te ++ tf ++ tb), blk g3 [i64 op, i64 v, i64 e.op, i64 e.v, i64 e.n, .slice pe e.l.length de, i64 f.op, i64 f.v, i64 f.n, .slice pf f.l.length df, .slice pb body.length cb, .slice pl els.length cl] 56]) ?_ ?_
  · skip
    refine XA.cond rfl (fun hq => ?_) (fun hq => ?_)
    · have e1 : tb = sp1 ++ (lpar ++ (stsT vl false body ++ rpar)) := by rw [← htb, optT, if_pos hq]
      have hb3 : (acc ++ (lpar ++ verbOf op) ++ tv ++ te ++ tf).size + (3 + (stsT vl false body).size) ≤ 1000000 := by rw [e1] at hb; simp only [ByteArray.size_append] at hb ⊢; omega
      have hrec := plist_w body ih σ _ _ b pv cv vl (acc ++ (lpar ++ verbOf op) ++ tv ++ te ++ tf) hxb hv hokb hT hb3
      rw [← e1] at hrec
      refine zR (zA rfl ?_); refine zV rfl rfl ?_; refine zB rfl rfl (tyrow rfl) rfl ?_
      refine XOA.wr0 rfl (WrA.cE (hrec) rfl) ?_
      rintro _ _ _ ⟨_, ⟨rfl, rfl, rfl⟩, rfl⟩
      refine XOA.cl ?_; refine zN (zT ?_)
      refine ⟨(Keep.updO (Keep.upd (Keep.upd (Keep.upd (Keep.refl _ _) rfl) rfl) rfl) rfl), (), _, zM, ?_, ⟨rfl, rfl⟩⟩
      · exact zE
    · have e1 : tb = ByteArray.empty := by rw [← htb, optT, if_neg (by rw [hq]; exact Bool.noConfusion)]
      refine XA.skip (zT ?_)
      refine ⟨(Keep.refl _ _), (), _, zM, ?_, ⟨rfl, rfl⟩⟩
      · rw [e1, ByteArray.append_empty]; exact zE
  rintro _ δ _ _ ⟨rfl, rfl⟩
  dsimp only [ovr, List.foldl]
  refine zT (zS (zS (zR (zA rfl ?_)))); refine zN (zT ?_)
  refine XA.join [(59, 62)] (fun _ : Unit => []) (fun _ σ' Γ' => σ = σ' ∧ Γ' = [Wri b (.slice pv vl.length cv) (acc ++ (lpar ++ verbOf op) ++ tv ++ te ++ tf ++ tb ++ to), blk g3 [i64 op, i64 v, i64 e.op, i64 e.v, i64 e.n, .slice pe e.l.length de, i64 f.op, i64 f.v, i64 f.n, .slice pf f.l.length df, .slice pb body.length cb, .slice pl els.length cl] 56]) ?_ ?_
  · skip
    refine XA.cond rfl (fun hq => ?_) (fun hq => ?_)
    · have e1 : to = sp1 ++ (lpar ++ (stsT vl false els ++ rpar)) := by rw [← hto, optT, if_pos hq]
      have hb3 : (acc ++ (lpar ++ verbOf op) ++ tv ++ te ++ tf ++ tb).size + (3 + (stsT vl false els).size) ≤ 1000000 := by rw [e1] at hb; simp only [ByteArray.size_append] at hb ⊢; omega
      have hrec := plist_w els jh σ _ _ b pv cv vl (acc ++ (lpar ++ verbOf op) ++ tv ++ te ++ tf ++ tb) hxl hv hokl hT hb3
      rw [← e1] at hrec
      refine zR (zA rfl ?_); refine zV rfl rfl ?_; refine zB rfl rfl (tyrow rfl) rfl ?_
      refine XOA.wr0 rfl (WrA.cE (hrec) rfl) ?_
      rintro _ _ _ ⟨_, ⟨rfl, rfl, rfl⟩, rfl⟩
      refine XOA.cl ?_; refine zN (zT ?_)
      refine ⟨(Keep.updO (Keep.upd (Keep.upd (Keep.upd (Keep.refl _ _) rfl) rfl) rfl) rfl), (), _, zM, ?_, ⟨rfl, rfl⟩⟩
      · exact zE
    · have e1 : to = ByteArray.empty := by rw [← hto, optT, if_neg (by rw [hq]; exact Bool.noConfusion)]
      refine XA.skip (zT ?_)
      refine ⟨(Keep.refl _ _), (), _, zM, ?_, ⟨rfl, rfl⟩⟩
      · rw [e1, ByteArray.append_empty]; exact zE
  rintro _ δ _ _ ⟨rfl, rfl⟩
  dsimp only [ovr, List.foldl]
  refine zT (zR (zA rfl ?_))
  refine XOA.wr0 rfl (WrA.bs1 (tyrow rfl) rfl (tyrow rfl)) ?_
  rintro _ _ _ ⟨g64, rfl, rfl, rfl⟩
  have hbb : (acc ++ (lpar ++ verbOf op) ++ tv ++ te ++ tf ++ tb ++ to).size + rpar.size ≤ 1000000000 := by simp only [ByteArray.size_append]; omega
  have e3 : acc ++ (lpar ++ verbOf op) ++ tv ++ te ++ tf ++ tb ++ to ++ rpar = acc ++ (lpar ++ (verbOf op ++ (tv ++ (te ++ (tf ++ (tb ++ (to ++ rpar))))))) := by simp only [ByteArray.append_assoc]
  refine XOA.wr0 rfl (WrA.cE (put1 σ b _ (acc ++ (lpar ++ verbOf op) ++ tv ++ te ++ tf ++ tb ++ to) g64 1 rpar hbb) rfl) ?_
  rintro _ _ _ ⟨_, ⟨rfl, rfl, rfl⟩, rfl⟩
  refine XOA.cl ?_
  rw [e3]
  refine zN ?_
  exact bodyA.normal (ResA.none rfl) zE ⟨rfl, rfl, rfl⟩
end Go.Proofs.YthefnnkmpcgcmaaDoor

namespace Go.Proofs.YthefnnkmpcgcmaaDoor
open Go X
set_option maxHeartbeats 1000000
mutual
def ExW (nv : Nat) : Int → Ex → Prop
  | deep, .mk op v n l => deep ≤ 12 ∧ (1 ≤ op ∧ op ≤ 8) ∧ (l.length : Int) = partsOf op ∧ (op = 2 ∨ op = 3 → 0 ≤ v ∧ v < nv) ∧ (¬ (op = 2 ∨ op = 3) → v = 0) ∧ (n ≠ 0 → op = 1) ∧ ExsW nv (deep + 1) l
def ExsW (nv : Nat) : Int → List Ex → Prop
  | _, [] => True
  | deep, x :: l => ExW nv deep x ∧ ExsW nv deep l
end
mutual
def StW (nv : Nat) : Int → St → Prop
  | deep, .mk op v e f body els => deep ≤ 12 ∧ (1 ≤ op ∧ op ≤ 7) ∧ (needV op = true → 0 ≤ v ∧ v < nv) ∧ (needV op = false → v = 0) ∧ (needE op = true → ExW nv (deep + 1) e) ∧ (needE op = false → e = zeroX) ∧ (needF op = true → ExW nv (deep + 1) f) ∧ (needF op = false → f = zeroX) ∧
      (needB op = false → body = []) ∧ (needO op = false → els = []) ∧ StsW nv (deep + 1) body ∧ StsW nv (deep + 1) els
def StsW (nv : Nat) : Int → List St → Prop
  | _, [] => True
  | deep, x :: l => StW nv deep x ∧ StsW nv deep l
end
theorem StsW.of {nv : Nat} {deep : Int} : ∀ {l : List St}, (∀ x ∈ l, StW nv deep x) → StsW nv deep l
  | [], _ => by rw [StsW]; trivial
  | y :: l, h => by rw [StsW]; exact ⟨h y (by simp), StsW.of fun x hx => h x (by simp [hx])⟩
theorem one_all {a d l : Int} (h : (JE.one (.ok a) d) = .ok l) : d ≤ 12 ∧ a ≠ 0 ∧ l = a - 1 := by
  simp only [JE.one] at h
  split at h
  · cases h
  · split at h
    · cases h
    · cases h; exact ⟨by omega, by assumption, rfl⟩
theorem exHead_all {nv deep op v n a b : Int} {k : Nat} (h : exHead nv deep op v n k (.ok a) = .ok b) :
    deep ≤ 12 ∧ (1 ≤ op ∧ op ≤ 8) ∧ (k : Int) = partsOf op ∧ (op = 2 ∨ op = 3 → 0 ≤ v ∧ v < nv) ∧ (¬ (op = 2 ∨ op = 3) → v = 0) ∧ (n ≠ 0 → op = 1) ∧ a ≠ 0 ∧ b = a - 1 := by
  obtain ⟨h1, h2, h3, h4, h5⟩ := exHead_ok h
  rw [exHead, JE.named] at h
  obtain ⟨h, q5⟩ := fail_ok h
  obtain ⟨h, q4⟩ := fail_ok h
  obtain ⟨h, q3⟩ := fail_ok h
  obtain ⟨h, q2⟩ := fail_ok h
  obtain ⟨-, k1, k2⟩ := one_all h
  refine ⟨h1, h2, h3, h4, fun ho => ?_, h5, k1, k2⟩
  simp only [ho, decide_false, Bool.not_false, Bool.true_and, decide_eq_false_iff_not] at q5
  exact Decidable.not_not.1 q5
theorem exsW_of {nv : Nat} : ∀ (l : List Ex), (∀ x ∈ l, ∀ deep a b : Int, 0 ≤ a → exE nv deep x (.ok a) = .ok b → ExW nv deep x ∧ b = a - exN x ∧ 0 ≤ b) → ∀ deep a b : Int, 0 ≤ a → exsE nv deep l (.ok a) = .ok b → ExsW nv deep l ∧ b = a - exsN l ∧ 0 ≤ b
  | [], _, deep, a, b, ha, hx => by rw [exsE] at hx; cases hx; rw [ExsW, exsN]; exact ⟨trivial, by omega, ha⟩
  | x :: l, h, deep, a, b, ha, hx => by
    rw [exsE] at hx
    cases e : exE nv deep x (.ok a) with
    | error c => rw [e, exsE_err] at hx; cases hx
    | ok a1 =>
      rw [e] at hx
      obtain ⟨g1, g2, g3⟩ := h x (by simp) deep a a1 ha e
      obtain ⟨g4, g5, g6⟩ := exsW_of l (fun y hy => h y (by simp [hy])) deep a1 b g3 hx
      rw [ExsW, exsN]
      exact ⟨⟨g1, g4⟩, by omega, g6⟩
theorem exW_of {nv : Nat} (x : Ex) : ∀ deep a b : Int, 0 ≤ a → exE nv deep x (.ok a) = .ok b → ExW nv deep x ∧ b = a - exN x ∧ 0 ≤ b := by
  refine Ex.ind (P := fun x => ∀ deep a b : Int, 0 ≤ a → exE nv deep x (.ok a) = .ok b → ExW nv deep x ∧ b = a - exN x ∧ 0 ≤ b) ?_ x
  intro op v n l ih deep a b ha h
  rw [exE] at h
  cases e : exHead nv deep op v n l.length (.ok a) with
  | error c => rw [e, exsE_err] at h; cases h
  | ok a1 =>
    rw [e] at h
    obtain ⟨g1, g2, g3, g4, g5, g6, g7, g8⟩ := exHead_all e
    obtain ⟨k1, k2, k3⟩ := exsW_of l ih (deep + 1) a1 b (by omega) h
    rw [ExW, exN]
    exact ⟨⟨g1, g2, g3, g4, g5, g6, k1⟩, by omega, k3⟩
theorem noneX_zero {x : Ex} (h : noneX x = true) : x = zeroX := by
  cases x with
  | mk op v n l =>
    have q : op = 0 ∧ v = 0 ∧ n = 0 ∧ l.length = 0 := of_decide_eq_true h
    obtain ⟨rfl, rfl, rfl, q4⟩ := q
    rw [List.eq_nil_of_length_eq_zero q4]; rfl
theorem stHead_all {nv deep op v a b : Int} {e f : Ex} {kb ke : Nat} (h : stHead nv deep op v e f kb ke (.ok a) = .ok b) :
    deep ≤ 12 ∧ (1 ≤ op ∧ op ≤ 7) ∧ (needV op = true → 0 ≤ v ∧ v < nv) ∧ (needV op = false → v = 0) ∧ (needE op = false → e = zeroX) ∧ (needF op = false → f = zeroX) ∧ (needB op = false → kb = 0) ∧ (needO op = false → ke = 0) ∧ a ≠ 0 ∧ b = a - 1 := by
  obtain ⟨h1, h2, h3, h4, h5⟩ := stHead_ok h
  rw [stHead, JE.named] at h
  obtain ⟨h, q5⟩ := fail_ok h
  obtain ⟨h, q4⟩ := fail_ok h
  obtain ⟨h, q3⟩ := fail_ok h
  obtain ⟨h, q2⟩ := fail_ok h
  obtain ⟨-, k1, k2⟩ := one_all h
  simp only [stForm, Bool.or_eq_false_iff, Bool.and_eq_false_imp, Bool.not_eq_true', decide_eq_false_iff_not] at q3
  refine ⟨h1, h2, h3, fun ho => ?_, fun ho => ?_, fun ho => ?_, h4, h5, k1, k2⟩
  · simp only [ho, Bool.not_false, Bool.true_and, decide_eq_false_iff_not] at q5
    exact Decidable.not_not.1 q5
  · have := q3.1.1.1 ho
    exact noneX_zero (by simpa using this)
  · have := q3.1.1.2 ho
    exact noneX_zero (by simpa using this)
theorem exN_zero : exN zeroX = 1 := rfl
theorem stsW_of {nv : Nat} : ∀ (l : List St), (∀ x ∈ l, ∀ deep a b : Int, 0 ≤ a → stE nv deep x (.ok a) = .ok b → StW nv deep x ∧ (stN x : Int) ≤ 3 * (a - b) ∧ 0 ≤ b) → ∀ deep a b : Int, 0 ≤ a → stsE nv deep l (.ok a) = .ok b → StsW nv deep l ∧ (stsN l : Int) ≤ 3 * (a - b) ∧ 0 ≤ b
  | [], _, deep, a, b, ha, hx => by rw [stsE] at hx; cases hx; rw [StsW, stsN]; exact ⟨trivial, by omega, ha⟩
  | x :: l, h, deep, a, b, ha, hx => by
    rw [stsE] at hx
    cases e : stE nv deep x (.ok a) with
    | error c => rw [e, stsE_err] at hx; cases hx
    | ok a1 =>
      rw [e] at hx
      obtain ⟨g1, g2, g3⟩ := h x (by simp) deep a a1 ha e
      obtain ⟨g4, g5, g6⟩ := stsW_of l (fun y hy => h y (by simp [hy])) deep a1 b g3 hx
      rw [StsW, stsN]
      exact ⟨⟨g1, g4⟩, by omega, g6⟩
theorem stW_of {nv : Nat} (x : St) : ∀ deep a b : Int, 0 ≤ a → stE nv deep x (.ok a) = .ok b → StW nv deep x ∧ (stN x : Int) ≤ 3 * (a - b) ∧ 0 ≤ b := by
  refine St.ind (P := fun x => ∀ deep a b : Int, 0 ≤ a → stE nv deep x (.ok a) = .ok b → StW nv deep x ∧ (stN x : Int) ≤ 3 * (a - b) ∧ 0 ≤ b) ?_ x
  intro op v e f body els ih jh deep a b ha h
  rw [stE] at h
  cases e1 : stHead nv deep op v e f body.length els.length (.ok a) with
  | error c => rw [e1, stEF_err, stsE_err, stsE_err] at h; cases h
  | ok a1 =>
    rw [e1] at h
    cases e2 : stEF nv (deep + 1) op e f (.ok a1) with
    | error c => rw [e2, stsE_err, stsE_err] at h; cases h
    | ok a2 =>
      rw [e2] at h
      cases e3 : stsE nv (deep + 1) body (.ok a2) with
      | error c => rw [e3, stsE_err] at h; cases h
      | ok a3 =>
        rw [e3] at h
        obtain ⟨g1, g2, g3, g4, g5, g6, g7, g8, g9, g10⟩ := stHead_all e1
        rw [stEF] at e2
        have hE : ∃ a4, (if needE op = true then exE nv (deep + 1) e (.ok a1) else .ok a1 : JE) = .ok a4 ∧ (needE op = true → ExW nv (deep + 1) e) ∧ (exN e : Int) ≤ a1 - a4 + 1 ∧ a4 ≤ a1 ∧ 0 ≤ a4 := by
          cases hn : needE op with
          | true =>
            cases e4 : exE nv (deep + 1) e (.ok a1) with
            | error c => simp only [hn, e4, if_true, exE_err, ite_self] at e2; cases e2
            | ok a4 =>
              obtain ⟨k1, k2, k3⟩ := exW_of e _ _ _ (by omega) e4
              exact ⟨a4, rfl, fun _ => k1, by omega, by omega, k3⟩
          | false =>
            have hz := g5 hn
            exact ⟨a1, rfl, fun q => (by cases q), by rw [hz, exN_zero]; omega, by omega, by omega⟩
        obtain ⟨a4, hE1, hE2, hE3, hE4, hE5⟩ := hE
        simp only [hE1] at e2
        have hF : (needF op = true → ExW nv (deep + 1) f) ∧ (exN f : Int) ≤ a4 - a2 + 1 ∧ a2 ≤ a4 ∧ 0 ≤ a2 := by
          cases hn : needF op with
          | true =>
            rw [hn, if_pos rfl] at e2
            obtain ⟨k1, k2, k3⟩ := exW_of f _ _ _ (by omega) e2
            exact ⟨fun _ => k1, by omega, by omega, k3⟩
          | false =>
            rw [hn] at e2
            have hz := g6 hn
            have e2 : a4 = a2 := by simpa using e2
            exact ⟨fun q => (by cases q), by rw [hz, exN_zero]; omega, by omega, by omega⟩
        obtain ⟨hF1, hF2, hF3, hF4⟩ := hF
        obtain ⟨hb1, hb2, hb3⟩ := stsW_of body ih (deep + 1) a2 a3 hF4 e3
        obtain ⟨he1, he2, he3⟩ := stsW_of els jh (deep + 1) a3 b hb3 h
        rw [StW, stN]
        exact ⟨⟨g1, g2, g3, g4, hE2, g5, hF1, g6, fun hn => List.eq_nil_of_length_eq_zero (g7 hn), fun hn => List.eq_nil_of_length_eq_zero (g8 hn), hb1, he1⟩, by omega, he3⟩
theorem varsGo_ok : ∀ (l seen : List Va) (n : Int), varsGo seen n l = 0 → (∀ x ∈ l, nameOk x.name = true ∧ 1 ≤ x.size) ∧ (∀ x ∈ l, ∀ w ∈ seen, w.name ≠ x.name) ∧ l.Pairwise (fun a b => a.name ≠ b.name)
  | [], seen, n, _ => ⟨fun x h => by simp at h, fun x h => by simp at h, List.Pairwise.nil⟩
  | v :: l, seen, n, h => by
    rw [varsGo] at h
    split at h
    · cases h
    · split at h
      · cases h
      · split at h
        · cases h
        · rename_i q1 q2 q3
          obtain ⟨g1, g2, g3⟩ := varsGo_ok l (seen ++ [v]) _ h
          refine ⟨fun x hx => ?_, fun x hx w hw => ?_, List.Pairwise.cons (fun x hx => g2 x hx v (by simp)) g3⟩
          · rcases List.mem_cons.1 hx with rfl | hx
            · exact ⟨by simpa using q1, by omega⟩
            · exact g1 x hx
          · rcases List.mem_cons.1 hx with rfl | hx
            · exact fun e => q2 ⟨w, hw, e⟩
            · exact g2 x hx w (by simp [hw])
/-- Of a program that is one. -/
structure PrW (p : Pr) : Prop where
  body : StsW p.vars.length 0 p.body
  count : stsN p.body ≤ 450
  vars : p.vars.length ≤ 8
  names : ∀ x ∈ p.vars, nameOk x.name = true ∧ 1 ≤ x.size ∧ x.size ≤ 48
  apart : p.vars.Pairwise (fun a b => a.name ≠ b.name)
theorem sizes_mem : ∀ (l : List Va), (∀ x ∈ l, 1 ≤ x.size) → (0 ≤ sizes l) ∧ ∀ x ∈ l, x.size ≤ sizes l
  | [], _ => ⟨by simp [sizes], fun x h => by simp at h⟩
  | v :: l, h => by
    obtain ⟨g1, g2⟩ := sizes_mem l (fun x hx => h x (by simp [hx]))
    have hv := h v (by simp)
    have e : sizes (v :: l) = v.size + sizes l := by simp [sizes]
    rw [e]
    refine ⟨by omega, fun x hx => ?_⟩
    rcases List.mem_cons.1 hx with rfl | hx
    · omega
    · have := g2 x hx; omega
theorem check_w {p : Pr} (h : checkP p = 0) : PrW p := by
  obtain ⟨h1, b, h2⟩ := check_ok h
  obtain ⟨g1, g2, g3⟩ := stsW_of p.body (fun x _ => stW_of x) 0 150 b (by decide) h2
  obtain ⟨k1, k2, k3⟩ := check_sizes h1
  rw [checkVars] at h1
  split at h1
  · cases h1
  · obtain ⟨m1, -, m3⟩ := varsGo_ok _ _ _ h1
    have hm := (sizes_mem _ k2).2
    exact ⟨g1, by omega, k1, fun x hx => ⟨(m1 x hx).1, k2 x hx, by have := hm x hx; omega⟩, m3⟩
/-! all numbers have 64 bits -/
mutual
def ExI : Ex → Prop
  | .mk _ _ n l => i64ok n ∧ ExsI l
def ExsI : List Ex → Prop
  | [] => True
  | x :: l => ExI x ∧ ExsI l
end
mutual
def StI : St → Prop
  | .mk _ _ e f body els => ExI e ∧ ExI f ∧ StsI body ∧ StsI els
def StsI : List St → Prop
  | [] => True
  | x :: l => StI x ∧ StsI l
end
theorem ExsI.mem : ∀ {l : List Ex}, ExsI l → ∀ x ∈ l, ExI x
  | [], _, _, h => by simp at h
  | y :: l, h, x, hx => by
    rw [ExsI] at h
    rcases List.mem_cons.1 hx with rfl | hx
    · exact h.1
    · exact ExsI.mem h.2 x hx
theorem ExsI.of : ∀ {l : List Ex}, (∀ x ∈ l, ExI x) → ExsI l
  | [], _ => by rw [ExsI]; trivial
  | y :: l, h => by rw [ExsI]; exact ⟨h y (by simp), ExsI.of fun x hx => h x (by simp [hx])⟩
theorem StsI.mem : ∀ {l : List St}, StsI l → ∀ x ∈ l, StI x
  | [], _, _, h => by simp at h
  | y :: l, h, x, hx => by
    rw [StsI] at h
    rcases List.mem_cons.1 hx with rfl | hx
    · exact h.1
    · exact StsI.mem h.2 x hx
theorem StsI.of : ∀ {l : List St}, (∀ x ∈ l, StI x) → StsI l
  | [], _ => by rw [StsI]; trivial
  | y :: l, h => by rw [StsI]; exact ⟨h y (by simp), StsI.of fun x hx => h x (by simp [hx])⟩
theorem rows_all {α : Type} {rows : List (List Value)} {l : List α} {Q : α → Prop} (h3 : rows.length = l.length) (h : ∀ (i : Nat) (row : List Value) (x : α), rows[i]? = some row → l[i]? = some x → Q x) : ∀ x ∈ l, Q x := by
  intro x hx
  obtain ⟨i, hi, rfl⟩ := List.mem_iff_getElem.1 hx
  exact h i _ _ (List.getElem?_eq_getElem (by omega)) (List.getElem?_eq_getElem hi)
theorem ExAt.i {σ : PH} {cs : List Value} {x : Ex} (h : ExAt σ cs x) : ExI x := by
  induction h with
  | mk rows ho hv hn h1 h2 h3 h4 h5 h6 ih => rw [ExI]; exact ⟨hn, ExsI.of (rows_all h3 ih)⟩
theorem StAt.i {σ : PH} {cs : List Value} {x : St} (h : StAt σ cs x) : StI x := by
  induction h with
  | mk rows qows ho hv he hf h1 h2 h3 h4 h5 h6 g1 g2 g3 g4 g5 g6 ih jh => rw [StI]; exact ⟨he.i, hf.i, StsI.of (rows_all h3 ih), StsI.of (rows_all g3 jh)⟩
theorem PSl.all {α : Type} {s : Nat} {R : RT α} {σ : PH} {sl : Value} {l : List α} {Q : α → Prop} (h : PSl s R σ sl l) (k : ∀ row x, R σ row x → Q x) : ∀ x ∈ l, Q x := by
  obtain ⟨p, c, rows, rfl, h1, h2, h3, h4, h5, h6⟩ := h
  exact rows_all h3 fun i row x a b => k row x (h5 i row x a b)
theorem PrAt.i {σ : PH} {cs : List Value} {p : Pr} (h : PrAt σ cs p) : StsI p.body := by
  obtain ⟨vs, bs, -, -, hb⟩ := h
  exact StsI.of (PSl.all hb fun _ _ h => h.i)
/-! how long the text is -/
theorem nameAt_le {vl : List Va} (h : ∀ x ∈ vl, nameOk x.name = true) (v : Int) : (nameAt vl v).size ≤ 8 := by
  rw [nameAt]
  cases e : vl[v.toNat]? with
  | none => exact Nat.zero_le _
  | some w => exact (nameOk_iff (h w (List.mem_of_getElem? e))).2.2
theorem word_le (k : Int) : (wordOf k).size ≤ 4 := by
  rw [wordOf]
  split
  · have hop : k = 1 ∨ k = 2 ∨ k = 3 ∨ k = 4 ∨ k = 5 ∨ k = 6 ∨ k = 7 ∨ k = 8 := by omega
    rcases hop with rfl | rfl | rfl | rfl | rfl | rfl | rfl | rfl <;> decide
  · decide
theorem verb_le (k : Int) : (verbOf k).size ≤ 6 := by
  rw [verbOf]
  split
  · have hop : k = 1 ∨ k = 2 ∨ k = 3 ∨ k = 4 ∨ k = 5 ∨ k = 6 ∨ k = 7 := by omega
    rcases hop with rfl | rfl | rfl | rfl | rfl | rfl | rfl <;> decide
  · decide
theorem headT_le {vl : List Va} (h : ∀ x ∈ vl, nameOk x.name = true) (op v : Int) {n : Int} (hn : i64ok n) : (headT vl op v n).size ≤ 22 := by
  have h1 := nameAt_le h v
  have h2 := itoaS_le hn
  have h3 : sp1.size = 1 := rfl
  rw [headT]
  split
  · rw [ByteArray.size_append]; omega
  · split
    · rw [ByteArray.size_append]; omega
    · exact Nat.zero_le _
theorem optT_le (b : Bool) (t : ByteArray) : (optT b t).size ≤ t.size := by
  rw [optT]; split
  · exact Nat.le_refl _
  · exact Nat.zero_le _
theorem exsT_le {vl : List Va} : ∀ (l : List Ex), (∀ x ∈ l, (exT vl x).size + 1 ≤ 30 * exN x) → (exsT vl l).size ≤ 30 * exsN l
  | [], _ => by rw [exsT]; exact Nat.zero_le _
  | x :: l, h => by
    have h1 := h x (by simp)
    have h2 := exsT_le l (fun y hy => h y (by simp [hy]))
    have h3 : sp1.size = 1 := rfl
    rw [exsT, exsN, ByteArray.size_append, ByteArray.size_append]; omega
theorem exT_le {vl : List Va} (hv : ∀ x ∈ vl, nameOk x.name = true) (x : Ex) : ExI x → (exT vl x).size + 1 ≤ 30 * exN x := by
  refine Ex.ind (P := fun x => ExI x → (exT vl x).size + 1 ≤ 30 * exN x) ?_ x
  intro op v n l ih hi
  rw [ExI] at hi
  have h1 := exsT_le (vl := vl) l (fun x hx => ih x hx (hi.2.mem x hx))
  have h2 := headT_le hv op v hi.1
  have h3 := word_le op
  rw [exT, exN]
  simp only [ByteArray.size_append]
  rw [show lpar.size = 1 from rfl, show rpar.size = 1 from rfl]
  omega
theorem stsT_le {vl : List Va} : ∀ (l : List St) (b : Bool), (∀ x ∈ l, (stT vl x).size + 1 ≤ 30 * stN x) → (stsT vl b l).size ≤ 30 * stsN l
  | [], b, _ => by rw [stsT]; exact Nat.zero_le _
  | x :: l, b, h => by
    have h1 := h x (by simp)
    have h2 := stsT_le l true (fun y hy => h y (by simp [hy]))
    have h3 := optT_le b sp1
    rw [show sp1.size = 1 from rfl] at h3
    rw [stsT, stsN, ByteArray.size_append, ByteArray.size_append]; omega
theorem stT_le {vl : List Va} (hv : ∀ x ∈ vl, nameOk x.name = true) (x : St) : StI x → (stT vl x).size + 1 ≤ 30 * stN x := by
  refine St.ind (P := fun x => StI x → (stT vl x).size + 1 ≤ 30 * stN x) ?_ x
  intro op v e f body els ih jh hi
  rw [StI] at hi
  obtain ⟨i1, i2, i3, i4⟩ := hi
  have h1 := exT_le hv e i1
  have h2 := exT_le hv f i2
  have h3 := stsT_le (vl := vl) body false (fun x hx => ih x hx (i3.mem x hx))
  have h4 := stsT_le (vl := vl) els false (fun x hx => jh x hx (i4.mem x hx))
  have h5 := verb_le op
  have h6 := nameAt_le hv v
  have o1 := optT_le (needV op) (sp1 ++ nameAt vl v)
  have o2 := optT_le (needE op) (sp1 ++ exT vl e)
  have o3 := optT_le (needF op) (sp1 ++ exT vl f)
  have o4 := optT_le (needB op) (sp1 ++ (lpar ++ (stsT vl false body ++ rpar)))
  have o5 := optT_le (needO op) (sp1 ++ (lpar ++ (stsT vl false els ++ rpar)))
  simp only [ByteArray.size_append, show lpar.size = 1 from rfl, show rpar.size = 1 from rfl, show sp1.size = 1 from rfl] at o1 o2 o3 o4 o5
  rw [stT, stN]
  simp only [ByteArray.size_append, show lpar.size = 1 from rfl, show rpar.size = 1 from rfl]
  omega
theorem bodyT_le {vl : List Va} (hv : ∀ x ∈ vl, nameOk x.name = true) : ∀ (l : List St), StsI l → (bodyT vl l).size ≤ 30 * stsN l
  | [], _ => by rw [bodyT]; exact Nat.zero_le _
  | x :: l, h => by
    rw [StsI] at h
    have h1 := stT_le hv x h.1
    have h2 := bodyT_le hv l h.2
    rw [bodyT, stsN]
    simp only [ByteArray.size_append, show nl1.size = 1 from rfl]
    omega
theorem varsT_le : ∀ (l : List Va), (∀ x ∈ l, nameOk x.name = true ∧ 1 ≤ x.size ∧ x.size ≤ 48) → (varsT l).size ≤ 35 * l.length
  | [], _ => by rw [varsT]; exact Nat.zero_le _
  | x :: l, h => by
    obtain ⟨g1, g2, g3⟩ := h x (by simp)
    have h2 := varsT_le l (fun y hy => h y (by simp [hy]))
    have h3 := (nameOk_iff g1).2.2
    have h4 := itoaS_le (n := x.size) ⟨by omega, by omega⟩
    rw [varsT, varT, List.length_cons]
    simp only [ByteArray.size_append, show nl1.size = 1 from rfl, show sp1.size = 1 from rfl, show kwLet.size = 3 from rfl]
    omega
theorem prT_le {p : Pr} (h : PrW p) (hi : StsI p.body) : (varsT p.vars).size ≤ 280 ∧ (bodyT p.vars p.body).size ≤ 13500 := by
  have h1 := varsT_le p.vars h.names
  have h2 := bodyT_le (fun x hx => (h.names x hx).1) p.body hi
  have h3 := h.count
  have h4 := h.vars
  omega
end Go.Proofs.YthefnnkmpcgcmaaDoor

namespace Go.Proofs
open Go.Shelf
def Tryd.laysM171_ren : Go.Shelf.Ren := ⟨fun | 171 => 27 | 243 => 50 | 246 => 78 | 283 => 99 | 284 => 100 | 285 => 101 | 286 => 102 | 129 => 110 | 317 => 109 | 318 => 111 | 319 => 112 | 320 => 113 | 337 => 118 | 338 => 119 | n => n, fun | 3 => 3 | 9 => 9 | 2 => 2 | 4 => 4 | 171 => 135 | 0 => 0 | 53 => 136 | 37 => 61 | 5 => 5 | 173 => 139 | 212 => 148 | 51 => 149 | 20 => 20 | 213 => 150 | 46 => 46 | 232 => 161 | 233 => 162 | n => n, fun | 17 => 0 | 18 => 3 | 19 => 4 | n => n⟩
theorem Tryd.laysM171 : Go.Proofs.LaysM.n171 Tryd.prog Tryd.laysM171_ren := {
  mixed := by kernel_rfl
  f129 := Tryd.func110.trans (congrArg some (by kernel_rfl))
  f171 := Tryd.func27.trans (congrArg some (by kernel_rfl))
  f243 := Tryd.func50.trans (congrArg some (by kernel_rfl))
  f246 := Tryd.func78.trans (congrArg some (by kernel_rfl))
  f283 := Tryd.func99.trans (congrArg some (by kernel_rfl))
  f284 := Tryd.func100.trans (congrArg some (by kernel_rfl))
  f285 := Tryd.func101.trans (congrArg some (by kernel_rfl))
  f286 := Tryd.func102.trans (congrArg some (by kernel_rfl))
  f317 := Tryd.func109.trans (congrArg some (by kernel_rfl))
  f318 := Tryd.func111.trans (congrArg some (by kernel_rfl))
  f319 := Tryd.func112.trans (congrArg some (by kernel_rfl))
  f320 := Tryd.func113.trans (congrArg some (by kernel_rfl))
  f337 := Tryd.func118.trans (congrArg some (by kernel_rfl))
  f338 := Tryd.func119.trans (congrArg some (by kernel_rfl))
  t0 := Tryd.underlying0
  a0 := Tryd.isAgg0
  z0 := Tryd.sizeOf0
  v0 := Tryd.zeroValue0
  t2 := Tryd.underlying2
  a2 := Tryd.isAgg2
  z2 := Tryd.sizeOf2
  v2 := Tryd.zeroValue2
  t3 := Tryd.underlying3
  a3 := Tryd.isAgg3
  z3 := Tryd.sizeOf3
  v3 := Tryd.zeroValue3
  t4 := Tryd.underlying4
  a4 := Tryd.isAgg4
  z4 := Tryd.sizeOf4
  v4 := Tryd.zeroValue4
  t5 := Tryd.underlying5
  a5 := Tryd.isAgg5
  z5 := Tryd.sizeOf5
  v5 := Tryd.zeroValue5
  t9 := Tryd.underlying9
  a9 := Tryd.isAgg9
  z9 := Tryd.sizeOf9
  v9 := Tryd.zeroValue9
  t20 := Tryd.underlying20
  a20 := Tryd.isAgg20
  z20 := Tryd.sizeOf20
  v20 := Tryd.zeroValue20
  t37 := Tryd.underlying61
  a37 := Tryd.isAgg61
  z37 := Tryd.sizeOf61
  v37 := Tryd.zeroValue61
  t46 := Tryd.underlying46
  a46 := Tryd.isAgg46
  z46 := Tryd.sizeOf46
  v46 := Tryd.zeroValue46
  t51 := Tryd.underlying149
  a51 := Tryd.isAgg149
  z51 := Tryd.sizeOf149
  v51 := Tryd.zeroValue149
  t53 := Tryd.underlying136
  a53 := Tryd.isAgg136
  z53 := Tryd.sizeOf136
  v53 := Tryd.zeroValue136
  t171 := Tryd.underlying135
  a171 := Tryd.isAgg135
  z171 := Tryd.sizeOf135
  v171 := Tryd.zeroValue135
  t173 := Tryd.underlying139
  a173 := Tryd.isAgg139
  z173 := Tryd.sizeOf139
  v173 := Tryd.zeroValue139
  t212 := Tryd.underlying148
  a212 := Tryd.isAgg148
  z212 := Tryd.sizeOf148
  v212 := Tryd.zeroValue148
  t213 := Tryd.underlying150
  a213 := Tryd.isAgg150
  z213 := Tryd.sizeOf150
  t232 := Tryd.underlying161
  a232 := Tryd.isAgg161
  z232 := Tryd.sizeOf161
  v232 := Tryd.zeroValue161
  t233 := Tryd.underlying162
  a233 := Tryd.isAgg162
  z233 := Tryd.sizeOf162
  v233 := Tryd.zeroValue162
  g17 := by kernel_rfl
  g18 := by kernel_rfl
  g19 := by kernel_rfl
  i0 := by kernel_rfl
  i2 := by kernel_rfl
  i3 := by kernel_rfl
  i4 := by kernel_rfl
  i5 := by kernel_rfl
  i9 := by kernel_rfl
  i20 := by kernel_rfl
  i37 := by kernel_rfl
  i46 := by kernel_rfl
  i51 := by kernel_rfl
  i53 := by kernel_rfl
  i171 := by kernel_rfl
  i173 := by kernel_rfl
  i212 := by kernel_rfl
  i232 := by kernel_rfl
  i233 := by kernel_rfl
  m17 := by kernel_rfl
  m18 := by kernel_rfl
  m19 := by kernel_rfl }
open Go.RowKit Go.Sort Go.Lib in
theorem Tryd.strconv_Itoa (n : Int) (h0 : -9223372036854775808 ≤ n) (h1 : n ≤ 9223372036854775807) (w : World) (htab : Lib.TabIs Tryd.prog w "internal/strconv.uint64pow10" .u64 Lib.pow10Tab) :
    Calls Tryd.prog 27 #[.int .i64 n] w fun e w' => e = .returned (.string ⟨(Lib.itoa n).toArray⟩) ∧ ∃ k os, w' = grow (w.drewN k) os := Any.strconv_Itoa Tryd.laysM171 n h0 h1 w htab
end Go.Proofs

namespace Go.Proofs.YthefnnkmpcgcmaaDoor
open Go X
set_option maxHeartbeats 4000000
theorem itoa_i (σ : PH) (n : Int) (h0 : -9223372036854775808 ≤ n) (h1 : n ≤ 9223372036854775807) (hT : Tab σ) :
    CallsA Tryd.prog 27 #[i64 n] σ [] (RetA fun v σ' Γ' => v = .string (itoaS n) ∧ σ = σ' ∧ Γ' = []) := by
  refine CallsA.below (enters Tryd.func27 rfl rfl) fun w hw => ?_
  refine (Tryd.strconv_Itoa n h0 h1 w (hT w hw)).mono ?_
  rintro e w' ⟨rfl, k, os, rfl⟩
  exact ⟨_, rfl, rfl, grow_below w k os⟩
def printP (p : Pr) : PErr ByteArray := if checkP p ≠ 0 then .error (checkP p, -1) else if 6000 < (prT p).size then .error (3, -1) else .ok (prT p)
def okB : PErr ByteArray → ByteArray | .error _ => ByteArray.empty | .ok s => s
theorem Bld.new {T : TypeId} {b : Nat} {vs : List Value} : ∀ m, blk b (nptr false b :: .slice none 0 0 :: vs) T m → Bld T b vs ByteArray.empty m := fun m h =>
  ⟨false, none, 0, fun _ => ⟨rfl, rfl⟩, m, PH.none, h, ⟨PH.none, PH.none, lst_nil _ _ _, trivial, PH.none_dis _, .refl _, .refl _⟩, PH.none_dis m, .refl m, PH.none_sub m⟩
theorem varsT_step {l : List Va} {k : Nat} {x : Va} (h : l[k]? = some x) : varsT (l.take (k + 1)) = varsT (l.take k) ++ varT x := by
  rw [List.take_add_one, h, Option.toList_some, varsT_app, varsT, varsT, ByteArray.append_empty]
theorem varsT_cut {l : List Va} {k : Nat} {x : Va} (h : l[k]? = some x) : (varsT (l.take k)).size + (varT x).size ≤ (varsT l).size := by
  have e1 : varsT l = varsT (l.take (k + 1)) ++ varsT (l.drop (k + 1)) := by rw [← varsT_app, List.take_append_drop]
  rw [e1, varsT_step h]; simp only [ByteArray.size_append]; omega
theorem bodyT_step (vl : List Va) {l : List St} {k : Nat} {x : St} (h : l[k]? = some x) : bodyT vl (l.take (k + 1)) = bodyT vl (l.take k) ++ (stT vl x ++ nl1) := by
  rw [List.take_add_one, h, Option.toList_some, bodyT_app, bodyT, bodyT, ByteArray.append_empty]
theorem bodyT_cut (vl : List Va) {l : List St} {k : Nat} {x : St} (h : l[k]? = some x) : (bodyT vl (l.take k)).size + ((stT vl x).size + 1) ≤ (bodyT vl l).size := by
  have e1 : bodyT vl l = bodyT vl (l.take (k + 1)) ++ bodyT vl (l.drop (k + 1)) := by rw [← bodyT_app, List.take_append_drop]
  rw [e1, bodyT_step vl h]; simp only [ByteArray.size_append, show nl1.size = 1 from rfl]; omega
section
variable (σ : PH) (b : Nat) (v : Value) (acc : ByteArray) (g c : Nat)
theorem put5 (s1 s2 s3 s4 s5 : ByteArray) (hb : acc.size + (s1 ++ (s2 ++ (s3 ++ (s4 ++ s5)))).size ≤ 1000000000) : CallsA Tryd.prog 26 #[ptr b, .slice (some ⟨g, 0, none⟩) 5 c] σ [Wri b v acc, blk g [.string s1, .string s2, .string s3, .string s4, .string s5] 9] (RetA fun r σ' Γ' => r = .tuple #[] ∧ σ = σ' ∧ Γ' = [Wri b v (acc ++ (s1 ++ (s2 ++ (s3 ++ (s4 ++ s5)))))]) := by
  have e : catL [s1, s2, s3, s4, s5] = s1 ++ (s2 ++ (s3 ++ (s4 ++ s5))) := by simp only [catL, ByteArray.append_empty]
  have := put_w σ b v acc [s1, s2, s3, s4, s5] g c (by rw [e]; exact hb) (by simp)
  rwa [e] at this
end
theorem print_w (σ : PH) (cs : List Value) (pr : Pr) (hp : PrAt σ cs pr) (hT : Tab σ) :
    CallsA Tryd.prog 13 #[.agg cs.toArray] σ [] (RetA fun v σ' Γ' => v = .tuple #[.string (okB (printP pr)), .agg #[i64 (errC (printP pr)), i64 (errA (printP pr))]] ∧ σ = σ' ∧ Γ' = []) := by
  have hp0 := hp
  obtain ⟨vs, bs, rfl, hv, hb⟩ := hp
  obtain ⟨pv, cv, rfl, hv1, hv2⟩ := hv.shape
  obtain ⟨pb, cb, rfl, hb1, hb2⟩ := hb.shape
  have hlv : pr.vars.length ≤ maxLen := by omega
  have hlb : pr.body.length ≤ maxLen := by omega
  simp only [maxLen] at hlv hlb
  have hchk := check_a σ _ pr hp0
  by_cases hc : checkP pr ≠ 0
  · have e : printP pr = .error (checkP pr, -1) := by rw [printP, if_pos hc]
    rw [e]
    refine enterA1 Tryd.func13 rfl rfl rfl ?_
    refine zS (zR ?_)
    refine XOA.wr0 rfl WrA.bx ?_
    rintro _ _ _ ⟨g1, rfl, rfl, rfl⟩
    refine zO rfl Rd.asg ?_
    refine XOA.wr0 rfl (WrA.alloc (tyrow rfl)) ?_
    rintro _ _ _ ⟨g3, rfl, rfl, rfl⟩
    refine zN (zT (zS (zS (zR (zO rfl (Rd.ldA rfl) ?_)))))
    refine XOA.wr0 rfl (WrA.cE (hchk) rfl) ?_
    rintro _ _ _ ⟨_, ⟨rfl, rfl, rfl⟩, rfl⟩
    refine XOA.cl ?_; refine zO rfl Rd.asg ?_; refine zN (zT (zS (zR (zA rfl ?_)))); refine zO rfl (Rd.neq rfl rfl) ?_; refine zN (zT (XA.condT rfl (by first | rfl | exact decide_eq_true hc) ?_)); refine zS (zR (zA rfl ?_))
    refine zO rfl (Rd.bl (fun _ _ => tyrow) rfl rfl rfl) ?_
    refine zO rfl Rd.asg ?_
    refine XOA.wr0 rfl (WrA.st (tyrow rfl) rfl) ?_
    rintro _ _ _ ⟨rfl, rfl, rfl⟩
    refine zN (zT (XA.ret (DA.thn_ret ?_)))
    exact bodyA.ret (ResA.tcT rfl rfl rfl (Ld.atBlk (tyrow rfl) rfl zL rfl (by first | exact take0 (by first | rfl | assumption | (refine (ints_len _).trans ?_; assumption) | (simp [*]; (first | done | fail))) | assumption | exact take_app (by first | rfl | assumption | (refine (ints_len _).trans ?_; assumption) | (simp [*]; (first | done | fail))) | (conv => lhs; simp only [List.drop_succ_cons, List.drop_zero, List.take_succ_cons, List.take_zero])) (by first | rfl | assumption | (refine (ints_len _).trans ?_; assumption) | (simp [*]; (first | done | fail))))) (Ent.nil _) ⟨rfl, rfl, rfl⟩
  have hc0 : checkP pr = 0 := by omega
  have hw := check_w hc0
  have hi := hp0.i
  obtain ⟨hz1, hz2⟩ := prT_le hw hi
  have hok := (check_valid hc0).1
  have elet : (⟨#[108, 101, 116, 32]⟩ : ByteArray) = kwLet ++ sp1 := by decide
  refine enterA1 Tryd.func13 rfl rfl rfl ?_
  refine zS (zR ?_)
  refine XOA.wr0 rfl WrA.bx ?_
  rintro _ _ _ ⟨g1, rfl, rfl, rfl⟩
  refine zO rfl Rd.asg ?_
  refine XOA.wr0 rfl (WrA.alloc (tyrow rfl)) ?_
  rintro _ _ _ ⟨g3, rfl, rfl, rfl⟩
  refine zN (zT (zS (zS (zR (zO rfl (Rd.ldA rfl) ?_)))))
  refine XOA.wr0 rfl (WrA.cE (hchk) rfl) ?_
  rintro _ _ _ ⟨_, ⟨rfl, rfl, rfl⟩, rfl⟩
  refine XOA.cl ?_; refine zO rfl Rd.asg ?_; refine zN (zT (zS (zR (zA rfl ?_)))); refine zO rfl (Rd.neq rfl rfl) ?_; refine zN (zT (XA.condF rfl (by first | rfl | exact decide_eq_false hc) ?_)); refine XA.skip (zT (zS (zR (zV rfl rfl ?_)))); refine zB rfl rfl (tyrow rfl) rfl ?_
  refine zO rfl (Rd.bl (fun _ _ => tyrow) rfl rfl rfl) ?_
  refine XOA.wr0 rfl WrA.bx ?_
  rintro _ _ _ ⟨g19, rfl, rfl, rfl⟩
  refine zO rfl Rd.asg ?_; refine zN (zT (zS (zS (zR (zV rfl rfl ?_))))); refine zB rfl rfl (tyrow rfl) rfl ?_; refine zO rfl (Rd.lenSlice (tyrow rfl) rfl rfl) ?_; refine zA rfl ?_; refine zN (zT (XA.block ?_))
  refine XA.ent (Ent.imp (R := blk g19 [.pointer none, .slice none 0 0, .slice pv pr.vars.length cv] 65) (S := Wri g19 (.slice pv pr.vars.length cv) ByteArray.empty) zL Bld.new (Ent.refl _)) ?_
  refine XA.gen [(1, _), (2, _), (3, _), (5, _), (21, _), (22, _), (23, _)] ⟨(by with_reducible (conv => lhs; whnf)), (by with_reducible (conv => lhs; whnf)), (by with_reducible (conv => lhs; whnf)), (by with_reducible (conv => lhs; whnf)), (by with_reducible (conv => lhs; whnf)), (by with_reducible (conv => lhs; whnf)), (by with_reducible (conv => lhs; whnf)), trivial⟩ (fun δ => ?_)
  dsimp only [List.foldl]
  refine XA.loop [(7, 7), (23, 35)] (fun k : Nat => [(23, i64 k)]) (fun k σ' Γ' => σ = σ' ∧ k ≤ pr.vars.length ∧ Γ' = [Wri g19 (.slice pv pr.vars.length cv) (varsT (pr.vars.take k)), blk g3 [i64 0, i64 0] 30, blk g1 [.slice pv pr.vars.length cv, .slice pb pr.body.length cb] 25]) (fun k => pr.vars.length - k) 0 (by exact ⟨rfl, trivial⟩) (Δ0 := _) ?_ (⟨rfl, Nat.zero_le _, by rw [List.take_zero, varsT]⟩) ?_
  · exact zE
  rintro k δ _ _ ⟨rfl, hk, rfl⟩
  dsimp only [ovr, List.foldl]
  have hk : k ≤ pr.vars.length := hk
  by_cases hlt : k < pr.vars.length
  · obtain ⟨w, hw'⟩ : ∃ w, pr.vars[k]? = some w := ⟨_, List.getElem?_eq_getElem hlt⟩
    obtain ⟨gg, o, row, rfl, ⟨rfl, -, -⟩, -, hrow⟩ := hv.at hw'
    obtain ⟨n1, n2, n3⟩ := hw.names w (List.mem_of_getElem? hw')
    have hcut := varsT_cut hw'
    have hsn := varsT_step hw'
    have evar : (⟨#[108, 101, 116, 32]⟩ : ByteArray) ++ (w.name ++ ((⟨#[32]⟩ : ByteArray) ++ (itoaS w.size ++ (⟨#[10]⟩ : ByteArray)))) = varT w := by rw [elet, varT, ByteArray.append_assoc]; rfl
    have hput := fun g => put5 σ g19 (.slice (some ⟨gg, o, none⟩) pr.vars.length cv) (varsT (pr.vars.take k)) g 5 (⟨#[108, 101, 116, 32]⟩ : ByteArray) w.name (⟨#[32]⟩ : ByteArray) (itoaS w.size) (⟨#[10]⟩ : ByteArray) (by rw [evar]; omega)
    rw [evar, ← hsn] at hput
    refine zS (zR (zO rfl (Rd.lss rfl rfl) ?_)); refine zN (zT (zS (XA.condT rfl (by first | rfl | exact decide_eq_true (by omega)) ?_))); refine XA.skip (zT (zS (XA.block (zS (zR (zO rfl (Rd.ixS rfl rfl) ?_)))))); refine zO rfl (Rd.ldA rfl) ?_
    refine XOA.wr0 rfl (WrA.alloc (tyrow rfl)) ?_
    rintro _ _ _ ⟨g7, rfl, rfl, rfl⟩
    refine XOA.wr0 rfl (WrA.st (tyrow rfl) rfl) ?_
    rintro _ _ _ ⟨rfl, rfl, rfl⟩
    refine zN (zT ?_)
    refine XA.draw (by kernel_rfl) _ _ [6, 7] [(0, .pu), (1, .pu), (2, .rd), (3, .pu), (4, .rd), (5, .wr), (6, .wr), (7, .wr)] (by kernel_rfl) (PH.sub.refl _) (Ent.sel (R := blk g7 _ _) zL (Ent.nil _)) ?_
    refine XPA.pu rfl rfl Gd.free Rd.mv ?_; refine XPA.pu rfl rfl Gd.free (Rd.fA rfl) ?_; refine XPA.rd rfl rfl Gd.free (Rd.ldC rfl (tyrow rfl) rfl) ?_; refine XPA.pu rfl rfl Gd.free (Rd.fA rfl) ?_; refine XPA.rd rfl rfl Gd.free (Rd.ldC rfl (tyrow rfl) rfl) ?_
    refine XPA.wr0 rfl rfl Gd.free (WrA.cE (itoa_i σ w.size (by omega) (by omega) hT) rfl) ?_
    rintro _ _ _ ⟨_, ⟨rfl, rfl, rfl⟩, rfl⟩
    refine stays (XPA.cl ?_)
    refine XPA.wrZ0 rfl rfl Gd.free (by kernel_rfl) (WrA.bs (fun _ _ => tyrow) rfl rfl rfl rfl rfl) ?_
    rintro _ _ _ ⟨g33, rfl, rfl, rfl⟩
    refine XPA.wrZ0 rfl rfl Gd.free (by kernel_rfl) (WrA.cE (hput g33) rfl) ?_
    rintro _ _ _ ⟨_, ⟨rfl, rfl, rfl⟩, rfl⟩
    refine XPA.cl ?_; refine XPA.nil ?_; refine DA.inb_normal (zT (zR (zO rfl zI ?_))); refine zA rfl ?_; refine zN (zT ?_)
    refine ⟨(Keep.upd (Keep.upd (Keep.updO (Keep.updO (Keep.updO (Keep.upd (Keep.upd (Keep.upd (Keep.upd (Keep.upd (Keep.updN (Keep.updO (Keep.upd (Keep.upd (Keep.upd (Keep.upd (Keep.hav (Keep.hav (Keep.refl _ _) rfl) rfl) rfl) rfl) rfl) rfl) rfl)) rfl) rfl) rfl) rfl) rfl) rfl) rfl) rfl) rfl) rfl), k + 1, _, zM, ?_, ⟨rfl, hlt, rfl⟩, (by omega)⟩
    · exact zE
  have e : pr.vars.take k = pr.vars := List.take_of_length_le (by omega)
  rw [e]
  refine zS (zR (zO rfl (Rd.lss rfl rfl) ?_)); refine zN (zT (zS (XA.condF rfl (by first | rfl | exact decide_eq_false (by omega)) ?_))); refine XA.exit (DA.thn_exit (DA.thn_exit (DA.inb_same (zT (zS (zS (zR (zV rfl rfl ?_)))))))); refine zB rfl rfl (tyrow rfl) rfl ?_
  refine zO rfl (Rd.lenSlice (tyrow rfl) rfl rfl) ?_; refine zA rfl ?_; refine zN (zT (XA.block ?_))
  refine XA.gen [(2, _), (3, _), (5, _), (37, _), (38, _), (39, _)] ⟨(by with_reducible (conv => lhs; whnf)), (by with_reducible (conv => lhs; whnf)), (by with_reducible (conv => lhs; whnf)), (by with_reducible (conv => lhs; whnf)), (by with_reducible (conv => lhs; whnf)), (by with_reducible (conv => lhs; whnf)), trivial⟩ (fun δ => ?_)
  dsimp only [List.foldl]
  refine XA.loop [(9, 9), (39, 49)] (fun k : Nat => [(39, i64 k)]) (fun k σ' Γ' => σ = σ' ∧ k ≤ pr.body.length ∧ Γ' = [Wri g19 (.slice pv pr.vars.length cv) (varsT pr.vars ++ bodyT pr.vars (pr.body.take k)), blk g3 [i64 0, i64 0] 30]) (fun k => pr.body.length - k) 0 (by exact ⟨rfl, trivial⟩) (Δ0 := _) ?_ (⟨rfl, Nat.zero_le _, by rw [List.take_zero, bodyT, ByteArray.append_empty]⟩) ?_
  · exact zE
  rintro k δ _ _ ⟨rfl, hk, rfl⟩
  dsimp only [ovr, List.foldl]
  have hk : k ≤ pr.body.length := hk
  by_cases hlt : k < pr.body.length
  · obtain ⟨x', hx'⟩ : ∃ x', pr.body[k]? = some x' := ⟨_, List.getElem?_eq_getElem hlt⟩
    obtain ⟨gg, o, row, rfl, hrx, hrl, hrow⟩ := hb.at hx'
    have hone := hrx.ones
    have hcut := bodyT_cut pr.vars hx'
    have hsn := bodyT_step pr.vars hx'
    have hm := List.mem_of_getElem? hx'
    have hrec := pst_w x' σ row g19 pv cv pr.vars (varsT pr.vars ++ bodyT pr.vars (pr.body.take k)) hrx hv (hok.mem x' hm) hT (by rw [ByteArray.size_append]; omega)
    have hput := fun g => put1 σ g19 (.slice pv pr.vars.length cv) (varsT pr.vars ++ bodyT pr.vars (pr.body.take k) ++ stT pr.vars x') g 1 nl1 (by simp only [ByteArray.size_append, show nl1.size = 1 from rfl]; omega)
    have e3 : varsT pr.vars ++ bodyT pr.vars (pr.body.take k) ++ stT pr.vars x' ++ nl1 = varsT pr.vars ++ bodyT pr.vars (pr.body.take (k + 1)) := by rw [hsn]; simp only [ByteArray.append_assoc]
    rw [e3] at hput
    refine zS (zR (zO rfl (Rd.lss rfl rfl) ?_)); refine zN (zT (zS (XA.condT rfl (by first | rfl | exact decide_eq_true (by omega)) ?_))); refine XA.skip (zT (zS (XA.block (zS (zR (zO rfl (Rd.ixS rfl rfl) ?_)))))); refine zO rfl (Rd.ldA rfl) ?_
    refine XOA.wr0 rfl (WrA.alloc (tyrow rfl)) ?_
    rintro _ _ _ ⟨g9, rfl, rfl, rfl⟩
    refine XOA.wr0 rfl (WrA.st (tyrow rfl) rfl) ?_
    rintro _ _ _ ⟨rfl, rfl, rfl⟩
    refine zN (zT (zS (zR (zA rfl ?_)))); refine zO rfl (Rd.ldA rfl) ?_
    refine XOA.wr0 rfl (WrA.cE (hrec) rfl) ?_
    rintro _ _ _ ⟨_, ⟨rfl, rfl, rfl⟩, rfl⟩
    refine XOA.cl ?_; refine zN (zT (zR (zA rfl ?_)))
    refine XOA.wr0 rfl (WrA.bs1 (tyrow rfl) rfl (tyrow rfl)) ?_
    rintro _ _ _ ⟨g47, rfl, rfl, rfl⟩
    refine XOA.wr0 rfl (WrA.cE (hput g47) rfl) ?_
    rintro _ _ _ ⟨_, ⟨rfl, rfl, rfl⟩, rfl⟩
    refine XOA.cl ?_; refine zN (DA.inb_normal (zT (zR (zO rfl zI ?_)))); refine zA rfl ?_; refine zN (zT ?_)
    refine ⟨(Keep.upd (Keep.upd (Keep.updO (Keep.updO (Keep.upd (Keep.updO (Keep.upd (Keep.upd (Keep.updN (Keep.updO (Keep.upd (Keep.upd (Keep.upd (Keep.upd (Keep.hav (Keep.hav (Keep.refl _ _) rfl) rfl) rfl) rfl) rfl) rfl) rfl)) rfl) rfl) rfl) rfl) rfl) rfl) rfl) rfl), k + 1, _, zM, ?_, ⟨rfl, hlt, rfl⟩, (by omega)⟩
    · exact zE
  have e : pr.body.take k = pr.body := List.take_of_length_le (by omega)
  rw [e]
  have hT2 : varsT pr.vars ++ bodyT pr.vars pr.body = prT pr := rfl
  rw [hT2]
  refine zS (zR (zO rfl (Rd.lss rfl rfl) ?_)); refine zN (zT (zS (XA.condF rfl (by first | rfl | exact decide_eq_false (by omega)) ?_))); refine XA.exit (DA.thn_exit (DA.thn_exit (DA.inb_same (zT (zS (zS (zR (zA rfl ?_)))))))); refine zO rfl (Rd.nilCheck rfl) ?_; refine zV rfl rfl ?_
  refine XOA.wr0 rfl (WrA.cE (len_b σ 65 g19 _ (prT pr)) rfl) ?_
  rintro _ _ _ ⟨_, ⟨rfl, rfl, rfl⟩, rfl⟩
  refine XOA.cl ?_; refine zO rfl (Rd.gtr rfl rfl) ?_; refine zN (zT ?_)
  by_cases h6 : 6000 < (prT pr).size
  · have e : printP pr = .error (3, -1) := by rw [printP, if_neg hc, if_pos h6]
    rw [e]
    refine XA.condT rfl (by first | rfl | exact decide_eq_true (by omega)) ?_; refine zS (zR ?_)
    refine zO rfl (Rd.bl (fun _ _ => tyrow) rfl rfl rfl) ?_
    refine zO rfl Rd.asg ?_
    refine XOA.wr0 rfl (WrA.st (tyrow rfl) rfl) ?_
    rintro _ _ _ ⟨rfl, rfl, rfl⟩
    refine zN (zT (XA.ret (DA.thn_ret ?_)))
    exact bodyA.ret (ResA.tcT rfl rfl rfl (Ld.atBlk (tyrow rfl) rfl zL rfl (by first | exact take0 (by first | rfl | assumption | (refine (ints_len _).trans ?_; assumption) | (simp [*]; (first | done | fail))) | assumption | exact take_app (by first | rfl | assumption | (refine (ints_len _).trans ?_; assumption) | (simp [*]; (first | done | fail))) | (conv => lhs; simp only [List.drop_succ_cons, List.drop_zero, List.take_succ_cons, List.take_zero])) (by first | rfl | assumption | (refine (ints_len _).trans ?_; assumption) | (simp [*]; (first | done | fail))))) (Ent.nil _) ⟨rfl, rfl, rfl⟩
  · have e : printP pr = .ok (prT pr) := by rw [printP, if_neg hc, if_neg h6]
    rw [e]
    refine XA.condF rfl (by first | rfl | exact decide_eq_false (by omega)) ?_; refine XA.skip (zT (zS (zR (zA rfl ?_)))); refine zO rfl (Rd.nilCheck rfl) ?_; refine zV rfl rfl ?_
    refine XOA.wr0 rfl (WrA.cE (string_b σ 65 g19 _ (prT pr)) rfl) ?_
    rintro _ _ _ ⟨_, ⟨rfl, rfl, q, sl, rfl⟩, rfl⟩
    refine XOA.cl ?_
    refine zO rfl (Rd.bl (fun _ _ => tyrow) rfl rfl rfl) ?_
    refine zO rfl Rd.asg ?_
    refine XOA.wr0 rfl (WrA.st (tyrow rfl) rfl) ?_
    rintro _ _ _ ⟨rfl, rfl, rfl⟩
    refine zN (zT (XA.ret ?_))
    exact bodyA.ret (ResA.tcT rfl rfl rfl (Ld.atBlk (tyrow rfl) rfl zL rfl (by first | exact take0 (by first | rfl | assumption | (refine (ints_len _).trans ?_; assumption) | (simp [*]; (first | done | fail))) | assumption | exact take_app (by first | rfl | assumption | (refine (ints_len _).trans ?_; assumption) | (simp [*]; (first | done | fail))) | (conv => lhs; simp only [List.drop_succ_cons, List.drop_zero, List.take_succ_cons, List.take_zero])) (by first | rfl | assumption | (refine (ints_len _).trans ?_; assumption) | (simp [*]; (first | done | fail))))) (Ent.nil _) ⟨rfl, rfl, rfl⟩
end Go.Proofs.YthefnnkmpcgcmaaDoor

namespace Go.Proofs.YthefnnkmpcgcmaaDoor
open Go X
set_option maxHeartbeats 4000000
def RTstOK (x : St) : Prop := ∀ (σ : PH) (cs : List Value) (pv : Option Addr) (cv : Nat) (vl : List Va) (bs : Value), StAt σ cs x → PSl 2 rVa σ (.slice pv vl.length cv) vl → StV vl.length x → Tab σ → (stT vl x).size ≤ 1000000 →
  CallsA Tryd.prog 31 #[.agg #[.slice pv vl.length cv, bs], .agg cs.toArray] σ [] (RetA fun r σ' Γ' => r = .string (stT vl x) ∧ σ = σ' ∧ Γ' = [])
def RTliOK (l : List St) : Prop := ∀ (σ : PH) (p : Option Addr) (c : Nat) (pv : Option Addr) (cv : Nat) (vl : List Va) (bs : Value), PSl 12 StAt σ (.slice p l.length c) l → PSl 2 rVa σ (.slice pv vl.length cv) vl → StsV vl.length l → Tab σ → (stsT vl false l).size ≤ 1000000 →
  CallsA Tryd.prog 57 #[.agg #[.slice pv vl.length cv, bs], .slice p l.length c] σ [] (RetA fun r σ' Γ' => r = .string (lpar ++ (stsT vl false l ++ rpar)) ∧ σ = σ' ∧ Γ' = [])
theorem rlist_w (l : List St) (ih : ∀ x ∈ l, RTstOK x) : RTliOK l := by
  intro σ p c pv cv vl bs hl hv hok hT hb
  have hlen : l.length ≤ maxLen := by
    obtain ⟨q, d, e1, h1, h2⟩ := hl.shape
    omega
  simp only [maxLen] at hlen
  have hs1 : sp1.size = 1 := rfl
  refine enterA2 Tryd.func57 rfl rfl rfl ?_
  refine zS (zR ?_)
  refine XOA.wr0 rfl WrA.bx ?_
  rintro _ _ _ ⟨g2, rfl, rfl, rfl⟩
  refine zO rfl Rd.asg ?_; refine zN (zT (zS (zR (zO rfl Rd.asg ?_)))); refine zN (zT (zS (zS (zR (zO rfl Rd.asg ?_))))); refine zN (zT (XA.block ?_))
  refine XA.gen [(1, _), (2, _), (4, _), (5, _), (6, _)] ⟨(by with_reducible (conv => lhs; whnf)), (by with_reducible (conv => lhs; whnf)), (by with_reducible (conv => lhs; whnf)), (by with_reducible (conv => lhs; whnf)), (by with_reducible (conv => lhs; whnf)), trivial⟩ (fun δ => ?_)
  dsimp only [List.foldl]
  refine XA.loop [(5, 24)] (fun x : Nat × ByteArray => [(6, i64 x.1), (5, .string x.2)]) (fun x σ' Γ' => σ = σ' ∧ x.1 ≤ l.length ∧ x.2 = lpar ++ stsT vl false (l.take x.1) ∧ Γ' = [blk g2 [.slice pv vl.length cv, bs] 25]) (fun x => l.length - x.1) (0, lpar) (by exact ⟨rfl, rfl, trivial⟩) (Δ0 := _) ?_ (⟨rfl, Nat.zero_le _, by rw [List.take_zero, stsT, ByteArray.append_empty], rfl⟩) ?_
  · exact zE
  rintro ⟨k, s⟩ δ _ _ ⟨rfl, hk, hs, rfl⟩
  dsimp only [ovr, List.foldl]
  simp only at hk hs
  by_cases hlt : k < l.length
  · obtain ⟨x', hx'⟩ : ∃ x', l[k]? = some x' := ⟨_, List.getElem?_eq_getElem hlt⟩
    obtain ⟨g, o, row, rfl, hrx, hrl, hrow⟩ := hl.at hx'
    have hcut := stsT_cut vl hx'
    have hsn := stsT_step vl hx'
    have hm := List.mem_of_getElem? hx'
    have hsz : s.size = 1 + (stsT vl false (l.take k)).size := by rw [hs, ByteArray.size_append]; rfl
    have hrec := ih x' hm σ row pv cv vl bs hrx hv (hok.mem x' hm) hT (by omega)
    obtain ⟨pe, de, pf, df, pb, cb, pq, cq, rfl, -⟩ := hrx.inv12
    have e3 : s ++ optT (decide (0 < k)) sp1 ++ stT vl x' = lpar ++ stsT vl false (l.take (k + 1)) := by rw [hsn, hs]; simp only [ByteArray.append_assoc]
    refine zS (zS (zR (zA rfl ?_))); refine zA rfl ?_; refine zO rfl (Rd.lenSlice (tyrow rfl) rfl rfl) ?_; refine zO rfl (Rd.lss rfl rfl) ?_; refine zN (zT (XA.condT rfl (by first | rfl | exact decide_eq_true (by omega)) ?_)); refine XA.skip (zT (zS (XA.block (zS (zS (zR (zA rfl ?_)))))))
    refine zO rfl (Rd.gtr rfl rfl) ?_; refine zN (zT ?_)
    refine XA.join [(5, 5), (15, 16)] (fun _ : Unit => [(5, .string (s ++ optT (decide (0 < k)) sp1))]) (fun _ σ' Γ' => σ = σ' ∧ Γ' = [blk g2 [.slice pv vl.length cv, bs] 25]) ?_ ?_
    · skip
      refine XA.condp rfl (fun h0 => ?_) (fun h0 => ?_)
      · have e1 : optT (decide (0 < k)) sp1 = sp1 := by rw [optT, if_pos (decide_eq_true (by omega))]
        rw [e1]
        refine zR (zA rfl ?_)
        refine zO rfl (X.Rd.catStr rfl rfl (by show s.size + 1 ≤ _; omega)) ?_
        refine zO rfl Rd.asg ?_; refine zN (zT ?_)
        refine ⟨(Keep.upd (Keep.upd (Keep.upd (Keep.refl _ _) rfl) rfl) rfl), (), _, zM, ?_, ⟨rfl, rfl⟩⟩
        · exact zE
      · have e1 : optT (decide (0 < k)) sp1 = ByteArray.empty := by rw [optT, if_neg (by rw [decide_eq_true_eq]; omega)]
        rw [e1, ByteArray.append_empty]
        refine XA.skip (zT ?_)
        refine ⟨(Keep.refl _ _), (), _, zM, ?_, ⟨rfl, rfl⟩⟩
        · exact zE
    rintro _ δ _ _ ⟨rfl, rfl⟩
    dsimp only [ovr, List.foldl]
    refine zT ?_
    refine XA.draw (by kernel_rfl) _ _ [6] [(0, .pu), (1, .rd), (2, .pu), (3, .pu), (4, .pu), (5, .rd), (6, .wr), (7, .pu), (8, .pu)] (by kernel_rfl) (PH.sub.refl _) (Ent.sel (R := blk g2 _ _) zL (Ent.nil _)) ?_
    refine XPA.pu rfl rfl Gd.free Rd.mv ?_; refine XPA.rd rfl rfl Gd.free (Rd.ldA rfl) ?_; refine XPA.pu rfl rfl Gd.free Rd.mv ?_; refine XPA.pu rfl rfl Gd.free Rd.mv ?_; refine XPA.pu rfl rfl Gd.free (Rd.ixS rfl rfl) ?_; refine XPA.rd rfl rfl Gd.free (Rd.ldA rfl) ?_
    refine XPA.wrZ0 rfl rfl Gd.free (by kernel_rfl) (WrA.cE (hrec) rfl) ?_
    rintro _ _ _ ⟨_, ⟨rfl, rfl, rfl⟩, rfl⟩
    refine XPA.cl ?_
    refine XPA.pu rfl rfl Gd.free (X.Rd.catStr rfl rfl (by show (s ++ optT (decide (0 < k)) sp1).size + (stT vl x').size ≤ _; rw [ByteArray.size_append]; omega)) ?_
    refine XPA.pu rfl rfl Gd.free Rd.asg ?_; refine XPA.nil ?_; refine DA.inb_normal (zT (zR (zA rfl ?_))); refine zO rfl zI ?_; refine zO rfl Rd.asg ?_; refine zN (zT ?_)
    refine ⟨(Keep.upd (Keep.upd (Keep.upd (Keep.upd (Keep.upd (Keep.updO (Keep.upd (Keep.upd (Keep.upd (Keep.upd (Keep.upd (Keep.upd (Keep.upd (Keep.hav (Keep.hav (Keep.upd (Keep.upd (Keep.upd (Keep.upd (Keep.upd (Keep.upd (Keep.upd (Keep.upd (Keep.hav (Keep.refl _ _) rfl) rfl) rfl) rfl) rfl) rfl) rfl) rfl) rfl) rfl) rfl) rfl) rfl) rfl) rfl) rfl) rfl) rfl) rfl) rfl) rfl) rfl) rfl) rfl), (k + 1, s ++ optT (decide (0 < k)) sp1 ++ stT vl x'), _, zM, ?_, ⟨rfl, hlt, e3, rfl⟩, (by omega)⟩
    · exact zE
  · have e : l.take k = l := List.take_of_length_le (by omega)
    rw [e] at hs
    have hsz : s.size = 1 + (stsT vl false l).size := by rw [hs, ByteArray.size_append]; rfl
    have e3 : s ++ rpar = lpar ++ (stsT vl false l ++ rpar) := by rw [hs, ByteArray.append_assoc]
    refine zS (zS (zR (zA rfl ?_))); refine zA rfl ?_; refine zO rfl (Rd.lenSlice (tyrow rfl) rfl rfl) ?_; refine zO rfl (Rd.lss rfl rfl) ?_; refine zN (zT (XA.condF rfl (by first | rfl | exact decide_eq_false (by omega)) ?_))
    refine XA.exit (DA.thn_exit (DA.thn_exit (DA.inb_same (zT (zS (zR (zA rfl ?_)))))))
    refine zO rfl (X.Rd.catStr rfl rfl (by show s.size + 1 ≤ _; omega)) ?_
    refine zO rfl Rd.asg ?_; refine zN (zT (XA.ret ?_))
    exact bodyA.ret (ResA.one rfl rfl) (Ent.nil _) ⟨congrArg Value.string e3, rfl, rfl⟩
theorem rneed (σ : PH) (op : Int) (c : Nat) (q : Bool) (h : hasByte (needs op) c = q) : CallsA Tryd.prog 55 #[i64 op, .int .u8 c] σ [] (RetA fun v σ' Γ' => v = .bool q ∧ σ = σ' ∧ Γ' = []) := h ▸ rneeded_a σ op c
theorem rst_w (x : St) : RTstOK x := by
  refine St.ind (P := RTstOK) ?_ x
  intro op v e f body els ih jh σ cs pv cv vl bs hx hv hok hT hb
  obtain ⟨pe, de, pf, df, pb, cb, pl, cl, rfl, ho, hvv, hxe, hxf, hxb, hxl⟩ := hx.inv12
  simp only [St.op, St.v, St.e, St.f, St.body, St.els] at hxe hxf hxb hxl ho hvv ⊢
  clear hx
  rw [StV] at hok
  obtain ⟨h7, hvar, hoke, hokf, -, -, hokb, hokl⟩ := hok
  obtain ⟨need1, need2, need3, need4, need5⟩ := need_op op
  have hlp : lpar.size = 1 := rfl
  have hrp : rpar.size = 1 := rfl
  have hs1 : sp1.size = 1 := rfl
  obtain ⟨tv, htv⟩ : ∃ t, optT (needV op) (sp1 ++ nameAt vl v) = t := ⟨_, rfl⟩
  obtain ⟨te, hte⟩ : ∃ t, optT (needE op) (sp1 ++ exT vl e) = t := ⟨_, rfl⟩
  obtain ⟨tf, htf⟩ : ∃ t, optT (needF op) (sp1 ++ exT vl f) = t := ⟨_, rfl⟩
  obtain ⟨tb, htb⟩ : ∃ t, optT (needB op) (sp1 ++ (lpar ++ (stsT vl false body ++ rpar))) = t := ⟨_, rfl⟩
  obtain ⟨to, hto⟩ : ∃ t, optT (needO op) (sp1 ++ (lpar ++ (stsT vl false els ++ rpar))) = t := ⟨_, rfl⟩
  have hE : stT vl (.mk op v e f body els) = lpar ++ (verbOf op ++ (tv ++ (te ++ (tf ++ (tb ++ (to ++ rpar)))))) := by rw [stT, htv, hte, htf, htb, hto]
  rw [hE] at hb ⊢
  simp only [ByteArray.size_append] at hb
  refine enterA2 Tryd.func31 rfl rfl rfl ?_
  refine zS (zR ?_)
  refine XOA.wr0 rfl WrA.bx ?_
  rintro _ _ _ ⟨g2, rfl, rfl, rfl⟩
  refine XOA.wr0 rfl WrA.bx ?_
  rintro _ _ _ ⟨g3, rfl, rfl, rfl⟩
  refine zO rfl Rd.asg ?_; refine zN (zT (zS (zR (zV rfl rfl ?_)))); refine zB rfl rfl (tyrow rfl) rfl ?_
  refine XOA.wr0 rfl (WrA.cE (rverb_p σ op) rfl) ?_
  rintro _ _ _ ⟨_, ⟨rfl, rfl, rfl⟩, rfl⟩
  refine XOA.cl ?_
  refine zO rfl (X.Rd.catStr rfl rfl (by show 1 + (verbOf op).size ≤ _; omega)) ?_
  refine zO rfl Rd.asg ?_; refine zN (zT (zS (zS (zR (zV rfl rfl ?_))))); refine zB rfl rfl (tyrow rfl) rfl ?_
  refine XOA.wr0 rfl (WrA.cE (rneed σ op 118 _ need3) rfl) ?_
  rintro _ _ _ ⟨_, ⟨rfl, rfl, rfl⟩, rfl⟩
  refine XOA.cl ?_; refine zN (zT ?_)
  refine XA.join [(5, 5), (13, 22)] (fun _ : Unit => [(5, .string (lpar ++ verbOf op ++ tv))]) (fun _ σ' Γ' => σ = σ' ∧ Γ' = [blk g2 [.slice pv vl.length cv, bs] 25, blk g3 [i64 op, i64 v, i64 e.op, i64 e.v, i64 e.n, .slice pe e.l.length de, i64 f.op, i64 f.v, i64 f.n, .slice pf f.l.length df, .slice pb body.length cb, .slice pl els.length cl] 56]) ?_ ?_
  · skip
    refine XA.cond rfl (fun hq => ?_) (fun hq => ?_)
    · obtain ⟨hv0, hv1⟩ := hvar hq
      obtain ⟨k, rfl⟩ : ∃ k : Nat, v = k := ⟨v.toNat, by omega⟩
      have hkl : k < vl.length := by omega
      obtain ⟨w, hw⟩ : ∃ w, vl[k]? = some w := ⟨vl[k], by simp [hkl]⟩
      obtain ⟨gg, o, row, rfl, ⟨rfl, -, -⟩, -, hrow⟩ := hv.at hw
      have a0 : PRow σ gg (o + k * 2) [.string w.name] := hrow.sub (j := 0) rfl
      have e1 : tv = sp1 ++ w.name := by rw [← htv, optT, if_pos hq, nameAt_get hw]
      have hlt : (0 : Int) ≤ k ∧ (k : Int) < (vl.length : Nat) := ⟨by omega, by omega⟩
      rw [e1]
      refine zR (zA rfl ?_); refine zV rfl rfl ?_; refine zB rfl rfl (tyrow rfl) rfl ?_; refine zV rfl rfl ?_; refine zB rfl rfl (tyrow rfl) rfl ?_; refine zO rfl (Rd.ixS rfl rfl) ?_; refine zV rfl rfl ?_; refine zB rfl rfl (tyrow rfl) rfl ?_
      refine zO rfl (X.Rd.catStr rfl rfl (by show 1 + (w.name).size ≤ _; rw [e1] at hb; simp only [ByteArray.size_append] at hb ⊢; omega)) ?_
      refine zO rfl (X.Rd.catStr rfl rfl (by show (lpar ++ verbOf op).size + (sp1 ++ w.name).size ≤ _; rw [e1] at hb; simp only [ByteArray.size_append] at hb ⊢; omega)) ?_
      refine zO rfl Rd.asg ?_; refine zN (zT ?_)
      refine ⟨(Keep.upd (Keep.upd (Keep.upd (Keep.upd (Keep.upd (Keep.upd (Keep.upd (Keep.upd (Keep.upd (Keep.upd (Keep.upd (Keep.refl _ _) rfl) rfl) rfl) rfl) rfl) rfl) rfl) rfl) rfl) rfl) rfl), (), _, zM, ?_, ⟨rfl, rfl⟩⟩
      · exact zE
    · have e1 : tv = ByteArray.empty := by rw [← htv, optT, if_neg (by rw [hq]; exact Bool.noConfusion)]
      rw [e1, ByteArray.append_empty]
      refine XA.skip (zT ?_)
      refine ⟨(Keep.refl _ _), (), _, zM, ?_, ⟨rfl, rfl⟩⟩
      · exact zE
  rintro _ δ _ _ ⟨rfl, rfl⟩
  dsimp only [ovr, List.foldl]
  refine zT (zS (zS (zR (zV rfl rfl ?_)))); refine zB rfl rfl (tyrow rfl) rfl ?_
  refine XOA.wr0 rfl (WrA.cE (rneed σ op 101 _ need1) rfl) ?_
  rintro _ _ _ ⟨_, ⟨rfl, rfl, rfl⟩, rfl⟩
  refine XOA.cl ?_; refine zN (zT ?_)
  refine XA.join [(5, 5), (26, 32)] (fun _ : Unit => [(5, .string (lpar ++ verbOf op ++ tv ++ te))]) (fun _ σ' Γ' => σ = σ' ∧ Γ' = [blk g2 [.slice pv vl.length cv, bs] 25, blk g3 [i64 op, i64 v, i64 e.op, i64 e.v, i64 e.n, .slice pe e.l.length de, i64 f.op, i64 f.v, i64 f.n, .slice pf f.l.length df, .slice pb body.length cb, .slice pl els.length cl] 56]) ?_ ?_
  · skip
    refine XA.cond rfl (fun hq => ?_) (fun hq => ?_)
    · have e1 : te = sp1 ++ exT vl e := by rw [← hte, optT, if_pos hq]
      obtain ⟨hval, -⟩ := hoke hq
      have hb3 : (exT vl e).size ≤ 1000000 := by rw [e1] at hb; simp only [ByteArray.size_append] at hb ⊢; omega
      have hrec := rexpr_w e σ _ pv cv vl bs hxe hv hval hT hb3
      rw [e1]
      refine zR (zA rfl ?_); refine zO rfl (Rd.ldA rfl) ?_; refine zV rfl rfl ?_; refine zO rfl (Rd.ldA rfl) ?_
      refine XOA.wr0 rfl (WrA.cE (hrec) rfl) ?_
      rintro _ _ _ ⟨_, ⟨rfl, rfl, rfl⟩, rfl⟩
      refine XOA.cl ?_
      refine zO rfl (X.Rd.catStr rfl rfl (by show 1 + (exT vl e).size ≤ _; rw [e1] at hb; simp only [ByteArray.size_append] at hb ⊢; omega)) ?_
      refine zO rfl (X.Rd.catStr rfl rfl (by show (lpar ++ verbOf op ++ tv).size + (sp1 ++ exT vl e).size ≤ _; rw [e1] at hb; simp only [ByteArray.size_append] at hb ⊢; omega)) ?_
      refine zO rfl Rd.asg ?_; refine zN (zT ?_)
      refine ⟨(Keep.upd (Keep.upd (Keep.upd (Keep.updO (Keep.upd (Keep.upd (Keep.upd (Keep.upd (Keep.refl _ _) rfl) rfl) rfl) rfl) rfl) rfl) rfl) rfl), (), _, zM, ?_, ⟨rfl, rfl⟩⟩
      · exact zE
    · have e1 : te = ByteArray.empty := by rw [← hte, optT, if_neg (by rw [hq]; exact Bool.noConfusion)]
      rw [e1, ByteArray.append_empty]
      refine XA.skip (zT ?_)
      refine ⟨(Keep.refl _ _), (), _, zM, ?_, ⟨rfl, rfl⟩⟩
      · exact zE
  rintro _ δ _ _ ⟨rfl, rfl⟩
  dsimp only [ovr, List.foldl]
  refine zT (zS (zS (zR (zV rfl rfl ?_)))); refine zB rfl rfl (tyrow rfl) rfl ?_
  refine XOA.wr0 rfl (WrA.cE (rneed σ op 102 _ need2) rfl) ?_
  rintro _ _ _ ⟨_, ⟨rfl, rfl, rfl⟩, rfl⟩
  refine XOA.cl ?_; refine zN (zT ?_)
  refine XA.join [(5, 5), (36, 42)] (fun _ : Unit => [(5, .string (lpar ++ verbOf op ++ tv ++ te ++ tf))]) (fun _ σ' Γ' => σ = σ' ∧ Γ' = [blk g2 [.slice pv vl.length cv, bs] 25, blk g3 [i64 op, i64 v, i64 e.op, i64 e.v, i64 e.n, .slice pe e.l.length de, i64 f.op, i64 f.v, i64 f.n, .slice pf f.l.length df, .slice pb body.length cb, .slice pl els.length cl] 56]) ?_ ?_
  · skip
    refine XA.cond rfl (fun hq => ?_) (fun hq => ?_)
    · have e1 : tf = sp1 ++ exT vl f := by rw [← htf, optT, if_pos hq]
      obtain ⟨hval, -⟩ := hokf hq
      have hb3 : (exT vl f).size ≤ 1000000 := by rw [e1] at hb; simp only [ByteArray.size_append] at hb ⊢; omega
      have hrec := rexpr_w f σ _ pv cv vl bs hxf hv hval hT hb3
      rw [e1]
      refine zR (zA rfl ?_); refine zO rfl (Rd.ldA rfl) ?_; refine zV rfl rfl ?_; refine zO rfl (Rd.ldA rfl) ?_
      refine XOA.wr0 rfl (WrA.cE (hrec) rfl) ?_
      rintro _ _ _ ⟨_, ⟨rfl, rfl, rfl⟩, rfl⟩
      refine XOA.cl ?_
      refine zO rfl (X.Rd.catStr rfl rfl (by show 1 + (exT vl f).size ≤ _; rw [e1] at hb; simp only [ByteArray.size_append] at hb ⊢; omega)) ?_
      refine zO rfl (X.Rd.catStr rfl rfl (by show (lpar ++ verbOf op ++ tv ++ te).size + (sp1 ++ exT vl f).size ≤ _; rw [e1] at hb; simp only [ByteArray.size_append] at hb ⊢; omega)) ?_
      refine zO rfl Rd.asg ?_; refine zN (zT ?_)
      refine ⟨(Keep.upd (Keep.upd (Keep.upd (Keep.updO (Keep.upd (Keep.upd (Keep.upd (Keep.upd (Keep.refl _ _) rfl) rfl) rfl) rfl) rfl) rfl) rfl) rfl), (), _, zM, ?_, ⟨rfl, rfl⟩⟩
      · exact zE
    · have e1 : tf = ByteArray.empty := by rw [← htf, optT, if_neg (by rw [hq]; exact Bool.noConfusion)]
      rw [e1, ByteArray.append_empty]
      refine XA.skip (zT ?_)
      refine ⟨(Keep.refl _ _), (), _, zM, ?_, ⟨rfl, rfl⟩⟩
      · exact zE
  rintro _ δ _ _ ⟨rfl, rfl⟩
  dsimp only [ovr, List.foldl]
  refine zT (zS (zS (zR (zV rfl rfl ?_)))); refine zB rfl rfl (tyrow rfl) rfl ?_
  refine XOA.wr0 rfl (WrA.cE (rneed σ op 98 _ need4) rfl) ?_
  rintro _ _ _ ⟨_, ⟨rfl, rfl, rfl⟩, rfl⟩
  refine XOA.cl ?_; refine zN (zT ?_)
  refine XA.join [(5, 5), (46, 52)] (fun _ : Unit => [(5, .string (lpar ++ verbOf op ++ tv ++ te ++ tf ++ tb))]) (fun _ σ' Γ' => σ = σ' ∧ Γ' = [blk g2 [.slice pv vl.length cv, bs] 25, blk g3 [i64 op, i64 v, i64 e.op, i64 e.v, i64 e.n, .slice pe e.l.length de, i64 f.op, i64 f.v, i64 f.n, .slice pf f.l.length df, .slice pb body.length cb, .slice pl els.length cl] 56]) ?_ ?_
  · skip
    refine XA.cond rfl (fun hq => ?_) (fun hq => ?_)
    · have e1 : tb = sp1 ++ (lpar ++ (stsT vl false body ++ rpar)) := by rw [← htb, optT, if_pos hq]
      have hb3 : (stsT vl false body).size ≤ 1000000 := by rw [e1] at hb; simp only [ByteArray.size_append] at hb ⊢; omega
      have hrec := rlist_w body ih σ _ _ pv cv vl bs hxb hv hokb hT hb3
      rw [e1]
      refine zR (zA rfl ?_); refine zO rfl (Rd.ldA rfl) ?_; refine zV rfl rfl ?_; refine zB rfl rfl (tyrow rfl) rfl ?_
      refine XOA.wr0 rfl (WrA.cE (hrec) rfl) ?_
      rintro _ _ _ ⟨_, ⟨rfl, rfl, rfl⟩, rfl⟩
      refine XOA.cl ?_
      refine zO rfl (X.Rd.catStr rfl rfl (by show 1 + ((lpar ++ (stsT vl false body ++ rpar))).size ≤ _; rw [e1] at hb; simp only [ByteArray.size_append] at hb ⊢; omega)) ?_
      refine zO rfl (X.Rd.catStr rfl rfl (by show (lpar ++ verbOf op ++ tv ++ te ++ tf).size + (sp1 ++ (lpar ++ (stsT vl false body ++ rpar))).size ≤ _; rw [e1] at hb; simp only [ByteArray.size_append] at hb ⊢; omega)) ?_
      refine zO rfl Rd.asg ?_; refine zN (zT ?_)
      refine ⟨(Keep.upd (Keep.upd (Keep.upd (Keep.updO (Keep.upd (Keep.upd (Keep.upd (Keep.upd (Keep.refl _ _) rfl) rfl) rfl) rfl) rfl) rfl) rfl) rfl), (), _, zM, ?_, ⟨rfl, rfl⟩⟩
      · exact zE
    · have e1 : tb = ByteArray.empty := by rw [← htb, optT, if_neg (by rw [hq]; exact Bool.noConfusion)]
      rw [e1, ByteArray.append_empty]
      refine XA.skip (zT ?_)
      refine ⟨(Keep.refl _ _), (), _, zM, ?_, ⟨rfl, rfl⟩⟩
      · exact zE
  rintro _ δ _ _ ⟨rfl, rfl⟩
  dsimp only [ovr, List.foldl]
  refine zT (zS (zS (zR (zV rfl rfl ?_)))); refine zB rfl rfl (tyrow rfl) rfl ?_
  refine XOA.wr0 rfl (WrA.cE (rneed σ op 111 _ need5) rfl) ?_
  rintro _ _ _ ⟨_, ⟨rfl, rfl, rfl⟩, rfl⟩
  refine XOA.cl ?_; refine zN (zT ?_)
  refine XA.join [(5, 5), (56, 62)] (fun _ : Unit => [(5, .string (lpar ++ verbOf op ++ tv ++ te ++ tf ++ tb ++ to))]) (fun _ σ' Γ' => σ = σ' ∧ Γ' = [blk g2 [.slice pv vl.length cv, bs] 25, blk g3 [i64 op, i64 v, i64 e.op, i64 e.v, i64 e.n, .slice pe e.l.length de, i64 f.op, i64 f.v, i64 f.n, .slice pf f.l.length df, .slice pb body.length cb, .slice pl els.length cl] 56]) ?_ ?_
  · skip
    refine XA.cond rfl (fun hq => ?_) (fun hq => ?_)
    · have e1 : to = sp1 ++ (lpar ++ (stsT vl false els ++ rpar)) := by rw [← hto, optT, if_pos hq]
      have hb3 : (stsT vl false els).size ≤ 1000000 := by rw [e1] at hb; simp only [ByteArray.size_append] at hb ⊢; omega
      have hrec := rlist_w els jh σ _ _ pv cv vl bs hxl hv hokl hT hb3
      rw [e1]
      refine zR (zA rfl ?_); refine zO rfl (Rd.ldA rfl) ?_; refine zV rfl rfl ?_; refine zB rfl rfl (tyrow rfl) rfl ?_
      refine XOA.wr0 rfl (WrA.cE (hrec) rfl) ?_
      rintro _ _ _ ⟨_, ⟨rfl, rfl, rfl⟩, rfl⟩
      refine XOA.cl ?_
      refine zO rfl (X.Rd.catStr rfl rfl (by show 1 + ((lpar ++ (stsT vl false els ++ rpar))).size ≤ _; rw [e1] at hb; simp only [ByteArray.size_append] at hb ⊢; omega)) ?_
      refine zO rfl (X.Rd.catStr rfl rfl (by show (lpar ++ verbOf op ++ tv ++ te ++ tf ++ tb).size + (sp1 ++ (lpar ++ (stsT vl false els ++ rpar))).size ≤ _; rw [e1] at hb; simp only [ByteArray.size_append] at hb ⊢; omega)) ?_
      refine zO rfl Rd.asg ?_; refine zN (zT ?_)
      refine ⟨(Keep.upd (Keep.upd (Keep.upd (Keep.updO (Keep.upd (Keep.upd (Keep.upd (Keep.upd (Keep.refl _ _) rfl) rfl) rfl) rfl) rfl) rfl) rfl) rfl), (), _, zM, ?_, ⟨rfl, rfl⟩⟩
      · exact zE
    · have e1 : to = ByteArray.empty := by rw [← hto, optT, if_neg (by rw [hq]; exact Bool.noConfusion)]
      rw [e1, ByteArray.append_empty]
      refine XA.skip (zT ?_)
      refine ⟨(Keep.refl _ _), (), _, zM, ?_, ⟨rfl, rfl⟩⟩
      · exact zE
  rintro _ δ _ _ ⟨rfl, rfl⟩
  dsimp only [ovr, List.foldl]
  refine zT (zS (zR (zA rfl ?_)))
  refine zO rfl (X.Rd.catStr rfl rfl (by show (lpar ++ verbOf op ++ tv ++ te ++ tf ++ tb ++ to).size + 1 ≤ _; simp only [ByteArray.size_append]; omega)) ?_
  refine zO rfl Rd.asg ?_; refine zN (zT (XA.ret ?_))
  have e3 : lpar ++ verbOf op ++ tv ++ te ++ tf ++ tb ++ to ++ rpar = lpar ++ (verbOf op ++ (tv ++ (te ++ (tf ++ (tb ++ (to ++ rpar)))))) := by simp only [ByteArray.append_assoc]
  exact bodyA.ret (ResA.one rfl rfl) (Ent.nil _) ⟨congrArg Value.string e3, rfl, rfl⟩
end Go.Proofs.YthefnnkmpcgcmaaDoor

namespace Go.Proofs.YthefnnkmpcgcmaaDoor
open Go X
set_option maxHeartbeats 4000000
theorem printed_p (σ : PH) (cs : List Value) (pr : Pr) (hp : PrAt σ cs pr) (hT : Tab σ) :
    CallsA Tryd.prog 14 #[.agg cs.toArray] σ [] (RetA fun v σ' Γ' => v = .tuple #[.string (okB (printP pr)), .agg #[i64 (errC (printP pr)), i64 (errA (printP pr))]] ∧ σ = σ' ∧ Γ' = []) := by
  have hp0 := hp
  obtain ⟨vs, bs, rfl, hv, hb⟩ := hp
  obtain ⟨pv, cv, rfl, hv1, hv2⟩ := hv.shape
  obtain ⟨pb, cb, rfl, hb1, hb2⟩ := hb.shape
  have hlv : pr.vars.length ≤ maxLen := by omega
  have hlb : pr.body.length ≤ maxLen := by omega
  simp only [maxLen] at hlv hlb
  have hchk := fault_a σ _ pr hp0
  by_cases hc : checkP pr ≠ 0
  · have e : printP pr = .error (checkP pr, -1) := by rw [printP, if_pos hc]
    rw [e]
    refine enterA1 Tryd.func14 rfl rfl rfl ?_
    refine zS (zR ?_)
    refine XOA.wr0 rfl WrA.bx ?_
    rintro _ _ _ ⟨g1, rfl, rfl, rfl⟩
    refine zO rfl Rd.asg ?_
    refine XOA.wr0 rfl (WrA.alloc (tyrow rfl)) ?_
    rintro _ _ _ ⟨g3, rfl, rfl, rfl⟩
    refine zN (zT (zS (zS (zR (zO rfl (Rd.ldA rfl) ?_)))))
    refine XOA.wr0 rfl (WrA.cE (hchk) rfl) ?_
    rintro _ _ _ ⟨_, ⟨rfl, rfl, rfl⟩, rfl⟩
    refine XOA.cl ?_; refine zO rfl Rd.asg ?_; refine zN (zT (zS (zR (zA rfl ?_)))); refine zO rfl (Rd.neq rfl rfl) ?_; refine zN (zT (XA.condT rfl (by first | rfl | exact decide_eq_true hc) ?_)); refine zS (zR (zA rfl ?_))
    refine XOA.wr0 rfl (WrA.cE (rF_t σ (checkP pr) (-1)) rfl) ?_
    rintro _ _ _ ⟨_, ⟨rfl, rfl, rfl⟩, rfl⟩
    refine XOA.cl ?_; refine zO rfl Rd.asg ?_
    refine XOA.wr0 rfl (WrA.st (tyrow rfl) rfl) ?_
    rintro _ _ _ ⟨rfl, rfl, rfl⟩
    refine zN (zT (XA.ret (DA.thn_ret ?_)))
    exact bodyA.ret (ResA.tcT rfl rfl rfl (Ld.atBlk (tyrow rfl) rfl zL rfl (by first | exact take0 (by first | rfl | assumption | (refine (ints_len _).trans ?_; assumption) | (simp [*]; (first | done | fail))) | assumption | exact take_app (by first | rfl | assumption | (refine (ints_len _).trans ?_; assumption) | (simp [*]; (first | done | fail))) | (conv => lhs; simp only [List.drop_succ_cons, List.drop_zero, List.take_succ_cons, List.take_zero])) (by first | rfl | assumption | (refine (ints_len _).trans ?_; assumption) | (simp [*]; (first | done | fail))))) (Ent.nil _) ⟨rfl, rfl, rfl⟩
  have hc0 : checkP pr = 0 := by omega
  have hw := check_w hc0
  have hi := hp0.i
  obtain ⟨hz1, hz2⟩ := prT_le hw hi
  have hok := (check_valid hc0).1
  have elet : (⟨#[108, 101, 116, 32]⟩ : ByteArray) = kwLet ++ sp1 := by decide
  refine enterA1 Tryd.func14 rfl rfl rfl ?_
  refine zS (zR ?_)
  refine XOA.wr0 rfl WrA.bx ?_
  rintro _ _ _ ⟨g1, rfl, rfl, rfl⟩
  refine zO rfl Rd.asg ?_
  refine XOA.wr0 rfl (WrA.alloc (tyrow rfl)) ?_
  rintro _ _ _ ⟨g3, rfl, rfl, rfl⟩
  refine zN (zT (zS (zS (zR (zO rfl (Rd.ldA rfl) ?_)))))
  refine XOA.wr0 rfl (WrA.cE (hchk) rfl) ?_
  rintro _ _ _ ⟨_, ⟨rfl, rfl, rfl⟩, rfl⟩
  refine XOA.cl ?_; refine zO rfl Rd.asg ?_; refine zN (zT (zS (zR (zA rfl ?_)))); refine zO rfl (Rd.neq rfl rfl) ?_; refine zN (zT (XA.condF rfl (by first | rfl | exact decide_eq_false hc) ?_)); refine XA.skip (zT (zS (zR (zO rfl Rd.asg ?_)))); refine zN (zT (zS (zS (zR (zO rfl Rd.asg ?_)))))
  refine zN (zT (XA.block ?_))
  refine XA.gen [(1, _), (2, _), (3, _), (5, _), (6, _)] ⟨(by with_reducible (conv => lhs; whnf)), (by with_reducible (conv => lhs; whnf)), (by with_reducible (conv => lhs; whnf)), (by with_reducible (conv => lhs; whnf)), (by with_reducible (conv => lhs; whnf)), trivial⟩ (fun δ => ?_)
  dsimp only [List.foldl]
  refine XA.loop [(5, 6), (14, 39)] (fun x : Nat × ByteArray => [(6, i64 x.1), (5, .string x.2)]) (fun x σ' Γ' => σ = σ' ∧ x.1 ≤ pr.vars.length ∧ x.2 = varsT (pr.vars.take x.1) ∧ Γ' = [blk g3 [i64 0, i64 0] 30, blk g1 [.slice pv pr.vars.length cv, .slice pb pr.body.length cb] 25]) (fun x => pr.vars.length - x.1) (0, ByteArray.empty) (by exact ⟨rfl, rfl, trivial⟩) (Δ0 := _) ?_ (⟨rfl, Nat.zero_le _, by rw [List.take_zero, varsT], rfl⟩) ?_
  · exact zE
  rintro ⟨k, s⟩ δ _ _ ⟨rfl, hk, hs, rfl⟩
  dsimp only [ovr, List.foldl]
  simp only at hk hs
  by_cases hlt : k < pr.vars.length
  · obtain ⟨w, hw'⟩ : ∃ w, pr.vars[k]? = some w := ⟨_, List.getElem?_eq_getElem hlt⟩
    obtain ⟨gg, o, row, rfl, ⟨rfl, -, -⟩, -, hrow⟩ := hv.at hw'
    obtain ⟨n1, n2, n3⟩ := hw.names w (List.mem_of_getElem? hw')
    have a0 : PRow σ gg (o + k * 2) [.string w.name] := hrow.sub (j := 0) rfl
    have a1 : PRow σ gg (o + k * 2 + 1) [i64 w.size] := hrow.sub (j := 1) rfl
    have hcut := varsT_cut hw'
    have hsn := varsT_step hw'
    have n4 := (nameOk_iff n1).2.2
    have n5 := itoaS_le (n := w.size) ⟨by omega, by omega⟩
    have hsz : s.size ≤ 280 := by rw [hs]; omega
    have evar : (⟨#[108, 101, 116, 32]⟩ : ByteArray) ++ w.name ++ (⟨#[32]⟩ : ByteArray) ++ itoaS w.size ++ (⟨#[10]⟩ : ByteArray) = varT w := by rw [elet, varT]; simp only [ByteArray.append_assoc]; rfl
    have e3 : s ++ ((⟨#[108, 101, 116, 32]⟩ : ByteArray) ++ w.name ++ (⟨#[32]⟩ : ByteArray) ++ itoaS w.size ++ (⟨#[10]⟩ : ByteArray)) = varsT (pr.vars.take (k + 1)) := by rw [hsn, evar, hs]
    have z4 : (⟨#[108, 101, 116, 32]⟩ : ByteArray).size = 4 := rfl
    have z1 : (⟨#[32]⟩ : ByteArray).size = 1 := rfl
    have z2 : (⟨#[10]⟩ : ByteArray).size = 1 := rfl
    refine zS (zS (zR (zA rfl ?_))); refine zV rfl rfl ?_; refine zB rfl rfl (tyrow rfl) rfl ?_; refine zO rfl (Rd.lenSlice (tyrow rfl) rfl rfl) ?_; refine zO rfl (Rd.lss rfl rfl) ?_; refine zN (zT (XA.condT rfl (by first | rfl | exact decide_eq_true (by omega)) ?_))
    refine XA.skip (zT (zS (XA.block ?_)))
    refine XA.draw (by kernel_rfl) _ _ [] [(0, .pu), (1, .pu), (2, .rd), (3, .pu), (4, .pu), (5, .pu), (6, .rd), (7, .pu), (8, .pu), (9, .pu), (10, .rd), (11, .pu), (12, .pu), (13, .pu), (14, .rd), (15, .wr), (16, .pu), (17, .pu), (18, .pu), (19, .pu)] (by kernel_rfl) (PH.sub.refl _) (Ent.sel (R := blk g1 _ _) zL (Ent.nil _)) ?_
    refine XPA.pu rfl rfl Gd.free Rd.mv ?_; refine XPA.pu rfl rfl Gd.free (Rd.fA rfl) ?_; refine XPA.rd rfl rfl Gd.free (Rd.ldC rfl (tyrow rfl) rfl) ?_; refine XPA.pu rfl rfl Gd.free Rd.mv ?_; refine XPA.pu rfl rfl Gd.free (Rd.ixS rfl rfl) ?_; refine XPA.pu rfl rfl Gd.free (Rd.fA rfl) ?_
    refine XPA.rd rfl rfl Gd.free (Rd.ldC rfl (tyrow rfl) rfl) ?_
    refine XPA.pu rfl rfl Gd.free (X.Rd.catStr rfl rfl (by show 4 + w.name.size ≤ _; omega)) ?_
    refine XPA.pu rfl rfl Gd.free (X.Rd.catStr rfl rfl (by show ((⟨#[108, 101, 116, 32]⟩ : ByteArray) ++ w.name).size + 1 ≤ _; rw [ByteArray.size_append, z4]; omega)) ?_
    refine XPA.pu rfl rfl Gd.free (Rd.fA rfl) ?_; refine XPA.rd rfl rfl Gd.free (Rd.ldC rfl (tyrow rfl) rfl) ?_; refine XPA.pu rfl rfl Gd.free Rd.mv ?_; refine XPA.pu rfl rfl Gd.free (Rd.ixS rfl rfl) ?_; refine XPA.pu rfl rfl Gd.free (Rd.fA rfl) ?_
    refine XPA.rd rfl rfl Gd.free (Rd.ldC rfl (tyrow rfl) rfl) ?_
    refine XPA.wr0 rfl rfl Gd.free (WrA.cE (itoa_i σ w.size (by omega) (by omega) hT) rfl) ?_
    rintro _ _ _ ⟨_, ⟨rfl, rfl, rfl⟩, rfl⟩
    refine stays (XPA.cl ?_)
    refine XPA.pu rfl rfl Gd.free (X.Rd.catStr rfl rfl (by show ((⟨#[108, 101, 116, 32]⟩ : ByteArray) ++ w.name ++ (⟨#[32]⟩ : ByteArray)).size + (itoaS w.size).size ≤ _; simp only [ByteArray.size_append, z4, z1]; omega)) ?_
    refine XPA.pu rfl rfl Gd.free (X.Rd.catStr rfl rfl (by show ((⟨#[108, 101, 116, 32]⟩ : ByteArray) ++ w.name ++ (⟨#[32]⟩ : ByteArray) ++ itoaS w.size).size + 1 ≤ _; simp only [ByteArray.size_append, z4, z1]; omega)) ?_
    refine XPA.pu rfl rfl Gd.free (X.Rd.catStr rfl rfl (by show s.size + ((⟨#[108, 101, 116, 32]⟩ : ByteArray) ++ w.name ++ (⟨#[32]⟩ : ByteArray) ++ itoaS w.size ++ (⟨#[10]⟩ : ByteArray)).size ≤ _; simp only [ByteArray.size_append, z4, z1, z2]; omega)) ?_
    refine XPA.pu rfl rfl Gd.free Rd.asg ?_; refine XPA.nil ?_; refine DA.inb_normal (zT (zR (zA rfl ?_))); refine zO rfl zI ?_; refine zO rfl Rd.asg ?_; refine zN (zT ?_)
    refine ⟨(Keep.upd (Keep.upd (Keep.upd (Keep.upd (Keep.upd (Keep.upd (Keep.upd (Keep.updO (Keep.upd (Keep.upd (Keep.upd (Keep.upd (Keep.upd (Keep.upd (Keep.upd (Keep.upd (Keep.upd (Keep.upd (Keep.upd (Keep.upd (Keep.upd (Keep.upd (Keep.upd (Keep.upd (Keep.upd (Keep.upd (Keep.upd (Keep.upd (Keep.upd (Keep.upd (Keep.hav (Keep.hav (Keep.refl _ _) rfl) rfl) rfl) rfl) rfl) rfl) rfl) rfl) rfl) rfl) rfl) rfl) rfl) rfl) rfl) rfl) rfl) rfl) rfl) rfl) rfl) rfl) rfl) rfl) rfl) rfl) rfl) rfl) rfl) rfl) rfl) rfl), (k + 1, s ++ ((⟨#[108, 101, 116, 32]⟩ : ByteArray) ++ w.name ++ (⟨#[32]⟩ : ByteArray) ++ itoaS w.size ++ (⟨#[10]⟩ : ByteArray))), _, zM, ?_, ⟨rfl, hlt, e3, rfl⟩, (by omega)⟩
    · exact zE
  have e : pr.vars.take k = pr.vars := List.take_of_length_le (by omega)
  rw [e] at hs
  refine zS (zS (zR (zA rfl ?_))); refine zV rfl rfl ?_; refine zB rfl rfl (tyrow rfl) rfl ?_; refine zO rfl (Rd.lenSlice (tyrow rfl) rfl rfl) ?_; refine zO rfl (Rd.lss rfl rfl) ?_; refine zN (zT (XA.condF rfl (by first | rfl | exact decide_eq_false (by omega)) ?_))
  refine XA.exit (DA.thn_exit (DA.thn_exit (DA.inb_same (zT (zS (zS (zR (zO rfl Rd.asg ?_)))))))); refine zN (zT (XA.block ?_))
  subst hs
  refine XA.gen [(1, _), (2, _), (3, _), (5, _), (7, _)] ⟨(by with_reducible (conv => lhs; whnf)), (by with_reducible (conv => lhs; whnf)), (by with_reducible (conv => lhs; whnf)), (by with_reducible (conv => lhs; whnf)), (by with_reducible (conv => lhs; whnf)), trivial⟩ (fun δ => ?_)
  dsimp only [List.foldl]
  refine XA.loop [(5, 5), (7, 7), (40, 56)] (fun x : Nat × ByteArray => [(7, i64 x.1), (5, .string x.2)]) (fun x σ' Γ' => σ = σ' ∧ x.1 ≤ pr.body.length ∧ x.2 = varsT pr.vars ++ bodyT pr.vars (pr.body.take x.1) ∧ Γ' = [blk g3 [i64 0, i64 0] 30, blk g1 [.slice pv pr.vars.length cv, .slice pb pr.body.length cb] 25]) (fun x => pr.body.length - x.1) (0, varsT pr.vars) (by exact ⟨rfl, rfl, trivial⟩) (Δ0 := _) ?_ (⟨rfl, Nat.zero_le _, by rw [List.take_zero, bodyT, ByteArray.append_empty], rfl⟩) ?_
  · exact zE
  rintro ⟨k, s⟩ δ _ _ ⟨rfl, hk, hs, rfl⟩
  dsimp only [ovr, List.foldl]
  simp only at hk hs
  by_cases hlt : k < pr.body.length
  · obtain ⟨x', hx'⟩ : ∃ x', pr.body[k]? = some x' := ⟨_, List.getElem?_eq_getElem hlt⟩
    obtain ⟨gg, o, row, rfl, hrx, hrl, hrow⟩ := hb.at hx'
    have hcut := bodyT_cut pr.vars hx'
    have hsn := bodyT_step pr.vars hx'
    have hm := List.mem_of_getElem? hx'
    have hrec := rst_w x' σ row pv cv pr.vars (.slice (some ⟨gg, o, none⟩) pr.body.length cb) hrx hv (hok.mem x' hm) hT (by omega)
    obtain ⟨pe, de, pf, df, pb', cb', pq, cq, rfl, -⟩ := hrx.inv12
    have hsz : s.size = (varsT pr.vars).size + (bodyT pr.vars (pr.body.take k)).size := by rw [hs, ByteArray.size_append]
    have e3 : s ++ (stT pr.vars x' ++ nl1) = varsT pr.vars ++ bodyT pr.vars (pr.body.take (k + 1)) := by rw [hsn, hs]; simp only [ByteArray.append_assoc]
    refine zS (zS (zR (zA rfl ?_))); refine zV rfl rfl ?_; refine zB rfl rfl (tyrow rfl) rfl ?_; refine zO rfl (Rd.lenSlice (tyrow rfl) rfl rfl) ?_; refine zO rfl (Rd.lss rfl rfl) ?_; refine zN (zT (XA.condT rfl (by first | rfl | exact decide_eq_true (by omega)) ?_))
    refine XA.skip (zT (zS (XA.block ?_)))
    refine XA.draw (by kernel_rfl) _ _ [7] [(0, .pu), (1, .rd), (2, .pu), (3, .rd), (4, .pu), (5, .pu), (6, .rd), (7, .wr), (8, .pu), (9, .pu), (10, .pu)] (by kernel_rfl) (PH.sub.refl _) (Ent.sel (R := blk g1 _ _) zL (Ent.nil _)) ?_
    refine XPA.pu rfl rfl Gd.free Rd.mv ?_; refine XPA.rd rfl rfl Gd.free (Rd.ldA rfl) ?_; refine XPA.pu rfl rfl Gd.free (Rd.fA rfl) ?_; refine XPA.rd rfl rfl Gd.free (Rd.ldC rfl (tyrow rfl) rfl) ?_; refine XPA.pu rfl rfl Gd.free Rd.mv ?_; refine XPA.pu rfl rfl Gd.free (Rd.ixS rfl rfl) ?_
    refine XPA.rd rfl rfl Gd.free (Rd.ldA rfl) ?_
    refine XPA.wrZ0 rfl rfl Gd.free (by kernel_rfl) (WrA.cE (hrec) rfl) ?_
    rintro _ _ _ ⟨_, ⟨rfl, rfl, rfl⟩, rfl⟩
    refine XPA.cl ?_
    refine XPA.pu rfl rfl Gd.free (X.Rd.catStr rfl rfl (by show (stT pr.vars x').size + 1 ≤ _; omega)) ?_
    refine XPA.pu rfl rfl Gd.free (X.Rd.catStr rfl rfl (by show s.size + (stT pr.vars x' ++ nl1).size ≤ _; rw [ByteArray.size_append, show nl1.size = 1 from rfl]; omega)) ?_
    refine XPA.pu rfl rfl Gd.free Rd.asg ?_; refine XPA.nil ?_; refine DA.inb_normal (zT (zR (zA rfl ?_))); refine zO rfl zI ?_; refine zO rfl Rd.asg ?_; refine zN (zT ?_)
    refine ⟨(Keep.upd (Keep.upd (Keep.upd (Keep.upd (Keep.upd (Keep.upd (Keep.updO (Keep.upd (Keep.upd (Keep.upd (Keep.upd (Keep.upd (Keep.upd (Keep.upd (Keep.upd (Keep.upd (Keep.upd (Keep.upd (Keep.upd (Keep.upd (Keep.upd (Keep.hav (Keep.hav (Keep.hav (Keep.refl _ _) rfl) rfl) rfl) rfl) rfl) rfl) rfl) rfl) rfl) rfl) rfl) rfl) rfl) rfl) rfl) rfl) rfl) rfl) rfl) rfl) rfl) rfl) rfl) rfl), (k + 1, s ++ (stT pr.vars x' ++ nl1)), _, zM, ?_, ⟨rfl, hlt, e3, rfl⟩, (by omega)⟩
    · exact zE
  have e : pr.body.take k = pr.body := List.take_of_length_le (by omega)
  rw [e] at hs
  have hT2 : s = prT pr := hs
  refine zS (zS (zR (zA rfl ?_))); refine zV rfl rfl ?_; refine zB rfl rfl (tyrow rfl) rfl ?_; refine zO rfl (Rd.lenSlice (tyrow rfl) rfl rfl) ?_; refine zO rfl (Rd.lss rfl rfl) ?_; refine zN (zT (XA.condF rfl (by first | rfl | exact decide_eq_false (by omega)) ?_))
  refine XA.exit (DA.thn_exit (DA.thn_exit (DA.inb_same (zT (zS (zS (zR (zA rfl ?_)))))))); refine zO rfl (Rd.lenString (tyrow rfl) rfl rfl) ?_; refine zO rfl (Rd.gtr rfl rfl) ?_; refine zN (zT ?_)
  clear hs
  subst hT2
  by_cases h6 : 6000 < (prT pr).size
  · have e : printP pr = .error (3, -1) := by rw [printP, if_neg hc, if_pos h6]
    rw [e]
    refine XA.condT rfl (by first | rfl | exact decide_eq_true (by omega)) ?_; refine zS (zR ?_)
    refine XOA.wr0 rfl (WrA.cE (rF_t σ 3 (-1)) rfl) ?_
    rintro _ _ _ ⟨_, ⟨rfl, rfl, rfl⟩, rfl⟩
    refine XOA.cl ?_; refine zO rfl Rd.asg ?_
    refine XOA.wr0 rfl (WrA.st (tyrow rfl) rfl) ?_
    rintro _ _ _ ⟨rfl, rfl, rfl⟩
    refine zN (zT (XA.ret (DA.thn_ret ?_)))
    exact bodyA.ret (ResA.tcT rfl rfl rfl (Ld.atBlk (tyrow rfl) rfl zL rfl (by first | exact take0 (by first | rfl | assumption | (refine (ints_len _).trans ?_; assumption) | (simp [*]; (first | done | fail))) | assumption | exact take_app (by first | rfl | assumption | (refine (ints_len _).trans ?_; assumption) | (simp [*]; (first | done | fail))) | (conv => lhs; simp only [List.drop_succ_cons, List.drop_zero, List.take_succ_cons, List.take_zero])) (by first | rfl | assumption | (refine (ints_len _).trans ?_; assumption) | (simp [*]; (first | done | fail))))) (Ent.nil _) ⟨rfl, rfl, rfl⟩
  · have e : printP pr = .ok (prT pr) := by rw [printP, if_neg hc, if_neg h6]
    rw [e]
    refine XA.condF rfl (by first | rfl | exact decide_eq_false (by omega)) ?_; refine XA.skip (zT (zS (zR (zA rfl ?_))))
    refine zO rfl (Rd.bl (fun _ _ => tyrow) rfl rfl rfl) ?_
    refine zO rfl Rd.asg ?_
    refine XOA.wr0 rfl (WrA.st (tyrow rfl) rfl) ?_
    rintro _ _ _ ⟨rfl, rfl, rfl⟩
    refine zN (zT (XA.ret ?_))
    exact bodyA.ret (ResA.tcT rfl rfl rfl (Ld.atBlk (tyrow rfl) rfl zL rfl (by first | exact take0 (by first | rfl | assumption | (refine (ints_len _).trans ?_; assumption) | (simp [*]; (first | done | fail))) | assumption | exact take_app (by first | rfl | assumption | (refine (ints_len _).trans ?_; assumption) | (simp [*]; (first | done | fail))) | (conv => lhs; simp only [List.drop_succ_cons, List.drop_zero, List.take_succ_cons, List.take_zero])) (by first | rfl | assumption | (refine (ints_len _).trans ?_; assumption) | (simp [*]; (first | done | fail))))) (Ent.nil _) ⟨rfl, rfl, rfl⟩
end Go.Proofs.YthefnnkmpcgcmaaDoor

namespace Go.Proofs.YthefnnkmpcgcmaaDoor
open Go X
set_option maxHeartbeats 1000000
end Go.Proofs.YthefnnkmpcgcmaaDoor

namespace Go.Proofs.YthefnnkmpcgcmaaDoor
open Go X
set_option maxHeartbeats 2000000
def RSameListOK (σ : PH) (l : List St) : Prop := ∀ (sl sm : Value) (m : List St), PSl 12 StAt σ sl l → PSl 12 StAt σ sm m →
  CallsA Tryd.prog 32 #[sl, sm] σ [] (RetA fun v σ' Γ' => ∃ b : Bool, v = .bool b ∧ (b = true ↔ l = m) ∧ σ = σ' ∧ Γ' = [])
theorem rsameList_l (σ : PH) (l : List St) (ih : ∀ x ∈ l, RSameListOK σ x.body ∧ RSameListOK σ x.els) : RSameListOK σ l := by
  intro sl sm m hl hm
  obtain ⟨pl, cl, rfl, hle, hmx⟩ := hl.shape
  obtain ⟨pm, cm, rfl, hle2, hmx2⟩ := hm.shape
  have hlen : l.length ≤ maxLen := by omega
  simp only [maxLen] at hlen
  refine enterA2 Tryd.func32 rfl rfl rfl ?_
  refine zS (zR (zO rfl Rd.asg ?_)); refine zN (zT (zS (zS (zR (zA rfl ?_))))); refine zO rfl (Rd.lenSlice (tyrow rfl) rfl rfl) ?_; refine zA rfl ?_; refine zO rfl (Rd.lenSlice (tyrow rfl) rfl rfl) ?_; refine zO rfl (Rd.neq rfl rfl) ?_; refine zN (zT ?_)
  refine XA.condp rfl (fun hne => ?_) (fun hne => ?_)
  · refine zS ?_
    refine zR (zO rfl Rd.asg ?_); refine zN (zT (XA.ret (DA.thn_ret ?_)))
    exact bodyA.ret (ResA.one rfl rfl) zE ⟨false, rfl, ⟨fun h => (by cases h), fun h => absurd (by rw [h]) hne⟩, rfl, rfl⟩
  have hlm : l.length = m.length := by omega
  refine XA.skip (zT (zS (zS (zR (zO rfl Rd.asg ?_))))); refine zN (zT (XA.block ?_))
  refine XA.gen [(0, _), (1, _), (4, _), (5, _)] ⟨(by with_reducible (conv => lhs; whnf)), (by with_reducible (conv => lhs; whnf)), (by with_reducible (conv => lhs; whnf)), (by with_reducible (conv => lhs; whnf)), trivial⟩ (fun δ => ?_)
  dsimp only [List.foldl]
  refine XA.loop [(4, 5), (11, 96)] (fun k : Nat => [(5, i64 k)]) (fun k σ' Γ' => σ = σ' ∧ k ≤ l.length ∧ l.take k = m.take k ∧ Γ' = []) (fun k => l.length - k) 0 (by exact ⟨rfl, trivial⟩) (Δ0 := _) ?_ (⟨rfl, Nat.zero_le _, rfl, rfl⟩) ?_
  · exact zE
  rintro k δ _ _ ⟨rfl, hk, htk, rfl⟩
  dsimp only [ovr, List.foldl]
  refine zS (zS (zR (zA rfl ?_))); refine zA rfl ?_; refine zO rfl (Rd.lenSlice (tyrow rfl) rfl rfl) ?_; refine zO rfl (Rd.lss rfl rfl) ?_; refine zN (zT ?_)
  refine XA.condp rfl (fun hlt => ?_) (fun hlt => ?_)
  · have hlt : k < l.length := by omega
    obtain ⟨x, hx⟩ : ∃ x, l[k]? = some x := ⟨_, List.getElem?_eq_getElem hlt⟩
    obtain ⟨y, hy⟩ : ∃ y, m[k]? = some y := ⟨_, List.getElem?_eq_getElem (by omega)⟩
    obtain ⟨ihb, ihe⟩ := ih x (List.mem_of_getElem? hx)
    obtain ⟨g, o, row, rfl, hrx, hrl, hrow⟩ := hl.at hx
    obtain ⟨g', o', row', rfl, hry, hrl', hrow'⟩ := hm.at hy
    have hout : x ≠ y → ¬ l = m := fun h1 h2 => by
      subst h2
      rw [hx] at hy; simp only [Option.some.injEq] at hy
      exact h1 hy
    obtain ⟨op, v, ex, fx, body, els⟩ := x
    obtain ⟨op', v', ex', fx', body', els'⟩ := y
    obtain ⟨pe, de, pf, df, pb, cb, pl', cl', rfl, -, -, hxe, hxf, hxb, hxl⟩ := hrx.inv12
    obtain ⟨pe2, de2, pf2, df2, pb2, cb2, pl2, cl2, rfl, -, -, hye, hyf, hyb, hyl⟩ := hry.inv12
    simp only [St.op, St.v, St.e, St.f, St.body, St.els] at hxe hxf hxb hxl hrow hye hyf hyb hyl hrow' ihb ihe
    clear hrx hry hrl hrl'
    have r0 : PRow σ g (o + k * 12) [i64 op] := hrow.sub (j := 0) rfl
    have r1 : PRow σ g (o + k * 12 + 1) [i64 v] := hrow.sub (j := 1) rfl
    have r2 : PRow σ g (o + k * 12 + 2) [i64 ex.op, i64 ex.v, i64 ex.n, .slice pe ex.l.length de] := hrow.sub (j := 2) rfl
    have r6 : PRow σ g (o + k * 12 + 6) [i64 fx.op, i64 fx.v, i64 fx.n, .slice pf fx.l.length df] := hrow.sub (j := 6) rfl
    have r10 : PRow σ g (o + k * 12 + 10) [.slice pb body.length cb] := hrow.sub (j := 10) rfl
    have r11 : PRow σ g (o + k * 12 + 11) [.slice pl' els.length cl'] := hrow.sub (j := 11) rfl
    have s0 : PRow σ g' (o' + k * 12) [i64 op'] := hrow'.sub (j := 0) rfl
    have s1 : PRow σ g' (o' + k * 12 + 1) [i64 v'] := hrow'.sub (j := 1) rfl
    have s2 : PRow σ g' (o' + k * 12 + 2) [i64 ex'.op, i64 ex'.v, i64 ex'.n, .slice pe2 ex'.l.length de2] := hrow'.sub (j := 2) rfl
    have s6 : PRow σ g' (o' + k * 12 + 6) [i64 fx'.op, i64 fx'.v, i64 fx'.n, .slice pf2 fx'.l.length df2] := hrow'.sub (j := 6) rfl
    have s10 : PRow σ g' (o' + k * 12 + 10) [.slice pb2 body'.length cb2] := hrow'.sub (j := 10) rfl
    have s11 : PRow σ g' (o' + k * 12 + 11) [.slice pl2 els'.length cl2] := hrow'.sub (j := 11) rfl
    clear hrow hrow'
    refine XA.skip (zT (zS (XA.block (zS ?_))))
    by_cases h1 : op = op'
    · by_cases h2 : v = v'
      · 
        refine XA.draw (by kernel_rfl) _ _ [] [(0, .pu), (1, .pu), (2, .pu), (3, .pu), (4, .rd), (5, .pu), (6, .pu), (7, .pu), (8, .pu), (9, .rd), (10, .pu), (11, .pu), (12, .pu), (13, .pu), (14, .pu), (15, .pu), (16, .rd), (17, .pu), (18, .pu), (19, .pu), (20, .pu), (21, .rd), (22, .pu), (23, .pu), (24, .pu), (25, .pu), (26, .pu), (27, .pu), (28, .pu), (29, .rd), (30, .pu), (31, .pu), (32, .pu), (33, .pu), (34, .rd), (35, .wr), (36, .pu), (37, .pu), (38, .pu), (39, .pu), (40, .pu), (41, .pu), (42, .pu), (43, .rd), (44, .pu), (45, .pu), (46, .pu), (47, .pu), (48, .rd), (49, .wr), (50, .pu), (51, .pu), (52, .pu), (53, .pu), (54, .pu), (55, .pu), (56, .pu), (57, .rd), (58, .pu), (59, .pu), (60, .pu), (61, .pu), (62, .rd), (63, .wr), (64, .pu), (65, .pu), (66, .pu), (67, .pu), (68, .pu), (69, .pu), (70, .pu), (71, .rd), (72, .pu), (73, .pu), (74, .pu), (75, .pu), (76, .rd), (77, .wr), (78, .pu), (79, .pu)] (by kernel_rfl) (PH.sub.refl _) (Ent.nil _) ?_
        refine XPA.pu rfl rfl Gd.free Rd.mv ?_; refine XPA.pu rfl rfl Gd.free Rd.mv ?_; refine XPA.pu rfl rfl Gd.free (Rd.ixS rfl rfl) ?_; refine XPA.pu rfl rfl Gd.free (Rd.fA rfl) ?_; refine XPA.rd rfl rfl Gd.free (Rd.ldC rfl (tyrow rfl) rfl) ?_; refine XPA.pu rfl rfl Gd.free Rd.mv ?_
        refine XPA.pu rfl rfl Gd.free Rd.mv ?_; refine XPA.pu rfl rfl Gd.free (Rd.ixS rfl rfl) ?_; refine XPA.pu rfl rfl Gd.free (Rd.fA rfl) ?_; refine XPA.rd rfl rfl Gd.free (Rd.ldC rfl (tyrow rfl) rfl) ?_; refine XPA.pu rfl rfl Gd.free (Rd.neq rfl rfl) ?_; refine XPA.pu rfl rfl Gd.free Rd.mv ?_
        first | refine XPA.puG rfl rfl Rd.mv ?_ | refine XPA.puOffG rfl rfl ?_
        first | refine XPA.puG rfl rfl Rd.mv ?_ | refine XPA.puOffG rfl rfl ?_
        first | refine XPA.puG rfl rfl (Rd.ixS rfl rfl) ?_ | refine XPA.puOffG rfl rfl ?_
        first | refine XPA.puG rfl rfl (Rd.fA rfl) ?_ | refine XPA.puOffG rfl rfl ?_
        first | refine XPA.rdG rfl rfl (Rd.ldC rfl (tyrow rfl) rfl) ?_ | refine XPA.offG rfl rfl ?_
        first | refine XPA.puG rfl rfl Rd.mv ?_ | refine XPA.puOffG rfl rfl ?_
        first | refine XPA.puG rfl rfl Rd.mv ?_ | refine XPA.puOffG rfl rfl ?_
        first | refine XPA.puG rfl rfl (Rd.ixS rfl rfl) ?_ | refine XPA.puOffG rfl rfl ?_
        first | refine XPA.puG rfl rfl (Rd.fA rfl) ?_ | refine XPA.puOffG rfl rfl ?_
        first | refine XPA.rdG rfl rfl (Rd.ldC rfl (tyrow rfl) rfl) ?_ | refine XPA.offG rfl rfl ?_
        first | refine XPA.puG rfl rfl (Rd.neq rfl rfl) ?_ | refine XPA.puOffG rfl rfl ?_
        refine XPA.pu rfl rfl Gd.free zP ?_; refine XPA.pu rfl rfl Gd.free Rd.mv ?_
        first | refine XPA.puG rfl rfl Rd.mv ?_ | refine XPA.puOffG rfl rfl ?_
        first | refine XPA.puG rfl rfl Rd.mv ?_ | refine XPA.puOffG rfl rfl ?_
        first | refine XPA.puG rfl rfl (Rd.ixS rfl rfl) ?_ | refine XPA.puOffG rfl rfl ?_
        first | refine XPA.puG rfl rfl (Rd.fA rfl) ?_ | refine XPA.puOffG rfl rfl ?_
        first | refine XPA.rdG rfl rfl (Rd.ldA rfl) ?_ | refine XPA.offG rfl rfl ?_
        first | refine XPA.puG rfl rfl Rd.mv ?_ | refine XPA.puOffG rfl rfl ?_
        first | refine XPA.puG rfl rfl Rd.mv ?_ | refine XPA.puOffG rfl rfl ?_
        first | refine XPA.puG rfl rfl (Rd.ixS rfl rfl) ?_ | refine XPA.puOffG rfl rfl ?_
        first | refine XPA.puG rfl rfl (Rd.fA rfl) ?_ | refine XPA.puOffG rfl rfl ?_
        first | refine XPA.rdG rfl rfl (Rd.ldA rfl) ?_ | refine XPA.offG rfl rfl ?_
        refine XPA.wr0 rfl rfl (by first | exact Gd.free | exact Gd.isB rfl rfl rfl | (apply Gd.isQ; rfl; rfl; exact (by first | exact (rfl : decide _ = true) | exact (rfl : decide _ = false) | (refine decide_eq_true ?_; assumption) | (refine decide_eq_false ?_; assumption) | (refine decide_eq_true ?_; omega) | (refine decide_eq_false ?_; omega)); rfl)) (WrA.cE (rsameExpr_a σ ex _ _ ex' hxe hye) rfl) ?_
        rintro _ _ _ ⟨_, ⟨b1, rfl, hb1, rfl, rfl⟩, rfl⟩
        refine stays (XPA.cl ?_)
        cases b1 with
        | false =>
          have hn := hout (fun h => absurd (hb1.2 (by injection h)) (by decide))
          first | refine XPA.puG rfl rfl zJ ?_ | refine XPA.puOffG rfl rfl ?_
          refine XPA.pu rfl rfl Gd.free zP ?_; refine XPA.pu rfl rfl Gd.free Rd.mv ?_
          first | refine XPA.puG rfl rfl Rd.mv ?_ | refine XPA.puOffG rfl rfl ?_
          first | refine XPA.puG rfl rfl Rd.mv ?_ | refine XPA.puOffG rfl rfl ?_
          first | refine XPA.puG rfl rfl (Rd.ixS rfl rfl) ?_ | refine XPA.puOffG rfl rfl ?_
          first | refine XPA.puG rfl rfl (Rd.fA rfl) ?_ | refine XPA.puOffG rfl rfl ?_
          first | refine XPA.rdG rfl rfl (Rd.ldA rfl) ?_ | refine XPA.offG rfl rfl ?_
          first | refine XPA.puG rfl rfl Rd.mv ?_ | refine XPA.puOffG rfl rfl ?_
          first | refine XPA.puG rfl rfl Rd.mv ?_ | refine XPA.puOffG rfl rfl ?_
          first | refine XPA.puG rfl rfl (Rd.ixS rfl rfl) ?_ | refine XPA.puOffG rfl rfl ?_
          first | refine XPA.puG rfl rfl (Rd.fA rfl) ?_ | refine XPA.puOffG rfl rfl ?_
          first | refine XPA.rdG rfl rfl (Rd.ldA rfl) ?_ | refine XPA.offG rfl rfl ?_
          first | refine XPA.off rfl rfl (by first | exact Gd.isB rfl rfl rfl | exact Gd.un rfl rfl | (apply Gd.isQ; rfl; rfl; exact (by first | exact (rfl : decide _ = true) | exact (rfl : decide _ = false) | (refine decide_eq_true ?_; assumption) | (refine decide_eq_false ?_; assumption) | (refine decide_eq_true ?_; omega) | (refine decide_eq_false ?_; omega)); rfl)) ?_ | refine XPA.puOff rfl rfl (by first | exact Gd.isB rfl rfl rfl | exact Gd.un rfl rfl | (apply Gd.isQ; rfl; rfl; exact (by first | exact (rfl : decide _ = true) | exact (rfl : decide _ = false) | (refine decide_eq_true ?_; assumption) | (refine decide_eq_false ?_; assumption) | (refine decide_eq_true ?_; omega) | (refine decide_eq_false ?_; omega)); rfl)) ?_ | refine XPA.offW rfl rfl (by first | exact Gd.isB rfl rfl rfl | exact Gd.un rfl rfl | (apply Gd.isQ; rfl; rfl; exact (by first | exact (rfl : decide _ = true) | exact (rfl : decide _ = false) | (refine decide_eq_true ?_; assumption) | (refine decide_eq_false ?_; assumption) | (refine decide_eq_true ?_; omega) | (refine decide_eq_false ?_; omega)); rfl)) ?_
          first | refine XPA.puG rfl rfl zJ ?_ | refine XPA.puOffG rfl rfl ?_
          refine XPA.pu rfl rfl Gd.free zP ?_; refine XPA.pu rfl rfl Gd.free Rd.mv ?_
          first | refine XPA.puG rfl rfl Rd.mv ?_ | refine XPA.puOffG rfl rfl ?_
          first | refine XPA.puG rfl rfl Rd.mv ?_ | refine XPA.puOffG rfl rfl ?_
          first | refine XPA.puG rfl rfl (Rd.ixS rfl rfl) ?_ | refine XPA.puOffG rfl rfl ?_
          first | refine XPA.puG rfl rfl (Rd.fA rfl) ?_ | refine XPA.puOffG rfl rfl ?_
          first | refine XPA.rdG rfl rfl (Rd.ldC rfl (tyrow rfl) rfl) ?_ | refine XPA.offG rfl rfl ?_
          first | refine XPA.puG rfl rfl Rd.mv ?_ | refine XPA.puOffG rfl rfl ?_
          first | refine XPA.puG rfl rfl Rd.mv ?_ | refine XPA.puOffG rfl rfl ?_
          first | refine XPA.puG rfl rfl (Rd.ixS rfl rfl) ?_ | refine XPA.puOffG rfl rfl ?_
          first | refine XPA.puG rfl rfl (Rd.fA rfl) ?_ | refine XPA.puOffG rfl rfl ?_
          first | refine XPA.rdG rfl rfl (Rd.ldC rfl (tyrow rfl) rfl) ?_ | refine XPA.offG rfl rfl ?_
          first | refine XPA.off rfl rfl (by first | exact Gd.isB rfl rfl rfl | exact Gd.un rfl rfl | (apply Gd.isQ; rfl; rfl; exact (by first | exact (rfl : decide _ = true) | exact (rfl : decide _ = false) | (refine decide_eq_true ?_; assumption) | (refine decide_eq_false ?_; assumption) | (refine decide_eq_true ?_; omega) | (refine decide_eq_false ?_; omega)); rfl)) ?_ | refine XPA.puOff rfl rfl (by first | exact Gd.isB rfl rfl rfl | exact Gd.un rfl rfl | (apply Gd.isQ; rfl; rfl; exact (by first | exact (rfl : decide _ = true) | exact (rfl : decide _ = false) | (refine decide_eq_true ?_; assumption) | (refine decide_eq_false ?_; assumption) | (refine decide_eq_true ?_; omega) | (refine decide_eq_false ?_; omega)); rfl)) ?_ | refine XPA.offW rfl rfl (by first | exact Gd.isB rfl rfl rfl | exact Gd.un rfl rfl | (apply Gd.isQ; rfl; rfl; exact (by first | exact (rfl : decide _ = true) | exact (rfl : decide _ = false) | (refine decide_eq_true ?_; assumption) | (refine decide_eq_false ?_; assumption) | (refine decide_eq_true ?_; omega) | (refine decide_eq_false ?_; omega)); rfl)) ?_
          first | refine XPA.puG rfl rfl zJ ?_ | refine XPA.puOffG rfl rfl ?_
          refine XPA.pu rfl rfl Gd.free zP ?_; refine XPA.pu rfl rfl Gd.free Rd.mv ?_
          first | refine XPA.puG rfl rfl Rd.mv ?_ | refine XPA.puOffG rfl rfl ?_
          first | refine XPA.puG rfl rfl Rd.mv ?_ | refine XPA.puOffG rfl rfl ?_
          first | refine XPA.puG rfl rfl (Rd.ixS rfl rfl) ?_ | refine XPA.puOffG rfl rfl ?_
          first | refine XPA.puG rfl rfl (Rd.fA rfl) ?_ | refine XPA.puOffG rfl rfl ?_
          first | refine XPA.rdG rfl rfl (Rd.ldC rfl (tyrow rfl) rfl) ?_ | refine XPA.offG rfl rfl ?_
          first | refine XPA.puG rfl rfl Rd.mv ?_ | refine XPA.puOffG rfl rfl ?_
          first | refine XPA.puG rfl rfl Rd.mv ?_ | refine XPA.puOffG rfl rfl ?_
          first | refine XPA.puG rfl rfl (Rd.ixS rfl rfl) ?_ | refine XPA.puOffG rfl rfl ?_
          first | refine XPA.puG rfl rfl (Rd.fA rfl) ?_ | refine XPA.puOffG rfl rfl ?_
          first | refine XPA.rdG rfl rfl (Rd.ldC rfl (tyrow rfl) rfl) ?_ | refine XPA.offG rfl rfl ?_
          first | refine XPA.off rfl rfl (by first | exact Gd.isB rfl rfl rfl | exact Gd.un rfl rfl | (apply Gd.isQ; rfl; rfl; exact (by first | exact (rfl : decide _ = true) | exact (rfl : decide _ = false) | (refine decide_eq_true ?_; assumption) | (refine decide_eq_false ?_; assumption) | (refine decide_eq_true ?_; omega) | (refine decide_eq_false ?_; omega)); rfl)) ?_ | refine XPA.puOff rfl rfl (by first | exact Gd.isB rfl rfl rfl | exact Gd.un rfl rfl | (apply Gd.isQ; rfl; rfl; exact (by first | exact (rfl : decide _ = true) | exact (rfl : decide _ = false) | (refine decide_eq_true ?_; assumption) | (refine decide_eq_false ?_; assumption) | (refine decide_eq_true ?_; omega) | (refine decide_eq_false ?_; omega)); rfl)) ?_ | refine XPA.offW rfl rfl (by first | exact Gd.isB rfl rfl rfl | exact Gd.un rfl rfl | (apply Gd.isQ; rfl; rfl; exact (by first | exact (rfl : decide _ = true) | exact (rfl : decide _ = false) | (refine decide_eq_true ?_; assumption) | (refine decide_eq_false ?_; assumption) | (refine decide_eq_true ?_; omega) | (refine decide_eq_false ?_; omega)); rfl)) ?_
          first | refine XPA.puG rfl rfl zJ ?_ | refine XPA.puOffG rfl rfl ?_
          refine XPA.pu rfl rfl Gd.free zP ?_; refine XPA.nil ?_; refine zT (XA.condT rfl rfl (zS (zR (zO rfl Rd.asg ?_)))); refine zN (zT (XA.ret (DA.inb_ret (DA.thn_ret (DA.thn_ret (DA.inb_ret (DA.thn_ret ?_)))))))
          exact bodyA.ret (ResA.one rfl rfl) (Ent.nil _) ⟨false, rfl, ⟨fun h => (by cases h), fun h => absurd h hn⟩, rfl, rfl⟩
        | true =>
          first | refine XPA.puG rfl rfl zJ ?_ | refine XPA.puOffG rfl rfl ?_
          refine XPA.pu rfl rfl Gd.free zP ?_; refine XPA.pu rfl rfl Gd.free Rd.mv ?_
          first | refine XPA.puG rfl rfl Rd.mv ?_ | refine XPA.puOffG rfl rfl ?_
          first | refine XPA.puG rfl rfl Rd.mv ?_ | refine XPA.puOffG rfl rfl ?_
          first | refine XPA.puG rfl rfl (Rd.ixS rfl rfl) ?_ | refine XPA.puOffG rfl rfl ?_
          first | refine XPA.puG rfl rfl (Rd.fA rfl) ?_ | refine XPA.puOffG rfl rfl ?_
          first | refine XPA.rdG rfl rfl (Rd.ldA rfl) ?_ | refine XPA.offG rfl rfl ?_
          first | refine XPA.puG rfl rfl Rd.mv ?_ | refine XPA.puOffG rfl rfl ?_
          first | refine XPA.puG rfl rfl Rd.mv ?_ | refine XPA.puOffG rfl rfl ?_
          first | refine XPA.puG rfl rfl (Rd.ixS rfl rfl) ?_ | refine XPA.puOffG rfl rfl ?_
          first | refine XPA.puG rfl rfl (Rd.fA rfl) ?_ | refine XPA.puOffG rfl rfl ?_
          first | refine XPA.rdG rfl rfl (Rd.ldA rfl) ?_ | refine XPA.offG rfl rfl ?_
          refine XPA.wr0 rfl rfl (by first | exact Gd.free | exact Gd.isB rfl rfl rfl | (apply Gd.isQ; rfl; rfl; exact (by first | exact (rfl : decide _ = true) | exact (rfl : decide _ = false) | (refine decide_eq_true ?_; assumption) | (refine decide_eq_false ?_; assumption) | (refine decide_eq_true ?_; omega) | (refine decide_eq_false ?_; omega)); rfl)) (WrA.cE (rsameExpr_a σ fx _ _ fx' hxf hyf) rfl) ?_
          rintro _ _ _ ⟨_, ⟨b2, rfl, hb2, rfl, rfl⟩, rfl⟩
          refine stays (XPA.cl ?_)
          cases b2 with
          | false =>
            have hn := hout (fun h => absurd (hb2.2 (by injection h)) (by decide))
            first | refine XPA.puG rfl rfl zJ ?_ | refine XPA.puOffG rfl rfl ?_
            refine XPA.pu rfl rfl Gd.free zP ?_; refine XPA.pu rfl rfl Gd.free Rd.mv ?_
            first | refine XPA.puG rfl rfl Rd.mv ?_ | refine XPA.puOffG rfl rfl ?_
            first | refine XPA.puG rfl rfl Rd.mv ?_ | refine XPA.puOffG rfl rfl ?_
            first | refine XPA.puG rfl rfl (Rd.ixS rfl rfl) ?_ | refine XPA.puOffG rfl rfl ?_
            first | refine XPA.puG rfl rfl (Rd.fA rfl) ?_ | refine XPA.puOffG rfl rfl ?_
            first | refine XPA.rdG rfl rfl (Rd.ldC rfl (tyrow rfl) rfl) ?_ | refine XPA.offG rfl rfl ?_
            first | refine XPA.puG rfl rfl Rd.mv ?_ | refine XPA.puOffG rfl rfl ?_
            first | refine XPA.puG rfl rfl Rd.mv ?_ | refine XPA.puOffG rfl rfl ?_
            first | refine XPA.puG rfl rfl (Rd.ixS rfl rfl) ?_ | refine XPA.puOffG rfl rfl ?_
            first | refine XPA.puG rfl rfl (Rd.fA rfl) ?_ | refine XPA.puOffG rfl rfl ?_
            first | refine XPA.rdG rfl rfl (Rd.ldC rfl (tyrow rfl) rfl) ?_ | refine XPA.offG rfl rfl ?_
            first | refine XPA.off rfl rfl (by first | exact Gd.isB rfl rfl rfl | exact Gd.un rfl rfl | (apply Gd.isQ; rfl; rfl; exact (by first | exact (rfl : decide _ = true) | exact (rfl : decide _ = false) | (refine decide_eq_true ?_; assumption) | (refine decide_eq_false ?_; assumption) | (refine decide_eq_true ?_; omega) | (refine decide_eq_false ?_; omega)); rfl)) ?_ | refine XPA.puOff rfl rfl (by first | exact Gd.isB rfl rfl rfl | exact Gd.un rfl rfl | (apply Gd.isQ; rfl; rfl; exact (by first | exact (rfl : decide _ = true) | exact (rfl : decide _ = false) | (refine decide_eq_true ?_; assumption) | (refine decide_eq_false ?_; assumption) | (refine decide_eq_true ?_; omega) | (refine decide_eq_false ?_; omega)); rfl)) ?_ | refine XPA.offW rfl rfl (by first | exact Gd.isB rfl rfl rfl | exact Gd.un rfl rfl | (apply Gd.isQ; rfl; rfl; exact (by first | exact (rfl : decide _ = true) | exact (rfl : decide _ = false) | (refine decide_eq_true ?_; assumption) | (refine decide_eq_false ?_; assumption) | (refine decide_eq_true ?_; omega) | (refine decide_eq_false ?_; omega)); rfl)) ?_
            first | refine XPA.puG rfl rfl zJ ?_ | refine XPA.puOffG rfl rfl ?_
            refine XPA.pu rfl rfl Gd.free zP ?_; refine XPA.pu rfl rfl Gd.free Rd.mv ?_
            first | refine XPA.puG rfl rfl Rd.mv ?_ | refine XPA.puOffG rfl rfl ?_
            first | refine XPA.puG rfl rfl Rd.mv ?_ | refine XPA.puOffG rfl rfl ?_
            first | refine XPA.puG rfl rfl (Rd.ixS rfl rfl) ?_ | refine XPA.puOffG rfl rfl ?_
            first | refine XPA.puG rfl rfl (Rd.fA rfl) ?_ | refine XPA.puOffG rfl rfl ?_
            first | refine XPA.rdG rfl rfl (Rd.ldC rfl (tyrow rfl) rfl) ?_ | refine XPA.offG rfl rfl ?_
            first | refine XPA.puG rfl rfl Rd.mv ?_ | refine XPA.puOffG rfl rfl ?_
            first | refine XPA.puG rfl rfl Rd.mv ?_ | refine XPA.puOffG rfl rfl ?_
            first | refine XPA.puG rfl rfl (Rd.ixS rfl rfl) ?_ | refine XPA.puOffG rfl rfl ?_
            first | refine XPA.puG rfl rfl (Rd.fA rfl) ?_ | refine XPA.puOffG rfl rfl ?_
            first | refine XPA.rdG rfl rfl (Rd.ldC rfl (tyrow rfl) rfl) ?_ | refine XPA.offG rfl rfl ?_
            first | refine XPA.off rfl rfl (by first | exact Gd.isB rfl rfl rfl | exact Gd.un rfl rfl | (apply Gd.isQ; rfl; rfl; exact (by first | exact (rfl : decide _ = true) | exact (rfl : decide _ = false) | (refine decide_eq_true ?_; assumption) | (refine decide_eq_false ?_; assumption) | (refine decide_eq_true ?_; omega) | (refine decide_eq_false ?_; omega)); rfl)) ?_ | refine XPA.puOff rfl rfl (by first | exact Gd.isB rfl rfl rfl | exact Gd.un rfl rfl | (apply Gd.isQ; rfl; rfl; exact (by first | exact (rfl : decide _ = true) | exact (rfl : decide _ = false) | (refine decide_eq_true ?_; assumption) | (refine decide_eq_false ?_; assumption) | (refine decide_eq_true ?_; omega) | (refine decide_eq_false ?_; omega)); rfl)) ?_ | refine XPA.offW rfl rfl (by first | exact Gd.isB rfl rfl rfl | exact Gd.un rfl rfl | (apply Gd.isQ; rfl; rfl; exact (by first | exact (rfl : decide _ = true) | exact (rfl : decide _ = false) | (refine decide_eq_true ?_; assumption) | (refine decide_eq_false ?_; assumption) | (refine decide_eq_true ?_; omega) | (refine decide_eq_false ?_; omega)); rfl)) ?_
            first | refine XPA.puG rfl rfl zJ ?_ | refine XPA.puOffG rfl rfl ?_
            refine XPA.pu rfl rfl Gd.free zP ?_; refine XPA.nil ?_; refine zT (XA.condT rfl rfl (zS (zR (zO rfl Rd.asg ?_)))); refine zN (zT (XA.ret (DA.inb_ret (DA.thn_ret (DA.thn_ret (DA.inb_ret (DA.thn_ret ?_)))))))
            exact bodyA.ret (ResA.one rfl rfl) (Ent.nil _) ⟨false, rfl, ⟨fun h => (by cases h), fun h => absurd h hn⟩, rfl, rfl⟩
          | true =>
            first | refine XPA.puG rfl rfl zJ ?_ | refine XPA.puOffG rfl rfl ?_
            refine XPA.pu rfl rfl Gd.free zP ?_; refine XPA.pu rfl rfl Gd.free Rd.mv ?_
            first | refine XPA.puG rfl rfl Rd.mv ?_ | refine XPA.puOffG rfl rfl ?_
            first | refine XPA.puG rfl rfl Rd.mv ?_ | refine XPA.puOffG rfl rfl ?_
            first | refine XPA.puG rfl rfl (Rd.ixS rfl rfl) ?_ | refine XPA.puOffG rfl rfl ?_
            first | refine XPA.puG rfl rfl (Rd.fA rfl) ?_ | refine XPA.puOffG rfl rfl ?_
            first | refine XPA.rdG rfl rfl (Rd.ldC rfl (tyrow rfl) rfl) ?_ | refine XPA.offG rfl rfl ?_
            first | refine XPA.puG rfl rfl Rd.mv ?_ | refine XPA.puOffG rfl rfl ?_
            first | refine XPA.puG rfl rfl Rd.mv ?_ | refine XPA.puOffG rfl rfl ?_
            first | refine XPA.puG rfl rfl (Rd.ixS rfl rfl) ?_ | refine XPA.puOffG rfl rfl ?_
            first | refine XPA.puG rfl rfl (Rd.fA rfl) ?_ | refine XPA.puOffG rfl rfl ?_
            first | refine XPA.rdG rfl rfl (Rd.ldC rfl (tyrow rfl) rfl) ?_ | refine XPA.offG rfl rfl ?_
            refine XPA.wr0 rfl rfl (by first | exact Gd.free | exact Gd.isB rfl rfl rfl | (apply Gd.isQ; rfl; rfl; exact (by first | exact (rfl : decide _ = true) | exact (rfl : decide _ = false) | (refine decide_eq_true ?_; assumption) | (refine decide_eq_false ?_; assumption) | (refine decide_eq_true ?_; omega) | (refine decide_eq_false ?_; omega)); rfl)) (WrA.cE (ihb _ _ body' hxb hyb) rfl) ?_
            rintro _ _ _ ⟨_, ⟨b3, rfl, hb3, rfl, rfl⟩, rfl⟩
            refine stays (XPA.cl ?_)
            cases b3 with
            | false =>
              have hn := hout (fun h => absurd (hb3.2 (by injection h)) (by decide))
              first | refine XPA.puG rfl rfl zJ ?_ | refine XPA.puOffG rfl rfl ?_
              refine XPA.pu rfl rfl Gd.free zP ?_; refine XPA.pu rfl rfl Gd.free Rd.mv ?_
              first | refine XPA.puG rfl rfl Rd.mv ?_ | refine XPA.puOffG rfl rfl ?_
              first | refine XPA.puG rfl rfl Rd.mv ?_ | refine XPA.puOffG rfl rfl ?_
              first | refine XPA.puG rfl rfl (Rd.ixS rfl rfl) ?_ | refine XPA.puOffG rfl rfl ?_
              first | refine XPA.puG rfl rfl (Rd.fA rfl) ?_ | refine XPA.puOffG rfl rfl ?_
              first | refine XPA.rdG rfl rfl (Rd.ldC rfl (tyrow rfl) rfl) ?_ | refine XPA.offG rfl rfl ?_
              first | refine XPA.puG rfl rfl Rd.mv ?_ | refine XPA.puOffG rfl rfl ?_
              first | refine XPA.puG rfl rfl Rd.mv ?_ | refine XPA.puOffG rfl rfl ?_
              first | refine XPA.puG rfl rfl (Rd.ixS rfl rfl) ?_ | refine XPA.puOffG rfl rfl ?_
              first | refine XPA.puG rfl rfl (Rd.fA rfl) ?_ | refine XPA.puOffG rfl rfl ?_
              first | refine XPA.rdG rfl rfl (Rd.ldC rfl (tyrow rfl) rfl) ?_ | refine XPA.offG rfl rfl ?_
              first | refine XPA.off rfl rfl (by first | exact Gd.isB rfl rfl rfl | exact Gd.un rfl rfl | (apply Gd.isQ; rfl; rfl; exact (by first | exact (rfl : decide _ = true) | exact (rfl : decide _ = false) | (refine decide_eq_true ?_; assumption) | (refine decide_eq_false ?_; assumption) | (refine decide_eq_true ?_; omega) | (refine decide_eq_false ?_; omega)); rfl)) ?_ | refine XPA.puOff rfl rfl (by first | exact Gd.isB rfl rfl rfl | exact Gd.un rfl rfl | (apply Gd.isQ; rfl; rfl; exact (by first | exact (rfl : decide _ = true) | exact (rfl : decide _ = false) | (refine decide_eq_true ?_; assumption) | (refine decide_eq_false ?_; assumption) | (refine decide_eq_true ?_; omega) | (refine decide_eq_false ?_; omega)); rfl)) ?_ | refine XPA.offW rfl rfl (by first | exact Gd.isB rfl rfl rfl | exact Gd.un rfl rfl | (apply Gd.isQ; rfl; rfl; exact (by first | exact (rfl : decide _ = true) | exact (rfl : decide _ = false) | (refine decide_eq_true ?_; assumption) | (refine decide_eq_false ?_; assumption) | (refine decide_eq_true ?_; omega) | (refine decide_eq_false ?_; omega)); rfl)) ?_
              first | refine XPA.puG rfl rfl zJ ?_ | refine XPA.puOffG rfl rfl ?_
              refine XPA.pu rfl rfl Gd.free zP ?_; refine XPA.nil ?_; refine zT (XA.condT rfl rfl (zS (zR (zO rfl Rd.asg ?_)))); refine zN (zT (XA.ret (DA.inb_ret (DA.thn_ret (DA.thn_ret (DA.inb_ret (DA.thn_ret ?_)))))))
              exact bodyA.ret (ResA.one rfl rfl) (Ent.nil _) ⟨false, rfl, ⟨fun h => (by cases h), fun h => absurd h hn⟩, rfl, rfl⟩
            | true =>
              first | refine XPA.puG rfl rfl zJ ?_ | refine XPA.puOffG rfl rfl ?_
              refine XPA.pu rfl rfl Gd.free zP ?_; refine XPA.pu rfl rfl Gd.free Rd.mv ?_
              first | refine XPA.puG rfl rfl Rd.mv ?_ | refine XPA.puOffG rfl rfl ?_
              first | refine XPA.puG rfl rfl Rd.mv ?_ | refine XPA.puOffG rfl rfl ?_
              first | refine XPA.puG rfl rfl (Rd.ixS rfl rfl) ?_ | refine XPA.puOffG rfl rfl ?_
              first | refine XPA.puG rfl rfl (Rd.fA rfl) ?_ | refine XPA.puOffG rfl rfl ?_
              first | refine XPA.rdG rfl rfl (Rd.ldC rfl (tyrow rfl) rfl) ?_ | refine XPA.offG rfl rfl ?_
              first | refine XPA.puG rfl rfl Rd.mv ?_ | refine XPA.puOffG rfl rfl ?_
              first | refine XPA.puG rfl rfl Rd.mv ?_ | refine XPA.puOffG rfl rfl ?_
              first | refine XPA.puG rfl rfl (Rd.ixS rfl rfl) ?_ | refine XPA.puOffG rfl rfl ?_
              first | refine XPA.puG rfl rfl (Rd.fA rfl) ?_ | refine XPA.puOffG rfl rfl ?_
              first | refine XPA.rdG rfl rfl (Rd.ldC rfl (tyrow rfl) rfl) ?_ | refine XPA.offG rfl rfl ?_
              refine XPA.wr0 rfl rfl (by first | exact Gd.free | exact Gd.isB rfl rfl rfl | (apply Gd.isQ; rfl; rfl; exact (by first | exact (rfl : decide _ = true) | exact (rfl : decide _ = false) | (refine decide_eq_true ?_; assumption) | (refine decide_eq_false ?_; assumption) | (refine decide_eq_true ?_; omega) | (refine decide_eq_false ?_; omega)); rfl)) (WrA.cE (ihe _ _ els' hxl hyl) rfl) ?_
              rintro _ _ _ ⟨_, ⟨b4, rfl, hb4, rfl, rfl⟩, rfl⟩
              refine stays (XPA.cl ?_)
              cases b4 with
              | false =>
                have hn := hout (fun h => absurd (hb4.2 (by injection h)) (by decide))
                first | refine XPA.puG rfl rfl zJ ?_ | refine XPA.puOffG rfl rfl ?_
                refine XPA.pu rfl rfl Gd.free zP ?_; refine XPA.nil ?_; refine zT (XA.condT rfl rfl (zS (zR (zO rfl Rd.asg ?_)))); refine zN (zT (XA.ret (DA.inb_ret (DA.thn_ret (DA.thn_ret (DA.inb_ret (DA.thn_ret ?_)))))))
                exact bodyA.ret (ResA.one rfl rfl) (Ent.nil _) ⟨false, rfl, ⟨fun h => (by cases h), fun h => absurd h hn⟩, rfl, rfl⟩
              | true =>
                have hxy : St.mk op v ex fx body els = St.mk op' v' ex' fx' body' els' := by rw [h1, h2, hb1.1 rfl, hb2.1 rfl, hb3.1 rfl, hb4.1 rfl]
                first | refine XPA.puG rfl rfl zJ ?_ | refine XPA.puOffG rfl rfl ?_
                refine XPA.pu rfl rfl Gd.free zP ?_; refine XPA.nil ?_; refine zT (XA.condF rfl rfl (XA.skip (DA.inb_normal (zT (zR (zA rfl ?_)))))); refine zO rfl zI ?_; refine zO rfl Rd.asg ?_; refine zN (zT ?_)
                refine ⟨(Keep.upd (Keep.upd (Keep.upd (Keep.upd (Keep.upd (Keep.updO (Keep.upd (Keep.upd (Keep.upd (Keep.upd (Keep.upd (Keep.upd (Keep.upd (Keep.upd (Keep.upd (Keep.upd (Keep.upd (Keep.upd (Keep.upd (Keep.updO (Keep.upd (Keep.upd (Keep.upd (Keep.upd (Keep.upd (Keep.upd (Keep.upd (Keep.upd (Keep.upd (Keep.upd (Keep.upd (Keep.upd (Keep.upd (Keep.updO (Keep.upd (Keep.upd (Keep.upd (Keep.upd (Keep.upd (Keep.upd (Keep.upd (Keep.upd (Keep.upd (Keep.upd (Keep.upd (Keep.upd (Keep.upd (Keep.updO (Keep.upd (Keep.upd (Keep.upd (Keep.upd (Keep.upd (Keep.upd (Keep.upd (Keep.upd (Keep.upd (Keep.upd (Keep.upd (Keep.upd (Keep.upd (Keep.upd (Keep.upd (Keep.upd (Keep.upd (Keep.upd (Keep.upd (Keep.upd (Keep.upd (Keep.upd (Keep.upd (Keep.upd (Keep.upd (Keep.upd (Keep.upd (Keep.upd (Keep.upd (Keep.upd (Keep.upd (Keep.upd (Keep.upd (Keep.upd (Keep.upd (Keep.upd (Keep.upd (Keep.upd (Keep.upd (Keep.upd (Keep.hav (Keep.hav (Keep.refl _ _) rfl) rfl) rfl) rfl) rfl) rfl) rfl) rfl) rfl) rfl) rfl) rfl) rfl) rfl) rfl) rfl) rfl) rfl) rfl) rfl) rfl) rfl) rfl) rfl) rfl) rfl) rfl) rfl) rfl) rfl) rfl) rfl) rfl) rfl) rfl) rfl) rfl) rfl) rfl) rfl) rfl) rfl) rfl) rfl) rfl) rfl) rfl) rfl) rfl) rfl) rfl) rfl) rfl) rfl) rfl) rfl) rfl) rfl) rfl) rfl) rfl) rfl) rfl) rfl) rfl) rfl) rfl) rfl) rfl) rfl) rfl) rfl) rfl) rfl) rfl) rfl) rfl) rfl) rfl) rfl) rfl) rfl) rfl) rfl) rfl) rfl) rfl) rfl) rfl) rfl), k + 1, [], zM, ?_, ⟨rfl, hlt, take_eq_succ hx hy htk hxy, rfl⟩, (by omega)⟩
                · exact zE
      · have hn := hout (fun h => h2 (by injection h))
        refine XA.draw (by kernel_rfl) _ _ [] [(0, .pu), (1, .pu), (2, .pu), (3, .pu), (4, .rd), (5, .pu), (6, .pu), (7, .pu), (8, .pu), (9, .rd), (10, .pu), (11, .pu), (12, .pu), (13, .pu), (14, .pu), (15, .pu), (16, .rd), (17, .pu), (18, .pu), (19, .pu), (20, .pu), (21, .rd), (22, .pu), (23, .pu), (24, .pu), (25, .pu), (26, .pu), (27, .pu), (28, .pu), (29, .rd), (30, .pu), (31, .pu), (32, .pu), (33, .pu), (34, .rd), (35, .wr), (36, .pu), (37, .pu), (38, .pu), (39, .pu), (40, .pu), (41, .pu), (42, .pu), (43, .rd), (44, .pu), (45, .pu), (46, .pu), (47, .pu), (48, .rd), (49, .wr), (50, .pu), (51, .pu), (52, .pu), (53, .pu), (54, .pu), (55, .pu), (56, .pu), (57, .rd), (58, .pu), (59, .pu), (60, .pu), (61, .pu), (62, .rd), (63, .wr), (64, .pu), (65, .pu), (66, .pu), (67, .pu), (68, .pu), (69, .pu), (70, .pu), (71, .rd), (72, .pu), (73, .pu), (74, .pu), (75, .pu), (76, .rd), (77, .wr), (78, .pu), (79, .pu)] (by kernel_rfl) (PH.sub.refl _) (Ent.nil _) ?_
        refine XPA.pu rfl rfl Gd.free Rd.mv ?_; refine XPA.pu rfl rfl Gd.free Rd.mv ?_; refine XPA.pu rfl rfl Gd.free (Rd.ixS rfl rfl) ?_; refine XPA.pu rfl rfl Gd.free (Rd.fA rfl) ?_; refine XPA.rd rfl rfl Gd.free (Rd.ldC rfl (tyrow rfl) rfl) ?_; refine XPA.pu rfl rfl Gd.free Rd.mv ?_
        refine XPA.pu rfl rfl Gd.free Rd.mv ?_; refine XPA.pu rfl rfl Gd.free (Rd.ixS rfl rfl) ?_; refine XPA.pu rfl rfl Gd.free (Rd.fA rfl) ?_; refine XPA.rd rfl rfl Gd.free (Rd.ldC rfl (tyrow rfl) rfl) ?_; refine XPA.pu rfl rfl Gd.free (Rd.neq rfl rfl) ?_; refine XPA.pu rfl rfl Gd.free Rd.mv ?_
        first | refine XPA.puG rfl rfl Rd.mv ?_ | refine XPA.puOffG rfl rfl ?_
        first | refine XPA.puG rfl rfl Rd.mv ?_ | refine XPA.puOffG rfl rfl ?_
        first | refine XPA.puG rfl rfl (Rd.ixS rfl rfl) ?_ | refine XPA.puOffG rfl rfl ?_
        first | refine XPA.puG rfl rfl (Rd.fA rfl) ?_ | refine XPA.puOffG rfl rfl ?_
        first | refine XPA.rdG rfl rfl (Rd.ldC rfl (tyrow rfl) rfl) ?_ | refine XPA.offG rfl rfl ?_
        first | refine XPA.puG rfl rfl Rd.mv ?_ | refine XPA.puOffG rfl rfl ?_
        first | refine XPA.puG rfl rfl Rd.mv ?_ | refine XPA.puOffG rfl rfl ?_
        first | refine XPA.puG rfl rfl (Rd.ixS rfl rfl) ?_ | refine XPA.puOffG rfl rfl ?_
        first | refine XPA.puG rfl rfl (Rd.fA rfl) ?_ | refine XPA.puOffG rfl rfl ?_
        first | refine XPA.rdG rfl rfl (Rd.ldC rfl (tyrow rfl) rfl) ?_ | refine XPA.offG rfl rfl ?_
        first | refine XPA.puG rfl rfl (Rd.neq rfl rfl) ?_ | refine XPA.puOffG rfl rfl ?_
        refine XPA.pu rfl rfl Gd.free zP ?_; refine XPA.pu rfl rfl Gd.free Rd.mv ?_
        first | refine XPA.puG rfl rfl Rd.mv ?_ | refine XPA.puOffG rfl rfl ?_
        first | refine XPA.puG rfl rfl Rd.mv ?_ | refine XPA.puOffG rfl rfl ?_
        first | refine XPA.puG rfl rfl (Rd.ixS rfl rfl) ?_ | refine XPA.puOffG rfl rfl ?_
        first | refine XPA.puG rfl rfl (Rd.fA rfl) ?_ | refine XPA.puOffG rfl rfl ?_
        first | refine XPA.rdG rfl rfl (Rd.ldA rfl) ?_ | refine XPA.offG rfl rfl ?_
        first | refine XPA.puG rfl rfl Rd.mv ?_ | refine XPA.puOffG rfl rfl ?_
        first | refine XPA.puG rfl rfl Rd.mv ?_ | refine XPA.puOffG rfl rfl ?_
        first | refine XPA.puG rfl rfl (Rd.ixS rfl rfl) ?_ | refine XPA.puOffG rfl rfl ?_
        first | refine XPA.puG rfl rfl (Rd.fA rfl) ?_ | refine XPA.puOffG rfl rfl ?_
        first | refine XPA.rdG rfl rfl (Rd.ldA rfl) ?_ | refine XPA.offG rfl rfl ?_
        first | refine XPA.off rfl rfl (by first | exact Gd.isB rfl rfl rfl | exact Gd.un rfl rfl | (apply Gd.isQ; rfl; rfl; exact (by first | exact (rfl : decide _ = true) | exact (rfl : decide _ = false) | (refine decide_eq_true ?_; assumption) | (refine decide_eq_false ?_; assumption) | (refine decide_eq_true ?_; omega) | (refine decide_eq_false ?_; omega)); rfl)) ?_ | refine XPA.puOff rfl rfl (by first | exact Gd.isB rfl rfl rfl | exact Gd.un rfl rfl | (apply Gd.isQ; rfl; rfl; exact (by first | exact (rfl : decide _ = true) | exact (rfl : decide _ = false) | (refine decide_eq_true ?_; assumption) | (refine decide_eq_false ?_; assumption) | (refine decide_eq_true ?_; omega) | (refine decide_eq_false ?_; omega)); rfl)) ?_ | refine XPA.offW rfl rfl (by first | exact Gd.isB rfl rfl rfl | exact Gd.un rfl rfl | (apply Gd.isQ; rfl; rfl; exact (by first | exact (rfl : decide _ = true) | exact (rfl : decide _ = false) | (refine decide_eq_true ?_; assumption) | (refine decide_eq_false ?_; assumption) | (refine decide_eq_true ?_; omega) | (refine decide_eq_false ?_; omega)); rfl)) ?_
        first | refine XPA.puG rfl rfl zJ ?_ | refine XPA.puOffG rfl rfl ?_
        refine XPA.pu rfl rfl Gd.free zP ?_; refine XPA.pu rfl rfl Gd.free Rd.mv ?_
        first | refine XPA.puG rfl rfl Rd.mv ?_ | refine XPA.puOffG rfl rfl ?_
        first | refine XPA.puG rfl rfl Rd.mv ?_ | refine XPA.puOffG rfl rfl ?_
        first | refine XPA.puG rfl rfl (Rd.ixS rfl rfl) ?_ | refine XPA.puOffG rfl rfl ?_
        first | refine XPA.puG rfl rfl (Rd.fA rfl) ?_ | refine XPA.puOffG rfl rfl ?_
        first | refine XPA.rdG rfl rfl (Rd.ldA rfl) ?_ | refine XPA.offG rfl rfl ?_
        first | refine XPA.puG rfl rfl Rd.mv ?_ | refine XPA.puOffG rfl rfl ?_
        first | refine XPA.puG rfl rfl Rd.mv ?_ | refine XPA.puOffG rfl rfl ?_
        first | refine XPA.puG rfl rfl (Rd.ixS rfl rfl) ?_ | refine XPA.puOffG rfl rfl ?_
        first | refine XPA.puG rfl rfl (Rd.fA rfl) ?_ | refine XPA.puOffG rfl rfl ?_
        first | refine XPA.rdG rfl rfl (Rd.ldA rfl) ?_ | refine XPA.offG rfl rfl ?_
        first | refine XPA.off rfl rfl (by first | exact Gd.isB rfl rfl rfl | exact Gd.un rfl rfl | (apply Gd.isQ; rfl; rfl; exact (by first | exact (rfl : decide _ = true) | exact (rfl : decide _ = false) | (refine decide_eq_true ?_; assumption) | (refine decide_eq_false ?_; assumption) | (refine decide_eq_true ?_; omega) | (refine decide_eq_false ?_; omega)); rfl)) ?_ | refine XPA.puOff rfl rfl (by first | exact Gd.isB rfl rfl rfl | exact Gd.un rfl rfl | (apply Gd.isQ; rfl; rfl; exact (by first | exact (rfl : decide _ = true) | exact (rfl : decide _ = false) | (refine decide_eq_true ?_; assumption) | (refine decide_eq_false ?_; assumption) | (refine decide_eq_true ?_; omega) | (refine decide_eq_false ?_; omega)); rfl)) ?_ | refine XPA.offW rfl rfl (by first | exact Gd.isB rfl rfl rfl | exact Gd.un rfl rfl | (apply Gd.isQ; rfl; rfl; exact (by first | exact (rfl : decide _ = true) | exact (rfl : decide _ = false) | (refine decide_eq_true ?_; assumption) | (refine decide_eq_false ?_; assumption) | (refine decide_eq_true ?_; omega) | (refine decide_eq_false ?_; omega)); rfl)) ?_
        first | refine XPA.puG rfl rfl zJ ?_ | refine XPA.puOffG rfl rfl ?_
        refine XPA.pu rfl rfl Gd.free zP ?_; refine XPA.pu rfl rfl Gd.free Rd.mv ?_
        first | refine XPA.puG rfl rfl Rd.mv ?_ | refine XPA.puOffG rfl rfl ?_
        first | refine XPA.puG rfl rfl Rd.mv ?_ | refine XPA.puOffG rfl rfl ?_
        first | refine XPA.puG rfl rfl (Rd.ixS rfl rfl) ?_ | refine XPA.puOffG rfl rfl ?_
        first | refine XPA.puG rfl rfl (Rd.fA rfl) ?_ | refine XPA.puOffG rfl rfl ?_
        first | refine XPA.rdG rfl rfl (Rd.ldC rfl (tyrow rfl) rfl) ?_ | refine XPA.offG rfl rfl ?_
        first | refine XPA.puG rfl rfl Rd.mv ?_ | refine XPA.puOffG rfl rfl ?_
        first | refine XPA.puG rfl rfl Rd.mv ?_ | refine XPA.puOffG rfl rfl ?_
        first | refine XPA.puG rfl rfl (Rd.ixS rfl rfl) ?_ | refine XPA.puOffG rfl rfl ?_
        first | refine XPA.puG rfl rfl (Rd.fA rfl) ?_ | refine XPA.puOffG rfl rfl ?_
        first | refine XPA.rdG rfl rfl (Rd.ldC rfl (tyrow rfl) rfl) ?_ | refine XPA.offG rfl rfl ?_
        first | refine XPA.off rfl rfl (by first | exact Gd.isB rfl rfl rfl | exact Gd.un rfl rfl | (apply Gd.isQ; rfl; rfl; exact (by first | exact (rfl : decide _ = true) | exact (rfl : decide _ = false) | (refine decide_eq_true ?_; assumption) | (refine decide_eq_false ?_; assumption) | (refine decide_eq_true ?_; omega) | (refine decide_eq_false ?_; omega)); rfl)) ?_ | refine XPA.puOff rfl rfl (by first | exact Gd.isB rfl rfl rfl | exact Gd.un rfl rfl | (apply Gd.isQ; rfl; rfl; exact (by first | exact (rfl : decide _ = true) | exact (rfl : decide _ = false) | (refine decide_eq_true ?_; assumption) | (refine decide_eq_false ?_; assumption) | (refine decide_eq_true ?_; omega) | (refine decide_eq_false ?_; omega)); rfl)) ?_ | refine XPA.offW rfl rfl (by first | exact Gd.isB rfl rfl rfl | exact Gd.un rfl rfl | (apply Gd.isQ; rfl; rfl; exact (by first | exact (rfl : decide _ = true) | exact (rfl : decide _ = false) | (refine decide_eq_true ?_; assumption) | (refine decide_eq_false ?_; assumption) | (refine decide_eq_true ?_; omega) | (refine decide_eq_false ?_; omega)); rfl)) ?_
        first | refine XPA.puG rfl rfl zJ ?_ | refine XPA.puOffG rfl rfl ?_
        refine XPA.pu rfl rfl Gd.free zP ?_; refine XPA.pu rfl rfl Gd.free Rd.mv ?_
        first | refine XPA.puG rfl rfl Rd.mv ?_ | refine XPA.puOffG rfl rfl ?_
        first | refine XPA.puG rfl rfl Rd.mv ?_ | refine XPA.puOffG rfl rfl ?_
        first | refine XPA.puG rfl rfl (Rd.ixS rfl rfl) ?_ | refine XPA.puOffG rfl rfl ?_
        first | refine XPA.puG rfl rfl (Rd.fA rfl) ?_ | refine XPA.puOffG rfl rfl ?_
        first | refine XPA.rdG rfl rfl (Rd.ldC rfl (tyrow rfl) rfl) ?_ | refine XPA.offG rfl rfl ?_
        first | refine XPA.puG rfl rfl Rd.mv ?_ | refine XPA.puOffG rfl rfl ?_
        first | refine XPA.puG rfl rfl Rd.mv ?_ | refine XPA.puOffG rfl rfl ?_
        first | refine XPA.puG rfl rfl (Rd.ixS rfl rfl) ?_ | refine XPA.puOffG rfl rfl ?_
        first | refine XPA.puG rfl rfl (Rd.fA rfl) ?_ | refine XPA.puOffG rfl rfl ?_
        first | refine XPA.rdG rfl rfl (Rd.ldC rfl (tyrow rfl) rfl) ?_ | refine XPA.offG rfl rfl ?_
        first | refine XPA.off rfl rfl (by first | exact Gd.isB rfl rfl rfl | exact Gd.un rfl rfl | (apply Gd.isQ; rfl; rfl; exact (by first | exact (rfl : decide _ = true) | exact (rfl : decide _ = false) | (refine decide_eq_true ?_; assumption) | (refine decide_eq_false ?_; assumption) | (refine decide_eq_true ?_; omega) | (refine decide_eq_false ?_; omega)); rfl)) ?_ | refine XPA.puOff rfl rfl (by first | exact Gd.isB rfl rfl rfl | exact Gd.un rfl rfl | (apply Gd.isQ; rfl; rfl; exact (by first | exact (rfl : decide _ = true) | exact (rfl : decide _ = false) | (refine decide_eq_true ?_; assumption) | (refine decide_eq_false ?_; assumption) | (refine decide_eq_true ?_; omega) | (refine decide_eq_false ?_; omega)); rfl)) ?_ | refine XPA.offW rfl rfl (by first | exact Gd.isB rfl rfl rfl | exact Gd.un rfl rfl | (apply Gd.isQ; rfl; rfl; exact (by first | exact (rfl : decide _ = true) | exact (rfl : decide _ = false) | (refine decide_eq_true ?_; assumption) | (refine decide_eq_false ?_; assumption) | (refine decide_eq_true ?_; omega) | (refine decide_eq_false ?_; omega)); rfl)) ?_
        first | refine XPA.puG rfl rfl zJ ?_ | refine XPA.puOffG rfl rfl ?_
        refine XPA.pu rfl rfl Gd.free zP ?_; refine XPA.nil ?_; refine zT (XA.condT rfl zY ?_); refine zS (zR (zO rfl Rd.asg ?_)); refine zN (zT (XA.ret (DA.inb_ret (DA.thn_ret (DA.thn_ret (DA.inb_ret (DA.thn_ret ?_)))))))
        exact bodyA.ret (ResA.one rfl rfl) (Ent.nil _) ⟨false, rfl, ⟨fun h => (by cases h), fun h => absurd h hn⟩, rfl, rfl⟩
    · have hn := hout (fun h => h1 (by injection h))
      refine XA.draw (by kernel_rfl) _ _ [] [(0, .pu), (1, .pu), (2, .pu), (3, .pu), (4, .rd), (5, .pu), (6, .pu), (7, .pu), (8, .pu), (9, .rd), (10, .pu), (11, .pu), (12, .pu), (13, .pu), (14, .pu), (15, .pu), (16, .rd), (17, .pu), (18, .pu), (19, .pu), (20, .pu), (21, .rd), (22, .pu), (23, .pu), (24, .pu), (25, .pu), (26, .pu), (27, .pu), (28, .pu), (29, .rd), (30, .pu), (31, .pu), (32, .pu), (33, .pu), (34, .rd), (35, .wr), (36, .pu), (37, .pu), (38, .pu), (39, .pu), (40, .pu), (41, .pu), (42, .pu), (43, .rd), (44, .pu), (45, .pu), (46, .pu), (47, .pu), (48, .rd), (49, .wr), (50, .pu), (51, .pu), (52, .pu), (53, .pu), (54, .pu), (55, .pu), (56, .pu), (57, .rd), (58, .pu), (59, .pu), (60, .pu), (61, .pu), (62, .rd), (63, .wr), (64, .pu), (65, .pu), (66, .pu), (67, .pu), (68, .pu), (69, .pu), (70, .pu), (71, .rd), (72, .pu), (73, .pu), (74, .pu), (75, .pu), (76, .rd), (77, .wr), (78, .pu), (79, .pu)] (by kernel_rfl) (PH.sub.refl _) (Ent.nil _) ?_
      refine XPA.pu rfl rfl Gd.free Rd.mv ?_; refine XPA.pu rfl rfl Gd.free Rd.mv ?_; refine XPA.pu rfl rfl Gd.free (Rd.ixS rfl rfl) ?_; refine XPA.pu rfl rfl Gd.free (Rd.fA rfl) ?_; refine XPA.rd rfl rfl Gd.free (Rd.ldC rfl (tyrow rfl) rfl) ?_; refine XPA.pu rfl rfl Gd.free Rd.mv ?_
      refine XPA.pu rfl rfl Gd.free Rd.mv ?_; refine XPA.pu rfl rfl Gd.free (Rd.ixS rfl rfl) ?_; refine XPA.pu rfl rfl Gd.free (Rd.fA rfl) ?_; refine XPA.rd rfl rfl Gd.free (Rd.ldC rfl (tyrow rfl) rfl) ?_; refine XPA.pu rfl rfl Gd.free (Rd.neq rfl rfl) ?_; refine XPA.pu rfl rfl Gd.free Rd.mv ?_
      first | refine XPA.puG rfl rfl Rd.mv ?_ | refine XPA.puOffG rfl rfl ?_
      first | refine XPA.puG rfl rfl Rd.mv ?_ | refine XPA.puOffG rfl rfl ?_
      first | refine XPA.puG rfl rfl (Rd.ixS rfl rfl) ?_ | refine XPA.puOffG rfl rfl ?_
      first | refine XPA.puG rfl rfl (Rd.fA rfl) ?_ | refine XPA.puOffG rfl rfl ?_
      first | refine XPA.rdG rfl rfl (Rd.ldC rfl (tyrow rfl) rfl) ?_ | refine XPA.offG rfl rfl ?_
      first | refine XPA.puG rfl rfl Rd.mv ?_ | refine XPA.puOffG rfl rfl ?_
      first | refine XPA.puG rfl rfl Rd.mv ?_ | refine XPA.puOffG rfl rfl ?_
      first | refine XPA.puG rfl rfl (Rd.ixS rfl rfl) ?_ | refine XPA.puOffG rfl rfl ?_
      first | refine XPA.puG rfl rfl (Rd.fA rfl) ?_ | refine XPA.puOffG rfl rfl ?_
      first | refine XPA.rdG rfl rfl (Rd.ldC rfl (tyrow rfl) rfl) ?_ | refine XPA.offG rfl rfl ?_
      first | refine XPA.puG rfl rfl (Rd.neq rfl rfl) ?_ | refine XPA.puOffG rfl rfl ?_
      refine XPA.pu rfl rfl Gd.free zP ?_; refine XPA.pu rfl rfl Gd.free Rd.mv ?_
      first | refine XPA.puG rfl rfl Rd.mv ?_ | refine XPA.puOffG rfl rfl ?_
      first | refine XPA.puG rfl rfl Rd.mv ?_ | refine XPA.puOffG rfl rfl ?_
      first | refine XPA.puG rfl rfl (Rd.ixS rfl rfl) ?_ | refine XPA.puOffG rfl rfl ?_
      first | refine XPA.puG rfl rfl (Rd.fA rfl) ?_ | refine XPA.puOffG rfl rfl ?_
      first | refine XPA.rdG rfl rfl (Rd.ldA rfl) ?_ | refine XPA.offG rfl rfl ?_
      first | refine XPA.puG rfl rfl Rd.mv ?_ | refine XPA.puOffG rfl rfl ?_
      first | refine XPA.puG rfl rfl Rd.mv ?_ | refine XPA.puOffG rfl rfl ?_
      first | refine XPA.puG rfl rfl (Rd.ixS rfl rfl) ?_ | refine XPA.puOffG rfl rfl ?_
      first | refine XPA.puG rfl rfl (Rd.fA rfl) ?_ | refine XPA.puOffG rfl rfl ?_
      first | refine XPA.rdG rfl rfl (Rd.ldA rfl) ?_ | refine XPA.offG rfl rfl ?_
      first | refine XPA.off rfl rfl (by first | exact Gd.isB rfl rfl rfl | exact Gd.un rfl rfl | (apply Gd.isQ; rfl; rfl; exact (by first | exact (rfl : decide _ = true) | exact (rfl : decide _ = false) | (refine decide_eq_true ?_; assumption) | (refine decide_eq_false ?_; assumption) | (refine decide_eq_true ?_; omega) | (refine decide_eq_false ?_; omega)); rfl)) ?_ | refine XPA.puOff rfl rfl (by first | exact Gd.isB rfl rfl rfl | exact Gd.un rfl rfl | (apply Gd.isQ; rfl; rfl; exact (by first | exact (rfl : decide _ = true) | exact (rfl : decide _ = false) | (refine decide_eq_true ?_; assumption) | (refine decide_eq_false ?_; assumption) | (refine decide_eq_true ?_; omega) | (refine decide_eq_false ?_; omega)); rfl)) ?_ | refine XPA.offW rfl rfl (by first | exact Gd.isB rfl rfl rfl | exact Gd.un rfl rfl | (apply Gd.isQ; rfl; rfl; exact (by first | exact (rfl : decide _ = true) | exact (rfl : decide _ = false) | (refine decide_eq_true ?_; assumption) | (refine decide_eq_false ?_; assumption) | (refine decide_eq_true ?_; omega) | (refine decide_eq_false ?_; omega)); rfl)) ?_
      first | refine XPA.puG rfl rfl zJ ?_ | refine XPA.puOffG rfl rfl ?_
      refine XPA.pu rfl rfl Gd.free zP ?_; refine XPA.pu rfl rfl Gd.free Rd.mv ?_
      first | refine XPA.puG rfl rfl Rd.mv ?_ | refine XPA.puOffG rfl rfl ?_
      first | refine XPA.puG rfl rfl Rd.mv ?_ | refine XPA.puOffG rfl rfl ?_
      first | refine XPA.puG rfl rfl (Rd.ixS rfl rfl) ?_ | refine XPA.puOffG rfl rfl ?_
      first | refine XPA.puG rfl rfl (Rd.fA rfl) ?_ | refine XPA.puOffG rfl rfl ?_
      first | refine XPA.rdG rfl rfl (Rd.ldA rfl) ?_ | refine XPA.offG rfl rfl ?_
      first | refine XPA.puG rfl rfl Rd.mv ?_ | refine XPA.puOffG rfl rfl ?_
      first | refine XPA.puG rfl rfl Rd.mv ?_ | refine XPA.puOffG rfl rfl ?_
      first | refine XPA.puG rfl rfl (Rd.ixS rfl rfl) ?_ | refine XPA.puOffG rfl rfl ?_
      first | refine XPA.puG rfl rfl (Rd.fA rfl) ?_ | refine XPA.puOffG rfl rfl ?_
      first | refine XPA.rdG rfl rfl (Rd.ldA rfl) ?_ | refine XPA.offG rfl rfl ?_
      first | refine XPA.off rfl rfl (by first | exact Gd.isB rfl rfl rfl | exact Gd.un rfl rfl | (apply Gd.isQ; rfl; rfl; exact (by first | exact (rfl : decide _ = true) | exact (rfl : decide _ = false) | (refine decide_eq_true ?_; assumption) | (refine decide_eq_false ?_; assumption) | (refine decide_eq_true ?_; omega) | (refine decide_eq_false ?_; omega)); rfl)) ?_ | refine XPA.puOff rfl rfl (by first | exact Gd.isB rfl rfl rfl | exact Gd.un rfl rfl | (apply Gd.isQ; rfl; rfl; exact (by first | exact (rfl : decide _ = true) | exact (rfl : decide _ = false) | (refine decide_eq_true ?_; assumption) | (refine decide_eq_false ?_; assumption) | (refine decide_eq_true ?_; omega) | (refine decide_eq_false ?_; omega)); rfl)) ?_ | refine XPA.offW rfl rfl (by first | exact Gd.isB rfl rfl rfl | exact Gd.un rfl rfl | (apply Gd.isQ; rfl; rfl; exact (by first | exact (rfl : decide _ = true) | exact (rfl : decide _ = false) | (refine decide_eq_true ?_; assumption) | (refine decide_eq_false ?_; assumption) | (refine decide_eq_true ?_; omega) | (refine decide_eq_false ?_; omega)); rfl)) ?_
      first | refine XPA.puG rfl rfl zJ ?_ | refine XPA.puOffG rfl rfl ?_
      refine XPA.pu rfl rfl Gd.free zP ?_; refine XPA.pu rfl rfl Gd.free Rd.mv ?_
      first | refine XPA.puG rfl rfl Rd.mv ?_ | refine XPA.puOffG rfl rfl ?_
      first | refine XPA.puG rfl rfl Rd.mv ?_ | refine XPA.puOffG rfl rfl ?_
      first | refine XPA.puG rfl rfl (Rd.ixS rfl rfl) ?_ | refine XPA.puOffG rfl rfl ?_
      first | refine XPA.puG rfl rfl (Rd.fA rfl) ?_ | refine XPA.puOffG rfl rfl ?_
      first | refine XPA.rdG rfl rfl (Rd.ldC rfl (tyrow rfl) rfl) ?_ | refine XPA.offG rfl rfl ?_
      first | refine XPA.puG rfl rfl Rd.mv ?_ | refine XPA.puOffG rfl rfl ?_
      first | refine XPA.puG rfl rfl Rd.mv ?_ | refine XPA.puOffG rfl rfl ?_
      first | refine XPA.puG rfl rfl (Rd.ixS rfl rfl) ?_ | refine XPA.puOffG rfl rfl ?_
      first | refine XPA.puG rfl rfl (Rd.fA rfl) ?_ | refine XPA.puOffG rfl rfl ?_
      first | refine XPA.rdG rfl rfl (Rd.ldC rfl (tyrow rfl) rfl) ?_ | refine XPA.offG rfl rfl ?_
      first | refine XPA.off rfl rfl (by first | exact Gd.isB rfl rfl rfl | exact Gd.un rfl rfl | (apply Gd.isQ; rfl; rfl; exact (by first | exact (rfl : decide _ = true) | exact (rfl : decide _ = false) | (refine decide_eq_true ?_; assumption) | (refine decide_eq_false ?_; assumption) | (refine decide_eq_true ?_; omega) | (refine decide_eq_false ?_; omega)); rfl)) ?_ | refine XPA.puOff rfl rfl (by first | exact Gd.isB rfl rfl rfl | exact Gd.un rfl rfl | (apply Gd.isQ; rfl; rfl; exact (by first | exact (rfl : decide _ = true) | exact (rfl : decide _ = false) | (refine decide_eq_true ?_; assumption) | (refine decide_eq_false ?_; assumption) | (refine decide_eq_true ?_; omega) | (refine decide_eq_false ?_; omega)); rfl)) ?_ | refine XPA.offW rfl rfl (by first | exact Gd.isB rfl rfl rfl | exact Gd.un rfl rfl | (apply Gd.isQ; rfl; rfl; exact (by first | exact (rfl : decide _ = true) | exact (rfl : decide _ = false) | (refine decide_eq_true ?_; assumption) | (refine decide_eq_false ?_; assumption) | (refine decide_eq_true ?_; omega) | (refine decide_eq_false ?_; omega)); rfl)) ?_
      first | refine XPA.puG rfl rfl zJ ?_ | refine XPA.puOffG rfl rfl ?_
      refine XPA.pu rfl rfl Gd.free zP ?_; refine XPA.pu rfl rfl Gd.free Rd.mv ?_
      first | refine XPA.puG rfl rfl Rd.mv ?_ | refine XPA.puOffG rfl rfl ?_
      first | refine XPA.puG rfl rfl Rd.mv ?_ | refine XPA.puOffG rfl rfl ?_
      first | refine XPA.puG rfl rfl (Rd.ixS rfl rfl) ?_ | refine XPA.puOffG rfl rfl ?_
      first | refine XPA.puG rfl rfl (Rd.fA rfl) ?_ | refine XPA.puOffG rfl rfl ?_
      first | refine XPA.rdG rfl rfl (Rd.ldC rfl (tyrow rfl) rfl) ?_ | refine XPA.offG rfl rfl ?_
      first | refine XPA.puG rfl rfl Rd.mv ?_ | refine XPA.puOffG rfl rfl ?_
      first | refine XPA.puG rfl rfl Rd.mv ?_ | refine XPA.puOffG rfl rfl ?_
      first | refine XPA.puG rfl rfl (Rd.ixS rfl rfl) ?_ | refine XPA.puOffG rfl rfl ?_
      first | refine XPA.puG rfl rfl (Rd.fA rfl) ?_ | refine XPA.puOffG rfl rfl ?_
      first | refine XPA.rdG rfl rfl (Rd.ldC rfl (tyrow rfl) rfl) ?_ | refine XPA.offG rfl rfl ?_
      first | refine XPA.off rfl rfl (by first | exact Gd.isB rfl rfl rfl | exact Gd.un rfl rfl | (apply Gd.isQ; rfl; rfl; exact (by first | exact (rfl : decide _ = true) | exact (rfl : decide _ = false) | (refine decide_eq_true ?_; assumption) | (refine decide_eq_false ?_; assumption) | (refine decide_eq_true ?_; omega) | (refine decide_eq_false ?_; omega)); rfl)) ?_ | refine XPA.puOff rfl rfl (by first | exact Gd.isB rfl rfl rfl | exact Gd.un rfl rfl | (apply Gd.isQ; rfl; rfl; exact (by first | exact (rfl : decide _ = true) | exact (rfl : decide _ = false) | (refine decide_eq_true ?_; assumption) | (refine decide_eq_false ?_; assumption) | (refine decide_eq_true ?_; omega) | (refine decide_eq_false ?_; omega)); rfl)) ?_ | refine XPA.offW rfl rfl (by first | exact Gd.isB rfl rfl rfl | exact Gd.un rfl rfl | (apply Gd.isQ; rfl; rfl; exact (by first | exact (rfl : decide _ = true) | exact (rfl : decide _ = false) | (refine decide_eq_true ?_; assumption) | (refine decide_eq_false ?_; assumption) | (refine decide_eq_true ?_; omega) | (refine decide_eq_false ?_; omega)); rfl)) ?_
      first | refine XPA.puG rfl rfl zJ ?_ | refine XPA.puOffG rfl rfl ?_
      refine XPA.pu rfl rfl Gd.free zP ?_; refine XPA.nil ?_; refine zT (XA.condT rfl zY ?_); refine zS (zR (zO rfl Rd.asg ?_)); refine zN (zT (XA.ret (DA.inb_ret (DA.thn_ret (DA.thn_ret (DA.inb_ret (DA.thn_ret ?_)))))))
      exact bodyA.ret (ResA.one rfl rfl) (Ent.nil _) ⟨false, rfl, ⟨fun h => (by cases h), fun h => absurd h hn⟩, rfl, rfl⟩
  have hkn : k = l.length := by omega
  subst hkn
  rw [List.take_length, hlm, List.take_length] at htk
  refine XA.exit (DA.thn_exit (DA.thn_exit (DA.inb_same (zT (zS (zR (zO rfl Rd.asg ?_))))))); refine zN (zT (XA.ret ?_))
  exact bodyA.ret (ResA.one rfl rfl) (Ent.nil _) ⟨true, rfl, ⟨fun _ => htk, fun _ => rfl⟩, rfl, rfl⟩
theorem rsl_x (σ : PH) (x : St) : RSameListOK σ x.body ∧ RSameListOK σ x.els := by
  refine St.ind (P := fun x => RSameListOK σ x.body ∧ RSameListOK σ x.els) ?_ x
  intro op v e f body els ih jh
  exact ⟨rsameList_l σ body ih, rsameList_l σ els jh⟩
theorem rsameList_a (σ : PH) (l : List St) : RSameListOK σ l := rsameList_l σ l (fun x _ => rsl_x σ x)
theorem rsame_a (σ : PH) (cs cs' : List Value) (p q : Pr) (hp : PrAt σ cs p) (hq : PrAt σ cs' q) :
    CallsA Tryd.prog 15 #[.agg cs.toArray, .agg cs'.toArray] σ [] (RetA fun v σ' Γ' => ∃ b : Bool, v = .bool b ∧ (b = true ↔ p = q) ∧ σ = σ' ∧ Γ' = []) := by
  obtain ⟨vs, bs, rfl, hv, hb⟩ := hp
  obtain ⟨vs', bs', rfl, hv', hb'⟩ := hq
  obtain ⟨l, pb⟩ := p
  obtain ⟨m, qb⟩ := q
  simp only at hv hb hv' hb'
  obtain ⟨pl, cl, rfl, hle, hmx⟩ := hv.shape
  obtain ⟨pm, cm, rfl, hle2, hmx2⟩ := hv'.shape
  have hlen : l.length ≤ maxLen := by omega
  simp only [maxLen] at hlen
  have hno : ∀ (q : Prop), (Pr.mk l pb = Pr.mk m qb → q) → ¬ q → (false = true ↔ Pr.mk l pb = Pr.mk m qb) := fun q h1 h2 => ⟨fun h => (by cases h), fun h => absurd (h1 h) h2⟩
  by_cases hlm : l.length = m.length
  · 
    refine enterA2 Tryd.func15 rfl rfl rfl ?_
    refine zS (zR ?_)
    refine XOA.wr0 rfl WrA.bx ?_
    rintro _ _ _ ⟨g2, rfl, rfl, rfl⟩
    refine XOA.wr0 rfl WrA.bx ?_
    rintro _ _ _ ⟨g3, rfl, rfl, rfl⟩
    refine zO rfl Rd.asg ?_; refine zN (zT (zS (zS (zR (zV rfl rfl ?_))))); refine zB rfl rfl (tyrow rfl) rfl ?_; refine zO rfl (Rd.lenSlice (tyrow rfl) rfl rfl) ?_; refine zV rfl rfl ?_; refine zB rfl rfl (tyrow rfl) rfl ?_; refine zO rfl (Rd.lenSlice (tyrow rfl) rfl rfl) ?_
    refine zO rfl (Rd.neq rfl rfl) ?_; refine zA rfl ?_
    first | (refine zG ?_; refine zV rfl rfl ?_) | refine zH ?_
    first | (refine zG ?_; refine zB rfl rfl (tyrow rfl) rfl ?_) | refine zH ?_
    first | (refine zG ?_; refine zV rfl rfl ?_) | refine zH ?_
    first | (refine zG ?_; refine zB rfl rfl (tyrow rfl) rfl ?_) | refine zH ?_
    first | refine XOA.wanted rfl rfl ?_ | refine XOA.wq rfl rfl ?_
    refine XOA.wr0 rfl (WrA.cE (rsameList_a σ pb _ _ qb hb hb') rfl) ?_
    rintro _ _ _ ⟨_, ⟨b1, rfl, hb1, rfl, rfl⟩, rfl⟩
    refine XOA.cl ?_
    cases b1 with
    | false =>
      first | (refine zG ?_; refine zO rfl zJ ?_) | refine zH ?_
      refine zO rfl zP ?_; refine zN (zT (XA.condT rfl rfl (zS (zR (zO rfl Rd.asg ?_))))); refine zN (zT (XA.ret (DA.thn_ret ?_)))
      exact bodyA.ret (ResA.one rfl rfl) (Ent.nil _) ⟨false, rfl, hno (pb = qb) (fun h => by injection h) (fun h => absurd (hb1.2 h) (by decide)), rfl, rfl⟩
    | true =>
      first | (refine zG ?_; refine zO rfl zJ ?_) | refine zH ?_
      refine zO rfl zP ?_; refine zN (zT (XA.condF rfl rfl (XA.skip (zT (zS (zS (zR (zO rfl Rd.asg ?_)))))))); refine zN (zT (XA.block ?_))
      refine XA.gen [(2, _), (3, _), (4, _), (5, _)] ⟨(by with_reducible (conv => lhs; whnf)), (by with_reducible (conv => lhs; whnf)), (by with_reducible (conv => lhs; whnf)), (by with_reducible (conv => lhs; whnf)), trivial⟩ (fun δ => ?_)
      dsimp only [List.foldl]
      refine XA.loop [(4, 5), (21, 38)] (fun k : Nat => [(5, i64 k)]) (fun k σ' Γ' => σ = σ' ∧ k ≤ l.length ∧ l.take k = m.take k ∧ Γ' = [blk g2 [.slice pl l.length cl, bs] 25, blk g3 [.slice pm m.length cm, bs'] 25]) (fun k => l.length - k) 0 (by exact ⟨rfl, trivial⟩) (Δ0 := _) ?_ (⟨rfl, Nat.zero_le _, rfl, rfl⟩) ?_
      · exact zE
      rintro k δ _ _ ⟨rfl, hk, htk, rfl⟩
      dsimp only [ovr, List.foldl]
      refine zS (zS (zR (zA rfl ?_))); refine zV rfl rfl ?_; refine zB rfl rfl (tyrow rfl) rfl ?_; refine zO rfl (Rd.lenSlice (tyrow rfl) rfl rfl) ?_; refine zO rfl (Rd.lss rfl rfl) ?_; refine zN (zT ?_)
      refine XA.condp rfl (fun hlt => ?_) (fun hlt => ?_)
      · have hlt : k < l.length := by omega
        obtain ⟨x, hx⟩ : ∃ x, l[k]? = some x := ⟨_, List.getElem?_eq_getElem hlt⟩
        obtain ⟨y, hy⟩ : ∃ y, m[k]? = some y := ⟨_, List.getElem?_eq_getElem (by omega)⟩
        obtain ⟨g, o, row, rfl, ⟨rfl, -⟩, hrl, hrow⟩ := hv.at hx
        obtain ⟨g', o', row', rfl, ⟨rfl, -⟩, hrl', hrow'⟩ := hv'.at hy
        refine XA.skip (zT (zS (XA.block (zS ?_))))
        refine XA.draw (by kernel_rfl) _ _ [] [(0, .pu), (1, .rd), (2, .pu), (3, .pu), (4, .rd), (5, .pu), (6, .rd), (7, .pu), (8, .pu), (9, .rd), (10, .pu)] (by kernel_rfl) (PH.sub.refl _) (Ent.sel (R := blk g2 _ _) zL (Ent.sel (R := blk g3 _ _) zL (Ent.nil _))) ?_
        refine XPA.pu rfl rfl Gd.free (Rd.fA rfl) ?_; refine XPA.rd rfl rfl Gd.free (Rd.ldC rfl (tyrow rfl) rfl) ?_; refine XPA.pu rfl rfl Gd.free Rd.mv ?_; refine XPA.pu rfl rfl Gd.free (Rd.ixS rfl rfl) ?_; refine XPA.rd rfl rfl Gd.free (Rd.ldA rfl) ?_; refine XPA.pu rfl rfl Gd.free (Rd.fA rfl) ?_
        refine XPA.rd rfl rfl Gd.free (Rd.ldC rfl (tyrow rfl) rfl) ?_; refine XPA.pu rfl rfl Gd.free Rd.mv ?_; refine XPA.pu rfl rfl Gd.free (Rd.ixS rfl rfl) ?_; refine XPA.rd rfl rfl Gd.free (Rd.ldA rfl) ?_; refine XPA.pu rfl rfl Gd.free (Rd.neqVar (a := x) (b := y) rfl rfl) ?_; refine XPA.nil ?_
        refine zT ?_
        refine XA.condp rfl (fun hxy => ?_) (fun hxy => ?_)
        · refine zS ?_
          refine zR (zO rfl Rd.asg ?_); refine zN (zT (XA.ret (DA.inb_ret (DA.thn_ret (DA.thn_ret (DA.inb_ret (DA.thn_ret ?_)))))))
          refine bodyA.ret (ResA.one rfl rfl) (Ent.nil _) ⟨false, rfl, hno (l = m) (fun h => by injection h) (fun h => ?_), rfl, rfl⟩
          subst h
          rw [hx] at hy; simp only [Option.some.injEq] at hy
          exact absurd hy hxy
        have hxy : x = y := Decidable.not_not.1 hxy
        refine XA.skip (DA.inb_normal (zT (zR (zA rfl ?_)))); refine zO rfl zI ?_; refine zO rfl Rd.asg ?_; refine zN (zT ?_)
        refine ⟨(Keep.upd (Keep.upd (Keep.upd (Keep.upd (Keep.upd (Keep.upd (Keep.upd (Keep.upd (Keep.upd (Keep.upd (Keep.upd (Keep.upd (Keep.upd (Keep.upd (Keep.upd (Keep.upd (Keep.upd (Keep.upd (Keep.upd (Keep.upd (Keep.hav (Keep.hav (Keep.refl _ _) rfl) rfl) rfl) rfl) rfl) rfl) rfl) rfl) rfl) rfl) rfl) rfl) rfl) rfl) rfl) rfl) rfl) rfl) rfl) rfl) rfl) rfl), k + 1, _, zM, ?_, ⟨rfl, hlt, take_eq_succ hx hy htk hxy, rfl⟩, (by omega)⟩
        · exact zE
      have hkn : k = l.length := by omega
      subst hkn
      rw [List.take_length, hlm, List.take_length] at htk
      refine XA.exit (DA.thn_exit (DA.thn_exit (DA.inb_same (zT (zS (zR (zO rfl Rd.asg ?_))))))); refine zN (zT (XA.ret ?_))
      exact bodyA.ret (ResA.one rfl rfl) (Ent.nil _) ⟨true, rfl, ⟨fun _ => by rw [htk, hb1.1 rfl], fun _ => rfl⟩, rfl, rfl⟩
  · 
    refine enterA2 Tryd.func15 rfl rfl rfl ?_
    refine zS (zR ?_)
    refine XOA.wr0 rfl WrA.bx ?_
    rintro _ _ _ ⟨g2, rfl, rfl, rfl⟩
    refine XOA.wr0 rfl WrA.bx ?_
    rintro _ _ _ ⟨g3, rfl, rfl, rfl⟩
    refine zO rfl Rd.asg ?_; refine zN (zT (zS (zS (zR (zV rfl rfl ?_))))); refine zB rfl rfl (tyrow rfl) rfl ?_; refine zO rfl (Rd.lenSlice (tyrow rfl) rfl rfl) ?_; refine zV rfl rfl ?_; refine zB rfl rfl (tyrow rfl) rfl ?_; refine zO rfl (Rd.lenSlice (tyrow rfl) rfl rfl) ?_
    refine zO rfl (Rd.neq rfl rfl) ?_; refine zA rfl ?_
    first | (refine zG ?_; refine zV rfl rfl ?_) | refine zH ?_
    first | (refine zG ?_; refine zB rfl rfl (tyrow rfl) rfl ?_) | refine zH ?_
    first | (refine zG ?_; refine zV rfl rfl ?_) | refine zH ?_
    first | (refine zG ?_; refine zB rfl rfl (tyrow rfl) rfl ?_) | refine zH ?_
    first | refine zH ?_
    first | (refine zG ?_; refine zO rfl zJ ?_) | refine zH ?_
    refine zO rfl zP ?_; refine zN (zT (XA.condT rfl zY ?_)); refine zS (zR (zO rfl Rd.asg ?_)); refine zN (zT (XA.ret (DA.thn_ret ?_)))
    exact bodyA.ret (ResA.one rfl rfl) (Ent.nil _) ⟨false, rfl, hno (l = m) (fun h => by injection h) (fun h => hlm (by rw [h])), rfl, rfl⟩
end Go.Proofs.YthefnnkmpcgcmaaDoor

namespace Go.Proofs.YthefnnkmpcgcmaaDoor
open Go X
set_option maxHeartbeats 2000000
end Go.Proofs.YthefnnkmpcgcmaaDoor

