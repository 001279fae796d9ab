/- Part 3 of 5 of what the claim needs: Td, Ra, Rb, Rc, Rd, Re, Rf, Rg, Rh. -/
import Derived.Test.YthefnnkmpcgcmaaGreatDoorWre2
namespace Go.Proofs.YthefnnkmpcgcmaaGreatDoor
open Go X
set_option maxHeartbeats 2000000
def scanG (s : ByteArray) : Nat → Nat → List Tk → Except Nat (List Tk)
  | 0, _, acc => .ok acc
  | f + 1, i, acc => if i < s.size then match oneT s i with
      | some t => scanG s f (i + t.text.size + runB blankB s (i + t.text.size)) (acc ++ [t])
      | none => .error i
    else .ok acc
abbrev PErr (α : Type) := Except (Int × Int) α
def errC {α : Type} : PErr α → Int | .error e => e.1 | .ok _ => 0
def errA {α : Type} : PErr α → Int | .error e => e.2 | .ok _ => 0
def okL {α : Type} : PErr (List α) → List α | .error _ => [] | .ok l => l
def scanE : Except Nat (List Tk) → PErr (List Tk)
  | .ok l => .ok l
  | .error i => .error (7, (i : Int))
def scanP (s : ByteArray) : PErr (List Tk) := if 6000 < s.size then .error (3, 6000) else scanE (scanG s (s.size + 1) (runB blankB s 0) [])
theorem oneT_size {s : ByteArray} {i : Nat} {t : Tk} (hi : i < s.size) (h : oneT s i = some t) : t.at_ = i ∧ 1 ≤ t.text.size ∧ i + t.text.size ≤ s.size := by
  have hl := runB_le letterB s (i := i) (by omega)
  have hd := runB_le digitB s (i := i + 1) (by omega)
  rw [oneT] at h
  split at h
  · cases h
    refine ⟨rfl, ?_, ?_⟩ <;> simp only [ByteArray.size_extract] <;> omega
  · split at h
    · rename_i hq
      have h1 : runB letterB s i = runB letterB s (i + 1) + 1 := by rw [runB_eq, if_pos ⟨hi, hq⟩]
      cases h
      refine ⟨rfl, ?_, ?_⟩ <;> simp only [ByteArray.size_extract] <;> omega
    · split at h
      · rw [Option.map_eq_some_iff] at h
        obtain ⟨n, -, rfl⟩ := h
        refine ⟨rfl, ?_, ?_⟩ <;> simp only [ByteArray.size_extract] <;> omega
      · cases h
/-- What a token of a text is. -/
structure TkOk (s : ByteArray) (t : Tk) : Prop where
  at_ : t.at_ < s.size
  size : 1 ≤ t.text.size ∧ t.text.size ≤ s.size
  num : i64ok t.n
  word : t.num = false → t.n = 0
theorem oneT_ok {s : ByteArray} {i : Nat} {t : Tk} (hi : i < s.size) (h : oneT s i = some t) : TkOk s t := by
  obtain ⟨h1, h2, h3⟩ := oneT_size hi h
  have z : i64ok 0 := ⟨by decide, by decide⟩
  refine ⟨by omega, ⟨h2, by omega⟩, ?_, ?_⟩
  · rw [oneT] at h
    split at h
    · cases h; exact z
    · split at h
      · cases h; exact z
      · split at h
        · rw [Option.map_eq_some_iff] at h
          obtain ⟨n, hn, rfl⟩ := h
          rw [longOf] at hn
          split at hn
          · rename_i m hm
            split at hn
            · cases hn; exact parse_bounds hm
            · cases hn
          · cases hn
        · cases h
  · intro hnum
    rw [oneT] at h
    split at h
    · cases h; rfl
    · split at h
      · cases h; rfl
      · split at h
        · rw [Option.map_eq_some_iff] at h
          obtain ⟨n, hn, rfl⟩ := h
          cases hnum
        · cases h
theorem scanG_ok {s : ByteArray} : ∀ (f i : Nat) (acc l : List Tk), scanG s f i acc = .ok l → (∀ t ∈ acc, TkOk s t) → ∀ t ∈ l, TkOk s t
  | 0, i, acc, l, h, ha => by cases h; exact ha
  | f + 1, i, acc, l, h, ha => by
    rw [scanG] at h
    split at h
    · rename_i hi
      split at h
      · rename_i t ht
        refine scanG_ok f _ _ l h (fun x hx => ?_)
        rcases List.mem_append.1 hx with hx | hx
        · exact ha x hx
        · rw [List.mem_singleton.1 hx]; exact oneT_ok hi ht
      · cases h
    · cases h; exact ha
theorem scanP_ok {s : ByteArray} {l : List Tk} (h : scanP s = .ok l) : s.size ≤ 6000 ∧ ∀ t ∈ l, TkOk s t := by
  rw [scanP] at h
  split at h
  · cases h
  · cases hl : scanG s (s.size + 1) (runB blankB s 0) [] with
    | ok l' =>
      rw [hl] at h
      cases h
      exact ⟨by omega, scanG_ok _ _ _ _ hl (fun t ht => by cases ht)⟩
    | error i => rw [hl] at h; cases h
def rTk : RT Tk := fun _ cs t => cs = tkC t
def tksC (l : List Tk) : List Value := (l.map tkC).flatten
theorem tksC_snoc (l : List Tk) (t : Tk) : tksC (l ++ [t]) = tksC l ++ tkC t := by simp [tksC]
theorem rows_tk (σ : PH) (l : List Tk) : Rows_ 4 rTk σ (l.map tkC) l :=
  ⟨by simp, fun r hr => by obtain ⟨i, -, rfl⟩ := List.mem_map.1 hr; rfl, fun k r x hr hx => by rw [List.getElem?_map, hx] at hr; simpa [rTk] using hr.symm⟩
theorem scan_t (σ : PH) (s : ByteArray) (hs : s.size ≤ 100000000) (hT : Tab σ) (hE : Errs σ) :
    CallsA Tryz.prog 12 #[.string s] σ [] (RetA fun v σ' Γ' => ∃ sl, v = .tuple #[sl, .agg #[i64 (errC (scanP s)), i64 (errA (scanP s))]] ∧ PSl 4 rTk σ' sl (okL (scanP s)) ∧ σ.sub σ' ∧ Γ' = []) := by
  by_cases h6 : 6000 < s.size
  · have e : scanP s = .error (3, 6000) := by rw [scanP, if_pos h6]
    rw [e]
    refine enterA1 Tryz.func12 rfl rfl rfl ?_
    refine zS (zR (zO rfl Rd.asg ?_))
    refine XOA.wr0 rfl (WrA.alloc (tyrow rfl)) ?_
    rintro _ _ _ ⟨g3, rfl, rfl, rfl⟩
    refine zN (zT (zS (zS (zR (zA rfl ?_))))); refine zO rfl (Rd.lenString (tyrow rfl) rfl rfl) ?_; refine zO rfl (Rd.gtr rfl rfl) ?_; refine zN (zT (XA.condT rfl (by first | rfl | exact decide_eq_true (by omega)) ?_)); refine zS (zR ?_)
    refine zO rfl (Rd.bl (fun _ _ => tyrow) rfl rfl rfl) ?_
    refine zO rfl Rd.asg ?_
    refine XOA.wr0 rfl (WrA.st (tyrow rfl) rfl) ?_
    rintro _ _ _ ⟨rfl, rfl, rfl⟩
    refine zN (zT (XA.ret (DA.thn_ret ?_)))
    exact bodyA.ret (ResA.tcT rfl rfl rfl (Ld.atBlk (tyrow rfl) rfl zL rfl (by first | exact take0 (by first | rfl | assumption | (refine (ints_len _).trans ?_; assumption) | (simp [*]; (first | done | fail))) | assumption | exact take_app (by first | rfl | assumption | (refine (ints_len _).trans ?_; assumption) | (simp [*]; (first | done | fail))) | (conv => lhs; simp only [List.drop_succ_cons, List.drop_zero, List.take_succ_cons, List.take_zero])) (by first | rfl | assumption | (refine (ints_len _).trans ?_; assumption) | (simp [*]; (first | done | fail))))) (Ent.nil _) ⟨_, rfl, PSl.nil _ _ _, .refl _, rfl⟩
  have h0 := runB_le blankB s (i := 0) (by omega)
  have hb0 := run_t σ s 0 27 blankB blank_t (by omega) hs
  obtain ⟨R, hR⟩ : ∃ R, scanG s (s.size + 1) (runB blankB s 0) [] = R := ⟨_, rfl⟩
  have hP : scanP s = scanE R := by rw [scanP, if_neg h6, hR]
  refine enterA1 Tryz.func12 rfl rfl rfl ?_
  refine zS (zR (zO rfl Rd.asg ?_))
  refine XOA.wr0 rfl (WrA.alloc (tyrow rfl)) ?_
  rintro _ _ _ ⟨g3, rfl, rfl, rfl⟩
  refine zN (zT (zS (zS (zR (zA rfl ?_))))); refine zO rfl (Rd.lenString (tyrow rfl) rfl rfl) ?_; refine zO rfl (Rd.gtr rfl rfl) ?_; refine zN (zT (XA.condF rfl (by first | rfl | exact decide_eq_false (by omega)) ?_)); refine XA.skip (zT (zS (zR (zO rfl Rd.asg ?_))))
  refine zN (zT (zS (zS (zR (zA rfl ?_)))))
  refine XOA.wr0 rfl (WrA.cE (hb0) rfl) ?_
  rintro _ _ _ ⟨_, ⟨rfl, rfl, rfl⟩, rfl⟩
  refine XOA.cl ?_; refine zO rfl Rd.asg ?_; refine zN (zT (XA.block ?_))
  refine XA.ent (Ent.selNil (e := 70) (size := 4) (Ent.refl _)) ?_
  refine XA.gen [(0, _), (2, _), (3, _), (4, _), (5, _)] ⟨(by with_reducible (conv => lhs; whnf)), (by with_reducible (conv => lhs; whnf)), (by with_reducible (conv => lhs; whnf)), (by with_reducible (conv => lhs; whnf)), (by with_reducible (conv => lhs; whnf)), trivial⟩ (fun δ => ?_)
  dsimp only [List.foldl]
  refine XA.loop [(2, 2), (4, 7), (14, 42)] (fun x : (Nat × (Nat × List Tk)) × (Option Addr × Nat) => [(5, i64 x.1.1), (4, .slice x.2.1 x.1.2.1 x.2.2)]) (fun x σ' Γ' => σ = σ' ∧ x.1.1 ≤ s.size ∧ x.1.2.1 ≤ x.1.1 ∧ x.1.2.2.length = x.1.2.1 ∧ (∃ f, s.size < x.1.1 + f ∧ R = scanG s f x.1.1 x.1.2.2) ∧ Γ' = [blk g3 [i64 0, i64 0] 28, lst 70 4 (.slice x.2.1 x.1.2.1 x.2.2) x.1.2.1 (tksC x.1.2.2)]) (fun x => s.size - x.1.1) ((runB blankB s 0, (0, [])), (none, 0)) (by exact ⟨rfl, rfl, trivial⟩) (Δ0 := _) ?_ (⟨rfl, by simpa using h0, Nat.zero_le _, rfl, ⟨s.size + 1, by simp only; omega, hR.symm⟩, rfl⟩) ?_
  · exact zE
  rintro ⟨⟨i, n, acc⟩, p, c⟩ δ _ _ ⟨rfl, hi, hn, hacc, ⟨f, hf, hRf⟩, rfl⟩
  dsimp only [ovr, List.foldl]
  simp only at hi hn hacc hf hRf
  refine zS (zS (zR (zA rfl ?_))); refine zA rfl ?_; refine zO rfl (Rd.lenString (tyrow rfl) rfl rfl) ?_; refine zO rfl (Rd.lss rfl rfl) ?_; refine zN (zT ?_)
  refine XA.condp rfl (fun hlt => ?_) (fun hlt => ?_)
  · have hlt : i < s.size := by omega
    have hone := one_tok σ s i hlt hs hT hE
    obtain ⟨f, rfl⟩ : ∃ f', f = f' + 1 := ⟨f - 1, by omega⟩
    rw [scanG, if_pos hlt] at hRf
    refine XA.skip (zT (zS (XA.block (zS (zR (zA rfl ?_)))))); refine zA rfl ?_
    cases ho : oneT s i with
    | none =>
      rw [ho] at hone hRf
      dsimp only [oneC] at hone
      simp only at hRf
      subst hRf
      rw [hP]
      refine XOA.wr0 rfl (WrA.cE (hone) rfl) ?_
      rintro _ _ _ ⟨_, ⟨rfl, rfl, rfl⟩, rfl⟩
      refine XOA.cl ?_; refine zA rfl ?_; refine zO rfl (Rd.extract rfl rfl) ?_; refine zO rfl (Rd.extract rfl rfl) ?_
      refine XOA.wr0 rfl (WrA.alloc (tyrow rfl)) ?_
      rintro _ _ _ ⟨g6, rfl, rfl, rfl⟩
      refine XOA.wr0 rfl (WrA.st (tyrow rfl) rfl) ?_
      rintro _ _ _ ⟨rfl, rfl, rfl⟩
      refine zO rfl Rd.asg ?_; refine zN (zT (zS (zS (zR (zA rfl ?_))))); refine zO rfl (Rd.neq rfl rfl) ?_; refine zN (zT (XA.condT rfl rfl (zS (zR (zA rfl ?_))))); refine zA rfl ?_
      refine zO rfl (Rd.bl (fun _ _ => tyrow) rfl rfl rfl) ?_
      refine zO rfl Rd.asg ?_
      refine XOA.wr0 rfl (WrA.st (tyrow rfl) rfl) ?_
      rintro _ _ _ ⟨rfl, rfl, rfl⟩
      refine zN (zT (XA.ret (DA.thn_ret (DA.inb_ret (DA.thn_ret (DA.thn_ret (DA.inb_ret (DA.thn_ret ?_))))))))
      exact bodyA.ret (ResA.tcT rfl rfl rfl (Ld.atBlk (tyrow rfl) rfl zL rfl (by first | exact take0 (by first | rfl | assumption | (refine (ints_len _).trans ?_; assumption) | (simp [*]; (first | done | fail))) | assumption | exact take_app (by first | rfl | assumption | (refine (ints_len _).trans ?_; assumption) | (simp [*]; (first | done | fail))) | (conv => lhs; simp only [List.drop_succ_cons, List.drop_zero, List.take_succ_cons, List.take_zero])) (by first | rfl | assumption | (refine (ints_len _).trans ?_; assumption) | (simp [*]; (first | done | fail))))) (Ent.nil _) ⟨_, rfl, PSl.nil _ _ _, .refl _, rfl⟩
    | some t =>
      obtain ⟨hat, hz1, hz2⟩ := oneT_size hlt ho
      rw [ho] at hone hRf
      dsimp only [oneC, tkC] at hone
      simp only at hRf
      have hle := runB_le blankB s (i := i + t.text.size) hz2
      have hbl := run_t σ s (i + t.text.size) 27 blankB blank_t hz2 hs
      refine XOA.wr0 rfl (WrA.cE (hone) rfl) ?_
      rintro _ _ _ ⟨_, ⟨rfl, rfl, rfl⟩, rfl⟩
      refine XOA.cl ?_; refine zA rfl ?_; refine zO rfl (Rd.extract rfl rfl) ?_; refine zO rfl (Rd.extract rfl rfl) ?_
      refine XOA.wr0 rfl (WrA.alloc (tyrow rfl)) ?_
      rintro _ _ _ ⟨g6, rfl, rfl, rfl⟩
      refine XOA.wr0 rfl (WrA.st (tyrow rfl) rfl) ?_
      rintro _ _ _ ⟨rfl, rfl, rfl⟩
      refine zO rfl Rd.asg ?_; refine zN (zT (zS (zS (zR (zA rfl ?_))))); refine zO rfl (Rd.neq rfl rfl) ?_; refine zN (zT (XA.condF rfl rfl (XA.skip (zT (zS (zR (zA rfl ?_))))))); refine zO rfl (Rd.ldA rfl) ?_
      refine XOA.wr0 rfl (WrA.bs1 (tyrow rfl) rfl (tyrow rfl)) ?_
      rintro _ _ _ ⟨g36, rfl, rfl, rfl⟩
      refine XOA.wr0 rfl (WrA.ap1 (tyrow rfl) rfl (tyrow rfl) rfl rfl rfl) ?_
      rintro _ _ _ ⟨p37, c37, rfl, rfl, rfl⟩
      refine zO rfl Rd.asg ?_; refine zN (zT (zR (zA rfl ?_))); refine zV rfl rfl ?_; refine zB rfl rfl (tyrow rfl) rfl ?_; refine zO rfl (Rd.lenString (tyrow rfl) rfl rfl) ?_; refine zO rfl zI ?_; refine zO rfl Rd.asg ?_; refine zN (DA.inb_normal (zT (zR (zA rfl ?_)))); refine zA rfl ?_; refine zA rfl ?_
      refine XOA.wr0 rfl (WrA.cE (hbl) rfl) ?_
      rintro _ _ _ ⟨_, ⟨rfl, rfl, rfl⟩, rfl⟩
      refine XOA.cl ?_; refine zO rfl zI ?_; refine zO rfl Rd.asg ?_; refine zN (zT ?_)
      refine ⟨(Keep.upd (Keep.upd (Keep.updO (Keep.upd (Keep.upd (Keep.upd (Keep.upd (Keep.upd (Keep.upd (Keep.upd (Keep.upd (Keep.upd (Keep.upd (Keep.updO (Keep.updO (Keep.upd (Keep.upd (Keep.upd (Keep.upd (Keep.upd (Keep.updN (Keep.updO (Keep.upd (Keep.upd (Keep.upd (Keep.updO (Keep.upd (Keep.upd (Keep.upd (Keep.upd (Keep.upd (Keep.upd (Keep.upd (Keep.upd (Keep.hav (Keep.hav (Keep.hav (Keep.refl _ _) rfl) rfl) rfl) rfl) rfl) rfl) rfl) rfl) rfl) rfl) rfl) rfl) rfl) rfl) rfl) rfl)) rfl) rfl) rfl) rfl) rfl) rfl) rfl) rfl) rfl) rfl) rfl) rfl) rfl) rfl) rfl) rfl) rfl) rfl) rfl) rfl), ((i + t.text.size + runB blankB s (i + t.text.size), (n + 1, acc ++ [t])), (p37, c37)), _, zM, ?_, ⟨rfl, hle, by show n + 1 ≤ i + t.text.size + runB blankB s (i + t.text.size); omega, by show (acc ++ [t]).length = n + 1; rw [List.length_append, hacc]; rfl, ⟨f, by show s.size < i + t.text.size + runB blankB s (i + t.text.size) + f; omega, hRf⟩, rfl⟩, (by show s.size - (i + t.text.size + runB blankB s (i + t.text.size)) < s.size - i; omega)⟩
      · rw [tksC_snoc]; exact zE
  have hRe : R = .ok acc := by
    rw [hRf]
    cases f with
    | zero => rfl
    | succ f => rw [scanG, if_neg (by omega)]
  refine XA.exit (DA.thn_exit (DA.thn_exit (DA.inb_same (zT (zS (zR (zA rfl ?_)))))))
  refine zO rfl (Rd.bl (fun _ _ => tyrow) rfl rfl rfl) ?_
  refine zO rfl Rd.asg ?_
  refine XOA.wr0 rfl (WrA.st (tyrow rfl) rfl) ?_
  rintro _ _ _ ⟨rfl, rfl, rfl⟩
  refine zN (zT (XA.ret ?_))
  refine DA.frz (R := lst 70 4 (.slice p n c) _ _) zL lst_frz lst_frz_mono ?_
  rintro σ1 ⟨⟩ hf1 hs1
  rw [hP, hRe]
  exact bodyA.ret (ResA.tcT rfl rfl rfl (Ld.atBlk (tyrow rfl) rfl zL rfl (by first | exact take0 (by first | rfl | assumption | (refine (ints_len _).trans ?_; assumption) | (simp [*]; (first | done | fail))) | assumption | exact take_app (by first | rfl | assumption | (refine (ints_len _).trans ?_; assumption) | (simp [*]; (first | done | fail))) | (conv => lhs; simp only [List.drop_succ_cons, List.drop_zero, List.take_succ_cons, List.take_zero])) (by first | rfl | assumption | (refine (ints_len _).trans ?_; assumption) | (simp [*]; (first | done | fail))))) (Ent.nil _) ⟨_, rfl, (rows_tk σ1 acc).psl hacc.symm hf1, hs1, rfl⟩
end Go.Proofs.YthefnnkmpcgcmaaGreatDoor

namespace Go.Proofs.YthefnnkmpcgcmaaGreatDoor
open Go X
set_option maxHeartbeats 2000000
/-- The fault at what is left. -/
def failAt (e : Int) (l : List Tk) (code : Int) : Int × Int := match l with
  | t :: _ => (code, t.at_)
  | [] => (if code = 5 then 6 else code, e)
def isT (w : ByteArray) : List Tk → Bool
  | t :: _ => !t.num && decide (t.text = w)
  | [] => false
def goneP (x : Int × Int) : List PanicEntry := [{ v := .iface 42 (.agg #[i64 x.1, i64 x.2]), recovered := false }]
theorem X.Rd.sliceTail4 {P : Program} {ρ : Env} {S : Heap → Prop} {ty : TypeId} {T : TypeId} {x y : Operand} {r re : Ty} {e len cap : Nat} {a : Option Addr} {kk : IntKind} (hT : tyOf P T = some r) (hk : r.k = .slice e) (hE : tyOf P e = some re) (hs1 : re.size = 4) (hx : ev ρ x = .slice a len cap) (hy : ev ρ y = .int kk 1) (hl : 1 ≤ len) : Rd P ρ S (.slice T x (some y) none none) ty (.slice (if cap = 1 then a else a.map (·.add 4)) (len - 1) (cap - 1)) := by
  have h := Rd.slicePart (P := P) (ρ := ρ) (S := S) (ty := ty) (lo := some y) (hi := none) (mx := none) (l := 1) (hh := len) (m := cap) hT hk hE hx (fun w => by
    have hb := fun c w => bound_ok (P := P) (y := len) (c := c) (kk := kk) (i := 1) (by decide) (by omega) w
    simp [Instr.sliceBounds, hy, hb])
  rw [hs1] at h
  exact h
theorem X.Rd.mkIS {P : Program} {ρ : Env} {S : Heap → Prop} {ty T : TypeId} {x : Operand} {v : Value} {r : Ty} {fs : List (TypeId × Nat)} (hT : tyOf P T = some r) (hk : r.k = .struct fs) (hx : ev ρ x = v) : Rd P ρ S (.makeInterface T x) ty (.iface T v) := by
  refine .pure fun d pos af g w => ?_
  obtain ⟨dd, i, z, e1, e2, -⟩ := tyOf_spec hT
  rw [hk] at e2
  cases dd <;> simp [kindOf] at e2
  simp [execOp, Instr.makeInterface, run_underlying e1, hx]
theorem psl_tail {α : Type} {R : RT α} {σ : PH} {p : Option Addr} {c : Nat} {t : α} {r : List α} (h : PSl 4 R σ (.slice p (t :: r).length c) (t :: r)) : PSl 4 R σ (.slice (if c = 1 then p else p.map (·.add 4)) ((t :: r).length - 1) (c - 1)) r := by
  obtain ⟨p', c', rows, h1, h2, h3, h4, h5, h6, h7⟩ := h
  simp only [Value.slice.injEq] at h1
  obtain ⟨rfl, -, rfl⟩ := h1
  obtain ⟨g, o, rfl, hr⟩ := h7 (by simp)
  match rows, h4 with
  | row :: rows, h4 =>
    have hl := h5 row (by simp)
    simp only [List.length_cons] at h2 h4
    refine ⟨_, _, rows, by rw [List.length_cons, Nat.add_sub_cancel], by omega, by omega, by omega, fun q hq => h5 q (by simp [hq]), fun i q x a b => h6 (i + 1) q x (by simpa using a) (by simpa using b), fun hp => ?_⟩
    refine ⟨g, o + 4, by rw [if_neg (by omega), Option.map_some, addr_add], ?_⟩
    refine hr.sub (j := 4) ?_
    rw [List.flatten_cons, ← hl, List.drop_left, List.take_of_length_le (Nat.le_refl _)]
/-- The rows of the token that comes. -/
theorem psl_head {σ : PH} {p : Option Addr} {c : Nat} {t : Tk} {r : List Tk} (h : PSl 4 rTk σ (.slice p (t :: r).length c) (t :: r)) : ∃ g o, p = some ⟨g, o, none⟩ ∧ PRow σ g o [i64 t.at_] ∧ PRow σ g (o + 1) [.string t.text] ∧ PRow σ g (o + 2) [.bool t.num] ∧ PRow σ g (o + 3) [i64 t.n] := by
  obtain ⟨g, o, row, rfl, hr, -, hrow⟩ := h.at (k := 0) rfl
  have hr : row = tkC t := hr
  subst hr
  rw [Nat.zero_mul, Nat.add_zero] at hrow
  exact ⟨g, o, rfl, hrow.sub (j := 0) rfl, hrow.sub (j := 1) rfl, hrow.sub (j := 2) rfl, hrow.sub (j := 3) rfl⟩
section
variable (σ : PH) (b : Nat) (p : Option Addr) (n c : Nat) (e : Int) (vs : Value)
theorem fail_p (l : List Tk) (code : Int) (hl : PSl 4 rTk σ (.slice p l.length c) l) :
    CallsA Tryz.prog 54 #[ptr b, i64 code] σ [blk b [.slice p l.length c, i64 e, vs] 46] (PanA fun ch σ' Γ' => ch = goneP (failAt e l code) ∧ σ = σ' ∧ Γ' = [blk b [.slice p l.length c, i64 e, vs] 46]) := by
  cases l with
  | cons t r =>
    obtain ⟨g, o, rfl, h0, h1, h2, h3⟩ := psl_head hl
    have hpos : (0 : Int) < ((t :: r).length : Nat) := by rw [List.length_cons]; omega
    refine enterA2 Tryz.func54 rfl rfl rfl ?_
    refine zS (zR (zA rfl ?_)); refine zO rfl (Rd.nilCheck rfl) ?_; refine zV rfl rfl ?_; refine zB rfl rfl (tyrow rfl) rfl ?_; refine zO rfl Rd.asg ?_; refine zN (zT (zS (zS (zR (zA rfl ?_))))); refine zO rfl (Rd.nilCheck rfl) ?_; refine zV rfl rfl ?_; refine zB rfl rfl (tyrow rfl) rfl ?_
    refine zO rfl (Rd.lenSlice (tyrow rfl) rfl rfl) ?_; refine zO rfl (Rd.gtr rfl rfl) ?_; refine zN (zT (XA.condT rfl (by first | rfl | exact decide_eq_true hpos) ?_)); refine zR (zA rfl ?_); refine zO rfl (Rd.nilCheck rfl) ?_; refine zV rfl rfl ?_; refine zB rfl rfl (tyrow rfl) rfl ?_
    refine zO rfl (Rd.ixS rfl rfl) ?_; refine zV rfl rfl ?_; refine zB rfl rfl (tyrow rfl) rfl ?_; refine zO rfl Rd.asg ?_; refine zN (zT (zR (zA rfl ?_))); refine zA rfl ?_
    refine zO rfl (Rd.bl (fun _ _ => tyrow) rfl rfl rfl) ?_
    refine zO rfl (X.Rd.mkIS (tyrow rfl) rfl rfl) ?_
    refine XOA.throw rfl rfl ?_
    repeat (first | refine DA.thn_panic ?_ | refine DA.inb_panic ?_)
    exact bodyA.panic zE ⟨rfl, rfl, rfl⟩
  | nil =>
    by_cases q : code = 5
    · subst q
      refine enterA2 Tryz.func54 rfl rfl rfl ?_
      refine zS (zR (zA rfl ?_)); refine zO rfl (Rd.nilCheck rfl) ?_; refine zV rfl rfl ?_; refine zB rfl rfl (tyrow rfl) rfl ?_; refine zO rfl Rd.asg ?_; refine zN (zT (zS (zS (zR (zA rfl ?_))))); refine zO rfl (Rd.nilCheck rfl) ?_; refine zV rfl rfl ?_; refine zB rfl rfl (tyrow rfl) rfl ?_
      refine zO rfl (Rd.lenSlice (tyrow rfl) rfl rfl) ?_; refine zO rfl (Rd.gtr rfl rfl) ?_; refine zN (zT (XA.condF rfl rfl (zS (zR (zA rfl ?_))))); refine zO rfl (Rd.eql rfl rfl) ?_; refine zN (zT (XA.condT rfl rfl (zR (zO rfl Rd.asg ?_)))); refine zN (zT (zR (zA rfl ?_))); refine zA rfl ?_
      refine zO rfl (Rd.bl (fun _ _ => tyrow) rfl rfl rfl) ?_
      refine zO rfl (X.Rd.mkIS (tyrow rfl) rfl rfl) ?_
      refine XOA.throw rfl rfl ?_
      repeat (first | refine DA.thn_panic ?_ | refine DA.inb_panic ?_)
      exact bodyA.panic zE ⟨rfl, rfl, rfl⟩
    · have hf : failAt e [] code = (code, e) := by rw [failAt, if_neg q]
      rw [hf]
      refine enterA2 Tryz.func54 rfl rfl rfl ?_
      refine zS (zR (zA rfl ?_)); refine zO rfl (Rd.nilCheck rfl) ?_; refine zV rfl rfl ?_; refine zB rfl rfl (tyrow rfl) rfl ?_; refine zO rfl Rd.asg ?_; refine zN (zT (zS (zS (zR (zA rfl ?_))))); refine zO rfl (Rd.nilCheck rfl) ?_; refine zV rfl rfl ?_; refine zB rfl rfl (tyrow rfl) rfl ?_
      refine zO rfl (Rd.lenSlice (tyrow rfl) rfl rfl) ?_; refine zO rfl (Rd.gtr rfl rfl) ?_; refine zN (zT (XA.condF rfl rfl (zS (zR (zA rfl ?_))))); refine zO rfl (Rd.eql rfl rfl) ?_; refine zN (zT (XA.condF rfl (by first | rfl | exact decide_eq_false q) ?_)); refine XA.skip (zT (zR (zA rfl ?_)))
      refine zA rfl ?_
      refine zO rfl (Rd.bl (fun _ _ => tyrow) rfl rfl rfl) ?_
      refine zO rfl (X.Rd.mkIS (tyrow rfl) rfl rfl) ?_
      refine XOA.throw rfl rfl ?_
      repeat (first | refine DA.thn_panic ?_ | refine DA.inb_panic ?_)
      exact bodyA.panic zE ⟨rfl, rfl, rfl⟩
theorem peek_p (l : List Tk) (w : ByteArray) (hl : PSl 4 rTk σ (.slice p l.length c) l) :
    CallsA Tryz.prog 52 #[ptr b, .string w] σ [blk b [.slice p l.length c, i64 e, vs] 46] (RetA fun v σ' Γ' => v = .bool (isT w l) ∧ σ = σ' ∧ Γ' = [blk b [.slice p l.length c, i64 e, vs] 46]) := by
  cases l with
  | cons t r =>
    obtain ⟨g, o, rfl, h0, h1, h2, h3⟩ := psl_head hl
    have hpos : (0 : Int) < ((t :: r).length : Nat) := by rw [List.length_cons]; omega
    have hlt : (0 : Int) ≤ 0 ∧ (0 : Int) < ((t :: r).length : Nat) := ⟨Int.le_refl _, hpos⟩
    obtain ⟨ta, tt, tn, tv⟩ := t
    cases tn with
    | true =>
      refine enterA2 Tryz.func52 rfl rfl rfl ?_
      refine zS (zR (zO rfl Rd.asg ?_)); refine zN (zT (zS (zR (zA rfl ?_)))); refine zO rfl (Rd.nilCheck rfl) ?_; refine zV rfl rfl ?_; refine zB rfl rfl (tyrow rfl) rfl ?_; refine zO rfl (Rd.lenSlice (tyrow rfl) rfl rfl) ?_; refine zO rfl (Rd.gtr rfl rfl) ?_; refine zA rfl ?_
      first | (refine zG ?_; refine zA rfl ?_) | refine zH ?_
      first | (refine zG ?_; refine zO rfl (Rd.nilCheck rfl) ?_) | refine zH ?_
      first | (refine zG ?_; refine zV rfl rfl ?_) | refine zH ?_
      first | (refine zG ?_; refine zB rfl rfl (tyrow rfl) rfl ?_) | refine zH ?_
      first | (refine zG ?_; refine zO rfl (Rd.ixS rfl rfl) ?_) | refine zH ?_
      first | (refine zG ?_; refine zV rfl rfl ?_) | refine zH ?_
      first | (refine zG ?_; refine zB rfl rfl (tyrow rfl) rfl ?_) | refine zH ?_
      first | (refine zG ?_; refine zO rfl zJ ?_) | refine zH ?_
      refine zO rfl zP ?_; refine zA rfl ?_
      first | (refine zG ?_; refine zA rfl ?_) | refine zH ?_
      first | (refine zG ?_; refine zO rfl (Rd.nilCheck rfl) ?_) | refine zH ?_
      first | (refine zG ?_; refine zV rfl rfl ?_) | refine zH ?_
      first | (refine zG ?_; refine zB rfl rfl (tyrow rfl) rfl ?_) | refine zH ?_
      first | (refine zG ?_; refine zO rfl (Rd.ixS rfl rfl) ?_) | refine zH ?_
      first | (refine zG ?_; refine zV rfl rfl ?_) | refine zH ?_
      first | (refine zG ?_; refine zB rfl rfl (tyrow rfl) rfl ?_) | refine zH ?_
      first | (refine zG ?_; refine zA rfl ?_) | refine zH ?_
      first | (refine zG ?_; refine zO rfl (Rd.eqls rfl rfl) ?_) | refine zH ?_
      refine zO rfl zP ?_; refine zO rfl Rd.asg ?_; refine zN (zT (XA.ret ?_))
      exact bodyA.ret (ResA.one rfl rfl) zE ⟨rfl, rfl, rfl⟩
    | false =>
      refine enterA2 Tryz.func52 rfl rfl rfl ?_
      refine zS (zR (zO rfl Rd.asg ?_)); refine zN (zT (zS (zR (zA rfl ?_)))); refine zO rfl (Rd.nilCheck rfl) ?_; refine zV rfl rfl ?_; refine zB rfl rfl (tyrow rfl) rfl ?_; refine zO rfl (Rd.lenSlice (tyrow rfl) rfl rfl) ?_; refine zO rfl (Rd.gtr rfl rfl) ?_; refine zA rfl ?_
      first | (refine zG ?_; refine zA rfl ?_) | refine zH ?_
      first | (refine zG ?_; refine zO rfl (Rd.nilCheck rfl) ?_) | refine zH ?_
      first | (refine zG ?_; refine zV rfl rfl ?_) | refine zH ?_
      first | (refine zG ?_; refine zB rfl rfl (tyrow rfl) rfl ?_) | refine zH ?_
      first | (refine zG ?_; refine zO rfl (Rd.ixS rfl rfl) ?_) | refine zH ?_
      first | (refine zG ?_; refine zV rfl rfl ?_) | refine zH ?_
      first | (refine zG ?_; refine zB rfl rfl (tyrow rfl) rfl ?_) | refine zH ?_
      first | (refine zG ?_; refine zO rfl zJ ?_) | refine zH ?_
      refine zO rfl zP ?_; refine zA rfl ?_
      first | (refine zG ?_; refine zA rfl ?_) | refine zH ?_
      first | (refine zG ?_; refine zO rfl (Rd.nilCheck rfl) ?_) | refine zH ?_
      first | (refine zG ?_; refine zV rfl rfl ?_) | refine zH ?_
      first | (refine zG ?_; refine zB rfl rfl (tyrow rfl) rfl ?_) | refine zH ?_
      first | (refine zG ?_; refine zO rfl (Rd.ixS rfl rfl) ?_) | refine zH ?_
      first | (refine zG ?_; refine zV rfl rfl ?_) | refine zH ?_
      first | (refine zG ?_; refine zB rfl rfl (tyrow rfl) rfl ?_) | refine zH ?_
      first | (refine zG ?_; refine zA rfl ?_) | refine zH ?_
      first | (refine zG ?_; refine zO rfl (Rd.eqls rfl rfl) ?_) | refine zH ?_
      refine zO rfl zP ?_; refine zO rfl Rd.asg ?_; refine zN (zT (XA.ret ?_))
      exact bodyA.ret (ResA.one rfl rfl) zE ⟨rfl, rfl, rfl⟩
  | nil =>
    refine enterA2 Tryz.func52 rfl rfl rfl ?_
    refine zS (zR (zO rfl Rd.asg ?_)); refine zN (zT (zS (zR (zA rfl ?_)))); refine zO rfl (Rd.nilCheck rfl) ?_; refine zV rfl rfl ?_; refine zB rfl rfl (tyrow rfl) rfl ?_; refine zO rfl (Rd.lenSlice (tyrow rfl) rfl rfl) ?_; refine zO rfl (Rd.gtr rfl rfl) ?_; refine zA rfl ?_
    first | (refine zG ?_; refine zA rfl ?_) | refine zH ?_
    first | (refine zG ?_; refine zO rfl (Rd.nilCheck rfl) ?_) | refine zH ?_
    first | (refine zG ?_; refine zV rfl rfl ?_) | refine zH ?_
    first | (refine zG ?_; refine zB rfl rfl (tyrow rfl) rfl ?_) | refine zH ?_
    first | (refine zG ?_; refine zO rfl (Rd.ixS rfl rfl) ?_) | refine zH ?_
    first | (refine zG ?_; refine zV rfl rfl ?_) | refine zH ?_
    first | (refine zG ?_; refine zB rfl rfl (tyrow rfl) rfl ?_) | refine zH ?_
    first | (refine zG ?_; refine zO rfl zJ ?_) | refine zH ?_
    refine zO rfl zP ?_; refine zA rfl ?_
    first | (refine zG ?_; refine zA rfl ?_) | refine zH ?_
    first | (refine zG ?_; refine zO rfl (Rd.nilCheck rfl) ?_) | refine zH ?_
    first | (refine zG ?_; refine zV rfl rfl ?_) | refine zH ?_
    first | (refine zG ?_; refine zB rfl rfl (tyrow rfl) rfl ?_) | refine zH ?_
    first | (refine zG ?_; refine zO rfl (Rd.ixS rfl rfl) ?_) | refine zH ?_
    first | (refine zG ?_; refine zV rfl rfl ?_) | refine zH ?_
    first | (refine zG ?_; refine zB rfl rfl (tyrow rfl) rfl ?_) | refine zH ?_
    first | (refine zG ?_; refine zA rfl ?_) | refine zH ?_
    first | (refine zG ?_; refine zO rfl (Rd.eqls rfl rfl) ?_) | refine zH ?_
    refine zO rfl zP ?_; refine zO rfl Rd.asg ?_; refine zN (zT (XA.ret ?_))
    exact bodyA.ret (ResA.one rfl rfl) zE ⟨rfl, rfl, rfl⟩
end
end Go.Proofs.YthefnnkmpcgcmaaGreatDoor

namespace Go.Proofs.YthefnnkmpcgcmaaGreatDoor
open Go X
set_option maxHeartbeats 2000000
def wordsL : List ByteArray := [⟨#[]⟩, ⟨#[110, 117, 109]⟩, ⟨#[118, 97, 114]⟩, ⟨#[103, 101, 116]⟩, ⟨#[97, 100, 100]⟩, ⟨#[115, 117, 98]⟩, ⟨#[109, 117, 108]⟩, ⟨#[108, 101, 115, 115]⟩, ⟨#[115, 97, 109, 101]⟩]
def verbsL : List ByteArray := [⟨#[]⟩, ⟨#[115, 101, 116]⟩, ⟨#[112, 117, 116]⟩, ⟨#[112, 114, 105, 110, 116]⟩, ⟨#[114, 101, 97, 100]⟩, ⟨#[119, 104, 105, 108, 101]⟩, ⟨#[105, 102]⟩, ⟨#[99, 111, 109, 109, 105, 116]⟩]
def wordOf (k : Int) : ByteArray := if 1 ≤ k ∧ k ≤ 8 then wordsL.getD k.toNat ByteArray.empty else ByteArray.empty
def verbOf (k : Int) : ByteArray := if 1 ≤ k ∧ k ≤ 7 then verbsL.getD k.toNat ByteArray.empty else ByteArray.empty
theorem word_p (σ : PH) (k : Int) : CallsA Tryz.prog 8 #[i64 k] σ [] (RetA fun v σ' Γ' => v = .string (wordOf k) ∧ σ = σ' ∧ Γ' = []) := by
  by_cases hr : 1 ≤ k ∧ k ≤ 8
  · have hp : ¬ partsOf k < 0 := by rw [partsOf]; split; (decide); split; (decide); rw [if_pos (by omega)]; decide
    have hop : k = 1 ∨ k = 2 ∨ k = 3 ∨ k = 4 ∨ k = 5 ∨ k = 6 ∨ k = 7 ∨ k = 8 := by omega
    have hel : (List.toArray [Value.string ⟨#[]⟩, .string ⟨#[110, 117, 109]⟩, .string ⟨#[118, 97, 114]⟩, .string ⟨#[103, 101, 116]⟩, .string ⟨#[97, 100, 100]⟩, .string ⟨#[115, 117, 98]⟩, .string ⟨#[109, 117, 108]⟩, .string ⟨#[108, 101, 115, 115]⟩, .string ⟨#[115, 97, 109, 101]⟩])[k.toNat]? = some (.string (wordOf k)) := by
      rcases hop with rfl | rfl | rfl | rfl | rfl | rfl | rfl | rfl <;> rfl
    refine enterA1 Tryz.func8 rfl rfl rfl ?_
    refine zS (zR (zO rfl Rd.asg ?_)); refine zN (zT (zS (zS (zR (zA rfl ?_)))))
    refine XOA.wr0 rfl (WrA.cE (parts_a σ k) rfl) ?_
    rintro _ _ _ ⟨_, ⟨rfl, rfl, rfl⟩, rfl⟩
    refine XOA.cl ?_; refine zO rfl (Rd.lss rfl rfl) ?_; refine zN (zT (XA.condF rfl (by first | rfl | exact decide_eq_false hp) ?_)); refine XA.skip (zT (zS (zR ?_)))
    refine zO rfl (Rd.buildA (cs := [Value.string ⟨#[]⟩, .string ⟨#[110, 117, 109]⟩, .string ⟨#[118, 97, 114]⟩, .string ⟨#[103, 101, 116]⟩, .string ⟨#[97, 100, 100]⟩, .string ⟨#[115, 117, 98]⟩, .string ⟨#[109, 117, 108]⟩, .string ⟨#[108, 101, 115, 115]⟩, .string ⟨#[115, 97, 109, 101]⟩]) (fun _ _ => tyrow) rfl rfl rfl rfl (by kernel_rfl)) ?_
    refine zA rfl ?_
    refine zO rfl (by apply Rd.indexAgg; exact tyrow rfl; rfl; exact tyrow rfl; rfl; rfl; rfl; rfl; exact (by omega); exact hel) ?_
    refine zO rfl Rd.asg ?_; refine zN (zT (XA.ret ?_))
    exact bodyA.ret (ResA.one rfl rfl) (Ent.refl _) ⟨rfl, rfl, rfl⟩
  · have hp : partsOf k < 0 := by rw [partsOf, if_neg (by omega), if_neg (by omega), if_neg (by omega)]; decide
    have hw : wordOf k = ByteArray.empty := by rw [wordOf, if_neg hr]
    rw [hw]
    refine enterA1 Tryz.func8 rfl rfl rfl ?_
    refine zS (zR (zO rfl Rd.asg ?_)); refine zN (zT (zS (zS (zR (zA rfl ?_)))))
    refine XOA.wr0 rfl (WrA.cE (parts_a σ k) rfl) ?_
    rintro _ _ _ ⟨_, ⟨rfl, rfl, rfl⟩, rfl⟩
    refine XOA.cl ?_; refine zO rfl (Rd.lss rfl rfl) ?_; refine zN (zT (XA.condT rfl (by first | rfl | exact decide_eq_true hp) ?_)); refine zS (zR (zO rfl Rd.asg ?_)); refine zN (zT (XA.ret (DA.thn_ret ?_)))
    exact bodyA.ret (ResA.one rfl rfl) (Ent.refl _) ⟨rfl, rfl, rfl⟩
theorem verb_p (σ : PH) (k : Int) : CallsA Tryz.prog 10 #[i64 k] σ [] (RetA fun v σ' Γ' => v = .string (verbOf k) ∧ σ = σ' ∧ Γ' = []) := by
  by_cases h1 : k < 1
  · have hw : verbOf k = ByteArray.empty := by rw [verbOf, if_neg (by omega)]
    rw [hw]
    refine enterA1 Tryz.func10 rfl rfl rfl ?_
    refine zS (zR (zO rfl Rd.asg ?_)); refine zN (zT (zS (zS (zR (zA rfl ?_))))); refine zO rfl (Rd.lss rfl rfl) ?_; refine zA rfl ?_
    first | (refine zG ?_; refine zA rfl ?_) | refine zH ?_
    first | (refine zG ?_; refine zO rfl (Rd.gtr rfl rfl) ?_) | refine zH ?_
    refine zO rfl zP ?_; refine zN (zT (XA.condT rfl (by first | rfl | exact decide_eq_true h1) ?_)); refine zS (zR (zO rfl Rd.asg ?_)); refine zN (zT (XA.ret (DA.thn_ret ?_)))
    exact bodyA.ret (ResA.one rfl rfl) (Ent.refl _) ⟨rfl, rfl, rfl⟩
  by_cases h7 : k > 7
  · have hw : verbOf k = ByteArray.empty := by rw [verbOf, if_neg (by omega)]
    rw [hw]
    refine enterA1 Tryz.func10 rfl rfl rfl ?_
    refine zS (zR (zO rfl Rd.asg ?_)); refine zN (zT (zS (zS (zR (zA rfl ?_))))); refine zO rfl (Rd.lss rfl rfl) ?_; refine zA rfl ?_
    first | (refine zG ?_; refine zA rfl ?_) | refine zH ?_
    first | (refine zG ?_; refine zO rfl (Rd.gtr rfl rfl) ?_) | refine zH ?_
    refine zO rfl zP ?_; refine zN (zT (XA.condT rfl (by first | rfl | exact decide_eq_true h7) ?_)); refine zS (zR (zO rfl Rd.asg ?_)); refine zN (zT (XA.ret (DA.thn_ret ?_)))
    exact bodyA.ret (ResA.one rfl rfl) (Ent.refl _) ⟨rfl, rfl, rfl⟩
  have hop : k = 1 ∨ k = 2 ∨ k = 3 ∨ k = 4 ∨ k = 5 ∨ k = 6 ∨ k = 7 := by omega
  have hel : (List.toArray [Value.string ⟨#[]⟩, .string ⟨#[115, 101, 116]⟩, .string ⟨#[112, 117, 116]⟩, .string ⟨#[112, 114, 105, 110, 116]⟩, .string ⟨#[114, 101, 97, 100]⟩, .string ⟨#[119, 104, 105, 108, 101]⟩, .string ⟨#[105, 102]⟩, .string ⟨#[99, 111, 109, 109, 105, 116]⟩])[k.toNat]? = some (.string (verbOf k)) := by
    rcases hop with rfl | rfl | rfl | rfl | rfl | rfl | rfl <;> rfl
  refine enterA1 Tryz.func10 rfl rfl rfl ?_
  refine zS (zR (zO rfl Rd.asg ?_)); refine zN (zT (zS (zS (zR (zA rfl ?_))))); refine zO rfl (Rd.lss rfl rfl) ?_; refine zA rfl ?_
  first | (refine zG ?_; refine zA rfl ?_) | refine zH ?_
  first | (refine zG ?_; refine zO rfl (Rd.gtr rfl rfl) ?_) | refine zH ?_
  refine zO rfl zP ?_; refine zN (zT (XA.condF rfl (by first | rfl | exact decide_eq_false h7) ?_)); refine XA.skip (zT (zS (zR ?_)))
  refine zO rfl (Rd.buildA (cs := [Value.string ⟨#[]⟩, .string ⟨#[115, 101, 116]⟩, .string ⟨#[112, 117, 116]⟩, .string ⟨#[112, 114, 105, 110, 116]⟩, .string ⟨#[114, 101, 97, 100]⟩, .string ⟨#[119, 104, 105, 108, 101]⟩, .string ⟨#[105, 102]⟩, .string ⟨#[99, 111, 109, 109, 105, 116]⟩]) (fun _ _ => tyrow) rfl rfl rfl rfl (by kernel_rfl)) ?_
  refine zA rfl ?_
  refine zO rfl (by apply Rd.indexAgg; exact tyrow rfl; rfl; exact tyrow rfl; rfl; rfl; rfl; rfl; exact (by omega); exact hel) ?_
  refine zO rfl Rd.asg ?_; refine zN (zT (XA.ret ?_))
  exact bodyA.ret (ResA.one rfl rfl) (Ent.refl _) ⟨rfl, rfl, rfl⟩
section
variable (σ : PH) (b : Nat) (p : Option Addr) (n c : Nat) (e : Int) (vs : Value)
theorem is_yes (t : Tk) (r : List Tk) (w : ByteArray) (hl : PSl 4 rTk σ (.slice p (t :: r).length c) (t :: r)) (h : isT w (t :: r) = true) :
    CallsA Tryz.prog 29 #[ptr b, .string w] σ [blk b [.slice p (t :: r).length c, i64 e, vs] 46] (RetA fun v σ' Γ' => v = .bool true ∧ ∃ p' c', PSl 4 rTk σ (.slice p' r.length c') r ∧ σ = σ' ∧ Γ' = [blk b [.slice p' r.length c', i64 e, vs] 46]) := by
  have hp := peek_p σ b p c e vs (t :: r) w hl
  rw [h] at hp
  refine enterA2 Tryz.func29 rfl rfl rfl ?_
  refine zS (zR (zO rfl Rd.asg ?_)); refine zN (zT (zS (zR (zA rfl ?_)))); refine zA rfl ?_
  refine XOA.wr0 rfl (WrA.cE (hp) rfl) ?_
  rintro _ _ _ ⟨_, ⟨rfl, rfl, rfl⟩, rfl⟩
  refine XOA.cl ?_; refine zO rfl Rd.asg ?_; refine zN (zT (zS (zS (zR (zA rfl ?_))))); refine zN (zT (XA.condT rfl rfl (zR (zA rfl ?_)))); refine zA rfl ?_; refine zO rfl (Rd.nilCheck rfl) ?_; refine zV rfl rfl ?_; refine zB rfl rfl (tyrow rfl) rfl ?_
  refine zO rfl (X.Rd.sliceTail4 (tyrow rfl) rfl (tyrow rfl) rfl rfl rfl (by simp)) ?_; refine zO rfl (Rd.nilCheck rfl) ?_; refine zV rfl rfl ?_
  refine XOA.wr0 rfl (WrA.st (tyrow rfl) rfl) ?_
  rintro _ _ _ ⟨rfl, rfl, rfl⟩
  refine zN (zT (zS (zR (zA rfl ?_)))); refine zO rfl Rd.asg ?_; refine zN (zT (XA.ret ?_))
  exact bodyA.ret (ResA.one rfl rfl) zE ⟨rfl, _, _, psl_tail hl, rfl, rfl⟩
theorem is_no (l : List Tk) (w : ByteArray) (hl : PSl 4 rTk σ (.slice p l.length c) l) (h : isT w l = false) :
    CallsA Tryz.prog 29 #[ptr b, .string w] σ [blk b [.slice p l.length c, i64 e, vs] 46] (RetA fun v σ' Γ' => v = .bool false ∧ σ = σ' ∧ Γ' = [blk b [.slice p l.length c, i64 e, vs] 46]) := by
  have hp := peek_p σ b p c e vs l w hl
  rw [h] at hp
  refine enterA2 Tryz.func29 rfl rfl rfl ?_
  refine zS (zR (zO rfl Rd.asg ?_)); refine zN (zT (zS (zR (zA rfl ?_)))); refine zA rfl ?_
  refine XOA.wr0 rfl (WrA.cE (hp) rfl) ?_
  rintro _ _ _ ⟨_, ⟨rfl, rfl, rfl⟩, rfl⟩
  refine XOA.cl ?_; refine zO rfl Rd.asg ?_; refine zN (zT (zS (zS (zR (zA rfl ?_))))); refine zN (zT (XA.condF rfl rfl (XA.skip (zT (zS (zR (zA rfl ?_))))))); refine zO rfl Rd.asg ?_; refine zN (zT (XA.ret ?_))
  exact bodyA.ret (ResA.one rfl rfl) zE ⟨rfl, rfl, rfl⟩
theorem want_ok (t : Tk) (r : List Tk) (w : ByteArray) (hl : PSl 4 rTk σ (.slice p (t :: r).length c) (t :: r)) (h : isT w (t :: r) = true) :
    CallsA Tryz.prog 56 #[ptr b, .string w] σ [blk b [.slice p (t :: r).length c, i64 e, vs] 46] (RetA fun v σ' Γ' => v = .tuple #[] ∧ ∃ p' c', PSl 4 rTk σ (.slice p' r.length c') r ∧ σ = σ' ∧ Γ' = [blk b [.slice p' r.length c', i64 e, vs] 46]) := by
  refine enterA2 Tryz.func56 rfl rfl rfl ?_
  refine zS (zR (zA rfl ?_)); refine zA rfl ?_
  refine XOA.wr0 rfl (WrA.cE (is_yes σ b p c e vs t r w hl h) rfl) ?_
  rintro _ _ _ ⟨_, ⟨rfl, p', c', hl', rfl, rfl⟩, rfl⟩
  refine XOA.cl ?_; refine zO rfl zJ ?_; refine zN (zT (XA.condF rfl rfl (XA.skip ?_)))
  exact bodyA.normal (ResA.none rfl) zE ⟨rfl, p', c', hl', rfl, rfl⟩
theorem want_bad (l : List Tk) (w : ByteArray) (hl : PSl 4 rTk σ (.slice p l.length c) l) (h : isT w l = false) :
    CallsA Tryz.prog 56 #[ptr b, .string w] σ [blk b [.slice p l.length c, i64 e, vs] 46] (PanA fun ch σ' Γ' => ch = goneP (failAt e l 5) ∧ σ = σ' ∧ Γ' = [blk b [.slice p l.length c, i64 e, vs] 46]) := by
  refine enterA2 Tryz.func56 rfl rfl rfl ?_
  refine zS (zR (zA rfl ?_)); refine zA rfl ?_
  refine XOA.wr0 rfl (WrA.cE (is_no σ b p c e vs l w hl h) rfl) ?_
  rintro _ _ _ ⟨_, ⟨rfl, rfl, rfl⟩, rfl⟩
  refine XOA.cl ?_; refine zO rfl zJ ?_; refine zN (zT (XA.condT rfl rfl (zR (zA rfl ?_))))
  refine XOA.die rfl (fail_p σ b p c e vs l 5 hl) rfl ?_
  rintro _ _ _ ⟨rfl, rfl, rfl⟩
  refine DA.cl ?_
  repeat (first | refine DA.thn_panic ?_ | refine DA.inb_panic ?_)
  exact bodyA.panic zE ⟨rfl, rfl, rfl⟩
theorem deep_ok (m : Int) (v : List Value) (h : m ≤ 12) :
    CallsA Tryz.prog 55 #[ptr b, i64 m] σ [blk b v 46] (RetA fun v' σ' Γ' => v' = .tuple #[] ∧ σ = σ' ∧ Γ' = [blk b v 46]) := by
  refine enterA2 Tryz.func55 rfl rfl rfl ?_
  refine zS (zR (zA rfl ?_)); refine zO rfl (Rd.gtr rfl rfl) ?_; refine zN (zT (XA.condF rfl (by first | rfl | exact decide_eq_false (by omega)) ?_)); refine XA.skip ?_
  exact bodyA.normal (ResA.none rfl) zE ⟨rfl, rfl, rfl⟩
theorem deep_bad (m : Int) (l : List Tk) (hl : PSl 4 rTk σ (.slice p l.length c) l) (h : ¬ m ≤ 12) :
    CallsA Tryz.prog 55 #[ptr b, i64 m] σ [blk b [.slice p l.length c, i64 e, vs] 46] (PanA fun ch σ' Γ' => ch = goneP (failAt e l 4) ∧ σ = σ' ∧ Γ' = [blk b [.slice p l.length c, i64 e, vs] 46]) := by
  refine enterA2 Tryz.func55 rfl rfl rfl ?_
  refine zS (zR (zA rfl ?_)); refine zO rfl (Rd.gtr rfl rfl) ?_; refine zN (zT (XA.condT rfl (by first | rfl | exact decide_eq_true (by omega)) ?_)); refine zR (zA rfl ?_)
  refine XOA.die rfl (fail_p σ b p c e vs l 4 hl) rfl ?_
  rintro _ _ _ ⟨rfl, rfl, rfl⟩
  refine DA.cl ?_
  repeat (first | refine DA.thn_panic ?_ | refine DA.inb_panic ?_)
  exact bodyA.panic zE ⟨rfl, rfl, rfl⟩
theorem num_ok (t : Tk) (r : List Tk) (hl : PSl 4 rTk σ (.slice p (t :: r).length c) (t :: r)) (h : t.num = true) :
    CallsA Tryz.prog 31 #[ptr b] σ [blk b [.slice p (t :: r).length c, i64 e, vs] 46] (RetA fun v σ' Γ' => v = i64 t.n ∧ ∃ p' c', PSl 4 rTk σ (.slice p' r.length c') r ∧ σ = σ' ∧ Γ' = [blk b [.slice p' r.length c', i64 e, vs] 46]) := by
  obtain ⟨g, o, rfl, h0, h1, h2, h3⟩ := psl_head hl
  have hne : ¬ (((t :: r).length : Nat) : Int) = 0 := by rw [List.length_cons]; omega
  rw [h] at h2
  refine enterA1 Tryz.func31 rfl rfl rfl ?_
  refine zS (zR (zO rfl Rd.asg ?_)); refine zN (zT (zS (zS (zR (zA rfl ?_))))); refine zO rfl (Rd.nilCheck rfl) ?_; refine zV rfl rfl ?_; refine zB rfl rfl (tyrow rfl) rfl ?_; refine zO rfl (Rd.lenSlice (tyrow rfl) rfl rfl) ?_; refine zO rfl (Rd.eql rfl rfl) ?_; refine zA rfl ?_
  first | (refine zG ?_; refine zA rfl ?_) | refine zH ?_
  first | (refine zG ?_; refine zO rfl (Rd.nilCheck rfl) ?_) | refine zH ?_
  first | (refine zG ?_; refine zV rfl rfl ?_) | refine zH ?_
  first | (refine zG ?_; refine zB rfl rfl (tyrow rfl) rfl ?_) | refine zH ?_
  first | (refine zG ?_; refine zO rfl (Rd.ixS rfl rfl) ?_) | refine zH ?_
  first | (refine zG ?_; refine zV rfl rfl ?_) | refine zH ?_
  first | (refine zG ?_; refine zB rfl rfl (tyrow rfl) rfl ?_) | refine zH ?_
  first | (refine zG ?_; refine zO rfl zJ ?_) | refine zH ?_
  refine zO rfl zP ?_; refine zN (zT (XA.condF rfl rfl (XA.skip (zT (zS (zR (zA rfl ?_))))))); refine zO rfl (Rd.nilCheck rfl) ?_; refine zV rfl rfl ?_; refine zB rfl rfl (tyrow rfl) rfl ?_; refine zO rfl (Rd.ixS rfl rfl) ?_; refine zV rfl rfl ?_; refine zB rfl rfl (tyrow rfl) rfl ?_
  refine zO rfl Rd.asg ?_; refine zN (zT (zS (zR (zA rfl ?_)))); refine zA rfl ?_; refine zO rfl (Rd.nilCheck rfl) ?_; refine zV rfl rfl ?_; refine zB rfl rfl (tyrow rfl) rfl ?_; refine zO rfl (X.Rd.sliceTail4 (tyrow rfl) rfl (tyrow rfl) rfl rfl rfl (by simp)) ?_; refine zO rfl (Rd.nilCheck rfl) ?_
  refine zV rfl rfl ?_
  refine XOA.wr0 rfl (WrA.st (tyrow rfl) rfl) ?_
  rintro _ _ _ ⟨rfl, rfl, rfl⟩
  refine zN (zT (zS (zR (zA rfl ?_)))); refine zO rfl Rd.asg ?_; refine zN (zT (XA.ret ?_))
  exact bodyA.ret (ResA.one rfl rfl) zE ⟨rfl, _, _, psl_tail hl, rfl, rfl⟩
end
end Go.Proofs.YthefnnkmpcgcmaaGreatDoor

namespace Go.Proofs.YthefnnkmpcgcmaaGreatDoor
open Go X
set_option maxHeartbeats 2000000
def idxG (s : ByteArray) : List Va → Nat → Option Nat
  | [], _ => none
  | v :: r, k => if v.name = s then some k else idxG s r (k + 1)
theorem varEqP (σ : PH) (g : Nat) (s : ByteArray) (w : Va) : CallsA Tryz.prog 76 #[vav w, ptr g] σ [blk g [.string s] 9] (RetA fun r σ' Γ' => r = .bool (decide (w.name = s)) ∧ σ = σ' ∧ Γ' = [blk g [.string s] 9]) := by
  unfold vav
  refine enterA2 Tryz.func76 rfl rfl rfl ?_
  refine zS (zR ?_)
  refine XOA.wr0 rfl WrA.bx ?_
  rintro _ _ _ ⟨g2, rfl, rfl, rfl⟩
  refine zO rfl Rd.asg ?_; refine zN (zT (zS (zR (zV rfl rfl ?_)))); refine zB rfl rfl (tyrow rfl) rfl ?_; refine zB rfl rfl (tyrow rfl) rfl ?_; refine zO rfl (Rd.eqls rfl rfl) ?_; refine zO rfl Rd.asg ?_; refine zN (zT (XA.ret ?_))
  exact bodyA.ret (ResA.one rfl rfl) zE ⟨rfl, rfl, rfl⟩
def idxI : Option Nat → Int
  | some k => k
  | none => -1
theorem indexP (σ : PH) (g : Nat) (s : ByteArray) (sl : Value) (l : List Va) (hl : PSl 2 rVa σ sl l) : CallsA Tryz.prog 75 #[sl, .func (.func 76) #[] #[ptr g]] σ [blk g [.string s] 9] (RetA fun r σ' Γ' => r = i64 (idxI (idxG s l 0)) ∧ σ = σ' ∧ Γ' = [blk g [.string s] 9]) := by
  obtain ⟨pl, cl, rfl, hle, hmx⟩ := hl.shape
  have hlen : l.length ≤ maxLen := by omega
  simp only [maxLen] at hlen
  refine enterA2 Tryz.func75 rfl rfl rfl ?_
  refine zS (zR (zO rfl Rd.asg ?_)); refine zN (zT (zS (zS (zR (zA rfl ?_))))); refine zO rfl (Rd.lenSlice (tyrow rfl) rfl rfl) ?_; refine zA rfl ?_; refine zN (zT (XA.block ?_))
  refine XA.gen [(0, _), (1, _), (4, _), (7, _), (8, _)] ⟨(by with_reducible (conv => lhs; whnf)), (by with_reducible (conv => lhs; whnf)), (by with_reducible (conv => lhs; whnf)), (by with_reducible (conv => lhs; whnf)), (by with_reducible (conv => lhs; whnf)), trivial⟩ (fun δ => ?_)
  dsimp only [List.foldl]
  refine XA.loop [(4, 5), (8, 18)] (fun k : Nat => [(8, i64 k)]) (fun k σ' Γ' => σ = σ' ∧ k ≤ l.length ∧ (idxG s l 0 = idxG s (l.drop k) k) ∧ Γ' = [blk g [.string s] 9]) (fun k => l.length - k) 0 (by exact ⟨rfl, trivial⟩) (Δ0 := _) ?_ (⟨rfl, Nat.zero_le _, rfl, rfl⟩) ?_
  · exact zE
  rintro k δ _ _ ⟨rfl, hk, hall, rfl⟩
  dsimp only [ovr, List.foldl]
  refine zS (zR (zO rfl (Rd.lss rfl rfl) ?_)); refine zN (zT (zS ?_))
  refine XA.condp rfl (fun hlt => ?_) (fun hlt => ?_)
  · have hlt : k < l.length := by omega
    obtain ⟨x', hx'⟩ : ∃ x', l[k]? = some x' := ⟨_, List.getElem?_eq_getElem hlt⟩
    obtain ⟨gg, o, row, rfl, ⟨rfl, -, -⟩, hrl, hrow⟩ := hl.at hx'
    have hall : idxG s l 0 = idxG s (l.drop k) k := hall
    rw [drop_get hx', idxG] at hall
    refine XA.skip (zT (zS (XA.block (zS (zR (zA rfl ?_)))))); refine zO rfl Rd.asg ?_; refine zN (zT (zS (zR (zA rfl ?_)))); refine zA rfl ?_; refine zA rfl ?_; refine zO rfl (Rd.ixS rfl rfl) ?_; refine zO rfl (Rd.ldA rfl) ?_
    refine XOA.wr0 rfl (WrA.cV (first := []) (cap := [ptr g]) rfl (varEqP σ g s x') rfl) ?_
    rintro _ _ _ ⟨_, ⟨rfl, rfl, rfl⟩, rfl⟩
    refine XOA.cl ?_; refine zN (zT ?_)
    refine XA.condp rfl (fun hc => ?_) (fun hc => ?_)
    · refine zS ?_
      refine zR (zA rfl ?_); refine zO rfl Rd.asg ?_; refine zN (zT (XA.ret (DA.inb_ret (DA.thn_ret (DA.thn_ret (DA.inb_ret (DA.thn_ret ?_)))))))
      rw [if_pos hc] at hall
      exact bodyA.ret (ResA.one rfl rfl) zE ⟨by rw [hall]; rfl, rfl, rfl⟩
    · rw [if_neg hc] at hall
      refine XA.skip (DA.inb_normal (zT (zR (zO rfl zI ?_)))); refine zA rfl ?_; refine zN (zT ?_)
      refine ⟨(Keep.upd (Keep.upd (Keep.updO (Keep.upd (Keep.upd (Keep.upd (Keep.upd (Keep.upd (Keep.upd (Keep.upd (Keep.upd (Keep.upd (Keep.hav (Keep.hav (Keep.refl _ _) rfl) rfl) rfl) rfl) rfl) rfl) rfl) rfl) rfl) rfl) rfl) rfl) rfl) rfl), k + 1, _, zM, ?_, ⟨rfl, hlt, hall, rfl⟩, (by omega)⟩
      · exact zE
  have hkn : k = l.length := by omega
  subst hkn
  have hall : idxG s l 0 = idxG s (l.drop l.length) l.length := hall
  rw [List.drop_length] at hall
  refine XA.exit (DA.thn_exit (DA.thn_exit (DA.inb_same (zT (zS (zR (zO rfl Rd.asg ?_))))))); refine zN (zT (XA.ret ?_))
  exact bodyA.ret (ResA.one rfl rfl) zE ⟨by rw [hall]; rfl, rfl, rfl⟩
section
variable (σ : PH) (b : Nat) (p : Option Addr) (n c : Nat) (e : Int) (vs : Value)
theorem num_bad (l : List Tk) (hl : PSl 4 rTk σ (.slice p l.length c) l) (h : ∀ t r, l = t :: r → t.num = false) :
    CallsA Tryz.prog 31 #[ptr b] σ [blk b [.slice p l.length c, i64 e, vs] 46] (PanA fun ch σ' Γ' => ch = goneP (failAt e l 5) ∧ σ = σ' ∧ Γ' = [blk b [.slice p l.length c, i64 e, vs] 46]) := by
  cases l with
  | nil =>
    refine enterA1 Tryz.func31 rfl rfl rfl ?_
    refine zS (zR (zO rfl Rd.asg ?_)); refine zN (zT (zS (zS (zR (zA rfl ?_))))); refine zO rfl (Rd.nilCheck rfl) ?_; refine zV rfl rfl ?_; refine zB rfl rfl (tyrow rfl) rfl ?_; refine zO rfl (Rd.lenSlice (tyrow rfl) rfl rfl) ?_; refine zO rfl (Rd.eql rfl rfl) ?_; refine zA rfl ?_
    first | (refine zG ?_; refine zA rfl ?_) | refine zH ?_
    first | (refine zG ?_; refine zO rfl (Rd.nilCheck rfl) ?_) | refine zH ?_
    first | (refine zG ?_; refine zV rfl rfl ?_) | refine zH ?_
    first | (refine zG ?_; refine zB rfl rfl (tyrow rfl) rfl ?_) | refine zH ?_
    first | (refine zG ?_; refine zO rfl (Rd.ixS rfl rfl) ?_) | refine zH ?_
    first | (refine zG ?_; refine zV rfl rfl ?_) | refine zH ?_
    first | (refine zG ?_; refine zB rfl rfl (tyrow rfl) rfl ?_) | refine zH ?_
    first | (refine zG ?_; refine zO rfl zJ ?_) | refine zH ?_
    refine zO rfl zP ?_; refine zN (zT (XA.condT rfl rfl (zR (zA rfl ?_))))
    refine XOA.die rfl (fail_p σ b p c e vs [] 5 hl) rfl ?_
    rintro _ _ _ ⟨rfl, rfl, rfl⟩
    refine DA.cl ?_
    repeat (first | refine DA.thn_panic ?_ | refine DA.inb_panic ?_)
    exact bodyA.panic zE ⟨rfl, rfl, rfl⟩
  | cons t r =>
    obtain ⟨g, o, rfl, h0, h1, h2, h3⟩ := psl_head hl
    have hne : ¬ (((t :: r).length : Nat) : Int) = 0 := by rw [List.length_cons]; omega
    rw [h t r rfl] at h2
    refine enterA1 Tryz.func31 rfl rfl rfl ?_
    refine zS (zR (zO rfl Rd.asg ?_)); refine zN (zT (zS (zS (zR (zA rfl ?_))))); refine zO rfl (Rd.nilCheck rfl) ?_; refine zV rfl rfl ?_; refine zB rfl rfl (tyrow rfl) rfl ?_; refine zO rfl (Rd.lenSlice (tyrow rfl) rfl rfl) ?_; refine zO rfl (Rd.eql rfl rfl) ?_; refine zA rfl ?_
    first | (refine zG ?_; refine zA rfl ?_) | refine zH ?_
    first | (refine zG ?_; refine zO rfl (Rd.nilCheck rfl) ?_) | refine zH ?_
    first | (refine zG ?_; refine zV rfl rfl ?_) | refine zH ?_
    first | (refine zG ?_; refine zB rfl rfl (tyrow rfl) rfl ?_) | refine zH ?_
    first | (refine zG ?_; refine zO rfl (Rd.ixS rfl rfl) ?_) | refine zH ?_
    first | (refine zG ?_; refine zV rfl rfl ?_) | refine zH ?_
    first | (refine zG ?_; refine zB rfl rfl (tyrow rfl) rfl ?_) | refine zH ?_
    first | (refine zG ?_; refine zO rfl zJ ?_) | refine zH ?_
    refine zO rfl zP ?_; refine zN (zT (XA.condT rfl rfl (zR (zA rfl ?_))))
    refine XOA.die rfl (fail_p σ b _ c e vs (t :: r) 5 hl) rfl ?_
    rintro _ _ _ ⟨rfl, rfl, rfl⟩
    refine DA.cl ?_
    repeat (first | refine DA.thn_panic ?_ | refine DA.inb_panic ?_)
    exact bodyA.panic zE ⟨rfl, rfl, rfl⟩
theorem name_ok (t : Tk) (r : List Tk) (hl : PSl 4 rTk σ (.slice p (t :: r).length c) (t :: r)) (hs : t.text.size ≤ maxLen) (h : nameOk t.text = true) :
    CallsA Tryz.prog 30 #[ptr b] σ [blk b [.slice p (t :: r).length c, i64 e, vs] 46] (RetA fun v σ' Γ' => v = .string t.text ∧ ∃ p' c', PSl 4 rTk σ (.slice p' r.length c') r ∧ σ = σ' ∧ Γ' = [blk b [.slice p' r.length c', i64 e, vs] 46]) := by
  obtain ⟨g, o, rfl, h0, h1, h2, h3⟩ := psl_head hl
  have hne : ¬ (((t :: r).length : Nat) : Int) = 0 := by rw [List.length_cons]; omega
  have hn := name_a σ t.text hs
  rw [h] at hn
  refine enterA1 Tryz.func30 rfl rfl rfl ?_
  refine zS (zR (zO rfl Rd.asg ?_)); refine zN (zT (zS (zS (zR (zA rfl ?_))))); refine zO rfl (Rd.nilCheck rfl) ?_; refine zV rfl rfl ?_; refine zB rfl rfl (tyrow rfl) rfl ?_; refine zO rfl (Rd.lenSlice (tyrow rfl) rfl rfl) ?_; refine zO rfl (Rd.eql rfl rfl) ?_; refine zA rfl ?_
  first | (refine zG ?_; refine zA rfl ?_) | refine zH ?_
  first | (refine zG ?_; refine zO rfl (Rd.nilCheck rfl) ?_) | refine zH ?_
  first | (refine zG ?_; refine zV rfl rfl ?_) | refine zH ?_
  first | (refine zG ?_; refine zB rfl rfl (tyrow rfl) rfl ?_) | refine zH ?_
  first | (refine zG ?_; refine zO rfl (Rd.ixS rfl rfl) ?_) | refine zH ?_
  first | (refine zG ?_; refine zV rfl rfl ?_) | refine zH ?_
  first | (refine zG ?_; refine zB rfl rfl (tyrow rfl) rfl ?_) | refine zH ?_
  first | refine XOA.wanted rfl rfl ?_ | refine XOA.wq rfl rfl ?_
  refine XOA.wr0 rfl (WrA.cE (hn) rfl) ?_
  rintro _ _ _ ⟨_, ⟨rfl, rfl, rfl⟩, rfl⟩
  refine XOA.cl ?_
  first | (refine zG ?_; refine zO rfl zJ ?_) | refine zH ?_
  refine zO rfl zP ?_; refine zN (zT (XA.condF rfl rfl (XA.skip (zT (zS (zR (zA rfl ?_))))))); refine zO rfl (Rd.nilCheck rfl) ?_; refine zV rfl rfl ?_; refine zB rfl rfl (tyrow rfl) rfl ?_; refine zO rfl (Rd.ixS rfl rfl) ?_; refine zV rfl rfl ?_; refine zB rfl rfl (tyrow rfl) rfl ?_
  refine zO rfl Rd.asg ?_; refine zN (zT (zS (zR (zA rfl ?_)))); refine zA rfl ?_; refine zO rfl (Rd.nilCheck rfl) ?_; refine zV rfl rfl ?_; refine zB rfl rfl (tyrow rfl) rfl ?_; refine zO rfl (X.Rd.sliceTail4 (tyrow rfl) rfl (tyrow rfl) rfl rfl rfl (by simp)) ?_; refine zO rfl (Rd.nilCheck rfl) ?_
  refine zV rfl rfl ?_
  refine XOA.wr0 rfl (WrA.st (tyrow rfl) rfl) ?_
  rintro _ _ _ ⟨rfl, rfl, rfl⟩
  refine zN (zT (zS (zR (zA rfl ?_)))); refine zO rfl Rd.asg ?_; refine zN (zT (XA.ret ?_))
  exact bodyA.ret (ResA.one rfl rfl) zE ⟨rfl, _, _, psl_tail hl, rfl, rfl⟩
theorem name_bad (l : List Tk) (hl : PSl 4 rTk σ (.slice p l.length c) l) (hs : ∀ t ∈ l, t.text.size ≤ maxLen) (h : ∀ t r, l = t :: r → nameOk t.text = false) :
    CallsA Tryz.prog 30 #[ptr b] σ [blk b [.slice p l.length c, i64 e, vs] 46] (PanA fun ch σ' Γ' => ch = goneP (failAt e l 5) ∧ σ = σ' ∧ Γ' = [blk b [.slice p l.length c, i64 e, vs] 46]) := by
  cases l with
  | nil =>
    refine enterA1 Tryz.func30 rfl rfl rfl ?_
    refine zS (zR (zO rfl Rd.asg ?_)); refine zN (zT (zS (zS (zR (zA rfl ?_))))); refine zO rfl (Rd.nilCheck rfl) ?_; refine zV rfl rfl ?_; refine zB rfl rfl (tyrow rfl) rfl ?_; refine zO rfl (Rd.lenSlice (tyrow rfl) rfl rfl) ?_; refine zO rfl (Rd.eql rfl rfl) ?_; refine zA rfl ?_
    first | (refine zG ?_; refine zA rfl ?_) | refine zH ?_
    first | (refine zG ?_; refine zO rfl (Rd.nilCheck rfl) ?_) | refine zH ?_
    first | (refine zG ?_; refine zV rfl rfl ?_) | refine zH ?_
    first | (refine zG ?_; refine zB rfl rfl (tyrow rfl) rfl ?_) | refine zH ?_
    first | (refine zG ?_; refine zO rfl (Rd.ixS rfl rfl) ?_) | refine zH ?_
    first | (refine zG ?_; refine zV rfl rfl ?_) | refine zH ?_
    first | (refine zG ?_; refine zB rfl rfl (tyrow rfl) rfl ?_) | refine zH ?_
    first | refine zH ?_
    first | (refine zG ?_; refine zO rfl zJ ?_) | refine zH ?_
    refine zO rfl zP ?_; refine zN (zT (XA.condT rfl rfl (zR (zA rfl ?_))))
    refine XOA.die rfl (fail_p σ b p c e vs [] 5 hl) rfl ?_
    rintro _ _ _ ⟨rfl, rfl, rfl⟩
    refine DA.cl ?_
    repeat (first | refine DA.thn_panic ?_ | refine DA.inb_panic ?_)
    exact bodyA.panic zE ⟨rfl, rfl, rfl⟩
  | cons t r =>
    obtain ⟨g, o, rfl, h0, h1, h2, h3⟩ := psl_head hl
    have hne : ¬ (((t :: r).length : Nat) : Int) = 0 := by rw [List.length_cons]; omega
    have hn := name_a σ t.text (hs t (by simp))
    rw [h t r rfl] at hn
    refine enterA1 Tryz.func30 rfl rfl rfl ?_
    refine zS (zR (zO rfl Rd.asg ?_)); refine zN (zT (zS (zS (zR (zA rfl ?_))))); refine zO rfl (Rd.nilCheck rfl) ?_; refine zV rfl rfl ?_; refine zB rfl rfl (tyrow rfl) rfl ?_; refine zO rfl (Rd.lenSlice (tyrow rfl) rfl rfl) ?_; refine zO rfl (Rd.eql rfl rfl) ?_; refine zA rfl ?_
    first | (refine zG ?_; refine zA rfl ?_) | refine zH ?_
    first | (refine zG ?_; refine zO rfl (Rd.nilCheck rfl) ?_) | refine zH ?_
    first | (refine zG ?_; refine zV rfl rfl ?_) | refine zH ?_
    first | (refine zG ?_; refine zB rfl rfl (tyrow rfl) rfl ?_) | refine zH ?_
    first | (refine zG ?_; refine zO rfl (Rd.ixS rfl rfl) ?_) | refine zH ?_
    first | (refine zG ?_; refine zV rfl rfl ?_) | refine zH ?_
    first | (refine zG ?_; refine zB rfl rfl (tyrow rfl) rfl ?_) | refine zH ?_
    first | refine XOA.wanted rfl rfl ?_ | refine XOA.wq rfl rfl ?_
    refine XOA.wr0 rfl (WrA.cE (hn) rfl) ?_
    rintro _ _ _ ⟨_, ⟨rfl, rfl, rfl⟩, rfl⟩
    refine XOA.cl ?_
    first | (refine zG ?_; refine zO rfl zJ ?_) | refine zH ?_
    refine zO rfl zP ?_; refine zN (zT (XA.condT rfl rfl (zR (zA rfl ?_))))
    refine XOA.die rfl (fail_p σ b _ c e vs (t :: r) 5 hl) rfl ?_
    rintro _ _ _ ⟨rfl, rfl, rfl⟩
    refine DA.cl ?_
    repeat (first | refine DA.thn_panic ?_ | refine DA.inb_panic ?_)
    exact bodyA.panic zE ⟨rfl, rfl, rfl⟩
theorem variable_ok (vl : List Va) (pv : Option Addr) (cv k : Nat) (t : Tk) (r : List Tk) (hv : PSl 2 rVa σ (.slice pv vl.length cv) vl) (hl : PSl 4 rTk σ (.slice p (t :: r).length c) (t :: r)) (hs : t.text.size ≤ maxLen) (h : nameOk t.text = true) (hk : idxG t.text vl 0 = some k) :
    CallsA Tryz.prog 59 #[ptr b] σ [blk b [.slice p (t :: r).length c, i64 e, .slice pv vl.length cv] 46] (RetA fun v σ' Γ' => v = i64 k ∧ ∃ p' c', PSl 4 rTk σ (.slice p' r.length c') r ∧ σ = σ' ∧ Γ' = [blk b [.slice p' r.length c', i64 e, .slice pv vl.length cv] 46]) := by
  have hx := fun g => indexP σ g t.text _ vl hv
  rw [hk] at hx
  refine enterA1 Tryz.func59 rfl rfl rfl ?_
  refine zS (zR (zO rfl Rd.asg ?_)); refine zN (zT (zS (zR (zA rfl ?_)))); refine zO rfl (Rd.nilCheck rfl) ?_; refine zV rfl rfl ?_; refine zB rfl rfl (tyrow rfl) rfl ?_; refine zO rfl Rd.asg ?_; refine zN (zT (zS (zR (zA rfl ?_))))
  refine XOA.wr0 rfl (WrA.cE (name_ok σ b p c e _ t r hl hs h) rfl) ?_
  rintro _ _ _ ⟨_, ⟨rfl, p', c', hl', rfl, rfl⟩, rfl⟩
  refine XOA.cl ?_
  refine XOA.wr0 rfl (WrA.alloc (tyrow rfl)) ?_
  rintro _ _ _ ⟨g4, rfl, rfl, rfl⟩
  refine XOA.wr0 rfl (WrA.st (tyrow rfl) rfl) ?_
  rintro _ _ _ ⟨rfl, rfl, rfl⟩
  refine zN (zT (zS (zR (zA rfl ?_)))); refine zO rfl (Rd.nilCheck rfl) ?_; refine zV rfl rfl ?_; refine zB rfl rfl (tyrow rfl) rfl ?_
  refine zO rfl (Rd.makeFunc1 (by with_reducible (conv => lhs; whnf))) ?_
  refine XOA.wr0 rfl (WrA.cE (hx _) rfl) ?_
  rintro _ _ _ ⟨_, ⟨rfl, rfl, rfl⟩, rfl⟩
  refine XOA.cl ?_; refine zO rfl Rd.asg ?_; refine zN (zT (zS (zS (zR (zA rfl ?_))))); refine zO rfl (Rd.lss rfl rfl) ?_; refine zN (zT ?_)
  refine XA.condF rfl (by first | rfl | exact decide_eq_false (by show ¬ ((k : Int) < 0); omega)) ?_
  refine XA.skip (zT (zS (zR (zA rfl ?_)))); refine zO rfl Rd.asg ?_; refine zN (zT (XA.ret ?_))
  exact bodyA.ret (ResA.one rfl rfl) zE ⟨rfl, p', c', hl', rfl, rfl⟩
theorem variable_bad (pv : Option Addr) (nv cv : Nat) (l : List Tk) (hl : PSl 4 rTk σ (.slice p l.length c) l) (hs : ∀ t ∈ l, t.text.size ≤ maxLen) (h : ∀ t r, l = t :: r → nameOk t.text = false) :
    CallsA Tryz.prog 59 #[ptr b] σ [blk b [.slice p l.length c, i64 e, vs] 46] (PanA fun ch σ' Γ' => ch = goneP (failAt e l 5) ∧ σ = σ' ∧ Γ' = [blk b [.slice p l.length c, i64 e, vs] 46]) := by
  refine enterA1 Tryz.func59 rfl rfl rfl ?_
  refine zS (zR (zO rfl Rd.asg ?_)); refine zN (zT (zS (zR (zA rfl ?_)))); refine zO rfl (Rd.nilCheck rfl) ?_; refine zV rfl rfl ?_; refine zB rfl rfl (tyrow rfl) rfl ?_; refine zO rfl Rd.asg ?_; refine zN (zT (zS (zR (zA rfl ?_))))
  refine XOA.die rfl (name_bad σ b p c e vs l hl hs h) rfl ?_
  rintro _ _ _ ⟨rfl, rfl, rfl⟩
  refine DA.cl ?_
  repeat (first | refine DA.thn_panic ?_ | refine DA.inb_panic ?_)
  exact bodyA.panic zE ⟨rfl, rfl, rfl⟩
theorem variable_none (vl : List Va) (pv : Option Addr) (cv : Nat) (t : Tk) (r : List Tk) (hv : PSl 2 rVa σ (.slice pv vl.length cv) vl) (hl : PSl 4 rTk σ (.slice p (t :: r).length c) (t :: r)) (hs : t.text.size ≤ maxLen) (h : nameOk t.text = true) (hk : idxG t.text vl 0 = none) :
    CallsA Tryz.prog 59 #[ptr b] σ [blk b [.slice p (t :: r).length c, i64 e, .slice pv vl.length cv] 46] (PanA fun ch σ' Γ' => ch = goneP (failAt e (t :: r) 10) ∧ σ = σ' ∧ Γ' = [blk b [.slice p (t :: r).length c, i64 e, .slice pv vl.length cv] 46]) := by
  have hx := fun g => indexP σ g t.text _ vl hv
  rw [hk] at hx
  refine enterA1 Tryz.func59 rfl rfl rfl ?_
  refine zS (zR (zO rfl Rd.asg ?_)); refine zN (zT (zS (zR (zA rfl ?_)))); refine zO rfl (Rd.nilCheck rfl) ?_; refine zV rfl rfl ?_; refine zB rfl rfl (tyrow rfl) rfl ?_; refine zO rfl Rd.asg ?_; refine zN (zT (zS (zR (zA rfl ?_))))
  refine XOA.wr0 rfl (WrA.cE (name_ok σ b p c e _ t r hl hs h) rfl) ?_
  rintro _ _ _ ⟨_, ⟨rfl, p', c', hl', rfl, rfl⟩, rfl⟩
  refine XOA.cl ?_
  refine XOA.wr0 rfl (WrA.alloc (tyrow rfl)) ?_
  rintro _ _ _ ⟨g4, rfl, rfl, rfl⟩
  refine XOA.wr0 rfl (WrA.st (tyrow rfl) rfl) ?_
  rintro _ _ _ ⟨rfl, rfl, rfl⟩
  refine zN (zT (zS (zR (zA rfl ?_)))); refine zO rfl (Rd.nilCheck rfl) ?_; refine zV rfl rfl ?_; refine zB rfl rfl (tyrow rfl) rfl ?_
  refine zO rfl (Rd.makeFunc1 (by with_reducible (conv => lhs; whnf))) ?_
  refine XOA.wr0 rfl (WrA.cE (hx _) rfl) ?_
  rintro _ _ _ ⟨_, ⟨rfl, rfl, rfl⟩, rfl⟩
  refine XOA.cl ?_; refine zO rfl Rd.asg ?_; refine zN (zT (zS (zS (zR (zA rfl ?_))))); refine zO rfl (Rd.lss rfl rfl) ?_; refine zN (zT (XA.condT rfl rfl (zS (zR (zA rfl ?_))))); refine zA rfl ?_; refine zO rfl (Rd.nilCheck rfl) ?_; refine zV rfl rfl ?_
  refine XOA.wr0 rfl (WrA.st (tyrow rfl) rfl) ?_
  rintro _ _ _ ⟨rfl, rfl, rfl⟩
  refine zN (zT (zR (zA rfl ?_)))
  refine XOA.die rfl (fail_p σ b _ c e _ (t :: r) 10 hl) rfl ?_
  rintro _ _ _ ⟨rfl, rfl, rfl⟩
  refine DA.cl ?_
  repeat (first | refine DA.thn_panic ?_ | refine DA.inb_panic ?_)
  exact bodyA.panic zE ⟨rfl, rfl, rfl⟩
/-- A function that tells a word of each number. -/
def Words (f : FuncId) (W : Int → ByteArray) : Prop := ∀ (σ : PH) (k : Int), CallsA Tryz.prog f #[i64 k] σ [] (RetA fun v σ' Γ' => v = .string (W k) ∧ σ = σ' ∧ Γ' = [])
theorem pick_ok (f : FuncId) (W : Int → ByteArray) (hf : Words f W) (most k0 : Nat) (hm : most ≤ 100) (t : Tk) (r : List Tk) (hl : PSl 4 rTk σ (.slice p (t :: r).length c) (t :: r)) (h1 : 1 ≤ k0) (h2 : k0 ≤ most) (h : isT (W k0) (t :: r) = true) (hlt : ∀ j : Nat, 1 ≤ j → j < k0 → isT (W j) (t :: r) = false) :
    CallsA Tryz.prog 57 #[ptr b, i64 most, .func (.func f) #[] #[]] σ [blk b [.slice p (t :: r).length c, i64 e, vs] 46] (RetA fun v σ' Γ' => v = i64 k0 ∧ ∃ p' c', PSl 4 rTk σ (.slice p' r.length c') r ∧ σ = σ' ∧ Γ' = [blk b [.slice p' r.length c', i64 e, vs] 46]) := by
  refine enterA3 Tryz.func57 rfl rfl rfl ?_
  refine zS (zR (zO rfl Rd.asg ?_)); refine zN (zT (zS (zS (zR (zO rfl Rd.asg ?_))))); refine zN (zT (XA.block ?_))
  refine XA.gen [(0, _), (1, _), (2, _), (6, _), (7, _)] ⟨(by with_reducible (conv => lhs; whnf)), (by with_reducible (conv => lhs; whnf)), (by with_reducible (conv => lhs; whnf)), (by with_reducible (conv => lhs; whnf)), (by with_reducible (conv => lhs; whnf)), trivial⟩ (fun δ => ?_)
  dsimp only [List.foldl]
  refine XA.loop [(6, 18)] (fun k : Nat => [(7, i64 k)]) (fun k σ' Γ' => σ = σ' ∧ 1 ≤ k ∧ k ≤ k0 ∧ Γ' = [blk b [.slice p (t :: r).length c, i64 e, vs] 46]) (fun k => k0 - k) 1 (by exact ⟨rfl, trivial⟩) (Δ0 := _) ?_ (⟨rfl, Nat.le_refl _, h1, rfl⟩) ?_
  · exact zE
  rintro k δ _ _ ⟨rfl, hk1, hk2, rfl⟩
  dsimp only [ovr, List.foldl]
  have hk1 : 1 ≤ k := hk1
  have hk2 : k ≤ k0 := hk2
  refine zS (zS (zR (zA rfl ?_))); refine zA rfl ?_; refine zO rfl (Rd.leq rfl rfl) ?_; refine zN (zT (XA.condT rfl (by first | rfl | exact decide_eq_true (by omega)) ?_)); refine XA.skip (zT (zS (XA.block (zS (zR (zA rfl ?_)))))); refine zA rfl ?_; refine zA rfl ?_
  refine XOA.wr0 rfl (WrA.cV (first := []) (cap := []) rfl (hf σ k) rfl) ?_
  rintro _ _ _ ⟨_, ⟨rfl, rfl, rfl⟩, rfl⟩
  refine XOA.cl ?_
  by_cases q : k = k0
  · subst q
    refine XOA.wr0 rfl (WrA.cE (is_yes σ b p c e vs t r (W k) hl h) rfl) ?_
    rintro _ _ _ ⟨_, ⟨rfl, p', c', hl', rfl, rfl⟩, rfl⟩
    refine XOA.cl ?_; refine zN (zT (XA.condT rfl rfl (zS (zR (zA rfl ?_))))); refine zO rfl Rd.asg ?_; refine zN (zT (XA.ret (DA.inb_ret (DA.thn_ret (DA.thn_ret (DA.inb_ret (DA.thn_ret ?_)))))))
    exact bodyA.ret (ResA.one rfl rfl) zE ⟨rfl, p', c', hl', rfl, rfl⟩
  · skip
    refine XOA.wr0 rfl (WrA.cE (is_no σ b p c e vs (t :: r) (W k) hl (hlt k hk1 (by omega))) rfl) ?_
    rintro _ _ _ ⟨_, ⟨rfl, rfl, rfl⟩, rfl⟩
    refine XOA.cl ?_; refine zN (zT (XA.condF rfl rfl (XA.skip (DA.inb_normal (zT (zR (zA rfl ?_))))))); refine zO rfl zI ?_; refine zO rfl Rd.asg ?_; refine zN (zT ?_)
    refine ⟨(Keep.upd (Keep.upd (Keep.upd (Keep.updO (Keep.updO (Keep.upd (Keep.upd (Keep.upd (Keep.upd (Keep.upd (Keep.upd (Keep.upd (Keep.hav (Keep.refl _ _) rfl) rfl) rfl) rfl) rfl) rfl) rfl) rfl) rfl) rfl) rfl) rfl) rfl), k + 1, _, zM, ?_, ⟨rfl, by show 1 ≤ k + 1; omega, by show k + 1 ≤ k0; omega, rfl⟩, (by omega)⟩
    · exact zE
theorem pick_bad (f : FuncId) (W : Int → ByteArray) (hf : Words f W) (most : Nat) (hm : most ≤ 100) (l : List Tk) (hl : PSl 4 rTk σ (.slice p l.length c) l) (hlt : ∀ j : Nat, 1 ≤ j → j ≤ most → isT (W j) l = false) :
    CallsA Tryz.prog 57 #[ptr b, i64 most, .func (.func f) #[] #[]] σ [blk b [.slice p l.length c, i64 e, vs] 46] (PanA fun ch σ' Γ' => ch = goneP (failAt e l 5) ∧ σ = σ' ∧ Γ' = [blk b [.slice p l.length c, i64 e, vs] 46]) := by
  refine enterA3 Tryz.func57 rfl rfl rfl ?_
  refine zS (zR (zO rfl Rd.asg ?_)); refine zN (zT (zS (zS (zR (zO rfl Rd.asg ?_))))); refine zN (zT (XA.block ?_))
  refine XA.gen [(0, _), (1, _), (2, _), (6, _), (7, _)] ⟨(by with_reducible (conv => lhs; whnf)), (by with_reducible (conv => lhs; whnf)), (by with_reducible (conv => lhs; whnf)), (by with_reducible (conv => lhs; whnf)), (by with_reducible (conv => lhs; whnf)), trivial⟩ (fun δ => ?_)
  dsimp only [List.foldl]
  refine XA.loop [(6, 18)] (fun k : Nat => [(7, i64 k)]) (fun k σ' Γ' => σ = σ' ∧ 1 ≤ k ∧ k ≤ most + 1 ∧ Γ' = [blk b [.slice p l.length c, i64 e, vs] 46]) (fun k => most + 1 - k) 1 (by exact ⟨rfl, trivial⟩) (Δ0 := _) ?_ (⟨rfl, Nat.le_refl _, by omega, rfl⟩) ?_
  · exact zE
  rintro k δ _ _ ⟨rfl, hk1, hk2, rfl⟩
  dsimp only [ovr, List.foldl]
  have hk1 : 1 ≤ k := hk1
  have hk2 : k ≤ most + 1 := hk2
  by_cases q : k ≤ most
  · skip
    refine zS (zS (zR (zA rfl ?_))); refine zA rfl ?_; refine zO rfl (Rd.leq rfl rfl) ?_; refine zN (zT (XA.condT rfl (by first | rfl | exact decide_eq_true (by omega)) ?_)); refine XA.skip (zT (zS (XA.block (zS (zR (zA rfl ?_)))))); refine zA rfl ?_; refine zA rfl ?_
    refine XOA.wr0 rfl (WrA.cV (first := []) (cap := []) rfl (hf σ k) rfl) ?_
    rintro _ _ _ ⟨_, ⟨rfl, rfl, rfl⟩, rfl⟩
    refine XOA.cl ?_
    refine XOA.wr0 rfl (WrA.cE (is_no σ b p c e vs l (W k) hl (hlt k hk1 q)) rfl) ?_
    rintro _ _ _ ⟨_, ⟨rfl, rfl, rfl⟩, rfl⟩
    refine XOA.cl ?_; refine zN (zT (XA.condF rfl rfl (XA.skip (DA.inb_normal (zT (zR (zA rfl ?_))))))); refine zO rfl zI ?_; refine zO rfl Rd.asg ?_; refine zN (zT ?_)
    refine ⟨(Keep.upd (Keep.upd (Keep.upd (Keep.updO (Keep.updO (Keep.upd (Keep.upd (Keep.upd (Keep.upd (Keep.upd (Keep.upd (Keep.upd (Keep.hav (Keep.refl _ _) rfl) rfl) rfl) rfl) rfl) rfl) rfl) rfl) rfl) rfl) rfl) rfl) rfl), k + 1, _, zM, ?_, ⟨rfl, by show 1 ≤ k + 1; omega, by show k + 1 ≤ most + 1; omega, rfl⟩, (by omega)⟩
    · exact zE
  · skip
    refine zS (zS (zR (zA rfl ?_))); refine zA rfl ?_; refine zO rfl (Rd.leq rfl rfl) ?_; refine zN (zT (XA.condF rfl (by first | rfl | exact decide_eq_false (by omega)) ?_)); refine XA.exit (DA.thn_exit (DA.thn_exit (DA.inb_same (zT (zS (zR (zA rfl ?_)))))))
    refine XOA.die rfl (fail_p σ b p c e vs l 5 hl) rfl ?_
    rintro _ _ _ ⟨rfl, rfl, rfl⟩
    refine DA.cl ?_
    repeat (first | refine DA.thn_panic ?_ | refine DA.inb_panic ?_)
    exact bodyA.panic zE ⟨rfl, rfl, rfl⟩
end
end Go.Proofs.YthefnnkmpcgcmaaGreatDoor

namespace Go.Proofs.YthefnnkmpcgcmaaGreatDoor
open Go X
def pickG (W : Int → ByteArray) (l : List Tk) : Nat → Nat → Option Nat
  | 0, _ => none
  | f + 1, k => if isT (W k) l = true then some k else pickG W l f (k + 1)
def pickT (W : Int → ByteArray) (most : Nat) (l : List Tk) : Option Nat := pickG W l most 1
theorem pickG_some {W : Int → ByteArray} {l : List Tk} {k0 : Nat} : ∀ (f k : Nat), pickG W l f k = some k0 → k ≤ k0 ∧ k0 < k + f ∧ isT (W k0) l = true ∧ ∀ j : Nat, k ≤ j → j < k0 → isT (W j) l = false
  | 0, k, h => by cases h
  | f + 1, k, h => by
    rw [pickG] at h
    split at h
    · rename_i hk
      cases h
      exact ⟨Nat.le_refl _, by omega, hk, fun j a b => by omega⟩
    · rename_i hk
      obtain ⟨a, b, c, d⟩ := pickG_some f (k + 1) h
      refine ⟨by omega, by omega, c, fun j x y => ?_⟩
      by_cases q : j = k
      · subst q; simpa using hk
      · exact d j (by omega) y
theorem pickG_none {W : Int → ByteArray} {l : List Tk} : ∀ (f k : Nat), pickG W l f k = none → ∀ j : Nat, k ≤ j → j < k + f → isT (W j) l = false
  | 0, k, _, j, a, b => by omega
  | f + 1, k, h, j, a, b => by
    rw [pickG] at h
    split at h
    · cases h
    · rename_i hk
      by_cases q : j = k
      · subst q; simpa using hk
      · exact pickG_none f (k + 1) h j (by omega) (by omega)
theorem isT_cons {w : ByteArray} {l : List Tk} (h : isT w l = true) : ∃ t r, l = t :: r := by
  cases l with
  | nil => cases h
  | cons t r => exact ⟨t, r, rfl⟩
abbrev lpar : ByteArray := ⟨#[40]⟩
abbrev rpar : ByteArray := ⟨#[41]⟩
abbrev PR (α : Type) := Except (Int × Int) (α × List Tk)
def subsA {α : Type} (E : List Tk → PR α) : Nat → List Tk → List α → PR (List α)
  | 0, l, acc => .ok (acc, l)
  | m + 1, l, acc => match E l with
    | .error x => .error x
    | .ok (x, l1) => subsA E m l1 (acc ++ [x])
def varP (vl : List Va) (e : Int) (l : List Tk) : PR Int := match l with
  | t :: r => if nameOk t.text = true then match idxG t.text vl 0 with
      | some i => .ok ((i : Int), r)
      | none => .error (failAt e l 10)
    else .error (failAt e l 5)
  | [] => .error (failAt e l 5)
def numP (e : Int) (l : List Tk) : PR Int := match l with
  | t :: r => if t.num = true then .ok (t.n, r) else .error (failAt e l 5)
  | [] => .error (failAt e l 5)
/-- What stands behind the word: a variable's number and a number. -/
def headP (vl : List Va) (e : Int) (k : Nat) (l : List Tk) : PR (Int × Int) :=
  if k = 1 then match numP e l with | .error x => .error x | .ok (n, r) => .ok ((0, n), r)
  else if k = 2 ∨ k = 3 then match varP vl e l with | .error x => .error x | .ok (v, r) => .ok ((v, 0), r)
  else .ok ((0, 0), l)
def closeP {α : Type} (e : Int) (x : α) (l : List Tk) : PR α := if isT rpar l = true then .ok (x, l.tail) else .error (failAt e l 5)
def exprP (vl : List Va) (e : Int) : Nat → List Tk → PR Ex
  | 0, l => .error (failAt e l 4)
  | f + 1, l => if isT lpar l = true then match pickT wordOf 8 l.tail with
      | none => .error (failAt e l.tail 5)
      | some k => match headP vl e k l.tail.tail with
        | .error x => .error x
        | .ok (vn, l3) => match subsA (exprP vl e f) (partsOf k).toNat l3 [] with
          | .error x => .error x
          | .ok (xs, l4) => closeP e (.mk k vn.1 vn.2 xs) l4
    else .error (failAt e l 5)
theorem subsA_mem {α : Type} {E : List Tk → PR α} (hE : ∀ l x l', E l = .ok (x, l') → ∀ t ∈ l', t ∈ l) : ∀ (m : Nat) (l : List Tk) (acc xs : List α) (l' : List Tk), subsA E m l acc = .ok (xs, l') → ∀ t ∈ l', t ∈ l
  | 0, l, acc, xs, l', h, t, ht => by cases h; exact ht
  | m + 1, l, acc, xs, l', h, t, ht => by
    rw [subsA] at h
    cases q : E l with
    | error x => rw [q] at h; cases h
    | ok y =>
      obtain ⟨x, l1⟩ := y
      rw [q] at h
      exact hE l x l1 q t (subsA_mem hE m l1 _ xs l' h t ht)
theorem numP_mem {e : Int} {l l' : List Tk} {n : Int} (h : numP e l = .ok (n, l')) : ∀ t ∈ l', t ∈ l := by
  cases l with
  | nil => cases h
  | cons t r =>
    rw [numP] at h
    split at h
    · cases h; exact fun x hx => by simp [hx]
    · cases h
theorem varP_mem {vl : List Va} {e : Int} {l l' : List Tk} {n : Int} (h : varP vl e l = .ok (n, l')) : ∀ t ∈ l', t ∈ l := by
  cases l with
  | nil => cases h
  | cons t r =>
    rw [varP] at h
    split at h
    · split at h
      · cases h; exact fun x hx => by simp [hx]
      · cases h
    · cases h
theorem headP_mem {vl : List Va} {e : Int} {k : Nat} {l l' : List Tk} {vn : Int × Int} (h : headP vl e k l = .ok (vn, l')) : ∀ t ∈ l', t ∈ l := by
  rw [headP] at h
  split at h
  · cases q : numP e l with
    | error x => rw [q] at h; cases h
    | ok y => obtain ⟨n, r⟩ := y; rw [q] at h; cases h; exact numP_mem q
  · split at h
    · cases q : varP vl e l with
      | error x => rw [q] at h; cases h
      | ok y => obtain ⟨n, r⟩ := y; rw [q] at h; cases h; exact varP_mem q
    · cases h; exact fun t ht => ht
theorem mem_tail {α : Type} {l : List α} {t : α} (h : t ∈ l.tail) : t ∈ l := List.mem_of_mem_tail h
theorem closeP_mem {α : Type} {e : Int} {x y : α} {l l' : List Tk} (h : closeP e x l = .ok (y, l')) : ∀ t ∈ l', t ∈ l := by
  rw [closeP] at h
  split at h
  · cases h; exact fun t ht => mem_tail ht
  · cases h
theorem exprP_mem {vl : List Va} {e : Int} : ∀ (f : Nat) (l : List Tk) (x : Ex) (l' : List Tk), exprP vl e f l = .ok (x, l') → ∀ t ∈ l', t ∈ l
  | 0, l, x, l', h => by cases h
  | f + 1, l, x, l', h => by
    rw [exprP] at h
    split at h
    · cases hk : pickT wordOf 8 l.tail with
      | none => rw [hk] at h; cases h
      | some k =>
        rw [hk] at h
        simp only at h
        cases hh : headP vl e k l.tail.tail with
        | error x => rw [hh] at h; cases h
        | ok y =>
          obtain ⟨vn, l3⟩ := y
          rw [hh] at h
          simp only at h
          cases hs : subsA (exprP vl e f) (partsOf k).toNat l3 [] with
          | error x => rw [hs] at h; cases h
          | ok z =>
            obtain ⟨xs, l4⟩ := z
            rw [hs] at h
            simp only at h
            intro t ht
            exact mem_tail (mem_tail (headP_mem hh t (subsA_mem (exprP_mem f) _ _ _ _ _ hs t (closeP_mem h t ht))))
    · cases h
theorem idxG_lt {s : ByteArray} : ∀ (l : List Va) (k i : Nat), idxG s l k = some i → k ≤ i ∧ i < k + l.length
  | [], k, i, h => by cases h
  | v :: r, k, i, h => by
    rw [idxG] at h
    split at h
    · cases h; exact ⟨Nat.le_refl _, by simp⟩
    · have := idxG_lt r (k + 1) i h
      simp only [List.length_cons]; omega
/-- What a parser's tokens hold. -/
def TkF (t : Tk) : Prop := t.text.size ≤ maxLen ∧ i64ok t.n
/-- A call's two ends. -/
def EndA (Q : Value → PH → List HP → Prop) (D : List PanicEntry → PH → List HP → Prop) : Ending → PH → List HP → Prop
  | .returned v, σ, Γ => Q v σ Γ
  | .panicked c, σ, Γ => D c σ Γ
  | _, _, _ => False
end Go.Proofs.YthefnnkmpcgcmaaGreatDoor

namespace Go.Proofs.YthefnnkmpcgcmaaGreatDoor
open Go X
set_option maxHeartbeats 4000000
set_option maxRecDepth 4000
def ExprPOK (vl : List Va) (e : Int) (f : Nat) : Prop := ∀ (σ : PH) (b : Nat) (p : Option Addr) (c : Nat) (pv : Option Addr) (cv : Nat) (l : List Tk) (d : Int), PSl 2 rVa σ (.slice pv vl.length cv) vl → PSl 4 rTk σ (.slice p l.length c) l → (∀ t ∈ l, TkF t) → d + f = 13 → 0 ≤ d →
  CallsA Tryz.prog 60 #[ptr b, i64 d] σ [blk b [.slice p l.length c, i64 e, .slice pv vl.length cv] 46] (EndA
    (fun v σ' Γ' => ∃ x l', exprP vl e f l = .ok (x, l') ∧ ∃ cs p' c', v = .agg (List.toArray cs) ∧ ExAt σ' cs x ∧ PSl 4 rTk σ' (.slice p' l'.length c') l' ∧ σ.sub σ' ∧ Γ' = [blk b [.slice p' l'.length c', i64 e, .slice pv vl.length cv] 46])
    (fun ch σ' Γ' => ∃ x, exprP vl e f l = .error x ∧ ch = goneP x ∧ σ.sub σ' ∧ ∃ cs, Γ' = [blk b cs 46]))
theorem ExprPOK.ok {vl : List Va} {e : Int} {f : Nat} (h : ExprPOK vl e f) {σ : PH} {b : Nat} {p : Option Addr} {c : Nat} {pv : Option Addr} {cv : Nat} {l : List Tk} {d : Int} (hv : PSl 2 rVa σ (.slice pv vl.length cv) vl) (hl : PSl 4 rTk σ (.slice p l.length c) l) (hF : ∀ t ∈ l, TkF t) (hd : d + f = 13) (hd0 : 0 ≤ d) {x : Ex} {l' : List Tk} (ho : exprP vl e f l = .ok (x, l')) :
    CallsA Tryz.prog 60 #[ptr b, i64 d] σ [blk b [.slice p l.length c, i64 e, .slice pv vl.length cv] 46] (RetA fun v σ' Γ' => ∃ cs p' c', v = .agg (List.toArray cs) ∧ ExAt σ' cs x ∧ PSl 4 rTk σ' (.slice p' l'.length c') l' ∧ σ.sub σ' ∧ Γ' = [blk b [.slice p' l'.length c', i64 e, .slice pv vl.length cv] 46]) := by
  refine (h σ b p c pv cv l d hv hl hF hd hd0).mono fun en σ' Γ' hr => ?_
  cases en with
  | returned v =>
    obtain ⟨x', l'', h1, h2⟩ := hr
    rw [ho] at h1
    cases h1
    exact h2
  | panicked ch => obtain ⟨x', h1, -⟩ := hr; rw [ho] at h1; cases h1
  | outgrown => exact False.elim hr
theorem ExprPOK.bad {vl : List Va} {e : Int} {f : Nat} (h : ExprPOK vl e f) {σ : PH} {b : Nat} {p : Option Addr} {c : Nat} {pv : Option Addr} {cv : Nat} {l : List Tk} {d : Int} (hv : PSl 2 rVa σ (.slice pv vl.length cv) vl) (hl : PSl 4 rTk σ (.slice p l.length c) l) (hF : ∀ t ∈ l, TkF t) (hd : d + f = 13) (hd0 : 0 ≤ d) {x : Int × Int} (ho : exprP vl e f l = .error x) :
    CallsA Tryz.prog 60 #[ptr b, i64 d] σ [blk b [.slice p l.length c, i64 e, .slice pv vl.length cv] 46] (PanA fun ch σ' Γ' => ch = goneP x ∧ σ.sub σ' ∧ ∃ cs, Γ' = [blk b cs 46]) := by
  refine (h σ b p c pv cv l d hv hl hF hd hd0).mono fun en σ' Γ' hr => ?_
  cases en with
  | returned v => obtain ⟨x', l'', h1, -⟩ := hr; rw [ho] at h1; cases h1
  | panicked ch =>
    obtain ⟨x', h1, h2⟩ := hr
    rw [ho] at h1
    cases h1
    exact h2
  | outgrown => exact False.elim hr
theorem numP_err {e : Int} {l : List Tk} {x : Int × Int} (h : numP e l = .error x) : x = failAt e l 5 ∧ ∀ t r, l = t :: r → t.num = false := by
  cases l with
  | nil => cases h; exact ⟨rfl, fun t r q => by cases q⟩
  | cons t r =>
    rw [numP] at h
    split at h
    · cases h
    · rename_i hn; cases h; exact ⟨rfl, fun t' r' q => by cases q; simpa using hn⟩
theorem numP_ok {e : Int} {l l' : List Tk} {n : Int} (h : numP e l = .ok (n, l')) : ∃ t, l = t :: l' ∧ t.num = true ∧ t.n = n := by
  cases l with
  | nil => cases h
  | cons t r =>
    rw [numP] at h
    split at h
    · rename_i hn; cases h; exact ⟨t, rfl, hn, rfl⟩
    · cases h
theorem varP_err {vl : List Va} {e : Int} {l : List Tk} {x : Int × Int} (h : varP vl e l = .error x) : (x = failAt e l 5 ∧ ∀ t r, l = t :: r → nameOk t.text = false) ∨ ∃ t r, l = t :: r ∧ x = failAt e (t :: r) 10 ∧ nameOk t.text = true ∧ idxG t.text vl 0 = none := by
  cases l with
  | nil => cases h; exact .inl ⟨rfl, fun t r q => by cases q⟩
  | cons t r =>
    rw [varP] at h
    split at h
    · rename_i hn
      cases hi : idxG t.text vl 0 with
      | some i => rw [hi] at h; cases h
      | none => rw [hi] at h; cases h; exact .inr ⟨t, r, rfl, rfl, hn, hi⟩
    · rename_i hn; cases h; exact .inl ⟨rfl, fun t' r' q => by cases q; simpa using hn⟩
theorem varP_ok {vl : List Va} {e : Int} {l l' : List Tk} {v : Int} (h : varP vl e l = .ok (v, l')) : ∃ t i, l = t :: l' ∧ v = ((i : Nat) : Int) ∧ nameOk t.text = true ∧ idxG t.text vl 0 = some i := by
  cases l with
  | nil => cases h
  | cons t r =>
    rw [varP] at h
    split at h
    · rename_i hn
      cases hi : idxG t.text vl 0 with
      | some i => rw [hi] at h; cases h; exact ⟨t, i, rfl, rfl, hn, hi⟩
      | none => rw [hi] at h; cases h
    · cases h
theorem partsOf_le (k : Int) : partsOf k ≤ 2 := by rw [partsOf]; split; (decide); split; (decide); split <;> decide
theorem partsOf_ge {k : Int} (h1 : 1 ≤ k) (h2 : k ≤ 8) : 0 ≤ partsOf k := by
  rw [partsOf]; split; (decide); split; (decide); rw [if_pos (by omega)]; decide
theorem X.PSl.len_le {α : Type} {s n c : Nat} {R : RT α} {σ : PH} {p : Option Addr} {xs : List α} (h : PSl s R σ (.slice p n c) xs) : xs.length ≤ 9223372036854775807 := by
  obtain ⟨p', c', -, h1, h2⟩ := h.shape
  simp only [maxLen] at h2; omega
theorem expr_p (vl : List Va) (e : Int) : ∀ f : Nat, ExprPOK vl e f
  | 0 => by
    intro σ b p c pv cv l d hv hl hF hd hd0
    have hd : d = 13 := by simpa using hd
    subst hd
    refine enterA2 Tryz.func60 rfl rfl rfl ?_
    refine zS (zR ?_)
    refine XOA.wr0 rfl (WrA.alloc (tyrow rfl)) ?_
    rintro _ _ _ ⟨g4, rfl, rfl, rfl⟩
    refine zN (zT (zS (zR (zA rfl ?_)))); refine zA rfl ?_
    refine XOA.die rfl (deep_bad σ b p c e _ 13 l hl (by decide)) rfl ?_
    rintro _ _ _ ⟨rfl, rfl, rfl⟩
    refine DA.cl ?_
    repeat (first | refine DA.thn_panic ?_ | refine DA.inb_panic ?_)
    exact bodyA.panic zE ⟨_, rfl, rfl, .refl _, _, rfl⟩
  | f + 1 => by
    intro σ b p c pv cv l d hv hl hF hd hd0
    have ih := expr_p vl e f
    have hd1 : d ≤ 12 := by omega
    have hd2 : -9223372036854775808 ≤ d + 1 := by omega
    obtain ⟨R, hR⟩ : ∃ R, exprP vl e (f + 1) l = R := ⟨_, rfl⟩
    have hR0 := hR
    rw [exprP] at hR
    refine enterA2 Tryz.func60 rfl rfl rfl ?_
    refine zS (zR ?_)
    refine XOA.wr0 rfl (WrA.alloc (tyrow rfl)) ?_
    rintro _ _ _ ⟨g4, rfl, rfl, rfl⟩
    refine zN (zT (zS (zR (zA rfl ?_)))); refine zA rfl ?_
    refine XOA.wr0 rfl (WrA.cE (deep_ok σ b d _ hd1) rfl) ?_
    rintro _ _ _ ⟨_, ⟨rfl, rfl, rfl⟩, rfl⟩
    refine XOA.cl ?_; refine zN (zT (zS (zR (zA rfl ?_))))
    cases hq : isT lpar l with
    | false =>
      rw [if_neg (by rw [hq]; exact Bool.noConfusion)] at hR
      refine XOA.die rfl (want_bad σ b p c e _ l lpar hl hq) rfl ?_
      rintro _ _ _ ⟨rfl, rfl, rfl⟩
      refine DA.cl ?_
      repeat (first | refine DA.thn_panic ?_ | refine DA.inb_panic ?_)
      exact bodyA.panic zE ⟨_, hR0.trans hR.symm, rfl, .refl _, _, rfl⟩
    | true =>
      obtain ⟨t1, l1, rfl⟩ := isT_cons hq
      rw [if_pos hq, List.tail_cons] at hR
      refine XOA.wr0 rfl (WrA.cE (want_ok σ b p c e _ t1 l1 lpar hl hq) rfl) ?_
      rintro _ _ _ ⟨_, ⟨rfl, p1, c1, hl1, rfl, rfl⟩, rfl⟩
      refine XOA.cl ?_; refine zN (zT (zS (zR (zA rfl ?_))))
      cases hk : pickT wordOf 8 l1 with
      | none =>
        rw [hk] at hR
        refine XOA.die rfl (pick_bad σ b p1 c1 e _ 8 wordOf word_p 8 (by decide) l1 hl1 (fun j a b => pickG_none 8 1 hk j a (by omega))) rfl ?_
        rintro _ _ _ ⟨rfl, rfl, rfl⟩
        refine DA.cl ?_
        repeat (first | refine DA.thn_panic ?_ | refine DA.inb_panic ?_)
        exact bodyA.panic zE ⟨_, hR0.trans hR.symm, rfl, .refl _, _, rfl⟩
      | some k =>
        rw [hk] at hR
        simp only at hR
        obtain ⟨k1, k2, k3, k4⟩ := pickG_some 8 1 hk
        have k2 : k ≤ 8 := by omega
        obtain ⟨t2, l2, rfl⟩ := isT_cons k3
        rw [List.tail_cons] at hR
        have hF2 : ∀ t ∈ l2, TkF t := fun t ht => hF t (by simp [ht])
        refine XOA.wr0 rfl (WrA.cE (pick_ok σ b p1 c1 e _ 8 wordOf word_p 8 k (by decide) t2 l2 hl1 k1 k2 k3 k4) rfl) ?_
        rintro _ _ _ ⟨_, ⟨rfl, p2, c2, hl2, rfl, rfl⟩, rfl⟩
        refine XOA.cl ?_
        refine zO rfl (Rd.bl (fun _ _ => tyrow) rfl rfl rfl) ?_
        refine XOA.wr0 rfl (WrA.alloc (tyrow rfl)) ?_
        rintro _ _ _ ⟨g5, rfl, rfl, rfl⟩
        refine XOA.wr0 rfl (WrA.st (tyrow rfl) rfl) ?_
        rintro _ _ _ ⟨rfl, rfl, rfl⟩
        refine zN (zT (zS (zS (zR (zV rfl rfl ?_))))); refine zB rfl rfl (tyrow rfl) rfl ?_; refine zN (zT (XA.block (zS (zR (zO rfl (Rd.eql rfl rfl) ?_))))); refine zO rfl Rd.asg ?_; refine zN (zT ?_)
        by_cases q1 : k = 1
        · subst q1
          rw [headP, if_pos rfl] at hR
          refine XA.condT rfl rfl (zR (zA rfl ?_))
          cases hn : numP e l2 with
          | error x =>
            rw [hn] at hR
            simp only at hR
            have hx : x = failAt e l2 5 ∧ ∀ t r, l2 = t :: r → t.num = false := numP_err hn
            obtain ⟨rfl, hx⟩ := hx
            refine XOA.die rfl (num_bad σ b p2 c2 e _ l2 hl2 hx) rfl ?_
            rintro _ _ _ ⟨rfl, rfl, rfl⟩
            refine DA.cl ?_
            repeat (first | refine DA.thn_panic ?_ | refine DA.inb_panic ?_)
            exact bodyA.panic zE ⟨_, hR0.trans hR.symm, rfl, .refl _, _, rfl⟩
          | ok y =>
            obtain ⟨n3, l3⟩ := y
            rw [hn] at hR
            simp only at hR
            obtain ⟨t3, rfl, h3, rfl⟩ := numP_ok hn
            have hF3 : ∀ t ∈ l3, TkF t := fun t ht => hF2 t (by simp [ht])
            refine XOA.wr0 rfl (WrA.cE (num_ok σ b p2 c2 e _ t3 l3 hl2 h3) rfl) ?_
            rintro _ _ _ ⟨_, ⟨rfl, p3, c3, hl3, rfl, rfl⟩, rfl⟩
            refine XOA.cl ?_; refine zV rfl rfl ?_
            refine XOA.wr0 rfl (WrA.st (tyrow rfl) rfl) ?_
            rintro _ _ _ ⟨rfl, rfl, rfl⟩
            refine zN (DA.inb_normal (zT (zS (zS (zR (zV rfl rfl ?_)))))); refine zB rfl rfl (tyrow rfl) rfl ?_
            refine XOA.wr0 rfl (WrA.cE (parts_a σ ((1 : Nat) : Int)) rfl) ?_
            rintro _ _ _ ⟨_, ⟨rfl, rfl, rfl⟩, rfl⟩
            refine XOA.cl ?_; refine zA rfl ?_; refine zN (zT (XA.block ?_))
            obtain ⟨m, hm⟩ : ∃ m : Nat, partsOf ((1 : Nat) : Int) = m := ⟨(partsOf ((1 : Nat) : Int)).toNat, by have := partsOf_ge (k := ((1 : Nat) : Int)) (by omega) (by omega); omega⟩
            have hm2 : m ≤ 2 := by have := partsOf_le ((1 : Nat) : Int); omega
            rw [hm] at hR ⊢
            rw [Int.toNat_natCast] at hR
            obtain ⟨S, hS⟩ : ∃ S, subsA (exprP vl e f) m l3 [] = S := ⟨_, rfl⟩
            rw [hS] at hR
            refine XA.gen [(0, _), (1, _), (4, _), (5, _), (29, _), (30, _)] ⟨(by with_reducible (conv => lhs; whnf)), (by with_reducible (conv => lhs; whnf)), (by with_reducible (conv => lhs; whnf)), (by with_reducible (conv => lhs; whnf)), (by with_reducible (conv => lhs; whnf)), (by with_reducible (conv => lhs; whnf)), trivial⟩ (fun δ => ?_)
            dsimp only [List.foldl]
            refine XA.loop [(30, 41)] (fun i : Nat => [(30, i64 i)]) (fun i σ' Γ' => σ.sub σ' ∧ i ≤ m ∧ ∃ (lc : List Tk) (acc : List Ex) (pp : Option Addr) (pc : Nat) (pl : Option Addr) (cl : Nat) (rows : List (List Value)), S = subsA (exprP vl e f) (m - i) lc acc ∧ (∀ t ∈ lc, TkF t) ∧ acc.length = i ∧ PSl 4 rTk σ' (.slice pp lc.length pc) lc ∧ Rows_ 4 ExAt σ' rows acc ∧ Γ' = [lst 36 4 (.slice pl i cl) i rows.flatten, blk g5 [i64 ((1 : Nat) : Int), i64 0, i64 t3.n, .slice pl i cl] 36, blk b [.slice pp lc.length pc, i64 e, .slice pv vl.length cv] 46, blk g4 ty36.zero 36]) (fun i => m - i) 0 (by exact ⟨rfl, trivial⟩) (Δ0 := _) ?_ (⟨.refl _, Nat.zero_le _, l3, [], p3, c3, none, 0, [], hS.symm, hF3, rfl, hl3, Rows_.nil _ _ _, rfl⟩) ?_
            · exact zE
            rintro i δ σ1 _ ⟨hs1, hi, lc, acc, pp, pc, pl, cl, rows, hSi, hFc, hacc, hlc, hrows, rfl⟩
            dsimp only [ovr, List.foldl]
            have hi : i ≤ m := hi
            have hv1 := hv.mono hs1 (fun _ _ h => h)
            by_cases hlt : i < m
            · obtain ⟨j, hj⟩ : ∃ j, m - i = j + 1 := ⟨m - i - 1, by omega⟩
              rw [hj, subsA] at hSi
              cases hx : exprP vl e f lc with
              | error x =>
                rw [hx] at hSi
                simp only at hSi
                rw [hSi] at hR
                refine zS (zR (zO rfl (Rd.lss rfl rfl) ?_)); refine zN (zT (zS (XA.condT rfl (by first | rfl | exact decide_eq_true (by omega)) ?_))); refine XA.skip (zT (zS (XA.block ?_)))
                refine XA.draw (by kernel_rfl) _ _ [7, 9] [(0, .pu), (1, .rd), (2, .pu), (3, .pu), (4, .pu), (5, .wr), (6, .wr), (7, .wr), (8, .pu), (9, .wr)] (by kernel_rfl) (PH.sub.refl _) (Ent.sel (R := blk g5 _ _) zL (Ent.nil _)) ?_
                refine XPA.pu rfl rfl Gd.free (Rd.fA rfl) ?_; refine XPA.rd rfl rfl Gd.free (Rd.ldC rfl (tyrow rfl) rfl) ?_; refine XPA.pu rfl rfl Gd.free Rd.mv ?_; refine XPA.pu rfl rfl Gd.free Rd.mv ?_; refine XPA.pu rfl rfl Gd.free zI ?_
                refine XPA.die rfl rfl Gd.free (ih.bad hv1 hlc hFc (by omega) (by omega) hx) rfl ?_
                rintro _ σ2 _ ⟨rfl, hs2, cs2, rfl⟩
                refine DA.cl ?_
                repeat (first | refine DA.thn_panic ?_ | refine DA.inb_panic ?_)
                exact bodyA.panic zE ⟨_, hR0.trans hR.symm, rfl, hs1.trans hs2, _, rfl⟩
              | ok y =>
                obtain ⟨x, l'⟩ := y
                rw [hx] at hSi
                simp only at hSi
                refine zS (zR (zO rfl (Rd.lss rfl rfl) ?_)); refine zN (zT (zS (XA.condT rfl (by first | rfl | exact decide_eq_true (by omega)) ?_))); refine XA.skip (zT (zS (XA.block ?_)))
                refine XA.draw (by kernel_rfl) _ _ [7, 9] [(0, .pu), (1, .rd), (2, .pu), (3, .pu), (4, .pu), (5, .wr), (6, .wr), (7, .wr), (8, .pu), (9, .wr)] (by kernel_rfl) (PH.sub.refl _) (Ent.sel (R := blk g5 _ _) zL (Ent.nil _)) ?_
                refine XPA.pu rfl rfl Gd.free (Rd.fA rfl) ?_; refine XPA.rd rfl rfl Gd.free (Rd.ldC rfl (tyrow rfl) rfl) ?_; refine XPA.pu rfl rfl Gd.free Rd.mv ?_; refine XPA.pu rfl rfl Gd.free Rd.mv ?_; refine XPA.pu rfl rfl Gd.free zI ?_
                refine XPA.wr0 rfl rfl Gd.free (WrA.cE (ih.ok hv1 hlc hFc (by omega) (by omega) hx) rfl) ?_
                rintro _ σ2 _ ⟨_, ⟨cs2, p', c', rfl, hcs2, hl', hs2, rfl⟩, rfl⟩
                refine stays (XPA.cl ?_)
                have hl2' := hcs2.len
                have hone2 := hcs2.ones
                refine XPA.wr0 rfl rfl Gd.free (WrA.bs1 (tyrow rfl) rfl (tyrow rfl)) ?_
                rintro _ _ _ ⟨g38, rfl, rfl, rfl⟩
                refine stays ?_
                refine XPA.wrZ0 rfl rfl Gd.free (by kernel_rfl) (WrA.ap1 (tyrow rfl) rfl (tyrow rfl) rfl rfl rfl) ?_
                rintro _ _ _ ⟨p39, c39, rfl, rfl, rfl⟩
                refine XPA.pu rfl rfl Gd.free (Rd.fA rfl) ?_
                refine XPA.wrZ0 rfl rfl Gd.free (by kernel_rfl) (WrA.st (tyrow rfl) rfl) ?_
                rintro _ _ _ ⟨rfl, rfl, rfl⟩
                refine XPA.nil ?_; refine DA.inb_normal (zT (zR (zO rfl zI ?_))); refine zA rfl ?_; refine zN (zT ?_)
                have hnew : Rows_ 4 ExAt σ2 (rows ++ [cs2]) (acc ++ [x]) := (hrows.mono (fun _ _ h => h.mono hs2)).snoc hl2' hcs2
                refine ⟨(Keep.upd (Keep.upd (Keep.updN (Keep.upd (Keep.updO (Keep.updO (Keep.updO (Keep.upd (Keep.upd (Keep.upd (Keep.upd (Keep.upd (Keep.upd (Keep.upd (Keep.hav (Keep.refl _ _) rfl) rfl) rfl) rfl) rfl) rfl) rfl) rfl) rfl) rfl) rfl) rfl)) rfl) rfl), i + 1, _, zM, ?_, ⟨hs1.trans hs2, hlt, l', acc ++ [x], p', c', p39, c39, rows ++ [cs2], (by rw [hSi, show m - (i + 1) = j by omega]), (fun t ht => hFc t (exprP_mem f _ _ _ hx t ht)), (by rw [List.length_append, hacc]; rfl), hl', hnew, rfl⟩, (by omega)⟩
                · rw [flatS]; exact zE
            · have him : i = m := by omega
              subst him
              rw [Nat.sub_self, subsA] at hSi
              rw [hSi] at hR
              simp only at hR
              rw [closeP] at hR
              refine zS (zR (zO rfl (Rd.lss rfl rfl) ?_)); refine zN (zT (zS (XA.condF rfl (by first | rfl | exact decide_eq_false (by omega)) ?_))); refine XA.exit (DA.thn_exit (DA.thn_exit (DA.inb_same (zT (zS (zR (zA rfl ?_)))))))
              cases hc : isT rpar lc with
              | false =>
                rw [if_neg (by rw [hc]; exact Bool.noConfusion)] at hR
                refine XOA.die rfl (want_bad σ1 b pp pc e _ lc rpar hlc hc) rfl ?_
                rintro _ _ _ ⟨rfl, rfl, rfl⟩
                refine DA.cl ?_
                repeat (first | refine DA.thn_panic ?_ | refine DA.inb_panic ?_)
                exact bodyA.panic zE ⟨_, hR0.trans hR.symm, rfl, hs1, _, rfl⟩
              | true =>
                obtain ⟨t4, l4, rfl⟩ := isT_cons hc
                rw [if_pos hc, List.tail_cons] at hR
                refine XOA.wr0 rfl (WrA.cE (want_ok σ1 b pp pc e _ t4 l4 rpar hlc hc) rfl) ?_
                rintro _ _ _ ⟨_, ⟨rfl, p5, c5, hl5, rfl, rfl⟩, rfl⟩
                refine XOA.cl ?_; refine zN (zT (zS (zR (zO rfl (Rd.ldA rfl) ?_))))
                refine XOA.wr0 rfl (WrA.st (tyrow rfl) rfl) ?_
                rintro _ _ _ ⟨rfl, rfl, rfl⟩
                refine zN (zT (XA.ret ?_))
                refine DA.frz (R := lst 36 4 _ _ _) zL lst_frz lst_frz_mono ?_
                rintro σ3 ⟨⟩ hf hs3
                have hfin : ExAt σ3 [i64 ((1 : Nat) : Int), i64 0, i64 t3.n, .slice pl i cl] (.mk ((1 : Nat) : Int) 0 t3.n acc) := ExAt.of ⟨by omega, by omega⟩ ⟨by decide, by decide⟩ (hF2 t3 (by simp)).2 ((hrows.mono (fun _ _ h => h.mono hs3)).psl hacc.symm hf)
                exact bodyA.ret (ResA.cell rfl rfl (Ld.atBlk (tyrow rfl) rfl zL rfl (by first | exact take0 (by first | rfl | assumption | (refine (ints_len _).trans ?_; assumption) | (simp [*]; (first | done | fail))) | assumption | exact take_app (by first | rfl | assumption | (refine (ints_len _).trans ?_; assumption) | (simp [*]; (first | done | fail))) | (conv => lhs; simp only [List.drop_succ_cons, List.drop_zero, List.take_succ_cons, List.take_zero])) (by first | rfl | assumption | (refine (ints_len _).trans ?_; assumption) | (simp [*]; (first | done | fail))))) zE ⟨_, l4, hR0.trans hR.symm, _, p5, c5, rfl, hfin, hl5.mono hs3 (fun _ _ h => h), hs1.trans hs3, rfl⟩
        by_cases q2 : k = 2
        · subst q2
          rw [headP, if_neg (by decide), if_pos (by decide)] at hR
          refine XA.condF rfl rfl (zS (zS (zR (zO rfl (Rd.eql rfl rfl) ?_)))); refine zO rfl Rd.asg ?_; refine zN (zT (XA.condT rfl rfl (XA.skip (zT (XA.condT rfl rfl (zR (zA rfl ?_)))))))
          cases hn : varP vl e l2 with
          | error x =>
            rw [hn] at hR
            simp only at hR
            rcases varP_err hn with ⟨rfl, hx⟩ | ⟨t3, l3, rfl, rfl, hx, hy⟩
            · skip
              refine XOA.die rfl (variable_bad σ b p2 c2 e _ pv vl.length cv l2 hl2 (fun t ht => (hF2 t ht).1) hx) rfl ?_
              rintro _ _ _ ⟨rfl, rfl, rfl⟩
              refine DA.cl ?_
              repeat (first | refine DA.thn_panic ?_ | refine DA.inb_panic ?_)
              exact bodyA.panic zE ⟨_, hR0.trans hR.symm, rfl, .refl _, _, rfl⟩
            · skip
              refine XOA.die rfl (variable_none σ b p2 c2 e vl pv cv t3 l3 hv hl2 (hF2 t3 (by simp)).1 hx hy) rfl ?_
              rintro _ _ _ ⟨rfl, rfl, rfl⟩
              refine DA.cl ?_
              repeat (first | refine DA.thn_panic ?_ | refine DA.inb_panic ?_)
              exact bodyA.panic zE ⟨_, hR0.trans hR.symm, rfl, .refl _, _, rfl⟩
          | ok y =>
            obtain ⟨v3, l3⟩ := y
            rw [hn] at hR
            simp only at hR
            obtain ⟨t3, i3, rfl, rfl, h3, h4⟩ := varP_ok hn
            have hF3 : ∀ t ∈ l3, TkF t := fun t ht => hF2 t (by simp [ht])
            have hi3 := idxG_lt _ _ _ h4
            have hvm := hv.len_le
            refine XOA.wr0 rfl (WrA.cE (variable_ok σ b p2 c2 e vl pv cv i3 t3 l3 hv hl2 (hF2 t3 (by simp)).1 h3 h4) rfl) ?_
            rintro _ _ _ ⟨_, ⟨rfl, p3, c3, hl3, rfl, rfl⟩, rfl⟩
            refine XOA.cl ?_; refine zV rfl rfl ?_
            refine XOA.wr0 rfl (WrA.st (tyrow rfl) rfl) ?_
            rintro _ _ _ ⟨rfl, rfl, rfl⟩
            refine zN (DA.inb_normal (zT (zS (zS (zR (zV rfl rfl ?_)))))); refine zB rfl rfl (tyrow rfl) rfl ?_
            refine XOA.wr0 rfl (WrA.cE (parts_a σ ((2 : Nat) : Int)) rfl) ?_
            rintro _ _ _ ⟨_, ⟨rfl, rfl, rfl⟩, rfl⟩
            refine XOA.cl ?_; refine zA rfl ?_; refine zN (zT (XA.block ?_))
            obtain ⟨m, hm⟩ : ∃ m : Nat, partsOf ((2 : Nat) : Int) = m := ⟨(partsOf ((2 : Nat) : Int)).toNat, by have := partsOf_ge (k := ((2 : Nat) : Int)) (by omega) (by omega); omega⟩
            have hm2 : m ≤ 2 := by have := partsOf_le ((2 : Nat) : Int); omega
            rw [hm] at hR ⊢
            rw [Int.toNat_natCast] at hR
            obtain ⟨S, hS⟩ : ∃ S, subsA (exprP vl e f) m l3 [] = S := ⟨_, rfl⟩
            rw [hS] at hR
            refine XA.gen [(0, _), (1, _), (4, _), (5, _), (29, _), (30, _)] ⟨(by with_reducible (conv => lhs; whnf)), (by with_reducible (conv => lhs; whnf)), (by with_reducible (conv => lhs; whnf)), (by with_reducible (conv => lhs; whnf)), (by with_reducible (conv => lhs; whnf)), (by with_reducible (conv => lhs; whnf)), trivial⟩ (fun δ => ?_)
            dsimp only [List.foldl]
            refine XA.loop [(30, 41)] (fun i : Nat => [(30, i64 i)]) (fun i σ' Γ' => σ.sub σ' ∧ i ≤ m ∧ ∃ (lc : List Tk) (acc : List Ex) (pp : Option Addr) (pc : Nat) (pl : Option Addr) (cl : Nat) (rows : List (List Value)), S = subsA (exprP vl e f) (m - i) lc acc ∧ (∀ t ∈ lc, TkF t) ∧ acc.length = i ∧ PSl 4 rTk σ' (.slice pp lc.length pc) lc ∧ Rows_ 4 ExAt σ' rows acc ∧ Γ' = [lst 36 4 (.slice pl i cl) i rows.flatten, blk g5 [i64 ((2 : Nat) : Int), i64 (i3 : Int), i64 0, .slice pl i cl] 36, blk b [.slice pp lc.length pc, i64 e, .slice pv vl.length cv] 46, blk g4 ty36.zero 36]) (fun i => m - i) 0 (by exact ⟨rfl, trivial⟩) (Δ0 := _) ?_ (⟨.refl _, Nat.zero_le _, l3, [], p3, c3, none, 0, [], hS.symm, hF3, rfl, hl3, Rows_.nil _ _ _, rfl⟩) ?_
            · exact zE
            rintro i δ σ1 _ ⟨hs1, hi, lc, acc, pp, pc, pl, cl, rows, hSi, hFc, hacc, hlc, hrows, rfl⟩
            dsimp only [ovr, List.foldl]
            have hi : i ≤ m := hi
            have hv1 := hv.mono hs1 (fun _ _ h => h)
            by_cases hlt : i < m
            · obtain ⟨j, hj⟩ : ∃ j, m - i = j + 1 := ⟨m - i - 1, by omega⟩
              rw [hj, subsA] at hSi
              cases hx : exprP vl e f lc with
              | error x =>
                rw [hx] at hSi
                simp only at hSi
                rw [hSi] at hR
                refine zS (zR (zO rfl (Rd.lss rfl rfl) ?_)); refine zN (zT (zS (XA.condT rfl (by first | rfl | exact decide_eq_true (by omega)) ?_))); refine XA.skip (zT (zS (XA.block ?_)))
                refine XA.draw (by kernel_rfl) _ _ [7, 9] [(0, .pu), (1, .rd), (2, .pu), (3, .pu), (4, .pu), (5, .wr), (6, .wr), (7, .wr), (8, .pu), (9, .wr)] (by kernel_rfl) (PH.sub.refl _) (Ent.sel (R := blk g5 _ _) zL (Ent.nil _)) ?_
                refine XPA.pu rfl rfl Gd.free (Rd.fA rfl) ?_; refine XPA.rd rfl rfl Gd.free (Rd.ldC rfl (tyrow rfl) rfl) ?_; refine XPA.pu rfl rfl Gd.free Rd.mv ?_; refine XPA.pu rfl rfl Gd.free Rd.mv ?_; refine XPA.pu rfl rfl Gd.free zI ?_
                refine XPA.die rfl rfl Gd.free (ih.bad hv1 hlc hFc (by omega) (by omega) hx) rfl ?_
                rintro _ σ2 _ ⟨rfl, hs2, cs2, rfl⟩
                refine DA.cl ?_
                repeat (first | refine DA.thn_panic ?_ | refine DA.inb_panic ?_)
                exact bodyA.panic zE ⟨_, hR0.trans hR.symm, rfl, hs1.trans hs2, _, rfl⟩
              | ok y =>
                obtain ⟨x, l'⟩ := y
                rw [hx] at hSi
                simp only at hSi
                refine zS (zR (zO rfl (Rd.lss rfl rfl) ?_)); refine zN (zT (zS (XA.condT rfl (by first | rfl | exact decide_eq_true (by omega)) ?_))); refine XA.skip (zT (zS (XA.block ?_)))
                refine XA.draw (by kernel_rfl) _ _ [7, 9] [(0, .pu), (1, .rd), (2, .pu), (3, .pu), (4, .pu), (5, .wr), (6, .wr), (7, .wr), (8, .pu), (9, .wr)] (by kernel_rfl) (PH.sub.refl _) (Ent.sel (R := blk g5 _ _) zL (Ent.nil _)) ?_
                refine XPA.pu rfl rfl Gd.free (Rd.fA rfl) ?_; refine XPA.rd rfl rfl Gd.free (Rd.ldC rfl (tyrow rfl) rfl) ?_; refine XPA.pu rfl rfl Gd.free Rd.mv ?_; refine XPA.pu rfl rfl Gd.free Rd.mv ?_; refine XPA.pu rfl rfl Gd.free zI ?_
                refine XPA.wr0 rfl rfl Gd.free (WrA.cE (ih.ok hv1 hlc hFc (by omega) (by omega) hx) rfl) ?_
                rintro _ σ2 _ ⟨_, ⟨cs2, p', c', rfl, hcs2, hl', hs2, rfl⟩, rfl⟩
                refine stays (XPA.cl ?_)
                have hl2' := hcs2.len
                have hone2 := hcs2.ones
                refine XPA.wr0 rfl rfl Gd.free (WrA.bs1 (tyrow rfl) rfl (tyrow rfl)) ?_
                rintro _ _ _ ⟨g38, rfl, rfl, rfl⟩
                refine stays ?_
                refine XPA.wrZ0 rfl rfl Gd.free (by kernel_rfl) (WrA.ap1 (tyrow rfl) rfl (tyrow rfl) rfl rfl rfl) ?_
                rintro _ _ _ ⟨p39, c39, rfl, rfl, rfl⟩
                refine XPA.pu rfl rfl Gd.free (Rd.fA rfl) ?_
                refine XPA.wrZ0 rfl rfl Gd.free (by kernel_rfl) (WrA.st (tyrow rfl) rfl) ?_
                rintro _ _ _ ⟨rfl, rfl, rfl⟩
                refine XPA.nil ?_; refine DA.inb_normal (zT (zR (zO rfl zI ?_))); refine zA rfl ?_; refine zN (zT ?_)
                have hnew : Rows_ 4 ExAt σ2 (rows ++ [cs2]) (acc ++ [x]) := (hrows.mono (fun _ _ h => h.mono hs2)).snoc hl2' hcs2
                refine ⟨(Keep.upd (Keep.upd (Keep.updN (Keep.upd (Keep.updO (Keep.updO (Keep.updO (Keep.upd (Keep.upd (Keep.upd (Keep.upd (Keep.upd (Keep.upd (Keep.upd (Keep.hav (Keep.refl _ _) rfl) rfl) rfl) rfl) rfl) rfl) rfl) rfl) rfl) rfl) rfl) rfl)) rfl) rfl), i + 1, _, zM, ?_, ⟨hs1.trans hs2, hlt, l', acc ++ [x], p', c', p39, c39, rows ++ [cs2], (by rw [hSi, show m - (i + 1) = j by omega]), (fun t ht => hFc t (exprP_mem f _ _ _ hx t ht)), (by rw [List.length_append, hacc]; rfl), hl', hnew, rfl⟩, (by omega)⟩
                · rw [flatS]; exact zE
            · have him : i = m := by omega
              subst him
              rw [Nat.sub_self, subsA] at hSi
              rw [hSi] at hR
              simp only at hR
              rw [closeP] at hR
              refine zS (zR (zO rfl (Rd.lss rfl rfl) ?_)); refine zN (zT (zS (XA.condF rfl (by first | rfl | exact decide_eq_false (by omega)) ?_))); refine XA.exit (DA.thn_exit (DA.thn_exit (DA.inb_same (zT (zS (zR (zA rfl ?_)))))))
              cases hc : isT rpar lc with
              | false =>
                rw [if_neg (by rw [hc]; exact Bool.noConfusion)] at hR
                refine XOA.die rfl (want_bad σ1 b pp pc e _ lc rpar hlc hc) rfl ?_
                rintro _ _ _ ⟨rfl, rfl, rfl⟩
                refine DA.cl ?_
                repeat (first | refine DA.thn_panic ?_ | refine DA.inb_panic ?_)
                exact bodyA.panic zE ⟨_, hR0.trans hR.symm, rfl, hs1, _, rfl⟩
              | true =>
                obtain ⟨t4, l4, rfl⟩ := isT_cons hc
                rw [if_pos hc, List.tail_cons] at hR
                refine XOA.wr0 rfl (WrA.cE (want_ok σ1 b pp pc e _ t4 l4 rpar hlc hc) rfl) ?_
                rintro _ _ _ ⟨_, ⟨rfl, p5, c5, hl5, rfl, rfl⟩, rfl⟩
                refine XOA.cl ?_; refine zN (zT (zS (zR (zO rfl (Rd.ldA rfl) ?_))))
                refine XOA.wr0 rfl (WrA.st (tyrow rfl) rfl) ?_
                rintro _ _ _ ⟨rfl, rfl, rfl⟩
                refine zN (zT (XA.ret ?_))
                refine DA.frz (R := lst 36 4 _ _ _) zL lst_frz lst_frz_mono ?_
                rintro σ3 ⟨⟩ hf hs3
                have hfin : ExAt σ3 [i64 ((2 : Nat) : Int), i64 (i3 : Int), i64 0, .slice pl i cl] (.mk ((2 : Nat) : Int) (i3 : Int) 0 acc) := ExAt.of ⟨by omega, by omega⟩ ⟨by omega, by omega⟩ ⟨by decide, by decide⟩ ((hrows.mono (fun _ _ h => h.mono hs3)).psl hacc.symm hf)
                exact bodyA.ret (ResA.cell rfl rfl (Ld.atBlk (tyrow rfl) rfl zL rfl (by first | exact take0 (by first | rfl | assumption | (refine (ints_len _).trans ?_; assumption) | (simp [*]; (first | done | fail))) | assumption | exact take_app (by first | rfl | assumption | (refine (ints_len _).trans ?_; assumption) | (simp [*]; (first | done | fail))) | (conv => lhs; simp only [List.drop_succ_cons, List.drop_zero, List.take_succ_cons, List.take_zero])) (by first | rfl | assumption | (refine (ints_len _).trans ?_; assumption) | (simp [*]; (first | done | fail))))) zE ⟨_, l4, hR0.trans hR.symm, _, p5, c5, rfl, hfin, hl5.mono hs3 (fun _ _ h => h), hs1.trans hs3, rfl⟩
        by_cases q3 : k = 3
        · subst q3
          rw [headP, if_neg (by decide), if_pos (by decide)] at hR
          refine XA.condF rfl rfl (zS (zS (zR (zO rfl (Rd.eql rfl rfl) ?_)))); refine zO rfl Rd.asg ?_; refine zN (zT (XA.condF rfl rfl (zR (zO rfl (Rd.eql rfl rfl) ?_)))); refine zO rfl Rd.asg ?_; refine zN (zT (XA.condT rfl rfl (zR (zA rfl ?_))))
          cases hn : varP vl e l2 with
          | error x =>
            rw [hn] at hR
            simp only at hR
            rcases varP_err hn with ⟨rfl, hx⟩ | ⟨t3, l3, rfl, rfl, hx, hy⟩
            · skip
              refine XOA.die rfl (variable_bad σ b p2 c2 e _ pv vl.length cv l2 hl2 (fun t ht => (hF2 t ht).1) hx) rfl ?_
              rintro _ _ _ ⟨rfl, rfl, rfl⟩
              refine DA.cl ?_
              repeat (first | refine DA.thn_panic ?_ | refine DA.inb_panic ?_)
              exact bodyA.panic zE ⟨_, hR0.trans hR.symm, rfl, .refl _, _, rfl⟩
            · skip
              refine XOA.die rfl (variable_none σ b p2 c2 e vl pv cv t3 l3 hv hl2 (hF2 t3 (by simp)).1 hx hy) rfl ?_
              rintro _ _ _ ⟨rfl, rfl, rfl⟩
              refine DA.cl ?_
              repeat (first | refine DA.thn_panic ?_ | refine DA.inb_panic ?_)
              exact bodyA.panic zE ⟨_, hR0.trans hR.symm, rfl, .refl _, _, rfl⟩
          | ok y =>
            obtain ⟨v3, l3⟩ := y
            rw [hn] at hR
            simp only at hR
            obtain ⟨t3, i3, rfl, rfl, h3, h4⟩ := varP_ok hn
            have hF3 : ∀ t ∈ l3, TkF t := fun t ht => hF2 t (by simp [ht])
            have hi3 := idxG_lt _ _ _ h4
            have hvm := hv.len_le
            refine XOA.wr0 rfl (WrA.cE (variable_ok σ b p2 c2 e vl pv cv i3 t3 l3 hv hl2 (hF2 t3 (by simp)).1 h3 h4) rfl) ?_
            rintro _ _ _ ⟨_, ⟨rfl, p3, c3, hl3, rfl, rfl⟩, rfl⟩
            refine XOA.cl ?_; refine zV rfl rfl ?_
            refine XOA.wr0 rfl (WrA.st (tyrow rfl) rfl) ?_
            rintro _ _ _ ⟨rfl, rfl, rfl⟩
            refine zN (DA.inb_normal (zT (zS (zS (zR (zV rfl rfl ?_)))))); refine zB rfl rfl (tyrow rfl) rfl ?_
            refine XOA.wr0 rfl (WrA.cE (parts_a σ ((3 : Nat) : Int)) rfl) ?_
            rintro _ _ _ ⟨_, ⟨rfl, rfl, rfl⟩, rfl⟩
            refine XOA.cl ?_; refine zA rfl ?_; refine zN (zT (XA.block ?_))
            obtain ⟨m, hm⟩ : ∃ m : Nat, partsOf ((3 : Nat) : Int) = m := ⟨(partsOf ((3 : Nat) : Int)).toNat, by have := partsOf_ge (k := ((3 : Nat) : Int)) (by omega) (by omega); omega⟩
            have hm2 : m ≤ 2 := by have := partsOf_le ((3 : Nat) : Int); omega
            rw [hm] at hR ⊢
            rw [Int.toNat_natCast] at hR
            obtain ⟨S, hS⟩ : ∃ S, subsA (exprP vl e f) m l3 [] = S := ⟨_, rfl⟩
            rw [hS] at hR
            refine XA.gen [(0, _), (1, _), (4, _), (5, _), (29, _), (30, _)] ⟨(by with_reducible (conv => lhs; whnf)), (by with_reducible (conv => lhs; whnf)), (by with_reducible (conv => lhs; whnf)), (by with_reducible (conv => lhs; whnf)), (by with_reducible (conv => lhs; whnf)), (by with_reducible (conv => lhs; whnf)), trivial⟩ (fun δ => ?_)
            dsimp only [List.foldl]
            refine XA.loop [(30, 41)] (fun i : Nat => [(30, i64 i)]) (fun i σ' Γ' => σ.sub σ' ∧ i ≤ m ∧ ∃ (lc : List Tk) (acc : List Ex) (pp : Option Addr) (pc : Nat) (pl : Option Addr) (cl : Nat) (rows : List (List Value)), S = subsA (exprP vl e f) (m - i) lc acc ∧ (∀ t ∈ lc, TkF t) ∧ acc.length = i ∧ PSl 4 rTk σ' (.slice pp lc.length pc) lc ∧ Rows_ 4 ExAt σ' rows acc ∧ Γ' = [lst 36 4 (.slice pl i cl) i rows.flatten, blk g5 [i64 ((3 : Nat) : Int), i64 (i3 : Int), i64 0, .slice pl i cl] 36, blk b [.slice pp lc.length pc, i64 e, .slice pv vl.length cv] 46, blk g4 ty36.zero 36]) (fun i => m - i) 0 (by exact ⟨rfl, trivial⟩) (Δ0 := _) ?_ (⟨.refl _, Nat.zero_le _, l3, [], p3, c3, none, 0, [], hS.symm, hF3, rfl, hl3, Rows_.nil _ _ _, rfl⟩) ?_
            · exact zE
            rintro i δ σ1 _ ⟨hs1, hi, lc, acc, pp, pc, pl, cl, rows, hSi, hFc, hacc, hlc, hrows, rfl⟩
            dsimp only [ovr, List.foldl]
            have hi : i ≤ m := hi
            have hv1 := hv.mono hs1 (fun _ _ h => h)
            by_cases hlt : i < m
            · obtain ⟨j, hj⟩ : ∃ j, m - i = j + 1 := ⟨m - i - 1, by omega⟩
              rw [hj, subsA] at hSi
              cases hx : exprP vl e f lc with
              | error x =>
                rw [hx] at hSi
                simp only at hSi
                rw [hSi] at hR
                refine zS (zR (zO rfl (Rd.lss rfl rfl) ?_)); refine zN (zT (zS (XA.condT rfl (by first | rfl | exact decide_eq_true (by omega)) ?_))); refine XA.skip (zT (zS (XA.block ?_)))
                refine XA.draw (by kernel_rfl) _ _ [7, 9] [(0, .pu), (1, .rd), (2, .pu), (3, .pu), (4, .pu), (5, .wr), (6, .wr), (7, .wr), (8, .pu), (9, .wr)] (by kernel_rfl) (PH.sub.refl _) (Ent.sel (R := blk g5 _ _) zL (Ent.nil _)) ?_
                refine XPA.pu rfl rfl Gd.free (Rd.fA rfl) ?_; refine XPA.rd rfl rfl Gd.free (Rd.ldC rfl (tyrow rfl) rfl) ?_; refine XPA.pu rfl rfl Gd.free Rd.mv ?_; refine XPA.pu rfl rfl Gd.free Rd.mv ?_; refine XPA.pu rfl rfl Gd.free zI ?_
                refine XPA.die rfl rfl Gd.free (ih.bad hv1 hlc hFc (by omega) (by omega) hx) rfl ?_
                rintro _ σ2 _ ⟨rfl, hs2, cs2, rfl⟩
                refine DA.cl ?_
                repeat (first | refine DA.thn_panic ?_ | refine DA.inb_panic ?_)
                exact bodyA.panic zE ⟨_, hR0.trans hR.symm, rfl, hs1.trans hs2, _, rfl⟩
              | ok y =>
                obtain ⟨x, l'⟩ := y
                rw [hx] at hSi
                simp only at hSi
                refine zS (zR (zO rfl (Rd.lss rfl rfl) ?_)); refine zN (zT (zS (XA.condT rfl (by first | rfl | exact decide_eq_true (by omega)) ?_))); refine XA.skip (zT (zS (XA.block ?_)))
                refine XA.draw (by kernel_rfl) _ _ [7, 9] [(0, .pu), (1, .rd), (2, .pu), (3, .pu), (4, .pu), (5, .wr), (6, .wr), (7, .wr), (8, .pu), (9, .wr)] (by kernel_rfl) (PH.sub.refl _) (Ent.sel (R := blk g5 _ _) zL (Ent.nil _)) ?_
                refine XPA.pu rfl rfl Gd.free (Rd.fA rfl) ?_; refine XPA.rd rfl rfl Gd.free (Rd.ldC rfl (tyrow rfl) rfl) ?_; refine XPA.pu rfl rfl Gd.free Rd.mv ?_; refine XPA.pu rfl rfl Gd.free Rd.mv ?_; refine XPA.pu rfl rfl Gd.free zI ?_
                refine XPA.wr0 rfl rfl Gd.free (WrA.cE (ih.ok hv1 hlc hFc (by omega) (by omega) hx) rfl) ?_
                rintro _ σ2 _ ⟨_, ⟨cs2, p', c', rfl, hcs2, hl', hs2, rfl⟩, rfl⟩
                refine stays (XPA.cl ?_)
                have hl2' := hcs2.len
                have hone2 := hcs2.ones
                refine XPA.wr0 rfl rfl Gd.free (WrA.bs1 (tyrow rfl) rfl (tyrow rfl)) ?_
                rintro _ _ _ ⟨g38, rfl, rfl, rfl⟩
                refine stays ?_
                refine XPA.wrZ0 rfl rfl Gd.free (by kernel_rfl) (WrA.ap1 (tyrow rfl) rfl (tyrow rfl) rfl rfl rfl) ?_
                rintro _ _ _ ⟨p39, c39, rfl, rfl, rfl⟩
                refine XPA.pu rfl rfl Gd.free (Rd.fA rfl) ?_
                refine XPA.wrZ0 rfl rfl Gd.free (by kernel_rfl) (WrA.st (tyrow rfl) rfl) ?_
                rintro _ _ _ ⟨rfl, rfl, rfl⟩
                refine XPA.nil ?_; refine DA.inb_normal (zT (zR (zO rfl zI ?_))); refine zA rfl ?_; refine zN (zT ?_)
                have hnew : Rows_ 4 ExAt σ2 (rows ++ [cs2]) (acc ++ [x]) := (hrows.mono (fun _ _ h => h.mono hs2)).snoc hl2' hcs2
                refine ⟨(Keep.upd (Keep.upd (Keep.updN (Keep.upd (Keep.updO (Keep.updO (Keep.updO (Keep.upd (Keep.upd (Keep.upd (Keep.upd (Keep.upd (Keep.upd (Keep.upd (Keep.hav (Keep.refl _ _) rfl) rfl) rfl) rfl) rfl) rfl) rfl) rfl) rfl) rfl) rfl) rfl)) rfl) rfl), i + 1, _, zM, ?_, ⟨hs1.trans hs2, hlt, l', acc ++ [x], p', c', p39, c39, rows ++ [cs2], (by rw [hSi, show m - (i + 1) = j by omega]), (fun t ht => hFc t (exprP_mem f _ _ _ hx t ht)), (by rw [List.length_append, hacc]; rfl), hl', hnew, rfl⟩, (by omega)⟩
                · rw [flatS]; exact zE
            · have him : i = m := by omega
              subst him
              rw [Nat.sub_self, subsA] at hSi
              rw [hSi] at hR
              simp only at hR
              rw [closeP] at hR
              refine zS (zR (zO rfl (Rd.lss rfl rfl) ?_)); refine zN (zT (zS (XA.condF rfl (by first | rfl | exact decide_eq_false (by omega)) ?_))); refine XA.exit (DA.thn_exit (DA.thn_exit (DA.inb_same (zT (zS (zR (zA rfl ?_)))))))
              cases hc : isT rpar lc with
              | false =>
                rw [if_neg (by rw [hc]; exact Bool.noConfusion)] at hR
                refine XOA.die rfl (want_bad σ1 b pp pc e _ lc rpar hlc hc) rfl ?_
                rintro _ _ _ ⟨rfl, rfl, rfl⟩
                refine DA.cl ?_
                repeat (first | refine DA.thn_panic ?_ | refine DA.inb_panic ?_)
                exact bodyA.panic zE ⟨_, hR0.trans hR.symm, rfl, hs1, _, rfl⟩
              | true =>
                obtain ⟨t4, l4, rfl⟩ := isT_cons hc
                rw [if_pos hc, List.tail_cons] at hR
                refine XOA.wr0 rfl (WrA.cE (want_ok σ1 b pp pc e _ t4 l4 rpar hlc hc) rfl) ?_
                rintro _ _ _ ⟨_, ⟨rfl, p5, c5, hl5, rfl, rfl⟩, rfl⟩
                refine XOA.cl ?_; refine zN (zT (zS (zR (zO rfl (Rd.ldA rfl) ?_))))
                refine XOA.wr0 rfl (WrA.st (tyrow rfl) rfl) ?_
                rintro _ _ _ ⟨rfl, rfl, rfl⟩
                refine zN (zT (XA.ret ?_))
                refine DA.frz (R := lst 36 4 _ _ _) zL lst_frz lst_frz_mono ?_
                rintro σ3 ⟨⟩ hf hs3
                have hfin : ExAt σ3 [i64 ((3 : Nat) : Int), i64 (i3 : Int), i64 0, .slice pl i cl] (.mk ((3 : Nat) : Int) (i3 : Int) 0 acc) := ExAt.of ⟨by omega, by omega⟩ ⟨by omega, by omega⟩ ⟨by decide, by decide⟩ ((hrows.mono (fun _ _ h => h.mono hs3)).psl hacc.symm hf)
                exact bodyA.ret (ResA.cell rfl rfl (Ld.atBlk (tyrow rfl) rfl zL rfl (by first | exact take0 (by first | rfl | assumption | (refine (ints_len _).trans ?_; assumption) | (simp [*]; (first | done | fail))) | assumption | exact take_app (by first | rfl | assumption | (refine (ints_len _).trans ?_; assumption) | (simp [*]; (first | done | fail))) | (conv => lhs; simp only [List.drop_succ_cons, List.drop_zero, List.take_succ_cons, List.take_zero])) (by first | rfl | assumption | (refine (ints_len _).trans ?_; assumption) | (simp [*]; (first | done | fail))))) zE ⟨_, l4, hR0.trans hR.symm, _, p5, c5, rfl, hfin, hl5.mono hs3 (fun _ _ h => h), hs1.trans hs3, rfl⟩
        rw [headP, if_neg q1, if_neg (by omega)] at hR
        simp only at hR
        refine XA.condF rfl (by first | rfl | exact decide_eq_false (by omega)) ?_; refine zS (zS (zR (zO rfl (Rd.eql rfl rfl) ?_))); refine zO rfl Rd.asg ?_; refine zN (zT (XA.condF rfl (by first | rfl | exact decide_eq_false (by omega)) ?_)); refine zR (zO rfl (Rd.eql rfl rfl) ?_); refine zO rfl Rd.asg ?_
        refine zN (zT (XA.condF rfl (by first | rfl | exact decide_eq_false (by omega)) ?_)); refine XA.skip (DA.inb_normal (zT (zS (zS (zR (zV rfl rfl ?_)))))); refine zB rfl rfl (tyrow rfl) rfl ?_
        refine XOA.wr0 rfl (WrA.cE (parts_a σ (k : Int)) rfl) ?_
        rintro _ _ _ ⟨_, ⟨rfl, rfl, rfl⟩, rfl⟩
        refine XOA.cl ?_; refine zA rfl ?_; refine zN (zT (XA.block ?_))
        obtain ⟨m, hm⟩ : ∃ m : Nat, partsOf (k : Int) = m := ⟨(partsOf (k : Int)).toNat, by have := partsOf_ge (k := (k : Int)) (by omega) (by omega); omega⟩
        have hm2 : m ≤ 2 := by have := partsOf_le (k : Int); omega
        rw [hm] at hR ⊢
        rw [Int.toNat_natCast] at hR
        obtain ⟨S, hS⟩ : ∃ S, subsA (exprP vl e f) m l2 [] = S := ⟨_, rfl⟩
        rw [hS] at hR
        refine XA.gen [(0, _), (1, _), (4, _), (5, _), (29, _), (30, _)] ⟨(by with_reducible (conv => lhs; whnf)), (by with_reducible (conv => lhs; whnf)), (by with_reducible (conv => lhs; whnf)), (by with_reducible (conv => lhs; whnf)), (by with_reducible (conv => lhs; whnf)), (by with_reducible (conv => lhs; whnf)), trivial⟩ (fun δ => ?_)
        dsimp only [List.foldl]
        refine XA.loop [(30, 41)] (fun i : Nat => [(30, i64 i)]) (fun i σ' Γ' => σ.sub σ' ∧ i ≤ m ∧ ∃ (lc : List Tk) (acc : List Ex) (pp : Option Addr) (pc : Nat) (pl : Option Addr) (cl : Nat) (rows : List (List Value)), S = subsA (exprP vl e f) (m - i) lc acc ∧ (∀ t ∈ lc, TkF t) ∧ acc.length = i ∧ PSl 4 rTk σ' (.slice pp lc.length pc) lc ∧ Rows_ 4 ExAt σ' rows acc ∧ Γ' = [lst 36 4 (.slice pl i cl) i rows.flatten, blk g5 [i64 (k : Int), i64 0, i64 0, .slice pl i cl] 36, blk b [.slice pp lc.length pc, i64 e, .slice pv vl.length cv] 46, blk g4 ty36.zero 36]) (fun i => m - i) 0 (by exact ⟨rfl, trivial⟩) (Δ0 := _) ?_ (⟨.refl _, Nat.zero_le _, l2, [], p2, c2, none, 0, [], hS.symm, hF2, rfl, hl2, Rows_.nil _ _ _, rfl⟩) ?_
        · exact zE
        rintro i δ σ1 _ ⟨hs1, hi, lc, acc, pp, pc, pl, cl, rows, hSi, hFc, hacc, hlc, hrows, rfl⟩
        dsimp only [ovr, List.foldl]
        have hi : i ≤ m := hi
        have hv1 := hv.mono hs1 (fun _ _ h => h)
        by_cases hlt : i < m
        · obtain ⟨j, hj⟩ : ∃ j, m - i = j + 1 := ⟨m - i - 1, by omega⟩
          rw [hj, subsA] at hSi
          cases hx : exprP vl e f lc with
          | error x =>
            rw [hx] at hSi
            simp only at hSi
            rw [hSi] at hR
            refine zS (zR (zO rfl (Rd.lss rfl rfl) ?_)); refine zN (zT (zS (XA.condT rfl (by first | rfl | exact decide_eq_true (by omega)) ?_))); refine XA.skip (zT (zS (XA.block ?_)))
            refine XA.draw (by kernel_rfl) _ _ [7, 9] [(0, .pu), (1, .rd), (2, .pu), (3, .pu), (4, .pu), (5, .wr), (6, .wr), (7, .wr), (8, .pu), (9, .wr)] (by kernel_rfl) (PH.sub.refl _) (Ent.sel (R := blk g5 _ _) zL (Ent.nil _)) ?_
            refine XPA.pu rfl rfl Gd.free (Rd.fA rfl) ?_; refine XPA.rd rfl rfl Gd.free (Rd.ldC rfl (tyrow rfl) rfl) ?_; refine XPA.pu rfl rfl Gd.free Rd.mv ?_; refine XPA.pu rfl rfl Gd.free Rd.mv ?_; refine XPA.pu rfl rfl Gd.free zI ?_
            refine XPA.die rfl rfl Gd.free (ih.bad hv1 hlc hFc (by omega) (by omega) hx) rfl ?_
            rintro _ σ2 _ ⟨rfl, hs2, cs2, rfl⟩
            refine DA.cl ?_
            repeat (first | refine DA.thn_panic ?_ | refine DA.inb_panic ?_)
            exact bodyA.panic zE ⟨_, hR0.trans hR.symm, rfl, hs1.trans hs2, _, rfl⟩
          | ok y =>
            obtain ⟨x, l'⟩ := y
            rw [hx] at hSi
            simp only at hSi
            refine zS (zR (zO rfl (Rd.lss rfl rfl) ?_)); refine zN (zT (zS (XA.condT rfl (by first | rfl | exact decide_eq_true (by omega)) ?_))); refine XA.skip (zT (zS (XA.block ?_)))
            refine XA.draw (by kernel_rfl) _ _ [7, 9] [(0, .pu), (1, .rd), (2, .pu), (3, .pu), (4, .pu), (5, .wr), (6, .wr), (7, .wr), (8, .pu), (9, .wr)] (by kernel_rfl) (PH.sub.refl _) (Ent.sel (R := blk g5 _ _) zL (Ent.nil _)) ?_
            refine XPA.pu rfl rfl Gd.free (Rd.fA rfl) ?_; refine XPA.rd rfl rfl Gd.free (Rd.ldC rfl (tyrow rfl) rfl) ?_; refine XPA.pu rfl rfl Gd.free Rd.mv ?_; refine XPA.pu rfl rfl Gd.free Rd.mv ?_; refine XPA.pu rfl rfl Gd.free zI ?_
            refine XPA.wr0 rfl rfl Gd.free (WrA.cE (ih.ok hv1 hlc hFc (by omega) (by omega) hx) rfl) ?_
            rintro _ σ2 _ ⟨_, ⟨cs2, p', c', rfl, hcs2, hl', hs2, rfl⟩, rfl⟩
            refine stays (XPA.cl ?_)
            have hl2' := hcs2.len
            have hone2 := hcs2.ones
            refine XPA.wr0 rfl rfl Gd.free (WrA.bs1 (tyrow rfl) rfl (tyrow rfl)) ?_
            rintro _ _ _ ⟨g38, rfl, rfl, rfl⟩
            refine stays ?_
            refine XPA.wrZ0 rfl rfl Gd.free (by kernel_rfl) (WrA.ap1 (tyrow rfl) rfl (tyrow rfl) rfl rfl rfl) ?_
            rintro _ _ _ ⟨p39, c39, rfl, rfl, rfl⟩
            refine XPA.pu rfl rfl Gd.free (Rd.fA rfl) ?_
            refine XPA.wrZ0 rfl rfl Gd.free (by kernel_rfl) (WrA.st (tyrow rfl) rfl) ?_
            rintro _ _ _ ⟨rfl, rfl, rfl⟩
            refine XPA.nil ?_; refine DA.inb_normal (zT (zR (zO rfl zI ?_))); refine zA rfl ?_; refine zN (zT ?_)
            have hnew : Rows_ 4 ExAt σ2 (rows ++ [cs2]) (acc ++ [x]) := (hrows.mono (fun _ _ h => h.mono hs2)).snoc hl2' hcs2
            refine ⟨(Keep.upd (Keep.upd (Keep.updN (Keep.upd (Keep.updO (Keep.updO (Keep.updO (Keep.upd (Keep.upd (Keep.upd (Keep.upd (Keep.upd (Keep.upd (Keep.upd (Keep.hav (Keep.refl _ _) rfl) rfl) rfl) rfl) rfl) rfl) rfl) rfl) rfl) rfl) rfl) rfl)) rfl) rfl), i + 1, _, zM, ?_, ⟨hs1.trans hs2, hlt, l', acc ++ [x], p', c', p39, c39, rows ++ [cs2], (by rw [hSi, show m - (i + 1) = j by omega]), (fun t ht => hFc t (exprP_mem f _ _ _ hx t ht)), (by rw [List.length_append, hacc]; rfl), hl', hnew, rfl⟩, (by omega)⟩
            · rw [flatS]; exact zE
        · have him : i = m := by omega
          subst him
          rw [Nat.sub_self, subsA] at hSi
          rw [hSi] at hR
          simp only at hR
          rw [closeP] at hR
          refine zS (zR (zO rfl (Rd.lss rfl rfl) ?_)); refine zN (zT (zS (XA.condF rfl (by first | rfl | exact decide_eq_false (by omega)) ?_))); refine XA.exit (DA.thn_exit (DA.thn_exit (DA.inb_same (zT (zS (zR (zA rfl ?_)))))))
          cases hc : isT rpar lc with
          | false =>
            rw [if_neg (by rw [hc]; exact Bool.noConfusion)] at hR
            refine XOA.die rfl (want_bad σ1 b pp pc e _ lc rpar hlc hc) rfl ?_
            rintro _ _ _ ⟨rfl, rfl, rfl⟩
            refine DA.cl ?_
            repeat (first | refine DA.thn_panic ?_ | refine DA.inb_panic ?_)
            exact bodyA.panic zE ⟨_, hR0.trans hR.symm, rfl, hs1, _, rfl⟩
          | true =>
            obtain ⟨t4, l4, rfl⟩ := isT_cons hc
            rw [if_pos hc, List.tail_cons] at hR
            refine XOA.wr0 rfl (WrA.cE (want_ok σ1 b pp pc e _ t4 l4 rpar hlc hc) rfl) ?_
            rintro _ _ _ ⟨_, ⟨rfl, p5, c5, hl5, rfl, rfl⟩, rfl⟩
            refine XOA.cl ?_; refine zN (zT (zS (zR (zO rfl (Rd.ldA rfl) ?_))))
            refine XOA.wr0 rfl (WrA.st (tyrow rfl) rfl) ?_
            rintro _ _ _ ⟨rfl, rfl, rfl⟩
            refine zN (zT (XA.ret ?_))
            refine DA.frz (R := lst 36 4 _ _ _) zL lst_frz lst_frz_mono ?_
            rintro σ3 ⟨⟩ hf hs3
            have hfin : ExAt σ3 [i64 (k : Int), i64 0, i64 0, .slice pl i cl] (.mk (k : Int) 0 0 acc) := ExAt.of ⟨by omega, by omega⟩ ⟨by decide, by decide⟩ ⟨by decide, by decide⟩ ((hrows.mono (fun _ _ h => h.mono hs3)).psl hacc.symm hf)
            exact bodyA.ret (ResA.cell rfl rfl (Ld.atBlk (tyrow rfl) rfl zL rfl (by first | exact take0 (by first | rfl | assumption | (refine (ints_len _).trans ?_; assumption) | (simp [*]; (first | done | fail))) | assumption | exact take_app (by first | rfl | assumption | (refine (ints_len _).trans ?_; assumption) | (simp [*]; (first | done | fail))) | (conv => lhs; simp only [List.drop_succ_cons, List.drop_zero, List.take_succ_cons, List.take_zero])) (by first | rfl | assumption | (refine (ints_len _).trans ?_; assumption) | (simp [*]; (first | done | fail))))) zE ⟨_, l4, hR0.trans hR.symm, _, p5, c5, rfl, hfin, hl5.mono hs3 (fun _ _ h => h), hs1.trans hs3, rfl⟩
end Go.Proofs.YthefnnkmpcgcmaaGreatDoor

namespace Go.Proofs.YthefnnkmpcgcmaaGreatDoor
open Go X
def bindP {α β : Type} (a : PR α) (k : α → List Tk → PR β) : PR β := match a with
  | .error x => .error x
  | .ok (x, l) => k x l
theorem bindP_ok {α β : Type} {a : PR α} {k : α → List Tk → PR β} {y : β} {l' : List Tk} (h : bindP a k = .ok (y, l')) : ∃ x l, a = .ok (x, l) ∧ k x l = .ok (y, l') := by
  cases a with
  | error x => cases h
  | ok z => obtain ⟨x, l⟩ := z; exact ⟨x, l, rfl, h⟩
def zeroX : Ex := .mk 0 0 0 []
def listG (S : List Tk → PR St) : Nat → List Tk → List St → PR (List St)
  | 0, _, _ => .error (0, 0)
  | g + 1, l, acc => if isT rpar l = true then .ok (acc, l.tail) else match S l with
    | .error x => .error x
    | .ok (s, l1) => listG S g l1 (acc ++ [s])
def listP (S : List Tk → PR St) (e : Int) (l : List Tk) : PR (List St) := if isT lpar l = true then listG S (l.tail.length + 1) l.tail [] else .error (failAt e l 5)
def optP {α : Type} (b : Bool) (z : α) (a : List Tk → PR α) (l : List Tk) : PR α := if b = true then a l else .ok (z, l)
def stmtP (vl : List Va) (e : Int) : Nat → List Tk → PR St
  | 0, l => .error (failAt e l 4)
  | f + 1, l => if isT lpar l = true then match pickT verbOf 7 l.tail with
      | none => .error (failAt e l.tail 5)
      | some k => bindP (optP (needV k) 0 (varP vl e) l.tail.tail) fun v l3 => bindP (optP (needE k) zeroX (exprP vl e f) l3) fun x l4 => bindP (optP (needF k) zeroX (exprP vl e f) l4) fun y l5 =>
          bindP (optP (needB k) [] (listP (stmtP vl e f) e) l5) fun bd l6 => bindP (optP (needO k) [] (listP (stmtP vl e f) e) l6) fun el l7 => closeP e (.mk k v x y bd el) l7
    else .error (failAt e l 5)
/-- What is left is of what there was. -/
def Sub (l' l : List Tk) : Prop := (∀ t ∈ l', t ∈ l) ∧ l'.length ≤ l.length
theorem Sub.refl (l : List Tk) : Sub l l := ⟨fun _ h => h, Nat.le_refl _⟩
theorem Sub.trans {a b c : List Tk} (h : Sub a b) (k : Sub b c) : Sub a c := ⟨fun t ht => k.1 t (h.1 t ht), Nat.le_trans h.2 k.2⟩
theorem Sub.tail (l : List Tk) : Sub l.tail l := ⟨fun _ h => mem_tail h, by rw [List.length_tail]; omega⟩
theorem numP_sub {e : Int} {l l' : List Tk} {n : Int} (h : numP e l = .ok (n, l')) : Sub l' l := by
  obtain ⟨t, rfl, -, -⟩ := numP_ok h; exact Sub.tail (t :: l')
theorem varP_sub {vl : List Va} {e : Int} {l l' : List Tk} {n : Int} (h : varP vl e l = .ok (n, l')) : Sub l' l := by
  obtain ⟨t, i, rfl, -, -, -⟩ := varP_ok h; exact Sub.tail (t :: l')
theorem closeP_sub {α : Type} {e : Int} {x y : α} {l l' : List Tk} (h : closeP e x l = .ok (y, l')) : Sub l' l := by
  rw [closeP] at h
  split at h
  · cases h; exact Sub.tail l
  · cases h
theorem headP_sub {vl : List Va} {e : Int} {k : Nat} {l l' : List Tk} {vn : Int × Int} (h : headP vl e k l = .ok (vn, l')) : Sub l' l := by
  rw [headP] at h
  split at h
  · cases q : numP e l with
    | error x => rw [q] at h; cases h
    | ok y => obtain ⟨n, r⟩ := y; rw [q] at h; cases h; exact numP_sub q
  · split at h
    · cases q : varP vl e l with
      | error x => rw [q] at h; cases h
      | ok y => obtain ⟨n, r⟩ := y; rw [q] at h; cases h; exact varP_sub q
    · cases h; exact Sub.refl _
theorem subsA_sub {α : Type} {E : List Tk → PR α} (hE : ∀ l x l', E l = .ok (x, l') → Sub l' l) : ∀ (m : Nat) (l : List Tk) (acc xs : List α) (l' : List Tk), subsA E m l acc = .ok (xs, l') → Sub l' l
  | 0, l, acc, xs, l', h => by cases h; exact Sub.refl _
  | m + 1, l, acc, xs, l', h => by
    rw [subsA] at h
    cases q : E l with
    | error x => rw [q] at h; cases h
    | ok y =>
      obtain ⟨x, l1⟩ := y
      rw [q] at h
      exact (subsA_sub hE m l1 _ xs l' h).trans (hE l x l1 q)
theorem exprP_sub {vl : List Va} {e : Int} : ∀ (f : Nat) (l : List Tk) (x : Ex) (l' : List Tk), exprP vl e f l = .ok (x, l') → Sub l' l
  | 0, l, x, l', h => by cases h
  | f + 1, l, x, l', h => by
    rw [exprP] at h
    split at h
    · cases hk : pickT wordOf 8 l.tail with
      | none => rw [hk] at h; cases h
      | some k =>
        rw [hk] at h
        simp only at h
        cases hh : headP vl e k l.tail.tail with
        | error x => rw [hh] at h; cases h
        | ok y =>
          obtain ⟨vn, l3⟩ := y
          rw [hh] at h
          simp only at h
          cases hs : subsA (exprP vl e f) (partsOf k).toNat l3 [] with
          | error x => rw [hs] at h; cases h
          | ok z =>
            obtain ⟨xs, l4⟩ := z
            rw [hs] at h
            simp only at h
            exact ((closeP_sub h).trans (subsA_sub (exprP_sub f) _ _ _ _ _ hs)).trans ((headP_sub hh).trans ((Sub.tail _).trans (Sub.tail _)))
    · cases h
theorem listG_sub {S : List Tk → PR St} (hS : ∀ l x l', S l = .ok (x, l') → Sub l' l) : ∀ (g : Nat) (l : List Tk) (acc xs : List St) (l' : List Tk), listG S g l acc = .ok (xs, l') → Sub l' l
  | 0, l, acc, xs, l', h => by cases h
  | g + 1, l, acc, xs, l', h => by
    rw [listG] at h
    split at h
    · cases h; exact Sub.tail _
    · cases q : S l with
      | error x => rw [q] at h; cases h
      | ok y =>
        obtain ⟨x, l1⟩ := y
        rw [q] at h
        exact (listG_sub hS g l1 _ xs l' h).trans (hS l x l1 q)
theorem listP_sub {S : List Tk → PR St} {e : Int} (hS : ∀ l x l', S l = .ok (x, l') → Sub l' l) {l l' : List Tk} {xs : List St} (h : listP S e l = .ok (xs, l')) : Sub l' l := by
  rw [listP] at h
  split at h
  · exact (listG_sub hS _ _ _ _ _ h).trans (Sub.tail _)
  · cases h
theorem optP_sub {α : Type} {b : Bool} {z x : α} {a : List Tk → PR α} {l l' : List Tk} (ha : ∀ l x l', a l = .ok (x, l') → Sub l' l) (h : optP b z a l = .ok (x, l')) : Sub l' l := by
  rw [optP] at h
  split at h
  · exact ha _ _ _ h
  · cases h; exact Sub.refl _
theorem stmtP_sub {vl : List Va} {e : Int} : ∀ (f : Nat) (l : List Tk) (x : St) (l' : List Tk), stmtP vl e f l = .ok (x, l') → Sub l' l ∧ l'.length < l.length
  | 0, l, x, l', h => by cases h
  | f + 1, l, x, l', h => by
    rw [stmtP] at h
    split at h
    · rename_i hq
      obtain ⟨t, r, rfl⟩ := isT_cons hq
      rw [List.tail_cons] at h
      cases hk : pickT verbOf 7 r with
      | none => rw [hk] at h; cases h
      | some k =>
        rw [hk] at h
        simp only at h
        obtain ⟨v, l3, h3, h⟩ := bindP_ok h
        obtain ⟨x1, l4, h4, h⟩ := bindP_ok h
        obtain ⟨x2, l5, h5, h⟩ := bindP_ok h
        obtain ⟨x3, l6, h6, h⟩ := bindP_ok h
        obtain ⟨x4, l7, h7, h⟩ := bindP_ok h
        have hS : ∀ l x l', stmtP vl e f l = .ok (x, l') → Sub l' l := fun l x l' h => (stmtP_sub f l x l' h).1
        have hr : Sub l' r := (closeP_sub h).trans ((optP_sub (fun _ _ _ => listP_sub hS) h7).trans ((optP_sub (fun _ _ _ => listP_sub hS) h6).trans ((optP_sub (exprP_sub f) h5).trans ((optP_sub (exprP_sub f) h4).trans ((optP_sub (fun _ _ _ => varP_sub) h3).trans (Sub.tail _))))))
        exact ⟨hr.trans (Sub.tail (t :: r)), by have := hr.2; simp only [List.length_cons]; omega⟩
    · cases h
theorem listG_fuel {S : List Tk → PR St} (hS : ∀ l x l', S l = .ok (x, l') → l'.length < l.length) : ∀ (g g' : Nat) (l : List Tk) (acc : List St), l.length < g → l.length < g' → listG S g l acc = listG S g' l acc
  | 0, g', l, acc, h, h' => by omega
  | g + 1, 0, l, acc, h, h' => by omega
  | g + 1, g' + 1, l, acc, h, h' => by
    rw [listG, listG]
    split
    · rfl
    · cases q : S l with
      | error x => rfl
      | ok y =>
        obtain ⟨x, l1⟩ := y
        have := hS l x l1 q
        exact listG_fuel hS g g' l1 _ (by omega) (by omega)
theorem zeroX_at (σ : PH) : ExAt σ [i64 0, i64 0, i64 0, .slice none 0 0] zeroX := ExAt.of ⟨by decide, by decide⟩ ⟨by decide, by decide⟩ ⟨by decide, by decide⟩ (PSl.nil _ _ _)
end Go.Proofs.YthefnnkmpcgcmaaGreatDoor

namespace Go.Proofs.YthefnnkmpcgcmaaGreatDoor
open Go X
set_option maxHeartbeats 4000000
set_option maxRecDepth 4000
def StmtPOK (vl : List Va) (e : Int) (f : Nat) : Prop := ∀ (σ : PH) (b : Nat) (p : Option Addr) (c : Nat) (pv : Option Addr) (cv : Nat) (l : List Tk) (d : Int), PSl 2 rVa σ (.slice pv vl.length cv) vl → PSl 4 rTk σ (.slice p l.length c) l → (∀ t ∈ l, TkF t) → d + f = 13 → 0 ≤ d → l.length ≤ 10000 →
  CallsA Tryz.prog 32 #[ptr b, i64 d] σ [blk b [.slice p l.length c, i64 e, .slice pv vl.length cv] 46] (EndA
    (fun v σ' Γ' => ∃ x l', stmtP vl e f l = .ok (x, l') ∧ ∃ cs p' c', v = .agg (List.toArray cs) ∧ StAt σ' cs x ∧ PSl 4 rTk σ' (.slice p' l'.length c') l' ∧ σ.sub σ' ∧ Γ' = [blk b [.slice p' l'.length c', i64 e, .slice pv vl.length cv] 46])
    (fun ch σ' Γ' => ∃ x, stmtP vl e f l = .error x ∧ ch = goneP x ∧ σ.sub σ' ∧ ∃ cs, Γ' = [blk b cs 46]))
theorem StmtPOK.ok {vl : List Va} {e : Int} {f : Nat} (h : StmtPOK vl e f) {σ : PH} {b : Nat} {p : Option Addr} {c : Nat} {pv : Option Addr} {cv : Nat} {l : List Tk} {d : Int} (hv : PSl 2 rVa σ (.slice pv vl.length cv) vl) (hl : PSl 4 rTk σ (.slice p l.length c) l) (hF : ∀ t ∈ l, TkF t) (hd : d + f = 13) (hd0 : 0 ≤ d) (hL : l.length ≤ 10000) {x} {l' : List Tk} (ho : stmtP vl e f l = .ok (x, l')) :
    CallsA Tryz.prog 32 #[ptr b, i64 d] σ [blk b [.slice p l.length c, i64 e, .slice pv vl.length cv] 46] (RetA fun v σ' Γ' => ∃ cs p' c', v = .agg (List.toArray cs) ∧ StAt σ' cs x ∧ PSl 4 rTk σ' (.slice p' l'.length c') l' ∧ σ.sub σ' ∧ Γ' = [blk b [.slice p' l'.length c', i64 e, .slice pv vl.length cv] 46]) := by
  refine (h σ b p c pv cv l d hv hl hF hd hd0 hL).mono fun en σ' Γ' hr => ?_
  cases en with
  | returned v =>
    obtain ⟨x', l'', h1, h2⟩ := hr
    rw [ho] at h1
    cases h1
    exact h2
  | panicked ch => obtain ⟨x', h1, -⟩ := hr; rw [ho] at h1; cases h1
  | outgrown => exact False.elim hr
theorem StmtPOK.bad {vl : List Va} {e : Int} {f : Nat} (h : StmtPOK vl e f) {σ : PH} {b : Nat} {p : Option Addr} {c : Nat} {pv : Option Addr} {cv : Nat} {l : List Tk} {d : Int} (hv : PSl 2 rVa σ (.slice pv vl.length cv) vl) (hl : PSl 4 rTk σ (.slice p l.length c) l) (hF : ∀ t ∈ l, TkF t) (hd : d + f = 13) (hd0 : 0 ≤ d) (hL : l.length ≤ 10000) {x : Int × Int} (ho : stmtP vl e f l = .error x) :
    CallsA Tryz.prog 32 #[ptr b, i64 d] σ [blk b [.slice p l.length c, i64 e, .slice pv vl.length cv] 46] (PanA fun ch σ' Γ' => ch = goneP x ∧ σ.sub σ' ∧ ∃ cs, Γ' = [blk b cs 46]) := by
  refine (h σ b p c pv cv l d hv hl hF hd hd0 hL).mono fun en σ' Γ' hr => ?_
  cases en with
  | returned v => obtain ⟨x', l'', h1, -⟩ := hr; rw [ho] at h1; cases h1
  | panicked ch =>
    obtain ⟨x', h1, h2⟩ := hr
    rw [ho] at h1
    cases h1
    exact h2
  | outgrown => exact False.elim hr
def ListPOK (vl : List Va) (e : Int) (f : Nat) : Prop := ∀ (σ : PH) (b : Nat) (p : Option Addr) (c : Nat) (pv : Option Addr) (cv : Nat) (l : List Tk) (d : Int), PSl 2 rVa σ (.slice pv vl.length cv) vl → PSl 4 rTk σ (.slice p l.length c) l → (∀ t ∈ l, TkF t) → d + f = 13 → 0 ≤ d → l.length ≤ 10000 →
  CallsA Tryz.prog 61 #[ptr b, i64 d] σ [blk b [.slice p l.length c, i64 e, .slice pv vl.length cv] 46] (EndA
    (fun v σ' Γ' => ∃ x l', listP (stmtP vl e f) e l = .ok (x, l') ∧ ∃ q m p' c', v = .slice q x.length m ∧ PSl 12 StAt σ' (.slice q x.length m) x ∧ PSl 4 rTk σ' (.slice p' l'.length c') l' ∧ σ.sub σ' ∧ Γ' = [blk b [.slice p' l'.length c', i64 e, .slice pv vl.length cv] 46])
    (fun ch σ' Γ' => ∃ x, listP (stmtP vl e f) e l = .error x ∧ ch = goneP x ∧ σ.sub σ' ∧ ∃ cs, Γ' = [blk b cs 46]))
theorem ListPOK.ok {vl : List Va} {e : Int} {f : Nat} (h : ListPOK vl e f) {σ : PH} {b : Nat} {p : Option Addr} {c : Nat} {pv : Option Addr} {cv : Nat} {l : List Tk} {d : Int} (hv : PSl 2 rVa σ (.slice pv vl.length cv) vl) (hl : PSl 4 rTk σ (.slice p l.length c) l) (hF : ∀ t ∈ l, TkF t) (hd : d + f = 13) (hd0 : 0 ≤ d) (hL : l.length ≤ 10000) {x} {l' : List Tk} (ho : listP (stmtP vl e f) e l = .ok (x, l')) :
    CallsA Tryz.prog 61 #[ptr b, i64 d] σ [blk b [.slice p l.length c, i64 e, .slice pv vl.length cv] 46] (RetA fun v σ' Γ' => ∃ q m p' c', v = .slice q x.length m ∧ PSl 12 StAt σ' (.slice q x.length m) x ∧ PSl 4 rTk σ' (.slice p' l'.length c') l' ∧ σ.sub σ' ∧ Γ' = [blk b [.slice p' l'.length c', i64 e, .slice pv vl.length cv] 46]) := by
  refine (h σ b p c pv cv l d hv hl hF hd hd0 hL).mono fun en σ' Γ' hr => ?_
  cases en with
  | returned v =>
    obtain ⟨x', l'', h1, h2⟩ := hr
    rw [ho] at h1
    cases h1
    exact h2
  | panicked ch => obtain ⟨x', h1, -⟩ := hr; rw [ho] at h1; cases h1
  | outgrown => exact False.elim hr
theorem ListPOK.bad {vl : List Va} {e : Int} {f : Nat} (h : ListPOK vl e f) {σ : PH} {b : Nat} {p : Option Addr} {c : Nat} {pv : Option Addr} {cv : Nat} {l : List Tk} {d : Int} (hv : PSl 2 rVa σ (.slice pv vl.length cv) vl) (hl : PSl 4 rTk σ (.slice p l.length c) l) (hF : ∀ t ∈ l, TkF t) (hd : d + f = 13) (hd0 : 0 ≤ d) (hL : l.length ≤ 10000) {x : Int × Int} (ho : listP (stmtP vl e f) e l = .error x) :
    CallsA Tryz.prog 61 #[ptr b, i64 d] σ [blk b [.slice p l.length c, i64 e, .slice pv vl.length cv] 46] (PanA fun ch σ' Γ' => ch = goneP x ∧ σ.sub σ' ∧ ∃ cs, Γ' = [blk b cs 46]) := by
  refine (h σ b p c pv cv l d hv hl hF hd hd0 hL).mono fun en σ' Γ' hr => ?_
  cases en with
  | returned v => obtain ⟨x', l'', h1, -⟩ := hr; rw [ho] at h1; cases h1
  | panicked ch =>
    obtain ⟨x', h1, h2⟩ := hr
    rw [ho] at h1
    cases h1
    exact h2
  | outgrown => exact False.elim hr
theorem list_p (vl : List Va) (e : Int) (f : Nat) (ih : StmtPOK vl e f) : ListPOK vl e f := by
  intro σ b p c pv cv l d hv hl hF hd hd0 hL
  obtain ⟨R, hR⟩ : ∃ R, listP (stmtP vl e f) e l = R := ⟨_, rfl⟩
  have hR0 := hR
  rw [listP] at hR
  refine enterA2 Tryz.func61 rfl rfl rfl ?_
  refine zS (zR (zO rfl Rd.asg ?_)); refine zN (zT (zS (zR (zA rfl ?_))))
  cases hq : isT lpar l with
  | false =>
    rw [if_neg (by rw [hq]; exact Bool.noConfusion)] at hR
    refine XOA.die rfl (want_bad σ b p c e _ l lpar hl hq) rfl ?_
    rintro _ _ _ ⟨rfl, rfl, rfl⟩
    refine DA.cl ?_
    repeat (first | refine DA.thn_panic ?_ | refine DA.inb_panic ?_)
    exact bodyA.panic zE ⟨_, hR0.trans hR.symm, rfl, .refl _, _, rfl⟩
  | true =>
    obtain ⟨t1, l1, rfl⟩ := isT_cons hq
    rw [if_pos hq, List.tail_cons] at hR
    have hL1 : l1.length ≤ 10000 := by simp only [List.length_cons] at hL; omega
    have hF1 : ∀ t ∈ l1, TkF t := fun t ht => hF t (by simp [ht])
    refine XOA.wr0 rfl (WrA.cE (want_ok σ b p c e _ t1 l1 lpar hl hq) rfl) ?_
    rintro _ _ _ ⟨_, ⟨rfl, p1, c1, hl1, rfl, rfl⟩, rfl⟩
    refine XOA.cl ?_; refine zN (zT (zS (zR (zO rfl Rd.asg ?_)))); refine zN (zT (zS (XA.block ?_)))
    refine XA.gen [(0, _), (1, _), (4, _), (5, _)] ⟨(by with_reducible (conv => lhs; whnf)), (by with_reducible (conv => lhs; whnf)), (by with_reducible (conv => lhs; whnf)), (by with_reducible (conv => lhs; whnf)), trivial⟩ (fun δ => ?_)
    dsimp only [List.foldl]
    refine XA.loop [(5, 5), (8, 16)] (fun q : (Nat × Nat) × (Option Addr × Nat) => [(5, .slice q.2.1 q.1.1 q.2.2)]) (fun q σ' Γ' => σ.sub σ' ∧ ∃ (lc : List Tk) (acc : List St) (pp : Option Addr) (pc : Nat) (rows : List (List Value)), R = listG (stmtP vl e f) (lc.length + 1) lc acc ∧ (∀ t ∈ lc, TkF t) ∧ lc.length = q.1.2 ∧ acc.length = q.1.1 ∧ q.1.1 + q.1.2 ≤ 10000 ∧ PSl 4 rTk σ' (.slice pp lc.length pc) lc ∧ Rows_ 12 StAt σ' rows acc ∧ Γ' = [lst 38 12 (.slice q.2.1 q.1.1 q.2.2) q.1.1 rows.flatten, blk b [.slice pp lc.length pc, i64 e, .slice pv vl.length cv] 46]) (fun q => q.1.2) ((0, l1.length), (none, 0)) (by exact ⟨rfl, trivial⟩) (Δ0 := _) ?_ (⟨.refl _, l1, [], p1, c1, [], hR.symm, hF1, rfl, rfl, by simpa using hL1, hl1, Rows_.nil _ _ _, rfl⟩) ?_
    · exact zE
    rintro ⟨⟨i, n⟩, ⟨pl, cl⟩⟩ δ σ1 _ ⟨hs1, lc, acc, pp, pc, rows, hRc, hFc, hn, hacc, hin, hlc, hrows, rfl⟩
    dsimp only [ovr, List.foldl]
    simp only at hn hacc hin
    subst hn
    have hv1 := hv.mono hs1 (fun _ _ h => h)
    rw [listG] at hRc
    cases hq2 : isT rpar lc with
    | true =>
      obtain ⟨t4, l4, rfl⟩ := isT_cons hq2
      rw [if_pos hq2, List.tail_cons] at hRc
      subst hacc
      refine zS (zS (zR (zA rfl ?_)))
      refine XOA.wr0 rfl (WrA.cE (is_yes σ1 b pp pc e _ t4 l4 rpar hlc hq2) rfl) ?_
      rintro _ _ _ ⟨_, ⟨rfl, p5, c5, hl5, rfl, rfl⟩, rfl⟩
      refine XOA.cl ?_; refine zO rfl zJ ?_; refine zN (zT (XA.condF rfl rfl (XA.exit (DA.thn_exit (DA.thn_exit (DA.inb_same (zT (zS (zR (zA rfl ?_)))))))))); refine zO rfl Rd.asg ?_; refine zN (zT (XA.ret ?_))
      refine DA.frz (R := lst 38 12 _ _ _) zL lst_frz lst_frz_mono ?_
      rintro σ3 ⟨⟩ hf hs3
      exact bodyA.ret (ResA.one rfl rfl) zE ⟨acc, l4, hR0.trans hRc, pl, cl, p5, c5, rfl, (hrows.mono (fun _ _ h => h.mono hs3)).psl rfl hf, hl5.mono hs3 (fun _ _ h => h), hs1.trans hs3, rfl⟩
    | false =>
      rw [if_neg (by rw [hq2]; exact Bool.noConfusion)] at hRc
      refine zS (zS (zR (zA rfl ?_)))
      refine XOA.wr0 rfl (WrA.cE (is_no σ1 b pp pc e _ lc rpar hlc hq2) rfl) ?_
      rintro _ _ _ ⟨_, ⟨rfl, rfl, rfl⟩, rfl⟩
      refine XOA.cl ?_; refine zO rfl zJ ?_; refine zN (zT (XA.condT rfl rfl (XA.skip (zT (XA.block (zR (zA rfl ?_))))))); refine zA rfl ?_; refine zA rfl ?_
      cases hx : stmtP vl e f lc with
      | error x =>
        rw [hx] at hRc
        simp only at hRc
        refine XOA.die rfl (ih.bad hv1 hlc hFc hd hd0 (by omega) hx) rfl ?_
        rintro _ σ2 _ ⟨rfl, hs2, cs2, rfl⟩
        refine DA.cl ?_
        repeat (first | refine DA.thn_panic ?_ | refine DA.inb_panic ?_)
        exact bodyA.panic zE ⟨_, hR0.trans hRc, rfl, hs1.trans hs2, _, rfl⟩
      | ok y =>
        obtain ⟨x, l'⟩ := y
        rw [hx] at hRc
        simp only at hRc
        have hsb := stmtP_sub f _ _ _ hx
        have hRn : R = listG (stmtP vl e f) (l'.length + 1) l' (acc ++ [x]) := by
          rw [hRc]
          exact listG_fuel (fun l x l' h => (stmtP_sub f l x l' h).2) _ _ _ _ hsb.2 (by omega)
        have hlt := hsb.2
        refine XOA.wr0 rfl (WrA.cE (ih.ok hv1 hlc hFc hd hd0 (by omega) hx) rfl) ?_
        rintro _ σ2 _ ⟨_, ⟨cs2, p', c', rfl, hcs2, hl', hs2, rfl⟩, rfl⟩
        refine XOA.cl ?_
        have hl2' := hcs2.len
        have hone2 := hcs2.ones
        refine XOA.wr0 rfl (WrA.bs1 (tyrow rfl) rfl (tyrow rfl)) ?_
        rintro _ _ _ ⟨g15, rfl, rfl, rfl⟩
        refine XOA.wr0 rfl (WrA.ap1 (tyrow rfl) rfl (tyrow rfl) rfl rfl rfl) ?_
        rintro _ _ _ ⟨p16, c16, rfl, rfl, rfl⟩
        refine zO rfl Rd.asg ?_; refine zN (DA.inb_normal (zT ?_))
        have hnew : Rows_ 12 StAt σ2 (rows ++ [cs2]) (acc ++ [x]) := (hrows.mono (fun _ _ h => h.mono hs2)).snoc hl2' hcs2
        refine ⟨(Keep.upd (Keep.updO (Keep.updO (Keep.updO (Keep.upd (Keep.upd (Keep.upd (Keep.upd (Keep.updO (Keep.upd (Keep.upd (Keep.hav (Keep.hav (Keep.refl _ _) rfl) rfl) rfl) rfl) rfl) rfl) rfl) rfl) rfl) rfl) rfl) rfl) rfl), ((i + 1, l'.length), (p16, c16)), _, zM, ?_, ⟨hs1.trans hs2, l', acc ++ [x], p', c', rows ++ [cs2], hRn, (fun t ht => hFc t (hsb.1.1 t ht)), rfl, (by rw [List.length_append, hacc]; rfl), (by show i + 1 + l'.length ≤ 10000; omega), hl', hnew, rfl⟩, (by show l'.length < lc.length; omega)⟩
        · rw [flatS]; exact zE
theorem stmt_p (vl : List Va) (e : Int) : ∀ f : Nat, StmtPOK vl e f
  | 0 => by
    intro σ b p c pv cv l d hv hl hF hd hd0 hL
    have hd : d = 13 := by simpa using hd
    subst hd
    refine enterA2 Tryz.func32 rfl rfl rfl ?_
    refine zS (zR ?_)
    refine XOA.wr0 rfl (WrA.alloc (tyrow rfl)) ?_
    rintro _ _ _ ⟨g4, rfl, rfl, rfl⟩
    refine zN (zT (zS (zR (zA rfl ?_)))); refine zA rfl ?_
    refine XOA.die rfl (deep_bad σ b p c e _ 13 l hl (by decide)) rfl ?_
    rintro _ _ _ ⟨rfl, rfl, rfl⟩
    refine DA.cl ?_
    repeat (first | refine DA.thn_panic ?_ | refine DA.inb_panic ?_)
    exact bodyA.panic zE ⟨_, rfl, rfl, .refl _, _, rfl⟩
  | f + 1 => by
    intro σ b p c pv cv l d hv hl hF hd hd0 hL
    have ihl := list_p vl e f (stmt_p vl e f)
    have hd1 : d ≤ 12 := by omega
    obtain ⟨R, hR⟩ : ∃ R, stmtP vl e (f + 1) l = R := ⟨_, rfl⟩
    have hR0 := hR
    rw [stmtP] at hR
    refine enterA2 Tryz.func32 rfl rfl rfl ?_
    refine zS (zR ?_)
    refine XOA.wr0 rfl (WrA.alloc (tyrow rfl)) ?_
    rintro _ _ _ ⟨g4, rfl, rfl, rfl⟩
    refine zN (zT (zS (zR (zA rfl ?_)))); refine zA rfl ?_
    refine XOA.wr0 rfl (WrA.cE (deep_ok σ b d _ hd1) rfl) ?_
    rintro _ _ _ ⟨_, ⟨rfl, rfl, rfl⟩, rfl⟩
    refine XOA.cl ?_; refine zN (zT (zS (zR (zA rfl ?_))))
    cases hq : isT lpar l with
    | false =>
      rw [if_neg (by rw [hq]; exact Bool.noConfusion)] at hR
      refine XOA.die rfl (want_bad σ b p c e _ l lpar hl hq) rfl ?_
      rintro _ _ _ ⟨rfl, rfl, rfl⟩
      refine DA.cl ?_
      repeat (first | refine DA.thn_panic ?_ | refine DA.inb_panic ?_)
      exact bodyA.panic zE ⟨_, hR0.trans hR.symm, rfl, .refl _, _, rfl⟩
    | true =>
      obtain ⟨t1, l1, rfl⟩ := isT_cons hq
      rw [if_pos hq, List.tail_cons] at hR
      refine XOA.wr0 rfl (WrA.cE (want_ok σ b p c e _ t1 l1 lpar hl hq) rfl) ?_
      rintro _ _ _ ⟨_, ⟨rfl, p1, c1, hl1, rfl, rfl⟩, rfl⟩
      refine XOA.cl ?_; refine zN (zT (zS (zR (zA rfl ?_))))
      cases hk : pickT verbOf 7 l1 with
      | none =>
        rw [hk] at hR
        refine XOA.die rfl (pick_bad σ b p1 c1 e _ 10 verbOf verb_p 7 (by decide) l1 hl1 (fun j a b => pickG_none 7 1 hk j a (by omega))) rfl ?_
        rintro _ _ _ ⟨rfl, rfl, rfl⟩
        refine DA.cl ?_
        repeat (first | refine DA.thn_panic ?_ | refine DA.inb_panic ?_)
        exact bodyA.panic zE ⟨_, hR0.trans hR.symm, rfl, .refl _, _, rfl⟩
      | some k =>
        rw [hk] at hR
        simp only at hR
        obtain ⟨k1, k2, k3, k4⟩ := pickG_some 7 1 hk
        have k2 : k ≤ 7 := by omega
        obtain ⟨t2, l2, rfl⟩ := isT_cons k3
        rw [List.tail_cons] at hR
        have hF2 : ∀ t ∈ l2, TkF t := fun t ht => hF t (by simp [ht])
        have hL2 : l2.length ≤ 10000 := by simp only [List.length_cons] at hL; omega
        refine XOA.wr0 rfl (WrA.cE (pick_ok σ b p1 c1 e _ 10 verbOf verb_p 7 k (by decide) t2 l2 hl1 k1 k2 k3 k4) rfl) ?_
        rintro _ _ _ ⟨_, ⟨rfl, p2, c2, hl2, rfl, rfl⟩, rfl⟩
        refine XOA.cl ?_
        refine zO rfl (Rd.bl (fun _ _ => tyrow) rfl rfl rfl) ?_
        refine XOA.wr0 rfl (WrA.alloc (tyrow rfl)) ?_
        rintro _ _ _ ⟨g5, rfl, rfl, rfl⟩
        refine XOA.wr0 rfl (WrA.st (tyrow rfl) rfl) ?_
        rintro _ _ _ ⟨rfl, rfl, rfl⟩
        refine zN (zT (zS (zR (zV rfl rfl ?_)))); refine zB rfl rfl (tyrow rfl) rfl ?_
        have hk7 : k = 1 ∨ k = 2 ∨ k = 3 ∨ k = 4 ∨ k = 5 ∨ k = 6 ∨ k = 7 := by omega
        rcases hk7 with hk0 | hk0 | hk0 | hk0 | hk0 | hk0 | hk0
        · skip
          subst hk0
          refine XOA.wr0 rfl (WrA.cE (chas_a σ ((1 : Nat) : Int)) rfl) ?_
          rintro _ _ _ ⟨_, ⟨rfl, rfl, rfl⟩, rfl⟩
          refine XOA.cl ?_; refine zA rfl ?_; refine zO rfl (Rd.extract rfl rfl) ?_; refine zO rfl (Rd.extract rfl rfl) ?_; refine zO rfl (Rd.extract rfl rfl) ?_; refine zO rfl (Rd.extract rfl rfl) ?_; refine zO rfl (Rd.extract rfl rfl) ?_; refine zO rfl Rd.asg ?_; refine zO rfl Rd.asg ?_
          refine zO rfl Rd.asg ?_; refine zO rfl Rd.asg ?_; refine zO rfl Rd.asg ?_; refine zN (zT (zS (zS (zR (zA rfl ?_))))); refine zN (zT ?_)
          rw [optP, if_pos (by decide)] at hR
          refine XA.condT rfl rfl (zR (zA rfl ?_))
          cases hxv : varP vl e l2 with
          | error x =>
            rw [hxv] at hR
            simp only [bindP] at hR
            rcases varP_err hxv with ⟨rfl, hx⟩ | ⟨t3, l3, rfl, rfl, hx, hy⟩
            · skip
              refine XOA.die rfl (variable_bad σ b p2 c2 e _ pv vl.length cv l2 hl2 (fun t ht => (hF2 t ht).1) hx) rfl ?_
              rintro _ _ _ ⟨rfl, rfl, rfl⟩
              refine DA.cl ?_
              repeat (first | refine DA.thn_panic ?_ | refine DA.inb_panic ?_)
              exact bodyA.panic zE ⟨_, hR0.trans hR.symm, rfl, .refl _, _, rfl⟩
            · skip
              refine XOA.die rfl (variable_none σ b p2 c2 e vl pv cv t3 l3 hv hl2 (hF2 t3 (by simp)).1 hx hy) rfl ?_
              rintro _ _ _ ⟨rfl, rfl, rfl⟩
              refine DA.cl ?_
              repeat (first | refine DA.thn_panic ?_ | refine DA.inb_panic ?_)
              exact bodyA.panic zE ⟨_, hR0.trans hR.symm, rfl, .refl _, _, rfl⟩
          | ok y =>
            obtain ⟨v3, lv⟩ := y
            rw [hxv] at hR
            simp only [bindP] at hR
            obtain ⟨t3, i3, rfl, rfl, h3, h4⟩ := varP_ok hxv
            have hFv : ∀ t ∈ lv, TkF t := fun t ht => hF2 t (by simp [ht])
            have hLv : lv.length ≤ 10000 := by simp only [List.length_cons] at hL2; omega
            have hi3 := idxG_lt _ _ _ h4
            have hvm := hv.len_le
            refine XOA.wr0 rfl (WrA.cE (variable_ok σ b p2 c2 e vl pv cv i3 t3 lv hv hl2 (hF2 t3 (by simp)).1 h3 h4) rfl) ?_
            rintro _ _ _ ⟨_, ⟨rfl, pv1, cv1, hlv, rfl, rfl⟩, rfl⟩
            refine XOA.cl ?_; refine zV rfl rfl ?_
            refine XOA.wr0 rfl (WrA.st (tyrow rfl) rfl) ?_
            rintro _ _ _ ⟨rfl, rfl, rfl⟩
            refine zN (zT (zS (zS (zR (zA rfl ?_))))); refine zN (zT ?_)
            rw [optP, if_pos (by decide)] at hR
            refine XA.condT rfl rfl (zR (zA rfl ?_)); refine zA rfl ?_; refine zO rfl zI ?_
            cases hxe : exprP vl e f lv with
            | error x =>
              rw [hxe] at hR
              simp only [bindP] at hR
              refine XOA.die rfl ((expr_p vl e f).bad hv hlv hFv (by omega) (by omega) hxe) rfl ?_
              rintro _ σe _ ⟨rfl, hse, cse, rfl⟩
              refine DA.cl ?_
              repeat (first | refine DA.thn_panic ?_ | refine DA.inb_panic ?_)
              exact bodyA.panic zE ⟨_, hR0.trans hR.symm, rfl, hse, _, rfl⟩
            | ok y =>
              obtain ⟨xe, le⟩ := y
              rw [hxe] at hR
              simp only [bindP] at hR
              have hsbe := exprP_sub f _ _ _ hxe
              have hFe : ∀ t ∈ le, TkF t := fun t ht => hFv t (hsbe.1 t ht)
              have hLe : le.length ≤ 10000 := Nat.le_trans hsbe.2 hLv
              refine XOA.wr0 rfl (WrA.cE ((expr_p vl e f).ok hv hlv hFv (by omega) (by omega) hxe) rfl) ?_
              rintro _ σe _ ⟨_, ⟨cse, pe1, ce1, rfl, hce, hle, hse, rfl⟩, rfl⟩
              refine XOA.cl ?_
              obtain ⟨xqe, xde, rfl, -, -, -, -⟩ := hce.inv
              refine zV rfl rfl ?_
              refine XOA.wr0 rfl (WrA.st (tyrow rfl) rfl) ?_
              rintro _ _ _ ⟨rfl, rfl, rfl⟩
              refine zN (zT (zS (zS (zR (zA rfl ?_))))); refine zN (zT ?_)
              rw [optP, if_neg (by decide)] at hR
              simp only [bindP] at hR
              refine XA.condF rfl rfl (XA.skip (zT (zS (zS (zR (zA rfl ?_)))))); refine zN (zT ?_)
              rw [optP, if_neg (by decide)] at hR
              simp only [bindP] at hR
              refine XA.condF rfl rfl (XA.skip (zT (zS (zS (zR (zA rfl ?_)))))); refine zN (zT ?_)
              rw [optP, if_neg (by decide)] at hR
              simp only [bindP] at hR
              refine XA.condF rfl rfl (XA.skip (zT (zS (zR (zA rfl ?_)))))
              rw [closeP] at hR
              cases hc : isT rpar le with
              | false =>
                rw [if_neg (by rw [hc]; exact Bool.noConfusion)] at hR
                refine XOA.die rfl (want_bad σe b pe1 ce1 e _ le rpar hle hc) rfl ?_
                rintro _ _ _ ⟨rfl, rfl, rfl⟩
                refine DA.cl ?_
                repeat (first | refine DA.thn_panic ?_ | refine DA.inb_panic ?_)
                exact bodyA.panic zE ⟨_, hR0.trans hR.symm, rfl, hse, _, rfl⟩
              | true =>
                obtain ⟨t4, l8, rfl⟩ := isT_cons hc
                rw [if_pos hc, List.tail_cons] at hR
                refine XOA.wr0 rfl (WrA.cE (want_ok σe b pe1 ce1 e _ t4 l8 rpar hle hc) rfl) ?_
                rintro _ _ _ ⟨_, ⟨rfl, p8, c8, hl8, rfl, rfl⟩, rfl⟩
                refine XOA.cl ?_; refine zN (zT (zS (zR (zO rfl (Rd.ldA rfl) ?_))))
                refine XOA.wr0 rfl (WrA.st (tyrow rfl) rfl) ?_
                rintro _ _ _ ⟨rfl, rfl, rfl⟩
                refine zN (zT (XA.ret ?_))
                have hfin : StAt σe [i64 ((1 : Nat) : Int), i64 (i3 : Int), i64 xe.op, i64 xe.v, i64 xe.n, .slice xqe xe.l.length xde, i64 0, i64 0, i64 0, .slice none 0 0, .slice none 0 0, .slice none 0 0] (.mk ((1 : Nat) : Int) (i3 : Int) xe zeroX [] []) := StAt.of ⟨by decide, by decide⟩ ⟨by omega, by omega⟩ hce (zeroX_at _) (PSl.nil _ _ _) (PSl.nil _ _ _)
                exact bodyA.ret (ResA.cell rfl rfl (Ld.atBlk (tyrow rfl) rfl zL rfl (by first | exact take0 (by first | rfl | assumption | (refine (ints_len _).trans ?_; assumption) | (simp [*]; (first | done | fail))) | assumption | exact take_app (by first | rfl | assumption | (refine (ints_len _).trans ?_; assumption) | (simp [*]; (first | done | fail))) | (conv => lhs; simp only [List.drop_succ_cons, List.drop_zero, List.take_succ_cons, List.take_zero])) (by first | rfl | assumption | (refine (ints_len _).trans ?_; assumption) | (simp [*]; (first | done | fail))))) zE ⟨_, l8, hR0.trans hR.symm, _, p8, c8, rfl, hfin, hl8, hse, rfl⟩
        · skip
          subst hk0
          refine XOA.wr0 rfl (WrA.cE (chas_a σ ((2 : Nat) : Int)) rfl) ?_
          rintro _ _ _ ⟨_, ⟨rfl, rfl, rfl⟩, rfl⟩
          refine XOA.cl ?_; refine zA rfl ?_; refine zO rfl (Rd.extract rfl rfl) ?_; refine zO rfl (Rd.extract rfl rfl) ?_; refine zO rfl (Rd.extract rfl rfl) ?_; refine zO rfl (Rd.extract rfl rfl) ?_; refine zO rfl (Rd.extract rfl rfl) ?_; refine zO rfl Rd.asg ?_; refine zO rfl Rd.asg ?_
          refine zO rfl Rd.asg ?_; refine zO rfl Rd.asg ?_; refine zO rfl Rd.asg ?_; refine zN (zT (zS (zS (zR (zA rfl ?_))))); refine zN (zT ?_)
          rw [optP, if_pos (by decide)] at hR
          refine XA.condT rfl rfl (zR (zA rfl ?_))
          cases hxv : varP vl e l2 with
          | error x =>
            rw [hxv] at hR
            simp only [bindP] at hR
            rcases varP_err hxv with ⟨rfl, hx⟩ | ⟨t3, l3, rfl, rfl, hx, hy⟩
            · skip
              refine XOA.die rfl (variable_bad σ b p2 c2 e _ pv vl.length cv l2 hl2 (fun t ht => (hF2 t ht).1) hx) rfl ?_
              rintro _ _ _ ⟨rfl, rfl, rfl⟩
              refine DA.cl ?_
              repeat (first | refine DA.thn_panic ?_ | refine DA.inb_panic ?_)
              exact bodyA.panic zE ⟨_, hR0.trans hR.symm, rfl, .refl _, _, rfl⟩
            · skip
              refine XOA.die rfl (variable_none σ b p2 c2 e vl pv cv t3 l3 hv hl2 (hF2 t3 (by simp)).1 hx hy) rfl ?_
              rintro _ _ _ ⟨rfl, rfl, rfl⟩
              refine DA.cl ?_
              repeat (first | refine DA.thn_panic ?_ | refine DA.inb_panic ?_)
              exact bodyA.panic zE ⟨_, hR0.trans hR.symm, rfl, .refl _, _, rfl⟩
          | ok y =>
            obtain ⟨v3, lv⟩ := y
            rw [hxv] at hR
            simp only [bindP] at hR
            obtain ⟨t3, i3, rfl, rfl, h3, h4⟩ := varP_ok hxv
            have hFv : ∀ t ∈ lv, TkF t := fun t ht => hF2 t (by simp [ht])
            have hLv : lv.length ≤ 10000 := by simp only [List.length_cons] at hL2; omega
            have hi3 := idxG_lt _ _ _ h4
            have hvm := hv.len_le
            refine XOA.wr0 rfl (WrA.cE (variable_ok σ b p2 c2 e vl pv cv i3 t3 lv hv hl2 (hF2 t3 (by simp)).1 h3 h4) rfl) ?_
            rintro _ _ _ ⟨_, ⟨rfl, pv1, cv1, hlv, rfl, rfl⟩, rfl⟩
            refine XOA.cl ?_; refine zV rfl rfl ?_
            refine XOA.wr0 rfl (WrA.st (tyrow rfl) rfl) ?_
            rintro _ _ _ ⟨rfl, rfl, rfl⟩
            refine zN (zT (zS (zS (zR (zA rfl ?_))))); refine zN (zT ?_)
            rw [optP, if_pos (by decide)] at hR
            refine XA.condT rfl rfl (zR (zA rfl ?_)); refine zA rfl ?_; refine zO rfl zI ?_
            cases hxe : exprP vl e f lv with
            | error x =>
              rw [hxe] at hR
              simp only [bindP] at hR
              refine XOA.die rfl ((expr_p vl e f).bad hv hlv hFv (by omega) (by omega) hxe) rfl ?_
              rintro _ σe _ ⟨rfl, hse, cse, rfl⟩
              refine DA.cl ?_
              repeat (first | refine DA.thn_panic ?_ | refine DA.inb_panic ?_)
              exact bodyA.panic zE ⟨_, hR0.trans hR.symm, rfl, hse, _, rfl⟩
            | ok y =>
              obtain ⟨xe, le⟩ := y
              rw [hxe] at hR
              simp only [bindP] at hR
              have hsbe := exprP_sub f _ _ _ hxe
              have hFe : ∀ t ∈ le, TkF t := fun t ht => hFv t (hsbe.1 t ht)
              have hLe : le.length ≤ 10000 := Nat.le_trans hsbe.2 hLv
              refine XOA.wr0 rfl (WrA.cE ((expr_p vl e f).ok hv hlv hFv (by omega) (by omega) hxe) rfl) ?_
              rintro _ σe _ ⟨_, ⟨cse, pe1, ce1, rfl, hce, hle, hse, rfl⟩, rfl⟩
              refine XOA.cl ?_
              obtain ⟨xqe, xde, rfl, -, -, -, -⟩ := hce.inv
              refine zV rfl rfl ?_
              refine XOA.wr0 rfl (WrA.st (tyrow rfl) rfl) ?_
              rintro _ _ _ ⟨rfl, rfl, rfl⟩
              refine zN (zT (zS (zS (zR (zA rfl ?_))))); refine zN (zT ?_)
              rw [optP, if_pos (by decide)] at hR
              refine XA.condT rfl rfl (zR (zA rfl ?_)); refine zA rfl ?_; refine zO rfl zI ?_
              cases hxf : exprP vl e f le with
              | error x =>
                rw [hxf] at hR
                simp only [bindP] at hR
                refine XOA.die rfl ((expr_p vl e f).bad (hv.mono (hse) (fun _ _ h => h)) hle hFe (by omega) (by omega) hxf) rfl ?_
                rintro _ σf _ ⟨rfl, hsf, csf, rfl⟩
                refine DA.cl ?_
                repeat (first | refine DA.thn_panic ?_ | refine DA.inb_panic ?_)
                exact bodyA.panic zE ⟨_, hR0.trans hR.symm, rfl, (hse).trans hsf, _, rfl⟩
              | ok y =>
                obtain ⟨xf, lf⟩ := y
                rw [hxf] at hR
                simp only [bindP] at hR
                have hsbf := exprP_sub f _ _ _ hxf
                have hFf : ∀ t ∈ lf, TkF t := fun t ht => hFe t (hsbf.1 t ht)
                have hLf : lf.length ≤ 10000 := Nat.le_trans hsbf.2 hLe
                refine XOA.wr0 rfl (WrA.cE ((expr_p vl e f).ok (hv.mono (hse) (fun _ _ h => h)) hle hFe (by omega) (by omega) hxf) rfl) ?_
                rintro _ σf _ ⟨_, ⟨csf, pf1, cf1, rfl, hcf, hlf, hsf, rfl⟩, rfl⟩
                refine XOA.cl ?_
                obtain ⟨xqf, xdf, rfl, -, -, -, -⟩ := hcf.inv
                refine zV rfl rfl ?_
                refine XOA.wr0 rfl (WrA.st (tyrow rfl) rfl) ?_
                rintro _ _ _ ⟨rfl, rfl, rfl⟩
                refine zN (zT (zS (zS (zR (zA rfl ?_))))); refine zN (zT ?_)
                rw [optP, if_neg (by decide)] at hR
                simp only [bindP] at hR
                refine XA.condF rfl rfl (XA.skip (zT (zS (zS (zR (zA rfl ?_)))))); refine zN (zT ?_)
                rw [optP, if_neg (by decide)] at hR
                simp only [bindP] at hR
                refine XA.condF rfl rfl (XA.skip (zT (zS (zR (zA rfl ?_)))))
                rw [closeP] at hR
                cases hc : isT rpar lf with
                | false =>
                  rw [if_neg (by rw [hc]; exact Bool.noConfusion)] at hR
                  refine XOA.die rfl (want_bad σf b pf1 cf1 e _ lf rpar hlf hc) rfl ?_
                  rintro _ _ _ ⟨rfl, rfl, rfl⟩
                  refine DA.cl ?_
                  repeat (first | refine DA.thn_panic ?_ | refine DA.inb_panic ?_)
                  exact bodyA.panic zE ⟨_, hR0.trans hR.symm, rfl, hse.trans hsf, _, rfl⟩
                | true =>
                  obtain ⟨t4, l8, rfl⟩ := isT_cons hc
                  rw [if_pos hc, List.tail_cons] at hR
                  refine XOA.wr0 rfl (WrA.cE (want_ok σf b pf1 cf1 e _ t4 l8 rpar hlf hc) rfl) ?_
                  rintro _ _ _ ⟨_, ⟨rfl, p8, c8, hl8, rfl, rfl⟩, rfl⟩
                  refine XOA.cl ?_; refine zN (zT (zS (zR (zO rfl (Rd.ldA rfl) ?_))))
                  refine XOA.wr0 rfl (WrA.st (tyrow rfl) rfl) ?_
                  rintro _ _ _ ⟨rfl, rfl, rfl⟩
                  refine zN (zT (XA.ret ?_))
                  have hfin : StAt σf [i64 ((2 : Nat) : Int), i64 (i3 : Int), i64 xe.op, i64 xe.v, i64 xe.n, .slice xqe xe.l.length xde, i64 xf.op, i64 xf.v, i64 xf.n, .slice xqf xf.l.length xdf, .slice none 0 0, .slice none 0 0] (.mk ((2 : Nat) : Int) (i3 : Int) xe xf [] []) := StAt.of ⟨by decide, by decide⟩ ⟨by omega, by omega⟩ (hce.mono (hsf)) hcf (PSl.nil _ _ _) (PSl.nil _ _ _)
                  exact bodyA.ret (ResA.cell rfl rfl (Ld.atBlk (tyrow rfl) rfl zL rfl (by first | exact take0 (by first | rfl | assumption | (refine (ints_len _).trans ?_; assumption) | (simp [*]; (first | done | fail))) | assumption | exact take_app (by first | rfl | assumption | (refine (ints_len _).trans ?_; assumption) | (simp [*]; (first | done | fail))) | (conv => lhs; simp only [List.drop_succ_cons, List.drop_zero, List.take_succ_cons, List.take_zero])) (by first | rfl | assumption | (refine (ints_len _).trans ?_; assumption) | (simp [*]; (first | done | fail))))) zE ⟨_, l8, hR0.trans hR.symm, _, p8, c8, rfl, hfin, hl8, hse.trans hsf, rfl⟩
        · skip
          subst hk0
          refine XOA.wr0 rfl (WrA.cE (chas_a σ ((3 : Nat) : Int)) rfl) ?_
          rintro _ _ _ ⟨_, ⟨rfl, rfl, rfl⟩, rfl⟩
          refine XOA.cl ?_; refine zA rfl ?_; refine zO rfl (Rd.extract rfl rfl) ?_; refine zO rfl (Rd.extract rfl rfl) ?_; refine zO rfl (Rd.extract rfl rfl) ?_; refine zO rfl (Rd.extract rfl rfl) ?_; refine zO rfl (Rd.extract rfl rfl) ?_; refine zO rfl Rd.asg ?_; refine zO rfl Rd.asg ?_
          refine zO rfl Rd.asg ?_; refine zO rfl Rd.asg ?_; refine zO rfl Rd.asg ?_; refine zN (zT (zS (zS (zR (zA rfl ?_))))); refine zN (zT ?_)
          rw [optP, if_neg (by decide)] at hR
          simp only [bindP] at hR
          refine XA.condF rfl rfl (XA.skip (zT (zS (zS (zR (zA rfl ?_)))))); refine zN (zT ?_)
          rw [optP, if_pos (by decide)] at hR
          refine XA.condT rfl rfl (zR (zA rfl ?_)); refine zA rfl ?_; refine zO rfl zI ?_
          cases hxe : exprP vl e f l2 with
          | error x =>
            rw [hxe] at hR
            simp only [bindP] at hR
            refine XOA.die rfl ((expr_p vl e f).bad hv hl2 hF2 (by omega) (by omega) hxe) rfl ?_
            rintro _ σe _ ⟨rfl, hse, cse, rfl⟩
            refine DA.cl ?_
            repeat (first | refine DA.thn_panic ?_ | refine DA.inb_panic ?_)
            exact bodyA.panic zE ⟨_, hR0.trans hR.symm, rfl, hse, _, rfl⟩
          | ok y =>
            obtain ⟨xe, le⟩ := y
            rw [hxe] at hR
            simp only [bindP] at hR
            have hsbe := exprP_sub f _ _ _ hxe
            have hFe : ∀ t ∈ le, TkF t := fun t ht => hF2 t (hsbe.1 t ht)
            have hLe : le.length ≤ 10000 := Nat.le_trans hsbe.2 hL2
            refine XOA.wr0 rfl (WrA.cE ((expr_p vl e f).ok hv hl2 hF2 (by omega) (by omega) hxe) rfl) ?_
            rintro _ σe _ ⟨_, ⟨cse, pe1, ce1, rfl, hce, hle, hse, rfl⟩, rfl⟩
            refine XOA.cl ?_
            obtain ⟨xqe, xde, rfl, -, -, -, -⟩ := hce.inv
            refine zV rfl rfl ?_
            refine XOA.wr0 rfl (WrA.st (tyrow rfl) rfl) ?_
            rintro _ _ _ ⟨rfl, rfl, rfl⟩
            refine zN (zT (zS (zS (zR (zA rfl ?_))))); refine zN (zT ?_)
            rw [optP, if_neg (by decide)] at hR
            simp only [bindP] at hR
            refine XA.condF rfl rfl (XA.skip (zT (zS (zS (zR (zA rfl ?_)))))); refine zN (zT ?_)
            rw [optP, if_neg (by decide)] at hR
            simp only [bindP] at hR
            refine XA.condF rfl rfl (XA.skip (zT (zS (zS (zR (zA rfl ?_)))))); refine zN (zT ?_)
            rw [optP, if_neg (by decide)] at hR
            simp only [bindP] at hR
            refine XA.condF rfl rfl (XA.skip (zT (zS (zR (zA rfl ?_)))))
            rw [closeP] at hR
            cases hc : isT rpar le with
            | false =>
              rw [if_neg (by rw [hc]; exact Bool.noConfusion)] at hR
              refine XOA.die rfl (want_bad σe b pe1 ce1 e _ le rpar hle hc) rfl ?_
              rintro _ _ _ ⟨rfl, rfl, rfl⟩
              refine DA.cl ?_
              repeat (first | refine DA.thn_panic ?_ | refine DA.inb_panic ?_)
              exact bodyA.panic zE ⟨_, hR0.trans hR.symm, rfl, hse, _, rfl⟩
            | true =>
              obtain ⟨t4, l8, rfl⟩ := isT_cons hc
              rw [if_pos hc, List.tail_cons] at hR
              refine XOA.wr0 rfl (WrA.cE (want_ok σe b pe1 ce1 e _ t4 l8 rpar hle hc) rfl) ?_
              rintro _ _ _ ⟨_, ⟨rfl, p8, c8, hl8, rfl, rfl⟩, rfl⟩
              refine XOA.cl ?_; refine zN (zT (zS (zR (zO rfl (Rd.ldA rfl) ?_))))
              refine XOA.wr0 rfl (WrA.st (tyrow rfl) rfl) ?_
              rintro _ _ _ ⟨rfl, rfl, rfl⟩
              refine zN (zT (XA.ret ?_))
              have hfin : StAt σe [i64 ((3 : Nat) : Int), i64 0, i64 xe.op, i64 xe.v, i64 xe.n, .slice xqe xe.l.length xde, i64 0, i64 0, i64 0, .slice none 0 0, .slice none 0 0, .slice none 0 0] (.mk ((3 : Nat) : Int) 0 xe zeroX [] []) := StAt.of ⟨by decide, by decide⟩ ⟨by decide, by decide⟩ hce (zeroX_at _) (PSl.nil _ _ _) (PSl.nil _ _ _)
              exact bodyA.ret (ResA.cell rfl rfl (Ld.atBlk (tyrow rfl) rfl zL rfl (by first | exact take0 (by first | rfl | assumption | (refine (ints_len _).trans ?_; assumption) | (simp [*]; (first | done | fail))) | assumption | exact take_app (by first | rfl | assumption | (refine (ints_len _).trans ?_; assumption) | (simp [*]; (first | done | fail))) | (conv => lhs; simp only [List.drop_succ_cons, List.drop_zero, List.take_succ_cons, List.take_zero])) (by first | rfl | assumption | (refine (ints_len _).trans ?_; assumption) | (simp [*]; (first | done | fail))))) zE ⟨_, l8, hR0.trans hR.symm, _, p8, c8, rfl, hfin, hl8, hse, rfl⟩
        · skip
          subst hk0
          refine XOA.wr0 rfl (WrA.cE (chas_a σ ((4 : Nat) : Int)) rfl) ?_
          rintro _ _ _ ⟨_, ⟨rfl, rfl, rfl⟩, rfl⟩
          refine XOA.cl ?_; refine zA rfl ?_; refine zO rfl (Rd.extract rfl rfl) ?_; refine zO rfl (Rd.extract rfl rfl) ?_; refine zO rfl (Rd.extract rfl rfl) ?_; refine zO rfl (Rd.extract rfl rfl) ?_; refine zO rfl (Rd.extract rfl rfl) ?_; refine zO rfl Rd.asg ?_; refine zO rfl Rd.asg ?_
          refine zO rfl Rd.asg ?_; refine zO rfl Rd.asg ?_; refine zO rfl Rd.asg ?_; refine zN (zT (zS (zS (zR (zA rfl ?_))))); refine zN (zT ?_)
          rw [optP, if_pos (by decide)] at hR
          refine XA.condT rfl rfl (zR (zA rfl ?_))
          cases hxv : varP vl e l2 with
          | error x =>
            rw [hxv] at hR
            simp only [bindP] at hR
            rcases varP_err hxv with ⟨rfl, hx⟩ | ⟨t3, l3, rfl, rfl, hx, hy⟩
            · skip
              refine XOA.die rfl (variable_bad σ b p2 c2 e _ pv vl.length cv l2 hl2 (fun t ht => (hF2 t ht).1) hx) rfl ?_
              rintro _ _ _ ⟨rfl, rfl, rfl⟩
              refine DA.cl ?_
              repeat (first | refine DA.thn_panic ?_ | refine DA.inb_panic ?_)
              exact bodyA.panic zE ⟨_, hR0.trans hR.symm, rfl, .refl _, _, rfl⟩
            · skip
              refine XOA.die rfl (variable_none σ b p2 c2 e vl pv cv t3 l3 hv hl2 (hF2 t3 (by simp)).1 hx hy) rfl ?_
              rintro _ _ _ ⟨rfl, rfl, rfl⟩
              refine DA.cl ?_
              repeat (first | refine DA.thn_panic ?_ | refine DA.inb_panic ?_)
              exact bodyA.panic zE ⟨_, hR0.trans hR.symm, rfl, .refl _, _, rfl⟩
          | ok y =>
            obtain ⟨v3, lv⟩ := y
            rw [hxv] at hR
            simp only [bindP] at hR
            obtain ⟨t3, i3, rfl, rfl, h3, h4⟩ := varP_ok hxv
            have hFv : ∀ t ∈ lv, TkF t := fun t ht => hF2 t (by simp [ht])
            have hLv : lv.length ≤ 10000 := by simp only [List.length_cons] at hL2; omega
            have hi3 := idxG_lt _ _ _ h4
            have hvm := hv.len_le
            refine XOA.wr0 rfl (WrA.cE (variable_ok σ b p2 c2 e vl pv cv i3 t3 lv hv hl2 (hF2 t3 (by simp)).1 h3 h4) rfl) ?_
            rintro _ _ _ ⟨_, ⟨rfl, pv1, cv1, hlv, rfl, rfl⟩, rfl⟩
            refine XOA.cl ?_; refine zV rfl rfl ?_
            refine XOA.wr0 rfl (WrA.st (tyrow rfl) rfl) ?_
            rintro _ _ _ ⟨rfl, rfl, rfl⟩
            refine zN (zT (zS (zS (zR (zA rfl ?_))))); refine zN (zT ?_)
            rw [optP, if_neg (by decide)] at hR
            simp only [bindP] at hR
            refine XA.condF rfl rfl (XA.skip (zT (zS (zS (zR (zA rfl ?_)))))); refine zN (zT ?_)
            rw [optP, if_neg (by decide)] at hR
            simp only [bindP] at hR
            refine XA.condF rfl rfl (XA.skip (zT (zS (zS (zR (zA rfl ?_)))))); refine zN (zT ?_)
            rw [optP, if_neg (by decide)] at hR
            simp only [bindP] at hR
            refine XA.condF rfl rfl (XA.skip (zT (zS (zS (zR (zA rfl ?_)))))); refine zN (zT ?_)
            rw [optP, if_neg (by decide)] at hR
            simp only [bindP] at hR
            refine XA.condF rfl rfl (XA.skip (zT (zS (zR (zA rfl ?_)))))
            rw [closeP] at hR
            cases hc : isT rpar lv with
            | false =>
              rw [if_neg (by rw [hc]; exact Bool.noConfusion)] at hR
              refine XOA.die rfl (want_bad σ b pv1 cv1 e _ lv rpar hlv hc) rfl ?_
              rintro _ _ _ ⟨rfl, rfl, rfl⟩
              refine DA.cl ?_
              repeat (first | refine DA.thn_panic ?_ | refine DA.inb_panic ?_)
              exact bodyA.panic zE ⟨_, hR0.trans hR.symm, rfl, .refl _, _, rfl⟩
            | true =>
              obtain ⟨t4, l8, rfl⟩ := isT_cons hc
              rw [if_pos hc, List.tail_cons] at hR
              refine XOA.wr0 rfl (WrA.cE (want_ok σ b pv1 cv1 e _ t4 l8 rpar hlv hc) rfl) ?_
              rintro _ _ _ ⟨_, ⟨rfl, p8, c8, hl8, rfl, rfl⟩, rfl⟩
              refine XOA.cl ?_; refine zN (zT (zS (zR (zO rfl (Rd.ldA rfl) ?_))))
              refine XOA.wr0 rfl (WrA.st (tyrow rfl) rfl) ?_
              rintro _ _ _ ⟨rfl, rfl, rfl⟩
              refine zN (zT (XA.ret ?_))
              have hfin : StAt σ [i64 ((4 : Nat) : Int), i64 (i3 : Int), i64 0, i64 0, i64 0, .slice none 0 0, i64 0, i64 0, i64 0, .slice none 0 0, .slice none 0 0, .slice none 0 0] (.mk ((4 : Nat) : Int) (i3 : Int) zeroX zeroX [] []) := StAt.of ⟨by decide, by decide⟩ ⟨by omega, by omega⟩ (zeroX_at _) (zeroX_at _) (PSl.nil _ _ _) (PSl.nil _ _ _)
              exact bodyA.ret (ResA.cell rfl rfl (Ld.atBlk (tyrow rfl) rfl zL rfl (by first | exact take0 (by first | rfl | assumption | (refine (ints_len _).trans ?_; assumption) | (simp [*]; (first | done | fail))) | assumption | exact take_app (by first | rfl | assumption | (refine (ints_len _).trans ?_; assumption) | (simp [*]; (first | done | fail))) | (conv => lhs; simp only [List.drop_succ_cons, List.drop_zero, List.take_succ_cons, List.take_zero])) (by first | rfl | assumption | (refine (ints_len _).trans ?_; assumption) | (simp [*]; (first | done | fail))))) zE ⟨_, l8, hR0.trans hR.symm, _, p8, c8, rfl, hfin, hl8, .refl _, rfl⟩
        · skip
          subst hk0
          refine XOA.wr0 rfl (WrA.cE (chas_a σ ((5 : Nat) : Int)) rfl) ?_
          rintro _ _ _ ⟨_, ⟨rfl, rfl, rfl⟩, rfl⟩
          refine XOA.cl ?_; refine zA rfl ?_; refine zO rfl (Rd.extract rfl rfl) ?_; refine zO rfl (Rd.extract rfl rfl) ?_; refine zO rfl (Rd.extract rfl rfl) ?_; refine zO rfl (Rd.extract rfl rfl) ?_; refine zO rfl (Rd.extract rfl rfl) ?_; refine zO rfl Rd.asg ?_; refine zO rfl Rd.asg ?_
          refine zO rfl Rd.asg ?_; refine zO rfl Rd.asg ?_; refine zO rfl Rd.asg ?_; refine zN (zT (zS (zS (zR (zA rfl ?_))))); refine zN (zT ?_)
          rw [optP, if_neg (by decide)] at hR
          simp only [bindP] at hR
          refine XA.condF rfl rfl (XA.skip (zT (zS (zS (zR (zA rfl ?_)))))); refine zN (zT ?_)
          rw [optP, if_pos (by decide)] at hR
          refine XA.condT rfl rfl (zR (zA rfl ?_)); refine zA rfl ?_; refine zO rfl zI ?_
          cases hxe : exprP vl e f l2 with
          | error x =>
            rw [hxe] at hR
            simp only [bindP] at hR
            refine XOA.die rfl ((expr_p vl e f).bad hv hl2 hF2 (by omega) (by omega) hxe) rfl ?_
            rintro _ σe _ ⟨rfl, hse, cse, rfl⟩
            refine DA.cl ?_
            repeat (first | refine DA.thn_panic ?_ | refine DA.inb_panic ?_)
            exact bodyA.panic zE ⟨_, hR0.trans hR.symm, rfl, hse, _, rfl⟩
          | ok y =>
            obtain ⟨xe, le⟩ := y
            rw [hxe] at hR
            simp only [bindP] at hR
            have hsbe := exprP_sub f _ _ _ hxe
            have hFe : ∀ t ∈ le, TkF t := fun t ht => hF2 t (hsbe.1 t ht)
            have hLe : le.length ≤ 10000 := Nat.le_trans hsbe.2 hL2
            refine XOA.wr0 rfl (WrA.cE ((expr_p vl e f).ok hv hl2 hF2 (by omega) (by omega) hxe) rfl) ?_
            rintro _ σe _ ⟨_, ⟨cse, pe1, ce1, rfl, hce, hle, hse, rfl⟩, rfl⟩
            refine XOA.cl ?_
            obtain ⟨xqe, xde, rfl, -, -, -, -⟩ := hce.inv
            refine zV rfl rfl ?_
            refine XOA.wr0 rfl (WrA.st (tyrow rfl) rfl) ?_
            rintro _ _ _ ⟨rfl, rfl, rfl⟩
            refine zN (zT (zS (zS (zR (zA rfl ?_))))); refine zN (zT ?_)
            rw [optP, if_neg (by decide)] at hR
            simp only [bindP] at hR
            refine XA.condF rfl rfl (XA.skip (zT (zS (zS (zR (zA rfl ?_)))))); refine zN (zT ?_)
            rw [optP, if_pos (by decide)] at hR
            refine XA.condT rfl rfl (zR (zA rfl ?_)); refine zA rfl ?_; refine zO rfl zI ?_
            cases hxb : listP (stmtP vl e f) e le with
            | error x =>
              rw [hxb] at hR
              simp only [bindP] at hR
              refine XOA.die rfl (ihl.bad (hv.mono (hse) (fun _ _ h => h)) hle hFe (by omega) (by omega) hLe hxb) rfl ?_
              rintro _ σb _ ⟨rfl, hsb, csb, rfl⟩
              refine DA.cl ?_
              repeat (first | refine DA.thn_panic ?_ | refine DA.inb_panic ?_)
              exact bodyA.panic zE ⟨_, hR0.trans hR.symm, rfl, (hse).trans hsb, _, rfl⟩
            | ok y =>
              obtain ⟨xb, lb⟩ := y
              rw [hxb] at hR
              simp only [bindP] at hR
              have hsbb := listP_sub (fun l x l' h => (stmtP_sub f l x l' h).1) hxb
              have hFb : ∀ t ∈ lb, TkF t := fun t ht => hFe t (hsbb.1 t ht)
              have hLb : lb.length ≤ 10000 := Nat.le_trans hsbb.2 hLe
              refine XOA.wr0 rfl (WrA.cE (ihl.ok (hv.mono (hse) (fun _ _ h => h)) hle hFe (by omega) (by omega) hLe hxb) rfl) ?_
              rintro _ σb _ ⟨_, ⟨qb, mb, pb1, cb1, rfl, hcb, hlb, hsb, rfl⟩, rfl⟩
              refine XOA.cl ?_; refine zV rfl rfl ?_
              refine XOA.wr0 rfl (WrA.st (tyrow rfl) rfl) ?_
              rintro _ _ _ ⟨rfl, rfl, rfl⟩
              refine zN (zT (zS (zS (zR (zA rfl ?_))))); refine zN (zT ?_)
              rw [optP, if_neg (by decide)] at hR
              simp only [bindP] at hR
              refine XA.condF rfl rfl (XA.skip (zT (zS (zR (zA rfl ?_)))))
              rw [closeP] at hR
              cases hc : isT rpar lb with
              | false =>
                rw [if_neg (by rw [hc]; exact Bool.noConfusion)] at hR
                refine XOA.die rfl (want_bad σb b pb1 cb1 e _ lb rpar hlb hc) rfl ?_
                rintro _ _ _ ⟨rfl, rfl, rfl⟩
                refine DA.cl ?_
                repeat (first | refine DA.thn_panic ?_ | refine DA.inb_panic ?_)
                exact bodyA.panic zE ⟨_, hR0.trans hR.symm, rfl, hse.trans hsb, _, rfl⟩
              | true =>
                obtain ⟨t4, l8, rfl⟩ := isT_cons hc
                rw [if_pos hc, List.tail_cons] at hR
                refine XOA.wr0 rfl (WrA.cE (want_ok σb b pb1 cb1 e _ t4 l8 rpar hlb hc) rfl) ?_
                rintro _ _ _ ⟨_, ⟨rfl, p8, c8, hl8, rfl, rfl⟩, rfl⟩
                refine XOA.cl ?_; refine zN (zT (zS (zR (zO rfl (Rd.ldA rfl) ?_))))
                refine XOA.wr0 rfl (WrA.st (tyrow rfl) rfl) ?_
                rintro _ _ _ ⟨rfl, rfl, rfl⟩
                refine zN (zT (XA.ret ?_))
                have hfin : StAt σb [i64 ((5 : Nat) : Int), i64 0, i64 xe.op, i64 xe.v, i64 xe.n, .slice xqe xe.l.length xde, i64 0, i64 0, i64 0, .slice none 0 0, .slice qb xb.length mb, .slice none 0 0] (.mk ((5 : Nat) : Int) 0 xe zeroX xb []) := StAt.of ⟨by decide, by decide⟩ ⟨by decide, by decide⟩ (hce.mono (hsb)) (zeroX_at _) hcb (PSl.nil _ _ _)
                exact bodyA.ret (ResA.cell rfl rfl (Ld.atBlk (tyrow rfl) rfl zL rfl (by first | exact take0 (by first | rfl | assumption | (refine (ints_len _).trans ?_; assumption) | (simp [*]; (first | done | fail))) | assumption | exact take_app (by first | rfl | assumption | (refine (ints_len _).trans ?_; assumption) | (simp [*]; (first | done | fail))) | (conv => lhs; simp only [List.drop_succ_cons, List.drop_zero, List.take_succ_cons, List.take_zero])) (by first | rfl | assumption | (refine (ints_len _).trans ?_; assumption) | (simp [*]; (first | done | fail))))) zE ⟨_, l8, hR0.trans hR.symm, _, p8, c8, rfl, hfin, hl8, hse.trans hsb, rfl⟩
        · skip
          subst hk0
          refine XOA.wr0 rfl (WrA.cE (chas_a σ ((6 : Nat) : Int)) rfl) ?_
          rintro _ _ _ ⟨_, ⟨rfl, rfl, rfl⟩, rfl⟩
          refine XOA.cl ?_; refine zA rfl ?_; refine zO rfl (Rd.extract rfl rfl) ?_; refine zO rfl (Rd.extract rfl rfl) ?_; refine zO rfl (Rd.extract rfl rfl) ?_; refine zO rfl (Rd.extract rfl rfl) ?_; refine zO rfl (Rd.extract rfl rfl) ?_; refine zO rfl Rd.asg ?_; refine zO rfl Rd.asg ?_
          refine zO rfl Rd.asg ?_; refine zO rfl Rd.asg ?_; refine zO rfl Rd.asg ?_; refine zN (zT (zS (zS (zR (zA rfl ?_))))); refine zN (zT ?_)
          rw [optP, if_neg (by decide)] at hR
          simp only [bindP] at hR
          refine XA.condF rfl rfl (XA.skip (zT (zS (zS (zR (zA rfl ?_)))))); refine zN (zT ?_)
          rw [optP, if_pos (by decide)] at hR
          refine XA.condT rfl rfl (zR (zA rfl ?_)); refine zA rfl ?_; refine zO rfl zI ?_
          cases hxe : exprP vl e f l2 with
          | error x =>
            rw [hxe] at hR
            simp only [bindP] at hR
            refine XOA.die rfl ((expr_p vl e f).bad hv hl2 hF2 (by omega) (by omega) hxe) rfl ?_
            rintro _ σe _ ⟨rfl, hse, cse, rfl⟩
            refine DA.cl ?_
            repeat (first | refine DA.thn_panic ?_ | refine DA.inb_panic ?_)
            exact bodyA.panic zE ⟨_, hR0.trans hR.symm, rfl, hse, _, rfl⟩
          | ok y =>
            obtain ⟨xe, le⟩ := y
            rw [hxe] at hR
            simp only [bindP] at hR
            have hsbe := exprP_sub f _ _ _ hxe
            have hFe : ∀ t ∈ le, TkF t := fun t ht => hF2 t (hsbe.1 t ht)
            have hLe : le.length ≤ 10000 := Nat.le_trans hsbe.2 hL2
            refine XOA.wr0 rfl (WrA.cE ((expr_p vl e f).ok hv hl2 hF2 (by omega) (by omega) hxe) rfl) ?_
            rintro _ σe _ ⟨_, ⟨cse, pe1, ce1, rfl, hce, hle, hse, rfl⟩, rfl⟩
            refine XOA.cl ?_
            obtain ⟨xqe, xde, rfl, -, -, -, -⟩ := hce.inv
            refine zV rfl rfl ?_
            refine XOA.wr0 rfl (WrA.st (tyrow rfl) rfl) ?_
            rintro _ _ _ ⟨rfl, rfl, rfl⟩
            refine zN (zT (zS (zS (zR (zA rfl ?_))))); refine zN (zT ?_)
            rw [optP, if_neg (by decide)] at hR
            simp only [bindP] at hR
            refine XA.condF rfl rfl (XA.skip (zT (zS (zS (zR (zA rfl ?_)))))); refine zN (zT ?_)
            rw [optP, if_pos (by decide)] at hR
            refine XA.condT rfl rfl (zR (zA rfl ?_)); refine zA rfl ?_; refine zO rfl zI ?_
            cases hxb : listP (stmtP vl e f) e le with
            | error x =>
              rw [hxb] at hR
              simp only [bindP] at hR
              refine XOA.die rfl (ihl.bad (hv.mono (hse) (fun _ _ h => h)) hle hFe (by omega) (by omega) hLe hxb) rfl ?_
              rintro _ σb _ ⟨rfl, hsb, csb, rfl⟩
              refine DA.cl ?_
              repeat (first | refine DA.thn_panic ?_ | refine DA.inb_panic ?_)
              exact bodyA.panic zE ⟨_, hR0.trans hR.symm, rfl, (hse).trans hsb, _, rfl⟩
            | ok y =>
              obtain ⟨xb, lb⟩ := y
              rw [hxb] at hR
              simp only [bindP] at hR
              have hsbb := listP_sub (fun l x l' h => (stmtP_sub f l x l' h).1) hxb
              have hFb : ∀ t ∈ lb, TkF t := fun t ht => hFe t (hsbb.1 t ht)
              have hLb : lb.length ≤ 10000 := Nat.le_trans hsbb.2 hLe
              refine XOA.wr0 rfl (WrA.cE (ihl.ok (hv.mono (hse) (fun _ _ h => h)) hle hFe (by omega) (by omega) hLe hxb) rfl) ?_
              rintro _ σb _ ⟨_, ⟨qb, mb, pb1, cb1, rfl, hcb, hlb, hsb, rfl⟩, rfl⟩
              refine XOA.cl ?_; refine zV rfl rfl ?_
              refine XOA.wr0 rfl (WrA.st (tyrow rfl) rfl) ?_
              rintro _ _ _ ⟨rfl, rfl, rfl⟩
              refine zN (zT (zS (zS (zR (zA rfl ?_))))); refine zN (zT ?_)
              rw [optP, if_pos (by decide)] at hR
              refine XA.condT rfl rfl (zR (zA rfl ?_)); refine zA rfl ?_; refine zO rfl zI ?_
              cases hxo : listP (stmtP vl e f) e lb with
              | error x =>
                rw [hxo] at hR
                simp only [bindP] at hR
                refine XOA.die rfl (ihl.bad (hv.mono (hse.trans hsb) (fun _ _ h => h)) hlb hFb (by omega) (by omega) hLb hxo) rfl ?_
                rintro _ σo _ ⟨rfl, hso, cso, rfl⟩
                refine DA.cl ?_
                repeat (first | refine DA.thn_panic ?_ | refine DA.inb_panic ?_)
                exact bodyA.panic zE ⟨_, hR0.trans hR.symm, rfl, (hse.trans hsb).trans hso, _, rfl⟩
              | ok y =>
                obtain ⟨xo, lo⟩ := y
                rw [hxo] at hR
                simp only [bindP] at hR
                have hsbo := listP_sub (fun l x l' h => (stmtP_sub f l x l' h).1) hxo
                have hFo : ∀ t ∈ lo, TkF t := fun t ht => hFb t (hsbo.1 t ht)
                have hLo : lo.length ≤ 10000 := Nat.le_trans hsbo.2 hLb
                refine XOA.wr0 rfl (WrA.cE (ihl.ok (hv.mono (hse.trans hsb) (fun _ _ h => h)) hlb hFb (by omega) (by omega) hLb hxo) rfl) ?_
                rintro _ σo _ ⟨_, ⟨qo, mo, po1, co1, rfl, hco, hlo, hso, rfl⟩, rfl⟩
                refine XOA.cl ?_; refine zV rfl rfl ?_
                refine XOA.wr0 rfl (WrA.st (tyrow rfl) rfl) ?_
                rintro _ _ _ ⟨rfl, rfl, rfl⟩
                refine zN (zT (zS (zR (zA rfl ?_))))
                rw [closeP] at hR
                cases hc : isT rpar lo with
                | false =>
                  rw [if_neg (by rw [hc]; exact Bool.noConfusion)] at hR
                  refine XOA.die rfl (want_bad σo b po1 co1 e _ lo rpar hlo hc) rfl ?_
                  rintro _ _ _ ⟨rfl, rfl, rfl⟩
                  refine DA.cl ?_
                  repeat (first | refine DA.thn_panic ?_ | refine DA.inb_panic ?_)
                  exact bodyA.panic zE ⟨_, hR0.trans hR.symm, rfl, hse.trans (hsb.trans hso), _, rfl⟩
                | true =>
                  obtain ⟨t4, l8, rfl⟩ := isT_cons hc
                  rw [if_pos hc, List.tail_cons] at hR
                  refine XOA.wr0 rfl (WrA.cE (want_ok σo b po1 co1 e _ t4 l8 rpar hlo hc) rfl) ?_
                  rintro _ _ _ ⟨_, ⟨rfl, p8, c8, hl8, rfl, rfl⟩, rfl⟩
                  refine XOA.cl ?_; refine zN (zT (zS (zR (zO rfl (Rd.ldA rfl) ?_))))
                  refine XOA.wr0 rfl (WrA.st (tyrow rfl) rfl) ?_
                  rintro _ _ _ ⟨rfl, rfl, rfl⟩
                  refine zN (zT (XA.ret ?_))
                  have hfin : StAt σo [i64 ((6 : Nat) : Int), i64 0, i64 xe.op, i64 xe.v, i64 xe.n, .slice xqe xe.l.length xde, i64 0, i64 0, i64 0, .slice none 0 0, .slice qb xb.length mb, .slice qo xo.length mo] (.mk ((6 : Nat) : Int) 0 xe zeroX xb xo) := StAt.of ⟨by decide, by decide⟩ ⟨by decide, by decide⟩ (hce.mono (hsb.trans hso)) (zeroX_at _) (hcb.mono (hso) (fun _ _ h => h.mono (hso))) hco
                  exact bodyA.ret (ResA.cell rfl rfl (Ld.atBlk (tyrow rfl) rfl zL rfl (by first | exact take0 (by first | rfl | assumption | (refine (ints_len _).trans ?_; assumption) | (simp [*]; (first | done | fail))) | assumption | exact take_app (by first | rfl | assumption | (refine (ints_len _).trans ?_; assumption) | (simp [*]; (first | done | fail))) | (conv => lhs; simp only [List.drop_succ_cons, List.drop_zero, List.take_succ_cons, List.take_zero])) (by first | rfl | assumption | (refine (ints_len _).trans ?_; assumption) | (simp [*]; (first | done | fail))))) zE ⟨_, l8, hR0.trans hR.symm, _, p8, c8, rfl, hfin, hl8, hse.trans (hsb.trans hso), rfl⟩
        · skip
          subst hk0
          refine XOA.wr0 rfl (WrA.cE (chas_a σ ((7 : Nat) : Int)) rfl) ?_
          rintro _ _ _ ⟨_, ⟨rfl, rfl, rfl⟩, rfl⟩
          refine XOA.cl ?_; refine zA rfl ?_; refine zO rfl (Rd.extract rfl rfl) ?_; refine zO rfl (Rd.extract rfl rfl) ?_; refine zO rfl (Rd.extract rfl rfl) ?_; refine zO rfl (Rd.extract rfl rfl) ?_; refine zO rfl (Rd.extract rfl rfl) ?_; refine zO rfl Rd.asg ?_; refine zO rfl Rd.asg ?_
          refine zO rfl Rd.asg ?_; refine zO rfl Rd.asg ?_; refine zO rfl Rd.asg ?_; refine zN (zT (zS (zS (zR (zA rfl ?_))))); refine zN (zT ?_)
          rw [optP, if_neg (by decide)] at hR
          simp only [bindP] at hR
          refine XA.condF rfl rfl (XA.skip (zT (zS (zS (zR (zA rfl ?_)))))); refine zN (zT ?_)
          rw [optP, if_neg (by decide)] at hR
          simp only [bindP] at hR
          refine XA.condF rfl rfl (XA.skip (zT (zS (zS (zR (zA rfl ?_)))))); refine zN (zT ?_)
          rw [optP, if_neg (by decide)] at hR
          simp only [bindP] at hR
          refine XA.condF rfl rfl (XA.skip (zT (zS (zS (zR (zA rfl ?_)))))); refine zN (zT ?_)
          rw [optP, if_neg (by decide)] at hR
          simp only [bindP] at hR
          refine XA.condF rfl rfl (XA.skip (zT (zS (zS (zR (zA rfl ?_)))))); refine zN (zT ?_)
          rw [optP, if_neg (by decide)] at hR
          simp only [bindP] at hR
          refine XA.condF rfl rfl (XA.skip (zT (zS (zR (zA rfl ?_)))))
          rw [closeP] at hR
          cases hc : isT rpar l2 with
          | false =>
            rw [if_neg (by rw [hc]; exact Bool.noConfusion)] at hR
            refine XOA.die rfl (want_bad σ b p2 c2 e _ l2 rpar hl2 hc) rfl ?_
            rintro _ _ _ ⟨rfl, rfl, rfl⟩
            refine DA.cl ?_
            repeat (first | refine DA.thn_panic ?_ | refine DA.inb_panic ?_)
            exact bodyA.panic zE ⟨_, hR0.trans hR.symm, rfl, .refl _, _, rfl⟩
          | true =>
            obtain ⟨t4, l8, rfl⟩ := isT_cons hc
            rw [if_pos hc, List.tail_cons] at hR
            refine XOA.wr0 rfl (WrA.cE (want_ok σ b p2 c2 e _ t4 l8 rpar hl2 hc) rfl) ?_
            rintro _ _ _ ⟨_, ⟨rfl, p8, c8, hl8, rfl, rfl⟩, rfl⟩
            refine XOA.cl ?_; refine zN (zT (zS (zR (zO rfl (Rd.ldA rfl) ?_))))
            refine XOA.wr0 rfl (WrA.st (tyrow rfl) rfl) ?_
            rintro _ _ _ ⟨rfl, rfl, rfl⟩
            refine zN (zT (XA.ret ?_))
            have hfin : StAt σ [i64 ((7 : Nat) : Int), i64 0, i64 0, i64 0, i64 0, .slice none 0 0, i64 0, i64 0, i64 0, .slice none 0 0, .slice none 0 0, .slice none 0 0] (.mk ((7 : Nat) : Int) 0 zeroX zeroX [] []) := StAt.of ⟨by decide, by decide⟩ ⟨by decide, by decide⟩ (zeroX_at _) (zeroX_at _) (PSl.nil _ _ _) (PSl.nil _ _ _)
            exact bodyA.ret (ResA.cell rfl rfl (Ld.atBlk (tyrow rfl) rfl zL rfl (by first | exact take0 (by first | rfl | assumption | (refine (ints_len _).trans ?_; assumption) | (simp [*]; (first | done | fail))) | assumption | exact take_app (by first | rfl | assumption | (refine (ints_len _).trans ?_; assumption) | (simp [*]; (first | done | fail))) | (conv => lhs; simp only [List.drop_succ_cons, List.drop_zero, List.take_succ_cons, List.take_zero])) (by first | rfl | assumption | (refine (ints_len _).trans ?_; assumption) | (simp [*]; (first | done | fail))))) zE ⟨_, l8, hR0.trans hR.symm, _, p8, c8, rfl, hfin, hl8, .refl _, rfl⟩
end Go.Proofs.YthefnnkmpcgcmaaGreatDoor

namespace Go.Proofs.YthefnnkmpcgcmaaGreatDoor
open Go X
set_option maxHeartbeats 4000000
set_option maxRecDepth 4000
abbrev kwLet : ByteArray := ⟨#[108, 101, 116]⟩
def nameP (e : Int) (l : List Tk) : PR ByteArray := match l with
  | t :: r => if nameOk t.text = true then .ok (t.text, r) else .error (failAt e l 5)
  | [] => .error (failAt e l 5)
def cutN (n : Int) : Int := if n < 1 ∨ 48 < n then 0 else n
def letsG (e : Int) : Nat → List Tk → List Va → PR (List Va)
  | 0, _, _ => .error (0, 0)
  | g + 1, l, acc => if isT kwLet l = true then bindP (nameP e l.tail) fun s l1 => bindP (numP e l1) fun n l2 => letsG e g l2 (acc ++ [⟨s, cutN n⟩]) else .ok (acc, l)
def bodyG (S : List Tk → PR St) : Nat → List Tk → List St → PR (List St)
  | 0, _, _ => .error (0, 0)
  | g + 1, l, acc => if l.length = 0 then .ok (acc, l) else match S l with
    | .error x => .error x
    | .ok (s, l1) => bodyG S g l1 (acc ++ [s])
def progP (e : Int) (l : List Tk) : PR Pr := bindP (letsG e (l.length + 1) l []) fun vl l1 => bindP (bodyG (stmtP vl e 13) (l1.length + 1) l1 []) fun b l2 => .ok (⟨vl, b⟩, l2)
theorem nameP_err {e : Int} {l : List Tk} {x : Int × Int} (h : nameP e l = .error x) : x = failAt e l 5 ∧ ∀ t r, l = t :: r → nameOk t.text = false := by
  cases l with
  | nil => cases h; exact ⟨rfl, fun t r q => by cases q⟩
  | cons t r =>
    rw [nameP] at h
    split at h
    · cases h
    · rename_i hn; cases h; exact ⟨rfl, fun t' r' q => by cases q; simpa using hn⟩
theorem nameP_ok {e : Int} {l l' : List Tk} {s : ByteArray} (h : nameP e l = .ok (s, l')) : ∃ t, l = t :: l' ∧ nameOk t.text = true ∧ t.text = s := by
  cases l with
  | nil => cases h
  | cons t r =>
    rw [nameP] at h
    split at h
    · rename_i hn; cases h; exact ⟨t, rfl, hn, rfl⟩
    · cases h
theorem letsG_fuel {e : Int} : ∀ (g g' : Nat) (l : List Tk) (acc : List Va), l.length < g → l.length < g' → letsG e g l acc = letsG e g' l acc
  | 0, g', l, acc, h, h' => by omega
  | g + 1, 0, l, acc, h, h' => by omega
  | g + 1, g' + 1, l, acc, h, h' => by
    rw [letsG, letsG]
    split
    · rename_i hq
      obtain ⟨t, r, rfl⟩ := isT_cons hq
      rw [List.tail_cons]
      cases q : nameP e r with
      | error x => rfl
      | ok y =>
        obtain ⟨s, l1⟩ := y
        obtain ⟨t1, rfl, -, -⟩ := nameP_ok q
        simp only [bindP]
        cases q2 : numP e l1 with
        | error x => rfl
        | ok y =>
          obtain ⟨n, l2⟩ := y
          obtain ⟨t2, rfl, -, -⟩ := numP_ok q2
          simp only [List.length_cons] at h h'
          exact letsG_fuel g g' l2 _ (by omega) (by omega)
    · rfl
theorem bodyG_fuel {S : List Tk → PR St} (hS : ∀ l x l', S l = .ok (x, l') → l'.length < l.length) : ∀ (g g' : Nat) (l : List Tk) (acc : List St), l.length < g → l.length < g' → bodyG S g l acc = bodyG S g' l acc
  | 0, g', l, acc, h, h' => by omega
  | g + 1, 0, l, acc, h, h' => by omega
  | g + 1, g' + 1, l, acc, h, h' => by
    rw [bodyG, bodyG]
    split
    · rfl
    · cases q : S l with
      | error x => rfl
      | ok y =>
        obtain ⟨x, l1⟩ := y
        have := hS l x l1 q
        exact bodyG_fuel hS g g' l1 _ (by omega) (by omega)
theorem program_p (σ : PH) (b : Nat) (p : Option Addr) (c : Nat) (e : Int) (l : List Tk) (hl : PSl 4 rTk σ (.slice p l.length c) l) (hF : ∀ t ∈ l, TkF t) (hL : l.length ≤ 10000) :
    CallsA Tryz.prog 14 #[ptr b] σ [blk b [.slice p l.length c, i64 e, .slice none 0 0] 46] (EndA
      (fun v σ' Γ' => ∃ pr l', progP e l = .ok (pr, l') ∧ ∃ cs, v = .agg (List.toArray cs) ∧ PrAt σ' cs pr ∧ σ.sub σ' ∧ ∃ cb, Γ' = [blk b cb 46])
      (fun ch σ' Γ' => ∃ x, progP e l = .error x ∧ ch = goneP x ∧ σ.sub σ' ∧ ∃ cs, Γ' = [blk b cs 46])) := by
  obtain ⟨R, hR⟩ : ∃ R, progP e l = R := ⟨_, rfl⟩
  have hR0 := hR
  rw [progP] at hR
  obtain ⟨S, hS⟩ : ∃ S, letsG e (l.length + 1) l [] = S := ⟨_, rfl⟩
  rw [hS] at hR
  refine enterA1 Tryz.func14 rfl rfl rfl ?_
  refine zS (zR ?_)
  refine XOA.wr0 rfl (WrA.alloc (tyrow rfl)) ?_
  rintro _ _ _ ⟨g2, rfl, rfl, rfl⟩
  refine zN (zT (zS (XA.block ?_)))
  refine XA.gen [(0, _), (2, _)] ⟨(by with_reducible (conv => lhs; whnf)), (by with_reducible (conv => lhs; whnf)), trivial⟩ (fun δ => ?_)
  dsimp only [List.foldl]
  refine XA.loop [(0, 0), (3, 4), (6, 30)] (fun q : (Nat × Nat) × (Option Addr × Nat) => [(0, ptr b)]) (fun q σ' Γ' => σ = σ' ∧ ∃ (lc : List Tk) (acc : List Va) (pp : Option Addr) (pc : Nat) (rows : List (List Value)), S = letsG e (lc.length + 1) lc acc ∧ (∀ t ∈ lc, TkF t) ∧ lc.length = q.1.2 ∧ acc.length = q.1.1 ∧ q.1.1 + q.1.2 ≤ 10000 ∧ PSl 4 rTk σ' (.slice pp lc.length pc) lc ∧ Rows_ 2 rVa σ' rows acc ∧ Γ' = [lst 58 2 (.slice q.2.1 q.1.1 q.2.2) q.1.1 rows.flatten, blk b [.slice pp lc.length pc, i64 e, .slice q.2.1 q.1.1 q.2.2] 46, blk g2 ty26.zero 26]) (fun q => q.1.2) ((0, l.length), (none, 0)) (by exact ⟨rfl, trivial⟩) (Δ0 := _) ?_ (⟨rfl, l, [], p, c, [], hS.symm, hF, rfl, rfl, by simpa using hL, hl, Rows_.nil _ _ _, rfl⟩) ?_
  · exact zE
  rintro ⟨⟨i, n⟩, ⟨pl, cl⟩⟩ δ _ _ ⟨rfl, lc, acc, pp, pc, rows, hSc, hFc, hn, hacc, hin, hlc, hrows, rfl⟩
  dsimp only [ovr, List.foldl]
  simp only at hn hacc hin
  subst hn
  rw [letsG] at hSc
  cases hq : isT kwLet lc with
  | true =>
    obtain ⟨t1, l1, rfl⟩ := isT_cons hq
    rw [if_pos hq, List.tail_cons] at hSc
    have hF1 : ∀ t ∈ l1, TkF t := fun t ht => hFc t (by simp [ht])
    refine zS (zS (zR (zA rfl ?_)))
    refine XOA.wr0 rfl (WrA.cE (is_yes σ b pp pc e _ t1 l1 kwLet hlc hq) rfl) ?_
    rintro _ _ _ ⟨_, ⟨rfl, p1, c1, hl1, rfl, rfl⟩, rfl⟩
    refine XOA.cl ?_; refine zN (zT (XA.condT rfl rfl (XA.skip (zT (XA.block (zS (zR (zA rfl ?_))))))))
    cases hnm : nameP e l1 with
    | error x =>
      rw [hnm] at hSc
      simp only [bindP] at hSc
      rw [hSc] at hR
      simp only [bindP] at hR
      obtain ⟨rfl, hx⟩ := nameP_err hnm
      refine XOA.die rfl (name_bad σ b p1 c1 e _ l1 hl1 (fun t ht => (hF1 t ht).1) hx) rfl ?_
      rintro _ _ _ ⟨rfl, rfl, rfl⟩
      refine DA.cl ?_
      repeat (first | refine DA.thn_panic ?_ | refine DA.inb_panic ?_)
      exact bodyA.panic zE ⟨_, hR0.trans hR.symm, rfl, .refl _, _, rfl⟩
    | ok y =>
      obtain ⟨s, l2⟩ := y
      rw [hnm] at hSc
      simp only [bindP] at hSc
      obtain ⟨t2, rfl, h2, rfl⟩ := nameP_ok hnm
      have hF2 : ∀ t ∈ l2, TkF t := fun t ht => hF1 t (by simp [ht])
      refine XOA.wr0 rfl (WrA.cE (name_ok σ b p1 c1 e _ t2 l2 hl1 (hF1 t2 (by simp)).1 h2) rfl) ?_
      rintro _ _ _ ⟨_, ⟨rfl, p2, c2, hl2, rfl, rfl⟩, rfl⟩
      refine XOA.cl ?_
      refine zO rfl (Rd.bl (fun _ _ => tyrow) rfl rfl rfl) ?_
      refine XOA.wr0 rfl (WrA.alloc (tyrow rfl)) ?_
      rintro _ _ _ ⟨g3, rfl, rfl, rfl⟩
      refine XOA.wr0 rfl (WrA.st (tyrow rfl) rfl) ?_
      rintro _ _ _ ⟨rfl, rfl, rfl⟩
      refine zN (zT (zS (zR (zA rfl ?_))))
      cases hnu : numP e l2 with
      | error x =>
        rw [hnu] at hSc
        simp only at hSc
        rw [hSc] at hR
        simp only [bindP] at hR
        obtain ⟨rfl, hx⟩ := numP_err hnu
        refine XOA.die rfl (num_bad σ b p2 c2 e _ l2 hl2 hx) rfl ?_
        rintro _ _ _ ⟨rfl, rfl, rfl⟩
        refine DA.cl ?_
        repeat (first | refine DA.thn_panic ?_ | refine DA.inb_panic ?_)
        exact bodyA.panic zE ⟨_, hR0.trans hR.symm, rfl, .refl _, _, rfl⟩
      | ok y =>
        obtain ⟨n3, l3⟩ := y
        rw [hnu] at hSc
        simp only at hSc
        obtain ⟨t3, rfl, h3, rfl⟩ := numP_ok hnu
        have hF3 : ∀ t ∈ l3, TkF t := fun t ht => hF2 t (by simp [ht])
        have hN3 := (hF2 t3 (by simp)).2
        have hT2 := (hF1 t2 (by simp)).1
        simp only [List.length_cons] at hin
        have hSn : S = letsG e (l3.length + 1) l3 (acc ++ [⟨t2.text, cutN t3.n⟩]) := by
          rw [hSc]
          exact letsG_fuel _ _ _ _ (by simp only [List.length_cons]; omega) (by omega)
        by_cases h1 : t3.n < 1
        · skip
          have hcut : cutN t3.n = 0 := by rw [cutN]; rw [if_pos (.inl h1)]
          rw [hcut] at hSn
          refine XOA.wr0 rfl (WrA.cE (num_ok σ b p2 c2 e _ t3 l3 hl2 h3) rfl) ?_
          rintro _ _ _ ⟨_, ⟨rfl, p3, c3, hl3, rfl, rfl⟩, rfl⟩
          refine XOA.cl ?_; refine zO rfl Rd.asg ?_; refine zN (zT (zS (zS (zR (zA rfl ?_))))); refine zO rfl (Rd.lss rfl rfl) ?_; refine zA rfl ?_
          first | (refine zG ?_; refine zA rfl ?_) | refine zH ?_
          first | (refine zG ?_; refine zO rfl (Rd.gtr rfl rfl) ?_) | refine zH ?_
          refine zO rfl zP ?_; refine zN (zT (XA.condT rfl (by first | rfl | exact decide_eq_true h1) ?_)); refine zR (zO rfl Rd.asg ?_); refine zN (zT (zS (zR (zA rfl ?_)))); refine zV rfl rfl ?_
          refine XOA.wr0 rfl (WrA.st (tyrow rfl) rfl) ?_
          rintro _ _ _ ⟨rfl, rfl, rfl⟩
          refine zN (zT ?_)
          refine XA.draw (by kernel_rfl) _ _ [7, 10] [(0, .pu), (1, .pu), (2, .pu), (3, .pu), (4, .rd), (5, .rd), (6, .wr), (7, .wr), (8, .pu), (9, .pu), (10, .wr)] (by kernel_rfl) (PH.sub.refl _) (Ent.sel (R := blk b _ _) zL (Ent.sel (R := blk g3 _ _) zL (Ent.nil _))) ?_
          refine XPA.pu rfl rfl Gd.free Rd.mv ?_; refine XPA.pu rfl rfl Gd.free Rd.mv ?_; refine XPA.pu rfl rfl Gd.free (Rd.nilCheck rfl) ?_; refine XPA.pu rfl rfl Gd.free (Rd.fA rfl) ?_; refine XPA.rd rfl rfl Gd.free (Rd.ldC rfl (tyrow rfl) rfl) ?_; refine XPA.rd rfl rfl Gd.free (Rd.ldA rfl) ?_
          refine XPA.wr0 rfl rfl Gd.free (WrA.bs1 (tyrow rfl) rfl (tyrow rfl)) ?_
          rintro _ _ _ ⟨g27, rfl, rfl, rfl⟩
          refine stays ?_
          refine XPA.wrZ0 rfl rfl Gd.free (by kernel_rfl) (WrA.ap1 (tyrow rfl) rfl (tyrow rfl) rfl rfl rfl) ?_
          rintro _ _ _ ⟨p28, c28, rfl, rfl, rfl⟩
          refine XPA.pu rfl rfl Gd.free (Rd.nilCheck rfl) ?_; refine XPA.pu rfl rfl Gd.free (Rd.fA rfl) ?_
          refine XPA.wrZ0 rfl rfl Gd.free (by kernel_rfl) (WrA.st (tyrow rfl) rfl) ?_
          rintro _ _ _ ⟨rfl, rfl, rfl⟩
          refine XPA.nil ?_; refine DA.inb_normal (zT ?_)
          have hnew : Rows_ 2 rVa σ (rows ++ [[.string t2.text, i64 0]]) (acc ++ [⟨t2.text, 0⟩]) := hrows.snoc rfl ⟨rfl, (show i64ok 0 from ⟨by decide, by decide⟩), hT2⟩
          refine ⟨(Keep.updN (Keep.upd (Keep.upd (Keep.updO (Keep.updO (Keep.upd (Keep.upd (Keep.upd (Keep.upd (Keep.upd (Keep.upd (Keep.updN (Keep.upd (Keep.upd (Keep.upd (Keep.upd (Keep.upd (Keep.upd (Keep.upd (Keep.upd (Keep.upd (Keep.upd (Keep.updO (Keep.upd (Keep.updN (Keep.updO (Keep.upd (Keep.updO (Keep.upd (Keep.updO (Keep.upd (Keep.upd (Keep.hav (Keep.hav (Keep.hav (Keep.refl _ _) rfl) rfl) rfl) rfl) rfl) rfl) rfl) rfl) rfl) rfl)) rfl) rfl) rfl) rfl) rfl) rfl) rfl) rfl) rfl) rfl) rfl) rfl)) rfl) rfl) rfl) rfl) rfl) rfl) rfl) rfl) rfl) rfl)), ((i + 1, l3.length), (p28, c28)), _, zM, ?_, ⟨rfl, l3, acc ++ [⟨t2.text, 0⟩], p3, c3, rows ++ [[.string t2.text, i64 0]], hSn, hF3, rfl, (by rw [List.length_append, hacc]; rfl), (by show i + 1 + l3.length ≤ 10000; omega), hl3, hnew, rfl⟩, (by show l3.length < (t1 :: t2 :: t3 :: l3).length; simp only [List.length_cons]; omega)⟩
          · rw [flatS]; exact zE
        by_cases h48 : t3.n > 48
        · skip
          have hcut : cutN t3.n = 0 := by rw [cutN]; rw [if_pos (.inr h48)]
          rw [hcut] at hSn
          refine XOA.wr0 rfl (WrA.cE (num_ok σ b p2 c2 e _ t3 l3 hl2 h3) rfl) ?_
          rintro _ _ _ ⟨_, ⟨rfl, p3, c3, hl3, rfl, rfl⟩, rfl⟩
          refine XOA.cl ?_; refine zO rfl Rd.asg ?_; refine zN (zT (zS (zS (zR (zA rfl ?_))))); refine zO rfl (Rd.lss rfl rfl) ?_; refine zA rfl ?_
          first | (refine zG ?_; refine zA rfl ?_) | refine zH ?_
          first | (refine zG ?_; refine zO rfl (Rd.gtr rfl rfl) ?_) | refine zH ?_
          refine zO rfl zP ?_; refine zN (zT (XA.condT rfl (by first | rfl | exact decide_eq_true h48) ?_)); refine zR (zO rfl Rd.asg ?_); refine zN (zT (zS (zR (zA rfl ?_)))); refine zV rfl rfl ?_
          refine XOA.wr0 rfl (WrA.st (tyrow rfl) rfl) ?_
          rintro _ _ _ ⟨rfl, rfl, rfl⟩
          refine zN (zT ?_)
          refine XA.draw (by kernel_rfl) _ _ [7, 10] [(0, .pu), (1, .pu), (2, .pu), (3, .pu), (4, .rd), (5, .rd), (6, .wr), (7, .wr), (8, .pu), (9, .pu), (10, .wr)] (by kernel_rfl) (PH.sub.refl _) (Ent.sel (R := blk b _ _) zL (Ent.sel (R := blk g3 _ _) zL (Ent.nil _))) ?_
          refine XPA.pu rfl rfl Gd.free Rd.mv ?_; refine XPA.pu rfl rfl Gd.free Rd.mv ?_; refine XPA.pu rfl rfl Gd.free (Rd.nilCheck rfl) ?_; refine XPA.pu rfl rfl Gd.free (Rd.fA rfl) ?_; refine XPA.rd rfl rfl Gd.free (Rd.ldC rfl (tyrow rfl) rfl) ?_; refine XPA.rd rfl rfl Gd.free (Rd.ldA rfl) ?_
          refine XPA.wr0 rfl rfl Gd.free (WrA.bs1 (tyrow rfl) rfl (tyrow rfl)) ?_
          rintro _ _ _ ⟨g27, rfl, rfl, rfl⟩
          refine stays ?_
          refine XPA.wrZ0 rfl rfl Gd.free (by kernel_rfl) (WrA.ap1 (tyrow rfl) rfl (tyrow rfl) rfl rfl rfl) ?_
          rintro _ _ _ ⟨p28, c28, rfl, rfl, rfl⟩
          refine XPA.pu rfl rfl Gd.free (Rd.nilCheck rfl) ?_; refine XPA.pu rfl rfl Gd.free (Rd.fA rfl) ?_
          refine XPA.wrZ0 rfl rfl Gd.free (by kernel_rfl) (WrA.st (tyrow rfl) rfl) ?_
          rintro _ _ _ ⟨rfl, rfl, rfl⟩
          refine XPA.nil ?_; refine DA.inb_normal (zT ?_)
          have hnew : Rows_ 2 rVa σ (rows ++ [[.string t2.text, i64 0]]) (acc ++ [⟨t2.text, 0⟩]) := hrows.snoc rfl ⟨rfl, (show i64ok 0 from ⟨by decide, by decide⟩), hT2⟩
          refine ⟨(Keep.updN (Keep.upd (Keep.upd (Keep.updO (Keep.updO (Keep.upd (Keep.upd (Keep.upd (Keep.upd (Keep.upd (Keep.upd (Keep.updN (Keep.upd (Keep.upd (Keep.upd (Keep.upd (Keep.upd (Keep.upd (Keep.upd (Keep.upd (Keep.upd (Keep.upd (Keep.updO (Keep.upd (Keep.updN (Keep.updO (Keep.upd (Keep.updO (Keep.upd (Keep.updO (Keep.upd (Keep.upd (Keep.hav (Keep.hav (Keep.hav (Keep.refl _ _) rfl) rfl) rfl) rfl) rfl) rfl) rfl) rfl) rfl) rfl)) rfl) rfl) rfl) rfl) rfl) rfl) rfl) rfl) rfl) rfl) rfl) rfl)) rfl) rfl) rfl) rfl) rfl) rfl) rfl) rfl) rfl) rfl)), ((i + 1, l3.length), (p28, c28)), _, zM, ?_, ⟨rfl, l3, acc ++ [⟨t2.text, 0⟩], p3, c3, rows ++ [[.string t2.text, i64 0]], hSn, hF3, rfl, (by rw [List.length_append, hacc]; rfl), (by show i + 1 + l3.length ≤ 10000; omega), hl3, hnew, rfl⟩, (by show l3.length < (t1 :: t2 :: t3 :: l3).length; simp only [List.length_cons]; omega)⟩
          · rw [flatS]; exact zE
        have hcut : cutN t3.n = t3.n := by rw [cutN]; rw [if_neg (by omega)]
        rw [hcut] at hSn
        refine XOA.wr0 rfl (WrA.cE (num_ok σ b p2 c2 e _ t3 l3 hl2 h3) rfl) ?_
        rintro _ _ _ ⟨_, ⟨rfl, p3, c3, hl3, rfl, rfl⟩, rfl⟩
        refine XOA.cl ?_; refine zO rfl Rd.asg ?_; refine zN (zT (zS (zS (zR (zA rfl ?_))))); refine zO rfl (Rd.lss rfl rfl) ?_; refine zA rfl ?_
        first | (refine zG ?_; refine zA rfl ?_) | refine zH ?_
        first | (refine zG ?_; refine zO rfl (Rd.gtr rfl rfl) ?_) | refine zH ?_
        refine zO rfl zP ?_; refine zN (zT (XA.condF rfl (by first | rfl | exact decide_eq_false h48) ?_)); refine XA.skip (zT (zS (zR (zA rfl ?_)))); refine zV rfl rfl ?_
        refine XOA.wr0 rfl (WrA.st (tyrow rfl) rfl) ?_
        rintro _ _ _ ⟨rfl, rfl, rfl⟩
        refine zN (zT ?_)
        refine XA.draw (by kernel_rfl) _ _ [7, 10] [(0, .pu), (1, .pu), (2, .pu), (3, .pu), (4, .rd), (5, .rd), (6, .wr), (7, .wr), (8, .pu), (9, .pu), (10, .wr)] (by kernel_rfl) (PH.sub.refl _) (Ent.sel (R := blk b _ _) zL (Ent.sel (R := blk g3 _ _) zL (Ent.nil _))) ?_
        refine XPA.pu rfl rfl Gd.free Rd.mv ?_; refine XPA.pu rfl rfl Gd.free Rd.mv ?_; refine XPA.pu rfl rfl Gd.free (Rd.nilCheck rfl) ?_; refine XPA.pu rfl rfl Gd.free (Rd.fA rfl) ?_; refine XPA.rd rfl rfl Gd.free (Rd.ldC rfl (tyrow rfl) rfl) ?_; refine XPA.rd rfl rfl Gd.free (Rd.ldA rfl) ?_
        refine XPA.wr0 rfl rfl Gd.free (WrA.bs1 (tyrow rfl) rfl (tyrow rfl)) ?_
        rintro _ _ _ ⟨g27, rfl, rfl, rfl⟩
        refine stays ?_
        refine XPA.wrZ0 rfl rfl Gd.free (by kernel_rfl) (WrA.ap1 (tyrow rfl) rfl (tyrow rfl) rfl rfl rfl) ?_
        rintro _ _ _ ⟨p28, c28, rfl, rfl, rfl⟩
        refine XPA.pu rfl rfl Gd.free (Rd.nilCheck rfl) ?_; refine XPA.pu rfl rfl Gd.free (Rd.fA rfl) ?_
        refine XPA.wrZ0 rfl rfl Gd.free (by kernel_rfl) (WrA.st (tyrow rfl) rfl) ?_
        rintro _ _ _ ⟨rfl, rfl, rfl⟩
        refine XPA.nil ?_; refine DA.inb_normal (zT ?_)
        have hnew : Rows_ 2 rVa σ (rows ++ [[.string t2.text, i64 t3.n]]) (acc ++ [⟨t2.text, t3.n⟩]) := hrows.snoc rfl ⟨rfl, hN3, hT2⟩
        refine ⟨(Keep.updN (Keep.upd (Keep.upd (Keep.updO (Keep.updO (Keep.upd (Keep.upd (Keep.upd (Keep.upd (Keep.upd (Keep.upd (Keep.updN (Keep.upd (Keep.upd (Keep.upd (Keep.upd (Keep.upd (Keep.upd (Keep.upd (Keep.upd (Keep.upd (Keep.updO (Keep.upd (Keep.updN (Keep.updO (Keep.upd (Keep.updO (Keep.upd (Keep.updO (Keep.upd (Keep.upd (Keep.hav (Keep.hav (Keep.hav (Keep.refl _ _) rfl) rfl) rfl) rfl) rfl) rfl) rfl) rfl) rfl) rfl)) rfl) rfl) rfl) rfl) rfl) rfl) rfl) rfl) rfl) rfl) rfl)) rfl) rfl) rfl) rfl) rfl) rfl) rfl) rfl) rfl) rfl)), ((i + 1, l3.length), (p28, c28)), _, zM, ?_, ⟨rfl, l3, acc ++ [⟨t2.text, t3.n⟩], p3, c3, rows ++ [[.string t2.text, i64 t3.n]], hSn, hF3, rfl, (by rw [List.length_append, hacc]; rfl), (by show i + 1 + l3.length ≤ 10000; omega), hl3, hnew, rfl⟩, (by show l3.length < (t1 :: t2 :: t3 :: l3).length; simp only [List.length_cons]; omega)⟩
        · rw [flatS]; exact zE
  | false =>
    rw [if_neg (by rw [hq]; exact Bool.noConfusion)] at hSc
    rw [hSc] at hR
    simp only [bindP] at hR
    subst hacc
    refine zS (zS (zR (zA rfl ?_)))
    refine XOA.wr0 rfl (WrA.cE (is_no σ b pp pc e _ lc kwLet hlc hq) rfl) ?_
    rintro _ _ _ ⟨_, ⟨rfl, rfl, rfl⟩, rfl⟩
    refine XOA.cl ?_; refine zN (zT (XA.condF rfl rfl (XA.exit (DA.thn_exit (DA.thn_exit (DA.inb_same (zT (zS (zR ?_)))))))))
    refine XOA.wr0 rfl (WrA.alloc (tyrow rfl)) ?_
    rintro _ _ _ ⟨g5, rfl, rfl, rfl⟩
    refine zN (zT (zS (zR (zA rfl ?_))))
    refine XOA.frz (R := lst 58 2 _ _ _) zL lst_frz lst_frz_mono ?_
    rintro σ1 ⟨⟩ hf hs1
    have hv1 : PSl 2 rVa σ1 (.slice pl acc.length cl) acc := (hrows.mono (σ' := σ1) (fun _ _ h => h)).psl rfl hf
    obtain ⟨U, hU⟩ : ∃ U, bodyG (stmtP acc e 13) (lc.length + 1) lc [] = U := ⟨_, rfl⟩
    rw [hU] at hR
    refine zO rfl (Rd.nilCheck rfl) ?_; refine zV rfl rfl ?_; refine zB rfl rfl (tyrow rfl) rfl ?_; refine zV rfl rfl ?_
    refine XOA.wr0 rfl (WrA.st (tyrow rfl) rfl) ?_
    rintro _ _ _ ⟨rfl, rfl, rfl⟩
    refine zN (zT (zS (XA.block ?_)))
    refine XA.gen [(0, _), (2, _), (5, _)] ⟨(by with_reducible (conv => lhs; whnf)), (by with_reducible (conv => lhs; whnf)), (by with_reducible (conv => lhs; whnf)), trivial⟩ (fun δ => ?_)
    dsimp only [List.foldl]
    refine XA.loop [(0, 0), (36, 48)] (fun i : Nat × Nat => [(0, ptr b)]) (fun i σ' Γ' => σ1.sub σ' ∧ ∃ (ld : List Tk) (acd : List St) (pp : Option Addr) (pc : Nat) (pb : Option Addr) (cb : Nat) (rows : List (List Value)), U = bodyG (stmtP acc e 13) (ld.length + 1) ld acd ∧ (∀ t ∈ ld, TkF t) ∧ ld.length = i.2 ∧ acd.length = i.1 ∧ i.1 + i.2 ≤ 10000 ∧ PSl 4 rTk σ' (.slice pp ld.length pc) ld ∧ Rows_ 12 StAt σ' rows acd ∧ Γ' = [lst 38 12 (.slice pb i.1 cb) i.1 rows.flatten, blk g5 [.slice pl acc.length cl, .slice pb i.1 cb] 26, blk b [.slice pp ld.length pc, i64 e, .slice pl acc.length cl] 46, blk g2 ty26.zero 26]) (fun i => i.2) (0, lc.length) (by exact ⟨rfl, trivial⟩) (Δ0 := _) ?_ (⟨.refl _, lc, [], pp, pc, none, 0, [], hU.symm, hFc, rfl, rfl, by show 0 + lc.length ≤ 10000; omega, hlc.mono hs1 (fun _ _ h => h), Rows_.nil _ _ _, rfl⟩) ?_
    · exact zE
    rintro ⟨i, n⟩ δ2 σ2 _ ⟨hs2, ld, acd, pd, cd, pb, cb, rows2, hUc, hFd, hn, hacd, hid, hld, hrows2, rfl⟩
    dsimp only [ovr, List.foldl]
    simp only at hn hacd hid
    subst hn
    have hv2 := hv1.mono hs2 (fun _ _ h => h)
    rw [bodyG] at hUc
    by_cases h0 : ld.length = 0
    · rw [if_pos h0] at hUc
      rw [hUc] at hR
      simp only [bindP] at hR
      subst hacd
      refine zS (zS (zR (zA rfl ?_))); refine zO rfl (Rd.nilCheck rfl) ?_; refine zV rfl rfl ?_; refine zB rfl rfl (tyrow rfl) rfl ?_; refine zO rfl (Rd.lenSlice (tyrow rfl) rfl rfl) ?_; refine zO rfl (Rd.gtr rfl rfl) ?_; refine zN (zT (XA.condF rfl (by first | rfl | exact decide_eq_false (by omega)) ?_))
      refine XA.exit (DA.thn_exit (DA.thn_exit (DA.inb_same (zT (zS (zR (zO rfl (Rd.ldA rfl) ?_)))))))
      refine XOA.wr0 rfl (WrA.st (tyrow rfl) rfl) ?_
      rintro _ _ _ ⟨rfl, rfl, rfl⟩
      refine zN (zT (XA.ret ?_))
      refine DA.frz (R := lst 38 12 _ _ _) zL lst_frz lst_frz_mono ?_
      rintro σ3 ⟨⟩ hf3 hs3
      exact bodyA.ret (ResA.cell rfl rfl (Ld.atBlk (tyrow rfl) rfl zL rfl (by first | exact take0 (by first | rfl | assumption | (refine (ints_len _).trans ?_; assumption) | (simp [*]; (first | done | fail))) | assumption | exact take_app (by first | rfl | assumption | (refine (ints_len _).trans ?_; assumption) | (simp [*]; (first | done | fail))) | (conv => lhs; simp only [List.drop_succ_cons, List.drop_zero, List.take_succ_cons, List.take_zero])) (by first | rfl | assumption | (refine (ints_len _).trans ?_; assumption) | (simp [*]; (first | done | fail))))) zE ⟨_, _, hR0.trans hR.symm, _, rfl, ⟨_, _, rfl, hv2.mono hs3 (fun _ _ h => h), (hrows2.mono (fun _ _ h => h.mono hs3)).psl rfl hf3⟩, hs1.trans (hs2.trans hs3), _, rfl⟩
    · rw [if_neg h0] at hUc
      cases hx : stmtP acc e 13 ld with
      | error x =>
        rw [hx] at hUc
        simp only at hUc
        rw [hUc] at hR
        simp only [bindP] at hR
        refine zS (zS (zR (zA rfl ?_))); refine zO rfl (Rd.nilCheck rfl) ?_; refine zV rfl rfl ?_; refine zB rfl rfl (tyrow rfl) rfl ?_; refine zO rfl (Rd.lenSlice (tyrow rfl) rfl rfl) ?_; refine zO rfl (Rd.gtr rfl rfl) ?_; refine zN (zT (XA.condT rfl (by first | rfl | exact decide_eq_true (by omega)) ?_))
        refine XA.skip (zT (XA.block ?_))
        refine XA.draw (by kernel_rfl) _ _ [5, 7] [(0, .pu), (1, .rd), (2, .pu), (3, .wr), (4, .wr), (5, .wr), (6, .pu), (7, .wr)] (by kernel_rfl) (PH.sub.refl _) (Ent.sel (R := blk g5 _ _) zL (Ent.nil _)) ?_
        refine XPA.pu rfl rfl Gd.free (Rd.fA rfl) ?_; refine XPA.rd rfl rfl Gd.free (Rd.ldC rfl (tyrow rfl) rfl) ?_; refine XPA.pu rfl rfl Gd.free Rd.mv ?_
        refine XPA.die rfl rfl Gd.free ((stmt_p acc e 13).bad hv2 hld hFd (by decide) (by decide) (by omega) hx) rfl ?_
        rintro _ σ3 _ ⟨rfl, hs3, cs3, rfl⟩
        refine DA.cl ?_
        repeat (first | refine DA.thn_panic ?_ | refine DA.inb_panic ?_)
        exact bodyA.panic zE ⟨_, hR0.trans hR.symm, rfl, hs1.trans (hs2.trans hs3), _, rfl⟩
      | ok y =>
        obtain ⟨x, l'⟩ := y
        rw [hx] at hUc
        simp only at hUc
        have hsb := stmtP_sub 13 _ _ _ hx
        have hlt := hsb.2
        have hUn : U = bodyG (stmtP acc e 13) (l'.length + 1) l' (acd ++ [x]) := by
          rw [hUc]
          exact bodyG_fuel (fun l x l' h => (stmtP_sub 13 l x l' h).2) _ _ _ _ hlt (by omega)
        refine zS (zS (zR (zA rfl ?_))); refine zO rfl (Rd.nilCheck rfl) ?_; refine zV rfl rfl ?_; refine zB rfl rfl (tyrow rfl) rfl ?_; refine zO rfl (Rd.lenSlice (tyrow rfl) rfl rfl) ?_; refine zO rfl (Rd.gtr rfl rfl) ?_; refine zN (zT (XA.condT rfl (by first | rfl | exact decide_eq_true (by omega)) ?_))
        refine XA.skip (zT (XA.block ?_))
        refine XA.draw (by kernel_rfl) _ _ [5, 7] [(0, .pu), (1, .rd), (2, .pu), (3, .wr), (4, .wr), (5, .wr), (6, .pu), (7, .wr)] (by kernel_rfl) (PH.sub.refl _) (Ent.sel (R := blk g5 _ _) zL (Ent.nil _)) ?_
        refine XPA.pu rfl rfl Gd.free (Rd.fA rfl) ?_; refine XPA.rd rfl rfl Gd.free (Rd.ldC rfl (tyrow rfl) rfl) ?_; refine XPA.pu rfl rfl Gd.free Rd.mv ?_
        refine XPA.wr0 rfl rfl Gd.free (WrA.cE ((stmt_p acc e 13).ok hv2 hld hFd (by decide) (by decide) (by omega) hx) rfl) ?_
        rintro _ σ3 _ ⟨_, ⟨cs3, p', c', rfl, hcs3, hl', hs3, rfl⟩, rfl⟩
        refine stays (XPA.cl ?_)
        have hl2' := hcs3.len
        have hone2 := hcs3.ones
        refine XPA.wr0 rfl rfl Gd.free (WrA.bs1 (tyrow rfl) rfl (tyrow rfl)) ?_
        rintro _ _ _ ⟨g46, rfl, rfl, rfl⟩
        refine stays ?_
        refine XPA.wrZ0 rfl rfl Gd.free (by kernel_rfl) (WrA.ap1 (tyrow rfl) rfl (tyrow rfl) rfl rfl rfl) ?_
        rintro _ _ _ ⟨p47, c47, rfl, rfl, rfl⟩
        refine XPA.pu rfl rfl Gd.free (Rd.fA rfl) ?_
        refine XPA.wrZ0 rfl rfl Gd.free (by kernel_rfl) (WrA.st (tyrow rfl) rfl) ?_
        rintro _ _ _ ⟨rfl, rfl, rfl⟩
        refine XPA.nil ?_; refine DA.inb_normal (zT ?_)
        have hnew : Rows_ 12 StAt σ3 (rows2 ++ [cs3]) (acd ++ [x]) := (hrows2.mono (fun _ _ h => h.mono hs3)).snoc hl2' hcs3
        refine ⟨(Keep.updN (Keep.upd (Keep.updO (Keep.updO (Keep.updO (Keep.upd (Keep.upd (Keep.upd (Keep.upd (Keep.upd (Keep.upd (Keep.upd (Keep.upd (Keep.upd (Keep.upd (Keep.hav (Keep.hav (Keep.refl _ _) rfl) rfl) rfl) rfl) rfl) rfl) rfl) rfl) rfl) rfl) rfl) rfl) rfl) rfl) rfl) rfl)), (i + 1, l'.length), _, zM, ?_, ⟨hs2.trans hs3, l', acd ++ [x], p', c', p47, c47, rows2 ++ [cs3], hUn, (fun t ht => hFd t (hsb.1.1 t ht)), rfl, (by rw [List.length_append, hacd]; rfl), (by show i + 1 + l'.length ≤ 10000; omega), hl', hnew, rfl⟩, (by show l'.length < ld.length; omega)⟩
        · rw [flatS]; exact zE
end Go.Proofs.YthefnnkmpcgcmaaGreatDoor

