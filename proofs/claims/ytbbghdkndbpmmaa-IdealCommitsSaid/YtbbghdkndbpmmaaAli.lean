/- Append to a list that is full, of which the cells are another's. -/
import Derived.Test.YtbbghdkndbpmmaaQ
namespace Go.Proofs.Ytbbghdkndbpmmaa
namespace X
open Go
theorem Wr.appendFull {P : Program} {ρ : Env} {h : Heap} {T e : TypeId} {x y : Operand} {ty : TypeId} {r re : Ty} {n m c g o : Nat} {p0 : Option Addr} {xs news : List Value} (hT : tyOf P T = some r) (hk : r.k = .slice e) (hE : tyOf P e = some re) (hz : re.zero.length = re.size)
    (hx : ∀ j u, xs[j]? = some u → ∃ g0 o0, p0 = some ⟨g0, o0, none⟩ ∧ Cel h g0 (o0 + j) u) (hp : p0 = none → n = 0) (hlx : xs.length = n * re.size) (hs : ev ρ x = .slice p0 n n) (hrow : Row h g o news) (hy : ev ρ y = .slice (some ⟨g, o, none⟩) m c) (hl : news.length = m * re.size) (h1 : ones news) (hm : 0 < m) (h63 : n + m ≤ maxLen) (hb : (n + m) * re.bytes ≤ 140737488355328) :
    Wr P ρ h (.call { callee := .builtin .append, args := #[x, y], argTypes := #[T, T] }) ty (fun v' h' => Own h' e re.size v' (n + m) (xs ++ news) (fun k => h.size ≤ k) ∧ But h h' none) noP := by
  cases p0 with
  | none =>
    have := hp rfl
    subst this
    have hxn : xs = [] := List.eq_nil_of_length_eq_zero (by simpa using hlx)
    subst hxn
    refine ⟨fun d pos af gd a w next Q he hw hn hp' => ?_⟩
    refine (Wr.append (F := fun _ => False) hT hk hE hz (Own.nil _ _ _ _) hs hrow hy hl h1 hm h63 hb).out d pos af gd a w next Q he hw (fun v' w' s q => hn v' w' s ⟨q.1.weak (fun g _ hg => hg.elim (fun z => z.elim) id), q.2.1⟩) (fun _ _ _ q => q.elim)
  | some a0 =>
    refine Wr.run fun d pos af gd w hw => ?_
    obtain ⟨dd, i, z, e1, e2, -⟩ := tyOf_spec hT
    obtain ⟨dd', i', z', e1', e2', e3', e4', e5', e6', e7'⟩ := tyOf_spec hE
    rw [hk] at e2
    cases dd <;> simp [kindOf] at e2
    rw [e2] at e1
    clear e2
    have hcell : ∀ j u, news[j]? = some u → w.cell? ((⟨g, o, none⟩ : Addr).add j) = some u := fun j u hu => by rw [addr_add]; exact (hrow.cel hu).cell hw
    have hzs : z'.cells.size = re.size := by rw [← Array.length_toList, e7', hz]
    have hsmall : n + m ≤ 9223372036854775807 := by simp only [maxLen] at h63; omega
    have hlen : (xs ++ news).length = (n + m) * re.size := by rw [List.length_append, hlx, hl, Nat.add_mul]
    have hl' : news.length = m * i'.size := by rw [e4']; exact hl
    have hexec : ∀ v' w', (Builtin.append_ #[T, T] ty #[.slice (some a0) n n, .slice (some ⟨g, o, none⟩) m c]).run P w = .ok v' w' → (execOp (ev ρ) ⟨d, .call { callee := .builtin .append, args := #[x, y], argTypes := #[T, T] }, ty, pos, af, gd⟩).run P w = .ok (.value v') w' := fun v' w' hr => by
      simp only [execOp, resolve, invoke, builtin, Sem.run_bind, Sem.run_pure, Result.andThen_ok, List.map_toArray, List.map_cons, List.map_nil, hs, hy, hr]
    have holds : ∀ j u, xs[j]? = some u → w.cell? (a0.add j) = some u := fun j u hu => by
      obtain ⟨g0, o0, e0, hc⟩ := hx j u hu
      simp only [Option.some.injEq] at e0
      rw [e0, addr_add]; exact hc.cell hw
    have hr := run_append_grow (P := P) w T ty e i' z' e1 e3' e6' a0 n n xs (by rw [e4']; exact hlx) holds ⟨g, o, none⟩ m c news hl' hcell (by omega) (by omega) (growslice_fits (by omega) (by rw [e5']; exact hb))
    have hge := grownCap_ge w (n + m) n e
    have hcm : grownCap w (n + m) n e ≤ maxLen := grownCap_le_maxLen w (n + m) n e h63
    refine ⟨_, _, hexec _ _ hr, ⟨rfl, rfl, rfl⟩, ⟨hlen, .inr ⟨w.heap.size, _, (xs.toArray ++ news.toArray ++ Builtin.zeroCells z'.cells (grownCap w (n + m) n e - (n + m))).toList, rfl, by rw [← hw]; exact Nat.le_refl _, ?_, hge, hcm, ?_, ?_⟩⟩, ⟨by rw [← hw]; simp [World.alloc], fun k hk _ => by rw [← hw] at hk ⊢; exact get_push_old hk⟩⟩
    · exact ⟨by rw [Array.toArray_toList]; exact get_push_new rfl⟩
    · simp only [Array.length_toList, Array.size_append, List.size_toArray, size_zeroCells, hzs, hlx, hl, ← Nat.add_mul]
      apply Nat.mul_le_mul_right
      omega
    · simp only [Array.toList_append, List.append_assoc]
      rw [← List.append_assoc, ← hlen]
      exact List.take_left
/-- v is the full list of n0 elements at p0, of which the cells are another's, or a list of one's own. -/
def ali (e size : Nat) (p0 : Option Addr) (n0 : Nat) (xs0 : List Value) (v : Value) (n : Nat) (xs : List Value) : HP := fun m => (v = .slice p0 n0 n0 ∧ n = n0 ∧ xs = xs0) ∨ lst e size v n xs m
theorem Ent.selAli {Γ Δ : List HP} {e size n0 : Nat} {p0 : Option Addr} {xs0 : List Value} (h : Ent Γ Δ) : Ent Γ (ali e size p0 n0 xs0 (.slice p0 n0 n0) n0 xs0 :: Δ) := fun m x => ⟨PH.none, m, .inl ⟨rfl, rfl, rfl⟩, h m x, (PH.none_dis m).symm, PH.none_sub m, .refl m⟩
theorem ali_shape {e size n n0 : Nat} {v : Value} {p0 : Option Addr} {xs xs0 : List Value} : ∀ m, ali e size p0 n0 xs0 v n xs m → ∃ x : Option Addr × Nat, v = .slice x.1 n x.2 ∧ Sat [ali e size p0 n0 xs0 v n xs] m := fun m h => by
  have hs : Sat [ali e size p0 n0 xs0 v n xs] m := ⟨m, PH.none, h, trivial, PH.none_dis m, .refl _, PH.none_sub _⟩
  rcases h with ⟨rfl, rfl, rfl⟩ | h
  · exact ⟨(p0, n), rfl, hs⟩
  · obtain ⟨x, ⟨h1, -⟩, -⟩ := lst_shape m h
    exact ⟨x, h1, hs⟩
theorem WrA.appendAli {P : Program} {ρ : Env} {σ : PH} {Γ : List HP} {T e : TypeId} {x y : Operand} {ty : TypeId} {r re : Ty} {v : Value} {n n0 c g : Nat} {p0 : Option Addr} {xs xs0 news : List Value} {Γ1 Γ' : List HP} {T' : TypeId} (hT : tyOf P T = some r) (hk : r.k = .slice e) (hE : tyOf P e = some re) (hz : re.zero.length = re.size)
    (hs : ev ρ x = v) (hy : ev ρ y = .slice (some ⟨g, 0, none⟩) 1 c) (hg : Sel Γ (blk g news T') Γ1) (s : Sel Γ1 (ali e re.size p0 n0 xs0 v n xs) Γ') (hx : ∀ j u, xs0[j]? = some u → ∃ g0 o0, p0 = some ⟨g0, o0, none⟩ ∧ AtC (Ho σ Γ') g0 (o0 + j) u) (hp : p0 = none → n0 = 0) (hlx : xs0.length = n0 * re.size)
    (hl : news.length = re.size) (h1 : ones news) (h63 : n + 1 ≤ maxLen) (hb : (n + 1) * re.bytes ≤ 140737488355328) :
    WrA P ρ σ Γ (.call { callee := .builtin .append, args := #[x, y], argTypes := #[T, T] }) ty (fun v' σ' Δ => ∃ p c, v' = .slice p (n + 1) c ∧ σ = σ' ∧ Δ = lst e re.size (.slice p (n + 1) c) (n + 1) (xs ++ news) :: Γ') noPA :=
  ⟨fun f h hh => ⟨fun d pos af gd a w next Q' he hw hn hp' => by
    have h2 : Holds σ Γ1 f h := hh.ent (fun m hm => by obtain ⟨m1, m2, p, q, r, s, t⟩ := hg.to hm; exact q.mono t)
    have hcase : (v = .slice p0 n0 n0 ∧ n = n0 ∧ xs = xs0 ∧ Holds σ Γ' f h) ∨ Holds σ (lst e re.size v n xs :: Γ') f h := by
      obtain ⟨m, a1, a2⟩ := h2
      obtain ⟨m1, m2, q1, q2, q3, q4, q5⟩ := s.to a1
      rcases q1 with ⟨r1, r2, r3⟩ | q1
      · exact .inl ⟨r1, r2, r3, m, q2.mono q5, a2⟩
      · exact .inr ⟨m, ⟨m1, m2, q1, q2, q3, q4, q5⟩, a2⟩
    rcases hcase with ⟨rfl, rfl, rfl, h3⟩ | h3
    · have h4 : Holds σ (lst e re.size (.slice none 0 0) 0 [] :: Γ') f h := h3.ent (Ent.selNil (Ent.refl _))
      exact (Wr.appendFull hT hk hE hz (fun j u hu => by obtain ⟨g0, o0, e0, hc⟩ := hx j u hu; exact ⟨g0, o0, e0, hc.out h h3.ho⟩) hp hlx hs (hh.ho.blk hg).rowAll hy (by omega) h1 (by omega) h63 hb).out d pos af gd a w next Q' he hw (fun v' w' sm q => by
        obtain ⟨p, c, rfl⟩ := q.1.shape
        exact hn _ w' sm ⟨σ, _, ⟨p, c, rfl, rfl, rfl⟩, h4.app .head (q.1.weak (fun g _ hg => .inr hg)) q.2⟩) (fun _ _ _ q => q.elim)
    · exact (Wr.append hT hk hE hz (h3.own .head) hs (hh.ho.blk hg).rowAll hy (by omega) h1 (by omega) h63 hb).out d pos af gd a w next Q' he hw (fun v' w' sm q => by
        obtain ⟨p, c, rfl⟩ := q.1.shape
        exact hn _ w' sm ⟨σ, _, ⟨p, c, rfl, rfl, rfl⟩, h3.app .head q.1 q.2.1⟩) (fun _ _ _ q => q.elim)⟩⟩
theorem Ent.aliOf {Γ Γ' Δ : List HP} {e size n n0 : Nat} {v : Value} {p0 : Option Addr} {xs xs0 : List Value} (s : Sel Γ (lst e size v n xs) Γ') (h : Ent Γ' Δ) : Ent Γ (ali e size p0 n0 xs0 v n xs :: Δ) := Ent.imp s (fun _ hm => .inr hm) h
/-- A shorter list in the same block. -/
theorem lst_cut {e size n c k : Nat} {p : Option Addr} {xs : List Value} (hk : k ≤ n) : ∀ m, lst e size (.slice p n c) n xs m → lst e size (.slice p k k) k (xs.take (k * size)) m := by
  rintro m ⟨h1, h2⟩
  have hl : (xs.take (k * size)).length = k * size := by rw [List.length_take, h1]; exact Nat.min_eq_left (Nat.mul_le_mul_right _ hk)
  rcases h2 with ⟨h2, rfl⟩ | ⟨g, cap, h2, cur, h3, h4, h5, h6, h7⟩
  · simp only [Value.slice.injEq] at h2
    obtain ⟨rfl, -, rfl⟩ := h2
    have : k = 0 := by omega
    subst this
    exact ⟨hl, .inl ⟨rfl, rfl⟩⟩
  · simp only [Value.slice.injEq] at h2
    obtain ⟨rfl, -, rfl⟩ := h2
    refine ⟨hl, .inr ⟨g, k, rfl, cur, h3, Nat.le_refl _, by omega, Nat.le_trans (Nat.mul_le_mul_right _ (by omega)) h6, ?_⟩⟩
    rw [← h7, List.take_take, Nat.min_eq_left (Nat.mul_le_mul_right _ hk)]
theorem Ent.aliEnd {Γ Γ1 Γ2 Δ : List HP} {e size n c k n' : Nat} {p : Option Addr} {v : Value} {xs xs' : List Value} (s1 : Sel Γ (lst e size (.slice p n c) n xs) Γ1) (s2 : Sel Γ1 (ali e size p k (xs.take (k * size)) v n' xs') Γ2) (hk : k ≤ n) (h : Ent Γ2 Δ) : Ent Γ (lst e size v n' xs' :: Δ) := fun m x => by
  obtain ⟨m1, m2, a, b, d, i, j⟩ := s1.to x
  obtain ⟨m3, m4, a', b', d', i', j'⟩ := s2.to b
  rcases a' with ⟨rfl, rfl, rfl⟩ | a'
  · exact ⟨m1, m4, lst_cut hk _ a, h _ b', d.mono (.refl _) j', i, j'.trans j⟩
  · exact ⟨m3, m4, a', h _ b', d', i'.trans j, j'.trans j⟩
theorem lst_cap {e size n c : Nat} {p : Option Addr} {xs : List Value} : ∀ m, lst e size (.slice p n c) n xs m → n ≤ c ∧ c ≤ maxLen ∧ (p = none → n = 0) := by
  rintro m ⟨h1, ⟨h2, rfl⟩ | ⟨g, cap, h2, cur, h3, h4, h5, h6, h7⟩⟩
  · exact ⟨Nat.zero_le _, by simp only [Value.slice.injEq] at h2; rw [h2.2.2]; exact Nat.zero_le _, fun _ => rfl⟩
  · simp only [Value.slice.injEq] at h2
    obtain ⟨rfl, -, rfl⟩ := h2
    exact ⟨h4, h5, fun e => by cases e⟩
section
variable {P : Program} {ρ : Env} {S : Heap → Prop} {ty : TypeId}
theorem Rd.sliceTo3N {T : TypeId} {x y y' : Operand} {r re : Ty} {e len cap : Nat} {a : Option Addr} {i j : Nat} {kk kk' : IntKind} (hT : tyOf P T = some r) (hk : r.k = .slice e) (hE : tyOf P e = some re) (hx : ev ρ x = .slice a len cap) (hy : ev ρ y = .int kk i) (hy' : ev ρ y' = .int kk' j) (hi : i ≤ j) (hj : j ≤ cap) : Rd P ρ S (.slice T x none (some y) (some y')) ty (.slice a i j) := by
  have := Rd.sliceTo3 (P := P) (S := S) (ty := ty) hT hk hE hx hy hy' ⟨by omega, by omega⟩ (by omega)
  simpa using this
theorem Rd.sliceToN {T : TypeId} {x y : Operand} {r re : Ty} {e len cap : Nat} {a : Option Addr} {i : Nat} {kk : IntKind} (hT : tyOf P T = some r) (hk : r.k = .slice e) (hE : tyOf P e = some re) (hx : ev ρ x = .slice a len cap) (hy : ev ρ y = .int kk i) (hi : i ≤ cap) : Rd P ρ S (.slice T x none (some y) none) ty (.slice a i cap) := by
  have := Rd.sliceTo (P := P) (S := S) (ty := ty) hT hk hE hx hy ⟨by omega, by omega⟩
  simpa using this
end
end X
end Go.Proofs.Ytbbghdkndbpmmaa
