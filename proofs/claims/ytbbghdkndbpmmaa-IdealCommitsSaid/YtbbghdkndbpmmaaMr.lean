/- A slice is made. -/
import Derived.Test.YtbbghdkndbpmmaaU
namespace Go.Proofs.Ytbbghdkndbpmmaa
open Go X
set_option maxHeartbeats 1000000
section
variable {P : Program} {ρ : Env} {h : Heap} {ty : TypeId} {σ : PH} {Γ : List HP}
theorem Wr.makeSlice {T e n m : Nat} {x y : Operand} {kx ky : IntKind} {r re : Ty} (hT : tyOf P T = some r) (hk : r.k = .slice e) (hE : tyOf P e = some re) (hx : ev ρ x = .int kx n) (hy : ev ρ y = .int ky n) (hn : h.size = m) (hz : re.zero.length = re.size) (hb : re.bytes * n ≤ 16777216) (hs : n ≤ 16777216) (h0 : n * re.size ≠ 0) :
    Wr P ρ h (.makeSlice T x y) ty (fun v' h' => v' = .slice (some ⟨m, 0, none⟩) n n ∧ h' = h.push (.cells ((List.range (n * re.size)).map fun k => re.zero.getD (k % re.size) undef).toArray e (0, 0))) X.noP := by
  subst hn
  refine Wr.run fun d pos af gd w hw => ?_
  obtain ⟨dd, i, z, e1, e2, -⟩ := tyOf_spec hT
  obtain ⟨dd', i', z', e1', e2', e3', e4', e5', e6', e7'⟩ := tyOf_spec hE
  rw [hk] at e2
  cases dd <;> simp [kindOf] at e2
  rw [e2] at e1
  clear e2
  have hzs : z'.cells.size = re.size := by rw [← Array.length_toList, e7', hz]
  have hzero : (Array.range (n * re.size)).map (fun k => z'.cells[k % z'.cells.size]!) = ((List.range (n * re.size)).map fun k => re.zero.getD (k % re.size) undef).toArray := by
    apply Array.ext'
    simp only [Array.toList_map, Array.toList_range, hzs]
    apply List.map_congr_left
    intro k hk
    have hlt : k % re.size < re.size := Nat.mod_lt _ (by
      rcases Nat.eq_zero_or_pos re.size with h0 | h0
      · rw [h0, Nat.mul_zero] at hk; simp at hk
      · exact h0)
    rw [← e7']
    have hlt' : k % re.size < z'.cells.size := by rw [hzs]; exact hlt
    simp [getElem!_pos, hlt', List.getD_eq_getElem?_getD]
  have hwn : IntKind.i64.wrap (n : Int) = n := X.wrap64_in (by omega) (by omega)
  have hroom : ¬ (n * re.bytes > roomBytes) := by rw [Nat.mul_comm]; simp only [roomBytes]; omega
  have hbi : ¬ ((re.bytes : Int) * n > 2 ^ 48) := by
    have : ((re.bytes * n : Nat) : Int) ≤ 16777216 := by omega
    rw [Int.natCast_mul] at this
    omega
  refine ⟨_, w.alloc (.cells ((List.range (n * re.size)).map fun k => re.zero.getD (k % re.size) undef).toArray e (0, 0)), ?_, ⟨rfl, rfl, rfl⟩, rfl, by rw [← hw]; rfl⟩
  simp only [execOp, Instr.makeSlice, Sem.run_bind, run_underlying e1, Result.andThen_ok, sizeOf, typeInfo, run_program, e3', e4', e5', Sem.run_pure, zeroValue, e6', hx, hy, asInt, asIntOf, Result.andThen_ok, hwn]
  rw [if_neg (by simp; omega)]
  simp only [askRoom, if_neg hroom, Int.toNat_natCast, Sem.run_bind, Sem.run_pure, Result.andThen_ok, sizeOf, typeInfo, run_program, e3', e4', zeroValue, e6', if_neg h0]
  rw [hzero]
  simp [newRow, hw]
theorem X.WrA.mkS {T e n : Nat} {x y : Operand} {kx ky : IntKind} {r re : Ty} {zs : List Value} (hT : tyOf P T = some r) (hk : r.k = .slice e) (hE : tyOf P e = some re) (hx : ev ρ x = .int kx n) (hy : ev ρ y = .int ky n) (hz : re.zero.length = re.size) (hb : re.bytes * n ≤ 16777216) (hs : n ≤ 16777216) (h0 : n * re.size ≠ 0)
    (hzs : ((List.range (n * re.size)).map fun k => re.zero.getD (k % re.size) undef) = zs) : WrA P ρ σ Γ (.makeSlice T x y) ty (fun v' σ' Γ' => ∃ g, v' = .slice (some ⟨g, 0, none⟩) n n ∧ σ = σ' ∧ Γ' = blk g zs e :: Γ) noPA :=
  Wr.toA (Q := fun h v h' => v = .slice (some ⟨h.size, 0, none⟩) n n ∧ h' = h.push (cellsOf zs e)) (fun _ _ => by subst hzs; exact Wr.makeSlice hT hk hE hx hy rfl hz hb hs h0) fun f h v h' hh ⟨e1, e2⟩ => ⟨σ, _, ⟨h.size, e1, rfl, rfl⟩, e2 ▸ hh.alloc _ _⟩
end
end Go.Proofs.Ytbbghdkndbpmmaa
