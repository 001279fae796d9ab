/- Rules for strings, for max and min, and for a variable held against a variable. -/
import Derived.Test.YtbbghdkndbpmmaaPg
import Derived.Laws.Strings
import Derived.Laws.StructEq
import Derived.Laws.Small
namespace Go.Proofs.Ytbbghdkndbpmmaa
namespace X
open Go
variable {P : Program} {ρ : Env} {S : Heap → Prop} {ty : TypeId}
/-- The byte at a place. -/
def byteAt (s : ByteArray) (i : Nat) : Nat := if h : i < s.size then (s[i]'h).toNat else 0
theorem byteAt_lt (s : ByteArray) (i : Nat) : byteAt s i < 256 := by
  unfold byteAt; split
  · exact UInt8.toNat_lt _
  · decide
theorem Rd.indexStr {T : TypeId} {x y : Operand} {r : Ty} {s : ByteArray} {i : Nat} {kk : IntKind} (hT : tyOf P T = some r) (hk : r.k = .string) (hx : ev ρ x = .string s) (hy : ev ρ y = .int kk i) (hi : i < s.size) : Rd P ρ S (.index T x y) ty (.int .u8 (byteAt s i)) := by
  refine .pure fun d pos af gd w => ?_
  obtain ⟨dd, ii, z, e1, e2, -⟩ := tyOf_spec hT
  rw [hk] at e2
  cases dd <;> simp [kindOf] at e2
  have h := run_index_string (P := P) w T s kk i e1
  rw [dif_pos ⟨by omega, by omega⟩] at h
  simp only [execOp, hx, hy, Sem.run_bind, h, Result.andThen_ok, Sem.run_pure, byteAt, hi, dif_pos, Int.toNat_natCast]
theorem str_eq (a b : ByteArray) : (a.toList == b.toList) = decide (a = b) := by
  rw [ByteArray.toList_eq, ByteArray.toList_eq]
  obtain ⟨⟨x⟩⟩ := a
  obtain ⟨⟨y⟩⟩ := b
  by_cases h : x = y
  · subst h; simp
  · simp [h]
theorem Rd.eqls {T T' : TypeId} {x y : Operand} {a b : ByteArray} (hx : ev ρ x = .string a) (hy : ev ρ y = .string b) : Rd P ρ S (.binOp .eql T x y T') ty (.bool (decide (a = b))) := by
  refine .pure fun d pos af gd w => ?_
  simp only [execOp, eqGuard, hx, hy, binOp, Op.stringOp, Sem.run_bind, str_eq]
  simp
theorem Rd.neqs {T T' : TypeId} {x y : Operand} {a b : ByteArray} (hx : ev ρ x = .string a) (hy : ev ρ y = .string b) : Rd P ρ S (.binOp .neq T x y T') ty (.bool (decide (a ≠ b))) := by
  refine .pure fun d pos af gd w => ?_
  simp only [execOp, eqGuard, hx, hy, binOp, Op.stringOp, Sem.run_bind, str_eq]
  by_cases h : a = b <;> simp [h]
theorem Rd.max2 {x y : Operand} {a b : Int} {ats : Array TypeId} (hx : ev ρ x = i64 a) (hy : ev ρ y = i64 b) : Rd P ρ S (.call { callee := .builtin .max, args := #[x, y], argTypes := ats }) ty (i64 (if b > a then b else a)) := by
  refine .pure fun d pos af gd w => ?_
  simp [execOp, resolve, invoke, builtin, hx, hy, run_max_int2]
theorem Rd.min2 {x y : Operand} {a b : Int} {ats : Array TypeId} (hx : ev ρ x = i64 a) (hy : ev ρ y = i64 b) : Rd P ρ S (.call { callee := .builtin .min, args := #[x, y], argTypes := ats }) ty (i64 (if b < a then b else a)) := by
  refine .pure fun d pos af gd w => ?_
  simp [execOp, resolve, invoke, builtin, hx, hy, run_min_int2]
/-- A variable. -/
def vav (v : Va) : Value := .agg [.string v.name, i64 v.size].toArray
theorem run_equal_var {a b : Va} (w : World) : (Op.equalIn 10000 37 (vav a) (vav b)).run Try.prog w = .ok (decide (a = b)) w := by
  have hT : tyOf Try.prog 9 = some _ := tyrow rfl
  have hI : tyOf Try.prog 3 = some _ := tyrow rfl
  obtain ⟨dd, ii, z, e1, e2, -⟩ := tyOf_spec hT
  obtain ⟨dd', ii', z', e1', e2', -⟩ := tyOf_spec hI
  cases dd <;> simp [kindOf, ty9] at e2
  cases dd' <;> simp [kindOf, ty3] at e2'
  have hu : Try.prog.underlying 37 = some (.struct (Try.prog.fieldsOf 37)) := by kernel_rfl
  have hf : (Try.prog.fieldsOf 37).toList.map (fun f => (f.name, f.type, f.offset)) = [("Name", 9, 0), ("Size", 3, 1)] := by kernel_rfl
  obtain ⟨f1, f2, hf2⟩ := list2 (l := (Try.prog.fieldsOf 37).toList) (by simpa using congrArg List.length hf)
  rw [hf2] at hf
  simp only [List.map_cons, List.map_nil, List.cons.injEq, Prod.mk.injEq, and_true] at hf
  obtain ⟨⟨n1, t1, o1⟩, n2, t2, o2⟩ := hf
  rw [vav, vav, run_equalIn_agg w 9999 _ _ _ hu (by kernel_rfl), hf2]
  have ha : ∀ (w : World), (isAgg 9).run Try.prog w = .ok false w := fun w => by unfold isAgg; rw [Sem.run_bind, run_underlying e1 w]; rfl
  have hb : ∀ (w : World), (isAgg 3).run Try.prog w = .ok false w := fun w => by unfold isAgg; rw [Sem.run_bind, run_underlying e1' w]; rfl
  have q1 := run_equalIn_string (P := Try.prog) w 9998 9 a.name b.name e1
  have q2 := run_equalIn_int (P := Try.prog) w 9998 3 .i64 _ a.size b.size e1'
  simp [Op.eqFields, part, ha, hb, q1, q2, str_eq, n1, n2, t1, t2, o1, o2]
  obtain ⟨an, az⟩ := a
  obtain ⟨bn, bz⟩ := b
  by_cases h1 : an = bn
  · by_cases h2 : az = bz <;> simp [h1, h2]
  · simp [h1]
theorem Rd.eqlVar {T' : TypeId} {x y : Operand} {a b : Va} (hx : ev ρ x = vav a) (hy : ev ρ y = vav b) : Rd Try.prog ρ S (.binOp .eql 37 x y T') ty (.bool (decide (a = b))) := by
  refine .pure fun d pos af gd w => ?_
  have h2 : (eqGuard .eql 37 x y (vav a) (vav b)).run Try.prog w = .ok () w := run_eqGuard_agg w _ _ _ _ _ _ (by kernel_rfl)
  have h3 : (binOp .eql 37 (vav a) (vav b)).run Try.prog w = .ok (.bool (decide (a = b))) w := by
    rw [vav, vav, run_eql_struct]
    have := run_equal_var (a := a) (b := b) w
    rw [vav, vav] at this
    rw [this]; rfl
  simp only [execOp, hx, hy, Sem.run_bind, h2, h3, Result.andThen_ok, Sem.run_pure]
theorem Rd.neqVar {T' : TypeId} {x y : Operand} {a b : Va} (hx : ev ρ x = vav a) (hy : ev ρ y = vav b) : Rd Try.prog ρ S (.binOp .neq 37 x y T') ty (.bool (decide (a ≠ b))) := by
  refine .pure fun d pos af gd w => ?_
  have h2 : (eqGuard .neq 37 x y (vav a) (vav b)).run Try.prog w = .ok () w := run_eqGuard_agg w _ _ _ _ _ _ (by kernel_rfl)
  have h3 : (binOp .neq 37 (vav a) (vav b)).run Try.prog w = .ok (.bool (decide (a ≠ b))) w := by
    rw [vav, vav, run_neq_struct]
    have := run_equal_var (a := a) (b := b) w
    rw [vav, vav] at this
    rw [this]
    by_cases h : a = b <;> simp [h]
  simp only [execOp, hx, hy, Sem.run_bind, h2, h3, Result.andThen_ok, Sem.run_pure]
end X
end Go.Proofs.Ytbbghdkndbpmmaa
