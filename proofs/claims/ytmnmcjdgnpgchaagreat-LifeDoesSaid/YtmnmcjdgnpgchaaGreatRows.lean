/-
  NARROWER THAN 'FOR EVERY INPUT', by the rows' own cells (each row's printed sentence says how): LifeDoes: loops · LifeSame: loops · LifePrints: loops.
  DERIVED. THE GIVEN ROWS OF THIS SEAT. 3 by the template 'for every input the law returns true; each argument reads behind the call as it read before'; 0 by the template 'total and deterministic' (their statements: YtmnmcjdgnpgchaaGreatTotals.lean).
  GIVEN WITH THE SEED: the statements are not yours to turn. If you find one false, say at which input.
  Laid BY PROGRAM, IN A SANDBOX (cutbox-rows.mjs): the forced cells as the released guide's own fill.sh prints them over the translation b164c624bb3948e8… (all of the seat's roots in one cut). By AI agents, Wed Nov 11 2026. No macro, syntax, notation, axiom, sorry.
-/
import Derived.Test.YtmnmcjdgnpgchaaGreatChecked
import GoSem.Claim
import GoSem.ClaimJoined
import GoSem.ClaimMapViews
import Derived.JoinedTies
import Derived.KernelRfl
namespace Go.Proofs.YtmnmcjdgnpgchaaGreat
/- THE CELL 'sum', in the pinned program and in every row, IS THE sha256 OF THE DUMP (.gsa) THAT YtmnmcjdgnpgchaaGreatProg.lean LOADS. Nothing in Lean hashes anything: it is a label: what it is worth is what the hold of that sum in a sandbox is worth. -/
noncomputable def Tryz.pinned : Pinned := { name := "ytmnmcjdgnpgchaagreat", sum := "b164c624bb3948e834e3e29999ac22d311eae3d5fdc6f895dc4e9c47633b4ace", checked := Tryz.checked }
namespace Rows
def none {H : Type} : Left H := { results := [], args := [] }

/-- 'overwinterlaw.LifeDoes': WHATEVER THE INPUT: true; the input reads as it did. -/
def lifeDoesSpec : ChangeSpec := { name := "lifeDoes", fn := fun _ => fun
  | [d1, d2, d3, d4] => { results := [.lit (.bool true)], args := [d1, d2, d3, d4] }
  | _ => none }
def lifeDoesRow : OpenClaim := { program := "ytmnmcjdgnpgchaagreat", sum := "b164c624bb3948e834e3e29999ac22d311eae3d5fdc6f895dc4e9c47633b4ace", func := "overwinter/overwinterlaw.LifeDoes", spec := "lifeDoes", unfollowed := true, recurses := true, loops := true, apart := false }
def LifeDoesSaid : Prop := lifeDoesRow.holds Tryz.pinned (OpenSpec.ofChange lifeDoesSpec)

/-- ITS FALSE NEIGHBOUR: 'it returns false'. Refute it at one input. -/
def lifeDoesWrong : ChangeSpec := { name := "lifeDoes", fn := fun _ => fun
  | [d1, d2, d3, d4] => { results := [.lit (.bool false)], args := [d1, d2, d3, d4] }
  | _ => none }
def LifeDoesWrongFalsely : Prop := lifeDoesRow.holds Tryz.pinned (OpenSpec.ofChange lifeDoesWrong)

/-- 'overwinterlaw.LifeSame': WHATEVER THE INPUT: true; the input reads as it did. -/
def lifeSameSpec : ChangeSpec := { name := "lifeSame", fn := fun _ => fun
  | [d1, d2, d3] => { results := [.lit (.bool true)], args := [d1, d2, d3] }
  | _ => none }
def lifeSameRow : OpenClaim := { program := "ytmnmcjdgnpgchaagreat", sum := "b164c624bb3948e834e3e29999ac22d311eae3d5fdc6f895dc4e9c47633b4ace", func := "overwinter/overwinterlaw.LifeSame", spec := "lifeSame", unfollowed := true, recurses := true, loops := true, apart := false }
def LifeSameSaid : Prop := lifeSameRow.holds Tryz.pinned (OpenSpec.ofChange lifeSameSpec)

/-- ITS FALSE NEIGHBOUR: 'it returns false'. Refute it at one input. -/
def lifeSameWrong : ChangeSpec := { name := "lifeSame", fn := fun _ => fun
  | [d1, d2, d3] => { results := [.lit (.bool false)], args := [d1, d2, d3] }
  | _ => none }
def LifeSameWrongFalsely : Prop := lifeSameRow.holds Tryz.pinned (OpenSpec.ofChange lifeSameWrong)

/-- 'overwinterlaw.LifePrints': WHATEVER THE INPUT: true; the input reads as it did. -/
def lifePrintsSpec : ChangeSpec := { name := "lifePrints", fn := fun _ => fun
  | [d1, d2, d3] => { results := [.lit (.bool true)], args := [d1, d2, d3] }
  | _ => none }
def lifePrintsRow : OpenClaim := { program := "ytmnmcjdgnpgchaagreat", sum := "b164c624bb3948e834e3e29999ac22d311eae3d5fdc6f895dc4e9c47633b4ace", func := "overwinter/overwinterlaw.LifePrints", spec := "lifePrints", unfollowed := true, recurses := true, loops := true, apart := false }
def LifePrintsSaid : Prop := lifePrintsRow.holds Tryz.pinned (OpenSpec.ofChange lifePrintsSpec)

/-- ITS FALSE NEIGHBOUR: 'it returns false'. Refute it at one input. -/
def lifePrintsWrong : ChangeSpec := { name := "lifePrints", fn := fun _ => fun
  | [d1, d2, d3] => { results := [.lit (.bool false)], args := [d1, d2, d3] }
  | _ => none }
def LifePrintsWrongFalsely : Prop := lifePrintsRow.holds Tryz.pinned (OpenSpec.ofChange lifePrintsWrong)

/- THE SECOND FORM. 'bulk': how many values and letters a reading holds, each counted each time it is reached (what is shared counts as often as it is met; a slice's spare places count too). A statement '..UptoSaid' is the law's where the arguments, and the package variables that the reading takes, are together of bulk at most 1048576: NARROWER than '..Said'. Prove '..Said' where nothing that the law and all that it calls make is longer than what came in: it says more and counts as full. Else prove '..UptoSaid'. A law counts once. -/
mutual
def uptoBulk {H : Type} : DataW H → Nat
  | .lit (.string bytes) => bytes.length + 1
  | .lit _ => 1
  | .nil => 1
  | .ptr d => uptoBulk d + 1
  | .slice elems spare => uptoBulkAll elems + uptoBulkAll spare + 1
  | .agg parts => uptoBulkAll parts + 1
  | .iface _ d => uptoBulk d + 1
  | .map entries => uptoBulkEntries entries + 1
  | .held _ => 1
def uptoBulkAll {H : Type} : List (DataW H) → Nat
  | [] => 0
  | d :: r => uptoBulk d + uptoBulkAll r
def uptoBulkEntries {H : Type} : List (Lit × DataW H) → Nat
  | [] => 0
  | x :: r => uptoBulkEntry x + uptoBulkEntries r
def uptoBulkEntry {H : Type} : Lit × DataW H → Nat
  | (.string bytes, d) => bytes.length + uptoBulk d + 1
  | (_, d) => uptoBulk d + 1
 end
def uptoSmall : (H : Type) → List (DataW H) → Bool := fun _ ds => decide (uptoBulkAll ds ≤ 1048576)
def OpenSpec.upto (s : _root_.Go.ChangeSpec) : _root_.Go.OpenSpec := { _root_.Go.OpenSpec.ofChange s with cond := some uptoSmall }

/-- 'overwinterlaw.LifeDoes', WHERE WHAT IT READS IS OF BULK AT MOST 1048576: true; the input reads as it did. -/
def lifeDoesUptoRow : OpenClaim := { program := "ytmnmcjdgnpgchaagreat", sum := "b164c624bb3948e834e3e29999ac22d311eae3d5fdc6f895dc4e9c47633b4ace", func := "overwinter/overwinterlaw.LifeDoes", spec := "lifeDoes", unfollowed := true, recurses := true, loops := true, apart := false, narrowed := true }
def LifeDoesUptoSaid : Prop := lifeDoesUptoRow.holds Tryz.pinned (OpenSpec.upto lifeDoesSpec)

/-- 'overwinterlaw.LifeSame', WHERE WHAT IT READS IS OF BULK AT MOST 1048576: true; the input reads as it did. -/
def lifeSameUptoRow : OpenClaim := { program := "ytmnmcjdgnpgchaagreat", sum := "b164c624bb3948e834e3e29999ac22d311eae3d5fdc6f895dc4e9c47633b4ace", func := "overwinter/overwinterlaw.LifeSame", spec := "lifeSame", unfollowed := true, recurses := true, loops := true, apart := false, narrowed := true }
def LifeSameUptoSaid : Prop := lifeSameUptoRow.holds Tryz.pinned (OpenSpec.upto lifeSameSpec)

/-- 'overwinterlaw.LifePrints', WHERE WHAT IT READS IS OF BULK AT MOST 1048576: true; the input reads as it did. -/
def lifePrintsUptoRow : OpenClaim := { program := "ytmnmcjdgnpgchaagreat", sum := "b164c624bb3948e834e3e29999ac22d311eae3d5fdc6f895dc4e9c47633b4ace", func := "overwinter/overwinterlaw.LifePrints", spec := "lifePrints", unfollowed := true, recurses := true, loops := true, apart := false, narrowed := true }
def LifePrintsUptoSaid : Prop := lifePrintsUptoRow.holds Tryz.pinned (OpenSpec.upto lifePrintsSpec)

end Rows
end Go.Proofs.YtmnmcjdgnpgchaaGreat
