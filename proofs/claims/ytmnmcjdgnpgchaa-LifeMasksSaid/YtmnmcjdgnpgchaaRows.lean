/-
  NARROWER THAN 'FOR EVERY INPUT', by the rows' own cells (each row's printed sentence says how): MachineWakes: loops · MachineDoes: loops · MachineTears: loops · MachineStops: loops · LifeCommits: loops · LifeMasks: loops · LifeAgain: loops.
  DERIVED. THE GIVEN ROWS OF THIS SEAT. 8 by the template 'for every input the law returns true; each argument reads behind the call as it read before'; 0 by the template 'total and deterministic' (their statements: YtmnmcjdgnpgchaaTotals.lean).
  GIVEN WITH THE SEED: the statements are not yours to turn. If you find one false, say at which input.
  Laid BY PROGRAM, IN A SANDBOX (cutbox-rows.mjs): the forced cells as the released guide's own fill.sh prints them over the translation 5913380708ebcd27… (all of the seat's roots in one cut). By AI agents, Wed Nov 11 2026. No macro, syntax, notation, axiom, sorry.
-/
import Derived.Test.YtmnmcjdgnpgchaaChecked
import GoSem.Claim
import GoSem.ClaimJoined
import GoSem.ClaimMapViews
import Derived.JoinedTies
import Derived.KernelRfl
namespace Go.Proofs.Ytmnmcjdgnpgchaa
/- THE CELL 'sum', in the pinned program and in every row, IS THE sha256 OF THE DUMP (.gsa) THAT YtmnmcjdgnpgchaaProg.lean LOADS. Nothing in Lean hashes anything: it is a label: what it is worth is what the hold of that sum in a sandbox is worth. -/
noncomputable def Try.pinned : Pinned := { name := "ytmnmcjdgnpgchaa", sum := "5913380708ebcd27dcd12b91d0417bac1b21132aebd0f9437e74d6d7bf0e3e9f", checked := Try.checked }
namespace Rows
def none {H : Type} : Left H := { results := [], args := [] }

/-- 'overwinterlaw.MachineWakes': WHATEVER THE INPUT: true; the input reads as it did. -/
def machineWakesSpec : ChangeSpec := { name := "machineWakes", fn := fun _ => fun
  | [d1, d2, d3, d4] => { results := [.lit (.bool true)], args := [d1, d2, d3, d4] }
  | _ => none }
def machineWakesRow : OpenClaim := { program := "ytmnmcjdgnpgchaa", sum := "5913380708ebcd27dcd12b91d0417bac1b21132aebd0f9437e74d6d7bf0e3e9f", func := "overwinter/overwinterlaw.MachineWakes", spec := "machineWakes", unfollowed := true, recurses := true, loops := true, apart := false }
def MachineWakesSaid : Prop := machineWakesRow.holds Try.pinned (OpenSpec.ofChange machineWakesSpec)

/-- ITS FALSE NEIGHBOUR: 'it returns false'. Refute it at one input. -/
def machineWakesWrong : ChangeSpec := { name := "machineWakes", fn := fun _ => fun
  | [d1, d2, d3, d4] => { results := [.lit (.bool false)], args := [d1, d2, d3, d4] }
  | _ => none }
def MachineWakesWrongFalsely : Prop := machineWakesRow.holds Try.pinned (OpenSpec.ofChange machineWakesWrong)

/-- 'overwinterlaw.MachinePrints': WHATEVER THE INPUT: true; the input reads as it did. -/
def machinePrintsSpec : ChangeSpec := { name := "machinePrints", fn := fun _ => fun
  | [d] => { results := [.lit (.bool true)], args := [d] }
  | _ => none }
def machinePrintsRow : OpenClaim := { program := "ytmnmcjdgnpgchaa", sum := "5913380708ebcd27dcd12b91d0417bac1b21132aebd0f9437e74d6d7bf0e3e9f", func := "overwinter/overwinterlaw.MachinePrints", spec := "machinePrints", unfollowed := true, recurses := true, apart := false }
def MachinePrintsSaid : Prop := machinePrintsRow.holds Try.pinned (OpenSpec.ofChange machinePrintsSpec)

/-- ITS FALSE NEIGHBOUR: 'it returns false'. Refute it at one input. -/
def machinePrintsWrong : ChangeSpec := { name := "machinePrints", fn := fun _ => fun
  | [d] => { results := [.lit (.bool false)], args := [d] }
  | _ => none }
def MachinePrintsWrongFalsely : Prop := machinePrintsRow.holds Try.pinned (OpenSpec.ofChange machinePrintsWrong)

/-- 'overwinterlaw.MachineDoes': WHATEVER THE INPUT: true; the input reads as it did. -/
def machineDoesSpec : ChangeSpec := { name := "machineDoes", fn := fun _ => fun
  | [d1, d2, d3] => { results := [.lit (.bool true)], args := [d1, d2, d3] }
  | _ => none }
def machineDoesRow : OpenClaim := { program := "ytmnmcjdgnpgchaa", sum := "5913380708ebcd27dcd12b91d0417bac1b21132aebd0f9437e74d6d7bf0e3e9f", func := "overwinter/overwinterlaw.MachineDoes", spec := "machineDoes", unfollowed := true, recurses := true, loops := true, apart := false }
def MachineDoesSaid : Prop := machineDoesRow.holds Try.pinned (OpenSpec.ofChange machineDoesSpec)

/-- ITS FALSE NEIGHBOUR: 'it returns false'. Refute it at one input. -/
def machineDoesWrong : ChangeSpec := { name := "machineDoes", fn := fun _ => fun
  | [d1, d2, d3] => { results := [.lit (.bool false)], args := [d1, d2, d3] }
  | _ => none }
def MachineDoesWrongFalsely : Prop := machineDoesRow.holds Try.pinned (OpenSpec.ofChange machineDoesWrong)

/-- 'overwinterlaw.MachineTears': WHATEVER THE INPUT: true; the input reads as it did. -/
def machineTearsSpec : ChangeSpec := { name := "machineTears", fn := fun _ => fun
  | [d1, d2, d3, d4] => { results := [.lit (.bool true)], args := [d1, d2, d3, d4] }
  | _ => none }
def machineTearsRow : OpenClaim := { program := "ytmnmcjdgnpgchaa", sum := "5913380708ebcd27dcd12b91d0417bac1b21132aebd0f9437e74d6d7bf0e3e9f", func := "overwinter/overwinterlaw.MachineTears", spec := "machineTears", unfollowed := true, recurses := true, loops := true, apart := false }
def MachineTearsSaid : Prop := machineTearsRow.holds Try.pinned (OpenSpec.ofChange machineTearsSpec)

/-- ITS FALSE NEIGHBOUR: 'it returns false'. Refute it at one input. -/
def machineTearsWrong : ChangeSpec := { name := "machineTears", fn := fun _ => fun
  | [d1, d2, d3, d4] => { results := [.lit (.bool false)], args := [d1, d2, d3, d4] }
  | _ => none }
def MachineTearsWrongFalsely : Prop := machineTearsRow.holds Try.pinned (OpenSpec.ofChange machineTearsWrong)

/-- 'overwinterlaw.MachineStops': WHATEVER THE INPUT: true; the input reads as it did. -/
def machineStopsSpec : ChangeSpec := { name := "machineStops", fn := fun _ => fun
  | [d1, d2, d3] => { results := [.lit (.bool true)], args := [d1, d2, d3] }
  | _ => none }
def machineStopsRow : OpenClaim := { program := "ytmnmcjdgnpgchaa", sum := "5913380708ebcd27dcd12b91d0417bac1b21132aebd0f9437e74d6d7bf0e3e9f", func := "overwinter/overwinterlaw.MachineStops", spec := "machineStops", unfollowed := true, recurses := true, loops := true, apart := false }
def MachineStopsSaid : Prop := machineStopsRow.holds Try.pinned (OpenSpec.ofChange machineStopsSpec)

/-- ITS FALSE NEIGHBOUR: 'it returns false'. Refute it at one input. -/
def machineStopsWrong : ChangeSpec := { name := "machineStops", fn := fun _ => fun
  | [d1, d2, d3] => { results := [.lit (.bool false)], args := [d1, d2, d3] }
  | _ => none }
def MachineStopsWrongFalsely : Prop := machineStopsRow.holds Try.pinned (OpenSpec.ofChange machineStopsWrong)

/-- 'overwinterlaw.LifeCommits': WHATEVER THE INPUT: true; the input reads as it did. -/
def lifeCommitsSpec : ChangeSpec := { name := "lifeCommits", fn := fun _ => fun
  | [d1, d2, d3, d4, d5] => { results := [.lit (.bool true)], args := [d1, d2, d3, d4, d5] }
  | _ => none }
def lifeCommitsRow : OpenClaim := { program := "ytmnmcjdgnpgchaa", sum := "5913380708ebcd27dcd12b91d0417bac1b21132aebd0f9437e74d6d7bf0e3e9f", func := "overwinter/overwinterlaw.LifeCommits", spec := "lifeCommits", unfollowed := true, recurses := true, loops := true, apart := false }
def LifeCommitsSaid : Prop := lifeCommitsRow.holds Try.pinned (OpenSpec.ofChange lifeCommitsSpec)

/-- ITS FALSE NEIGHBOUR: 'it returns false'. Refute it at one input. -/
def lifeCommitsWrong : ChangeSpec := { name := "lifeCommits", fn := fun _ => fun
  | [d1, d2, d3, d4, d5] => { results := [.lit (.bool false)], args := [d1, d2, d3, d4, d5] }
  | _ => none }
def LifeCommitsWrongFalsely : Prop := lifeCommitsRow.holds Try.pinned (OpenSpec.ofChange lifeCommitsWrong)

/-- 'overwinterlaw.LifeMasks': WHATEVER THE INPUT: true; the input reads as it did. -/
def lifeMasksSpec : ChangeSpec := { name := "lifeMasks", fn := fun _ => fun
  | [d1, d2, d3, d4, d5] => { results := [.lit (.bool true)], args := [d1, d2, d3, d4, d5] }
  | _ => none }
def lifeMasksRow : OpenClaim := { program := "ytmnmcjdgnpgchaa", sum := "5913380708ebcd27dcd12b91d0417bac1b21132aebd0f9437e74d6d7bf0e3e9f", func := "overwinter/overwinterlaw.LifeMasks", spec := "lifeMasks", unfollowed := true, recurses := true, loops := true, apart := false }
def LifeMasksSaid : Prop := lifeMasksRow.holds Try.pinned (OpenSpec.ofChange lifeMasksSpec)

/-- ITS FALSE NEIGHBOUR: 'it returns false'. Refute it at one input. -/
def lifeMasksWrong : ChangeSpec := { name := "lifeMasks", fn := fun _ => fun
  | [d1, d2, d3, d4, d5] => { results := [.lit (.bool false)], args := [d1, d2, d3, d4, d5] }
  | _ => none }
def LifeMasksWrongFalsely : Prop := lifeMasksRow.holds Try.pinned (OpenSpec.ofChange lifeMasksWrong)

/-- 'overwinterlaw.LifeAgain': WHATEVER THE INPUT: true; the input reads as it did. -/
def lifeAgainSpec : ChangeSpec := { name := "lifeAgain", fn := fun _ => fun
  | [d1, d2, d3, d4, d5] => { results := [.lit (.bool true)], args := [d1, d2, d3, d4, d5] }
  | _ => none }
def lifeAgainRow : OpenClaim := { program := "ytmnmcjdgnpgchaa", sum := "5913380708ebcd27dcd12b91d0417bac1b21132aebd0f9437e74d6d7bf0e3e9f", func := "overwinter/overwinterlaw.LifeAgain", spec := "lifeAgain", unfollowed := true, recurses := true, loops := true, apart := false }
def LifeAgainSaid : Prop := lifeAgainRow.holds Try.pinned (OpenSpec.ofChange lifeAgainSpec)

/-- ITS FALSE NEIGHBOUR: 'it returns false'. Refute it at one input. -/
def lifeAgainWrong : ChangeSpec := { name := "lifeAgain", fn := fun _ => fun
  | [d1, d2, d3, d4, d5] => { results := [.lit (.bool false)], args := [d1, d2, d3, d4, d5] }
  | _ => none }
def LifeAgainWrongFalsely : Prop := lifeAgainRow.holds Try.pinned (OpenSpec.ofChange lifeAgainWrong)

/- THE SECOND FORM. 'bulk': how many values and letters a reading holds, each counted each time it is reached (what is shared counts as often as it is met; a slice's spare places count too). A statement '..UptoSaid' is the law's where the arguments, and the package variables that the reading takes, are together of bulk at most 1048576: NARROWER than '..Said'. Prove '..Said' where nothing that the law and all that it calls make is longer than what came in: it says more and counts as full. Else prove '..UptoSaid'. A law counts once. -/
mutual
def uptoBulk {H : Type} : DataW H → Nat
  | .lit (.string bytes) => bytes.length + 1
  | .lit _ => 1
  | .nil => 1
  | .ptr d => uptoBulk d + 1
  | .slice elems spare => uptoBulkAll elems + uptoBulkAll spare + 1
  | .agg parts => uptoBulkAll parts + 1
  | .iface _ d => uptoBulk d + 1
  | .map entries => uptoBulkEntries entries + 1
  | .held _ => 1
def uptoBulkAll {H : Type} : List (DataW H) → Nat
  | [] => 0
  | d :: r => uptoBulk d + uptoBulkAll r
def uptoBulkEntries {H : Type} : List (Lit × DataW H) → Nat
  | [] => 0
  | x :: r => uptoBulkEntry x + uptoBulkEntries r
def uptoBulkEntry {H : Type} : Lit × DataW H → Nat
  | (.string bytes, d) => bytes.length + uptoBulk d + 1
  | (_, d) => uptoBulk d + 1
 end
def uptoSmall : (H : Type) → List (DataW H) → Bool := fun _ ds => decide (uptoBulkAll ds ≤ 1048576)
def OpenSpec.upto (s : _root_.Go.ChangeSpec) : _root_.Go.OpenSpec := { _root_.Go.OpenSpec.ofChange s with cond := some uptoSmall }

/-- 'overwinterlaw.MachineWakes', WHERE WHAT IT READS IS OF BULK AT MOST 1048576: true; the input reads as it did. -/
def machineWakesUptoRow : OpenClaim := { program := "ytmnmcjdgnpgchaa", sum := "5913380708ebcd27dcd12b91d0417bac1b21132aebd0f9437e74d6d7bf0e3e9f", func := "overwinter/overwinterlaw.MachineWakes", spec := "machineWakes", unfollowed := true, recurses := true, loops := true, apart := false, narrowed := true }
def MachineWakesUptoSaid : Prop := machineWakesUptoRow.holds Try.pinned (OpenSpec.upto machineWakesSpec)

/-- 'overwinterlaw.MachinePrints', WHERE WHAT IT READS IS OF BULK AT MOST 1048576: true; the input reads as it did. -/
def machinePrintsUptoRow : OpenClaim := { program := "ytmnmcjdgnpgchaa", sum := "5913380708ebcd27dcd12b91d0417bac1b21132aebd0f9437e74d6d7bf0e3e9f", func := "overwinter/overwinterlaw.MachinePrints", spec := "machinePrints", unfollowed := true, recurses := true, apart := false, narrowed := true }
def MachinePrintsUptoSaid : Prop := machinePrintsUptoRow.holds Try.pinned (OpenSpec.upto machinePrintsSpec)

/-- 'overwinterlaw.MachineDoes', WHERE WHAT IT READS IS OF BULK AT MOST 1048576: true; the input reads as it did. -/
def machineDoesUptoRow : OpenClaim := { program := "ytmnmcjdgnpgchaa", sum := "5913380708ebcd27dcd12b91d0417bac1b21132aebd0f9437e74d6d7bf0e3e9f", func := "overwinter/overwinterlaw.MachineDoes", spec := "machineDoes", unfollowed := true, recurses := true, loops := true, apart := false, narrowed := true }
def MachineDoesUptoSaid : Prop := machineDoesUptoRow.holds Try.pinned (OpenSpec.upto machineDoesSpec)

/-- 'overwinterlaw.MachineTears', WHERE WHAT IT READS IS OF BULK AT MOST 1048576: true; the input reads as it did. -/
def machineTearsUptoRow : OpenClaim := { program := "ytmnmcjdgnpgchaa", sum := "5913380708ebcd27dcd12b91d0417bac1b21132aebd0f9437e74d6d7bf0e3e9f", func := "overwinter/overwinterlaw.MachineTears", spec := "machineTears", unfollowed := true, recurses := true, loops := true, apart := false, narrowed := true }
def MachineTearsUptoSaid : Prop := machineTearsUptoRow.holds Try.pinned (OpenSpec.upto machineTearsSpec)

/-- 'overwinterlaw.MachineStops', WHERE WHAT IT READS IS OF BULK AT MOST 1048576: true; the input reads as it did. -/
def machineStopsUptoRow : OpenClaim := { program := "ytmnmcjdgnpgchaa", sum := "5913380708ebcd27dcd12b91d0417bac1b21132aebd0f9437e74d6d7bf0e3e9f", func := "overwinter/overwinterlaw.MachineStops", spec := "machineStops", unfollowed := true, recurses := true, loops := true, apart := false, narrowed := true }
def MachineStopsUptoSaid : Prop := machineStopsUptoRow.holds Try.pinned (OpenSpec.upto machineStopsSpec)

/-- 'overwinterlaw.LifeCommits', WHERE WHAT IT READS IS OF BULK AT MOST 1048576: true; the input reads as it did. -/
def lifeCommitsUptoRow : OpenClaim := { program := "ytmnmcjdgnpgchaa", sum := "5913380708ebcd27dcd12b91d0417bac1b21132aebd0f9437e74d6d7bf0e3e9f", func := "overwinter/overwinterlaw.LifeCommits", spec := "lifeCommits", unfollowed := true, recurses := true, loops := true, apart := false, narrowed := true }
def LifeCommitsUptoSaid : Prop := lifeCommitsUptoRow.holds Try.pinned (OpenSpec.upto lifeCommitsSpec)

/-- 'overwinterlaw.LifeMasks', WHERE WHAT IT READS IS OF BULK AT MOST 1048576: true; the input reads as it did. -/
def lifeMasksUptoRow : OpenClaim := { program := "ytmnmcjdgnpgchaa", sum := "5913380708ebcd27dcd12b91d0417bac1b21132aebd0f9437e74d6d7bf0e3e9f", func := "overwinter/overwinterlaw.LifeMasks", spec := "lifeMasks", unfollowed := true, recurses := true, loops := true, apart := false, narrowed := true }
def LifeMasksUptoSaid : Prop := lifeMasksUptoRow.holds Try.pinned (OpenSpec.upto lifeMasksSpec)

/-- 'overwinterlaw.LifeAgain', WHERE WHAT IT READS IS OF BULK AT MOST 1048576: true; the input reads as it did. -/
def lifeAgainUptoRow : OpenClaim := { program := "ytmnmcjdgnpgchaa", sum := "5913380708ebcd27dcd12b91d0417bac1b21132aebd0f9437e74d6d7bf0e3e9f", func := "overwinter/overwinterlaw.LifeAgain", spec := "lifeAgain", unfollowed := true, recurses := true, loops := true, apart := false, narrowed := true }
def LifeAgainUptoSaid : Prop := lifeAgainUptoRow.holds Try.pinned (OpenSpec.upto lifeAgainSpec)

end Rows
end Go.Proofs.Ytmnmcjdgnpgchaa
