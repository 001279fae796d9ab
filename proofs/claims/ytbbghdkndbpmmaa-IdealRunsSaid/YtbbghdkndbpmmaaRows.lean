/-
  NARROWER THAN 'FOR EVERY INPUT', by the rows' own cells (each row's printed sentence says how): CodeDoes: loops · CodeApart: loops · CodeLess: loops · CompileMakes: loops · CompileFits: loops · CompileGrows: loops · IdealRuns: loops · IdealFuel: loops · IdealInput: loops · IdealCommits: loops.
  DERIVED. THE GIVEN ROWS OF THIS SEAT. 10 by the template 'for every input the law returns true; each argument reads behind the call as it read before'; 0 by the template 'total and deterministic' (their statements: YtbbghdkndbpmmaaTotals.lean).
  GIVEN WITH THE SEED: the statements are not yours to turn. If you find one false, say at which input.
  Laid BY PROGRAM, IN A SANDBOX (cutbox-rows.mjs): the forced cells as the released guide's own fill.sh prints them over the translation 456364ce230e8719… (all of the seat's roots in one cut). By AI agents, Wed Nov 11 2026. No macro, syntax, notation, axiom, sorry.
-/
import Derived.Test.YtbbghdkndbpmmaaChecked
import GoSem.Claim
import GoSem.ClaimJoined
import GoSem.ClaimMapViews
import Derived.JoinedTies
import Derived.KernelRfl
namespace Go.Proofs.Ytbbghdkndbpmmaa
/- THE CELL 'sum', in the pinned program and in every row, IS THE sha256 OF THE DUMP (.gsa) THAT YtbbghdkndbpmmaaProg.lean LOADS. Nothing in Lean hashes anything: it is a label: what it is worth is what the hold of that sum in a sandbox is worth. -/
noncomputable def Try.pinned : Pinned := { name := "ytbbghdkndbpmmaa", sum := "456364ce230e8719330f512da92412a58313ff24462cdaa71b2fad8b71ae005f", checked := Try.checked }
namespace Rows
def none {H : Type} : Left H := { results := [], args := [] }

/-- 'overwinterlaw.CodeDoes': WHATEVER THE INPUT: true; the input reads as it did. -/
def codeDoesSpec : ChangeSpec := { name := "codeDoes", fn := fun _ => fun
  | [d1, d2, d3, d4, d5] => { results := [.lit (.bool true)], args := [d1, d2, d3, d4, d5] }
  | _ => none }
def codeDoesRow : OpenClaim := { program := "ytbbghdkndbpmmaa", sum := "456364ce230e8719330f512da92412a58313ff24462cdaa71b2fad8b71ae005f", func := "overwinter/overwinterlaw.CodeDoes", spec := "codeDoes", unfollowed := true, recurses := true, loops := true, apart := false }
def CodeDoesSaid : Prop := codeDoesRow.holds Try.pinned (OpenSpec.ofChange codeDoesSpec)

/-- ITS FALSE NEIGHBOUR: 'it returns false'. Refute it at one input. -/
def codeDoesWrong : ChangeSpec := { name := "codeDoes", fn := fun _ => fun
  | [d1, d2, d3, d4, d5] => { results := [.lit (.bool false)], args := [d1, d2, d3, d4, d5] }
  | _ => none }
def CodeDoesWrongFalsely : Prop := codeDoesRow.holds Try.pinned (OpenSpec.ofChange codeDoesWrong)

/-- 'overwinterlaw.CodeApart': WHATEVER THE INPUT: true; the input reads as it did. -/
def codeApartSpec : ChangeSpec := { name := "codeApart", fn := fun _ => fun
  | [d1, d2, d3] => { results := [.lit (.bool true)], args := [d1, d2, d3] }
  | _ => none }
def codeApartRow : OpenClaim := { program := "ytbbghdkndbpmmaa", sum := "456364ce230e8719330f512da92412a58313ff24462cdaa71b2fad8b71ae005f", func := "overwinter/overwinterlaw.CodeApart", spec := "codeApart", unfollowed := true, recurses := true, loops := true, apart := false }
def CodeApartSaid : Prop := codeApartRow.holds Try.pinned (OpenSpec.ofChange codeApartSpec)

/-- ITS FALSE NEIGHBOUR: 'it returns false'. Refute it at one input. -/
def codeApartWrong : ChangeSpec := { name := "codeApart", fn := fun _ => fun
  | [d1, d2, d3] => { results := [.lit (.bool false)], args := [d1, d2, d3] }
  | _ => none }
def CodeApartWrongFalsely : Prop := codeApartRow.holds Try.pinned (OpenSpec.ofChange codeApartWrong)

/-- 'overwinterlaw.CodeLess': WHATEVER THE INPUT: true; the input reads as it did. -/
def codeLessSpec : ChangeSpec := { name := "codeLess", fn := fun _ => fun
  | [d1, d2, d3] => { results := [.lit (.bool true)], args := [d1, d2, d3] }
  | _ => none }
def codeLessRow : OpenClaim := { program := "ytbbghdkndbpmmaa", sum := "456364ce230e8719330f512da92412a58313ff24462cdaa71b2fad8b71ae005f", func := "overwinter/overwinterlaw.CodeLess", spec := "codeLess", unfollowed := true, recurses := true, loops := true, apart := false }
def CodeLessSaid : Prop := codeLessRow.holds Try.pinned (OpenSpec.ofChange codeLessSpec)

/-- ITS FALSE NEIGHBOUR: 'it returns false'. Refute it at one input. -/
def codeLessWrong : ChangeSpec := { name := "codeLess", fn := fun _ => fun
  | [d1, d2, d3] => { results := [.lit (.bool false)], args := [d1, d2, d3] }
  | _ => none }
def CodeLessWrongFalsely : Prop := codeLessRow.holds Try.pinned (OpenSpec.ofChange codeLessWrong)

/-- 'overwinterlaw.CompileMakes': WHATEVER THE INPUT: true; the input reads as it did. -/
def compileMakesSpec : ChangeSpec := { name := "compileMakes", fn := fun _ => fun
  | [d] => { results := [.lit (.bool true)], args := [d] }
  | _ => none }
def compileMakesRow : OpenClaim := { program := "ytbbghdkndbpmmaa", sum := "456364ce230e8719330f512da92412a58313ff24462cdaa71b2fad8b71ae005f", func := "overwinter/overwinterlaw.CompileMakes", spec := "compileMakes", unfollowed := true, recurses := true, loops := true, apart := false }
def CompileMakesSaid : Prop := compileMakesRow.holds Try.pinned (OpenSpec.ofChange compileMakesSpec)

/-- ITS FALSE NEIGHBOUR: 'it returns false'. Refute it at one input. -/
def compileMakesWrong : ChangeSpec := { name := "compileMakes", fn := fun _ => fun
  | [d] => { results := [.lit (.bool false)], args := [d] }
  | _ => none }
def CompileMakesWrongFalsely : Prop := compileMakesRow.holds Try.pinned (OpenSpec.ofChange compileMakesWrong)

/-- 'overwinterlaw.CompileFits': WHATEVER THE INPUT: true; the input reads as it did. -/
def compileFitsSpec : ChangeSpec := { name := "compileFits", fn := fun _ => fun
  | [d] => { results := [.lit (.bool true)], args := [d] }
  | _ => none }
def compileFitsRow : OpenClaim := { program := "ytbbghdkndbpmmaa", sum := "456364ce230e8719330f512da92412a58313ff24462cdaa71b2fad8b71ae005f", func := "overwinter/overwinterlaw.CompileFits", spec := "compileFits", unfollowed := true, recurses := true, loops := true, apart := false }
def CompileFitsSaid : Prop := compileFitsRow.holds Try.pinned (OpenSpec.ofChange compileFitsSpec)

/-- ITS FALSE NEIGHBOUR: 'it returns false'. Refute it at one input. -/
def compileFitsWrong : ChangeSpec := { name := "compileFits", fn := fun _ => fun
  | [d] => { results := [.lit (.bool false)], args := [d] }
  | _ => none }
def CompileFitsWrongFalsely : Prop := compileFitsRow.holds Try.pinned (OpenSpec.ofChange compileFitsWrong)

/-- 'overwinterlaw.CompileGrows': WHATEVER THE INPUT: true; the input reads as it did. -/
def compileGrowsSpec : ChangeSpec := { name := "compileGrows", fn := fun _ => fun
  | [d1, d2] => { results := [.lit (.bool true)], args := [d1, d2] }
  | _ => none }
def compileGrowsRow : OpenClaim := { program := "ytbbghdkndbpmmaa", sum := "456364ce230e8719330f512da92412a58313ff24462cdaa71b2fad8b71ae005f", func := "overwinter/overwinterlaw.CompileGrows", spec := "compileGrows", unfollowed := true, recurses := true, loops := true, apart := false }
def CompileGrowsSaid : Prop := compileGrowsRow.holds Try.pinned (OpenSpec.ofChange compileGrowsSpec)

/-- ITS FALSE NEIGHBOUR: 'it returns false'. Refute it at one input. -/
def compileGrowsWrong : ChangeSpec := { name := "compileGrows", fn := fun _ => fun
  | [d1, d2] => { results := [.lit (.bool false)], args := [d1, d2] }
  | _ => none }
def CompileGrowsWrongFalsely : Prop := compileGrowsRow.holds Try.pinned (OpenSpec.ofChange compileGrowsWrong)

/-- 'overwinterlaw.IdealRuns': WHATEVER THE INPUT: true; the input reads as it did. -/
def idealRunsSpec : ChangeSpec := { name := "idealRuns", fn := fun _ => fun
  | [d1, d2, d3] => { results := [.lit (.bool true)], args := [d1, d2, d3] }
  | _ => none }
def idealRunsRow : OpenClaim := { program := "ytbbghdkndbpmmaa", sum := "456364ce230e8719330f512da92412a58313ff24462cdaa71b2fad8b71ae005f", func := "overwinter/overwinterlaw.IdealRuns", spec := "idealRuns", unfollowed := true, recurses := true, loops := true, apart := false }
def IdealRunsSaid : Prop := idealRunsRow.holds Try.pinned (OpenSpec.ofChange idealRunsSpec)

/-- ITS FALSE NEIGHBOUR: 'it returns false'. Refute it at one input. -/
def idealRunsWrong : ChangeSpec := { name := "idealRuns", fn := fun _ => fun
  | [d1, d2, d3] => { results := [.lit (.bool false)], args := [d1, d2, d3] }
  | _ => none }
def IdealRunsWrongFalsely : Prop := idealRunsRow.holds Try.pinned (OpenSpec.ofChange idealRunsWrong)

/-- 'overwinterlaw.IdealFuel': WHATEVER THE INPUT: true; the input reads as it did. -/
def idealFuelSpec : ChangeSpec := { name := "idealFuel", fn := fun _ => fun
  | [d1, d2, d3, d4] => { results := [.lit (.bool true)], args := [d1, d2, d3, d4] }
  | _ => none }
def idealFuelRow : OpenClaim := { program := "ytbbghdkndbpmmaa", sum := "456364ce230e8719330f512da92412a58313ff24462cdaa71b2fad8b71ae005f", func := "overwinter/overwinterlaw.IdealFuel", spec := "idealFuel", unfollowed := true, recurses := true, loops := true, apart := false }
def IdealFuelSaid : Prop := idealFuelRow.holds Try.pinned (OpenSpec.ofChange idealFuelSpec)

/-- ITS FALSE NEIGHBOUR: 'it returns false'. Refute it at one input. -/
def idealFuelWrong : ChangeSpec := { name := "idealFuel", fn := fun _ => fun
  | [d1, d2, d3, d4] => { results := [.lit (.bool false)], args := [d1, d2, d3, d4] }
  | _ => none }
def IdealFuelWrongFalsely : Prop := idealFuelRow.holds Try.pinned (OpenSpec.ofChange idealFuelWrong)

/-- 'overwinterlaw.IdealInput': WHATEVER THE INPUT: true; the input reads as it did. -/
def idealInputSpec : ChangeSpec := { name := "idealInput", fn := fun _ => fun
  | [d1, d2, d3, d4] => { results := [.lit (.bool true)], args := [d1, d2, d3, d4] }
  | _ => none }
def idealInputRow : OpenClaim := { program := "ytbbghdkndbpmmaa", sum := "456364ce230e8719330f512da92412a58313ff24462cdaa71b2fad8b71ae005f", func := "overwinter/overwinterlaw.IdealInput", spec := "idealInput", unfollowed := true, recurses := true, loops := true, apart := false }
def IdealInputSaid : Prop := idealInputRow.holds Try.pinned (OpenSpec.ofChange idealInputSpec)

/-- ITS FALSE NEIGHBOUR: 'it returns false'. Refute it at one input. -/
def idealInputWrong : ChangeSpec := { name := "idealInput", fn := fun _ => fun
  | [d1, d2, d3, d4] => { results := [.lit (.bool false)], args := [d1, d2, d3, d4] }
  | _ => none }
def IdealInputWrongFalsely : Prop := idealInputRow.holds Try.pinned (OpenSpec.ofChange idealInputWrong)

/-- 'overwinterlaw.IdealCommits': WHATEVER THE INPUT: true; the input reads as it did. -/
def idealCommitsSpec : ChangeSpec := { name := "idealCommits", fn := fun _ => fun
  | [d1, d2, d3] => { results := [.lit (.bool true)], args := [d1, d2, d3] }
  | _ => none }
def idealCommitsRow : OpenClaim := { program := "ytbbghdkndbpmmaa", sum := "456364ce230e8719330f512da92412a58313ff24462cdaa71b2fad8b71ae005f", func := "overwinter/overwinterlaw.IdealCommits", spec := "idealCommits", unfollowed := true, recurses := true, loops := true, apart := false }
def IdealCommitsSaid : Prop := idealCommitsRow.holds Try.pinned (OpenSpec.ofChange idealCommitsSpec)

/-- ITS FALSE NEIGHBOUR: 'it returns false'. Refute it at one input. -/
def idealCommitsWrong : ChangeSpec := { name := "idealCommits", fn := fun _ => fun
  | [d1, d2, d3] => { results := [.lit (.bool false)], args := [d1, d2, d3] }
  | _ => none }
def IdealCommitsWrongFalsely : Prop := idealCommitsRow.holds Try.pinned (OpenSpec.ofChange idealCommitsWrong)

/- THE SECOND FORM. 'bulk': how many values and letters a reading holds, each counted each time it is reached (what is shared counts as often as it is met; a slice's spare places count too). A statement '..UptoSaid' is the law's where the arguments, and the package variables that the reading takes, are together of bulk at most 1048576: NARROWER than '..Said'. Prove '..Said' where nothing that the law and all that it calls make is longer than what came in: it says more and counts as full. Else prove '..UptoSaid'. A law counts once. -/
mutual
def uptoBulk {H : Type} : DataW H → Nat
  | .lit (.string bytes) => bytes.length + 1
  | .lit _ => 1
  | .nil => 1
  | .ptr d => uptoBulk d + 1
  | .slice elems spare => uptoBulkAll elems + uptoBulkAll spare + 1
  | .agg parts => uptoBulkAll parts + 1
  | .iface _ d => uptoBulk d + 1
  | .map entries => uptoBulkEntries entries + 1
  | .held _ => 1
def uptoBulkAll {H : Type} : List (DataW H) → Nat
  | [] => 0
  | d :: r => uptoBulk d + uptoBulkAll r
def uptoBulkEntries {H : Type} : List (Lit × DataW H) → Nat
  | [] => 0
  | x :: r => uptoBulkEntry x + uptoBulkEntries r
def uptoBulkEntry {H : Type} : Lit × DataW H → Nat
  | (.string bytes, d) => bytes.length + uptoBulk d + 1
  | (_, d) => uptoBulk d + 1
 end
def uptoSmall : (H : Type) → List (DataW H) → Bool := fun _ ds => decide (uptoBulkAll ds ≤ 1048576)
def OpenSpec.upto (s : _root_.Go.ChangeSpec) : _root_.Go.OpenSpec := { _root_.Go.OpenSpec.ofChange s with cond := some uptoSmall }

/-- 'overwinterlaw.CodeDoes', WHERE WHAT IT READS IS OF BULK AT MOST 1048576: true; the input reads as it did. -/
def codeDoesUptoRow : OpenClaim := { program := "ytbbghdkndbpmmaa", sum := "456364ce230e8719330f512da92412a58313ff24462cdaa71b2fad8b71ae005f", func := "overwinter/overwinterlaw.CodeDoes", spec := "codeDoes", unfollowed := true, recurses := true, loops := true, apart := false, narrowed := true }
def CodeDoesUptoSaid : Prop := codeDoesUptoRow.holds Try.pinned (OpenSpec.upto codeDoesSpec)

/-- 'overwinterlaw.CodeApart', WHERE WHAT IT READS IS OF BULK AT MOST 1048576: true; the input reads as it did. -/
def codeApartUptoRow : OpenClaim := { program := "ytbbghdkndbpmmaa", sum := "456364ce230e8719330f512da92412a58313ff24462cdaa71b2fad8b71ae005f", func := "overwinter/overwinterlaw.CodeApart", spec := "codeApart", unfollowed := true, recurses := true, loops := true, apart := false, narrowed := true }
def CodeApartUptoSaid : Prop := codeApartUptoRow.holds Try.pinned (OpenSpec.upto codeApartSpec)

/-- 'overwinterlaw.CodeLess', WHERE WHAT IT READS IS OF BULK AT MOST 1048576: true; the input reads as it did. -/
def codeLessUptoRow : OpenClaim := { program := "ytbbghdkndbpmmaa", sum := "456364ce230e8719330f512da92412a58313ff24462cdaa71b2fad8b71ae005f", func := "overwinter/overwinterlaw.CodeLess", spec := "codeLess", unfollowed := true, recurses := true, loops := true, apart := false, narrowed := true }
def CodeLessUptoSaid : Prop := codeLessUptoRow.holds Try.pinned (OpenSpec.upto codeLessSpec)

/-- 'overwinterlaw.CompileMakes', WHERE WHAT IT READS IS OF BULK AT MOST 1048576: true; the input reads as it did. -/
def compileMakesUptoRow : OpenClaim := { program := "ytbbghdkndbpmmaa", sum := "456364ce230e8719330f512da92412a58313ff24462cdaa71b2fad8b71ae005f", func := "overwinter/overwinterlaw.CompileMakes", spec := "compileMakes", unfollowed := true, recurses := true, loops := true, apart := false, narrowed := true }
def CompileMakesUptoSaid : Prop := compileMakesUptoRow.holds Try.pinned (OpenSpec.upto compileMakesSpec)

/-- 'overwinterlaw.CompileFits', WHERE WHAT IT READS IS OF BULK AT MOST 1048576: true; the input reads as it did. -/
def compileFitsUptoRow : OpenClaim := { program := "ytbbghdkndbpmmaa", sum := "456364ce230e8719330f512da92412a58313ff24462cdaa71b2fad8b71ae005f", func := "overwinter/overwinterlaw.CompileFits", spec := "compileFits", unfollowed := true, recurses := true, loops := true, apart := false, narrowed := true }
def CompileFitsUptoSaid : Prop := compileFitsUptoRow.holds Try.pinned (OpenSpec.upto compileFitsSpec)

/-- 'overwinterlaw.CompileGrows', WHERE WHAT IT READS IS OF BULK AT MOST 1048576: true; the input reads as it did. -/
def compileGrowsUptoRow : OpenClaim := { program := "ytbbghdkndbpmmaa", sum := "456364ce230e8719330f512da92412a58313ff24462cdaa71b2fad8b71ae005f", func := "overwinter/overwinterlaw.CompileGrows", spec := "compileGrows", unfollowed := true, recurses := true, loops := true, apart := false, narrowed := true }
def CompileGrowsUptoSaid : Prop := compileGrowsUptoRow.holds Try.pinned (OpenSpec.upto compileGrowsSpec)

/-- 'overwinterlaw.IdealRuns', WHERE WHAT IT READS IS OF BULK AT MOST 1048576: true; the input reads as it did. -/
def idealRunsUptoRow : OpenClaim := { program := "ytbbghdkndbpmmaa", sum := "456364ce230e8719330f512da92412a58313ff24462cdaa71b2fad8b71ae005f", func := "overwinter/overwinterlaw.IdealRuns", spec := "idealRuns", unfollowed := true, recurses := true, loops := true, apart := false, narrowed := true }
def IdealRunsUptoSaid : Prop := idealRunsUptoRow.holds Try.pinned (OpenSpec.upto idealRunsSpec)

/-- 'overwinterlaw.IdealFuel', WHERE WHAT IT READS IS OF BULK AT MOST 1048576: true; the input reads as it did. -/
def idealFuelUptoRow : OpenClaim := { program := "ytbbghdkndbpmmaa", sum := "456364ce230e8719330f512da92412a58313ff24462cdaa71b2fad8b71ae005f", func := "overwinter/overwinterlaw.IdealFuel", spec := "idealFuel", unfollowed := true, recurses := true, loops := true, apart := false, narrowed := true }
def IdealFuelUptoSaid : Prop := idealFuelUptoRow.holds Try.pinned (OpenSpec.upto idealFuelSpec)

/-- 'overwinterlaw.IdealInput', WHERE WHAT IT READS IS OF BULK AT MOST 1048576: true; the input reads as it did. -/
def idealInputUptoRow : OpenClaim := { program := "ytbbghdkndbpmmaa", sum := "456364ce230e8719330f512da92412a58313ff24462cdaa71b2fad8b71ae005f", func := "overwinter/overwinterlaw.IdealInput", spec := "idealInput", unfollowed := true, recurses := true, loops := true, apart := false, narrowed := true }
def IdealInputUptoSaid : Prop := idealInputUptoRow.holds Try.pinned (OpenSpec.upto idealInputSpec)

/-- 'overwinterlaw.IdealCommits', WHERE WHAT IT READS IS OF BULK AT MOST 1048576: true; the input reads as it did. -/
def idealCommitsUptoRow : OpenClaim := { program := "ytbbghdkndbpmmaa", sum := "456364ce230e8719330f512da92412a58313ff24462cdaa71b2fad8b71ae005f", func := "overwinter/overwinterlaw.IdealCommits", spec := "idealCommits", unfollowed := true, recurses := true, loops := true, apart := false, narrowed := true }
def IdealCommitsUptoSaid : Prop := idealCommitsUptoRow.holds Try.pinned (OpenSpec.upto idealCommitsSpec)

end Rows
end Go.Proofs.Ytbbghdkndbpmmaa
