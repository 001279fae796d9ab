/-
  No cell of these rows narrows 'for every input' (looked for: loops, veiled, ifaces, maps, wideKeys, modest, calm, conditions, laid).
  DERIVED. THE GIVEN ROWS OF THIS SEAT. 10 by the template 'for every input the law returns true; each argument reads behind the call as it read before'; 0 by the template 'total and deterministic' (their statements: YtplobdiknobhoaaTotals.lean).
  GIVEN WITH THE SEED: the statements are not yours to turn. If you find one false, say at which input.
  Laid BY PROGRAM, IN A SANDBOX (cutbox-rows.mjs): the forced cells as the released guide's own fill.sh prints them over the translation 86c81cf26ed4c4c7… (all of the seat's roots in one cut). By AI agents, Wed Nov 11 2026. No macro, syntax, notation, axiom, sorry.
-/
import Derived.Test.YtplobdiknobhoaaChecked
import GoSem.Claim
import GoSem.ClaimJoined
import GoSem.ClaimMapViews
import Derived.JoinedTies
import Derived.KernelRfl
namespace Go.Proofs.Ytplobdiknobhoaa
/- THE CELL 'sum', in the pinned program and in every row, IS THE sha256 OF THE DUMP (.gsa) THAT YtplobdiknobhoaaProg.lean LOADS. Nothing in Lean hashes anything: it is a label: what it is worth is what the hold of that sum in a sandbox is worth. -/
noncomputable def Try.pinned : Pinned := { name := "ytplobdiknobhoaa", sum := "86c81cf26ed4c4c7bdf747e467d8d17421c4432ecedefae03ee89627275f637b", checked := Try.checked }
namespace Rows
def none {H : Type} : Left H := { results := [], args := [] }

/-- 'overwinterlaw.DiskDoes': WHATEVER THE INPUT: true; the input reads as it did. -/
def diskDoesSpec : ChangeSpec := { name := "diskDoes", fn := fun _ => fun
  | [d1, d2] => { results := [.lit (.bool true)], args := [d1, d2] }
  | _ => none }
def diskDoesRow : OpenClaim := { program := "ytplobdiknobhoaa", sum := "86c81cf26ed4c4c7bdf747e467d8d17421c4432ecedefae03ee89627275f637b", func := "overwinter/overwinterlaw.DiskDoes", spec := "diskDoes", unfollowed := true, recurses := true, apart := false }
def DiskDoesSaid : Prop := diskDoesRow.holds Try.pinned (OpenSpec.ofChange diskDoesSpec)

/-- ITS FALSE NEIGHBOUR: 'it returns false'. Refute it at one input. -/
def diskDoesWrong : ChangeSpec := { name := "diskDoes", fn := fun _ => fun
  | [d1, d2] => { results := [.lit (.bool false)], args := [d1, d2] }
  | _ => none }
def DiskDoesWrongFalsely : Prop := diskDoesRow.holds Try.pinned (OpenSpec.ofChange diskDoesWrong)

/-- 'overwinterlaw.DiskSure': WHATEVER THE INPUT: true; the input reads as it did. -/
def diskSureSpec : ChangeSpec := { name := "diskSure", fn := fun _ => fun
  | [d1, d2, d3] => { results := [.lit (.bool true)], args := [d1, d2, d3] }
  | _ => none }
def diskSureRow : OpenClaim := { program := "ytplobdiknobhoaa", sum := "86c81cf26ed4c4c7bdf747e467d8d17421c4432ecedefae03ee89627275f637b", func := "overwinter/overwinterlaw.DiskSure", spec := "diskSure", unfollowed := true, recurses := true, apart := false }
def DiskSureSaid : Prop := diskSureRow.holds Try.pinned (OpenSpec.ofChange diskSureSpec)

/-- ITS FALSE NEIGHBOUR: 'it returns false'. Refute it at one input. -/
def diskSureWrong : ChangeSpec := { name := "diskSure", fn := fun _ => fun
  | [d1, d2, d3] => { results := [.lit (.bool false)], args := [d1, d2, d3] }
  | _ => none }
def DiskSureWrongFalsely : Prop := diskSureRow.holds Try.pinned (OpenSpec.ofChange diskSureWrong)

/-- 'overwinterlaw.DiskAgain': WHATEVER THE INPUT: true; the input reads as it did. -/
def diskAgainSpec : ChangeSpec := { name := "diskAgain", fn := fun _ => fun
  | [d1, d2, d3] => { results := [.lit (.bool true)], args := [d1, d2, d3] }
  | _ => none }
def diskAgainRow : OpenClaim := { program := "ytplobdiknobhoaa", sum := "86c81cf26ed4c4c7bdf747e467d8d17421c4432ecedefae03ee89627275f637b", func := "overwinter/overwinterlaw.DiskAgain", spec := "diskAgain", unfollowed := true, recurses := true, apart := false }
def DiskAgainSaid : Prop := diskAgainRow.holds Try.pinned (OpenSpec.ofChange diskAgainSpec)

/-- ITS FALSE NEIGHBOUR: 'it returns false'. Refute it at one input. -/
def diskAgainWrong : ChangeSpec := { name := "diskAgain", fn := fun _ => fun
  | [d1, d2, d3] => { results := [.lit (.bool false)], args := [d1, d2, d3] }
  | _ => none }
def DiskAgainWrongFalsely : Prop := diskAgainRow.holds Try.pinned (OpenSpec.ofChange diskAgainWrong)

/-- 'overwinterlaw.StoreDoes': WHATEVER THE INPUT: true; the input reads as it did. -/
def storeDoesSpec : ChangeSpec := { name := "storeDoes", fn := fun _ => fun
  | [d] => { results := [.lit (.bool true)], args := [d] }
  | _ => none }
def storeDoesRow : OpenClaim := { program := "ytplobdiknobhoaa", sum := "86c81cf26ed4c4c7bdf747e467d8d17421c4432ecedefae03ee89627275f637b", func := "overwinter/overwinterlaw.StoreDoes", spec := "storeDoes", unfollowed := true, recurses := true, apart := false }
def StoreDoesSaid : Prop := storeDoesRow.holds Try.pinned (OpenSpec.ofChange storeDoesSpec)

/-- ITS FALSE NEIGHBOUR: 'it returns false'. Refute it at one input. -/
def storeDoesWrong : ChangeSpec := { name := "storeDoes", fn := fun _ => fun
  | [d] => { results := [.lit (.bool false)], args := [d] }
  | _ => none }
def StoreDoesWrongFalsely : Prop := storeDoesRow.holds Try.pinned (OpenSpec.ofChange storeDoesWrong)

/-- 'overwinterlaw.StoreSafe': WHATEVER THE INPUT: true; the input reads as it did. -/
def storeSafeSpec : ChangeSpec := { name := "storeSafe", fn := fun _ => fun
  | [d1, d2, d3] => { results := [.lit (.bool true)], args := [d1, d2, d3] }
  | _ => none }
def storeSafeRow : OpenClaim := { program := "ytplobdiknobhoaa", sum := "86c81cf26ed4c4c7bdf747e467d8d17421c4432ecedefae03ee89627275f637b", func := "overwinter/overwinterlaw.StoreSafe", spec := "storeSafe", unfollowed := true, recurses := true, apart := false }
def StoreSafeSaid : Prop := storeSafeRow.holds Try.pinned (OpenSpec.ofChange storeSafeSpec)

/-- ITS FALSE NEIGHBOUR: 'it returns false'. Refute it at one input. -/
def storeSafeWrong : ChangeSpec := { name := "storeSafe", fn := fun _ => fun
  | [d1, d2, d3] => { results := [.lit (.bool false)], args := [d1, d2, d3] }
  | _ => none }
def StoreSafeWrongFalsely : Prop := storeSafeRow.holds Try.pinned (OpenSpec.ofChange storeSafeWrong)

/-- 'overwinterlaw.StoreLast': WHATEVER THE INPUT: true; the input reads as it did. -/
def storeLastSpec : ChangeSpec := { name := "storeLast", fn := fun _ => fun
  | [d1, d2] => { results := [.lit (.bool true)], args := [d1, d2] }
  | _ => none }
def storeLastRow : OpenClaim := { program := "ytplobdiknobhoaa", sum := "86c81cf26ed4c4c7bdf747e467d8d17421c4432ecedefae03ee89627275f637b", func := "overwinter/overwinterlaw.StoreLast", spec := "storeLast", unfollowed := true, recurses := true, apart := false }
def StoreLastSaid : Prop := storeLastRow.holds Try.pinned (OpenSpec.ofChange storeLastSpec)

/-- ITS FALSE NEIGHBOUR: 'it returns false'. Refute it at one input. -/
def storeLastWrong : ChangeSpec := { name := "storeLast", fn := fun _ => fun
  | [d1, d2] => { results := [.lit (.bool false)], args := [d1, d2] }
  | _ => none }
def StoreLastWrongFalsely : Prop := storeLastRow.holds Try.pinned (OpenSpec.ofChange storeLastWrong)

/-- 'overwinterlaw.StoreMore': WHATEVER THE INPUT: true; the input reads as it did. -/
def storeMoreSpec : ChangeSpec := { name := "storeMore", fn := fun _ => fun
  | [d1, d2, d3] => { results := [.lit (.bool true)], args := [d1, d2, d3] }
  | _ => none }
def storeMoreRow : OpenClaim := { program := "ytplobdiknobhoaa", sum := "86c81cf26ed4c4c7bdf747e467d8d17421c4432ecedefae03ee89627275f637b", func := "overwinter/overwinterlaw.StoreMore", spec := "storeMore", unfollowed := true, recurses := true, apart := false }
def StoreMoreSaid : Prop := storeMoreRow.holds Try.pinned (OpenSpec.ofChange storeMoreSpec)

/-- ITS FALSE NEIGHBOUR: 'it returns false'. Refute it at one input. -/
def storeMoreWrong : ChangeSpec := { name := "storeMore", fn := fun _ => fun
  | [d1, d2, d3] => { results := [.lit (.bool false)], args := [d1, d2, d3] }
  | _ => none }
def StoreMoreWrongFalsely : Prop := storeMoreRow.holds Try.pinned (OpenSpec.ofChange storeMoreWrong)

/-- 'overwinterlaw.MemoryClean': WHATEVER THE INPUT: true; the input reads as it did. -/
def memoryCleanSpec : ChangeSpec := { name := "memoryClean", fn := fun _ => fun
  | [d] => { results := [.lit (.bool true)], args := [d] }
  | _ => none }
def memoryCleanRow : OpenClaim := { program := "ytplobdiknobhoaa", sum := "86c81cf26ed4c4c7bdf747e467d8d17421c4432ecedefae03ee89627275f637b", func := "overwinter/overwinterlaw.MemoryClean", spec := "memoryClean", unfollowed := true, recurses := true, apart := false }
def MemoryCleanSaid : Prop := memoryCleanRow.holds Try.pinned (OpenSpec.ofChange memoryCleanSpec)

/-- ITS FALSE NEIGHBOUR: 'it returns false'. Refute it at one input. -/
def memoryCleanWrong : ChangeSpec := { name := "memoryClean", fn := fun _ => fun
  | [d] => { results := [.lit (.bool false)], args := [d] }
  | _ => none }
def MemoryCleanWrongFalsely : Prop := memoryCleanRow.holds Try.pinned (OpenSpec.ofChange memoryCleanWrong)

/-- 'overwinterlaw.MemoryApart': WHATEVER THE INPUT: true; the input reads as it did. -/
def memoryApartSpec : ChangeSpec := { name := "memoryApart", fn := fun _ => fun
  | [d1, d2, d3] => { results := [.lit (.bool true)], args := [d1, d2, d3] }
  | _ => none }
def memoryApartRow : OpenClaim := { program := "ytplobdiknobhoaa", sum := "86c81cf26ed4c4c7bdf747e467d8d17421c4432ecedefae03ee89627275f637b", func := "overwinter/overwinterlaw.MemoryApart", spec := "memoryApart", unfollowed := true, recurses := true, apart := false }
def MemoryApartSaid : Prop := memoryApartRow.holds Try.pinned (OpenSpec.ofChange memoryApartSpec)

/-- ITS FALSE NEIGHBOUR: 'it returns false'. Refute it at one input. -/
def memoryApartWrong : ChangeSpec := { name := "memoryApart", fn := fun _ => fun
  | [d1, d2, d3] => { results := [.lit (.bool false)], args := [d1, d2, d3] }
  | _ => none }
def MemoryApartWrongFalsely : Prop := memoryApartRow.holds Try.pinned (OpenSpec.ofChange memoryApartWrong)

/-- 'overwinterlaw.MemoryDoes': WHATEVER THE INPUT: true; the input reads as it did. -/
def memoryDoesSpec : ChangeSpec := { name := "memoryDoes", fn := fun _ => fun
  | [d] => { results := [.lit (.bool true)], args := [d] }
  | _ => none }
def memoryDoesRow : OpenClaim := { program := "ytplobdiknobhoaa", sum := "86c81cf26ed4c4c7bdf747e467d8d17421c4432ecedefae03ee89627275f637b", func := "overwinter/overwinterlaw.MemoryDoes", spec := "memoryDoes", unfollowed := true, recurses := true, apart := false }
def MemoryDoesSaid : Prop := memoryDoesRow.holds Try.pinned (OpenSpec.ofChange memoryDoesSpec)

/-- ITS FALSE NEIGHBOUR: 'it returns false'. Refute it at one input. -/
def memoryDoesWrong : ChangeSpec := { name := "memoryDoes", fn := fun _ => fun
  | [d] => { results := [.lit (.bool false)], args := [d] }
  | _ => none }
def MemoryDoesWrongFalsely : Prop := memoryDoesRow.holds Try.pinned (OpenSpec.ofChange memoryDoesWrong)

/- THE SECOND FORM. 'bulk': how many values and letters a reading holds, each counted each time it is reached (what is shared counts as often as it is met; a slice's spare places count too). A statement '..UptoSaid' is the law's where the arguments, and the package variables that the reading takes, are together of bulk at most 1048576: NARROWER than '..Said'. Prove '..Said' where nothing that the law and all that it calls make is longer than what came in: it says more and counts as full. Else prove '..UptoSaid'. A law counts once. -/
mutual
def uptoBulk {H : Type} : DataW H → Nat
  | .lit (.string bytes) => bytes.length + 1
  | .lit _ => 1
  | .nil => 1
  | .ptr d => uptoBulk d + 1
  | .slice elems spare => uptoBulkAll elems + uptoBulkAll spare + 1
  | .agg parts => uptoBulkAll parts + 1
  | .iface _ d => uptoBulk d + 1
  | .map entries => uptoBulkEntries entries + 1
  | .held _ => 1
def uptoBulkAll {H : Type} : List (DataW H) → Nat
  | [] => 0
  | d :: r => uptoBulk d + uptoBulkAll r
def uptoBulkEntries {H : Type} : List (Lit × DataW H) → Nat
  | [] => 0
  | x :: r => uptoBulkEntry x + uptoBulkEntries r
def uptoBulkEntry {H : Type} : Lit × DataW H → Nat
  | (.string bytes, d) => bytes.length + uptoBulk d + 1
  | (_, d) => uptoBulk d + 1
 end
def uptoSmall : (H : Type) → List (DataW H) → Bool := fun _ ds => decide (uptoBulkAll ds ≤ 1048576)
def OpenSpec.upto (s : _root_.Go.ChangeSpec) : _root_.Go.OpenSpec := { _root_.Go.OpenSpec.ofChange s with cond := some uptoSmall }

/-- 'overwinterlaw.DiskDoes', WHERE WHAT IT READS IS OF BULK AT MOST 1048576: true; the input reads as it did. -/
def diskDoesUptoRow : OpenClaim := { program := "ytplobdiknobhoaa", sum := "86c81cf26ed4c4c7bdf747e467d8d17421c4432ecedefae03ee89627275f637b", func := "overwinter/overwinterlaw.DiskDoes", spec := "diskDoes", unfollowed := true, recurses := true, apart := false, narrowed := true }
def DiskDoesUptoSaid : Prop := diskDoesUptoRow.holds Try.pinned (OpenSpec.upto diskDoesSpec)

/-- 'overwinterlaw.DiskSure', WHERE WHAT IT READS IS OF BULK AT MOST 1048576: true; the input reads as it did. -/
def diskSureUptoRow : OpenClaim := { program := "ytplobdiknobhoaa", sum := "86c81cf26ed4c4c7bdf747e467d8d17421c4432ecedefae03ee89627275f637b", func := "overwinter/overwinterlaw.DiskSure", spec := "diskSure", unfollowed := true, recurses := true, apart := false, narrowed := true }
def DiskSureUptoSaid : Prop := diskSureUptoRow.holds Try.pinned (OpenSpec.upto diskSureSpec)

/-- 'overwinterlaw.DiskAgain', WHERE WHAT IT READS IS OF BULK AT MOST 1048576: true; the input reads as it did. -/
def diskAgainUptoRow : OpenClaim := { program := "ytplobdiknobhoaa", sum := "86c81cf26ed4c4c7bdf747e467d8d17421c4432ecedefae03ee89627275f637b", func := "overwinter/overwinterlaw.DiskAgain", spec := "diskAgain", unfollowed := true, recurses := true, apart := false, narrowed := true }
def DiskAgainUptoSaid : Prop := diskAgainUptoRow.holds Try.pinned (OpenSpec.upto diskAgainSpec)

/-- 'overwinterlaw.StoreDoes', WHERE WHAT IT READS IS OF BULK AT MOST 1048576: true; the input reads as it did. -/
def storeDoesUptoRow : OpenClaim := { program := "ytplobdiknobhoaa", sum := "86c81cf26ed4c4c7bdf747e467d8d17421c4432ecedefae03ee89627275f637b", func := "overwinter/overwinterlaw.StoreDoes", spec := "storeDoes", unfollowed := true, recurses := true, apart := false, narrowed := true }
def StoreDoesUptoSaid : Prop := storeDoesUptoRow.holds Try.pinned (OpenSpec.upto storeDoesSpec)

/-- 'overwinterlaw.StoreSafe', WHERE WHAT IT READS IS OF BULK AT MOST 1048576: true; the input reads as it did. -/
def storeSafeUptoRow : OpenClaim := { program := "ytplobdiknobhoaa", sum := "86c81cf26ed4c4c7bdf747e467d8d17421c4432ecedefae03ee89627275f637b", func := "overwinter/overwinterlaw.StoreSafe", spec := "storeSafe", unfollowed := true, recurses := true, apart := false, narrowed := true }
def StoreSafeUptoSaid : Prop := storeSafeUptoRow.holds Try.pinned (OpenSpec.upto storeSafeSpec)

/-- 'overwinterlaw.StoreLast', WHERE WHAT IT READS IS OF BULK AT MOST 1048576: true; the input reads as it did. -/
def storeLastUptoRow : OpenClaim := { program := "ytplobdiknobhoaa", sum := "86c81cf26ed4c4c7bdf747e467d8d17421c4432ecedefae03ee89627275f637b", func := "overwinter/overwinterlaw.StoreLast", spec := "storeLast", unfollowed := true, recurses := true, apart := false, narrowed := true }
def StoreLastUptoSaid : Prop := storeLastUptoRow.holds Try.pinned (OpenSpec.upto storeLastSpec)

/-- 'overwinterlaw.StoreMore', WHERE WHAT IT READS IS OF BULK AT MOST 1048576: true; the input reads as it did. -/
def storeMoreUptoRow : OpenClaim := { program := "ytplobdiknobhoaa", sum := "86c81cf26ed4c4c7bdf747e467d8d17421c4432ecedefae03ee89627275f637b", func := "overwinter/overwinterlaw.StoreMore", spec := "storeMore", unfollowed := true, recurses := true, apart := false, narrowed := true }
def StoreMoreUptoSaid : Prop := storeMoreUptoRow.holds Try.pinned (OpenSpec.upto storeMoreSpec)

/-- 'overwinterlaw.MemoryClean', WHERE WHAT IT READS IS OF BULK AT MOST 1048576: true; the input reads as it did. -/
def memoryCleanUptoRow : OpenClaim := { program := "ytplobdiknobhoaa", sum := "86c81cf26ed4c4c7bdf747e467d8d17421c4432ecedefae03ee89627275f637b", func := "overwinter/overwinterlaw.MemoryClean", spec := "memoryClean", unfollowed := true, recurses := true, apart := false, narrowed := true }
def MemoryCleanUptoSaid : Prop := memoryCleanUptoRow.holds Try.pinned (OpenSpec.upto memoryCleanSpec)

/-- 'overwinterlaw.MemoryApart', WHERE WHAT IT READS IS OF BULK AT MOST 1048576: true; the input reads as it did. -/
def memoryApartUptoRow : OpenClaim := { program := "ytplobdiknobhoaa", sum := "86c81cf26ed4c4c7bdf747e467d8d17421c4432ecedefae03ee89627275f637b", func := "overwinter/overwinterlaw.MemoryApart", spec := "memoryApart", unfollowed := true, recurses := true, apart := false, narrowed := true }
def MemoryApartUptoSaid : Prop := memoryApartUptoRow.holds Try.pinned (OpenSpec.upto memoryApartSpec)

/-- 'overwinterlaw.MemoryDoes', WHERE WHAT IT READS IS OF BULK AT MOST 1048576: true; the input reads as it did. -/
def memoryDoesUptoRow : OpenClaim := { program := "ytplobdiknobhoaa", sum := "86c81cf26ed4c4c7bdf747e467d8d17421c4432ecedefae03ee89627275f637b", func := "overwinter/overwinterlaw.MemoryDoes", spec := "memoryDoes", unfollowed := true, recurses := true, apart := false, narrowed := true }
def MemoryDoesUptoSaid : Prop := memoryDoesUptoRow.holds Try.pinned (OpenSpec.upto memoryDoesSpec)

end Rows
end Go.Proofs.Ytplobdiknobhoaa
