/-
  No cell of these rows narrows 'for every input' (looked for: loops, veiled, ifaces, maps, wideKeys, modest, calm, conditions, laid).
  DERIVED. THE GIVEN ROWS OF THIS SEAT. 7 by the template 'for every input the law returns true; each argument reads behind the call as it read before'; 0 by the template 'total and deterministic' (their statements: YtgcbmecmjnfleaaGreatTotals.lean).
  GIVEN WITH THE SEED: the statements are not yours to turn. If you find one false, say at which input.
  Laid BY PROGRAM, IN A SANDBOX (cutbox-rows.mjs): the forced cells as the released guide's own fill.sh prints them over the translation 022ab89ef9289bea… (all of the seat's roots in one cut). By AI agents, Wed Nov 11 2026. No macro, syntax, notation, axiom, sorry.
-/
import Derived.Test.YtgcbmecmjnfleaaGreatChecked
import GoSem.Claim
import GoSem.ClaimJoined
import GoSem.ClaimMapViews
import Derived.JoinedTies
import Derived.KernelRfl
namespace Go.Proofs.YtgcbmecmjnfleaaGreat
/- THE CELL 'sum', in the pinned program and in every row, IS THE sha256 OF THE DUMP (.gsa) THAT YtgcbmecmjnfleaaGreatProg.lean LOADS. Nothing in Lean hashes anything: it is a label: what it is worth is what the hold of that sum in a sandbox is worth. -/
noncomputable def Tryz.pinned : Pinned := { name := "ytgcbmecmjnfleaagreat", sum := "022ab89ef9289bea5f55664484cba92f3a9c7a382e042549ca4c46a83a1c3b18", checked := Tryz.checked }
namespace Rows
def none {H : Type} : Left H := { results := [], args := [] }

/-- 'depositorylaw10.ExtensionFiles': WHATEVER THE INPUT: true; the input reads as it did. -/
def extensionFilesSpec : ChangeSpec := { name := "extensionFiles", fn := fun _ => fun
  | [d] => { results := [.lit (.bool true)], args := [d] }
  | _ => none }
def extensionFilesRow : OpenClaim := { program := "ytgcbmecmjnfleaagreat", sum := "022ab89ef9289bea5f55664484cba92f3a9c7a382e042549ca4c46a83a1c3b18", func := "depository/depositorylaw10.ExtensionFiles", spec := "extensionFiles", inPlace := ["internal/bytealg.IndexByteString"], unfollowed := true, recurses := true, apart := false }
def ExtensionFilesSaid : Prop := extensionFilesRow.holds Tryz.pinned (OpenSpec.ofChange extensionFilesSpec)

/-- ITS FALSE NEIGHBOUR: 'it returns false'. Refute it at one input. -/
def extensionFilesWrong : ChangeSpec := { name := "extensionFiles", fn := fun _ => fun
  | [d] => { results := [.lit (.bool false)], args := [d] }
  | _ => none }
def ExtensionFilesWrongFalsely : Prop := extensionFilesRow.holds Tryz.pinned (OpenSpec.ofChange extensionFilesWrong)

/-- 'depositorylaw10.ExtensionSpreads': WHATEVER THE INPUT: true; the input reads as it did. -/
def extensionSpreadsSpec : ChangeSpec := { name := "extensionSpreads", fn := fun _ => fun
  | [d1, d2, d3] => { results := [.lit (.bool true)], args := [d1, d2, d3] }
  | _ => none }
def extensionSpreadsRow : OpenClaim := { program := "ytgcbmecmjnfleaagreat", sum := "022ab89ef9289bea5f55664484cba92f3a9c7a382e042549ca4c46a83a1c3b18", func := "depository/depositorylaw10.ExtensionSpreads", spec := "extensionSpreads", inPlace := ["internal/bytealg.IndexByteString"], unfollowed := true, recurses := true, apart := false }
def ExtensionSpreadsSaid : Prop := extensionSpreadsRow.holds Tryz.pinned (OpenSpec.ofChange extensionSpreadsSpec)

/-- ITS FALSE NEIGHBOUR: 'it returns false'. Refute it at one input. -/
def extensionSpreadsWrong : ChangeSpec := { name := "extensionSpreads", fn := fun _ => fun
  | [d1, d2, d3] => { results := [.lit (.bool false)], args := [d1, d2, d3] }
  | _ => none }
def ExtensionSpreadsWrongFalsely : Prop := extensionSpreadsRow.holds Tryz.pinned (OpenSpec.ofChange extensionSpreadsWrong)

/-- 'depositorylaw10.ExtensionParts': WHATEVER THE INPUT: true; the input reads as it did. -/
def extensionPartsSpec : ChangeSpec := { name := "extensionParts", fn := fun _ => fun
  | [d1, d2] => { results := [.lit (.bool true)], args := [d1, d2] }
  | _ => none }
def extensionPartsRow : OpenClaim := { program := "ytgcbmecmjnfleaagreat", sum := "022ab89ef9289bea5f55664484cba92f3a9c7a382e042549ca4c46a83a1c3b18", func := "depository/depositorylaw10.ExtensionParts", spec := "extensionParts", inPlace := ["internal/bytealg.IndexByteString"], unfollowed := true, recurses := true, apart := false }
def ExtensionPartsSaid : Prop := extensionPartsRow.holds Tryz.pinned (OpenSpec.ofChange extensionPartsSpec)

/-- ITS FALSE NEIGHBOUR: 'it returns false'. Refute it at one input. -/
def extensionPartsWrong : ChangeSpec := { name := "extensionParts", fn := fun _ => fun
  | [d1, d2] => { results := [.lit (.bool false)], args := [d1, d2] }
  | _ => none }
def ExtensionPartsWrongFalsely : Prop := extensionPartsRow.holds Tryz.pinned (OpenSpec.ofChange extensionPartsWrong)

/-- 'depositorylaw10.ExtensionWhole': WHATEVER THE INPUT: true; the input reads as it did. -/
def extensionWholeSpec : ChangeSpec := { name := "extensionWhole", fn := fun _ => fun
  | [d1, d2, d3] => { results := [.lit (.bool true)], args := [d1, d2, d3] }
  | _ => none }
def extensionWholeRow : OpenClaim := { program := "ytgcbmecmjnfleaagreat", sum := "022ab89ef9289bea5f55664484cba92f3a9c7a382e042549ca4c46a83a1c3b18", func := "depository/depositorylaw10.ExtensionWhole", spec := "extensionWhole", inPlace := ["internal/bytealg.IndexByteString"], unfollowed := true, recurses := true, apart := false }
def ExtensionWholeSaid : Prop := extensionWholeRow.holds Tryz.pinned (OpenSpec.ofChange extensionWholeSpec)

/-- ITS FALSE NEIGHBOUR: 'it returns false'. Refute it at one input. -/
def extensionWholeWrong : ChangeSpec := { name := "extensionWhole", fn := fun _ => fun
  | [d1, d2, d3] => { results := [.lit (.bool false)], args := [d1, d2, d3] }
  | _ => none }
def ExtensionWholeWrongFalsely : Prop := extensionWholeRow.holds Tryz.pinned (OpenSpec.ofChange extensionWholeWrong)

/-- 'depositorylaw10.ExtensionChanges': WHATEVER THE INPUT: true; the input reads as it did. -/
def extensionChangesSpec : ChangeSpec := { name := "extensionChanges", fn := fun _ => fun
  | [d1, d2] => { results := [.lit (.bool true)], args := [d1, d2] }
  | _ => none }
def extensionChangesRow : OpenClaim := { program := "ytgcbmecmjnfleaagreat", sum := "022ab89ef9289bea5f55664484cba92f3a9c7a382e042549ca4c46a83a1c3b18", func := "depository/depositorylaw10.ExtensionChanges", spec := "extensionChanges", inPlace := ["internal/bytealg.IndexByteString"], unfollowed := true, recurses := true, apart := false }
def ExtensionChangesSaid : Prop := extensionChangesRow.holds Tryz.pinned (OpenSpec.ofChange extensionChangesSpec)

/-- ITS FALSE NEIGHBOUR: 'it returns false'. Refute it at one input. -/
def extensionChangesWrong : ChangeSpec := { name := "extensionChanges", fn := fun _ => fun
  | [d1, d2] => { results := [.lit (.bool false)], args := [d1, d2] }
  | _ => none }
def ExtensionChangesWrongFalsely : Prop := extensionChangesRow.holds Tryz.pinned (OpenSpec.ofChange extensionChangesWrong)

/-- 'depositorylaw10.ExtensionEntries': WHATEVER THE INPUT: true; the input reads as it did. -/
def extensionEntriesSpec : ChangeSpec := { name := "extensionEntries", fn := fun _ => fun
  | [d1, d2] => { results := [.lit (.bool true)], args := [d1, d2] }
  | _ => none }
def extensionEntriesRow : OpenClaim := { program := "ytgcbmecmjnfleaagreat", sum := "022ab89ef9289bea5f55664484cba92f3a9c7a382e042549ca4c46a83a1c3b18", func := "depository/depositorylaw10.ExtensionEntries", spec := "extensionEntries", inPlace := ["internal/bytealg.IndexByteString"], unfollowed := true, recurses := true, apart := false }
def ExtensionEntriesSaid : Prop := extensionEntriesRow.holds Tryz.pinned (OpenSpec.ofChange extensionEntriesSpec)

/-- ITS FALSE NEIGHBOUR: 'it returns false'. Refute it at one input. -/
def extensionEntriesWrong : ChangeSpec := { name := "extensionEntries", fn := fun _ => fun
  | [d1, d2] => { results := [.lit (.bool false)], args := [d1, d2] }
  | _ => none }
def ExtensionEntriesWrongFalsely : Prop := extensionEntriesRow.holds Tryz.pinned (OpenSpec.ofChange extensionEntriesWrong)

/-- 'depositorylaw10.ExtensionBack': WHATEVER THE INPUT: true; the input reads as it did. -/
def extensionBackSpec : ChangeSpec := { name := "extensionBack", fn := fun _ => fun
  | [d1, d2] => { results := [.lit (.bool true)], args := [d1, d2] }
  | _ => none }
def extensionBackRow : OpenClaim := { program := "ytgcbmecmjnfleaagreat", sum := "022ab89ef9289bea5f55664484cba92f3a9c7a382e042549ca4c46a83a1c3b18", func := "depository/depositorylaw10.ExtensionBack", spec := "extensionBack", inPlace := ["internal/bytealg.IndexByteString"], unfollowed := true, recurses := true, apart := false }
def ExtensionBackSaid : Prop := extensionBackRow.holds Tryz.pinned (OpenSpec.ofChange extensionBackSpec)

/-- ITS FALSE NEIGHBOUR: 'it returns false'. Refute it at one input. -/
def extensionBackWrong : ChangeSpec := { name := "extensionBack", fn := fun _ => fun
  | [d1, d2] => { results := [.lit (.bool false)], args := [d1, d2] }
  | _ => none }
def ExtensionBackWrongFalsely : Prop := extensionBackRow.holds Tryz.pinned (OpenSpec.ofChange extensionBackWrong)

/- THE SECOND FORM. 'bulk': how many values and letters a reading holds, each counted each time it is reached (what is shared counts as often as it is met; a slice's spare places count too). A statement '..UptoSaid' is the law's where the arguments, and the package variables that the reading takes, are together of bulk at most 1048576: NARROWER than '..Said'. Prove '..Said' where nothing that the law and all that it calls make is longer than what came in: it says more and counts as full. Else prove '..UptoSaid'. A law counts once. -/
mutual
def uptoBulk {H : Type} : DataW H → Nat
  | .lit (.string bytes) => bytes.length + 1
  | .lit _ => 1
  | .nil => 1
  | .ptr d => uptoBulk d + 1
  | .slice elems spare => uptoBulkAll elems + uptoBulkAll spare + 1
  | .agg parts => uptoBulkAll parts + 1
  | .iface _ d => uptoBulk d + 1
  | .map entries => uptoBulkEntries entries + 1
  | .held _ => 1
def uptoBulkAll {H : Type} : List (DataW H) → Nat
  | [] => 0
  | d :: r => uptoBulk d + uptoBulkAll r
def uptoBulkEntries {H : Type} : List (Lit × DataW H) → Nat
  | [] => 0
  | x :: r => uptoBulkEntry x + uptoBulkEntries r
def uptoBulkEntry {H : Type} : Lit × DataW H → Nat
  | (.string bytes, d) => bytes.length + uptoBulk d + 1
  | (_, d) => uptoBulk d + 1
 end
def uptoSmall : (H : Type) → List (DataW H) → Bool := fun _ ds => decide (uptoBulkAll ds ≤ 1048576)
def OpenSpec.upto (s : _root_.Go.ChangeSpec) : _root_.Go.OpenSpec := { _root_.Go.OpenSpec.ofChange s with cond := some uptoSmall }

/-- 'depositorylaw10.ExtensionFiles', WHERE WHAT IT READS IS OF BULK AT MOST 1048576: true; the input reads as it did. -/
def extensionFilesUptoRow : OpenClaim := { program := "ytgcbmecmjnfleaagreat", sum := "022ab89ef9289bea5f55664484cba92f3a9c7a382e042549ca4c46a83a1c3b18", func := "depository/depositorylaw10.ExtensionFiles", spec := "extensionFiles", inPlace := ["internal/bytealg.IndexByteString"], unfollowed := true, recurses := true, apart := false, narrowed := true }
def ExtensionFilesUptoSaid : Prop := extensionFilesUptoRow.holds Tryz.pinned (OpenSpec.upto extensionFilesSpec)

/-- 'depositorylaw10.ExtensionSpreads', WHERE WHAT IT READS IS OF BULK AT MOST 1048576: true; the input reads as it did. -/
def extensionSpreadsUptoRow : OpenClaim := { program := "ytgcbmecmjnfleaagreat", sum := "022ab89ef9289bea5f55664484cba92f3a9c7a382e042549ca4c46a83a1c3b18", func := "depository/depositorylaw10.ExtensionSpreads", spec := "extensionSpreads", inPlace := ["internal/bytealg.IndexByteString"], unfollowed := true, recurses := true, apart := false, narrowed := true }
def ExtensionSpreadsUptoSaid : Prop := extensionSpreadsUptoRow.holds Tryz.pinned (OpenSpec.upto extensionSpreadsSpec)

/-- 'depositorylaw10.ExtensionParts', WHERE WHAT IT READS IS OF BULK AT MOST 1048576: true; the input reads as it did. -/
def extensionPartsUptoRow : OpenClaim := { program := "ytgcbmecmjnfleaagreat", sum := "022ab89ef9289bea5f55664484cba92f3a9c7a382e042549ca4c46a83a1c3b18", func := "depository/depositorylaw10.ExtensionParts", spec := "extensionParts", inPlace := ["internal/bytealg.IndexByteString"], unfollowed := true, recurses := true, apart := false, narrowed := true }
def ExtensionPartsUptoSaid : Prop := extensionPartsUptoRow.holds Tryz.pinned (OpenSpec.upto extensionPartsSpec)

/-- 'depositorylaw10.ExtensionWhole', WHERE WHAT IT READS IS OF BULK AT MOST 1048576: true; the input reads as it did. -/
def extensionWholeUptoRow : OpenClaim := { program := "ytgcbmecmjnfleaagreat", sum := "022ab89ef9289bea5f55664484cba92f3a9c7a382e042549ca4c46a83a1c3b18", func := "depository/depositorylaw10.ExtensionWhole", spec := "extensionWhole", inPlace := ["internal/bytealg.IndexByteString"], unfollowed := true, recurses := true, apart := false, narrowed := true }
def ExtensionWholeUptoSaid : Prop := extensionWholeUptoRow.holds Tryz.pinned (OpenSpec.upto extensionWholeSpec)

/-- 'depositorylaw10.ExtensionChanges', WHERE WHAT IT READS IS OF BULK AT MOST 1048576: true; the input reads as it did. -/
def extensionChangesUptoRow : OpenClaim := { program := "ytgcbmecmjnfleaagreat", sum := "022ab89ef9289bea5f55664484cba92f3a9c7a382e042549ca4c46a83a1c3b18", func := "depository/depositorylaw10.ExtensionChanges", spec := "extensionChanges", inPlace := ["internal/bytealg.IndexByteString"], unfollowed := true, recurses := true, apart := false, narrowed := true }
def ExtensionChangesUptoSaid : Prop := extensionChangesUptoRow.holds Tryz.pinned (OpenSpec.upto extensionChangesSpec)

/-- 'depositorylaw10.ExtensionEntries', WHERE WHAT IT READS IS OF BULK AT MOST 1048576: true; the input reads as it did. -/
def extensionEntriesUptoRow : OpenClaim := { program := "ytgcbmecmjnfleaagreat", sum := "022ab89ef9289bea5f55664484cba92f3a9c7a382e042549ca4c46a83a1c3b18", func := "depository/depositorylaw10.ExtensionEntries", spec := "extensionEntries", inPlace := ["internal/bytealg.IndexByteString"], unfollowed := true, recurses := true, apart := false, narrowed := true }
def ExtensionEntriesUptoSaid : Prop := extensionEntriesUptoRow.holds Tryz.pinned (OpenSpec.upto extensionEntriesSpec)

/-- 'depositorylaw10.ExtensionBack', WHERE WHAT IT READS IS OF BULK AT MOST 1048576: true; the input reads as it did. -/
def extensionBackUptoRow : OpenClaim := { program := "ytgcbmecmjnfleaagreat", sum := "022ab89ef9289bea5f55664484cba92f3a9c7a382e042549ca4c46a83a1c3b18", func := "depository/depositorylaw10.ExtensionBack", spec := "extensionBack", inPlace := ["internal/bytealg.IndexByteString"], unfollowed := true, recurses := true, apart := false, narrowed := true }
def ExtensionBackUptoSaid : Prop := extensionBackUptoRow.holds Tryz.pinned (OpenSpec.upto extensionBackSpec)

end Rows
end Go.Proofs.YtgcbmecmjnfleaaGreat
