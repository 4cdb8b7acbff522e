/-
  No cell of these rows narrows 'for every input' (looked for: loops, veiled, ifaces, maps, wideKeys, modest, calm, conditions, laid).
  DERIVED. THE GIVEN ROWS OF THIS SEAT. 7 by the template 'for every input the law returns true; each argument reads behind the call as it read before'; 0 by the template 'total and deterministic' (their statements: YtcfhhnapcpgecaaGreatTotals.lean).
  GIVEN WITH THE SEED: the statements are not yours to turn. If you find one false, say at which input.
  Laid BY PROGRAM, IN A SANDBOX (cutbox-rows.mjs): the forced cells as the released guide's own fill.sh prints them over the translation 5562be3730581e0c… (all of the seat's roots in one cut). By AI agents, Wed Nov 11 2026. No macro, syntax, notation, axiom, sorry.
-/
import Derived.Test.YtcfhhnapcpgecaaGreatChecked
import GoSem.Claim
import GoSem.ClaimJoined
import GoSem.ClaimMapViews
import Derived.JoinedTies
import Derived.KernelRfl
namespace Go.Proofs.YtcfhhnapcpgecaaGreat
/- THE CELL 'sum', in the pinned program and in every row, IS THE sha256 OF THE DUMP (.gsa) THAT YtcfhhnapcpgecaaGreatProg.lean LOADS. Nothing in Lean hashes anything: it is a label: what it is worth is what the hold of that sum in a sandbox is worth. -/
noncomputable def Tryz.pinned : Pinned := { name := "ytcfhhnapcpgecaagreat", sum := "5562be3730581e0c6a9e2ad02ad50aa493a11aa367957293b9e1d940e7d531b6", checked := Tryz.checked }
namespace Rows
def none {H : Type} : Left H := { results := [], args := [] }

/-- 'depositorylaw15.StreamWrites': WHATEVER THE INPUT: true; the input reads as it did. -/
def streamWritesSpec : ChangeSpec := { name := "streamWrites", fn := fun _ => fun
  | [d1, d2, d3] => { results := [.lit (.bool true)], args := [d1, d2, d3] }
  | _ => none }
def streamWritesRow : OpenClaim := { program := "ytcfhhnapcpgecaagreat", sum := "5562be3730581e0c6a9e2ad02ad50aa493a11aa367957293b9e1d940e7d531b6", func := "depository/depositorylaw15.StreamWrites", spec := "streamWrites", inPlace := ["internal/bytealg.IndexByteString", "internal/abi.NoEscape", "internal/bytealg.MakeNoZero"], unfollowed := true, recurses := true, apart := false }
def StreamWritesSaid : Prop := streamWritesRow.holds Tryz.pinned (OpenSpec.ofChange streamWritesSpec)

/-- ITS FALSE NEIGHBOUR: 'it returns false'. Refute it at one input. -/
def streamWritesWrong : ChangeSpec := { name := "streamWrites", fn := fun _ => fun
  | [d1, d2, d3] => { results := [.lit (.bool false)], args := [d1, d2, d3] }
  | _ => none }
def StreamWritesWrongFalsely : Prop := streamWritesRow.holds Tryz.pinned (OpenSpec.ofChange streamWritesWrong)

/-- 'depositorylaw15.StreamParts': WHATEVER THE INPUT: true; the input reads as it did. -/
def streamPartsSpec : ChangeSpec := { name := "streamParts", fn := fun _ => fun
  | [d1, d2, d3] => { results := [.lit (.bool true)], args := [d1, d2, d3] }
  | _ => none }
def streamPartsRow : OpenClaim := { program := "ytcfhhnapcpgecaagreat", sum := "5562be3730581e0c6a9e2ad02ad50aa493a11aa367957293b9e1d940e7d531b6", func := "depository/depositorylaw15.StreamParts", spec := "streamParts", inPlace := ["internal/bytealg.IndexByteString", "internal/abi.NoEscape", "internal/bytealg.MakeNoZero"], unfollowed := true, recurses := true, apart := false }
def StreamPartsSaid : Prop := streamPartsRow.holds Tryz.pinned (OpenSpec.ofChange streamPartsSpec)

/-- ITS FALSE NEIGHBOUR: 'it returns false'. Refute it at one input. -/
def streamPartsWrong : ChangeSpec := { name := "streamParts", fn := fun _ => fun
  | [d1, d2, d3] => { results := [.lit (.bool false)], args := [d1, d2, d3] }
  | _ => none }
def StreamPartsWrongFalsely : Prop := streamPartsRow.holds Tryz.pinned (OpenSpec.ofChange streamPartsWrong)

/-- 'depositorylaw15.StreamClean': WHATEVER THE INPUT: true; the input reads as it did. -/
def streamCleanSpec : ChangeSpec := { name := "streamClean", fn := fun _ => fun
  | [d1, d2, d3] => { results := [.lit (.bool true)], args := [d1, d2, d3] }
  | _ => none }
def streamCleanRow : OpenClaim := { program := "ytcfhhnapcpgecaagreat", sum := "5562be3730581e0c6a9e2ad02ad50aa493a11aa367957293b9e1d940e7d531b6", func := "depository/depositorylaw15.StreamClean", spec := "streamClean", inPlace := ["internal/bytealg.IndexByteString", "internal/abi.NoEscape", "internal/bytealg.MakeNoZero"], unfollowed := true, recurses := true, apart := false }
def StreamCleanSaid : Prop := streamCleanRow.holds Tryz.pinned (OpenSpec.ofChange streamCleanSpec)

/-- ITS FALSE NEIGHBOUR: 'it returns false'. Refute it at one input. -/
def streamCleanWrong : ChangeSpec := { name := "streamClean", fn := fun _ => fun
  | [d1, d2, d3] => { results := [.lit (.bool false)], args := [d1, d2, d3] }
  | _ => none }
def StreamCleanWrongFalsely : Prop := streamCleanRow.holds Tryz.pinned (OpenSpec.ofChange streamCleanWrong)

/-- 'depositorylaw15.StreamSizes': WHATEVER THE INPUT: true; the input reads as it did. -/
def streamSizesSpec : ChangeSpec := { name := "streamSizes", fn := fun _ => fun
  | [d1, d2, d3] => { results := [.lit (.bool true)], args := [d1, d2, d3] }
  | _ => none }
def streamSizesRow : OpenClaim := { program := "ytcfhhnapcpgecaagreat", sum := "5562be3730581e0c6a9e2ad02ad50aa493a11aa367957293b9e1d940e7d531b6", func := "depository/depositorylaw15.StreamSizes", spec := "streamSizes", inPlace := ["internal/bytealg.IndexByteString", "internal/abi.NoEscape", "internal/bytealg.MakeNoZero"], unfollowed := true, recurses := true, apart := false }
def StreamSizesSaid : Prop := streamSizesRow.holds Tryz.pinned (OpenSpec.ofChange streamSizesSpec)

/-- ITS FALSE NEIGHBOUR: 'it returns false'. Refute it at one input. -/
def streamSizesWrong : ChangeSpec := { name := "streamSizes", fn := fun _ => fun
  | [d1, d2, d3] => { results := [.lit (.bool false)], args := [d1, d2, d3] }
  | _ => none }
def StreamSizesWrongFalsely : Prop := streamSizesRow.holds Tryz.pinned (OpenSpec.ofChange streamSizesWrong)

/-- 'depositorylaw15.StreamZeros': WHATEVER THE INPUT: true; the input reads as it did. -/
def streamZerosSpec : ChangeSpec := { name := "streamZeros", fn := fun _ => fun
  | [d1, d2, d3] => { results := [.lit (.bool true)], args := [d1, d2, d3] }
  | _ => none }
def streamZerosRow : OpenClaim := { program := "ytcfhhnapcpgecaagreat", sum := "5562be3730581e0c6a9e2ad02ad50aa493a11aa367957293b9e1d940e7d531b6", func := "depository/depositorylaw15.StreamZeros", spec := "streamZeros", inPlace := ["internal/bytealg.IndexByteString", "internal/abi.NoEscape", "internal/bytealg.MakeNoZero"], unfollowed := true, recurses := true, apart := false }
def StreamZerosSaid : Prop := streamZerosRow.holds Tryz.pinned (OpenSpec.ofChange streamZerosSpec)

/-- ITS FALSE NEIGHBOUR: 'it returns false'. Refute it at one input. -/
def streamZerosWrong : ChangeSpec := { name := "streamZeros", fn := fun _ => fun
  | [d1, d2, d3] => { results := [.lit (.bool false)], args := [d1, d2, d3] }
  | _ => none }
def StreamZerosWrongFalsely : Prop := streamZerosRow.holds Tryz.pinned (OpenSpec.ofChange streamZerosWrong)

/-- 'depositorylaw15.StreamReads': WHATEVER THE INPUT: true; the input reads as it did. -/
def streamReadsSpec : ChangeSpec := { name := "streamReads", fn := fun _ => fun
  | [d1, d2, d3] => { results := [.lit (.bool true)], args := [d1, d2, d3] }
  | _ => none }
def streamReadsRow : OpenClaim := { program := "ytcfhhnapcpgecaagreat", sum := "5562be3730581e0c6a9e2ad02ad50aa493a11aa367957293b9e1d940e7d531b6", func := "depository/depositorylaw15.StreamReads", spec := "streamReads", inPlace := ["internal/bytealg.IndexByteString", "internal/abi.NoEscape", "internal/bytealg.MakeNoZero"], unfollowed := true, recurses := true, apart := false }
def StreamReadsSaid : Prop := streamReadsRow.holds Tryz.pinned (OpenSpec.ofChange streamReadsSpec)

/-- ITS FALSE NEIGHBOUR: 'it returns false'. Refute it at one input. -/
def streamReadsWrong : ChangeSpec := { name := "streamReads", fn := fun _ => fun
  | [d1, d2, d3] => { results := [.lit (.bool false)], args := [d1, d2, d3] }
  | _ => none }
def StreamReadsWrongFalsely : Prop := streamReadsRow.holds Tryz.pinned (OpenSpec.ofChange streamReadsWrong)

/-- 'depositorylaw15.StreamMoves': WHATEVER THE INPUT: true; the input reads as it did. -/
def streamMovesSpec : ChangeSpec := { name := "streamMoves", fn := fun _ => fun
  | [d1, d2, d3] => { results := [.lit (.bool true)], args := [d1, d2, d3] }
  | _ => none }
def streamMovesRow : OpenClaim := { program := "ytcfhhnapcpgecaagreat", sum := "5562be3730581e0c6a9e2ad02ad50aa493a11aa367957293b9e1d940e7d531b6", func := "depository/depositorylaw15.StreamMoves", spec := "streamMoves", inPlace := ["internal/bytealg.IndexByteString", "internal/abi.NoEscape", "internal/bytealg.MakeNoZero"], unfollowed := true, recurses := true, apart := false }
def StreamMovesSaid : Prop := streamMovesRow.holds Tryz.pinned (OpenSpec.ofChange streamMovesSpec)

/-- ITS FALSE NEIGHBOUR: 'it returns false'. Refute it at one input. -/
def streamMovesWrong : ChangeSpec := { name := "streamMoves", fn := fun _ => fun
  | [d1, d2, d3] => { results := [.lit (.bool false)], args := [d1, d2, d3] }
  | _ => none }
def StreamMovesWrongFalsely : Prop := streamMovesRow.holds Tryz.pinned (OpenSpec.ofChange streamMovesWrong)

/- THE SECOND FORM. 'bulk': how many values and letters a reading holds, each counted each time it is reached (what is shared counts as often as it is met; a slice's spare places count too). A statement '..UptoSaid' is the law's where the arguments, and the package variables that the reading takes, are together of bulk at most 1048576: NARROWER than '..Said'. Prove '..Said' where nothing that the law and all that it calls make is longer than what came in: it says more and counts as full. Else prove '..UptoSaid'. A law counts once. -/
mutual
def uptoBulk {H : Type} : DataW H → Nat
  | .lit (.string bytes) => bytes.length + 1
  | .lit _ => 1
  | .nil => 1
  | .ptr d => uptoBulk d + 1
  | .slice elems spare => uptoBulkAll elems + uptoBulkAll spare + 1
  | .agg parts => uptoBulkAll parts + 1
  | .iface _ d => uptoBulk d + 1
  | .map entries => uptoBulkEntries entries + 1
  | .held _ => 1
def uptoBulkAll {H : Type} : List (DataW H) → Nat
  | [] => 0
  | d :: r => uptoBulk d + uptoBulkAll r
def uptoBulkEntries {H : Type} : List (Lit × DataW H) → Nat
  | [] => 0
  | x :: r => uptoBulkEntry x + uptoBulkEntries r
def uptoBulkEntry {H : Type} : Lit × DataW H → Nat
  | (.string bytes, d) => bytes.length + uptoBulk d + 1
  | (_, d) => uptoBulk d + 1
 end
def uptoSmall : (H : Type) → List (DataW H) → Bool := fun _ ds => decide (uptoBulkAll ds ≤ 1048576)
def OpenSpec.upto (s : _root_.Go.ChangeSpec) : _root_.Go.OpenSpec := { _root_.Go.OpenSpec.ofChange s with cond := some uptoSmall }

/-- 'depositorylaw15.StreamWrites', WHERE WHAT IT READS IS OF BULK AT MOST 1048576: true; the input reads as it did. -/
def streamWritesUptoRow : OpenClaim := { program := "ytcfhhnapcpgecaagreat", sum := "5562be3730581e0c6a9e2ad02ad50aa493a11aa367957293b9e1d940e7d531b6", func := "depository/depositorylaw15.StreamWrites", spec := "streamWrites", inPlace := ["internal/bytealg.IndexByteString", "internal/abi.NoEscape", "internal/bytealg.MakeNoZero"], unfollowed := true, recurses := true, apart := false, narrowed := true }
def StreamWritesUptoSaid : Prop := streamWritesUptoRow.holds Tryz.pinned (OpenSpec.upto streamWritesSpec)

/-- 'depositorylaw15.StreamParts', WHERE WHAT IT READS IS OF BULK AT MOST 1048576: true; the input reads as it did. -/
def streamPartsUptoRow : OpenClaim := { program := "ytcfhhnapcpgecaagreat", sum := "5562be3730581e0c6a9e2ad02ad50aa493a11aa367957293b9e1d940e7d531b6", func := "depository/depositorylaw15.StreamParts", spec := "streamParts", inPlace := ["internal/bytealg.IndexByteString", "internal/abi.NoEscape", "internal/bytealg.MakeNoZero"], unfollowed := true, recurses := true, apart := false, narrowed := true }
def StreamPartsUptoSaid : Prop := streamPartsUptoRow.holds Tryz.pinned (OpenSpec.upto streamPartsSpec)

/-- 'depositorylaw15.StreamClean', WHERE WHAT IT READS IS OF BULK AT MOST 1048576: true; the input reads as it did. -/
def streamCleanUptoRow : OpenClaim := { program := "ytcfhhnapcpgecaagreat", sum := "5562be3730581e0c6a9e2ad02ad50aa493a11aa367957293b9e1d940e7d531b6", func := "depository/depositorylaw15.StreamClean", spec := "streamClean", inPlace := ["internal/bytealg.IndexByteString", "internal/abi.NoEscape", "internal/bytealg.MakeNoZero"], unfollowed := true, recurses := true, apart := false, narrowed := true }
def StreamCleanUptoSaid : Prop := streamCleanUptoRow.holds Tryz.pinned (OpenSpec.upto streamCleanSpec)

/-- 'depositorylaw15.StreamSizes', WHERE WHAT IT READS IS OF BULK AT MOST 1048576: true; the input reads as it did. -/
def streamSizesUptoRow : OpenClaim := { program := "ytcfhhnapcpgecaagreat", sum := "5562be3730581e0c6a9e2ad02ad50aa493a11aa367957293b9e1d940e7d531b6", func := "depository/depositorylaw15.StreamSizes", spec := "streamSizes", inPlace := ["internal/bytealg.IndexByteString", "internal/abi.NoEscape", "internal/bytealg.MakeNoZero"], unfollowed := true, recurses := true, apart := false, narrowed := true }
def StreamSizesUptoSaid : Prop := streamSizesUptoRow.holds Tryz.pinned (OpenSpec.upto streamSizesSpec)

/-- 'depositorylaw15.StreamZeros', WHERE WHAT IT READS IS OF BULK AT MOST 1048576: true; the input reads as it did. -/
def streamZerosUptoRow : OpenClaim := { program := "ytcfhhnapcpgecaagreat", sum := "5562be3730581e0c6a9e2ad02ad50aa493a11aa367957293b9e1d940e7d531b6", func := "depository/depositorylaw15.StreamZeros", spec := "streamZeros", inPlace := ["internal/bytealg.IndexByteString", "internal/abi.NoEscape", "internal/bytealg.MakeNoZero"], unfollowed := true, recurses := true, apart := false, narrowed := true }
def StreamZerosUptoSaid : Prop := streamZerosUptoRow.holds Tryz.pinned (OpenSpec.upto streamZerosSpec)

/-- 'depositorylaw15.StreamReads', WHERE WHAT IT READS IS OF BULK AT MOST 1048576: true; the input reads as it did. -/
def streamReadsUptoRow : OpenClaim := { program := "ytcfhhnapcpgecaagreat", sum := "5562be3730581e0c6a9e2ad02ad50aa493a11aa367957293b9e1d940e7d531b6", func := "depository/depositorylaw15.StreamReads", spec := "streamReads", inPlace := ["internal/bytealg.IndexByteString", "internal/abi.NoEscape", "internal/bytealg.MakeNoZero"], unfollowed := true, recurses := true, apart := false, narrowed := true }
def StreamReadsUptoSaid : Prop := streamReadsUptoRow.holds Tryz.pinned (OpenSpec.upto streamReadsSpec)

/-- 'depositorylaw15.StreamMoves', WHERE WHAT IT READS IS OF BULK AT MOST 1048576: true; the input reads as it did. -/
def streamMovesUptoRow : OpenClaim := { program := "ytcfhhnapcpgecaagreat", sum := "5562be3730581e0c6a9e2ad02ad50aa493a11aa367957293b9e1d940e7d531b6", func := "depository/depositorylaw15.StreamMoves", spec := "streamMoves", inPlace := ["internal/bytealg.IndexByteString", "internal/abi.NoEscape", "internal/bytealg.MakeNoZero"], unfollowed := true, recurses := true, apart := false, narrowed := true }
def StreamMovesUptoSaid : Prop := streamMovesUptoRow.holds Tryz.pinned (OpenSpec.upto streamMovesSpec)

end Rows
end Go.Proofs.YtcfhhnapcpgecaaGreat
