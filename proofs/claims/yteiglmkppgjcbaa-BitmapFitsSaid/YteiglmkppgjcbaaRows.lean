/-
  No cell of these rows narrows 'for every input' (looked for: loops, veiled, ifaces, maps, wideKeys, modest, calm, conditions, laid).
  DERIVED. THE GIVEN ROWS OF THIS SEAT. 6 by the template 'for every input the law returns true; each argument reads behind the call as it read before'; 0 by the template 'total and deterministic' (their statements: YteiglmkppgjcbaaTotals.lean).
  GIVEN WITH THE SEED: the statements are not yours to turn. If you find one false, say at which input.
  Laid BY PROGRAM, IN A SANDBOX (cutbox-rows.mjs): the forced cells as the released guide's own fill.sh prints them over the translation 2b262e7c5842e831… (all of the seat's roots in one cut). By AI agents, Wed Nov 11 2026. No macro, syntax, notation, axiom, sorry.
-/
import Derived.Test.YteiglmkppgjcbaaChecked
import GoSem.Claim
import GoSem.ClaimJoined
import GoSem.ClaimMapViews
import Derived.JoinedTies
import Derived.KernelRfl
namespace Go.Proofs.Yteiglmkppgjcbaa
/- THE CELL 'sum', in the pinned program and in every row, IS THE sha256 OF THE DUMP (.gsa) THAT YteiglmkppgjcbaaProg.lean LOADS. Nothing in Lean hashes anything: it is a label: what it is worth is what the hold of that sum in a sandbox is worth. -/
noncomputable def Try.pinned : Pinned := { name := "yteiglmkppgjcbaa", sum := "2b262e7c5842e831969fe20c7384c75e59f85f2ea9c9f8c2a9ef7b97c08e3985", checked := Try.checked }
namespace Rows
def none {H : Type} : Left H := { results := [], args := [] }

/-- 'depositorylaw04.BitmapExtents': WHATEVER THE INPUT: true; the input reads as it did. -/
def bitmapExtentsSpec : ChangeSpec := { name := "bitmapExtents", fn := fun _ => fun
  | [d1, d2, d3] => { results := [.lit (.bool true)], args := [d1, d2, d3] }
  | _ => none }
def bitmapExtentsRow : OpenClaim := { program := "yteiglmkppgjcbaa", sum := "2b262e7c5842e831969fe20c7384c75e59f85f2ea9c9f8c2a9ef7b97c08e3985", func := "depository/depositorylaw04.BitmapExtents", spec := "bitmapExtents", unfollowed := true, recurses := true, apart := false }
def BitmapExtentsSaid : Prop := bitmapExtentsRow.holds Try.pinned (OpenSpec.ofChange bitmapExtentsSpec)

/-- ITS FALSE NEIGHBOUR: 'it returns false'. Refute it at one input. -/
def bitmapExtentsWrong : ChangeSpec := { name := "bitmapExtents", fn := fun _ => fun
  | [d1, d2, d3] => { results := [.lit (.bool false)], args := [d1, d2, d3] }
  | _ => none }
def BitmapExtentsWrongFalsely : Prop := bitmapExtentsRow.holds Try.pinned (OpenSpec.ofChange bitmapExtentsWrong)

/-- 'depositorylaw04.BitmapChecks': WHATEVER THE INPUT: true; the input reads as it did. -/
def bitmapChecksSpec : ChangeSpec := { name := "bitmapChecks", fn := fun _ => fun
  | [d1, d2, d3] => { results := [.lit (.bool true)], args := [d1, d2, d3] }
  | _ => none }
def bitmapChecksRow : OpenClaim := { program := "yteiglmkppgjcbaa", sum := "2b262e7c5842e831969fe20c7384c75e59f85f2ea9c9f8c2a9ef7b97c08e3985", func := "depository/depositorylaw04.BitmapChecks", spec := "bitmapChecks", unfollowed := true, recurses := true, apart := false }
def BitmapChecksSaid : Prop := bitmapChecksRow.holds Try.pinned (OpenSpec.ofChange bitmapChecksSpec)

/-- ITS FALSE NEIGHBOUR: 'it returns false'. Refute it at one input. -/
def bitmapChecksWrong : ChangeSpec := { name := "bitmapChecks", fn := fun _ => fun
  | [d1, d2, d3] => { results := [.lit (.bool false)], args := [d1, d2, d3] }
  | _ => none }
def BitmapChecksWrongFalsely : Prop := bitmapChecksRow.holds Try.pinned (OpenSpec.ofChange bitmapChecksWrong)

/-- 'depositorylaw04.BitmapBack': WHATEVER THE INPUT: true; the input reads as it did. -/
def bitmapBackSpec : ChangeSpec := { name := "bitmapBack", fn := fun _ => fun
  | [d1, d2, d3] => { results := [.lit (.bool true)], args := [d1, d2, d3] }
  | _ => none }
def bitmapBackRow : OpenClaim := { program := "yteiglmkppgjcbaa", sum := "2b262e7c5842e831969fe20c7384c75e59f85f2ea9c9f8c2a9ef7b97c08e3985", func := "depository/depositorylaw04.BitmapBack", spec := "bitmapBack", unfollowed := true, recurses := true, apart := false }
def BitmapBackSaid : Prop := bitmapBackRow.holds Try.pinned (OpenSpec.ofChange bitmapBackSpec)

/-- ITS FALSE NEIGHBOUR: 'it returns false'. Refute it at one input. -/
def bitmapBackWrong : ChangeSpec := { name := "bitmapBack", fn := fun _ => fun
  | [d1, d2, d3] => { results := [.lit (.bool false)], args := [d1, d2, d3] }
  | _ => none }
def BitmapBackWrongFalsely : Prop := bitmapBackRow.holds Try.pinned (OpenSpec.ofChange bitmapBackWrong)

/-- 'depositorylaw04.BitmapRoom': WHATEVER THE INPUT: true; the input reads as it did. -/
def bitmapRoomSpec : ChangeSpec := { name := "bitmapRoom", fn := fun _ => fun
  | [d1, d2, d3] => { results := [.lit (.bool true)], args := [d1, d2, d3] }
  | _ => none }
def bitmapRoomRow : OpenClaim := { program := "yteiglmkppgjcbaa", sum := "2b262e7c5842e831969fe20c7384c75e59f85f2ea9c9f8c2a9ef7b97c08e3985", func := "depository/depositorylaw04.BitmapRoom", spec := "bitmapRoom", unfollowed := true, recurses := true, apart := false }
def BitmapRoomSaid : Prop := bitmapRoomRow.holds Try.pinned (OpenSpec.ofChange bitmapRoomSpec)

/-- ITS FALSE NEIGHBOUR: 'it returns false'. Refute it at one input. -/
def bitmapRoomWrong : ChangeSpec := { name := "bitmapRoom", fn := fun _ => fun
  | [d1, d2, d3] => { results := [.lit (.bool false)], args := [d1, d2, d3] }
  | _ => none }
def BitmapRoomWrongFalsely : Prop := bitmapRoomRow.holds Try.pinned (OpenSpec.ofChange bitmapRoomWrong)

/-- 'depositorylaw04.BitmapFits': WHATEVER THE INPUT: true; the input reads as it did. -/
def bitmapFitsSpec : ChangeSpec := { name := "bitmapFits", fn := fun _ => fun
  | [d1, d2, d3] => { results := [.lit (.bool true)], args := [d1, d2, d3] }
  | _ => none }
def bitmapFitsRow : OpenClaim := { program := "yteiglmkppgjcbaa", sum := "2b262e7c5842e831969fe20c7384c75e59f85f2ea9c9f8c2a9ef7b97c08e3985", func := "depository/depositorylaw04.BitmapFits", spec := "bitmapFits", unfollowed := true, recurses := true, apart := false }
def BitmapFitsSaid : Prop := bitmapFitsRow.holds Try.pinned (OpenSpec.ofChange bitmapFitsSpec)

/-- ITS FALSE NEIGHBOUR: 'it returns false'. Refute it at one input. -/
def bitmapFitsWrong : ChangeSpec := { name := "bitmapFits", fn := fun _ => fun
  | [d1, d2, d3] => { results := [.lit (.bool false)], args := [d1, d2, d3] }
  | _ => none }
def BitmapFitsWrongFalsely : Prop := bitmapFitsRow.holds Try.pinned (OpenSpec.ofChange bitmapFitsWrong)

/-- 'depositorylaw04.BitmapMarks': WHATEVER THE INPUT: true; the input reads as it did. -/
def bitmapMarksSpec : ChangeSpec := { name := "bitmapMarks", fn := fun _ => fun
  | [d1, d2, d3] => { results := [.lit (.bool true)], args := [d1, d2, d3] }
  | _ => none }
def bitmapMarksRow : OpenClaim := { program := "yteiglmkppgjcbaa", sum := "2b262e7c5842e831969fe20c7384c75e59f85f2ea9c9f8c2a9ef7b97c08e3985", func := "depository/depositorylaw04.BitmapMarks", spec := "bitmapMarks", unfollowed := true, recurses := true, apart := false }
def BitmapMarksSaid : Prop := bitmapMarksRow.holds Try.pinned (OpenSpec.ofChange bitmapMarksSpec)

/-- ITS FALSE NEIGHBOUR: 'it returns false'. Refute it at one input. -/
def bitmapMarksWrong : ChangeSpec := { name := "bitmapMarks", fn := fun _ => fun
  | [d1, d2, d3] => { results := [.lit (.bool false)], args := [d1, d2, d3] }
  | _ => none }
def BitmapMarksWrongFalsely : Prop := bitmapMarksRow.holds Try.pinned (OpenSpec.ofChange bitmapMarksWrong)

/- THE SECOND FORM. 'bulk': how many values and letters a reading holds, each counted each time it is reached (what is shared counts as often as it is met; a slice's spare places count too). A statement '..UptoSaid' is the law's where the arguments, and the package variables that the reading takes, are together of bulk at most 1048576: NARROWER than '..Said'. Prove '..Said' where nothing that the law and all that it calls make is longer than what came in: it says more and counts as full. Else prove '..UptoSaid'. A law counts once. -/
mutual
def uptoBulk {H : Type} : DataW H → Nat
  | .lit (.string bytes) => bytes.length + 1
  | .lit _ => 1
  | .nil => 1
  | .ptr d => uptoBulk d + 1
  | .slice elems spare => uptoBulkAll elems + uptoBulkAll spare + 1
  | .agg parts => uptoBulkAll parts + 1
  | .iface _ d => uptoBulk d + 1
  | .map entries => uptoBulkEntries entries + 1
  | .held _ => 1
def uptoBulkAll {H : Type} : List (DataW H) → Nat
  | [] => 0
  | d :: r => uptoBulk d + uptoBulkAll r
def uptoBulkEntries {H : Type} : List (Lit × DataW H) → Nat
  | [] => 0
  | x :: r => uptoBulkEntry x + uptoBulkEntries r
def uptoBulkEntry {H : Type} : Lit × DataW H → Nat
  | (.string bytes, d) => bytes.length + uptoBulk d + 1
  | (_, d) => uptoBulk d + 1
 end
def uptoSmall : (H : Type) → List (DataW H) → Bool := fun _ ds => decide (uptoBulkAll ds ≤ 1048576)
def OpenSpec.upto (s : _root_.Go.ChangeSpec) : _root_.Go.OpenSpec := { _root_.Go.OpenSpec.ofChange s with cond := some uptoSmall }

/-- 'depositorylaw04.BitmapExtents', WHERE WHAT IT READS IS OF BULK AT MOST 1048576: true; the input reads as it did. -/
def bitmapExtentsUptoRow : OpenClaim := { program := "yteiglmkppgjcbaa", sum := "2b262e7c5842e831969fe20c7384c75e59f85f2ea9c9f8c2a9ef7b97c08e3985", func := "depository/depositorylaw04.BitmapExtents", spec := "bitmapExtents", unfollowed := true, recurses := true, apart := false, narrowed := true }
def BitmapExtentsUptoSaid : Prop := bitmapExtentsUptoRow.holds Try.pinned (OpenSpec.upto bitmapExtentsSpec)

/-- 'depositorylaw04.BitmapChecks', WHERE WHAT IT READS IS OF BULK AT MOST 1048576: true; the input reads as it did. -/
def bitmapChecksUptoRow : OpenClaim := { program := "yteiglmkppgjcbaa", sum := "2b262e7c5842e831969fe20c7384c75e59f85f2ea9c9f8c2a9ef7b97c08e3985", func := "depository/depositorylaw04.BitmapChecks", spec := "bitmapChecks", unfollowed := true, recurses := true, apart := false, narrowed := true }
def BitmapChecksUptoSaid : Prop := bitmapChecksUptoRow.holds Try.pinned (OpenSpec.upto bitmapChecksSpec)

/-- 'depositorylaw04.BitmapBack', WHERE WHAT IT READS IS OF BULK AT MOST 1048576: true; the input reads as it did. -/
def bitmapBackUptoRow : OpenClaim := { program := "yteiglmkppgjcbaa", sum := "2b262e7c5842e831969fe20c7384c75e59f85f2ea9c9f8c2a9ef7b97c08e3985", func := "depository/depositorylaw04.BitmapBack", spec := "bitmapBack", unfollowed := true, recurses := true, apart := false, narrowed := true }
def BitmapBackUptoSaid : Prop := bitmapBackUptoRow.holds Try.pinned (OpenSpec.upto bitmapBackSpec)

/-- 'depositorylaw04.BitmapRoom', WHERE WHAT IT READS IS OF BULK AT MOST 1048576: true; the input reads as it did. -/
def bitmapRoomUptoRow : OpenClaim := { program := "yteiglmkppgjcbaa", sum := "2b262e7c5842e831969fe20c7384c75e59f85f2ea9c9f8c2a9ef7b97c08e3985", func := "depository/depositorylaw04.BitmapRoom", spec := "bitmapRoom", unfollowed := true, recurses := true, apart := false, narrowed := true }
def BitmapRoomUptoSaid : Prop := bitmapRoomUptoRow.holds Try.pinned (OpenSpec.upto bitmapRoomSpec)

/-- 'depositorylaw04.BitmapFits', WHERE WHAT IT READS IS OF BULK AT MOST 1048576: true; the input reads as it did. -/
def bitmapFitsUptoRow : OpenClaim := { program := "yteiglmkppgjcbaa", sum := "2b262e7c5842e831969fe20c7384c75e59f85f2ea9c9f8c2a9ef7b97c08e3985", func := "depository/depositorylaw04.BitmapFits", spec := "bitmapFits", unfollowed := true, recurses := true, apart := false, narrowed := true }
def BitmapFitsUptoSaid : Prop := bitmapFitsUptoRow.holds Try.pinned (OpenSpec.upto bitmapFitsSpec)

/-- 'depositorylaw04.BitmapMarks', WHERE WHAT IT READS IS OF BULK AT MOST 1048576: true; the input reads as it did. -/
def bitmapMarksUptoRow : OpenClaim := { program := "yteiglmkppgjcbaa", sum := "2b262e7c5842e831969fe20c7384c75e59f85f2ea9c9f8c2a9ef7b97c08e3985", func := "depository/depositorylaw04.BitmapMarks", spec := "bitmapMarks", unfollowed := true, recurses := true, apart := false, narrowed := true }
def BitmapMarksUptoSaid : Prop := bitmapMarksUptoRow.holds Try.pinned (OpenSpec.upto bitmapMarksSpec)

end Rows
end Go.Proofs.Yteiglmkppgjcbaa
