/-
  No cell of these rows narrows 'for every input' (looked for: loops, veiled, ifaces, maps, wideKeys, modest, calm, conditions, laid).
  DERIVED. THE GIVEN ROWS OF THIS SEAT. 9 by the template 'for every input the law returns true; each argument reads behind the call as it read before'; 0 by the template 'total and deterministic' (their statements: YtmdfbbcifbgdnaaGreatTotals.lean).
  GIVEN WITH THE SEED: the statements are not yours to turn. If you find one false, say at which input.
  Laid BY PROGRAM, IN A SANDBOX (cutbox-rows.mjs): the forced cells as the released guide's own fill.sh prints them over the translation 9f2c555703c6f90a… (all of the seat's roots in one cut). By AI agents, Wed Nov 11 2026. No macro, syntax, notation, axiom, sorry.
-/
import Derived.Test.YtmdfbbcifbgdnaaGreatChecked
import GoSem.Claim
import GoSem.ClaimJoined
import GoSem.ClaimMapViews
import Derived.JoinedTies
import Derived.KernelRfl
namespace Go.Proofs.YtmdfbbcifbgdnaaGreat
/- THE CELL 'sum', in the pinned program and in every row, IS THE sha256 OF THE DUMP (.gsa) THAT YtmdfbbcifbgdnaaGreatProg.lean LOADS. Nothing in Lean hashes anything: it is a label: what it is worth is what the hold of that sum in a sandbox is worth. -/
noncomputable def Tryz.pinned : Pinned := { name := "ytmdfbbcifbgdnaagreat", sum := "9f2c555703c6f90a4a6cd03dd4b0dd48c751214d06981ec6aa26294f6d9a4851", checked := Tryz.checked }
namespace Rows
def none {H : Type} : Left H := { results := [], args := [] }

/-- 'depositorylaw32.MoverPieces': WHATEVER THE INPUT: true; the input reads as it did. -/
def moverPiecesSpec : ChangeSpec := { name := "moverPieces", fn := fun _ => fun
  | [d1, d2] => { results := [.lit (.bool true)], args := [d1, d2] }
  | _ => none }
def moverPiecesRow : OpenClaim := { program := "ytmdfbbcifbgdnaagreat", sum := "9f2c555703c6f90a4a6cd03dd4b0dd48c751214d06981ec6aa26294f6d9a4851", func := "depository/depositorylaw32.MoverPieces", spec := "moverPieces", inPlace := ["internal/bytealg.IndexByteString", "internal/abi.NoEscape", "internal/bytealg.MakeNoZero"], unfollowed := true, recurses := true, apart := false }
def MoverPiecesSaid : Prop := moverPiecesRow.holds Tryz.pinned (OpenSpec.ofChange moverPiecesSpec)

/-- ITS FALSE NEIGHBOUR: 'it returns false'. Refute it at one input. -/
def moverPiecesWrong : ChangeSpec := { name := "moverPieces", fn := fun _ => fun
  | [d1, d2] => { results := [.lit (.bool false)], args := [d1, d2] }
  | _ => none }
def MoverPiecesWrongFalsely : Prop := moverPiecesRow.holds Tryz.pinned (OpenSpec.ofChange moverPiecesWrong)

/-- 'depositorylaw32.MoverChecks': WHATEVER THE INPUT: true; the input reads as it did. -/
def moverChecksSpec : ChangeSpec := { name := "moverChecks", fn := fun _ => fun
  | [d] => { results := [.lit (.bool true)], args := [d] }
  | _ => none }
def moverChecksRow : OpenClaim := { program := "ytmdfbbcifbgdnaagreat", sum := "9f2c555703c6f90a4a6cd03dd4b0dd48c751214d06981ec6aa26294f6d9a4851", func := "depository/depositorylaw32.MoverChecks", spec := "moverChecks", inPlace := ["internal/bytealg.IndexByteString", "internal/abi.NoEscape", "internal/bytealg.MakeNoZero"], unfollowed := true, recurses := true, apart := false }
def MoverChecksSaid : Prop := moverChecksRow.holds Tryz.pinned (OpenSpec.ofChange moverChecksSpec)

/-- ITS FALSE NEIGHBOUR: 'it returns false'. Refute it at one input. -/
def moverChecksWrong : ChangeSpec := { name := "moverChecks", fn := fun _ => fun
  | [d] => { results := [.lit (.bool false)], args := [d] }
  | _ => none }
def MoverChecksWrongFalsely : Prop := moverChecksRow.holds Tryz.pinned (OpenSpec.ofChange moverChecksWrong)

/-- 'depositorylaw32.MoverSizes': WHATEVER THE INPUT: true; the input reads as it did. -/
def moverSizesSpec : ChangeSpec := { name := "moverSizes", fn := fun _ => fun
  | [d1, d2, d3] => { results := [.lit (.bool true)], args := [d1, d2, d3] }
  | _ => none }
def moverSizesRow : OpenClaim := { program := "ytmdfbbcifbgdnaagreat", sum := "9f2c555703c6f90a4a6cd03dd4b0dd48c751214d06981ec6aa26294f6d9a4851", func := "depository/depositorylaw32.MoverSizes", spec := "moverSizes", inPlace := ["internal/bytealg.IndexByteString", "internal/abi.NoEscape", "internal/bytealg.MakeNoZero"], unfollowed := true, recurses := true, apart := false }
def MoverSizesSaid : Prop := moverSizesRow.holds Tryz.pinned (OpenSpec.ofChange moverSizesSpec)

/-- ITS FALSE NEIGHBOUR: 'it returns false'. Refute it at one input. -/
def moverSizesWrong : ChangeSpec := { name := "moverSizes", fn := fun _ => fun
  | [d1, d2, d3] => { results := [.lit (.bool false)], args := [d1, d2, d3] }
  | _ => none }
def MoverSizesWrongFalsely : Prop := moverSizesRow.holds Tryz.pinned (OpenSpec.ofChange moverSizesWrong)

/-- 'depositorylaw32.MoverPlans': WHATEVER THE INPUT: true; the input reads as it did. -/
def moverPlansSpec : ChangeSpec := { name := "moverPlans", fn := fun _ => fun
  | [d1, d2] => { results := [.lit (.bool true)], args := [d1, d2] }
  | _ => none }
def moverPlansRow : OpenClaim := { program := "ytmdfbbcifbgdnaagreat", sum := "9f2c555703c6f90a4a6cd03dd4b0dd48c751214d06981ec6aa26294f6d9a4851", func := "depository/depositorylaw32.MoverPlans", spec := "moverPlans", inPlace := ["internal/bytealg.IndexByteString", "internal/abi.NoEscape", "internal/bytealg.MakeNoZero"], unfollowed := true, recurses := true, apart := false }
def MoverPlansSaid : Prop := moverPlansRow.holds Tryz.pinned (OpenSpec.ofChange moverPlansSpec)

/-- ITS FALSE NEIGHBOUR: 'it returns false'. Refute it at one input. -/
def moverPlansWrong : ChangeSpec := { name := "moverPlans", fn := fun _ => fun
  | [d1, d2] => { results := [.lit (.bool false)], args := [d1, d2] }
  | _ => none }
def MoverPlansWrongFalsely : Prop := moverPlansRow.holds Tryz.pinned (OpenSpec.ofChange moverPlansWrong)

/-- 'depositorylaw32.MoverStates': WHATEVER THE INPUT: true; the input reads as it did. -/
def moverStatesSpec : ChangeSpec := { name := "moverStates", fn := fun _ => fun
  | [d1, d2] => { results := [.lit (.bool true)], args := [d1, d2] }
  | _ => none }
def moverStatesRow : OpenClaim := { program := "ytmdfbbcifbgdnaagreat", sum := "9f2c555703c6f90a4a6cd03dd4b0dd48c751214d06981ec6aa26294f6d9a4851", func := "depository/depositorylaw32.MoverStates", spec := "moverStates", inPlace := ["internal/bytealg.IndexByteString", "internal/abi.NoEscape", "internal/bytealg.MakeNoZero"], unfollowed := true, recurses := true, apart := false }
def MoverStatesSaid : Prop := moverStatesRow.holds Tryz.pinned (OpenSpec.ofChange moverStatesSpec)

/-- ITS FALSE NEIGHBOUR: 'it returns false'. Refute it at one input. -/
def moverStatesWrong : ChangeSpec := { name := "moverStates", fn := fun _ => fun
  | [d1, d2] => { results := [.lit (.bool false)], args := [d1, d2] }
  | _ => none }
def MoverStatesWrongFalsely : Prop := moverStatesRow.holds Tryz.pinned (OpenSpec.ofChange moverStatesWrong)

/-- 'depositorylaw32.MoverClears': WHATEVER THE INPUT: true; the input reads as it did. -/
def moverClearsSpec : ChangeSpec := { name := "moverClears", fn := fun _ => fun
  | [d1, d2] => { results := [.lit (.bool true)], args := [d1, d2] }
  | _ => none }
def moverClearsRow : OpenClaim := { program := "ytmdfbbcifbgdnaagreat", sum := "9f2c555703c6f90a4a6cd03dd4b0dd48c751214d06981ec6aa26294f6d9a4851", func := "depository/depositorylaw32.MoverClears", spec := "moverClears", inPlace := ["internal/bytealg.IndexByteString", "internal/abi.NoEscape", "internal/bytealg.MakeNoZero"], unfollowed := true, recurses := true, apart := false }
def MoverClearsSaid : Prop := moverClearsRow.holds Tryz.pinned (OpenSpec.ofChange moverClearsSpec)

/-- ITS FALSE NEIGHBOUR: 'it returns false'. Refute it at one input. -/
def moverClearsWrong : ChangeSpec := { name := "moverClears", fn := fun _ => fun
  | [d1, d2] => { results := [.lit (.bool false)], args := [d1, d2] }
  | _ => none }
def MoverClearsWrongFalsely : Prop := moverClearsRow.holds Tryz.pinned (OpenSpec.ofChange moverClearsWrong)

/-- 'depositorylaw32.MoverOnePiece': WHATEVER THE INPUT: true; the input reads as it did. -/
def moverOnePieceSpec : ChangeSpec := { name := "moverOnePiece", fn := fun _ => fun
  | [d1, d2] => { results := [.lit (.bool true)], args := [d1, d2] }
  | _ => none }
def moverOnePieceRow : OpenClaim := { program := "ytmdfbbcifbgdnaagreat", sum := "9f2c555703c6f90a4a6cd03dd4b0dd48c751214d06981ec6aa26294f6d9a4851", func := "depository/depositorylaw32.MoverOnePiece", spec := "moverOnePiece", inPlace := ["internal/bytealg.IndexByteString", "internal/abi.NoEscape", "internal/bytealg.MakeNoZero"], unfollowed := true, recurses := true, apart := false }
def MoverOnePieceSaid : Prop := moverOnePieceRow.holds Tryz.pinned (OpenSpec.ofChange moverOnePieceSpec)

/-- ITS FALSE NEIGHBOUR: 'it returns false'. Refute it at one input. -/
def moverOnePieceWrong : ChangeSpec := { name := "moverOnePiece", fn := fun _ => fun
  | [d1, d2] => { results := [.lit (.bool false)], args := [d1, d2] }
  | _ => none }
def MoverOnePieceWrongFalsely : Prop := moverOnePieceRow.holds Tryz.pinned (OpenSpec.ofChange moverOnePieceWrong)

/-- 'depositorylaw32.MoverRuns': WHATEVER THE INPUT: true; the input reads as it did. -/
def moverRunsSpec : ChangeSpec := { name := "moverRuns", fn := fun _ => fun
  | [d1, d2] => { results := [.lit (.bool true)], args := [d1, d2] }
  | _ => none }
def moverRunsRow : OpenClaim := { program := "ytmdfbbcifbgdnaagreat", sum := "9f2c555703c6f90a4a6cd03dd4b0dd48c751214d06981ec6aa26294f6d9a4851", func := "depository/depositorylaw32.MoverRuns", spec := "moverRuns", inPlace := ["internal/bytealg.IndexByteString", "internal/abi.NoEscape", "internal/bytealg.MakeNoZero"], unfollowed := true, recurses := true, apart := false }
def MoverRunsSaid : Prop := moverRunsRow.holds Tryz.pinned (OpenSpec.ofChange moverRunsSpec)

/-- ITS FALSE NEIGHBOUR: 'it returns false'. Refute it at one input. -/
def moverRunsWrong : ChangeSpec := { name := "moverRuns", fn := fun _ => fun
  | [d1, d2] => { results := [.lit (.bool false)], args := [d1, d2] }
  | _ => none }
def MoverRunsWrongFalsely : Prop := moverRunsRow.holds Tryz.pinned (OpenSpec.ofChange moverRunsWrong)

/-- 'depositorylaw32.MoverAnswers': WHATEVER THE INPUT: true; the input reads as it did. -/
def moverAnswersSpec : ChangeSpec := { name := "moverAnswers", fn := fun _ => fun
  | [d1, d2] => { results := [.lit (.bool true)], args := [d1, d2] }
  | _ => none }
def moverAnswersRow : OpenClaim := { program := "ytmdfbbcifbgdnaagreat", sum := "9f2c555703c6f90a4a6cd03dd4b0dd48c751214d06981ec6aa26294f6d9a4851", func := "depository/depositorylaw32.MoverAnswers", spec := "moverAnswers", inPlace := ["internal/bytealg.IndexByteString", "internal/abi.NoEscape", "internal/bytealg.MakeNoZero"], unfollowed := true, recurses := true, apart := false }
def MoverAnswersSaid : Prop := moverAnswersRow.holds Tryz.pinned (OpenSpec.ofChange moverAnswersSpec)

/-- ITS FALSE NEIGHBOUR: 'it returns false'. Refute it at one input. -/
def moverAnswersWrong : ChangeSpec := { name := "moverAnswers", fn := fun _ => fun
  | [d1, d2] => { results := [.lit (.bool false)], args := [d1, d2] }
  | _ => none }
def MoverAnswersWrongFalsely : Prop := moverAnswersRow.holds Tryz.pinned (OpenSpec.ofChange moverAnswersWrong)

/- THE SECOND FORM. 'bulk': how many values and letters a reading holds, each counted each time it is reached (what is shared counts as often as it is met; a slice's spare places count too). A statement '..UptoSaid' is the law's where the arguments, and the package variables that the reading takes, are together of bulk at most 1048576: NARROWER than '..Said'. Prove '..Said' where nothing that the law and all that it calls make is longer than what came in: it says more and counts as full. Else prove '..UptoSaid'. A law counts once. -/
mutual
def uptoBulk {H : Type} : DataW H → Nat
  | .lit (.string bytes) => bytes.length + 1
  | .lit _ => 1
  | .nil => 1
  | .ptr d => uptoBulk d + 1
  | .slice elems spare => uptoBulkAll elems + uptoBulkAll spare + 1
  | .agg parts => uptoBulkAll parts + 1
  | .iface _ d => uptoBulk d + 1
  | .map entries => uptoBulkEntries entries + 1
  | .held _ => 1
def uptoBulkAll {H : Type} : List (DataW H) → Nat
  | [] => 0
  | d :: r => uptoBulk d + uptoBulkAll r
def uptoBulkEntries {H : Type} : List (Lit × DataW H) → Nat
  | [] => 0
  | x :: r => uptoBulkEntry x + uptoBulkEntries r
def uptoBulkEntry {H : Type} : Lit × DataW H → Nat
  | (.string bytes, d) => bytes.length + uptoBulk d + 1
  | (_, d) => uptoBulk d + 1
 end
def uptoSmall : (H : Type) → List (DataW H) → Bool := fun _ ds => decide (uptoBulkAll ds ≤ 1048576)
def OpenSpec.upto (s : _root_.Go.ChangeSpec) : _root_.Go.OpenSpec := { _root_.Go.OpenSpec.ofChange s with cond := some uptoSmall }

/-- 'depositorylaw32.MoverPieces', WHERE WHAT IT READS IS OF BULK AT MOST 1048576: true; the input reads as it did. -/
def moverPiecesUptoRow : OpenClaim := { program := "ytmdfbbcifbgdnaagreat", sum := "9f2c555703c6f90a4a6cd03dd4b0dd48c751214d06981ec6aa26294f6d9a4851", func := "depository/depositorylaw32.MoverPieces", spec := "moverPieces", inPlace := ["internal/bytealg.IndexByteString", "internal/abi.NoEscape", "internal/bytealg.MakeNoZero"], unfollowed := true, recurses := true, apart := false, narrowed := true }
def MoverPiecesUptoSaid : Prop := moverPiecesUptoRow.holds Tryz.pinned (OpenSpec.upto moverPiecesSpec)

/-- 'depositorylaw32.MoverChecks', WHERE WHAT IT READS IS OF BULK AT MOST 1048576: true; the input reads as it did. -/
def moverChecksUptoRow : OpenClaim := { program := "ytmdfbbcifbgdnaagreat", sum := "9f2c555703c6f90a4a6cd03dd4b0dd48c751214d06981ec6aa26294f6d9a4851", func := "depository/depositorylaw32.MoverChecks", spec := "moverChecks", inPlace := ["internal/bytealg.IndexByteString", "internal/abi.NoEscape", "internal/bytealg.MakeNoZero"], unfollowed := true, recurses := true, apart := false, narrowed := true }
def MoverChecksUptoSaid : Prop := moverChecksUptoRow.holds Tryz.pinned (OpenSpec.upto moverChecksSpec)

/-- 'depositorylaw32.MoverSizes', WHERE WHAT IT READS IS OF BULK AT MOST 1048576: true; the input reads as it did. -/
def moverSizesUptoRow : OpenClaim := { program := "ytmdfbbcifbgdnaagreat", sum := "9f2c555703c6f90a4a6cd03dd4b0dd48c751214d06981ec6aa26294f6d9a4851", func := "depository/depositorylaw32.MoverSizes", spec := "moverSizes", inPlace := ["internal/bytealg.IndexByteString", "internal/abi.NoEscape", "internal/bytealg.MakeNoZero"], unfollowed := true, recurses := true, apart := false, narrowed := true }
def MoverSizesUptoSaid : Prop := moverSizesUptoRow.holds Tryz.pinned (OpenSpec.upto moverSizesSpec)

/-- 'depositorylaw32.MoverPlans', WHERE WHAT IT READS IS OF BULK AT MOST 1048576: true; the input reads as it did. -/
def moverPlansUptoRow : OpenClaim := { program := "ytmdfbbcifbgdnaagreat", sum := "9f2c555703c6f90a4a6cd03dd4b0dd48c751214d06981ec6aa26294f6d9a4851", func := "depository/depositorylaw32.MoverPlans", spec := "moverPlans", inPlace := ["internal/bytealg.IndexByteString", "internal/abi.NoEscape", "internal/bytealg.MakeNoZero"], unfollowed := true, recurses := true, apart := false, narrowed := true }
def MoverPlansUptoSaid : Prop := moverPlansUptoRow.holds Tryz.pinned (OpenSpec.upto moverPlansSpec)

/-- 'depositorylaw32.MoverStates', WHERE WHAT IT READS IS OF BULK AT MOST 1048576: true; the input reads as it did. -/
def moverStatesUptoRow : OpenClaim := { program := "ytmdfbbcifbgdnaagreat", sum := "9f2c555703c6f90a4a6cd03dd4b0dd48c751214d06981ec6aa26294f6d9a4851", func := "depository/depositorylaw32.MoverStates", spec := "moverStates", inPlace := ["internal/bytealg.IndexByteString", "internal/abi.NoEscape", "internal/bytealg.MakeNoZero"], unfollowed := true, recurses := true, apart := false, narrowed := true }
def MoverStatesUptoSaid : Prop := moverStatesUptoRow.holds Tryz.pinned (OpenSpec.upto moverStatesSpec)

/-- 'depositorylaw32.MoverClears', WHERE WHAT IT READS IS OF BULK AT MOST 1048576: true; the input reads as it did. -/
def moverClearsUptoRow : OpenClaim := { program := "ytmdfbbcifbgdnaagreat", sum := "9f2c555703c6f90a4a6cd03dd4b0dd48c751214d06981ec6aa26294f6d9a4851", func := "depository/depositorylaw32.MoverClears", spec := "moverClears", inPlace := ["internal/bytealg.IndexByteString", "internal/abi.NoEscape", "internal/bytealg.MakeNoZero"], unfollowed := true, recurses := true, apart := false, narrowed := true }
def MoverClearsUptoSaid : Prop := moverClearsUptoRow.holds Tryz.pinned (OpenSpec.upto moverClearsSpec)

/-- 'depositorylaw32.MoverOnePiece', WHERE WHAT IT READS IS OF BULK AT MOST 1048576: true; the input reads as it did. -/
def moverOnePieceUptoRow : OpenClaim := { program := "ytmdfbbcifbgdnaagreat", sum := "9f2c555703c6f90a4a6cd03dd4b0dd48c751214d06981ec6aa26294f6d9a4851", func := "depository/depositorylaw32.MoverOnePiece", spec := "moverOnePiece", inPlace := ["internal/bytealg.IndexByteString", "internal/abi.NoEscape", "internal/bytealg.MakeNoZero"], unfollowed := true, recurses := true, apart := false, narrowed := true }
def MoverOnePieceUptoSaid : Prop := moverOnePieceUptoRow.holds Tryz.pinned (OpenSpec.upto moverOnePieceSpec)

/-- 'depositorylaw32.MoverRuns', WHERE WHAT IT READS IS OF BULK AT MOST 1048576: true; the input reads as it did. -/
def moverRunsUptoRow : OpenClaim := { program := "ytmdfbbcifbgdnaagreat", sum := "9f2c555703c6f90a4a6cd03dd4b0dd48c751214d06981ec6aa26294f6d9a4851", func := "depository/depositorylaw32.MoverRuns", spec := "moverRuns", inPlace := ["internal/bytealg.IndexByteString", "internal/abi.NoEscape", "internal/bytealg.MakeNoZero"], unfollowed := true, recurses := true, apart := false, narrowed := true }
def MoverRunsUptoSaid : Prop := moverRunsUptoRow.holds Tryz.pinned (OpenSpec.upto moverRunsSpec)

/-- 'depositorylaw32.MoverAnswers', WHERE WHAT IT READS IS OF BULK AT MOST 1048576: true; the input reads as it did. -/
def moverAnswersUptoRow : OpenClaim := { program := "ytmdfbbcifbgdnaagreat", sum := "9f2c555703c6f90a4a6cd03dd4b0dd48c751214d06981ec6aa26294f6d9a4851", func := "depository/depositorylaw32.MoverAnswers", spec := "moverAnswers", inPlace := ["internal/bytealg.IndexByteString", "internal/abi.NoEscape", "internal/bytealg.MakeNoZero"], unfollowed := true, recurses := true, apart := false, narrowed := true }
def MoverAnswersUptoSaid : Prop := moverAnswersUptoRow.holds Tryz.pinned (OpenSpec.upto moverAnswersSpec)

end Rows
end Go.Proofs.YtmdfbbcifbgdnaaGreat
