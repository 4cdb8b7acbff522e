/-
  No cell of these rows narrows 'for every input' (looked for: loops, veiled, ifaces, maps, wideKeys, modest, calm, conditions, laid).
  DERIVED. THE GIVEN ROWS OF THIS SEAT. 9 by the template 'for every input the law returns true; each argument reads behind the call as it read before'; 0 by the template 'total and deterministic' (their statements: YthibkikicnaciaaTotals.lean).
  GIVEN WITH THE SEED: the statements are not yours to turn. If you find one false, say at which input.
  Laid BY PROGRAM, IN A SANDBOX (cutbox-rows.mjs): the forced cells as the released guide's own fill.sh prints them over the translation 167ab674c00385e1… (all of the seat's roots in one cut). By AI agents, Wed Nov 11 2026. No macro, syntax, notation, axiom, sorry.
-/
import Derived.Test.YthibkikicnaciaaChecked
import GoSem.Claim
import GoSem.ClaimJoined
import GoSem.ClaimMapViews
import Derived.JoinedTies
import Derived.KernelRfl
namespace Go.Proofs.Ythibkikicnaciaa
/- THE CELL 'sum', in the pinned program and in every row, IS THE sha256 OF THE DUMP (.gsa) THAT YthibkikicnaciaaProg.lean LOADS. Nothing in Lean hashes anything: it is a label: what it is worth is what the hold of that sum in a sandbox is worth. -/
noncomputable def Try.pinned : Pinned := { name := "ythibkikicnaciaa", sum := "167ab674c00385e183711dd73b7c36dd1ea300b0ac89b8c92c0198a309a1efba", checked := Try.checked }
namespace Rows
def none {H : Type} : Left H := { results := [], args := [] }

/-- 'depositorylaw06.CompressGreedy': WHATEVER THE INPUT: true; the input reads as it did. -/
def compressGreedySpec : ChangeSpec := { name := "compressGreedy", fn := fun _ => fun
  | [d] => { results := [.lit (.bool true)], args := [d] }
  | _ => none }
def compressGreedyRow : OpenClaim := { program := "ythibkikicnaciaa", sum := "167ab674c00385e183711dd73b7c36dd1ea300b0ac89b8c92c0198a309a1efba", func := "depository/depositorylaw06.CompressGreedy", spec := "compressGreedy", inPlace := ["internal/abi.NoEscape"], unfollowed := true, recurses := true, apart := false }
def CompressGreedySaid : Prop := compressGreedyRow.holds Try.pinned (OpenSpec.ofChange compressGreedySpec)

/-- ITS FALSE NEIGHBOUR: 'it returns false'. Refute it at one input. -/
def compressGreedyWrong : ChangeSpec := { name := "compressGreedy", fn := fun _ => fun
  | [d] => { results := [.lit (.bool false)], args := [d] }
  | _ => none }
def CompressGreedyWrongFalsely : Prop := compressGreedyRow.holds Try.pinned (OpenSpec.ofChange compressGreedyWrong)

/-- 'depositorylaw06.CompressOptimal': WHATEVER THE INPUT: true; the input reads as it did. -/
def compressOptimalSpec : ChangeSpec := { name := "compressOptimal", fn := fun _ => fun
  | [d] => { results := [.lit (.bool true)], args := [d] }
  | _ => none }
def compressOptimalRow : OpenClaim := { program := "ythibkikicnaciaa", sum := "167ab674c00385e183711dd73b7c36dd1ea300b0ac89b8c92c0198a309a1efba", func := "depository/depositorylaw06.CompressOptimal", spec := "compressOptimal", inPlace := ["internal/abi.NoEscape"], unfollowed := true, recurses := true, apart := false }
def CompressOptimalSaid : Prop := compressOptimalRow.holds Try.pinned (OpenSpec.ofChange compressOptimalSpec)

/-- ITS FALSE NEIGHBOUR: 'it returns false'. Refute it at one input. -/
def compressOptimalWrong : ChangeSpec := { name := "compressOptimal", fn := fun _ => fun
  | [d] => { results := [.lit (.bool false)], args := [d] }
  | _ => none }
def CompressOptimalWrongFalsely : Prop := compressOptimalRow.holds Try.pinned (OpenSpec.ofChange compressOptimalWrong)

/-- 'depositorylaw06.CompressShifts': WHATEVER THE INPUT: true; the input reads as it did. -/
def compressShiftsSpec : ChangeSpec := { name := "compressShifts", fn := fun _ => fun
  | [d] => { results := [.lit (.bool true)], args := [d] }
  | _ => none }
def compressShiftsRow : OpenClaim := { program := "ythibkikicnaciaa", sum := "167ab674c00385e183711dd73b7c36dd1ea300b0ac89b8c92c0198a309a1efba", func := "depository/depositorylaw06.CompressShifts", spec := "compressShifts", inPlace := ["internal/abi.NoEscape"], unfollowed := true, recurses := true, apart := false }
def CompressShiftsSaid : Prop := compressShiftsRow.holds Try.pinned (OpenSpec.ofChange compressShiftsSpec)

/-- ITS FALSE NEIGHBOUR: 'it returns false'. Refute it at one input. -/
def compressShiftsWrong : ChangeSpec := { name := "compressShifts", fn := fun _ => fun
  | [d] => { results := [.lit (.bool false)], args := [d] }
  | _ => none }
def CompressShiftsWrongFalsely : Prop := compressShiftsRow.holds Try.pinned (OpenSpec.ofChange compressShiftsWrong)

/-- 'depositorylaw06.CompressCosts': WHATEVER THE INPUT: true; the input reads as it did. -/
def compressCostsSpec : ChangeSpec := { name := "compressCosts", fn := fun _ => fun
  | [d1, d2] => { results := [.lit (.bool true)], args := [d1, d2] }
  | _ => none }
def compressCostsRow : OpenClaim := { program := "ythibkikicnaciaa", sum := "167ab674c00385e183711dd73b7c36dd1ea300b0ac89b8c92c0198a309a1efba", func := "depository/depositorylaw06.CompressCosts", spec := "compressCosts", inPlace := ["internal/abi.NoEscape"], unfollowed := true, recurses := true, apart := false }
def CompressCostsSaid : Prop := compressCostsRow.holds Try.pinned (OpenSpec.ofChange compressCostsSpec)

/-- ITS FALSE NEIGHBOUR: 'it returns false'. Refute it at one input. -/
def compressCostsWrong : ChangeSpec := { name := "compressCosts", fn := fun _ => fun
  | [d1, d2] => { results := [.lit (.bool false)], args := [d1, d2] }
  | _ => none }
def CompressCostsWrongFalsely : Prop := compressCostsRow.holds Try.pinned (OpenSpec.ofChange compressCostsWrong)

/-- 'depositorylaw06.CompressBest': WHATEVER THE INPUT: true; the input reads as it did. -/
def compressBestSpec : ChangeSpec := { name := "compressBest", fn := fun _ => fun
  | [d1, d2, d3] => { results := [.lit (.bool true)], args := [d1, d2, d3] }
  | _ => none }
def compressBestRow : OpenClaim := { program := "ythibkikicnaciaa", sum := "167ab674c00385e183711dd73b7c36dd1ea300b0ac89b8c92c0198a309a1efba", func := "depository/depositorylaw06.CompressBest", spec := "compressBest", inPlace := ["internal/abi.NoEscape"], unfollowed := true, recurses := true, apart := false }
def CompressBestSaid : Prop := compressBestRow.holds Try.pinned (OpenSpec.ofChange compressBestSpec)

/-- ITS FALSE NEIGHBOUR: 'it returns false'. Refute it at one input. -/
def compressBestWrong : ChangeSpec := { name := "compressBest", fn := fun _ => fun
  | [d1, d2, d3] => { results := [.lit (.bool false)], args := [d1, d2, d3] }
  | _ => none }
def CompressBestWrongFalsely : Prop := compressBestRow.holds Try.pinned (OpenSpec.ofChange compressBestWrong)

/-- 'depositorylaw06.CompressTokens': WHATEVER THE INPUT: true; the input reads as it did. -/
def compressTokensSpec : ChangeSpec := { name := "compressTokens", fn := fun _ => fun
  | [d] => { results := [.lit (.bool true)], args := [d] }
  | _ => none }
def compressTokensRow : OpenClaim := { program := "ythibkikicnaciaa", sum := "167ab674c00385e183711dd73b7c36dd1ea300b0ac89b8c92c0198a309a1efba", func := "depository/depositorylaw06.CompressTokens", spec := "compressTokens", inPlace := ["internal/abi.NoEscape"], unfollowed := true, recurses := true, apart := false }
def CompressTokensSaid : Prop := compressTokensRow.holds Try.pinned (OpenSpec.ofChange compressTokensSpec)

/-- ITS FALSE NEIGHBOUR: 'it returns false'. Refute it at one input. -/
def compressTokensWrong : ChangeSpec := { name := "compressTokens", fn := fun _ => fun
  | [d] => { results := [.lit (.bool false)], args := [d] }
  | _ => none }
def CompressTokensWrongFalsely : Prop := compressTokensRow.holds Try.pinned (OpenSpec.ofChange compressTokensWrong)

/-- 'depositorylaw06.CompressDecodes': WHATEVER THE INPUT: true; the input reads as it did. -/
def compressDecodesSpec : ChangeSpec := { name := "compressDecodes", fn := fun _ => fun
  | [d] => { results := [.lit (.bool true)], args := [d] }
  | _ => none }
def compressDecodesRow : OpenClaim := { program := "ythibkikicnaciaa", sum := "167ab674c00385e183711dd73b7c36dd1ea300b0ac89b8c92c0198a309a1efba", func := "depository/depositorylaw06.CompressDecodes", spec := "compressDecodes", inPlace := ["internal/abi.NoEscape"], unfollowed := true, recurses := true, apart := false }
def CompressDecodesSaid : Prop := compressDecodesRow.holds Try.pinned (OpenSpec.ofChange compressDecodesSpec)

/-- ITS FALSE NEIGHBOUR: 'it returns false'. Refute it at one input. -/
def compressDecodesWrong : ChangeSpec := { name := "compressDecodes", fn := fun _ => fun
  | [d] => { results := [.lit (.bool false)], args := [d] }
  | _ => none }
def CompressDecodesWrongFalsely : Prop := compressDecodesRow.holds Try.pinned (OpenSpec.ofChange compressDecodesWrong)

/-- 'depositorylaw06.CompressUnits': WHATEVER THE INPUT: true; the input reads as it did. -/
def compressUnitsSpec : ChangeSpec := { name := "compressUnits", fn := fun _ => fun
  | [d1, d2, d3] => { results := [.lit (.bool true)], args := [d1, d2, d3] }
  | _ => none }
def compressUnitsRow : OpenClaim := { program := "ythibkikicnaciaa", sum := "167ab674c00385e183711dd73b7c36dd1ea300b0ac89b8c92c0198a309a1efba", func := "depository/depositorylaw06.CompressUnits", spec := "compressUnits", inPlace := ["internal/abi.NoEscape", "internal/bytealg.MakeNoZero"], unfollowed := true, recurses := true, apart := false }
def CompressUnitsSaid : Prop := compressUnitsRow.holds Try.pinned (OpenSpec.ofChange compressUnitsSpec)

/-- ITS FALSE NEIGHBOUR: 'it returns false'. Refute it at one input. -/
def compressUnitsWrong : ChangeSpec := { name := "compressUnits", fn := fun _ => fun
  | [d1, d2, d3] => { results := [.lit (.bool false)], args := [d1, d2, d3] }
  | _ => none }
def CompressUnitsWrongFalsely : Prop := compressUnitsRow.holds Try.pinned (OpenSpec.ofChange compressUnitsWrong)

/-- 'depositorylaw06.CompressRound': WHATEVER THE INPUT: true; the input reads as it did. -/
def compressRoundSpec : ChangeSpec := { name := "compressRound", fn := fun _ => fun
  | [d1, d2, d3] => { results := [.lit (.bool true)], args := [d1, d2, d3] }
  | _ => none }
def compressRoundRow : OpenClaim := { program := "ythibkikicnaciaa", sum := "167ab674c00385e183711dd73b7c36dd1ea300b0ac89b8c92c0198a309a1efba", func := "depository/depositorylaw06.CompressRound", spec := "compressRound", inPlace := ["internal/abi.NoEscape", "internal/bytealg.MakeNoZero"], unfollowed := true, recurses := true, apart := false }
def CompressRoundSaid : Prop := compressRoundRow.holds Try.pinned (OpenSpec.ofChange compressRoundSpec)

/-- ITS FALSE NEIGHBOUR: 'it returns false'. Refute it at one input. -/
def compressRoundWrong : ChangeSpec := { name := "compressRound", fn := fun _ => fun
  | [d1, d2, d3] => { results := [.lit (.bool false)], args := [d1, d2, d3] }
  | _ => none }
def CompressRoundWrongFalsely : Prop := compressRoundRow.holds Try.pinned (OpenSpec.ofChange compressRoundWrong)

/- THE SECOND FORM. 'bulk': how many values and letters a reading holds, each counted each time it is reached (what is shared counts as often as it is met; a slice's spare places count too). A statement '..UptoSaid' is the law's where the arguments, and the package variables that the reading takes, are together of bulk at most 1048576: NARROWER than '..Said'. Prove '..Said' where nothing that the law and all that it calls make is longer than what came in: it says more and counts as full. Else prove '..UptoSaid'. A law counts once. -/
mutual
def uptoBulk {H : Type} : DataW H → Nat
  | .lit (.string bytes) => bytes.length + 1
  | .lit _ => 1
  | .nil => 1
  | .ptr d => uptoBulk d + 1
  | .slice elems spare => uptoBulkAll elems + uptoBulkAll spare + 1
  | .agg parts => uptoBulkAll parts + 1
  | .iface _ d => uptoBulk d + 1
  | .map entries => uptoBulkEntries entries + 1
  | .held _ => 1
def uptoBulkAll {H : Type} : List (DataW H) → Nat
  | [] => 0
  | d :: r => uptoBulk d + uptoBulkAll r
def uptoBulkEntries {H : Type} : List (Lit × DataW H) → Nat
  | [] => 0
  | x :: r => uptoBulkEntry x + uptoBulkEntries r
def uptoBulkEntry {H : Type} : Lit × DataW H → Nat
  | (.string bytes, d) => bytes.length + uptoBulk d + 1
  | (_, d) => uptoBulk d + 1
 end
def uptoSmall : (H : Type) → List (DataW H) → Bool := fun _ ds => decide (uptoBulkAll ds ≤ 1048576)
def OpenSpec.upto (s : _root_.Go.ChangeSpec) : _root_.Go.OpenSpec := { _root_.Go.OpenSpec.ofChange s with cond := some uptoSmall }

/-- 'depositorylaw06.CompressGreedy', WHERE WHAT IT READS IS OF BULK AT MOST 1048576: true; the input reads as it did. -/
def compressGreedyUptoRow : OpenClaim := { program := "ythibkikicnaciaa", sum := "167ab674c00385e183711dd73b7c36dd1ea300b0ac89b8c92c0198a309a1efba", func := "depository/depositorylaw06.CompressGreedy", spec := "compressGreedy", inPlace := ["internal/abi.NoEscape"], unfollowed := true, recurses := true, apart := false, narrowed := true }
def CompressGreedyUptoSaid : Prop := compressGreedyUptoRow.holds Try.pinned (OpenSpec.upto compressGreedySpec)

/-- 'depositorylaw06.CompressOptimal', WHERE WHAT IT READS IS OF BULK AT MOST 1048576: true; the input reads as it did. -/
def compressOptimalUptoRow : OpenClaim := { program := "ythibkikicnaciaa", sum := "167ab674c00385e183711dd73b7c36dd1ea300b0ac89b8c92c0198a309a1efba", func := "depository/depositorylaw06.CompressOptimal", spec := "compressOptimal", inPlace := ["internal/abi.NoEscape"], unfollowed := true, recurses := true, apart := false, narrowed := true }
def CompressOptimalUptoSaid : Prop := compressOptimalUptoRow.holds Try.pinned (OpenSpec.upto compressOptimalSpec)

/-- 'depositorylaw06.CompressShifts', WHERE WHAT IT READS IS OF BULK AT MOST 1048576: true; the input reads as it did. -/
def compressShiftsUptoRow : OpenClaim := { program := "ythibkikicnaciaa", sum := "167ab674c00385e183711dd73b7c36dd1ea300b0ac89b8c92c0198a309a1efba", func := "depository/depositorylaw06.CompressShifts", spec := "compressShifts", inPlace := ["internal/abi.NoEscape"], unfollowed := true, recurses := true, apart := false, narrowed := true }
def CompressShiftsUptoSaid : Prop := compressShiftsUptoRow.holds Try.pinned (OpenSpec.upto compressShiftsSpec)

/-- 'depositorylaw06.CompressCosts', WHERE WHAT IT READS IS OF BULK AT MOST 1048576: true; the input reads as it did. -/
def compressCostsUptoRow : OpenClaim := { program := "ythibkikicnaciaa", sum := "167ab674c00385e183711dd73b7c36dd1ea300b0ac89b8c92c0198a309a1efba", func := "depository/depositorylaw06.CompressCosts", spec := "compressCosts", inPlace := ["internal/abi.NoEscape"], unfollowed := true, recurses := true, apart := false, narrowed := true }
def CompressCostsUptoSaid : Prop := compressCostsUptoRow.holds Try.pinned (OpenSpec.upto compressCostsSpec)

/-- 'depositorylaw06.CompressBest', WHERE WHAT IT READS IS OF BULK AT MOST 1048576: true; the input reads as it did. -/
def compressBestUptoRow : OpenClaim := { program := "ythibkikicnaciaa", sum := "167ab674c00385e183711dd73b7c36dd1ea300b0ac89b8c92c0198a309a1efba", func := "depository/depositorylaw06.CompressBest", spec := "compressBest", inPlace := ["internal/abi.NoEscape"], unfollowed := true, recurses := true, apart := false, narrowed := true }
def CompressBestUptoSaid : Prop := compressBestUptoRow.holds Try.pinned (OpenSpec.upto compressBestSpec)

/-- 'depositorylaw06.CompressTokens', WHERE WHAT IT READS IS OF BULK AT MOST 1048576: true; the input reads as it did. -/
def compressTokensUptoRow : OpenClaim := { program := "ythibkikicnaciaa", sum := "167ab674c00385e183711dd73b7c36dd1ea300b0ac89b8c92c0198a309a1efba", func := "depository/depositorylaw06.CompressTokens", spec := "compressTokens", inPlace := ["internal/abi.NoEscape"], unfollowed := true, recurses := true, apart := false, narrowed := true }
def CompressTokensUptoSaid : Prop := compressTokensUptoRow.holds Try.pinned (OpenSpec.upto compressTokensSpec)

/-- 'depositorylaw06.CompressDecodes', WHERE WHAT IT READS IS OF BULK AT MOST 1048576: true; the input reads as it did. -/
def compressDecodesUptoRow : OpenClaim := { program := "ythibkikicnaciaa", sum := "167ab674c00385e183711dd73b7c36dd1ea300b0ac89b8c92c0198a309a1efba", func := "depository/depositorylaw06.CompressDecodes", spec := "compressDecodes", inPlace := ["internal/abi.NoEscape"], unfollowed := true, recurses := true, apart := false, narrowed := true }
def CompressDecodesUptoSaid : Prop := compressDecodesUptoRow.holds Try.pinned (OpenSpec.upto compressDecodesSpec)

/-- 'depositorylaw06.CompressUnits', WHERE WHAT IT READS IS OF BULK AT MOST 1048576: true; the input reads as it did. -/
def compressUnitsUptoRow : OpenClaim := { program := "ythibkikicnaciaa", sum := "167ab674c00385e183711dd73b7c36dd1ea300b0ac89b8c92c0198a309a1efba", func := "depository/depositorylaw06.CompressUnits", spec := "compressUnits", inPlace := ["internal/abi.NoEscape", "internal/bytealg.MakeNoZero"], unfollowed := true, recurses := true, apart := false, narrowed := true }
def CompressUnitsUptoSaid : Prop := compressUnitsUptoRow.holds Try.pinned (OpenSpec.upto compressUnitsSpec)

/-- 'depositorylaw06.CompressRound', WHERE WHAT IT READS IS OF BULK AT MOST 1048576: true; the input reads as it did. -/
def compressRoundUptoRow : OpenClaim := { program := "ythibkikicnaciaa", sum := "167ab674c00385e183711dd73b7c36dd1ea300b0ac89b8c92c0198a309a1efba", func := "depository/depositorylaw06.CompressRound", spec := "compressRound", inPlace := ["internal/abi.NoEscape", "internal/bytealg.MakeNoZero"], unfollowed := true, recurses := true, apart := false, narrowed := true }
def CompressRoundUptoSaid : Prop := compressRoundUptoRow.holds Try.pinned (OpenSpec.upto compressRoundSpec)

end Rows
end Go.Proofs.Ythibkikicnaciaa
