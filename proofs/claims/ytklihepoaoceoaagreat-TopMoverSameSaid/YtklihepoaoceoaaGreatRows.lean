/-
  No cell of these rows narrows 'for every input' (looked for: loops, veiled, ifaces, maps, wideKeys, modest, calm, conditions, laid).
  DERIVED. THE GIVEN ROWS OF THIS SEAT. 2 by the template 'for every input the law returns true; each argument reads behind the call as it read before'; 0 by the template 'total and deterministic' (their statements: YtklihepoaoceoaaGreatTotals.lean).
  GIVEN WITH THE SEED: the statements are not yours to turn. If you find one false, say at which input.
  Laid BY PROGRAM, IN A SANDBOX (cutbox-rows.mjs): the forced cells as the released guide's own fill.sh prints them over the translation 9badb7745ee84b12… (all of the seat's roots in one cut). By AI agents, Wed Nov 11 2026. No macro, syntax, notation, axiom, sorry.
-/
import Derived.Test.YtklihepoaoceoaaGreatChecked
import GoSem.Claim
import GoSem.ClaimJoined
import GoSem.ClaimMapViews
import Derived.JoinedTies
import Derived.KernelRfl
namespace Go.Proofs.YtklihepoaoceoaaGreat
/- THE CELL 'sum', in the pinned program and in every row, IS THE sha256 OF THE DUMP (.gsa) THAT YtklihepoaoceoaaGreatProg.lean LOADS. Nothing in Lean hashes anything: it is a label: what it is worth is what the hold of that sum in a sandbox is worth. -/
noncomputable def Tryz.pinned : Pinned := { name := "ytklihepoaoceoaagreat", sum := "9badb7745ee84b12cc77a32c7913c229f5a56a0855d716ee1ac935e2a8450e19", checked := Tryz.checked }
namespace Rows
def none {H : Type} : Left H := { results := [], args := [] }

/-- 'depositorytop.TopStreamClean': WHATEVER THE INPUT: true; the input reads as it did. -/
def topStreamCleanSpec : ChangeSpec := { name := "topStreamClean", fn := fun _ => fun
  | [d1, d2, d3] => { results := [.lit (.bool true)], args := [d1, d2, d3] }
  | _ => none }
def topStreamCleanRow : OpenClaim := { program := "ytklihepoaoceoaagreat", sum := "9badb7745ee84b12cc77a32c7913c229f5a56a0855d716ee1ac935e2a8450e19", func := "depository/depositorytop.TopStreamClean", spec := "topStreamClean", inPlace := ["internal/bytealg.IndexByteString", "internal/abi.NoEscape", "internal/bytealg.MakeNoZero"], unfollowed := true, recurses := true, apart := false }
def TopStreamCleanSaid : Prop := topStreamCleanRow.holds Tryz.pinned (OpenSpec.ofChange topStreamCleanSpec)

/-- ITS FALSE NEIGHBOUR: 'it returns false'. Refute it at one input. -/
def topStreamCleanWrong : ChangeSpec := { name := "topStreamClean", fn := fun _ => fun
  | [d1, d2, d3] => { results := [.lit (.bool false)], args := [d1, d2, d3] }
  | _ => none }
def TopStreamCleanWrongFalsely : Prop := topStreamCleanRow.holds Tryz.pinned (OpenSpec.ofChange topStreamCleanWrong)

/-- 'depositorytop.TopMoverSame': WHATEVER THE INPUT: true; the input reads as it did. -/
def topMoverSameSpec : ChangeSpec := { name := "topMoverSame", fn := fun _ => fun
  | [d1, d2, d3] => { results := [.lit (.bool true)], args := [d1, d2, d3] }
  | _ => none }
def topMoverSameRow : OpenClaim := { program := "ytklihepoaoceoaagreat", sum := "9badb7745ee84b12cc77a32c7913c229f5a56a0855d716ee1ac935e2a8450e19", func := "depository/depositorytop.TopMoverSame", spec := "topMoverSame", inPlace := ["internal/bytealg.IndexByteString", "internal/abi.NoEscape", "internal/bytealg.MakeNoZero"], unfollowed := true, recurses := true, apart := false }
def TopMoverSameSaid : Prop := topMoverSameRow.holds Tryz.pinned (OpenSpec.ofChange topMoverSameSpec)

/-- ITS FALSE NEIGHBOUR: 'it returns false'. Refute it at one input. -/
def topMoverSameWrong : ChangeSpec := { name := "topMoverSame", fn := fun _ => fun
  | [d1, d2, d3] => { results := [.lit (.bool false)], args := [d1, d2, d3] }
  | _ => none }
def TopMoverSameWrongFalsely : Prop := topMoverSameRow.holds Tryz.pinned (OpenSpec.ofChange topMoverSameWrong)

/- THE SECOND FORM. 'bulk': how many values and letters a reading holds, each counted each time it is reached (what is shared counts as often as it is met; a slice's spare places count too). A statement '..UptoSaid' is the law's where the arguments, and the package variables that the reading takes, are together of bulk at most 1048576: NARROWER than '..Said'. Prove '..Said' where nothing that the law and all that it calls make is longer than what came in: it says more and counts as full. Else prove '..UptoSaid'. A law counts once. -/
mutual
def uptoBulk {H : Type} : DataW H → Nat
  | .lit (.string bytes) => bytes.length + 1
  | .lit _ => 1
  | .nil => 1
  | .ptr d => uptoBulk d + 1
  | .slice elems spare => uptoBulkAll elems + uptoBulkAll spare + 1
  | .agg parts => uptoBulkAll parts + 1
  | .iface _ d => uptoBulk d + 1
  | .map entries => uptoBulkEntries entries + 1
  | .held _ => 1
def uptoBulkAll {H : Type} : List (DataW H) → Nat
  | [] => 0
  | d :: r => uptoBulk d + uptoBulkAll r
def uptoBulkEntries {H : Type} : List (Lit × DataW H) → Nat
  | [] => 0
  | x :: r => uptoBulkEntry x + uptoBulkEntries r
def uptoBulkEntry {H : Type} : Lit × DataW H → Nat
  | (.string bytes, d) => bytes.length + uptoBulk d + 1
  | (_, d) => uptoBulk d + 1
 end
def uptoSmall : (H : Type) → List (DataW H) → Bool := fun _ ds => decide (uptoBulkAll ds ≤ 1048576)
def OpenSpec.upto (s : _root_.Go.ChangeSpec) : _root_.Go.OpenSpec := { _root_.Go.OpenSpec.ofChange s with cond := some uptoSmall }

/-- 'depositorytop.TopStreamClean', WHERE WHAT IT READS IS OF BULK AT MOST 1048576: true; the input reads as it did. -/
def topStreamCleanUptoRow : OpenClaim := { program := "ytklihepoaoceoaagreat", sum := "9badb7745ee84b12cc77a32c7913c229f5a56a0855d716ee1ac935e2a8450e19", func := "depository/depositorytop.TopStreamClean", spec := "topStreamClean", inPlace := ["internal/bytealg.IndexByteString", "internal/abi.NoEscape", "internal/bytealg.MakeNoZero"], unfollowed := true, recurses := true, apart := false, narrowed := true }
def TopStreamCleanUptoSaid : Prop := topStreamCleanUptoRow.holds Tryz.pinned (OpenSpec.upto topStreamCleanSpec)

/-- 'depositorytop.TopMoverSame', WHERE WHAT IT READS IS OF BULK AT MOST 1048576: true; the input reads as it did. -/
def topMoverSameUptoRow : OpenClaim := { program := "ytklihepoaoceoaagreat", sum := "9badb7745ee84b12cc77a32c7913c229f5a56a0855d716ee1ac935e2a8450e19", func := "depository/depositorytop.TopMoverSame", spec := "topMoverSame", inPlace := ["internal/bytealg.IndexByteString", "internal/abi.NoEscape", "internal/bytealg.MakeNoZero"], unfollowed := true, recurses := true, apart := false, narrowed := true }
def TopMoverSameUptoSaid : Prop := topMoverSameUptoRow.holds Tryz.pinned (OpenSpec.upto topMoverSameSpec)

end Rows
end Go.Proofs.YtklihepoaoceoaaGreat
