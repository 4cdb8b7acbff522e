/- Own work. -/
import Derived.Test.YtklihepoaoceoaaGreatRows
import Derived.JoinedOf
import Derived.KernelRfl
namespace Go.Proofs.YtklihepoaoceoaaGreat.topMoverSame
open Go
theorem facts:joinedFacts Tryz.pinned.checked.prog 4 Tryz.f4 Rows.topMoverSameSpec Rows.topMoverSameRow=true:=by kernel_rfl
end Go.Proofs.YtklihepoaoceoaaGreat.topMoverSame
