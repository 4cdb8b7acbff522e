/- Own work. -/
import Derived.Test.YtklihepoaoceoaaGreatRows
import Derived.JoinedOf
import Derived.KernelRfl
namespace Go.Proofs.YtklihepoaoceoaaGreat.topStreamClean
open Go
theorem facts:joinedFacts Tryz.pinned.checked.prog 3 Tryz.f3 Rows.topStreamCleanSpec Rows.topStreamCleanRow=true:=by kernel_rfl
end Go.Proofs.YtklihepoaoceoaaGreat.topStreamClean
