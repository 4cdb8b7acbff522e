/- Own work. -/
import Derived.Test.YtcfhhnapcpgecaaGreatRows
import Derived.JoinedOf
import Derived.KernelRfl
namespace Go.Proofs.YtcfhhnapcpgecaaGreat.streamWrites
open Go
theorem facts:joinedFacts Tryz.pinned.checked.prog 3 Tryz.f3 Rows.streamWritesSpec Rows.streamWritesRow=true:=by kernel_rfl
end Go.Proofs.YtcfhhnapcpgecaaGreat.streamWrites
