/- Own work. -/
import Derived.Test.YtcfhhnapcpgecaaGreatRows
import Derived.JoinedOf
import Derived.KernelRfl
namespace Go.Proofs.YtcfhhnapcpgecaaGreat.streamParts
open Go
theorem facts:joinedFacts Tryz.pinned.checked.prog 4 Tryz.f4 Rows.streamPartsSpec Rows.streamPartsRow=true:=by kernel_rfl
end Go.Proofs.YtcfhhnapcpgecaaGreat.streamParts
