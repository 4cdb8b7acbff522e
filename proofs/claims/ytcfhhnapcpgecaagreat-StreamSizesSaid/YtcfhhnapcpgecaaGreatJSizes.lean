/- Own work. -/
import Derived.Test.YtcfhhnapcpgecaaGreatRows
import Derived.JoinedOf
import Derived.KernelRfl
namespace Go.Proofs.YtcfhhnapcpgecaaGreat.streamSizes
open Go
theorem facts:joinedFacts Tryz.pinned.checked.prog 6 Tryz.f6 Rows.streamSizesSpec Rows.streamSizesRow=true:=by kernel_rfl
end Go.Proofs.YtcfhhnapcpgecaaGreat.streamSizes
