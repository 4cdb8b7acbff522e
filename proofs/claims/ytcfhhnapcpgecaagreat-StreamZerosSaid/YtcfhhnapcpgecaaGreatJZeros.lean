/- Own work. -/
import Derived.Test.YtcfhhnapcpgecaaGreatRows
import Derived.JoinedOf
import Derived.KernelRfl
namespace Go.Proofs.YtcfhhnapcpgecaaGreat.streamZeros
open Go
theorem facts:joinedFacts Tryz.pinned.checked.prog 7 Tryz.f7 Rows.streamZerosSpec Rows.streamZerosRow=true:=by kernel_rfl
end Go.Proofs.YtcfhhnapcpgecaaGreat.streamZeros
