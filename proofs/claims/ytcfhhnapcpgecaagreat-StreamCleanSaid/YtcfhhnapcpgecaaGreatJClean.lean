/- Own work. -/
import Derived.Test.YtcfhhnapcpgecaaGreatRows
import Derived.JoinedOf
import Derived.KernelRfl
namespace Go.Proofs.YtcfhhnapcpgecaaGreat.streamClean
open Go
theorem facts:joinedFacts Tryz.pinned.checked.prog 5 Tryz.f5 Rows.streamCleanSpec Rows.streamCleanRow=true:=by kernel_rfl
end Go.Proofs.YtcfhhnapcpgecaaGreat.streamClean
