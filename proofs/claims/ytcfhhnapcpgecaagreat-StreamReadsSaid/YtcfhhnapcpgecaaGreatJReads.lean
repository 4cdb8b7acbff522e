/- Own work. -/
import Derived.Test.YtcfhhnapcpgecaaGreatRows
import Derived.JoinedOf
import Derived.KernelRfl
namespace Go.Proofs.YtcfhhnapcpgecaaGreat.streamReads
open Go
theorem facts:joinedFacts Tryz.pinned.checked.prog 8 Tryz.f8 Rows.streamReadsSpec Rows.streamReadsRow=true:=by kernel_rfl
end Go.Proofs.YtcfhhnapcpgecaaGreat.streamReads
