/- Own work. -/
import Derived.Test.YtcfhhnapcpgecaaGreatRows
import Derived.JoinedOf
import Derived.KernelRfl
namespace Go.Proofs.YtcfhhnapcpgecaaGreat.streamMoves
open Go
theorem facts:joinedFacts Tryz.pinned.checked.prog 9 Tryz.f9 Rows.streamMovesSpec Rows.streamMovesRow=true:=by kernel_rfl
end Go.Proofs.YtcfhhnapcpgecaaGreat.streamMoves
