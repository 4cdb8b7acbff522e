/- Own work. -/
import Derived.Test.YtmdfbbcifbgdnaaGreatRows
import Derived.JoinedOf
import Derived.KernelRfl
namespace Go.Proofs.YtmdfbbcifbgdnaaGreat.moverOnePiece
open Go
theorem facts:joinedFacts Tryz.pinned.checked.prog 9 Tryz.f9 Rows.moverOnePieceSpec Rows.moverOnePieceRow=true:=by kernel_rfl
end Go.Proofs.YtmdfbbcifbgdnaaGreat.moverOnePiece
