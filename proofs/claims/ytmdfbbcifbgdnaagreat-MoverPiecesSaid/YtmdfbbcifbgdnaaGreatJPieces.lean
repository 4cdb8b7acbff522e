/- Own work. -/
import Derived.Test.YtmdfbbcifbgdnaaGreatRows
import Derived.JoinedOf
import Derived.KernelRfl
namespace Go.Proofs.YtmdfbbcifbgdnaaGreat.moverPieces
open Go
theorem facts:joinedFacts Tryz.pinned.checked.prog 3 Tryz.f3 Rows.moverPiecesSpec Rows.moverPiecesRow=true:=by kernel_rfl
end Go.Proofs.YtmdfbbcifbgdnaaGreat.moverPieces
