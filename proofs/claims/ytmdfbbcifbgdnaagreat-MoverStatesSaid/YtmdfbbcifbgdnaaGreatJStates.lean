/- Own work. -/
import Derived.Test.YtmdfbbcifbgdnaaGreatRows
import Derived.JoinedOf
import Derived.KernelRfl
namespace Go.Proofs.YtmdfbbcifbgdnaaGreat.moverStates
open Go
theorem facts:joinedFacts Tryz.pinned.checked.prog 7 Tryz.f7 Rows.moverStatesSpec Rows.moverStatesRow=true:=by kernel_rfl
end Go.Proofs.YtmdfbbcifbgdnaaGreat.moverStates
