/- Own work. -/
import Derived.Test.YtmdfbbcifbgdnaaGreatRows
import Derived.JoinedOf
import Derived.KernelRfl
namespace Go.Proofs.YtmdfbbcifbgdnaaGreat.moverClears
open Go
theorem facts:joinedFacts Tryz.pinned.checked.prog 8 Tryz.f8 Rows.moverClearsSpec Rows.moverClearsRow=true:=by kernel_rfl
end Go.Proofs.YtmdfbbcifbgdnaaGreat.moverClears
