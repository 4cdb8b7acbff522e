/- Own work. -/
import Derived.Test.YtmdfbbcifbgdnaaGreatRows
import Derived.JoinedOf
import Derived.KernelRfl
namespace Go.Proofs.YtmdfbbcifbgdnaaGreat.moverSizes
open Go
theorem facts:joinedFacts Tryz.pinned.checked.prog 5 Tryz.f5 Rows.moverSizesSpec Rows.moverSizesRow=true:=by kernel_rfl
end Go.Proofs.YtmdfbbcifbgdnaaGreat.moverSizes
