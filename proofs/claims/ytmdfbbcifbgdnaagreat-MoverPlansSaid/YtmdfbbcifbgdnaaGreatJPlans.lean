/- Own work. -/
import Derived.Test.YtmdfbbcifbgdnaaGreatRows
import Derived.JoinedOf
import Derived.KernelRfl
namespace Go.Proofs.YtmdfbbcifbgdnaaGreat.moverPlans
open Go
theorem facts:joinedFacts Tryz.pinned.checked.prog 6 Tryz.f6 Rows.moverPlansSpec Rows.moverPlansRow=true:=by kernel_rfl
end Go.Proofs.YtmdfbbcifbgdnaaGreat.moverPlans
