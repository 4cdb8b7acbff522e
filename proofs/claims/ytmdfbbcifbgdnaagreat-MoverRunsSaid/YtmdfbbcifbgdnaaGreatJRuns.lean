/- Own work. -/
import Derived.Test.YtmdfbbcifbgdnaaGreatRows
import Derived.JoinedOf
import Derived.KernelRfl
namespace Go.Proofs.YtmdfbbcifbgdnaaGreat.moverRuns
open Go
theorem facts:joinedFacts Tryz.pinned.checked.prog 10 Tryz.f10 Rows.moverRunsSpec Rows.moverRunsRow=true:=by kernel_rfl
end Go.Proofs.YtmdfbbcifbgdnaaGreat.moverRuns
