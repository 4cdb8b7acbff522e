/- Own work. -/
import Derived.Test.YtmdfbbcifbgdnaaGreatRows
import Derived.JoinedOf
import Derived.KernelRfl
namespace Go.Proofs.YtmdfbbcifbgdnaaGreat.moverChecks
open Go
theorem facts:joinedFacts Tryz.pinned.checked.prog 4 Tryz.f4 Rows.moverChecksSpec Rows.moverChecksRow=true:=by kernel_rfl
end Go.Proofs.YtmdfbbcifbgdnaaGreat.moverChecks
