/- Own work. -/
import Derived.Test.YtmdfbbcifbgdnaaGreatRows
import Derived.JoinedOf
import Derived.KernelRfl
namespace Go.Proofs.YtmdfbbcifbgdnaaGreat.moverAnswers
open Go
theorem facts:joinedFacts Tryz.pinned.checked.prog 11 Tryz.f11 Rows.moverAnswersSpec Rows.moverAnswersRow=true:=by kernel_rfl
end Go.Proofs.YtmdfbbcifbgdnaaGreat.moverAnswers
