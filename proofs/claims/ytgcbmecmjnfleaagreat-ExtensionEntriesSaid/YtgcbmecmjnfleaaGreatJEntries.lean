/- Own work. -/
import Derived.Test.YtgcbmecmjnfleaaGreatRows
import Derived.JoinedOf
import Derived.KernelRfl
namespace Go.Proofs.YtgcbmecmjnfleaaGreat.extensionEntries
open Go
theorem facts:joinedFacts Tryz.pinned.checked.prog 8 Tryz.f8 Rows.extensionEntriesSpec Rows.extensionEntriesRow=true:=by kernel_rfl
end Go.Proofs.YtgcbmecmjnfleaaGreat.extensionEntries
