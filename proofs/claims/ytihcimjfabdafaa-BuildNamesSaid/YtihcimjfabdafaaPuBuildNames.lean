/- The law BuildNames in plain words: it answers true. No condition. -/
import Derived.Test.YtihcimjfabdafaaPuBase
namespace Go.Proofs.Ytihcimjfabdafaa
theorem t_law09zBuildNames : law09zBuildNames = some true := by kernel_rfl
end Go.Proofs.Ytihcimjfabdafaa
