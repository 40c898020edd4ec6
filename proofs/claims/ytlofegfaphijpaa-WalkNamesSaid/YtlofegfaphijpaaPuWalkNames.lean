/- The law WalkNames in plain words: it answers true. No condition. -/
import Derived.Test.YtlofegfaphijpaaPuBase
namespace Go.Proofs.Ytlofegfaphijpaa
theorem t_law10zWalkNames : law10zWalkNames = some true := by kernel_rfl
end Go.Proofs.Ytlofegfaphijpaa
