/- The law LayoutNames in plain words. No condition. -/
import Derived.Test.YtbeendakebamhaaPuBase
namespace Go.Proofs.Ytbeendakebamhaa
theorem t_law04zLayoutNames : law04zLayoutNames = some true := by kernel_rfl
end Go.Proofs.Ytbeendakebamhaa
