/- The law BlkdrvNames in plain words. No condition. -/
import Derived.Test.YtkmjpgfbcklopaaPuBase
namespace Go.Proofs.Ytkmjpgfbcklopaa
theorem t_law22zBlkdrvNames : law22zBlkdrvNames = some true := by kernel_rfl
end Go.Proofs.Ytkmjpgfbcklopaa
