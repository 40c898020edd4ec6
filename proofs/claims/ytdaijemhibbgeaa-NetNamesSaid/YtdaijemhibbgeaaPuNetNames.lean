/- The law NetNames in plain words. No condition. -/
import Derived.Test.YtdaijemhibbgeaaPuBase
namespace Go.Proofs.Ytdaijemhibbgeaa
theorem t_law25zNetNames : law25zNetNames = some true := by kernel_rfl
end Go.Proofs.Ytdaijemhibbgeaa
