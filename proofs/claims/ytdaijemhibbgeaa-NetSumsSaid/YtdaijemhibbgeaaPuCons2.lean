/- Buffers side by side: how they are made, taken apart. No condition. -/
import Derived.Test.YtdaijemhibbgeaaPuCons
namespace Go.Proofs.Ytdaijemhibbgeaa
end Go.Proofs.Ytdaijemhibbgeaa
