/- The functions do what the plain words say: each is walked once. No statement of the seat is proved here; no condition. -/
import Derived.Test.YtdaijemhibbgeaaWa3
namespace Go.Proofs.Ytdaijemhibbgeaa
attribute [local irreducible] sub
end Go.Proofs.Ytdaijemhibbgeaa
