/- How the arguments of the laws read as data. No statement of the seat is proved here; no condition. -/
import Derived.Test.YtdaijemhibbgeaaWrap
import Derived.Test.YtdaijemhibbgeaaFc
namespace Go.Proofs.Ytdaijemhibbgeaa

end Go.Proofs.Ytdaijemhibbgeaa
