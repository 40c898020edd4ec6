/- Checksums in plain words: what the functions of frames reckon. No condition. -/
import Derived.Test.YtdaijemhibbgeaaMo1
import Derived.Test.YtdaijemhibbgeaaPuLib2
namespace Go.Proofs.Ytdaijemhibbgeaa
end Go.Proofs.Ytdaijemhibbgeaa
