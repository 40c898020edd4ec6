/- Small words that all chapters share. No condition. -/
import Derived.Test.YtdaijemhibbgeaaMo1
import Derived.Test.YtdaijemhibbgeaaPuLib2
namespace Go.Proofs.Ytdaijemhibbgeaa
def two (p : Bool) : Int := bif p then 0 else 2
end Go.Proofs.Ytdaijemhibbgeaa
