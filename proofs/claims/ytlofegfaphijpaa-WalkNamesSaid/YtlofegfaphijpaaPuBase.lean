/- Small words that all chapters share. No condition. -/
import Derived.Test.YtlofegfaphijpaaMo1
import Derived.Test.YtlofegfaphijpaaPuLib2
namespace Go.Proofs.Ytlofegfaphijpaa
def two (p : Bool) : Int := bif p then 0 else 2
end Go.Proofs.Ytlofegfaphijpaa
