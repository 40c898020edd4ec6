/- Small words that all chapters share. No condition. -/
import Derived.Test.YtihcimjfabdafaaMo1
import Derived.Test.YtihcimjfabdafaaPuLib2
namespace Go.Proofs.Ytihcimjfabdafaa
def two (p : Bool) : Int := bif p then 0 else 2
end Go.Proofs.Ytihcimjfabdafaa
