/- Small words that all chapters share. No condition. -/
import Derived.Test.YtecmlfmbmligeaaMo1
import Derived.Test.YtecmlfmbmligeaaPuLib2
namespace Go.Proofs.Ytecmlfmbmligeaa
def two (p : Bool) : Int := bif p then 0 else 2
end Go.Proofs.Ytecmlfmbmligeaa
