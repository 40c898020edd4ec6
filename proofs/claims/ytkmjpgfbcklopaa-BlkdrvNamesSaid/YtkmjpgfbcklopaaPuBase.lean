/- Small words that all chapters share. No condition. -/
import Derived.Test.YtkmjpgfbcklopaaMo1
import Derived.Test.YtkmjpgfbcklopaaPuLib2
namespace Go.Proofs.Ytkmjpgfbcklopaa
def two (p : Bool) : Int := bif p then 0 else 2
end Go.Proofs.Ytkmjpgfbcklopaa
