/- Small words that all chapters share. No condition. -/
import Derived.Test.YtkjmmbmlapmkbaaMo1
import Derived.Test.YtkjmmbmlapmkbaaPuLib2
namespace Go.Proofs.Ytkjmmbmlapmkbaa
def two (p : Bool) : Int := bif p then 0 else 2
end Go.Proofs.Ytkjmmbmlapmkbaa
