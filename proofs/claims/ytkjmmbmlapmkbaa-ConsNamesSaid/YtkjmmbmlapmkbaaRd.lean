/- How the arguments of the laws read as data. No statement of the seat is proved here; no condition. -/
import Derived.Test.YtkjmmbmlapmkbaaWrap
import Derived.Test.YtkjmmbmlapmkbaaFc
namespace Go.Proofs.Ytkjmmbmlapmkbaa

end Go.Proofs.Ytkjmmbmlapmkbaa
