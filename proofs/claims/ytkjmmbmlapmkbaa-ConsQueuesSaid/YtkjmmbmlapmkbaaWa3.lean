/- The functions do what the plain words say: each is walked once. No statement of the seat is proved here; no condition. -/
import Derived.Test.YtkjmmbmlapmkbaaWa2
namespace Go.Proofs.Ytkjmmbmlapmkbaa

end Go.Proofs.Ytkjmmbmlapmkbaa
