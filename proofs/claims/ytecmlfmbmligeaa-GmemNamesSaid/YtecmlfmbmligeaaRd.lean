/- How the arguments of the laws read as data. No statement of the seat is proved here; no condition. -/
import Derived.Test.YtecmlfmbmligeaaWrap
import Derived.Test.YtecmlfmbmligeaaFc
namespace Go.Proofs.Ytecmlfmbmligeaa

end Go.Proofs.Ytecmlfmbmligeaa
