/- How the arguments of the laws read as data. No statement of the seat is proved here; no condition. -/
import Derived.Test.YtihcimjfabdafaaWrap
import Derived.Test.YtihcimjfabdafaaFc
namespace Go.Proofs.Ytihcimjfabdafaa

end Go.Proofs.Ytihcimjfabdafaa
