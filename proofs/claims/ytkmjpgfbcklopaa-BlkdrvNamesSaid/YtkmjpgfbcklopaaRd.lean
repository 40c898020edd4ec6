/- How the arguments of the laws read as data. No statement of the seat is proved here; no condition. -/
import Derived.Test.YtkmjpgfbcklopaaWrap
import Derived.Test.YtkmjpgfbcklopaaFc
namespace Go.Proofs.Ytkmjpgfbcklopaa

end Go.Proofs.Ytkmjpgfbcklopaa
