/- How the arguments of the laws read as data. No statement of the seat is proved here; no condition. -/
import Derived.Test.YtbeendakebamhaaWrap
import Derived.Test.YtbeendakebamhaaFc
namespace Go.Proofs.Ytbeendakebamhaa

end Go.Proofs.Ytbeendakebamhaa
