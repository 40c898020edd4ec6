/- The functions do what the plain words say: each is walked once. No statement of the seat is proved here; no condition. -/
import Derived.Test.YtbeendakebamhaaWa4
namespace Go.Proofs.Ytbeendakebamhaa

end Go.Proofs.Ytbeendakebamhaa
