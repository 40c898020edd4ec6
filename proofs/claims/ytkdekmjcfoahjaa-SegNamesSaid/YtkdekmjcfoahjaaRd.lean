/- How the arguments of the laws read as data. No statement of the seat is proved here; no condition. -/
import Derived.Test.YtkdekmjcfoahjaaWrap
import Derived.Test.YtkdekmjcfoahjaaFc
namespace Go.Proofs.Ytkdekmjcfoahjaa

end Go.Proofs.Ytkdekmjcfoahjaa
