/- The functions do what the plain words say: each is walked once. No statement of the seat is proved here; no condition. -/
import Derived.Test.YtkdekmjcfoahjaaWa3
namespace Go.Proofs.Ytkdekmjcfoahjaa

end Go.Proofs.Ytkdekmjcfoahjaa
