/- The functions do what the plain words say: each is walked once. No statement of the seat is proved here; no condition. -/
import Derived.Test.YtkmjpgfbcklopaaWa3
namespace Go.Proofs.Ytkmjpgfbcklopaa
attribute [local irreducible] sub
end Go.Proofs.Ytkmjpgfbcklopaa
