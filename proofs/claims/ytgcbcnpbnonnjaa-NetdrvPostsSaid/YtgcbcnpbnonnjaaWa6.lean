/- The functions do what the plain words say: each is walked once. No statement of the seat is proved here; no condition. -/
import Derived.Test.YtgcbcnpbnonnjaaWa5
namespace Go.Proofs.Ytgcbcnpbnonnjaa
attribute [local irreducible] sub
end Go.Proofs.Ytgcbcnpbnonnjaa
