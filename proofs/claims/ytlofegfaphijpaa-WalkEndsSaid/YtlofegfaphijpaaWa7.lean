/- The functions do what the plain words say: each is walked once. No statement of the seat is proved here; no condition. -/
import Derived.Test.YtlofegfaphijpaaWa6
namespace Go.Proofs.Ytlofegfaphijpaa
attribute [local irreducible] sub
end Go.Proofs.Ytlofegfaphijpaa
