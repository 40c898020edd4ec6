/- The functions do what the plain words say: each is walked once. No statement of the seat is proved here; no condition. -/
import Derived.Test.YtjfdamiilndgeaaWa3
namespace Go.Proofs.Ytjfdamiilndgeaa
attribute [local irreducible] sub
end Go.Proofs.Ytjfdamiilndgeaa
