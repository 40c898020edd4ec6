/- How the arguments of the laws read as data. No statement of the seat is proved here; no condition. -/
import Derived.Test.YtjfdamiilndgeaaGe1
import Derived.Test.YtjfdamiilndgeaaFc
namespace Go.Proofs.Ytjfdamiilndgeaa

end Go.Proofs.Ytjfdamiilndgeaa
