/- How the arguments of the laws read as data. No statement of the seat is proved here; no condition. -/
import Derived.Test.YtlofegfaphijpaaWrap
import Derived.Test.YtlofegfaphijpaaFc
namespace Go.Proofs.Ytlofegfaphijpaa

end Go.Proofs.Ytlofegfaphijpaa
