/- Checksums in plain words: what the functions of frames reckon. No condition. -/
import Derived.Test.YtgcbcnpbnonnjaaMo1
import Derived.Test.YtgcbcnpbnonnjaaPuLib2
namespace Go.Proofs.Ytgcbcnpbnonnjaa
end Go.Proofs.Ytgcbcnpbnonnjaa
