/- Frames that are read as the document says it. No condition. -/
import Derived.Test.YtgcbcnpbnonnjaaPuFrameRef
namespace Go.Proofs.Ytgcbcnpbnonnjaa
end Go.Proofs.Ytgcbcnpbnonnjaa
