/- Buffers in plain words: equal lists of segments, the reference's parts and cuts, buffers that may not be. No condition. -/
import Derived.Test.YtlofegfaphijpaaPuSegMem
namespace Go.Proofs.Ytlofegfaphijpaa
end Go.Proofs.Ytlofegfaphijpaa
