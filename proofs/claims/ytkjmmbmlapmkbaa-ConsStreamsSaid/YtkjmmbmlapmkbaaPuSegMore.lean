/- Buffers in plain words: equal lists of segments, the reference's parts and cuts, buffers that may not be. No condition. -/
import Derived.Test.YtkjmmbmlapmkbaaPuSegMem
namespace Go.Proofs.Ytkjmmbmlapmkbaa
end Go.Proofs.Ytkjmmbmlapmkbaa
