/- Memories of regions in plain words: when regions may be; where bytes lie. No condition. -/
import Derived.Test.YtbeendakebamhaaPuBase
namespace Go.Proofs.Ytbeendakebamhaa
end Go.Proofs.Ytbeendakebamhaa
