/- Small words that all chapters share. No condition. -/
import Derived.Test.YtbeendakebamhaaMo1
import Derived.Test.YtbeendakebamhaaPuLib2
namespace Go.Proofs.Ytbeendakebamhaa
end Go.Proofs.Ytbeendakebamhaa
