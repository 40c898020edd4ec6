/- The law DescNames in plain words: it answers true. No condition. -/
import Derived.Test.YtamdpkddehhocaaPuDesc
namespace Go.Proofs.Ytamdpkddehhocaa
theorem t_law_DescNames : law_DescNames = some true := by decide +kernel
end Go.Proofs.Ytamdpkddehhocaa
