/- The plain words: what the functions reckon, and that the law answers true. No condition. -/
import Derived.Test.YtjfdamiilndgeaaMo1
import Derived.Test.YtjfdamiilndgeaaGe1
section
namespace Go.Proofs.Ytjfdamiilndgeaa
def two (p : Bool) : Int := bif p then 0 else 2
end Go.Proofs.Ytjfdamiilndgeaa

end

section
namespace Go.Proofs.Ytjfdamiilndgeaa
theorem t_law21zBlkNames : law21zBlkNames = some true := by kernel_rfl
end Go.Proofs.Ytjfdamiilndgeaa

end
