/- How the arguments of the laws read as data. No statement of the seat is proved here; no condition. -/
import Derived.Test.YtamdpkddehhocaaWrap
import Derived.Test.YtamdpkddehhocaaFc
namespace Go.Proofs.Ytamdpkddehhocaa

theorem rdT22 : Rd Try.prog u16S 22 := rd_u16 Try.underlying22
theorem rdT4 : Rd Try.prog bS 4 := rd_b Try.underlying4
end Go.Proofs.Ytamdpkddehhocaa
