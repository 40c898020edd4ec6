/- How the arguments of the laws read as data. No statement of the seat is proved here; no condition. -/
import Derived.Test.YtbeendakebamhaaWrap
import Derived.Test.YtbeendakebamhaaFc
namespace Go.Proofs.Ytbeendakebamhaa

theorem rdT4 : Rd Try.prog bS 4 := rd_b Try.underlying4
theorem rdT3 : Rd Try.prog iS 3 := rd_i Try.underlying3
theorem rdT22 : Rd Try.prog u64S 22 := rd_u64 Try.underlying22
end Go.Proofs.Ytbeendakebamhaa
