/- How the arguments of the laws read as data. No statement of the seat is proved here; no condition. -/
import Derived.Test.YtecmlfmbmligeaaWrap
import Derived.Test.YtecmlfmbmligeaaFc
namespace Go.Proofs.Ytecmlfmbmligeaa

theorem rdT3 : Rd Try.prog iS 3 := rd_i Try.underlying3
theorem rdT26 : Rd Try.prog u64S 26 := rd_u64 Try.underlying26
end Go.Proofs.Ytecmlfmbmligeaa
