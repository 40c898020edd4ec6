/- How the arguments of the laws read as data. No statement of the seat is proved here; no condition. -/
import Derived.Test.YtecmlfmbmligeaaWrap
import Derived.Test.YtecmlfmbmligeaaFc
namespace Go.Proofs.Ytecmlfmbmligeaa

theorem rdT26 : Rd Try.prog u64S 26 := rd_u64 Try.underlying26
theorem rdT3 : Rd Try.prog iS 3 := rd_i Try.underlying3
theorem rdT5 : Rd Try.prog u8S 5 := rd_u8 Try.underlying5
theorem rdT38 : Rd Try.prog (Shape.slice u8S) 38 := rd_slice Try.underlying38 (by kernel_rfl) rdT5
end Go.Proofs.Ytecmlfmbmligeaa
