/- How the arguments of the laws read as data. No statement of the seat is proved here; no condition. -/
import Derived.Test.YtgcbcnpbnonnjaaWrap
import Derived.Test.YtgcbcnpbnonnjaaFc
namespace Go.Proofs.Ytgcbcnpbnonnjaa

theorem rdT22 : Rd Try.prog u64S 22 := rd_u64 Try.underlying22
theorem rdT3 : Rd Try.prog iS 3 := rd_i Try.underlying3
theorem rdT23 : Rd Try.prog (Shape.slice iS) 23 := rd_slice Try.underlying23 (by kernel_rfl) rdT3
end Go.Proofs.Ytgcbcnpbnonnjaa
