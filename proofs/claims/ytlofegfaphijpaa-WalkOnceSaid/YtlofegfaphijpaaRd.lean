/- How the arguments of the laws read as data. No statement of the seat is proved here; no condition. -/
import Derived.Test.YtlofegfaphijpaaWrap
import Derived.Test.YtlofegfaphijpaaFc
namespace Go.Proofs.Ytlofegfaphijpaa

theorem rdT3 : Rd Try.prog iS 3 := rd_i Try.underlying3
theorem rdT4 : Rd Try.prog bS 4 := rd_b Try.underlying4
end Go.Proofs.Ytlofegfaphijpaa
