/- How the arguments of the laws read as data. No statement of the seat is proved here; no condition. -/
import Derived.Test.YtkjmmbmlapmkbaaWrap
import Derived.Test.YtkjmmbmlapmkbaaFc
namespace Go.Proofs.Ytkjmmbmlapmkbaa

theorem rdT3 : Rd Try.prog iS 3 := rd_i Try.underlying3
theorem rdT5 : Rd Try.prog u8S 5 := rd_u8 Try.underlying5
theorem rdT30 : Rd Try.prog (Shape.slice u8S) 30 := rd_slice Try.underlying30 (by kernel_rfl) rdT5
theorem rdT31 : Rd Try.prog (Shape.slice iS) 31 := rd_slice Try.underlying31 (by kernel_rfl) rdT3
theorem rdT55 : Rd Try.prog (Shape.slice (Shape.slice u8S)) 55 := rd_slice Try.underlying55 (by kernel_rfl) rdT30
end Go.Proofs.Ytkjmmbmlapmkbaa
