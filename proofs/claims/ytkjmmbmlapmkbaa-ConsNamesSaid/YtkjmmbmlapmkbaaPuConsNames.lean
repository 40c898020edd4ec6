/- The law ConsNames in plain words. No condition. -/
import Derived.Test.YtkjmmbmlapmkbaaPuBase
namespace Go.Proofs.Ytkjmmbmlapmkbaa
theorem t_law28zConsNames : law28zConsNames = some true := by kernel_rfl
end Go.Proofs.Ytkjmmbmlapmkbaa
