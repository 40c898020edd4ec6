/- The law GmemNames in plain words. No condition. -/
import Derived.Test.YtecmlfmbmligeaaPuBase
namespace Go.Proofs.Ytecmlfmbmligeaa
theorem t_law02zGmemNames : law02zGmemNames = some true := by kernel_rfl
end Go.Proofs.Ytecmlfmbmligeaa
