/- The law SegNames in plain words. No condition. -/
import Derived.Test.YtkdekmjcfoahjaaPuLib2
import Derived.Test.YtkdekmjcfoahjaaMo1
namespace Go.Proofs.Ytkdekmjcfoahjaa
theorem t_law05zSegNames : law05zSegNames = some true := by kernel_rfl
end Go.Proofs.Ytkdekmjcfoahjaa
