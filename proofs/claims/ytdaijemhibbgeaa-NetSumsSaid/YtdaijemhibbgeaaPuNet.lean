/- Frames into buffers: how many are needed, what lies in them then. No condition. -/
import Derived.Test.YtdaijemhibbgeaaPuCons2
import Derived.Test.YtdaijemhibbgeaaPuFrameRef
namespace Go.Proofs.Ytdaijemhibbgeaa
theorem lives25 : law25zlives = some true := by kernel_rfl
theorem mem25 : law25zmemory = some (rg 16384) := rfl
theorem hasS_eq (f : UInt64) : feat_Has f 0 = some (shr64 f (0 : UInt64).toNat &&& 1 == 1) := by
  unfold feat_Has
  rw [bP (by decide), bP (by decide), cP (by decide)]; rfl
/-- into how many buffers bytes go -/
def go (mg : Bool) (W : Nat) : Nat → Nat → List Nat → Option Nat
  | _, _, [] => none
  | i, s, r :: rs => if r = 0 ∨ (i = 0 ∧ r < 12) ∨ (0 < i ∧ mg = false) then none else if W ≤ s + r then some (i + 1) else go mg W (i + 1) (s + r) rs
end Go.Proofs.Ytdaijemhibbgeaa
