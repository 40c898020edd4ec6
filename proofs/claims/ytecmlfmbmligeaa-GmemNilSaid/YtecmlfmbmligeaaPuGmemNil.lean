/- The law GmemNil in plain words. No condition. -/
import Derived.Test.YtecmlfmbmligeaaPuBase
namespace Go.Proofs.Ytecmlfmbmligeaa
theorem lives02 : law02zlives = some true := by kernel_rfl
theorem t_law02zGmemNil (a : UInt64) (n : Int) (b : List UInt8) : law02zGmemNil a n b = some true := by
  unfold law02zGmemNil
  rw [oS lives02, cNT (show (!true) = false from rfl)]
  by_cases h : len b > 2000
  · rw [bP h]
  · rw [bN h]; rfl
end Go.Proofs.Ytecmlfmbmligeaa
