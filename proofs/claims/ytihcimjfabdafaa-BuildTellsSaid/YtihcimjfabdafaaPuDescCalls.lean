/- The law DescCalls in plain words: it answers true. No condition. -/
import Derived.Test.YtihcimjfabdafaaPuDesc
namespace Go.Proofs.Ytihcimjfabdafaa
theorem refReadD (b0 b1 b2 b3 b4 b5 b6 b7 b8 b9 b10 b11 b12 b13 b14 b15 : UInt8) : ref_Read03 [b0, b1, b2, b3, b4, b5, b6, b7, b8, b9, b10, b11, b12, b13, b14, b15] =
    some (⟨wrd b0 b1 b2 b3 b4 b5 b6 b7, (wrd b8 b9 b10 b11 0 0 0 0).toUInt32, (wrd b12 b13 0 0 0 0 0 0).toUInt16, (wrd b14 b15 0 0 0 0 0 0).toUInt16⟩, 0) := by
  rw [← horner8 b0, ← horner4 b8, ← horner2 b12, ← horner2 b14]; kernel_rfl
theorem refReadP (b0 b1 b2 b3 b4 b5 b6 b7 b8 b9 b10 b11 b12 b13 b14 b15 : UInt8) : ref_ReadPacked03 [b0, b1, b2, b3, b4, b5, b6, b7, b8, b9, b10, b11, b12, b13, b14, b15] =
    some (⟨wrd b0 b1 b2 b3 b4 b5 b6 b7, (wrd b8 b9 b10 b11 0 0 0 0).toUInt32, (wrd b12 b13 0 0 0 0 0 0).toUInt16, (wrd b14 b15 0 0 0 0 0 0).toUInt16⟩, 0) := by
  rw [← horner8 b0, ← horner4 b8, ← horner2 b12, ← horner2 b14]; kernel_rfl
end Go.Proofs.Ytihcimjfabdafaa
