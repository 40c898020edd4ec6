/- The law DescCalls in plain words: it answers true. No condition. -/
import Derived.Test.YtlofegfaphijpaaPuDesc
namespace Go.Proofs.Ytlofegfaphijpaa
theorem list16 {α : Type} {b : List α} (h : b.length = 16) : ∃ b0 b1 b2 b3 b4 b5 b6 b7 b8 b9 b10 b11 b12 b13 b14 b15, b = [b0, b1, b2, b3, b4, b5, b6, b7, b8, b9, b10, b11, b12, b13, b14, b15] := by
  match b, h with
  | [b0, b1, b2, b3, b4, b5, b6, b7, b8, b9, b10, b11, b12, b13, b14, b15], _ => exact ⟨b0, b1, b2, b3, b4, b5, b6, b7, b8, b9, b10, b11, b12, b13, b14, b15, rfl⟩
theorem refReadD (b0 b1 b2 b3 b4 b5 b6 b7 b8 b9 b10 b11 b12 b13 b14 b15 : UInt8) : ref_Read03 [b0, b1, b2, b3, b4, b5, b6, b7, b8, b9, b10, b11, b12, b13, b14, b15] =
    some (⟨wrd b0 b1 b2 b3 b4 b5 b6 b7, (wrd b8 b9 b10 b11 0 0 0 0).toUInt32, (wrd b12 b13 0 0 0 0 0 0).toUInt16, (wrd b14 b15 0 0 0 0 0 0).toUInt16⟩, 0) := by
  rw [← horner8 b0, ← horner4 b8, ← horner2 b12, ← horner2 b14]; kernel_rfl
theorem refBytesD (d : Desc) : ref_Bytes03 d = some (bsD d) := by kernel_rfl
theorem refBytesP (d : Packed) : ref_PackedBytes03 d = some (bsP d) := by kernel_rfl
theorem read16 (b : List UInt8) (h : b.length = 16) : ∃ d, desc_Read b = some (d, 0) ∧ ref_Read03 b = some (d, 0) := by
  obtain ⟨b0, b1, b2, b3, b4, b5, b6, b7, b8, b9, b10, b11, b12, b13, b14, b15, rfl⟩ := list16 h
  exact ⟨_, readD .., refReadD ..⟩
/-- a descriptor out of sixteen bytes -/
def dOf (b : List UInt8) : Desc := match desc_Read b with | some r => r.1 | none => default
theorem dOf_eq {b : List UInt8} (h : b.length = 16) : desc_Read b = some (dOf b, 0) ∧ ref_Read03 b = some (dOf b, 0) := by
  obtain ⟨d, h1, h2⟩ := read16 b h
  have : dOf b = d := by unfold dOf; rw [h1]
  rw [this]; exact ⟨h1, h2⟩
end Go.Proofs.Ytlofegfaphijpaa
