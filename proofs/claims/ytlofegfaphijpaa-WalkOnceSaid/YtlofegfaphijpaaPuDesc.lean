/- Descriptors, used elements, events and tables in plain words: what their functions reckon. No condition. -/
import Derived.Test.YtlofegfaphijpaaMo1
import Derived.Test.YtlofegfaphijpaaPuLib
namespace Go.Proofs.Ytlofegfaphijpaa

def bsD (d : Desc) : List UInt8 := [byt d.Addr 0, byt d.Addr 1, byt d.Addr 2, byt d.Addr 3, byt d.Addr 4, byt d.Addr 5, byt d.Addr 6, byt d.Addr 7, byt d.Len.toUInt64 0, byt d.Len.toUInt64 1, byt d.Len.toUInt64 2, byt d.Len.toUInt64 3, byt d.Flags.toUInt64 0, byt d.Flags.toUInt64 1, byt d.Next.toUInt64 0, byt d.Next.toUInt64 1]
def bsP (d : Packed) : List UInt8 := [byt d.Addr 0, byt d.Addr 1, byt d.Addr 2, byt d.Addr 3, byt d.Addr 4, byt d.Addr 5, byt d.Addr 6, byt d.Addr 7, byt d.Len.toUInt64 0, byt d.Len.toUInt64 1, byt d.Len.toUInt64 2, byt d.Len.toUInt64 3, byt d.ID.toUInt64 0, byt d.ID.toUInt64 1, byt d.Flags.toUInt64 0, byt d.Flags.toUInt64 1]
theorem readD (b0 b1 b2 b3 b4 b5 b6 b7 b8 b9 b10 b11 b12 b13 b14 b15 : UInt8) : desc_Read [b0, b1, b2, b3, b4, b5, b6, b7, b8, b9, b10, b11, b12, b13, b14, b15] =
    some (⟨wrd b0 b1 b2 b3 b4 b5 b6 b7, (wrd b8 b9 b10 b11 0 0 0 0).toUInt32, (wrd b12 b13 0 0 0 0 0 0).toUInt16, (wrd b14 b15 0 0 0 0 0 0).toUInt16⟩, 0) := by
  rw [← or_wrd b0, ← or_wrd4 b8, ← or_wrd2 b12, ← or_wrd2 b14]; kernel_rfl
theorem read_bytesD (d : Desc) : desc_Read (bsD d) = some (d, 0) := by
  unfold bsD; rw [readD, wrd_byt, wrd4_byt, wrd2_byt, wrd2_byt]
theorem bsD_len (d : Desc) : (bsD d).length = 16 := rfl

/-! words -/
end Go.Proofs.Ytlofegfaphijpaa
