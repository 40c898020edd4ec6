/- Frames as the document says them; checksums that are filled in. No condition. -/
import Derived.Test.YtdaijemhibbgeaaPuFrame
namespace Go.Proofs.Ytdaijemhibbgeaa
theorem refCheck_eq (f : Frame) : ref_Check23 f = frame_Check f := rfl
theorem refBytesJ (D S : A6 UInt8) (v : Int) (t : UInt16) (da b : List UInt8) (h1 : b.length ≤ 100) (h2 : da.length ≤ 3000) : ref_Bytes23J3 D S v t da b = some ((b ++ [hi8 t, t.toUInt8]) ++ da, 0) := by
  unfold ref_Bytes23J3
  rw [cFits (by simp; omega), cFits (by simp; omega)]; rfl
theorem refBytesL (D S : A6 UInt8) (v : Int) (t : UInt16) (da : List UInt8) : ref_Bytes23L1 fuel D S v t da [] 0 =
    br (decide (v ≥ 0)) (chk (fits 12 4 1) <| ref_Bytes23J3 D S v t da ((l6 D ++ l6 S) ++ [129, 0, u8 (shri v (8 : UInt64).toNat), u8 v])) (ref_Bytes23J3 D S v t da (l6 D ++ l6 S)) := by kernel_rfl
theorem refBytes_eq (f : Frame) : ref_Bytes23 f = frame_Bytes f := by
  unfold ref_Bytes23
  rw [refCheck_eq]
  by_cases h : okF f
  · have h4 := h.2.2.2
    have hl : ∀ x, (l6 x).length = 6 := fun _ => rfl
    rw [bytes_ok h, oS (check_ok h), nE rfl, refBytesL]
    by_cases hv : f.Vlan ≥ 0
    · rw [bP hv, cFits (by decide), refBytesJ _ _ _ _ _ _ (by simp [hl]) (by omega)]
      simp only [bytesF, tagB_pos hv]
    · rw [bN hv, refBytesJ _ _ _ _ _ _ (by simp [hl]) (by omega)]
      simp only [bytesF, tagB_neg hv, List.append_nil]
  · rw [bytes_bad h, oS (check_bad h), nF (by decide)]
theorem refReadHdr_eq (b : List UInt8) : ref_ReadHdr23 b = frame_ReadHdr b := by
  unfold ref_ReadHdr23 frame_ReadHdr
  by_cases h : len b < 12
  · rw [bP h, bP h]
  · rw [bN h, bN h]
    unfold frame_ReadHdr_1
    rw [show wi ((6 : Int) + 1) = 7 from by decide, show wi ((8 : Int) + 1) = 9 from by decide, show wi ((10 : Int) + 1) = 11 from by decide]
    simp only [len] at h
    have g : ∀ (i : Nat) (hi : i < 12), ix b (i : Int) = some (b[i]'(by omega)) := fun i hi => ix_nat (getq (by omega))
    have g0 := g 0 (by omega); have g6 := g 6 (by omega); have g7 := g 7 (by omega); have g8 := g 8 (by omega); have g9 := g 9 (by omega); have g10 := g 10 (by omega); have g11 := g 11 (by omega)
    simp only [Int.natCast_zero, Int.cast_ofNat_Int] at g0 g6 g7 g8 g9 g10 g11
    simp only [g0, g6, g7, g8, g9, g10, g11, obS]
end Go.Proofs.Ytdaijemhibbgeaa
