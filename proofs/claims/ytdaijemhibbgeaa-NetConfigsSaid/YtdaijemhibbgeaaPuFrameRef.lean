/- Frames as the document says them; checksums that are filled in. No condition. -/
import Derived.Test.YtdaijemhibbgeaaPuFrame
namespace Go.Proofs.Ytdaijemhibbgeaa
theorem refCheck_eq (f : Frame) : ref_Check23 f = frame_Check f := rfl
theorem refBytesJ (D S : A6 UInt8) (v : Int) (t : UInt16) (da b : List UInt8) (h1 : b.length ≤ 100) (h2 : da.length ≤ 3000) : ref_Bytes23J3 D S v t da b = some ((b ++ [hi8 t, t.toUInt8]) ++ da, 0) := by
  unfold ref_Bytes23J3
  rw [cFits (by simp; omega), cFits (by simp; omega)]; rfl
theorem refBytesL (D S : A6 UInt8) (v : Int) (t : UInt16) (da : List UInt8) : ref_Bytes23L1 fuel D S v t da [] 0 =
    br (decide (v ≥ 0)) (chk (fits 12 4 1) <| ref_Bytes23J3 D S v t da ((l6 D ++ l6 S) ++ [129, 0, u8 (shri v (8 : UInt64).toNat), u8 v])) (ref_Bytes23J3 D S v t da (l6 D ++ l6 S)) := by kernel_rfl
theorem refBytes_eq (f : Frame) : ref_Bytes23 f = frame_Bytes f := by
  unfold ref_Bytes23
  rw [refCheck_eq]
  by_cases h : okF f
  · have h4 := h.2.2.2
    have hl : ∀ x, (l6 x).length = 6 := fun _ => rfl
    rw [bytes_ok h, oS (check_ok h), nE rfl, refBytesL]
    by_cases hv : f.Vlan ≥ 0
    · rw [bP hv, cFits (by decide), refBytesJ _ _ _ _ _ _ (by simp [hl]) (by omega)]
      simp only [bytesF, tagB_pos hv]
    · rw [bN hv, refBytesJ _ _ _ _ _ _ (by simp [hl]) (by omega)]
      simp only [bytesF, tagB_neg hv, List.append_nil]
  · rw [bytes_bad h, oS (check_bad h), nF (by decide)]
theorem kitFrame_eq (f g : Frame) : kit_Frame f g = some (f == g) := by
  unfold kit_Frame
  have key : (f == g) = (f.Dst == g.Dst && (f.Src == g.Src && (f.Vlan == g.Vlan && (f.Type_ == g.Type_ && f.Data == g.Data)))) := by
    rw [Bool.eq_iff_iff]
    simp only [beq_iff_eq, Bool.and_eq_true]
    cases f; cases g; simp
  rw [key]
  cases f.Dst == g.Dst <;> cases f.Src == g.Src <;> cases f.Vlan == g.Vlan <;> cases f.Type_ == g.Type_ <;> rfl
theorem refHdrOf_eq (h : Hdr) : ref_HdrOf23 h = some (bytesH h) := rfl
end Go.Proofs.Ytdaijemhibbgeaa
