/- Frames in plain words: what their functions reckon. No condition. -/
import Derived.Test.YtdaijemhibbgeaaPuSum
namespace Go.Proofs.Ytdaijemhibbgeaa
/-- may a frame be? -/
def okF (f : Frame) : Prop := -1 ≤ f.Vlan ∧ f.Vlan ≤ 4095 ∧ f.Type_ ≠ 33024 ∧ f.Data.length ≤ 1500
instance (f : Frame) : Decidable (okF f) := by unfold okF; infer_instance
theorem check_ok {f : Frame} (h : okF f) : frame_Check f = some 0 := by
  obtain ⟨h1, h2, h3, h4⟩ := h
  unfold frame_Check
  rw [bN (by omega), bN (by omega), bF h3, bN (by simp only [len]; omega)]
theorem check_bad {f : Frame} (h : ¬ okF f) : frame_Check f = some 2 := by
  unfold frame_Check
  by_cases h1 : f.Vlan < -1
  · rw [bP h1]
  rw [bN h1]
  by_cases h2 : f.Vlan > 4095
  · rw [bP h2]
  rw [bN h2]
  by_cases h3 : f.Type_ = 33024
  · rw [bE h3]
  rw [bF h3]
  by_cases h4 : len f.Data > 1500
  · rw [bP h4]
  · exact absurd ⟨by omega, by omega, h3, by simp only [len] at h4; omega⟩ h
def l6 (x : A6 UInt8) : List UInt8 := [x.a0, x.a1, x.a2, x.a3, x.a4, x.a5]
/-- the bytes behind the addresses -/
def hi8 (t : UInt16) : UInt8 := (shr16 t (8 : UInt64).toNat).toUInt8
def tagB (v : Int) : List UInt8 := if 0 ≤ v then [129, 0, u8 (shri v (8 : UInt64).toNat), u8 v] else []
def bytesF (f : Frame) : List UInt8 := l6 f.Dst ++ l6 f.Src ++ tagB f.Vlan ++ [hi8 f.Type_, f.Type_.toUInt8] ++ f.Data
theorem concat2 (a b : A6 UInt8) : slices_Concat_bytebyte [[a.a0, a.a1, a.a2, a.a3, a.a4, a.a5], [b.a0, b.a1, b.a2, b.a3, b.a4, b.a5]] = some (l6 a ++ l6 b) := by kernel_rfl
theorem bytesJ (f : Frame) (b : List UInt8) (h1 : b.length ≤ 100) (h2 : f.Data.length ≤ 3000) : frame_BytesJ1 f b = some ((b ++ [hi8 f.Type_, f.Type_.toUInt8]) ++ f.Data, 0) := by
  unfold frame_BytesJ1
  rw [cFits (by simp; omega), cFits (by simp; omega)]; rfl
theorem bytes_ok {f : Frame} (h : okF f) : frame_Bytes f = some (bytesF f, 0) := by
  unfold frame_Bytes
  have hl : ∀ x, (l6 x).length = 6 := fun _ => rfl
  rw [oS (check_ok h), nE rfl, oS (concat2 f.Dst f.Src)]
  obtain ⟨h1, h2, h3, h4⟩ := h
  by_cases hv : f.Vlan ≥ 0
  · rw [bP hv, cFits (by simp [hl]), bytesJ f _ (by simp [hl]) (by omega)]
    simp only [bytesF, tagB, if_pos hv]
  · rw [bN hv, bytesJ f _ (by simp [hl]) (by omega)]
    simp only [bytesF, tagB, if_neg hv, List.append_nil]
theorem bytes_bad {f : Frame} (h : ¬ okF f) : frame_Bytes f = some ([], 2) := by
  unfold frame_Bytes
  rw [oS (check_bad h), nF (by decide)]
/-- the word of two bytes -/
def w16 (x y : UInt8) : UInt16 := shl16 x.toUInt16 (8 : UInt64).toNat ||| y.toUInt16
theorem w16_nat (x y : UInt8) : (w16 x y).toNat = 256 * x.toNat + y.toNat := word16 x y
theorem w16_of (t : UInt16) : w16 (hi8 t) t.toUInt8 = t := by
  apply UInt16.toNat_inj.1
  rw [w16_nat]; exact hi_lo16 t
theorem tagB_pos {v : Int} (h : 0 ≤ v) : tagB v = [129, 0, u8 (shri v (8 : UInt64).toNat), u8 v] := if_pos h
theorem tagB_neg {v : Int} (h : ¬ 0 ≤ v) : tagB v = [] := if_neg h
theorem bytesF_len (f : Frame) : (bytesF f).length = 14 + (tagB f.Vlan).length + f.Data.length := by
  simp only [bytesF, l6, List.length_append, List.length_cons, List.length_nil]; omega
/-! lists that are the same -/
/-! headers -/
def bytesH (h : Hdr) : List UInt8 := [h.Flags, 0, 0, 0, 0, 0, h.Start.toUInt8, hi8 h.Start, h.Off.toUInt8, hi8 h.Off, h.Buffers.toUInt8, hi8 h.Buffers]
theorem hdr_eq (h : Hdr) : frame_HdrOf h = some (bytesH h) := by kernel_rfl
theorem lo_hi (t : UInt16) : t.toUInt8.toUInt16 ||| shl16 (hi8 t).toUInt16 (8 : UInt64).toNat = t := by
  have := w16_of t
  unfold w16 at this
  rwa [UInt16.or_comm] at this
theorem readHdr_eq (h : Hdr) : frame_ReadHdr (bytesH h) = some (h, 0) := by
  have e : frame_ReadHdr (bytesH h) = some (Hdr.mk h.Flags (h.Start.toUInt8.toUInt16 ||| shl16 (hi8 h.Start).toUInt16 (8 : UInt64).toNat) (h.Off.toUInt8.toUInt16 ||| shl16 (hi8 h.Off).toUInt16 (8 : UInt64).toNat) (h.Buffers.toUInt8.toUInt16 ||| shl16 (hi8 h.Buffers).toUInt16 (8 : UInt64).toNat), 0) := by kernel_rfl
  rw [e, lo_hi, lo_hi, lo_hi]
end Go.Proofs.Ytdaijemhibbgeaa
