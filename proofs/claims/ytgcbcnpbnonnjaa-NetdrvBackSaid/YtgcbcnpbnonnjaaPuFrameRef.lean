/- Frames as the document says them; checksums that are filled in. No condition. -/
import Derived.Test.YtgcbcnpbnonnjaaPuFrame
namespace Go.Proofs.Ytgcbcnpbnonnjaa
theorem refCheck_eq (f : Frame) : ref_Check23 f = Ya f := rfl
theorem refBytesJ (D S : A6 UInt8) (v : Int) (t : UInt16) (da b : List UInt8) (h1 : b.length ≤ 100) (h2 : da.length ≤ 3000) : Xi D S v t da b = some ((b ++ [hi8 t, t.toUInt8]) ++ da, 0) := by
  unfold Xi
  rw [Kn (by simp; omega), Kn (by simp; omega)]; rfl
theorem refBytesL (D S : A6 UInt8) (v : Int) (t : UInt16) (da : List UInt8) : Kk fuel D S v t da [] 0 =
    br (decide (v ≥ 0)) (chk (fits 12 4 1) <| Xi D S v t da ((l6 D ++ l6 S) ++ [129, 0, u8 (shri v (8 : UInt64).toNat), u8 v])) (Xi D S v t da (l6 D ++ l6 S)) := by kernel_rfl
theorem refBytes_eq (f : Frame) : ref_Bytes23 f = Yo f := by
  unfold ref_Bytes23
  rw [refCheck_eq]
  by_cases h : okF f
  · have h4 := h.2.2.2
    have hl : ∀ x, (l6 x).length = 6 := fun _ => rfl
    rw [bytes_ok h, oS (check_ok h), nE rfl, refBytesL]
    by_cases hv : f.Vlan ≥ 0
    · rw [bP hv, Kn (by decide), refBytesJ _ _ _ _ _ _ (by simp [hl]) (by omega)]
      simp only [ZA, tagB_pos hv]
    · rw [bN hv, refBytesJ _ _ _ _ _ _ (by simp [hl]) (by omega)]
      simp only [ZA, tagB_neg hv, List.append_nil]
  · rw [bytes_bad h, oS (check_bad h), nF (by decide)]
theorem kitFrame_eq (f g : Frame) : kit_Frame f g = some (f == g) := by
  unfold kit_Frame
  have key : (f == g) = (f.Dst == g.Dst && (f.Src == g.Src && (f.Vlan == g.Vlan && (f.Type_ == g.Type_ && f.Data == g.Data)))) := by
    rw [Bool.eq_iff_iff]
    simp only [beq_iff_eq, Bool.and_eq_true]
    cases f; cases g; simp
  rw [key]
  cases f.Dst == g.Dst <;> cases f.Src == g.Src <;> cases f.Vlan == g.Vlan <;> cases f.Type_ == g.Type_ <;> rfl
theorem refHdrOf_eq (h : Hdr) : ref_HdrOf23 h = some (YL h) := rfl
theorem refReadHdr_eq (b : List UInt8) : ref_ReadHdr23 b = Zp b := by
  unfold ref_ReadHdr23 Zp
  by_cases h : len b < 12
  · rw [bP h, bP h]
  · rw [bN h, bN h]
    unfold Xs
    rw [show wi ((6 : Int) + 1) = 7 from by decide, show wi ((8 : Int) + 1) = 9 from by decide, show wi ((10 : Int) + 1) = 11 from by decide]
    simp only [len] at h
    have g : ∀ (i : Nat) (hi : i < 12), ix b (i : Int) = some (b[i]'(by omega)) := fun i hi => ZF (getq (by omega))
    have g0 := g 0 (by omega); have g6 := g 6 (by omega); have g7 := g 7 (by omega); have g8 := g 8 (by omega); have g9 := g 9 (by omega); have g10 := g 10 (by omega); have g11 := g 11 (by omega)
    simp only [Int.natCast_zero, Int.cast_ofNat_Int] at g0 g6 g7 g8 g9 g10 g11
    simp only [g0, g6, g7, g8, g9, g10, g11, obS]
theorem readHdr_some (b : List UInt8) : ∃ r, Zp b = some r := by
  unfold Zp
  by_cases h : len b < 12
  · exact ⟨_, by rw [bP h]⟩
  · rw [bN h]
    unfold Xs
    rw [show wi ((6 : Int) + 1) = 7 from by decide, show wi ((8 : Int) + 1) = 9 from by decide, show wi ((10 : Int) + 1) = 11 from by decide]
    simp only [len] at h
    have g : ∀ (i : Nat) (hi : i < 12), ix b (i : Int) = some (b[i]'(by omega)) := fun i hi => ZF (getq (by omega))
    have g0 := g 0 (by omega); have g6 := g 6 (by omega); have g7 := g 7 (by omega); have g8 := g 8 (by omega); have g9 := g 9 (by omega); have g10 := g 10 (by omega); have g11 := g 11 (by omega)
    simp only [Int.natCast_zero, Int.cast_ofNat_Int] at g0 g6 g7 g8 g9 g10 g11
    simp only [g0, g6, g7, g8, g9, g10, g11, obS]
    exact ⟨_, rfl⟩
theorem read_some (b : List UInt8) (h2 : b.length ≤ 80000000000000) : ∃ r, XB b = some r := by
  by_cases hl : b.length < 14
  · exact ⟨_, read_short hl⟩
  · obtain ⟨d0, d1, d2, d3, d4, d5, s0, s1, s2, s3, s4, s5, x, y, r, rfl⟩ := list14 (b := b) (by omega)
    simp only [List.length_cons] at h2
    exact ⟨_, read_eq _ _ _ _ _ _ _ _ _ _ _ _ _ _ _ (by omega)⟩
end Go.Proofs.Ytgcbcnpbnonnjaa
