/- Frames as the document says them; checksums that are filled in. No condition. -/
import Derived.Test.YtgcbcnpbnonnjaaPuFrame
namespace Go.Proofs.Ytgcbcnpbnonnjaa
theorem kitFrame_eq (f g : Frame) : kit_Frame f g = some (f == g) := by
  unfold kit_Frame
  have key : (f == g) = (f.Dst == g.Dst && (f.Src == g.Src && (f.Vlan == g.Vlan && (f.Type_ == g.Type_ && f.Data == g.Data)))) := by
    rw [Bool.eq_iff_iff]
    simp only [beq_iff_eq, Bool.and_eq_true]
    cases f; cases g; simp
  rw [key]
  cases f.Dst == g.Dst <;> cases f.Src == g.Src <;> cases f.Vlan == g.Vlan <;> cases f.Type_ == g.Type_ <;> rfl
theorem readHdr_some (b : List UInt8) : ∃ r, frame_ReadHdr b = some r := by
  unfold frame_ReadHdr
  by_cases h : len b < 12
  · exact ⟨_, by rw [bP h]⟩
  · rw [bN h]
    unfold frame_ReadHdr_1
    rw [show wi ((6 : Int) + 1) = 7 from by decide, show wi ((8 : Int) + 1) = 9 from by decide, show wi ((10 : Int) + 1) = 11 from by decide]
    simp only [len] at h
    have g : ∀ (i : Nat) (hi : i < 12), ix b (i : Int) = some (b[i]'(by omega)) := fun i hi => ix_nat (getq (by omega))
    have g0 := g 0 (by omega); have g6 := g 6 (by omega); have g7 := g 7 (by omega); have g8 := g 8 (by omega); have g9 := g 9 (by omega); have g10 := g 10 (by omega); have g11 := g 11 (by omega)
    simp only [Int.natCast_zero, Int.cast_ofNat_Int] at g0 g6 g7 g8 g9 g10 g11
    simp only [g0, g6, g7, g8, g9, g10, g11, obS]
    exact ⟨_, rfl⟩
theorem read_some (b : List UInt8) (h2 : b.length ≤ 80000000000000) : ∃ r, frame_Read b = some r := by
  by_cases hl : b.length < 14
  · exact ⟨_, read_short hl⟩
  · obtain ⟨d0, d1, d2, d3, d4, d5, s0, s1, s2, s3, s4, s5, x, y, r, rfl⟩ := list14 (b := b) (by omega)
    simp only [List.length_cons] at h2
    exact ⟨_, read_eq _ _ _ _ _ _ _ _ _ _ _ _ _ _ _ (by omega)⟩
end Go.Proofs.Ytgcbcnpbnonnjaa
