/- How the arguments of the laws read as data. No statement of the seat is proved here; no condition. -/
import Derived.Test.YtamdpkddehhocaaWrap
import Derived.Test.YtamdpkddehhocaaFc
namespace Go.Proofs.Ytamdpkddehhocaa

theorem cz26 : Try.prog.cellsOf 26 = 1 := by kernel_rfl
theorem cz27 : Try.prog.cellsOf 27 = 1 := by kernel_rfl
theorem cz22 : Try.prog.cellsOf 22 = 1 := by kernel_rfl
theorem cz29 : Try.prog.cellsOf 29 = 4 := by kernel_rfl
theorem cz31 : Try.prog.cellsOf 31 = 4 := by kernel_rfl
theorem cz49 : Try.prog.cellsOf 49 = 2 := by kernel_rfl
theorem cz52 : Try.prog.cellsOf 52 = 2 := by kernel_rfl
theorem rdT22 : Rd Try.prog u16S 22 := rd_u16 Try.underlying22
theorem rdT4 : Rd Try.prog bS 4 := rd_b Try.underlying4
theorem rdT26 : Rd Try.prog u64S 26 := rd_u64 Try.underlying26
theorem rdT27 : Rd Try.prog u32S 27 := rd_u32 Try.underlying27
theorem rdT29 : Rd Try.prog DescS 29 := by
  intro H enc W sp hd fuel cs y h
  obtain ⟨hl, hf⟩ := rd_parts Try.underlying29 h
  obtain ⟨x0, h0⟩ := rd_part hf 0 0 1 rfl rfl rfl cz26 rdT26
  obtain ⟨x1, h1⟩ := rd_part hf 1 1 1 rfl rfl rfl cz27 rdT27
  obtain ⟨x2, h2⟩ := rd_part hf 2 2 1 rfl rfl rfl cz22 rdT22
  obtain ⟨x3, h3⟩ := rd_part hf 3 3 1 rfl rfl rfl cz22 rdT22
  rw [cz29] at hl
  rcases cs with _ | ⟨c0, _ | ⟨c1, _ | ⟨c2, _ | ⟨c3, _ | ⟨cn, cs⟩⟩⟩⟩⟩
  · simp at hl
  · simp at hl
  · simp at hl
  · simp at hl
  · replace h0 : [c0] = [vU64 x0] := h0
    simp only [List.cons.injEq, and_true] at h0
    obtain rfl := h0
    replace h1 : [c1] = [vU32 x1] := h1
    simp only [List.cons.injEq, and_true] at h1
    obtain rfl := h1
    replace h2 : [c2] = [vU16 x2] := h2
    simp only [List.cons.injEq, and_true] at h2
    obtain rfl := h2
    replace h3 : [c3] = [vU16 x3] := h3
    simp only [List.cons.injEq, and_true] at h3
    obtain rfl := h3
    exact ⟨⟨x0, x1, x2, x3⟩, rfl⟩
  · simp at hl
theorem rdT31 : Rd Try.prog PackedS 31 := by
  intro H enc W sp hd fuel cs y h
  obtain ⟨hl, hf⟩ := rd_parts Try.underlying31 h
  obtain ⟨x0, h0⟩ := rd_part hf 0 0 1 rfl rfl rfl cz26 rdT26
  obtain ⟨x1, h1⟩ := rd_part hf 1 1 1 rfl rfl rfl cz27 rdT27
  obtain ⟨x2, h2⟩ := rd_part hf 2 2 1 rfl rfl rfl cz22 rdT22
  obtain ⟨x3, h3⟩ := rd_part hf 3 3 1 rfl rfl rfl cz22 rdT22
  rw [cz31] at hl
  rcases cs with _ | ⟨c0, _ | ⟨c1, _ | ⟨c2, _ | ⟨c3, _ | ⟨cn, cs⟩⟩⟩⟩⟩
  · simp at hl
  · simp at hl
  · simp at hl
  · simp at hl
  · replace h0 : [c0] = [vU64 x0] := h0
    simp only [List.cons.injEq, and_true] at h0
    obtain rfl := h0
    replace h1 : [c1] = [vU32 x1] := h1
    simp only [List.cons.injEq, and_true] at h1
    obtain rfl := h1
    replace h2 : [c2] = [vU16 x2] := h2
    simp only [List.cons.injEq, and_true] at h2
    obtain rfl := h2
    replace h3 : [c3] = [vU16 x3] := h3
    simp only [List.cons.injEq, and_true] at h3
    obtain rfl := h3
    exact ⟨⟨x0, x1, x2, x3⟩, rfl⟩
  · simp at hl
theorem rdT3 : Rd Try.prog iS 3 := rd_i Try.underlying3
theorem rdT5 : Rd Try.prog u8S 5 := rd_u8 Try.underlying5
theorem rdT32 : Rd Try.prog (Shape.slice DescS) 32 := rd_slice Try.underlying32 (by kernel_rfl) rdT29
theorem rdT49 : Rd Try.prog UsedS 49 := by
  intro H enc W sp hd fuel cs y h
  obtain ⟨hl, hf⟩ := rd_parts Try.underlying49 h
  obtain ⟨x0, h0⟩ := rd_part hf 0 0 1 rfl rfl rfl cz27 rdT27
  obtain ⟨x1, h1⟩ := rd_part hf 1 1 1 rfl rfl rfl cz27 rdT27
  rw [cz49] at hl
  rcases cs with _ | ⟨c0, _ | ⟨c1, _ | ⟨cn, cs⟩⟩⟩
  · simp at hl
  · simp at hl
  · replace h0 : [c0] = [vU32 x0] := h0
    simp only [List.cons.injEq, and_true] at h0
    obtain rfl := h0
    replace h1 : [c1] = [vU32 x1] := h1
    simp only [List.cons.injEq, and_true] at h1
    obtain rfl := h1
    exact ⟨⟨x0, x1⟩, rfl⟩
  · simp at hl
theorem rdT52 : Rd Try.prog EventS 52 := by
  intro H enc W sp hd fuel cs y h
  obtain ⟨hl, hf⟩ := rd_parts Try.underlying52 h
  obtain ⟨x0, h0⟩ := rd_part hf 0 0 1 rfl rfl rfl cz22 rdT22
  obtain ⟨x1, h1⟩ := rd_part hf 1 1 1 rfl rfl rfl cz22 rdT22
  rw [cz52] at hl
  rcases cs with _ | ⟨c0, _ | ⟨c1, _ | ⟨cn, cs⟩⟩⟩
  · simp at hl
  · simp at hl
  · replace h0 : [c0] = [vU16 x0] := h0
    simp only [List.cons.injEq, and_true] at h0
    obtain rfl := h0
    replace h1 : [c1] = [vU16 x1] := h1
    simp only [List.cons.injEq, and_true] at h1
    obtain rfl := h1
    exact ⟨⟨x0, x1⟩, rfl⟩
  · simp at hl
theorem rdT34 : Rd Try.prog (Shape.slice u8S) 34 := rd_slice Try.underlying34 (by kernel_rfl) rdT5
end Go.Proofs.Ytamdpkddehhocaa
