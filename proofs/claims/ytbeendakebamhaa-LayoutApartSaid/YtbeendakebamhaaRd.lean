/- How the arguments of the laws read as data. No statement of the seat is proved here; no condition. -/
import Derived.Test.YtbeendakebamhaaWrap
import Derived.Test.YtbeendakebamhaaFc
namespace Go.Proofs.Ytbeendakebamhaa

theorem cz4 : Try.prog.cellsOf 4 = 1 := by kernel_rfl
theorem cz3 : Try.prog.cellsOf 3 = 1 := by kernel_rfl
theorem cz22 : Try.prog.cellsOf 22 = 1 := by kernel_rfl
theorem cz27 : Try.prog.cellsOf 27 = 5 := by kernel_rfl
theorem rdT4 : Rd Try.prog bS 4 := rd_b Try.underlying4
theorem rdT3 : Rd Try.prog iS 3 := rd_i Try.underlying3
theorem rdT22 : Rd Try.prog u64S 22 := rd_u64 Try.underlying22
theorem rdT27 : Rd Try.prog RingsS 27 := by
 intro H enc W sp hd fuel cs y h
 obtain ⟨hl, hf⟩ := rd_parts Try.underlying27 h
 obtain ⟨x0, h0⟩ := rd_part hf 0 0 1 rfl rfl rfl cz4 rdT4
 obtain ⟨x1, h1⟩ := rd_part hf 1 1 1 rfl rfl rfl cz3 rdT3
 obtain ⟨x2, h2⟩ := rd_part hf 2 2 1 rfl rfl rfl cz22 rdT22
 obtain ⟨x3, h3⟩ := rd_part hf 3 3 1 rfl rfl rfl cz22 rdT22
 obtain ⟨x4, h4⟩ := rd_part hf 4 4 1 rfl rfl rfl cz22 rdT22
 rw [cz27] at hl
 rcases cs with _ | ⟨c0, _ | ⟨c1, _ | ⟨c2, _ | ⟨c3, _ | ⟨c4, _ | ⟨cn, cs⟩⟩⟩⟩⟩⟩
 ·simp at hl
 ·simp at hl
 ·simp at hl
 ·simp at hl
 ·simp at hl
 ·replace h0 : [c0] = [vB x0] := h0
  simp only [List.cons.injEq, and_true] at h0
  obtain rfl := h0
  replace h1 : [c1] = [vI x1] := h1
  simp only [List.cons.injEq, and_true] at h1
  obtain rfl := h1
  replace h2 : [c2] = [vU64 x2] := h2
  simp only [List.cons.injEq, and_true] at h2
  obtain rfl := h2
  replace h3 : [c3] = [vU64 x3] := h3
  simp only [List.cons.injEq, and_true] at h3
  obtain rfl := h3
  replace h4 : [c4] = [vU64 x4] := h4
  simp only [List.cons.injEq, and_true] at h4
  obtain rfl := h4
  exact ⟨⟨x0, x1, x2, x3, x4⟩, rfl⟩
 ·simp at hl
end Go.Proofs.Ytbeendakebamhaa
