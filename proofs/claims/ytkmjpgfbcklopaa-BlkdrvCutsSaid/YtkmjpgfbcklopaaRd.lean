/- How the arguments of the laws read as data. No statement of the seat is proved here; no condition. -/
import Derived.Test.YtkmjpgfbcklopaaWrap
import Derived.Test.YtkmjpgfbcklopaaFc
namespace Go.Proofs.Ytkmjpgfbcklopaa

theorem cz29 : Try.prog.cellsOf 29 = 1 := by kernel_rfl
theorem cz30 : Try.prog.cellsOf 30 = 1 := by kernel_rfl
theorem cz4 : Try.prog.cellsOf 4 = 1 := by kernel_rfl
theorem cz32 : Try.prog.cellsOf 32 = 3 := by kernel_rfl
theorem rdT29 : Rd Try.prog u64S 29 := rd_u64 Try.underlying29
theorem rdT30 : Rd Try.prog u32S 30 := rd_u32 Try.underlying30
theorem rdT4 : Rd Try.prog bS 4 := rd_b Try.underlying4
theorem rdT32 : Rd Try.prog SegS 32 := by
 intro H enc W sp hd fuel cs y h
 obtain ⟨hl, hf⟩ := rd_parts Try.underlying32 h
 obtain ⟨x0, h0⟩ := rd_part hf 0 0 1 rfl rfl rfl cz29 rdT29
 obtain ⟨x1, h1⟩ := rd_part hf 1 1 1 rfl rfl rfl cz30 rdT30
 obtain ⟨x2, h2⟩ := rd_part hf 2 2 1 rfl rfl rfl cz4 rdT4
 rw [cz32] at hl
 rcases cs with _ | ⟨c0, _ | ⟨c1, _ | ⟨c2, _ | ⟨cn, cs⟩⟩⟩⟩
 ·simp at hl
 ·simp at hl
 ·simp at hl
 ·replace h0 : [c0] = [vU64 x0] := h0
  simp only [List.cons.injEq, and_true] at h0
  obtain rfl := h0
  replace h1 : [c1] = [vU32 x1] := h1
  simp only [List.cons.injEq, and_true] at h1
  obtain rfl := h1
  replace h2 : [c2] = [vB x2] := h2
  simp only [List.cons.injEq, and_true] at h2
  obtain rfl := h2
  exact ⟨⟨x0, x1, x2⟩, rfl⟩
 ·simp at hl
theorem rdT22 : Rd Try.prog (Shape.slice SegS) 22 := rd_slice Try.underlying22 (by kernel_rfl) rdT32
theorem rdT3 : Rd Try.prog iS 3 := rd_i Try.underlying3
theorem rdT23 : Rd Try.prog (Shape.slice iS) 23 := rd_slice Try.underlying23 (by kernel_rfl) rdT3
end Go.Proofs.Ytkmjpgfbcklopaa
