/- How the arguments of the laws read as data. No statement of the seat is proved here; no condition. -/
import Derived.Test.YtihcimjfabdafaaWrap
import Derived.Test.YtihcimjfabdafaaFc
namespace Go.Proofs.Ytihcimjfabdafaa

theorem cz34 : Try.prog.cellsOf 34 = 1 := by kernel_rfl
theorem cz35 : Try.prog.cellsOf 35 = 1 := by kernel_rfl
theorem cz4 : Try.prog.cellsOf 4 = 1 := by kernel_rfl
theorem cz59 : Try.prog.cellsOf 59 = 3 := by kernel_rfl
theorem rdT34 : Rd Try.prog u64S 34 := rd_u64 Try.underlying34
theorem rdT35 : Rd Try.prog u32S 35 := rd_u32 Try.underlying35
theorem rdT4 : Rd Try.prog bS 4 := rd_b Try.underlying4
theorem rdT59 : Rd Try.prog SegS 59 := by
 intro H enc W sp hd fuel cs y h
 obtain ⟨hl, hf⟩ := rd_parts Try.underlying59 h
 obtain ⟨x0, h0⟩ := rd_part hf 0 0 1 rfl rfl rfl cz34 rdT34
 obtain ⟨x1, h1⟩ := rd_part hf 1 1 1 rfl rfl rfl cz35 rdT35
 obtain ⟨x2, h2⟩ := rd_part hf 2 2 1 rfl rfl rfl cz4 rdT4
 rw [cz59] at hl
 rcases cs with _ | ⟨c0, _ | ⟨c1, _ | ⟨c2, _ | ⟨cn, cs⟩⟩⟩⟩
 ·simp at hl
 ·simp at hl
 ·simp at hl
 ·replace h0 : [c0] = [vU64 x0] := h0
  simp only [List.cons.injEq, and_true] at h0
  obtain rfl := h0
  replace h1 : [c1] = [vU32 x1] := h1
  simp only [List.cons.injEq, and_true] at h1
  obtain rfl := h1
  replace h2 : [c2] = [vB x2] := h2
  simp only [List.cons.injEq, and_true] at h2
  obtain rfl := h2
  exact ⟨⟨x0, x1, x2⟩, rfl⟩
 ·simp at hl
theorem rdT27 : Rd Try.prog (Shape.slice SegS) 27 := rd_slice Try.underlying27 (by kernel_rfl) rdT59
theorem rdT3 : Rd Try.prog iS 3 := rd_i Try.underlying3
end Go.Proofs.Ytihcimjfabdafaa
