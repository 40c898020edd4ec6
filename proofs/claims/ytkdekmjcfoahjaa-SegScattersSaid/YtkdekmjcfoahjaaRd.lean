/- How the arguments of the laws read as data. No statement of the seat is proved here; no condition. -/
import Derived.Test.YtkdekmjcfoahjaaWrap
import Derived.Test.YtkdekmjcfoahjaaFc
namespace Go.Proofs.Ytkdekmjcfoahjaa

theorem cz23 : Try.prog.cellsOf 23 = 1 := by kernel_rfl
theorem cz45 : Try.prog.cellsOf 45 = 1 := by kernel_rfl
theorem cz4 : Try.prog.cellsOf 4 = 1 := by kernel_rfl
theorem cz47 : Try.prog.cellsOf 47 = 3 := by kernel_rfl
theorem rdT23 : Rd Try.prog u64S 23 := rd_u64 Try.underlying23
theorem rdT45 : Rd Try.prog u32S 45 := rd_u32 Try.underlying45
theorem rdT4 : Rd Try.prog bS 4 := rd_b Try.underlying4
theorem rdT47 : Rd Try.prog SegS 47 := by
 intro H enc W sp hd fuel cs y h
 obtain ⟨hl, hf⟩ := rd_parts Try.underlying47 h
 obtain ⟨x0, h0⟩ := rd_part hf 0 0 1 rfl rfl rfl cz23 rdT23
 obtain ⟨x1, h1⟩ := rd_part hf 1 1 1 rfl rfl rfl cz45 rdT45
 obtain ⟨x2, h2⟩ := rd_part hf 2 2 1 rfl rfl rfl cz4 rdT4
 rw [cz47] at hl
 rcases cs with _ | ⟨c0, _ | ⟨c1, _ | ⟨c2, _ | ⟨cn, cs⟩⟩⟩⟩
 ·simp at hl
 ·simp at hl
 ·simp at hl
 ·replace h0 : [c0] = [vU64 x0] := h0
  simp only [List.cons.injEq, and_true] at h0
  obtain rfl := h0
  replace h1 : [c1] = [vU32 x1] := h1
  simp only [List.cons.injEq, and_true] at h1
  obtain rfl := h1
  replace h2 : [c2] = [vB x2] := h2
  simp only [List.cons.injEq, and_true] at h2
  obtain rfl := h2
  exact ⟨⟨x0, x1, x2⟩, rfl⟩
 ·simp at hl
theorem rdT22 : Rd Try.prog (Shape.slice SegS) 22 := rd_slice Try.underlying22 (by kernel_rfl) rdT47
theorem rdT5 : Rd Try.prog u8S 5 := rd_u8 Try.underlying5
theorem rdT33 : Rd Try.prog (Shape.slice u8S) 33 := rd_slice Try.underlying33 (by kernel_rfl) rdT5
end Go.Proofs.Ytkdekmjcfoahjaa
