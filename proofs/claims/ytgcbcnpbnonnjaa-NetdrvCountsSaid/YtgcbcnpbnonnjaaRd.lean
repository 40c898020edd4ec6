/- How the arguments of the laws read as data. No statement of the seat is proved here; no condition. -/
import Derived.Test.YtgcbcnpbnonnjaaWrap
import Derived.Test.YtgcbcnpbnonnjaaFc
namespace Go.Proofs.Ytgcbcnpbnonnjaa

theorem cz22 : Try.prog.cellsOf 22 = 1 := by kernel_rfl
theorem cz27 : Try.prog.cellsOf 27 = 1 := by kernel_rfl
theorem cz4 : Try.prog.cellsOf 4 = 1 := by kernel_rfl
theorem cz29 : Try.prog.cellsOf 29 = 3 := by kernel_rfl
theorem rdT22 : Rd Try.prog u64S 22 := rd_u64 Try.underlying22
theorem rdT5 : Rd Try.prog u8S 5 := rd_u8 Try.underlying5
theorem rdT35 : Rd Try.prog (Shape.slice u8S) 35 := rd_slice Try.underlying35 (by kernel_rfl) rdT5
theorem rdT27 : Rd Try.prog u32S 27 := rd_u32 Try.underlying27
theorem rdT4 : Rd Try.prog bS 4 := rd_b Try.underlying4
theorem rdT29 : Rd Try.prog SegS 29 := by
 intro H enc W sp hd fuel cs y h
 obtain ⟨hl, hf⟩ := rd_parts Try.underlying29 h
 obtain ⟨x0, h0⟩ := rd_part hf 0 0 1 rfl rfl rfl cz22 rdT22
 obtain ⟨x1, h1⟩ := rd_part hf 1 1 1 rfl rfl rfl cz27 rdT27
 obtain ⟨x2, h2⟩ := rd_part hf 2 2 1 rfl rfl rfl cz4 rdT4
 rw [cz29] at hl
 rcases cs with _ | ⟨c0, _ | ⟨c1, _ | ⟨c2, _ | ⟨cn, cs⟩⟩⟩⟩
 ·simp at hl
 ·simp at hl
 ·simp at hl
 ·replace h0 : [c0] = [vU64 x0] := h0
  simp only [List.cons.injEq, and_true] at h0
  obtain rfl := h0
  replace h1 : [c1] = [vU32 x1] := h1
  simp only [List.cons.injEq, and_true] at h1
  obtain rfl := h1
  replace h2 : [c2] = [vB x2] := h2
  simp only [List.cons.injEq, and_true] at h2
  obtain rfl := h2
  exact ⟨⟨x0, x1, x2⟩, rfl⟩
 ·simp at hl
theorem rdT25 : Rd Try.prog (Shape.slice SegS) 25 := rd_slice Try.underlying25 (by kernel_rfl) rdT29
theorem rdT59 : Rd Try.prog (Shape.slice (Shape.slice SegS)) 59 := rd_slice Try.underlying59 (by kernel_rfl) rdT25
theorem rdT62 : Rd Try.prog (Shape.slice u32S) 62 := rd_slice Try.underlying62 (by kernel_rfl) rdT27
end Go.Proofs.Ytgcbcnpbnonnjaa
