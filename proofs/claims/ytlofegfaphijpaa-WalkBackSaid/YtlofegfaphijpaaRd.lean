/- How the arguments of the laws read as data. No statement of the seat is proved here; no condition. -/
import Derived.Test.YtlofegfaphijpaaGe1
import Derived.Test.YtlofegfaphijpaaFc
namespace Go.Proofs.Ytlofegfaphijpaa

theorem cz27 : Try.prog.cellsOf 27 = 1 := by kernel_rfl
theorem cz33 : Try.prog.cellsOf 33 = 1 := by kernel_rfl
theorem cz4 : Try.prog.cellsOf 4 = 1 := by kernel_rfl
theorem cz46 : Try.prog.cellsOf 46 = 3 := by kernel_rfl
theorem rdT3 : Rd Try.prog iS 3 := rd_i Try.underlying3
theorem rdT4 : Rd Try.prog bS 4 := rd_b Try.underlying4
theorem rdT27 : Rd Try.prog u64S 27 := rd_u64 Try.underlying27
theorem rdT33 : Rd Try.prog u32S 33 := rd_u32 Try.underlying33
theorem rdT46 : Rd Try.prog SegS 46 := by
 intro H enc W sp hd fuel cs y h
 obtain ⟨hl, hf⟩ := rd_parts Try.underlying46 h
 obtain ⟨x0, h0⟩ := rd_part hf 0 0 1 rfl rfl rfl cz27 rdT27
 obtain ⟨x1, h1⟩ := rd_part hf 1 1 1 rfl rfl rfl cz33 rdT33
 obtain ⟨x2, h2⟩ := rd_part hf 2 2 1 rfl rfl rfl cz4 rdT4
 rw [cz46] at hl
 rcases cs with _ | ⟨c0, _ | ⟨c1, _ | ⟨c2, _ | ⟨cn, cs⟩⟩⟩⟩
 ·simp at hl
 ·simp at hl
 ·simp at hl
 ·replace h0 : [c0] = [vU64 x0] := h0
  simp only [List.cons.injEq, and_true] at h0
  obtain rfl := h0
  replace h1 : [c1] = [vU32 x1] := h1
  simp only [List.cons.injEq, and_true] at h1
  obtain rfl := h1
  replace h2 : [c2] = [vB x2] := h2
  simp only [List.cons.injEq, and_true] at h2
  obtain rfl := h2
  exact ⟨⟨x0, x1, x2⟩, rfl⟩
 ·simp at hl
theorem rdT41 : Rd Try.prog (Shape.slice SegS) 41 := rd_slice Try.underlying41 (by kernel_rfl) rdT46
end Go.Proofs.Ytlofegfaphijpaa
