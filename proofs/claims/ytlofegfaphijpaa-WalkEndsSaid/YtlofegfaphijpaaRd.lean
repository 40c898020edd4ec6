/- How the arguments of the laws read as data. No statement of the seat is proved here; no condition. -/
import Derived.Test.YtlofegfaphijpaaGe1
import Derived.Test.YtlofegfaphijpaaFc
namespace Go.Proofs.Ytlofegfaphijpaa

theorem cz3 : Try.prog.cellsOf 3 = 1 := by kernel_rfl
theorem cz27 : Try.prog.cellsOf 27 = 1 := by kernel_rfl
theorem cz33 : Try.prog.cellsOf 33 = 1 := by kernel_rfl
theorem cz34 : Try.prog.cellsOf 34 = 1 := by kernel_rfl
theorem cz36 : Try.prog.cellsOf 36 = 4 := by kernel_rfl
theorem cz87 : Try.prog.cellsOf 87 = 4 := by kernel_rfl
theorem cz97 : Try.prog.cellsOf 97 = 9 := by kernel_rfl
theorem cz4 : Try.prog.cellsOf 4 = 1 := by kernel_rfl
theorem cz60 : Try.prog.cellsOf 60 = 2 := by kernel_rfl
theorem rdT3 : Rd Try.prog iS 3 := rd_i Try.underlying3
theorem rdT4 : Rd Try.prog bS 4 := rd_b Try.underlying4
theorem rdT27 : Rd Try.prog u64S 27 := rd_u64 Try.underlying27
theorem rdT33 : Rd Try.prog u32S 33 := rd_u32 Try.underlying33
theorem rdT34 : Rd Try.prog u16S 34 := rd_u16 Try.underlying34
theorem rdT36 : Rd Try.prog DescS 36 := by
 intro H enc W sp hd fuel cs y h
 obtain ⟨hl, hf⟩ := rd_parts Try.underlying36 h
 obtain ⟨x0, h0⟩ := rd_part hf 0 0 1 rfl rfl rfl cz27 rdT27
 obtain ⟨x1, h1⟩ := rd_part hf 1 1 1 rfl rfl rfl cz33 rdT33
 obtain ⟨x2, h2⟩ := rd_part hf 2 2 1 rfl rfl rfl cz34 rdT34
 obtain ⟨x3, h3⟩ := rd_part hf 3 3 1 rfl rfl rfl cz34 rdT34
 rw [cz36] at hl
 rcases cs with _ | ⟨c0, _ | ⟨c1, _ | ⟨c2, _ | ⟨c3, _ | ⟨cn, cs⟩⟩⟩⟩⟩
 ·simp at hl
 ·simp at hl
 ·simp at hl
 ·simp at hl
 ·replace h0 : [c0] = [vU64 x0] := h0
  simp only [List.cons.injEq, and_true] at h0
  obtain rfl := h0
  replace h1 : [c1] = [vU32 x1] := h1
  simp only [List.cons.injEq, and_true] at h1
  obtain rfl := h1
  replace h2 : [c2] = [vU16 x2] := h2
  simp only [List.cons.injEq, and_true] at h2
  obtain rfl := h2
  replace h3 : [c3] = [vU16 x3] := h3
  simp only [List.cons.injEq, and_true] at h3
  obtain rfl := h3
  exact ⟨⟨x0, x1, x2, x3⟩, rfl⟩
 ·simp at hl
theorem rdT87 : Rd Try.prog PackedS 87 := by
 intro H enc W sp hd fuel cs y h
 obtain ⟨hl, hf⟩ := rd_parts Try.underlying87 h
 obtain ⟨x0, h0⟩ := rd_part hf 0 0 1 rfl rfl rfl cz27 rdT27
 obtain ⟨x1, h1⟩ := rd_part hf 1 1 1 rfl rfl rfl cz33 rdT33
 obtain ⟨x2, h2⟩ := rd_part hf 2 2 1 rfl rfl rfl cz34 rdT34
 obtain ⟨x3, h3⟩ := rd_part hf 3 3 1 rfl rfl rfl cz34 rdT34
 rw [cz87] at hl
 rcases cs with _ | ⟨c0, _ | ⟨c1, _ | ⟨c2, _ | ⟨c3, _ | ⟨cn, cs⟩⟩⟩⟩⟩
 ·simp at hl
 ·simp at hl
 ·simp at hl
 ·simp at hl
 ·replace h0 : [c0] = [vU64 x0] := h0
  simp only [List.cons.injEq, and_true] at h0
  obtain rfl := h0
  replace h1 : [c1] = [vU32 x1] := h1
  simp only [List.cons.injEq, and_true] at h1
  obtain rfl := h1
  replace h2 : [c2] = [vU16 x2] := h2
  simp only [List.cons.injEq, and_true] at h2
  obtain rfl := h2
  replace h3 : [c3] = [vU16 x3] := h3
  simp only [List.cons.injEq, and_true] at h3
  obtain rfl := h3
  exact ⟨⟨x0, x1, x2, x3⟩, rfl⟩
 ·simp at hl
theorem rdT97 : Rd Try.prog dumbwaiterlaw10_SpotS 97 := by
 intro H enc W sp hd fuel cs y h
 obtain ⟨hl, hf⟩ := rd_parts Try.underlying97 h
 obtain ⟨x0, h0⟩ := rd_part hf 0 0 1 rfl rfl rfl cz3 rdT3
 obtain ⟨x1, h1⟩ := rd_part hf 1 1 4 rfl rfl rfl cz36 rdT36
 obtain ⟨x2, h2⟩ := rd_part hf 2 5 4 rfl rfl rfl cz87 rdT87
 rw [cz97] at hl
 rcases cs with _ | ⟨c0, _ | ⟨c1, _ | ⟨c2, _ | ⟨c3, _ | ⟨c4, _ | ⟨c5, _ | ⟨c6, _ | ⟨c7, _ | ⟨c8, _ | ⟨cn, cs⟩⟩⟩⟩⟩⟩⟩⟩⟩⟩
 ·simp at hl
 ·simp at hl
 ·simp at hl
 ·simp at hl
 ·simp at hl
 ·simp at hl
 ·simp at hl
 ·simp at hl
 ·simp at hl
 ·replace h0 : [c0] = [vI x0] := h0
  simp only [List.cons.injEq, and_true] at h0
  obtain rfl := h0
  replace h1 : [c1, c2, c3, c4] = [vU64 x1.Addr, vU32 x1.Len, vU16 x1.Flags, vU16 x1.Next] := h1
  simp only [List.cons.injEq, and_true] at h1
  obtain ⟨rfl, rfl, rfl, rfl⟩ := h1
  replace h2 : [c5, c6, c7, c8] = [vU64 x2.Addr, vU32 x2.Len, vU16 x2.ID, vU16 x2.Flags] := h2
  simp only [List.cons.injEq, and_true] at h2
  obtain ⟨rfl, rfl, rfl, rfl⟩ := h2
  exact ⟨⟨x0, x1, x2⟩, rfl⟩
 ·simp at hl
theorem rdT62 : Rd Try.prog (Shape.slice dumbwaiterlaw10_SpotS) 62 := rd_slice Try.underlying62 (by kernel_rfl) rdT97
theorem rdT60 : Rd Try.prog PosS 60 := by
 intro H enc W sp hd fuel cs y h
 obtain ⟨hl, hf⟩ := rd_parts Try.underlying60 h
 obtain ⟨x0, h0⟩ := rd_part hf 0 0 1 rfl rfl rfl cz3 rdT3
 obtain ⟨x1, h1⟩ := rd_part hf 1 1 1 rfl rfl rfl cz4 rdT4
 rw [cz60] at hl
 rcases cs with _ | ⟨c0, _ | ⟨c1, _ | ⟨cn, cs⟩⟩⟩
 ·simp at hl
 ·simp at hl
 ·replace h0 : [c0] = [vI x0] := h0
  simp only [List.cons.injEq, and_true] at h0
  obtain rfl := h0
  replace h1 : [c1] = [vB x1] := h1
  simp only [List.cons.injEq, and_true] at h1
  obtain rfl := h1
  exact ⟨⟨x0, x1⟩, rfl⟩
 ·simp at hl
theorem rdT5 : Rd Try.prog u8S 5 := rd_u8 Try.underlying5
theorem rdT39 : Rd Try.prog (Shape.slice u8S) 39 := rd_slice Try.underlying39 (by kernel_rfl) rdT5
end Go.Proofs.Ytlofegfaphijpaa
