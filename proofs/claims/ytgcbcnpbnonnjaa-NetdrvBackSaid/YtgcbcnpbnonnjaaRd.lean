/- How the arguments of the laws read as data. No statement of the seat is proved here; no condition. -/
import Derived.Test.YtgcbcnpbnonnjaaWrap
import Derived.Test.YtgcbcnpbnonnjaaFc
namespace Go.Proofs.Ytgcbcnpbnonnjaa

theorem cz5 : Try.prog.cellsOf 5 = 1 := by kernel_rfl
theorem cz33 : Try.prog.cellsOf 33 = 6 := by kernel_rfl
theorem cz3 : Try.prog.cellsOf 3 = 1 := by kernel_rfl
theorem cz34 : Try.prog.cellsOf 34 = 1 := by kernel_rfl
theorem cz35 : Try.prog.cellsOf 35 = 1 := by kernel_rfl
theorem cz37 : Try.prog.cellsOf 37 = 15 := by kernel_rfl
theorem rdT22 : Rd Try.prog u64S 22 := rd_u64 Try.underlying22
theorem rdT3 : Rd Try.prog iS 3 := rd_i Try.underlying3
theorem rdT23 : Rd Try.prog (Shape.slice iS) 23 := rd_slice Try.underlying23 (by kernel_rfl) rdT3
theorem rdT5 : Rd Try.prog u8S 5 := rd_u8 Try.underlying5
theorem rdT33 : Rd Try.prog a6UInt8S 33 := by
 intro H enc W sp hd fuel cs y h
 obtain ⟨hl, hf⟩ := rd_elems Try.underlying33 h
 obtain ⟨x0, h0⟩ := rd_elem hf 0 1 (by decide) cz5 rdT5
 obtain ⟨x1, h1⟩ := rd_elem hf 1 1 (by decide) cz5 rdT5
 obtain ⟨x2, h2⟩ := rd_elem hf 2 1 (by decide) cz5 rdT5
 obtain ⟨x3, h3⟩ := rd_elem hf 3 1 (by decide) cz5 rdT5
 obtain ⟨x4, h4⟩ := rd_elem hf 4 1 (by decide) cz5 rdT5
 obtain ⟨x5, h5⟩ := rd_elem hf 5 1 (by decide) cz5 rdT5
 rw [cz33] at hl
 rcases cs with _ | ⟨c0, _ | ⟨c1, _ | ⟨c2, _ | ⟨c3, _ | ⟨c4, _ | ⟨c5, _ | ⟨cn, cs⟩⟩⟩⟩⟩⟩⟩
 ·simp at hl
 ·simp at hl
 ·simp at hl
 ·simp at hl
 ·simp at hl
 ·simp at hl
 ·replace h0 : [c0] = [vU8 x0] := h0
  simp only [List.cons.injEq, and_true] at h0
  obtain rfl := h0
  replace h1 : [c1] = [vU8 x1] := h1
  simp only [List.cons.injEq, and_true] at h1
  obtain rfl := h1
  replace h2 : [c2] = [vU8 x2] := h2
  simp only [List.cons.injEq, and_true] at h2
  obtain rfl := h2
  replace h3 : [c3] = [vU8 x3] := h3
  simp only [List.cons.injEq, and_true] at h3
  obtain rfl := h3
  replace h4 : [c4] = [vU8 x4] := h4
  simp only [List.cons.injEq, and_true] at h4
  obtain rfl := h4
  replace h5 : [c5] = [vU8 x5] := h5
  simp only [List.cons.injEq, and_true] at h5
  obtain rfl := h5
  exact ⟨⟨x0, x1, x2, x3, x4, x5⟩, rfl⟩
 ·simp at hl
theorem rdT34 : Rd Try.prog u16S 34 := rd_u16 Try.underlying34
theorem rdT35 : Rd Try.prog (Shape.slice u8S) 35 := rd_slice Try.underlying35 (by kernel_rfl) rdT5
theorem rdT37 : Rd Try.prog QD 37 := by
 intro H enc W sp hd fuel cs y h
 obtain ⟨hl, hf⟩ := rd_parts Try.underlying37 h
 obtain ⟨x0, h0⟩ := rd_part hf 0 0 6 rfl rfl rfl cz33 rdT33
 obtain ⟨x1, h1⟩ := rd_part hf 1 6 6 rfl rfl rfl cz33 rdT33
 obtain ⟨x2, h2⟩ := rd_part hf 2 12 1 rfl rfl rfl cz3 rdT3
 obtain ⟨x3, h3⟩ := rd_part hf 3 13 1 rfl rfl rfl cz34 rdT34
 obtain ⟨x4, h4⟩ := rd_part hf 4 14 1 rfl rfl rfl cz35 rdT35
 rw [cz37] at hl
 rcases cs with _ | ⟨c0, _ | ⟨c1, _ | ⟨c2, _ | ⟨c3, _ | ⟨c4, _ | ⟨c5, _ | ⟨c6, _ | ⟨c7, _ | ⟨c8, _ | ⟨c9, _ | ⟨c10, _ | ⟨c11, _ | ⟨c12, _ | ⟨c13, _ | ⟨c14, _ | ⟨cn, cs⟩⟩⟩⟩⟩⟩⟩⟩⟩⟩⟩⟩⟩⟩⟩⟩
 ·simp at hl
 ·simp at hl
 ·simp at hl
 ·simp at hl
 ·simp at hl
 ·simp at hl
 ·simp at hl
 ·simp at hl
 ·simp at hl
 ·simp at hl
 ·simp at hl
 ·simp at hl
 ·simp at hl
 ·simp at hl
 ·simp at hl
 ·replace h0 : [c0, c1, c2, c3, c4, c5] = [vU8 x0.a0, vU8 x0.a1, vU8 x0.a2, vU8 x0.a3, vU8 x0.a4, vU8 x0.a5] := h0
  simp only [List.cons.injEq, and_true] at h0
  obtain ⟨rfl, rfl, rfl, rfl, rfl, rfl⟩ := h0
  replace h1 : [c6, c7, c8, c9, c10, c11] = [vU8 x1.a0, vU8 x1.a1, vU8 x1.a2, vU8 x1.a3, vU8 x1.a4, vU8 x1.a5] := h1
  simp only [List.cons.injEq, and_true] at h1
  obtain ⟨rfl, rfl, rfl, rfl, rfl, rfl⟩ := h1
  replace h2 : [c12] = [vI x2] := h2
  simp only [List.cons.injEq, and_true] at h2
  obtain rfl := h2
  replace h3 : [c13] = [vU16 x3] := h3
  simp only [List.cons.injEq, and_true] at h3
  obtain rfl := h3
  obtain ⟨v4, h4, hs4⟩ := h4
  replace h4 : [c14] = [v4] := h4
  obtain rfl := (List.cons.inj h4).1
  exact ⟨⟨x0, x1, x2, x3, x4⟩, c14, rfl, hs4⟩
 ·simp at hl
theorem rdT58 : Rd Try.prog (Shape.slice QD) 58 := rd_slice Try.underlying58 (by kernel_rfl) rdT37
end Go.Proofs.Ytgcbcnpbnonnjaa
