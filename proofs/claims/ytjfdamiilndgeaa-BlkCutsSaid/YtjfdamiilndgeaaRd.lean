/- How the arguments of the laws read as data. No statement of the seat is proved here; no condition. -/
import Derived.Test.YtjfdamiilndgeaaGe1
import Derived.Test.YtjfdamiilndgeaaFc
namespace Go.Proofs.Ytjfdamiilndgeaa

theorem cz29 : Try.prog.cellsOf 29 = 1 := by kernel_rfl
theorem cz30 : Try.prog.cellsOf 30 = 1 := by kernel_rfl
theorem cz26 : Try.prog.cellsOf 26 = 1 := by kernel_rfl
theorem cz3 : Try.prog.cellsOf 3 = 1 := by kernel_rfl
theorem cz32 : Try.prog.cellsOf 32 = 3 := by kernel_rfl
theorem cz33 : Try.prog.cellsOf 33 = 1 := by kernel_rfl
theorem cz35 : Try.prog.cellsOf 35 = 5 := by kernel_rfl
theorem rdT29 : Rd Try.prog u32S 29 := rd_u32 Try.underlying29
theorem rdT30 : Rd Try.prog u64S 30 := rd_u64 Try.underlying30
theorem rdT5 : Rd Try.prog u8S 5 := rd_u8 Try.underlying5
theorem rdT26 : Rd Try.prog (Shape.slice u8S) 26 := rd_slice Try.underlying26 (by kernel_rfl) rdT5
theorem rdT3 : Rd Try.prog iS 3 := rd_i Try.underlying3
theorem rdT32 : Rd Try.prog RangeS 32 := by
 intro H enc W sp hd fuel cs y h
 obtain ⟨hl, hf⟩ := rd_parts Try.underlying32 h
 obtain ⟨x0, h0⟩ := rd_part hf 0 0 1 rfl rfl rfl cz30 rdT30
 obtain ⟨x1, h1⟩ := rd_part hf 1 1 1 rfl rfl rfl cz29 rdT29
 obtain ⟨x2, h2⟩ := rd_part hf 2 2 1 rfl rfl rfl cz29 rdT29
 rw [cz32] at hl
 rcases cs with _ | ⟨c0, _ | ⟨c1, _ | ⟨c2, _ | ⟨cn, cs⟩⟩⟩⟩
 ·simp at hl
 ·simp at hl
 ·simp at hl
 ·replace h0 : [c0] = [vU64 x0] := h0
  simp only [List.cons.injEq, and_true] at h0
  obtain rfl := h0
  replace h1 : [c1] = [vU32 x1] := h1
  simp only [List.cons.injEq, and_true] at h1
  obtain rfl := h1
  replace h2 : [c2] = [vU32 x2] := h2
  simp only [List.cons.injEq, and_true] at h2
  obtain rfl := h2
  exact ⟨⟨x0, x1, x2⟩, rfl⟩
 ·simp at hl
theorem rdT33 : Rd Try.prog (Shape.slice RangeS) 33 := rd_slice Try.underlying33 (by kernel_rfl) rdT32
theorem rdT35 : Rd Try.prog ReqS 35 := by
 intro H enc W sp hd fuel cs y h
 obtain ⟨hl, hf⟩ := rd_parts Try.underlying35 h
 obtain ⟨x0, h0⟩ := rd_part hf 0 0 1 rfl rfl rfl cz29 rdT29
 obtain ⟨x1, h1⟩ := rd_part hf 1 1 1 rfl rfl rfl cz30 rdT30
 obtain ⟨x2, h2⟩ := rd_part hf 2 2 1 rfl rfl rfl cz26 rdT26
 obtain ⟨x3, h3⟩ := rd_part hf 3 3 1 rfl rfl rfl cz3 rdT3
 obtain ⟨x4, h4⟩ := rd_part hf 4 4 1 rfl rfl rfl cz33 rdT33
 rw [cz35] at hl
 rcases cs with _ | ⟨c0, _ | ⟨c1, _ | ⟨c2, _ | ⟨c3, _ | ⟨c4, _ | ⟨cn, cs⟩⟩⟩⟩⟩⟩
 ·simp at hl
 ·simp at hl
 ·simp at hl
 ·simp at hl
 ·simp at hl
 ·replace h0 : [c0] = [vU32 x0] := h0
  simp only [List.cons.injEq, and_true] at h0
  obtain rfl := h0
  replace h1 : [c1] = [vU64 x1] := h1
  simp only [List.cons.injEq, and_true] at h1
  obtain rfl := h1
  obtain ⟨v2, h2, hs2⟩ := h2
  replace h2 : [c2] = [v2] := h2
  obtain rfl := (List.cons.inj h2).1
  replace h3 : [c3] = [vI x3] := h3
  simp only [List.cons.injEq, and_true] at h3
  obtain rfl := h3
  obtain ⟨v4, h4, hs4⟩ := h4
  replace h4 : [c4] = [v4] := h4
  obtain rfl := (List.cons.inj h4).1
  exact ⟨⟨x0, x1, x2, x3, x4⟩, c2, c4, rfl, hs2, hs4⟩
 ·simp at hl
theorem rdT49 : Rd Try.prog (Shape.slice iS) 49 := rd_slice Try.underlying49 (by kernel_rfl) rdT3
end Go.Proofs.Ytjfdamiilndgeaa
