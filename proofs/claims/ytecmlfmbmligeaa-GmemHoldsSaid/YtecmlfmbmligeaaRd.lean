/- How the arguments of the laws read as data. No statement of the seat is proved here; no condition. -/
import Derived.Test.YtecmlfmbmligeaaWrap
import Derived.Test.YtecmlfmbmligeaaFc
namespace Go.Proofs.Ytecmlfmbmligeaa

theorem cz26 : Try.prog.cellsOf 26 = 1 := by kernel_rfl
theorem cz36 : Try.prog.cellsOf 36 = 2 := by kernel_rfl
theorem cz3 : Try.prog.cellsOf 3 = 1 := by kernel_rfl
theorem cz38 : Try.prog.cellsOf 38 = 1 := by kernel_rfl
theorem cz40 : Try.prog.cellsOf 40 = 5 := by kernel_rfl
theorem rdT26 : Rd Try.prog u64S 26 := rd_u64 Try.underlying26
theorem rdT36 : Rd Try.prog RegionS 36 := by
 intro H enc W sp hd fuel cs y h
 obtain ⟨hl, hf⟩ := rd_parts Try.underlying36 h
 obtain ⟨x0, h0⟩ := rd_part hf 0 0 1 rfl rfl rfl cz26 rdT26
 obtain ⟨x1, h1⟩ := rd_part hf 1 1 1 rfl rfl rfl cz26 rdT26
 rw [cz36] at hl
 rcases cs with _ | ⟨c0, _ | ⟨c1, _ | ⟨cn, cs⟩⟩⟩
 ·simp at hl
 ·simp at hl
 ·replace h0 : [c0] = [vU64 x0] := h0
  simp only [List.cons.injEq, and_true] at h0
  obtain rfl := h0
  replace h1 : [c1] = [vU64 x1] := h1
  simp only [List.cons.injEq, and_true] at h1
  obtain rfl := h1
  exact ⟨⟨x0, x1⟩, rfl⟩
 ·simp at hl
theorem rdT22 : Rd Try.prog (Shape.slice RegionS) 22 := rd_slice Try.underlying22 (by kernel_rfl) rdT36
theorem rdT3 : Rd Try.prog iS 3 := rd_i Try.underlying3
theorem rdT5 : Rd Try.prog u8S 5 := rd_u8 Try.underlying5
theorem rdT38 : Rd Try.prog (Shape.slice u8S) 38 := rd_slice Try.underlying38 (by kernel_rfl) rdT5
theorem rdT40 : Rd Try.prog dumbwaiterlaw02_ActS 40 := by
 intro H enc W sp hd fuel cs y h
 obtain ⟨hl, hf⟩ := rd_parts Try.underlying40 h
 obtain ⟨x0, h0⟩ := rd_part hf 0 0 1 rfl rfl rfl cz3 rdT3
 obtain ⟨x1, h1⟩ := rd_part hf 1 1 1 rfl rfl rfl cz26 rdT26
 obtain ⟨x2, h2⟩ := rd_part hf 2 2 1 rfl rfl rfl cz3 rdT3
 obtain ⟨x3, h3⟩ := rd_part hf 3 3 1 rfl rfl rfl cz26 rdT26
 obtain ⟨x4, h4⟩ := rd_part hf 4 4 1 rfl rfl rfl cz38 rdT38
 rw [cz40] at hl
 rcases cs with _ | ⟨c0, _ | ⟨c1, _ | ⟨c2, _ | ⟨c3, _ | ⟨c4, _ | ⟨cn, cs⟩⟩⟩⟩⟩⟩
 ·simp at hl
 ·simp at hl
 ·simp at hl
 ·simp at hl
 ·simp at hl
 ·replace h0 : [c0] = [vI x0] := h0
  simp only [List.cons.injEq, and_true] at h0
  obtain rfl := h0
  replace h1 : [c1] = [vU64 x1] := h1
  simp only [List.cons.injEq, and_true] at h1
  obtain rfl := h1
  replace h2 : [c2] = [vI x2] := h2
  simp only [List.cons.injEq, and_true] at h2
  obtain rfl := h2
  replace h3 : [c3] = [vU64 x3] := h3
  simp only [List.cons.injEq, and_true] at h3
  obtain rfl := h3
  obtain ⟨v4, h4, hs4⟩ := h4
  replace h4 : [c4] = [v4] := h4
  obtain rfl := (List.cons.inj h4).1
  exact ⟨⟨x0, x1, x2, x3, x4⟩, c4, rfl, hs4⟩
 ·simp at hl
theorem rdT23 : Rd Try.prog (Shape.slice dumbwaiterlaw02_ActS) 23 := rd_slice Try.underlying23 (by kernel_rfl) rdT40
end Go.Proofs.Ytecmlfmbmligeaa
