/- The law FrameApart in plain words: it answers true. No condition. -/
import Derived.Test.YtgpggnhifkkfbaaPuFrame
namespace Go.Proofs.Ytgpggnhifkkfbaa
theorem check_two (f : Frame) : frame_Check f = some (if okF f then 0 else 2) := by
  by_cases h : okF f
  · rw [if_pos h, check_ok h]
  · rw [if_neg h, check_bad h]
theorem bytes_two (f : Frame) : frame_Bytes f = some (if okF f then (bytesF f, 0) else ([], 2)) := by
  by_cases h : okF f
  · rw [if_pos h, bytes_ok h]
  · rw [if_neg h, bytes_bad h]
theorem hdr_beq (a b : Hdr) : (bytesH a == bytesH b) = (a == b) := by
  rw [Bool.eq_iff_iff]; simp only [beq_iff_eq]; exact ⟨bytesH_inj, fun h => by rw [h]⟩
theorem t_law23zFrameApart (f g : Frame) (hp2 ip3 : Hdr) : law23zFrameApart f g hp2 ip3 = some true := by
  unfold law23zFrameApart
  rw [oS lives23, notT, notF, chkT]
  by_cases h1 : len f.Data > 3000
  · rw [bP h1]
  rw [bN h1]
  by_cases h2 : len g.Data > 3000
  · rw [bP h2]
  rw [bN h2]
  simp only [len] at h1 h2
  rw [oS (bytes_two f), oS (bytes_two g), oS (hdr_eq hp2), oS (hdr_eq ip3), hdr_beq, cnE rfl]
  have hall : frame_All f.Dst = some (f.Dst == A6.mk 255 255 255 255 255 255) := rfl
  have hgrp : f.Dst = A6.mk 255 255 255 255 255 255 → frame_Group f.Dst = some true := fun h => by rw [h]; decide
  rw [oS hall]
  have hc : ∀ f, frame_Check f = some (if okF f then 0 else 2) := check_two
  have rest : (br ((if okF f then (bytesF f, (0 : Int)) else ([], 2)).2 != 0)
      (ob (frame_Check f) fun check1 => chk ((if okF f then (bytesF f, (0 : Int)) else ([], 2)).2 == check1) <| ob (frame_Check g) fun check2 => chk ((if okF g then (bytesF g, (0 : Int)) else ([], 2)).2 == check2) <| some true)
      (br ((if okF g then (bytesF g, (0 : Int)) else ([], 2)).2 != 0)
        (ob (frame_Check f) fun check3 => chk ((if okF f then (bytesF f, (0 : Int)) else ([], 2)).2 == check3) <| ob (frame_Check g) fun check4 => chk ((if okF g then (bytesF g, (0 : Int)) else ([], 2)).2 == check4) <| some true)
        (ob (frame_Same f g) fun same1 =>
          chk (((if okF f then (bytesF f, (0 : Int)) else ([], 2)).1 == (if okF g then (bytesF g, (0 : Int)) else ([], 2)).1) == same1) <|
          chk (decide (0 ≤ (0 : Int) ∧ (0 : Int) ≤ (6 : Int) ∧ (6 : Int) ≤ len (if okF f then (bytesF f, (0 : Int)) else ([], 2)).1)) <|
          chk ((sub (if okF f then (bytesF f, (0 : Int)) else ([], 2)).1 (0 : Int) (6 : Int)) == [f.Dst.a0, f.Dst.a1, f.Dst.a2, f.Dst.a3, f.Dst.a4, f.Dst.a5]) <|
          chk (decide (0 ≤ (6 : Int) ∧ (6 : Int) ≤ (12 : Int) ∧ (12 : Int) ≤ len (if okF f then (bytesF f, (0 : Int)) else ([], 2)).1)) <|
          chk ((sub (if okF f then (bytesF f, (0 : Int)) else ([], 2)).1 (6 : Int) (12 : Int)) == [f.Src.a0, f.Src.a1, f.Src.a2, f.Src.a3, f.Src.a4, f.Src.a5]) <|
          some true))) = some true := by
    rw [oS (hc f), oS (hc g), oS (same_eq f g (by omega))]
    by_cases hf : okF f <;> by_cases hg : okF g <;> simp only [hf, hg, if_true, if_false]
    · rw [nE rfl, nE rfl, bytesF_beq hf hg, cE rfl]
      have hl := bytesF_len f
      rw [cP (by simp only [len]; omega), cE (by rfl), cP (by simp only [len]; omega), cE (by rfl)]
    · rw [nE rfl, nF (by decide)]; rfl
    · rw [nF (by decide)]; rfl
    · rw [nF (by decide)]; rfl
  by_cases ha : f.Dst = A6.mk 255 255 255 255 255 255
  · rw [bE ha, oS (hgrp ha), notT, notF, chkT]; exact rest
  · rw [bF ha]; exact rest
end Go.Proofs.Ytgpggnhifkkfbaa
