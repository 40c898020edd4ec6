/- The law FrameBack in plain words: it answers true. No condition. -/
import Derived.Test.YtgpggnhifkkfbaaPuFrame
namespace Go.Proofs.Ytgpggnhifkkfbaa
theorem backJ2 (f : Frame) (h : okF f) (n : Int) (hn : n = len (bytesF f)) : law23zFrameBackJ2 f.Dst f.Src f.Vlan f.Type_ f.Data (bytesF f, 0) (f, 0) n = some true := by
  have hd := h.2.2.2
  have hl := bytesF_len f
  have ht : (tagB f.Vlan).length ≤ 4 := by unfold tagB; split <;> simp
  unfold law23zFrameBackJ2
  rw [cnE rfl, oS (same_eq _ _ (by simp only; omega)), beqI, notT, notF, chkT, hn, cnE rfl, oS (own_eq _ (by simp only; omega)), cFits (by simp only [List.length_singleton]; omega)]
  have hr := read_bytes h [7] (by simp; omega)
  rw [oS hr]
  by_cases hk : okF (Frame.mk f.Dst f.Src f.Vlan f.Type_ (f.Data ++ [7]))
  · rw [finF_ok hk, bF (show (0 : Int) ≠ 4 by decide), cE rfl, oS (same_eq _ _ (by simp only; omega))]
    have hne : ((Frame.mk f.Dst f.Src f.Vlan f.Type_ f.Data : Frame) == Frame.mk f.Dst f.Src f.Vlan f.Type_ (f.Data ++ [7])) = false := by
      rw [beq_eq_false_iff_ne]; intro q; simp only [Frame.mk.injEq] at q
      have := congrArg List.length q.2.2.2.2; simp at this
    rw [cNT hne]
  · rw [finF_bad hk, bE rfl, bE]
    obtain ⟨h1, h2, h3, h4⟩ := h
    have : ¬ (f.Data ++ [7]).length ≤ 1500 := fun q => hk ⟨h1, h2, h3, q⟩
    simp only [List.length_append, List.length_singleton] at this
    simp only [len]; omega
theorem backJ1 (f : Frame) (hf : f.Data.length ≤ 3000) (h : Hdr) (D S : A6 UInt8) (v : Int) (t : UInt16) (da : List UInt8) : law23zFrameBackJ1 f.Dst f.Src f.Vlan f.Type_ f.Data h D S v t da = some true := by
  unfold law23zFrameBackJ1
  rw [oS (hdr_eq h), oS (readHdr_eq h), cnE rfl, cnE rfl, oS (hdr_eq h), cnE (show len (bytesH h) = 12 from rfl)]
  by_cases hk : okF f
  · have hd := hk.2.2.2
    rw [oS (bytes_ok (f := Frame.mk f.Dst f.Src f.Vlan f.Type_ f.Data) hk), nE rfl, oS (read_back (f := Frame.mk f.Dst f.Src f.Vlan f.Type_ f.Data) hk)]
    have hl := bytesF_len f
    by_cases hv : f.Vlan ≥ 0
    · rw [bP hv]
      refine backJ2 f hk _ ?_
      rw [tagB_pos hv] at hl
      simp only [List.length_cons, List.length_nil] at hl
      simp only [len, wi_eq]; omega
    · rw [bN hv]
      refine backJ2 f hk _ ?_
      rw [tagB_neg hv] at hl
      simp only [List.length_nil] at hl
      simp only [len]; rw [wi_in (by omega) (by omega)]; omega
  · rw [oS (bytes_bad (f := Frame.mk f.Dst f.Src f.Vlan f.Type_ f.Data) hk), nF (by decide), oS (check_bad (f := Frame.mk f.Dst f.Src f.Vlan f.Type_ f.Data) hk), cE rfl, cE (show len ([] : List UInt8) = 0 from rfl)]
theorem t_law23zFrameBack (f : Frame) (hp1 : Hdr) (b : List UInt8) : law23zFrameBack f hp1 b = some true := by
  unfold law23zFrameBack
  rw [oS lives23, notT, notF, chkT]
  by_cases h1 : len f.Data > 3000
  · rw [bP h1]
  rw [bN h1]
  by_cases h2 : len b > 3000
  · rw [bP h2]
  rw [bN h2]
  simp only [len] at h1 h2
  rw [oS (own_eq b (by omega))]
  have hr : ∃ r, frame_Read b = some r := by
    by_cases hl : b.length < 14
    · exact ⟨_, read_short hl⟩
    · obtain ⟨d0, d1, d2, d3, d4, d5, s0, s1, s2, s3, s4, s5, x, y, r, rfl⟩ := list14 (b := b) (by omega)
      simp only [List.length_cons] at h2
      exact ⟨_, read_eq _ _ _ _ _ _ _ _ _ _ _ _ _ _ _ (by omega)⟩
  obtain ⟨⟨g, e⟩, hr⟩ := hr
  rw [oS hr]
  by_cases he : e = 0
  · subst he
    obtain ⟨hk, hb⟩ := back_bytes (by omega) hr
    rw [bE rfl, oS (bytes_ok hk), cnE rfl, cnE hb]
    exact backJ1 f (by omega) _ _ _ _ _ _
  · rw [bF he]
    exact backJ1 f (by omega) _ _ _ _ _ _
end Go.Proofs.Ytgpggnhifkkfbaa
