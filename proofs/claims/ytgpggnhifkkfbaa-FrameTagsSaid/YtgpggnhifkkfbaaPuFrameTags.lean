/- The law FrameTags in plain words: it answers true. No condition. -/
import Derived.Test.YtgpggnhifkkfbaaPuFrame
namespace Go.Proofs.Ytgpggnhifkkfbaa
theorem t_law23zFrameTags (f : Frame) (np1 : Int) : law23zFrameTags f np1 = some true := by
  obtain ⟨D, S, v, t, da⟩ := f
  unfold law23zFrameTags
  dsimp only
  rw [oS lives23, notT, notF, chkT]
  by_cases h1 : len da > 3000
  · rw [bP h1]
  rw [bN h1]
  simp only [len] at h1
  obtain ⟨n, hn, hn'⟩ := pick_eq np1 4096 (by omega) (by omega)
  by_cases hk : okF (Frame.mk D S (-1) t da)
  · have hk2 : okF (Frame.mk D S (n : Int) t da) := ⟨by simp only; omega, by simp only; omega, hk.2.2.1, hk.2.2.2⟩
    obtain ⟨_, _, ht, hd⟩ := hk
    simp only at ht hd
    have hk : okF (Frame.mk D S (-1) t da) := ⟨by simp only; omega, by simp only; omega, ht, hd⟩
    rw [oS (bytes_ok hk), oS hn, oS (bytes_ok hk2), nE rfl, cnE rfl]
    have e1 : bytesF (Frame.mk D S (-1) t da) = l6 D ++ l6 S ++ ([hi8 t, t.toUInt8] ++ da) := by
      simp only [bytesF, tagB_neg (show ¬ (0 : Int) ≤ -1 by decide), l6]; simp
    have e2 : bytesF (Frame.mk D S (n : Int) t da) = l6 D ++ l6 S ++ ([129, 0, u8 (shri (n : Int) (8 : UInt64).toNat), u8 (n : Int)] ++ ([hi8 t, t.toUInt8] ++ da)) := by
      simp only [bytesF, tagB_pos (show (0 : Int) ≤ (n : Int) by omega), l6]; simp
    have hr1 := read_back hk; have hr2 := read_back hk2
    rw [e1] at hr1; rw [e2] at hr2
    rw [e1, e2]
    generalize hx : [hi8 t, t.toUInt8] ++ da = x at *
    have hxl : x.length ≤ 2000 := by rw [← hx]; simp; omega
    have hl1 : (l6 D ++ l6 S ++ x).length = 12 + x.length := by simp [l6]; omega
    have hl2 : (l6 D ++ l6 S ++ ([129, 0, u8 (shri (n : Int) (8 : UInt64).toNat), u8 (n : Int)] ++ x)).length = 16 + x.length := by simp [l6]; omega
    rw [cnE (by simp only [len, hl1, hl2]; rw [wi_in (by omega) (by omega)]; omega), cP (by simp only [len, hl2]; omega), cP (by simp only [len, hl1]; omega), cnE (by rfl), cP (by simp only [len, hl2]; omega), cP (by simp only [len, hl1]; omega), cnE (by rw [sub_from, sub_from]; rfl)]
    rw [oS (show ix (l6 D ++ l6 S ++ ([129, 0, u8 (shri (n : Int) (8 : UInt64).toNat), u8 (n : Int)] ++ x)) (12 : Int) = some 129 from rfl), cnE rfl, oS (show ix (l6 D ++ l6 S ++ ([129, 0, u8 (shri (n : Int) (8 : UInt64).toNat), u8 (n : Int)] ++ x)) (13 : Int) = some 0 from rfl), cnE rfl,
      oS (show ix (l6 D ++ l6 S ++ ([129, 0, u8 (shri (n : Int) (8 : UInt64).toNat), u8 (n : Int)] ++ x)) (14 : Int) = some (u8 (shri (n : Int) (8 : UInt64).toNat)) from rfl), oS (show ix (l6 D ++ l6 S ++ ([129, 0, u8 (shri (n : Int) (8 : UInt64).toNat), u8 (n : Int)] ++ x)) (15 : Int) = some (u8 (n : Int)) from rfl)]
    have hv := vlan_u8 (v := (n : Int)) (by omega) (by omega)
    simp only [i16, w16_nat] at hv
    rw [cnE (by simp only [i8, wi_eq]; omega)]
    rw [oS hr1, oS hr2, cE rfl, cE rfl, oS (same_eq _ _ (by simp only; omega)), cT (beqI _), oS (same_eq _ _ (by simp only; omega)), cT (beqI _), oS (same_eq _ _ (by simp only; omega))]
    have hne : ((Frame.mk D S (-1) t da : Frame) == Frame.mk D S (n : Int) t da) = false := by
      rw [beq_eq_false_iff_ne]; intro q; simp only [Frame.mk.injEq] at q; omega
    rw [cNT hne]
  · have hk2 : ¬ okF (Frame.mk D S (n : Int) t da) := fun h => hk ⟨by simp only; omega, by simp only; omega, h.2.2.1, h.2.2.2⟩
    rw [oS (bytes_bad hk), oS hn, oS (bytes_bad hk2), nF (by decide), cE rfl, cE rfl]
end Go.Proofs.Ytgpggnhifkkfbaa
