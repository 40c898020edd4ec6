/- The law LayoutCalls in plain words. No condition. -/
import Derived.Test.YtbeendakebamhaaPuLayout3
namespace Go.Proofs.Ytbeendakebamhaa
theorem lives04 : law04zlives = some true := by kernel_rfl
theorem t_law04zLayoutCalls (r : Rings) (what i : Int) (p : Bool) (n : Int) (base a m : UInt64) (l : List Region) : law04zLayoutCalls r what i p n base a m l = some true := by
  unfold law04zLayoutCalls
  have hn : (!true) = false := rfl
  rw [oS lives04, cNT hn]
  obtain ⟨q, hq, hq2⟩ := lightR l 2000000
  rw [oS hq]
  cases q with
  | false => rfl
  | true =>
    have h40 := hq2 rfl
    have kr : kit_Regions l = some l := by unfold kit_Regions; rw [cFits (by simp; omega)]
    rw [bFl hn, oS (parts_eq r), oS (rparts_eq r), cnE rfl, cnE rfl, cnE rfl, oS (check_eq r), oS (rcheck_eq r), cnE rfl, oS (over_ok r a m), oS (rover_ok r a m), cnE rfl, oS (where_eq r what i), oS (rwhere_eq r what i), oS (place_eq p n base), oS (rplace_eq p n base), cnE rfl, cnE rfl, cnE rfl, cnE rfl, cnE rfl, cnE rfl, oS kr]
    by_cases hg : goodM l
    · have ok := zer_ok hg
      rw [oS (new_ok hg)]
      dsimp only
      rw [onS, oS (rnew_ok hg)]
      dsimp only
      rw [onS, cE rfl, oS (fits_eq ⟨l, zer l⟩ ok r), oS (rfits_eq ⟨l, zer l⟩ ok r), cE rfl]
    · rw [oS (new_bad hg)]
      dsimp only
      rw [onN, oS (rnew_bad hg)]
      dsimp only
      rw [onN, cE rfl, oS (show layout_Fitsn0 r = some 1 from rfl), oS (show ref_Fits04n0 r = some 1 from rfl), cE rfl]
end Go.Proofs.Ytbeendakebamhaa
