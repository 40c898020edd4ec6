/- The law SegCalls in plain words. No condition. -/
import Derived.Test.YtkdekmjcfoahjaaPuSegMore
namespace Go.Proofs.Ytkdekmjcfoahjaa
theorem lives05 : law05zlives = some true := by kernel_rfl
theorem lightRL (l : List Region) (k : UInt64) (hl : l.length ≤ 40) : ∀ (nf i : Nat) (s : UInt64), i ≤ l.length → l.length - i < nf → ∃ b, kit_LightRegionsL1 l k nf s (i : Int) = some b
  | 0, i, s, _, h => by omega
  | nf + 1, i, s, hi, hn => by
    unfold kit_LightRegionsL1 kit_LightRegionsL1B
    by_cases h : i < l.length
    · rw [bP (by simp only [len]; omega), oS (ix_nat (getq h)), wi_succ (by omega)]
      exact lightRL l k hl nf (i + 1) _ (by omega) (by omega)
    · rw [bN (by simp only [len]; omega)]; exact ⟨_, rfl⟩
/-- few regions or not: the answer is one, and if it is yes, they are few -/
theorem lightR (l : List Region) (k : UInt64) : ∃ b, kit_LightRegions l k = some b ∧ (b = true → l.length ≤ 40) := by
  unfold kit_LightRegions
  by_cases h : l.length > 40
  · rw [bP (by simp only [len]; omega)]; exact ⟨false, rfl, fun q => by cases q⟩
  · rw [bN (by simp only [len]; omega)]
    obtain ⟨b, hb⟩ := lightRL l k (by omega) fuel 0 0 (by omega) (by unfold fuel; omega)
    exact ⟨b, hb, fun _ => by omega⟩
theorem scat_ok (l : List Region) : ∀ (ss : List Seg) (b : List (List UInt8)) (xs : List UInt8), memOk l b → memOk l (scatS l b ss xs)
  | [], b, xs, h => h
  | s :: r, b, xs, h => by unfold scatS; exact scat_ok l r _ _ (wrR_ok h)
theorem t_law05zSegCalls (regions : List Region) (l o : List Seg) (b : List UInt8) (f n : UInt64) (w : Bool) : law05zSegCalls regions l o b f n w = some true := by
  unfold law05zSegCalls
  rw [oS lives05, cNT (show (!true) = false from rfl)]
  obtain ⟨q, hq, hq2⟩ := lightR regions 20000
  rw [oS hq]
  cases q with
  | false => rfl
  | true =>
    have h40 := hq2 rfl
    rw [bFl (show (!true) = false from rfl)]
    by_cases h1 : len l > 100
    · rw [bP h1]
    by_cases h2 : len o > 100
    · rw [bN h1, bP h2]
    by_cases h3 : len b > 20000
    · rw [bN h1, bN h2, bP h3]
    have e1 : l.length ≤ 100 := by simp only [len] at h1; omega
    have e3 : b.length ≤ 20000 := by simp only [len] at h3; omega
    have kr : kit_Regions regions = some regions := by unfold kit_Regions; rw [cFits (by simp; omega)]
    have ks : kit_Segs l = some l := by unfold kit_Segs; rw [cFits (by simp; omega)]
    have ko : kit_Own b = some b := by unfold kit_Own; rw [cFits (by simp; omega)]
    have hn : (!true) = false := rfl
    rw [bN h1, bN h2, bN h3, oS kr]
    have pl := part_len l w
    have cl := cut_len l f.toNat n.toNat
    by_cases hg : goodM regions
    · have ok := zer_ok hg
      have sg := scatter_eq ⟨regions, zer regions⟩ ok l b (by omega)
      have sr := rscatter_eq ⟨regions, zer regions⟩ ok l b (by omega)
      rw [oS (new_ok hg)]
      dsimp only
      rw [onS, oS (rnew_ok hg)]
      dsimp only
      rw [onS, cnE rfl, oS (segTotal l), oS (refTotal l), cnE rfl, cnE rfl, oS (segCheck l), oS (refCheck l), cnE rfl, oS (segIn_eq _ ok l), oS (refIn_eq _ ok l), cnE rfl, oS (segPart_eq l w), oS (rpart_eq l w), oS (ksame_eq _ _ (by omega)), beqI, cNT hn, oS (segCut_eq l f n), oS (rcut_eq l f n), oS (ksame_eq _ _ (by omega)), beqI, cNT hn, oS (same_eq _ _ (by omega)), oS (ksame_eq _ _ (by omega)), cnE rfl, nE rfl, oS ks, oS ko, oS sg, oS sr]
      dsimp only
      by_cases hi : inE regions l = 0
      · rw [if_pos hi]
        have ok2 := scat_ok regions (l.filter (fun s => s.Write == true)) _ b ok
        dsimp only
        rw [oS (gather_eq ⟨regions, _⟩ ok2 o), oS (rgather_eq ⟨regions, _⟩ ok2 o), cE rfl, cE rfl, cE rfl, cE rfl, oS (image_eq ⟨regions, _⟩ ok2), oS (rimage_eq ⟨regions, _⟩ ok2), cE rfl]
      · rw [if_neg hi]
        dsimp only
        rw [oS (gather_eq ⟨regions, zer regions⟩ ok o), oS (rgather_eq ⟨regions, zer regions⟩ ok o), cE rfl, cE rfl, cE rfl, cE rfl, oS (image_eq ⟨regions, zer regions⟩ ok), oS (rimage_eq ⟨regions, zer regions⟩ ok), cE rfl]
    · rw [oS (new_bad hg)]
      dsimp only
      rw [onN, oS (rnew_bad hg)]
      dsimp only
      rw [onN, cnE rfl, oS (segTotal l), oS (refTotal l), cnE rfl, cnE rfl, oS (segCheck l), oS (refCheck l), cnE rfl, oS (show seg_Inn0 l = some 1 from rfl), oS (show ref_In05n0 l = some 1 from rfl), cnE rfl, oS (segPart_eq l w), oS (rpart_eq l w), oS (ksame_eq _ _ (by omega)), beqI, cNT hn, oS (segCut_eq l f n), oS (rcut_eq l f n), oS (ksame_eq _ _ (by omega)), beqI, cNT hn, oS (same_eq _ _ (by omega)), oS (ksame_eq _ _ (by omega)), cnE rfl, nF (by decide)]
end Go.Proofs.Ytkdekmjcfoahjaa
