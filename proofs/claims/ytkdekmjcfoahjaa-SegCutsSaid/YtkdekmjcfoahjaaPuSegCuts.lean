/- The law SegCuts in plain words. No condition. -/
import Derived.Test.YtkdekmjcfoahjaaPuCut
namespace Go.Proofs.Ytkdekmjcfoahjaa
theorem lives05 : law05zlives = some true := by kernel_rfl
theorem tot_good {l : List Seg} (h : goodS l) : totS l = (UInt64.ofNat (rdS l), UInt64.ofNat (wrS l)) := by unfold totS; rw [if_pos h]
theorem tot_all {l : List Seg} (h : goodS l) : (totS l).1 + (totS l).2 = UInt64.ofNat (sumS l) := by rw [tot_good h, sum_rw, UInt64.ofNat_add]
theorem cutsJ (l : List Seg) (f n m : UInt64) (F N M : Nat) (h : goodS l) (hF : f % 8589934592 = UInt64.ofNat F) (hN : n % 8589934592 = UInt64.ofNat N) (hM : m % 8589934592 = UInt64.ofNat M) (bF : F < 8589934592) (bN' : N < 8589934592) (bM : M < 8589934592) :
    law05zSegCutsJ1 l f n m (totS l) (takeS N (dropS F l)) (totS (takeS N (dropS F l))) (UInt64.ofNat (min N (sumS l - F))) = some true := by
  have hs := h.2.2
  have hp := okS_pos h.2.1
  have gd := good_drop F h
  have gt := good_take F h
  have gc := good_take N gd
  have hl := h.1
  unfold law05zSegCutsJ1
  rw [hF, hN, hM, tot_all h, tot_all gc]
  have c2 : seg_Cut l (0 : UInt64) (UInt64.ofNat F) = some (takeS F l) := by
    have := cut_eq (a := 0) (n := F) h (by omega) (by omega)
    rw [drop0] at this; exact this
  have c3 : seg_Cut l (UInt64.ofNat F) (UInt64.ofNat (sumS l)) = some (dropS F l) := by
    rw [cut_eq h (by omega) (by omega), take_all _ _ (okS_pos gd.2.1) (by rw [sum_drop]; omega)]
  have c6 : seg_Cut l (0 : UInt64) (UInt64.ofNat (sumS l)) = some l := by
    have := cut_eq (a := 0) (n := sumS l) h (by omega) (by omega)
    rw [drop0, take_all _ _ hp (Nat.le_refl _)] at this; exact this
  have c4 : seg_Cut (takeS N (dropS F l)) (UInt64.ofNat M) (UInt64.ofNat N) = some (takeS (N - M) (dropS (F + M) l)) := by
    rw [cut_eq gc (by omega) (by omega), drop_take _ _ _ (okS_pos gd.2.1), drop_drop _ _ _ hp, take_take, Nat.min_eq_right (by omega)]
  have c5 : seg_Cut l (UInt64.ofNat F + UInt64.ofNat M) (UInt64.ofNat N - minu64 (UInt64.ofNat M) (UInt64.ofNat N)) = some (takeS (N - M) (dropS (F + M) l)) := by
    rw [minu_nat (by omega) (by omega), sub_ofNat (by omega) (by omega), ← UInt64.ofNat_add, cut_eq h (by omega) (by omega), show N - min M N = N - M by omega]
  have l1 := len_take (N - M) (dropS (F + M) l)
  have l2 := len_drop (F + M) l
  have pb := part_both h.2.1
  have pl : (l.filter (fun s => s.Write == false)).length ≤ l.length := List.length_filter_le _ _
  have pl2 : (l.filter (fun s => s.Write == true)).length ≤ l.length := List.length_filter_le _ _
  rw [oS c2, oS c3, oS (segTotal _), oS (segTotal _), cnE (by rw [sum_take, sum_drop]), cnE, cnE, oS (segCheck _), cnE (errS_good gc), oS c4, oS c5, oS (same_refl _ (by omega)), cNT (show (!true) = false from rfl)]
  · rw [oS (part_eq h false), cFits (by rw [List.length_nil]; omega), oS (part_eq h true), cFits (by omega), pb, oS (same_refl _ (by omega)), cT rfl, oS c6, oS (same_refl _ (by omega)), cT rfl]
  · have e := rds_parts F l
    rw [tot_good gt, tot_good gd, tot_good h]
    show UInt64.ofNat _ + UInt64.ofNat _ = UInt64.ofNat _
    rw [← UInt64.ofNat_add, e]
  · have e1 := sum_take F l
    have e2 := sum_drop F l
    have e3 := sum_rw (takeS F l)
    have e4 := sum_rw (dropS F l)
    rw [tot_good gt, tot_good gd]
    show UInt64.ofNat _ + UInt64.ofNat _ + UInt64.ofNat _ + UInt64.ofNat _ = UInt64.ofNat _
    rw [← UInt64.ofNat_add, ← UInt64.ofNat_add, ← UInt64.ofNat_add]
    congr 1; omega
theorem mod33 (x : UInt64) : x % 8589934592 = UInt64.ofNat (x.toNat % 8589934592) := by
  apply UInt64.toNat_inj.1
  rw [UInt64.toNat_mod, UInt64.toNat_ofNat']; simp only [UInt64.reduceToNat]; omega
theorem t_law05zSegCuts (l : List Seg) (f n m : UInt64) : law05zSegCuts l f n m = some true := by
  unfold law05zSegCuts
  rw [oS lives05, cNT (show (!true) = false from rfl)]
  by_cases h1 : len l > 100
  · rw [bP h1]
  · rw [bN h1, oS (segCheck l)]
    by_cases h : goodS l
    · rw [nE (errS_good h), oS (segTotal l)]
      have hs := h.2.2
      have bf := Nat.mod_lt f.toNat (show 8589934592 > 0 by decide)
      have bn := Nat.mod_lt n.toNat (show 8589934592 > 0 by decide)
      have bm := Nat.mod_lt m.toNat (show 8589934592 > 0 by decide)
      have gd := good_drop (f.toNat % 8589934592) h
      have c1 : seg_Cut l (f % 8589934592) (n % 8589934592) = some (takeS (n.toNat % 8589934592) (dropS (f.toNat % 8589934592) l)) := by
        rw [mod33 f, mod33 n]; exact cut_eq h (by omega) (by omega)
      rw [oS c1, oS (segTotal _), tot_all h]
      have J := cutsJ l f n m _ _ _ h (mod33 f) (mod33 n) (mod33 m) bf bn bm
      have lt : (f % 8589934592 < UInt64.ofNat (sumS l)) ↔ f.toNat % 8589934592 < sumS l := by
        rw [mod33 f, UInt64.lt_iff_toNat_lt, UInt64.toNat_ofNat', UInt64.toNat_ofNat']; omega
      by_cases h2 : f.toNat % 8589934592 < sumS l
      · rw [bP (lt.2 h2), mod33 n, mod33 f, sub_ofNat (by omega) (by omega), minu_nat (by omega) (by omega)]
        exact J
      · rw [bN (fun q => h2 (lt.1 q))]
        rw [show sumS l - f.toNat % 8589934592 = 0 by omega, Nat.min_eq_right (Nat.zero_le _)] at J
        exact J
    · rw [nF (errS_bad h)]
end Go.Proofs.Ytkdekmjcfoahjaa
