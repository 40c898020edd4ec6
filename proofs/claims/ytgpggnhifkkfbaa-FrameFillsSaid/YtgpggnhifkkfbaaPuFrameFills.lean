/- The law FrameFills in plain words: it answers true. No condition. -/
import Derived.Test.YtgpggnhifkkfbaaPuSum
namespace Go.Proofs.Ytgpggnhifkkfbaa
theorem clone_eq (b : List UInt8) (h : b.length ≤ 100000000) : slices_Clone_bytebyte b = some b := by
  unfold slices_Clone_bytebyte; rw [cFits (by simp; omega)]
/-- a word put at an even place -/
theorem wsum_put : ∀ (l : List UInt8) (n : Nat) (x y : UInt8), n + 2 ≤ l.length → n % 2 = 0 → l[n]? = some 0 → l[n + 1]? = some 0 → wsum ((l.set n x).set (n + 1) y) = wsum l + (256 * x.toNat + y.toNat)
  | a :: b :: r, 0, x, y, _, _, h0, h1 => by
    simp at h0 h1; subst h0; subst h1
    simp only [List.set_cons_zero, List.set_cons_succ, wsum, UInt8.reduceToNat]; omega
  | a :: b :: r, n + 2, x, y, hl, he, h0, h1 => by
    have := wsum_put r n x y (by simp only [List.length_cons] at hl; omega) (by omega) (by simpa using h0) (by simpa using h1)
    simp only [List.set_cons_succ, wsum, this]; omega
  | a :: b :: r, 1, x, y, _, he, _, _ => by simp at he
  | [a], n, x, y, hl, _, _, _ => by simp only [List.length_cons, List.length_nil] at hl; omega
  | [], n, x, y, hl, _, _, _ => by simp only [List.length_nil] at hl; omega
/-- what Fill makes -/
theorem fill_eq (b : List UInt8) (k n : Nat) (hk : k < 65536) (hn : n < 65536) (hb : b.length ≤ 3000) (h : k + n + 2 ≤ b.length) :
    frame_Fill b (Hdr.mk 1 (UInt16.ofNat k) (UInt16.ofNat n) 0) = some ((b.set (k + n) (shr16 (cks (wsum (b.drop k))) (8 : UInt64).toNat).toUInt8).set (k + n + 1) (cks (wsum (b.drop k))).toUInt8, 0) := by
  have e1 : i16 (UInt16.ofNat k) = (k : Int) := by simp only [i16, UInt16.toNat_ofNat']; omega
  have e2 : i16 (UInt16.ofNat n) = (n : Int) := by simp only [i16, UInt16.toNat_ofNat']; omega
  have w1 : wi ((k : Int) + (n : Int)) = ((k + n : Nat) : Int) := by rw [wi_in (by omega) (by omega)]; omega
  have w2 : wi (((k + n : Nat) : Int) + 2) = ((k + n + 2 : Nat) : Int) := by rw [wi_in (by omega) (by omega)]; omega
  have w3 : wi (((k + n : Nat) : Int) + 1) = ((k + n + 1 : Nat) : Int) := by rw [wi_in (by omega) (by omega)]; omega
  unfold frame_Fill
  rw [bF (show (1 : UInt8) &&& 1 ≠ 0 by decide)]
  simp only [e1, e2, w1, w2, w3]
  rw [bN (by simp only [len]; omega), bN (by simp only [len]; omega), oS (clone_eq b (by omega)), cP (by simp only [len]; omega), sub_from]
  simp only [Int.toNat_natCast]
  rw [oS (sum_eq _ (by simp; omega)), oS (ix_nat (getq (by omega))), oS (ix_nat (getq (by simp; omega)))]
theorem fill_bad (b : List UInt8) (k n : Nat) (hk : k < 1000) (hn : n < 1000) (hb : b.length ≤ 3000) (h : b.length < k + n + 2) : frame_Fill b (Hdr.mk 1 (UInt16.ofNat k) (UInt16.ofNat n) 0) = some ([], 4) := by
  have e1 : i16 (UInt16.ofNat k) = (k : Int) := by simp only [i16, UInt16.toNat_ofNat']; omega
  have e2 : i16 (UInt16.ofNat n) = (n : Int) := by simp only [i16, UInt16.toNat_ofNat']; omega
  have w1 : wi ((k : Int) + (n : Int)) = ((k + n : Nat) : Int) := by rw [wi_in (by omega) (by omega)]; omega
  have w2 : wi (((k + n : Nat) : Int) + 2) = ((k + n + 2 : Nat) : Int) := by rw [wi_in (by omega) (by omega)]; omega
  unfold frame_Fill
  rw [bF (show (1 : UInt8) &&& 1 ≠ 0 by decide)]
  simp only [e1, e2, w1, w2]
  by_cases h1 : (k : Int) > len b
  · rw [bP h1]
  · rw [bN h1, bP (by simp only [len]; omega)]
/-- all other bytes are the same -/
theorem fillsL (p1 p2 : Int) (c : List UInt8) (a x y : UInt8) (q : Nat) (hq : q + 2 ≤ c.length) (hc : c.length ≤ 3000) (h1 : wi (wi (2 * p1) + wi (2 * p2)) = (q : Int))
    (fin : frame_Sum (sub ((((c.set q 0).set (q + 1) 0).set q x).set (q + 1) y) (wi (2 * p1)) (len ((((c.set q 0).set (q + 1) 0).set q x).set (q + 1) y))) = some 0)
    (fin2 : 0 ≤ wi (2 * p1) ∧ wi (2 * p1) ≤ len c) :
    ∀ (nf i : Nat), i ≤ c.length → c.length - i < nf → law23zFrameFillsL1 p1 p2 c ((((c.set q 0).set (q + 1) 0).set q x).set (q + 1) y, 0) nf (i : Int) = some true
  | 0, i, _, h => by omega
  | nf + 1, i, hi, hn => by
    unfold law23zFrameFillsL1 law23zFrameFillsL1B
    have w3 : wi ((q : Int) + 1) = ((q + 1 : Nat) : Int) := by rw [wi_in (by omega) (by omega)]; omega
    have wi1 : wi ((i : Int) + 1) = ((i + 1 : Nat) : Int) := by rw [wi_in (by omega) (by omega)]; omega
    simp only [h1, w3, Int.toNat_natCast]
    by_cases h : i < c.length
    · have ih := fillsL p1 p2 c a x y q hq hc h1 fin fin2 nf (i + 1) (by omega) (by omega)
      rw [bP (by simp [len]; omega), wi1]
      by_cases h2 : i = q
      · rw [nE (by omega)]; exact ih
      rw [nF (by omega)]
      by_cases h3 : i = q + 1
      · rw [nE (by omega)]; exact ih
      rw [nF (by omega)]
      have g1 : ((((c.set q 0).set (q + 1) 0).set q x).set (q + 1) y)[i]? = some c[i] := by
        rw [List.getElem?_set_ne (by omega), List.getElem?_set_ne (by omega), List.getElem?_set_ne (by omega), List.getElem?_set_ne (by omega)]; exact getq h
      have g2 : ((c.set q 0).set (q + 1) 0)[i]? = some c[i] := by
        rw [List.getElem?_set_ne (by omega), List.getElem?_set_ne (by omega)]; exact getq h
      rw [oS (ix_nat g1), oS (ix_nat g2), cnE rfl]
      exact ih
    · rw [bN (by simp [len]; omega), cP (by obtain ⟨f1, f2⟩ := fin2; simp only [len, List.length_set] at *; omega), oS fin, cE rfl]
theorem t_law23zFrameFills (b : List UInt8) (start off : Int) : law23zFrameFills b start off = some true := by
  unfold law23zFrameFills
  rw [oS lives23, notT, notF, chkT]
  by_cases hb : len b > 3000
  · rw [bP hb]
  rw [bN hb]
  have hb' : b.length ≤ 3000 := by simp only [len] at hb; omega
  have hf0 : frame_Fill b (Hdr.mk 0 5000 9 0) = some (b, 0) := by
    unfold frame_Fill
    rw [bE (show (0 : UInt8) &&& 1 = 0 by decide), oS (clone_eq b (by omega))]
  rw [oS (own_eq b (by omega)), oS hf0, cnE rfl, cnE rfl]
  obtain ⟨k, hk, hk'⟩ := pick_eq start 100 (by omega) (by omega)
  obtain ⟨n, hn, hn'⟩ := pick_eq off 100 (by omega) (by omega)
  rw [oS hk, oS hn]
  have w1 : wi (2 * (k : Int)) = ((2 * k : Nat) : Int) := by rw [wi_in (by omega) (by omega)]; omega
  have w2 : wi (2 * (n : Int)) = ((2 * n : Nat) : Int) := by rw [wi_in (by omega) (by omega)]; omega
  have w3 : wi (((2 * k : Nat) : Int) + ((2 * n : Nat) : Int)) = ((2 * k + 2 * n : Nat) : Int) := by rw [wi_in (by omega) (by omega)]; omega
  have w4 : wi (((2 * k + 2 * n : Nat) : Int) + 2) = ((2 * k + 2 * n + 2 : Nat) : Int) := by rw [wi_in (by omega) (by omega)]; omega
  have w5 : wi (((2 * k + 2 * n : Nat) : Int) + 1) = ((2 * k + 2 * n + 1 : Nat) : Int) := by rw [wi_in (by omega) (by omega)]; omega
  simp only [w1, w2, w3, w4, w5, u16_of, Int.toNat_natCast]
  by_cases h : ((2 * k + 2 * n + 2 : Nat) : Int) > len b
  · rw [bP h, oS (own_eq b (by omega)), oS (fill_bad b (2 * k) (2 * n) (by omega) (by omega) hb' (by simp only [len] at h; omega)), cE rfl]
  rw [bN h]
  have h' : 2 * k + 2 * n + 2 ≤ b.length := by simp only [len] at h; omega
  rw [oS (own_eq b (by omega)), oS (ix_nat (getq (by omega))), oS (ix_nat (getq (by simp; omega))), oS (own_eq _ (by simp; omega)), oS (fill_eq _ (2 * k) (2 * n) (by omega) (by omega) (by simp; omega) (by simp; omega)), cnE rfl, cnE (by simp [len])]
  generalize hs : wsum (((b.set (2 * k + 2 * n) 0).set (2 * k + 2 * n + 1) 0).drop (2 * k)) = s
  have hfin : frame_Sum (sub ((((b.set (2 * k + 2 * n) 0).set (2 * k + 2 * n + 1) 0).set (2 * k + 2 * n) (shr16 (cks s) (8 : UInt64).toNat).toUInt8).set (2 * k + 2 * n + 1) (cks s).toUInt8) (wi (2 * (k : Int))) (len ((((b.set (2 * k + 2 * n) 0).set (2 * k + 2 * n + 1) 0).set (2 * k + 2 * n) (shr16 (cks s) (8 : UInt64).toNat).toUInt8).set (2 * k + 2 * n + 1) (cks s).toUInt8)) ) = some 0 := by
    rw [w1, sub_from]
    refine (sum_eq _ (by simp only [List.length_drop, List.length_set]; omega)).trans ?_
    refine congrArg some (cks_zero ?_)
    simp only [Int.toNat_natCast]
    rw [List.drop_set, List.drop_set, if_neg (by omega), if_neg (by omega), show 2 * k + 2 * n - 2 * k = 2 * n by omega, show 2 * k + 2 * n + 1 - 2 * k = 2 * n + 1 by omega]
    have hput := wsum_put (((b.set (2 * k + 2 * n) 0).set (2 * k + 2 * n + 1) 0).drop (2 * k)) (2 * n) (shr16 (cks s) (8 : UInt64).toNat).toUInt8 (cks s).toUInt8 (by simp; omega) (by omega)
      (by rw [List.getElem?_drop, List.getElem?_set_ne (by omega), List.getElem?_set_self (by omega)])
      (by rw [List.getElem?_drop, show 2 * k + (2 * n + 1) = 2 * k + 2 * n + 1 by omega, List.getElem?_set_self (by simp; omega)])
    rw [hput, hs, hi_lo16]
    exact res_cks s
  exact fillsL k n b 0 _ _ (2 * k + 2 * n) h' hb' (by rw [w1, w2, w3]) hfin (by rw [w1]; simp only [len]; omega) fuel 0 (by omega) (by unfold fuel; omega)
end Go.Proofs.Ytgpggnhifkkfbaa
