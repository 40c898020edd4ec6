/- The law BlkdrvCuts in plain words: it answers true. No condition. -/
import Derived.Test.YtkmjpgfbcklopaaPuCuts
namespace Go.Proofs.Ytkmjpgfbcklopaa
theorem lives22 : law22zlives = some true := by kernel_rfl
theorem ksegs_eq (l : List Seg) (h : l.length ≤ 1000000) : kit_Segs l = some l := by unfold kit_Segs; rw [cFits (by simp; omega)]
/-- what is left of the segment that is being covered, and what is behind it -/
def leftS (l : List Seg) (i : Nat) (left at_ : UInt64) (c : List Seg) : Prop :=
  (left = 0 ∧ i ≤ l.length ∧ Cov c (l.drop i)) ∨ ∃ (j : Nat) (y s : Seg), i = j + 1 ∧ l[j]? = some s ∧ s.Write = y.Write ∧ y.At = at_ ∧ y.Len.toUInt64 = left ∧ left ≠ 0 ∧ Cov c (y :: l.drop i)
theorem cutsJ (l C : List Seg) (hl : l.length ≤ 70) (hC : C.length ≤ 100) (k : Nat) (L1 : Int → UInt64 → UInt64 → Int → Option Bool) (x : Seg) (c : List Seg) (hx : C.drop k = x :: c) (j : Nat) (y s : Seg) (hj : l[j]? = some s) (hw : s.Write = y.Write) (hcov : Cov (x :: c) (y :: l.drop (j + 1)))
    (hih : ∀ left at_, leftS l (j + 1) left at_ c → L1 ((j + 1 : Nat) : Int) left at_ ((k + 1 : Nat) : Int) = some true) :
    law22zBlkdrvCutsJ2 l C (k : Int) L1 ((j + 1 : Nat) : Int) y.Len.toUInt64 y.At = some true := by
  obtain ⟨d1, d2, _⟩ : k < C.length ∧ C[k]? = some x ∧ C.drop (k + 1) = c := by
    have h1 : k < C.length := by
      rcases Nat.lt_or_ge k C.length with q | q
      · exact q
      · rw [List.drop_of_length_le q] at hx; cases hx
    rw [drop_ix h1] at hx
    injection hx with h2 h3
    exact ⟨h1, by rw [getq h1, h2], h3⟩
  have g := ix_nat d2
  have hjl := (List.getElem?_eq_some_iff.1 hj).1
  have w1 : wi (((j + 1 : Nat) : Int) - 1) = (j : Int) := wi_pred (by omega)
  have key : x.At = y.At ∧ x.Len.toNat ≤ y.Len.toNat ∧ x.Write = y.Write ∧ leftS l (j + 1) (y.Len.toUInt64 - x.Len.toUInt64) (y.At + x.Len.toUInt64) c := by
    cases hcov with
    | whole _ _ _ h => exact ⟨rfl, Nat.le_refl _, rfl, Or.inl ⟨by simp, hjl, h⟩⟩
    | part _ _ _ _ e1 e2 e3 e4 h =>
      refine ⟨e1, by omega, e2, Or.inr ⟨j, tlS y x.Len.toNat, s, rfl, hj, hw, ?_, ?_, ?_, h⟩⟩
      · unfold tlS; dsimp only; rw [show UInt64.ofNat x.Len.toNat = x.Len.toUInt64 from by apply UInt64.toNat_inj.1; have := x.Len.toNat_lt; simp only [UInt64.toNat_ofNat', UInt32.toNat_toUInt64]; omega]
      · apply UInt64.toNat_inj.1
        rw [UInt32.toNat_toUInt64, tl_len, sub64 (by simp only [UInt32.toNat_toUInt64]; omega), UInt32.toNat_toUInt64, UInt32.toNat_toUInt64]
      · intro q
        have := congrArg UInt64.toNat q
        rw [sub64 (by simp only [UInt32.toNat_toUInt64]; omega), UInt32.toNat_toUInt64, UInt32.toNat_toUInt64] at this
        simp only [UInt64.reduceToNat] at this; omega
  obtain ⟨k1, k2, k3, k4⟩ := key
  unfold law22zBlkdrvCutsJ2
  simp only [g, obS, w1, ix_nat hj, wi_succ (show k < 9223372036854775807 by omega)]
  rw [cnE k1, cN (by rw [GT.gt, lt64, UInt32.toNat_toUInt64, UInt32.toNat_toUInt64]; omega), cnE (by rw [hw, k3])]
  exact hih _ _ k4
theorem cutsLoop (l C : List Seg) (hg : goodS l) (hC : C.length ≤ 100) : ∀ (nf k i : Nat) (left at_ : UInt64), k ≤ C.length → C.length - k < nf → leftS l i left at_ (C.drop k) → law22zBlkdrvCutsL1 l C nf (i : Int) left at_ (k : Int) = some true
  | 0, k, i, left, at_, _, h, _ => absurd h (Nat.not_lt_zero _)
  | nf + 1, k, i, left, at_, hk, hn, hL => by
    have h64 := hg.1
    unfold law22zBlkdrvCutsL1 law22zBlkdrvCutsL1B
    by_cases h : k < C.length
    · rw [bP (by simp only [len]; omega)]
      have hd := drop_ix h
      rw [hd] at hL
      rcases hL with ⟨h0, hil, hcov⟩ | ⟨j, y, s, rfl, hj, hw, hat, hlen, hne, hcov⟩
      · have hi : i < l.length := by
          rcases Nat.lt_or_ge i l.length with q | q
          · exact q
          · rw [List.drop_of_length_le q] at hcov; cases hcov
        rw [drop_ix hi] at hcov
        have g := ix_nat (getq hi)
        rw [bE h0, cN (by simp only [len]; omega), oS g, oS g, wi_succ (by omega)]
        exact cutsJ l C (by omega) hC k _ C[k] _ hd i l[i] l[i] (getq hi) rfl hcov (fun left at_ q => cutsLoop l C hg hC nf (k + 1) (i + 1) left at_ (by omega) (by omega) q)
      · rw [bF hne, ← hat, ← hlen]
        exact cutsJ l C (by omega) hC k _ C[k] _ hd j y s hj hw hcov (fun left at_ q => cutsLoop l C hg hC nf (k + 1) (j + 1) left at_ (by omega) (by omega) q)
    · rw [bN (by simp only [len]; omega)]
      rw [List.drop_of_length_le (by omega)] at hL
      rcases hL with ⟨h0, hil, hcov⟩ | ⟨j, y, s, _, _, _, _, _, _, hcov⟩
      · have hi : l.length ≤ i := by
          generalize hq : l.drop i = q at hcov
          cases hcov
          exact List.drop_eq_nil_iff.1 hq
        have hi2 : i = l.length := by omega
        subst hi2
        have hq := bcut_eq l [(0 : Int), ((-5) : Int)] (by simp)
        rw [if_pos hg, cutQ_none hg _ (fun c hc => by
          simp only [List.mem_cons, List.not_mem_nil, or_false] at hc
          rcases hc with e | e <;> subst e <;> decide)] at hq
        rw [oS (ksegs_eq l (by omega)), oS hq, cE h0, cE (show ((l.length : Nat) : Int) = len l from rfl), oS (ksame_eq l l (by omega)), beqI, chkT]
      · cases hcov
theorem t_law22zBlkdrvCuts (l : List Seg) (cuts : List Int) : law22zBlkdrvCuts l cuts = some true := by
  unfold law22zBlkdrvCuts
  rw [oS lives22, notT, notF, chkT]
  by_cases h1 : len l > 70
  · rw [bP h1]
  · rw [bN h1]
    by_cases h2 : len cuts > 70
    · rw [bP h2]
    · rw [bN h2]
      simp only [len] at h1 h2
      rw [oS (ksegs_eq l (by omega)), oS (bcut_eq l cuts (by omega)), oS (refCheck l)]
      by_cases hg : goodS l
      · have g2 := cutQ_good hg cuts
        have hcov := cov_cutQ hg cuts
        have hl := cov_len hcov
        have h64 := g2.1
        rw [nE (errS_good hg), if_pos hg, oS (refCheck _), cnE (errS_good g2), cN (by simp only [len]; omega), cN (by simp only [len]; omega)]
        exact cutsLoop l _ hg (by omega) fuel 0 0 0 0 (by omega) (by rw [fuelS]; omega) (Or.inl ⟨rfl, by omega, by rw [List.drop_zero, List.drop_zero]; exact hcov⟩)
      · rw [nF (errS_bad hg), if_neg hg, cE (show len ([] : List Seg) = 0 from rfl)]
end Go.Proofs.Ytkmjpgfbcklopaa
