/- Segments of buffers in plain words: when a buffer may be, and how many bytes it has. No condition. -/
import Derived.Test.YtlofegfaphijpaaPuBase
namespace Go.Proofs.Ytlofegfaphijpaa
/-- may segments be, behind one that is written or not? -/
def okS : Bool → List Seg → Bool
  | _, [] => true
  | w, s :: r => decide (0 < s.Len.toNat ∧ s.At.toNat + s.Len.toNat ≤ 18446744073709551616 ∧ (w = true → s.Write = true)) && okS s.Write r
def sumS : List Seg → Nat
  | [] => 0
  | s :: r => s.Len.toNat + sumS r
/-- may a buffer be? -/
def goodS (l : List Seg) : Prop := l.length ≤ 64 ∧ okS false l = true ∧ sumS l < 4294967296
instance (l : List Seg) : Decidable (goodS l) := by unfold goodS; infer_instance
def errS (l : List Seg) : Int := if l.length > 64 then 3 else two (okS false l && Nat.blt (sumS l) 4294967296)
theorem errS_zero {l : List Seg} : errS l = 0 ↔ goodS l := by
  unfold errS goodS
  by_cases h : l.length > 64
  · rw [if_pos h]; constructor
    · intro q; cases q
    · intro q; omega
  · rw [if_neg h]
    cases h2 : okS false l && Nat.blt (sumS l) 4294967296 with
    | true =>
      rw [twoP rfl]
      simp only [Bool.and_eq_true, Nat.blt_eq] at h2
      exact ⟨fun _ => ⟨by omega, h2⟩, fun _ => rfl⟩
    | false =>
      rw [twoN rfl]
      constructor
      · intro q; cases q
      · rintro ⟨_, q1, q2⟩
        rw [q1, Bool.true_and] at h2
        rw [show Nat.blt (sumS l) 4294967296 = true by rw [Nat.blt_eq]; exact q2] at h2; cases h2
theorem sumS_le : ∀ l : List Seg, sumS l ≤ 4294967295 * l.length
  | [] => by simp [sumS]
  | s :: r => by
    have := sumS_le r; have hs := s.Len.toNat_lt
    simp only [sumS, List.length_cons]; omega
/-- is the one before written? -/
def prevW (l : List Seg) : Nat → Bool
  | 0 => false
  | i + 1 => match l[i]? with | some s => s.Write | none => false
theorem prevW_succ {l : List Seg} {i : Nat} (h : i < l.length) : prevW l (i + 1) = l[i].Write := by
  simp only [prevW, getq h]
theorem len32 (s : Seg) (h : s.Len ≠ 0) : 0 < s.Len.toNat := by
  rcases Nat.eq_zero_or_pos s.Len.toNat with e | e
  · exact absurd (UInt32.toNat_inj.1 (by simpa using e)) h
  · exact e
theorem add64 (n : Nat) (x : UInt32) : UInt64.ofNat n + x.toUInt64 = UInt64.ofNat (n + x.toNat) := by
  rw [UInt64.ofNat_add]; congr 1
  apply UInt64.toNat_inj.1
  have := x.toNat_lt
  simp only [UInt32.toNat_toUInt64, UInt64.toNat_ofNat']; omega
theorem over1 (s : Seg) (h : 0 < s.Len.toNat) : (s.Len.toUInt64 - 1 > (18446744073709551615 : UInt64) - s.At) ↔ ¬ s.At.toNat + s.Len.toNat ≤ 18446744073709551616 := by
  have h1 := s.Len.toNat_lt; have h2 := s.At.toNat_lt
  rw [GT.gt, UInt64.lt_iff_toNat_lt, UInt64.toNat_sub_of_le, UInt64.toNat_sub_of_le, UInt32.toNat_toUInt64]
  · simp only [UInt64.reduceToNat]; omega
  · rw [UInt64.le_iff_toNat_le, UInt32.toNat_toUInt64]; simp only [UInt64.reduceToNat]; omega
  · rw [UInt64.le_iff_toNat_le]; simp only [UInt64.reduceToNat]; omega
theorem ge32 (n : Nat) (h : n < 18446744073709551616) : (UInt64.ofNat n ≥ 4294967296) ↔ ¬ n < 4294967296 := by
  rw [GE.ge, UInt64.le_iff_toNat_le, UInt64.toNat_ofNat']; simp only [UInt64.reduceToNat]; omega
theorem segCheckL (l : List Seg) (hl : l.length ≤ 64) : ∀ (nf i n : Nat) (m : Int), i ≤ l.length → l.length - i < nf → n + sumS (l.drop i) < 18446744073709551616 →
    seg_CheckL1 l nf m (UInt64.ofNat n) (i : Int) = some (two (okS (prevW l i) (l.drop i) && Nat.blt (n + sumS (l.drop i)) 4294967296))
  | 0, i, n, m, _, h, _ => by omega
  | nf + 1, i, n, m, hi, hn, hs => by
    unfold seg_CheckL1 seg_CheckL1B
    by_cases h : i < l.length
    · have hd : l.drop i = l[i] :: l.drop (i + 1) := drop_ix h
      rw [hd] at hs ⊢
      simp only [sumS] at hs
      have ih := segCheckL l hl nf (i + 1) (n + l[i].Len.toNat) m (by omega) (by omega) (by omega)
      rw [prevW_succ h] at ih
      simp only [okS, sumS]
      have c2 : seg_Check_1 2 (UInt64.ofNat n) = some 2 := rfl
      rw [bP (by simp only [len]; omega), oS (ix_nat (getq h))]
      by_cases h0 : l[i].Len = 0
      · rw [bP (show l[i].Len < 1 by rw [h0]; decide), oS c2]
        rw [twoN (by rw [h0]; simp)]
      have hp := len32 _ h0
      rw [bN (show ¬ l[i].Len < 1 by rw [UInt32.lt_iff_toNat_lt]; simp only [UInt32.reduceToNat]; omega)]
      by_cases ho : l[i].At.toNat + l[i].Len.toNat ≤ 18446744073709551616
      · rw [bN (fun q => (over1 _ hp).1 q ho)]
        have go : some (two (okS l[i].Write (l.drop (i + 1)) && Nat.blt (n + l[i].Len.toNat + sumS (l.drop (i + 1))) 4294967296)) = seg_CheckL1 l nf m (UInt64.ofNat n + l[i].Len.toUInt64) (wi ((i : Int) + 1)) := by
          rw [add64, wi_succ (by omega), ih]
        cases i with
        | zero =>
          rw [bN (by simp), ← go]
          congr 2
          simp [prevW, hp, ho, Nat.add_assoc]
        | succ j =>
          rw [bP (by omega), wi_pred (by omega), oS (ix_nat (getq (by omega)))]
          rw [prevW_succ (by omega)]
          by_cases hw : l[j].Write = true
          · rw [bT hw]
            by_cases hw2 : l[j + 1].Write = true
            · rw [bFl (by rw [hw2]; rfl), ← go]
              congr 2
              simp [hp, ho, hw2, Nat.add_assoc]
            · rw [bT (by simpa using hw2), oS c2, twoN (by simp [hw, hw2])]
          · rw [bFl (by simpa using hw), ← go]
            congr 2
            simp [hp, ho, hw, Nat.add_assoc]
      · rw [bP ((over1 _ hp).2 ho), oS c2, twoN (by simp [ho])]
    · have hd : l.drop i = [] := List.drop_of_length_le (by omega)
      rw [hd] at hs ⊢
      simp only [sumS, Nat.add_zero] at hs ⊢
      rw [bN (by simp only [len]; omega)]
      unfold seg_Check_1
      rw [show br ((0 : Int) == 0) (br (decide (UInt64.ofNat n ≥ 4294967296)) (some 2) (some 0)) (some 0) = br (decide (UInt64.ofNat n ≥ 4294967296)) (some (2 : Int)) (some 0) from rfl]
      by_cases hq : n < 4294967296
      · rw [bN (fun q => (ge32 n hs).1 q hq), obS, twoP (by simp [okS, hq])]
      · rw [bP ((ge32 n hs).2 hq), obS, twoN (by rw [blt_f hq, Bool.and_false])]
theorem segCheck (l : List Seg) : seg_Check l = some (errS l) := by
  unfold seg_Check errS
  by_cases h : l.length > 64
  · rw [bP (by simp only [len]; omega), if_pos h]
  · have := sumS_le l
    have h1 := segCheckL l (by omega) fuel 0 0 0 (by omega) (by unfold fuel; omega) (by simp; omega)
    rw [bN (by simp only [len]; omega), if_neg h]
    simp only [List.drop_zero, Nat.zero_add, prevW] at h1
    exact h1
end Go.Proofs.Ytlofegfaphijpaa
