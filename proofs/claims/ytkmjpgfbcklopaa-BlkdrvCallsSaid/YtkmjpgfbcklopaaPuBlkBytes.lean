/- The bytes of a request to a block device. No condition. -/
import Derived.Test.YtkmjpgfbcklopaaPuBase
namespace Go.Proofs.Ytkmjpgfbcklopaa
/-- n low bytes -/
def wB (v : UInt64) : Nat → List UInt8
  | 0 => []
  | n + 1 => wB v n ++ [byt v n]
theorem wB_len (v : UInt64) : ∀ n, (wB v n).length = n
  | 0 => rfl
  | n + 1 => by simp only [wB, List.length_append, wB_len v n]; rfl
theorem shr_add (v : UInt64) (m n : Nat) : shr64 (shr64 v m) n = shr64 v (m + n) := by
  apply UInt64.toBitVec_inj.1
  rw [shr64_bv, shr64_bv, shr64_bv, BitVec.shiftRight_add]
theorem shr_zero (v : UInt64) : shr64 v 0 = v := by
  apply UInt64.toBitVec_inj.1
  rw [shr64_bv]; simp
theorem blkwordL (n : Nat) (hn : n ≤ 8) (v : UInt64) (b : List UInt8) (hb : b.length ≤ 100000000) : ∀ (nf x : Nat), x ≤ n → n - x < nf → blk_wordL1 (n : Int) nf (b ++ wB v x) (shr64 v (8 * x)) (x : Int) = some (b ++ wB v n)
  | 0, x, _, h => absurd h (Nat.not_lt_zero _)
  | nf + 1, x, hx, hf => by
    unfold blk_wordL1 blk_wordL1B
    by_cases h : x < n
    · have hl := wB_len v x
      rw [bP (by omega), cFits (by rw [List.length_append, hl, List.length_singleton]; omega), wi_succ (by omega), List.append_assoc, shr_add]
      exact blkwordL n hn v b hb nf (x + 1) (by omega) (by omega)
    · rw [bN (by omega), show x = n by omega]
theorem blkword_eq (b : List UInt8) (v : UInt64) (n : Nat) (hn : n ≤ 8) (hb : b.length ≤ 100000000) : blk_word b v (n : Int) = some (b ++ wB v n) := by
  have := blkwordL n hn v b hb fuel 0 (by omega) (by rw [fuelS]; omega)
  rw [show 8 * 0 = 0 from rfl, shr_zero] at this
  unfold blk_word
  rw [← this]; simp [wB]
theorem blkword4 (b : List UInt8) (v : UInt64) (hb : b.length ≤ 100000000) : blk_word b v 4 = some (b ++ wB v 4) := blkword_eq b v 4 (by decide) hb
theorem blkword8 (b : List UInt8) (v : UInt64) (hb : b.length ≤ 100000000) : blk_word b v 8 = some (b ++ wB v 8) := blkword_eq b v 8 (by decide) hb
theorem refwordL (n : Nat) (hn : n ≤ 8) (v : UInt64) (b : List UInt8) (hb : b.length ≤ 100000000) : ∀ (nf x : Nat), x ≤ n → n - x < nf → ref_word21L1 v (n : Int) nf (b ++ wB v x) (x : Int) = some (b ++ wB v n)
  | 0, x, _, h => absurd h (Nat.not_lt_zero _)
  | nf + 1, x, hx, hf => by
    unfold ref_word21L1 ref_word21L1B
    by_cases h : x < n
    · have hl := wB_len v x
      have e : (u64 (wi ((8 : Int) * (x : Int)))).toNat = 8 * x := by
        rw [show wi ((8 : Int) * (x : Int)) = ((8 * x : Nat) : Int) from by rw [wi_in (by omega) (by omega)]; omega, u64_of, UInt64.toNat_ofNat']; omega
      rw [bP (by omega), e, cFits (by rw [List.length_append, hl, List.length_singleton]; omega), wi_succ (by omega), List.append_assoc]
      exact refwordL n hn v b hb nf (x + 1) (by omega) (by omega)
    · rw [bN (by omega), show x = n by omega]
theorem refword_eq (b : List UInt8) (v : UInt64) (n : Nat) (hn : n ≤ 8) (hb : b.length ≤ 100000000) : ref_word21 b v (n : Int) = some (b ++ wB v n) := by
  have := refwordL n hn v b hb fuel 0 (by omega) (by rw [fuelS]; omega)
  unfold ref_word21
  rw [← this]; simp [wB]
theorem refword4 (b : List UInt8) (v : UInt64) (hb : b.length ≤ 100000000) : ref_word21 b v 4 = some (b ++ wB v 4) := refword_eq b v 4 (by decide) hb
theorem refword8 (b : List UInt8) (v : UInt64) (hb : b.length ≤ 100000000) : ref_word21 b v 8 = some (b ++ wB v 8) := refword_eq b v 8 (by decide) hb
/-- may a request be? -/
def okQ (r : Req) : Prop := r.Ranges.length ≤ 16 ∧ (r.Ranges = [] ∨ ((r.Type_ = 11 ∨ r.Type_ = 13) ∧ r.Data = [])) ∧ 0 ≤ r.Room
instance (r : Req) : Decidable (okQ r) := by unfold okQ; infer_instance
theorem blkCheck_eq (r : Req) : blk_Check r = some (if okQ r then 0 else 2) := by
  have hrg : blk_ranged r.Type_ = some (decide (r.Type_ = 11 ∨ r.Type_ = 13)) := by
    unfold blk_ranged
    by_cases h : r.Type_ = 11
    · rw [bE h]; simp [h]
    · rw [bF h]; simp only [h, false_or]; rfl
  unfold blk_Check
  by_cases h1 : len r.Ranges > 16
  · rw [bP h1, if_neg (fun q => by obtain ⟨q1, _⟩ := q; simp only [len] at h1; omega)]
  · rw [bN h1]
    simp only [len] at h1
    by_cases h2 : len r.Ranges > 0
    · rw [bP h2, oS hrg]
      simp only [len] at h2
      have hne : r.Ranges ≠ [] := fun q => by rw [q] at h2; simp at h2
      by_cases h3 : r.Type_ = 11 ∨ r.Type_ = 13
      · rw [decide_eq_true h3, notT, brF]
        by_cases h4 : len r.Data > 0
        · rw [bP h4, if_neg]
          rintro ⟨_, q, _⟩
          rcases q with q | q
          · exact hne q
          · simp only [len, q.2] at h4; simp at h4
        · rw [bN h4]
          have h5 : r.Data = [] := by cases hd : r.Data with | nil => rfl | cons a b => rw [hd] at h4; simp [len] at h4
          by_cases h6 : r.Room < 0
          · rw [bP h6, if_neg (fun q => by obtain ⟨_, _, q3⟩ := q; omega)]
          · rw [bN h6, if_pos ⟨by omega, Or.inr ⟨h3, h5⟩, by omega⟩]
      · rw [decide_eq_false h3, notF, brT, if_neg]
        rintro ⟨_, q, _⟩
        rcases q with q | q
        · exact hne q
        · exact h3 q.1
    · rw [bN h2]
      have h5 : r.Ranges = [] := by cases hd : r.Ranges with | nil => rfl | cons a b => rw [hd] at h2; simp [len] at h2
      by_cases h6 : r.Room < 0
      · rw [bP h6, if_neg (fun q => by obtain ⟨_, _, q3⟩ := q; omega)]
      · rw [bN h6, if_pos ⟨by omega, Or.inl h5, by omega⟩]
theorem refQCheck (r : Req) : ref_Check21 r = blk_Check r := rfl
def rangeB (x : Range) : List UInt8 := wB x.Sector 8 ++ wB x.Count.toUInt64 4 ++ wB x.Flags.toUInt64 4
theorem rangeB_len (x : Range) : (rangeB x).length = 16 := by simp only [rangeB, List.length_append, wB_len]
def rangesB (l : List Range) : List UInt8 := (l.map rangeB).flatten
theorem rangesB_len (l : List Range) : (rangesB l).length = 16 * l.length := by
  induction l with
  | nil => rfl
  | cons x l ih => simp only [rangesB, List.map_cons, List.flatten_cons, List.length_append, rangeB_len, List.length_cons] at ih ⊢; omega
/-- the head of a request -/
def headB (r : Req) : List UInt8 := wB r.Type_.toUInt64 4 ++ wB 0 4 ++ wB r.Sector 8
theorem headB_len (r : Req) : (headB r).length = 16 := by simp only [headB, List.length_append, wB_len]
def reqB (r : Req) : List UInt8 := headB r ++ r.Data ++ rangesB r.Ranges
theorem reqB_len (r : Req) : (reqB r).length = 16 + r.Data.length + 16 * r.Ranges.length := by
  simp only [reqB, List.length_append, headB_len, rangesB_len]
theorem blkBytesL (r : Req) (hl : r.Ranges.length ≤ 16) : ∀ (nf i : Nat) (b : List UInt8), i ≤ r.Ranges.length → r.Ranges.length - i < nf → b.length ≤ 10000000 + 16 * i → blk_BytesL1 r nf b (i : Int) = some (b ++ rangesB (r.Ranges.drop i), 0)
  | 0, i, b, _, h, _ => absurd h (Nat.not_lt_zero _)
  | nf + 1, i, b, hi, hn, hb => by
    unfold blk_BytesL1 blk_BytesL1B
    by_cases h : i < r.Ranges.length
    · have w1 := blkword8 b r.Ranges[i].Sector (by omega)
      have w2 := blkword4 (b ++ wB r.Ranges[i].Sector 8) r.Ranges[i].Count.toUInt64 (by rw [List.length_append, wB_len]; omega)
      have w3 := blkword4 (b ++ wB r.Ranges[i].Sector 8 ++ wB r.Ranges[i].Count.toUInt64 4) r.Ranges[i].Flags.toUInt64 (by rw [List.length_append, List.length_append, wB_len, wB_len]; omega)
      rw [drop_ix h, bP (by simp only [len]; omega), oS (ix_nat (getq h)), oS w1, oS w2, oS w3, wi_succ (by omega)]
      rw [blkBytesL r hl nf (i + 1) _ (by omega) (by omega) (by simp only [List.length_append, wB_len]; omega)]
      simp only [rangesB, List.map_cons, List.flatten_cons, rangeB, List.append_assoc]
    · rw [bN (by simp only [len]; omega), List.drop_of_length_le (by omega)]; simp [rangesB]
theorem blkBytes_eq (r : Req) (hd : r.Data.length ≤ 1000000) : blk_Bytes r = some (if okQ r then (reqB r, 0) else ([], 2)) := by
  unfold blk_Bytes
  rw [oS (blkCheck_eq r)]
  by_cases h : okQ r
  · have w1 := blkword4 [] r.Type_.toUInt64 (by simp)
    have w2 := blkword4 ([] ++ wB r.Type_.toUInt64 4) 0 (by simp [wB_len])
    have w3 := blkword8 ([] ++ wB r.Type_.toUInt64 4 ++ wB 0 4) r.Sector (by simp [wB_len])
    rw [if_pos h, if_pos h, nE rfl, oS w1, oS w2, oS w3]
    have e : ([] : List UInt8) ++ wB r.Type_.toUInt64 4 ++ wB 0 4 ++ wB r.Sector 8 = headB r := by simp [headB]
    rw [e, cFits (by rw [headB_len]; omega)]
    have := blkBytesL r h.1 fuel 0 (headB r ++ r.Data) (Nat.zero_le _) (by rw [fuelS]; have := h.1; omega) (by rw [List.length_append, headB_len]; omega)
    rw [List.drop_zero] at this
    exact this
  · rw [if_neg h, if_neg h, nF (by decide)]
theorem refBytesL21 (t : UInt32) (s : UInt64) (da : List UInt8) (ro : Int) (rg' : List Range) (hl : rg'.length ≤ 16) (hd : da.length ≤ 1000000) : ∀ (nf i : Nat) (b : List UInt8), i ≤ rg'.length → rg'.length - i < nf → b.length ≤ 10000000 + 16 * i → ref_Bytes21L1 nf t s da ro rg' b (i : Int) = some (b ++ rangesB (rg'.drop i) ++ da, 0)
  | 0, i, b, _, h, _ => absurd h (Nat.not_lt_zero _)
  | nf + 1, i, b, hi, hn, hb => by
    unfold ref_Bytes21L1 ref_Bytes21L1B
    by_cases h : i < rg'.length
    · have w1 := refword8 b rg'[i].Sector (by omega)
      have w2 := refword4 (b ++ wB rg'[i].Sector 8) rg'[i].Count.toUInt64 (by rw [List.length_append, wB_len]; omega)
      have w3 := refword4 (b ++ wB rg'[i].Sector 8 ++ wB rg'[i].Count.toUInt64 4) rg'[i].Flags.toUInt64 (by rw [List.length_append, List.length_append, wB_len, wB_len]; omega)
      rw [drop_ix h, bP (by simp only [len]; omega), oS (ix_nat (getq h)), oS w1, oS w2, oS w3, wi_succ (by omega)]
      rw [refBytesL21 t s da ro rg' hl hd nf (i + 1) _ (by omega) (by omega) (by simp only [List.length_append, wB_len]; omega)]
      simp only [rangesB, List.map_cons, List.flatten_cons, rangeB, List.append_assoc]
    · rw [bN (by simp only [len]; omega), List.drop_of_length_le (by omega), cFits (by omega)]; simp [rangesB]
theorem refBytes21_eq (r : Req) (hd : r.Data.length ≤ 1000000) : ref_Bytes21 r = some (if okQ r then (reqB r, 0) else ([], 2)) := by
  unfold ref_Bytes21
  rw [refQCheck, oS (blkCheck_eq r)]
  by_cases h : okQ r
  · have w1 := refword4 [] r.Type_.toUInt64 (by simp)
    have w2 := refword4 ([] ++ wB r.Type_.toUInt64 4) 0 (by simp [wB_len])
    have w3 := refword8 ([] ++ wB r.Type_.toUInt64 4 ++ wB 0 4) r.Sector (by simp [wB_len])
    rw [if_pos h, if_pos h, nE rfl, oS w1, oS w2, oS w3]
    have e : ([] : List UInt8) ++ wB r.Type_.toUInt64 4 ++ wB 0 4 ++ wB r.Sector 8 = headB r := by simp [headB]
    rw [e]
    have := refBytesL21 r.Type_ r.Sector r.Data r.Room r.Ranges h.1 hd fuel 0 (headB r) (Nat.zero_le _) (by rw [fuelS]; have := h.1; omega) (by rw [headB_len]; omega)
    rw [List.drop_zero] at this
    refine this.trans ?_
    unfold reqB
    rcases h.2.1 with q | q
    · rw [q]; simp [rangesB]
    · rw [q.2]; simp
  · rw [if_neg h, if_neg h, nF (by decide)]
end Go.Proofs.Ytkmjpgfbcklopaa
