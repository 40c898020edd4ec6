/- The plain words: what the functions reckon, and that the law answers true. No condition. -/
import Derived.Test.YtkmjpgfbcklopaaMo1
import Derived.Test.YtkmjpgfbcklopaaGe2
section
namespace Go.Proofs.Ytkmjpgfbcklopaa
def two (p : Bool) : Int := bif p then 0 else 2
theorem twoP {p : Bool} (h : p = true) : two p = 0 := by rw [h]; rfl
theorem twoN {p : Bool} (h : p = false) : two p = 2 := by rw [h]; rfl
theorem blt_f {a b : Nat} (h : ¬ a < b) : Nat.blt a b = false := by
  cases e : Nat.blt a b with
  | false => rfl
  | true => exact absurd (Nat.blt_eq ▸ e) h
theorem wi_pred {i : Nat} (h : i < 9223372036854775807) : wi (((i + 1 : Nat) : Int) - 1) = (i : Int) := by rw [wi_in (by omega) (by omega)]; omega
theorem fuelS : fuel = 36893488147419103231 + 1 := rfl
theorem le64 {a b : UInt64} : (a ≤ b) ↔ a.toNat ≤ b.toNat := UInt64.le_iff_toNat_le
theorem lt64 {a b : UInt64} : (a < b) ↔ a.toNat < b.toNat := UInt64.lt_iff_toNat_lt
theorem sub64 {a b : UInt64} (h : b.toNat ≤ a.toNat) : (a - b).toNat = a.toNat - b.toNat := UInt64.toNat_sub_of_le _ _ (le64.2 h)
/-- xs laid into x from a on -/
def wrF (x : List UInt8) (a : Nat) (xs : List UInt8) : List UInt8 := x.take a ++ xs ++ x.drop (a + xs.length)
theorem wrF_nil (x : List UInt8) (a : Nat) : wrF x a [] = x := by simp [wrF]
theorem wrF_len {x xs : List UInt8} {a : Nat} (h : a + xs.length ≤ x.length) : (wrF x a xs).length = x.length := by
  simp only [wrF, List.length_append, List.length_take, List.length_drop]; omega
theorem pick_eq (n : Int) (m : Nat) (hm : 0 < m) (hm2 : m ≤ 1000000) : ∃ k : Nat, kit_Pick n (m : Int) = some (k : Int) ∧ k < m := by
  unfold kit_Pick
  have h1 : (remi n (m : Int)) = n.tmod m := rfl
  have h2 := Int.tmod_lt_of_pos n (show (0 : Int) < (m : Int) by omega)
  have h3 : -(m : Int) < n.tmod m := by
    have := Int.tmod_lt_of_pos (-n) (show (0 : Int) < (m : Int) by omega)
    rw [Int.neg_tmod] at this; omega
  rw [bN (by omega), cnF (by omega), h1]
  by_cases h : n.tmod m < 0
  · rw [bP h, wi_in (by omega) (by omega)]
    exact ⟨(n.tmod m + m).toNat, by congr 1; omega, by omega⟩
  · rw [bN h]
    exact ⟨(n.tmod m).toNat, by congr 1; omega, by omega⟩
theorem own_eq (b : List UInt8) (h : b.length ≤ 100000000) : kit_Own b = some b := by unfold kit_Own; rw [cFits (by simp; omega)]
end Go.Proofs.Ytkmjpgfbcklopaa

end

section
namespace Go.Proofs.Ytkmjpgfbcklopaa
/-- n low bytes -/
def wB (v : UInt64) : Nat → List UInt8
  | 0 => []
  | n + 1 => wB v n ++ [byt v n]
theorem wB_len (v : UInt64) : ∀ n, (wB v n).length = n
  | 0 => rfl
  | n + 1 => by simp only [wB, List.length_append, wB_len v n]; rfl
theorem shr_add (v : UInt64) (m n : Nat) : shr64 (shr64 v m) n = shr64 v (m + n) := by
  apply UInt64.toBitVec_inj.1
  rw [shr64_bv, shr64_bv, shr64_bv, BitVec.shiftRight_add]
theorem shr_zero (v : UInt64) : shr64 v 0 = v := by
  apply UInt64.toBitVec_inj.1
  rw [shr64_bv]; simp
theorem blkwordL (n : Nat) (hn : n ≤ 8) (v : UInt64) (b : List UInt8) (hb : b.length ≤ 100000000) : ∀ (nf x : Nat), x ≤ n → n - x < nf → blk_wordL1 (n : Int) nf (b ++ wB v x) (shr64 v (8 * x)) (x : Int) = some (b ++ wB v n)
  | 0, x, _, h => absurd h (Nat.not_lt_zero _)
  | nf + 1, x, hx, hf => by
    unfold blk_wordL1 blk_wordL1B
    by_cases h : x < n
    · have hl := wB_len v x
      rw [bP (by omega), cFits (by rw [List.length_append, hl, List.length_singleton]; omega), wi_succ (by omega), List.append_assoc, shr_add]
      exact blkwordL n hn v b hb nf (x + 1) (by omega) (by omega)
    · rw [bN (by omega), show x = n by omega]
theorem blkword_eq (b : List UInt8) (v : UInt64) (n : Nat) (hn : n ≤ 8) (hb : b.length ≤ 100000000) : blk_word b v (n : Int) = some (b ++ wB v n) := by
  have := blkwordL n hn v b hb fuel 0 (by omega) (by rw [fuelS]; omega)
  rw [show 8 * 0 = 0 from rfl, shr_zero] at this
  unfold blk_word
  rw [← this]; simp [wB]
theorem blkword4 (b : List UInt8) (v : UInt64) (hb : b.length ≤ 100000000) : blk_word b v 4 = some (b ++ wB v 4) := blkword_eq b v 4 (by decide) hb
theorem blkword8 (b : List UInt8) (v : UInt64) (hb : b.length ≤ 100000000) : blk_word b v 8 = some (b ++ wB v 8) := blkword_eq b v 8 (by decide) hb
theorem refwordL (n : Nat) (hn : n ≤ 8) (v : UInt64) (b : List UInt8) (hb : b.length ≤ 100000000) : ∀ (nf x : Nat), x ≤ n → n - x < nf → ref_word21L1 v (n : Int) nf (b ++ wB v x) (x : Int) = some (b ++ wB v n)
  | 0, x, _, h => absurd h (Nat.not_lt_zero _)
  | nf + 1, x, hx, hf => by
    unfold ref_word21L1 ref_word21L1B
    by_cases h : x < n
    · have hl := wB_len v x
      have e : (u64 (wi ((8 : Int) * (x : Int)))).toNat = 8 * x := by
        rw [show wi ((8 : Int) * (x : Int)) = ((8 * x : Nat) : Int) from by rw [wi_in (by omega) (by omega)]; omega, u64_of, UInt64.toNat_ofNat']; omega
      rw [bP (by omega), e, cFits (by rw [List.length_append, hl, List.length_singleton]; omega), wi_succ (by omega), List.append_assoc]
      exact refwordL n hn v b hb nf (x + 1) (by omega) (by omega)
    · rw [bN (by omega), show x = n by omega]
theorem refword_eq (b : List UInt8) (v : UInt64) (n : Nat) (hn : n ≤ 8) (hb : b.length ≤ 100000000) : ref_word21 b v (n : Int) = some (b ++ wB v n) := by
  have := refwordL n hn v b hb fuel 0 (by omega) (by rw [fuelS]; omega)
  unfold ref_word21
  rw [← this]; simp [wB]
theorem refword4 (b : List UInt8) (v : UInt64) (hb : b.length ≤ 100000000) : ref_word21 b v 4 = some (b ++ wB v 4) := refword_eq b v 4 (by decide) hb
theorem refword8 (b : List UInt8) (v : UInt64) (hb : b.length ≤ 100000000) : ref_word21 b v 8 = some (b ++ wB v 8) := refword_eq b v 8 (by decide) hb
/-- may a request be? -/
def okQ (r : Req) : Prop := r.Ranges.length ≤ 16 ∧ (r.Ranges = [] ∨ ((r.Type_ = 11 ∨ r.Type_ = 13) ∧ r.Data = [])) ∧ 0 ≤ r.Room
instance (r : Req) : Decidable (okQ r) := by unfold okQ; infer_instance
theorem blkCheck_eq (r : Req) : blk_Check r = some (if okQ r then 0 else 2) := by
  have hrg : blk_ranged r.Type_ = some (decide (r.Type_ = 11 ∨ r.Type_ = 13)) := by
    unfold blk_ranged
    by_cases h : r.Type_ = 11
    · rw [bE h]; simp [h]
    · rw [bF h]; simp only [h, false_or]; rfl
  unfold blk_Check
  by_cases h1 : len r.Ranges > 16
  · rw [bP h1, if_neg (fun q => by obtain ⟨q1, _⟩ := q; simp only [len] at h1; omega)]
  · rw [bN h1]
    simp only [len] at h1
    by_cases h2 : len r.Ranges > 0
    · rw [bP h2, oS hrg]
      simp only [len] at h2
      have hne : r.Ranges ≠ [] := fun q => by rw [q] at h2; simp at h2
      by_cases h3 : r.Type_ = 11 ∨ r.Type_ = 13
      · rw [decide_eq_true h3, notT, brF]
        by_cases h4 : len r.Data > 0
        · rw [bP h4, if_neg]
          rintro ⟨_, q, _⟩
          rcases q with q | q
          · exact hne q
          · simp only [len, q.2] at h4; simp at h4
        · rw [bN h4]
          have h5 : r.Data = [] := by cases hd : r.Data with | nil => rfl | cons a b => rw [hd] at h4; simp [len] at h4
          by_cases h6 : r.Room < 0
          · rw [bP h6, if_neg (fun q => by obtain ⟨_, _, q3⟩ := q; omega)]
          · rw [bN h6, if_pos ⟨by omega, Or.inr ⟨h3, h5⟩, by omega⟩]
      · rw [decide_eq_false h3, notF, brT, if_neg]
        rintro ⟨_, q, _⟩
        rcases q with q | q
        · exact hne q
        · exact h3 q.1
    · rw [bN h2]
      have h5 : r.Ranges = [] := by cases hd : r.Ranges with | nil => rfl | cons a b => rw [hd] at h2; simp [len] at h2
      by_cases h6 : r.Room < 0
      · rw [bP h6, if_neg (fun q => by obtain ⟨_, _, q3⟩ := q; omega)]
      · rw [bN h6, if_pos ⟨by omega, Or.inl h5, by omega⟩]
theorem refQCheck (r : Req) : ref_Check21 r = blk_Check r := rfl
def rangeB (x : Range) : List UInt8 := wB x.Sector 8 ++ wB x.Count.toUInt64 4 ++ wB x.Flags.toUInt64 4
theorem rangeB_len (x : Range) : (rangeB x).length = 16 := by simp only [rangeB, List.length_append, wB_len]
def rangesB (l : List Range) : List UInt8 := (l.map rangeB).flatten
theorem rangesB_len (l : List Range) : (rangesB l).length = 16 * l.length := by
  induction l with
  | nil => rfl
  | cons x l ih => simp only [rangesB, List.map_cons, List.flatten_cons, List.length_append, rangeB_len, List.length_cons] at ih ⊢; omega
/-- the head of a request -/
def headB (r : Req) : List UInt8 := wB r.Type_.toUInt64 4 ++ wB 0 4 ++ wB r.Sector 8
theorem headB_len (r : Req) : (headB r).length = 16 := by simp only [headB, List.length_append, wB_len]
def reqB (r : Req) : List UInt8 := headB r ++ r.Data ++ rangesB r.Ranges
theorem reqB_len (r : Req) : (reqB r).length = 16 + r.Data.length + 16 * r.Ranges.length := by
  simp only [reqB, List.length_append, headB_len, rangesB_len]
theorem blkBytesL (r : Req) (hl : r.Ranges.length ≤ 16) : ∀ (nf i : Nat) (b : List UInt8), i ≤ r.Ranges.length → r.Ranges.length - i < nf → b.length ≤ 10000000 + 16 * i → blk_BytesL1 r nf b (i : Int) = some (b ++ rangesB (r.Ranges.drop i), 0)
  | 0, i, b, _, h, _ => absurd h (Nat.not_lt_zero _)
  | nf + 1, i, b, hi, hn, hb => by
    unfold blk_BytesL1 blk_BytesL1B
    by_cases h : i < r.Ranges.length
    · have w1 := blkword8 b r.Ranges[i].Sector (by omega)
      have w2 := blkword4 (b ++ wB r.Ranges[i].Sector 8) r.Ranges[i].Count.toUInt64 (by rw [List.length_append, wB_len]; omega)
      have w3 := blkword4 (b ++ wB r.Ranges[i].Sector 8 ++ wB r.Ranges[i].Count.toUInt64 4) r.Ranges[i].Flags.toUInt64 (by rw [List.length_append, List.length_append, wB_len, wB_len]; omega)
      rw [drop_ix h, bP (by simp only [len]; omega), oS (ix_nat (getq h)), oS w1, oS w2, oS w3, wi_succ (by omega)]
      rw [blkBytesL r hl nf (i + 1) _ (by omega) (by omega) (by simp only [List.length_append, wB_len]; omega)]
      simp only [rangesB, List.map_cons, List.flatten_cons, rangeB, List.append_assoc]
    · rw [bN (by simp only [len]; omega), List.drop_of_length_le (by omega)]; simp [rangesB]
theorem blkBytes_eq (r : Req) (hd : r.Data.length ≤ 1000000) : blk_Bytes r = some (if okQ r then (reqB r, 0) else ([], 2)) := by
  unfold blk_Bytes
  rw [oS (blkCheck_eq r)]
  by_cases h : okQ r
  · have w1 := blkword4 [] r.Type_.toUInt64 (by simp)
    have w2 := blkword4 ([] ++ wB r.Type_.toUInt64 4) 0 (by simp [wB_len])
    have w3 := blkword8 ([] ++ wB r.Type_.toUInt64 4 ++ wB 0 4) r.Sector (by simp [wB_len])
    rw [if_pos h, if_pos h, nE rfl, oS w1, oS w2, oS w3]
    have e : ([] : List UInt8) ++ wB r.Type_.toUInt64 4 ++ wB 0 4 ++ wB r.Sector 8 = headB r := by simp [headB]
    rw [e, cFits (by rw [headB_len]; omega)]
    have := blkBytesL r h.1 fuel 0 (headB r ++ r.Data) (Nat.zero_le _) (by rw [fuelS]; have := h.1; omega) (by rw [List.length_append, headB_len]; omega)
    rw [List.drop_zero] at this
    exact this
  · rw [if_neg h, if_neg h, nF (by decide)]
theorem refBytesL21 (t : UInt32) (s : UInt64) (da : List UInt8) (ro : Int) (rg' : List Range) (hl : rg'.length ≤ 16) (hd : da.length ≤ 1000000) : ∀ (nf i : Nat) (b : List UInt8), i ≤ rg'.length → rg'.length - i < nf → b.length ≤ 10000000 + 16 * i → ref_Bytes21L1 nf t s da ro rg' b (i : Int) = some (b ++ rangesB (rg'.drop i) ++ da, 0)
  | 0, i, b, _, h, _ => absurd h (Nat.not_lt_zero _)
  | nf + 1, i, b, hi, hn, hb => by
    unfold ref_Bytes21L1 ref_Bytes21L1B
    by_cases h : i < rg'.length
    · have w1 := refword8 b rg'[i].Sector (by omega)
      have w2 := refword4 (b ++ wB rg'[i].Sector 8) rg'[i].Count.toUInt64 (by rw [List.length_append, wB_len]; omega)
      have w3 := refword4 (b ++ wB rg'[i].Sector 8 ++ wB rg'[i].Count.toUInt64 4) rg'[i].Flags.toUInt64 (by rw [List.length_append, List.length_append, wB_len, wB_len]; omega)
      rw [drop_ix h, bP (by simp only [len]; omega), oS (ix_nat (getq h)), oS w1, oS w2, oS w3, wi_succ (by omega)]
      rw [refBytesL21 t s da ro rg' hl hd nf (i + 1) _ (by omega) (by omega) (by simp only [List.length_append, wB_len]; omega)]
      simp only [rangesB, List.map_cons, List.flatten_cons, rangeB, List.append_assoc]
    · rw [bN (by simp only [len]; omega), List.drop_of_length_le (by omega), cFits (by omega)]; simp [rangesB]
theorem refBytes21_eq (r : Req) (hd : r.Data.length ≤ 1000000) : ref_Bytes21 r = some (if okQ r then (reqB r, 0) else ([], 2)) := by
  unfold ref_Bytes21
  rw [refQCheck, oS (blkCheck_eq r)]
  by_cases h : okQ r
  · have w1 := refword4 [] r.Type_.toUInt64 (by simp)
    have w2 := refword4 ([] ++ wB r.Type_.toUInt64 4) 0 (by simp [wB_len])
    have w3 := refword8 ([] ++ wB r.Type_.toUInt64 4 ++ wB 0 4) r.Sector (by simp [wB_len])
    rw [if_pos h, if_pos h, nE rfl, oS w1, oS w2, oS w3]
    have e : ([] : List UInt8) ++ wB r.Type_.toUInt64 4 ++ wB 0 4 ++ wB r.Sector 8 = headB r := by simp [headB]
    rw [e]
    have := refBytesL21 r.Type_ r.Sector r.Data r.Room r.Ranges h.1 hd fuel 0 (headB r) (Nat.zero_le _) (by rw [fuelS]; have := h.1; omega) (by rw [headB_len]; omega)
    rw [List.drop_zero] at this
    refine this.trans ?_
    unfold reqB
    rcases h.2.1 with q | q
    · rw [q]; simp [rangesB]
    · rw [q.2]; simp
  · rw [if_neg h, if_neg h, nF (by decide)]
end Go.Proofs.Ytkmjpgfbcklopaa

end

section
namespace Go.Proofs.Ytkmjpgfbcklopaa
theorem cDs {P : Prop} [Decidable P] {ρ : Type} {k : Option ρ} (h : P) : chk (decide P) k = k := by rw [decide_eq_true h]; rfl
/-! numbers -/
theorem sh8 (w : UInt64) : shl64 (shr64 w 8) 8 ||| w.toUInt8.toUInt64 = w := by
  have hw := w.toNat_lt
  apply UInt64.toNat_inj.1
  have h1 : (shl64 (shr64 w 8) 8).toNat = 256 * (w.toNat / 256) := by
    simp only [shl64, shr64, UInt64.toNat_ofNat']
    rw [show 2 ^ min 8 64 = 256 from rfl]; omega
  rw [UInt64.toNat_or, h1, UInt8.toNat_toUInt64, UInt64.toNat_toUInt8]
  have h2 : w.toNat % 2 ^ 8 < 2 ^ 8 := Nat.mod_lt _ (by decide)
  have := Nat.two_pow_add_eq_or_of_lt (i := 8) h2 (w.toNat / 256)
  rw [show (2 ^ 8 : Nat) = 256 from rfl] at this
  rw [show 2 ^ 8 = 256 from rfl, ← this]; omega
theorem number_okL (b : List UInt8) : ∀ (nf i : Nat) (x : UInt64), i ≤ b.length → b.length ≤ 1000000 → i < nf → ∃ v, ref_number21L1 b nf x ((i : Int) - 1) = some v
  | 0, i, _, _, _, h => absurd h (Nat.not_lt_zero _)
  | nf + 1, 0, x, _, _, _ => by
    unfold ref_number21L1 ref_number21L1B
    rw [bN (by omega)]; exact ⟨x, rfl⟩
  | nf + 1, i + 1, x, hi, hb, hn => by
    unfold ref_number21L1 ref_number21L1B
    rw [bP (by omega), show ((i + 1 : Nat) : Int) - 1 = (i : Int) by omega, oS (ix_nat (getq (by omega))), wi_in (by omega) (by omega)]
    exact number_okL b nf i _ (by omega) hb (by omega)
theorem number_ok (b : List UInt8) (hb : b.length ≤ 1000000) : ∃ v, ref_number21 b = some v := by
  unfold ref_number21
  simp only [len]
  rw [wi_in (by omega) (by omega)]
  exact number_okL b fuel b.length 0 (Nat.le_refl _) hb (by rw [fuelS]; omega)
theorem number_L (v : UInt64) (n : Nat) (hn : n ≤ 8) (b : List UInt8) (hl : b.length = n) (hb : ∀ i, i < n → b[i]? = some (byt v i)) : ∀ (nf i : Nat), i ≤ n → i < nf → ref_number21L1 b nf (shr64 v (8 * i)) ((i : Int) - 1) = some v
  | 0, i, _, h => absurd h (Nat.not_lt_zero _)
  | nf + 1, 0, _, _ => by
    unfold ref_number21L1 ref_number21L1B
    rw [bN (by omega), Nat.mul_zero, shr_zero]
  | nf + 1, i + 1, hi, hf => by
    unfold ref_number21L1 ref_number21L1B
    have e : shl64 (shr64 v (8 * (i + 1))) (8 : UInt64).toNat ||| (byt v i).toUInt64 = shr64 v (8 * i) := by
      have := sh8 (shr64 v (8 * i))
      rw [shr_add] at this
      exact this
    rw [bP (by omega), show ((i + 1 : Nat) : Int) - 1 = (i : Int) by omega, oS (ix_nat (hb i (by omega))), wi_in (by omega) (by omega), e]
    exact number_L v n hn b hl hb nf i (by omega) (by omega)
theorem wB_get (v : UInt64) : ∀ (n i : Nat), i < n → (wB v n)[i]? = some (byt v i)
  | 0, i, h => absurd h (Nat.not_lt_zero _)
  | n + 1, i, h => by
    unfold wB
    by_cases q : i < n
    · rw [List.getElem?_append_left (by rw [wB_len]; exact q)]; exact wB_get v n i q
    · rw [List.getElem?_append_right (by rw [wB_len]; omega), wB_len, show i - n = 0 by omega, show n = i by omega]; rfl
theorem number_wB (v : UInt64) (n : Nat) (hn : n ≤ 8) (h0 : shr64 v (8 * n) = 0) : ref_number21 (wB v n) = some v := by
  unfold ref_number21
  simp only [len]
  rw [wB_len, wi_in (by omega) (by omega), ← h0]
  exact number_L v n hn (wB v n) (wB_len v n) (fun i h => wB_get v n i h) fuel n (Nat.le_refl _) (by rw [fuelS]; omega)
theorem number8 (v : UInt64) : ref_number21 (wB v 8) = some v := number_wB v 8 (by decide) (by
  apply UInt64.toNat_inj.1
  have := v.toNat_lt
  simp only [shr64, UInt64.toNat_ofNat']
  rw [show 2 ^ min (8 * 8) 64 = 18446744073709551616 from rfl, Nat.div_eq_of_lt this]; rfl)
theorem number4 (v : UInt32) : ref_number21 (wB v.toUInt64 4) = some v.toUInt64 := number_wB v.toUInt64 4 (by decide) (by
  apply UInt64.toNat_inj.1
  have := v.toNat_lt
  simp only [shr64, UInt64.toNat_ofNat', UInt32.toNat_toUInt64]
  rw [show 2 ^ min (8 * 4) 64 = 4294967296 from rfl, Nat.div_eq_of_lt this]; rfl)
/-! the store -/
def stOk (n : Nat) (s : dumbwaiterref20_Store) : Prop := s.now.length = 512 * n ∧ s.fresh.length = n ∧ n ≤ 4096
def ofOk (b : List UInt8) : Prop := 1 ≤ b.length / 512 ∧ b.length / 512 ≤ 4096 ∧ b.length % 512 = 0
instance (b : List UInt8) : Decidable (ofOk b) := by unfold ofOk; infer_instance
theorem rem512 (n : Nat) : remi (n : Int) 512 = ((n % 512 : Nat) : Int) := remi_nat n 512
theorem quo512 (n : Nat) (h : n ≤ 9223372036854775807) : quoi (n : Int) 512 = ((n / 512 : Nat) : Int) := quoi_nat n 512 h
theorem rem16' (n : Nat) : remi (n : Int) 16 = ((n % 16 : Nat) : Int) := remi_nat n 16
theorem quo16' (n : Nat) (h : n ≤ 9223372036854775807) : quoi (n : Int) 16 = ((n / 16 : Nat) : Int) := quoi_nat n 16 h
theorem quoL (b : List UInt8) (h : b.length ≤ 9223372036854775807) : quoi (len b) 512 = ((b.length / 512 : Nat) : Int) := quo512 b.length h
theorem remL (b : List UInt8) : remi (len b) 512 = ((b.length % 512 : Nat) : Int) := rem512 b.length
theorem quoL16 (b : List UInt8) (h : b.length ≤ 9223372036854775807) : quoi (len b) 16 = ((b.length / 16 : Nat) : Int) := quo16' b.length h
theorem remL16 (b : List UInt8) : remi (len b) 16 = ((b.length % 16 : Nat) : Int) := rem16' b.length
theorem of20_eq (b : List UInt8) (hb : b.length ≤ 10000000) : ref_Of20 b = some (if ofOk b then (some ⟨b, b, List.replicate (b.length / 512) false⟩, 0) else (none, 2)) := by
  unfold ref_Of20
  rw [quoL b (by omega), remL b]
  by_cases h1 : b.length / 512 < 1
  · rw [bP (by omega), if_neg (fun q : ofOk b => by have := q.1; omega)]
  · rw [bN (by omega)]
    by_cases h2 : b.length / 512 > 4096
    · rw [bP (by omega), if_neg (fun q : ofOk b => by have := q.2.1; omega)]
    · rw [bN (by omega)]
      by_cases h3 : b.length % 512 = 0
      · rw [nE (by omega), cFits (by simp; omega), cFits (by simp; omega), cDs (by omega), if_pos (show ofOk b from ⟨by omega, by omega, h3⟩), Int.toNat_natCast]
      · rw [nF (by omega), if_neg (fun q : ofOk b => h3 q.2.2)]
theorem of20_ok {b : List UInt8} (h : ofOk b) : stOk (b.length / 512) ⟨b, b, List.replicate (b.length / 512) false⟩ := by
  obtain ⟨h1, h2, h3⟩ := h
  exact ⟨by dsimp only; omega, List.length_replicate .., h2⟩
theorem u64nat {n : Nat} (h : n ≤ 4000000000) : (u64 (n : Int)).toNat = n := by
  rw [u64_of, UInt64.toNat_ofNat']; omega
theorem has20_eq {n : Nat} {s : dumbwaiterref20_Store} (h : stOk n s) (a k : UInt64) : ref_Store_Has20 s a k = some (decide (a.toNat + k.toNat ≤ n)) := by
  unfold ref_Store_Has20
  obtain ⟨h1, h2, h3⟩ := h
  have hu := u64nat (n := n) (by omega)
  have hlen : len s.fresh = (n : Int) := by simp only [len]; rw [h2]
  rw [hlen]
  have ha := a.toNat_lt
  have hk := k.toNat_lt
  by_cases q : a ≤ u64 (n : Int)
  · rw [bP q]
    rw [UInt64.le_iff_toNat_le, hu] at q
    congr 1
    refine decide_eq_decide.2 ?_
    rw [UInt64.le_iff_toNat_le, UInt64.toNat_sub_of_le _ _ (by rw [UInt64.le_iff_toNat_le, hu]; exact q), hu]; omega
  · rw [bN q]
    rw [UInt64.le_iff_toNat_le, hu] at q
    rw [decide_eq_false (by omega)]
theorem i64nat {a : UInt64} (h : a.toNat ≤ 4000000000) : i64 a = (a.toNat : Int) := i64_of (by omega)
theorem write20L {n : Nat} (a : UInt64) (b : List UInt8) (hb : b.length ≤ 10000000) (ha : a.toNat + b.length / 512 ≤ n) (hn : n ≤ 4096) (l1 l2 : List UInt8) (h2 : l2.length = 512 * n) : ∀ (nf i : Nat) (l3 : List Bool), i ≤ b.length / 512 → b.length / 512 - i < nf → l3.length = n → ∃ s', ref_Store_Write20L1 a b nf l1 l2 l3 (i : Int) = some (0, s') ∧ stOk n s'
  | 0, i, _, _, h, _ => absurd h (Nat.not_lt_zero _)
  | nf + 1, i, l3, hi, hf, hl => by
    unfold ref_Store_Write20L1 ref_Store_Write20L1B
    rw [quoL b (by omega), i64nat (by omega)]
    by_cases c : i < b.length / 512
    · have e : wi ((a.toNat : Int) + (i : Int)) = ((a.toNat + i : Nat) : Int) := by rw [wi_in (by omega) (by omega)]; omega
      rw [bP (by omega), e, oS (ix_nat (getq (by omega))), wi_succ (by omega)]
      exact write20L a b hb ha hn l1 l2 h2 nf (i + 1) _ (by omega) (by omega) (by rw [List.length_set]; exact hl)
    · rw [bN (by omega)]
      exact ⟨_, rfl, h2, hl, hn⟩
theorem copyAt_len' {xs ys : List UInt8} {l m : Int} (h0 : 0 ≤ l) (h1 : l ≤ m) (h2 : m ≤ (xs.length : Int)) : (copyAt xs l m ys).length = xs.length := by
  unfold copyAt
  simp only [List.length_append, List.length_take, List.length_drop]; omega
theorem write20_ok {n : Nat} {s : dumbwaiterref20_Store} (h : stOk n s) (a : UInt64) (b : List UInt8) (hb : b.length ≤ 10000000) : ∃ e s', ref_Store_Write20 s a b = some (e, s') ∧ stOk n s' := by
  unfold ref_Store_Write20
  rw [remL b, quoL b (by omega)]
  by_cases h1 : b.length % 512 = 0
  · have hu : (u64 ((b.length / 512 : Nat) : Int)).toNat = b.length / 512 := u64nat (by omega)
    rw [nE (by omega), oS (has20_eq h _ _), hu]
    by_cases c : a.toNat + b.length / 512 ≤ n
    · obtain ⟨a1, a2, a3⟩ := h
      have e : wi (i64 a * 512) = ((512 * a.toNat : Nat) : Int) := by rw [i64nat (by omega), wi_in (by omega) (by omega)]; omega
      rw [decide_eq_true c, notT, brF, e, cDs (by simp only [len]; omega)]
      obtain ⟨s', e1, e2⟩ := write20L a b hb c a3 s.old (copyAt s.now ((512 * a.toNat : Nat) : Int) (len s.now) b) (by rw [copyAt_len' (by omega) (by simp only [len]; omega) (by simp only [len]; omega)]; exact a1) fuel 0 s.fresh (Nat.zero_le _) (by rw [fuelS]; omega) a2
      exact ⟨0, s', e1, e2⟩
    · rw [decide_eq_false c, notF, brT]; exact ⟨5, s, rfl, h⟩
  · rw [nF (by omega)]; exact ⟨2, s, rfl, h⟩
theorem zero20_ok {n : Nat} {s : dumbwaiterref20_Store} (h : stOk n s) (a k : UInt64) : ∃ e s', ref_Store_Zero20 s a k = some (e, s') ∧ stOk n s' := by
  unfold ref_Store_Zero20
  rw [oS (has20_eq h a k)]
  by_cases c : a.toNat + k.toNat ≤ n
  · have h3 := h.2.2
    have e : wi (i64 k * 512) = ((512 * k.toNat : Nat) : Int) := by rw [i64nat (by omega), wi_in (by omega) (by omega)]; omega
    rw [decide_eq_true c, notT, brF, e, cDs (by omega), Int.toNat_natCast]
    obtain ⟨e1, s', q1, q2⟩ := write20_ok h a (List.replicate (512 * k.toNat) (0 : UInt8)) (by rw [List.length_replicate]; omega)
    rw [oS q1]
    exact ⟨e1, s', rfl, q2⟩
  · rw [decide_eq_false c, notF, brT]; exact ⟨5, s, rfl, h⟩
theorem read20_ok {n : Nat} {s : dumbwaiterref20_Store} (h : stOk n s) (a : UInt64) (k : Nat) (hk : k ≤ 100000) : ∃ out e, ref_Store_Read20 s a (k : Int) = some (out, e) ∧ (e = 0 → out.length = 512 * k) := by
  unfold ref_Store_Read20
  rw [bN (by omega), oS (has20_eq h _ _), u64nat (by omega)]
  by_cases c : a.toNat + k ≤ n
  · obtain ⟨a1, a2, a3⟩ := h
    have e : wi (i64 a * 512) = ((512 * a.toNat : Nat) : Int) := by rw [i64nat (by omega), wi_in (by omega) (by omega)]; omega
    have e2 : wi ((k : Int) * 512) = ((512 * k : Nat) : Int) := by rw [wi_in (by omega) (by omega)]; omega
    have e3 : wi (((512 * a.toNat : Nat) : Int) + ((512 * k : Nat) : Int)) = ((512 * a.toNat + 512 * k : Nat) : Int) := by rw [wi_in (by omega) (by omega)]; omega
    rw [decide_eq_true c, notT, brF, e, e2, e3, cDs (by simp only [len]; omega), sub_nat, cFits (by simp; omega)]
    refine ⟨_, 0, rfl, fun _ => ?_⟩
    rw [List.length_take, List.length_drop]; omega
  · rw [decide_eq_false c, notF, brT]; exact ⟨[], 5, rfl, fun q => absurd q (by decide)⟩
theorem flush20_ok {n : Nat} {s : dumbwaiterref20_Store} (h : stOk n s) : ∃ e s', ref_Store_Flush20 s = some (e, s') ∧ stOk n s' := by
  obtain ⟨a1, a2, a3⟩ := h
  unfold ref_Store_Flush20
  rw [cFits (by simp; omega), cDs (by simp only [len]; omega)]
  exact ⟨0, _, rfl, a1, by dsimp only; rw [List.length_replicate]; simp only [len]; omega, a3⟩
theorem w16 {i : Nat} (h : i ≤ 100000) : wi ((16 : Int) * (i : Int)) = ((16 * i : Nat) : Int) := by rw [wi_in (by omega) (by omega)]; omega
theorem w16k {i : Nat} (k : Nat) (h : i ≤ 100000) (hk : k ≤ 100) : wi (((16 * i : Nat) : Int) + (k : Int)) = ((16 * i + k : Nat) : Int) := by rw [wi_in (by omega) (by omega)]; omega
theorem ranges4 {n : Nat} (b : List UInt8) (hb : b.length ≤ 1000) : ∀ (nf i : Nat) (s : dumbwaiterref20_Store), stOk n s → i ≤ b.length / 16 → b.length / 16 - i < nf → ∃ st s', ref_ranges21L4 b nf s.old s.now s.fresh (i : Int) = some (st, s') ∧ stOk n s'
  | 0, i, _, _, _, h => absurd h (Nat.not_lt_zero _)
  | nf + 1, i, s, hs, hi, hn => by
    unfold ref_ranges21L4 ref_ranges21L4B
    rw [quoL16 b (by omega)]
    by_cases c : i < b.length / 16
    · have e8 := w16k (i := i) 8 (by omega) (by omega)
      have e12 := w16k (i := i) 12 (by omega) (by omega)
      rw [show ((8 : Nat) : Int) = 8 from rfl] at e8
      rw [show ((12 : Nat) : Int) = 12 from rfl] at e12
      obtain ⟨v1, q1⟩ := number_ok (sub b ((16 * i : Nat) : Int) ((16 * i + 8 : Nat) : Int)) (by rw [sub_nat, List.length_take, List.length_drop]; omega)
      obtain ⟨v2, q2⟩ := number_ok (sub b ((16 * i + 8 : Nat) : Int) ((16 * i + 12 : Nat) : Int)) (by rw [sub_nat, List.length_take, List.length_drop]; omega)
      obtain ⟨e, s', q3, q4⟩ := zero20_ok hs v1 v2
      rw [bP (by omega), w16 (by omega), e8, e12, cDs (by simp only [len]; omega), oS q1, cDs (by simp only [len]; omega), oS q2, oS (show ref_Store_Zero20 ⟨s.old, s.now, s.fresh⟩ v1 v2 = some (e, s') from q3), wi_succ (by omega)]
      exact ranges4 b hb nf (i + 1) s' q4 (by omega) (by omega)
    · rw [bN (by omega)]; exact ⟨0, _, rfl, hs⟩
theorem ranges3 {n : Nat} (t : UInt32) (b : List UInt8) (hb : b.length ≤ 1000) (s : dumbwaiterref20_Store) (hs : stOk n s) : ∀ (nf i : Nat), i ≤ b.length / 16 → b.length / 16 - i < nf → ∃ st s', ref_ranges21L3 s t b nf (i : Int) = some (st, s') ∧ stOk n s'
  | 0, i, _, h => absurd h (Nat.not_lt_zero _)
  | nf + 1, i, hi, hn => by
    unfold ref_ranges21L3 ref_ranges21L3B
    rw [quoL16 b (by omega)]
    by_cases c : i < b.length / 16
    · have e12 := w16k (i := i) 12 (by omega) (by omega)
      have e16 := w16k (i := i) 16 (by omega) (by omega)
      rw [show ((12 : Nat) : Int) = 12 from rfl] at e12
      rw [show ((16 : Nat) : Int) = 16 from rfl] at e16
      obtain ⟨v1, q1⟩ := number_ok (sub b ((16 * i + 12 : Nat) : Int) ((16 * i + 16 : Nat) : Int)) (by rw [sub_nat, List.length_take, List.length_drop]; omega)
      have ih := ranges3 t b hb s hs nf (i + 1) (by omega) (by omega)
      rw [bP (by omega), w16 (by omega), e12, e16, cDs (by simp only [len]; omega), oS q1, wi_succ (by omega)]
      by_cases c1 : v1 > 1
      · rw [bP c1]; exact ⟨2, s, rfl, hs⟩
      · rw [bN c1]
        by_cases c2 : v1 = 1
        · rw [bE c2]
          by_cases c3 : t = 13
          · rw [nE c3]; exact ih
          · rw [nF c3]; exact ⟨2, s, rfl, hs⟩
        · rw [bF c2]; exact ih
    · rw [bN (by omega)]
      exact ranges4 b hb fuel 0 s hs (Nat.zero_le _) (by rw [fuelS]; omega)
theorem ranges2 {n : Nat} (t : UInt32) (b : List UInt8) (hb : b.length ≤ 1000) (s : dumbwaiterref20_Store) (hs : stOk n s) : ∀ (nf i : Nat), i ≤ b.length / 16 → b.length / 16 - i < nf → ∃ st s', ref_ranges21L2 s t b nf (i : Int) = some (st, s') ∧ stOk n s'
  | 0, i, _, h => absurd h (Nat.not_lt_zero _)
  | nf + 1, i, hi, hn => by
    unfold ref_ranges21L2 ref_ranges21L2B
    rw [quoL16 b (by omega)]
    by_cases c : i < b.length / 16
    · have e8 := w16k (i := i) 8 (by omega) (by omega)
      have e12 := w16k (i := i) 12 (by omega) (by omega)
      rw [show ((8 : Nat) : Int) = 8 from rfl] at e8
      rw [show ((12 : Nat) : Int) = 12 from rfl] at e12
      obtain ⟨v1, q1⟩ := number_ok (sub b ((16 * i : Nat) : Int) ((16 * i + 8 : Nat) : Int)) (by rw [sub_nat, List.length_take, List.length_drop]; omega)
      obtain ⟨v2, q2⟩ := number_ok (sub b ((16 * i + 8 : Nat) : Int) ((16 * i + 12 : Nat) : Int)) (by rw [sub_nat, List.length_take, List.length_drop]; omega)
      rw [bP (by omega), w16 (by omega), e8, e12, cDs (by simp only [len]; omega), oS q1, cDs (by simp only [len]; omega), oS q2, oS (has20_eq hs v1 v2), wi_succ (by omega)]
      by_cases c1 : v1.toNat + v2.toNat ≤ n
      · rw [decide_eq_true c1, notT, brF]
        exact ranges2 t b hb s hs nf (i + 1) (by omega) (by omega)
      · rw [decide_eq_false c1, notF, brT]; exact ⟨1, s, rfl, hs⟩
    · rw [bN (by omega)]
      exact ranges3 t b hb s hs fuel 0 (Nat.zero_le _) (by rw [fuelS]; omega)
theorem has06_ok (f : UInt64) (b : Int) : ∃ c, ref_Has06 f b = some c := by
  unfold ref_Has06
  by_cases h1 : b ≥ 0
  · rw [bP h1]
    by_cases h2 : b < 64
    · rw [bP h2]; exact ⟨_, rfl⟩
    · rw [bN h2]; exact ⟨_, rfl⟩
  · rw [bN h1]; exact ⟨_, rfl⟩
theorem rangesJ {n : Nat} (s : dumbwaiterref20_Store) (hs : stOk n s) (f : UInt64) (t : UInt32) (ro : Bool) (b : List UInt8) (hb : b.length ≤ 1000000) (bit : Int) : ∃ st s', ref_ranges21J1 s f t ro b bit = some (st, s') ∧ stOk n s' := by
  unfold ref_ranges21J1
  obtain ⟨c, hc⟩ := has06_ok f bit
  rw [oS hc]
  cases c with
  | false => rw [notF, brT]; exact ⟨2, s, rfl, hs⟩
  | true =>
    rw [notT, brF]
    cases ro with
    | true => rw [brT]; exact ⟨1, s, rfl, hs⟩
    | false =>
      rw [brF, remL16 b, quoL16 b (by omega)]
      by_cases h1 : b.length % 16 = 0
      · rw [nE (by omega)]
        by_cases h2 : b.length / 16 < 1
        · rw [bP (by omega)]; exact ⟨1, s, rfl, hs⟩
        · rw [bN (by omega)]
          by_cases h3 : b.length / 16 > 16
          · rw [bP (by omega)]; exact ⟨1, s, rfl, hs⟩
          · rw [bN (by omega)]
            exact ranges2 t b (by omega) s hs fuel 0 (Nat.zero_le _) (by rw [fuelS]; omega)
      · rw [nF (by omega)]; exact ⟨1, s, rfl, hs⟩
theorem ranges_ok {n : Nat} (s : dumbwaiterref20_Store) (hs : stOk n s) (f : UInt64) (t : UInt32) (ro : Bool) (b : List UInt8) (hb : b.length ≤ 1000000) : ∃ st s', ref_ranges21 s f t ro b = some (st, s') ∧ stOk n s' := by
  unfold ref_ranges21
  by_cases h : t = 13
  · rw [bE h]; exact rangesJ s hs f t ro b hb 14
  · rw [bF h]; exact rangesJ s hs f t ro b hb 13
/-! a request -/
def outOk (n : Nat) (room : Int) (r : Option (List UInt8 × UInt8 × dumbwaiterref20_Store)) : Prop := ∃ out st s', r = some (out, st, s') ∧ stOk n s' ∧ (st ≠ 0 → out = []) ∧ (out.length : Int) ≤ room
theorem out_none {n : Nat} {room : Int} (h0 : 0 ≤ room) {s : dumbwaiterref20_Store} (hs : stOk n s) (st : UInt8) : outOk n room (some ([], st, s)) := ⟨[], st, s, rfl, hs, fun _ => rfl, by simpa using h0⟩
theorem applyJ {n : Nat} (s : dumbwaiterref20_Store) (hs : stOk n s) (f : UInt64) (r : Req) (h0 : 0 ≤ r.Room) (b : List UInt8) (hb : b.length ≤ 1000000) (has x : Bool) : outOk n r.Room (ref_apply21J1 s f r b has x) := by
  unfold ref_apply21J1
  cases x with
  | true =>
    obtain ⟨st, s', e, q⟩ := ranges_ok s hs f r.Type_ has b hb
    rw [brT, oS e]; exact out_none h0 q st
  | false => rw [brF]; exact out_none h0 hs 2
theorem apply_ok {n : Nat} (s : dumbwaiterref20_Store) (hs : stOk n s) (f : UInt64) (name : List UInt8) (hnm : name.length ≤ 20) (r : Req) (h0 : 0 ≤ r.Room) (h6 : r.Room ≤ 100000) (b : List UInt8) (hb : b.length ≤ 1000000) : outOk n r.Room (ref_apply21 s f name r b) := by
  unfold ref_apply21
  obtain ⟨c, hc⟩ := has06_ok f 5
  rw [oS hc]
  obtain ⟨R, hR⟩ : ∃ R : Nat, r.Room = (R : Int) := ⟨r.Room.toNat, by omega⟩
  by_cases t0 : r.Type_ = 0
  · rw [bE t0, hR, rem512, quo512 _ (by omega)]
    by_cases h1 : R % 512 = 0
    · obtain ⟨out, e, q1, q2⟩ := read20_ok hs r.Sector (R / 512) (by omega)
      rw [nE (by omega), oS q1]
      by_cases h2 : e = 0
      · rw [nE h2]
        refine ⟨out, 0, s, rfl, hs, fun q => absurd rfl q, ?_⟩
        have := q2 h2; omega
      · rw [nF h2]; exact out_none (by omega) hs 1
    · rw [nF (by omega)]; exact out_none (by omega) hs 1
  rw [bF t0]
  by_cases t1 : r.Type_ = 1
  · rw [bE t1]
    cases c with
    | true => rw [brT]; exact out_none h0 hs 1
    | false =>
      obtain ⟨e, s', q1, q2⟩ := write20_ok hs r.Sector b (by omega)
      rw [brF, oS q1]
      by_cases h2 : e = 0
      · rw [nE h2]; exact out_none h0 q2 0
      · rw [nF h2]; exact out_none h0 q2 1
  rw [bF t1]
  by_cases t4 : r.Type_ = 4
  · obtain ⟨c2, hc2⟩ := has06_ok f 9
    rw [bE t4, oS hc2]
    cases c2 with
    | false => rw [notF, brT]; exact out_none h0 hs 2
    | true =>
      obtain ⟨e, s', q1, q2⟩ := flush20_ok hs
      rw [notT, brF, oS q1]; exact out_none h0 q2 0
  rw [bF t4]
  by_cases t8 : r.Type_ = 8
  · rw [bE t8]
    by_cases h2 : r.Room < 20
    · rw [bP h2]; exact out_none h0 hs 1
    · rw [bN h2, cDs (by decide)]
      refine ⟨_, 0, s, rfl, hs, fun q => absurd rfl q, ?_⟩
      have e : (copyStr (List.replicate (20 : Int).toNat (0 : UInt8)) name).length = 20 := by
        unfold copyStr
        rw [List.length_append, List.length_take, List.length_drop, List.length_replicate, show (20 : Int).toNat = 20 from rfl]; omega
      rw [e]; omega
  rw [bF t8]
  by_cases t11 : r.Type_ = 11
  · rw [bE t11]; exact applyJ s hs f r h0 b hb c _
  · rw [bF t11]; exact applyJ s hs f r h0 b hb c _
/-- only the type, the sector and the room matter -/
theorem apply_same (s : dumbwaiterref20_Store) (f : UInt64) (name : List UInt8) (r q : Req) (h1 : r.Type_ = q.Type_) (h2 : r.Sector = q.Sector) (h3 : r.Room = q.Room) (b : List UInt8) : ref_apply21 s f name r b = ref_apply21 s f name q b := by
  obtain ⟨a1, a2, a3, a4, a5⟩ := r
  obtain ⟨b1, b2, b3, b4, b5⟩ := q
  dsimp only at h1 h2 h3
  subst h1; subst h2; subst h3
  rfl
end Go.Proofs.Ytkmjpgfbcklopaa

end

section
namespace Go.Proofs.Ytkmjpgfbcklopaa
/-- may regions be, from pe on? -/
def okA : Nat → List Region → Bool
  | _, [] => true
  | pe, r :: l => decide (0 < r.Len.toNat ∧ r.At.toNat + r.Len.toNat ≤ 18446744073709551616 ∧ pe ≤ r.At.toNat) && okA (r.At.toNat + r.Len.toNat) l
def sumM : List Region → Nat
  | [] => 0
  | r :: l => r.Len.toNat + sumM l
def goodM (l : List Region) : Prop := l.length ≤ 16 ∧ okA 0 l = true ∧ sumM l ≤ 1048576
def errM (l : List Region) : Int := if l.length > 16 then 2 else two (okA 0 l && Nat.ble (sumM l) 1048576)
theorem errM_zero {l : List Region} : errM l = 0 ↔ goodM l := by
  unfold errM goodM
  by_cases h : l.length > 16
  · rw [if_pos h]; constructor
    · intro q; cases q
    · intro q; omega
  · rw [if_neg h]
    cases h2 : okA 0 l && Nat.ble (sumM l) 1048576 with
    | true =>
      rw [twoP rfl]
      simp only [Bool.and_eq_true, Nat.ble_eq] at h2
      exact ⟨fun _ => ⟨by omega, h2⟩, fun _ => rfl⟩
    | false =>
      rw [twoN rfl]
      constructor
      · intro q; cases q
      · rintro ⟨_, q1, q2⟩
        rw [q1, Bool.true_and] at h2
        rw [show Nat.ble (sumM l) 1048576 = true by rw [Nat.ble_eq]; exact q2] at h2; cases h2
/-- where the one before ends -/
def prevE (l : List Region) : Nat → Nat
  | 0 => 0
  | i + 1 => match l[i]? with | some s => s.At.toNat + s.Len.toNat | none => 0
theorem prevE_succ {l : List Region} {i : Nat} (h : i < l.length) : prevE l (i + 1) = l[i].At.toNat + l[i].Len.toNat := by
  simp only [prevE, getq h]
theorem ble_f {a b : Nat} (h : ¬ a ≤ b) : Nat.ble a b = false := by
  cases e : Nat.ble a b with
  | false => rfl
  | true => exact absurd (Nat.ble_eq ▸ e) h
theorem okA_n {pe : Nat} {r : Region} {l : List Region} {q : Bool} (h : ¬ (0 < r.Len.toNat ∧ r.At.toNat + r.Len.toNat ≤ 18446744073709551616 ∧ pe ≤ r.At.toNat)) : (okA pe (r :: l) && q) = false := by
  simp only [okA]; rw [decide_eq_false h]; rfl
theorem okA_p {pe : Nat} {r : Region} {l : List Region} {q : Bool} (h : 0 < r.Len.toNat ∧ r.At.toNat + r.Len.toNat ≤ 18446744073709551616 ∧ pe ≤ r.At.toNat) : (okA pe (r :: l) && q) = (okA (r.At.toNat + r.Len.toNat) l && q) := by
  simp only [okA]; rw [decide_eq_true h]; rfl
theorem gmemCheckL (l : List Region) (hl : l.length ≤ 16) : ∀ (nf i : Nat) (room : UInt64), i ≤ l.length → l.length - i < nf → (∀ j, j < i → ∀ h : j < l.length, 0 < l[j].Len.toNat ∧ l[j].At.toNat + l[j].Len.toNat ≤ 18446744073709551616) →
    gmem_CheckL1 l nf room (i : Int) = some (two (okA (prevE l i) (l.drop i) && Nat.ble (sumM (l.drop i)) room.toNat))
  | 0, i, room, _, h, _ => by omega
  | nf + 1, i, room, hi, hn, hp => by
    unfold gmem_CheckL1 gmem_CheckL1B
    by_cases h : i < l.length
    · have hd : l.drop i = l[i] :: l.drop (i + 1) := drop_ix h
      have hA := l[i].At.toNat_lt; have hL := l[i].Len.toNat_lt
      rw [bP (by simp only [len]; omega), oS (ix_nat (getq h)), hd]
      by_cases h0 : l[i].Len < 1
      · rw [bP h0, twoN (okA_n (fun q => by have := lt64.1 h0; simp only [UInt64.reduceToNat] at this; omega))]
      · have h0' : 0 < l[i].Len.toNat := by
          rcases Nat.eq_zero_or_pos l[i].Len.toNat with e | e
          · exact absurd (lt64.2 (by rw [e]; decide)) h0
          · exact e
        rw [bN h0]
        by_cases h1 : l[i].Len > room
        · rw [bP h1, twoN]
          rw [ble_f (by simp only [sumM]; have := lt64.1 h1; omega), Bool.and_false]
        · have h1' : l[i].Len.toNat ≤ room.toNat := Nat.le_of_not_lt fun q => h1 (lt64.2 q)
          rw [bN h1]
          have e1 : (l[i].Len - 1).toNat = l[i].Len.toNat - 1 := sub64 (by simp only [UInt64.reduceToNat]; omega)
          have e2 : ((18446744073709551615 : UInt64) - l[i].At).toNat = 18446744073709551615 - l[i].At.toNat := sub64 (by simp only [UInt64.reduceToNat]; omega)
          by_cases h2 : l[i].Len - 1 > (18446744073709551615 : UInt64) - l[i].At
          · rw [bP h2, twoN (okA_n (fun q => by have := lt64.1 h2; rw [e1, e2] at this; omega))]
          · have h2' : l[i].At.toNat + l[i].Len.toNat ≤ 18446744073709551616 := by
              have : ¬ ((18446744073709551615 : UInt64) - l[i].At).toNat < (l[i].Len - 1).toNat := fun q => h2 (lt64.2 q)
              rw [e1, e2] at this; omega
            rw [bN h2]
            have ih := gmemCheckL l hl nf (i + 1) (room - l[i].Len) (by omega) (by omega) (fun j hj hjl => by
              by_cases e : j = i
              · subst e; exact ⟨h0', h2'⟩
              · exact hp j (by omega) hjl)
            rw [prevE_succ h, sub64 h1'] at ih
            have eb : Nat.ble (sumM (l.drop (i + 1))) (room.toNat - l[i].Len.toNat) = Nat.ble (sumM (l[i] :: l.drop (i + 1))) room.toNat := by
              simp only [sumM]
              by_cases z : l[i].Len.toNat + sumM (l.drop (i + 1)) ≤ room.toNat
              · rw [Nat.ble_eq_true_of_le z, Nat.ble_eq_true_of_le (by omega)]
              · rw [ble_f z, ble_f (by omega)]
            rw [eb] at ih
            cases i with
            | zero =>
              rw [bN (by simp), wi_succ (by omega), ih, show prevE l 0 = 0 from rfl, okA_p ⟨h0', h2', Nat.zero_le _⟩]
            | succ j =>
              have hj : j < l.length := by omega
              obtain ⟨p1, p2⟩ := hp j (by omega) hj
              have hA2 := l[j].At.toNat_lt
              rw [bP (by omega), wi_pred (by omega), oS (ix_nat (getq hj)), prevE_succ hj]
              by_cases h3 : l[j + 1].At ≤ l[j].At
              · rw [bP h3, twoN (okA_n (fun q => by have := le64.1 h3; omega))]
              · have h3' : l[j].At.toNat < l[j + 1].At.toNat := Nat.lt_of_not_le fun q => h3 (le64.2 q)
                rw [bN h3]
                have e3 : (l[j + 1].At - l[j].At).toNat = l[j + 1].At.toNat - l[j].At.toNat := sub64 (by omega)
                by_cases h4 : l[j + 1].At - l[j].At < l[j].Len
                · rw [bP h4, twoN (okA_n (fun q => by have := lt64.1 h4; rw [e3] at this; omega))]
                · have h4' : l[j].At.toNat + l[j].Len.toNat ≤ l[j + 1].At.toNat := by
                    have : ¬ (l[j + 1].At - l[j].At).toNat < l[j].Len.toNat := fun q => h4 (lt64.2 q)
                    rw [e3] at this; omega
                  rw [bN h4, wi_succ (by omega), ih, okA_p ⟨h0', h2', h4'⟩]
    · rw [bN (by simp only [len]; omega), List.drop_of_length_le (by omega), twoP (by simp [okA, sumM])]
theorem gmemCheck (l : List Region) : gmem_Check l = some (errM l) := by
  unfold gmem_Check errM
  by_cases h : l.length > 16
  · rw [bP (by simp only [len]; omega), if_pos h]
  · rw [bN (by simp only [len]; omega), if_neg h]
    have := gmemCheckL l (by omega) fuel 0 1048576 (by omega) (by unfold fuel; omega) (fun j hj => by omega)
    exact this
theorem refMCheckL (l : List Region) (hl : l.length ≤ 16) : ∀ (nf i n : Nat), i ≤ l.length → l.length - i < nf → n ≤ 1048576 * i → (∀ j, j < i → ∀ h : j < l.length, 0 < l[j].Len.toNat ∧ l[j].At.toNat + l[j].Len.toNat ≤ 18446744073709551616) →
    ref_Check02L1 l nf (UInt64.ofNat n) (i : Int) = some (two (okA (prevE l i) (l.drop i) && Nat.ble (n + sumM (l.drop i)) 1048576))
  | 0, i, n, _, h, _, _ => by omega
  | nf + 1, i, n, hi, hn, hs, hp => by
    unfold ref_Check02L1 ref_Check02L1B
    by_cases h : i < l.length
    · have hd : l.drop i = l[i] :: l.drop (i + 1) := drop_ix h
      have hA := l[i].At.toNat_lt; have hL := l[i].Len.toNat_lt
      have gi := ix_nat (getq h)
      rw [bP (by simp only [len]; omega), hd]
      simp only [oS gi]
      by_cases h0 : l[i].Len = 0
      · rw [bE h0, twoN (okA_n (fun q => by rw [h0] at q; simp at q))]
      · have h0' : 0 < l[i].Len.toNat := by
          rcases Nat.eq_zero_or_pos l[i].Len.toNat with e | e
          · exact absurd (UInt64.toNat_inj.1 (by simpa using e)) h0
          · exact e
        rw [bF h0]
        by_cases h1 : l[i].Len > 1048576
        · rw [bP h1, twoN]
          rw [ble_f (by simp only [sumM]; have := lt64.1 h1; simp only [UInt64.reduceToNat] at this; omega), Bool.and_false]
        · have h1' : l[i].Len.toNat ≤ 1048576 := Nat.le_of_not_lt fun q => h1 (lt64.2 (by simpa using q))
          rw [bN h1]
          have e1 : (l[i].Len - 1).toNat = l[i].Len.toNat - 1 := sub64 (by simp only [UInt64.reduceToNat]; omega)
          by_cases h2 : l[i].At + (l[i].Len - 1) < l[i].At
          · rw [bP h2, twoN (okA_n (fun q => by have := lt64.1 h2; rw [UInt64.toNat_add, e1] at this; omega))]
          · have h2' : l[i].At.toNat + l[i].Len.toNat ≤ 18446744073709551616 := by
              have : ¬ (l[i].At + (l[i].Len - 1)).toNat < l[i].At.toNat := fun q => h2 (lt64.2 q)
              rw [UInt64.toNat_add, e1] at this; omega
            rw [bN h2]
            have ih := refMCheckL l hl nf (i + 1) (n + l[i].Len.toNat) (by omega) (by omega) (by omega) (fun j hj hjl => by
              by_cases e : j = i
              · subst e; exact ⟨h0', h2'⟩
              · exact hp j (by omega) hjl)
            have ea : UInt64.ofNat n + l[i].Len = UInt64.ofNat (n + l[i].Len.toNat) := by rw [UInt64.ofNat_add]; congr 1; simp
            rw [prevE_succ h, Nat.add_assoc] at ih
            cases i with
            | zero =>
              rw [bN (by simp), wi_succ (by omega), ea, ih, show prevE l 0 = 0 from rfl, okA_p ⟨h0', h2', Nat.zero_le _⟩]; rfl
            | succ j =>
              have hj : j < l.length := by omega
              obtain ⟨p1, p2⟩ := hp j (by omega) hj
              have gj := ix_nat (getq hj)
              have e3 : (l[j].Len - 1).toNat = l[j].Len.toNat - 1 := sub64 (by simp only [UInt64.reduceToNat]; omega)
              have e4 : (l[j].At + (l[j].Len - 1)).toNat = l[j].At.toNat + l[j].Len.toNat - 1 := by rw [UInt64.toNat_add, e3]; omega
              rw [bP (by omega), wi_pred (by omega)]
              simp only [oS gj]
              rw [prevE_succ hj]
              by_cases h3 : l[j + 1].At ≤ l[j].At + (l[j].Len - 1)
              · rw [bP h3, twoN (okA_n (fun q => by have := le64.1 h3; rw [e4] at this; omega))]
              · have h3' : l[j].At.toNat + l[j].Len.toNat ≤ l[j + 1].At.toNat := by
                  have : ¬ l[j + 1].At.toNat ≤ (l[j].At + (l[j].Len - 1)).toNat := fun q => h3 (le64.2 q)
                  rw [e4] at this; omega
                rw [bN h3, wi_succ (by omega), ea, ih, okA_p ⟨h0', h2', h3'⟩]; rfl
    · rw [bN (by simp only [len]; omega), List.drop_of_length_le (by omega)]
      simp only [sumM, okA, Bool.true_and, Nat.add_zero]
      by_cases q : n ≤ 1048576
      · rw [bN (fun z => by have := lt64.1 z; rw [UInt64.toNat_ofNat'] at this; simp only [UInt64.reduceToNat] at this; omega), twoP (Nat.ble_eq_true_of_le q)]
      · rw [bP (by rw [GT.gt, lt64, UInt64.toNat_ofNat']; simp only [UInt64.reduceToNat]; omega), twoN (ble_f q)]
theorem refMCheck (l : List Region) : ref_Check02 l = some (errM l) := by
  unfold ref_Check02 errM
  by_cases h : l.length > 16
  · rw [bP (by simp only [len]; omega), if_pos h]
  · rw [bN (by simp only [len]; omega), if_neg h]
    have := refMCheckL l (by omega) fuel 0 0 (by omega) (by unfold fuel; omega) (by omega) (fun j hj => by omega)
    rw [Nat.zero_add] at this; exact this
theorem errM_good {l : List Region} (h : goodM l) : errM l = 0 := errM_zero.2 h
def zer (l : List Region) : List (List UInt8) := l.map fun r => List.replicate r.Len.toNat 0
theorem sumM_get : ∀ {l : List Region} {i : Nat} (h : i < l.length), l[i].Len.toNat ≤ sumM l
  | [], i, h => by simp at h
  | r :: l, 0, _ => by simp [sumM]
  | r :: l, i + 1, h => by
    have := sumM_get (l := l) (i := i) (by simpa using h)
    simp only [sumM, List.getElem_cons_succ]; omega
theorem gmemNewL (l reg : List Region) (hl : l.length ≤ 16) (hs : sumM l ≤ 1048576) : ∀ (nf i : Nat), i ≤ l.length → l.length - i < nf → gmem_NewL1 l reg nf ((zer l).take i ++ List.replicate (l.length - i) []) (i : Int) = some (some ⟨reg, zer l⟩, 0)
  | 0, i, _, h => by omega
  | nf + 1, i, hi, hn => by
    have hz : (zer l).length = l.length := by simp [zer]
    unfold gmem_NewL1 gmem_NewL1B
    by_cases h : i < l.length
    · have hL := sumM_get h
      rw [bP (by simp only [len]; omega), oS (ix_nat (getq h)), cP (by omega)]
      have hlt : i < ((zer l).take i ++ List.replicate (l.length - i) []).length := by simp [hz]; omega
      rw [oS (ix_nat (getq hlt)), wi_succ (by omega)]
      have e : ((zer l).take i ++ List.replicate (l.length - i) []).set (Int.toNat (i : Int)) (List.replicate (Int.toNat (l[i].Len.toNat : Int)) 0) = (zer l).take (i + 1) ++ List.replicate (l.length - (i + 1)) [] := by
        rw [Int.toNat_natCast, Int.toNat_natCast, List.set_append_right _ _ (by simp; omega)]
        have e1 : i - ((zer l).take i).length = 0 := by simp [hz]; omega
        rw [e1, show l.length - i = (l.length - (i + 1)) + 1 by omega, List.replicate_succ, List.set_cons_zero, List.take_add_one, getq (by omega : i < (zer l).length)]
        simp [zer]
      rw [e]
      exact gmemNewL l reg hl hs nf (i + 1) (by omega) (by omega)
    · have e : i = l.length := by omega
      rw [bN (by simp only [len]; omega), e, Nat.sub_self, List.take_of_length_le (by omega)]
      simp
theorem new_ok {l : List Region} (h : goodM l) : gmem_New l = some (some ⟨l, zer l⟩, 0) := by
  have hl := h.1
  unfold gmem_New
  rw [oS (gmemCheck l), nE (errM_good h)]
  have hc : slices_Clone_apiRegionapiRegion l = some l := by unfold slices_Clone_apiRegionapiRegion; rw [cFits (by simp; omega)]
  rw [oS hc, cP (by simp only [len]; rw [wi_in (by omega) (by omega)]; omega)]
  have := gmemNewL l l hl h.2.2 fuel 0 (by omega) (by unfold fuel; omega)
  rw [List.take_zero, List.nil_append, Nat.sub_zero] at this
  exact this
theorem refNewL (l reg : List Region) (hl : l.length ≤ 16) (hs : sumM l ≤ 1048576) : ∀ (nf i : Nat), i ≤ l.length → l.length - i < nf → ref_New02L1 l nf reg ((zer l).take i) (i : Int) = some (some ⟨reg, zer l⟩, 0)
  | 0, i, _, h => by omega
  | nf + 1, i, hi, hn => by
    have hz : (zer l).length = l.length := by simp [zer]
    unfold ref_New02L1 ref_New02L1B
    by_cases h : i < l.length
    · have hL := sumM_get h
      rw [bP (by simp only [len]; omega), oS (ix_nat (getq h)), cP (by omega), cFits (by simp [hz]; omega), wi_succ (by omega)]
      have e : (zer l).take i ++ [List.replicate (Int.toNat (l[i].Len.toNat : Int)) 0] = (zer l).take (i + 1) := by
        rw [Int.toNat_natCast, List.take_add_one, getq (by omega : i < (zer l).length)]
        simp [zer]
      rw [e]
      exact refNewL l reg hl hs nf (i + 1) (by omega) (by omega)
    · rw [bN (by simp only [len]; omega), List.take_of_length_le (by omega)]
theorem rnew_ok {l : List Region} (h : goodM l) : ref_New02 l = some (some ⟨l, zer l⟩, 0) := by
  have hl := h.1
  unfold ref_New02
  rw [oS (refMCheck l), nE (errM_good h), cFits (by simp; omega)]
  have := refNewL l l hl h.2.2 fuel 0 (by omega) (by unfold fuel; omega)
  rw [List.take_zero] at this
  exact this
/-- where n bytes from a on lie: the region -/
def inR (a n : Nat) (r : Region) : Bool := decide (r.At.toNat ≤ a ∧ a + n ≤ r.At.toNat + r.Len.toNat)
def findR (l : List Region) (a n : Nat) : Option Nat := if n = 0 then none else l.findIdx? (inR a n)
/-- a memory as it is made and kept -/
def memOk (l : List Region) (b : List (List UInt8)) : Prop := goodM l ∧ b.length = l.length ∧ ∀ (i : Nat) (r : Region) (x : List UInt8), l[i]? = some r → b[i]? = some x → x.length = r.Len.toNat
theorem okA_get : ∀ {pe : Nat} {l : List Region}, okA pe l = true → ∀ {i : Nat} (h : i < l.length), pe ≤ l[i].At.toNat ∧ 0 < l[i].Len.toNat ∧ l[i].At.toNat + l[i].Len.toNat ≤ 18446744073709551616
  | pe, [], _, i, h => by simp at h
  | pe, r :: l, hk, 0, _ => by
    simp only [okA, Bool.and_eq_true, decide_eq_true_eq] at hk
    exact ⟨hk.1.2.2, hk.1.1, hk.1.2.1⟩
  | pe, r :: l, hk, i + 1, h => by
    simp only [okA, Bool.and_eq_true, decide_eq_true_eq] at hk
    have := okA_get hk.2 (i := i) (by simpa using h)
    simp only [List.getElem_cons_succ]
    exact ⟨by omega, this.2⟩
theorem okA_lt : ∀ {pe : Nat} {l : List Region}, okA pe l = true → ∀ {i j : Nat} (hij : i < j) (h : j < l.length), l[i].At.toNat + l[i].Len.toNat ≤ l[j].At.toNat
  | pe, [], _, i, j, _, h => by simp at h
  | pe, r :: l, hk, 0, j + 1, _, h => by
    simp only [okA, Bool.and_eq_true, decide_eq_true_eq] at hk
    exact (okA_get hk.2 (i := j) (by simpa using h)).1
  | pe, r :: l, hk, i + 1, j + 1, hij, h => by
    simp only [okA, Bool.and_eq_true, decide_eq_true_eq] at hk
    exact okA_lt hk.2 (i := i) (j := j) (by omega) (by simpa using h)
  | pe, r :: l, hk, 0, 0, hij, h => by omega
  | pe, r :: l, hk, i + 1, 0, hij, h => by omega
theorem mid_eq {i j : Nat} (hi : i ≤ j) (hj : j ≤ 16) : i64 (shr64 (u64 (wi ((i : Int) + (j : Int)))) ((1 : UInt64).toNat)) = (((i + j) / 2 : Nat) : Int) := by
  rw [wi_in (by omega) (by omega), show ((i : Int) + (j : Int)) = ((i + j : Nat) : Int) by omega, u64_of]
  have : ∀ n, n ≤ 32 → i64 (shr64 (UInt64.ofNat n) ((1 : UInt64).toNat)) = ((n / 2 : Nat) : Int) := by decide +kernel
  exact this _ (by omega)
theorem end_eq {r : Region} (h : 0 < r.Len.toNat ∧ r.At.toNat + r.Len.toNat ≤ 18446744073709551616) (a : UInt64) : ((r.Len - 1 + r.At) ≥ a) ↔ a.toNat < r.At.toNat + r.Len.toNat := by
  have e1 : (r.Len - 1).toNat = r.Len.toNat - 1 := sub64 (by simp only [UInt64.reduceToNat]; omega)
  have e2 : (r.Len - 1 + r.At).toNat = r.At.toNat + r.Len.toNat - 1 := by rw [UInt64.toNat_add, e1]; omega
  rw [GE.ge, le64, e2]; omega
theorem searchL (m : gmem_Mem) (hg : goodM m.l) (a : UInt64) : ∀ (nf i j : Nat), i ≤ j → j ≤ m.l.length → j - i < nf → (∀ k (h : k < m.l.length), k < i → m.l[k].At.toNat + m.l[k].Len.toNat ≤ a.toNat) → (∀ k (h : k < m.l.length), j ≤ k → a.toNat < m.l[k].At.toNat + m.l[k].Len.toNat) →
    ∃ s : Nat, sort_SearchFgmem_Mem_bytes_1L1 m a nf (i : Int) (j : Int) = some (s : Int) ∧ s ≤ m.l.length ∧ (∀ k (h : k < m.l.length), k < s → m.l[k].At.toNat + m.l[k].Len.toNat ≤ a.toNat) ∧ (∀ k (h : k < m.l.length), s ≤ k → a.toNat < m.l[k].At.toNat + m.l[k].Len.toNat)
  | 0, i, j, _, _, h, _, _ => by omega
  | nf + 1, i, j, hij, hj, hn, hlo, hhi => by
    have hl := hg.1
    unfold sort_SearchFgmem_Mem_bytes_1L1 sort_SearchFgmem_Mem_bytes_1L1B
    by_cases h : i < j
    · rw [bP (by omega), mid_eq hij (by omega)]
      have hm : (i + j) / 2 < m.l.length := by omega
      have gm := ix_nat (getq hm)
      have hb : gmem_Mem_bytes_1 (((i + j) / 2 : Nat) : Int) m a = some (decide ((m.l[(i + j) / 2].Len - 1 + m.l[(i + j) / 2].At) ≥ a)) := by
        unfold gmem_Mem_bytes_1; simp only [oS gm]
      have og := okA_get hg.2.1 hm
      rw [oS hb]
      by_cases hc : a.toNat < m.l[(i + j) / 2].At.toNat + m.l[(i + j) / 2].Len.toNat
      · rw [decide_eq_true ((end_eq og.2 a).2 hc), bFl (show (!true) = false from rfl)]
        refine searchL m hg a nf i ((i + j) / 2) (by omega) (by omega) (by omega) hlo (fun k hk hjk => ?_)
        by_cases e : k = (i + j) / 2
        · subst e; exact hc
        · have := okA_lt hg.2.1 (i := (i + j) / 2) (j := k) (by omega) hk
          omega
      · rw [decide_eq_false (fun q => hc ((end_eq og.2 a).1 q)), bT (show (!false) = true from rfl), wi_succ (by omega)]
        refine searchL m hg a nf ((i + j) / 2 + 1) j (by omega) (by omega) (by omega) (fun k hk hki => ?_) hhi
        by_cases e : k = (i + j) / 2
        · subst e; omega
        · have h1 := okA_lt hg.2.1 (i := k) (j := (i + j) / 2) (by omega) hm
          have h2 := okA_get hg.2.1 hm
          omega
    · have e : i = j := by omega
      subst e
      rw [bN (by omega)]
      exact ⟨i, rfl, hj, hlo, hhi⟩
theorem findR_some {l : List Region} {a n i : Nat} (hk : okA 0 l = true) (hn : 0 < n) (h : i < l.length) (h1 : l[i].At.toNat ≤ a) (h2 : a + n ≤ l[i].At.toNat + l[i].Len.toNat) : findR l a n = some i := by
  unfold findR
  rw [if_neg (by omega), List.findIdx?_eq_some_iff_getElem]
  refine ⟨h, by simp [inR, h1, h2], fun j hj => ?_⟩
  have := okA_lt hk hj h
  simp [inR]; omega
theorem findR_none {l : List Region} {a n : Nat} (h : ∀ (i : Nat) (hi : i < l.length), l[i].At.toNat ≤ a → ¬ a + n ≤ l[i].At.toNat + l[i].Len.toNat) : findR l a n = none := by
  unfold findR
  by_cases h0 : n = 0
  · rw [if_pos h0]
  · rw [if_neg h0, List.findIdx?_eq_none_iff]
    intro r hr
    obtain ⟨i, hi, rfl⟩ := List.mem_iff_getElem.1 hr
    have := h i hi
    simp only [inR, decide_eq_false_iff_not]; omega
/-- what 'bytes' hands out -/
def winR (l : List Region) (a n : Nat) : Option (Int × Int × Int) := match findR l a n with
  | none => none
  | some i => match l[i]? with | none => none | some r => some ((i : Int), ((a - r.At.toNat : Nat) : Int), ((a - r.At.toNat + n : Nat) : Int))
theorem bytes_eq (m : gmem_Mem) (hm : memOk m.l m.b) (a n : UInt64) : gmem_Mem_bytes m a n = some (winR m.l a.toNat n.toNat) := by
  obtain ⟨hg, hlen, hrow⟩ := hm
  have ha := a.toNat_lt; have hnb := n.toNat_lt
  unfold gmem_Mem_bytes winR
  by_cases h0 : n < 1
  · have : n.toNat = 0 := by have := lt64.1 h0; simp only [UInt64.reduceToNat] at this; omega
    rw [bP h0, show findR m.l a.toNat n.toNat = none by simp [findR, this]]
  · have hn : 0 < n.toNat := by
      rcases Nat.eq_zero_or_pos n.toNat with e | e
      · exact absurd (lt64.2 (by rw [e]; decide)) h0
      · exact e
    rw [bN h0]
    obtain ⟨s, hs, hsl, hlo, hhi⟩ := searchL m hg a fuel 0 m.l.length (by omega) (by omega) (by have := hg.1; unfold fuel; omega) (fun k hk h => by omega) (fun k hk h => by omega)
    have hsrch : sort_SearchFgmem_Mem_bytes_1 (len m.l) m a = some (s : Int) := by unfold sort_SearchFgmem_Mem_bytes_1; exact hs
    rw [oS hsrch]
    by_cases e : s = m.l.length
    · rw [bE (by simp only [len]; omega), findR_none (fun i hi h1 => by have := hlo i hi (by omega); omega)]
    · have hslt : s < m.l.length := by omega
      have og := okA_get hg.2.1 hslt
      have hh := hhi s hslt (Nat.le_refl _)
      have gi := ix_nat (getq hslt)
      rw [bF (by simp only [len]; omega)]
      simp only [oS gi]
      by_cases h2 : a < m.l[s].At
      · have h2' := lt64.1 h2
        rw [bP h2, findR_none (fun i hi h1 => by
          rcases Nat.lt_trichotomy i s with q | q | q
          · have := hlo i hi q; omega
          · subst q; omega
          · have := okA_lt hg.2.1 q hi; omega)]
      · have h2' : m.l[s].At.toNat ≤ a.toNat := Nat.le_of_not_lt fun q => h2 (lt64.2 q)
        have e1 : (a - m.l[s].At).toNat = a.toNat - m.l[s].At.toNat := sub64 h2'
        have e2 : (m.l[s].Len - (a - m.l[s].At)).toNat = m.l[s].Len.toNat - (a.toNat - m.l[s].At.toNat) := by rw [sub64 (by rw [e1]; omega), e1]
        rw [bN h2]
        by_cases h3 : n > m.l[s].Len - (a - m.l[s].At)
        · have h3' := lt64.1 h3
          rw [e2] at h3'
          rw [bP h3, findR_none (fun i hi h1 => by
            rcases Nat.lt_trichotomy i s with q | q | q
            · have := hlo i hi q; omega
            · subst q; omega
            · have := okA_lt hg.2.1 q hi; omega)]
        · have h3' : n.toNat ≤ m.l[s].Len.toNat - (a.toNat - m.l[s].At.toNat) := by
            rw [← e2]; exact Nat.le_of_not_lt fun q => h3 (lt64.2 q)
          have hb : s < m.b.length := by omega
          have hr := hrow s _ _ (getq hslt) (getq hb)
          have hL := m.l[s].Len.toNat_lt
          have e4 : (a - m.l[s].At + n).toNat = a.toNat - m.l[s].At.toNat + n.toNat := by rw [UInt64.toNat_add, e1]; omega
          rw [bN h3, oS (ix_nat (getq hb)), e1, e4, cP (by simp only [len]; omega), findR_some hg.2.1 hn hslt h2' (by omega)]
          simp only [getq hslt]
/-- what is found is there -/
theorem findR_in {l : List Region} {a n i : Nat} (h : findR l a n = some i) : ∃ (hi : i < l.length), 0 < n ∧ l[i].At.toNat ≤ a ∧ a + n ≤ l[i].At.toNat + l[i].Len.toNat := by
  unfold findR at h
  by_cases h0 : n = 0
  · rw [if_pos h0] at h; cases h
  · rw [if_neg h0, List.findIdx?_eq_some_iff_getElem] at h
    obtain ⟨hi, h1, _⟩ := h
    simp only [inR, decide_eq_true_eq] at h1
    exact ⟨hi, by omega, h1.1, h1.2⟩
theorem has_eq (m : gmem_Mem) (hm : memOk m.l m.b) (a n : UInt64) : gmem_Mem_Has m a n = some (findR m.l a.toNat n.toNat).isSome := by
  unfold gmem_Mem_Has
  rw [oS (show gmem_Mem_made m = some true from rfl), oS (bytes_eq m hm a n)]
  unfold winR
  cases hf : findR m.l a.toNat n.toNat with
  | none => rfl
  | some i =>
    obtain ⟨hi, h0, h1, h2⟩ := findR_in hf
    have hb : i < m.b.length := by rw [hm.2.1]; exact hi
    have hr := hm.2.2 i _ _ (getq hi) (getq hb)
    simp only [getq hi]
    rw [onS]
    dsimp only
    rw [oS (ix_nat (getq hb)), cP (by simp only [len]; omega), cP (by omega)]
    rfl
/-- the n bytes from a on -/
def readR (l : List Region) (b : List (List UInt8)) (a n : Nat) : Option (List UInt8) := match findR l a n with
  | none => none
  | some i => match l[i]?, b[i]? with | some r, some x => some ((x.drop (a - r.At.toNat)).take n) | _, _ => none
theorem read_eqM (m : gmem_Mem) (hm : memOk m.l m.b) (a : UInt64) (n : Int) (hn : n ≤ 140737488355328) : gmem_Mem_Read m a n = some (if n < 0 then (([] : List UInt8), (2 : Int)) else if n = 0 then ([], 0) else match readR m.l m.b a.toNat n.toNat with | none => ([], 5) | some x => (x, 0)) := by
  unfold gmem_Mem_Read
  rw [oS (show gmem_Mem_made m = some true from rfl)]
  by_cases h0 : n < 0
  · rw [bP h0, if_pos h0]
  · rw [bN h0, if_neg h0]
    by_cases h1 : n = 0
    · rw [bE h1, if_pos h1]
    · obtain ⟨k, rfl⟩ : ∃ k : Nat, n = (k : Int) := ⟨n.toNat, by omega⟩
      rw [bF h1, if_neg h1, u64_of, oS (bytes_eq m hm a _), UInt64.toNat_ofNat', Nat.mod_eq_of_lt (by omega), Int.toNat_natCast]
      unfold winR readR
      cases hf : findR m.l a.toNat k with
      | none => rfl
      | some i =>
        obtain ⟨hi, q0, q1, q2⟩ := findR_in hf
        have hb : i < m.b.length := by rw [hm.2.1]; exact hi
        have hr := hm.2.2 i _ _ (getq hi) (getq hb)
        simp only [getq hi, getq hb]
        have hs : sub m.b[i] ((a.toNat - m.l[i].At.toNat : Nat) : Int) ((a.toNat - m.l[i].At.toNat + k : Nat) : Int) = (m.b[i].drop (a.toNat - m.l[i].At.toNat)).take k := by
          rw [sub_nat]; congr 1; omega
        rw [onS]
        dsimp only
        rw [oS (ix_nat (getq hb)), cP (by simp only [len]; omega), cP (by omega), hs]
        have hc : ∀ x : List UInt8, x.length ≤ k → slices_Clone_bytebyte x = some x := fun x hx => by unfold slices_Clone_bytebyte; rw [cFits (by simp; omega)]
        rw [oS (hc _ (by simp; omega))]
theorem find_eqL (m : dumbwaiterref02_Mem) (hm : memOk m.L m.B) (a n : UInt64) : ∀ (nf i : Nat), i ≤ m.L.length → m.L.length - i < nf → (∀ j (h : j < m.L.length), j < i → ¬ (n.toNat ≠ 0 ∧ inR a.toNat n.toNat m.L[j] = true)) →
    ref_Mem_find02L1 m a n nf (i : Int) = some (match findR m.L a.toNat n.toNat with | none => (-1, 0) | some k => ((k : Int), match m.L[k]? with | none => 0 | some r => ((a.toNat - r.At.toNat : Nat) : Int)))
  | 0, i, _, h, _ => by omega
  | nf + 1, i, hi, hn, hp => by
    have ha := a.toNat_lt
    have hl := hm.1.1
    unfold ref_Mem_find02L1 ref_Mem_find02L1B
    by_cases h : i < m.L.length
    · have og := okA_get hm.1.2.1 h
      have hAl := m.L[i].At.toNat_lt
      have hsum := sumM_get h
      have hsm := hm.1.2.2
      rw [bP (by simp only [len]; omega), oS (ix_nat (getq h)), wi_succ (by omega)]
      have next : ¬ (n.toNat ≠ 0 ∧ inR a.toNat n.toNat m.L[i] = true) → ref_Mem_find02L1 m a n nf ((i + 1 : Nat) : Int) = some (match findR m.L a.toNat n.toNat with | none => (-1, 0) | some k => ((k : Int), match m.L[k]? with | none => 0 | some r => ((a.toNat - r.At.toNat : Nat) : Int))) := fun q =>
        find_eqL m hm a n nf (i + 1) (by omega) (by omega) (fun j hj hji => by
          by_cases e : j = i
          · subst e; exact q
          · exact hp j hj (by omega))
      by_cases h1 : n ≥ 1
      · have h1' : 0 < n.toNat := by have := le64.1 h1; simp only [UInt64.reduceToNat] at this; omega
        rw [bP h1]
        by_cases h2 : a ≥ m.L[i].At
        · have h2' := le64.1 h2
          rw [bP h2]
          by_cases h3 : n ≤ m.L[i].Len
          · have h3' := le64.1 h3
            have e1 : (a - m.L[i].At).toNat = a.toNat - m.L[i].At.toNat := sub64 h2'
            have e2 : (m.L[i].Len - n).toNat = m.L[i].Len.toNat - n.toNat := sub64 h3'
            rw [bP h3]
            by_cases h4 : a - m.L[i].At ≤ m.L[i].Len - n
            · have h4' := le64.1 h4
              rw [e1, e2] at h4'
              rw [bP h4, findR_some hm.1.2.1 h1' h h2' (by omega), i64_of (by rw [e1]; omega), e1]
              simp only [getq h]
            · have h4' : ¬ a.toNat - m.L[i].At.toNat ≤ m.L[i].Len.toNat - n.toNat := by rw [← e1, ← e2]; exact fun q => h4 (le64.2 q)
              rw [bN h4]; exact next (fun q => by have := q.2; simp only [inR, decide_eq_true_eq] at this; omega)
          · have h3' : ¬ n.toNat ≤ m.L[i].Len.toNat := fun q => h3 (le64.2 q)
            rw [bN h3]; exact next (fun q => by have := q.2; simp only [inR, decide_eq_true_eq] at this; omega)
        · have h2' : ¬ m.L[i].At.toNat ≤ a.toNat := fun q => h2 (le64.2 q)
          rw [bN h2]; exact next (fun q => by have := q.2; simp only [inR, decide_eq_true_eq] at this; omega)
      · rw [bN h1]; exact next (fun q => h1 (le64.2 (by simp only [UInt64.reduceToNat]; omega)))
    · have hfn : findR m.L a.toNat n.toNat = none := by
        by_cases q : n.toNat = 0
        · simp [findR, q]
        · exact findR_none (fun j hj h1 h2 => hp j hj (by omega) ⟨q, by simp [inR, h1, h2]⟩)
      rw [bN (by simp only [len]; omega), hfn]
theorem find_eq (m : dumbwaiterref02_Mem) (hm : memOk m.L m.B) (a n : UInt64) : ref_Mem_find02 m a n = some (match findR m.L a.toNat n.toNat with | none => (-1, 0) | some k => ((k : Int), match m.L[k]? with | none => 0 | some r => ((a.toNat - r.At.toNat : Nat) : Int))) := by
  unfold ref_Mem_find02
  have hl := hm.1.1
  exact find_eqL m hm a n fuel 0 (by omega) (by unfold fuel; omega) (fun j _ h => by omega)
/-- xs laid at a -/
def writeR (l : List Region) (b : List (List UInt8)) (a : Nat) (xs : List UInt8) : Option (List (List UInt8)) := match findR l a xs.length with
  | none => none
  | some i => match l[i]?, b[i]? with | some r, some x => some (b.set i (x.take (a - r.At.toNat) ++ xs ++ x.drop (a - r.At.toNat + xs.length))) | _, _ => none
theorem copyAt_all {x xs : List UInt8} {o m : Nat} (h : o + xs.length ≤ m) : copyAt x (o : Int) (m : Int) xs = x.take o ++ xs ++ x.drop (o + xs.length) := by
  unfold copyAt
  simp only [Int.toNat_natCast]
  rw [show xs.take (m - o) = xs from List.take_of_length_le (by omega), Nat.min_eq_left (by omega)]
theorem write_eqM (m : gmem_Mem) (hm : memOk m.l m.b) (a : UInt64) (xs : List UInt8) (hn : xs.length ≤ 140737488355328) : gmem_Mem_Write m a xs = some (if xs = [] then ((0 : Int), m.b) else match writeR m.l m.b a.toNat xs with | none => (5, m.b) | some b => (0, b)) := by
  unfold gmem_Mem_Write
  rw [oS (show gmem_Mem_made m = some true from rfl)]
  by_cases h1 : xs = []
  · rw [bE (by rw [h1]; rfl), if_pos h1]
  · have hl : 0 < xs.length := List.length_pos_iff.2 h1
    rw [bF (by simp only [len]; omega), if_neg h1, show len xs = ((xs.length : Nat) : Int) from rfl, u64_of, oS (bytes_eq m hm a _), UInt64.toNat_ofNat', Nat.mod_eq_of_lt (by omega)]
    unfold winR writeR
    cases hf : findR m.l a.toNat xs.length with
    | none => rfl
    | some i =>
      obtain ⟨hi, q0, q1, q2⟩ := findR_in hf
      have hb : i < m.b.length := by rw [hm.2.1]; exact hi
      have hr := hm.2.2 i _ _ (getq hi) (getq hb)
      simp only [getq hi, getq hb]
      rw [onS]
      dsimp only
      rw [oS (ix_nat (getq hb)), cP (by simp only [len]; omega), cP (by omega), copyAt_all (by omega), Int.toNat_natCast]
theorem write_ok {l : List Region} {b b' : List (List UInt8)} {a : Nat} {xs : List UInt8} (hm : memOk l b) (h : writeR l b a xs = some b') : memOk l b' := by
  unfold writeR at h
  cases hf : findR l a xs.length with
  | none => rw [hf] at h; cases h
  | some i =>
    obtain ⟨hi, q0, q1, q2⟩ := findR_in hf
    have hb : i < b.length := by rw [hm.2.1]; exact hi
    have hr := hm.2.2 i _ _ (getq hi) (getq hb)
    rw [hf] at h
    simp only [getq hi, getq hb, Option.some.injEq] at h
    subst h
    refine ⟨hm.1, by simpa using hm.2.1, fun j r x h1 h2 => ?_⟩
    by_cases e : j = i
    · subst e
      rw [List.getElem?_set_self hb] at h2
      rw [getq hi] at h1; cases h1; cases h2
      simp only [List.length_append, List.length_take, List.length_drop]; omega
    · rw [List.getElem?_set_ne (fun q => e q.symm)] at h2
      exact hm.2.2 j r x h1 h2
theorem rwrite_eq (m : dumbwaiterref02_Mem) (hm : memOk m.L m.B) (a : UInt64) (xs : List UInt8) (hn : xs.length ≤ 140737488355328) : ref_Mem_Write02 m a xs = some (if xs = [] then ((0 : Int), m.B) else match writeR m.L m.B a.toNat xs with | none => (5, m.B) | some b => (0, b)) := by
  unfold ref_Mem_Write02
  by_cases h1 : xs = []
  · rw [bE (by rw [h1]; rfl), if_pos h1]
  · have hl : 0 < xs.length := List.length_pos_iff.2 h1
    rw [bF (by simp only [len]; omega), if_neg h1, show len xs = ((xs.length : Nat) : Int) from rfl, u64_of, oS (find_eq m hm a _), UInt64.toNat_ofNat', Nat.mod_eq_of_lt (by omega)]
    unfold writeR
    cases hf : findR m.L a.toNat xs.length with
    | none => rfl
    | some i =>
      obtain ⟨hi, q0, q1, q2⟩ := findR_in hf
      have hb : i < m.B.length := by rw [hm.2.1]; exact hi
      have hr := hm.2.2 i _ _ (getq hi) (getq hb)
      simp only [getq hi, getq hb]
      rw [bN (by omega), oS (ix_nat (getq hb)), cP (by simp only [len]; omega), show len m.B[i] = ((m.B[i].length : Nat) : Int) from rfl, copyAt_all (by omega), Int.toNat_natCast]
theorem rread_eq (m : dumbwaiterref02_Mem) (hm : memOk m.L m.B) (a : UInt64) (n : Int) (hn : n ≤ 140737488355328) : ref_Mem_Read02 m a n = some (if n < 0 then (([] : List UInt8), (2 : Int)) else if n = 0 then ([], 0) else match readR m.L m.B a.toNat n.toNat with | none => ([], 5) | some x => (x, 0)) := by
  unfold ref_Mem_Read02
  by_cases h0 : n < 0
  · rw [bP h0, if_pos h0]
  · rw [bN h0, if_neg h0]
    by_cases h1 : n = 0
    · rw [bE h1, if_pos h1]
    · obtain ⟨k, rfl⟩ : ∃ k : Nat, n = (k : Int) := ⟨n.toNat, by omega⟩
      rw [bF h1, if_neg h1, u64_of, oS (find_eq m hm a _), UInt64.toNat_ofNat', Nat.mod_eq_of_lt (by omega), Int.toNat_natCast]
      unfold readR
      cases hf : findR m.L a.toNat k with
      | none => rfl
      | some i =>
        obtain ⟨hi, q0, q1, q2⟩ := findR_in hf
        have hb : i < m.B.length := by rw [hm.2.1]; exact hi
        have hr := hm.2.2 i _ _ (getq hi) (getq hb)
        have hsum := sumM_get hi
        have hsm := hm.1.2.2
        simp only [getq hi, getq hb]
        have hs : sub m.B[i] ((a.toNat - m.L[i].At.toNat : Nat) : Int) ((a.toNat - m.L[i].At.toNat + k : Nat) : Int) = (m.B[i].drop (a.toNat - m.L[i].At.toNat)).take k := by
          rw [sub_nat]; congr 1; omega
        have hw : wi (((a.toNat - m.L[i].At.toNat : Nat) : Int) + (k : Int)) = ((a.toNat - m.L[i].At.toNat + k : Nat) : Int) := by rw [wi_in (by omega) (by omega)]; omega
        rw [bN (by omega), oS (ix_nat (getq hb)), hw, cP (by simp only [len]; omega), hs, cFits (by simp; omega)]
theorem rhas_eq (m : dumbwaiterref02_Mem) (hm : memOk m.L m.B) (a n : UInt64) : ref_Mem_Has02 m a n = some (findR m.L a.toNat n.toNat).isSome := by
  unfold ref_Mem_Has02
  rw [oS (find_eq m hm a n)]
  cases hf : findR m.L a.toNat n.toNat with
  | none => rfl
  | some i =>
    obtain ⟨hi, q0, q1, q2⟩ := findR_in hf
    simp only [getq hi]
    rw [decide_eq_true (by omega)]; rfl
def lenR (b : List (List UInt8)) : Nat := b.flatten.length
theorem lenR_cons (x : List UInt8) (b : List (List UInt8)) : lenR (x :: b) = x.length + lenR b := by simp [lenR]
theorem grow_eq (n : Nat) (h : n ≤ 140737488355328) : slices_Grow_bytebyten0 (n : Int) = some [] := by
  unfold slices_Grow_bytebyten0 slices_Grow_bytebyten0J1
  have e : wi ((n : Int) - wi ((0 : Int) - 0)) = (n : Int) := by rw [show wi ((0 : Int) - 0) = 0 from rfl, wi_in (by omega) (by omega)]; omega
  rw [cN (by omega), e]
  by_cases q : (n : Int) > 0
  · rw [bP q, cP (by omega), cP (by simp only [len]; omega)]; rfl
  · rw [bN q]
theorem concat4 (b : List (List UInt8)) (hl : b.length ≤ 1000000) (hs : lenR b ≤ 100000000000000) : ∀ (nf i : Nat), i ≤ b.length → b.length - i < nf → slices_Concat_bytebyteL4 b nf (b.take i).flatten (i : Int) = some b.flatten
  | 0, i, _, h => by omega
  | nf + 1, i, hi, hn => by
    unfold slices_Concat_bytebyteL4 slices_Concat_bytebyteL4B
    by_cases h : i < b.length
    · have e : (b.take i).flatten ++ b[i] = (b.take (i + 1)).flatten := by
        rw [List.take_add_one, getq h, List.flatten_append]; simp
      have hle : ((b.take i).flatten ++ b[i]).length ≤ b.flatten.length := by
        rw [e]
        conv => rhs; rw [← List.take_append_drop (i + 1) b, List.flatten_append, List.length_append]
        omega
      rw [List.length_append] at hle
      unfold lenR at hs
      rw [bP (by simp only [len]; omega), oS (ix_nat (getq h)), cFits (by omega), wi_succ (by omega), e]
      exact concat4 b hl hs nf (i + 1) (by omega) (by omega)
    · rw [bN (by simp only [len]; omega), List.take_of_length_le (by omega)]
theorem concat1 (b : List (List UInt8)) (hl : b.length ≤ 1000000) (hs : lenR b ≤ 100000000000000) : ∀ (nf i : Nat), i ≤ b.length → b.length - i < nf → slices_Concat_bytebyteL1 b nf ((lenR (b.take i) : Nat) : Int) (i : Int) = some b.flatten
  | 0, i, _, h => by omega
  | nf + 1, i, hi, hn => by
    unfold slices_Concat_bytebyteL1 slices_Concat_bytebyteL1B
    have hle : lenR (b.take i) ≤ lenR b := by
      unfold lenR
      conv => rhs; rw [← List.take_append_drop i b, List.flatten_append, List.length_append]
      omega
    by_cases h : i < b.length
    · have e : lenR (b.take (i + 1)) = lenR (b.take i) + b[i].length := by
        unfold lenR
        rw [List.take_add_one, getq h, List.flatten_append, List.length_append]; simp
      have hle2 : lenR (b.take (i + 1)) ≤ lenR b := by
        unfold lenR
        conv => rhs; rw [← List.take_append_drop (i + 1) b, List.flatten_append, List.length_append]
        omega
      have ew : wi (((lenR (b.take i) : Nat) : Int) + len b[i]) = ((lenR (b.take (i + 1)) : Nat) : Int) := by
        rw [wi_in (by simp only [len]; omega) (by simp only [len]; omega), e]; simp only [len]; omega
      rw [bP (by simp only [len]; omega), oS (ix_nat (getq h)), ew, cN (by omega)]
      unfold slices_Concat_bytebyteJ3 slices_Concat_bytebyteJ2
      rw [ew, wi_succ (by omega)]
      exact concat1 b hl hs nf (i + 1) (by omega) (by omega)
    · rw [bN (by simp only [len]; omega), oS (grow_eq _ (by omega))]
      have := concat4 b hl hs fuel 0 (by omega) (by unfold fuel; omega)
      simpa using this
theorem concat_eq (b : List (List UInt8)) (hl : b.length ≤ 1000000) (hs : lenR b ≤ 100000000000000) : slices_Concat_bytebyte b = some b.flatten := by
  unfold slices_Concat_bytebyte
  have := concat1 b hl hs fuel 0 (by omega) (by unfold fuel; omega)
  simpa [lenR] using this
theorem memOk_len : ∀ {l : List Region} {b : List (List UInt8)}, b.length = l.length → (∀ (i : Nat) (r : Region) (x : List UInt8), l[i]? = some r → b[i]? = some x → x.length = r.Len.toNat) → lenR b = sumM l
  | [], [], _, _ => rfl
  | [], _ :: _, h, _ => by simp at h
  | _ :: _, [], h, _ => by simp at h
  | r :: l, x :: b, h, hr => by
    rw [lenR_cons, memOk_len (l := l) (b := b) (by simpa using h) (fun i r' x' a c => hr (i + 1) r' x' a c), hr 0 r x rfl rfl]; rfl
theorem image_eq (m : gmem_Mem) (hm : memOk m.l m.b) : gmem_Mem_Image m = some m.b.flatten := by
  unfold gmem_Mem_Image
  have h1 := memOk_len hm.2.1 hm.2.2
  have h2 := hm.1.2.2; have h3 := hm.1.1; have h4 := hm.2.1
  rw [oS (show gmem_Mem_made m = some true from rfl), oS (concat_eq m.b (by omega) (by omega))]
theorem rimageL (m : dumbwaiterref02_Mem) (hl : m.B.length ≤ 1000000) (hs : lenR m.B ≤ 100000000000000) : ∀ (nf i : Nat), i ≤ m.B.length → m.B.length - i < nf → ref_Mem_Image02L1 m nf (m.B.take i).flatten (i : Int) = some m.B.flatten
  | 0, i, _, h => by omega
  | nf + 1, i, hi, hn => by
    unfold ref_Mem_Image02L1 ref_Mem_Image02L1B
    by_cases h : i < m.B.length
    · have e : (m.B.take i).flatten ++ m.B[i] = (m.B.take (i + 1)).flatten := by
        rw [List.take_add_one, getq h, List.flatten_append]; simp
      have hle : ((m.B.take i).flatten ++ m.B[i]).length ≤ m.B.flatten.length := by
        rw [e]
        conv => rhs; rw [← List.take_append_drop (i + 1) m.B, List.flatten_append, List.length_append]
        omega
      rw [List.length_append] at hle
      unfold lenR at hs
      rw [bP (by simp only [len]; omega), oS (ix_nat (getq h)), cFits (by omega), wi_succ (by omega), e]
      exact rimageL m hl hs nf (i + 1) (by omega) (by omega)
    · rw [bN (by simp only [len]; omega), List.take_of_length_le (by omega)]
theorem rimage_eq (m : dumbwaiterref02_Mem) (hm : memOk m.L m.B) : ref_Mem_Image02 m = some m.B.flatten := by
  unfold ref_Mem_Image02
  have h1 := memOk_len hm.2.1 hm.2.2
  have h2 := hm.1.2.2; have h3 := hm.1.1; have h4 := hm.2.1
  have := rimageL m (by omega) (by omega) fuel 0 (by omega) (by unfold fuel; omega)
  simpa using this
end Go.Proofs.Ytkmjpgfbcklopaa

end

section
namespace Go.Proofs.Ytkmjpgfbcklopaa
/-- may segments be, behind one that is written or not? -/
def okS : Bool → List Seg → Bool
  | _, [] => true
  | w, s :: r => decide (0 < s.Len.toNat ∧ s.At.toNat + s.Len.toNat ≤ 18446744073709551616 ∧ (w = true → s.Write = true)) && okS s.Write r
def sumS : List Seg → Nat
  | [] => 0
  | s :: r => s.Len.toNat + sumS r
def rdS : List Seg → Nat
  | [] => 0
  | s :: r => (if s.Write then 0 else s.Len.toNat) + rdS r
def wrS : List Seg → Nat
  | [] => 0
  | s :: r => (if s.Write then s.Len.toNat else 0) + wrS r
/-- may a buffer be? -/
def goodS (l : List Seg) : Prop := l.length ≤ 64 ∧ okS false l = true ∧ sumS l < 4294967296
instance (l : List Seg) : Decidable (goodS l) := by unfold goodS; infer_instance
def errS (l : List Seg) : Int := if l.length > 64 then 3 else two (okS false l && Nat.blt (sumS l) 4294967296)
theorem errS_zero {l : List Seg} : errS l = 0 ↔ goodS l := by
  unfold errS goodS
  by_cases h : l.length > 64
  · rw [if_pos h]; constructor
    · intro q; cases q
    · intro q; omega
  · rw [if_neg h]
    cases h2 : okS false l && Nat.blt (sumS l) 4294967296 with
    | true =>
      rw [twoP rfl]
      simp only [Bool.and_eq_true, Nat.blt_eq] at h2
      exact ⟨fun _ => ⟨by omega, h2⟩, fun _ => rfl⟩
    | false =>
      rw [twoN rfl]
      constructor
      · intro q; cases q
      · rintro ⟨_, q1, q2⟩
        rw [q1, Bool.true_and] at h2
        rw [show Nat.blt (sumS l) 4294967296 = true by rw [Nat.blt_eq]; exact q2] at h2; cases h2
theorem errS_good {l : List Seg} (h : goodS l) : errS l = 0 := errS_zero.2 h
theorem errS_bad {l : List Seg} (h : ¬ goodS l) : errS l ≠ 0 := fun q => h (errS_zero.1 q)
theorem sumS_le : ∀ l : List Seg, sumS l ≤ 4294967295 * l.length
  | [] => by simp [sumS]
  | s :: r => by
    have := sumS_le r; have hs := s.Len.toNat_lt
    simp only [sumS, List.length_cons]; omega
theorem sum_rw : ∀ l : List Seg, sumS l = rdS l + wrS l
  | [] => rfl
  | s :: r => by
    have := sum_rw r
    simp only [sumS, rdS, wrS]; split <;> omega
/-- is the one before written? -/
def prevW (l : List Seg) : Nat → Bool
  | 0 => false
  | i + 1 => match l[i]? with | some s => s.Write | none => false
theorem prevW_succ {l : List Seg} {i : Nat} (h : i < l.length) : prevW l (i + 1) = l[i].Write := by
  simp only [prevW, getq h]
theorem len32 (s : Seg) (h : s.Len ≠ 0) : 0 < s.Len.toNat := by
  rcases Nat.eq_zero_or_pos s.Len.toNat with e | e
  · exact absurd (UInt32.toNat_inj.1 (by simpa using e)) h
  · exact e
theorem add64 (n : Nat) (x : UInt32) : UInt64.ofNat n + x.toUInt64 = UInt64.ofNat (n + x.toNat) := by
  rw [UInt64.ofNat_add]; congr 1
  apply UInt64.toNat_inj.1
  have := x.toNat_lt
  simp only [UInt32.toNat_toUInt64, UInt64.toNat_ofNat']; omega
theorem over1 (s : Seg) (h : 0 < s.Len.toNat) : (s.Len.toUInt64 - 1 > (18446744073709551615 : UInt64) - s.At) ↔ ¬ s.At.toNat + s.Len.toNat ≤ 18446744073709551616 := by
  have h1 := s.Len.toNat_lt; have h2 := s.At.toNat_lt
  rw [GT.gt, UInt64.lt_iff_toNat_lt, UInt64.toNat_sub_of_le, UInt64.toNat_sub_of_le, UInt32.toNat_toUInt64]
  · simp only [UInt64.reduceToNat]; omega
  · rw [UInt64.le_iff_toNat_le, UInt32.toNat_toUInt64]; simp only [UInt64.reduceToNat]; omega
  · rw [UInt64.le_iff_toNat_le]; simp only [UInt64.reduceToNat]; omega
theorem over2 (s : Seg) (h : 0 < s.Len.toNat) : (s.At + (s.Len.toUInt64 - 1) < s.At) ↔ ¬ s.At.toNat + s.Len.toNat ≤ 18446744073709551616 := by
  have h1 := s.Len.toNat_lt; have h2 := s.At.toNat_lt
  rw [UInt64.lt_iff_toNat_lt, UInt64.toNat_add, UInt64.toNat_sub_of_le, UInt32.toNat_toUInt64]
  · simp only [UInt64.reduceToNat]; omega
  · rw [UInt64.le_iff_toNat_le, UInt32.toNat_toUInt64]; simp only [UInt64.reduceToNat]; omega
theorem ge32 (n : Nat) (h : n < 18446744073709551616) : (UInt64.ofNat n ≥ 4294967296) ↔ ¬ n < 4294967296 := by
  rw [GE.ge, UInt64.le_iff_toNat_le, UInt64.toNat_ofNat']; simp only [UInt64.reduceToNat]; omega
theorem segCheckL (l : List Seg) (hl : l.length ≤ 64) : ∀ (nf i n : Nat) (m : Int), i ≤ l.length → l.length - i < nf → n + sumS (l.drop i) < 18446744073709551616 →
    seg_CheckL1 l nf m (UInt64.ofNat n) (i : Int) = some (two (okS (prevW l i) (l.drop i) && Nat.blt (n + sumS (l.drop i)) 4294967296))
  | 0, i, n, m, _, h, _ => by omega
  | nf + 1, i, n, m, hi, hn, hs => by
    unfold seg_CheckL1 seg_CheckL1B
    by_cases h : i < l.length
    · have hd : l.drop i = l[i] :: l.drop (i + 1) := drop_ix h
      rw [hd] at hs ⊢
      simp only [sumS] at hs
      have ih := segCheckL l hl nf (i + 1) (n + l[i].Len.toNat) m (by omega) (by omega) (by omega)
      rw [prevW_succ h] at ih
      simp only [okS, sumS]
      have c2 : seg_Check_1 2 (UInt64.ofNat n) = some 2 := rfl
      rw [bP (by simp only [len]; omega), oS (ix_nat (getq h))]
      by_cases h0 : l[i].Len = 0
      · rw [bP (show l[i].Len < 1 by rw [h0]; decide), oS c2]
        rw [twoN (by rw [h0]; simp)]
      have hp := len32 _ h0
      rw [bN (show ¬ l[i].Len < 1 by rw [UInt32.lt_iff_toNat_lt]; simp only [UInt32.reduceToNat]; omega)]
      by_cases ho : l[i].At.toNat + l[i].Len.toNat ≤ 18446744073709551616
      · rw [bN (fun q => (over1 _ hp).1 q ho)]
        have go : some (two (okS l[i].Write (l.drop (i + 1)) && Nat.blt (n + l[i].Len.toNat + sumS (l.drop (i + 1))) 4294967296)) = seg_CheckL1 l nf m (UInt64.ofNat n + l[i].Len.toUInt64) (wi ((i : Int) + 1)) := by
          rw [add64, wi_succ (by omega), ih]
        cases i with
        | zero =>
          rw [bN (by simp), ← go]
          congr 2
          simp [prevW, hp, ho, Nat.add_assoc]
        | succ j =>
          rw [bP (by omega), wi_pred (by omega), oS (ix_nat (getq (by omega)))]
          rw [prevW_succ (by omega)]
          by_cases hw : l[j].Write = true
          · rw [bT hw]
            by_cases hw2 : l[j + 1].Write = true
            · rw [bFl (by rw [hw2]; rfl), ← go]
              congr 2
              simp [hp, ho, hw2, Nat.add_assoc]
            · rw [bT (by simpa using hw2), oS c2, twoN (by simp [hw, hw2])]
          · rw [bFl (by simpa using hw), ← go]
            congr 2
            simp [hp, ho, hw, Nat.add_assoc]
      · rw [bP ((over1 _ hp).2 ho), oS c2, twoN (by simp [ho])]
    · have hd : l.drop i = [] := List.drop_of_length_le (by omega)
      rw [hd] at hs ⊢
      simp only [sumS, Nat.add_zero] at hs ⊢
      rw [bN (by simp only [len]; omega)]
      unfold seg_Check_1
      rw [show br ((0 : Int) == 0) (br (decide (UInt64.ofNat n ≥ 4294967296)) (some 2) (some 0)) (some 0) = br (decide (UInt64.ofNat n ≥ 4294967296)) (some (2 : Int)) (some 0) from rfl]
      by_cases hq : n < 4294967296
      · rw [bN (fun q => (ge32 n hs).1 q hq), obS, twoP (by simp [okS, hq])]
      · rw [bP ((ge32 n hs).2 hq), obS, twoN (by rw [blt_f hq, Bool.and_false])]
theorem segCheck (l : List Seg) : seg_Check l = some (errS l) := by
  unfold seg_Check errS
  by_cases h : l.length > 64
  · rw [bP (by simp only [len]; omega), if_pos h]
  · have := sumS_le l
    have h1 := segCheckL l (by omega) fuel 0 0 0 (by omega) (by unfold fuel; omega) (by simp; omega)
    rw [bN (by simp only [len]; omega), if_neg h]
    simp only [List.drop_zero, Nat.zero_add, prevW] at h1
    exact h1
theorem refCheckL (l : List Seg) (hl : l.length ≤ 64) : ∀ (nf i n : Nat), i ≤ l.length → l.length - i < nf → n + sumS (l.drop i) < 18446744073709551616 →
    ref_Check05L1 l nf (UInt64.ofNat n) (i : Int) = some (two (okS (prevW l i) (l.drop i) && Nat.blt (n + sumS (l.drop i)) 4294967296))
  | 0, i, n, _, h, _ => by omega
  | nf + 1, i, n, hi, hn, hs => by
    unfold ref_Check05L1 ref_Check05L1B
    by_cases h : i < l.length
    · have hd : l.drop i = l[i] :: l.drop (i + 1) := drop_ix h
      rw [hd] at hs ⊢
      simp only [sumS] at hs
      have ih := refCheckL l hl nf (i + 1) (n + l[i].Len.toNat) (by omega) (by omega) (by omega)
      rw [prevW_succ h] at ih
      simp only [okS, sumS]
      have gi := ix_nat (getq h)
      rw [bP (by simp only [len]; omega)]
      simp only [oS gi]
      by_cases h0 : l[i].Len = 0
      · rw [bE h0, twoN (by rw [h0]; simp)]
      have hp := len32 _ h0
      rw [bF h0]
      by_cases ho : l[i].At.toNat + l[i].Len.toNat ≤ 18446744073709551616
      · rw [bN (fun q => (over2 _ hp).1 q ho)]
        have go : some (two (okS l[i].Write (l.drop (i + 1)) && Nat.blt (n + l[i].Len.toNat + sumS (l.drop (i + 1))) 4294967296)) = ref_Check05L1 l nf (UInt64.ofNat n + l[i].Len.toUInt64) (wi ((i : Int) + 1)) := by
          rw [add64, wi_succ (by omega), ih]
        cases i with
        | zero =>
          rw [bN (by simp), ← go]
          congr 2
          simp [prevW, hp, ho, Nat.add_assoc]
        | succ j =>
          rw [bP (by omega), wi_pred (by omega), oS (ix_nat (getq (by omega)))]
          rw [prevW_succ (by omega)]
          by_cases hw : l[j].Write = true
          · rw [bT hw]
            by_cases hw2 : l[j + 1].Write = true
            · rw [bFl (by rw [hw2]; rfl), ← go]
              congr 2
              simp [hp, ho, hw2, Nat.add_assoc]
            · rw [bT (by simpa using hw2), twoN (by simp [hw, hw2])]
          · rw [bFl (by simpa using hw), ← go]
            congr 2
            simp [hp, ho, hw, Nat.add_assoc]
      · rw [bP ((over2 _ hp).2 ho), twoN (by simp [ho])]
    · have hd : l.drop i = [] := List.drop_of_length_le (by omega)
      rw [hd] at hs ⊢
      simp only [sumS, Nat.add_zero] at hs ⊢
      rw [bN (by simp only [len]; omega)]
      by_cases hq : n < 4294967296
      · rw [bN (fun q => (ge32 n hs).1 q hq), twoP (by simp [okS, hq])]
      · rw [bP ((ge32 n hs).2 hq), twoN (by rw [blt_f hq, Bool.and_false])]
theorem refCheck (l : List Seg) : ref_Check05 l = some (errS l) := by
  unfold ref_Check05 errS
  by_cases h : l.length > 64
  · rw [bP (by simp only [len]; omega), if_pos h]
  · have := sumS_le l
    have h1 := refCheckL l (by omega) fuel 0 0 (by omega) (by unfold fuel; omega) (by simp; omega)
    rw [bN (by simp only [len]; omega), if_neg h]
    simp only [List.drop_zero, Nat.zero_add, prevW] at h1
    exact h1
/-- how many bytes are read, and written -/
def totS (l : List Seg) : UInt64 × UInt64 := if goodS l then (UInt64.ofNat (rdS l), UInt64.ofNat (wrS l)) else (0, 0)
theorem segTotalL (l : List Seg) (hl : l.length ≤ 64) : ∀ (nf i a b : Nat), i ≤ l.length → l.length - i < nf → seg_TotalL1 l nf (UInt64.ofNat a) (UInt64.ofNat b) (i : Int) = some (UInt64.ofNat (a + rdS (l.drop i)), UInt64.ofNat (b + wrS (l.drop i)))
  | 0, i, a, b, _, h => by omega
  | nf + 1, i, a, b, hi, hn => by
    unfold seg_TotalL1 seg_TotalL1B
    by_cases h : i < l.length
    · have hd : l.drop i = l[i] :: l.drop (i + 1) := drop_ix h
      rw [hd, bP (by simp only [len]; omega), oS (ix_nat (getq h))]
      simp only [rdS, wrS]
      by_cases hw : l[i].Write = true
      · rw [bT hw]
        unfold seg_TotalJ3 seg_TotalJ2
        rw [add64, wi_succ (by omega), segTotalL l hl nf (i + 1) a _ (by omega) (by omega)]
        simp only [hw, if_true, Nat.zero_add, Nat.add_assoc]
      · rw [bFl (by simpa using hw)]
        unfold seg_TotalJ3 seg_TotalJ2
        rw [add64, wi_succ (by omega), segTotalL l hl nf (i + 1) _ b (by omega) (by omega)]
        simp only [hw, Nat.zero_add, Nat.add_assoc]; simp
    · rw [bN (by simp only [len]; omega), List.drop_of_length_le (by omega)]; simp [rdS, wrS]
theorem segTotal (l : List Seg) : seg_Total l = some (totS l) := by
  unfold seg_Total totS
  rw [oS (segCheck l)]
  by_cases h : goodS l
  · rw [nE (errS_good h), if_pos h]
    have h1 := segTotalL l h.1 fuel 0 0 0 (by omega) (by unfold fuel; have := h.1; omega)
    simp only [List.drop_zero, Nat.zero_add] at h1
    exact h1
  · rw [nF (errS_bad h), if_neg h]
theorem refTotalL (l : List Seg) (hg : goodS l) : ∀ (nf i a b : Nat), i ≤ l.length → l.length - i < nf → ref_Total05L1 l nf (UInt64.ofNat a) (UInt64.ofNat b) (i : Int) = some (UInt64.ofNat (a + rdS (l.drop i)), UInt64.ofNat (b + wrS (l.drop i)))
  | 0, i, a, b, _, h => by omega
  | nf + 1, i, a, b, hi, hn => by
    have hl := hg.1
    unfold ref_Total05L1 ref_Total05L1B
    by_cases h : i < l.length
    · have hd : l.drop i = l[i] :: l.drop (i + 1) := drop_ix h
      have gi := ix_nat (getq h)
      rw [hd, bP (by simp only [len]; omega), oS (refCheck l), bE (errS_good hg)]
      simp only [oS gi]
      simp only [rdS, wrS]
      by_cases hw : l[i].Write = true
      · rw [bT hw]
        unfold ref_Total05J3 ref_Total05J2
        rw [add64, wi_succ (by omega), refTotalL l hg nf (i + 1) a _ (by omega) (by omega)]
        simp only [hw, if_true, Nat.zero_add, Nat.add_assoc]
      · rw [bFl (by simpa using hw)]
        unfold ref_Total05J3 ref_Total05J2
        rw [add64, wi_succ (by omega), refTotalL l hg nf (i + 1) _ b (by omega) (by omega)]
        simp only [hw, Nat.zero_add, Nat.add_assoc]; simp
    · rw [bN (by simp only [len]; omega), List.drop_of_length_le (by omega)]; simp [rdS, wrS]
theorem refTotal (l : List Seg) : ref_Total05 l = some (totS l) := by
  unfold ref_Total05 totS
  by_cases h : goodS l
  · rw [if_pos h]
    have h1 := refTotalL l h fuel 0 0 0 (by omega) (by unfold fuel; have := h.1; omega)
    simp only [List.drop_zero, Nat.zero_add] at h1
    exact h1
  · rw [if_neg h, fuelS]
    unfold ref_Total05L1 ref_Total05L1B
    by_cases h2 : (0 : Int) < len l
    · rw [bP h2, oS (refCheck l), bF (errS_bad h)]
    · rw [bN h2]
end Go.Proofs.Ytkmjpgfbcklopaa

end

section
namespace Go.Proofs.Ytkmjpgfbcklopaa
def hdS (x : Seg) (k : Nat) : Seg := ⟨x.At, UInt32.ofNat k, x.Write⟩
def tlS (x : Seg) (k : Nat) : Seg := ⟨x.At + UInt64.ofNat k, UInt32.ofNat (x.Len.toNat - k), x.Write⟩
def takeS : Nat → List Seg → List Seg
  | _, [] => []
  | n, x :: r => if n = 0 then [] else if n < x.Len.toNat then [hdS x n] else x :: takeS (n - x.Len.toNat) r
def dropS : Nat → List Seg → List Seg
  | _, [] => []
  | n, x :: r => if n = 0 then x :: r else if n < x.Len.toNat then tlS x n :: r else dropS (n - x.Len.toNat) r
theorem hd_full (x : Seg) : hdS x x.Len.toNat = x := by
  cases x; simp [hdS]
theorem take0 (l : List Seg) : takeS 0 l = [] := by cases l <;> simp [takeS]
theorem drop0 (l : List Seg) : dropS 0 l = l := by cases l <;> simp [dropS]
def posS (l : List Seg) : Prop := ∀ s ∈ l, 0 < s.Len.toNat
theorem okS_pos : ∀ {w : Bool} {l : List Seg}, okS w l = true → posS l
  | _, [], _ => fun s h => by cases h
  | w, x :: r, h => by
    simp only [okS, Bool.and_eq_true, decide_eq_true_eq] at h
    intro s hs
    rcases List.mem_cons.1 hs with e | e
    · subst e; exact h.1.1
    · exact okS_pos h.2 s e
theorem okS_weak : ∀ {w : Bool} {l : List Seg}, okS w l = true → okS false l = true
  | w, [], _ => rfl
  | w, x :: r, h => by
    simp only [okS, Bool.and_eq_true, decide_eq_true_eq] at h ⊢
    exact ⟨⟨h.1.1, h.1.2.1, fun q => by cases q⟩, h.2⟩
theorem okS_of {w w' : Bool} {l : List Seg} (h : okS w l = true) (hw : w' = true → w = true) : okS w' l = true := by
  cases w' with
  | false => exact okS_weak h
  | true => rw [hw rfl] at h; exact h
theorem hd_len {x : Seg} {n : Nat} (h : n < x.Len.toNat) : (hdS x n).Len.toNat = n := by
  have := x.Len.toNat_lt
  simp only [hdS, UInt32.toNat_ofNat']; omega
theorem tl_len {x : Seg} {n : Nat} : (tlS x n).Len.toNat = x.Len.toNat - n := by
  have := x.Len.toNat_lt
  simp only [tlS, UInt32.toNat_ofNat']; omega
theorem tl_at {x : Seg} {n : Nat} (h : n < x.Len.toNat) (ha : x.At.toNat + x.Len.toNat ≤ 18446744073709551616) : (tlS x n).At.toNat = x.At.toNat + n := by
  have := x.Len.toNat_lt
  simp only [tlS, UInt64.toNat_add, UInt64.toNat_ofNat']; omega
theorem ok_take : ∀ {w : Bool} {l : List Seg} (n : Nat), okS w l = true → okS w (takeS n l) = true
  | w, [], n, _ => rfl
  | w, x :: r, n, h => by
    unfold takeS
    have h' := h
    simp only [okS, Bool.and_eq_true, decide_eq_true_eq] at h
    by_cases h0 : n = 0
    · rw [if_pos h0]; rfl
    · rw [if_neg h0]
      by_cases h1 : n < x.Len.toNat
      · rw [if_pos h1]
        simp only [okS, Bool.and_eq_true, decide_eq_true_eq, hd_len h1]
        refine ⟨⟨by omega, ?_, h.1.2.2⟩, trivial⟩
        show x.At.toNat + n ≤ _; omega
      · rw [if_neg h1]
        simp only [okS, Bool.and_eq_true, decide_eq_true_eq]
        exact ⟨h.1, ok_take _ h.2⟩
theorem ok_drop : ∀ {w : Bool} {l : List Seg} (n : Nat), okS w l = true → okS w (dropS n l) = true
  | w, [], n, _ => rfl
  | w, x :: r, n, h => by
    unfold dropS
    have h' := h
    simp only [okS, Bool.and_eq_true, decide_eq_true_eq] at h
    by_cases h0 : n = 0
    · rw [if_pos h0]; exact h'
    · rw [if_neg h0]
      by_cases h1 : n < x.Len.toNat
      · rw [if_pos h1]
        simp only [okS, Bool.and_eq_true, decide_eq_true_eq, tl_len, tl_at h1 h.1.2.1]
        exact ⟨⟨by omega, by omega, h.1.2.2⟩, h.2⟩
      · rw [if_neg h1]
        exact okS_of (ok_drop _ h.2) h.1.2.2
theorem sum_take : ∀ (n : Nat) (l : List Seg), sumS (takeS n l) = min n (sumS l)
  | n, [] => by simp [takeS, sumS]
  | n, x :: r => by
    unfold takeS
    by_cases h0 : n = 0
    · rw [if_pos h0]; simp [sumS, h0]
    · rw [if_neg h0]
      by_cases h1 : n < x.Len.toNat
      · rw [if_pos h1]; simp only [sumS, hd_len h1]; omega
      · rw [if_neg h1]
        have := sum_take (n - x.Len.toNat) r
        simp only [sumS]; omega
theorem sum_drop : ∀ (n : Nat) (l : List Seg), sumS (dropS n l) = sumS l - n
  | n, [] => by simp [dropS, sumS]
  | n, x :: r => by
    unfold dropS
    by_cases h0 : n = 0
    · rw [if_pos h0]; simp [sumS, h0]
    · rw [if_neg h0]
      by_cases h1 : n < x.Len.toNat
      · rw [if_pos h1]; simp only [sumS, tl_len]; omega
      · rw [if_neg h1]
        have := sum_drop (n - x.Len.toNat) r
        simp only [sumS]; omega
theorem len_take : ∀ (n : Nat) (l : List Seg), (takeS n l).length ≤ l.length
  | n, [] => by simp [takeS]
  | n, x :: r => by
    unfold takeS
    have := len_take (n - x.Len.toNat) r
    split
    · simp
    · split
      · simp
      · simp only [List.length_cons]; omega
theorem len_drop : ∀ (n : Nat) (l : List Seg), (dropS n l).length ≤ l.length
  | n, [] => by simp [dropS]
  | n, x :: r => by
    unfold dropS
    have := len_drop (n - x.Len.toNat) r
    split
    · simp
    · split
      · simp
      · simp only [List.length_cons]; omega
theorem good_take {l : List Seg} (n : Nat) (h : goodS l) : goodS (takeS n l) := ⟨Nat.le_trans (len_take n l) h.1, ok_take n h.2.1, by rw [sum_take]; have := h.2.2; omega⟩
theorem good_drop {l : List Seg} (n : Nat) (h : goodS l) : goodS (dropS n l) := ⟨Nat.le_trans (len_drop n l) h.1, ok_drop n h.2.1, by rw [sum_drop]; have := h.2.2; omega⟩
theorem take_all : ∀ (n : Nat) (l : List Seg), posS l → sumS l ≤ n → takeS n l = l
  | n, [], _, _ => rfl
  | n, x :: r, hp, h => by
    have h1 := hp x (by simp)
    simp only [sumS] at h
    unfold takeS
    rw [if_neg (by omega), if_neg (by omega), take_all _ r (fun s hs => hp s (by simp [hs])) (by omega)]
theorem take_take : ∀ (m n : Nat) (l : List Seg), takeS m (takeS n l) = takeS (min m n) l
  | m, n, [] => rfl
  | m, n, x :: r => by
    rw [takeS.eq_2 n]
    by_cases h0 : n = 0
    · rw [if_pos h0, h0]; simp [take0, takeS]
    · rw [if_neg h0]
      by_cases h1 : n < x.Len.toNat
      · rw [if_pos h1]
        simp only [takeS, hd_len h1]
        by_cases hm : m = 0
        · rw [if_pos hm, if_pos (show min m n = 0 by omega)]
        · by_cases hm2 : m < n
          · rw [if_neg hm, if_pos hm2, if_neg (show ¬ min m n = 0 by omega), if_pos (show min m n < x.Len.toNat by omega), show min m n = m by omega]; rfl
          · rw [if_neg hm, if_neg hm2, if_neg (show ¬ min m n = 0 by omega), if_pos (show min m n < x.Len.toNat by omega), show min m n = n by omega]
      · rw [if_neg h1]
        simp only [takeS]
        by_cases hm : m = 0
        · rw [if_pos hm, if_pos (show min m n = 0 by omega)]
        · by_cases hm2 : m < x.Len.toNat
          · rw [if_neg hm, if_pos hm2, if_neg (show ¬ min m n = 0 by omega), if_pos (show min m n < x.Len.toNat by omega), show min m n = m by omega]
          · rw [if_neg hm, if_neg hm2, if_neg (show ¬ min m n = 0 by omega), if_neg (show ¬ min m n < x.Len.toNat by omega), take_take, show min (m - x.Len.toNat) (n - x.Len.toNat) = min m n - x.Len.toNat by omega]
theorem tl_tl {x : Seg} {a b : Nat} (h : a + b ≤ x.Len.toNat) : tlS (tlS x a) b = tlS x (a + b) := by
  have := x.Len.toNat_lt
  have e := tl_len (x := x) (n := a)
  unfold tlS at e ⊢
  simp only [Seg.mk.injEq, and_true]
  refine ⟨by rw [UInt64.add_assoc, ← UInt64.ofNat_add], ?_⟩
  apply UInt32.toNat_inj.1
  simp only [UInt32.toNat_ofNat'] at e ⊢; omega
theorem drop_drop : ∀ (a b : Nat) (l : List Seg), posS l → dropS a (dropS b l) = dropS (b + a) l
  | a, b, [], _ => rfl
  | a, b, x :: r, hp => by
    have hx := hp x (by simp)
    have hr : posS r := fun s hs => hp s (by simp [hs])
    rw [dropS.eq_2 b]
    by_cases h0 : b = 0
    · rw [if_pos h0, h0, Nat.zero_add]
    · rw [if_neg h0]
      by_cases h1 : b < x.Len.toNat
      · rw [if_pos h1]
        simp only [dropS, tl_len]
        by_cases ha : a = 0
        · rw [if_pos ha, if_neg (by omega), if_pos (by omega), ha, Nat.add_zero]
        · by_cases ha2 : a < x.Len.toNat - b
          · rw [if_neg ha, if_pos ha2, if_neg (show ¬ b + a = 0 by omega), if_pos (show b + a < x.Len.toNat by omega), tl_tl (by omega)]
          · rw [if_neg ha, if_neg ha2, if_neg (show ¬ b + a = 0 by omega), if_neg (show ¬ b + a < x.Len.toNat by omega), show a - (x.Len.toNat - b) = b + a - x.Len.toNat by omega]
      · rw [if_neg h1, drop_drop _ _ r hr]
        rw [dropS.eq_2 (b + a), if_neg (by omega), if_neg (by omega), show b - x.Len.toNat + a = b + a - x.Len.toNat by omega]
theorem drop_take : ∀ (m n : Nat) (l : List Seg), posS l → dropS m (takeS n l) = takeS (n - m) (dropS m l)
  | m, n, [], _ => rfl
  | m, n, x :: r, hp => by
    have hx := hp x (by simp)
    have hr : posS r := fun s hs => hp s (by simp [hs])
    have hb := x.Len.toNat_lt
    by_cases hm : m = 0
    · rw [hm, drop0, drop0, Nat.sub_zero]
    rw [takeS.eq_2 n, dropS.eq_2 m x r, if_neg hm]
    by_cases h0 : n = 0
    · rw [if_pos h0, h0, Nat.zero_sub, take0]; rfl
    · rw [if_neg h0]
      by_cases h1 : n < x.Len.toNat
      · rw [if_pos h1]
        simp only [dropS, hd_len h1, if_neg hm]
        by_cases h2 : m < n
        · rw [if_pos h2, if_pos (by omega), takeS.eq_2, if_neg (by omega), tl_len, if_pos (by omega)]
          congr 1
          unfold tlS hdS
          simp only [Seg.mk.injEq, and_true, true_and]
          apply UInt32.toNat_inj.1
          simp only [UInt32.toNat_ofNat']; omega
        · rw [if_neg h2, show n - m = 0 by omega, take0]
      · rw [if_neg h1, dropS.eq_2 m, if_neg hm]
        by_cases h2 : m < x.Len.toNat
        · rw [if_pos h2, if_pos h2, takeS.eq_2, if_neg (by omega), tl_len, if_neg (by omega), show n - m - (x.Len.toNat - m) = n - x.Len.toNat by omega]
        · rw [if_neg h2, if_neg h2, drop_take _ _ r hr, show n - x.Len.toNat - (m - x.Len.toNat) = n - m by omega]
theorem minu_of (n : Nat) (x : UInt32) (h : n < 18446744073709551616) : minu64 (UInt64.ofNat n) x.toUInt64 = UInt64.ofNat (min n x.toNat) := by
  have hx := x.toNat_lt
  have e : (x.toUInt64 < UInt64.ofNat n) ↔ x.toNat < n := by
    rw [UInt64.lt_iff_toNat_lt, UInt64.toNat_ofNat', UInt32.toNat_toUInt64, Nat.mod_eq_of_lt h]
  unfold minu64
  by_cases q : x.toNat < n
  · rw [if_pos (e.2 q), Nat.min_eq_right (by omega)]
    apply UInt64.toNat_inj.1; rw [UInt64.toNat_ofNat', UInt32.toNat_toUInt64]; omega
  · rw [if_neg (fun z => q (e.1 z)), Nat.min_eq_left (by omega)]
theorem to32 (n : Nat) (h : n < 18446744073709551616) : (UInt64.ofNat n).toUInt32 = UInt32.ofNat n := by
  apply UInt32.toNat_inj.1; simp only [UInt64.toNat_toUInt32, UInt64.toNat_ofNat', UInt32.toNat_ofNat']; omega
theorem len_to32 (x : UInt32) : x.toUInt64.toUInt32 = x := by
  apply UInt32.toNat_inj.1
  have := x.toNat_lt
  simp only [UInt64.toNat_toUInt32, UInt32.toNat_toUInt64]; omega
theorem eatL : ∀ (nf : Nat) (l : List Seg) (n : Nat) (out : List Seg), posS l → l.length < nf → n < 18446744073709551616 → out.length + l.length ≤ 1000 →
    seg_row_eatL1 nf l (UInt64.ofNat n) out = some (out ++ takeS n l, dropS n l)
  | 0, l, n, out, _, h, _, _ => by omega
  | nf + 1, l, n, out, hp, hn, hb, hf => by
    unfold seg_row_eatL1 seg_row_eatL1B
    by_cases h0 : n = 0
    · rw [bN (by rw [h0]; decide), h0, take0, drop0, List.append_nil]
    · rw [bP (by rw [GT.gt, UInt64.lt_iff_toNat_lt, UInt64.toNat_ofNat']; simp only [UInt64.reduceToNat]; omega)]
      cases l with
      | nil => rw [bN (by simp [len])]; simp [takeS, dropS]
      | cons x r =>
        have hx := hp x (by simp)
        have hr : posS r := fun s hs => hp s (by simp [hs])
        have hxl := x.Len.toNat_lt
        simp only [List.length_cons] at hn hf
        have hsub : sub (x :: r) (1 : Int) (len (x :: r)) = r := by rw [sub_from]; rfl
        rw [bP (by simp only [len, List.length_cons]; omega), oS (show ix (x :: r) (0 : Int) = some x from rfl), minu_of n x.Len hb, cFits (by simp; omega)]
        simp only [takeS, dropS, if_neg h0]
        by_cases h1 : n < x.Len.toNat
        · rw [if_pos h1, if_pos h1, Nat.min_eq_left (by omega), to32 _ hb]
          rw [bP (by rw [UInt64.lt_iff_toNat_lt, UInt64.toNat_ofNat', UInt32.toNat_toUInt64]; omega), cP (by simp only [len, List.length_cons]; omega), hsub, cFits (by simp; omega)]
          refine congrArg some (congrArg (fun z => (out ++ [hdS x n], z :: r)) ?_)
          unfold tlS
          simp only [Seg.mk.injEq, and_true, true_and]
          apply UInt32.toNat_inj.1
          rw [UInt32.toNat_sub_of_le]
          · simp only [UInt32.toNat_ofNat']; omega
          · rw [UInt32.le_iff_toNat_le]; simp only [UInt32.toNat_ofNat']; omega
        · rw [if_neg h1, if_neg h1, Nat.min_eq_right (by omega)]
          have e1 : UInt64.ofNat x.Len.toNat = x.Len.toUInt64 := by
            apply UInt64.toNat_inj.1; rw [UInt64.toNat_ofNat', UInt32.toNat_toUInt64]; omega
          rw [bN (by rw [e1, UInt64.lt_iff_toNat_lt]; omega), cP (by simp only [len, List.length_cons]; omega), hsub]
          have e2 : UInt64.ofNat n - UInt64.ofNat x.Len.toNat = UInt64.ofNat (n - x.Len.toNat) := by
            apply UInt64.toNat_inj.1
            rw [UInt64.toNat_sub_of_le]
            · simp only [UInt64.toNat_ofNat']; omega
            · rw [UInt64.le_iff_toNat_le]; simp only [UInt64.toNat_ofNat']; omega
          rw [e2, eatL nf r (n - x.Len.toNat) _ hr (by omega) (by omega) (by simp; omega)]
          rw [e1, len_to32]
          simp
theorem eat_eq {l : List Seg} {n : Nat} (h : goodS l) (hn : n < 18446744073709551616) : seg_row_eat l (UInt64.ofNat n) = some (takeS n l, dropS n l) := by
  unfold seg_row_eat
  have := eatL fuel l n [] (okS_pos h.2.1) (by have := h.1; unfold fuel; omega) hn (by have := h.1; simp; omega)
  simpa using this
theorem cut_eq {l : List Seg} {a n : Nat} (h : goodS l) (ha : a < 18446744073709551616) (hn : n < 18446744073709551616) : seg_Cut l (UInt64.ofNat a) (UInt64.ofNat n) = some (takeS n (dropS a l)) := by
  unfold seg_Cut
  have hl := h.1
  rw [oS (segCheck l), nE (errS_good h)]
  have hc : slices_Clone_apiSegapiSeg l = some l := by unfold slices_Clone_apiSegapiSeg; rw [cFits (by simp; omega)]
  rw [oS hc, oS (eat_eq h ha)]
  simp only
  rw [oS (eat_eq (good_drop a h) hn)]
theorem minu_nat {a b : Nat} (ha : a < 18446744073709551616) (hb : b < 18446744073709551616) : minu64 (UInt64.ofNat a) (UInt64.ofNat b) = UInt64.ofNat (min a b) := by
  have e : (UInt64.ofNat b < UInt64.ofNat a) ↔ b < a := by
    rw [UInt64.lt_iff_toNat_lt, UInt64.toNat_ofNat', UInt64.toNat_ofNat', Nat.mod_eq_of_lt ha, Nat.mod_eq_of_lt hb]
  unfold minu64
  by_cases q : b < a
  · rw [if_pos (e.2 q), Nat.min_eq_right (by omega)]
  · rw [if_neg (fun z => q (e.1 z)), Nat.min_eq_left (by omega)]
theorem sub_ofNat {a b : Nat} (ha : a < 18446744073709551616) (hb : b ≤ a) : UInt64.ofNat a - UInt64.ofNat b = UInt64.ofNat (a - b) := by
  apply UInt64.toNat_inj.1
  rw [UInt64.toNat_sub_of_le]
  · simp only [UInt64.toNat_ofNat']; omega
  · rw [UInt64.le_iff_toNat_le]; simp only [UInt64.toNat_ofNat']; omega
theorem partL (l : List Seg) (w : Bool) (hl : l.length ≤ 64) : ∀ (nf i : Nat) (out : List Seg), out.length ≤ i → i ≤ l.length → l.length - i < nf → seg_PartL1 l w nf out (i : Int) = some (out ++ (l.drop i).filter (fun s => s.Write == w))
  | 0, i, out, _, _, h => by omega
  | nf + 1, i, out, ho, hi, hn => by
    unfold seg_PartL1 seg_PartL1B
    by_cases h : i < l.length
    · have hd : l.drop i = l[i] :: l.drop (i + 1) := drop_ix h
      rw [hd, bP (by simp only [len]; omega), oS (ix_nat (getq h)), wi_succ (by omega)]
      by_cases hw : l[i].Write = w
      · rw [bE hw, cFits (by simp; omega), partL l w hl nf (i + 1) _ (by simp; omega) (by omega) (by omega)]
        rw [List.filter_cons, if_pos (by simpa using hw)]; simp
      · rw [bF hw, partL l w hl nf (i + 1) _ (by omega) (by omega) (by omega)]
        rw [List.filter_cons, if_neg (by simpa using hw)]
    · rw [bN (by simp only [len]; omega), List.drop_of_length_le (by omega)]; simp
theorem part_eq {l : List Seg} (h : goodS l) (w : Bool) : seg_Part l w = some (l.filter (fun s => s.Write == w)) := by
  unfold seg_Part
  rw [oS (segCheck l), nE (errS_good h)]
  have := partL l w h.1 fuel 0 [] (by simp) (by omega) (by have := h.1; unfold fuel; omega)
  simpa using this
theorem part_w : ∀ {l : List Seg}, okS true l = true → l.filter (fun s => s.Write == true) = l ∧ l.filter (fun s => s.Write == false) = []
  | [], _ => ⟨rfl, rfl⟩
  | x :: r, h => by
    simp only [okS, Bool.and_eq_true, decide_eq_true_eq] at h
    have hw := h.1.2.2
    simp only [true_implies, forall_const] at hw
    have := part_w (l := r) (by have h2 := h.2; rw [hw] at h2; exact h2)
    simp [List.filter_cons, hw]
    simpa using this
theorem part_both : ∀ {l : List Seg}, okS false l = true → l.filter (fun s => s.Write == false) ++ l.filter (fun s => s.Write == true) = l
  | [], _ => rfl
  | x :: r, h => by
    simp only [okS, Bool.and_eq_true, decide_eq_true_eq] at h
    cases hw : x.Write with
    | false =>
      have := part_both (l := r) (by have := h.2; rw [hw] at this; exact this)
      simp only [List.filter_cons, hw, beq_self_eq_true, if_true, List.cons_append, this]
      simp; simpa using this
    | true =>
      have := part_w (l := r) (by have := h.2; rw [hw] at this; exact this)
      simp only [List.filter_cons, hw, beq_self_eq_true, if_true, this.1, this.2]
      simp
end Go.Proofs.Ytkmjpgfbcklopaa

end

section
namespace Go.Proofs.Ytkmjpgfbcklopaa
def hasS (l : List Region) (s : Seg) : Bool := (findR l s.At.toNat s.Len.toNat).isSome
def inE (l : List Region) (ss : List Seg) : Int := if errS ss = 0 then (bif ss.all (hasS l) then 0 else 5) else errS ss
theorem segInL (m : gmem_Mem) (hm : memOk m.l m.b) (l : List Seg) (hl : l.length ≤ 64) : ∀ (nf i : Nat), i ≤ l.length → l.length - i < nf → seg_InL1 m l nf (i : Int) = some (bif (l.drop i).all (hasS m.l) then 0 else 5)
  | 0, i, _, h => by omega
  | nf + 1, i, hi, hn => by
    unfold seg_InL1 seg_InL1B
    by_cases h : i < l.length
    · have hd : l.drop i = l[i] :: l.drop (i + 1) := drop_ix h
      rw [bP (by simp only [len]; omega), oS (ix_nat (getq h)), oS (has_eq m hm _ _), hd, List.all_cons, UInt32.toNat_toUInt64]
      have ih := segInL m hm l hl nf (i + 1) (by omega) (by omega)
      cases q : (findR m.l l[i].At.toNat l[i].Len.toNat).isSome with
      | true => rw [bFl (show (!true) = false from rfl), wi_succ (by omega), ih, show hasS m.l l[i] = true from q, Bool.true_and]
      | false => rw [bT (show (!false) = true from rfl), show hasS m.l l[i] = false from q, Bool.false_and]; rfl
    · rw [bN (by simp only [len]; omega), List.drop_of_length_le (by omega)]; rfl
theorem segIn_eq (m : gmem_Mem) (hm : memOk m.l m.b) (l : List Seg) : seg_In m l = some (inE m.l l) := by
  unfold seg_In
  have h0 : gmem_Mem_Read m (0 : UInt64) (0 : Int) = some ([], 0) := by rw [read_eqM m hm _ _ (by omega)]; rfl
  rw [oS h0, nE rfl, oS (segCheck l)]
  unfold inE
  by_cases h : errS l = 0
  · rw [nE h, if_pos h]
    have hl := (errS_zero.1 h).1
    have := segInL m hm l hl fuel 0 (by omega) (by unfold fuel; omega)
    exact this
  · rw [nF h, if_neg h]
theorem refInL (m : dumbwaiterref02_Mem) (hm : memOk m.L m.B) (l : List Seg) (hl : l.length ≤ 64) : ∀ (nf i : Nat), i ≤ l.length → l.length - i < nf → ref_In05L1 m l nf 0 (i : Int) = some (bif (l.drop i).all (hasS m.L) then 0 else 5)
  | 0, i, _, h => by omega
  | nf + 1, i, hi, hn => by
    unfold ref_In05L1 ref_In05L1B
    by_cases h : i < l.length
    · have hd : l.drop i = l[i] :: l.drop (i + 1) := drop_ix h
      have gi := ix_nat (getq h)
      rw [bP (by simp only [len]; omega), bE rfl]
      simp only [oS gi]
      rw [oS (rhas_eq m hm _ _), hd, List.all_cons, UInt32.toNat_toUInt64]
      have ih := refInL m hm l hl nf (i + 1) (by omega) (by omega)
      cases q : (findR m.L l[i].At.toNat l[i].Len.toNat).isSome with
      | true => rw [bFl (show (!true) = false from rfl), wi_succ (by omega), ih, show hasS m.L l[i] = true from q, Bool.true_and]
      | false =>
        rw [bT (show (!false) = true from rfl), show hasS m.L l[i] = false from q, Bool.false_and, wi_succ (by omega)]
        have five : ∀ nf2 j, 0 < nf2 → ref_In05L1 m l nf2 5 j = some 5 := fun nf2 j hp => by
          cases nf2 with
          | zero => omega
          | succ k =>
            unfold ref_In05L1 ref_In05L1B
            by_cases z : j < len l
            · rw [bP z, bF (by decide)]
            · rw [bN z]
        rw [five nf _ (by omega)]; rfl
    · rw [bN (by simp only [len]; omega), List.drop_of_length_le (by omega)]; rfl
theorem refIn_eq (m : dumbwaiterref02_Mem) (hm : memOk m.L m.B) (l : List Seg) : ref_In05 m l = some (inE m.L l) := by
  unfold ref_In05
  rw [oS (refCheck l)]
  unfold inE
  by_cases h : errS l = 0
  · rw [if_pos h, h]
    have hl := (errS_zero.1 h).1
    exact refInL m hm l hl fuel 0 (by omega) (by unfold fuel; omega)
  · rw [if_neg h, fuelS]
    unfold ref_In05L1 ref_In05L1B
    by_cases z : (0 : Int) < len l
    · rw [bP z, bF h]
    · rw [bN z]
/-- the bytes of a segment -/
def rdSeg (l : List Region) (b : List (List UInt8)) (s : Seg) : List UInt8 := (readR l b s.At.toNat s.Len.toNat).getD []
def gatS (l : List Region) (b : List (List UInt8)) (ss : List Seg) : List UInt8 := (ss.map (rdSeg l b)).flatten
theorem readR_len {l : List Region} {b : List (List UInt8)} {a n : Nat} {x : List UInt8} (hm : memOk l b) (h : readR l b a n = some x) : x.length = n := by
  unfold readR at h
  cases hf : findR l a n with
  | none => rw [hf] at h; cases h
  | some i =>
    obtain ⟨hi, q0, q1, q2⟩ := findR_in hf
    have hb : i < b.length := by rw [hm.2.1]; exact hi
    have hr := hm.2.2 i _ _ (getq hi) (getq hb)
    rw [hf] at h
    simp only [getq hi, getq hb, Option.some.injEq] at h
    subst h; simp; omega
theorem readR_has {l : List Region} {b : List (List UInt8)} {s : Seg} (hm : memOk l b) (h : hasS l s = true) : readR l b s.At.toNat s.Len.toNat = some (rdSeg l b s) ∧ (rdSeg l b s).length = s.Len.toNat := by
  have : ∃ x, readR l b s.At.toNat s.Len.toNat = some x := by
    unfold hasS at h
    unfold readR
    cases hf : findR l s.At.toNat s.Len.toNat with
    | none => rw [hf] at h; cases h
    | some i =>
      obtain ⟨hi, q0, q1, q2⟩ := findR_in hf
      have hb : i < b.length := by rw [hm.2.1]; exact hi
      simp only [getq hi, getq hb]; exact ⟨_, rfl⟩
  obtain ⟨x, hx⟩ := this
  have e : rdSeg l b s = x := by unfold rdSeg; rw [hx]; rfl
  rw [e]; exact ⟨hx, readR_len hm hx⟩
theorem gat_len {l : List Region} {b : List (List UInt8)} (hm : memOk l b) : ∀ (ss : List Seg), ss.all (hasS l) = true → (gatS l b ss).length = sumS ss
  | [], _ => rfl
  | s :: r, h => by
    simp only [List.all_cons, Bool.and_eq_true] at h
    have h1 := (readR_has hm h.1).2
    have h2 := gat_len hm r h.2
    simp only [gatS, List.map_cons, List.flatten_cons, List.length_append, sumS] at h2 ⊢; omega
theorem gatherL (m : gmem_Mem) (hm : memOk m.l m.b) (p : List Seg) (hl : p.length ≤ 64) (hp : posS p) (hh : p.all (hasS m.l) = true) (hs : sumS p < 4294967296) : ∀ (nf i : Nat), i ≤ p.length → p.length - i < nf → seg_GatherL1 m p nf ((p.take i).map (rdSeg m.l m.b)) p (i : Int) = some (gatS m.l m.b p, 0)
  | 0, i, _, h => by omega
  | nf + 1, i, hi, hn => by
    unfold seg_GatherL1 seg_GatherL1B
    by_cases h : i < p.length
    · have hpi := hp p[i] (List.getElem_mem h)
      have hL := p[i].Len.toNat_lt
      have hhi : hasS m.l p[i] = true := List.all_eq_true.1 hh _ (List.getElem_mem h)
      have hr : gmem_Mem_Read m p[i].At (i32 p[i].Len) = some (rdSeg m.l m.b p[i], 0) := by
        rw [show i32 p[i].Len = ((p[i].Len.toNat : Nat) : Int) from rfl, read_eqM m hm _ _ (by omega), if_neg (by omega), if_neg (by omega), Int.toNat_natCast, (readR_has hm hhi).1]
      rw [bP (by simp only [len]; omega), oS (ix_nat (getq h)), oS hr, nE rfl, cFits (by simp; omega), wi_succ (by omega)]
      have e : (p.take i).map (rdSeg m.l m.b) ++ [rdSeg m.l m.b p[i]] = (p.take (i + 1)).map (rdSeg m.l m.b) := by
        rw [List.take_add_one, getq h, List.map_append]; rfl
      rw [e]
      exact gatherL m hm p hl hp hh hs nf (i + 1) (by omega) (by omega)
    · have hg := gat_len hm p hh
      unfold gatS at hg
      rw [bN (by simp only [len]; omega), List.take_of_length_le (by omega), oS (concat_eq _ (by simp; omega) (by unfold lenR; omega))]
      rfl
theorem inE_zero {l : List Region} {ss : List Seg} (h : inE l ss = 0) : goodS ss ∧ ss.all (hasS l) = true := by
  unfold inE at h
  by_cases q : errS ss = 0
  · rw [if_pos q] at h
    refine ⟨errS_zero.1 q, ?_⟩
    cases e : ss.all (hasS l) with
    | true => rfl
    | false => rw [e] at h; cases h
  · rw [if_neg q] at h; exact absurd h q
theorem all_filter {p q : Seg → Bool} : ∀ {l : List Seg}, l.all p = true → (l.filter q).all p = true := fun {l} h => List.all_eq_true.2 fun x hx => List.all_eq_true.1 h x (List.mem_filter.1 hx).1
theorem sum_filter (q : Seg → Bool) : ∀ l : List Seg, sumS (l.filter q) ≤ sumS l
  | [] => Nat.le_refl _
  | s :: r => by
    have := sum_filter q r
    rw [List.filter_cons]
    split
    · simp only [sumS]; omega
    · simp only [sumS]; omega
theorem gather_eq (m : gmem_Mem) (hm : memOk m.l m.b) (l : List Seg) : seg_Gather m l = some (if inE m.l l = 0 then (gatS m.l m.b (l.filter (fun s => s.Write == false)), 0) else ([], inE m.l l)) := by
  unfold seg_Gather
  rw [oS (segIn_eq m hm l)]
  by_cases h : inE m.l l = 0
  · obtain ⟨hg, ha⟩ := inE_zero h
    have hfl : (l.filter (fun s => s.Write == false)).length ≤ l.length := List.length_filter_le _ _
    have hl := hg.1
    rw [nE h, if_pos h, oS (part_eq hg false)]
    have := gatherL m hm (l.filter (fun s => s.Write == false)) (by omega) (fun s hs => okS_pos hg.2.1 s (List.mem_filter.1 hs).1) (all_filter ha) (by have := sum_filter (fun s => s.Write == false) l; have := hg.2.2; omega) fuel 0 (by omega) (by unfold fuel; omega)
    exact this
  · rw [nF h, if_neg h]
theorem gat_cons (l : List Region) (b : List (List UInt8)) (s : Seg) (r : List Seg) : gatS l b (s :: r) = rdSeg l b s ++ gatS l b r := by simp [gatS]
theorem rgatherL (m : dumbwaiterref02_Mem) (hm : memOk m.L m.B) (p : List Seg) (hl : p.length ≤ 64) (hp : posS p) (hh : p.all (hasS m.L) = true) : ∀ (nf i : Nat) (out : List UInt8), i ≤ p.length → p.length - i < nf → out.length ≤ 4294967296 * i → ref_Gather05L1 m p nf out (i : Int) = some (out ++ gatS m.L m.B ((p.drop i).filter (fun s => s.Write == false)), 0)
  | 0, i, out, _, h, _ => by omega
  | nf + 1, i, out, hi, hn, ho => by
    unfold ref_Gather05L1 ref_Gather05L1B
    by_cases h : i < p.length
    · have hd : p.drop i = p[i] :: p.drop (i + 1) := drop_ix h
      have hpi := hp p[i] (List.getElem_mem h)
      have hL := p[i].Len.toNat_lt
      have gi := ix_nat (getq h)
      have hhi : hasS m.L p[i] = true := List.all_eq_true.1 hh _ (List.getElem_mem h)
      have hr : ref_Mem_Read02 m p[i].At (i32 p[i].Len) = some (rdSeg m.L m.B p[i], 0) := by
        rw [show i32 p[i].Len = ((p[i].Len.toNat : Nat) : Int) from rfl, rread_eq m hm _ _ (by omega), if_neg (by omega), if_neg (by omega), Int.toNat_natCast, (readR_has hm hhi).1]
      have hlen := (readR_has hm hhi).2
      rw [bP (by simp only [len]; omega), hd]
      simp only [oS gi]
      cases hw : p[i].Write with
      | false =>
        rw [bT (show (!false) = true from rfl), oS hr, cFits (by dsimp only; omega)]
        unfold ref_Gather05J3 ref_Gather05J2
        rw [wi_succ (by omega), rgatherL m hm p hl hp hh nf (i + 1) _ (by omega) (by omega) (by simp only [List.length_append]; omega), List.filter_cons, if_pos (by rw [hw]; rfl), gat_cons, List.append_assoc]
      | true =>
        rw [bFl (show (!true) = false from rfl)]
        unfold ref_Gather05J3 ref_Gather05J2
        rw [wi_succ (by omega), rgatherL m hm p hl hp hh nf (i + 1) _ (by omega) (by omega) (by omega), List.filter_cons, if_neg (by rw [hw]; decide)]
    · rw [bN (by simp only [len]; omega), List.drop_of_length_le (by omega)]; simp [gatS]
theorem rgather_eq (m : dumbwaiterref02_Mem) (hm : memOk m.L m.B) (l : List Seg) : ref_Gather05 m l = some (if inE m.L l = 0 then (gatS m.L m.B (l.filter (fun s => s.Write == false)), 0) else ([], inE m.L l)) := by
  unfold ref_Gather05
  rw [oS (refIn_eq m hm l)]
  by_cases h : inE m.L l = 0
  · obtain ⟨hg, ha⟩ := inE_zero h
    have hl := hg.1
    rw [nE h, if_pos h]
    have := rgatherL m hm l hl (okS_pos hg.2.1) ha fuel 0 [] (by omega) (by unfold fuel; omega) (by simp)
    rw [List.nil_append, List.drop_zero] at this
    exact this
  · rw [nF h, if_neg h]
/-- bytes laid into segments, one behind the other -/
def wrR (l : List Region) (b : List (List UInt8)) (a : Nat) (xs : List UInt8) : List (List UInt8) := (writeR l b a xs).getD b
def scatS (l : List Region) : List (List UInt8) → List Seg → List UInt8 → List (List UInt8)
  | b, [], _ => b
  | b, s :: r, xs => scatS l (wrR l b s.At.toNat (xs.take s.Len.toNat)) r (xs.drop s.Len.toNat)
theorem wrR_nil (l : List Region) (b : List (List UInt8)) (a : Nat) : wrR l b a [] = b := rfl
theorem wrR_ok {l : List Region} {b : List (List UInt8)} {a : Nat} {xs : List UInt8} (hm : memOk l b) : memOk l (wrR l b a xs) := by
  unfold wrR
  cases h : writeR l b a xs with
  | none => exact hm
  | some b' => exact write_ok hm h
theorem sum_wr : ∀ l : List Seg, sumS (l.filter (fun s => s.Write == true)) = wrS l
  | [] => rfl
  | s :: r => by
    have := sum_wr r
    rw [List.filter_cons]
    cases h : s.Write with
    | true => rw [if_pos (show (true == true) = true from rfl)]; simp only [sumS, wrS, h, if_true]; omega
    | false => rw [if_neg (by decide)]; simp only [wrS, h]; simpa using this
theorem rwrM (m : dumbwaiterref02_Mem) (hm : memOk m.L m.B) (a : UInt64) (xs : List UInt8) (hn : xs.length ≤ 140737488355328) : ∃ e, ref_Mem_Write02 m a xs = some (e, wrR m.L m.B a.toNat xs) := by
  rw [rwrite_eq m hm a xs hn]
  by_cases h : xs = []
  · rw [if_pos h, h, wrR_nil]; exact ⟨_, rfl⟩
  · rw [if_neg h]
    unfold wrR
    cases writeR m.L m.B a.toNat xs with
    | none => exact ⟨_, rfl⟩
    | some b => exact ⟨_, rfl⟩
theorem rscatterL (L : List Region) (xs : List UInt8) (hx : xs.length ≤ 100000000) (m0 : dumbwaiterref02_Mem) (hm0 : m0.L = L) (l : List Seg) (hl : l.length ≤ 64) : ∀ (nf i n : Nat) (b : List (List UInt8)), memOk L b → i ≤ l.length → l.length - i < nf → n ≤ xs.length →
    ref_Scatter05L1 m0 l xs nf b (n : Int) (i : Int) = some (((min xs.length (n + wrS (l.drop i)) : Nat) : Int), (0 : Int), scatS L b ((l.drop i).filter (fun s => s.Write == true)) (xs.drop n))
  | 0, i, n, b, _, _, h, _ => by omega
  | nf + 1, i, n, b, hb, hi, hn, hnx => by
    unfold ref_Scatter05L1 ref_Scatter05L1B
    by_cases h : i < l.length
    · have hd : l.drop i = l[i] :: l.drop (i + 1) := drop_ix h
      have gi := ix_nat (getq h)
      have hL := l[i].Len.toNat_lt
      rw [bP (by simp only [len]; omega), hd]
      simp only [oS gi]
      cases hw : l[i].Write with
      | false =>
        rw [bFl rfl]
        unfold ref_Scatter05J3 ref_Scatter05J2
        rw [wi_succ (by omega), rscatterL L xs hx m0 hm0 l hl nf (i + 1) n b hb (by omega) (by omega) hnx, List.filter_cons, if_neg (by rw [hw]; decide)]
        simp only [wrS, hw]
        simp
      | true =>
        have hk : wi ((n : Int) + mini (wi (len xs - (n : Int))) (i32 l[i].Len)) = ((min xs.length (n + l[i].Len.toNat) : Nat) : Int) := by
          rw [show i32 l[i].Len = ((l[i].Len.toNat : Nat) : Int) from rfl, show len xs = ((xs.length : Nat) : Int) from rfl, wi_in (n := (xs.length : Int) - n) (by omega) (by omega)]
          unfold mini
          split <;> (rw [wi_in (by omega) (by omega)]; omega)
        have hsb : sub xs (n : Int) ((min xs.length (n + l[i].Len.toNat) : Nat) : Int) = (xs.drop n).take l[i].Len.toNat := by
          refine (sub_nat _ _ _).trans ?_
          by_cases q : n + l[i].Len.toNat ≤ xs.length
          · exact congrArg (fun z => (xs.drop n).take z) (by omega)
          · rw [List.take_of_length_le (by rw [List.length_drop]; omega), List.take_of_length_le (by rw [List.length_drop]; omega)]
        have hdr : xs.drop (min xs.length (n + l[i].Len.toNat)) = (xs.drop n).drop l[i].Len.toNat := by
          rw [List.drop_drop]
          by_cases q : n + l[i].Len.toNat ≤ xs.length
          · exact congrArg (fun z => xs.drop z) (by omega)
          · rw [List.drop_of_length_le (by omega), List.drop_of_length_le (by omega)]
        obtain ⟨er, hwr⟩ := rwrM ⟨m0.L, b⟩ (by rw [hm0]; exact hb) l[i].At ((xs.drop n).take l[i].Len.toNat) (by simp; omega)
        rw [bT rfl, hk, cP (by simp only [len]; omega), hsb, oS hwr]
        unfold ref_Scatter05J3 ref_Scatter05J2
        dsimp only
        rw [wi_succ (by omega), hm0, rscatterL L xs hx m0 hm0 l hl nf (i + 1) _ _ (wrR_ok hb) (by omega) (by omega) (by omega), List.filter_cons, if_pos (show (l[i].Write == true) = true by rw [hw]; rfl), scatS, hdr]
        simp only [wrS, hw, if_true]
        refine congrArg (fun z => some (z, (0 : Int), _)) ?_
        omega
    · rw [bN (by simp only [len]; omega), List.drop_of_length_le (by omega)]
      simp only [wrS, List.filter_nil, scatS]
      refine congrArg (fun z => some (z, (0 : Int), _)) ?_
      omega
theorem rscatter_eq (m : dumbwaiterref02_Mem) (hm : memOk m.L m.B) (l : List Seg) (xs : List UInt8) (hx : xs.length ≤ 100000000) : ref_Scatter05 m l xs = some (if inE m.L l = 0 then (((min xs.length (wrS l) : Nat) : Int), (0 : Int), scatS m.L m.B (l.filter (fun s => s.Write == true)) xs) else (0, inE m.L l, m.B)) := by
  unfold ref_Scatter05
  rw [oS (refIn_eq m hm l)]
  by_cases h : inE m.L l = 0
  · obtain ⟨hg, ha⟩ := inE_zero h
    have hl := hg.1
    rw [nE h, if_pos h]
    have := rscatterL m.L xs hx m rfl l hl fuel 0 0 m.B hm (by omega) (by unfold fuel; omega) (by omega)
    rw [List.drop_zero, List.drop_zero, Nat.zero_add] at this
    exact this
  · rw [nF h, if_neg h]
end Go.Proofs.Ytkmjpgfbcklopaa

end

section
namespace Go.Proofs.Ytkmjpgfbcklopaa
/-- the bytes from a on, n of them -/
def cutS (l : List Seg) (a n : Nat) : List Seg := if goodS l then takeS n (dropS a l) else []
theorem segCut_eq (l : List Seg) (a n : UInt64) : seg_Cut l a n = some (cutS l a.toNat n.toNat) := by
  unfold cutS
  by_cases h : goodS l
  · rw [if_pos h]
    have := cut_eq (l := l) (a := a.toNat) (n := n.toNat) h a.toNat_lt n.toNat_lt
    rw [UInt64.ofNat_toNat, UInt64.ofNat_toNat] at this; exact this
  · rw [if_neg h]; unfold seg_Cut; rw [oS (segCheck l), nF (errS_bad h)]
def partS (l : List Seg) (w : Bool) : List Seg := if goodS l then l.filter (fun s => s.Write == w) else []
theorem rpartL (l : List Seg) (w : Bool) (hg : goodS l) : ∀ (nf i : Nat) (out : List Seg), out.length ≤ i → i ≤ l.length → l.length - i < nf → ref_Part05L1 l w nf out (i : Int) = some (out ++ (l.drop i).filter (fun s => s.Write == w))
  | 0, i, out, _, _, h => by omega
  | nf + 1, i, out, ho, hi, hn => by
    have hl := hg.1
    unfold ref_Part05L1 ref_Part05L1B
    by_cases h : i < l.length
    · have hd : l.drop i = l[i] :: l.drop (i + 1) := drop_ix h
      have gi := ix_nat (getq h)
      rw [hd, bP (by simp only [len]; omega), oS (refCheck l), bE (errS_good hg)]
      simp only [oS gi]
      rw [wi_succ (by omega)]
      by_cases hw : l[i].Write = w
      · rw [bE hw, cFits (by simp; omega), rpartL l w hg nf (i + 1) _ (by simp; omega) (by omega) (by omega)]
        rw [List.filter_cons, if_pos (by simpa using hw)]; simp
      · rw [bF hw, rpartL l w hg nf (i + 1) _ (by omega) (by omega) (by omega)]
        rw [List.filter_cons, if_neg (by simpa using hw)]
    · rw [bN (by simp only [len]; omega), List.drop_of_length_le (by omega)]; simp
theorem rpart_eq (l : List Seg) (w : Bool) : ref_Part05 l w = some (partS l w) := by
  unfold ref_Part05 partS
  by_cases h : goodS l
  · rw [if_pos h]
    have := rpartL l w h fuel 0 [] (by simp) (by omega) (by have := h.1; unfold fuel; omega)
    simpa using this
  · rw [if_neg h, fuelS]
    unfold ref_Part05L1 ref_Part05L1B
    by_cases h2 : (0 : Int) < len l
    · rw [bP h2, oS (refCheck l), bF (errS_bad h)]
    · rw [bN h2]
theorem takeS_tl {x : Seg} {r : List Seg} {f n : Nat} (hf : f < x.Len.toNat) : takeS n (dropS f (x :: r)) = (if n = 0 then [] else [⟨x.At + UInt64.ofNat f, UInt32.ofNat (min (x.Len.toNat - f) n), x.Write⟩]) ++ takeS (n - (x.Len.toNat - f)) r := by
  have hx := x.Len.toNat_lt
  by_cases h0 : n = 0
  · rw [if_pos h0, h0, Nat.zero_sub, take0, take0]; rfl
  rw [if_neg h0]
  simp only [dropS]
  by_cases h1 : f = 0
  · subst h1
    rw [if_pos rfl]
    simp only [takeS]
    rw [if_neg h0]
    have ea : x.At + UInt64.ofNat 0 = x.At := by simp
    rw [ea, Nat.sub_zero]
    by_cases h2 : n < x.Len.toNat
    · rw [if_pos h2, Nat.min_eq_right (by omega), show n - x.Len.toNat = 0 by omega, take0]; rfl
    · rw [if_neg h2, Nat.min_eq_left (by omega)]
      have : (⟨x.At, UInt32.ofNat x.Len.toNat, x.Write⟩ : Seg) = x := hd_full x
      rw [this]; rfl
  · rw [if_neg h1, if_pos hf]
    simp only [takeS]
    rw [if_neg h0, tl_len]
    by_cases h2 : n < x.Len.toNat - f
    · rw [if_pos h2, Nat.min_eq_right (by omega), show n - (x.Len.toNat - f) = 0 by omega, take0]; rfl
    · rw [if_neg h2, Nat.min_eq_left (by omega)]; rfl
theorem rcutL (l : List Seg) (hg : goodS l) : ∀ (nf i f n : Nat) (out : List Seg), out.length ≤ i → i ≤ l.length → l.length - i < nf → f < 18446744073709551616 → n < 18446744073709551616 →
    ref_Cut05L1 l nf (UInt64.ofNat f) (UInt64.ofNat n) out (i : Int) = some (out ++ takeS n (dropS f (l.drop i)))
  | 0, i, f, n, out, _, _, h, _, _ => by omega
  | nf + 1, i, f, n, out, ho, hi, hn, bf, bn => by
    have hl := hg.1
    unfold ref_Cut05L1 ref_Cut05L1B
    by_cases h : i < l.length
    · have hd : l.drop i = l[i] :: l.drop (i + 1) := drop_ix h
      have hp := okS_pos hg.2.1 _ (List.getElem_mem h)
      have hx := l[i].Len.toNat_lt
      rw [hd, bP (by simp only [len]; omega), oS (refCheck l), bE (errS_good hg), oS (ix_nat (getq h))]
      by_cases h1 : f < l[i].Len.toNat
      · have e1 : l[i].Len.toUInt64 - UInt64.ofNat f = UInt64.ofNat (l[i].Len.toNat - f) := by
          apply UInt64.toNat_inj.1
          rw [UInt64.toNat_sub_of_le, UInt32.toNat_toUInt64, UInt64.toNat_ofNat', UInt64.toNat_ofNat']
          · omega
          · rw [UInt64.le_iff_toNat_le, UInt64.toNat_ofNat', UInt32.toNat_toUInt64]; omega
        have e2 : minu64 (l[i].Len.toUInt64 - UInt64.ofNat f) (UInt64.ofNat n) = UInt64.ofNat (min (l[i].Len.toNat - f) n) := by
          rw [e1, minu_nat (by omega) (by omega)]
        have e3 : UInt64.ofNat n - UInt64.ofNat (min (l[i].Len.toNat - f) n) = UInt64.ofNat (n - (l[i].Len.toNat - f)) := by
          rw [sub_ofNat (by omega) (by omega)]; congr 1; omega
        rw [bN (by rw [GE.ge, UInt64.le_iff_toNat_le, UInt64.toNat_ofNat', UInt32.toNat_toUInt64]; omega), e2, takeS_tl h1]
        by_cases h2 : n = 0
        · rw [bN (by rw [GT.gt, UInt64.lt_iff_toNat_lt, UInt64.toNat_ofNat']; simp only [UInt64.reduceToNat]; omega)]
          unfold ref_Cut05J2
          rw [e2, e3, wi_succ (by omega), if_pos h2]
          have := rcutL l hg nf (i + 1) 0 (n - (l[i].Len.toNat - f)) out (by omega) (by omega) (by omega) (by omega) (by omega)
          rw [drop0] at this; exact this
        · rw [bP (by rw [GT.gt, UInt64.lt_iff_toNat_lt, UInt64.toNat_ofNat']; simp only [UInt64.reduceToNat]; omega), cFits (by simp; omega)]
          unfold ref_Cut05J2
          rw [e2, e3, wi_succ (by omega), if_neg h2, to32 _ (by omega)]
          have := rcutL l hg nf (i + 1) 0 (n - (l[i].Len.toNat - f)) (out ++ [⟨l[i].At + UInt64.ofNat f, UInt32.ofNat (min (l[i].Len.toNat - f) n), l[i].Write⟩]) (by simp; omega) (by omega) (by omega) (by omega) (by omega)
          rw [drop0, List.append_assoc] at this; exact this
      · have e1 : UInt64.ofNat f - l[i].Len.toUInt64 = UInt64.ofNat (f - l[i].Len.toNat) := by
          apply UInt64.toNat_inj.1
          rw [UInt64.toNat_sub_of_le, UInt32.toNat_toUInt64, UInt64.toNat_ofNat', UInt64.toNat_ofNat']
          · omega
          · rw [UInt64.le_iff_toNat_le, UInt64.toNat_ofNat', UInt32.toNat_toUInt64]; omega
        rw [bP (by rw [GE.ge, UInt64.le_iff_toNat_le, UInt64.toNat_ofNat', UInt32.toNat_toUInt64]; omega), e1, wi_succ (by omega), rcutL l hg nf (i + 1) _ n out (by omega) (by omega) (by omega) (by omega) bn]
        rw [dropS.eq_2 f, if_neg (by omega), if_neg (by omega)]
    · rw [bN (by simp only [len]; omega), List.drop_of_length_le (by omega)]; simp [dropS, takeS]
theorem rcut_eq (l : List Seg) (a n : UInt64) : ref_Cut05 l a n = some (cutS l a.toNat n.toNat) := by
  unfold ref_Cut05 cutS
  by_cases h : goodS l
  · rw [if_pos h]
    have := rcutL l h fuel 0 a.toNat n.toNat [] (by simp) (by omega) (by have := h.1; unfold fuel; omega) a.toNat_lt n.toNat_lt
    rw [UInt64.ofNat_toNat, UInt64.ofNat_toNat, List.nil_append, List.drop_zero] at this; exact this
  · rw [if_neg h, fuelS]
    unfold ref_Cut05L1 ref_Cut05L1B
    by_cases h2 : (0 : Int) < len l
    · rw [bP h2, oS (refCheck l), bF (errS_bad h)]
    · rw [bN h2]
end Go.Proofs.Ytkmjpgfbcklopaa

end

section
namespace Go.Proofs.Ytkmjpgfbcklopaa
/-- one region from 0 on -/
def rg (n : UInt64) : List Region := [⟨0, n⟩]
def rdF (x : List UInt8) (a n : Nat) : List UInt8 := (x.drop a).take n
def flatOk (n : UInt64) (x : List UInt8) : Prop := 0 < n.toNat ∧ n.toNat ≤ 1048576 ∧ x.length = n.toNat
theorem rg_good {n : UInt64} (h0 : 0 < n.toNat) (h1 : n.toNat ≤ 1048576) : goodM (rg n) := by
  refine ⟨by simp [rg], ?_, by simp [rg, sumM]; exact h1⟩
  simp only [rg, okA, Bool.and_true, decide_eq_true_eq]
  refine ⟨h0, ?_, Nat.zero_le _⟩
  show (0 : UInt64).toNat + _ ≤ _
  simp only [UInt64.reduceToNat]; omega
theorem flat_mem {n : UInt64} {x : List UInt8} (h : flatOk n x) : memOk (rg n) [x] := by
  refine ⟨rg_good h.1 h.2.1, rfl, fun i r y h1 h2 => ?_⟩
  cases i with
  | zero => simp [rg] at h1 h2; subst h1; subst h2; exact h.2.2
  | succ i => simp [rg] at h1
theorem find1 (n : UInt64) (a k : Nat) : findR (rg n) a k = if 0 < k ∧ a + k ≤ n.toNat then some 0 else none := by
  unfold findR
  by_cases h : k = 0
  · rw [if_pos h, if_neg (by omega)]
  · rw [if_neg h]
    simp only [rg, List.findIdx?_cons, List.findIdx?_nil]
    have e : inR a k (⟨0, n⟩ : Region) = decide (a + k ≤ n.toNat) := by
      unfold inR; simp only [UInt64.reduceToNat]
      by_cases q : a + k ≤ n.toNat
      · rw [decide_eq_true q, decide_eq_true (by omega)]
      · rw [decide_eq_false q, decide_eq_false (by omega)]
    rw [e]
    by_cases q : a + k ≤ n.toNat
    · rw [decide_eq_true q, if_pos (show 0 < k ∧ a + k ≤ n.toNat from ⟨by omega, q⟩)]; rfl
    · rw [decide_eq_false q, if_neg (show ¬ (0 < k ∧ a + k ≤ n.toNat) from fun z => q z.2)]; rfl
theorem read1 {n : UInt64} {x : List UInt8} (a k : Nat) : readR (rg n) [x] a k = if 0 < k ∧ a + k ≤ n.toNat then some (rdF x a k) else none := by
  unfold readR
  rw [find1]
  by_cases q : 0 < k ∧ a + k ≤ n.toNat
  · rw [if_pos q, if_pos q]; simp [rg, rdF]
  · rw [if_neg q, if_neg q]
theorem write1 {n : UInt64} {x : List UInt8} (a : Nat) (xs : List UInt8) : writeR (rg n) [x] a xs = if 0 < xs.length ∧ a + xs.length ≤ n.toNat then some [wrF x a xs] else none := by
  unfold writeR
  rw [find1]
  by_cases q : 0 < xs.length ∧ a + xs.length ≤ n.toNat
  · rw [if_pos q, if_pos q]; simp [rg, wrF]
  · rw [if_neg q, if_neg q]
theorem wrF_ok {n : UInt64} {x : List UInt8} {a : Nat} {xs : List UInt8} (h : flatOk n x) (q : a + xs.length ≤ n.toNat) : flatOk n (wrF x a xs) :=
  ⟨h.1, h.2.1, by rw [wrF_len (by rw [h.2.2]; exact q)]; exact h.2.2⟩
theorem has1 (n : UInt64) (s : Seg) : hasS (rg n) s = decide (0 < s.Len.toNat ∧ s.At.toNat + s.Len.toNat ≤ n.toNat) := by
  unfold hasS; rw [find1]
  by_cases q : 0 < s.Len.toNat ∧ s.At.toNat + s.Len.toNat ≤ n.toNat
  · rw [if_pos q, decide_eq_true q]; rfl
  · rw [if_neg q, decide_eq_false q]; rfl
/-- all segments lie within n bytes -/
def inF (n : Nat) (ss : List Seg) : Prop := ∀ s ∈ ss, s.At.toNat + s.Len.toNat ≤ n
instance (n : Nat) (ss : List Seg) : Decidable (inF n ss) := by unfold inF; infer_instance
theorem inF_cons {n : Nat} {s : Seg} {r : List Seg} : inF n (s :: r) ↔ s.At.toNat + s.Len.toNat ≤ n ∧ inF n r := by simp [inF]
theorem inF_filter {n : Nat} {l : List Seg} {p : Seg → Bool} (h : inF n l) : inF n (l.filter p) := fun s hs => h s (List.mem_filter.1 hs).1
theorem all_has {n : UInt64} {ss : List Seg} (hp : posS ss) : ss.all (hasS (rg n)) = true ↔ inF n.toNat ss := by
  rw [List.all_eq_true]
  constructor
  · intro h s hs
    have := h s hs
    rw [has1, decide_eq_true_eq] at this; exact this.2
  · intro h s hs
    rw [has1, decide_eq_true_eq]; exact ⟨hp s hs, h s hs⟩
theorem inE1 (n : UInt64) (ss : List Seg) : inE (rg n) ss = if errS ss = 0 then (if inF n.toNat ss then 0 else 5) else errS ss := by
  unfold inE
  by_cases h : errS ss = 0
  · rw [if_pos h, if_pos h]
    have hp := okS_pos (errS_zero.1 h).2.1
    by_cases q : inF n.toNat ss
    · rw [if_pos q, (all_has hp).2 q]; rfl
    · rw [if_neg q]
      cases e : ss.all (hasS (rg n)) with
      | true => exact absurd ((all_has hp).1 e) q
      | false => rfl
  · rw [if_neg h, if_neg h]
theorem inE1_zero {n : UInt64} {ss : List Seg} : inE (rg n) ss = 0 ↔ goodS ss ∧ inF n.toNat ss := by
  rw [inE1]
  by_cases h : errS ss = 0
  · rw [if_pos h]
    by_cases q : inF n.toNat ss
    · rw [if_pos q]; exact ⟨fun _ => ⟨errS_zero.1 h, q⟩, fun _ => rfl⟩
    · rw [if_neg q]; exact ⟨fun z => (by cases z), fun z => absurd z.2 q⟩
  · rw [if_neg h]; exact ⟨fun z => absurd z h, fun z => absurd (errS_good z.1) h⟩
def gatF (x : List UInt8) (ss : List Seg) : List UInt8 := (ss.map fun s => rdF x s.At.toNat s.Len.toNat).flatten
theorem gatF_cons (x : List UInt8) (s : Seg) (r : List Seg) : gatF x (s :: r) = rdF x s.At.toNat s.Len.toNat ++ gatF x r := by simp [gatF]
theorem gatF_nil (x : List UInt8) : gatF x [] = [] := rfl
theorem gat1 {n : UInt64} {x : List UInt8} : ∀ {ss : List Seg}, posS ss → inF n.toNat ss → gatS (rg n) [x] ss = gatF x ss
  | [], _, _ => rfl
  | s :: r, hp, hi => by
    have h1 := hp s (by simp)
    have h2 := inF_cons.1 hi
    rw [gat_cons, gatF_cons, gat1 (fun t ht => hp t (by simp [ht])) h2.2]
    unfold rdSeg
    rw [read1, if_pos ⟨h1, h2.1⟩]; rfl
theorem rdF_len {x : List UInt8} {a n : Nat} (h : a + n ≤ x.length) : (rdF x a n).length = n := by
  simp only [rdF, List.length_take, List.length_drop]; omega
theorem gatF_len {x : List UInt8} : ∀ {ss : List Seg}, inF x.length ss → (gatF x ss).length = sumS ss
  | [], _ => rfl
  | s :: r, h => by
    have h2 := inF_cons.1 h
    rw [gatF_cons, List.length_append, rdF_len h2.1, gatF_len h2.2]; rfl
def scatF (x : List UInt8) : List Seg → List UInt8 → List UInt8
  | [], _ => x
  | s :: r, xs => scatF (wrF x s.At.toNat (xs.take s.Len.toNat)) r (xs.drop s.Len.toNat)
theorem wr1 {n : UInt64} {x : List UInt8} {a : Nat} {xs : List UInt8} (h : a + xs.length ≤ n.toNat) : wrR (rg n) [x] a xs = [wrF x a xs] := by
  unfold wrR
  rw [write1]
  by_cases q : 0 < xs.length
  · rw [if_pos ⟨q, h⟩]; rfl
  · have : xs = [] := List.eq_nil_of_length_eq_zero (by omega)
    rw [if_neg (fun z => q z.1), this, wrF_nil]; rfl
theorem scat1 {n : UInt64} : ∀ {ss : List Seg} {x xs : List UInt8}, inF n.toNat ss → scatS (rg n) [x] ss xs = [scatF x ss xs]
  | [], _, _, _ => rfl
  | s :: r, x, xs, hi => by
    have h2 := inF_cons.1 hi
    unfold scatS scatF
    rw [wr1 (by rw [List.length_take]; omega)]
    exact scat1 h2.2
/-! parts of what is gathered -/
theorem rdF_take {x : List UInt8} {a m n : Nat} (h : m ≤ n) : rdF x a m = (rdF x a n).take m := by
  simp only [rdF, List.take_take]; rw [Nat.min_eq_left h]
theorem rdF_drop {x : List UInt8} {a m n : Nat} : rdF x (a + m) (n - m) = (rdF x a n).drop m := by
  simp only [rdF, List.drop_take, List.drop_drop]
theorem inF_take {n : Nat} : ∀ {ss : List Seg} {k : Nat}, inF n ss → inF n (takeS k ss)
  | [], k, h => by simpa [takeS] using h
  | s :: r, k, h => by
    have h2 := inF_cons.1 h
    unfold takeS
    by_cases h0 : k = 0
    · rw [if_pos h0]; intro t ht; cases ht
    · rw [if_neg h0]
      by_cases h1 : k < s.Len.toNat
      · rw [if_pos h1]; refine inF_cons.2 ⟨?_, fun t ht => by cases ht⟩
        rw [hd_len h1]; show s.At.toNat + k ≤ n; omega
      · rw [if_neg h1]; exact inF_cons.2 ⟨h2.1, inF_take h2.2⟩
theorem inF_drop {n : Nat} (hn : n ≤ 18446744073709551616) : ∀ {ss : List Seg} {k : Nat}, inF n ss → inF n (dropS k ss)
  | [], k, h => by simpa [dropS] using h
  | s :: r, k, h => by
    have h2 := inF_cons.1 h
    unfold dropS
    by_cases h0 : k = 0
    · rw [if_pos h0]; exact h
    · rw [if_neg h0]
      by_cases h1 : k < s.Len.toNat
      · rw [if_pos h1]; refine inF_cons.2 ⟨?_, h2.2⟩
        rw [tl_len, tl_at h1 (by omega)]; omega
      · rw [if_neg h1]; exact inF_drop hn h2.2
/-! the kinds of segments -/
def allW (w : Bool) (l : List Seg) : Prop := ∀ s ∈ l, s.Write = w
theorem allW_filter (w : Bool) (l : List Seg) : allW w (l.filter (fun s => s.Write == w)) := fun s hs => by simpa using (List.mem_filter.1 hs).2
theorem filter_allW {w : Bool} {l : List Seg} (h : allW w l) : l.filter (fun s => s.Write == w) = l := List.filter_eq_self.2 fun s hs => by simpa using h s hs
theorem filter_allN {w : Bool} {l : List Seg} (h : allW (!w) l) : l.filter (fun s => s.Write == w) = [] := List.filter_eq_nil_iff.2 fun s hs => by rw [h s hs]; cases w <;> decide
theorem allW_take {w : Bool} : ∀ {l : List Seg} {k : Nat}, allW w l → allW w (takeS k l)
  | [], k, h => by simpa [takeS] using h
  | s :: r, k, h => by
    unfold takeS
    by_cases h0 : k = 0
    · rw [if_pos h0]; intro t ht; cases ht
    · rw [if_neg h0]
      by_cases h1 : k < s.Len.toNat
      · rw [if_pos h1]; intro t ht; rw [List.mem_singleton] at ht; subst ht; exact h s (by simp)
      · rw [if_neg h1]; intro t ht
        rcases List.mem_cons.1 ht with e | e
        · subst e; exact h _ (by simp)
        · exact allW_take (fun t ht => h t (by simp [ht])) t e
theorem allW_drop {w : Bool} : ∀ {l : List Seg} {k : Nat}, allW w l → allW w (dropS k l)
  | [], k, h => by simpa [dropS] using h
  | s :: r, k, h => by
    unfold dropS
    by_cases h0 : k = 0
    · rw [if_pos h0]; exact h
    · rw [if_neg h0]
      by_cases h1 : k < s.Len.toNat
      · rw [if_pos h1]; intro t ht
        rcases List.mem_cons.1 ht with e | e
        · subst e; exact h s (by simp)
        · exact h t (by simp [e])
      · rw [if_neg h1]; exact allW_drop (fun t ht => h t (by simp [ht]))
theorem sum_rd : ∀ l : List Seg, sumS (l.filter (fun s => s.Write == false)) = rdS l
  | [] => rfl
  | s :: r => by
    have := sum_rd r
    rw [List.filter_cons]
    cases h : s.Write with
    | true => simp only [rdS, h, if_true]; rw [if_neg (by decide)]; omega
    | false => rw [if_pos (by decide)]; simp only [sumS, rdS, h]; rw [if_neg (by decide)]; omega
theorem ok_allW {w : Bool} : ∀ {p : Bool} {l : List Seg}, okS p l = true → allW w l → (∀ q : Bool, (q = true → w = true) → okS q l = true)
  | _, [], _, _, _, _ => rfl
  | p, s :: r, h, ha, q, hq => by
    simp only [okS, Bool.and_eq_true, decide_eq_true_eq] at h ⊢
    exact ⟨⟨h.1.1, h.1.2.1, fun z => by rw [ha s (by simp)]; exact hq z⟩, h.2⟩
theorem ok_filter {w : Bool} : ∀ {p : Bool} {l : List Seg}, okS p l = true → okS false (l.filter (fun s => s.Write == w)) = true
  | _, [], _ => rfl
  | p, s :: r, h => by
    simp only [okS, Bool.and_eq_true, decide_eq_true_eq] at h
    have ih := ok_filter (w := w) h.2
    rw [List.filter_cons]
    split
    next q =>
      have hw : s.Write = w := by simpa using q
      simp only [okS, Bool.and_eq_true, decide_eq_true_eq]
      refine ⟨⟨h.1.1, h.1.2.1, fun z => by cases z⟩, ?_⟩
      exact ok_allW ih (allW_filter w r) _ (fun z => by rw [← hw]; exact z)
    next q => exact ih
theorem good_filter {w : Bool} {l : List Seg} (h : goodS l) : goodS (l.filter (fun s => s.Write == w)) :=
  ⟨Nat.le_trans (List.length_filter_le _ _) h.1, ok_filter h.2.1, Nat.lt_of_le_of_lt (sum_filter _ l) h.2.2⟩
theorem zer1 (n : UInt64) : zer (rg n) = [List.replicate n.toNat 0] := rfl
/-- what a new memory of n bytes holds -/
def z1 (n : UInt64) : List UInt8 := List.replicate n.toNat 0
theorem z1_ok {n : UInt64} (h0 : 0 < n.toNat) (h1 : n.toNat ≤ 1048576) : flatOk n (z1 n) := ⟨h0, h1, by simp [z1]⟩
theorem new1_eq {n : UInt64} (h0 : 0 < n.toNat) (h1 : n.toNat ≤ 1048576) : gmem_New (rg n) = some (some ⟨rg n, [z1 n]⟩, 0) := by
  rw [new_ok (rg_good h0 h1), zer1]; rfl
theorem gather1 {n : UInt64} {x : List UInt8} (h : flatOk n x) (l : List Seg) (hg : goodS l) (hi : inF n.toNat l) : seg_Gather ⟨rg n, [x]⟩ l = some (gatF x (l.filter (fun s => s.Write == false)), 0) := by
  rw [gather_eq ⟨rg n, [x]⟩ (flat_mem h) l]
  dsimp only
  rw [if_pos (inE1_zero.2 ⟨hg, hi⟩), gat1 (fun s hs => okS_pos hg.2.1 s (List.mem_filter.1 hs).1) (inF_filter hi)]
theorem write1_eq {n : UInt64} {x : List UInt8} (h : flatOk n x) (a : UInt64) (xs : List UInt8) (q : a.toNat + xs.length ≤ n.toNat) : gmem_Mem_Write ⟨rg n, [x]⟩ a xs = some ((0 : Int), [wrF x a.toNat xs]) := by
  have hn := h.2.1
  rw [write_eqM ⟨rg n, [x]⟩ (flat_mem h) a xs (by omega)]
  by_cases e : xs = []
  · rw [if_pos e, e, wrF_nil]
  · have : 0 < xs.length := List.length_pos_iff.2 e
    rw [if_neg e]
    dsimp only
    rw [write1, if_pos ⟨this, q⟩]
theorem image1_eq {n : UInt64} {x : List UInt8} (h : flatOk n x) : gmem_Mem_Image ⟨rg n, [x]⟩ = some x := by
  rw [image_eq ⟨rg n, [x]⟩ (flat_mem h)]; simp
end Go.Proofs.Ytkmjpgfbcklopaa

end

section
namespace Go.Proofs.Ytkmjpgfbcklopaa
/-- cut behind so many bytes each, as long as there are at most so many segments -/
def cutG (most : Nat) : List Int → List Seg → List Seg → List Seg
  | [], out, R => out ++ R
  | c :: cs, out, R => if c ≤ 0 ∨ sumS R ≤ (u64 c).toNat then cutG most cs out R
    else if most < out.length + (takeS (u64 c).toNat R).length + (dropS (u64 c).toNat R).length then out ++ R
    else cutG most cs (out ++ takeS (u64 c).toNat R) (dropS (u64 c).toNat R)
theorem sumS_app : ∀ a b : List Seg, sumS (a ++ b) = sumS a + sumS b
  | [], b => by simp [sumS]
  | x :: a, b => by simp only [List.cons_append, sumS, sumS_app a b]; omega
theorem take_appS : ∀ (a b : List Seg) (n : Nat), posS a → takeS (sumS a + n) (a ++ b) = a ++ takeS n b
  | [], b, n, _ => by simp [sumS]
  | x :: a, b, n, h => by
    have hx := h x (List.mem_cons_self ..)
    simp only [sumS, List.cons_append, takeS]
    rw [if_neg (by omega), if_neg (by omega), show x.Len.toNat + sumS a + n - x.Len.toNat = sumS a + n by omega, take_appS a b n (fun s hs => h s (List.mem_cons_of_mem _ hs))]
theorem drop_appS : ∀ (a b : List Seg) (n : Nat), posS a → dropS (sumS a + n) (a ++ b) = dropS n b
  | [], b, n, _ => by simp [sumS]
  | x :: a, b, n, h => by
    have hx := h x (List.mem_cons_self ..)
    simp only [sumS, List.cons_append, dropS]
    rw [if_neg (by omega), if_neg (by omega), show x.Len.toNat + sumS a + n - x.Len.toNat = sumS a + n by omega, drop_appS a b n (fun s hs => h s (List.mem_cons_of_mem _ hs))]
theorem td_len : ∀ (n : Nat) (R : List Seg), R.length ≤ (takeS n R).length + (dropS n R).length ∧ (takeS n R).length + (dropS n R).length ≤ R.length + 1
  | n, [] => by simp [takeS, dropS]
  | n, x :: r => by
    simp only [takeS, dropS]
    by_cases h0 : n = 0
    · simp only [h0, if_pos, List.length_nil, List.length_cons]; omega
    · by_cases h1 : n < x.Len.toNat
      · simp only [if_neg h0, if_pos h1, List.length_cons, List.length_nil]; omega
      · have := td_len (n - x.Len.toNat) r
        simp only [if_neg h0, if_neg h1, List.length_cons]; omega
theorem posS_app {a b : List Seg} : posS (a ++ b) ↔ posS a ∧ posS b := by
  unfold posS
  constructor
  · intro h; exact ⟨fun s hs => h s (List.mem_append_left _ hs), fun s hs => h s (List.mem_append_right _ hs)⟩
  · rintro ⟨h1, h2⟩ s hs
    rcases List.mem_append.1 hs with q | q
    · exact h1 s q
    · exact h2 s q
/-! covering: the same bytes, in order, of the same kind -/
inductive Cov : List Seg → List Seg → Prop
  | nil : Cov [] []
  | whole (x : Seg) (c l : List Seg) : Cov c l → Cov (x :: c) (x :: l)
  | part (x y : Seg) (c l : List Seg) : x.At = y.At → x.Write = y.Write → 0 < x.Len.toNat → x.Len.toNat < y.Len.toNat → Cov c (tlS y x.Len.toNat :: l) → Cov (x :: c) (y :: l)
theorem cov_refl : ∀ l : List Seg, Cov l l
  | [] => .nil
  | x :: l => .whole x l l (cov_refl l)
theorem cov_append {a b c d : List Seg} (h1 : Cov a b) (h2 : Cov c d) : Cov (a ++ c) (b ++ d) := by
  induction h1 with
  | nil => exact h2
  | whole x c l _ ih => exact .whole x _ _ ih
  | part x y c l e1 e2 e3 e4 _ ih => exact .part x y _ _ e1 e2 e3 e4 ih
theorem hd_tl {y : Seg} {n k : Nat} (h1 : k ≤ n) (h2 : n < y.Len.toNat) : hdS (tlS y k) (n - k) = tlS (hdS y n) k := by
  have := hd_len h2
  simp only [hdS, tlS] at this ⊢
  rw [this]
theorem cov_mergeG {Z L : List Seg} (h : Cov Z L) : ∀ (a : List Seg) (y : Seg) (n : Nat) (l : List Seg), L = a ++ hdS y n :: tlS y n :: l → 0 < n → n < y.Len.toNat → Cov Z (a ++ y :: l) := by
  induction h with
  | nil => intro a y n l e _ _; cases a <;> cases e
  | whole x c l0 h0 ih =>
    intro a y n l e h1 h2
    cases a with
    | nil =>
      simp only [List.nil_append, List.cons.injEq] at e ⊢
      obtain ⟨rfl, rfl⟩ := e
      have hl := hd_len h2
      exact .part _ _ _ _ rfl rfl (by rw [hl]; exact h1) (by rw [hl]; exact h2) (by rw [hl]; exact h0)
    | cons z a =>
      simp only [List.cons_append, List.cons.injEq] at e ⊢
      obtain ⟨rfl, e2⟩ := e
      exact .whole _ _ _ (ih a y n l e2 h1 h2)
  | part x y0 c l0 e1 e2 e3 e4 h0 ih =>
    intro a y n l e h1 h2
    cases a with
    | nil =>
      simp only [List.nil_append, List.cons.injEq] at e ⊢
      obtain ⟨rfl, rfl⟩ := e
      rw [hd_len h2] at e4
      have q := ih [] (tlS y x.Len.toNat) (n - x.Len.toNat) l (by
        rw [List.nil_append, hd_tl (by omega) h2, tl_tl (by omega), show x.Len.toNat + (n - x.Len.toNat) = n by omega]) (by omega) (by rw [tl_len]; omega)
      exact .part _ _ _ _ e1 e2 e3 (by omega) q
    | cons z a =>
      simp only [List.cons_append, List.cons.injEq] at e ⊢
      obtain ⟨rfl, e5⟩ := e
      exact .part _ _ _ _ e1 e2 e3 e4 (ih (tlS y0 x.Len.toNat :: a) y n l (by rw [e5]; rfl) h1 h2)
theorem cov_td {Z : List Seg} : ∀ (R out : List Seg) (n : Nat), Cov Z (out ++ takeS n R ++ dropS n R) → Cov Z (out ++ R)
  | [], out, n, h => by simpa [takeS, dropS] using h
  | x :: r, out, n, h => by
    simp only [takeS, dropS] at h
    by_cases h0 : n = 0
    · simp only [h0, if_pos, List.append_nil] at h; exact h
    · by_cases h1 : n < x.Len.toNat
      · simp only [if_neg h0, if_pos h1, List.append_assoc, List.singleton_append] at h
        exact cov_mergeG h out x n r rfl (by omega) h1
      · simp only [if_neg h0, if_neg h1] at h
        have := cov_td r (out ++ [x]) (n - x.Len.toNat) (by simpa using h)
        simpa using this
theorem cov_cutG (most : Nat) : ∀ (cs : List Int) (out R : List Seg), Cov (cutG most cs out R) (out ++ R)
  | [], out, R => cov_refl _
  | c :: cs, out, R => by
    unfold cutG
    split
    · exact cov_cutG most cs out R
    · split
      · exact cov_refl _
      · have := cov_cutG most cs (out ++ takeS (u64 c).toNat R) (dropS (u64 c).toNat R)
        exact cov_td R out _ this
theorem cutG_len (most : Nat) : ∀ (cs : List Int) (out R : List Seg), out.length + R.length ≤ most → (cutG most cs out R).length ≤ most
  | [], out, R, h => by simpa [cutG] using h
  | c :: cs, out, R, h => by
    unfold cutG
    split
    · exact cutG_len most cs out R h
    · split
      · simpa using h
      · refine cutG_len most cs _ _ ?_
        rw [List.length_append]; omega
theorem cov_sum {c l : List Seg} (h : Cov c l) : sumS c = sumS l := by
  induction h with
  | nil => rfl
  | whole x c l _ ih => simp only [sumS, ih]
  | part x y c l e1 e2 e3 e4 _ ih => simp only [sumS, ih, tl_len]; omega
theorem cov_ok {c l : List Seg} (h : Cov c l) : ∀ w : Bool, okS w l = true → okS w c = true := by
  induction h with
  | nil => intro w h; exact h
  | whole x c l _ ih =>
    intro w h
    unfold okS at h ⊢
    rw [Bool.and_eq_true] at h ⊢
    exact ⟨h.1, ih _ h.2⟩
  | part x y c l e1 e2 e3 e4 _ ih =>
    intro w h
    unfold okS at h ⊢
    rw [Bool.and_eq_true, decide_eq_true_eq] at h ⊢
    obtain ⟨⟨a1, a2, a3⟩, b⟩ := h
    refine ⟨⟨e3, by rw [e1]; omega, by rw [e2]; exact a3⟩, ih _ ?_⟩
    unfold okS
    rw [Bool.and_eq_true, decide_eq_true_eq]
    refine ⟨⟨by rw [tl_len]; omega, ?_, fun q => by rw [e2] at q; exact q⟩, b⟩
    rw [tl_len, tl_at e4 a2]; omega
theorem cov_good {c l : List Seg} (h : Cov c l) (hg : goodS l) (hl : c.length ≤ 64) : goodS c := ⟨hl, cov_ok h _ hg.2.1, by rw [cov_sum h]; exact hg.2.2⟩
theorem drop_pos : ∀ (n : Nat) (R : List Seg), posS R → posS (dropS n R)
  | n, [], h => h
  | n, x :: r, h => by
    have h2 : posS r := fun s hs => h s (List.mem_cons_of_mem _ hs)
    unfold dropS
    by_cases h0 : n = 0
    · rw [if_pos h0]; exact h
    · rw [if_neg h0]
      by_cases h1 : n < x.Len.toNat
      · rw [if_pos h1]
        intro s hs
        rcases List.mem_cons.1 hs with q | q
        · rw [q, tl_len]; omega
        · exact h2 s q
      · rw [if_neg h1]; exact drop_pos _ r h2
theorem ok_td : ∀ (w : Bool) (R : List Seg) (n : Nat), okS w R = true → okS w (takeS n R ++ dropS n R) = true
  | w, [], n, h => h
  | w, x :: r, n, h => by
    have h' := h
    unfold okS at h
    rw [Bool.and_eq_true, decide_eq_true_eq] at h
    obtain ⟨⟨a1, a2, a3⟩, b⟩ := h
    unfold takeS dropS
    by_cases h0 : n = 0
    · rw [if_pos h0, if_pos h0]; exact h'
    · rw [if_neg h0, if_neg h0]
      by_cases h1 : n < x.Len.toNat
      · rw [if_pos h1, if_pos h1, List.singleton_append]
        unfold okS okS
        simp only [Bool.and_eq_true, decide_eq_true_eq]
        refine ⟨⟨by rw [hd_len h1]; omega, by rw [hd_len h1]; show x.At.toNat + _ ≤ _; omega, a3⟩, ⟨by rw [tl_len]; omega, by rw [tl_len, tl_at h1 a2]; omega, fun q => q⟩, b⟩
      · rw [if_neg h1, if_neg h1, List.cons_append]
        unfold okS
        rw [Bool.and_eq_true, decide_eq_true_eq]
        exact ⟨⟨a1, a2, a3⟩, ok_td _ r _ b⟩
theorem ok_pre {R X : List Seg} : ∀ (out : List Seg), (∀ w : Bool, okS w R = true → okS w X = true) → ∀ w : Bool, okS w (out ++ R) = true → okS w (out ++ X) = true
  | [], h, w, q => h w q
  | x :: out, h, w, q => by
    rw [List.cons_append] at q ⊢
    unfold okS at q ⊢
    rw [Bool.and_eq_true] at q ⊢
    exact ⟨q.1, ok_pre out h _ q.2⟩
/-! the program's way -/
theorem splitL (cuts : List Int) (hc : cuts.length ≤ 1000000) (total : UInt64 × UInt64) (A most : Nat) (hA : total.1 + total.2 = UInt64.ofNat A) (hA2 : A < 4294967296) (hm : most ≤ 64) : ∀ (nf i : Nat) (out R : List Seg) (more : Nat), i ≤ cuts.length → cuts.length - i < nf → goodS (out ++ R) → sumS out + sumS R = A → out.length + R.length + more = most →
    blkdrv_splitL1 cuts total nf (out ++ R) (more : Int) (UInt64.ofNat (sumS out)) (i : Int) = some (cutG most (cuts.drop i) out R)
  | 0, i, out, R, more, _, h, _, _, _ => absurd h (Nat.not_lt_zero _)
  | nf + 1, i, out, R, more, hi, hn, hg, hs, hmo => by
    unfold blkdrv_splitL1 blkdrv_splitL1B
    by_cases h : i < cuts.length
    · have g := ix_nat (getq h)
      rw [drop_ix h, bP (by simp only [len]; omega), oS g, wi_succ (by omega)]
      have ih := fun (o R' : List Seg) (m : Nat) (a1 : goodS (o ++ R')) (a2 : sumS o + sumS R' = A) (a3 : o.length + R'.length + m = most) => splitL cuts hc total A most hA hA2 hm nf (i + 1) o R' m (by omega) (by omega) a1 a2 a3
      generalize cuts[i] = c at *
      have hpos := posS_app.1 (okS_pos hg.2.1)
      by_cases h0 : c ≤ 0
      · rw [bP h0, ih out R more hg hs hmo]; simp only [cutG, if_pos (Or.inl h0 : c ≤ 0 ∨ sumS R ≤ (u64 c).toNat)]
      · rw [bN h0, oS g, hA, sub_ofNat (by omega) (by omega), show A - sumS out = sumS R by omega]
        have hnat : (UInt64.ofNat (sumS R)).toNat = sumS R := by rw [UInt64.toNat_ofNat']; omega
        by_cases h1 : sumS R ≤ (u64 c).toNat
        · rw [bP (by rw [GE.ge, le64, hnat]; exact h1), ih out R more hg hs hmo]; simp only [cutG, if_pos (Or.inr h1 : c ≤ 0 ∨ sumS R ≤ (u64 c).toNat)]
        · rw [bN (by rw [GE.ge, le64, hnat]; exact h1), oS g]
          have e1 : UInt64.ofNat (sumS out) + u64 c = UInt64.ofNat (sumS out + (u64 c).toNat) := by rw [UInt64.ofNat_add, UInt64.ofNat_toNat]
          have hcut : cutG most (c :: cuts.drop (i + 1)) out R = if most < out.length + (takeS (u64 c).toNat R).length + (dropS (u64 c).toNat R).length then out ++ R
              else cutG most (cuts.drop (i + 1)) (out ++ takeS (u64 c).toNat R) (dropS (u64 c).toNat R) := by
            conv => lhs; unfold cutG
            rw [if_neg (by omega)]
          rw [hcut]
          generalize (u64 c).toNat = n at *
          have en : (UInt64.ofNat (sumS out + n)).toNat = sumS out + n := by rw [UInt64.toNat_ofNat']; omega
          have eA : (UInt64.ofNat A).toNat = A := by rw [UInt64.toNat_ofNat']; omega
          have c1 : seg_Cut (out ++ R) 0 (UInt64.ofNat (sumS out + n)) = some (out ++ takeS n R) := by
            rw [segCut_eq, en]
            unfold cutS
            rw [if_pos hg, show (0 : UInt64).toNat = 0 from rfl, drop0, take_appS _ _ _ hpos.1]
          have c2 : seg_Cut (out ++ R) (UInt64.ofNat (sumS out + n)) (UInt64.ofNat A) = some (dropS n R) := by
            rw [segCut_eq, en, eA]
            unfold cutS
            rw [if_pos hg, drop_appS _ _ _ hpos.1, take_all]
            · intro s hs'
              have := cov_refl R
              exact drop_pos n R hpos.2 s hs'
            · rw [sum_drop]; omega
          have hl := td_len n R
          have hg2 : out.length + (takeS n R).length + (dropS n R).length ≤ 64 → goodS ((out ++ takeS n R) ++ dropS n R) := fun q => by
            refine ⟨by simpa [Nat.add_assoc] using q, ?_, ?_⟩
            · rw [List.append_assoc]; exact ok_pre out (fun w h => ok_td w R n h) false hg.2.1
            · rw [sumS_app, sumS_app, sum_take, sum_drop]; have := hg.2.2; rw [sumS_app] at this; omega
          have hs2 : sumS (out ++ takeS n R) = sumS out + n := by rw [sumS_app, sum_take]; omega
          have hlen : (out ++ R).length = out.length + R.length := List.length_append ..
          have h64 := hg.1
          rw [e1, oS c1, oS c2, cFits (by simp only [List.length_append]; omega)]
          unfold blkdrv_splitJ2
          rw [e1, wi_succ (by omega)]
          by_cases h2 : out.length + (takeS n R).length + (dropS n R).length > out.length + R.length
          · rw [bP (by simp only [len, List.length_append]; omega)]
            by_cases h3 : more = 0
            · subst h3
              rw [bE (show ((0 : Nat) : Int) = 0 from rfl), if_pos (by omega)]
            · rw [bF (by omega), if_neg (by omega), show wi ((more : Int) - 1) = ((more - 1 : Nat) : Int) from by rw [wi_in (by omega) (by omega)]; omega]
              have := ih (out ++ takeS n R) (dropS n R) (more - 1) (hg2 (by omega)) (by rw [hs2, sum_drop]; omega) (by rw [List.length_append]; omega)
              rw [hs2] at this; exact this
          · rw [bN (by simp only [len, List.length_append]; omega), if_neg (by omega)]
            have := ih (out ++ takeS n R) (dropS n R) more (hg2 (by omega)) (by rw [hs2, sum_drop]; omega) (by rw [List.length_append]; omega)
            rw [hs2] at this; exact this
    · rw [bN (by simp only [len]; omega), List.drop_of_length_le (by omega)]; rfl
/-- the buffer, cut -/
def cutQ (l : List Seg) (cuts : List Int) : List Seg :=
  cutG (64 - (l.filter (fun s => s.Write == true)).length) cuts [] (l.filter (fun s => s.Write == false)) ++
    cutG (64 - (cutG (64 - (l.filter (fun s => s.Write == true)).length) cuts [] (l.filter (fun s => s.Write == false))).length) cuts [] (l.filter (fun s => s.Write == true))
theorem filter_lens (l : List Seg) : (l.filter (fun s => s.Write == false)).length + (l.filter (fun s => s.Write == true)).length = l.length := by
  induction l with
  | nil => rfl
  | cons x l ih => cases h : x.Write <;> simp [List.filter_cons, h] <;> simp at ih <;> omega
theorem split_eq {l : List Seg} (hg : goodS l) (cuts : List Int) (hc : cuts.length ≤ 1000000) (more : Nat) (hm : l.length + more ≤ 64) : blkdrv_split l cuts (more : Int) = some (cutG (l.length + more) cuts [] l) := by
  unfold blkdrv_split
  have hs := sum_rw l
  have hlt := hg.2.2
  have ht : totS l = (UInt64.ofNat (rdS l), UInt64.ofNat (wrS l)) := by unfold totS; rw [if_pos hg]
  rw [oS (segTotal l), ht]
  have := splitL cuts hc (UInt64.ofNat (rdS l), UInt64.ofNat (wrS l)) (sumS l) (l.length + more) (by rw [hs, UInt64.ofNat_add]) hlt hm fuel 0 [] l more (by omega) (by rw [fuelS]; omega) hg (by simp [sumS]) (by simp)
  simpa [sumS] using this
theorem bcut_eq (l : List Seg) (cuts : List Int) (hc : cuts.length ≤ 1000000) : blkdrv_Cut l cuts = some (if goodS l then cutQ l cuts else []) := by
  unfold blkdrv_Cut
  rw [oS (segCheck l)]
  by_cases hg : goodS l
  · have h64 := hg.1
    have hl := filter_lens l
    have gr := good_filter (w := false) hg
    have gw := good_filter (w := true) hg
    rw [nE (errS_good hg), oS (part_eq hg false), oS (part_eq hg true), if_pos hg]
    unfold cutQ
    generalize l.filter (fun s => s.Write == false) = r at *
    generalize l.filter (fun s => s.Write == true) = w at *
    have e1 : wi ((64 : Int) - len l) = ((64 - l.length : Nat) : Int) := by simp only [len]; rw [wi_in (by omega) (by omega)]; omega
    have s1 := split_eq gr cuts hc (64 - l.length) (by omega)
    rw [show r.length + (64 - l.length) = 64 - w.length by omega] at s1
    rw [e1, oS s1]
    have la := cutG_len (64 - w.length) cuts [] r (by simp only [List.length_nil]; omega)
    generalize cutG (64 - w.length) cuts [] r = a at *
    have e2 : wi (wi ((64 : Int) - len a) - len w) = ((64 - a.length - w.length : Nat) : Int) := by
      simp only [len]; rw [wi_in (by rw [wi_in (by omega) (by omega)]; omega) (by rw [wi_in (by omega) (by omega)]; omega), wi_in (by omega) (by omega)]; omega
    have s2 := split_eq gw cuts hc (64 - a.length - w.length) (by omega)
    rw [show w.length + (64 - a.length - w.length) = 64 - a.length by omega] at s2
    have lb := cutG_len (64 - a.length) cuts [] w (by simp only [List.length_nil]; omega)
    rw [e2, oS s2, cFits (by omega)]
  · rw [nF (errS_bad hg), if_neg hg]
theorem cov_cutQ {l : List Seg} (hg : goodS l) (cuts : List Int) : Cov (cutQ l cuts) l := by
  have h := cov_append (cov_cutG (64 - (l.filter (fun s => s.Write == true)).length) cuts [] (l.filter (fun s => s.Write == false)))
    (cov_cutG (64 - (cutG (64 - (l.filter (fun s => s.Write == true)).length) cuts [] (l.filter (fun s => s.Write == false))).length) cuts [] (l.filter (fun s => s.Write == true)))
  rw [List.nil_append, List.nil_append, part_both hg.2.1] at h
  exact h
theorem cutQ_len {l : List Seg} (hg : goodS l) (cuts : List Int) : (cutQ l cuts).length ≤ 64 := by
  have h64 := hg.1
  have hl := filter_lens l
  unfold cutQ
  generalize l.filter (fun s => s.Write == false) = r at *
  generalize l.filter (fun s => s.Write == true) = w at *
  have la := cutG_len (64 - w.length) cuts [] r (by simp only [List.length_nil]; omega)
  generalize cutG (64 - w.length) cuts [] r = a at *
  have lb := cutG_len (64 - a.length) cuts [] w (by simp only [List.length_nil]; omega)
  rw [List.length_append]; omega
theorem cutQ_good {l : List Seg} (hg : goodS l) (cuts : List Int) : goodS (cutQ l cuts) := cov_good (cov_cutQ hg cuts) hg (cutQ_len hg cuts)
end Go.Proofs.Ytkmjpgfbcklopaa

end

section
namespace Go.Proofs.Ytkmjpgfbcklopaa
theorem cov_in {n : Nat} (hn : n ≤ 18446744073709551616) {c l : List Seg} (h : Cov c l) : inF n l → inF n c := by
  induction h with
  | nil => exact id
  | whole x c l _ ih => intro h; rw [inF_cons] at h ⊢; exact ⟨h.1, ih h.2⟩
  | part x y c l e1 e2 e3 e4 _ ih =>
    intro h
    rw [inF_cons] at h ⊢
    refine ⟨by rw [e1]; omega, ih ?_⟩
    rw [inF_cons]
    refine ⟨?_, h.2⟩
    have hy := y.Len.toNat_lt
    rw [tl_len]
    unfold tlS
    dsimp only
    rw [UInt64.toNat_add, UInt64.toNat_ofNat']
    have h1 := h.1
    rcases Nat.lt_or_ge (y.At.toNat + x.Len.toNat) 18446744073709551616 with q | q <;> omega
theorem cov_gat (x : List UInt8) {c l : List Seg} (h : Cov c l) : inF x.length l → x.length ≤ 18446744073709551616 → gatF x c = gatF x l := by
  intro h1 h2
  induction h with
  | nil => rfl
  | whole s c l _ ih => rw [inF_cons] at h1; rw [gatF_cons, gatF_cons, ih h1.2]
  | part s y c l e1 e2 e3 e4 _ ih =>
    rw [inF_cons] at h1
    have ht : (tlS y s.Len.toNat).At.toNat = y.At.toNat + s.Len.toNat := by
      have hy := y.Len.toNat_lt
      unfold tlS
      dsimp only
      rw [UInt64.toNat_add, UInt64.toNat_ofNat']
      have := h1.1; omega
    have hi : inF x.length (tlS y s.Len.toNat :: l) := by
      rw [inF_cons]
      refine ⟨?_, h1.2⟩
      have := h1.1
      rw [ht, tl_len]; omega
    rw [gatF_cons, gatF_cons, ih hi, gatF_cons, ht, tl_len, e1, ← List.append_assoc]
    congr 1
    unfold rdF
    rw [show y.Len.toNat = s.Len.toNat + (y.Len.toNat - s.Len.toNat) by omega, List.take_add, List.drop_drop, show s.Len.toNat + (y.Len.toNat - s.Len.toNat) - s.Len.toNat = y.Len.toNat - s.Len.toNat by omega]

theorem rgather1 {n : UInt64} {x : List UInt8} (h : flatOk n x) (l : List Seg) (hg : goodS l) (hi : inF n.toNat l) : ref_Gather05 ⟨rg n, [x]⟩ l = some (gatF x (l.filter (fun s => s.Write == false)), 0) := by
  rw [rgather_eq ⟨rg n, [x]⟩ (flat_mem h) l]
  dsimp only
  rw [if_pos (inE1_zero.2 ⟨hg, hi⟩), gat1 (fun s hs => okS_pos hg.2.1 s (List.mem_filter.1 hs).1) (inF_filter hi)]

theorem rwrite1 {n : UInt64} {x : List UInt8} (h : flatOk n x) (a : UInt64) (xs : List UInt8) (q : a.toNat + xs.length ≤ n.toNat) : ref_Mem_Write02 ⟨rg n, [x]⟩ a xs = some ((0 : Int), [wrF x a.toNat xs]) := by
  have hn := h.2.1
  rw [rwrite_eq ⟨rg n, [x]⟩ (flat_mem h) a xs (by omega)]
  by_cases e : xs = []
  · rw [if_pos e, e, wrF_nil]
  · have : 0 < xs.length := List.length_pos_iff.2 e
    rw [if_neg e]
    dsimp only
    rw [write1, if_pos ⟨this, q⟩]

theorem rnew1 {n : UInt64} (h0 : 0 < n.toNat) (h1 : n.toNat ≤ 1048576) : ref_New02 (rg n) = some (some ⟨rg n, [z1 n]⟩, 0) := by
  rw [rnew_ok (rg_good h0 h1)]; rfl

theorem rimage1 {n : UInt64} {x : List UInt8} (h : flatOk n x) : ref_Mem_Image02 ⟨rg n, [x]⟩ = some x := by
  rw [rimage_eq ⟨rg n, [x]⟩ (flat_mem h)]; simp

theorem rscatter1 {n : UInt64} {x : List UInt8} (h : flatOk n x) (l : List Seg) (xs : List UInt8) (hx : xs.length ≤ 100000000) (hg : goodS l) (hi : inF n.toNat l) : ref_Scatter05 ⟨rg n, [x]⟩ l xs = some (((min xs.length (wrS l) : Nat) : Int), (0 : Int), [scatF x (l.filter (fun s => s.Write == true)) xs]) := by
  rw [rscatter_eq ⟨rg n, [x]⟩ (flat_mem h) l xs hx]
  dsimp only
  rw [if_pos (inE1_zero.2 ⟨hg, hi⟩), scat1 (inF_filter hi)]

end Go.Proofs.Ytkmjpgfbcklopaa

end

section
namespace Go.Proofs.Ytkmjpgfbcklopaa
theorem n32' {n : Nat} (h : n ≤ 4000000000) : (UInt32.ofNat n).toNat = n := by rw [UInt32.toNat_ofNat']; omega
theorem n64' {n : Nat} (h : n ≤ 4000000000) : (UInt64.ofNat n).toNat = n := by rw [UInt64.toNat_ofNat']; omega
theorem cD' {P : Prop} [Decidable P] {ρ : Type} {k : Option ρ} (h : P) : chk (decide P) k = k := by rw [decide_eq_true h]; rfl
/-- how many bytes a request takes, its answer with it -/
def sizeQ (r : Req) : Nat := (reqB r).length + r.Room.toNat + 1
theorem size_eq (r : Req) (hd : r.Data.length ≤ 6000) (hr : r.Room ≤ 6000) : blkdrv_Size r = some (if okQ r then ((sizeQ r : Nat) : Int) else 0, if okQ r then 0 else 2) := by
  unfold blkdrv_Size
  rw [oS (blkBytes_eq r (by omega))]
  by_cases h : okQ r
  · have hl := reqB_len r
    obtain ⟨h1, h2, h3⟩ := h
    have h : okQ r := ⟨h1, h2, h3⟩
    simp only [if_pos h]
    rw [nE rfl]
    have e : wi (wi (len (reqB r) + r.Room) + 1) = ((sizeQ r : Nat) : Int) := by
      unfold sizeQ
      simp only [len]
      rw [wi_in (by rw [wi_in (by omega) (by omega)]; omega) (by rw [wi_in (by omega) (by omega)]; omega), wi_in (by omega) (by omega)]; omega
    rw [e]
  · simp only [if_neg h]
    rw [nF (by decide)]
/-- the buffer of a request, in two -/
def twoS (a n m : Nat) : List Seg := [⟨UInt64.ofNat a, UInt32.ofNat n, false⟩, ⟨UInt64.ofNat (a + n), UInt32.ofNat m, true⟩]
theorem two_good {a n m : Nat} (h1 : 0 < n) (h2 : 0 < m) (h : a + n + m ≤ 100000) : goodS (twoS a n m) := by
  have e1 := n32' (n := n) (by omega)
  have e2 := n32' (n := m) (by omega)
  have e3 := n64' (n := a) (by omega)
  have e4 := n64' (n := a + n) (by omega)
  refine ⟨by simp [twoS], ?_, ?_⟩
  · unfold twoS okS okS okS
    simp only [e1, e2, e3, e4, Bool.and_true, Bool.and_eq_true, decide_eq_true_eq]
    exact ⟨⟨by omega, by omega, fun q => by cases q⟩, by omega, by omega, fun _ => trivial⟩
  · simp only [twoS, sumS, e1, e2]; omega
theorem lay_far {x : List UInt8} (hx : flatOk 16384 x) (a : UInt64) (r : Req) (cuts : List Int) (hd : r.Data.length ≤ 6000) (hr : r.Room ≤ 6000) (h : okQ r) (hf : 16384 < a.toNat + sizeQ r) : blkdrv_Lay ⟨rg 16384, [x]⟩ a r cuts = some ([], 5, [x]) := by
  obtain ⟨h1, h2, h3⟩ := h
  have h : okQ r := ⟨h1, h2, h3⟩
  have hl := reqB_len r
  have e1 : u64 r.Room = UInt64.ofNat r.Room.toNat := by
    have : r.Room = ((r.Room.toNat : Nat) : Int) := by omega
    rw [this, u64_of]; rfl
  have e2 : u64 (len (reqB r)) + u64 r.Room + 1 = UInt64.ofNat (sizeQ r) := by
    rw [show len (reqB r) = (((reqB r).length : Nat) : Int) from rfl, u64_of, e1, ← UInt64.ofNat_add]
    unfold sizeQ; rw [UInt64.ofNat_add _ 1]; rfl
  have hsz : sizeQ r ≤ 100000 := by unfold sizeQ; omega
  unfold blkdrv_Lay
  rw [oS (blkBytes_eq r (by omega)), if_pos h, nE rfl]
  dsimp only
  rw [e2, oS (has_eq _ (flat_mem hx) _ _), find1, n64' (by omega), if_neg (by rintro ⟨_, q⟩; have : (16384 : UInt64).toNat = 16384 := rfl; omega)]
  rw [show (!(none : Option Nat).isSome) = true from rfl, brT]
  rfl
theorem lay_ok {x : List UInt8} (hx : flatOk 16384 x) (a : Nat) (r : Req) (cuts : List Int) (hd : r.Data.length ≤ 6000) (hr : r.Room ≤ 6000) (h : okQ r) (hf : a + sizeQ r ≤ 16384) (hc : cuts.length ≤ 1000000) :
    blkdrv_Lay ⟨rg 16384, [x]⟩ (UInt64.ofNat a) r cuts = some (cutQ (twoS a (reqB r).length (r.Room.toNat + 1)) cuts, 0, [wrF x a (reqB r ++ List.replicate (r.Room.toNat + 1) 0)]) := by
  obtain ⟨h1, h2, h3⟩ := h
  have h : okQ r := ⟨h1, h2, h3⟩
  have hl := reqB_len r
  have e1 : u64 r.Room = UInt64.ofNat r.Room.toNat := by
    have : r.Room = ((r.Room.toNat : Nat) : Int) := by omega
    rw [this, u64_of]; rfl
  have e3 : u64 (len (reqB r)) = UInt64.ofNat (reqB r).length := u64_of _
  have e2 : u64 (len (reqB r)) + u64 r.Room + 1 = UInt64.ofNat (sizeQ r) := by
    rw [e3, e1, ← UInt64.ofNat_add]
    unfold sizeQ; rw [UInt64.ofNat_add _ 1]; rfl
  have hsz : sizeQ r = (reqB r).length + r.Room.toNat + 1 := rfl
  have e4 : wi (r.Room + 1) = ((r.Room.toNat + 1 : Nat) : Int) := by rw [wi_in (by omega) (by omega)]; omega
  have e5 : (u64 (len (reqB r))).toUInt32 = UInt32.ofNat (reqB r).length := by rw [e3, to32 _ (by omega)]
  have hg := two_good (a := a) (n := (reqB r).length) (m := r.Room.toNat + 1) (by omega) (by omega) (by omega)
  have hcut := bcut_eq (twoS a (reqB r).length (r.Room.toNat + 1)) cuts hc
  rw [if_pos hg] at hcut
  unfold blkdrv_Lay
  rw [oS (blkBytes_eq r (by omega)), if_pos h, nE rfl]
  dsimp only
  rw [e2, oS (has_eq _ (flat_mem hx) _ _), find1, n64' (by omega), n64' (by omega), if_pos ⟨by omega, hf⟩]
  rw [show (!(some 0 : Option Nat).isSome) = false from rfl, brF, e5, e3, e4, u32_of, ← UInt64.ofNat_add]
  refine Eq.trans (oS hcut) ?_
  have hw := write1_eq hx (UInt64.ofNat a) (reqB r ++ List.replicate (r.Room.toNat + 1) 0) (by rw [n64' (by omega), List.length_append, List.length_replicate]; show _ ≤ 16384; omega)
  rw [n64' (by omega)] at hw
  have hlay : blkdrv_Lay_1 0 ⟨rg 16384, [x]⟩ (UInt64.ofNat a) (reqB r) r = some [wrF x a (reqB r ++ List.replicate (r.Room.toNat + 1) 0)] := by
    unfold blkdrv_Lay_1
    rw [bE rfl, e4, cD' (by omega), Int.toNat_natCast, oS hw]
  rw [oS hlay]
end Go.Proofs.Ytkmjpgfbcklopaa

end

section
namespace Go.Proofs.Ytkmjpgfbcklopaa
/-- read, not written -/
def offS (s : Seg) : Seg := ⟨s.At, s.Len, false⟩
theorem off_ok : ∀ {l : List Seg} (w : Bool), okS w l = true → okS false (l.map offS) = true
  | [], _, _ => rfl
  | x :: l, w, h => by
    unfold okS at h
    rw [Bool.and_eq_true, decide_eq_true_eq] at h
    rw [List.map_cons]
    unfold okS
    rw [Bool.and_eq_true, decide_eq_true_eq]
    exact ⟨⟨h.1.1, h.1.2.1, fun q => by cases q⟩, off_ok _ h.2⟩
theorem off_sum (l : List Seg) : sumS (l.map offS) = sumS l := by
  induction l with
  | nil => rfl
  | cons x l ih => simp only [List.map_cons, sumS, ih]; rfl
theorem off_good {l : List Seg} (h : goodS l) : goodS (l.map offS) := ⟨by rw [List.length_map]; exact h.1, off_ok _ h.2.1, by rw [off_sum]; exact h.2.2⟩
theorem off_filter (l : List Seg) : (l.map offS).filter (fun s => s.Write == false) = l.map offS := by
  rw [List.filter_eq_self]
  intro s hs
  obtain ⟨y, _, rfl⟩ := List.mem_map.1 hs
  rfl
theorem off_gat (x : List UInt8) (l : List Seg) : gatF x (l.map offS) = gatF x l := by
  induction l with
  | nil => rfl
  | cons s l ih => rw [List.map_cons, gatF_cons, gatF_cons, ih]; rfl
theorem off_in {n : Nat} {l : List Seg} (h : inF n l) : inF n (l.map offS) := by
  intro s hs
  obtain ⟨y, hy, rfl⟩ := List.mem_map.1 hs
  exact h y hy
theorem set_off {p : List Seg} {i : Nat} (h : i < p.length) : ((p.take i).map offS ++ p.drop i).set i (offS p[i]) = (p.take (i + 1)).map offS ++ p.drop (i + 1) := by
  have hl : ((p.take i).map offS).length = i := by rw [List.length_map, List.length_take]; omega
  rw [drop_ix h, List.set_append_right _ _ (by omega), hl, Nat.sub_self, List.set_cons_zero, List.take_succ_eq_append_getElem h, List.map_append, List.append_assoc]
  rfl
theorem off_at {p : List Seg} {i : Nat} (h : i < p.length) : ((p.take i).map offS ++ p.drop i)[i]? = some p[i] := by
  have hl : ((p.take i).map offS).length = i := by rw [List.length_map, List.length_take]; omega
  rw [drop_ix h, List.getElem?_append_right (by omega), hl, Nat.sub_self]; rfl
end Go.Proofs.Ytkmjpgfbcklopaa

end

section
namespace Go.Proofs.Ytkmjpgfbcklopaa
/-- the result, out of memory x -/
def resQ (x : List UInt8) (l : List Seg) (w : UInt32) : List UInt8 × UInt8 × Int :=
  if inE (rg 16384) l ≠ 0 then ([], 0, inE (rg 16384) l)
  else if wrS l = 0 then ([], 0, 2)
  else if w.toNat = 0 ∨ wrS l < w.toNat then ([], 0, 4)
  else match (gatF x (l.filter (fun s => s.Write == true)))[wrS l - 1]? with
    | none => ([], 0, 0)
    | some y => if y = 0 then ((gatF x (l.filter (fun s => s.Write == true))).take (w.toNat - 1), 0, 0) else ([], y, 0)
/-- written bytes, within the buffer -/
theorem wr_len {x : List UInt8} (hx : flatOk 16384 x) {l : List Seg} (h : inE (rg 16384) l = 0) : (gatF x (l.filter (fun s => s.Write == true))).length = wrS l := by
  obtain ⟨hg, hi⟩ := inE1_zero.1 h
  rw [gatF_len (by rw [hx.2.2]; exact inF_filter hi), sum_wr]
theorem resultL {x : List UInt8} (hx : flatOk 16384 x) (l : List Seg) (h : inE (rg 16384) l = 0) (w : UInt32) (tot : UInt64 × UInt64) (ht : tot.2 = UInt64.ofNat (wrS l)) (hw0 : wrS l ≠ 0) (hw1 : w.toNat ≠ 0) (hw2 : w.toNat ≤ wrS l) :
    ∀ (nf i : Nat), i ≤ (l.filter (fun s => s.Write == true)).length → (l.filter (fun s => s.Write == true)).length - i < nf →
      blkdrv_ResultL1 ⟨rg 16384, [x]⟩ w (l.filter (fun s => s.Write == true)) tot nf (((l.filter (fun s => s.Write == true)).take i).map offS ++ (l.filter (fun s => s.Write == true)).drop i) (i : Int) = some (resQ x l w)
  | 0, i, _, q => absurd q (Nat.not_lt_zero _)
  | nf + 1, i, hi, hn => by
    have hlen := wr_len hx h
    obtain ⟨hg, hin⟩ := inE1_zero.1 h
    have gp := good_filter (w := true) hg
    have ip := inF_filter (p := fun s => s.Write == true) hin
    have ih := resultL hx l h w tot ht hw0 hw1 hw2 nf (i + 1)
    have hb := sum_rw l
    have hlt := hg.2.2
    generalize hpp : l.filter (fun s => s.Write == true) = p at *
    have h64 := gp.1
    unfold blkdrv_ResultL1 blkdrv_ResultL1B
    by_cases hlt2 : i < p.length
    · have e : Seg.mk p[i].At p[i].Len false = offS p[i] := rfl
      rw [bP (by simp only [len]; omega), oS (ix_nat (off_at hlt2)), Int.toNat_natCast, e, set_off hlt2, wi_succ (by omega)]
      exact ih (by omega) (by omega)
    · rw [bN (by simp only [len]; omega), List.take_of_length_le (by omega), List.drop_of_length_le (by omega), List.append_nil]
      rw [oS (gather1 hx _ (off_good gp) (off_in ip)), off_filter, off_gat, nE rfl]
      dsimp only
      have e1 : ((tot.2 - 1).toNat : Int) = ((wrS l - 1 : Nat) : Int) := by
        rw [ht, sub64 (by rw [UInt64.toNat_ofNat']; simp only [UInt64.reduceToNat]; omega), UInt64.toNat_ofNat']
        simp only [UInt64.reduceToNat]
        rw [Nat.mod_eq_of_lt (by omega)]
      have e2 : ((w - 1).toNat : Int) = ((w.toNat - 1 : Nat) : Int) := by
        rw [UInt32.toNat_sub_of_le _ _ (by rw [UInt32.le_iff_toNat_le]; simp only [UInt32.reduceToNat]; omega)]; rfl
      rw [e1, e2]
      have hgq : wrS l - 1 < (gatF x p).length := by omega
      rw [oS (ix_nat (getq hgq))]
      unfold resQ
      rw [if_neg (by simp [h]), if_neg hw0, if_neg (by omega), hpp, getq hgq]
      dsimp only
      by_cases hy : (gatF x p)[wrS l - 1] = 0
      · rw [nE hy, cD' (by simp only [len]; omega), sub_to, Int.toNat_natCast, if_pos hy, hy]
      · rw [nF hy, if_neg hy]
theorem result_eq {x : List UInt8} (hx : flatOk 16384 x) (l : List Seg) (w : UInt32) : blkdrv_Result ⟨rg 16384, [x]⟩ l w = some (resQ x l w) := by
  unfold blkdrv_Result
  rw [oS (segIn_eq _ (flat_mem hx) l)]
  by_cases h : inE (rg 16384) l = 0
  · obtain ⟨hg, hin⟩ := inE1_zero.1 h
    have hb := sum_rw l
    have hlt := hg.2.2
    have gp := good_filter (w := true) hg
    have ht : (totS (l.filter (fun s => s.Write == true))).2 = UInt64.ofNat (wrS l) := by
      unfold totS; rw [if_pos gp]
      have h1 := sum_rw (l.filter (fun s => s.Write == true))
      have h2 := sum_wr l
      have h3 : rdS (l.filter (fun s => s.Write == true)) = 0 := by
        have := sum_rd (l.filter (fun s => s.Write == true))
        rw [filter_allN (w := false) (allW_filter true l)] at this
        exact this.symm
      dsimp only; congr 1; omega
    have en : (UInt64.ofNat (wrS l)).toNat = wrS l := by rw [UInt64.toNat_ofNat']; omega
    rw [nE h, oS (part_eq hg true), oS (segTotal _), ht]
    by_cases h0 : wrS l = 0
    · rw [bE (by rw [h0]; rfl)]
      unfold resQ; rw [if_neg (by simp [h]), if_pos h0]
    · rw [bF (fun q => h0 (by have := congrArg UInt64.toNat q; rw [en] at this; simpa using this))]
      by_cases h1 : w = 0
      · rw [bE h1]
        unfold resQ; rw [if_neg (by simp [h]), if_neg h0, if_pos (Or.inl (by rw [h1]; rfl))]
      · have h1' : w.toNat ≠ 0 := fun q => h1 (UInt32.toNat_inj.1 (by simpa using q))
        rw [bF h1]
        by_cases h2 : wrS l < w.toNat
        · rw [bP (by rw [GT.gt, lt64, en, UInt32.toNat_toUInt64]; exact h2)]
          unfold resQ; rw [if_neg (by simp [h]), if_neg h0, if_pos (Or.inr h2)]
        · rw [bN (by rw [GT.gt, lt64, en, UInt32.toNat_toUInt64]; exact h2)]
          have := resultL hx l h w _ ht h0 h1' (by omega) fuel 0 (by omega) (by rw [fuelS]; have := gp.1; omega)
          rw [List.take_zero, List.drop_zero] at this
          exact this
  · rw [nF h]
    unfold resQ; rw [if_pos h]
end Go.Proofs.Ytkmjpgfbcklopaa

end

section
namespace Go.Proofs.Ytkmjpgfbcklopaa
theorem lives22B : law22zlives = some true := by kernel_rfl
theorem memy22 : law22zmemory = some (rg 16384) := rfl
theorem light_eqB (r : Req) : ∃ b, kit_LightReq r 6000 = some b ∧ (b = true → r.Data.length ≤ 6000 ∧ r.Ranges.length ≤ 40 ∧ r.Room ≤ 6000) := by
  unfold kit_LightReq
  by_cases h1 : len r.Data ≤ 6000
  · rw [bP h1]
    by_cases h2 : len r.Ranges ≤ 40
    · rw [bP h2]
      refine ⟨_, rfl, fun q => ?_⟩
      simp only [len] at h1 h2
      have := of_decide_eq_true q
      omega
    · rw [bN h2]; exact ⟨false, rfl, fun q => by cases q⟩
  · rw [bN h1]; exact ⟨false, rfl, fun q => by cases q⟩
theorem kreq_eqB (r : Req) (h1 : r.Data.length ≤ 1000000) (h2 : r.Ranges.length ≤ 1000) : kit_Req r = some r := by
  unfold kit_Req
  rw [oS (own_eq r.Data (by omega)), cFits (by simp; omega)]
/-! what covers is the same part by part -/
theorem cov_filt (w : Bool) {c l : List Seg} (h : Cov c l) : Cov (c.filter (fun s => s.Write == w)) (l.filter (fun s => s.Write == w)) := by
  induction h with
  | nil => exact .nil
  | whole x c l _ ih =>
    by_cases q : (x.Write == w) = true
    · rw [List.filter_cons_of_pos (p := fun s : Seg => s.Write == w) q, List.filter_cons_of_pos (p := fun s : Seg => s.Write == w) q]; exact .whole x _ _ ih
    · rw [List.filter_cons_of_neg (p := fun s : Seg => s.Write == w) q, List.filter_cons_of_neg (p := fun s : Seg => s.Write == w) q]; exact ih
  | part x y c l e1 e2 e3 e4 _ ih =>
    by_cases q : (y.Write == w) = true
    · rw [List.filter_cons_of_pos (p := fun s : Seg => s.Write == w) (by rw [e2]; exact q), List.filter_cons_of_pos (p := fun s : Seg => s.Write == w) q]
      rw [List.filter_cons_of_pos (p := fun s : Seg => s.Write == w) (show ((tlS y x.Len.toNat).Write == w) = true from q)] at ih
      exact .part x y _ _ e1 e2 e3 e4 ih
    · rw [List.filter_cons_of_neg (p := fun s : Seg => s.Write == w) (by rw [e2]; exact q), List.filter_cons_of_neg (p := fun s : Seg => s.Write == w) q]
      rw [List.filter_cons_of_neg (p := fun s : Seg => s.Write == w) (show ¬ ((tlS y x.Len.toNat).Write == w) = true from q)] at ih
      exact ih
theorem wrF_twoB {x xs ys : List UInt8} {a : Nat} (h : a + xs.length + ys.length ≤ x.length) : wrF (wrF x a xs) (a + xs.length) ys = wrF x a (xs ++ ys) := by
  have e1 : (x.take a ++ xs).length = a + xs.length := by simp; omega
  have e2 : (wrF x a xs).take (a + xs.length) = x.take a ++ xs := by unfold wrF; exact List.take_left' e1
  have e3 : (wrF x a xs).drop (a + xs.length + ys.length) = x.drop (a + xs.length + ys.length) := by
    unfold wrF; rw [List.drop_append, e1, List.drop_of_length_le (by rw [e1]; omega), List.nil_append, List.drop_drop]
    refine congrArg (fun t => x.drop t) ?_; omega
  rw [wrF, e2, e3]
  unfold wrF
  simp [Nat.add_assoc]
theorem cov_scatB {c l : List Seg} (h : Cov c l) : ∀ (x xs : List UInt8), inF x.length l → x.length ≤ 18446744073709551616 → scatF x c xs = scatF x l xs := by
  induction h with
  | nil => intro x xs _ _; rfl
  | whole s c l _ ih =>
    intro x xs h1 h2
    rw [inF_cons] at h1
    unfold scatF
    have e := wrF_len (x := x) (a := s.At.toNat) (xs := xs.take s.Len.toNat) (by rw [List.length_take]; omega)
    exact ih _ _ (by rw [e]; exact h1.2) (by rw [e]; exact h2)
  | part s y c l e1 e2 e3 e4 _ ih =>
    intro x xs h1 h2
    rw [inF_cons] at h1
    have ht : (tlS y s.Len.toNat).At.toNat = y.At.toNat + s.Len.toNat := by
      have hy := y.Len.toNat_lt
      unfold tlS
      dsimp only
      rw [UInt64.toNat_add, UInt64.toNat_ofNat']
      have := h1.1; omega
    have el := wrF_len (x := x) (a := y.At.toNat) (xs := xs.take s.Len.toNat) (by rw [List.length_take]; omega)
    have hi : inF (wrF x y.At.toNat (xs.take s.Len.toNat)).length (tlS y s.Len.toNat :: l) := by
      rw [el, inF_cons]
      refine ⟨?_, h1.2⟩
      have := h1.1
      rw [ht, tl_len]; omega
    have hI := ih (wrF x y.At.toNat (xs.take s.Len.toNat)) (xs.drop s.Len.toNat) hi (by rw [el]; exact h2)
    conv => lhs; unfold scatF
    rw [e1, hI]
    unfold scatF
    rw [ht, tl_len, List.drop_drop, show s.Len.toNat + (y.Len.toNat - s.Len.toNat) = y.Len.toNat by omega]
    refine congrArg (fun z => scatF z l (xs.drop y.Len.toNat)) ?_
    have et : xs.take y.Len.toNat = xs.take s.Len.toNat ++ (xs.drop s.Len.toNat).take (y.Len.toNat - s.Len.toNat) := by
      rw [← List.take_add]; congr 1; omega
    rcases Nat.lt_or_ge xs.length s.Len.toNat with q | q
    · have en : xs.drop s.Len.toNat = [] := List.drop_of_length_le (by omega)
      rw [et, en]; simp [wrF_nil]
    · have eL : (xs.take s.Len.toNat).length = s.Len.toNat := by rw [List.length_take]; omega
      rw [et]
      have := wrF_twoB (x := x) (a := y.At.toNat) (xs := xs.take s.Len.toNat) (ys := (xs.drop s.Len.toNat).take (y.Len.toNat - s.Len.toNat)) (by rw [eL, List.length_take]; have := h1.1; omega)
      rw [eL] at this
      exact this
/-! the buffer of a request -/
theorem two_filtW (a n m : Nat) : (twoS a n m).filter (fun s => s.Write == true) = [⟨UInt64.ofNat (a + n), UInt32.ofNat m, true⟩] := rfl
theorem two_filtR (a n m : Nat) : (twoS a n m).filter (fun s => s.Write == false) = [⟨UInt64.ofNat a, UInt32.ofNat n, false⟩] := rfl
theorem two_in {a n m N : Nat} (h : a + n + m ≤ N) (hN : N ≤ 1000000) : inF N (twoS a n m) := by
  intro s hs
  unfold twoS at hs
  rcases List.mem_cons.1 hs with q | q
  · subst q
    dsimp only
    rw [n64' (by omega), n32' (by omega)]; omega
  · rw [List.mem_singleton] at q
    subst q
    dsimp only
    rw [n64' (by omega), n32' (by omega)]; omega
theorem gat_one (x : List UInt8) (s : Seg) : gatF x [s] = rdF x s.At.toNat s.Len.toNat := by rw [gatF_cons, gatF_nil, List.append_nil]
theorem scat_one (x xs : List UInt8) (s : Seg) : scatF x [s] xs = wrF x s.At.toNat (xs.take s.Len.toNat) := rfl
theorem rdF_at {x xs : List UInt8} {a i n : Nat} (h : a + xs.length ≤ x.length) (q : i + n ≤ xs.length) : rdF (wrF x a xs) (a + i) n = (xs.drop i).take n := by
  unfold rdF wrF
  have e : (x.take a).length = a := by rw [List.length_take]; omega
  rw [List.append_assoc, ← List.drop_drop, List.drop_left' e, List.drop_append_of_le_length (by omega), List.take_append_of_le_length (by rw [List.length_drop]; omega)]
theorem rdF_out {x xs : List UInt8} {a b n : Nat} (h : a + xs.length ≤ x.length) (q : b + n ≤ a ∨ a + xs.length ≤ b) : rdF (wrF x a xs) b n = rdF x b n := by
  unfold rdF wrF
  rcases q with q | q
  · apply List.ext_getElem?
    intro i
    by_cases hi : i < n
    · rw [List.getElem?_take_of_lt hi, List.getElem?_take_of_lt hi, List.getElem?_drop, List.getElem?_drop, List.append_assoc, List.getElem?_append_left (by rw [List.length_take]; omega), List.getElem?_take_of_lt (by omega)]
    · rw [List.getElem?_eq_none (by rw [List.length_take]; omega), List.getElem?_eq_none (by rw [List.length_take]; omega)]
  · have e : (x.take a ++ xs).length = a + xs.length := by rw [List.length_append, List.length_take]; omega
    rw [List.drop_append, e, List.drop_eq_nil_of_le (by rw [e]; exact q), List.nil_append, List.drop_drop]
    congr 2; omega
/-- parts one after the other from a place on -/
def contig : Nat → List Seg → Prop
  | _, [] => True
  | a, s :: r => s.At.toNat = a ∧ 0 < s.Len.toNat ∧ a + s.Len.toNat ≤ 1000000 ∧ contig (a + s.Len.toNat) r
theorem tl_atB {s : Seg} {k : Nat} (h : s.At.toNat + s.Len.toNat ≤ 1000000) (hk : k < s.Len.toNat) : (tlS s k).At.toNat = s.At.toNat + k := by
  unfold tlS
  dsimp only
  rw [UInt64.toNat_add, UInt64.toNat_ofNat']; omega
theorem cov_contig {c l : List Seg} (h : Cov c l) : ∀ a : Nat, contig a l → contig a c := by
  induction h with
  | nil => exact fun _ h => h
  | whole x c l _ ih => exact fun a h => ⟨h.1, h.2.1, h.2.2.1, ih _ h.2.2.2⟩
  | part x y c l e1 e2 e3 e4 _ ih =>
    intro a h
    obtain ⟨h1, h2, h3, h4⟩ := h
    refine ⟨by rw [e1]; exact h1, e3, by omega, ih _ ⟨?_, ?_, ?_, ?_⟩⟩
    · rw [tl_atB (by omega) e4, h1]
    · rw [tl_len]; omega
    · rw [tl_len]; omega
    · rw [tl_len, show a + x.Len.toNat + (y.Len.toNat - x.Len.toNat) = a + y.Len.toNat by omega]; exact h4
theorem scat_head (y : List UInt8) (b : UInt8) (s : Seg) (r : List Seg) (h : 0 < s.Len.toNat) : scatF y (takeS 1 (s :: r)) [b] = wrF y s.At.toNat [b] := by
  unfold takeS
  rw [if_neg (by decide)]
  by_cases q : 1 < s.Len.toNat
  · rw [if_pos q, scat_one]; rfl
  · rw [if_neg q, show 1 - s.Len.toNat = 0 by omega, take0, scat_one, List.take_of_length_le (by simp; omega)]
theorem last_scat (y : List UInt8) (b : UInt8) : ∀ (c : List Seg) (a k : Nat), contig a c → k < sumS c → scatF y (takeS 1 (dropS k c)) [b] = wrF y (a + k) [b]
  | [], _, _, _, h => absurd h (Nat.not_lt_zero _)
  | s :: r, a, k, hc, hk => by
    obtain ⟨h1, h2, h3, h4⟩ := hc
    unfold dropS
    by_cases q0 : k = 0
    · rw [if_pos q0, scat_head y b s r h2, h1, q0, Nat.add_zero]
    · rw [if_neg q0]
      by_cases q1 : k < s.Len.toNat
      · rw [if_pos q1, scat_head y b (tlS s k) r (by rw [tl_len]; omega), tl_atB (by omega) q1, h1]
      · rw [if_neg q1, last_scat y b r (a + s.Len.toNat) (k - s.Len.toNat) h4 (by simp only [sumS] at hk; omega)]
        congr 1; omega
/-! the bytes of a request are read back -/
theorem req_read (r : Req) (hl : (reqB r).length ≤ 100000) : ref_Read21 (reqB r) = some (⟨r.Type_, r.Sector, (reqB r).drop 16, 0, []⟩, 0) := by
  have hlen := reqB_len r
  have h4 : sub (reqB r) 0 4 = wB r.Type_.toUInt64 4 := by
    rw [sub_to]
    unfold reqB headB
    rw [show (4 : Int).toNat = (wB r.Type_.toUInt64 4).length from (wB_len _ 4).symm]
    simp only [List.append_assoc]
    exact List.take_left
  have h8 : sub (reqB r) 8 16 = wB r.Sector 8 := by
    rw [show (8 : Int) = ((8 : Nat) : Int) from rfl, show (16 : Int) = ((16 : Nat) : Int) from rfl, sub_nat]
    unfold reqB headB
    have e : (wB r.Type_.toUInt64 4 ++ wB 0 4).length = 8 := by rw [List.length_append, wB_len, wB_len]
    rw [List.append_assoc, List.append_assoc, List.drop_left' e]
    rw [show 16 - 8 = (wB r.Sector 8).length from (wB_len _ 8).symm]
    exact List.take_left
  unfold ref_Read21
  rw [bN (by simp only [len]; omega), cDs (by simp only [len]; omega), h4, oS (number4 _), cDs (by simp only [len]; omega), h8, oS (number8 _), cDs (by simp only [len]; omega), cFits (by rw [sub_from]; simp; omega), sub_from]
  simp
theorem u32room {n : Nat} (h : n ≤ 4000000) : (u32 (n : Int) + 1).toNat = n + 1 := by
  rw [u32_of, UInt32.toNat_add, UInt32.toNat_ofNat']
  simp only [UInt32.reduceToNat]; omega
/-- what the device does with the buffer -/
theorem do_eq {x : List UInt8} (hx : flatOk 16384 x) {n : Nat} (s : dumbwaiterref20_Store) (hs : stOk n s) (f : UInt64) (name : List UInt8) (hnm : name.length ≤ 20) (r : Req) (hd : r.Data.length ≤ 6000) (hr : r.Room ≤ 6000) (h : okQ r) (a : Nat) (hf : a + sizeQ r ≤ 16384) (c : List Seg) (hc : Cov c (twoS a (reqB r).length (r.Room.toNat + 1))) (hg : goodS c) (hb : rdF x a (reqB r).length = reqB r) :
    ∃ out st s', ref_apply21 s f name r ((reqB r).drop 16) = some (out, st, s') ∧ (st ≠ 0 → out = []) ∧ out.length ≤ r.Room.toNat ∧
      ref_Do21 ⟨rg 16384, [x]⟩ s f name c = some (u32 (out.length : Int) + 1, 0, [wrF (wrF x (a + (reqB r).length) out) (a + (reqB r).length + r.Room.toNat) [st]], s') := by
  have hlen := reqB_len r
  have h0 := h.2.2
  have hR16 := h.1
  have hsz : sizeQ r = (reqB r).length + r.Room.toNat + 1 := rfl
  obtain ⟨out, st, s', e1, _, e3, e4⟩ := apply_ok s hs f name hnm r h0 (by omega) ((reqB r).drop 16) (by rw [List.length_drop]; omega)
  have ho : out.length ≤ r.Room.toNat := by omega
  refine ⟨out, st, s', e1, e3, ho, ?_⟩
  have h16 : (16384 : UInt64).toNat = 16384 := rfl
  have hxl : x.length = 16384 := hx.2.2
  have hin2 : inF 16384 (twoS a (reqB r).length (r.Room.toNat + 1)) := two_in (by omega) (by decide)
  have hin : inF 16384 c := cov_in (by decide) hc hin2
  have hcR := cov_filt false hc
  have hcW := cov_filt true hc
  rw [two_filtR] at hcR
  rw [two_filtW] at hcW
  have hinW : inF 16384 [⟨UInt64.ofNat (a + (reqB r).length), UInt32.ofNat (r.Room.toNat + 1), true⟩] := by
    have := inF_filter (p := fun s => s.Write == true) hin2
    rw [two_filtW] at this; exact this
  have hinR : inF 16384 [⟨UInt64.ofNat a, UInt32.ofNat (reqB r).length, false⟩] := by
    have := inF_filter (p := fun s => s.Write == false) hin2
    rw [two_filtR] at this; exact this
  have hrd : rdS c = (reqB r).length := by
    rw [← sum_rd, cov_sum hcR]
    show (UInt32.ofNat (reqB r).length).toNat + 0 = _
    rw [n32' (by omega), Nat.add_zero]
  have hwr : wrS c = r.Room.toNat + 1 := by
    rw [← sum_wr, cov_sum hcW]
    show (UInt32.ofNat (r.Room.toNat + 1)).toNat + 0 = _
    rw [n32' (by omega), Nat.add_zero]
  have hgat : gatF x (c.filter (fun s => s.Write == false)) = reqB r := by
    rw [cov_gat x hcR (by rw [hxl]; exact hinR) (by rw [hxl]; decide), gat_one]
    dsimp only
    rw [n64' (by omega), n32' (by omega), hb]
  have hIn : ref_In05 ⟨rg 16384, [x]⟩ c = some 0 := by
    rw [refIn_eq ⟨rg 16384, [x]⟩ (flat_mem hx) c]
    exact congrArg some (inE1_zero.2 ⟨hg, hin⟩)
  have hpart : partS c true = c.filter (fun s => s.Write == true) := by unfold partS; rw [if_pos hg]
  have hgW : goodS (c.filter (fun s => s.Write == true)) := good_filter hg
  have hWW : (c.filter (fun s => s.Write == true)).filter (fun s => s.Write == true) = c.filter (fun s => s.Write == true) := by simp
  have hsc := rscatter1 hx (c.filter (fun s => s.Write == true)) out (by omega) hgW (inF_filter hin)
  rw [hWW, cov_scatB hcW x out (by rw [hxl]; exact hinW) (by rw [hxl]; decide), scat_one] at hsc
  dsimp only at hsc
  rw [n64' (by omega), n32' (by omega), List.take_of_length_le (by omega)] at hsc
  have hy : flatOk 16384 (wrF x (a + (reqB r).length) out) := wrF_ok hx (by rw [h16]; omega)
  have hyl : (wrF x (a + (reqB r).length) out).length = 16384 := hy.2.2
  -- the last byte
  have hu64 : (UInt64.ofNat (r.Room.toNat + 1) - 1).toNat = r.Room.toNat := by
    rw [UInt64.toNat_sub_of_le _ _ (by rw [UInt64.le_iff_toNat_le, n64' (by omega)]; simp only [UInt64.reduceToNat]; omega), n64' (by omega)]
    simp only [UInt64.reduceToNat]; omega
  have hgD : goodS (takeS 1 (dropS r.Room.toNat (c.filter (fun s => s.Write == true)))) := by
    exact good_take 1 (good_drop r.Room.toNat hgW)
  have hinD : inF 16384 (takeS 1 (dropS r.Room.toNat (c.filter (fun s => s.Write == true)))) := inF_take (inF_drop (by decide) (inF_filter hin))
  have hWD : (takeS 1 (dropS r.Room.toNat (c.filter (fun s => s.Write == true)))).filter (fun s => s.Write == true) = takeS 1 (dropS r.Room.toNat (c.filter (fun s => s.Write == true))) := filter_allW (allW_take (allW_drop (allW_filter true c)))
  have hsc2 := rscatter1 hy (takeS 1 (dropS r.Room.toNat (c.filter (fun s => s.Write == true)))) [st] (by simp) hgD hinD
  have hlast : scatF (wrF x (a + (reqB r).length) out) (takeS 1 (dropS r.Room.toNat (c.filter (fun s => s.Write == true)))) [st] = wrF (wrF x (a + (reqB r).length) out) (a + (reqB r).length + r.Room.toNat) [st] := by
    have hct : contig (a + (reqB r).length) [⟨UInt64.ofNat (a + (reqB r).length), UInt32.ofNat (r.Room.toNat + 1), true⟩] := by
      refine ⟨?_, ?_, ?_, trivial⟩
      · dsimp only
        rw [n64' (by omega)]
      · dsimp only
        rw [n32' (by omega)]; omega
      · dsimp only
        rw [n32' (by omega)]; omega
    exact last_scat _ st _ _ _ (cov_contig hcW _ hct) (by rw [sum_wr, hwr]; omega)
  rw [hWD, hlast] at hsc2
  unfold ref_Do21
  rw [oS hIn, nE rfl, oS (refTotal c)]
  unfold totS
  rw [if_pos hg, hrd, hwr]
  dsimp only
  rw [bN (show ¬ UInt64.ofNat (reqB r).length < 16 by rw [UInt64.lt_iff_toNat_lt, n64' (by omega)]; simp only [UInt64.reduceToNat]; omega), bN (show ¬ UInt64.ofNat (r.Room.toNat + 1) < 1 by rw [UInt64.lt_iff_toNat_lt, n64' (by omega)]; simp only [UInt64.reduceToNat]; omega)]
  rw [oS (rgather1 hx c hg hin), hgat]
  dsimp only
  rw [oS (req_read r (by omega)), cDs (by simp only [len]; omega), sub_from, show (16 : Int).toNat = 16 from rfl]
  dsimp only
  have hroom : wi (i64 (UInt64.ofNat (r.Room.toNat + 1)) - 1) = r.Room := by
    rw [i64_of (by rw [n64' (by omega)]; omega), n64' (by omega), wi_in (by omega) (by omega)]; omega
  have happ : ref_apply21 s f name ⟨r.Type_, r.Sector, (reqB r).drop 16, wi (i64 (UInt64.ofNat (r.Room.toNat + 1)) - 1), []⟩ ((reqB r).drop 16) = some (out, st, s') := by
    rw [← e1]
    exact apply_same s f name ⟨r.Type_, r.Sector, (reqB r).drop 16, wi (i64 (UInt64.ofNat (r.Room.toNat + 1)) - 1), []⟩ r rfl rfl hroom ((reqB r).drop 16)
  rw [oS happ, oS (rpart_eq c true), hpart]
  dsimp only
  rw [oS hsc, oS (rcut_eq _ _ _)]
  unfold cutS
  rw [if_pos hgW, hu64, show (1 : UInt64).toNat = 1 from rfl]
  dsimp only
  rw [oS hsc2]
  rfl
/-! the law -/
theorem wrF_wholeB {x xs : List UInt8} (h : xs.length = x.length) : wrF x 0 xs = xs := by
  unfold wrF
  rw [List.take_zero, List.nil_append, Nat.zero_add, List.drop_of_length_le (by omega), List.append_nil]
theorem rdF_self {x xs : List UInt8} {a : Nat} (h : a + xs.length ≤ x.length) : rdF (wrF x a xs) a xs.length = xs := by
  have := rdF_at (n := xs.length) (i := 0) h (by omega)
  rw [Nat.add_zero, List.drop_zero, List.take_length] at this; exact this
/-- what came of it, read out of the memory -/
theorem back_res {x : List UInt8} (hx : flatOk 16384 x) (out : List UInt8) (st : UInt8) (A R : Nat) (hA : A + R + 1 ≤ 16384) (ho : out.length ≤ R) (hst : st ≠ 0 → out = []) (c : List Seg) (hg : goodS c) (hin : inF 16384 c) (hw : wrS c = R + 1) (hcW : Cov (c.filter (fun s => s.Write == true)) [⟨UInt64.ofNat A, UInt32.ofNat (R + 1), true⟩]) :
    resQ (wrF (wrF x A out) (A + R) [st]) c (u32 (out.length : Int) + 1) = (out, st, 0) := by
  have hxl : x.length = 16384 := hx.2.2
  have hyl : (wrF x A out).length = 16384 := by rw [wrF_len (by omega)]; exact hxl
  have hzl : (wrF (wrF x A out) (A + R) [st]).length = 16384 := by rw [wrF_len (by rw [hyl]; simp; omega)]; exact hyl
  have hwn : (u32 (out.length : Int) + 1).toNat = out.length + 1 := u32room (by omega)
  have hE : inE (rg 16384) c = 0 := inE1_zero.2 ⟨hg, hin⟩
  have hgat : gatF (wrF (wrF x A out) (A + R) [st]) (c.filter (fun s => s.Write == true)) = rdF (wrF (wrF x A out) (A + R) [st]) A (R + 1) := by
    rw [cov_gat _ hcW (by
      rw [hzl]
      intro s hs
      rw [List.mem_singleton] at hs
      subst hs
      dsimp only
      rw [n64' (by omega), n32' (by omega)]; omega) (by rw [hzl]; decide), gat_one]
    dsimp only
    rw [n64' (by omega), n32' (by omega)]
  have hd : (rdF (wrF (wrF x A out) (A + R) [st]) A (R + 1)).drop R = [st] := by
    rw [← rdF_drop, show R + 1 - R = ([st] : List UInt8).length by simp]
    exact rdF_self (by rw [hyl]; simp; omega)
  have h1 : (rdF (wrF (wrF x A out) (A + R) [st]) A (R + 1))[R]? = some st := by
    have : ((rdF (wrF (wrF x A out) (A + R) [st]) A (R + 1)).drop R)[0]? = some st := by rw [hd]; rfl
    rw [List.getElem?_drop, Nat.add_zero] at this; exact this
  have h2 : (rdF (wrF (wrF x A out) (A + R) [st]) A (R + 1)).take out.length = out := by
    rw [← rdF_take (by omega), rdF_out (by rw [hyl]; simp; omega) (Or.inl (by omega))]
    exact rdF_self (by omega)
  unfold resQ
  rw [if_neg (by rw [hE]; decide), if_neg (by omega), if_neg (by omega), hgat, hw, show R + 1 - 1 = R by omega, h1]
  dsimp only
  rw [hwn, show out.length + 1 - 1 = out.length by omega, h2]
  by_cases q : st = 0
  · rw [if_pos q, q]
  · rw [if_neg q, hst q]
theorem t_law22zBlkdrvBack (rp0 : Req) (atp1 : Int) (cuts : List Int) (image : List UInt8) (feats : UInt64) : law22zBlkdrvBack rp0 atp1 cuts image feats = some true := by
  unfold law22zBlkdrvBack
  rw [oS lives22B, notT, notF, chkT]
  obtain ⟨b, hb, hlt⟩ := light_eqB rp0
  rw [oS hb]
  cases b with
  | false => rw [notF, brT]
  | true =>
    obtain ⟨h1, h2, h3⟩ := hlt rfl
    rw [notT, brF]
    by_cases hc : len cuts > 70
    · rw [bP hc]
    rw [bN hc]
    by_cases hi : len image > 6000
    · rw [bP hi]
    rw [bN hi, oS (size_eq rp0 h1 h3)]
    simp only [len] at hc hi
    by_cases hq : okQ rp0
    · rw [if_pos hq, if_pos hq]
      dsimp only
      rw [nE rfl, oS memy22, oS (rnew1 (n := 16384) (by decide) (by decide))]
      dsimp only [onO]
      rw [oS memy22, oS (new1_eq (n := 16384) (by decide) (by decide))]
      dsimp only [onO]
      obtain ⟨k, hk, hk2⟩ := pick_eq atp1 16384 (by decide) (by decide)
      have hz := z1_ok (n := 16384) (by decide) (by decide)
      have hlen := reqB_len rp0
      have hR0 := hq.2.2
      have hR16 := hq.1
      have hsz : sizeQ rp0 = (reqB rp0).length + rp0.Room.toNat + 1 := rfl
      rw [cnE rfl, cnE rfl, oS (show kit_Pick atp1 16384 = some (k : Int) from hk), oS (kreq_eqB rp0 (by omega) (by omega)), u64_of k, u64_of (sizeQ rp0), ← UInt64.ofNat_add]
      by_cases hf : k + sizeQ rp0 ≤ 16384
      · rw [oS (lay_ok hz k rp0 cuts h1 h3 hq hf (by omega)), bN (show ¬ UInt64.ofNat (k + sizeQ rp0) > 16384 by
          intro q
          have q' : (16384 : UInt64) < UInt64.ofNat (k + sizeQ rp0) := q
          rw [UInt64.lt_iff_toNat_lt, n64' (by omega)] at q'
          simp only [UInt64.reduceToNat] at q'; omega)]
        dsimp only
        have h16 : (16384 : UInt64).toNat = 16384 := rfl
        have hg2 := two_good (a := k) (n := (reqB rp0).length) (m := rp0.Room.toNat + 1) (by omega) (by omega) (by omega)
        have hg := cutQ_good hg2 cuts
        have hcov := cov_cutQ hg2 cuts
        have hL : (reqB rp0 ++ List.replicate (rp0.Room.toNat + 1) (0 : UInt8)).length = sizeQ rp0 := by rw [List.length_append, List.length_replicate]; omega
        have hy : flatOk 16384 (wrF (z1 16384) k (reqB rp0 ++ List.replicate (rp0.Room.toNat + 1) 0)) := wrF_ok hz (by rw [hL, h16]; exact hf)
        have hzl : (z1 16384).length = 16384 := hz.2.2
        have hb2 : rdF (wrF (z1 16384) k (reqB rp0 ++ List.replicate (rp0.Room.toNat + 1) 0)) k (reqB rp0).length = reqB rp0 := by
          have := rdF_at (x := z1 16384) (xs := reqB rp0 ++ List.replicate (rp0.Room.toNat + 1) 0) (a := k) (i := 0) (n := (reqB rp0).length) (by rw [hL, hzl]; exact hf) (by rw [hL]; omega)
          rw [Nat.add_zero, List.drop_zero, List.take_left] at this; exact this
        generalize wrF (z1 16384) k (reqB rp0 ++ List.replicate (rp0.Room.toNat + 1) 0) = y at *
        generalize cutQ (twoS k (reqB rp0).length (rp0.Room.toNat + 1)) cuts = c at *
        have hck : ref_Check05 c = some 0 := by rw [refCheck c, errS_zero.2 hg]
        rw [oS (of20_eq image (by omega))]
        by_cases ho : ofOk image
        · rw [if_pos ho]
          dsimp only [onO]
          rw [oS (of20_eq image (by omega)), if_pos ho]
          dsimp only [onO]
          have hyl : y.length = 16384 := hy.2.2
          have hw1 := rwrite1 hz 0 y (by show 0 + y.length ≤ 16384; omega)
          rw [show (0 : UInt64).toNat = 0 from rfl, wrF_wholeB (by rw [hyl, hzl])] at hw1
          rw [nE rfl, oS hck, nE rfl, nE rfl, oS (image1_eq hy), oS hw1]
          dsimp only
          obtain ⟨out, st, s', e1, e2, e3, e4⟩ := do_eq hy _ (of20_ok ho) feats [98, 111, 120] (by decide) rp0 h1 h3 hq k hf c hcov hg hb2
          have hin : inF 16384 c := cov_in (by decide) hcov (two_in (by omega) (by decide))
          have hcW := cov_filt true hcov
          rw [two_filtW] at hcW
          have hwr : wrS c = rp0.Room.toNat + 1 := by
            rw [← sum_wr, cov_sum hcW]
            show (UInt32.ofNat (rp0.Room.toNat + 1)).toNat + 0 = _
            rw [n32' (by omega), Nat.add_zero]
          have hv : flatOk 16384 (wrF y (k + (reqB rp0).length) out) := wrF_ok hy (by rw [h16]; omega)
          have hv2 : flatOk 16384 (wrF (wrF y (k + (reqB rp0).length) out) (k + (reqB rp0).length + rp0.Room.toNat) [st]) := wrF_ok hv (by rw [h16]; simp; omega)
          have hres := back_res hy out st (k + (reqB rp0).length) rp0.Room.toNat (by omega) e3 e2 c hg hin hwr hcW
          have hw2 := write1_eq hy 0 (wrF (wrF y (k + (reqB rp0).length) out) (k + (reqB rp0).length + rp0.Room.toNat) [st]) (by rw [hv2.2.2]; decide)
          rw [show (0 : UInt64).toNat = 0 from rfl, wrF_wholeB (by rw [hv2.2.2, hyl]; rfl)] at hw2
          rw [oS e4]
          dsimp only
          rw [oS (rimage1 hv2), oS hw2]
          dsimp only
          rw [cnE rfl, oS (result_eq hv2 c _), hres]
          have happ : ref_Apply21 ⟨image, image, List.replicate (image.length / 512) false⟩ feats [98, 111, 120] rp0 = some (out, st, 0, s') := by
            unfold ref_Apply21 ref_data21
            rw [refQCheck, oS (blkCheck_eq rp0), if_pos hq, nE rfl, oS (refBytes21_eq rp0 (by omega)), if_pos hq]
            dsimp only
            rw [cDs (by simp only [len]; omega), sub_from, obS, show (16 : Int).toNat = 16 from rfl, oS e1]
          rw [oS happ]
          dsimp only
          rw [cE rfl, cE rfl, cE rfl]
        · rw [if_neg ho]
          dsimp only [onO]
          rw [oS (of20_eq image (by omega)), if_neg ho]
          dsimp only [onO]
          rw [nE rfl, oS hck, nE rfl, cF (by decide), cE rfl, oS hck, cE rfl]
      · have hfar := lay_far hz (UInt64.ofNat k) rp0 cuts h1 h3 hq (by rw [n64' (by omega)]; omega)
        rw [oS hfar, bP (show UInt64.ofNat (k + sizeQ rp0) > 16384 by
          show (16384 : UInt64) < UInt64.ofNat (k + sizeQ rp0)
          rw [UInt64.lt_iff_toNat_lt, n64' (by omega)]
          simp only [UInt64.reduceToNat]; omega), cE rfl]
    · rw [if_neg hq, if_neg hq]
      dsimp only
      rw [nF (by decide), refQCheck, oS (blkCheck_eq rp0), if_neg hq, cE rfl]
end Go.Proofs.Ytkmjpgfbcklopaa

end
