/- The plain words: what the functions reckon, and that the law answers true. No condition. -/
import Derived.Test.YtjfdamiilndgeaaMo1
import Derived.Test.YtjfdamiilndgeaaGe2
section
namespace Go.Proofs.Ytjfdamiilndgeaa
def two (p : Bool) : Int := bif p then 0 else 2
theorem fuelS : fuel = 36893488147419103231 + 1 := rfl
/-- xs laid into x from a on -/
def wrF (x : List UInt8) (a : Nat) (xs : List UInt8) : List UInt8 := x.take a ++ xs ++ x.drop (a + xs.length)
theorem wrF_nil (x : List UInt8) (a : Nat) : wrF x a [] = x := by simp [wrF]
theorem wrF_len {x xs : List UInt8} {a : Nat} (h : a + xs.length ≤ x.length) : (wrF x a xs).length = x.length := by
  simp only [wrF, List.length_append, List.length_take, List.length_drop]; omega
theorem wrF_snoc {x xs : List UInt8} {a : Nat} {c : UInt8} (h : a + xs.length < x.length) : wrF x a (xs ++ [c]) = (wrF x a xs).set (a + xs.length) c := by
  unfold wrF
  have e : (x.take a ++ xs).length = a + xs.length := by simp; omega
  rw [List.set_append_right _ _ (by rw [e]; exact Nat.le_refl _), e, Nat.sub_self, drop_ix h, List.set_cons_zero]
  simp [Nat.add_assoc]
theorem own_eq (b : List UInt8) (h : b.length ≤ 100000000) : kit_Own b = some b := by unfold kit_Own; rw [cFits (by simp; omega)]
end Go.Proofs.Ytjfdamiilndgeaa

end

section
namespace Go.Proofs.Ytjfdamiilndgeaa
/-- n low bytes -/
def wB (v : UInt64) : Nat → List UInt8
  | 0 => []
  | n + 1 => wB v n ++ [byt v n]
theorem wB_len (v : UInt64) : ∀ n, (wB v n).length = n
  | 0 => rfl
  | n + 1 => by simp only [wB, List.length_append, wB_len v n]; rfl
theorem shr_add (v : UInt64) (m n : Nat) : shr64 (shr64 v m) n = shr64 v (m + n) := by
  apply UInt64.toBitVec_inj.1
  rw [shr64_bv, shr64_bv, shr64_bv, BitVec.shiftRight_add]
theorem shr_zero (v : UInt64) : shr64 v 0 = v := by
  apply UInt64.toBitVec_inj.1
  rw [shr64_bv]; simp
theorem blkwordL (n : Nat) (hn : n ≤ 8) (v : UInt64) (b : List UInt8) (hb : b.length ≤ 100000000) : ∀ (nf x : Nat), x ≤ n → n - x < nf → blk_wordL1 (n : Int) nf (b ++ wB v x) (shr64 v (8 * x)) (x : Int) = some (b ++ wB v n)
  | 0, x, _, h => absurd h (Nat.not_lt_zero _)
  | nf + 1, x, hx, hf => by
    unfold blk_wordL1 blk_wordL1B
    by_cases h : x < n
    · have hl := wB_len v x
      rw [bP (by omega), cFits (by rw [List.length_append, hl, List.length_singleton]; omega), wi_succ (by omega), List.append_assoc, shr_add]
      exact blkwordL n hn v b hb nf (x + 1) (by omega) (by omega)
    · rw [bN (by omega), show x = n by omega]
theorem blkword_eq (b : List UInt8) (v : UInt64) (n : Nat) (hn : n ≤ 8) (hb : b.length ≤ 100000000) : blk_word b v (n : Int) = some (b ++ wB v n) := by
  have := blkwordL n hn v b hb fuel 0 (by omega) (by rw [fuelS]; omega)
  rw [show 8 * 0 = 0 from rfl, shr_zero] at this
  unfold blk_word
  rw [← this]; simp [wB]
theorem blkword4 (b : List UInt8) (v : UInt64) (hb : b.length ≤ 100000000) : blk_word b v 4 = some (b ++ wB v 4) := blkword_eq b v 4 (by decide) hb
theorem blkword8 (b : List UInt8) (v : UInt64) (hb : b.length ≤ 100000000) : blk_word b v 8 = some (b ++ wB v 8) := blkword_eq b v 8 (by decide) hb
/-- may a request be? -/
def okQ (r : Req) : Prop := r.Ranges.length ≤ 16 ∧ (r.Ranges = [] ∨ ((r.Type_ = 11 ∨ r.Type_ = 13) ∧ r.Data = [])) ∧ 0 ≤ r.Room
instance (r : Req) : Decidable (okQ r) := by unfold okQ; infer_instance
theorem blkCheck_eq (r : Req) : blk_Check r = some (if okQ r then 0 else 2) := by
  have hrg : blk_ranged r.Type_ = some (decide (r.Type_ = 11 ∨ r.Type_ = 13)) := by
    unfold blk_ranged
    by_cases h : r.Type_ = 11
    · rw [bE h]; simp [h]
    · rw [bF h]; simp only [h, false_or]; rfl
  unfold blk_Check
  by_cases h1 : len r.Ranges > 16
  · rw [bP h1, if_neg (fun q => by obtain ⟨q1, _⟩ := q; simp only [len] at h1; omega)]
  · rw [bN h1]
    simp only [len] at h1
    by_cases h2 : len r.Ranges > 0
    · rw [bP h2, oS hrg]
      simp only [len] at h2
      have hne : r.Ranges ≠ [] := fun q => by rw [q] at h2; simp at h2
      by_cases h3 : r.Type_ = 11 ∨ r.Type_ = 13
      · rw [decide_eq_true h3, notT, brF]
        by_cases h4 : len r.Data > 0
        · rw [bP h4, if_neg]
          rintro ⟨_, q, _⟩
          rcases q with q | q
          · exact hne q
          · simp only [len, q.2] at h4; simp at h4
        · rw [bN h4]
          have h5 : r.Data = [] := by cases hd : r.Data with | nil => rfl | cons a b => rw [hd] at h4; simp [len] at h4
          by_cases h6 : r.Room < 0
          · rw [bP h6, if_neg (fun q => by obtain ⟨_, _, q3⟩ := q; omega)]
          · rw [bN h6, if_pos ⟨by omega, Or.inr ⟨h3, h5⟩, by omega⟩]
      · rw [decide_eq_false h3, notF, brT, if_neg]
        rintro ⟨_, q, _⟩
        rcases q with q | q
        · exact hne q
        · exact h3 q.1
    · rw [bN h2]
      have h5 : r.Ranges = [] := by cases hd : r.Ranges with | nil => rfl | cons a b => rw [hd] at h2; simp [len] at h2
      by_cases h6 : r.Room < 0
      · rw [bP h6, if_neg (fun q => by obtain ⟨_, _, q3⟩ := q; omega)]
      · rw [bN h6, if_pos ⟨by omega, Or.inl h5, by omega⟩]
def rangeB (x : Range) : List UInt8 := wB x.Sector 8 ++ wB x.Count.toUInt64 4 ++ wB x.Flags.toUInt64 4
theorem rangeB_len (x : Range) : (rangeB x).length = 16 := by simp only [rangeB, List.length_append, wB_len]
def rangesB (l : List Range) : List UInt8 := (l.map rangeB).flatten
theorem rangesB_len (l : List Range) : (rangesB l).length = 16 * l.length := by
  induction l with
  | nil => rfl
  | cons x l ih => simp only [rangesB, List.map_cons, List.flatten_cons, List.length_append, rangeB_len, List.length_cons] at ih ⊢; omega
/-- the head of a request -/
def headB (r : Req) : List UInt8 := wB r.Type_.toUInt64 4 ++ wB 0 4 ++ wB r.Sector 8
theorem headB_len (r : Req) : (headB r).length = 16 := by simp only [headB, List.length_append, wB_len]
def reqB (r : Req) : List UInt8 := headB r ++ r.Data ++ rangesB r.Ranges
theorem reqB_len (r : Req) : (reqB r).length = 16 + r.Data.length + 16 * r.Ranges.length := by
  simp only [reqB, List.length_append, headB_len, rangesB_len]
theorem blkBytesL (r : Req) (hl : r.Ranges.length ≤ 16) : ∀ (nf i : Nat) (b : List UInt8), i ≤ r.Ranges.length → r.Ranges.length - i < nf → b.length ≤ 10000000 + 16 * i → blk_BytesL1 r nf b (i : Int) = some (b ++ rangesB (r.Ranges.drop i), 0)
  | 0, i, b, _, h, _ => absurd h (Nat.not_lt_zero _)
  | nf + 1, i, b, hi, hn, hb => by
    unfold blk_BytesL1 blk_BytesL1B
    by_cases h : i < r.Ranges.length
    · have w1 := blkword8 b r.Ranges[i].Sector (by omega)
      have w2 := blkword4 (b ++ wB r.Ranges[i].Sector 8) r.Ranges[i].Count.toUInt64 (by rw [List.length_append, wB_len]; omega)
      have w3 := blkword4 (b ++ wB r.Ranges[i].Sector 8 ++ wB r.Ranges[i].Count.toUInt64 4) r.Ranges[i].Flags.toUInt64 (by rw [List.length_append, List.length_append, wB_len, wB_len]; omega)
      rw [drop_ix h, bP (by simp only [len]; omega), oS (ix_nat (getq h)), oS w1, oS w2, oS w3, wi_succ (by omega)]
      rw [blkBytesL r hl nf (i + 1) _ (by omega) (by omega) (by simp only [List.length_append, wB_len]; omega)]
      simp only [rangesB, List.map_cons, List.flatten_cons, rangeB, List.append_assoc]
    · rw [bN (by simp only [len]; omega), List.drop_of_length_le (by omega)]; simp [rangesB]
theorem blkBytes_eq (r : Req) (hd : r.Data.length ≤ 1000000) : blk_Bytes r = some (if okQ r then (reqB r, 0) else ([], 2)) := by
  unfold blk_Bytes
  rw [oS (blkCheck_eq r)]
  by_cases h : okQ r
  · have w1 := blkword4 [] r.Type_.toUInt64 (by simp)
    have w2 := blkword4 ([] ++ wB r.Type_.toUInt64 4) 0 (by simp [wB_len])
    have w3 := blkword8 ([] ++ wB r.Type_.toUInt64 4 ++ wB 0 4) r.Sector (by simp [wB_len])
    rw [if_pos h, if_pos h, nE rfl, oS w1, oS w2, oS w3]
    have e : ([] : List UInt8) ++ wB r.Type_.toUInt64 4 ++ wB 0 4 ++ wB r.Sector 8 = headB r := by simp [headB]
    rw [e, cFits (by rw [headB_len]; omega)]
    have := blkBytesL r h.1 fuel 0 (headB r ++ r.Data) (Nat.zero_le _) (by rw [fuelS]; have := h.1; omega) (by rw [List.length_append, headB_len]; omega)
    rw [List.drop_zero] at this
    exact this
  · rw [if_neg h, if_neg h, nF (by decide)]
end Go.Proofs.Ytjfdamiilndgeaa

end

section
namespace Go.Proofs.Ytjfdamiilndgeaa
theorem cDK {P : Prop} [Decidable P] {ρ : Type} {k : Option ρ} (h : P) : chk (decide P) k = k := by rw [decide_eq_true h]; rfl
theorem lives21 : law21zlives = some true := by kernel_rfl
theorem light_eqK (r : Req) : ∃ b, kit_LightReq r 6000 = some b ∧ (b = true → r.Data.length ≤ 6000 ∧ r.Ranges.length ≤ 40 ∧ r.Room ≤ 6000) := by
  unfold kit_LightReq
  by_cases h1 : len r.Data ≤ 6000
  · rw [bP h1]
    by_cases h2 : len r.Ranges ≤ 40
    · rw [bP h2]
      refine ⟨_, rfl, fun q => ?_⟩
      simp only [len] at h1 h2
      have := of_decide_eq_true q
      omega
    · rw [bN h2]; exact ⟨false, rfl, fun q => by cases q⟩
  · rw [bN h1]; exact ⟨false, rfl, fun q => by cases q⟩
theorem sh8B (w : UInt64) : shl64 (shr64 w 8) 8 ||| w.toUInt8.toUInt64 = w := by
  have hw := w.toNat_lt
  apply UInt64.toNat_inj.1
  have h1 : (shl64 (shr64 w 8) 8).toNat = 256 * (w.toNat / 256) := by
    simp only [shl64, shr64, UInt64.toNat_ofNat']
    rw [show 2 ^ min 8 64 = 256 from rfl]; omega
  rw [UInt64.toNat_or, h1, UInt8.toNat_toUInt64, UInt64.toNat_toUInt8]
  have h2 : w.toNat % 2 ^ 8 < 2 ^ 8 := Nat.mod_lt _ (by decide)
  have := Nat.two_pow_add_eq_or_of_lt (i := 8) h2 (w.toNat / 256)
  rw [show (2 ^ 8 : Nat) = 256 from rfl] at this
  rw [show 2 ^ 8 = 256 from rfl, ← this]; omega
theorem bnumber_okL (b : List UInt8) : ∀ (nf i : Nat) (x : UInt64), i ≤ b.length → b.length ≤ 1000000 → i < nf → ∃ v, blk_numberL1 b nf x ((i : Int) - 1) = some v
  | 0, i, _, _, _, h => absurd h (Nat.not_lt_zero _)
  | nf + 1, 0, x, _, _, _ => by
    unfold blk_numberL1 blk_numberL1B
    rw [bN (by omega)]; exact ⟨x, rfl⟩
  | nf + 1, i + 1, x, hi, hb, hn => by
    unfold blk_numberL1 blk_numberL1B
    rw [bP (by omega), show ((i + 1 : Nat) : Int) - 1 = (i : Int) by omega, oS (ix_nat (getq (by omega))), wi_in (by omega) (by omega)]
    exact bnumber_okL b nf i _ (by omega) hb (by omega)
theorem bnumber_ok (b : List UInt8) (hb : b.length ≤ 1000000) : ∃ v, blk_number b = some v := by
  unfold blk_number
  simp only [len]
  rw [wi_in (by omega) (by omega)]
  exact bnumber_okL b fuel b.length 0 (Nat.le_refl _) hb (by rw [fuelS]; omega)
theorem bnumber_L (v : UInt64) (n : Nat) (hn : n ≤ 8) (b : List UInt8) (hl : b.length = n) (hb : ∀ i, i < n → b[i]? = some (byt v i)) : ∀ (nf i : Nat), i ≤ n → i < nf → blk_numberL1 b nf (shr64 v (8 * i)) ((i : Int) - 1) = some v
  | 0, i, _, h => absurd h (Nat.not_lt_zero _)
  | nf + 1, 0, _, _ => by
    unfold blk_numberL1 blk_numberL1B
    rw [bN (by omega), Nat.mul_zero, shr_zero]
  | nf + 1, i + 1, hi, hf => by
    unfold blk_numberL1 blk_numberL1B
    have e : shl64 (shr64 v (8 * (i + 1))) (8 : UInt64).toNat ||| (byt v i).toUInt64 = shr64 v (8 * i) := by
      have := sh8B (shr64 v (8 * i))
      rw [shr_add] at this
      exact this
    rw [bP (by omega), show ((i + 1 : Nat) : Int) - 1 = (i : Int) by omega, oS (ix_nat (hb i (by omega))), wi_in (by omega) (by omega), e]
    exact bnumber_L v n hn b hl hb nf i (by omega) (by omega)
theorem wB_getB (v : UInt64) : ∀ (n i : Nat), i < n → (wB v n)[i]? = some (byt v i)
  | 0, i, h => absurd h (Nat.not_lt_zero _)
  | n + 1, i, h => by
    unfold wB
    by_cases q : i < n
    · rw [List.getElem?_append_left (by rw [wB_len]; exact q)]; exact wB_getB v n i q
    · rw [List.getElem?_append_right (by rw [wB_len]; omega), wB_len, show i - n = 0 by omega, show n = i by omega]; rfl
theorem bnumber_wB (v : UInt64) (n : Nat) (hn : n ≤ 8) (h0 : shr64 v (8 * n) = 0) : blk_number (wB v n) = some v := by
  unfold blk_number
  simp only [len]
  rw [wB_len, wi_in (by omega) (by omega), ← h0]
  exact bnumber_L v n hn (wB v n) (wB_len v n) (fun i h => wB_getB v n i h) fuel n (Nat.le_refl _) (by rw [fuelS]; omega)
theorem bnumber8 (v : UInt64) : blk_number (wB v 8) = some v := bnumber_wB v 8 (by decide) (by
  apply UInt64.toNat_inj.1
  have := v.toNat_lt
  simp only [shr64, UInt64.toNat_ofNat']
  rw [show 2 ^ min (8 * 8) 64 = 18446744073709551616 from rfl, Nat.div_eq_of_lt this]; rfl)
theorem bnumber4 (v : UInt32) : blk_number (wB v.toUInt64 4) = some v.toUInt64 := bnumber_wB v.toUInt64 4 (by decide) (by
  apply UInt64.toNat_inj.1
  have := v.toNat_lt
  simp only [shr64, UInt64.toNat_ofNat', UInt32.toNat_toUInt64]
  rw [show 2 ^ min (8 * 4) 64 = 4294967296 from rfl, Nat.div_eq_of_lt this]; rfl)
end Go.Proofs.Ytjfdamiilndgeaa

end

section
namespace Go.Proofs.Ytjfdamiilndgeaa
/-- all bytes of a row of sectors -/
def flt (l : List Sec) : List UInt8 := (l.map Sec.l).flatten
theorem flt_cons (a : Sec) (l : List Sec) : flt (a :: l) = a.l ++ flt l := by simp [flt]
theorem flt_app (a b : List Sec) : flt (a ++ b) = flt a ++ flt b := by simp [flt]
theorem flt_len : ∀ l : List Sec, (flt l).length = 512 * l.length
  | [] => rfl
  | a :: l => by rw [flt_cons, List.length_append, flt_len l, a.h, List.length_cons]; omega
theorem flt_drop : ∀ (l : List Sec) (i : Nat), (flt l).drop (512 * i) = flt (l.drop i)
  | l, 0 => by rw [Nat.mul_zero, List.drop_zero, List.drop_zero]
  | [], i + 1 => by simp [flt]
  | a :: l, i + 1 => by
    rw [flt_cons, List.drop_append, a.h, List.drop_of_length_le (by rw [a.h]; omega), List.nil_append, show 512 * (i + 1) - 512 = 512 * i by omega, flt_drop l i, List.drop_succ_cons]
theorem flt_take : ∀ (l : List Sec) (i : Nat), (flt l).take (512 * i) = flt (l.take i)
  | l, 0 => by rw [Nat.mul_zero, List.take_zero, List.take_zero]; rfl
  | [], i + 1 => by simp [flt]
  | a :: l, i + 1 => by
    rw [flt_cons, List.take_append, a.h, List.take_of_length_le (by rw [a.h]; omega), show 512 * (i + 1) - 512 = 512 * i by omega, flt_take l i, List.take_succ_cons, flt_cons]
theorem flt_set {l : List Sec} {i : Nat} (a : Sec) (h : i < l.length) : flt (l.set i a) = wrF (flt l) (512 * i) a.l := by
  rw [List.set_eq_take_append_cons_drop, if_pos h, flt_app, flt_cons]
  unfold wrF
  rw [flt_take, a.h, show 512 * i + 512 = 512 * (i + 1) by omega, flt_drop, List.append_assoc]
theorem wrF_twoK {x xs ys : List UInt8} {a : Nat} (h : a + xs.length + ys.length ≤ x.length) : wrF (wrF x a xs) (a + xs.length) ys = wrF x a (xs ++ ys) := by
  have e1 : (x.take a ++ xs).length = a + xs.length := by simp; omega
  have e2 : (wrF x a xs).take (a + xs.length) = x.take a ++ xs := by unfold wrF; exact List.take_left' e1
  have e3 : (wrF x a xs).drop (a + xs.length + ys.length) = x.drop (a + xs.length + ys.length) := by
    unfold wrF; rw [List.drop_append, e1, List.drop_of_length_le (by rw [e1]; omega), List.nil_append, List.drop_drop]
    refine congrArg (fun t => x.drop t) ?_; omega
  rw [wrF, e2, e3]
  unfold wrF
  simp [Nat.add_assoc]
theorem wrF_wholeK {x xs : List UInt8} (h : xs.length = x.length) : wrF x 0 xs = xs := by
  unfold wrF
  rw [List.take_zero, List.nil_append, Nat.zero_add, List.drop_of_length_le (by omega), List.append_nil]
theorem u64nK {n : Nat} (h : n ≤ 4000000000) : (u64 (n : Int)).toNat = n := by
  rw [u64_of, UInt64.toNat_ofNat']; omega
theorem i64nK {a : UInt64} (h : a.toNat ≤ 4000000000) : i64 a = (a.toNat : Int) := i64_of (by omega)
theorem rem512K (n : Nat) : remi (n : Int) 512 = ((n % 512 : Nat) : Int) := remi_nat n 512
theorem quo512K (n : Nat) (h : n ≤ 9223372036854775807) : quoi (n : Int) 512 = ((n / 512 : Nat) : Int) := quoi_nat n 512 h
theorem quoLK (b : List UInt8) (h : b.length ≤ 9223372036854775807) : quoi (len b) 512 = ((b.length / 512 : Nat) : Int) := quo512K b.length h
theorem remLK (b : List UInt8) : remi (len b) 512 = ((b.length % 512 : Nat) : Int) := rem512K b.length
theorem remL16K (b : List UInt8) : remi (len b) 16 = ((b.length % 16 : Nat) : Int) := remi_nat b.length 16
theorem w512 {i : Nat} (h : i ≤ 100000) : wi ((i : Int) * 512) = ((512 * i : Nat) : Int) := by rw [wi_in (by omega) (by omega)]; omega
theorem sHas (s : sectors_Store) (hn : s.l.length ≤ 4096) (a k : UInt64) : sectors_Store_Has s a k = some (decide (a.toNat + k.toNat ≤ s.l.length)) := by
  unfold sectors_Store_Has
  have hu := u64nK (n := s.l.length) (by omega)
  rw [len_nat]
  have ha := a.toNat_lt
  have hk := k.toNat_lt
  by_cases q : a ≤ u64 (s.l.length : Int)
  · rw [bP q]
    rw [UInt64.le_iff_toNat_le, hu] at q
    congr 1
    refine decide_eq_decide.2 ?_
    rw [UInt64.le_iff_toNat_le, UInt64.toNat_sub_of_le _ _ (by rw [UInt64.le_iff_toNat_le, hu]; exact q), hu]; omega
  · rw [bN q]
    rw [UInt64.le_iff_toNat_le, hu] at q
    rw [decide_eq_false (by omega)]
theorem sReadL (a : UInt64) (k : Nat) (l : List Sec) (m : List (Int × Sec)) (hk : a.toNat + k ≤ l.length) (hn : l.length ≤ 4096) : ∀ (nf i : Nat), i ≤ k → k - i < nf → sectors_Store_ReadL1 a (k : Int) nf l m (((flt l).drop (512 * a.toNat)).take (512 * i)) (i : Int) = some (((flt l).drop (512 * a.toNat)).take (512 * k), 0, ⟨l, m⟩)
  | 0, i, _, h => absurd h (Nat.not_lt_zero _)
  | nf + 1, i, hi, hf => by
    unfold sectors_Store_ReadL1 sectors_Store_ReadL1B
    by_cases c : i < k
    · have e : wi (i64 a + (i : Int)) = ((a.toNat + i : Nat) : Int) := by rw [i64nK (by omega), wi_in (by omega) (by omega)]; omega
      have hl := flt_len l
      have e2 : ((flt l).drop (512 * a.toNat)).take (512 * i) ++ (l[a.toNat + i]'(by omega)).l = ((flt l).drop (512 * a.toNat)).take (512 * (i + 1)) := by
        rw [flt_drop, flt_take, flt_take, List.take_add_one, List.getElem?_drop, getq (by omega), flt_app]
        simp [flt]
      rw [bP (by omega), e, oS (ix_nat (getq (by omega))), cFits (by rw [List.length_take, List.length_drop, (l[a.toNat + i]'(by omega)).h]; omega), wi_succ (by omega), e2]
      exact sReadL a k l m hk hn nf (i + 1) (by omega) (by omega)
    · rw [bN (by omega), show i = k by omega]
theorem sRead (s : sectors_Store) (hn : s.l.length ≤ 4096) (a : UInt64) (k : Nat) (h : a.toNat + k ≤ s.l.length) : sectors_Store_Read s a (k : Int) = some (((flt s.l).drop (512 * a.toNat)).take (512 * k), 0, s) := by
  unfold sectors_Store_Read
  rw [bN (by omega), oS (sHas s hn _ _), u64nK (by omega), decide_eq_true h, notT, brF]
  have := sReadL a k s.l s.fresh h hn fuel 0 (Nat.zero_le _) (by rw [fuelS]; omega)
  rw [Nat.mul_zero, List.take_zero] at this
  exact this
theorem sImage (s : sectors_Store) (hn : s.l.length ≤ 4096) : sectors_Store_Image s = some (flt s.l, s) := by
  unfold sectors_Store_Image sectors_Store_Count
  rw [obS, len_nat, oS (sRead s hn 0 s.l.length (by show 0 + _ ≤ _; omega))]
  dsimp only
  rw [show (0 : UInt64).toNat = 0 from rfl, Nat.mul_zero, List.drop_zero, ← flt_len, List.take_length]
theorem sPut (l : List Sec) (m : List (Int × Sec)) (i : Nat) (a : Sec) (h : i < l.length) : ∃ m', sectors_Store_put ⟨l, m⟩ (i : Int) a = some ⟨l.set i a, m'⟩ := by
  unfold sectors_Store_put
  have hj : ∀ m1, sectors_Store_putJ1 (i : Int) l m1 a = some ⟨l.set i a, m1⟩ := fun m1 => by
    unfold sectors_Store_putJ1
    rw [oS (ix_nat (getq h)), Int.toNat_natCast]
  dsimp only
  cases hq : mhas (i : Int) m with
  | true => rw [notT, brF]; exact ⟨m, hj m⟩
  | false => rw [notF, brT, oS (ix_nat (getq h))]; exact ⟨_, hj _⟩
theorem secOf {xs : List UInt8} (h : xs.length = 512) : Sec.of xs = some ⟨xs, h⟩ := by unfold Sec.of; rw [dif_pos h]
theorem sWriteL (a : UInt64) (b : List UInt8) (hb : b.length ≤ 1000000) (hr : b.length % 512 = 0) (l0 : List Sec) (ha : a.toNat + b.length / 512 ≤ l0.length) (hn : l0.length ≤ 4096) : ∀ (nf i : Nat) (l : List Sec) (m : List (Int × Sec)), i ≤ b.length / 512 → b.length / 512 - i < nf → l.length = l0.length → flt l = wrF (flt l0) (512 * a.toNat) (b.take (512 * i)) → ∃ l' m', sectors_Store_WriteL1 a b nf l m (i : Int) = some (0, ⟨l', m'⟩) ∧ l'.length = l0.length ∧ flt l' = wrF (flt l0) (512 * a.toNat) b
  | 0, i, _, _, _, h, _, _ => absurd h (Nat.not_lt_zero _)
  | nf + 1, i, l, m, hi, hf, hl, hw => by
    unfold sectors_Store_WriteL1 sectors_Store_WriteL1B
    rw [quoLK b (by omega)]
    by_cases c : i < b.length / 512
    · have e : wi (i64 a + (i : Int)) = ((a.toNat + i : Nat) : Int) := by rw [i64nK (by omega), wi_in (by omega) (by omega)]; omega
      have hs : (sub b ((512 * i : Nat) : Int) ((512 * (i + 1) : Nat) : Int)) = (b.drop (512 * i)).take 512 := by
        rw [sub_nat, show 512 * (i + 1) - 512 * i = 512 by omega]
      have hL : ((b.drop (512 * i)).take 512).length = 512 := by rw [List.length_take, List.length_drop]; omega
      have hT : ((b.drop (512 * i)).take 512).take 512 = (b.drop (512 * i)).take 512 := List.take_of_length_le (by omega)
      obtain ⟨m', hp⟩ := sPut l m (a.toNat + i) ⟨_, hL⟩ (by omega)
      rw [bP (by omega), wi_succ (by omega), w512 (by omega), w512 (by omega), cDK (by simp only [len]; omega), hs, cT (Nat.ble_eq_true_of_le (by omega)), hT, oS (secOf hL), e, oS hp]
      refine sWriteL a b hb hr l0 ha hn nf (i + 1) _ _ (by omega) (by omega) (by rw [List.length_set]; exact hl) ?_
      have h0 := flt_len l0
      have hk : (b.take (512 * i)).length = 512 * i := by rw [List.length_take]; omega
      dsimp only
      rw [flt_set _ (by omega), hw]
      have := wrF_twoK (x := flt l0) (a := 512 * a.toNat) (xs := b.take (512 * i)) (ys := (b.drop (512 * i)).take 512) (by rw [hk, hL]; omega)
      rw [hk] at this
      rw [show 512 * (a.toNat + i) = 512 * a.toNat + 512 * i by omega, this, show 512 * (i + 1) = 512 * i + 512 by omega, List.take_add]
    · rw [bN (by omega)]
      refine ⟨l, m, rfl, hl, ?_⟩
      rw [hw, List.take_of_length_le (by omega)]
theorem sWrite (s : sectors_Store) (hn : s.l.length ≤ 4096) (a : UInt64) (b : List UInt8) (hb : b.length ≤ 1000000) : (∃ e, e ≠ 0 ∧ sectors_Store_Write s a b = some (e, s)) ∨ (512 * a.toNat + b.length ≤ (flt s.l).length ∧ ∃ l' m', sectors_Store_Write s a b = some (0, ⟨l', m'⟩) ∧ l'.length = s.l.length ∧ flt l' = wrF (flt s.l) (512 * a.toNat) b) := by
  unfold sectors_Store_Write
  rw [remLK, quoLK b (by omega)]
  by_cases h1 : b.length % 512 = 0
  · rw [nE (by omega), oS (sHas s hn _ _), u64nK (by omega)]
    by_cases c : a.toNat + b.length / 512 ≤ s.l.length
    · rw [decide_eq_true c, notT, brF]
      have h0 := flt_len s.l
      exact Or.inr ⟨by omega, sWriteL a b hb h1 s.l c hn fuel 0 s.l s.fresh (Nat.zero_le _) (by rw [fuelS]; omega) rfl (by rw [Nat.mul_zero, List.take_zero, wrF_nil])⟩
    · rw [decide_eq_false c, notF, brT]; exact Or.inl ⟨5, by decide, rfl⟩
  · rw [nF (by omega)]; exact Or.inl ⟨2, by decide, rfl⟩
theorem sZeroL (a k : UInt64) (l0 : List Sec) (ha : a.toNat + k.toNat ≤ l0.length) (hn : l0.length ≤ 4096) : ∀ (nf i : Nat) (l : List Sec) (m : List (Int × Sec)), i ≤ k.toNat → k.toNat - i < nf → l.length = l0.length → flt l = wrF (flt l0) (512 * a.toNat) (List.replicate (512 * i) 0) → ∃ l' m', sectors_Store_ZeroL1 a k nf l m (i : Int) = some (0, ⟨l', m'⟩) ∧ l'.length = l0.length ∧ flt l' = wrF (flt l0) (512 * a.toNat) (List.replicate (512 * k.toNat) 0)
  | 0, i, _, _, _, h, _, _ => absurd h (Nat.not_lt_zero _)
  | nf + 1, i, l, m, hi, hf, hl, hw => by
    unfold sectors_Store_ZeroL1 sectors_Store_ZeroL1B
    rw [i64nK (a := k) (by omega)]
    by_cases c : i < k.toNat
    · have e : wi (i64 a + (i : Int)) = ((a.toNat + i : Nat) : Int) := by rw [i64nK (by omega), wi_in (by omega) (by omega)]; omega
      obtain ⟨m', hp⟩ := sPut l m (a.toNat + i) Sec.z (by omega)
      rw [bP (by omega), wi_succ (by omega), e, oS hp]
      refine sZeroL a k l0 ha hn nf (i + 1) _ _ (by omega) (by omega) (by rw [List.length_set]; exact hl) ?_
      have h0 := flt_len l0
      have hz : Sec.z.l.length = 512 := Sec.z.h
      have hzl : Sec.z.l = List.replicate 512 0 := rfl
      dsimp only
      rw [flt_set _ (by omega), hw]
      have := wrF_twoK (x := flt l0) (a := 512 * a.toNat) (xs := List.replicate (512 * i) 0) (ys := Sec.z.l) (by rw [List.length_replicate, hz]; omega)
      rw [List.length_replicate] at this
      rw [show 512 * (a.toNat + i) = 512 * a.toNat + 512 * i by omega, this, hzl, List.replicate_append_replicate, show 512 * (i + 1) = 512 * i + 512 by omega]
    · rw [bN (by omega)]
      exact ⟨l, m, rfl, hl, by rw [hw, show i = k.toNat by omega]⟩
theorem sZero (s : sectors_Store) (hn : s.l.length ≤ 4096) (a k : UInt64) (h : a.toNat + k.toNat ≤ s.l.length) : ∃ l' m', sectors_Store_Zero s a k = some (0, ⟨l', m'⟩) ∧ l'.length = s.l.length ∧ flt l' = wrF (flt s.l) (512 * a.toNat) (List.replicate (512 * k.toNat) 0) := by
  unfold sectors_Store_Zero
  rw [oS (sHas s hn _ _), decide_eq_true h, notT, brF]
  exact sZeroL a k s.l h hn fuel 0 s.l s.fresh (Nat.zero_le _) (by rw [fuelS]; omega) rfl (by rw [Nat.mul_zero, List.replicate_zero, wrF_nil])
/-! a store of given bytes -/
def okI (b : List UInt8) : Prop := b.length % 512 = 0 ∧ 1 ≤ b.length / 512 ∧ b.length / 512 ≤ 4096
instance (b : List UInt8) : Decidable (okI b) := by unfold okI; infer_instance
theorem sOfL (b : List UInt8) (l0 : List Sec) (st : sectors_Store) (h0 : st.l = l0) (hb : b.length = 512 * l0.length) (hn : l0.length ≤ 4096) : ∀ (nf i : Nat) (l : List Sec) (m : List (Int × Sec)), i ≤ l0.length → l0.length - i < nf → l.length = l0.length → flt l = wrF (flt l0) 0 (b.take (512 * i)) → ∃ l', sectors_OfL1 b st nf l m (i : Int) = some (some ⟨l', m⟩, 0) ∧ l'.length = l0.length ∧ flt l' = b
  | 0, i, _, _, _, h, _, _ => absurd h (Nat.not_lt_zero _)
  | nf + 1, i, l, m, hi, hf, hl, hw => by
    unfold sectors_OfL1 sectors_OfL1B
    rw [h0, len_nat]
    have hf0 := flt_len l0
    by_cases c : i < l0.length
    · have hx : i < l.length := by omega
      have hA : (Sec.put l[i] (b.drop (512 * i))).l = (b.drop (512 * i)).take 512 := by
        show (b.drop (512 * i)).take 512 ++ (l[i]).l.drop (b.drop (512 * i)).length = _
        rw [List.drop_of_length_le (l := (l[i]).l) (by rw [(l[i]).h, List.length_drop]; omega), List.append_nil]
      rw [bP (by omega), oS (ix_nat (getq hx)), w512 (by omega), cDK (by simp only [len]; omega), sub_from, Int.toNat_natCast, Int.toNat_natCast, wi_succ (by omega)]
      refine sOfL b l0 st h0 hb hn nf (i + 1) _ _ (by omega) (by omega) (by rw [List.length_set]; exact hl) ?_
      have hk : (b.take (512 * i)).length = 512 * i := by rw [List.length_take]; omega
      have hL : ((b.drop (512 * i)).take 512).length = 512 := by rw [List.length_take, List.length_drop]; omega
      rw [flt_set _ hx, hw, hA]
      have := wrF_twoK (x := flt l0) (a := 0) (xs := b.take (512 * i)) (ys := (b.drop (512 * i)).take 512) (by rw [hk, hL]; omega)
      rw [hk, Nat.zero_add] at this
      rw [this, show 512 * (i + 1) = 512 * i + 512 by omega, List.take_add]
    · rw [bN (by omega)]
      refine ⟨l, rfl, hl, ?_⟩
      rw [hw, List.take_of_length_le (by omega), wrF_wholeK (by omega)]
theorem sOf (b : List UInt8) (hb : b.length ≤ 1000000) (h : okI b) : ∃ l m, sectors_Of b = some (some ⟨l, m⟩, 0) ∧ l.length = b.length / 512 ∧ flt l = b := by
  obtain ⟨h1, h2, h3⟩ := h
  unfold sectors_Of sectors_New
  have hl : (List.replicate (b.length / 512) Sec.z).length = b.length / 512 := List.length_replicate ..
  rw [remLK, quoLK b (by omega), nE (by omega), bN (by omega), bN (by omega), cDK (by omega), obS, Int.toNat_natCast]
  dsimp only [onO]
  rw [nE rfl]
  obtain ⟨l', e1, e2, e3⟩ := sOfL b (List.replicate (b.length / 512) Sec.z) ⟨List.replicate (b.length / 512) Sec.z, []⟩ rfl (by rw [hl]; omega) (by omega) fuel 0 (List.replicate (b.length / 512) Sec.z) [] (Nat.zero_le _) (by rw [fuelS]; omega) rfl (by rw [Nat.mul_zero, List.take_zero, wrF_nil])
  exact ⟨l', [], e1, by rw [e2, hl], e3⟩
theorem sOf_bad (b : List UInt8) (hb : b.length ≤ 1000000) (h : ¬ okI b) : sectors_Of b = some (none, 2) := by
  unfold sectors_Of sectors_New
  rw [remLK, quoLK b (by omega)]
  by_cases h1 : b.length % 512 = 0
  · rw [nE (by omega)]
    by_cases h2 : b.length / 512 < 1
    · rw [bP (by omega), obS]
      dsimp only [onO]
      rw [cF (by decide)]
    · rw [bN (by omega), bP (by
        have : ¬ b.length / 512 ≤ 4096 := fun q => h ⟨h1, by omega, q⟩
        omega), obS]
      dsimp only [onO]
      rw [cF (by decide)]
  · rw [nF (by omega)]
end Go.Proofs.Ytjfdamiilndgeaa

end

section
namespace Go.Proofs.Ytjfdamiilndgeaa
def numV (b : List UInt8) : UInt64 := (blk_number b).getD 0
theorem numV_eq {b : List UInt8} (hb : b.length ≤ 1000000) : blk_number b = some (numV b) := by
  obtain ⟨v, h⟩ := bnumber_ok b hb
  unfold numV
  rw [h]; rfl
/-- the ranges of k times 16 bytes -/
def trips : Nat → List UInt8 → List (UInt64 × UInt64 × UInt64)
  | 0, _ => []
  | k + 1, m => (numV (m.take 8), numV ((m.drop 8).take 4), numV ((m.drop 12).take 4)) :: trips k (m.drop 16)
/-- zeroes over all of the ranges -/
def zeroAll : List (UInt64 × UInt64 × UInt64) → List UInt8 → List UInt8
  | [], x => x
  | t :: r, x => zeroAll r (wrF x (512 * t.1.toNat) (List.replicate (512 * t.2.1.toNat) 0))
/-- do all ranges lie in the store? -/
def okT (N : Nat) (l : List (UInt64 × UInt64 × UInt64)) : Prop := ∀ t ∈ l, t.1.toNat + t.2.1.toNat ≤ N
theorem okT_cons {N : Nat} {t : UInt64 × UInt64 × UInt64} {l : List (UInt64 × UInt64 × UInt64)} : okT N (t :: l) ↔ t.1.toNat + t.2.1.toNat ≤ N ∧ okT N l := by simp [okT]
theorem eat0 {m : List UInt8} (h : m.length = 0) : blk_work_ranges_1 m = some (0, 0, 0, false, m) := by
  unfold blk_work_ranges_1
  rw [bP (by simp only [len]; omega)]
theorem eat1 {m : List UInt8} (h : 16 ≤ m.length) (hm : m.length ≤ 1000000) : blk_work_ranges_1 m = some (numV (m.take 8), numV ((m.drop 8).take 4), numV ((m.drop 12).take 4), true, m.drop 16) := by
  unfold blk_work_ranges_1
  have e1 : sub m (0 : Int) (8 : Int) = m.take 8 := sub_to m 8
  have e2 : sub m (8 : Int) (12 : Int) = (m.drop 8).take 4 := sub_nat m 8 12
  have e3 : sub m (12 : Int) (16 : Int) = (m.drop 12).take 4 := sub_nat m 12 16
  have e4 : sub m (16 : Int) (len m) = m.drop 16 := sub_from m 16
  rw [bN (by simp only [len]; omega), cDK (by simp only [len]; omega), e1, oS (numV_eq (by rw [List.length_take]; omega)), cDK (by simp only [len]; omega), e2, oS (numV_eq (by rw [List.length_take]; omega)), cDK (by simp only [len]; omega), e3, oS (numV_eq (by rw [List.length_take]; omega)), cDK (by simp only [len]; omega), e4]
theorem rngL3 (N : Nat) (hN : N ≤ 4096) : ∀ (nf k : Nat) (m : List UInt8) (l : List Sec) (mp : List (Int × Sec)) (a n f : UInt64), m.length = 16 * k → k + 1 < nf → k ≤ 10000 → l.length = N → okT N ((a, n, f) :: trips k m) →
    ∃ l' mp', blk_work_rangesL3 nf l mp m a n true = some ([], 0, ⟨l', mp'⟩) ∧ l'.length = N ∧ flt l' = zeroAll ((a, n, f) :: trips k m) (flt l)
  | 0, _, _, _, _, _, _, _, _, h, _, _, _ => absurd h (Nat.not_lt_zero _)
  | nf + 1, k, m, l, mp, a, n, f, hm, hf, hk, hl, ho => by
    unfold blk_work_rangesL3 blk_work_rangesL3B
    obtain ⟨h1, h2⟩ := okT_cons.1 ho
    dsimp only at h1
    obtain ⟨l1, m1, e1, e2, e3⟩ := sZero ⟨l, mp⟩ (by dsimp only; omega) a n (by dsimp only; omega)
    dsimp only at e2 e3
    rw [brT, oS e1]
    cases k with
    | zero =>
      rw [oS (eat0 (by omega))]
      dsimp only
      obtain ⟨nf2, rfl⟩ : ∃ x, nf = x + 1 := ⟨nf - 1, by omega⟩
      unfold blk_work_rangesL3 blk_work_rangesL3B
      rw [brF]
      exact ⟨l1, m1, rfl, by omega, e3⟩
    | succ k =>
      rw [oS (eat1 (by omega) (by omega))]
      dsimp only
      obtain ⟨l', mp', q1, q2, q3⟩ := rngL3 N hN nf k (m.drop 16) l1 m1 (numV (m.take 8)) (numV ((m.drop 8).take 4)) (numV ((m.drop 12).take 4)) (by rw [List.length_drop]; omega) (by omega) (by omega) (by omega) h2
      refine ⟨l', mp', q1, q2, ?_⟩
      rw [q3, e3]; rfl
/-- what the ranges come to -/
def rngOk (N : Nat) (T : List (UInt64 × UInt64 × UInt64)) (l : List Sec) (mp : List (Int × Sec)) (r : Option (List UInt8 × UInt8 × sectors_Store)) : Prop :=
  (∃ st, st ≠ 0 ∧ r = some ([], st, ⟨l, mp⟩)) ∨ (okT N T ∧ ∃ l' mp', r = some ([], 0, ⟨l', mp'⟩) ∧ l'.length = N ∧ flt l' = zeroAll T (flt l))
theorem rngEnd (N : Nat) (hN : N ≤ 4096) (w : blk_work) (fl : UInt64) (K : Nat) (hK : K ≤ 1000) (hd : w.data.length = 16 * (K + 1)) (l : List Sec) (mp : List (Int × Sec)) (hl : l.length = N) (nf : Nat) (m : List UInt8) (odd : Bool) (a n f : UInt64) (ho : okT N (trips (K + 1) w.data)) :
    rngOk N (trips (K + 1) w.data) l mp (blk_work_rangesL2 w fl (nf + 1) l mp m odd a n f false) := by
  unfold blk_work_rangesL2 blk_work_rangesL2B
  rw [brF]
  cases odd with
  | true => rw [brT]; exact Or.inl ⟨2, by decide, rfl⟩
  | false =>
    rw [brF, oS (eat1 (by omega) (by omega))]
    exact Or.inr ⟨ho, rngL3 N hN fuel K (w.data.drop 16) l mp _ _ (numV ((w.data.drop 12).take 4)) (by rw [List.length_drop]; omega) (by rw [fuelS]; omega) (by omega) hl ho⟩
theorem rngL2 (N : Nat) (hN : N ≤ 4096) (w : blk_work) (fl : UInt64) (K : Nat) (hK : K ≤ 1000) (hd : w.data.length = 16 * (K + 1)) (l : List Sec) (mp : List (Int × Sec)) (hl : l.length = N) : ∀ (nf k : Nat) (m : List UInt8) (odd : Bool) (a n f : UInt64), m.length = 16 * k → k + 1 < nf → k ≤ 10000 → (okT N ((a, n, f) :: trips k m) → okT N (trips (K + 1) w.data)) →
    rngOk N (trips (K + 1) w.data) l mp (blk_work_rangesL2 w fl nf l mp m odd a n f true)
  | 0, _, _, _, _, _, _, _, h, _, _ => absurd h (Nat.not_lt_zero _)
  | nf + 1, k, m, odd, a, n, f, hm, hf, hk, ho => by
    unfold blk_work_rangesL2 blk_work_rangesL2B
    rw [brT, oS (sHas ⟨l, mp⟩ (by dsimp only; omega) a n)]
    dsimp only
    rw [hl]
    by_cases c : a.toNat + n.toNat ≤ N
    · rw [decide_eq_true c, notT, brF]
      have go : ∀ od : Bool, rngOk N (trips (K + 1) w.data) l mp (ob (blk_work_ranges_1 m) fun ranges2 => blk_work_rangesL2 w fl nf l mp ranges2.2.2.2.2 od ranges2.1 ranges2.2.1 ranges2.2.2.1 ranges2.2.2.2.1) := by
        intro od
        cases k with
        | zero =>
          rw [oS (eat0 (by omega))]
          dsimp only
          obtain ⟨nf2, rfl⟩ : ∃ x, nf = x + 1 := ⟨nf - 1, by omega⟩
          exact rngEnd N hN w fl K hK hd l mp hl nf2 m od _ _ _ (ho (okT_cons.2 ⟨c, fun t ht => by cases ht⟩))
        | succ k =>
          rw [oS (eat1 (by omega) (by omega))]
          dsimp only
          exact rngL2 N hN w fl K hK hd l mp hl nf k (m.drop 16) od _ _ _ (by rw [List.length_drop]; omega) (by omega) (by omega) (fun q => ho (okT_cons.2 ⟨c, q⟩))
      cases odd with
      | true => rw [brT]; exact go true
      | false => rw [brF]; exact go _
    · rw [decide_eq_false c, notF, brT]; exact Or.inl ⟨1, by decide, rfl⟩
theorem feat_ok (f : UInt64) (b : Int) : ∃ c, feat_Has f b = some c := by
  unfold feat_Has
  by_cases h1 : b ≥ 0
  · rw [bP h1]
    by_cases h2 : b ≤ 63
    · rw [bP h2, cDK h1]; exact ⟨_, rfl⟩
    · rw [bN h2]; exact ⟨_, rfl⟩
  · rw [bN h1]; exact ⟨_, rfl⟩
theorem ranges_okK (w : blk_work) (s : sectors_Store) (hn : s.l.length ≤ 4096) (hd : w.data.length ≤ 100000) (bit : Int) (fl : UInt64) : rngOk s.l.length (trips (w.data.length / 16) w.data) s.l s.fresh (blk_work_ranges w s bit fl) := by
  unfold blk_work_ranges
  have hJ : rngOk s.l.length (trips (w.data.length / 16) w.data) s.l s.fresh (blk_work_rangesJ1 w s fl true) := by
    unfold blk_work_rangesJ1
    rw [brT]; exact Or.inl ⟨1, by decide, rfl⟩
  obtain ⟨c, hc⟩ := feat_ok w.feats bit
  rw [oS hc]
  cases c with
  | false => rw [notF, brT]; exact Or.inl ⟨2, by decide, rfl⟩
  | true =>
    obtain ⟨c2, hc2⟩ := feat_ok w.feats 5
    rw [notT, brF, oS hc2]
    cases c2 with
    | true => rw [brT]; exact hJ
    | false =>
      rw [brF, remL16K]
      by_cases h0 : len w.data = 0
      · rw [bE h0, h0]; exact hJ
      · rw [bF h0]
        by_cases h1 : w.data.length % 16 = 0
        · rw [nE (by omega)]
          by_cases h2 : len w.data > 256
          · rw [decide_eq_true h2]; exact hJ
          · rw [decide_eq_false h2]
            simp only [len] at h0 h2
            obtain ⟨K, hK⟩ : ∃ K, w.data.length = 16 * (K + 1) := ⟨w.data.length / 16 - 1, by omega⟩
            unfold blk_work_rangesJ1
            rw [brF, oS (eat1 (by omega) (by omega)), show w.data.length / 16 = K + 1 by omega]
            exact rngL2 s.l.length hn w fl K (by omega) hK s.l s.fresh rfl fuel K (w.data.drop 16) false _ _ _ (by rw [List.length_drop]; omega) (by rw [fuelS]; omega) (by omega) (fun q => q)
        · have hq : (((w.data.length % 16 : Nat) : Int) != 0) = true := by
            rw [bne_iff_ne]; omega
          rw [nF (by omega), hq]; exact hJ
/-! a request -/
def wkF (t : UInt32) (w : blk_work) (s : sectors_Store) : Option (List UInt8 × UInt8 × sectors_Store) :=
  if t = 0 then blk_work_in w s else if t = 1 then blk_work_out w s else if t = 4 then blk_work_sync w s
  else if t = 8 then (ob (blk_work_id w s) fun x => some (x.1, x.2, s)) else if t = 11 then blk_kind_does_1 w s else if t = 13 then blk_kind_does_2 w s else some ([], 2, s)
/-- what comes of it if it succeeds -/
def didW (t : UInt32) (w : blk_work) (s s' : sectors_Store) (out : List UInt8) : Prop :=
  (t = 0 → flt s'.l = flt s.l ∧ 512 * w.at_.toNat + w.room.toNat ≤ (flt s.l).length ∧ out = ((flt s.l).drop (512 * w.at_.toNat)).take w.room.toNat) ∧
  (t = 1 → out = [] ∧ 512 * w.at_.toNat + w.data.length ≤ (flt s.l).length ∧ flt s'.l = wrF (flt s.l) (512 * w.at_.toNat) w.data) ∧
  (t = 11 ∨ t = 13 → out = [] ∧ okT s.l.length (trips (w.data.length / 16) w.data) ∧ flt s'.l = zeroAll (trips (w.data.length / 16) w.data) (flt s.l)) ∧
  (t ≠ 0 → t ≠ 1 → t ≠ 11 → t ≠ 13 → flt s'.l = flt s.l ∧ (out = [] ∨ (t = 8 ∧ out.length = 20)))
def wkOk (t : UInt32) (w : blk_work) (s : sectors_Store) (r : Option (List UInt8 × UInt8 × sectors_Store)) : Prop :=
  ∃ out st s', r = some (out, st, s') ∧ s'.l.length = s.l.length ∧ out.length ≤ w.room.toNat ∧ (st ≠ 0 → out = [] ∧ flt s'.l = flt s.l) ∧ (st = 0 → didW t w s s' out)
theorem wk_bad {t : UInt32} {w : blk_work} {s : sectors_Store} {st : UInt8} (h : st ≠ 0) : wkOk t w s (some ([], st, s)) := ⟨[], st, s, rfl, rfl, Nat.zero_le _, fun _ => ⟨rfl, rfl⟩, fun q => absurd q h⟩
theorem wk_rng {r : Option (List UInt8 × UInt8 × sectors_Store)} {t : UInt32} {w : blk_work} {s : sectors_Store} (ht : t = 11 ∨ t = 13) (h : rngOk s.l.length (trips (w.data.length / 16) w.data) s.l s.fresh r) : wkOk t w s (ob r fun x => some (x.1, x.2.1, x.2.2)) := by
  rcases h with ⟨st, h1, h2⟩ | ⟨h1, l', mp', h2, h3, h4⟩
  · rw [oS h2]; exact wk_bad (s := s) h1
  · rw [oS h2]
    refine ⟨[], 0, ⟨l', mp'⟩, rfl, h3, Nat.zero_le _, fun q => absurd rfl q, fun _ => ⟨?_, ?_, fun _ => ⟨rfl, h1, h4⟩, ?_⟩⟩
    · intro q; rcases ht with p | p <;> (rw [p] at q; exact absurd q (by decide))
    · intro q; rcases ht with p | p <;> (rw [p] at q; exact absurd q (by decide))
    · intro _ _ q1 q2; rcases ht with p | p
      · exact absurd p q1
      · exact absurd p q2
theorem wk_ok (t : UInt32) (w : blk_work) (s : sectors_Store) (hn : s.l.length ≤ 4096) (hr : w.room.toNat ≤ 100000) (hd : w.data.length ≤ 100000) (hnm : w.name.length ≤ 20) : wkOk t w s (wkF t w s) := by
  unfold wkF
  have hfl := flt_len s.l
  by_cases t0 : t = 0
  · rw [if_pos t0]
    unfold blk_work_in
    by_cases h1 : w.room % 512 = 0
    · have h1' : w.room.toNat % 512 = 0 := by
        have := congrArg UInt64.toNat h1
        rw [UInt64.toNat_mod] at this; exact this
      have h2 : (w.room / 512).toNat = w.room.toNat / 512 := by rw [UInt64.toNat_div]; rfl
      rw [nE h1, oS (sHas s hn _ _), h2]
      by_cases c : w.at_.toNat + w.room.toNat / 512 ≤ s.l.length
      · rw [decide_eq_true c, notT, brF, i64nK (by rw [h2]; omega), h2, oS (sRead s hn w.at_ (w.room.toNat / 512) c)]
        dsimp only
        rw [show 512 * (w.room.toNat / 512) = w.room.toNat by omega]
        refine ⟨_, 0, s, rfl, rfl, ?_, fun q => absurd rfl q, fun _ => ⟨fun _ => ⟨rfl, by omega, rfl⟩, fun q => absurd (t0.symm.trans q) (by decide), fun q => ?_, fun q => absurd t0 q⟩⟩
        · rw [List.length_take]; omega
        · rcases q with q | q <;> exact absurd (t0.symm.trans q) (by decide)
      · rw [decide_eq_false c, notF, brT]; exact wk_bad (by decide)
    · rw [nF h1]; exact wk_bad (by decide)
  rw [if_neg t0]
  by_cases t1 : t = 1
  · rw [if_pos t1]
    unfold blk_work_out
    obtain ⟨c, hc⟩ := feat_ok w.feats 5
    rw [oS hc]
    cases c with
    | true => rw [brT]; exact wk_bad (by decide)
    | false =>
      rw [brF]
      rcases sWrite s hn w.at_ w.data (by omega) with ⟨e, e1, e2⟩ | ⟨e1, l', m', e2, e3, e4⟩
      · rw [oS e2, nF e1]; exact wk_bad (by decide)
      · rw [oS e2, nE rfl]
        refine ⟨[], 0, ⟨l', m'⟩, rfl, e3, Nat.zero_le _, fun q => absurd rfl q, fun _ => ⟨fun q => absurd q t0, fun _ => ⟨rfl, e1, e4⟩, fun q => ?_, fun _ q => absurd t1 q⟩⟩
        rcases q with q | q <;> exact absurd (t1.symm.trans q) (by decide)
  rw [if_neg t1]
  by_cases t4 : t = 4
  · rw [if_pos t4]
    unfold blk_work_sync sectors_Store_Flush
    obtain ⟨c, hc⟩ := feat_ok w.feats 9
    rw [oS hc]
    cases c with
    | false => rw [notF, brT]; exact wk_bad (by decide)
    | true =>
      rw [notT, brF, obS]
      refine ⟨[], 0, _, rfl, rfl, Nat.zero_le _, fun q => absurd rfl q, fun _ => ⟨fun q => absurd q t0, fun q => absurd q t1, fun q => ?_, fun _ _ _ _ => ⟨rfl, Or.inl rfl⟩⟩⟩
      rcases q with q | q <;> exact absurd (t4.symm.trans q) (by decide)
  rw [if_neg t4]
  by_cases t8 : t = 8
  · rw [if_pos t8]
    unfold blk_work_id
    by_cases h2 : w.room < 20
    · rw [bP h2, obS]; exact wk_bad (by decide)
    · rw [bN h2, cDK (by decide), obS]
      have e : (copyStr (List.replicate (20 : Int).toNat (0 : UInt8)) w.name).length = 20 := by
        unfold copyStr
        rw [List.length_append, List.length_take, List.length_drop, List.length_replicate, show (20 : Int).toNat = 20 from rfl]; omega
      rw [UInt64.lt_iff_toNat_lt] at h2
      refine ⟨_, 0, s, rfl, rfl, by rw [e]; exact Nat.le_of_not_lt h2, fun q => absurd rfl q, fun _ => ⟨fun q => absurd q t0, fun q => absurd q t1, fun q => ?_, fun _ _ _ _ => ⟨rfl, Or.inr ⟨t8, e⟩⟩⟩⟩
      rcases q with q | q <;> exact absurd (t8.symm.trans q) (by decide)
  rw [if_neg t8]
  by_cases t11 : t = 11
  · rw [if_pos t11]; exact wk_rng (Or.inl t11) (ranges_okK w s hn hd 13 0)
  rw [if_neg t11]
  by_cases t13 : t = 13
  · rw [if_pos t13]; exact wk_rng (Or.inr t13) (ranges_okK w s hn hd 14 1)
  rw [if_neg t13]; exact wk_bad (by decide)
theorem apply_eqK (s : sectors_Store) (f : UInt64) (nm : List UInt8) (r : Req) (hd : r.Data.length ≤ 1000000) (h : okQ r) : blk_Apply s f nm r = ob (wkF r.Type_ ⟨f, nm, (reqB r).drop 16, r.Sector, u64 r.Room⟩ s) fun x => some (x.1, x.2.1, 0, x.2.2) := by
  unfold blk_Apply
  have hlen := reqB_len r
  rw [oS (blkBytes_eq r hd), if_pos h, nE rfl]
  dsimp only
  have e16 : sub (reqB r) (16 : Int) (len (reqB r)) = (reqB r).drop 16 := sub_from _ 16
  have hc : decide (0 ≤ (16 : Int) ∧ (16 : Int) ≤ len (reqB r) ∧ len (reqB r) ≤ len (reqB r)) = true := decide_eq_true (by simp only [len]; omega)
  unfold blk_kind_does wkF
  rw [e16, hc]
  by_cases t0 : r.Type_ = 0
  · rw [bE t0, if_pos t0, obS, chkT, bE rfl]
  rw [bF t0, if_neg t0]
  by_cases t1 : r.Type_ = 1
  · rw [bE t1, if_pos t1, obS, chkT, bF (by decide), bE rfl]
  rw [bF t1, if_neg t1]
  by_cases t4 : r.Type_ = 4
  · rw [bE t4, if_pos t4, obS, chkT, bF (by decide), bF (by decide), bE rfl]
  rw [bF t4, if_neg t4]
  by_cases t8 : r.Type_ = 8
  · rw [bE t8, if_pos t8, obS, chkT, bF (by decide), bF (by decide), bF (by decide), bE rfl]
    cases blk_work_id ⟨f, nm, (reqB r).drop 16, r.Sector, u64 r.Room⟩ s <;> rfl
  rw [bF t8, if_neg t8]
  by_cases t11 : r.Type_ = 11
  · rw [bE t11, if_pos t11, obS, chkT, bF (by decide), bF (by decide), bF (by decide), bF (by decide), bE rfl]
  rw [bF t11, if_neg t11]
  by_cases t13 : r.Type_ = 13
  · rw [bE t13, if_pos t13, obS, chkT, bF (by decide), bF (by decide), bF (by decide), bF (by decide), bF (by decide), bE rfl]
  rw [bF t13, if_neg t13, obS, chkT, bF (by decide), bF (by decide), bF (by decide), bF (by decide), bF (by decide), bF (by decide), cE rfl]
  rfl
theorem apply_badK (s : sectors_Store) (f : UInt64) (nm : List UInt8) (r : Req) (hd : r.Data.length ≤ 1000000) (h : ¬ okQ r) : blk_Apply s f nm r = some ([], 0, 2, s) := by
  unfold blk_Apply
  rw [oS (blkBytes_eq r hd), if_neg h, nF (by decide)]
end Go.Proofs.Ytjfdamiilndgeaa

end

section
namespace Go.Proofs.Ytjfdamiilndgeaa
theorem numV8 (v : UInt64) : numV (wB v 8) = v := by unfold numV; rw [bnumber8]; rfl
theorem numV4 (v : UInt32) : numV (wB v.toUInt64 4) = v.toUInt64 := by unfold numV; rw [bnumber4]; rfl
def tripR (r : Range) : UInt64 × UInt64 × UInt64 := (r.Sector, r.Count.toUInt64, r.Flags.toUInt64)
theorem trips_ranges : ∀ rs : List Range, trips rs.length (rangesB rs) = rs.map tripR
  | [] => rfl
  | r :: rs => by
    have e : rangesB (r :: rs) = rangeB r ++ rangesB rs := by simp [rangesB]
    have ih := trips_ranges rs
    have e4 : (rangesB (r :: rs)).drop 16 = rangesB rs := by rw [e, List.drop_left' (rangeB_len r)]
    have e1 : (rangesB (r :: rs)).take 8 = wB r.Sector 8 := by
      rw [e]; unfold rangeB
      rw [List.append_assoc, List.append_assoc, List.take_left' (wB_len _ 8)]
    have e2 : ((rangesB (r :: rs)).drop 8).take 4 = wB r.Count.toUInt64 4 := by
      rw [e]; unfold rangeB
      rw [List.append_assoc, List.append_assoc, List.drop_left' (wB_len _ 8), List.take_left' (wB_len _ 4)]
    have e3 : ((rangesB (r :: rs)).drop 12).take 4 = wB r.Flags.toUInt64 4 := by
      rw [e]; unfold rangeB
      rw [List.append_assoc, List.drop_left' (by rw [List.length_append, wB_len, wB_len]), List.take_left' (wB_len _ 4)]
    show (numV ((rangesB (r :: rs)).take 8), numV (((rangesB (r :: rs)).drop 8).take 4), numV (((rangesB (r :: rs)).drop 12).take 4)) :: trips rs.length ((rangesB (r :: rs)).drop 16) = _
    rw [e1, e2, e3, e4, numV8, numV4, numV4, ih]; rfl
theorem bfL3 (i : Nat) (L2 : UInt32 → UInt64 → List UInt8 → Int → List Range → List UInt8 → List UInt8 → List UInt8 → Int → Option Bool) (r1 : Range) (T : UInt32) (S : UInt64) (D : List UInt8) (R : Int) (Rs : List Range) (hr : Rs[i]? = some r1) (l4 l5 x : List UInt8) (hb : 512 * r1.Sector.toNat + 512 * r1.Count.toNat ≤ x.length) (hx : x.length ≤ 100000) : ∀ (nf k : Nat), k ≤ 512 * r1.Count.toNat → 512 * r1.Count.toNat - k < nf →
    law21zBlkFailsL3 (i : Int) L2 r1 nf T S D R Rs l4 l5 (wrF x (512 * r1.Sector.toNat) (List.replicate k 0)) (k : Int) = L2 T S D R Rs l4 l5 (wrF x (512 * r1.Sector.toNat) (List.replicate (512 * r1.Count.toNat) 0)) (wi ((i : Int) + 1))
  | 0, k, _, h => absurd h (Nat.not_lt_zero _)
  | nf + 1, k, hk, hf => by
    unfold law21zBlkFailsL3 law21zBlkFailsL3B
    have e1 : wi ((i32 r1.Count) * (512 : Int)) = ((512 * r1.Count.toNat : Nat) : Int) := w512 (by omega)
    rw [oS (ix_nat hr), e1]
    by_cases c : k < 512 * r1.Count.toNat
    · have e2 : wi ((i64 r1.Sector) * (512 : Int)) = ((512 * r1.Sector.toNat : Nat) : Int) := by rw [i64nK (by omega)]; exact w512 (by omega)
      have e3 : wi (((512 * r1.Sector.toNat : Nat) : Int) + (k : Int)) = ((512 * r1.Sector.toNat + k : Nat) : Int) := by rw [wi_in (by omega) (by omega)]; omega
      have hL : (wrF x (512 * r1.Sector.toNat) (List.replicate k 0)).length = x.length := wrF_len (by rw [List.length_replicate]; omega)
      have hs := wrF_snoc (x := x) (xs := List.replicate k 0) (a := 512 * r1.Sector.toNat) (c := 0) (by rw [List.length_replicate]; omega)
      rw [List.length_replicate, ← List.replicate_succ'] at hs
      rw [bP (by omega), e2, e3, oS (ix_nat (getq (by omega))), Int.toNat_natCast, wi_succ (by omega), ← hs]
      exact bfL3 i L2 r1 T S D R Rs hr l4 l5 x hb hx nf (k + 1) (by omega) (by omega)
    · rw [bN (by omega), show k = 512 * r1.Count.toNat by omega]
theorem bfL2 (T : UInt32) (S : UInt64) (D : List UInt8) (R : Int) (Rs : List Range) (hRs : Rs.length ≤ 1000) (h0 : Rs ≠ []) (N : Nat) (hN : N ≤ 100) (l2 : List UInt8) : ∀ (nf i : Nat) (y : List UInt8), i ≤ Rs.length → Rs.length - i < nf → y.length = 512 * N → okT N ((Rs.drop i).map tripR) → l2 = zeroAll ((Rs.drop i).map tripR) y →
    law21zBlkFailsL2 nf T S D R Rs [] l2 y (i : Int) = some true
  | 0, i, _, _, h, _, _, _ => absurd h (Nat.not_lt_zero _)
  | nf + 1, i, y, hi, hf, hy, ho, hz => by
    unfold law21zBlkFailsL2 law21zBlkFailsL2B
    by_cases c : i < Rs.length
    · rw [drop_ix c, List.map_cons] at ho hz
      obtain ⟨h1, h2⟩ := okT_cons.1 ho
      have hc : (Rs[i].Count.toUInt64).toNat = Rs[i].Count.toNat := by simp
      have h1' : Rs[i].Sector.toNat + Rs[i].Count.toNat ≤ N := by rw [← hc]; exact h1
      have hb : 512 * Rs[i].Sector.toNat + 512 * Rs[i].Count.toNat ≤ y.length := by omega
      have h3 := bfL3 i (law21zBlkFailsL2 nf) Rs[i] T S D R Rs (getq c) [] l2 y hb (by omega) fuel 0 (Nat.zero_le _) (by rw [fuelS]; omega)
      rw [List.replicate_zero, wrF_nil] at h3
      rw [bP (by simp only [len]; omega), oS (ix_nat (getq c))]
      refine Eq.trans h3 ?_
      rw [wi_succ (by omega)]
      refine bfL2 T S D R Rs hRs h0 N hN l2 nf (i + 1) _ (by omega) (by omega) (by rw [wrF_len (by rw [List.length_replicate]; omega)]; exact hy) h2 ?_
      rw [hz]
      show zeroAll _ (wrF y (512 * Rs[i].Sector.toNat) (List.replicate (512 * (Rs[i].Count.toUInt64).toNat) 0)) = _
      rw [hc]
    · have hne : len Rs ≠ 0 := fun q => h0 (List.eq_nil_of_length_eq_zero (by simp only [len] at q; omega))
      rw [List.drop_of_length_le (by omega)] at hz
      rw [bN (by simp only [len]; omega), bF hne, cE (show l2 = y from hz), bE (show len ([] : List UInt8) = 0 from rfl)]
theorem bf_none (T : UInt32) (S : UInt64) (D : List UInt8) (R : Int) (l2 y : List UInt8) : law21zBlkFailsL2 fuel T S D R [] [] l2 y 0 = some true := by
  rw [fuelS]
  unfold law21zBlkFailsL2 law21zBlkFailsL2B
  rw [bN (by decide), bE (show len ([] : List Range) = 0 from rfl), cE rfl, bE (show len ([] : List UInt8) = 0 from rfl)]
theorem kreq_eqK (r : Req) (h1 : r.Data.length ≤ 1000000) (h2 : r.Ranges.length ≤ 1000) : kit_Req r = some r := by
  unfold kit_Req
  rw [oS (own_eq r.Data (by omega)), cFits (by simp; omega)]
theorem copyAt_wr {x xs : List UInt8} {a : Nat} (h : a + xs.length ≤ x.length) : copyAt x (a : Int) (len x) xs = wrF x a xs := by
  unfold copyAt wrF
  rw [len_nat, Int.toNat_natCast, Int.toNat_natCast, List.take_of_length_le (l := xs) (by omega), Nat.min_eq_left (by omega)]
theorem data_noR {r : Req} (h : r.Ranges = []) : (reqB r).drop 16 = r.Data := by
  unfold reqB
  rw [h, List.append_assoc, List.drop_left' (headB_len r)]; simp [rangesB]
theorem data_R {r : Req} (h : r.Data = []) : (reqB r).drop 16 = rangesB r.Ranges := by
  unfold reqB
  rw [h, List.append_assoc, List.drop_left' (headB_len r)]; simp
theorem t_law21zBlkFails (rp0 : Req) (image : List UInt8) (feats : UInt64) : law21zBlkFails rp0 image feats = some true := by
  unfold law21zBlkFails
  rw [oS lives21, notT, notF, chkT]
  obtain ⟨b, hb, hlt⟩ := light_eqK rp0
  rw [oS hb]
  cases b with
  | false => rw [notF, brT]
  | true =>
    obtain ⟨h1, h2, h3⟩ := hlt rfl
    rw [notT, brF]
    by_cases hi : len image > 6000
    · rw [bP hi]
    rw [bN hi]
    simp only [len] at hi
    rw [oS (own_eq image (by omega))]
    by_cases hI : okI image
    · obtain ⟨l, m, e1, e2, e3⟩ := sOf image (by omega) hI
      have hN : l.length ≤ 11 := by omega
      have hfl := flt_len l
      rw [e3] at hfl
      rw [oS e1]
      dsimp only [onO]
      rw [nE rfl, oS (kreq_eqK rp0 (by omega) (by omega))]
      by_cases hq : okQ rp0
      · have hlen := reqB_len rp0
        have hR0 := hq.2.2
        have hR16 := hq.1
        have hroom : (u64 rp0.Room).toNat = rp0.Room.toNat := by
          have := u64nK (n := rp0.Room.toNat) (by omega)
          rw [show ((rp0.Room.toNat : Nat) : Int) = rp0.Room by omega] at this; exact this
        obtain ⟨out, st, s', q1, q2, q3, q4, q5⟩ := wk_ok rp0.Type_ ⟨feats, [98, 111, 120], (reqB rp0).drop 16, rp0.Sector, u64 rp0.Room⟩ ⟨l, m⟩ (by dsimp only; omega) (by dsimp only; omega) (by dsimp only; rw [List.length_drop]; omega) (by dsimp only; decide)
        dsimp only at q2 q3 q4
        have happ : blk_Apply ⟨l, m⟩ feats [98, 111, 120] rp0 = some (out, st, 0, s') := by rw [apply_eqK ⟨l, m⟩ feats [98, 111, 120] rp0 (by omega) hq, q1, obS]
        rw [oS happ]
        dsimp only
        rw [oS (sImage s' (by omega)), nE rfl]
        by_cases hst : st = 0
        · rw [nE hst, oS (own_eq image (by omega))]
          obtain ⟨d0, d1, d2, d3⟩ := q5 hst
          dsimp only at d0 d1 d2 d3
          rw [e3, hroom] at d0
          rw [e3] at d1 d2 d3
          by_cases t0 : rp0.Type_ = 0
          · obtain ⟨a1, a2, a3⟩ := d0 t0
            have w1 : wi ((i64 rp0.Sector) * (512 : Int)) = ((512 * rp0.Sector.toNat : Nat) : Int) := by rw [i64nK (by omega)]; exact w512 (by omega)
            have w2 : wi (((512 * rp0.Sector.toNat : Nat) : Int) + rp0.Room) = ((512 * rp0.Sector.toNat + rp0.Room.toNat : Nat) : Int) := by rw [wi_in (by omega) (by omega)]; omega
            rw [bE t0, cE a1, w1, w2, cDK (by simp only [len]; omega), sub_nat, show 512 * rp0.Sector.toNat + rp0.Room.toNat - 512 * rp0.Sector.toNat = rp0.Room.toNat by omega, cE a3]
          rw [bF t0]
          by_cases t1 : rp0.Type_ = 1
          · have hn : rp0.Ranges = [] := by
              rcases hq.2.1 with p | p
              · exact p
              · rcases p.1 with p | p <;> exact absurd (t1.symm.trans p) (by decide)
            obtain ⟨a1, a2, a3⟩ := d1 t1
            rw [data_noR hn] at a2 a3
            rw [bE t1]
            by_cases hd : len rp0.Data > 0
            · have hd' : rp0.Data.length > 0 := by simp only [len] at hd; omega
              have w1 : wi ((i64 rp0.Sector) * (512 : Int)) = ((512 * rp0.Sector.toNat : Nat) : Int) := by rw [i64nK (by omega)]; exact w512 (by omega)
              rw [bP hd, w1, cDK (by simp only [len]; omega), copyAt_wr a2, cE a3, a1, bE (show len ([] : List UInt8) = 0 from rfl)]
            · have hd0 : rp0.Data = [] := List.eq_nil_of_length_eq_zero (by simp only [len] at hd; omega)
              rw [hd0, wrF_nil] at a3
              rw [bN hd, cE a3, a1, bE (show len ([] : List UInt8) = 0 from rfl)]
          rw [bF t1]
          have hGo : rp0.Type_ = 11 ∨ rp0.Type_ = 13 → law21zBlkFailsL2 fuel rp0.Type_ rp0.Sector rp0.Data rp0.Room rp0.Ranges out (flt s'.l) image 0 = some true := by
            intro t
            obtain ⟨a1, a2, a3⟩ := d2 t
            rw [a1]
            by_cases hn : rp0.Ranges = []
            · rw [hn]; exact bf_none _ _ _ _ _ _
            · have hdn : rp0.Data = [] := (hq.2.1.resolve_left hn).2
              have hk : (rangesB rp0.Ranges).length / 16 = rp0.Ranges.length := by rw [rangesB_len]; omega
              rw [data_R hdn, hk, trips_ranges] at a2 a3
              exact bfL2 _ _ _ _ rp0.Ranges (by omega) hn l.length (by omega) (flt s'.l) fuel 0 image (Nat.zero_le _) (by rw [fuelS]; omega) hfl (by rw [List.drop_zero]; exact a2) (by rw [List.drop_zero]; exact a3)
          unfold law21zBlkFailsJ1
          dsimp only
          by_cases t11 : rp0.Type_ = 11
          · rw [bE t11, show (rp0.Type_ == 11) = true by rw [t11]; rfl, brT]
            exact hGo (Or.inl t11)
          · rw [bF t11]
            by_cases t13 : rp0.Type_ = 13
            · rw [show (rp0.Type_ == 13) = true by rw [t13]; rfl, brT]
              exact hGo (Or.inr t13)
            · obtain ⟨a1, a2⟩ := d3 t0 t1 t11 t13
              rw [show (rp0.Type_ == 13) = false from beq_false_of_ne t13, brF, cE a1]
              rcases a2 with a2 | ⟨a2, a3⟩
              · rw [a2, bE (show len ([] : List UInt8) = 0 from rfl)]
              · rw [bF (by simp only [len]; omega), cE a2, cE (by simp only [len]; omega)]
        · obtain ⟨r1, r2⟩ := q4 hst
          rw [nF hst, r1, cE (show len ([] : List UInt8) = 0 from rfl), cE (r2.trans e3)]
      · rw [oS (apply_badK ⟨l, m⟩ feats [98, 111, 120] rp0 (by omega) hq)]
        dsimp only
        rw [oS (sImage ⟨l, m⟩ (by dsimp only; omega)), nF (by decide), cE (show len ([] : List UInt8) = 0 from rfl), cE e3]
    · rw [oS (sOf_bad image (by omega) hI)]
      dsimp only [onO]
      rw [cF (by decide)]
end Go.Proofs.Ytjfdamiilndgeaa

end
